import PyProof.Rows.All
import Wide.All
import OpenK.AllK
import Wide.FinOn
import PyProof.P3Statements
import PyProof.ExcArgsOwn
import PyProof.ExcAttrAll.ValueError
import PyProof.IsiBase
import PyProof.IsInstance
import PyProof.P3Eq
import PyProof.CompFree
import PyProof.Cells
import PyProof.Rows.PlainNoArg
import PyProof.Rows.AttrNode
import OpenK.KRaise
import PyProof.ForAny
import PyProof.Rows.CatchBare
import PyProof.RulesAs
import KE.KItem
import PyProof.Dict
import PyProof.Rows.Top
import KE.IntBitsLaws
import PyProof.Rows.SortRuns
import PyProof.Rows.SortShell
import PyProof.Rows.SortShellK
import KE.KSortTup
import PySem.Challenge.RW_uf060001_11
set_option tactic.hygienic false
noncomputable section
set_option linter.all false
set_option maxRecDepth 20000
set_option genInjectivity false
set_option genCtorIdx false
set_option bootstrap.genMatcherCode false
set_option genSizeOf false
set_option genSizeOfSpec false
open Option renaming some→B0,map_eq_some_iff→Bi,bind_eq_some_iff→C4,bind_some→Cf,none→Dk,map_some→Dx,isNone_iff_eq_none→Gh
open List renaming getElem?_eq_some_iff→Ba,mem_cons_of_mem→Bb,mem_cons→Be,mem_cons_self→Bf,length_map→Bg,getElem?_append_right→Bh,getElem?_eq_getElem→Bl,mem_append→Bm,append_assoc→Bn,mem_singleton→Bo,length_append→Bq,getElem?_append_left→Br,prefix_refl→Bt,mem_of_getElem?→Bw,map_cons→Bz,mem_map→C0,length_cons→C5,range→C6,mem_append_left→C7,prefix_append→C8,mem_append_right→Ce,drop_eq_getElem_cons→Ci,getElem?_set_self→Cm,append_nil→Cn,getElem_of_mem→Co,all_eq_true→Cq,mem_filter→Cr,map_append→Cs,getElem_map→Cv,map_map→Cx,map_congr_left→Cz,mergeSort_perm→D0,getElem_mem→D4,pairwise_cons→D5,filterMap_eq_map'→De,not_mem_nil→Dg,extract_eq_drop_take→Di,getElem?_set_ne→Dl,mapM_cons→Dn,isEmpty_iff→Do,length_take→Dp,pairwise_mergeSort→Dq,mem_range→Dr,filter_eq_nil_iff→Du,drop_of_length_le→Dv,length_nil→Dy,countP_eq_length_filter→Dz,set_getElem_self→G2,nodup_append→G3,length_range→G4,getD_eq_getElem?_getD→G8,lookup_cons→Gb,take_length→Ge,Perm→Gf,set_set→Gg,pairwise_iff_getElem→Gi,filterMap_cons→Gk,Pairwise→Gn,nodup_cons→Go,of_mem_zip→Gq,mem_filterMap→Gr,getElem?_replicate→Gs,take_of_length_le→Gv,map_nil→Gx,take_append_drop→Gz,length_filter_le→I0,countP_mono_left→I1,drop→I3,drop_eq_nil_iff→I6,length→I7,pairwise_append→I9,countP_map→Ii,contains_cons→Im,zip_cons_cons→Io,drop_zero→Iq,mem_of_find?_eq_some→Iv,ne_nil_of_length_pos→Iw,getElem_append_right→Ix,size_toArray→Iz,getElem?_inj→K0,lookup→K1,getElem?_take_of_lt→K5,drop_nil→K6,filterMap_cons_none→K7,filterMap_cons_some→K8,sum_cons→K9,filter_cons_of_pos→Ke,filter_cons_of_neg→Kf,countP_cons_of_neg→Kg,sum_nil→Km,forIn_cons→Kq,dropLast_eq_take→Kt,perm_append_comm→Ku,length_singleton→Kv,filterMap_append→Kw,length_mergeSort→Ky,replicate→L0,take_left→L1,range_eq_range'→L3,mem_of_mem_take→L4,countP_eq_zero→L8,zip_nil_right→L9,mergeSort_nil→La,take_add_one→Lj,pairwise_map→Lk,getElem?_map→Ll,getElem?_set→Lm,cons→Lo,mem_zipIdx'→Lq,any_eq_true→Lr,length_drop→Lv,range'_succ→Lx,range'→Lz,nil_append→M4,length_set→M5,find?_some→M6,range_succ→M8,foldl_cons→M9,nodup_nil→Me,mapM_nil→Mj,map_take→Mk,map_set→Mo
open Nat renaming le_trans→Bc,le_refl→Bp,lt_trans→Bv,lt_of_le_of_lt→Bx,le_of_ble_eq_true→By,le_of_lt→C1,lt_of_lt_of_le→C2,zero_le→C9,ne_of_lt→Ca,le_add_right→Cc,lt_succ_self→Cu,le_succ_of_le→Cy,min_le_left→D1,add_sub_cancel_left→D8,not_lt_zero→Da,lt_or_ge→Dc,succ_le_succ→Df,beq→Dj,zero_add→Dw,add_lt_of_lt_sub'→G1,add_le_add_right→G9,ne_of_gt→Gc,le_of_not_lt→Gd,add_le_add_left→Gj,lt_irrefl→Gm,le_antisymm→Gp,lt_succ_of_lt→Gw,le_add_right_of_le→Gy,min_eq_right→I2,sub_le_sub_right→I5,le_sub_one_of_lt→I8,le_add_left→Ih,not_lt→Il,lt_of_le_of_ne→Ip,eq_zero_or_pos→Ir,lt_of_succ_lt→Iy,le_succ→K2,add_assoc→K3,lt_succ_iff_lt_or_eq→Ka,max_eq_right→Kb,le_max_right→Kc,le_total→Kh,ble→Kk,sub_self→Kl,min_eq_left→Kn,sub_eq_zero_of_le→Ks,pow_le_pow_right→L2,sub_le_sub_left→L5,add_lt_add_left→L7,eq_or_lt_of_le→Lb,le_of_succ_le→Ld,sub_zero→Lg,le_of_lt_succ→Lh,min_le_right→Ln,sub_sub→Ly,max_eq_left→M0,zero_lt_one→M7,sub_le→Mf,add_zero→Mm,succ_pos→Mn,log2_lt→Mq
open Bool renaming and_eq_true→Bs,false_eq_true→Bu,and_eq_true_iff→Cg,not_eq_true'→D7,not_true→Dm,not_false→G6,eq_iff_iff→Ko,or_eq_true→Kr,not_eq_true→Lu,noConfusion→Lw,and_true→Mi
open Array renaming toList_append→C3,length_toList→Db,perm_iff_toList_perm→G5,toList_extract→G7,eraseIdxIfInBounds→K4,toList_push→Li,Perm→Mg
open Int renaming le_refl→Cb,le_trans→Cp,add_zero→Cw,le_of_lt→D6,le_antisymm→D9,not_lt→Dh,natCast_nonneg→Ds,lt_of_lt_of_le→Dt,le_of_eq→Ga,add_le_add_left→Gl,zero_add→Gu,lt_irrefl→I4,toNat_of_nonneg→Ij,fdiv_eq_ediv_of_nonneg→Iu,max_eq_right→Kd,ofNat_lt→Ki,mul_zero→Kj,mul_add→Kz,toNat_of_nonpos→L6,le_total→Lc,zero_mul→Le,ofNat_le→Lf,min_eq_left→M1,max_eq_left→M2,natCast_mul→M3,natCast_pos→Ma,add_nonneg→Mb,mul_nonneg→Mc,mul_le_mul→Md,mul_assoc→Mh,mul_comm→Ml,add_mul→Mp
open Classical renaming byContradiction→D3
open Prod renaming mk→Ik
open Option renaming some→S5,none→N0
open Bool renaming true→T1,false→F0
open PySem.Str renaming ofString→j4
open PySem renaming Value→aa,Shared→ae,wpAny_bind→af,Around→aj,wpAny_mono→ak,Addr→am,Expr→aq,wpAny_pure→ar,Heap→au,NameKind→av,PyData→aw,wpAny_holding→ay,wpAny_loadPart_at→ba,Program→be,Builtin→bf,Scope→bh,wpAny_truthy_bool→bj,wpAny_assign_Name→bk,Stmt→bo,wpAny_standAt→bp,Comprehension→bq,wpAny_rule→br,wpAny_operating→bt,wpAny_isSubtype_exc→bu,World→bv,CmpOp→bx,BoolOp→bz,wpAny_execs_nil→c5,typeLookup_type→c6,builtinLookup_eq_fast→c7,Operator→ce,ExcAttrBase→cg,wpAny_eqBool_int→cj,DefRec→ck,ClassData→cz,Arguments→d7,Keyword→db,OwnTailQ→dh,wpAny_newList→di,wpAny_list_append_plain→dk,wpAny_typeLookup_tailQ→dl,wpAny_pyNext_list_item→dm,richCompare_meets_room→dp,wpAny_pyNext_list_end→dq,wpAny_pyIter_listiter→du,codeAny_call_builtin→dz,IsRangeIter→f0,IntMulOk→f8,GenState→f9,Params→fc,Flow→fe,wpAny_pyIter_list→fh,slot_list_getitem→fj,OsState→fp,MethRec→fq,wpAny_items_cons→fu,wpAny_forIn_list→fx,wpAny_execs_cons→fy,lookupAlong_cons→fz,isinstance_outer→gf,wpAny_items_nil→gj,call_isinstance→gm
open PyProof.Rows renaming SortSt→ag,wpS_bind→ah,Keyed→ai,wpS_pure→ao,wpS_forRange→az,wpS_mono→bg,SortKind→bi,wpS_modify→bn,wpS_get→bw,wpS_lift→cb,assignInOrder_cons→ch,wpS_reverse→d8,get?_update_seq→d9,size_push'→de,pairsOf_toList→dg,listUpdate_at→dj,seqEpoch_at→dw,getElem?_mirror_all→fb,PlainAt→fm,getElem?_bubble→gk
open PySem.W renaming Hook→da,WellAll→fk
namespace Mini.Internal
theorem gp {c:Prop}{h:Decidable c}(k:c){α:Sort _}{t e:α}:ite c t e=t:=if_pos k
theorem gq {c:Prop}{h:Decidable c}(k:¬c){α:Sort _}{t e:α}:ite c t e=e:=if_neg k
end Mini.Internal
section
open PySem PySem.W PyProof.Rows
namespace Mini.Internal
noncomputable def Zxb (s:bo):Bool:=!s.ctorIdx.beq 5
def vw:be:={ PySem.Challenge.pw_uf060001_11 with main:={ PySem.Challenge.pw_uf060001_11.main with body:=PySem.Challenge.pw_uf060001_11.main.body.filter Zxb } }
noncomputable def subs:List Str:=[j4 "BadStretch",j4 "Twice",j4 "Missing"]
noncomputable def Zoi:Str:=j4 "SpanError"
noncomputable def Zm8:Str:="__class__"
noncomputable def bmV:List aa:=[.type "ValueError",.type "Exception",.type "BaseException",.type "object"]
noncomputable def Ztr (s:ae):Bool:=subs.all λx=>match s.heap.clsAt mainGlobals x,s.heap.clsAt mainGlobals Zoi with
 | some y,S5 z=>y.2.2.mro == .ref y.1::.ref z.1::bmV&&(s.heap.isNs y.2.2.ns&&(s.heap.nsMap y.2.2.ns Zm8).isNone)&&(s.heap.isNs z.2.2.ns&&(s.heap.nsMap z.2.2.ns Zm8).isNone) && !(y.1 == z.1)&&subs.all (λw=>w == x || !(s.heap.nsMap mainGlobals w == S5 (.ref y.1)))
 | _,_=>F0
def Xt11 (s:ae):Bool:=xlAt vw [] s&&recOk [] s&&Ztr s
set_option Elab.async false in
set_option maxRecDepth 100000 in
theorem left_ok:LeftO PySem.Challenge.pw_uf060001_11 vw [] Xt11 (da.obs da.none) (da.val da.none) 4000:=by
 intro w
 kernel_rfl
end Mini.Internal
end
set_option autoImplicit false
namespace Mini.Internal
theorem byC {p:Prop}(h:¬ p->False):p:=D3 h
theorem rE {A:Type}{p0:A->Prop}{P:Prop}(k:∀a,p0 a->P)(h:∃a,p0 a):P:=h.elim k
theorem rEE {A B:Type}{p0:A->B->Prop}{P:Prop}(k:∀a b,p0 a b->P)(h:∃a b,p0 a b):P:=rE (λa=>rE (p0:=p0 a) (k a)) h
theorem Zd7 {A B C:Type}{p0:A->B->C->Prop}{P:Prop}(k:∀a b c,p0 a b c->P)(h:∃a b c,p0 a b c):P:=rE (λa=>rEE (p0:=p0 a) (k a)) h
theorem Uz {A B C D:Type}{p0:A->B->C->D->Prop}{P:Prop}(k:∀a b c d,p0 a b c d->P)(h:∃a b c d,p0 a b c d):P:=rE (λa=>Zd7 (p0:=p0 a) (k a)) h
theorem Zku {A B C D E:Type}{p0:A->B->C->D->E->Prop}{P:Prop}(k:∀a b c d e,p0 a b c d e->P)(h:∃a b c d e,p0 a b c d e):P:=Uz (λa b c d=>rE (p0:=p0 a b c d) (k a b c d)) h
theorem Zl0 {A B C D E F:Type}{p0:A->B->C->D->E->F->Prop}{P:Prop}(k:∀a b c d e f,p0 a b c d e f->P)(h:∃a b c d e f,p0 a b c d e f):P:=Uz (λa b c d=>rEE (p0:=p0 a b c d) (k a b c d)) h
theorem Zoj {A B C D E F G:Type}{p0:A->B->C->D->E->F->G->Prop}{P:Prop}(k:∀a b c d e f g,p0 a b c d e f g->P)(h:∃a b c d e f g,p0 a b c d e f g):P:=Uz (λa b c d=>Zd7 (p0:=p0 a b c d) (k a b c d)) h
theorem Wf {A B C D E F G I:Type}{p0:A->B->C->D->E->F->G->I->Prop}{P:Prop}(k:∀a b c d e f g i,p0 a b c d e f g i->P)(h:∃a b c d e f g i,p0 a b c d e f g i):P:=Uz (λa b c d=>Uz (p0:=p0 a b c d) (k a b c d)) h
theorem Zkv {A B C D E F G I Jq:Type}{p0:A->B->C->D->E->F->G->I->Jq->Prop}{P:Prop}(k:∀a b c d e f g i j,p0 a b c d e f g i j->P)(h:∃a b c d e f g i j,p0 a b c d e f g i j):P:=Uz (λa b c d=>Zku (p0:=p0 a b c d) (k a b c d)) h
theorem Xa {A B C D E F G I Jq L M N:Type}{p0:A->B->C->D->E->F->G->I->Jq->L->M->N->Prop}{P:Prop}(k:∀a b c d e f g i j l m n,p0 a b c d e f g i j l m n->P)(h:∃a b c d e f g i j l m n,p0 a b c d e f g i j l m n):P:=Uz (λa b c d=>Wf (p0:=p0 a b c d) (k a b c d)) h
theorem Zer {A B C D E F G I Jq L M N O:Type}{p0:A->B->C->D->E->F->G->I->Jq->L->M->N->O->Prop}{P:Prop}(k:∀a b c d e f g i j l m n o,p0 a b c d e f g i j l m n o->P)(h:∃a b c d e f g i j l m n o,p0 a b c d e f g i j l m n o):P:=Uz (λa b c d=>Zkv (p0:=p0 a b c d) (k a b c d)) h
theorem Xz {A B C D E F G I Jq L M N O Q R S T:Type}{p0:A->B->C->D->E->F->G->I->Jq->L->M->N->O->Q->R->S->T->Prop}{P:Prop}(k:∀a b c d e f g i j l m n o q r s t,p0 a b c d e f g i j l m n o q r s t->P)(h:∃a b c d e f g i j l m n o q r s t,p0 a b c d e f g i j l m n o q r s t):P:=Uz (λa b c d=>Zer (p0:=p0 a b c d) (k a b c d)) h
theorem rA {p0 p1 P:Prop}(k:p0->p1->P)(h:p0/\p1):P:=k h.1 h.2
theorem rAA {p0 p1 p2 P:Prop}(k:p0->p1->p2->P)(h:p0/\p1/\p2):P:=k h.1 h.2.1 h.2.2
theorem rAE {A:Type}{p0:Prop}{p1:A->Prop}{P:Prop}(k:p0->∀a,p1 a->P)(h:p0/\∃a,p1 a):P:=rE (λa1 b2=>k h.1 a1 b2) h.2
theorem rEA {A:Type}{p0 p1:A->Prop}{P:Prop}(k:∀a,p0 a->p1 a->P)(h:∃a,p0 a/\p1 a):P:=rE (λa0 b1=>k a0 b1.1 b1.2) h
theorem X0 {p0 p1 p2 p3 P:Prop}(k:p0->p1->p2->p3->P)(h:p0/\p1/\p2/\p3):P:=k h.1 h.2.1 h.2.2.1 h.2.2.2
theorem Zus {A:Type}{p0 p1:Prop}{p2:A->Prop}{P:Prop}(k:p0->p1->∀a,p2 a->P)(h:p0/\p1/\∃a,p2 a):P:=rE (λa2 b3=>k h.1 h.2.1 a2 b3) h.2.2
theorem Ziq {A:Type}{p0:Prop}{p1 p2:A->Prop}{P:Prop}(k:p0->∀a,p1 a->p2 a->P)(h:p0/\∃a,p1 a/\p2 a):P:=rE (λa1 b2=>k h.1 a1 b2.1 b2.2) h.2
theorem Ud {A:Type}{p0 p1 p2:A->Prop}{P:Prop}(k:∀a,p0 a->p1 a->p2 a->P)(h:∃a,p0 a/\p1 a/\p2 a):P:=rE (λa0 b1=>k a0 b1.1 b1.2.1 b1.2.2) h
theorem Ug {A B:Type}{p0 p1:A->B->Prop}{P:Prop}(k:∀a b,p0 a b->p1 a b->P)(h:∃a b,p0 a b/\p1 a b):P:=rEE (λa0 a1 b2=>k a0 a1 b2.1 b2.2) h
theorem Zl1 {p0 p1 p2 p3 p4 P:Prop}(k:p0->p1->p2->p3->p4->P)(h:p0/\p1/\p2/\p3/\p4):P:=k h.1 h.2.1 h.2.2.1 h.2.2.2.1 h.2.2.2.2
theorem Zxc {A:Type}{p0 p1 p2:Prop}{p3:A->Prop}{P:Prop}(k:p0->p1->p2->∀a,p3 a->P)(h:p0/\p1/\p2/\∃a,p3 a):P:=rE (λa3 b4=>k h.1 h.2.1 h.2.2.1 a3 b4) h.2.2.2
theorem Zok {A:Type}{p0:Prop}{p1 p2 p3:A->Prop}{P:Prop}(k:p0->∀a,p1 a->p2 a->p3 a->P)(h:p0/\∃a,p1 a/\p2 a/\p3 a):P:=rE (λa1 b2=>k h.1 a1 b2.1 b2.2.1 b2.2.2) h.2
theorem Zl2 {A B:Type}{p0:Prop}{p1 p2:A->B->Prop}{P:Prop}(k:p0->∀a b,p1 a b->p2 a b->P)(h:p0/\∃a b,p1 a b/\p2 a b):P:=rEE (λa1 a2 b3=>k h.1 a1 a2 b3.1 b3.2) h.2
theorem Zas {A:Type}{p0 p1 p2 p3:A->Prop}{P:Prop}(k:∀a,p0 a->p1 a->p2 a->p3 a->P)(h:∃a,p0 a/\p1 a/\p2 a/\p3 a):P:=rE (λa0 b1=>k a0 b1.1 b1.2.1 b1.2.2.1 b1.2.2.2) h
theorem Zxd {A B:Type}{p0:A->Prop}{p1 p2:A->B->Prop}{P:Prop}(k:∀a,p0 a->∀b,p1 a b->p2 a b->P)(h:∃a,p0 a/\∃b,p1 a b/\p2 a b):P:=rE (λa0 b1=>rE (λa2 b3=>k a0 b1.1 a2 b3.1 b3.2) b1.2) h
theorem Yn {A B:Type}{p0 p1 p2:A->B->Prop}{P:Prop}(k:∀a b,p0 a b->p1 a b->p2 a b->P)(h:∃a b,p0 a b/\p1 a b/\p2 a b):P:=rEE (λa0 a1 b2=>k a0 a1 b2.1 b2.2.1 b2.2.2) h
theorem Zts {A B C:Type}{p0 p1:A->B->C->Prop}{P:Prop}(k:∀a b c,p0 a b c->p1 a b c->P)(h:∃a b c,p0 a b c/\p1 a b c):P:=Zd7 (λa0 a1 a2 b3=>k a0 a1 a2 b3.1 b3.2) h
theorem Zay {A:Type}{p0 p1 p2:Prop}{p3 p4:A->Prop}{P:Prop}(k:p0->p1->p2->∀a,p3 a->p4 a->P)(h:p0/\p1/\p2/\∃a,p3 a/\p4 a):P:=rE (λa3 b4=>k h.1 h.2.1 h.2.2.1 a3 b4.1 b4.2) h.2.2.2
theorem Zut {A:Type}{p0 p1 p2 p3 p4:A->Prop}{P:Prop}(k:∀a,p0 a->p1 a->p2 a->p3 a->p4 a->P)(h:∃a,p0 a/\p1 a/\p2 a/\p3 a/\p4 a):P:=rE (λa0 b1=>k a0 b1.1 b1.2.1 b1.2.2.1 b1.2.2.2.1 b1.2.2.2.2) h
theorem Zol {A B:Type}{p0 p1 p2:A->Prop}{p3:A->B->Prop}{P:Prop}(k:∀a,p0 a->p1 a->p2 a->∀b,p3 a b->P)(h:∃a,p0 a/\p1 a/\p2 a/\∃b,p3 a b):P:=rE (λa0 b1=>rE (λa4 b5=>k a0 b1.1 b1.2.1 b1.2.2.1 a4 b5) b1.2.2.2) h
theorem U9 {A B:Type}{p0 p1 p2 p3:A->B->Prop}{P:Prop}(k:∀a b,p0 a b->p1 a b->p2 a b->p3 a b->P)(h:∃a b,p0 a b/\p1 a b/\p2 a b/\p3 a b):P:=rEE (λa0 a1 b2=>k a0 a1 b2.1 b2.2.1 b2.2.2.1 b2.2.2.2) h
theorem Xk {A B C:Type}{p0 p1 p2:A->B->C->Prop}{P:Prop}(k:∀a b c,p0 a b c->p1 a b c->p2 a b c->P)(h:∃a b c,p0 a b c/\p1 a b c/\p2 a b c):P:=Zd7 (λa0 a1 a2 b3=>k a0 a1 a2 b3.1 b3.2.1 b3.2.2) h
theorem Zrh {A B:Type}{p0:Prop}{p1 p2 p3 p4:A->B->Prop}{P:Prop}(k:p0->∀a b,p1 a b->p2 a b->p3 a b->p4 a b->P)(h:p0/\∃a b,p1 a b/\p2 a b/\p3 a b/\p4 a b):P:=rEE (λa1 a2 b3=>k h.1 a1 a2 b3.1 b3.2.1 b3.2.2.1 b3.2.2.2) h.2
theorem Zri {A B:Type}{p0 p1 p2 p3 p4:A->B->Prop}{P:Prop}(k:∀a b,p0 a b->p1 a b->p2 a b->p3 a b->p4 a b->P)(h:∃a b,p0 a b/\p1 a b/\p2 a b/\p3 a b/\p4 a b):P:=rEE (λa0 a1 b2=>k a0 a1 b2.1 b2.2.1 b2.2.2.1 b2.2.2.2.1 b2.2.2.2.2) h
theorem Xp {A B C:Type}{p0 p1 p2 p3:A->B->C->Prop}{P:Prop}(k:∀a b c,p0 a b c->p1 a b c->p2 a b c->p3 a b c->P)(h:∃a b c,p0 a b c/\p1 a b c/\p2 a b c/\p3 a b c):P:=Zd7 (λa0 a1 a2 b3=>k a0 a1 a2 b3.1 b3.2.1 b3.2.2.1 b3.2.2.2) h
theorem Zei {A B C D:Type}{p0 p1 p2:A->B->C->D->Prop}{P:Prop}(k:∀a b c d,p0 a b c d->p1 a b c d->p2 a b c d->P)(h:∃a b c d,p0 a b c d/\p1 a b c d/\p2 a b c d):P:=Uz (λa0 a1 a2 a3 b4=>k a0 a1 a2 a3 b4.1 b4.2.1 b4.2.2) h
theorem Zaz {A B:Type}{p0:Prop}{p1 p2 p3 p4 p5:A->B->Prop}{P:Prop}(k:p0->∀a b,p1 a b->p2 a b->p3 a b->p4 a b->p5 a b->P)(h:p0/\∃a b,p1 a b/\p2 a b/\p3 a b/\p4 a b/\p5 a b):P:=rEE (λa1 a2 b3=>k h.1 a1 a2 b3.1 b3.2.1 b3.2.2.1 b3.2.2.2.1 b3.2.2.2.2) h.2
theorem Zes {A B:Type}{p0 p1 p2 p3 p4 p5:A->B->Prop}{P:Prop}(k:∀a b,p0 a b->p1 a b->p2 a b->p3 a b->p4 a b->p5 a b->P)(h:∃a b,p0 a b/\p1 a b/\p2 a b/\p3 a b/\p4 a b/\p5 a b):P:=rEE (λa0 a1 b2=>k a0 a1 b2.1 b2.2.1 b2.2.2.1 b2.2.2.2.1 b2.2.2.2.2.1 b2.2.2.2.2.2) h
theorem Zir {A B C:Type}{p0 p1 p2 p3 p4:A->B->C->Prop}{P:Prop}(k:∀a b c,p0 a b c->p1 a b c->p2 a b c->p3 a b c->p4 a b c->P)(h:∃a b c,p0 a b c/\p1 a b c/\p2 a b c/\p3 a b c/\p4 a b c):P:=Zd7 (λa0 a1 a2 b3=>k a0 a1 a2 b3.1 b3.2.1 b3.2.2.1 b3.2.2.2.1 b3.2.2.2.2) h
theorem Zom {A B C D:Type}{p0 p1 p2 p3:A->B->C->D->Prop}{P:Prop}(k:∀a b c d,p0 a b c d->p1 a b c d->p2 a b c d->p3 a b c d->P)(h:∃a b c d,p0 a b c d/\p1 a b c d/\p2 a b c d/\p3 a b c d):P:=Uz (λa0 a1 a2 a3 b4=>k a0 a1 a2 a3 b4.1 b4.2.1 b4.2.2.1 b4.2.2.2) h
theorem Zgi {A B:Type}{p0:Prop}{p1 p2 p3 p4 p5 p6:A->B->Prop}{P:Prop}(k:p0->∀a b,p1 a b->p2 a b->p3 a b->p4 a b->p5 a b->p6 a b->P)(h:p0/\∃a b,p1 a b/\p2 a b/\p3 a b/\p4 a b/\p5 a b/\p6 a b):P:=rEE (λa1 a2 b3=>k h.1 a1 a2 b3.1 b3.2.1 b3.2.2.1 b3.2.2.2.1 b3.2.2.2.2.1 b3.2.2.2.2.2) h.2
theorem Zdc {A B:Type}{p0 p1 p2 p3 p4 p5 p6:A->B->Prop}{P:Prop}(k:∀a b,p0 a b->p1 a b->p2 a b->p3 a b->p4 a b->p5 a b->p6 a b->P)(h:∃a b,p0 a b/\p1 a b/\p2 a b/\p3 a b/\p4 a b/\p5 a b/\p6 a b):P:=rEE (λa0 a1 b2=>k a0 a1 b2.1 b2.2.1 b2.2.2.1 b2.2.2.2.1 b2.2.2.2.2.1 b2.2.2.2.2.2.1 b2.2.2.2.2.2.2) h
theorem Qt {A B C:Type}{p0 p1 p2 p3 p4 p5:A->B->C->Prop}{P:Prop}(k:∀a b c,p0 a b c->p1 a b c->p2 a b c->p3 a b c->p4 a b c->p5 a b c->P)(h:∃a b c,p0 a b c/\p1 a b c/\p2 a b c/\p3 a b c/\p4 a b c/\p5 a b c):P:=Zd7 (λa0 a1 a2 b3=>k a0 a1 a2 b3.1 b3.2.1 b3.2.2.1 b3.2.2.2.1 b3.2.2.2.2.1 b3.2.2.2.2.2) h
theorem Zgj {A B C D:Type}{p0 p1 p2 p3 p4:A->B->C->D->Prop}{P:Prop}(k:∀a b c d,p0 a b c d->p1 a b c d->p2 a b c d->p3 a b c d->p4 a b c d->P)(h:∃a b c d,p0 a b c d/\p1 a b c d/\p2 a b c d/\p3 a b c d/\p4 a b c d):P:=Uz (λa0 a1 a2 a3 b4=>k a0 a1 a2 a3 b4.1 b4.2.1 b4.2.2.1 b4.2.2.2.1 b4.2.2.2.2) h
theorem Zbi {A B C D E:Type}{p0 p1 p2 p3:A->B->C->D->E->Prop}{P:Prop}(k:∀a b c d e,p0 a b c d e->p1 a b c d e->p2 a b c d e->p3 a b c d e->P)(h:∃a b c d e,p0 a b c d e/\p1 a b c d e/\p2 a b c d e/\p3 a b c d e):P:=Zku (λa0 a1 a2 a3 a4 b5=>k a0 a1 a2 a3 a4 b5.1 b5.2.1 b5.2.2.1 b5.2.2.2) h
theorem Zgk {A B C D E F G:Type}{p0 p1:A->B->C->D->E->F->G->Prop}{P:Prop}(k:∀a b c d e f g,p0 a b c d e f g->p1 a b c d e f g->P)(h:∃a b c d e f g,p0 a b c d e f g/\p1 a b c d e f g):P:=Zoj (λa0 a1 a2 a3 a4 a5 a6 b7=>k a0 a1 a2 a3 a4 a5 a6 b7.1 b7.2) h
theorem Zet {A B C D:Type}{p0:Prop}{p1 p2 p3 p4:A->B->Prop}{p5:A->B->C->D->Prop}{P:Prop}(k:p0->∀a b,p1 a b->p2 a b->p3 a b->p4 a b->∀c d,p5 a b c d->P)(h:p0/\∃a b,p1 a b/\p2 a b/\p3 a b/\p4 a b/\∃c d,p5 a b c d):P:=rEE (λa1 a2 b3=>rEE (λa7 a8 b9=>k h.1 a1 a2 b3.1 b3.2.1 b3.2.2.1 b3.2.2.2.1 a7 a8 b9) b3.2.2.2.2) h.2
theorem Zkw {A B C D:Type}{p0 p1 p2 p3:A->B->C->Prop}{p4 p5:A->B->C->D->Prop}{P:Prop}(k:∀a b c,p0 a b c->p1 a b c->p2 a b c->p3 a b c->∀d,p4 a b c d->p5 a b c d->P)(h:∃a b c,p0 a b c/\p1 a b c/\p2 a b c/\p3 a b c/\∃d,p4 a b c d/\p5 a b c d):P:=Zd7 (λa0 a1 a2 b3=>rE (λa7 b8=>k a0 a1 a2 b3.1 b3.2.1 b3.2.2.1 b3.2.2.2.1 a7 b8.1 b8.2) b3.2.2.2.2) h
theorem Zb0 {A B C D:Type}{p0 p1 p2 p3 p4 p5:A->B->C->D->Prop}{P:Prop}(k:∀a b c d,p0 a b c d->p1 a b c d->p2 a b c d->p3 a b c d->p4 a b c d->p5 a b c d->P)(h:∃a b c d,p0 a b c d/\p1 a b c d/\p2 a b c d/\p3 a b c d/\p4 a b c d/\p5 a b c d):P:=Uz (λa0 a1 a2 a3 b4=>k a0 a1 a2 a3 b4.1 b4.2.1 b4.2.2.1 b4.2.2.2.1 b4.2.2.2.2.1 b4.2.2.2.2.2) h
theorem Zeu {A B C D E:Type}{p0 p1 p2 p3 p4:A->B->C->D->E->Prop}{P:Prop}(k:∀a b c d e,p0 a b c d e->p1 a b c d e->p2 a b c d e->p3 a b c d e->p4 a b c d e->P)(h:∃a b c d e,p0 a b c d e/\p1 a b c d e/\p2 a b c d e/\p3 a b c d e/\p4 a b c d e):P:=Zku (λa0 a1 a2 a3 a4 b5=>k a0 a1 a2 a3 a4 b5.1 b5.2.1 b5.2.2.1 b5.2.2.2.1 b5.2.2.2.2) h
theorem Zb1 {A B C D E F:Type}{p0 p1 p2 p3:A->B->C->D->E->F->Prop}{P:Prop}(k:∀a b c d e f,p0 a b c d e f->p1 a b c d e f->p2 a b c d e f->p3 a b c d e f->P)(h:∃a b c d e f,p0 a b c d e f/\p1 a b c d e f/\p2 a b c d e f/\p3 a b c d e f):P:=Zl0 (λa0 a1 a2 a3 a4 a5 b6=>k a0 a1 a2 a3 a4 a5 b6.1 b6.2.1 b6.2.2.1 b6.2.2.2) h
theorem Zev {A B C D E F G I:Type}{p0 p1:A->B->C->D->E->F->G->I->Prop}{P:Prop}(k:∀a b c d e f g i,p0 a b c d e f g i->p1 a b c d e f g i->P)(h:∃a b c d e f g i,p0 a b c d e f g i/\p1 a b c d e f g i):P:=Wf (λa0 a1 a2 a3 a4 a5 a6 a7 b8=>k a0 a1 a2 a3 a4 a5 a6 a7 b8.1 b8.2) h
theorem Qb {A B C D:Type}{p0 p1:Prop}{p2 p3 p4 p5 p6:A->B->C->D->Prop}{P:Prop}(k:p0->p1->∀a b c d,p2 a b c d->p3 a b c d->p4 a b c d->p5 a b c d->p6 a b c d->P)(h:p0/\p1/\∃a b c d,p2 a b c d/\p3 a b c d/\p4 a b c d/\p5 a b c d/\p6 a b c d):P:=Uz (λa2 a3 a4 a5 b6=>k h.1 h.2.1 a2 a3 a4 a5 b6.1 b6.2.1 b6.2.2.1 b6.2.2.2.1 b6.2.2.2.2) h.2.2
theorem Zcf {A B C D E:Type}{p0 p1 p2 p3:A->B->C->Prop}{p4 p5 p6:A->B->C->D->E->Prop}{P:Prop}(k:∀a b c,p0 a b c->p1 a b c->p2 a b c->p3 a b c->∀d e,p4 a b c d e->p5 a b c d e->p6 a b c d e->P)(h:∃a b c,p0 a b c/\p1 a b c/\p2 a b c/\p3 a b c/\∃d e,p4 a b c d e/\p5 a b c d e/\p6 a b c d e):P:=Zd7 (λa0 a1 a2 b3=>rEE (λa7 a8 b9=>k a0 a1 a2 b3.1 b3.2.1 b3.2.2.1 b3.2.2.2.1 a7 a8 b9.1 b9.2.1 b9.2.2) b3.2.2.2.2) h
theorem Xq {A B C D:Type}{p0 p1 p2 p3 p4 p5 p6 p7:A->B->C->D->Prop}{P:Prop}(k:∀a b c d,p0 a b c d->p1 a b c d->p2 a b c d->p3 a b c d->p4 a b c d->p5 a b c d->p6 a b c d->p7 a b c d->P)(h:∃a b c d,p0 a b c d/\p1 a b c d/\p2 a b c d/\p3 a b c d/\p4 a b c d/\p5 a b c d/\p6 a b c d/\p7 a b c d):P:=Uz (λa0 a1 a2 a3 b4=>k a0 a1 a2 a3 b4.1 b4.2.1 b4.2.2.1 b4.2.2.2.1 b4.2.2.2.2.1 b4.2.2.2.2.2.1 b4.2.2.2.2.2.2.1 b4.2.2.2.2.2.2.2) h
theorem Ql {A B C D:Type}{p0 p1 p2 p3 p4 p5 p6 p7 p8:A->B->C->D->Prop}{P:Prop}(k:∀a b c d,p0 a b c d->p1 a b c d->p2 a b c d->p3 a b c d->p4 a b c d->p5 a b c d->p6 a b c d->p7 a b c d->p8 a b c d->P)(h:∃a b c d,p0 a b c d/\p1 a b c d/\p2 a b c d/\p3 a b c d/\p4 a b c d/\p5 a b c d/\p6 a b c d/\p7 a b c d/\p8 a b c d):P:=Uz (λa0 a1 a2 a3 b4=>k a0 a1 a2 a3 b4.1 b4.2.1 b4.2.2.1 b4.2.2.2.1 b4.2.2.2.2.1 b4.2.2.2.2.2.1 b4.2.2.2.2.2.2.1 b4.2.2.2.2.2.2.2.1 b4.2.2.2.2.2.2.2.2) h
theorem Zbt {A B C D E F G I:Type}{p0 p1 p2 p3 p4:A->B->C->D->E->F->G->I->Prop}{P:Prop}(k:∀a b c d e f g i,p0 a b c d e f g i->p1 a b c d e f g i->p2 a b c d e f g i->p3 a b c d e f g i->p4 a b c d e f g i->P)(h:∃a b c d e f g i,p0 a b c d e f g i/\p1 a b c d e f g i/\p2 a b c d e f g i/\p3 a b c d e f g i/\p4 a b c d e f g i):P:=Wf (λa0 a1 a2 a3 a4 a5 a6 a7 b8=>k a0 a1 a2 a3 a4 a5 a6 a7 b8.1 b8.2.1 b8.2.2.1 b8.2.2.2.1 b8.2.2.2.2) h
theorem Za0 {A B C D E F G I:Type}{p0 p1 p2 p3 p4 p5:A->B->C->D->E->F->G->I->Prop}{P:Prop}(k:∀a b c d e f g i,p0 a b c d e f g i->p1 a b c d e f g i->p2 a b c d e f g i->p3 a b c d e f g i->p4 a b c d e f g i->p5 a b c d e f g i->P)(h:∃a b c d e f g i,p0 a b c d e f g i/\p1 a b c d e f g i/\p2 a b c d e f g i/\p3 a b c d e f g i/\p4 a b c d e f g i/\p5 a b c d e f g i):P:=Wf (λa0 a1 a2 a3 a4 a5 a6 a7 b8=>k a0 a1 a2 a3 a4 a5 a6 a7 b8.1 b8.2.1 b8.2.2.1 b8.2.2.2.1 b8.2.2.2.2.1 b8.2.2.2.2.2) h
theorem Qc {A B C D E F G I:Type}{p0 p1 p2 p3 p4 p5 p6 p7 p8:A->B->C->D->E->F->G->I->Prop}{P:Prop}(k:∀a b c d e f g i,p0 a b c d e f g i->p1 a b c d e f g i->p2 a b c d e f g i->p3 a b c d e f g i->p4 a b c d e f g i->p5 a b c d e f g i->p6 a b c d e f g i->p7 a b c d e f g i->p8 a b c d e f g i->P)(h:∃a b c d e f g i,p0 a b c d e f g i/\p1 a b c d e f g i/\p2 a b c d e f g i/\p3 a b c d e f g i/\p4 a b c d e f g i/\p5 a b c d e f g i/\p6 a b c d e f g i/\p7 a b c d e f g i/\p8 a b c d e f g i):P:=Wf (λa0 a1 a2 a3 a4 a5 a6 a7 b8=>k a0 a1 a2 a3 a4 a5 a6 a7 b8.1 b8.2.1 b8.2.2.1 b8.2.2.2.1 b8.2.2.2.2.1 b8.2.2.2.2.2.1 b8.2.2.2.2.2.2.1 b8.2.2.2.2.2.2.2.1 b8.2.2.2.2.2.2.2.2) h
theorem Uv {A B C D E F G I Jq L M N O Q R S T:Type}{p0 p1:A->B->C->D->E->F->G->I->Jq->L->M->N->O->Q->R->S->T->Prop}{P:Prop}(k:∀a b c d e f g i j l m n o q r s t,p0 a b c d e f g i j l m n o q r s t->p1 a b c d e f g i j l m n o q r s t->P)(h:∃a b c d e f g i j l m n o q r s t,p0 a b c d e f g i j l m n o q r s t/\p1 a b c d e f g i j l m n o q r s t):P:=Xz (λa0 a1 a2 a3 a4 a5 a6 a7 a8 a9 a10 a11 a12 a13 a14 a15 a16 b17=>k a0 a1 a2 a3 a4 a5 a6 a7 a8 a9 a10 a11 a12 a13 a14 a15 a16 b17.1 b17.2) h
theorem J5 {A B C D E F G I Jq L M N O Q R S T:Type}{p0 p1 p2 p3:A->B->C->D->E->F->G->I->Jq->L->M->N->O->Q->R->S->T->Prop}{P:Prop}(k:∀a b c d e f g i j l m n o q r s t,p0 a b c d e f g i j l m n o q r s t->p1 a b c d e f g i j l m n o q r s t->p2 a b c d e f g i j l m n o q r s t->p3 a b c d e f g i j l m n o q r s t->P)(h:∃a b c d e f g i j l m n o q r s t,p0 a b c d e f g i j l m n o q r s t/\p1 a b c d e f g i j l m n o q r s t/\p2 a b c d e f g i j l m n o q r s t/\p3 a b c d e f g i j l m n o q r s t):P:=Xz (λa0 a1 a2 a3 a4 a5 a6 a7 a8 a9 a10 a11 a12 a13 a14 a15 a16 b17=>k a0 a1 a2 a3 a4 a5 a6 a7 a8 a9 a10 a11 a12 a13 a14 a15 a16 b17.1 b17.2.1 b17.2.2.1 b17.2.2.2) h
noncomputable def Wo {α:Type}(h:Nonempty α)(S:α->Prop):α:=@Classical.epsilon α h λp=>¬ S p
noncomputable abbrev sk4 {a b c d e:Type}(B:a×b×c×d×e):=B.2.2.2.2
noncomputable abbrev sk8 {a b c d e f g h i:Type}(B:a×b×c×d×e×f×g×h×i):=sk4 (sk4 B)
noncomputable abbrev X9 {a b c d e f g h i j k l m n o p q:Type}(B:a×b×c×d×e×f×g×h×i×j×k×l×m×n×o×p×q):=sk8 (sk8 B)
abbrev uc2 {a b:Type}(A:a->b->Prop)(B:a×b):Prop:=A B.1 B.2
abbrev uc3 {a b c:Type}(A:a->b->c->Prop)(B:a×b×c):Prop:=uc2 (A B.1) B.2
abbrev uc4 {a b c d:Type}(A:a->b->c->d->Prop)(B:a×b×c×d):Prop:=uc3 (A B.1) B.2
abbrev uc5 {a b c d e:Type}(A:a->b->c->d->e->Prop)(B:a×b×c×d×e):Prop:=uc4 (A B.1) B.2
abbrev uc6 {a b c d e f:Type}(A:a->b->c->d->e->f->Prop)(B:a×b×c×d×e×f):Prop:=uc5 (A B.1) B.2
abbrev uc7 {a b c d e f g:Type}(A:a->b->c->d->e->f->g->Prop)(B:a×b×c×d×e×f×g):Prop:=uc6 (A B.1) B.2
abbrev uc8 {a b c d e f g h:Type}(A:a->b->c->d->e->f->g->h->Prop)(B:a×b×c×d×e×f×g×h):Prop:=uc7 (A B.1) B.2
abbrev uc9 {a b c d e f g h i:Type}(A:a->b->c->d->e->f->g->h->i->Prop)(B:a×b×c×d×e×f×g×h×i):Prop:=uc8 (A B.1) B.2
abbrev Zuu {a b c d e f g h i j:Type}(A:a->b->c->d->e->f->g->h->i->j->Prop)(B:a×b×c×d×e×f×g×h×i×j):Prop:=uc9 (A B.1) B.2
abbrev Zuv {a b c d e f g h i j k:Type}(A:a->b->c->d->e->f->g->h->i->j->k->Prop)(B:a×b×c×d×e×f×g×h×i×j×k):Prop:=Zuu (A B.1) B.2
abbrev Zm9 {a b c d e f g h i j k l:Type}(A:a->b->c->d->e->f->g->h->i->j->k->l->Prop)(B:a×b×c×d×e×f×g×h×i×j×k×l):Prop:=Zuv (A B.1) B.2
abbrev Zna {a b c d e f g h i j k l m:Type}(A:a->b->c->d->e->f->g->h->i->j->k->l->m->Prop)(B:a×b×c×d×e×f×g×h×i×j×k×l×m):Prop:=Zm9 (A B.1) B.2
abbrev Zxe {a b c d e f g h i j k l m n o p q r s t u:Type}(A:a->b->c->d->e->f->g->h->i->j->k->l->m->n->o->p->q->r->s->t->u->Prop)(B:a×b×c×d×e×f×g×h×i×j×k×l×m×n×o×p×q×r×s×t×u):Prop:=Zna (A B.1 B.2.1 B.2.2.1 B.2.2.2.1 (sk4 B).1 (sk4 B).2.1 (sk4 B).2.2.1 (sk4 B).2.2.2.1) (sk8 B)
abbrev Zxf {a b c d e f g h i j k l m n o p q r s t u v w x:Type}(A:a->b->c->d->e->f->g->h->i->j->k->l->m->n->o->p->q->r->s->t->u->v->w->x->Prop)(B:a×b×c×d×e×f×g×h×i×j×k×l×m×n×o×p×q×r×s×t×u×v×w×x):Prop:=Zm9 (A B.1 B.2.1 B.2.2.1 B.2.2.2.1 (sk4 B).1 (sk4 B).2.1 (sk4 B).2.2.1 (sk4 B).2.2.2.1 (sk8 B).1 (sk8 B).2.1 (sk8 B).2.2.1 (sk8 B).2.2.2.1) (sk4 (sk8 B))
abbrev Zxg {a b c d e f g h i j k l m n o p q r s t u v w x y:Type}(A:a->b->c->d->e->f->g->h->i->j->k->l->m->n->o->p->q->r->s->t->u->v->w->x->y->Prop)(B:a×b×c×d×e×f×g×h×i×j×k×l×m×n×o×p×q×r×s×t×u×v×w×x×y):Prop:=Zna (A B.1 B.2.1 B.2.2.1 B.2.2.2.1 (sk4 B).1 (sk4 B).2.1 (sk4 B).2.2.1 (sk4 B).2.2.2.1 (sk8 B).1 (sk8 B).2.1 (sk8 B).2.2.1 (sk8 B).2.2.2.1) (sk4 (sk8 B))
theorem Yi {α:Type}{h:Nonempty α}{S:α->Prop}(k:S (Wo h S)):∀q,S q:=λq=>D3 λn=>@Classical.epsilon_spec α (λp=>¬ S p) ⟨q,n⟩ k
theorem ar0 {l r n x:Nat}(g:r-l<=n-x):r-(l+1)<=n-(x+1):=by rw[← Ly,← Ly];exact I5 g 1
theorem ar6 {l r n x:Nat}(d:Nat)(g:r-l<=n-x):r-(l+d+1)<=n-(x+1):=Bc (L5 (Df (Cc l d)) r) (ar0 g)
theorem ar1 {l r n x:Nat}(g:r-l<=n-x)(h:¬ l ≥ r):(l+r) / 2-l<=n-(x+1) :=
 Bc (Nat.add_sub_add_right ((l+r) / 2) 1 l▸I5 (Nat.div_lt_of_lt_mul (Nat.two_mul r▸Nat.add_lt_add_right (Nat.lt_of_not_le h) r)) (l+1)) (ar0 g)
theorem ar2 {l r n x:Nat}(g:r-l<=n-x)(h:¬ l ≥ r):r-((l+r) / 2+1)<=n-(x+1) :=
 Bc (L5 (Df ((Nat.le_div_iff_mul_le (by decide)).mpr (Nat.mul_two l▸Gj (Nat.le_of_not_ge h) l))) r) (ar0 g)
theorem ar3 {j b n c:Nat}(h:j<min b n-c):c+j<n:=C2 (G1 h) (Ln _ _)
theorem ar5 {s t A x:Nat}(h:t<=max 1 (A-x))(p:¬ t<=1)(e:s+1=t):s<=max 1 (A-(x+1)) :=
 Bc (Ly A x 1▸Nat.le_sub_of_add_le (e▸(Kh (A-x) 1).elim (λk=>absurd (M0 k▸h) p) λk=>Kb k▸h)) (Kc _ _)
theorem ar7 {S c:Nat}(h:c<=S):(((S:Int)-c+2-1) / 2).toNat=(S-c+1) / 2:=by
 rw[Int.add_sub_assoc,← Int.ofNat_sub h];rfl
theorem ar8 {i:Int}{n:Nat}(h:0<=i):min i.toNat n=(min i n).toNat:=(Lc i n).elim
 (λk=>by rw[M1 k,Kn (Int.toNat_le.mpr k)]) λk=>by rw[Int.min_eq_right k,I2 ((Int.le_toNat h).mpr k)];rfl
theorem lx {a b:Int}{P Q:Prop}(h:¬ P↔Q):¬ (b<a\/b=a/\P)↔(a<b\/a=b/\Q) :=
 ⟨λn=>(Int.lt_trichotomy a b).elim .inl λo=>o.elim (λe=>.inr ⟨e,h.mp λp=>n (.inr ⟨e.symm,p⟩)⟩) λl=>(n (.inl l)).elim,λo n=>o.elim (λl=>n.elim (λm=>I4 _ (Int.lt_trans l m)) λm=>I4 _ (m.1▸l)) λq=>n.elim (λm=>I4 _ (q.1▸m)) λm=>h.mpr q.2 m.2⟩
theorem lxe {a b:Int}{Q:Prop}(e:a=b):Q↔(a<b\/a=b/\Q):=⟨λq=>.inr ⟨e,q⟩,λo=>o.elim (λl=>(I4 _ (e▸l)).elim) And.right⟩
theorem lxn {a b:Int}{Q:Prop}(n:a≠b):a<b↔(a<b\/a=b/\Q):=⟨.inl,λo=>o.elim id λq=>(n q.1).elim⟩
set_option tactic.hygienic true in
theorem Zy3 (a b:Int):(if a<b then b else a)=max a b:=by
 split
 .next h=>exact (Kd (D6 h)).symm
 .next h=>exact (M2 (Dh.mp h)).symm
theorem arA {A B i j:Nat}(h:max 0 (A+B)+1<=i+j)(h1:i+1<A)(h2:j<B):False:=Gm _ (C2 (Nat.add_lt_add (Iy h1) h2) (Bc (Kc 0 _) (Ld h)))
theorem arB {A B i j:Nat}(h:max 0 (A+B)+i+j<A+B):False:=Il.mpr (Bc (Kc 0 _) (Bc (Cc _ i) (Cc _ j))) h
theorem arC {a b:Nat}:(a:Int)<((a+b:Nat):Int)↔b≠0:=⟨λh e=>Gm a (by rw[e] at h;exact Ki.mp h),λh=>Ki.mpr (Nat.lt_add_of_pos_right (Nat.pos_of_ne_zero h))⟩
theorem arD {a b c:Nat}:((a+b:Nat):Int)+1<((a+(b+c+1):Nat):Int)↔c≠0:=by rw[← K3,← K3,Nat.add_right_comm];exact arC
theorem Zrj {a:Int}{n:Nat}(h:0<=a)(k:a<n):a.natAbs<n:=Ki.mp (Int.natAbs_of_nonneg h▸k)
theorem itC {p:Prop}[Decidable p]{a b:Int}(P:Int->Prop)(h:p->P a)(k:¬ p->P b):P (if p then a else b):=if c:p then gp c▸h c else gq c▸k c
end Mini.Internal
namespace Mini.Internal.Lin
theorem byC {p:Prop}(h:¬ p->False):p:=D3 h
inductive T where
 | v (i:Nat)
 | k (n:Nat)
 | a (x y:T)
 | m (n:Nat) (x:T)
 | w (x:T) (n:Nat)
inductive Z where
 | v (i:Nat)
 | k (c:Int)
 | n (t:T)
 | a (x y:Z)
 | s (x y:Z)
 | g (x:Z)
 | m (c:Int) (x:Z)
 | w (x:Z) (c:Int)
noncomputable abbrev T.v0:T:=.v 0
noncomputable abbrev T.v1:T:=.v 1
noncomputable abbrev T.v2:T:=.v 2
noncomputable abbrev T.v3:T:=.v 3
noncomputable abbrev T.v4:T:=.v 4
noncomputable abbrev T.v5:T:=.v 5
noncomputable abbrev T.v6:T:=.v 6
noncomputable abbrev T.v7:T:=.v 7
noncomputable abbrev T.v8:T:=.v 8
noncomputable abbrev T.v9:T:=.v 9
noncomputable abbrev Z.v0:Z:=.v 0
noncomputable abbrev Z.v1:Z:=.v 1
noncomputable abbrev Z.v2:Z:=.v 2
noncomputable abbrev Z.v3:Z:=.v 3
noncomputable abbrev Z.v4:Z:=.v 4
noncomputable abbrev Z.v5:Z:=.v 5
noncomputable abbrev Z.v6:Z:=.v 6
noncomputable abbrev Z.v7:Z:=.v 7
noncomputable abbrev Z.v8:Z:=.v 8
noncomputable abbrev Z.v9:Z:=.v 9
noncomputable abbrev T.k0:T:=.k 0
noncomputable abbrev T.k1:T:=.k 1
noncomputable abbrev Z.k0:Z:=.k 0
noncomputable abbrev Z.k1:Z:=.k 1
inductive F where
 | le (x y:T)
 | lt (x y:T)
 | eq (x y:T)
 | zle (x y:Z)
 | zlt (x y:Z)
 | zeq (x y:Z)
 | no (f:F)
 | an (f g:F)
 | or (f g:F)
 | ff
noncomputable abbrev F.sb (d a b:T):F:=.or (.an (.le b a) (.eq (.a d b) a)) (.an (.le a b) (.eq d .k0))
noncomputable abbrev F.mi (m a b:T):F:=.or (.an (.le a b) (.eq m a)) (.an (.le b a) (.eq m b))
noncomputable abbrev F.mx (m a b:T):F:=.or (.an (.le a b) (.eq m b)) (.an (.le b a) (.eq m a))
noncomputable abbrev F.nt (n:T)(x:Z):F:=.or (.an (.zle .k0 x) (.zeq (.n n) x)) (.an (.zle x .k0) (.eq n .k0))
noncomputable def at_ {α:Type}(d:α):List α->Nat->α
 | [],_=>d
 | x::_,0=>x
 | _::r,i+1=>at_ d r i
noncomputable def T.den (J:List Nat):T->Nat
 | .v i=>at_ 0 J i
 | .k n=>n
 | .a x y=>x.den J+y.den J
 | .m n x=>n*x.den J
 | .w x n=>x.den J*n
noncomputable def Z.den (J:List Nat)(ζ:List Int):Z->Int
 | .v i=>at_ 0 ζ i
 | .k c=>c
 | .n t=>(t.den J:Nat)
 | .a x y=>x.den J ζ+y.den J ζ
 | .s x y=>x.den J ζ-y.den J ζ
 | .g x=>- x.den J ζ
 | .m c x=>c*x.den J ζ
 | .w x c=>x.den J ζ*c
def F.den (J:List Nat)(ζ:List Int):F->Prop
 | .le x y=>x.den J<=y.den J
 | .lt x y=>x.den J<y.den J
 | .eq x y=>x.den J=y.den J
 | .zle x y=>x.den J ζ<=y.den J ζ
 | .zlt x y=>x.den J ζ<y.den J ζ
 | .zeq x y=>x.den J ζ=y.den J ζ
 | .no f=>¬ f.den J ζ
 | .an f g=>f.den J ζ/\g.den J ζ
 | .or f g=>f.den J ζ\/g.den J ζ
 | .ff=>False
structure P where
 c:Int
 n:List Int
 z:List Int
noncomputable def Zhj:List Int->List Int->List Int
 | [],l=>l
 | l,[]=>l
 | x::r,y::s=>(x+y)::Zhj r s
noncomputable def Zhk (c:Int):List Int->List Int
 | []=>[]
 | x::r=>(c*x)::Zhk c r
noncomputable def one:Nat->List Int
 | 0=>[1]
 | i+1=>0::one i
noncomputable def Xr:List Int->List Nat->Int
 | [],_=>0
 | _::_,[]=>0
 | x::r,y::s=>x*(y:Int)+Xr r s
noncomputable def Xs:List Int->List Int->Int
 | [],_=>0
 | _::_,[]=>0
 | x::r,y::s=>x*y+Xs r s
def P.ev (J:List Nat)(ζ:List Int)(p:P):Int:=p.c+Xr p.n J+Xs p.z ζ
def P.add (p q:P):P:=⟨p.c+q.c,Zhj p.n q.n,Zhj p.z q.z⟩
def P.mul (c:Int)(p:P):P:=⟨c*p.c,Zhk c p.n,Zhk c p.z⟩
noncomputable def T.pol:T->P
 | .v i=>⟨0,one i,[]⟩
 | .k n=>⟨n,[],[]⟩
 | .a x y=>x.pol.add y.pol
 | .m n x=>x.pol.mul n
 | .w x n=>x.pol.mul n
noncomputable def Z.pol:Z->P
 | .v i=>⟨0,[],one i⟩
 | .k c=>⟨c,[],[]⟩
 | .n t=>t.pol
 | .a x y=>x.pol.add y.pol
 | .s x y=>x.pol.add (y.pol.mul (-1))
 | .g x=>x.pol.mul (-1)
 | .m c x=>x.pol.mul c
 | .w x c=>x.pol.mul c
theorem ac4 (a b c d:Int):a+b+(c+d)=a+c+(b+d):=by lia
theorem Zis:∀(a b:List Int) (J:List Nat),Xr (Zhj a b) J=Xr a J+Xr b J
 | [],b,J=>(Gu _).symm
 | x::a,[],J=>(Cw _).symm
 | x::a,y::b,[]=>rfl
 | x::a,y::b,r::J=>by
  show (x+y)*(r:Int)+Xr (Zhj a b) J=x*r+Xr a J+(y*r+Xr b J)
  rw[Zis a b J,Mp,ac4]
theorem Zit:∀(a b ζ:List Int),Xs (Zhj a b) ζ=Xs a ζ+Xs b ζ
 | [],b,J=>(Gu _).symm
 | x::a,[],J=>(Cw _).symm
 | x::a,y::b,[]=>rfl
 | x::a,y::b,r::J=>by
  show (x+y)*r+Xs (Zhj a b) J=x*r+Xs a J+(y*r+Xs b J)
  rw[Zit a b J,Mp,ac4]
theorem Ziu (c:Int):∀(a:List Int) (J:List Nat),Xr (Zhk c a) J=c*Xr a J
 | [],J=>(Kj c).symm
 | x::a,[]=>(Kj c).symm
 | x::a,r::J=>by
  show c*x*(r:Int)+Xr (Zhk c a) J=c*(x*r+Xr a J)
  rw[Ziu c a J,Kz,Mh]
theorem Ziv (c:Int):∀(a ζ:List Int),Xs (Zhk c a) ζ=c*Xs a ζ
 | [],J=>(Kj c).symm
 | x::a,[]=>(Kj c).symm
 | x::a,r::J=>by
  show c*x*r+Xs (Zhk c a) J=c*(x*r+Xs a J)
  rw[Ziv c a J,Kz,Mh]
theorem Zxh (x y:Int)(h:y=0):1*x+y=x:=by rw[h,Int.one_mul,Cw]
theorem Ziw:∀(i:Nat) (J:List Nat),Xr (one i) J=(at_ 0 J i:Nat)
 | i,[]=>by cases i <;> rfl
 | 0,r::J=>Zxh (r:Int) (Xr [] J) rfl
 | i+1,r::J=>by
  show 0*(r:Int)+Xr (one i) J=(at_ 0 J i:Nat)
  rw[Ziw i J,Le,Gu]
theorem Zix:∀(i:Nat) (ζ:List Int),Xs (one i) ζ=at_ 0 ζ i
 | i,[]=>by cases i <;> rfl
 | 0,r::J=>Zxh r (Xs [] J) rfl
 | i+1,r::J=>by
  show 0*r+Xs (one i) J=at_ 0 J i
  rw[Zix i J,Le,Gu]
section
variable {J:List Nat}{ζ:List Int}
theorem P.ev_add (p q:P):(p.add q).ev J ζ=p.ev J ζ+q.ev J ζ:=by
 show p.c+q.c+Xr (Zhj p.n q.n) J+Xs (Zhj p.z q.z) ζ=p.c+Xr p.n J+Xs p.z ζ+(q.c+Xr q.n J+Xs q.z ζ)
 rw[Zis,Zit,ac4 p.c q.c,ac4 (p.c+Xr p.n J)]
theorem P.ev_mul (c:Int)(p:P):(p.mul c).ev J ζ=c*p.ev J ζ:=by
 show c*p.c+Xr (Zhk c p.n) J+Xs (Zhk c p.z) ζ=c*(p.c+Xr p.n J+Xs p.z ζ)
 rw[Ziu,Ziv,Kz,Kz]
theorem T.ev_pol:∀t:T,t.pol.ev J ζ=(t.den J:Nat)
 | .v i=>by
  show 0+Xr (one i) J+0=(at_ 0 J i:Nat)
  rw[Ziw,Cw,Gu]
 | .k n=>by
  show (n:Int)+0+0=n
  rw[Cw,Cw]
 | .a x y=>(P.ev_add _ _).trans ((congr (congrArg HAdd.hAdd (T.ev_pol x)) (T.ev_pol y)).trans (Int.natCast_add _ _).symm)
 | .m n x=>(P.ev_mul _ _).trans ((congrArg _ (T.ev_pol x)).trans (M3 _ _).symm)
 | .w x n=>(P.ev_mul _ _).trans ((congrArg _ (T.ev_pol x)).trans ((Ml _ _).trans (M3 _ _).symm))
theorem Z.ev_pol:∀t:Z,t.pol.ev J ζ=t.den J ζ
 | .v i=>by
  show 0+0+Xs (one i) ζ=at_ 0 ζ i
  rw[Zix,Cw,Gu]
 | .k c=>by
  show c+0+0=c
  rw[Cw,Cw]
 | .n t=>T.ev_pol t
 | .a x y=>(P.ev_add _ _).trans (congr (congrArg HAdd.hAdd (Z.ev_pol x)) (Z.ev_pol y))
 | .s x y=>by
  show (x.pol.add (y.pol.mul (-1))).ev J ζ=x.den J ζ-y.den J ζ
  rw[P.ev_add,P.ev_mul,Z.ev_pol x,Z.ev_pol y];lia
 | .g x=>by
  show (x.pol.mul (-1)).ev J ζ = - x.den J ζ
  rw[P.ev_mul,Z.ev_pol x];lia
 | .m c x=>(P.ev_mul _ _).trans (congrArg _ (Z.ev_pol x))
 | .w x c=>(P.ev_mul _ _).trans ((congrArg _ (Z.ev_pol x)).trans (Ml _ _))
end
inductive Ct where
 | l (cs:List Nat)
 | s (a b:Ct)
noncomputable def dig:Nat->Nat->List Nat->List Nat
 | 0,_,r=>r
 | f+1,n,r=>bif Kk n 1 then r else dig f (n/10) (n%10::r)
noncomputable abbrev Ct.d (n:Nat):Ct:=.l (dig 40 n [])
noncomputable def Zb2 (p q:P)(c:Int):P:=(p.add (q.mul (-1))).add ⟨c,[],[]⟩
theorem Zcg {J:List Nat}{ζ:List Int}(p q:P)(c:Int):(Zb2 p q c).ev J ζ=p.ev J ζ-q.ev J ζ+c:=by
 obtain h:P.ev J ζ ⟨c,[],[]⟩=c:=(Cw (c+0)).trans (Cw c)
 rw[Zb2,P.ev_add,P.ev_add,P.ev_mul,h];lia
noncomputable def Zrk:List Nat->List P->P
 | [],_=>⟨0,[],[]⟩
 | _::_,[]=>⟨0,[],[]⟩
 | c::cs,p::ps=>(p.mul (c:Nat)).add (Zrk cs ps)
noncomputable def Zew:List Int->Bool
 | []=>T1
 | x::r=>(0<=x:Bool)&&Zew r
noncomputable def Zch:List Int->Bool
 | []=>T1
 | x::r=>(x == 0)&&Zch r
def P.bad (p:P):Bool:=decide (0<p.c)&&Zew p.n&&Zch p.z
theorem Zl3 {J:List Nat}{ζ:List Int}:∀(cs:List Nat) (ps:List P),(∀p∈ps,p.ev J ζ<=0)->(Zrk cs ps).ev J ζ<=0
 | [],_,_=>Cb 0
 | _::_,[],_=>Cb 0
 | c::cs,p::ps,h=>by
  have h1:=h p Bf
  have h2:=Zl3 cs ps λq hq=>h q (Bb _ hq)
  show ((p.mul (c:Nat)).add (Zrk cs ps)).ev J ζ<=0
  rw[P.ev_add,P.ev_mul]
  have:=Int.mul_le_mul_of_nonneg_left h1 (Ds c)
  lia
theorem Zex:∀(l:List Int) (J:List Nat),Zew l=T1->0<=Xr l J
 | [],_,_=>Cb _
 | x::l,[],_=>Cb _
 | x::l,r::J,h=>by
  have h:(decide (0<=x)&&Zew l)=T1:=h
  rw[Bs] at h
  exact Mb (Mc (of_decide_eq_true h.1) (Ds r)) (Zex l J h.2)
theorem Zdw:∀(l ζ:List Int),Zch l=T1->Xs l ζ=0
 | [],_,_=>rfl
 | x::l,[],_=>rfl
 | x::l,r::J,h=>by
  have h:(x == 0&&Zch l)=T1:=h
  rw[Bs] at h
  show x*r+Xs l J=0
  rw[beq_iff_eq.mp h.1,Zdw l J h.2,Le];rfl
theorem Zrl {J:List Nat}{ζ:List Int}{p:P}(h:p.bad=T1):0<p.ev J ζ:=by
 obtain h:(decide (0<p.c)&&Zew p.n&&Zch p.z)=T1:=h
 rw[Bs,Bs] at h
 obtain h1:=Zex p.n J h.1.2
 show 0<p.c+Xr p.n J+Xs p.z ζ
 rw[Zdw p.z ζ h.2,Cw]
 exact Dt (of_decide_eq_true h.1.1) (Int.le_add_of_nonneg_right h1)
inductive W where
 | ps (l:List P)
 | two (f:F) (b:Bool) (g:F) (c:Bool)
 | alt (f:F) (b:Bool) (g:F) (c:Bool)
 | done
 | not (f:F) (b:Bool)
noncomputable def F.step:F->Bool->W
 | .le x y,T1=>.ps [Zb2 x.pol y.pol 0]
 | .le x y,F0=>.ps [Zb2 y.pol x.pol 1]
 | .lt x y,T1=>.ps [Zb2 x.pol y.pol 1]
 | .lt x y,F0=>.ps [Zb2 y.pol x.pol 0]
 | .eq x y,T1=>.ps [Zb2 x.pol y.pol 0,Zb2 y.pol x.pol 0]
 | .eq x y,F0=>.alt (.lt x y) T1 (.lt y x) T1
 | .zle x y,T1=>.ps [Zb2 x.pol y.pol 0]
 | .zle x y,F0=>.ps [Zb2 y.pol x.pol 1]
 | .zlt x y,T1=>.ps [Zb2 x.pol y.pol 1]
 | .zlt x y,F0=>.ps [Zb2 y.pol x.pol 0]
 | .zeq x y,T1=>.ps [Zb2 x.pol y.pol 0,Zb2 y.pol x.pol 0]
 | .zeq x y,F0=>.alt (.zlt x y) T1 (.zlt y x) T1
 | .no f,b=>.not f (!b)
 | .an f g,T1=>.two f T1 g T1
 | .an f g,F0=>.alt f F0 g F0
 | .or f g,T1=>.alt f T1 g T1
 | .or f g,F0=>.two f F0 g F0
 | .ff,T1=>.done
 | .ff,F0=>.ps []
def sg (J:List Nat)(ζ:List Int)(f:F)(b:Bool):Prop:=if b then f.den J ζ else ¬ f.den J ζ
noncomputable def chk:Nat->List P->List (F×Bool)->Ct->Bool
 | 0,_,_,_=>F0
 | _+1,ps,[],.l cs=>(Zrk cs ps).bad
 | _+1,_,[],.s _ _=>F0
 | n+1,ps,(f,b)::fs,ct=>match f.step b with
  | .ps l=>chk n (ps++l) fs ct
  | .two f b g c=>chk n ps ((f,b)::(g,c)::fs) ct
  | .alt f b g c=>match ct with
   | .s x y=>chk n ps ((f,b)::fs) x&&chk n ps ((g,c)::fs) y
   | .l _=>F0
  | .done=>T1
  | .not f b=>chk n ps ((f,b)::fs) ct
theorem Yb {J:List Nat}{ζ:List Int}:∀(n:Nat) (ps:List P) (fs:List (F×Bool)) (ct:Ct),chk n ps fs ct=T1->(∀p∈ps,p.ev J ζ<=0)->(∀f∈fs,sg J ζ f.1 f.2)->False
 | 0,_,_,_,h,_,_=>by cases h
 | n+1,ps,[],.l cs,h,hp,_=>by
  have h1:=Zl3 cs ps hp
  have h2:=Zrl (J:=J) (ζ:=ζ) h
  lia
 | n+1,ps,[],.s _ _,h,_,_=>by cases h
 | n+1,ps,(f,b)::fs,ct,h,hp,hf=>by
  have hf0:=hf (f,b) Bf
  have hfr:∀g∈fs,sg J ζ g.1 g.2:=λg hg=>hf g (Bb _ hg)
  have cons2:∀{g:F}{c:Bool},sg J ζ g c->∀x∈(g,c)::fs,sg J ζ x.1 x.2:=λhg x hx=>by
   rcases Be.mp hx with rfl | hx
   .exact hg
   .exact hfr x hx
  have app:∀{l:List P},(∀p∈l,p.ev J ζ<=0)->∀p∈ps++l,p.ev J ζ<=0:=λhl p hm=>by
   rcases Bm.mp hm with h | h
   .exact hp p h
   .exact hl p h
  have o1:∀{p q:P}{c:Int},p.ev J ζ-q.ev J ζ+c<=0->∀x∈[Zb2 p q c],x.ev J ζ<=0:=λhq x hx=>by
   rw[Bo.mp hx,Zcg];exact hq
  cases f with
  | le x y=>
   cases b with
   | true=>exact Yb n _ fs ct h (app (o1 (by have:x.den J<=y.den J:=hf0;simp only[T.ev_pol];lia))) hfr
   | false=>exact Yb n _ fs ct h (app (o1 (by have:¬ x.den J<=y.den J:=hf0;simp only[T.ev_pol];lia))) hfr
  | lt x y=>
   cases b with
   | true=>exact Yb n _ fs ct h (app (o1 (by have:x.den J<y.den J:=hf0;simp only[T.ev_pol];lia))) hfr
   | false=>exact Yb n _ fs ct h (app (o1 (by have:¬ x.den J<y.den J:=hf0;simp only[T.ev_pol];lia))) hfr
  | eq x y=>
   cases b with
   | true=>
    have hq:x.den J=y.den J:=hf0
    exact Yb n _ fs ct h (app λp hm=>by
     rcases Be.mp hm with rfl | hm
     .rw[Zcg];simp only[T.ev_pol];lia
     .rw[Bo.mp hm,Zcg];simp only[T.ev_pol];lia) hfr
   | false=>
    have hq:¬ x.den J=y.den J:=hf0
    cases ct with
    | l _=>cases h
    | s a c=>
     have h:=Cg.mp h
     rcases Nat.lt_or_gt_of_ne hq with h0 | h0
     .exact Yb n _ _ a h.1 hp (cons2 (show sg J ζ (.lt x y) T1 from h0))
     .exact Yb n _ _ c h.2 hp (cons2 (show sg J ζ (.lt y x) T1 from h0))
  | zle x y=>
   cases b with
   | true=>exact Yb n _ fs ct h (app (o1 (by have:x.den J ζ<=y.den J ζ:=hf0;simp only[Z.ev_pol];lia))) hfr
   | false=>exact Yb n _ fs ct h (app (o1 (by have:¬ x.den J ζ<=y.den J ζ:=hf0;simp only[Z.ev_pol];lia))) hfr
  | zlt x y=>
   cases b with
   | true=>exact Yb n _ fs ct h (app (o1 (by have:x.den J ζ<y.den J ζ:=hf0;simp only[Z.ev_pol];lia))) hfr
   | false=>exact Yb n _ fs ct h (app (o1 (by have:¬ x.den J ζ<y.den J ζ:=hf0;simp only[Z.ev_pol];lia))) hfr
  | zeq x y=>
   cases b with
   | true=>
    have hq:x.den J ζ=y.den J ζ:=hf0
    exact Yb n _ fs ct h (app λp hm=>by
     rcases Be.mp hm with rfl | hm
     .rw[Zcg];simp only[Z.ev_pol];lia
     .rw[Bo.mp hm,Zcg];simp only[Z.ev_pol];lia) hfr
   | false=>
    have hq:¬ x.den J ζ=y.den J ζ:=hf0
    cases ct with
    | l _=>cases h
    | s a c=>
     have h:=Cg.mp h
     rcases Int.lt_or_gt_of_ne hq with h0 | h0
     .exact Yb n _ _ a h.1 hp (cons2 (show sg J ζ (.zlt x y) T1 from h0))
     .exact Yb n _ _ c h.2 hp (cons2 (show sg J ζ (.zlt y x) T1 from h0))
  | no f=>
   refine Yb n _ _ ct h hp (cons2 ?_)
   cases b with
   | true=>exact hf0
   | false=>exact Classical.not_not.mp hf0
  | an f g=>
   cases b with
   | true=>
    have hq:f.den J ζ/\g.den J ζ:=hf0
    refine Yb n _ _ ct h hp λx hx=>?_
    rcases Be.mp hx with rfl | hx
    .exact hq.1
    .exact cons2 (show sg J ζ g T1 from hq.2) x hx
   | false=>
    have hq:¬ (f.den J ζ/\g.den J ζ):=hf0
    cases ct with
    | l _=>cases h
    | s a c=>
     have h:=Cg.mp h
     rcases Classical.not_and_iff_not_or_not.mp hq with h0 | h0
     .exact Yb n _ _ a h.1 hp (cons2 (show sg J ζ f F0 from h0))
     .exact Yb n _ _ c h.2 hp (cons2 (show sg J ζ g F0 from h0))
  | or f g=>
   cases b with
   | true=>
    have hq:f.den J ζ\/g.den J ζ:=hf0
    cases ct with
    | l _=>cases h
    | s a c=>
     have h:=Cg.mp h
     rcases hq with h0 | h0
     .exact Yb n _ _ a h.1 hp (cons2 (show sg J ζ f T1 from h0))
     .exact Yb n _ _ c h.2 hp (cons2 (show sg J ζ g T1 from h0))
   | false=>
    have hq:¬ (f.den J ζ\/g.den J ζ):=hf0
    have hq:=not_or.mp hq
    refine Yb n _ _ ct h hp λx hx=>?_
    rcases Be.mp hx with rfl | hx
    .exact hq.1
    .exact cons2 (show sg J ζ g F0 from hq.2) x hx
  | ff=>
   cases b with
   | true=>exact hf0
   | false=>exact Yb n _ fs ct h (app λp hm=>by cases hm) hfr
def imp (J:List Nat)(ζ:List Int)(g:F):List F->Prop
 | []=>g.den J ζ
 | h::hs=>h.den J ζ->imp J ζ g hs
theorem Zon {J:List Nat}{ζ:List Int}{g:F}:∀(hs:List F),((∀h∈hs,h.den J ζ)->g.den J ζ)->imp J ζ g hs
 | [],k=>k λu_ h=>nomatch h
 | h::hs,k=>λx=>Zon hs λy=>k λz hz=>by
  rcases Be.mp hz with rfl | hz
  .exact x
  .exact y z hz
theorem lin (hs:List F)(g:F)(ct:Ct)(ok:chk 400 [] ((g,F0)::hs.map λh=>(h,T1)) ct=T1)(J:List Nat)(ζ:List Int):imp J ζ g hs :=
 Zon hs λh=>D3 λhn=>Yb 400 [] _ ct ok (λu_ h=>nomatch h) λf hf=>by
  rcases Be.mp hf with rfl | hf
  .exact hn
  .refine byC λXX=>?_;obtain ⟨x,hx,rfl⟩:=C0.mp hf;apply XX
   exact h x hx
theorem Zc (a b:Nat):(b<=a/\a-b+b=a)\/(a<=b/\a-b=0):=by
 rcases Kh b a with h | h
 .exact .inl ⟨h,Nat.sub_add_cancel h⟩
 .exact .inr ⟨h,Ks h⟩
theorem Wa (a n:Nat)(h:0<n):n*(a / n)<=a/\a<n*(a / n)+n:=⟨Nat.mul_div_le a n,Nat.lt_mul_div_succ a h⟩
theorem W7 (x:Int):(0<=x/\(x.toNat:Int)=x)\/(x<=0/\x.toNat=0):=by
 rcases Lc 0 x with h | h
 .exact .inl ⟨h,Ij h⟩
 .exact .inr ⟨h,L6 h⟩
theorem Ys (a b:Nat):(a<=b/\min a b=a)\/(b<=a/\min a b=b):=by
 rcases Kh a b with h | h
 .exact .inl ⟨h,Kn h⟩
 .exact .inr ⟨h,I2 h⟩
theorem Q8 (a b:Nat):(a<=b/\max a b=b)\/(b<=a/\max a b=a):=by
 rcases Kh a b with h | h
 .exact .inl ⟨h,Kb h⟩
 .exact .inr ⟨h,M0 h⟩
theorem ln1 (hs:List F)(g:F)(ct:Ct)(ok:chk 400 [] ((g,F0)::hs.map λh=>(h,T1)) ct=T1){a:Nat}:imp [a] [] g hs:=lin hs g ct ok [a] []
theorem ln2 (hs:List F)(g:F)(ct:Ct)(ok:chk 400 [] ((g,F0)::hs.map λh=>(h,T1)) ct=T1){a b:Nat}:imp [a,b] [] g hs:=lin hs g ct ok [a,b] []
theorem ln3 (hs:List F)(g:F)(ct:Ct)(ok:chk 400 [] ((g,F0)::hs.map λh=>(h,T1)) ct=T1){a b c:Nat}:imp [a,b,c] [] g hs:=lin hs g ct ok [a,b,c] []
theorem ln4 (hs:List F)(g:F)(ct:Ct)(ok:chk 400 [] ((g,F0)::hs.map λh=>(h,T1)) ct=T1){a b c d:Nat}:imp [a,b,c,d] [] g hs:=lin hs g ct ok [a,b,c,d] []
theorem ln5 (hs:List F)(g:F)(ct:Ct)(ok:chk 400 [] ((g,F0)::hs.map λh=>(h,T1)) ct=T1){a b c d e:Nat}:imp [a,b,c,d,e] [] g hs:=lin hs g ct ok [a,b,c,d,e] []
theorem ln6 (hs:List F)(g:F)(ct:Ct)(ok:chk 400 [] ((g,F0)::hs.map λh=>(h,T1)) ct=T1){a b c d e x:Nat}:imp [a,b,c,d,e,x] [] g hs:=lin hs g ct ok [a,b,c,d,e,x] []
theorem lz1 (hs:List F)(g:F)(ct:Ct)(ok:chk 400 [] ((g,F0)::hs.map λh=>(h,T1)) ct=T1){a:Int}:imp [] [a] g hs:=lin hs g ct ok [] [a]
theorem lz3 (hs:List F)(g:F)(ct:Ct)(ok:chk 400 [] ((g,F0)::hs.map λh=>(h,T1)) ct=T1){a b c:Int}:imp [] [a,b,c] g hs:=lin hs g ct ok [] [a,b,c]
theorem lz4 (hs:List F)(g:F)(ct:Ct)(ok:chk 400 [] ((g,F0)::hs.map λh=>(h,T1)) ct=T1){a b c d:Int}:imp [] [a,b,c,d] g hs:=lin hs g ct ok [] [a,b,c,d]
theorem lz5 (hs:List F)(g:F)(ct:Ct)(ok:chk 400 [] ((g,F0)::hs.map λh=>(h,T1)) ct=T1){a b c d e:Int}:imp [] [a,b,c,d,e] g hs:=lin hs g ct ok [] [a,b,c,d,e]
end Mini.Internal.Lin
open Mini.Internal.Lin (lin Zc W7 Ys Q8 Wa ln1 ln2 ln3 ln4 ln5 ln6 lz1 lz3 lz4 lz5)
namespace Mini.Internal.Lin
structure Al (τ:Type) where
 b:Bool
 v:Nat->τ
 k:Nat->τ
 a:τ->τ->τ
 s:τ->τ->τ
 g:τ->τ
 m:Nat->τ->τ
 le:τ->τ->F
 lt:τ->τ->F
 eq:τ->τ->F
noncomputable def aT:Al T:=⟨F0,.v,.k,.a,.a,id,.m,.le,.lt,.eq⟩
noncomputable def aZ:Al Z:=⟨T1,.v,λn=>.k n,.a,.s,.g,λn=>.m n,.zle,.zlt,.zeq⟩
noncomputable def nx {τ:Type}(A:Al τ)(go:Nat->List τ->List F->List F)(d c:Nat)(x y z:τ)(t r:List τ)(f g:F)(q h fs:List F):List F :=
 bif Kk d 4 then go c (A.v d::t) fs else
 bif Dj d 5 then go c (A.a x y::r) fs else
 bif Dj d 6 then go c r (A.le x y::fs) else
 bif Dj d 7 then go c r (A.lt x y::fs) else
 bif Dj d 8 then go c r (A.eq x y::fs) else
 bif Dj d 9 then go c t (.no f::q) else
 bif Dj d 10 then go c (A.k 1::t) fs else
 bif Dj d 11 then go c (A.k 0::t) fs else
 bif Dj d 12 then bif A.b then go c (A.s x y::r) fs else go c r.tail (.or (.an (A.le z y) (A.eq (A.a x z) y)) (.an (A.le y z) (A.eq x (A.k 0)))::fs) else
 bif Dj d 14 then go (c / 16^(c % 16+1)) (A.k (c / 16 % 16^(c % 16))::t) fs else
 bif Dj d 15 then go c t (.an f g::h) else
 bif Dj (c % 16) 0 then go (c / 16) t (.or f g::h) else
 bif Kk (c % 16) 7 then go (c / 16) (A.v (c % 16+4)::t) fs else
 bif Dj (c % 16) 8 then go (c / 256) (A.m (c / 16 % 16) x::t.tail) fs else
 bif Dj (c % 16) 9 then go (c / 16) (A.g x::t.tail) fs else
 bif Dj (c % 16) 10 then go (c / 16) r.tail (.or (.an (A.le y z) (A.eq x y)) (.an (A.le z y) (A.eq x z))::fs) else
 bif Dj (c % 16) 11 then go (c / 16) r.tail (.or (.an (A.le y z) (A.eq x z)) (.an (A.le z y) (A.eq x y))::fs) else
 go (c / 16) t (.ff::fs)
noncomputable def dec {τ:Type}(A:Al τ):Nat->Nat->List τ->List F->List F
 | 0,_,_,fs=>fs
 | n+1,c,t,fs=>bif Kk c 1 then fs else nx A (dec A n) (c % 16) (c / 16) (at_ (A.k 0) t 0) (at_ (A.k 0) t 1) (at_ (A.k 0) t 2) t t.tail.tail (at_ .ff fs 0) (at_ .ff fs 1) fs.tail fs.tail.tail fs
noncomputable def dct:Nat->Nat->List Nat->List Ct->Ct
 | 0,_,l,_=>.l l
 | n+1,c,l,cs=>bif Dj (c % 16) 12 then at_ (.l l) cs 0 else bif Kk (c % 16) 9 then dct n (c / 16) (c % 16::l) cs else bif Dj (c % 16) 10 then dct n (c / 16) [] (.l l::cs) else dct n (c / 16) l (.s (at_ (.l l) cs 0) (at_ (.l l) cs 1)::cs.tail.tail)
noncomputable def cut:Nat->Nat->Nat
 | 0,c=>c
 | n+1,c=>bif Dj (c % 16) 12 then c / 16 else cut n (c / 16)
def all (J:List Nat)(ζ:List Int):List F->Prop
 | []=>True
 | g::hs=>imp J ζ g hs
noncomputable def okf (ct:Ct):List F->Bool
 | []=>T1
 | g::hs=>chk 400 [] ((g,F0)::hs.map λh=>(h,T1)) ct
theorem Zci (ct:Ct)(J:List Nat)(ζ:List Int):∀fs:List F,okf ct fs=T1->all J ζ fs
 | [],_=>trivial
 | g::hs,ok=>lin hs g ct ok J ζ
theorem Tt:T1=T1:=rfl
def dN (c:Nat):List F:=dec aT 900 (cut 900 c) [] []
def dZ (c:Nat):List F:=dec aZ 900 (cut 900 c) [] []
def dC (c:Nat):Ct:=dct 900 c [] []
theorem Na (c:Nat)(ok:okf (dC c) (dN c)=T1){x:Nat}:all [x] [] (dN c):=Zci _ _ _ _ ok
theorem Nb (c:Nat)(ok:okf (dC c) (dN c)=T1){x y:Nat}:all [x,y] [] (dN c):=Zci _ _ _ _ ok
theorem Nc (c:Nat)(ok:okf (dC c) (dN c)=T1){x y z:Nat}:all [x,y,z] [] (dN c):=Zci _ _ _ _ ok
theorem Nd (c:Nat)(ok:okf (dC c) (dN c)=T1){x y z w:Nat}:all [x,y,z,w] [] (dN c):=Zci _ _ _ _ ok
theorem Ni (c:Nat)(ok:okf (dC c) (dN c)=T1){x y z w v:Nat}:all [x,y,z,w,v] [] (dN c):=Zci _ _ _ _ ok
theorem Nf (c:Nat)(ok:okf (dC c) (dN c)=T1){x y z w v u:Nat}:all [x,y,z,w,v,u] [] (dN c):=Zci _ _ _ _ ok
theorem Ng (c:Nat)(ok:okf (dC c) (dN c)=T1){x y z w v u t:Nat}:all [x,y,z,w,v,u,t] [] (dN c):=Zci _ _ _ _ ok
theorem Nh (c:Nat)(ok:okf (dC c) (dN c)=T1){x y z w v u t s:Nat}:all [x,y,z,w,v,u,t,s] [] (dN c):=Zci _ _ _ _ ok
theorem Ia (c:Nat)(ok:okf (dC c) (dZ c)=T1){x:Int}:all [] [x] (dZ c):=Zci _ _ _ _ ok
theorem Ib (c:Nat)(ok:okf (dC c) (dZ c)=T1){x y:Int}:all [] [x,y] (dZ c):=Zci _ _ _ _ ok
theorem Ic (c:Nat)(ok:okf (dC c) (dZ c)=T1){x y z:Int}:all [] [x,y,z] (dZ c):=Zci _ _ _ _ ok
theorem Id (c:Nat)(ok:okf (dC c) (dZ c)=T1){x y z w:Int}:all [] [x,y,z,w] (dZ c):=Zci _ _ _ _ ok
theorem Ie (c:Nat)(ok:okf (dC c) (dZ c)=T1){x y z w v:Int}:all [] [x,y,z,w,v] (dZ c):=Zci _ _ _ _ ok
theorem Ig (c:Nat)(ok:okf (dC c) (dZ c)=T1){x y z w v u:Int}:all [] [x,y,z,w,v,u] (dZ c):=Zci _ _ _ _ ok
end Mini.Internal.Lin
open Mini.Internal.Lin (Ia Ib Ic Id Ie Ig Na Nb Nc Nd Nf Ng Nh Ni Tt)
set_option genCtorIdx true
namespace Mini.Internal
open PySem
theorem Zy {α β:Type}{x:Option α}{f:α->Option β}{b:β}{P:Prop}(h:x.bind f=S5 b)(k:∀a,x=S5 a->f a=S5 b->P):P:=by
 cases x with
 | none=>cases h
 | some a=>exact k a rfl h
theorem map_e {α β:Type}{x:Option α}{f:α->β}{b:β}{P:β->Prop}(h:x.map f=S5 b)(k:∀a,x=S5 a->P (f a)):P b:=by
 cases x with
 | none=>cases h
 | some a=>cases h;exact k a rfl
theorem Wb {α β:Type}{x:Option α}{f:α->β}{b:β}{P:Prop}(h:x.map f=S5 b)(k:∀a,x=S5 a->f a=b->P):P:=by
 cases x with
 | none=>cases h
 | some a=>exact k a rfl (B0.inj h)
theorem Zl4 {α:Type}{c:Prop}{dc:Decidable c}{x:Option α}{b:α}{P:Prop}(h:(if c then x else .none)=S5 b)(k:c->x=S5 b->P):P:=by
 by_cases hc:c
 .rw[gp hc] at h;exact k hc h
 .rw[gq hc] at h;cases h
inductive V where
 | none
 | bool (b:Bool)
 | int (i:Int)
 | str (s:Str)
 | tup (l:List V)
 | obj (n:Nat)
 | ty (t:Nat)
 | frz (l:List Int)
inductive O where
 | list (l:List V)
 | inst (c:Nat) (d:Nat)
 | ns (l:List (Nat×V))
 | exc (c:Nat)
abbrev H:=List O
abbrev L:=List (Option V)
noncomputable abbrev o6:L:=[.none,.none,.none,.none,.none,.none]
noncomputable abbrev o8:L:=.none::.none::o6
noncomputable abbrev o9:L:=.none::o8
noncomputable abbrev o10:L:=.none::o9
noncomputable abbrev o11:L:=.none::o10
noncomputable abbrev o12:L:=.none::o11
noncomputable abbrev o13:L:=.none::o12
noncomputable abbrev o14:L:=.none::o13
noncomputable abbrev o15:L:=.none::o14
noncomputable abbrev o16:L:=.none::o15
noncomputable abbrev o19:L:=.none::.none::.none::o16
inductive Bop where | add | sub | mul | fdiv | mod | pow
 deriving DecidableEq
inductive Cop where | eq | ne | lt | le | gt | ge | is | isnot | mem | nmem
 deriving DecidableEq
inductive Blt where | len | max | min | sorted | int | list | isinstance
 deriving DecidableEq
inductive Mth where | append | pop
 deriving DecidableEq
set_option genInjectivity false
set_option genCtorIdx false
mutual
inductive Ex where
 | lit (v:V)
 | var (i:Nat)
 | ty (t:Nat)
 | bin (op:Bop) (a b:Ex)
 | neg (a:Ex)
 | not (a:Ex)
 | and (a b:Ex)
 | or (a b:Ex)
 | cmp (a:Ex) (r:Ch)
 | ife (c a b:Ex)
 | tup (es:Es)
 | lst (es:Es)
 | idx (a i:Ex)
 | slc (a:Ex) (lo hi st:Oe)
 | comp (elt:Ex) (tg:Nat) (it:It) (ifs:Es)
 | call (f:Nat) (as:Es)
 | blt (b:Blt) (as:Es)
 | mth (m:Mth) (o:Ex) (as:Es)
 | ucall (m:Nat) (o:Ex) (as:Es)
 | attr (o:Ex) (a:Nat)
 | new (c:Nat) (as:Es)
inductive Es where
 | nil
 | cons (e:Ex) (es:Es)
inductive Ch where
 | one (op:Cop) (b:Ex)
 | more (op:Cop) (b:Ex) (r:Ch)
inductive Oe where
 | no
 | yes (e:Ex)
inductive It where
 | ex (e:Ex)
 | rng1 (e:Ex)
 | rng2 (a b:Ex)
end
noncomputable abbrev Ex.i (n:Int):Ex:=.lit (.int n)
noncomputable abbrev Ex.v0:Ex:=.var 0
noncomputable abbrev Ex.v1:Ex:=.var 1
noncomputable abbrev Ex.v2:Ex:=.var 2
noncomputable abbrev Ex.v3:Ex:=.var 3
noncomputable abbrev Ex.v4:Ex:=.var 4
noncomputable abbrev Ex.v5:Ex:=.var 5
noncomputable abbrev Ex.v6:Ex:=.var 6
noncomputable abbrev Ex.v7:Ex:=.var 7
noncomputable abbrev Ex.v8:Ex:=.var 8
noncomputable abbrev Ex.v9:Ex:=.var 9
inductive Tg where
 | one (i:Nat)
 | three (i j k:Nat)
mutual
inductive St where
 | expr (e:Ex)
 | asg (t:Tg) (e:Ex)
 | aset (o:Ex) (a:Nat) (e:Ex)
 | iset (o i e:Ex)
 | ret (e:Ex)
 | ife (c:Ex) (a b:Ss)
 | for_ (t:Tg) (it:It) (b:Ss)
 | whl (c:Ex) (b:Ss)
 | brk
 | pass
 | raise (c:Nat)
 | try_ (b:Ss) (c i:Nat) (h:Ss)
inductive Ss where
 | nil
 | cons (s:St) (ss:Ss)
end
set_option genCtorIdx true
inductive R (α:Type) where
 | ok (a:α)
 | exc (c:Nat)
theorem nn {α:Type}{a:α}{P:Prop}(h:Dk=S5 a):P:=nomatch h
theorem ns {α:Type}{a:α}{P:Prop}(h:S5 a=Dk):P:=nomatch h
theorem tf {P:Prop}(h:T1=F0):P:=nomatch h
theorem ft {P:Prop}(h:F0=T1):P:=nomatch h
theorem Zat {a b:Bool}(h:a=T1)(k:b=T1):(a&&b)=T1:=by rw[h,k];rfl
theorem Wy {a b:Bool}(h:(a&&b)=T1):a=T1:=by cases a with
 | true=>rfl
 | false=>exact ft h
theorem Qu {a b:Bool}(h:(a&&b)=T1):b=T1:=by cases a with
 | true=>exact h
 | false=>exact ft h
theorem eo {α:Type}{v:Nat}{w:α}{P:Prop}(h:R.exc v=R.ok w):P:=by cases h
theorem oe {α:Type}{v:Nat}{w:α}{P:Prop}(h:R.ok w=R.exc v):P:=by cases h
theorem soe {α β:Type}{v:Nat}{w:α}{s t:β}{P:Prop}(h:S5 (R.ok w,s)=S5 (R.exc v,t)):P:=by cases h
theorem seo {α β:Type}{v:Nat}{w:α}{s t:β}{P:Prop}(h:S5 (R.exc v,s)=S5 (R.ok w,t)):P:=by cases h
theorem oi {α:Type}{v w:α}(h:R.ok v=R.ok w):v=w:=by cases h;rfl
theorem ei {α:Type}{v w:Nat}(h:R.exc (α:=α) v=R.exc w):v=w:=by cases h;rfl
theorem okJ {α β:Type}{v w:α}{s t:β}(h:S5 (R.ok v,s)=S5 (R.ok w,t)):v=w/\s=t:=by cases h;exact ⟨rfl,rfl⟩
theorem exJ {α β:Type}{v w:Nat}{s t:β}(h:S5 (R.exc (α:=α) v,s)=S5 (R.exc w,t)):v=w/\s=t:=by cases h;exact ⟨rfl,rfl⟩
theorem pJ {α β:Type}{v w:α}{s t:β}(h:S5 (v,s)=S5 (w,t)):v=w/\s=t:=by cases h;exact ⟨rfl,rfl⟩
theorem pJ3 {α β γ:Type}{v w:α}{s t:β}{x y:γ}(h:S5 (v,s,x)=S5 (w,t,y)):v=w/\s=t/\x=y:=by cases h;exact ⟨rfl,rfl,rfl⟩
@[elab_as_elim] theorem eqS {α:Type}{x t:α}{P:α->Prop} (h:x=t) (k:P t):P x:=h▸k
@[elab_as_elim] theorem eqE {α:Type}{x t:α}{P:α->Prop} (h:t=x) (k:P t):P x:=h▸k
@[elab_as_elim] theorem siE {α:Type}{x t:α}{P:α->Prop} (h:S5 t=S5 x) (k:P t):P x:=B0.inj h▸k
@[elab_as_elim] theorem okE {α β:Type}{v w:α}{s t:β}{P:α->β->Prop} (h:S5 (R.ok v,s)=S5 (R.ok w,t)) (k:P v s):P w t:=(okJ h).1▸(okJ h).2▸k
@[elab_as_elim] theorem exE {α β:Type}{v w:Nat}{s t:β}{P:Nat->β->Prop} (h:S5 (R.exc (α:=α) v,s)=S5 (R.exc w,t)) (k:P v s):P w t:=(exJ h).1▸(exJ h).2▸k
@[elab_as_elim] theorem pE {α β:Type}{v w:α}{s t:β}{P:α->β->Prop} (h:S5 (v,s)=S5 (w,t)) (k:P v s):P w t:=(pJ h).1▸(pJ h).2▸k
@[elab_as_elim] theorem piE {α β:Type}{v w:α}{s t:β}{P:α->β->Prop} (h:(v,s)=(w,t)) (k:P v s):P w t:=(Ik.inj h).1▸(Ik.inj h).2▸k
@[elab_as_elim] theorem p3E {α β γ:Type}{v w:α}{s t:β}{x y:γ}{P:α->β->γ->Prop} (h:S5 (v,s,x)=S5 (w,t,y)) (k:P v s x):P w t y:=(pJ3 h).1▸(pJ3 h).2.1▸(pJ3 h).2.2▸k
abbrev X (α:Type):=Option (R α×H)
noncomputable def bnd {α β:Type}(x:X α)(f:α->H->X β):X β :=
 match x with
 | .none=>.none
 | some (.ok a,U)=>f a U
 | some (.exc c,U)=>S5 (.exc c,U)
@[simp] theorem bnd_none {α β:Type}(f:α->H->X β):bnd .none f=.none:=rfl
@[simp] theorem bnd_ok {α β:Type}(a:α)(U:H)(f:α->H->X β):bnd (S5 (.ok a,U)) f=f a U:=rfl
@[simp] theorem bnd_exc {α β:Type}(c:Nat)(U:H)(f:α->H->X β):bnd (S5 (.exc c,U)) f=S5 (.exc c,U):=rfl
noncomputable def bok {α β:Type}(x:X α)(f:α->H->X β):X β :=
 match x with
 | some (.ok a,U)=>f a U
 | _=>.none
@[simp] theorem bok_ok {α β:Type}(a:α)(U:H)(f:α->H->X β):bok (S5 (.ok a,U)) f=f a U:=rfl
theorem Zrm {α β:Type}{x:X α}{f:α->H->X β}{r:R β×H}(h:bok x f=S5 r):∃a U,x=S5 (.ok a,U)/\f a U=S5 r:=by
 cases x with
 | none=>exact nn h
 | some p=>
  refine byC λXX=>?_;obtain ⟨q,U⟩:=p;apply XX
  cases q with
  | ok a=>exact ⟨a,U,rfl,h⟩
  | exc c=>exact nn h
noncomputable def okX {α:Type}(a:Option α)(U:H):X α:=a.map λv=>(.ok v,U)
@[simp] theorem okX_some {α:Type}(a:α)(U:H):okX (S5 a) U=S5 (.ok a,U):=rfl
@[simp] theorem okX_none {α:Type}(U:H):okX (.none:Option α) U=.none:=rfl
noncomputable def okH {α:Type}(a:Option (α×H)):X α:=a.map λv=>(.ok v.1,v.2)
@[simp] theorem okH_some {α:Type}(a:α)(U:H):okH (S5 (a,U))=S5 (.ok a,U):=rfl
@[simp] theorem okH_none {α:Type}:okH (.none:Option (α×H))=.none:=rfl
noncomputable def toD:Nat->H->V->Option aw
 | 0,_,_=>.none
 | f+1,U,v=>match v with
  | .none=>S5 .none
  | .bool b=>S5 (.bool b)
  | .int i=>S5 (.int i)
  | .str s=>if aw.strOk s then S5 (.str s) else .none
  | .tup l=>(l.mapM (toD f U)).map .tuple
  | .obj n=>match U[n]? with
   | some (.list l)=>(l.mapM (toD f U)).map .list
   | _=>.none
  | .ty _=>.none
  | .frz _=>.none
noncomputable def eqV (U:H)(a b:V):Option Bool :=
 match toD 6 U a,toD 6 U b with
 | some x,S5 y=>S5 (aw.eqv x y)
 | _,_=>.none
noncomputable def ltT:List V->List V->Option Bool
 | [],[]=>S5 F0
 | [],_::_=>S5 T1
 | _::_,[]=>S5 F0
 | .int a::r,.int b::s=>if a=b then ltT r s else S5 (decide (a<b))
 | _,_=>.none
noncomputable def Wz:V->Option Bool
 | .bool b=>S5 b
 | .none=>S5 F0
 | _=>.none
noncomputable def Zxi:Nat:=2^21
def Big (a:Int):Prop:=a.natAbs<2^Zxi
def mulOK (a b:Int):Prop:=a.natAbs<2^64\/b.natAbs<2^64\/(Big a/\Big b)
noncomputable def Zo:Nat:=1000000
noncomputable def items (U:H):V->Option (List V)
 | .tup l=>S5 l
 | .frz l=>S5 (l.map .int)
 | .obj n=>match U[n]? with
  | some (.list l)=>S5 l
  | _=>.none
 | _=>.none
noncomputable def Yj (U:H):V->Option (List V)
 | .frz l=>S5 (l.map .int)
 | .obj n=>match U[n]? with
  | some (.list l)=>S5 l
  | _=>.none
 | _=>.none
open Classical in
def Jb (U:H)(l:List V):Option (V×H):=if l.length<=Zo then S5 (.obj U.length,U++[.list l]) else .none
noncomputable def Wg:V->Option Int
 | .int i=>S5 i
 | _=>.none
noncomputable def Zey:V->Option (List V)
 | .tup l=>S5 l
 | _=>.none
theorem Jf {v:V}{i:Int}(h:Wg v=S5 i):v=.int i:=by
 cases v with
 | int j=>obtain rfl:=B0.inj h;rfl
 | _=>exact nn h
theorem Zdd {v:V}{l:List V}(h:Zey v=S5 l):v=.tup l:=by
 cases v with
 | tup j=>obtain rfl:=B0.inj h;rfl
 | _=>exact nn h
noncomputable def Zd8:List V->Option V
 | []=>.none
 | x::r=>match r with
  | []=>S5 x
  | _::_=>.none
theorem Zcj {l:List V}{x:V}(h:Zd8 l=S5 x):l=[x]:=by
 cases l with
 | nil=>exact nn h
 | cons a r=>cases r with
  | nil=>obtain rfl:=B0.inj h;rfl
  | cons _ _=>exact nn h
noncomputable def Zkx:List V->Option (V×V)
 | []=>.none
 | x::r=>(Zd8 r).map λy=>(x,y)
theorem Ziy {l:List V}{p:V×V}(h:Zkx l=S5 p):l=[p.1,p.2]:=by
 cases l with
 | nil=>exact nn h
 | cons a r=>
  refine byC λXX=>?_;obtain ⟨y,hy,rfl⟩:=Bi.mp h;apply XX
  rw[Zcj hy]
open Classical in
noncomputable def Zbu (op:Bop)(x y:Int):Option Int :=
 match op with
 | .add=>S5 (x+y)
 | .sub=>S5 (x-y)
 | .mul=>if mulOK x y then S5 (x*y) else .none
 | .fdiv=>if y≠0/\y.natAbs<2^256 then S5 (x.fdiv y) else .none
 | .mod=>if y≠0 then S5 (x.fmod y) else .none
 | .pow=>if 0<=y/\y<=256/\x.natAbs<2^64 then S5 (x^y.toNat) else .none
def Zuw (U:H)(a b:V):Option (V×H):=(Yj U a).bind λx=>(Yj U b).bind λy=>Jb U (x++y)
def Zxj (U:H)(s:Str)(b:V):Option (V×H):=(Wg b).bind λk=>if k=1 then S5 (.str s,U) else if k=0 then S5 (.str Str.empty,U) else .none
noncomputable def Wp (op:Bop)(a b:V)(U:H):Option (V×H) :=
 match a with
 | .int x=>(Wg b).bind λy=>(Zbu op x y).map λz=>(.int z,U)
 | .obj n=>if op=.add then Zuw U (.obj n) b else .none
 | .str s=>if op=.mul then Zxj U s b else .none
 | _=>.none
noncomputable def Zl5:V->Option Bool
 | .none=>S5 T1
 | .ty _=>.none
 | _=>S5 F0
noncomputable def Zl6 (c:Bool):V->Option Bool
 | .bool d=>S5 (d == c)
 | .int _=>S5 F0
 | .none=>S5 F0
 | _=>.none
noncomputable def isV (a b:V):Option Bool :=
 match b with
 | .none=>Zl5 a
 | .bool c=>Zl6 c a
 | _=>.none
noncomputable def inV (U:H)(x:V)(l:List V):Option Bool :=
 match l.mapM (toD 6 U),toD 6 U x with
 | some ds,S5 d=>S5 (ds.any λy=>aw.eqv y d)
 | _,_=>.none
noncomputable def ltV (a b:V):Option Bool :=
 match a with
 | .int x=>(Wg b).map λy=>decide (x<y)
 | .tup x=>(Zey b).bind (ltT x)
 | _=>.none
def leV (a b:V):Option Bool:=(Wg a).bind λx=>(Wg b).map λy=>decide (x<=y)
noncomputable def Yo (op:Cop)(a b:V)(U:H):Option Bool :=
 match op with
 | .eq=>eqV U a b
 | .ne=>(eqV U a b).map (!·)
 | .lt=>ltV a b
 | .gt=>ltV b a
 | .le=>leV a b
 | .ge=>leV b a
 | .is=>isV a b
 | .isnot=>(isV a b).map (!·)
 | .mem=>(items U b).bind (inV U a)
 | .nmem=>((items U b).bind (inV U a)).map (!·)
noncomputable def Zgc (i:Int)(n:Nat):Option Nat :=
 if 0<=i then (if i<n then S5 i.toNat else .none) else (if 0<=i+n then S5 (i+n).toNat else .none)
def Yh (U:H)(a i:V):Option V:=(Wg i).bind λk=>(items U a).bind λl=>(Zgc k l.length).bind λj=>l[j]?
noncomputable def Yt (i:Int)(n:Nat):Nat:=if i<0 then (i+n).toNat else min i.toNat n
noncomputable def evens {α:Type}:List α->List α
 | []=>[]
 | [x]=>[x]
 | x::_::r=>x::evens r
noncomputable def Zbj:V->Option (Option Int)
 | .none=>S5 .none
 | .int i=>S5 (S5 i)
 | _=>.none
def loN (b:Option Int)(n:Nat):Nat:=b.elim 0 λi=>Yt i n
def hiN (b:Option Int)(n:Nat):Nat:=b.elim n λi=>Yt i n
def Zde (l:List V)(lo hi st:V):Option (List V) :=
 (Zbj lo).bind λa=>(Zbj hi).bind λb=>(Zbj st).bind λc=>
  if c=.none then S5 ((l.take (hiN b l.length)).drop (loN a l.length))
  else if c=S5 2/\b=.none/\a≠.none then S5 (evens (l.drop (loN a l.length))) else .none
def Qm (U:H)(a lo hi st:V):Option (V×H):=(Yj U a).bind λl=>(Zde l lo hi st).bind (Jb U)
noncomputable def Wc:List V->Option (List Int)
 | []=>S5 []
 | .int i::r=>(Wc r).map (i::·)
 | _=>.none
structure T3 where
 a:Int
 b:Int
 c:Int
 deriving DecidableEq,Inhabited
noncomputable def T3.v (x:T3):V:=.tup [.int x.a,.int x.b,.int x.c]
noncomputable def T3.le (x y:T3):Bool:=decide (x.a<y.a)||(decide (x.a=y.a)&&(decide (x.b<y.b)||(decide (x.b=y.b)&&decide (x.c<=y.c))))
noncomputable def Zxk:List V->Option (V×V×V)
 | []=>.none
 | x::r=>(Zkx r).map λp=>(x,p.1,p.2)
def Zrn (v:V):Option T3:=(Zey v).bind λl=>(Zxk l).bind λp=>(Wg p.1).bind λa=>(Wg p.2.1).bind λb=>(Wg p.2.2).map λc=>⟨a,b,c⟩
noncomputable def t3s:List V->Option (List T3)
 | []=>S5 []
 | v::r=>(Zrn v).bind λt=>(t3s r).map (t::·)
def Zbv (l:List V):Option (List V):=(Wc l).elim ((t3s l).map λts=>(ts.mergeSort T3.le).map T3.v) λis=>S5 ((is.mergeSort (λa b=>decide (a<=b))).map .int)
noncomputable def Za1 (c t:Nat):Bool:=c == t||(t == 10&&(c == 11||c == 12||c == 13))
noncomputable def Zoo (c t:Nat):Option Bool:=if (c=12\/c=13)/\(t=12\/t=13) then S5 (c == t) else .none
noncomputable def Zop (o:O)(t:Nat):Option Bool:=match o with
 | .list _=>if t=3 then S5 T1 else .none
 | .exc c=>Zoo c t
 | .inst c _=>if t=c+20 then S5 T1 else .none
 | _=>.none
noncomputable def Zxl (U:H)(v:V)(t:Nat):Option Bool:=match v with
 | .int _=>if t=0 then S5 T1 else if t=1 then S5 F0 else .none
 | .tup _=>if t=2 then S5 T1 else .none
 | .obj n=>(U[n]?).bind λo=>Zop o t
 | _=>.none
noncomputable def Q9:List Int->Int->Int
 | [],m=>m
 | x::r,m=>Q9 r (if m<x then x else m)
noncomputable def Zaa:List Int->Int->Int
 | [],m=>m
 | x::r,m=>Zaa r (if x<m then x else m)
noncomputable def Ziz (f:List Int->Int->Int)(U:H)(as:List V):Option (V×H):=(Zd8 as).bind λa=>((Yj U a).bind Wc).bind λl=>match l with
 | []=>.none
 | x::r=>S5 (.int (f r x),U)
def Zux (f:Int->Int->Int)(U:H)(as:List V):Option (V×H):=(Zkx as).bind λp=>(Wg p.1).bind λx=>(Wg p.2).map λy=>(.int (f x y),U)
noncomputable def Zy4 (U:H):V->Option (V×H)
 | .bool x=>S5 (.int (if x then 1 else 0),U)
 | .int x=>S5 (.int x,U)
 | _=>.none
noncomputable def Zxm:V->Option Nat
 | .ty t=>S5 t
 | _=>.none
noncomputable def Uh (b:Blt)(as:List V)(U:H):Option (V×H) :=
 match b with
 | .len=>(Zd8 as).bind λv=>(items U v).map λl=>(.int l.length,U)
 | .max=>if as.length=1 then Ziz Q9 U as else Zux (λx y=>if x<y then y else x) U as
 | .min=>if as.length=1 then Ziz Zaa U as else Zux (λx y=>if y<x then y else x) U as
 | .sorted=>(Zd8 as).bind λv=>((Yj U v).bind Zbv).bind (Jb U)
 | .int=>(Zd8 as).bind (Zy4 U)
 | .list=>(Zd8 as).bind λv=>(Yj U v).bind (Jb U)
 | .isinstance=>(Zkx as).bind λp=>(Zxm p.2).bind λt=>(Zxl U p.1 t).map λr=>(.bool r,U)
noncomputable def Yk (U:H)(n:Nat)(o:O):H:=U.set n o
noncomputable def Qv:V->Option Nat
 | .obj n=>S5 n
 | _=>.none
def Zoq (U:H)(n:Nat)(l:List V)(as:List V):Option (V×H):=(Zd8 as).bind λx=>if l.length<Zo then S5 (.none,Yk U n (.list (l++[x]))) else .none
def Zro (U:H)(n:Nat)(l:List V)(as:List V):Option (V×H):=if as=[] then l.getLast?.map λx=>(x,Yk U n (.list l.dropLast)) else .none
noncomputable def Qa (m:Mth)(o:V)(as:List V)(U:H):Option (V×H):=(Qv o).bind λn=>(Yj U o).bind λl=>match m with
 | .append=>Zoq U n l as
 | .pop=>Zro U n l as
def Zhl (U:H)(x k v:V):Option H:=(Qv x).bind λn=>(Yj U x).bind λl=>(Wg k).bind λi=>if 0<=i/\i<(l.length:Int) then S5 (Yk U n (.list (l.set i.toNat v))) else .none
noncomputable def Zd9 (U:H):V->Option (Nat×List (Nat×V))
 | .obj n=>match U[n]? with
  | some (.inst _ d)=>match U[d]? with
   | some (.ns l)=>S5 (d,l)
   | _=>.none
  | _=>.none
 | _=>.none
noncomputable def V.isNone:V->Bool
 | .none=>T1
 | _=>F0
noncomputable def Zck:List (Nat×V)->Nat->V->List (Nat×V)
 | [],a,v=>[(a,v)]
 | (b,w)::r,a,v=>if b=a then (b,v)::r else (b,w)::Zck r a v
inductive Mode where | pure | fresh | raw
 deriving DecidableEq
structure Fn where
 ps:List Nat
 size:Nat
 body:Ss
 mode:Mode
structure Pg where
 fn:Nat->Option Fn
 mt:Nat->Nat->Option Nat
 init:Nat->Option Nat
noncomputable def Za2 (pg:Pg)(U:H):V->Nat->Option Nat
 | .obj n,m=>match U[n]? with
  | some (.inst c d)=>match U[d]? with
   | some (.ns _)=>pg.mt c m
   | _=>.none
  | _=>.none
 | _,_=>.none
mutual
noncomputable def below (n:Nat):V->Bool
 | .obj m=>decide (m<n)
 | .tup l=>belows n l
 | _=>T1
noncomputable def belows (n:Nat):List V->Bool
 | []=>T1
 | v::r=>below n v&&belows n r
end
open Classical in
noncomputable def gcP (U:H)(r:R V)(U':H):X V :=
 match r with
 | .ok v=>if U'.take U.length=U/\below U.length v=T1 then S5 (.ok v,U) else .none
 | .exc c=>if U'.take U.length=U then S5 (.exc c,U) else .none
open Classical in
noncomputable def gcF (U:H)(r:R V)(U':H):X V :=
 match r with
 | .ok v=>(Qv v).bind λm=>if U'.take U.length=U then (if m<U.length then S5 (.ok (.obj m),U) else (Yj U' (.obj m)).bind λl=>if belows U.length l=T1 then S5 (.ok (.obj U.length),U++[.list l]) else .none) else .none
 | .exc _=>.none
noncomputable def gc (m:Mode)(U:H)(x:X V):X V :=
 match m with
 | .raw=>x
 | .pure=>x.bind λp=>gcP U p.1 p.2
 | .fresh=>x.bind λp=>gcF U p.1 p.2
inductive Fl where
 | next
 | brk
 | ret (v:V)
 | exc (c:Nat)
abbrev Y:=Option (Fl×L×H)
noncomputable def Zdf {α:Type}(x:X α)(Z:L)(f:α->H->Y):Y :=
 match x with
 | .none=>.none
 | some (.ok a,U)=>f a U
 | some (.exc c,U)=>S5 (.exc c,Z,U)
@[simp] theorem bndY_none {α:Type}(Z:L)(f:α->H->Y):Zdf (.none:X α) Z f=.none:=rfl
@[simp] theorem bndY_ok {α:Type}(a:α)(U:H)(Z:L)(f:α->H->Y):Zdf (S5 (.ok a,U)) Z f=f a U:=rfl
@[simp] theorem bndY_exc {α:Type}(c:Nat)(U:H)(Z:L)(f:α->H->Y):Zdf (S5 (.exc c,U):X α) Z f=S5 (.exc c,Z,U):=rfl
noncomputable def Zea (x:Y)(f:L->H->Y):Y :=
 match x with
 | some (.next,Z,U)=>f Z U
 | r=>r
@[simp] theorem seqY_next (Z:L)(U:H)(f:L->H->Y):Zea (S5 (.next,Z,U)) f=f Z U:=rfl
@[simp] theorem seqY_ret (v:V)(Z:L)(U:H)(f:L->H->Y):Zea (S5 (.ret v,Z,U)) f=S5 (.ret v,Z,U):=rfl
@[simp] theorem seqY_brk (Z:L)(U:H)(f:L->H->Y):Zea (S5 (.brk,Z,U)) f=S5 (.brk,Z,U):=rfl
@[simp] theorem seqY_exc (c:Nat)(Z:L)(U:H)(f:L->H->Y):Zea (S5 (.exc c,Z,U)) f=S5 (.exc c,Z,U):=rfl
@[simp] theorem seqY_none (f:L->H->Y):Zea .none f=.none:=rfl
noncomputable def Qn (Z:L)(i:Nat)(v:V):Option L:=if i<Z.length then S5 (Z.set i (S5 v)) else .none
noncomputable def Xu:List Nat->List V->L->Option L
 | [],[],Z=>S5 Z
 | i::is,v::vs,Z=>(Qn Z i v).bind (Xu is vs)
 | _,_,_=>.none
noncomputable def Xn (t:Tg)(v:V)(Z:L):Option L :=
 match t with
 | .one i=>Qn Z i v
 | .three i j k=>(Zey v).bind λvs=>Xu [i,j,k] vs Z
structure Src where
 vs:List V
 keep:H->Prop
noncomputable def Zgd {α:Type}(x:X α)(f:α->H->Y):Y :=
 match x with
 | some (.ok a,U)=>f a U
 | _=>.none
theorem Zez {α:Type}{x:X α}{f:α->H->Y}{r:Fl×L×H}(h:Zgd x f=S5 r):∃a U,x=S5 (.ok a,U)/\f a U=S5 r:=by
 cases x with
 | none=>exact nn h
 | some p=>
  refine byC λXX=>?_;obtain ⟨q,U⟩:=p;apply XX
  cases q with
  | ok a=>exact ⟨a,U,rfl,h⟩
  | exc c=>exact nn h
noncomputable def Zcl (y:Y)(k:L->H->Y):Y :=
 match y with
 | some (.next,Z,U)=>k Z U
 | some (.brk,Z,U)=>S5 (.next,Z,U)
 | some (.ret v,Z,U)=>S5 (.ret v,Z,U)
 | _=>.none
open Classical in
noncomputable def Zbw (body:L->H->X (Option V))(tg:Nat)(keep:H->Prop):List V->List V->L->H->X (List V)
 | [],acc,_,U=>S5 (.ok acc,U)
 | v::r,acc,Z,U=>(Qn Z tg v).bind λZ'=>bok (body Z' U) λy U'=>if keep U'/\acc.length<Zo then Zbw body tg keep r (acc++y.toList) Z' U' else .none
open Classical in
noncomputable def Qw (body:L->H->Y)(t:Tg)(keep:H->Prop):List V->L->H->Y
 | [],Z,U=>S5 (.next,Z,U)
 | v::r,Z,U=>(Xn t v Z).bind λZ'=>Zcl (body Z' U) λZ2 U2=>if keep U2 then Qw body t keep r Z2 U2 else .none
noncomputable def Xl (test:L->H->X V)(body:L->H->Y):Nat->L->H->Y
 | 0,_,_=>.none
 | n+1,Z,U=>Zgd (test Z U) λv U1=>(Wz v).bind λb=>if b then Zcl (body Z U1) λZ2 U2=>Xl test body n Z2 U2 else S5 (.next,Z,U1)
noncomputable def Za3:Nat:=2^16
structure Cl where
 pg:Pg
 call:Nat->List V->H->X V
noncomputable def Zor (a b:Int):List V:=(C6 (b-a).toNat).map λk=>V.int (a+(k:Nat))
mutual
noncomputable def Zg (C:Cl):Ex->L->H->X V
 | .lit v,_,U=>S5 (.ok v,U)
 | .var i,Z,U=>okX (Z[i]?.join) U
 | .ty t,_,U=>S5 (.ok (.ty t),U)
 | .bin op a b,Z,U=>bok (Zg C a Z U) λx U1=>bok (Zg C b Z U1) λy U2=>okH (Wp op x y U2)
 | .neg a,Z,U=>bok (Zg C a Z U) λx U1=>match x with
  | .int i=>S5 (.ok (.int (-i)),U1)
  | _=>.none
 | .not a,Z,U=>bok (Zg C a Z U) λx U1=>okX ((Wz x).map λb=>V.bool (!b)) U1
 | .and a b,Z,U=>bok (Zg C a Z U) λx U1=>match Wz x with
  | some T1=>Zg C b Z U1
  | some F0=>S5 (.ok x,U1)
  | .none=>.none
 | .or a b,Z,U=>bok (Zg C a Z U) λx U1=>match Wz x with
  | some T1=>S5 (.ok x,U1)
  | some F0=>Zg C b Z U1
  | .none=>.none
 | .cmp a r,Z,U=>bok (Zg C a Z U) λx U1=>Ze0 C x r Z U1
 | .ife c a b,Z,U=>bok (Zg C c Z U) λx U1=>match Wz x with
  | some T1=>Zg C a Z U1
  | some F0=>Zg C b Z U1
  | .none=>.none
 | .tup es,Z,U=>bok (Y8 C es Z U) λvs U1=>if vs.length<=Zo then S5 (.ok (.tup vs),U1) else .none
 | .lst es,Z,U=>bok (Y8 C es Z U) λvs U1=>okH (Jb U1 vs)
 | .idx a i,Z,U=>bok (Zg C a Z U) λx U1=>bok (Zg C i Z U1) λy U2=>okX (Yh U2 x y) U2
 | .slc a lo hi st,Z,U=>bok (Zg C a Z U) λx U1=>bok (Zb3 C lo Z U1) λl U2=>bok (Zb3 C hi Z U2) λu U3=>bok (Zb3 C st Z U3) λs U4 =>
   okH (Qm U4 x l u s)
 | .comp elt tg it ifs,Z,U=>bok (Wq C it Z U) λsrc U1 =>
   bok (Zbw (λZ' U'=>bok (Jo C ifs Z' U') λb U2=>if b then bok (Zg C elt Z' U2) λv U3=>S5 (.ok (S5 v),U3) else S5 (.ok .none,U2)) tg src.keep src.vs [] Z U1) λvs U2=>
    S5 (.ok (.obj U2.length),U2++[.list vs])
 | .call f as,Z,U=>bok (Y8 C as Z U) λvs U1=>C.call f vs U1
 | .blt b as,Z,U=>bok (Y8 C as Z U) λvs U1=>okH (Uh b vs U1)
 | .mth m o as,Z,U=>bok (Zg C o Z U) λx U1=>(Yj U1 x).bind λu_=>bok (Y8 C as Z U1) λvs U2=>okH (Qa m x vs U2)
 | .ucall m o as,Z,U=>bok (Zg C o Z U) λx U1=>(Za2 C.pg U1 x m).bind λf=>bok (Y8 C as Z U1) λvs U2=>C.call f (x::vs) U2
 | .attr o a,Z,U=>bok (Zg C o Z U) λx U1=>okX ((Zd9 U1 x).bind λp=>p.2.lookup a) U1
 | .new c _,_,U=>(C.pg.init c).bind λf=>bok (C.call f [.obj (U.length+1)] (U++[.ns []]++[.inst c U.length])) λr U2=>if r.isNone then S5 (.ok (.obj (U.length+1)),U2) else .none
noncomputable def Y8 (C:Cl):Es->L->H->X (List V)
 | .nil,_,U=>S5 (.ok [],U)
 | .cons e es,Z,U=>bok (Zg C e Z U) λv U1=>bok (Y8 C es Z U1) λvs U2=>S5 (.ok (v::vs),U2)
noncomputable def Ze0 (C:Cl)(x:V):Ch->L->H->X V
 | .one op b,Z,U=>bok (Zg C b Z U) λy U1=>okX ((Yo op x y U1).map V.bool) U1
 | .more op b r,Z,U=>bok (Zg C b Z U) λy U1=>match Yo op x y U1 with
  | some T1=>Ze0 C y r Z U1
  | some F0=>S5 (.ok (.bool F0),U1)
  | .none=>.none
noncomputable def Zb3 (C:Cl):Oe->L->H->X V
 | .no,_,U=>S5 (.ok .none,U)
 | .yes e,Z,U=>Zg C e Z U
noncomputable def Wq (C:Cl):It->L->H->X Src
 | .ex e,Z,U=>bok (Zg C e Z U) λx U1=>match x with
  | .tup l=>S5 (.ok ⟨l,λu_=>True⟩,U1)
  | .frz l=>S5 (.ok ⟨l.map .int,λu_=>True⟩,U1)
  | .obj n=>match U1[n]? with
   | some (.list l)=>S5 (.ok ⟨l,λU'=>U'[n]?=S5 (.list l)⟩,U1)
   | _=>.none
  | _=>.none
 | .rng1 e,Z,U=>bok (Zg C e Z U) λx U1=>match x with
  | .int b=>if -Zo<=b/\b<=Zo then S5 (.ok ⟨Zor 0 b,λu_=>True⟩,U1) else .none
  | _=>.none
 | .rng2 a b,Z,U=>bok (Zg C a Z U) λx U1=>bok (Zg C b Z U1) λy U2=>match x,y with
  | .int a,.int b=>if (-Zo<=a/\a<=Zo)/\(-Zo<=b/\b<=Zo) then S5 (.ok ⟨Zor a b,λu_=>True⟩,U2) else .none
  | _,_=>.none
noncomputable def Jo (C:Cl):Es->L->H->X Bool
 | .nil,_,U=>S5 (.ok T1,U)
 | .cons e es,Z,U=>bok (Zg C e Z U) λv U1=>match Wz v with
  | some T1=>Jo C es Z U1
  | some F0=>S5 (.ok F0,U1)
  | .none=>.none
end
def noX {α:Type}(x:X α):X α:=bok x λa U=>S5 (.ok a,U)
noncomputable def Qd (C:Cl):Ex->L->H->X V
 | .call f as,Z,U=>Zg C (.call f as) Z U
 | e,Z,U=>noX (Zg C e Z U)
noncomputable def X1 (C:Cl):Es->L->H->X (List V)
 | .nil,_,U=>S5 (.ok [],U)
 | .cons e es,Z,U=>bnd (Qd C e Z U) λv U1=>bnd (X1 C es Z U1) λvs U2=>S5 (.ok (v::vs),U2)
noncomputable def Jp (C:Cl):Ex->L->H->X V
 | .call f as,Z,U=>bnd (X1 C as Z U) λvs U1=>C.call f vs U1
 | .ucall m o as,Z,U=>Zg C (.ucall m o as) Z U
 | e,Z,U=>noX (Zg C e Z U)
noncomputable def Zi0 (y:Y):Y :=
 match y with
 | some (.exc _,_,_)=>.none
 | r=>r
noncomputable def Zky (y:Y):Y:=y.map λr=>(r.1,[],r.2.2)
noncomputable def Ze1 (y:Y)(k i:Nat)(f:L->H->Y):Y :=
 match y with
 | some (.exc c,Z,U)=>if Za1 c k then (Qn Z i (.obj U.length)).bind λZ1=>Zky (Zi0 (f Z1 (U++[.exc c]))) else .none
 | r=>r
mutual
noncomputable def exec (C:Cl):St->L->H->Y
 | .expr e,Z,U=>Zdf (Jp C e Z U) Z λu_ U1=>S5 (.next,Z,U1)
 | .asg t e,Z,U=>Zdf (Jp C e Z U) Z λv U1=>(Xn t v Z).map λZ'=>(Fl.next,Z',U1)
 | .aset o a e,Z,U=>Zdf (Jp C e Z U) Z λv U1=>Zgd (Zg C o Z U1) λx U2=>(Zd9 U2 x).map λp=>(Fl.next,Z,Yk U2 p.1 (.ns (Zck p.2 a v)))
 | .iset o i e,Z,U=>Zdf (Jp C e Z U) Z λv U1=>Zgd (Zg C o Z U1) λx U2=>Zgd (Zg C i Z U2) λk U3=>(Zhl U3 x k v).map λU4=>(Fl.next,Z,U4)
 | .ret e,Z,U=>Zdf (Jp C e Z U) Z λv U1=>S5 (.ret v,Z,U1)
 | .ife c a b,Z,U=>Zgd (Zg C c Z U) λv U1=>match Wz v with
  | some T1=>execs C a Z U1
  | some F0=>execs C b Z U1
  | .none=>.none
 | .for_ t it b,Z,U=>Zgd (Wq C it Z U) λsrc U1=>Qw (execs C b) t src.keep src.vs Z U1
 | .whl c b,Z,U=>Xl (Zg C c) (execs C b) Za3 Z U
 | .brk,Z,U=>S5 (.brk,Z,U)
 | .pass,Z,U=>S5 (.next,Z,U)
 | .raise c,Z,U=>S5 (.exc c,Z,U)
 | .try_ b k i h,Z,U=>Ze1 (execs C b Z U) k i λZ1 U1=>execs C h Z1 U1
noncomputable def execs (C:Cl):Ss->L->H->Y
 | .nil,Z,U=>S5 (.next,Z,U)
 | .cons s ss,Z,U=>Zea (exec C s Z U) λZ1 U1=>execs C ss Z1 U1
end
theorem Ye {α β:Type}{x:X α}{f:α->H->X β}{r:R β×H}{P:Prop}(h:bok x f=S5 r)(k:∀a U,x=S5 (.ok a,U)->f a U=S5 r->P):P :=
 let ⟨a,U,h1,h2⟩:=Zrm h;k a U h1 h2
theorem Zhm {α:Type}{x:X α}{f:α->H->Y}{r:Fl×L×H}{P:Prop}(h:Zgd x f=S5 r)(k:∀a U,x=S5 (.ok a,U)->f a U=S5 r->P):P :=
 let ⟨a,U,h1,h2⟩:=Zez h;k a U h1 h2
noncomputable def Zab (y:Y):X V :=
 match y with
 | some (.ret v,_,U)=>S5 (.ok v,U)
 | some (.next,_,U)=>S5 (.ok .none,U)
 | some (.exc c,_,U)=>S5 (.exc c,U)
 | _=>.none
@[simp] theorem retX_ret (v:V)(Z:L)(U:H):Zab (S5 (.ret v,Z,U))=S5 (.ok v,U):=rfl
@[simp] theorem retX_next (Z:L)(U:H):Zab (S5 (.next,Z,U))=S5 (.ok .none,U):=rfl
@[simp] theorem retX_exc (c:Nat)(Z:L)(U:H):Zab (S5 (.exc c,Z,U))=S5 (.exc c,U):=rfl
@[simp] theorem retX_none:Zab .none=.none:=rfl
def Wr (F:Fn)(as:List V):Option L:=Xu F.ps as (L0 F.size .none)
noncomputable def Zdx (pg:Pg):Nat->Nat->List V->H->X V
 | 0,_,_,_=>.none
 | d+1,f,as,U=>(pg.fn f).bind λF=>(Wr F as).bind λZ=>gc F.mode U (Zab (execs ⟨pg,Zdx pg d⟩ F.body Z U))
noncomputable def dPg:Pg:=⟨λu_=>.none,λu_ v_=>.none,λu_=>.none⟩
def dCl:Cl:=⟨dPg,λu_ v_ w_=>.none⟩
noncomputable def Zy5:Src:=⟨[],λu_=>True⟩
noncomputable def Zos:bv:=⟨λu_ v_=>0,{ strHash:=λu_=>0,shareClass:=λu_=>0,mergeTok:=λt=>t,idOf:=λu_=>0,idOfShared:=λu_ v_=>0,followText:=λu_=>F0,idOfImm:=λu_=>0 }⟩
structure Tabs where
 fns:List (Str×Nat)
 tys:List (Str×Nat)
 blts:List (Str×Blt)
 cls:List (Str×Nat)
 meths:List (Str×Nat)
 attrs:List (Str×Nat)
 excs:List (Str×Nat)
 loops:Bool
noncomputable def Zot (T:Tabs):Tabs:=⟨T.fns,T.tys,T.blts,T.cls,T.meths,T.attrs,[],T.loops⟩
noncomputable def Zy6:Str:="isinstance"
noncomputable def Zy7:Str:="int"
def quiet (T:Tabs):Tabs:=⟨[],T.tys,[(Zy6,.isinstance),(Zy7,.int)].filter (λp=>T.blts.lookup p.1 == S5 p.2),[],[],[],T.excs,F0⟩
structure CEnv where
 names:List (Str×av)
 slots:List (Str×Nat)
 next:Nat
noncomputable def Zou:Const->Option V
 | .none=>S5 .none
 | .bool b=>S5 (.bool b)
 | .int i=>S5 (.int i)
 | .str s=>S5 (.str s)
 | _=>.none
noncomputable def cOp:ce->Option Bop
 | .Add=>S5 .add
 | .Sub=>S5 .sub
 | .Mult=>S5 .mul
 | .FloorDiv=>S5 .fdiv
 | .Mod=>S5 .mod
 | .Pow=>S5 .pow
 | _=>.none
noncomputable def Zov:bx->Cop
 | .Eq=>.eq | .NotEq=>.ne | .Lt=>.lt | .LtE=>.le | .Gt=>.gt | .GtE=>.ge | .Is=>.is | .IsNot=>.isnot | .In=>.mem | .NotIn=>.nmem
noncomputable def Wm (c:CEnv)(x:Str):Option Nat :=
 match c.names.lookup x with
 | some .local | some .cell=>if x==("__debug__":Str) then .none else c.slots.lookup x
 | _=>.none
noncomputable def Jk (c:CEnv) (x:Str):Bool:=c.names.lookup x==S5 .globalImplicit && !(x==("__debug__":Str))
noncomputable def Jr (c:CEnv)(sc:bh):List (Str×av) :=
 sc.names.map λ(n,k)=>if k == .free&&c.names.lookup n == S5 .cell then (n,.cell) else (n,k)
noncomputable def Zdg (c:CEnv)(sc:bh):List (Str×Nat) :=
 ((sc.names.filter λp=>p.2 == .local).zipIdx.map λp=>(p.1.1,c.next+p.2)) ++
 (sc.names.filterMap λp=>if p.2 == .free&&c.names.lookup p.1 == S5 .cell then (c.slots.lookup p.1).map λj=>(p.1,j) else .none)
def Js (c:CEnv)(sc:bh):CEnv:=⟨Jr c sc,Zdg c sc,c.next+(sc.names.filter λp=>p.2 == .local).length⟩
noncomputable def Zhn (c:CEnv)(sc:bh):Bool :=
 (sc.kind == .function) && !sc.isGenerator && !sc.isCoroutine&&decide (sc.names.map (·.1)).Nodup&&sc.names.all (λp=>p.2 != .cell&&(p.2 != .free||c.names.lookup p.1 == S5 .cell))
noncomputable def Zkz (op:bz)(a b:Ex):Ex:=match op with | .And=>.and a b | .Or=>.or a b
noncomputable def Zrp:Str:="append"
noncomputable def Zy8:Str:="pop"
noncomputable def X2:Str:="range"
noncomputable def Zcm:(e:aq)->Option { x:Str // ∃p,e=.Name x p }
 | .Name x p=>S5 ⟨x,p,rfl⟩
 | _=>.none
noncomputable def Zdy (names:List (Str×av)):List (Str×av):=names.filter λp=>p.2 == .local||p.2 == .cell
def Y1 (names:List (Str×av)):List (Str×Nat):=(Zdy names).zipIdx.map λp=>(p.1.1,p.2)
def fnC (sc:bh):CEnv:=⟨sc.names,Y1 sc.names,(Zdy sc.names).length⟩
noncomputable def Zl7:Tabs:=⟨[],[],[],[],[],[],[],F0⟩
noncomputable def Zdz:CEnv:=⟨[],[],0⟩
noncomputable def fnNames:List (Str × Nat):=[(j4 "meet",0),(j4 "need_whole",1),(j4 "need_span",2),(j4 "stretch_of",3),(j4 "gaps_of",4),(j4 "clumps_of",5),(j4 "deepest_of",6),(j4 "height_of",7),(j4 "made",8),(j4 "balanced",9),(j4 "with_one",10),(j4 "least_of",11),(j4 "without",12),(j4 "has",13),(j4 "walked",14),(j4 "asked",15),(j4 "_law_at",16),(j4 "_law_made",17),(j4 "_wall",18),(j4 "_law_thing",19),(j4 "_law_number",20),(j4 "_law_good",21),(j4 "_law_called",22),(j4 "_law_named",23),(j4 "_law_word",24),(j4 "_law_is_int",25),(j4 "_law_tuple_is",26),(j4 "_law_list_is",27),(j4 "_law_row",28),(j4 "_law_ask",29),(j4 "_law_gaps",30),(j4 "_law_clump",31),(j4 "_law_triple",32),(j4 "_law_over",33),(j4 "_law_run",34),(j4 "_law_near",35),(j4 "_law_picked",36),(j4 "_law_big",37),(j4 "_law_deeds",38),(j4 "_law_behind",39),(j4 "_law_done",40),(j4 "_law_spots",41),(j4 "_law_box",42),(j4 "_law_under",43),(j4 "_law_stands",44),(j4 "_law_do",45),(j4 "_law_told",46),(j4 "_law_spot",47),(j4 "_law_looked",48),(j4 "_law_least",49),(j4 "_law_quick",50),(j4 "_law_parts",51),(j4 "_law_deepest",52),(j4 "_law_clumps",53),(j4 "_law_gaps_of",54),(j4 "_law_hang",55),(j4 "_law_rest",56),(j4 "_law_balanced",57),(j4 "_law_deep",58),(j4 "_law_own",59),(j4 "law",60)]
noncomputable def methNames:List (Str × Nat):=[(j4 "__init__",0),(j4 "put",1),(j4 "take",2),(j4 "keeps",3),(j4 "listed",4),(j4 "total",5),(j4 "meeting",6),(j4 "holding",7),(j4 "looked",8),(j4 "gaps",9),(j4 "clumps",10),(j4 "deepest",11),(j4 "branch",12),(j4 "height",13),(j4 "boxes",14)]
noncomputable def tyNames:List (Str × Nat):=[(j4 "int",0),(j4 "bool",1),(j4 "tuple",2),(j4 "list",3),(j4 "ValueError",4)]
noncomputable def bltNames:List (Str × Blt):=[(j4 "len",.len),(j4 "max",.max),(j4 "min",.min),(j4 "sorted",.sorted),(j4 "int",.int),(j4 "list",.list),(j4 "isinstance",.isinstance)]
end Mini.Internal
set_option maxRecDepth 100000
namespace Mini.Internal
open PySem
open Sem (wp)
inductive TailN (n:Str) (h:au) (bmB:List aa):List aa->Prop
 | base:TailN n h bmB bmB
 | own {A : am} {c0 : aa} {dd : Option am} {cd : cz} {sl : Array (Option aa)} {mA : Str -> Option aa} {tl : List aa} :
   h.get? A=S5 { cls:=c0,dict:=dd,data:=.cls cd,slots:=sl }->h.Ns cd.ns mA->mA n=N0->TailN n h bmB tl->TailN n h bmB (.ref A::tl)
theorem TailN.keeps {n:Str}{h h':au}{bmB tl:List aa}(T:TailN n h bmB tl)(hk:∀b o,h.get? b=S5 o->h'.get? b=S5 o):TailN n h' bmB tl:=by
 induction T with
 | base=>exact .base
 | own hA hN hq _ ih=>exact .own (hk _ _ hA) (hN.keeps hk) hq ih
theorem Zho:typeLookup (.type "ValueError") "__class__"=pure (S5 (.builtin "object.__class__")):=by rw [c6,c7]; kernel_rfl
section
variable {M:Model}{A:aj}{E:aa->ae->Prop}{h:au}{g:Array f9}{d:Drawn}{t:Nat}{os:fp}
theorem Zi1 {bmB tl:List aa}{n:Str}{y:Option aa}{Q:Option aa->ae->Prop}(T:TailN n h bmB tl)(hrest:lookupAlong bmB n=pure y)(hq:Q y ⟨h,g,d,t,os⟩) :
  wpAny M A (lookupAlong tl n) Q E ⟨h,g,d,t,os⟩:=by
 induction T with
 | base=>rw[hrest];exact ar hq
 | own hA hN hni _ ih=>
  rw[fz]
  refine af (wpAny_classOwn_cls hA hN ?_)
  rw[hni]
  exact ih
variable {nm q:Str}{C N:am}{bs bm bmB:List aa}{hdct:Bool}{sn:List Str}{sub:List aa}{ab:Bool}{col:Option Bool}{dd:Option am}{k0 k1 k2 k3 k5:Option aa}{B newId:String}
theorem Zhp {mN:Str->Option aa}{n:Str}{y:Option aa}{Q:Option aa->ae->Prop}
  (hC:h.get? C=S5 (excClassObj nm q C N bs bm hdct sn sub ab col dd k0 k1 k2 k3 k5 newId)) (hN:h.Ns N mN) (hmN:mN n=N0) (T:TailN n h bmB bm) (hbm:mroOf (.type B)=pure bmB)
  (hB:typeLookup (.type B) n=pure y) (hq:Q y ⟨h,g,d,t,os⟩):wpAny M A (typeLookup (.ref C) n) Q E ⟨h,g,d,t,os⟩:=by
 obtain hrest:lookupAlong bmB n=pure y:=by rw[typeLookup_eq,hbm] at hB;exact hB
 rw[typeLookup_eq]
 refine af (wpAny_mroOf_exc hC ?_)
 rw[fz]
 refine af (wpAny_classOwn_exc hC hN ?_)
 rw[hmN]
 exact Zi1 T hrest hq
end
section
variable {prog:be}{w:bv}{A:aj}{E:aa->ae->Prop}{h:au}{g:Array f9}{d:Drawn}{t:Nat}{os:fp}{a:am}{o:Obj}
 {nm q:Str}{C N:am}{bs bm bmB:List aa}{hdct:Bool}{sn:List Str}{sub:List aa}{ab:Bool}{col:Option Bool}{dd:Option am}{k0 k1 k2 k3 k5:Option aa}{newId:String}{mN:Str->Option aa}
theorem Zge {R:Result -> ae -> Prop} (hC:h.get? C=S5 (excClassObj nm q C N bs bm hdct sn sub ab col dd k0 k1 k2 k3 k5 newId)) (hob:bm.contains (.type "object")=T1)
  (hx:h.get? a=S5 o) (hc:o.cls=.ref C) (hq:R (.ok (.ret (.ref C))) ⟨h,g,d,t,os⟩) :
  codeAny (model prog w) A (.call (.builtin "getset_descriptor.__get__") ⟨[.builtin "object.__class__",.ref a,.ref C],[]⟩) R ⟨h,g,d,t,os⟩:=by
 obtain hT5:(⟨h,g,d,t,os⟩:ae).TypeIs (.builtin "object.__class__") "getset_descriptor":=F.typeOf_object_class
 obtain hcB:(aa.ref C ::bm).contains (.type (".".intercalate ("object.__class__".cutAt '.').dropLast))=T1:=by
  rw[F.owner_object_class,Im,hob];rfl
 refine dz F.slot_gs_get.plain F.entry_gs_get (F.slot_gs_get.check _ _ _ _ _ _ _ _ hT5 (F.args_gs_get _ _ _) ?_)
 repeat (any_goals (first | assumption | (with_reducible refine ba hx ?_;rw[hc]) | (with_reducible refine bu hC ?_;rw[hcB]) | wp_step))
 refine ⟨Code.quiet_builtin _ (by decide +kernel),codeAny_builtin F.entry_object_class ?_⟩
 repeat (any_goals (first | assumption | (with_reducible refine ba hx ?_;rw[hc]) | wp_step))
theorem Zeb {tk:Tok} {Q:Fin -> ae -> Prop} (hC:h.get? C=S5 (excClassObj nm q C N bs bm hdct sn sub ab col dd k0 k1 k2 k3 k5 newId)) (hob:bm.contains (.type "object")=T1) (hN:h.Ns N mN)
  (hmc:mN "__class__"=N0) (hbm:mroOf (.type "ValueError")=pure bmB) (T:TailN "__class__" h bmB bm) (hx:h.get? a=S5 o) (hc:o.cls=.ref C) (hq:Q (.done (.ret (.ref C))) ⟨h,g,d,t,os⟩) :
  wpAny (model prog w) A (bf.«object.__getattribute__» ⟨[.ref a,.str "__class__" tk],[]⟩) Q E ⟨h,g,d,t,os⟩:=by
 obtain hT5:(⟨h,g,d,t,os⟩:ae).TypeIs (.builtin "object.__class__") "getset_descriptor":=F.typeOf_object_class
 obtain f5:=F.typeOf_object_class
 obtain f6:=F.slot_gs_get.lookup
 obtain f7:=F.slot_gs_set.lookup
 repeat (any_goals (first | assumption | (with_reducible refine ba hx ?_;rw[hc]) | with_reducible refine Zhp hC hN hmc T hbm Zho ?_ | wp_step))
 refine Zge hC hob hx hc ?_
 repeat (any_goals (first | assumption | wp_step))
theorem Ze2 {tk:Tok} {R:Result -> ae -> Prop} (FB:cg "ValueError" bmB) (hC:h.get? C=S5 (excClassObj nm q C N bs bm hdct sn sub ab col dd k0 k1 k2 k3 k5 newId)) (hob:bm.contains (.type "object")=T1) (hN:h.Ns N mN)
  (TQ:dh h bmB bm) (hmc:mN "__class__"=N0) (T:TailN "__class__" h bmB bm) (hx:h.get? a=S5 o) (hc:o.cls=.ref C) (hq:R (.ok (.ret (.ref C))) ⟨h,g,d,t,os⟩) :
  codeAny (model prog w) A (.call (.builtin "BaseException.__getattribute__") ⟨[.ref a,.str "__class__" tk],[]⟩) R ⟨h,g,d,t,os⟩ :=
 dz FB.ga.plain F.entry_bexc_ga (wpAny_check_ga_own FB hC TQ hx hc (Zeb hC hob hN hmc FB.mro T hx hc hq))
theorem Zhq {tk:Tok} {Q:aa -> ae -> Prop} (FB:cg "ValueError" bmB) (hC:h.get? C=S5 (excClassObj nm q C N bs bm hdct sn sub ab col dd k0 k1 k2 k3 k5 newId)) (hob:bm.contains (.type "object")=T1) (hN:h.Ns N mN)
  (hmN:∀ n ∈ quietNames,mN n=N0) (TQ:dh h bmB bm) (hmc:mN "__class__"=N0) (T:TailN "__class__" h bmB bm) (hx:h.get? a=S5 o) (hc:o.cls=.ref C) (hq:Q (.ref C) ⟨h,g,d,t,os⟩) :
  wpAny (model prog w) A (getAttrBy (.ref a) (.str "__class__" tk) F0) Q E ⟨h,g,d,t,os⟩:=by
 obtain f3:=FB.ga.bind (.ref a)
 obtain hx2:(aa.builtin "BaseException.__getattribute__"==aa.builtin "object.__getattribute__")=F0:=by decide +kernel
 obtain hx1:(onTheHeap (aa.ref C) && aa.builtin "BaseException.__getattribute__"==aa.builtin "object.__getattribute__")=F0:=by rw [hx2]; rfl
 obtain hm1:("__getattribute__":Str) ∈ quietNames:=.tail _ (.head _)
 obtain hm2:("__getattr__":Str) ∈ quietNames:=.tail _ (.tail _ (.head _))
 repeat (any_goals (first | assumption | (with_reducible refine ba hx ?_;rw[hc]) | with_reducible refine dl hm1 hC hN hmN TQ FB.mro FB.ga.lookup ?_ | with_reducible refine dl hm2 hC hN hmN TQ FB.mro FB.noGetattr ?_ | wp_step))
 refine Ze2 FB hC hob hN TQ hmc T hx hc ?_
 repeat (any_goals (first | assumption | wp_step))
theorem Ze3 {Q:Option aa -> ae -> Prop} (FB:cg "ValueError" bmB) (hC:h.get? C=S5 (excClassObj nm q C N bs bm hdct sn sub ab col dd k0 k1 k2 k3 k5 newId)) (hob:bm.contains (.type "object")=T1) (hN:h.Ns N mN)
  (hmN:∀ n ∈ quietNames,mN n=N0) (TQ:dh h bmB bm) (hmc:mN "__class__"=N0) (T:TailN "__class__" h bmB bm) (hx:h.get? a=S5 o) (hc:o.cls=.ref C) (hq:Q (S5 (.ref C)) ⟨h,g,d,t + 1,os⟩) :
  wpAny (model prog w) A (getAttr? (.ref a) "__class__") Q E ⟨h,g,d,t,os⟩:=by
 unfold getAttr? getAttrBy?
 repeat (any_goals (first | assumption | with_reducible apply Zhq FB hC hob hN hmN TQ hmc T hx hc | wp_step))
end
open Sem (wp)
section
variable {prog:be}{w:bv}{A:aj}{E:aa->ae->Prop}{h:au}{g:Array f9}{d:Drawn}{t:Nat}{os:fp}{a:am}{o:Obj}
 {nm q:Str}{C N:am}{bs bm bmB:List aa}{hdct:Bool}{sn:List Str}{sub:List aa}{ab:Bool}{col:Option Bool}{dd:Option am}{k0 k1 k2 k3 k5:Option aa}{newId:String}{mN:Str->Option aa}
 {nm' q':Str}{D N':am}{bs' bm':List aa}{hdct':Bool}{sn':List Str}{sub':List aa}{ab':Bool}{col':Option Bool}{dd':Option am}{j0 j1 j2 j3 j5:Option aa}{newId':String}
theorem Zrq {dep:Int} {tk:Tok} {Q:Fin -> ae -> Prop} (FB:cg "ValueError" bmB) (hC:h.get? C=S5 (excClassObj nm q C N bs bm hdct sn sub ab col dd k0 k1 k2 k3 k5 newId)) (hob:bm.contains (.type "object")=T1) (hN:h.Ns N mN)
  (hmN:∀ n ∈ quietNames,mN n=N0) (TQ:dh h bmB bm) (hmc:mN "__class__"=N0) (T:TailN "__class__" h bmB bm) (hx:h.get? a=S5 o) (hc:o.cls=.ref C)
  (hD:h.get? D=S5 (excClassObj nm' q' D N' bs' bm' hdct' sn' sub' ab' col' dd' j0 j1 j2 j3 j5 newId')) (hsub:(aa.ref C::bm).contains (.ref D)=F0) (hq:Q (.done (.ret (.bool F0))) ⟨h,g,d,t+1,os⟩) :
  wpAny (model prog w) A (bf.«isinstance.nested» ⟨[.ref a,.ref D,.int dep tk],[]⟩) Q E ⟨h,g,d,t,os⟩:=by
 obtain hne:(aa.ref C == aa.ref D)=F0:=by
  rw[Im,Bool.or_eq_false_iff] at hsub
  have:=hsub.1
  cases e:(aa.ref C == aa.ref D) with
  | false=>rfl
  | true=>rw[beq_iff_eq.mp e] at this;simp at this
 repeat (any_goals (first | assumption | (with_reducible refine ba hx ?_;rw[hc]) | with_reducible refine ba hD ?_ | (with_reducible refine bu hC ?_;rw[hsub]) | with_reducible apply Ze3 FB hC hob hN hmN TQ hmc T hx hc | wp_step))
theorem Zow {dep:Int}{tk:Tok}{Q:Fin->ae->Prop}(hx:h.get? a=S5 o)(hc:o.cls=.ref C)(hq:Q (.done (.ret (.bool T1))) ⟨h,g,d,t,os⟩) :
  wpAny (model prog w) A (bf.«isinstance.nested» ⟨[.ref a,.ref C,.int dep tk],[]⟩) Q E ⟨h,g,d,t,os⟩:=by
 obtain hne:(aa.ref C == aa.ref C)=T1:=beq_self_eq_true _
 repeat (any_goals (first | assumption | (with_reducible refine ba hx ?_;rw[hc]) | wp_step))
theorem Zhr {Q:aa -> ae -> Prop} (FB:cg "ValueError" bmB) (hC:h.get? C=S5 (excClassObj nm q C N bs bm hdct sn sub ab col dd k0 k1 k2 k3 k5 newId)) (hob:bm.contains (.type "object")=T1) (hN:h.Ns N mN)
  (hmN:∀ n ∈ quietNames,mN n=N0) (TQ:dh h bmB bm) (hmc:mN "__class__"=N0) (T:TailN "__class__" h bmB bm) (hx:h.get? a=S5 o) (hc:o.cls=.ref C)
  (hD:h.get? D=S5 (excClassObj nm' q' D N' bs' bm' hdct' sn' sub' ab' col' dd' j0 j1 j2 j3 j5 newId')) (hsub:(aa.ref C::bm).contains (.ref D)=F0) (hq:Q (.bool F0) ⟨h,g,d,t+1,os⟩) :
  wpAny (model prog w) A (call (.builtin "isinstance") [.ref a,.ref D]) Q E ⟨h,g,d,t,os⟩ :=
 gm (S:=λu_ R s=>s=⟨h,g,d,t,os⟩/\R (.ok (.ret (.bool F0))) ⟨h,g,d,t+1,os⟩) (λu_ v_ w_ x_ s hs=>by obtain ⟨rfl,hR⟩:=hs;exact gf (Zrq FB hC hob hN hmN TQ hmc T hx hc hD hsub hR) (by intro e;cases e)) ⟨rfl,hq⟩
theorem Zbx {Q:aa->ae->Prop}(hx:h.get? a=S5 o)(hc:o.cls=.ref C)(hq:Q (.bool T1) ⟨h,g,d,t,os⟩) :
  wpAny (model prog w) A (call (.builtin "isinstance") [.ref a,.ref C]) Q E ⟨h,g,d,t,os⟩ :=
 gm (S:=λu_ R s=>s=⟨h,g,d,t,os⟩/\R (.ok (.ret (.bool T1))) ⟨h,g,d,t,os⟩) (λu_ v_ w_ x_ s hs=>by obtain ⟨rfl,hR⟩:=hs;exact gf (Zow hx hc hR) (by intro e;cases e)) ⟨rfl,hq⟩
end
noncomputable abbrev Z6 (vs:List aa):Obj:={ cls:=.type "tuple",data:=.seq vs.toArray }
noncomputable abbrev Yd (vs:List aa) (n:Nat):Obj:={ cls:=.type "list",data:=.seq vs.toArray n }
structure Kx where
 prog:be
 w:bv
 h0:au
 tyv:Nat->aa
 fna:Nat->am
 clv:Nat->aa
noncomputable abbrev Kx.M (K:Kx):Model:=model K.prog K.w
variable {J J' J1:List am}{U U' U1:H}{s s' s1:ae}{h h':au}{Z Z':L}
abbrev VSP:=aa->ae->Prop
mutual
inductive RV (K:Kx) (J:List am) (h:au):V->aa->Prop
 | none:RV K J h .none .none
 | bool (b):RV K J h (.bool b) (.bool b)
 | int (i t):RV K J h (.int i) (.int i t)
 | str (s t):RV K J h (.str s) (.str s t)
 | tup {l a vs}:h.get? a=S5 (Z6 vs)->RVs K J h l vs->l.length<=Zo->RV K J h (.tup l) (.ref a)
 | obj {n a}:J[n]?=S5 a->RV K J h (.obj n) (.ref a)
 | ty (t):RV K J h (.ty t) (K.tyv t)
 | frz {l a vs n}:K.h0.get? a=S5 (Yd vs n)->RVs K J h (l.map V.int) vs->l.length<=Zo->RV K J h (.frz l) (.ref a)
inductive RVs (K:Kx) (J:List am) (h:au):List V->List aa->Prop
 | nil:RVs K J h [] []
 | cons {v l x vs}:RV K J h v x->RVs K J h l vs->RVs K J h (v::l) (x::vs)
end
noncomputable def atn (k:Nat):Str:=if k=0 then "top" else "many"
theorem Zox:atn 0≠atn 1:=by decide
def OR (K:Kx)(J:List am)(h:au)(a:am):O->Prop
 | .list l=>∃vs n,h.get? a=S5 (Yd vs n)/\RVs K J h l vs/\l.length<=Zo
 | .inst c d=>∃o C ad,h.get? a=S5 o/\K.clv c=.ref C/\o.cls=.ref C/\(∀x,o.data≠.cls x)/\o.dict=S5 ad/\J[d]?=S5 ad
 | .exc c=>∃o C,h.get? a=S5 o/\K.tyv c=.ref C/\o.cls=.ref C/\¬ ∃es ep,o.data=.dict es ep
 | .ns l=>∃m,h.Ns1 a m/\(∀x,m x≠.none->x∈[atn 0,atn 1])/\∀k v,l.lookup k=S5 v->k<2/\∃cv,m (atn k)=S5 cv/\RV K J h v cv
structure HR (K:Kx)(J:List am)(U:H)(h:au):Prop where
 keep:∀b o,K.h0.get? b=S5 o->h.get? b=S5 o
 len:J.length=U.length
 nd:J.Nodup
 new:∀a∈J,K.h0.get? a=N0
 obj:∀(n:Nat) o a,U[n]?=S5 o->J[n]?=S5 a->OR K J h a o
def dy (o:Obj):Prop:=∃es ep,o.data=.dict es ep
theorem nfT {vs:List aa}:¬ dy (Z6 vs):=λ⟨_,_,e⟩=>by cases e
theorem nfL {vs:List aa}{n:Nat}:¬ dy (Yd vs n):=λ⟨_,_,e⟩=>by cases e
open Classical in
noncomputable def nrm (o:Obj):Obj:=if dy o then { o with slots:=#[] } else o
def ng (h:au)(b:am):Option Obj:=(h.get? b).map nrm
theorem Zl8 (o:Obj):(nrm o).cls=o.cls:=by unfold nrm;split <;> rfl
theorem Ze4 (o:Obj):(nrm o).data=o.data:=by unfold nrm;split <;> rfl
theorem Zi2 (o:Obj):(nrm o).dict=o.dict:=by unfold nrm;split <;> rfl
theorem Zoy {o:Obj}(h:¬ dy o):nrm o=o:=gq h
theorem dy_nrm {o:Obj}:dy (nrm o)↔dy o:=by unfold dy;rw[Ze4]
theorem U6 {b:am}{o:Obj}(e:h.get? b=S5 o):ng h b=S5 (nrm o):=by unfold ng;rw[e];rfl
theorem Zcn {b:am}{o:Obj}(e:ng h b=S5 o):∃o',h.get? b=S5 o'/\nrm o'=o:=Bi.mp e
theorem ng_none {b:am}:ng h b=N0↔h.get? b=N0:=Option.map_eq_none_iff
theorem Zi3 {b:am}{o:Obj}(hc:¬ dy o)(e:ng h b=S5 (nrm o)):h.get? b=S5 o:=by
 refine rEA (λo' e1 e2=>?_) (Zcn e)
 obtain hc':¬ dy o':=λhd=>hc (dy_nrm.mp (by rw[← e2];exact dy_nrm.mpr hd))
 rw[Zoy hc',Zoy hc] at e2
 rw[e1,e2]
theorem Zac {b:am}{o:Obj}(e:ng h b=S5 (nrm o)):∃o',h.get? b=S5 o'/\o'.data=o.data/\o'.cls=o.cls/\o'.dict=o.dict:=by
 refine rEA (λo' e1 e2=>?_) (Zcn e)
 exact ⟨o',e1,by rw[← Ze4 o',e2,Ze4],by rw[← Zl8 o',e2,Zl8],by rw[← Zi2 o',e2,Zi2]⟩
theorem Qf (hk:∀b o,h.get? b=S5 o->h'.get? b=S5 o){b:am}{o:Obj}(e:ng h b=S5 o):ng h' b=S5 o:=by
 refine rEA (λo' e1 hO2=>?_) (Zcn e);refine eqE hO2 ?_
 exact U6 (hk _ _ e1)
theorem Wt {b:am}(hk:∀o,h.get? b=S5 o->h'.get? b=S5 o){o:Obj}(e:ng h b=S5 o):ng h' b=S5 o:=by
 refine rEA (λo' e1 hO2=>?_) (Zcn e);refine eqE hO2 ?_
 exact U6 (hk _ e1)
structure Step (J:List am)(s:ae)(J':List am)(s':ae):Prop where
 pre:J <+: J'
 fr:∀b o,ng s.heap b=S5 o->b ∉ J->ng s'.heap b=S5 o
 fresh:∀a,a∈J'->a∈J\/s.heap.get? a=N0
 gens:s'.gens=s.gens
 os:s'.os=s.os
theorem Step.refl (J:List am)(s:ae):Step J s J s:=⟨Bt _,λu_ v_ e w_=>e,λu_ h=>.inl h,rfl,rfl⟩
theorem Step.trans {J2:List am}{s2:ae}(x:Step J s J1 s1)(y:Step J1 s1 J2 s2):Step J s J2 s2 where
 pre:=x.pre.trans y.pre
 fr:=λb o e hb=>y.fr b o (x.fr b o e hb) λh1=>by
  rcases x.fresh b h1 with h | h
  .exact hb h
  .rw[ng_none.mpr h] at e;exact nn e
 fresh:=λa ha=>by
  rcases y.fresh a ha with h | h
  .exact x.fresh a h
  .by_cases hr:a∈J
   .exact .inl hr
   .right
    cases hg:s.heap.get? a with
    | none=>rfl
    | some o=>have:=x.fr a _ (U6 hg) hr;rw[ng_none.mpr h] at this;exact nn this
 gens:=y.gens.trans x.gens
 os:=y.os.trans x.os
theorem Step.ex (x:Step J s J' s'){b:am}{o:Obj}(e:s.heap.get? b=S5 o)(hb:b ∉ J)(hc:¬ dy o):s'.heap.get? b=S5 o:=Zi3 hc (x.fr b _ (U6 e) hb)
theorem OR.isSome {K:Kx}{a:am}{o:O}(x:OR K J h a o):∃ob,h.get? a=S5 ob/\∀vs,ob≠Z6 vs:=by
 cases o with
 | list l=>revert x; refine Ug λvs n e u3_=>?_; exact ⟨_,e,λvs' h=>absurd (congrArg Obj.cls h) (by show aa.type "list" ≠ aa.type "tuple"; decide)⟩
 | inst c d=>revert x;refine Xp λob C ad e u4_ h1 u6_=>?_;exact ⟨_,e,λvs' h=>by rw[h] at h1;cases h1⟩
 | exc c=>revert x;refine U9 λob C e u3_ h1 u5_=>?_;exact ⟨_,e,λvs' h=>by rw[h] at h1;cases h1⟩
 | ns l=>revert x;refine rEA λm hO1 u2_=>?_;revert hO1;refine Xk λob es ep e h1 u5_=>?_;exact ⟨_,e,λvs' h=>by rw[h] at h1;cases h1⟩
theorem HR.at_ {K:Kx}(x:HR K J U h){a:am}(ha:a∈J):∃ob,h.get? a=S5 ob/\∀vs,ob≠Z6 vs:=by
 refine rE (λn hO1=>?_) (Co ha);obtain ⟨hn,rfl⟩:=hO1
 obtain hs:n<U.length:=by rw[← x.len];exact hn
 exact (x.obj n _ _ (Bl hs) (Bl hn)).isSome
theorem Xv {α:Type}{l l':List α}(hp:l <+: l'){n:Nat}{a:α}(e:l[n]?=S5 a):l'[n]?=S5 a:=by
 revert hp;refine rE λt hO1=>?_;refine eqE hO1 ?_
 rw[Br (Ba.mp e).1];exact e
theorem RVs.ind {K:Kx}{P:List V->List aa->Prop}(h0:P [] [])(h1:∀{v l x vs},RV K J h v x->RVs K J h l vs->P l vs->P (v::l) (x::vs)){l:List V}{vs:List aa}(r:RVs K J h l vs):P l vs :=
 RVs.rec (motive_1:=λu_ v_ w_=>True) (motive_2:=λl vs u_=>P l vs) trivial (λu_=>trivial) (λu_ v_=>trivial) (λu_ v_=>trivial) (λu_ v_ w_ x_=>trivial) (λu_=>trivial) (λu_=>trivial) (λu_ v_ w_ x_=>trivial) h0 (λa r u_ i=>h1 a r i) r
noncomputable def Zl9:V->Option Bool
 | .bool b=>S5 b
 | _=>.none
noncomputable def Zoz:V->Option Str
 | .str b=>S5 b
 | _=>.none
theorem RV.intI {K:Kx}{v:V}{x:aa}(r:RV K J h v x){a:Int}(e:Wg v=S5 a):∃t,x=.int a t :=
 RV.casesOn (motive_1:=λv x u_=>Wg v=S5 a->∃t,x=.int a t) r (λe=>nn e) (λu_ e=>nn e) (λu_ t e=>⟨t,congrArg (λz=>aa.int z t) (B0.inj e)⟩) (λu_ v_ e=>nn e) (λu_ v_ w_ e=>nn e) (λu_ e=>nn e) (λu_ e=>nn e) (λu_ v_ w_ e=>nn e) e
theorem RV.boolI {K:Kx}{v:V}{x:aa}(r:RV K J h v x){a:Bool}(e:Zl9 v=S5 a):x=.bool a :=
 RV.casesOn (motive_1:=λv x u_=>Zl9 v=S5 a->x=.bool a) r (λe=>nn e) (λu_ e=>congrArg aa.bool (B0.inj e)) (λu_ v_ e=>nn e) (λu_ v_ e=>nn e) (λu_ v_ w_ e=>nn e) (λu_ e=>nn e) (λu_ e=>nn e) (λu_ v_ w_ e=>nn e) e
theorem RV.noneI {K:Kx}{v:V}{x:aa}(r:RV K J h v x)(e:v.isNone=T1):x=.none :=
 RV.casesOn (motive_1:=λv x u_=>v.isNone=T1->x=.none) r (λu_=>rfl) (λu_ e=>ft e) (λu_ v_ e=>ft e) (λu_ v_ e=>ft e) (λu_ v_ w_ e=>ft e) (λu_ e=>ft e) (λu_ e=>ft e) (λu_ v_ w_ e=>ft e) e
theorem RV.strI {K:Kx}{v:V}{x:aa}(r:RV K J h v x){a:Str}(e:Zoz v=S5 a):∃t,x=.str a t :=
 RV.casesOn (motive_1:=λv x u_=>Zoz v=S5 a->∃t,x=.str a t) r (λe=>nn e) (λu_ e=>nn e) (λu_ v_ e=>nn e) (λu_ t e=>⟨t,congrArg (λz=>aa.str z t) (B0.inj e)⟩) (λu_ v_ w_ e=>nn e) (λu_ e=>nn e) (λu_ e=>nn e) (λu_ v_ w_ e=>nn e) e
theorem RV.tupI {K:Kx}{v:V}{x:aa}(r:RV K J h v x){l:List V}(e:Zey v=S5 l):∃a vs,x=.ref a/\h.get? a=S5 (Z6 vs)/\RVs K J h l vs/\l.length<=Zo :=
 RV.casesOn (motive_1:=λv x u_=>Zey v=S5 l->∃a vs,x=.ref a/\h.get? a=S5 (Z6 vs)/\RVs K J h l vs/\l.length<=Zo) r (λe=>nn e) (λu_ e=>nn e) (λu_ v_ e=>nn e) (λu_ v_ e=>nn e) (λh1 h2 h3 e=>B0.inj e▸⟨_,_,rfl,h1,h2,h3⟩) (λu_ e=>nn e) (λu_ e=>nn e) (λu_ v_ w_ e=>nn e) e
theorem RV.objI {K:Kx}{v:V}{x:aa}(r:RV K J h v x){n:Nat}(e:Qv v=S5 n):∃a,x=.ref a/\J[n]?=S5 a :=
 RV.casesOn (motive_1:=λv x u_=>Qv v=S5 n->∃a,x=.ref a/\J[n]?=S5 a) r (λe=>nn e) (λu_ e=>nn e) (λu_ v_ e=>nn e) (λu_ v_ e=>nn e) (λu_ v_ w_ e=>nn e) (λha e=>⟨_,rfl,B0.inj e▸ha⟩) (λu_ e=>nn e) (λu_ v_ w_ e=>nn e) e
theorem RV.mono {K:Kx}(hp:J <+: J')(ht:∀a vs,h.get? a=S5 (Z6 vs)->h'.get? a=S5 (Z6 vs)){v:V}{x:aa}(r:RV K J h v x):RV K J' h' v x :=
 RV.rec (motive_1:=λv x u_=>RV K J' h' v x) (motive_2:=λl vs u_=>RVs K J' h' l vs) .none .bool .int .str (λe u_ n i=>.tup (ht _ _ e) i n) (λe=>.obj (Xv hp e)) .ty (λe u_ n i=>.frz e i n) .nil (λu_ v_ i j=>.cons i j) r
theorem RVs.mono {K:Kx}(hp:J <+: J')(ht:∀a vs,h.get? a=S5 (Z6 vs)->h'.get? a=S5 (Z6 vs)){l:List V}{vs:List aa}(r:RVs K J h l vs):RVs K J' h' l vs :=
 RVs.ind (P:=RVs K J' h') .nil (λa u_ i=>.cons (a.mono hp ht) i) r
structure Good (K:Kx)(J:List am)(s:ae)(J':List am)(U':H)(s':ae):Prop where
 hr:HR K J' U' s'.heap
 st:Step J s J' s'
theorem Good.refl {K:Kx}(x:HR K J U s.heap):Good K J s J U s:=⟨x,Step.refl J s⟩
theorem Good.trans {K:Kx}{J2:List am}{U2:H}{s2:ae}(x:Good K J s J1 U1 s1)(y:Good K J1 s1 J2 U2 s2):Good K J s J2 U2 s2:=⟨y.hr,x.st.trans y.st⟩
theorem Good.tok {K:Kx}(x:Good K J s J' U' s')(t:Nat):Good K J s J' U' { s' with toks:=t } :=
 ⟨x.hr,⟨x.st.pre,x.st.fr,x.st.fresh,x.st.gens,x.st.os⟩⟩
theorem Ns1.ng {a:am}{m:Str->Option aa}(x:h.Ns1 a m)(k:∀o,ng h a=S5 o->ng h' a=S5 o):h'.Ns1 a m:=by
 revert x;refine Xk λo es ep e hd r=>?_
 refine Ud (λo' e1 e2 u3_=>?_) (Zac (k _ (U6 e)))
 exact ⟨o',es,ep,e1,e2.trans hd,r⟩
theorem OR.move {K:Kx}{a:am}{o:O}(x:OR K J h a o)(hp:J <+: J')(ht:∀b vs,h.get? b=S5 (Z6 vs)->h'.get? b=S5 (Z6 vs))(hk:∀o,ng h a=S5 o->ng h' a=S5 o):OR K J' h' a o:=by
 cases o with
 | list l=>revert x;refine Yn λvs n e r hl=>?_;exact ⟨vs,n,Zi3 nfL (hk _ (U6 e)),r.mono hp ht,hl⟩
 | inst c d=>
  revert x;refine Qt λob C ad e h1 h2 h3 h4 h5=>?_
  refine Zas (λo' e1 e2 e3 e4=>?_) (Zac (hk _ (U6 e)))
  exact ⟨o',C,ad,e1,h1,e3.trans h2,λz=>by rw[e2];exact h3 z,e4.trans h4,Xv hp h5⟩
 | exc c=>revert x;refine U9 λob C e h1 h2 h3=>?_;exact ⟨ob,C,Zi3 h3 (hk _ (U6 e)),h1,h2,h3⟩
 | ns l=>
  revert x;refine Ud λm h1 h2 h3=>?_
  exact ⟨m,Ns1.ng h1 hk,h2,λk v hv=>let ⟨q,cv,q1,q2⟩:=h3 k v hv;⟨q,cv,q1,q2.mono hp ht⟩⟩
theorem OR.mono {K:Kx}{a:am}{o:O}(x:OR K J h a o)(hp:J <+: J')(hk:∀b o,h.get? b=S5 o->h'.get? b=S5 o):OR K J' h' a o :=
 x.move hp (λu_ v_ e=>hk _ _ e) λu_ e=>Qf hk e
theorem HR.grow {K:Kx}(x:HR K J U h)(hk:∀b o,h.get? b=S5 o->h'.get? b=S5 o):HR K J U h' :=
 ⟨λb o e=>hk b o (x.keep b o e),x.len,x.nd,x.new,λn o a h1 h2=>(x.obj n o a h1 h2).mono (Bt _) hk⟩
theorem Good.grow {K:Kx}(x:HR K J U s.heap)(hk:∀b o,s.heap.get? b=S5 o->h'.get? b=S5 o)(t:Nat):Good K J s J U { s with heap:=h',toks:=t } :=
 ⟨x.grow hk,⟨Bt _,λb o e u_=>Qf hk e,λu_ h=>.inl h,rfl,rfl⟩⟩
theorem HR.add {K:Kx}(x:HR K J U h){a:am}{o:O}(hna:a ∉ J)(h0:K.h0.get? a=N0)(ho:OR K (J++[a]) h a o):HR K (J++[a]) (U++[o]) h:=by
 refine ⟨x.keep,by simp[x.len],?_,λb hb=>?_,λn o' b h1 h2=>?_⟩
 .rw[G3];exact ⟨x.nd,by simp,λb hb c hc e=>by simp at hc;exact hna (hc▸e▸hb)⟩
 .rcases Bm.mp hb with h | h
  .exact x.new b h
  .rw[Bo.mp h];exact h0
 .by_cases hn:n<U.length
  .rw[Br hn] at h1
   rw[Br (by rw[x.len];exact hn)] at h2
   exact (x.obj n o' b h1 h2).mono (C8 _ _) λu_ v_ e=>e
  .obtain hn' : n = U.length := by
    have:=(Ba.mp h1).1
    simp at this;exact Nb 0x180197017051acba11a101 Tt hn this
   subst hn'
   rw[Bh (Bp _)] at h1
   rw[Bh (by rw[x.len];exact Bp _)] at h2
   simp[x.len] at h1 h2
   rw[← h1,← h2];exact ho
theorem Good.alloc {K:Kx}(x:HR K J U s.heap){a:am}{o:O}(hk:∀b o,s.heap.get? b=S5 o->h'.get? b=S5 o)(ha:s.heap.get? a=N0)
  (ho:OR K (J++[a]) h' a o) (t:Nat):Good K J s (J++[a]) (U++[o]) { s with heap:=h',toks:=t }:=by
 obtain hna:a ∉ J:=λhm=>by refine rEA (λob e u2_=>?_) (x.at_ hm);rw[ha] at e;exact nn e
 refine ⟨(x.grow hk).add hna ?_ ho,⟨C8 _ _,λb o e u_=>Qf hk e,λb hb=>?_,rfl,rfl⟩⟩
 .cases hg:K.h0.get? a with
  | none=>rfl
  | some ob=>rw[x.keep a ob hg] at ha;exact ns ha
 .rcases Bm.mp hb with h | h
  .exact .inl h
  .rw[Bo.mp h];exact .inr ha
theorem get?_size (h:au):h.get? h.objs.size=N0:=by
 cases e:h.get? h.objs.size with
 | none=>rfl
 | some o=>exact absurd (au.lt_size e) (Gm _)
theorem Step.tups {K:Kx}(x:Step J s J' s')(hr:HR K J U s.heap):∀a vs,s.heap.get? a=S5 (Z6 vs)->s'.heap.get? a=S5 (Z6 vs) :=
 λa vs e=>x.ex e (λha=>by
  refine rEA (λob h1 h2=>?_) (hr.at_ ha)
  rw[e] at h1;obtain rfl:=B0.inj h1;exact h2 _ rfl) nfT
theorem RV.step {K:Kx}{v:V}{x:aa}(r:RV K J s.heap v x)(hr:HR K J U s.heap)(st:Step J s J' s'):RV K J' s'.heap v x:=r.mono st.pre (st.tups hr)
theorem RVs.step {K:Kx}{v:List V}{x:List aa}(r:RVs K J s.heap v x)(hr:HR K J U s.heap)(st:Step J s J' s'):RVs K J' s'.heap v x:=r.mono st.pre (st.tups hr)
theorem RVs.length {K:Kx}{l:List V}{vs:List aa}(r:RVs K J h l vs):l.length=vs.length :=
 RVs.ind (P:=λl vs=>l.length=vs.length) rfl (λu_ v_ i=>congrArg Nat.succ i) r
theorem RVs.consI {K:Kx}{v:V}{l:List V}{vs:List aa}(r:RVs K J h (v::l) vs):∃x ws,vs=x::ws/\RV K J h v x/\RVs K J h l ws :=
 RVs.ind (P:=λl' vs=>∀v l,l'=v::l->∃x ws,vs=x::ws/\RV K J h v x/\RVs K J h l ws) (λu_ v_ e=>nomatch e) (λa b u_ v_ w_ e=>⟨_,_,rfl,(Lo.inj e).1▸a,(Lo.inj e).2▸b⟩) r v l rfl
theorem RVs.nilI {K:Kx}{vs:List aa}(r:RVs K J h [] vs):vs=[] :=
 List.eq_nil_of_length_eq_zero r.length.symm
theorem RVs.get {K:Kx}{l:List V}{vs:List aa}(r:RVs K J h l vs):∀{i:Nat}{v:V},l[i]?=S5 v->∃x,vs[i]?=S5 x/\RV K J h v x :=
 RVs.ind (P:=λl vs=>∀{i:Nat}{v:V},l[i]?=S5 v->∃x,vs[i]?=S5 x/\RV K J h v x) (λe=>nn e) (λa u_ ih i v_ e=>by
  cases i with
  | zero=>refine siE e ?_;exact ⟨_,rfl,a⟩
  | succ i=>exact ih e) r
theorem RVs.append {K:Kx}{l:List V}{vs:List aa}(r:RVs K J h l vs){l':List V}{vs':List aa}(r':RVs K J h l' vs'):RVs K J h (l++l') (vs++vs') :=
 RVs.ind (P:=λl vs=>RVs K J h (l++l') (vs++vs')) r' (λa u_ i=>.cons a i) r
theorem RVs.take {K:Kx}{l:List V}{vs:List aa}(r:RVs K J h l vs):∀n:Nat,RVs K J h (l.take n) (vs.take n) :=
 RVs.ind (P:=λl vs=>∀n:Nat,RVs K J h (l.take n) (vs.take n)) (λn=>by cases n <;> exact .nil) (λa u_ i n=>by
  cases n with
  | zero=>exact .nil
  | succ n=>exact .cons a (i n)) r
theorem RVs.drop {K:Kx}{l:List V}{vs:List aa}(r:RVs K J h l vs):∀n:Nat,RVs K J h (l.drop n) (vs.drop n) :=
 RVs.ind (P:=λl vs=>∀n:Nat,RVs K J h (l.drop n) (vs.drop n)) (λn=>by cases n <;> exact .nil) (λa r i n=>by
  cases n with
  | zero=>exact .cons a r
  | succ n=>exact i n) r
def TR (K:Kx)(A:aj){α:Type}(t:Sem α)(J:List am)(s:ae)(U':H)(P:List am->α->ae->Prop):Prop :=
 wpAny K.M A t (λa s'=>∃J',Good K J s J' U' s'/\P J' a s') (λu_ v_=>False) s
theorem TR.bind {K:Kx}{A:aj}{α β:Type}{m:Sem α}{f:α->Sem β}{U2:H}{P:List am->α->ae->Prop}{P':List am->β->ae->Prop}
  (h:TR K A m J s U1 P) (h':∀J1 a s1,Good K J s J1 U1 s1->P J1 a s1->TR K A (f a) J1 s1 U2 P'):TR K A (m >>= f) J s U2 P':=by
 refine af (ak h (λa s1 hq=>?_) λu_ v_ f=>f.elim)
 revert hq;refine rEA λJ1 g1 p1=>?_
 refine ak (h' J1 a s1 g1 p1) (λb s2 hq=>?_) λu_ v_ f=>f
 revert hq;refine rEA λJ2 g2 p2=>?_
 exact ⟨J2,g1.trans g2,p2⟩
theorem TR.after {K:Kx}{A:aj}{α:Type}{t:Sem α}{P:List am->α->ae->Prop}(g:Good K J s J1 U1 s1)(h:TR K A t J1 s1 U' P) :
  wpAny K.M A t (λa s'=>∃J',Good K J s J' U' s'/\P J' a s') (λu_ v_=>False) s1 :=
 ak h (λu_ v_ hq=>let ⟨J',g',p⟩:=hq;⟨J',g.trans g',p⟩) λu_ v_ f=>f
theorem TR.pure {K:Kx}{A:aj}{α:Type}{a:α}{P:List am->α->ae->Prop}(x:HR K J U s.heap)(p:P J a s):TR K A (pure a) J s U P:=ar ⟨J,Good.refl x,p⟩
theorem Zad {α:Type}{a:Option α}{b:α}(h:okX a U=S5 (.ok b,U')):a=S5 b/\U'=U:=by
 cases a with
 | none=>exact nn h
 | some a=>refine okE h ?_;exact ⟨rfl,rfl⟩
theorem Zco {α:Type}{a:Option (α×H)}{b:α}(h:okH a=S5 (.ok b,U')):a=S5 (b,U'):=by
 cases a with
 | none=>exact nn h
 | some a=>refine okE h ?_;rfl
def dKx:Kx:=⟨default,Zos,default,λu_=>.none,λu_=>0,λu_=>.none⟩
theorem Ns.at {a:am}{m:Str->Option aa}(x:h.Ns a m)(k:∀o,h.get? a=S5 o->h'.get? a=S5 o):h'.Ns a m :=
 let ⟨o,es,ep,e,r⟩:=x;⟨o,es,ep,k o e,r⟩
theorem Ns.ng {a:am}{m:Str->Option aa}(x:h.Ns a m)(k:∀o,ng h a=S5 o->ng h' a=S5 o):h'.Ns a m:=by
 revert x;refine Xk λo es ep e hd r=>?_
 refine Ud (λo' e1 e2 u3_=>?_) (Zac (k _ (U6 e)))
 exact ⟨o',es,ep,e1,e2.trans hd,r⟩
theorem IsCell.at {a:am}{v:Option aa}(x:h.IsCell a v)(k:∀o,h.get? a=S5 o->h'.get? a=S5 o):h'.IsCell a v :=
 let ⟨o,e,r⟩:=x;⟨o,k o e,r⟩
theorem IsCell.ng {a:am}{v:Option aa}(x:h.IsCell a v)(k:∀o,ng h a=S5 o->ng h' a=S5 o):h'.IsCell a v:=by
 revert x;refine rEA λo e hd=>?_
 refine Ud (λo' e1 e2 u3_=>?_) (Zac (k _ (U6 e)))
 exact ⟨o',e1,e2.trans hd⟩
theorem Ns.ex {a:am}{m:Str->Option aa}(x:h.Ns a m):∃o,h.get? a=S5 o:=let ⟨o,_,_,e,_⟩:=x;⟨o,e⟩
def FF (K:Kx)(A:aj)(J:List am)(h:au):Prop:=∀fs,A.frames=S5 fs->∀env∈fs,env.scope.kind≠.module/\∃L o,env.frame=S5 L/\L ∉ J/\K.h0.get? L=N0/\h.get? L=S5 o/\dy o
theorem FF.step {K:Kx}{A:aj}(x:FF K A J s.heap)(st:Step J s J' s'):FF K A J' s'.heap:=λfs hf env he=>by
 refine Zet (λh1 L o h2 h3 h4 h5 es ep h6=>?_) (x fs hf env he)
 refine Ud (λo' e1 e2 u3_=>?_) (Zac (st.fr L _ (U6 h5) h3))
 refine ⟨h1,L,o',h2,λhm=>?_,h4,e1,es,ep,e2.trans h6⟩
 rcases st.fresh L hm with h | h
 .exact h3 h
 .rw[h5] at h;exact ns h
theorem FF.keep {K:Kx}{A:aj}(x:FF K A J h)(hk:∀b o,h.get? b=S5 o->dy o->∃o',h'.get? b=S5 o'/\dy o'):FF K A J h':=λfs hf env he=>by
 refine Zaz (λh1 L o h2 h3 h4 h5 h6=>?_) (x fs hf env he)
 refine rEA (λo' e1 e2=>?_) (hk L o h5 h6)
 exact ⟨h1,L,o',h2,h3,h4,e1,e2⟩
theorem FF.ns {K:Kx}{A:aj}{N:am}{m:Str->Option aa}(x:FF K A J h)(hk:∀b,b≠N->∀o,h.get? b=S5 o->h'.get? b=S5 o)(hn:h'.Ns N m):FF K A J h':=x.keep λb o e hd=>by
 by_cases hb:b=N
 .subst hb;revert hn;refine Xk λo' es ep e1 e2 u5_=>?_;exact ⟨o',e1,es,ep,e2⟩
 .exact ⟨o,hk b hb o e,hd⟩
theorem FF.but {K:Kx}{A:aj}{N:am}(x:FF K A J h)(hk:∀b,b≠N->∀o,h.get? b=S5 o->h'.get? b=S5 o)(hn:∀o,h.get? N=S5 o->¬ dy o):FF K A J h':=x.keep λb o e hd=>by
 by_cases hb:b=N
 .subst hb;exact absurd hd (hn o e)
 .exact ⟨o,hk b hb o e,hd⟩
structure FO (K:Kx)(A:aj)(env:Env)(c:CEnv)(Z:L)(J:List am)(h:au):Prop where
 kind:env.scope.kind=.function
 names:env.scope.names=c.names
 glob:env.globals=mainGlobals
 blts:env.builtins=builtinsNs
 ns:∃m,h.Ns env.locals m/\∀(x:Str) (i:Nat) v,c.names.lookup x=S5 .local->c.slots.lookup x=S5 i->Z[i]?=S5 (S5 v)->∃cv,m x=S5 cv/\RV K J h v cv
 cell:∀x,c.names.lookup x=S5 .cell->∃a o,env.cells.lookup x=S5 a/\h.IsCell a o/\∀(i:Nat) v,c.slots.lookup x=S5 i->Z[i]?=S5 (S5 v)->∃cv,o=S5 cv/\RV K J h v cv
 inj:∀x y i,c.slots.lookup x=S5 i->c.slots.lookup y=S5 i->x=y
 capart:∀x y a,(x,a)∈env.cells->(y,a)∈env.cells->x=y
 lnew:env.locals ∉ J/\K.h0.get? env.locals=N0
 free:∀(i:Nat) v,c.next<=i->Z[i]?≠S5 (S5 v)
 lt:∀x i,c.slots.lookup x=S5 i->i<c.next
 ff:FF K A J h
 cnew:∀x a,(x,a)∈env.cells->a ∉ J/\K.h0.get? a=N0/\a≠env.locals/\∃o,h.get? a=S5 o/\∀xs n,o.data≠.seq xs n
theorem FO.step {K:Kx}{A:aj}{env:Env}{c:CEnv}(x:FO K A env c Z J s.heap)(hr:HR K J U s.heap)(st:Step J s J' s'):FO K A env c Z J' s'.heap where
 ff:=x.ff.step st
 kind:=x.kind
 names:=x.names
 glob:=x.glob
 blts:=x.blts
 ns:=by
  refine rEA (λm hn hv=>?_) x.ns
  exact ⟨m,Ns.ng hn λo e=>st.fr _ _ e x.lnew.1,λy i v h1 h2 h3=>let ⟨cv,h4,h5⟩:=hv y i v h1 h2 h3;⟨cv,h4,h5.step hr st⟩⟩
 cell:=λy hy=>by
  refine Yn (λa o h1 h2 h3=>?_) (x.cell y hy)
  exact ⟨a,o,h1,IsCell.ng h2 λo e=>st.fr _ _ e (x.cnew y a (mem_of_lookup h1)).1,λi v h4 h5=>let ⟨cv,h6,h7⟩:=h3 i v h4 h5;⟨cv,h6,h7.step hr st⟩⟩
 inj:=x.inj
 capart:=x.capart
 free:=x.free
 lt:=x.lt
 lnew:=by
  refine ⟨λhm=>?_,x.lnew.2⟩
  refine rEA (λm hn u2_=>?_) x.ns
  refine rE (λo e=>?_) (Ns.ex hn)
  rcases st.fresh _ hm with h | h
  .exact x.lnew.1 h
  .rw[e] at h;cases h
 cnew:=λy a hy=>by
  refine Zay (λh1 h2 h3 o h4 h5=>?_) (x.cnew y a hy)
  refine Ud (λo' e1 e3 u3_=>?_) (Zac (st.fr _ _ (U6 h4) h1))
  refine ⟨λhm=>?_,h2,h3,o',e1,by rw[e3];exact h5⟩
  rcases st.fresh _ hm with h | h
  .exact h1 h
  .rw[h4] at h;cases h
noncomputable def Zdh:Blt->aa
 | .len=>.builtin "len"
 | .max=>.builtin "max"
 | .min=>.builtin "min"
 | .sorted=>.builtin "sorted"
 | .int=>.type "int"
 | .list=>.type "list"
 | .isinstance=>.builtin "isinstance"
def GL (K:Kx)(x:Str)(v:aa):Prop:=∃mg mb,K.h0.Ns mainGlobals mg/\K.h0.Ns builtinsNs mb/\(mg x=S5 v\/(mg x=N0/\mb x=S5 v))
structure GK (K:Kx)(T:Tabs):Prop where
 ty:∀x t,T.tys.lookup x=S5 t->GL K x (K.tyv t)
 fn:∀x n,T.fns.lookup x=S5 n->GL K x (.ref (K.fna n))/\∃o fd,K.h0.get? (K.fna n)=S5 o/\o.data=.func fd
 bl:∀x b,T.blts.lookup x=S5 b->GL K x (Zdh b)
 rg:GL K X2 (.type "range")
 cl:∀x k,T.cls.lookup x=S5 k->∃C,GL K x (.ref C)/\K.clv k=.ref C
 ex:∀x k,T.excs.lookup x=S5 k->GL K x (K.tyv k)
def PE (K:Kx)(A:aj)(env:Env)(c:CEnv)(cl:Cl)(e:aq)(a:Ex):Prop :=
 ∀Z U v U',Zg cl a Z U=S5 (.ok v,U')->∀J s,HR K J U s.heap->FO K A env c Z J s.heap->TR K A (eval e env) J s U' λJ' cv s'=>RV K J' s'.heap v cv
section
variable {K:Kx}{A:aj}{env:Env}{c:CEnv}{cl:Cl}{T:Tabs}
theorem Zcp {k:Const}{n:Nat}{pos:Pos}{v:V}(h:Zou k=S5 v):PE K A env c cl (.Constant k n pos) (.lit v):=by
 intro Z U v' U' he J s hr fo
 cases he
 cases k <;> cases h
 .exact wpAny_Constant_none ⟨J,Good.refl hr,.none⟩
 .exact wpAny_Constant_bool ⟨J,Good.refl hr,.bool _⟩
 .exact wpAny_Constant_int ⟨J,(Good.refl hr).tok _,.int _ _⟩
 .exact wpAny_Constant_str ⟨J,(Good.refl hr).tok _,.str _ _⟩
set_option tactic.hygienic true in
theorem Zi4 {x:Str} {i:Nat} (h:Wm c x=S5 i):(c.names.lookup x=S5 .local \/ c.names.lookup x=S5 .cell) /\ (x==("__debug__":Str))=F0 /\ c.slots.lookup x=S5 i:=by
 unfold Wm at h
 split at h
 .rename_i hk
  split at h
  .exact nn h
  .rename_i hd;exact ⟨.inl hk,by simpa using hd,h⟩
 .rename_i hk
  split at h
  .exact nn h
  .rename_i hd;exact ⟨.inr hk,by simpa using hd,h⟩
 .exact nn h
theorem Zuy {x:Str}{pos:Pos}{i:Nat}(h:Wm c x=S5 i):PE K A env c cl (.Name x pos) (.var i):=by
 intro Z U v U' he J s hr fo
 refine rA (λhj hO1=>?_) (Zad (show okX (Z[i]?.join) U=S5 (.ok v,U') from he));refine eqS hO1 ?_
 refine rAA (λhk hd hs=>?_) (Zi4 h)
 have hv:Z[i]?=S5 (S5 v):=by
  cases hl:Z[i]? with
  | none=>rw[hl] at hj;exact nn hj
  | some o=>rw[hl] at hj;simp at hj;rw[hj]
 refine wpAny_Name ?_ hd
 rcases hk with hk | hk
 .refine rEA (λm hn hm=>?_) fo.ns
  refine rEA (λcv h1 h2=>?_) (hm x i v hk hs hv)
  exact wpAny_loadName_local fo.kind (show env.scope.names.lookup x=_ by rw[fo.names];exact hk) hn h1 ⟨J,Good.refl hr,h2⟩
 .refine Yn (λa o h1 h2 h3=>?_) (fo.cell x hk)
  refine byC λXX=>?_;refine rEA (λcv hO1 h4=>?_) (h3 i v hs hv);subst hO1;apply XX
  exact wpAny_loadName_cell fo.kind (show env.scope.names.lookup x=_ by rw[fo.names];exact hk) h1 h2 ⟨J,Good.refl hr,h4⟩
theorem Wh {x:Str}{pos:Pos}{v:aa}{Q:aa->ae->Prop}{E:aa->ae->Prop}(hr:HR K J U s.heap)(fo:FO K A env c Z J s.heap)
  (hi:Jk c x=T1) (hl:GL K x v) (hq:Q v s):wpAny K.M A (eval (.Name x pos) env) Q E s:=by
 revert hl;refine Yn λmg mb hg hb hv=>?_
 have hg':s.heap.Ns env.globals mg:=by rw[fo.glob];exact hg.keeps hr.keep
 refine Calls.Name_function_global fo.kind (show env.scope.names.lookup x=_ by rw[fo.names];exact eq_of_beq (Wy hi)) ?_ ((D7 _).mp (Qu hi))
 rcases hv with hv | ⟨h1,h2⟩
 .exact Calls.loadGlobal_global hg' hv hq
 .exact Calls.loadGlobal_builtin hg' h1 (show s.heap.Ns env.builtins mb by rw[fo.blts];exact hb.keeps hr.keep) h2 hq
theorem Zo0 {x:Str}{pos:Pos}{t:Nat}(hi:Jk c x=T1)(hl:GL K x (K.tyv t)):PE K A env c cl (.Name x pos) (.ty t):=by
 intro Z U v U' he J s hr fo
 refine okE he ?_
 exact Wh hr fo hi hl ⟨J,Good.refl hr,.ty t⟩
end
end Mini.Internal
namespace Mini.Internal
open PySem PyProof.Rows
variable {J J' J1:List am}{U U' U1:H}{s s' s1:ae}{h h':au}{Z Z':L}
set_option tactic.hygienic true in
theorem Ji {a:Int}{n:Nat}(h:a.natAbs<2^n):bf.Int.intBits a<=n:=by
 unfold bf.Int.intBits
 split
 .exact C9 _
 .rename_i h0
  obtain hp:a.natAbs≠0:=by simpa using h0
  have:=(Mq hp).mpr h
  exact Nb 0x1650a1701c11 Tt this
theorem mulOK.ok {a b:Int}(h:mulOK a b):f8 a b:=by
 rcases h with h | h | ⟨h1,h2⟩
 .exact f8.of_left (Ji h)
 .exact f8.of_right (Ji h)
 .obtain e1:bf.Int.intBits a<=2^21:=Ji h1
  obtain e2:bf.Int.intBits b<=2^21:=Ji h2
  unfold f8 bf.Int.intTooBig bitsLine
  simp only[Bs,decide_eq_true_eq,not_and]
  intro _
  lia
set_option tactic.hygienic true in
theorem X3 {l:List V}{v:V}(h:Jb U l=S5 (v,U')):l.length<=Zo/\v=.obj U.length/\U'=U++[.list l]:=by
 unfold Jb at h
 split at h
 .rename_i hl;refine pE h ?_;exact ⟨hl,rfl,rfl⟩
 .exact nn h
section
variable {K:Kx}{A:aj}
theorem Zdi (hr:HR K J U s.heap){l:List V}{vs:List aa}(r:RVs K J s.heap l vs)(hl:l.length<=Zo){n:Nat}(t:Nat) :
  Good K J s (J++[s.heap.objs.size]) (U++[.list l]) { s with heap:=s.heap.push (Yd vs n),toks:=t }/\RV K (J++[s.heap.objs.size]) (s.heap.push (Yd vs n)) (.obj U.length) (.ref s.heap.objs.size):=by
 obtain hk:∀b o,s.heap.get? b=S5 o->(s.heap.push (Yd vs n)).get? b=S5 o:=λb o e=>au.get?_push_of_some _ e
 refine ⟨Good.alloc (o:=.list l) hr hk (get?_size _) ⟨vs,n,au.get?_push_size _ rfl,r.mono (C8 _ _) (λa vs e=>hk _ _ e),hl⟩ t,.obj ?_⟩
 rw[Bh (by rw[hr.len];exact Bp _),hr.len];simp
theorem Zo1 (hr:HR K J U s.heap){l:List V}{vs:List aa}(r:RVs K J s.heap l vs)(hl:l.length<=Zo)(t:Nat) :
  Good K J s J U { s with heap:=s.heap.push (Z6 vs),toks:=t }/\RV K J (s.heap.push (Z6 vs)) (.tup l) (.ref s.heap.objs.size):=by
 obtain hk:∀b o,s.heap.get? b=S5 o->(s.heap.push (Z6 vs)).get? b=S5 o:=λb o e=>au.get?_push_of_some _ e
 exact ⟨Good.grow hr hk t,.tup (au.get?_push_size _ rfl) (r.mono (Bt _) λa vs e=>hk _ _ e) hl⟩
set_option tactic.hygienic true in
theorem Ui (hr:HR K J U h){v:V}{x:aa}{l:List V}(e:Yj U v=S5 l)(r:RV K J h v x) :
  ∃a vs n,x=.ref a/\h.get? a=S5 (Yd vs n)/\RVs K J h l vs/\l.length<=Zo:=by
 cases v with
 | obj n=>
  refine rEA (λu0_ hO1 ha=>?_) (r.objI rfl);refine eqS hO1 ?_
  simp only[Yj] at e
  split at e
  .rename_i l' hl
   obtain rfl:=B0.inj e
   refine Yn (λvs n' h1 h2 h3=>?_) (hr.obj _ _ _ hl ha)
   exact ⟨_,vs,n',rfl,h1,h2,h3⟩
  .exact nn e
 | frz l'=>
  cases r with
  | frz ha hv hn=>refine siE e ?_;exact ⟨_,_,_,rfl,hr.keep _ _ ha,hv,by simpa using hn⟩
 | _=>exact nn e
theorem Wu {l:List V}{vs:List aa}(r:RVs K J h l vs)(hl:l.length<=Zo):vs.length<=sizeLine:=by
 rw[← r.length,sizeLine_eq];unfold Zo at hl;exact Na 0x16010000007e60f42405ec11 Tt hl
set_option tactic.hygienic true in
theorem Zi5 {op:Bop}{a b z:Int}(h:Zbu op a b=S5 z){o:ce}(ho:cOp o=S5 op){t u:Tok}{Q:aa->ae->Prop}{E:aa->ae->Prop}(hq:∀t' n,Q (.int z t') { s with toks:=n }) :
  wpAny K.M A (binaryOp o (.int a t) (.int b u)) Q E s:=by
 cases o <;> cases ho
 .obtain rfl:=B0.inj h;exact add_int (hq _ _)
 .obtain rfl:=B0.inj h;exact sub_int' (hq _ _)
 .simp only[Zbu] at h
  split at h
  .rename_i hm;obtain rfl:=B0.inj h;exact mul_int (hq _ _) hm.ok
  .exact nn h
 .simp only[Zbu] at h
  split at h
  .rename_i hm;obtain rfl:=B0.inj h;exact mod_int' hm (hq _ _)
  .exact nn h
 .simp only[Zbu] at h
  split at h
  .rename_i hm
   obtain rfl:=B0.inj h
   refine pow_int hm.1 ?_ (hq _ _)
   obtain h1:=Ji hm.2.2
   exact Cp (Md (Lf.mpr h1) hm.2.1 hm.1 (by exact lin [] (.zle .k0 (.n (.k 64))) (.d 11) rfl [] [])) (by decide)
  .exact nn h
 .simp only[Zbu] at h
  split at h
  .rename_i hm
   obtain rfl:=B0.inj h
   refine floordiv_int hm.1 (hq _ _) (.inl (PyProof.noPylong_of_log2 ?_))
   have:=(Mq (show (_:Int).natAbs≠0 by simpa using hm.1)).mpr hm.2
   exact Na 0x17023284e701003ec11 Tt this
  .exact nn h
theorem Znb {x y v:V}(h:Zuw U x y=S5 (v,U')){cx cy:aa}(hr:HR K J U s.heap)(rx:RV K J s.heap x cx)(ry:RV K J s.heap y cy):TR K A (binaryOp .Add cx cy) J s U' λJ' cv s'=>RV K J' s'.heap v cv:=by
 refine Zy (h) λl1 h1 h=>?_
 refine Zy (h) λl2 h2 h=>?_
 refine byC λXX=>?_;refine rAA (λhl hO1 hO2=>?_) (X3 h);subst hO1;subst hO2;apply XX
 refine Xp (λa vs n hO3 g1 r1 u6_=>?_) (Ui hr h1 rx);refine eqS hO3 ?_
 refine byC λXX=>?_;refine Xp (λb ws n2 hO3 g2 r2 u6_=>?_) (Ui hr h2 ry);subst hO3;apply XX
 obtain hsz:vs.toArray.size+ws.toArray.size<=sizeLine:=by
  have:=Wu (r1.append r2) hl
  rw[Bq] at this;exact this
 refine concat_meets ⟨_,g1,rfl⟩ ⟨_,g2,rfl⟩ noFill_list_add seq_list_add PySem.F.slot_list_add PySem.F.entry_list_add (PySem.F.args_list_add_2 _ _) (list_addW a b vs.toArray ws.toArray n n2 N0 N0 #[] #[] hsz) ⟨g1,g2,?_⟩
 obtain e:vs.toArray++ws.toArray=(vs++ws).toArray:=List.append_toArray ..
 rw[e]
 refine rA (λg rr=>?_) (Zdi (n:=0) hr (r1.append r2) hl s.toks)
 exact ⟨_,g,rr⟩
set_option tactic.hygienic true in
theorem Znc {x:Str}{y v:V}(h:Zxj U x y=S5 (v,U')){cx cy:aa}(hr:HR K J U s.heap)(rx:RV K J s.heap (.str x) cx)(ry:RV K J s.heap y cy):TR K A (binaryOp .Mult cx cy) J s U' λJ' cv s'=>RV K J' s'.heap v cv:=by
 refine Zy (h) λk h2 h'=>?_
 clear h
 obtain rfl:=Jf h2
 have h:=h';clear h'
 refine byC λXX=>?_;refine rE (λu0_ hO1=>?_) (rx.strI rfl);subst hO1;apply XX;clear XX;refine byC λXX=>?_;refine rE (λu0_ hO1=>?_) (ry.intI rfl);subst hO1;apply XX;clear XX
 split at h
 .rename_i hk
  subst hk;refine pE h ?_
  refine P.mul_str (by decide) (λu_ hc=>by simp at hc) (λu_ hc=>by simp at hc) ?_
  rw[gq (by decide),gp (by simp)]
  exact ⟨J,Good.refl hr,.str _ _⟩
 .split at h
  .rename_i hk
   subst hk;refine pE h ?_
   exact P.mul_str_none (by decide) (by decide) ⟨J,(Good.refl hr).tok _,.str _ _⟩
  .exact nn h
theorem Zuz {o:ce}(h:cOp o=S5 .add):o=.Add:=by cases o <;> first | rfl | cases h
theorem Zu0 {o:ce}(h:cOp o=S5 .mul):o=.Mult:=by cases o <;> first | rfl | cases h
set_option tactic.hygienic true in
theorem Zi6 {op:Bop}{x y v:V}(h:Wp op x y U=S5 (v,U')){cx cy:aa}(hr:HR K J U s.heap)(rx:RV K J s.heap x cx)(ry:RV K J s.heap y cy)
  {o:ce} (ho:cOp o=S5 op):TR K A (binaryOp o cx cy) J s U' λJ' cv s'=>RV K J' s'.heap v cv:=by
 cases x with
 | int a=>
  refine Zy (h) λb hb h=>?_
  obtain rfl:=Jf hb
  refine Wb (h) λz hz e=>?_
  refine byC λXX=>?_;refine rA (λhO0 hO1=>?_) (Ik.inj e);subst hO0;subst hO1;apply XX;clear XX;refine byC λXX=>?_;refine rE (λu0_ hO1=>?_) (rx.intI rfl);subst hO1;apply XX;clear XX;refine byC λXX=>?_;refine rE (λu0_ hO1=>?_) (ry.intI rfl);subst hO1;apply XX;clear XX
  exact Zi5 hz ho λu_ v_=>⟨J,(Good.refl hr).tok _,.int _ _⟩
 | obj n=>
  simp only[Wp] at h
  split at h
  .rename_i e;subst e;rw[Zuz ho];exact Znb h hr rx ry
  .exact nn h
 | str l=>
  simp only[Wp] at h
  split at h
  .rename_i e;subst e;rw[Zu0 ho];exact Znc h hr rx ry
  .exact nn h
 | _=>exact nn h
end
end Mini.Internal
namespace Mini.Internal
open PySem PyProof.Rows PySem.SeqAt
variable {J J' J1:List am}{U U' U1:H}{s s' s1:ae}{h h':au}{Z Z':L}
open AutoSeq1 (wpAny_loadPart')
section
variable {K:Kx}{A:aj}
theorem Zo2 {v w:V}{l r:List V}{b:Bool}(e:ltT (v::l) (w::r)=S5 b):∃a c,v=.int a/\w=.int c:=by
 cases v with
 | int a=>
  cases w with
  | int c=>exact ⟨a,c,rfl,rfl⟩
  | _=>exact nn e
 | _=>cases w <;> exact nn e
theorem Zi7 {l r:List V}{vs ws:List aa}(r1:RVs K J h l vs)(r2:RVs K J h r ws){b:Bool}(e:ltT l r=S5 b)(hv:vs≠[])(hw:ws≠[]) :
  ∃a c t u l' r' vs' ws',vs=.int a t::vs'/\ws=.int c u::ws'/\RVs K J h l' vs'/\RVs K J h r' ws'/\(if a=c then ltT l' r'=S5 b else b=decide (a<c)):=by
 cases l with
 | nil=>exact absurd (r1.nilI) hv
 | cons v l'=>
  cases r with
  | nil=>exact absurd (r2.nilI) hw
  | cons w r'=>
   refine byC λXX=>?_;refine Ug (λa c hO2 hO3=>?_) (Zo2 e);subst hO2;subst hO3;apply XX
   refine byC λXX=>?_;refine Yn (λu0_ vs' hO2 x1 s1=>?_) (r1.consI);subst hO2;apply XX
   refine byC λXX=>?_;refine Yn (λu0_ ws' hO2 x2 s2=>?_) (r2.consI);subst hO2;apply XX
   refine byC λXX=>?_;refine rE (λt hO1=>?_) (x1.intI rfl);subst hO1;apply XX
   refine rE (λu hO1=>?_) (x2.intI rfl);refine eqS hO1 ?_
   refine ⟨a,c,t,u,l',r',vs',ws',rfl,rfl,s1,s2,?_⟩
   obtain e:(if a=c then ltT l' r' else S5 (decide (a<c)))=S5 b:=e
   by_cases hac:a=c
   .rw[gp hac] at e ⊢;exact e
   .rw[gq hac] at e ⊢;exact (B0.inj e).symm
theorem Zma {l r:List V}{vs ws vs0 ws0:List aa}(r1:RVs K J h l vs)(r2:RVs K J h r ws){b:Bool}(e:ltT l r=S5 b)(hz:[]=vs.zip ws)
  (hl:(vs.length:Int)-ws.length=vs0.length-ws0.length):b=decide (vs0.length<ws0.length):=by
 cases r1 with
 | nil=>
  cases r2 with
  | nil=>refine siE e ?_;simp at hl;simp;exact ln2 [(.zeq .k0 (.s (.n .v1) (.n .v0)))] (.le .v0 .v1) (.d 111) rfl hl
  | cons _ s2=>refine siE e ?_;simp at hl;simp;exact ln3 [(.zeq (.g (.a (.n .v2) .k1)) (.s (.n .v0) (.n .v1)))] (.lt .v0 .v1) (.d 1101) rfl hl
 | cons x1 s1=>
  cases r2 with
  | nil=>refine siE e ?_;simp at hl;simp;exact ln3 [(.zeq (.a (.n .v2) .k1) (.s (.n .v1) (.n .v0)))] (.le .v0 .v1) (.d 111) rfl hl
  | cons _ s2=>simp at hz
set_option maxHeartbeats 1000000 in
theorem Znd (l b:am)(vs ws:List aa)(x y:List V)(J:List am)(r:Bool)(e:ltT x y=S5 r) :
  Meets (bf.«tuple.__lt__» ⟨[.ref l,.ref b],[]⟩)
   (λu_ R s=>s.heap.get? l=S5 (Z6 vs)/\s.heap.get? b=S5 (Z6 ws)/\RVs K J s.heap x vs/\RVs K J s.heap y ws/\R (.ok (.ret (.bool r))) s) :=
 .of_wp λprog w A R s h=>by
  refine byC λXX=>?_;obtain ⟨hp,g,d,tk,os⟩:=s;apply XX;revert h;refine Zl1 λhl hb r1 r2 h=>?_
  obtain f2:=AutoSeq1.sub_tuple_tuple
  wp_walk using wpAny_loadPart' hl,wpAny_loadPart' hb,fx _ (λrest b s'=>b.1=N0/\s'=⟨hp,g,d,tk,os⟩/\∃x' y' vs' ws',rest=vs'.zip ws'/\RVs K J hp x' vs'/\RVs K J hp y' ws'/\ltT x' y'=S5 r/\(vs'.length:Int)-ws'.length=vs.length-ws.length) _
  case turn=>
   intro hR0 rest b s' hR4
   refine byC λXX=>?_;obtain ⟨p,q⟩:=hR0;apply XX
   revert hR4;refine Qb λhb' hO1 x' y' vs' ws' hz s1 s2 e' hlen=>?_;refine eqS hO1 ?_
   refine byC λXX=>?_;refine Zbt (λa c t u l' r' vs2 ws2 hO8 hO9 q1 q2 hif=>?_) (Zi7 s1 s2 e' (by intro h0;subst h0;cases hz) (by intro h0;subst h0;simp at hz));subst hO8;subst hO9;apply XX
   cases hz
   refine af (EqAt.int_int a t c u prog w _ _ ?_)
   by_cases hac:a=c
   .rw[gp hac] at hif
    rw[show (a == c)=T1 by simpa using hac]
    wp_walk
    exact ⟨rfl,rfl,l',r',vs2,ws2,rfl,q1,q2,hif,by simp at hlen;exact ln4 [(.zeq (.s (.a (.n .v0) .k1) (.a (.n .v1) .k1)) (.s (.n .v2) (.n .v3)))] (.zeq (.s (.n .v0) (.n .v1)) (.s (.n .v2) (.n .v3))) (.s (.d 1101) (.d 111)) rfl hlen⟩
   .rw[gq hac] at hif
    rw[show (a == c)=F0 by simpa using hac]
    subst hif
    refine af (br (af (show wpAny _ _ (compareOp .Lt (.int a t) (.int c u)) _ _ _ from lt_int ?_)))
    exact af (ar (ar (ar ⟨_,rfl,h⟩)))
  case fin=>
   intro hR0 s' hR2
   refine byC λXX=>?_;obtain ⟨b1,b2⟩:=hR0;apply XX
   revert hR2;refine Qb λhb' hO1 x' y' vs' ws' hz s1 s2 e' hlen=>?_;refine eqS hO1 ?_
   simp only at hb'
   subst hb'
   wp_walk
   refine ⟨_,rfl,?_⟩
   obtain hr:r=decide (vs.length<ws.length):=Zma s1 s2 e' hz hlen
   subst hr
   simpa[bf.Tuple.tupleCompareSizes] using h
  case h=>
   exact ⟨rfl,rfl,x,y,vs,ws,by simp,r1,r2,e,rfl⟩
set_option maxHeartbeats 1000000 in
theorem Zne (l b:am)(vs ws:List aa)(x y:List V)(J:List am)(r:Bool)(e:ltT y x=S5 r) :
  Meets (bf.«tuple.__gt__» ⟨[.ref l,.ref b],[]⟩)
   (λu_ R s=>s.heap.get? l=S5 (Z6 vs)/\s.heap.get? b=S5 (Z6 ws)/\RVs K J s.heap x vs/\RVs K J s.heap y ws/\R (.ok (.ret (.bool r))) s) :=
 .of_wp λprog w A R s h=>by
  refine byC λXX=>?_;obtain ⟨hp,g,d,tk,os⟩:=s;apply XX;revert h;refine Zl1 λhl hb r1 r2 h=>?_
  obtain f2:=AutoSeq1.sub_tuple_tuple
  wp_walk using wpAny_loadPart' hl,wpAny_loadPart' hb,fx _ (λrest b s'=>b.1=N0/\s'=⟨hp,g,d,tk,os⟩/\∃x' y' vs' ws',rest=vs'.zip ws'/\RVs K J hp x' vs'/\RVs K J hp y' ws'/\ltT y' x'=S5 r/\(vs'.length:Int)-ws'.length=vs.length-ws.length) _
  case turn=>
   intro hR0 rest b s' hR4
   refine byC λXX=>?_;obtain ⟨p,q⟩:=hR0;apply XX
   revert hR4;refine Qb λhb' hO1 x' y' vs' ws' hz s1 s2 e' hlen=>?_;refine eqS hO1 ?_
   refine byC λXX=>?_;refine Zbt (λc a u t r' l' ws2 vs2 hO8 hO9 q2 q1 hif=>?_) (Zi7 s2 s1 e' (by intro h0;subst h0;simp at hz) (by intro h0;subst h0;cases hz));subst hO8;subst hO9;apply XX
   cases hz
   refine af (EqAt.int_int a t c u prog w _ _ ?_)
   by_cases hac:c=a
   .rw[gp hac] at hif
    rw[show (a == c)=T1 by simpa using hac.symm]
    wp_walk
    exact ⟨rfl,rfl,l',r',vs2,ws2,rfl,q1,q2,hif,by simp at hlen;exact ln4 [(.zeq (.s (.a (.n .v0) .k1) (.a (.n .v1) .k1)) (.s (.n .v2) (.n .v3)))] (.zeq (.s (.n .v0) (.n .v1)) (.s (.n .v2) (.n .v3))) (.s (.d 1101) (.d 111)) rfl hlen⟩
   .rw[gq hac] at hif
    rw[show (a == c)=F0 by simpa using λe=>hac e.symm]
    subst hif
    refine af (br (af (show wpAny _ _ (compareOp .Gt (.int a t) (.int c u)) _ _ _ from gt_int ?_)))
    exact af (ar (ar (ar ⟨_,rfl,h⟩)))
  case fin=>
   intro hR0 s' hR2
   refine byC λXX=>?_;obtain ⟨b1,b2⟩:=hR0;apply XX
   revert hR2;refine Qb λhb' hO1 x' y' vs' ws' hz s1 s2 e' hlen=>?_;refine eqS hO1 ?_
   simp only at hb'
   subst hb'
   wp_walk
   refine ⟨_,rfl,?_⟩
   obtain hr:r=decide (ws.length<vs.length):=Zma s2 s1 e' (by cases vs' <;> cases ws' <;> simp at hz ⊢) (by exact ln4 [(.zeq (.s (.n .v1) (.n .v0)) (.s (.n .v3) (.n .v2)))] (.zeq (.s (.n .v0) (.n .v1)) (.s (.n .v2) (.n .v3))) (.s (.d 111) (.d 1101)) rfl hlen)
   subst hr
   simpa[bf.Tuple.tupleCompareSizes] using h
  case h=>
   exact ⟨rfl,rfl,x,y,vs,ws,by simp,r1,r2,e,rfl⟩
end
section
variable {K:Kx}{A:aj}
theorem Zae {f:V->Option aw}{n:Nat}(hf:∀v cv d,f v=S5 d->RV K J h v cv->∃as,Reads h cv d as/\d.canLay0=T1/\d.depth<=n) :
  ∀(l:List V) (vs:List aa) (ds:List aw),l.mapM f=S5 ds->RVs K J h l vs->∃as,ReadsAll h vs ds as/\aw.canLayAll0 ds=T1/\aw.depthAll ds<=n
 | [],vs,ds,e,r=>by
  simp at e;subst e;cases r;exact ⟨[],.nil,rfl,C9 _⟩
 | v::l,vs,ds,e,r=>by
  cases r with
  | cons r0 r1=>
   simp only[Dn,Option.bind_eq_bind,C4] at e
   revert e;refine Zxd λd hd ds' hds e=>?_
   simp at e;subst e
   refine Ud (λas h1 h2 h3=>?_) (hf v _ d hd r0)
   refine Ud (λbs g1 g2 g3=>?_) (Zae hf l _ ds' hds r1)
   exact ⟨_,.cons h1 g1,by simp[aw.canLayAll0,h2,g2],by simp only[aw.depthAll];exact Nd 0x1601621631bd023cba10101a11001 Tt h3 g3 (Q8 _ _)⟩
set_option tactic.hygienic true in
theorem Qx (hr:HR K J U h):∀(f:Nat) (v:V) (cv:aa) (d:aw),toD f U v=S5 d->RV K J h v cv->∃as,Reads h cv d as/\d.canLay0=T1/\d.depth<=f
 | 0,v,cv,d,e,r=>by simp[toD] at e
 | f+1,v,cv,d,e,r=>by
  have ih:=Qx hr f
  cases r with
  | none=>simp[toD] at e;subst e;exact ⟨[],.none,rfl,C9 _⟩
  | bool b=>simp[toD] at e;subst e;exact ⟨[],.bool b,rfl,C9 _⟩
  | int i t=>simp[toD] at e;subst e;exact ⟨[],.int i t,rfl,C9 _⟩
  | str s t=>
   simp only[toD] at e
   split at e
   .rename_i hs;refine siE e ?_;exact ⟨[],.str s t,by simpa[aw.canLay0] using hs,C9 _⟩
   .exact nn e
  | tup ha rs hn=>
   simp only[toD,Bi] at e
   revert e;refine rEA λds h1 hO2=>?_;refine eqE hO2 ?_
   refine Ud (λas g1 g2 g3=>?_) (Zae (λv cv d=>ih v cv d) _ _ ds h1 rs)
   exact ⟨as,.tuple ha rfl rfl (by simpa using g1),by simpa[aw.canLay0] using g2,by simp only[aw.depth];exact Nb 0x1650a51a601c11 Tt g3⟩
  | obj ha=>
   simp only[toD] at e
   split at e
   .rename_i l hl
    simp only[Bi] at e
    revert e;refine rEA λds h1 hO2=>?_;refine eqE hO2 ?_
    refine Yn (λvs n e1 rs u4_=>?_) (hr.obj _ _ _ hl ha)
    refine Ud (λas g1 g2 g3=>?_) (Zae (λv cv d=>ih v cv d) _ _ ds h1 rs)
    exact ⟨_,.list e1 rfl rfl (by simpa using g1),by simpa[aw.canLay0] using g2,by simp only[aw.depth];exact Nb 0x1650a51a601c11 Tt g3⟩
   .exact nn e
  | ty t=>simp[toD] at e
  | frz _ _ _=>simp[toD] at e
set_option tactic.hygienic true in
theorem Zrr {x y:V}{b:Bool}(e:eqV U x y=S5 b):∃dx dy,toD 6 U x=S5 dx/\toD 6 U y=S5 dy/\b=aw.eqv dx dy:=by
 unfold eqV at e
 split at e
 .rename_i h1 h2;refine siE e ?_;exact ⟨_,_,h1,h2,rfl⟩
 .exact nn e
theorem Zdj (hr:HR K J U h){v:V}{x:aa}{l:List V}(e:items U v=S5 l)(r:RV K J h v x) :
  ∃a vs,x=.ref a/\((∃n,h.get? a=S5 (Yd vs n))\/h.get? a=S5 (Z6 vs))/\RVs K J h l vs/\l.length<=Zo:=by
 cases v with
 | obj n=>
  refine Xk (λa vs n' h1 h2 h3=>?_) (Ui hr (l:=l) (show Yj U (.obj n)=S5 l from e) r)
  exact ⟨a,vs,h1,.inl ⟨n',h2⟩,h3⟩
 | frz l'=>
  refine Xk (λa vs n' h1 h2 h3=>?_) (Ui hr (l:=l) (show Yj U (.frz l')=S5 l from e) r)
  exact ⟨a,vs,h1,.inl ⟨n',h2⟩,h3⟩
 | tup l'=>
  refine U9 (λu0_ u1_ hO2 ha rs hn=>?_) (r.tupI rfl);refine eqS hO2 ?_;obtain rfl:=B0.inj e;exact ⟨_,_,rfl,.inr ha,rs,hn⟩
 | _=>exact nn e
theorem Zmb {x y:V}{b:Bool}(e:isV x y=S5 b){cx cy:aa}(rx:RV K J h x cx)(ry:RV K J h y cy):plainIs cx cy=T1/\(cx == cy)=b:=by
 cases y with
 | none=>
  obtain rfl:=ry.noneI rfl
  obtain e:Zl5 x=S5 b:=e
  cases rx with
  | ty t=>exact nn e
  | _=>refine siE e ?_;exact ⟨rfl,rfl⟩
 | bool c=>
  obtain rfl:=ry.boolI rfl
  obtain e:Zl6 c x=S5 b:=e
  cases rx with
  | bool d=>refine siE e ?_;exact ⟨rfl,by rw[Ko];simp⟩
  | int _ _=>refine siE e ?_;exact ⟨rfl,rfl⟩
  | none=>refine siE e ?_;exact ⟨rfl,rfl⟩
  | _=>exact nn e
 | _=>exact nn e
theorem Zi8 {x y:V}{b:Bool}(h:ltV x y=S5 b){cx cy:aa}(rx:RV K J s.heap x cx)(ry:RV K J s.heap y cy)(hu:A.units+16<cLine){Q:aa->ae->Prop}{E:aa->ae->Prop}(hq:Q (.bool b) s) :
  wpAny K.M A (compareOp .Lt cx cy) Q E s/\wpAny K.M A (compareOp .Gt cy cx) Q E s:=by
 cases x with
 | int a=>
  refine Wb (h) λc hc e=>?_
  obtain rfl:=Jf hc
  subst e;refine byC λXX=>?_;refine rE (λu0_ hO1=>?_) (rx.intI rfl);subst hO1;apply XX;refine byC λXX=>?_;refine rE (λu0_ hO1=>?_) (ry.intI rfl);subst hO1;apply XX
  exact ⟨lt_int hq,gt_int hq⟩
 | tup l=>
  refine Zy (h) λr hc e=>?_
  obtain rfl:=Zdd hc
  refine byC λXX=>?_;refine U9 (λu0_ u1_ hO2 e1 r1 u5_=>?_) (rx.tupI rfl);subst hO2;apply XX
  refine byC λXX=>?_;refine U9 (λu0_ u1_ hO2 e2 r2 u5_=>?_) (ry.tupI rfl);subst hO2;apply XX
  exact ⟨dp (op:=.Lt) ⟨_,e1,rfl⟩ ⟨_,e2,rfl⟩ F.slot_tuple_lt F.entry_tuple_lt (F.args_tuple_lt_2 _ _) (Znd _ _ _ _ _ _ J b e) ⟨e1,e2,r1,r2,⟨(λx=>nomatch x),hq⟩⟩ (Nb 0x1701750102e1c11 Tt hu),
   dp (op:=.Gt) ⟨_,e2,rfl⟩ ⟨_,e1,rfl⟩ F.slot_tuple_gt F.entry_tuple_gt (F.args_tuple_gt_2 _ _) (Zne _ _ _ _ _ _ J b e) ⟨e2,e1,r2,r1,⟨(λx=>nomatch x),hq⟩⟩ (Nb 0x1701750102e1c11 Tt hu)⟩
 | _=>exact nn h
theorem Zi9 {x y:V}{b:Bool}(h:leV x y=S5 b){cx cy:aa}(rx:RV K J s.heap x cx)(ry:RV K J s.heap y cy){Q:aa->ae->Prop}{E:aa->ae->Prop}(hq:Q (.bool b) s) :
  wpAny K.M A (compareOp .LtE cx cy) Q E s/\wpAny K.M A (compareOp .GtE cy cx) Q E s:=by
 refine Zy (h) λa ha h'=>?_
 refine Wb (h') λc hc e=>?_
 obtain rfl:=Jf ha
 obtain rfl:=Jf hc
 subst e;refine byC λXX=>?_;refine rE (λu0_ hO1=>?_) (rx.intI rfl);subst hO1;apply XX;refine rE (λu0_ hO1=>?_) (ry.intI rfl);refine eqS hO1 ?_
 exact ⟨le_int hq,ge_int hq⟩
set_option tactic.hygienic true in
theorem Zja {x y:V}{b:Bool}(h:(items U y).bind (inV U x)=S5 b){cx cy:aa}(hr:HR K J U s.heap)(rx:RV K J s.heap x cx)(ry:RV K J s.heap y cy)(hu:A.units+16<cLine){Q:aa->ae->Prop}{E:aa->ae->Prop} :
  (Q (.bool b) s->wpAny K.M A (compareOp .In cx cy) Q E s)/\(Q (.bool (!b)) s->wpAny K.M A (compareOp .NotIn cx cy) Q E s):=by
 refine Zy (h) λl hl hi=>?_
 unfold inV at hi
 split at hi
 .rename_i ds d hd1 hd2
  refine siE hi ?_
  refine U9 (λa vs hO2 hobj rs u5_=>?_) (Zdj hr hl ry);refine eqS hO2 ?_
  refine Ud (λas g1 g2 g3=>?_) (Zae (Qx hr 6) _ _ _ hd1 rs)
  refine Ud (λbs k1 k2 k3=>?_) (Qx hr 6 _ _ _ hd2 rx)
  obtain hu':A.units+1+min (aw.depthAll ds) d.depth<cLine:=by
   obtain this:min (aw.depthAll ds) d.depth<=6:=Bc (D1 _ _) g3
   exact Nc 0x17550a12750102e26161ec111 Tt hu this
  rcases hobj with ⟨n,e⟩ | e
  .obtain hR:=Reads.list e rfl rfl g1
   exact ⟨λhq=>in_list_reads hR k1 g2 k2 hu' hq,λhq=>notIn_list_reads hR k1 g2 k2 hu' hq⟩
  .obtain hR:=Reads.tuple e rfl rfl g1
   exact ⟨λhq=>in_tuple_reads hR k1 g2 k2 hu' hq,λhq=>notIn_tuple_reads hR k1 g2 k2 hu' hq⟩
 .exact nn hi
theorem Zjb {x y:V}{b:Bool}(h:eqV U x y=S5 b){cx cy:aa}(hr:HR K J U s.heap)(rx:RV K J s.heap x cx)(ry:RV K J s.heap y cy)(hu:A.units+16<cLine){Q:aa->ae->Prop}{E:aa->ae->Prop} :
  (Q (.bool b) s->wpAny K.M A (compareOp .Eq cx cy) Q E s)/\(Q (.bool (!b)) s->wpAny K.M A (compareOp .NotEq cx cy) Q E s):=by
 refine Yn (λdx dy h1 h2 hO4=>?_) (Zrr h);refine eqS hO4 ?_
 refine Ud (λas g1 g2 g3=>?_) (Qx hr 6 _ _ _ h1 rx)
 refine Ud (λbs k1 k2 k3=>?_) (Qx hr 6 _ _ _ h2 ry)
 obtain hu':A.units+1+min dx.depth dy.depth<cLine:=by
  obtain this:min dx.depth dy.depth<=6:=Bc (D1 _ _) g3
  exact Nc 0x17550a12750102e26161ec111 Tt hu this
 exact ⟨λhq=>compareEq_reads g1 k1 g2 k2 (Nc 0x1750127550a12c11 Tt hu') hq,λhq=>compareNe_reads g1 k1 g2 k2 (Nc 0x1750127550a12c11 Tt hu') hq⟩
theorem Wi {op:Cop}{x y:V}{b:Bool}(h:Yo op x y U=S5 b){cx cy:aa}(hr:HR K J U s.heap)(rx:RV K J s.heap x cx)(ry:RV K J s.heap y cy)
  {o:bx} (ho:Zov o=op) (hu:A.units+16<cLine) {Q:VSP}{E:VSP} (hq:Q (.bool b) s):wpAny K.M A (compareOp o cx cy) Q E s:=by
 subst ho
 cases o with
 | Eq=>exact (Zjb h hr rx ry hu).1 hq
 | NotEq=>
  refine byC λXX=>?_;refine rEA (λb' hb' hO2=>?_) (Bi.mp h);subst hO2;apply XX
  exact (Zjb hb' hr rx ry hu).2 hq
 | Lt=>exact (Zi8 h rx ry hu hq).1
 | LtE=>exact (Zi9 h rx ry hq).1
 | Gt=>exact (Zi8 h ry rx hu hq).2
 | GtE=>exact (Zi9 h ry rx hq).2
 | Is=>
  refine rA (λh1 h2=>?_) (Zmb h rx ry)
  exact wpAny_is_plain h1 (h2▸hq)
 | IsNot=>
  refine byC λXX=>?_;refine rEA (λb' hb' hO2=>?_) (Bi.mp h);subst hO2;apply XX
  refine rA (λh1 h2=>?_) (Zmb hb' rx ry)
  exact wpAny_isNot_plain h1 (h2▸hq)
 | In=>exact (Zja h hr rx ry hu).1 hq
 | NotIn=>
  refine byC λXX=>?_;refine rEA (λb' hb' hO2=>?_) (Bi.mp h);subst hO2;apply XX
  exact (Zja hb' hr rx ry hu).2 hq
end
set_option tactic.hygienic true in
theorem Zmc {i:Int}{n k:Nat}(h:Zgc i n=S5 k):k<n/\-(n:Int)<=i/\i<n/\(if 0<=i then k=i.toNat else k=(i+n).toNat):=by
 unfold Zgc at h
 split at h
 .rename_i h0
  split at h
  .refine siE h ?_;rw[gp h0];refine ⟨by exact lin [(.zle .k0 .v0),(.nt .v0 .v0),(.zlt .v0 (.n .v1))] (.lt .v0 .v1) (.s (.d 1100101) (.d 1110101)) rfl [_,_] [_] h0 (W7 _) ‹_›,by exact lin [(.zle .k0 .v0)] (.zle (.g (.n .v0)) .v0) (.d 111) rfl [_] [_] h0,by exact lin [(.zlt .v0 (.n .v0))] (.zlt .v0 (.n .v0)) (.d 111) rfl [_] [_] ‹_›,rfl⟩
  .exact nn h
 .rename_i h0
  split at h
  .refine siE h ?_;rw[gq h0];refine ⟨by exact lin [(.no (.zle .k0 .v0)),(.nt .v0 (.a .v0 (.n .v1))),(.zle .k0 (.a .v0 (.n .v1)))] (.lt .v0 .v1) (.s (.d 11101) (.d 1110101)) rfl [_,_] [_] h0 (W7 _) ‹_›,by exact lin [(.zle .k0 (.a .v0 (.n .v0)))] (.zle (.g (.n .v0)) .v0) (.d 111) rfl [_] [_] ‹_›,by exact lin [(.no (.zle .k0 .v0))] (.zlt .v0 (.n .v0)) (.d 111) rfl [_] [_] h0,rfl⟩
  .exact nn h
theorem Zo3 {i:Int}{n k:Nat}(h:Zgc i n=S5 k):seqIndex? i n=S5 k:=by
 refine X0 (λh1 h2 h3 h4=>?_) (Zmc h)
 unfold seqIndex?
 by_cases h0:0<=i
 .rw[gp h0] at h4
  obtain hn:¬ i<0:=Ia 0x1970b6b0c11 Tt h0
  simp only[hn,if_false]
  rw[gp (by simp only[Bs,decide_eq_true_eq];exact lin [(.zlt .v0 (.n .v0)),(.zle .k0 .v0)] (.an (.zle .k0 .v0) (.zlt .v0 (.n .v0))) (.s (.d 1101) (.d 111)) rfl [_] [_] h3 h0),h4]
 .rw[gq h0] at h4
  obtain hn:i<0:=Ia 0x170b96b0c11 Tt h0
  simp only[hn,if_true]
  rw[gp (by simp only[Bs,decide_eq_true_eq];exact lin [(.zle (.g (.n .v0)) .v0),(.no (.zle .k0 .v0))] (.an (.zle .k0 (.a .v0 (.n .v0))) (.zlt (.a .v0 (.n .v0)) (.n .v0))) (.s (.d 111) (.d 1101)) rfl [_] [_] h2 h0),h4]
theorem Zjc (i:Int)(n:Nat):Yt i n=clipAt n i:=by
 unfold Yt clipAt
 by_cases h:i<0
 .rw[gp h,gp h]
  obtain h2:i+n<=n:=Int.add_le_of_le_sub_right (by rw[Int.sub_self];exact D6 h)
  rw[M1 h2]
  rcases Lc 0 (i+n) with h3 | h3
  .rw[Kd h3]
  .rw[M2 h3,L6 h3];rfl
 .rw[gq h,gq h]
  obtain h0:0<=i:=Dh.mp h
  rw[Kd (Int.le_min.mpr ⟨h0,Ds n⟩)]
  exact ar8 h0
section
variable {K:Kx}{A:aj}{env:Env}
theorem Ze5 {value slice:aq}{o i:aa}{T id:String}{Q:aa->ae->Prop}{E:aa->ae->Prop}(hT:s.TypeIs o T)
  (hl:typeLookup (.type T) "__getitem__"=pure (S5 (.builtin id))) (h:wpAny K.M A (getItem o i) Q E s):wpAny K.M A (subscriptTail value slice o i) Q E s:=by
 unfold subscriptTail
 refine af ?_
 rw[getitemInPython_of_ne hT.not_modules]
 refine af (wpAny_specialOf hT hl ?_)
 have fin:wpAny K.M A (subscripted slice F0 o i) (λr s₃=>wpAny K.M A (letTemporaryGo value o r >>= λu_=>pure r) Q E s₃) E s:=by
  have k:wpAny K.M A (getItem o i) (λr s₃=>wpAny K.M A (letTemporaryGo value o r >>= λu_=>pure r) Q E s₃) E s :=
   ak h (λr s₃ h₃=>af (wpAny_letTemporaryGo (ar h₃))) λu_ v_ x=>x
  cases slice with
  | Slice lo hi st p=>
   cases st with
   | none=>exact bt k
   | some _=>exact bt k
  | _=>exact bt k
 first
  | exact ar (af fin)
  | exact af (ar (af fin))
  | exact af fin
set_option tactic.hygienic true in
theorem Zhs {x y v:V}(h:Yh U x y=S5 v){cx cy:aa}(hr:HR K J U s.heap)(rx:RV K J s.heap x cx)(ry:RV K J s.heap y cy)
  {value slice:aq}:TR K A (subscriptTail value slice cx cy) J s U λJ' cv s'=>RV K J' s'.heap v cv:=by
 refine Zy (h) λk hk h'=>?_
 obtain rfl:=Jf hk
 refine Zy (h') λl hl h''=>?_
 refine Zy (h'') λj hj hv=>?_
 refine byC λXX=>?_;refine U9 (λa vs hO2 hobj rs hlen=>?_) (Zdj hr hl rx);subst hO2;apply XX;clear XX
 refine rEA (λcv hc rv=>?_) (rs.get hv)
 have hlv:=rs.length
 refine X0 (λh1 h2 h3 h4=>?_) (Zmc hj)
 unfold Zo at hlen
 refine byC λXX=>?_;refine rE (λu0_ hO1=>?_) (ry.intI rfl);subst hO1;apply XX;clear XX
 have hc':vs.toArray[j]?=S5 cv:=by rw[List.getElem?_toArray];exact hc
 have hsz:vs.toArray.size=l.length:=hlv.symm
 rcases hobj with ⟨n,e⟩ | e
 .have hL:s.heap.IsList a vs.toArray:=⟨_,e,rfl,n,rfl⟩
  refine Ze5 hL.typeIs fj.lookup ?_
  split at h4
  .rename_i h0
   exact wpAny_getItem_list hL h0 (by lia) (x:=cv) (h4▸hc') ⟨J,Good.refl hr,rv⟩
  .rename_i h0
   exact wpAny_getItem_list_neg hL (by exact Ia 0x170b96b0c11 Tt h0) (by rw[hsz];exact lin [(.zle (.g (.n .v0)) .v0)] (.zle (.g (.n .v0)) .v0) (.d 111) rfl [_] [_] h2) (by lia) (x:=cv) (by rw[hsz];exact h4▸hc') ⟨J,Good.refl hr,rv⟩
 .refine Ze5 (T:="tuple") ⟨_,e,rfl⟩ PySem.F.slot_tuple_getitem.lookup ?_
  exact getItem_meets ⟨_,e,rfl⟩ (by decide) F.slot_tuple_getitem F.entry_tuple_getitem (F.args_tuple_getitem_2 _ _) (MeetsSeq.tuple_getitem_at a vs.toArray 0 k _ j cv (by lia) (by lia) (by rw[hsz];exact Zo3 hj) hc') ⟨e,J,Good.refl hr,rv⟩
theorem Zht {v:V}{x:aa}(r:RV K J h v x){b:Option Int}(e:Zbj v=S5 b):IsPart x b:=by
 cases r with
 | none=>refine siE e ?_;exact .none
 | int i t=>refine siE e ?_;exact .int i t
 | _=>exact nn e
theorem RVs.evens (n:Nat):∀{l:List V}{vs:List aa},l.length<=n->RVs K J h l vs->RVs K J h (evens l) (evens vs):=by
 induction n with
 | zero=>
  intro l vs hn r
  cases r with
  | nil=>exact .nil
  | cons a r=>exact absurd hn (by simp)
 | succ n ih=>
  intro l vs hn r
  cases r with
  | nil=>exact .nil
  | cons a r=>
   cases r with
   | nil=>exact .cons a .nil
   | cons b r=>exact .cons a (ih (by simp only[C5] at hn;exact Nb 0x16016550aa51ac11 Tt hn) r)
theorem Zk0 {α:Type}(xs:Array α):∀(n a:Nat),n=(xs.size-a+1) / 2->((C6 n).map λk=>a+k*2).filterMap (xs[·]?)=evens (xs.toList.drop a):=by
 intro n
 induction n with
 | zero=>
  intro a h
  obtain this:xs.toList.drop a=[]:=by rw[I6];simp;exact Nd 0x16018b2f628d253a753a528d221ec301cba10201001a100001 Tt h (Wa _ 2 (by decide)) (Zc _ _)
  rw[this];rfl
 | succ n ih=>
  intro a h
  obtain ha:a<xs.size:=by exact Ni 0x1701852a3f628d354a754a528d321ec410cba1201001a0201001 Tt h (Wa _ 2 (by decide)) (Zc _ _)
  obtain e1:xs.toList.drop a=xs[a]::xs.toList.drop (a+1):=by rw[Ci (by simpa using ha)];simp
  rw[List.range_succ_eq_map,Bz,Gk]
  obtain h0:xs[a+0*2]?=S5 xs[a]:=by simp[ha]
  rw[h0,e1]
  obtain ih':=ih (a+2) (by exact Ng 0x1801850a2f628d253a753a528d221ef628d154a754a528d121ec32d1dc42d51d21ecbbba202011000101a200001000001ba00000001001a020100001bba2201001010001a2201001010101ba00000001001a2201001010001 Tt h (Wa _ 2 (by decide)) (Wa _ 2 (by decide)) (Zc _ _) (Zc _ _))
  obtain hm:((List.map Nat.succ (C6 n)).map λk=>a+k*2)=(C6 n).map λk=>a+2+k*2:=by
   rw[Cx];apply Cz;intro k _;simp;exact ln2 [] (.eq (.a .v0 (.w (.a .v1 .k1) 2)) (.a (.a .v0 (.k 2)) (.w .v1 2))) (.s (.d 11) (.d 11)) rfl
  rw[hm,ih']
  by_cases h2:a+1<xs.size
  .obtain e2:xs.toList.drop (a+1)=xs[a+1]::xs.toList.drop (a+2):=by rw[Ci (by simpa using h2)];simp
   rw[e2];rfl
  .obtain e2:xs.toList.drop (a+1)=[]:=by rw[I6];simp;exact Nb 0x16051a9751a0c11 Tt h2
   obtain e3:xs.toList.drop (a+2)=[]:=by rw[I6];simp;exact Nb 0x1605121e9751a0c11 Tt h2
   rw[e2,e3];rfl
set_option tactic.hygienic true in
theorem Zec (items:Array aa)(i:Int):slicePick items (S5 i) N0 (S5 2)=(evens (items.toList.drop (clipAt items.size i))).toArray:=by
 unfold slicePick
 obtain hb:sliceBounds (S5 i) N0 (S5 2) items.size=(((clipAt items.size i:Nat):Int),((items.size:Nat):Int),2):=by
  simp[sliceBounds,clipAt_cast]
 rw[hb]
 obtain hle:clipAt items.size i<=items.size:=Lf.mp (clipAt_cast items.size i▸Int.max_le.mpr ⟨Ds _,Int.min_le_right _ _⟩)
 congr 1
 unfold sliceRange
 dsimp only
 obtain hc : (if (2 : Int) > 0 then (if ((clipAt items.size i : Nat) : Int) < (items.size : Int) then (((items.size : Nat) : Int) - ((clipAt items.size i : Nat) : Int) + 2 - 1) / 2 else 0)
   else (if ((clipAt items.size i:Nat):Int)>(items.size:Int) then (((clipAt items.size i:Nat):Int)-((items.size:Nat):Int)-2-1) / (-2) else 0)).toNat=(items.size-clipAt items.size i+1) / 2:=by
  rw[gp (by decide)]
  split
  .exact ar7 hle
  .next h=>rw[Ks (Lf.mp (Dh.mp h))];rfl
 rw[hc,← Zk0 items _ (clipAt items.size i) rfl]
 congr 1
 apply Cz
 intro k _
 exact ln3 [(.nt .v0 (.a (.n .v1) (.m 2 (.n .v2))))] (.eq .v0 (.a .v1 (.w .v2 2))) (.s (.s (.d 11001) (.d 11101)) (.s (.d 1101) (.d 1101))) rfl (W7 _)
set_option tactic.hygienic true in
theorem Zjd {l r:List V}{lo hi st:V}(e:Zde l lo hi st=S5 r){vs:List aa}{cl cu cs:aa}(rv:RVs K J h l vs)(rl:RV K J h lo cl)(ru:RV K J h hi cu)(rs:RV K J h st cs) :
  ∃a b c,IsPart cl a/\IsPart cu b/\IsPart cs c/\c≠S5 0/\∃ws:List aa,slicePick vs.toArray a b c=ws.toArray/\RVs K J h r ws:=by
 refine Zy (e) λa ha e1=>?_
 refine Zy (e1) λb hb e2=>?_
 refine Zy (e2) λc hc e3=>?_
 have hsz:vs.toArray.size=l.length:=rv.length.symm
 have hcl:(λi=>Yt i l.length)=clipAt l.length:=funext λi=>Zjc i _
 have hlo:loN a l.length=a.elim 0 (clipAt l.length):=by unfold loN;rw[hcl]
 have hhi:hiN b l.length=b.elim l.length (clipAt l.length):=by unfold hiN;rw[hcl]
 refine ⟨a,b,c,Zht rl ha,Zht ru hb,Zht rs hc,?_⟩
 split at e3
 .rename_i h0
  subst h0;refine siE e3 ?_
  refine ⟨by simp,(vs.take (hiN b l.length)).drop (loN a l.length),?_,(rv.take _).drop _⟩
  rw[slicePick_plain,hsz,← hlo,← hhi,List.drop_take]
 .split at e3
  .rename_i h0
   revert h0;refine rAA λhO0 hO1 ha0=>?_;refine eqS hO0 ?_;refine eqS hO1 ?_
   obtain rfl:=B0.inj e3
   cases a with
   | none=>exact absurd rfl ha0
   | some i=>
    refine ⟨by decide,evens (vs.drop (loN (S5 i) l.length)),?_,(rv.drop _).evens _ (Bp _)⟩
    rw[Zec,hsz,hlo];rfl
  .exact nn e3
theorem Zje {x lo hi st v:V}(h:Qm U x lo hi st=S5 (v,U')){cx cl cu cs:aa}{sl:am}(hr:HR K J U s.heap)(rx:RV K J s.heap x cx)
  (rl:RV K J s.heap lo cl) (ru:RV K J s.heap hi cu) (rs:RV K J s.heap st cs) (hsl:s.heap.IsSliceOf sl cl cu cs) {value slice:aq} :
  TR K A (subscriptTail value slice cx (.ref sl)) J s U' λJ' cv s'=>RV K J' s'.heap v cv:=by
 refine Zy (h) λl hl h'=>?_
 refine Zy (h') λr h1 h2=>?_
 refine rAA (λhlen hO1 hO2=>?_) (X3 h2);refine eqS hO1 ?_;refine eqS hO2 ?_
 refine byC λXX=>?_;refine Xp (λa vs n hO3 e rv hn=>?_) (Ui hr hl rx);subst hO3;apply XX
 obtain hL:s.heap.IsList a vs.toArray:=⟨_,e,rfl,n,rfl⟩
 refine Zkw (λpa pb pc p1 p2 p3 p4 ws hw rw'=>?_) (Zjd h1 rv rl ru rs)
 refine Ze5 hL.typeIs fj.lookup (wpAny_getItem_list_slice hL hsl p1 p2 p3 p4 ?_ (Wu rv hn))
 rw[hw]
 refine rA (λg rr=>?_) (Zdi (n:=0) hr rw' hlen s.toks)
 exact ⟨_,g,rr⟩
end
structure Rm (d:Nat)(A:aj):Prop where
 handled:A.handled=N0
 depth:A.depth+2*d<recursionLimit
 units:A.units+8*d+40<cLine
 fr:∃fs,A.frames=S5 fs
theorem Rm.deeper {d:Nat}{A:aj}(r:Rm (d+1) A)(env:Env):Rm d (A.deeper env) :=
 ⟨r.handled,by have:=r.depth;show A.depth+1+2*d<_;exact Nc 0x17550a28d1275028d51a2c11 Tt this,by have:=r.units;show A.units+3+8*d+40<_;exact Nc 0x17555031e88d1282e2755088d51a282e2c11 Tt this,let ⟨fs,h⟩:=r.fr;⟨env::fs,by show A.frames.map (env::·)=_;rw[h];rfl⟩⟩
theorem Rm.under {d:Nat} {A:aj} (r:Rm (d + 1) A) (env:Env) (C:am) (vs:List aa):Rm d ((A.deeper env).under (.builtin "type.__call__" ⟨.ref C ::vs,[]⟩)) :=
 ⟨r.handled,by have:=r.depth;show A.depth+1+1+2*d<_;exact Nc 0x175550aa28d1275028d51a2c11 Tt this,by have:=r.units;show A.units+3+1+8*d+40<_;exact Nc 0x175555031ea88d1282e2755088d51a282e2c11 Tt this,let ⟨fs,h⟩:=r.fr;⟨env::fs,by show A.frames.map (env::·)=_;rw[h];rfl⟩⟩
structure TyOK (K:Kx):Prop where
 int:K.tyv 0=.type "int"
 bool:K.tyv 1=.type "bool"
 tuple:K.tyv 2=.type "tuple"
 list:K.tyv 3=.type "list"
 cls:∀c,K.tyv (c+20)=K.clv c
 exc:∀(A:aj) (c t:Nat) (r:Bool),Zoo c t=S5 r->∀(s:ae) (a:am) (o:Obj),(∀b o,K.h0.get? b=S5 o->s.heap.get? b=S5 o)->s.heap.get? a=S5 o->o.cls=K.tyv c->
  ∀ (Q:aa -> ae -> Prop) (E:aa -> ae -> Prop),(∀ tk,Q (.bool r) { s with toks:=tk }) -> wpAny K.M A (call (.builtin "isinstance") [.ref a,K.tyv t]) Q E s
theorem Zgl:∀(l:List Int) (m:Int),(Q9 l m=m\/Q9 l m∈l)/\m<=Q9 l m/\∀a∈l,a<=Q9 l m
 | [],m=>⟨.inl rfl,Cb _,λu_ h=>nomatch h⟩
 | x::r,m=>by
  have key:∀m',(m'=m\/m'=x)->m<=m'->x<=m'->Q9 (x::r) m=Q9 r m'->(Q9 (x::r) m=m\/Q9 (x::r) m∈x::r)/\m<=Q9 (x::r) m/\∀a∈x::r,a<=Q9 (x::r) m:=by
   intro m' h1 h2 h3 e
   refine rAA (λg1 g2 g3=>?_) (Zgl r m')
   rw[e]
   refine ⟨?_,Cp h2 g2,λa ha=>?_⟩
   .rcases g1 with g1 | g1
    .rw[g1]
     rcases h1 with h1 | h1
     .exact .inl h1
     .exact .inr (h1▸Bf)
    .exact .inr (Bb _ g1)
   .rcases Be.mp ha with rfl | ha
    .exact Cp h3 g2
    .exact g3 a ha
  by_cases h:m<x
  .exact key x (.inr rfl) (D6 h) (Cb _) (by rw[Q9,gp h])
  .exact key m (.inl rfl) (Cb _) (Dh.mp h) (by rw[Q9,gq h])
theorem Zgm:∀(l:List Int) (m:Int),(Zaa l m=m\/Zaa l m∈l)/\Zaa l m<=m/\∀a∈l,Zaa l m<=a
 | [],m=>⟨.inl rfl,Cb _,λu_ h=>nomatch h⟩
 | x::r,m=>by
  have key:∀m',(m'=m\/m'=x)->m'<=m->m'<=x->Zaa (x::r) m=Zaa r m'->(Zaa (x::r) m=m\/Zaa (x::r) m∈x::r)/\Zaa (x::r) m<=m/\∀a∈x::r,Zaa (x::r) m<=a:=by
   intro m' h1 h2 h3 e
   refine rAA (λg1 g2 g3=>?_) (Zgm r m')
   rw[e]
   refine ⟨?_,Cp g2 h2,λa ha=>?_⟩
   .rcases g1 with g1 | g1
    .rw[g1]
     rcases h1 with h1 | h1
     .exact .inl h1
     .exact .inr (h1▸Bf)
    .exact .inr (Bb _ g1)
   .rcases Be.mp ha with rfl | ha
    .exact Cp g2 h3
    .exact g3 a ha
  by_cases h:x<m
  .exact key x (.inr rfl) (D6 h) (Cb _) (by rw[Zaa,gp h])
  .exact key m (.inl rfl) (Cb _) (Dh.mp h) (by rw[Zaa,gq h])
section
variable {K:Kx}{A:aj}
theorem Ze6 :∀{l:List V}{ns:List Int}{vs:List aa},Wc l=S5 ns->RVs K J h l vs->∃ys:List (Int×Tok),vs=ys.map (λp=>aa.int p.1 p.2)/\ys.map (·.1)=ns
 | [],ns,vs,e,r=>by refine siE e ?_;cases r;exact ⟨[],rfl,rfl⟩
 | v::l,ns,vs,e,r=>by
  cases r with
  | cons r0 r1=>
   cases v with
   | int i=>
    cases r0
    simp only[Wc,Bi] at e
    revert e;refine rEA λns' h1 hO2=>?_;refine eqE hO2 ?_
    refine rEA (λys hO1 h2=>?_) (Ze6 h1 r1);refine eqS hO1 ?_
    exact ⟨(i,_)::ys,rfl,by rw[Bz,h2]⟩
   | _=>exact nn e
theorem Zbk {ys:List (Int×Tok)}{i:Nat}:numAt ys.toArray i=((ys.map (·.1))[i]?).getD 0:=by
 unfold numAt;simp
theorem Y9 {P:Prop}{dc:Decidable P}{α:Type}{x:Option α}{a:α}(h:(if P then x else .none)=S5 a):P/\x=S5 a:=by
 by_cases hp:P
 .rw[gp hp] at h;exact ⟨hp,h⟩
 .rw[gq hp] at h;exact nn h
theorem Znf {x:V}{t:Nat}{r:Bool}(h:Zxl U x t=S5 r){cx:aa}(hr:HR K J U s.heap)(rx:RV K J s.heap x cx)(ty:TyOK K) :
  TR K A (call (.builtin "isinstance") [cx,K.tyv t]) J s U λJ' cv s'=>RV K J' s'.heap (.bool r) cv:=by
 have ok:∀r tk,(∃J',Good K J s J' U { s with toks:=tk }/\RV K J' s.heap (.bool r) (.bool r)):=λr tk=>⟨J,(Good.refl hr).tok _,.bool r⟩
 cases x with
 | int i=>
  refine rE (λtk hO1=>?_) (rx.intI rfl);refine eqS hO1 ?_
  have h:(if t=0 then S5 T1 else if t=1 then S5 F0 else Dk)=S5 r:=h
  by_cases e:t=0
  .rw[gp e] at h;refine siE h ?_;rw[e,ty.int];exact IsiPair.int_int (ok _ s.toks)
  .rw[gq e] at h
   refine rA (λe h=>?_) (Y9 h)
   refine siE h ?_;rw[e,ty.bool];exact IsiPair.int_bool (ok _ _)
 | tup l=>
  refine Yn (λa vs hO2 e0 u4_=>?_) (rx.tupI rfl);refine eqS hO2 ?_
  refine rA (λe h=>?_) (Y9 (show (if t=2 then S5 T1 else Dk)=S5 r from h))
  refine siE h ?_;rw[e,ty.tuple];exact IsiPair.tuple_tuple e0 rfl (ok _ s.toks)
 | obj n=>
  refine rEA (λa hO1 ha=>?_) (rx.objI rfl);refine eqS hO1 ?_
  refine rEA (λo hn h=>?_) (C4.mp (show (U[n]?).bind _=S5 r from h))
  cases o with
  | list l=>
   refine rA (λe h=>?_) (Y9 (show (if t=3 then S5 T1 else Dk)=S5 r from h))
   refine Ug (λvs n' e0 u3_=>?_) (hr.obj n _ a hn ha)
   refine siE h ?_;rw[e,ty.list];exact IsiPair.list_list e0 rfl (ok _ s.toks)
  | inst c d=>
   refine rA (λe h=>?_) (Y9 (show (if t=c+20 then S5 T1 else Dk)=S5 r from h))
   refine Xp (λo C ad e1 e2 e3 u=>?_) (hr.obj n _ a hn ha)
   refine siE h ?_;rw[e,ty.cls,e2];exact Zbx e1 e3 (ok _ s.toks)
  | exc c=>
   refine U9 (λo C e1 e2 e3 u5_=>?_) (hr.obj n _ a hn ha)
   exact ty.exc A c t r h s a o hr.keep e1 (e3.trans e2.symm) _ _ λtk=>ok r tk
  | _=>exact nn h
 | _=>exact nn h
theorem Zrs {ys:List (Int×Tok)}{x:Int}{r:List Int}(hy:ys.map (·.1)=x::r):numAt ys.toArray (argBest (λi j=>decide (numAt ys.toArray i>numAt ys.toArray j)) (ys.toArray.size-1))=Q9 r x:=by
 refine rA (λh1 h2=>?_) (argBest_gt (numAt ys.toArray) (ys.toArray.size-1))
 refine rAA (λm1 m2 m3=>?_) (Zgl r x)
 have hlen2:ys.toArray.size=r.length+1:=by have:=congrArg I7 hy;simpa using this
 apply D9
 .rw[Zbk,hy]
  have hb:argBest (λi j=>decide (numAt ys.toArray i>numAt ys.toArray j)) (ys.toArray.size-1)<(x::r).length:=by rw[C5];exact Nd 0x17051a6028351ac23acba111001a110001 Tt h1 hlen2 (Zc _ _)
  rw[Bl hb]
  obtain hm:=D4 hb
  rcases Be.mp hm with h | h
  .exact Cp (Ga h) m2
  .exact m3 _ h
 .have : Q9 r x ∈ x :: r := by
   rcases m1 with h | h
   .rw[h];exact Bf
   .exact Bb _ h
  refine rE (λj hO1=>?_) (Co this);obtain ⟨hj,hje⟩:=hO1
  obtain hj':j<=ys.toArray.size-1:=by simp only[C5] at hj;exact Nd 0x16018253a7053ac12acba1011001a1011101 Tt hlen2 hj (Zc _ _)
  have:=h2 j hj'
  rw[Zbk (i:=j),hy,Bl hj] at this
  exact hje▸this
theorem Zrt {ys:List (Int×Tok)}{x:Int}{r:List Int}(hy:ys.map (·.1)=x::r):numAt ys.toArray (argBest (λi j=>decide (numAt ys.toArray i<numAt ys.toArray j)) (ys.toArray.size-1))=Zaa r x:=by
 refine rA (λh1 h2=>?_) (argBest_lt (numAt ys.toArray) (ys.toArray.size-1))
 refine rAA (λm1 m2 m3=>?_) (Zgm r x)
 have hlen2:ys.toArray.size=r.length+1:=by have:=congrArg I7 hy;simpa using this
 apply D9
 .have : Zaa r x ∈ x :: r := by
   rcases m1 with h | h
   .rw[h];exact Bf
   .exact Bb _ h
  refine rE (λj hO1=>?_) (Co this);obtain ⟨hj,hje⟩:=hO1
  obtain hj':j<=ys.toArray.size-1:=by simp only[C5] at hj;exact Nd 0x16018253a7053ac12acba1011001a1011101 Tt hlen2 hj (Zc _ _)
  have:=h2 j hj'
  rw[Zbk (i:=j),hy,Bl hj] at this
  exact hje▸this
 .rw[Zbk,hy]
  have hb:argBest (λi j=>decide (numAt ys.toArray i<numAt ys.toArray j)) (ys.toArray.size-1)<(x::r).length:=by rw[C5];exact Nd 0x17051a6028351ac23acba111001a110001 Tt h1 hlen2 (Zc _ _)
  rw[Bl hb]
  obtain hm:=D4 hb
  rcases Be.mp hm with h | h
  .exact Cp m2 (Ga h.symm)
  .exact m3 _ h
theorem Zej {as:List V}{x:V}(h:Zd8 as=S5 x){cas:List aa}(ra:RVs K J h' as cas):∃c,cas=[c]/\RV K J h' x c:=by
 rw[Zcj h] at ra
 refine Yn (λu0_ u1_ hO2 r0 rn=>?_) (ra.consI);refine eqS hO2 ?_
 obtain rfl:=rn.nilI;exact ⟨_,rfl,r0⟩
theorem Zjf {as:List V}{p:V×V}(h:Zkx as=S5 p){cas:List aa}(ra:RVs K J h' as cas):∃c d,cas=[c,d]/\RV K J h' p.1 c/\RV K J h' p.2 d:=by
 rw[Ziy h] at ra
 refine Yn (λu0_ u1_ hO2 r0 rn=>?_) (ra.consI);refine eqS hO2 ?_
 refine byC λXX=>?_;obtain ⟨_,_,rfl,r1,rn⟩:=rn.consI;apply XX
 obtain rfl:=rn.nilI;exact ⟨_,_,rfl,r0,r1⟩
theorem Ze7 {f:List Int->Int->Int}{as:List V}{v:V}(h:Ziz f U as=S5 (v,U')){cas:List aa}(hr:HR K J U s.heap)(ra:RVs K J s.heap as cas) :
  ∃(a:am) (ys:List (Int×Tok)) (n:Nat),cas=[.ref a]/\s.heap.IsList a (intItems ys.toArray)/\0<ys.toArray.size/\U'=U/\∃x r,ys.map (·.1)=x::r/\v=.int (f r x)/\n=0:=by
 refine Zy (h) λw hw h'=>?_
 refine Zy (h') λns hns h''=>?_
 refine Zy (hns) λl hl hn=>?_
 refine rEA (λc hO1 r0=>?_) (Zej hw ra);refine eqS hO1 ?_
 refine byC λXX=>?_;refine Xp (λa vs n' hO3 e0 rs hlen=>?_) (Ui hr hl r0);subst hO3;apply XX
 refine byC λXX=>?_;refine rEA (λys hO1 hy=>?_) (Ze6 hn rs);subst hO1;apply XX
 cases ns with
 | nil=>exact nn h''
 | cons x r=>
  refine byC λXX=>?_;refine rA (λhO0 hO1=>?_) (pJ h'');subst hO0;subst hO1;apply XX
  refine ⟨a,ys,0,rfl,⟨_,e0,rfl,n',by simp[intItems]⟩,?_,rfl,x,r,hy,rfl,rfl⟩
  have:=congrArg I7 hy
  simp only[Bg,C5] at this
  simp only[Iz];exact Nb 0x17b08051ac101 Tt this
theorem Zgn {f:Int->Int->Int}{as:List V}{v:V}(h:Zux f U as=S5 (v,U')){h0:au}{cas:List aa}(ra:RVs K J h0 as cas) :
  ∃x t y u,cas=[.int x t,.int y u]/\v=.int (f x y)/\U'=U:=by
 refine Zy (h) λp hp h'=>?_
 refine Zy (h') λx hx h''=>?_
 refine Wb (h'') λy hy e=>?_
 refine piE e ?_
 refine Yn (λc d hO2 r0 r1=>?_) (Zjf hp ra);refine eqS hO2 ?_
 rw[Jf hx] at r0
 rw[Jf hy] at r1
 refine byC λXX=>?_;refine rE (λu0_ hO1=>?_) (r0.intI rfl);subst hO1;apply XX;refine byC λXX=>?_;refine rE (λu0_ hO1=>?_) (r1.intI rfl);subst hO1;apply XX
 exact ⟨_,_,_,_,rfl,rfl,rfl⟩
end
section
namespace gr
def Sq_ (K:Kx)(A:aj)(as:List V)(Ue:H)(Je:List am)(se:ae):Prop:=∀{b:Blt}{v:V}{U':H} (h:Uh b as Ue=S5 (v,U')) (hb:b≠.sorted) {cas:List aa} (hr:HR K Je Ue se.heap) (ra:RVs K Je se.heap as cas) (hh:b≠.isinstance->b≠.int->A.handled=N0) (ty:TyOK K),TR K A (call (Zdh b) cas) Je se U' λJ' cv s'=>RV K J' s'.heap v cv
def pq_:=Wo ⟨(dKx,{},[],[],[],{})⟩ (uc6 Sq_)
def K:=pq_.1
def A:=pq_.2.1
def as:=pq_.2.2.1
def Ue:=pq_.2.2.2.1
def Je:=(sk4 pq_).1
def se:=(sk4 pq_).2
theorem pfq_:Sq_ K A as Ue Je se:=by
 intro b v U' h hb cas hr ra hh ty
 cases b with
 | sorted=>exact absurd rfl hb
 | len=>
  refine Zy (h) λw hw h'=>?_
  refine Wb (h') λl hl e=>?_
  refine piE e ?_
  refine rEA (λc hO1 r0=>?_) (Zej hw ra);refine eqS hO1 ?_
  refine byC λXX=>?_;refine U9 (λa vs hO2 hobj rs hlen=>?_) (Zdj hr hl r0);subst hO2;apply XX
  unfold Zo at hlen
  obtain hlv:=rs.length
  have hsz:vs.toArray.size=l.length:=hlv.symm
  rcases hobj with ⟨n,e0⟩ | e0
  .refine Calls.call_len_list ⟨_,e0,rfl,n,rfl⟩ (by lia) ?_
   rw[hsz];exact ⟨Je,(Good.refl hr).tok _,.int _ _⟩
  .refine len_tuple ⟨_,e0,rfl,0,rfl⟩ (by lia) ?_
   rw[hsz];exact ⟨Je,(Good.refl hr).tok _,.int _ _⟩
 | max=>
  simp only[Uh] at h
  split at h
  .refine Zcf (λa ys u2_ hO3 hL hne hO6 x r hy hO10 u11_=>?_) (Ze7 h hr ra);refine eqS hO3 ?_;refine eqS hO6 ?_;refine eqS hO10 ?_
   refine max_intList (xs:=ys.toArray) (hh (by decide) (by decide)) hL hne λv h' tk hv hk=>⟨Je,Good.grow hr hk _,?_⟩
   refine rE (λt hO1=>?_) (intItems_at hv);refine eqS hO1 ?_
   rw[Zrs hy];exact .int _ _
  .refine Zei (λx t y u hO4 hO5 hO6=>?_) (Zgn h ra);refine eqS hO4 ?_;refine eqS hO5 ?_;refine eqS hO6 ?_
   refine max_two_ints (hh (by decide) (by decide)) λh' tk hk=>⟨Je,Good.grow hr hk _,?_⟩
   split <;> exact .int _ _
 | min=>
  simp only[Uh] at h
  split at h
  .refine Zcf (λa ys u2_ hO3 hL hne hO6 x r hy hO10 u11_=>?_) (Ze7 h hr ra);refine eqS hO3 ?_;refine eqS hO6 ?_;refine eqS hO10 ?_
   refine min_intList (xs:=ys.toArray) (hh (by decide) (by decide)) hL hne λv h' tk hv hk=>⟨Je,Good.grow hr hk _,?_⟩
   refine rE (λt hO1=>?_) (intItems_at hv);refine eqS hO1 ?_
   rw[Zrt hy];exact .int _ _
  .refine Zei (λx t y u hO4 hO5 hO6=>?_) (Zgn h ra);refine eqS hO4 ?_;refine eqS hO5 ?_;refine eqS hO6 ?_
   refine min_two_ints (hh (by decide) (by decide)) λh' tk hk=>⟨Je,Good.grow hr hk _,?_⟩
   split <;> exact .int _ _
 | int=>
  refine Zy (h) λw hw h'=>?_
  refine rEA (λc hO1 r0=>?_) (Zej hw ra);refine eqS hO1 ?_
  cases r0 with
  | bool x=>refine byC λXX=>?_;refine rA (λhO0 hO1=>?_) (pJ h');subst hO0;subst hO1;apply XX;exact call_int_bool ⟨Je,(Good.refl hr).tok _,.int _ _⟩
  | int x t=>refine byC λXX=>?_;refine rA (λhO0 hO1=>?_) (pJ h');subst hO0;subst hO1;apply XX;exact call_int_int ⟨Je,Good.refl hr,.int _ _⟩
  | _=>exact nn h'
 | list=>
  refine Zy (h) λw hw h'=>?_
  refine Zy (h') λl hl e=>?_
  refine rAA (λhlen hO1 hO2=>?_) (X3 e);refine eqS hO1 ?_;refine eqS hO2 ?_
  refine byC λXX=>?_;refine rEA (λc hO1 r0=>?_) (Zej hw ra);subst hO1;apply XX
  refine byC λXX=>?_;refine Xp (λa vs n' hO3 e0 rs u6_=>?_) (Ui hr hl r0);subst hO3;apply XX
  refine call_list_seq (hsz:=Wu rs hlen) a (.inl rfl) e0 rfl rfl λh' c' hk hD=>?_
  refine ⟨Je++[se.heap.objs.size],Good.alloc (o:=.list l) hr hk (get?_size _) ⟨vs,c',hD,rs.mono (C8 _ _) (λa vs e=>hk _ _ e),hlen⟩ _,.obj ?_⟩
  rw[Bh (by rw[hr.len];exact Bp _),hr.len];simp
 | isinstance=>
  refine Zy (h) λp hp h'=>?_
  refine Zy (h') λt ht h''=>?_
  refine Wb (h'') λr hi e=>?_
  refine piE e ?_
  refine Yn (λc d hO2 r0 r1=>?_) (Zjf hp ra);refine eqS hO2 ?_
  generalize p.2=y at ht r1
  cases r1 with
  | ty t'=>obtain rfl:=B0.inj ht;exact Znf hi hr r0 ty
  | _=>exact nn ht
end gr
theorem Zng {K:Kx}{A:aj}{as:List V}:gr.Sq_ K A as U J s:=Yi (S:=uc6 gr.Sq_) gr.pfq_ (K,A,as,U,J,s)
end
section
variable {K:Kx}{A:aj}
end
structure StepX (X:List am)(J:List am)(s:ae)(J':List am)(s':ae):Prop where
 pre:J <+: J'
 fr:∀b o,ng s.heap b=S5 o->b ∉ J->b ∉ X->ng s'.heap b=S5 o
 fresh:∀a,a∈J'->a∈J\/s.heap.get? a=N0
 gens:s'.gens=s.gens
 os:s'.os=s.os
theorem Step.toX (x:Step J s J' s')(X:List am):StepX X J s J' s':=⟨x.pre,λb o e h u_=>x.fr b o e h,x.fresh,x.gens,x.os⟩
theorem StepX.nil (x:StepX [] J s J' s'):Step J s J' s':=⟨x.pre,λb o e h=>x.fr b o e h (by simp),x.fresh,x.gens,x.os⟩
theorem StepX.refl (X J:List am)(s:ae):StepX X J s J s:=(Step.refl J s).toX X
theorem StepX.trans {X J2:List am}{s2:ae}(x:StepX X J s J1 s1)(y:StepX X J1 s1 J2 s2)(hs:∀a∈X,∃o,s1.heap.get? a=S5 o):StepX X J s J2 s2 where
 pre:=x.pre.trans y.pre
 fr:=λb o e hb hx=>y.fr b o (x.fr b o e hb hx) (λh1=>by
  rcases x.fresh b h1 with h | h
  .exact hb h
  .rw[ng_none.mpr h] at e;exact nn e) hx
 fresh:=λa ha=>by
  rcases y.fresh a ha with h | h
  .exact x.fresh a h
  .by_cases hr:a∈J
   .exact .inl hr
   .right
    cases hg:s.heap.get? a with
    | none=>rfl
    | some o=>
     by_cases hx:a∈X
     .refine rE (λo' e'=>?_) (hs a hx);rw[e'] at h;exact ns h
     .have:=x.fr a _ (U6 hg) hr hx;rw[ng_none.mpr h] at this;exact nn this
 gens:=y.gens.trans x.gens
 os:=y.os.trans x.os
section
variable {K:Kx}{A:aj}
theorem HR.but {I:am}(x:HR K J U h)(hI:I ∉ J)(h0:K.h0.get? I=N0)(hc:∀vs,h.get? I≠S5 (Z6 vs))(hk:∀b o,b≠I->h.get? b=S5 o->h'.get? b=S5 o):HR K J U h':=by
 refine ⟨λb o e=>hk b o (by rintro rfl;rw[h0] at e;exact nn e) (x.keep b o e),x.len,x.nd,x.new,λn o a h1 h2=>?_⟩
 obtain ho:=x.obj n o a h1 h2
 obtain ha:a≠I:=by rintro rfl;exact hI (Bw h2)
 exact ho.move (Bt _) (λb ws eb=>hk _ _ (by rintro rfl;exact hc _ eb) eb) λo e=>Wt (λo e=>hk _ _ ha e) e
theorem RV.but {I:am}{v:V}{x:aa}(r:RV K J h v x)(hc:∀vs,h.get? I≠S5 (Z6 vs))(hk:∀b o,b≠I->h.get? b=S5 o->h'.get? b=S5 o):RV K J h' v x :=
 r.mono (Bt _) λb ws eb=>hk _ _ (by rintro rfl;exact hc _ eb) eb
theorem RVs.but {I:am}{v:List V}{x:List aa}(r:RVs K J h v x)(hc:∀vs,h.get? I≠S5 (Z6 vs))(hk:∀b o,b≠I->h.get? b=S5 o->h'.get? b=S5 o):RVs K J h' v x :=
 r.mono (Bt _) λb ws eb=>hk _ _ (by rintro rfl;exact hc _ eb) eb
theorem Ns.not_tup {a:am}{m:Str->Option aa}(x:h.Ns a m):∀vs,h.get? a≠S5 (Z6 vs):=by
 intro vs e
 revert x;refine Xk λo es ep e' hd u5_=>?_
 rw[e] at e';cases e';cases hd
theorem IsCell.not_tup {a:am}{v:Option aa}(x:h.IsCell a v):∀vs,h.get? a≠S5 (Z6 vs):=by
 intro vs e
 revert x;refine rEA λo e' hd=>?_
 rw[e] at e';cases e';cases hd
theorem IsCell.nd {a:am}{v:Option aa}(x:h.IsCell a v):∀o,h.get? a=S5 o->¬ dy o:=by
 intro o e ⟨es,ep,hd'⟩
 revert x;refine rEA λo' e' hd=>?_
 rw[e] at e';cases e';rw[hd'] at hd;cases hd
noncomputable def Yl (env:Env):List am:=env.locals::env.cells.map (·.2)
theorem Zb4 {env:Env}{a:am}(h:a∈Yl env):a=env.locals\/∃x,(x,a)∈env.cells:=by
 rcases Be.mp h with h | h
 .exact .inl h
 .refine byC λXX=>?_;refine rEA (λhO0 h1 hO2=>?_) (C0.mp h);obtain ⟨x,b⟩:=hO0;subst hO2;apply XX;exact .inr ⟨x,h1⟩
set_option tactic.hygienic true in
theorem Zb5 {i:Nat}{v:V}(h:Qn Z i v=S5 Z'):i<Z.length/\∀j:Nat,Z'[j]?=if j=i then S5 (S5 v) else Z[j]?:=by
 unfold Qn at h
 split at h
 .rename_i hi
  obtain rfl:=B0.inj h
  refine ⟨hi,λj=>?_⟩
  by_cases hj:j=i
  .subst hj;simp[hi]
  .rw[gq hj,Dl (λe=>hj e.symm)]
 .exact nn h
theorem FO.X_some {env:Env}{c:CEnv}(x:FO K A env c Z J h):∀a∈Yl env,∃o,h.get? a=S5 o:=by
 intro a ha
 rcases Zb4 ha with rfl | ⟨y,hy⟩
 .refine rEA (λm hn u2_=>?_) x.ns;exact Ns.ex hn
 .refine Zay (λu0_ u1_ u2_ o e u5_=>?_) (x.cnew y a hy);exact ⟨o,e⟩
theorem FO.X_nt {env:Env}{c:CEnv}(x:FO K A env c Z J h):∀a∈Yl env,∀vs,h.get? a≠S5 (Z6 vs):=by
 intro a ha vs e
 rcases Zb4 ha with rfl | ⟨y,hy⟩
 .refine rEA (λm hn u2_=>?_) x.ns;exact Ns.not_tup hn vs e
 .refine Zay (λu0_ u1_ u2_ o eo hne=>?_) (x.cnew y a hy)
  rw[e] at eo;obtain rfl:=B0.inj eo;exact hne _ _ rfl
theorem StepX.ex {X:List am}(x:StepX X J s J' s'){b:am}{o:Obj}(e:s.heap.get? b=S5 o)(hb:b ∉ J)(XX:b ∉ X)(hc:¬ dy o):s'.heap.get? b=S5 o:=Zi3 hc (x.fr b _ (U6 e) hb XX)
theorem StepX.tups {X:List am}(x:StepX X J s J' s')(hr:HR K J U s.heap)(XX:∀a∈X,∀vs,s.heap.get? a≠S5 (Z6 vs)):∀a vs,s.heap.get? a=S5 (Z6 vs)->s'.heap.get? a=S5 (Z6 vs) :=
 λa vs e=>x.ex e (λha=>by
  refine rEA (λob h1 h2=>?_) (hr.at_ ha)
  rw[e] at h1;obtain rfl:=B0.inj h1;exact h2 _ rfl) (λha=>XX a ha vs e) nfT
end
section
namespace jh
def Sq_ (K:Kx)(A:aj)(env:Env)(c:CEnv)(Ze:L)(Z'e:L)(Je:List am)(Ue:H)(se:ae)(x:Str)(v:V)(cv:aa)(E:VSP):Prop:=∀(fo:FO K A env c Ze Je se.heap) (hr:HR K Je Ue se.heap) {i:Nat} (hx:Wm c x=S5 i) (hs:Qn Ze i v=S5 Z'e) (rv:RV K Je se.heap v cv) {Q:Unit->ae->Prop} (hq:∀s' a,(a=env.locals\/(c.names.lookup x=S5 .cell/\(x,a)∈env.cells))->HR K Je Ue s'.heap->StepX [a] Je se Je s'->FO K A env c Z'e Je s'.heap->Q () s'),wpAny K.M A (storeName env x cv) Q E se
def pq_:=Wo ⟨(dKx,{},default,Zdz,[],[],[],[],{},default,.none,.none,(λu_ v_=>True))⟩ (Zna Sq_)
def K:=pq_.1
def A:=pq_.2.1
def env:=pq_.2.2.1
def c:=pq_.2.2.2.1
def Ze:=(sk4 pq_).1
def Z'e:=(sk4 pq_).2.1
def Je:=(sk4 pq_).2.2.1
def Ue:=(sk4 pq_).2.2.2.1
def se:=(sk8 pq_).1
def x:=(sk8 pq_).2.1
def v:=(sk8 pq_).2.2.1
def cv:=(sk8 pq_).2.2.2.1
def E:=sk4 (sk8 pq_)
set_option tactic.hygienic true in
theorem pfq_:Sq_ K A env c Ze Z'e Je Ue se x v cv E:=by
 intro fo hr i hx hs rv Q hq
 refine rAA (λhk u1_ hsl=>?_) (Zi4 hx)
 refine rA (λhi hset=>?_) (Zb5 hs)
 have hlt:=fo.lt x i hsl
 have hfree:∀(j:Nat) w,c.next<=j->Z'e[j]?≠S5 (S5 w):=λj w hj=>by rw[hset,gq (by exact Nc 0x19801712620c1011 Tt hlt hj)];exact fo.free j w hj
 rcases hk with hk | hk
 .refine rEA (λm hn hm=>?_) fo.ns
  refine wpAny_storeName_local (show env.scope.names.lookup x=_ by rw[fo.names];exact hk) hn (λh' hn' hs'=>?_) (by rw[fo.kind];rfl)
  have hnt:=Ns.not_tup hn
  have hbut:∀b o,b≠env.locals->se.heap.get? b=S5 o->h'.get? b=S5 o:=λb o hb e=>(hs'.2 b hb).trans e
  refine hq _ _ (.inl rfl) (hr.but fo.lnew.1 fo.lnew.2 hnt hbut) ⟨Bt _,λb o e u_ XX=>Wt (λo e=>hbut b o (λe'=>XX (by rw[e'];exact Bf)) e) e,λu_ h=>.inl h,rfl,rfl⟩ ?_
  refine ⟨fo.kind,fo.names,fo.glob,fo.blts,⟨_,hn',λy j w h1 h2 h3=>?_⟩,λy hy=>?_,fo.inj,fo.capart,fo.lnew,hfree,fo.lt,fo.ff.ns (λb hb o e=>hbut b o hb e) hn',λy a hy=>?_⟩
  .rw[hset] at h3
   by_cases hji:j=i
   .subst hji
    rw[gp rfl] at h3;cases h3
    obtain rfl:=fo.inj y x j h2 hsl
    exact ⟨cv,gp rfl,rv.but hnt hbut⟩
   .rw[gq hji] at h3
    have hyx:y≠x:=by rintro rfl;rw[h2] at hsl;obtain rfl:=B0.inj hsl;exact hji rfl
    refine rEA (λcw g1 g2=>?_) (hm y j w h1 h2 h3)
    exact ⟨cw,by rw[gq hyx];exact g1,g2.but hnt hbut⟩
  .refine Yn (λa o g1 g2 g3=>?_) (fo.cell y hy)
   have ha:a≠env.locals:=(fo.cnew y a (mem_of_lookup g1)).2.2.1
   refine ⟨a,o,g1,IsCell.at g2 λo e=>hbut _ _ ha e,λj w h2 h3=>?_⟩
   rw[hset] at h3
   have hji:j≠i:=by rintro rfl;obtain rfl:=fo.inj y x j h2 hsl;rw[hk] at hy;cases hy
   rw[gq hji] at h3
   refine rEA (λcw g4 g5=>?_) (g3 j w h2 h3)
   exact ⟨cw,g4,g5.but hnt hbut⟩
  .refine Zay (λg1 g2 g3 o g4 g5=>?_) (fo.cnew y a hy)
   exact ⟨g1,g2,g3,o,hbut _ _ g3 g4,g5⟩
 .refine Yn (λca co hca hcell hcv=>?_) (fo.cell x hk)
  refine X0 (λc1 c2 c3 c4=>?_) (fo.cnew x ca (mem_of_lookup hca))
  refine wpAny_storeName_cell fo.kind (show env.scope.names.lookup x=_ by rw[fo.names];exact hk) hca hcell (λh' hc' hs'=>?_)
  have hnt:=IsCell.not_tup hcell
  have hbut:∀b o,b≠ca->se.heap.get? b=S5 o->h'.get? b=S5 o:=λb o hb e=>(hs'.2 b hb).trans e
  refine hq _ _ (.inr ⟨hk,mem_of_lookup hca⟩) (hr.but c1 c2 hnt hbut) ⟨Bt _,λb o e u_ XX=>Wt (λo e=>hbut b o (λe'=>XX (by rw[e'];exact Bf)) e) e,λu_ h=>.inl h,rfl,rfl⟩ ?_
  refine rEA (λm hn hm=>?_) fo.ns
  refine ⟨fo.kind,fo.names,fo.glob,fo.blts,⟨m,Ns.at hn λo e=>hbut _ _ (λe'=>c3 e'.symm) e,λy j w h1 h2 h3=>?_⟩,λy hy=>?_,fo.inj,fo.capart,fo.lnew,hfree,fo.lt,fo.ff.but (λb hb o e=>hbut b o hb e) (IsCell.nd hcell),λy a hy=>?_⟩
  .rw[hset] at h3
   have hji:j≠i:=by rintro rfl;obtain rfl:=fo.inj y x j h2 hsl;rw[hk] at h1;cases h1
   rw[gq hji] at h3
   refine rEA (λcw g4 g5=>?_) (hm y j w h1 h2 h3)
   exact ⟨cw,g4,g5.but hnt hbut⟩
  .by_cases hyx:y=x
   .subst hyx
    refine ⟨ca,S5 cv,hca,hc',λj w h2 h3=>?_⟩
    rw[h2] at hsl;cases hsl
    rw[hset,gp rfl] at h3;cases h3
    exact ⟨cv,rfl,rv.but hnt hbut⟩
   .refine Yn (λa o g1 g2 g3=>?_) (fo.cell y hy)
    have ha:a≠ca:=by rintro rfl;exact hyx (fo.capart y x a (mem_of_lookup g1) (mem_of_lookup hca))
    refine ⟨a,o,g1,IsCell.at g2 λo e=>hbut _ _ ha e,λj w h2 h3=>?_⟩
    rw[hset] at h3
    have hji:j≠i:=by rintro rfl;exact hyx (fo.inj y x j h2 hsl)
    rw[gq hji] at h3
    refine rEA (λcw g4 g5=>?_) (g3 j w h2 h3)
    exact ⟨cw,g4,g5.but hnt hbut⟩
  .refine Zay (λg1 g2 g3 o g4 g5=>?_) (fo.cnew y a hy)
   refine ⟨g1,g2,g3,?_⟩
   by_cases hac:a=ca
   .subst hac;revert hc';refine rEA λo' e' hd'=>?_;exact ⟨o',e',λxs n hv=>by rw[hv] at hd';cases hd'⟩
   .exact ⟨o,hbut _ _ hac g4,g5⟩
end jh
theorem Jw {K:Kx}{A:aj}{env:Env}{c:CEnv}{x:Str}{v:V}{cv:aa}{E:VSP}:jh.Sq_ K A env c Z Z' J U s x v cv E:=Yi (S:=Zna jh.Sq_) jh.pfq_ (K,A,env,c,Z,Z',J,U,s,x,v,cv,E)
end
section
variable {K:Kx}{A:aj}
end
inductive ItK where
 | list (n:Nat) (ax:am)
 | tup (ax:am) (cvs:List aa)
 | frz (ax:am) (cvs:List aa) (m:Nat)
 | rng (a:Int) (m:Nat)
def ItSt (K:Kx)(J:List am)(I:am)(i:Nat)(h:au):ItK->Prop
 | .list n ax=>J[n]?=S5 ax/\h.IsListIter I ax i
 | .tup ax cvs=>h.IsTupleIter I ax i/\h.get? ax=S5 (Z6 cvs)
 | .frz ax cvs m=>h.IsListIter I ax i/\K.h0.get? ax=S5 (Yd cvs m)
 | .rng a m=>f0 h I (a+(i:Nat)*1) ((m:Int)-(i:Nat)) 1
def ItV (K:Kx)(J:List am)(h:au)(src:Src):ItK->Prop
 | .list n _=>src.keep=λU'=>U'[n]?=S5 (.list src.vs)
 | .tup _ cvs=>RVs K J h src.vs cvs/\src.keep=λu_=>True
 | .frz _ cvs _=>RVs K J h src.vs cvs/\src.keep=λu_=>True
 | .rng a m=>src.vs=(C6 m).map (λk=>V.int (a+(k:Nat)))/\src.keep=λu_=>True
structure ItOK (K:Kx)(J:List am)(I:am)(i:Nat)(h:au)(src:Src)(k:ItK):Prop where
 st:ItSt K J I i h k
 v:ItV K J h src k
 off:I ∉ J
 new:K.h0.get? I=N0
section
variable {K:Kx}{A:aj}
theorem ItSt.obj {I:am} {i:Nat} {k:ItK} (x:ItSt K J I i h k):∃ o,h.get? I=S5 o /\ o.cls ≠ .type "tuple":=by
 cases k with
 | list n ax=>revert x;refine Zok λu0_ o e hc u4_=>?_;exact ⟨o,e,by rw[hc];decide⟩
 | tup ax cvs=>revert x;refine rA λhO0 u1_=>?_;revert hO0;refine Ud λo e hc u3_=>?_;exact ⟨o,e,by rw[hc];decide⟩
 | frz ax cvs m=>revert x;refine rA λhO0 u1_=>?_;revert hO0;refine Ud λo e hc u3_=>?_;exact ⟨o,e,by rw[hc];decide⟩
 | rng a m=>exact ⟨_,x,by show aa.type "range_iterator" ≠ aa.type "tuple"; decide⟩
theorem ItSt.nf {I:am}{i:Nat}{k:ItK}(x:ItSt K J I i h k){o:Obj}(e:h.get? I=S5 o):¬ dy o:=by
 intro hR0
 revert hR0;refine rEE λes ep hd=>?_
 cases k with
 | list n ax=>revert x;refine Zok λu0_ o' e' hc hx=>?_;rw[e] at e';obtain rfl:=B0.inj e';rw[hd] at hx;cases hx
 | tup ax cvs=>revert x;refine rA λhO0 u1_=>?_;revert hO0;refine Ud λo' e' hc hx=>?_;rw[e] at e';obtain rfl:=B0.inj e';rw[hd] at hx;cases hx
 | frz ax cvs m=>revert x;refine rA λhO0 u1_=>?_;revert hO0;refine Ud λo' e' hc hx=>?_;rw[e] at e';obtain rfl:=B0.inj e';rw[hd] at hx;cases hx
 | rng a m=>
  obtain x:h.get? I=S5 _:=x
  rw[e] at x;obtain rfl:=B0.inj x;cases hd
theorem ItOK.not_tup {I:am}{i:Nat}{src:Src}{k:ItK}(x:ItOK K J I i h src k):∀vs,h.get? I≠S5 (Z6 vs):=by
 intro vs e
 refine rEA (λo e' hc=>?_) x.st.obj
 rw[e] at e';obtain rfl:=B0.inj e';exact hc rfl
theorem ItOK.move {I:am}{i:Nat}{src:Src}{k:ItK}(x:ItOK K J I i h src k)(hp:J <+: J')(hI:∀o,h.get? I=S5 o->h'.get? I=S5 o)(ht:∀a vs,h.get? a=S5 (Z6 vs)->h'.get? a=S5 (Z6 vs))(hoff:I ∉ J'):ItOK K J' I i h' src k:=by
 refine ⟨?_,?_,hoff,x.new⟩
 .obtain h:=x.st
  cases k with
  | list n ax=>revert h;refine Ziq λh1 o e h2=>?_;exact ⟨Xv hp h1,o,hI _ e,h2⟩
  | tup ax cvs=>revert h;refine rA λhO0 h3=>?_;revert hO0;refine rEA λo e h2=>?_;exact ⟨⟨o,hI _ e,h2⟩,ht _ _ h3⟩
  | frz ax cvs m=>revert h;refine rA λhO0 h3=>?_;revert hO0;refine rEA λo e h2=>?_;exact ⟨⟨o,hI _ e,h2⟩,h3⟩
  | rng a m=>exact hI _ h
 .obtain h:=x.v
  cases k with
  | list n ax=>exact h
  | tup ax cvs=>exact ⟨h.1.mono hp ht,h.2⟩
  | frz ax cvs m=>exact ⟨h.1.mono hp ht,h.2⟩
  | rng a m=>exact h
theorem ItOK.ex0 {I:am}{i:Nat}{src:Src}{k:ItK}(x:ItOK K J I i h src k):∃o,h.get? I=S5 o:=let ⟨o,e,_⟩:=x.st.obj;⟨o,e⟩
theorem ItOK.step {I:am}{i:Nat}{src:Src}{k:ItK}(x:ItOK K J I i s.heap src k)(hr:HR K J U s.heap)(st:Step J s J' s'):ItOK K J' I i s'.heap src k:=by
 refine rEA (λo eo u2_=>?_) x.st.obj
 have hI:∀o,s.heap.get? I=S5 o->s'.heap.get? I=S5 o:=λo e=>st.ex e x.off (x.st.nf e)
 refine ⟨?_,?_,λhm=>?_,x.new⟩
 .have h:=x.st
  cases k with
  | list n ax=>revert h;refine Ziq λh1 o e h2=>?_;exact ⟨Xv st.pre h1,o,hI _ e,h2⟩
  | tup ax cvs=>revert h;refine rA λhO0 h3=>?_;revert hO0;refine rEA λo e h2=>?_;exact ⟨⟨o,hI _ e,h2⟩,st.tups hr _ _ h3⟩
  | frz ax cvs m=>revert h;refine rA λhO0 h3=>?_;revert hO0;refine rEA λo e h2=>?_;exact ⟨⟨o,hI _ e,h2⟩,h3⟩
  | rng a m=>exact hI _ h
 .have h:=x.v
  cases k with
  | list n ax=>exact h
  | tup ax cvs=>exact ⟨h.1.step hr st,h.2⟩
  | frz ax cvs m=>exact ⟨h.1.step hr st,h.2⟩
  | rng a m=>exact h
 .rcases st.fresh I hm with h | h
  .exact x.off h
  .rw[eo] at h;exact ns h
theorem ItOK.but {I D:am}{i:Nat}{src:Src}{k:ItK}(x:ItOK K J I i h src k)(hD:∀vs,h.get? D≠S5 (Z6 vs))(hne:I≠D)(hk:∀b o,b≠D->h.get? b=S5 o->h'.get? b=S5 o):ItOK K J I i h' src k:=by
 refine ⟨?_,?_,x.off,x.new⟩
 .obtain h:=x.st
  cases k with
  | list n ax=>revert h;refine Ziq λh1 o e h2=>?_;exact ⟨h1,o,hk _ _ hne e,h2⟩
  | tup ax cvs=>revert h;refine rA λhO0 h3=>?_;revert hO0;refine rEA λo e h2=>?_;exact ⟨⟨o,hk _ _ hne e,h2⟩,hk _ _ (by rintro rfl;exact hD _ h3) h3⟩
  | frz ax cvs m=>revert h;refine rA λhO0 h3=>?_;revert hO0;refine rEA λo e h2=>?_;exact ⟨⟨o,hk _ _ hne e,h2⟩,h3⟩
  | rng a m=>exact hk _ _ hne h
 .obtain h:=x.v
  cases k with
  | list n ax=>exact h
  | tup ax cvs=>exact ⟨h.1.but hD hk,h.2⟩
  | frz ax cvs m=>exact ⟨h.1.but hD hk,h.2⟩
  | rng a m=>exact h
theorem Zmd {I:am}{i:Nat}{src:Src}{k:ItK}{v:V}(hh:A.handled=N0)(x:ItOK K J I i s.heap src k)(hr:HR K J U s.heap)(hkeep:src.keep U)(hv:src.vs[i]?=S5 v)
  {Q:Option aa->ae->Prop}{E:VSP}
  (hq:∀cv h' tk,(∀b o,b≠I->s.heap.get? b=S5 o->h'.get? b=S5 o)->HR K J U h'->RV K J h' v cv->ItOK K J I (i+1) h' src k->Q (S5 cv) { s with heap:=h',toks:=tk }) :
  wpAny K.M A (pyNext (.ref I)) Q E s:=by
 have hnt:=x.not_tup
 have key:∀cv h' tk,(∀b o,b≠I->s.heap.get? b=S5 o->h'.get? b=S5 o)->RV K J s.heap v cv->ItSt K J I (i+1) h' k->Q (S5 cv) { s with heap:=h',toks:=tk }:=by
  intro cv h' tk hk rv st
  refine hq cv h' tk hk (hr.but x.off x.new hnt hk) (rv.but hnt hk) ⟨st,?_,x.off,x.new⟩
  have h:=x.v
  cases k with
  | list n ax=>exact h
  | tup ax cvs=>exact ⟨h.1.but hnt hk,h.2⟩
  | frz ax cvs m=>exact ⟨h.1.but hnt hk,h.2⟩
  | rng a m=>exact h
 have hst:=x.st
 have hvv:=x.v
 cases k with
 | list n ax=>
  revert hst;refine rA λh1 hit=>?_
  have hv':src.keep=λU'=>U'[n]?=S5 (.list src.vs):=hvv
  rw[hv'] at hkeep
  refine Yn (λcvs m e rs u4_=>?_) (hr.obj n _ ax hkeep h1)
  refine rEA (λcv hc rv=>?_) (rs.get hv)
  refine dm hit ⟨_,e,rfl,m,rfl⟩ (x:=cv) (by simpa using hc) λh' hit' hs'=>?_
  exact key cv h' s.toks (λb o hb e=>(hs'.2 b hb).trans e) rv ⟨h1,hit'⟩
 | tup ax cvs=>
  revert hst;refine rA λhit e=>?_
  refine rEA (λcv hc rv=>?_) (hvv.1.get hv)
  refine wpAny_pyNext_tuple_item hit ⟨_,e,rfl,0,rfl⟩ (x:=cv) (by simpa using hc) λh' hit' hs'=>?_
  refine key cv h' s.toks (λb o hb e=>(hs'.2 b hb).trans e) rv ⟨hit',(hs'.2 ax ?_).trans e⟩
  rintro rfl
  revert hit;refine Ud λo e' hc' u3_=>?_
  rw [e] at e'; obtain rfl:=B0.inj e'; exact absurd hc' (show ¬ aa.type "tuple"=aa.type "tuple_iterator" by decide)
 | frz ax cvs m=>
  revert hst;refine rA λhit e=>?_
  refine rEA (λcv hc rv=>?_) (hvv.1.get hv)
  refine dm hit ⟨_,hr.keep _ _ e,rfl,m,rfl⟩ (x:=cv) (by simpa using hc) λh' hit' hs'=>?_
  exact key cv h' s.toks (λb o hb e=>(hs'.2 b hb).trans e) rv ⟨hit',e⟩
 | rng a m=>
  have hvs:src.vs=(C6 m).map (λk=>V.int (a+(k:Nat))):=hvv.1
  have hi:i<m:=by have:=(Ba.mp hv).1;rw[hvs] at this;simpa using this
  have ev:v=.int (a+(i:Nat)):=by rw[hvs] at hv;simp[hi] at hv;exact hv.symm
  subst ev
  refine (Walks.range hh I a 1 m).item i s Q E hi hst λcv h' tk hP st' hk=>?_
  revert hP;refine rE λt hO1=>?_;refine eqS hO1 ?_
  rw[Int.mul_one]
  exact key _ h' tk (λb o hb e=>hk b o (by simpa using hb) e) (.int _ _) st'
theorem Zme {I:am}{i:Nat}{src:Src}{k:ItK}(hh:A.handled=N0)(x:ItOK K J I i s.heap src k)(hr:HR K J U s.heap)(hkeep:src.keep U)(hv:i=src.vs.length)
  {Q:Option aa->ae->Prop}{E:VSP}
  (hq:∀h' tk,(∀b o,b≠I->s.heap.get? b=S5 o->h'.get? b=S5 o)->HR K J U h'->Q N0 { s with heap:=h',toks:=tk }):wpAny K.M A (pyNext (.ref I)) Q E s:=by
 have hnt:=x.not_tup
 have key:∀h' tk,(∀b o,b≠I->s.heap.get? b=S5 o->h'.get? b=S5 o)->Q N0 { s with heap:=h',toks:=tk }:=λh' tk hk=>hq h' tk hk (hr.but x.off x.new hnt hk)
 have hst:=x.st
 have hvv:=x.v
 cases k with
 | list n ax=>
  revert hst;refine rA λh1 hit=>?_
  have hv':src.keep=λU'=>U'[n]?=S5 (.list src.vs):=hvv
  rw[hv'] at hkeep
  refine Yn (λcvs m e rs u4_=>?_) (hr.obj n _ ax hkeep h1)
  have:=rs.length
  exact dq hh hit ⟨_,e,rfl,m,rfl⟩ (by simp;exact Nc 0x1601812820c10101 Tt hv this) λh' hs'=>key h' s.toks λb o hb e=>hs' b o hb e
 | tup ax cvs=>
  revert hst;refine rA λhit e=>?_
  have:=hvv.1.length
  exact (Walks.tuple hh I ax (by rintro rfl; revert hit; refine Ud λo e' hc' u3_=>?_; rw [e] at e'; obtain rfl:=B0.inj e'; exact absurd hc' (show ¬ aa.type "tuple"=aa.type "tuple_iterator" by decide)) cvs.toArray).done s Q E (by rw [Iz,← this,← hv]; exact ⟨hit,_,e,rfl,0,rfl⟩) λh' tk hk=>key h' tk λb o hb e=>hk b o (by simpa using hb) e
 | frz ax cvs m=>
  revert hst;refine rA λhit e=>?_
  have:=hvv.1.length
  exact dq hh hit ⟨_,hr.keep _ _ e,rfl,m,rfl⟩ (by simp;exact Nc 0x1601812820c10101 Tt hv this) λh' hs'=>key h' s.toks λb o hb e=>hs' b o hb e
 | rng a m=>
  have hvs:src.vs=(C6 m).map (λk=>V.int (a+(k:Nat))):=hvv.1
  have him:i=m:=by rw[hv,hvs];simp
  subst him
  exact (Walks.range hh I a 1 i).done s Q E hst λh' tk hk=>key h' tk λb o hb e=>hk b o (by simpa using hb) e
theorem Zru {I:am}{i:Nat}{src:Src}{k:ItK}(hh:A.handled=N0)(x:ItOK K J I i s.heap src k){Q:aa->ae->Prop}{E:aa->ae->Prop}(hq:Q (.ref I) s) :
  wpAny K.M A (pyIter (.ref I)) Q E s:=by
 obtain hst:=x.st
 cases k with
 | list n ax=>exact du hst.2 hq
 | tup ax cvs=>
  revert hst;refine rA λhit e=>?_
  exact (Walks.tuple hh I ax (by rintro rfl; revert hit; refine Ud λo e' hc' u3_=>?_; rw [e] at e'; obtain rfl:=B0.inj e'; exact absurd hc' (show ¬ aa.type "tuple"=aa.type "tuple_iterator" by decide)) cvs.toArray).self i s Q E ⟨hit,_,e,rfl,0,rfl⟩ hq
 | frz ax cvs m=>exact du hst.1 hq
 | rng a m=>exact (Walks.range hh I a 1 m).self i s Q E hst hq
theorem Good.tmp (hr:HR K J U s.heap)(o:Obj)(t:Nat):Good K J s J U { s with heap:=s.heap.push o,toks:=t }:=Good.grow hr (λb o' e=>au.get?_push_of_some _ e) t
theorem Zbl (hr:HR K J U s.heap):s.heap.objs.size ∉ J/\K.h0.get? s.heap.objs.size=N0:=by
 refine ⟨λhm=>?_,?_⟩
 .refine rEA (λob e u2_=>?_) (hr.at_ hm);rw[get?_size] at e;exact nn e
 .cases e:K.h0.get? s.heap.objs.size with
  | none=>rfl
  | some o=>have:=hr.keep _ _ e;rw[get?_size] at this;exact nn this
end
section
namespace j8
def Sq_ (K:Kx)(A:aj)(Ue:H)(Je:List am)(se:ae)(Q:aa->ae->Prop)(E:aa->ae->Prop):Prop:=∀{x:V} {src:Src} {cx:aa} (h:(match x with
      | .tup l=>S5 (R.ok (⟨l,λu_=>True⟩ : Src),Ue)
      | .frz l=>S5 (.ok ⟨l.map .int,λu_=>True⟩,Ue)
      | .obj n=>match Ue[n]? with
        | some (.list l)=>S5 (.ok ⟨l,λU'=>U'[n]?=S5 (.list l)⟩,Ue)
        | _=>.none
      | _=>.none)=S5 (.ok src,Ue)) (hr:HR K Je Ue se.heap) (rx:RV K Je se.heap x cx) (hq:∀h' k,Good K Je se Je Ue { se with heap:=h' }->ItOK K Je se.heap.objs.size 0 h' src k->src.keep Ue->Q (.ref se.heap.objs.size) { se with heap:=h' }),wpAny K.M A (pyIter cx) Q E se
def pq_:=Wo ⟨(dKx,{},[],[],{},(λu_ v_=>True),(λu_ v_=>True))⟩ (uc7 Sq_)
def K:=pq_.1
def A:=pq_.2.1
def Ue:=pq_.2.2.1
def Je:=pq_.2.2.2.1
def se:=(sk4 pq_).1
def Q:=(sk4 pq_).2.1
def E:=(sk4 pq_).2.2
set_option tactic.hygienic true in
theorem pfq_:Sq_ K A Ue Je se Q E:=by
 intro x src cx h hr rx hq
 refine rA (λf1 f2=>?_) (Zbl hr)
 cases x with
 | tup l=>
  refine U9 (λa vs hO2 e r hl=>?_) (rx.tupI rfl);refine eqS hO2 ?_
  cases h
  refine wpAny_pyIter_tuple ⟨_,e,rfl,0,rfl⟩ (hq _ (.tup a vs) (Good.tmp hr _ _) ⟨⟨⟨_,au.get?_push_size _ rfl,rfl,rfl⟩,au.get?_push_of_some _ e⟩,⟨r.mono (Bt _) λu_ v_ e=>au.get?_push_of_some _ e,rfl⟩,f1,f2⟩ trivial)
 | frz l=>
  cases rx with
  | frz e r hl=>
   rename_i a vs n
   cases h
   refine fh ⟨_,hr.keep _ _ e,rfl,n,rfl⟩ (hq _ (.frz a vs n) (Good.tmp hr _ _) ⟨⟨⟨_,au.get?_push_size _ rfl,rfl,rfl⟩,e⟩,⟨r.mono (Bt _) λu_ v_ e=>au.get?_push_of_some _ e,rfl⟩,f1,f2⟩ trivial)
 | obj n=>
  refine rEA (λa hO1 ha=>?_) (rx.objI rfl);refine eqS hO1 ?_
  simp only at h
  split at h
  .rename_i l hl
   cases h
   refine Yn (λvs m e r u4_=>?_) (hr.obj _ _ _ hl ha)
   refine fh ⟨_,e,rfl,m,rfl⟩ (hq _ (.list n a) (Good.tmp hr _ _) ⟨⟨ha,⟨_,au.get?_push_size _ rfl,rfl,rfl⟩⟩,rfl,f1,f2⟩ hl)
  .exact nn h
 | _=>exact nn h
end j8
theorem Zrv {K:Kx}{A:aj}{Q:VSP}{E:VSP}:j8.Sq_ K A U J s Q E:=Yi (S:=uc7 j8.Sq_) j8.pfq_ (K,A,U,J,s,Q,E)
end
section
variable {K:Kx}{A:aj}
end
def PT (K:Kx)(A:aj)(env:Env)(c:CEnv)(cl:Cl)(e:aq)(a:Ex):Prop :=
 ∀Z U v U' b,Zg cl a Z U=S5 (.ok v,U')->Wz v=S5 b->∀J s,HR K J U s.heap->FO K A env c Z J s.heap->TR K A (isTrue e env (eval e env)) J s U' λu_ r v_=>r=b
def PEs (K:Kx)(A:aj)(env:Env)(c:CEnv)(cl:Cl)(es:List aq)(a:Es):Prop :=
 ∀pos Z U vs U',Y8 cl a Z U=S5 (.ok vs,U')->∀J s,HR K J U s.heap->FO K A env c Z J s.heap->TR K A (spliced (backTo pos (starEach es env))) J s U' λJ' cvs s'=>RVs K J' s'.heap vs cvs
def PO (K:Kx)(A:aj)(env:Env)(c:CEnv)(cl:Cl)(e:Option aq)(a:Oe):Prop :=
 ∀Z U v U',Zb3 cl a Z U=S5 (.ok v,U')->∀J s,HR K J U s.heap->FO K A env c Z J s.heap->TR K A (evalPart e env) J s U' λJ' cv s'=>RV K J' s'.heap v cv
section
variable {K:Kx}{A:aj}{env:Env}{c:CEnv}{cl:Cl}{T:Tabs}
theorem TR.stand {α:Type}{t:Sem α}{pos:Pos}{P:List am->α->ae->Prop}(h:TR K A t J s U' P):TR K A (standAt pos >>= λu_=>t) J s U' P:=af (bp h)
theorem TR.hold {α:Type}{t:Sem α}{vs:List aa}{P:List am->α->ae->Prop}(h:TR K A t J s U' P):TR K A (holding vs t) J s U' P:=ay h
theorem TR.oper {t:Sem aa}{vs:List aa}{P:List am->aa->ae->Prop}(h:TR K A t J s U' P):TR K A (operate vs t) J s U' P:=bt h
theorem Zaf {v:V}{b:Bool}(e:Wz v=S5 b){cv:aa}(r:RV K J s.heap v cv){Q:Bool->ae->Prop}{E:VSP}(hq:Q b s):wpAny K.M A (truthy cv) Q E s:=by
 cases v with
 | bool b'=>obtain rfl:=r.boolI rfl;obtain rfl:=B0.inj e;exact bj hq
 | none=>obtain rfl:=r.noneI rfl;obtain rfl:=B0.inj e;exact ar hq
 | _=>exact nn e
theorem Za4 {e:aq}{a:Ex}(h:PE K A env c cl e a)(hw:∀w,isTrue e env w=(do let v ← w;standAt e.pos;holding [v] (truthy v))):PT K A env c cl e a:=by
 intro Z U v U' b he hb J s hr fo
 rw[hw]
 exact TR.bind (h Z U v U' he J s hr fo) λJ1 cv s1 g1 rv=>TR.stand (TR.hold (Zaf hb rv ⟨J1,Good.refl g1.hr,rfl⟩))
theorem Zu1 {l r:aq}{op:ce}{pos:Pos}{a b:Ex}{o:Bop}(ho:cOp op=S5 o)(hl:PE K A env c cl l a)(hrr:PE K A env c cl r b):PE K A env c cl (.BinOp l op r pos) (.bin o a b):=by
 intro Z U v U' he J s hr fo
 skip
 refine Ye (he) λx U1 h1 he=>?_
 refine Ye (he) λy U2 h2 he=>?_
 obtain he:=Zco he
 rw[eval_BinOp]
 refine TR.bind (hl Z U x U1 h1 J s hr fo) λJ1 cx s1 g1 rx=>?_
 refine TR.bind (TR.hold (hrr Z U1 y U2 h2 J1 s1 g1.hr (fo.step hr g1.st))) λJ2 cy s2 g2 ry=>?_
 exact TR.stand (TR.oper (Zi6 he g2.hr (rx.step g1.hr g2.st) ry ho))
theorem Zu2 {x:aq}{pos:Pos}{a:Ex}(h:PE K A env c cl x a):PE K A env c cl (.UnaryOp .USub x pos) (.neg a):=by
 intro Z U v U' he J s hr fo
 skip
 refine Ye (he) λy U1 h1 he=>?_
 show TR K A (do let v ← eval x env;standAt pos;holding [v] (unaryOp .USub v)) J s U' _
 refine TR.bind (h Z U y U1 h1 J s hr fo) λJ1 cy s1 g1 ry=>TR.stand (TR.hold ?_)
 cases y with
 | int i=>refine rE (λu0_ hO1=>?_) (ry.intI rfl);refine eqS hO1 ?_;refine byC λXX=>?_;refine rA (λhO0 hO1=>?_) (okJ he);subst hO0;subst hO1;apply XX;exact neg_int ⟨J1,(Good.refl g1.hr).tok _,.int _ _⟩
 | _=>exact nn he
theorem Zu3 {x:aq}{pos:Pos}{a:Ex}(h:PE K A env c cl x a):PE K A env c cl (.UnaryOp .Not x pos) (.not a):=by
 intro Z U v U' he J s hr fo
 skip
 refine Ye (he) λy U1 h1 he=>?_
 refine byC λXX=>?_;refine rA (λhx hO1=>?_) (Zad he);subst hO1;apply XX
 refine byC λXX=>?_;refine rEA (λb hb hO2=>?_) (Bi.mp hx);subst hO2;apply XX
 show TR K A (do let v ← eval x env;standAt pos;holding [v] (unaryOp .Not v)) J s U' _
 refine TR.bind (h Z U y U' h1 J s hr fo) λJ1 cy s1 g1 ry=>TR.stand (TR.hold ?_)
 exact not_value (Zaf hb ry ⟨J1,Good.refl g1.hr,.bool _⟩)
theorem Zu4 {x:aq}{pos:Pos}{a:Ex}(h:PT K A env c cl x a):PT K A env c cl (.UnaryOp .Not x pos) (.not a):=by
 intro Z U v U' b he hb J s hr fo
 skip
 refine Ye (he) λy U1 h1 he=>?_
 refine byC λXX=>?_;refine rA (λhx hO1=>?_) (Zad he);subst hO1;apply XX
 refine byC λXX=>?_;refine rEA (λb' hb' hO2=>?_) (Bi.mp hx);subst hO2;apply XX
 obtain rfl:=B0.inj hb
 exact wpAny_isTrue_Not (ak (h Z U y U' b' h1 hb' J s hr fo) (λr s' hq=>let ⟨J',g,e⟩:=hq;⟨J',g,by rw[e]⟩) λu_ v_ f=>f)
set_option tactic.hygienic true in
theorem Zu5 {t b o:aq}{pos:Pos}{x y z:Ex}(ht:PT K A env c cl t x)(hb:PE K A env c cl b y)(ho:PE K A env c cl o z):PE K A env c cl (.IfExp t b o pos) (.ife x y z):=by
 intro Z U v U' he J s hr fo
 skip
 refine Ye (he) λw U1 h1 he=>?_
 show TR K A (do if ← isTrue t env (eval t env) then eval b env else eval o env) J s U' _
 split at he
 .rename_i hw
  refine TR.bind (ht Z U w U1 T1 h1 hw J s hr fo) λJ1 r s1 g1 e=>?_
  subst e
  exact hb Z U1 v U' he J1 s1 g1.hr (fo.step hr g1.st)
 .rename_i hw
  refine TR.bind (ht Z U w U1 F0 h1 hw J s hr fo) λJ1 r s1 g1 e=>?_
  subst e
  exact ho Z U1 v U' he J1 s1 g1.hr (fo.step hr g1.st)
 .exact nn he
set_option tactic.hygienic true in
theorem Zu6 {t b o:aq}{pos:Pos}{x y z:Ex}(ht:PT K A env c cl t x)(hb:PT K A env c cl b y)(ho:PT K A env c cl o z):PT K A env c cl (.IfExp t b o pos) (.ife x y z):=by
 intro Z U v U' bb he hbb J s hr fo
 skip
 refine Ye (he) λw U1 h1 he=>?_
 show TR K A (do if ← isTrue t env (eval t env) then isTrue b env (eval b env) else isTrue o env (eval o env)) J s U' _
 split at he
 .rename_i hw
  refine TR.bind (ht Z U w U1 T1 h1 hw J s hr fo) λJ1 r s1 g1 e=>?_
  subst e
  exact hb Z U1 v U' bb he hbb J1 s1 g1.hr (fo.step hr g1.st)
 .rename_i hw
  refine TR.bind (ht Z U w U1 F0 h1 hw J s hr fo) λJ1 r s1 g1 e=>?_
  subst e
  exact ho Z U1 v U' bb he hbb J1 s1 g1.hr (fo.step hr g1.st)
 .exact nn he
def PB (K:Kx)(A:aj)(env:Env)(c:CEnv)(cl:Cl)(op:bz)(es:List aq)(a:Ex):Prop :=
 (∀pos Z U v U',Zg cl a Z U=S5 (.ok v,U')->∀J s,HR K J U s.heap->FO K A env c Z J s.heap->TR K A (boolOp pos op (evalEach es env)) J s U' λJ' cv s'=>RV K J' s'.heap v cv)/\
 (∀Z U v U' b,Zg cl a Z U=S5 (.ok v,U')->Wz v=S5 b->∀J s,HR K J U s.heap->FO K A env c Z J s.heap->TR K A (allTrue op es env) J s U' λu_ r v_=>r=b)
theorem Zjg (op:bz)(e:aq){b:Bool}(h:TR K A (isTrue e env (eval e env)) J s U' λu_ r v_=>r=b):TR K A (allTrue op [e] env) J s U' λu_ r v_=>r=b:=by
 obtain e1:allTrue op [e] env=(do match op,← isTrue e env (eval e env) with | .And,F0=>pure F0 | .Or,T1=>pure T1 | _,_=>allTrue op [] env):=rfl
 rw[e1]
 refine TR.bind h λJ1 r s1 g1 er=>?_
 subst er
 cases op <;> cases r <;> exact TR.pure g1.hr rfl
theorem Zu7 {op:bz}{e:aq}{a:Ex}(h:PE K A env c cl e a)(ht:PT K A env c cl e a):PB K A env c cl op [e] a :=
 ⟨λpos Z U v U' he J s hr fo=>h Z U v U' he J s hr fo,λZ U v U' b he hb J s hr fo=>Zjg op e (ht Z U v U' b he hb J s hr fo)⟩
end
section
namespace gu
def Sq_ (cl:Cl)(a:Ex)(b:Ex)(Ze:L)(Ue:H)(U'e:H)(v:V):Prop:=∀{op:bz} (he:Zg cl (Zkz op a b) Ze Ue=S5 (.ok v,U'e)),∃x U1 t,Zg cl a Ze Ue=S5 (.ok x,U1)/\Wz x=S5 t/\((t=(match op with | .And=>T1 | .Or=>F0)/\Zg cl b Ze U1=S5 (.ok v,U'e))\/(t=(match op with | .And=>F0 | .Or=>T1)/\x=v/\U1=U'e))
def pq_:=Wo ⟨(dCl,(.lit .none),(.lit .none),[],[],[],.none)⟩ (uc7 Sq_)
def cl:=pq_.1
def a:=pq_.2.1
def b:=pq_.2.2.1
def Ze:=pq_.2.2.2.1
def Ue:=(sk4 pq_).1
def U'e:=(sk4 pq_).2.1
def v:=(sk4 pq_).2.2
theorem pfq_:Sq_ cl a b Ze Ue U'e v:=by
 intro op he
 cases op with
 | And=>
  refine Ye ((show bok (Zg cl a Ze Ue) _=_ from he)) λx U1 h1 h2=>?_
  refine ⟨x,U1,?_⟩
  cases hx:Wz x with
  | none=>rw[hx] at h2;exact nn h2
  | some t=>
   rw[hx] at h2
   refine ⟨t,h1,rfl,?_⟩
   cases t with
   | true=>exact .inl ⟨rfl,h2⟩
   | false=>exact .inr ⟨rfl,okJ h2⟩
 | Or=>
  refine Ye ((show bok (Zg cl a Ze Ue) _=_ from he)) λx U1 h1 h2=>?_
  refine ⟨x,U1,?_⟩
  cases hx:Wz x with
  | none=>rw[hx] at h2;exact nn h2
  | some t=>
   rw[hx] at h2
   refine ⟨t,h1,rfl,?_⟩
   cases t with
   | false=>exact .inl ⟨rfl,h2⟩
   | true=>exact .inr ⟨rfl,okJ h2⟩
end gu
theorem Zjh {cl:Cl}{a:Ex}{b:Ex}{v:V}:gu.Sq_ cl a b Z U U' v:=Yi (S:=uc7 gu.Sq_) gu.pfq_ (cl,a,b,Z,U,U',v)
end
section
variable {K:Kx}{A:aj}{env:Env}{c:CEnv}{cl:Cl}{T:Tabs}
end
section
namespace jb
def Sq_ (K:Kx)(A:aj)(env:Env)(c:CEnv)(cl:Cl)(e:aq)(e':aq)(r:List aq)(a:Ex)(b:Ex):Prop:=∀{op:bz} (h:PE K A env c cl e a) (ht:PT K A env c cl e a) (hb:PB K A env c cl op (e'::r) b),PB K A env c cl op (e::e'::r) (Zkz op a b)
def pq_:=Wo ⟨(dKx,{},default,Zdz,dCl,default,default,[],(.lit .none),(.lit .none))⟩ (Zuu Sq_)
def K:=pq_.1
def A:=pq_.2.1
def env:=pq_.2.2.1
def c:=pq_.2.2.2.1
def cl:=(sk4 pq_).1
def e:=(sk4 pq_).2.1
def e':=(sk4 pq_).2.2.1
def r:=(sk4 pq_).2.2.2.1
def a:=(sk8 pq_).1
def b:=(sk8 pq_).2
theorem pfq_:Sq_ K A env c cl e e' r a b:=by
 intro op h ht hb
 constructor
 .intro pos Z U v U' he J s hr fo
  refine Xk (λx U1 t h1 hx hd=>?_) (Zjh he)
  obtain e1 : boolOp pos op (evalEach (e :: e' :: r) env) = (do
    let v ← eval e env
    standAt pos
    let t ← holding [v] (truthy v)
    match op,t with
    | .And,F0 | .Or,T1=>pure v
    | _,_=>boolOp pos op (evalEach (e'::r) env)):=rfl
  rw[e1]
  refine TR.bind (h Z U x U1 h1 J s hr fo) λJ1 cx s1 g1 rx=>TR.stand (af (ay (Zaf hx rx ?_)))
  rcases hd with ⟨rfl,he2⟩ | ⟨rfl,rfl,rfl⟩
  .cases op <;> exact hb.1 pos Z U1 v U' he2 J1 s1 g1.hr (fo.step hr g1.st)
  .cases op <;> exact TR.pure g1.hr rx
 .intro Z U v U' bb he hbb J s hr fo
  refine Xk (λx U1 t h1 hx hd=>?_) (Zjh he)
  obtain e1:allTrue op (e::e'::r) env=(do match op,← isTrue e env (eval e env) with | .And,F0=>pure F0 | .Or,T1=>pure T1 | _,_=>allTrue op (e'::r) env):=rfl
  rw[e1]
  refine TR.bind (ht Z U x U1 t h1 hx J s hr fo) λJ1 q s1 g1 er=>?_
  subst er
  rcases hd with ⟨rfl,he2⟩ | ⟨rfl,rfl,rfl⟩
  .cases op <;> exact hb.2 Z U1 v U' bb he2 hbb J1 s1 g1.hr (fo.step hr g1.st)
  .refine siE (hx.symm.trans hbb) ?_
   cases op <;> exact TR.pure g1.hr rfl
end jb
theorem Zrw {K:Kx}{A:aj}{env:Env}{c:CEnv}{cl:Cl}{e:aq}{e':aq}{r:List aq}{a:Ex}{b:Ex}:jb.Sq_ K A env c cl e e' r a b:=Yi (S:=Zuu jb.Sq_) jb.pfq_ (K,A,env,c,cl,e,e',r,a,b)
end
section
variable {K:Kx}{A:aj}{env:Env}{c:CEnv}{cl:Cl}{T:Tabs}
def PC (K:Kx)(A:aj)(env:Env)(c:CEnv)(cl:Cl)(ops:List bx)(es:List aq)(r:Ch):Prop :=
 (∀pos x Z U v U',Ze0 cl x r Z U=S5 (.ok v,U')->∀J s cx,HR K J U s.heap->FO K A env c Z J s.heap->RV K J s.heap x cx->TR K A (compareChain pos cx ops (evalEach es env)) J s U' λJ' cv s'=>RV K J' s'.heap v cv)/\
 (∀pos x Z U v U' b,Ze0 cl x r Z U=S5 (.ok v,U')->Wz v=S5 b->∀J s cx,HR K J U s.heap->FO K A env c Z J s.heap->RV K J s.heap x cx->TR K A (testChain pos cx ops (evalEach es env)) J s U' λu_ q v_=>q=b)
theorem Zu8 {op:bx}{e:aq}{a:Ex}(hu:A.units+16<cLine)(h:PE K A env c cl e a):PC K A env c cl [op] [e] (.one (Zov op) a):=by
 constructor
 .intro pos x Z U v U' he J s cx hr fo rx
  skip
  refine Ye (he) λy U1 h1 he=>?_
  refine byC λXX=>?_;refine rA (λhx hO1=>?_) (Zad he);subst hO1;apply XX
  refine byC λXX=>?_;refine rEA (λb hb hO2=>?_) (Bi.mp hx);subst hO2;apply XX
  show TR K A (do let rv ← holding [cx] (eval e env);standAt pos;operate [cx,rv] (compareOp op cx rv)) J s U' _
  refine TR.bind (TR.hold (h Z U y U' h1 J s hr fo)) λJ1 cy s1 g1 ry=>TR.stand (TR.oper ?_)
  exact Wi hb g1.hr (rx.step hr g1.st) ry rfl hu ⟨J1,Good.refl g1.hr,.bool _⟩
 .intro pos x Z U v U' bb he hbb J s cx hr fo rx
  skip
  refine Ye (he) λy U1 h1 he=>?_
  refine byC λXX=>?_;refine rA (λhx hO1=>?_) (Zad he);subst hO1;apply XX
  refine byC λXX=>?_;refine rEA (λb hb hO2=>?_) (Bi.mp hx);subst hO2;apply XX
  obtain rfl:=B0.inj hbb
  show TR K A (do let rv ← holding [cx] (eval e env);standAt pos;let c ← operate [cx,rv] (compareOp op cx rv);holding [c] (truthy c)) J s U' _
  refine TR.bind (TR.hold (h Z U y U' h1 J s hr fo)) λJ1 cy s1 g1 ry=>TR.stand (af (bt ?_))
  exact Wi hb g1.hr (rx.step hr g1.st) ry rfl hu (ay (bj ⟨J1,Good.refl g1.hr,rfl⟩))
theorem Xb {vs keep:List aa}{Q:Unit->ae->Prop}{E:VSP}(h:Q () s):wpAny K.M A (release vs keep) Q E s:=fun Γ p u_=>by rw[Sem.wp_release];exact h
set_option tactic.hygienic true in
theorem Zrx {op op':bx}{ops:List bx}{e e':aq}{es:List aq}{a:Ex}{r:Ch}(hu:A.units+16<cLine)(h:PE K A env c cl e a)(hr':PC K A env c cl (op'::ops) (e'::es) r) :
  PC K A env c cl (op::op'::ops) (e::e'::es) (.more (Zov op) a r):=by
 constructor
 .intro pos x Z U v U' he J s cx hr fo rx
  skip
  refine Ye (he) λy U1 h1 he=>?_
  show TR K A (do
   let rv ← holding [cx] (eval e env)
   standAt pos
   let c ← holding [cx,rv] (compareOp op cx rv)
   release [cx,rv] [c]
   if ← holding [c,rv] (truthy c) then compareChain pos rv (op'::ops) (evalEach (e'::es) env) else pure c) J s U' _
  refine TR.bind (TR.hold (h Z U y U1 h1 J s hr fo)) λJ1 cy s1 g1 ry=>TR.stand (af (ay ?_))
  split at he
  .rename_i hb
   exact Wi hb g1.hr (rx.step hr g1.st) ry rfl hu (af (Xb (af (ay (bj (hr'.1 pos y Z U1 v U' he J1 s1 cy g1.hr (fo.step hr g1.st) ry))))))
  .rename_i hb
   refine okE he ?_
   exact Wi hb g1.hr (rx.step hr g1.st) ry rfl hu (af (Xb (af (ay (bj (TR.pure g1.hr (.bool _)))))))
  .exact nn he
 .intro pos x Z U v U' bb he hbb J s cx hr fo rx
  skip
  refine Ye (he) λy U1 h1 he=>?_
  show TR K A (do
   let rv ← holding [cx] (eval e env)
   standAt pos
   let c ← holding [cx,rv] (compareOp op cx rv)
   release [cx,rv] [c]
   if ← holding [c,rv] (truthy c) then testChain pos rv (op'::ops) (evalEach (e'::es) env) else pure F0) J s U' _
  refine TR.bind (TR.hold (h Z U y U1 h1 J s hr fo)) λJ1 cy s1 g1 ry=>TR.stand (af (ay ?_))
  split at he
  .rename_i hb
   exact Wi hb g1.hr (rx.step hr g1.st) ry rfl hu (af (Xb (af (ay (bj (hr'.2 pos y Z U1 v U' bb he hbb J1 s1 cy g1.hr (fo.step hr g1.st) ry))))))
  .rename_i hb
   refine byC λXX=>?_;refine rA (λhO0 hO1=>?_) (okJ he);subst hO0;subst hO1;apply XX;clear XX
   obtain rfl:=B0.inj hbb
   exact Wi hb g1.hr (rx.step hr g1.st) ry rfl hu (af (Xb (af (ay (bj (TR.pure g1.hr rfl))))))
  .exact nn he
theorem Zu9 {l:aq}{ops:List bx}{cs:List aq}{pos:Pos}{a:Ex}{r:Ch}(hm:markedEach ops cs (evalEach cs env)=evalEach cs env)(hl:PE K A env c cl l a)(hc:PC K A env c cl ops cs r) :
  PE K A env c cl (.Compare l ops cs pos) (.cmp a r):=by
 intro Z U v U' he J s hr fo
 skip
 refine Ye (he) λx U1 h1 he=>?_
 show TR K A (do compareChain pos (← eval l env) ops (markedEach ops cs (evalEach cs env))) J s U' _
 rw[hm]
 exact TR.bind (hl Z U x U1 h1 J s hr fo) λJ1 cx s1 g1 rx=>hc.1 pos x Z U1 v U' he J1 s1 cx g1.hr (fo.step hr g1.st) rx
theorem Zva {l:aq}{ops:List bx}{cs:List aq}{pos:Pos}{a:Ex}{r:Ch}(hm:markedEach ops cs (evalEach cs env)=evalEach cs env)(hl:PE K A env c cl l a)(hc:PC K A env c cl ops cs r) :
  PT K A env c cl (.Compare l ops cs pos) (.cmp a r):=by
 intro Z U v U' b he hb J s hr fo
 skip
 refine Ye (he) λx U1 h1 he=>?_
 show TR K A (do testChain pos (← eval l env) ops (markedEach ops cs (evalEach cs env))) J s U' _
 rw[hm]
 exact TR.bind (hl Z U x U1 h1 J s hr fo) λJ1 cx s1 g1 rx=>hc.2 pos x Z U1 v U' b he hb J1 s1 cx g1.hr (fo.step hr g1.st) rx
theorem Zek:PEs K A env c cl [] .nil:=by
 intro pos Z U vs U' he J s hr fo
 refine okE he ?_
 exact gj ⟨J,Good.refl hr,.nil⟩
theorem Za5 {e:aq}{es:List aq}{a:Ex}{as:Es}(hs:starEach (e::es) env=(F0,eval e env)::starEach es env)(h:PE K A env c cl e a)(h':PEs K A env c cl es as):PEs K A env c cl (e::es) (.cons a as):=by
 intro pos Z U vs U' he J s hr fo
 skip
 refine Ye (he) λv U1 h1 he=>?_
 refine Ye (he) λvs' U2 h2 he=>?_
 cases he
 refine fu (ak (h Z U v U1 h1 J s hr fo) (λcv s1 hq=>?_) λu_ v_ f=>f) hs
 revert hq;refine rEA λJ1 g1 rv=>?_
 refine ak (h' pos Z U1 vs' U' h2 J1 s1 g1.hr (fo.step hr g1.st)) (λcvs s2 hq=>?_) λu_ v_ f=>f
 revert hq;refine rEA λJ2 g2 rvs=>?_
 exact ⟨J2,g1.trans g2,.cons (rv.step g1.hr g2.st) rvs⟩
set_option tactic.hygienic true in
theorem Zvb {es:List aq}{k:Nat}{pos:Pos}{as:Es}(h:PEs K A env c cl es as):PE K A env c cl (.Tuple es k pos) (.tup as):=by
 intro Z U v U' he J s hr fo
 skip
 refine Ye (he) λvs U1 h1 he=>?_
 split at he
 .rename_i hl
  cases he
  refine wpAny_Tuple (ak (h pos Z U vs U' h1 J s hr fo) (λcvs s1 hq=>?_) λu_ v_ f=>f)
  revert hq;refine rEA λJ1 g1 rvs=>?_
  refine ⟨Wu rvs hl,?_⟩
  refine rA (λg rr=>?_) (Zo1 g1.hr rvs hl s1.toks)
  exact ⟨_,g1.trans g,rr⟩
 .exact nn he
theorem Zvc {es:List aq}{pos:Pos}{as:Es}(h:PEs K A env c cl es as):PE K A env c cl (.List es pos) (.lst as):=by
 intro Z U v U' he J s hr fo
 skip
 refine Ye (he) λvs U1 h1 he=>?_
 refine rAA (λhl hO1 hO2=>?_) (X3 (Zco he));refine eqS hO1 ?_;refine eqS hO2 ?_
 refine wpAny_List (ak (h pos Z U vs U1 h1 J s hr fo) (λcvs s1 hq=>?_) λu_ v_ f=>f)
 revert hq;refine rEA λJ1 g1 rvs=>?_
 refine ⟨Wu rvs hl,?_⟩
 refine rA (λg rr=>?_) (Zdi (n:=0) g1.hr rvs hl s1.toks)
 exact ⟨_,g1.trans g,rr⟩
theorem Zvd {v i:aq}{pos:Pos}{a b:Ex}(h:PE K A env c cl v a)(h':PE K A env c cl i b):PE K A env c cl (.Subscript v i pos) (.idx a b):=by
 intro Z U w U' he J s hr fo
 skip
 refine Ye (he) λx U1 h1 he=>?_
 refine Ye (he) λy U2 h2 he=>?_
 refine byC λXX=>?_;refine rA (λhx hO1=>?_) (Zad he);subst hO1;apply XX
 refine Subscript_ (ak (h Z U x U1 h1 J s hr fo) (λcx s1 hq=>?_) λu_ v_ f=>f)
 revert hq;refine rEA λJ1 g1 rx=>?_
 refine ak (h' Z U1 y U' h2 J1 s1 g1.hr (fo.step hr g1.st)) (λcy s2 hq=>?_) λu_ v_ f=>f
 revert hq;refine rEA λJ2 g2 ry=>?_
 exact TR.after (g1.trans g2) (Zhs hx g2.hr (rx.step g1.hr g2.st) ry)
theorem Zxn:PO K A env c cl N0 .no:=by
 intro Z U v U' he J s hr fo
 refine okE he ?_
 exact TR.pure hr .none
theorem Zve {e:aq}{a:Ex}(h:PE K A env c cl e a):PO K A env c cl (S5 e) (.yes a):=λZ U v U' he J s hr fo=>h Z U v U' he J s hr fo
theorem Zvf {v:aq}{lo hi st:Option aq}{p pos:Pos}{a:Ex}{x y z:Oe}(h:PE K A env c cl v a)(hl:PO K A env c cl lo x)(hh:PO K A env c cl hi y)(hs:PO K A env c cl st z) :
  PE K A env c cl (.Subscript v (.Slice lo hi st p) pos) (.slc a x y z):=by
 intro Z U w U' he J s hr fo
 skip
 refine Ye (he) λo U1 h1 he=>?_
 refine Ye (he) λl U2 h2 he=>?_
 refine Ye (he) λu U3 h3 he=>?_
 refine Ye (he) λt U4 h4 he=>?_
 obtain he:=Zco he
 refine Subscript_ (ak (h Z U o U1 h1 J s hr fo) (λcx s1 hq=>?_) λu_ v_ f=>f)
 revert hq;refine rEA λJ1 g1 rx=>?_
 obtain fo1:=fo.step hr g1.st
 refine wpAny_Slice (ak (hl Z U1 l U2 h2 J1 s1 g1.hr fo1) (λcl' s2 hq=>?_) λu_ v_ f=>f)
 revert hq;refine rEA λJ2 g2 rl=>?_
 obtain fo2:=fo1.step g1.hr g2.st
 refine ak (hh Z U2 u U3 h3 J2 s2 g2.hr fo2) (λcu s3 hq=>?_) λu_ v_ f=>f
 revert hq;refine rEA λJ3 g3 ru=>?_
 obtain fo3:=fo2.step g2.hr g3.st
 refine ak (hs Z U3 t U4 h4 J3 s3 g3.hr fo3) (λct s4 hq=>?_) λu_ v_ f=>f
 revert hq;refine rEA λJ4 g4 rt=>?_
 obtain g5:=Good.tmp g4.hr { cls:=.type "slice",data:=.fields #[cl',cu,ct] } s4.toks
 obtain r1:=(((rx.step g1.hr g2.st).step g2.hr g3.st).step g3.hr g4.st).step g4.hr g5.st
 obtain r2:=((rl.step g2.hr g3.st).step g3.hr g4.st).step g4.hr g5.st
 obtain r3:=(ru.step g3.hr g4.st).step g4.hr g5.st
 obtain r4:=rt.step g4.hr g5.st
 exact TR.after ((((g1.trans g2).trans g3).trans g4).trans g5) (Zje he g5.hr r1 r2 r3 r4 (au.IsSliceOf.new ..))
end
def PI (K:Kx)(A:aj)(env:Env)(c:CEnv)(cl:Cl)(e:aq)(it:It):Prop :=
 ∀Z U src U',Wq cl it Z U=S5 (.ok src,U')->∀J s,HR K J U s.heap->FO K A env c Z J s.heap->
  wpAny K.M A (eval e env) (λx s1=>wpAny K.M A (pyIter x) (λitv s2=>∃J' I k,itv=.ref I/\Good K J s J' U' s2/\ItOK K J' I 0 s2.heap src k/\src.keep U'/\s.heap.get? I=N0) (λu_ v_=>False) s1) (λu_ v_=>False) s
def PF (K:Kx)(A:aj)(env:Env)(c:CEnv)(cl:Cl)(es:List aq)(a:Es):Prop :=
 ∀Z U b U',Jo cl a Z U=S5 (.ok b,U')->∀J s,HR K J U s.heap->FO K A env c Z J s.heap->
  TR K A (forIn es T1 λc r=>if r=T1 then do let ok ← isTrue c env (eval c env);pure (ForInStep.yield ok) else pure (ForInStep.yield r)) J s U' λu_ r v_=>r=b
section
variable {K:Kx}{A:aj}{env:Env}{c:CEnv}{cl:Cl}{T:Tabs}
theorem Good.back (g:Good K J s J' U' s'){a:am}(h:s'.heap.get? a=N0):s.heap.get? a=N0:=by
 cases e:s.heap.get? a with
 | none=>rfl
 | some o=>
  by_cases ha:a∈J
  .obtain this:a∈J':=g.st.pre.subset ha
   refine rEA (λob e' u2_=>?_) (g.hr.at_ this)
   rw[h] at e';exact nn e'
  .have:=g.st.fr a _ (U6 e) ha
   rw[ng_none.mpr h] at this;exact nn this
theorem Zxo {e:aq}{a:Ex}(h:PE K A env c cl e a):PI K A env c cl e (.ex a):=by
 intro Z U src U' he J s hr fo
 skip
 refine Ye (he) λx U1 h1 he=>?_
 refine ak (h Z U x U1 h1 J s hr fo) (λcx s1 hq=>?_) λu_ v_ f=>f
 revert hq;refine rEA λJ1 g1 rx=>?_
 obtain e1:U'=U1:=by
  cases x <;> simp at he
  .exact he.2.symm
  .split at he
   .refine okE he ?_;rfl
   .exact nn he
  .exact he.2.symm
 subst e1
 refine Zrv (x:=x) (src:=src) ?_ g1.hr rx λh' k g ok hk=>⟨J1,_,k,rfl,g1.trans g,ok,hk,g1.back (get?_size _)⟩
 cases x <;> exact he
theorem Zvg:PF K A env c cl [] .nil:=by
 intro Z U b U' he J s hr fo
 refine okE he ?_
 exact wpAny_tests_nil ⟨J,Good.refl hr,rfl⟩
theorem Zo4 (es:List aq)(hr:HR K J U s.heap) :
  TR K A (forIn es F0 λc r=>if r=T1 then do let ok ← isTrue c env (eval c env);pure (ForInStep.yield ok) else pure (ForInStep.yield r)) J s U λu_ r v_=>r=F0:=by
 induction es with
 | nil=>exact TR.pure hr rfl
 | cons e es ih=>rw[Kq];simp only[Bu,if_false,pure_bind];exact ih
set_option tactic.hygienic true in
theorem Zry {e:aq}{es:List aq}{a:Ex}{as:Es}(h:PT K A env c cl e a)(h':PF K A env c cl es as):PF K A env c cl (e::es) (.cons a as):=by
 intro Z U b U' he J s hr fo
 skip
 refine Ye (he) λv U1 h1 he=>?_
 rw[Kq]
 simp only[if_true,bind_assoc,pure_bind]
 split at he
 .rename_i hv
  refine TR.bind (h Z U v U1 T1 h1 hv J s hr fo) λJ1 q s1 g1 e=>?_
  subst e
  exact h' Z U1 b U' he J1 s1 g1.hr (fo.step hr g1.st)
 .rename_i hv
  cases he
  refine TR.bind (h Z U v U' F0 h1 hv J s hr fo) λJ1 q s1 g1 e=>?_
  subst e
  exact Zo4 es g1.hr
 .exact nn he
noncomputable def Wv (env:Env):List (Str×av)->List (Str×am)->List (Str×am)
 | [],acc=>acc
 | (n,k)::r,acc=>Wv env r (if k == .free then (n,(env.cells.lookup n).getD 0)::acc else acc)
theorem Zgf (env:Env)(sc:bh)(h:∀n,(n,av.free)∈sc.names->(env.cells.lookup n).isSome=T1):closureFor sc env=pure (Wv env sc.names []):=by
 obtain key : ∀ (l : List (Str × av)) (acc : List (Str × am)), (∀ n, (n, av.free) ∈ l -> (env.cells.lookup n).isSome = T1) ->
   (forIn l acc λx cs=>if x.2 == av.free then do let a ← cellOf env x.1;pure (ForInStep.yield ((x.1,a)::cs)) else pure (ForInStep.yield cs):Sem (List (Str×am)))=pure (Wv env l acc):=by
  intro l
  induction l with
  | nil=>intro acc _;rfl
  | cons p l ih=>
   intro acc hp
   refine byC λXX=>?_;obtain ⟨n,k⟩:=p;apply XX
   rw[Kq]
   simp only[Wv]
   by_cases hk:k=.free
   .subst hk
    refine rE (λa ha=>?_) (Option.isSome_iff_exists.mp (hp n Bf))
    obtain hc:cellOf env n=pure a:=by unfold cellOf;rw[ha]
    simp only[beq_self_eq_true,if_true,hc,pure_bind,ha,Option.getD_some]
    exact ih _ λm hm=>hp m (Bb _ hm)
   .obtain hb:(k == av.free)=F0:=by simpa using hk
    simp only[hb,Bu,if_false,pure_bind]
    exact ih _ λm hm=>hp m (Bb _ hm)
 have:=key sc.names [] h
 unfold closureFor
 simp only[bind_pure]
 rw[← this]
set_option tactic.hygienic true in
theorem Zb6 {x:Str}{a:am}:∀{l:List (Str×av)}{acc:List (Str×am)},(x,a)∈Wv env l acc->(x,a)∈acc\/((x,av.free)∈l/\a=(env.cells.lookup x).getD 0)
 | [],acc,h=>.inl h
 | (n,k)::r,acc,h=>by
  rcases Zb6 (l:=r) h with h | h
  .split at h
   .rename_i hk
    rcases Be.mp h with e | h
    .refine rA (λhO0 hO1=>?_) (Ik.inj e);refine eqS hO0 ?_;refine eqS hO1 ?_;right;exact ⟨by rw[← beq_iff_eq.mp hk];exact Bf,rfl⟩
    .exact .inl h
   .exact .inl h
  .exact .inr ⟨Bb _ h.1,h.2⟩
theorem Zby {x:Str}:∀{l:List (Str×av)}{acc:List (Str×am)},((x,av.free)∈l\/acc.lookup x=S5 ((env.cells.lookup x).getD 0))->(Wv env l acc).lookup x=S5 ((env.cells.lookup x).getD 0)
 | [],acc,h=>by
  rcases h with h | h
  .cases h
  .exact h
 | (n,k)::r,acc,h=>by
  simp only[Wv]
  apply Zby (l:=r)
  by_cases hr:(x,av.free)∈r
  .exact .inl hr
  .right
   by_cases hk:k=.free
   .subst hk
    simp only[beq_self_eq_true,if_true,Gb]
    cases hx:x == n with
    | true=>simp only;rw[beq_iff_eq.mp hx]
    | false=>
     simp only
     rcases h with h | h
     .rcases Be.mp h with e | h
      .cases e;simp at hx
      .exact absurd h hr
     .exact h
   .have hb:(k == av.free)=F0:=by simpa using hk
    simp only[hb,Bu,if_false]
    rcases h with h | h
    .rcases Be.mp h with e | h
     .refine byC λXX=>?_;refine rA (λhO0 hO1=>?_) (Ik.inj e);subst hO0;subst hO1;apply XX;exact absurd rfl hk
     .exact absurd h hr
    .exact h
theorem Un {α:Type}:∀{l:List (Str×α)}{x:Str}{a:α},(l.map (·.1)).Nodup->(x,a)∈l->l.lookup x=S5 a
 | (n,b)::r,x,a,hn,h=>by
  rw[Gb]
  rcases Be.mp h with e | h'
  .refine piE e ?_;simp
  .have hne : x ≠ n := by
    intro e
    rw[Bz,Go] at hn
    exact hn.1 (C0.mpr ⟨_,h',e⟩)
   have:(x == n)=F0:=by simpa using hne
   rw[this]
   rw[Bz,Go] at hn
   exact Un hn.2 h'
structure CompOK (c:CEnv)(sc:bh):Prop where
 kind:sc.kind=.function
 nd:(sc.names.map (·.1)).Nodup
 nocell:∀p∈sc.names,p.2≠.cell
 frees:∀n,(n,av.free)∈sc.names->c.names.lookup n=S5 .cell
theorem Znh {sc:bh}(h:Zhn c sc=T1):CompOK c sc:=by
 simp only[Zhn,Bs,decide_eq_true_eq,Cq,beq_iff_eq] at h
 revert h;refine rA λhO0 h3=>?_;revert hO0;refine rA λhO0 h2=>?_;obtain ⟨⟨h1,_⟩,_⟩:=hO0
 refine ⟨h1,h2,λp hp e=>?_,λn hn=>?_⟩
 .have:=(h3 p hp).1;rw[e] at this;simp at this
 .have:=(h3 _ hn).2;simpa using this
set_option tactic.hygienic true in
theorem Zgg {sc:bh}(ok:CompOK c sc){x:Str}{k:av}(h:(x,k)∈Jr c sc):(k=.cell/\(x,av.free)∈sc.names)\/(k≠.cell/\(x,k)∈sc.names):=by
 unfold Jr at h
 refine rEA (λhO0 h1 h2=>?_) (C0.mp h);obtain ⟨n,k'⟩:=hO0
 simp only at h2
 split at h2
 .rename_i hc
  simp only[Bs,beq_iff_eq] at hc
  refine piE h2 ?_
  exact .inl ⟨rfl,hc.1▸h1⟩
 .refine piE h2 ?_
  exact .inr ⟨ok.nocell _ h1,h1⟩
theorem Ze8 (sc:bh):(Jr c sc).map (·.1)=sc.names.map (·.1):=by
 unfold Jr
 rw[Cx]
 apply Cz
 intro hR0 _
 refine byC λXX=>?_;obtain ⟨n,k⟩:=hR0;apply XX
 simp only[Function.comp]
 split <;> rfl
theorem Zk1 {x:Str}{i:Nat}{n0:Nat}{l:List (Str×av)}(h:(x,i)∈l.zipIdx.map λp=>(p.1.1,n0+p.2)):∃j k,i=n0+j/\j<l.length/\l[j]?=S5 (x,k):=by
 refine rEA (λhO0 h1 h2=>?_) (C0.mp h);obtain ⟨hO0,j⟩:=hO0;obtain ⟨n,k⟩:=hO0
 refine piE h2 ?_
 refine rA (λh3 h4=>?_) (Lq h1)
 exact ⟨j,k,rfl,h3,by rw[Bl h3,← h4]⟩
set_option tactic.hygienic true in
theorem U7 {sc:bh}{x:Str}{i:Nat}(h:(Zdg c sc).lookup x=S5 i) :
  (∃j,i=c.next+j/\j<(sc.names.filter λp=>p.2 == .local).length/\(sc.names.filter λp=>p.2 == .local)[j]?=S5 (x,.local))\/((x,av.free)∈sc.names/\c.slots.lookup x=S5 i):=by
 obtain hm:=mem_of_lookup h
 unfold Zdg at hm
 rcases Bm.mp hm with hm | hm
 .refine Yn (λj k hO2 h1 h2=>?_) (Zk1 hm);refine eqS hO2 ?_
  left
  obtain hk:k=.local:=by
   have:=Cr.mp (Bw h2)
   simpa using this.2
  subst hk
  exact ⟨j,rfl,h1,h2⟩
 .right
  refine rEA (λhO0 h1 h2=>?_) (Gr.mp hm);obtain ⟨n,k⟩:=hO0
  simp only at h2
  split at h2
  .rename_i hc
   simp only[Bs,beq_iff_eq] at hc
   refine Wb (h2) λj hj e=>?_
   refine piE e ?_
   exact ⟨hc.1▸h1,hj⟩
  .exact nn h2
end
section
namespace gv
def Sq_ (K:Kx)(A:aj)(env:Env)(c:CEnv)(Ze:L)(Je:List am)(sc:bh)(C:am)(he:au):Prop:=∀(fo:FO K A env c Ze Je he) (ok:CompOK c sc) (hC:he.Ns C λu_=>N0) (hCJ:C ∉ Je) (hC0:K.h0.get? C=N0) (hCn:∀x a,(x,a)∈env.cells->a≠C),FO K A (compEnvC sc (Wv env sc.names []) C env) (Js c sc) Ze Je he
def pq_:=Wo ⟨(dKx,{},default,Zdz,[],[],default,0,default)⟩ (uc9 Sq_)
def K:=pq_.1
def A:=pq_.2.1
def env:=pq_.2.2.1
def c:=pq_.2.2.2.1
def Ze:=(sk4 pq_).1
def Je:=(sk4 pq_).2.1
def sc:=(sk4 pq_).2.2.1
def C:=(sk4 pq_).2.2.2.1
def he:=sk8 pq_
set_option tactic.hygienic true in
theorem pfq_:Sq_ K A env c Ze Je sc C he:=by
 intro fo ok hC hCJ hC0 hCn
 have hnames:(relabel sc env).names=Jr c sc:=by
  unfold relabel Jr
  apply Cz
  intro hR0 u_
  refine byC λXX=>?_;obtain ⟨n,k⟩:=hR0;apply XX;clear XX
  simp only[fo.kind,show env.kindOf n=c.names.lookup n from by unfold Env.kindOf;rw[fo.names],beq_self_eq_true,Mi]
 have hmem:∀x a,(x,a)∈Wv env sc.names []->(x,av.free)∈sc.names/\env.cells.lookup x=S5 a:=by
  intro x a hm
  rcases Zb6 hm with he | ⟨h1,h2⟩
  .cases he
  .refine Ug (λa' u1_ h3 u3_=>?_) (fo.cell x (ok.frees x h1))
   rw[h3] at h2;simp at h2
   exact ⟨h1,by rw[h2];exact h3⟩
 refine ⟨ok.kind,hnames,fo.glob,fo.blts,⟨_,hC,λx i v h1 h2 h3=>?_⟩,λx hx=>?_,λx y i h1 h2=>?_,λx y a h1 h2=>?_,⟨hCJ,hC0⟩,λi v hi=>?_,λx i hx=>?_,fo.ff,λx a hx=>?_⟩
 .exfalso
  rcases U7 h2 with ⟨j,rfl,_,_⟩ | ⟨hf,_⟩
  .exact fo.free _ v (by exact Nb 0x160501c1 Tt) h3
  .have hc : (x, av.cell) ∈ Jr c sc := by
    unfold Jr
    refine C0.mpr ⟨_,hf,?_⟩
    simp[ok.frees x hf]
   have:=Un (by rw[Ze8];exact ok.nd) hc
   have h1':(Jr c sc).lookup x=S5 .local:=h1
   rw[this] at h1';cases h1'
 .have hx':(Jr c sc).lookup x=S5 .cell:=hx
  rcases Zgg ok (mem_of_lookup hx') with ⟨_,hf⟩ | ⟨hne,_⟩
  .refine Yn (λa o h1 h2 h3=>?_) (fo.cell x (ok.frees x hf))
   refine ⟨a,o,?_,h2,λi v g1 g2=>?_⟩
   .have:=Zby (env:=env) (acc:=[]) (.inl hf)
    rw[h1] at this;exact this
   .rcases U7 g1 with ⟨j,rfl,_,g3⟩ | ⟨_,g3⟩
    .exact absurd g2 (fo.free _ v (by exact Nb 0x160501c1 Tt))
    .exact h3 i v g3 g2
  .exact absurd rfl hne
 .rcases U7 h1 with ⟨j,rfl,b1,g1⟩ | ⟨f1,g1⟩ <;> rcases U7 h2 with ⟨j',e',b2,g2⟩ | ⟨f2,g2⟩
  .have:j=j':=Nc 0x18018520521cba101a11 Tt e'
   subst this
   rw[g1] at g2;cases g2;rfl
  .have:=fo.lt _ _ g2;lia
  .have:=fo.lt _ _ g1;lia
  .exact fo.inj x y i g1 g2
 .exact fo.capart x y a (mem_of_lookup (hmem x a h1).2) (mem_of_lookup (hmem y a h2).2)
 .have:c.next<=i:=by have hi':c.next+(sc.names.filter λp=>p.2 == .local).length<=i:=hi;exact Nc 0x160165021c11 Tt hi'
  exact fo.free i v this
 .show i<c.next+(sc.names.filter λp=>p.2 == .local).length
  rcases U7 hx with ⟨j,rfl,b1,_⟩ | ⟨_,g1⟩
  .exact Nc 0x17501502712c11 Tt b1
  .have:=fo.lt _ _ g1;exact Nc 0x170512701c11 Tt this
 .have hl:=(hmem x a hx).2
  refine X0 (λg1 g2 u2_ g4=>?_) (fo.cnew x a (mem_of_lookup hl))
  exact ⟨g1,g2,hCn x a (mem_of_lookup hl),g4⟩
end gv
theorem Zrz {K:Kx}{A:aj}{env:Env}{c:CEnv}{sc:bh}{C:am}:gv.Sq_ K A env c Z J sc C h:=Yi (S:=uc9 gv.Sq_) gv.pfq_ (K,A,env,c,Z,J,sc,C,h)
end
section
variable {K:Kx}{A:aj}{env:Env}{c:CEnv}{cl:Cl}{T:Tabs}
end
section
variable {K:Kx}{A:aj}{env:Env}{c:CEnv}{cl:Cl}{T:Tabs}
theorem Za6 {cvs ws:List aa}{m:Nat}(h:S5 (Yd cvs m)=S5 (Z6 ws)):False:=by
 obtain h1:=congrArg (λo=>o.map Obj.cls) h
 exact absurd (B0.inj h1) (show ¬ aa.type "list"=aa.type "tuple" by decide)
theorem ex3 {I D C:am}(h1:∃o,h.get? I=S5 o)(h2:∃o,h.get? D=S5 o)(h3:∃o,h.get? C=S5 o):∀b∈[I,D,C],∃o,h.get? b=S5 o:=by
 intro b hb
 rcases Be.mp hb with rfl | hb
 .exact h1
 .rcases Be.mp hb with rfl | hb
  .exact h2
  .rw[Bo.mp hb];exact h3
theorem FO.exC {C:am}(fo:FO K A env c Z J h)(hC:env.locals=C):∃o,h.get? C=S5 o:=by
 refine rEA (λm' hn' u2_=>?_) fo.ns
 rw[hC] at hn';exact Ns.ex hn'
theorem FO.butF {I:am}(fo:FO K A env c Z J h)(hI:I≠env.locals)(hIc:∀x a,(x,a)∈env.cells->a≠I)(hnt:∀vs,h.get? I≠S5 (Z6 vs))(hff:FF K A J h')(hk:∀b o,b≠I->h.get? b=S5 o->h'.get? b=S5 o):FO K A env c Z J h':=by
 refine ⟨fo.kind,fo.names,fo.glob,fo.blts,?_,λx hx=>?_,fo.inj,fo.capart,fo.lnew,fo.free,fo.lt,hff,λx a hx=>?_⟩
 .refine rEA (λm hn hm=>?_) fo.ns
  exact ⟨m,Ns.at hn λo e=>hk _ _ (λe'=>hI e'.symm) e,λx i v h1 h2 h3=>let ⟨cv,g1,g2⟩:=hm x i v h1 h2 h3;⟨cv,g1,g2.but hnt hk⟩⟩
 .refine Yn (λa o g1 g2 g3=>?_) (fo.cell x hx)
  exact ⟨a,o,g1,IsCell.at g2 λo e=>hk _ _ (hIc x a (mem_of_lookup g1)) e,λi v h1 h2=>let ⟨cv,e1,e2⟩:=g3 i v h1 h2;⟨cv,e1,e2.but hnt hk⟩⟩
 .refine Zay (λg1 g2 g3 o g4 g5=>?_) (fo.cnew x a hx)
  exact ⟨g1,g2,g3,o,hk _ _ (hIc x a hx) g4,g5⟩
theorem FO.but {I:am}(fo:FO K A env c Z J h)(hI:I≠env.locals)(hIc:∀x a,(x,a)∈env.cells->a≠I)(hnt:∀vs,h.get? I≠S5 (Z6 vs))(hnd:∀o,h.get? I=S5 o->¬ dy o)(hk:∀b o,b≠I->h.get? b=S5 o->h'.get? b=S5 o):FO K A env c Z J h' :=
 fo.butF hI hIc hnt (fo.ff.but (λb hb o e=>hk b o hb e) hnd) hk
theorem StepX.weaken {X Y:List am}(x:StepX X J s J' s')(h:∀a∈X,a∈Y):StepX Y J s J' s':=⟨x.pre,λb o e h1 h2=>x.fr b o e h1 λh3=>h2 (h b h3),x.fresh,x.gens,x.os⟩
theorem StepX.one {I:am}{t:Nat}(hk:∀b o,b≠I->s.heap.get? b=S5 o->h'.get? b=S5 o):StepX [I] J s J { s with heap:=h',toks:=t } :=
 ⟨Bt _,λb o e u_ hb=>Wt (λo e=>hk b o (λe'=>hb (by rw[e'];exact Bf)) e) e,λu_ h=>.inl h,rfl,rfl⟩
structure CInv (K:Kx)(A:aj)(cenv:Env)(c':CEnv)(src:Src)(k:ItK)(body:L->H->X (Option V))(tg:Nat)(vs:List V)(U2:H)(J2:List am)(s4:ae)(I D C:am)(i:Nat)(s:ae)(J':List am)(U':H)(acc:List V)(Z':L)
  (cacc:List aa) (m:Nat):Prop where
 run:Zbw body tg src.keep (src.vs.drop i) acc Z' U'=S5 (.ok vs,U2)
 hr:HR K J' U' s.heap
 st:StepX [I,D,C] J2 s4 J' s
 it:ItOK K J' I i s.heap src k
 keep:src.keep U'
 d:s.heap.get? D=S5 (Yd cacc m)
 rv:RVs K J' s.heap acc cacc
 len:acc.length<=Zo
 off:D ∉ J'
 fo:FO K A cenv c' Z' J' s.heap
 le:i<=src.vs.length
theorem Zni {body:L->H->X (Option V)}{tg:Nat}{keep:H->Prop}{acc:List V}{vs:List V}{U2:H}(h:Zbw body tg keep [] acc Z U=S5 (.ok vs,U2)):vs=acc/\U2=U:=by
 refine okE h ?_;exact ⟨rfl,rfl⟩
theorem Zk2 {body:L->H->X (Option V)}{tg:Nat}{keep:H->Prop}{v:V}{r acc:List V}{vs:List V}{U2:H}(h:Zbw body tg keep (v::r) acc Z U=S5 (.ok vs,U2)) :
  ∃Z1 y U1,Qn Z tg v=S5 Z1/\body Z1 U=S5 (.ok y,U1)/\keep U1/\acc.length<Zo/\Zbw body tg keep r (acc++y.toList) Z1 U1=S5 (.ok vs,U2):=by
 refine Zy ((show (Qn Z tg v).bind _=_ from h)) λZ1 h1 h=>?_
 refine Ye (h) λy U1 h2 h=>?_
 refine Zl4 (h) λh3 h4=>?_
 exact ⟨Z1,y,U1,h1,h2,h3.1,h3.2,h4⟩
end
section
namespace gw
def Sq_ (K:Kx)(A:aj)(cl:Cl)(elt:aq)(Y4:aq)(x:Str)(px:Pos)(pos:Pos)(ifs:List aq)(sc:bh)(cenv:Env)(c':CEnv)(a:Ex)(fs:Es)(tg:Nat)(src:Src)(vs:List V)(U2:H)(J2:List am)(s4:ae)(I:am)(D:am)(RR:ae->Prop)(E':aa->ae->Prop):Prop:=∀{k:ItK} {C:am} (hh:A.handled=N0) (hx:Wm c' x=S5 tg) (hxl:c'.names.lookup x=S5 .local) (hcC:cenv.locals=C) (hID:I≠D) (hIC:I≠C) (hDC:D≠C) (hcells:∀y b,(y,b)∈cenv.cells->b≠I/\b≠D) (hD0:K.h0.get? D=N0) (hs4:∀b∈[I,D,C],∃o,s4.heap.get? b=S5 o) (he:PE K A cenv c' cl elt a) (hf:PF K A cenv c' cl ifs fs) (hend:∀s J' cacc m,HR K J' U2 s.heap->StepX [I,D,C] J2 s4 J' s->s.heap.get? D=S5 (Yd cacc m)->RVs K J' s.heap vs cacc->vs.length<=Zo->D ∉ J'->(∃m',s.heap.Ns C m')->RR s),∀(i:Nat) (s:ae) (J':List am) (U':H) (acc:List V) (Z':L) (cacc:List aa) (m:Nat),
      CInv K A cenv c' src k (λZ' U'=>bok (Jo cl fs Z' U') λb U2=>if b then bok (Zg cl a Z' U2) λv U3=>S5 (.ok (S5 v),U3) else S5 (.ok .none,U2)) tg vs U2 J2 s4 I D C i s J' U' acc Z' cacc m->
      codeAny K.M A (.compLoop (.ListComp elt [⟨.Name x px,Y4,ifs,0⟩] sc pos) 0 (.ref I) (.ref D) cenv) (λr s'=>match r with | .ok f=>f=.next/\RR s' | .error e=>E' e s') s
def pq_:=Wo ⟨(dKx,{},dCl,default,default,default,default,default,[],default,default,Zdz,(.lit .none),.nil,0,Zy5,[],[],[],{},0,0,(λu_=>True),(λu_ v_=>True))⟩ (Zxf Sq_)
def K:=pq_.1
def A:=pq_.2.1
def cl:=pq_.2.2.1
def elt:=pq_.2.2.2.1
def Y4:=(sk4 pq_).1
def x:=(sk4 pq_).2.1
def px:=(sk4 pq_).2.2.1
def pos:=(sk4 pq_).2.2.2.1
def ifs:=(sk8 pq_).1
def sc:=(sk8 pq_).2.1
def cenv:=(sk8 pq_).2.2.1
def c':=(sk8 pq_).2.2.2.1
def a:=(sk4 (sk8 pq_)).1
def fs:=(sk4 (sk8 pq_)).2.1
def tg:=(sk4 (sk8 pq_)).2.2.1
def src:=(sk4 (sk8 pq_)).2.2.2.1
def vs:=(X9 pq_).1
def U2:=(X9 pq_).2.1
def J2:=(X9 pq_).2.2.1
def s4:=(X9 pq_).2.2.2.1
def I:=(sk4 (X9 pq_)).1
def D:=(sk4 (X9 pq_)).2.1
def RR:=(sk4 (X9 pq_)).2.2.1
def E':=(sk4 (X9 pq_)).2.2.2
theorem pfq_:Sq_ K A cl elt Y4 x px pos ifs sc cenv c' a fs tg src vs U2 J2 s4 I D RR E':=by
 intro k C hh hx hxl hcC hID hIC hDC hcells hD0 hs4 he hf hend
 intro i s J' U' acc Z' cacc m inv
 refine codeAny_compLoop_tests (λn s=>∃i J' U' acc Z' cacc m,n=src.vs.length-i/\CInv K A cenv c' src k _ tg vs U2 J2 s4 I D C i s J' U' acc Z' cacc m) (λn s hI=>?_) _ ⟨i,J',U',acc,Z',cacc,m,rfl,inv⟩
 clear inv i J' U' acc Z' cacc m
 revert hI;refine Zgk λi J' U' acc Z' cacc m hn inv=>?_
 have hDnt:∀ws,s.heap.get? D≠S5 (Z6 ws):=by intro ws e;rw[inv.d] at e;exact Za6 e
 rcases Dc i src.vs.length with hi | hi
 ·-- one more
  have hdrop:src.vs.drop i=src.vs[i]::src.vs.drop (i+1):=Ci hi
  have hrun:=inv.run
  rw[hdrop] at hrun
  refine Zir (λZ1 y Ub hset hbody hkb hlen hrun=>?_) (Zk2 hrun)
  refine Zmd hh inv.it inv.hr inv.keep (v:=src.vs[i]) (Bl hi) λcv h1 tk1 hk1 hr1 rv1 it1=>?_
  have hInt:=inv.it.not_tup
  have foA:FO K A cenv c' Z' J' h1:=inv.fo.but (by rw[hcC];exact hIC) (λy b hy=>(hcells y b hy).1) hInt (λo e=>inv.it.st.nf e) hk1
  have dA:h1.get? D=S5 (Yd cacc m):=hk1 _ _ (λe=>hID e.symm) inv.d
  have rvA:RVs K J' h1 acc cacc:=inv.rv.but hInt hk1
  have hex:∀b∈[I,D,C],∃o,s.heap.get? b=S5 o:=ex3 (ItOK.ex0 inv.it) ⟨_,inv.d⟩ (inv.fo.exC hcC)
  have stA:StepX [I,D,C] J2 s4 J' { s with heap:=h1,toks:=tk1 }:=inv.st.trans ((StepX.one hk1).weaken (by simp)) hex
  refine bk (Jw (s:={ s with heap:=h1,toks:=tk1 }) foA hr1 hx hset rv1 λsB b hb hrB stB foB=>?_)
  have hbC:b=C:=by
   rcases hb with h | ⟨h,_⟩
   .rw[h,hcC]
   .rw[hxl] at h;cases h
  subst hbC
  refine rEA (λmC hnC u2_=>?_) foA.ns
  rw[hcC] at hnC
  have hCnt:=Ns.not_tup hnC
  have hkB:∀z o,z≠b->h1.get? z=S5 o->z ∉ J'->¬ dy o->sB.heap.get? z=S5 o:=λz o hz e hzr hc=>stB.ex (s:={ s with heap:=h1,toks:=tk1 }) e hzr (by simpa using hz) hc
  have tupB:∀z ws,h1.get? z=S5 (Z6 ws)->sB.heap.get? z=S5 (Z6 ws):=λz ws e=>hkB z _ (by rintro rfl;exact hCnt _ e) e (λhz=>by
   refine rEA (λob e' hc=>?_) (hr1.at_ hz);rw[e] at e';obtain rfl:=B0.inj e';exact hc _ rfl) nfT
  have dB:sB.heap.get? D=S5 (Yd cacc m):=hkB D _ hDC dA inv.off nfL
  have rvB:RVs K J' sB.heap acc cacc:=rvA.mono (Bt _) tupB
  have itB:ItOK K J' I (i+1) sB.heap src k:=it1.move (Bt _) (λo e=>hkB I o hIC e it1.off (it1.st.nf e)) tupB it1.off
  have hexA:∀z∈[I,D,b],∃o,h1.get? z=S5 o:=ex3 (ItOK.ex0 it1) ⟨_,dA⟩ (Ns.ex hnC)
  have stB':StepX [I,D,b] J2 s4 J' sB:=stA.trans (stB.weaken (by simp)) hexA
  have hexB:∀z∈[I,D,b],∃o,sB.heap.get? z=S5 o:=ex3 (ItOK.ex0 itB) ⟨_,dB⟩ (foB.exC hcC)
  refine Ye (hbody) λbb Ut ht hbody=>?_
  refine ak (hf Z1 U' bb Ut ht J' sB hrB foB) (λq sC hq=>?_) λu_ v_ f=>f.elim
  refine byC λXX=>?_;revert hq;refine rEA λJ1 gC hO2=>?_;subst hO2;apply XX
  have foC:=foB.step hrB gC.st
  have dC:sC.heap.get? D=S5 (Yd cacc m):=gC.st.ex dB inv.off nfL
  have offC:D ∉ J1:=λhm=>by
   rcases gC.st.fresh D hm with h | h
   .exact inv.off h
   .rw[dB] at h;exact ns h
  have stC:StepX [I,D,b] J2 s4 J1 sC:=stB'.trans (gC.st.toX _) hexB
  cases q with
  | false=>
   simp only[Bu,if_false] at hbody ⊢
   refine byC λXX=>?_;refine rA (λhO0 hO1=>?_) (okJ hbody);subst hO0;subst hO1;apply XX
   rw[show acc++(N0:Option V).toList=acc from Cn _] at hrun
   refine ⟨src.vs.length-(i+1),by exact Ni 0x1701812734c243c0453acbba101000101a101100101ba00011a00011 Tt hn hi (Zc _ _) (Zc _ _),i+1,J1,_,acc,Z1,cacc,m,rfl,⟨hrun,gC.hr,stC,itB.step hrB gC.st,hkb,dC,rvB.step hrB gC.st,inv.len,offC,foC,hi⟩⟩
  | true=>
   simp only[if_true] at hbody ⊢
   refine Ye (hbody) λw Ue hw hbody=>?_
   refine byC λXX=>?_;refine rA (λhO0 hO1=>?_) (okJ hbody);subst hO0;subst hO1;apply XX
   refine ak (he Z1 Ut w _ hw J1 sC gC.hr foC) (λcw sD hq=>?_) λu_ v_ f=>f.elim
   revert hq;refine rEA λJd gD rw'=>?_
   have foD:=foC.step gC.hr gD.st
   have dD:sD.heap.get? D=S5 (Yd cacc m):=gD.st.ex dC offC nfL
   have offD:D ∉ Jd:=λhm=>by
    rcases gD.st.fresh D hm with h | h
    .exact offC h
    .rw[dC] at h;exact ns h
   have hexC:∀z∈[I,D,b],∃o,sC.heap.get? z=S5 o:=ex3 (ItOK.ex0 (itB.step hrB gC.st)) ⟨_,dC⟩ (foC.exC hcC)
   have stD:StepX [I,D,b] J2 s4 Jd sD:=stC.trans (gD.st.toX _) hexC
   have itD:=(itB.step hrB gC.st).step gC.hr gD.st
   have rvD:=(rvB.step hrB gC.st).step gC.hr gD.st
   refine dk (items:=cacc.toArray) ⟨m,dD⟩ (λh' hp hs'=>?_) (by have:=Wu inv.rv inv.len;simpa using this)
   revert hp;refine rE λm2 hp=>?_
   have hkE:∀z o,z≠D->sD.heap.get? z=S5 o->h'.get? z=S5 o:=λz o hz e=>(hs'.2 z hz).trans e
   have hDnt':∀ws,sD.heap.get? D≠S5 (Z6 ws):=by intro ws e;rw[dD] at e;exact Za6 e
   have hexD:∀z∈[I,D,b],∃o,sD.heap.get? z=S5 o:=ex3 (ItOK.ex0 itD) ⟨_,dD⟩ (foD.exC hcC)
   refine ⟨src.vs.length-(i+1),by exact Ni 0x1701812734c243c0453acbba101000101a101100101ba00011a00011 Tt hn hi (Zc _ _) (Zc _ _),i+1,Jd,_,acc++[w],Z1,cacc++[cw],m2,rfl,⟨hrun,gD.hr.but offD hD0 hDnt' hkE,stD.trans ((StepX.one hkE).weaken (by simp)) hexD,itD.but hDnt' hID hkE,hkb,?_,?_,?_,offD,?_,hi⟩⟩
   .rw[hp];simp
   .exact (rvD.but hDnt' hkE).append (.cons (rw'.but hDnt' hkE) .nil)
   .simp;exact Nb 0x1650a1701c11 Tt hlen
   .exact foD.but (by rw[hcC];exact hDC) (λy z hy=>(hcells y z hy).2) hDnt' (λo e=>by rw[dD] at e;refine siE e ?_;exact nfL) hkE
 ·-- the end
  have hii:i=src.vs.length:=by have:=inv.le;exact Nb 0x1801610601cba11a101 Tt hi this
  subst hii
  have hrun:=inv.run
  rw[List.drop_length] at hrun
  refine byC λXX=>?_;refine rA (λhO0 hO1=>?_) (Zni hrun);subst hO0;subst hO1;apply XX
  refine Zme hh inv.it inv.hr inv.keep rfl λh1 tk1 hk1 hr1=>?_
  have hInt:=inv.it.not_tup
  have hex:∀b∈[I,D,C],∃o,s.heap.get? b=S5 o:=ex3 (ItOK.ex0 inv.it) ⟨_,inv.d⟩ (inv.fo.exC hcC)
  refine ⟨rfl,hend { s with heap:=h1,toks:=tk1 } J' cacc m hr1 (inv.st.trans ((StepX.one hk1).weaken (by simp)) hex) (hk1 _ _ (λe=>hID e.symm) inv.d) (inv.rv.but hInt hk1) inv.len inv.off ?_⟩
  refine rEA (λm' hn' u2_=>?_) ((inv.fo.but (by rw[hcC];exact hIC) (λy b hy=>(hcells y b hy).1) hInt (λo e=>inv.it.st.nf e) hk1).ns)
  rw[hcC] at hn'
  exact ⟨m',hn'⟩
end gw
theorem Znj {K:Kx}{A:aj}{cl:Cl}{elt:aq}{Y4:aq}{x:Str}{px:Pos}{pos:Pos}{ifs:List aq}{sc:bh}{cenv:Env}{c':CEnv}{a:Ex}{fs:Es}{tg:Nat}{src:Src}{vs:List V}{U2:H}{J2:List am}{s4:ae}{I:am}{D:am}{RR:ae->Prop}{E':VSP}:gw.Sq_ K A cl elt Y4 x px pos ifs sc cenv c' a fs tg src vs U2 J2 s4 I D RR E':=Yi (S:=Zxf gw.Sq_) gw.pfq_ (K,A,cl,elt,Y4,x,px,pos,ifs,sc,cenv,c',a,fs,tg,src,vs,U2,J2,s4,I,D,RR,E')
end
section
variable {K:Kx}{A:aj}{env:Env}{c:CEnv}{cl:Cl}{T:Tabs}
end
section
variable {K:Kx}{A:aj}{env:Env}{c:CEnv}{cl:Cl}{T:Tabs}
structure CEnd (K:Kx)(J:List am)(s:ae)(U2:H)(vs:List V)(D C:am)(J':List am)(s':ae)(cacc:List aa)(m:Nat):Prop where
 hr:HR K J' U2 s'.heap
 st:Step J s J' s'
 d:s'.heap.get? D=S5 (Yd cacc m)
 rv:RVs K J' s'.heap vs cacc
 len:vs.length<=Zo
 off:D ∉ J'
 offC:C ∉ J'
 newD:s.heap.get? D=N0
 newC:s.heap.get? C=N0
 ne:D≠C
 d0:K.h0.get? D=N0
 c0:K.h0.get? C=N0
 ns:∃m',s'.heap.Ns C m'
set_option tactic.hygienic true in
theorem Zgo {elt Y4:aq}{x:Str}{px pos Zed:Pos}{ifs:List aq}{sc:bh}{a:Ex}{it:It}{fs:Es}{tg:Nat}(hh:A.handled=N0)(ok:CompOK c sc)(hs:∀v,foldedSetIterable Y4 env v=pure v)
  (hx:Wm (Js c sc) x=S5 tg) (hxl:(Js c sc).names.lookup x=S5 .local) (hI:PI K A env c cl Y4 it) (he:∀cenv,PE K A cenv (Js c sc) cl elt a) (hf:∀cenv,PF K A cenv (Js c sc) cl ifs fs)
  {Z:L}{U U1 U2:H}{src:Src}{vs:List V} (h1:Wq cl it Z U=S5 (.ok src,U1))
  (h2:Zbw (λZ' U'=>bok (Jo cl fs Z' U') λb U2=>if b then bok (Zg cl a Z' U2) λv U3=>S5 (.ok (S5 v),U3) else S5 (.ok .none,U2)) tg src.keep src.vs [] Z U1=S5 (.ok vs,U2))
  {J:List am}{s:ae} (hr:HR K J U s.heap) (fo:FO K A env c Z J s.heap) {use:Option (aa->Sem Unit)}{Q:VSP}{E:VSP}
  (hend:∀s' D C J' cacc m,CEnd K J s U2 vs D C J' s' cacc m->compPost K.M A E use Q (.ref D) C (.ok .next) s') :
  wpAny K.M A (comprehension (.ListComp elt [⟨.Name x px,Y4,ifs,0⟩] sc pos) sc env Zed (newList []) F0 (eval Y4 env) use) Q E s:=by
 have hclos:closureFor sc env=pure (Wv env sc.names []):=Zgf env sc λn hn=>by
  refine Ug (λb u1_ e u3_=>?_) (fo.cell n (ok.frees n hn));rw[e];rfl
 refine wpAny_comprehension_free (g:=⟨.Name x px,Y4,ifs,0⟩) (gs:=[]) rfl hs hclos ok.kind (λy hy hl=>Un ok.nd (by rw[← hl];exact hy)) ?_
 refine ak (hI Z U src U1 h1 J s hr fo) (λxv s1 hq=>ak hq (λitv s2 hq=>?_) λu_ v_ f=>f.elim) λu_ v_ f=>f.elim
 revert hq;refine Zir λJ2 I k hO3 g2 itok hkeep hInone=>?_;refine eqS hO3 ?_
 refine rEA (λoI eI u2_=>?_) itok.st.obj
 -- the list that is filled
 refine di ?_
 have fr2:=Zbl g2.hr
 refine wpAny_newFunctionEnv ok.nocell (by intro y hy;cases hy) (λh4 hns4 hsb4=>?_) ok.kind
 have hpD':({ s2 with heap:=s2.heap.push { cls:=.type "list",data:=.seq ([]:List aa).toArray } }:ae).heap.objs.size=s2.heap.objs.size + 1:=au.size_push ..
 rw[hpD'] at hns4 hsb4 ⊢
 obtain ⟨D,hD⟩ : ∃D:Nat,s2.heap.objs.size=D:=⟨_,rfl⟩
 obtain ⟨C,hC⟩ : ∃C:Nat,s2.heap.objs.size+1=C:=⟨_,rfl⟩
 rw[hC] at hns4 hsb4 ⊢
 rw[hD] at fr2 ⊢
 have hDC:D≠C:=Nc 0x19801820852a1c01011 Tt hD hC
 have hlt:∀{b:am}{o:Obj},s2.heap.get? b=S5 o->@LT.lt Nat _ b D/\@LT.lt Nat _ b C:=λ{b o} e=>by
  have h9 : @LT.lt Nat _ b s2.heap.objs.size:=au.lt_size e
  exact Nd 0x1f701702831853a2703cba110001a100101 Tt hD hC h9
 have hID:I≠D:=Ca (hlt eI).1
 have hIC:I≠C:=Ca (hlt eI).2
 have old:∀b o,s2.heap.get? b=S5 o->h4.get? b=S5 o:=by
  intro b o e
  exact (hsb4.2 b (Ca (hlt e).2)).trans (au.get?_push_of_some _ (au.get?_push_of_some _ e))
 have dD:h4.get? D=S5 (Yd [] 0):=by
  refine (hsb4.2 D hDC).trans (au.get?_push_of_some _ ?_)
  have:=au.get?_push_size s2.heap (o:=Yd [] 0) rfl
  rw[hD] at this;exact this
 have hnoneD:s2.heap.get? D=N0:=by rw[← hD];exact get?_size _
 have hnoneC:s2.heap.get? C=N0:=by
  cases e:s2.heap.get? C with
  | none=>rfl
  | some o=>exact absurd (hlt e).2 (Gm _)
 have hC0:K.h0.get? C=N0:=by
  cases e:K.h0.get? C with
  | none=>rfl
  | some o=>rw[g2.hr.keep _ _ e] at hnoneC;exact ns hnoneC
 have hCJ:C ∉ J2:=λhm=>by refine rEA (λob e u2_=>?_) (g2.hr.at_ hm);rw[hnoneC] at e;exact nn e
 have g4:Good K J2 s2 J2 U1 { s2 with heap:=h4,toks:=s2.toks+([]:List (Str×aa)).length }:=Good.grow g2.hr old _
 have fo2:=fo.step hr g2.st
 have fo4:=fo2.step g2.hr g4.st
 have hcn:∀y b,(y,b)∈env.cells->b≠I/\b≠D/\b≠C:=by
  intro y b hy
  refine Zay (λu0_ u1_ u2_ o e u5_=>?_) (fo.cnew y b hy)
  refine rEA (λo2 hb2 u2_=>?_) (Zac (g2.st.fr b _ (U6 e) (fo.cnew y b hy).1))
  refine ⟨?_,?_,?_⟩
  .rintro rfl;rw[hInone] at e;exact nn e
  .rintro rfl;rw[hnoneD] at hb2;exact nn hb2
  .rintro rfl;rw[hnoneC] at hb2;exact nn hb2
 have hnsC:h4.Ns C λu_=>N0:=hns4
 have foC:FO K A (compEnvC sc (Wv env sc.names []) C env) (Js c sc) Z J2 h4:=Zrz fo4 ok hnsC hCJ hC0 λy b hy=>(hcn y b hy).2.2
 have hcc:∀y b,(y,b)∈Wv env sc.names []->b≠I/\b≠D:=by
  intro y b hy
  rcases Zb6 hy with h | ⟨hf',hb⟩
  .cases h
  .refine Ug (λb' u1_ e u3_=>?_) (fo.cell y (ok.frees y hf'))
   rw[e] at hb;simp at hb;subst hb
   have:=hcn y b (mem_of_lookup e)
   exact ⟨this.1,this.2.1⟩
 have Zse : codeAny K.M A (.compLoop (.ListComp elt [⟨.Name x px, Y4, ifs, 0⟩] sc pos) 0 (.ref I) (.ref D) (compEnvC sc (Wv env sc.names []) C env)) (compPost K.M A E use Q (.ref D) C)
   { s2 with heap:=h4,toks:=s2.toks+([]:List (Str×aa)).length }:=by
  refine codeAny_mono (Znj (E':=λe s'=>compPost K.M A E use Q (.ref D) C (.error e) s') (RR:=λs'=>compPost K.M A E use Q (.ref D) C (.ok .next) s') (J2:=J2) (s4:={ s2 with heap:=h4,toks:=s2.toks+([]:List (Str×aa)).length }) (C:=C) (U2:=U2) (vs:=vs)
   hh hx hxl rfl hID hIC hDC hcc fr2.2 ?_ (he _) (hf _) (λs' J' cacc m e1 e2 e3 e4 e5 e6 e7=>?_) 0 _ J2 U1 [] Z [] 0
   ⟨h2,g4.hr,StepX.refl _ _ _,itok.step g2.hr g4.st,hkeep,dD,.nil,C9 _,fr2.1,foC,C9 _⟩) λr s' hq=>?_
  .intro b hb
   simp only[Be,Dg,or_false] at hb
   rcases hb with rfl | rfl | rfl
   .exact ⟨oI,old _ _ eI⟩
   .exact ⟨_,dD⟩
   .exact Ns.ex hnsC
  .refine hend s' D C J' cacc m ⟨e1,?_,e3,e4,e5,e6,λhm=>?_,g2.back hnoneD,g2.back hnoneC,hDC,fr2.2,hC0,e7⟩
   .have hid : ∀ z ∈ [I, D, C], s.heap.get? z = N0 := by
     intro z hz
     simp only[Be,Dg,or_false] at hz
     rcases hz with rfl | rfl | rfl
     .exact hInone
     .exact g2.back hnoneD
     .exact g2.back hnoneC
    have t1:=g2.st.trans g4.st
    refine ⟨t1.pre.trans e2.pre,λz o e hz=>?_,λz hz=>?_,e2.gens.trans t1.gens,e2.os.trans t1.os⟩
    .have hz4:=t1.fr z o e hz
     refine e2.fr z o hz4 (λh=>?_) λh=>?_
     .rcases t1.fresh z h with h | h
      .exact hz h
      .rw[ng_none.mpr h] at e;exact nn e
     .rw[ng_none.mpr (hid z h)] at e;exact nn e
    .rcases e2.fresh z hz with h | h
     .exact t1.fresh z h
     .by_cases hr':z∈J
      .exact .inl hr'
      .right
       cases hg:s.heap.get? z with
       | none=>rfl
       | some o=>have:=t1.fr z _ (U6 hg) hr';rw[ng_none.mpr h] at this;exact nn this
   .rcases e2.fresh C hm with h | h
    .exact hCJ h
    .refine rE (λo e=>?_) (Ns.ex hnsC);rw[e] at h;exact ns h
  .cases r with
   | ok f=>refine byC λXX=>?_;revert hq;refine rA λhO0 hq=>?_;subst hO0;apply XX;clear XX;exact hq
   | error e=>exact hq
 show codeAny K.M A (.compStart (.ListComp elt [⟨.Name x px,Y4,ifs,0⟩] sc pos) 0 (.ref I) (.ref D) (compEnvC sc (Wv env sc.names []) C env)) (compPost K.M A E use Q (.ref D) C) { s2 with heap:=h4,toks:=s2.toks+([]:List (Str×aa)).length }
 exact codeAny_compStart_list Zse (Zru hh (itok.step g2.hr g4.st) Zse)
theorem CEnd.done {U2:H}{vs:List V}{D C:am}{cacc:List aa}{m:Nat}(x:CEnd K J s U2 vs D C J' s' cacc m)(hs:au.SameBut C s'.heap h') :
  ∃J'',Good K J s J'' (U2++[.list vs]) { s' with heap:=h' }/\RV K J'' h' (.obj U2.length) (.ref D)/\C ∉ J'':=by
 refine rE (λm' hn=>?_) x.ns
 have hbut:∀b o,b≠C->s'.heap.get? b=S5 o->h'.get? b=S5 o:=λb o hb e=>(hs.2 b hb).trans e
 have hr1:HR K J' U2 h':=x.hr.but x.offC x.c0 (Ns.not_tup hn) hbut
 obtain hd:h'.get? D=S5 (Yd cacc m):=hbut _ _ x.ne x.d
 refine ⟨J'++[D],⟨⟨hr1.keep,by simp[hr1.len],?_,λb hb=>?_,λn o b g1 g2=>?_⟩,⟨x.st.pre.trans (C8 _ _),λb o e hb=>?_,λb hb=>?_,x.st.gens,x.st.os⟩⟩,.obj ?_,λhm=>?_⟩
 .rw[G3];exact ⟨hr1.nd,by simp,λb hb z hz e=>by simp at hz;exact x.off (hz▸e▸hb)⟩
 .rcases Bm.mp hb with h | h
  .exact hr1.new b h
  .rw[Bo.mp h];exact x.d0
 .by_cases hlt:n<U2.length
  .rw[Br hlt] at g1
   rw[Br (by rw[hr1.len];exact hlt)] at g2
   exact (hr1.obj n o b g1 g2).mono (C8 _ _) λu_ v_ e=>e
  .obtain hn':n=U2.length:=by have:=(Ba.mp g1).1;simp at this;exact Nb 0x180197017051acba11a101 Tt hlt this
   subst hn'
   rw[Bh (Bp _)] at g1
   rw[Bh (by rw[hr1.len];exact Bp _)] at g2
   simp[hr1.len] at g1 g2
   rw[← g1,← g2]
   exact ⟨cacc,m,hd,(x.rv.but (Ns.not_tup hn) hbut).mono (C8 _ _) (λu_ v_ e=>e),x.len⟩
 .have:=x.st.fr b o e hb
  exact Wt (λo h=>hbut b o (by rintro rfl;rw[ng_none.mpr x.newC] at e;exact nn e) h) this
 .rcases Bm.mp hb with h | h
  .exact x.st.fresh b h
  .rw[Bo.mp h];exact .inr x.newD
 .rw[Bh (by rw[hr1.len];exact Bp _),hr1.len];simp
 .rcases Bm.mp hm with h | h
  .exact x.offC h
  .exact x.ne (Bo.mp h).symm
theorem Zr0 {elt Y4:aq}{x:Str}{px pos:Pos}{ifs:List aq}{sc:bh}{a:Ex}{it:It}{fs:Es}{tg:Nat}(hh:A.handled=N0)(ok:CompOK c sc)(hs:∀v,foldedSetIterable Y4 env v=pure v)
  (hx:Wm (Js c sc) x=S5 tg) (hxl:(Js c sc).names.lookup x=S5 .local) (hI:PI K A env c cl Y4 it) (he:∀cenv,PE K A cenv (Js c sc) cl elt a) (hf:∀cenv,PF K A cenv (Js c sc) cl ifs fs) :
  PE K A env c cl (.ListComp elt [⟨.Name x px,Y4,ifs,0⟩] sc pos) (.comp a tg it fs):=by
 intro Z U v U' hev J s hr fo
 skip
 refine Ye (hev) λsrc U1 h1 hev=>?_
 refine Ye (hev) λvs U2 h2 hev=>?_
 refine okE hev ?_
 rw[eval_ListComp]
 refine Zgo hh ok hs hx hxl hI he hf h1 h2 hr fo λs' D C J' cacc m e=>?_
 refine ⟨_,e.ns.choose_spec,λh' hs'=>?_⟩
 refine Ud (λJ'' g r u3_=>?_) (e.done hs')
 exact ⟨J'',g,r⟩
end
def Zhu (K:Kx)(A:aj)(cl:Cl):Prop :=
 ∀f vs U v U',cl.call f vs U=S5 (.ok v,U')->∀J s cvs,HR K J U s.heap->RVs K J s.heap vs cvs->FF K A J s.heap->TR K A (call (.ref (K.fna f)) cvs) J s U' λJ' cv s'=>RV K J' s'.heap v cv
section
variable {K:Kx}{A:aj}{env:Env}{c:CEnv}{cl:Cl}{T:Tabs}
structure Plain (e:aq)(f:Nat):Prop where
 fold:∀env v,foldedSetIterable e env v=pure v
 mark:∀op,behindInMarks op e=F0
 star:∀env es,starEach (e::es) env=(F0,eval e env)::starEach es env
 sw:f≠1->∀t l env,swapsWith e t l env=pure F0
 base:f≠2->∀env name w,attributeBase e name env w=w
 sole:f=3->∀ts k px l env,swapsWithSole [.Tuple ts k px] e l env=pure F0/\swappedStores [.Tuple ts k px] e env=pure N0
def Zag (es:List aq):Prop:=∀env,starEach es env=es.map λe=>(F0,eval e env)
theorem Zcq:Zag []:=λu_=>rfl
theorem Xy {e:aq}{f:Nat}{es:List aq}(h:Plain e f)(k:Zag es):Zag (e::es):=λenv=>(h.star env es).trans (congrArg _ (k env))
theorem Y6 {es:List aq}(h:Zag es)(pos:Pos):backTo pos (starEach es env)=es.map λe=>(F0,eval e env):=by
 rw[h,backTo,Cx];rfl
theorem Xc {f:aa}{xs:List aq}{Q:Args->ae->Prop}{E:aa->ae->Prop}(h:wpAny K.M A (spliced (xs.map λe=>(F0,eval e env))) (λvs s'=>Q ⟨vs,[]⟩ s') E s) :
  wpAny K.M A (evalArgs f T1 (xs.map λe=>(F0,eval e env)) []) Q E s:=by
 cases xs with
 | nil=>
  unfold evalArgs
  show wpAny K.M A (spliced [] >>= _) Q E s
  refine af (ak h (λvs s' h'=>?_) λu_ v_ x=>x)
  refine ay ?_
  exact af (ar (af (ar (ar h'))))
 | cons x r=>exact Calls.evalArgs_plain h
theorem Znk (xs:List aq):(xs.map λe=>((F0,eval e env):Bool×Sem aa)).any (·.1)=F0:=by
 induction xs with
 | nil=>rfl
 | cons x r ih=>simp
theorem Uo {pos:Pos}{f:aa}(hf:keeperOf f=pure .machine){first:List aa}{xs:List aq}{Q:aa->ae->Prop}{E:aa->ae->Prop} 
  (h:wpAny K.M A (spliced (xs.map λe=>(F0,eval e env))) (λvs s₁=>wpAny K.M A (call f (first++vs) []) Q E s₁) E s):wpAny K.M A (callWith pos f first (xs.map λe=>(F0,eval e env)) []) Q E s:=by
 unfold callWith
 refine af (ay (Xc (ak h (λa s₁ h₁=>af (bp ?_)) λu_ v_ x=>x)))
 rw[Znk,List.any_nil,Bool.or_false,hf]
 exact af (ar (af (ak h₁ (λr s₂ hr=>af (ay (wpAny_point (ar hr)))) λu_ v_ x=>x)))
theorem Zvh (G:GK K T) (ty:TyOK K) {f:Str} {p pos:Pos} {es:List aq} {as:Es} {b:Blt} (hh:b≠.isinstance->b≠.int->A.handled=N0) (hsort:b=.sorted->∀(U U':H) (vs:List V) (v:V),Uh b vs U=S5 (v,U')->∀(J:List am) (s:ae) (cas:List aa),HR K J U s.heap->RVs K J s.heap vs cas ->
      TR K A (call (Zdh b) cas) J s U' λJ' cv s'=>RV K J' s'.heap v cv)
    (hg:Jk c f=T1) (hb:T.blts.lookup f=S5 b) (hc:Zag es) (h:PEs K A env c cl es as):PE K A env c cl (.Call (.Name f p) es [] pos) (.blt b as):=by
  intro Z U v U' he J s hr fo
  skip
  refine Ye (he) λvs U1 h1 he=>?_
  obtain he:=Zco he
  show TR K A (eval (.Name f p) env >>= λfv=>callWith pos fv [] (backTo pos (starEach es env)) []) J s U' _
  refine af (Wh hr fo hg (G.bl f b hb) ?_)
  rw[Y6 hc]
  refine Uo (by cases b <;> rfl) ?_
  obtain hp:=h pos Z U vs U1 h1 J s hr fo
  rw[Y6 hc] at hp
  refine ak hp (λcvs s1 hq=>?_) λu_ v_ f=>f
  revert hq;refine rEA λJ1 g1 rvs=>?_
  rw[M4]
  by_cases hbs:b=.sorted
  · exact TR.after g1 (hsort hbs U1 U' vs v he J1 s1 cvs g1.hr rvs)
  · exact TR.after g1 (Zng he hbs g1.hr rvs hh ty)
theorem Zo5 (hr:HR K J U s.heap){a b:Int}{t u v:Tok}{r:am}(hR:IsRange s.heap r a b 1 t u v)(ha : -Zo<=a/\a<=Zo)(hb : -Zo<=b/\b<=Zo){Q:aa->ae->Prop}{E:aa->ae->Prop}
  (hq:∀h',Good K J s J U { s with heap:=h' }->ItOK K J s.heap.objs.size 0 h' ⟨Zor a b,λu_=>True⟩ (.rng a (b-a).toNat)->Q (.ref s.heap.objs.size) { s with heap:=h' }):wpAny K.M A (pyIter (.ref r)) Q E s:=by
 refine rA (λf1 f2=>?_) (Zbl hr)
 unfold Zo at ha hb
 refine wpAny_pyIter_range hR ?_ (hq _ (Good.tmp hr _ _) ⟨?_,⟨rfl,rfl⟩,f1,f2⟩)
 .have fit : ∀ z : Int, -2000000 <= z -> z <= 2000000 -> bf.Range.rangeFitsLong z = T1 := by
   intro z h1 h2;unfold bf.Range.rangeFitsLong;simp;exact lz1 [(.zle (.g (.k 2000000)) .v0),(.zle .v0 (.k 2000000))] (.an (.zle (.g (.k 9223372036854775808)) .v0) (.zlt .v0 (.k 9223372036854775808))) (.s (.d 111) (.d 1101)) rfl h1 h2
  unfold bf.Range.small bf.Range.rangeSize
  simp only[Bs,Kr]
  obtain hz:bf.Range.rangeFitsLong (if (1:Int)>0 then (if a<b then (b-a-1) / 1+1 else 0) else (if a>b then (a-b-1) / (-1)+1 else 0))=T1:=by
   rw[gp (by decide)];split <;> exact fit _ (by lia) (by lia)
  refine ⟨⟨⟨⟨fit a (by exact lz1 [(.an (.zle (.g (.n (.k 1000000))) .v0) (.zle .v0 (.n (.k 1000000))))] (.zle (.g (.k 2000000)) .v0) (.d 111) rfl ha) (by exact lz1 [(.an (.zle (.g (.n (.k 1000000))) .v0) (.zle .v0 (.n (.k 1000000))))] (.zle .v0 (.k 2000000)) (.d 1101) rfl ha),fit b (by exact lz1 [(.an (.zle (.g (.n (.k 1000000))) .v0) (.zle .v0 (.n (.k 1000000))))] (.zle (.g (.k 2000000)) .v0) (.d 111) rfl hb) (by exact lz1 [(.an (.zle (.g (.n (.k 1000000))) .v0) (.zle .v0 (.n (.k 1000000))))] (.zle .v0 (.k 2000000)) (.d 1101) rfl hb)⟩,fit 1 (by exact lin [] (.zle (.g (.k 2000000)) .k1) (.d 11) rfl [] []) (by exact lin [] (.zle .k1 (.k 2000000)) (.d 11) rfl [] [])⟩,hz⟩,?_⟩
  right
  simp
  exact fit b (by exact lz1 [(.an (.zle (.g (.n (.k 1000000))) .v0) (.zle .v0 (.n (.k 1000000))))] (.zle (.g (.k 2000000)) .v0) (.d 111) rfl hb) (by exact lz1 [(.an (.zle (.g (.n (.k 1000000))) .v0) (.zle .v0 (.n (.k 1000000))))] (.zle .v0 (.k 2000000)) (.d 1101) rfl hb)
 .show f0 _ _ _ _ _
  obtain e:bf.Range.rangeSize a b 1=(((b-a).toNat:Nat):Int):=by
   unfold bf.Range.rangeSize;simp;lia
  have:=au.get?_push_size s.heap (o:={ cls:=.type "range_iterator",data:=.fields #[rawInt a,rawInt (bf.Range.rangeSize a b 1),rawInt 1] }) rfl
  rw[e] at this ⊢
  simpa[f0] using this
set_option tactic.hygienic true in
theorem Zr1 (G:GK K T){f:Str}{p pos:Pos}{es:List aq}{a:Ex}(hg:Jk c f=T1)(hf:(f == X2)=T1)(hc:Zag es)(h:PEs K A env c cl es (.cons a .nil)):PI K A env c cl (.Call (.Name f p) es [] pos) (.rng1 a):=by
 intro Z U src U' he J s hr fo
 skip
 refine Ye (he) λx U1 h1 he=>?_
 obtain rfl:=beq_iff_eq.mp hf
 show wpAny K.M A (eval (.Name X2 p) env >>= λfv=>callWith pos fv [] (backTo pos (starEach es env)) []) _ _ s
 refine af (Wh hr fo hg G.rg ?_)
 rw[Y6 hc]
 refine Uo rfl ?_
 have hp:=h pos Z U [x] U1 (by show bok (Zg cl _ Z U) _=_;rw[h1];rfl) J s hr fo
 rw[Y6 hc] at hp
 refine ak hp (λcvs s1 hq=>?_) λu_ v_ f=>f
 revert hq;refine rEA λJ1 g1 rvs=>?_
 cases x with
 | int b=>
  simp only at he
  split at he
  .rename_i hb
   refine okE he ?_
   refine Yn (λu0_ u1_ hO2 r0 rn=>?_) (rvs.consI);refine eqS hO2 ?_
   obtain rfl:=rn.nilI
   refine byC λXX=>?_;refine rE (λt hO1=>?_) (r0.intI rfl);subst hO1;apply XX;clear XX
   refine call_range_1 ?_
   have g2:=Good.tmp g1.hr { cls:=.type "range",data:=.fields #[.int 0 s1.toks,.int b t,.int 1 (s1.toks + 1)] } (s1.toks + 1 + 1)
   refine Zo5 g2.hr (au.get?_push_size _ rfl) (by unfold Zo;exact lin [] (.an (.zle (.g (.n (.k 1000000))) .k0) (.zle .k0 (.n (.k 1000000)))) (.s (.d 11) (.d 11)) rfl [] []) hb λh' g ok=>⟨J1,_,_,rfl,(g1.trans g2).trans g,ok,trivial,(g1.trans g2).back (get?_size _)⟩
  .exact nn he
 | _=>exact nn he
set_option tactic.hygienic true in
theorem Zr2 (G:GK K T){f:Str}{p pos:Pos}{es:List aq}{a a':Ex}(hg:Jk c f=T1)(hf:(f == X2)=T1)(hc:Zag es)(h:PEs K A env c cl es (.cons a (.cons a' .nil))) :
  PI K A env c cl (.Call (.Name f p) es [] pos) (.rng2 a a'):=by
 intro Z U src U' he J s hr fo
 skip
 refine Ye (he) λx U1 h1 he=>?_
 refine Ye (he) λy U2 h2 he=>?_
 obtain rfl:=beq_iff_eq.mp hf
 show wpAny K.M A (eval (.Name X2 p) env >>= λfv=>callWith pos fv [] (backTo pos (starEach es env)) []) _ _ s
 refine af (Wh hr fo hg G.rg ?_)
 rw[Y6 hc]
 refine Uo rfl ?_
 have hp:=h pos Z U [x,y] U2 (by show bok (Zg cl _ Z U) _=_;rw[h1];show bok (bok (Zg cl _ Z U1) _) _=_;rw[h2];rfl) J s hr fo
 rw[Y6 hc] at hp
 refine ak hp (λcvs s1 hq=>?_) λu_ v_ f=>f
 revert hq;refine rEA λJ1 g1 rvs=>?_
 cases x with
 | int a0=>
  cases y with
  | int b0=>
   simp only at he
   split at he
   .rename_i hb
    refine okE he ?_
    refine Yn (λu0_ u1_ hO2 r0 rn=>?_) (rvs.consI);refine eqS hO2 ?_
    refine byC λXX=>?_;obtain ⟨_,_,rfl,r1,rn⟩:=rn.consI;apply XX;clear XX
    obtain rfl:=rn.nilI
    refine byC λXX=>?_;refine rE (λt hO1=>?_) (r0.intI rfl);subst hO1;apply XX;clear XX
    refine byC λXX=>?_;refine rE (λu hO1=>?_) (r1.intI rfl);subst hO1;apply XX;clear XX
    refine call_range_2 ?_
    have g2:=Good.tmp g1.hr { cls:=.type "range",data:=.fields #[.int a0 t,.int b0 u,.int 1 s1.toks] } (s1.toks + 1)
    refine Zo5 g2.hr (au.get?_push_size _ rfl) hb.1 hb.2 λh' g ok=>⟨J1,_,_,rfl,(g1.trans g2).trans g,ok,trivial,(g1.trans g2).back (get?_size _)⟩
   .exact nn he
  | _=>exact nn he
 | _=>exact nn he
theorem HR.nt (x:HR K J U h){a:am}(ha:a∈J):∀ws,h.get? a≠S5 (Z6 ws):=by
 intro ws e
 refine rEA (λob e' hc=>?_) (x.at_ ha)
 rw[e] at e';obtain rfl:=B0.inj e';exact hc _ rfl
theorem HR.setO (x:HR K J U h){n:Nat}{a:am}{o0 o1:O}(hn:U[n]?=S5 o0)(ha:J[n]?=S5 a)(hd:OR K J h' a o1)(hk:∀b o,b≠a->h.get? b=S5 o->h'.get? b=S5 o):HR K J (U.set n o1) h':=by
 obtain hnt:=x.nt (Bw ha)
 obtain a0:=x.new a (Bw ha)
 refine ⟨λb o e=>hk b o (by rintro rfl;rw[a0] at e;exact nn e) (x.keep b o e),by simp[x.len],x.nd,x.new,λk o b h1 h2=>?_⟩
 by_cases hkn:k=n
 .subst hkn
  rw[ha] at h2;refine siE h2 ?_
  obtain hlt:=(Ba.mp hn).1
  rw[Cm hlt] at h1;refine siE h1 ?_
  exact hd
 .rw[Dl (λe=>hkn e.symm)] at h1
  obtain hba:b≠a:=by
   rintro rfl
   exact hkn ((K0 (Ba.mp h2).1 x.nd).mp (h2.trans ha.symm))
  exact (x.obj k o b h1 h2).move (Bt _) (λb ws eb=>hk _ _ (by rintro rfl;exact hnt _ eb) eb) λo e=>Wt (λo e=>hk _ _ hba e) e
theorem HR.setList (x:HR K J U h){n:Nat}{a:am}{l':List V}{vs':List aa}{m':Nat}{o0:O}(hn:U[n]?=S5 o0)(ha:J[n]?=S5 a)(hd:h'.get? a=S5 (Yd vs' m'))(hk:∀b o,b≠a->h.get? b=S5 o->h'.get? b=S5 o)
  (r:RVs K J h l' vs') (hl:l'.length<=Zo):HR K J (U.set n (.list l')) h' :=
 x.setO hn ha ⟨vs',m',hd,r.but (x.nt (Bw ha)) hk,hl⟩ hk
theorem Step.set {a:am}{t:Nat}(ha:a∈J)(hk:∀b o,b≠a->s.heap.get? b=S5 o->h'.get? b=S5 o):Step J s J { s with heap:=h',toks:=t } :=
 ⟨Bt _,λb o e hb=>Wt (λo e=>hk b o (by rintro rfl;exact hb ha) e) e,λu_ h=>.inl h,rfl,rfl⟩
end
section
variable {K:Kx}{A:aj}{env:Env}{c:CEnv}{cl:Cl}{T:Tabs}
theorem Zo6 {es:List aq}(h:Zag es)(hl:es.length<20)(pos:Pos) :
  ((backTo pos (starEach es env)).all (λx=>!x.1)&&(backToKw pos (keywordEach [] env)).all (λx=>x.1.isSome)&&decide (es.length+([]:List db).length+(if ([]:List db).isEmpty then 0 else 1)<30))=T1:=by
 rw[Y6 h]
 show (_&&_&&decide _)=T1
 rw[show backToKw pos (keywordEach [] env)=[] from rfl]
 simp
 exact Na 0x1701e2e70142ec11 Tt hl
theorem Zr3 {n:Nat}{l:List V}(h:Yj U (.obj n)=S5 l):U[n]?=S5 (.list l):=by
 obtain h:(match U[n]? with | some (.list l)=>S5 l | _=>Dk)=S5 l:=h
 cases e:U[n]? with
 | none=>rw[e] at h;exact nn h
 | some o=>
  rw[e] at h
  cases o with
  | list l'=>refine siE h ?_;rfl
  | _=>exact nn h
theorem Qy {v:V}{n:Nat}(h:Qv v=S5 n):v=.obj n:=by
 cases v with
 | obj m=>refine siE h ?_;rfl
 | _=>exact nn h
set_option tactic.hygienic true
theorem Zb7 {n:Nat}{l:List V}(h:Yj U (.obj n)=S5 l):U[n]?=S5 (.list l):=by
 simp only[Yj] at h
 split at h
 .rename_i hl;refine siE h ?_;exact hl
 .exact nn h
theorem Ze9 {x v:V}{vs:List V}(h:Qa .append x vs U=S5 (v,U')):∃n x0 l,x=.obj n/\vs=[x0]/\U[n]?=S5 (.list l)/\l.length<Zo/\v=.none/\U'=U.set n (.list (l++[x0])):=by
 refine Zy (h) λn hn h1=>?_
 refine Zy (h1) λl hl h2=>?_
 refine Zy ((show (Zd8 vs).bind _=_ from h2)) λx0 hx h3=>?_
 rw[Qy hn] at hl
 split at h3
 .rename_i hlt;refine pE h3 ?_;exact ⟨n,x0,l,Qy hn,Zcj hx,Zb7 hl,hlt,rfl,rfl⟩
 .exact nn h3
theorem Zmf {x v:V}{vs:List V}(h:Qa .pop x vs U=S5 (v,U')):∃n l,x=.obj n/\vs=[]/\U[n]?=S5 (.list l)/\l.getLast?=S5 v/\U'=U.set n (.list l.dropLast):=by
 refine Zy (h) λn hn h1=>?_
 refine Zy (h1) λl hl h2=>?_
 obtain h2:Zro U n l vs=S5 (v,U'):=h2
 rw[Qy hn] at hl
 unfold Zro at h2
 split at h2
 .rename_i hv
  refine Wb (h2) λy hy e=>?_
  refine piE e ?_
  exact ⟨n,l,Qy hn,hv,Zb7 hl,hy,rfl⟩
 .exact nn h2
set_option tactic.hygienic false
theorem Zhv {x v:V}{vs:List V}(h:Qa .append x vs U=S5 (v,U')){cx:aa}{cvs:List aa}(hr:HR K J U s.heap)(rx:RV K J s.heap x cx)(rvs:RVs K J s.heap vs cvs) :
  TR K A (call (.builtin "list.append") (cx ::cvs)) J s U' λJ' cv s'=>RV K J' s'.heap v cv:=by
 refine byC λXX=>?_;refine Qt (λn x0 l hO3 hO4 hn hlen hO7 hO8=>?_) (Ze9 h);subst hO3;subst hO4;subst hO7;subst hO8;apply XX
 refine byC λXX=>?_;refine rEA (λa hO1 ha=>?_) (rx.objI rfl);subst hO1;apply XX
 refine Yn (λu0_ u1_ hO2 r0 rn=>?_) (rvs.consI);refine eqS hO2 ?_
 obtain rfl:=rn.nilI
 refine Yn (λws m e r u4_=>?_) (hr.obj _ _ _ hn ha)
 refine dk (items:=ws.toArray) ⟨m,e⟩ (λh' hp hs'=>?_) (by have:=Wu r (C1 hlen);simpa using this)
 revert hp;refine rE λm2 hp=>?_
 obtain hk:∀b o,b≠a->s.heap.get? b=S5 o->h'.get? b=S5 o:=λb o hb e=>(hs'.2 b hb).trans e
 refine ⟨J,⟨hr.setList hn ha (vs':=ws++[_]) (m':=m2) ?_ hk (r.append (.cons r0 .nil)) (by simp;exact Nb 0x1650a1701c11 Tt hlen),Step.set (Bw ha) hk⟩,.none⟩
 rw[hp];simp
theorem Znl {x v:V}{vs:List V}(h:Qa .pop x vs U=S5 (v,U')){cx:aa}{cvs:List aa}(hr:HR K J U s.heap)(rx:RV K J s.heap x cx)(rvs:RVs K J s.heap vs cvs) :
  TR K A (call (.builtin "list.pop") (cx ::cvs)) J s U' λJ' cv s'=>RV K J' s'.heap v cv:=by
 refine byC λXX=>?_;refine Zri (λn l hO2 hO3 hn hlast hO6=>?_) (Zmf h);subst hO2;subst hO3;subst hO6;apply XX
 refine byC λXX=>?_;refine rEA (λa hO1 ha=>?_) (rx.objI rfl);subst hO1;apply XX
 obtain rfl:=rvs.nilI
 refine Yn (λws m e r hll=>?_) (hr.obj _ _ _ hn ha)
 obtain hlen:=r.length
 obtain hne:l≠[]:=by rintro rfl;exact nn hlast
 obtain hpos:0<l.length:=List.length_pos_iff.mpr hne
 obtain hget:l[l.length-1]?=S5 v:=by rw[← List.getLast?_eq_getElem?];exact hlast
 refine rEA (λcv hc rv=>?_) (r.get hget)
 refine call_meets F.slot_list_pop ⟨_,e,rfl⟩ F.entry_list_pop (F.args_list_pop_1 _) (MeetsSeq.list_pop_last a ws.toArray m cv (by simpa[← hlen] using hc) (by have:=Wu r hll;simpa using this)) ⟨e,?_⟩
 obtain hk:∀b o,b≠a->s.heap.get? b=S5 o->(s.heap.update a (Obj.mapSeq λxs=>xs.eraseIdxIfInBounds (ws.toArray.size-1))).get? b=S5 o:=λb o hb e=>by
  rw[au.get?_update_other _ _ (λe'=>hb e'.symm)];exact e
 obtain hd:∃m2,(s.heap.update a (Obj.mapSeq λxs=>xs.eraseIdxIfInBounds (ws.toArray.size-1))).get? a=S5 (Yd ws.dropLast m2):=by
  obtain hge:(Obj.mapSeq (λxs=>xs.eraseIdxIfInBounds (ws.toArray.size-1)) (Yd ws m))=Yd ws.dropLast (m+1):=by
   obtain e1:ws.toArray.eraseIdxIfInBounds (ws.toArray.size-1)=ws.dropLast.toArray:=by
    obtain hlt:ws.length-1<ws.length:=by exact Nc 0x17018217b2c01acba100001a110101 Tt hlen hpos (Zc _ _)
    simp[K4,hlt,List.eraseIdx_length_sub_one]
   obtain hsz:(ws.dropLast.toArray.size == ws.toArray.size)=F0:=by simp;exact Nc 0x198018217b2c01acba0100001a0110101 Tt hlen hpos (Zc _ _)
   show ({ cls:=.type "list",data:=.seq (ws.toArray.eraseIdxIfInBounds (ws.toArray.size - 1)) (if ((ws.toArray.eraseIdxIfInBounds (ws.toArray.size - 1)).size==ws.toArray.size)=T1 then m else m + 1) }:Obj)=_
   simp only[e1,hsz];rfl
  refine ⟨m+1,?_⟩
  rw[au.get?_update_self _ e (by rw[hge];rfl),hge]
 revert hd;refine rE λm2 hd=>?_
 obtain hnt:∀us,s.heap.get? a≠S5 (Z6 us):=by intro us e';rw[e] at e';exact Za6 e'
 obtain rd:RVs K J s.heap l.dropLast ws.dropLast:=by
  rw[Kt,Kt,hlen];exact r.take _
 exact ⟨J,⟨hr.setList hn ha hd hk rd (by simp;exact Nb 0x16051a601c11 Tt hll),Step.set (Bw ha) hk⟩,rv.but hnt hk⟩
noncomputable def Zcr:Mth->Str
 | .append=>Zrp
 | .pop=>Zy8
theorem Zo7 {mm:Mth}{o:aq}{m:Str}{p pos:Pos}{es:List aq}{a:Ex}{as:Es}(hmm:(m == Zcr mm)=T1)(hline:(p.endLine == pos.line)=T1)(hb:∀name w,attributeBase o name env w=w)(hlen:es.length<20)
  (hc:Zag es) (ho:PE K A env c cl o a) (h:PEs K A env c cl es as):PE K A env c cl (.Call (.Attribute o m p) es [] pos) (.mth mm a as):=by
 refine eqS (eq_of_beq hmm) ?_
 intro Z U v U' he J s hr fo
 skip
 refine Ye (he) λx U1 h1 he=>?_
 refine Zy (he) λl0 hl0 he=>?_
 refine Ye (he) λvs U2 h2 he=>?_
 obtain he:=Zco he
 refine wpAny_Call_method_lateS (hb _ _) (Zo6 hc hlen pos) hline (ak (ho Z U x U1 h1 J s hr fo) (λcx s1 hq=>?_) λu_ v_ f=>f)
 revert hq;refine rEA λJ1 g1 rx=>?_
 obtain hn:∃n,x=.obj n:=by
  cases mm with
  | append=>refine Zts (λn u1_ u2_ hO3 u4_=>?_) (Ze9 he);refine eqS hO3 ?_;exact ⟨n,rfl⟩
  | pop=>refine Ug (λn u1_ hO2 u3_=>?_) (Zmf he);refine eqS hO2 ?_;exact ⟨n,rfl⟩
 refine byC λXX=>?_;revert hn;refine rE λn hO1=>?_;subst hO1;apply XX
 obtain hp:=h pos Z U1 vs U2 h2 J1 s1 g1.hr (fo.step hr g1.st)
 refine byC λXX=>?_;refine rEA (λax hO1 ha=>?_) (rx.objI rfl);subst hO1;apply XX
 obtain hobj:∃ ob,s1.heap.get? ax=S5 ob /\ ob.cls=.type "list" /\ ob.dict=N0:=by
  refine Ug (λws m e u3_=>?_) (g1.hr.obj n _ ax (Zb7 hl0) ha);exact ⟨_,e,rfl,rfl⟩
 revert hobj;refine Ud λob eob hcls hdict=>?_
 rw[Y6 hc] at hp
 obtain fin : ∀ id : String, (∀ (s2 : ae) (J2 : List am) (cvs : List aa), HR K J2 U2 s2.heap -> RV K J2 s2.heap (.obj n) (.ref ax) -> RVs K J2 s2.heap vs cvs -> TR K A (call (.builtin id) (.ref ax :: cvs)) J2 s2 U' λJ' cv s' => RV K J' s'.heap v cv) ->
   Slot "list" (Zcr mm) id -> typeOf (.builtin id)=pure (.type "method_descriptor") -> MethodOnS K.prog K.w A (λu_ v_=>False) (Zcr mm) (.ref ax) pos (backTo pos (starEach es env)) (λa s'=>∃ J',Good K J s J' U' s' /\ RV K J' s'.heap v a) s1:=by
  intro id hid hslot htype
  refine ⟨"list",id,F.plainAttrs_list,hslot,htype,⟨ob,eob,hcls⟩,λa' e=>by cases e; exact ⟨ob,eob,hdict⟩,?_⟩
  rw[Y6 hc]
  refine Uo rfl (ak hp (λcvs s2 hq=>?_) λu_ v_ f=>f)
  revert hq;refine rEA λJ2 g2 rvs=>?_
  exact TR.after (g1.trans g2) (hid s2 J2 cvs g2.hr (.obj (Xv g2.st.pre ha)) rvs)
 cases mm with
 | append=>exact fin "list.append" (λs2 J2 cvs q1 q2 q3=>Zhv he q1 q2 q3) F.slot_list_append F.type_list_append
 | pop=>exact fin "list.pop" (λs2 J2 cvs q1 q2 q3=>Znl he q1 q2 q3) F.slot_list_pop F.type_list_pop
end
structure WK (K:Kx)(T:Tabs)(pg:Pg):Prop where
 cls:∀ c C,K.clv c=.ref C -> ∃ N mN,ClsAt K.h0 C N mN /\ mN "__getattribute__"=N0 /\ mN "__getattr__"=N0 /\ mN "__setattr__"=N0 /\ (∀ k,k < 2 -> mN (atn k)=N0) /\
  (∀ x m f,T.meths.lookup x=S5 m -> pg.mt c m=S5 f -> x ∉ [atn 0,atn 1] /\ mN x=S5 (.ref (K.fna f)) /\ (∃ o fd,K.h0.get? (K.fna f)=S5 o /\ o.cls=.type "function" /\ o.data=.func fd) /\ ∃ y,typeLookup (.type "object") x=pure y) /\
  ∀ f,pg.init c=S5 f -> mN "__init__"=S5 (.ref (K.fna f)) /\ ∃ o,K.h0.get? (K.fna f)=S5 o /\ o.cls=.type "function"
 tyb:∀t i,K.tyv t≠.builtin i
 attr:∀x k,T.attrs.lookup x=S5 k->k<2/\x=atn k
theorem Zo8 (k:Nat):typeLookup (.type "object") (atn k)=pure N0:=by
 by_cases h:k=0
 .subst h; show typeLookup (.type "object") "top"=_; rw [c6,c7]; kernel_rfl
 .obtain this:atn k="many":=gq h
  rw[this,c6,c7];kernel_rfl
set_option tactic.hygienic true in
theorem Zji {x:V}{p:Nat×List (Nat×V)}(h:Zd9 U x=S5 p):∃n c,x=.obj n/\U[n]?=S5 (.inst c p.1)/\U[p.1]?=S5 (.ns p.2):=by
 unfold Zd9 at h
 split at h
 .split at h
  .rename_i c d h1
   split at h
   .rename_i l h2;refine siE h ?_;exact ⟨_,c,rfl,h1,h2⟩
   .exact nn h
  .exact nn h
 .exact nn h
set_option tactic.hygienic true in
theorem Zk3 {pg:Pg}{x:V}{m f:Nat}(h:Za2 pg U x m=S5 f):∃n c d l,x=.obj n/\U[n]?=S5 (.inst c d)/\U[d]?=S5 (.ns l)/\pg.mt c m=S5 f:=by
 unfold Za2 at h
 split at h
 .split at h
  .rename_i c d h1
   split at h
   .rename_i l h2;exact ⟨_,c,d,l,rfl,h1,h2,h⟩
   .exact nn h
  .exact nn h
 .exact nn h
section
variable {K:Kx}{A:aj}{env:Env}{c:CEnv}{cl:Cl}{T:Tabs}
theorem HR.inst (x:HR K J U h){n cn d:Nat}{l:List (Nat×V)}{a:am}(h1:U[n]?=S5 (.inst cn d))(h2:U[d]?=S5 (.ns l))(ha:J[n]?=S5 a) :
  ∃C ad m o,K.clv cn=.ref C/\h.Inst a C m/\J[d]?=S5 ad/\h.get? a=S5 o/\o.dict=S5 ad/\ad≠a/\h.Ns1 ad m/\(∀x,m x≠.none->x∈[atn 0,atn 1])/\∀k v,l.lookup k=S5 v->k<2/\∃cv,m (atn k)=S5 cv/\RV K J h v cv:=by
 refine Qt (λo C ad e1 e2 e3 e4 e5 e6=>?_) (x.obj n _ a h1 ha)
 refine Ud (λm f1 f2 f3=>?_) (x.obj d _ ad h2 e6)
 obtain hne:ad≠a:=by
  rintro rfl
  have:=(K0 (Ba.mp e6).1 x.nd).mp (e6.trans ha.symm)
  subst this;rw[h1] at h2;cases h2
 exact ⟨C,ad,m,o,e2,⟨o,e1,e3,e4,.inr ⟨ad,e5,hne,f1⟩⟩,e6,e1,e5,hne,f1,f2,f3⟩
theorem Zvi {v:V}{cv:aa}(tb:∀t i,K.tyv t≠.builtin i)(r:RV K J h v cv):handedOut cv=pure cv:=by
 cases r with
 | ty t=>
  cases e:K.tyv t with
  | builtin i=>exact absurd e (tb t i)
  | _=>rfl
 | _=>rfl
theorem Zr4 (W:WK K T cl.pg){z x:Str}{zp pos:Pos}{a:Ex}{k:Nat}(hk:T.attrs.lookup x=S5 k)(h:PE K A env c cl (.Name z zp) a):PE K A env c cl (.Attribute (.Name z zp) x pos) (.attr a k):=by
 intro Z U v U' he J s hr fo
 refine Ye (he) λy U1 h1 he=>?_
 refine rA (λhv hO1=>?_) (Zad he);refine eqS hO1 ?_
 refine Zy (hv) λp hp hl=>?_
 refine byC λXX=>?_;refine Yn (λn cn hO2 i1 i2=>?_) (Zji hp);subst hO2;apply XX
 refine byC λXX=>?_;refine rA (λhk2 hO1=>?_) (W.attr x k hk);subst hO1;apply XX
 obtain hb:=h Z U _ _ h1 J s hr fo
 refine Attribute_Name_ (ak hb (λco s1 hq=>?_) λu_ v_ f=>f)
 revert hq;refine rEA λJ1 g1 rx=>?_
 refine byC λXX=>?_;refine rEA (λu0_ hO1 ha=>?_) (rx.objI rfl);subst hO1;apply XX
 refine Ql (λC ad m o e1 e2 e3 e4 e5 e6 e7 e8 e9=>?_) (g1.hr.inst i1 i2 ha)
 refine Ziq (λu0_ cv q1 q2=>?_) (e9 k v hl)
 refine Zes (λN mN w1 w2 w3 w4 w5 u7_=>?_) (W.cls cn C e1)
 refine Xa (λnm q bs sn sub col dd k0 k1 k2' k3 k5 hC=>?_) ((w1.keeps g1.hr.keep).obj)
 exact load_attr hC (w1.keeps g1.hr.keep).ns w2 (w5 k hk2) (Zo8 k) e2 q1 (Zvi W.tyb q2) ⟨J1,g1.tok _,q2⟩
theorem Zfa {es:List aq}{as:Es}{pos:Pos}{vs:List V}(hc:Zag es)(h:PEs K A env c cl es as)(h1:Y8 cl as Z U=S5 (.ok vs,U1))(hr:HR K J U s.heap)(fo:FO K A env c Z J s.heap)
  {Q:List aa->ae->Prop}{E:VSP} (hq:∀J1 cvs s1,Good K J s J1 U1 s1->RVs K J1 s1.heap vs cvs->Q cvs s1):wpAny K.M A (spliced (es.map λe=>(F0,eval e env))) Q E s:=by
 obtain hp:=h pos Z U vs U1 h1 J s hr fo
 rw[Y6 hc] at hp
 exact ak hp (λcvs s1 q=>let ⟨J1,g1,r⟩:=q;hq J1 cvs s1 g1 r) λu_ v_ f=>f.elim
theorem Znm (W:WK K T cl.pg){o:aq}{x:Str}{p pos:Pos}{es:List aq}{a:Ex}{as:Es}{m f:Nat}{U2:H}{y:V}{vs:List V}(hm:T.meths.lookup x=S5 m)(hline:(p.endLine == pos.line)=T1)(hob:∀name w,attributeBase o name env w=w)(hlen:es.length<20)
  (hc:Zag es) (ho:PE K A env c cl o a) (h:PEs K A env c cl es as) (h1:Zg cl a Z U=S5 (.ok y,U1)) (hf:Za2 cl.pg U1 y m=S5 f) (h2:Y8 cl as Z U1=S5 (.ok vs,U2)) (hr:HR K J U s.heap) (fo:FO K A env c Z J s.heap)
  {Q:VSP}{E:VSP} (hq:∀J2 cy cvs s2,Good K J s J2 U2 s2->RVs K J2 s2.heap (y::vs) (cy::cvs)->wpAny K.M A (call (.ref (K.fna f)) (cy::cvs)) Q E s2):wpAny K.M A (eval (.Call (.Attribute o x p) es [] pos) env) Q E s:=by
 refine byC λXX=>?_;refine Zom (λn cn d l hO4 i1 i2 hmt=>?_) (Zk3 hf);subst hO4;apply XX
 rw[arm_eval_Call,hob]
 refine af (ak (ho Z U _ U1 h1 J s hr fo) (λco s1 hq'=>?_) λu_ v_ f=>f.elim)
 revert hq';refine rEA λJ1 g1 rx=>?_
 refine af (bp ?_)
 refine byC λXX=>?_;refine rEA (λax hO1 ha=>?_) (rx.objI rfl);subst hO1;apply XX
 refine Ql (λC ad mA ob e1 e2 e3 e4 e5 e6 e7 e8 e9=>?_) (g1.hr.inst i1 i2 ha)
 refine Zdc (λN mN w1 w2 w3 w4 w5 w6 u8_=>?_) (W.cls cn C e1)
 refine Zxc (λhnx hmx hO2 yy hB=>?_) (w6 x m f hm hmt);revert hO2;refine Yn λof fd hfo hfc hfd=>?_
 refine Xa (λnm q bs sn sub col dd k0 k1 k2' k3 k5 hC=>?_) ((w1.keeps g1.hr.keep).obj)
 obtain hsh:mA x=N0:=D3 λhx=>hnx (e8 x hx)
 obtain hform:methodCallForm (es.length+([]:List db).length) (backTo pos (starEach es env)) (backToKw pos (keywordEach [] env))=T1:=Zo6 hc hlen pos
 obtain hpos:methodCallPos T1 o env p pos=pure pos:=by unfold methodCallPos;simp[hline]
 unfold methodCall
 rw[hform]
 refine af (ay (method_of hC (w1.keeps g1.hr.keep).ns w2 w3 hmx (g1.hr.keep _ _ hfo) hfc hB e2 hsh ?_))
 refine af (wpAny_of_eq hpos ?_)
 show wpAny K.M A (callWith pos (.ref (K.fna f)) [.ref ax] (backTo pos (starEach es env)) []) Q E s1
 rw[Y6 hc]
 refine Calls.callWith_function (o:=of) (fd:=fd) (Xc (Zfa (pos:=pos) hc h h2 g1.hr (fo.step hr g1.st) λJ2 cvs s2 g2 r=>⟨⟨g2.hr.keep _ _ hfo,hfd⟩,?_⟩))
 exact hq J2 (.ref ax) cvs s2 (g1.trans g2) (.cons (.obj (Xv g2.st.pre ha)) r)
theorem Zvj (G:GK K T) (W:WK K T cl.pg) {f:Str} {p pos:Pos} {n:Nat} (hg:Jk c f=T1) (hn:T.cls.lookup f=S5 n) (hcall:∀ C vs,Zhu K (A.under (.builtin "type.__call__" ⟨.ref C ::vs,[]⟩)) cl) :
  PE K A env c cl (.Call (.Name f p) [] [] pos) (.new n .nil):=by
 intro Z U v U' he J s hr fo
 refine Zy (he) λfi hfi he=>?_
 refine Ye (he) λr U2 h1 he=>?_
 have hrn:r=.none:=by
  cases r with
  | none=>rfl
  | _=>cases he
 subst hrn
 cases he
 refine rEA (λC hm hC'=>?_) (G.cl f n hn)
 refine Zdc (λN mN w1 w2 w3 w4 w5 u7_ w7=>?_) (W.cls n C hC')
 refine Ziq (λhi oI hfI hfc=>?_) (w7 fi hfi)
 show TR K A (eval (.Name f p) env >>= λfv=>callWith pos fv [] (backTo pos (starEach [] env)) []) J s U' _
 refine af (Wh hr fo hg hm ?_)
 refine callWith_cls0 w1 hr.keep ?_
 refine Xa (λnm q bs sn sub col dd k0 k1 k2' k3 k5 hC=>?_) ((w1.keeps hr.keep).obj)
 refine byC λXX=>?_;obtain ⟨hh,gg,dr,t,os⟩:=s;apply XX
 refine wpAny_call_obj_init PySem.F.objNew hC (w1.keeps hr.keep).ns hi (hr.keep _ _ hfI) hfc λh' x dx hm'=>?_
 refine Zas (λoX x1 x2 x3 x4=>?_) hm'.inst
 have hdx:=hm'.dict oX x1
 obtain ⟨d',y1,y2,y3⟩ : ∃d',oX.dict=S5 d'/\d'≠x/\h'.Ns1 d' λu_=>N0:=by
  rcases x4 with ⟨h0,_⟩ | h0
  .rw[h0] at hdx;exact nn hdx
  .exact h0
 rw[hdx] at y1;obtain rfl:=B0.inj y1
 have hxJ:x ∉ J:=λhm=>by refine rEA (λob e u2_=>?_) (hr.at_ hm);rw[hm'.newX] at e;exact nn e
 have hdJ:dx ∉ J:=λhm=>by refine rEA (λob e u2_=>?_) (hr.at_ hm);rw[hm'.newD] at e;exact nn e
 have hl:=hr.len
 have g:Good K J ⟨hh,gg,dr,t,os⟩ (J++[dx]++[x]) (U++[.ns []]++[.inst n U.length]) ⟨h',gg,dr,t,os⟩:=by
  refine ⟨⟨λb o e=>hm'.keeps b o (hr.keep b o e),by simp[hl],?_,λb hb=>?_,λk o b e1 e2=>?_⟩,⟨by rw[Bn];exact C8 _ _,λb o e u_=>Qf hm'.keeps e,λb hb=>?_,rfl,rfl⟩⟩
  .rw[Bn,G3]
   refine ⟨hr.nd,by simpa using y2,λb hb c hc e=>?_⟩
   subst e
   simp at hc
   rcases hc with rfl | rfl
   .exact hdJ hb
   .exact hxJ hb
  .have : ∀ z, hh.get? z = N0 -> K.h0.get? z = N0 := λz hz => by
    cases e:K.h0.get? z with
    | none=>rfl
    | some o=>rw[show hh.get? z=S5 o from hr.keep z o e] at hz;exact ns hz
   simp at hb
   rcases hb with hb | rfl | rfl
   .exact hr.new b hb
   .exact this _ hm'.newD
   .exact this _ hm'.newX
  .by_cases hk:k<U.length
   .rw[Bn,Br hk] at e1
    rw[Bn,Br (by rw[hl];exact hk)] at e2
    exact (hr.obj k o b e1 e2).mono (by rw[Bn];exact C8 _ _) hm'.keeps
   .rw[Bn,Bh (by exact Nb 0x16019710c11 Tt hk)] at e1
    rw[Bn,Bh (by exact Nc 0x16018029712c1101 Tt hl hk)] at e2
    have:k=U.length\/k=U.length+1:=by
     have:=(Ba.mp e1).1
     simp at this;exact Nc 0x10d8018051a97017221ec201cbbba101a101ba11a11bba11a11ba0101001a01001 Tt hk this (Zc _ _)
    rcases this with rfl | rfl
    .simp[hl] at e1 e2
     subst e1 e2
     exact ⟨_,y3,λz hz=>absurd rfl hz,λk v hv=>by exact nn hv⟩
    .rw[hl] at e2
     have e3:U.length+1-U.length=1:=by exact Nb 0x180ac051a1cbba1001a01ba101a01 Tt (Zc _ _)
     rw[e3] at e1 e2
     simp at e1 e2
     subst e1 e2
     refine ⟨oX,C,dx,x1,hC',x2,x3,hdx,?_⟩
     rw[Bn,Bh (by exact Nb 0x1601801c11 Tt hl),hl];simp
  .simp at hb
   rcases hb with hb | rfl | rfl
   .exact .inl hb
   .exact .inr hm'.newD
   .exact .inr hm'.newX
 have hxr:(J++[dx]++[x])[U.length+1]?=S5 x:=by
  rw[Bh (by simp[hl])];simp[hl]
 have hff:FF K (A.under (.builtin "type.__call__" ⟨[.ref C],[]⟩)) (J ++ [dx] ++ [x]) h':=fo.ff.step g.st
 refine ak (hcall C [] fi _ _ .none U' h1 (J++[dx]++[x]) ⟨h',gg,dr,t,os⟩ [.ref x] g.hr (.cons (.obj hxr) .nil) hff) (λr s2 hq=>?_) λu_ v_ f=>f
 revert hq;refine rEA λJ2 g2 rv=>?_
 obtain rfl:=rv.noneI rfl
 exact ⟨rfl,J2,g.trans g2,.obj (Xv g2.st.pre hxr)⟩
end
end Mini.Internal
namespace Mini.Internal
open PySem PyProof.Rows PySem.SeqAt PySem.W
variable {J J' J1:List am}{U U' U1:H}{s s' s1:ae}{h h':au}{Z Z':L}
def Fly (K:Kx)(X J:List am)(s:ae)(J':List am)(U':H)(outer:List Env)(cv:aa)(P:au->Prop)(ev:aa)(h:au):Prop :=
 ∃G B t e,ev=.ref e/\P G/\HR K J' U' G/\StepX X J s J' { s with heap:=G }/\(∀b o,G.get? b=S5 o->¬ dy o->B.get? b=S5 o)/\(∀b o,K.h0.get? b=S5 o->B.get? b=S5 o)/\G.UpToSlots h/\au.FlyingW B outer e cv (.ref t) h
section
variable {K:Kx}{A:aj}
theorem FF.mem {l:List Env}(x:FF K A J h)(hf:A.frames=S5 l){b:am}(hb:b∈l.filterMap (·.frame)):∃o,h.get? b=S5 o/\dy o/\K.h0.get? b=N0:=by
 refine rEA (λenv he hfr=>?_) (Gr.mp hb)
 refine Zaz (λu0_ L o h2 u4_ h4 h5 h6=>?_) (x l hf env he)
 rw[hfr] at h2;obtain rfl:=B0.inj h2
 exact ⟨o,h5,h6,h4⟩
theorem Zo9 :∀{l:List Env},(∀env∈l,env.scope.kind≠.module/\∃L o,env.frame=S5 L/\L ∉ J/\K.h0.get? L=N0/\h.get? L=S5 o/\dy o)->h.FunFrames K.h0 l
 | [],_=>trivial
 | env::l,x=>by
  refine Zet (λh1 L o h2 h3 h4 h5 es ep h6=>?_) (x env Bf)
  exact ⟨h1,⟨L,o,h2,h4,h5,λvs hv=>by rw[h6] at hv;cases hv⟩,Zo9 λe he=>x e (Bb _ he)⟩
theorem Znn {X:List am}{G:au}{env:Env}{outer:List Env}{e:am}{cv:aa}{args:List aa}{P:au->Prop}{E:aa->ae->Prop}{Q:Unit->ae->Prop}(hfr:A.frames=S5 (env::outer))(ff:FF K A J' G)
  (hr:HR K J' U' G) (hP:P G) (st:StepX X J s J' { s with heap:=G }) (hx:au.MadeExcOf G s1.heap e cv args) (hQ:∀h',Fly K X J s J' U' outer cv P (.ref e) h'->Q () { s1 with heap:=h' }):wpAny K.M A (leaving env (.ref e)) Q E s1:=by
 refine Zl2 (λu0_ L u2_ hf u4_=>?_) (ff _ hfr env Bf)
 obtain hin:∀v∈(env::outer),∀b,v.frame=S5 b->b∈(env::outer).filterMap (·.frame):=λv hv b hb=>Gr.mpr ⟨v,hv,hb⟩
 refine wpAny_leaves_madeW (base:=hideAll G ((env::outer).filterMap (·.frame))) hfr hf (λb o q=>of_hideAll _ q) (funFrames_hide (Zo9 (ff _ hfr)) hin) hx λh' t f1 f2 f3 f4=>?_
 refine hQ h' ⟨G,_,t,e,rfl,hP,hr,st,λb o q hc=>hideAll_get _ q λhm=>?_,λb o q=>hideAll_get _ (hr.keep b o q) λhm=>?_,(au.UpToSlots.of_keeps hx.keeps).trans f4,f1⟩
 .refine Ud (λo' q' hc' u3_=>?_) (ff.mem hfr hm)
  rw[q] at q';obtain rfl:=B0.inj q';exact hc hc'
 .refine Ud (λo' u1_ u2_ q'=>?_) (ff.mem hfr hm)
  rw[q] at q';exact ns q'
theorem Zpa {X:List am}{env:Env}{outer:List Env}{ev:aa}{L:am}{cv:aa}{P:au->Prop}{E:aa->ae->Prop}{Q:Unit->ae->Prop}(hfr:A.frames=S5 (env::outer))(hf:env.frame=S5 L)
  (fl:Fly K X J s J' U' (env::outer) cv P ev s1.heap) (hQ:∀h',Fly K X J s J' U' outer cv P ev h'->Q () { s1 with heap:=h' }):wpAny K.M A (leaving env ev) Q E s1:=by
 refine byC λXX=>?_;revert fl;refine Xq λG B t e hO4 hP hr st hB hB0 hu fw=>?_;subst hO4;apply XX
 exact wpAny_leaves_onW hfr hf fw λh' f1 f2=>hQ h' ⟨G,B,t,e,rfl,hP,hr,st,hB,hB0,hu.trans f2,f1⟩
theorem Fly.map {X Y:List am}{outer:List Env}{ev cv:aa}{P P':au->Prop}(fl:Fly K X J1 s1 J' U' outer cv P ev h)(hs:∀G,HR K J' U' G->P G->StepX X J1 s1 J' { s1 with heap:=G }->StepX Y J s J' { s with heap:=G }/\P' G):Fly K Y J s J' U' outer cv P' ev h:=by
 revert fl;refine Zgj λG B t e he hP hr st r=>?_
 refine rA (λh1 h2=>?_) (hs G hr hP st)
 exact ⟨G,B,t,e,he,h2,hr,h1,r⟩
theorem HR.move (x:HR K J U h)(h0:∀b o,K.h0.get? b=S5 o->h'.get? b=S5 o)(hk:∀b o,ng h b=S5 o->ng h' b=S5 o):HR K J U h' :=
 ⟨h0,x.len,x.nd,x.new,λn o a h1 h2=>(x.obj n o a h1 h2).move (Bt _) (λb vs e=>Zi3 nfT (hk b _ (U6 e))) λo e=>hk a o e⟩
theorem Zpb {G B:au}(hB:∀b o,G.get? b=S5 o->¬ dy o->B.get? b=S5 o)(hu:G.UpToSlots h)(fw:B.StaysIn h):∀b o,ng G b=S5 o->ng h b=S5 o:=λb o q=>by
 refine rEA (λo' q' hO2=>?_) (Zcn q);refine eqE hO2 ?_
 by_cases hc:dy o'
 .refine rEE (λes ep hd=>?_) (id hc)
  refine rE (λsl e=>?_) (hu b o' q' λvs hv=>by rw[hd] at hv;cases hv)
  rw[U6 e]
  obtain hc2:dy { o' with slots:=sl }:=⟨es,ep,hd⟩
  unfold nrm
  rw[gp hc,gp hc2]
 .exact U6 (fw b _ (hB b o' q' hc))
theorem Fly.good {X:List am}{outer:List Env}{ev cv:aa}{env:Env}{c:CEnv}(fl:Fly K X J s J' U' outer cv (FO K A env c Z J') ev s1.heap)(hg:s1.gens=s.gens)(ho:s1.os=s.os) :
  HR K J' U' s1.heap/\StepX X J s J' s1/\FO K A env c Z J' s1.heap:=by
 revert fl;refine Xq λG B t e he hP hr st hB hB0 hu fw=>?_
 have hn:=Zpb hB hu fw.1
 obtain hst:Step J' { s with heap:=G } J' s1:=⟨Bt _,λb o q u_=>hn b o q,λu_ h=>.inl h,hg,ho⟩
 exact ⟨hr.move (λb o q=>fw.1 b o (hB0 b o q)) hn,⟨st.pre,λb o q hb hx=>hn b o (st.fr b o q hb hx),st.fresh,hg,ho⟩,hP.step (s:={ s with heap:=G }) hr hst⟩
end
section
variable {U1:H}
theorem Zhw {α:Type}{x:X α}{r:R α}(h:noX x=S5 (r,U1)):∃a,r=.ok a/\x=S5 (.ok a,U1):=by
 refine Ye (h) λa U2 h1 h2=>?_
 refine pE h2 ?_;exact ⟨a,rfl,h1⟩
theorem Zhx {α β:Type}{x:X α}{f:α->H->X β}{r:R β}(h:bnd x f=S5 (r,U')):(∃a U1,x=S5 (.ok a,U1)/\f a U1=S5 (r,U'))\/∃k,x=S5 (.exc k,U')/\r=.exc k:=by
 cases x with
 | none=>exact nn h
 | some p=>
  refine byC λXX=>?_;obtain ⟨q,τ⟩:=p;apply XX
  cases q with
  | ok a=>exact .inl ⟨a,τ,rfl,h⟩
  | exc k=>refine pE h ?_;exact .inr ⟨k,rfl,rfl⟩
end
def Flies (K:Kx)(A:aj)(J:List am)(s:ae)(U':H)(k:Nat)(ev:aa)(s':ae):Prop :=
 s'.gens=s.gens/\s'.os=s.os/\∃J',∀fs,A.frames=S5 fs->Fly K [] J s J' U' fs (K.tyv k) (λu_=>True) ev s'.heap
theorem Flies.after {K:Kx}{A:aj}{k:Nat}{ev:aa}(g:Good K J s J1 U1 s1)(f:Flies K A J1 s1 U' k ev s'):Flies K A J s U' k ev s':=by
 revert f;refine Zus λh1 h2 J' h3=>?_
 refine ⟨h1.trans g.st.gens,h2.trans g.st.os,J',λfs hf=>(h3 fs hf).map λG u_ v_ st=>⟨?_,trivial⟩⟩
 have:=g.st.trans st.nil
 exact ⟨this.pre,λb o e hb u_=>this.fr b o e hb,this.fresh,rfl,rfl⟩
abbrev XQ (K:Kx)(J:List am)(s:ae)(r:R V)(U':H)(cv:aa)(s':ae):Prop:=∃v J',r=.ok v/\Good K J s J' U' s'/\RV K J' s'.heap v cv
abbrev XE {α:Type}(K:Kx)(A:aj)(J:List am)(s:ae)(r:R α)(U':H)(ev:aa)(s':ae):Prop:=∃k,r=.exc k/\Flies K A J s U' k ev s'
def CallB (K:Kx)(A:aj)(cl:Cl):Prop :=
 ∀f vs U r U',cl.call f vs U=S5 (r,U')->∀J s cvs,HR K J U s.heap->RVs K J s.heap vs cvs->FF K A J s.heap->wpAny K.M A (call (.ref (K.fna f)) cvs) (XQ K J s r U') (XE K A J s r U') s
def PX (K:Kx)(A:aj)(env:Env)(c:CEnv)(e:aq)(f:L->H->X V):Prop :=
 ∀Z U r U',f Z U=S5 (r,U')->∀J s,HR K J U s.heap->FO K A env c Z J s.heap->wpAny K.M A (eval e env) (XQ K J s r U') (XE K A J s r U') s
def PA (K:Kx)(A:aj)(env:Env)(c:CEnv)(cl:Cl)(es:List aq)(as:Es):Prop :=
 ∀Z U r U',X1 cl as Z U=S5 (r,U')->∀J s,HR K J U s.heap->FO K A env c Z J s.heap->
  wpAny K.M A (spliced (es.map λe=>(F0,eval e env))) (λcvs s'=>∃vs J',r=.ok vs/\Good K J s J' U' s'/\RVs K J' s'.heap vs cvs) (XE K A J s r U') s
section
variable {K:Kx}{A:aj}{env:Env}{c:CEnv}{cl:Cl}{T:Tabs}
theorem Zd0 {e:aq}{a:Ex}(h:PE K A env c cl e a):PX K A env c e λZ U=>noX (Zg cl a Z U):=by
 intro Z U r U' he J s hr fo
 refine rEA (λv e1 h1=>?_) (Zhw he)
 exact ak (h Z U v U' h1 J s hr fo) (λcv s1 ⟨J1,g1,rv⟩=>⟨v,J1,e1,g1,rv⟩) λu_ v_ f=>f.elim
theorem Zjj {e:aq}{a:Ex}(h:PX K A env c e (Zg cl a)):PE K A env c cl e a:=λZ U v U' he J s hr fo=>
 ak (h Z U _ U' he J s hr fo) (λcv s' ⟨_,J',e,g,r⟩=>⟨J',g,oi e▸r⟩) λ_ _ ⟨_,e,_⟩=>oe e
theorem CallB.ok (h:CallB K A cl):Zhu K A cl:=λf vs U v U' he J s cvs hr rvs ff=>
 ak (h f vs U _ U' he J s cvs hr rvs ff) (λcv s' ⟨_,J',e,g,r⟩=>⟨J',g,oi e▸r⟩) λ_ _ ⟨_,e,_⟩=>oe e
theorem XQ.after {s2:ae}{r:R V}{cv:aa}(g:Good K J s J1 U1 s1)(h:XQ K J1 s1 r U' cv s2):XQ K J s r U' cv s2:=Yn (λv J2 e g2 rv=>⟨v,J2,e,g.trans g2,rv⟩) h
theorem XE.after {α:Type}{s2:ae}{r:R α}{ev:aa}(g:Good K J s J1 U1 s1)(h:XE K A J1 s1 r U' ev s2):XE K A J s r U' ev s2:=rEA (λk e fl=>⟨k,e,fl.after g⟩) h
theorem XE.to {α β:Type}{k:Nat}{ev:aa}(h:XE K A J s (R.exc k:R α) U' ev s'):XE K A J s (R.exc k:R β) U' ev s':=rEA (λk' e fl=>⟨k',congrArg R.exc (ei e),fl⟩) h
theorem XQ.o {v:V}{cv:aa}{P:Prop}(h:XQ K J s (.ok v) U' cv s')(k:∀J',Good K J s J' U' s'->RV K J' s'.heap v cv->P):P:=by
 revert h;refine Yn λw J' e g r=>?_;exact k J' g (oi e▸r)
theorem XQ.x {j:Nat}{cv:aa}{P:Prop}(h:XQ K J s (.exc j) U' cv s'):P:=by
 revert h;refine Ug λw J' e u_=>?_;exact eo e
theorem XE.o {α:Type}{v:α}{ev:aa}{P:Prop}(h:XE K A J s (R.ok v) U' ev s'):P:=by
 revert h;refine rEA λk e u_=>?_;exact oe e
theorem XE.x {α:Type}{j:Nat}{ev:aa}(h:XE K A J s (R.exc j:R α) U' ev s'):Flies K A J s U' j ev s':=by
 revert h;refine rEA λk e fl=>?_;exact ei e▸fl
theorem CallB.run (h:CallB K A cl){f:Nat}{vs:List V}{r:R V}{cvs:List aa}(he:cl.call f vs U1=S5 (r,U'))(fo:FO K A env c Z J s.heap)(g:Good K J s J1 U1 s1)(rvs:RVs K J1 s1.heap vs cvs) :
  wpAny K.M A (call (.ref (K.fna f)) cvs) (XQ K J s r U') (XE K A J s r U') s1:=ak (h f vs U1 r U' he J1 s1 cvs g.hr rvs (fo.ff.step g.st)) (λu_ v_ q=>q.after g) λu_ v_ q=>q.after g
theorem Zjk (G:GK K T){f:Str}{p pos:Pos}{es:List aq}{n:Nat}(hg:Jk c f=T1)(hn:T.fns.lookup f=S5 n)(hc:Zag es)(hr:HR K J U s.heap)(fo:FO K A env c Z J s.heap)
  {Q:VSP}{E:VSP} (h:wpAny K.M A (spliced (es.map λe=>(F0,eval e env))) (λcvs s1=>(∀b o,K.h0.get? b=S5 o->s1.heap.get? b=S5 o)/\wpAny K.M A (call (.ref (K.fna n)) cvs) Q E s1) E s) :
  wpAny K.M A (eval (.Call (.Name f p) es [] pos) env) Q E s:=by
 refine Zl2 (λhm o fd ho hd=>?_) (G.fn f n hn)
 show wpAny K.M A (eval (.Name f p) env >>= λfv=>callWith pos fv [] (backTo pos (starEach es env)) []) Q E s
 refine af (Wh hr fo hg hm ?_)
 rw[Y6 hc]
 exact Calls.callWith_function (o:=o) (fd:=fd) (Xc (ak h (λcvs s1 h1=>⟨⟨h1.1 _ _ ho,hd⟩,h1.2⟩) λu_ v_ f=>f))
theorem Zvk:PA K A env c cl [] .nil:=by
 intro Z U r U' he J s hr fo
 refine pE he ?_
 exact gj (pos:=⟨0,0,0,0⟩) (env:=env) ⟨[],J,rfl,Good.refl hr,.nil⟩
theorem Zr5 {e:aq}{fg:Nat}{es:List aq}{a:Ex}{as:Es}(hp:Plain e fg)(hs:Zag es)(h:PX K A env c e (Qd cl a))(h':PA K A env c cl es as):PA K A env c cl (e::es) (.cons a as):=by
 intro Z U r U' he J s hr fo
 rw[← Y6 (env:=env) (Xy hp hs) ⟨0,0,0,0⟩]
 refine fu ?_ (hp.star env es)
 rcases Zhx he with ⟨v,U1,h3,h4⟩ | ⟨k,h3,rfl⟩
 .refine ak (h Z U _ U1 h3 J s hr fo) (λcv s1 hq=>?_) λu_ v_ f=>rEA (λk e u=>oe e) f
  revert hq;refine Yn λv' J1 e0 g1 rv=>?_
  rw[Y6 hs]
  rcases Zhx h4 with ⟨vs,U2,h5,h6⟩ | ⟨k,h5,rfl⟩
  .refine pE h6 ?_
   refine ak (h' Z U1 _ _ h5 J1 s1 g1.hr (fo.step hr g1.st)) (λcvs s2 hq=>?_) λev s2 hq=>rEA (λk e u=>oe e) hq
   revert hq;refine Yn λvs' J2 e1 g2 rvs=>?_
   exact ⟨_,J2,rfl,g1.trans g2,.cons ((oi e0▸rv).step g1.hr g2.st) (oi e1▸rvs)⟩
  .refine ak (h' Z U1 _ _ h5 J1 s1 g1.hr (fo.step hr g1.st)) (λcvs s2 hq=>Ug (λvs' J2 e1 u=>eo e1) hq) λev s2 hq=>XE.to (hq.after g1)
 .exact ak (h Z U _ _ h3 J s hr fo) (λcv s1 hq=>Ug (λv J1 e u=>eo e) hq) λev s1 hq=>XE.to hq
theorem Zr6 (G:GK K T)(hb:CallB K A cl){f:Str}{p pos:Pos}{es:List aq}{as:Es}{n:Nat}(hg:Jk c f=T1)(hn:T.fns.lookup f=S5 n)(hc:Zag es)(h:PA K A env c cl es as):PX K A env c (.Call (.Name f p) es [] pos) (Jp cl (.call n as)):=by
 intro Z U r U' he J s hr fo
 refine Zjk G hg hn hc hr fo ?_
 rcases Zhx he with ⟨vs,U1,h1,h2⟩ | ⟨k,h1,rfl⟩
 .refine ak (h Z U _ _ h1 J s hr fo) (λcvs s1 hq=>?_) λev s1 hq=>rEA (λk e u=>oe e) hq
  revert hq;refine Yn λvs' J1 e1 g1 rvs=>?_
  exact ⟨g1.hr.keep,hb.run h2 fo g1 (oi e1▸rvs)⟩
 .exact ak (h Z U _ _ h1 J s hr fo) (λcvs s1 hq=>Ug (λv J1 e u=>eo e) hq) λev s1 hq=>XE.to hq
theorem Zr7 (G:GK K T)(hb:CallB K A cl){f:Str}{p pos:Pos}{es:List aq}{as:Es}{n:Nat}(hg:Jk c f=T1)(hn:T.fns.lookup f=S5 n)(hc:Zag es)(h:PEs K A env c cl es as):PX K A env c (.Call (.Name f p) es [] pos) (Zg cl (.call n as)):=by
 intro Z U r U' he J s hr fo
 refine Ye (he) λvs U1 h1 h2=>?_
 exact Zjk G hg hn hc hr fo (Zfa (pos:=pos) hc h h1 hr fo λJ1 cvs s1 g1 rvs=>⟨g1.hr.keep,hb.run h2 fo g1 rvs⟩)
theorem Zpc (W:WK K T cl.pg)(hb:CallB K A cl){o:aq}{x:Str}{p pos:Pos}{es:List aq}{a:Ex}{as:Es}{m:Nat}(hm:T.meths.lookup x=S5 m)(hline:(p.endLine == pos.line)=T1)(hob:∀name w,attributeBase o name env w=w)(hlen:es.length<20)
  (hc:Zag es) (ho:PE K A env c cl o a) (h:PEs K A env c cl es as):PX K A env c (.Call (.Attribute o x p) es [] pos) (Zg cl (.ucall m a as)):=by
 intro Z U r U' he J s hr fo
 refine Ye (he) λy U1 h1 he=>?_
 refine Zy (he) λf hf he=>?_
 refine Ye (he) λvs U2 h2 he=>?_
 exact Znm W hm hline hob hlen hc ho h h1 hf h2 hr fo λJ2 cy cvs s2 g2 r=>hb.run he fo g2 r
end
def FR (K:Kx)(J:List am)(h:au):Fl->fe->Prop
 | .next,.next=>True
 | .brk,.brk=>True
 | .ret v,.ret cv=>RV K J h v cv
 | _,_=>False
def Up (K:Kx)(A:aj)(T:Tabs)(env:Env)(c:CEnv)(J:List am)(s:ae)(U':H)(k:Nat)(Z':L)(ev:aa)(s':ae):Prop :=
 s'.gens=s.gens/\s'.os=s.os/\∃J',∀outer,A.frames=S5 (env::outer)->Fly K (Yl env) J s J' U' (env::outer) (K.tyv k) (FO K A env c Z' J') ev s'.heap\/
  (T.excs≠[]/\∃G e args,ev=.ref e/\FO K A env c Z' J' G/\HR K J' U' G/\StepX (Yl env) J s J' { s with heap:=G }/\au.MadeExcOf G s'.heap e (K.tyv k) args)
abbrev TQ (K:Kx)(A:aj)(env:Env)(c:CEnv)(J:List am)(s:ae)(f:Fl)(Z':L)(U':H)(cf:fe)(s':ae):Prop:=∃J',HR K J' U' s'.heap/\StepX (Yl env) J s J' s'/\FO K A env c Z' J' s'.heap/\FR K J' s'.heap f cf
abbrev TE (K:Kx)(A:aj)(T:Tabs)(env:Env)(c:CEnv)(J:List am)(s:ae)(f:Fl)(Z':L)(U':H)(ev:aa)(s':ae):Prop:=∃k,f=.exc k/\Up K A T env c J s U' k Z' ev s'
def TS (K:Kx)(A:aj)(T:Tabs)(env:Env)(c:CEnv)(t:Sem fe)(J:List am)(s:ae)(f:Fl)(Z':L)(U':H):Prop :=
 wpAny K.M A t (TQ K A env c J s f Z' U') (TE K A T env c J s f Z' U') s
def PS (K:Kx)(A:aj)(T:Tabs)(env:Env)(c:CEnv)(cl:Cl)(st:bo)(a:St):Prop :=
 ∀Z U f Z' U',exec cl a Z U=S5 (f,Z',U')->∀J s,HR K J U s.heap->FO K A env c Z J s.heap->TS K A T env c (PySem.exec st env) J s f Z' U'
def PSs (K:Kx)(A:aj)(T:Tabs)(env:Env)(c:CEnv)(cl:Cl)(ss:List bo)(a:Ss):Prop :=
 ∀Z U f Z' U',execs cl a Z U=S5 (f,Z',U')->∀J s,HR K J U s.heap->FO K A env c Z J s.heap->TS K A T env c (PySem.execs ss env) J s f Z' U'
theorem Zjl {α:Type}{x:X α}{k:α->H->Y}{f:Fl}(h:Zdf x Z k=S5 (f,Z',U')):(∃a U1,x=S5 (.ok a,U1)/\k a U1=S5 (f,Z',U'))\/∃j,x=S5 (.exc j,U')/\f=.exc j/\Z'=Z:=by
 cases x with
 | none=>exact nn h
 | some p=>
  refine byC λXX=>?_;obtain ⟨q,τ⟩:=p;apply XX
  cases q with
  | ok a=>exact .inl ⟨a,τ,rfl,h⟩
  | exc j=>refine p3E h ?_;exact .inr ⟨j,rfl,rfl,rfl⟩
section
variable {K:Kx}{A:aj}{env:Env}{c:CEnv}{cl:Cl}{T:Tabs}
theorem StepX.then {J2:List am}{s2:ae}(x:StepX (Yl env) J s J1 s1)(fo:FO K A env c Z J1 s1.heap)(y:StepX (Yl env) J1 s1 J2 s2):StepX (Yl env) J s J2 s2:=x.trans y fo.X_some
theorem StepX.heap {X:List am}{G:au}(x:StepX X J s J' { s' with heap:=G }):StepX X J s J' { s with heap:=G }:=⟨x.pre,x.fr,x.fresh,rfl,rfl⟩
theorem Up.then {k:Nat}{ev:aa}(st:StepX (Yl env) J s J1 s1)(fo:FO K A env c Z J1 s1.heap)(u:Up K A T env c J1 s1 U' k Z' ev s'):Up K A T env c J s U' k Z' ev s':=by
 revert u;refine Zus λh1 h2 J' h3=>?_
 refine ⟨h1.trans st.gens,h2.trans st.os,J',λouter hf=>?_⟩
 rcases h3 outer hf with h | ⟨h0,G,e,args,h4,h5,h6,h7,h8⟩
 .exact .inl (h.map λG u_ hP st2=>⟨(st.then fo st2).heap,hP⟩)
 .exact .inr ⟨h0,G,e,args,h4,h5,h6,(st.then fo h7).heap,h8⟩
theorem Flies.up {k:Nat}{ev:aa}(hr:HR K J U s.heap)(fo:FO K A env c Z J s.heap)(f:Flies K A J s U' k ev s'):Up K A T env c J s U' k Z ev s':=by
 revert f;refine Zus λh1 h2 J' h3=>?_
 exact ⟨h1,h2,J',λouter hf=>.inl ((h3 _ hf).map λG u_ v_ st=>⟨st.nil.toX _,fo.step hr st.nil⟩)⟩
theorem Zdk {f:Fl}{e:aq}{g:L->H->X V}{kk:V->H->Y}(h:PX K A env c e g)(he:Zdf (g Z U) Z kk=S5 (f,Z',U'))(hr:HR K J U s.heap)(fo:FO K A env c Z J s.heap){Q:aa->ae->Prop}
  (hq:∀v U1 J1 cv s1,kk v U1=S5 (f,Z',U')->Good K J s J1 U1 s1->RV K J1 s1.heap v cv->Q cv s1):wpAny K.M A (eval e env) Q (TE K A T env c J s f Z' U') s:=by
 rcases Zjl he with ⟨v,U1,h1,h2⟩ | ⟨j,h1,rfl,rfl⟩
 .exact ak (h Z U _ U1 h1 J s hr fo) (λcv s1 hx=>hx.o λJ1 g1 rv=>hq v U1 J1 cv s1 h2 g1 rv) λev s1 hx=>hx.o
 .exact ak (h Z' U _ U' h1 J s hr fo) (λcv s1 hx=>hx.x) λev s1 hx=>⟨j,rfl,hx.x.up hr fo⟩
theorem Zr8:PSs K A T env c cl [] .nil:=by
 intro Z U f Z' U' he J s hr fo
 refine p3E he ?_
 exact c5 ⟨J,hr,StepX.refl _ _ _,fo,trivial⟩
set_option tactic.hygienic true in
theorem Zpd {st:bo}{ss:List bo}{a:St}{b:Ss}(h:PS K A T env c cl st a)(h':PSs K A T env c cl ss b):PSs K A T env c cl (st::ss) (.cons a b):=by
 intro Z U f Z' U' he J s hr fo
 have he:Zea (exec cl a Z U) (λZ1 U1=>execs cl b Z1 U1)=S5 (f,Z',U'):=he
 cases h1:exec cl a Z U with
 | none=>rw[h1] at he;exact nn he
 | some y=>
  refine byC λXX=>?_;obtain ⟨f1,Z1,U1⟩:=y;apply XX;clear XX
  rw[h1] at he
  have hs:=h Z U f1 Z1 U1 h1 J s hr fo
  by_cases hn:f1=.next
  .subst hn
   refine fy (ak hs (λcf s1 hq=>?_) λev s1 hq=>?_)
   .revert hq;refine Zas λJ1 hr1 st1 fo1 hfr=>?_
    cases cf with
    | next=>
     refine ak (h' Z1 U1 f Z' U' he J1 s1 hr1 fo1) (λcf s2 hq=>?_) λev s2 hq=>?_
     .revert hq;refine Zas λJ2 hr2 st2 fo2 hfr2=>?_
      exact ⟨J2,hr2,st1.then fo1 st2,fo2,hfr2⟩
     .revert hq;refine rEA λk e u=>?_;exact ⟨k,e,u.then st1 fo1⟩
    | _=>exact False.elim hfr
   .revert hq;refine rEA λk e u2_=>?_;cases e
  .have e : (f1, Z1, U1) = (f, Z', U') := by
    cases f1 with
    | next=>exact absurd rfl hn
    | _=>exact B0.inj he
   cases e
   refine fy (ak hs (λcf s1 hq=>?_) λev s1 hq=>hq)
   revert hq;refine Zas λJ1 hr1 st1 fo1 hfr=>?_
   cases cf with
   | next=>cases f with
    | next=>exact absurd rfl hn
    | _=>exact False.elim hfr
   | _=>exact ⟨J1,hr1,st1,fo1,hfr⟩
theorem Zr9 {e:aq}{pos:Pos}{a:Ex}(hs:swapsWith e N0 pos.line env=pure F0)(h:PX K A env c e (Jp cl a)):PS K A T env c cl (.Expr e pos) (.expr a):=by
 intro Z U f Z' U' he J s hr fo
 refine wpAny_Expr_any (Zdk h he hr fo λv U1 J1 cv s1 h2 g1 rv=>?_) (by unfold interactive;rw[fo.kind];rfl) hs
 refine p3E h2 ?_
 exact ⟨J1,g1.hr,g1.st.toX _,fo.step hr g1.st,trivial⟩
theorem Zvl {e:aq}{pos:Pos}{a:Ex}(h:PX K A env c e (Jp cl a)):PS K A T env c cl (.Return (S5 e) pos) (.ret a):=by
 intro Z U f Z' U' he J s hr fo
 refine wpAny_Return_some (Zdk h he hr fo λv U1 J1 cv s1 h2 g1 rv=>?_)
 refine p3E h2 ?_
 exact ⟨J1,g1.hr,g1.st.toX _,fo.step hr g1.st,rv⟩
theorem Zsa {pos:Pos}:PS K A T env c cl (.Return N0 pos) (.ret (.lit .none)):=by
 intro Z U f Z' U' he J s hr fo
 refine p3E he ?_
 exact wpAny_Return_none ⟨J,hr,StepX.refl _ _ _,fo,.none⟩
set_option tactic.hygienic true in
theorem Zxp {t:aq}{x y:List bo}{pos:Pos}{a:Ex}{b d:Ss}(ht:PT K A env c cl t a)(hx:PSs K A T env c cl x b)(hy:PSs K A T env c cl y d):PS K A T env c cl (.If t x y pos) (.ife a b d):=by
 intro Z U f Z' U' he J s hr fo
 refine Zhm (he) λv U1 h1 he=>?_
 show wpAny K.M A (do standAt pos;if ← isTrue t env (eval t env) then PySem.execs x env else PySem.execs y env) _ _ s
 refine af (bp (af ?_))
 split at he
 .rename_i hv
  refine ak (ht Z U v U1 T1 h1 hv J s hr fo) (λq s1 hq=>?_) λu_ v_ f=>f.elim
  revert hq;refine rEA λJ1 g1 hO2=>?_;refine eqS hO2 ?_
  refine ak (hx Z U1 f Z' U' he J1 s1 g1.hr (fo.step hr g1.st)) (λcf s2 hq=>?_) λev s2 hq=>?_
  .revert hq;refine Zas λJ2 hr2 st2 fo2 hfr=>?_
   exact ⟨J2,hr2,(g1.st.toX _).then (fo.step hr g1.st) st2,fo2,hfr⟩
  .revert hq;refine rEA λk e u=>?_;exact ⟨k,e,u.then (g1.st.toX _) (fo.step hr g1.st)⟩
 .rename_i hv
  refine ak (ht Z U v U1 F0 h1 hv J s hr fo) (λq s1 hq=>?_) λu_ v_ f=>f.elim
  revert hq;refine rEA λJ1 g1 hO2=>?_;refine eqS hO2 ?_
  refine ak (hy Z U1 f Z' U' he J1 s1 g1.hr (fo.step hr g1.st)) (λcf s2 hq=>?_) λev s2 hq=>?_
  .revert hq;refine Zas λJ2 hr2 st2 fo2 hfr=>?_
   exact ⟨J2,hr2,(g1.st.toX _).then (fo.step hr g1.st) st2,fo2,hfr⟩
  .revert hq;refine rEA λk e u=>?_;exact ⟨k,e,u.then (g1.st.toX _) (fo.step hr g1.st)⟩
 .exact nn he
theorem Zvm {pos:Pos}:PS K A T env c cl (.Break pos) .brk:=by
 intro Z U f Z' U' he J s hr fo
 refine p3E he ?_
 exact wpAny_Break ⟨J,hr,StepX.refl _ _ _,fo,trivial⟩
theorem Zsb {pos:Pos}:PS K A T env c cl (.Pass pos) .pass:=by
 intro Z U f Z' U' he J s hr fo
 refine p3E he ?_
 exact wpAny_Pass ⟨J,hr,StepX.refl _ _ _,fo,trivial⟩
theorem Zd1 {x:Str}{a:am}(h:a=env.locals\/(c.names.lookup x=S5 .cell/\(x,a)∈env.cells)):∀b∈[a],b∈Yl env:=by
 intro b hb
 rw[Bo.mp hb]
 rcases h with rfl | ⟨_,h⟩
 .exact Bf
 .exact Bb _ (C0.mpr ⟨_,h,rfl⟩)
theorem Zpe {x:Str}{px pos:Pos}{e:aq}{i:Nat}{a:Ex}(hs:swapsWith e (S5 (.Name x px)) pos.line env=pure F0)(hx:Wm c x=S5 i)(h:PX K A env c e (Jp cl a)):PS K A T env c cl (.Assign [.Name x px] e pos) (.asg (.one i) a):=by
 intro Z U f Z' U' he J s hr fo
 show wpAny K.M A (PySem.exec (.Assign [.Name x px] e pos) env) _ _ s
 rw[exec_Assign_Name _ _ _ _ _ hs]
 refine af (bp (af (Zdk h he hr fo λv U1 J1 cv s1 h2 g1 rv=>?_)))
 refine Wb ((show (Qn Z i v).map _=_ from h2)) λZ1 hset e=>?_
 cases e
 refine af (bp (af (wpAny_bindName (Jw (fo.step hr g1.st) g1.hr hx hset rv λs2 b hb hr2 st2 fo2=>ar ?_))))
 exact ⟨J1,hr2,(g1.st.toX _).then (fo.step hr g1.st) (st2.weaken (Zd1 hb)),fo2,trivial⟩
end
section
namespace jd
def Sq_ (K:Kx)(A:aj)(env:Env)(c:CEnv)(cl:Cl)(T:Tabs)(x:Str)(px:Pos)(pos:Pos)(elt:aq)(Y4:aq)(y:Str)(py:Pos)(p:Pos)(ifs:List aq)(sc:bh)(a:Ex)(it:It)(fs:Es)(tg:Nat)(i:Nat):Prop:=∀(hh:A.handled=N0) (ok:CompOK c sc) (hfs:∀v,foldedSetIterable Y4 env v=pure v) (hy:Wm (Js c sc) y=S5 tg) (hyl:(Js c sc).names.lookup y=S5 .local) (hI:PI K A env c cl Y4 it) (he:∀cenv,PE K A cenv (Js c sc) cl elt a) (hf:∀cenv,PF K A cenv (Js c sc) cl ifs fs) (hs:swapsWith (.ListComp elt [⟨.Name y py,Y4,ifs,0⟩] sc p) (S5 (.Name x px)) pos.line env=pure T1) (hx:Wm c x=S5 i),PS K A T env c cl (.Assign [.Name x px] (.ListComp elt [⟨.Name y py,Y4,ifs,0⟩] sc p) pos) (.asg (.one i) (.comp a tg it fs))
def pq_:=Wo ⟨(dKx,{},default,Zdz,dCl,Zl7,default,default,default,default,default,default,default,default,[],default,(.lit .none),(.ex (.lit .none)),.nil,0,0)⟩ (Zxe Sq_)
def K:=pq_.1
def A:=pq_.2.1
def env:=pq_.2.2.1
def c:=pq_.2.2.2.1
def cl:=(sk4 pq_).1
def T:=(sk4 pq_).2.1
def x:=(sk4 pq_).2.2.1
def px:=(sk4 pq_).2.2.2.1
def pos:=(sk8 pq_).1
def elt:=(sk8 pq_).2.1
def Y4:=(sk8 pq_).2.2.1
def y:=(sk8 pq_).2.2.2.1
def py:=(sk4 (sk8 pq_)).1
def p:=(sk4 (sk8 pq_)).2.1
def ifs:=(sk4 (sk8 pq_)).2.2.1
def sc:=(sk4 (sk8 pq_)).2.2.2.1
def a:=(X9 pq_).1
def it:=(X9 pq_).2.1
def fs:=(X9 pq_).2.2.1
def tg:=(X9 pq_).2.2.2.1
def i:=sk4 (X9 pq_)
theorem pfq_:Sq_ K A env c cl T x px pos elt Y4 y py p ifs sc a it fs tg i:=by
 intro hh ok hfs hy hyl hI he hf hs hx
 intro Z U f Z' U' hev J s hr fo
 rcases Zjl hev with ⟨v,U1,h1,hev⟩ | ⟨j,h1,_⟩
 rotate_left
 .exact rEA (λu_ e1 v_=>eo e1) (Zhw h1)
 have h1:Zg cl (.comp a tg it fs) Z U=S5 (.ok v,U1):=by refine rEA (λw e1 h2=>?_) (Zhw h1);exact oi e1▸h2
 refine Wb ((show (Qn Z i v).map _=_ from hev)) λZ1 hset e=>?_
 cases e
 refine Ye (h1) λsrc Ua k1 h1=>?_
 refine Ye (h1) λvs U2 k2 h1=>?_
 refine byC λXX=>?_;refine rA (λhO0 hO1=>?_) (okJ h1);subst hO0;subst hO1;apply XX
 show wpAny K.M A (PySem.exec (.Assign [.Name x px] (.ListComp elt [⟨.Name y py,Y4,ifs,0⟩] sc p) pos) env) _ _ s
 rw[exec_Assign_Name_used (env:=env) x px _ pos hs]
 refine af (bp (af ?_))
 unfold evalThenUse
 refine af (Zgo hh ok hfs hy hyl hI he hf k1 k2 hr fo λs' D C J' cacc m e=>?_)
 refine Ud (λJ'' g r hCJ=>?_) (e.done (au.SameBut.refl C s'.heap))
 obtain fo1:=fo.step hr g.st
 refine rE (λm' hnC=>?_) e.ns
 have hcn:∀b∈Yl env,b≠C:=λb hb=>by
  refine rE (λo eo=>?_) (fo.X_some b hb)
  rintro rfl
  rw[e.newC] at eo;exact nn eo
 refine bk (Jw fo1 g.hr hx hset r λs2 b hb hr2 st2 fo2=>?_)
 obtain hbX:=Zd1 hb b Bf
 have hn2:s2.heap.Ns C m':=Ns.ng hnC λo eo=>st2.fr C o eo hCJ λhm=>hcn b hbX (Bo.mp hm).symm
 refine ⟨m',hn2,λh' hs'=>ar (ar ?_)⟩
 have hbut:∀b o,b≠C->s2.heap.get? b=S5 o->h'.get? b=S5 o:=λb o hb e=>(hs'.2 b hb).trans e
 refine ⟨J'',hr2.but hCJ e.c0 (Ns.not_tup hn2) hbut,?_,fo2.butF (λe=>hcn env.locals Bf e.symm) (λy a hy=>hcn a (Bb _ (C0.mpr ⟨_,hy,rfl⟩))) (Ns.not_tup hn2) (λfs hf env' he'=>?_) hbut,trivial⟩
 rotate_left
 .refine Zaz (λu0_ L o h2 u4_ u5_ h5 u7_=>?_) (fo.ff fs hf env' he')
  refine Zaz (λq1 L' o' q2 q3 q4 q5 q6=>?_) (fo2.ff fs hf env' he')
  rw[h2] at q2;obtain rfl:=B0.inj q2
  exact ⟨q1,L,o',h2,q3,q4,hbut _ _ (by rintro rfl;rw[e.newC] at h5;exact nn h5) q5,q6⟩
 have st3:=(g.st.toX (Yl env)).then fo1 (st2.weaken (Zd1 hb))
 exact ⟨st3.pre,λz o ez hz XX=>Wt (λo h=>hbut z o (by rintro rfl;rw[ng_none.mpr e.newC] at ez;exact nn ez) h) (st3.fr z o ez hz XX),st3.fresh,st3.gens,st3.os⟩
end jd
theorem Zjm {K:Kx}{A:aj}{env:Env}{c:CEnv}{cl:Cl}{T:Tabs}{x:Str}{px:Pos}{pos:Pos}{elt:aq}{Y4:aq}{y:Str}{py:Pos}{p:Pos}{ifs:List aq}{sc:bh}{a:Ex}{it:It}{fs:Es}{tg:Nat}{i:Nat}:jd.Sq_ K A env c cl T x px pos elt Y4 y py p ifs sc a it fs tg i:=Yi (S:=Zxe jd.Sq_) jd.pfq_ (K,A,env,c,cl,T,x,px,pos,elt,Y4,y,py,p,ifs,sc,a,it,fs,tg,i)
end
section
variable {K:Kx}{A:aj}{env:Env}{c:CEnv}{cl:Cl}{T:Tabs}
def PTg (K:Kx)(A:aj)(env:Env)(c:CEnv)(t:aq)(g:Tg):Prop:=∀(Z Z1:L) (v:V),Xn g v Z=S5 Z1->∀(J:List am) (U:H) (s:ae) (cv:aa),HR K J U s.heap->FO K A env c Z J s.heap->RV K J s.heap v cv->∀(Q:Unit->ae->Prop) (E:VSP),
 (∀s2,HR K J U s2.heap->StepX (Yl env) J s J s2->FO K A env c Z1 J s2.heap->Q () s2)->wpAny K.M A (assign t env cv) Q E s
theorem Zsc {x:Str}{px:Pos}{i:Nat}(hx:Wm c x=S5 i):PTg K A env c (.Name x px) (.one i):=λZ Z1 v hset J U s cv hr fo rv Q E hq=>bk (Jw fo hr hx hset rv λs2 b hb hr2 st2 fo2=>hq s2 hr2 (st2.weaken (Zd1 hb)) fo2)
theorem Za7 {i:Nat}{is:List Nat}{vs:List V}{Z1:L}(h:Xu (i::is) vs Z=S5 Z1):∃v r Z2,vs=v::r/\Qn Z i v=S5 Z2/\Xu is r Z2=S5 Z1:=by
 cases vs with
 | nil=>exact nn h
 | cons v r=>
  refine Zy ((show (Qn Z i v).bind _=_ from h)) λZ2 h1 h2=>?_
  exact ⟨v,r,Z2,rfl,h1,h2⟩
theorem Zsd (he:au.ExtBut h.objs.size h h'):∀b o,h.get? b=S5 o->h'.get? b=S5 o:=λb o e=>he b o (Ca (au.lt_size e)) e
theorem FO.keeps (fo:FO K A env c Z J s.heap)(hr:HR K J U s.heap)(hk:∀b o,s.heap.get? b=S5 o->h'.get? b=S5 o):FO K A env c Z J h' :=
 fo.step (s':={ s with heap:=h' }) hr ⟨Bt _,λb o e u_=>Qf hk e,λu_ h=>.inl h,rfl,rfl⟩
theorem StepX.keeps (X J:List am)(s:ae)(hk:∀b o,s.heap.get? b=S5 o->h'.get? b=S5 o):StepX X J s J { s with heap:=h' }:=⟨Bt _,λb o e u_ v_=>Qf hk e,λu_ h=>.inl h,rfl,rfl⟩
theorem Zno {x y z:Str}{p q u px:Pos}{k}{i j n:Nat}(hh:A.handled=N0)(hx:Wm c x=S5 i)(hy:Wm c y=S5 j)(hz:Wm c z=S5 n):PTg K A env c (.Tuple [.Name x p,.Name y q,.Name z u] k px) (.three i j n):=by
 intro Z Z1 v hset J U s cv hr fo rv Q E hq
 refine Zy (hset) λvs hv hset=>?_
 obtain rfl:=Zdd hv
 refine byC λXX=>?_;obtain ⟨v1,r,Z2,rfl,e1,hset⟩:=Za7 hset;apply XX
 refine byC λXX=>?_;obtain ⟨v2,r2,Z3,rfl,e2,hset⟩:=Za7 hset;apply XX
 refine byC λXX=>?_;obtain ⟨v3,r3,Z4,rfl,e3,hset⟩:=Za7 hset;apply XX
 have hn:r3=[]/\Z4=Z1:=by
  cases r3 with
  | nil=>exact ⟨rfl,B0.inj hset⟩
  | cons _ _=>exact nn hset
 refine byC λXX=>?_;obtain ⟨rfl,rfl⟩:=hn;apply XX
 refine byC λXX=>?_;obtain ⟨a,cvs,rfl,ha,rvs,hl⟩:=rv.tupI rfl;apply XX
 refine byC λXX=>?_;obtain ⟨c1,cr,rfl,g1,rvs⟩:=rvs.consI;apply XX
 refine byC λXX=>?_;obtain ⟨c2,cr,rfl,g2,rvs⟩:=rvs.consI;apply XX
 refine byC λXX=>?_;obtain ⟨c3,cr,rfl,g3,rvs⟩:=rvs.consI;apply XX
 obtain rfl:=rvs.nilI
 refine assign_Tuple_tuple hh ⟨_,ha,rfl,_,rfl⟩ rfl rfl λh' he=>?_
 have hk:=Zsd he
 have fo1:=fo.keeps hr hk
 show wpAny K.M A (assignInOrder [assign (.Name x p) env,assign (.Name y q) env,assign (.Name z u) env] [c1,c2,c3]) Q E _
 refine ch (bk (Jw fo1 (hr.grow hk) hx e1 (g1.mono (Bt _) λb vs e=>hk _ _ e) λs2 b hb hr2 st2 fo2=>?_))
 have st2':=(StepX.keeps _ _ _ hk).then fo1 (st2.weaken (Zd1 hb))
 refine ch (bk (Jw fo2 hr2 hy e2 (g2.mono (Bt _) (st2'.tups hr fo.X_nt)) λs3 b3 hb3 hr3 st3 fo3=>?_))
 have st3':=st2'.then fo2 (st3.weaken (Zd1 hb3))
 refine ch (bk (Jw fo3 hr3 hz e3 (g3.mono (Bt _) (st3'.tups hr fo.X_nt)) λs4 b4 hb4 hr4 st4 fo4=>?_))
 exact assignInOrder_nil (hq s4 hr4 (st3'.then fo3 (st4.weaken (Zd1 hb4))) fo4)
theorem Zpf {ts:List aq}{k}{px pos:Pos}{e:aq}{tg:Tg}{a:Ex}(hs:swapsWithSole [.Tuple ts k px] e pos.line env=pure F0)(hw:swappedStores [.Tuple ts k px] e env=pure N0)(hx:PTg K A env c (.Tuple ts k px) tg)(h:PX K A env c e (Jp cl a)):PS K A T env c cl (.Assign [.Tuple ts k px] e pos) (.asg tg a):=by
 intro Z U f Z' U' he J s hr fo
 refine Assign_Tuple (Zdk h he hr fo λv U1 J1 cv s1 h2 g1 rv=>?_) hs hw
 refine Wb (h2) λZ1 hset e=>?_
 cases e
 have fo1:=fo.step hr g1.st
 exact hx Z Z' v hset J1 U' s1 cv g1.hr fo1 rv _ _ λs2 hr2 st2 fo2=>⟨J1,hr2,(g1.st.toX _).then fo1 st2,fo2,trivial⟩
end
end Mini.Internal
namespace Mini.Internal
open PySem PyProof.Rows PySem.SeqAt
variable {J J' J1:List am}{U U' U1:H}{s s' s1:ae}{h h':au}{Z Z':L}
section
variable {K:Kx}{A:aj}{env:Env}{c:CEnv}{cl:Cl}{T:Tabs}
theorem ItOK.stepX {I:am}{i:Nat}{src:Src}{k:ItK}(x:ItOK K J I i s.heap src k)(hr:HR K J U s.heap)(fo:FO K A env c Z J s.heap)(hI:I ∉ Yl env)(st:StepX (Yl env) J s J' s'):ItOK K J' I i s'.heap src k:=by
 refine rEA (λo eo u2_=>?_) x.st.obj
 refine x.move st.pre (λo e=>st.ex e x.off hI (x.st.nf e)) (st.tups hr fo.X_nt) λhm=>?_
 rcases st.fresh I hm with h | h
 .exact x.off h
 .rw[eo] at h;exact ns h
def Lp (K:Kx)(A:aj)(env:Env)(c:CEnv)(Jq:Nat->List am->au->Prop)(i:Nat)(J:List am)(U:H)(Z:L)(s:ae):Prop:=Jq i J s.heap/\HR K J U s.heap/\FO K A env c Z J s.heap
structure Drw (K:Kx)(A:aj)(env:Env)(c:CEnv)(te:aq)(iv:aa)(vs:List V)(keep:H->Prop)(Y:List am)(Jq:Nat->List am->au->Prop):Prop where
 ex:∀i J h,Jq i J h->∀b∈Y,∃o,h.get? b=S5 o
 step:∀i J J' U Z s s',Lp K A env c Jq i J U Z s->StepX (Yl env) J s J' s'->Jq i J' s'.heap
 next:∀i J U Z s (Q E:VSP) (R:Option aa->ae->Prop) v,Lp K A env c Jq i J U Z s->keep U->vs[i]?=S5 v->(∀w s1,wpAny K.M A (letOwnedTupleGo te iv w) (λu_ s2=>Q w s2) E s1->R (S5 w) s1)->
  (∀cv s1,StepX Y J s J s1->Lp K A env c Jq (i+1) J U Z s1->RV K J s1.heap v cv->Q cv s1)->wpAny K.M A (pyNext iv) R E s
 done:∀i J U Z s (E:VSP) (R:Option aa->ae->Prop),Lp K A env c Jq i J U Z s->keep U->i=vs.length->(∀s1,StepX Y J s J s1->HR K J U s1.heap->FO K A env c Z J s1.heap->R N0 s1)->wpAny K.M A (pyNext iv) R E s
theorem Good.fin {X Y J2:List am}{U2:H}{s0 s2:ae}(g:Good K J s0 J2 U2 s2)(hY:∀b∈Y,s0.heap.get? b=N0)(st:StepX (Y++X) J2 s2 J' s'):StepX X J s0 J' s':=by
 refine ⟨g.st.pre.trans st.pre,λz o e hz XX=>?_,λz hz=>?_,st.gens.trans g.st.gens,st.os.trans g.st.os⟩
 .refine st.fr z o (g.st.fr z o e hz) (λh=>?_) λh=>?_
  .rcases g.st.fresh z h with h | h
   .exact hz h
   .rw[ng_none.mpr h] at e;exact nn e
  .rcases Bm.mp h with h | h
   .rw[ng_none.mpr (hY z h)] at e;exact nn e
   .exact XX h
 .rcases st.fresh z hz with h | h
  .exact g.st.fresh z h
  .by_cases hr':z∈J
   .exact .inl hr'
   .right
    cases hg:s0.heap.get? z with
    | none=>rfl
    | some o=>have:=g.st.fr z _ (U6 hg) hr';rw[ng_none.mpr h] at this;cases this
theorem Zk4 {t:Sem fe}{f:Fl}(h:∀(Q:fe->ae->Prop) (E:VSP),(∀J' cf s',HR K J' U' s'.heap->StepX (Yl env) J s J' s'->FO K A env c Z' J' s'.heap->FR K J' s'.heap f cf->Q cf s')->wpAny K.M A t Q E s):TS K A T env c t J s f Z' U':=h _ _ λJ' u_ v_ h1 h2 h3 h4=>⟨J',h1,h2,h3,h4⟩
theorem Zpg {α:Type}{t:Sem α}{P:List am->α->ae->Prop}{Q:α->ae->Prop}{E:VSP}(h:TR K A t J s U' P)(k:∀J1 a s1,Good K J s J1 U' s1->P J1 a s1->Q a s1):wpAny K.M A t Q E s :=
 ak h (λa s1 ⟨J1,g,p⟩=>k J1 a s1 g p) λu_ v_ f=>f.elim
set_option tactic.hygienic true
theorem Zph {f1 f:Fl}{cf:fe}{Z2 Zf:L}{U2 Uf:H}{Q:fe->ae->Prop}(h:(f1=.brk/\f=.next\/(∃v,f1=.ret v/\f=.ret v))/\Zf=Z2/\Uf=U2)(hQ:∀cf,FR K J' s'.heap f cf->Q cf s')(fr:FR K J' s'.heap f1 cf) :
  match cf with | .next | .cont=>False | .brk=>Q .next s' | .ret v=>Q (.ret v) s':=by
 rcases h.1 with ⟨e1,e2⟩ | ⟨v,e1,e2⟩
 .rw[e1] at fr;rw[e2] at hQ
  cases cf with
  | brk=>exact hQ .next trivial
  | _=>exact fr.elim
 .rw[e1] at fr;rw[e2] at hQ
  cases cf with
  | ret cv=>exact hQ (.ret cv) fr
  | _=>exact fr.elim
theorem Zgp {y:Y}{k:L->H->Y}{f:Fl}{Zf:L}{Uf:H}(h:Zcl y k=S5 (f,Zf,Uf)):∃f1 Z2 U2,y=S5 (f1,Z2,U2)/\(f1=.next->k Z2 U2=S5 (f,Zf,Uf))/\(f1≠.next->(f1=.brk/\f=.next\/(∃v,f1=.ret v/\f=.ret v))/\Zf=Z2/\Uf=U2):=by
 cases y with
 | none=>exact nn h
 | some z=>
  refine byC λXX=>?_;obtain ⟨f1,Z2,U2⟩:=z;apply XX;clear XX
  refine ⟨f1,Z2,U2,rfl,λe=>?_,λe=>?_⟩
  .rw[e] at h;exact h
  .cases f1 with
   | next=>exact absurd rfl e
   | brk=>refine p3E h ?_;exact ⟨.inl ⟨rfl,rfl⟩,rfl,rfl⟩
   | ret w=>refine p3E h ?_;exact ⟨.inr ⟨w,rfl,rfl⟩,rfl,rfl⟩
   | exc k=>exact nn h
theorem Zvn {body:L->H->Y}{t:Tg}{keep:H->Prop}{v:V}{r:List V}{f:Fl}{Zf:L}{Uf:H}{P:Prop}(h:Qw body t keep (v::r) Z U=S5 (f,Zf,Uf))
  (k1:∀Z1 f1 Z2 U2,Xn t v Z=S5 Z1->body Z1 U=S5 (f1,Z2,U2)->(f1=.next->keep U2/\Qw body t keep r Z2 U2=S5 (f,Zf,Uf))->
   (f1≠.next->(f1=.brk/\f=.next\/(∃v,f1=.ret v/\f=.ret v))/\Zf=Z2/\Uf=U2)->P):P:=by
 refine Zy ((show (Xn t v Z).bind _=_ from h)) λZ1 hset h=>?_
 refine Xk (λf1 Z2 U2 hb h1 h2=>?_) (Zgp h)
 exact k1 Z1 f1 Z2 U2 hset hb (λe=>Y9 (h1 e)) h2
theorem Zmg {f1 f:Fl}{k:Nat}{P:Prop}(h:(f1=.brk/\f=.next\/(∃v,f1=.ret v/\f=.ret v))/\P)(q:f1=.exc k):False:=by
 rw[q] at h
 rcases h.1 with ⟨h,_⟩ | ⟨_,h,_⟩ <;> cases h
set_option tactic.hygienic false
end
section
namespace j9
def S (K:Kx)(A:aj)(env:Env)(c:CEnv)(cl:Cl)(T:Tabs)(te:aq)(iv:aa)(vs:List V)(keep:H->Prop)(Y:List am)(Jq:Nat->List am->au->Prop)(body:List bo)(b:Ss)(J0:List am)(J2:List am)(s0:ae)(s2:ae)(U0:H)(Ue:H)(Ze:L)(Zf:L)(f:Fl)(Uf:H)(E:VSP):Prop:=∀(D:Drw K A env c te iv vs keep Y Jq) {tg:Tg} (hx:PTg K A env c te tg) (hb:PSs K A T env c cl body b) (hr:HR K J0 U0 s0.heap) (fo:FO K A env c Ze J0 s0.heap) (g:Good K J0 s0 J2 Ue s2) (hY:∀b∈Y,s0.heap.get? b=N0) (hJ:Jq 0 J2 s2.heap) (hk:keep Ue) (hev:Qw (execs cl b) tg keep vs Ze Ue=S5 (f,Zf,Uf)) {Q:fe->ae->Prop} (hQ:∀J' cf s',HR K J' Uf s'.heap->StepX (Yl env) J0 s0 J' s'->FO K A env c Zf J' s'.heap->FR K J' s'.heap f cf->Q cf s'),codeAny K.M A (.forLoop te iv body [] env) (λr s'=>match r with | .ok f=>Q f s' | .error e=>cameBackBy K.M A env E e s') s2
def p:=Wo ⟨(dKx,{},default,Zdz,dCl,Zl7,default,.none,[],(λu_=>True),[],(λu_ v_ w_=>True),[],.nil,[],[],{},{},[],[],[],[],.next,[],(λu_ v_=>True))⟩ (Zxg S)
def K:=p.1
def A:=p.2.1
def env:=p.2.2.1
def c:=p.2.2.2.1
def cl:=(sk4 p).1
def T:=(sk4 p).2.1
def te:=(sk4 p).2.2.1
def iv:=(sk4 p).2.2.2.1
def vs:=(sk8 p).1
def keep:=(sk8 p).2.1
def Y:=(sk8 p).2.2.1
def Jq:=(sk8 p).2.2.2.1
def body:=(sk4 (sk8 p)).1
def b:=(sk4 (sk8 p)).2.1
def J0:=(sk4 (sk8 p)).2.2.1
def J2:=(sk4 (sk8 p)).2.2.2.1
def s0:=(X9 p).1
def s2:=(X9 p).2.1
def U0:=(X9 p).2.2.1
def Ue:=(X9 p).2.2.2.1
def Ze:=(sk4 (X9 p)).1
def Zf:=(sk4 (X9 p)).2.1
def f:=(sk4 (X9 p)).2.2.1
def Uf:=(sk4 (X9 p)).2.2.2.1
def E:=sk8 (X9 p)
set_option tactic.hygienic true in
theorem pf:S K A env c cl T te iv vs keep Y Jq body b J0 J2 s0 s2 U0 Ue Ze Zf f Uf E:=by
 intro D tg hx hb hr fo g hY hJ hk hev Q hQ
 obtain wk:∀z∈Yl env,z∈Y++Yl env:=λz h=>Ce _ h
 obtain ex:∀{i J Ue Ze s},Lp K A env c Jq i J Ue Ze s->∀z∈Y++Yl env,∃o,s.heap.get? z=S5 o:=λl z hz=>(Bm.mp hz).elim (D.ex _ _ _ l.1 z) (l.2.2.X_some z)
 refine codeAny_forLoop_any (λn s=>∃i J' U' Z',(n=vs.length-i/\i<=vs.length)/\Lp K A env c Jq i J' U' Z' s/\StepX (Y++Yl env) J2 s2 J' s/\keep U'/\Qw (execs cl b) tg keep (vs.drop i) Z' U'=S5 (f,Zf,Uf)) (λn s hJ=>?_) (vs.length-0) ⟨0,J2,Ue,Ze,⟨rfl,C9 _⟩,⟨hJ,g.hr,fo.step hr g.st⟩,StepX.refl _ _ _,hk,hev⟩
 refine byC λXX=>?_;obtain ⟨i,J',U',Z',hn,l,st,hk,hrun⟩:=hJ;apply XX;clear XX
 obtain wy:=λs1 (st1:StepX Y J' s J' s1)=>st.trans (st1.weaken λz h=>C7 _ h) (ex l)
 rcases Dc i vs.length with hi | hi
 .rw[Ci hi] at hrun
  refine Zvn hrun λZ1 f1 Z2 U2 hset hbody h4 h5=>?_
  refine D.next i J' U' Z' s _ _ _ _ l hk (Bl hi) (λw s1 h=>h) λcv s1 st1 l1 rv=>?_
  refine hx Z' Z1 _ hset J' U' s1 cv l1.2.1 l1.2.2 rv _ _ λsB hrB stB foB=>?_
  obtain lB:Lp K A env c Jq (i+1) J' U' Z1 sB:=⟨D.step _ _ _ _ _ _ _ l1 stB,hrB,foB⟩
  refine ak (hb Z1 U' f1 Z2 U2 hbody J' sB hrB foB) (λcf sC hq=>?_) λu_ v_ hx=>?_
  .refine byC λXX=>?_;obtain ⟨JC,hrC,stC,foC,frC⟩:=hq;apply XX;clear XX
   obtain stE:=((wy s1 st1).trans (stB.weaken wk) (ex l1)).trans (stC.weaken wk) (ex lB)
   by_cases e:f1=.next
   .rw[e] at frC
    cases cf with
    | next=>exact ⟨vs.length-(i+1),hn.1▸Nat.sub_lt_sub_left hi (Cu i),i+1,JC,U2,Z2,⟨rfl,hi⟩,⟨D.step _ _ _ _ _ _ _ lB stC,hrC,foC⟩,stE,(h4 e).1,(h4 e).2⟩
    | _=>exact frC.elim
   .have:=Zph (Q:=Q) (h5 e) (λcf' hf'=>hQ JC cf' sC ((h5 e).2.2▸hrC) (g.fin hY stE) ((h5 e).2.1▸foC) hf') frC
    cases cf with
    | next=>exact this.elim
    | cont=>exact this.elim
    | brk=>exact this
    | ret v=>exact this
  .refine byC λXX=>?_;obtain ⟨kk,e,_⟩:=hx;apply XX;clear XX
   exact (Zmg (h5 (by rw[e];intro h;cases h)) e).elim
 .rw[List.drop_eq_nil_of_le hi] at hrun
  obtain e:=pJ3 (show S5 (Fl.next,Z',U')=S5 (f,Zf,Uf) from hrun)
  exact D.done i J' U' Z' s _ _ l hk (Gp hn.2 hi) λs1 st1 hr1 fo1=>c5 (hQ J' .next s1 (e.2.2▸hr1) (g.fin hY (wy s1 st1)) (e.2.1▸fo1) (e.1▸trivial))
end j9
theorem Zse {K:Kx}{A:aj}{env:Env}{c:CEnv}{cl:Cl}{T:Tabs}{te:aq}{iv:aa}{vs:List V}{keep:H->Prop}{Y:List am}{Jq:Nat->List am->au->Prop}{body:List bo}{b:Ss}{J0:List am}{J2:List am}{s0:ae}{s2:ae}{U0:H}{Zf:L}{f:Fl}{Uf:H}{E:VSP}:j9.S K A env c cl T te iv vs keep Y Jq body b J0 J2 s0 s2 U0 U Z Zf f Uf E:=Yi (S:=Zxg j9.S) j9.pf (K,A,env,c,cl,T,te,iv,vs,keep,Y,Jq,body,b,J0,J2,s0,s2,U0,U,Z,Zf,f,Uf,E)
end
section
variable {K:Kx}{A:aj}{env:Env}{c:CEnv}{cl:Cl}{T:Tabs}
theorem FO.out (fo:FO K A env c Z J h){b:am}(hb:h.get? b=N0):b ∉ Yl env:=λhm=>by
 refine byC λXX=>?_;obtain ⟨o,e⟩:=fo.X_some b hm;apply XX
 rw[hb] at e;exact nn e
theorem FO.off (fo:FO K A env c Z J h){I:am}(hI:I ∉ Yl env)(hnt:∀vs,h.get? I≠S5 (Z6 vs))(hnd:∀o,h.get? I=S5 o->¬ dy o)(hk:∀b o,b≠I->h.get? b=S5 o->h'.get? b=S5 o):FO K A env c Z J h' :=
 fo.but (λe=>hI (by rw[e];exact Bf)) (λy a hy e=>hI (by rw[← e];exact Bb _ (C0.mpr ⟨_,hy,rfl⟩))) hnt hnd hk
theorem ItOK.fo {I:am}{i:Nat}{src:Src}{k:ItK}(x:ItOK K J I i h src k)(fo:FO K A env c Z J h)(hI:I ∉ Yl env)(hk:∀b o,b≠I->h.get? b=S5 o->h'.get? b=S5 o):FO K A env c Z J h':=fo.off hI x.not_tup (λu_ e=>x.st.nf e) hk
theorem ItSt.cls {I:am} {i:Nat} {k:ItK} (x:ItSt K J I i h k):∃ o n,h.get? I=S5 o /\ o.cls=.type n /\ (["enumerate","zip","dict_itemiterator","dict_reverseitemiterator","odict_iterator","itertools.zip_longest","itertools.pairwise"].contains n)=F0:=by
 cases k with
 | list n ax=>revert x;refine Zok λu0_ o e hc u4_=>?_;exact ⟨o,_,e,hc,by decide⟩
 | tup ax cvs=>revert x;refine rA λhO0 u1_=>?_;revert hO0;refine Ud λo e hc u3_=>?_;exact ⟨o,_,e,hc,by decide⟩
 | frz ax cvs m=>revert x;refine rA λhO0 u1_=>?_;revert hO0;refine Ud λo e hc u3_=>?_;exact ⟨o,_,e,hc,by decide⟩
 | rng a m=>exact ⟨_,_,x,rfl,by decide⟩
set_option tactic.hygienic true in
theorem Zxq {te:aq}{I:am}{i:Nat}{v:aa}{k:ItK}{Q:Unit->ae->Prop}{E:VSP}(x:ItSt K J I i s.heap k)(hQ:Q () s):wpAny K.M A (letOwnedTupleGo te (.ref I) v) Q E s:=by
 refine Yn (λo n ho hc hn=>?_) x.cls
 have fin : ∀ (a : am), wpAny K.M A (do
   let o ← load I
   match o.cls,o.data with
   | .type n,.fields vs=>
    if ["enumerate","zip","dict_itemiterator","dict_reverseitemiterator","odict_iterator","itertools.zip_longest","itertools.pairwise"].contains n && vs[0]?==S5 (rawInt a) then
     rule "for.unpacks-the-owned-tuple"
     updateField I 0 .none
   | _,_=>pure ()) Q E s:=λa=>by
  refine af (wpAny_load ho ?_)
  rw[hc]
  split
  .rename_i n' vs e1 e2
   cases e1
   rw[hn,Bool.false_and,gq (by decide)]
   exact ar hQ
  .exact ar hQ
 cases te with
 | Tuple es k p=>
  cases v with
  | ref a=>exact fin a
  | _=>exact ar hQ
 | List es p=>
  cases v with
  | ref a=>exact fin a
  | _=>exact ar hQ
 | _=>exact ar hQ
set_option tactic.hygienic true in
theorem Zvo {te:aq}{src:Src}{k:ItK}{I:am}(hh:A.handled=N0)(hI:I ∉ Yl env):Drw K A env c te (.ref I) src.vs src.keep [I] (λi J h=>ItOK K J I i h src k) where
 ex:=λi J h x b hb=>by rw[Bo.mp hb];exact rEA (λo e u_=>⟨o,e⟩) x.st.obj
 step:=λi J J' U Z s s' l st=>l.1.stepX l.2.1 l.2.2 hI st
 next:=λi J U Z s Q E R v l hk hv hR hq=>Zmd hh l.1 l.2.1 hk hv λcv h' tk hk1 hr1 rv1 it1=>hR _ _ (Zxq (s:={ s with heap:=h',toks:=tk }) it1.st (hq cv _ (StepX.one hk1) ⟨it1,hr1,l.1.fo l.2.2 hI hk1⟩ rv1))
 done:=λi J U Z s E R l hk hv hq=>Zme hh l.1 l.2.1 hk hv λh' tk hk1 hr1=>hq _ (StepX.one hk1) hr1 (l.1.fo l.2.2 hI hk1)
theorem Zvp {te:aq}{pos:Pos}{Y4:aq}{it:It}{body:List bo}{b:Ss}{tg:Tg}(hh:A.handled=N0)(hfs:∀v,foldedSetIterable Y4 env v=pure v)(hx:PTg K A env c te tg)(hI:PI K A env c cl Y4 it)(hb:PSs K A T env c cl body b) :
  PS K A T env c cl (.For te Y4 body [] pos) (.for_ tg it b):=by
 intro Z U f Zf Uf hev J s0 hr fo
 refine Zhm (hev) λsrc U1 h1 hev=>?_
 refine Zk4 λQ E hQ=>?_
 refine wpAny_For (ak (hI Z U src U1 h1 J s0 hr fo) (λxv s1 hq=>ak hq (λitv s2 hq=>?_) λu_ v_ f=>f.elim) λu_ v_ f=>f.elim) hfs
 refine byC λXX=>?_;obtain ⟨J2,I,k,rfl,g2,itok,hkeep,hIn⟩:=hq;apply XX
 exact Zse (Zvo hh (fo.out hIn)) hx hb hr fo g2 (λb hb=>Bo.mp hb▸hIn) itok hkeep hev hQ
set_option tactic.hygienic true in
theorem Zpi {test:L->H->X V}{body:L->H->Y}{n:Nat}{f:Fl}{Zf:L}{Uf:H}{P:Prop}(h:Xl test body n Z U=S5 (f,Zf,Uf))
  (k0:∀v U1,test Z U=S5 (.ok v,U1)->Wz v=S5 F0->f=.next->Zf=Z->Uf=U1->P)
  (k1:∀m v U1 f1 Z2 U2,m<n->test Z U=S5 (.ok v,U1)->Wz v=S5 T1->body Z U1=S5 (f1,Z2,U2)->
   (f1=.next->Xl test body m Z2 U2=S5 (f,Zf,Uf))->(f1≠.next->(f1=.brk/\f=.next\/(∃v,f1=.ret v/\f=.ret v))/\Zf=Z2/\Uf=U2)->P):P:=by
 cases n with
 | zero=>exact nn h
 | succ n=>
  refine Zhm ((show Zgd (test Z U) _=_ from h)) λv U1 ht h=>?_
  refine Zy (h) λb hv h=>?_
  cases b with
  | false=>exact rAA (λe1 e2 e3=>k0 v U1 ht hv e1.symm e2.symm e3.symm) (pJ3 h)
  | true=>
   refine Xk (λf1 Z2 U2 hb h1 h2=>?_) (Zgp (show Zcl (body Z U1) _=_ from h))
   exact k1 n v U1 f1 Z2 U2 (Cu n) ht hv hb h1 h2
end
section
namespace je
def S (K:Kx)(A:aj)(env:Env)(c:CEnv)(cl:Cl)(T:Tabs)(t:aq)(body:List bo)(pos:Pos)(a:Ex)(b:Ss):Prop:=∀(ht:PT K A env c cl t a) (hb:PSs K A T env c cl body b),PS K A T env c cl (.While t body [] pos) (.whl a b)
def p:=Wo ⟨(dKx,{},default,Zdz,dCl,Zl7,default,[],default,(.lit .none),.nil)⟩ (Zuv S)
def K:=p.1
def A:=p.2.1
def env:=p.2.2.1
def c:=p.2.2.2.1
def cl:=(sk4 p).1
def T:=(sk4 p).2.1
def t:=(sk4 p).2.2.1
def body:=(sk4 p).2.2.2.1
def pos:=(sk8 p).1
def a:=(sk8 p).2.1
def b:=(sk8 p).2.2
set_option tactic.hygienic true in
theorem pf:S K A env c cl T t body pos a b:=by
 intro ht hb
 intro Z U f Zf Uf hev J s hr fo
 refine Zk4 λQ E hQ=>?_
 refine wpAny_While (codeAny_whileLoop (λn s'=>∃J' U' Z',Xl (Zg cl a) (execs cl b) n Z' U'=S5 (f,Zf,Uf)/\HR K J' U' s'.heap/\StepX (Yl env) J s J' s'/\FO K A env c Z' J' s'.heap) (λn s' hI=>?_) Za3 ⟨J,U,Z,hev,hr,StepX.refl _ _ _,fo⟩)
 revert hI;refine Xp λJ' U' Z' hrun hr' st' fo'=>?_
 refine Zpi hrun (λv U1 h1 h2 e1 e2 e3=>Zpg (ht Z' U' v U1 F0 h1 h2 J' s' hr' fo') λJ1 q s1 g1 hq=>?_) λm v U1 f1 Z2 U2 hm h1 h2 h3 h4 h5=>Zpg (ht Z' U' v U1 T1 h1 h2 J' s' hr' fo') λJ1 q s1 g1 hq=>?_
 .rw[hq]
  exact c5 (hQ J1 .next s1 (e3▸g1.hr) (st'.then fo' (g1.st.toX _)) (e2▸fo'.step hr' g1.st) (e1▸trivial))
 .rw[hq]
  obtain fo1:=fo'.step hr' g1.st
  obtain st1:=st'.then fo' (g1.st.toX _)
  refine ak (hb Z' U1 f1 Z2 U2 h3 J1 s1 g1.hr fo1) (λcf sC hq=>?_) λu_ v_ hx=>?_
  .revert hq;refine Zas λJC hrC stC foC frC=>?_
   by_cases e:f1=.next
   .rw[e] at frC
    cases cf with
    | next=>exact ⟨m,hm,JC,U2,Z2,h4 e,hrC,st1.then fo1 stC,foC⟩
    | _=>exact frC.elim
   .have:=Zph (Q:=Q) (h5 e) (λcf' hf'=>hQ JC cf' sC ((h5 e).2.2▸hrC) (st1.then fo1 stC) ((h5 e).2.1▸foC) hf') frC
    cases cf with
    | next=>exact this.elim
    | cont=>exact this.elim
    | brk=>exact this
    | ret v=>exact this
  .revert hx;refine rEA λkk e u2_=>?_
   exact (Zmg (h5 (by rw[e];intro h;cases h)) e).elim
end je
theorem Zpj {K:Kx}{A:aj}{env:Env}{c:CEnv}{cl:Cl}{T:Tabs}{t:aq}{body:List bo}{pos:Pos}{a:Ex}{b:Ss}:je.S K A env c cl T t body pos a b:=Yi (S:=Zuv je.S) je.pf (K,A,env,c,cl,T,t,body,pos,a,b)
end
section
variable {K:Kx}{A:aj}{env:Env}{c:CEnv}{cl:Cl}{T:Tabs}
end
end Mini.Internal
namespace Mini.Internal
open PySem PyProof.Rows PySem.SeqAt PySem.W
variable {J J' J1:List am}{U U' U1:H}{s s' s1:ae}{h h':au}{Z Z':L}
theorem Zcs {k:Nat}{v:V}(j:Nat):∀l:List (Nat×V),(Zck l k v).lookup j=if j=k then S5 v else l.lookup j
 | []=>by
  show (match j == k with | true=>S5 v | false=>K1 j [])=_
  by_cases h:j=k
  .subst h;simp
  .have:(j == k)=F0:=by simpa using h
   rw[this,gq h]
 | (b,w)::r=>by
  have ih:=Zcs j (k:=k) (v:=v) r
  by_cases hb:b=k
  .subst hb
   show (if b=b then (b,v)::r else _).lookup j=_
   rw[gp rfl]
   by_cases h:j=b
   .subst h;simp[K1]
   .have:(j == b)=F0:=by simpa using h
    simp[K1,this,h]
  .show (if b=k then (b,v)::r else (b,w)::Zck r k v).lookup j=_
   rw[gq hb]
   by_cases h:j=b
   .subst h;simp[K1,hb]
   .have:(j == b)=F0:=by simpa using h
    simp only[K1,this,ih]
theorem Zsf {k:Nat}(h:k<2):atn k∈[atn 0,atn 1]:=by
 obtain this:k=0\/k=1:=Na 0x10d80b80a7021ecbba1a11ba11a011 Tt h
 rcases this with rfl | rfl <;> simp
theorem Zsg {j k:Nat}(hj:j<2)(hk:k<2)(h:atn j=atn k):j=k:=by
 obtain a:j=0\/j=1:=Na 0x10d80b80a7021ecbba1a11ba11a011 Tt hj
 obtain b:k=0\/k=1:=Na 0x10d80b80a7021ecbba1a11ba11a011 Tt hk
 rcases a with rfl | rfl <;> rcases b with rfl | rfl
 .rfl
 .exact absurd h Zox
 .exact absurd h.symm Zox
 .rfl
structure EK (K:Kx)(T:Tabs):Prop where
 at_:∀ x k,T.excs.lookup x=S5 k -> ∃ C B newId initId bmB mg,K.tyv k=.ref C /\ ExcBaseFacts B newId initId bmB /\ bmB.contains (.type "BaseException")=T1 /\ OwnClsQ x C bmB newId mg K.h0
 sub:∀x t k,T.excs.lookup x=S5 t->Za1 k t=T1->(∃y,T.excs.lookup y=S5 k)/\∀C D,K.tyv k=.ref C->K.tyv t=.ref D->∃o cd,K.h0.get? C=S5 o/\o.data=.cls cd/\cd.mro.contains (.ref D)=T1
section
variable {M:Model}{A:aj}{E:VSP}{nm q nm' q':Str}{C N D N':am}{bs bm bs' bm':List aa}{hdct hdct':Bool}{sn sn':List Str}{sub sub':List aa}{ab ab':Bool}{col col':Option Bool}{dd dd':Option am}{k0 k1 k2 k3 k5 j0 j1 j2 j3 j5:Option aa}{newId newId':String}
theorem Zsh {g:Array f9}{d:Drawn}{t:Nat}{os:fp}{e:am}{oe:Obj}{Q:Bool->ae->Prop}
  (hC:h.get? C=S5 (excClassObj nm q C N bs bm hdct sn sub ab col dd k0 k1 k2 k3 k5 newId)) (hD:h.get? D=S5 (excClassObj nm' q' D N' bs' bm' hdct' sn' sub' ab' col' dd' j0 j1 j2 j3 j5 newId')) (he:h.get? e=S5 oe) (hcls:oe.cls=.ref C) (hbase:bm'.contains (.type "BaseException")=T1)
  (hcD:(aa.ref C::bm).contains (.ref D)=T1) (hq:Q T1 ⟨h,g,d,t,os⟩):wpAny M A (excMatches (.ref e) (.ref D)) Q E ⟨h,g,d,t,os⟩:=by
 obtain hcB:(aa.ref D ::bm').contains (.type "BaseException")=T1:=by rw [Im,hbase,Bool.or_true]
 have f:=tc_notTuple
 unfold excMatches
 repeat (first | (with_reducible refine ba he ?_;rw[hcls]) | with_reducible refine ba hD ?_ | (with_reducible refine bu hD ?_;rw[hcB]) | (with_reducible refine bu hC ?_;rw[hcD]) | wp_step)
 exact hq
end
section
variable {K:Kx}{A:aj}{env:Env}{c:CEnv}{cl:Cl}{T:Tabs}
end
section
namespace jc
def Sq_ (K:Kx)(A:aj)(env:Env)(c:CEnv)(cl:Cl)(T:Tabs)(o:aq)(Zed:Pos)(pos:Pos)(e:aq)(a:Ex)(b:Ex)(k:Nat):Prop:=∀(W:WK K T cl.pg) {x:Str} (hs:swapsWith e (S5 (.Attribute o x Zed)) pos.line env=pure F0) (hk:T.attrs.lookup x=S5 k) (h:PX K A env c e (Jp cl a)) (ho:PE K A env c cl o b),PS K A T env c cl (.Assign [.Attribute o x Zed] e pos) (.aset b k a)
def pq_:=Wo ⟨(dKx,{},default,Zdz,dCl,Zl7,default,default,default,default,(.lit .none),(.lit .none),0)⟩ (Zna Sq_)
def K:=pq_.1
def A:=pq_.2.1
def env:=pq_.2.2.1
def c:=pq_.2.2.2.1
def cl:=(sk4 pq_).1
def T:=(sk4 pq_).2.1
def o:=(sk4 pq_).2.2.1
def Zed:=(sk4 pq_).2.2.2.1
def pos:=(sk8 pq_).1
def e:=(sk8 pq_).2.1
def a:=(sk8 pq_).2.2.1
def b:=(sk8 pq_).2.2.2.1
def k:=sk4 (sk8 pq_)
theorem pfq_:Sq_ K A env c cl T o Zed pos e a b k:=by
 intro W x hs hk h ho
 intro Z U f Z' U' he J s hr fo
 refine plainObj_wpAny_Assign_Attribute (Zdk h he hr fo λv U1 J1 cv s1 h2 g1 rv=>?_) hs
 refine Zhm (h2) λy U2 h3 h4=>?_
 refine Wb (h4) λp hp e=>?_
 cases e
 refine byC λXX=>?_;refine Yn (λn cn hO2 i1 i2=>?_) (Zji hp);subst hO2;apply XX
 refine ak (ho _ U1 _ U2 h3 J1 s1 g1.hr (fo.step hr g1.st)) (λco s2 hq=>?_) λu_ v_ f=>f.elim
 revert hq;refine rEA λJ2 g2 rx=>?_
 refine byC λXX=>?_;refine rA (λhk2 hO1=>?_) (W.attr x k hk);subst hO1;apply XX
 refine byC λXX=>?_;refine rEA (λax hO1 ha=>?_) (rx.objI rfl);subst hO1;apply XX
 refine Ql (λC ad m ob e1 e2 e3 e4 e5 e6 e7 e8 e9=>?_) (g2.hr.inst i1 i2 ha)
 refine Zes (λN mN w1 w2 w3 w4 w5 u7_=>?_) (W.cls cn C e1)
 refine Xa (λnm q bs sn sub col dd k0 k1 k2' k3 k5 hC=>?_) w1.obj
 have hxC:ax≠C:=by rintro rfl;have:=g2.hr.new ax (Bw ha);rw[this] at hC;exact nn hC
 have g:=g1.trans g2
 have rv2:=rv.step g1.hr g2.st
 refine byC λXX=>?_;obtain ⟨hh,gg,dr,t,os⟩:=s2;apply XX
 refine store_attr PySem.F.store_object (g2.hr.keep _ _ hC) (w1.keeps g2.hr.keep).ns w4 (w5 k hk2) (Zo8 k) hxC e2 (λh' tk' I' hk' hsame=>?_) (hw:=e8)
 refine Zut (λo1 q1 q2 q3 q4 q5=>?_) (hsame ob e4)
 have hoo:o1=ob:=by
  have q6:=q5 ad e5
  refine byC λXX=>?_;obtain ⟨a1,a2,a3,a4⟩:=o1;apply XX
  refine byC λXX=>?_;obtain ⟨b1,b2,b3,b4⟩:=ob;apply XX
  simp only at q2 q3 q4 q6 e5
  rw[q2,q3,q4,q6,e5]
 subst hoo
 have hkk:∀b o,b≠ad->hh.get? b=S5 o->h'.get? b=S5 o:=λb o hb eb=>by
  by_cases hbx:b=ax
  .subst hbx
   have eb':S5 o1=S5 o:=e4.symm.trans eb
   refine siE eb' ?_;exact q1
  .exact hk' b o hbx (λo0 dx z1 z2 => by
    have:S5 o1=S5 o0:=e4.symm.trans z1
    obtain rfl:=B0.inj this;rw[e5] at z2;refine siE z2 ?_;exact hb) eb
 revert I';refine Zas λo2 y1 y2 y3 y4=>?_
 have:S5 o1=S5 o2:=q1.symm.trans y1
 obtain rfl:=B0.inj this
 obtain ⟨d',y5,y6,y7⟩ : ∃d',o1.dict=S5 d'/\d'≠ax/\h'.Ns1 d' λy=>if y=atn k then S5 cv else m y:=by
  rcases y4 with ⟨h0,_⟩ | h0
  .rw[h0] at e5;exact nn e5
  .exact h0
 rw[e5] at y5;obtain rfl:=B0.inj y5
 have hnt:=g2.hr.nt (Bw e3)
 have hor:OR K J2 h' ad (.ns (Zck p.2 k v)):=by
  refine ⟨_,y7,λz hz=>?_,λj w hj=>?_⟩
  .by_cases hzk:z=atn k
   .rw[hzk];exact Zsf hk2
   .rw[gq hzk] at hz;exact e8 z hz
  .rw[Zcs] at hj
   by_cases hjk:j=k
   .subst hjk
    rw[gp rfl] at hj;refine siE hj ?_
    exact ⟨hk2,cv,gp rfl,rv2.but hnt hkk⟩
   .rw[gq hjk] at hj
    refine Ziq (λhj2 cw z1 z2=>?_) (e9 j w hj)
    exact ⟨hj2,cw,by rw[gq λe=>hjk (Zsg hj2 hk2 e)];exact z1,z2.but hnt hkk⟩
 have st3:Step J2 ⟨hh,gg,dr,t,os⟩ J2 ⟨h',gg,dr,tk',os⟩:=Step.set (s:=⟨hh,gg,dr,t,os⟩) (Bw e3) hkk
 have st:=g.st.trans st3
 exact ⟨J2,g2.hr.setO i2 e3 hor hkk,st.toX _,fo.step hr st,trivial⟩
end jc
theorem Zsi {K:Kx}{A:aj}{env:Env}{c:CEnv}{cl:Cl}{T:Tabs}{o:aq}{Zed:Pos}{pos:Pos}{e:aq}{a:Ex}{b:Ex}{k:Nat}:jc.Sq_ K A env c cl T o Zed pos e a b k:=Yi (S:=Zna jc.Sq_) jc.pfq_ (K,A,env,c,cl,T,o,Zed,pos,e,a,b,k)
end
section
variable {K:Kx}{A:aj}{env:Env}{c:CEnv}{cl:Cl}{T:Tabs}
theorem Zpk (G:GK K T)(X:EK K T)(hh:A.handled=N0){x:Str}{np cpos pos:Pos}{e1:aq}{v1:V}{k:Nat}(hg:Jk c x=T1)(hk:T.excs.lookup x=S5 k)(hc:Zag [e1])(h1:PEs K A env c cl [e1] (.cons (.lit v1) .nil)) :
  PS K A T env c cl (.Raise (S5 (.Call (.Name x np) [e1] [] cpos)) N0 pos) (.raise k):=by
 intro Z U f Z' U' he J s hr fo
 refine p3E he ?_
 refine Zb1 (λC B newId initId bmB mg' hC FB hbB O=>?_) (X.at_ x k hk)
 refine J5 (λbm N nm q bs hdct sn sub ab col dd k0 k1 k2 k3 k5 mN hCo hN hq TQ=>?_) O.obj
 refine wpAny_Raise_call_subT FB (C:=C) (N:=N) (mN:=mN) (nm:=nm) (q:=q) (bs:=bs) (bm:=bm) (hdct:=hdct) (sn:=sn) (sub:=sub) (ab:=ab) (col:=col) (dd:=dd) (k0:=k0) (k1:=k1) (k2:=k2) (k3:=k3) (k5:=k5) (TQ.tail.hasType hbB) hh (by rw[Y6 hc];rfl) (hq _ (.head _)) ?_
 obtain fin : wpAny K.M A (evalArgs (.ref C) T1 (backTo cpos (starEach [e1] env)) [])
   (λa s₂=>a.kw=[]/\a.pos.length<=sizeLine/\s₂.heap.get? C=S5 (excClassObj nm q C N bs bm hdct sn sub ab col dd k0 k1 k2 k3 k5 newId)/\s₂.heap.Ns N mN/\OwnTail s₂.heap bmB bm/\
    ∀h' e,au.MadeExcOf s₂.heap h' e (.ref C) a.pos->∃j,Fl.exc k=.exc j/\Up K A T env c J s U j Z (.ref e) { s₂ with heap:=h' }) (λev s'=>∃j,Fl.exc k=.exc j/\Up K A T env c J s U j Z ev s') s:=by
  rw[Y6 hc]
  refine Xc (Zfa (pos:=cpos) hc h1 (Z:=Z) (U:=U) (U1:=U) (vs:=[v1]) rfl hr fo λJ1 cvs s1 g1 rvs=>?_)
  obtain hl:=rvs.length
  refine ⟨rfl,(by show cvs.length<=sizeLine;rw[← hl,sizeLine_eq];exact By rfl),g1.hr.keep _ _ hCo,hN.keeps g1.hr.keep,TQ.tail.keeps g1.hr.keep,λh' e hm=>⟨k,rfl,g1.st.gens,g1.st.os,J1,λouter hf=>.inr ⟨λh0=>(by rw[h0] at hk;exact nn hk),s1.heap,e,_,rfl,fo.step hr g1.st,g1.hr,(g1.st.toX _).heap,hC▸hm⟩⟩⟩
 exact Wh hr fo hg (G.ex x k hk) ⟨hC,fin⟩
theorem FO.mark (hd:Option aa)(x:FO K A env c Z J h):FO K (A.mark hd) env c Z J h:=⟨x.kind,x.names,x.glob,x.blts,x.ns,x.cell,x.inj,x.capart,x.lnew,x.free,x.lt,x.ff,x.cnew⟩
theorem FO.unmark {hd:Option aa}(x:FO K (A.mark hd) env c Z J h):FO K A env c Z J h:=⟨x.kind,x.names,x.glob,x.blts,x.ns,x.cell,x.inj,x.capart,x.lnew,x.free,x.lt,x.ff,x.cnew⟩
theorem Zsj (X:EK K T){x:Str}{k j:Nat}(hk:T.excs.lookup x=S5 k)(hsub:Za1 j k=T1)(keep:∀b o,K.h0.get? b=S5 o->s.heap.get? b=S5 o){e:am}{oe:Obj}(hoe:s.heap.get? e=S5 oe)(hoec:oe.cls=K.tyv j)
  {Q:Bool->ae->Prop}{E:VSP}{A:aj} (hR:Q T1 s):wpAny K.M A (excMatches (.ref e) (K.tyv k)) Q E s:=by
 refine rA (λhO0 hmt=>?_) (X.sub x k j hk hsub);revert hO0;refine rE λyn hyn=>?_
 refine Zb1 (λCj Bj newIdj initIdj bmBj mgj hCj FBj hbBj Oj=>?_) (X.at_ yn j hyn)
 refine Zb1 (λCk Bk newIdk initIdk bmBk mgk hCk FBk hbBk Ok=>?_) (X.at_ x k hk)
 refine Uv (λbmj Nj nmj qj bsj hdj snj subj abj colj ddj a0 a1 a2 a3 a5 mNj oj u18_=>?_) Oj.obj
 refine J5 (λbmk Nk nmk qk bsk hdk snk subk abk colk ddk b0 b1 b2 b3 b5 mNk ok u18_ u19_ TQk=>?_) Ok.obj
 refine Yn (λom cdm m1 m2 m3=>?_) (hmt Cj Ck hCj hCk)
 rw[oj] at m1;cases m1;cases m2
 rw[hCj] at hoec
 rw[hCk]
 exact Zsh (keep _ _ oj) (keep _ _ ok) hoe hoec (TQk.tail.hasType hbBk) m3 hR
theorem Znp {y:Y}{r:Fl×L×H}(h:Zi0 y=S5 r):y=S5 r/\∀i,r.1≠.exc i:=by
 cases y with
 | none=>exact nn h
 | some z=>
  refine byC λXX=>?_;obtain ⟨f,Z,U⟩:=z;apply XX
  cases f with
  | exc i=>exact nn h
  | _=>refine siE h ?_;exact ⟨rfl,λi e=>by cases e⟩
theorem Zpl (G:GK K T){A:aj}{env:Env}{c:CEnv}{x:Str}{np:Pos}{k:Nat}(hg:Jk c x=T1)(hk:T.excs.lookup x=S5 k)(hr:HR K J U s.heap)(fo:FO K A env c Z J s.heap)(Q:aa->ae->Prop)(E:aa->ae->Prop)
  (hq:Q (K.tyv k) s):wpAny K.M A (eval (.Name x np) env) Q E s:=Wh hr fo hg (G.ex x k hk) hq
end
section
variable {K:Kx}{A:aj}{env:Env}{c:CEnv}{cl:Cl}{T:Tabs}
theorem Fly.goodN {outer:List Env}{e:am}{j:Nat}{C:am}(fl:Fly K (Yl env) J s J' U' outer (K.tyv j) (FO K A env c Z J') (.ref e) s1.heap)(hj:K.tyv j=.ref C)(hg:s1.gens=s.gens)(ho:s1.os=s.os) :
  HR K (J'++[e]) (U'++[.exc j]) s1.heap/\StepX (Yl env) J s (J'++[e]) s1/\FO K A env c Z (J'++[e]) s1.heap:=by
 obtain g:=fl.good hg ho
 revert fl;refine Xq λG B t e' he' hP hr st hB hB0 hu fw=>?_
 cases he'
 refine Zbi (λoe vs T oT ts he hO6 hd u8_=>?_) fw.2.2.2;obtain ⟨hcls,_⟩:=hO6
 have hG:G.get? e=N0:=by
  cases q:G.get? e with
  | none=>rfl
  | some o=>
   by_cases hc:dy o
   .refine rEE (λes ep hd'=>?_) (id hc)
    refine rE (λsl e1=>?_) (hu e o q λvs hv=>by rw[hd'] at hv;cases hv)
    rw[he] at e1;cases e1;rw[hd] at hd';cases hd'
   .have:=hB e o q hc
    rw[fw.2.1] at this;exact nn this
 obtain hna:e ∉ J':=λhm=>by refine rEA (λob q u2_=>?_) (hr.at_ hm);rw[hG] at q;exact nn q
 obtain h0:K.h0.get? e=N0:=by
  cases q:K.h0.get? e with
  | none=>rfl
  | some o=>have:=hB0 e o q;rw[fw.2.1] at this;exact nn this
 obtain hn:=Zpb hB hu fw.1
 obtain fresh:∀a∈J'++[e],a∈J'\/G.get? a=N0:=λa ha=>by
  rcases Bm.mp ha with h | h
  .exact .inl h
  .rw[Bo.mp h];exact .inr hG
 have hst:Step J' { s with heap:=G } (J'++[e]) s1:=⟨C8 _ _,λb o q u_=>hn b o q,fresh,hg,ho⟩
 refine ⟨g.1.add hna h0 ⟨oe,C,he,hj,hcls.trans hj,λ⟨es,ep,q⟩=>by rw[hd] at q;cases q⟩,?_,hP.step (s:={ s with heap:=G }) hr hst⟩
 exact StepX.then (s1:={ s with heap:=G }) st hP (hst.toX _)
theorem Zk5 {y:Y}{k i:Nat}{g:L->H->Y}{f:Fl}(h:Ze1 y k i g=S5 (f,Z',U')):(y=S5 (f,Z',U')/\∀i,f≠.exc i) \/
  ∃j Z1 U1 Z2 Z3,y=S5 (.exc j,Z1,U1)/\Za1 j k=T1/\Qn Z1 i (.obj U1.length)=S5 Z2/\g Z2 (U1++[.exc j])=S5 (f,Z3,U')/\Z'=[]/\∀i,f≠.exc i:=by
 cases y with
 | none=>exact nn h
 | some z=>
  refine byC λXX=>?_;obtain ⟨f1,Z1,U1⟩:=z;apply XX
  cases f1 with
  | exc j=>
   refine Zl4 ((show (if Za1 j k=T1 then (Qn Z1 i (.obj U1.length)).bind λZ2=>Zky (Zi0 (g Z2 (U1++[.exc j]))) else .none)=S5 (f,Z',U') from h)) λhsub he=>?_
   refine Zy (he) λZ2 h1 h2=>?_
   refine rEA (λhO0 h3 h4=>?_) (Bi.mp (show (Zi0 _).map _=_ from h2));obtain ⟨f3,Z3,U3⟩:=hO0
   refine p3E (show S5 (f3,([]:L),U3)=S5 (f,Z',U') from congrArg S5 h4) ?_
   refine rA (λa b=>?_) (Znp h3)
   exact .inr ⟨j,Z1,U1,Z2,Z3,rfl,hsub,h1,a,rfl,b⟩
  | _=>refine p3E h ?_;exact .inl ⟨rfl,λi e=>by cases e⟩
theorem Znq {n:Str}{pos:Pos}(hl:c.names.lookup n=S5 .local)(fo:FO K A env c Z J s.heap)(hr:HR K J U s.heap){Q:Unit->ae->Prop}{E:aa->ae->Prop}
  (hq:∀s',HR K J U s'.heap->StepX (Yl env) J s J s'->FO K A env c [] J s'.heap->(∀f cf,FR K J s.heap f cf->FR K J s'.heap f cf)->Q () s'):wpAny K.M A (do bindName env n .none;unbindBehindTheSuite env n pos) Q E s:=by
 refine rEA (λm hn u2_=>?_) fo.ns
 refine wpAny_nameGoes (show env.scope.names.lookup n=_ by rw[fo.names];exact hl) hn (by rw[fo.kind];rfl) λh' m' hn' hs'=>?_
 obtain hnt:=Ns.not_tup hn
 have hbut:∀b o,b≠env.locals->s.heap.get? b=S5 o->h'.get? b=S5 o:=λb o hb e=>(hs'.2 b hb).trans e
 refine hq _ (hr.but fo.lnew.1 fo.lnew.2 hnt hbut) ⟨Bt _,λb o e u_ XX=>Wt (λo e=>hbut b o (λe'=>XX (by rw[e'];exact Bf)) e) e,λu_ h=>.inl h,rfl,rfl⟩ ?_ λf cf hf=>?_
 .refine ⟨fo.kind,fo.names,fo.glob,fo.blts,⟨_,hn',λy j w h1 h2 h3=>nn h3⟩,λy hy=>?_,fo.inj,fo.capart,fo.lnew,λj w hj h3=>nn h3,fo.lt,fo.ff.ns (λb hb o e=>hbut b o hb e) hn',λy a hy=>?_⟩
  .refine Yn (λa o g1 g2 u4_=>?_) (fo.cell y hy)
   exact ⟨a,o,g1,IsCell.at g2 λo e=>hbut _ _ (fo.cnew y a (mem_of_lookup g1)).2.2.1 e,λj w h2 h3=>nn h3⟩
  .refine Zay (λg1 g2 g3 o g4 g5=>?_) (fo.cnew y a hy)
   exact ⟨g1,g2,g3,o,hbut _ _ g3 g4,g5⟩
 .cases f <;> cases cf <;> first | exact hf | exact RV.but hf hnt hbut
theorem Zhy {A:aj}{env:Env}{e0:am}{cv:aa}{t:aq}{n:Str}{h0:bo}{suite:List bo}{p1:Pos}{Q:fe->ae->Prop}{E:aa->ae->Prop} 
  (hl:∀(Q:VSP) (E:VSP),Q cv s->wpAny K.M (A.mark (S5 (.ref e0))) (eval t env) Q E s)
  (hm:∀(Q:Bool->ae->Prop) (E:VSP),Q T1 s->wpAny K.M (A.mark (S5 (.ref e0))) (excMatches (.ref e0) cv) Q E s)
  (hr:∀(E1 E2 E3:VSP),wpAny K.M (A.mark (S5 (.ref e0))) (setFlight (.ref e0) N0) (λu_ s₁=>wpAny K.M (A.mark (S5 (.ref e0))) (storeName env n (.ref e0)) (λu_ s₂=>
   wpAny K.M (A.mark (S5 (.ref e0))) (PySem.execs (h0::suite) env) (λf s₃=>wpAny K.M A (do bindName env n .none;unbindBehindTheSuite env n p1) (λu_ s₄=>Q f s₄) E3 s₃) (λu_ v_=>False) s₂) E2 s₁) E1 s) :
  wpAny K.M A (handleBy (.ref e0) env [.ExceptHandler (S5 t) (S5 n) (h0::suite) p1]) Q E s :=
 wpAny_handleBy_cons (codeAny_handlers_test (hl _ _ (hm _ _ (codeAny_handlers_suite_as (ak (hr _ _ _) (λu_ v_ h=>ak h (λu_ v_ h=>ak h (λu_ v_ q=>q) λu_ v_ f=>f.elim) λu_ v_ q=>q) λu_ v_ q=>q))))) (by intro q;cases q)
set_option tactic.hygienic true in
theorem Zsk (G:GK K T)(X:EK K T)(hfr:∃outer,A.frames=S5 (env::outer)){b suite:List bo}{h0:bo}{t:aq}{pos p1 np:Pos}{x n:Str}{k i:Nat}{xb yb:Ss}(ht:t=.Name x np)(hg:Jk c x=T1)(hk:T.excs.lookup x=S5 k)
  (hn:Wm c n=S5 i) (hnl:c.names.lookup n=S5 .local)
  (hb:PSs K A (Zot T) env c cl b xb) (hs:∀ev,PSs K (A.mark (S5 ev)) (quiet T) env c cl (h0::suite) yb):PS K A T env c cl (.Try b [.ExceptHandler (S5 t) (S5 n) (h0::suite) p1] [] [] pos) (.try_ xb k i yb):=by
 intro Z U f Z' U' he J s hr fo
 subst ht
 have he:=Zk5 (show Ze1 (execs cl xb Z U) k i (λZ1 U1=>execs cl yb Z1 U1)=S5 (f,Z',U') from he)
 revert hfr;refine rE λouter hfr=>?_
 refine Zl2 (λu0_ L u2_ hf u4_=>?_) (fo.ff _ hfr env Bf)
 refine Zk4 λQ E hQ=>wpAny_Try_except ?_
 rcases he with ⟨h1,hnx⟩ | ⟨j,Z1,U1,Z2,Z3,h1,hsub,hset,hyb,rfl,hnx⟩
 .refine ak (hb Z U f Z' U' h1 J s hr fo) (λcf s1 hq=>hq.elim λJ1 q=>?_) λev s1 hq=>hq.elim λi hi=>absurd hi.1 (hnx i)
  have hq:=hQ J1 cf s1 q.1 q.2.1 q.2.2.1 q.2.2.2
  cases cf with
  | next=>exact c5 hq
  | _=>exact hq
 .refine ak (hb Z U _ Z1 U1 h1 J s hr fo) (λcf s1 hq=>hq.elim λu_ q=>by cases cf <;> exact False.elim q.2.2.2) λev s1 hq=>?_
  revert hq;refine Zol λi' hi hgens hos J1 hu=>?_
  obtain rfl:j=i':=by cases hi;rfl
  rcases hu outer hfr with fl | ⟨h0,_⟩
  rotate_left
  .exact absurd rfl h0
  revert fl;refine Xq λG0 B tt e hO4 hP hrG stG hB hB0 hus fw=>?_;refine eqS hO4 ?_
  obtain ⟨C,hC⟩ : ∃C,K.tyv j=.ref C:=by
   refine rA (λhO0 u1_=>?_) (X.sub x k j hk hsub);obtain ⟨y,hy⟩:=hO0
   refine byC λXX=>?_;obtain ⟨C,_,_,_,_,_,hC,_⟩:=X.at_ y j hy;apply XX;clear XX
   exact ⟨C,hC⟩
  have fly:∀{h6:au},G0.UpToSlots h6->au.FlyingW B (env::outer) e (K.tyv j) (.ref tt) h6->Fly K (Yl env) J s J1 U1 (env::outer) (K.tyv j) (FO K A env c Z1 J1) (.ref e) h6:=λhs6 hf6=>⟨G0,B,tt,e,rfl,hP,hrG,stG,hB,hB0,hs6,hf6⟩
  refine wpAny_looks_onW hfr hf fw λh4 hheld4 hsm4=>wpAny_landsW hheld4 λh5 hfl5 hsm5=>?_
  have hus5:=(hus.trans hsm4).trans hsm5
  have b5:=Fly.good (s1:={ s1 with heap:=h5 }) (fly hus5 hfl5) hgens hos
  refine Zhy (cv:=K.tyv k) (s:={ s1 with heap:=h5 }) (Zpl G hg hk b5.1 (b5.2.2.mark _)) (λQ E hR=>hfl5.there.elim λoe ho=>Zsj X hk hsub (s:={ s1 with heap:=h5 }) b5.1.keep ho.1 ho.2 hR) λE1 E2 E3=>lands_againW (s:={ s1 with heap:=h5 }) hfl5 λh6 hfl6 hsm6=>?_
  have b6:=Fly.goodN (s1:={ s1 with heap:=h6 }) (fly (hus5.trans hsm6) hfl6) hC hgens hos
  have rve:RV K (J1++[e]) h6 (.obj U1.length) (.ref e):=.obj (by rw[← hrG.len,Bh (Bp _),Kl];rfl)
  refine Jw (s:={ s1 with heap:=h6 }) (b6.2.2.mark (S5 (.ref e))) b6.1 hn hset rve λs7 a ha hr7 st7 fo7=>?_
  have st7':=b6.2.1.then b6.2.2 (st7.weaken (Zd1 ha))
  refine ak (hs (.ref e) Z2 _ f Z3 U' hyb _ s7 hr7 fo7) (λcf s8 hq=>hq.elim λJ8 q=>?_) λev s8 hq=>hq.elim λi hi=>absurd hi.1 (hnx i)
  refine Znq hnl q.2.2.1.unmark q.1 λs9 hr9 st9 fo9 fr9=>?_
  exact hQ J8 cf s9 hr9 ((st7'.then fo7.unmark q.2.1).then q.2.2.1.unmark st9) fo9 (fr9 _ _ q.2.2.2)
theorem RVs.set {v:V}{cv:aa}(rv:RV K J h v cv){l:List V}{vs:List aa}(r:RVs K J h l vs):∀j,RVs K J h (l.set j v) (vs.set j cv) :=
 RVs.ind (P:=λl vs=>∀j,RVs K J h (l.set j v) (vs.set j cv)) (λu_=>.nil) (λr0 rs ih j=>by
  cases j with
  | zero=>exact .cons rv rs
  | succ j=>exact .cons r0 (ih j)) r
set_option tactic.hygienic true in
theorem Zsl {o i:aq}{Zed pos:Pos}{e:aq}{a b d:Ex}(hs:swapsWith e (S5 (.Subscript o i Zed)) pos.line env=pure F0)(h:PX K A env c e (Jp cl a))(ho:PE K A env c cl o b)(hi:PE K A env c cl i d):PS K A T env c cl (.Assign [.Subscript o i Zed] e pos) (.iset b d a):=by
 intro Z U f Z' U' he J s hr fo
 refine wpAny_Assign_Subscript (Zdk h he hr fo λv U1 J1 cv s1 h2 g1 rv=>?_) hs
 refine Ug (λy U2 h3 h4=>?_) (Zez h2)
 refine Ug (λk U3 h5 h6=>?_) (Zez h4)
 refine rEA (λU4 h7 e=>?_) (Bi.mp h6)
 cases e
 have fo1:=fo.step hr g1.st
 refine ak (ho _ U1 _ U2 h3 J1 s1 g1.hr fo1) (λco s2 hq=>?_) λu_ v_ f=>f.elim
 revert hq;refine rEA λJ2 g2 rx=>?_
 refine ak (hi _ U2 _ U3 h5 J2 s2 g2.hr (fo1.step g1.hr g2.st)) (λci s3 hq=>?_) λu_ v_ f=>f.elim
 revert hq;refine rEA λJ3 g3 rk=>?_
 refine Zy (h7) λn hn h8=>?_
 refine Zy (h8) λl hl h9=>?_
 refine Zy (h9) λi hi' h10=>?_
 refine rA (λhlt h11=>?_) (Y9 h10)
 rw[Jf hi'] at rk
 refine rE (λtk hO=>?_) (rk.intI rfl);refine eqS hO ?_
 have rx3:=rx.step g2.hr g3.st
 have hy:y=.obj n:=by
  cases y with
  | obj m=>exact congrArg V.obj (B0.inj hn)
  | _=>exact nn hn
 rw[hy] at rx3 hl
 refine rEA (λax hO1 ha=>?_) (rx3.objI rfl);refine eqS hO1 ?_
 have hn':U3[n]?=S5 (.list l):=by
  have hl:(match U3[n]? with | some (.list l)=>S5 l | _=>Dk)=S5 l:=hl
  split at hl
  .rename_i q;rw[q,B0.inj hl]
  .exact nn hl
 refine Yn (λvs m e0 r hlen=>?_) (g3.hr.obj n _ ax hn' ha)
 have hjl:i.toNat<vs.length:=by rw[← r.length];exact lin [(.an (.zle .k0 .v0) (.zlt .v0 (.n .v1))),(.nt .v0 .v0)] (.lt .v0 .v1) (.s (.d 110101) (.d 111101)) rfl [_,_] [_] hlt (W7 _)
 refine PySem.W.ki_setAt (items:=vs.toArray) (n:=m) e0 hlt.1 (by have:l.length<=1000000:=hlen;lia) (by rw[Iz];exact lin [(.lt .v1 .v0),(.nt .v1 .v0)] (.zlt .v0 (.n .v0)) (.s (.d 111001) (.d 111101)) rfl [_,_] [_] hjl (W7 _)) ?_
 have rv3:=(rv.step g1.hr g2.st).step g2.hr g3.st
 have hget:(s3.heap.update ax (Obj.mapSeq (·.setIfInBounds i.toNat cv))).get? ax=S5 (Yd (vs.set i.toNat cv) m):=by
  have e1:Obj.mapSeq (·.setIfInBounds i.toNat cv) (Yd vs m)=Yd (vs.set i.toNat cv) m:=by
   show (⟨.type "list",N0,.seq (vs.toArray.setIfInBounds i.toNat cv) (if (vs.toArray.setIfInBounds i.toNat cv).size==vs.toArray.size then m else m + 1),#[]⟩:Obj)=_
   rw[Array.size_setIfInBounds,beq_self_eq_true,gp rfl,List.setIfInBounds_toArray]
  rw[au.get?_update_self _ e0 (by rw[e1];rfl),e1]
 have hk:∀b o,b≠ax->s3.heap.get? b=S5 o->(s3.heap.update ax (Obj.mapSeq (·.setIfInBounds i.toNat cv))).get? b=S5 o:=λb o hb e=>((au.SameBut.update ..).2 b hb).trans e
 have g:=(g1.trans g2).trans g3
 have st:=g.st.trans (Step.set (s:=s3) (t:=s3.toks) (Bw ha) hk)
 rw[← B0.inj h11]
 exact ⟨J3,g3.hr.setList hn' ha hget hk (RVs.set rv3 r _) (by rw[M5];exact hlen),st.toX _,fo.step hr st,trivial⟩
end
def Zhz (K:Kx)(A:aj):Prop :=
 ∀(U U':H) (vs:List V) (v:V),Uh .sorted vs U=S5 (v,U')->∀(J:List am) (s:ae) (cas:List aa),HR K J U s.heap->RVs K J s.heap vs cas->TR K A (call (Zdh .sorted) cas) J s U' λJ' cv s'=>RV K J' s'.heap v cv
structure HX (K:Kx)(A:aj)(cl:Cl)(T:Tabs):Prop where
 G:GK K T
 ty:TyOK K
 hu:A.units+16<cLine
 on:T.loops=T1 -> A.handled=N0 /\ CallB K A cl /\ ∀ C vs,Zhu K (A.under (.builtin "type.__call__" ⟨.ref C ::vs,[]⟩)) cl
 hd:∀x b,T.blts.lookup x=S5 b->b≠.isinstance->b≠.int->A.handled=N0
 sort:∀x,T.blts.lookup x=S5 .sorted->Zhz K A
 wk:WK K T cl.pg
 ek:EK K T
noncomputable def Uj {α β:Type}(x:Option α)(f:(a:α)->x=S5 a->Option β):Option β:=match x,f with
 | .none,_=>.none
 | some a,f=>f a rfl
noncomputable def ifH {β:Type}(b:Bool)(f:b=T1->Option β):Option β:=match b,f with
 | false,_=>.none
 | true,f=>f rfl
structure QE (K:Kx)(A:aj)(T:Tabs)(env:Env)(c:CEnv)(cl:Cl)(e:aq)(a:Ex):Prop where
 pe:PE K A env c cl e a
 pt:PT K A env c cl e a
 px:PX K A env c e (Jp cl a)
 pc:PX K A env c e (Qd cl a)
 pa:∀x p pos i,Wm c x=S5 i->PS K A T env c cl (.Assign [.Name x p] e pos) (.asg (.one i) a)
def CE (T:Tabs)(c:CEnv)(e:aq):Type:={ x:Ex×Nat×Option V // (Plain e x.2.1/\∀v,x.2.2=S5 v->x.1=.lit v)/\∀(K:Kx) (A:aj) (cl:Cl) (env:Env),HX K A cl T->QE K A T env c cl e x.1 }
def CEs (T:Tabs)(c:CEnv)(es:List aq):Type:={ a:Es // Zag es/\∀(K:Kx) (A:aj) (cl:Cl) (env:Env),HX K A cl T->PEs K A env c cl es a/\PF K A env c cl es a/\PA K A env c cl es a }
def CB (T:Tabs)(c:CEnv)(op:bz)(es:List aq):Type:={ a:Ex // (2<=es.length->∀cl,(Jp cl a=λZ U=>noX (Zg cl a Z U))/\Qd cl a=λZ U=>noX (Zg cl a Z U))/\∀(K:Kx) (A:aj) (cl:Cl) (env:Env),HX K A cl T->PB K A env c cl op es a }
def CC (T:Tabs)(c:CEnv)(ops:List bx)(es:List aq):Type:={ r:Ch // (∀env,markedEach ops es (evalEach es env)=evalEach es env)/\∀(K:Kx) (A:aj) (cl:Cl) (env:Env),HX K A cl T->PC K A env c cl ops es r }
def CO (T:Tabs)(c:CEnv)(e:Option aq):Type:={ a:Oe // ∀(K:Kx) (A:aj) (cl:Cl) (env:Env),HX K A cl T->PO K A env c cl e a }
def CI (T:Tabs)(c:CEnv)(e:aq):Type:={ it:It // (∀env v,foldedSetIterable e env v=pure v)/\∀(K:Kx) (A:aj) (cl:Cl) (env:Env),HX K A cl T->PI K A env c cl e it }
def GQ (K:Kx)(A:aj)(env:Env)(c:CEnv)(cl:Cl)(sc:bh)(gens:List bq)(g:Nat×It×Es):Prop :=
 ∃y px Y4 ifs,gens=[⟨.Name y px,Y4,ifs,0⟩]/\(Js c sc).names.lookup y=S5 .local/\Wm (Js c sc) y=S5 g.1/\PI K A env c cl Y4 g.2.1/\(∀v,foldedSetIterable Y4 env v=pure v)/\∀cenv,PF K A cenv (Js c sc) cl ifs g.2.2
def CG (T:Tabs)(c:CEnv)(sc:bh)(gens:List bq):Type:={ g:Nat×It×Es // ∀(K:Kx) (A:aj) (cl:Cl) (env:Env),HX K A cl T->GQ K A env c cl sc gens g }
section
variable {T:Tabs}{c:CEnv}{e:aq}{K:Kx}{A:aj}{cl:Cl}{env:Env}
noncomputable def CE.a (x:CE T c e):Ex:=x.1.1
theorem CE.pl (x:CE T c e):Plain e x.1.2.1:=x.2.1.1
theorem CE.q (x:CE T c e)(hx:HX K A cl T):QE K A T env c cl e x.a:=x.2.2 K A cl env hx
theorem CE.li (x:CE T c e){v:V}(h:x.1.2.2=S5 v):x.a=.lit v:=x.2.1.2 v h
theorem CE.p (x:CE T c e)(hx:HX K A cl T):PE K A env c cl e x.a:=(x.q hx).pe
theorem CE.t (x:CE T c e)(hx:HX K A cl T):PT K A env c cl e x.a:=(x.q hx).pt
theorem QE.u {a:Ex}{f:Nat}(pl:Plain e f)(hf:f≠1)(pe:PE K A env c cl e a)(pt:PT K A env c cl e a)(px:PX K A env c e (Jp cl a))(pc:PX K A env c e (Qd cl a)):QE K A T env c cl e a :=
 ⟨pe,pt,px,pc,λx p pos i hi=>Zpe (pl.sw hf _ _ _) hi px⟩
noncomputable def CE.t2 (a:Ex)(f:Nat)(pl:Plain e f)(hf:f≠1)(h1:∀cl,Jp cl a=λZ U=>noX (Zg cl a Z U))(h2:∀cl,Qd cl a=λZ U=>noX (Zg cl a Z U))(h:∀(K:Kx) (A:aj) (cl:Cl) (env:Env),HX K A cl T->PE K A env c cl e a/\PT K A env c cl e a):Option (CE T c e) :=
 S5 ⟨(a,f,.none),⟨pl,λu_ e=>nn e⟩,λK A cl env hx=>.u pl hf (h K A cl env hx).1 (h K A cl env hx).2 (h1 cl▸Zd0 (h K A cl env hx).1) (h2 cl▸Zd0 (h K A cl env hx).1)⟩
def Tst (e:aq):Prop:=∀env w,isTrue e env w=(do let v ← w;standAt e.pos;holding [v] (truthy v))
noncomputable def CE.n (a:Ex)(f:Nat)(pl:Plain e f)(hf:f≠1)(hw:Tst e)(h1:∀cl,Jp cl a=λZ U=>noX (Zg cl a Z U))(h2:∀cl,Qd cl a=λZ U=>noX (Zg cl a Z U))(h:∀(K:Kx) (A:aj) (cl:Cl) (env:Env),HX K A cl T->PE K A env c cl e a):Option (CE T c e) :=
 CE.t2 a f pl hf h1 h2 λK A cl env hx=>⟨h K A cl env hx,Za4 (h K A cl env hx) (hw env)⟩
noncomputable def CI.of (x:CE T c e):CI T c e:=⟨.ex x.a,x.pl.fold,λu_ v_ w_ x_ hx=>Zxo (x.p hx)⟩
def Zvq (T:Tabs)(c:CEnv)(k:Const)(n:Nat)(p:Pos):Option (CE T c (.Constant k n p)):=Uj (Zou k) λv h=>
 have pl:Plain (.Constant k n p) 0:=⟨λu_ v_=>rfl,λu_=>rfl,λu_ v_=>rfl,λu_ v_ w_ x_=>rfl,λu_ v_ w_ x_=>rfl,nofun⟩
 S5 ⟨(.lit v,0,S5 v),⟨pl,λu_ e=>congrArg Ex.lit (B0.inj e)⟩,λK A cl env hx=>.u pl nofun (Zcp h) (Za4 (Zcp h) λu_=>rfl) (Zd0 (Zcp h)) (Zd0 (Zcp h))⟩
def Zxr (T:Tabs)(c:CEnv)(x:Str)(p:Pos):Option (CE T c (.Name x p)) :=
 have pl:Plain (.Name x p) 0:=⟨λu_ v_=>rfl,λu_=>rfl,λu_ v_=>rfl,λu_ v_ w_ x_=>rfl,λu_ v_ w_ x_=>rfl,nofun⟩
 have hw:Tst (.Name x p):=λu_ v_=>rfl
 (Uj (Wm c x) λi h=>CE.n (.var i) 0 pl nofun hw (λu_=>rfl) (λu_=>rfl) λu_ v_ w_ x_ y_=>Zuy h).or (ifH (Jk c x) λhg=>
  (Uj (T.tys.lookup x) λt ht=>CE.n (.ty t) 0 pl nofun hw (λu_=>rfl) (λu_=>rfl) λu_ v_ w_ x_ hx=>Zo0 hg (hx.G.ty x t ht)).or
  ((Uj (T.excs.lookup x) λt ht=>CE.n (.ty t) 0 pl nofun hw (λu_=>rfl) (λu_=>rfl) λu_ v_ w_ x_ hx=>Zo0 hg (hx.G.ex x t ht)).or
  (Uj (T.cls.lookup x) λk hk=>CE.n (.ty (k+20)) 0 pl nofun hw (λu_=>rfl) (λu_=>rfl) λu_ v_ w_ x_ hx=>Zo0 hg ((hx.G.cl x k hk).elim λC h=>((hx.ty.cls k).trans h.2).symm▸h.1))))
def Zy9 {l r:aq}(op:ce)(p:Pos)(x:Option (CE T c l))(y:Option (CE T c r)):Option (CE T c (.BinOp l op r p)):=x.bind λx=>Uj (cOp op) λo ho=>y.bind λy=>
 CE.n (.bin o x.a y.a) 0 ⟨λu_ v_=>rfl,λu_=>rfl,λu_ v_=>rfl,λu_ v_ w_ x_=>rfl,λu_ v_ w_ x_=>rfl,nofun⟩ nofun (λu_ v_=>rfl) (λu_=>rfl) (λu_=>rfl) λu_ v_ w_ x_ hx=>Zu1 ho (x.p hx) (y.p hx)
noncomputable def Zza {x:aq}(p:Pos)(y:Option (CE T c x)):Option (CE T c (.UnaryOp .USub x p)):=y.bind λy=>
 CE.n (.neg y.a) 0 ⟨λu_ v_=>rfl,λu_=>rfl,λu_ v_=>rfl,λu_ v_ w_ x_=>rfl,λu_ v_ w_ x_=>rfl,nofun⟩ nofun (λu_ v_=>rfl) (λu_=>rfl) (λu_=>rfl) λu_ v_ w_ x_ hx=>Zu2 (y.p hx)
noncomputable def Zzb {x:aq}(p:Pos)(y:Option (CE T c x)):Option (CE T c (.UnaryOp .Not x p)):=y.bind λy=>
 CE.t2 (.not y.a) 0 ⟨λu_ v_=>rfl,λu_=>rfl,λu_ v_=>rfl,λu_ v_ w_ x_=>rfl,λu_ v_ w_ x_=>rfl,nofun⟩ nofun (λu_=>rfl) (λu_=>rfl) λu_ v_ w_ x_ hx=>⟨Zu3 (y.p hx),Zu4 (y.t hx)⟩
def Zxs {op:bz}{vs:List aq}(p:Pos)(y:Option (CB T c op vs)):Option (CE T c (.BoolOp op vs p)):=ifH (Kk 2 vs.length) λhl=>y.bind λy=>
 CE.t2 y.1 0 ⟨λu_ v_=>rfl,λu_=>rfl,λu_ v_=>rfl,λu_ v_ w_ x_=>rfl,λu_ v_ w_ x_=>rfl,nofun⟩ nofun (λcl=>(y.2.1 (By hl) cl).1) (λcl=>(y.2.1 (By hl) cl).2) λK A cl env hx=>⟨(y.2.2 K A cl env hx).1 p,(y.2.2 K A cl env hx).2⟩
noncomputable def Zzc {l:aq}{ops:List bx}{cs:List aq}(p:Pos)(x:Option (CE T c l))(r:Option (CC T c ops cs)):Option (CE T c (.Compare l ops cs p)):=x.bind λx=>r.bind λr=>
 CE.t2 (.cmp x.a r.1) 0 ⟨λu_ v_=>rfl,λu_=>rfl,λu_ v_=>rfl,λu_ v_ w_ x_=>rfl,λu_ v_ w_ x_=>rfl,nofun⟩ nofun (λu_=>rfl) (λu_=>rfl) λK A cl env hx=>⟨Zu9 (r.2.1 env) (x.p hx) (r.2.2 K A cl env hx),Zva (r.2.1 env) (x.p hx) (r.2.2 K A cl env hx)⟩
noncomputable def kIf {t b o:aq}(p:Pos)(x:Option (CE T c t))(y:Option (CE T c b))(z:Option (CE T c o)):Option (CE T c (.IfExp t b o p)):=x.bind λx=>y.bind λy=>z.bind λz=>
 CE.t2 (.ife x.a y.a z.a) 0 ⟨λu_ v_=>rfl,λu_=>rfl,λu_ v_=>rfl,λu_ v_ w_ x_=>rfl,λu_ v_ w_ x_=>rfl,nofun⟩ nofun (λu_=>rfl) (λu_=>rfl) λu_ v_ w_ x_ hx=>⟨Zu5 (x.t hx) (y.p hx) (z.p hx),Zu6 (x.t hx) (y.t hx) (z.t hx)⟩
noncomputable def Zzd {es:List aq}(k:Nat)(p:Pos)(x:Option (CEs T c es)):Option (CE T c (.Tuple es k p)):=x.bind λx=>
 CE.n (.tup x.1) 0 ⟨λu_ v_=>rfl,λu_=>rfl,λu_ v_=>rfl,λu_ v_ w_ x_=>rfl,λu_ v_ w_ x_=>rfl,nofun⟩ nofun (λu_ v_=>rfl) (λu_=>rfl) (λu_=>rfl) λK A cl env hx=>Zvb (x.2.2 K A cl env hx).1
noncomputable def Zze {es:List aq}(p:Pos)(x:Option (CEs T c es)):Option (CE T c (.List es p)):=x.bind λx=>
 CE.n (.lst x.1) 0 ⟨λu_ v_=>rfl,λu_=>rfl,λu_ v_=>rfl,λu_ v_ w_ x_=>rfl,λu_ v_ w_ x_=>rfl,nofun⟩ nofun (λu_ v_=>rfl) (λu_=>rfl) (λu_=>rfl) λK A cl env hx=>Zvc (x.2.2 K A cl env hx).1
noncomputable def Zzf {v:aq}{lo hi st:Option aq}(r p:Pos)(x:Option (CE T c v))(a:Option (CO T c lo))(b:Option (CO T c hi))(d:Option (CO T c st)):Option (CE T c (.Subscript v (.Slice lo hi st r) p)):=x.bind λx=>a.bind λa=>b.bind λb=>d.bind λd=>
 CE.n (.slc x.a a.1 b.1 d.1) 0 ⟨λu_ v_=>rfl,λu_=>rfl,λu_ v_=>rfl,λu_ v_ w_ x_=>rfl,λu_ v_ w_ x_=>rfl,nofun⟩ nofun (λu_ v_=>rfl) (λu_=>rfl) (λu_=>rfl) λK A cl env hx=>Zvf (x.p hx) (a.2 K A cl env hx) (b.2 K A cl env hx) (d.2 K A cl env hx)
noncomputable def Zzg {v i:aq}(p:Pos)(x:Option (CE T c v))(y:Option (CE T c i)):Option (CE T c (.Subscript v i p)):=x.bind λx=>y.bind λy=>
 CE.n (.idx x.a y.a) 3 ⟨λu_ v_=>rfl,λu_=>rfl,λu_ v_=>rfl,λu_ v_ w_ x_=>rfl,λu_ v_ w_ x_=>rfl,λu_ v_ w_ x_ y_ z_=>⟨rfl,rfl⟩⟩ nofun (λu_ v_=>rfl) (λu_=>rfl) (λu_=>rfl) λu_ v_ w_ x_ hx=>Zvd (x.p hx) (y.p hx)
theorem QE.comp (hx:HX K A cl T){elt:aq}{gens:List bq}{sc:bh}{p:Pos}{a:Ex}{g:Nat×It×Es}(hok:(Zhn c sc&&T.loops)=T1)(hg:GQ K A env c cl sc gens g)(he:∀cenv,PE K A cenv (Js c sc) cl elt a):QE K A T env c cl (.ListComp elt gens sc p) (.comp a g.1 g.2.1 g.2.2):=by
 revert hg;refine Zb0 λy px Y4 ifs hO h1 h2 h3 h4 h5=>?_;refine eqS hO ?_
 have hh:=(hx.on (Qu hok)).1
 have ok:=Znh (Wy hok)
 have pe:PE K A env c cl (.ListComp elt [⟨.Name y px,Y4,ifs,0⟩] sc p) (.comp a g.1 g.2.1 g.2.2):=Zr0 hh ok h4 h2 h1 h3 he h5
 refine ⟨pe,Za4 pe λu_=>rfl,Zd0 pe,Zd0 pe,λx q pos i hi=>?_⟩
 obtain hs:∃b,swapsWith (.ListComp elt [⟨.Name y px,Y4,ifs,0⟩] sc p) (S5 (.Name x q)) pos.line env=pure b:=⟨_,rfl⟩
 refine rE (λb hb=>?_) hs
 cases b with
 | false=>exact Zpe hb hi (Zd0 pe)
 | true=>exact Zjm hh ok h4 h2 h1 h3 he h5 hb hi
def Zxt {elt:aq}{gens:List bq}{sc:bh}(p:Pos)(g:Option (CG T c sc gens))(e:Option (CE T (Js c sc) elt)):Option (CE T c (.ListComp elt gens sc p)):=g.bind λg=>e.bind λe=>ifH (Zhn c sc&&T.loops) λhok=>
 S5 ⟨(.comp e.a g.1.1 g.1.2.1 g.1.2.2,1,.none),⟨⟨λu_ v_=>rfl,λu_=>rfl,λu_ v_=>rfl,λh=>absurd rfl h,λu_ v_ w_ x_=>rfl,nofun⟩,λu_ e=>nn e⟩,λK A cl env hx=>.comp hx hok (g.2 K A cl env hx) λu_=>e.p hx⟩
theorem Qg (f:aq)(as:List aq)(p:Pos):Plain (.Call f as [] p) 2:=⟨λu_ v_=>rfl,λu_=>rfl,λu_ v_=>rfl,λu_ v_ w_ x_=>rfl,λh=>absurd rfl h,nofun⟩
theorem Qz (f:aq)(as:List aq)(p:Pos):Tst (.Call f as [] p):=λu_ v_=>rfl
theorem Zsm (hx:HX K A cl T){f:Str}{as:List aq}{q p:Pos}{n:Nat}(hg:Jk c f=T1)(hl:T.loops=T1)(hn:T.cls.lookup f=S5 n)(h0:as.isEmpty=T1):PE K A env c cl (.Call (.Name f q) as [] p) (.new n .nil) :=
 eqS (P:=λas=>PE K A env c cl (.Call (.Name f q) as [] p) (.new n .nil)) (Do.mp h0) (Zvj hx.G hx.wk hg hn (hx.on hl).2.2)
def Zxu {as:List aq}(f:Str)(q p:Pos)(xs:Option (CEs T c as)):Option (CE T c (.Call (.Name f q) as [] p)):=xs.bind λxs=>ifH (Jk c f) λhg=>
 ((ifH T.loops λhl=>Uj (T.fns.lookup f) λn hn=>S5 ⟨(.call n xs.1,2,.none),⟨Qg _ _ _,λu_ e=>nn e⟩,λK A cl env hx=>
  have pc:=Zr7 hx.G (hx.on hl).2.1 hg hn xs.2.1 (xs.2.2 K A cl env hx).1
  .u (Qg _ _ _) nofun (Zjj pc) (Za4 (Zjj pc) (Qz _ _ _ _)) (Zr6 hx.G (hx.on hl).2.1 hg hn xs.2.1 (xs.2.2 K A cl env hx).2.2) pc⟩).or
 (Uj (T.blts.lookup f) λb hb=>CE.n (.blt b xs.1) 2 (Qg _ _ _) nofun (Qz _ _ _) (λu_=>rfl) (λu_=>rfl) λK A cl env hx=>Zvh hx.G hx.ty (hx.hd f b hb) (λe=>e▸hx.sort f (e▸hb)) hg hb xs.2.1 (xs.2.2 K A cl env hx).1)).or
 (ifH T.loops λhl=>Uj (T.cls.lookup f) λn hn=>ifH as.isEmpty λh0=>CE.n (.new n .nil) 2 (Qg _ _ _) nofun (Qz _ _ _) (λu_=>rfl) (λu_=>rfl) λu_ v_ w_ x_ hx=>Zsm hx hg hl hn h0)
def Zxv {o:aq}{as:List aq}(m:Str)(q p:Pos)(x:Option (CE T c o))(xs:Option (CEs T c as)):Option (CE T c (.Call (.Attribute o m q) as [] p)):=x.bind λx=>xs.bind λxs=>ifH (q.endLine == p.line) λhl=>ifH (x.1.2.1 != 2) λhc=>ifH (Nat.blt as.length 20) λh20=>
 have hb:=x.pl.base (bne_iff_ne.mp hc)
 ((ifH (m == Zcr .append) λhm=>CE.n (.mth .append x.a xs.1) 2 (Qg _ _ _) nofun (Qz _ _ _) (λu_=>rfl) (λu_=>rfl) λK A cl env hx=>Zo7 hm hl (hb env) (By h20) xs.2.1 (x.p hx) (xs.2.2 K A cl env hx).1).or
 (ifH (m == Zcr .pop) λhm=>CE.n (.mth .pop x.a xs.1) 2 (Qg _ _ _) nofun (Qz _ _ _) (λu_=>rfl) (λu_=>rfl) λK A cl env hx=>Zo7 hm hl (hb env) (By h20) xs.2.1 (x.p hx) (xs.2.2 K A cl env hx).1)).or
 (ifH T.loops λho=>Uj (T.meths.lookup m) λk hk=>S5 ⟨(.ucall k x.a xs.1,2,.none),⟨Qg _ _ _,λu_ e=>nn e⟩,λK A cl env hx=>
  have px:=Zpc hx.wk (hx.on ho).2.1 hk hl (hb env) (By h20) xs.2.1 (x.p hx) (xs.2.2 K A cl env hx).1
  .u (Qg _ _ _) nofun (Zjj px) (Za4 (Zjj px) (Qz _ _ _ _)) px (Zd0 (Zjj px))⟩)
theorem Zpm (hx:HX K A cl T){o:aq}{m x:Str}{p:Pos}{a:Ex}{k:Nat}(hn:∃p,o=.Name m p)(hk:T.attrs.lookup x=S5 k)(h:PE K A env c cl o a):PE K A env c cl (.Attribute o x p) (.attr a k):=by
 revert h;refine rE (λz hO=>?_) hn;refine eqS hO ?_;exact λh=>Zr4 hx.wk hk h
def Zxw {o:aq}(m:Str)(p:Pos)(x:Option (CE T c o)):Option (CE T c (.Attribute o m p)):=x.bind λx=>Uj (T.attrs.lookup m) λk hk=>(Zcm o).bind λz=>
 CE.n (.attr x.a k) 0 ⟨λu_ v_=>rfl,λu_=>rfl,λu_ v_=>rfl,λu_ v_ w_ x_=>rfl,λu_ v_ w_ x_=>rfl,nofun⟩ nofun (λu_ v_=>rfl) (λu_=>rfl) (λu_=>rfl) λu_ v_ w_ x_ hx=>Zpm hx z.2 hk (x.p hx)
noncomputable def Zzh (x:Option (CE T c e)):Option (CO T c (S5 e)):=x.bind λx=>S5 ⟨.yes x.a,λu_ v_ w_ x_ hx=>Zve (x.p hx)⟩
noncomputable def kB1 {op:bz}(x:Option (CE T c e)):Option (CB T c op [e]):=x.bind λx=>S5 ⟨x.a,λh=>absurd h (Nat.not_succ_le_self 1),λu_ v_ w_ x_ hx=>Zu7 (x.p hx) (x.t hx)⟩
def kB2 {e':aq}{r:List aq}{op:bz}(x:Option (CE T c e))(y:Option (CB T c op (e'::r))):Option (CB T c op (e::e'::r)):=x.bind λx=>y.bind λy=>
 S5 ⟨Zkz op x.a y.1,λu_ v_=>(by cases op <;> exact ⟨rfl,rfl⟩),λK A cl env hx=>Zrw (x.p hx) (x.t hx) (y.2.2 K A cl env hx)⟩
noncomputable def kEs {r:List aq}(x:Option (CE T c e))(y:Option (CEs T c r)):Option (CEs T c (e::r)):=x.bind λx=>y.bind λy=>
 S5 ⟨.cons x.a y.1,Xy x.pl y.2.1,λK A cl env hx=>⟨Za5 (x.pl.star _ _) (x.p hx) (y.2.2 K A cl env hx).1,Zry (x.t hx) (y.2.2 K A cl env hx).2.1,Zr5 x.pl y.2.1 (x.q hx).pc (y.2.2 K A cl env hx).2.2⟩⟩
def kC1 (op:bx)(x:Option (CE T c e)):Option (CC T c [op] [e]):=x.bind λx=>
 S5 ⟨.one (Zov op) x.a,λu_=>congrArg (λz=>[z]) (markedBehindIn_of_false (x.pl.mark op)),λu_ v_ w_ x_ hx=>Zu8 hx.hu (x.p hx)⟩
def kC2 {e':aq}{es:List aq}{op':bx}{ops:List bx}(op:bx)(x:Option (CE T c e))(y:Option (CC T c (op'::ops) (e'::es))):Option (CC T c (op::op'::ops) (e::e'::es)):=x.bind λx=>y.bind λy=>
 S5 ⟨.more (Zov op) x.a y.1,λenv=>congrArg (eval e env::·) (y.2.1 env),λK A cl env hx=>Zrx hx.hu (x.p hx) (y.2.2 K A cl env hx)⟩
theorem Zpn {f:aq}{ks:List db}{es:List aq}{p:Pos}{g:Str}{it:It}(hk:ks.isEmpty=T1)(hf:∃p,f=.Name g p)(h:∀q,PI K A env c cl (.Call (.Name g q) es [] p) it):PI K A env c cl (.Call f es ks p) it:=by
 refine rE (λq e=>?_) hf
 rw[e,Do.mp hk];exact h q
def kR1 (f:aq)(ks:List db)(p:Pos)(x:Option (CE T c e)):Option (CI T c (.Call f [e] ks p)):=ifH ks.isEmpty λhk=>(Zcm f).bind λg=>ifH (Jk c g.1) λh1=>ifH (g.1 == X2) λh2=>x.bind λa=>
 S5 ⟨.rng1 a.a,λu_ v_=>rfl,λu_ v_ w_ x_ hx=>Zpn hk g.2 λu_=>Zr1 hx.G h1 h2 (Xy a.pl Zcq) (Za5 (a.pl.star _ _) (a.p hx) Zek)⟩
def kR2 {e':aq}(f:aq)(ks:List db)(p:Pos)(x:Option (CE T c e))(y:Option (CE T c e')):Option (CI T c (.Call f [e,e'] ks p)):=ifH ks.isEmpty λhk=>(Zcm f).bind λg=>ifH (Jk c g.1) λh1=>ifH (g.1 == X2) λh2=>x.bind λa=>y.bind λb=>
 S5 ⟨.rng2 a.a b.a,λu_ v_=>rfl,λu_ v_ w_ x_ hx=>Zpn hk g.2 λu_=>Zr2 hx.G h1 h2 (Xy a.pl (Xy b.pl Zcq)) (Za5 (a.pl.star _ _) (a.p hx) (Za5 (b.pl.star _ _) (b.p hx) Zek))⟩
theorem Zxx {sc:bh}{tg Y4:aq}{ifs:List aq}{async:Int}{gs:List bq}{y:Str}{i:Nat}{it:It}{fs:Es}(h0:(gs.isEmpty&&async == 0)=T1)(hy:∃p,tg=.Name y p)(hi:Wm (Js c sc) y=S5 i)(hl:((Js c sc).names.lookup y == S5 .local)=T1)
  (h1:PI K A env c cl Y4 it) (h2:∀v,foldedSetIterable Y4 env v=pure v) (h3:∀cenv,PF K A cenv (Js c sc) cl ifs fs):GQ K A env c cl sc (⟨tg,Y4,ifs,async⟩::gs) (i,it,fs):=by
 refine rE (λp e=>?_) hy
 exact ⟨y,p,Y4,ifs,by rw[e,Do.mp (Wy h0),eq_of_beq (Qu h0)],eq_of_beq hl,hi,h1,h2,h3⟩
def Zzi {sc:bh}{Y4:aq}{ifs:List aq}(tg:aq)(async:Int)(gs:List bq)(r:Option (CI T c Y4))(x:Option (CE T c Y4))(fs:Option (CEs T (Js c sc) ifs)):Option (CG T c sc (⟨tg,Y4,ifs,async⟩::gs)) :=
 ifH (gs.isEmpty&&async == 0) λh0=>(Zcm tg).bind λy=>Uj (Wm (Js c sc) y.1) λi hi=>ifH ((Js c sc).names.lookup y.1 == S5 .local) λhl=>(r.or (x.map CI.of)).bind λit=>fs.bind λfs=>
  S5 ⟨(i,it.1,fs.1),λK A cl env hx=>Zxx h0 y.2 hi hl (it.2.2 K A cl env hx) (it.2.1 env) λcenv=>(fs.2.2 K A cl cenv hx).2.1⟩
end
mutual
noncomputable def cE (T:Tabs):(c:CEnv)->(e:aq)->Option (CE T c e)
 | c,.Constant k n p=>Zvq T c k n p
 | c,.Name x p=>Zxr T c x p
 | c,.BinOp l op r p=>Zy9 op p (cE T c l) (cE T c r)
 | c,.UnaryOp .USub x p=>Zza p (cE T c x)
 | c,.UnaryOp .Not x p=>Zzb p (cE T c x)
 | c,.BoolOp op vs p=>Zxs p (cB T op c vs)
 | c,.Compare l ops cs p=>Zzc p (cE T c l) (cCh T c cs ops)
 | c,.IfExp t b o p=>kIf p (cE T c t) (cE T c b) (cE T c o)
 | c,.Tuple es k p=>Zzd k p (cEs T c es)
 | c,.List es p=>Zze p (cEs T c es)
 | c,.Subscript v (.Slice lo hi st r) p=>Zzf r p (cE T c v) (cO T c lo) (cO T c hi) (cO T c st)
 | c,.Subscript v i p=>Zzg p (cE T c v) (cE T c i)
 | c,.ListComp elt gens sc p=>Zxt p (Zzj T sc c gens) (cE T (Js c sc) elt)
 | c,.Call (.Name f q) as [] p=>Zxu f q p (cEs T c as)
 | c,.Call (.Attribute o m q) as [] p=>Zxv m q p (cE T c o) (cEs T c as)
 | c,.Attribute o m p=>Zxw m p (cE T c o)
 | _,_=>.none
noncomputable def cO (T:Tabs):(c:CEnv)->(e:Option aq)->Option (CO T c e)
 | _,.none=>S5 ⟨.no,λu_ v_ w_ x_ y_=>Zxn⟩
 | c,S5 e=>Zzh (cE T c e)
noncomputable def cB (T:Tabs)(op:bz):(c:CEnv)->(es:List aq)->Option (CB T c op es)
 | _,[]=>.none
 | c,[e]=>kB1 (cE T c e)
 | c,e::e'::r=>kB2 (cE T c e) (cB T op c (e'::r))
noncomputable def cEs (T:Tabs):(c:CEnv)->(es:List aq)->Option (CEs T c es)
 | _,[]=>S5 ⟨.nil,Zcq,λu_ v_ w_ x_ y_=>⟨Zek,Zvg,Zvk⟩⟩
 | c,e::r=>kEs (cE T c e) (cEs T c r)
noncomputable def cCh (T:Tabs):(c:CEnv)->(es:List aq)->(ops:List bx)->Option (CC T c ops es)
 | c,[e],[op]=>kC1 op (cE T c e)
 | c,e::e'::es,op::op'::ops=>kC2 op (cE T c e) (cCh T c (e'::es) (op'::ops))
 | _,_,_=>.none
noncomputable def cR (T:Tabs):(c:CEnv)->(e:aq)->Option (CI T c e)
 | c,.Call f [x] ks p=>kR1 f ks p (cE T c x)
 | c,.Call f [x,y] ks p=>kR2 f ks p (cE T c x) (cE T c y)
 | _,_=>.none
noncomputable def Zzj (T:Tabs)(sc:bh):(c:CEnv)->(gens:List bq)->Option (CG T c sc gens)
 | _,[]=>.none
 | c,⟨tg,Y4,ifs,async⟩::gs=>Zzi tg async gs (cR T c Y4) (cE T c Y4) (cEs T (Js c sc) ifs)
end
def CS (T:Tabs)(c:CEnv)(st:bo):Type:={ a:St // ∀(K:Kx) (A:aj) (cl:Cl) (env:Env),HX K A cl T->(∃outer,A.frames=S5 (env::outer))->PS K A T env c cl st a }
def CSs (T:Tabs)(c:CEnv)(ss:List bo):Type:={ a:Ss // ∀(K:Kx) (A:aj) (cl:Cl) (env:Env),HX K A cl T->(∃outer,A.frames=S5 (env::outer))->PSs K A T env c cl ss a }
section
variable {T:Tabs}{c:CEnv}{K:Kx}{A:aj}{cl:Cl}{env:Env}
theorem HX.try_ (x:HX K A cl T):HX K A cl (Zot T):=⟨⟨x.G.ty,x.G.fn,x.G.bl,x.G.rg,x.G.cl,λu_ v_ h=>nn h⟩,x.ty,x.hu,x.on,x.hd,x.sort,⟨x.wk.cls,x.wk.tyb,x.wk.attr⟩,⟨λu_ v_ h=>nn h,λu_ v_ w_ h=>nn h⟩⟩
theorem Zdl {x:Str}{b:Blt}(h:(quiet T).blts.lookup x=S5 b):T.blts.lookup x=S5 b/\(b=.isinstance\/b=.int):=by
 refine byC λXX=>?_;obtain ⟨h1,h2⟩:=Cr.mp (mem_of_lookup h);apply XX
 refine ⟨of_decide_eq_true (by simpa using h2),?_⟩
 rcases Be.mp h1 with e | h1
 .exact .inl (congrArg Prod.snd e)
 .exact .inr (congrArg Prod.snd (Bo.mp h1))
theorem HX.quiet (x:HX K A cl T)(v:aa):HX K (A.mark (S5 v)) cl (quiet T) where
 G:=⟨x.G.ty,λu_ v_ h=>nn h,λy b h=>x.G.bl y b (Zdl h).1,x.G.rg,λu_ v_ h=>nn h,x.G.ex⟩
 ty:=x.ty
 hu:=x.hu
 on:=λh=>ft h
 hd:=λy b h h1 h2=>((Zdl h).2.elim h1 h2).elim
 sort:=λy h=>(by rcases (Zdl h).2 with h | h <;> cases h)
 wk:=⟨λc C h=>Zdc (λN mN h1 h2 h3 h4 h5 u_ h7=>⟨N,mN,h1,h2,h3,h4,h5,λu_ v_ w_ h=>nn h,h7⟩) (x.wk.cls c C h),x.wk.tyb,λu_ v_ h=>nn h⟩
 ek:=⟨x.ek.at_,x.ek.sub⟩
def Zxy {e:aq}(p:Pos)(x:Option (CE T c e)):Option (CS T c (.Expr e p)):=x.bind λx=>ifH (x.1.2.1 != 1) λh=>S5 ⟨.expr x.a,λK A cl env hx u_=>Zr9 (x.pl.sw (bne_iff_ne.mp h) _ _ _) (x.q hx).px⟩
def Zxz {v:aq}(n:Str)(px p:Pos)(x:CE T c v):Option (CS T c (.Assign [.Name n px] v p)):=Uj (Wm c n) λi hi=>S5 ⟨.asg (.one i) x.a,λu_ v_ w_ x_ hx y_=>(x.q hx).pa n px p i hi⟩
def Zx0 {v o:aq}(a:Str)(px p:Pos)(x:CE T c v)(y:Option (CE T c o)):Option (CS T c (.Assign [.Attribute o a px] v p)):=y.bind λy=>Uj (T.attrs.lookup a) λk hk=>ifH (x.1.2.1 != 1) λh=>
 S5 ⟨.aset y.a k x.a,λu_ v_ w_ x_ hx y_=>Zsi hx.wk (x.pl.sw (bne_iff_ne.mp h) _ _ _) hk (x.q hx).px (y.p hx)⟩
theorem Zvr (hx:HX K A cl T)(hl:T.loops=T1){e1 e2 e3:aq}{k:Nat}{px:Pos}{n1 n2 n3:Str}{i1 i2 i3:Nat}(h1:∃p,e1=.Name n1 p)(h2:∃p,e2=.Name n2 p)(h3:∃p,e3=.Name n3 p)(g1:Wm c n1=S5 i1)(g2:Wm c n2=S5 i2)(g3:Wm c n3=S5 i3):PTg K A env c (.Tuple [e1,e2,e3] k px) (.three i1 i2 i3):=by
 revert h1 h2 h3;refine rE λp1 q1=>rE λp2 q2=>rE λp3 q3=>?_
 rw[q1,q2,q3];exact Zno (hx.on hl).1 g1 g2 g3
noncomputable def Zzk (T:Tabs)(c:CEnv)(p:Pos):(e:Option aq)->Option (CS T c (.Return e p))
 | .none=>S5 ⟨.ret (.lit .none),λu_ v_ w_ x_ y_ z_=>Zsa⟩
 | some e=>(cE T c e).bind λx=>S5 ⟨.ret x.a,λu_ v_ w_ x_ hx y_=>Zvl (x.q hx).px⟩
noncomputable def Zzl {t:aq}{a b:List bo}(p:Pos)(x:Option (CE T c t))(y:Option (CSs T c a))(z:Option (CSs T c b)):Option (CS T c (.If t a b p)):=x.bind λx=>y.bind λy=>z.bind λz=>
 S5 ⟨.ife x.a y.1 z.1,λK A cl env hx hf=>Zxp (x.t hx) (y.2 K A cl env hx hf) (z.2 K A cl env hx hf)⟩
theorem Zzm {t i:aq}{b o:List bo}{p:Pos}{it:It}{z:Ss}{tg:Tg}(hx:HX K A cl T)(ho:(o.isEmpty&&T.loops)=T1)(ht:PTg K A env c t tg)(hf:∀v,foldedSetIterable i env v=pure v)(hi:PI K A env c cl i it)(hb:PSs K A T env c cl b z):PS K A T env c cl (.For t i b o p) (.for_ tg it z):=by
 rw[Do.mp (Wy ho)];exact Zvp (hx.on (Qu ho)).1 hf ht hi hb
def CT (T:Tabs)(c:CEnv)(t:aq):Type:={ g:Tg // ∀(K:Kx) (A:aj) (cl:Cl) (env:Env),HX K A cl T->T.loops=T1->PTg K A env c t g }
noncomputable def cTg (T:Tabs)(c:CEnv):(t:aq)->Option (CT T c t)
 | .Name n p=>Uj (Wm c n) λk hk=>S5 ⟨.one k,λu_ v_ w_ x_ y_ z_=>Zsc hk⟩
 | .Tuple [e1,e2,e3] k px=>(Zcm e1).bind λn1=>(Zcm e2).bind λn2=>(Zcm e3).bind λn3=>Uj (Wm c n1.1) λi1 g1=>Uj (Wm c n2.1) λi2 g2=>Uj (Wm c n3.1) λi3 g3=>S5 ⟨.three i1 i2 i3,λu_ v_ w_ x_ hx hl=>Zvr hx hl n1.2 n2.2 n3.2 g1 g2 g3⟩
 | _=>.none
def Zx1 {v:aq}(ts:List aq)(k:Nat)(px p:Pos)(x:CE T c v)(g:Option (CT T c (.Tuple ts k px))):Option (CS T c (.Assign [.Tuple ts k px] v p)):=ifH T.loops λhl=>ifH (x.1.2.1 == 3) λh=>g.bind λg=>
 S5 ⟨.asg g.1 x.a,λK A cl env hx u_=>Zpf (x.pl.sole (eq_of_beq h) _ _ _ _ env).1 (x.pl.sole (eq_of_beq h) _ _ _ p.line env).2 (g.2 K A cl env hx hl) (x.q hx).px⟩
def Zx2 {v o i:aq}(px p:Pos)(x:CE T c v)(y:Option (CE T c o))(z:Option (CE T c i)):Option (CS T c (.Assign [.Subscript o i px] v p)):=y.bind λy=>z.bind λz=>ifH (x.1.2.1 != 1) λh=>
 S5 ⟨.iset y.a z.a x.a,λu_ v_ w_ x_ hx y_=>Zsl (x.pl.sw (bne_iff_ne.mp h) _ _ _) (x.q hx).px (y.p hx) (z.p hx)⟩
noncomputable def Zzn {v:aq}(p:Pos)(x:CE T c v):(ts:List aq)->Option (CS T c (.Assign ts v p))
 | [.Name n px]=>Zxz n px p x
 | [.Attribute o a px]=>Zx0 a px p x (cE T c o)
 | [.Subscript o i px]=>Zx2 px p x (cE T c o) (cE T c i)
 | [.Tuple ts k px]=>Zx1 ts k px p x (cTg T c (.Tuple ts k px))
 | _=>.none
def Zzo {b:List bo}(t i:aq)(o:List bo)(p:Pos)(z:Option (CSs T c b)):Option (CS T c (.For t i b o p)):=ifH (o.isEmpty&&T.loops) λho=>(cTg T c t).bind λg=>((cR T c i).or ((cE T c i).map CI.of)).bind λit=>z.bind λz=>
 S5 ⟨.for_ g.1 it.1 z.1,λK A cl env hx hf=>Zzm hx ho (g.2 K A cl env hx (Qu ho)) (it.2.1 env) (it.2.2 K A cl env hx) (z.2 K A cl env hx hf)⟩
noncomputable def Zvs {t:aq}{b:List bo}(p:Pos)(x:Option (CE T c t))(z:Option (CSs T c b)):Option (CS T c (.While t b [] p)):=x.bind λx=>z.bind λz=>
 S5 ⟨.whl x.a z.1,λK A cl env hx hf=>Zpj (x.t hx) (z.2 K A cl env hx hf)⟩
theorem Zvt {f:aq}{e1:aq}{v1:V}{q p:Pos}{n:Str}{k:Nat}(hx:HX K A cl T)(hf:∃p,f=.Name n p)(hg:(Jk c n&&T.loops)=T1)(hk:T.excs.lookup n=S5 k)(hc:Zag [e1])(h1:PEs K A env c cl [e1] (.cons (.lit v1) .nil)):PS K A T env c cl (.Raise (S5 (.Call f [e1] [] q)) N0 p) (.raise k):=by
 refine rE (λq e=>?_) hf
 rw[e];exact Zpk hx.G hx.ek (hx.on (Qu hg)).1 (Wy hg) hk hc h1
def Zvu {e1:aq}(f:aq)(q p:Pos)(x:Option (CE T c e1)):Option (CS T c (.Raise (S5 (.Call f [e1] [] q)) N0 p)):=x.bind λx=>Uj x.1.2.2 λv hv=>(Zcm f).bind λn=>ifH (Jk c n.1&&T.loops) λhg=>Uj (T.excs.lookup n.1) λk hk=>
 S5 ⟨.raise k,λu_ v_ w_ x_ hx y_=>Zvt hx n.2 hg hk (Xy x.pl Zcq) (Za5 (x.pl.star _ _) (x.li hv▸x.p hx) Zek)⟩
theorem Zzp {b suite:List bo}{h0:bo}{t:aq}{p1 p:Pos}{x n:Str}{k i:Nat}{xb yb:Ss}(hx:HX K A cl T)(hfr:∃outer,A.frames=S5 (env::outer))(ht:∃p,t=.Name x p)(hg:Jk c x=T1)(hk:T.excs.lookup x=S5 k)(hn:Wm c n=S5 i)(hl:(c.names.lookup n == S5 .local)=T1)(hb:PSs K A (Zot T) env c cl b xb)(hs:∀ev,PSs K (A.mark (S5 ev)) (Mini.Internal.quiet T) env c cl (h0::suite) yb) :
  PS K A T env c cl (.Try b [.ExceptHandler (S5 t) (S5 n) (h0::suite) p1] [] [] p) (.try_ xb k i yb):=rE (λu_ e=>Zsk hx.G hx.ek hfr e hg hk hn (eq_of_beq hl) hb hs) ht
def Zzq {b suite:List bo}{h0:bo}(t:aq)(n:Str)(p1 p:Pos)(x:Option (CSs (Zot T) c b))(y:Option (CSs (quiet T) c (h0::suite))):Option (CS T c (.Try b [.ExceptHandler (S5 t) (S5 n) (h0::suite) p1] [] [] p)):=(Zcm t).bind λf=>ifH (Jk c f.1) λhg=>Uj (T.excs.lookup f.1) λk hk=>Uj (Wm c n) λi hn=>ifH (c.names.lookup n == S5 .local) λhl=>x.bind λx=>y.bind λy=>
 S5 ⟨.try_ x.1 k i y.1,λK A cl env hx hf=>Zzp hx hf f.2 hg hk hn hl (x.2 K A cl env hx.try_ hf) λev=>y.2 K (A.mark (S5 ev)) cl env (hx.quiet ev) hf⟩
noncomputable def kSs {s:bo}{r:List bo}(x:Option (CS T c s))(y:Option (CSs T c r)):Option (CSs T c (s::r)):=x.bind λx=>y.bind λy=>S5 ⟨.cons x.1 y.1,λK A cl env hx hf=>Zpd (x.2 K A cl env hx hf) (y.2 K A cl env hx hf)⟩
end
mutual
noncomputable def cSt:(st:bo)->(T:Tabs)->(c:CEnv)->Option (CS T c st)
 | .Expr e p,T,c=>Zxy p (cE T c e)
 | .Assign ts v p,T,c=>(cE T c v).bind λx=>Zzn p x ts
 | .Return v p,T,c=>Zzk T c p v
 | .If t a b p,T,c=>Zzl p (cE T c t) (cSs a T c) (cSs b T c)
 | .For t i b o p,T,c=>Zzo t i o p (cSs b T c)
 | .While t b [] p,T,c=>Zvs p (cE T c t) (cSs b T c)
 | .Break p,T,c=>S5 ⟨.brk,λu_ v_ w_ x_ y_ z_=>Zvm⟩
 | .Pass p,T,c=>S5 ⟨.pass,λu_ v_ w_ x_ y_ z_=>Zsb⟩
 | .Raise (S5 (.Call f [e1] [] q)) N0 p,T,c=>Zvu f q p (cE T c e1)
 | .Try b [.ExceptHandler (S5 t) (S5 n) (h0::suite) p1] [] [] p,T,c=>Zzq t n p1 p (cSs b (Zot T) c) (cSs (h0::suite) (quiet T) c)
 | _,_,_=>.none
noncomputable def cSs:(ss:List bo)->(T:Tabs)->(c:CEnv)->Option (CSs T c ss)
 | [],_,_=>S5 ⟨.nil,λu_ v_ w_ x_ y_ z_=>Zr8⟩
 | s::r,T,c=>kSs (cSt s T c) (cSs r T c)
end
end Mini.Internal
namespace Mini.Internal
open PySem PyProof.Rows PySem.SeqAt
variable {J J' J1:List am}{U U' U1:H}{s s' s1:ae}{h h':au}{Z Z':L}
theorem RV.under {K:Kx}{v:V}{x:aa}(r:RV K J h v x):Mini.Internal.below J.length v=T1 :=
 RV.rec (motive_1:=λv u_ v_=>Mini.Internal.below J.length v=T1) (motive_2:=λl u_ v_=>Mini.Internal.belows J.length l=T1) rfl (λu_=>rfl) (λu_ v_=>rfl) (λu_ v_=>rfl) (λu_ v_ w_ i=>i) (λe=>decide_eq_true (Ba.mp e).1) (λu_=>rfl) (λu_ v_ w_ x_=>rfl) rfl (λu_ v_ i j=>Zat i j) r
theorem RVs.under {K:Kx}{l:List V}{vs:List aa}(r:RVs K J h l vs):Mini.Internal.belows J.length l=T1 :=
 RVs.ind (P:=λl u_=>Mini.Internal.belows J.length l=T1) rfl (λa u_ i=>Zat a.under i) r
theorem Zjn (n:Nat)(l:List Int):belows n (l.map V.int)=T1:=by
 induction l with
 | nil=>rfl
 | cons x r ih=>exact Zat rfl ih
theorem Zfb {α:Type}{l l':List α}(hp:l <+: l'){n:Nat}{a:α}(hn:n<l.length)(e:l'[n]?=S5 a):l[n]?=S5 a:=by
 refine byC λXX=>?_;revert hp;refine rE λt hO1=>?_;subst hO1;apply XX
 rwa [Br hn] at e
theorem RV.cut {K:Kx}(hp:J <+: J1){v:V}{x:aa}(r:RV K J1 h v x):Mini.Internal.below J.length v=T1->RV K J h v x :=
 RV.rec (motive_1:=λv x u_=>Mini.Internal.below J.length v=T1->RV K J h v x) (motive_2:=λl vs u_=>Mini.Internal.belows J.length l=T1->RVs K J h l vs) (λu_=>.none) (λb u_=>.bool b) (λi t u_=>.int i t) (λi t u_=>.str i t) (λe u_ n i hb=>.tup e (i hb) n)
  (λe hb=>.obj (Zfb hp (of_decide_eq_true hb) e)) (λt u_=>.ty t) (λe u_ n i v_=>.frz e (i (Zjn _ _)) n) (λu_=>.nil) (λu_ v_ i j hb=>.cons (i (Wy hb)) (j (Qu hb))) r
theorem RVs.cut {K:Kx}(hp:J <+: J1){l:List V}{vs:List aa}(r:RVs K J1 h l vs):Mini.Internal.belows J.length l=T1->RVs K J h l vs :=
 RVs.ind (P:=λl vs=>Mini.Internal.belows J.length l=T1->RVs K J h l vs) (λu_=>.nil) (λa u_ i hb=>.cons (a.cut hp (Wy hb)) (i (Qu hb))) r
theorem HR.cut {K:Kx}{h1:au}(hr:HR K J U h)(hr1:HR K J1 U1 h1)(hp:J <+: J1)(ht:U1.take U.length=U):HR K J U h1:=by
 refine ⟨hr1.keep,hr.len,hr.nd,hr.new,λn o a h1 h2=>?_⟩
 have hn:=(Ba.mp h1).1
 have h1':U1[n]?=S5 o:=by
  rw[← ht,K5 hn] at h1;exact h1
 have ho:=hr1.obj n o a h1' (Xv hp h2)
 have ho0:=hr.obj n o a h1 h2
 cases o with
 | list l=>
  revert ho0;refine Yn λvs0 n0 e0 r0 u4_=>?_
  revert ho;refine Yn λvs n1 e1 r1 hl=>?_
  exact ⟨vs,n1,e1,r1.cut hp r0.under,hl⟩
 | inst c d=>
  revert ho0;refine Qt λu0_ u1_ ad0 u3_ u4_ u5_ u6_ u7_ q=>?_
  revert ho;refine Qt λo C ad e1 e2 e3 e4 e5 e6=>?_
  exact ⟨o,C,ad,e1,e2,e3,e4,e5,Zfb hp (Ba.mp q).1 e6⟩
 | exc c=>exact ho
 | ns l=>
  revert ho0;refine Ud λu0_ u1_ u2_ q=>?_
  revert ho;refine Ud λm e1 e2 e3=>?_
  refine ⟨m,e1,e2,λk v hv=>?_⟩
  refine Ziq (λhk cv h5 h6=>?_) (e3 k v hv)
  refine Ziq (λu0_ u1_ u2_ h7=>?_) (q k v hv)
  exact ⟨hk,cv,h5,h6.cut hp h7.under⟩
structure FnAt (K:Kx)(T:Tabs)(f:Nat)(F:Fn)(o:Obj)(fd:FuncData)(body:List bo)(xs:List Str):Prop where
 ho:K.h0.get? (K.fna f)=S5 o
 data:o.data=.func fd
 bodyE:fd.body=.stmts body
 clo:fd.closure=[]
 kind:fd.scope.kind=.function
 co:fd.scope.isCoroutine=F0
 gen:fd.scope.isGenerator=F0
 nd:(fd.scope.names.map (·.1)).Nodup
 glob:fd.globals=mainGlobals
 blts:fd.builtins=builtinsNs
 code:K.h0.CodeRec fd.code fd.qualname
 bind:∀vals:List aa,vals.length=xs.length->bindArgs fd ⟨vals,[]⟩=pure (xs.zip vals)
 ps:xs.mapM (λx=>(Y1 fd.scope.names).lookup x)=S5 F.ps
 comp:∀(A:aj) (cl:Cl) (env:Env),HX K A cl T->(∃outer,A.frames=S5 (env::outer))->PSs K A T env (fnC fd.scope) cl body F.body
 size:(Zdy fd.scope.names).length<=F.size
def Zvv (K:Kx)(T:Tabs)(f:Nat)(F:Fn):Prop:=∃o fd body xs,FnAt K T f F o fd body xs
theorem Q0 {names:List (Str×av)}{x:Str}{i:Nat}(h:(Y1 names).lookup x=S5 i):i<(Zdy names).length/\∃k,(Zdy names)[i]?=S5 (x,k):=by
 obtain hm:=mem_of_lookup h
 unfold Y1 at hm
 refine rEA (λhO0 h1 h2=>?_) (C0.mp hm);obtain ⟨hO0,j⟩:=hO0;obtain ⟨n,k⟩:=hO0
 refine piE h2 ?_
 refine rA (λh3 h4=>?_) (Lq h1)
 exact ⟨h3,k,by rw[Bl h3,← h4]⟩
theorem Zgq {names:List (Str×av)}{x y:Str}{i:Nat}(h:(Y1 names).lookup x=S5 i)(h':(Y1 names).lookup y=S5 i):x=y:=by
 refine rAE (λu0_ k e=>?_) (Q0 h)
 refine rAE (λu0_ k' e'=>?_) (Q0 h')
 rw[e] at e';refine pE e' ?_;rfl
theorem Zfc {names:List (Str×av)}{x:Str}{i:Nat}(hn:(names.map (·.1)).Nodup)(h:(Y1 names).lookup x=S5 i):names.lookup x=S5 .local\/names.lookup x=S5 .cell:=by
 refine rAE (λu0_ k e=>?_) (Q0 h)
 obtain hm:=Bw e
 unfold Zdy at hm
 refine rA (λh1 h2=>?_) (Cr.mp hm)
 simp only[Kr,beq_iff_eq] at h2
 have:=Un hn h1
 rcases h2 with h2 | h2 <;> rw[h2] at this
 .exact .inl this
 .exact .inr this
theorem Zah:∀{names:List (Str×av)}{n:Nat}{acc:List (Str×am)},(names.map (·.1)).Nodup->(acc.map (·.1)).Nodup->(∀x∈acc.map (·.1),x ∉ names.map (·.1))->((cellsFrom n names acc).map (·.1)).Nodup
 | [],_,_,_,h,_=>h
 | (y,k)::r,n,acc,hn,ha,hd=>by
  rw[Bz,Go] at hn
  unfold cellsFrom
  split
  .refine Zah hn.2 ?_ λx hx=>?_
   .rw[Bz,Go]
    exact ⟨λhm=>hd y hm (by simp),ha⟩
   .rw[Bz] at hx
    rcases Be.mp hx with rfl | hx
    .exact hn.1
    .exact λhm=>hd x hx (Bb _ hm)
  .exact Zah hn.2 ha λx hx hm=>hd x hx (Bb _ hm)
set_option tactic.hygienic true in
theorem Zbm:∀{names:List (Str×av)}{n:Nat}{acc:List (Str×am)}{x:Str},((x,av.cell)∈names\/x∈acc.map (·.1))->x∈(cellsFrom n names acc).map (·.1)
 | [],_,_,x,h=>by
  rcases h with h | h
  .cases h
  .exact h
 | (y,k)::r,n,acc,x,h=>by
  unfold cellsFrom
  split
  .rename_i hk
   refine Zbm ?_
   rcases h with h | h
   .rcases Be.mp h with e | h
    .refine byC λXX=>?_;refine rA (λhO0 hO1=>?_) (Ik.inj e);subst hO0;subst hO1;apply XX;clear XX;right;simp
    .exact .inl h
   .right;exact Bb _ h
  .rename_i hk
   refine Zbm ?_
   rcases h with h | h
   .rcases Be.mp h with e | h
    .refine byC λXX=>?_;refine rA (λhO0 hO1=>?_) (Ik.inj e);subst hO0;subst hO1;apply XX;clear XX;simp at hk
    .exact .inl h
   .exact .inr h
section
variable {K:Kx}{A:aj}{T:Tabs}
set_option tactic.hygienic true in
theorem Zdm {names:List (Str×av)}(kindOf:Str->Option av)(hk:∀x,kindOf x=names.lookup x)(hnd:(names.map (·.1)).Nodup) :
  ∀(xs:List Str) (is:List Nat) (vs:List V) (cvs:List aa) (Z0 Z:L) (m cm:Str->Option aa),xs.mapM (λx=>(Y1 names).lookup x)=S5 is->Xu is vs Z0=S5 Z->RVs K J h vs cvs->
   (∀x (i:Nat) v,(Y1 names).lookup x=S5 i->Z0[i]?=S5 (S5 v)->∃cv,(if names.lookup x=S5 .local then m x else cm x)=S5 cv/\RV K J h v cv)->
   xs.length=cvs.length/\∀x (i:Nat) v,(Y1 names).lookup x=S5 i->Z[i]?=S5 (S5 v)->∃cv,(if names.lookup x=S5 .local then bindL kindOf (xs.zip cvs) m x else bindC kindOf (xs.zip cvs) cm x)=S5 cv/\RV K J h v cv
 | [],is,vs,cvs,Z0,Z,m,cm,h1,h2,h3,h4=>by
  simp only[Mj] at h1
  obtain rfl:=B0.inj h1
  cases vs with
  | nil=>cases h3;obtain rfl:=B0.inj h2;exact ⟨rfl,h4⟩
  | cons _ _=>exact nn h2
 | x::xs,is,vs,cvs,Z0,Z,m,cm,h1,h2,h3,h4=>by
  rw[Dn] at h1
  cases hs:(Y1 names).lookup x with
  | none=>rw[hs] at h1;exact nn h1
  | some i=>
   rw[hs] at h1
   cases hr:xs.mapM (λx=>(Y1 names).lookup x) with
   | none=>rw[hr] at h1;exact nn h1
   | some is'=>
    rw[hr] at h1;obtain rfl:=B0.inj h1
    cases h3 with
    | nil=>exact nn h2
    | cons r rs=>
     rename_i v l cx cvs'
     simp only[Xu] at h2
     refine Zy (h2) λZ1 h5 h6=>?_
     refine rA (λhi hset=>?_) (Zb5 h5)
     have hkx:=Zfc hnd hs
     have ih:=Zdm kindOf hk hnd xs is' l cvs' Z1 Z (if kindOf x=S5 .local then λy=>if y=x then S5 cx else m y else m) (if kindOf x=S5 .local then cm else λy=>if y=x then S5 cx else cm y) hr h6 rs ?_
     .refine ⟨by simp[ih.1],λy j w g1 g2=>?_⟩
      have:=ih.2 y j w g1 g2
      simpa only[Io,bindL,bindC] using this
     .intro y j w g1 g2
      rw[hset] at g2
      by_cases hj:j=i
      .subst hj
       rw[gp rfl] at g2;cases g2
       obtain rfl:=Zgq g1 hs
       refine ⟨cx,?_,r⟩
       rcases hkx with hkx | hkx
       .rw[gp hkx,gp (by rw[hk];exact hkx)];simp
       .have hne:¬ names.lookup y=S5 .local:=by rw[hkx];decide
        rw[gq hne,gq (by rw[hk];exact hne)];simp
      .rw[gq hj] at g2
       have hyx:y≠x:=by rintro rfl;rw[g1] at hs;obtain rfl:=B0.inj hs;exact hj rfl
       refine rEA (λcw e1 e2=>?_) (h4 y j w g1 g2)
       refine ⟨cw,?_,e2⟩
       rw[← e1]
       split
       .split
        .simp[hyx]
        .rfl
       .split
        .rfl
        .simp[hyx]
theorem Zfd {n:Nat}:∀(is:List Nat) (vs:List V) (Z0 Z:L),Xu is vs Z0=S5 Z->(∀i∈is,i<n)->(∀(i:Nat) v,n<=i->Z0[i]?≠S5 (S5 v))->∀(i:Nat) v,n<=i->Z[i]?≠S5 (S5 v)
 | [],[],Z0,Z,h,_,h0=>by refine siE h ?_;exact h0
 | [],_::_,Z0,Z,h,_,_=>by exact nn h
 | _::_,[],Z0,Z,h,_,_=>by exact nn h
 | i::is,v::vs,Z0,Z,h,hlt,h0=>by
  simp only[Xu] at h
  refine Zy (h) λZ1 h5 h6=>?_
  refine rA (λu0_ hset=>?_) (Zb5 h5)
  refine Zfd is vs Z1 Z h6 (λj hj=>hlt j (Bb _ hj)) λj w hj=>?_
  have:=hlt i Bf
  rw[hset,gq (by exact Nc 0x19801620712c1011 Tt hj this)]
  exact h0 j w hj
theorem Zpo {xs:List Str}{names:List (Str×av)}:∀{is:List Nat},xs.mapM (λx=>(Y1 names).lookup x)=S5 is->∀i∈is,∃x∈xs,(Y1 names).lookup x=S5 i:=by
 induction xs with
 | nil=>intro is h;simp only[Mj] at h;refine siE h ?_;intro i hi;cases hi
 | cons x xs ih=>
  intro is h
  rw[Dn] at h
  cases hs:(Y1 names).lookup x with
  | none=>rw[hs] at h;exact nn h
  | some i=>
   rw[hs] at h
   cases hr:xs.mapM (λx=>(Y1 names).lookup x) with
   | none=>rw[hr] at h;exact nn h
   | some is'=>
    rw[hr] at h;refine siE h ?_
    intro j hj
    rcases Be.mp hj with rfl | hj
    .exact ⟨x,Bf,hs⟩
    .refine rEA (λy hy e=>?_) (ih hr j hj);exact ⟨y,Bb _ hy,e⟩
theorem Zjo {names:List (Str×av)}:∀{xs:List Str}{is:List Nat},xs.mapM (λx=>(Y1 names).lookup x)=S5 is->∀x∈xs,∃i,(Y1 names).lookup x=S5 i
 | [],_,_,x,hx=>by cases hx
 | y::xs,is,h,x,hx=>by
  rw[Dn] at h
  cases hs:(Y1 names).lookup y with
  | none=>rw[hs] at h;exact nn h
  | some i=>
   rw[hs] at h
   cases hr:xs.mapM (λx=>(Y1 names).lookup x) with
   | none=>rw[hr] at h;exact nn h
   | some is'=>
    rcases Be.mp hx with rfl | hx
    .exact ⟨i,hs⟩
    .exact Zjo hr x hx
end
section
variable {K:Kx}{A:aj}{T:Tabs}
theorem Zpp {f:Nat}{F:Fn}{o:Obj}{fd:FuncData}{body:List bo}{xs:List Str}(x:FnAt K T f F o fd body xs){as:List V}(hst:Wr F as=S5 Z)(hr:HR K J U s.heap){cvs:List aa}(rvs:RVs K J s.heap as cvs){a:am}
  (hin : InCallC s (callEnvC fd s.heap.objs.size a).locals (bindL (callEnvC fd s.heap.objs.size a).kindOf (xs.zip cvs) λu_ => N0) (callEnvC fd s.heap.objs.size a).cells
    (bindC (callEnvC fd s.heap.objs.size a).kindOf (xs.zip cvs) λu_=>N0) s1) (ff:FF K A J s.heap):FO K (A.deeper (callEnvC fd s.heap.objs.size a)) (callEnvC fd s.heap.objs.size a) (fnC fd.scope) Z J s1.heap:=by
 refine rA (λf1 f2=>?_) (Zbl hr)
 have hk:∀b o,s.heap.get? b=S5 o->s1.heap.get? b=S5 o:=hin.toInCall.keep
 have hnone:∀b:am,@LE.le Nat _ s.heap.objs.size b->b ∉ J/\K.h0.get? b=N0:=by
  intro b hb
  have h0:s.heap.get? b=N0:=by
   cases e:s.heap.get? b with
   | none=>rfl
   | some o=>have:=au.lt_size e;exact absurd hb (Nat.not_le.mpr this)
  refine ⟨λhm=>?_,?_⟩
  .refine rEA (λob e u2_=>?_) (hr.at_ hm);rw[h0] at e;exact nn e
  .cases e:K.h0.get? b with
   | none=>rfl
   | some o=>rw[hr.keep _ _ e] at h0;cases h0
 have rv1:RVs K J s1.heap as cvs:=rvs.mono (Bt _) λb vs e=>hk _ _ e
 obtain ⟨hlen,hval⟩:=Zdm (K:=K) (names:=fd.scope.names) (J:=J) (h:=s1.heap) (callEnvC fd s.heap.objs.size a).kindOf (λu_=>rfl) x.nd xs F.ps as cvs (L0 F.size .none) Z (λu_=>N0) (λu_=>N0) x.ps hst rv1 (λy i v u_ h=>by
  rw[Gs] at h;split at h <;> cases h)
 have hcells:(callEnvC fd s.heap.objs.size a).cells=cellsFrom (s.heap.objs.size+1) fd.scope.names []:=rfl
 have hnd:(((callEnvC fd s.heap.objs.size a).cells).map (·.1)).Nodup:=by rw[hcells];exact Zah x.nd (by simp) (by simp)
 have hlook:∀y b,(y,b)∈(callEnvC fd s.heap.objs.size a).cells->(callEnvC fd s.heap.objs.size a).cells.lookup y=S5 b:=λy b h=>Un hnd h
 refine ⟨x.kind,rfl,x.glob,x.blts,⟨_,hin.toInCall.ns,λy i v h1 h2 h3=>?_⟩,λy hy=>?_,λy z i=>Zgq,λy z b h1 h2=>name_of_addr hin.apart h1 h2,?_,?_,λy i h=>(Q0 h).1,?_,λy b hb=>?_⟩
 .have:=hval y i v h2 h3
  have h1':fd.scope.names.lookup y=S5 .local:=h1
  rw[gp h1'] at this
  exact this
 .have hy':fd.scope.names.lookup y=S5 .cell:=hy
  have hm:=Zbm (n:=s.heap.objs.size+1) (acc:=[]) (.inl (mem_of_lookup hy'))
  refine byC λXX=>?_;refine rEA (λhO0 hb hO2=>?_) (C0.mp hm);obtain ⟨y',b⟩:=hO0;subst hO2;apply XX
  refine ⟨b,_,hlook _ b hb,hin.cell _ b (hlook _ b hb),λi v h2 h3=>?_⟩
  have:=hval _ i v h2 h3
  rw[gq (by rw[hy'];decide)] at this
  exact this
 .exact hnone _ (Bp _)
 .refine Zfd F.ps as _ Z hst (λi hi => ?_) λi v u_ h => by
   rw[Gs] at h;split at h <;> cases h
  refine rEA (λy u1_ e=>?_) (Zpo x.ps i hi)
  exact (Q0 e).1
 .intro fs hf env he
  refine Wb ((show A.frames.map _=S5 fs from hf)) λfs0 h0 e0=>?_
  rw[← e0] at he
  rcases Be.mp he with rfl | he
  .refine Xk (λo' es ep e1 e2 u5_=>?_) hin.toInCall.ns
   refine rA (λg1 g2=>?_) (hnone _ (Bp _))
   exact ⟨by show fd.scope.kind≠.module;rw[x.kind];decide,s.heap.objs.size,o',rfl,g1,g2,e1,es,ep,e2⟩
  .refine Zaz (λq1 L o' q2 q3 q4 q5 q6=>?_) (ff fs0 h0 env he)
   exact ⟨q1,L,o',q2,q3,q4,hk _ _ q5,q6⟩
 .have habove : @LT.lt Nat _ s.heap.objs.size b:=hin.above y b hb
  refine rA (λh1 h2=>?_) (hnone b (C1 habove))
  refine rEA (λo' e' hd'=>?_) (hin.cell y b (hlook y b hb))
  exact ⟨h1,h2,Gc habove,o',e',λxs n hv=>by rw[hv] at hd';cases hd'⟩
end
section
namespace j7
def Sq_ (Ue:H)(x:X V)(v:V)(U'e:H):Prop:=∀{m:Mode} (h:gc m Ue x=S5 (.ok v,U'e)),∃v1 U1,x=S5 (.ok v1,U1) /\
  ((v=v1/\U'e=U1)\/(U1.take Ue.length=Ue/\below Ue.length v1=T1/\v=v1/\U'e=Ue)\/(U1.take Ue.length=Ue/\∃n l,v1=.obj n/\Ue.length<=n/\U1[n]?=S5 (.list l)/\belows Ue.length l=T1/\v=.obj Ue.length/\U'e=Ue++[.list l]))
def pq_:=Wo ⟨([],.none,.none,[])⟩ (uc4 Sq_)
def Ue:=pq_.1
def x:=pq_.2.1
def v:=pq_.2.2.1
def U'e:=pq_.2.2.2
theorem pfq_:Sq_ Ue x v U'e:=by
 intro m h
 cases m with
 | raw=>exact ⟨v,U'e,h,.inl ⟨rfl,rfl⟩⟩
 | pure=>
  refine rEA (λp hx h=>?_) (C4.mp (show x.bind _=_ from h));obtain ⟨r,U1⟩:=p
  cases r with
  | ok v1=>refine rA (λhc h=>?_) (Y9 (show gcP Ue (.ok v1) U1=_ from h));refine okE h ?_;exact ⟨_,_,hx,.inr (.inl ⟨hc.1,hc.2,rfl,rfl⟩)⟩
  | exc c=>exact seo (Y9 (show gcP Ue (.exc c) U1=_ from h)).2
 | fresh=>
  refine rEA (λp hx h=>?_) (C4.mp (show x.bind _=_ from h));obtain ⟨r,U1⟩:=p
  cases r with
  | ok v1=>
   refine rEA (λn hn h=>?_) (C4.mp (show (Qv v1).bind _=_ from h))
   refine rA (λht h=>?_) (Y9 h)
   obtain hv:=Qy hn
   by_cases hlt:n<Ue.length
   .rw[gp hlt] at h;refine okE h ?_;exact ⟨_,_,hx,.inr (.inl ⟨ht,by rw[hv];exact decide_eq_true hlt,hv.symm,rfl⟩)⟩
   .rw[gq hlt] at h
    refine rEA (λl hl h=>?_) (C4.mp h)
    refine rA (λhb h=>?_) (Y9 h)
    refine okE h ?_;exact ⟨_,_,hx,.inr (.inr ⟨ht,n,l,hv,Gd hlt,Zr3 hl,hb,rfl,rfl⟩)⟩
  | exc c=>exact nn h
end j7
theorem Zh0 {x:X V}{v:V}:j7.Sq_ U x v U':=Yi (S:=uc4 j7.Sq_) j7.pfq_ (U,x,v,U')
end
section
variable {K:Kx}{A:aj}{T:Tabs}
end
section
namespace j6
def Sq_ (K:Kx)(Je:List am)(J1e:List am)(Ue:H)(U1e:H)(se:ae)(s1e:ae)(m:Mode)(x:X V):Prop:=∀{v1:V}{cv:aa} (hr:HR K Je Ue se.heap) (hr1:HR K J1e U1e s1e.heap) (st:Step Je se J1e s1e) (rv:RV K J1e s1e.heap v1 cv) {v:V}{U':H} (hx:x=S5 (.ok v1,U1e)) (h:gc m Ue x=S5 (.ok v,U')),∃J',Good K Je se J' U' s1e/\RV K J' s1e.heap v cv
def pq_:=Wo ⟨(dKx,[],[],[],[],{},{},.pure,.none)⟩ (uc9 Sq_)
def K:=pq_.1
def Je:=pq_.2.1
def J1e:=pq_.2.2.1
def Ue:=pq_.2.2.2.1
def U1e:=(sk4 pq_).1
def se:=(sk4 pq_).2.1
def s1e:=(sk4 pq_).2.2.1
def m:=(sk4 pq_).2.2.2.1
def x:=sk8 pq_
theorem pfq_:Sq_ K Je J1e Ue U1e se s1e m x:=by
 intro v1 cv hr hr1 st rv v U' hx h
 refine Ug (λv2 U2 e h=>?_) (Zh0 h)
 rw[hx] at e;refine byC λXX=>?_;refine rA (λhO0 hO1=>?_) (okJ e);subst hO0;subst hO1;apply XX
 rcases h with ⟨rfl,rfl⟩ | ⟨ht,hb,rfl,rfl⟩ | ⟨ht,n,l,rfl,hn,hl,hb,rfl,rfl⟩
 .exact ⟨J1e,⟨hr1,st⟩,rv⟩
 .refine ⟨Je,⟨hr.cut hr1 st.pre ht,⟨Bt _,st.fr,λu_ h=>.inl h,st.gens,st.os⟩⟩,rv.cut st.pre (by rw[hr.len];exact hb)⟩
 .refine byC λXX=>?_;refine rEA (λa hO1 ha=>?_) (rv.objI rfl);subst hO1;apply XX
  refine Yn (λvs k e r hle=>?_) (hr1.obj n _ a hl ha)
  obtain hcut:=hr.cut hr1 st.pre ht
  obtain haJ:a ∉ Je:=λhm=>by
   refine rE (λj hO1=>?_) (Co hm);obtain ⟨hj,e'⟩:=hO1
   have h2:J1e[j]?=S5 a:=Xv st.pre (by rw[Bl hj,e'])
   have:=(K0 (Ba.mp h2).1 hr1.nd).mp (h2.trans ha.symm)
   rw[hr.len] at hj;exact Nc 0x1cd601720821c1101 Tt hn hj this
  refine ⟨Je++[a],⟨⟨hr1.keep,by simp[hr.len],?_,λb hb'=>?_,λj o b h1 h2=>?_⟩,⟨C8 _ _,st.fr,λb hb'=>?_,st.gens,st.os⟩⟩,.obj ?_⟩
  .rw[G3];exact ⟨hr.nd,by simp,λb hb' z hz e=>by simp at hz;exact haJ (hz▸e▸hb')⟩
  .rcases Bm.mp hb' with h | h
   .exact hr.new b h
   .rw[Bo.mp h];exact hr1.new a (Bw ha)
  .by_cases hlt:j<Ue.length
   .rw[Br hlt] at h1
    rw[Br (by rw[hr.len];exact hlt)] at h2
    exact (hcut.obj j o b h1 h2).mono (C8 _ _) λu_ v_ e=>e
   .obtain hj':j=Ue.length:=by have:=(Ba.mp h1).1;simp at this;exact Nb 0x180197017051acba11a101 Tt hlt this
    subst hj'
    rw[Bh (Bp _)] at h1
    rw[Bh (by rw[hr.len];exact Bp _)] at h2
    simp[hr.len] at h1 h2
    rw[← h1,← h2]
    exact ⟨vs,k,e,(r.cut st.pre (by rw[hr.len];exact hb)).mono (C8 _ _) (λu_ v_ e=>e),hle⟩
  .rcases Bm.mp hb' with h | h
   .exact .inl h
   .rw[Bo.mp h]
    rcases st.fresh a (Bw ha) with h | h
    .exact .inl h
    .exact .inr h
  .rw[Bh (by rw[hr.len];exact Bp _),hr.len];simp
end j6
theorem Zmh {K:Kx}{m:Mode}{x:X V}:j6.Sq_ K J J1 U U1 s s1 m x:=Yi (S:=uc9 j6.Sq_) j6.pfq_ (K,J,J1,U,U1,s,s1,m,x)
end
section
variable {K:Kx}{A:aj}{T:Tabs}
theorem Zpq {m:Mode}{x:X V}{k:Nat}(h:gc m U x=S5 (.exc k,U')):∃U1,x=S5 (.exc k,U1)/\(U'=U1\/(U1.take U.length=U/\U'=U)):=by
 cases m with
 | raw=>exact ⟨U',h,.inl rfl⟩
 | pure=>
  refine rEA (λp hx h=>?_) (C4.mp (show x.bind _=_ from h));obtain ⟨r,U1⟩:=p
  cases r with
  | ok v1=>exact soe (Y9 (show gcP U (.ok v1) U1=_ from h)).2
  | exc c=>refine rA (λhc h=>?_) (Y9 (show gcP U (.exc c) U1=_ from h));refine exE h ?_;exact ⟨_,hx,.inr ⟨hc,rfl⟩⟩
 | fresh=>
  refine rEA (λp hx h=>?_) (C4.mp (show x.bind _=_ from h));obtain ⟨r,U1⟩:=p
  cases r with
  | ok v1=>
   refine rEA (λn hn h=>?_) (C4.mp (show (Qv v1).bind _=_ from h))
   obtain h:=(Y9 h).2
   by_cases hlt:n<U.length
   .rw[gp hlt] at h;exact soe h
   .rw[gq hlt] at h
    exact rEA (λl hl h=>soe (Y9 h).2) (C4.mp h)
  | exc c=>exact nn h
theorem Fly.back {X:List am}{outer:List Env}{cv ev:aa}{P:au->Prop}(hr:HR K J U s.heap)(fl:Fly K X J s1 J' U1 outer cv P ev h)(hs:∀G,StepX X J s1 J' { s1 with heap:=G }->Step J s J' { s with heap:=G })
  (hg:U'=U1\/(U1.take U.length=U/\U'=U)):∃J2,Fly K [] J s J2 U' outer cv (λu_=>True) ev h:=by
 revert fl;refine Zgj λG B t e he hP hrG st r=>?_
 obtain st:=hs G st
 rcases hg with rfl | ⟨ht,rfl⟩
 .exact ⟨J',G,B,t,e,he,trivial,hrG,st.toX _,r⟩
 .exact ⟨J,G,B,t,e,he,trivial,hr.cut hrG st.pre ht,⟨Bt _,λb o q hb u_=>st.fr b o q hb,λu_ h=>.inl h,rfl,rfl⟩,r⟩
theorem Zh1 {y:Y}{k:Nat}(h:Zab y=S5 (.exc k,U1)):∃Z,y=S5 (.exc k,Z,U1):=by
 cases y with
 | none=>exact nn h
 | some z=>obtain ⟨f,Z,U2⟩:=z;cases f <;> cases h;exact ⟨Z,rfl⟩
structure PK (K:Kx)(T:Tabs)(pg:Pg):Prop where
 G:GK K T
 ty:TyOK K
 wk:WK K T pg
 ek:EK K T
 fn:∀f F,pg.fn f=S5 F->Zvv K T f F
 nl:K.h0.NoLimit
 sort:∀x,T.blts.lookup x=S5 .sorted->∀A,Rm 0 A->Zhz K A
 lo:T.loops=T1
set_option tactic.hygienic true in
theorem Zgr {pg:Pg}(pk:PK K T pg):∀(d:Nat) (A:aj),Rm d A->CallB K A ⟨pg,Zdx pg d⟩
 | 0,A,_=>λf vs U v U' h=>by exact nn h
 | d+1,A,rm=>by
  have again:=Zgr pk d
  intro f vs U v U' he J s cvs hr rvs ff
  refine rEA (λF hF he=>?_) (C4.mp (show (pg.fn f).bind _=_ from he))
  refine rEA (λZ hst he=>?_) (C4.mp he)
  refine Uz (λo fd body xs x=>?_) (pk.fn f F hF)
  have hlen:cvs.length=xs.length:=by
   have:=(Zdm (K:=K) (J:=J) (h:=s.heap) (λy=>fd.scope.names.lookup y) (λu_=>rfl) x.nd xs F.ps vs cvs (L0 F.size .none) Z (λu_=>N0) (λu_=>N0) x.ps hst rvs (λy i v u_ h=>by
    rw[Gs] at h;split at h <;> cases h)).1
   exact this.symm
  have hcode:K.h0.CodeRec fd.code fd.qualname:=x.code
  refine wpAny_call (codeAny_call_cells (by have:=rm.depth;exact Nc 0x170175028d52a1c11 Tt this) (hr.keep _ _ x.ho) x.data (pk.nl.keeps hr.keep) (hcode.keeps hr.keep) x.bodyE (x.bind cvs hlen) x.clo (λy hy=>?_) (λs1 hin=>?_) x.co x.gen x.kind)
  .have hyx:y.1∈xs:=(Gq (a:=y.1) (b:=y.2) hy).1
   refine rE (λi hi=>?_) (Zjo x.ps _ hyx)
   rcases Zfc x.nd hi with h | h
   .exact .inl h
   .right
    refine ⟨h,?_⟩
    have hm:=Zbm (n:=s.heap.objs.size+1) (acc:=[]) (.inl (mem_of_lookup h))
    refine rEA (λhO0 hb e=>?_) (C0.mp hm);obtain ⟨y',b⟩:=hO0
    have hnd:((cellsFrom (s.heap.objs.size+1) fd.scope.names []).map (·.1)).Nodup:=Zah x.nd (by simp) (by simp)
    have hl:=Un hnd hb
    have e':y'=y.1:=e
    rw[← e',hl];rfl
  .have fo:=Zpp (A:=A) x hst hr rvs hin ff
   have rm':=rm.deeper (callEnvC fd s.heap.objs.size (K.fna f))
   have hyy:HX K (A.deeper (callEnvC fd s.heap.objs.size (K.fna f))) ⟨pg,Zdx pg d⟩ T:=⟨pk.G,pk.ty,by have:=rm'.units;exact Nc 0x1750102e1755088d2282e1c11 Tt this,λu_=>⟨rm'.handled,again _ rm',λC vs=>(again _ (rm.under _ C vs)).ok⟩,λu_ v_ w_ x_ y_=>rm'.handled,λx hx=>pk.sort x hx _ ⟨rm'.handled,by have:=rm'.depth;exact Nc 0x175028db175028d21c11 Tt this,by have:=rm'.units;exact Nc 0x1755088db282e1755088d2282e1c11 Tt this,rm'.fr⟩,pk.wk,pk.ek⟩
   refine rEE (λh1 tk1 es1=>?_) hin.toInCall.same
   have hr1:HR K J U s1.heap:=hr.grow hin.toInCall.keep
   have st0:Step J s J s1:=⟨Bt _,λb o e u_=>Qf hin.toInCall.keep e,λu_ h=>.inl h,by rw[es1],by rw[es1]⟩
   refine rE (λouter hout=>?_) rm.fr
   have hfr:(A.deeper (callEnvC fd s.heap.objs.size (K.fna f))).frames=S5 (callEnvC fd s.heap.objs.size (K.fna f)::outer):=by show A.frames.map _=_;rw[hout];rfl
   cases hbody:execs ⟨pg,Zdx pg d⟩ F.body Z U with
   | none=>rw[hbody] at he;cases hm:F.mode <;> rw[hm] at he <;> exact nn he
   | some y=>
    refine byC λXX=>?_;obtain ⟨fl,Z2,U2⟩:=y;apply XX;clear XX
    rw[hbody] at he
    have hnew:∀b∈Yl (callEnvC fd s.heap.objs.size (K.fna f)),s.heap.get? b=N0:=by
     intro b hb
     have hge : @LE.le Nat _ s.heap.objs.size b:=by
      rcases Zb4 hb with rfl | ⟨y,hy⟩
      .exact Bp _
      .exact C1 (hin.above y b hy)
     cases e:s.heap.get? b with
     | none=>rfl
     | some o=>have:=au.lt_size e;exact absurd hge (Nat.not_le.mpr this)
    have stt:∀J2 s2,StepX (Yl (callEnvC fd s.heap.objs.size (K.fna f))) J s1 J2 s2->Step J s J2 s2:=λJ2 s2 st2=>by
     refine ⟨st2.pre,λb o e hb=>st2.fr b o (Qf hin.toInCall.keep e) hb λXX=>?_,λb hb=>?_,st2.gens.trans st0.gens,st2.os.trans st0.os⟩
     .rw[ng_none.mpr (hnew b XX)] at e;exact nn e
     .rcases st2.fresh b hb with h | h
      .exact .inl h
      .right
       cases e:s.heap.get? b with
       | none=>rfl
       | some o=>rw[hin.toInCall.keep b o e] at h;exact ns h
    refine ak (x.comp _ _ _ hyy ⟨outer,hfr⟩ Z U fl Z2 U2 hbody J s1 hr1 fo) (λcf s2 hq=>?_) λev s2 hq=>?_
    .revert hq;refine Zas λJ2 hr2 st2 fo2 frr=>?_
     have st:=stt J2 s2 st2
     cases v with
     | exc k=>
      refine rEA (λτ hτ u2_=>?_) (Zpq he)
      refine rE (λZx hx=>?_) (Zh1 hτ)
      refine byC λXX=>?_;refine rAA (λhO0 hO1 hO2=>?_) (pJ3 hx);subst hO0;subst hO1;subst hO2;apply XX;clear XX
      cases cf <;> exact frr.elim
     | ok v=>
      cases fl with
      | next=>
       cases cf with
       | next=>refine rEA (λJ' g r=>?_) (Zmh hr hr2 st .none rfl he);exact ⟨v,J',rfl,g,r⟩
       | _=>exact frr.elim
      | brk=>refine Ug (λu0_ u1_ e u3_=>?_) (Zh0 he);exact nn e
      | ret w=>
       cases cf with
       | ret cw=>refine rEA (λJ' g r=>?_) (Zmh hr hr2 st frr rfl he);exact ⟨v,J',rfl,g,r⟩
       | _=>exact frr.elim
      | exc k=>refine Ug (λu0_ u1_ e u3_=>?_) (Zh0 he);exact seo e
    .refine byC λXX=>?_;revert hq;refine Zol λk hO1 hgens hos J2 hu=>?_;subst hO1;apply XX;clear XX
     cases v with
     | ok v=>refine Ug (λu0_ u1_ e u3_=>?_) (Zh0 he);exact seo e
     | exc j=>
      refine rEA (λτ hτ hg=>?_) (Zpq he)
      refine byC λXX=>?_;refine rA (λhO0 hO1=>?_) (exJ hτ);subst hO0;subst hO1;apply XX;clear XX
      have fin:∀h',Fly K (Yl (callEnvC fd s.heap.objs.size (K.fna f))) J s1 J2 U2 outer (K.tyv k) (FO K (A.deeper (callEnvC fd s.heap.objs.size (K.fna f))) (callEnvC fd s.heap.objs.size (K.fna f)) (fnC fd.scope) Z2 J2) ev h'->∃i,R.exc k=(R.exc i:R V)/\Flies K A J s U' i ev { s2 with heap:=h' }:=λh' fl=>by
       refine rE (λJ3 fl3=>?_) (fl.back hr (λG st2=>let st:=stt J2 _ st2;⟨st.pre,st.fr,st.fresh,rfl,rfl⟩) hg)
       exact ⟨k,rfl,hgens.trans st0.gens,hos.trans st0.os,J3,λfs hfs=>by rw[hout] at hfs;obtain rfl:=B0.inj hfs;exact fl3⟩
      rcases hu outer hfr with fl | ⟨_,G,e,args,rfl,hP,hrG,stG,hm⟩
      .refine Zl2 (λu0_ L u2_ hf u4_=>?_) (fo.ff _ hfr _ Bf)
       exact Zpa hfr hf fl fin
      .exact Znn hfr hP.ff hrG hP stG hm fin
theorem Zk6 {pg:Pg}(pk:PK K T pg)(d:Nat)(A:aj)(rm:Rm d A):Zhu K A ⟨pg,Zdx pg d⟩:=(Zgr pk d A rm).ok
end
end Mini.Internal
namespace Mini.Internal
open PySem PyProof.Rows PySem.SeqAt PySem.Calls
variable {J J' J1:List am}{U U' U1:H}{s s' s1:ae}{h h':au}{Z Z':L}
theorem Zjp {α β:Type}{f g:α->Option β}:∀{l:List α},(∀x∈l,f x=g x)->l.filterMap f=l.filterMap g
 | [],_=>rfl
 | x::l,h=>by rw[Gk,Gk,h x Bf,Zjp λy hy=>h y (Bb _ hy)]
theorem Zb8:∀{xs:List Str}{vals:List aa},xs.Nodup->vals.length=xs.length->xs.filterMap (λn=>((xs.zip vals).lookup n).map (n,·))=xs.zip vals
 | [],[],_,_=>rfl
 | [],_::_,_,h=>by cases h
 | _::_,[],_,h=>by cases h
 | x::xs,v::vs,hn,h=>by
  rw[Go] at hn
  have ih:=Zb8 hn.2 (by simpa using h)
  rw[Io,Gk]
  have e1:((x,v)::xs.zip vs).lookup x=S5 v:=by simp[Gb]
  rw[e1]
  simp only[Dx]
  congr 1
  rw[← ih]
  refine Zjp λy hy=>?_
  have hne:(y == x)=F0:=by simp;rintro rfl;exact hn.1 hy
  rw[Gb,hne]
  simp only
  rw[ih]
theorem Zh2:∀{xs:List Str}{vals:List aa},vals.length=xs.length->∀x∈xs,((xs.zip vals).lookup x).isNone=F0
 | [],_,_,x,hx=>by cases hx
 | _::_,[],h,_,_=>by cases h
 | y::xs,v::vs,h,x,hx=>by
  rw[Io,Gb]
  cases hb:x == y with
  | true=>rfl
  | false=>
   rcases Be.mp hx with rfl | hx
   .simp at hb
   .exact Zh2 (by simpa using h) x hx
noncomputable def Wj (p:d7):Bool:=p.posonlyargs.isEmpty&&p.kwonlyargs.isEmpty&&p.vararg.isNone&&p.kwarg.isNone&&decide (p.args.map (·.arg)).Nodup
theorem Zk7 {name:Str}{p:d7}{body:List bo}{scope:bh}{pm code doc:aa}(h:Wj p=T1)(vals:List aa)(hl:vals.length=(p.args.map (·.arg)).length) :
  bindArgs (docDef name p body scope pm code doc) ⟨vals,[]⟩=pure ((p.args.map (·.arg)).zip vals):=by
 refine byC λXX=>?_;obtain ⟨po,as,va,kwo,kd,kw,df⟩:=p;apply XX
 simp only[Wj,Bs,Do,Gh,decide_eq_true_eq] at h
 revert h;refine rA λhO0 hn=>?_;obtain ⟨⟨⟨rfl,rfl⟩,rfl⟩,rfl⟩:=hO0
 simp only at hl hn
 obtain hm:((as.map (·.arg)).take ((as.map (·.arg)).length)).filter (λn=>(((as.map (·.arg)).zip vals).lookup n).isNone)=[]:=by
  rw[Du]
  intro x hx
  rw[Ge] at hx
  simp[Zh2 hl x hx]
 obtain hz:=Zb8 hn hl
 obtain hlen:¬ (decide (vals.length>(as.map (·.arg)).length)&&T1)=T1:=by rw[hl];simp
 obtain hzip:∀(l:List Str) (k:Nat),l.zip (I3 k ([]:List aa))=[]:=λl k=>by rw[K6,L9]
 refine Eq.trans (b:=ite ((decide (vals.length>(as.map λx:Arg=>x.arg).length)&&T1)=T1) _ _) rfl ?_
 refine (gq hlen).trans ?_
 refine (gq ?hc).trans ?_
 case hc=>
  show ¬ (!(((as.map λx:Arg=>x.arg).take ((as.map λx:Arg=>x.arg).length-(I3 (0-(as.map λx:Arg=>x.arg).length) ([]:List aa)).length)).filter (λn=>(((as.map λx:Arg=>x.arg).zip vals).lookup n).isNone)).isEmpty)=T1
  rw[K6,Dy,Lg,hm];simp
 refine Eq.trans (b:=forIn (((as.map λx:Arg=>x.arg).drop ((as.map λx:Arg=>x.arg).length-(I3 (0-(as.map λx:Arg=>x.arg).length) ([]:List aa)).length)).zip (I3 (0-(as.map λx:Arg=>x.arg).length) ([]:List aa))) _ _ >>= _) rfl ?_
 rw[hzip]
 refine Eq.trans (b:=pure (((as.map λx:Arg=>x.arg)++[]).filterMap λn=>(((as.map λx:Arg=>x.arg).zip vals).lookup n).map (n,·))) rfl ?_
 rw[Cn,hz]
theorem Znr {name qual:Str}{p:d7}{body:List bo}{scope:bh}{pm code doc:aa}(h:Wj p=T1)(vals:List aa)(hl:vals.length=(p.args.map (·.arg)).length) :
  bindArgs (methDef name qual p body scope pm code doc) ⟨vals,[]⟩=pure ((p.args.map (·.arg)).zip vals):=by
 refine byC λXX=>?_;obtain ⟨po,as,va,kwo,kd,kw,df⟩:=p;apply XX
 simp only[Wj,Bs,Do,Gh,decide_eq_true_eq] at h
 revert h;refine rA λhO0 hn=>?_;obtain ⟨⟨⟨rfl,rfl⟩,rfl⟩,rfl⟩:=hO0
 simp only at hl hn
 obtain hm:((as.map (·.arg)).take ((as.map (·.arg)).length)).filter (λn=>(((as.map (·.arg)).zip vals).lookup n).isNone)=[]:=by
  rw[Du]
  intro x hx
  rw[Ge] at hx
  simp[Zh2 hl x hx]
 obtain hz:=Zb8 hn hl
 obtain hlen:¬ (decide (vals.length>(as.map (·.arg)).length)&&T1)=T1:=by rw[hl];simp
 obtain hzip:∀(l:List Str) (k:Nat),l.zip (I3 k ([]:List aa))=[]:=λl k=>by rw[K6,L9]
 refine Eq.trans (b:=ite ((decide (vals.length>(as.map λx:Arg=>x.arg).length)&&T1)=T1) _ _) rfl ?_
 refine (gq hlen).trans ?_
 refine (gq ?hc).trans ?_
 case hc=>
  show ¬ (!(((as.map λx:Arg=>x.arg).take ((as.map λx:Arg=>x.arg).length-(I3 (0-(as.map λx:Arg=>x.arg).length) ([]:List aa)).length)).filter (λn=>(((as.map λx:Arg=>x.arg).zip vals).lookup n).isNone)).isEmpty)=T1
  rw[K6,Dy,Lg,hm];simp
 refine Eq.trans (b:=forIn (((as.map λx:Arg=>x.arg).drop ((as.map λx:Arg=>x.arg).length-(I3 (0-(as.map λx:Arg=>x.arg).length) ([]:List aa)).length)).zip (I3 (0-(as.map λx:Arg=>x.arg).length) ([]:List aa))) _ _ >>= _) rfl ?_
 rw[hzip]
 refine Eq.trans (b:=pure (((as.map λx:Arg=>x.arg)++[]).filterMap λn=>(((as.map λx:Arg=>x.arg).zip vals).lookup n).map (n,·))) rfl ?_
 rw[Cn,hz]
def Zsn (x:Str):Option Nat:=fnNames.lookup x
def Zh3 (n:Nat):Option Str:=(fnNames.find? (λp=>p.2 == n)).map (·.1)
def Zfe (m:Nat):Option Str:=(methNames.find? (λp=>p.2 == m)).map (·.1)
noncomputable def ownNames:List (Str × Nat):=[(j4 "SpanError",10),(j4 "BadStretch",11),(j4 "Twice",12),(j4 "Missing",13)]
noncomputable def Zmi:Str:=j4 "Wood"
def Zau (bl:List (Str × Blt)) (ds:List ck):Tabs:=⟨ds.filterMap (λd=>(Zsn d.name).map (d.name,·)),tyNames,bl,[(Zmi,0)],methNames,[(j4 "top",0),(j4 "many",1)],ownNames,T1⟩
def CF (T:Tabs)(as:d7)(sc:bh)(body:List bo):Type:={ F:Fn // (as.args.map (·.arg)).mapM (λx=>(Y1 sc.names).lookup x)=S5 F.ps/\(Zdy sc.names).length<=F.size/\∀(K:Kx) (A:aj) (cl:Cl) (env:Env),HX K A cl T->(∃outer,A.frames=S5 (env::outer))->PSs K A T env (fnC sc) cl body F.body }
def cFn (T:Tabs)(mode:Mode)(extra:Nat)(as:d7)(sc:bh)(body:List bo):Option (CF T as sc body) :=
 Uj ((as.args.map (·.arg)).mapM λx=>(Y1 sc.names).lookup x) λps hps=>(cSs body T (fnC sc)).bind λb=>S5 ⟨⟨ps,(Zdy sc.names).length+extra,b.1,mode⟩,hps,Cc _ _,b.2⟩
noncomputable def Zso (bl:List (Str×Blt))(md:Nat->Mode)(ds:List ck)(n:Nat):Option Fn:=match ds.find? (λd=>Zsn d.name == S5 n) with
 | some d=>(cFn (Zau bl ds) (md n) 8 d.params d.scope d.body).map (·.1)
 | none=>N0
noncomputable def Zsp (bl:List (Str×Blt))(md:Nat->Mode)(ds:List ck)(ms:List fq)(m:Nat):Option Fn:=match ms.find? (λr=>methNames.lookup r.name == S5 m) with
 | some r=>(cFn (Zau bl ds) (md (70+m)) 8 r.params r.scope r.body).map (·.1)
 | none=>N0
def Zjq (ms:List fq)(m:Nat):Bool:=ms.any λr=>methNames.lookup r.name == S5 m
def Zsq (bl:List (Str×Blt))(md:Nat->Mode)(ds:List ck)(ms:List fq):Pg :=
 ⟨λn=>if n<70 then Zso bl md ds n else Zsp bl md ds ms (n-70),λc m=>if c == 0&&Zjq ms m then S5 (70+m) else N0,λc=>if c == 0&&Zjq ms 0 then S5 70 else N0⟩
noncomputable def Zct (d:ck):Bool:=Wj d.params&&d.scope.kind == .function && !d.scope.isCoroutine && !d.scope.isGenerator&&decide (d.scope.names.map (·.1)).Nodup&&(match Zsn d.name with
 | some n=>Zh3 n == S5 d.name&&decide (n<70)
 | none=>F0)
noncomputable def Q1 (d:fq):Bool:=Wj d.params&&d.scope.kind == .function && !d.scope.isCoroutine && !d.scope.isGenerator&&decide (d.scope.names.map (·.1)).Nodup&&(match methNames.lookup d.name with
 | some n=>Zfe n == S5 d.name
 | none=>F0)
noncomputable def adr:Option aa->am
 | some (.ref a)=>a
 | _=>0
def J7 (mg mN:Str->Option aa)(n:Nat):am:=if n<70 then adr ((Zh3 n).bind mg) else adr ((Zfe (n-70)).bind mN)
def Zh4 (k:Nat):Option Str:=(ownNames.find? (λp=>p.2 == k)).map (·.1)
noncomputable def Xf (C:am)(n:Nat):aa:=if n=0 then .ref C else .none
noncomputable def Xw (mg:Str->Option aa)(C:am):Nat->aa
 | 0=>.type "int"
 | 1=>.type "bool"
 | 2=>.type "tuple"
 | 3=>.type "list"
 | 4=>.type "ValueError"
 | n=>if n<20 then ((Zh4 n).bind λx=>(mg x).bind λv=>match v with | .ref a=>S5 (aa.ref a) | _=>N0).getD .none else Xf C (n-20)
def Zh5 (p:be)(loose:List Str):Bool:=(tyNames.map (·.1)++bltNames.map (·.1)++[X2]).all λx=>
 !startupNames.contains x && !loose.contains x && !((recsOf p).map (·.name)).contains x && !((litsOf p).map (·.1)).contains x && !((clssOf p loose).map (·.name)).contains x && !(x==("__name__":Str))
theorem W8 {α:Type}{P:α->Prop}{a:α}{l:List α}(h:P a)(k:∀x,x∈l->P x):∀x,x∈a::l->P x:=λx hx=>(Be.mp hx).elim (λe=>e▸h) (k x)
theorem Zsr {mg:Str->Option aa}{C:am}{x:Str}{t:Nat}(h:tyNames.lookup x=S5 t):bootBuiltins x=S5 (Xw mg C t) :=
 (show ∀p,p∈tyNames->bootBuiltins p.1=S5 (Xw mg C p.2) from W8 rfl (W8 rfl (W8 rfl (W8 rfl (W8 rfl nofun))))) _ (mem_of_lookup h)
theorem Zpr {x:Str}{b:Blt}(h:bltNames.lookup x=S5 b):bootBuiltins x=S5 (Zdh b) :=
 (show ∀p,p∈bltNames->bootBuiltins p.1=S5 (Zdh p.2) from W8 rfl (W8 rfl (W8 rfl (W8 rfl (W8 rfl (W8 rfl (W8 rfl nofun))))))) _ (mem_of_lookup h)
theorem Zk8:bootBuiltins X2=S5 (.type "range"):=rfl
section
variable {p:be}{loose:List Str}{mean:ExcName->Option aa}{mg mb:Str->Option aa}{h:au}
theorem Zps (T0:Top p loose mean mg mb h)(hf:Zh5 p loose=T1){x:Str}(hx:x∈tyNames.map (·.1)++bltNames.map (·.1)++[X2]):mg x=N0/\mb x=bootBuiltins x:=by
 have:=Cq.mp hf x hx
 simp only[Bs,D7,List.contains_eq_mem,decide_eq_false_iff_not,beq_eq_false_iff_ne] at this
 revert this;refine rA λhO0 h6=>?_;revert hO0;refine rA λhO0 h5=>?_;obtain ⟨⟨⟨h1,h2⟩,h3⟩,h4⟩:=hO0
 exact ⟨T0.free x h1 h2 h3 h4 h5,T0.builtins x h6⟩
theorem Zff {α:Type}{l:List (Str×α)}{x:Str}{a:α}(h:l.lookup x=S5 a):x∈l.map (·.1):=C0.mpr ⟨_,mem_of_lookup h,rfl⟩
theorem Zk9 {mN:Str->Option aa}{x:Str}{n:Nat}{a:am}(hn:n<70)(h1:Zh3 n=S5 x)(h2:mg x=S5 (.ref a)):J7 mg mN n=a:=by unfold J7;rw[gp hn,h1];show adr (mg x)=a;rw[h2];rfl
theorem Ztt {mN:Str->Option aa}{x:Str}{m:Nat}{a:am}(h1:Zfe m=S5 x)(h2:mN x=S5 (.ref a)):J7 mg mN (70+m)=a:=by
 unfold J7
 rw[gq (by exact Na 0x1975462e0462ec1 Tt),D8,h1];show adr (mN x)=a;rw[h2];rfl
def CNone (h:au)(N:am):Prop:=∃m,h.Ns N m/\m Zm8=N0
theorem CNone.keeps {N:am}(x:CNone h N)(k:∀b o,h.get? b=S5 o->h'.get? b=S5 o):CNone h' N:=x.elim λm q=>⟨m,q.1.keeps k,q.2⟩
structure SubAt (mg:Str->Option aa)(h:au)(x:Str)(C D:am)(cd dd:cz):Prop where
 c1:mg x=S5 (.ref C)
 d1:mg Zoi=S5 (.ref D)
 c2:∃o,h.get? C=S5 o/\o.data=.cls cd
 d2:∃o,h.get? D=S5 o/\o.data=.cls dd
 mro:cd.mro=.ref C::.ref D::bmV
 cn:CNone h cd.ns
 dn:CNone h dd.ns
 ne:C≠D
 far:∀y∈subs,y≠x->mg y≠S5 (.ref C)
def Sub (mg:Str->Option aa)(h:au):Prop:=∀x∈subs,∃C D cd dd,SubAt mg h x C D cd dd
theorem Ztu {N:am}(h:(s.heap.isNs N&&(s.heap.nsMap N Zm8).isNone)=T1):CNone s.heap N:=⟨_,.of_isNs (Wy h),Gh.mp (Qu h)⟩
end
section
namespace jj
def S (se:ae):Prop:=∀(e:Ztr se=T1),Sub (se.heap.nsMap mainGlobals) se.heap
def P (p:ae):Prop:=S p
def p:ae:=Wo ⟨({})⟩ P
def se:ae:=p
set_option tactic.hygienic true in
theorem pf:S se:=λe=>λx hx=>by
 have:=Cq.mp e x hx
 split at this
 .rename_i y z h1 h2
  refine byC λXX=>?_;obtain ⟨C,o,cd⟩:=y;apply XX;clear XX
  refine byC λXX=>?_;obtain ⟨D,o',dd⟩:=z;apply XX;clear XX
  refine rAA (λq1 q2 q3=>?_) (au.clsAt_spec h1)
  refine rAA (λr1 r2 r3=>?_) (au.clsAt_spec h2)
  obtain t6:(C == D)=F0:=(D7 _).mp (Qu (Wy this))
  refine ⟨C,D,cd,dd,q1,r1,⟨o,q2,q3⟩,⟨o',r2,r3⟩,eq_of_beq (Wy (Wy (Wy (Wy this)))),Ztu (Qu (Wy (Wy (Wy this)))),Ztu (Qu (Wy (Wy this))),ne_of_beq_false t6,λy hy hne h=>?_⟩
  have:=Cq.mp (Qu this) y hy
  rw[beq_false_of_ne hne,h,beq_self_eq_true] at this
  exact ft this
 .exact ft this
end jj
theorem sub_of :jj.S s:=Yi (S:=jj.P) jj.pf (s)
end
section
variable {p:be}{loose:List Str}{mean:ExcName->Option aa}{mg mb:Str->Option aa}{h:au}
theorem Sub.keeps {mg:Str->Option aa}(x:Sub mg h)(k:∀b o,h.get? b=S5 o->h'.get? b=S5 o):Sub mg h':=λy hy=>
 Uz (λC D cd dd S=>⟨C,D,cd,dd,S.c1,S.d1,S.c2.elim λo q=>⟨o,k _ _ q.1,q.2⟩,S.d2.elim λo q=>⟨o,k _ _ q.1,q.2⟩,S.mro,S.cn.keeps k,S.dn.keeps k,S.ne,S.far⟩) (x y hy)
def Zfg (p:be):Bool:=ownNames.all λq=>specOf p q.1==S5 ("ValueError.__new__",[.type "ValueError",.type "Exception",.type "BaseException",.type "object"])
theorem Zvw (x:Str):∃ y,typeLookup (.type "object") x=pure y:=by
 rw[c6]
 unfold builtinLookup
 obtain this:builtinMro "object"=S5 [.type "object"]:=by kernel_rfl
 rw[this]
 exact ⟨_,rfl⟩
section
variable {C N:am}{mN:Str->Option aa}{cr:ClsRec}
theorem Za8 {x:Str}{k:Nat}{a:am}(h:ownNames.lookup x=S5 k)(hm:mg x=S5 (.ref a)):Xw mg C k=.ref a:=by
 obtain hm':=mem_of_lookup h
 simp only[ownNames,Be,Dg,or_false,Ik.injEq] at hm'
 rcases hm' with ⟨rfl,rfl⟩ | ⟨rfl,rfl⟩ | ⟨rfl,rfl⟩ | ⟨rfl,rfl⟩
 .show (((mg (j4 "SpanError")).bind λv=>match v with | .ref a=>S5 (aa.ref a) | _=>N0).getD .none)=_; rw [hm]; rfl
 .show (((mg (j4 "BadStretch")).bind λv=>match v with | .ref a=>S5 (aa.ref a) | _=>N0).getD .none)=_; rw [hm]; rfl
 .show (((mg (j4 "Twice")).bind λv=>match v with | .ref a=>S5 (aa.ref a) | _=>N0).getD .none)=_; rw [hm]; rfl
 .show (((mg (j4 "Missing")).bind λv=>match v with | .ref a=>S5 (aa.ref a) | _=>N0).getD .none)=_; rw [hm]; rfl
theorem Zcu (T0:Top p loose mean mg mb h) (ho:Zfg p=T1) {x:Str} {k:Nat} (hx:ownNames.lookup x=S5 k):∃ C,OwnClsQ x C [.type "ValueError",.type "Exception",.type "BaseException",.type "object"] "ValueError.__new__" mg h:=by
 have:=Cq.mp ho _ (mem_of_lookup hx)
 refine rEA (λC O u2_=>?_) (T0.ownAt (beq_iff_eq.mp this))
 exact ⟨C,O⟩
theorem Zvx {bl:List (Str×Blt)}(hbl:∀x b,bl.lookup x=S5 b->bltNames.lookup x=S5 b)(T0:Top p loose mean mg mb h)(prog:be)(w:bv)(hf:Zh5 p loose=T1)(hg:(recsOf p).all Zct=T1)(ho:Zfg p=T1)(hC:mg Zmi=S5 (.ref C)) :
  GK ⟨prog,w,h,Xw mg C,J7 mg mN,Xf C⟩ (Zau bl (recsOf p)):=by
 have gb:∀{x v},x∈tyNames.map (·.1)++bltNames.map (·.1)++[X2]->bootBuiltins x=S5 v->GL ⟨prog,w,h,Xw mg C,J7 mg mN,Xf C⟩ x v:=λhx hv=>have q:=Zps T0 hf hx;⟨mg,mb,T0.g,T0.b,.inr ⟨q.1,q.2.trans hv⟩⟩
 refine ⟨λx t hx=>gb (C7 _ (C7 _ (Zff hx))) (Zsr hx),λx n hx=>?_,λx b hx=>gb (C7 _ (Ce _ (Zff (hbl x b hx)))) (Zpr (hbl x b hx)),gb (Ce _ Bf) Zk8,λx k hx=>?_,λx k hx=>?_⟩
 .have hm:=mem_of_lookup hx
  refine rEA (λd hd e=>?_) (Gr.mp hm)
  refine Wb (e) λn' hn e=>?_
  cases e
  have hgd:=Cq.mp hg d hd
  simp only[Zct,hn,Bs,beq_iff_eq,decide_eq_true_eq] at hgd
  refine Zbi (λa o pm code doc h1 h2 h3 h4=>?_) (T0.fn d hd)
  show GL _ _ (.ref (J7 mg mN n))/\∃o fd,h.get? (J7 mg mN n)=S5 o/\o.data=.func fd
  rw[Zk9 hgd.2.2 hgd.2.1 h1]
  exact ⟨⟨mg,mb,T0.g,T0.b,.inl h1⟩,o,_,h2,h3⟩
 .obtain hm:=mem_of_lookup hx
  simp only[Zau,Be,Dg,or_false,Ik.injEq] at hm
  revert hm;refine rA λhO0 hO1=>?_;refine eqS hO0 ?_;refine eqS hO1 ?_
  exact ⟨C,⟨mg,mb,T0.g,T0.b,.inl hC⟩,rfl⟩
 .refine rE (λD O=>?_) (Zcu T0 ho hx)
  exact ⟨mg,mb,T0.g,T0.b,.inl (O.bound.trans (congrArg S5 (Za8 hx O.bound).symm))⟩
set_option tactic.hygienic true in
theorem Zvy {bl:List (Str×Blt)}(T0:Top p loose mean mg mb h)(prog:be)(w:bv)(hg:(recsOf p).all Zct=T1){md:Nat->Mode}{n:Nat}{F:Fn}(hF:Zso bl md (recsOf p) n=S5 F):Zvv ⟨prog,w,h,Xw mg C,J7 mg mN,Xf C⟩ (Zau bl (recsOf p)) n F:=by
 unfold Zso at hF
 split at hF
 .rename_i d hd
  have hmem:=Iv hd
  have hnm:Zsn d.name=S5 n:=by have:=M6 hd;simpa using this
  have hgd:=Cq.mp hg d hmem
  simp only[Zct,hnm,Bs,beq_iff_eq,D7,decide_eq_true_eq] at hgd
  revert hgd;refine rAA λhO0 g6 g7=>?_;revert hO0;refine rA λhO0 g5=>?_;obtain ⟨⟨⟨g1,g2⟩,g3⟩,g4⟩:=hO0
  refine Zbi (λa o pm code doc h1 h2 h3 h4=>?_) (T0.fn d hmem)
  refine rEA (λcf u1_ hO=>?_) (Bi.mp hF);refine eqE hO ?_
  have hat:FnAt ⟨prog,w,h,Xw mg C,J7 mg mN,Xf C⟩ (Zau bl (recsOf p)) n cf.1 o (docDef d.name d.params d.body d.scope pm code doc) d.body (d.params.args.map (·.arg)):=⟨?_,h3,rfl,rfl,g2,g3,g4,g5,rfl,rfl,h4,λvals hl=>Zk7 g1 vals hl,cf.2.1,cf.2.2.2 _,cf.2.2.1⟩
  .exact ⟨o,_,_,_,hat⟩
  show h.get? (J7 mg mN n)=S5 o
  rw[Zk9 g7 g6 h1];exact h2
 .exact nn hF
set_option tactic.hygienic true in
theorem Zvz {bl:List (Str×Blt)}(P:fm h cr C N mN)(prog:be)(w:bv)(hg:cr.meths.all Q1=T1){ds:List ck}{md:Nat->Mode}{m:Nat}{F:Fn}(hF:Zsp bl md ds cr.meths m=S5 F):Zvv ⟨prog,w,h,Xw mg C,J7 mg mN,Xf C⟩ (Zau bl ds) (70+m) F:=by
 unfold Zsp at hF
 split at hF
 .rename_i d hd
  have hmem:=Iv hd
  have hnm:methNames.lookup d.name=S5 m:=by have:=M6 hd;simpa using this
  have hgd:=Cq.mp hg d hmem
  simp only[Q1,hnm,Bs,beq_iff_eq,D7,decide_eq_true_eq] at hgd
  revert hgd;refine rA λhO0 g6=>?_;revert hO0;refine rA λhO0 g5=>?_;obtain ⟨⟨⟨g1,g2⟩,g3⟩,g4⟩:=hO0
  refine Zeu (λa o pm code doc h1 h2 u7_ h3 h4=>?_) (P.meths d hmem)
  refine rEA (λcf u1_ hO=>?_) (Bi.mp hF);refine eqE hO ?_
  have hat:FnAt ⟨prog,w,h,Xw mg C,J7 mg mN,Xf C⟩ (Zau bl ds) (70 + m) cf.1 o (methDef d.name (cr.name ++ "." ++ d.name) d.params d.body d.scope pm code doc) d.body (d.params.args.map (·.arg)):=⟨?_,h3,rfl,rfl,g2,g3,g4,g5,rfl,rfl,h4,λvals hl=>Znr g1 vals hl,cf.2.1,cf.2.2.2 _,cf.2.2.1⟩
  .exact ⟨o,_,_,_,hat⟩
  show h.get? (J7 mg mN (70+m))=S5 o
  rw[Ztt g6 h1];exact h2
 .exact nn hF
theorem Zpt (P:fm h cr C N mN) (hg:cr.meths.all Q1=T1) {m:Nat} (hm:Zjq cr.meths m=T1):∃ x a o fd,Zfe m=S5 x /\ mN x=S5 (.ref a) /\ J7 mg mN (70 + m)=a /\ h.get? a=S5 o /\ o.cls=.type "function" /\ o.data=.func fd:=by
 refine rEA (λd hmem hd=>?_) (Lr.mp hm)
 obtain hnm:methNames.lookup d.name=S5 m:=by simpa using hd
 obtain hgd:=Cq.mp hg d hmem
 simp only[Q1,hnm,Bs,beq_iff_eq] at hgd
 refine Zeu (λa o pm code doc h1 h2 h0 h3 h4=>?_) (P.meths d hmem)
 exact ⟨d.name,a,o,_,hgd.2,h1,Ztt hgd.2 h1,h2,h0,h3⟩
noncomputable def Zjr (cr:ClsRec):Bool:=[j4 "__getattribute__",j4 "__getattr__",j4 "__setattr__",j4 "top",j4 "many"].all λx=>cr.quiet.contains x
set_option tactic.hygienic true in
theorem Zv0 {bl:List (Str×Blt)}(P:fm h cr C N mN)(prog:be)(w:bv)(hg:cr.meths.all Q1=T1)(hq:Zjr cr=T1){md:Nat->Mode}{ds:List ck}:WK ⟨prog,w,h,Xw mg C,J7 mg mN,Xf C⟩ (Zau bl ds) (Zsq bl md ds cr.meths):=by
 have qt:∀ x ∈ [j4 "__getattribute__",j4 "__getattr__",j4 "__setattr__",j4 "top",j4 "many"],mN x=N0:=λx hx=>P.quiet x (by have:=Cq.mp hq x hx; simpa using this)
 refine ⟨λc C' hc=>?_,λt i=>?_,λx k hx=>?_⟩
 .obtain hc0 : c = 0 /\ C' = C := by
   have hc:Xf C c=.ref C':=hc
   unfold Xf at hc
   split at hc
   .rename_i h0;cases hc;exact ⟨h0,rfl⟩
   .cases hc
  revert hc0;refine rA λhO0 hO1=>?_;refine eqS hO0 ?_;refine eqS hO1 ?_
  refine ⟨N,mN,P.cls,qt _ (.head _),qt _ (.tail _ (.head _)),qt _ (.tail _ (.tail _ (.head _))),λk hk=>?_,λx m f hx hf=>?_,λf hf=>?_⟩
  .obtain this:k=0\/k=1:=Na 0x10d80b80a7021ecbba1a11ba11a011 Tt hk
   rcases this with rfl | rfl
   .exact qt _ (.tail _ (.tail _ (.tail _ (.head _))))
   .exact qt _ (.tail _ (.tail _ (.tail _ (.tail _ (.head _)))))
  .refine Zl4 ((show (if (0 == 0&&Zjq cr.meths m)=T1 then S5 (70+m) else N0)=S5 f from hf)) λh1 h2=>?_
   cases h2
   refine Zb0 (λx' a o fd q1 q2 q3 q4 q5 q6=>?_) (Zpt (mg:=mg) P hg (by simpa using h1))
   obtain hxx:x=x'/\x ∉ [atn 0,atn 1]:=by
    exact (show ∀p,p∈methNames->∀x',Zfe p.2=S5 x'->p.1=x'/\p.1 ∉ [atn 0,atn 1] from W8 (λu_ q=>⟨B0.inj q,by decide⟩) (W8 (λu_ q=>⟨B0.inj q,by decide⟩) (W8 (λu_ q=>⟨B0.inj q,by decide⟩) (W8 (λu_ q=>⟨B0.inj q,by decide⟩) (W8 (λu_ q=>⟨B0.inj q,by decide⟩) (W8 (λu_ q=>⟨B0.inj q,by decide⟩) (W8 (λu_ q=>⟨B0.inj q,by decide⟩) (W8 (λu_ q=>⟨B0.inj q,by decide⟩) (W8 (λu_ q=>⟨B0.inj q,by decide⟩) (W8 (λu_ q=>⟨B0.inj q,by decide⟩) (W8 (λu_ q=>⟨B0.inj q,by decide⟩) (W8 (λu_ q=>⟨B0.inj q,by decide⟩) (W8 (λu_ q=>⟨B0.inj q,by decide⟩) (W8 (λu_ q=>⟨B0.inj q,by decide⟩) (W8 (λu_ q=>⟨B0.inj q,by decide⟩) nofun))))))))))))))) _ (mem_of_lookup (show methNames.lookup x=S5 m from hx)) _ q1
   refine byC λXX=>?_;revert hxx;refine rA λhO0 hnx=>?_;subst hO0;apply XX;clear XX
   show x ∉ _/\mN x=S5 (.ref (J7 mg mN (70+m)))/\(∃o fd,h.get? (J7 mg mN (70+m))=S5 o/\_)/\_
   rw[q3]
   exact ⟨hnx,q2,⟨o,fd,q4,q5,q6⟩,Zvw x⟩
  .refine Zl4 ((show (if (0 == 0&&Zjq cr.meths 0)=T1 then S5 70 else N0)=S5 f from hf)) λh1 h2=>?_
   cases h2
   refine Zb0 (λx' a o fd q1 q2 q3 q4 q5 q6=>?_) (Zpt (mg:=mg) P hg (by simpa using h1))
   cases q1
   show mN "__init__"=S5 (.ref (J7 mg mN (70 + 0))) /\ ∃ o,h.get? (J7 mg mN (70 + 0))=S5 o /\ _
   rw[q3]
   exact ⟨q2,o,q4,q5⟩
 .show Xw mg C t≠.builtin i
  intro e
  unfold Xw at e
  split at e
  any_goals (cases e;done)
  split at e
  rotate_left
  .unfold Xf at e;split at e <;> cases e
  cases hx:((Zh4 t).bind λx=>(mg x).bind λv=>match v with | .ref a=>S5 (aa.ref a) | _=>N0) with
  | none=>rw[hx] at e;cases e
  | some v=>
   rw[hx] at e
   refine Zy (hx) λx u1_ h2=>?_
   refine Zy (h2) λv' u1_ h4=>?_
   obtain e:v=.builtin i:=e
   subst e
   cases v' <;> cases h4
 .obtain hm:=mem_of_lookup hx
  simp only[Zau,Be,Dg,or_false,Ik.injEq] at hm
  rcases hm with ⟨rfl,rfl⟩ | ⟨rfl,rfl⟩
  .exact ⟨by decide,rfl⟩
  .exact ⟨by decide,rfl⟩
theorem Zv1 {bl:List (Str×Blt)}(T0:Top p loose mean mg mb h)(prog:be)(w:bv)(ho:Zfg p=T1)(hs:Sub mg h){ds:List ck}:EK ⟨prog,w,h,Xw mg C,J7 mg mN,Xf C⟩ (Zau bl ds):=by
 refine ⟨λx k hx=>?_,λx t k hx hk=>?_⟩
 .refine rE (λD O=>?_) (Zcu T0 ho hx)
  exact ⟨D,_,_,_,_,mg,Za8 hx O.bound,PySem.F.excBase_ValueError,by decide,O⟩
 .have own : ∀ x k, ownNames.lookup x = S5 k -> ∀ G D, Xw mg C k = .ref G -> Xw mg C k = .ref D -> ∃ o cd, h.get? G = S5 o /\ o.data = .cls cd /\ cd.mro.contains (.ref D) = T1 := λx k hx G D h1 h2 => by
   rw[h1] at h2;cases h2
   refine rE (λE O=>?_) (Zcu T0 ho hx)
   have:=Za8 (C:=C) hx O.bound
   rw[this] at h1;cases h1
   refine Uv (λbm N nm q bs hdct sn sub ab col dd k0 k1 k2 k3 k5 mN hC u18_=>?_) O.obj
   exact ⟨_,_,hC,rfl,by simp⟩
  have down:∀x k,ownNames.lookup x=S5 k->x∈subs->∀G D,Xw mg C k=.ref G->Xw mg C 10=.ref D->∃o cd,h.get? G=S5 o/\o.data=.cls cd/\cd.mro.contains (.ref D)=T1:=λx k hx hm G D h1 h2=>by
   refine Uz (λC' D' cd dd S=>?_) (hs x hm)
   rw[Za8 hx S.c1] at h1;cases h1
   rw[Za8 (x:=Zoi) (k:=10) rfl S.d1] at h2;cases h2
   refine rEA (λo q3 q4=>?_) S.c2
   exact ⟨o,cd,q3,q4,by rw[S.mro];simp⟩
  have four:∀t,Za1 k t=T1->k=t\/(t=10/\(k=11\/k=12\/k=13)):=λt hk=>by
   simp only[Za1,Kr,Bs,beq_iff_eq] at hk
   rcases hk with h | ⟨h,(h' | h') | h'⟩
   .exact .inl h
   .exact .inr ⟨h,.inl h'⟩
   .exact .inr ⟨h,.inr (.inl h')⟩
   .exact .inr ⟨h,.inr (.inr h')⟩
  rcases four t hk with rfl | ⟨rfl,rfl | rfl | rfl⟩
  .exact ⟨⟨x,hx⟩,own x k hx⟩
  .exact ⟨⟨j4 "BadStretch",rfl⟩,down _ 11 rfl (.head _)⟩
  .exact ⟨⟨j4 "Twice",rfl⟩,down _ 12 rfl (.tail _ (.head _))⟩
  .exact ⟨⟨j4 "Missing",rfl⟩,down _ 13 rfl (.tail _ (.tail _ (.head _)))⟩
theorem Zss {x:Str}{C D N:am}{cd dd:cz}{nm q:Str}{bs bm:List aa}{hdct:Bool}{sn:List Str}{sub:List aa}{ab:Bool}{col:Option Bool}{d0:Option am}{k0 k1 k2 k3 k5:Option aa}{newId:String}{mN:Str->Option aa}(S:SubAt mg h x C D cd dd)
  (hC:h.get? C=S5 (excClassObj nm q C N bs bm hdct sn sub ab col d0 k0 k1 k2 k3 k5 newId)) (hN:h.Ns N mN):bm=.ref D::bmV/\mN Zm8=N0:=by
 refine rEA (λo q3 q4=>?_) S.c2
 have e:cz.mro cd=.ref C::bm/\cd.ns=N:=by rw[hC] at q3;cases q3;cases q4;exact ⟨rfl,rfl⟩
 refine ⟨(Lo.inj (e.1.symm.trans S.mro)).2,?_⟩
 refine rEA (λm q8 q9=>?_) S.cn
 rw[hN.eq_nsMap,← e.2,← q8.eq_nsMap];exact q9
theorem Zst {x:Str}{C D:am}{cd dd:cz}(S:SubAt mg h x C D cd dd):TailN Zm8 h bmV (.ref D::bmV):=by
 refine rEA (λo q6 q7=>?_) S.d2
 refine byC λXX=>?_;obtain ⟨c0,dct,dt,sl⟩:=o;apply XX
 cases q7
 exact rEA (λm q10 q11=>.own q6 q10 q11 .base) S.dn
theorem Zv2 (T0:Top p loose mean mg mb h)(ho:Zfg p=T1)(hs:Sub mg h)(prog:be)(w:bv)(f:Nat->am):TyOK ⟨prog,w,h,Xw mg C,f,Xf C⟩:=by
 refine ⟨rfl,rfl,rfl,rfl,λc=>?_,λA c t r hr s a o keep ha hc Q E hq=>?_⟩
 .obtain e:Xw mg C (c+20)=if c+20<20 then ((Zh4 (c+20)).bind λx=>(mg x).bind λv=>match v with | .ref a=>S5 (aa.ref a) | _=>N0).getD .none else Xf C (c+20-20):=rfl
  show Xw mg C (c+20)=Xf C c
  rw[e,gq (Il.mpr (Ih 20 c)),Nat.add_sub_cancel]
 refine rA (λh0 e=>?_) (Y9 (show (if (c=12\/c=13)/\(t=12\/t=13) then S5 (c == t) else .none)=S5 r from hr))
 obtain nm:∀ {k},k=12 \/ k=13 -> ∃ x,ownNames.lookup x=S5 k /\ x ∈ subs:=λh=>h.elim (λe=>⟨j4 "Twice",e ▸ rfl,.tail _ (.head _)⟩) λe=>⟨j4 "Missing",e ▸ rfl,.tail _ (.tail _ (.head _))⟩
 refine rEA (λx hx mx=>?_) (nm h0.1)
 refine Uz (λG D cd dd S=>?_) (hs x mx)
 obtain hc:o.cls=.ref G:=Eq.trans (show o.cls=Xw mg C c from hc) (Za8 hx S.c1)
 show wpAny (model prog w) A (call (.builtin "isinstance") [.ref a,Xw mg C t]) Q E s
 rw[← B0.inj e] at hq
 by_cases hct:c=t
 .rw[← hct,Za8 hx S.c1]
  rw[hct,beq_self_eq_true] at hq
  exact Zbx ha hc (hq _)
 .rw[beq_false_of_ne hct] at hq
  refine rEA (λy hy my=>?_) (nm h0.2)
  refine rE (λC' O=>?_) (Zcu T0 ho hx)
  obtain rfl:=aa.ref.inj (B0.inj (S.c1.symm.trans O.bound))
  refine J5 (λbm N nm q bs hdct sn sub ab col dd0 k0 k1 k2 k3 k5 mN hC hN hqn TQ=>?_) O.obj
  obtain so:=Zss S hC hN
  refine rE (λUq OU=>?_) (Zcu T0 ho hy)
  rw[Za8 hy OU.bound]
  refine Uv (λu0_ u1_ u2_ u3_ u4_ u5_ u6_ u7_ u8_ u9_ u10_ u11_ u12_ u13_ u14_ u15_ u16_ hU u18_=>?_) OU.obj
  obtain n1:Uq≠G:=λe=>S.far y my (λe=>hct (B0.inj (hx.symm.trans (e▸hy)))) (e▸OU.bound)
  obtain n2:Uq≠D:=by
   refine Uz (λC2 D2 cd2 dd2 S2=>?_) (hs y my)
   rw[← aa.ref.inj (B0.inj (S2.c1.symm.trans OU.bound)),← aa.ref.inj (B0.inj (S2.d1.symm.trans S.d1))];exact S2.ne
  obtain hcon:(aa.ref G::bm).contains (.ref Uq)=F0:=by rw[so.1];simp[bmV,n1,n2]
  exact Zhr PySem.F.attrBase_ValueError (keep _ _ hC) (by rw[so.1];rfl) (hN.keeps keep) hqn (TQ.keeps keep) so.2 (TailN.keeps (so.1▸Zst S) keep) ha hc (keep _ _ hU) hcon (hq _)
set_option tactic.hygienic true in
theorem law_end {bl:List (Str×Blt)}(hbl:∀x b,bl.lookup x=S5 b->bltNames.lookup x=S5 b)(T0:Top p loose mean mg mb h)(P:fm h cr C N mN)(hC:mg Zmi=S5 (.ref C))(hs':Sub mg h)(prog:be)(w:bv)(hf:Zh5 p loose=T1)(hg:(recsOf p).all Zct=T1)(ho:Zfg p=T1)
  (hg':cr.meths.all Q1=T1) (hq':Zjr cr=T1) {md:Nat->Mode}{d n:Nat}{A:aj} (rm:Rm d A) (hA:A.frames=S5 []) (hs:∀K A,Rm 0 A->Zhz K A)
  {s:ae} (es:s.heap=h) {l:List Int}{vs:List aa}{ax:am} (hx:h.get? ax=S5 (Yd vs 0)) (hv:∀K,RVs K [] h (l.map V.int) vs) (hl:l.length<=Zo) {U':H}{x:Str}{fa:am} (hn7:n<70) (hn:Zh3 n=S5 x) (hm:mg x=S5 (.ref fa))
  (hc:Zdx (Zsq bl md (recsOf p) cr.meths) d n [.frz l] []=S5 (.ok (.bool T1),U')) {Q:VSP}{E:VSP}
  (hq:∀s':ae,(∀b o,s.heap.get? b=S5 o->s'.heap.get? b=S5 o)->s'.os=s.os->s'.gens=s.gens->Q (.bool T1) s'):wpAny (model prog w) A (call (.ref fa) [.ref ax]) Q E s:=by
 subst es
 obtain pk:PK ⟨prog,w,s.heap,Xw mg C,J7 mg mN,Xf C⟩ (Zau bl (recsOf p)) (Zsq bl md (recsOf p) cr.meths):=by
  refine ⟨Zvx hbl T0 prog w hf hg ho hC,Zv2 T0 ho hs' prog w _,Zv0 P prog w hg' hq',Zv1 T0 prog w ho hs',λf F hF=>?_,T0.nolimit,λu_ v_ A rm=>hs _ A rm,rfl⟩
  obtain hF:(if f<70 then Zso bl md (recsOf p) f else Zsp bl md (recsOf p) cr.meths (f-70))=S5 F:=hF
  split at hF
  .exact Zvy T0 prog w hg hF
  .have:=Zvz (mg:=mg) P prog w hg' hF
   rwa [show 70+(f-70)=f by exact ln2 [(.sb .v0 .v1 (.k 70)),(.no (.lt .v1 (.k 70)))] (.eq (.a (.k 70) .v0) .v1) (.s (.s (.d 11001) (.d 11101)) (.s (.d 1101) (.d 110101))) rfl (Zc _ _) ‹_›] at this
 obtain hr:HR ⟨prog,w,s.heap,Xw mg C,J7 mg mN,Xf C⟩ [] [] s.heap:=⟨λu_ v_ e=>e,rfl,Me,(λa h=>nomatch h),λn o a h1 u_=>by simp at h1⟩
 have:=Zk6 pk d A rm n [.frz l] [] (.bool T1) U' hc [] s [.ref ax] hr (.cons (.frz hx (hv _) hl) .nil) (λfs hfs env he=>by rw[hA] at hfs;obtain rfl:=B0.inj hfs;cases he)
 obtain e:J7 mg mN n=fa:=Zk9 hn7 hn hm
 unfold TR at this
 simp only[e] at this
 refine ak this (λv s' hq'=>?_) λu_ v_ f=>f.elim
 revert hq';refine rEA λJ' g rv=>?_
 obtain rfl:=rv.boolI rfl
 exact hq s' g.hr.keep g.st.os g.st.gens
end
end
end Mini.Internal
namespace Mini.Internal
open PySem PySem.W PyProof.Rows
variable {J J' J1:List am}{U U' U1:H}{s s' s1:ae}{h h':au}{Z Z':L}
theorem Zh6 {P:fc}{d:WData}{ds:List WData}{vs:List aa}(r:fk P h vs (d::ds)):∃w wr,vs=w::wr/\Well P h w d/\fk P h wr ds:=by
 cases r with
 | cons a b=>exact ⟨_,_,rfl,a,b⟩
theorem Zjs {P:fc}{vs:List aa}(r:fk P h vs []):vs=[]:=by
 cases r with
 | nil=>rfl
theorem Zpu {P:fc}{i:Int}{w:aa}(r:Well P h w (.int i)):∃t,w=.int i t:=by
 cases r with
 | int _ t=>exact ⟨t,rfl⟩
theorem Zcv {K:Kx}{P:fc}:∀{l:List Int}{vs:List aa},fk P h vs (ofPys (l.map .int))->RVs K [] h' (l.map V.int) vs
 | [],vs,r=>by rw[Zjs r];exact .nil
 | i::l,vs,r=>by
  refine byC λXX=>?_;refine Yn (λw wr hO2 r0 rs=>?_) (Zh6 r);subst hO2;apply XX
  refine byC λXX=>?_;refine rE (λt hO1=>?_) (Zpu r0);subst hO1;apply XX
  exact .cons (.int i t) (Zcv (l:=l) rs)
theorem well_ints {P:fc}{l:List Int}{ax:am}(w:Well P h (.ref ax) (ofPy (.list (l.map .int)))):∃vs,h.get? ax=S5 (Yd vs 0)/\∀K,RVs K [] h' (l.map V.int) vs:=by
 obtain e:ofPy (.list (l.map .int))=.list (ofPys (l.map .int)):=rfl
 rw[e] at w
 cases w with
 | list h1 h2=>exact ⟨_,h1,λK=>Zcv h2⟩
theorem script_small {l:List Int}(h:aw.layable0 (.list (l.map .int))=T1):∀x∈l,x.natAbs<2^(2^20):=λx hx=>by
 have:=aw.bits_item_of_ints h hx
 exact intBits_le_iff.mp this
theorem rm_caller:Rm 340 callerA:=⟨rfl,by decide,by decide,⟨[],rfl⟩⟩
end Mini.Internal
namespace Mini.Internal
open PySem PyProof.Rows
variable {J J' J1:List am}{U U' U1:H}{s s' s1:ae}{h h':au}{Z Z':L}
theorem Zai (x y:T3):T3.le x y=T1↔(x.a<y.a\/(x.a=y.a/\(x.b<y.b\/(x.b=y.b/\x.c<=y.c)))):=by
 simp[T3.le]
theorem Ww (x:T3):T3.le x x=T1:=by rw[Zai];exact Ic 0x10d700f8000d711f811622cbba01a01bba001a001a001 Tt
theorem Yc {x y z:T3}(h:T3.le x y=T1)(h':T3.le y z=T1):T3.le x z=T1:=by rw[Zai] at *;exact lin [(.or (.zlt .v0 .v6) (.an (.zeq .v0 .v6) (.or (.zlt .v2 .v7) (.an (.zeq .v2 .v7) (.zle .v4 .v8))))),(.or (.zlt .v6 .v1) (.an (.zeq .v6 .v1) (.or (.zlt .v7 .v3) (.an (.zeq .v7 .v3) (.zle .v8 .v5)))))] (.or (.zlt .v0 .v1) (.an (.zeq .v0 .v1) (.or (.zlt .v2 .v3) (.an (.zeq .v2 .v3) (.zle .v4 .v5))))) (.s (.s (.s (.s (.d 111) (.s (.d 111) (.d 111))) (.s (.s (.d 111) (.s (.d 111) (.d 111))) (.s (.d 111) (.s (.d 111) (.d 111))))) (.s (.s (.d 10111) (.s (.d 10111) (.d 10111))) (.s (.s (.d 1011001) (.s (.d 1011001) (.d 1011001))) (.s (.d 101100001) (.s (.d 101100001) (.d 101100001)))))) (.s (.s (.s (.s (.d 1011) (.s (.d 1011) (.d 1011))) (.s (.s (.d 1011) (.s (.d 1011) (.d 1011))) (.s (.d 1011) (.s (.d 1011) (.d 1011))))) (.s (.s (.d 110011) (.s (.d 110011) (.d 110011))) (.s (.s (.d 11001001) (.s (.d 1001001001) (.d 1001001001))) (.s (.d 1100100001) (.s (.d 100100100001) (.d 100100100001)))))) (.s (.s (.d 110011) (.s (.d 110011) (.d 110011))) (.s (.s (.d 11001001) (.s (.d 1010001001) (.d 1010001001))) (.s (.d 1100100001) (.s (.d 101000100001) (.d 10010000100001))))))) rfl [] [_,_,_,_,_,_,_,_,_] h h'
theorem Y7 {x y:T3}(h:T3.le x y=F0):T3.le y x=T1:=by
 rw[← Lu,Zai] at h;rw[Zai];exact Ig 0x10d701f8010d723f823641d90d710f8100d732f83261d4cbbbba11a11bba11a11a11bba011a011bba011a011a011bbbba011a011bba011a011a011bba00011a10001bba00101a00101a00101bba00011a10001bba000011a010001a001001 Tt h
theorem Zaj {x y:T3}(h:T3.le x y=T1)(h':T3.le y x=T1):x=y:=by
 rw[Zai] at h h'
 obtain this:x.a=y.a/\x.b=y.b/\x.c=y.c:=Ig 0x1f801f823841d0d701f8010d723f823641d0d710f8100d732f83261d4cbbbba101ba101a101bba101ba101a101ba101ba101a101bba11ba11a11bba11ba11a11ba11ba11a11bbbba011ba011a011bba01001ba1000001a1000001ba10001ba10001a10001bba011ba011a011bba1001ba1001a1001ba1001ba1001a1001bbba011ba011a011bba01001ba0001001a0001001ba0100001ba000100001a10000000001bba011ba011a011bba01001ba0001001a0001001ba100001ba100001a100001 Tt h h'
 cases x;cases y;simp_all
noncomputable def KS (key:ai->T3)(xs:Array ai)(i:Nat):T3:=key (xs[i]?.getD default)
theorem Xg {key:ai->T3}{xs ys:Array ai}{i j:Nat}(h:xs[i]?=ys[j]?):KS key xs i=KS key ys j:=by unfold KS;rw[h]
def SegS (key:ai->T3)(xs:Array ai)(i j:Nat):Prop:=∀p q,i<=p->p<=q->q<j->T3.le (KS key xs p) (KS key xs q)=T1
def SegD (key:ai->T3)(xs:Array ai)(i j:Nat):Prop:=∀p q,i<=p->p<=q->q<j->T3.le (KS key xs q) (KS key xs p)=T1
theorem Zdn {key:ai->T3}{xs:Array ai}{i j:Nat}(hj:j<=xs.size)(k:Nat) :
  KS key (mirror xs i j ((j-i) / 2)) k=if i<=k/\k<j then KS key xs (i+j-1-k) else KS key xs k:=by
 obtain e:=fb (i:=i) hj k
 by_cases h1:i<=k/\k<j
 .rw[gp h1] at e ⊢;exact Xg e
 .rw[gq h1] at e ⊢;exact Xg e
set_option tactic.hygienic true in
theorem Jg {key:ai->T3}{xs:Array ai}{i j:Nat}(hj:j<=xs.size)(heq:∀k,i<=k->k<j->KS key xs k=KS key xs (j-1))(k:Nat):KS key (mirror xs i j ((j-i) / 2)) k=KS key xs k:=by
 rw[Zdn hj]
 split
 .rw[heq _ (by exact ln5 [(.sb .v1 .v3 .v2),(.sb .v3 (.a .v0 .v4) .k1),(.an (.le .v0 .v2) (.lt .v2 .v4))] (.le .v0 .v1) (.s (.s (.d 1100100101) (.d 112010101)) (.s (.d 1110100101) (.d 1110110101))) rfl (Zc _ _) (Zc _ _) ‹_›) (by exact ln5 [(.sb .v0 .v3 .v2),(.sb .v3 (.a .v4 .v1) .k1),(.an (.le .v4 .v2) (.lt .v2 .v1))] (.lt .v0 .v1) (.s (.s (.d 110100101) (.d 1101001021)) (.s (.d 1111010101) (.d 1111000101))) rfl (Zc _ _) (Zc _ _) ‹_›),heq k (by exact ln3 [(.an (.le .v0 .v1) (.lt .v1 .v2))] (.le .v0 .v1) (.d 111) rfl ‹_›) (by exact ln3 [(.an (.le .v2 .v0) (.lt .v0 .v1))] (.lt .v0 .v1) (.d 1101) rfl ‹_›)]
 .rfl
theorem Zns {key:ai->T3}{xs:Array ai}{src d:Nat}(hs:src<xs.size)(hd:d<=src)(k:Nat) :
  KS key (bubble xs src d) k=if k=src-d then KS key xs src else if src-d<k/\k<=src then KS key xs (k-1) else KS key xs k:=by
 obtain e:=gk hs d hd k
 by_cases h1:k=src-d
 .rw[gp h1] at e ⊢;exact Xg e
 .rw[gq h1] at e ⊢
  by_cases h2:src-d<k/\k<=src
  .rw[gp h2] at e ⊢;exact Xg e
  .rw[gq h2] at e ⊢;exact Xg e
structure SB (a₀:Array ai)(κ:bi)(lo hi:Nat)(st0 st:ag):Prop where
 perm:(arrOf st).Perm a₀
 kind:kindOf st=κ
 ok:failedOf st=N0
 pend:pendingOf st=pendingOf st0
 out:∀k:Nat,k<lo\/hi<=k->(arrOf st)[k]?=(arrOf st0)[k]?
theorem SB.size {a₀:Array ai}{κ:bi}{lo hi:Nat}{st0 st:ag}(h:SB a₀ κ lo hi st0 st):(arrOf st).size=a₀.size:=h.perm.size_eq
theorem SB.mirror {a₀:Array ai}{κ:bi}{lo hi i j:Nat}{st0 st:ag}(h:SB a₀ κ lo hi st0 st)(h1:lo<=i)(h2:j<=hi)(h3:hi<=a₀.size):SB a₀ κ lo hi st0 (setArr st (mirror (arrOf st) i j ((j-i) / 2))) :=
 ⟨(mirror_perm _ _ _ _).trans h.perm,h.kind,h.ok,h.pend,λk hk=>by
  show (PyProof.Rows.mirror (arrOf st) i j ((j-i) / 2))[k]?=_
  rw[fb (by rw[h.size];exact Nc 0x1601602621c111 Tt h2 h3),gq (by exact Ni 0x19f6017126306240d713641cba10101a01011 Tt h1 h2 hk)];exact h.out k hk⟩
theorem SB.bubble {a₀:Array ai}{κ:bi}{lo hi src d:Nat}{st0 st:ag}(h:SB a₀ κ lo hi st0 st)(h1:lo<=src-d)(h0:d<=src)(h2:src<hi)(h3:hi<=a₀.size):SB a₀ κ lo hi st0 (setArr st (bubble (arrOf st) src d)) :=
 ⟨(bubble_perm _ _ _).trans h.perm,h.kind,h.ok,h.pend,λk hk=>by
  show (PyProof.Rows.bubble (arrOf st) src d)[k]?=_
  rw[gk (by rw[h.size];exact Nc 0x1701702621c111 Tt h2 h3) d h0,gq (by exact Nf 0x198016217340d702640c131dcbba01101a01101ba1001101a1001101 Tt h1 h2 hk (Zc _ _)),gq (by exact Ni 0x19f7016126307240d713641cba10101a01011 Tt h1 h2 hk)];exact h.out k hk⟩
def Zjt (prog:be)(w:bv)(A:aj)(E:VSP)(s:ae)(κ:bi)(a₀:Array ai)(key:ai->T3):Prop :=
 ∀x y,x∈a₀.toList->y∈a₀.toList->∀(st:ag) (Q:Option Bool->ag->Prop),kindOf st=κ->Q (S5 (!T3.le (key y) (key x))) st->wpS (model prog w) A E s (lt' x y) Q st
theorem Zv3 {p q x:Nat}(h:p<=q)(a b c:T3):(if x=q-(q-p) then a else if q-(q-p)<x/\x<=q then b else c)=if x=p then a else if p<x/\x<=q then b else c:=by rw[Nat.sub_sub_self h]
set_option tactic.hygienic true in
theorem Zsu {f:Nat->T3}{lo p q i j:Nat}(hl:lo<=p)(_:p<=q)(hs:∀i j,lo<=i->i<=j->j<q->T3.le (f i) (f j)=T1)(hlo:∀i,lo<=i->i<p->T3.le (f i) (f q)=T1)(hhi:∀i,p<=i->i<q->T3.le (f q) (f i)=T1)
  (hi:lo<=i) (hij:i<=j) (hj:j<=q):T3.le (if i=p then f q else if p<i/\i<=q then f (i-1) else f i) (if j=p then f q else if p<j/\j<=q then f (j-1) else f j)=T1:=by
 obtain one:∀{x:Nat},p<x->x<=q->x-1<q:=λh h'=>C2 (Nat.sub_lt (Bx (C9 _) h) M7) h'
 by_cases c1:i=p
 .rw[gp c1]
  by_cases c2:j=p
  .rw[gp c2];exact Ww _
  .obtain h2:p<j:=Ip (c1▸hij) λe=>c2 e.symm
   rw[gq c2,gp ⟨h2,hj⟩];exact hhi _ (I8 h2) (one h2 hj)
 .rw[gq c1]
  by_cases c3:p<i
  .obtain h2:p<j:=C2 c3 hij
   rw[gp ⟨c3,Bc hij hj⟩,gq (Gc h2),gp ⟨h2,hj⟩]
   exact hs _ _ (I8 (Bx hl c3)) (I5 hij 1) (one h2 hj)
  .obtain h1:i<p:=Ip (Gd c3) c1
   rw[gq λh=>c3 h.1]
   by_cases c2:j=p
   .rw[gp c2];exact hlo _ hi h1
   .rw[gq c2]
    by_cases c4:p<j
    .rw[gp ⟨c4,hj⟩];exact hs _ _ hi (I8 (Bv h1 c4)) (one c4 hj)
    .rw[gq λh=>c4 h.1];exact hs _ _ hi hij (C2 (Ip (Gd c4) c2) ‹p<=q›)
structure SA (a₀:Array ai)(κ:bi)(st:ag):Prop where
 perm:(arrOf st).Perm a₀
 kind:kindOf st=κ
 ok:failedOf st=N0
structure SC where
 prog:be
 w:bv
 A:aj
 E:aa->ae->Prop
 sK:ae
 a₀:Array ai
 κ:bi
 key:ai->T3
 hL:Zjt prog w A E sK κ a₀ key
def scF (c:SC):Prop:=∀(st:ag) (Q:Unit->ag->Prop),SA c.a₀ c.κ st->pendingOf st = #[]->(∀st',SA c.a₀ c.κ st'->SegS c.key (arrOf st') 0 c.a₀.size->Q () st')->wpS (model c.prog c.w) c.A c.E c.sK sortRuns' Q st
theorem Ztv:∃c:SC,scF c->∀c':SC,scF c':=by
 by_cases h:∀c':SC,scF c'
 .exact ⟨⟨default,Zos,{},λu_ v_=>False,{},#[],oneType',λu_=>default,λx y h=>(nomatch h)⟩,λu_=>h⟩
 .refine byC λXX=>?_;obtain ⟨c,hc⟩:=Classical.not_forall.mp h;apply XX
  exact ⟨c,λf=>absurd f hc⟩
noncomputable def sc:SC:=Classical.choose Ztv
namespace SK
noncomputable def prog:be:=sc.prog
noncomputable def w:bv:=sc.w
noncomputable def A:aj:=sc.A
def E:aa->ae->Prop:=sc.E
noncomputable def sK:ae:=sc.sK
noncomputable def a₀:Array ai:=sc.a₀
noncomputable def κ:bi:=sc.κ
noncomputable def key:ai->T3:=sc.key
theorem HL:Zjt prog w A E sK κ a₀ key:=sc.hL
end SK
section
open SK
theorem Za9 {xs:Array ai}(h:xs.Perm a₀){i:Nat}(hi:i<xs.size):xs[i]∈a₀.toList:=(G5.mp h).mem_iff.mp (by simp)
theorem Yz {key:ai->T3}{xs:Array ai}{i:Nat}(hi:i<xs.size):KS key xs i=key xs[i]:=by unfold KS;rw[getElem?_pos xs i hi];rfl
theorem Yp {α:Type}{c:Prop}[Decidable c]{x y:StateT ag Sem α}{Q:α->ag->Prop}{st:ag}(h:c)(k:wpS (model prog w) A E sK x Q st):wpS (model prog w) A E sK (if c then x else y) Q st:=by rw[gp h];exact k
theorem Yq {α:Type}{c:Prop}[Decidable c]{x y:StateT ag Sem α}{Q:α->ag->Prop}{st:ag}(h:¬ c)(k:wpS (model prog w) A E sK y Q st):wpS (model prog w) A E sK (if c then x else y) Q st:=by rw[gq h];exact k
theorem Zbn {α:Type}{c:Prop}[Decidable c]{x y:StateT ag Sem α}{Q:α->ag->Prop}{st:ag}(h:c->wpS (model prog w) A E sK x Q st)(k:¬ c->wpS (model prog w) A E sK y Q st):wpS (model prog w) A E sK (if c then x else y) Q st:=by
 by_cases hc:c
 .exact Yp hc (h hc)
 .exact Yq hc (k hc)
theorem Ym {xs:Array ai}{i:Nat}{Q:ai->ag->Prop}{st:ag}(hi:i<xs.size)(h:Q xs[i] st):wpS (model prog w) A E sK (elem' xs i) Q st:=by
 rw[elem'_eq,getElem?_pos xs i hi];exact ao h
theorem Zfh {lo hi:Nat}{st0 st:ag}{i j:Nat}{Q:Option Bool->ag->Prop}(hB:SB a₀ κ lo hi st0 st)(hi':i<a₀.size)(hj:j<a₀.size)
  (h:Q (S5 (!T3.le (KS key (arrOf st) j) (KS key (arrOf st) i))) st):wpS (model prog w) A E sK (ltAt' i j) Q st:=by
 have h1:i<(arrOf st).size:=by rw[hB.size];exact hi'
 have h2:j<(arrOf st).size:=by rw[hB.size];exact hj
 rw[ltAt'_eq]
 refine ah (bw ?_)
 show wpS _ _ _ _ (do let x ← elem' (arrOf st) i;let y ← elem' (arrOf st) j;lt' x y) Q st
 refine ah (Ym h1 (ah (Ym h2 ?_)))
 rw[Yz h1,Yz h2] at h
 exact HL _ _ (Za9 hB.perm h1) (Za9 hB.perm h2) st Q hB.kind h
namespace jm
def S (lo:Nat)(n:Nat)(ok:Nat)(st0:ag)(st:ag)(Q:Bool->ag->Prop):Prop:=∀(hn:lo+n<=a₀.size) (hok:ok<=n) (hB:SB a₀ κ lo (lo+n) st0 st) (hs:SegS key (arrOf st) lo (lo+ok)) (h:∀st',SB a₀ κ lo (lo+n) st0 st'->SegS key (arrOf st') lo (lo+n)->gallopOf st'=gallopOf st->Q T1 st'),wpS (model prog w) A E sK (binarySort' lo n ok) Q st
def p:=Wo ⟨(0,0,0,(ag.mk' oneType' #[] #[] 7 N0),(ag.mk' oneType' #[] #[] 7 N0),(λu_ v_=>True))⟩ (uc6 S)
def lo:=p.1
def n:=p.2.1
def ok:=p.2.2.1
def st0:=p.2.2.2.1
def st:=(sk4 p).1
def Q:=(sk4 p).2
theorem pf:S lo n ok st0 st Q:=by
 intro hn hok hB hs h
 rw[binarySort'_eq]
 refine ah (bg (az (I:=λk c st'=>c=(N0,())/\SB a₀ κ lo (lo+n) st0 st'/\gallopOf st'=gallopOf st/\SegS key (arrOf st') lo (lo+min k n))
  (Q:=λc st'=>c=(N0,())/\SB a₀ κ lo (lo+n) st0 st'/\gallopOf st'=gallopOf st/\SegS key (arrOf st') lo (lo+n)) ?step ?fin ?init) ?post)
 case post=>
  intro c st' hR2
  refine byC λXX=>?_;revert hR2;refine X0 λhO0 hB' hg hs'=>?_;subst hO0;apply XX
  exact ao (h st' hB' hs' hg)
 case init=>
  refine ⟨rfl,hB,rfl,λi j hi hij hj=>?_⟩
  by_cases h1:ok=0
  .obtain this:i=j:=by exact Ng 0x18016206017152384bad31d2dbd1d4acbbba11010001001a0000100001ba11010011001a0000100001bba101a101ba101a101 Tt hi hij hj h1 (Ys _ _) (Q8 _ _)
   subst this;exact Ww _
  .exact hs i j hi hij (by exact Nf 0x17051270513982bad341dbd42acbbba001a0010001ba001a0010001bba11101001a11001001ba11111001a11011001 Tt hj h1 (Ys _ _) (Q8 _ _))
 case fin=>
  intro c st' hR2
  revert hR2;refine X0 λhc hB' hg hs'=>?_
  refine ⟨hc,hB',hg,?_⟩
  rwa [show min (max (max ok 1) n) n=n by exact Nd 0x1801ad021bd231cbbba1001001a1001101ba1001a1001bba111a111ba101a101 Tt (Ys _ _) (Q8 _ _)] at hs'
 case step=>
  intro k c st' hak hkn hR5
  refine byC λXX=>?_;revert hR5;refine X0 λhO0 hB' hg hs'=>?_;subst hO0;apply XX
  rw[show min k n=k by exact Nc 0x1801712ad012cbba10001a011ba1001a011 Tt hkn (Ys _ _)] at hs'
  obtain hk:lo+k<a₀.size:=Nd 0x17501265032713c111 Tt hn hkn
  refine ah (bg (az (I := λx c st'' => st'' = st' /\ ∃ l r, c = (N0, l, r) /\ l <= r /\ r <= k /\ r - l <= k - x /\
    (∀i,i<l->T3.le (KS key (arrOf st') (lo+i)) (KS key (arrOf st') (lo+k))=T1)/\(∀i,r<=i->i<k->T3.le (KS key (arrOf st') (lo+k)) (KS key (arrOf st') (lo+i))=T1))
   (Q:=λc st''=>st''=st'/\∃l r,c=(N0,l,r)/\l<=k/\
    (∀i,i<l->T3.le (KS key (arrOf st') (lo+i)) (KS key (arrOf st') (lo+k))=T1)/\(∀i,l<=i->i<k->T3.le (KS key (arrOf st') (lo+k)) (KS key (arrOf st') (lo+i))=T1)) ?istep ?ifin ?iinit) ?ipost)
  case iinit=>exact ⟨rfl,0,k,rfl,Na 0x16b0c1 Tt,Na 0x1600c1 Tt,Na 0x1600c1 Tt,λi hi=>by lia,λi h1 h2=>by lia⟩
  case ifin=>
   intro c st'' hR2
   refine byC λXX=>?_;revert hR2;refine Zgi λhO0 l r hO3 hlr hrk hm hlo hhi=>?_;subst hO0;subst hO3;apply XX
   obtain this:l=r:=by exact Ni 0x1801601623c344c210cbbba101010001a1000001ba101010001a1000001bba11a11ba11a11 Tt hlr hm (Zc _ _) (Zc _ _)
   subst this
   exact ⟨rfl,l,l,rfl,hrk,hlo,hhi⟩
  case istep=>
   intro x c st'' u_ hxk hR5
   refine byC λXX=>?_;revert hR5;refine Zgi λhO0 l r hO3 hlr hrk hm hlo hhi=>?_;subst hO0;subst hO3;apply XX
   dsimp only
   by_cases hge:l ≥ r
   .rw[gp hge]
    obtain this:l=r:=by exact Nb 0x1801601610cba101a11 Tt hlr hge
    subst this
    exact ao ⟨rfl,l,l,rfl,hrk,hlo,hhi⟩
   .rw[gq hge]
    refine ah (Zfh hB' hk (by exact Ng 0x1750126503274361d4961d2df628d152d1d752d1d528d121ec222211 Tt hn hkn hrk hge (Wa _ 2 (by decide))) ?_)
    cases hless:T3.le (KS key (arrOf st'') (lo+(l+r) / 2)) (KS key (arrOf st'') (lo+k))
    case false=>
     simp only[G6,if_true]
     refine ao ⟨rfl,l,(l+r) / 2,rfl,by exact Nc 0x16019620f628d15027502528d121ec2101 Tt hge (Wa _ 2 (by decide)),by exact Nd 0x16016219623f628d05327532528d021ec2211 Tt hrk hge (Wa _ 2 (by decide)),ar1 hm hge,hlo,λi h1 h2=>?_⟩
     exact Yc (Y7 hless) (hs' _ _ (by exact Nb 0x160501c1 Tt) (Nc 0x16501502612c11 Tt h1) (Nc 0x17501502712c11 Tt h2))
    case true=>
     simp only[Dm,Bu,if_false]
     refine ao ⟨rfl,(l+r) / 2+1,r,rfl,by exact Nc 0x1650a19612f628d05217521528d021ec211 Tt hge (Wa _ 2 (by decide)),Nb 0x1601601c11 Tt hrk,ar2 hm hge,λi h1=>?_,hhi⟩
     exact Yc (hs' (lo+i) (lo+(l+r) / 2) (by exact Nb 0x160501c1 Tt) (Nc 0x165015027152ac11 Tt h1) (by exact Ni 0x175015026329634f628d15437543528d121ec2211 Tt hrk hge (Wa _ 2 (by decide)))) hless
  case ipost=>
   intro c st'' hR2
   refine byC λXX=>?_;revert hR2;refine Zrh λhO0 l r hO3 hlk hlo hhi=>?_;subst hO0;subst hO3;apply XX
   show wpS _ _ _ _ (do moveDown' (lo+k) (lo+l);pure (ForInStep.yield (N0,()))) _ _
   rw[moveDown'_eq]
   refine ah (bn (ao ⟨rfl,hB'.bubble (by exact Ni 0x1601c15032c2503504cbba100101a100101ba110101a110101 Tt (Zc _ _) (Zc _ _)) (by exact Nd 0x160512c0512513cba101a101 Tt (Zc _ _)) (Nc 0x17501502712c11 Tt hkn) hn,hg,?_⟩))
   rw[show min (k+1) n=k+1 by exact Nc 0x18051a712ad051a2cbba10001a11001ba1001a1011 Tt hkn (Ys _ _)]
   obtain hks:lo+k<(arrOf st'').size:=by rw[hB'.size];exact hk
   obtain hlo':∀i,lo<=i->i<lo+l->T3.le (KS key (arrOf st'') i) (KS key (arrOf st'') (lo+k))=T1:=λi h1 h2=>by
    have:=hlo (i-lo) (by exact Nd 0x170162373521c032cba10101a11101 Tt h1 h2 (Zc _ _));rwa [show lo+(i-lo)=i by exact Nc 0x185012602c120cbba10001a10101ba1001a1101 Tt h1 (Zc _ _)] at this
   obtain hhi':∀i,lo+l<=i->i<lo+k->T3.le (KS key (arrOf st'') (lo+k)) (KS key (arrOf st'') i)=T1:=λi h1 h2=>by
    have:=hhi (i-lo) (by exact Nd 0x160165203c132cba11001a11101 Tt h1 (Zc _ _)) (by exact Ni 0x17016523474521c042cba10101a11101 Tt h1 h2 (Zc _ _));rwa [show lo+(i-lo)=i by exact Nd 0x18501265032c120cbba10001a10101ba1001a1101 Tt h1 (Zc _ _)] at this
   intro i j hi hij hj
   obtain hpq:lo+l<=lo+k:=Gj hlk lo
   obtain e:=λx=>(Zns (key:=key) hks (Mf _ _) x).trans (Zv3 hpq _ _ _)
   exact ((congr (congrArg T3.le (e i)) (e j)).trans (Zsu (Cc lo l) hpq hs' hlo' hhi' hi hij (Lh hj)))
end jm
theorem Zla {lo:Nat}{n:Nat}{ok:Nat}{st0:ag}{st:ag}{Q:Bool->ag->Prop}:jm.S lo n ok st0 st Q:=Yi (S:=uc6 jm.S) jm.pf (lo,n,ok,st0,st,Q)
end
noncomputable def Zh7 (lo a nrem:Nat):StateT ag Sem AscSt :=
 forIn [a:nrem] ((N0,a):AscSt) λu_ r=>do
  let x ← ltAt' (lo+r.snd) (lo+r.snd-1)
  match x with
  | some smaller=>if smaller=T1 then pure (ForInStep.done (N0,r.snd)) else pure (ForInStep.yield (N0,r.snd+1))
  | _=>pure (ForInStep.done (S5 N0,r.snd))
noncomputable def Zmj (lo n nrem:Nat):StateT ag Sem (Option Nat):=do
 reverseSlice' lo (lo+n)
 let r ← Zh7 lo n nrem
 match r.fst with
 | some r=>pure r
 | none=>pure (S5 r.snd)
noncomputable def Zgs (lo n nrem:Nat):StateT ag Sem DescSt :=
 forIn [n:nrem] ((N0,n,0):DescSt) λu_ r=>do
  let x ← ltAt' (lo+r.snd.fst) (lo+r.snd.fst-1)
  match x with
  | some smaller=>
   if smaller=T1 then
    if r.snd.snd>0 then do
     reverseSlice' (lo+r.snd.fst-(r.snd.snd+1)) (lo+r.snd.fst)
     pure (ForInStep.yield (N0,r.snd.fst+1,0))
    else pure (ForInStep.yield (N0,r.snd.fst+1,0))
   else do
    let x ← ltAt' (lo+r.snd.fst-1) (lo+r.snd.fst)
    match x with
    | some larger=>
     if larger=T1 then pure (ForInStep.done (N0,r.snd.fst,r.snd.snd))
     else pure (ForInStep.yield (N0,r.snd.fst+1,r.snd.snd+1))
    | _=>pure (ForInStep.done (S5 N0,r.snd.fst,r.snd.snd))
  | _=>pure (ForInStep.done (S5 N0,r.snd.fst,r.snd.snd))
noncomputable def Zju (lo n nrem:Nat):StateT ag Sem (Option Nat):=do
 liftM (rule "list.sort.descending-run")
 let r ← Zgs lo (n+1) nrem
 match r.fst with
 | some r=>pure r
 | none=>
  if r.snd.snd>0 then do
   reverseSlice' (lo+r.snd.fst-(r.snd.snd+1)) (lo+r.snd.fst)
   Zmj lo r.snd.fst nrem
  else Zmj lo r.snd.fst nrem
namespace gz
def Sq_ (lo:Nat):Prop:=∀(nrem:Nat),countRun' lo nrem=(do
  let r ← Zh7 lo 1 nrem
  match r.fst with
  | some r=>pure r
  | none=>
   if (r.snd == nrem)=T1 then pure (S5 r.snd)
   else if r.snd>1 then do
    let x ← ltAt' lo (lo+r.snd-1)
    match x with
    | some rose => if rose = T1 then pure (S5 r.snd) else do
      reverseSlice' lo (lo+r.snd)
      Zju lo r.snd nrem
    | _=>pure N0
   else Zju lo r.snd nrem)
def Pq_ (pq_:Nat):Prop:=Sq_ pq_
def pq_:Nat:=Wo ⟨(0)⟩ Pq_
def lo:Nat:=pq_
theorem pfq_:Sq_ lo:=by
 intro nrem
 rw[countRun'_eq]
 refine congrArg (Zh7 lo 1 nrem >>= ·) (funext λr=>?_)
 refine byC λXX=>?_;obtain ⟨r,n⟩:=r;apply XX
 cases r with
 | some r=>rfl
 | none=>
  dsimp only
  obtain key : (do
    liftM (rule "list.sort.descending-run")
    let r ← Zgs lo (n+1) nrem
    match r.fst with
    | some r=>pure r
    | none=>
     if r.snd.snd>0 then do
      reverseSlice' (lo+r.snd.fst-(r.snd.snd+1)) (lo+r.snd.fst)
      reverseSlice' lo (lo+r.snd.fst)
      let r3 ← Zh7 lo r.snd.fst nrem
      match r3.fst with
      | some r=>pure r
      | none=>pure (S5 r3.snd)
     else do
      reverseSlice' lo (lo+r.snd.fst)
      let r3 ← Zh7 lo r.snd.fst nrem
      match r3.fst with
      | some r=>pure r
      | none=>pure (S5 r3.snd):StateT ag Sem (Option Nat))=Zju lo n nrem:=rfl
  split
  .rfl
  .split
   .congr 1
    funext x
    cases x with
    | none=>rfl
    | some rose=>
     dsimp only
     split
     .rfl
     .congr 1
      funext _u
      rw[← key]
      unfold Zgs Zh7
      congr 1;funext _u;congr 1;congr 1;funext s2;obtain ⟨r2,n2,q2⟩:=s2
      cases r2 with
      | some r2=>rfl
      | none=>
       dsimp only
       split
       .congr 1;funext _v;congr 1;funext _w;congr 1;funext s3;obtain ⟨r3,n3⟩:=s3;cases r3 <;> rfl
       .congr 1;funext _w;congr 1;funext s3;obtain ⟨r3,n3⟩:=s3;cases r3 <;> rfl
   .rw[← key]
    unfold Zgs Zh7
    congr 1;funext _u;congr 1;congr 1;funext s2;obtain ⟨r2,n2,q2⟩:=s2
    cases r2 with
    | some r2=>rfl
    | none=>
     dsimp only
     split
     .congr 1;funext _v;congr 1;funext _w;congr 1;funext s3;obtain ⟨r3,n3⟩:=s3;cases r3 <;> rfl
     .congr 1;funext _w;congr 1;funext s3;obtain ⟨r3,n3⟩:=s3;cases r3 <;> rfl
end gz
theorem Znt (lo:Nat):gz.Sq_ lo:=Yi (S:=gz.Pq_) gz.pfq_ (lo)
section
open SK
theorem SegS.snoc {xs:Array ai}{lo x:Nat}(hs:SegS key xs lo (lo+x))(hx:1<=x)(h:T3.le (KS key xs (lo+x-1)) (KS key xs (lo+x))=T1):SegS key xs lo (lo+(x+1)):=by
 intro i j hi hij hj
 by_cases hjx:j<lo+x
 .exact hs i j hi hij hjx
 .obtain hj':j=lo+x:=Nc 0x180512705152a970512cba101a11 Tt hj hjx
  subst hj'
  by_cases hi':i=lo+x
  .subst hi';exact Ww _
  .exact Yc (hs i (lo+x-1) hi (by exact Nd 0x160160523980523c1523acbba101001a101101ba011a011 Tt hij hi' (Zc _ _)) (by exact Nc 0x1705126a2c0512acba1001a1101 Tt hx (Zc _ _))) h
theorem SegD.snoc {xs:Array ai}{lo x:Nat}(hs:SegD key xs lo (lo+x))(hx:1<=x)(h:T3.le (KS key xs (lo+x)) (KS key xs (lo+x-1))=T1):SegD key xs lo (lo+(x+1)):=by
 intro i j hi hij hj
 by_cases hjx:j<lo+x
 .exact hs i j hi hij hjx
 .obtain hj':j=lo+x:=Nc 0x180512705152a970512cba101a11 Tt hj hjx
  subst hj'
  by_cases hi':i=lo+x
  .subst hi';exact Ww _
  .exact Yc h (hs i (lo+x-1) hi (by exact Nd 0x160160523980523c1523acbba101001a101101ba011a011 Tt hij hi' (Zc _ _)) (by exact Nc 0x1705126a2c0512acba1001a1101 Tt hx (Zc _ _)))
theorem Zjv {lo hi:Nat}{st0 st:ag}{a nrem:Nat}{Q:AscSt->ag->Prop}(hn:lo+nrem<=a₀.size)(ha:1<=a)(han:a<=nrem)(hB:SB a₀ κ lo hi st0 st)(hs:SegS key (arrOf st) lo (lo+a))
  (h:∀n,a<=n->n<=nrem->SegS key (arrOf st) lo (lo+n)->(n=nrem\/T3.le (KS key (arrOf st) (lo+n)) (KS key (arrOf st) (lo+n-1))=T1)->Q (N0,n) st) :
  wpS (model prog w) A E sK (Zh7 lo a nrem) Q st:=by
 unfold Zh7
 refine az (I:=λx c st'=>st'=st/\c=(N0,x)/\SegS key (arrOf st) lo (lo+x)) ?step ?fin ⟨rfl,rfl,hs⟩
 case fin=>
  intro c st' hX2
  refine byC λhnX=>?_
  obtain ⟨rfl,rfl,hs'⟩:=hX2
  apply hnX
  rw[show max a nrem=nrem by lia] at hs' ⊢
  exact h nrem han (Bp _) hs' (.inl rfl)
 case step=>
  intro x c st' hax hxn hX5
  refine byC λhnX=>?_
  obtain ⟨rfl,rfl,hs'⟩:=hX5
  apply hnX
  skip
  refine ah (Zfh hB (Nd 0x17501265032713c111 Tt hn hxn) (by exact Ni 0x170165231743c0524acba11101a11101 Tt hn hxn (Zc _ _)) ?_)
  cases hless:T3.le (KS key (arrOf st') (lo+x-1)) (KS key (arrOf st') (lo+x))
  case false=>
   simp only[G6,if_true]
   exact ao (h x hax (Nb 0x1601701c11 Tt hxn) hs' (.inr (Y7 hless)))
  case true=>
   simp only[Dm,Bu,if_false]
   exact ao ⟨rfl,rfl,hs'.snoc (Nb 0x16a06a1610c111 Tt ha hax) hless⟩
theorem Zgt {lo:Nat}{st0 st:ag}{n nrem:Nat}{Q:Option Nat->ag->Prop}(hn:lo+nrem<=a₀.size)(h1:1<=n)(hnn:n<=nrem)(hB:SB a₀ κ lo (lo+nrem) st0 st)
  (hs:SegD key (arrOf st) lo (lo+n)) (h:∀m st',SB a₀ κ lo (lo+nrem) st0 st'->gallopOf st'=gallopOf st->1<=m->m<=nrem->SegS key (arrOf st') lo (lo+m)->Q (S5 m) st') :
  wpS (model prog w) A E sK (Zmj lo n nrem) Q st:=by
 unfold Zmj
 obtain hsz:lo+n<=(arrOf st).size:=by rw[hB.size];exact Nd 0x16501265032613c111 Tt hn hnn
 refine ah (d8 ?_)
 obtain hB':=hB.mirror (i:=lo) (j:=lo+n) (Bp _) (Nc 0x16501502612c11 Tt hnn) hn
 refine ah (Zjv hn h1 hnn hB' ?_ λm hm1 hm2 hsm u_=>ao (h m _ hB' rfl (Nb 0x16a06a1610c111 Tt h1 hm1) hm2 hsm))
 intro i j hi hij hj
 show T3.le (KS key (mirror (arrOf st) lo (lo+n) ((lo+n-lo) / 2)) i) (KS key (mirror (arrOf st) lo (lo+n) ((lo+n-lo) / 2)) j)=T1
 rw[Zdn hsz,Zdn hsz,gp (by exact Nd 0x1f6017150260161373502cba11a1011 Tt hi hij hj),gp (by exact Nd 0x1f6017150260363171502cba111a1001 Tt hi hij hj)]
 exact hs _ _ (by exact Ni 0x160172503c142c450503acbba11001001a11001101ba11101001a11101101 Tt hj (Zc _ _) (Zc _ _)) (by exact Ni 0x1601623c142c043cbba1100101a1010101ba1110101a1000101 Tt hij (Zc _ _) (Zc _ _)) (by exact Nf 0x17051261374512c01d3c1d51512acbba11001001a11101001ba2000201a10101 Tt hi hj (Zc _ _) (Zc _ _))
theorem Znu {lo:Nat}{st0 st:ag}{n nrem:Nat}{Q:DescSt->ag->Prop}(hn:lo+nrem<=a₀.size)(h1:1<=n)(hnn:n<=nrem)(hB:SB a₀ κ lo (lo+nrem) st0 st)(hs:SegD key (arrOf st) lo (lo+n))
  (h:∀m neq st',SB a₀ κ lo (lo+nrem) st0 st'->gallopOf st'=gallopOf st->n<=m->m<=nrem->SegD key (arrOf st') lo (lo+m)->neq+1<=m->(∀i,lo+m-(neq+1)<=i->i<lo+m->KS key (arrOf st') i=KS key (arrOf st') (lo+m-1))->Q (N0,m,neq) st') :
  wpS (model prog w) A E sK (Zgs lo n nrem) Q st:=by
 unfold Zgs
 refine az (I := λx c st' => ∃ neq, c = (N0, x, neq) /\ SB a₀ κ lo (lo + nrem) st0 st' /\ gallopOf st' = gallopOf st /\ SegD key (arrOf st') lo (lo + x) /\ neq + 1 <= x /\
   (∀i,lo+x-(neq+1)<=i->i<lo+x->KS key (arrOf st') i=KS key (arrOf st') (lo+x-1))) ?step ?fin ⟨0,rfl,hB,rfl,hs,Na 0x165ba06a0c11 Tt h1,λi h1 h2=>by congr 1;exact Nd 0x180161070523c15235bacbba11a11ba101001a101101 Tt h1 h2 (Zc _ _)⟩
 case fin=>
  intro c st' hX2
  refine byC λhnX=>?_
  obtain ⟨neq,rfl,hB',hg,hs',hq,he⟩:=hX2
  apply hnX
  rw[show max n nrem=nrem by lia] at hs' hq he ⊢
  exact h nrem neq st' hB' hg hnn (Bp _) hs' hq he
 case step=>
  intro x c st' hax hxn hX5
  refine byC λhnX=>?_
  obtain ⟨neq,rfl,hB',hg,hs',hq,he⟩:=hX5
  apply hnX
  dsimp only
  obtain hsz:lo+x<=(arrOf st').size:=by rw[hB'.size];exact Nd 0x16501265032713c111 Tt hn hxn
  refine ah (Zfh hB' (Nd 0x17501265032713c111 Tt hn hxn) (by exact Ni 0x170165231743c0524acba11101a11101 Tt hn hxn (Zc _ _)) ?_)
  cases hless:T3.le (KS key (arrOf st') (lo+x-1)) (KS key (arrOf st') (lo+x))
  case false=>
   simp only[G6,if_true]
   obtain hsn:=hs'.snoc (Nb 0x16a06a1610c111 Tt h1 hax) (Y7 hless)
   by_cases hneq:neq>0
   .rw[gp hneq]
    refine ah (d8 (ao ⟨0,rfl,hB'.mirror (by exact Nd 0x1601652a3c150352acba11001a11101 Tt hq (Zc _ _)) (Nc 0x16501502712c11 Tt hxn) hn,hg,λi j hi hij hj=>?_,Na 0x165ba50ac1 Tt,λi h1 h2=>by congr 1;exact Nd 0x1801610705253ac15253a5bacbba11a11ba101001a101101 Tt h1 h2 (Zc _ _)⟩))
    show T3.le (KS key (mirror (arrOf st') _ _ _) j) (KS key (mirror (arrOf st') _ _ _) i)=T1
    rw[Jg hsz he,Jg hsz he]
    exact hsn i j hi hij hj
   .rw[gq hneq]
    exact ao ⟨0,rfl,hB',hg,hsn,Na 0x165ba50ac1 Tt,λi h1 h2=>by congr 1;exact Nd 0x1801610705253ac15253a5bacbba11a11ba101001a101101 Tt h1 h2 (Zc _ _)⟩
  case true=>
   simp only[Dm,Bu,if_false]
   refine ah (Zfh hB' (by exact Ni 0x170165231743c0524acba11101a11101 Tt hn hxn (Zc _ _)) (Nd 0x17501265032713c111 Tt hn hxn) ?_)
   cases hlarger:T3.le (KS key (arrOf st') (lo+x)) (KS key (arrOf st') (lo+x-1))
   case false=>
    simp only[G6,if_true]
    exact ao (h x neq st' hB' hg hax (Nb 0x1601701c11 Tt hxn) hs' hq he)
   case true=>
    simp only[Dm,Bu,if_false]
    obtain heqx:KS key (arrOf st') (lo+x)=KS key (arrOf st') (lo+x-1):=Zaj hlarger hless
    refine ao ⟨neq+1,rfl,hB',hg,hs'.snoc (Nb 0x16a06a1610c111 Tt h1 hax) hlarger,Nb 0x16550aa51a650a1c11 Tt hq,λi h1 h2=>?_⟩
    rw[show lo+(x+1)-1=lo+x by exact Nc 0x180512c05152aacbba1001a1101ba101a101 Tt (Zc _ _)]
    by_cases hix:i=lo+x
    .subst hix;rfl
    .rw[heqx];exact he i (by exact Nf 0x1601621c25451da553aac0541d53acbba1100101a1110101ba1110101a1100101 Tt h1 (Zc _ _) (Zc _ _)) (by exact Nc 0x170512705152a980512cba101a011 Tt h2 hix)
theorem Zgu {lo:Nat}{st0 st:ag}{n nrem:Nat}{Q:Option Nat->ag->Prop}(hn:lo+nrem<=a₀.size)(hnn:n+1<=nrem)(hB:SB a₀ κ lo (lo+nrem) st0 st)
  (hs:SegD key (arrOf st) lo (lo+(n+1))) (h:∀m st',SB a₀ κ lo (lo+nrem) st0 st'->gallopOf st'=gallopOf st->1<=m->m<=nrem->SegS key (arrOf st') lo (lo+m)->Q (S5 m) st') :
  wpS (model prog w) A E sK (Zju lo n nrem) Q st:=by
 unfold Zju
 refine ah (cb (br ⟨rfl,?_⟩))
 refine ah (Znu hn (Na 0x16a50ac1 Tt) hnn hB hs λm neq st' hB' hg hm1 hm2 hs' hq he=>?_)
 dsimp only
 obtain hsz:lo+m<=(arrOf st').size:=by rw[hB'.size];exact Nd 0x16501265032613c111 Tt hn hm2
 by_cases hneq:neq>0
 .rw[gp hneq]
  refine ah (d8 (Zgt hn (Nb 0x16a0651a0c11 Tt hq) hm2 (hB'.mirror (by exact Nd 0x1601652a3c150352acba11001a11101 Tt hq (Zc _ _)) (Nc 0x16501502612c11 Tt hm2) hn) ?_ λm' st2 g1 g2=>h m' st2 g1 (g2.trans hg)))
  intro i j hi hij hj
  show T3.le (KS key (mirror (arrOf st') _ _ _) j) (KS key (mirror (arrOf st') _ _ _) i)=T1
  rw[Jg hsz he,Jg hsz he]
  exact hs' i j hi hij hj
 .rw[gq hneq]
  exact Zgt hn (Nb 0x16a0651a0c11 Tt hm1) hm2 hB' hs' λm' st2 g1 g2=>h m' st2 g1 (g2.trans hg)
theorem Znv {lo:Nat}{st:ag}{nrem:Nat}{Q:Option Nat->ag->Prop}(hn:lo+nrem<=a₀.size)(h1:1<=nrem)(hB:SB a₀ κ lo (lo+nrem) st st)
  (h:∀m st',SB a₀ κ lo (lo+nrem) st st'->gallopOf st'=gallopOf st->1<=m->m<=nrem->SegS key (arrOf st') lo (lo+m)->Q (S5 m) st') :
  wpS (model prog w) A E sK (countRun' lo nrem) Q st:=by
 rw[Znt]
 refine ah (Zjv hn (Bp 1) h1 hB (λi j hi hij hj=>by obtain this:i=j:=(Nc 0x18016206017152acba1101a101 Tt hi hij hj);subst this;exact Ww _) λn hn1 hn2 hsn hor=>?_)
 skip
 by_cases hnn:n=nrem
 .rw[gp (by simpa using hnn)]
  exact ao (h n st hB rfl hn1 hn2 hsn)
 .rw[gq (by simpa using hnn)]
  obtain hlt:=hor.resolve_left hnn
  by_cases hgt:n>1
  .rw[gp hgt]
   refine ah (Zfh hB (Nc 0x1701650216a2c111 Tt hn h1) (by exact Ni 0x1701652316a3643c0524acba110101a111001 Tt hn h1 hn2 (Zc _ _)) ?_)
   cases hrose:T3.le (KS key (arrOf st) (lo+n-1)) (KS key (arrOf st) lo)
   case false=>
    simp only[G6,if_true]
    exact ao (h n st hB rfl hn1 hn2 hsn)
   case true=>
    simp only[Dm,Bu,if_false]
    obtain hsz:lo+n<=(arrOf st).size:=by rw[hB.size];exact Nd 0x16501265032613c111 Tt hn hn2
    have hall:∀k,lo<=k->k<lo+n->KS key (arrOf st) k=KS key (arrOf st) (lo+n-1):=by
     intro k hk1 hk
     obtain a1:=hsn lo k (Bp _) hk1 hk
     obtain a2:=hsn k (lo+n-1) hk1 (by exact Nd 0x160170523c1523acba11001a11101 Tt hk (Zc _ _)) (by exact Nc 0x1705127a2c0512acba1001a1101 Tt hgt (Zc _ _))
     exact Zaj a2 (Yc hrose a1)
    obtain hD:SegD key (arrOf st) lo (lo+(n+1)):=by
     refine SegD.snoc (λi j hi hij hj=>?_) (Na 0x16a06a0c11 Tt hn1) hlt
     rw[hall i hi (by exact Nd 0x17051260373512c111 Tt hij hj),hall j (by exact Nc 0x1601602621c111 Tt hi hij) hj];exact Ww _
    refine ah (d8 (Zgu hn (Nb 0x1650a16019801cba101a011 Tt hn2 hnn) (hB.mirror (Bp _) (Nc 0x16501502612c11 Tt hn2) hn) ?_ λm' st2 g1 g2=>h m' st2 g1 g2))
    intro i j hi hij hj
    show T3.le (KS key (mirror (arrOf st) _ _ _) j) (KS key (mirror (arrOf st) _ _ _) i)=T1
    rw[Jg hsz hall,Jg hsz hall]
    exact hD i j hi hij hj
  .rw[gq hgt]
   obtain hn1':n=1:=Na 0x180a6a097a0cba11a101 Tt hn1 hgt
   subst hn1'
   refine Zgu hn (by lia) hB (SegD.snoc (λi j hi hij hj=>?_) (by lia) hlt) h
   obtain this:i=j:=by lia
   subst this;exact Ww _
end
noncomputable def U8:Bool->ai->Array ai->Nat->Nat->Nat->StateT ag Sem (Option Nat):=sortPriv% PySem.Builtin.gallop
theorem Zlb (left:Bool)(key:ai)(arr:Array ai)(base n Yy:Nat):U8 left key arr base n Yy=(do
 let beyond (i:Nat):StateT ag Sem (Option Bool):=do
  let x ← elem' arr (base+i)
  if left then lt' x key else return (← lt' key x).map (!·)
 let mut lastofs:=0
 let mut ofs:=1
 let mut lo:=0
 let mut hi:=0
 let S5 right ← beyond Yy | return N0
 if right then
  let maxofs:=n-Yy
  for _ in [0:n] do
   if ofs ≥ maxofs then break
   let S5 more ← beyond (Yy+ofs) | return N0
   if !more then break
   lastofs:=ofs
   ofs:=2*ofs+1
  lo:=Yy+lastofs+1
  hi:=Yy+min ofs maxofs
 else
  let maxofs:=Yy+1
  for _ in [0:n] do
   if ofs ≥ maxofs then break
   let S5 found ← beyond (Yy-ofs) | return N0
   if found then break
   lastofs:=ofs
   ofs:=2*ofs+1
  lo:=Yy+1-min ofs maxofs
  hi:=Yy-lastofs
 for _ in [0:n] do
  if lo ≥ hi then break
  let m:=lo+(hi-lo) / 2
  let S5 more ← beyond m | return N0
  if more then lo:=m+1 else hi:=m
 return S5 hi):=rfl
noncomputable def Zh8 (beyond:Nat->StateT ag Sem (Option Bool))(n Yy:Nat):StateT ag Sem (Option Nat):=do
 let mut lastofs:=0
 let mut ofs:=1
 let mut lo:=0
 let mut hi:=0
 let S5 right ← beyond Yy | return N0
 if right then
  let maxofs:=n-Yy
  for _ in [0:n] do
   if ofs ≥ maxofs then break
   let S5 more ← beyond (Yy+ofs) | return N0
   if !more then break
   lastofs:=ofs
   ofs:=2*ofs+1
  lo:=Yy+lastofs+1
  hi:=Yy+min ofs maxofs
 else
  let maxofs:=Yy+1
  for _ in [0:n] do
   if ofs ≥ maxofs then break
   let S5 found ← beyond (Yy-ofs) | return N0
   if found then break
   lastofs:=ofs
   ofs:=2*ofs+1
  lo:=Yy+1-min ofs maxofs
  hi:=Yy-lastofs
 for _ in [0:n] do
  if lo ≥ hi then break
  let m:=lo+(hi-lo) / 2
  let S5 more ← beyond m | return N0
  if more then lo:=m+1 else hi:=m
 return S5 hi
noncomputable def Zel (beyond:Nat->StateT ag Sem (Option Bool))(n lo hi:Nat):StateT ag Sem (Option Nat):=do
 let mut lo:=lo
 let mut hi:=hi
 for _ in [0:n] do
  if lo ≥ hi then break
  let m:=lo+(hi-lo) / 2
  let S5 more ← beyond m | return N0
  if more then lo:=m+1 else hi:=m
 return S5 hi
section
open SK
namespace jk
def Sq_ (n:Nat)(lo:Nat)(hi:Nat)(P:Nat->Bool)(st:ag)(Q:Option Nat->ag->Prop):Prop:=∀{beyond:Nat->StateT ag Sem (Option Bool)} (hb:∀i,i<n->∀(Q:Option Bool->ag->Prop),Q (S5 (P i)) st->wpS (model prog w) A E sK (beyond i) Q st) (hm:∀i j,i<=j->j<n->P j=T1->P i=T1) (h1:lo<=hi) (h2:hi<=n) (hT:∀i,i<lo->P i=T1) (hF:∀i,hi<=i->i<n->P i=F0) (h:∀k,k<=n->(∀i,i<k->P i=T1)->(∀i,k<=i->i<n->P i=F0)->Q (S5 k) st),wpS (model prog w) A E sK (Zel beyond n lo hi) Q st
def pq_:=Wo ⟨(0,0,0,(λu_=>F0),(ag.mk' oneType' #[] #[] 7 N0),(λu_ v_=>True))⟩ (uc6 Sq_)
def n:=pq_.1
def lo:=pq_.2.1
def hi:=pq_.2.2.1
def P:=pq_.2.2.2.1
def st:=(sk4 pq_).1
def Q:=(sk4 pq_).2
theorem pfq_:Sq_ n lo hi P st Q:=by
 intro beyond hb hm h1 h2 hT hF h
 unfold Zel
 refine ah (bg (az (I:=λx c st'=>st'=st/\∃l r,c=(N0,l,r)/\l<=r/\r<=n/\r-l<=n-x/\(∀i,i<l->P i=T1)/\(∀i,r<=i->i<n->P i=F0))
  (Q:=λc st'=>st'=st/\∃k,c=(N0,k,k)/\k<=n/\(∀i,i<k->P i=T1)/\(∀i,k<=i->i<n->P i=F0)) ?step ?fin ⟨rfl,lo,hi,rfl,h1,h2,by exact Nd 0x1601621c023cba1101a1101 Tt h2 (Zc _ _),hT,hF⟩) ?post)
 case post=>
  intro c st' hX2
  refine byC λhnX=>?_
  obtain ⟨rfl,k,rfl,hk,g1,g2⟩:=hX2
  apply hnX
  exact ao (h k hk g1 g2)
 case fin=>
  intro c st' hX2
  refine byC λhnX=>?_
  obtain ⟨rfl,l,r,rfl,g1,g2,g3,g4,g5⟩:=hX2
  apply hnX
  have:l=r:=by exact Ni 0x1801601623c344c210cbbba101010001a1000001ba101010001a1000001bba11a11ba11a11 Tt g1 g3 (Zc _ _) (Zc _ _)
  subst this
  exact ⟨rfl,l,rfl,g2,g4,g5⟩
 case step=>
  intro x c st' u_ hx hX5
  refine byC λhnX=>?_
  obtain ⟨rfl,l,r,rfl,g1,g2,g3,g4,g5⟩:=hX5
  apply hnX
  dsimp only
  by_cases hge:l ≥ r
  .rw[gp hge]
   obtain this:l=r:=by exact Nb 0x1801601610cba101a11 Tt g1 hge
   subst this
   exact ao ⟨rfl,l,rfl,g2,g4,g5⟩
  .rw[gq hge]
   refine ah (hb _ (by exact Ni 0x1750126329630f628d1474528d121ec430cba2211001a001001 Tt g2 hge (Wa _ 2 (by decide)) (Zc _ _)) _ ?_)
   cases hp:P (l+(r-l) / 2) with
   | true=>
    simp only[if_true]
    exact ao ⟨rfl,_,r,rfl,by exact Nd 0x165501a29620f628d1373528d121ec320cba211001a01001 Tt hge (Wa _ 2 (by decide)) (Zc _ _),g2,ar6 _ g3,λi hi=>hm i _ (by exact Nc 0x160512705512ac11 Tt hi) (by exact Ni 0x1750126329630f628d1474528d121ec430cba2211001a001001 Tt g2 hge (Wa _ 2 (by decide)) (Zc _ _)) hp,g5⟩
   | false=>
    simp only[Bu,if_false]
    refine ao ⟨rfl,l,_,rfl,by exact Nb 0x160501c1 Tt,by exact Ni 0x1650126329630f628d1474528d121ec430cba2211001a001001 Tt g2 hge (Wa _ 2 (by decide)) (Zc _ _),by exact Nh 0x1601623f628d4272528d421ec32d1dc12d51dac053d43dcbbba211001010202a100000010101ba211001010202a100000000101bba00001001a00001001ba211001000202a100000000101 Tt g3 (Wa _ 2 (by decide)) (Zc _ _) (Zc _ _) (Zc _ _),g4,λi h1 h2=>?_⟩
    cases hq:P i with
    | false=>rfl
    | true=>rw[hm _ i h1 h2 hq] at hp;cases hp
end jk
theorem Zfi {n:Nat}{lo:Nat}{hi:Nat}{P:Nat->Bool}{st:ag}{Q:Option Nat->ag->Prop}:jk.Sq_ n lo hi P st Q:=Yi (S:=uc6 jk.Sq_) jk.pfq_ (n,lo,hi,P,st,Q)
namespace jl
def Sq_ (n:Nat)(Yy:Nat)(Q:Option Nat->ag->Prop):Prop:=∀{beyond:Nat->StateT ag Sem (Option Bool)}{P:Nat->Bool}{st:ag} (hb:∀i,i<n->∀(Q:Option Bool->ag->Prop),Q (S5 (P i)) st->wpS (model prog w) A E sK (beyond i) Q st) (hm:∀i j,i<=j->j<n->P j=T1->P i=T1) (hh:Yy<n) (h:∀k,k<=n->(∀i,i<k->P i=T1)->(∀i,k<=i->i<n->P i=F0)->Q (S5 k) st),wpS (model prog w) A E sK (Zh8 beyond n Yy) Q st
def pq_:=Wo ⟨(0,0,(λu_ v_=>True))⟩ (uc3 Sq_)
def n:=pq_.1
def Yy:=pq_.2.1
def Q:=pq_.2.2
theorem pfq_:Sq_ n Yy Q:=by
 intro beyond P st hb hm hh h
 have hmF:∀i j,i<=j->j<n->P i=F0->P j=F0:=λi j h1 h2 h3=>by
  cases hq:P j with
  | false=>rfl
  | true=>rw[hm i j h1 h2 hq] at h3;cases h3
 unfold Zh8
 refine ah (hb Yy hh _ ?_)
 skip
 cases hr:P Yy with
 | true=>
  simp only[if_true]
  refine ah (bg (az (I:=λx c st'=>st'=st/\∃l o,c=(N0,l,o)/\l<o/\x+1<=o/\Yy+l<n/\P (Yy+l)=T1)
   (Q:=λc st'=>st'=st/\∃l o,c=(N0,l,o)/\l<o/\Yy+l<n/\P (Yy+l)=T1/\(o ≥ n-Yy\/(Yy+o<n/\P (Yy+o)=F0))) ?step ?fin ⟨rfl,0,1,rfl,Na 0x17bac1 Tt (x:=0),Na 0x165baac1 Tt (x:=0),Nb 0x1750b1701c11 Tt hh,hr⟩) ?post)
  case fin=>
   intro c st' hX2
   refine byC λhnX=>?_
   obtain ⟨rfl,l,o,rfl,g1,g2,g3,g4⟩:=hX2
   apply hnX
   exact ⟨rfl,l,o,rfl,g1,g3,g4,.inl (by exact Nd 0x1601652a1c023cba1101a1101 Tt g2 (Zc _ _))⟩
  case step=>
   intro x c st' u_ hx hX5
   refine byC λhnX=>?_
   obtain ⟨rfl,l,o,rfl,g1,g2,g3,g4⟩:=hX5
   apply hnX
   dsimp only
   by_cases hge:o ≥ n-Yy
   .rw[gp hge];exact ao ⟨rfl,l,o,rfl,g1,g3,g4,.inl hge⟩
   .rw[gq hge]
    refine ah (hb _ (by exact Nd 0x1750129631c320cba1101a0101 Tt hge (Zc _ _)) _ ?_)
    cases hp:P (Yy+o) with
    | true=>
     simp only[Dm,Bu,if_false]
     exact ao ⟨rfl,o,2*o+1,rfl,by exact Na 0x170528d0ac1 Tt,by exact Nb 0x16550aa528d1a650a1c12 Tt g2,by exact Nd 0x1750129631c320cba1101a0101 Tt hge (Zc _ _),hp⟩
    | false=>
     simp only[G6,if_true]
     exact ao ⟨rfl,l,o,rfl,g1,g3,g4,.inr ⟨by exact Nd 0x1750129631c320cba1101a0101 Tt hge (Zc _ _),hp⟩⟩
  case post=>
   intro c st' hX2
   refine byC λhnX=>?_
   obtain ⟨rfl,l,o,rfl,g1,g2,g3,g4⟩:=hX2
   apply hnX
   show wpS _ _ _ _ (Zel beyond n (Yy+l+1) (Yy+min o (n-Yy))) Q st'
   refine Zfi hb hm (by exact Nf 0x165501a50271375014ad231dc1d40cbba110001a110001ba101001001a101001101 Tt g1 g2 (Ys _ _) (Zc _ _)) (by exact Ni 0x165012702ad134c420cbba1011001a010001ba1001001a010001 Tt hh (Ys _ _) (Zc _ _)) (λi hi=>hm i _ (by exact Nc 0x160512705512ac11 Tt hi) g2 g3) (λi h1 h2=>?_) h
   rcases g4 with g4 | ⟨g4,g5⟩
   .rw[I2 g4,Nat.add_sub_cancel' (C1 hh)] at h1;exact absurd h2 (Il.mpr h1)
   .exact hmF _ i (by exact Nf 0x1650126503275014ad311dc1d40cbba110001a110001ba111001001a111001101 Tt h1 g4 (Ys _ _) (Zc _ _)) h2 g5
 | false=>
  simp only[Bu,if_false]
  refine ah (bg (az (I:=λx c st'=>st'=st/\∃l o,c=(N0,l,o)/\l<o/\x+1<=o/\l<=Yy/\P (Yy-l)=F0)
   (Q:=λc st'=>st'=st/\∃l o,c=(N0,l,o)/\l<o/\l<=Yy/\P (Yy-l)=F0/\(o ≥ Yy+1\/(o<=Yy/\P (Yy-o)=T1))) ?step ?fin ⟨rfl,0,1,rfl,Na 0x17bac1 Tt (x:=0),Na 0x165baac1 Tt (x:=0),Na 0x16b0c1 Tt,hr⟩) ?post)
  case fin=>
   intro c st' hX2
   refine byC λhnX=>?_
   obtain ⟨rfl,l,o,rfl,g1,g2,g3,g4⟩:=hX2
   apply hnX
   exact ⟨rfl,l,o,rfl,g1,g3,g4,.inl (Nc 0x1650a1702652a1c111 Tt hh g2)⟩
  case step=>
   intro x c st' u_ hx hX5
   refine byC λhnX=>?_
   obtain ⟨rfl,l,o,rfl,g1,g2,g3,g4⟩:=hX5
   apply hnX
   skip
   by_cases hge:o ≥ Yy+1
   .rw[gp hge];exact ao ⟨rfl,l,o,rfl,g1,g3,g4,.inl hge⟩
   .rw[gq hge]
    refine ah (hb _ (by exact Nd 0x1701721c023cba1101a1101 Tt hh (Zc _ _)) _ ?_)
    cases hp:P (Yy-o) with
    | true=>
     simp only[if_true]
     exact ao ⟨rfl,l,o,rfl,g1,g3,g4,.inr ⟨Nb 0x16019651a0c11 Tt hge,hp⟩⟩
    | false=>
     simp only[Bu,if_false]
     exact ao ⟨rfl,o,2*o+1,rfl,by exact Na 0x170528d0ac1 Tt,by exact Nb 0x16550aa528d1a650a1c12 Tt g2,Nb 0x16019651a0c11 Tt hge,hp⟩
  case post=>
   intro c st' hX2
   refine byC λhnX=>?_
   obtain ⟨rfl,l,o,rfl,g1,g2,g3,g4⟩:=hX2
   apply hnX
   show wpS _ _ _ _ (Zel beyond n (Yy+1-min o (Yy+1)) (Yy-l)) Q st'
   refine Zfi hb hm (by exact Nf 0x1601723c142c054a1dad1d354acbbba11001010001a10101010001ba1010101a1010101bba11101010001a10001010001ba1000101a1000101 Tt g1 (Zc _ _) (Zc _ _) (Ys _ _)) (by exact Nd 0x1601721c023cba1101a1101 Tt hh (Zc _ _)) (λi hi=>?_) (λi h1 h2=>hmF _ i h1 h2 g3) h
   rcases g4 with g4 | ⟨g4,g5⟩
   .rw[I2 g4,Kl] at hi;exact absurd hi (Da i)
   .exact hm i _ (by exact Nf 0x1601702c254a3ad31d54ac141dcbbba11010001001a11010001101ba000001001a11010001001bba001000101a11010000001ba000001001a11010000001 Tt hi (Zc _ _) (Ys _ _) (Zc _ _)) (by exact Nd 0x1701721c023cba1101a1101 Tt hh (Zc _ _)) g5
end jl
theorem Zjw {n:Nat}{Yy:Nat}{Q:Option Nat->ag->Prop}:jl.Sq_ n Yy Q:=Yi (S:=uc3 jl.Sq_) jl.pfq_ (n,Yy,Q)
theorem W9 {left:Bool}{x:ai}{arr:Array ai}{base n Yy:Nat}{st:ag}{Q:Option Nat->ag->Prop}(hk:kindOf st=κ)(hx:x∈a₀.toList)(ha:∀i (hi:i<arr.size),arr[i]∈a₀.toList)(hn:base+n<=arr.size)(hs:SegS key arr base (base+n))(hh:Yy<n)
  (h:∀k,k<=n->(∀i,i<k->(if left then !T3.le (key x) (KS key arr (base+i)) else T3.le (KS key arr (base+i)) (key x))=T1)->(∀i,k<=i->i<n->(if left then !T3.le (key x) (KS key arr (base+i)) else T3.le (KS key arr (base+i)) (key x))=F0)->Q (S5 k) st) :
  wpS (model prog w) A E sK (U8 left x arr base n Yy) Q st:=by
 rw[Zlb]
 show wpS _ _ _ _ (Zh8 (λi=>do
  let y ← elem' arr (base+i)
  if left then lt' y x else return (← lt' x y).map (!·)) n Yy) Q st
 refine Zjw (P:=λi=>if left then !T3.le (key x) (KS key arr (base+i)) else T3.le (KS key arr (base+i)) (key x)) (λi hi Q' hq=>?_) (λi j hij hj hp=>?_) hh h
 .have hi':base+i<arr.size:=Nd 0x17501265032713c111 Tt hn hi
  refine ah (Ym hi' ?_)
  rw[Yz hi'] at hq
  cases left with
  | true=>
   simp only[if_true] at hq ⊢
   exact HL _ _ (ha _ hi') hx st Q' hk hq
  | false=>
   simp only[Bu,if_false] at hq ⊢
   refine ah (HL _ _ hx (ha _ hi') st _ hk ?_)
   refine ao ?_
   simpa using hq
 .obtain hle:=hs (base+i) (base+j) (by exact Nb 0x160501c1 Tt) (Nc 0x16501502612c11 Tt hij) (Nc 0x17501502712c11 Tt hj)
  cases left with
  | true=>
   simp only[if_true,D7] at hp ⊢
   cases hq:T3.le (key x) (KS key arr (base+i)) with
   | false=>rfl
   | true=>rw[Yc hq hle] at hp;cases hp
  | false=>
   simp only[Bu,if_false] at hp ⊢
   exact Yc hle hp
end
noncomputable abbrev Zpv (st:ag)(g:Nat):ag:=ag.mk' (kindOf st) (arrOf st) (pendingOf st) g (failedOf st)
noncomputable def Zfj:Array ai->Array ai->StateT ag Sem (Array ai):=sortPriv% PySem.Builtin.mergeLo
noncomputable def Zfk:Array ai->Array ai->StateT ag Sem (Array ai):=sortPriv% PySem.Builtin.mergeHi
noncomputable def Jl:Nat->StateT ag Sem Unit:=sortPriv% PySem.Builtin.setMinGallop
theorem Ur (g:Nat):Jl g=modify λs=>Zpv s g:=rfl
theorem Zjx (a b:Array ai):Zfj a b=(do
 rule "list.sort.merge-lo"
 let total:=a.size+b.size
 let done (out:Array ai) (ia ib:Nat):=out++a.extract ia a.size++b.extract ib b.size
 let lastOfA (out:Array ai) (ia ib:Nat):=out++b.extract ib b.size++a.extract ia a.size
 let mut out:Array ai:=#[← elem' b 0]
 let mut ia:=0
 let mut ib:=1
 if ib == b.size then return done out ia ib
 if ia+1 == a.size then return lastOfA out ia ib
 let mut minGallop:=gallopOf (← get)
 for _ in [0:total] do
  let mut acount:=0
  let mut bcount:=0
  for _ in [0:total] do
   let S5 bWins ← lt' (← elem' b ib) (← elem' a ia) | return done out ia ib
   if bWins then
    out:=out.push (← elem' b ib);ib:=ib+1;bcount:=bcount+1;acount:=0
    if ib == b.size then return done out ia ib
    if bcount ≥ minGallop then break
   else
    out:=out.push (← elem' a ia);ia:=ia+1;acount:=acount+1;bcount:=0
    if ia+1 == a.size then return lastOfA out ia ib
    if acount ≥ minGallop then break
  rule "list.sort.gallop"
  minGallop:=minGallop+1
  for _ in [0:total] do
   if minGallop>1 then minGallop:=minGallop-1
   Jl minGallop
   let S5 k ← U8 F0 (← elem' b ib) a ia (a.size-ia) 0 | return done out ia ib
   acount:=k
   if k>0 then
    out:=out++a.extract ia (ia+k);ia:=ia+k
    if ia+1 == a.size then return lastOfA out ia ib
    if ia == a.size then return done out ia ib
   out:=out.push (← elem' b ib);ib:=ib+1
   if ib == b.size then return done out ia ib
   let S5 k ← U8 T1 (← elem' a ia) b ib (b.size-ib) 0 | return done out ia ib
   bcount:=k
   if k>0 then
    out:=out++b.extract ib (ib+k);ib:=ib+k
    if ib == b.size then return done out ia ib
   out:=out.push (← elem' a ia);ia:=ia+1
   if ia+1 == a.size then return lastOfA out ia ib
   if acount<7&&bcount<7 then break
  minGallop:=minGallop+1
  Jl minGallop
 unsupported "internal:list.sort.merge-bound"):=rfl
def Srt (key:ai->T3)(l:List ai):Prop:=l.Pairwise λx y=>T3.le (key x) (key y)=T1
def Leq (key:ai->T3)(l r:List ai):Prop:=∀x∈l,∀y∈r,T3.le (key x) (key y)=T1
section
open SK
theorem Srt.app {l r:List ai}(h1:Srt key l)(h2:Srt key r)(h:Leq key l r):Srt key (l++r):=I9.mpr ⟨h1,h2,h⟩
theorem Srt.cut {l r:List ai}(h:Srt key (l++r)):Srt key l/\Srt key r/\Leq key l r:=I9.mp h
structure MI (key:ai->T3)(T out ra rb:List ai):Prop where
 perm:(out++(ra++rb)).Perm T
 so:Srt key out
 sa:Srt key ra
 sb:Srt key rb
 la:Leq key out ra
 lb:Leq key out rb
theorem MI.takeA {T out u ra rb:List ai}(h:MI key T out (u++ra) rb)(hu:Leq key u rb):MI key T (out++u) ra rb:=by
 refine byC λXX=>?_;obtain ⟨s1,s2,s3⟩:=h.sa.cut;apply XX
 refine ⟨by simpa[Bn] using h.perm,h.so.app s1 λx hx y hy=>h.la x hx y (C7 _ hy),s2,h.sb,λx hx y hy=>?_,λx hx y hy=>?_⟩
 .rcases Bm.mp hx with hx | hx
  .exact h.la x hx y (Ce _ hy)
  .exact s3 x hx y hy
 .rcases Bm.mp hx with hx | hx
  .exact h.lb x hx y hy
  .exact hu x hx y hy
theorem MI.takeB {T out u ra rb:List ai}(h:MI key T out ra (u++rb))(hu:Leq key u ra):MI key T (out++u) ra rb:=by
 refine byC λXX=>?_;obtain ⟨s1,s2,s3⟩:=h.sb.cut;apply XX
 refine ⟨Gf.trans ?_ h.perm,h.so.app s1 λx hx y hy=>h.lb x hx y (C7 _ hy),h.sa,s2,λx hx y hy=>?_,λx hx y hy=>?_⟩
 .rw[Bn]
  exact Gf.append_left _ (by
   rw[← Bn,← Bn]
   exact Gf.append_right _ Ku)
 .rcases Bm.mp hx with hx | hx
  .exact h.la x hx y hy
  .exact hu x hx y hy
 .rcases Bm.mp hx with hx | hx
  .exact h.lb x hx y (Ce _ hy)
  .exact s3 x hx y hy
theorem MI.endA {T out rb:List ai}(h:MI key T out [] rb):(out++rb).Perm T/\Srt key (out++rb):=⟨by simpa using h.perm,h.so.app h.sb h.lb⟩
theorem MI.endB {T out ra:List ai}(h:MI key T out ra []):(out++ra).Perm T/\Srt key (out++ra):=⟨by simpa using h.perm,h.so.app h.sa h.la⟩
theorem MI.last {T out ra rb:List ai}(h:MI key T out ra rb)(hu:Leq key rb ra):(out++rb++ra).Perm T/\Srt key (out++rb++ra):=by
 obtain h':=MI.takeB (u:=rb) (rb:=[]) (by simpa using h) hu
 exact h'.endB
theorem Zgv {a:Array ai}{i:Nat}(hi:i<a.size):a.toList.drop i=a[i]::a.toList.drop (i+1):=by
 rw[Ci (by simpa using hi)];simp
theorem Q2 {a:Array ai}{i:Nat}{x:ai}(h:x∈a.toList.drop i):∃j,∃hj:j<a.size,i<=j/\x=a[j]:=by
 refine byC λXX=>?_;obtain ⟨k,hk,rfl⟩:=Co h;apply XX
 rw[Lv,Db] at hk
 exact ⟨i+k,G1 hk,Cc i k,by simp⟩
theorem Zfl (a:Array ai)(i k:Nat)(h:i+k<=a.size):a.toList.drop i=(a.extract i (i+k)).toList++a.toList.drop (i+k):=by
 rw[G7]
 simp only[Di]
 obtain this:i+k-i=k:=by exact Nc 0x1801c05212cbba1001a1101ba101a101 Tt (Zc _ _)
 rw[this,← List.drop_drop,Gz]
theorem Wk (a:Array ai)(i:Nat):(a.extract i a.size).toList=a.toList.drop i:=by
 rw[G7]
 simp only[Di]
 rw[Gv (by simp)]
theorem Zd2 {a:Array ai}{i k:Nat}{x:ai}(h:x∈(a.extract i (i+k)).toList)(hk:i+k<=a.size):∃j,∃hj:j<a.size,i<=j/\j<i+k/\x=a[j]:=by
 refine byC λXX=>?_;obtain ⟨m,hm,rfl⟩:=Co h;apply XX
 obtain hm':m<k:=by simp at hm;exact Nd 0x1701702ad213cba1101a1111 Tt hm (Ys _ _)
 exact ⟨i+m,C2 (L7 hm' i) hk,Cc i m,L7 hm' i,by simp⟩
theorem srt_seg {a:Array ai}:SegS key a 0 a.size↔Srt key a.toList:=by
 unfold Srt
 rw[Gi]
 constructor
 .intro h i j hi hj hij
  obtain hi':i<a.size:=by simpa using hi
  have hj':j<a.size:=by simpa using hj
  have:=h i j (C9 _) (C1 hij) hj'
  rw[Yz hi',Yz hj'] at this
  simpa using this
 .intro h i j _ hij hj
  by_cases he:i=j
  .subst he;exact Ww _
  .have:=h i j (by simp;exact Nc 0x1701602721c111 Tt hij hj) (by simpa using hj) (Nb 0x17016019801cba101a011 Tt hij he)
   rw[Yz (Bx hij hj),Yz hj]
   simpa using this
end
structure Same (st0 st:ag):Prop where
 kind:kindOf st=kindOf st0
 arr:arrOf st=arrOf st0
 pend:pendingOf st=pendingOf st0
 ok:failedOf st=failedOf st0
theorem Same.refl (st:ag):Same st st:=⟨rfl,rfl,rfl,rfl⟩
theorem Same.gal {st0 st:ag}(h:Same st0 st)(g:Nat):Same st0 (Zpv st g):=⟨h.kind,h.arr,h.pend,h.ok⟩
section
open SK
structure Two (a₀:Array ai)(key:ai->T3)(a b:Array ai):Prop where
 ina:∀i (hi:i<a.size),a[i]∈a₀.toList
 inb:∀i (hi:i<b.size),b[i]∈a₀.toList
 sa:Srt key a.toList
 sb:Srt key b.toList
 pa:1<=a.size
 pb:1<=b.size
 first:∀i (hi:i<a.size) (h0:0<b.size),T3.le (key b[0]) (key a[i])=T1
 last:∀j (hj:j<b.size) (h0:a.size-1<a.size),T3.le (key b[j]) (key a[a.size-1])=T1
def Res (key:ai->T3)(a b r:Array ai):Prop:=r.toList.Perm (a.toList++b.toList)/\Srt key r.toList
structure Mid (key:ai->T3)(a b out:Array ai)(ia ib:Nat):Prop where
 mi:MI key (a.toList++b.toList) out.toList (a.toList.drop ia) (b.toList.drop ib)
 ha:ia+1<a.size
 hb:ib<b.size
variable {a b:Array ai}
theorem Zbo {out:Array ai}{ia:Nat}(h:MI key (a.toList++b.toList) out.toList (a.toList.drop ia) (b.toList.drop b.size)):Res key a b (out++a.extract ia a.size++b.extract b.size b.size):=by
 rw[Dv (l:=b.toList) (i:=b.size) (by simp)] at h
 have:=h.endB
 unfold Res
 rw[C3,C3,Wk,Wk,Dv (i:=b.size) (by simp),Cn]
 exact this
theorem Znw {out:Array ai}{ib:Nat}(h:MI key (a.toList++b.toList) out.toList (a.toList.drop a.size) (b.toList.drop ib)):Res key a b (out++a.extract a.size a.size++b.extract ib b.size):=by
 rw[Dv (l:=a.toList) (i:=a.size) (by simp)] at h
 have:=h.endA
 unfold Res
 rw[C3,C3,Wk,Wk,Dv (i:=a.size) (by simp),Cn]
 exact this
theorem Zcw {out:Array ai}{ia ib:Nat}(T:Two a₀ key a b)(h:MI key (a.toList++b.toList) out.toList (a.toList.drop ia) (b.toList.drop ib))(hia:ia+1=a.size):Res key a b (out++b.extract ib b.size++a.extract ia a.size):=by
 unfold Res
 rw[C3,C3,Wk,Wk]
 refine h.last λx hx y hy=>?_
 refine byC λXX=>?_;obtain ⟨j,hj,_,rfl⟩:=Q2 hx;apply XX
 refine byC λXX=>?_;obtain ⟨i,hi,h1,rfl⟩:=Q2 hy;apply XX
 obtain hii:i=a.size-1:=by exact Nd 0x1801852a3703620c13acbba1010101a1000001ba10010001a10010101 Tt hia hi h1 (Zc _ _)
 subst hii
 exact T.last j hj hi
theorem Zd3 (out:Array ai)(x:ai):(out.push x).toList=out.toList++[x]:=Li ..
theorem Zfm {out:Array ai}{ia ib:Nat}(h:MI key (a.toList++b.toList) out.toList (a.toList.drop ia) (b.toList.drop ib))(hb:ib<b.size)(hl:∀i (hi:i<a.size),ia<=i->T3.le (key b[ib]) (key a[i])=T1) :
  MI key (a.toList++b.toList) (out.push b[ib]).toList (a.toList.drop ia) (b.toList.drop (ib+1)):=by
 rw[Zd3]
 rw[Zgv hb] at h
 refine MI.takeB (u:=[b[ib]]) h λx hx y hy=>?_
 rw[Bo.mp hx]
 refine byC λXX=>?_;obtain ⟨i,hi,h1,rfl⟩:=Q2 hy;apply XX
 exact hl i hi h1
theorem Zjy {out:Array ai}{ia ib:Nat}(h:MI key (a.toList++b.toList) out.toList (a.toList.drop ia) (b.toList.drop ib))(ha:ia<a.size)(hl:∀j (hj:j<b.size),ib<=j->T3.le (key a[ia]) (key b[j])=T1) :
  MI key (a.toList++b.toList) (out.push a[ia]).toList (a.toList.drop (ia+1)) (b.toList.drop ib):=by
 rw[Zd3]
 rw[Zgv ha] at h
 refine MI.takeA (u:=[a[ia]]) h λx hx y hy=>?_
 rw[Bo.mp hx]
 refine byC λXX=>?_;obtain ⟨i,hi,h1,rfl⟩:=Q2 hy;apply XX
 exact hl i hi h1
theorem Zsv {out:Array ai}{ia ib k:Nat}(h:MI key (a.toList++b.toList) out.toList (a.toList.drop ia) (b.toList.drop ib))(hk:ia+k<=a.size)(hl:∀i (hi:i<a.size),ia<=i->i<ia+k->∀j (hj:j<b.size),ib<=j->T3.le (key a[i]) (key b[j])=T1) :
  MI key (a.toList++b.toList) (out++a.extract ia (ia+k)).toList (a.toList.drop (ia+k)) (b.toList.drop ib):=by
 rw[C3]
 rw[Zfl a ia k hk] at h
 refine MI.takeA h λx hx y hy=>?_
 refine byC λXX=>?_;obtain ⟨i,hi,h1,h2,rfl⟩:=Zd2 hx hk;apply XX
 refine byC λXX=>?_;obtain ⟨j,hj,h3,rfl⟩:=Q2 hy;apply XX
 exact hl i hi h1 h2 j hj h3
theorem Zsw {out:Array ai}{ia ib k:Nat}(h:MI key (a.toList++b.toList) out.toList (a.toList.drop ia) (b.toList.drop ib))(hk:ib+k<=b.size)(hl:∀i (hi:i<b.size),ib<=i->i<ib+k->∀j (hj:j<a.size),ia<=j->T3.le (key b[i]) (key a[j])=T1) :
  MI key (a.toList++b.toList) (out++b.extract ib (ib+k)).toList (a.toList.drop ia) (b.toList.drop (ib+k)):=by
 rw[C3]
 rw[Zfl b ib k hk] at h
 refine MI.takeB h λx hx y hy=>?_
 refine byC λXX=>?_;obtain ⟨i,hi,h1,h2,rfl⟩:=Zd2 hx hk;apply XX
 refine byC λXX=>?_;obtain ⟨j,hj,h3,rfl⟩:=Q2 hy;apply XX
 exact hl i hi h1 h2 j hj h3
theorem Zak {c:Array ai}(h:Srt key c.toList){i j:Nat}(hi:i<c.size)(hj:j<c.size)(hij:i<=j):T3.le (key c[i]) (key c[j])=T1:=by
 have:=srt_seg.mpr h i j (C9 _) hij hj
 rwa [Yz hi,Yz hj] at this
theorem Zem {c:Array ai}(h:Srt key c.toList){i n:Nat}(hn:i+n<=c.size):SegS key c i (i+n):=λp q h1 h2 h3=>srt_seg.mpr h p q (C9 _) h2 (Nd 0x17016523170523c111 Tt hn h3)
abbrev Zjz:=Option (Array ai)×Array ai×Nat×Nat×Nat×Nat×Nat
def loB (a b:Array ai)(minGallop acount:Nat)(out:Array ai)(ia ib bcount:Nat):StateT ag Sem (ForInStep Zjz):=do
 let x ← elem' b ib
 let out:=out.push x
 let ib:=ib+1
 if (ib == b.size)=T1 then pure (.done (S5 (out++a.extract ia a.size++b.extract ib b.size),out,ia,ib,minGallop,acount,bcount))
 else do
  let y ← elem' a ia
  let z ← U8 T1 y b ib (b.size-ib) 0
  match z with
  | some k=>
   let jp:=λ(_:Unit) (out:Array ai) (ib:Nat)=>(do
    let y ← elem' a ia
    let out:=out.push y
    let ia:=ia+1
    if (ia+1 == a.size)=T1 then pure (.done (S5 (out++b.extract ib b.size++a.extract ia a.size),out,ia,ib,minGallop,acount,k))
    else if (decide (acount<7)&&decide (k<7))=T1 then pure (.done (N0,out,ia,ib,minGallop,acount,k))
    else pure (.yield (N0,out,ia,ib,minGallop,acount,k)):StateT ag Sem (ForInStep Zjz))
   if k>0 then
    let out:=out++b.extract ib (ib+k)
    let ib:=ib+k
    if (ib == b.size)=T1 then pure (.done (S5 (out++a.extract ia a.size++b.extract ib b.size),out,ia,ib,minGallop,acount,k))
    else jp () out ib
   else jp () out ib
  | _=>pure (.done (S5 (out++a.extract ia a.size++b.extract ib b.size),out,ia,ib,minGallop,acount,bcount))
noncomputable def loA (a b:Array ai)(out:Array ai)(ia ib acount bcount:Nat)(minGallop:Nat):StateT ag Sem (ForInStep Zjz):=do
 Jl minGallop
 let x ← elem' b ib
 let z ← U8 F0 x a ia (a.size-ia) 0
 match z with
 | some k=>
  if k>0 then
   let out:=out++a.extract ia (ia+k)
   let ia:=ia+k
   if (ia+1 == a.size)=T1 then pure (.done (S5 (out++b.extract ib b.size++a.extract ia a.size),out,ia,ib,minGallop,k,bcount))
   else if (ia == a.size)=T1 then pure (.done (S5 (out++a.extract ia a.size++b.extract ib b.size),out,ia,ib,minGallop,k,bcount))
   else loB a b minGallop k out ia ib bcount
  else loB a b minGallop k out ia ib bcount
 | _=>pure (.done (S5 (out++a.extract ia a.size++b.extract ib b.size),out,ia,ib,minGallop,acount,bcount))
end
section
open SK
namespace jo
def S (a:Array ai)(b:Array ai)(st:ag)(st':ag)(N:Nat)(mg:Nat)(ac:Nat)(bc:Nat)(out:Array ai)(ia:Nat)(ib:Nat)(Q:ForInStep Zjz->ag->Prop):Prop:=∀(hk:kindOf st=κ) (T:Two a₀ key a b) (hM:Mid key a b out ia ib) (hS:Same st st') (hl:∀i (hi:i<a.size),ia<=i->T3.le (key (b[ib]'hM.hb)) (key a[i])=T1) (hp:N<=ia+ib) (h1:∀r rest,Res key a b r->Q (.done (S5 r,rest)) st') (h2:∀out ia ib mg ac bc,Mid key a b out ia ib->N<=ia+ib->Q (.done (N0,out,ia,ib,mg,ac,bc)) st'/\Q (.yield (N0,out,ia,ib,mg,ac,bc)) st'),wpS (model prog w) A E sK (loB a b mg ac out ia ib bc) Q st'
def p:=Wo ⟨(#[],#[],(ag.mk' oneType' #[] #[] 7 N0),(ag.mk' oneType' #[] #[] 7 N0),0,0,0,0,#[],0,0,(λu_ v_=>True))⟩ (Zm9 S)
def a:=p.1
def b:=p.2.1
def st:=p.2.2.1
def st':=p.2.2.2.1
def N:=(sk4 p).1
def mg:=(sk4 p).2.1
def ac:=(sk4 p).2.2.1
def bc:=(sk4 p).2.2.2.1
def out:=(sk8 p).1
def ia:=(sk8 p).2.1
def ib:=(sk8 p).2.2.1
def Q:=(sk8 p).2.2.2
theorem pf:S a b st st' N mg ac bc out ia ib Q:=by
 intro hk T hM hS hl hp h1 h2
 have ha:=hM.ha
 have hb:=hM.hb
 unfold loB
 refine ah (Ym hb ?_)
 have m1:=Zfm hM.mi hb hl
 by_cases he:ib+1=b.size
 .refine Yp (by simpa using he) ?_
  refine ao (h1 _ _ ?_)
  rw[he] at m1 ⊢
  exact Zbo m1
 .refine Yq (by simpa using he) ?_
  refine ah (Ym (show ia<a.size by exact Nb 0x1701750a1c11 Tt ha) (ah (W9 (hS.kind.trans hk) (T.ina _ _) T.inb (by exact Nc 0x16550a12702c1250acba1001a1101 Tt hb (Zc _ _)) (Zem T.sb (by exact Nc 0x16550a12702c1250acba1001a1101 Tt hb (Zc _ _))) (by exact Nc 0x17b07129851a2c0251acbba101001a0011ba011a011 Tt hb he (Zc _ _)) λk hkn g1 g2=>?_)))
  simp only[if_true] at g1 g2
  have fin : ∀ (out : Array ai) (ib' : Nat), MI key (a.toList ++ b.toList) out.toList (a.toList.drop ia) (b.toList.drop ib') -> ib' < b.size -> ib + 1 + k = ib' -> wpS (model prog w) A E sK (do
    let y ← elem' a ia
    if (ia+1+1 == a.size)=T1 then pure (.done (S5 (out.push y++b.extract ib' b.size++a.extract (ia+1) a.size),out.push y,ia+1,ib',mg,ac,k))
    else if (decide (ac<7)&&decide (k<7))=T1 then pure (.done (N0,out.push y,ia+1,ib',mg,ac,k))
    else pure (.yield (N0,out.push y,ia+1,ib',mg,ac,k)):StateT ag Sem (ForInStep Zjz)) Q st':=by
   intro out ib' m2 hb' hib
   refine ah (Ym (show ia<a.size by exact Nb 0x1701750a1c11 Tt ha) ?_)
   have m3:=Zjy m2 (show ia<a.size by exact Nb 0x1701750a1c11 Tt ha) λj hj hj1=>by
    have:=g2 (j-(ib+1)) (by exact Ni 0x16018552a03634c1452acba1101001a1101101 Tt hib hj1 (Zc _ _)) (by exact Ng 0x17017238554a1d272d3c1354ac02d54acbba1000100101a1110000101ba000011001a011001 Tt hb' hib hj (Zc _ _) (Zc _ _))
    rw[show ib+1+(j-(ib+1))=j by exact Ni 0x18550a128550a34642c1250acbba1000001a1000101ba100001a110101 Tt hib hj1 (Zc _ _),Yz hj] at this
    simpa using this
   by_cases he2:ia+1+1=a.size
   .refine Yp (by simpa using he2) ?_
    exact ao (h1 _ _ (Zcw T m3 he2))
   .refine Yq (by simpa using he2) ?_
    have hM':Mid key a b (out.push a[ia]) (ia+1) ib':=⟨m3,Nb 0x17550aa1750a198550aa1cba101a011 Tt ha he2,hb'⟩
    refine Zbn (λu_=>?_) (λu_=>?_)
    .exact ao (h2 _ _ _ _ _ _ hM' (Ni 0x160551a2605138553a42c111 Tt hp hib)).1
    .exact ao (h2 _ _ _ _ _ _ hM' (Ni 0x160551a2605138553a42c111 Tt hp hib)).2
  by_cases hk0:k>0
  .refine Yp hk0 ?_
   have m2:=Zsw (k:=k) m1 (by exact Nd 0x16550a12702613c3250acba10101a11101 Tt hb hkn (Zc _ _)) λi hi hi1 hi2 j hj hj1=>by
    have:=g1 (i-(ib+1)) (by exact Nd 0x17017b172553a1c0253acba10101a11001 Tt hk0 hi2 (Zc _ _))
    rw[show ib+1+(i-(ib+1))=i by exact Nc 0x18550a12650a2c1250acbba10001a10101ba1001a1101 Tt hi1 (Zc _ _),Yz hi] at this
    obtain hle:=Y7 (by simpa using this:T3.le (key a[ia]) (key b[i])=F0)
    exact Yc hle (Zak T.sa (Nb 0x1701750a1c11 Tt ha) hj hj1)
   by_cases he2:ib+1+k=b.size
   .refine Yp (by simpa using he2) ?_
    refine ao (h1 _ _ ?_)
    rw[he2] at m2 ⊢
    exact Zbo m2
   .refine Yq (by simpa using he2) ?_
    exact fin _ _ m2 (by exact Nd 0x17550a126137b198550a12c3250acbba1001a1001ba010101a011001 Tt hkn hk0 he2 (Zc _ _)) rfl
  .refine Yq hk0 ?_
   exact fin _ _ m1 (Nb 0x1750a17019850a1cba101a011 Tt hb he) (Nb 0x18550a150a97b1cba1a11 Tt hk0)
end jo
theorem Zmk {a:Array ai}{b:Array ai}{st:ag}{st':ag}{N:Nat}{mg:Nat}{ac:Nat}{bc:Nat}{out:Array ai}{ia:Nat}{ib:Nat}{Q:ForInStep Zjz->ag->Prop}:jo.S a b st st' N mg ac bc out ia ib Q:=Yi (S:=Zm9 jo.S) jo.pf (a,b,st,st',N,mg,ac,bc,out,ia,ib,Q)
end
section
open SK
variable {a b:Array ai}
end
section
open SK
namespace jn
def S (a:Array ai)(b:Array ai)(st:ag)(st':ag)(N:Nat)(mg:Nat)(ac:Nat)(bc:Nat)(out:Array ai)(ia:Nat)(ib:Nat)(Q:ForInStep Zjz->ag->Prop):Prop:=∀(hk:kindOf st=κ) (T:Two a₀ key a b) (hM:Mid key a b out ia ib) (hS:Same st st') (hp:N<=ia+ib) (h1:∀r rest st',Same st st'->Res key a b r->Q (.done (S5 r,rest)) st') (h2:∀out ia ib mg ac bc st',Same st st'->Mid key a b out ia ib->N<=ia+ib->Q (.done (N0,out,ia,ib,mg,ac,bc)) st'/\Q (.yield (N0,out,ia,ib,mg,ac,bc)) st'),wpS (model prog w) A E sK (loA a b out ia ib ac bc mg) Q st'
def p:=Wo ⟨(#[],#[],(ag.mk' oneType' #[] #[] 7 N0),(ag.mk' oneType' #[] #[] 7 N0),0,0,0,0,#[],0,0,(λu_ v_=>True))⟩ (Zm9 S)
def a:=p.1
def b:=p.2.1
def st:=p.2.2.1
def st':=p.2.2.2.1
def N:=(sk4 p).1
def mg:=(sk4 p).2.1
def ac:=(sk4 p).2.2.1
def bc:=(sk4 p).2.2.2.1
def out:=(sk8 p).1
def ia:=(sk8 p).2.1
def ib:=(sk8 p).2.2.1
def Q:=(sk8 p).2.2.2
theorem pf:S a b st st' N mg ac bc out ia ib Q:=by
 intro hk T hM hS hp h1 h2
 have ha:=hM.ha
 have hb:=hM.hb
 unfold loA
 rw[Ur]
 refine ah (bn ?_)
 have hS':=hS.gal mg
 refine ah (Ym hb (ah (W9 (hS'.kind.trans hk) (T.inb _ _) T.ina (by exact Nc 0x165012750a2c120cba1001a011 Tt ha (Zc _ _)) (Zem T.sa (by exact Nc 0x165012750a2c120cba1001a011 Tt ha (Zc _ _))) (by exact Nc 0x17b0751a2c021cba11001a011 Tt ha (Zc _ _)) λk hkn g1 g2=>?_)))
 simp only[Bu,if_false] at g1 g2
 obtain hg2:∀i (hi:i<a.size),ia+k<=i->T3.le (key b[ib]) (key a[i])=T1:=λi hi hi1=>by
  have:=g2 (i-ia) (by exact Nd 0x160165203c132cba11001a11101 Tt hi1 (Zc _ _)) (by exact Ni 0x1701752a3743c132c042cbba10100101a11000101ba0101a0101 Tt ha hi (Zc _ _) (Zc _ _))
  rw[show ia+(i-ia)=i by exact Nd 0x18501265032c120cbba10001a10101ba1001a1101 Tt hi1 (Zc _ _),Yz hi] at this
  exact Y7 this
 by_cases hk0:k>0
 .refine Yp hk0 ?_
  have m2:=Zsv (k:=k) hM.mi (by exact Nd 0x165012750a2613c320cba10101a0101 Tt ha hkn (Zc _ _)) λi hi hi1 hi2 j hj hj1=>by
   have:=g1 (i-ia) (by exact Nd 0x17017b172531c023cba10101a11001 Tt hk0 hi2 (Zc _ _))
   rw[show ia+(i-ia)=i by exact Nc 0x185012602c120cbba10001a10101ba1001a1101 Tt hi1 (Zc _ _),Yz hi] at this
   exact Yc this (Zak T.sb hb hj hj1)
  by_cases he:ia+k+1=a.size
  .refine Yp (by simpa using he) ?_
   exact ao (h1 _ _ _ hS' (Zcw T m2 he))
  .refine Yq (by simpa using he) ?_
   by_cases he2:ia+k=a.size
   .refine Yp (by simpa using he2) ?_
    refine ao (h1 _ _ _ hS' ?_)
    rw[he2] at m2 ⊢
    exact Znw m2
   .refine Yq (by simpa using he2) ?_
    exact Zmk hk T ⟨m2,by exact Nd 0x175501a2750a2613985501a2985012c320cbbba1001a1001ba1001a1001bba00011a00011ba0010101a010001 Tt ha hkn he he2 (Zc _ _),hb⟩ hS' hg2 (Nd 0x1605512360513c11 Tt hp) (λr rest hR=>h1 r rest _ hS' hR) λout ia ib mg ac bc hM' hp'=>h2 out ia ib mg ac bc _ hS' hM' hp'
 .refine Yq hk0 ?_
  exact Zmk hk T hM hS' (λi hi hi1=>hg2 i hi (Nc 0x16501297b1602c111 Tt hk0 hi1)) hp (λr rest hR=>h1 r rest _ hS' hR) λout ia ib mg ac bc hM' hp'=>h2 out ia ib mg ac bc _ hS' hM' hp'
end jn
theorem Zsx {a:Array ai}{b:Array ai}{st:ag}{st':ag}{N:Nat}{mg:Nat}{ac:Nat}{bc:Nat}{out:Array ai}{ia:Nat}{ib:Nat}{Q:ForInStep Zjz->ag->Prop}:jn.S a b st st' N mg ac bc out ia ib Q:=Yi (S:=Zm9 jn.S) jn.pf (a,b,st,st',N,mg,ac,bc,out,ia,ib,Q)
end
section
open SK
variable {a b:Array ai}
end
section
open SK
namespace jt
def S (a:Array ai)(b:Array ai)(st:ag)(Q:Array ai->ag->Prop):Prop:=∀(hk:kindOf st=κ) (T:Two a₀ key a b) (h:∀r st',Same st st'->Res key a b r->Q r st'),wpS (model prog w) A E sK (Zfj a b) Q st
def p:=Wo ⟨(#[],#[],(ag.mk' oneType' #[] #[] 7 N0),(λu_ v_=>True))⟩ (uc4 S)
def a:=p.1
def b:=p.2.1
def st:=p.2.2.1
def Q:=p.2.2.2
theorem pf:S a b st Q:=by
 intro hk T h
 rw[Zjx]
 obtain pa:=T.pa
 obtain pb:=T.pb
 refine ah (cb (br ⟨rfl,?_⟩))
 refine ah (Ym pb ?_)
 obtain m0:MI key (a.toList++b.toList) #[b[0]].toList (a.toList.drop 0) (b.toList.drop 1):=by
  obtain this:MI key (a.toList++b.toList) (#[]:Array ai).toList (a.toList.drop 0) (b.toList.drop 0):=⟨by simp,Gn.nil,by simpa using T.sa,by simpa using T.sb,λx hx=>by simp at hx,λx hx=>by simp at hx⟩
  exact Zfm this pb λi hi u_=>T.first i hi pb
 by_cases h1:1=b.size
 .refine Yp (by simpa using h1) ?_
  refine ao (h _ st (Same.refl _) ?_)
  have:=Zbo (ia:=0) (h1▸m0)
  rw[h1];exact this
 .refine Yq (by simpa using h1) ?_
  by_cases h2:0+1=a.size
  .refine Yp (by simpa using h2) ?_
   exact ao (h _ st (Same.refl _) (Zcw T m0 h2))
  .refine Yq (by simpa using h2) ?_
   refine ah (bw ?_)
   refine ah (bg (az (I:=λx c st'=>Same st st'/\∃out ia ib mg,c=(N0,out,ia,ib,mg)/\Mid key a b out ia ib/\x+1<=ia+ib)
    (Q:=λc st'=>Same st st'/\∃r rest,c=(S5 r,rest)/\Res key a b r) ?step ?fin ⟨Same.refl _,#[b[0]],0,1,_,rfl,⟨m0,Na 0x175ba06a0985ba0cba101a011 Tt pa h2,Na 0x17a06a098a0cba101a011 Tt pb h1⟩,Na 0x165ba5bac1 Tt (x:=0)⟩) ?post)
   case post=>
    intro c st' hX2
    refine byC λhnX=>?_
    obtain ⟨hS,r,rest,rfl,hR⟩:=hX2
    refine hnX ?_
    clear hnX
    exact ao (h r st' hS hR)
   case fin=>
    intro c st' hX2
    refine byC λhnX=>?_
    obtain ⟨hS,out,ia,ib,mg,rfl,hM,hp⟩:=hX2
    refine hnX ?_
    clear hnX
    exact (arA hp hM.ha hM.hb).elim
   case step=>
    intro x c st' u_ hx hX5
    refine byC λhnX=>?_
    obtain ⟨hS,out,ia,ib,mg,rfl,hM,hp⟩:=hX5
    refine hnX ?_
    clear hnX
    refine ah (bg (az (I:=λy c st'=>Same st st'/\∃out ia' ib' ac bc,c=(N0,out,ia',ib',ac,bc)/\Mid key a b out ia' ib'/\ia+ib+y<=ia'+ib')
     (Q:=λc st'=>Same st st'/\((∃r rest,c=(S5 r,rest)/\Res key a b r)\/∃out ia' ib' ac bc,c=(N0,out,ia',ib',ac,bc)/\Mid key a b out ia' ib'/\ia+ib+1<=ia'+ib')) ?step1 ?fin1 ⟨hS,out,ia,ib,0,0,rfl,hM,Nb 0x165501b501c1 Tt⟩) ?post1)
    case fin1=>
     intro c st' hX2
     refine byC λhnX=>?_
     obtain ⟨hS,out,ia',ib',ac,bc,rfl,hM,hp⟩:=hX2
     refine hnX ?_
     clear hnX
     exact ⟨hS,.inr ⟨out,ia',ib',ac,bc,rfl,hM,by exact Ng 0x165501a5236a4655011d523bd1db52d4cba111001a0101 Tt pb hp (Q8 _ _)⟩⟩
    case step1=>
     intro y c st' u_ hy hX5
     refine byC λhnX=>?_
     obtain ⟨hS,out,ia',ib',ac,bc,rfl,hM,hp⟩:=hX5
     refine hnX ?_
     clear hnX
     obtain ha:=hM.ha
     obtain hb:=hM.hb
     refine ah (Ym hb (ah (Ym (show ia'<a.size by exact Nb 0x1701750a1c11 Tt ha) (ah (HL _ _ (T.inb _ hb) (T.ina _ _) st' _ (hS.kind.trans hk) ?_)))))
     cases hl:T3.le (key a[ia']) (key b[ib']) with
     | false=>
      refine Yp rfl ?_
      refine ah (Ym hb ?_)
      obtain m1:=Zfm hM.mi hb λi hi h1=>Yc (Y7 hl) (Zak T.sa (Nb 0x1701750a1c11 Tt ha) hi h1)
      by_cases he:ib'+1=b.size
      .refine Yp (by simpa using he) ?_
       refine ao ⟨hS,.inl ⟨_,_,rfl,?_⟩⟩
       rw[he] at m1 ⊢
       exact Zbo m1
      .refine Yq (by simpa using he) ?_
       obtain hM':Mid key a b (out.push b[ib']) ia' (ib'+1):=⟨m1,ha,Nb 0x1750a17019850a1cba101a011 Tt hb he⟩
       refine Zbn (λu_=>?_) (λu_=>?_)
       .exact ao ⟨hS,.inr ⟨_,_,_,_,_,rfl,hM',Ni 0x165501a5253a655014523c11 Tt hp⟩⟩
       .exact ao ⟨hS,_,_,_,_,_,rfl,hM',Ni 0x16550152a5354a655012534c11 Tt hp⟩
     | true=>
      refine Yq (λh=>Lw h) ?_
      refine ah (Ym (show ia'<a.size by exact Nb 0x1701750a1c11 Tt ha) ?_)
      obtain m1:=Zjy hM.mi (show ia'<a.size by exact Nb 0x1701750a1c11 Tt ha) λj hj h1=>Yc hl (Zak T.sb hb hj h1)
      by_cases he:ia'+1+1=a.size
      .refine Yp (by simpa using he) ?_
       exact ao ⟨hS,.inl ⟨_,_,rfl,Zcw T m1 he⟩⟩
      .refine Yq (by simpa using he) ?_
       obtain hM':Mid key a b (out.push a[ia']) (ia'+1) ib':=⟨m1,Nb 0x17550aa1750a198550aa1cba101a011 Tt ha he,hb⟩
       refine Zbn (λu_=>?_) (λu_=>?_)
       .exact ao ⟨hS,.inr ⟨_,_,_,_,_,rfl,hM',Ni 0x165501a552a3655014523c11 Tt hp⟩⟩
       .exact ao ⟨hS,_,_,_,_,_,rfl,hM',Ni 0x16550152a553a4655012534c11 Tt hp⟩
    case post1=>
     intro c st' hX2
     refine byC λhnX=>?_
     obtain ⟨hS,hor⟩:=hX2
     refine hnX ?_
     clear hnX
     rcases hor with ⟨r,rest,rfl,hR⟩ | ⟨out,ia',ib',ac,bc,rfl,hM,hp1⟩
     .exact ao ⟨hS,r,_,rfl,hR⟩
     .skip
      refine ah (cb (br ⟨rfl,?_⟩))
      refine ah (bg (az (I:=λy c st'=>Same st st'/\∃out ia' ib' mg ac bc,c=(N0,out,ia',ib',mg,ac,bc)/\Mid key a b out ia' ib'/\ia+ib+1<=ia'+ib')
       (Q:=λc st'=>Same st st'/\((∃r rest,c=(S5 r,rest)/\Res key a b r)\/∃out ia' ib' mg ac bc,c=(N0,out,ia',ib',mg,ac,bc)/\Mid key a b out ia' ib'/\ia+ib+1<=ia'+ib')) ?step2 ?fin2 ⟨hS,out,ia',ib',_,ac,bc,rfl,hM,hp1⟩) ?post2)
      case fin2=>
       intro c st' hX2
       refine byC λhnX=>?_
       obtain ⟨hS,out,ia',ib',mg,ac,bc,rfl,hM,hp⟩:=hX2
       refine hnX ?_
       clear hnX
       exact ⟨hS,.inr ⟨out,ia',ib',mg,ac,bc,rfl,hM,hp⟩⟩
      case post2=>
       intro c st' hX2
       refine byC λhnX=>?_
       obtain ⟨hS,hor⟩:=hX2
       refine hnX ?_
       clear hnX
       rcases hor with ⟨r,rest,rfl,hR⟩ | ⟨out,ia',ib',mg,ac,bc,rfl,hM,hp1⟩
       .exact ao ⟨hS,r,_,rfl,hR⟩
       .dsimp only
        rw[Ur]
        exact ah (bn (ao ⟨hS.gal _,out,ia',ib',_,rfl,hM,Ni 0x16550aa512650a53465534a512c111 Tt hp hp1⟩))
      case step2=>
       clear hM hp1 hS out ia' ib' ac bc
       intro y c st' u_ hy hX5
       refine byC λhnX=>?_
       obtain ⟨hS,out,ia',ib',mg,ac,bc,rfl,hM,hp⟩:=hX5
       refine hnX ?_
       clear hnX
       obtain fin : ∀ mg', wpS (model prog w) A E sK (loA a b out ia' ib' ac bc mg') (λr st' => match r with
         | .done c'=>Same st st'/\((∃r rest,c'=(S5 r,rest)/\Res key a b r)\/∃out ia' ib' mg ac bc,c'=(N0,out,ia',ib',mg,ac,bc)/\Mid key a b out ia' ib'/\ia+ib+1<=ia'+ib')
         | .yield c'=>Same st st'/\∃out ia' ib' mg ac bc,c'=(N0,out,ia',ib',mg,ac,bc)/\Mid key a b out ia' ib'/\ia+ib+1<=ia'+ib') st':=λmg'=>
        Zsx hk T hM hS hp (λr rest st2 hS2 hR=>⟨hS2,.inl ⟨r,rest,rfl,hR⟩⟩) λout ia ib mg ac bc st2 hS2 hM2 hp2=>⟨⟨hS2,.inr ⟨_,_,_,_,_,_,rfl,hM2,hp2⟩⟩,hS2,_,_,_,_,_,_,rfl,hM2,hp2⟩
       by_cases hg:mg>1
       .refine Yp hg ?_;exact bg (fin (mg-1)) λr st2 hq=>by cases r <;> exact hq
       .refine Yq hg ?_;exact bg (fin mg) λr st2 hq=>by cases r <;> exact hq
end jt
theorem Zj0 {a:Array ai}{b:Array ai}{st:ag}{Q:Array ai->ag->Prop}:jt.S a b st Q:=Yi (S:=uc4 jt.S) jt.pf (a,b,st,Q)
end
section
open SK
variable {a b:Array ai}
end
theorem Zj1 (a b:Array ai):Zfk a b=(do
 rule "list.sort.merge-hi"
 let total:=a.size+b.size
 let done (out:Array ai) (na nb:Nat):=a.extract 0 na++b.extract 0 nb++out.reverse
 let firstOfB (out:Array ai) (na nb:Nat):=b.extract 0 nb++a.extract 0 na++out.reverse
 let mut na:=a.size-1
 let mut nb:=b.size
 let mut out:Array ai:=#[← elem' a na]
 if na == 0 then return done out na nb
 if nb == 1 then return firstOfB out na nb
 let mut minGallop:=gallopOf (← get)
 for _ in [0:total] do
  let mut acount:=0
  let mut bcount:=0
  for _ in [0:total] do
   let S5 aWins ← lt' (← elem' b (nb-1)) (← elem' a (na-1)) | return done out na nb
   if aWins then
    na:=na-1;out:=out.push (← elem' a na);acount:=acount+1;bcount:=0
    if na == 0 then return done out na nb
    if acount ≥ minGallop then break
   else
    nb:=nb-1;out:=out.push (← elem' b nb);bcount:=bcount+1;acount:=0
    if nb == 1 then return firstOfB out na nb
    if bcount ≥ minGallop then break
  rule "list.sort.gallop"
  minGallop:=minGallop+1
  for _ in [0:total] do
   if minGallop>1 then minGallop:=minGallop-1
   Jl minGallop
   let S5 at_ ← U8 F0 (← elem' b (nb-1)) a 0 na (na-1) | return done out na nb
   let k:=na-at_
   acount:=k
   if k>0 then
    out:=out++(a.extract at_ na).reverse;na:=at_
    if na == 0 then return done out na nb
   nb:=nb-1;out:=out.push (← elem' b nb)
   if nb == 1 then return firstOfB out na nb
   let S5 at_ ← U8 T1 (← elem' a (na-1)) b 0 nb (nb-1) | return done out na nb
   let k:=nb-at_
   bcount:=k
   if k>0 then
    out:=out++(b.extract at_ nb).reverse;nb:=at_
    if nb == 1 then return firstOfB out na nb
    if nb == 0 then return done out na nb
   na:=na-1;out:=out.push (← elem' a na)
   if na == 0 then return done out na nb
   if acount<7&&bcount<7 then break
  minGallop:=minGallop+1
  Jl minGallop
 unsupported "internal:list.sort.merge-bound"):=rfl
section
open SK
structure MJ (key:ai->T3)(T o ra rb:List ai):Prop where
 perm:(ra++rb++o).Perm T
 so:Srt key o
 sa:Srt key ra
 sb:Srt key rb
 la:Leq key ra o
 lb:Leq key rb o
theorem MJ.takeA {T o u ra rb:List ai}(h:MJ key T o (ra++u) rb)(hu:Leq key rb u):MJ key T (u++o) ra rb:=by
 refine byC λXX=>?_;obtain ⟨s1,s2,s3⟩:=h.sa.cut;apply XX
 refine ⟨Gf.trans ?_ h.perm,s2.app h.so λx hx y hy=>h.la x (Ce _ hx) y hy,s1,h.sb,λx hx y hy=>?_,λx hx y hy=>?_⟩
 .rw[show ra++rb++(u++o)=ra++(rb++u)++o by simp only[Bn],show ra++u++rb++o=ra++(u++rb)++o by simp only[Bn]]
  exact Gf.append_right _ (Gf.append_left _ Ku)
 .rcases Bm.mp hy with hy | hy
  .exact s3 x hx y hy
  .exact h.la x (C7 _ hx) y hy
 .rcases Bm.mp hy with hy | hy
  .exact hu x hx y hy
  .exact h.lb x hx y hy
theorem MJ.takeB {T o u ra rb:List ai}(h:MJ key T o ra (rb++u))(hu:Leq key ra u):MJ key T (u++o) ra rb:=by
 refine byC λXX=>?_;obtain ⟨s1,s2,s3⟩:=h.sb.cut;apply XX
 refine ⟨by simpa[Bn] using h.perm,s2.app h.so λx hx y hy=>h.lb x (Ce _ hx) y hy,h.sa,s1,λx hx y hy=>?_,λx hx y hy=>?_⟩
 .rcases Bm.mp hy with hy | hy
  .exact hu x hx y hy
  .exact h.la x hx y hy
 .rcases Bm.mp hy with hy | hy
  .exact s3 x hx y hy
  .exact h.lb x (C7 _ hx) y hy
theorem MJ.endA {T o rb:List ai}(h:MJ key T o [] rb):(rb++o).Perm T/\Srt key (rb++o):=⟨by simpa using h.perm,h.sb.app h.so h.lb⟩
theorem MJ.endB {T o ra:List ai}(h:MJ key T o ra []):(ra++o).Perm T/\Srt key (ra++o):=⟨by simpa using h.perm,h.sa.app h.so h.la⟩
theorem MJ.first {T o ra rb:List ai}(h:MJ key T o ra rb)(hu:Leq key rb ra):(rb++ra++o).Perm T/\Srt key (rb++ra++o):=by
 obtain h':=MJ.takeA (u:=ra) (ra:=[]) (by simpa using h) hu
 have:=h'.endA
 rw[Bn];exact this
theorem Q3 {a:Array ai}{n:Nat}{x:ai}(h:x∈a.toList.take n):∃j,∃hj:j<a.size,j<n/\x=a[j]:=by
 refine byC λXX=>?_;obtain ⟨k,hk,rfl⟩:=Co h;apply XX
 rw[Dp,Db] at hk
 exact ⟨k,C2 hk (Ln _ _),C2 hk (D1 _ _),by simp⟩
theorem Zgw {a:Array ai}{n:Nat}(hn:1<=n)(h:n-1<a.size):a.toList.take n=a.toList.take (n-1)++[a[n-1]]:=by
 obtain e:n=n-1+1:=by exact Nb 0x18051a6a0c10acbba1001a1101ba10001a10101 Tt hn (Zc _ _)
 conv=>lhs;rw[e]
 rw[Lj,Bl (by simpa using h)]
 simp
theorem Zb9 (a:Array ai)(i n:Nat)(h:i<=n):a.toList.take n=a.toList.take i++(a.extract i n).toList:=by
 rw[G7]
 simp only[Di]
 conv=>lhs;rw[show n=i+(n-i) by exact Nc 0x180512610c201cbba1001a1101ba10001a10101 Tt h (Zc _ _)]
 exact List.take_add
theorem Us (a:Array ai)(n:Nat):(a.extract 0 n).toList=a.toList.take n:=by
 rw[G7]
 simp only[Di,Lg,Iq]
theorem Zh9 {a:Array ai}{i n:Nat}{x:ai}(h:x∈(a.extract i n).toList)(hn:n<=a.size):∃j,∃hj:j<a.size,i<=j/\j<n/\x=a[j]:=by
 refine byC λXX=>?_;obtain ⟨m,hm,rfl⟩:=Co h;apply XX
 obtain hm':m<n-i:=by simp at hm;exact Nd 0x1701702ad213cba1101a1111 Tt hm (Ys _ _)
 exact ⟨i+m,C2 (G1 hm') hn,Cc i m,G1 hm',by simp⟩
end
section
open SK
variable {a b:Array ai}
abbrev MJa (key:ai->T3)(a b out:Array ai)(na nb:Nat):Prop:=MJ key (a.toList++b.toList) out.reverse.toList (a.toList.take na) (b.toList.take nb)
structure Mih (key:ai->T3)(a b out:Array ai)(na nb:Nat):Prop where
 mi:MJa key a b out na nb
 ha:1<=na
 hb:2<=nb
 ha':na<=a.size
 hb':nb<=b.size
theorem Zcx {out:Array ai}{na nb:Nat}(h:MJa key a b out na nb)(e:na=0):Res key a b (a.extract 0 na++b.extract 0 nb++out.reverse):=by
 subst e
 have:=MJ.endA (show MJ key _ _ [] _ from h)
 unfold Res
 rw[C3,C3,Us,Us]
 exact this
theorem Zpw {out:Array ai}{na nb:Nat}(h:MJa key a b out na nb)(e:nb=0):Res key a b (a.extract 0 na++b.extract 0 nb++out.reverse):=by
 subst e
 have:=MJ.endB (show MJ key _ _ _ [] from h)
 unfold Res
 rw[C3,C3,Us,Us]
 simpa using this
theorem Zcy {out:Array ai}{na nb:Nat}(T:Two a₀ key a b)(h:MJa key a b out na nb)(e:nb=1):Res key a b (b.extract 0 nb++a.extract 0 na++out.reverse):=by
 subst e
 unfold Res
 rw[C3,C3,Us,Us]
 refine h.first λx hx y hy=>?_
 refine byC λXX=>?_;obtain ⟨j,hj,h1,rfl⟩:=Q3 hx;apply XX
 refine byC λXX=>?_;obtain ⟨i,hi,_,rfl⟩:=Q3 hy;apply XX
 obtain this:j=0:=Na 0x180b70acba1a11 Tt h1
 subst this
 exact T.first i hi hj
theorem Zj2 (out:Array ai)(x:ai):(out.push x).reverse.toList=x::out.reverse.toList:=by simp
theorem Zml (out u:Array ai):(out++u.reverse).reverse.toList=u.toList++out.reverse.toList:=by simp
theorem Zfn {out:Array ai}{na nb:Nat}(h:MJa key a b out na nb)(hn:1<=na)(ha:na-1<a.size)(hl:∀j (hj:j<b.size),j<nb->T3.le (key b[j]) (key a[na-1])=T1):MJa key a b (out.push a[na-1]) (na-1) nb:=by
 unfold MJa
 rw[Zj2]
 unfold MJa at h
 rw[Zgw hn ha] at h
 refine MJ.takeA (u:=[a[na-1]]) h λx hx y hy=>?_
 rw[Bo.mp hy]
 refine byC λXX=>?_;obtain ⟨j,hj,h1,rfl⟩:=Q3 hx;apply XX
 exact hl j hj h1
theorem Zj3 {out:Array ai}{na nb:Nat}(h:MJa key a b out na nb)(hn:1<=nb)(hb:nb-1<b.size)(hl:∀j (hj:j<a.size),j<na->T3.le (key a[j]) (key b[nb-1])=T1):MJa key a b (out.push b[nb-1]) na (nb-1):=by
 unfold MJa
 rw[Zj2]
 unfold MJa at h
 rw[Zgw hn hb] at h
 refine MJ.takeB (u:=[b[nb-1]]) h λx hx y hy=>?_
 rw[Bo.mp hy]
 refine byC λXX=>?_;obtain ⟨j,hj,h1,rfl⟩:=Q3 hx;apply XX
 exact hl j hj h1
theorem Zsy {out:Array ai}{na nb m:Nat}(h:MJa key a b out na nb)(hm:m<=na)(ha:na<=a.size)(hl:∀j (hj:j<b.size),j<nb->∀i (hi:i<a.size),m<=i->i<na->T3.le (key b[j]) (key a[i])=T1):MJa key a b (out++(a.extract m na).reverse) m nb:=by
 unfold MJa
 rw[Zml]
 unfold MJa at h
 rw[Zb9 a m na hm] at h
 refine MJ.takeA h λx hx y hy=>?_
 refine byC λXX=>?_;obtain ⟨j,hj,h1,rfl⟩:=Q3 hx;apply XX
 refine byC λXX=>?_;obtain ⟨i,hi,h2,h3,rfl⟩:=Zh9 hy ha;apply XX
 exact hl j hj h1 i hi h2 h3
theorem Zsz {out:Array ai}{na nb m:Nat}(h:MJa key a b out na nb)(hm:m<=nb)(hb:nb<=b.size)(hl:∀j (hj:j<a.size),j<na->∀i (hi:i<b.size),m<=i->i<nb->T3.le (key a[j]) (key b[i])=T1):MJa key a b (out++(b.extract m nb).reverse) na m:=by
 unfold MJa
 rw[Zml]
 unfold MJa at h
 rw[Zb9 b m nb hm] at h
 refine MJ.takeB h λx hx y hy=>?_
 refine byC λXX=>?_;obtain ⟨j,hj,h1,rfl⟩:=Q3 hx;apply XX
 refine byC λXX=>?_;obtain ⟨i,hi,h2,h3,rfl⟩:=Zh9 hy hb;apply XX
 exact hl j hj h1 i hi h2 h3
abbrev Znx:=Option (Array ai)×Nat×Nat×Array ai×Nat×Nat×Nat
def hiB (a b:Array ai)(minGallop acount:Nat)(out:Array ai)(na nb bcount:Nat):StateT ag Sem (ForInStep Znx):=do
 let nb:=nb-1
 let x ← elem' b nb
 let out:=out.push x
 if (nb == 1)=T1 then pure (.done (S5 (b.extract 0 nb++a.extract 0 na++out.reverse),na,nb,out,minGallop,acount,bcount))
 else do
  let y ← elem' a (na-1)
  let z ← U8 T1 y b 0 nb (nb-1)
  match z with
  | some at_=>
   let k:=nb-at_
   let jp:=λ(_:Unit) (nb:Nat) (out:Array ai)=>(do
    let na:=na-1
    let y ← elem' a na
    let out:=out.push y
    if (na == 0)=T1 then pure (.done (S5 (a.extract 0 na++b.extract 0 nb++out.reverse),na,nb,out,minGallop,acount,k))
    else if (decide (acount<7)&&decide (k<7))=T1 then pure (.done (N0,na,nb,out,minGallop,acount,k))
    else pure (.yield (N0,na,nb,out,minGallop,acount,k)):StateT ag Sem (ForInStep Znx))
   if k>0 then
    let out:=out++(b.extract at_ nb).reverse
    let nb:=at_
    if (nb == 1)=T1 then pure (.done (S5 (b.extract 0 nb++a.extract 0 na++out.reverse),na,nb,out,minGallop,acount,k))
    else if (nb == 0)=T1 then pure (.done (S5 (a.extract 0 na++b.extract 0 nb++out.reverse),na,nb,out,minGallop,acount,k))
    else jp () nb out
   else jp () nb out
  | _=>pure (.done (S5 (a.extract 0 na++b.extract 0 nb++out.reverse),na,nb,out,minGallop,acount,bcount))
noncomputable def hiA (a b:Array ai)(na nb:Nat)(out:Array ai)(acount bcount minGallop:Nat):StateT ag Sem (ForInStep Znx):=do
 Jl minGallop
 let x ← elem' b (nb-1)
 let z ← U8 F0 x a 0 na (na-1)
 match z with
 | some at_=>
  let k:=na-at_
  if k>0 then
   let out:=out++(a.extract at_ na).reverse
   let na:=at_
   if (na == 0)=T1 then pure (.done (S5 (a.extract 0 na++b.extract 0 nb++out.reverse),na,nb,out,minGallop,k,bcount))
   else hiB a b minGallop k out na nb bcount
  else hiB a b minGallop k out na nb bcount
 | _=>pure (.done (S5 (a.extract 0 na++b.extract 0 nb++out.reverse),na,nb,out,minGallop,acount,bcount))
theorem Zmm {st st':ag}{N mg ac bc:Nat}{out:Array ai}{na nb:Nat}{Q:ForInStep Znx->ag->Prop}(hk:kindOf st=κ)(T:Two a₀ key a b)(hM:Mih key a b out na nb)(hS:Same st st')
  (hl:∀j (hj:j<a.size) (hb:nb-1<b.size),j<na->T3.le (key a[j]) (key b[nb-1])=T1) (hp:na+nb<=N)
  (h1:∀r rest,Res key a b r->Q (.done (S5 r,rest)) st') (h2:∀out na nb mg ac bc,Mih key a b out na nb->na+nb<=N->Q (.done (N0,na,nb,out,mg,ac,bc)) st'/\Q (.yield (N0,na,nb,out,mg,ac,bc)) st') :
  wpS (model prog w) A E sK (hiB a b mg ac out na nb bc) Q st':=by
 refine byC λXX=>?_;obtain ⟨hmi,ha,hb,ha',hb'⟩:=hM;apply XX
 unfold hiB
 refine ah (Ym (show nb-1<b.size by exact Nc 0x1701621e2621c02acba10101a0101 Tt hb hb' (Zc _ _)) ?_)
 have m1:=Zj3 hmi (Na 0x16a0621e0c11 Tt hb) (show nb-1<b.size by exact Nc 0x1701621e2621c02acba10101a0101 Tt hb hb' (Zc _ _)) λj hj h=>hl j hj (by exact Nc 0x1701621e2621c02acba10101a0101 Tt hb hb' (Zc _ _)) h
 by_cases he:nb-1=1
 .refine Yp (by simpa using he) ?_
  refine ao (h1 _ _ ?_)
  exact Zcy T m1 he
 .refine Yq (by simpa using he) ?_
  refine ah (Ym (show na-1<a.size by exact Nc 0x17016a2621c02acba10101a11101 Tt ha ha' (Zc _ _)) (ah (W9 (hS.kind.trans hk) (T.ina _ _) T.inb (by exact Nc 0x165b01621c02acba1101a1101 Tt hb' (Zc _ _)) (Zem T.sb (by exact Nc 0x165b01621c02acba1101a1101 Tt hb' (Zc _ _))) (by exact Nc 0x1701621e2c01ac12acbba1001a1001ba11010001a010001 Tt hb (Zc _ _) (Zc _ _)) λm hmn g1 g2=>?_)))
  simp only[if_true,Dw] at g1 g2
  have fin : ∀ (out : Array ai) (nb' : Nat), MJa key a b out na nb' -> 2 <= nb' -> nb' = m -> nb' <= nb - 1 -> wpS (model prog w) A E sK (do
    let y ← elem' a (na-1)
    if (na-1 == 0)=T1 then pure (.done (S5 (a.extract 0 (na-1)++b.extract 0 nb'++(out.push y).reverse),na-1,nb',out.push y,mg,ac,nb-1-m))
    else if (decide (ac<7)&&decide (nb-1-m<7))=T1 then pure (.done (N0,na-1,nb',out.push y,mg,ac,nb-1-m))
    else pure (.yield (N0,na-1,nb',out.push y,mg,ac,nb-1-m)):StateT ag Sem (ForInStep Znx)) Q st':=by
   intro out nb' m2 hb2 hnb hle
   refine ah (Ym (show na-1<a.size by exact Nc 0x17016a2621c02acba10101a11101 Tt ha ha' (Zc _ _)) ?_)
   have m3:=Zfn m2 ha (show na-1<a.size by exact Nc 0x17016a2621c02acba10101a11101 Tt ha ha' (Zc _ _)) λj hj hj1=>by
    have:=g1 j (Nc 0x1701821702c1101 Tt hnb hj1)
    rw[Yz hj] at this
    exact Y7 (by simpa using this)
   by_cases he2:na-1=0
   .refine Yp (by simpa using he2) ?_
    refine ao (h1 _ _ ?_)
    exact Zcx m3 he2
   .refine Yq (by simpa using he2) ?_
    have hM':Mih key a b (out.push a[na-1]) (na-1) nb':=⟨m3,Na 0x16a0980bcba01a11 Tt he2,hb2,by exact Nc 0x1601621c02acba1101a1101 Tt ha' (Zc _ _),by exact Ni 0x1601621634803c42acba1111001a1011001 Tt hb' hmn hnb (Zc _ _)⟩
    refine Zbn (λu_=>?_) (λu_=>?_)
    .exact ao (h2 _ _ _ _ _ _ hM' (by exact Ng 0x1650126534261d2d811dc2d4ac03acbba1111001001a1111001001ba1111001001a1011001001 Tt hp hmn hnb (Zc _ _) (Zc _ _))).1
    .exact ao (h2 _ _ _ _ _ _ hM' (by exact Ng 0x1650126534261d2d811dc2d4ac03acbba1111001001a1111001001ba1111001001a1011001001 Tt hp hmn hnb (Zc _ _) (Zc _ _))).2
  by_cases hk0:nb-1-m>0
  .refine Yp hk0 ?_
   have m2:=Zsz (m:=m) m1 (Nb 0x1601601c11 Tt hmn) (by exact Nc 0x1601621c02acba1101a1101 Tt hb' (Zc _ _)) λj hj hj1 i hi hi1 hi2=>by
    have:=g2 i hi1 hi2
    rw[Yz hi] at this
    exact Yc (Zak T.sa hj (show na-1<a.size by exact Nc 0x17016a2621c02acba10101a11101 Tt ha ha' (Zc _ _)) (by exact Nc 0x1601702c12acba11001a11101 Tt hj1 (Zc _ _))) (by simpa using this)
   by_cases he2:m=1
   .refine Yp (by simpa using he2) ?_
    refine ao (h1 _ _ ?_)
    exact Zcy T m2 he2
   .refine Yq (by simpa using he2) ?_
    by_cases he3:m=0
    .refine Yp (by simpa using he3) ?_
     refine ao (h1 _ _ ?_)
     exact Zpw m2 he3
    .refine Yq (by simpa using he3) ?_
     exact fin _ _ m2 (Na 0x1621e0980a980bcbba001a011ba11a11 Tt he2 he3) rfl (Nb 0x1601601c11 Tt hmn)
  .refine Yq hk0 ?_
   exact fin _ _ m1 (by exact Nb 0x1621e0621e1980ac01acbba011001a0101ba101a101 Tt hb he (Zc _ _)) (by exact Nc 0x180161097b2c201cbba11a11ba101001a1001 Tt hmn hk0 (Zc _ _)) (Na 0x1600c1 Tt)
theorem Zs0 {st st':ag}{N mg ac bc:Nat}{out:Array ai}{na nb:Nat}{Q:ForInStep Znx->ag->Prop}(hk:kindOf st=κ)(T:Two a₀ key a b)(hM:Mih key a b out na nb)(hS:Same st st')(hp:na+nb<=N)
  (h1:∀r rest st',Same st st'->Res key a b r->Q (.done (S5 r,rest)) st') (h2:∀out na nb mg ac bc st',Same st st'->Mih key a b out na nb->na+nb<=N->Q (.done (N0,na,nb,out,mg,ac,bc)) st'/\Q (.yield (N0,na,nb,out,mg,ac,bc)) st') :
  wpS (model prog w) A E sK (hiA a b na nb out ac bc mg) Q st':=by
 have hM0:=hM
 refine byC λXX=>?_;obtain ⟨hmi,ha,hb,ha',hb'⟩:=hM;apply XX
 unfold hiA
 rw[Ur]
 refine ah (bn ?_)
 have hS':=hS.gal mg
 refine ah (Ym (show nb-1<b.size by exact Nc 0x1701621e2621c02acba10101a0101 Tt hb hb' (Zc _ _)) (ah (W9 (hS'.kind.trans hk) (T.inb _ _) T.ina (Nb 0x165b01601c11 Tt ha') (Zem T.sa (Nb 0x165b01601c11 Tt ha')) (by exact Nb 0x17016a1c01acba1001a1101 Tt ha (Zc _ _)) λm hmn g1 g2=>?_)))
 simp only[Bu,if_false,Dw] at g1 g2
 obtain hg1:∀j (hj:j<a.size) (hb:nb-1<b.size),j<m->T3.le (key a[j]) (key b[nb-1])=T1:=λj hj u_ hj1=>by
  have:=g1 j hj1
  rwa [Yz hj] at this
 by_cases hk0:na-m>0
 .refine Yp hk0 ?_
  obtain m2:=Zsy (m:=m) hmi (Nb 0x1601601c11 Tt hmn) ha' λj hj hj1 i hi hi1 hi2=>by
   have:=g2 i hi1 hi2
   rw[Yz hi] at this
   exact Yc (Zak T.sb hj (show nb-1<b.size by exact Nc 0x1701621e2621c02acba10101a0101 Tt hb hb' (Zc _ _)) (by exact Nc 0x1601702c12acba11001a11101 Tt hj1 (Zc _ _))) (Y7 this)
  by_cases he:m=0
  .refine Yp (by simpa using he) ?_
   refine ao (h1 _ _ _ hS' ?_)
   exact Zcx m2 he
  .refine Yq (by simpa using he) ?_
   exact Zmm hk T ⟨m2,Na 0x16a0980bcba01a11 Tt he,hb,Nc 0x1601621602c111 Tt ha' hmn,hb'⟩ hS' hg1 (Nd 0x16501265312603c111 Tt hp hmn) (λr rest hR=>h1 r rest _ hS' hR) λout na nb mg ac bc hM' hp'=>h2 out na nb mg ac bc _ hS' hM' hp'
 .refine Yq hk0 ?_
  exact Zmm hk T hM0 hS' (λj hj hb hj1=>hg1 j hj hb (by exact Nd 0x170197b2703c231cba111001a1011 Tt hk0 hj1 (Zc _ _))) hp (λr rest hR=>h1 r rest _ hS' hR) λout na nb mg ac bc hM' hp'=>h2 out na nb mg ac bc _ hS' hM' hp'
end
section
open SK
namespace jr
def S (a:Array ai)(b:Array ai)(st:ag)(Q:Array ai->ag->Prop):Prop:=∀(hk:kindOf st=κ) (T:Two a₀ key a b) (h:∀r st',Same st st'->Res key a b r->Q r st'),wpS (model prog w) A E sK (Zfk a b) Q st
def p:=Wo ⟨(#[],#[],(ag.mk' oneType' #[] #[] 7 N0),(λu_ v_=>True))⟩ (uc4 S)
def a:=p.1
def b:=p.2.1
def st:=p.2.2.1
def Q:=p.2.2.2
set_option tactic.hygienic true in
theorem pf:S a b st Q:=by
 intro hk T h
 rw[Zj1]
 have pa:=T.pa
 have pb:=T.pb
 refine ah (cb (br ⟨rfl,?_⟩))
 refine ah (Ym (show a.size-1<a.size by exact Nb 0x17016a1c01acba1001a1101 Tt pa (Zc _ _)) ?_)
 have m0:MJa key a b #[a[a.size-1]] (a.size-1) b.size:=by
  obtain this:MJa key a b #[] a.size b.size:=by
   unfold MJa
   rw[Gv (l:=a.toList) (by simp),Gv (l:=b.toList) (by simp)]
   exact ⟨by simp,Gn.nil,T.sa,T.sb,λx hx y hy=>by simp at hy,λx hx y hy=>by simp at hy⟩
  exact Zfn this pa (by exact Nb 0x17016a1c01acba1001a1101 Tt pa (Zc _ _)) λj hj u_=>T.last j hj (by exact Nb 0x17016a1c01acba1001a1101 Tt pa (Zc _ _))
 by_cases h1:a.size-1=0
 .refine Yp (by simpa using h1) ?_
  refine ao (h _ st (Same.refl _) ?_)
  exact Zcx m0 h1
 .refine Yq (by simpa using h1) ?_
  by_cases h2:b.size=1
  .refine Yp (by simpa using h2) ?_
   refine ao (h _ st (Same.refl _) ?_)
   exact Zcy T m0 h2
  .refine Yq (by simpa using h2) ?_
   refine ah (bw ?_)
   refine ah (bg (az (I:=λx c st'=>Same st st'/\∃na nb out mg,c=(N0,na,nb,out,mg)/\Mih key a b out na nb/\x+na+nb<a.size+b.size)
    (Q:=λc st'=>Same st st'/\∃r rest,c=(S5 r,rest)/\Res key a b r) ?step ?fin ⟨Same.refl _,a.size-1,b.size,#[a[a.size-1]],_,rfl,⟨m0,Na 0x16a0980bcba01a11 Tt h1,Na 0x1621e06a0980acba011a101 Tt pb h2,by exact Nb 0x1601c01acba101a101 Tt (Zc _ _),Na 0x1600c1 Tt⟩,by exact Nc 0x1755b015216a2c02acba1001a1101 Tt pa (Zc _ _)⟩) ?post)
   case post=>
    intro c st' hX2
    refine byC λhnX=>?_
    obtain ⟨hS,r,rest,rfl,hR⟩:=hX2
    refine hnX ?_
    clear hnX
    exact ao (h r st' hS hR)
   case fin=>
    intro c st' hX2
    refine byC λhnX=>?_
    obtain ⟨hS,na,nb,out,mg,rfl,hM,hp⟩:=hX2
    refine hnX ?_
    clear hnX
    exact (arB hp).elim
   case step=>
    intro x c st' u_ hx hX5
    refine byC λhnX=>?_
    obtain ⟨hS,na,nb,out,mg,rfl,hM,hp⟩:=hX5
    refine hnX ?_
    clear hnX
    refine ah (bg (az (I:=λy c st'=>Same st st'/\∃na' nb' out ac bc,c=(N0,na',nb',out,ac,bc)/\Mih key a b out na' nb'/\na'+nb'+y<=na+nb)
     (Q:=λc st'=>Same st st'/\((∃r rest,c=(S5 r,rest)/\Res key a b r)\/∃na' nb' out ac bc,c=(N0,na',nb',out,ac,bc)/\Mih key a b out na' nb'/\na'+nb'+1<=na+nb)) ?step1 ?fin1 ⟨hS,na,nb,out,0,0,rfl,hM,Nb 0x165501b501c1 Tt⟩) ?post1)
    case fin1=>
     intro c st' hX2
     refine byC λhnX=>?_
     obtain ⟨hS,na',nb',out,ac,bc,rfl,hM,hp⟩:=hX2
     refine hnX ?_
     clear hnX
     exact ⟨hS,.inr ⟨na',nb',out,ac,bc,rfl,hM,by exact Ng 0x165501a5236a4655011d523bd1db52d4cba111001a0101 Tt pb hp (Q8 _ _)⟩⟩
    case step1=>
     clear hM
     intro y c st' u_ hy hX5
     refine byC λhnX=>?_
     obtain ⟨hS,na',nb',out,ac,bc,rfl,hM,hp⟩:=hX5
     refine hnX ?_
     clear hnX
     refine byC λXX=>?_;obtain ⟨hmi,ha,hb,ha',hb'⟩:=hM;apply XX;clear XX
     have la:na'-1<a.size:=by exact Nc 0x17016a1621c02acba10101a11001 Tt pa ha' (Zc _ _)
     have lb:nb'-1<b.size:=by exact Nc 0x1701621e2621c02acba10101a0101 Tt hb hb' (Zc _ _)
     refine ah (Ym lb (ah (Ym la (ah (HL _ _ (T.inb _ lb) (T.ina _ la) st' _ (hS.kind.trans hk) ?_)))))
     cases hl:T3.le (key a[na'-1]) (key b[nb'-1]) with
     | false=>
      refine Yp rfl ?_
      refine ah (Ym la ?_)
      have m1:=Zfn hmi ha la λj hj hj1=>Yc (Zak T.sb hj lb (by exact Nc 0x1601702c12acba11001a11101 Tt hj1 (Zc _ _))) (Y7 hl)
      by_cases he:na'-1=0
      .refine Yp (by simpa using he) ?_
       refine ao ⟨hS,.inl ⟨_,_,rfl,?_⟩⟩
       exact Zcx m1 he
      .refine Yq (by simpa using he) ?_
       have hM':Mih key a b (out.push a[na'-1]) (na'-1) nb':=⟨m1,Na 0x16a0980bcba01a11 Tt he,hb,Nb 0x1601701c11 Tt la,hb'⟩
       refine Zbn (λu_=>?_) (λu_=>?_)
       .exact ao ⟨hS,.inr ⟨_,_,_,_,_,rfl,hM',by exact Nf 0x165501a523655411d5236a4c04acba11001a11101 Tt hp ha (Zc _ _)⟩⟩
       .exact ao ⟨hS,_,_,_,_,_,rfl,hM',by exact Nf 0x16550152a5346551d125346a1dc01dacba11001a11101 Tt hp ha (Zc _ _)⟩
     | true=>
      refine Yq (λh=>Lw h) ?_
      refine ah (Ym lb ?_)
      have m1:=Zj3 hmi (Na 0x16a0621e0c11 Tt hb) lb λj hj hj1=>Yc (Zak T.sa hj la (by exact Nc 0x1601702c12acba11001a11101 Tt hj1 (Zc _ _))) hl
      by_cases he:nb'-1=1
      .refine Yp (by simpa using he) ?_
       refine ao ⟨hS,.inl ⟨_,_,rfl,?_⟩⟩
       exact Zcy T m1 he
      .refine Yq (by simpa using he) ?_
       have hM':Mih key a b (out.push b[nb'-1]) na' (nb'-1):=⟨m1,ha,by exact Nb 0x1621e0621e1980ac01acbba011001a0101ba101a101 Tt hb he (Zc _ _),ha',Nb 0x1601701c11 Tt lb⟩
       refine Zbn (λu_=>?_) (λu_=>?_)
       .exact ao ⟨hS,.inr ⟨_,_,_,_,_,rfl,hM',by exact Nf 0x165501a523655041d523621e4c14acba11001a0011 Tt hp hb (Zc _ _)⟩⟩
       .exact ao ⟨hS,_,_,_,_,_,rfl,hM',by exact Nf 0x16550152a53465501d2534621e1dc11dacba11001a0011 Tt hp hb (Zc _ _)⟩
    case post1=>
     intro c st' hX2
     refine byC λhnX=>?_
     obtain ⟨hS,hor⟩:=hX2
     refine hnX ?_
     clear hnX
     rcases hor with ⟨r,rest,rfl,hR⟩ | ⟨na',nb',out,ac,bc,rfl,hM,hp1⟩
     .exact ao ⟨hS,r,_,rfl,hR⟩
     .skip
      refine ah (cb (br ⟨rfl,?_⟩))
      refine ah (bg (az (I:=λy c st'=>Same st st'/\∃na' nb' out mg ac bc,c=(N0,na',nb',out,mg,ac,bc)/\Mih key a b out na' nb'/\na'+nb'<=na+nb-1)
       (Q:=λc st'=>Same st st'/\((∃r rest,c=(S5 r,rest)/\Res key a b r)\/∃na' nb' out mg ac bc,c=(N0,na',nb',out,mg,ac,bc)/\Mih key a b out na' nb'/\na'+nb'<=na+nb-1)) ?step2 ?fin2 ⟨hS,na',nb',out,_,ac,bc,rfl,hM,by exact Ni 0x16501265501a534c2534acba11001a11101 Tt hp1 (Zc _ _)⟩) ?post2)
      case fin2=>
       intro c st' hX2
       refine byC λhnX=>?_
       obtain ⟨hS,na',nb',out,mg,ac,bc,rfl,hM,hp⟩:=hX2
       refine hnX ?_
       clear hnX
       exact ⟨hS,.inr ⟨na',nb',out,mg,ac,bc,rfl,hM,hp⟩⟩
      case post2=>
       intro c st' hX2
       refine byC λhnX=>?_
       obtain ⟨hS,hor⟩:=hX2
       refine hnX ?_
       clear hnX
       rcases hor with ⟨r,rest,rfl,hR⟩ | ⟨na',nb',out,mg,ac,bc,rfl,hM,hp1⟩
       .exact ao ⟨hS,r,_,rfl,hR⟩
       .dsimp only
        rw[Ur]
        exact ah (bn (ao ⟨hS.gal _,na',nb',out,_,rfl,hM,by exact lin [(.lt (.a (.a .v0 .v5) .v6) (.a .v3 .v4)),(.le (.a .v1 .v2) .v7),(.sb .v7 (.a .v5 .v6) .k1),(.le (.a (.a .v8 .v9) .k1) (.a .v5 .v6))] (.lt (.a (.a (.a .v0 .k1) .v1) .v2) (.a .v3 .v4)) (.s (.d 111101) (.d 11110101)) rfl [_,_,_,_,_,_,_,_,_,_] [] hp hp1 (Zc _ _) ‹_›⟩))
      case step2=>
       clear hM hp1 hS out na' nb' ac bc
       intro y c st' u_ hy hX5
       refine byC λhnX=>?_
       obtain ⟨hS,na',nb',out,mg,ac,bc,rfl,hM,hp⟩:=hX5
       refine hnX ?_
       clear hnX
       have fin : ∀ mg', wpS (model prog w) A E sK (hiA a b na' nb' out ac bc mg') (λr st' => match r with
         | .done c'=>Same st st'/\((∃r rest,c'=(S5 r,rest)/\Res key a b r)\/∃na' nb' out mg ac bc,c'=(N0,na',nb',out,mg,ac,bc)/\Mih key a b out na' nb'/\na'+nb'<=na+nb-1)
         | .yield c'=>Same st st'/\∃na' nb' out mg ac bc,c'=(N0,na',nb',out,mg,ac,bc)/\Mih key a b out na' nb'/\na'+nb'<=na+nb-1) st':=λmg'=>
        Zs0 hk T hM hS hp (λr rest st2 hS2 hR=>⟨hS2,.inl ⟨r,rest,rfl,hR⟩⟩) λout na nb mg ac bc st2 hS2 hM2 hp2=>⟨⟨hS2,.inr ⟨_,_,_,_,_,_,rfl,hM2,hp2⟩⟩,hS2,_,_,_,_,_,_,rfl,hM2,hp2⟩
       by_cases hg:mg>1
       .refine Yp hg ?_;exact bg (fin (mg-1)) λr st2 hq=>by cases r <;> exact hq
       .refine Yq hg ?_;exact bg (fin mg) λr st2 hq=>by cases r <;> exact hq
end jr
theorem Zj4 {a:Array ai}{b:Array ai}{st:ag}{Q:Array ai->ag->Prop}:jr.S a b st Q:=Yi (S:=uc4 jr.S) jr.pf (a,b,st,Q)
end
section
open SK
variable {a b:Array ai}
end
theorem Zj5 (i:Nat):mergeAt' i=(do
 let s ← get
 let (S5 (sa,na,power),S5 (sb,nb,_)):=((pendingOf s)[i]?,(pendingOf s)[i + 1]?) | unsupported "internal:list.sort.pending"
 set (ag.mk' (kindOf s) (arrOf s) (((pendingOf s).setIfInBounds i (sa,na+nb,power)).eraseIdxIfInBounds (i+1)) (gallopOf s) (failedOf s))
 let S5 k ← U8 F0 (← elem' (arrOf s) sb) (arrOf s) sa na 0 | return F0
 let (sa,na):=(sa+k,na-k)
 if na == 0 then return T1
 let S5 nb ← U8 T1 (← elem' (arrOf s) (sa+na-1)) (arrOf s) sb nb (nb-1) | return F0
 if nb == 0 then return T1
 let x:=(arrOf s).extract sa sb
 let y:=(arrOf s).extract sb (sb+nb)
 let merged ← if na<=nb then Zfj x y else Zfk x y
 modify λs=>setArr s (merged.toList.zipIdx.foldl (λa (p,j)=>a.setIfInBounds (sa+j) p) (arrOf s))
 return (failedOf (← get)).isNone):=rfl
noncomputable def Zfo (xs:Array ai)(off:Nat)(l:List (ai×Nat)):Array ai:=l.foldl (λa p=>a.setIfInBounds (off+p.2) p.1) xs
theorem Zcz (off:Nat):∀(r:List ai) (n:Nat) (xs:Array ai),off+n+r.length<=xs.size->∀k:Nat,
  (Zfo xs off (r.zipIdx n))[k]?=if off+n<=k/\k<off+n+r.length then r[k-(off+n)]? else xs[k]?
 | [],n,xs,_,k=>by rw[gq (by simp)];rfl
 | x::r,n,xs,h,k=>by
  rw[List.zipIdx_cons]
  show (Zfo (xs.setIfInBounds (off+n) x) off (r.zipIdx (n+1)))[k]?=_
  simp only[C5] at h ⊢
  rw[Zcz off r (n+1) _ (by simp;exact Nd 0x1655051a236550152a3c11 Tt h)]
  by_cases h1:k=off+n
  .subst h1
   rw[gq (by exact Nc 0x19f65051a501750155051a2c1 Tt),gp (by exact Nc 0x1f65015017501550152acba1a1 Tt)]
   simp[show off+n<xs.size by exact Nd 0x1750126550153a2c11 Tt h]
  .by_cases h2:off+(n+1)<=k/\k<off+(n+1)+r.length
   .rw[gp h2,gp (by exact Nd 0x1f6501272550153af65051a27255051a3cba11a101 Tt h2)]
    rw[show k-(off+n)=k-(off+(n+1))+1 by exact Nf 0x18051af65253a47455253a1dc145253ac04523cbbba100010001a0100001ba110010001a0100001bba10000101a0100001ba10010101a0100001 Tt h2 (Zc _ _) (Zc _ _)];simp
   .rw[gq h2,gq (by exact Nd 0x19f6501272550153a9825019f65051a27255051a3cbba101a101ba0011a0101 Tt h1 h2)]
    rw[Array.getElem?_setIfInBounds,gq (by exact Nc 0x1985012982501cba101a011 Tt h1)]
theorem Zny {xs r:Array ai}{off e:Nat}(he:off<=e)(hs:e<=xs.size)(hp:r.toList.Perm (xs.extract off e).toList):(Zfo xs off (r.toList.zipIdx)).Perm xs:=by
 have hl:r.toList.length=e-off:=by rw[hp.length_eq];simp;exact Nf 0x1801623ad014c431dc121dcbbbba10001a10001ba10001a10001bba1100100101a1000110101ba1100110101a1000100101bbba1001a1001ba1001a1001bba1011a1011ba1011a1011 Tt hs (Ys _ _) (Zc _ _) (Zc _ _)
 obtain key:(Zfo xs off (r.toList.zipIdx)).toList=xs.toList.take off++r.toList++xs.toList.drop e:=by
  apply List.ext_getElem?
  intro k
  rw[Array.getElem?_toList,Zcz off r.toList 0 xs (by exact Ni 0x16550b12603632814c430cba1011001a1111001 Tt he hs hl (Zc _ _))]
  rw[Bn]
  by_cases h1:k<off
  .rw[gq (by exact Nc 0x19f650b171550b2710c101 Tt h1),Br (by simp;exact Ni 0x1701623634702ad124cba1001001a1111001 Tt he hs h1 (Ys _ _)),K5 h1];simp
  .rw[Bh (by simp;exact Nd 0x16019712ad023cba1101a1111 Tt h1 (Ys _ _))]
   obtain e0:(xs.toList.take off).length=off:=by simp;exact Nd 0x1801612623ad013cbba100001a111001ba10001a10011 Tt he hs (Ys _ _)
   rw[e0]
   by_cases h2:k<e
   .rw[gp (by exact Ni 0x1f650b171550b28239710714c340cbba1001a1001ba10101001a000111 Tt hl h1 h2 (Zc _ _)),Br (by exact Nf 0x17018129734731dc21d4c034cbba1010100101a1011100101ba000111a000111 Tt hl h1 h2 (Zc _ _) (Zc _ _))];simp
   .rw[gq (by exact Ni 0x19f650b171550b28239714c340cba0110101a1110001 Tt hl h2 (Zc _ _)),Bh (by exact Nf 0x16018029734c241dc131dcbba1101010001a1101010101ba1100010101a1100010001 Tt hl h2 (Zc _ _) (Zc _ _)),List.getElem?_drop,hl]
    rw[show e+(k-off-(e-off))=k by exact Nf 0x1850126309720c11d4c403c1d23cbbbba100001010001a1101010001ba110001010001a1101010001bba100101010001a1100010001ba110101010001a1100010001bbba10001000101a11101000101ba10001010101a10101000101bba10101a10101ba10101a10101 Tt he h2 (Zc _ _) (Zc _ _) (Zc _ _)];simp
 rw[G5,key]
 obtain e1:xs.toList=xs.toList.take off++(xs.extract off e).toList++xs.toList.drop e:=by
  rw[← Zb9 xs off e he,Gz]
 conv=>rhs;rw[e1]
 exact Gf.append_right _ (Gf.append_left _ hp)
section
open SK
theorem SA.size {st:ag}(h:SA a₀ κ st):(arrOf st).size=a₀.size:=h.perm.size_eq
theorem Zs1 {U:Type}{M:Model}{t st:U}{Q:PUnit->U->Prop}(h:Q ⟨⟩ t):wpS M A E sK (set t:StateT U Sem PUnit) Q st:=by
 unfold wpS;exact ar ⟨rfl,h⟩
theorem Zs2 {xs:Array ai}{i j:Nat}{x:ai}(h:x∈(xs.extract i j).toList)(hj:j<=xs.size):∃t,i<=t/\t<j/\KS key xs t=key x:=by
 refine byC λXX=>?_;obtain ⟨t,ht,h1,h2,rfl⟩:=Zh9 h hj;apply XX
 exact ⟨t,h1,h2,Yz ht⟩
theorem Zmn {xs:Array ai}{i j:Nat}(hs:SegS key xs i j)(hj:j<=xs.size):Srt key (xs.extract i j).toList:=by
 rw[← srt_seg]
 intro p q _ hpq hq
 obtain hsz:(xs.extract i j).size=j-i:=by simp;exact Nf 0x1801623c124c01d4ad1d23cbbbba10010001001a11010001001ba10010101001a11010101001bba10010101a10010101ba10010001a10010001bbba1000101001a1000101011ba1010101a1010101bba1010101001a1010101011ba1000101a1000101 Tt hj (Zc _ _) (Zc _ _) (Ys _ _)
 rw[hsz] at hq
 obtain g:∀p,p<j-i->KS key (xs.extract i j) p=KS key xs (i+p):=λp hp=>Xg (by rw[Array.getElem?_extract];rw[gp (by exact Ng 0x1701623704c421dc12d1dad2d23cbbba101010001001a111010001001ba101010101001a111010101001bba101010101a101010101ba101010001a101010001 Tt hj hp (Zc _ _) (Zc _ _) (Ys _ _))])
 rw[g p (by exact Nc 0x1701602721c111 Tt hpq hq),g q hq]
 exact hs _ _ (by exact Nb 0x160501c1 Tt) (Nc 0x16501502612c11 Tt hpq) (by exact Nd 0x175012713c320cba1101a0101 Tt hq (Zc _ _))
namespace jq
def S (st:ag)(i:Nat)(sa:Nat)(na:Nat)(pw:Nat)(sb:Nat)(nb:Nat)(pw2:Nat)(Q:Bool->ag->Prop):Prop:=∀(hA:SA a₀ κ st) (h1:(pendingOf st)[i]?=S5 (sa,na,pw)) (h2:(pendingOf st)[i+1]?=S5 (sb,nb,pw2)) (hsb:sb=sa+na) (hna:1<=na) (hnb:1<=nb) (hsz:sb+nb<=a₀.size) (hs1:SegS key (arrOf st) sa sb) (hs2:SegS key (arrOf st) sb (sb+nb)) (h:∀st',SA a₀ κ st'->pendingOf st'=((pendingOf st).setIfInBounds i (sa,na+nb,pw)).eraseIdxIfInBounds (i+1)->(∀k:Nat,k<sa\/sb+nb<=k->(arrOf st')[k]?=(arrOf st)[k]?)->SegS key (arrOf st') sa (sb+nb)->Q T1 st'),wpS (model prog w) A E sK (mergeAt' i) Q st
def p:=Wo ⟨((ag.mk' oneType' #[] #[] 7 N0),0,0,0,0,0,0,0,(λu_ v_=>True))⟩ (uc9 S)
def st:=p.1
def i:=p.2.1
def sa:=p.2.2.1
def na:=p.2.2.2.1
def pw:=(sk4 p).1
def sb:=(sk4 p).2.1
def nb:=(sk4 p).2.2.1
def pw2:=(sk4 p).2.2.2.1
def Q:=sk8 p
theorem pf:S st i sa na pw sb nb pw2 Q:=by
 intro hA h1 h2 hsb hna hnb hsz hs1 hs2 h
 have hin:∀i (hi:i<(arrOf st).size),(arrOf st)[i]∈a₀.toList:=λi hi=>Za9 hA.perm hi
 have hz:=hA.size
 rw[Zj5]
 refine ah (bw ?_)
 dsimp only
 rw[h1,h2]
 dsimp only
 refine ah (Zs1 ?_)
 have key0:∀st':ag,st'=ag.mk' (kindOf st) (arrOf st) (((pendingOf st).setIfInBounds i (sa,na+nb,pw)).eraseIdxIfInBounds (i+1)) (gallopOf st) (failedOf st)->SegS key (arrOf st) sa (sb+nb)->Q T1 st':=λst' e hs=>by
  subst e;exact h _ ⟨hA.perm,hA.kind,hA.ok⟩ rfl (λu_ v_=>rfl) hs
 refine ah (Ym (show sb<(arrOf st).size by exact Nd 0x17016a265023813c11101 Tt hnb hsz hz) (ah (W9 hA.kind (hin _ _) hin (Nf 0x1650128350165341d821dc101101 Tt hsb hsz hz) (hsb▸hs1) (Na 0x17b06a0c11 Tt hna) λk hkn g1 g2=>?_)))
 dsimp only
 simp only[Bu,if_false] at g1 g2
 have f1:∀t,sa<=t->t<sa+k->T3.le (KS key (arrOf st) t) (KS key (arrOf st) sb)=T1:=λt ht1 ht2=>by
  have:=g1 (t-sa) (by exact Nd 0x170162373521c032cba10101a11101 Tt ht1 ht2 (Zc _ _))
  rw[show sa+(t-sa)=t by exact Nc 0x185012602c120cbba10001a10101ba1001a1101 Tt ht1 (Zc _ _)] at this
  rw[Yz (show sb<(arrOf st).size by exact Nd 0x17016a265023813c11101 Tt hnb hsz hz)];exact this
 obtain f2:∀t,sa+k<=t->t<sb->T3.le (KS key (arrOf st) sb) (KS key (arrOf st) t)=T1:=λt ht1 ht2=>by
  have:=g2 (t-sa) (by exact Nd 0x160165203c132cba11001a11101 Tt ht1 (Zc _ _)) (by exact Ni 0x1701825316a1742c043cba1100101a1001001 Tt hsb hna ht2 (Zc _ _))
  rw[show sa+(t-sa)=t by exact Nd 0x18501265032c120cbba10001a10101ba1001a1101 Tt ht1 (Zc _ _)] at this
  rw[Yz (show sb<(arrOf st).size by exact Nd 0x17016a265023813c11101 Tt hnb hsz hz)];exact Y7 this
 by_cases hk0:na-k=0
 .rw[gp (by simpa using hk0)]
  refine ao (key0 _ rfl λp q hp hpq hq=>?_)
  by_cases c1:q<sb
  .exact hs1 p q hp hpq c1
  .by_cases c2:sb<=p
   .exact hs2 p q c2 hpq hq
   .exact Yc (f1 p hp (by exact Nf 0x1705128351481db9630c1d42cba110101001a1100011 Tt hsb hk0 c2 (Zc _ _))) (hs2 sb q (Bp _) (Nb 0x16019710c11 Tt c1) hq)
 .rw[gq (by simpa using hk0)]
  have hlast:sa+k+(na-k)-1=sb-1:=by exact Ng 0x18018253461d4c12ac05531d2dac2d41dcbbbba1100010001001a1100010001101ba1100010101001a1100010101101bba1000010101a1000010101ba1000010001a1000010001bbba101000101001a101100101001ba100010101a100010101bba101010101001a101110101001ba100000101a100000101 Tt hsb hkn (Zc _ _) (Zc _ _) (Zc _ _)
  rw[hlast]
  refine ah (Ym (show sb-1<(arrOf st).size by exact Ni 0x17016a265324814c03acba1110101a1110101 Tt hnb hsz hz (Zc _ _)) (ah (W9 hA.kind (hin _ _) hin (Nd 0x16501265013823c1101 Tt hsz hz) hs2 (by exact Nb 0x17016a1c01acba1001a1101 Tt hnb (Zc _ _)) λm hmn g3 g4=>?_)))
  dsimp only
  simp only[if_true] at g3 g4
  obtain f3:∀t,sb<=t->t<sb+m->T3.le (KS key (arrOf st) t) (KS key (arrOf st) (sb-1))=T1:=λt ht1 ht2=>by
   have:=g3 (t-sb) (by exact Nd 0x170162373521c032cba10101a11101 Tt ht1 ht2 (Zc _ _))
   rw[show sb+(t-sb)=t by exact Nc 0x185012602c120cbba10001a10101ba1001a1101 Tt ht1 (Zc _ _)] at this
   rw[Yz (show sb-1<(arrOf st).size by exact Ni 0x17016a265324814c03acba1110101a1110101 Tt hnb hsz hz (Zc _ _))];exact Y7 (by simpa using this)
  have f4:∀t,sb+m<=t->t<sb+nb->T3.le (KS key (arrOf st) (sb-1)) (KS key (arrOf st) t)=T1:=λt ht1 ht2=>by
   have:=g4 (t-sb) (by exact Nd 0x160165203c132cba11001a11101 Tt ht1 (Zc _ _)) (by exact Nd 0x17016a172531c023cba10101a11001 Tt hnb ht2 (Zc _ _))
   rw[show sb+(t-sb)=t by exact Nd 0x18501265032c120cbba10001a10101ba1001a1101 Tt ht1 (Zc _ _)] at this
   rw[Yz (show sb-1<(arrOf st).size by exact Ni 0x17016a265324814c03acba1110101a1110101 Tt hnb hsz hz (Zc _ _))];simpa using this
  by_cases hm0:m=0
  .rw[gp (by simpa using hm0)]
   refine ao (key0 _ rfl λp q hp hpq hq=>?_)
   by_cases c1:q<sb
   .exact hs1 p q hp hpq c1
   .by_cases c2:sb<=p
    .exact hs2 p q c2 hpq hq
    .exact Yc (hs1 p (sb-1) hp (by exact Nc 0x16019620c12acba11001a11101 Tt c2 (Zc _ _)) (by exact Nc 0x17019612c01acba1001a1101 Tt c2 (Zc _ _))) (f4 q (Nc 0x16501281b9720c1101 Tt hm0 c1) hq)
  .rw[gq (by simpa using hm0)]
   have hx:∀j (hj:j<((arrOf st).extract (sa+k) sb).size),((arrOf st).extract (sa+k) sb)[j]=(arrOf st)[sa+k+j]'(by simp at hj;exact ar3 hj):=λj hj=>by simp
   have hy:∀j (hj:j<((arrOf st).extract sb (sb+m)).size),((arrOf st).extract sb (sb+m))[j]=(arrOf st)[sb+j]'(by simp at hj;exact ar3 hj):=λj hj=>by simp
   have zx:((arrOf st).extract (sa+k) sb).size=na-k:=by simp;exact lin [(.eq .v2 (.a .v3 .v4)),(.le (.a .v2 .v5) .v6),(.eq .v7 .v6),(.sb .v1 .v4 .v8),(.sb .v0 .v9 (.a .v3 .v8)),(.mi .v9 .v2 .v7)] (.eq .v0 .v1) (.s (.s (.s (.s (.d 1101000010001001) (.d 1101101010001001)) (.s (.d 1101000010101001) (.d 1101101010101001))) (.s (.s (.d 1100000010101) (.d 1100000010101)) (.s (.d 1100000010001) (.d 1100000010001)))) (.s (.s (.s (.d 111000000101001) (.d 111000000101011)) (.s (.d 110000010101) (.d 110000010101))) (.s (.s (.d 111000010101001) (.d 111000010101011)) (.s (.d 110000000101) (.d 110000000101))))) rfl [_,_,_,_,_,_,_,_,_,_] [] hsb hsz hz (Zc _ _) (Zc _ _) (Ys _ _)
   have zy:((arrOf st).extract sb (sb+m)).size=m:=by simp;exact Ng 0x18016523481d4613c02d2ad2d5211dcbbba10000001001a11011001001ba10000101001a11011101001bba1000001001a1000001011ba1000001a1000001 Tt hsz hz hmn (Zc _ _) (Ys _ _)
   have T:Two a₀ key ((arrOf st).extract (sa+k) sb) ((arrOf st).extract sb (sb+m)):=by
    refine ⟨λj hj=>by rw[hx j hj];exact hin _ _,λj hj=>by rw[hy j hj];exact hin _ _,Zmn (λp q a1 a2 a3=>hs1 p q (by exact Nc 0x160165021c11 Tt a1) a2 a3) (by exact Nd 0x160165023813c1101 Tt hsz hz),Zmn (λp q a1 a2 a3=>hs2 p q a1 a2 (by exact Nd 0x17051263270513c111 Tt hmn a3)) (by exact Ni 0x16501265034824613c11011 Tt hsz hz hmn),by exact Nb 0x16a0801981bcba0101a1011 Tt zx hk0,by exact Nb 0x16a0801981bcba0101a1011 Tt zy hm0,λj hj h0=>?_,λj hj h0=>?_⟩
    .rw[hx j hj,hy 0 h0]
     have:=f2 (sa+k+j) (Nc 0x1650155012c1 Tt) (by exact Ng 0x175501238350481d2d721dc2d41cba10110101a00010101 Tt hsb zx hj (Zc _ _))
     rw[Yz (by exact Nd 0x17016a265023813c11101 Tt hnb hsz hz),Yz (by exact lin [(.eq .v4 (.a .v0 .v5)),(.le (.a .v4 .v6) .v7),(.eq .v3 .v7),(.eq .v8 .v9),(.lt .v2 .v8),(.sb .v9 .v5 .v1)] (.lt (.a (.a .v0 .v1) .v2) .v3) (.s (.d 110110110101) (.d 100000010101)) rfl [_,_,_,_,_,_,_,_,_,_] [] hsb hsz hz zx hj (Zc _ _))] at this
     exact this
    .rw[hx _ h0,hy j hj]
     have:=f3 (sb+j) (by exact Nb 0x160501c1 Tt) (Nd 0x17501502832713c1101 Tt zy hj)
     rw[Yz (by exact Ng 0x1750126503482461d382d1d712dc11011101 Tt hsz hz hmn zy hj),Yz (by exact Ni 0x17016a265324814c03acba1110101a1110101 Tt hnb hsz hz (Zc _ _))] at this
     obtain e:sa+k+(((arrOf st).extract (sa+k) sb).size-1)=sb-1:=by exact Ng 0x1855012384381d2d721dc455012dac21dacbbba101010010001a101010010101ba101000010101a101000010001bba110101001a110101001ba110101101a110101101 Tt hlast zx h0 (Zc _ _) (Zc _ _)
     simp only[e]
     exact this
   have fin : ∀ (r : Array ai) (st' : ag), Same (ag.mk' (kindOf st) (arrOf st) (((pendingOf st).setIfInBounds i (sa, na + nb, pw)).eraseIdxIfInBounds (i + 1)) (gallopOf st) (failedOf st)) st' -> Res key ((arrOf st).extract (sa + k) sb) ((arrOf st).extract sb (sb + m)) r ->
     Q T1 (setArr st' (Zfo (arrOf st') (sa+k) r.toList.zipIdx))/\(failedOf st').isNone=T1:=by
    intro r st' hS hR
    obtain earr:arrOf st'=arrOf st:=hS.arr
    have hfail:failedOf st'=N0:=hS.ok.trans hA.ok
    obtain hcat:((arrOf st).extract (sa+k) sb).toList++((arrOf st).extract sb (sb+m)).toList=((arrOf st).extract (sa+k) (sb+m)).toList:=by
     rw[← C3,Array.extract_append_extract]
     congr 2
     .exact Kn (hsb▸Gj hkn sa)
     .exact Kb (Cc _ _)
    have hp:r.toList.Perm ((arrOf st).extract (sa+k) (sb+m)).toList:=hcat▸hR.1
    have hlen:r.toList.length=sb+m-(sa+k):=by rw[hp.length_eq];simp;exact lin [(.le (.a .v2 .v3) .v4),(.eq .v5 .v4),(.le .v6 .v3),(.mi .v0 .v1 .v7),(.sb .v7 .v5 (.a .v8 .v9)),(.sb .v1 (.a .v2 .v6) (.a .v8 .v9))] (.eq .v0 .v1) (.s (.s (.s (.s (.d 110000001) (.d 110000001)) (.s (.d 110000001) (.d 110000001))) (.s (.s (.d 11101100100101) (.d 11000000110101)) (.s (.d 11101100110101) (.d 11000000100101)))) (.s (.s (.s (.d 11000001) (.d 11000001)) (.s (.d 11000001) (.d 11000001))) (.s (.s (.d 11000011) (.d 11000011)) (.s (.d 11000011) (.d 11000011))))) rfl [_,_,_,_,_,_,_,_,_,_] [] hsz hz hmn (Ys _ _) (Zc _ _) (Zc _ _)
    have hget:∀t,KS key (Zfo (arrOf st) (sa+k) r.toList.zipIdx) t=if sa+k<=t/\t<sb+m then key (r.toList[t-(sa+k)]?.getD default) else KS key (arrOf st) t:=λt=>by
     unfold KS
     rw[Zcz (sa+k) r.toList 0 (arrOf st) (by exact lin [(.eq .v4 (.a .v0 .v5)),(.le (.a .v4 .v6) .v7),(.eq .v3 .v7),(.le .v1 .v5),(.le .v8 .v6),(.eq .v2 .v9),(.sb .v9 (.a .v4 .v8) (.a .v0 .v1))] (.le (.a (.a (.a .v0 .v1) .k0) .v2) .v3) (.s (.d 1100101011001) (.d 1101101111001)) rfl [_,_,_,_,_,_,_,_,_,_] [] hsb hsz hz hkn hmn hlen (Zc _ _))]
     by_cases c:sa+k<=t/\t<sb+m
     .rw[gp (by exact Ng 0x1f65501b27255501b3834f650127251d2dc451d2d501cbba1001a1001ba10101001a000111 Tt hlen c (Zc _ _)),gp c];rfl
     .rw[gq (by exact Ng 0x19f65501b27255501b38349f650127251d2dc451d2d501cbba10001a10001ba0110101a1110001 Tt hlen c (Zc _ _)),gq c]
    have hr:∀t,sa+k<=t->t<sb+m->∃u,sa+k<=u/\u<sb+m/\key (r.toList[t-(sa+k)]?.getD default)=KS key (arrOf st) u:=λt t1 t2=>by
     have ht:t-(sa+k)<r.toList.length:=by exact Nh 0x170181265341d71d52d3dc252d3d534c01d534cbba1010100101a1011100101ba000111a000111 Tt hlen t1 t2 (Zc _ _) (Zc _ _)
     rw[Bl ht]
     obtain ⟨u,u1,u2,u3⟩:=Zs2 (hp.mem_iff.mp (D4 ht)) (Ni 0x16501265034824613c11011 Tt hsz hz hmn)
     exact ⟨u,u1,u2,u3.symm⟩
    have low:∀p u,sa<=p->p<sa+k->sa+k<=u->u<sb+m->T3.le (KS key (arrOf st) p) (KS key (arrOf st) u)=T1:=λp u p1 p2 u1 u2=>by
     by_cases c:u<sb
     .exact hs1 p u p1 (Nd 0x16017052365231c111 Tt p2 u1) c
     .exact Yc (f1 p p1 p2) (hs2 sb u (Bp _) (Nb 0x16019710c11 Tt c) (Nd 0x17051263270513c111 Tt hmn u2))
    obtain high:∀u q,sa+k<=u->u<sb+m->sb+m<=q->q<sb+nb->T3.le (KS key (arrOf st) u) (KS key (arrOf st) q)=T1:=λu q u1 u2 q1 q2=>by
     by_cases c:u<sb
     .exact Yc (hs1 u (sb-1) (Nc 0x160165021c11 Tt u1) (by exact Nc 0x1601702c12acba11001a11101 Tt c (Zc _ _)) (by exact Nc 0x1701721c01acba1001a1101 Tt c (Zc _ _))) (f4 q q1 q2)
     .exact hs2 u q (Nb 0x16019710c11 Tt c) (Nd 0x16017052365231c111 Tt u2 q1) q2
    refine ⟨?_,by rw[hfail];rfl⟩
    rw[earr]
    refine h _ ⟨?_,hS.kind.trans hA.kind,hfail⟩ hS.pend (λt ht=>?_) λp q p1 pq q1=>?_
    .exact (Zny (Ni 0x1650152382504614c1011 Tt hsb hkn) (Ni 0x16501265034824613c11011 Tt hsz hz hmn) hp).trans hA.perm
    .show (Zfo (arrOf st) (sa+k) r.toList.zipIdx)[t]?=_
     rw[Zcz (sa+k) r.toList 0 (arrOf st) (by exact lin [(.eq .v4 (.a .v0 .v5)),(.le (.a .v4 .v6) .v7),(.eq .v3 .v7),(.le .v1 .v5),(.le .v8 .v6),(.eq .v2 .v9),(.sb .v9 (.a .v4 .v8) (.a .v0 .v1))] (.le (.a (.a (.a .v0 .v1) .k0) .v2) .v3) (.s (.d 1100101011001) (.d 1101101111001)) rfl [_,_,_,_,_,_,_,_,_,_] [] hsb hsz hz hkn hmn hlen (Zc _ _)),gq (by exact Nh 0x19f65501b27255501b3641d832d0d720653d1d2c2d53d4501cbba100001a11010001ba01110101a11010001 Tt hmn hlen ht (Zc _ _))]
    .show T3.le (KS key (Zfo (arrOf st) (sa+k) r.toList.zipIdx) p) (KS key (Zfo (arrOf st) (sa+k) r.toList.zipIdx) q)=T1
     rw[hget p,hget q]
     by_cases cp:sa+k<=p/\p<sb+m
     .rw[gp cp]
      by_cases cq:sa+k<=q/\q<sb+m
      .rw[gp cq]
       have h1':p-(sa+k)<r.toList.length:=by exact Nh 0x1701812f65341d71d52d3dc252d3d534c01d534cbba1010100101a1011100101ba000111a000111 Tt hlen cp (Zc _ _) (Zc _ _)
       have h2':q-(sa+k)<r.toList.length:=by exact Nh 0x1701812f65341d71d52d3dc252d3d534c01d534cbba1010100101a1011100101ba000111a000111 Tt hlen cq (Zc _ _) (Zc _ _)
       rw[Bl h1',Bl h2']
       have:=Zak hR.2 (i:=p-(sa+k)) (j:=q-(sa+k)) (by simpa using h1') (by simpa using h2') (by exact Nf 0x1601623c13541dc02541dcbba1100101a1010101ba1110101a1000101 Tt pq (Zc _ _) (Zc _ _))
       simpa using this
      .rw[gq cq]
       refine byC λXX=>?_;obtain ⟨u,u1,u2,u3⟩:=hr p cp.1 cp.2;apply XX
       rw[u3];exact high u q u1 u2 (by exact Nf 0x165012632f6541d3735019f6541d272501cba01101a10001 Tt pq cp cq) q1
     .rw[gq cp]
      by_cases cq:sa+k<=q/\q<sb+m
      .rw[gp cq]
       refine byC λXX=>?_;obtain ⟨u,u1,u2,u3⟩:=hr q cq.1 cq.2;apply XX
       rw[u3];exact low p u p1 (by exact Nf 0x170512603f6512373541d9f6512070541dcba10001a01011 Tt pq cq cp) u1 u2
      .rw[gq cq]
       by_cases c1:q<sb
       .exact hs1 p q p1 pq c1
       .by_cases c2:sb<=p
        .exact hs2 p q c2 pq q1
        .exact Yc (low p sb p1 (Ni 0x17051296309f6512070534cba101a011 Tt c2 cp) (Nd 0x16501282503613c1011 Tt hsb hkn) (Nb 0x170501981bcba01a11 Tt hm0)) (hs2 sb q (Bp _) (Nb 0x16019710c11 Tt c1) q1)
   by_cases hc:na-k<=m
   .rw[gp hc]
    refine ah (Zj0 hA.kind T λr st' hS hR=>?_)
    refine byC λXX=>?_;obtain ⟨q1,q2⟩:=fin r st' hS hR;apply XX
    refine ah (bn (ah (bw (ao ?_))))
    rw[show (failedOf (setArr st' (Zfo (arrOf st') (sa+k) r.toList.zipIdx))).isNone=T1 from q2]
    exact q1
   .rw[gq hc]
    refine ah (Zj4 hA.kind T λr st' hS hR=>?_)
    refine byC λXX=>?_;obtain ⟨q1,q2⟩:=fin r st' hS hR;apply XX
    refine ah (bn (ah (bw (ao ?_))))
    rw[show (failedOf (setArr st' (Zfo (arrOf st') (sa+k) r.toList.zipIdx))).isNone=T1 from q2]
    exact q1
end jq
theorem Zj6 {st:ag}{i:Nat}{sa:Nat}{na:Nat}{pw:Nat}{sb:Nat}{nb:Nat}{pw2:Nat}{Q:Bool->ag->Prop}:jq.S st i sa na pw sb nb pw2 Q:=Yi (S:=uc9 jq.S) jq.pf (st,i,sa,na,pw,sb,nb,pw2,Q)
end
def Runs (key:ai->T3)(xs:Array ai):Nat->List (Nat×Nat×Nat)->Nat->Prop
 | b,[],e=>b=e
 | b,r::l,e=>r.1=b/\1<=r.2.1/\SegS key xs b (b+r.2.1)/\Runs key xs (b+r.2.1) l e
section
open SK
variable {xs ys:Array ai}
theorem SegS.congr {i j:Nat}(h:SegS key xs i j)(he:∀k:Nat,i<=k->k<j->ys[k]?=xs[k]?):SegS key ys i j:=λp q h1 h2 h3=>by
 rw[Xg (he p h1 (by exact Nc 0x1701602721c111 Tt h2 h3)),Xg (he q (by exact Nc 0x1601602621c111 Tt h1 h2) h3)];exact h p q h1 h2 h3
theorem Runs.le:∀{l:List (Nat×Nat×Nat)}{b e:Nat},Runs key xs b l e->b+l.length<=e
 | [],b,e,h=>by have:b=e:=h;simp;exact Nb 0x1601801c11 Tt this
 | r::l,b,e,h=>by obtain ⟨_,h2,_,h4⟩:=h;have:=Runs.le h4;simp;exact Nd 0x165051a26a36550312c111 Tt h2 this
theorem Runs.congr:∀{l:List (Nat×Nat×Nat)}{b e:Nat},Runs key xs b l e->(∀k:Nat,b<=k->k<e->ys[k]?=xs[k]?)->Runs key ys b l e
 | [],b,e,h,_=>h
 | r::l,b,e,h,he=>by
  refine byC λXX=>?_;obtain ⟨h1,h2,h3,h4⟩:=h;apply XX
  have:=Runs.le h4
  exact ⟨h1,h2,h3.congr λk a1 a2=>he k a1 (Ni 0x1701655234170523c111 Tt this a2),Runs.congr h4 λk a1 a2=>he k (Nc 0x160165021c11 Tt a1) a2⟩
theorem Runs.snoc:∀{l:List (Nat×Nat×Nat)}{b e n w:Nat},Runs key xs b l e->1<=n->SegS key xs e (e+n)->Runs key xs b (l++[(e,n,w)]) (e+n)
 | [],b,e,n,w,h,hn,hs=>by have h:b=e:=h;subst h;exact ⟨rfl,hn,hs,rfl⟩
 | r::l,b,e,n,w,h,hn,hs=>by
  refine byC λXX=>?_;obtain ⟨h1,h2,h3,h4⟩:=h;apply XX
  exact ⟨h1,h2,h3,Runs.snoc h4 hn hs⟩
theorem Runs.pair:∀{l1:List (Nat×Nat×Nat)}{b e:Nat}{r1 r2:Nat×Nat×Nat}{l2:List (Nat×Nat×Nat)},Runs key xs b (l1++r1::r2::l2) e->b<=r1.1/\1<=r1.2.1/\1<=r2.2.1/\r2.1=r1.1+r1.2.1/\r2.1+r2.2.1<=e/\SegS key xs r1.1 r2.1/\SegS key xs r2.1 (r2.1+r2.2.1)
 | [],b,e,r1,r2,l2,h=>by
  refine byC λXX=>?_;obtain ⟨h1,h2,h3,h4,h5,h6,h7⟩:=h;apply XX
  have:=Runs.le h7
  subst h1
  refine ⟨Bp _,h2,h5,h4,Nf 0x1650128053465553411d2c1101 Tt h4 this,?_,?_⟩
  .rw[h4];exact h3
  .rw[h4];exact h6
 | r::l1,b,e,r1,r2,l2,h=>by
  refine byC λXX=>?_;obtain ⟨h1,h2,h3,h4⟩:=h;apply XX
  refine byC λXX=>?_;obtain ⟨g1,g⟩:=Runs.pair h4;apply XX
  exact ⟨Nc 0x160165021c11 Tt g1,g⟩
theorem Runs.join:∀{l1:List (Nat×Nat×Nat)}{b e:Nat}{r1 r2:Nat×Nat×Nat}{l2:List (Nat×Nat×Nat)}{w:Nat},Runs key xs b (l1++r1::r2::l2) e->(∀k:Nat,k<r1.1\/r2.1+r2.2.1<=k->ys[k]?=xs[k]?)->SegS key ys r1.1 (r2.1+r2.2.1)->Runs key ys b (l1++(r1.1,r1.2.1+r2.2.1,w)::l2) e
 | [],b,e,r1,r2,l2,w,h,hk,hs=>by
  refine byC λXX=>?_;obtain ⟨h1,h2,h3,h4,h5,h6,h7⟩:=h;apply XX
  subst h1
  refine ⟨rfl,by show 1<=r1.2.1+r2.2.1;exact Nb 0x16a5016a1c11 Tt h5,?_,?_⟩
  .show SegS key ys r1.1 (r1.1+(r1.2.1+r2.2.1))
   rw[← K3,← h4];exact hs
  .show Runs key ys (r1.1+(r1.2.1+r2.2.1)) l2 e
   rw[← K3]
   exact h7.congr λk a1 a2=>hk k (.inr (Ni 0x165012805346553412c1101 Tt h4 a1))
 | r::l1,b,e,r1,r2,l2,w,h,hk,hs=>by
  refine byC λXX=>?_;obtain ⟨h1,h2,h3,h4⟩:=h;apply XX
  have g:=Runs.pair h4
  exact ⟨h1,h2,h3.congr λk a1 a2=>hk k (.inl (C2 a2 g.1)),Runs.join h4 hk hs⟩
theorem Runs.last:∀{l:List (Nat×Nat×Nat)}{b e n:Nat}{f:Nat×Nat×Nat->Nat×Nat×Nat},(∀r,(f r).1=r.1/\(f r).2.1=r.2.1)->Runs key xs b l e->Runs key xs b (l.modify n f) e
 | [],b,e,n,f,hf,h=>by simpa using h
 | r::l,b,e,0,f,hf,h=>by
  refine byC λXX=>?_;obtain ⟨h1,h2,h3,h4⟩:=h;apply XX
  rw[List.modify_zero_cons]
  refine ⟨(hf r).1.trans h1,by rw[(hf r).2];exact h2,by rw[(hf r).2];exact h3,by rw[(hf r).2];exact h4⟩
 | r::l,b,e,n+1,f,hf,h=>by
  refine byC λXX=>?_;obtain ⟨h1,h2,h3,h4⟩:=h;apply XX
  rw[List.modify_succ_cons]
  exact ⟨h1,h2,h3,Runs.last hf h4⟩
end
theorem Zlc {p:Array (Nat×Nat×Nat)}{i:Nat}(h:i+1<p.size):∃r1 r2,p[i]?=S5 r1/\p[i+1]?=S5 r2/\p.toList=p.toList.take i++r1::r2::p.toList.drop (i+2) /\
  ∀v,((p.setIfInBounds i v).eraseIdxIfInBounds (i+1)).toList=p.toList.take i++v::p.toList.drop (i+2):=by
 obtain hl:i+1<p.toList.length:=by simpa using h
 refine ⟨p[i],p[i+1],getElem?_pos p i (Nb 0x1701750a1c11 Tt h),getElem?_pos p (i+1) h,?_,λv=>?_⟩
 .obtain e1:p.toList.drop i=p[i]::p.toList.drop (i+1):=by rw[Ci (Iy hl)];simp
  obtain e2:p.toList.drop (i+1)=p[i+1]::p.toList.drop (i+2):=by rw[Ci hl];simp
  conv=>lhs;rw[← Gz i p.toList]
  rw[e1,e2]
 .obtain hs:i+1<(p.setIfInBounds i v).size:=by simpa using h
  simp only[K4,hs,dif_pos]
  rw[Array.toList_eraseIdx,Array.toList_setIfInBounds]
  rw[List.eraseIdx_eq_take_drop_succ,List.take_set,List.drop_set_of_lt (by exact Na 0x170550aac1 Tt)]
  rw[Lj,Bl (by exact Nb 0x1701750a1c11 Tt h)]
  simp only[Option.toList_some]
  rw[List.set_append_right _ _ (by simp;exact Nc 0x1601ad012cba101a111 Tt (Ys _ _))]
  simp only[Dp,Db]
  rw[show i-min i p.size=0 by exact Nd 0x180b751a2c013ad312cbbba10101a10101ba10001a10001bba10010001a010001ba1001a1001 Tt h (Zc _ _) (Ys _ _)]
  simp
section
open SK
namespace jv
def Sq_ (st:ag)(i:Nat)(e:Nat)(Q:Bool->ag->Prop):Prop:=∀(hA:SA a₀ κ st) (hR:Runs key (arrOf st) 0 (pendingOf st).toList e) (he:e<=a₀.size) (hi:i+1<(pendingOf st).size) (h:∀st',SA a₀ κ st'->Runs key (arrOf st') 0 (pendingOf st').toList e->(pendingOf st').size+1=(pendingOf st).size->(∀k:Nat,e<=k->(arrOf st')[k]?=(arrOf st)[k]?)->Q T1 st'),wpS (model prog w) A E sK (mergeAt' i) Q st
def pq_:=Wo ⟨((ag.mk' oneType' #[] #[] 7 N0),0,0,(λu_ v_=>True))⟩ (uc4 Sq_)
def st:=pq_.1
def i:=pq_.2.1
def e:=pq_.2.2.1
def Q:=pq_.2.2.2
theorem pfq_:Sq_ st i e Q:=by
 intro hA hR he hi h
 refine byC λXX=>?_;obtain ⟨⟨s1,n1,w1⟩,⟨s2,n2,w2⟩,h1,h2,hsp,hjoin⟩:=Zlc hi;apply XX
 have hR0:=hR
 rw[hsp] at hR0
 refine byC λXX=>?_;obtain ⟨g1,g2,g3,g4,g5,g6,g7⟩:=hR0.pair;apply XX
 dsimp only at g1 g2 g3 g4 g5 g6 g7
 refine Zj6 hA h1 h2 g4 g2 g3 (Nd 0x16501263265013c111 Tt he g5) g6 g7 λst' hA' hp hout hseg=>h st' hA' ?_ ?_ λk hk=>hout k (.inr (Nd 0x16501265013632c111 Tt g5 hk))
 .rw[hp,hjoin]
  exact Runs.join (w:=w1) hR0 hout hseg
 .obtain e1:=congrArg I7 (hjoin (s1,n1+n2,w1))
  obtain e2:=congrArg I7 hsp
  rw[hp]
  simp only[Db,Bq,C5] at e1 e2
  exact Nd 0x1850a1805253a8152553aacba1011a11001 Tt e1 e2
end jv
theorem Zj7 {st:ag}{i:Nat}{e:Nat}{Q:Bool->ag->Prop}:jv.Sq_ st i e Q:=Yi (S:=uc4 jv.Sq_) jv.pfq_ (st,i,e,Q)
theorem Zv4 (c:Prop)[Decidable c](u:Nat):(if c then u-1 else u)<=u:=by
 split
 .exact Mf u 1
 .exact Bp u
noncomputable def Zbp (lo n size:Nat):StateT ag Sem (ForInStep (Option Unit×Nat)):=do
 let st ← get
 match (pendingOf st).back? with
 | some (s1,n1,_)=>do
  let r ← forIn [0:size] ((N0,()):Option Unit×Unit) λu_ v_=>do
   let st ← get
   match (if (pendingOf st).size>1 then (pendingOf st)[(pendingOf st).size-2]? else N0) with
   | some (_,_,older)=>
    if older<=power' size (2*s1+n1) (2*s1+n1+n1+n) size then pure (ForInStep.done (N0,()))
    else do
     let b ← mergeAt' ((pendingOf st).size-2)
     if (!b)=T1 then pure (ForInStep.done (S5 (),())) else pure (ForInStep.yield (N0,()))
   | _=>pure (ForInStep.done (N0,()))
  match r.fst with
  | some r=>pure (ForInStep.done (S5 r,lo))
  | none=>do
   modify λs=>setPending s ((pendingOf s).modify ((pendingOf s).size-1) λx=>(x.fst,x.2.fst,power' size (2*s1+n1) (2*s1+n1+n1+n) size))
   modify λs=>setPending s ((pendingOf s).push (lo,n,0))
   pure (ForInStep.yield (N0,lo+n))
 | _=>do
  modify λs=>setPending s ((pendingOf s).push (lo,n,0))
  pure (ForInStep.yield (N0,lo+n))
namespace ju
def S (lo:Nat)(n:Nat)(st:ag)(Q:ForInStep (Option Unit×Nat)->ag->Prop):Prop:=∀(hA:SA a₀ κ st) (hR:Runs key (arrOf st) 0 (pendingOf st).toList lo) (hn:1<=n) (hln:lo+n<=a₀.size) (hs:SegS key (arrOf st) lo (lo+n)) (h:∀st',SA a₀ κ st'->Runs key (arrOf st') 0 (pendingOf st').toList (lo+n)->Q (.yield (N0,lo+n)) st'),wpS (model prog w) A E sK (Zbp lo n a₀.size) Q st
def p:=Wo ⟨(0,0,(ag.mk' oneType' #[] #[] 7 N0),(λu_ v_=>True))⟩ (uc4 S)
def lo:=p.1
def n:=p.2.1
def st:=p.2.2.1
def Q:=p.2.2.2
theorem pf:S lo n st Q:=by
 intro hA hR hn hln hs h
 have fin:∀st':ag,SA a₀ κ st'->Runs key (arrOf st') 0 (pendingOf st').toList lo->SegS key (arrOf st') lo (lo+n)->Q (.yield (N0,lo+n)) (setPending st' ((pendingOf st').push (lo,n,0))):=λst' hA' hR' hs'=>
  h _ ⟨hA'.perm,hA'.kind,hA'.ok⟩ (by show Runs key (arrOf st') 0 ((pendingOf st').push (lo,n,0)).toList (lo+n);rw[Li];exact hR'.snoc hn hs')
 unfold Zbp
 refine ah (bw ?_)
 cases hb:(pendingOf st).back? with
 | none=>exact ah (bn (ao (fin st hA hR hs)))
 | some r=>
  refine byC λXX=>?_;obtain ⟨s1,n1,w1⟩:=r;apply XX
  refine ah (bg (az (I:=λu_ c st'=>c=(N0,())/\SA a₀ κ st'/\Runs key (arrOf st') 0 (pendingOf st').toList lo/\SegS key (arrOf st') lo (lo+n))
   (Q:=λc st'=>c=(N0,())/\SA a₀ κ st'/\Runs key (arrOf st') 0 (pendingOf st').toList lo/\SegS key (arrOf st') lo (lo+n)) ?step (λu_ v_ hh=>hh) ⟨rfl,hA,hR,hs⟩) ?post)
  case post=>
   intro c st' hX2
   refine byC λhnX=>?_
   obtain ⟨rfl,hA',hR',hs'⟩:=hX2
   apply hnX
   refine ah (bn (ah (bn (ao (fin _ ⟨hA'.perm,hA'.kind,hA'.ok⟩ ?_ hs')))))
   show Runs key (arrOf st') 0 ((pendingOf st').modify ((pendingOf st').size-1) _).toList lo
   rw[Array.toList_modify]
   exact Runs.last (λu_=>⟨rfl,rfl⟩) hR'
  case step=>
   intro x c st' u_ hx hX5
   refine byC λhnX=>?_
   obtain ⟨rfl,hA',hR',hs'⟩:=hX5
   apply hnX
   refine ah (bw ?_)
   by_cases hp:(pendingOf st').size>1
   .rw[gp hp,getElem?_pos (pendingOf st') ((pendingOf st').size-2) (by exact ln2 [(.lt .k1 .v1),(.sb .v0 .v1 (.k 2))] (.lt .v0 .v1) (.s (.d 11001) (.d 11101)) rfl hp (Zc _ _))]
    dsimp only
    split
    .exact ao ⟨rfl,hA',hR',hs'⟩
    .refine ah (Zj7 hA' hR' (by exact ln3 [(.le (.a .v0 .v2) .v1)] (.le .v0 .v1) (.d 111) rfl hln) (by exact ln2 [(.lt .k1 .v1),(.sb .v0 .v1 (.k 2))] (.lt (.a .v0 .k1) .v1) (.s (.d 11001) (.d 11101)) rfl hp (Zc _ _)) λst3 hA3 hR3 u_ hk3=>?_)
     exact ao ⟨rfl,hA3,hR3,hs'.congr λk h1 u_=>hk3 k h1⟩
   .rw[gq hp]
    exact ao ⟨rfl,hA',hR',hs'⟩
end ju
theorem Zd4 {lo:Nat}{n:Nat}{st:ag}{Q:ForInStep (Option Unit×Nat)->ag->Prop}:ju.S lo n st Q:=Yi (S:=uc4 ju.S) ju.pf (lo,n,st,Q)
theorem Zmo {α β:Type}{m m':StateT ag Sem α}{f f':α->StateT ag Sem β}(h:m=m')(h':f=f'):(m >>= f)=(m' >>= f'):=by rw[h,h']
theorem Zgx {α:Type}{m m':StateT ag Sem α}{Q:α->ag->Prop}{st:ag}(e:m=m')(h:wpS (model prog w) A E sK m' Q st):wpS (model prog w) A E sK m Q st:=e▸h
theorem Zpx {st:ag}{Q:Unit->ag->Prop}(hA:SA a₀ κ st)(hP:pendingOf st = #[])
  (h:∀st',SA a₀ κ st'->SegS key (arrOf st') 0 a₀.size->Q () st'):wpS (model prog w) A E sK sortRuns' Q st:=by
 rw[sortRuns'_eq]
 refine ah (bw ?_)
 dsimp only
 simp only[hA.size]
 refine ah (bg (az (I:=λx c st'=>∃lo,c=(N0,lo)/\SA a₀ κ st'/\Runs key (arrOf st') 0 (pendingOf st').toList lo/\lo<=a₀.size/\x<=lo)
  (Q:=λc st'=>c=(N0,a₀.size)/\SA a₀ κ st'/\Runs key (arrOf st') 0 (pendingOf st').toList a₀.size) ?step ?fin ⟨0,rfl,hA,by rw[hP];exact rfl,C9 _,Bp _⟩) ?post)
 case fin=>
  intro c st' hX2
  refine byC λhnX=>?_
  obtain ⟨lo,rfl,hA',hR,hle,hx⟩:=hX2
  apply hnX
  obtain this:lo=a₀.size:=by exact ln2 [(.le .v0 .v1),(.le .v1 .v0)] (.eq .v0 .v1) (.s (.d 1101) (.d 111)) rfl hle hx
  subst this
  exact ⟨rfl,hA',hR⟩
 case step=>
  intro x c st' _ hx hX5
  refine byC λhnX=>?_
  obtain ⟨lo,rfl,hA',hR,hle,hxl⟩:=hX5
  apply hnX
  dsimp only
  by_cases hge:lo ≥ a₀.size
  .rw[gp hge]
   obtain this:lo=a₀.size:=by exact ln2 [(.le .v0 .v1),(.le .v1 .v0)] (.eq .v0 .v1) (.s (.d 1101) (.d 111)) rfl hle hge
   subst this
   exact ao ⟨rfl,hA',hR⟩
  .rw[gq hge]
   refine ah (Znv (by exact ln3 [(.no (.le .v2 .v0)),(.sb .v1 .v2 .v0)] (.le (.a .v0 .v1) .v2) (.s (.d 11001) (.d 1011)) rfl hge (Zc _ _)) (by exact ln3 [(.no (.le .v1 .v2)),(.sb .v0 .v1 .v2)] (.le .k1 .v0) (.s (.d 111001) (.d 1011)) rfl hge (Zc _ _)) ⟨hA'.perm,hA'.kind,hA'.ok,rfl,λu_ v_=>rfl⟩ λn st2 hB u_ hn1 hn2 hs=>?_)
   dsimp only
   obtain hA2:SA a₀ κ st2:=⟨hB.perm,hB.kind,hB.ok⟩
   obtain hR2:Runs key (arrOf st2) 0 (pendingOf st2).toList lo:=by rw[hB.pend];exact hR.congr λk u_ hk=>hB.out k (.inl hk)
   by_cases hmr:n<minRun' a₀.size a₀.size 0
   .rw[gp hmr]
    refine ah (cb (br ⟨rfl,?_⟩))
    refine ah (Zla (st0:=st2) (by exact ln5 [(.no (.le .v2 .v0)),(.mi .v1 .v3 .v4),(.sb .v3 .v2 .v0)] (.le (.a .v0 .v1) .v2) (.s (.s (.d 11001001) (.d 1010001)) (.s (.d 11011001) (.d 1010001))) rfl hge (Ys _ _) (Zc _ _)) (by exact ln4 [(.le .v0 .v2),(.lt .v0 .v3),(.mi .v1 .v2 .v3)] (.le .v0 .v1) (.s (.d 1110001) (.d 1101001)) rfl hn2 hmr (Ys _ _)) ⟨hA2.perm,hA2.kind,hA2.ok,rfl,λu_ v_=>rfl⟩ hs λst3 hB3 hs3 u_=>?_)
    simp only[Dm,Bu,if_false]
    refine Zgx (m':=Zbp lo (min (a₀.size-lo) (minRun' a₀.size a₀.size 0)) a₀.size) (by
     unfold Zbp
     refine congrArg (get >>= ·) (funext λst=>?_)
     cases (pendingOf st).back? with
     | none=>rfl
     | some r=>
      refine byC λXX=>?_;obtain ⟨s1,n1,w1⟩:=r;apply XX
      refine Zmo ?_ (funext λr=>?_)
      .refine congrArg (forIn [0:a₀.size] ((N0,()):Option Unit×Unit)) (funext λx=>funext λc=>congrArg (get >>= ·) (funext λst=>?_))
       cases (if (pendingOf st).size>1 then (pendingOf st)[(pendingOf st).size-2]? else N0) with
       | none=>rfl
       | some r=>rfl
      .refine byC λXX=>?_;obtain ⟨r,u⟩:=r;apply XX
       cases r <;> rfl) ?_
    refine Zd4 ⟨hB3.perm,hB3.kind,hB3.ok⟩ (by rw[hB3.pend];exact hR2.congr λk u_ hk=>hB3.out k (.inl hk)) (by exact ln4 [(.le .k1 .v1),(.le .v1 .v2),(.lt .v1 .v3),(.mi .v0 .v2 .v3)] (.le .k1 .v0) (.s (.d 11110001) (.d 11101001)) rfl hn1 hn2 hmr (Ys _ _)) (by exact ln5 [(.no (.le .v2 .v0)),(.mi .v1 .v3 .v4),(.sb .v3 .v2 .v0)] (.le (.a .v0 .v1) .v2) (.s (.s (.d 11001001) (.d 1010001)) (.s (.d 11011001) (.d 1010001))) rfl hge (Ys _ _) (Zc _ _)) hs3 λst4 hA4 hR4=>⟨_,rfl,hA4,hR4,by exact ln5 [(.no (.le .v2 .v0)),(.mi .v1 .v3 .v4),(.sb .v3 .v2 .v0)] (.le (.a .v0 .v1) .v2) (.s (.s (.d 11001001) (.d 1010001)) (.s (.d 11011001) (.d 1010001))) rfl hge (Ys _ _) (Zc _ _),by exact ln6 [(.le .v0 .v1),(.le .k1 .v3),(.le .v3 .v4),(.lt .v3 .v5),(.mi .v2 .v4 .v5)] (.le (.a .v0 .k1) (.a .v1 .v2)) (.s (.d 111110001) (.d 111101001)) rfl hxl hn1 hn2 hmr (Ys _ _)⟩
   .rw[gq hmr]
    refine Zgx (m':=Zbp lo n a₀.size) (by
     unfold Zbp
     refine congrArg (get >>= ·) (funext λst=>?_)
     cases (pendingOf st).back? with
     | none=>rfl
     | some r=>
      refine byC λXX=>?_;obtain ⟨s1,n1,w1⟩:=r;apply XX
      refine Zmo ?_ (funext λr=>?_)
      .refine congrArg (forIn [0:a₀.size] ((N0,()):Option Unit×Unit)) (funext λx=>funext λc=>congrArg (get >>= ·) (funext λst=>?_))
       cases (if (pendingOf st).size>1 then (pendingOf st)[(pendingOf st).size-2]? else N0) with
       | none=>rfl
       | some r=>rfl
      .refine byC λXX=>?_;obtain ⟨r,u⟩:=r;apply XX
       cases r <;> rfl) ?_
    exact Zd4 hA2 hR2 hn1 (by exact ln4 [(.no (.le .v2 .v0)),(.le .v1 .v3),(.sb .v3 .v2 .v0)] (.le (.a .v0 .v1) .v2) (.s (.d 110101) (.d 10101)) rfl hge hn2 (Zc _ _)) hs λst4 hA4 hR4=>⟨_,rfl,hA4,hR4,by exact ln4 [(.no (.le .v2 .v0)),(.le .v1 .v3),(.sb .v3 .v2 .v0)] (.le (.a .v0 .v1) .v2) (.s (.d 110101) (.d 10101)) rfl hge hn2 (Zc _ _),by exact ln3 [(.le .v0 .v1),(.le .k1 .v2)] (.le (.a .v0 .k1) (.a .v1 .v2)) (.d 1111) rfl hxl hn1⟩
 case post=>
  intro c st' hX2
  refine byC λhnX=>?_
  obtain ⟨rfl,hA',hR⟩:=hX2
  apply hnX
  dsimp only
  obtain hle:=hR.le
  refine ah (bg (az (I:=λx c st''=>c=(N0,())/\SA a₀ κ st''/\Runs key (arrOf st'') 0 (pendingOf st'').toList a₀.size/\(pendingOf st'').size<=max 1 (a₀.size-x))
   (Q:=λc st''=>c=(N0,())/\SA a₀ κ st''/\Runs key (arrOf st'') 0 (pendingOf st'').toList a₀.size/\(pendingOf st'').size<=1) ?_ ?_ ⟨rfl,hA',hR,by simp only[Db] at hle;exact ln3 [(.le (.a .k0 .v0) .v2),(.mx .v1 .k1 .v2)] (.le .v0 .v1) (.s (.d 111001) (.d 111101)) rfl hle (Q8 _ _)⟩) ?_)
  .intro x c st'' _ hx hX5
   refine byC λhnX=>?_
   obtain ⟨rfl,hA2,hR2,hsz⟩:=hX5
   apply hnX
   refine ah (bw ?_)
   by_cases hp:(pendingOf st'').size<=1
   .rw[gp hp];exact ao ⟨rfl,hA2,hR2,hp⟩
   .rw[gq hp]
    refine ah (Zj7 hA2 hR2 (Bp _) (Bx (Df (Zv4 _ _)) (by exact ln2 [(.no (.le .v1 .k1)),(.sb .v0 .v1 (.k 2))] (.lt (.a .v0 .k1) .v1) (.s (.d 11001) (.d 11101)) rfl hp (Zc _ _))) λst3 hA3 hR3 hs3 u_=>?_)
    simp only[Dm,Bu,if_false]
    exact ao ⟨rfl,hA3,hR3,ar5 hsz hp hs3⟩
  .intro c st'' hX2
   refine byC λhnX=>?_
   obtain ⟨rfl,hA2,hR2,hsz⟩:=hX2
   apply hnX
   exact ⟨rfl,hA2,hR2,by exact ln4 [(.le .v0 .v1),(.mx .v1 .k1 .v2),(.sb .v2 .v3 .v3)] (.le .v0 .k1) (.s (.s (.d 10010001) (.d 10010001)) (.s (.d 11101) (.d 11101))) rfl hsz (Q8 _ _) (Zc _ _)⟩
  .intro c st'' hX2
   refine byC λhnX=>?_
   obtain ⟨rfl,hA2,hR2,hsz⟩:=hX2
   apply hnX
   refine ao (h st'' hA2 ?_)
   obtain hl:(pendingOf st'').toList.length<=1:=by simpa using hsz
   generalize (pendingOf st'').toList=l at hR2 hl
   cases l with
   | nil=>
    obtain h0:0=a₀.size:=hR2
    intro p q _ _ hq;exact (Da q ((show 0=a₀.size from hR2).symm▸hq)).elim
   | cons r l=>
    cases l with
    | nil=>
     refine byC λXX=>?_;obtain ⟨_,_,g3,g4⟩:=hR2;apply XX
     obtain g4:0+r.2.1=a₀.size:=g4
     rw[g4] at g3;exact g3
    | cons _ _=>simp at hl
end
theorem Zpy {prog:be}{w:bv}{A:aj}{E:aa->ae->Prop}{a₀:Array ai}{κ:bi}{key:ai->T3}{st:ag}{Q:Unit->ag->Prop}(H:Zjt prog w A E s κ a₀ key)(hA:SA a₀ κ st)(hP:pendingOf st = #[])
  (h:∀st',SA a₀ κ st'->SegS key (arrOf st') 0 a₀.size->Q () st'):wpS (model prog w) A E s sortRuns' Q st:=Classical.choose_spec Ztv (λu_ v_=>Zpx) ⟨prog,w,A,E,s,a₀,κ,key,H⟩ st Q hA hP h
section
variable {prog:be}{w:bv}{A:aj}{E:VSP}{s:ae}{κ:bi}{key:ai->T3}
noncomputable def J9 (h:au) (a:am) (vs:List aa):au:=((h.update a (Obj.mapSeq λu_=>#[])).push (seqObj "tuple" vs.toArray 0)).push (seqObj "list" #[] 0)
theorem Zgh {a:am} {vs:List aa} {n:Nat} {P:PySem.Fin -> ae -> Prop} (ho:s.heap.get? a=S5 (seqObj "list" vs.toArray n)) (hlen:vs.length <=sizeLine)
  (hkk:2<=vs.length->∀Q:bi->ae->Prop,Q κ { s with heap:=J9 s.heap a vs }->wpAny (model prog w) A (keyKind' vs.toArray) Q E { s with heap:=J9 s.heap a vs })
  (H:Zjt prog w A E { s with heap:=J9 s.heap a vs } κ (pairsOf vs) key)
  (h:∀r:Array ai,r.Perm (pairsOf vs)->SegS key r 0 (pairsOf vs).size->P (.done (.ret .none)) { s with heap:=sortedHeap s.heap a vs (r.map (·.2)) }) :
  wpAny (model prog w) A (bf.«list.sort» ⟨[.ref a],[]⟩) P E s:=by
 rw[list_sort_plain]
 obtain ha:a<s.heap.objs.size:=au.lt_size ho
 refine af (listItems_at ho rfl ?_)
 refine af (dj ho rfl ?_ (by simpa using hlen) (C9 _))
 obtain ⟨e1,ho1⟩:∃ e1,(s.heap.update a (Obj.mapSeq λu_=>#[])).get? a=S5 (seqObj "list" #[] e1):=⟨_,d9 ho (λu_=>#[])⟩
 refine af (dw ho1 rfl ?_)
 refine af (wpAny_newTuple ?_ (by simpa using hlen))
 refine af (di ?_ (C9 _))
 refine ay ?_
 have ho6:(J9 s.heap a vs).get? a=S5 (seqObj "list" #[] e1):=by
  unfold J9
  rw[au.get?_push_ne _ _ _ (by rw[de,au.size_update];exact Ca (Gw ha)),au.get?_push_ne _ _ _ (by rw[au.size_update];exact Ca ha)]
  exact ho1
 show wpAny (model prog w) A _ P E { s with heap:=J9 s.heap a vs }
 dsimp only
 have hsz:vs.toArray.size=vs.length:=by simp
 obtain hout:∀r:Array ai,r.Perm (pairsOf vs)->(r.map (·.2)).size<=sizeLine+1:=λr hp=>by
  rw[Array.size_map,hp.size_eq,pairsOf_size];lia
 by_cases h2:vs.toArray.size<2
 .rw[gp h2,gp h2]
  refine af (ar ?_)
  rw[StateT.run_pure]
  refine af (ar ?_)
  dsimp only
  refine af (dw ho6 rfl ?_)
  refine af (dj ho6 rfl ?_ (C9 _) (hout (pairsOf vs) (Mg.refl _)))
  simp only[bne_self_eq_false,Bu,if_false]
  refine ar (h (pairsOf vs) (Mg.refl _) λi j u_ hij hj=>?_)
  obtain this:i=j:=by rw[pairsOf_size] at hj;lia
  subst this;exact Ww _
 .rw[gq h2,gq h2]
  refine af (hkk (by lia) _ ?_)
  refine af (ak (Zpy (a₀:=pairsOf vs) (st:=ag.mk' κ (vs.toArray.zip vs.toArray) #[] 7 N0)
   (Q:=λu_ st'=>SA (pairsOf vs) κ st'/\SegS key (arrOf st') 0 (pairsOf vs).size) H ⟨Mg.refl _,rfl,rfl⟩ rfl λst' a1 a2=>⟨a1,a2⟩) ?_ λu_ v_ e=>e)
  intro hX0 s' hX2
  refine byC λhnX=>?_
  obtain ⟨⟨⟩,st'⟩:=hX0
  obtain ⟨rfl,hA,hs⟩:=hX2
  apply hnX
  dsimp only
  refine af (dw ho6 rfl ?_)
  refine af (dj ho6 rfl ?_ (C9 _) (hout _ hA.perm))
  rw[hA.ok]
  simp only[bne_self_eq_false,Bu,if_false]
  exact ar (h (arrOf st') hA.perm hs)
noncomputable def Y5 (h:au) (vs:List aa):au:=((h.push (seqObj "list" #[] 0)).update h.objs.size (Obj.mapSeq (· ++ vs.toArray))).push (seqObj "list" vs.toArray 0)
theorem Zpz {vs:List aa}{b:am}{o:Obj}(q:h.get? b=S5 o):(Y5 h vs).get? b=S5 o:=by
 obtain hlt:b<h.objs.size:=au.lt_size q
 obtain hsz:((h.push (seqObj "list" #[] 0)).update h.objs.size (Obj.mapSeq (· ++ vs.toArray))).objs.size=h.objs.size + 1:=by rw [au.size_update,de]
 unfold Y5
 rw[au.get?_push_ne _ _ _ (by rw[hsz];exact Ca (Gw hlt)),au.get?_update_ne _ _ _ _ (Ca hlt),au.get?_push_ne _ _ _ (Ca hlt)]
 exact q
theorem Zc0 {vs:List aa}{b:am}{o:Obj}(q:h.get? b=S5 o):(J9 (Y5 h vs) (h.objs.size+1) vs).get? b=S5 o:=by
 obtain hlt:b<h.objs.size:=au.lt_size q
 unfold J9
 refine au.get?_push_of_some _ (au.get?_push_of_some _ ?_)
 rw[au.get?_update_ne _ _ _ _ (Ca (Gw hlt))]
 exact Zpz q
theorem Zld {l:am}{vs:List aa}{Q:aa->ae->Prop}(hl:s.heap.IsList l vs.toArray)(hlen:vs.length<=sizeLine)
  (hkk:2<=vs.length->∀Q:bi->ae->Prop,Q κ { s with heap:=J9 (Y5 s.heap vs) (s.heap.objs.size+1) vs }->wpAny (model prog w) A.in1.in1 (keyKind' vs.toArray) Q E { s with heap:=J9 (Y5 s.heap vs) (s.heap.objs.size+1) vs })
  (H:Zjt prog w A.in1.in1 E { s with heap:=J9 (Y5 s.heap vs) (s.heap.objs.size+1) vs } κ (pairsOf vs) key)
  (h:∀r:Array ai,r.Perm (pairsOf vs)->SegS key r 0 (pairsOf vs).size->Q (.ref (s.heap.objs.size+1)) { s with heap:=sortedHeap (Y5 s.heap vs) (s.heap.objs.size+1) vs (r.map (·.2)) }) :
  wpAny (model prog w) A (call (.builtin "sorted") [.ref l]) Q E s:=by
 refine Calls.call_function_entry kind_sorted plain_sorted entry_sorted (args_sorted1 _) ?_
 unfold bf.«sorted»
 refine af (m:=checkCount "sorted" 1 1 _) (ar ?_)
 refine af (collect_list hl ?_ hlen)
 refine af (di ?_ hlen)
 obtain hsz:((s.heap.push (seqObj "list" #[] 0)).update s.heap.objs.size (Obj.mapSeq (· ++ vs.toArray))).objs.size=s.heap.objs.size + 1:=by
  rw[au.size_update,de]
 obtain hoL:(Y5 s.heap vs).get? (s.heap.objs.size + 1)=S5 (seqObj "list" vs.toArray 0):=by
  unfold Y5;rw[← hsz];exact au.get?_push_size _ rfl
 show wpAny _ _ _ _ _ { s with heap:=Y5 s.heap vs }
 rw[hsz]
 refine af (ay (wpAny_call_entry slot_list_sort ⟨_,hoL,rfl⟩ entry_list_sort (Zgh (s:={ s with heap:=Y5 s.heap vs }) hoL hlen hkk H λr a1 a2=>⟨_,rfl,?_⟩) (args_list_sort _)))
 exact ar ⟨_,rfl,h r a1 a2⟩
end
end Mini.Internal
namespace Mini.Internal
open PySem PyProof.Rows PySem.W
variable {J J' J1:List am}{U U' U1:H}{s s' s1:ae}{h h':au}{Z Z':L}
noncomputable def Zv5:Option aa->Int
 | some (.int n _)=>n
 | _=>0
noncomputable def Zca:PySem.Data->T3
 | .seq xs _=>⟨Zv5 xs[0]?,Zv5 xs[1]?,Zv5 xs[2]?⟩
 | _=>default
noncomputable def kOf (h:au):aa->T3
 | .int n _=>⟨n,0,0⟩
 | .ref a=>((h.get? a).map λo=>Zca o.data).getD default
 | _=>default
section
variable {prog:be}{w:bv}{A:aj}{E:VSP}{s:ae}
theorem Zd5 {x y:ai}{b:Bool}{κ:bi}(h:∀(E':VSP) (Q:Bool->ae->Prop),Q b s->wpAny (model prog w) A (keyLt' κ x.1 y.1) Q E' s){st:ag}{Q:Option Bool->ag->Prop}(hk:kindOf st=κ)(hq:Q (S5 b) st):wpS (model prog w) A E s (lt' x y) Q st:=by
 rw[lt'_eq]
 refine ah (bw ?_)
 rw[hk]
 refine ah (cb (wpAny_attempt (h _ _ ⟨rfl,?_⟩)))
 exact ao hq
end
section
namespace ja
def S (x:T3)(y:T3)(b:Bool):Prop:=∀(h:b=T1↔(x.a<y.a\/(x.a=y.a/\(x.b<y.b\/(x.b=y.b/\x.c<y.c))))),(!T3.le y x)=b
def p:=Wo ⟨(default,default,F0)⟩ (uc3 S)
def x:=p.1
def y:=p.2.1
def b:=p.2.2
theorem pf:S x y b:=by
 intro h
 rw[Ko,h,D7,← Lu,Zai];exact lx (lx Int.not_le)
end ja
theorem Zc1 (x:T3)(y:T3)(b:Bool):ja.S x y b:=Yi (S:=uc3 ja.S) ja.pf (x,y,b)
end
section
variable {prog:be}{w:bv}{A:aj}{E:VSP}{s:ae}
theorem Zx3 {vs:List aa}(hv:∀v∈vs,∃n t,v=.int n t)(hp:au):Zjt prog w A E s oneType' (pairsOf vs) (λp=>kOf hp p.1):=by
 intro x y hx hy st Q hk hq
 rw[dg] at hx hy
 refine byC λXX=>?_;obtain ⟨n,t,ex⟩:=hv x.1 (Gq hx).1;apply XX
 refine byC λXX=>?_;obtain ⟨m,u,ey⟩:=hv y.1 (Gq hy).1;apply XX
 refine Zd5 (b:=decide (n<m)) (λE' Q' hq'=>?_) hk ?_
 .rw[ex,ey,keyLt'_oneType];exact oneLt_int hq'
 .obtain this : (!T3.le (kOf hp y.1) (kOf hp x.1)) = decide (n < m) := by
   rw[ex,ey];refine Zc1 _ _ _ ?_;simp only[kOf,decide_eq_true_eq];omega
  rw[this] at hq;exact hq
theorem Zx4 {vs:List aa}(hv:∀v∈vs,∃a n0 n1 n2 t0 t1 t2,v=.ref a/\s.heap.get? a=S5 (Z6 [.int n0 t0,.int n1 t1,.int n2 t2])):Zjt prog w A E s (tuples' T1) (pairsOf vs) (λp=>kOf s.heap p.1):=by
 intro x y hx hy st Q hk hq
 rw[dg] at hx hy
 refine byC λXX=>?_;obtain ⟨a,n0,n1,n2,t0,t1,t2,ex,gx⟩:=hv x.1 (Gq hx).1;apply XX
 refine byC λXX=>?_;obtain ⟨b,m0,m1,m2,u0,u1,u2,ey,gy⟩:=hv y.1 (Gq hy).1;apply XX
 have kx:kOf s.heap x.1=⟨n0,n1,n2⟩:=by rw[ex];show ((s.heap.get? a).map λo=>Zca o.data).getD default=_;rw[gx];rfl
 have ky:kOf s.heap y.1=⟨m0,m1,m2⟩:=by rw[ey];show ((s.heap.get? b).map λo=>Zca o.data).getD default=_;rw[gy];rfl
 dsimp only at hq
 rw[kx,ky] at hq
 refine Zd5 (b:=!T3.le ⟨m0,m1,m2⟩ ⟨n0,n1,n2⟩) (λE' Q' hq'=>?_) hk hq
 rw[ex,ey]
 refine kat_lt gx rfl gy rfl ?_
 show KatLex prog w A T1 F0 Q' [(.int n0 t0,.int m0 u0),(.int n1 t1,.int m1 u1),(.int n2 t2,.int m2 u2)] 0 s
 refine kat_cons (cj ?_)
 refine kat_go (λh0=>kat_yes (kat_cons (cj ?_))) (λh0=>kat_no (oneLt_int ?_))
 .have h0:n0=m0:=eq_of_beq h0
  refine kat_go (λh1=>kat_yes (kat_cons (cj ?_))) (λh1=>kat_no (kat_one _ _ (lt_int ?_)))
  .have h1:n1=m1:=eq_of_beq h1
   refine kat_go (λh2=>kat_yes (kat_nil ?_)) (λh2=>kat_no (kat_one _ _ (lt_int ?_)))
   .have h2:n2=m2:=eq_of_beq h2
    rw[Zc1 _ _ F0 (by simp only;simp;exact ⟨Ga h0.symm,λu_=>⟨Ga h1.symm,λu_=>Ga h2.symm⟩⟩)] at hq';exact hq'
   .have h2:n2≠m2:=by intro h;simp[h] at h2
    rw[Zc1 _ _ (decide (n2<m2)) (by simp only[decide_eq_true_eq];exact (lxe h1).trans (lxe h0))] at hq';exact hq'
  .have h1:n1≠m1:=by intro h;simp[h] at h1
   rw[Zc1 _ _ (decide (n1<m1)) (by simp only[decide_eq_true_eq];exact (lxn h1).trans (lxe h0))] at hq';exact hq'
 .have h0:n0≠m0:=by intro h;simp[h] at h0
  rw[Zc1 _ _ (decide (n0<m0)) (by simp only[decide_eq_true_eq];exact lxn h0)] at hq';exact hq'
end
section
variable {K:Kx}{A:aj}
theorem RVs.of_all {f:aa->V}:∀{ws:List aa},(∀w∈ws,RV K J h (f w) w)->RVs K J h (ws.map f) ws
 | [],_=>.nil
 | w::r,hw=>.cons (hw w Bf) (RVs.of_all λx hx=>hw x (Bb _ hx))
theorem Zfp:∀{l:List V}{is:List Int},Wc l=S5 is->l=is.map V.int
 | [],is,h=>by cases h;rfl
 | v::r,is,h=>by
  cases v with
  | int i=>
   refine byC λXX=>?_;obtain ⟨js,hj,rfl⟩:=Bi.mp (show (Wc r).map (i::·)=S5 is from h);apply XX
   rw[Zfp hj];rfl
  | _=>cases h
theorem Zp0 {l:List V}{p:V×V×V}(h:Zxk l=S5 p):l=[p.1,p.2.1,p.2.2]:=by
 cases l with
 | nil=>cases h
 | cons a r=>
  refine byC λXX=>?_;obtain ⟨q,hq,rfl⟩:=Bi.mp (show (Zkx r).map _=S5 p from h);apply XX
  rw[Ziy hq]
theorem Zp1 {v:V}{t:T3}(h:Zrn v=S5 t):v=t.v:=by
 refine Zy (h) λl h1 h=>?_
 refine Zy (h) λp h2 h=>?_
 refine Zy (h) λa h3 h=>?_
 refine Zy (h) λb h4 h=>?_
 refine byC λXX=>?_;obtain ⟨c,h5,rfl⟩:=Bi.mp h;apply XX
 rw[Zdd h1,Zp0 h2,Jf h3,Jf h4,Jf h5];rfl
theorem Zmp:∀{l:List V}{ts:List T3},t3s l=S5 ts->l=ts.map T3.v
 | [],ts,h=>by cases h;rfl
 | v::r,ts,h=>by
  refine Zy ((show (Zrn v).bind _=S5 ts from h)) λt h1 h2=>?_
  refine byC λXX=>?_;obtain ⟨us,hu,rfl⟩:=Bi.mp h2;apply XX
  rw[Zmp hu,Zp1 h1];rfl
theorem Zp2 {ws:List aa}{hp:au}{r:Array ai}(h1:r.Perm (pairsOf ws))(h2:SegS (λp=>kOf hp p.1) r 0 (pairsOf ws).size) :
  (r.map (·.2)).toList.Perm ws/\((r.map (·.2)).toList.map (kOf hp)).Pairwise (λx y=>T3.le x y=T1):=by
 have hp1:r.toList.Perm (ws.zip ws):=by rw[← dg];exact G5.mp h1
 obtain e1:(ws.zip ws).map (·.2)=ws:=by rw[List.map_snd_zip];exact Bp _
 have hm:=hp1.map (·.2)
 rw[e1] at hm
 obtain hsame:∀p∈r.toList,p.1=p.2:=by
  intro p hpm
  have:=hp1.mem_iff.mp hpm
  refine byC λXX=>?_;obtain ⟨i,hi,rfl⟩:=Co this;apply XX
  simp
 rw[Array.toList_map]
 refine ⟨hm,?_⟩
 obtain e2:(r.toList.map (·.2)).map (kOf hp)=r.toList.map λp=>kOf hp p.1:=by
  rw[Cx]
  exact Cz λp hpm=>by simp only[Function.comp];rw[hsame p hpm]
 rw[e2,Gi]
 intro i j hi hj hij
 simp only[Bg,Db] at hi hj
 obtain hsz:(pairsOf ws).size=r.size:=h1.size_eq.symm
 have:=h2 i j (C9 _) (C1 hij) (Nc 0x1701702812c1101 Tt hj hsz)
 rw[Yz hi,Yz hj] at this
 simpa using this
theorem Zv6 (h:au)(ws out:List aa):∃n,(sortedHeap (Y5 h ws) (h.objs.size+1) ws out.toArray).get? (h.objs.size+1)=S5 (Yd out n):=by
 obtain hsz:((h.push (seqObj "list" #[] 0)).update h.objs.size (Obj.mapSeq (· ++ ws.toArray))).objs.size=h.objs.size + 1:=by
  rw[au.size_update,de]
 obtain hoL:(Y5 h ws).get? (h.objs.size + 1)=S5 (seqObj "list" ws.toArray 0):=by
  unfold Y5;rw[← hsz];exact au.get?_push_size _ rfl
 obtain h1:=d9 hoL (λu_=>#[])
 obtain ⟨e1,h1⟩:∃ e1,((Y5 h ws).update (h.objs.size + 1) (Obj.mapSeq λu_=>#[])).get? (h.objs.size + 1)=S5 (seqObj "list" #[] e1):=⟨_,h1⟩
 obtain h2:=au.get?_push_of_some (seqObj "list" #[] 0) (au.get?_push_of_some (seqObj "tuple" ws.toArray 0) h1)
 obtain h3:=d9 h2 (λu_=>out.toArray)
 exact ⟨_,h3⟩
theorem Zs3 {ws:List aa}{out:Array aa}{b:am}{o:Obj}(q:h.get? b=S5 o):(sortedHeap (Y5 h ws) (h.objs.size+1) ws out).get? b=S5 o:=by
 obtain hlt:b<h.objs.size:=au.lt_size q
 have:=Zc0 (vs:=ws) q
 unfold sortedHeap
 rw[au.get?_update_ne _ _ _ _ (Ca (Gw hlt))]
 exact this
theorem Zgy {a:am}{ws:List aa}{n:Nat}{l l':List V}(hr:HR K J U s.heap)(ho:s.heap.get? a=S5 (Yd ws n))(rv:RVs K J s.heap l ws)(hl:l.length<=Zo)(hl':l'.length<=Zo){κ:bi}{f:aa->V}
  (hkk:2<=ws.length->∀s':ae,(∀b o,s.heap.get? b=S5 o->s'.heap.get? b=S5 o)->∀(Q:bi->ae->Prop) (E:VSP),Q κ s'->wpAny K.M A.in1.in1 (keyKind' ws.toArray) Q E s')
  (H:∀s':ae,(∀b o,s.heap.get? b=S5 o->s'.heap.get? b=S5 o)->∀E,Zjt K.prog K.w A.in1.in1 E s' κ (pairsOf ws) (λp=>kOf s'.heap p.1))
  (hf:∀w∈ws,RV K J s.heap (f w) w)
  (hout:∀(hp:au) (out:List aa),(∀b o,s.heap.get? b=S5 o->hp.get? b=S5 o)->out.Perm ws->(out.map (kOf hp)).Pairwise (λx y=>T3.le x y=T1)->out.map f=l') :
  TR K A (call (.builtin "sorted") [.ref a]) J s (U ++ [.list l']) λJ' cv s'=>RV K J' s'.heap (.obj U.length) cv:=by
 refine Zld (κ:=κ) (key:=λp=>kOf (J9 (Y5 s.heap ws) (s.heap.objs.size+1) ws) p.1) ⟨_,ho,rfl,n,rfl⟩ (Wu rv hl) (λh2 Q hq=>hkk h2 { s with heap:=J9 (Y5 s.heap ws) (s.heap.objs.size+1) ws } (λb o (e:s.heap.get? b=S5 o)=>Zc0 (vs:=ws) e) Q _ hq) (H { s with heap:=J9 (Y5 s.heap ws) (s.heap.objs.size+1) ws } (λb o e=>Zc0 (vs:=ws) e) _) λr h1 h2=>?_
 refine byC λXX=>?_;obtain ⟨p1,p2⟩:=Zp2 h1 h2;apply XX
 obtain e:=hout _ _ (λb o e=>Zc0 (vs:=ws) e) p1 p2
 refine byC λXX=>?_;obtain ⟨m,hm⟩:=Zv6 s.heap ws (r.map (·.2)).toList;apply XX
 rw[Array.toArray_toList] at hm
 obtain hk:∀b o,s.heap.get? b=S5 o->(sortedHeap (Y5 s.heap ws) (s.heap.objs.size+1) ws (r.map (·.2))).get? b=S5 o:=λb o q=>Zs3 q
 obtain hnone:s.heap.get? (s.heap.objs.size+1)=N0:=by
  cases hg:s.heap.get? (s.heap.objs.size+1) with
  | none=>rfl
  | some o=>exact absurd (au.lt_size hg) (Il.mpr (K2 _))
 obtain hrv:RVs K J s.heap l' (r.map (·.2)).toList:=by
  rw[← e];exact RVs.of_all λw hw=>hf w (p1.mem_iff.mp hw)
 refine ⟨J++[s.heap.objs.size+1],Good.alloc (o:=.list l') hr hk hnone ⟨_,m,hm,hrv.mono (C8 _ _) (λa vs q=>hk _ _ q),hl'⟩ s.toks,.obj ?_⟩
 rw[Bh (by rw[hr.len];exact Bp _),hr.len];simp
theorem Zia {i:Int}{w:aa}(r:RV K J h (.int i) w):∃t,w=.int i t:=by
 cases r with
 | int _ t=>exact ⟨t,rfl⟩
theorem Zc2 {v:V}{l:List V}{ws:List aa}(r:RVs K J h (v::l) ws):∃w wr,ws=w::wr/\RV K J h v w/\RVs K J h l wr:=by
 cases r with
 | cons a b=>exact ⟨_,_,rfl,a,b⟩
theorem Zle {ws:List aa}(r:RVs K J h [] ws):ws=[]:=by
 cases r with
 | nil=>rfl
theorem Zmq :∀{is:List Int}{ws:List aa},RVs K J h (is.map V.int) ws->(∀w∈ws,∃n t,w=.int n t)/\∀hp,(ws.map (kOf hp)).map (·.a)=is
 | [],ws,r=>by rw[Zle r];exact ⟨λu_ h=>(nomatch h),λu_=>rfl⟩
 | i::is,ws,r=>by
  refine byC λXX=>?_;obtain ⟨w,wr,rfl,r0,rs⟩:=Zc2 r;apply XX
  refine byC λXX=>?_;obtain ⟨t,rfl⟩:=Zia r0;apply XX
  refine byC λXX=>?_;obtain ⟨h1,h2⟩:=Zmq rs;apply XX
  refine ⟨λw hw=>?_,λhp=>?_⟩
  .rcases Be.mp hw with rfl | hw
   .exact ⟨i,t,rfl⟩
   .exact h1 w hw
  .rw[Bz,Bz,h2 hp];rfl
theorem Zv7 {l:List V}{w:aa}(r:RV K J h (.tup l) w):∃a vs,w=.ref a/\h.get? a=S5 (Z6 vs)/\RVs K J h l vs:=by
 cases r with
 | tup e rs hl=>exact ⟨_,_,rfl,e,rs⟩
end
section
namespace jf
def Sq_ (K:Kx)(Je:List am)(he:au)(t:T3):Prop:=∀{w:aa} (r:RV K Je he t.v w),∃a t0 t1 t2,w=.ref a/\he.get? a=S5 (Z6 [.int t.a t0,.int t.b t1,.int t.c t2])
def pq_:=Wo ⟨(dKx,[],default,default)⟩ (uc4 Sq_)
def K:=pq_.1
def Je:=pq_.2.1
def he:=pq_.2.2.1
def t:=pq_.2.2.2
theorem pfq_:Sq_ K Je he t:=by
 intro w r
 refine byC λXX=>?_;obtain ⟨a,vs,rfl,e,q0⟩:=Zv7 r;apply XX
 refine byC λXX=>?_;obtain ⟨w0,y0,rfl,r0,q1⟩:=Zc2 q0;apply XX
 refine byC λXX=>?_;obtain ⟨w1,y1,rfl,r1,q2⟩:=Zc2 q1;apply XX
 refine byC λXX=>?_;obtain ⟨w2,y2,rfl,r2,q3⟩:=Zc2 q2;apply XX
 refine byC λXX=>?_;obtain ⟨t0,rfl⟩:=Zia r0;apply XX
 refine byC λXX=>?_;obtain ⟨t1,rfl⟩:=Zia r1;apply XX
 refine byC λXX=>?_;obtain ⟨t2,rfl⟩:=Zia r2;apply XX
 obtain e0:=Zle q3
 subst e0
 exact ⟨a,t0,t1,t2,rfl,e⟩
end jf
theorem Zp3 {K:Kx}{t:T3}:jf.Sq_ K J h t:=Yi (S:=uc4 jf.Sq_) jf.pfq_ (K,J,h,t)
end
section
variable {K:Kx}{A:aj}
theorem Zmr :∀{ts:List T3}{ws:List aa},RVs K J h (ts.map T3.v) ws->(∀w∈ws,∃a n0 n1 n2 t0 t1 t2,w=.ref a/\h.get? a=S5 (Z6 [.int n0 t0,.int n1 t1,.int n2 t2]))/\∀hp:au,(∀b o,h.get? b=S5 o->hp.get? b=S5 o)->ws.map (kOf hp)=ts
 | [],ws,r=>by rw[Zle r];exact ⟨λu_ h=>(nomatch h),λu_ v_=>rfl⟩
 | t::ts,ws,r=>by
  refine byC λXX=>?_;obtain ⟨w,wr,rfl,r0,rs⟩:=Zc2 r;apply XX
  refine byC λXX=>?_;obtain ⟨h1,h2⟩:=Zmr rs;apply XX
  refine byC λXX=>?_;obtain ⟨a,t0,t1,t2,rfl,e⟩:=Zp3 r0;apply XX
  refine ⟨λw hw=>?_,λhp hk=>?_⟩
  .rcases Be.mp hw with rfl | hw
   .exact ⟨a,_,_,_,t0,t1,t2,rfl,e⟩
   .exact h1 w hw
  .rw[Bz,h2 hp hk]
   have:kOf hp (.ref a)=t:=by
    show ((hp.get? a).map λo=>Zca o.data).getD default=_
    rw[hk _ _ e];rfl
   rw[this]
theorem Zp4 :∀{ws:List aa},(∀w∈ws,∃a n0 n1 n2 t0 t1 t2,w=.ref a/\h.get? a=S5 (Z6 [.int n0 t0,.int n1 t1,.int n2 t2]))->∃fs:List aa,KatTups h ws fs/\fs.length=ws.length/\∀v∈fs,∃n t,v=.int n t
 | [],_=>⟨[],.nil,rfl,λu_ h=>(nomatch h)⟩
 | w::r,hw=>by
  refine byC λXX=>?_;obtain ⟨fs,h1,h2,h3⟩:=Zp4 λx hx=>hw x (Bb _ hx);apply XX
  refine byC λXX=>?_;obtain ⟨a,n0,n1,n2,t0,t1,t2,rfl,e⟩:=hw w Bf;apply XX
  refine ⟨.int n0 t0::fs,.cons e rfl rfl rfl h1,by simp[h2],λv hv=>?_⟩
  rcases Be.mp hv with rfl | hv
  .exact ⟨_,_,rfl⟩
  .exact h3 v hv
end
section
namespace jg
def S (K:Kx)(A:aj):Prop:=Zhz K A
def p:=Wo ⟨(dKx,{})⟩ (uc2 S)
def K:=p.1
def A:=p.2
theorem pf:S K A:=by
 intro U U' vs v h J s cas hr rvs
 refine Zy (h) λv0 h0 h=>?_
 refine Zy (h) λl' h1 h=>?_
 refine Zy (h1) λl hl h1=>?_
 refine byC λXX=>?_;obtain ⟨hl',e1,e2⟩:=X3 h;apply XX
 subst e1 e2
 rw[Zcj h0] at rvs
 cases rvs with
 | cons r0 rs=>
  cases rs
  refine byC λXX=>?_;obtain ⟨a,ws,n,rfl,ho,rv,hll⟩:=Ui hr hl r0;apply XX
  show TR K A (call (.builtin "sorted") [.ref a]) J s _ _
  unfold Zbv at h1
  cases hi:Wc l with
  | some is=>
   rw[hi] at h1
   cases (B0.inj h1)
   cases Zfp hi
   refine byC λXX=>?_;obtain ⟨q1,q2⟩:=Zmq rv;apply XX
   refine Zgy (κ:=oneType') (f:=λw=>.int (kOf s.heap w).a) hr ho rv hll hl' ?_ (λs' u_ E=>Zx3 q1 _) ?_ ?_
   .intro h2 s' u_ Q E hq
    obtain ⟨w1,w2,wr,rfl⟩ : ∃w1 w2 wr,ws=w1::w2::wr:=by
     match ws,h2 with
     | w1::w2::wr,_=>exact ⟨w1,w2,wr,rfl⟩
    rw[keyKind_ints (intsAre_map _ q1)]
    exact ar hq
   .intro w hw;obtain ⟨n,t,rfl⟩:=q1 w hw;exact .int n t
   .intro hp out hk hperm hpw
    obtain e0:∀w∈out,(kOf s.heap w)=kOf hp w:=λw hw=>by obtain ⟨n,t,rfl⟩:=q1 w (hperm.mem_iff.mp hw);rfl
    obtain e3:out.map (λw=>V.int (kOf s.heap w).a)=((out.map (kOf hp)).map (·.a)).map V.int:=by
     rw[Cx,Cx]
     exact Cz λw hw=>by simp only[Function.comp];rw[e0 w hw]
    rw[e3]
    congr 1
    refine Gf.eq_of_pairwise (le:=λx y:Int=>x<=y) (λa b u_ v_ h1 h2=>D9 h1 h2) ?_ ?_ ?_
    .rw[Lk]
     exact hpw.imp λ{x y} h=>by have:=(Zai x y).mp h;exact Ig 0x16010d701f8010d723f823641dcba11ba11a11 Tt this
    .have:=Dq (le:=λa b:Int=>decide (a<=b)) (λa b c h1 h2=>by simp at *;exact Ic 0x1601602621c111 Tt h1 h2) (λa b=>by simp;exact Ib 0x10d601610c11 Tt) is
     exact this.imp λh=>by simpa using h
    .have:=(hperm.map (kOf hp)).map (·.a)
     rw[q2 hp] at this
     exact this.trans (D0 _ _).symm
  | none =>
    rw[hi] at h1
    refine Wb ((show (t3s l).map _=S5 l' from h1)) λts ht e=>?_
    cases e
    cases Zmp ht
    refine byC λXX=>?_;obtain ⟨q1,q2⟩:=Zmr rv;apply XX
    refine Zgy (κ:=tuples' T1) (f:=λw=>(kOf s.heap w).v) hr ho rv hll hl' ?_ (λs' hk E=>Zx4 λw hw=>?_) ?_ ?_
    .intro h2 s' hk Q E hq
     obtain ⟨fs,k1,k2,k3⟩:=Zp4 (h:=s'.heap) (ws:=ws) λw hw=>by
      refine byC λXX=>?_;obtain ⟨a,n0,n1,n2,t0,t1,t2,e,g⟩:=q1 w hw;apply XX
      exact ⟨a,n0,n1,n2,t0,t1,t2,e,hk _ _ g⟩
     refine kat_kind (T:=.type "int") k1 (Nb 0x17b0621e1801c1101 Tt h2 k2) (λv hv=>?_) rfl hq
     refine byC λXX=>?_;obtain ⟨n,t,rfl⟩:=k3 v hv;apply XX
     exact Looks.of_pure rfl
    .refine byC λXX=>?_;obtain ⟨a,n0,n1,n2,t0,t1,t2,e,g⟩:=q1 w hw;apply XX
     exact ⟨a,n0,n1,n2,t0,t1,t2,e,hk _ _ g⟩
    .intro w hw
     refine byC λXX=>?_;obtain ⟨a,n0,n1,n2,t0,t1,t2,rfl,g⟩:=q1 w hw;apply XX
     obtain this:kOf s.heap (.ref a)=⟨n0,n1,n2⟩:=by
      show ((s.heap.get? a).map λo=>Zca o.data).getD default=_
      rw[g];rfl
     rw[this]
     exact .tup g (.cons (.int _ _) (.cons (.int _ _) (.cons (.int _ _) .nil))) (show 3<=Zo by decide)
    .intro hp out hk hperm hpw
     obtain e0:∀w∈out,(kOf s.heap w)=kOf hp w:=λw hw=>by
      refine byC λXX=>?_;obtain ⟨a,n0,n1,n2,t0,t1,t2,rfl,g⟩:=q1 w (hperm.mem_iff.mp hw);apply XX
      show ((s.heap.get? a).map λo=>Zca o.data).getD default=((hp.get? a).map λo=>Zca o.data).getD default
      rw[g,hk _ _ g]
     obtain e3:out.map (λw=>(kOf s.heap w).v)=(out.map (kOf hp)).map T3.v:=by
      rw[Cx]
      exact Cz λw hw=>by simp only[Function.comp];rw[e0 w hw]
     rw[e3]
     congr 1
     refine Gf.eq_of_pairwise (le:=λx y:T3=>T3.le x y=T1) (λa b u_ v_ h1 h2=>Zaj h1 h2) hpw ?_ ?_
     .exact Dq (le := T3.le) (λa b c => Yc) (λa b => by
       cases h:T3.le a b with
       | true=>rfl
       | false=>exact Y7 h) ts
     .have:=hperm.map (kOf hp)
      rw[q2 hp hk] at this
      exact this.trans (D0 _ _).symm
end jg
theorem sort_ok {K:Kx}{A:aj}:jg.S K A:=Yi (S:=uc2 jg.S) jg.pf (K,A)
end
section
variable {K:Kx}{A:aj}
end
end Mini.Internal
namespace Mini.Internal
open PySem
variable {J J' J1:List am}{U U' U1:H}{s s' s1:ae}{h h':au}{Z Z':L}
def B7:Ss:=.cons (.ife (.cmp .v0 (.one .is (.lit .none))) (.cons (.ret (.i 0)) .nil) .nil) <| .cons (.ret (.idx .v0 (.i 3))) <| .nil
def Zx5:St:=(.ife (.cmp .v1 (.one .isnot (.lit .none))) (.cons (.asg (.one 3) (.blt .max (.cons .v3 (.cons (.idx .v1 (.i 4)) .nil)))) .nil) .nil)
def Zx6:St:=(.ife (.cmp .v2 (.one .isnot (.lit .none))) (.cons (.asg (.one 3) (.blt .max (.cons .v3 (.cons (.idx .v2 (.i 4)) .nil)))) .nil) .nil)
def B8:Ss:=.cons (.asg (.one 3) (.idx .v0 (.i 1))) <| .cons Zx5 <| .cons Zx6 <| .cons (.ret (.tup (.cons .v0 (.cons .v1 (.cons .v2 (.cons (.bin .add (.i 1) (.blt .max (.cons (.call 7 (.cons .v1 .nil)) (.cons (.call 7 (.cons .v2 .nil)) .nil)))) (.cons .v3 .nil))))))) <| .nil
def B9:Ss:=.cons (.ife (.cmp (.call 7 (.cons .v1 .nil)) (.one .gt (.bin .add (.call 7 (.cons .v2 .nil)) (.i 1)))) (.cons (.ife (.cmp (.call 7 (.cons (.idx .v1 (.i 1)) .nil)) (.one .ge (.call 7 (.cons (.idx .v1 (.i 2)) .nil)))) (.cons (.ret (.call 8 (.cons (.idx .v1 (.i 0)) (.cons (.idx .v1 (.i 1)) (.cons (.call 8 (.cons .v0 (.cons (.idx .v1 (.i 2)) (.cons .v2 .nil)))) .nil))))) .nil) .nil) (.cons (.asg (.one 3) (.idx .v1 (.i 2))) (.cons (.ret (.call 8 (.cons (.idx .v3 (.i 0)) (.cons (.call 8 (.cons (.idx .v1 (.i 0)) (.cons (.idx .v1 (.i 1)) (.cons (.idx .v3 (.i 1)) .nil)))) (.cons (.call 8 (.cons .v0 (.cons (.idx .v3 (.i 2)) (.cons .v2 .nil)))) .nil))))) .nil))) .nil) <| .cons (.ife (.cmp (.call 7 (.cons .v2 .nil)) (.one .gt (.bin .add (.call 7 (.cons .v1 .nil)) (.i 1)))) (.cons (.ife (.cmp (.call 7 (.cons (.idx .v2 (.i 2)) .nil)) (.one .ge (.call 7 (.cons (.idx .v2 (.i 1)) .nil)))) (.cons (.ret (.call 8 (.cons (.idx .v2 (.i 0)) (.cons (.call 8 (.cons .v0 (.cons .v1 (.cons (.idx .v2 (.i 1)) .nil)))) (.cons (.idx .v2 (.i 2)) .nil))))) .nil) .nil) (.cons (.asg (.one 3) (.idx .v2 (.i 1))) (.cons (.ret (.call 8 (.cons (.idx .v3 (.i 0)) (.cons (.call 8 (.cons .v0 (.cons .v1 (.cons (.idx .v3 (.i 1)) .nil)))) (.cons (.call 8 (.cons (.idx .v2 (.i 0)) (.cons (.idx .v3 (.i 2)) (.cons (.idx .v2 (.i 2)) .nil)))) .nil))))) .nil))) .nil) <| .cons (.ret (.call 8 (.cons .v0 (.cons .v1 (.cons .v2 .nil))))) <| .nil
def Ztw:St:=(.ife (.cmp .v0 (.one .is (.lit .none))) (.cons (.ret (.call 8 (.cons .v1 (.cons (.lit .none) (.cons (.lit .none) .nil))))) .nil) .nil)
def B10:Ss:=.cons Ztw <| .cons (.ife (.cmp .v1 (.one .eq (.idx .v0 (.i 0)))) (.cons (.raise 12) .nil) .nil) <| .cons (.ife (.cmp .v1 (.one .lt (.idx .v0 (.i 0)))) (.cons (.ret (.call 9 (.cons (.idx .v0 (.i 0)) (.cons (.call 10 (.cons (.idx .v0 (.i 1)) (.cons .v1 .nil))) (.cons (.idx .v0 (.i 2)) .nil))))) .nil) .nil) <| .cons (.ret (.call 9 (.cons (.idx .v0 (.i 0)) (.cons (.idx .v0 (.i 1)) (.cons (.call 10 (.cons (.idx .v0 (.i 2)) (.cons .v1 .nil))) .nil))))) <| .nil
def Ztx:St:=(.whl (.cmp (.idx .v0 (.i 1)) (.one .isnot (.lit .none))) (.cons (.asg (.one 0) (.idx .v0 (.i 1))) .nil))
def B11:Ss:=.cons Ztx <| .cons (.ret (.idx .v0 (.i 0))) <| .nil
def Zty:St:=(.ife (.cmp .v0 (.one .is (.lit .none))) (.cons (.raise 13) .nil) .nil)
def B12:Ss:=.cons Zty <| .cons (.ife (.cmp .v1 (.one .lt (.idx .v0 (.i 0)))) (.cons (.ret (.call 9 (.cons (.idx .v0 (.i 0)) (.cons (.call 12 (.cons (.idx .v0 (.i 1)) (.cons .v1 .nil))) (.cons (.idx .v0 (.i 2)) .nil))))) .nil) .nil) <| .cons (.ife (.cmp .v1 (.one .gt (.idx .v0 (.i 0)))) (.cons (.ret (.call 9 (.cons (.idx .v0 (.i 0)) (.cons (.idx .v0 (.i 1)) (.cons (.call 12 (.cons (.idx .v0 (.i 2)) (.cons .v1 .nil))) .nil))))) .nil) .nil) <| .cons (.ife (.cmp (.idx .v0 (.i 1)) (.one .is (.lit .none))) (.cons (.ret (.idx .v0 (.i 2))) .nil) .nil) <| .cons (.ife (.cmp (.idx .v0 (.i 2)) (.one .is (.lit .none))) (.cons (.ret (.idx .v0 (.i 1))) .nil) .nil) <| .cons (.asg (.one 2) (.call 11 (.cons (.idx .v0 (.i 2)) .nil))) <| .cons (.ret (.call 9 (.cons .v2 (.cons (.idx .v0 (.i 1)) (.cons (.call 12 (.cons (.idx .v0 (.i 2)) (.cons .v2 .nil))) .nil))))) <| .nil
def R13:Ss:=(.cons (.ife (.cmp .v1 (.one .eq (.idx .v0 (.i 0)))) (.cons (.ret (.lit (.bool T1))) .nil) .nil) (.cons (.ife (.cmp .v1 (.one .lt (.idx .v0 (.i 0)))) (.cons (.asg (.one 0) (.idx .v0 (.i 1))) .nil) (.cons (.asg (.one 0) (.idx .v0 (.i 2))) .nil)) .nil))
def T13:Ex:=(.cmp .v0 (.one .isnot (.lit .none)))
def Zp5:St:=(.whl T13 R13)
def B13:Ss:=.cons Zp5 <| .cons (.ret (.lit (.bool F0))) <| .nil
def B14:Ss:=.cons (.ife (.cmp .v0 (.one .is (.lit .none))) (.cons (.ret .v2) .nil) .nil) <| .cons (.expr (.call 14 (.cons (.idx .v0 (.i 1)) (.cons (.bin .add .v1 (.i 1)) (.cons .v2 .nil))))) <| .cons (.expr (.mth .append .v2 (.cons (.tup (.cons (.idx .v0 (.i 0)) (.cons .v1 (.cons (.idx .v0 (.i 3)) (.cons (.idx .v0 (.i 4)) .nil))))) .nil))) <| .cons (.ret (.call 14 (.cons (.idx .v0 (.i 2)) (.cons (.bin .add .v1 (.i 1)) (.cons .v2 .nil))))) <| .nil
def Ztz:St:=(.asg (.one 4) (.bin .add (.i 1) (.call 15 (.cons (.idx .v0 (.i 1)) (.cons .v1 (.cons .v2 (.cons .v3 .nil)))))))
def B15:Ss:=.cons (.ife (.or (.cmp .v0 (.one .is (.lit .none))) (.cmp (.idx .v0 (.i 4)) (.one .lt .v1))) (.cons (.ret (.i 0)) .nil) .nil) <| .cons Ztz <| .cons (.ife (.cmp (.idx (.idx .v0 (.i 0)) (.i 0)) (.one .le .v2)) (.cons (.ife (.cmp (.idx (.idx .v0 (.i 0)) (.i 1)) (.one .ge .v1)) (.cons (.expr (.mth .append .v3 (.cons (.idx .v0 (.i 0)) .nil))) .nil) .nil) (.cons (.asg (.one 4) (.bin .add .v4 (.call 15 (.cons (.idx .v0 (.i 2)) (.cons .v1 (.cons .v2 (.cons .v3 .nil))))))) .nil)) .nil) <| .cons (.ret .v4) <| .nil
def B1:Ss:=.cons (.ife (.or (.not (.blt .isinstance (.cons .v0 (.cons (.ty 0) .nil)))) (.or (.blt .isinstance (.cons .v0 (.cons (.ty 1) .nil))) (.not (.cmp (.neg (.bin .pow (.i 10) (.i 60))) (.more .lt .v0 (.one .lt (.bin .pow (.i 10) (.i 60)))))))) (.cons (.raise 11) .nil) .nil) <| .nil
def B2:Ss:=.cons (.expr (.call 1 (.cons .v0 .nil))) <| .cons (.expr (.call 1 (.cons .v1 .nil))) <| .cons (.ife (.cmp .v0 (.one .gt .v1)) (.cons (.raise 11) .nil) .nil) <| .nil
def B3:Ss:=.cons (.expr (.call 1 (.cons .v2 .nil))) <| .cons (.expr (.call 2 (.cons .v0 (.cons .v1 .nil)))) <| .cons (.ret (.tup (.cons .v0 (.cons .v1 (.cons .v2 .nil))))) <| .nil
def Zv8:St:=(.for_ (.one 5) (.ex .v0) (.cons (.ife (.cmp (.idx .v5 (.i 0)) (.one .gt .v2)) (.cons .brk .nil) .nil) (.cons (.ife (.cmp (.idx .v5 (.i 1)) (.one .ge .v4)) (.cons (.ife (.cmp (.idx .v5 (.i 0)) (.one .gt .v4)) (.cons (.expr (.mth .append .v3 (.cons (.tup (.cons .v4 (.cons (.bin .sub (.idx .v5 (.i 0)) (.i 1)) .nil))) .nil))) .nil) .nil) (.cons (.asg (.one 4) (.bin .add (.idx .v5 (.i 1)) (.i 1))) .nil)) .nil) .nil)))
def Zx7:St:=(.ife (.cmp .v4 (.one .le .v2)) (.cons (.expr (.mth .append .v3 (.cons (.tup (.cons .v4 (.cons .v2 .nil))) .nil))) .nil) .nil)
def Zx8:St:=(.ret .v3)
def B4:Ss:=.cons (.expr (.call 2 (.cons .v1 (.cons .v2 .nil)))) <| .cons (.asg (.one 3) (.lst .nil)) <| .cons (.asg (.one 4) .v1) <| .cons Zv8 <| .cons Zx7 <| .cons Zx8 <| .nil
def Zv9:St:=(.for_ (.one 2) (.ex .v0) (.cons (.ife (.and (.cmp (.blt .len (.cons .v1 .nil)) (.one .gt (.i 0))) (.cmp (.idx .v2 (.i 0)) (.one .le (.idx (.idx .v1 (.neg (.i 1))) (.i 1))))) (.cons (.asg (.one 3) (.mth .pop .v1 .nil)) (.cons (.expr (.mth .append .v1 (.cons (.tup (.cons (.idx .v3 (.i 0)) (.cons (.blt .max (.cons (.idx .v3 (.i 1)) (.cons (.idx .v2 (.i 1)) .nil))) (.cons (.bin .add (.idx .v3 (.i 2)) (.i 1)) .nil)))) .nil))) .nil)) (.cons (.expr (.mth .append .v1 (.cons (.tup (.cons (.idx .v2 (.i 0)) (.cons (.idx .v2 (.i 1)) (.cons (.i 1) .nil)))) .nil))) .nil)) .nil))
def B5:Ss:=.cons (.asg (.one 1) (.lst .nil)) <| .cons Zv9 <| .cons (.ret .v1) <| .nil
def Zx9:St:=(.asg (.one 3) (.blt .sorted (.cons (.comp (.blt .max (.cons .v1 (.cons (.idx .v9 (.i 0)) .nil))) 9 (.ex .v0) (.cons (.and (.cmp (.idx .v9 (.i 0)) (.one .le .v2)) (.cmp (.idx .v9 (.i 1)) (.one .ge .v1))) .nil)) .nil)))
def Zya:St:=(.asg (.one 4) (.blt .sorted (.cons (.comp (.idx .v9 (.i 1)) 9 (.ex .v0) (.cons (.and (.cmp (.idx .v9 (.i 0)) (.one .le .v2)) (.cmp (.idx .v9 (.i 1)) (.one .ge .v1))) .nil)) .nil)))
def Zwa:St:=(.for_ (.one 7) (.rng1 (.blt .len (.cons .v3 .nil))) (.cons (.whl (.cmp (.idx .v4 .v6) (.one .lt (.idx .v3 .v7))) (.cons (.asg (.one 6) (.bin .add .v6 (.i 1))) .nil)) (.cons (.ife (.cmp (.bin .sub (.bin .add .v7 (.i 1)) .v6) (.one .gt (.idx .v5 (.i 0)))) (.cons (.asg (.one 5) (.tup (.cons (.bin .sub (.bin .add .v7 (.i 1)) .v6) (.cons (.idx .v3 .v7) .nil)))) .nil) .nil) .nil)))
def B6:Ss:=.cons (.expr (.call 2 (.cons .v1 (.cons .v2 .nil)))) <| .cons Zx9 <| .cons Zya <| .cons (.asg (.one 5) (.tup (.cons (.i 0) (.cons .v1 .nil)))) <| .cons (.asg (.one 6) (.i 0)) <| .cons Zwa <| .cons (.ret .v5) <| .nil
def B70:Ss:=.cons (.aset .v0 0 (.lit .none)) <| .cons (.aset .v0 1 (.i 0)) <| .nil
def B71:Ss:=.cons (.aset .v0 0 (.call 10 (.cons (.attr .v0 0) (.cons (.call 3 (.cons .v1 (.cons .v2 (.cons .v3 .nil)))) .nil)))) <| .cons (.aset .v0 1 (.bin .add (.attr .v0 1) (.i 1))) <| .nil
def B72:Ss:=.cons (.aset .v0 0 (.call 12 (.cons (.attr .v0 0) (.cons (.call 3 (.cons .v1 (.cons .v2 (.cons .v3 .nil)))) .nil)))) <| .cons (.aset .v0 1 (.bin .sub (.attr .v0 1) (.i 1))) <| .nil
def B73:Ss:=.cons (.ret (.call 13 (.cons (.attr .v0 0) (.cons (.call 3 (.cons .v1 (.cons .v2 (.cons .v3 .nil)))) .nil)))) <| .nil
def B74:Ss:=.cons (.ret (.comp (.idx .v2 (.i 0)) 2 (.ex (.ucall 14 .v0 .nil)) .nil)) <| .nil
def B75:Ss:=.cons (.ret (.attr .v0 1)) <| .nil
def B76:Ss:=.cons (.expr (.call 2 (.cons .v1 (.cons .v2 .nil)))) <| .cons (.asg (.one 3) (.lst .nil)) <| .cons (.expr (.call 15 (.cons (.attr .v0 0) (.cons .v1 (.cons .v2 (.cons .v3 .nil)))))) <| .cons (.ret .v3) <| .nil
def B77:Ss:=.cons (.ret (.ucall 6 .v0 (.cons .v1 (.cons .v1 .nil)))) <| .nil
def B78:Ss:=.cons (.expr (.call 2 (.cons .v1 (.cons .v2 .nil)))) <| .cons (.ret (.call 15 (.cons (.attr .v0 0) (.cons .v1 (.cons .v2 (.cons (.lst .nil) .nil)))))) <| .nil
def B79:Ss:=.cons (.ret (.call 4 (.cons (.ucall 4 .v0 .nil) (.cons .v1 (.cons .v2 .nil))))) <| .nil
def B80:Ss:=.cons (.ret (.call 5 (.cons (.ucall 4 .v0 .nil) .nil))) <| .nil
def B81:Ss:=.cons (.ret (.call 6 (.cons (.ucall 4 .v0 .nil) (.cons .v1 (.cons .v2 .nil))))) <| .nil
def B82:Ss:=.cons (.asg (.one 1) (.new 0 .nil)) <| .cons (.aset .v1 0 (.attr .v0 0)) <| .cons (.aset .v1 1 (.attr .v0 1)) <| .cons (.ret .v1) <| .nil
def B83:Ss:=.cons (.ret (.call 7 (.cons (.attr .v0 0) .nil))) <| .nil
def B84:Ss:=.cons (.ret (.call 14 (.cons (.attr .v0 0) (.cons (.i 0) (.cons (.lst .nil) .nil))))) <| .nil
def B25:Ss:=.cons (.ret (.and (.blt .isinstance (.cons .v0 (.cons (.ty 0) .nil))) (.and (.cmp .v0 (.one .isnot (.lit (.bool T1)))) (.cmp .v0 (.one .isnot (.lit (.bool F0))))))) <| .nil
def Zt0:St:=(.asg (.one 1) (.bin .sub (.bin .mod (.bin .fdiv .v0 (.i 4)) (.i 61)) (.i 30)))
def Zt1:St:=(.ife (.cmp (.bin .mod .v0 (.i 4)) (.one .eq (.i 3))) (.cons (.asg (.one 1) (.bin .sub (.bin .mod (.bin .mul (.bin .fdiv .v0 (.i 4)) (.bin .pow (.i 48271) (.i 12))) (.bin .sub (.bin .mul (.i 2) (.bin .pow (.i 10) (.i 60))) (.i 1))) (.bin .sub (.bin .pow (.i 10) (.i 60)) (.i 1)))) .nil) .nil)
def Zt2:St:=(.asg (.one 2) (.bin .mod (.bin .fdiv .v0 (.i 244)) (.i 16)))
def Zt3:St:=(.ife (.cmp (.bin .mod (.bin .fdiv .v0 (.i 3904)) (.i 8)) (.one .eq (.i 1))) (.cons (.asg (.one 2) (.bin .mod (.bin .mul (.bin .fdiv .v0 (.i 4)) (.bin .pow (.i 69621) (.i 12))) (.bin .pow (.i 10) (.i 60)))) .nil) .nil)
def Zt4:St:=(.asg (.one 3) (.bin .sub (.bin .mod (.bin .fdiv .v0 (.i 31232)) (.i 7)) (.i 3)))
def Zt5:St:=(.ife (.cmp (.bin .mod (.bin .fdiv .v0 (.i 218624)) (.i 8)) (.one .eq (.i 1))) (.cons (.asg (.one 3) (.bin .sub (.bin .mod (.bin .mul (.bin .fdiv .v0 (.i 4)) (.bin .pow (.i 16807) (.i 14))) (.bin .sub (.bin .mul (.i 2) (.bin .pow (.i 10) (.i 60))) (.i 1))) (.bin .sub (.bin .pow (.i 10) (.i 60)) (.i 1)))) .nil) .nil)
def Zt6:St:=(.ret (.tup (.cons .v1 (.cons (.blt .min (.cons (.bin .add .v1 .v2) (.cons (.bin .sub (.bin .pow (.i 10) (.i 60)) (.i 1)) .nil))) (.cons .v3 .nil)))))
def B17:Ss:=.cons Zt0 <| .cons Zt1 <| .cons Zt2 <| .cons Zt3 <| .cons Zt4 <| .cons Zt5 <| .cons Zt6 <| .nil
def B26:Ss:=.cons (.ife (.or (.not (.blt .isinstance (.cons .v0 (.cons (.ty 2) .nil)))) (.cmp .v0 (.one .ne .v1))) (.cons (.ret (.lit (.bool F0))) .nil) .nil) <| .cons (.ret (.cmp (.blt .len (.cons (.comp .v3 3 (.ex .v0) (.cons (.call 25 (.cons .v3 .nil)) .nil)) .nil)) (.one .eq (.blt .len (.cons .v1 .nil))))) <| .nil
def B27:Ss:=.cons (.ife (.or (.not (.blt .isinstance (.cons .v0 (.cons (.ty 3) .nil)))) (.cmp (.blt .len (.cons .v0 .nil)) (.one .ne (.blt .len (.cons .v1 .nil))))) (.cons (.ret (.lit (.bool F0))) .nil) .nil) <| .cons (.ret (.cmp (.blt .len (.cons (.comp .v3 3 (.rng1 (.blt .len (.cons .v1 .nil))) (.cons (.not (.call 26 (.cons (.idx .v0 .v3) (.cons (.idx .v1 .v3) .nil)))) .nil)) .nil)) (.one .eq (.i 0)))) <| .nil
def B34:Ss:=.cons (.asg (.one 1) (.bin .sub (.bin .mod .v0 (.i 41)) (.i 20))) <| .cons (.asg (.one 2) (.bin .mod (.bin .fdiv .v0 (.i 41)) (.i 4))) <| .cons (.asg (.one 3) (.bin .add (.i 1) (.bin .mod (.bin .fdiv .v0 (.i 164)) (.i 3)))) <| .cons (.asg (.one 4) (.bin .add (.i 1) (.bin .mod (.bin .fdiv .v0 (.i 492)) (.i 3)))) <| .cons (.ret (.comp (.tup (.cons (.bin .add .v1 (.bin .mul .v2 .v6)) (.cons (.bin .add (.bin .add .v1 (.bin .mul .v2 .v6)) (.bin .mod .v6 .v3)) (.cons (.bin .fdiv .v6 .v4) .nil)))) 6 (.rng1 (.bin .add (.bin .mod (.bin .fdiv .v0 (.i 1476)) (.i 16)) (.i 4))) .nil)) <| .nil
def Zt7:St:=(.asg (.one 2) (.idx .v1 (.bin .mod (.bin .fdiv .v0 (.i 3)) (.blt .len (.cons .v1 .nil)))))
def B35:Ss:=.cons Zt7 <| .cons (.ife (.cmp (.idx .v2 (.i 2)) (.one .gt (.i 0))) (.cons (.ret (.tup (.cons (.idx .v2 (.i 0)) (.cons (.idx .v2 (.i 1)) (.cons (.bin .sub (.idx .v2 (.i 2)) (.i 1)) .nil))))) .nil) .nil) <| .cons (.ret (.tup (.cons (.idx .v2 (.i 0)) (.cons (.idx .v2 (.i 1)) (.cons (.bin .add (.idx .v2 (.i 2)) (.i 1)) .nil))))) <| .nil
def B36:Ss:=.cons (.ife (.and (.cmp (.bin .mod .v0 (.i 8)) (.one .eq (.i 7))) (.cmp (.blt .len (.cons .v2 .nil)) (.one .lt (.i 40)))) (.cons (.ret (.call 34 (.cons .v1 .nil))) .nil) .nil) <| .cons (.ife (.and (.cmp (.blt .len (.cons .v2 .nil)) (.one .gt (.i 0))) (.and (.cmp (.bin .mod .v0 (.i 8)) (.one .mem (.tup (.cons (.i 2) (.cons (.i 3) .nil))))) (.cmp (.bin .mod (.bin .fdiv .v1 (.i 5)) (.i 3)) (.one .eq (.i 0))))) (.cons (.ret (.lst (.cons (.call 35 (.cons .v1 (.cons .v2 .nil))) .nil))) .nil) .nil) <| .cons (.ife (.and (.cmp (.bin .mod .v0 (.i 8)) (.one .gt (.i 3))) (.cmp (.blt .len (.cons .v2 .nil)) (.one .gt (.i 0)))) (.cons (.ife (.cmp (.bin .mod .v0 (.i 8)) (.one .eq (.i 6))) (.cons (.ret (.slc (.slc .v2 (.yes (.bin .mod .v1 (.i 2))) .no (.yes (.i 2))) .no (.yes (.i 20)) .no)) .nil) .nil) (.cons (.ret (.lst (.cons (.idx .v2 (.bin .mod (.bin .fdiv .v1 (.i 3)) (.blt .len (.cons .v2 .nil)))) .nil))) .nil)) .nil) <| .cons (.ret (.lst (.cons (.call 17 (.cons .v1 .nil)) .nil))) <| .nil
def B39:Ss:=.cons (.ife (.cmp (.idx .v1 (.i 2)) (.one .ne (.lit (.str { cps:=#[100,111,110,101] })))) (.cons (.ret .v0) .nil) .nil) <| .cons (.ife (.cmp (.idx .v1 (.i 0)) (.one .eq (.lit (.str { cps:=#[112,117,116] })))) (.cons (.ret (.blt .sorted (.cons (.bin .add .v0 (.lst (.cons (.idx .v1 (.i 1)) .nil))) .nil))) .nil) .nil) <| .cons (.ret (.comp .v3 3 (.ex .v0) (.cons (.cmp .v3 (.one .ne (.idx .v1 (.i 1)))) .nil))) <| .nil
def Zt8:St:=(.asg (.one 2) (.idx .v1 (.i 1)))
def H40:Ss:=(.cons (.ife (.cmp (.blt .isinstance (.cons .v4 (.cons (.ty 12) .nil))) (.one .eq (.blt .isinstance (.cons .v4 (.cons (.ty 13) .nil))))) (.cons (.ret (.lit (.str { cps:=#[97,110,111,116,104,101,114,32,111,110,101] }))) .nil) .nil) (.cons (.ret (.idx (.lst (.cons (.lit (.str { cps:=#[109,105,115,115,105,110,103] })) (.cons (.lit (.str { cps:=#[116,119,105,99,101] })) .nil))) (.blt .int (.cons (.blt .isinstance (.cons .v4 (.cons (.ty 12) .nil))) .nil)))) .nil))
def Zyb:Ss:=(.cons (.ife (.cmp (.idx .v1 (.i 0)) (.one .eq (.lit (.str { cps:=#[112,117,116] })))) (.cons (.asg (.one 3) (.ucall 1 .v0 (.cons (.idx .v2 (.i 0)) (.cons (.idx .v2 (.i 1)) (.cons (.idx .v2 (.i 2)) .nil))))) .nil) (.cons (.asg (.one 3) (.ucall 2 .v0 (.cons (.idx .v2 (.i 0)) (.cons (.idx .v2 (.i 1)) (.cons (.idx .v2 (.i 2)) .nil))))) .nil)) .nil)
def B40:Ss:=.cons Zt8 <| .cons (.try_ Zyb 10 4 H40) <| .cons (.ret (.bin .mul (.lit (.str { cps:=#[100,111,110,101] })) (.blt .int (.cons (.cmp .v3 (.one .is (.lit .none))) .nil)))) <| .nil
def Zt9:St:=(.asg (.one 1) (.lst (.cons (.tup (.cons (.i 0) (.cons (.blt .len (.cons .v0 .nil)) (.cons (.i 0) .nil)))) .nil)))
noncomputable def Zua:St:=(.asg (.one 2) (.lst .nil))
def R41:Ss:=(.cons (.ife (.cmp .v3 (.one .ge (.blt .len (.cons .v1 .nil)))) (.cons (.ret (.lit .none)) .nil) .nil) (.cons (.asg (.three 4 5 6) (.idx .v1 .v3)) (.cons (.asg (.one 7) (.comp .v9 9 (.rng2 .v4 .v5) (.cons (.cmp (.idx (.idx .v0 .v9) (.i 1)) (.one .eq .v6)) .nil))) (.cons (.ife (.or (.cmp (.blt .len (.cons .v7 .nil)) (.one .ne (.i 1))) (.cmp (.blt .min (.cons (.comp (.idx (.idx .v0 .v9) (.i 1)) 9 (.rng2 .v4 .v5) .nil) .nil)) (.one .ne .v6))) (.cons (.ret (.lit .none)) .nil) .nil) (.cons (.expr (.mth .append .v2 (.cons (.tup (.cons (.idx .v7 (.i 0)) (.cons .v4 (.cons .v5 .nil)))) .nil))) (.cons (.ife (.cmp .v4 (.one .lt (.idx .v7 (.i 0)))) (.cons (.expr (.mth .append .v1 (.cons (.tup (.cons .v4 (.cons (.idx .v7 (.i 0)) (.cons (.bin .add .v6 (.i 1)) .nil)))) .nil))) .nil) .nil) (.cons (.ife (.cmp (.bin .add (.idx .v7 (.i 0)) (.i 1)) (.one .lt .v5)) (.cons (.expr (.mth .append .v1 (.cons (.tup (.cons (.bin .add (.idx .v7 (.i 0)) (.i 1)) (.cons .v5 (.cons (.bin .add .v6 (.i 1)) .nil)))) .nil))) .nil) .nil) .nil)))))))
def B41:Ss:=.cons Zt9 <| .cons Zua <| .cons (.for_ (.one 3) (.rng1 (.blt .len (.cons .v0 .nil))) R41) <| .cons (.ret .v2) <| .nil
def B43:Ss:=.cons (.for_ (.one 4) (.rng2 .v1 .v2) (.cons (.ife (.cmp (.idx (.idx .v0 .v4) (.i 1)) (.one .eq .v3)) (.cons (.ret (.idx (.idx .v0 .v4) (.i 2))) .nil) .nil) .nil)) <| .cons (.ret (.i 0)) <| .nil
def B47:Ss:=.cons (.for_ (.one 4) (.rng2 .v1 .v2) (.cons (.ife (.cmp (.idx (.idx .v0 .v4) (.i 1)) (.one .eq .v3)) (.cons (.ret .v4) .nil) .nil) .nil)) <| .cons (.ret (.bin .sub (.i 0) (.i 1))) <| .nil
def Zub:St:=(.asg (.one 2) (.lst (.cons (.tup (.cons (.i 0) (.cons (.blt .len (.cons .v0 .nil)) (.cons (.i 0) .nil)))) .nil)))
def Zuc:St:=(.asg (.one 3) (.i 0))
def R48:Ss:=(.cons (.ife (.cmp .v4 (.one .ge (.blt .len (.cons .v2 .nil)))) (.cons (.ret .v3) .nil) .nil) (.cons (.asg (.three 5 6 7) (.idx .v2 .v4)) (.cons (.asg (.one 8) (.call 47 (.cons .v0 (.cons .v5 (.cons .v6 (.cons .v7 .nil)))))) (.cons (.ife (.and (.cmp .v8 (.one .ge (.i 0))) (.cmp (.idx (.idx .v0 .v8) (.i 3)) (.one .ge (.idx .v1 (.i 0))))) (.cons (.asg (.one 3) (.bin .add .v3 (.i 1))) (.cons (.expr (.mth .append .v2 (.cons (.tup (.cons .v5 (.cons .v8 (.cons (.bin .add .v7 (.i 1)) .nil)))) .nil))) (.cons (.ife (.cmp (.idx (.idx (.idx .v0 .v8) (.i 0)) (.i 0)) (.one .le (.idx .v1 (.i 1)))) (.cons (.expr (.mth .append .v2 (.cons (.tup (.cons (.bin .add .v8 (.i 1)) (.cons .v6 (.cons (.bin .add .v7 (.i 1)) .nil)))) .nil))) .nil) .nil) .nil))) .nil) .nil))))
def B48:Ss:=.cons Zub <| .cons Zuc <| .cons (.for_ (.one 4) (.rng1 (.bin .add (.bin .mul (.i 2) (.blt .len (.cons .v0 .nil))) (.i 1))) R48) <| .cons (.ret .v3) <| .nil
def R56:Ss:=(.cons (.expr (.mth .append .v3 (.cons (.tup (.cons (.i 0) (.cons (.i 0) (.cons (.i 0) .nil)))) .nil))) .nil)
def B56:Ss:=.cons (.ife (.not (.call 27 (.cons (.ucall 9 .v0 (.cons (.idx .v2 (.i 0)) (.cons (.idx .v2 (.i 1)) .nil))) (.cons (.call 30 (.cons .v1 (.cons (.idx .v2 (.i 0)) (.cons (.idx .v2 (.i 1)) .nil)))) .nil)))) (.cons (.ret (.lit (.bool F0))) .nil) .nil) <| .cons (.ife (.not (.call 26 (.cons (.ucall 11 .v0 (.cons (.idx .v2 (.i 0)) (.cons (.idx .v2 (.i 1)) .nil))) (.cons (.call 58 (.cons .v1 (.cons .v2 .nil))) .nil)))) (.cons (.ret (.lit (.bool F0))) .nil) .nil) <| .cons (.ife (.not (.call 27 (.cons (.ucall 10 .v0 .nil) (.cons (.call 55 (.cons .v1 .nil)) .nil)))) (.cons (.ret (.lit (.bool F0))) .nil) .nil) <| .cons (.for_ (.one 3) (.ex (.lst (.cons (.ucall 14 .v0 .nil) (.cons (.ucall 10 .v0 .nil) (.cons (.ucall 9 .v0 (.cons (.idx .v2 (.i 0)) (.cons (.idx .v2 (.i 1)) .nil))) .nil))))) R56) <| .cons (.ret (.call 27 (.cons (.ucall 10 .v0 .nil) (.cons (.call 55 (.cons .v1 .nil)) .nil)))) <| .nil
def Zud:St:=(.ife (.or (.not (.blt .isinstance (.cons .v2 (.cons (.ty 3) .nil)))) (.or (.cmp (.blt .len (.cons .v2 .nil)) (.one .ne (.blt .len (.cons .v1 .nil)))) (.cmp (.comp (.idx (.var 11) (.i 0)) 11 (.ex .v2) .nil) (.one .ne .v1)))) (.cons (.ret (.lit (.bool F0))) .nil) .nil)
def Zue:St:=(.ife (.or (.cmp .v3 (.one .is (.lit .none))) (.cmp (.ucall 13 .v0 .nil) (.one .ne (.call 43 (.cons .v2 (.cons (.i 0) (.cons (.blt .len (.cons .v2 .nil)) (.cons (.i 0) .nil)))))))) (.cons (.ret (.lit (.bool F0))) .nil) .nil)
def R57:Ss:=(.cons (.asg (.one 7) (.call 43 (.cons .v2 (.cons .v5 (.cons .v4 (.cons (.bin .add (.idx (.idx .v2 .v4) (.i 1)) (.i 1)) .nil)))))) (.cons (.asg (.one 8) (.call 43 (.cons .v2 (.cons (.bin .add .v4 (.i 1)) (.cons .v6 (.cons (.bin .add (.idx (.idx .v2 .v4) (.i 1)) (.i 1)) .nil)))))) (.cons (.ife (.or (.cmp (.idx (.idx .v2 .v4) (.i 2)) (.one .ne (.bin .add (.i 1) (.blt .max (.cons .v7 (.cons .v8 .nil)))))) (.not (.cmp (.bin .sub (.i 0) (.i 1)) (.more .le (.bin .sub .v7 .v8) (.one .le (.i 1)))))) (.cons (.ret (.lit (.bool F0))) .nil) .nil) (.cons (.ife (.cmp (.idx (.idx .v2 .v4) (.i 3)) (.one .ne (.blt .max (.cons (.comp (.idx (.idx .v1 (.var 11)) (.i 1)) 11 (.rng2 .v5 .v6) .nil) .nil)))) (.cons (.ret (.lit (.bool F0))) .nil) .nil) .nil))))
def B57:Ss:=.cons (.asg (.one 2) (.ucall 14 .v0 .nil)) <| .cons Zud <| .cons (.asg (.one 3) (.call 41 (.cons .v2 .nil))) <| .cons Zue <| .cons (.for_ (.three 4 5 6) (.ex .v3) R57) <| .cons (.asg (.one 9) (.call 29 (.cons (.bin .add (.bin .mul (.blt .len (.cons .v1 .nil)) (.i 69621)) (.i 3)) (.cons .v1 .nil)))) <| .cons (.ife (.not (.call 56 (.cons .v0 (.cons .v1 (.cons .v9 .nil))))) (.cons (.ret (.lit (.bool F0))) .nil) .nil) <| .cons (.ret (.cmp (.ucall 8 .v0 (.cons (.idx .v9 (.i 0)) (.cons (.idx .v9 (.i 1)) .nil))) (.one .eq (.call 48 (.cons .v2 (.cons .v9 .nil)))))) <| .nil
def Zuf:St:=(.ife (.and (.cmp (.blt .len (.cons .v1 .nil)) (.one .gt (.i 0))) (.cmp (.bin .mod (.bin .fdiv .v0 (.i 2430)) (.i 4)) (.one .gt (.i 0)))) (.cons (.asg (.one 5) (.idx .v1 (.bin .mod (.bin .fdiv .v0 (.i 9720)) (.blt .len (.cons .v1 .nil))))) (.cons (.asg (.one 2) (.bin .sub (.bin .add (.idx .v5 (.bin .mod .v4 (.i 2))) (.bin .mod (.bin .fdiv .v4 (.i 2)) (.i 5))) (.i 2))) (.cons (.asg (.one 3) (.bin .add .v2 (.bin .mul (.bin .mod (.bin .fdiv .v4 (.i 10)) (.i 20)) (.bin .mod (.bin .fdiv .v4 (.i 200)) (.i 3))))) (.cons (.ife (.cmp (.bin .mod (.bin .fdiv .v4 (.i 19200)) (.i 3)) (.one .eq (.i 0))) (.cons (.asg (.one 3) (.bin .sub (.bin .add (.idx (.idx .v1 (.bin .mod (.bin .mod (.bin .mul .v0 (.i 16807)) (.i 1000033)) (.blt .len (.cons .v1 .nil)))) (.i 1)) (.bin .mod (.bin .fdiv .v4 (.i 7)) (.i 5))) (.i 2))) .nil) .nil) .nil)))) .nil)
def Zug:St:=(.ife (.cmp (.bin .mod (.bin .fdiv .v4 (.i 600)) (.i 32)) (.one .eq (.i 3))) (.cons (.asg (.one 2) (.bin .sub (.i 1) (.bin .pow (.i 10) (.i 60)))) .nil) .nil)
def Zuh:St:=(.ife (.cmp (.bin .mod (.bin .fdiv .v4 (.i 600)) (.i 32)) (.one .gt (.i 29))) (.cons (.asg (.one 3) (.bin .sub (.bin .pow (.i 10) (.i 60)) (.i 1))) .nil) .nil)
def B29:Ss:=.cons (.asg (.one 2) (.bin .sub (.bin .mod .v0 (.i 81)) (.i 40))) <| .cons (.asg (.one 3) (.bin .add .v2 (.bin .mod (.bin .fdiv .v0 (.i 81)) (.i 30)))) <| .cons (.asg (.one 4) (.bin .mod (.bin .mul .v0 (.i 69621)) (.i 1000003))) <| .cons Zuf <| .cons Zug <| .cons Zuh <| .cons (.asg (.one 2) (.blt .max (.cons (.bin .sub (.i 1) (.bin .pow (.i 10) (.i 60))) (.cons (.blt .min (.cons .v2 (.cons (.bin .sub (.bin .pow (.i 10) (.i 60)) (.i 1)) .nil))) .nil)))) <| .cons (.ret (.tup (.cons .v2 (.cons (.blt .max (.cons .v2 (.cons (.blt .min (.cons .v3 (.cons (.bin .sub (.bin .pow (.i 10) (.i 60)) (.i 1)) .nil))) .nil))) .nil)))) <| .nil
def Zp6:St:=(.for_ (.one 4) (.ex .v0) (.cons (.ife (.and (.cmp (.idx .v4 (.i 0)) (.one .gt .v1)) (.cmp .v1 (.one .le .v2))) (.cons (.expr (.mth .append .v3 (.cons (.tup (.cons .v1 (.cons (.blt .min (.cons (.bin .sub (.idx .v4 (.i 0)) (.i 1)) (.cons .v2 .nil))) .nil))) .nil))) .nil) .nil) (.cons (.asg (.one 1) (.blt .max (.cons .v1 (.cons (.bin .add (.idx .v4 (.i 1)) (.i 1)) .nil)))) .nil)))
def Zui:St:=(.ife (.cmp .v1 (.one .le .v2)) (.cons (.expr (.mth .append .v3 (.cons (.tup (.cons .v1 (.cons .v2 .nil))) .nil))) .nil) .nil)
def Zuj:St:=(.ret .v3)
def B30:Ss:=.cons (.asg (.one 3) (.lst .nil)) <| .cons Zp6 <| .cons Zui <| .cons Zuj <| .nil
def R58:Ss:=(.cons (.asg (.one 4) (.blt .len (.cons (.comp .v6 6 (.ex .v0) (.cons (.cmp (.idx .v6 (.i 0)) (.more .le .v3 (.one .le (.idx .v6 (.i 1))))) .nil)) .nil))) (.cons (.ife (.cmp .v4 (.one .gt (.idx .v2 (.i 0)))) (.cons (.asg (.one 2) (.tup (.cons .v4 (.cons .v3 .nil)))) .nil) .nil) .nil))
def B58:Ss:=.cons (.asg (.one 2) (.tup (.cons (.i 0) (.cons (.idx .v1 (.i 0)) .nil)))) <| .cons (.for_ (.one 3) (.ex (.bin .add (.lst (.cons (.idx .v1 (.i 0)) .nil)) (.comp (.idx .v6 (.i 0)) 6 (.ex .v0) (.cons (.cmp (.idx .v1 (.i 0)) (.more .lt (.idx .v6 (.i 0)) (.one .le (.idx .v1 (.i 1))))) .nil)))) R58) <| .cons (.ret .v2) <| .nil
def Zuk:St:=(.ife (.not (.call 27 (.cons .v3 (.cons (.comp .v8 8 (.ex .v1) (.cons (.and (.cmp (.idx .v8 (.i 0)) (.one .le (.idx .v2 (.i 1)))) (.cmp (.idx .v2 (.i 0)) (.one .le (.idx .v8 (.i 1))))) .nil)) .nil)))) (.cons (.ret (.lit (.bool F0))) .nil) .nil)
def Zul:St:=(.ife (.not (.call 27 (.cons (.ucall 7 .v0 (.cons (.idx .v2 (.i 1)) .nil)) (.cons (.comp .v8 8 (.ex .v1) (.cons (.cmp (.idx .v8 (.i 0)) (.more .le (.idx .v2 (.i 1)) (.one .le (.idx .v8 (.i 1))))) .nil)) .nil)))) (.cons (.ret (.lit (.bool F0))) .nil) .nil)
def R59:Ss:=(.cons (.expr (.mth .append .v4 (.cons (.tup (.cons (.i 0) (.cons (.i 0) (.cons (.i 0) .nil)))) .nil))) .nil)
def Zum:St:=(.for_ (.one 4) (.ex .v5) R59)
def Zun:St:=(.ife (.or (.not (.call 27 (.cons (.ucall 4 .v0 .nil) (.cons .v1 .nil)))) (.or (.not (.call 25 (.cons .v6 .nil))) (.cmp .v6 (.one .ne (.blt .len (.cons .v1 .nil)))))) (.cons (.ret (.lit (.bool F0))) .nil) .nil)
def B59:Ss:=.cons (.asg (.one 3) (.ucall 6 .v0 (.cons (.idx .v2 (.i 0)) (.cons (.idx .v2 (.i 1)) .nil)))) <| .cons Zuk <| .cons Zul <| .cons (.asg (.one 5) (.lst (.cons (.ucall 4 .v0 .nil) (.cons .v3 .nil)))) <| .cons Zum <| .cons (.asg (.one 6) (.ucall 5 .v0 .nil)) <| .cons Zun <| .cons (.ret (.and (.cmp (.idx .v5 (.i 0)) (.one .eq (.bin .add .v1 (.lst (.cons (.tup (.cons (.i 0) (.cons (.i 0) (.cons (.i 0) .nil)))) .nil))))) (.cmp (.ucall 6 .v0 (.cons (.idx .v2 (.i 0)) (.cons (.idx .v2 (.i 1)) .nil))) (.one .eq (.slc .v3 .no (.yes (.neg (.i 1))) .no))))) <| .nil
def Zyc:St:=(.ife (.and (.cmp .v8 (.one .eq (.lit (.str { cps:=#[112,117,116] })))) (.cmp .v7 (.one .mem (.idx .v2 .v5)))) (.cons (.asg (.one 9) (.lit (.str { cps:=#[116,119,105,99,101] }))) .nil) .nil)
def Zyd:St:=(.ife (.and (.cmp .v8 (.one .eq (.lit (.str { cps:=#[116,97,107,101] })))) (.cmp .v7 (.one .nmem (.idx .v2 .v5)))) (.cons (.asg (.one 9) (.lit (.str { cps:=#[109,105,115,115,105,110,103] }))) .nil) .nil)
def Zwb:Ss:=(.cons (.asg (.one 8) (.ife (.cmp (.bin .mod (.idx .v0 .v3) (.i 8)) (.one .mem (.tup (.cons (.i 3) (.cons (.i 5) (.cons (.i 6) .nil)))))) (.lit (.str { cps:=#[116,97,107,101] })) (.lit (.str { cps:=#[112,117,116] })))) (.cons (.asg (.one 9) (.lit (.str { cps:=#[100,111,110,101] }))) (.cons Zyc (.cons Zyd (.cons (.ife (.cmp (.call 40 (.cons (.idx .v1 .v5) (.cons (.tup (.cons .v8 (.cons .v7 .nil))) .nil))) (.one .ne .v9)) (.cons (.ret (.lit (.bool F0))) .nil) .nil) (.cons (.iset .v2 .v5 (.call 39 (.cons (.idx .v2 .v5) (.cons (.tup (.cons .v8 (.cons .v7 (.cons .v9 .nil)))) .nil)))) .nil))))))
def Zye:St:=(.ife (.and (.cmp (.bin .mod (.bin .fdiv (.idx .v0 .v3) (.i 8)) (.i 5)) (.one .eq (.i 0))) (.cmp (.blt .len (.cons .v1 .nil)) (.one .lt (.i 5)))) (.cons (.expr (.mth .append .v1 (.cons (.ucall 12 (.idx .v1 .v5) .nil) .nil))) (.cons (.expr (.mth .append .v2 (.cons (.blt .list (.cons (.idx .v2 .v5) .nil)) .nil))) (.cons (.ife (.not (.blt .isinstance (.cons (.idx .v1 (.neg (.i 1))) (.cons (.ty 20) .nil)))) (.cons (.ret (.lit (.bool F0))) .nil) .nil) .nil))) .nil)
def Zwc:Ss:=(.cons (.asg (.one 4) (.bin .add (.bin .mul (.idx .v0 .v3) (.i 48271)) (.bin .mul (.i 31) .v3))) (.cons (.asg (.one 5) (.bin .mod (.bin .fdiv .v4 (.i 7)) (.blt .len (.cons .v1 .nil)))) (.cons Zye (.cons (.asg (.one 6) (.call 29 (.cons .v4 (.cons (.lst .nil) .nil)))) (.cons (.ife (.not (.call 59 (.cons (.idx .v1 .v5) (.cons (.idx .v2 .v5) (.cons .v6 .nil))))) (.cons (.ret (.lit (.bool F0))) .nil) .nil) (.cons (.for_ (.one 7) (.ex (.slc (.call 36 (.cons (.idx .v0 .v3) (.cons .v4 (.cons (.idx .v2 .v5) .nil)))) .no (.yes (.i 8)) .no)) Zwb) (.cons (.asg (.one 10) (.bin .mod (.bin .fdiv .v4 (.i 35)) (.blt .len (.cons .v1 .nil)))) (.cons (.ife (.or (.not (.call 59 (.cons (.idx .v1 .v5) (.cons (.idx .v2 .v5) (.cons .v6 .nil))))) (.not (.call 59 (.cons (.idx .v1 (.var 10)) (.cons (.idx .v2 (.var 10)) (.cons .v6 .nil)))))) (.cons (.ret (.lit (.bool F0))) .nil) .nil) .nil))))))))
def Zyf:Ss:=(.cons (.ife (.cmp (.ucall 3 (.idx .v1 .v3) (.cons (.idx .v7 (.i 0)) (.cons (.idx .v7 (.i 1)) (.cons (.idx .v7 (.i 2)) .nil)))) (.one .ne (.cmp .v7 (.one .mem (.idx .v2 .v3))))) (.cons (.ret (.lit (.bool F0))) .nil) .nil) .nil)
def Zwd:Ss:=(.cons (.for_ (.one 7) (.ex (.var 11)) Zyf) (.cons (.ife (.or (.not (.call 59 (.cons (.idx .v1 .v3) (.cons (.idx .v2 .v3) (.cons (.call 29 (.cons (.bin .add (.bin .mul .v3 (.i 2917)) (.i 40)) (.cons (.idx .v2 .v3) .nil))) .nil))))) (.not (.call 57 (.cons (.idx .v1 .v3) (.cons (.idx .v2 .v3) .nil))))) (.cons (.ret (.lit (.bool F0))) .nil) .nil) .nil))
def B60:Ss:=.cons (.asg (.one 1) (.lst (.cons (.new 0 .nil) .nil))) <| .cons (.asg (.one 2) (.lst (.cons (.lst .nil) .nil))) <| .cons (.for_ (.one 3) (.rng1 (.blt .min (.cons (.blt .len (.cons .v0 .nil)) (.cons (.i 24) .nil)))) Zwc) <| .cons (.asg (.one 11) (.bin .add (.idx .v2 (.i 0)) (.idx .v2 (.neg (.i 1))))) <| .cons (.for_ (.one 3) (.rng1 (.blt .len (.cons .v1 .nil))) Zwd) <| .cons (.ret (.lit (.bool T1))) <| .nil
end Mini.Internal
open PySem PySem.W PyProof.Rows
set_option Elab.async false
namespace Mini.Internal
noncomputable def md11:Nat->Mode:=λn=>if n=14\/n=15\/n=40\/n=70\/n=71\/n=72\/n=77\/n=82 then .raw else if n=4\/n=5\/n=30\/n=34\/n=36\/n=39\/n=41\/n=55\/n=74\/n=76\/n=79\/n=80\/n=84 then .fresh else .pure
def XP11 (mg:Str->Option aa)(h:au):Prop:=XL vw [] mg h/\Sub mg h
set_option maxRecDepth 100000 in
theorem Zp7:plainsOf vw (looseW vw [])≠[]:=Iw (by decide +kernel)
def wood:ClsRec:=(plainsOf vw (looseW vw [])).head Zp7
theorem wood_name:wood.name=Zmi:=by kernel_rfl
def pgR:Pg:=Zsq bltNames md11 (recsOf vw) wood.withCmp.meths
theorem pgX:∃p:Pg,p=pgR:=⟨_,rfl⟩
noncomputable def pg:Pg:=pgX.choose
theorem Zms:pg=pgR:=pgX.choose_spec
def cf (d f:Nat)(as:List V)(U:H):X V:=Zdx pg d f as U
def Cd (d:Nat):Cl:=⟨pg,cf d⟩
set_option maxRecDepth 100000
noncomputable def tbN:List Nat:=[1,2,3,4,5,6,7,8,9,10,11,12,13,14,15,17,25,26,27,29,30,34,35,36,39,40,41,43,47,48,55,56,57,58,59,60,70,71,72,73,74,75,76,77,78,79,80,81,82,83,84]
def tbF:List Fn:=[⟨[0],9,B1,.pure⟩,⟨[0,1],10,B2,.pure⟩,⟨[0,1,2],11,B3,.pure⟩,⟨[0,1,2],14,B4,.fresh⟩,⟨[0],12,B5,.fresh⟩,⟨[0,1,2],16,B6,.pure⟩,⟨[0],9,B7,.pure⟩,⟨[0,1,2],12,B8,.pure⟩,⟨[0,1,2],12,B9,.pure⟩,⟨[0,1],10,B10,.pure⟩,⟨[0],9,B11,.pure⟩,⟨[0,1],11,B12,.pure⟩,⟨[0,1],10,B13,.pure⟩,⟨[0,1,2],11,B14,.raw⟩,⟨[0,1,2,3],13,B15,.raw⟩,⟨[0],12,B17,.pure⟩,⟨[0],9,B25,.pure⟩,⟨[0,1],10,B26,.pure⟩,⟨[0,1],10,B27,.pure⟩,⟨[0,1],14,B29,.pure⟩,⟨[0,1,2],13,B30,.fresh⟩,⟨[0],13,B34,.fresh⟩,⟨[0,1],11,B35,.pure⟩,⟨[0,1,2],11,B36,.fresh⟩,⟨[0,1],10,B39,.fresh⟩,⟨[0,1],13,B40,.raw⟩,⟨[0],16,B41,.fresh⟩,⟨[0,1,2,3],13,B43,.pure⟩,⟨[0,1,2,3],13,B47,.pure⟩,⟨[0,1],17,B48,.pure⟩,⟨[0],12,B5,.fresh⟩,⟨[0,1,2],12,B56,.pure⟩,⟨[0,1],18,B57,.pure⟩,⟨[0,1],13,B58,.pure⟩,⟨[0,1,2],15,B59,.pure⟩,⟨[0],20,B60,.pure⟩,⟨[0],9,B70,.raw⟩,⟨[0,1,2,3],12,B71,.raw⟩,⟨[0,1,2,3],12,B72,.raw⟩,⟨[0,1,2,3],12,B73,.pure⟩,⟨[0],9,B74,.fresh⟩,⟨[0],9,B75,.pure⟩,⟨[0,1,2],12,B76,.fresh⟩,⟨[0,1],10,B77,.raw⟩,⟨[0,1,2],11,B78,.pure⟩,⟨[0,1,2],11,B79,.fresh⟩,⟨[0],9,B80,.fresh⟩,⟨[0,1,2],11,B81,.pure⟩,⟨[0],10,B82,.raw⟩,⟨[0],9,B83,.pure⟩,⟨[0],9,B84,.fresh⟩]
theorem tbR:tbN.map pgR.fn=tbF.map S5:=by kernel_rfl
theorem tmR:(C6 15).map (pgR.mt 0)=(C6 15).map λk=>S5 (70+k):=by kernel_rfl
theorem tiR:pgR.init 0=S5 70:=by kernel_rfl
theorem tb:tbN.map pg.fn=tbF.map S5:=Zms▸tbR
theorem tm:(C6 15).map (pg.mt 0)=(C6 15).map λk=>S5 (70+k):=Zms▸tmR
theorem fn1:pg.fn 1=S5 ⟨[0],9,B1,.pure⟩:=B0.inj (congrArg (·[0]?) tb)
theorem fn2:pg.fn 2=S5 ⟨[0,1],10,B2,.pure⟩:=B0.inj (congrArg (·[1]?) tb)
theorem fn3:pg.fn 3=S5 ⟨[0,1,2],11,B3,.pure⟩:=B0.inj (congrArg (·[2]?) tb)
theorem fn4:pg.fn 4=S5 ⟨[0,1,2],14,B4,.fresh⟩:=B0.inj (congrArg (·[3]?) tb)
theorem fn5:pg.fn 5=S5 ⟨[0],12,B5,.fresh⟩:=B0.inj (congrArg (·[4]?) tb)
theorem fn6:pg.fn 6=S5 ⟨[0,1,2],16,B6,.pure⟩:=B0.inj (congrArg (·[5]?) tb)
theorem fn7:pg.fn 7=S5 ⟨[0],9,B7,.pure⟩:=B0.inj (congrArg (·[6]?) tb)
theorem fn8:pg.fn 8=S5 ⟨[0,1,2],12,B8,.pure⟩:=B0.inj (congrArg (·[7]?) tb)
theorem fn9:pg.fn 9=S5 ⟨[0,1,2],12,B9,.pure⟩:=B0.inj (congrArg (·[8]?) tb)
theorem Znz:pg.fn 10=S5 ⟨[0,1],10,B10,.pure⟩:=B0.inj (congrArg (·[9]?) tb)
theorem Zzr:pg.fn 11=S5 ⟨[0],9,B11,.pure⟩:=B0.inj (congrArg (·[10]?) tb)
theorem Zib:pg.fn 12=S5 ⟨[0,1],11,B12,.pure⟩:=B0.inj (congrArg (·[11]?) tb)
theorem Zyg:pg.fn 13=S5 ⟨[0,1],10,B13,.pure⟩:=B0.inj (congrArg (·[12]?) tb)
theorem Zyh:pg.fn 14=S5 ⟨[0,1,2],11,B14,.raw⟩:=B0.inj (congrArg (·[13]?) tb)
theorem Zp8:pg.fn 15=S5 ⟨[0,1,2,3],13,B15,.raw⟩:=B0.inj (congrArg (·[14]?) tb)
theorem Zzs:pg.fn 17=S5 ⟨[0],12,B17,.pure⟩:=B0.inj (congrArg (·[15]?) tb)
theorem Zzt:pg.fn 25=S5 ⟨[0],9,B25,.pure⟩:=B0.inj (congrArg (·[16]?) tb)
theorem Zzu:pg.fn 26=S5 ⟨[0,1],10,B26,.pure⟩:=B0.inj (congrArg (·[17]?) tb)
theorem Zzv:pg.fn 27=S5 ⟨[0,1],10,B27,.pure⟩:=B0.inj (congrArg (·[18]?) tb)
theorem Zzw:pg.fn 29=S5 ⟨[0,1],14,B29,.pure⟩:=B0.inj (congrArg (·[19]?) tb)
theorem Zzx:pg.fn 30=S5 ⟨[0,1,2],13,B30,.fresh⟩:=B0.inj (congrArg (·[20]?) tb)
theorem Zzy:pg.fn 34=S5 ⟨[0],13,B34,.fresh⟩:=B0.inj (congrArg (·[21]?) tb)
theorem Zyi:pg.fn 35=S5 ⟨[0,1],11,B35,.pure⟩:=B0.inj (congrArg (·[22]?) tb)
theorem Zwe:pg.fn 36=S5 ⟨[0,1,2],11,B36,.fresh⟩:=B0.inj (congrArg (·[23]?) tb)
theorem Zwf:pg.fn 39=S5 ⟨[0,1],10,B39,.fresh⟩:=B0.inj (congrArg (·[24]?) tb)
theorem Zyj:pg.fn 40=S5 ⟨[0,1],13,B40,.raw⟩:=B0.inj (congrArg (·[25]?) tb)
theorem Zzz:pg.fn 41=S5 ⟨[0],16,B41,.fresh⟩:=B0.inj (congrArg (·[26]?) tb)
theorem Zyk:pg.fn 43=S5 ⟨[0,1,2,3],13,B43,.pure⟩:=B0.inj (congrArg (·[27]?) tb)
theorem Zyl:pg.fn 47=S5 ⟨[0,1,2,3],13,B47,.pure⟩:=B0.inj (congrArg (·[28]?) tb)
theorem Zym:pg.fn 48=S5 ⟨[0,1],17,B48,.pure⟩:=B0.inj (congrArg (·[29]?) tb)
theorem Zz0:pg.fn 55=S5 ⟨[0],12,B5,.fresh⟩:=B0.inj (congrArg (·[30]?) tb)
theorem Zz1:pg.fn 56=S5 ⟨[0,1,2],12,B56,.pure⟩:=B0.inj (congrArg (·[31]?) tb)
theorem Zz2:pg.fn 57=S5 ⟨[0,1],18,B57,.pure⟩:=B0.inj (congrArg (·[32]?) tb)
theorem Zz3:pg.fn 58=S5 ⟨[0,1],13,B58,.pure⟩:=B0.inj (congrArg (·[33]?) tb)
theorem Zz4:pg.fn 59=S5 ⟨[0,1,2],15,B59,.pure⟩:=B0.inj (congrArg (·[34]?) tb)
theorem Zz5:pg.fn 60=S5 ⟨[0],20,B60,.pure⟩:=B0.inj (congrArg (·[35]?) tb)
theorem Zz6:pg.fn 70=S5 ⟨[0],9,B70,.raw⟩:=B0.inj (congrArg (·[36]?) tb)
theorem Zyn:pg.fn 71=S5 ⟨[0,1,2,3],12,B71,.raw⟩:=B0.inj (congrArg (·[37]?) tb)
theorem Zyo:pg.fn 72=S5 ⟨[0,1,2,3],12,B72,.raw⟩:=B0.inj (congrArg (·[38]?) tb)
theorem Zz7:pg.fn 73=S5 ⟨[0,1,2,3],12,B73,.pure⟩:=B0.inj (congrArg (·[39]?) tb)
theorem Zz8:pg.fn 74=S5 ⟨[0],9,B74,.fresh⟩:=B0.inj (congrArg (·[40]?) tb)
theorem Zz9:pg.fn 75=S5 ⟨[0],9,B75,.pure⟩:=B0.inj (congrArg (·[41]?) tb)
theorem Z0a:pg.fn 76=S5 ⟨[0,1,2],12,B76,.fresh⟩:=B0.inj (congrArg (·[42]?) tb)
theorem Z0b:pg.fn 77=S5 ⟨[0,1],10,B77,.raw⟩:=B0.inj (congrArg (·[43]?) tb)
theorem Z0c:pg.fn 78=S5 ⟨[0,1,2],11,B78,.pure⟩:=B0.inj (congrArg (·[44]?) tb)
theorem Z0d:pg.fn 79=S5 ⟨[0,1,2],11,B79,.fresh⟩:=B0.inj (congrArg (·[45]?) tb)
theorem Z0e:pg.fn 80=S5 ⟨[0],9,B80,.fresh⟩:=B0.inj (congrArg (·[46]?) tb)
theorem Z0f:pg.fn 81=S5 ⟨[0,1,2],11,B81,.pure⟩:=B0.inj (congrArg (·[47]?) tb)
theorem Z0g:pg.fn 82=S5 ⟨[0],10,B82,.raw⟩:=B0.inj (congrArg (·[48]?) tb)
theorem Z0h:pg.fn 83=S5 ⟨[0],9,B83,.pure⟩:=B0.inj (congrArg (·[49]?) tb)
theorem Z0i:pg.fn 84=S5 ⟨[0],9,B84,.fresh⟩:=B0.inj (congrArg (·[50]?) tb)
theorem mt1:pg.mt 0 1=S5 71:=B0.inj (congrArg (·[1]?) tm)
theorem mt2:pg.mt 0 2=S5 72:=B0.inj (congrArg (·[2]?) tm)
theorem mt3:pg.mt 0 3=S5 73:=B0.inj (congrArg (·[3]?) tm)
theorem mt4:pg.mt 0 4=S5 74:=B0.inj (congrArg (·[4]?) tm)
theorem mt5:pg.mt 0 5=S5 75:=B0.inj (congrArg (·[5]?) tm)
theorem mt6:pg.mt 0 6=S5 76:=B0.inj (congrArg (·[6]?) tm)
theorem mt7:pg.mt 0 7=S5 77:=B0.inj (congrArg (·[7]?) tm)
theorem mt8:pg.mt 0 8=S5 78:=B0.inj (congrArg (·[8]?) tm)
theorem mt9:pg.mt 0 9=S5 79:=B0.inj (congrArg (·[9]?) tm)
theorem Zyp:pg.mt 0 10=S5 80:=B0.inj (congrArg (·[10]?) tm)
theorem Z0j:pg.mt 0 11=S5 81:=B0.inj (congrArg (·[11]?) tm)
theorem Z0k:pg.mt 0 12=S5 82:=B0.inj (congrArg (·[12]?) tm)
theorem Z0l:pg.mt 0 13=S5 83:=B0.inj (congrArg (·[13]?) tm)
theorem Zwg:pg.mt 0 14=S5 84:=B0.inj (congrArg (·[14]?) tm)
theorem ini:pg.init 0=S5 70:=Zms▸tiR
end Mini.Internal
namespace Mini.Internal
open PySem
variable {J J' J1:List am}{U U' U1:H}{s s' s1:ae}{h h':au}{Z Z':L}
section
variable {C:Cl}{Z Z' Z1:L}{U U' U1 U2 U3:H}{v x y:V}{a b e:Ex}{as:Es}{vs:List V}
theorem Zd:Zg C (.lit v) Z U=S5 (.ok v,U):=rfl
theorem Z0m {t:Nat}:Zg C (.ty t) Z U=S5 (.ok (.ty t),U):=rfl
theorem Zr {i:Nat}(h:Z[i]?.join=S5 v):Zg C (.var i) Z U=S5 (.ok v,U):=by show okX (Z[i]?.join) U=_;rw[h];rfl
theorem Z8 {α β:Type}{p:X α}{f:α->H->X β}{r:α}{s:H}(h:p=S5 (.ok r,s)):bok p f=f r s:=by rw[h];rfl
theorem Zh {op:Bop}(ha:Zg C a Z U=S5 (.ok x,U1))(hb:Zg C b Z U1=S5 (.ok y,U2))(h:Wp op x y U2=S5 (v,U3)):Zg C (.bin op a b) Z U=S5 (.ok v,U3) :=
 (Z8 ha).trans ((Z8 hb).trans (by show okH (Wp op x y U2)=_;rw[h];rfl))
theorem Zp9 {i:Int}(ha:Zg C a Z U=S5 (.ok (.int i),U1)):Zg C (.neg a) Z U=S5 (.ok (.int (-i)),U1):=Z8 ha
theorem Zyq {p:Bool}(ha:Zg C a Z U=S5 (.ok (.bool p),U1)):Zg C (.not a) Z U=S5 (.ok (.bool (!p)),U1):=Z8 ha
theorem Xm (ha:Zg C a Z U=S5 (.ok (.bool T1),U1)){r:X V}(hb:Zg C b Z U1=r):Zg C (.and a b) Z U=r:=(Z8 ha).trans hb
theorem Qo (ha:Zg C a Z U=S5 (.ok (.bool F0),U1)):Zg C (.and a b) Z U=S5 (.ok (.bool F0),U1):=Z8 ha
theorem Zyr (ha:Zg C a Z U=S5 (.ok (.bool T1),U1)):Zg C (.or a b) Z U=S5 (.ok (.bool T1),U1):=Z8 ha
theorem Xh (ha:Zg C a Z U=S5 (.ok (.bool F0),U1)){r:X V}(hb:Zg C b Z U1=r):Zg C (.or a b) Z U=r:=(Z8 ha).trans hb
theorem Zba {p q:Bool}(ha:Zg C a Z U=S5 (.ok (.bool p),U))(hb:Zg C b Z U=S5 (.ok (.bool q),U)):Zg C (.and a b) Z U=S5 (.ok (.bool (p&&q)),U):=by
 cases p with
 | true=>exact Xm ha hb
 | false=>exact Qo ha
theorem Zk {op:Cop}{p:Bool}(ha:Zg C a Z U=S5 (.ok x,U1))(hb:Zg C b Z U1=S5 (.ok y,U2))(h:Yo op x y U2=S5 p):Zg C (.cmp a (.one op b)) Z U=S5 (.ok (.bool p),U2) :=
 (Z8 ha).trans ((Z8 hb).trans (by show okX ((Yo op x y U2).map V.bool) U2=_;rw[h];rfl))
theorem Zfq {op op':Cop}{c:Ex}{z:V}{p q:Bool}(ha:Zg C a Z U=S5 (.ok x,U))(hb:Zg C b Z U=S5 (.ok y,U))(hc:Zg C c Z U=S5 (.ok z,U))(h:Yo op x y U=S5 p)(h':Yo op' y z U=S5 q):Zg C (.cmp a (.more op b (.one op' c))) Z U=S5 (.ok (.bool (p&&q)),U):=by
 refine (Z8 ha).trans ((Z8 hb).trans ?_)
 show (match Yo op x y U with
  | some T1=>Ze0 C y (.one op' c) Z U
  | some F0=>S5 (.ok (.bool F0),U)
  | .none=>.none)=_
 rw[h]
 cases p with
 | false=>rfl
 | true=>exact (Z8 hc).trans (by show okX ((Yo op' y z U).map V.bool) U=_;rw[h'];rfl)
theorem Zv (ha:Zg C a Z U=S5 (.ok x,U1))(hb:Zg C b Z U1=S5 (.ok y,U2))(h:Yh U2 x y=S5 v):Zg C (.idx a b) Z U=S5 (.ok v,U2) :=
 (Z8 ha).trans ((Z8 hb).trans (by show okX (Yh U2 x y) U2=_;rw[h];rfl))
theorem Jx {i:Nat}{k:V}(h:Z[i]?.join=S5 x)(h2:Yh U x k=S5 v):Zg C (.idx (.var i) (.lit k)) Z U=S5 (.ok v,U):=Zv (Zr h) Zd h2
theorem Xi (hs:Y8 C as Z U=S5 (.ok vs,U1))(hl:Kk vs.length Zo=T1):Zg C (.tup as) Z U=S5 (.ok (.tup vs),U1):=(Z8 hs).trans (gp (By hl))
theorem Uk (hs:Y8 C as Z U=S5 (.ok vs,U1))(hl:Kk vs.length Zo=T1):Zg C (.lst as) Z U=S5 (.ok (.obj U1.length),U1++[.list vs]):=(Z8 hs).trans (by show okH (Jb U1 vs)=_;unfold Jb;rw[gp (By hl)];rfl)
theorem Zl {f:Nat}{r:X V}(hs:Y8 C as Z U=S5 (.ok vs,U1))(h:C.call f vs U1=r):Zg C (.call f as) Z U=r:=(Z8 hs).trans h
theorem Z9 {f:Blt}(hs:Y8 C as Z U=S5 (.ok vs,U1))(h:Uh f vs U1=S5 (v,U2)):Zg C (.blt f as) Z U=S5 (.ok v,U2):=(Z8 hs).trans (by show okH (Uh f vs U1)=_;rw[h];rfl)
theorem Wx {m:Mth}{l:List V}(ha:Zg C a Z U=S5 (.ok x,U1))(hl:Yj U1 x=S5 l)(hs:Y8 C as Z U1=S5 (.ok vs,U2))(h:Qa m x vs U2=S5 (v,U3)):Zg C (.mth m a as) Z U=S5 (.ok v,U3) :=
 (Z8 ha).trans (by
  show ((Yj U1 x).bind λu_=>bok (Y8 C as Z U1) λvs U2=>okH (Qa m x vs U2))=_
  rw[hl];exact (Z8 hs).trans (by rw[h];rfl))
theorem X4 {k:Nat}{p:Nat×List (Nat×V)}(ha:Zg C a Z U=S5 (.ok x,U1))(hp:Zd9 U1 x=S5 p)(h:p.2.lookup k=S5 v):Zg C (.attr a k) Z U=S5 (.ok v,U1) :=
 (Z8 ha).trans (by show okX ((Zd9 U1 x).bind λp=>p.2.lookup k) U1=_;rw[hp];show okX (p.2.lookup k) U1=_;rw[h];rfl)
theorem Y2 {m f:Nat}{r:X V}(ha:Zg C a Z U=S5 (.ok x,U1))(hm:Za2 C.pg U1 x m=S5 f)(hs:Y8 C as Z U1=S5 (.ok vs,U2))(h:C.call f (x::vs) U2=r):Zg C (.ucall m a as) Z U=r :=
 (Z8 ha).trans (by
  show ((Za2 C.pg U1 x m).bind λf=>bok (Y8 C as Z U1) λvs U2=>C.call f (x::vs) U2)=_
  rw[hm];exact (Z8 hs).trans h)
theorem Zys {c f:Nat}(hi:C.pg.init c=S5 f)(h:C.call f [.obj (U.length+1)] (U++[.ns []]++[.inst c U.length])=S5 (.ok .none,U1)):Zg C (.new c .nil) Z U=S5 (.ok (.obj (U.length+1)),U1):=by
 show ((C.pg.init c).bind λf=>bok (C.call f [.obj (U.length+1)] (U++[.ns []]++[.inst c U.length])) λr U2=>if r.isNone then S5 (R.ok (V.obj (U.length+1)),U2) else .none)=_
 rw[hi];exact (Z8 h).trans rfl
theorem Zj:Y8 C .nil Z U=S5 (.ok [],U):=rfl
theorem Zb (ha:Zg C a Z U=S5 (.ok x,U1))(hs:Y8 C as Z U1=S5 (.ok vs,U2)):Y8 C (.cons a as) Z U=S5 (.ok (x::vs),U2):=(Z8 ha).trans (Z8 hs)
theorem Zfr:Jo C .nil Z U=S5 (.ok T1,U):=rfl
theorem Zal {p:Bool}(ha:Zg C a Z U=S5 (.ok (.bool p),U1)):Jo C (.cons a .nil) Z U=S5 (.ok p,U1):=(Z8 ha).trans (by cases p <;> rfl)
theorem Zqa {α:Type}{p:X α}{r:α}{s:H}(h:p=S5 (.ok r,s)):noX p=S5 (.ok r,s):=Z8 h
theorem Zqb (h:Zg C e Z U=S5 (.ok v,U1)):Qd C e Z U=S5 (.ok v,U1):=by
 cases e with
 | call f as=>exact h
 | _=>exact Zqa h
theorem Zlf (h:Qd C a Z U=S5 (.ok x,U1))(hs:X1 C as Z U1=S5 (.ok vs,U2)):X1 C (.cons a as) Z U=S5 (.ok (x::vs),U2):=by
 show bnd (Qd C a Z U) _=_
 rw[h];show bnd (X1 C as Z U1) _=_;rw[hs];rfl
theorem Q4 {k:Nat}(h:Qd C a Z U=S5 (.exc k,U1)):X1 C (.cons a as) Z U=S5 (.exc k,U1):=by
 show bnd (Qd C a Z U) _=_
 rw[h];rfl
theorem Ul {k:Nat}(h:Qd C a Z U=S5 (.ok x,U1))(hs:X1 C as Z U1=S5 (.exc k,U2)):X1 C (.cons a as) Z U=S5 (.exc k,U2):=by
 show bnd (Qd C a Z U) _=_
 rw[h];show bnd (X1 C as Z U1) _=_;rw[hs];rfl
theorem Q5:∀{as:Es}{Z:L}{U U1:H}{vs:List V},Y8 C as Z U=S5 (.ok vs,U1)->X1 C as Z U=S5 (.ok vs,U1)
 | .nil,_,_,_,_,h=>h
 | .cons a as,_,_,_,_,h=>by
  refine Ye (h) λx U2 h1 h2=>?_
  refine Ye (h2) λy U3 h3 h4=>?_
  refine okE h4 ?_
  exact Zlf (Zqb h1) (Q5 h3)
theorem X5 {f:Nat}{r:X V}(hs:X1 C as Z U=S5 (.ok vs,U1))(h:C.call f vs U1=r):Jp C (.call f as) Z U=r:=by
 show bnd (X1 C as Z U) _=_
 rw[hs];exact h
theorem Q6 {f k:Nat}(hs:X1 C as Z U=S5 (.exc k,U1)):Jp C (.call f as) Z U=S5 (.exc k,U1):=by
 show bnd (X1 C as Z U) _=_
 rw[hs];rfl
theorem X6 (h:Zg C e Z U=S5 (.ok v,U1)):Jp C e Z U=S5 (.ok v,U1):=by
 cases e with
 | call f as=>
  refine Ye (h) λvs U2 h1 h2=>?_
  exact X5 (Q5 h1) h2
 | ucall m o as=>exact h
 | _=>exact Zqa h
theorem Zfs {α:Type}{p:X α}{f:α->H->Y}{r:α}{s:H}(h:p=S5 (.ok r,s)):Zdf p Z f=f r s:=by rw[h];rfl
theorem Zic {α:Type}{p:X α}{f:α->H->Y}{k:Nat}{s:H}(h:p=S5 (.exc k,s)):Zdf p Z f=S5 (.exc k,Z,s):=by rw[h];rfl
theorem Zen {f:V->H->Y}{s:H}(h:Zg C e Z U=S5 (.ok v,s)):Zdf (Jp C e Z U) Z f=f v s:=Zfs (X6 h)
theorem Xd {α:Type}{p:X α}{f:α->H->Y}{r:α}{s:H}(h:p=S5 (.ok r,s)):Zgd p f=f r s:=by rw[h];rfl
set_option tactic.hygienic true in
theorem Zbb {o:Ex}{k:Nat}{p:Nat×List (Nat×V)}(h:Jp C e Z U=S5 (.ok v,U1))(ho:Zg C o Z U1=S5 (.ok x,U2))(hp:Zd9 U2 x=S5 p):exec C (.aset o k e) Z U=S5 (.next,Z,Yk U2 p.1 (.ns (Zck p.2 k v))) :=
 (Zfs h).trans ((Xd ho).trans (by
  show (Zd9 U2 x).map (λp=>(Fl.next,Z,Yk U2 p.1 (.ns (Zck p.2 k v))))=_
  rw[hp];rfl))
theorem Zmt {o:Ex}{k c:Nat}(h:Jp C e Z U=S5 (.exc c,U1)):exec C (.aset o k e) Z U=S5 (.exc c,Z,U1):=Zic h
theorem Zft {c:Nat}(h:Jp C e Z U=S5 (.exc c,U1)):exec C (.ret e) Z U=S5 (.exc c,Z,U1):=Zic h
theorem Uw {s:St}{t:Ss}{c:Nat}(h:exec C s Z U=S5 (.exc c,Z1,U1)):execs C (.cons s t) Z U=S5 (.exc c,Z1,U1):=by
 show Zea (exec C s Z U) _=_
 rw[h];rfl
set_option tactic.hygienic true in
theorem Zz {i:Nat}(h:Zg C e Z U=S5 (.ok v,U1))(hi:Nat.blt i Z.length=T1):exec C (.asg (.one i) e) Z U=S5 (.next,Z.set i (S5 v),U1) :=
 (Zen h).trans (by show (Qn Z i v).map _=_;unfold Qn;rw[gp (show i<Z.length from By hi)];rfl)
theorem Y0 (h:Zg C e Z U=S5 (.ok v,U1)):exec C (.expr e) Z U=S5 (.next,Z,U1):=Zen h
theorem Yr (h:Zg C e Z U=S5 (.ok v,U1)):exec C (.ret e) Z U=S5 (.ret v,Z,U1):=Zen h
theorem Z7 {s t:Ss}{r:Y}(h:Zg C e Z U=S5 (.ok (.bool T1),U1))(hs:execs C s Z U1=r):exec C (.ife e s t) Z U=r:=(Xd h).trans hs
theorem Zn {s t:Ss}{r:Y}(h:Zg C e Z U=S5 (.ok (.bool F0),U1))(hs:execs C t Z U1=r):exec C (.ife e s t) Z U=r:=(Xd h).trans hs
theorem Zi:execs C .nil Z U=S5 (.next,Z,U):=rfl
set_option tactic.hygienic true in
theorem Za {s:St}{t:Ss}{r:Y}(h:exec C s Z U=S5 (.next,Z1,U1))(hs:execs C t Z1 U1=r):execs C (.cons s t) Z U=r:=by
 show Zea (exec C s Z U) _=r
 rw[h];exact hs
theorem Zp {s:St}{t:Ss}(h:exec C s Z U=S5 (.ret v,Z1,U1)):execs C (.cons s t) Z U=S5 (.ret v,Z1,U1):=by
 show Zea (exec C s Z U) _=_
 rw[h];rfl
theorem Zq {s:St}(h:exec C s Z U=S5 (.next,Z1,U1)):execs C (.cons s .nil) Z U=S5 (.next,Z1,U1):=Za h rfl
theorem Zwh {s:St}{t:Ss}(h:exec C s Z U=S5 (.brk,Z1,U1)):execs C (.cons s t) Z U=S5 (.brk,Z1,U1):=by
 show Zea (exec C s Z U) _=_
 rw[h];rfl
end
section
variable {i j:Int}{U:H}
theorem gtT (h:j<i):Yo .gt (.int i) (.int j) U=S5 T1:=congrArg S5 (decide_eq_true h)
theorem gtF (h:¬ j<i):Yo .gt (.int i) (.int j) U=S5 F0:=congrArg S5 (decide_eq_false h)
theorem clT (h:i<j):Yo .lt (.int i) (.int j) U=S5 T1:=congrArg S5 (decide_eq_true h)
theorem clF (h:¬ i<j):Yo .lt (.int i) (.int j) U=S5 F0:=congrArg S5 (decide_eq_false h)
theorem leT (h:i<=j):Yo .le (.int i) (.int j) U=S5 T1:=congrArg S5 (decide_eq_true h)
theorem leF (h:¬ i<=j):Yo .le (.int i) (.int j) U=S5 F0:=congrArg S5 (decide_eq_false h)
theorem geT (h:j<=i):Yo .ge (.int i) (.int j) U=S5 T1:=congrArg S5 (decide_eq_true h)
theorem geF (h:¬ j<=i):Yo .ge (.int i) (.int j) U=S5 F0:=congrArg S5 (decide_eq_false h)
theorem eqT (h:i=j):Yo .eq (.int i) (.int j) U=S5 T1:=congrArg S5 (decide_eq_true h)
theorem eqF (h:¬ i=j):Yo .eq (.int i) (.int j) U=S5 F0:=congrArg S5 (decide_eq_false h)
theorem neF (h:i=j):Yo .ne (.int i) (.int j) U=S5 F0:=congrArg (λb=>S5 (!b)) (decide_eq_true h)
theorem Qp {C:Cl}{a:Ex}(ha:Zg C a Z U=S5 (.ok (.bool T1),U1)):Zg C (.not a) Z U=S5 (.ok (.bool F0),U1):=Zyq ha
end
@[simp] theorem Yg (x y:Int)(U:H):Wp .add (.int x) (.int y) U=S5 (.int (x+y),U):=rfl
@[simp] theorem Y3 (x y:Int)(U:H):Wp .sub (.int x) (.int y) U=S5 (.int (x-y),U):=rfl
theorem Jy {x y:Int}(h:mulOK x y)(U:H):Wp .mul (.int x) (.int y) U=S5 (.int (x*y),U):=by simp only[Wp,Wg,Zbu,gp h,Cf,Dx]
@[simp] theorem Zt {x y:Int}(h:y≠0/\y.natAbs<2^256)(U:H):Wp .fdiv (.int x) (.int y) U=S5 (.int (x.fdiv y),U):=by simp only[Wp,Wg,Zbu,gp h,Cf,Dx]
@[simp] theorem Zs {x y:Int}(h:y≠0)(U:H):Wp .mod (.int x) (.int y) U=S5 (.int (x.fmod y),U):=by simp only[Wp,Wg,Zbu,gp h,Cf,Dx]
@[simp] theorem Uu {x y:Int}(h:0<=y/\y<=256/\x.natAbs<2^64)(U:H):Wp .pow (.int x) (.int y) U=S5 (.int (x^y.toNat),U):=by simp only[Wp,Wg,Zbu,gp h,Cf,Dx]
theorem Zs4 {m n:Nat}{x y:List V}(h1:Yj U (.obj m)=S5 x)(h2:Yj U (.obj n)=S5 y):Wp .add (.obj m) (.obj n) U=Jb U (x++y):=by simp only[Wp,gp,Zuw,h1,h2,Cf]
@[simp] theorem Wl {l:List V}(h:l.length<=Zo)(U:H):Jb U l=S5 (.obj U.length,U++[.list l]):=by simp only[Jb,gp h]
theorem Zw {n:Nat}{l:List V}(h:U[n]?=S5 (.list l)):Yj U (.obj n)=S5 l:=by simp only[Yj,h]
theorem Jt {n:Nat}{l:List V}(h:U[n]?=S5 (.list l)):items U (.obj n)=S5 l:=by simp only[items,h]
theorem Zlg (U:H)(a:V)(k:Int):Yh U a (.int k)=(items U a).bind λl=>(Zgc k l.length).bind λj=>l[j]?:=rfl
@[simp] theorem items_tup (U:H)(l:List V):items U (.tup l)=S5 l:=rfl
@[simp] theorem Zn0 (U:H)(l:List Int):items U (.frz l)=S5 (l.map .int):=rfl
@[simp] theorem truth_bool (b:Bool):Wz (.bool b)=S5 b:=rfl
@[simp] theorem truth_none:Wz .none=S5 F0:=rfl
@[simp] theorem Zwi (x y:Int)(U:H):Yo .le (.int x) (.int y) U=S5 (decide (x<=y)):=rfl
@[simp] theorem Zwj (x y:Int)(U:H):Yo .lt (.int x) (.int y) U=S5 (decide (x<y)):=rfl
@[simp] theorem cmp_gt (x y:Int)(U:H):Yo .gt (.int x) (.int y) U=S5 (decide (y<x)):=rfl
@[simp] theorem Zwk (x y:Int)(U:H):Yo .ge (.int x) (.int y) U=S5 (decide (y<=x)):=rfl
@[simp] theorem Zwl (x y:Int)(U:H):Yo .eq (.int x) (.int y) U=S5 (decide (x=y)):=rfl
@[simp] theorem cmp_ne (x y:Int)(U:H):Yo .ne (.int x) (.int y) U=S5 (!decide (x=y)):=rfl
@[simp] theorem Zs5 (x y:Bool)(U:H):Yo .ne (.bool x) (.bool y) U=S5 (!(x == y)):=rfl
theorem Xj {d n:Nat}{F:Fn}{as:List V}(hF:pg.fn n=S5 F)(hs:Wr F as=S5 Z):cf (d+1) n as U=gc F.mode U (Zab (execs (Cd d) F.body Z U)):=by
 show (pg.fn n).bind (λF=>(Wr F as).bind λZ=>gc F.mode U (Zab (execs (Cd d) F.body Z U)))=_
 rw[hF];show (Wr F as).bind _=_;rw[hs];rfl
theorem Zs6 {t:H}{v:V}(h:below U.length v=T1):gc .pure U (S5 (.ok v,U++t))=S5 (.ok v,U):=gp ⟨L1,h⟩
theorem Zfu {v:V}(h:below U.length v=T1):gc .pure U (S5 (.ok v,U))=S5 (.ok v,U):=gp ⟨Ge,h⟩
@[simp] theorem below_int (n:Nat)(i:Int):below n (.int i)=T1:=rfl
@[simp] theorem below_bool (n:Nat)(i:Bool):below n (.bool i)=T1:=rfl
@[simp] theorem T3.below_v (n:Nat)(x:T3):below n x.v=T1:=rfl
@[simp] theorem len1:1<=Zo:=by decide
@[simp] theorem len2:2<=Zo:=by decide
@[simp] theorem Z0n:3<=Zo:=by decide
@[simp] theorem len4:4<=Zo:=by decide
@[simp] theorem Zgz (x:Int):Wg (.int x)=S5 x:=rfl
@[simp] theorem asTup_tup (x:List V):Zey (.tup x)=S5 x:=rfl
@[simp] theorem asBound_int (x:Int):Zbj (.int x)=S5 (S5 x):=rfl
@[simp] theorem asBound_none:Zbj .none=S5 .none:=rfl
@[simp] theorem listOf_frz (U:H)(l:List Int):Yj U (.frz l)=S5 (l.map .int):=rfl
@[simp] theorem Zc3 (x:V):Zd8 [x]=S5 x:=rfl
@[simp] theorem arg2_two (x y:V):Zkx [x,y]=S5 (x,y):=rfl
@[simp] theorem tyNo_ty (t:Nat):Zxm (.ty t)=S5 t:=rfl
@[simp] theorem loN_some (i:Int)(n:Nat):loN (S5 i) n=Yt i n:=rfl
@[simp] theorem hiN_some (i:Int)(n:Nat):hiN (S5 i) n=Yt i n:=rfl
@[simp] theorem loN_none (n:Nat):loN .none n=0:=rfl
@[simp] theorem hiN_none (n:Nat):hiN .none n=n:=rfl
theorem Zam {n:Nat}{l:List V}(h:U[n]?=S5 (.list l)):Yj U (.obj n)=S5 l:=by
 show (match U[n]? with | some (.list l)=>S5 l | _=>Dk)=_
 rw[h]
theorem Zwm {m:Nat}{l:List V}(h1:U'.take U.length=U)(h2:¬ m<U.length)(h3:U'[m]?=S5 (.list l))(h4:belows U.length l=T1):gc .fresh U (S5 (.ok (.obj m),U'))=S5 (.ok (.obj U.length),U++[.list l]):=by
 refine (gp h1).trans ((gq h2).trans ?_)
 rw[Zam h3];exact gp h4
theorem Yu {d n k:Nat}{ps:List Nat}{B:Ss}{as:List V}{v:V}(hF:pg.fn n=S5 ⟨ps,k,B,.pure⟩)(hs:Wr ⟨ps,k,B,.pure⟩ as=S5 Z)(h:execs (Cd d) B Z U=S5 (.ret v,Z',U))(hb:below U.length v=T1):cf (d+1) n as U=S5 (.ok v,U):=by
 rw[Xj hF hs];show gc .pure U (Zab (execs (Cd d) B Z U))=_;rw[h];exact Zfu hb
theorem Zbz {d n k:Nat}{ps:List Nat}{B:Ss}{as:List V}{t:H}{v:V}(hF:pg.fn n=S5 ⟨ps,k,B,.pure⟩)(hs:Wr ⟨ps,k,B,.pure⟩ as=S5 Z)(h:execs (Cd d) B Z U=S5 (.ret v,Z',U++t))(hb:below U.length v=T1):cf (d+1) n as U=S5 (.ok v,U):=by
 rw[Xj hF hs];show gc .pure U (Zab (execs (Cd d) B Z U))=_;rw[h];exact Zs6 hb
theorem Zwn {d n k:Nat}{ps:List Nat}{B:Ss}{as:List V}{t:H}{v:V}(hF:pg.fn n=S5 ⟨ps,k,B,.pure⟩)(hs:Wr ⟨ps,k,B,.pure⟩ as=S5 Z)(h:execs (Cd d) B Z []=S5 (.ret v,Z',t))(hb:below 0 v=T1):cf (d+1) n as []=S5 (.ok v,[]):=Zbz (U:=[]) (t:=t) hF hs h hb
set_option tactic.hygienic true in
theorem Zqc {d n k:Nat}{ps:List Nat}{B:Ss}{as:List V}(hF:pg.fn n=S5 ⟨ps,k,B,.pure⟩)(hs:Wr ⟨ps,k,B,.pure⟩ as=S5 Z)(h:execs (Cd d) B Z U=S5 (.next,Z',U)):cf (d+1) n as U=S5 (.ok .none,U):=by
 rw[Xj hF hs];show gc .pure U (Zab (execs (Cd d) B Z U))=_;rw[h];exact Zfu rfl
theorem We {d n k m:Nat}{ps:List Nat}{B:Ss}{as:List V}{t:H}{l:List V}(hF:pg.fn n=S5 ⟨ps,k,B,.fresh⟩)(hs:Wr ⟨ps,k,B,.fresh⟩ as=S5 Z)(h:execs (Cd d) B Z U=S5 (.ret (.obj m),Z',U++t))(hm:U.length<=m)(hb:belows U.length l=T1)(ht:(U++t)[m]?=S5 (.list l)):cf (d+1) n as U=S5 (.ok (.obj U.length),U++[.list l]):=by
 obtain this:¬ m<U.length:=Nb 0x19701610c11 Tt hm
 rw[Xj hF hs];show gc .fresh U (Zab (execs (Cd d) B Z U))=_;rw[h]
 exact Zwm L1 this ht hb
theorem Zwo {a:Int}(h:a.natAbs<2^256):Big a:=C2 h (L2 (by decide) (by unfold Zxi;decide))
theorem Zqd {a c:Int}(ha:Big a)(hc:c.natAbs<2^256):mulOK a c:=.inr (.inr ⟨ha,Zwo hc⟩)
theorem Zj8 (a:Int)(k:Nat):(a.fdiv (k:Int)).natAbs<=a.natAbs:=by
 rcases Ir k with rfl | hk
 .simp
 .obtain h1:a.fdiv (k:Int)=a / (k:Int):=Iu _ (by exact ln1 [] (.zle .k0 (.n .v0)) (.d 11) rfl)
  rw[h1]
  exact Int.natAbs_ediv_le_natAbs a k
theorem Zqe {a:Int}(h:Big a)(k:Nat):Big (a.fdiv (k:Int)):=Bx (Zj8 a k) h
noncomputable def W0 (s:Int):Int:=if s.fmod 4=3 then (s.fdiv 4*48271^12).fmod (2*10^60-1)-(10^60-1) else (s.fdiv 4).fmod 61-30
noncomputable def Q7 (s:Int):Int:=if (s.fdiv 3904).fmod 8=1 then (s.fdiv 4*69621^12).fmod (10^60) else (s.fdiv 244).fmod 16
noncomputable def Zc4 (s:Int):Int:=if (s.fdiv 218624).fmod 8=1 then (s.fdiv 4*16807^14).fmod (2*10^60-1)-(10^60-1) else (s.fdiv 31232).fmod 7-3
def Zg0 (s:Int):T3:=⟨W0 s,if 10^60-1<W0 s+Q7 s then 10^60-1 else W0 s+Q7 s,Zc4 s⟩
theorem Zmu (d:Nat)(s:Int)(U:H)(hs:Big s):cf (d+1) 17 [.int s] U=S5 (.ok (Zg0 s).v,U):=by
 rw[Xj Zzs rfl]
 obtain hm:∀c:Int,c.natAbs<2^256->mulOK (s.fdiv 4) c:=λc hc=>Zqd (Zqe hs 4) hc
 obtain k1:∀ss,execs (Cd d) (.cons Zt0 (.cons Zt1 ss)) (S5 (.int s)::o11) U=execs (Cd d) ss (S5 (.int s)::S5 (.int (W0 s))::o10) U:=by
  intro ss
  by_cases c:s.fmod 4=3
  .rw[show W0 s=_ from gp c]
   refine Za (Zz (U1:=U) (v:=.int ((s.fdiv 4).fmod 61-30)) ?_ rfl) (Za (Z7 (Zk (Zh rfl Zd (Zs (by decide) _)) Zd ?_) (Zq (Zz ?_ rfl))) rfl)
   .exact Zh (Zh (Zh rfl Zd (Zt (by decide) _)) Zd (Zs (by decide) _)) Zd (Y3 _ _ _)
   .exact congrArg S5 (decide_eq_true c)
   .exact Zh (Zh (Zh (Zh rfl Zd (Zt (by decide) _)) (Zh Zd Zd (Uu (by decide) _)) (Jy (hm _ (by decide)) _)) (Zh (Zh Zd (Zh Zd Zd (Uu (by decide) _)) (Jy (.inl (by decide)) _)) Zd (Y3 _ _ _)) (Zs (by decide) _)) (Zh (Zh Zd Zd (Uu (by decide) _)) Zd (Y3 _ _ _)) (Y3 _ _ _)
  .rw[show W0 s=_ from gq c]
   refine Za (Zz (U1:=U) (v:=.int ((s.fdiv 4).fmod 61-30)) ?_ rfl) (Za (Zn (Zk (Zh rfl Zd (Zs (by decide) _)) Zd ?_) Zi) rfl)
   .exact Zh (Zh (Zh rfl Zd (Zt (by decide) _)) Zd (Zs (by decide) _)) Zd (Y3 _ _ _)
   .exact congrArg S5 (decide_eq_false c)
 obtain k2:∀ss,execs (Cd d) (.cons Zt2 (.cons Zt3 ss)) (S5 (.int s)::S5 (.int (W0 s))::o10) U=execs (Cd d) ss (S5 (.int s)::S5 (.int (W0 s))::S5 (.int (Q7 s))::o9) U:=by
  intro ss
  by_cases c:(s.fdiv 3904).fmod 8=1
  .rw[show Q7 s=_ from gp c]
   refine Za (Zz (U1:=U) (v:=.int ((s.fdiv 244).fmod 16)) ?_ rfl) (Za (Z7 (Zk (Zh (Zh rfl Zd (Zt (by decide) _)) Zd (Zs (by decide) _)) Zd ?_) (Zq (Zz ?_ rfl))) rfl)
   .exact Zh (Zh rfl Zd (Zt (by decide) _)) Zd (Zs (by decide) _)
   .exact congrArg S5 (decide_eq_true c)
   .exact Zh (Zh (Zh rfl Zd (Zt (by decide) _)) (Zh Zd Zd (Uu (by decide) _)) (Jy (hm _ (by decide)) _)) (Zh Zd Zd (Uu (by decide) _)) (Zs (by decide) _)
  .rw[show Q7 s=_ from gq c]
   refine Za (Zz (U1:=U) (v:=.int ((s.fdiv 244).fmod 16)) ?_ rfl) (Za (Zn (Zk (Zh (Zh rfl Zd (Zt (by decide) _)) Zd (Zs (by decide) _)) Zd ?_) Zi) rfl)
   .exact Zh (Zh rfl Zd (Zt (by decide) _)) Zd (Zs (by decide) _)
   .exact congrArg S5 (decide_eq_false c)
 obtain k3:∀ss,execs (Cd d) (.cons Zt4 (.cons Zt5 ss)) (S5 (.int s)::S5 (.int (W0 s))::S5 (.int (Q7 s))::o9) U=execs (Cd d) ss (S5 (.int s)::S5 (.int (W0 s))::S5 (.int (Q7 s))::S5 (.int (Zc4 s))::o8) U:=by
  intro ss
  by_cases c:(s.fdiv 218624).fmod 8=1
  .rw[show Zc4 s=_ from gp c]
   refine Za (Zz (U1:=U) (v:=.int ((s.fdiv 31232).fmod 7-3)) ?_ rfl) (Za (Z7 (Zk (Zh (Zh rfl Zd (Zt (by decide) _)) Zd (Zs (by decide) _)) Zd ?_) (Zq (Zz ?_ rfl))) rfl)
   .exact Zh (Zh (Zh rfl Zd (Zt (by decide) _)) Zd (Zs (by decide) _)) Zd (Y3 _ _ _)
   .exact congrArg S5 (decide_eq_true c)
   .exact Zh (Zh (Zh (Zh rfl Zd (Zt (by decide) _)) (Zh Zd Zd (Uu (by decide) _)) (Jy (hm _ (by decide)) _)) (Zh (Zh Zd (Zh Zd Zd (Uu (by decide) _)) (Jy (.inl (by decide)) _)) Zd (Y3 _ _ _)) (Zs (by decide) _)) (Zh (Zh Zd Zd (Uu (by decide) _)) Zd (Y3 _ _ _)) (Y3 _ _ _)
  .rw[show Zc4 s=_ from gq c]
   refine Za (Zz (U1:=U) (v:=.int ((s.fdiv 31232).fmod 7-3)) ?_ rfl) (Za (Zn (Zk (Zh (Zh rfl Zd (Zt (by decide) _)) Zd (Zs (by decide) _)) Zd ?_) Zi) rfl)
   .exact Zh (Zh (Zh rfl Zd (Zt (by decide) _)) Zd (Zs (by decide) _)) Zd (Y3 _ _ _)
   .exact congrArg S5 (decide_eq_false c)
 obtain k4:exec (Cd d) Zt6 (S5 (.int s)::S5 (.int (W0 s))::S5 (.int (Q7 s))::S5 (.int (Zc4 s))::o8) U=S5 (.ret (Zg0 s).v,(S5 (.int s)::S5 (.int (W0 s))::S5 (.int (Q7 s))::S5 (.int (Zc4 s))::o8),U) :=
  Yr (Xi (Zb rfl (Zb (Z9 (Zb rfl (Zb (Zh (Zh Zd Zd (Uu (by decide) _)) Zd (Y3 _ _ _)) Zj)) rfl) rfl)) rfl)
 show gc .pure U (Zab (execs (Cd d) B17 (S5 (.int s)::o11) U))=_
 rw[B17,k1,k2,k3,Zp k4]
 exact Zfu rfl
theorem Yv (a:Int){m:Int}(h:0<m):0<=a.fmod m/\a.fmod m<m:=by
 rw[Int.fmod_eq_emod_of_nonneg _ (by exact Ia 0x16b07b0c11 Tt h)]
 exact ⟨Int.emod_nonneg _ (Ia 0x1980b7b0c101 Tt h),Int.emod_lt_of_pos _ h⟩
theorem Zj9 (s:Int) : -(10^60-1)<=W0 s/\W0 s<=10^60-1:=by
 unfold W0
 split
 .have:=Yv (s.fdiv 4*48271^12) (m:=2*10^60-1) (by decide)
  exact Ib 0x1f69dc0ac1c0a6c1c0ac0af6b171c28d0acba11a101 Tt this
 .have:=Yv (s.fdiv 4) (m:=61) (by decide)
  omega
theorem Zid (s:Int):0<=Q7 s:=by
 unfold Q7
 split
 .exact (Yv _ (by decide)).1
 .exact (Yv _ (by decide)).1
theorem Zn1 (s:Int):(Zg0 s).a<=(Zg0 s).b:=by
 have h1:=Zj9 s
 have h2:=Zid s
 simp only[Zg0]
 split <;> omega
theorem Zm {t:H}{n:Nat}{o:O}(h:U[n]?=S5 o):(U++t)[n]?=S5 o:=by
 rw[Br];exact h
 exact (Ba.mp h).1
@[simp] theorem listOf_last (U:H)(l:List V):Yj (U++[.list l]) (.obj U.length)=S5 l:=Zw (by simp)
@[simp] theorem Zfv (U:H)(l:List V):items (U++[.list l]) (.obj U.length)=S5 l:=Jt (by simp)
@[simp] theorem setObj_last (U:H)(o o':O):Yk (U++[o]) U.length o'=U++[o']:=by simp[Yk]
theorem Zfw {l:List V}(h:l.length<Zo)(U:H)(x:V):Qa .append (.obj U.length) [x] (U++[.list l])=S5 (.none,U++[.list (l++[x])]):=by
 simp[Qa,Qv,Zoq,h]
theorem Zqf {body:L->H->X (Option V)}{tg:Nat}{keep:H->Prop}{v:V}{r acc:List V}{Z1:L}{y:Option V}(hs:Qn Z tg v=S5 Z1)(hb:body Z1 U=S5 (.ok y,U1))(hk:keep U1)(hl:acc.length<Zo):Zbw body tg keep (v::r) acc Z U=Zbw body tg keep r (acc++y.toList) Z1 U1:=by
 show (Qn Z tg v).bind _=_
 rw[hs];exact (Z8 hb).trans (gp ⟨hk,hl⟩)
theorem Zfx {t:Nat}{v:V}(h:t<Z.length):Xn (.one t) v Z=S5 (Z.set t (S5 v)):=gp h
set_option tactic.hygienic true in
theorem Xx {body:L->H->Y}{t:Tg}{keep:H->Prop}{v:V}{r:List V}{Z1 Z2:L}{U2:H}(hs:Xn t v Z=S5 Z1)(hb:body Z1 U=S5 (.next,Z2,U2))(hk:keep U2):Qw body t keep (v::r) Z U=Qw body t keep r Z2 U2:=by
 show (Xn t v Z).bind _=_
 rw[hs];show Zcl (body Z1 U) _=_;rw[hb];exact gp hk
set_option tactic.hygienic true in
theorem Zqg {body:L->H->Y}{t:Tg}{keep:H->Prop}{v:V}{r:List V}{Z1 Z2:L}{U2:H}(hs:Xn t v Z=S5 Z1)(hb:body Z1 U=S5 (.brk,Z2,U2)):Qw body t keep (v::r) Z U=S5 (.next,Z2,U2):=by
 show (Xn t v Z).bind _=_
 rw[hs];show Zcl (body Z1 U) _=_;rw[hb];rfl
theorem Zqh {body:L->H->Y}{t:Tg}{keep:H->Prop}{v w:V}{r:List V}{Z1 Z2:L}{U2:H}(hs:Xn t v Z=S5 Z1)(hb:body Z1 U=S5 (.ret w,Z2,U2)):Qw body t keep (v::r) Z U=S5 (.ret w,Z2,U2):=by
 show (Xn t v Z).bind _=_
 rw[hs];show Zcl (body Z1 U) _=_;rw[hb];rfl
set_option tactic.hygienic true in
theorem Zc5 {test:L->H->X V}{body:L->H->Y}{n:Nat}{Z2:L}{U2:H}(ht:test Z U=S5 (.ok (.bool T1),U1))(hb:body Z U1=S5 (.next,Z2,U2)):Xl test body (n+1) Z U=Xl test body n Z2 U2:=by
 refine (Xd ht).trans ?_
 show Zcl (body Z U1) _=_;rw[hb];rfl
theorem Zn2 {test:L->H->X V}{body:L->H->Y}{n:Nat}{v:V}{Z2:L}{U2:H}(ht:test Z U=S5 (.ok (.bool T1),U1))(hb:body Z U1=S5 (.ret v,Z2,U2)):Xl test body (n+1) Z U=S5 (.ret v,Z2,U2):=by
 refine (Xd ht).trans ?_
 show Zcl (body Z U1) _=_;rw[hb];rfl
theorem Zdo {test:L->H->X V}{body:L->H->Y}{n:Nat}(ht:test Z U=S5 (.ok (.bool F0),U1)):Xl test body (n+1) Z U=S5 (.next,Z,U1):=Xd ht
theorem Zdp {α:Type}{body:L->H->X (Option V)}{tg:Nat}{keep:H->Prop}(g:α->V)(f:α->Option V)(ht:tg<Z.length)(hk:keep U) :
  ∀(xs:List α) (acc:List V) (Z':L),Z'.length=Z.length->(∀v,Z'.set tg v=Z.set tg v)->acc.length+xs.length<=Zo->(∀x∈xs,body (Z.set tg (S5 (g x))) U=S5 (.ok (f x),U))->
   Zbw body tg keep (xs.map g) acc Z' U=S5 (.ok (acc++xs.filterMap f),U)
 | [],acc,Z',_,_,_,_=>by rw[List.filterMap_nil,Cn];rfl
 | x::r,acc,Z',h1,h2,h3,h4=>by
  have hs:Qn Z' tg (g x)=S5 (Z.set tg (S5 (g x))):=(gp (h1▸ht)).trans (by rw[h2])
  simp only[C5] at h3
  rw[Bz,Zqf hs (h4 x Bf) hk ( by exact Nc 0x170165052a1c11 Tt h3)]
  cases hf:f x with
  | none=>rw[K7 hf,show acc++(N0:Option V).toList=acc from Cn _];exact Zdp g f ht hk r acc _ (by simp) (by simp) (by exact Nc 0x16501265051a2c11 Tt h3) λy hy=>h4 y (Bb _ hy)
  | some v=>
   rw[K8 hf]
   have:=Zdp g f ht hk r (acc++[v]) (Z.set tg (S5 (g x))) (by simp) (by simp) (by simp;exact Nc 0x16550a1265051a2c11 Tt h3) λy hy=>h4 y (Bb _ hy)
   rw[Bn] at this
   exact this
theorem Ju {α:Type}{C:Cl}{elt:Ex}{tg:Nat}{it:It}{ifs:Es}{keep:H->Prop}{xs:List α}(g:α->V)(f:α->Option V)(hi:Wq C it Z U=S5 (.ok ⟨xs.map g,keep⟩,U1))(hk:keep U1)(ht:tg<Z.length)(hl:xs.length<=Zo)
  (hb:∀x∈xs,bok (Jo C ifs (Z.set tg (S5 (g x))) U1) (λb U2=>if b then bok (Zg C elt (Z.set tg (S5 (g x))) U2) λv U3=>S5 (.ok (S5 v),U3) else S5 (.ok .none,U2))=S5 (.ok (f x),U1)) :
  Zg C (.comp elt tg it ifs) Z U=S5 (.ok (.obj U1.length),U1++[.list (xs.filterMap f)]):=by
 refine (Z8 hi).trans ?_
 rw[Zdp g f ht hk xs [] Z rfl (λu_=>rfl) (by simpa using hl) hb]
 simp
set_option tactic.hygienic true in
theorem Zan {α:Type}{body:L->H->Y}{t:Nat}{keep:H->Prop}(g:α->V)(I:List α->L->H->Prop)(Jq:L->H->Prop)(h0:∀Z U,I [] Z U->Jq Z U)
  (hs:∀x r Z U,I (x::r) Z U->t<Z.length/\((∃Z2 U2,body (Z.set t (S5 (g x))) U=S5 (.next,Z2,U2)/\keep U2/\I r Z2 U2)\/∃Z2 U2,body (Z.set t (S5 (g x))) U=S5 (.brk,Z2,U2)/\Jq Z2 U2)) :
  ∀(xs:List α) (Z:L) (U:H),I xs Z U->∃Z' U',Qw body (.one t) keep (xs.map g) Z U=S5 (.next,Z',U')/\Jq Z' U'
 | [],Z,U,h=>⟨Z,U,rfl,h0 Z U h⟩
 | x::r,Z,U,h=>by
  obtain ⟨ht,h1 | h1⟩:=hs x r Z U h
  .revert h1;refine Yn λZ2 U2 e k i=>?_
   refine Ug (λZ' U' e' j=>?_) (Zan g I Jq h0 hs r Z2 U2 i)
   exact ⟨Z',U',(Xx (Zfx ht) e k).trans e',j⟩
  .revert h1;refine Ug λZ2 U2 e j=>?_
   exact ⟨Z2,U2,Zqg (Zfx ht) e,j⟩
theorem W6 {C:Cl}{t:Nat}{it:It}{b:Ss}{src:Src}(h:Wq C it Z U=S5 (.ok src,U1)):exec C (.for_ (.one t) it b) Z U=Qw (execs C b) (.one t) src.keep src.vs Z U1:=Xd h
theorem Ux {C:Cl}{e:Ex}{n:Nat}{l:List V}(he:Zg C e Z U=S5 (.ok (.obj n),U1))(hn:U1[n]?=S5 (.list l)):Wq C (.ex e) Z U=S5 (.ok ⟨l,λU'=>U'[n]?=S5 (.list l)⟩,U1):=by
 refine (Z8 he).trans ?_
 show (match U1[n]? with | some (O.list l)=>S5 (R.ok (Src.mk l λU'=>U'[n]?=S5 (O.list l)),U1) | _=>Dk)=_
 rw[hn]
theorem Zcb {C:Cl}{e:Ex}{n:Nat}(he:Zg C e Z U=S5 (.ok (.int n),U1))(hn:n<=Zo):Wq C (.rng1 e) Z U=S5 (.ok ⟨(C6 n).map (λk=>V.int (k:Nat)),λu_=>True⟩,U1):=by
 refine (Z8 he).trans ?_
 refine (gp (by exact ln2 [(.le .v1 .v0)] (.an (.zle (.g (.n .v0)) (.n .v1)) (.zle (.n .v1) (.n .v0))) (.s (.d 11) (.d 111)) rfl hn)).trans ?_
 simp[Zor]
theorem Zfy (f:Nat)(U:H):∀is:List Int,(is.map V.int).mapM (toD (f+1) U)=S5 (is.map aw.int)
 | []=>rfl
 | i::r=>by simp only[Bz,Dn,Zfy f U r];rfl
theorem Zc6 (f:Nat)(U:H)(is:List Int):toD (f+2) U (.tup (is.map V.int))=S5 (.tuple (is.map aw.int)):=by
 show ((is.map V.int).mapM (toD (f+1) U)).map aw.tuple=_
 rw[Zfy];rfl
theorem Zao:∀is js:List Int,aw.eqvAll (is.map .int) (js.map .int)=decide (is=js)
 | [],[]=>rfl
 | [],_::_=>rfl
 | _::_,[]=>rfl
 | i::r,j::s=>by
  show ((i == j)&&aw.eqvAll (r.map .int) (s.map .int))=_
  rw[Zao r s]
  by_cases c:i=j <;> by_cases c':r=s <;> simp[c,c']
theorem Zmv (U:H)(is js:List Int):eqV U (.tup (is.map .int)) (.tup (js.map .int))=S5 (decide (is=js)):=by
 unfold eqV
 rw[Zc6,Zc6]
 show S5 (aw.eqvAll (is.map .int) (js.map .int))=_
 rw[Zao]
theorem Zka (d:Nat)(i:Int)(U:H):cf (d+1) 25 [.int i] U=S5 (.ok (.bool T1),U):=by
 exact Yu Zzt rfl (Zp (Yr (Xm (Z9 rfl rfl) rfl))) rfl
theorem Zqi {α:Type}{C:Cl}{elt:Ex}{ifs:Es}{v:V}(h:Jo C ifs Z U=S5 (.ok T1,U))(he:Zg C elt Z U=S5 (.ok v,U)) :
  bok (Jo C ifs Z U) (λb U2=>if b then bok (Zg C elt Z U2) λv U3=>S5 (.ok (S5 v),U3) else S5 (.ok .none,U2))=S5 (.ok (S5 v),U):=(Z8 h).trans (Z8 he)
theorem Z0o {C:Cl}{elt:Ex}{ifs:Es}(h:Jo C ifs Z U=S5 (.ok F0,U)) :
  bok (Jo C ifs Z U) (λb U2=>if b then bok (Zg C elt Z U2) λv U3=>S5 (.ok (S5 v),U3) else S5 (.ok .none,U2))=S5 (.ok N0,U):=Z8 h
theorem Zlh {C:Cl}{elt:Ex}{ifs:Es}{v:V}{p:Bool}(h:Jo C ifs Z U=S5 (.ok p,U))(he:Zg C elt Z U=S5 (.ok v,U)) :
  bok (Jo C ifs Z U) (λb U2=>if b then bok (Zg C elt Z U2) λv U3=>S5 (.ok (S5 v),U3) else S5 (.ok .none,U2))=S5 (.ok (if p then S5 v else N0),U):=by
 cases p with
 | true=>exact (Z8 h).trans (Z8 he)
 | false=>exact Z8 h
theorem Zkb (d:Nat)(is:List Int)(hl:is.length<=Zo)(U:H):cf (d+2) 26 [.tup (is.map .int),.tup (is.map .int)] U=S5 (.ok (.bool T1),U):=by
 obtain hne:Yo .ne (.tup (is.map .int)) (.tup (is.map .int)) U=S5 F0:=by show (eqV U _ _).map _=_;rw[Zmv];simp
 obtain ec:Zg (Cd (d+1)) (.comp .v3 3 (.ex .v0) (.cons (.call 25 (.cons .v3 .nil)) .nil)) (S5 (.tup (is.map .int))::S5 (.tup (is.map .int))::o8) U=S5 (.ok (.obj U.length),U++[.list (is.filterMap λi=>S5 (V.int i))]) :=
  Ju (keep:=λu_=>True) (V.int) (λi=>S5 (V.int i)) rfl trivial (by simp) hl λi u_=>Zqi (α:=Unit) (Zal (Zl rfl (Zka d i U))) rfl
 obtain hlen:(is.filterMap λi=>S5 (V.int i)).length=is.length:=by simp
 obtain hln:Uh .len [.obj U.length] (U++[.list (is.filterMap λi=>S5 (V.int i))])=S5 (.int is.length,U++[.list (is.filterMap λi=>S5 (V.int i))]):=by
  show (items _ _).map _=_;rw[Zfv,← hlen];rfl
 obtain hln2:Uh .len [.tup (is.map .int)] (U++[.list (is.filterMap λi=>S5 (V.int i))])=S5 (.int is.length,U++[.list (is.filterMap λi=>S5 (V.int i))]):=by
  show S5 (V.int ((is.map V.int).length:Nat),_)=_;rw[Bg]
 exact Zbz Zzu rfl (Za (Zn (Xh (Qp (Z9 rfl rfl)) (Zk rfl rfl hne)) Zi) (Zp (Yr (Zk (Z9 (Zb ec Zj) hln) (Z9 rfl hln2) (eqT rfl))))) rfl
noncomputable def Qh (ll:List (List Int)):List V:=ll.map λis=>V.tup (is.map .int)
theorem Yx {n:Nat}{l:List V}(h:U[n]?=S5 (.list l)){k:Nat}(hk:k<l.length):Yh U (.obj n) (.int k)=S5 l[k]:=by
 simp only[Yh,Zgz,Cf,Jt h,Zgc]
 rw[gp (by exact ln1 [] (.zle .k0 (.n .v0)) (.d 11) rfl),gp (by exact ln2 [(.lt .v0 .v1)] (.zlt (.n .v0) (.n .v1)) (.d 111) rfl hk)]
 simp[hk]
theorem Zg1 (d:Nat)(ll:List (List Int))(hl:∀is∈ll,is.length<=Zo)(hL:ll.length<=Zo)(U:H)(m n:Nat)
  (hm:U[m]?=S5 (.list (Qh ll))) (hn:U[n]?=S5 (.list (Qh ll))):cf (d+3) 27 [.obj m,.obj n] U=S5 (.ok (.bool T1),U):=by
 have hlen:(Qh ll).length=ll.length:=by simp[Qh]
 obtain l1:Uh .len [.obj m] U=S5 (.int ll.length,U):=by show (items U (.obj m)).map _=_;rw[Jt hm,← hlen];rfl
 obtain l2:Uh .len [.obj n] U=S5 (.int ll.length,U):=by show (items U (.obj n)).map _=_;rw[Jt hn,← hlen];rfl
 obtain ki:Uh .isinstance [.obj m,.ty 3] U=S5 (.bool T1,U):=by
  show ((U[m]?).bind λo=>Zop o 3).map _=_
  rw[hm];rfl
 obtain ec:=Ju (C:=(Cd (d+2))) (elt:=Ex.var 3) (tg:=3) (it:=It.rng1 (.blt .len (.cons .v1 .nil))) (ifs:=Es.cons (.not (.call 26 (.cons (.idx .v0 .v3) (.cons (.idx .v1 .v3) .nil)))) .nil) (Z:=(S5 (.obj m)::S5 (.obj n)::o8)) (U:=U) (U1:=U)
  (keep:=λu_=>True) (λk:Nat=>V.int k) (λ_:Nat=>N0) (Zcb (n:=ll.length) (Z9 rfl l2) hL) trivial (by simp) (by simpa using hL) λk hk=>by
   have hk:k<ll.length:=by simpa using hk
   obtain e:(Qh ll)[k]'(Nc 0x1701812702c1011 Tt hlen hk)=V.tup (ll[k].map .int):=by simp[Qh]
   obtain g1:=Yx hm (k:=k) (Nc 0x1701812702c1011 Tt hlen hk)
   obtain g2:=Yx hn (k:=k) (Nc 0x1701812702c1011 Tt hlen hk)
   rw[e] at g1 g2
   exact Z0o (Zal (Qp (Zl (Zb (Zv rfl rfl g1) (Zb (Zv rfl rfl g2) Zj)) (Zkb d ll[k] (hl _ (D4 hk)) U))))
 obtain e:((C6 ll.length).filterMap λu_=>(N0:Option V))=[]:=by simp
 rw[e] at ec
 obtain l3:Uh .len [.obj U.length] (U++[.list []])=S5 (.int 0,U++[.list []]):=by show (items _ _).map _=_;rw[Zfv];rfl
 exact Zbz Zzv rfl (Za (Zn (Xh (Qp (Z9 rfl ki)) (Zk (Z9 rfl l1) (Z9 rfl l2) (neF rfl))) Zi) (Zp (Yr (Zk (Z9 (Zb ec Zj) l3) Zd (eqT rfl))))) rfl
@[simp] theorem Yw (U:H)(x:T3):Yh U x.v (.int 0)=S5 (.int x.a):=rfl
@[simp] theorem Jh (U:H)(x:T3):Yh U x.v (.int 1)=S5 (.int x.b):=rfl
@[simp] theorem Zn3 (U:H)(x:T3):Yh U x.v (.int 2)=S5 (.int x.c):=rfl
@[simp] theorem Zg2 (U:H)(x y:V):Yh U (.tup [x,y]) (.int 0)=S5 x:=rfl
theorem T3.v_tups (ts:List T3):ts.map T3.v=Qh (ts.map λt=>[t.a,t.b,t.c]):=by simp[Qh,T3.v]
theorem Jv (n:Nat):∀ts:List T3,belows n (ts.map T3.v)=T1
 | []=>rfl
 | t::r=>Zat (T3.below_v n t) (Jv n r)
theorem Zg3 (n:Nat):∀is:List Int,belows n (is.map V.int)=T1
 | []=>rfl
 | t::r=>Zat rfl (Zg3 n r)
theorem Qi (n:Nat):∀ll:List (List Int),belows n (Qh ll)=T1
 | []=>rfl
 | t::r=>Zat (Zg3 n t) (Qi n r)
theorem Zmw:∀ts:List T3,t3s (ts.map T3.v)=S5 ts
 | []=>rfl
 | t::r=>by
  show (Zrn t.v).bind (λt=>(t3s (r.map T3.v)).map (t::·))=_
  rw[Zmw r];rfl
theorem Zqj (ts:List T3):Zbv (ts.map T3.v)=S5 ((ts.mergeSort T3.le).map T3.v):=by
 unfold Zbv
 cases ts with
 | nil=>show S5 ((([]:List Int).mergeSort _).map V.int)=S5 ((([]:List T3).mergeSort T3.le).map T3.v);rw[La,La];rfl
 | cons t r=>rw[show Wc ((t::r).map T3.v)=.none from rfl,Zmw];rfl
theorem Zfz (d:Nat)(i:Int)(h1 : -10^60<i)(h2:i<10^60)(U:H):cf (d+1) 1 [.int i] U=S5 (.ok .none,U):=by
 obtain hc:(decide (-10^60<i)&&decide (i<10^60))=T1:=by rw[decide_eq_true h1,decide_eq_true h2];rfl
 obtain hc':Zg (Cd d) (.cmp (.neg (.bin .pow (.i 10) (.i 60))) (.more .lt .v0 (.one .lt (.bin .pow (.i 10) (.i 60))))) (S5 (.int i)::o8) U=S5 (.ok (.bool T1),U):=by
  rw[← hc]
  exact Zfq (Zp9 (Zh Zd Zd (Uu (by decide) _))) rfl (Zh Zd Zd (Uu (by decide) _)) rfl rfl
 exact Zqc fn1 rfl (Zq (Zn (Xh (Qp (Z9 rfl rfl)) (Xh (Z9 rfl rfl) (Qp hc'))) Zi))
theorem Zc7 (d:Nat)(lo hi:Int)(hl : -10^60<lo)(hle:lo<=hi)(hh:hi<10^60)(U:H):cf (d+2) 2 [.int lo,.int hi] U=S5 (.ok .none,U):=by
 exact Zqc fn2 rfl (Za (Y0 (Zl rfl (Zfz d lo hl (Ic 0x1701602721c111 Tt hle hh) U))) (Za (Y0 (Zl rfl (Zfz d hi (Ic 0x179d0179d02621c111 Tt hl hle) hh U))) (Zq (Zn (Zk rfl rfl (gtF (Ib 0x19701610c11 Tt hle))) Zi))))
theorem Zap:∀l:List Int,Wc (l.map V.int)=S5 l
 | []=>rfl
 | x::r=>by show (Wc (r.map V.int)).map (_::·)=_;rw[Zap r];rfl
theorem Jz {α:Type}(p:α->Bool)(g:α->V):∀l:List α,l.filterMap (λx=>if p x then S5 (g x) else N0)=(l.filter p).map g
 | []=>rfl
 | x::r=>by
  by_cases c:p x=T1
  .rw[K8 (b:=g x) (by rw[gp c]),Ke c,Bz,Jz p g r]
  .rw[K7 (by rw[gq c]),Kf c,Jz p g r]
inductive Tr where
 | nil
 | node (x:T3) (l r:Tr)
 deriving DecidableEq
noncomputable def mx (x y:Int):Int:=if x<y then y else x
noncomputable def Tr.ht:Tr->Int
 | .nil=>0
 | .node _ l r=>1+mx l.ht r.ht
noncomputable def Tr.isNil:Tr->Bool
 | .nil=>T1
 | .node ..=>F0
noncomputable def Tr.rc:Tr->Int
 | .nil=>0
 | .node x l r=>let a:=if l.isNil then x.b else mx x.b l.rc;if r.isNil then a else mx a r.rc
noncomputable def Tr.v:Tr->V
 | .nil=>.none
 | .node x l r=>.tup [x.v,l.v,r.v,.int (1+mx l.ht r.ht),.int (Tr.node x l r).rc]
noncomputable def Tr.tl:Tr->List T3
 | .nil=>[]
 | .node x l r=>l.tl++x::r.tl
noncomputable def Tr.sz:Tr->Nat
 | .nil=>0
 | .node _ l r=>l.sz+r.sz+1
theorem Tr.ht_0:Tr.nil.ht=0:=rfl
theorem Tr.ht_1 {x:T3}{l r:Tr}:(Tr.node x l r).ht=1+mx l.ht r.ht:=rfl
theorem Tr.tl_0:Tr.nil.tl=[]:=rfl
theorem Tr.tl_1 {x:T3}{l r:Tr}:(Tr.node x l r).tl=l.tl++x::r.tl:=rfl
theorem Tr.sz_0:Tr.nil.sz=0:=rfl
theorem Tr.sz_1 {x:T3}{l r:Tr}:(Tr.node x l r).sz=l.sz+r.sz+1:=rfl
theorem Tr.sz_tl:∀t:Tr,t.tl.length=t.sz
 | .nil=>rfl
 | .node x l r=>by simp only[Tr.tl_0,Tr.tl_1,Tr.sz_0,Tr.sz_1,Bq,C5,Tr.sz_tl l,Tr.sz_tl r];exact Nb 0x185051a5501acba1a1 Tt
theorem Tr.ht_nn:∀t:Tr,0<=t.ht
 | .nil=>by simp[Tr.ht_0,Tr.ht_1]
 | .node x l r=>by have:=Tr.ht_nn l;have:=Tr.ht_nn r;simp only[Tr.ht_0,Tr.ht_1,mx];split <;> lia
theorem Tr.v_below (n:Nat):∀t:Tr,below n t.v=T1
 | .nil=>rfl
 | .node x l r=>by
  show belows n _=T1
  exact Zat (T3.below_v n x) (Zat (Tr.v_below n l) (Zat (Tr.v_below n r) (Zat rfl (Zat rfl rfl))))
noncomputable def Tr.rotL (x:T3)(l r:Tr):Tr:=match l with
 | .nil=>.nil
 | .node y a b=>if b.ht<=a.ht then .node y a (.node x b r) else match b with
  | .nil=>.nil
  | .node z c d=>.node z (.node y a c) (.node x d r)
noncomputable def Tr.rotR (x:T3)(l r:Tr):Tr:=match r with
 | .nil=>.nil
 | .node y a b=>if a.ht<=b.ht then .node y (.node x l a) b else match a with
  | .nil=>.nil
  | .node z c d=>.node z (.node x l c) (.node y d b)
noncomputable def Tr.bal (x:T3)(l r:Tr):Tr:=if r.ht+1<l.ht then Tr.rotL x l r else if l.ht+1<r.ht then Tr.rotR x l r else .node x l r
set_option tactic.hygienic true
theorem Tr.tl_rotL {x:T3}{l r:Tr}(h:r.ht+1<l.ht):(Tr.rotL x l r).tl=l.tl++x::r.tl:=by
 obtain hr:=r.ht_nn
 cases l with
 | nil=>simp only[Tr.ht_0,Tr.ht_1] at h;lia
 | node y a b=>
  unfold Tr.rotL;dsimp only
  split
  .simp[Tr.tl_0,Tr.tl_1]
  .rename_i c
   cases b with
   | nil=>have:=a.ht_nn;simp only[Tr.ht_0,Tr.ht_1] at c;lia
   | node z c d=>simp[Tr.tl_0,Tr.tl_1]
theorem Tr.tl_rotR {x:T3}{l r:Tr}(h:l.ht+1<r.ht):(Tr.rotR x l r).tl=l.tl++x::r.tl:=by
 obtain hr:=l.ht_nn
 cases r with
 | nil=>simp only[Tr.ht_0,Tr.ht_1] at h;lia
 | node y a b=>
  unfold Tr.rotR;dsimp only
  split
  .simp[Tr.tl_0,Tr.tl_1]
  .rename_i c
   cases a with
   | nil=>have:=b.ht_nn;simp only[Tr.ht_0,Tr.ht_1] at c;lia
   | node z c d=>simp[Tr.tl_0,Tr.tl_1]
theorem Tr.tl_bal (x:T3)(l r:Tr):(Tr.bal x l r).tl=l.tl++x::r.tl:=by
 unfold Tr.bal
 split
 .rename_i h;exact Tr.tl_rotL h
 .split
  .rename_i h;exact Tr.tl_rotR h
  .rfl
set_option tactic.hygienic false
noncomputable def T3.lt (x y:T3):Bool:=decide (x.a<y.a)||(decide (x.a=y.a)&&(decide (x.b<y.b)||(decide (x.b=y.b)&&decide (x.c<y.c))))
theorem T3.lt_iff {x y:T3}:T3.lt x y=T1↔(x.a<y.a\/(x.a=y.a/\(x.b<y.b\/(x.b=y.b/\x.c<y.c)))):=by simp[T3.lt]
theorem T3.eq_iff {x y:T3}:x=y↔(x.a=y.a/\x.b=y.b/\x.c=y.c):=⟨λe=>e▸⟨rfl,rfl,rfl⟩,λh=>by cases x;cases y;revert h;refine rAA λh1 h2 h3=>?_;cases h1;cases h2;cases h3;rfl⟩
theorem T3.lt_tri (x y:T3):T3.lt x y=T1\/x=y\/T3.lt y x=T1:=by
 rw[T3.lt_iff,T3.lt_iff,T3.eq_iff];exact Ig 0x10d0d701f8010d723f823741d0df801f823841d0d710f8100d732f83271d4cbbbbbba11a11bba11a11a11bba11a11bba11a11a11bbbba11a11bba11a11a11bba11a11bba11a11a11bbba11a11bba11a11a11bba11a11bba11a11a11bbbba011a011bba011a011a011bba0101a0101bba0101a0101a0101bbbba0101a0101bba0101a0101a0101bba0101a0101bba0101a0101a0101bbba0101a0101bba0101a0101a0101bba0101a0101bba0101a0101a0101bbbbbba011a011bba011a011a011bba011a011bba011a011a011bbbba011a011bba011a011a011bba011a011bba011a011a011bbba011a011bba011a011a011bba011a011bba011a011a011bbbba1001a1001bba1001a1001a1001bba00011a00011bba00011a00011a00011bbbba0011a0011bba0011a0011a0011bba000011a100001bba001001a001001a001001bbba000011a100001bba001001a001001a001001bba000011a100001bba001001a001001a001001bbbba1001a1001bba1001a1001a1001bba00011a00011bba00011a00011a00011bbbba0101a0101bba0101a0101a0101bba000011a100001bba000101a000101a000101bbba0011a0011bba0011a0011a0011bba000011a100001bba0000011a0100001a0001001 Tt
theorem T3.lt_irr (x:T3):¬ T3.lt x x=T1:=by rw[T3.lt_iff];exact Ic 0x190d700f8000d711f811722cba1ba001a00001 Tt
theorem T3.lt_trans {x y z:T3}(h1:T3.lt x y=T1)(h2:T3.lt y z=T1):T3.lt x z=T1:=by
 rw[T3.lt_iff] at *;exact lin [(.or (.zlt .v0 .v6) (.an (.zeq .v0 .v6) (.or (.zlt .v2 .v7) (.an (.zeq .v2 .v7) (.zlt .v4 .v8))))),(.or (.zlt .v6 .v1) (.an (.zeq .v6 .v1) (.or (.zlt .v7 .v3) (.an (.zeq .v7 .v3) (.zlt .v8 .v5)))))] (.or (.zlt .v0 .v1) (.an (.zeq .v0 .v1) (.or (.zlt .v2 .v3) (.an (.zeq .v2 .v3) (.zlt .v4 .v5))))) (.s (.s (.s (.s (.d 111) (.s (.d 111) (.d 111))) (.s (.s (.d 111) (.s (.d 111) (.d 111))) (.s (.d 111) (.s (.d 111) (.d 111))))) (.s (.s (.d 10111) (.s (.d 10111) (.d 10111))) (.s (.s (.d 1011001) (.s (.d 1011001) (.d 1011001))) (.s (.d 101100001) (.s (.d 101100001) (.d 101100001)))))) (.s (.s (.s (.s (.d 1011) (.s (.d 1011) (.d 1011))) (.s (.s (.d 1011) (.s (.d 1011) (.d 1011))) (.s (.d 1011) (.s (.d 1011) (.d 1011))))) (.s (.s (.d 110011) (.s (.d 110011) (.d 110011))) (.s (.s (.d 11001001) (.s (.d 1001001001) (.d 1001001001))) (.s (.d 1100100001) (.s (.d 100100100001) (.d 100100100001)))))) (.s (.s (.d 110011) (.s (.d 110011) (.d 110011))) (.s (.s (.d 11001001) (.s (.d 1010001001) (.d 1010001001))) (.s (.d 1100100001) (.s (.d 101000100001) (.d 10010000100001))))))) rfl [] [_,_,_,_,_,_,_,_,_] h1 h2
noncomputable def Tr.ins (x:T3):Tr->Option Tr
 | .nil=>S5 (.node x .nil .nil)
 | .node y l r=>if x=y then N0 else if T3.lt x y then (Tr.ins x l).map λl'=>Tr.bal y l' r else (Tr.ins x r).map λr'=>Tr.bal y l r'
noncomputable def Tr.least:Tr->T3->T3
 | .nil,x=>x
 | .node y l _,_=>Tr.least l y
noncomputable def Tr.del (x:T3):Tr->Option Tr
 | .nil=>N0
 | .node y l r=>if T3.lt x y then (Tr.del x l).map λl'=>Tr.bal y l' r else if T3.lt y x then (Tr.del x r).map λr'=>Tr.bal y l r'
  else if l.isNil then S5 r else if r.isNil then S5 l else (Tr.del (r.least x) r).map λr'=>Tr.bal (r.least x) l r'
theorem Tr.ins_1 {x y:T3}{l r:Tr}:Tr.ins x (.node y l r)=if x=y then N0 else if T3.lt x y then (Tr.ins x l).map λl'=>Tr.bal y l' r else (Tr.ins x r).map λr'=>Tr.bal y l r':=rfl
theorem Tr.least_1 {x y:T3}{l r:Tr}:Tr.least (.node y l r) x=Tr.least l y:=rfl
theorem Tr.least_0 {x:T3}:Tr.least .nil x=x:=rfl
theorem Tr.del_1 {x y:T3}{l r:Tr}:Tr.del x (.node y l r)=if T3.lt x y then (Tr.del x l).map λl'=>Tr.bal y l' r else if T3.lt y x then (Tr.del x r).map λr'=>Tr.bal y l r'
  else if l.isNil then S5 r else if r.isNil then S5 l else (Tr.del (r.least x) r).map λr'=>Tr.bal (r.least x) l r':=rfl
def Srt3 (l:List T3):Prop:=l.Pairwise λx y=>T3.lt x y=T1
theorem Srt3.node {a b:List T3}{x:T3}:Srt3 (a++x::b)↔(Srt3 a/\Srt3 b/\(∀y∈a,T3.lt y x=T1)/\∀y∈b,T3.lt x y=T1):=by
 unfold Srt3
 rw[I9,D5]
 constructor
 .intro hR0
  revert hR0;refine rAA λh1 hO1 h4=>?_;obtain ⟨h2,h3⟩:=hO1
  exact ⟨h1,h3,λy hy=>h4 y hy x (by simp),h2⟩
 .intro hR0
  revert hR0;refine X0 λh1 h2 h3 h4=>?_
  refine ⟨h1,⟨h4,h2⟩,λy hy z hz=>?_⟩
  rcases Be.mp hz with rfl | hz
  .exact h3 y hy
  .exact T3.lt_trans (h3 y hy) (h4 z hz)
theorem Srt3.eq:∀{a b:List T3},Srt3 a->Srt3 b->(∀x,x∈a↔x∈b)->a=b
 | [],[],_,_,_=>rfl
 | [],y::b,_,_,h=>by have:=(h y).mpr (by simp);simp at this
 | x::a,[],_,_,h=>by have:=(h x).mp (by simp);simp at this
 | x::a,y::b,h1,h2,h=>by
  unfold Srt3 at h1 h2
  rw[D5] at h1 h2
  have e:x=y:=by
   rcases Be.mp ((h x).mp (by simp)) with e | hx
   .exact e
   rcases Be.mp ((h y).mpr (by simp)) with e | hy
   .exact e.symm
   exact absurd (T3.lt_trans (h1.1 y hy) (h2.1 x hx)) (T3.lt_irr _)
  subst e
  have:a=b:=Srt3.eq h1.2 h2.2 λz=>by
   constructor
   .intro hz
    rcases Be.mp ((h z).mp (by simp[hz])) with rfl | hb
    .exact absurd (h1.1 _ hz) (T3.lt_irr _)
    .exact hb
   .intro hz
    rcases Be.mp ((h z).mpr (by simp[hz])) with rfl | hb
    .exact absurd (h2.1 _ hz) (T3.lt_irr _)
    .exact hb
  rw[this]
theorem Tr.ins_ok (x:T3):∀{t:Tr},Srt3 t.tl->(Tr.ins x t=N0/\x∈t.tl)\/∃t',Tr.ins x t=S5 t'/\x ∉ t.tl/\Srt3 t'.tl/\∀y,y∈t'.tl↔y=x\/y∈t.tl
 | .nil,_=>.inr ⟨_,rfl,by simp[Tr.tl_0,Tr.tl_1],by simp[Tr.tl_0,Tr.tl_1,Srt3],by simp[Tr.tl_0,Tr.tl_1]⟩
 | .node y l r,h=>by
  refine X0 (λhl hr h1 h2=>?_) (Srt3.node.mp h)
  by_cases c:x=y
  .subst c;exact .inl ⟨gp rfl,by simp[Tr.tl_0,Tr.tl_1]⟩
  by_cases d:T3.lt x y=T1
  .have e:Tr.ins x (.node y l r)=(Tr.ins x l).map λl'=>Tr.bal y l' r:=by rw[Tr.ins_1,gq c,gp d]
   rcases Tr.ins_ok x hl with ⟨i1,i2⟩ | ⟨t',i1,i2,i3,i4⟩
   .exact .inl ⟨by rw[e,i1];rfl,by simp[Tr.tl_0,Tr.tl_1,i2]⟩
   .refine .inr ⟨_,by rw[e,i1];rfl,λhm=>?_,?_,λz=>?_⟩
    .rcases Bm.mp hm with hm | hm
     .exact i2 hm
     .rcases Be.mp hm with hm | hm
      .exact c hm
      .exact T3.lt_irr _ (T3.lt_trans d (h2 _ hm))
    .rw[Tr.tl_bal,Srt3.node]
     refine ⟨i3,hr,λz hz=>?_,h2⟩
     rcases (i4 z).mp hz with rfl | hz
     .exact d
     .exact h1 z hz
    .rw[Tr.tl_bal];simp only[Tr.tl_0,Tr.tl_1,Bm,Be,i4 z,or_assoc]
  .have d' : T3.lt y x = T1 := by
    rcases T3.lt_tri x y with h | h | h
    .exact absurd h d
    .exact absurd h c
    .exact h
   have e:Tr.ins x (.node y l r)=(Tr.ins x r).map λr'=>Tr.bal y l r':=by rw[Tr.ins_1,gq c,gq d]
   rcases Tr.ins_ok x hr with ⟨i1,i2⟩ | ⟨t',i1,i2,i3,i4⟩
   .exact .inl ⟨by rw[e,i1];rfl,by simp[Tr.tl_0,Tr.tl_1,i2]⟩
   .refine .inr ⟨_,by rw[e,i1];rfl,λhm=>?_,?_,λz=>?_⟩
    .rcases Bm.mp hm with hm | hm
     .exact T3.lt_irr _ (T3.lt_trans d' (h1 _ hm))
     .rcases Be.mp hm with hm | hm
      .exact c hm
      .exact i2 hm
    .rw[Tr.tl_bal,Srt3.node]
     refine ⟨hl,i3,h1,λz hz=>?_⟩
     rcases (i4 z).mp hz with rfl | hz
     .exact d'
     .exact h2 z hz
    .rw[Tr.tl_bal];simp only[Tr.tl_0,Tr.tl_1,Bm,Be,i4 z];constructor
     .rintro (h | h | h | h) <;> simp[h]
     .rintro (h | h | h | h) <;> simp[h]
theorem Tr.least_ok:∀(t:Tr) (x:T3),t.isNil=F0->Srt3 t.tl->t.least x∈t.tl/\∀y∈t.tl,y≠t.least x->T3.lt (t.least x) y=T1
 | .nil,_,h,_=>by exact tf h
 | .node y l r,x,_,hs=>by
  refine X0 (λhl hr h1 h2=>?_) (Srt3.node.mp hs)
  show Tr.least l y∈l.tl++y::r.tl/\∀z∈l.tl++y::r.tl,z≠Tr.least l y->_
  cases hn:l.isNil with
  | true=>
   cases l with
   | node _ _ _=>exact ft hn
   | nil=>
    refine ⟨by simp[Tr.least_0,Tr.least_1],λz hz hne=>?_⟩
    rcases Bm.mp hz with h | h
    .simp[Tr.tl_0,Tr.tl_1] at h
    .rcases Be.mp h with h | h
     .exact absurd h hne
     .exact h2 z h
  | false=>
   refine rA (λi1 i2=>?_) (Tr.least_ok l y hn hl)
   refine ⟨C7 _ i1,λz hz hne=>?_⟩
   rcases Bm.mp hz with h | h
   .exact i2 z h hne
   .rcases Be.mp h with h | h
    .subst h;exact h1 _ i1
    .exact T3.lt_trans (h1 _ i1) (h2 z h)
theorem Tr.del_ok:∀{t:Tr} (x:T3),Srt3 t.tl->(Tr.del x t=N0/\x ∉ t.tl)\/∃t',Tr.del x t=S5 t'/\x∈t.tl/\Srt3 t'.tl/\∀y,y∈t'.tl↔(y≠x/\y∈t.tl)
 | .nil,x,_=>.inl ⟨rfl,by simp[Tr.tl_0,Tr.tl_1]⟩
 | .node y l r,x,h=>by
  refine X0 (λhl hr h1 h2=>?_) (Srt3.node.mp h)
  by_cases d:T3.lt x y=T1
  .have e:Tr.del x (.node y l r)=(Tr.del x l).map λl'=>Tr.bal y l' r:=by rw[Tr.del_1,gp d]
   have hy:y≠x:=λe=>by subst e;exact T3.lt_irr _ d
   have hxr:∀z∈r.tl,z≠x:=λz hz e=>by subst e;exact T3.lt_irr _ (T3.lt_trans d (h2 _ hz))
   rcases Tr.del_ok x hl with ⟨i1,i2⟩ | ⟨t',i1,i2,i3,i4⟩
   .refine .inl ⟨by rw[e,i1];rfl,λhm=>?_⟩
    rcases Bm.mp hm with hm | hm
    .exact i2 hm
    .rcases Be.mp hm with hm | hm
     .exact hy hm.symm
     .exact hxr _ hm rfl
   .refine .inr ⟨_,by rw[e,i1];rfl,C7 _ i2,?_,λz=>?_⟩
    .rw[Tr.tl_bal,Srt3.node];exact ⟨i3,hr,λz hz=>h1 z ((i4 z).mp hz).2,h2⟩
    .rw[Tr.tl_bal];simp only[Tr.tl_0,Tr.tl_1,Bm,Be,i4 z]
     constructor
     .rintro (h | h | h)
      .exact ⟨h.1,.inl h.2⟩
      .subst h;exact ⟨hy,.inr (.inl rfl)⟩
      .exact ⟨hxr z h,.inr (.inr h)⟩
     .rintro ⟨h0,h | h | h⟩
      .exact .inl ⟨h0,h⟩
      .exact .inr (.inl h)
      .exact .inr (.inr h)
  by_cases d2:T3.lt y x=T1
  .have e:Tr.del x (.node y l r)=(Tr.del x r).map λr'=>Tr.bal y l r':=by rw[Tr.del_1,gq d,gp d2]
   have hy:y≠x:=λe=>by subst e;exact T3.lt_irr _ d2
   have hxl:∀z∈l.tl,z≠x:=λz hz e=>by subst e;exact T3.lt_irr _ (T3.lt_trans d2 (h1 _ hz))
   rcases Tr.del_ok x hr with ⟨i1,i2⟩ | ⟨t',i1,i2,i3,i4⟩
   .refine .inl ⟨by rw[e,i1];rfl,λhm=>?_⟩
    rcases Bm.mp hm with hm | hm
    .exact hxl _ hm rfl
    .rcases Be.mp hm with hm | hm
     .exact hy hm.symm
     .exact i2 hm
   .refine .inr ⟨_,by rw[e,i1];rfl,Ce _ (Bb _ i2),?_,λz=>?_⟩
    .rw[Tr.tl_bal,Srt3.node];exact ⟨hl,i3,h1,λz hz=>h2 z ((i4 z).mp hz).2⟩
    .rw[Tr.tl_bal];simp only[Tr.tl_0,Tr.tl_1,Bm,Be,i4 z]
     constructor
     .rintro (h | h | h)
      .exact ⟨hxl z h,.inl h⟩
      .subst h;exact ⟨hy,.inr (.inl rfl)⟩
      .exact ⟨h.1,.inr (.inr h.2)⟩
     .rintro ⟨h0,h | h | h⟩
      .exact .inl h
      .exact .inr (.inl h)
      .exact .inr (.inr ⟨h0,h⟩)
  have hx:x=y:=by
   rcases T3.lt_tri x y with h | h | h
   .exact absurd h d
   .exact h
   .exact absurd h d2
  subst hx
  have hxl:∀z∈l.tl,z≠x:=λz hz e=>by subst e;exact T3.lt_irr _ (h1 _ hz)
  have hxr:∀z∈r.tl,z≠x:=λz hz e=>by subst e;exact T3.lt_irr _ (h2 _ hz)
  right
  cases nl:l.isNil with
  | true=>
   cases l with
   | node _ _ _=>exact ft nl
   | nil=>
    refine ⟨r,by rw[Tr.del_1,gq d,gq d2];rfl,by simp[Tr.tl_0,Tr.tl_1],hr,λz=>?_⟩
    simp only[Tr.tl_0,Tr.tl_1,M4,Be]
    exact ⟨λh=>⟨hxr z h,.inr h⟩,λ⟨h0,h⟩=>h.resolve_left h0⟩
  | false=>
   cases nr:r.isNil with
   | true=>
    cases r with
    | node _ _ _=>exact ft nr
    | nil=>
     refine ⟨l,by rw[Tr.del_1,gq d,gq d2,gq (by rw[nl];decide)];rfl,by simp[Tr.tl_0,Tr.tl_1],hl,λz=>?_⟩
     simp only[Tr.tl_0,Tr.tl_1,Bm,Be,Dg,or_false]
     exact ⟨λh=>⟨hxl z h,.inl h⟩,λ⟨h0,h⟩=>h.resolve_right h0⟩
   | false=>
    refine rA (λm1 m2=>?_) (Tr.least_ok r x nr hr)
    have e:Tr.del x (.node x l r)=(Tr.del (r.least x) r).map λr'=>Tr.bal (r.least x) l r':=by rw[Tr.del_1,gq d,gq d2,gq (by rw[nl];decide),gq (by rw[nr];decide)]
    rcases Tr.del_ok (r.least x) hr with ⟨i1,i2⟩ | ⟨t',i1,i2,i3,i4⟩
    .exact absurd m1 i2
    refine ⟨_,by rw[e,i1];rfl,by simp[Tr.tl_0,Tr.tl_1],?_,λz=>?_⟩
    .rw[Tr.tl_bal,Srt3.node]
     exact ⟨hl,i3,λz hz=>T3.lt_trans (h1 z hz) (h2 _ m1),λz hz=>m2 z ((i4 z).mp hz).2 ((i4 z).mp hz).1⟩
    .rw[Tr.tl_bal];simp only[Tr.tl_0,Tr.tl_1,Bm,Be,i4 z]
     constructor
     .rintro (h | h | h)
      .exact ⟨hxl z h,.inl h⟩
      .subst h;exact ⟨hxr _ m1,.inr (.inr m1)⟩
      .exact ⟨hxr z h.2,.inr (.inr h.2)⟩
     .rintro ⟨h0,h | h | h⟩
      .exact .inl h
      .exact absurd h h0
      .by_cases c:z=r.least x
       .exact .inr (.inl c)
       .exact .inr (.inr ⟨c,h⟩)
noncomputable def Qq (lo hi:Int)(l:List T3):List T3:=l.filter λx=>decide (x.a<=hi)&&decide (lo<=x.b)
noncomputable def Tr.ask (lo hi:Int):Tr->List T3
 | .nil=>[]
 | .node x l r=>if (Tr.node x l r).rc<lo then [] else l.ask lo hi++(if x.a<=hi then (if lo<=x.b then [x] else [])++r.ask lo hi else [])
theorem Tr.ask_0 {lo hi:Int}:Tr.nil.ask lo hi=[]:=rfl
theorem Tr.ask_1 {lo hi:Int}{x:T3}{l r:Tr}:(Tr.node x l r).ask lo hi=if (Tr.node x l r).rc<lo then [] else l.ask lo hi++(if x.a<=hi then (if lo<=x.b then [x] else [])++r.ask lo hi else []):=rfl
theorem Zav (x y:Int):x<=mx x y/\y<=mx x y:=by unfold mx;split <;> lia
set_option tactic.hygienic true in
theorem Tr.rc_ge:∀(t:Tr) (x:T3),x∈t.tl->x.b<=t.rc
 | .nil,x,h=>by simp[Tr.tl_0,Tr.tl_1] at h
 | .node y l r,x,h=>by
  have hl:=Tr.rc_ge l x;have hr:=Tr.rc_ge r x
  have a1:=Zav y.b l.rc
  have a2:=Zav (if l.isNil then y.b else mx y.b l.rc) r.rc
  have hnl:l.isNil=T1->x ∉ l.tl:=λh=>by cases l with
   | nil=>simp[Tr.tl_0,Tr.tl_1]
   | node _ _ _=>exact ft h
  have hnr:r.isNil=T1->x ∉ r.tl:=λh=>by cases r with
   | nil=>simp[Tr.tl_0,Tr.tl_1]
   | node _ _ _=>exact ft h
  show x.b<=(if r.isNil then (if l.isNil then y.b else mx y.b l.rc) else mx (if l.isNil then y.b else mx y.b l.rc) r.rc)
  have hb:x∈l.tl\/x=y->x.b<=(if l.isNil then y.b else mx y.b l.rc):=λh=>by
   split
   .rename_i c
    rcases h with h | h
    .exact absurd h (hnl c)
    .subst h;exact Cb _
   .rcases h with h | h
    .exact Cp (hl h) a1.2
    .subst h;exact a1.1
  rcases Bm.mp h with h | h
  .split
   .exact hb (.inl h)
   .exact Cp (hb (.inl h)) a2.1
  .rcases Be.mp h with h | h
   .split
    .exact hb (.inr h)
    .exact Cp (hb (.inr h)) a2.1
   .rw[gq λc=>hnr c h]
    exact Cp (hr h) a2.2
set_option tactic.hygienic true in
theorem Tr.ask_hits (lo hi:Int):∀(t:Tr),Srt3 t.tl->t.ask lo hi=Qq lo hi t.tl
 | .nil,_=>rfl
 | .node x l r,h=>by
  refine X0 (λhl hr h1 h2=>?_) (Srt3.node.mp h)
  rw[Tr.ask_1]
  split
  .rename_i c
   symm;unfold Qq;rw[Du]
   intro y hy;simp only[Bs,decide_eq_true_eq,not_and]
   intro _;have:=Tr.rc_ge _ y hy;exact Ic 0x19601720612c111 Tt c this
  .rw[Tr.ask_hits lo hi l hl]
   show _=List.filter _ (l.tl++x::r.tl)
   rw[List.filter_append,List.filter_cons]
   congr 1
   by_cases c:x.a<=hi
   .rw[gp c,Tr.ask_hits lo hi r hr]
    by_cases d:lo<=x.b
    .rw[gp d,gp (by simp[c,d])];rfl
    .rw[gq d,gq (by simp[d])];rfl
   .rw[gq c,gq (by simp[c])]
    symm;rw[Du]
    intro y hy;simp only[Bs,decide_eq_true_eq,not_and]
    intro h3;have:=T3.lt_iff.mp (h2 y hy);exact lin [(.no (.zle .v2 .v3)),(.zle .v4 .v3),(.or (.zlt .v2 .v4) (.an (.zeq .v2 .v4) (.or (.zlt .v5 .v1) (.an (.zeq .v5 .v1) (.zlt .v6 .v7)))))] (.no (.zle .v0 .v1)) (.s (.d 10111) (.s (.d 10111) (.d 10111))) rfl [] [_,_,_,_,_,_,_,_] c h3 this
def Tr.avl:Tr->Prop
 | .nil=>True
 | .node _ l r=>l.avl/\r.avl/\l.ht<=r.ht+1/\r.ht<=l.ht+1
theorem Jj (x y:Int):(mx x y=x/\y<=x)\/(mx x y=y/\x<=y):=by unfold mx;split <;> lia
theorem Zg4 {x y z:Int}(h:x<=z)(k:y<=z):mx x y<=z:=by unfold mx;split <;> assumption
set_option tactic.hygienic true
theorem Zyt (a l r:Int)(i:a=l\/a=l+1):mx a r=mx l r\/mx a r=mx l r+1:=by have:=Jj a r;have:=Jj l r;exact lz5 [(.or (.zeq .v2 .v3) (.zeq .v2 (.a .v3 .k1))),(.or (.an (.zeq .v1 .v3) (.zle .v4 .v3)) (.an (.zeq .v1 .v4) (.zle .v3 .v4))),(.or (.an (.zeq .v0 .v2) (.zle .v4 .v2)) (.an (.zeq .v0 .v4) (.zle .v2 .v4)))] (.or (.zeq .v0 .v1) (.zeq .v0 (.a .v1 .k1))) (.s (.s (.s (.s (.s (.d 1100110001) (.d 11001100011)) (.s (.d 11000100011) (.d 1100010001))) (.s (.s (.d 1100110001) (.d 11001100011)) (.s (.d 11000100011) (.d 1100010001)))) (.s (.s (.s (.d 111) (.d 111)) (.s (.d 111) (.d 111))) (.s (.s (.d 111) (.d 111)) (.s (.d 111) (.d 111))))) (.s (.s (.s (.s (.d 111) (.d 111)) (.s (.d 111) (.d 111))) (.s (.s (.d 111) (.d 111)) (.s (.d 111) (.d 111)))) (.s (.s (.s (.d 101100101) (.d 101000111)) (.s (.d 101100111) (.d 101000101))) (.s (.s (.d 101100101) (.d 101000111)) (.s (.d 101100111) (.d 101000101)))))) rfl i this ‹_›
theorem Zwp (l a r:Int)(i:a=r\/a=r+1):mx l a=mx l r\/mx l a=mx l r+1:=by have:=Jj l a;have:=Jj l r;exact lz5 [(.or (.zeq .v2 .v3) (.zeq .v2 (.a .v3 .k1))),(.or (.an (.zeq .v1 .v4) (.zle .v3 .v4)) (.an (.zeq .v1 .v3) (.zle .v4 .v3))),(.or (.an (.zeq .v0 .v4) (.zle .v2 .v4)) (.an (.zeq .v0 .v2) (.zle .v4 .v2)))] (.or (.zeq .v0 .v1) (.zeq .v0 (.a .v1 .k1))) (.s (.s (.s (.s (.s (.d 1100010001) (.d 11000100011)) (.s (.d 11001100011) (.d 1100110001))) (.s (.s (.d 1100010001) (.d 11000100011)) (.s (.d 11001100011) (.d 1100110001)))) (.s (.s (.s (.d 111) (.d 111)) (.s (.d 111) (.d 111))) (.s (.s (.d 111) (.d 111)) (.s (.d 111) (.d 111))))) (.s (.s (.s (.s (.d 111) (.d 111)) (.s (.d 111) (.d 111))) (.s (.s (.d 111) (.d 111)) (.s (.d 111) (.d 111)))) (.s (.s (.s (.d 101000101) (.d 101100111)) (.s (.d 101000111) (.d 101100101))) (.s (.s (.d 101000101) (.d 101100111)) (.s (.d 101000111) (.d 101100101)))))) rfl i this ‹_›
theorem Zyu (a l r:Int)(i:a=l\/a+1=l):mx a r=mx l r\/mx a r+1=mx l r:=by have:=Jj a r;have:=Jj l r;exact lz5 [(.or (.zeq .v2 .v3) (.zeq (.a .v2 .k1) .v3)),(.or (.an (.zeq .v1 .v3) (.zle .v4 .v3)) (.an (.zeq .v1 .v4) (.zle .v3 .v4))),(.or (.an (.zeq .v0 .v2) (.zle .v4 .v2)) (.an (.zeq .v0 .v4) (.zle .v2 .v4)))] (.or (.zeq .v0 .v1) (.zeq (.a .v0 .k1) .v1)) (.s (.s (.s (.s (.s (.d 1010110001) (.d 10101100011)) (.s (.d 10100100011) (.d 1010010001))) (.s (.s (.d 1010110001) (.d 10101100011)) (.s (.d 10100100011) (.d 1010010001)))) (.s (.s (.s (.d 111) (.d 111)) (.s (.d 111) (.d 111))) (.s (.s (.d 111) (.d 111)) (.s (.d 111) (.d 111))))) (.s (.s (.s (.s (.d 111) (.d 111)) (.s (.d 111) (.d 111))) (.s (.s (.d 111) (.d 111)) (.s (.d 111) (.d 111)))) (.s (.s (.s (.d 110100101) (.d 110000111)) (.s (.d 110100111) (.d 110000101))) (.s (.s (.d 110100101) (.d 110000111)) (.s (.d 110100111) (.d 110000101)))))) rfl i this ‹_›
theorem Zwq (l a r:Int)(i:a=r\/a+1=r):mx l a=mx l r\/mx l a+1=mx l r:=by have:=Jj l a;have:=Jj l r;exact lz5 [(.or (.zeq .v2 .v3) (.zeq (.a .v2 .k1) .v3)),(.or (.an (.zeq .v1 .v4) (.zle .v3 .v4)) (.an (.zeq .v1 .v3) (.zle .v4 .v3))),(.or (.an (.zeq .v0 .v4) (.zle .v2 .v4)) (.an (.zeq .v0 .v2) (.zle .v4 .v2)))] (.or (.zeq .v0 .v1) (.zeq (.a .v0 .k1) .v1)) (.s (.s (.s (.s (.s (.d 1010010001) (.d 10100100011)) (.s (.d 10101100011) (.d 1010110001))) (.s (.s (.d 1010010001) (.d 10100100011)) (.s (.d 10101100011) (.d 1010110001)))) (.s (.s (.s (.d 111) (.d 111)) (.s (.d 111) (.d 111))) (.s (.s (.d 111) (.d 111)) (.s (.d 111) (.d 111))))) (.s (.s (.s (.s (.d 111) (.d 111)) (.s (.d 111) (.d 111))) (.s (.s (.d 111) (.d 111)) (.s (.d 111) (.d 111)))) (.s (.s (.s (.d 110000101) (.d 110100111)) (.s (.d 110000111) (.d 110100101))) (.s (.s (.d 110000101) (.d 110100111)) (.s (.d 110000111) (.d 110100101)))))) rfl i this ‹_›
set_option tactic.hygienic false
theorem Zuo {B X Y:Int}(h:B=1+X)(q:X=Y\/X=Y+1):B=1+Y\/B=1+Y+1:=Ic 0x10d805a18055a1a805a20d8218251acbbba100101a100101ba11a11bba11a11ba01101a01101 Tt h q
theorem Zup {B X Y:Int}(h:B=1+X)(q:X=Y\/X+1=Y):B=1+Y\/B+1=1+Y:=Ic 0x10d805a1850a5a1805a20d821852a1cbbba010101a010101ba11a11bba11a11ba10101a10101 Tt h q
theorem Zwr {a p q r M N:Int}(h1:a<=M)(h2:1+N<=M)(h3:p<=N)(h4:q<=N)(h:1+M=r+2):1+mx (1+mx a p) (1+mx q r)<=1+M+1:=by
 obtain e1:mx a p<=M:=Zg4 h1 (Ic 0x160165a21602c111 Tt h2 h3)
 obtain e2:mx q r<=M:=Zg4 (Ic 0x160165a21602c111 Tt h2 h4) (Ib 0x160185a15021ec101 Tt h)
 obtain e3:mx (1+mx a p) (1+mx q r)<=1+M:=Zg4 (Gl e1 1) (Gl e2 1)
 exact Ib 0x165a055a1a605a1c11 Tt e3
theorem Zs7 {l p q b M N:Int}(h1:b<=M)(h2:1+N<=M)(h3:p<=N)(h4:q<=N)(h:1+M=l+2):1+mx (1+mx l p) (1+mx q b)<=1+M+1:=by
 obtain e1:mx l p<=M:=Zg4 (Ib 0x160185a15021ec101 Tt h) (Ic 0x160165a21602c111 Tt h2 h3)
 obtain e2:mx q b<=M:=Zg4 (Ic 0x160165a21602c111 Tt h2 h4) h1
 obtain e3:mx (1+mx l p) (1+mx q b)<=1+M:=Zg4 (Gl e1 1) (Gl e2 1)
 exact Ib 0x165a055a1a605a1c11 Tt e3
theorem Tr.rotL_avl {x:T3}{l r:Tr}(hl:l.avl)(hr:r.avl)(h:l.ht=r.ht+2):(Tr.rotL x l r).avl/\(Tr.rotL x l r).ht<=l.ht+1/\l.ht<=(Tr.rotL x l r).ht:=by
 obtain hn:=r.ht_nn
 cases l with
 | nil=>simp only[Tr.ht_0,Tr.ht_1] at h;lia
 | node y a b=>
  revert hl;refine X0 λha hb h1 h2=>?_
  obtain e1:=Jj a.ht b.ht
  simp only[Tr.ht_0,Tr.ht_1] at h ⊢
  unfold Tr.rotL;dsimp only
  by_cases c:b.ht<=a.ht
  .rw[gp c]
   obtain e2:=Jj b.ht r.ht
   obtain e3:=Jj a.ht (1+mx b.ht r.ht)
   simp only[Tr.avl,Tr.ht_0,Tr.ht_1]
   refine ⟨⟨ha,⟨hb,hr,Id 0x16051a85a25121e0df823603f820630cba110011a11001 Tt h e1,Id 0x16051a85a25021e6351a0df823613f821631cba10111a10101 Tt h h1 e1⟩,Id 0x16055a1a6052a0df812632f813623cba1101a11011 Tt h1 e2,Ie 0x165a051a85a25321e6410df821641f8246140df804634f803643cbba10010001a10101001ba10010001a10111001 Tt h c e1 e2⟩,Ig 0x165a055a1a85a15221e0df813643f8146340df81d4624f81d26420df80365a1d3f805a1d635a1dcbbba1000100001a1000111001ba1000100001a1010001001bba1000110001a1000101001ba001100001a001100001 Tt h e1 e2 e3,Ie 0x165a05a16230df803623f8026320df81365a43f815a4635a4cbba1010001a10100011ba1110001a11100011 Tt c e1 e3⟩
  .rw[gq c]
   cases b with
   | nil=>have:=a.ht_nn;simp only[Tr.ht_0,Tr.ht_1] at c;lia
   | node z p q=>
    revert hb;refine X0 λhp hq h3 h4=>?_
    obtain e2:=Jj p.ht q.ht
    obtain e3:=Jj a.ht p.ht
    obtain e4:=Jj q.ht r.ht
    obtain e5:=Jj (1+mx a.ht p.ht) (1+mx q.ht r.ht)
    simp only[Tr.ht_0,Tr.ht_1] at *
    simp only[Tr.avl,Tr.ht_0,Tr.ht_1]
    refine ⟨⟨⟨ha,hp,Id 0x16051a965a206351a0df821631f823613cba1101a1111 Tt c h4 e2,Id 0x16051a65a251a0df820630f823603cba1101a11011 Tt h2 e2⟩,⟨hq,hr,Ig 0x16051a85a25121e0df82365a43f825a4635a40df841d601df84061d0cbba110011011a11001101ba110010011a11001001 Tt h e1 e2,Ig 0x16051a85a25021e965a3461d51a0df82465a34f825a3645a30df831d611df83161d1cbba00010001a00010001ba101011001a101001001 Tt h c h3 e1 e2⟩,by exact lin [(.zeq (.a .k1 .v2) (.a .v3 (.k 2))),(.zle .v4 (.a .v5 .k1)),(.or (.an (.zeq .v2 .v6) (.zle (.a .k1 .v7) .v6)) (.an (.zeq .v2 (.a .k1 .v7)) (.zle .v6 (.a .k1 .v7)))),(.or (.an (.zeq .v0 .v6) (.zle .v4 .v6)) (.an (.zeq .v0 .v4) (.zle .v6 .v4))),(.or (.an (.zeq .v1 .v5) (.zle .v3 .v5)) (.an (.zeq .v1 .v3) (.zle .v5 .v3)))] (.zle (.a .k1 .v0) (.a (.a .k1 .v1) .k1)) (.s (.s (.s (.d 11100010100011) (.d 1110001010001)) (.s (.d 1100100010001) (.d 11001000100011))) (.s (.s (.d 11100011100011) (.d 1110001110001)) (.s (.d 1100100010001) (.d 11001000100011)))) rfl [] [_,_,_,_,_,_,_,_] h h3 e1 e3 e4,by exact lin [(.zeq (.a .k1 .v2) (.a .v3 (.k 2))),(.zle (.a .k1 .v4) (.a .v5 .k1)),(.zle .v6 (.a .v7 .k1)),(.or (.an (.zeq .v2 .v5) (.zle (.a .k1 .v4) .v5)) (.an (.zeq .v2 (.a .k1 .v4)) (.zle .v5 (.a .k1 .v4)))),(.or (.an (.zeq .v1 .v5) (.zle .v7 .v5)) (.an (.zeq .v1 .v7) (.zle .v5 .v7))),(.or (.an (.zeq .v0 .v6) (.zle .v3 .v6)) (.an (.zeq .v0 .v3) (.zle .v6 .v3)))] (.zle (.a .k1 .v0) (.a (.a .k1 .v1) .k1)) (.s (.s (.s (.d 1100010000111) (.d 1101001000101)) (.s (.d 1100010000101) (.d 1101001000111))) (.s (.s (.d 1100010000111) (.d 1101101000101)) (.s (.d 1100010000101) (.d 1101101000111)))) rfl [] [_,_,_,_,_,_,_,_] h h2 h4 e1 e3 e4⟩,Zwr (Zav _ _).1 (Zav _ _).2 (Zav _ _).1 (Zav _ _).2 h,Ig 0x165a05a185a05221e0df834624f8326420df815a1d65a35a1df815a365a1d5a3cbba110011011a11001101ba110010011a11001001 Tt h e4 e5⟩
theorem Tr.rotR_avl {x:T3}{l r:Tr}(hl:l.avl)(hr:r.avl)(h:r.ht=l.ht+2):(Tr.rotR x l r).avl/\(Tr.rotR x l r).ht<=r.ht+1/\r.ht<=(Tr.rotR x l r).ht:=by
 obtain hn:=l.ht_nn
 cases r with
 | nil=>simp only[Tr.ht_0,Tr.ht_1] at h;lia
 | node y a b=>
  revert hr;refine X0 λha hb h1 h2=>?_
  obtain e1:=Jj a.ht b.ht
  simp only[Tr.ht_0,Tr.ht_1] at h ⊢
  unfold Tr.rotR;dsimp only
  by_cases c:a.ht<=b.ht
  .rw[gp c]
   obtain e2:=Jj l.ht a.ht
   obtain e3:=Jj (1+mx l.ht a.ht) b.ht
   simp only[Tr.avl,Tr.ht_0,Tr.ht_1]
   refine ⟨⟨⟨hl,ha,Id 0x16051a85a25021e6351a0df821631f823613cba10101a10111 Tt h h2 e1,Id 0x16051a85a25121e0df820630f823603cba11001a110011 Tt h e1⟩,hb,Ie 0x165a051a85a25321e6410df824614f8216410df803643f804634cbba10111001a10010001ba10101001a10010001 Tt h c e1 e2,Id 0x16055a1a6052a0df813623f812632cba11011a1101 Tt h2 e2⟩,Ig 0x165a055a1a85a15221e0df813643f8146340df81d2632f81d36230df805a1d645a1df80465a1d4cbbba001100001a001100001ba1000101001a1000110001bba1010001001a1000100001ba1000111001a1000100001 Tt h e1 e2 e3,Ie 0x165a05a16230df802632f8036230df815a4635a4f81365a43cbba11100011a1110001ba10100011a1010001 Tt c e1 e3⟩
  .rw[gq c]
   cases a with
   | nil=>have:=b.ht_nn;simp only[Tr.ht_0,Tr.ht_1] at c;lia
   | node z p q=>
    revert ha;refine X0 λhp hq h3 h4=>?_
    obtain e2:=Jj p.ht q.ht
    obtain e3:=Jj l.ht p.ht
    obtain e4:=Jj q.ht b.ht
    obtain e5:=Jj (1+mx l.ht p.ht) (1+mx q.ht b.ht)
    simp only[Tr.ht_0,Tr.ht_1] at *
    simp only[Tr.avl,Tr.ht_0,Tr.ht_1]
    refine ⟨⟨⟨hl,hp,Ig 0x16051a85a25021e965a3461d51a0df825a3645a3f82465a340df83161d1f831d611dcbba101001001a101011001ba00010001a00010001 Tt h c h4 e1 e2,Ig 0x16051a85a25121e0df825a3645a3f82465a340df83061d0f831d601dcbba11001001a110010011ba11001101a110011011 Tt h e1 e2⟩,⟨hq,hb,Id 0x16051a65a251a0df823603f820630cba11011a1101 Tt h1 e2,Id 0x16051a965a206351a0df823613f821631cba1111a1101 Tt c h3 e2⟩,by exact lin [(.zeq (.a .k1 .v2) (.a .v3 (.k 2))),(.zle (.a .k1 .v4) (.a .v5 .k1)),(.zle .v6 (.a .v7 .k1)),(.or (.an (.zeq .v2 (.a .k1 .v4)) (.zle .v5 (.a .k1 .v4))) (.an (.zeq .v2 .v5) (.zle (.a .k1 .v4) .v5))),(.or (.an (.zeq .v0 .v3) (.zle .v6 .v3)) (.an (.zeq .v0 .v6) (.zle .v3 .v6))),(.or (.an (.zeq .v1 .v7) (.zle .v5 .v7)) (.an (.zeq .v1 .v5) (.zle .v7 .v5)))] (.zle (.a .k1 .v0) (.a (.a .k1 .v1) .k1)) (.s (.s (.s (.d 110110100100011) (.d 11011010010001)) (.s (.d 11000100010001) (.d 110001000100011))) (.s (.s (.d 110100100100011) (.d 11010010010001)) (.s (.d 11000100010001) (.d 110001000100011)))) rfl [] [_,_,_,_,_,_,_,_] h h1 h3 e1 e3 e4,by exact lin [(.zeq (.a .k1 .v2) (.a .v3 (.k 2))),(.zle .v4 (.a .v5 .k1)),(.or (.an (.zeq .v2 (.a .k1 .v6)) (.zle .v7 (.a .k1 .v6))) (.an (.zeq .v2 .v7) (.zle (.a .k1 .v6) .v7))),(.or (.an (.zeq .v1 .v3) (.zle .v5 .v3)) (.an (.zeq .v1 .v5) (.zle .v3 .v5))),(.or (.an (.zeq .v0 .v4) (.zle .v7 .v4)) (.an (.zeq .v0 .v7) (.zle .v4 .v7)))] (.zle (.a .k1 .v0) (.a (.a .k1 .v1) .k1)) (.s (.s (.s (.d 110010000111) (.d 111000110101)) (.s (.d 110010000101) (.d 111000110111))) (.s (.s (.d 110010000111) (.d 111000100101)) (.s (.d 110010000101) (.d 111000100111)))) rfl [] [_,_,_,_,_,_,_,_] h h4 e1 e3 e4⟩,Zs7 (Zav _ _).2 (Zav _ _).1 (Zav _ _).1 (Zav _ _).2 h,Ig 0x165a05a185a05221e0df832642f8346240df815a365a1d5a3f815a1d65a35a1dcbba11001001a110010011ba11001101a110011011 Tt h e3 e5⟩
set_option tactic.hygienic true in
theorem Tr.bal_avl (x:T3){l r:Tr}(hl:l.avl)(hr:r.avl)(h1:l.ht<=r.ht+2)(h2:r.ht<=l.ht+2):(Tr.bal x l r).avl/\(Tr.bal x l r).ht<=1+mx l.ht r.ht/\mx l.ht r.ht<=(Tr.bal x l r).ht/\(l.ht<=r.ht+1->r.ht<=l.ht+1->(Tr.bal x l r).ht=1+mx l.ht r.ht):=by
 obtain e:=Jj l.ht r.ht
 unfold Tr.bal
 by_cases c1:r.ht+1<l.ht
 .rw[gp c1]
  refine rAA (λg1 g2 g3=>?_) (Tr.rotL_avl (x:=x) hl hr (Ib 0x1805121e605121e751a0cba101a11 Tt h1 c1))
  exact ⟨g1,by exact lz4 [(.zle .v0 (.a .v2 .k1)),(.or (.an (.zeq .v1 .v2) (.zle .v3 .v2)) (.an (.zeq .v1 .v3) (.zle .v2 .v3)))] (.zle .v0 (.a .k1 .v1)) (.s (.d 11101) (.d 111011)) rfl g2 e,by exact lz4 [(.zlt (.a .v2 .k1) .v3),(.zle .v3 .v1),(.or (.an (.zeq .v0 .v3) (.zle .v2 .v3)) (.an (.zeq .v0 .v2) (.zle .v3 .v2)))] (.zle .v0 .v1) (.s (.d 11011) (.d 11111)) rfl c1 g3 e,λu_ v_=>by exact lz4 [(.zlt (.a .v2 .k1) .v3),(.zle .v3 (.a .v2 .k1))] (.zeq .v0 (.a .k1 .v1)) (.s (.d 1011) (.d 1011)) rfl c1 ‹_›⟩
 .rw[gq c1]
  by_cases c2:l.ht+1<r.ht
  .rw[gp c2]
   refine rAA (λg1 g2 g3=>?_) (Tr.rotR_avl (x:=x) hl hr (Ib 0x1805121e605121e751a0cba101a11 Tt h2 c2))
   exact ⟨g1,by exact lz4 [(.zle .v0 (.a .v2 .k1)),(.or (.an (.zeq .v1 .v3) (.zle .v2 .v3)) (.an (.zeq .v1 .v2) (.zle .v3 .v2)))] (.zle .v0 (.a .k1 .v1)) (.s (.d 111011) (.d 11101)) rfl g2 e,by exact lz4 [(.zlt (.a .v2 .k1) .v3),(.zle .v3 .v1),(.or (.an (.zeq .v0 .v2) (.zle .v3 .v2)) (.an (.zeq .v0 .v3) (.zle .v2 .v3)))] (.zle .v0 .v1) (.s (.d 11111) (.d 11011)) rfl c2 g3 e,λu_ v_=>by exact lz4 [(.zlt (.a .v2 .k1) .v3),(.zle .v3 (.a .v2 .k1))] (.zeq .v0 (.a .k1 .v1)) (.s (.d 1011) (.d 1011)) rfl c2 ‹_›⟩
  .rw[gq c2]
   exact ⟨⟨hl,hr,Ib 0x16051a9751a0c11 Tt c1,Ib 0x16051a9751a0c11 Tt c2⟩,Cb _,by simp only[Tr.ht_0,Tr.ht_1];exact Ia 0x1605a0c1 Tt,λu_ v_=>rfl⟩
theorem Tr.ins_avl (x:T3):∀{t t':Tr},t.avl->Tr.ins x t=S5 t'->t'.avl/\(t'.ht=t.ht\/t'.ht=t.ht+1)
 | .nil,t',_,h=>by refine siE h ?_;exact ⟨⟨trivial,trivial,by simp[Tr.ht_0,Tr.ht_1],by simp[Tr.ht_0,Tr.ht_1]⟩,.inr (by simp[Tr.ht_0,Tr.ht_1,mx])⟩
 | .node y l r,t',⟨hl,hr,h1,h2⟩,h=>by
  rw[Tr.ins_1] at h
  have e:=Jj l.ht r.ht
  split at h
  .exact nn h
  .split at h
   .refine rEA (λa g hO2=>?_) (Bi.mp h);refine eqE hO2 ?_
    refine rA (λi1 i2=>?_) (Tr.ins_avl x hl g)
    refine X0 (λb1 b2 b3 b4=>?_) (Tr.bal_avl y i1 hr (Ic 0x1605121e6251a0d8028052acba111a111 Tt h1 i2) (Ic 0x1605121e6052a0d8128152acba1101a1101 Tt h2 i2))
    have e2:=Jj a.ht r.ht
    refine ⟨b1,?_⟩
    simp only[Tr.ht_0,Tr.ht_1]
    by_cases c:a.ht<=r.ht+1
    .exact Zuo (b4 c (Ic 0x16051a6052a0d8128152acba1101a1101 Tt h2 i2)) (Zyt _ _ _ i2)
    .exact Ig 0x10d805a18055a1a6253a605a4640961d53a0df812632f8136230d81d281d52a0df841d631df84361d3cbbbbba0010010001a0010010001ba1010111000001a00000100000001bba0000010011a0000010011ba0000010011a0000010011bbba11a11ba11a11bba11a11ba11a11bbbba11a11ba11a11bba11a11ba11a11bbba0010010001a0010010001ba010100010101a010101010101bba0000010011a0000010011ba0000010011a0000010011 Tt h1 b2 b3 c e i2 e2
   .refine rEA (λa g hO2=>?_) (Bi.mp h);refine eqE hO2 ?_
    refine rA (λi1 i2=>?_) (Tr.ins_avl x hr g)
    refine X0 (λb1 b2 b3 b4=>?_) (Tr.bal_avl y hl i1 (Ic 0x1605121e6052a0d8128152acba1101a1101 Tt h1 i2) (Ic 0x1605121e6251a0d8028052acba111a111 Tt h2 i2))
    have e2:=Jj l.ht a.ht
    refine ⟨b1,?_⟩
    simp only[Tr.ht_0,Tr.ht_1]
    by_cases c:a.ht<=l.ht+1
    .exact Zuo (b4 (Ic 0x16051a6052a0d8128152acba1101a1101 Tt h1 i2) c) (Zwp _ _ _ i2)
    .exact Ig 0x10d805a18055a1a6253a605a4640961d53a0df813623f8126320d81d281d52a0df84361d3f841d631dcbbbbba0000010011a0000010011ba0000010011a0000010011bba0010010001a0010010001ba00000100000001a1010111000001bbba11a11ba11a11bba11a11ba11a11bbbba11a11ba11a11bba11a11ba11a11bbba0000010011a0000010011ba0000010011a0000010011bba0010010001a0010010001ba010101010101a010100010101 Tt h2 b2 b3 c e i2 e2
set_option tactic.hygienic true in
theorem Tr.del_avl:∀{t t':Tr} (x:T3),t.avl->Tr.del x t=S5 t'->t'.avl/\(t'.ht=t.ht\/t'.ht+1=t.ht)
 | .nil,t',_,_,h=>by exact nn h
 | .node y l r,t',x,⟨hl,hr,h1,h2⟩,h=>by
  rw[Tr.del_1] at h
  have e:=Jj l.ht r.ht
  have right:∀z a,a.avl->(a.ht=r.ht\/a.ht+1=r.ht)->(Tr.bal z l a).avl/\((Tr.bal z l a).ht=1+mx l.ht r.ht\/(Tr.bal z l a).ht+1=1+mx l.ht r.ht):=λz a i1 i2=>by
   refine X0 (λb1 b2 b3 b4=>?_) (Tr.bal_avl z hl i1 (Ic 0x1605121e6052a0d812851a2cba1101a1101 Tt h1 i2) (Ic 0x1605121e6251a0d802850a2cba111a111 Tt h2 i2))
   have e2:=Jj l.ht a.ht
   refine ⟨b1,?_⟩
   by_cases c:l.ht<=a.ht+1
   .exact Zup (b4 c (Ic 0x16051a6251a0d802850a2cba111a111 Tt h2 i2)) (Zwq _ _ _ i2)
   .exact Ig 0x10d805a1850a5a1605a262096354a0df81361d3f811d631d0d841d854a1d0df823643f824634cbbbbba010101000001a0000100000001ba010101000001a0000100000001bba0000100101a0000100101ba0000100101a0000100101bbba11a11ba11a11bba11a11ba11a11bbbba11a11ba11a11bba11a11ba11a11bbba10100010001a10101010001ba10100010001a10101010001bba0000100101a0000100101ba0000100101a0000100101 Tt b2 b3 c e i2 e2
  split at h
  .refine rEA (λa g hO2=>?_) (Bi.mp h);refine eqE hO2 ?_
   refine rA (λi1 i2=>?_) (Tr.del_avl x hl g)
   refine X0 (λb1 b2 b3 b4=>?_) (Tr.bal_avl y i1 hr (Ic 0x1605121e6251a0d802850a2cba111a111 Tt h1 i2) (Ic 0x1605121e6052a0d812851a2cba1101a1101 Tt h2 i2))
   have e2:=Jj a.ht r.ht
   refine ⟨b1,?_⟩
   simp only[Tr.ht_0,Tr.ht_1]
   by_cases c:r.ht<=a.ht+1
   .exact Zup (b4 (Ic 0x16051a6251a0d802850a2cba111a111 Tt h1 i2) c) (Zyu _ _ _ i2)
   .exact Ig 0x10d805a1850a5a1605a262096354a0df811d631df81361d30d841d854a1d0df824634f823643cbbbbba0000100101a0000100101ba0000100101a0000100101bba0000100000001a010101000001ba0000100000001a010101000001bbba11a11ba11a11bba11a11ba11a11bbbba11a11ba11a11bba11a11ba11a11bbba0000100101a0000100101ba0000100101a0000100101bba10101010001a10100010001ba10101010001a10100010001 Tt b2 b3 c e i2 e2
  .split at h
   .refine rEA (λa g hO2=>?_) (Bi.mp h);refine eqE hO2 ?_
    refine rA (λi1 i2=>?_) (Tr.del_avl x hr g)
    exact right y a i1 i2
   .split at h
    .rename_i hn
     refine siE h ?_
     cases l with
     | nil=>have:=r.ht_nn;simp only[Tr.ht_0,Tr.ht_1] at *;exact ⟨hr,Ib 0x10d805a1850a5a16b00df81b60bf8106b0cbbba0111a0101ba11a11bba11a11ba100011a10001 Tt this e⟩
     | node _ _ _=>exact ft hn
    .split at h
     .rename_i hn
      refine siE h ?_
      cases r with
      | nil=>have:=l.ht_nn;simp only[Tr.ht_0,Tr.ht_1] at *;exact ⟨hl,Ib 0x10d805a1850a5a16b00df8106b0f81b60bcbbba0101a0111ba11a11bba11a11ba10001a100011 Tt this e⟩
      | node _ _ _=>exact ft hn
     .refine rEA (λa g hO2=>?_) (Bi.mp h);refine eqE hO2 ?_
      refine rA (λi1 i2=>?_) (Tr.del_avl _ hr g)
      exact right _ a i1 i2
noncomputable def Tr.cnt (lo hi:Int):Tr->Nat
 | .nil=>0
 | .node x l r=>if (Tr.node x l r).rc<lo then 0 else 1+l.cnt lo hi+(if x.a<=hi then r.cnt lo hi else 0)
theorem Tr.cnt_1 {lo hi:Int}{x:T3}{l r:Tr}:(Tr.node x l r).cnt lo hi=if (Tr.node x l r).rc<lo then 0 else 1+l.cnt lo hi+(if x.a<=hi then r.cnt lo hi else 0):=rfl
section
theorem Zcc {d n k:Nat}{ps:List Nat}{B:Ss}{as:List V}{c:Nat}(hF:pg.fn n=S5 ⟨ps,k,B,.pure⟩)(hs:Wr ⟨ps,k,B,.pure⟩ as=S5 Z)(h:execs (Cd d) B Z U=S5 (.exc c,Z',U)):cf (d+1) n as U=S5 (.exc c,U):=by
 rw[Xj hF hs];show gc .pure U (Zab (execs (Cd d) B Z U))=_;rw[h];exact gp Ge
theorem Uy {d n k:Nat}{ps:List Nat}{B:Ss}{as:List V}{r:X V}(hF:pg.fn n=S5 ⟨ps,k,B,.raw⟩)(hs:Wr ⟨ps,k,B,.raw⟩ as=S5 Z)(h:Zab (execs (Cd d) B Z U)=r):cf (d+1) n as U=r:=by
 rw[Xj hF hs];exact h
theorem X7 {C:Cl}{B:Ss}{v:V}(h:execs C B Z U=S5 (.ret v,Z',U')):Zab (execs C B Z U)=S5 (.ok v,U'):=by rw[h];rfl
set_option tactic.hygienic true in
theorem Zie {C:Cl}{B:Ss}(h:execs C B Z U=S5 (.next,Z',U')):Zab (execs C B Z U)=S5 (.ok .none,U'):=by rw[h];rfl
theorem Zqk {C:Cl}{B:Ss}{c:Nat}(h:execs C B Z U=S5 (.exc c,Z',U')):Zab (execs C B Z U)=S5 (.exc c,U'):=by rw[h];rfl
theorem Zee (t:Tr)(U:H):Yo .is t.v .none U=S5 t.isNil:=by cases t <;> rfl
theorem Zli (t:Tr)(U:H):Yo .isnot t.v .none U=S5 (!t.isNil):=by cases t <;> rfl
theorem Zws (x y:T3)(U:H):Yo .eq x.v y.v U=S5 (decide (x=y)):=by
 obtain h:=Zmv U [x.a,x.b,x.c] [y.a,y.b,y.c]
 obtain e:(decide ([x.a,x.b,x.c]=[y.a,y.b,y.c]))=decide (x=y):=by
  rw[decide_eq_decide,T3.eq_iff];simp
 rw[e] at h
 exact h
theorem Z0p (x y:T3)(U:H):Yo .ne x.v y.v U=S5 (!decide (x=y)):=by
 obtain h:=Zws x y U
 show (eqV U x.v y.v).map (!·)=_
 rw[show eqV U x.v y.v=S5 (decide (x=y)) from h];rfl
theorem Zs8 (x y:T3)(U:H):Yo .lt x.v y.v U=S5 (T3.lt x y):=by
 show (if x.a=y.a then (if x.b=y.b then (if x.c=y.c then S5 F0 else S5 (decide (x.c<y.c))) else S5 (decide (x.b<y.b))) else S5 (decide (x.a<y.a)))=S5 (T3.lt x y)
 unfold T3.lt
 by_cases h1:x.a=y.a
 .rw[gp h1]
  by_cases h2:x.b=y.b
  .rw[gp h2]
   by_cases h3:x.c=y.c
   .rw[gp h3];simp[h1,h2,h3]
   .rw[gq h3];simp[h1,h2]
  .rw[gq h2];simp[h1,h2]
 .rw[gq h1];simp[h1]
theorem Z0q (x y:T3)(U:H):Yo .gt x.v y.v U=S5 (T3.lt y x):=Zs8 y x U
theorem Zmx (d:Nat)(t:Tr)(U:H):cf (d+1) 7 [t.v] U=S5 (.ok (.int t.ht),U):=by
 cases t with
 | nil=>exact Yu fn7 rfl (Zp (Z7 (Zk rfl Zd (Zee .nil U)) rfl)) rfl
 | node x l r=>exact Yu fn7 rfl (Za (Zn (Zk rfl Zd (Zee (.node x l r) U)) Zi) rfl) rfl
set_option tactic.hygienic true
theorem Z0r (C:Cl)(x:T3)(l r:Tr)(U:H):execs C (.cons Zx5 .nil) (S5 x.v::S5 l.v::S5 r.v::S5 (.int x.b)::o8) U=S5 (.next,(S5 x.v::S5 l.v::S5 r.v::S5 (.int (if l.isNil then x.b else mx x.b l.rc))::o8),U):=by
 cases l with
 | nil=>exact Zq (Zn (Zk rfl Zd (Zli .nil U)) Zi)
 | node y a b=>exact Zq (Z7 (Zk rfl Zd (Zli (.node y a b) U)) (Zq (Zz (Z9 rfl rfl) rfl)))
theorem Z0s (C:Cl)(x:T3)(l r:Tr)(U:H):execs C (.cons Zx6 .nil) (S5 x.v::S5 l.v::S5 r.v::S5 (.int (if l.isNil then x.b else mx x.b l.rc))::o8) U=S5 (.next,(S5 x.v::S5 l.v::S5 r.v::S5 (.int (Tr.node x l r).rc)::o8),U):=by
 cases r with
 | nil=>exact Zq (Zn (Zk rfl Zd (Zli .nil U)) Zi)
 | node y a b=>exact Zq (Z7 (Zk rfl Zd (Zli (.node y a b) U)) (Zq (Zz (Z9 rfl rfl) rfl)))
theorem X8 {C:Cl}{s:St}(h:execs C (.cons s .nil) Z U=S5 (.next,Z',U')):exec C s Z U=S5 (.next,Z',U'):=by
 obtain h:Zea (exec C s Z U) (λZ1 U1=>S5 (.next,Z1,U1))=S5 (.next,Z',U'):=h
 cases e:exec C s Z U with
 | none=>rw[e] at h;exact nn h
 | some y=>obtain ⟨f,l,t⟩:=y;rw[e] at h;cases f <;> first | exact h | cases h
set_option tactic.hygienic false
theorem Zaw (d:Nat)(x:T3)(l r:Tr)(U:H):cf (d+2) 8 [x.v,l.v,r.v] U=S5 (.ok (Tr.node x l r).v,U):=by
 refine Yu fn8 rfl (Za rfl (Za (X8 (Z0r _ x l r U)) (Za (X8 (Z0s _ x l r U)) (Zp (Yr (Xi (Zb rfl (Zb rfl (Zb rfl (Zb (Zh Zd (Z9 (Zb (Zl rfl (Zmx d l U)) (Zb (Zl rfl (Zmx d r U)) Zj)) rfl) (Yg _ _ _)) rfl)))) rfl)))))) ?_
 exact Tr.v_below _ (.node x l r)
theorem hgt {C:Cl}{i j:Int}{a b:Ex}(ha:Zg C a Z U=S5 (.ok (.int i),U))(hb:Zg C b Z U=S5 (.ok (.int j),U)):Zg C (.cmp a (.one .gt (.bin .add b (.lit (.int 1))))) Z U=S5 (.ok (.bool (decide (j+1<i))),U):=Zk ha (Zh hb Zd (Yg _ _ _)) rfl
theorem Zf0 (d:Nat)(x:T3)(l r:Tr)(U:H):cf (d+3) 9 [x.v,l.v,r.v] U=S5 (.ok (Tr.bal x l r).v,U):=by
 obtain hh:=λt=>Zmx (d+1) t U
 obtain hb:∀t:Tr,below U.length t.v=T1:=λt=>Tr.v_below _ t
 unfold Tr.bal
 by_cases c1:r.ht+1<l.ht
 .rw[gp c1]
  obtain t1:=hgt (a:=Ex.call 7 (.cons .v1 .nil)) (b:=Ex.call 7 (.cons .v2 .nil)) (C:=(Cd (d+2))) (Z:=(S5 x.v::S5 l.v::S5 r.v::o9)) (Zl rfl (hh l)) (Zl rfl (hh r))
  rw[decide_eq_true c1] at t1
  cases l with
  | nil=>have:=r.ht_nn;simp only[Tr.ht_0,Tr.ht_1] at c1;lia
  | node y a b=>
   unfold Tr.rotL;dsimp only
   by_cases c2:b.ht<=a.ht
   .rw[gp c2]
    exact Yu fn9 rfl (Zp (Z7 t1 (Zp (Z7 (Zk (Zl rfl (hh a)) (Zl rfl (hh b)) (geT c2)) (Zp (Yr (Zl (Zb rfl (Zb rfl (Zb (Zl rfl (Zaw d x b r U)) Zj))) (Zaw d y a _ U)))))))) (hb _)
   .rw[gq c2]
    cases b with
    | nil=>have:=a.ht_nn;simp only[Tr.ht_0,Tr.ht_1] at c2;lia
    | node z e f=>
     exact Yu fn9 rfl (Zp (Z7 t1 (Za (Zn (Zk (Zl rfl (hh a)) (Zl rfl (hh (.node z e f))) (geF c2)) Zi) (Za rfl (Zp (Yr (Zl (Zb rfl (Zb (Zl rfl (Zaw d y a e U)) (Zb (Zl rfl (Zaw d x f r U)) Zj))) (Zaw d z _ _ U)))))))) (hb _)
 .rw[gq c1]
  obtain t1:=hgt (a:=Ex.call 7 (.cons .v1 .nil)) (b:=Ex.call 7 (.cons .v2 .nil)) (C:=(Cd (d+2))) (Z:=(S5 x.v::S5 l.v::S5 r.v::o9)) (Zl rfl (hh l)) (Zl rfl (hh r))
  rw[decide_eq_false c1] at t1
  obtain t2:=hgt (a:=Ex.call 7 (.cons .v2 .nil)) (b:=Ex.call 7 (.cons .v1 .nil)) (C:=(Cd (d+2))) (Z:=(S5 x.v::S5 l.v::S5 r.v::o9)) (Zl rfl (hh r)) (Zl rfl (hh l))
  by_cases c3:l.ht+1<r.ht
  .rw[gp c3]
   rw[decide_eq_true c3] at t2
   cases r with
   | nil=>have:=l.ht_nn;simp only[Tr.ht_0,Tr.ht_1] at c3;lia
   | node y a b=>
    unfold Tr.rotR;dsimp only
    by_cases c2:a.ht<=b.ht
    .rw[gp c2]
     exact Yu fn9 rfl (Za (Zn t1 Zi) (Zp (Z7 t2 (Zp (Z7 (Zk (Zl rfl (hh b)) (Zl rfl (hh a)) (geT c2)) (Zp (Yr (Zl (Zb rfl (Zb (Zl rfl (Zaw d x l a U)) rfl)) (Zaw d y _ b U))))))))) (hb _)
    .rw[gq c2]
     cases a with
     | nil=>have:=b.ht_nn;simp only[Tr.ht_0,Tr.ht_1] at c2;lia
     | node z e f=>
      exact Yu fn9 rfl (Za (Zn t1 Zi) (Zp (Z7 t2 (Za (Zn (Zk (Zl rfl (hh b)) (Zl rfl (hh (.node z e f))) (geF c2)) Zi) (Za rfl (Zp (Yr (Zl (Zb rfl (Zb (Zl rfl (Zaw d x l e U)) (Zb (Zl rfl (Zaw d y f b U)) Zj))) (Zaw d z _ _ U))))))))) (hb _)
  .rw[gq c3]
   rw[decide_eq_false c3] at t2
   exact Yu fn9 rfl (Za (Zn t1 Zi) (Za (Zn t2 Zi) (Zp (Yr (Zl rfl (Zaw d x l r U)))))) (hb _)
noncomputable def trX (t:Option Tr)(k:Nat)(U:H):X V:=match t with
 | some t=>S5 (.ok t.v,U)
 | none=>S5 (.exc k,U)
set_option tactic.hygienic true
theorem Zlj (x:T3)(U:H):∀(t:Tr) (d:Nat),t.sz<=d->cf (d+4) 10 [t.v,x.v] U=trX (Tr.ins x t) 12 U
 | .nil,d,_=>Yu Znz rfl (Zp (Z7 (Zk rfl Zd (Zee .nil U)) (Zp (Yr (Zl rfl (Zaw (d+1) x .nil .nil U)))))) (Tr.v_below _ _)
 | .node y l r,0,h=>absurd h (by simp[Tr.sz_0,Tr.sz_1])
 | .node y l r,d+1,h=>by
  have hl:=Zlj x U l d (by simp only[Tr.sz_0,Tr.sz_1] at h;exact Nc 0x160165502a51ac11 Tt h)
  have hr:=Zlj x U r d (by simp only[Tr.sz_0,Tr.sz_1] at h;exact Nc 0x160165520a51ac11 Tt h)
  have b0:execs (Cd (d+4)) (.cons Ztw .nil) (S5 (Tr.node y l r).v::S5 x.v::o8) U=S5 (.next,(S5 (Tr.node y l r).v::S5 x.v::o8),U):=Zq (Zn (Zk rfl Zd (Zee (.node y l r) U)) Zi)
  have t1:Zg (Cd (d+4)) (.cmp .v1 (.one .eq (.idx .v0 (.i 0)))) (S5 (Tr.node y l r).v::S5 x.v::o8) U=S5 (.ok (.bool (decide (x=y))),U):=Zk rfl rfl (Zws x y U)
  have t2:Zg (Cd (d+4)) (.cmp .v1 (.one .lt (.idx .v0 (.i 0)))) (S5 (Tr.node y l r).v::S5 x.v::o8) U=S5 (.ok (.bool (T3.lt x y)),U):=Zk rfl rfl (Zs8 x y U)
  rw[Tr.ins_1]
  by_cases c1:x=y
  .rw[gp c1]
   rw[decide_eq_true c1] at t1
   exact Zcc Znz rfl (Za (X8 b0) (Uw (Z7 t1 rfl)))
  .rw[gq c1]
   rw[decide_eq_false c1] at t1
   by_cases c2:T3.lt x y=T1
   .rw[gp c2]
    rw[c2] at t2
    cases e:Tr.ins x l with
    | none=>
     rw[e] at hl
     exact Zcc Znz rfl (Za (X8 b0) (Za (Zn t1 Zi) (Uw (Z7 t2 (Uw (Zft (Q6 (Ul rfl (Q4 (Zl rfl hl))))))))))
    | some t'=>
     rw[e] at hl
     exact Yu Znz rfl (Za (X8 b0) (Za (Zn t1 Zi) (Zp (Z7 t2 (Zp (Yr (Zl (Zb rfl (Zb (Zl rfl hl) rfl)) (Zf0 (d+1) y t' r U)))))))) (Tr.v_below _ _)
   .rw[gq c2]
    have c2':T3.lt x y=F0:=by simpa using c2
    rw[c2'] at t2
    cases e:Tr.ins x r with
    | none=>
     rw[e] at hr
     exact Zcc Znz rfl (Za (X8 b0) (Za (Zn t1 Zi) (Za (Zn t2 Zi) (Uw (Zft (Q6 (Ul rfl (Ul rfl (Q4 (Zl rfl hr))))))))))
    | some t'=>
     rw[e] at hr
     exact Yu Znz rfl (Za (X8 b0) (Za (Zn t1 Zi) (Za (Zn t2 Zi) (Zp (Yr (Zl (Zb rfl (Zb rfl (Zb (Zl rfl hr) Zj))) (Zf0 (d+1) y l t' U))))))) (Tr.v_below _ _)
theorem Zkc (C:Cl)(U:H):∀(t:Tr) (n:Nat) (x:T3),t.isNil=F0->t.sz<n->∃r,Xl (Zg C (.cmp (.idx .v0 (.i 1)) (.one .isnot (.lit V.none)))) (execs C (.cons (.asg (.one 0) (.idx .v0 (.i 1))) .nil)) n (S5 t.v::o8) U=S5 (.next,(S5 (Tr.node (t.least x) .nil r).v::o8),U)
 | .nil,_,_,h,_=>by exact tf h
 | .node y l r,0,_,_,h=>absurd h (Da _)
 | .node y l r,n+1,x,_,h=>by
  have t1:Zg C (.cmp (.idx .v0 (.i 1)) (.one .isnot (.lit V.none))) (S5 (Tr.node y l r).v::o8) U=S5 (.ok (.bool (!l.isNil)),U):=Zk rfl Zd (Zli l U)
  cases hn:l.isNil with
  | true=>
   cases l with
   | node _ _ _=>exact ft hn
   | nil=>exact ⟨r,Zdo t1⟩
  | false=>
   refine rE (λr' e=>?_) (Zkc C U l n y hn (by simp only[Tr.sz_0,Tr.sz_1] at h;exact Nc 0x170175502a51ac11 Tt h))
   refine ⟨r',?_⟩
   have b1:execs C (.cons (.asg (.one 0) (.idx .v0 (.i 1))) .nil) (S5 (Tr.node y l r).v::o8) U=S5 (.next,(S5 l.v::o8),U):=Zq rfl
   rw[hn] at t1
   exact (Zc5 t1 b1).trans e
theorem Zql (d:Nat)(t:Tr)(x:T3)(hn:t.isNil=F0)(hs:t.sz<2^16)(U:H):cf (d+1) 11 [t.v] U=S5 (.ok (t.least x).v,U):=by
 refine rE (λr e=>?_) (Zkc (Cd d) U t Za3 x hn hs)
 have e':exec (Cd d) Ztx (S5 t.v::o8) U=S5 (.next,(S5 (Tr.node (t.least x) .nil r).v::o8),U):=e
 exact Yu Zzr rfl (Za e' rfl) rfl
theorem Zif (U:H):∀(t:Tr) (x:T3) (d:Nat),t.sz<=d->t.sz<2^16->cf (d+4) 12 [t.v,x.v] U=trX (Tr.del x t) 13 U
 | .nil,x,d,_,_=>Zcc Zib rfl (Uw (Z7 (Zk rfl Zd (Zee .nil U)) rfl))
 | .node y l r,x,0,h,_=>absurd h (by simp[Tr.sz_0,Tr.sz_1])
 | .node y l r,x,d+1,h,h'=>by
  have hl:=Zif U l x d (by simp only[Tr.sz_0,Tr.sz_1] at h;exact Nc 0x160165502a51ac11 Tt h) (by simp only[Tr.sz_0,Tr.sz_1] at h';exact Nc 0x170175502a1c11 Tt h')
  have hr:=Zif U r x d (by simp only[Tr.sz_0,Tr.sz_1] at h;exact Nc 0x160165520a51ac11 Tt h) (by simp only[Tr.sz_0,Tr.sz_1] at h';exact Nc 0x170175520a1c11 Tt h')
  have hr2:=Zif U r (r.least x) d (by simp only[Tr.sz_0,Tr.sz_1] at h;exact Nc 0x160165520a51ac11 Tt h) (by simp only[Tr.sz_0,Tr.sz_1] at h';exact Nc 0x170175520a1c11 Tt h')
  have b0:execs (Cd (d+4)) (.cons Zty .nil) (S5 (Tr.node y l r).v::S5 x.v::o9) U=S5 (.next,(S5 (Tr.node y l r).v::S5 x.v::o9),U):=Zq (Zn (Zk rfl Zd (Zee (.node y l r) U)) Zi)
  have t1:Zg (Cd (d+4)) (.cmp .v1 (.one .lt (.idx .v0 (.i 0)))) (S5 (Tr.node y l r).v::S5 x.v::o9) U=S5 (.ok (.bool (T3.lt x y)),U):=Zk rfl rfl (Zs8 x y U)
  have t2:Zg (Cd (d+4)) (.cmp .v1 (.one .gt (.idx .v0 (.i 0)))) (S5 (Tr.node y l r).v::S5 x.v::o9) U=S5 (.ok (.bool (T3.lt y x)),U):=Zk rfl rfl (Z0q x y U)
  have t3:Zg (Cd (d+4)) (.cmp (.idx .v0 (.i 1)) (.one .is (.lit V.none))) (S5 (Tr.node y l r).v::S5 x.v::o9) U=S5 (.ok (.bool l.isNil),U):=Zk rfl Zd (Zee l U)
  have t4:Zg (Cd (d+4)) (.cmp (.idx .v0 (.i 2)) (.one .is (.lit V.none))) (S5 (Tr.node y l r).v::S5 x.v::o9) U=S5 (.ok (.bool r.isNil),U):=Zk rfl Zd (Zee r U)
  rw[Tr.del_1]
  by_cases c1:T3.lt x y=T1
  .rw[gp c1]
   rw[c1] at t1
   cases e:Tr.del x l with
   | none=>
    rw[e] at hl
    exact Zcc Zib rfl (Za (X8 b0) (Uw (Z7 t1 (Uw (Zft (Q6 (Ul rfl (Q4 (Zl rfl hl)))))))))
   | some t'=>
    rw[e] at hl
    exact Yu Zib rfl (Za (X8 b0) (Zp (Z7 t1 (Zp (Yr (Zl (Zb rfl (Zb (Zl rfl hl) rfl)) (Zf0 (d+1) y t' r U))))))) (Tr.v_below _ _)
  rw[gq c1]
  have c1':T3.lt x y=F0:=by simpa using c1
  rw[c1'] at t1
  by_cases c2:T3.lt y x=T1
  .rw[gp c2]
   rw[c2] at t2
   cases e:Tr.del x r with
   | none=>
    rw[e] at hr
    exact Zcc Zib rfl (Za (X8 b0) (Za (Zn t1 Zi) (Uw (Z7 t2 (Uw (Zft (Q6 (Ul rfl (Ul rfl (Q4 (Zl rfl hr)))))))))))
   | some t'=>
    rw[e] at hr
    exact Yu Zib rfl (Za (X8 b0) (Za (Zn t1 Zi) (Zp (Z7 t2 (Zp (Yr (Zl (Zb rfl (Zb rfl (Zb (Zl rfl hr) Zj))) (Zf0 (d+1) y l t' U)))))))) (Tr.v_below _ _)
  rw[gq c2]
  have c2':T3.lt y x=F0:=by simpa using c2
  rw[c2'] at t2
  cases hnl:l.isNil with
  | true=>
   rw[hnl] at t3
   exact Yu Zib rfl (Za (X8 b0) (Za (Zn t1 Zi) (Za (Zn t2 Zi) (Zp (Z7 t3 rfl))))) (Tr.v_below _ _)
  | false=>
   rw[hnl] at t3
   cases hnr:r.isNil with
   | true=>
    rw[hnr] at t4
    exact Yu Zib rfl (Za (X8 b0) (Za (Zn t1 Zi) (Za (Zn t2 Zi) (Za (Zn t3 Zi) (Zp (Z7 t4 rfl)))))) (Tr.v_below _ _)
   | false=>
    rw[hnr] at t4
    have hle:=Zql (d+3) r x hnr (by simp only[Tr.sz_0,Tr.sz_1] at h';exact Nc 0x170175520a1c11 Tt h') U
    cases e:Tr.del (r.least x) r with
    | none=>
     rw[e] at hr2
     exact Zcc Zib rfl (Za (X8 b0) (Za (Zn t1 Zi) (Za (Zn t2 Zi) (Za (Zn t3 Zi) (Za (Zn t4 Zi) (Za (Zz (Zl rfl hle) rfl) (Uw (Zft (Q6 (Ul rfl (Ul rfl (Q4 (Zl rfl hr2)))))))))))))
    | some t'=>
     rw[e] at hr2
     exact Yu Zib rfl (Za (X8 b0) (Za (Zn t1 Zi) (Za (Zn t2 Zi) (Za (Zn t3 Zi) (Za (Zn t4 Zi) (Za (Zz (Zl rfl hle) rfl) (Zp (Yr (Zl (Zb rfl (Zb rfl (Zb (Zl rfl hr2) Zj))) (Zf0 (d+1) (r.least x) l t' U)))))))))) (Tr.v_below _ _)
set_option tactic.hygienic false
end
def okT (x:T3):Prop:=-10^60<x.a/\x.a<=x.b/\x.b<10^60/\-10^60<x.c/\x.c<10^60
theorem Tr.ask_len (lo hi:Int):∀t:Tr,(t.ask lo hi).length<=t.sz
 | .nil=>Bp _
 | .node x l r=>by
  have h1:=Tr.ask_len lo hi l
  have h2:=Tr.ask_len lo hi r
  rw[Tr.ask_1]
  split
  .simp
  .split
   .split <;> simp[Tr.sz_0,Tr.sz_1] <;> lia
   .simp[Tr.sz_0,Tr.sz_1];exact Nc 0x1605512a601c11 Tt h1
section
theorem Zqm (d:Nat)(x:T3)(U:H)(ho:okT x):cf (d+3) 3 [.int x.a,.int x.b,.int x.c] U=S5 (.ok x.v,U):=by
 revert ho;refine Zl1 λh1 h2 h3 h4 h5=>?_
 exact Yu fn3 rfl (Za (Y0 (Zl rfl (Zfz (d+1) x.c h4 h5 U))) (Za (Y0 (Zl rfl (Zc7 d x.a x.b h1 h2 h3 U))) rfl)) rfl
def Wd (w n:Nat)(U:H)(t:Tr)(m:Int):Prop:=U[n]?=S5 (.ns [(0,t.v),(1,.int m)])/\U[w]?=S5 (.inst 0 n)
theorem Wd.app {w n:Nat}{τ:H}{t:Tr}{m:Int}(h:Wd w n U t m):Wd w n (U++τ) t m:=⟨Zm h.1,Zm h.2⟩
theorem Wd.ns {w n:Nat}{t:Tr}{m:Int}(h:Wd w n U t m):Zd9 U (.obj w)=S5 (n,[(0,t.v),(1,.int m)]):=by simp only[Zd9,h.2,h.1]
theorem Wd.mt {w n:Nat}{t:Tr}{m:Int}(h:Wd w n U t m)(k:Nat):Za2 pg U (.obj w) k=pg.mt 0 k:=by simp only[Za2,h.2,h.1]
theorem Wd.ne {w n:Nat}{t:Tr}{m:Int}(h:Wd w n U t m):w≠n:=λe=>by have:=h.2;rw[e,h.1] at this;cases this
theorem Wd.set {w n:Nat}{t:Tr}{m:Int}(h:Wd w n U t m)(t':Tr)(m':Int):Wd w n (Yk U n (.ns [(0,t'.v),(1,.int m')])) t' m':=by
 obtain h0:=(Ba.mp h.1).1
 exact ⟨by rw[Yk,Cm h0],by rw[Yk,Dl (λe=>h.ne e.symm)];exact h.2⟩
theorem Zeo {o o':O}{k n:Nat}(h:U[k]?=S5 o)(hn:k≠n):(Yk U n o')[k]?=S5 o:=by rw[Yk,Dl (λe=>hn e.symm)];exact h
set_option tactic.hygienic true in
theorem Zbc (lo hi:Int)(m:Nat):∀(t:Tr) (d:Nat) (U:H) (acc:List V),t.sz<=d->U[m]?=S5 (.list acc)->acc.length+t.sz<Zo->cf (d+1) 15 [t.v,.int lo,.int hi,.obj m] U=S5 (.ok (.int (t.cnt lo hi:Nat)),U.set m (.list (acc++(t.ask lo hi).map T3.v)))
 | .nil,d,U,acc,_,hm,_=>by
  have e:U.set m (.list (acc++((Tr.nil).ask lo hi).map T3.v))=U:=by
   refine byC λXX=>?_;obtain ⟨h1,h2⟩:=Ba.mp hm;apply XX;clear XX
   rw[show acc++((Tr.nil).ask lo hi).map T3.v=acc by simp[Tr.ask_0],← h2,G2]
  rw[e]
  exact Uy Zp8 rfl (X7 (Zp (Z7 (Zyr (Zk rfl Zd (Zee .nil U))) rfl)))
 | .node x l r,0,U,acc,h,_,_=>absurd h (by simp[Tr.sz_0,Tr.sz_1])
 | .node x l r,d+1,U,acc,h,hm,hl=>by
  have hsz:l.sz+r.sz+1=(Tr.node x l r).sz:=rfl
  have t0:Zg (Cd (d+1)) (.cmp (.idx .v0 (.i 4)) (.one .lt .v1)) (S5 (Tr.node x l r).v::S5 (.int lo)::S5 (.int hi)::S5 (.obj m)::o9) U=S5 (.ok (.bool (decide ((Tr.node x l r).rc<lo))),U):=Zk rfl rfl rfl
  have n0:Zg (Cd (d+1)) (.cmp .v0 (.one .is (.lit V.none))) (S5 (Tr.node x l r).v::S5 (.int lo)::S5 (.int hi)::S5 (.obj m)::o9) U=S5 (.ok (.bool F0),U):=Zk rfl Zd (Zee (.node x l r) U)
  rw[Tr.ask_1,Tr.cnt_1]
  by_cases c0:(Tr.node x l r).rc<lo
  .rw[gp c0,gp c0]
   have e:U.set m (.list (acc++([]:List T3).map T3.v))=U:=by
    refine byC λXX=>?_;obtain ⟨h1,h2⟩:=Ba.mp hm;apply XX;clear XX
    rw[show acc++([]:List T3).map T3.v=acc by simp,← h2,G2]
   rw[e]
   rw[decide_eq_true c0] at t0
   exact Uy Zp8 rfl (X7 (Zp (Z7 (Xh n0 t0) rfl)))
  .rw[gq c0,gq c0]
   rw[decide_eq_false c0] at t0
   have hmlt:=(Ba.mp hm).1
   have e1:=Zbc lo hi m l d U acc (Nd 0x16016251a85503a2c111 Tt h hsz) hm (Ni 0x1750127503285514a3c111 Tt hl hsz)
   have hq:(U.set m (.list (acc++(l.ask lo hi).map T3.v)))[m]?=S5 (.list (acc++(l.ask lo hi).map T3.v)):=Cm hmlt
   have hla:(l.ask lo hi).length<=l.sz:=Tr.ask_len lo hi l
   have s1:exec (Cd (d+1)) Ztz (S5 (Tr.node x l r).v::S5 (.int lo)::S5 (.int hi)::S5 (.obj m)::o9) U=S5 (.next,(S5 (Tr.node x l r).v::S5 (.int lo)::S5 (.int hi)::S5 (.obj m)::S5 (.int (1+(l.cnt lo hi:Nat)))::o8),U.set m (.list (acc++(l.ask lo hi).map T3.v))) :=
    Zz (Zh Zd (Zl rfl e1) (Yg _ _ _)) rfl
   by_cases c1:x.a<=hi
   .rw[gp c1,gp c1,show ((1+l.cnt lo hi+r.cnt lo hi:Nat):Int)=1+(l.cnt lo hi:Int)+(r.cnt lo hi:Int) by push_cast;rfl]
    by_cases c2:lo<=x.b
    .rw[gp c2]
     have ha:(U.set m (.list (acc++(l.ask lo hi).map T3.v))).set m (.list (acc++(l.ask lo hi).map T3.v++[x.v]))=U.set m (.list (acc++(l.ask lo hi).map T3.v++[x.v])):=Gg ..
     have happ:Qa .append (.obj m) [x.v] (U.set m (.list (acc++(l.ask lo hi).map T3.v)))=S5 (.none,U.set m (.list (acc++(l.ask lo hi).map T3.v++[x.v]))):=by
      have hlt:(acc++(l.ask lo hi).map T3.v).length<Zo:=by simp;exact Nf 0x1750127503285541da3614c11101 Tt hl hsz hla
      simp only[Qa,Qv,Cf,Zw hq,Zoq,Zc3,gp hlt,Yk,ha]
     have e2:=Zbc lo hi m r d (U.set m (.list (acc++(l.ask lo hi).map T3.v++[x.v]))) (acc++(l.ask lo hi).map T3.v++[x.v]) (Nd 0x16016251a85530a2c111 Tt h hsz) (Cm hmlt) (by simp;exact Nf 0x1755051a23750438551d2a4611dc11101 Tt hl hsz hla)
     rw[Gg] at e2
     refine Uy Zp8 rfl (X7 (Z':=(S5 (Tr.node x l r).v::S5 (.int lo)::S5 (.int hi)::S5 (.obj m)::S5 (.int (1+(l.cnt lo hi:Int)+(r.cnt lo hi:Int)))::o8)) ?_)
     refine Za (Zn (Xh n0 t0) Zi) (Za s1 (Za (Z7 (Zk rfl rfl (leT c1)) (Za (Z7 (Zk rfl rfl (geT c2)) (Zq (Y0 (Wx rfl (Zw hq) rfl happ)))) (Zq (Zz (Zh rfl (Zl rfl e2) (Yg _ _ _)) rfl)))) ?_))
     have e:acc++(l.ask lo hi).map T3.v++[x.v]++(r.ask lo hi).map T3.v=acc++(l.ask lo hi++([x]++r.ask lo hi)).map T3.v:=by simp
     rw[← e]
     exact Zp rfl
    .rw[gq c2]
     have e2:=Zbc lo hi m r d (U.set m (.list (acc++(l.ask lo hi).map T3.v))) (acc++(l.ask lo hi).map T3.v) (Nd 0x16016251a85530a2c111 Tt h hsz) hq (by simp;exact Nf 0x17550123750438551d2a4611dc11101 Tt hl hsz hla)
     rw[Gg] at e2
     refine Uy Zp8 rfl (X7 (Z':=(S5 (Tr.node x l r).v::S5 (.int lo)::S5 (.int hi)::S5 (.obj m)::S5 (.int (1+(l.cnt lo hi:Int)+(r.cnt lo hi:Int)))::o8)) ?_)
     refine Za (Zn (Xh n0 t0) Zi) (Za s1 (Za (Z7 (Zk rfl rfl (leT c1)) (Za (Zn (Zk rfl rfl (geF c2)) Zi) (Zq (Zz (Zh rfl (Zl rfl e2) (Yg _ _ _)) rfl)))) ?_))
     have e:acc++(l.ask lo hi).map T3.v++(r.ask lo hi).map T3.v=acc++(l.ask lo hi++([]++r.ask lo hi)).map T3.v:=by simp
     rw[← e]
     exact Zp rfl
   .rw[gq c1,gq c1,show ((1+l.cnt lo hi+0:Nat):Int)=1+(l.cnt lo hi:Int) by push_cast;rfl]
    refine Uy Zp8 rfl (X7 (Z':=(S5 (Tr.node x l r).v::S5 (.int lo)::S5 (.int hi)::S5 (.obj m)::S5 (.int (1+(l.cnt lo hi:Nat)))::o8)) ?_)
    rw[Cn]
    exact Za (Zn (Xh n0 t0) Zi) (Za s1 (Za (Zn (Zk rfl rfl (leF c1)) Zi) rfl))
theorem Zkd (d:Nat)(lo hi:Int)(hl : -10^60<lo)(hle:lo<=hi)(hh:hi<10^60){w n:Nat}{t:Tr}{m:Int}(hw:Wd w n U t m)(hs:Srt3 t.tl)(hd:t.sz<=d)(hsz:t.sz<1000):cf (d+3) 76 [.obj w,.int lo,.int hi] U=S5 (.ok (.obj U.length),U++[.list ((Qq lo hi t.tl).map T3.v)]):=by
 obtain e:=Zbc lo hi U.length t (d+1) (U++[.list []]) [] (Nb 0x16051a601c11 Tt hd) (by simp) (by simp[Zo];exact Na 0x170f42405e703e83ec11 Tt hsz)
 obtain e2:(U++[O.list []]).set U.length (O.list ([]++(t.ask lo hi).map T3.v))=U++[O.list ((Qq lo hi t.tl).map T3.v)]:=by rw[Tr.ask_hits lo hi t hs];simp
 rw[e2] at e
 refine We Z0a rfl (Z':=(S5 (.obj w)::S5 (.int lo)::S5 (.int hi)::S5 (.obj U.length)::o8)) (t:=[.list ((Qq lo hi t.tl).map T3.v)]) (m:=U.length) (l:=(Qq lo hi t.tl).map T3.v) ?_ (Bp _) (Jv _ _) (by simp)
 exact Za (Y0 (Zl rfl (Zc7 d lo hi hl hle hh U))) (Za (Zz (Uk Zj rfl) rfl) (Za (Y0 (Zl (Zb (X4 rfl (Wd.app hw).ns rfl) rfl) e)) rfl))
theorem Zqn (d:Nat)(lo:Int)(hl : -10^60<lo)(hh:lo<10^60){w n:Nat}{t:Tr}{m:Int}(hw:Wd w n U t m)(hs:Srt3 t.tl)(hd:t.sz<=d)(hsz:t.sz<1000):cf (d+4) 77 [.obj w,.int lo] U=S5 (.ok (.obj U.length),U++[.list ((Qq lo lo t.tl).map T3.v)]) :=
 Uy Z0b rfl (X7 (Zp (Yr (Y2 rfl ((hw.mt 6).trans mt6) rfl (Zkd d lo lo hl (Cb _) hh hw hs hd hsz)))))
theorem Zwt (d:Nat)(x:T3)(ho:okT x){w n:Nat}{t:Tr}{m:Int}(hw:Wd w n U t m)(hd:t.sz<=d):cf (d+5) 71 [.obj w,.int x.a,.int x.b,.int x.c] U=(match Tr.ins x t with
  | some t'=>S5 (.ok .none,Yk U n (.ns [(0,t'.v),(1,.int (m+1))]))
  | none=>S5 (.exc 12,U)):=by
 obtain a1:=X4 (C:=(Cd (d+4))) (Z:=(S5 (.obj w)::S5 (.int x.a)::S5 (.int x.b)::S5 (.int x.c)::o8)) (a:=.var 0) (k:=0) rfl hw.ns rfl
 obtain a2:=Zl (C:=(Cd (d+4))) (Z:=(S5 (.obj w)::S5 (.int x.a)::S5 (.int x.b)::S5 (.int x.c)::o8)) (Zb (a:=.var 1) rfl (Zb (a:=.var 2) rfl (Zb (a:=.var 3) rfl Zj))) (Zqm (d+1) x U ho)
 obtain hi:=Zlj x U t d hd
 cases e:Tr.ins x t with
 | none=>
  rw[e] at hi
  exact Uy Zyn rfl (Zqk (Uw (Zmt (X5 (Q5 (Zb a1 (Zb a2 Zj))) hi))))
 | some t'=>
  rw[e] at hi
  obtain hw2:=hw.set t' m
  refine Uy Zyn rfl (Zie (Z':=(S5 (.obj w)::S5 (.int x.a)::S5 (.int x.b)::S5 (.int x.c)::o8)) (Za (Zbb (X5 (Q5 (Zb a1 (Zb a2 Zj))) hi) rfl hw.ns) ?_))
  obtain s2:=Zbb (C:=(Cd (d+4))) (Z:=(S5 (.obj w)::S5 (.int x.a)::S5 (.int x.b)::S5 (.int x.c)::o8)) (k:=1) (X6 (Zh (op:=.add) (X4 (a:=.var 0) (k:=1) rfl hw2.ns rfl) Zd (Yg m 1 _))) (Zr (i:=0) rfl) hw2.ns
  obtain e2:Yk (Yk U n (.ns [(0,t'.v),(1,.int m)])) n (.ns [(0,t'.v),(1,.int (m+1))])=Yk U n (.ns [(0,t'.v),(1,.int (m+1))]):=Gg ..
  rw[show Yk (Yk U n (.ns [(0,t'.v),(1,.int m)])) (n,[(0,t'.v),(1,V.int m)]).1 (.ns (Zck (n,[(0,t'.v),(1,V.int m)]).2 1 (.int (m+1))))=Yk U n (.ns [(0,t'.v),(1,.int (m+1))]) from e2] at s2
  exact Zq s2
theorem Zs9 (d:Nat)(x:T3)(ho:okT x){w n:Nat}{t:Tr}{m:Int}(hw:Wd w n U t m)(hd:t.sz<=d)(hsz:t.sz<1000):cf (d+5) 72 [.obj w,.int x.a,.int x.b,.int x.c] U=(match Tr.del x t with
  | some t'=>S5 (.ok .none,Yk U n (.ns [(0,t'.v),(1,.int (m-1))]))
  | none=>S5 (.exc 13,U)):=by
 obtain a1:=X4 (C:=(Cd (d+4))) (Z:=(S5 (.obj w)::S5 (.int x.a)::S5 (.int x.b)::S5 (.int x.c)::o8)) (a:=.var 0) (k:=0) rfl hw.ns rfl
 obtain a2:=Zl (C:=(Cd (d+4))) (Z:=(S5 (.obj w)::S5 (.int x.a)::S5 (.int x.b)::S5 (.int x.c)::o8)) (Zb (a:=.var 1) rfl (Zb (a:=.var 2) rfl (Zb (a:=.var 3) rfl Zj))) (Zqm (d+1) x U ho)
 obtain hi:=Zif U t x d hd (by lia)
 cases e:Tr.del x t with
 | none=>
  rw[e] at hi
  exact Uy Zyo rfl (Zqk (Uw (Zmt (X5 (Q5 (Zb a1 (Zb a2 Zj))) hi))))
 | some t'=>
  rw[e] at hi
  obtain hw2:=hw.set t' m
  refine Uy Zyo rfl (Zie (Z':=(S5 (.obj w)::S5 (.int x.a)::S5 (.int x.b)::S5 (.int x.c)::o8)) (Za (Zbb (X5 (Q5 (Zb a1 (Zb a2 Zj))) hi) rfl hw.ns) ?_))
  obtain s2:=Zbb (C:=(Cd (d+4))) (Z:=(S5 (.obj w)::S5 (.int x.a)::S5 (.int x.b)::S5 (.int x.c)::o8)) (k:=1) (X6 (Zh (op:=.sub) (X4 (a:=.var 0) (k:=1) rfl hw2.ns rfl) Zd (Y3 m 1 _))) (Zr (i:=0) rfl) hw2.ns
  obtain e2:Yk (Yk U n (.ns [(0,t'.v),(1,.int m)])) n (.ns [(0,t'.v),(1,.int (m-1))])=Yk U n (.ns [(0,t'.v),(1,.int (m-1))]):=Gg ..
  rw[show Yk (Yk U n (.ns [(0,t'.v),(1,.int m)])) (n,[(0,t'.v),(1,V.int m)]).1 (.ns (Zck (n,[(0,t'.v),(1,V.int m)]).2 1 (.int (m-1))))=Yk U n (.ns [(0,t'.v),(1,.int (m-1))]) from e2] at s2
  exact Zq s2
end
noncomputable def mn (x y:Int):Int:=if y<x then y else x
theorem Zuq (x y:Int):mn x y<=x/\mn x y<=y:=by unfold mn;split <;> lia
theorem Zqo {x y z:Int}(h1:x<=z)(h2:y<=z):mx x y<=z:=by unfold mx;split <;> assumption
theorem Zke (a b:Int):mulOK (a.fmod 20) (b.fmod 3):=by
 refine .inl ?_
 obtain h1:=(Yv a (m:=20) (by exact lin [] (.zlt .k0 (.k 20)) (.d 11) rfl [] [])).1
 obtain h2:=(Yv a (m:=20) (by exact lin [] (.zlt .k0 (.k 20)) (.d 11) rfl [] [])).2
 obtain this:(a.fmod 20).natAbs<20:=Zrj h1 h2
 exact Bv this (by decide)
section
theorem Zig (a:Int){m:Int}(h:0<m):0<=a.fmod m:=(Yv a h).1
theorem Zf1 (a:Int){m:Int}(h:0<m):a.fmod m<m:=(Yv a h).2
theorem Zc8 {r:Nat}{ts:List T3}(hr:U[r]?=S5 (.list (ts.map T3.v)))(hne:0<ts.length)(a:Int):∃x∈ts,Yh U (.obj r) (.int (a.fmod ts.length))=S5 x.v:=by
 obtain h1:=Zig a (m:=ts.length) (by exact ln1 [(.lt .k0 .v0)] (.zlt .k0 (.n .v0)) (.d 111) rfl hne)
 obtain h2:=Zf1 a (m:=ts.length) (by exact ln1 [(.lt .k0 .v0)] (.zlt .k0 (.n .v0)) (.d 111) rfl hne)
 refine rE (λk hk=>?_) (Int.eq_ofNat_of_zero_le h1)
 rw[hk] at h2 ⊢
 obtain hk2:k<ts.length:=by exact ln2 [(.zlt (.n .v0) (.n .v1))] (.lt .v0 .v1) (.d 111) rfl h2
 refine ⟨ts[k],D4 hk2,?_⟩
 rw[Yx hr (k:=k) (by simpa using hk2)]
 simp
theorem Zta (U:H)(x:T3)(a:Int):∃z,Yh U x.v (.int (a.fmod 2))=S5 (.int z):=by
 obtain h1:=Zig a (m:=2) (by exact lin [] (.zlt .k0 (.k 2)) (.d 11) rfl [] [])
 obtain h2:=Zf1 a (m:=2) (by exact lin [] (.zlt .k0 (.k 2)) (.d 11) rfl [] [])
 obtain this:a.fmod 2=0\/a.fmod 2=1:=Ia 0x10d80b80a6b07021ecbba101a11ba11a0101 Tt h1 h2
 rcases this with h | h <;> rw[h]
 .exact ⟨x.a,rfl⟩
 .exact ⟨x.b,rfl⟩
theorem Zcd {r:Nat}{ts:List T3}(hr:U[r]?=S5 (.list (ts.map T3.v))):Uh .len [.obj r] U=S5 (.int ts.length,U):=by
 show (items U (.obj r)).map _=_
 rw[Jt hr];simp
theorem fd (k:Nat)(h:0<k/\k<100000:=by decide):((k:Int))≠0/\((k:Int)).natAbs<2^256:=⟨by exact ln1 [(.an (.lt .k0 .v0) (.lt .v0 (.k 100000)))] (.no (.zeq (.n .v0) .k0)) (.d 1101) rfl h,by obtain this:((k:Int)).natAbs=k:=rfl;rw[this];exact Bv h.2 (by decide)⟩
theorem ml {a b:Int}(h:b.natAbs<2^64):mulOK a b:=.inr (.inl h)
set_option tactic.hygienic true in
theorem Zih (d:Nat)(s:Int){r:Nat}{ts:List T3}(hr:U[r]?=S5 (.list (ts.map T3.v))) :
  ∃lo hi,cf (d+1) 29 [.int s,.obj r] U=S5 (.ok (.tup [.int lo,.int hi]),U)/\-10^60<lo/\lo<=hi/\hi<10^60:=by
 -- the middle row
 obtain mid:∀lo0 hi0 m:Int,∃lo1 hi1 v5,exec (Cd d) Zuf (S5 (.int s)::S5 (.obj r)::S5 (.int lo0)::S5 (.int hi0)::S5 (.int m)::o9) U=S5 (.next,(S5 (.int s)::S5 (.obj r)::S5 (.int lo1)::S5 (.int hi1)::S5 (.int m)::v5::o8),U):=by
  intro lo0 hi0 m
  obtain hlen:=Zcd hr
  obtain l1:∀Z:L,Z[1]?.join=S5 (.obj r)->Zg (Cd d) (.blt .len (.cons .v1 .nil)) Z U=S5 (.ok (.int ts.length),U):=λZ h=>Z9 (Zb (Zr h) Zj) hlen
  by_cases c0:0<ts.length
  .by_cases c1:0<(s.fdiv 2430).fmod 4
   .refine rEA (λx u1_ hx=>?_) (Zc8 hr c0 (s.fdiv 9720))
    refine rEA (λy u1_ hy=>?_) (Zc8 hr c0 ((s*16807).fmod 1000033))
    refine rE (λz hz=>?_) (Zta U x m)
    obtain hc:=Zba (C:=(Cd d)) (Zk (l1 (S5 (.int s)::S5 (.obj r)::S5 (.int lo0)::S5 (.int hi0)::S5 (.int m)::o9) rfl) Zd (gtT (i:=ts.length) (j:=0) (by exact ln1 [(.lt .k0 .v0)] (.zlt .k0 (.n .v0)) (.d 111) rfl c0))) (Zk (Zh (Zh (Zr (i:=0) rfl) Zd (Zt (fd 2430) U)) Zd (Zs (by decide) U)) Zd (gtT c1))
    by_cases c2:(m.fdiv 19200).fmod 3=0
    .refine ⟨_,_,_,Z7 hc (Za (Zz (Zv rfl (Zh (Zh rfl Zd (Zt (fd 9720) U)) (l1 _ rfl) (Zs (by exact ln1 [(.lt .k0 .v0)] (.no (.zeq (.n .v0) .k0)) (.d 1101) rfl c0) U)) hx) rfl) (Za (Zz (Zh (Zh (Zv rfl (Zh rfl Zd (Zs (by decide) U)) hz) (Zh (Zh rfl Zd (Zt (fd 2) U)) Zd (Zs (by decide) U)) (Yg _ _ _)) Zd (Y3 _ _ _)) rfl) (Za (Zz (Zh rfl (Zh (Zh (Zh rfl Zd (Zt (fd 10) U)) Zd (Zs (by decide) U)) (Zh (Zh rfl Zd (Zt (fd 200) U)) Zd (Zs (by decide) U)) (Jy (Zke _ _) U)) (Yg _ _ _)) rfl) (Zq (Z7 (Zk (Zh (Zh rfl Zd (Zt (fd 19200) U)) Zd (Zs (by decide) U)) Zd (eqT c2)) (Zq (Zz (Zh (Zh (Zv (Zv rfl (Zh (Zh (Zh rfl Zd (Jy (ml (by decide)) U)) Zd (Zs (by decide) U)) (l1 _ rfl) (Zs (by exact ln1 [(.lt .k0 .v0)] (.no (.zeq (.n .v0) .k0)) (.d 1101) rfl c0) U)) hy) Zd rfl) (Zh (Zh rfl Zd (Zt (fd 7) U)) Zd (Zs (by decide) U)) (Yg _ _ _)) Zd (Y3 _ _ _)) rfl)))))))⟩
    .refine ⟨_,_,_,Z7 hc (Za (Zz (Zv rfl (Zh (Zh rfl Zd (Zt (fd 9720) U)) (l1 _ rfl) (Zs (by exact ln1 [(.lt .k0 .v0)] (.no (.zeq (.n .v0) .k0)) (.d 1101) rfl c0) U)) hx) rfl) (Za (Zz (Zh (Zh (Zv rfl (Zh rfl Zd (Zs (by decide) U)) hz) (Zh (Zh rfl Zd (Zt (fd 2) U)) Zd (Zs (by decide) U)) (Yg _ _ _)) Zd (Y3 _ _ _)) rfl) (Za (Zz (Zh rfl (Zh (Zh (Zh rfl Zd (Zt (fd 10) U)) Zd (Zs (by decide) U)) (Zh (Zh rfl Zd (Zt (fd 200) U)) Zd (Zs (by decide) U)) (Jy (Zke _ _) U)) (Yg _ _ _)) rfl) (Zq (Zn (Zk (Zh (Zh rfl Zd (Zt (fd 19200) U)) Zd (Zs (by decide) U)) Zd (eqF c2)) Zi)))))⟩
   .obtain hc:=Zba (C:=(Cd d)) (Zk (l1 (S5 (.int s)::S5 (.obj r)::S5 (.int lo0)::S5 (.int hi0)::S5 (.int m)::o9) rfl) Zd (gtT (i:=ts.length) (j:=0) (by exact ln1 [(.lt .k0 .v0)] (.zlt .k0 (.n .v0)) (.d 111) rfl c0))) (Zk (Zh (Zh (Zr (i:=0) rfl) Zd (Zt (fd 2430) U)) Zd (Zs (by decide) U)) Zd (gtF c1))
    exact ⟨_,_,_,Zn hc Zi⟩
  .obtain hc:=Qo (b:=(.cmp (.bin .mod (.bin .fdiv .v0 (.i 2430)) (.i 4)) (.one .gt (.i 0)))) (Zk (l1 (S5 (.int s)::S5 (.obj r)::S5 (.int lo0)::S5 (.int hi0)::S5 (.int m)::o9) rfl) Zd (gtF (i:=ts.length) (j:=0) (by exact ln1 [(.no (.lt .k0 .v0))] (.no (.zlt .k0 (.n .v0))) (.d 111) rfl c0)))
   exact ⟨_,_,_,Zn hc Zi⟩
 refine Zd7 (λlo1 hi1 v5 e3=>?_) (mid (s.fmod 81-40) (s.fmod 81-40+(s.fdiv 81).fmod 30) ((s*69621).fmod 1000003))
 obtain p60:∀Z:L,Zg (Cd d) (.bin .sub (.bin .pow (.i 10) (.i 60)) (.i 1)) Z U=S5 (.ok (.int (10^60-1)),U):=λZ=>Zh (Zh Zd Zd (Uu (by decide) U)) Zd (Y3 _ _ _)
 obtain n60:∀Z:L,Zg (Cd d) (.bin .sub (.i 1) (.bin .pow (.i 10) (.i 60))) Z U=S5 (.ok (.int (1-10^60)),U):=λZ=>Zh Zd (Zh Zd Zd (Uu (by decide) U)) (Y3 _ _ _)
 obtain ⟨lo2,e4⟩ : ∃lo2,exec (Cd d) Zug (S5 (.int s)::S5 (.obj r)::S5 (.int lo1)::S5 (.int hi1)::S5 (.int ((s*69621).fmod 1000003))::v5::o8) U=S5 (.next,(S5 (.int s)::S5 (.obj r)::S5 (.int lo2)::S5 (.int hi1)::S5 (.int ((s*69621).fmod 1000003))::v5::o8),U):=by
  by_cases c:(((s*69621).fmod 1000003).fdiv 600).fmod 32=3
  .exact ⟨_,Z7 (Zk (Zh (Zh rfl Zd (Zt (fd 600) U)) Zd (Zs (by decide) U)) Zd (eqT c)) (Zq (Zz (n60 _) rfl))⟩
  .exact ⟨_,Zn (Zk (Zh (Zh rfl Zd (Zt (fd 600) U)) Zd (Zs (by decide) U)) Zd (eqF c)) Zi⟩
 obtain ⟨hi2,e5⟩ : ∃hi2,exec (Cd d) Zuh (S5 (.int s)::S5 (.obj r)::S5 (.int lo2)::S5 (.int hi1)::S5 (.int ((s*69621).fmod 1000003))::v5::o8) U=S5 (.next,(S5 (.int s)::S5 (.obj r)::S5 (.int lo2)::S5 (.int hi2)::S5 (.int ((s*69621).fmod 1000003))::v5::o8),U):=by
  by_cases c:29<(((s*69621).fmod 1000003).fdiv 600).fmod 32
  .exact ⟨_,Z7 (Zk (Zh (Zh rfl Zd (Zt (fd 600) U)) Zd (Zs (by decide) U)) Zd (gtT c)) (Zq (Zz (p60 _) rfl))⟩
  .exact ⟨_,Zn (Zk (Zh (Zh rfl Zd (Zt (fd 600) U)) Zd (Zs (by decide) U)) Zd (gtF c)) Zi⟩
 refine ⟨mx (1-10^60) (mn lo2 (10^60-1)),mx (mx (1-10^60) (mn lo2 (10^60-1))) (mn hi2 (10^60-1)),?_,?_⟩
 .exact Yu Zzw rfl (Za (Zz (Zh (Zh rfl Zd (Zs (by decide) U)) Zd (Y3 _ _ _)) rfl) (Za (Zz (Zh rfl (Zh (Zh rfl Zd (Zt (fd 81) U)) Zd (Zs (by decide) U)) (Yg _ _ _)) rfl) (Za (Zz (Zh (Zh rfl Zd (Jy (ml (by decide)) U)) Zd (Zs (by decide) U)) rfl) (Za e3 (Za e4 (Za e5 (Za (Zz (Z9 (Zb (n60 _) (Zb (Z9 (Zb rfl (Zb (p60 _) Zj)) rfl) Zj)) rfl) rfl) (Zp (Yr (Xi (Zb rfl (Zb (Z9 (Zb rfl (Zb (Z9 (Zb rfl (Zb (p60 _) Zj)) rfl) Zj)) rfl) Zj)) rfl))))))))))  rfl
 .obtain a1:=Zav (1-10^60) (mn lo2 (10^60-1))
  obtain a2:=Zuq lo2 (10^60-1)
  obtain a3:=Zav (mx (1-10^60) (mn lo2 (10^60-1))) (mn hi2 (10^60-1))
  obtain a4:=Zuq hi2 (10^60-1)
  obtain a5:mx (1-10^60) (mn lo2 (10^60-1))<=10^60-1:=Zqo (by decide) a2.2
  obtain a6:=Zqo a5 a4.2
  exact ⟨Dt (by decide) a1.1,a3.1,Int.lt_of_le_of_lt a6 (by decide)⟩
theorem Zdq {C:Cl}{r u i:Nat}{ts:List T3}{ifs:Es}{lo hi:Int}(hr:U[r]?=S5 (.list (ts.map T3.v)))(h1:Z[i]?.join=S5 (.obj r))(ht:u<Z.length)(hl:ts.length<=1000)
  (hi':∀x:T3,Jo C ifs (Z.set u (S5 x.v)) U=S5 (.ok (decide (x.a<=hi)&&decide (lo<=x.b)),U)):Zg C (.comp (.var u) u (.ex (.var i)) ifs) Z U=S5 (.ok (.obj U.length),U++[.list ((Qq lo hi ts).map T3.v)]):=by
 have:=Ju (C:=C) (elt:=.var u) (tg:=u) (it:=.ex (.var i)) (ifs:=ifs) (Z:=Z) T3.v (λx=>if (decide (x.a<=hi)&&decide (lo<=x.b))=T1 then S5 x.v else N0) (Ux (Zr h1) hr) hr ht (Bc hl (by decide)) λx u_=>Zlh (hi' x) (Zr (by rw[Cm ht];rfl))
 rw[Jz] at this
 exact this
theorem Zkf (lo hi:Int)(ts:List T3):(Qq lo hi ts).length<=ts.length:=I0 _ _
noncomputable def tD (x:T3):aw:=.tuple ([x.a,x.b,x.c].map aw.int)
theorem Zmy (U:H):∀ts:List T3,(ts.map T3.v).mapM (toD 5 U)=S5 (ts.map tD)
 | []=>rfl
 | x::r=>by
  have h1:toD 5 U x.v=S5 (tD x):=Zc6 3 U [x.a,x.b,x.c]
  simp only[Bz,Dn,h1,Zmy U r];rfl
theorem Zkg {n:Nat}{ts:List T3}(h:U[n]?=S5 (.list (ts.map T3.v))):toD 6 U (.obj n)=S5 (.list (ts.map tD)):=by
 show (match U[n]? with
  | some (.list l)=>(l.mapM (toD 5 U)).map aw.list
  | _=>.none)=_
 rw[h]
 show ((ts.map T3.v).mapM (toD 5 U)).map _=_
 rw[Zmy];rfl
theorem Zg5:∀ts:List T3,aw.eqvAll (ts.map tD) (ts.map tD)=T1
 | []=>rfl
 | x::r=>by
  have h1:aw.eqv (tD x) (tD x)=T1:=by
   have:=Zao [x.a,x.b,x.c] [x.a,x.b,x.c]
   simp only[decide_true] at this
   exact this
  simp only[Bz,aw.eqvAll,h1,Zg5 r,Bool.and_self]
theorem Zf2 {i j:Nat}{ts:List T3}(h1:U[i]?=S5 (.list (ts.map T3.v)))(h2:U[j]?=S5 (.list (ts.map T3.v))):eqV U (.obj i) (.obj j)=S5 T1:=by
 unfold eqV
 rw[Zkg h1,Zkg h2]
 obtain this:aw.eqv (.list (ts.map tD)) (.list (ts.map tD))=T1:=Zg5 ts
 show S5 (aw.eqv (.list (ts.map tD)) (.list (ts.map tD)))=_
 rw[this]
theorem Zwu (d:Nat){i j:Nat}{ts:List T3}(h1:U[i]?=S5 (.list (ts.map T3.v)))(h2:U[j]?=S5 (.list (ts.map T3.v)))(hl:ts.length<=2000):cf (d+3) 27 [.obj i,.obj j] U=S5 (.ok (.bool T1),U):=by
 rw[T3.v_tups] at h1 h2
 refine Zg1 d _ (λis h=>?_) (by rw[Bg];exact Bc hl (by decide)) U i j h1 h2
 refine rEA (λx u1_ hO2=>?_) (C0.mp h);refine eqE hO2 ?_
 exact Z0n
theorem gl (U:H)(o:O):(U++[o])[U.length]?=S5 o:=by simp
theorem Zii {i j:Nat}{l l':List V}(h1:U[i]?=S5 (.list l))(h2:U[j]?=S5 (.list l'))(h:(l++l').length<=Zo):Wp .add (.obj i) (.obj j) U=S5 (.obj U.length,U++[.list (l++l')]):=by
 rw[Zs4 (Zw h1) (Zw h2),Wl h]
noncomputable def zT:T3:=⟨0,0,0⟩
theorem Zqp (C:Cl)(Z:L)(U:H):Zg C (.tup (.cons (.i 0) (.cons (.i 0) (.cons (.i 0) .nil)))) Z U=S5 (.ok zT.v,U):=Xi rfl rfl
theorem Zlk (ts:List T3)(x:T3):ts.map T3.v++[x.v]=(ts++[x]).map T3.v:=by simp
end
structure Rw where
 x:T3
 d:Int
 h:Int
 c:Int
noncomputable def Rw.v (r:Rw):V:=.tup [r.x.v,.int r.d,.int r.h,.int r.c]
noncomputable def Tr.rows:Int->Tr->List Rw
 | _,.nil=>[]
 | d,.node x l r=>l.rows (d+1)++⟨x,d,1+mx l.ht r.ht,(Tr.node x l r).rc⟩::r.rows (d+1)
theorem Tr.rows_len:∀(t:Tr) (d:Int),(t.rows d).length=t.sz
 | .nil,_=>rfl
 | .node x l r,d=>by simp only[Tr.rows,Tr.sz,Bq,C5,Tr.rows_len l,Tr.rows_len r];exact Nb 0x185051a5501acba1a1 Tt
theorem Tr.rows_x:∀(t:Tr) (d:Int),(t.rows d).map Rw.x=t.tl
 | .nil,_=>rfl
 | .node x l r,d=>by simp only[Tr.rows,Tr.tl,Cs,Bz,Tr.rows_x l,Tr.rows_x r]
theorem Tr.rows_d:∀(t:Tr) (d:Int),∀w∈t.rows d,d<=w.d
 | .nil,_,w,h=>by cases h
 | .node x l r,d,w,h=>by
  rcases Bm.mp h with h | h
  .have:=Tr.rows_d l (d+1) w h;exact Ib 0x1601650a1c11 Tt this
  .rcases Be.mp h with h | h
   .subst h;exact Cb _
   .have:=Tr.rows_d r (d+1) w h;exact Ib 0x1601650a1c11 Tt this
theorem Zg6 (n:Nat):∀l:List Rw,belows n (l.map Rw.v)=T1
 | []=>rfl
 | w::r=>by simp only[Bz,belows,Zg6 n r,Mi];rfl
section
theorem Zdr (m:Nat):∀(t:Tr) (d:Nat) (k:Int) (U:H) (acc:List V),t.sz<=d->U[m]?=S5 (.list acc)->acc.length+t.sz<Zo->cf (d+1) 14 [t.v,.int k,.obj m] U=S5 (.ok (.obj m),U.set m (.list (acc++(t.rows k).map Rw.v)))
 | .nil,d,k,U,acc,_,hm,_=>by
  have e:U.set m (.list (acc++((Tr.nil).rows k).map Rw.v))=U:=by
   refine byC λXX=>?_;obtain ⟨h1,h2⟩:=Ba.mp hm;apply XX
   rw[show acc++((Tr.nil).rows k).map Rw.v=acc by simp[Tr.rows],← h2,G2]
  rw[e]
  exact Uy Zyh rfl (X7 (Zp (Z7 (Zk rfl Zd (Zee .nil U)) rfl)))
 | .node x l r,0,k,U,acc,h,_,_=>absurd h (by simp[Tr.sz])
 | .node x l r,d+1,k,U,acc,h,hm,hl=>by
  have hsz:l.sz+r.sz+1=(Tr.node x l r).sz:=rfl
  have hmlt:=(Ba.mp hm).1
  have e1:=Zdr m l d (k+1) U acc (Nd 0x16016251a85503a2c111 Tt h hsz) hm (Ni 0x1750127503285514a3c111 Tt hl hsz)
  have hll:=l.rows_len (k+1)
  generalize e2:U.set m (.list (acc++(l.rows (k+1)).map Rw.v))=s1 at e1
  have hq:s1[m]?=S5 (.list (acc++(l.rows (k+1)).map Rw.v)):=e2▸Cm hmlt
  have hmlt1:=(Ba.mp hq).1
  generalize hw:(⟨x,k,1+mx l.ht r.ht,(Tr.node x l r).rc⟩ : Rw)=w
  have happ:Qa .append (.obj m) [w.v] s1=S5 (.none,s1.set m (.list (acc++(l.rows (k+1)).map Rw.v++[w.v]))):=by
   have hlt:(acc++(l.rows (k+1)).map Rw.v).length<Zo:=by rw[Bq,Bg,hll];exact Ni 0x1750127503285514a3c111 Tt hl hsz
   simp only[Qa,Qv,Cf,Zw hq,Zoq,Zc3,gp hlt,Yk]
  have e3:=Zdr m r d (k+1) (s1.set m (.list (acc++(l.rows (k+1)).map Rw.v++[w.v]))) (acc++(l.rows (k+1)).map Rw.v++[w.v]) (by exact Nd 0x16016251a85530a2c111 Tt h hsz) (Cm hmlt1) (by rw[Bq,Bq,Bg,hll,Kv];exact Ni 0x1755501a237504385512a4c111 Tt hl hsz)
  rw[← e2] at e3
  simp only[Gg] at e3
  have ee:acc++(l.rows (k+1)).map Rw.v++[w.v]++(r.rows (k+1)).map Rw.v=acc++((Tr.node x l r).rows k).map Rw.v:=by
   rw[Tr.rows,hw];simp
  rw[ee] at e3
  have e2':s1.set m (.list (acc++(l.rows (k+1)).map Rw.v++[w.v]))=U.set m (.list (acc++(l.rows (k+1)).map Rw.v++[w.v])):=by rw[← e2,Gg]
  rw[e2'] at happ
  subst hw
  refine Uy Zyh rfl (X7 (Z':=(S5 (Tr.node x l r).v::S5 (.int k)::S5 (.obj m)::o8)) ?_)
  exact Za (Zn (Zk rfl Zd (Zee (.node x l r) U)) Zi) (Za (Y0 (Zl rfl e1)) (Za (Y0 (Wx rfl (Zw hq) rfl happ)) (Zp (Yr (Zl rfl e3)))))
theorem Zf3 (d:Nat){w n:Nat}{t:Tr}{m:Int}(hw:Wd w n U t m)(hd:t.sz<=d)(hsz:t.sz<1000):cf (d+2) 84 [.obj w] U=S5 (.ok (.obj U.length),U++[.list ((t.rows 0).map Rw.v)]):=by
 obtain e:=Zdr U.length t d 0 (U++[.list []]) [] hd (gl U _) (by rw[Dy,Dw];exact Bv hsz (by decide))
 obtain e2:(U++[O.list []]).set U.length (O.list ([]++(t.rows 0).map Rw.v))=U++[O.list ((t.rows 0).map Rw.v)]:=by simp
 rw[e2] at e
 exact We Z0i rfl (Zp (Yr (Zl (Zb (X4 rfl hw.ns rfl) (Zb Zd (Zb (Uk Zj rfl) Zj))) e))) (Bp _) (Zg6 _ _) (gl U _)
theorem Zn4 (d:Nat){w n:Nat}{t:Tr}{m:Int}(hw:Wd w n U t m):cf (d+2) 83 [.obj w] U=S5 (.ok (.int t.ht),U) :=
 Yu Z0h rfl (Zp (Yr (Zl (Zb (X4 rfl hw.ns rfl) Zj) (Zmx d t U)))) rfl
theorem Zqq (d:Nat)(lo hi:Int)(hl : -10^60<lo)(hle:lo<=hi)(hh:hi<10^60){w n:Nat}{t:Tr}{m:Int}(hw:Wd w n U t m)(hd:t.sz<=d)(hsz:t.sz<1000):cf (d+3) 78 [.obj w,.int lo,.int hi] U=S5 (.ok (.int (t.cnt lo hi:Nat)),U):=by
 obtain e:=Zbc lo hi U.length t (d+1) (U++[.list []]) [] (by exact Nb 0x16051a601c11 Tt hd) (gl U _) (by rw[Dy,Dw];exact Bv hsz (by decide))
 obtain e2:(U++[O.list []]).set U.length (O.list ([]++(t.ask lo hi).map T3.v))=U++[O.list ((t.ask lo hi).map T3.v)]:=by simp
 rw[e2] at e
 exact Zbz Z0c rfl (Za (Y0 (Zl rfl (Zc7 d lo hi hl hle hh U))) (Zp (Yr (Zl (Zb (X4 rfl hw.ns rfl) (Zb rfl (Zb rfl (Zb (Uk Zj rfl) Zj)))) e)))) rfl
end
set_option tactic.hygienic true in
theorem Zbq {body:L->H->Y}{t:Nat}{keep:H->Prop}(g:Nat->V)(N:Nat)(I:Nat->L->H->Prop)(R:V->L->H->Prop)
  (hs:∀k Z U,k<N->I k Z U->t<Z.length/\((∃Z2 U2,body (Z.set t (S5 (g k))) U=S5 (.next,Z2,U2)/\keep U2/\I (k+1) Z2 U2)\/∃v Z2 U2,body (Z.set t (S5 (g k))) U=S5 (.ret v,Z2,U2)/\R v Z2 U2)) (Z:L) (U:H) (h:I 0 Z U) :
  (∃Z' U',Qw body (.one t) keep ((C6 N).map g) Z U=S5 (.next,Z',U')/\I N Z' U')\/∃v Z' U',Qw body (.one t) keep ((C6 N).map g) Z U=S5 (.ret v,Z',U')/\R v Z' U':=by
 obtain gen:∀(n i:Nat) (Z:L) (U:H),i+n=N->I i Z U->(∃Z' U',Qw body (.one t) keep ((Lz i n).map g) Z U=S5 (.next,Z',U')/\I N Z' U')\/∃v Z' U',Qw body (.one t) keep ((Lz i n).map g) Z U=S5 (.ret v,Z',U')/\R v Z' U':=by
  intro n
  induction n with
  | zero=>intro i Z U e h;rw[Mm] at e;subst e;exact .inl ⟨Z,U,rfl,h⟩
  | succ n ih=>
   intro i Z U e h
   refine rA (λht hh=>?_) (hs i Z U (Nc 0x170185052a1c11 Tt e) h)
   rw[Lx,Bz]
   rcases hh with ⟨Z2,U2,e1,k,h2⟩ | ⟨v,Z2,U2,e1,r⟩
   .rcases ih (i+1) Z2 U2 (Nc 0x18550a1285051a2cba101a11 Tt e) h2 with ⟨Z',U',e2,j⟩ | ⟨v,Z',U',e2,j⟩
    .exact .inl ⟨Z',U',(Xx (Zfx ht) e1 k).trans e2,j⟩
    .exact .inr ⟨v,Z',U',(Xx (Zfx ht) e1 k).trans e2,j⟩
   .exact .inr ⟨v,Z2,U2,Zqh (Zfx ht) e1,r⟩
 rw[L3]
 exact gen N 0 Z U (Dw N) h
theorem Zc9 {C:Cl}{a b:Ex}{x n:Nat}(ha:Zg C a Z U=S5 (.ok (.int (x:Nat)),U))(hb:Zg C b Z U=S5 (.ok (.int ((x+n:Nat):Int)),U))(hx:x+n<=Zo):Wq C (.rng2 a b) Z U=S5 (.ok ⟨(C6 n).map (λk=>V.int ((x:Nat)+(k:Nat))),λu_=>True⟩,U):=by
 refine (Z8 ha).trans ((Z8 hb).trans ?_)
 obtain this:((Zo:Nat):Int)=1000000:=rfl
 obtain h':x+n<=1000000:=hx
 refine (gp (by exact ln3 [(.le (.a .v1 .v2) .v0)] (.an (.an (.zle (.g (.n .v0)) (.n .v1)) (.zle (.n .v1) (.n .v0))) (.an (.zle (.g (.n .v0)) (.n (.a .v1 .v2))) (.zle (.n (.a .v1 .v2)) (.n .v0)))) (.s (.s (.d 11) (.d 111)) (.s (.d 11) (.d 111))) rfl hx)).trans ?_
 obtain e:(((x+n:Nat):Int)-(x:Nat)).toNat=n:=by exact ln3 [(.nt .v0 (.s (.n (.a .v2 .v1)) (.n .v2)))] (.eq .v0 .v1) (.s (.s (.d 11001) (.d 11101)) (.s (.d 1101) (.d 1101))) rfl (W7 _)
 simp only[Zor,e]
set_option tactic.hygienic true in
theorem Zqr {C:Cl}{e:Ex}{t:Tg}{v:V}{Z1:L}(h:Zg C e Z U=S5 (.ok v,U1))(hs:Xn t v Z=S5 Z1):exec C (.asg t e) Z U=S5 (.next,Z1,U1) :=
 (Zen h).trans (by show (Xn t v Z).map _=_;rw[hs];rfl)
def Seg (R:List Rw)(b:Nat)(t:Tr)(d:Int):Prop:=∃pre post,R=pre++t.rows d++post/\pre.length=b
def Qr (x:T3)(l r:Tr)(d:Int):Rw:=⟨x,d,1+mx l.ht r.ht,(Tr.node x l r).rc⟩
theorem Seg.left {R:List Rw}{b:Nat}{x:T3}{l r:Tr}{d:Int}(h:Seg R b (.node x l r) d):Seg R b l (d+1):=by
 revert h;refine Ug λpre post e hb=>?_
 exact ⟨pre,Qr x l r d::r.rows (d+1)++post,by rw[e,Tr.rows];simp[Qr],hb⟩
theorem Seg.right {R:List Rw}{b:Nat}{x:T3}{l r:Tr}{d:Int}(h:Seg R b (.node x l r) d):Seg R (b+l.sz+1) r (d+1):=by
 revert h;refine Ug λpre post e hb=>?_
 exact ⟨pre++l.rows (d+1)++[Qr x l r d],post,by rw[e,Tr.rows];simp[Qr],by simp[hb,Tr.rows_len];exact Nb 0x185051a5501acba1a1 Tt⟩
theorem Seg.root {R:List Rw}{b:Nat}{x:T3}{l r:Tr}{d:Int}(h:Seg R b (.node x l r) d):R[b+l.sz]?=S5 (Qr x l r d):=by
 revert h;refine Ug λpre post e hb=>?_
 rw[e,Tr.rows,← hb]
 rw[Bn,Bh (by exact Nb 0x160501c1 Tt),D8,Bn,Bh (by rw[Tr.rows_len];exact Bp _),Tr.rows_len,Kl]
 rfl
theorem Seg.below {R:List Rw}{b:Nat}{x:T3}{l r:Tr}{d:Int}(h:Seg R b (.node x l r) d){j:Nat}(hj:j<l.sz):∃w,R[b+j]?=S5 w/\d<w.d:=by
 refine Ug (λpre post e hb=>?_) h.left
 have hj':j<(l.rows (d+1)).length:=by rw[Tr.rows_len];exact hj
 refine ⟨(l.rows (d+1))[j],?_,?_⟩
 .rw[e,← hb,Bn,Bh (by exact Nb 0x160501c1 Tt),D8,Br hj',Bl hj']
 .have:=Tr.rows_d l (d+1) _ (D4 hj');exact Ib 0x1701650a1c11 Tt this
theorem Seg.above {R:List Rw}{b:Nat}{x:T3}{l r:Tr}{d:Int}(h:Seg R b (.node x l r) d){j:Nat}(hj:j<r.sz):∃w,R[b+l.sz+1+j]?=S5 w/\d<w.d:=by
 refine Ug (λpre post e hb=>?_) h.right
 have hj':j<(r.rows (d+1)).length:=by rw[Tr.rows_len];exact hj
 refine ⟨(r.rows (d+1))[j],?_,?_⟩
 .rw[e,← hb,Bn,Bh (by exact Nb 0x160501c1 Tt),D8,Br hj',Bl hj']
 .have:=Tr.rows_d r (d+1) _ (D4 hj');exact Ib 0x1701650a1c11 Tt this
theorem Seg.le {R:List Rw}{b:Nat}{t:Tr}{d:Int}(h:Seg R b t d):b+t.sz<=R.length:=by
 revert h;refine Ug λpre post e hb=>?_
 rw[e];simp[Tr.rows_len];exact Nd 0x1650152513820c101 Tt hb
theorem Seg.whole (t:Tr):Seg (t.rows 0) 0 t 0:=⟨[],[],by simp,rfl⟩
theorem Xe {r:Nat}{R:List Rw}(hr:U[r]?=S5 (.list (R.map Rw.v))){k:Nat}{w:Rw}(hk:R[k]?=S5 w){i:Int}(hi:i=k):Yh U (.obj r) (.int i)=S5 w.v:=by
 refine byC λXX=>?_;obtain ⟨h1,h2⟩:=Ba.mp hk;apply XX
 subst hi
 rw[Yx hr (k:=k) (by rw[Bg];exact h1),Cv,h2]
theorem Zds {r:Nat}{R:List Rw}(hr:U[r]?=S5 (.list (R.map Rw.v))):Uh .len [.obj r] U=S5 (.int R.length,U):=by
 show (items U (.obj r)).map _=_
 rw[Jt hr];simp
structure Qe where
 b:Nat
 t:Tr
 d:Int
noncomputable def Qe.v (q:Qe):V:=.tup [.int (q.b:Nat),.int ((q.b+q.t.sz:Nat):Int),.int q.d]
theorem Zqs {r:Nat}{Q:List Qe}(hr:U[r]?=S5 (.list (Q.map Qe.v))):Uh .len [.obj r] U=S5 (.int Q.length,U):=by
 show (items U (.obj r)).map _=_
 rw[Jt hr];simp
section
noncomputable def Zqt (b:Nat):Tr->Int
 | .nil=>-1
 | .node _ l _=>((b+l.sz:Nat):Int)
theorem Ztb (d:Nat){r:Nat}{R:List Rw}(hr:U[r]?=S5 (.list (R.map Rw.v)))(hl:R.length<=1000){b:Nat}{t:Tr}{dep:Int}(sg:Seg R b t dep) :
  cf (d+1) 47 [.obj r,.int (b:Nat),.int ((b+t.sz:Nat):Int),.int dep] U=S5 (.ok (.int (Zqt b t)),U):=by
 obtain hle:=sg.le
 have it:Wq (Cd d) (.rng2 .v1 .v2) (S5 (.obj r)::S5 (.int (b:Nat))::S5 (.int ((b+t.sz:Nat):Int))::S5 (.int dep)::o9) U=S5 (Mini.Internal.R.ok ⟨(C6 t.sz).map (λk=>V.int ((b:Nat)+(k:Nat))),λu_=>True⟩,U):=Zc9 rfl rfl (Bc (Bc hle hl) (by decide))
 cases t with
 | nil=>
  exact Yu Zyl rfl (Za (Z1:=(S5 (.obj r)::S5 (.int (b:Nat))::S5 (.int ((b+Tr.nil.sz:Nat):Int))::S5 (.int dep)::o9)) ((W6 it).trans rfl) rfl) rfl
 | node x l rr=>
  obtain lp:=Zbq (body:=execs (Cd d) (.cons (.ife (.cmp (.idx (.idx .v0 .v4) (.i 1)) (.one .eq .v3)) (.cons (.ret .v4) .nil) .nil) .nil)) (t:=4) (keep:=λu_=>True) (λk=>V.int ((b:Nat)+(k:Nat))) (Tr.node x l rr).sz
   (λk Z τ=>k<=l.sz/\τ=U/\∃v4,Z=(S5 (.obj r)::S5 (.int (b:Nat))::S5 (.int ((b+(Tr.node x l rr).sz:Nat):Int))::S5 (.int dep)::v4::o8)) (λv u_ τ=>v=.int ((b:Nat)+(l.sz:Nat))/\τ=U) (λk Z τ hk ⟨hkl,e,v4,hZ⟩=>by
    subst e;subst hZ
    refine ⟨by show 4<13;decide,?_⟩
    rcases Dc k l.sz with h | h
    .refine rEA (λw hw hd=>?_) (sg.below h)
     exact .inl ⟨_,τ,Zq (Zn (Zk (Zv (Zv rfl rfl (Xe hr hw (by push_cast;rfl))) Zd rfl) rfl (eqF (Ib 0x19801710c101 Tt hd))) Zi),trivial,h,rfl,_,rfl⟩
    .obtain this:k=l.sz:=by exact Nb 0x1801601610cba101a11 Tt hkl h
     subst this
     exact .inr ⟨_,_,τ,Zp (Z7 (Zk (Zv (Zv rfl rfl (Xe hr sg.root (by push_cast;rfl))) Zd rfl) rfl (eqT rfl)) rfl),rfl,rfl⟩)
   (S5 (.obj r)::S5 (.int (b:Nat))::S5 (.int ((b+(Tr.node x l rr).sz:Nat):Int))::S5 (.int dep)::o9) U ⟨C9 _,rfl,N0,rfl⟩
  rcases lp with ⟨Z',U',e,h,_⟩ | ⟨v,Z',U',e,hv,hU⟩
  .simp only[Tr.sz] at h;lia
  .subst hv;subst hU
   obtain this:((b+l.sz:Nat):Int)=(b:Int)+(l.sz:Int):=by push_cast;rfl
   show _=S5 (Mini.Internal.R.ok (V.int ((b+l.sz:Nat):Int)),U')
   rw[this]
   exact Yu Zyl rfl (Zp ((W6 it).trans e)) rfl
noncomputable def Qe.w (q:Qe):Nat:=2*q.t.sz+1
noncomputable def Zf4 (l:List Qe):Nat:=(l.map Qe.w).sum
noncomputable def Zef (lo hi:Int)(l:List Qe):Nat:=(l.map λq=>q.t.cnt lo hi).sum
theorem Zdt (q:Qe)(l:List Qe):Zf4 (q::l)=q.w+Zf4 l:=rfl
theorem Zkh (l l':List Qe):Zf4 (l++l')=Zf4 l+Zf4 l':=by simp[Zf4]
theorem Zn5 (lo hi:Int)(q:Qe)(l:List Qe):Zef lo hi (q::l)=q.t.cnt lo hi+Zef lo hi l:=rfl
theorem Zki (lo hi:Int)(l l':List Qe):Zef lo hi (l++l')=Zef lo hi l+Zef lo hi l':=by simp[Zef]
theorem Zkj:∀l:List Qe,l.length<=Zf4 l
 | []=>Bp _
 | q::l=>by have:=Zkj l;rw[Zdt];simp only[Qe.w,C5];exact Nc 0x1650a5528d1a2602c11 Tt this
noncomputable def lcQ (r:Nat)(lo hi:Int)(rq:Nat)(many:Int)(v4 v5 v6 v7 v8:Option V):L:=(S5 (.obj r)::S5 (.tup [.int lo,.int hi])::S5 (.obj rq)::S5 (.int many)::v4::v5::v6::v7::v8::o8)
structure QI (R:List Rw)(r:Nat)(lo hi:Int)(n tot:Nat)(U:H)(k:Nat)(Z:L)(τ:H):Prop where
 ex:∃(dn rest:List Qe) (many:Nat) (v4 v5 v6 v7 v8:Option V),Z=lcQ r lo hi U.length many v4 v5 v6 v7 v8/\τ=U++[.list ((dn++rest).map Qe.v)]/\dn.length=k/\many+Zef lo hi rest=tot/\k+Zf4 rest<=2*n+1/\∀q∈rest,Seg R q.b q.t q.d
set_option tactic.hygienic true in
theorem Zkk (d:Nat){r:Nat}{R:List Rw}(hr:U[r]?=S5 (.list (R.map Rw.v))){n tot:Nat}(hn:R.length=n)(hl:n<=1000){lo hi:Int}{k:Nat}{τ:H}(h:QI R r lo hi n tot U k Z τ) :
  (∃Z2 U2,execs (Cd (d+1)) R48 (Z.set 4 (S5 (.int (k:Nat)))) τ=S5 (.next,Z2,U2)/\QI R r lo hi n tot U (k+1) Z2 U2)\/∃Z2 U2,execs (Cd (d+1)) R48 (Z.set 4 (S5 (.int (k:Nat)))) τ=S5 (.ret (.int (tot:Nat)),Z2,U2)/\∃τ',U2=U++τ':=by
 refine Za0 (λdn rest many v4 v5 v6 v7 v8 hO8 hO9 hk hc hq hs=>?_) h.ex;refine eqS hO8 ?_;refine eqS hO9 ?_
 obtain g:=gl U (O.list ((dn++rest).map Qe.v))
 have hr':(U++[O.list ((dn++rest).map Qe.v)])[r]?=S5 (.list (R.map Rw.v)):=Zm hr
 obtain hlen:=Zqs g
 cases rest with
 | nil=>
  have hm:many=tot:=by simpa[Zef] using hc
  subst hm
  refine .inr ⟨_,_,Zp (Z7 (Zk rfl (Z9 rfl hlen) (geT (by simp;exact Nb 0x1601801c11 Tt hk))) rfl),_,rfl⟩
 | cons q rest=>
  left
  obtain sq:=hs q Bf
  obtain hge:¬ ((dn++q::rest).length:Int)<=(k:Int):=by simp;exact ln3 [(.eq .v1 .v0)] (.zlt (.n .v0) (.a (.n .v1) (.a (.n .v2) .k1))) (.d 1101) rfl hk
  obtain gi:Yh (U++[O.list ((dn++q::rest).map Qe.v)]) (.obj U.length) (.int (k:Nat))=S5 q.v:=by
   rw[Yx g (k:=k) (by simp;exact Nc 0x1705152a810c101 Tt hk),Cv]
   congr 2
   rw[Ix (by exact Nb 0x1601801c11 Tt hk)]
   simp[hk]
  obtain sp:=Ztb d hr' (Nb 0x1603e83e801613e83ec1101 Tt hn hl) sq
  obtain s1:exec (Cd (d+1)) (.ife (.cmp .v4 (.one .ge (.blt .len (.cons .v2 .nil)))) (.cons (.ret .v3) .nil) .nil) (lcQ r lo hi U.length many (S5 (.int (k:Nat))) v5 v6 v7 v8) (U++[O.list ((dn++q::rest).map Qe.v)])=S5 (.next,lcQ r lo hi U.length many (S5 (.int (k:Nat))) v5 v6 v7 v8,U++[O.list ((dn++q::rest).map Qe.v)]):=Zn (Zk rfl (Z9 rfl hlen) (geF hge)) Zi
  obtain s2:exec (Cd (d+1)) (.asg (.three 5 6 7) (.idx .v2 .v4)) (lcQ r lo hi U.length many (S5 (.int (k:Nat))) v5 v6 v7 v8) (U++[O.list ((dn++q::rest).map Qe.v)])=S5 (.next,lcQ r lo hi U.length many (S5 (.int (k:Nat))) (S5 (.int (q.b:Nat))) (S5 (.int ((q.b+q.t.sz:Nat):Int))) (S5 (.int q.d)) v8,U++[O.list ((dn++q::rest).map Qe.v)]):=Zqr (Zv rfl rfl gi) rfl
  obtain s3:exec (Cd (d+1)) (.asg (.one 8) (.call 47 (.cons .v0 (.cons .v5 (.cons .v6 (.cons .v7 .nil)))))) (lcQ r lo hi U.length many (S5 (.int (k:Nat))) (S5 (.int (q.b:Nat))) (S5 (.int ((q.b+q.t.sz:Nat):Int))) (S5 (.int q.d)) v8) (U++[O.list ((dn++q::rest).map Qe.v)])=S5 (.next,lcQ r lo hi U.length many (S5 (.int (k:Nat))) (S5 (.int (q.b:Nat))) (S5 (.int ((q.b+q.t.sz:Nat):Int))) (S5 (.int q.d)) (S5 (.int (Zqt q.b q.t))),U++[O.list ((dn++q::rest).map Qe.v)]):=Zz (Zl rfl sp) rfl
  rw[Zdt] at hq
  rw[Zn5] at hc
  obtain hdn:(dn++[q]).length=k+1:=by simp[hk]
  have hrest:∀p∈rest,Seg R p.b p.t p.d:=λp hp=>hs p (Bb _ hp)
  obtain happQ:∀(Q:List Qe) (p:Qe),Q.length<=5000->Qa .append (.obj U.length) [p.v] (U++[O.list (Q.map Qe.v)])=S5 (.none,U++[O.list ((Q++[p]).map Qe.v)]):=λQ p hQ=>by
   have:=Zfw (l:=Q.map Qe.v) (by rw[Bg];exact Bx hQ (by decide)) U p.v
   rw[this];simp
  refine byC λXX=>?_;obtain ⟨qb,qt,qd⟩:=q;apply XX;clear XX
  cases qt with
  | nil=>
   refine ⟨_,_,Za s1 (Za s2 (Za s3 (Zq (Zn (Qo (Zk rfl Zd (geF (by show ¬ (0:Int)<=-1;decide)))) Zi)))),⟨dn++[⟨qb,.nil,qd⟩],rest,many,_,_,_,_,_,rfl,by simp,hdn,by simpa[Tr.cnt] using hc,by simp only[Qe.w] at hq;exact Nd 0x16550a1528d2a6505528d3a1528d2ac11 Tt hq,hrest⟩⟩
  | node x l rr=>
   obtain ix:Yh (U++[O.list ((dn++⟨qb,.node x l rr,qd⟩::rest).map Qe.v)]) (.obj r) (.int ((qb+l.sz:Nat):Int))=S5 (Qr x l rr qd).v:=Xe hr' sq.root rfl
   have hcnt:=hc
   obtain c1:Zg (Cd (d+1)) (.cmp .v8 (.one .ge (.i 0))) (lcQ r lo hi U.length many (S5 (.int (k:Nat))) (S5 (.int (qb:Nat))) (S5 (.int ((qb+(Tr.node x l rr).sz:Nat):Int))) (S5 (.int qd)) (S5 (.int ((qb+l.sz:Nat):Int)))) (U++[O.list ((dn++⟨qb,.node x l rr,qd⟩::rest).map Qe.v)])=S5 (.ok (.bool T1),U++[O.list ((dn++⟨qb,.node x l rr,qd⟩::rest).map Qe.v)]):=Zk rfl Zd (geT (by exact ln2 [] (.zle .k0 (.n (.a .v0 .v1))) (.d 11) rfl))
   by_cases hrc:(Tr.node x l rr).rc<lo
   .rw[Tr.cnt,gp hrc,Dw] at hc
    refine ⟨_,_,Za s1 (Za s2 (Za s3 (Zq (Zn (Xm c1 (Zk (Zv (Zv rfl rfl ix) Zd rfl) rfl (geF (by show ¬ lo<=(Tr.node x l rr).rc;exact Ib 0x19601710c11 Tt hrc)))) Zi)))),⟨dn++[⟨qb,.node x l rr,qd⟩],rest,many,_,_,_,_,_,rfl,by simp,hdn,hc,by simp only[Qe.w] at hq;exact Nd 0x16550a1528d2a6505528d3a1528d2ac11 Tt hq,hrest⟩⟩
   .rw[Tr.cnt,gq hrc] at hc
    obtain cnd:=Xm c1 (Zk (op:=.ge) (Zv (Zv (Zr (i:=0) rfl) (Zr (i:=8) rfl) ix) (Zd (v:=.int 3)) (v:=.int (Qr x l rr qd).c) rfl) (Zv (Zr (i:=1) rfl) (Zd (v:=.int 0)) rfl) (geT (show lo<=(Qr x l rr qd).c by show lo<=(Tr.node x l rr).rc;exact Ib 0x16019710c11 Tt hrc)))
    obtain hql:=Zkj rest
    obtain hQ:(dn++⟨qb,.node x l rr,qd⟩::rest).length<=4000:=by simp;simp only[Qe.w] at hq;exact Nf 0x165051afa03e623e83e8036535528d4a1d528d2a611dc121011 Tt hl hk hq hql
    obtain a1:=happQ (dn++⟨qb,.node x l rr,qd⟩::rest) ⟨qb,l,qd+1⟩ (Na 0x16013884e60fa03ec11 Tt hQ)
    generalize eA:U++[O.list ((dn++(⟨qb,.node x l rr,qd⟩ : Qe)::rest++[(⟨qb,l,qd+1⟩ : Qe)]).map Qe.v)]=τ1 at a1
    obtain g1:τ1[U.length]?=S5 (.list ((dn++(⟨qb,.node x l rr,qd⟩ : Qe)::rest++[(⟨qb,l,qd+1⟩ : Qe)]).map Qe.v)):=eA▸gl U _
    obtain hr1:τ1[r]?=S5 (.list (R.map Rw.v)):=eA▸Zm hr
    obtain ix1:Yh τ1 (.obj r) (.int ((qb+l.sz:Nat):Int))=S5 (Qr x l rr qd).v:=Xe hr1 sq.root rfl
    obtain hsz:(Tr.node x l rr).sz=l.sz+rr.sz+1:=rfl
    obtain m1:((many:Int)+1)=((many+1:Nat):Int):=by push_cast;rfl
    by_cases hxa:x.a<=hi
    .rw[gp hxa] at hc
     obtain a2:=happQ (dn++⟨qb,.node x l rr,qd⟩::rest++[⟨qb,l,qd+1⟩]) ⟨qb+l.sz+1,rr,qd+1⟩ (by rw[Bq];simp only[Kv];exact Na 0x1650a13884e60fa03ec11 Tt hQ)
     rw[eA] at a2
     obtain e2:(⟨qb+l.sz+1,rr,qd+1⟩ : Qe).v=.tup [.int (((qb+l.sz:Nat):Int)+1),.int ((qb+(Tr.node x l rr).sz:Nat):Int),.int (qd+1)]:=by
      simp only[Qe.v,hsz];rw[show qb+l.sz+1+rr.sz=qb+(l.sz+rr.sz+1) by exact Nc 0x1855501a2505512acba1a1 Tt];push_cast;rfl
     refine ⟨_,_,Za s1 (Za s2 (Za s3 (Zq (Z7 cnd (Za rfl (Za (Y0 (Wx rfl (Zw g) rfl a1)) (Zq (Z7 (Zk (Zv (Zv (Zv rfl rfl ix1) Zd rfl) Zd rfl) rfl (leT hxa)) (Zq (Y0 (Wx rfl (Zw g1) rfl (e2▸a2)))))))))))),?_⟩
     refine ⟨dn++[⟨qb,.node x l rr,qd⟩],rest++[⟨qb,l,qd+1⟩,⟨qb+l.sz+1,rr,qd+1⟩],many+1,_,_,_,_,_,by rw[m1];rfl,by simp,hdn,?_,?_,λp hp=>?_⟩
     .rw[Zki];simp only[Zef,Bz,Gx,K9,Km] at *;exact Ni 0x18550a515253b4850555a2314cba101a11 Tt hc
     .rw[Zkh];simp only[Zf4,Qe.w,Bz,Gx,K9,Km] at *;exact Nf 0x16550a515528d2a5528d3ab528d4a6505528d1da1528d4a81d5523ac1102 Tt hq hsz
     .rcases Bm.mp hp with hp | hp
      .exact hrest p hp
      .simp only[Be,Dg,or_false] at hp
       rcases hp with rfl | rfl
       .exact sq.left
       .exact sq.right
    .rw[gq hxa] at hc
     refine ⟨_,_,Za s1 (Za s2 (Za s3 (Zq (Z7 cnd (Za rfl (Za (Y0 (Wx rfl (Zw g) rfl a1)) (Zq (Zn (Zk (Zv (Zv (Zv rfl rfl ix1) Zd rfl) Zd rfl) rfl (leF hxa)) Zi)))))))),?_⟩
     refine ⟨dn++[⟨qb,.node x l rr,qd⟩],rest++[⟨qb,l,qd+1⟩],many+1,_,_,_,_,_,by rw[m1];rfl,by rw[← eA];simp,hdn,?_,?_,λp hp=>?_⟩
     .rw[Zki];simp only[Zef,Bz,Gx,K9,Km] at *;exact Nd 0x18550a5152b3850555a2b13cba101a11 Tt hc
     .rw[Zkh];simp only[Zf4,Qe.w,Bz,Gx,K9,Km] at *;exact Nf 0x16550a515528d2ab528d3a6505528d4a1528d3a845521dac1102 Tt hq hsz
     .rcases Bm.mp hp with hp | hp
      .exact hrest p hp
      .simp only[Bo] at hp
       subst hp;exact sq.left
set_option tactic.hygienic true in
theorem Zll (d:Nat){r:Nat}{t:Tr}(hr:U[r]?=S5 (.list ((t.rows 0).map Rw.v)))(hsz:t.sz<1000)(lo hi:Int) :
  cf (d+2) 48 [.obj r,.tup [.int lo,.int hi]] U=S5 (.ok (.int (t.cnt lo hi:Nat)),U):=by
 obtain hl:=t.rows_len 0
 obtain lp := Zbq (body := execs (Cd (d + 1)) R48) (t := 4) (keep := λu_ => True) (λk => V.int (k : Nat)) (2 * t.sz + 1) (QI (t.rows 0) r lo hi t.sz (t.cnt lo hi) U) (λv u_ τ => v = .int (t.cnt lo hi : Nat) /\ ∃ τ', τ = U ++ τ') (λk Z τ hk h => by
   refine ⟨?_,?_⟩
   .refine Zev (λu0_ u1_ u2_ u3_ u4_ u5_ u6_ u7_ hO8 u9_=>?_) h.ex;refine eqS hO8 ?_;show 4<17;decide
   .rcases Zkk d hr hl (Na 0x1603e83e703e83ec11 Tt hsz) h with ⟨Z2,U2,e,i⟩ | ⟨Z2,U2,e,i⟩
    .exact .inl ⟨Z2,U2,e,trivial,i⟩
    .exact .inr ⟨_,Z2,U2,e,rfl,i⟩)
  (lcQ r lo hi U.length 0 N0 N0 N0 N0 N0) (U++[.list (([⟨0,t,0⟩]:List Qe).map Qe.v)]) ⟨⟨[],[⟨0,t,0⟩],0,N0,N0,N0,N0,N0,rfl,rfl,rfl,by simp[Zef],by simp[Zf4,Qe.w],λq hq=>by rw[Bo.mp hq];exact Seg.whole t⟩⟩
 obtain hlen:Uh .len [.obj r] U=S5 (.int (t.sz:Nat),U):=by rw[Zds hr,hl]
 obtain hr1:(U++[O.list (([⟨0,t,0⟩]:List Qe).map Qe.v)])[r]?=S5 (.list ((t.rows 0).map Rw.v)):=Zm hr
 obtain hlen1:Uh .len [.obj r] (U++[O.list (([⟨0,t,0⟩]:List Qe).map Qe.v)])=S5 (.int (t.sz:Nat),U++[O.list (([⟨0,t,0⟩]:List Qe).map Qe.v)]):=by rw[Zds hr1,hl]
 obtain q0:(⟨0,t,0⟩ : Qe).v=.tup [.int 0,.int (t.sz:Nat),.int 0]:=by simp[Qe.v]
 have s0:exec (Cd (d+1)) Zub (S5 (.obj r)::S5 (.tup [.int lo,.int hi])::o15) U=S5 (.next,(S5 (.obj r)::S5 (.tup [.int lo,.int hi])::S5 (.obj U.length)::o14),U++[.list (([⟨0,t,0⟩]:List Qe).map Qe.v)]):=by
  rw[Bz,Gx,q0]
  exact Zz (Uk (Zb (Xi (Zb Zd (Zb (Z9 rfl hlen) rfl)) rfl) Zj) rfl) rfl
 obtain s1:exec (Cd (d+1)) Zuc (S5 (.obj r)::S5 (.tup [.int lo,.int hi])::S5 (.obj U.length)::o14) (U++[.list (([⟨0,t,0⟩]:List Qe).map Qe.v)])=S5 (.next,lcQ r lo hi U.length 0 N0 N0 N0 N0 N0,U++[.list (([⟨0,t,0⟩]:List Qe).map Qe.v)]):=Zz Zd rfl
 have it : Wq (Cd (d + 1)) (.rng1 (.bin .add (.bin .mul (.i 2) (.blt .len (.cons .v0 .nil))) (.i 1))) (lcQ r lo hi U.length 0 N0 N0 N0 N0 N0) (U ++ [.list (([⟨0, t, 0⟩] : List Qe).map Qe.v)]) = S5 (Mini.Internal.R.ok ⟨(C6 (2 * t.sz + 1)).map (λk => V.int (k : Nat)), λu_ => True⟩, U ++ [.list (([⟨0, t, 0⟩] : List Qe).map Qe.v)]) := Zcb (n := 2 * t.sz + 1) (by
   obtain this:((2*t.sz+1:Nat):Int)=2*(t.sz:Int)+1:=by push_cast;rfl
   rw[this]
   exact Zh (Zh Zd (Z9 rfl hlen1) (Jy (.inl (by decide)) _)) Zd (Yg _ _ _)) (by obtain this:(Zo:Nat)=1000000:=rfl;exact Nb 0x16528d0a1703e83e81f42405ec1201 Tt hsz this)
 rcases lp with ⟨Z',U',e,h⟩ | ⟨v,Z',U',e,hv,τ',hU⟩
 .refine byC λXX=>?_;refine Za0 (λdn rest many v4 v5 v6 v7 v8 hO8 hO9 hk hc hq hs=>?_) h.ex;subst hO8;subst hO9;apply XX;clear XX
  have hz:rest=[]:=by
   cases rest with
   | nil=>rfl
   | cons q rest=>rw[Zdt] at hq;simp only[Qe.w] at hq;lia
  subst hz
  obtain hm:many=t.cnt lo hi:=by simpa[Zef] using hc
  subst hm
  exact Zbz Zym rfl (Za s0 (Za s1 (Za ((W6 it).trans e) rfl))) rfl
 .subst hv;subst hU
  exact Zbz Zym rfl (Za s0 (Za s1 (Zp ((W6 it).trans e)))) rfl
end
set_option tactic.hygienic true in
theorem Zmz {a:Int}:∀(l:List Int) (m:Int),(∀x∈l,a<=x)->a<=m->(a=m\/a∈l)->Zaa l m=a
 | [],m,_,_,h=>h.elim (λh=>h.symm) λh=>nomatch h
 | x::r,m,hl,hm,h=>by
  have hx:=hl x Bf
  refine Zmz r _ (λy hy=>hl y (Bb _ hy)) ?_ ?_
  .split
   .exact hx
   .exact hm
  .rcases h with h | h
   .subst h;left;rw[gq (Dh.mpr hx)]
   .rcases Be.mp h with h | h
    .subst h;left
     split
     .rfl
     .rename_i c;exact D9 hm (Dh.mp c)
    .exact .inr h
set_option tactic.hygienic true in
theorem Zm0 {a:Int}:∀(l:List Int) (m:Int),(∀x∈l,x<=a)->m<=a->(a=m\/a∈l)->Q9 l m=a
 | [],m,_,_,h=>h.elim (λh=>h.symm) λh=>nomatch h
 | x::r,m,hl,hm,h=>by
  have hx:=hl x Bf
  refine Zm0 r _ (λy hy=>hl y (Bb _ hy)) ?_ ?_
  .split
   .exact hx
   .exact hm
  .rcases h with h | h
   .subst h;left;rw[gq (Dh.mpr hx)]
   .rcases Be.mp h with h | h
    .subst h;left
     split
     .rfl
     .rename_i c;exact D9 (Dh.mp c) hm
    .exact .inr h
theorem Zyv {n:Nat}{l:List Int}(h:U[n]?=S5 (.list (l.map V.int))){a:Int}(h1:∀x∈l,a<=x)(h2:a∈l):Uh .min [.obj n] U=S5 (.int a,U):=by
 show Ziz Zaa U [.obj n]=_
 cases l with
 | nil=>cases h2
 | cons m r=>
  show ((Yj U (.obj n)).bind Wc).bind _=_
  rw[Zw h]
  show (Wc ((m::r).map V.int)).bind _=_
  rw[Zap]
  show S5 (V.int (Zaa r m),U)=_
  rw[Zmz r m (λx hx=>h1 x (Bb _ hx)) (h1 m Bf) (Be.mp h2)]
theorem Zyw {n:Nat}{l:List Int}(h:U[n]?=S5 (.list (l.map V.int))){a:Int}(h1:∀x∈l,x<=a)(h2:a∈l):Uh .max [.obj n] U=S5 (.int a,U):=by
 show Ziz Q9 U [.obj n]=_
 cases l with
 | nil=>cases h2
 | cons m r=>
  show ((Yj U (.obj n)).bind Wc).bind _=_
  rw[Zw h]
  show (Wc ((m::r).map V.int)).bind _=_
  rw[Zap]
  show S5 (V.int (Q9 r m),U)=_
  rw[Zm0 r m (λx hx=>h1 x (Bb _ hx)) (h1 m Bf) (Be.mp h2)]
theorem Zm1 {α:Type}(g:Nat->α)(m:Nat):∀n,n<=m->(C6 n).filterMap (λk=>if k=m then S5 (g k) else N0)=[]
 | 0,_=>rfl
 | n+1,h=>by
  rw[M8,Kw,Zm1 g m n (Ld h)]
  simp[Ca h]
theorem Zqu {α:Type}(g:Nat->α)(m:Nat):∀n,m<n->(C6 n).filterMap (λk=>if k=m then S5 (g k) else N0)=[g m]
 | 0,h=>absurd h (Da _)
 | n+1,h=>by
  rw[M8,Kw]
  rcases Dc m n with h' | h'
  .rw[Zqu g m n h'];simp[Gc h']
  .obtain rfl:m=n:=Gp (Lh h) h'
   rw[Zm1 g m m (Bp _)];simp
theorem Zaq {n:Nat}{l:List V}(h:U[n]?=S5 (.list l))(hl:l.length<Zo)(x:V):Qa .append (.obj n) [x] U=S5 (.none,U.set n (.list (l++[x]))):=by
 simp only[Qa,Qv,Cf,Zw h,Zoq,Zc3,gp hl,Yk]
theorem Zbd {n m:Nat}{o o':O}(h:U[m]?=S5 o)(hn:n≠m):(U.set n o')[m]?=S5 o:=by rw[Dl hn];exact h
theorem Zlm {n:Nat}{o o':O}(h:U[n]?=S5 o):(U.set n o')[n]?=S5 o':=Cm (Ba.mp h).1
theorem Seg.at_ {R:List Rw}{b:Nat}{x:T3}{l r:Tr}{d:Int}(h:Seg R b (.node x l r) d){j:Nat}(hj:j<(Tr.node x l r).sz):∃w,R[b+j]?=S5 w/\d<=w.d/\(w.d=d↔j=l.sz):=by
 obtain hz:(Tr.node x l r).sz=l.sz+r.sz+1:=rfl
 rcases Dc j l.sz with c | c
 .refine rEA (λw e k=>?_) (h.below c)
  exact ⟨w,e,D6 k,by constructor <;> intro q <;> lia⟩
 .rcases Dc l.sz j with c2 | c2
  .obtain ⟨i,rfl⟩ : ∃i,j=l.sz+1+i:=⟨j-(l.sz+1),by exact Nc 0x180551a2710c2051acbba1001a1101ba10001a10101 Tt c2 (Zc _ _)⟩
   refine rEA (λw e k=>?_) (h.above (j:=i) (Nd 0x1701825531a7553a02c1101 Tt hz hj))
   exact ⟨w,by rw[show b+(l.sz+1+i)=b+l.sz+1+i by exact Nc 0x1850551a255501a2cba1a1 Tt];exact e,D6 k,by constructor <;> intro q <;> lia⟩
  .obtain rfl:j=l.sz:=Gp c2 c
   exact ⟨_,h.root,Cb _,by constructor <;> intro _ <;> rfl⟩
noncomputable def dpt (R:List Rw)(k:Nat):Int:=((R[k]?).map Rw.d).getD 0
theorem Zln {R:List Rw}{k:Nat}{w:Rw}(h:R[k]?=S5 w):dpt R k=w.d:=by unfold dpt;rw[h];rfl
section
theorem Zf5 (d:Nat){r:Nat}{R:List Rw}(hr:U[r]?=S5 (.list (R.map Rw.v)))(hl:R.length<=1000){b:Nat}{t:Tr}{dep:Int}(sg:Seg R b t dep) :
  cf (d+1) 43 [.obj r,.int (b:Nat),.int ((b+t.sz:Nat):Int),.int dep] U=S5 (.ok (.int t.ht),U):=by
 obtain hle:=sg.le
 have it:Wq (Cd d) (.rng2 .v1 .v2) (S5 (.obj r)::S5 (.int (b:Nat))::S5 (.int ((b+t.sz:Nat):Int))::S5 (.int dep)::o9) U=S5 (Mini.Internal.R.ok ⟨(C6 t.sz).map (λk=>V.int ((b:Nat)+(k:Nat))),λu_=>True⟩,U):=Zc9 rfl rfl (Bc (Bc hle hl) (by decide))
 cases t with
 | nil=>
  exact Yu Zyk rfl (Za (Z1:=(S5 (.obj r)::S5 (.int (b:Nat))::S5 (.int ((b+Tr.nil.sz:Nat):Int))::S5 (.int dep)::o9)) ((W6 it).trans rfl) rfl) rfl
 | node x l rr=>
  obtain lp:=Zbq (body:=execs (Cd d) (.cons (.ife (.cmp (.idx (.idx .v0 .v4) (.i 1)) (.one .eq .v3)) (.cons (.ret (.idx (.idx .v0 .v4) (.i 2))) .nil) .nil) .nil)) (t:=4) (keep:=λu_=>True) (λk=>V.int ((b:Nat)+(k:Nat))) (Tr.node x l rr).sz
   (λk Z τ=>k<=l.sz/\τ=U/\∃v4,Z=(S5 (.obj r)::S5 (.int (b:Nat))::S5 (.int ((b+(Tr.node x l rr).sz:Nat):Int))::S5 (.int dep)::v4::o8)) (λv u_ τ=>v=.int (Tr.node x l rr).ht/\τ=U) (λk Z τ hk ⟨hkl,e,v4,hZ⟩=>by
    subst e;subst hZ
    refine ⟨by show 4<13;decide,?_⟩
    rcases Dc k l.sz with h | h
    .refine rEA (λw hw hd=>?_) (sg.below h)
     exact .inl ⟨_,τ,Zq (Zn (Zk (Zv (Zv rfl rfl (Xe hr hw (by push_cast;rfl))) Zd rfl) rfl (eqF (Ib 0x19801710c101 Tt hd))) Zi),trivial,h,rfl,_,rfl⟩
    .obtain this:k=l.sz:=Gp hkl h
     subst this
     exact .inr ⟨_,_,τ,Zp (Z7 (Zk (Zv (Zv rfl rfl (Xe hr sg.root (by push_cast;rfl))) Zd rfl) rfl (eqT rfl)) (Zp (Yr (Zv (Zv rfl rfl (Xe hr sg.root (by push_cast;rfl))) Zd rfl)))),rfl,rfl⟩)
   (S5 (.obj r)::S5 (.int (b:Nat))::S5 (.int ((b+(Tr.node x l rr).sz:Nat):Int))::S5 (.int dep)::o9) U ⟨C9 _,rfl,N0,rfl⟩
  rcases lp with ⟨Z',U',e,h,_⟩ | ⟨v,Z',U',e,hv,hU⟩
  .simp only[Tr.sz] at h;lia
  .subst hv;subst hU
   exact Yu Zyk rfl (Zp ((W6 it).trans e)) rfl
end
noncomputable def Zwv (b:Nat):Tr->Nat
 | .nil=>b
 | .node _ l _=>b+l.sz
def spV (q:Qe):V:=.tup [.int (Zwv q.b q.t:Nat),.int (q.b:Nat),.int ((q.b+q.t.sz:Nat):Int)]
theorem Zg7 (n:Nat):∀l:List Qe,belows n (l.map spV)=T1
 | []=>rfl
 | q::l=>Zat rfl (Zg7 n l)
structure SQ (R:List Rw)(A:Tr->Prop)(q:Qe):Prop where
 sg:Seg R q.b q.t q.d
 ne:q.t.sz≠0
 a:A q.t
noncomputable def Zf6 (l:List Qe):Nat:=(l.map λq=>q.t.sz).sum
theorem Zg8 (q:Qe)(l:List Qe):Zf6 (q::l)=q.t.sz+Zf6 l:=rfl
noncomputable def Qj (l:List Qe)(q:Qe):List Qe:=if q.t.sz=0 then l else l++[q]
theorem Zbr (a l:List Qe)(q:Qe):Qj (a++l) q=a++Qj l q:=by
 unfold Qj;split
 .rfl
 .rw[Bn]
set_option tactic.hygienic true in
theorem Zg9 (l:List Qe)(q:Qe):Zf6 (Qj l q)=Zf6 l+q.t.sz:=by
 unfold Qj;split
 .rename_i h;rw[h,Mm]
 .simp[Zf6]
set_option tactic.hygienic true in
theorem Zha {l:List Qe}{q p:Qe}(h:p∈Qj l q):p∈l\/(p=q/\q.t.sz≠0):=by
 unfold Qj at h;split at h
 .exact .inl h
 .rename_i hn
  rcases Bm.mp h with h | h
  .exact .inl h
  .exact .inr ⟨Bo.mp h,hn⟩
theorem Zn6 (l:List Qe)(q:Qe):(Qj l q).length<=l.length+1:=by
 unfold Qj;split
 .exact K2 _
 .rw[Bq];exact Bp _
theorem Zkl {R:List Rw}{A:Tr->Prop}:∀{l:List Qe},(∀q∈l,SQ R A q)->l.length<=Zf6 l
 | [],_=>Bp _
 | q::l,h=>by
  have h1:=(h q Bf).ne
  have h2:=Zkl (l:=l) λp hp=>h p (Bb _ hp)
  rw[Zg8,C5];exact Nc 0x1650a512602981bcba001a111 Tt h2 h1
set_option tactic.hygienic true in
theorem Zhb {C:Cl}{τ:H}{a i:Nat}{W:List Qe}{q:Qe}{cond te:Ex}(g:τ[a]?=S5 (.list (W.map Qe.v)))(hW:W.length<=5000)(hi:Z[i]?.join=S5 (.obj a))
  (hc:Zg C cond Z τ=S5 (.ok (.bool (decide (q.t.sz≠0))),τ)) (ht:Zg C te Z τ=S5 (.ok q.v,τ)) :
  ∃τ',exec C (.ife cond (.cons (.expr (.mth .append (.var i) (.cons te .nil))) .nil) .nil) Z τ=S5 (.next,Z,τ')/\τ'[a]?=S5 (.list ((Qj W q).map Qe.v))/\∀m o,m≠a->τ[m]?=S5 o->τ'[m]?=S5 o:=by
 by_cases h:q.t.sz=0
 .rw[show decide (q.t.sz≠0)=F0 by simp[h]] at hc
  exact ⟨τ,Zn hc Zi,by unfold Qj;rw[gp h];exact g,λu_ v_ w_ e=>e⟩
 .rw[show decide (q.t.sz≠0)=T1 by simp[h]] at hc
  refine ⟨_,Z7 hc (Zq (Y0 (Wx (Zr hi) (Zw g) (Zb ht Zj) (Zaq g (by rw[Bg];exact Bx hW (by decide)) _)))),?_,λm o hm e=>Zbd e λe'=>hm e'.symm⟩
  rw[Zlm g];unfold Qj;rw[gq h,Cs];rfl
noncomputable def lcS (r a:Nat)(v3 v4 v5 v6 v7:Option V):L:=(S5 (.obj r)::S5 (.obj a)::S5 (.obj (a+1))::v3::v4::v5::v6::v7::o8)
structure SI (R:List Rw)(r:Nat)(A:Tr->Prop)(n:Nat)(U:H)(k:Nat)(Z:L)(τ:H):Prop where
 ex:∃(dn rest sp:List Qe) (v3 v4 v5 v6 v7:Option V),Z=lcS r U.length v3 v4 v5 v6 v7/\τ[U.length]?=S5 (.list ((dn++rest).map Qe.v))/\τ[U.length+1]?=S5 (.list (sp.map spV))/\(∀(n:Nat) o,U[n]?=S5 o->τ[n]?=S5 o)/\dn.length=k/\sp.length=k/\k+Zf6 rest=n/\(∀q∈rest,SQ R A q)/\∀q∈sp,SQ R A q
section
theorem Zn7 {C:Cl}{R:List Rw}{r a:Nat}{τ:H}(hr:τ[r]?=S5 (.list (R.map Rw.v)))(hl:R.length<=1000){qb:Nat}{x:T3}{l rr:Tr}{qd:Int}(sg:Seg R qb (.node x l rr) qd)(v3 v7:Option V) :
  Zg C (.comp .v9 9 (.rng2 .v4 .v5) (.cons (.cmp (.idx (.idx .v0 .v9) (.i 1)) (.one .eq .v6)) .nil)) (lcS r a v3 (S5 (.int (qb:Nat))) (S5 (.int ((qb+(Tr.node x l rr).sz:Nat):Int))) (S5 (.int qd)) v7) τ=S5 (.ok (.obj τ.length),τ++[.list [.int ((qb+l.sz:Nat):Int)]]):=by
 obtain hle:=sg.le
 obtain h:=Ju (C:=C) (elt:=Ex.var 9) (tg:=9) (it:=It.rng2 .v4 .v5) (ifs:=Es.cons (.cmp (.idx (.idx .v0 .v9) (.i 1)) (.one .eq .v6)) .nil) (Z:=lcS r a v3 (S5 (.int (qb:Nat))) (S5 (.int ((qb+(Tr.node x l rr).sz:Nat):Int))) (S5 (.int qd)) v7) (keep:=λu_=>True) (λk=>V.int ((qb:Nat)+(k:Nat))) (λk=>if k=l.sz then S5 (V.int ((qb:Nat)+(k:Nat))) else N0)
  (Zc9 rfl rfl (Bc (Bc hle hl) (by decide))) trivial (By rfl) (by rw[G4];exact Bc (Bc (Bc (Ih _ _) hle) hl) (by decide)) λk hk=>by
   refine Ud (λw hw u2_ hd=>?_) (sg.at_ (Dr.mp hk))
   obtain e:=Zlh (C:=C) (elt:=Ex.var 9) (ifs:=Es.cons (.cmp (.idx (.idx .v0 .v9) (.i 1)) (.one .eq .v6)) .nil) (Z:=(lcS r a v3 (S5 (.int (qb:Nat))) (S5 (.int ((qb+(Tr.node x l rr).sz:Nat):Int))) (S5 (.int qd)) v7).set 9 (S5 (V.int ((qb:Nat)+(k:Nat))))) (U:=τ) (v:=V.int ((qb:Nat)+(k:Nat))) (p:=decide (w.d=qd)) (Zal (Zk (Zv (Zv rfl rfl (Xe hr hw (by push_cast;rfl))) Zd rfl) rfl rfl)) rfl
   rw[e]
   by_cases c:k=l.sz
   .rw[gp c,decide_eq_true (hd.mpr c)];rfl
   .rw[gq c,decide_eq_false λq=>c (hd.mp q)];rfl
 rw[Zqu _ _ _ (show l.sz<(Tr.node x l rr).sz by show l.sz<l.sz+rr.sz+1;exact Nb 0x1705501ac1 Tt)] at h
 rw[h];push_cast;rfl
theorem Zlo {C:Cl}{R:List Rw}{r a:Nat}{τ:H}(hr:τ[r]?=S5 (.list (R.map Rw.v)))(hl:R.length<=1000){qb:Nat}{x:T3}{l rr:Tr}{qd:Int}(sg:Seg R qb (.node x l rr) qd)(v3 v7:Option V) :
  Zg C (.comp (.idx (.idx .v0 .v9) (.i 1)) 9 (.rng2 .v4 .v5) .nil) (lcS r a v3 (S5 (.int (qb:Nat))) (S5 (.int ((qb+(Tr.node x l rr).sz:Nat):Int))) (S5 (.int qd)) v7) τ=S5 (.ok (.obj τ.length),τ++[.list (((C6 (Tr.node x l rr).sz).map λk=>dpt R (qb+k)).map V.int)]):=by
 obtain hle:=sg.le
 obtain h:=Ju (C:=C) (elt:=Ex.idx (.idx .v0 .v9) (.i 1)) (tg:=9) (it:=It.rng2 .v4 .v5) (ifs:=Es.nil) (Z:=lcS r a v3 (S5 (.int (qb:Nat))) (S5 (.int ((qb+(Tr.node x l rr).sz:Nat):Int))) (S5 (.int qd)) v7) (keep:=λu_=>True) (λk=>V.int ((qb:Nat)+(k:Nat))) (λk=>S5 (V.int (dpt R (qb+k))))
  (Zc9 rfl rfl (Bc (Bc hle hl) (by decide))) trivial (By rfl) (by rw[G4];exact Bc (Bc (Bc (Ih _ _) hle) hl) (by decide)) λk hk=>by
   refine Ud (λw hw u2_ u3_=>?_) (sg.at_ (Dr.mp hk))
   rw[Zln hw]
   exact Zqi (α:=Unit) Zfr (Zv (Zv rfl rfl (Xe hr hw (by push_cast;rfl))) Zd rfl)
 rw[De] at h
 rw[h,Cx];rfl
set_option tactic.hygienic true in
theorem Zlp (d:Nat){r:Nat}{R:List Rw}(hr:U[r]?=S5 (.list (R.map Rw.v))){n:Nat}(hn:R.length=n)(hl:n<=1000){A:Tr->Prop}(hA:∀x l r,A (.node x l r)->A l/\A r){k:Nat}(hkn:k<n){τ:H}(h:SI R r A n U k Z τ) :
  ∃Z2 U2,execs (Cd d) R41 (Z.set 3 (S5 (.int (k:Nat)))) τ=S5 (.next,Z2,U2)/\SI R r A n U (k+1) Z2 U2:=by
 refine Qc (λdn rest sp v3 v4 v5 v6 v7 hO8 g1 g2 hold hk hsp hsum hq hs=>?_) h.ex;refine eqS hO8 ?_
 have hrl:=(Ba.mp hr).1
 obtain hr':=hold r _ hr
 cases rest with
 | nil=>simp[Zf6] at hsum;lia
 | cons q rest=>
  obtain hrest:=Zkl (l:=rest) λp hp=>hq p (Bb _ hp)
  refine byC λXX=>?_;obtain ⟨sg,hne,ha⟩:=hq q Bf;apply XX;clear XX
  rw[Zg8] at hsum
  refine byC λXX=>?_;obtain ⟨qb,qt,qd⟩:=q;apply XX;clear XX
  cases qt with
  | nil=>exact absurd rfl hne
  | node x l rr=>
   have hz:(Tr.node x l rr).sz=l.sz+rr.sz+1:=rfl
   have hsum:k+((Tr.node x l rr).sz+Zf6 rest)=n:=hsum
   obtain hge:¬ ((dn++⟨qb,.node x l rr,qd⟩::rest).length:Int)<=(k:Int):=by simp;exact ln3 [(.eq .v1 .v0)] (.zlt (.n .v0) (.a (.n .v1) (.a (.n .v2) .k1))) (.d 1101) rfl hk
   obtain gi:Yh τ (.obj U.length) (.int (k:Nat))=S5 (⟨qb,.node x l rr,qd⟩ : Qe).v:=by
    rw[Yx g1 (k:=k) (by simp;exact Nc 0x1705152a810c101 Tt hk),Cv]
    congr 2
    rw[Ix (by exact Nb 0x1601801c11 Tt hk)]
    simp[hk]
   obtain s0:exec (Cd d) (.ife (.cmp .v3 (.one .ge (.blt .len (.cons .v1 .nil)))) (.cons (.ret (.lit V.none)) .nil) .nil) (lcS r U.length (S5 (.int (k:Nat))) v4 v5 v6 v7) τ=S5 (.next,lcS r U.length (S5 (.int (k:Nat))) v4 v5 v6 v7,τ):=Zn (Zk rfl (Z9 rfl (Zqs g1)) (geF hge)) Zi
   obtain s1:exec (Cd d) (.asg (.three 4 5 6) (.idx .v1 .v3)) (lcS r U.length (S5 (.int (k:Nat))) v4 v5 v6 v7) τ=S5 (.next,lcS r U.length (S5 (.int (k:Nat))) (S5 (.int (qb:Nat))) (S5 (.int ((qb+(Tr.node x l rr).sz:Nat):Int))) (S5 (.int qd)) v7,τ):=Zqr (Zv rfl rfl gi) rfl
   obtain s2:exec (Cd d) (.asg (.one 7) (.comp .v9 9 (.rng2 .v4 .v5) (.cons (.cmp (.idx (.idx .v0 .v9) (.i 1)) (.one .eq .v6)) .nil))) (lcS r U.length (S5 (.int (k:Nat))) (S5 (.int (qb:Nat))) (S5 (.int ((qb+(Tr.node x l rr).sz:Nat):Int))) (S5 (.int qd)) v7) τ=S5 (.next,lcS r U.length (S5 (.int (k:Nat))) (S5 (.int (qb:Nat))) (S5 (.int ((qb+(Tr.node x l rr).sz:Nat):Int))) (S5 (.int qd)) (S5 (.obj τ.length)),τ++[.list [.int ((qb+l.sz:Nat):Int)]]):=Zz (Zn7 hr' (Nb 0x1603e83e801613e83ec1101 Tt hn hl) sg _ _) rfl
   generalize e1:τ++[O.list [.int ((qb+l.sz:Nat):Int)]]=τ1 at s2
   obtain gh:τ1[τ.length]?=S5 (.list [.int ((qb+l.sz:Nat):Int)]):=e1▸gl τ _
   obtain hr1:τ1[r]?=S5 (.list (R.map Rw.v)):=e1▸Zm hr'
   obtain dc:=Zlo (C:=(Cd d)) (a:=U.length) hr1 (Nb 0x1603e83e801613e83ec1101 Tt hn hl) sg (S5 (.int (k:Nat))) (S5 (.obj τ.length))
   obtain hmin := Zyv (gl τ1 (O.list (((C6 (Tr.node x l rr).sz).map λk => dpt R (qb + k)).map V.int))) (a := qd) (λy hy => by
     refine byC λXX=>?_;refine rEA (λj hj hO2=>?_) (C0.mp hy);subst hO2;apply XX;clear XX
     refine Ud (λw hw hd u3_=>?_) (sg.at_ (Dr.mp hj))
     rw[Zln hw];exact hd) (C0.mpr ⟨l.sz,Dr.mpr (by exact Nc 0x1701815502ac101 Tt hz),Zln sg.root⟩)
   generalize e2:τ1++[O.list (((C6 (Tr.node x l rr).sz).map λk=>dpt R (qb+k)).map V.int)]=τ2 at dc hmin
   have up:∀(m:Nat) o,τ[m]?=S5 o->τ2[m]?=S5 o:=λm o h=>e2▸Zm (e1▸Zm h)
   obtain gh2:τ2[τ.length]?=S5 (.list [.int ((qb+l.sz:Nat):Int)]):=e2▸Zm gh
   obtain s3:exec (Cd d) (.ife (.or (.cmp (.blt .len (.cons .v7 .nil)) (.one .ne (.i 1))) (.cmp (.blt .min (.cons (.comp (.idx (.idx .v0 .v9) (.i 1)) 9 (.rng2 .v4 .v5) .nil) .nil)) (.one .ne .v6))) (.cons (.ret (.lit V.none)) .nil) .nil) (lcS r U.length (S5 (.int (k:Nat))) (S5 (.int (qb:Nat))) (S5 (.int ((qb+(Tr.node x l rr).sz:Nat):Int))) (S5 (.int qd)) (S5 (.obj τ.length))) τ1=S5 (.next,lcS r U.length (S5 (.int (k:Nat))) (S5 (.int (qb:Nat))) (S5 (.int ((qb+(Tr.node x l rr).sz:Nat):Int))) (S5 (.int qd)) (S5 (.obj τ.length)),τ2):=Zn (Xh (Zk (Z9 rfl (by show (items τ1 (.obj τ.length)).map _=_;rw[Jt gh];rfl)) Zd (neF rfl)) (Zk (Z9 (Zb dc Zj) hmin) rfl (neF rfl))) Zi
   have hat:∀{τ':H},τ'[τ.length]?=S5 (.list [.int ((qb+l.sz:Nat):Int)])->Yh τ' (.obj τ.length) (.int 0)=S5 (.int ((qb+l.sz:Nat):Int)):=λh=>Yx h (k:=0) M7
   have g2':=up _ _ g2
   obtain s4:exec (Cd d) (.expr (.mth .append .v2 (.cons (.tup (.cons (.idx .v7 (.i 0)) (.cons .v4 (.cons .v5 .nil)))) .nil))) (lcS r U.length (S5 (.int (k:Nat))) (S5 (.int (qb:Nat))) (S5 (.int ((qb+(Tr.node x l rr).sz:Nat):Int))) (S5 (.int qd)) (S5 (.obj τ.length))) τ2=S5 (.next,lcS r U.length (S5 (.int (k:Nat))) (S5 (.int (qb:Nat))) (S5 (.int ((qb+(Tr.node x l rr).sz:Nat):Int))) (S5 (.int qd)) (S5 (.obj τ.length)),τ2.set (U.length+1) (.list (sp.map spV++[spV ⟨qb,.node x l rr,qd⟩]))):=Y0 (Wx rfl (Zw g2') (Zb (Xi (Zb (Zv rfl Zd (hat gh2)) rfl) rfl) Zj) (Zaq g2' (by rw[Bg,hsp];exact C2 hkn (Bc hl (by decide))) _))
   obtain tl:U.length+1<τ.length:=(Ba.mp g2).1
   generalize e3:τ2.set (U.length+1) (.list (sp.map spV++[spV ⟨qb,.node x l rr,qd⟩]))=τ3 at s4
   have u3:∀(m:Nat) o,m≠U.length+1->τ2[m]?=S5 o->τ3[m]?=S5 o:=λm o hm h=>e3▸Zbd h λe=>hm e.symm
   obtain g13:=u3 _ _ (Ca (Cu _)) (up _ _ g1)
   obtain g23:τ3[U.length+1]?=S5 (.list (sp.map spV++[spV ⟨qb,.node x l rr,qd⟩])):=e3▸Zlm g2'
   have gh3:=u3 _ _ (Gc tl) gh2
   obtain hWl:(dn++(⟨qb,.node x l rr,qd⟩ : Qe)::rest).length<=3000:=by simp;exact Nf 0x165051abb83e623e83e80361485351d42c111011 Tt hl hk hrest hsum
   obtain ⟨τ4,s5,g14,u4⟩:=Zhb (C:=(Cd d)) (i:=1) (Z:=lcS r U.length (S5 (.int (k:Nat))) (S5 (.int (qb:Nat))) (S5 (.int ((qb+(Tr.node x l rr).sz:Nat):Int))) (S5 (.int qd)) (S5 (.obj τ.length))) (q:=⟨qb,l,qd+1⟩) (cond:=Ex.cmp .v4 (.one .lt (.idx .v7 (.i 0)))) (te:=Ex.tup (.cons .v4 (.cons (.idx .v7 (.i 0)) (.cons (.bin .add .v6 (.i 1)) .nil)))) g13 (Bc hWl (by decide)) rfl
    (Zk rfl (Zv rfl Zd (hat gh3)) (congrArg S5 (decide_eq_decide.mpr arC))) (Xi (Zb rfl (Zb (Zv rfl Zd (hat gh3)) rfl)) rfl)
   obtain gh4:=u4 _ _ (Gc (Iy tl)) gh3
   obtain hpl:=Zn6 (dn++(⟨qb,.node x l rr,qd⟩ : Qe)::rest) ⟨qb,l,qd+1⟩
   obtain ⟨τ5,s6,g15,u5⟩:=Zhb (C:=(Cd d)) (i:=1) (Z:=lcS r U.length (S5 (.int (k:Nat))) (S5 (.int (qb:Nat))) (S5 (.int ((qb+(Tr.node x l rr).sz:Nat):Int))) (S5 (.int qd)) (S5 (.obj τ.length))) (q:=⟨qb+l.sz+1,rr,qd+1⟩) (cond:=Ex.cmp (.bin .add (.idx .v7 (.i 0)) (.i 1)) (.one .lt .v5)) (te:=Ex.tup (.cons (.bin .add (.idx .v7 (.i 0)) (.i 1)) (.cons .v5 (.cons (.bin .add .v6 (.i 1)) .nil)))) g14 (Nb 0x16013884e61bb83e6051ac111 Tt hWl hpl) rfl
    (Zk (Zh (Zv rfl Zd (hat gh4)) Zd (Yg _ _ _)) rfl (congrArg S5 (decide_eq_decide.mpr (by rw[hz];exact arD))))
    (by
     obtain e9:(⟨qb+l.sz+1,rr,qd+1⟩ : Qe).v=.tup [.int (((qb+l.sz:Nat):Int)+1),.int ((qb+(Tr.node x l rr).sz:Nat):Int),.int (qd+1)]:=by
      simp only[Qe.v,hz];rw[show qb+l.sz+1+rr.sz=qb+(l.sz+rr.sz+1) by exact Nc 0x1855501a2505512acba1a1 Tt];push_cast;rfl
     rw[e9]
     exact Xi (Zb (Zh (Zv rfl Zd (hat gh4)) Zd (Yg _ _ _)) rfl) rfl)
   rw[Zbr,show ((⟨qb,.node x l rr,qd⟩ : Qe)::rest)=[⟨qb,.node x l rr,qd⟩]++rest from rfl,Zbr,Zbr,Zbr,← Bn] at g15
   obtain hAA:=hA x l rr ha
   refine ⟨_,τ5,Za s0 (Za s1 (Za s2 (Za s3 (Za s4 (Za s5 (Zq s6)))))),⟨dn++[⟨qb,.node x l rr,qd⟩],Qj (Qj rest ⟨qb,l,qd+1⟩) ⟨qb+l.sz+1,rr,qd+1⟩,sp++[⟨qb,.node x l rr,qd⟩],_,_,_,_,_,rfl,g15,?_,λm o hm=>?_,by simp[hk],by simp[hsp],?_,λp hp=>?_,λp hp=>?_⟩⟩
   .rw[Cs];exact u5 _ _ (Gc (Cu _)) (u4 _ _ (Gc (Cu _)) g23)
   .have hml:=(Ba.mp hm).1
    exact u5 _ _ (Nb 0x19801701c011 Tt hml) (u4 _ _ (Nb 0x19801701c011 Tt hml) (u3 _ _ (Nb 0x198051a701c011 Tt hml) (up _ _ (hold m o hm))))
   .rw[Zg9,Zg9];show k+1+(Zf6 rest+l.sz+rr.sz)=n;exact Nf 0x18550a55123481d5523a85051d14cba11001a1011 Tt hz hsum
   .rcases Zha hp with hp | ⟨rfl,h0⟩
    .rcases Zha hp with hp | ⟨rfl,h0⟩
     .exact hq p (Bb _ hp)
     .exact ⟨sg.left,h0,hAA.1⟩
    .exact ⟨sg.right,h0,hAA.2⟩
   .rcases Bm.mp hp with hp | hp
    .exact hs p hp
    .rw[Bo.mp hp];exact ⟨sg,hne,ha⟩
end
theorem Zda:∀{a b:H},(∀(n:Nat) o,a[n]?=S5 o->b[n]?=S5 o)->∃τ,b=a++τ
 | [],b,_=>⟨b,rfl⟩
 | x::a,[],h=>by have:=h 0 x rfl;exact nn this
 | x::a,y::b,h=>by
  have h0:=h 0 x rfl
  refine siE h0 ?_
  refine rE (λτ e=>?_) (Zda (a:=a) (b:=b) λn o hn=>h (n+1) o hn)
  exact ⟨τ,by rw[e];rfl⟩
set_option tactic.hygienic true in
theorem Zqv (d:Nat){r:Nat}{t:Tr}{A:Tr->Prop}(hA:∀x l r,A (.node x l r)->A l/\A r)(hr:U[r]?=S5 (.list ((t.rows 0).map Rw.v)))(hsz:t.sz<1000)(ha:A t) :
  ∃sp:List Qe,cf (d+1) 41 [.obj r] U=S5 (.ok (.obj U.length),U++[.list (sp.map spV)])/\∀q∈sp,SQ (t.rows 0) A q:=by
 have hl:=t.rows_len 0
 obtain hlen:Uh .len [.obj r] U=S5 (.int (t.sz:Nat),U):=by rw[Zds hr,hl]
 obtain q0:(⟨0,t,0⟩ : Qe).v=.tup [.int 0,.int (t.sz:Nat),.int 0]:=by simp[Qe.v]
 obtain s0:exec (Cd d) Zt9 (S5 (.obj r)::o15) U=S5 (.next,(S5 (.obj r)::S5 (.obj U.length)::o14),U++[.list (([⟨0,t,0⟩]:List Qe).map Qe.v)]):=by
  rw[Bz,Gx,q0]
  exact Zz (Uk (Zb (Xi (Zb Zd (Zb (Z9 rfl hlen) rfl)) rfl) Zj) rfl) rfl
 generalize e1:U++[O.list (([⟨0,t,0⟩]:List Qe).map Qe.v)]=τ1 at s0
 obtain l1:τ1.length=U.length+1:=by rw[← e1];simp
 obtain s1:exec (Cd d) Zua (S5 (.obj r)::S5 (.obj U.length)::o14) τ1=S5 (.next,lcS r U.length N0 N0 N0 N0 N0,τ1++[.list []]):=by
  have:=Zz (C:=(Cd d)) (Z:=(S5 (.obj r)::S5 (.obj U.length)::o14)) (i:=2) (Uk (U:=τ1) Zj rfl) rfl
  rw[l1] at this
  exact this
 obtain g1:(τ1++[O.list []])[U.length]?=S5 (.list (([]++[(⟨0,t,0⟩ : Qe)]).map Qe.v)):=Zm (e1▸gl U _)
 have g2:(τ1++[O.list []])[U.length+1]?=S5 (.list (([]:List Qe).map spV)):=l1▸gl τ1 _
 generalize e2:τ1++[O.list []]=τ2 at s1 g1 g2
 have hold:∀(n:Nat) o,U[n]?=S5 o->τ2[n]?=S5 o:=λn o h=>e2▸Zm (e1▸Zm h)
 obtain hlen2:Uh .len [.obj r] τ2=S5 (.int (t.sz:Nat),τ2):=by rw[Zds (hold r _ hr),hl]
 obtain it:Wq (Cd d) (.rng1 (.blt .len (.cons .v0 .nil))) (lcS r U.length N0 N0 N0 N0 N0) τ2=S5 (Mini.Internal.R.ok ⟨(C6 t.sz).map (λk=>V.int (k:Nat)),λu_=>True⟩,τ2):=Zcb (Z9 rfl hlen2) (Bc (C1 hsz) (by decide))
 have fin:∀{Z':L}{τ:H}{sp:List Qe},Z'[2]?.join=S5 (.obj (U.length+1))->Qw (execs (Cd d) R41) (.one 3) (λu_=>True) ((C6 t.sz).map (λk=>V.int (k:Nat))) (lcS r U.length N0 N0 N0 N0 N0) τ2=S5 (.next,Z',τ)->τ[U.length+1]?=S5 (.list (sp.map spV))->(∀(n:Nat) o,U[n]?=S5 o->τ[n]?=S5 o)->cf (d+1) 41 [.obj r] U=S5 (.ok (.obj U.length),U++[.list (sp.map spV)]):=λh2 e g ho=>by
  refine byC λXX=>?_;refine rE (λext hO1=>?_) (Zda ho);subst hO1;apply XX;clear XX
  exact We Zzz rfl (Za s0 (Za s1 (Za ((W6 it).trans e) (Zp (Yr (Zr h2)))))) (K2 _) (Zg7 _ _) g
 by_cases hz:t.sz=0
 .rw[hz] at fin
  exact ⟨[],fin rfl rfl g2 hold,λq hq=>nomatch hq⟩
 .obtain lp := Zbq (body := execs (Cd d) R41) (t := 3) (keep := λu_ => True) (λk => V.int (k : Nat)) t.sz (SI (t.rows 0) r A t.sz U) (λu_ v_ w_ => False) (λk Z τ hk h => by
    refine ⟨?_,.inl ?_⟩
    .refine Zev (λu0_ u1_ u2_ u3_ u4_ u5_ u6_ u7_ hO8 u9_=>?_) h.ex;refine eqS hO8 ?_
     show 3<16;decide
    .refine Ug (λZ2 U2 e i=>?_) (Zlp d hr hl (C1 hsz) hA hk h)
     exact ⟨Z2,U2,e,trivial,i⟩)
   (lcS r U.length N0 N0 N0 N0 N0) τ2 ⟨[],[⟨0,t,0⟩],[],N0,N0,N0,N0,N0,rfl,g1,g2,hold,rfl,rfl,by simp[Zf6],λq hq=>by rw[Bo.mp hq];exact ⟨Seg.whole t,hz,ha⟩,λq hq=>nomatch hq⟩
  rcases lp with ⟨Z',τ,e,h⟩ | ⟨_,_,_,_,f⟩
  .refine byC λXX=>?_;refine Qc (λdn rest sp v3 v4 v5 v6 v7 hO8 u9_ h2 ho u12_ u13_ u14_ u15_ hs=>?_) h.ex;subst hO8;apply XX;clear XX
   exact ⟨sp,fin rfl e h2 ho,hs⟩
  .exact f.elim
theorem Ztc {n:Nat}{l:List V}(h:U[n]?=S5 (.list l)):Uh .isinstance [.obj n,.ty 3] U=S5 (.bool T1,U):=by
 show ((U[n]?).bind λo=>Zop o 3).map _=_
 rw[h];rfl
set_option tactic.hygienic true in
theorem Zij {α:Type}{body:L->H->Y}{t:Tg}{keep:H->Prop}(g:α->V)(I:L->H->Prop):∀(xs:List α),(∀x∈xs,∀Z U,I Z U->∃Z1 Z2 U2,Xn t (g x) Z=S5 Z1/\body Z1 U=S5 (.next,Z2,U2)/\keep U2/\I Z2 U2)->∀Z U,I Z U->∃Z' U',Qw body t keep (xs.map g) Z U=S5 (.next,Z',U')/\I Z' U'
 | [],_,Z,U,h=>⟨Z,U,rfl,h⟩
 | x::xs,hs,Z,U,h=>by
  refine Xp (λZ1 Z2 U2 h1 h2 h3 h4=>?_) (hs x Bf Z U h)
  refine Ug (λZ' U' e1 e2=>?_) (Zij g I xs (λy hy=>hs y (Bb _ hy)) Z2 U2 h4)
  exact ⟨Z',U',(Xx h1 h2 h3).trans e1,e2⟩
theorem Zww {C:Cl}{t:Tg}{it:It}{b:Ss}{src:Src}(h:Wq C it Z U=S5 (.ok src,U1)):exec C (.for_ t it b) Z U=Qw (execs C b) t src.keep src.vs Z U1:=Xd h
theorem Tr.rc_mem:∀(t:Tr),t.sz≠0->∃x∈t.tl,x.b=t.rc
 | .nil,h=>absurd rfl h
 | .node y l r,_=>by
  have hl:=Tr.rc_mem l;have hr:=Tr.rc_mem r
  have nl:l.isNil=F0->l.sz≠0:=λh e=>by cases l with
   | nil=>cases h
   | node _ _ _=>cases e
  have nr:r.isNil=F0->r.sz≠0:=λh e=>by cases r with
   | nil=>cases h
   | node _ _ _=>cases e
  have ha:∃x∈l.tl++[y],x.b=(if l.isNil then y.b else mx y.b l.rc):=by
   cases h:l.isNil with
   | true=>exact ⟨y,by simp,rfl⟩
   | false=>
    refine rEA (λx hx e=>?_) (hl (nl h))
    rw[gq (by decide)]
    unfold mx;split
    .exact ⟨x,C7 _ hx,e⟩
    .exact ⟨y,by simp,rfl⟩
  show ∃x∈l.tl++y::r.tl,x.b=(if r.isNil then (if l.isNil then y.b else mx y.b l.rc) else mx (if l.isNil then y.b else mx y.b l.rc) r.rc)
  revert ha;refine rEA λx hx e=>?_
  have hx':x∈l.tl++y::r.tl:=by
   rcases Bm.mp hx with h | h
   .exact C7 _ h
   .rw[Bo.mp h];simp
  cases h:r.isNil with
  | true=>exact ⟨x,hx',e⟩
  | false=>
   refine rEA (λz hz ez=>?_) (hr (nr h))
   rw[gq (by decide),← e]
   unfold mx;split
   .exact ⟨z,Ce _ (Bb _ hz),ez⟩
   .exact ⟨x,hx',rfl⟩
theorem Seg.kept {t:Tr}{b:Nat}{s:Tr}{d:Int}(h:Seg (t.rows 0) b s d){k:Nat}(hk:k<s.sz):t.tl[b+k]?=s.tl[k]?:=by
 revert h;refine Ug λpre post e hb=>?_
 obtain e2:t.tl=pre.map Rw.x++s.tl++post.map Rw.x:=by rw[← Tr.rows_x t 0,e,Cs,Cs,Tr.rows_x]
 obtain hl:k<s.tl.length:=by rw[Tr.sz_tl];exact hk
 rw[e2,Bn,Bh (by rw[Bg];exact Nc 0x160512801c11 Tt hb),Bg,hb,D8,Br hl]
noncomputable def Tr.has (x:T3):Tr->Bool
 | .nil=>F0
 | .node y l r=>if x=y then T1 else if T3.lt x y=T1 then l.has x else r.has x
theorem Tr.has_mem (x:T3):∀t:Tr,Srt3 t.tl->t.has x=decide (x∈t.tl)
 | .nil,_=>rfl
 | .node y l r,h=>by
  refine X0 (λh1 h2 h3 h4=>?_) (Srt3.node.mp (show Srt3 (l.tl++y::r.tl) from h))
  have il:=Tr.has_mem x l h1
  have ir:=Tr.has_mem x r h2
  show (if x=y then T1 else if T3.lt x y=T1 then l.has x else r.has x)=decide (x∈l.tl++y::r.tl)
  by_cases e:x=y
  .rw[gp e];symm;rw[decide_eq_true_iff];rw[e];simp
  .rw[gq e]
   by_cases c:T3.lt x y=T1
   .rw[gp c,il]
    refine decide_eq_decide.mpr ⟨λq=>C7 _ q,λq=>?_⟩
    rcases Bm.mp q with q | q
    .exact q
    .rcases Be.mp q with q | q
     .exact absurd q e
     .exact absurd (T3.lt_trans c (h4 x q)) (T3.lt_irr x)
   .rw[gq c,ir]
    refine decide_eq_decide.mpr ⟨λq=>Ce _ (Bb _ q),λq=>?_⟩
    rcases Bm.mp q with q | q
    .exact absurd (h3 x q) c
    .rcases Be.mp q with q | q
     .exact absurd q e
     .exact q
set_option tactic.hygienic true in
theorem Zf7 (C:Cl)(U:H)(x:T3):∀(t:Tr) (n:Nat),t.sz<n->∃Z',Xl (Zg C T13) (execs C R13) n (S5 t.v::S5 x.v::o8) U=S5 (if t.has x=T1 then .ret (.bool T1) else .next,Z',U)
 | _,0,h=>absurd h (Da _)
 | .nil,n+1,_=>by
  have t1:Zg C T13 (S5 Tr.nil.v::S5 x.v::o8) U=S5 (.ok (.bool F0),U):=Zk rfl Zd (Zli .nil U)
  exact ⟨_,Zdo t1⟩
 | .node y l r,n+1,h=>by
  have hz:(Tr.node y l r).sz=l.sz+r.sz+1:=rfl
  have t1:Zg C T13 (S5 (Tr.node y l r).v::S5 x.v::o8) U=S5 (.ok (.bool T1),U):=Zk rfl Zd (Zli (.node y l r) U)
  have t2:Zg C (.cmp .v1 (.one .eq (.idx .v0 (.i 0)))) (S5 (Tr.node y l r).v::S5 x.v::o8) U=S5 (.ok (.bool (decide (x=y))),U):=Zk rfl rfl (Zws x y U)
  have t3:Zg C (.cmp .v1 (.one .lt (.idx .v0 (.i 0)))) (S5 (Tr.node y l r).v::S5 x.v::o8) U=S5 (.ok (.bool (T3.lt x y)),U):=Zk rfl rfl (Zs8 x y U)
  by_cases e:x=y
  .rw[decide_eq_true e] at t2
   have b1:execs C R13 (S5 (Tr.node y l r).v::S5 x.v::o8) U=S5 (.ret (.bool T1),(S5 (Tr.node y l r).v::S5 x.v::o8),U):=Zp (Z7 t2 rfl)
   exact ⟨_,by rw[Zn2 t1 b1,show (Tr.node y l r).has x=T1 by unfold Tr.has;rw[gp e]];rfl⟩
  .rw[decide_eq_false e] at t2
   by_cases c:T3.lt x y=T1
   .rw[c] at t3
    have b1:execs C R13 (S5 (Tr.node y l r).v::S5 x.v::o8) U=S5 (.next,(S5 l.v::S5 x.v::o8),U):=Za (Zn t2 Zi) (Zq (Z7 t3 rfl))
    refine rE (λZ' i=>?_) (Zf7 C U x l n (Nd 0x17017251a825503ac1101 Tt h hz))
    exact ⟨Z',by rw[Zc5 t1 b1,show (Tr.node y l r).has x=l.has x by rw[Tr.has,gq e,gp c]];exact i⟩
   .rw[Bool.eq_false_iff.mpr c] at t3
    have b1:execs C R13 (S5 (Tr.node y l r).v::S5 x.v::o8) U=S5 (.next,(S5 r.v::S5 x.v::o8),U):=Za (Zn t2 Zi) (Zq (Zn t3 rfl))
    refine rE (λZ' i=>?_) (Zf7 C U x r n (Nd 0x17017251a825530ac1101 Tt h hz))
    exact ⟨Z',by rw[Zc5 t1 b1,show (Tr.node y l r).has x=r.has x by rw[Tr.has,gq e,gq c]];exact i⟩
section
theorem Zwx (d:Nat)(t:Tr)(x:T3)(hs:t.sz<2^16)(U:H):cf (d+1) 13 [t.v,x.v] U=S5 (.ok (.bool (t.has x)),U):=by
 refine rE (λZ' e=>?_) (Zf7 (Cd d) U x t Za3 hs)
 cases c:t.has x with
 | true=>
  rw[c,gp rfl] at e
  exact Yu Zyg rfl (Zp (show exec (Cd d) Zp5 _ U=_ from e)) rfl
 | false=>
  rw[c,gq (by decide)] at e
  exact Yu Zyg rfl (Za (show exec (Cd d) Zp5 _ U=_ from e) rfl) rfl
theorem Zqw (d:Nat){w n:Nat}{t:Tr}{m:Int}(hw:Wd w n U t m)(x:T3)(ho:okT x)(hs:t.sz<2^16):cf (d+4) 73 [.obj w,.int x.a,.int x.b,.int x.c] U=S5 (.ok (.bool (t.has x)),U) :=
 Yu Zz7 rfl (Zp (Yr (Zl (Zb (X4 rfl hw.ns rfl) (Zb (Zl rfl (Zqm d x U ho)) Zj)) (Zwx (d+2) t x hs U)))) rfl
theorem Zqx (d:Nat){w n:Nat}{t:Tr}{m:Int}(hw:Wd w n U t m):cf (d+1) 75 [.obj w] U=S5 (.ok (.int m),U) :=
 Yu Zz9 rfl (Zp (Yr (X4 rfl hw.ns rfl))) rfl
theorem Zbs (d:Nat){w n:Nat}{t:Tr}{m:Int}(hw:Wd w n U t m)(hd:t.sz<=d)(hsz:t.sz<1000):cf (d+3) 74 [.obj w] U=S5 (.ok (.obj U.length),U++[.list (t.tl.map T3.v)]):=by
 obtain hb:=Zf3 d hw hd hsz
 obtain c:=Ju (C:=(Cd (d+2))) (elt:=Ex.idx .v2 (.i 0)) (tg:=2) (it:=It.ex (.ucall 14 .v0 .nil)) (ifs:=Es.nil) (Z:=(S5 (.obj w)::o8)) Rw.v (λw:Rw=>S5 w.x.v) (Ux (Y2 rfl ((hw.mt 14).trans Zwg) Zj hb) (gl U _)) (gl U _) (By rfl) (by rw[Tr.rows_len];exact Bc (C1 hsz) (by decide)) λy u_=>Zqi (α:=Unit) Zfr rfl
 rw[De,show ((t.rows 0).map λw:Rw=>w.x.v)=t.tl.map T3.v by rw[← Tr.rows_x t 0,Cx];rfl] at c
 exact We (l:=t.tl.map T3.v) (t:=[O.list ((t.rows 0).map Rw.v),O.list (t.tl.map T3.v)]) Zz8 rfl (by rw[show U++[O.list ((t.rows 0).map Rw.v),O.list (t.tl.map T3.v)]=U++[O.list ((t.rows 0).map Rw.v)]++[O.list (t.tl.map T3.v)] by simp];exact Zp (Yr c)) (by simp) (Jv _ _) (by simp)
end
noncomputable def pr (p:Int×Int):List Int:=[p.1,p.2]
def prs (l:List (Int×Int)):List V:=Qh (l.map pr)
theorem Zm2 (l:List (Int×Int)):(prs l).length=l.length:=by simp[prs,Qh]
theorem Zqy (l:List (Int×Int))(x y:Int):prs l++[.tup [.int x,.int y]]=prs (l++[(x,y)]):=by simp[prs,Qh,pr]
noncomputable def Qk (hi:Int):List T3->Int->List (Int×Int)->List (Int×Int)
 | [],at_,acc=>if at_<=hi then acc++[(at_,hi)] else acc
 | x::r,at_,acc=>if hi<x.a then (if at_<=hi then acc++[(at_,hi)] else acc) else if at_<=x.b then Qk hi r (x.b+1) (if at_<x.a then acc++[(at_,x.a-1)] else acc) else Qk hi r at_ acc
noncomputable def Ja (hi:Int):List T3->Int->List (Int×Int)->List (Int×Int)
 | [],lo,acc=>if lo<=hi then acc++[(lo,hi)] else acc
 | x::r,lo,acc=>Ja hi r (if lo<x.b+1 then x.b+1 else lo) (if lo<x.a/\lo<=hi then acc++[(lo,if hi<x.a-1 then hi else x.a-1)] else acc)
theorem Zf8 (hi:Int):∀(r:List T3) (lo:Int) (acc:List (Int×Int)),hi<lo->Ja hi r lo acc=acc
 | [],lo,acc,h=>by simp only[Ja];rw[gq (by exact Ib 0x19601710c11 Tt h)]
 | x::r,lo,acc,h=>by
  simp only[Ja]
  rw[gq (by exact Ic 0x19f701602720c011 Tt h:¬ (lo<x.a/\lo<=hi))]
  exact Zf8 hi r _ acc (by split <;> lia)
theorem Zik (hi:Int):∀(r:List T3) (lo:Int) (acc:List (Int×Int)),(∀x∈r,x.a<=x.b)->Qk hi r lo acc=Ja hi r lo acc
 | [],lo,acc,_=>rfl
 | x::r,lo,acc,h=>by
  have hx:=h x Bf
  have hr:∀y∈r,y.a<=y.b:=λy hy=>h y (Bb _ hy)
  simp only[Qk,Ja]
  by_cases c1:hi<x.a
  .rw[gp c1,Zf8 hi r _ _ (by split <;> lia)]
   by_cases c2:lo<=hi
   .rw[gp c2,gp (by exact Ic 0x1f701602721602cba111a101 Tt c1 c2)]
    rcases Int.lt_or_le hi (x.a-1) with c3 | c3
    .rw[gp c3]
    .rw[gq (by exact Ib 0x1970c1a6c1a0c11 Tt c3),(by exact Ib 0x18c0a17106c0a1cba11a101 Tt c1 c3:x.a-1=hi)]
   .rw[gq c2,gq (by exact Ic 0x19f7016029602c011 Tt c2)]
  .rw[gq c1]
   by_cases c2:lo<=x.b
   .rw[gp c2,Zik hi r _ _ hr,gp (by exact Ib 0x17051a601c11 Tt c2:lo<x.b+1)]
    by_cases c3:lo<x.a
    .rw[gp c3,gp (by exact Ic 0x1f7016029721701cba101a111 Tt c1 c3),gq (by exact Ib 0x1970c1a9701c11 Tt c1)]
    .rw[gq c3,gq (by exact Ic 0x19f7016029701c101 Tt c3)]
   .rw[gq c2,Zik hi r _ _ hr,gq (by exact Ib 0x197051a9601c11 Tt c2),gq (by exact Id 0x19f7016026139603c1011 Tt hx c2)]
theorem Zhc (hi:Int):∀(r:List T3) (lo:Int) (acc:List (Int×Int)),(Ja hi r lo acc).length<=acc.length+r.length+1
 | [],lo,acc=>by simp only[Ja];split <;> simp
 | x::r,lo,acc=>by
  simp only[Ja]
  refine Bc (Zhc hi r _ _) ?_
  split <;> simp <;> exact Nb 0x16550a15051ac1 Tt
theorem Zep {acc:List (Int×Int)}(h:acc.length<Zo)(U:H)(x y:Int):Qa .append (.obj U.length) [.tup [.int x,.int y]] (U++[.list (prs acc)])=S5 (.none,U++[.list (prs (acc++[(x,y)]))]):=by
 rw[Zfw (by rw[Zm2];exact h),Zqy]
set_option tactic.hygienic true in
theorem Zqz (d:Nat)(lo hi:Int)(U:H)(r:Nat)(ts:List T3)(hr:U[r]?=S5 (.list (ts.map T3.v)))(hl:ts.length<=1000) :
  cf (d+1) 30 [.obj r,.int lo,.int hi] U=S5 (.ok (.obj U.length),U++[.list (prs (Ja hi ts lo []))]):=by
 obtain hk:∀acc,(U++[O.list acc])[r]?=S5 (.list (ts.map T3.v)):=λacc=>Zm hr
 obtain e1:∃Z U',exec (Cd d) Zp6 (S5 (.obj r)::S5 (.int lo)::S5 (.int hi)::S5 (.obj U.length)::o9) (U++[.list (prs [])])=S5 (.next,Z,U')/\∃lo' acc o,Z=(S5 (.obj r)::S5 (.int lo')::S5 (.int hi)::S5 (.obj U.length)::o::o8)/\U'=U++[.list (prs acc)]/\acc.length<=1000/\(if lo'<=hi then acc++[(lo',hi)] else acc)=Ja hi ts lo []:=by
  rw[Zp6,W6 (Ux (n:=r) rfl (hk (prs [])))]
  refine Zan T3.v (λxs Z U'=>∃lo' acc o,Z=(S5 (.obj r)::S5 (.int lo')::S5 (.int hi)::S5 (.obj U.length)::o::o8)/\U'=U++[.list (prs acc)]/\acc.length+xs.length<=1000/\Ja hi xs lo' acc=Ja hi ts lo []) _ ?_ ?_ ts _ _ ⟨lo,[],N0,rfl,rfl,by simpa using hl,rfl⟩
  .intro Z U' hX2
   refine byC λhnX=>?_
   obtain ⟨lo',acc,o,h1,h2,h3,h4⟩:=hX2
   apply hnX
   exact ⟨lo',acc,o,h1,h2,h3,h4⟩
  .intro x xs Z U' hX4
   refine byC λhnX=>?_
   obtain ⟨lo',acc,o,rfl,rfl,h3,h4⟩:=hX4
   apply hnX
   simp only[C5] at h3
   obtain hap:=Zep (acc:=acc) (by unfold Zo;exact Nb 0x170f42405e65051a3e83ec11 Tt h3) U
   have ha:∀U',Zg (Cd d) (.blt .max (.cons .v1 (.cons (.bin .add (.idx .v4 (.i 1)) (.i 1)) .nil))) (S5 (.obj r)::S5 (.int lo')::S5 (.int hi)::S5 (.obj U.length)::S5 x.v::o8) U'=S5 (.ok (.int (if lo'<x.b+1 then x.b+1 else lo')),U'):=λU'=>Z9 (Zb rfl (Zb (Zh (Jx rfl (Jh _ _)) Zd (Yg _ _ _)) Zj)) rfl
   obtain h4:Ja hi xs (if lo'<x.b+1 then x.b+1 else lo') (if lo'<x.a/\lo'<=hi then acc++[(lo',if hi<x.a-1 then hi else x.a-1)] else acc)=_:=h4
   refine ⟨by simp,.inl ?_⟩
   by_cases c1:lo'<x.a
   .by_cases c2:lo'<=hi
    .rw[gp (⟨c1,c2⟩ : lo'<x.a/\lo'<=hi)] at h4
     exact ⟨_,_,Za (Z7 (Xm (Zk (Jx rfl (Yw _ _)) rfl (gtT c1)) (Zk rfl rfl (leT c2))) (Zq (Y0 (Wx rfl (Zw (gl U _)) (Zb (Xi (Zb rfl (Zb (Z9 (Zb (Zh (Jx rfl (Yw _ _)) Zd (Y3 _ _ _)) rfl) rfl) Zj)) rfl) Zj) (hap _ _))))) (Zq (Zz (ha _) rfl)),hk _,_,_,_,rfl,rfl,by simp;exact Nb 0x16550a13e83e65051a3e83ec11 Tt h3,h4⟩
    .rw[gq (by exact Ic 0x19f7016029602c011 Tt c2:¬ (lo'<x.a/\lo'<=hi))] at h4
     exact ⟨_,_,Za (Zn (Xm (Zk (Jx rfl (Yw _ _)) rfl (gtT c1)) (Zk rfl rfl (leF c2))) Zi) (Zq (Zz (ha _) rfl)),hk _,_,_,_,rfl,rfl,Nb 0x165013e83e65051a3e83ec11 Tt h3,h4⟩
   .rw[gq (by exact Ic 0x19f7016029701c101 Tt c1:¬ (lo'<x.a/\lo'<=hi))] at h4
    exact ⟨_,_,Za (Zn (Qo (Zk (Jx rfl (Yw _ _)) rfl (gtF c1))) Zi) (Zq (Zz (ha _) rfl)),hk _,_,_,_,rfl,rfl,Nb 0x165013e83e65051a3e83ec11 Tt h3,h4⟩
 refine byC λXX=>?_;obtain ⟨_,_,e1,lo',acc,o,rfl,rfl,h3,h4⟩:=e1;apply XX;clear XX
 obtain hap:=Zep (acc:=acc) (by unfold Zo;exact Na 0x170f42405e603e83ec11 Tt h3) U
 obtain hend:execs (Cd d) (.cons Zui (.cons Zuj .nil)) (S5 (.obj r)::S5 (.int lo')::S5 (.int hi)::S5 (.obj U.length)::o::o8) (U++[.list (prs acc)])=S5 (.ret (.obj U.length),(S5 (.obj r)::S5 (.int lo')::S5 (.int hi)::S5 (.obj U.length)::o::o8),U++[.list (prs (Ja hi ts lo []))]):=by
  rw[← h4]
  by_cases c:lo'<=hi
  .rw[gp c];exact Za (Z7 (Zk rfl rfl (leT c)) (Zq (Y0 (Wx rfl (Zw (gl U _)) rfl (hap _ _))))) rfl
  .rw[gq c];exact Za (Zn (Zk rfl rfl (leF c)) Zi) rfl
 exact We Zzx rfl (Za (Zz (Uk Zj rfl) rfl) (Za e1 hend)) (Bp _) (Qi _ _) (by simp[prs])
set_option tactic.hygienic true in
theorem Ztd (d:Nat)(lo hi:Int)(hl1 : -10^60<lo)(hle:lo<=hi)(hh:hi<10^60)(U:H)(r:Nat)(ts:List T3)(hr:U[r]?=S5 (.list (ts.map T3.v)))(hl:ts.length<=1000) :
  cf (d+3) 4 [.obj r,.int lo,.int hi] U=S5 (.ok (.obj U.length),U++[.list (prs (Qk hi ts lo []))]):=by
 obtain hk:∀acc,(U++[O.list acc])[r]?=S5 (.list (ts.map T3.v)):=λacc=>Zm hr
 obtain e1:∃Z U',exec (Cd (d+2)) Zv8 (S5 (.obj r)::S5 (.int lo)::S5 (.int hi)::S5 (.obj U.length)::S5 (.int lo)::o9) (U++[.list (prs [])])=S5 (.next,Z,U')/\∃lo' acc o,Z=(S5 (.obj r)::S5 (.int lo)::S5 (.int hi)::S5 (.obj U.length)::S5 (.int lo')::o::o8)/\U'=U++[.list (prs acc)]/\acc.length<=1000/\(if lo'<=hi then acc++[(lo',hi)] else acc)=Qk hi ts lo []:=by
  rw[Zv8,W6 (Ux (n:=r) rfl (hk (prs [])))]
  refine Zan T3.v (λxs Z U'=>∃lo' acc o,Z=(S5 (.obj r)::S5 (.int lo)::S5 (.int hi)::S5 (.obj U.length)::S5 (.int lo')::o::o8)/\U'=U++[.list (prs acc)]/\acc.length+xs.length<=1000/\Qk hi xs lo' acc=Qk hi ts lo []) _ ?_ ?_ ts _ _ ⟨lo,[],N0,rfl,rfl,by simpa using hl,rfl⟩
  .intro Z U' hX2
   refine byC λhnX=>?_
   obtain ⟨lo',acc,o,fn1,fn2,h3,h4⟩:=hX2
   apply hnX
   exact ⟨lo',acc,o,fn1,fn2,h3,h4⟩
  .intro x xs Z U' hX4
   refine byC λhnX=>?_
   obtain ⟨lo',acc,o,rfl,rfl,h3,h4⟩:=hX4
   apply hnX
   simp only[C5] at h3
   obtain hap:=Zep (acc:=acc) (by unfold Zo;exact Nb 0x170f42405e65051a3e83ec11 Tt h3) U
   obtain h4:(if hi<x.a then (if lo'<=hi then acc++[(lo',hi)] else acc) else if lo'<=x.b then Qk hi xs (x.b+1) (if lo'<x.a then acc++[(lo',x.a-1)] else acc) else Qk hi xs lo' acc)=_:=h4
   obtain hb:∀U',Zg (Cd (d+2)) (.bin .add (.idx .v5 (.i 1)) (.i 1)) (S5 (.obj r)::S5 (.int lo)::S5 (.int hi)::S5 (.obj U.length)::S5 (.int lo')::S5 x.v::o8) U'=S5 (.ok (.int (x.b+1)),U'):=λU'=>Zh (Jx rfl (Jh _ _)) Zd (Yg _ _ _)
   refine ⟨by simp,?_⟩
   by_cases c1:hi<x.a
   .rw[gp c1] at h4
    exact .inr ⟨_,_,Zwh (Z7 (Zk (Jx rfl (Yw _ _)) rfl (gtT c1)) rfl),_,_,_,rfl,rfl,Nb 0x1603e83e65051a3e83ec11 Tt h3,h4⟩
   .rw[gq c1] at h4
    refine .inl ?_
    by_cases c2:lo'<=x.b
    .rw[gp c2] at h4
     by_cases c3:lo'<x.a
     .rw[gp c3] at h4
      exact ⟨_,_,Za (Zn (Zk (Jx rfl (Yw _ _)) rfl (gtF c1)) Zi) (Zq (Z7 (Zk (Jx rfl (Jh _ _)) rfl (geT c2)) (Za (Z7 (Zk (Jx rfl (Yw _ _)) rfl (gtT c3)) (Zq (Y0 (Wx rfl (Zw (gl U _)) (Zb (Xi (Zb rfl (Zb (Zh (Jx rfl (Yw _ _)) Zd (Y3 _ _ _)) Zj)) rfl) Zj) (hap _ _))))) (Zq (Zz (hb _) rfl))))),hk _,_,_,_,rfl,rfl,by simp;exact Nb 0x16550a13e83e65051a3e83ec11 Tt h3,h4⟩
     .rw[gq c3] at h4
      exact ⟨_,_,Za (Zn (Zk (Jx rfl (Yw _ _)) rfl (gtF c1)) Zi) (Zq (Z7 (Zk (Jx rfl (Jh _ _)) rfl (geT c2)) (Za (Zn (Zk (Jx rfl (Yw _ _)) rfl (gtF c3)) Zi) (Zq (Zz (hb _) rfl))))),hk _,_,_,_,rfl,rfl,Nb 0x165013e83e65051a3e83ec11 Tt h3,h4⟩
    .rw[gq c2] at h4
     exact ⟨_,_,Za (Zn (Zk (Jx rfl (Yw _ _)) rfl (gtF c1)) Zi) (Zq (Zn (Zk (Jx rfl (Jh _ _)) rfl (geF c2)) Zi)),hk _,_,_,_,rfl,rfl,Nb 0x165013e83e65051a3e83ec11 Tt h3,h4⟩
 refine byC λXX=>?_;obtain ⟨_,_,e1,lo',acc,o,rfl,rfl,h3,h4⟩:=e1;apply XX;clear XX
 obtain hap:=Zep (acc:=acc) (by unfold Zo;exact Na 0x170f42405e603e83ec11 Tt h3) U
 obtain hend:execs (Cd (d+2)) (.cons Zx7 (.cons Zx8 .nil)) (S5 (.obj r)::S5 (.int lo)::S5 (.int hi)::S5 (.obj U.length)::S5 (.int lo')::o::o8) (U++[.list (prs acc)])=S5 (.ret (.obj U.length),(S5 (.obj r)::S5 (.int lo)::S5 (.int hi)::S5 (.obj U.length)::S5 (.int lo')::o::o8),U++[.list (prs (Qk hi ts lo []))]):=by
  rw[← h4]
  by_cases c:lo'<=hi
  .rw[gp c];exact Za (Z7 (Zk rfl rfl (leT c)) (Zq (Y0 (Wx rfl (Zw (gl U _)) rfl (hap _ _))))) rfl
  .rw[gq c];exact Za (Zn (Zk rfl rfl (leF c)) Zi) rfl
 exact We fn4 rfl (Za (Y0 (Zl rfl (Zc7 d lo hi hl1 hle hh U))) (Za (Zz (Uk Zj rfl) rfl) (Za rfl (Za e1 hend)))) (Bp _) (Qi _ _) (by simp[prs])
noncomputable def Zil:List T3->T3->List T3
 | [],c=>[c]
 | x::r,c=>if x.a<=c.b then Zil r ⟨c.a,max c.b x.b,c.c+1⟩ else c::Zil r ⟨x.a,x.b,1⟩
noncomputable def clumps:List T3->List T3
 | []=>[]
 | x::r=>Zil r ⟨x.a,x.b,1⟩
theorem Zim {r:Nat}{l:List V}(h:U[r]?=S5 (.list l)):Uh .len [.obj r] U=S5 (.int l.length,U):=by show (items U (.obj r)).map _=_;rw[Jt h];rfl
theorem Zbe {n:Nat}{l:List V}{x:V}(h:U[n]?=S5 (.list (l++[x]))):Yh U (.obj n) (.int (-1))=S5 x:=by
 simp only[Yh,Zgz,Cf,Jt h,Zgc]
 rw[gq (by decide),gp (by simp;exact ln1 [] (.zle .k0 (.a (.g .k1) (.a (.n .v0) .k1))) (.d 11) rfl)]
 obtain this:((-1:Int)+((l++[x]).length:Nat)).toNat=l.length:=by simp;exact ln2 [(.nt .v0 (.a (.g .k1) (.a (.n .v1) .k1)))] (.eq .v0 .v1) (.s (.s (.d 11001) (.d 11101)) (.s (.d 1101) (.d 1101))) rfl (W7 _)
 rw[this];simp
theorem Zq0 {l:List V}{x:V}(U:H):Qa .pop (.obj U.length) [] (U++[.list (l++[x])])=S5 (x,U++[.list l]):=by
 simp[Qa,Qv,Zro]
theorem Zf9:∀(r:List T3) (c:T3),(Zil r c).length<=r.length+1
 | [],c=>by simp[Zil]
 | x::r,c=>by
  simp only[Zil]
  split
  .exact Bc (Zf9 r _) (by simp)
  .have:=Zf9 r ⟨x.a,x.b,1⟩;simp;exact Nb 0x16051a6051ac11 Tt this
theorem Zq1 {acc:List T3}(h:acc.length<Zo)(U:H)(x:T3):Qa .append (.obj U.length) [x.v] (U++[.list (acc.map T3.v)])=S5 (.none,U++[.list ((acc++[x]).map T3.v)]):=by
 rw[Zfw (by rw[Bg];exact h)];simp
set_option tactic.hygienic true in
theorem Zhd {fn:Nat}(hF:pg.fn fn=S5 ⟨[0],12,B5,.fresh⟩)(d:Nat)(U:H)(r:Nat)(ts:List T3)(hr:U[r]?=S5 (.list (ts.map T3.v)))(hl:ts.length<=1000) :
  cf (d+1) fn [.obj r] U=S5 (.ok (.obj U.length),U++[.list ((clumps ts).map T3.v)]):=by
 obtain hk:∀acc,(U++[O.list acc])[r]?=S5 (.list (ts.map T3.v)):=λacc=>Zm hr
 obtain e1:∃Z U',exec (Cd d) Zv9 (S5 (.obj r)::S5 (.obj U.length)::o10) (U++[.list ([].map T3.v)])=S5 (.next,Z,U')/\∃o1 o2,Z=(S5 (.obj r)::S5 (.obj U.length)::o1::o2::o8)/\U'=U++[.list ((clumps ts).map T3.v)]:=by
  rw[Zv9,W6 (Ux (n:=r) rfl (hk _))]
  refine Zan T3.v (λxs Z U'=>∃o1 o2 A,Z=(S5 (.obj r)::S5 (.obj U.length)::o1::o2::o8)/\U'=U++[.list (A.map T3.v)]/\A.length+xs.length<=1000/\((A=[]/\clumps xs=clumps ts)\/∃acc c,A=acc++[c]/\acc++Zil xs c=clumps ts)) _ ?_ ?_ ts _ _ ⟨N0,N0,[],rfl,rfl,by simpa using hl,.inl ⟨rfl,rfl⟩⟩
  .rintro Z U' ⟨o1,o2,A,h1,h2,_,⟨rfl,h3⟩ | ⟨acc,c,rfl,h3⟩⟩
   .exact ⟨o1,o2,h1,by rw[← h3];exact h2⟩
   .exact ⟨o1,o2,h1,by rw[← h3];exact h2⟩
  .intro x xs Z U' hX4
   refine byC λhnX=>?_
   obtain ⟨o1,o2,A,rfl,rfl,hA,h3⟩:=hX4
   apply hnX
   simp only[C5] at hA
   obtain hap:=λy=>Zq1 (acc:=A) (by unfold Zo;exact Nb 0x170f42405e65051a3e83ec11 Tt hA) U y
   obtain hla:Uh .len [.obj U.length] (U++[.list (A.map T3.v)])=S5 (.int A.length,U++[.list (A.map T3.v)]):=by
    have:=Zim (U:=U++[.list (A.map T3.v)]) (r:=U.length) (l:=A.map T3.v) (by simp)
    rw[Bg] at this;exact this
   refine ⟨by simp,.inl ?_⟩
   rcases h3 with ⟨rfl,h3⟩ | ⟨acc,c,rfl,h3⟩
   .exact ⟨_,_,Zq (Zn (Qo (Zk (Z9 rfl hla) Zd (gtF (by simp)))) (Zq (Y0 (Wx rfl (Zw (gl U _)) (Zb (Xi (Zb (Jx rfl (Yw _ _)) (Zb (Jx rfl (Jh _ _)) rfl)) rfl) Zj) (hap ⟨x.a,x.b,1⟩))))),hk _,_,_,_,rfl,rfl,by simp;exact Nb 0x165a03e83e65150a3e83ec11 Tt hA,.inr ⟨[],_,rfl,by simpa[clumps] using h3⟩⟩
   .obtain hlast:(U++[O.list ((acc++[c]).map T3.v)])[U.length]?=S5 (.list (acc.map T3.v++[c.v])):=by simp
    obtain hgi:=Zbe hlast
    obtain hpop:Qa .pop (.obj U.length) [] (U++[.list ((acc++[c]).map T3.v)])=S5 (c.v,U++[.list (acc.map T3.v)]):=by rw[Cs];exact Zq0 U
    obtain hap2:=λy=>Zq1 (acc:=acc) (by simp at hA;unfold Zo;exact Nb 0x170f42405e6550a51a3e83ec11 Tt hA) U y
    obtain h0:(0:Int)<((acc++[c]).length:Nat):=by rw[Bq];simp only[C5,Dy];exact ln1 [] (.zlt .k0 (.n (.a .v0 (.a .k0 .k1)))) (.d 11) rfl
    obtain h3:acc++(if x.a<=c.b then Zil xs ⟨c.a,max c.b x.b,c.c+1⟩ else c::Zil xs ⟨x.a,x.b,1⟩)=clumps ts:=h3
    obtain hcnd:∀p,Yo .le (.int x.a) (.int c.b) (U++[.list ((acc++[c]).map T3.v)])=S5 p->Zg (Cd d) (.and (.cmp (.blt .len (.cons .v1 .nil)) (.one .gt (.i 0))) (.cmp (.idx .v2 (.i 0)) (.one .le (.idx (.idx .v1 (.neg (.i 1))) (.i 1))))) (S5 (.obj r)::S5 (.obj U.length)::S5 x.v::o2::o8) (U++[.list ((acc++[c]).map T3.v)])=S5 (.ok (.bool p),U++[.list ((acc++[c]).map T3.v)]):=λp hp=>
     Xm (Zk (Z9 rfl hla) Zd (gtT h0)) (Zk (Jx rfl (Yw _ _)) (Zv (Zv rfl rfl hgi) Zd (Jh _ _)) hp)
    by_cases c1:x.a<=c.b
    .rw[gp c1] at h3
     obtain mx:Uh .max [.int c.b,.int x.b] (U++[.list (acc.map T3.v)])=S5 (.int (max c.b x.b),U++[.list (acc.map T3.v)]):=by
      show S5 (V.int (if c.b<x.b then x.b else c.b),_)=_;rw[Zy3]
     exact ⟨_,_,Zq (Z7 (hcnd T1 (leT c1)) (Za (Zz (Wx rfl (Zw (gl U _)) Zj hpop) rfl) (Zq (Y0 (Wx rfl (Zw (gl U _)) (Zb (Xi (Zb (Jx rfl (Yw _ _)) (Zb (Z9 (Zb (Jx rfl (Jh _ _)) (Zb (Jx rfl (Jh _ _)) Zj)) mx) (Zb (Zh (Jx rfl (Zn3 _ _)) Zd (Yg _ _ _)) Zj))) rfl) Zj) (hap2 ⟨c.a,max c.b x.b,c.c+1⟩)))))),hk _,_,_,_,rfl,rfl,by simp at hA ⊢;exact Nb 0x16550a13e83e6550a51a3e83ec11 Tt hA,.inr ⟨acc,_,rfl,h3⟩⟩
    .rw[gq c1] at h3
     exact ⟨_,_,Zq (Zn (hcnd F0 (leF c1)) (Zq (Y0 (Wx rfl (Zw (gl U _)) (Zb (Xi (Zb (Jx rfl (Yw _ _)) (Zb (Jx rfl (Jh _ _)) rfl)) rfl) Zj) (hap ⟨x.a,x.b,1⟩))))),hk _,_,_,_,rfl,rfl,by simp at hA ⊢;exact Nb 0x1655021e13e83e6550a51a3e83ec11 Tt hA,.inr ⟨acc++[c],_,rfl,by simpa using h3⟩⟩
 refine byC λXX=>?_;obtain ⟨_,_,e1,o1,o2,rfl,rfl⟩:=e1;apply XX;clear XX
 exact We hF rfl (Za (Zz (Uk Zj rfl) rfl) (Za e1 rfl)) (Bp _) (Jv _ _) (by simp)
theorem Qs (q:Int->Bool):∀(S:List Int),S.Pairwise (λx y=>q y=T1->q x=T1)->∀(k:Nat) (h:k<S.length),(q S[k]=T1↔k<S.countP q)
 | [],_,k,h=>by simp at h
 | x::r,hp,k,h=>by
  have hp':=D5.mp hp
  by_cases c:q x=T1
  .rw[List.countP_cons_of_pos c]
   cases k with
   | zero=>simp[c]
   | succ k=>
    have:=Qs q r hp'.2 k (by simpa using h)
    simp only[List.getElem_cons_succ];rw[this];lia
  .have h0:∀y∈r,¬ q y=T1:=λy hy hq=>c (hp'.1 y hy hq)
   have e:(x::r).countP q=0:=by
    rw[Kg c,L8];exact h0
   rw[e]
   refine ⟨λhq=>?_,λhk=>absurd hk (Da _)⟩
   cases k with
   | zero=>exact absurd hq c
   | succ k=>exact absurd hq (h0 _ (by simp))
def Zlq (S:List Int):Prop:=S.Pairwise (λx y=>x<=y)
noncomputable def nth (l:List Int)(k:Nat):Int:=l.getD k 0
theorem Zdu {S:List Int}{k:Nat}(h:k<S.length):nth S k=S[k]:=by simp[nth,G8,Bl h]
theorem lt_iff {S:List Int}(hS:Zlq S){k:Nat}(h:k<S.length)(v:Int):nth S k<v↔k<S.countP (λx=>decide (x<v)):=by
 rw[Zdu h,← Qs (λx=>decide (x<v)) S (hS.imp λhxy hy=>by simp at hy ⊢;exact Ic 0x1701602721c111 Tt hxy hy) k h];simp
theorem le_iff {S:List Int}(hS:Zlq S){k:Nat}(h:k<S.length)(v:Int):nth S k<=v↔k<S.countP (λx=>decide (x<=v)):=by
 rw[Zdu h,← Qs (λx=>decide (x<=v)) S (hS.imp λhxy hy=>by simp at hy ⊢;exact Ic 0x1601602621c111 Tt hxy hy) k h];simp
theorem Zkm {S:List Int}(hS:Zlq S){i j:Nat}(hij:i<=j)(hj:j<S.length):nth S i<=nth S j:=by
 rcases Lb hij with rfl | h
 .exact Cb _
 .rw[Zdu (by exact Nc 0x1701602721c111 Tt hij hj),Zdu hj];exact Gi.mp hS i j (by exact Nc 0x1701602721c111 Tt hij hj) hj h
noncomputable def gn (E:List Int)(v:Int):Nat:=E.countP (λx=>decide (x<v))
noncomputable def up (S:List Int)(v:Int):Nat:=S.countP (λx=>decide (x<=v))
theorem Zm3 (E:List Int){u v:Int}(h:u<=v):gn E u<=gn E v:=I1 λx u_ hx=>by simp at hx ⊢;exact Ic 0x1701621702c111 Tt h hx
def Zhe (S E:List Int)(b:Int×Int)(i:Nat):Int×Int:=if b.1<(i:Int)+1-gn E (nth S i) then ((i:Int)+1-gn E (nth S i),nth S i) else b
structure Best (S E:List Int)(lo:Int)(i:Nat)(b:Int×Int):Prop where
 all:∀j<i,(j:Int)+1-gn E (nth S j)<=b.1
 one:(b=(0,lo))\/(0<b.1/\∃j<i,(j:Int)+1-gn E (nth S j)=b.1/\nth S j=b.2/\∀j'<j,(j':Int)+1-gn E (nth S j')<b.1)
theorem Best.zero (S E:List Int)(lo:Int):Best S E lo 0 (0,lo):=⟨λj h=>absurd h (Da _),.inl rfl⟩
set_option tactic.hygienic true in
theorem Best.step {S E:List Int}{lo:Int}{i:Nat}{b:Int×Int}(h:Best S E lo i b):Best S E lo (i+1) (Zhe S E b i):=by
 unfold Zhe
 split
 .rename_i hlt
  refine ⟨λj hj=>?_,.inr ⟨?_,i,Na 0x17050ac1 Tt,rfl,rfl,λj hj=>?_⟩⟩
  .rcases Ka.mp hj with hj | rfl
   .have:=h.all j hj;simp only;exact lin [(.zlt .v0 (.s (.a (.n .v2) .k1) (.n .v3))),(.zle (.s (.a (.n .v0) .k1) (.n .v1)) .v0)] (.zle (.s (.a (.n .v0) .k1) (.n .v1)) (.s (.a (.n .v2) .k1) (.n .v3))) (.d 1111) rfl [_,_,_,_] [_] hlt this
   .exact Cb _
  .rcases h.one with rfl | ⟨h0,_⟩
   .exact hlt
   .simp only;exact lin [(.zlt .v0 (.s (.a (.n .v0) .k1) (.n .v1))),(.zlt .k0 .v0)] (.zlt .k0 (.s (.a (.n .v0) .k1) (.n .v1))) (.d 1111) rfl [_,_] [_] hlt h0
  .have:=h.all j hj;simp only;exact lin [(.zlt .v0 (.s (.a (.n .v2) .k1) (.n .v3))),(.zle (.s (.a (.n .v0) .k1) (.n .v1)) .v0)] (.zlt (.s (.a (.n .v0) .k1) (.n .v1)) (.s (.a (.n .v2) .k1) (.n .v3))) (.d 1111) rfl [_,_,_,_] [_] hlt this
 .rename_i hlt
  refine ⟨λj hj=>?_,?_⟩
  .rcases Ka.mp hj with hj | rfl
   .exact h.all j hj
   .exact lin [(.no (.zlt .v0 (.s (.a (.n .v0) .k1) (.n .v1))))] (.zle (.s (.a (.n .v0) .k1) (.n .v1)) .v0) (.d 111) rfl [_,_] [_] hlt
  .rcases h.one with e | ⟨h0,j,hj,e⟩
   .exact .inl e
   .exact .inr ⟨h0,j,Nb 0x17051a701c11 Tt hj,e⟩
noncomputable def Jm (ts:List T3)(q:Int):Nat:=(ts.filter λx=>decide (x.a<=q)&&decide (q<=x.b)).length
noncomputable def sel (ts:List T3)(lo hi:Int):List T3:=ts.filter λx=>decide (x.a<=hi)&&decide (lo<=x.b)
def Zu (ts:List T3)(lo hi:Int):List Int:=((sel ts lo hi).map λx=>if lo<x.a then x.a else lo).mergeSort λa b=>decide (a<=b)
def Jc (ts:List T3)(lo hi:Int):List Int:=((sel ts lo hi).map λx=>x.b).mergeSort λa b=>decide (a<=b)
theorem Zar (l:List Int):Zlq (l.mergeSort λa b=>decide (a<=b)):=by
 have:=Dq (le:=λa b:Int=>decide (a<=b)) (λa b c h1 h2=>by simp at *;exact Ic 0x1601602621c111 Tt h1 h2) (λa b=>by simp;exact Ib 0x10d601610c11 Tt) l
 exact this.imp λh=>by simpa using h
section
variable {ts:List T3}{lo hi:Int}
theorem Uc (l:List Int)(q:Int->Bool):(l.mergeSort λa b=>decide (a<=b)).countP q=l.countP q:=(D0 l _).countP_eq q
theorem Zq2 (ho:∀x∈ts,x.a<=x.b)(q:Int)(h1:lo<=q)(h2:q<=hi):Jm ts q+gn (Jc ts lo hi) q=up (Zu ts lo hi) q:=by
 unfold gn up Jc Zu
 rw[Uc,Uc,Ii,Ii]
 unfold Jm sel
 rw[← Dz]
 induction ts with
 | nil=>rfl
 | cons x r ih=>
  obtain hx:=ho x Bf
  obtain ih:=ih λy hy=>ho y (Bb _ hy)
  by_cases c:(decide (x.a<=hi)&&decide (lo<=x.b))=T1
  .rw[Ke (p:=λx:T3=>decide (x.a<=hi)&&decide (lo<=x.b)) c]
   simp only[List.countP_cons,Function.comp]
   simp only[Bs,decide_eq_true_eq] at c
   by_cases c1:x.a<=q <;> by_cases c2:q<=x.b
   .obtain n1:¬ x.b<q:=Ib 0x19701610c11 Tt c2
    obtain n2:=itC (p:=lo<x.a) (·<=q) (λu_=>c1) λu_=>h1
    simp[c1,c2,n1,n2];exact Nc 0x18550a152a85012cba101a11 Tt ih
   .obtain n1:x.b<q:=Ib 0x17019610c11 Tt c2
    obtain n2:=itC (p:=lo<x.a) (·<=q) (λu_=>c1) λu_=>h1
    simp[c1,c2,n1,n2];exact Nc 0x185051a52a85012cba101a11 Tt ih
   .obtain n1:¬ x.b<q:=Ic 0x197016209621c111 Tt hx c1
    obtain n2:¬ (if lo<x.a then x.a else lo)<=q:=itC (λv=>¬ v<=q) (λu_=>c1) λk u_=>c1 (Cp (Dh.mp k) h1)
    simp[c1,c2,n1,n2];exact Nc 0x18501285012cba101a11 Tt ih
   .exact lin [(.zle .v0 .v1),(.no (.zle .v0 .v2)),(.no (.zle .v2 .v1))] (.eq (.a (.a .v0 .v1) (.a .v2 .v3)) (.a .v4 .v5)) (.s (.d 10111) (.d 10111)) rfl [_,_,_,_,_,_] [_,_,_] hx c1 c2
  .rw[Kf (p:=λx:T3=>decide (x.a<=hi)&&decide (lo<=x.b)) c]
   simp only[Bs,decide_eq_true_eq] at c
   rw[Kg (by simp only[Bs,decide_eq_true_eq];exact Ie 0x19f6016126316149f604632cba10011a01101 Tt h1 h2 c)]
   exact ih
theorem Zwy:(Jc ts lo hi).length=(Zu ts lo hi).length:=by unfold Jc Zu;simp
theorem Zlr {v:Int}(hle:lo<=hi)(h:v∈Zu ts lo hi):lo<=v/\v<=hi:=by
 unfold Zu at h
 rw[(D0 _ _).mem_iff] at h
 refine byC λXX=>?_;obtain ⟨x,hx,rfl⟩:=C0.mp h;apply XX
 have:=(Cr.mp hx).2
 simp only[Bs,decide_eq_true_eq] at this
 exact itC (λv=>lo<=v/\v<=hi) (λh=>⟨D6 h,this.1⟩) λu_=>⟨Cb _,hle⟩
theorem Zq3 {v:Int}(h:v∈Jc ts lo hi):lo<=v:=by
 unfold Jc at h
 rw[(D0 _ _).mem_iff] at h
 refine byC λXX=>?_;obtain ⟨x,hx,rfl⟩:=C0.mp h;apply XX
 have:=(Cr.mp hx).2
 simp only[Bs,decide_eq_true_eq] at this
 exact this.2
theorem Zyx (ho:∀x∈ts,x.a<=x.b)(v:Int):gn (Jc ts lo hi) v<=gn (Zu ts lo hi) v:=by
 unfold gn Jc Zu
 rw[Uc,Uc,Ii,Ii]
 refine I1 λx hx h=>?_
 obtain h1:=(Cr.mp hx).2
 obtain h2:=ho x ((Cr.mp hx).1)
 simp only[Bs,decide_eq_true_eq,Function.comp] at h h1 ⊢
 split <;> lia
theorem Zyy (ho:∀x∈ts,x.a<=x.b){i:Nat}(hi':i<(Zu ts lo hi).length):gn (Jc ts lo hi) (nth (Zu ts lo hi) i)<=i:=by
 refine Bc (Zyx ho _) ?_
 exact Gd λhlt=>I4 _ ((lt_iff (Zar _) hi' (nth (Zu ts lo hi) i)).mpr hlt)
set_option tactic.hygienic true in
theorem Zq4 (ho:∀x∈ts,x.a<=x.b)(hle:lo<=hi){b:Int×Int}(h:Best (Zu ts lo hi) (Jc ts lo hi) lo (Zu ts lo hi).length b) :
  lo<=b.2/\b.2<=hi/\(Jm ts b.2:Int)=b.1/\∀q,lo<=q->q<=hi->(Jm ts q:Int)<=b.1/\((Jm ts q:Int)=b.1->b.2<=q):=by
 have hS:Zlq (Zu ts lo hi):=Zar _
 have hov:=λq h1 h2=>Zq2 (ts:=ts) (lo:=lo) (hi:=hi) ho q h1 h2
 obtain hmem:∀j,j<(Zu ts lo hi).length->lo<=nth (Zu ts lo hi) j/\nth (Zu ts lo hi) j<=hi:=λj hj=>by rw[Zdu hj];exact Zlr hle (D4 hj)
 obtain hup:∀q,up (Zu ts lo hi) q<=(Zu ts lo hi).length:=λq=>List.countP_le_length
 have hE0:gn (Jc ts lo hi) lo=0:=L8.mpr λx hx=>by have:=Zq3 hx;simp;exact Ib 0x1601601c11 Tt this
 have key:∀q,lo<=q->q<=hi->0<up (Zu ts lo hi) q->∃j,j<(Zu ts lo hi).length/\j+1=up (Zu ts lo hi) q/\nth (Zu ts lo hi) j<=q/\(Jm ts q:Int)<=(j:Int)+1-gn (Jc ts lo hi) (nth (Zu ts lo hi) j):=by
  intro q h1 h2 h3
  obtain hu:=hup q
  obtain ⟨j,hj⟩ : ∃j,j+1=up (Zu ts lo hi) q:=⟨up (Zu ts lo hi) q-1,by exact Nb 0x1850a17b1c01acbba10001a10101ba1001a1101 Tt h3 (Zc _ _)⟩
  have hjl:j<(Zu ts lo hi).length:=Nc 0x1701621850a2c111 Tt hu hj
  have hjq:nth (Zu ts lo hi) j<=q:=(le_iff hS hjl q).mpr (by unfold up at hj;exact Nb 0x1701850a1c11 Tt hj)
  have:=hov q h1 h2
  have:=Zm3 (Jc ts lo hi) hjq
  exact ⟨j,hjl,hj,hjq,by exact ln5 [(.eq (.a .v1 .k1) .v3),(.le .v2 .v4),(.eq (.a .v0 .v4) .v3)] (.zle (.n .v0) (.s (.a (.n .v1) .k1) (.n .v2))) (.d 110111) rfl hj this ‹_›⟩
 generalize Zu ts lo hi=S at *
 generalize Jc ts lo hi=E at *
 rcases h.one with rfl | ⟨h0,j,hj,e1,e2,e3⟩
 .simp only at *
  have hz:∀q,lo<=q->q<=hi->Jm ts q=0:=by
   intro q h1 h2
   rcases Ir (up S q) with c | c
   .have:=hov q h1 h2;exact Nc 0x180b81b85021cba1a1101 Tt c this
   .refine byC λXX=>?_;obtain ⟨j,q1,q2,q3,q4⟩:=key q h1 h2 c;apply XX;clear XX
    have:=h.all j q1
    simp only at this;exact ln3 [(.zle (.n .v0) (.s (.a (.n .v1) .k1) (.n .v2))),(.zle (.s (.a (.n .v1) .k1) (.n .v2)) .k0)] (.eq .v0 .k0) (.s (.d 11) (.d 1111)) rfl q4 this
  exact ⟨Cb _,hle,by rw[hz lo (Cb _) hle];rfl,λq h1 h2=>⟨by rw[hz q h1 h2];exact Cb _,λu_=>h1⟩⟩
 .have hm:=hmem j hj
  rw[e2] at hm
  have hq:∀q,lo<=q->q<=hi->(Jm ts q:Int)<=b.1/\((Jm ts q:Int)=b.1->b.2<=q):=by
   intro q h1 h2
   rcases Ir (up S q) with c | c
   .have:=hov q h1 h2;lia
   .refine byC λXX=>?_;obtain ⟨k,q1,q2,q3,q4⟩:=key q h1 h2 c;apply XX;clear XX
    have:=h.all k q1
    refine ⟨by exact lin [(.zle (.n .v0) (.s (.a (.n .v1) .k1) (.n .v2))),(.zle (.s (.a (.n .v1) .k1) (.n .v2)) .v0)] (.zle (.n .v0) .v0) (.d 1111) rfl [_,_,_] [_] q4 this,λhe=>?_⟩
    obtain hjk:j<=k:=Gd λhlt=>by have:=e3 k hlt;exact lin [(.zle (.n .v0) (.s (.a (.n .v1) .k1) (.n .v2))),(.zeq (.n .v0) .v0),(.zlt (.s (.a (.n .v1) .k1) (.n .v2)) .v0)] .ff (.d 11011) rfl [_,_,_] [_] q4 he this
    have:=Zkm hS hjk q1
    exact Id 0x1601820631623c10111 Tt e2 q3 this
  refine ⟨hm.1,hm.2,?_,hq⟩
  obtain h1:=(hq b.2 hm.1 hm.2).1
  obtain hju:j<up S b.2:=(le_iff hS hj b.2).mp (Ib 0x1601801c11 Tt e2)
  obtain h2:=hov b.2 hm.1 hm.2
  rw[e2] at e1
  exact lin [(.zeq (.s (.a (.n .v1) .k1) (.n .v2)) .v0),(.zle (.n .v0) .v0),(.lt .v1 .v3),(.eq (.a .v0 .v2) .v3)] (.zeq (.n .v0) .v0) (.s (.d 11010101) (.d 11001)) rfl [_,_,_,_] [_] e1 h1 hju h2
end
theorem Zn8 (l:List Int):Zbv (l.map V.int)=S5 ((l.mergeSort λa b=>decide (a<=b)).map .int):=by
 unfold Zbv;rw[Zap];rfl
set_option tactic.hygienic true in
theorem Zhf {test:L->H->X V}{body:L->H->Y}(Z:Nat->L)(U:H)(e:Nat)(ht:∀g,g<e->test (Z g) U=S5 (.ok (.bool T1),U))(hf:test (Z e) U=S5 (.ok (.bool F0),U))(hb:∀g,g<e->body (Z g) U=S5 (.next,Z (g+1),U)) :
  ∀n g,g<=e->e-g<n->Xl test body n (Z g) U=S5 (.next,Z e,U)
 | 0,g,_,h=>absurd h (Da _)
 | n+1,g,hg,h=>by
  rcases Lb hg with rfl | hlt
  .exact Zdo hf
  .rw[Zc5 (ht g hlt) (hb g hlt)]
   exact Zhf Z U e ht hf hb n (g+1) hlt (by exact Ni 0x17017251a734c243c0453acbba11000101a11100101ba0011a0011 Tt h hlt (Zc _ _) (Zc _ _))
theorem Zce {n:Nat}{l:List Int}(h:U[n]?=S5 (.list (l.map V.int))){k:Nat}(hk:k<l.length):Yh U (.obj n) (.int k)=S5 (.int (nth l k)):=by
 rw[Yx h (by simpa using hk),Zdu hk];simp
theorem Zd6 {r:Nat}{l:List Int}(h:U[r]?=S5 (.list (l.map V.int)))(hl:l.length<=1000):Uh .sorted [.obj r] U=S5 (.obj U.length,U++[.list ((l.mergeSort λa b=>decide (a<=b)).map .int)]):=by
 show ((Yj U (.obj r)).bind Zbv).bind (Jb U)=_
 rw[Zw h]
 show (Zbv (l.map V.int)).bind (Jb U)=_
 rw[Zn8]
 exact Wl (by rw[Bg,Ky];unfold Zo;exact Na 0x160f42405e603e83ec11 Tt hl) _
set_option tactic.hygienic true in
theorem Zls (d:Nat)(lo hi:Int)(hl1 : -10^60<lo)(hle:lo<=hi)(hh:hi<10^60)(U:H)(r:Nat)(ts:List T3)(ho:∀x∈ts,x.a<=x.b)(hr:U[r]?=S5 (.list (ts.map T3.v)))(hl:ts.length<=1000) :
  ∃b:Int×Int,Best (Zu ts lo hi) (Jc ts lo hi) lo (Zu ts lo hi).length b/\cf (d+3) 6 [.obj r,.int lo,.int hi] U=S5 (.ok (.tup [.int b.1,.int b.2]),U):=by
 have hsl:(sel ts lo hi).length<=1000:=Bc (I0 _ _) hl
 have hif:∀(o3 o4:Option V) (x:T3) (U':H),Jo (Cd (d+2)) (.cons (.and (.cmp (.idx .v9 (.i 0)) (.one .le .v2)) (.cmp (.idx .v9 (.i 1)) (.one .ge .v1))) .nil) (S5 (.obj r)::S5 (.int lo)::S5 (.int hi)::o3::o4::N0::N0::N0::N0::S5 x.v::o6) U'=S5 (.ok (decide (x.a<=hi)&&decide (lo<=x.b)),U'):=λo3 o4 x U'=>
  Zal (Zba (Zk (Jx rfl (Yw _ _)) rfl (Zwi _ _ _)) (Zk (Jx rfl (Jh _ _)) rfl (Zwk _ _ _)))
 have ec1 := Ju (C := (Cd (d + 2))) (elt := .blt .max (.cons .v1 (.cons (.idx .v9 (.i 0)) .nil))) (tg := 9) (it := .ex .v0) (ifs := .cons (.and (.cmp (.idx .v9 (.i 0)) (.one .le .v2)) (.cmp (.idx .v9 (.i 1)) (.one .ge .v1))) .nil)
   (Z:=(S5 (.obj r)::S5 (.int lo)::S5 (.int hi)::o13)) (U:=U) (U1:=U) T3.v (λx=>if (decide (x.a<=hi)&&decide (lo<=x.b)) then S5 (V.int (if lo<x.a then x.a else lo)) else N0) (Ux (n:=r) rfl hr) hr (by simp) (by unfold Zo;exact Na 0x160f42405e603e83ec11 Tt hl) λx u_=>
    Zlh (hif N0 N0 x U) (Z9 (Zb rfl (Zb (Jx rfl (Yw _ _)) Zj)) rfl)
 rw[Jz,show (ts.filter λx=>decide (x.a<=hi)&&decide (lo<=x.b)).map (λx=>V.int (if lo<x.a then x.a else lo))=((sel ts lo hi).map λx=>if lo<x.a then x.a else lo).map .int by simp[sel]] at ec1
 have hs1:=Zd6 (U:=U++[.list (((sel ts lo hi).map λx=>if lo<x.a then x.a else lo).map .int)]) (r:=U.length) (l:=(sel ts lo hi).map λx=>if lo<x.a then x.a else lo) (by simp) (by simpa using hsl)
 have e1:=Zz (Z:=(S5 (.obj r)::S5 (.int lo)::S5 (.int hi)::o13)) (i:=3) (Z9 (Zb ec1 Zj) hs1) rfl
 have hr2:(U++[.list (((sel ts lo hi).map λx=>if lo<x.a then x.a else lo).map .int)]++[.list ((Zu ts lo hi).map .int)])[r]?=S5 (.list (ts.map T3.v)):=Zm (Zm hr)
 have hS0:(U++[.list (((sel ts lo hi).map λx=>if lo<x.a then x.a else lo).map .int)]++[.list ((Zu ts lo hi).map .int)])[(U++[O.list (((sel ts lo hi).map λx=>if lo<x.a then x.a else lo).map .int)]).length]?=S5 (.list ((Zu ts lo hi).map .int)):=by simp
 obtain ⟨n1,en1⟩ : ∃n1,n1=(U++[O.list (((sel ts lo hi).map λx=>if lo<x.a then x.a else lo).map .int)]).length:=⟨_,rfl⟩
 obtain ⟨U2,eU2⟩ : ∃U2,U2=U++[.list (((sel ts lo hi).map λx=>if lo<x.a then x.a else lo).map .int)]++[.list ((Zu ts lo hi).map .int)]:=⟨_,rfl⟩
 have e1:exec (Cd (d+2)) Zx9 (S5 (.obj r)::S5 (.int lo)::S5 (.int hi)::o13) U=S5 (.next,(S5 (.obj r)::S5 (.int lo)::S5 (.int hi)::S5 (.obj n1)::o12),U2):=by rw[eU2,en1];exact e1
 rw[← eU2] at hr2 hS0
 rw[← en1] at hS0
 have hpre:∃t,U2=U++t:=⟨_,by rw[eU2,Bn]⟩
 clear hs1 ec1 en1 eU2
 have ec2 := Ju (C := (Cd (d + 2))) (elt := .idx .v9 (.i 1)) (tg := 9) (it := .ex .v0) (ifs := .cons (.and (.cmp (.idx .v9 (.i 0)) (.one .le .v2)) (.cmp (.idx .v9 (.i 1)) (.one .ge .v1))) .nil)
   (Z:=(S5 (.obj r)::S5 (.int lo)::S5 (.int hi)::S5 (.obj n1)::o12)) (U:=U2) (U1:=U2) T3.v (λx=>if (decide (x.a<=hi)&&decide (lo<=x.b)) then S5 (V.int x.b) else N0) (Ux (n:=r) rfl hr2) hr2 (by simp) (by unfold Zo;exact Na 0x160f42405e603e83ec11 Tt hl) λx u_=>
    Zlh (hif (S5 (.obj n1)) N0 x U2) (Jx rfl (Jh _ _))
 rw[Jz,show (ts.filter λx=>decide (x.a<=hi)&&decide (lo<=x.b)).map (λx=>V.int x.b)=((sel ts lo hi).map λx=>x.b).map .int by simp[sel]] at ec2
 have hs2:=Zd6 (U:=U2++[.list (((sel ts lo hi).map λx=>x.b).map .int)]) (r:=U2.length) (l:=(sel ts lo hi).map λx=>x.b) (by simp) (by simpa using hsl)
 have e2:=Zz (Z:=(S5 (.obj r)::S5 (.int lo)::S5 (.int hi)::S5 (.obj n1)::o12)) (i:=4) (Z9 (Zb ec2 Zj) hs2) rfl
 have hS:(U2++[.list (((sel ts lo hi).map λx=>x.b).map .int)]++[.list ((Jc ts lo hi).map .int)])[n1]?=S5 (.list ((Zu ts lo hi).map .int)):=Zm (Zm hS0)
 have hE:(U2++[.list (((sel ts lo hi).map λx=>x.b).map .int)]++[.list ((Jc ts lo hi).map .int)])[(U2++[O.list (((sel ts lo hi).map λx=>x.b).map .int)]).length]?=S5 (.list ((Jc ts lo hi).map .int)):=by simp
 obtain ⟨n2,en2⟩ : ∃n2,n2=(U2++[O.list (((sel ts lo hi).map λx=>x.b).map .int)]).length:=⟨_,rfl⟩
 obtain ⟨U4,eU4⟩ : ∃U4,U4=U2++[.list (((sel ts lo hi).map λx=>x.b).map .int)]++[.list ((Jc ts lo hi).map .int)]:=⟨_,rfl⟩
 have e2:exec (Cd (d+2)) Zya (S5 (.obj r)::S5 (.int lo)::S5 (.int hi)::S5 (.obj n1)::o12) U2=S5 (.next,(S5 (.obj r)::S5 (.int lo)::S5 (.int hi)::S5 (.obj n1)::S5 (.obj n2)::o11),U4):=by rw[eU4,en2];exact e2
 rw[← eU4] at hS hE
 rw[← en2] at hE
 obtain h4:∃t,U4=U++t:=by obtain ⟨t,rfl⟩:=hpre;exact ⟨_,by rw[eU4,Bn,Bn]⟩
 clear hs2 ec2 en2 eU4 hpre hr2 hS0
 obtain hsl2:(Zu ts lo hi).length<=1000:=by unfold Zu;simpa using hsl
 have hSE:=Zwy (ts:=ts) (lo:=lo) (hi:=hi)
 obtain hgl:∀i,i<(Zu ts lo hi).length->gn (Jc ts lo hi) (nth (Zu ts lo hi) i)<=i:=λi hi'=>Zyy ho hi'
 have hEs:Zlq (Jc ts lo hi):=Zar _
 obtain hSs:Zlq (Zu ts lo hi):=Zar _
 generalize Zu ts lo hi=S at *
 generalize Jc ts lo hi=E at *
 have e5:∃Z U',exec (Cd (d+2)) Zwa (S5 (.obj r)::S5 (.int lo)::S5 (.int hi)::S5 (.obj n1)::S5 (.obj n2)::S5 (.tup [.int 0,.int lo])::S5 (.int 0)::o9) U4=S5 (.next,Z,U')/\∃b o1 o2,Best S E lo S.length b/\Z=(S5 (.obj r)::S5 (.int lo)::S5 (.int hi)::S5 (.obj n1)::S5 (.obj n2)::S5 (.tup [.int b.1,.int b.2])::o1::o2::o8)/\U'=U4:=by
  obtain hir:=Zcb (C:=(Cd (d+2))) (e:=Ex.blt .len (.cons .v3 .nil)) (Z:=(S5 (.obj r)::S5 (.int lo)::S5 (.int hi)::S5 (.obj n1)::S5 (.obj n2)::S5 (.tup [.int 0,.int lo])::S5 (.int 0)::o9)) (U:=U4) (U1:=U4) (n:=S.length) (by have:=Zim hS;rw[Bg] at this;exact Z9 rfl this) (by unfold Zo;exact Na 0x160f42405e603e83ec11 Tt hsl2)
  rw[Zwa,W6 hir]
  refine Zan (λk:Nat=>V.int k) (λxs Z U'=>∃j b g o,xs=Lz j (S.length-j)/\j<=S.length/\Best S E lo j b/\(∀i,j<=i->i<S.length->g<=gn E (nth S i))/\Z=(S5 (.obj r)::S5 (.int lo)::S5 (.int hi)::S5 (.obj n1)::S5 (.obj n2)::S5 (.tup [.int b.1,.int b.2])::S5 (.int (g:Nat))::o::o8)/\U'=U4) _ ?_ ?_ (C6 S.length) _ _ ⟨0,(0,lo),0,N0,by simp[L3],Na 0x16b0c1 Tt,Best.zero _ _ _,λu_ v_ w_=>C9 _,rfl,rfl⟩
  .intro Z U' hX2
   refine byC λhnX=>?_
   obtain ⟨j,b,g,o,fn1,fn2,hb,_,rfl,hq⟩:=hX2
   refine hnX ?_
   clear hnX
   have:j=S.length:=by
    have:=congrArg I7 fn1
    simp at this;exact Nc 0x18016018b2c210cbba1001001a10001ba11a11 Tt fn2 this (Zc _ _)
   subst this
   exact ⟨b,_,o,hb,rfl,hq⟩
  .intro k xs Z U' hX4
   refine byC λhnX=>?_
   obtain ⟨j,b,g,o,fn1,fn2,hb,hg,rfl,hq⟩:=hX4
   refine hnX ?_
   clear hnX
   rw[hq]
   clear hq U'
   refine ⟨by simp,.inl ?_⟩
   have hj:j<S.length:=by
    rcases Dc j S.length with h | h
    .exact h
    .rw[(by exact Nc 0x180b612c012cbba10101a10001ba1101a1001 Tt h (Zc _ _):S.length-j=0)] at fn1;simp at fn1
   obtain ⟨m,hm⟩ : ∃m,S.length-j=m+1:=⟨S.length-j-1,by exact Nd 0x18051a723c10ac032cbbba1001a1001ba11010001a010001bba10001a10001ba10101a10101 Tt hj (Zc _ _) (Zc _ _)⟩
   rw[hm,Lx] at fn1
   injection fn1 with fn1 h1'
   subst fn1
   have gS:=Zce hS hj
   have hgk:=hgl k hj
   obtain hw:=Zhf (test:=Zg (Cd (d+2)) (.cmp (.idx .v4 .v6) (.one .lt (.idx .v3 .v7)))) (body:=execs (Cd (d+2)) (.cons (.asg (.one 6) (.bin .add .v6 (.i 1))) .nil))
    (λg'=>(S5 (.obj r)::S5 (.int lo)::S5 (.int hi)::S5 (.obj n1)::S5 (.obj n2)::S5 (.tup [.int b.1,.int b.2])::S5 (.int (g':Nat))::S5 (.int k)::o8)) U4 (gn E (nth S k))
    (λg' hg'=>by
     have gE:=Zce hE (k:=g') (Ni 0x1701812732643704c101111 Tt hSE hj hgk hg')
     have:nth E g'<nth S k:=(lt_iff hEs (Ni 0x1701812732643704c101111 Tt hSE hj hgk hg') _).mpr hg'
     exact Zk (Zv rfl rfl gE) (Zv rfl rfl gS) (clT this))
    (by
     obtain gE:=Zce hE (k:=gn E (nth S k)) (Nd 0x1701812732603c10111 Tt hSE hj hgk)
     obtain this:¬ nth E (gn E (nth S k))<nth S k:=λh=>Gm (gn E (nth S k)) ((lt_iff hEs (k:=gn E (nth S k)) (Nd 0x1701812732603c10111 Tt hSE hj hgk) _).mp h)
     exact Zk (Zv rfl rfl gE) (Zv rfl rfl gS) (clF this))
    (λg' u_=>Zq rfl) Za3 g (hg k (Bp _) hj) (Bx (Mf _ _) (Bx hgk (Bx fn2 (Bx hsl2 (by decide)))))
   refine ⟨(S5 (.obj r)::S5 (.int lo)::S5 (.int hi)::S5 (.obj n1)::S5 (.obj n2)::S5 (.tup [.int (Zhe S E b k).1,.int (Zhe S E b k).2])::S5 (.int (gn E (nth S k):Nat))::S5 (.int k)::o8),U4,?_,trivial,k+1,Zhe S E b k,gn E (nth S k),_,by rw[h1',(by exact Ni 0x18018251ac243c0453acbbba101010001a101010101ba0001001a101010001bba11000101a10000001ba0001001a00101 Tt hm (Zc _ _) (Zc _ _):S.length-(k+1)=m)],by exact Nb 0x1650a1701c11 Tt hj,hb.step,λi fn1 fn2=>Zm3 E (Zkm hSs (by exact Nb 0x1601650a1c11 Tt fn1) fn2),rfl,rfl⟩
   refine Za (show exec _ (.whl _ _) _ _=_ from hw) (Zq ?_)
   unfold Zhe
   by_cases c:b.1<(k:Int)+1-gn E (nth S k)
   .rw[gp c]
    exact Z7 (Zk rfl (Jx rfl (Zg2 _ _ _)) (gtT c)) (Zq (Zz (Xi (Zb rfl (Zb (Zv rfl rfl gS) Zj)) rfl) rfl))
   .rw[gq c]
    exact Zn (Zk rfl (Jx rfl (Zg2 _ _ _)) (gtF c)) Zi
 refine byC λXX=>?_;obtain ⟨_,_,e5,b,o1,o2,hB,rfl,hq⟩:=e5;apply XX;clear XX
 rw[hq] at e5
 refine ⟨b,hB,?_⟩
 refine byC λXX=>?_;obtain ⟨t,rfl⟩:=h4;apply XX;clear XX
 exact Zbz fn6 rfl (Za (Y0 (Zl rfl (Zc7 d lo hi hl1 hle hh U))) (Za e1 (Za e2 (Za rfl (Za rfl (Za e5 rfl)))))) rfl
structure Dd where
 p:Bool
 x:T3
 ok:Bool
noncomputable def Zeg:Str:={ cps:=#[112,117,116] }
noncomputable def Zax:Str:={ cps:=#[116,97,107,101] }
noncomputable def Zdb:Str:={ cps:=#[100,111,110,101] }
noncomputable def Zdv:Str:={ cps:=#[116,119,105,99,101] }
noncomputable def Zbf:Str:={ cps:=#[109,105,115,115,105,110,103] }
def Zbg (p ok:Bool):Str:=if ok then Zdb else if p then Zdv else Zbf
def ddV (d:Dd):V:=.tup [.str (if d.p then Zeg else Zax),d.x.v,.str (Zbg d.p d.ok)]
noncomputable def nxt (S:List T3)(d:Dd):List T3:=if d.ok then (if d.p then S++[d.x] else S.filter λy=>!decide (y=d.x)) else S
noncomputable def beh (S:List T3)(d:Dd):List T3:=if d.ok then (if d.p then (S++[d.x]).mergeSort T3.le else S.filter λy=>!decide (y=d.x)) else S
theorem Zm4 {s s':Str}{b:Bool}(h:aw.strOk s=T1)(h':aw.strOk s'=T1)(hb:aw.eqv (.str s) (.str s')=b)(U:H):Yo .eq (.str s) (.str s') U=S5 b:=by
 obtain e1:∀s:Str,aw.strOk s=T1->toD 6 U (.str s)=S5 (.str s):=λs h=>gp h
 show eqV U (.str s) (.str s')=_
 unfold eqV
 rw[e1 s h,e1 s' h',← hb]
theorem Zur {s s':Str}{b:Bool}(h:aw.strOk s=T1)(h':aw.strOk s'=T1)(hb:aw.eqv (.str s) (.str s')=b)(U:H):Yo .ne (.str s) (.str s') U=S5 (!b):=by
 have:=Zm4 h h' hb U
 show (eqV U (.str s) (.str s')).map (!·)=_
 rw[show eqV U (.str s) (.str s')=S5 b from this];rfl
theorem Zlt (p:Bool)(U:H):Yo .eq (.str (if p then Zeg else Zax)) (.str { cps:=#[112,117,116] }) U=S5 p:=by
 cases p
 .exact Zm4 (by decide +kernel) (by decide +kernel) (by decide +kernel) U
 .exact Zm4 (by decide +kernel) (by decide +kernel) (by decide +kernel) U
theorem Zq5 (p ok:Bool)(U:H):Yo .ne (.str (Zbg p ok)) (.str { cps:=#[100,111,110,101] }) U=S5 (!ok):=by
 cases ok <;> cases p <;> exact Zur (by decide +kernel) (by decide +kernel) (by decide +kernel) U
theorem Tr.sz_bal (x:T3)(l r:Tr):(Tr.bal x l r).sz=l.sz+r.sz+1:=by
 rw[← Tr.sz_tl,Tr.tl_bal,Bq,C5,Tr.sz_tl,Tr.sz_tl];exact Nb 0x185051a5501acba1a1 Tt
theorem Tr.ins_sz (x:T3):∀{t t':Tr},Tr.ins x t=S5 t'->t'.sz=t.sz+1
 | .nil,t',h=>by refine siE h ?_;rfl
 | .node y l r,t',h=>by
  rw[Tr.ins_1] at h
  split at h
  .exact nn h
  .split at h
   .refine rEA (λa h1 hO2=>?_) (Bi.mp h);refine eqE hO2 ?_
    rw[Tr.sz_bal,Tr.ins_sz x h1];simp only[Tr.sz_0,Tr.sz_1];exact Nb 0x185550a1a55501aacba1a1 Tt
   .refine rEA (λa h1 hO2=>?_) (Bi.mp h);refine eqE hO2 ?_
    rw[Tr.sz_bal,Tr.ins_sz x h1];simp only[Tr.sz_0,Tr.sz_1];exact Nb 0x1855051aa55501aacba1a1 Tt
set_option tactic.hygienic true in
theorem Tr.del_sz:∀{t t':Tr} (x:T3),Tr.del x t=S5 t'->t'.sz+1=t.sz
 | .nil,t',x,h=>by exact nn h
 | .node y l r,t',x,h=>by
  rw[Tr.del_1] at h
  split at h
  .refine rEA (λa h1 hO2=>?_) (Bi.mp h);refine eqE hO2 ?_
   have:=Tr.del_sz x h1
   rw[Tr.sz_bal];simp only[Tr.sz_0,Tr.sz_1];exact Nc 0x1855501aa5521a850a2cba101a11 Tt this
  .split at h
   .refine rEA (λa h1 hO2=>?_) (Bi.mp h);refine eqE hO2 ?_
    have:=Tr.del_sz x h1
    rw[Tr.sz_bal];simp only[Tr.sz_0,Tr.sz_1];exact Nc 0x1855501aa5502a851a2cba101a11 Tt this
   .split at h
    .rename_i hn
     refine siE h ?_
     cases l with
     | nil=>simp only[Tr.sz_0,Tr.sz_1];exact Na 0x1850a55b0acba1a1 Tt
     | node _ _ _=>exact ft hn
    .split at h
     .rename_i hn
      refine siE h ?_
      cases r with
      | nil=>simp only[Tr.sz_0,Tr.sz_1]
      | node _ _ _=>exact ft hn
     .refine rEA (λa h1 hO2=>?_) (Bi.mp h);refine eqE hO2 ?_
      have:=Tr.del_sz _ h1
      rw[Tr.sz_bal];simp only[Tr.sz_0,Tr.sz_1];exact Nc 0x1855501aa5502a851a2cba101a11 Tt this
section
theorem T3.le_iff {x y:T3}:T3.le x y=T1↔(x.a<y.a\/(x.a=y.a/\(x.b<y.b\/(x.b=y.b/\x.c<=y.c)))):=by simp[T3.le]
theorem T3.le_ne {x y:T3}(h:T3.le x y=T1)(hn:x≠y):T3.lt x y=T1:=by
 rw[T3.lt_iff];rw[T3.le_iff] at h
 rcases h with h | ⟨h1,h | ⟨h2,h3⟩⟩
 .exact .inl h
 .exact .inr ⟨h1,.inl h⟩
 .exact .inr ⟨h1,.inr ⟨h2,Int.lt_iff_le_and_ne.mpr ⟨h3,λe=>hn (T3.eq_iff.mpr ⟨h1,h2,e⟩)⟩⟩⟩
theorem Zn9 {l:List T3}(hn:l.Nodup):Srt3 (l.mergeSort T3.le):=by
 obtain h1:(l.mergeSort T3.le).Pairwise (λx y=>T3.le x y=T1):=Dq (le:=T3.le) (λu_ v_ w_=>Yc) (λa b=>by
  show (T3.le a b||T3.le b a)=T1
  cases h:T3.le a b with
  | true=>rfl
  | false=>exact Y7 h) l
 obtain h2:(l.mergeSort T3.le).Nodup:=(D0 l T3.le).nodup_iff.mpr hn
 exact (h1.and h2).imp λh=>T3.le_ne h.1 h.2
theorem Srt3.nodup {l:List T3}(h:Srt3 l):l.Nodup:=Gn.imp (λh e=>by subst e;exact T3.lt_irr _ h) h
theorem Zwz {S:List T3}{d:Dd}(hs:Srt3 S)(hn:d.p=T1->d.ok=T1->d.x ∉ S):Srt3 (beh S d)/\∀y,y∈beh S d↔y∈nxt S d:=by
 refine byC λXX=>?_;obtain ⟨p,x,ok⟩:=d;apply XX
 cases ok with
 | false=>exact ⟨hs,λy=>Iff.rfl⟩
 | true=>
  cases p with
  | true=>
   refine ⟨Zn9 ?_,λy=>(D0 _ _).mem_iff⟩
   rw[G3]
   exact ⟨hs.nodup,by simp,λa ha b hb e=>by simp at hb;subst hb;subst e;exact hn rfl rfl ha⟩
  | false=>exact ⟨Gn.filter _ hs,λy=>Iff.rfl⟩
theorem Zte {d n k m:Nat}{ps:List Nat}{B:Ss}{as:List V}(hF:pg.fn n=S5 ⟨ps,k,B,.fresh⟩)(hs:Wr ⟨ps,k,B,.fresh⟩ as=S5 Z)(h:execs (Cd d) B Z U=S5 (.ret (.obj m),Z',U))(hm:m<U.length):cf (d+1) n as U=S5 (.ok (.obj m),U):=by
 rw[Xj hF hs];show gc .fresh U (Zab (execs (Cd d) B Z U))=_;rw[h];exact (gp Ge).trans (gp hm)
theorem Zw0 (e:Nat){d:Dd}{r:Nat}{ts:List T3}(hs:Srt3 ts)(hr:U[r]?=S5 (.list (ts.map T3.v)))(hl:ts.length<=1000) :
  ∃r' τ,cf (e+1) 39 [.obj r,ddV d] U=S5 (.ok (.obj r'),U++τ)/\(U++τ)[r']?=S5 (.list ((beh ts d).map T3.v)):=by
 refine byC λXX=>?_;obtain ⟨p,x,ok⟩:=d;apply XX
 obtain hrl:=(Ba.mp hr).1
 have c0:∀q,Zg (Cd e) (.cmp (.idx .v1 (.i 2)) (.one .ne (.lit (V.str { cps:=#[100,111,110,101] })))) (S5 (.obj r)::S5 (ddV ⟨p,x,q⟩)::o8) U=S5 (.ok (.bool (!q)),U):=λq=>Zk rfl Zd (Zq5 p q U)
 obtain c1:∀q,Zg (Cd e) (.cmp (.idx .v1 (.i 0)) (.one .eq (.lit (V.str { cps:=#[112,117,116] })))) (S5 (.obj r)::S5 (ddV ⟨p,x,q⟩)::o8) U=S5 (.ok (.bool p),U):=λq=>Zk rfl Zd (Zlt p U)
 cases ok with
 | false=>
  refine ⟨r,[],?_,by rw[Cn];exact hr⟩
  rw[Cn]
  exact Zte Zwf rfl (Zp (Z7 (c0 F0) rfl)) hrl
 | true=>
  refine ⟨U.length,[.list ((beh ts ⟨p,x,T1⟩).map T3.v)],?_,gl U _⟩
  cases p with
  | true=>
   generalize e1:U++[O.list [x.v]]=a1
   generalize e2:a1++[O.list ((ts++[x]).map T3.v)]=a2
   obtain q:Zg (Cd e) (.lst (.cons (.idx .v1 (.i 1)) .nil)) (S5 (.obj r)::S5 (ddV ⟨T1,x,T1⟩)::o8) U=S5 (.ok (.obj U.length),a1):=e1▸Uk rfl rfl
   obtain cc:=Zii (U:=a1) (i:=r) (j:=U.length) (e1▸Zm hr) (e1▸gl U _) (by rw[Bq,Bg];exact Bc (G9 hl 1) (by decide))
   rw[Zlk,e2] at cc
   obtain so:Uh .sorted [.obj a1.length] a2=S5 (.obj a2.length,a2++[.list (((ts++[x]).mergeSort T3.le).map T3.v)]):=by
    show ((Yj a2 (.obj a1.length)).bind Zbv).bind (Jb a2)=_
    rw[Zw (e2▸gl a1 _)]
    show (Zbv ((ts++[x]).map T3.v)).bind (Jb a2)=_
    rw[Zqj]
    exact Wl (by rw[Bg,Ky,Bq];exact Bc (G9 hl 1) (by decide)) a2
   obtain ⟨τ,hτ⟩ : ∃τ,a2++[O.list (((ts++[x]).mergeSort T3.le).map T3.v)]=U++τ:=by
    rw[← e2,← e1];simp only[Bn];exact ⟨_,rfl⟩
   obtain g:=gl a2 (O.list (((ts++[x]).mergeSort T3.le).map T3.v))
   rw[hτ] at so g
   exact We Zwf rfl (Za (Zn (c0 T1) Zi) (Zp (Z7 (c1 T1) (Zp (Yr (Z9 (Zb (Zh rfl q cc) Zj) so)))))) (by rw[← e2,← e1];simp) (Jv _ _) g
  | false=>
   obtain c:=Ju (C:=(Cd e)) (elt:=.var 3) (tg:=3) (it:=.ex (.var 0)) (ifs:=Es.cons (.cmp .v3 (.one .ne (.idx .v1 (.i 1)))) .nil) (Z:=(S5 (.obj r)::S5 (ddV ⟨F0,x,T1⟩)::o8)) T3.v (λy=>if (!decide (y=x))=T1 then S5 y.v else N0) (Ux rfl hr) hr (By rfl) (Bc hl (by decide)) λy u_=>Zlh (Zal (Zk rfl rfl (Z0p y x U))) rfl
   rw[Jz] at c
   exact We Zwf rfl (Za (Zn (c0 T1) Zi) (Za (Zn (c1 T1) Zi) (Zp (Yr c)))) (Bp _) (Jv _ _) (gl U _)
end
theorem Zoa {a b:Int}(h1:0<=a)(h2:a<1000):mulOK a b:=.inl (Bv (Zrj h1 h2) (by decide))
theorem Zlu {a b:Int}(h1:0<=b)(h2:b<1000):mulOK a b:=.inr (.inl (Bv (Zrj h1 h2) (by decide)))
theorem p60:(10:Int)^60=1000000000000000000000000000000000000000000000000000000000000:=by decide
theorem Zob {x:T3}(h1 : -1000<=x.a)(h2:x.a<=x.b)(h3:x.b<=1000)(h4 : -1000<=x.c)(h5:x.c<=1000):okT x:=by
 unfold okT;rw[p60];exact lz3 [(.zle (.g (.k 1000)) .v0),(.zle .v0 .v1),(.zle .v1 (.k 1000)),(.zle (.g (.k 1000)) .v2),(.zle .v2 (.k 1000))] (.an (.zlt (.g (.k 1000000000000000000000000000000000000000000000000000000000000)) .v0) (.an (.zle .v0 .v1) (.an (.zlt .v1 (.k 1000000000000000000000000000000000000000000000000000000000000)) (.an (.zlt (.g (.k 1000000000000000000000000000000000000000000000000000000000000)) .v2) (.zlt .v2 (.k 1000000000000000000000000000000000000000000000000000000000000)))))) (.s (.d 111) (.s (.d 1101) (.s (.d 11001) (.s (.d 110001) (.d 1100001))))) rfl h1 h2 h3 h4 h5
theorem Zq6 (s:Int) : -10^60<Zc4 s/\Zc4 s<10^60:=by
 unfold Zc4
 split
 .have:=Yv (s.fdiv 4*16807^14) (m:=2*10^60-1) (by decide)
  rw[p60] at *;exact lz1 [(.an (.zle .k0 .v0) (.zlt .v0 (.s (.m 2 (.k 1000000000000000000000000000000000000000000000000000000000000)) .k1)))] (.an (.zlt (.g (.k 1000000000000000000000000000000000000000000000000000000000000)) (.s .v0 (.s (.k 1000000000000000000000000000000000000000000000000000000000000) .k1))) (.zlt (.s .v0 (.s (.k 1000000000000000000000000000000000000000000000000000000000000) .k1)) (.k 1000000000000000000000000000000000000000000000000000000000000))) (.s (.d 111) (.d 1101)) rfl this
 .have:=Yv (s.fdiv 31232) (m:=7) (by decide)
  rw[p60];exact lz1 [(.an (.zle .k0 .v0) (.zlt .v0 (.k 7)))] (.an (.zlt (.g (.k 1000000000000000000000000000000000000000000000000000000000000)) (.s .v0 (.k 3))) (.zlt (.s .v0 (.k 3)) (.k 1000000000000000000000000000000000000000000000000000000000000))) (.s (.d 111) (.d 1101)) rfl this
theorem Zkn (s:Int):okT (Zg0 s):=by
 obtain h1:=Zj9 s
 obtain h2:=Zn1 s
 obtain h3:=Zq6 s
 refine ⟨?_,h2,?_,h3.1,h3.2⟩
 .show _<W0 s;rw[p60] at *;exact lz1 [(.an (.zle (.g (.s (.k 1000000000000000000000000000000000000000000000000000000000000) .k1)) .v0) (.zle .v0 (.s (.k 1000000000000000000000000000000000000000000000000000000000000) .k1)))] (.zlt (.g (.k 1000000000000000000000000000000000000000000000000000000000000)) .v0) (.d 111) rfl h1
 .show (if 10^60-1<W0 s+Q7 s then 10^60-1 else W0 s+Q7 s)<10^60
  split <;> (rw[p60] at *;lia)
noncomputable def Zlv (s:Int):List T3:=(C6 ((s.fdiv 1476).fmod 16+4).toNat).map λk:Nat=>⟨s.fmod 41-20+(s.fdiv 41).fmod 4*(k:Int),s.fmod 41-20+(s.fdiv 41).fmod 4*(k:Int)+(k:Int).fmod (1+(s.fdiv 164).fmod 3),(k:Int).fdiv (1+(s.fdiv 492).fmod 3)⟩
theorem Ztf (k:Nat){m:Int}(h:0<m):0<=(k:Int).fdiv m/\(k:Int).fdiv m<=k:=by
 obtain h1:=Int.fdiv_nonneg (a:=k) (b:=m) (by exact ln1 [] (.zle .k0 (.n .v0)) (.d 11) rfl) (Ia 0x16b07b0c11 Tt h)
 refine ⟨h1,?_⟩
 rw[Iu _ (by exact Ia 0x16b07b0c11 Tt h)]
 exact Int.ediv_le_self _ (by exact ln1 [] (.zle .k0 (.n .v0)) (.d 11) rfl)
theorem Zm5 (s:Int):(Zlv s).length<=20/\∀x∈Zlv s,okT x:=by
 obtain h1:=Yv (s.fdiv 1476) (m:=16) (by decide)
 obtain h2:=Yv s (m:=41) (by decide)
 obtain h3:=Yv (s.fdiv 41) (m:=4) (by decide)
 obtain h4:=Yv (s.fdiv 164) (m:=3) (by decide)
 obtain h5:=Yv (s.fdiv 492) (m:=3) (by decide)
 refine ⟨by unfold Zlv;rw[Bg,G4];exact lin [(.an (.zle .k0 .v0) (.zlt .v0 (.k 16))),(.nt .v0 (.a .v0 (.k 4)))] (.le .v0 (.k 20)) (.s (.d 110101) (.d 10101)) rfl [_] [_] h1 (W7 _),λx hx=>?_⟩
 refine rEA (λk hk hO2=>?_) (C0.mp hx);refine eqE hO2 ?_
 obtain hk:=Dr.mp hk
 obtain h6:=Yv (k:Int) (m:=1+(s.fdiv 164).fmod 3) (Ia 0x17b5a0f6b07031ec11 Tt h4)
 obtain h7:=Ztf k (m:=1+(s.fdiv 492).fmod 3) (Ia 0x17b5a0f6b07031ec11 Tt h5)
 obtain h8:0<=(s.fdiv 41).fmod 4*(k:Int):=Mc h3.1 (by exact ln1 [] (.zle .k0 (.n .v0)) (.d 11) rfl)
 obtain h9:(s.fdiv 41).fmod 4*(k:Int)<=3*20:=Md (Ia 0x16031ef6b07041ec101 Tt h3) (by exact lin [(.an (.zle .k0 .v0) (.zlt .v0 (.k 16))),(.lt .v0 .v1),(.nt .v1 (.a .v0 (.k 4)))] (.zle (.n .v0) (.k 20)) (.s (.d 1101101) (.d 101001)) rfl [_,_] [_] h1 hk (W7 _)) (by exact ln1 [] (.zle .k0 (.n .v0)) (.d 11) rfl) (by exact lin [] (.zle .k0 (.k 3)) (.d 11) rfl [] [])
 exact Zob (by show _<=s.fmod 41-20+(s.fdiv 41).fmod 4*(k:Int);exact Ib 0x169d3e83e5c0142e1f6b070292e6b1c1101 Tt h2 h8) (by show s.fmod 41-20+(s.fdiv 41).fmod 4*(k:Int)<=s.fmod 41-20+(s.fdiv 41).fmod 4*(k:Int)+_;exact Id 0x165c0142e155c0142e12f6b2725a3c11 Tt h6) (by show s.fmod 41-20+(s.fdiv 41).fmod 4*(k:Int)+_<=_;exact Id 0x1655c0142e123e83ef6b070292ef6b37331ef6b2725a36138d142ec10101011 Tt h2 h4 h6 h9) (by show _<=(k:Int).fdiv _;exact lin [(.an (.zle .k0 .v0) (.zle .v0 (.n .v0)))] (.zle (.g (.k 1000)) .v0) (.d 111) rfl [_] [_] h7) (by show (k:Int).fdiv _<=_;exact lin [(.an (.zle .k0 .v1) (.zlt .v1 (.k 16))),(.lt .v0 .v1),(.an (.zle .k0 .v0) (.zle .v0 (.n .v0))),(.nt .v1 (.a .v1 (.k 4)))] (.zle .v0 (.k 1000)) (.s (.d 110110101) (.d 10100001)) rfl [_,_] [_,_] h1 hk h7 (W7 _))
section
theorem Zm6 {C:Cl}{a:Ex}{lo hi st:Oe}{U2 U3 U4 U5:H}{x l u s v:V}(ha:Zg C a Z U=S5 (.ok x,U1))(hl:Zb3 C lo Z U1=S5 (.ok l,U2))(hu:Zb3 C hi Z U2=S5 (.ok u,U3))(hs:Zb3 C st Z U3=S5 (.ok s,U4))(h:Qm U4 x l u s=S5 (v,U5)):Zg C (.slc a lo hi st) Z U=S5 (.ok v,U5) :=
 (Z8 ha).trans ((Z8 hl).trans ((Z8 hu).trans ((Z8 hs).trans (by show okH (Qm U4 x l u s)=_;rw[h];rfl))))
theorem Zw1 (d:Nat)(s:Int)(U:H):cf (d+1) 34 [.int s] U=S5 (.ok (.obj U.length),U++[.list ((Zlv s).map T3.v)]):=by
 obtain h1:=Yv (s.fdiv 1476) (m:=16) (by decide)
 obtain h4:=Yv (s.fdiv 164) (m:=3) (by decide)
 obtain h5:=Yv (s.fdiv 492) (m:=3) (by decide)
 obtain hn:(((s.fdiv 1476).fmod 16+4).toNat:Int)=(s.fdiv 1476).fmod 16+4:=Ij (Ia 0x16b5041ef6b070102ec11 Tt h1)
 obtain cm:=Ju (C:=(Cd d)) (elt:=Ex.tup (.cons (.bin .add .v1 (.bin .mul .v2 .v6)) (.cons (.bin .add (.bin .add .v1 (.bin .mul .v2 .v6)) (.bin .mod .v6 .v3)) (.cons (.bin .fdiv .v6 .v4) .nil)))) (tg:=6) (it:=It.rng1 (.bin .add (.bin .mod (.bin .fdiv .v0 (.i 1476)) (.i 16)) (.i 4))) (ifs:=.nil)
  (Z:=(S5 (.int s)::S5 (.int (s.fmod 41-20))::S5 (.int ((s.fdiv 41).fmod 4))::S5 (.int (1+(s.fdiv 164).fmod 3))::S5 (.int (1+(s.fdiv 492).fmod 3))::o8)) (U:=U) (U1:=U) (keep:=λu_=>True) (λk:Nat=>V.int k) (λk:Nat=>S5 (T3.v ⟨s.fmod 41-20+(s.fdiv 41).fmod 4*k,s.fmod 41-20+(s.fdiv 41).fmod 4*k+(k:Int).fmod (1+(s.fdiv 164).fmod 3),(k:Int).fdiv (1+(s.fdiv 492).fmod 3)⟩)) (Zcb (n:=((s.fdiv 1476).fmod 16+4).toNat) (by rw[hn];exact Zh (Zh (Zh rfl Zd (Zt (fd 1476) U)) Zd (Zs (by decide) U)) Zd (Yg _ _ _)) (Bc (show _<=20 by exact lin [(.an (.zle .k0 .v0) (.zlt .v0 (.k 16))),(.zeq (.n .v0) (.a .v0 (.k 4)))] (.le .v0 (.k 20)) (.d 11011) rfl [_] [_] h1 hn) (by decide))) trivial (By rfl) (by rw[G4];exact Bc (show _<=20 by exact lin [(.an (.zle .k0 .v0) (.zlt .v0 (.k 16))),(.zeq (.n .v0) (.a .v0 (.k 4)))] (.le .v0 (.k 20)) (.d 11011) rfl [_] [_] h1 hn) (by decide)) λk hk=>by
   obtain hk:=Dr.mp hk
   obtain m3:=Zh (C:=(Cd d)) (Z:=(S5 (.int s)::S5 (.int (s.fmod 41-20))::S5 (.int ((s.fdiv 41).fmod 4))::S5 (.int (1+(s.fdiv 164).fmod 3))::S5 (.int (1+(s.fdiv 492).fmod 3))::N0::S5 (.int (k:Nat))::o6)) (op:=.add) (Zr (i:=1) rfl) (Zh (op:=.mul) (Zr (i:=2) rfl) (Zr (i:=6) rfl) (Jy (Zlu (by exact ln1 [] (.zle .k0 (.n .v0)) (.d 11) rfl) (by exact lin [(.an (.zle .k0 .v0) (.zlt .v0 (.k 16))),(.zeq (.n .v1) (.a .v0 (.k 4))),(.lt .v0 .v1)] (.zlt (.n .v0) (.k 1000)) (.d 1101101) rfl [_,_] [_] h1 hn hk)) U)) (Yg _ _ U)
   exact Zlh (p:=T1) Zfr (Xi (Zb m3 (Zb (Zh m3 (Zh rfl rfl (Zs (by exact Ia 0x1985a0bf6b07031ec101 Tt h4) U)) (Yg _ _ _)) (Zb (Zh rfl rfl (Zt ⟨by exact Ia 0x1985a0bf6b07031ec101 Tt h5,Bv (Zrj (n:=10) (Mb (by decide) h5.1) (Dt (Int.add_lt_add_left h5.2 1) (by decide))) (by decide)⟩ U)) Zj))) rfl)
 obtain e:((C6 ((s.fdiv 1476).fmod 16+4).toNat).filterMap λk:Nat=>S5 (T3.v ⟨s.fmod 41-20+(s.fdiv 41).fmod 4*k,s.fmod 41-20+(s.fdiv 41).fmod 4*k+(k:Int).fmod (1+(s.fdiv 164).fmod 3),(k:Int).fdiv (1+(s.fdiv 492).fmod 3)⟩))=(Zlv s).map T3.v:=by
  unfold Zlv;rw[Cx,De];rfl
 rw[e] at cm
 exact We Zzy rfl (Za (Zz (Zh (Zh rfl Zd (Zs (by decide) U)) Zd (Y3 _ _ _)) rfl) (Za (Zz (Zh (Zh rfl Zd (Zt (fd 41) U)) Zd (Zs (by decide) U)) rfl) (Za (Zz (Zh Zd (Zh (Zh rfl Zd (Zt (fd 164) U)) Zd (Zs (by decide) U)) (Yg _ _ _)) rfl) (Za (Zz (Zh Zd (Zh (Zh rfl Zd (Zt (fd 492) U)) Zd (Zs (by decide) U)) (Yg _ _ _)) rfl) (Zp (Yr cm)))))) (Bp _) (Jv _ _) (gl U _)
set_option tactic.hygienic true in
theorem Ztg (d:Nat)(s:Int){r:Nat}{ts:List T3}(hr:U[r]?=S5 (.list (ts.map T3.v)))(hne:0<ts.length)(ho:∀x∈ts,okT x):∃y,okT y/\cf (d+1) 35 [.int s,.obj r] U=S5 (.ok y.v,U):=by
 refine rEA (λx hx e=>?_) (Zc8 hr hne (s.fdiv 3))
 refine Zl1 (λo1 o2 o3 o4 o5=>?_) (ho x hx)
 obtain s0:exec (Cd d) Zt7 (S5 (.int s)::S5 (.obj r)::o9) U=S5 (.next,(S5 (.int s)::S5 (.obj r)::S5 x.v::o8),U):=Zz (Zv rfl (Zh (Zh rfl Zd (Zt (fd 3) U)) (Z9 rfl (Zcd hr)) (Zs (by exact ln1 [(.lt .k0 .v0)] (.no (.zeq (.n .v0) .k0)) (.d 1101) rfl hne) U)) e) rfl
 by_cases h:0<x.c
 .refine ⟨⟨x.a,x.b,x.c-1⟩,⟨o1,o2,o3,?_,?_⟩,?_⟩
  .show _<x.c-1;rw[p60] at *;exact lz1 [(.zlt .k0 .v0)] (.zlt (.g (.k 1000000000000000000000000000000000000000000000000000000000000)) (.s .v0 .k1)) (.d 111) rfl h
  .show x.c-1<_;rw[p60] at *;exact lz1 [(.zlt .v0 (.k 1000000000000000000000000000000000000000000000000000000000000))] (.zlt (.s .v0 .k1) (.k 1000000000000000000000000000000000000000000000000000000000000)) (.d 111) rfl o5
  .exact Yu Zyi rfl (Za s0 (Zp (Z7 (Zk rfl Zd (gtT h)) rfl))) rfl
 .refine ⟨⟨x.a,x.b,x.c+1⟩,⟨o1,o2,o3,?_,?_⟩,?_⟩
  .show _<x.c+1;rw[p60] at *;exact lz1 [(.zlt (.g (.k 1000000000000000000000000000000000000000000000000000000000000)) .v0)] (.zlt (.g (.k 1000000000000000000000000000000000000000000000000000000000000)) (.a .v0 .k1)) (.d 111) rfl o4
  .show x.c+1<_;rw[p60] at *;exact lz1 [(.no (.zlt .k0 .v0))] (.zlt (.a .v0 .k1) (.k 1000000000000000000000000000000000000000000000000000000000000)) (.d 111) rfl h
  .exact Yu Zyi rfl (Za s0 (Za (Zn (Zk rfl Zd (gtF h)) Zi) rfl)) rfl
theorem Zoc (U:H)(is:List Int):(is.map V.int).mapM (toD 6 U)=S5 (is.map aw.int):=Zfy 5 U is
theorem Zko (i:Int)(is:List Int)(U:H):∃b,Yo .mem (.int i) (.tup (is.map .int)) U=S5 b:=by
 refine ⟨(is.map aw.int).any λy=>aw.eqv y (.int i),?_⟩
 show inV U (.int i) (is.map V.int)=_
 unfold inV
 rw[Zoc]
 rfl
theorem Zhg {α:Type}:∀(l:List α) (x:α),x∈evens l->x∈l
 | [],_,h=>h
 | [_],_,h=>h
 | a::b::r,x,h=>by
  rcases Be.mp h with h | h
  .subst h;simp
  .have:=Zhg r x h;simp[this]
theorem Zhh {α β:Type}(f:α->β):∀l:List α,evens (l.map f)=(evens l).map f
 | []=>rfl
 | [_]=>rfl
 | a::b::r=>congrArg (Lo (f a)) (Zhh f r)
theorem Zhi {α:Type}:∀l:List α,(evens l).length<=l.length
 | []=>Bp _
 | [_]=>Bp _
 | a::b::r=>Df (Cy (Zhi r))
theorem Zod (d:Nat)(c s:Int)(hs:Big s){r:Nat}{ts:List T3}(hr:U[r]?=S5 (.list (ts.map T3.v)))(hl:ts.length<=2000)(ho:∀x∈ts,okT x) :
  ∃L:List T3,L.length<=20/\(∀x∈L,okT x)/\cf (d+2) 36 [.int c,.int s,.obj r] U=S5 (.ok (.obj U.length),U++[.list (L.map T3.v)]):=by
 have hlen:=λ(Z:L) (h:Z[2]?.join=S5 (.obj r))=>Z9 (C:=(Cd (d+1))) (f:=.len) (Zb (a:=.var 2) (Zr h) Zj) (Zcd hr)
 have c8:Zg (Cd (d+1)) (.bin .mod .v0 (.i 8)) (S5 (.int c)::S5 (.int s)::S5 (.obj r)::o8) U=S5 (.ok (.int (c.fmod 8)),U):=Zh rfl Zd (Zs (by decide) U)
 have fin:∀(y:T3) (Z':L),okT y->execs (Cd (d+1)) B36 (S5 (.int c)::S5 (.int s)::S5 (.obj r)::o8) U=S5 (.ret (.obj U.length),Z',U++[.list [y.v]])->∃L:List T3,L.length<=20/\(∀x∈L,okT x)/\cf (d+2) 36 [.int c,.int s,.obj r] U=S5 (.ok (.obj U.length),U++[.list (L.map T3.v)]):=λy Z' hy h=>⟨[y],by simp,λx hx=>by rw[Bo.mp hx];exact hy,We Zwe rfl h (Bp _) (Jv _ [y]) (gl U _)⟩
 -- the first row
 have a0:∃b0,Zg (Cd (d+1)) (.and (.cmp (.bin .mod .v0 (.i 8)) (.one .eq (.i 7))) (.cmp (.blt .len (.cons .v2 .nil)) (.one .lt (.i 40)))) (S5 (.int c)::S5 (.int s)::S5 (.obj r)::o8) U=S5 (.ok (.bool b0),U):=⟨_,Zba (Zk c8 Zd rfl) (Zk (hlen _ rfl) Zd rfl)⟩
 revert a0;refine rE λb0 a0=>?_
 cases b0 with
 | true=>exact ⟨Zlv s,(Zm5 s).1,(Zm5 s).2,We Zwe rfl (Zp (Z7 a0 (Zp (Yr (Zl rfl (Zw1 d s U)))))) (Bp _) (Jv _ _) (gl U _)⟩
 | false=>
  refine rE (λbm hm=>?_) (Zko (c.fmod 8) [2,3] U)
  by_cases hne:0<ts.length
  .have g0:=Zk (hlen (S5 (.int c)::S5 (.int s)::S5 (.obj r)::o8) rfl) (Zd (v:=.int 0)) (gtT (i:=ts.length) (j:=0) (by exact ln1 [(.lt .k0 .v0)] (.zlt .k0 (.n .v0)) (.d 111) rfl hne))
   have a1:∃b1,Zg (Cd (d+1)) (.and (.cmp (.blt .len (.cons .v2 .nil)) (.one .gt (.i 0))) (.and (.cmp (.bin .mod .v0 (.i 8)) (.one .mem (.tup (.cons (.i 2) (.cons (.i 3) .nil))))) (.cmp (.bin .mod (.bin .fdiv .v1 (.i 5)) (.i 3)) (.one .eq (.i 0))))) (S5 (.int c)::S5 (.int s)::S5 (.obj r)::o8) U=S5 (.ok (.bool b1),U) :=
    ⟨_,Zba g0 (Zba (Zk c8 rfl hm) (Zk (Zh (Zh rfl Zd (Zt (fd 5) U)) Zd (Zs (by decide) U)) Zd rfl))⟩
   revert a1;refine rE λb1 a1=>?_
   cases b1 with
   | true=>
    refine rEA (λy hy e=>?_) (Ztg d s hr hne ho)
    exact fin y _ hy (Za (Zn a0 Zi) (Zp (Z7 a1 (Zp (Yr (Uk (Zb (Zl rfl e) Zj) rfl))))))
   | false=>
    by_cases h3:3<c.fmod 8
    .have a2:=Zba (Zk c8 (Zd (v:=.int 3)) (gtT h3)) g0
     by_cases h6:c.fmod 8=6
     .have h2:=Yv s (m:=2) (by decide)
      obtain q1:Zg (Cd (d+1)) (.slc .v2 (.yes (.bin .mod .v1 (.i 2))) .no (.yes (.i 2))) (S5 (.int c)::S5 (.int s)::S5 (.obj r)::o8) U=S5 (.ok (.obj U.length),U++[.list ((evens (ts.drop (Yt (s.fmod 2) ts.length))).map T3.v)]):=by
       have sv:Qm U (.obj r) (.int (s.fmod 2)) .none (.int 2)=S5 (.obj U.length,U++[.list ((evens (ts.drop (Yt (s.fmod 2) ts.length))).map T3.v)]):=by
        unfold Qm
        rw[Zw hr]
        show (Zde (ts.map T3.v) (.int (s.fmod 2)) .none (.int 2)).bind (Jb U)=_
        obtain this:Zde (ts.map T3.v) (.int (s.fmod 2)) .none (.int 2)=S5 ((evens (ts.drop (Yt (s.fmod 2) ts.length))).map T3.v):=by
         show S5 (evens ((ts.map T3.v).drop (Yt (s.fmod 2) (ts.map T3.v).length)))=_
         rw[← List.map_drop,Zhh,Bg]
        rw[this]
        exact Wl (by rw[Bg];exact Bc (Bc (Zhi _) (by rw[Lv];exact Nc 0x1607d03e617d03ec012cba1101a1001 Tt hl (Zc _ _))) (show 2000<=Zo by decide)) U
       exact Zm6 rfl (Zh rfl Zd (Zs (by decide) U)) rfl rfl sv
      obtain q2:Zg (Cd (d+1)) (.slc (.slc .v2 (.yes (.bin .mod .v1 (.i 2))) .no (.yes (.i 2))) .no (.yes (.i 20)) .no) (S5 (.int c)::S5 (.int s)::S5 (.obj r)::o8) U=S5 (.ok (.obj (U++[O.list ((evens (ts.drop (Yt (s.fmod 2) ts.length))).map T3.v)]).length),U++([.list ((evens (ts.drop (Yt (s.fmod 2) ts.length))).map T3.v)]++[.list (((evens (ts.drop (Yt (s.fmod 2) ts.length))).take (Yt 20 (evens (ts.drop (Yt (s.fmod 2) ts.length))).length)).map T3.v)])):=by
       generalize hE:evens (ts.drop (Yt (s.fmod 2) ts.length))=E at *
       obtain sv:Qm (U++[.list (E.map T3.v)]) (.obj U.length) .none (.int 20) .none=S5 (.obj (U++[O.list (E.map T3.v)]).length,U++([.list (E.map T3.v)]++[.list ((E.take (Yt 20 E.length)).map T3.v)])):=by
        unfold Qm
        rw[Zw (gl U _)]
        show (Zde (E.map T3.v) .none (.int 20) .none).bind (Jb (U++[O.list (E.map T3.v)]))=_
        obtain this:Zde (E.map T3.v) .none (.int 20) .none=S5 ((E.take (Yt 20 E.length)).map T3.v):=by
         show S5 (((E.map T3.v).take (Yt 20 (E.map T3.v).length)).drop 0)=_
         rw[Iq,Bg,Mk]
        rw[this]
        show Jb _ _=_
        rw[Wl (by rw[Bg,Dp];exact Bc (D1 _ _) (Bc (show Yt 20 E.length<=20 by unfold Yt;rw[gq (by decide)];exact D1 _ _) (by decide))) _,Bn]
       exact Zm6 q1 rfl rfl rfl sv
      refine ⟨(evens (ts.drop (Yt (s.fmod 2) ts.length))).take (Yt 20 (evens (ts.drop (Yt (s.fmod 2) ts.length))).length),?_,λx hx=>ho x (List.mem_of_mem_drop (Zhg _ _ (L4 hx))),?_⟩
      .rw[Dp];exact Bc (D1 _ _) (show Yt 20 _<=20 by unfold Yt;rw[gq (by decide)];exact D1 _ _)
      .refine We Zwe rfl (Za (Zn a0 Zi) (Za (Zn a1 Zi) (Zp (Z7 a2 (Zp (Z7 (Zk c8 Zd (eqT h6)) (Zp (Yr q2)))))))) (by rw[Bq];exact Cc _ _) (Jv _ _) ?_
       rw[← Bn];exact gl _ _
     .refine rEA (λy hy e=>?_) (Zc8 hr hne (s.fdiv 3))
      exact fin y _ (ho y hy) (Za (Zn a0 Zi) (Za (Zn a1 Zi) (Zp (Z7 a2 (Za (Zn (Zk c8 Zd (eqF h6)) Zi) (Zp (Yr (Uk (Zb (Zv rfl (Zh (Zh rfl Zd (Zt (fd 3) U)) (hlen _ rfl) (Zs (by exact ln1 [(.lt .k0 .v0)] (.no (.zeq (.n .v0) .k0)) (.d 1101) rfl hne) U)) e) Zj) rfl))))))))
    .have a2:=Zba (Zk c8 (Zd (v:=.int 3)) (gtF h3)) g0
     exact fin _ _ (Zkn s) (Za (Zn a0 Zi) (Za (Zn a1 Zi) (Za (Zn a2 Zi) (Zp (Yr (Uk (Zb (Zl rfl (Zmu d s U hs)) Zj) rfl))))))
  .obtain g0:=Zk (hlen (S5 (.int c)::S5 (.int s)::S5 (.obj r)::o8) rfl) (Zd (v:=.int 0)) (gtF (i:=ts.length) (j:=0) (by exact ln1 [(.no (.lt .k0 .v0))] (.no (.zlt .k0 (.n .v0))) (.d 111) rfl hne))
   obtain a2:=Zba (Zk (op:=.gt) c8 (Zd (v:=.int 3)) rfl) g0
   rw[Bool.and_false] at a2
   exact fin _ _ (Zkn s) (Za (Zn a0 Zi) (Za (Zn (Qo g0) Zi) (Za (Zn a2 Zi) (Zp (Yr (Uk (Zb (Zl rfl (Zmu d s U hs)) Zj) rfl))))))
end
def Um (ts:List T3)(c:Int×Int)(p:Int):Int×Int:=if c.1<(Jm ts p:Int) then ((Jm ts p:Int),p) else c
theorem Zq7 (ts:List T3):∀(ps:List Int) (c:Int×Int),(c.2::ps).Pairwise (·<=·)->(Jm ts c.2:Int)=c.1->(Jm ts (ps.foldl (Um ts) c).2:Int)=(ps.foldl (Um ts) c).1/\(ps.foldl (Um ts) c).2∈c.2::ps/\∀p∈c.2::ps,(Jm ts p:Int)<=(ps.foldl (Um ts) c).1/\((Jm ts p:Int)=(ps.foldl (Um ts) c).1->(ps.foldl (Um ts) c).2<=p)
 | [],c,_,h=>⟨h,Bf,λp hp=>by rw[Bo.mp hp];exact ⟨Ga h,λu_=>Cb _⟩⟩
 | p::r,c,hp,h=>by
  have h1:=D5.mp hp
  by_cases k:c.1<(Jm ts p:Int)
  .have e:(p::r).foldl (Um ts) c=r.foldl (Um ts) ((Jm ts p:Int),p):=by rw[M9,Um,gp k]
   rw[e]
   refine rAA (λa1 a2 a3=>⟨a1,Bb _ a2,λq hq=>?_⟩) (Zq7 ts r ((Jm ts p:Int),p) h1.2 rfl)
   rcases Be.mp hq with e | hq
   .have:=Dt k (a3 p Bf).1
    rw[e,h];exact ⟨D6 this,λe=>absurd e (Int.ne_of_lt this)⟩
   .exact a3 q hq
  .have e:(p::r).foldl (Um ts) c=r.foldl (Um ts) c:=by rw[M9,Um,gq k]
   rw[e]
   refine rAA (λa1 a2 a3=>⟨a1,?_,λq hq=>?_⟩) (Zq7 ts r c (D5.mpr ⟨λq hq=>h1.1 q (Bb _ hq),(D5.mp h1.2).2⟩) h)
   .rcases Be.mp a2 with e | a2
    .rw[e];exact Bf
    .exact Bb _ (Bb _ a2)
   .have a0:=a3 c.2 Bf
    rcases Be.mp hq with e | hq
    .rw[e];exact a0
    rcases Be.mp hq with e | hq
    .have k1:=Cp (Dh.mp k) (h▸a0.1)
     rw[e];exact ⟨k1,λe=>Cp (a0.2 (h.trans (D9 (h▸a0.1) (e▸Dh.mp k)))) (h1.1 p Bf)⟩
    .exact a3 q (Bb _ hq)
noncomputable def J6 (ts:List T3)(lo hi:Int):List Int:=(ts.filter λx=>decide (lo<x.a)&&decide (x.a<=hi)).map T3.a
def Xo (ts:List T3)(lo hi:Int):Int×Int:=(lo::J6 ts lo hi).foldl (Um ts) (0,lo)
theorem Zoe {ts:List T3}{q:Int}(h:∀x∈ts,x.a≠q):Jm ts q<=Jm ts (q-1):=by
 unfold Jm
 rw[← Dz,← Dz]
 refine I1 λx hx e=>?_
 obtain hn:=h x hx
 simp only[Bs,decide_eq_true_eq] at e ⊢
 exact ⟨Ic 0x160c1af6016129801cba1001a0101 Tt e hn,Ic 0x16c0a1f620601c101 Tt e⟩
theorem Zth {ts:List T3}{lo hi:Int}(hs:ts.Pairwise λx y=>x.a<=y.a){b:Int×Int}(h1:lo<=b.2)(h2:b.2<=hi)(h3:(Jm ts b.2:Int)=b.1)(h4:∀q,lo<=q->q<=hi->(Jm ts q:Int)<=b.1/\((Jm ts q:Int)=b.1->b.2<=q)):Xo ts lo hi=b:=by
 obtain e0:Xo ts lo hi=(J6 ts lo hi).foldl (Um ts) ((Jm ts lo:Int),lo):=by
  show (J6 ts lo hi).foldl (Um ts) (Um ts (0,lo) lo)=_
  congr 1
  unfold Um;split
  .rfl
  .exact Prod.ext (by show 0=(Jm ts lo:Int);lia) rfl
 obtain pm:∀p∈J6 ts lo hi,lo<p/\p<=hi:=λp hp=>by
  refine rEA (λx hx e=>?_) (C0.mp hp)
  have:=(Cr.mp hx).2
  simp only[Bs,decide_eq_true_eq] at this
  rw[← e];exact this
 obtain hp:(lo::J6 ts lo hi).Pairwise (·<=·):=D5.mpr ⟨λp hp=>D6 (pm p hp).1,Lk.mpr (Gn.filter _ hs)⟩
 refine rAA (λa1 a2 a3=>?_) (Zq7 ts (J6 ts lo hi) ((Jm ts lo:Int),lo) hp rfl)
 rw[← e0] at a1 a2 a3
 obtain hb:b.2∈lo::J6 ts lo hi:=by
  by_cases hl:b.2=lo
  .rw[hl];exact Bf
  by_cases hx:∃x∈ts,x.a=b.2
  .refine rEA (λx hx e=>Bb _ (C0.mpr ⟨x,Cr.mpr ⟨hx,?_⟩,e⟩)) hx
   rw[e,decide_eq_true h2,decide_eq_true (show lo<b.2 by exact Ib 0x17016019810cba011a101 Tt h1 hl)];rfl
  .have:=Zoe (ts:=ts) (q:=b.2) λx hm e=>hx ⟨x,hm,e⟩
   have:=h4 (b.2-1) (Ib 0x160c1a6019810cba011a101 Tt h1 hl) (Ib 0x16c0a1601c11 Tt h2)
   have:=this.2 (by lia)
   lia
 obtain hc:lo<=(Xo ts lo hi).2/\(Xo ts lo hi).2<=hi:=by
  rcases Be.mp a2 with e | a2
  .rw[e];exact ⟨Cb _,Cp h1 h2⟩
  .exact ⟨D6 (pm _ a2).1,(pm _ a2).2⟩
 obtain q1:=a3 b.2 hb
 obtain q2:=h4 _ hc.1 hc.2
 rw[a1] at q2
 obtain e1:(Xo ts lo hi).1=b.1:=D9 q2.1 (h3▸q1.1)
 exact Prod.ext e1 (D9 (q1.2 (h3.trans e1.symm)) (q2.2 e1))
noncomputable def lcD (r:Nat)(lo hi:Int)(c:Int×Int)(v3 v4:Option V):L:=(S5 (.obj r)::S5 (.tup [.int lo,.int hi])::S5 (.tup [.int c.1,.int c.2])::v3::v4::o8)
set_option tactic.hygienic true in
theorem Zti (d:Nat)(lo hi:Int)(U:H)(r:Nat)(ts:List T3)(hr:U[r]?=S5 (.list (ts.map T3.v)))(hl:ts.length<=1000):cf (d+1) 58 [.obj r,.tup [.int lo,.int hi]] U=S5 (.ok (.tup [.int (Xo ts lo hi).1,.int (Xo ts lo hi).2]),U):=by
 generalize e1:U++[O.list [V.int lo]]=s1
 generalize e2:s1++[O.list ((J6 ts lo hi).map V.int)]=s2
 generalize e3:s2++[O.list ((lo::J6 ts lo hi).map V.int)]=s3
 have r1:s1[r]?=S5 (.list (ts.map T3.v)):=e1▸Zm hr
 obtain r3:s3[r]?=S5 (.list (ts.map T3.v)):=e3▸Zm (e2▸Zm r1)
 have g3:s3[s2.length]?=S5 (.list ((lo::J6 ts lo hi).map V.int)):=e3▸gl s2 _
 obtain x1:Zg (Cd d) (.comp (.idx .v6 (.i 0)) 6 (.ex .v0) (.cons (.cmp (.idx .v1 (.i 0)) (.more .lt (.idx .v6 (.i 0)) (.one .le (.idx .v1 (.i 1))))) .nil)) (lcD r lo hi (0,lo) N0 N0) s1=S5 (.ok (.obj s1.length),s2):=by
  rw[← e2]
  have:=Ju (C:=Cd d) (elt:=Ex.idx .v6 (.i 0)) (tg:=6) (it:=It.ex .v0) (ifs:=Es.cons (.cmp (.idx .v1 (.i 0)) (.more .lt (.idx .v6 (.i 0)) (.one .le (.idx .v1 (.i 1))))) .nil) (Z:=lcD r lo hi (0,lo) N0 N0) T3.v (λx:T3=>if (decide (lo<x.a)&&decide (x.a<=hi)) then S5 (V.int x.a) else N0) (Ux rfl r1) r1 (show 6<13 by decide) (Bc hl (by decide)) (λx u_=>Zlh (Zal (Zfq rfl rfl rfl rfl rfl)) rfl)
  rw[Jz] at this
  rw[this,J6,Cx];rfl
 obtain x2:Zg (Cd d) (.bin .add (.lst (.cons (.idx .v1 (.i 0)) .nil)) (.comp (.idx .v6 (.i 0)) 6 (.ex .v0) (.cons (.cmp (.idx .v1 (.i 0)) (.more .lt (.idx .v6 (.i 0)) (.one .le (.idx .v1 (.i 1))))) .nil))) (lcD r lo hi (0,lo) N0 N0) U=S5 (.ok (.obj s2.length),s3):=by
  refine Zh (by rw[← e1];exact Uk rfl rfl) x1 ?_
  rw[← e3];exact Zii (e2▸Zm (e1▸gl U _)) (e2▸gl s1 _) (by
   obtain this:(J6 ts lo hi).length<=1000:=Bc (by rw[J6,Bg];exact I0 _ _) hl
   rw[Bq,Bg];exact Bc (Gj this 1) (by decide))
 refine Ug (λZ' U' f Jq=>?_) (Zan (body:=execs (Cd d) R58) (t:=3) (keep:=λU'=>U'[s2.length]?=S5 (.list ((lo::J6 ts lo hi).map V.int))) V.int (λps Z τ=>∃c v3 v4 ext,Z=lcD r lo hi c v3 v4/\τ=s3++ext/\ps.foldl (Um ts) c=Xo ts lo hi) (λZ τ=>∃v3 v4 ext,Z=lcD r lo hi (Xo ts lo hi) v3 v4/\τ=s3++ext) (λZ τ h=>Zei (λc v3 v4 ext a b e=>⟨v3,v4,ext,a.trans (by rw[← e];rfl),b⟩) h) (λp ps Z τ h=>?_) (lo::J6 ts lo hi) (lcD r lo hi (0,lo) N0 N0) s3 ⟨(0,lo),N0,N0,[],rfl,(Cn _).symm,rfl⟩)
 .refine Zts (λv3 v4 ext hZ hτ=>?_) Jq
  obtain hU:U'=U++([O.list [V.int lo]]++[O.list ((J6 ts lo hi).map V.int)]++[O.list ((lo::J6 ts lo hi).map V.int)]++ext):=by rw[hτ,← e3,← e2,← e1];simp only[Bn]
  rw[hU] at f
  exact Zbz Zz3 rfl (Za rfl (Za ((W6 (Ux x2 g3)).trans f) (Zp (Yr (Zr (by rw[hZ];rfl)))))) rfl
 .refine Zei (λc v3 v4 ext hZ hτ hf=>?_) h
  rw[hZ,hτ]
  refine ⟨show 3<13 by decide,.inl ?_⟩
  obtain hq:(s3++ext)[r]?=S5 (.list (ts.map T3.v)):=Zm r3
  obtain y:=Zdq (C:=Cd d) (Z:=lcD r lo hi c (S5 (.int p)) v4) (u:=6) (i:=0) (ifs:=Es.cons (.cmp (.idx .v6 (.i 0)) (.more .le .v3 (.one .le (.idx .v6 (.i 1))))) .nil) (lo:=p) (hi:=p) hq rfl (show 6<13 by decide) hl λx=>Zal (Zfq rfl rfl rfl rfl rfl)
  have y2:=Zz (i:=4) (Z9 (Zb y Zj) (Zcd (gl (s3++ext) _))) rfl
  have y3:∀c':Int×Int,ps.foldl (Um ts) c'=Xo ts lo hi->execs (Cd d) R58 (lcD r lo hi c (S5 (.int p)) v4) (s3++ext)=S5 (.next,lcD r lo hi c' (S5 (.int p)) (S5 (.int (Jm ts p:Nat))),s3++ext++[O.list ((Qq p p ts).map T3.v)])->∃Z2 U2,execs (Cd d) R58 ((lcD r lo hi c v3 v4).set 3 (S5 (.int p))) (s3++ext)=S5 (.next,Z2,U2)/\U2[s2.length]?=S5 (.list ((lo::J6 ts lo hi).map V.int))/\∃c v3 v4 ext,Z2=lcD r lo hi c v3 v4/\U2=s3++ext/\ps.foldl (Um ts) c=Xo ts lo hi:=λc' h1 h2=>⟨_,_,h2,Zm (Zm g3),c',_,_,ext++[O.list ((Qq p p ts).map T3.v)],rfl,Bn ..,h1⟩
  have hd:ps.foldl (Um ts) (Um ts c p)=Xo ts lo hi:=hf
  unfold Um at hd
  split at hd
  .rename_i k
   exact y3 _ hd (Za y2 (Zq (Z7 (Zk rfl rfl (gtT k)) rfl)))
  .rename_i k
   exact y3 _ hd (Za y2 (Zq (Zn (Zk rfl rfl (gtF k)) Zi)))
section
variable {C:Cl}{b h:Ss}{k i j:Nat}{Z Z1 Z2 Z3:L}{U U1 U2:H}{v:V}{e:Ex}
set_option tactic.hygienic true in
theorem Zw2 (q:execs C b Z U=S5 (.next,Z1,U1)):exec C (.try_ b k i h) Z U=S5 (.next,Z1,U1):=by
 show Ze1 (execs C b Z U) k i _=_
 rw[q];rfl
theorem Zw3 (q:execs C b Z U=S5 (.exc j,Z1,U1))(hk:Za1 j k=T1)(hs:Qn Z1 i (.obj U1.length)=S5 Z2)(hr:execs C h Z2 (U1++[.exc j])=S5 (.ret v,Z3,U2)):exec C (.try_ b k i h) Z U=S5 (.ret v,[],U2):=by
 show Ze1 (execs C b Z U) k i _=_
 rw[q];refine (gp hk).trans ?_
 rw[hs]
 show Zky (Zi0 (execs C h Z2 (U1++[.exc j])))=_
 rw[hr];rfl
theorem Zq8 (q:Jp C e Z U=S5 (.exc j,U1)):exec C (.asg (.one i) e) Z U=S5 (.exc j,Z,U1):=Zic q
theorem Zq9 {r t:Nat}{b:Bool}(hr:U[r]?=S5 (.exc j))(hi:Zoo j t=S5 b):Uh .isinstance [.obj r,.ty t] U=S5 (.bool b,U):=by
 show ((U[r]?).bind λo=>Zop o t).map (λr=>(V.bool r,U))=_
 rw[hr]
 show (Zoo j t).map (λr=>(V.bool r,U))=_
 rw[hi];rfl
theorem Ztj (x y:Bool)(U:H):Yo .eq (.bool x) (.bool y) U=S5 (x == y):=by cases x <;> cases y <;> rfl
theorem Zw4 (C:Cl)(p:Bool)(Z:L)(h4:Z[4]?.join=S5 (.obj U.length)):∃Z' τ,execs C H40 Z (U++[.exc (if p then 12 else 13)])=S5 (.ret (.str (Zbg p F0)),Z',U++τ):=by
 generalize eS:U++[O.exc (if p then 12 else 13)]=s1
 have g:s1[U.length]?=S5 (.exc (if p then 12 else 13)):=eS▸gl U _
 have is:∀t b,Zoo (if p then 12 else 13) t=S5 b->∀Z:L,Z[4]?.join=S5 (.obj U.length)->Zg C (.blt .isinstance (.cons .v4 (.cons (.ty t) .nil))) Z s1=S5 (.ok (.bool b),s1):=λt b hi Z h=>Z9 (Zb (Zr h) rfl) (Zq9 g hi)
 have i12:=is 12 p (by cases p <;> rfl)
 have i13:=is 13 (!p) (by cases p <;> rfl)
 refine ⟨Z,[O.exc (if p then 12 else 13)]++[O.list [.str Zbf,.str Zdv]],?_⟩
 rw[← Bn,eS]
 refine Za (Zn (Zk (i12 Z h4) (i13 Z h4) (by rw[Ztj];cases p <;> rfl)) Zi) (Zp (Yr ?_))
 have l1:Zg C (.lst (.cons (.lit (V.str { cps:=#[109,105,115,115,105,110,103] })) (.cons (.lit (V.str { cps:=#[116,119,105,99,101] })) .nil))) Z s1=S5 (.ok (.obj s1.length),s1++[O.list [.str Zbf,.str Zdv]]):=Uk rfl rfl
 generalize eT:s1++[O.list [.str Zbf,.str Zdv]]=s2 at l1
 have gs:s2[s1.length]?=S5 (.list [.str Zbf,.str Zdv]):=eT▸gl s1 _
 have gx:s2[U.length]?=S5 (.exc (if p then 12 else 13)):=eT▸Zm g
 have j12:Zg C (.blt .isinstance (.cons .v4 (.cons (.ty 12) .nil))) Z s2=S5 (.ok (.bool p),s2):=Z9 (Zb (Zr h4) rfl) (Zq9 gx (by cases p <;> rfl))
 have ji:Zg C (.blt .int (.cons (.blt .isinstance (.cons .v4 (.cons (.ty 12) .nil))) .nil)) Z s2=S5 (.ok (.int (if p then 1 else 0)),s2):=Z9 (Zb j12 Zj) rfl
 refine Zv l1 ji ?_
 cases p with
 | true=>exact Yx gs (k:=1) (by decide)
 | false=>exact Yx gs (k:=0) (by decide)
end
structure Wn where
 w:Nat
 n:Nat
 r:Nat
 t:Tr
structure Sw (U:H)(q:Wn):Prop where
 wd:Wd q.w q.n U q.t q.t.sz
 kept:U[q.r]?=S5 (.list (q.t.tl.map T3.v))
structure Gt (t:Tr):Prop where
 srt:Srt3 t.tl
 avl:t.avl
 ok:∀x∈t.tl,okT x
def dv (p:Bool)(x:T3):V:=.tup [.str (if p then Zeg else Zax),x.v]
noncomputable def wll (p:Bool)(x:T3)(t:Tr):Bool:=if p then !(decide (x∈t.tl)) else decide (x∈t.tl)
def Zlw (w:Nat)(p:Bool)(x:T3)(v3 v4:Option V):L:=(S5 (.obj w)::S5 (dv p x)::S5 x.v::v3::v4::o8)
noncomputable def act (p:Bool)(x:T3)(t:Tr):Option Tr:=if p then Tr.ins x t else Tr.del x t
set_option tactic.hygienic true in
theorem Zw5 (e:Nat)(p:Bool)(x:T3)(ho:okT x){w n:Nat}{t:Tr}(hw:Wd w n U t t.sz)(hd:t.sz<=e)(hz:t.sz<1000):execs (Cd (e+5)) Zyb (Zlw w p x N0 N0) U=(match act p x t with
  | some t'=>S5 (.next,Zlw w p x (S5 .none) N0,Yk U n (.ns [(0,t'.v),(1,.int t'.sz)]))
  | none=>S5 (.exc (if p then 12 else 13),Zlw w p x N0 N0,U)):=by
 obtain as:Y8 (Cd (e+5)) (.cons (.idx .v2 (.i 0)) (.cons (.idx .v2 (.i 1)) (.cons (.idx .v2 (.i 2)) .nil))) (Zlw w p x N0 N0) U=S5 (.ok [.int x.a,.int x.b,.int x.c],U):=Zb rfl rfl
 obtain c0:=Zk (C:=Cd (e+5)) (Z:=Zlw w p x N0 N0) (Jx (i:=1) (k:=.int 0) rfl rfl) Zd (Zlt p U)
 cases p with
 | true=>
  obtain h:=Zwt e x ho hw hd
  obtain u:=Y2 (m:=1) (Zr (i:=0) rfl) ((hw.mt 1).trans mt1) as h
  show _=(match Tr.ins x t with | some t'=>_ | none=>_)
  cases i:Tr.ins x t with
  | none=>rw[i] at u;exact Uw (Z7 c0 (Uw (Zq8 u)))
  | some t'=>
   rw[i,show (t.sz:Int)+1=t'.sz by rw[Tr.ins_sz x i];rfl] at u
   exact Zq (Z7 c0 (Zq (Zz u rfl)))
 | false=>
  obtain h:=Zs9 e x ho hw hd hz
  obtain u:=Y2 (m:=2) (Zr (i:=0) rfl) ((hw.mt 2).trans mt2) as h
  show _=(match Tr.del x t with | some t'=>_ | none=>_)
  cases i:Tr.del x t with
  | none=>rw[i] at u;exact Uw (Zn c0 (Uw (Zq8 u)))
  | some t'=>
   rw[i,show (t.sz:Int)-1=t'.sz by rw[← Tr.del_sz x i];exact Int.add_sub_cancel (t'.sz:Int) 1] at u
   exact Zq (Zn c0 (Zq (Zz u rfl)))
theorem Zw6 (p:Bool)(x:T3){t:Tr}(ho:okT x)(g:Gt t):(act p x t=N0/\wll p x t=F0)\/∃t',act p x t=S5 t'/\wll p x t=T1/\Gt t'/\t'.sz<=t.sz+1/\∀y,y∈t'.tl↔y∈nxt t.tl ⟨p,x,T1⟩:=by
 cases p with
 | true=>
  rcases Tr.ins_ok x g.srt with ⟨i1,i2⟩ | ⟨t',i1,i2,i3,i4⟩
  .exact .inl ⟨i1,by simp[wll,i2]⟩
  .refine .inr ⟨t',i1,by simp[wll,i2],⟨i3,(Tr.ins_avl x g.avl i1).1,λy hy=>?_⟩,Nat.le_of_eq (Tr.ins_sz x i1),λy=>?_⟩
   .rcases (i4 y).mp hy with e | h
    .rw[e];exact ho
    .exact g.ok y h
   .rw[i4 y];show y=x\/y∈t.tl↔y∈t.tl++[x]
    rw[Bm,Bo];exact Or.comm
 | false=>
  rcases Tr.del_ok x g.srt with ⟨i1,i2⟩ | ⟨t',i1,i2,i3,i4⟩
  .exact .inl ⟨i1,by simp[wll,i2]⟩
  .refine .inr ⟨t',i1,by simp[wll,i2],⟨i3,(Tr.del_avl x g.avl i1).1,λy hy=>g.ok y ((i4 y).mp hy).2⟩,?_,λy=>?_⟩
   .have:=Tr.del_sz x i1;exact Nb 0x16051a850a1c11 Tt this
   .rw[i4 y];show y≠x/\y∈t.tl↔y∈t.tl.filter λz=>!decide (z=x)
    rw[Cr];simp[and_comm]
set_option tactic.hygienic true in
theorem Ztk (e:Nat)(p:Bool)(x:T3)(ho:okT x){q:Wn}(S:Sw U q)(g:Gt q.t)(hd:q.t.sz<=e)(hz:q.t.sz<1000) :
  ∃U' t',cf (e+6) 40 [.obj q.w,dv p x] U=S5 (.ok (.str (Zbg p (wll p x q.t))),U')/\Wd q.w q.n U' t' t'.sz/\(∀(k:Nat) o,k≠q.n->U[k]?=S5 o->U'[k]?=S5 o)/\Gt t'/\t'.sz<=q.t.sz+1/\beh q.t.tl ⟨p,x,wll p x q.t⟩=t'.tl:=by
 obtain s0:exec (Cd (e+5)) Zt8 (S5 (.obj q.w)::S5 (dv p x)::o11) U=S5 (.next,Zlw q.w p x N0 N0,U):=Zz rfl rfl
 obtain b:=Zw5 e p x ho S.wd hd hz
 rcases Zw6 p x ho g with ⟨i1,i2⟩ | ⟨t',i1,i2,i3,i4,i5⟩
 .rw[i1] at b
  rw[i2]
  refine rEE (λZ' τ hh=>?_) (Zw4 (U:=U) (Cd (e+5)) p (Zlw q.w p x N0 (S5 (.obj U.length))) rfl)
  refine ⟨U++τ,q.t,Uy Zyj rfl (X7 (Za s0 (Zp (Zw3 b (by cases p <;> rfl) rfl hh)))),S.wd.app,λn o u_ h=>Zm h,g,K2 _,rfl⟩
 .rw[i1] at b
  rw[i2]
  refine ⟨_,t',Uy Zyj rfl (X7 (Za s0 (Za (Zw2 b) (Zp (Yr (Zh Zd (Z9 rfl rfl) rfl)))))),S.wd.set t' t'.sz,λk o hn h=>Zeo h hn,i3,i4,?_⟩
  refine rA (λg1 g2=>?_) (Zwz g.srt (d:=⟨p,x,T1⟩) (λhp u_=>by obtain hp:p=T1:=hp;rw[hp] at i2;simpa[wll] using i2))
  exact Srt3.eq g1 i3.srt λy=>(g2 y).trans (i5 y).symm
def Kp (U τ:H):Prop:=∀(n:Nat) o,U[n]?=S5 o->τ[n]?=S5 o
theorem Kp.rfl (U:H):Kp U U:=λu_ v_ h=>h
theorem Kp.trans {a b c:H}(h:Kp a b)(k:Kp b c):Kp a c:=λn o e=>k n o (h n o e)
theorem Kp.app {a b:H}(h:Kp a b){t:H}:Kp a (b++t):=λn o e=>Zm (h n o e)
theorem Kp.set {a b:H}(h:Kp a b){k:Nat}{o:O}(hk:a.length<=k):Kp a (b.set k o):=λn o' e=>Zbd (h n o' e) λe'=>absurd (Ba.mp e).1 (Il.mpr (e'▸hk))
theorem Sw.kp {τ:H}{q:Wn}(S:Sw U q)(k:Kp U τ):Sw τ q:=⟨⟨k _ _ S.wd.1,k _ _ S.wd.2⟩,k _ _ S.kept⟩
theorem Zlx {d n k:Nat}{ps:List Nat}{B:Ss}{as:List V}{τ:H}{v:V}(hF:pg.fn n=S5 ⟨ps,k,B,.pure⟩)(hs:Wr ⟨ps,k,B,.pure⟩ as=S5 Z)(h:execs (Cd d) B Z U=S5 (.ret v,Z',τ))(hk:Kp U τ)(hb:below U.length v=T1):cf (d+1) n as U=S5 (.ok v,U) :=
 rE (λe he=>Zbz hF hs (he▸h) hb) (Zda hk)
structure Ask (lo hi:Int):Prop where
 l : -10^60<lo
 m:lo<=hi
 h:hi<10^60
noncomputable def Zeh (lo hi:Int):V:=.tup [.int lo,.int hi]
theorem chk {d:Nat}{a b:Ex}{τ τ1 τ2:H}{i j:Nat}{ll:List (List Int)}(e1:Zg (Cd (d+3)) a Z τ=S5 (.ok (.obj i),τ1))(e2:Zg (Cd (d+3)) b Z τ1=S5 (.ok (.obj j),τ2))(h1:τ2[i]?=S5 (.list (Qh ll)))(h2:τ2[j]?=S5 (.list (Qh ll)))(hs:∀is∈ll,is.length<=Zo)(hl:ll.length<=Zo):Zg (Cd (d+3)) (.call 27 (.cons a (.cons b .nil))) Z τ=S5 (.ok (.bool T1),τ2) :=
 Zl (Zb e1 (Zb e2 Zj)) (Zg1 d ll hs hl τ2 i j h1 h2)
theorem Ztl {d:Nat}{a b:Ex}{τ τ1 τ2:H}{i j:Nat}{ts:List T3}(e1:Zg (Cd (d+3)) a Z τ=S5 (.ok (.obj i),τ1))(e2:Zg (Cd (d+3)) b Z τ1=S5 (.ok (.obj j),τ2))(h1:τ2[i]?=S5 (.list (ts.map T3.v)))(h2:τ2[j]?=S5 (.list (ts.map T3.v)))(hl:ts.length<=2000):Zg (Cd (d+3)) (.call 27 (.cons a (.cons b .nil))) Z τ=S5 (.ok (.bool T1),τ2) :=
 Zl (Zb e1 (Zb e2 Zj)) (Zwu d h1 h2 hl)
def lcO (q:Wn)(lo hi:Int)(v3 v4 v5 v6:Option V):L:=(S5 (.obj q.w)::S5 (.obj q.r)::S5 (Zeh lo hi)::v3::v4::v5::v6::o8)
section
variable {d:Nat}{lo hi:Int}{U:H}{q:Wn}
theorem Zkp (A:Ask lo hi)(S:Sw U q)(g:Gt q.t)(hd:q.t.sz<=d)(hz:q.t.sz<900)(v3 v4 v5 v6:Option V):Zg (Cd (d+4)) (.ucall 6 .v0 (.cons (.idx .v2 (.i 0)) (.cons (.idx .v2 (.i 1)) .nil))) (lcO q lo hi v3 v4 v5 v6) U=S5 (.ok (.obj U.length),U++[.list ((Qq lo hi q.t.tl).map T3.v)]) :=
 Y2 rfl ((S.wd.mt 6).trans mt6) rfl (Zkd (d+1) lo hi A.l A.m A.h S.wd g.srt (Cy hd) (Bv hz (by decide)))
theorem Zkq (S:Sw U q)(hd:q.t.sz<=d)(hz:q.t.sz<900)(v3 v4 v5 v6:Option V):Zg (Cd (d+4)) (.ucall 4 .v0 .nil) (lcO q lo hi v3 v4 v5 v6) U=S5 (.ok (.obj U.length),U++[.list (q.t.tl.map T3.v)]) :=
 Y2 rfl ((S.wd.mt 4).trans mt4) Zj (Zbs (d+1) S.wd (Cy hd) (Bv hz (by decide)))
theorem Z0t (A:Ask lo hi)(S:Sw U q)(g:Gt q.t)(hd:q.t.sz<=d)(hz:q.t.sz<900){τ:H}(k:Kp U τ){n3:Nat}(h3:τ[n3]?=S5 (.list ((Qq lo hi q.t.tl).map T3.v))):∃τ',Kp τ τ'/\∀r,execs (Cd (d+4)) r (lcO q lo hi (S5 (.obj n3)) N0 N0 N0) τ'=execs (Cd (d+4)) (.cons Zuk (.cons Zul r)) (lcO q lo hi (S5 (.obj n3)) N0 N0 N0) τ:=by
 have htl:q.t.tl.length<=1000:=by rw[Tr.sz_tl];exact C1 (Bv hz (by decide))
 have hh:∀l h,(Qq l h q.t.tl).length<=2000:=λl h=>Bc (Zkf _ _ _) (Bc htl (by decide))
 have S1:=S.kp k
 obtain c1:=Zdq (C:=Cd (d+4)) (Z:=lcO q lo hi (S5 (.obj n3)) N0 N0 N0) (u:=8) (i:=1) (ifs:=Es.cons (.and (.cmp (.idx .v8 (.i 0)) (.one .le (.idx .v2 (.i 1)))) (.cmp (.idx .v2 (.i 0)) (.one .le (.idx .v8 (.i 1))))) .nil) (lo:=lo) (hi:=hi) S1.kept rfl (show 8<15 by decide) htl λx=>Zal (Zba rfl rfl)
 have q1:=Ztl (d:=d+1) (Zr (i:=3) rfl) c1 (Zm h3) (gl τ _) (hh _ _)
 have k2:=(Kp.rfl τ).app (t:=[O.list ((Qq lo hi q.t.tl).map T3.v)])
 generalize τ++[O.list ((Qq lo hi q.t.tl).map T3.v)]=s2 at q1 k2
 have S2:=S1.kp k2
 have u2:Zg (Cd (d+4)) (.ucall 7 .v0 (.cons (.idx .v2 (.i 1)) .nil)) (lcO q lo hi (S5 (.obj n3)) N0 N0 N0) s2=S5 (.ok (.obj s2.length),s2++[.list ((Qq hi hi q.t.tl).map T3.v)]) :=
  Y2 rfl ((S2.wd.mt 7).trans mt7) rfl (Zqn d hi (Dt A.l A.m) A.h S2.wd g.srt hd (Bv hz (by decide)))
 have k3:=(Kp.rfl s2).app (t:=[O.list ((Qq hi hi q.t.tl).map T3.v)])
 have g3:=gl s2 (O.list ((Qq hi hi q.t.tl).map T3.v))
 generalize s2++[O.list ((Qq hi hi q.t.tl).map T3.v)]=s3 at u2 k3 g3
 obtain S3:=S2.kp k3
 obtain c3:=Zdq (C:=Cd (d+4)) (Z:=lcO q lo hi (S5 (.obj n3)) N0 N0 N0) (u:=8) (i:=1) (ifs:=Es.cons (.cmp (.idx .v8 (.i 0)) (.more .le (.idx .v2 (.i 1)) (.one .le (.idx .v8 (.i 1))))) .nil) (lo:=hi) (hi:=hi) S3.kept rfl (show 8<15 by decide) htl λx=>Zal (Zfq rfl rfl rfl rfl rfl)
 obtain q2:=Ztl (d:=d+1) u2 c3 (Zm g3) (gl s3 _) (hh _ _)
 exact ⟨_,(k2.trans k3).app,λr=>((Za (Zn (Qp q1) Zi) (Za (Zn (Qp q2) Zi) rfl))).symm⟩
set_option tactic.hygienic true in
theorem Zw7 (A:Ask lo hi)(S:Sw U q)(g:Gt q.t)(hd:q.t.sz<=d)(hz:q.t.sz<900):cf (d+5) 59 [.obj q.w,.obj q.r,Zeh lo hi] U=S5 (.ok (.bool T1),U):=by
 obtain htl:q.t.tl.length<=1000:=by rw[Tr.sz_tl];exact C1 (Bv hz (by decide))
 generalize XX:Qq lo hi q.t.tl=X
 obtain hXl:X.length<=1000:=XX▸Bc (Zkf _ _ _) htl
 obtain lz:∀{Y:List T3},Y.length<=1000->(Y.map T3.v++[zT.v]).length<=Zo:=λh=>by rw[Bq,Bg];exact Bc (G9 h 1) (by decide)
 obtain x0:=Zz (i:=3) (Zkp A S g hd hz N0 N0 N0 N0) rfl
 obtain g1:=gl U (O.list (X.map T3.v))
 obtain k1:=(Kp.rfl U).app (t:=[O.list (X.map T3.v)])
 rw[XX] at x0
 generalize U++[O.list (X.map T3.v)]=s1 at x0 g1 k1
 refine rEA (λs4 k14 x1=>?_) (Z0t A S g hd hz k1 (n3:=U.length) (XX▸g1))
 obtain k4:=k1.trans k14
 obtain S4:=S.kp k4
 obtain g4:=k14 _ _ g1
 obtain l4:U.length<=s4.length:=rE (λe he=>by rw[he,Bq];exact Cc _ _) (Zda k4)
 obtain u4:=Zkq (lo:=lo) (hi:=hi) S4 hd hz (S5 (.obj U.length)) N0 N0 N0
 obtain g5:=gl s4 (O.list (q.t.tl.map T3.v))
 obtain g5':(s4++[O.list (q.t.tl.map T3.v)])[U.length]?=S5 (.list (X.map T3.v)):=Zm g4
 obtain k5:=k4.app (t:=[O.list (q.t.tl.map T3.v)])
 obtain l5:s4.length<(s4++[O.list (q.t.tl.map T3.v)]).length:=by rw[Bq];exact Cu _
 obtain ne:s4.length≠U.length:=λe=>by
  have:=(Ba.mp g4).1
  rw[e] at this;exact Gm _ this
 generalize s4++[O.list (q.t.tl.map T3.v)]=s5 at u4 g5 g5' k5 l5
 obtain x3:=Zz (i:=5) (Uk (Zb u4 (Zb (Zr (i:=3) rfl) Zj)) rfl) rfl
 obtain g6:=gl s5 (O.list [.obj s4.length,.obj U.length])
 obtain a6:(s5++[O.list [.obj s4.length,.obj U.length]])[s4.length]?=S5 (.list (q.t.tl.map T3.v)):=Zm g5
 obtain b6:(s5++[O.list [.obj s4.length,.obj U.length]])[U.length]?=S5 (.list (X.map T3.v)):=Zm g5'
 obtain k6:=k5.app (t:=[O.list [.obj s4.length,.obj U.length]])
 generalize s5++[O.list [.obj s4.length,.obj U.length]]=s6 at x3 g6 a6 b6 k6
 obtain p7:=Zaq a6 (by rw[Bg];exact Bx htl (by decide)) zT.v
 obtain a7:=Zlm (o':=O.list (q.t.tl.map T3.v++[zT.v])) a6
 obtain b7:=Zbd (o':=O.list (q.t.tl.map T3.v++[zT.v])) b6 ne
 obtain g7:=Zbd (o':=O.list (q.t.tl.map T3.v++[zT.v])) g6 (Ca l5)
 obtain k7:=k6.set (o:=O.list (q.t.tl.map T3.v++[zT.v])) l4
 generalize s6.set s4.length (O.list (q.t.tl.map T3.v++[zT.v]))=s7 at p7 a7 b7 g7 k7
 obtain p8:=Zaq b7 (by rw[Bg];exact Bx hXl (by decide)) zT.v
 obtain a8:=Zbd (o':=O.list (X.map T3.v++[zT.v])) a7 (Ne.symm ne)
 obtain b8:=Zlm (o':=O.list (X.map T3.v++[zT.v])) b7
 obtain g8:=Zbd (o':=O.list (X.map T3.v++[zT.v])) g7 (Ca (Bx l4 l5))
 obtain k8:=k7.set (o:=O.list (X.map T3.v++[zT.v])) (Bp _)
 generalize s7.set U.length (O.list (X.map T3.v++[zT.v]))=s8 at p8 a8 b8 g8 k8
 obtain ap:∀{n:Nat}{s s':H},Qa .append (.obj n) [zT.v] s=S5 (.none,s')->Yj s (.obj n)≠N0->∀v3 v5:Option V,execs (Cd (d+4)) R59 (lcO q lo hi v3 (S5 (.obj n)) v5 N0) s=S5 (.next,lcO q lo hi v3 (S5 (.obj n)) v5 N0,s'):=λh hn v3 v5=>by
  refine rE (λl hl=>?_) (Option.ne_none_iff_exists'.mp hn)
  exact Zq (Y0 (Wx rfl hl (Zb (Zqp _ _ _) Zj) h))
 obtain x4:exec (Cd (d+4)) Zum (lcO q lo hi (S5 (.obj U.length)) N0 (S5 (.obj s5.length)) N0) s6=S5 (.next,lcO q lo hi (S5 (.obj U.length)) (S5 (.obj U.length)) (S5 (.obj s5.length)) N0,s8) :=
  (W6 (Ux rfl g6)).trans ((Xx rfl (ap p7 (by rw[Zam a6];exact nofun) _ _) g7).trans ((Xx rfl (ap p8 (by rw[Zam b7];exact nofun) _ _) g8).trans rfl))
 obtain S8:=S.kp k8
 obtain x5:=Zz (i:=6) (Y2 (C:=Cd (d+4)) (Z:=lcO q lo hi (S5 (.obj U.length)) (S5 (.obj U.length)) (S5 (.obj s5.length)) N0) (Zr (i:=0) rfl) ((S8.wd.mt 5).trans mt5) Zj (Zqx (d+3) S8.wd)) rfl
 obtain u8:=Zkq (lo:=lo) (hi:=hi) S8 hd hz (S5 (.obj U.length)) (S5 (.obj U.length)) (S5 (.obj s5.length)) (S5 (.int q.t.sz))
 obtain q9:=Ztl (d:=d+1) u8 (Zr (i:=1) rfl) (gl s8 _) (Zm S8.kept) (Bc htl (by decide))
 obtain k9:=k8.app (t:=[O.list (q.t.tl.map T3.v)])
 obtain a9:=Zm (t:=[O.list (q.t.tl.map T3.v)]) a8
 obtain b9:=Zm (t:=[O.list (q.t.tl.map T3.v)]) b8
 obtain g9:=Zm (t:=[O.list (q.t.tl.map T3.v)]) g8
 generalize s8++[O.list (q.t.tl.map T3.v)]=s9 at q9 k9 a9 b9 g9
 obtain x6:exec (Cd (d+4)) Zun (lcO q lo hi (S5 (.obj U.length)) (S5 (.obj U.length)) (S5 (.obj s5.length)) (S5 (.int q.t.sz))) s8=S5 (.next,lcO q lo hi (S5 (.obj U.length)) (S5 (.obj U.length)) (S5 (.obj s5.length)) (S5 (.int q.t.sz)),s9) :=
  Zn (Xh (Qp q9) (Xh (Qp (Zl rfl (Zka (d+3) _ _))) (Zk rfl (Z9 rfl (Zcd (S.kp k9).kept)) (neF (by rw[Tr.sz_tl]))))) Zi
 obtain c10:=Zii (U:=s9++[O.list [zT.v]]) (Zm (t:=[O.list [zT.v]]) (S.kp k9).kept) (gl s9 _) (lz htl)
 obtain k10:=k9.app (t:=[O.list [zT.v]])
 obtain a10:=Zm (t:=[O.list [zT.v]]) a9
 obtain b10:=Zm (t:=[O.list [zT.v]]) b9
 obtain l10:=Uk (C:=Cd (d+4)) (Z:=lcO q lo hi (S5 (.obj U.length)) (S5 (.obj U.length)) (S5 (.obj s5.length)) (S5 (.int q.t.sz))) (Zb (Zqp _ _ s9) Zj) rfl
 generalize s9++[O.list [zT.v]]=s10 at c10 k10 a10 b10 l10
 obtain a11:=Zm (t:=[O.list (q.t.tl.map T3.v++[zT.v])]) a10
 obtain b11:=Zm (t:=[O.list (q.t.tl.map T3.v++[zT.v])]) b10
 obtain n11:=gl s10 (O.list (q.t.tl.map T3.v++[zT.v]))
 obtain k11:=k10.app (t:=[O.list (q.t.tl.map T3.v++[zT.v])])
 generalize s10++[O.list (q.t.tl.map T3.v++[zT.v])]=s11 at c10 a11 b11 n11 k11
 rw[Zlk] at a11 n11 b11
 obtain q11:=Zk (C:=Cd (d+4)) (op:=.eq) (Zv (Zr (i:=5) rfl) Zd (Yx g9 (k:=0) (Mn _))) (Zh (Zr (i:=1) rfl) l10 c10) (Zf2 a11 n11)
 obtain u11:=Zkp A (S.kp k11) g hd hz (S5 (.obj U.length)) (S5 (.obj U.length)) (S5 (.obj s5.length)) (S5 (.int q.t.sz))
 rw[XX] at u11
 obtain b12:=Zm (t:=[O.list (X.map T3.v)]) b11
 obtain n12:=gl s11 (O.list (X.map T3.v))
 obtain k12:=k11.app (t:=[O.list (X.map T3.v)])
 generalize s11++[O.list (X.map T3.v)]=s12 at u11 b12 n12 k12
 obtain sl:Qm s12 (.obj U.length) .none (.int (-1)) .none=S5 (.obj s12.length,s12++[.list (X.map T3.v)]):=by
  show (Yj s12 (.obj U.length)).bind _=_
  rw[Zam b12]
  show (Jb s12 ((((X++[zT]).map T3.v).take (Yt (-1) ((X++[zT]).map T3.v).length)).drop 0))=_
  obtain this:Yt (-1) ((X++[zT]).map T3.v).length=(X.map T3.v).length:=by
   rw[Bg,Bq,Bg]
   show (-1+((X.length+1:Nat):Int)).toNat=X.length
   exact ln2 [(.nt .v0 (.a (.g .k1) (.n (.a .v1 .k1))))] (.eq .v0 .v1) (.s (.s (.d 11001) (.d 11101)) (.s (.d 1101) (.d 1101))) rfl (W7 _)
  rw[this,← Zlk,L1,Iq]
  exact Wl (by rw[Bg];exact Bc hXl (by decide)) _
 exact Zlx Zz4 rfl (Za x0 ((x1 _).symm.trans (Za x3 (Za x4 (Za x5 (Za x6 (Zp (Yr (Xm q11 (Zk u11 (Zm6 rfl rfl rfl rfl sl) (Zf2 (Zm n12) (gl s12 _)))))))))))) k12.app rfl
end
section
variable {d:Nat}{lo hi:Int}{U:H}{q:Wn}
theorem Zra (A:Ask lo hi)(S:Sw U q)(hd:q.t.sz<=d)(hz:q.t.sz<900):cf (d+4) 79 [.obj q.w,.int lo,.int hi] U=S5 (.ok (.obj U.length),U++[.list (prs (Qk hi q.t.tl lo []))]):=by
 obtain l:=Zbs d S.wd hd (Bv hz (by decide))
 obtain g:=Ztd d lo hi A.l A.m A.h (U++[.list (q.t.tl.map T3.v)]) U.length q.t.tl (gl U _) (by rw[Tr.sz_tl];exact C1 (Bv hz (by decide)))
 obtain e:=gl (U++[O.list (q.t.tl.map T3.v)]) (O.list (prs (Qk hi q.t.tl lo [])))
 rw[Bn] at g e
 exact We Z0d rfl (Zp (Yr (Zl (Zb (Y2 rfl ((S.wd.mt 4).trans mt4) Zj l) rfl) g))) (by rw[Bq];exact Cc _ _) (Qi _ _) e
theorem Zga (S:Sw U q)(hd:q.t.sz<=d)(hz:q.t.sz<900):cf (d+4) 80 [.obj q.w] U=S5 (.ok (.obj U.length),U++[.list ((clumps q.t.tl).map T3.v)]):=by
 obtain l:=Zbs d S.wd hd (Bv hz (by decide))
 obtain g:=Zhd fn5 (d+2) (U++[.list (q.t.tl.map T3.v)]) U.length q.t.tl (gl U _) (by rw[Tr.sz_tl];exact C1 (Bv hz (by decide)))
 obtain e:=gl (U++[O.list (q.t.tl.map T3.v)]) (O.list ((clumps q.t.tl).map T3.v))
 rw[Bn] at g e
 exact We Z0e rfl (Zp (Yr (Zl (Zb (Y2 rfl ((S.wd.mt 4).trans mt4) Zj l) Zj) g))) (by rw[Bq];exact Cc _ _) (Jv _ _) e
theorem Zyz {ts:List T3}(h:Srt3 ts):ts.Pairwise λx y=>x.a<=y.a:=h.imp λh=>(T3.lt_iff.mp h).elim D6 λh=>Ga h.1
theorem Gt.ab {t:Tr}(g:Gt t):∀x∈t.tl,x.a<=x.b:=λx hx=>(g.ok x hx).2.1
theorem Zrb (A:Ask lo hi)(S:Sw U q)(g:Gt q.t)(hd:q.t.sz<=d)(hz:q.t.sz<900):cf (d+4) 81 [.obj q.w,.int lo,.int hi] U=S5 (.ok (.tup [.int (Xo q.t.tl lo hi).1,.int (Xo q.t.tl lo hi).2]),U):=by
 obtain l:=Zbs d S.wd hd (Bv hz (by decide))
 refine rEA (λb h e=>?_) (Zls d lo hi A.l A.m A.h (U++[.list (q.t.tl.map T3.v)]) U.length q.t.tl g.ab (gl U _) (by rw[Tr.sz_tl];exact C1 (Bv hz (by decide))))
 refine X0 (λb1 b2 b3 b4=>?_) (Zq4 g.ab A.m h)
 rw[Zth (Zyz g.srt) b1 b2 b3 b4]
 exact Zbz Z0f rfl (Zp (Yr (Zl (Zb (Y2 rfl ((S.wd.mt 4).trans mt4) Zj l) rfl) e))) rfl
def lcR (q:Wn)(lo hi:Int)(v3:Option V):L:=(S5 (.obj q.w)::S5 (.obj q.r)::S5 (Zeh lo hi)::v3::o8)
theorem Zgb (ts:List T3):(clumps ts).length<=ts.length:=by
 cases ts with
 | nil=>exact Bp _
 | cons x r=>exact Zf9 r _
theorem Zy0 (S:Sw U q)(hd:q.t.sz<=d)(hz:q.t.sz<900)(v3:Option V):∃τ,Zg (Cd (d+4)) (.call 27 (.cons (.ucall 10 .v0 .nil) (.cons (.call 55 (.cons .v1 .nil)) .nil))) (lcR q lo hi v3) U=S5 (.ok (.bool T1),τ)/\Kp U τ:=by
 obtain htl:q.t.tl.length<=1000:=by rw[Tr.sz_tl];exact C1 (Bv hz (by decide))
 obtain k:=(Kp.rfl U).app (t:=[O.list ((clumps q.t.tl).map T3.v)])
 obtain e1:=Y2 (C:=Cd (d+4)) (Z:=lcR q lo hi v3) (Zr (i:=0) rfl) ((S.wd.mt 10).trans Zyp) Zj (Zga S hd hz)
 obtain e2:=Zl (C:=Cd (d+4)) (Z:=lcR q lo hi v3) (Zb (Zr (i:=1) rfl) Zj) (Zhd Zz0 (d+3) (U++[O.list ((clumps q.t.tl).map T3.v)]) q.r q.t.tl (k _ _ S.kept) htl)
 exact ⟨_,Ztl (d:=d+1) e1 e2 (Zm (gl U _)) (gl _ _) (Bc (Zgb _) (Bc htl (by decide))),k.app⟩
set_option tactic.hygienic true in
theorem Ztm (A:Ask lo hi)(S:Sw U q)(g:Gt q.t)(hd:q.t.sz<=d)(hz:q.t.sz<900):cf (d+5) 56 [.obj q.w,.obj q.r,Zeh lo hi] U=S5 (.ok (.bool T1),U):=by
 obtain htl:q.t.tl.length<=1000:=by rw[Tr.sz_tl];exact C1 (Bv hz (by decide))
 obtain hG:Qk hi q.t.tl lo []=Ja hi q.t.tl lo []:=Zik hi q.t.tl lo [] g.ab
 obtain hGl:(Ja hi q.t.tl lo []).length<=1001:=Bc (Zhc hi q.t.tl lo []) (by rw[Dy,Dw];exact G9 htl 1)
 obtain eg:∀{τ:H} (v3:Option V),Sw τ q->Zg (Cd (d+4)) (.ucall 9 .v0 (.cons (.idx .v2 (.i 0)) (.cons (.idx .v2 (.i 1)) .nil))) (lcR q lo hi v3) τ=S5 (.ok (.obj τ.length),τ++[.list (prs (Ja hi q.t.tl lo []))]):=λv3 S=>hG▸Y2 rfl ((S.wd.mt 9).trans mt9) rfl (Zra A S hd hz)
 obtain e1:=eg N0 S
 obtain k1:=(Kp.rfl U).app (t:=[O.list (prs (Ja hi q.t.tl lo []))])
 obtain g1:=gl U (O.list (prs (Ja hi q.t.tl lo [])))
 generalize U++[O.list (prs (Ja hi q.t.tl lo []))]=s1 at e1 k1 g1
 obtain e2:=Zl (C:=Cd (d+4)) (Z:=lcR q lo hi N0) (Zb (Zr (i:=1) rfl) (Zb (Jx (i:=2) (k:=.int 0) rfl rfl) (Zb (Jx (i:=2) (k:=.int 1) rfl rfl) Zj))) (Zqz (d+3) lo hi s1 q.r q.t.tl (k1 _ _ S.kept) htl)
 obtain c1:=chk (d:=d+1) e1 e2 (Zm g1) (gl s1 _) (λis h=>(C0.mp h).elim λx e=>e.2▸show 2<=Zo by decide) (by rw[Bg];exact Bc hGl (by decide))
 obtain k2:=k1.app (t:=[O.list (prs (Ja hi q.t.tl lo []))])
 generalize s1++[O.list (prs (Ja hi q.t.tl lo []))]=s2 at c1 k2
 obtain S2:=S.kp k2
 obtain c2:=Zl (C:=Cd (d+4)) (Z:=lcR q lo hi N0) (Zb (Y2 (Zr (i:=0) rfl) ((S2.wd.mt 11).trans Z0j) (Zb (Jx (i:=2) (k:=.int 0) rfl rfl) (Zb (Jx (i:=2) (k:=.int 1) rfl rfl) Zj)) (Zrb A S2 g hd hz)) (Zb (Zl (Zb (Zr (i:=1) rfl) (Zb (Zr (i:=2) rfl) Zj)) (Zti (d+3) lo hi s2 q.r q.t.tl S2.kept htl)) Zj)) (Zkb (d+2) [(Xo q.t.tl lo hi).1,(Xo q.t.tl lo hi).2] (show 2<=Zo by decide) s2)
 refine rEA (λs3 c3 k23=>?_) (Zy0 (lo:=lo) (hi:=hi) S2 hd hz N0)
 obtain k3:=k2.trans k23
 obtain S3:=S.kp k3
 obtain b3:=Y2 (C:=Cd (d+4)) (Z:=lcR q lo hi N0) (Zr (i:=0) rfl) ((S3.wd.mt 14).trans Zwg) Zj (Zf3 (d+2) S3.wd (Gy hd) (Bv hz (by decide)))
 obtain la:U.length<=s3.length:=rE (λe he=>by rw[he,Bq];exact Cc _ _) (Zda k3)
 obtain ga:=gl s3 (O.list ((q.t.rows 0).map Rw.v))
 obtain lb:s3.length<(s3++[O.list ((q.t.rows 0).map Rw.v)]).length:=by rw[Bq];exact Cu _
 obtain k4:=k3.app (t:=[O.list ((q.t.rows 0).map Rw.v)])
 generalize s3++[O.list ((q.t.rows 0).map Rw.v)]=s4 at b3 ga lb k4
 obtain b4:=Y2 (C:=Cd (d+4)) (Z:=lcR q lo hi N0) (Zr (i:=0) rfl) (((S.kp k4).wd.mt 10).trans Zyp) Zj (Zga (S.kp k4) hd hz)
 obtain ga:=Zm (t:=[O.list ((clumps q.t.tl).map T3.v)]) ga
 obtain gb:=gl s4 (O.list ((clumps q.t.tl).map T3.v))
 obtain lc:s4.length<(s4++[O.list ((clumps q.t.tl).map T3.v)]).length:=by rw[Bq];exact Cu _
 obtain k5:=k4.app (t:=[O.list ((clumps q.t.tl).map T3.v)])
 generalize s4++[O.list ((clumps q.t.tl).map T3.v)]=s5 at b4 ga gb lc k5
 obtain b5:=eg N0 (S.kp k5)
 obtain ga:=Zm (t:=[O.list (prs (Ja hi q.t.tl lo []))]) ga
 obtain gb:=Zm (t:=[O.list (prs (Ja hi q.t.tl lo []))]) gb
 obtain gc:=gl s5 (O.list (prs (Ja hi q.t.tl lo [])))
 obtain ld:s5.length<(s5++[O.list (prs (Ja hi q.t.tl lo []))]).length:=by rw[Bq];exact Cu _
 obtain k6:=k5.app (t:=[O.list (prs (Ja hi q.t.tl lo []))])
 generalize s5++[O.list (prs (Ja hi q.t.tl lo []))]=s6 at b5 ga gb gc ld k6
 obtain b6:=Uk (Zb b3 (Zb b4 (Zb b5 Zj))) rfl
 obtain ga:=Zm (t:=[O.list [.obj s3.length,.obj s4.length,.obj s5.length]]) ga
 obtain gb:=Zm (t:=[O.list [.obj s3.length,.obj s4.length,.obj s5.length]]) gb
 obtain gc:=Zm (t:=[O.list [.obj s3.length,.obj s4.length,.obj s5.length]]) gc
 obtain gd:=gl s6 (O.list [.obj s3.length,.obj s4.length,.obj s5.length])
 obtain k7:=k6.app (t:=[O.list [.obj s3.length,.obj s4.length,.obj s5.length]])
 generalize s6++[O.list [.obj s3.length,.obj s4.length,.obj s5.length]]=s7 at b6 ga gb gc gd k7
 obtain ap:∀{n:Nat}{s:H}{l:List V},s[n]?=S5 (.list l)->l.length<=1001->∀v3:Option V,execs (Cd (d+4)) R56 ((lcR q lo hi v3).set 3 (S5 (.obj n))) s=S5 (.next,lcR q lo hi (S5 (.obj n)),s.set n (.list (l++[zT.v]))):=λh hl v3=>Zq (Y0 (Wx rfl (Zam h) (Zb (Zqp _ _ _) Zj) (Zaq h (Bx hl (by decide)) _)))
 obtain ab:=Ca lb
 obtain bc:=Ca lc
 obtain cd:=Ca ld
 obtain ac:=Ca (Bv lb lc)
 obtain bd:=Ca (Bv lc ld)
 obtain ad:=Ca (Bv (Bv lb lc) ld)
 obtain p1:=ap ga (by rw[Bg,Tr.rows_len,← Tr.sz_tl];exact Cy htl) N0
 obtain fo:=(W6 (b:=R56) (t:=3) (Ux b6 gd)).trans (Xx rfl p1 (Zbd gd ad))
 obtain gb:=Zbd (o':=.list ((q.t.rows 0).map Rw.v++[zT.v])) gb ab
 obtain gc:=Zbd (o':=.list ((q.t.rows 0).map Rw.v++[zT.v])) gc ac
 obtain gd:=Zbd (o':=.list ((q.t.rows 0).map Rw.v++[zT.v])) gd ad
 obtain k8:=k7.set (o:=.list ((q.t.rows 0).map Rw.v++[zT.v])) la
 generalize s7.set s3.length (.list ((q.t.rows 0).map Rw.v++[zT.v]))=s8 at fo gb gc gd k8
 obtain fo:=fo.trans (Xx rfl (ap gb (by rw[Bg];exact Cy (Bc (Zgb _) htl)) (S5 (.obj s3.length))) (Zbd gd bd))
 obtain gc:=Zbd (o':=.list ((clumps q.t.tl).map T3.v++[zT.v])) gc bc
 obtain gd:=Zbd (o':=.list ((clumps q.t.tl).map T3.v++[zT.v])) gd bd
 obtain k8:=k8.set (k:=s4.length) (o:=.list ((clumps q.t.tl).map T3.v++[zT.v])) (Bc la (C1 lb))
 generalize s8.set s4.length (.list ((clumps q.t.tl).map T3.v++[zT.v]))=s8 at fo gc gd k8
 obtain fo:=fo.trans ((Xx rfl (ap gc (by rw[Zm2];exact hGl) (S5 (.obj s4.length))) (Zbd gd cd)).trans rfl)
 obtain k8:=k8.set (k:=s5.length) (o:=.list (prs (Ja hi q.t.tl lo [])++[zT.v])) (Bc la (C1 (Bv lb lc)))
 refine rEA (λs9 c9 k89=>?_) (Zy0 (lo:=lo) (hi:=hi) (S.kp k8) hd hz (S5 (.obj s5.length)))
 exact Zlx Zz1 rfl (Za (Zn (Qp c1) Zi) (Za (Zn (Qp c2) Zi) (Za (Zn (Qp c3) Zi) (Za fo (Zp (Yr c9)))))) (k8.trans k89) rfl
end
theorem Zkr {A B C D E F:Type}{p0 p1:A->B->C->D->E->F->Prop}{P:Prop}(k:∀a b c d e f,p0 a b c d e f->p1 a b c d e f->P)(h:∃a b c d e f,p0 a b c d e f/\p1 a b c d e f):P:=Zl0 (λa b c d e f x=>k a b c d e f x.1 x.2) h
noncomputable def lcB (q:Wn)(r:Nat)(v3 v4 v5 v6 v7 v8 v9:Option V):L:=(S5 (.obj q.w)::S5 (.obj q.r)::S5 (.obj r)::v3::v4::v5::v6::v7::v8::v9::o8)
theorem Zof {C:Cl}{p:Wn}{s:Tr}{τ:H}{r b:Nat}{d:Int}(hk:τ[p.r]?=S5 (.list (p.t.tl.map T3.v)))(sg:Seg (p.t.rows 0) b s d)(hz:p.t.sz<900)(v3 v4 v7 v8 v9:Option V) :
  Zg C (.comp (.idx (.idx .v1 (.var 11)) (.i 1)) 11 (.rng2 .v5 .v6) .nil) (lcB p r v3 v4 (S5 (.int (b:Nat))) (S5 (.int ((b+s.sz:Nat):Int))) v7 v8 v9) τ=S5 (.ok (.obj τ.length),τ++[.list ((s.tl.map T3.b).map V.int)]):=by
 obtain hle:=sg.le
 rw[Tr.rows_len] at hle
 obtain hl:s.tl.length=s.sz:=Tr.sz_tl s
 obtain e:=Ju (C:=C) (elt:=Ex.idx (.idx .v1 (.var 11)) (.i 1)) (tg:=11) (it:=It.rng2 .v5 .v6) (ifs:=Es.nil) (Z:=lcB p r v3 v4 (S5 (.int (b:Nat))) (S5 (.int ((b+s.sz:Nat):Int))) v7 v8 v9) (keep:=λu_=>True) (λk=>V.int ((b:Nat)+(k:Nat))) (λk=>S5 (V.int (((s.tl[k]?).map T3.b).getD 0)))
  (Zc9 rfl rfl (Bc (Bc hle (C1 hz)) (by decide))) trivial (By rfl) (by rw[G4];exact Bc (Bc (Bc (Ih _ _) hle) (C1 hz)) (by decide)) λk hk'=>by
   obtain hks:=Dr.mp hk'
   obtain hkl:k<s.tl.length:=by rw[hl];exact hks
   obtain e1:=sg.kept hks
   rw[Bl hkl] at e1 ⊢
   refine byC λXX=>?_;obtain ⟨q1,q2⟩:=Ba.mp e1;apply XX
   obtain gi:Yh τ (.obj p.r) (.int ((b:Nat)+(k:Nat)))=S5 (s.tl[k]).v:=by
    have:=Yx hk (k:=b+k) (by rw[Bg];exact q1)
    rw[Cv,q2] at this
    rw[← this];push_cast;rfl
   exact Zqi (α:=Unit) Zfr (Zv (Zv rfl rfl gi) Zd rfl)
 rw[De] at e
 rw[e]
 obtain this:((C6 s.sz).map λk=>V.int (((s.tl[k]?).map T3.b).getD 0))=(s.tl.map T3.b).map V.int:=by
  apply List.ext_getElem
  .simp[hl]
  .intro i h1 h2
   obtain h3:i<s.tl.length:=by simpa using h2
   simp[Bl h3]
 rw[this]
set_option tactic.hygienic true in
theorem Zly (d:Nat){p:Wn}{τ:H}{r:Nat}(hk:τ[p.r]?=S5 (.list (p.t.tl.map T3.v)))(hr:τ[r]?=S5 (.list ((p.t.rows 0).map Rw.v)))(hz:p.t.sz<900){q:Qe}(sq:SQ (p.t.rows 0) Tr.avl q)(v3 v4 v5 v6 v7 v8:Option V) :
  ∃Z1 v4' v5' v6' v7' v8' ext,Xn (.three 4 5 6) (spV q) (lcB p r v3 v4 v5 v6 v7 v8 N0)=S5 Z1/\execs (Cd (d+1)) R57 Z1 τ=S5 (.next,lcB p r v3 v4' v5' v6' v7' v8' N0,τ++ext):=by
 refine byC λXX=>?_;obtain ⟨qb,qt,qd⟩:=q;apply XX;clear XX
 refine byC λXX=>?_;obtain ⟨sg,hne,ha⟩:=sq;apply XX;clear XX
 cases qt with
 | nil=>exact absurd rfl hne
 | node x l rr=>
  obtain hl:(p.t.rows 0).length<=1000:=by rw[Tr.rows_len];exact C1 (Bv hz (by decide))
  revert ha;refine X0 λhl1 hl2 hb1 hb2=>?_
  obtain row:Yh τ (.obj r) (.int ((qb+l.sz:Nat):Int))=S5 (Qr x l rr qd).v:=Xe hr sg.root rfl
  obtain u1:=Zf5 d hr hl sg.left
  obtain u2:=Zf5 d hr hl sg.right
  rw[show ((qb+l.sz+1:Nat):Int)=((qb+l.sz:Nat):Int)+1 by rfl,show qb+l.sz+1+rr.sz=qb+(Tr.node x l rr).sz by show _=qb+(l.sz+rr.sz+1);exact Nc 0x1855501a2505512acba1a1 Tt] at u2
  obtain mc:=Zof (C:=Cd (d+1)) (r:=r) hk sg hz v3 (S5 (.int ((qb+l.sz:Nat):Int))) (S5 (.int l.ht)) (S5 (.int rr.ht)) N0
  obtain mm := Zyw (gl τ (O.list (((Tr.node x l rr).tl.map T3.b).map V.int))) (a := (Tr.node x l rr).rc) (λy hy => by
    refine rEA (λz hz' hO2=>?_) (C0.mp hy);refine eqE hO2 ?_
    exact Tr.rc_ge _ z hz') (by refine rEA (λz hz' e=>?_) (Tr.rc_mem _ hne);exact C0.mpr ⟨z,hz',e⟩)
  refine ⟨_,S5 (.int ((qb+l.sz:Nat):Int)),S5 (.int (qb:Nat)),S5 (.int ((qb+(Tr.node x l rr).sz:Nat):Int)),S5 (.int l.ht),S5 (.int rr.ht),[O.list (((Tr.node x l rr).tl.map T3.b).map V.int)],rfl,?_⟩
  refine Za (Z1:=lcB p r v3 (S5 (.int ((qb+l.sz:Nat):Int))) (S5 (.int (qb:Nat))) (S5 (.int ((qb+(Tr.node x l rr).sz:Nat):Int))) (S5 (.int l.ht)) v8 N0) (U1:=τ) (Zz (Zl (Zb rfl (Zb rfl (Zb rfl (Zb (Zh (Zv (Zv rfl rfl row) Zd rfl) Zd (Yg _ _ _)) Zj)))) u1) rfl) ?_
  refine Za (Z1:=lcB p r v3 (S5 (.int ((qb+l.sz:Nat):Int))) (S5 (.int (qb:Nat))) (S5 (.int ((qb+(Tr.node x l rr).sz:Nat):Int))) (S5 (.int l.ht)) (S5 (.int rr.ht)) N0) (U1:=τ) (Zz (Zl (Zb rfl (Zb rfl (Zb rfl (Zb (Zh (Zv (Zv rfl rfl row) Zd rfl) Zd (Yg _ _ _)) Zj)))) u2) rfl) ?_
  refine Za (U1:=τ) (Zn (Xh (Zk (Zv (Zv rfl rfl row) Zd rfl) (Zh Zd (Z9 rfl rfl) (Yg _ _ _)) (neF rfl)) (Qp (Zfq (p:=T1) (q:=T1) rfl rfl Zd (leT (Ib 0x16cbac016150ac11 Tt hb2)) (leT (Ib 0x16c01a6051ac11 Tt hb1))))) Zi) ?_
  exact Zq (Zn (Zk (Zv (Zv rfl rfl row) Zd rfl) (Z9 (Zb mc Zj) mm) (neF rfl)) Zi)
theorem Zrc {i j:Nat}{ts:List T3}(h1:U[i]?=S5 (.list (ts.map T3.v)))(h2:U[j]?=S5 (.list (ts.map T3.v))):Yo .ne (.obj i) (.obj j) U=S5 F0:=by
 show (eqV U (.obj i) (.obj j)).map (!·)=_
 rw[Zf2 h1 h2];rfl
set_option tactic.hygienic true in
theorem Zks {d:Nat}{q:Wn}(S:Sw U q)(g:Gt q.t)(hd:q.t.sz<=d)(hz:q.t.sz<900):cf (d+6) 57 [.obj q.w,.obj q.r] U=S5 (.ok (.bool T1),U):=by
 obtain hz1:q.t.sz<1000:=Bv hz (by decide)
 obtain htl:q.t.tl.length<=1000:=by rw[Tr.sz_tl];exact C1 hz1
 obtain hl:=q.t.rows_len 0
 obtain x0:=Zz (i:=2) (Y2 (C:=Cd (d+5)) (Z:=(S5 (.obj q.w)::S5 (.obj q.r)::o16)) (Zr (i:=0) rfl) ((S.wd.mt 14).trans Zwg) Zj (Zf3 (d+3) S.wd (Gy hd) hz1)) rfl
 obtain hr:=gl U (O.list ((q.t.rows 0).map Rw.v))
 obtain k1:=(Kp.rfl U).app (t:=[O.list ((q.t.rows 0).map Rw.v)])
 generalize U++[O.list ((q.t.rows 0).map Rw.v)]=s1 at x0 hr k1
 obtain S1:=S.kp k1
 obtain c1:Zg (Cd (d+5)) (.comp (.idx (.var 11) (.i 0)) 11 (.ex .v2) .nil) (lcB q U.length N0 N0 N0 N0 N0 N0 N0) s1=S5 (.ok (.obj s1.length),s1++[O.list (q.t.tl.map T3.v)]):=by
  have:=Ju (C:=Cd (d+5)) (elt:=Ex.idx (.var 11) (.i 0)) (tg:=11) (it:=It.ex .v2) (ifs:=Es.nil) (Z:=lcB q U.length N0 N0 N0 N0 N0 N0 N0) Rw.v (λw=>S5 w.x.v) (Ux rfl hr) hr (show 11<18 by decide) (by rw[hl];exact Bc (C1 hz1) (by decide)) (λx u_=>Zqi (α:=Unit) Zfr rfl)
  rw[De] at this
  rw[this,← Tr.rows_x q.t 0,Cx];rfl
 obtain k2:=k1.app (t:=[O.list (q.t.tl.map T3.v)])
 obtain hr2:=Zm (t:=[O.list (q.t.tl.map T3.v)]) hr
 obtain x1:exec (Cd (d+5)) Zud (lcB q U.length N0 N0 N0 N0 N0 N0 N0) s1=S5 (.next,lcB q U.length N0 N0 N0 N0 N0 N0 N0,s1++[O.list (q.t.tl.map T3.v)]) :=
  Zn (Xh (Qp (Z9 rfl (Ztc hr))) (Xh (Zk (Z9 rfl (Zds hr)) (Z9 rfl (Zcd S1.kept)) (neF (by rw[hl,Tr.sz_tl]))) (Zk c1 rfl (Zrc (gl s1 _) (Zm S1.kept))))) Zi
 generalize s1++[O.list (q.t.tl.map T3.v)]=s2 at x1 k2 hr2
 refine rEA (λsp h3 hsq=>?_) (Zqv (d+4) (A:=Tr.avl) (λu_ v_ w_ h=>⟨h.1,h.2.1⟩) hr2 hz1 g.avl)
 obtain x2:=Zz (i:=3) (Zl (C:=Cd (d+5)) (Z:=lcB q U.length N0 N0 N0 N0 N0 N0 N0) (Zb (Zr (i:=2) rfl) Zj) h3) rfl
 obtain gs:=gl s2 (O.list (sp.map spV))
 obtain k3:=k2.app (t:=[O.list (sp.map spV)])
 obtain hr3:=Zm (t:=[O.list (sp.map spV)]) hr2
 generalize s2++[O.list (sp.map spV)]=s3 at x2 gs k3 hr3
 obtain S3:=S.kp k3
 obtain hu:=Zf5 (d+4) hr3 (by rw[hl];exact C1 hz1) (Seg.whole q.t)
 rw[Dw] at hu
 obtain x3:exec (Cd (d+5)) Zue (lcB q U.length (S5 (.obj s2.length)) N0 N0 N0 N0 N0 N0) s3=S5 (.next,lcB q U.length (S5 (.obj s2.length)) N0 N0 N0 N0 N0 N0,s3) :=
  Zn (Xh rfl (Zk (Y2 rfl ((S3.wd.mt 13).trans Z0l) Zj (Zn4 (d+3) S3.wd)) (Zl (Zb rfl (Zb Zd (Zb (Z9 rfl (hl▸Zds hr3)) rfl))) hu) (neF rfl))) Zi
 refine Ug (λZ4 s4 f4 Jq => ?_) (Zij (body := execs (Cd (d + 5)) R57) (t := .three 4 5 6) (keep := λτ => τ[s2.length]? = S5 (.list (sp.map spV))) spV (λZ τ => ∃ v4 v5 v6 v7 v8 ext, Z = lcB q U.length (S5 (.obj s2.length)) v4 v5 v6 v7 v8 N0 /\ τ = s3 ++ ext) sp (λp hp Z τ h => by
   refine Zkr (λv4 v5 v6 v7 v8 ext e1 e2=>?_) h
   rw[e1,e2]
   refine Zgk (λZ1 v4' v5' v6' v7' v8' ext' q1 q2=>?_) (Zly (d+4) (Zm (t:=ext) S3.kept) (Zm (t:=ext) hr3) hz (hsq p hp) (S5 (.obj s2.length)) v4 v5 v6 v7 v8)
   exact ⟨Z1,_,_,q1,q2,Zm (Zm gs),v4',v5',v6',v7',v8',ext++ext',rfl,by rw[Bn]⟩)
  (lcB q U.length (S5 (.obj s2.length)) N0 N0 N0 N0 N0 N0) s3 ⟨N0,N0,N0,N0,N0,[],rfl,(Cn _).symm⟩)
 refine Zkr (λv4 v5 v6 v7 v8 ext hZ hs=>?_) Jq
 rw[hZ] at f4
 obtain k4:Kp U s4:=hs▸k3.app
 obtain hr4:s4[U.length]?=S5 (.list ((q.t.rows 0).map Rw.v)):=hs▸Zm hr3
 obtain S4:=S.kp k4
 refine U9 (λlo hi a1 a2 a3 a4=>?_) (Zih (d+4) ((q.t.tl.length:Int)*69621+3) S4.kept)
 obtain A:Ask lo hi:=⟨a2,a3,a4⟩
 refine Zlx Zz2 rfl (Z':=lcB q U.length (S5 (.obj s2.length)) v4 v5 v6 v7 v8 (S5 (Zeh lo hi))) (Za x0 (Za x1 (Za x2 (Za x3 (Za ((Zww (Ux rfl gs)).trans f4) (Za (Zz (Zl (Zb (Zh (Zh (Z9 rfl (Zcd S4.kept)) Zd (Jy (ml (by decide)) _)) Zd (Yg _ _ _)) rfl) a1) rfl) (Za (Zn (Qp (Zl rfl (Ztm A S4 g hd hz))) Zi) (Zp (Yr ?_)))))))))  k4 rfl
 exact Zk (Y2 rfl ((S4.wd.mt 8).trans mt8) rfl (Zqq (d+2) lo hi A.l A.m A.h S4.wd (Gy hd) hz1)) (Zl rfl (Zll (d+3) hr4 hz1 lo hi)) (eqT rfl)
theorem Zkt (U:H):∀ts:List T3,(ts.map T3.v).mapM (toD 6 U)=S5 (ts.map tD)
 | []=>rfl
 | x::r=>by
  have h1:toD 6 U x.v=S5 (tD x):=Zc6 4 U [x.a,x.b,x.c]
  simp only[Bz,Dn,h1,Zkt U r];rfl
theorem Zrd (y x:T3):aw.eqv (tD y) (tD x)=decide (y=x):=by
 have:=Zao [y.a,y.b,y.c] [x.a,x.b,x.c]
 obtain e:(decide ([y.a,y.b,y.c]=[x.a,x.b,x.c]))=decide (y=x):=by rw[decide_eq_decide,T3.eq_iff];simp
 rw[e] at this
 exact this
theorem Zre {r:Nat}{ts:List T3}(hr:U[r]?=S5 (.list (ts.map T3.v)))(x:T3):Yo .mem x.v (.obj r) U=S5 (decide (x∈ts)):=by
 show (items U (.obj r)).bind (inV U x.v)=_
 rw[Jt hr]
 show inV U x.v (ts.map T3.v)=_
 unfold inV
 rw[Zkt,show toD 6 U x.v=S5 (tD x) from Zc6 4 U [x.a,x.b,x.c]]
 show S5 ((ts.map tD).any λy=>aw.eqv y (tD x))=_
 rw[List.any_map]
 congr 1
 rw[Ko,Lr,decide_eq_true_eq]
 constructor
 .intro hR0
  revert hR0;refine rEA λy hy h=>?_
  rw[Function.comp,Zrd,decide_eq_true_eq] at h
  exact h▸hy
 .intro h
  exact ⟨x,h,by rw[Function.comp,Zrd];simp⟩
theorem Zw8 {r:Nat}{ts:List T3}(hr:U[r]?=S5 (.list (ts.map T3.v)))(x:T3):Yo .nmem x.v (.obj r) U=S5 (!decide (x∈ts)):=by
 have:=Zre hr x
 show ((items U (.obj r)).bind (inV U x.v)).map (!·)=_
 rw[show (items U (.obj r)).bind (inV U x.v)=S5 (decide (x∈ts)) from this];rfl
theorem Ztn {l:List Int}{k:Nat}(h:k<l.length)(U:H){i:Int}(hi:i=k):Yh U (.frz l) (.int i)=S5 (.int (l.getD k 0)):=by
 subst hi
 rw[Zlg]
 show (Zgc (k:Int) (l.map V.int).length).bind (λj=>(l.map V.int)[j]?)=_
 obtain this:Zgc (k:Int) (l.map V.int).length=S5 k:=by unfold Zgc;rw[gp (by exact ln1 [] (.zle .k0 (.n .v0)) (.d 11) rfl),gp (by rw[Bg];exact ln2 [(.lt .v0 .v1)] (.zlt (.n .v0) (.n .v1)) (.d 111) rfl h)];rfl
 rw[this]
 simp[G8,h]
theorem Zw9 {l:List Int}(hb:∀x∈l,x.natAbs<2^(2^20))(k:Nat)(c:Nat)(hc:c<65536):Big (l.getD k 0*48271+c):=by
 have hx:(l.getD k 0).natAbs<2^(2^20):=by
  rw[G8]
  cases h:l[k]? with
  | none=>exact Nat.two_pow_pos _
  | some x=>exact hb x (Bw h)
 generalize l.getD k 0=x at hx
 generalize hE:2^20=E at hx
 have h1:(x*48271+c).natAbs<=x.natAbs*48271+c:=by
  have:=Int.natAbs_add_le (x*48271) c
  rw[Int.natAbs_mul] at this
  simpa using this
 have h2:x.natAbs*48271+c<2^(E+17):=by
  rw[Nat.pow_add]
  have h3:x.natAbs+1<=2^E:=hx
  have h4:=Nat.mul_le_mul_right (2^17) h3
  exact C2 (Nat.add_lt_add_of_le_of_lt (Nat.mul_le_mul_left x.natAbs (show 48271<=2^17 by decide)) (Bv hc (show 65536<2^17 by decide))) (Nat.succ_mul x.natAbs (2^17)▸h4)
 refine Bx h1 (C2 h2 (L2 (by decide) ?_))
 rw[← hE];decide
structure Ws (U:H)(a b:Nat)(l:List Wn):Prop where
 ha:U[a]?=S5 (.list (l.map λq=>V.obj q.w))
 hb:U[b]?=S5 (.list (l.map λq=>V.obj q.r))
 sw:∀(i:Nat) q,l[i]?=S5 q->Sw U q
 gt:∀(i:Nat) q,l[i]?=S5 q->Gt q.t
 nd:∀(i j:Nat) p q,l[i]?=S5 p->l[j]?=S5 q->p.n=q.n->i=j
theorem Jn {i j:Nat}{o o':O}(h1:U[i]?=S5 o)(h2:U[j]?=S5 o')(hn:o≠o'):i≠j:=λe=>hn (B0.inj (h1.symm.trans (e▸h2)))
section
variable {U:H}{a b:Nat}{l:List Wn}
theorem Ws.kp (W:Ws U a b l){τ:H}(k:Kp U τ):Ws τ a b l:=⟨k _ _ W.ha,k _ _ W.hb,λi q h=>(W.sw i q h).kp k,W.gt,W.nd⟩
theorem Ws.getw (W:Ws U a b l){i:Nat}{q:Wn}(h:l[i]?=S5 q):Yh U (.obj a) (.int (i:Nat))=S5 (.obj q.w):=by
 refine byC λXX=>?_;obtain ⟨h1,h2⟩:=Ba.mp h;apply XX
 rw[Yx W.ha (k:=i) (by rw[Bg];exact h1),Cv,h2]
theorem Ws.getr (W:Ws U a b l){i:Nat}{q:Wn}(h:l[i]?=S5 q):Yh U (.obj b) (.int (i:Nat))=S5 (.obj q.r):=by
 refine byC λXX=>?_;obtain ⟨h1,h2⟩:=Ba.mp h;apply XX
 rw[Yx W.hb (k:=i) (by rw[Bg];exact h1),Cv,h2]
theorem Zbh {f:Wn->Nat}{i:Nat}{q:Wn}(h:l[i]?=S5 q)(ts:List T3):O.list (ts.map T3.v)≠O.list (l.map λq=>V.obj (f q)):=λe=>by
 injection e with e
 obtain this:V.obj (f q)∈ts.map T3.v:=e▸C0.mpr ⟨q,Bw h,rfl⟩
 refine rEA (λx u_ e=>?_) (C0.mp this)
 cases e
theorem Ws.ab (W:Ws U a b l){i:Nat}{q:Wn}(h:l[i]?=S5 q):a≠b:=λe=>by
 injection B0.inj (W.ha.symm.trans (e▸W.hb)) with e1
 obtain e2:(l.map λq=>V.obj q.w)[i]?=(l.map λq=>V.obj q.r)[i]?:=by rw[e1]
 rw[Ll,Ll,h] at e2
 injection B0.inj e2 with e3
 obtain S:=W.sw i q h
 exact Jn S.wd.2 S.kept nofun e3
theorem Zin {n:Nat}{f:Wn->Nat}(h:U[n]?=S5 (.list (l.map λq=>V.obj (f q)))):Uh .len [.obj n] U=S5 (.int l.length,U):=by
 rw[Zim h,Bg]
set_option tactic.hygienic true in
theorem Ws.upd (W:Ws U a b l){i:Nat}{q:Wn}(hi:l[i]?=S5 q){r':Nat}{t':Tr}(hk:∀(k:Nat) o,k≠q.n->k≠b->U[k]?=S5 o->U'[k]?=S5 o)(hb:U'[b]?=S5 (.list ((l.map λq=>V.obj q.r).set i (.obj r'))))(S:Sw U' ⟨q.w,q.n,r',t'⟩)(g:Gt t'):Ws U' a b (l.set i ⟨q.w,q.n,r',t'⟩):=by
 obtain hil:=(Ba.mp hi).1
 have Sq:=W.sw i q hi
 have at_:∀j p,(l.set i ⟨q.w,q.n,r',t'⟩)[j]?=S5 p->(i=j/\p=⟨q.w,q.n,r',t'⟩)\/(i≠j/\l[j]?=S5 p):=λj p h=>by
  rw[Lm] at h
  split at h
  .rename_i e
   exact .inl ⟨e,(B0.inj h).symm⟩
  .exact .inr ⟨‹_›,h⟩
 refine ⟨?_,?_,λj p h=>?_,λj p h=>?_,λj k p p' h h' e=>?_⟩
 .have e : (l.set i ⟨q.w, q.n, r', t'⟩).map (λq => V.obj q.w) = l.map λq => V.obj q.w := by
   rw[Mo]
   refine byC λXX=>?_;obtain ⟨_,h2⟩:=Ba.mp hi;apply XX;clear XX
   obtain this:V.obj q.w=(l.map λq=>V.obj q.w)[i]'(by rw[Bg];exact hil):=by rw[Cv,h2]
   show (l.map λq=>V.obj q.w).set i (V.obj q.w)=_
   rw[this,G2]
  rw[e];exact hk a _ (Jn W.ha Sq.wd.1 nofun) (W.ab hi) W.ha
 .rw[Mo];exact hb
 .rcases at_ j p h with ⟨_,e⟩ | ⟨hn,h⟩
  .rw[e];exact S
  .have Sp:=W.sw j p h
   obtain nn:p.n≠q.n:=λe=>hn (W.nd i j q p hi h e.symm)
   exact ⟨⟨hk _ _ nn (Jn Sp.wd.1 W.hb nofun) Sp.wd.1,hk _ _ (Jn Sp.wd.2 Sq.wd.1 nofun) (Jn Sp.wd.2 W.hb nofun) Sp.wd.2⟩,hk _ _ (Jn Sp.kept Sq.wd.1 nofun) (Jn Sp.kept W.hb (Zbh h _)) Sp.kept⟩
 .rcases at_ j p h with ⟨_,e⟩ | ⟨_,h⟩
  .rw[e];exact g
  .exact W.gt j p h
 .rcases at_ j p h with ⟨h1,e1⟩ | ⟨h1,h⟩
  .rcases at_ k p' h' with ⟨h2,e2⟩ | ⟨h2,h'⟩
   .exact h1.symm.trans h2
   .rw[e1] at e;exact absurd (W.nd i k q p' hi h' e) h2
  .rcases at_ k p' h' with ⟨h2,e2⟩ | ⟨h2,h'⟩
   .rw[e2] at e;exact absurd (W.nd j i p q h hi e).symm h1
   .exact W.nd j k p p' h h' e
theorem Ws.add (W:Ws U a b l){q':Wn}(hk:∀(k:Nat) o,k≠a->k≠b->U[k]?=S5 o->U'[k]?=S5 o)(ha:U'[a]?=S5 (.list ((l.map λq=>V.obj q.w)++[.obj q'.w])))(hb:U'[b]?=S5 (.list ((l.map λq=>V.obj q.r)++[.obj q'.r])))(S:Sw U' q')(g:Gt q'.t)(hn:U.length<=q'.n):Ws U' a b (l++[q']):=by
 have at_:∀j p,(l++[q'])[j]?=S5 p->(j=l.length/\p=q')\/l[j]?=S5 p:=λj p h=>by
  rcases Dc j l.length with h1 | h1
  .rw[Br h1] at h;exact .inr h
  .rw[Bh h1] at h
   cases e:j-l.length with
   | zero=>rw[e] at h;exact .inl ⟨Gp (Nat.sub_eq_zero_iff_le.mp e) h1,(B0.inj h).symm⟩
   | succ k=>rw[e] at h;exact nn h
 have old:∀(j:Nat) (p:Wn),l[j]?=S5 p->p.n≠q'.n:=λj p h e=>absurd (Ba.mp (W.sw j p h).wd.1).1 (Il.mpr (e▸hn))
 refine ⟨by rw[Cs];exact ha,by rw[Cs];exact hb,λj p h=>?_,λj p h=>?_,λj k p p' h h' e=>?_⟩
 .rcases at_ j p h with ⟨_,e⟩ | h
  .rw[e];exact S
  .have Sp:=W.sw j p h
   exact ⟨⟨hk _ _ (Jn Sp.wd.1 W.ha nofun) (Jn Sp.wd.1 W.hb nofun) Sp.wd.1,hk _ _ (Jn Sp.wd.2 W.ha nofun) (Jn Sp.wd.2 W.hb nofun) Sp.wd.2⟩,hk _ _ (Jn Sp.kept W.ha (Zbh h _)) (Jn Sp.kept W.hb (Zbh h _)) Sp.kept⟩
 .rcases at_ j p h with ⟨_,e⟩ | h
  .rw[e];exact g
  .exact W.gt j p h
 .rcases at_ j p h with ⟨h1,e1⟩ | h
  .rcases at_ k p' h' with ⟨h2,_⟩ | h'
   .exact h1.trans h2.symm
   .rw[e1] at e;exact absurd e.symm (old k p' h')
  .rcases at_ k p' h' with ⟨_,e2⟩ | h'
   .rw[e2] at e;exact absurd e (old j p h)
   .exact W.nd j k p p' h h' e
end
theorem Zrf (x:Int){n:Nat}(h:0<n):∃i:Nat,i<n/\x.fmod n=i:=by
 obtain h1:=Zig x (m:=n) (Ma.mpr h)
 obtain h2:=Zf1 x (m:=n) (Ma.mpr h)
 exact ⟨(x.fmod n).toNat,by exact lin [(.lt .k0 .v1),(.zlt .v0 (.n .v1)),(.nt .v0 .v0)] (.lt .v0 .v1) (.s (.d 110101) (.d 111001)) rfl [_,_] [_] h h2 (W7 _),(Ij h1).symm⟩
theorem Zm7 (U:H)(o p:O):(U++[o]++[p])[U.length]?=S5 o/\(U++[o]++[p])[U.length+1]?=S5 p:=⟨Zm (gl U o),by have:=gl (U++[o]) p;rwa [Bq] at this⟩
theorem Zio (U:H)(l:List (Nat×V)):Zd9 (U++[.ns l]++[.inst 0 U.length]) (.obj (U.length+1))=S5 (U.length,l):=by
 obtain h:=Zm7 U (.ns l) (.inst 0 U.length)
 simp only[Zd9,h.2,h.1]
theorem Zeq (U:H)(o o' p:O):Yk (U++[o]++[p]) U.length o'=U++[o']++[p]:=by simp[Yk]
theorem Zrg (d:Nat)(Z:L)(U:H):Zg (Cd (d+1)) (.new 0 .nil) Z U=S5 (.ok (.obj (U.length+1)),U++[.ns [(0,.none),(1,.int 0)]]++[.inst 0 U.length]):=by
 refine Zys ini (Uy Zz6 rfl (Zie (Z':=(S5 (.obj (U.length+1))::o8)) ?_))
 obtain x1:=Zbb (C:=Cd d) (Z:=(S5 (.obj (U.length+1))::o8)) (k:=0) (X6 (Zd (v:=.none))) (Zr (i:=0) rfl) (Zio U [])
 rw[Zeq] at x1
 obtain x2:=Zbb (C:=Cd d) (Z:=(S5 (.obj (U.length+1))::o8)) (k:=1) (X6 (Zd (v:=.int 0))) (Zr (i:=0) rfl) (Zio U [(0,.none)])
 rw[Zeq] at x2
 exact Za x1 (Zq x2)
theorem Zog (d:Nat){w n:Nat}{t:Tr}{m:Int}(hw:Wd w n U t m):cf (d+2) 82 [.obj w] U=S5 (.ok (.obj (U.length+1)),U++[.ns [(0,t.v),(1,.int m)]]++[.inst 0 U.length]):=by
 obtain a:∀(l:List (Nat×V)) (k:Nat) (v:V),[(0,t.v),(1,.int m)].lookup k=S5 v->Jp (Cd (d+1)) (.attr .v0 k) (S5 (.obj w)::S5 (.obj (U.length+1))::o8) (U++[.ns l]++[.inst 0 U.length])=S5 (.ok v,U++[.ns l]++[.inst 0 U.length]):=λl k v h=>X6 (X4 rfl (hw.app.app).ns h)
 obtain x1:=Zbb (k:=0) (a _ 0 _ rfl) (Zr (i:=1) rfl) (Zio U [(0,.none),(1,.int 0)])
 rw[Zeq] at x1
 obtain x2:=Zbb (k:=1) (a _ 1 _ rfl) (Zr (i:=1) rfl) (Zio U [(0,t.v),(1,.int 0)])
 rw[Zeq] at x2
 exact Uy Z0g rfl (X7 (Za (Zz (Zrg d _ U) rfl) (Za x1 (Za x2 rfl))))
noncomputable def lcL (scr:List Int)(a b:Nat)(v3 v4 v5 v6 v7 v8 v9 v10 v11:Option V):L:=(S5 (.frz scr)::S5 (.obj a)::S5 (.obj b)::v3::v4::v5::v6::v7::v8::v9::v10::v11::o8)
def Bd (l:List Wn)(N:Nat):Prop:=∀(i:Nat) q,l[i]?=S5 q->q.t.sz<=N
set_option tactic.hygienic true in
theorem Zxa {C:Cl}{o i e:Ex}{U2 U3 U4:H}{v x k:V}(h:Jp C e Z U=S5 (.ok v,U1))(ho:Zg C o Z U1=S5 (.ok x,U2))(hi:Zg C i Z U2=S5 (.ok k,U3))(hs:Zhl U3 x k v=S5 U4):exec C (.iset o i e) Z U=S5 (.next,Z,U4) :=
 (Zfs h).trans ((Xd ho).trans ((Xd hi).trans (by show (Zhl U3 x k v).map _=_;rw[hs];rfl)))
theorem Zto (p:Bool)(U:H):Yo .eq (.str (if p then Zeg else Zax)) (.str { cps:=#[116,97,107,101] }) U=S5 (!p):=by
 cases p <;> exact Zm4 (by decide +kernel) (by decide +kernel) (by decide +kernel) U
theorem Ztp (p ok:Bool)(U:H):Yo .ne (.str (Zbg p ok)) (.str (Zbg p ok)) U=S5 F0:=by
 cases ok <;> cases p <;> exact Zur (b:=T1) (by decide +kernel) (by decide +kernel) (by decide +kernel) U
section
variable {U:H}{a b:Nat}{l:List Wn}
theorem Zip (e:Nat){i j:Nat}{q:Wn}{lo hi:Int}(W:Ws U a b l)(h:l[i]?=S5 q)(A:Ask lo hi)(h1:Z[1]?.join=S5 (.obj a))(h2:Z[2]?.join=S5 (.obj b))(hj:Z[j]?.join=S5 (.int (i:Nat))){x:Ex}(h6:Zg (Cd (e+6)) x Z U=S5 (.ok (Zeh lo hi),U))(hd:q.t.sz<=e)(hz:q.t.sz<900) :
  Zg (Cd (e+6)) (.call 59 (.cons (.idx .v1 (.var j)) (.cons (.idx .v2 (.var j)) (.cons x .nil)))) Z U=S5 (.ok (.bool T1),U) :=
 Zl (Zb (Zv (Zr h1) (Zr hj) (W.getw h)) (Zb (Zv (Zr h2) (Zr hj) (W.getr h)) (Zb h6 Zj))) (Zw7 (d:=e+1) A (W.sw i q h) (W.gt i q h) (Cy hd) hz)
theorem Ztq (e:Nat){scr:List Int}{k:Nat}{c:Int}(hc:∀U:H,Yh U (.frz scr) (.int (k:Nat))=S5 (.int c))(W:Ws U a b l){i:Nat}{q:Wn}(h:l[i]?=S5 q)(hl:l.length<=100)(hz:q.t.sz<900)(v4 v6 v7 v8 v9 v10:Option V):∃U' l',(∀r,execs (Cd (e+6)) r (lcL scr a b (S5 (.int (k:Nat))) v4 (S5 (.int (i:Nat))) v6 v7 v8 v9 v10 N0) U'=execs (Cd (e+6)) (.cons Zye r) (lcL scr a b (S5 (.int (k:Nat))) v4 (S5 (.int (i:Nat))) v6 v7 v8 v9 v10 N0) U)/\Ws U' a b l'/\(l'=l\/∃q',l'=l++[q']/\q'.t=q.t):=by
 obtain S:=W.sw i q h
 obtain c1:=Zk (C:=Cd (e+6)) (Z:=lcL scr a b (S5 (.int (k:Nat))) v4 (S5 (.int (i:Nat))) v6 v7 v8 v9 v10 N0) (op:=.eq) (U:=U) (Zh (Zh (Zv (Zr (i:=0) rfl) (Zr (i:=3) rfl) (hc U)) Zd (Zt (y:=8) (fd 8) U)) Zd (Zs (y:=5) (by decide) U)) Zd (Zwl _ 0 U)
 obtain c2:=Zk (C:=Cd (e+6)) (Z:=lcL scr a b (S5 (.int (k:Nat))) v4 (S5 (.int (i:Nat))) v6 v7 v8 v9 v10 N0) (op:=.lt) (U:=U) (Z9 (Zb (Zr (i:=1) rfl) Zj) (Zin W.ha)) Zd (Zwj _ 5 U)
 obtain c3:=Zba c1 c2
 generalize (decide ((c.fdiv 8).fmod 5=0)&&decide ((l.length:Int)<5))=p at c3
 cases p with
 | false=>exact ⟨U,l,λr=>(Za (Zn c3 Zi) rfl).symm,W,.inl rfl⟩
 | true=>
  obtain al:U.length<=U.length+1:=K2 _
  obtain u:=Y2 (C:=Cd (e+6)) (Z:=lcL scr a b (S5 (.int (k:Nat))) v4 (S5 (.int (i:Nat))) v6 v7 v8 v9 v10 N0) (Zv (Zr (i:=1) rfl) (Zr (i:=5) rfl) (W.getw h)) ((S.wd.mt 12).trans Z0k) Zj (Zog (e+4) S.wd)
  obtain g1:=Zm7 U (.ns [(0,q.t.v),(1,.int q.t.sz)]) (.inst 0 U.length)
  have k1:Kp U (U++[.ns [(0,q.t.v),(1,.int q.t.sz)]]++[.inst 0 U.length]):=(Kp.rfl U).app.app
  generalize U++[.ns [(0,q.t.v),(1,.int q.t.sz)]]++[.inst 0 U.length]=s1 at u g1 k1
  obtain a1:=Zaq (k1 _ _ W.ha) (by rw[Bg];exact Bx hl (by decide)) (.obj (U.length+1))
  obtain x1:=Y0 (Wx (Zr (i:=1) rfl) (Zam W.ha) (Zb u Zj) a1)
  have ab:=W.ab h
  have k2:∀(n:Nat) o,n≠a->s1[n]?=S5 o->(s1.set a (.list ((l.map λq=>V.obj q.w)++[.obj (U.length+1)])))[n]?=S5 o:=λn o hn h=>Zbd h (Ne.symm hn)
  obtain a2:=Zlm (o':=.list ((l.map λq=>V.obj q.w)++[.obj (U.length+1)])) (k1 _ _ W.ha)
  obtain b2:=k2 _ _ (Ne.symm ab) (k1 _ _ W.hb)
  obtain r2:=k2 _ _ (Jn S.kept W.ha (Zbh h _)) (k1 _ _ S.kept)
  obtain n2:=k2 _ _ (Jn g1.1 (k1 _ _ W.ha) nofun) g1.1
  obtain w2:=k2 _ _ (Jn g1.2 (k1 _ _ W.ha) nofun) g1.2
  generalize s1.set a (.list ((l.map λq=>V.obj q.w)++[.obj (U.length+1)]))=s2 at x1 k2 a2 b2 r2 n2 w2
  obtain lr2:Yh s2 (.obj b) (.int (i:Nat))=S5 (.obj q.r):=by
   refine byC λXX=>?_;obtain ⟨h1,h2⟩:=Ba.mp h;apply XX
   rw[Yx b2 (k:=i) (by rw[Bg];exact h1),Cv,h2]
  obtain hq:(q.t.tl.map T3.v).length<=Zo:=by rw[Bg,Tr.sz_tl];exact Bc (C1 hz) (by decide)
  obtain cp:Uh .list [.obj q.r] s2=S5 (.obj s2.length,s2++[.list (q.t.tl.map T3.v)]):=by
   show ((Zd8 [V.obj q.r]).bind λv=>(Yj s2 v).bind λl=>Jb s2 l)=_
   rw[Zc3,Cf,Zw r2,Cf,Wl hq]
  obtain x2:=Y0 (Wx (C:=Cd (e+6)) (Z:=lcL scr a b (S5 (.int (k:Nat))) v4 (S5 (.int (i:Nat))) v6 v7 v8 v9 v10 N0) (Zr (i:=2) rfl) (Zam b2) (Zb (Z9 (Zb (Zv (Zr (i:=2) rfl) (Zr (i:=5) rfl) lr2) Zj) cp) Zj) (Zaq (Zm b2) (by rw[Bg];exact Bx hl (by decide)) _))
  have k3:∀(n:Nat) o,n≠b->(s2++[O.list (q.t.tl.map T3.v)])[n]?=S5 o->((s2++[O.list (q.t.tl.map T3.v)]).set b (.list ((l.map λq=>V.obj q.r)++[.obj s2.length])))[n]?=S5 o:=λn o hn h=>Zbd h (Ne.symm hn)
  obtain b3:=Zlm (o':=.list ((l.map λq=>V.obj q.r)++[.obj s2.length])) (Zm (t:=[O.list (q.t.tl.map T3.v)]) b2)
  obtain b3':=Zm (t:=[O.list (q.t.tl.map T3.v)]) b2
  obtain a3:=k3 _ _ ab (Zm a2)
  obtain r3:=k3 _ _ (Jn (gl s2 _) b3' (Zbh h _)) (gl s2 _)
  obtain n3:=k3 _ _ (Jn (Zm n2) b3' nofun) (Zm n2)
  obtain w3:=k3 _ _ (Jn (Zm w2) b3' nofun) (Zm w2)
  obtain k4:∀(n:Nat) o,n≠a->n≠b->U[n]?=S5 o->((s2++[O.list (q.t.tl.map T3.v)]).set b (.list ((l.map λq=>V.obj q.r)++[.obj s2.length])))[n]?=S5 o:=λn o h1 h2 h=>k3 _ _ h2 (Zm (k2 _ _ h1 (k1 _ _ h)))
  generalize (s2++[O.list (q.t.tl.map T3.v)]).set b (.list ((l.map λq=>V.obj q.r)++[.obj s2.length]))=s3 at x2 b3 a3 r3 n3 w3 k4
  obtain W3:=W.add (q':=⟨U.length+1,U.length,s2.length,q.t⟩) k4 a3 b3 ⟨⟨n3,w3⟩,r3⟩ (W.gt i q h) (Bp _)
  obtain is3:Uh .isinstance [.obj (U.length+1),.ty 20] s3=S5 (.bool T1,s3):=by
   show ((s3[U.length+1]?).bind λo=>Zop o 20).map _=_
   rw[w3];rfl
  obtain x3:=Zn (s:=Ss.cons (.ret (.lit (V.bool F0))) .nil) (Qp (Z9 (Zb (Zv (C:=Cd (e+6)) (Z:=lcL scr a b (S5 (.int (k:Nat))) v4 (S5 (.int (i:Nat))) v6 v7 v8 v9 v10 N0) (Zr (i:=1) rfl) (Zp9 (Zd (v:=.int 1))) (Zbe a3)) (Zb (Z0m (t:=20)) Zj)) is3)) Zi
  exact ⟨s3,_,λr=>(Za (Z7 c3 (Za x1 (Za x2 (Zq x3)))) rfl).symm,W3,.inr ⟨_,rfl,rfl⟩⟩
set_option tactic.hygienic true in
theorem Zoh (e:Nat){scr:List Int}{k:Nat}{c:Int}(hc:∀U:H,Yh U (.frz scr) (.int (k:Nat))=S5 (.int c))(W:Ws U a b l){i:Nat}{q:Wn}(h:l[i]?=S5 q){x:T3}(ho:okT x)(hd:q.t.sz<=e)(hz:q.t.sz<900)(v4 v6 v8 v9 v10:Option V) :
  ∃v8' v9' U' r' t',execs (Cd (e+6)) Zwb (lcL scr a b (S5 (.int (k:Nat))) v4 (S5 (.int (i:Nat))) v6 (S5 x.v) v8 v9 v10 N0) U=S5 (.next,lcL scr a b (S5 (.int (k:Nat))) v4 (S5 (.int (i:Nat))) v6 (S5 x.v) v8' v9' v10 N0,U')/\Ws U' a b (l.set i ⟨q.w,q.n,r',t'⟩)/\t'.sz<=q.t.sz+1/\∀(k:Nat) o,k≠q.n->k≠b->U[k]?=S5 o->U'[k]?=S5 o:=by
 obtain S:=W.sw i q h
 obtain g:=W.gt i q h
 refine rE (λm hm=>?_) (Zko (c.fmod 8) [3,5,6] U)
 obtain ⟨p,hp⟩ : ∃p,(!p)=m:=⟨!m,Bool.not_not m⟩
 subst hp
 have x1:exec (Cd (e+6)) (.asg (.one 8) (.ife (.cmp (.bin .mod (.idx .v0 .v3) (.i 8)) (.one .mem (.tup (.cons (.i 3) (.cons (.i 5) (.cons (.i 6) .nil)))))) (.lit (V.str { cps:=#[116,97,107,101] })) (.lit (V.str { cps:=#[112,117,116] })))) (lcL scr a b (S5 (.int (k:Nat))) v4 (S5 (.int (i:Nat))) v6 (S5 x.v) v8 v9 v10 N0) U=S5 (.next,lcL scr a b (S5 (.int (k:Nat))) v4 (S5 (.int (i:Nat))) v6 (S5 x.v) (S5 (.str (if p then Zeg else Zax))) v9 v10 N0,U):=by
  obtain c0:=Zk (C:=Cd (e+6)) (Z:=lcL scr a b (S5 (.int (k:Nat))) v4 (S5 (.int (i:Nat))) v6 (S5 x.v) v8 v9 v10 N0) (Zh (Zv (Zr (i:=0) rfl) (Zr (i:=3) rfl) (hc U)) Zd (Zs (y:=8) (by decide) U)) (Xi (Zb Zd (Zb Zd (Zb Zd Zj))) rfl) hm
  refine Zz ?_ rfl
  cases p
  .exact (Z8 c0).trans Zd
  .exact (Z8 c0).trans Zd
 have hr:Yh U (.obj b) (.int (i:Nat))=S5 (.obj q.r):=W.getr h
 obtain x34:∀r,execs (Cd (e+6)) (.cons Zyc (.cons Zyd r)) (lcL scr a b (S5 (.int (k:Nat))) v4 (S5 (.int (i:Nat))) v6 (S5 x.v) (S5 (.str (if p then Zeg else Zax))) (S5 (.str Zdb)) v10 N0) U=execs (Cd (e+6)) r (lcL scr a b (S5 (.int (k:Nat))) v4 (S5 (.int (i:Nat))) v6 (S5 x.v) (S5 (.str (if p then Zeg else Zax))) (S5 (.str (Zbg p (wll p x q.t)))) v10 N0) U:=λr=>by
  obtain m1:=Zk (C:=Cd (e+6)) (Z:=lcL scr a b (S5 (.int (k:Nat))) v4 (S5 (.int (i:Nat))) v6 (S5 x.v) (S5 (.str (if p then Zeg else Zax))) (S5 (.str Zdb)) v10 N0) (Zr (i:=8) rfl) Zd (Zlt p U)
  obtain m2:=Zk (C:=Cd (e+6)) (Z:=lcL scr a b (S5 (.int (k:Nat))) v4 (S5 (.int (i:Nat))) v6 (S5 x.v) (S5 (.str (if p then Zeg else Zax))) (S5 (.str Zdb)) v10 N0) (Zr (i:=7) rfl) (Zv (Zr (i:=2) rfl) (Zr (i:=5) rfl) hr) (Zre S.kept x)
  obtain m3:∀w,_:=λw=>Zk (C:=Cd (e+6)) (Z:=lcL scr a b (S5 (.int (k:Nat))) v4 (S5 (.int (i:Nat))) v6 (S5 x.v) (S5 (.str (if p then Zeg else Zax))) (S5 (.str w)) v10 N0) (Zr (i:=8) rfl) Zd (Zto p U)
  obtain m4:∀w,_:=λw=>Zk (C:=Cd (e+6)) (Z:=lcL scr a b (S5 (.int (k:Nat))) v4 (S5 (.int (i:Nat))) v6 (S5 x.v) (S5 (.str (if p then Zeg else Zax))) (S5 (.str w)) v10 N0) (Zr (i:=7) rfl) (Zv (Zr (i:=2) rfl) (Zr (i:=5) rfl) hr) (Zw8 S.kept x)
  cases p with
  | true=>
   obtain e:wll T1 x q.t = !decide (x∈q.t.tl):=rfl
   rw[e]
   cases hm:decide (x∈q.t.tl) with
   | true=>rw[hm] at m2;exact Za (Z7 (Xm m1 m2) rfl) (Za (Zn (Qo (m3 Zdv)) Zi) rfl)
   | false=>rw[hm] at m2;exact Za (Zn (Xm m1 m2) Zi) (Za (Zn (Qo (m3 Zdb)) Zi) rfl)
  | false=>
   obtain e:wll F0 x q.t=decide (x∈q.t.tl):=rfl
   rw[e]
   cases hm:decide (x∈q.t.tl) with
   | true=>rw[hm] at m4;exact Za (Zn (Qo m1) Zi) (Za (Zn (Xm (m3 Zdb) (m4 Zdb)) Zi) rfl)
   | false=>rw[hm] at m4;exact Za (Zn (Qo m1) Zi) (Za (Z7 (Xm (m3 Zdb) (m4 Zdb)) rfl) rfl)
 refine Zes (λs1 t' d1 d2 d3 d4 d5 d6=>?_) (Ztk e p x ho S g hd (Bv hz (by decide)))
 obtain k1:=d3 _ _ (Jn S.kept S.wd.1 nofun) S.kept
 have b1:=d3 _ _ (Jn W.hb S.wd.1 nofun) W.hb
 refine Ug (λr' τ e1 e2=>?_) (Zw0 (e+5) (d:=⟨p,x,wll p x q.t⟩) g.srt k1 (by rw[Tr.sz_tl];exact Bc (C1 hz) (by decide)))
 rw[d6] at e2
 obtain hr1:Yh s1 (.obj b) (.int (i:Nat))=S5 (.obj q.r):=by
  refine byC λXX=>?_;obtain ⟨h1,h2⟩:=Ba.mp h;apply XX;clear XX
  rw[Yx b1 (k:=i) (by rw[Bg];exact h1),Cv,h2]
 obtain hw1:=W.getw h
 obtain b2:=Zm (t:=τ) b1
 obtain hil:i<(l.map λq=>V.obj q.r).length:=by rw[Bg];exact (Ba.mp h).1
 obtain st:Zhl (s1++τ) (.obj b) (.int (i:Nat)) (.obj r')=S5 (Yk (s1++τ) b (.list ((l.map λq=>V.obj q.r).set i (.obj r')))):=by
  show (Yj (s1++τ) (.obj b)).bind _=_
  rw[Zam b2]
  exact gp ⟨Ds i,Ki.mpr hil⟩
 obtain rb:r'≠b:=Jn e2 b2 (Zbh h _)
 obtain hk:∀(k:Nat) o,k≠q.n->k≠b->U[k]?=S5 o->(Yk (s1++τ) b (.list ((l.map λq=>V.obj q.r).set i (.obj r'))))[k]?=S5 o:=λk o h1 h2 h3=>Zeo (Zm (d3 k o h1 h3)) h2
 obtain nb:=λ{n:Nat}{o:O} (hn:n≠b) (h:s1[n]?=S5 o)=>Zeo (o':=.list ((l.map λq=>V.obj q.r).set i (.obj r'))) (Zm (t:=τ) h) hn
 refine ⟨S5 (.str (if p then Zeg else Zax)),S5 (.str (Zbg p (wll p x q.t))),_,r',t',?_,W.upd h hk (Zlm b2) ⟨⟨nb (Jn d2.1 b1 nofun) d2.1,nb (Jn d2.2 b1 nofun) d2.2⟩,Zeo e2 rb⟩ d4,d5,hk⟩
 refine Za x1 (Za rfl ((x34 _).trans ?_))
 exact Za (Zn (Zk (Zl (Zb (Zv rfl rfl hw1) rfl) d1) rfl (Ztp p _ s1)) Zi) (Zq (Zxa (X6 (Zl (Zb (Zv rfl rfl hr1) rfl) e1)) rfl rfl st))
end
structure DI (scr:List Int)(a b k i:Nat)(v4 v6 v10:Option V)(m:Nat)(Ls:List T3)(n T:Nat)(r:List T3)(Z:L)(τ:H):Prop where
 ex:∃v7 v8 v9,Z=lcL scr a b (S5 (.int (k:Nat))) v4 (S5 (.int (i:Nat))) v6 v7 v8 v9 v10 N0
 ws:∃l M,Ws τ a b l/\l.length=n/\Bd l M/\M+r.length=T
 src:τ[m]?=S5 (.list (Ls.map T3.v))
 ok:∀x∈r,okT x
set_option tactic.hygienic true in
theorem Zlz (e:Nat){scr:List Int}{a b k i:Nat}{c:Int}(hc:∀U:H,Yh U (.frz scr) (.int (k:Nat))=S5 (.int c)){v4 v6 v10:Option V}{m:Nat}{Ls:List T3}{n T:Nat}(hi:i<n)(hT:T<=e)(hT9:T<900)(h:DI scr a b k i v4 v6 v10 m Ls n T Ls Z U) :
  ∃Z' U',Qw (execs (Cd (e+6)) Zwb) (.one 7) (λτ=>τ[m]?=S5 (.list (Ls.map T3.v))) (Ls.map T3.v) Z U=S5 (.next,Z',U')/\DI scr a b k i v4 v6 v10 m Ls n T [] Z' U':=by
 refine Zan T3.v (DI scr a b k i v4 v6 v10 m Ls n T) _ (λu_ v_ h=>h) (λx r Z τ h=>?_) Ls Z U h
 refine Zd7 (λv7 v8 v9 hZ=>?_) h.ex
 rw[hZ]
 refine ⟨show 7<20 by decide,.inl ?_⟩
 refine U9 (λl M W hn hB hM=>?_) h.ws
 have hil:i<l.length:=hn▸hi
 obtain hq:l[i]?=S5 l[i]:=Bl hil
 obtain hz:=hB i _ hq
 have hM':M+(r.length+1)=T:=hM
 refine Zbi (λv8' v9' U' r' t' x1 W' ht hk=>?_) (Zoh e hc W hq (h.ok x Bf) (Ni 0x160162185342603c11101 Tt hT hM hz) (Nd 0x1703843e713843e85231602c11101 Tt hT9 hM hz) v4 v6 v8 v9 v10)
 refine ⟨_,U',x1,?_,⟨_,_,_,rfl⟩,⟨_,M+1,W',by rw[M5];exact hn,λj p hp=>?_,by exact Nc 0x18550a1285051a2cba101a11 Tt hM'⟩,?_,λy hy=>h.ok y (Bb _ hy)⟩
 .exact hk _ _ (Jn h.src (W.sw i _ hq).wd.1 nofun) (Jn h.src W.hb (Zbh hq _)) h.src
 .rw[Lm] at hp
  split at hp
  .rw[← B0.inj hp];exact Bc ht (Df hz)
  .exact Cy (hB j p hp)
 .exact hk _ _ (Jn h.src (W.sw i _ hq).wd.1 nofun) (Jn h.src W.hb (Zbh hq _)) h.src
structure LI (scr:List Int)(a b:Nat)(k:Nat)(Z:L)(U:H):Prop where
 ex:∃v3 v4 v5 v6 v7 v8 v9 v10,Z=lcL scr a b v3 v4 v5 v6 v7 v8 v9 v10 N0
 ws:∃l,Ws U a b l/\0<l.length/\l.length<=k+1/\Bd l (8*k)
set_option tactic.hygienic true in
theorem Z0u (e:Nat)(he:200<=e){scr:List Int}(hb:∀x∈scr,x.natAbs<2^(2^20)){a b k:Nat}(hk:k<scr.length)(hk24:k<24)(h:LI scr a b k Z U):∃Z' U',execs (Cd (e+6)) Zwc (Z.set 3 (S5 (.int (k:Nat)))) U=S5 (.next,Z',U')/\LI scr a b (k+1) Z' U':=by
 refine Wf (λv3 v4 v5 v6 v7 v8 v9 v10 hZ=>?_) h.ex
 refine Zas (λl W hl0 hl hB=>?_) h.ws
 rw[hZ]
 obtain hc:∀U:H,Yh U (.frz scr) (.int (k:Nat))=S5 (.int (scr.getD k 0)):=λU=>Ztn hk U rfl
 obtain hbig:=Zw9 hb k (31*k) (by exact ln1 [(.lt .v0 (.k 24))] (.lt (.m 31 .v0) (.k 65536)) (.l [1,31]) rfl hk24)
 rw[show ((31*k:Nat):Int)=31*(k:Int) by push_cast;rfl] at hbig
 generalize scr.getD k 0=c at hc hbig
 obtain x1:=Zz (i:=4) (Zh (C:=Cd (e+6)) (Z:=lcL scr a b (S5 (.int (k:Nat))) v4 v5 v6 v7 v8 v9 v10 N0) (Zh (Zv (Zr (i:=0) rfl) (Zr (i:=3) rfl) (hc U)) Zd (Jy (y:=48271) (ml (by decide)) U)) (Zh Zd (Zr (i:=3) rfl) (Jy (x:=31) (Zoa (by decide) (by decide)) U)) (Yg _ _ _)) rfl
 generalize c*48271+31*(k:Int)=s at x1 hbig
 refine rEA (λi hi ei=>?_) (Zrf (s.fdiv 7) hl0)
 obtain x2:=Zz (i:=5) (Zh (C:=Cd (e+6)) (Z:=lcL scr a b (S5 (.int (k:Nat))) (S5 (.int s)) v5 v6 v7 v8 v9 v10 N0) (Zh (Zr (i:=4) rfl) Zd (Zt (y:=7) (fd 7) U)) (Z9 (Zb (Zr (i:=1) rfl) Zj) (Zin W.ha)) (Zs (by exact ln1 [(.lt .k0 .v0)] (.no (.zeq (.n .v0) .k0)) (.d 1101) rfl hl0) U)) rfl
 rw[ei] at x2
 obtain hq:l[i]?=S5 l[i]:=Bl hi
 have hz:=hB i _ hq
 refine Yn (λs1 l1 x3 W1 o1=>?_) (Ztq e hc W hq (Nb 0x160642e71182e6051ac111 Tt hk24 hl) (Nb 0x1703843e71182e6088d1c181 Tt hk24 hz) (S5 (.int s)) v6 v7 v8 v9 v10)
 obtain o2:l1[i]?=S5 l[i]/\l1.length<=k+2/\Bd l1 (8*k):=by
  rcases o1 with e | ⟨q',e,et⟩
  .rw[e];exact ⟨hq,Cy hl,hB⟩
  .rw[e]
   refine ⟨by rw[Br hi];exact hq,by rw[Bq];exact Df hl,λj p hp=>?_⟩
   rcases Dc j l.length with h1 | h1
   .rw[Br h1] at hp;exact hB j p hp
   .rw[Bh h1] at hp
    obtain hp:=Bw hp
    rw[Bo.mp hp,et];exact hz
 refine rAA (λhq1 hl1 hB1=>?_) o2
 refine U9 (λlo hi' a1 a2 a3 a4=>?_) (Zih (e+5) s (U:=s1++[.list (([]:List T3).map T3.v)]) (gl s1 _))
 obtain A:Ask lo hi':=⟨a2,a3,a4⟩
 obtain x4:=Zz (i:=6) (Zl (C:=Cd (e+6)) (Z:=lcL scr a b (S5 (.int (k:Nat))) (S5 (.int s)) (S5 (.int (i:Nat))) v6 v7 v8 v9 v10 N0) (Zb (Zr (i:=4) rfl) (Zb (Uk Zj rfl) Zj)) a1) rfl
 have W2:=W1.kp ((Kp.rfl s1).app (t:=[.list (([]:List T3).map T3.v)]))
 generalize s1++[.list (([]:List T3).map T3.v)]=s2 at x4 W2
 obtain x5:=Zip e (Z:=lcL scr a b (S5 (.int (k:Nat))) (S5 (.int s)) (S5 (.int (i:Nat))) (S5 (Zeh lo hi')) v7 v8 v9 v10 N0) (j:=5) W2 hq1 A rfl rfl rfl (Zr (i:=6) rfl) (Nc 0x16016c82e172182e6088d2c1181 Tt he hk24 hz) (Nb 0x1703843e71182e6088d1c181 Tt hk24 hz)
 obtain S2:=W2.sw i _ hq1
 refine Ud (λLp hL hO p1=>?_) (Zod (e+4) c s hbig S2.kept (by rw[Tr.sz_tl];exact Nb 0x1607d03e71182e6088d1c181 Tt hk24 hz) (W2.gt i _ hq1).ok)
 obtain y1:=Zl (C:=Cd (e+6)) (Z:=lcL scr a b (S5 (.int (k:Nat))) (S5 (.int s)) (S5 (.int (i:Nat))) (S5 (Zeh lo hi')) v7 v8 v9 v10 N0) (Zb (Zv (Zr (i:=0) rfl) (Zr (i:=3) rfl) (hc s2)) (Zb (Zr (i:=4) rfl) (Zb (Zv (Zr (i:=2) rfl) (Zr (i:=5) rfl) (W2.getr hq1)) Zj))) p1
 obtain g3:=gl s2 (O.list (Lp.map T3.v))
 obtain W3:=W2.kp ((Kp.rfl s2).app (t:=[O.list (Lp.map T3.v)]))
 generalize s2++[O.list (Lp.map T3.v)]=s3 at y1 g3 W3
 obtain sl:Qm s3 (.obj s2.length) .none (.int 8) .none=S5 (.obj s3.length,s3++[.list ((Lp.take 8).map T3.v)]):=by
  show (Yj s3 (.obj s2.length)).bind _=_
  rw[Zam g3]
  show (Jb s3 (((Lp.map T3.v).take (Yt 8 (Lp.map T3.v).length)).drop 0))=_
  obtain this:(Lp.map T3.v).take (Yt 8 (Lp.map T3.v).length)=(Lp.take 8).map T3.v:=by
   show (Lp.map T3.v).take (min 8 (Lp.map T3.v).length)=_
   rw[List.take_eq_take_iff.mpr (by exact Nc 0x1801ad012ad181e2cbbba1001a1001ba100111a100101bba101a101ba111a111 Tt (Ys _ _) (Ys _ _):min (min 8 (Lp.map T3.v).length) (Lp.map T3.v).length=min 8 (Lp.map T3.v).length),Mk]
  rw[Iq,this]
  exact Wl (by rw[Bg,Dp];exact Bc (D1 _ _) (by decide)) _
 obtain it:=Ux (Zm6 (lo:=.no) (hi:=.yes (.lit (.int 8))) (st:=.no) y1 rfl rfl rfl sl) (gl s3 _)
 obtain W4:=W3.kp ((Kp.rfl s3).app (t:=[O.list ((Lp.take 8).map T3.v)]))
 obtain g4:=gl s3 (O.list ((Lp.take 8).map T3.v))
 generalize s3++[O.list ((Lp.take 8).map T3.v)]=s4 at it W4 g4
 have hL8:(Lp.take 8).length<=8:=by rw[Dp];exact D1 _ _
 refine Ug (λZ5 s5 f5 D=>?_) (Zlz e hc (v4:=S5 (.int s)) (v6:=S5 (Zeh lo hi')) (v10:=v10) (T:=8*k+8) (n:=l1.length) (Ba.mp hq1).1 (by exact Nb 0x16588d081e16c82e170182ec118 Tt he hk24) (by exact Na 0x17588d081e3843e70182ec18 Tt hk24) ⟨⟨v7,v8,v9,rfl⟩,⟨l1,8*k+8-(Lp.take 8).length,W4,rfl,λj p hp=>Bc (hB1 j p hp) (by exact Nc 0x1688d016281ec1588d081e2cba11001a11101 Tt hL8 (Zc _ _)),by exact Nc 0x18501588d281e6181ec0588d281e1cbba10001a10101ba1001a1101 Tt hL8 (Zc _ _)⟩,g4,λx hx=>hO x (L4 hx)⟩)
 refine Zd7 (λv7' v8' v9' hZ5=>?_) D.ex
 refine U9 (λl5 M W5 hn5 hB5 hM=>?_) D.ws
 obtain hM:M=8*k+8:=hM
 rw[hZ5] at f5
 have hl5:0<l5.length:=by rw[hn5];exact Bx (C9 _) (Ba.mp hq1).1
 obtain hi5:i<l5.length:=by rw[hn5];exact (Ba.mp hq1).1
 refine rEA (λj hj ej=>?_) (Zrf (s.fdiv 35) hl5)
 obtain x7:=Zz (i:=10) (Zh (C:=Cd (e+6)) (Z:=lcL scr a b (S5 (.int (k:Nat))) (S5 (.int s)) (S5 (.int (i:Nat))) (S5 (Zeh lo hi')) v7' v8' v9' v10 N0) (Zh (Zr (i:=4) rfl) Zd (Zt (y:=35) (fd 35) s5)) (Z9 (Zb (Zr (i:=1) rfl) Zj) (Zin W5.ha)) (Zs (by exact ln1 [(.lt .k0 .v0)] (.no (.zeq (.n .v0) .k0)) (.d 1101) rfl hl5) s5)) rfl
 rw[ej] at x7
 obtain q1:l5[i]?=S5 l5[i]:=Bl hi5
 obtain q2:l5[j]?=S5 l5[j]:=Bl hj
 obtain z1:=hB5 i _ q1
 obtain z2:=hB5 j _ q2
 obtain o1:=Zip e (Z:=lcL scr a b (S5 (.int (k:Nat))) (S5 (.int s)) (S5 (.int (i:Nat))) (S5 (Zeh lo hi')) v7' v8' v9' (S5 (.int (j:Nat))) N0) (j:=5) W5 q1 A rfl rfl rfl (Zr (i:=6) rfl) (Nd 0x16016c82e172182e83588d281e603c118101 Tt he hk24 hM z1) (Nc 0x1703843e71182e82588d181e602c18101 Tt hk24 hM z1)
 obtain o2:=Zip e (Z:=lcL scr a b (S5 (.int (k:Nat))) (S5 (.int s)) (S5 (.int (i:Nat))) (S5 (Zeh lo hi')) v7' v8' v9' (S5 (.int (j:Nat))) N0) (j:=10) W5 q2 A rfl rfl rfl (Zr (i:=6) rfl) (Nd 0x16016c82e172182e83588d281e603c118101 Tt he hk24 hM z2) (Nc 0x1703843e71182e82588d181e602c18101 Tt hk24 hM z2)
 refine ⟨_,s5,Za x1 (Za x2 ((x3 _).symm.trans (Za x4 (Za (Zn (Qp x5) Zi) (Za ((W6 it).trans f5) (Za x7 (Zq (Zn (Xh (Qp o1) (Qp o2)) Zi)))))))),⟨_,_,_,_,_,_,_,_,rfl⟩,l5,W5,hl5,by rw[hn5];exact hl1,λj p hp=>Bc (hB5 j p hp) (by exact Nb 0x16088d51a80588d181ec11 Tt hM)⟩
set_option tactic.hygienic true in
theorem Zy1 (e:Nat)(he:200<=e){scr:List Int}{a b m:Nat}{l:List Wn}(W:Ws U a b l)(hB:Bd l 192){Ev:List T3}(hm:U[m]?=S5 (.list (Ev.map T3.v)))(ho:∀x∈Ev,okT x){k:Nat}(hk:k<l.length)(v3 v4 v5 v6 v7 v8 v9 v10:Option V) :
  ∃v7',execs (Cd (e+6)) Zwd ((lcL scr a b v3 v4 v5 v6 v7 v8 v9 v10 (S5 (.obj m))).set 3 (S5 (.int (k:Nat)))) U=S5 (.next,lcL scr a b (S5 (.int (k:Nat))) v4 v5 v6 v7' v8 v9 v10 (S5 (.obj m)),U):=by
 obtain hq:l[k]?=S5 l[k]:=Bl hk
 generalize l[k]=q at hq
 obtain S:=W.sw k q hq
 obtain g:=W.gt k q hq
 obtain hz:=hB k q hq
 refine Ug (λZ' U' f Jq => ?_) (Zij (body := execs (Cd (e + 6)) Zyf) (t := .one 7) (keep := λτ => τ[m]? = S5 (.list (Ev.map T3.v))) T3.v (λZ τ => τ = U /\ ∃ v7, Z = lcL scr a b (S5 (.int (k : Nat))) v4 v5 v6 v7 v8 v9 v10 (S5 (.obj m))) Ev (λx hx Z τ h => by
   refine rAE (λe1 v7 e2=>?_) h
   rw[e1,e2]
   obtain kp:=Zqw (e+2) S.wd x (ho x hx) (by lia)
   rw[Tr.has_mem x q.t g.srt] at kp
   obtain c:=Zk (C:=Cd (e+6)) (Z:=lcL scr a b (S5 (.int (k:Nat))) v4 v5 v6 (S5 x.v) v8 v9 v10 (S5 (.obj m))) (op:=.ne) (Y2 (Zv (Zr (i:=1) rfl) (Zr (i:=3) rfl) (W.getw hq)) ((S.wd.mt 3).trans mt3) (Zb (Jx (i:=7) (k:=.int 0) rfl rfl) (Zb (Jx (i:=7) (k:=.int 1) rfl rfl) (Zb (Jx (i:=7) (k:=.int 2) rfl rfl) Zj))) kp) (Zk (op:=.mem) (Zr (i:=7) rfl) (Zv (Zr (i:=2) rfl) (Zr (i:=3) rfl) (W.getr hq)) (Zre S.kept x)) (Zs5 _ _ U)
   rw[beq_self_eq_true] at c
   exact ⟨_,_,U,rfl,Zq (Zn c Zi),hm,rfl,_,rfl⟩) (lcL scr a b (S5 (.int (k:Nat))) v4 v5 v6 v7 v8 v9 v10 (S5 (.obj m))) U ⟨rfl,v7,rfl⟩)
 refine rAE (λe1 v7' e2=>?_) Jq
 rw[e1,e2] at f
 refine U9 (λlo hi a1 a2 a3 a4=>?_) (Zih (e+5) ((k:Int)*2917+40) S.kept)
 obtain o:=Zip e (Z:=lcL scr a b (S5 (.int (k:Nat))) v4 v5 v6 v7' v8 v9 v10 (S5 (.obj m))) (j:=3) W hq ⟨a2,a3,a4⟩ rfl rfl rfl (Zl (Zb (Zh (Zh (Zr (i:=3) rfl) Zd (Jy (y:=2917) (ml (by decide)) U)) Zd (Yg _ 40 U)) (Zb (Zv (Zr (i:=2) rfl) (Zr (i:=3) rfl) (W.getr hq)) Zj)) a1) (Nb 0x16016c82e160c02ec111 Tt he hz) (Na 0x1703843e60c02ec11 Tt hz)
 exact ⟨v7',Za ((W6 (Ux rfl hm)).trans f) (Zq (Zn (Xh (Qp o) (Qp (Zl (Zb (Zv rfl rfl (W.getw hq)) (Zb (Zv rfl rfl (W.getr hq)) Zj)) (Zks S g (Nb 0x16016c82e160c02ec111 Tt he hz) (Na 0x1703843e60c02ec11 Tt hz))))) Zi))⟩
theorem Zy2 (e:Nat)(he:200<=e)(scr:List Int)(hb:∀x∈scr,x.natAbs<2^(2^20))(hsl:scr.length<=63):cf (e+7) 60 [.frz scr] []=S5 (.ok (.bool T1),[]):=by
 obtain n1:=Zrg (e+5) (S5 (.frz scr)::o19) []
 obtain W:Ws [.ns [(0,.none),(1,.int 0)],.inst 0 0,.list [.obj 1],.list [],.list [.obj 3]] 2 4 [⟨1,0,3,.nil⟩]:=by
  obtain at_:∀(i:Nat) (q:Wn),[(⟨1,0,3,.nil⟩ : Wn)][i]?=S5 q->i=0/\q=⟨1,0,3,.nil⟩:=λi q h=>by
   cases i with
   | zero=>exact ⟨rfl,(B0.inj h).symm⟩
   | succ i=>exact nn h
  refine ⟨rfl,rfl,λi q h=>?_,λi q h=>?_,λi j p q h h' u_=>(at_ i p h).1.trans (at_ j q h').1.symm⟩
  .rw[(at_ i q h).2];exact ⟨⟨rfl,rfl⟩,rfl⟩
  .rw[(at_ i q h).2];exact ⟨Gn.nil,trivial,nofun⟩
 obtain hN:∃N:Nat,N<=24/\N<=scr.length/\∀U,Uh .min [.int scr.length,.int 24] U=S5 (.int (N:Nat),U):=by
  by_cases h:(24:Int)<scr.length
  .exact ⟨24,Bp _,by exact ln1 [(.zlt (.k 24) (.n .v0))] (.le (.k 24) .v0) (.d 111) rfl h,λU=>by show S5 (V.int (if (24:Int)<scr.length then 24 else scr.length),U)=_;rw[gp h];rfl⟩
  .exact ⟨scr.length,by exact ln1 [(.no (.zlt (.k 24) (.n .v0)))] (.le .v0 (.k 24)) (.d 111) rfl h,Bp _,λU=>by show S5 (V.int (if (24:Int)<scr.length then 24 else scr.length),U)=_;rw[gq h]⟩
 refine Ud (λN hN1 hN2 hN3=>?_) hN
 obtain hlen:∀U,Uh .len [.frz scr] U=S5 (.int scr.length,U):=λU=>by
  show ((items U (.frz scr)).map λl=>(V.int l.length,U))=_
  rw[Zn0,Dx,Bg]
 rcases Zbq (body := execs (Cd (e + 6)) Zwc) (t := 3) (keep := λu_ => True) (λk => V.int (k : Nat)) N (LI scr 2 4) (λu_ v_ w_ => False) (λk Z U hk h => by
   refine ⟨?_,.inl (Ug (λZ' U' x1 x2=>⟨Z',U',x1,trivial,x2⟩) (Z0u e he hb (C2 hk hN2) (C2 hk hN1) h))⟩
   refine Wf (λv3 v4 v5 v6 v7 v8 v9 v10 hZ=>?_) h.ex
   rw[hZ];show 3<20;decide) (lcL scr 2 4 N0 N0 N0 N0 N0 N0 N0 N0 N0) _ ⟨⟨_,_,_,_,_,_,_,_,rfl⟩,_,W,Mn _,Bp _,λi q h=>by
    cases i with
    | zero=>rw[← B0.inj h];exact C9 _
    | succ i=>exact nn h⟩ with ⟨Z1,s1,f1,h⟩ | ⟨_,_,_,_,f⟩
 rotate_left
 .exact f.elim
 refine Wf (λv3 v4 v5 v6 v7 v8 v9 v10 hZ=>?_) h.ex
 rw[hZ] at f1
 refine Zas (λl W1 hl0 hl hB=>?_) h.ws
 have hB:Bd l 192:=λi q h=>Bc (hB i q h) (Na 0x1688d0c02e60182ec18 Tt hN1)
 obtain q0:l[0]?=S5 l[0]:=Bl hl0
 obtain ⟨l',q',hl'⟩ : ∃l' q',l=l'++[q']:=⟨l.dropLast,l.getLast (Iw hl0),(List.dropLast_concat_getLast _).symm⟩
 have q1:l[l'.length]?=S5 q':=by rw[hl',Bh (Bp _),Kl];rfl
 obtain S0:=W1.sw 0 _ q0
 obtain S1:=W1.sw _ _ q1
 obtain z0:=hB 0 _ q0
 obtain z1:=hB _ _ q1
 obtain hlast:Yh s1 (.obj 4) (.int (-1))=S5 (.obj q'.r):=Zbe (l:=l'.map λq=>V.obj q.r) (by rw[W1.hb,hl',Cs];rfl)
 obtain cc:=Zii S0.kept S1.kept (by rw[Bq,Bg,Bg,Tr.sz_tl,Tr.sz_tl];exact Bc (Nat.add_le_add z0 z1) (by decide))
 rw[← Cs] at cc
 obtain x3:=Zz (i:=11) (Zh (C:=Cd (e+6)) (Z:=lcL scr 2 4 v3 v4 v5 v6 v7 v8 v9 v10 N0) (Zv (Zr (i:=2) rfl) (Zd (v:=.int 0)) (W1.getr q0)) (Zv (Zr (i:=2) rfl) (Zp9 (Zd (v:=.int 1))) hlast) cc) rfl
 obtain g2:=gl s1 (O.list ((l[0].t.tl++q'.t.tl).map T3.v))
 obtain W2:=W1.kp ((Kp.rfl s1).app (t:=[O.list ((l[0].t.tl++q'.t.tl).map T3.v)]))
 generalize s1++[O.list ((l[0].t.tl++q'.t.tl).map T3.v)]=s2 at x3 g2 W2
 obtain ho:∀x∈l[0].t.tl++q'.t.tl,okT x:=λx hx=>(Bm.mp hx).elim ((W1.gt 0 _ q0).ok x) ((W1.gt _ _ q1).ok x)
 rcases Zbq (body := execs (Cd (e + 6)) Zwd) (t := 3) (keep := λu_ => True) (λk => V.int (k : Nat)) l.length (λu_ Z τ => τ = s2 /\ ∃ v3 v7, Z = lcL scr 2 4 v3 v4 v5 v6 v7 v8 v9 v10 (S5 (.obj s1.length))) (λu_ v_ w_ => False) (λk Z U hk h => by
   refine rAE (λe1 v3 h=>rE (λv7 e2=>?_) h) h
   rw[e1,e2]
   refine ⟨show 3<20 by decide,.inl ?_⟩
   exact rE (λv7' x=>⟨_,_,x,trivial,rfl,_,v7',rfl⟩) (Zy1 e he (scr:=scr) W2 hB g2 ho hk v3 v4 v5 v6 v7 v8 v9 v10)) (lcL scr 2 4 v3 v4 v5 v6 v7 v8 v9 v10 (S5 (.obj s1.length))) s2 ⟨rfl,v3,v7,rfl⟩ with ⟨Z3,s3,f3,_⟩ | ⟨_,_,_,_,f⟩
 rotate_left
 .exact f.elim
 refine Zwn Zz5 rfl (Z':=Z3) (t:=s3) ?_ rfl
 refine Za (Zz (Uk (Zb n1 Zj) rfl) rfl) (Za (Zz (Uk (Zb (Uk Zj rfl) Zj) rfl) rfl) ?_)
 exact Za ((W6 (Zcb (Z9 (Zb (Z9 rfl (hlen _)) rfl) (hN3 _)) (Bc hN1 (by decide)))).trans f1) (Za x3 (Za ((W6 (Zcb (Z9 rfl (Zin W2.ha)) (Bc (Bc hl (Df hN1)) (by decide)))).trans f3) rfl))
end Mini.Internal
open PySem PySem.W PyProof.Rows
set_option Elab.async false
namespace Mini.Internal
theorem law11R (scr:List Int)(hb:∀x∈scr,x.natAbs<2^(2^20))(hsl:scr.length<=63):Zdx pgR 340 60 [.frz scr] []=S5 (.ok (.bool T1),[]):=Zms▸Zy2 333 (by decide) scr hb hsl
end Mini.Internal
set_option tactic.hygienic true in
set_option maxRecDepth 100000 in
set_option maxHeartbeats 8000000 in
theorem PySem.Challenge.cw_uf060001_11_holds : PySem.Challenge.rw_uf060001_11.Holds := by
 w_on
 refine holds_law (by decide +kernel) λsaid=>?_
 refine holds_open (q:=Mini.Internal.vw) (loose:=[]) (Xt:=Mini.Internal.Xt11) (XP:=Mini.Internal.XP11) (Yf:=da.obs da.none) (Ya:=da.val da.none) (YP:=da.says da.none) (N:=4000) Mini.Internal.left_ok (da.of da.none) (da.keeps da.none) (λs e=>⟨xl_of s (Cg.mp (Cg.mp e).1).1,Mini.Internal.sub_of (Cg.mp e).2⟩) (λmg h h' x k=>⟨XL.keeps mg h h' x.1 k,x.2.keeps k⟩) (by rfl) (by rfl) (by rfl) (λs e=>recFacts_of (Cg.mp (Cg.mp e).1).2) (by rfl) said (by decide +kernel) ⟨rfl,rfl,rfl,rfl,rfl,by decide +kernel⟩ ?hw ?hc
 case hw=>w_witness2
 intro w s₀ s₁ mg mb G Y fa o pm cd doc dV kV ho hd hcd hD hmg hg args vals as hpre hlay hrd hwl hlo
 have hsub:=G.X.2
 refine Ground.open G ?_
 intro T B D TE TW
 wrow_args hpre hlay hrd hwl hlo
 rename_i scr hs hlay0 hLay hr1 hl2 wa4 wa3 ax vs wa0 hL ra w1 r0 hI hr hc1 hc0
 clear hd hcd hD ho Y
 obtain ⟨C,N,mN,hC,PA⟩:=TE Mini.Internal.wood (List.head_mem _)
 rw[Mini.Internal.wood_name] at hC
 obtain ⟨vs',hx,hv⟩:=Mini.Internal.well_ints (h':=s₁.heap) w1
 have hlen:scr.length<=63:=by omega
 refine Mini.Internal.law_end (U':=[]) (bl:=Mini.Internal.bltNames) (md:=Mini.Internal.md11) (d:=340) (n:=60) (x:=j4 "law") (λu_ v_ h=>h) T PA hC hsub _ w ?q1 ?q2 ?q6 ?q7 ?q8 Mini.Internal.rm_caller rfl (λu_ v_ w_=>Mini.Internal.sort_ok) rfl hx hv ?q3 (by decide) rfl hmg ?q4 ?q5
 case q1=>decide +kernel
 case q2=>decide +kernel
 case q6=>decide +kernel
 case q7=>decide +kernel
 case q8=>decide +kernel
 case q3=>exact Bc hlen (by decide)
 case q4=>exact Mini.Internal.law11R scr (Mini.Internal.script_small hLay) hlen
 case q5=>
  intro s' k1 k2 k3
  exact GoodW.toG ⟨.inl ⟨_,.bool T1,[],rfl,λu_=>rfl,.bool _,by wrow_post,λu_=>⟨Me,nofun⟩⟩,k1,k2,k3.trans hg⟩
