/- The house alive: headendtop.alive. -/
import Derived.Test.YtpecmhdepggnoaaKTick
namespace Go.Proofs.Ytpecmhdepggnoaa
open Go.RowKit
open Go.Proofs.Ytpecmhdepggnoaa.AV.tup renaming injEq → Z0
open Go.Proofs.Ytpecmhdepggnoaa.AV.agg renaming injEq → Z1
open Go.Proofs.Ytpecmhdepggnoaa.AV.ro renaming injEq → Z2
open _root_.Int renaming toNat_natCast → Z3, reduceToNat → Z4, toNat_zero → Z5, toNat_one → Z6, reduceLE → Z7, reduceLT → Z8, reduceBEq → Z9, reduceBNe → Za, reduceNeg → Zb
open _root_.List renaming length_map → Zc, map_cons → Zi, map_nil → Zj, forall_mem_cons → Zk, not_mem_nil → Zl, length_cons → Zm, length_nil → Zn, getD_cons_zero → Zo, getD_cons_succ → Zp, getD_nil → Zq, drop_succ_cons → Zr, drop_zero → Zs, take_succ_cons → Zt, take_zero → Zu, set_cons_zero → Zv, set_cons_succ → Zw, all_cons → Zx, all_nil → Zy
open Go.Proofs.Ytpecmhdepggnoaa.ASt renaming hold → Zd, free → Ze
open Go.Proofs.Ytpecmhdepggnoaa.AV renaming isHome → Zf, noLoan → Zg, cellOK → Zh
open _root_.Bool renaming and_true → Zz, true_and → Y0, not_true → Y1, not_false → Y2, false_eq_true → Y3
open _root_.Nat renaming reduceEqDiff → Y4, reduceBNe → Y5, reduceAdd → Y6, reduceSub → Y7, reduceMul → Y8, reduceLeDiff → Y9, reduceLT → Ya, one_ne_zero → Yb, zero_ne_one → Yc
set_option linter.unusedSimpArgs false
--@short

/-! headend/headendtop.alive -/
def r12_0 : List POp := [⟨0, .asg (.c (.bool false)), none⟩]
def r12_1 : List POp := [⟨4, .call 36 [.c (.int .i64 1), .c (.int .i64 3), .c (.int .i64 2), .c (.int .i64 3)], none⟩,
  ⟨3, .mv (.t 4), none⟩,
  ⟨5, .ext 0 (.t 3), none⟩,
  ⟨6, .ext 1 (.t 3), none⟩,
  ⟨1, .mv (.t 5), none⟩,
  ⟨2, .mv (.t 6), none⟩]
def r12_2 : List POp := [⟨7, .mv (.t 2), none⟩,
  ⟨8, .bin .eql (.t 7) (.c (.int .i64 0)), none⟩,
  ⟨9, .mv (.t 8), none⟩,
  ⟨10, .mv (.t 1), some (9, true)⟩,
  ⟨11, .bin .eql (.t 10) (.c (.int .i64 1)), some (9, true)⟩,
  ⟨12, .pick (.t 9) (.t 11) (.c (.bool false)), none⟩,
  ⟨0, .asg (.t 12), none⟩]
def p12 : PCode := .seq (.ops r12_0) (.seq (.ops r12_1) (.seq (.ops r12_2) (.ret)))
theorem ok12 : okFunc Try.prog 12 [.t 0] 0 p12 = true := by kernel_rfl
theorem alive_c : CallOK Try.prog 12 [] (.val (.bool true)) := by
  refine call_of mixed ok12 rfl ?_
  have hc := convert_c 1 3 2 3
  have hcv : cvt 1 3 2 3 = (1, 0) := by decide
  rw [hcv] at hc
  simp only at hc
  simp only [done_eq,done_eq',donet_eq,donet_eq',fin_val,fin_tup,fin_agg,fin_ro,res_one,res_more,rv_t,rv_c,rv_l,Z0,Z1,Z2,List.cons.injEq,int_eq,bool_eq,Z3,Z4,Z5,Z6,Z7,Z8,Z9,Za,beq_self_eq_true,bne_self_eq_false,decide_true,decide_false,Zb,toNat_pred,toNat_succ,Zc,cnd_t,cnd_f,grd_tt,grd_u,grd_tf,grd_ft,grd_ff,g_skip,g_ops,g_seq,g_block,g_exit,g_ret,x_c,x_o,x_l,x_b,g_b,g_nil,r_all,o_nil,g_cond,o_guard,o_call,o_callm,o_callt,o_callx,o_callv,o_callc,o_callh,o_apph,noav_alias,noav_nil,lk,ef,o_mv,o_pick,o_bin,o_never,o_eqs,o_eqb,o_un,o_conv,o_load,o_loadr,o_idxr,o_loads,o_loadsr,o_fld,o_idx,o_idxs,o_len,o_lens,o_ext,o_nilck,o_slc,o_slcs,o_build,o_minmax,o_mkfn,o_mkfnr,o_alloc,o_box,o_boxs,o_row,o_rowr,o_mk,o_asg,o_app,o_appa,o_store,o_stores,o_eqnil,hv,eqAV,ev,view_t,view_c,view_nil,view_fn,look_own,look_box,look_junk,look_val,look_nilsl,look_ro,look_roAt,look_agg,look_tup,look_clo,look_alias,look_ref,look_into,look_fnv,look_held,rowOf,cellsOf,argv,vbin,vun,bnd,elemOf,putParts,setAt,zav,ASt.rid,Zd,Ze,AV.kill,Zf,Zg,Zh,Value.oneCell',put_at,mk_at,mk_nil,initSt,true_and,and_true,and_self,implies_true,Zi,Zj,Zk,Zl,false_implies,Zm,Zn,Zo,Zp,Zq,Zr,Zs,Zt,Zu,Zv,Zw,Zx,Zy,Zz,Y0,Y1,Y2,reduceCtorEq,if_true,if_false,Y3,↓reduceIte,Y4,Y5,Y6,Y7,Y8,Y9,Ya,ne_eq,not_false_eq_true,not_true_eq_false,Yb,Yc,r12_0,r12_1,r12_2,p12]
  refine callG hc ?_
  simp only [done_eq,done_eq',donet_eq,donet_eq',fin_val,fin_tup,fin_agg,fin_ro,res_one,res_more,rv_t,rv_c,rv_l,Z0,Z1,Z2,List.cons.injEq,int_eq,bool_eq,Z3,Z4,Z5,Z6,Z7,Z8,Z9,Za,beq_self_eq_true,bne_self_eq_false,decide_true,decide_false,Zb,toNat_pred,toNat_succ,Zc,cnd_t,cnd_f,grd_tt,grd_u,grd_tf,grd_ft,grd_ff,g_skip,g_ops,g_seq,g_block,g_exit,g_ret,x_c,x_o,x_l,x_b,g_b,g_nil,r_all,o_nil,g_cond,o_guard,o_call,o_callm,o_callt,o_callx,o_callv,o_callc,o_callh,o_apph,noav_alias,noav_nil,lk,ef,o_mv,o_pick,o_bin,o_never,o_eqs,o_eqb,o_un,o_conv,o_load,o_loadr,o_idxr,o_loads,o_loadsr,o_fld,o_idx,o_idxs,o_len,o_lens,o_ext,o_nilck,o_slc,o_slcs,o_build,o_minmax,o_mkfn,o_mkfnr,o_alloc,o_box,o_boxs,o_row,o_rowr,o_mk,o_asg,o_app,o_appa,o_store,o_stores,o_eqnil,hv,eqAV,ev,view_t,view_c,view_nil,view_fn,look_own,look_box,look_junk,look_val,look_nilsl,look_ro,look_roAt,look_agg,look_tup,look_clo,look_alias,look_ref,look_into,look_fnv,look_held,rowOf,cellsOf,argv,vbin,vun,bnd,elemOf,putParts,setAt,zav,ASt.rid,Zd,Ze,AV.kill,Zf,Zg,Zh,Value.oneCell',put_at,mk_at,mk_nil,initSt,true_and,and_true,and_self,implies_true,Zi,Zj,Zk,Zl,false_implies,Zm,Zn,Zo,Zp,Zq,Zr,Zs,Zt,Zu,Zv,Zw,Zx,Zy,Zz,Y0,Y1,Y2,reduceCtorEq,if_true,if_false,Y3,↓reduceIte,Y4,Y5,Y6,Y7,Y8,Y9,Ya,ne_eq,not_false_eq_true,not_true_eq_false,Yb,Yc,r12_0,r12_1,r12_2,p12]
end Go.Proofs.Ytpecmhdepggnoaa
