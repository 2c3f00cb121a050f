/- Times: tick.noWay, Convert, by the machine on data; the house awake. -/
import Derived.Test.YtpecmhdepggnoaaKScl
import Derived.Test.YtpecmhdepggnoaaKSmpQ
namespace Go.Proofs.Ytpecmhdepggnoaa
open Go.RowKit
open Go.Proofs.Ytpecmhdepggnoaa renaming done_eq → Z0, done_eq' → Z1, donet_eq → Z2, donet_eq' → Z3, fin_val → Z4, fin_tup → Z5, fin_agg → Z6, res_one → Z7, res_more → Z8, bool_eq → Zc, toNat_pred → Zm, toNat_succ → Zn, g_block → Zp, o_guard → Zq, view_nil → Zr, view_fn → Zs, look_own → Zt, look_box → Zu, look_junk → Zv, look_val → Zw, look_nilsl → Zx, look_ro → Zy, look_roAt → Zz, look_agg → Y0, look_tup → Y1, look_clo → Y2, look_alias → Y3, look_ref → Y4, look_into → Y5, cellsOf → Y6, putParts → Y7
open Go.Proofs.Ytpecmhdepggnoaa.AV.tup renaming injEq → Z9
open Go.Proofs.Ytpecmhdepggnoaa.AV.agg renaming injEq → Za
open Go.Proofs.Ytpecmhdepggnoaa.AV.ro renaming injEq → Zb
open _root_.Int renaming toNat_natCast → Zd, reduceToNat → Ze, toNat_zero → Zf, toNat_one → Zg, reduceLE → Zh, reduceLT → Zi, reduceBEq → Zj, reduceBNe → Zk, reduceNeg → Zl
open _root_.List renaming length_map → Zo, map_cons → Ye, map_nil → Yf, forall_mem_cons → Yg, not_mem_nil → Yh, length_cons → Yi, length_nil → Yj, getD_cons_zero → Yk, getD_cons_succ → Yl, getD_nil → Ym, drop_succ_cons → Yn, drop_zero → Yo, take_succ_cons → Yp, take_zero → Yq, set_cons_zero → Yr, set_cons_succ → Ys, all_cons → Yt, all_nil → Yu
open Go.Proofs.Ytpecmhdepggnoaa.ASt renaming rid → Y8, free → Y9
open Go.Proofs.Ytpecmhdepggnoaa.AV renaming kill → Ya, isHome → Yb, noLoan → Yc, cellOK → Yd
open _root_.Bool renaming and_true → Yv, true_and → Yw, not_true → Yx, not_false → Yy, false_eq_true → Yz
open _root_.Nat renaming reduceEqDiff → X0, reduceAdd → X1, reduceSub → X2, reduceMul → X3, reduceLeDiff → X4, reduceLT → X5, one_ne_zero → X6, zero_ne_one → X7
set_option linter.unusedSimpArgs false

/-! headend/tick.noWay -/
def r60_0 : List POp := [⟨2, .asg (.c (.bool false)), none⟩]
def r60_1 : List POp := [⟨3, .mv (.t 0), none⟩,
  ⟨4, .call 32 [.t 3, .c (.int .i64 1), .c (.int .i64 3)], none⟩,
  ⟨2, .asg (.t 4), none⟩]
def p60 : PCode := .seq (.ops r60_0) (.seq (.ops r60_1) (.ret))
theorem ok60 : okFunc Try.prog 60 [.t 2] 1 p60 = true := by kernel_rfl
theorem noway_c (n : Int) : CallOK Try.prog 60 [.val (.int .i64 n)] (.val (.bool (outB n 1 3))) := by
  refine call_of mixed ok60 rfl ?_
  repeat' first | ((with_reducible (first | refine condD ?_ ?_ | refine condE ?_ ?_ | refine condN ?_ ?_ | refine condI ?_ ?_ | refine condS ?_ ?_)) <;> intro h) | ((refine callG (out_c _ _ _) ?_)) | (with_reducible refine And.intro ?_ ?_; omega) | (simp only [Z0,Z1,Z2,Z3,Z4,Z5,Z6,fin_ro,Z7,Z8,rv_t,rv_c,rv_l,Z9,Za,Zb,List.cons.injEq,int_eq,Zc,Zd,Ze,Zf,Zg,Zh,Zi,Zj,Zk,beq_self_eq_true,bne_self_eq_false,decide_true,decide_false,Zl,Zm,Zn,Zo,cnd_t,cnd_f,grd_tt,grd_u,grd_tf,grd_ft,grd_ff,g_skip,g_ops,g_seq,Zp,g_exit,g_ret,x_c,x_o,x_l,x_b,g_b,g_nil,r_all,o_nil,g_cond,Zq,o_call,lk,ef,o_mv,o_asg,hv,eqAV,ev,view_t,view_c,Zr,Zs,Zt,Zu,Zv,Zw,Zx,Zy,Zz,Y0,Y1,Y2,Y3,Y4,Y5,rowOf,Y6,argv,vbin,vun,bnd,elemOf,Y7,setAt,zav,Y8,Y9,Ya,Yb,Yc,Yd,Value.oneCell',put_at,mk_at,mk_nil,initSt,true_and,and_true,and_self,implies_true,Ye,Yf,Yg,Yh,false_implies,Yi,Yj,Yk,Yl,Ym,Yn,Yo,Yp,Yq,Yr,Ys,Yt,Yu,Yv,Yw,Yx,Yy,reduceCtorEq,if_true,if_false,Yz,↓reduceIte,X0,X1,X2,X3,X4,X5,ne_eq,not_false_eq_true,not_true_eq_false,X6,X7,r60_0,r60_1,p60]) | (exfalso; omega)
/-! headend/tick.Convert -/
def r36_0 : List POp := [⟨8, .asg (.c (.int .i64 0)), none⟩,
  ⟨9, .asg (.c (.int .i64 0)), none⟩]
def r36_1 : List POp := [⟨12, .mv (.t 0), none⟩,
  ⟨13, .call 41 [.t 12], none⟩,
  ⟨14, .mv (.t 13), none⟩,
  ⟨15, .mv (.t 1), some (14, false)⟩,
  ⟨16, .call 59 [.t 15], some (14, false)⟩,
  ⟨17, .pick (.t 14) (.c (.bool true)) (.t 16), none⟩,
  ⟨18, .mv (.t 17), none⟩,
  ⟨19, .mv (.t 2), some (18, false)⟩,
  ⟨20, .call 59 [.t 19], some (18, false)⟩,
  ⟨21, .pick (.t 18) (.c (.bool true)) (.t 20), none⟩,
  ⟨11, .asg (.t 21), none⟩]
def r36_2 : List POp := [⟨8, .asg (.c (.int .i64 0)), none⟩,
  ⟨9, .asg (.c (.int .i64 1)), none⟩]
def r36_3 : List POp := [⟨23, .mv (.t 3), none⟩,
  ⟨24, .call 60 [.t 23], none⟩,
  ⟨22, .asg (.t 24), none⟩]
def r36_4 : List POp := [⟨8, .asg (.c (.int .i64 0)), none⟩,
  ⟨9, .asg (.c (.int .i64 4)), none⟩]
def r36_5 : List POp := [⟨25, .mv (.t 0), none⟩,
  ⟨26, .mv (.t 2), none⟩,
  ⟨27, .mv (.t 1), none⟩,
  ⟨28, .mv (.t 3), none⟩,
  ⟨29, .call 38 [.t 25, .t 26, .t 27, .t 28], none⟩,
  ⟨10, .asg (.t 29), none⟩]
def r36_6 : List POp := [⟨30, .mv (.t 10), none⟩,
  ⟨31, .call 41 [.t 30], none⟩]
def r36_7 : List POp := [⟨8, .asg (.c (.int .i64 0)), none⟩,
  ⟨9, .asg (.c (.int .i64 1)), none⟩]
def r36_8 : List POp := [⟨32, .mv (.t 10), none⟩,
  ⟨8, .asg (.t 32), none⟩,
  ⟨9, .asg (.c (.int .i64 0)), none⟩]
def p36 : PCode := .seq (.ops r36_0) (.seq (.block 0 (.seq (.ops r36_1) (.cond (.t 11) (.seq (.ops r36_2) (.ret)) (.seq (.ops r36_3) (.cond (.t 22) (.seq (.ops r36_4) (.ret)) (.skip)))))) (.seq (.ops r36_5) (.seq (.seq (.ops r36_6) (.cond (.t 31) (.seq (.ops r36_7) (.ret)) (.skip))) (.seq (.ops r36_8) (.ret)))))
theorem ok36 : okFunc Try.prog 36 [.t 8, .t 9] 4 p36 = true := by kernel_rfl
def cvt (n frm to way : Int) : Int × Int := if noTime n || noScale frm || noScale to then (0, 1) else if outB way 1 3 then (0, 4) else if noTime (scl n to.toNat frm.toNat way) then (0, 1) else (scl n to.toNat frm.toNat way, 0)
theorem convert_c (n frm to way : Int) : CallOK Try.prog 36 [.val (.int .i64 n), .val (.int .i64 frm), .val (.int .i64 to), .val (.int .i64 way)] (.tup [.val (.int .i64 (cvt n frm to way).1), .val (.int .i64 (cvt n frm to way).2)]) := by
  refine call_of mixed ok36 rfl ?_
  repeat' first | ((with_reducible (first | refine condD ?_ ?_ | refine condE ?_ ?_ | refine condN ?_ ?_ | refine condI ?_ ?_ | refine condS ?_ ?_)) <;> intro h) | ((with_reducible (first | refine guardD (by with_unfolding_all rfl) ?_ ?_ | refine guardE (by with_unfolding_all rfl) ?_ ?_ | refine guardN (by with_unfolding_all rfl) ?_ ?_ | refine guardI (by with_unfolding_all rfl) ?_ ?_ | refine guardS (by with_unfolding_all rfl) ?_ ?_)) <;> intro h) | ((refine callG (notime_c _) ?_)) | ((refine callG (noscale_c _) ?_)) | ((refine callG (noway_c _) ?_)) | (with_reducible refine And.intro ?_ ?_; omega) | (simp only [Z0,Z1,Z2,Z3,Z4,Z5,Z6,fin_ro,Z7,Z8,rv_t,rv_c,rv_l,Z9,Za,Zb,List.cons.injEq,int_eq,Zc,Zd,Ze,Zf,Zg,Zh,Zi,Zj,Zk,beq_self_eq_true,bne_self_eq_false,decide_true,decide_false,Zl,Zm,Zn,Zo,cnd_t,cnd_f,grd_tt,grd_u,grd_tf,grd_ft,grd_ff,g_skip,g_ops,g_seq,Zp,g_exit,g_ret,x_c,x_o,x_l,x_b,g_b,g_nil,r_all,o_nil,g_cond,Zq,o_call,lk,ef,o_mv,o_pick,o_asg,hv,eqAV,ev,view_t,view_c,Zr,Zs,Zt,Zu,Zv,Zw,Zx,Zy,Zz,Y0,Y1,Y2,Y3,Y4,Y5,rowOf,Y6,argv,vbin,vun,bnd,elemOf,Y7,setAt,zav,Y8,Y9,Ya,Yb,Yc,Yd,Value.oneCell',put_at,mk_at,mk_nil,initSt,true_and,and_true,and_self,implies_true,Ye,Yf,Yg,Yh,false_implies,Yi,Yj,Yk,Yl,Ym,Yn,Yo,Yp,Yq,Yr,Ys,Yt,Yu,Yv,Yw,Yx,Yy,reduceCtorEq,if_true,if_false,Yz,↓reduceIte,X0,X1,X2,X3,X4,X5,ne_eq,not_false_eq_true,not_true_eq_false,X6,X7,r36_0,r36_1,r36_2,r36_3,r36_4,r36_5,r36_6,r36_7,r36_8,p36]) | (exfalso; omega)
  all_goals try (simp [cvt, *]; done)
  rename_i h1 h2 h3
  have b1 := noTime_bd h1
  have b2 := noScale_bd h2
  have b3 := noScale_bd h3
  refine callG (scaledI_c n to frm way (by omega) (by omega) (by omega) (by omega) (by omega) (by omega)) ?_
  repeat' first | ((with_reducible (first | refine condD ?_ ?_ | refine condE ?_ ?_ | refine condN ?_ ?_ | refine condI ?_ ?_ | refine condS ?_ ?_)) <;> intro h) | ((with_reducible (first | refine guardD (by with_unfolding_all rfl) ?_ ?_ | refine guardE (by with_unfolding_all rfl) ?_ ?_ | refine guardN (by with_unfolding_all rfl) ?_ ?_ | refine guardI (by with_unfolding_all rfl) ?_ ?_ | refine guardS (by with_unfolding_all rfl) ?_ ?_)) <;> intro h) | ((refine callG (notime_c _) ?_)) | (with_reducible refine And.intro ?_ ?_; omega) | (simp only [Z0,Z1,Z2,Z3,Z4,Z5,Z6,fin_ro,Z7,Z8,rv_t,rv_c,rv_l,Z9,Za,Zb,List.cons.injEq,int_eq,Zc,Zd,Ze,Zf,Zg,Zh,Zi,Zj,Zk,beq_self_eq_true,bne_self_eq_false,decide_true,decide_false,Zl,Zm,Zn,Zo,cnd_t,cnd_f,grd_tt,grd_u,grd_tf,grd_ft,grd_ff,g_skip,g_ops,g_seq,Zp,g_exit,g_ret,x_c,x_o,x_l,x_b,g_b,g_nil,r_all,o_nil,g_cond,Zq,o_call,lk,ef,o_mv,o_pick,o_asg,hv,eqAV,ev,view_t,view_c,Zr,Zs,Zt,Zu,Zv,Zw,Zx,Zy,Zz,Y0,Y1,Y2,Y3,Y4,Y5,rowOf,Y6,argv,vbin,vun,bnd,elemOf,Y7,setAt,zav,Y8,Y9,Ya,Yb,Yc,Yd,Value.oneCell',put_at,mk_at,mk_nil,initSt,true_and,and_true,and_self,implies_true,Ye,Yf,Yg,Yh,false_implies,Yi,Yj,Yk,Yl,Ym,Yn,Yo,Yp,Yq,Yr,Ys,Yt,Yu,Yv,Yw,Yx,Yy,reduceCtorEq,if_true,if_false,Yz,↓reduceIte,X0,X1,X2,X3,X4,X5,ne_eq,not_false_eq_true,not_true_eq_false,X6,X7,r36_0,r36_1,r36_2,r36_3,r36_4,r36_5,r36_6,r36_7,r36_8,p36]) | (exfalso; omega)
  all_goals simp [cvt, *]
end Go.Proofs.Ytpecmhdepggnoaa
/- The house alive: headendtop.alive. -/
namespace Go.Proofs.Ytpecmhdepggnoaa
open Go.RowKit
open Go.Proofs.Ytpecmhdepggnoaa.AV.tup renaming injEq → Z0
open Go.Proofs.Ytpecmhdepggnoaa.AV.agg renaming injEq → Z1
open Go.Proofs.Ytpecmhdepggnoaa.AV.ro renaming injEq → Z2
open _root_.Int renaming toNat_natCast → Z3, reduceToNat → Z4, toNat_zero → Z5, toNat_one → Z6, reduceLE → Z7, reduceLT → Z8, reduceBEq → Z9, reduceBNe → Za, reduceNeg → Zb
open _root_.List renaming length_map → Zc, map_cons → Zh, map_nil → Zi, forall_mem_cons → Zj, not_mem_nil → Zk, length_cons → Zl, length_nil → Zm, getD_cons_zero → Zn, getD_cons_succ → Zo, getD_nil → Zp, drop_succ_cons → Zq, drop_zero → Zr, take_succ_cons → Zs, take_zero → Zt, set_cons_zero → Zu, set_cons_succ → Zv, all_cons → Zw, all_nil → Zx
open Go.Proofs.Ytpecmhdepggnoaa.ASt renaming free → Zd
open Go.Proofs.Ytpecmhdepggnoaa.AV renaming isHome → Ze, noLoan → Zf, cellOK → Zg
open _root_.Bool renaming and_true → Zy, true_and → Zz, not_true → Y0, not_false → Y1, false_eq_true → Y2
open _root_.Nat renaming reduceEqDiff → Y3, reduceAdd → Y4, reduceSub → Y5, reduceMul → Y6, reduceLeDiff → Y7, reduceLT → Y8, one_ne_zero → Y9, zero_ne_one → Ya
set_option linter.unusedSimpArgs false
--@short

/-! headend/headendtop.alive -/
def r12_0 : List POp := [⟨0, .asg (.c (.bool false)), none⟩]
def r12_1 : List POp := [⟨4, .call 36 [.c (.int .i64 1), .c (.int .i64 3), .c (.int .i64 2), .c (.int .i64 3)], none⟩,
  ⟨3, .mv (.t 4), none⟩,
  ⟨5, .ext 0 (.t 3), none⟩,
  ⟨6, .ext 1 (.t 3), none⟩,
  ⟨1, .mv (.t 5), none⟩,
  ⟨2, .mv (.t 6), none⟩]
def r12_2 : List POp := [⟨7, .mv (.t 2), none⟩,
  ⟨8, .bin .eql (.t 7) (.c (.int .i64 0)), none⟩,
  ⟨9, .mv (.t 8), none⟩,
  ⟨10, .mv (.t 1), some (9, true)⟩,
  ⟨11, .bin .eql (.t 10) (.c (.int .i64 1)), some (9, true)⟩,
  ⟨12, .pick (.t 9) (.t 11) (.c (.bool false)), none⟩,
  ⟨0, .asg (.t 12), none⟩]
def p12 : PCode := .seq (.ops r12_0) (.seq (.ops r12_1) (.seq (.ops r12_2) (.ret)))
theorem ok12 : okFunc Try.prog 12 [.t 0] 0 p12 = true := by kernel_rfl
theorem alive_c : CallOK Try.prog 12 [] (.val (.bool true)) := by
  refine call_of mixed ok12 rfl ?_
  have hc := convert_c 1 3 2 3
  have hcv : cvt 1 3 2 3 = (1, 0) := by decide
  rw [hcv] at hc
  simp only at hc
  simp only [done_eq,done_eq',donet_eq,donet_eq',fin_val,fin_tup,fin_agg,fin_ro,res_one,res_more,rv_t,rv_c,rv_l,Z0,Z1,Z2,List.cons.injEq,int_eq,bool_eq,Z3,Z4,Z5,Z6,Z7,Z8,Z9,Za,beq_self_eq_true,bne_self_eq_false,decide_true,decide_false,Zb,toNat_pred,toNat_succ,Zc,cnd_t,cnd_f,grd_tt,grd_u,grd_tf,grd_ft,grd_ff,g_skip,g_ops,g_seq,g_block,g_exit,g_ret,x_c,x_o,x_l,x_b,g_b,g_nil,r_all,o_nil,g_cond,o_guard,o_call,o_callm,o_callt,o_callx,o_callv,lk,ef,o_mv,o_pick,o_bin,o_never,o_eqs,o_eqb,o_un,o_conv,o_load,o_loadr,o_idxr,o_loads,o_fld,o_idx,o_idxs,o_len,o_lens,o_ext,o_nilck,o_slc,o_slcs,o_build,o_minmax,o_mkfn,o_alloc,o_box,o_boxs,o_row,o_rowr,o_mk,o_asg,o_app,o_store,o_stores,o_eqnil,hv,eqAV,ev,view_t,view_c,view_nil,view_fn,look_own,look_box,look_junk,look_val,look_nilsl,look_ro,look_roAt,look_agg,look_tup,look_clo,look_alias,look_ref,look_into,rowOf,cellsOf,argv,vbin,vun,bnd,elemOf,putParts,setAt,zav,ASt.rid,Zd,AV.kill,Ze,Zf,Zg,Value.oneCell',put_at,mk_at,mk_nil,initSt,true_and,and_true,and_self,implies_true,Zh,Zi,Zj,Zk,false_implies,Zl,Zm,Zn,Zo,Zp,Zq,Zr,Zs,Zt,Zu,Zv,Zw,Zx,Zy,Zz,Y0,Y1,reduceCtorEq,if_true,if_false,Y2,↓reduceIte,Y3,Y4,Y5,Y6,Y7,Y8,ne_eq,not_false_eq_true,not_true_eq_false,Y9,Ya,r12_0,r12_1,r12_2,p12]
  refine callG hc ?_
  simp only [done_eq,done_eq',donet_eq,donet_eq',fin_val,fin_tup,fin_agg,fin_ro,res_one,res_more,rv_t,rv_c,rv_l,Z0,Z1,Z2,List.cons.injEq,int_eq,bool_eq,Z3,Z4,Z5,Z6,Z7,Z8,Z9,Za,beq_self_eq_true,bne_self_eq_false,decide_true,decide_false,Zb,toNat_pred,toNat_succ,Zc,cnd_t,cnd_f,grd_tt,grd_u,grd_tf,grd_ft,grd_ff,g_skip,g_ops,g_seq,g_block,g_exit,g_ret,x_c,x_o,x_l,x_b,g_b,g_nil,r_all,o_nil,g_cond,o_guard,o_call,o_callm,o_callt,o_callx,o_callv,lk,ef,o_mv,o_pick,o_bin,o_never,o_eqs,o_eqb,o_un,o_conv,o_load,o_loadr,o_idxr,o_loads,o_fld,o_idx,o_idxs,o_len,o_lens,o_ext,o_nilck,o_slc,o_slcs,o_build,o_minmax,o_mkfn,o_alloc,o_box,o_boxs,o_row,o_rowr,o_mk,o_asg,o_app,o_store,o_stores,o_eqnil,hv,eqAV,ev,view_t,view_c,view_nil,view_fn,look_own,look_box,look_junk,look_val,look_nilsl,look_ro,look_roAt,look_agg,look_tup,look_clo,look_alias,look_ref,look_into,rowOf,cellsOf,argv,vbin,vun,bnd,elemOf,putParts,setAt,zav,ASt.rid,Zd,AV.kill,Ze,Zf,Zg,Value.oneCell',put_at,mk_at,mk_nil,initSt,true_and,and_true,and_self,implies_true,Zh,Zi,Zj,Zk,false_implies,Zl,Zm,Zn,Zo,Zp,Zq,Zr,Zs,Zt,Zu,Zv,Zw,Zx,Zy,Zz,Y0,Y1,reduceCtorEq,if_true,if_false,Y2,↓reduceIte,Y3,Y4,Y5,Y6,Y7,Y8,ne_eq,not_false_eq_true,not_true_eq_false,Y9,Ya,r12_0,r12_1,r12_2,p12]
end Go.Proofs.Ytpecmhdepggnoaa
