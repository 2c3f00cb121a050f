/- Live lists: Play, by the machine on data. -/
import Derived.Test.YtpecmhdepggnoaaKLvJ
namespace Go.Proofs.Ytpecmhdepggnoaa
open Go.RowKit
open Go.Proofs.Ytpecmhdepggnoaa renaming done_eq → Z0, done_eq' → Z1, donet_eq → Z2, donet_eq' → Z3, fin_val → Z4, fin_tup → Z5, fin_agg → Z6, fin_ro → Z7, res_one → Z8, res_more → Z9, int_eq → Zd, bool_eq → Ze, toNat_pred → Zo, toNat_succ → Zp, cnd_t → Zr, cnd_f → Zs, grd_tt → Zt, grd_u → Zu, grd_tf → Zv, grd_ft → Zw, grd_ff → Zx, g_skip → Zy, g_ops → Zz, g_seq → Y0, g_block → Y1, g_exit → Y2, g_ret → Y3, g_nil → Y4, r_all → Y5, o_nil → Y6, g_cond → Y7, o_guard → Y8, o_call → Y9, o_callm → Ya, o_callt → Yb, o_callx → Yc, o_callv → Yd, o_callc → Ye, o_callh → Yf, o_apph → Yg, noav_alias → Yh, noav_nil → Yi, o_pick → Yj, o_bin → Yk, o_never → Yl, o_eqs → Ym, o_eqb → Yn, o_conv → Yo, o_load → Yp, o_loadr → Yq, o_idxr → Yr, o_loads → Ys, o_loadsr → Yt, o_fld → Yu, o_idx → Yv, o_idxs → Yw, o_len → Yx, o_lens → Yy, o_ext → Yz, o_nilck → X0, o_slc → X1, o_slcs → X2, o_build → X3, o_minmax → X4, o_mkfn → X5, o_mkfnr → X6, o_alloc → X7, o_box → X8, o_boxs → X9, o_row → Xa, o_rowr → Xb, o_asg → Xc, o_app → Xd, o_appa → Xe, o_store → Xf, o_stores → Xg, o_eqnil → Xh, view_t → Xi, view_c → Xj, view_nil → Xk, view_fn → Xl, look_own → Xm, look_box → Xn, look_junk → Xo, look_val → Xp, look_nilsl → Xq, look_ro → Xr, look_roAt → Xs, look_agg → Xt, look_tup → Xu, look_clo → Xv, look_alias → Xw, look_ref → Xx, look_into → Xy, look_fnv → Xz, look_held → W0, rowOf → W1, cellsOf → W2, elemOf → W3, putParts → W4, setAt → W5, put_at → Wd, mk_at → We, mk_nil → Wf, initSt → Wg
open Go.Proofs.Ytpecmhdepggnoaa.AV.tup renaming injEq → Za
open Go.Proofs.Ytpecmhdepggnoaa.AV.agg renaming injEq → Zb
open Go.Proofs.Ytpecmhdepggnoaa.AV.ro renaming injEq → Zc
open _root_.Int renaming toNat_natCast → Zf, reduceToNat → Zg, toNat_zero → Zh, toNat_one → Zi, reduceLE → Zj, reduceLT → Zk, reduceBEq → Zl, reduceBNe → Zm, reduceNeg → Zn
open _root_.List renaming length_map → Zq, map_cons → Wh, map_nil → Wi, forall_mem_cons → Wj, not_mem_nil → Wk, length_cons → Wl, length_nil → Wm, getD_cons_zero → Wn, getD_cons_succ → Wo, getD_nil → Wp, drop_succ_cons → Wq, drop_zero → Wr, take_succ_cons → Ws, take_zero → Wt, set_cons_zero → Wu, set_cons_succ → Wv, all_cons → Ww, all_nil → Wx
open Go.Proofs.Ytpecmhdepggnoaa.ASt renaming rid → W6, hold → W7, free → W8
open Go.Proofs.Ytpecmhdepggnoaa.AV renaming kill → W9, isHome → Wa, noLoan → Wb, cellOK → Wc
open _root_.Bool renaming and_true → Wy, true_and → Wz, not_true → V0, not_false → V1, false_eq_true → V2
open _root_.Nat renaming reduceEqDiff → V3, reduceBNe → V4, reduceAdd → V5, reduceSub → V6, reduceMul → V7, reduceLeDiff → V8, reduceLT → V9, one_ne_zero → Va, zero_ne_one → Vb
set_option linter.unusedSimpArgs false
--@short

def zCLp : List AV := [.val (.bool false), .val (.int .i64 0), .val (.int .i64 0), .val (.int .i64 0), .val (.int .i64 0), .nilsl, .val (.bool false), .nilsl, .val (.int .i64 0)]
def zQIp : List AV := [.val (.int .i64 0), .val (.string ⟨#[]⟩), .val (.int .i64 0), .val (.bool false), .val (.int .i64 0), .val (.string ⟨#[]⟩), .val (.bool false), .nilsl]
/-! headend/list.Play -/
def r8_0 : List POp := [⟨1, .boxs (.t 0), none⟩,
  ⟨2, .alloc [.bool false, .int .i64 0, .int .i64 0, .int .i64 0, .int .i64 0, .slice none 0 0, .bool false, .slice none 0 0, .int .i64 0], none⟩,
  ⟨3, .alloc [.int .i64 0, .string ⟨#[]⟩, .int .i64 0, .bool false, .int .i64 0, .string ⟨#[]⟩, .bool false, .slice none 0 0], none⟩,
  ⟨4, .asg (.c (.int .i64 0)), none⟩]
def r8_1 : List POp := [⟨8, .loads 9 (.t 1), none⟩,
  ⟨9, .call 31 [.t 8, .c (.int .i64 0)], none⟩,
  ⟨5, .asg (.t 9), none⟩]
def r8_2 : List POp := [⟨10, .mv (.t 5), none⟩,
  ⟨11, .bin .neq (.t 10) (.c (.int .i64 0)), none⟩]
def r8_3 : List POp := [⟨12, .build [.bool false, .int .i64 0, .int .i64 0, .int .i64 0, .int .i64 0, .slice none 0 0, .bool false, .slice none 0 0, .int .i64 0] [], none⟩,
  ⟨13, .build [.int .i64 0, .string ⟨#[]⟩, .int .i64 0, .bool false, .int .i64 0, .string ⟨#[]⟩, .bool false, .slice none 0 0] [], none⟩,
  ⟨14, .mv (.t 5), none⟩,
  ⟨0, .stores 9 (.t 2) (.t 12), none⟩,
  ⟨0, .stores 8 (.t 3) (.t 13), none⟩,
  ⟨4, .mv (.t 14), none⟩]
def r8_4 : List POp := [⟨15, .fld 7 (.t 1), none⟩,
  ⟨16, .load (.t 15), none⟩,
  ⟨17, .len (.t 16), none⟩,
  ⟨18, .bin .eql (.t 17) (.c (.int .i64 0)), none⟩]
def r8_5 : List POp := [⟨19, .build [.bool false, .int .i64 0, .int .i64 0, .int .i64 0, .int .i64 0, .slice none 0 0, .bool false, .slice none 0 0, .int .i64 0] [], none⟩,
  ⟨20, .build [.int .i64 0, .string ⟨#[]⟩, .int .i64 0, .bool false, .int .i64 0, .string ⟨#[]⟩, .bool false, .slice none 0 0] [], none⟩,
  ⟨0, .stores 9 (.t 2) (.t 19), none⟩,
  ⟨0, .stores 8 (.t 3) (.t 20), none⟩,
  ⟨4, .mv (.c (.int .i64 9)), none⟩]
def r8_6 : List POp := [⟨21, .loads 9 (.t 1), none⟩,
  ⟨22, .call 28 [.t 21], none⟩,
  ⟨6, .alloc [.bool false, .int .i64 0, .int .i64 0, .int .i64 0, .int .i64 0, .slice none 0 0, .bool false, .slice none 0 0, .int .i64 0], none⟩,
  ⟨0, .stores 9 (.t 6) (.t 22), none⟩]
def r8_7 : List POp := [⟨23, .fld 7 (.t 6), none⟩,
  ⟨24, .load (.t 23), none⟩,
  ⟨25, .idx 8 (.t 24) (.c (.int .i64 0)), none⟩,
  ⟨26, .loads 8 (.t 25), none⟩,
  ⟨7, .alloc [.int .i64 0, .string ⟨#[]⟩, .int .i64 0, .bool false, .int .i64 0, .string ⟨#[]⟩, .bool false, .slice none 0 0], none⟩,
  ⟨0, .stores 8 (.t 7) (.t 26), none⟩]
def r8_8 : List POp := [⟨27, .fld 7 (.t 6), none⟩,
  ⟨28, .load (.t 27), none⟩,
  ⟨29, .slc (some (.c (.int .i64 1))) none 8 (.t 28), none⟩,
  ⟨30, .fld 7 (.t 6), none⟩,
  ⟨0, .store (.t 30) (.t 29), none⟩]
def r8_9 : List POp := [⟨31, .loadsr 9 (.t 6), none⟩,
  ⟨32, .loadsr 8 (.t 7), none⟩,
  ⟨0, .stores 9 (.t 2) (.t 31), none⟩,
  ⟨0, .stores 8 (.t 3) (.t 32), none⟩,
  ⟨4, .mv (.c (.int .i64 0)), none⟩]
def p8 : PCode := .seq (.ops r8_0) (.seq (.seq (.ops r8_1) (.seq (.ops r8_2) (.cond (.t 11) (.seq (.ops r8_3) (.ret)) (.skip)))) (.seq (.seq (.ops r8_4) (.cond (.t 18) (.seq (.ops r8_5) (.ret)) (.skip))) (.seq (.ops r8_6) (.seq (.ops r8_7) (.seq (.ops r8_8) (.seq (.opw r8_9) (.ret)))))))
theorem ok8 : okFunc Try.prog 8 [.c 2 9, .c 3 8, .t 4] 1 p8 = true := by kernel_rfl
set_option maxHeartbeats 1000000 in
theorem play_c0 (c : CL) (hs : c.small) (hp : playF c ≠ 0) : CallOK Try.prog 8 [.agg c.av] (.tup [.agg zCLp, .agg zQIp, .val (.int .i64 (playF c))]) := by
  have c1 := clientfault_c c (by have := hs.2.1; omega) 0
  refine call_of mixed ok8 rfl ?_
  simp only [CL.av, zCLp, zQIp] at c1 ⊢
  unfold playF at hp ⊢
  by_cases q1 : clF c 0 = 0
  case neg =>
    rw [if_pos q1]
    generalize clF c 0 = f at *
    repeat' first | ((with_reducible (first | refine condD ?_ ?_ | refine condE ?_ ?_ | refine condN ?_ ?_ | refine condI ?_ ?_ | refine condS ?_ ?_)) <;> intro h) | ((with_reducible (first | refine guardD (by with_unfolding_all rfl) ?_ ?_ | refine guardE (by with_unfolding_all rfl) ?_ ?_ | refine guardN (by with_unfolding_all rfl) ?_ ?_ | refine guardI (by with_unfolding_all rfl) ?_ ?_ | refine guardS (by with_unfolding_all rfl) ?_ ?_)) <;> intro h) | ((refine callG c1 ?_)) | (with_reducible refine And.intro ?_ ?_; omega) | (simp only [Z0,Z1,Z2,Z3,Z4,Z5,Z6,Z7,Z8,Z9,rv_t,rv_c,rv_l,Za,Zb,Zc,List.cons.injEq,Zd,Ze,Zf,Zg,Zh,Zi,Zj,Zk,Zl,Zm,beq_self_eq_true,bne_self_eq_false,decide_true,decide_false,Zn,Zo,Zp,Zq,Zr,Zs,Zt,Zu,Zv,Zw,Zx,Zy,Zz,Y0,Y1,Y2,Y3,x_c,x_o,x_l,x_b,g_b,Y4,Y5,Y6,Y7,Y8,Y9,Ya,Yb,Yc,Yd,Ye,Yf,Yg,Yh,Yi,lk,ef,o_mv,Yj,Yk,Yl,Ym,Yn,o_un,Yo,Yp,Yq,Yr,Ys,Yt,Yu,Yv,Yw,Yx,Yy,Yz,X0,X1,X2,X3,X4,X5,X6,X7,X8,X9,Xa,Xb,o_mk,Xc,Xd,Xe,Xf,Xg,Xh,hv,eqAV,ev,Xi,Xj,Xk,Xl,Xm,Xn,Xo,Xp,Xq,Xr,Xs,Xt,Xu,Xv,Xw,Xx,Xy,Xz,W0,W1,W2,argv,vbin,vun,bnd,W3,W4,W5,zav,W6,W7,W8,W9,Wa,Wb,Wc,Value.oneCell',Wd,We,Wf,Wg,true_and,and_true,and_self,implies_true,Wh,Wi,Wj,Wk,false_implies,Wl,Wm,Wn,Wo,Wp,Wq,Wr,Ws,Wt,Wu,Wv,Ww,Wx,Wy,Wz,V0,V1,reduceCtorEq,if_true,if_false,V2,↓reduceIte,V3,V4,V5,V6,V7,V8,V9,ne_eq,not_false_eq_true,not_true_eq_false,Va,Vb,r8_0,r8_1,r8_2,r8_3,r8_4,r8_5,r8_6,r8_7,r8_8,r8_9,p8,bne0_t q1]) | (exfalso; omega)
    all_goals first | done | trace_state
  rw [if_neg (not_not_intro q1)] at hp ⊢
  rw [q1] at c1
  by_cases q2 : c.queue.length = 0
  case neg => rw [if_neg q2] at hp; exact absurd rfl hp
  rw [if_pos q2]
  have q2' : ((c.queue.length : Int) == 0) = true := by rw [beq_iff_eq]; omega
  repeat' first | ((with_reducible (first | refine condD ?_ ?_ | refine condE ?_ ?_ | refine condN ?_ ?_ | refine condI ?_ ?_ | refine condS ?_ ?_)) <;> intro h) | ((with_reducible (first | refine guardD (by with_unfolding_all rfl) ?_ ?_ | refine guardE (by with_unfolding_all rfl) ?_ ?_ | refine guardN (by with_unfolding_all rfl) ?_ ?_ | refine guardI (by with_unfolding_all rfl) ?_ ?_ | refine guardS (by with_unfolding_all rfl) ?_ ?_)) <;> intro h) | ((refine callG c1 ?_)) | (with_reducible refine And.intro ?_ ?_; omega) | (simp only [Z0,Z1,Z2,Z3,Z4,Z5,Z6,Z7,Z8,Z9,rv_t,rv_c,rv_l,Za,Zb,Zc,List.cons.injEq,Zd,Ze,Zf,Zg,Zh,Zi,Zj,Zk,Zl,Zm,beq_self_eq_true,bne_self_eq_false,decide_true,decide_false,Zn,Zo,Zp,Zq,Zr,Zs,Zt,Zu,Zv,Zw,Zx,Zy,Zz,Y0,Y1,Y2,Y3,x_c,x_o,x_l,x_b,g_b,Y4,Y5,Y6,Y7,Y8,Y9,Ya,Yb,Yc,Yd,Ye,Yf,Yg,Yh,Yi,lk,ef,o_mv,Yj,Yk,Yl,Ym,Yn,o_un,Yo,Yp,Yq,Yr,Ys,Yt,Yu,Yv,Yw,Yx,Yy,Yz,X0,X1,X2,X3,X4,X5,X6,X7,X8,X9,Xa,Xb,o_mk,Xc,Xd,Xe,Xf,Xg,Xh,hv,eqAV,ev,Xi,Xj,Xk,Xl,Xm,Xn,Xo,Xp,Xq,Xr,Xs,Xt,Xu,Xv,Xw,Xx,Xy,Xz,W0,W1,W2,argv,vbin,vun,bnd,W3,W4,W5,zav,W6,W7,W8,W9,Wa,Wb,Wc,Value.oneCell',Wd,We,Wf,Wg,true_and,and_true,and_self,implies_true,Wh,Wi,Wj,Wk,false_implies,Wl,Wm,Wn,Wo,Wp,Wq,Wr,Ws,Wt,Wu,Wv,Ww,Wx,Wy,Wz,V0,V1,reduceCtorEq,if_true,if_false,V2,↓reduceIte,V3,V4,V5,V6,V7,V8,V9,ne_eq,not_false_eq_true,not_true_eq_false,Va,Vb,r8_0,r8_1,r8_2,r8_3,r8_4,r8_5,r8_6,r8_7,r8_8,r8_9,p8,Zq,q2']) | (exfalso; omega)
  all_goals first | done | trace_state
set_option maxHeartbeats 1000000 in
theorem play_c1 (c : CL) (hs : c.small) (hp : playF c = 0) (x : QI) (T : List QI) (hx : c.queue = x :: T) : CallOK Try.prog 8 [.agg c.av] (.tup [.agg (playC c).av, .agg x.av, .val (.int .i64 0)]) := by
  have c1 := clientfault_c c (by have := hs.2.1; omega) 0
  have c2 := copycl_c c hs
  have hl2 := hs.2.1
  have q1 : clF c 0 = 0 := by
    unfold playF at hp
    by_cases q : clF c 0 = 0
    · exact q
    · rw [if_pos q] at hp; exact hp
  rw [q1] at c1
  have hC : (playC c).av = [.val (.bool c.begun), .val (.int .i64 c.next), .val (.int .i64 c.last.target), .val (.int .i64 c.last.first), .val (.int .i64 c.last.breaks), .ro (c.last.ents.map LE.av), .val (.bool c.last.ended), .ro (T.map QI.av), .val (.int .i64 c.lost)] := by simp only [CL.av, playC, hx, List.tail_cons]
  rw [hC]
  refine call_of mixed ok8 rfl ?_
  simp only [CL.av, hx] at c1 c2 ⊢
  rw [hx, List.length_cons] at hl2
  have hlen : ((x :: T).map QI.av).length = T.length + 1 := by rw [List.length_map, List.length_cons]
  have hl0 : ((((T.length + 1 : Nat) : Int)) == 0) = false := by rw [beq_eq_false_iff_ne]; omega
  have hall : (∀ y ∈ (x :: T).map QI.av, y.length = 8) = True := eq_true (fun y hy => by
    obtain ⟨z, _, rfl⟩ := List.mem_map.1 hy
    rfl)
  have hg0 : ((x :: T).map QI.av).getD 0 [] = x.av := rfl
  have hTk : (((x :: T).map QI.av).take (T.length + 1)).drop 1 = T.map QI.av := by
    rw [← hlen, List.take_length]; rfl
  have hlt : (0 : Int) < ((T.length + 1 : Nat) : Int) := by omega
  generalize (x :: T).map QI.av = X at *
  simp only [QI.av] at hg0 ⊢
  repeat' first | ((with_reducible (first | refine condD ?_ ?_ | refine condE ?_ ?_ | refine condN ?_ ?_ | refine condI ?_ ?_ | refine condS ?_ ?_)) <;> intro h) | ((with_reducible (first | refine guardD (by with_unfolding_all rfl) ?_ ?_ | refine guardE (by with_unfolding_all rfl) ?_ ?_ | refine guardN (by with_unfolding_all rfl) ?_ ?_ | refine guardI (by with_unfolding_all rfl) ?_ ?_ | refine guardS (by with_unfolding_all rfl) ?_ ?_)) <;> intro h) | ((refine callG c1 ?_)) | ((refine callG c2 ?_)) | (with_reducible refine And.intro ?_ ?_; omega) | (simp only [Z0,Z1,Z2,Z3,Z4,Z5,Z6,Z7,Z8,Z9,rv_t,rv_c,rv_l,Za,Zb,Zc,List.cons.injEq,Zd,Ze,Zf,Zg,Zh,Zi,Zj,Zk,Zl,Zm,beq_self_eq_true,bne_self_eq_false,decide_true,decide_false,Zn,Zo,Zp,Zq,Zr,Zs,Zt,Zu,Zv,Zw,Zx,Zy,Zz,Y0,Y1,Y2,Y3,x_c,x_o,x_l,x_b,g_b,Y4,Y5,Y6,Y7,Y8,Y9,Ya,Yb,Yc,Yd,Ye,Yf,Yg,Yh,Yi,lk,ef,o_mv,Yj,Yk,Yl,Ym,Yn,o_un,Yo,Yp,Yq,Yr,Ys,Yt,Yu,Yv,Yw,Yx,Yy,Yz,X0,X1,X2,X3,X4,X5,X6,X7,X8,X9,Xa,Xb,o_mk,Xc,Xd,Xe,Xf,Xg,Xh,hv,eqAV,ev,Xi,Xj,Xk,Xl,Xm,Xn,Xo,Xp,Xq,Xr,Xs,Xt,Xu,Xv,Xw,Xx,Xy,Xz,W0,W1,W2,argv,vbin,vun,bnd,W3,W4,W5,zav,W6,W7,W8,W9,Wa,Wb,Wc,Value.oneCell',Wd,We,Wf,Wg,true_and,and_true,and_self,implies_true,Wh,Wi,Wj,Wk,false_implies,Wl,Wm,Wn,Wo,Wp,Wq,Wr,Ws,Wt,Wu,Wv,Ww,Wx,Wy,Wz,V0,V1,reduceCtorEq,if_true,if_false,V2,↓reduceIte,V3,V4,V5,V6,V7,V8,V9,ne_eq,not_false_eq_true,not_true_eq_false,Va,Vb,r8_0,r8_1,r8_2,r8_3,r8_4,r8_5,r8_6,r8_7,r8_8,r8_9,p8,hlen,hl0,hg0,hTk,hall,hlt]) | (exfalso; omega)
  refine opwG (weak_mk (l := [(2, .box [.val (.bool false), .val (.int .i64 0), .val (.int .i64 0), .val (.int .i64 0), .val (.int .i64 0), .nilsl, .val (.bool false), .nilsl, .val (.int .i64 0)]), (3, .box [.val (.int .i64 0), .val (.string ⟨#[]⟩), .val (.int .i64 0), .val (.bool false), .val (.int .i64 0), .val (.string ⟨#[]⟩), .val (.bool false), .nilsl]), (6, .roAt [.val (.bool c.begun), .val (.int .i64 c.next), .val (.int .i64 c.last.target), .val (.int .i64 c.last.first), .val (.int .i64 c.last.breaks), .ro (c.last.ents.map LE.av), .val (.bool c.last.ended), .ro (T.map QI.av), .val (.int .i64 c.lost)] 0), (7, .roAt [.val (.int .i64 x.num), .val (.string x.ent.uri), .val (.int .i64 x.ent.milli), .val (.bool x.ent.brk), .val (.int .i64 x.ent.date), .val (.string x.ent.key), .val (.bool x.ent.gap), .ro (x.ent.extra.map oneS)] 0)]) ?_) ?_
  · simp only [wk_cons,wk_nil,wk1,vint_eq,vbool_eq,AV.val.injEq,Z0,Z1,Z2,Z3,Z4,Z5,Z6,Z7,Z8,Z9,rv_t,rv_c,rv_l,Za,Zb,Zc,List.cons.injEq,Zd,Ze,Zf,Zg,Zh,Zi,Zj,Zk,Zl,Zm,beq_self_eq_true,bne_self_eq_false,decide_true,decide_false,Zn,Zo,Zp,Zq,Zr,Zs,Zt,Zu,Zv,Zw,Zx,Zy,Zz,Y0,Y1,Y2,Y3,x_c,x_o,x_l,x_b,g_b,Y4,Y5,Y6,Y7,Y8,Y9,Ya,Yb,Yc,Yd,Ye,Yf,Yg,Yh,Yi,lk,ef,o_mv,Yj,Yk,Yl,Ym,Yn,o_un,Yo,Yp,Yq,Yr,Ys,Yt,Yu,Yv,Yw,Yx,Yy,Yz,X0,X1,X2,X3,X4,X5,X6,X7,X8,X9,Xa,Xb,o_mk,Xc,Xd,Xe,Xf,Xg,Xh,hv,eqAV,ev,Xi,Xj,Xk,Xl,Xm,Xn,Xo,Xp,Xq,Xr,Xs,Xt,Xu,Xv,Xw,Xx,Xy,Xz,W0,W1,W2,argv,vbin,vun,bnd,W3,W4,W5,zav,W6,W7,W8,W9,Wa,Wb,Wc,Value.oneCell',Wd,We,Wf,Wg,true_and,and_true,and_self,implies_true,Wh,Wi,Wj,Wk,false_implies,Wl,Wm,Wn,Wo,Wp,Wq,Wr,Ws,Wt,Wu,Wv,Ww,Wx,Wy,Wz,V0,V1,reduceCtorEq,if_true,if_false,V2,↓reduceIte,V3,V4,V5,V6,V7,V8,V9,ne_eq,not_false_eq_true,not_true_eq_false,Va,Nat.zero_ne_one]
  repeat' first | ((with_reducible (first | refine condD ?_ ?_ | refine condE ?_ ?_ | refine condN ?_ ?_ | refine condI ?_ ?_ | refine condS ?_ ?_)) <;> intro h) | ((with_reducible (first | refine guardD (by with_unfolding_all rfl) ?_ ?_ | refine guardE (by with_unfolding_all rfl) ?_ ?_ | refine guardN (by with_unfolding_all rfl) ?_ ?_ | refine guardI (by with_unfolding_all rfl) ?_ ?_ | refine guardS (by with_unfolding_all rfl) ?_ ?_)) <;> intro h) | (with_reducible refine And.intro ?_ ?_; omega) | (simp only [Z0,Z1,Z2,Z3,Z4,Z5,Z6,Z7,Z8,Z9,rv_t,rv_c,rv_l,Za,Zb,Zc,List.cons.injEq,Zd,Ze,Zf,Zg,Zh,Zi,Zj,Zk,Zl,Zm,beq_self_eq_true,bne_self_eq_false,decide_true,decide_false,Zn,Zo,Zp,Zq,Zr,Zs,Zt,Zu,Zv,Zw,Zx,Zy,Zz,Y0,Y1,Y2,Y3,x_c,x_o,x_l,x_b,g_b,Y4,Y5,Y6,Y7,Y8,Y9,Ya,Yb,Yc,Yd,Ye,Yf,Yg,Yh,Yi,lk,ef,o_mv,Yj,Yk,Yl,Ym,Yn,o_un,Yo,Yp,Yq,Yr,Ys,Yt,Yu,Yv,Yw,Yx,Yy,Yz,X0,X1,X2,X3,X4,X5,X6,X7,X8,X9,Xa,Xb,o_mk,Xc,Xd,Xe,Xf,Xg,Xh,hv,eqAV,ev,Xi,Xj,Xk,Xl,Xm,Xn,Xo,Xp,Xq,Xr,Xs,Xt,Xu,Xv,Xw,Xx,Xy,Xz,W0,W1,W2,argv,vbin,vun,bnd,W3,W4,W5,zav,W6,W7,W8,W9,Wa,Wb,Wc,Value.oneCell',Wd,We,Wf,Wg,true_and,and_true,and_self,implies_true,Wh,Wi,Wj,Wk,false_implies,Wl,Wm,Wn,Wo,Wp,Wq,Wr,Ws,Wt,Wu,Wv,Ww,Wx,Wy,Wz,V0,V1,reduceCtorEq,if_true,if_false,V2,↓reduceIte,V3,V4,V5,V6,V7,V8,V9,ne_eq,not_false_eq_true,not_true_eq_false,Va,Vb,r8_0,r8_1,r8_2,r8_3,r8_4,r8_5,r8_6,r8_7,r8_8,r8_9,p8]) | (exfalso; omega)
  all_goals first | done | trace_state
end Go.Proofs.Ytpecmhdepggnoaa
