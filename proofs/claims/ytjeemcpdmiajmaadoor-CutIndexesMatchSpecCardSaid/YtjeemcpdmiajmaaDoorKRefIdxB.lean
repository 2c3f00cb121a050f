/- The reference's index: headendref4's IndexBytes, by the machine on data. -/
import Derived.Test.YtjeemcpdmiajmaaDoorKRefIdxC
namespace Go.Proofs.YtjeemcpdmiajmaaDoor
open Go.RowKit Go.Lib
open Go.Proofs.YtjeemcpdmiajmaaDoor renaming done_eq → Z0, done_eq' → Z1, donet_eq → Z2, donet_eq' → Z3, fin_val → Z4, fin_tup → Z5, fin_agg → Z6, fin_ro → Z7, res_one → Z8, res_more → Z9, rv_t → Za, rv_c → Zb, rv_l → Zc, int_eq → Zg, bool_eq → Zh, toNat_pred → Zr, toNat_succ → Zs, cnd_t → Zu, cnd_f → Zv, grd_tt → Zw, grd_u → Zx, grd_tf → Zy, grd_ft → Zz, grd_ff → Y0, g_skip → Y1, g_ops → Y2, g_seq → Y3, g_block → Y4, g_exit → Y5, g_ret → Y6, x_c → Y7, x_o → Y8, x_l → Y9, x_b → Ya, g_b → Yb, g_nil → Yc, r_all → Yd, o_nil → Ye, g_cond → Yf, o_guard → Yg, o_call → Yh, o_callm → Yi, o_callt → Yj, o_callx → Yk, o_callv → Yl, o_mv → Ym, o_pick → Yn, o_bin → Yo, o_never → Yp, o_eqs → Yq, o_eqb → Yr, o_un → Ys, o_conv → Yt, o_load → Yu, o_loadr → Yv, o_idxr → Yw, o_loads → Yx, o_fld → Yy, o_idx → Yz, o_idxs → X0, o_len → X1, o_lens → X2, o_ext → X3, o_nilck → X4, o_slc → X5, o_slcs → X6, o_build → X7, o_minmax → X8, o_mkfn → X9, o_alloc → Xa, o_box → Xb, o_boxs → Xc, o_row → Xd, o_rowr → Xe, o_mk → Xf, o_asg → Xg, o_app → Xh, o_store → Xi, o_stores → Xj, o_eqnil → Xk, eqAV → Xl, view_t → Xm, view_c → Xn, view_nil → Xo, view_fn → Xp, look_own → Xq, look_box → Xr, look_junk → Xs, look_val → Xt, look_nilsl → Xu, look_ro → Xv, look_roAt → Xw, look_agg → Xx, look_tup → Xy, look_clo → Xz, look_alias → W0, look_ref → W1, look_into → W2, rowOf → W3, cellsOf → W4, argv → W5, vbin → W6, vun → W7, bnd → W8, elemOf → W9, putParts → Wa, setAt → Wb, zav → Wc, put_at → Wj, mk_at → Wk, mk_nil → Wl, initSt → Wm, wk_cons → Vh, wk_nil → Vi, vint_eq → Vj, vbool_eq → Vk
open Go.Proofs.YtjeemcpdmiajmaaDoor.AV.tup renaming injEq → Zd
open Go.Proofs.YtjeemcpdmiajmaaDoor.AV.agg renaming injEq → Ze
open Go.Proofs.YtjeemcpdmiajmaaDoor.AV.ro renaming injEq → Zf
open _root_.Int renaming toNat_natCast → Zi, reduceToNat → Zj, toNat_zero → Zk, toNat_one → Zl, reduceLE → Zm, reduceLT → Zn, reduceBEq → Zo, reduceBNe → Zp, reduceNeg → Zq
open _root_.List renaming length_map → Zt, map_cons → Wn, map_nil → Wo, forall_mem_cons → Wp, not_mem_nil → Wq, length_cons → Wr, length_nil → Ws, getD_cons_zero → Wt, getD_cons_succ → Wu, getD_nil → Wv, drop_succ_cons → Ww, drop_zero → Wx, take_succ_cons → Wy, take_zero → Wz, set_cons_zero → V0, set_cons_succ → V1, all_cons → V2, all_nil → V3
open Go.Proofs.YtjeemcpdmiajmaaDoor.ASt renaming rid → Wd, free → We
open Go.Proofs.YtjeemcpdmiajmaaDoor.AV renaming kill → Wf, isHome → Wg, noLoan → Wh, cellOK → Wi
open _root_.Bool renaming and_true → V4, true_and → V5, not_true → V6, not_false → V7, false_eq_true → V8
open _root_.Nat renaming reduceEqDiff → V9, reduceAdd → Va, reduceSub → Vb, reduceMul → Vc, reduceLeDiff → Vd, reduceLT → Ve, one_ne_zero → Vf, zero_ne_one → Vg
open Go.Proofs.YtjeemcpdmiajmaaDoor.AV.val renaming injEq → Vl
set_option linter.unusedSimpArgs false
--@short

theorem map_oneU (A B : List Nat) : A.map oneU ++ B.map oneU = (A ++ B).map oneU := by rw [List.map_append]
theorem bytes_len' (b : List Nat) : (∀ x ∈ b.map oneU, x.length = 1) = True := by
  refine eq_true fun x hx => ?_
  obtain ⟨n, _, rfl⟩ := List.mem_map.1 hx
  rfl
/-! headend/headendref4.IndexBytes -/
def r5_0 : List POp := [⟨4, .asg .nil, none⟩,
  ⟨5, .asg (.c (.int .i64 0)), none⟩]
def r5_1 : List POp := [⟨11, .mv (.t 0), none⟩,
  ⟨12, .mv (.t 1), none⟩,
  ⟨13, .call 14 [.t 11, .t 12], none⟩,
  ⟨6, .asg (.t 13), none⟩]
def r5_2 : List POp := [⟨14, .mv (.t 6), none⟩,
  ⟨15, .bin .neq (.t 14) (.c (.int .i64 0)), none⟩]
def r5_3 : List POp := [⟨16, .mv (.t 6), none⟩,
  ⟨4, .asg .nil, none⟩,
  ⟨5, .mv (.t 16), none⟩]
def r5_4 : List POp := [⟨7, .asg (.c (.int .i64 0)), none⟩,
  ⟨8, .asg (.c (.int .i64 0)), none⟩]
def r5_5 : List POp := [⟨17, .mv (.t 0), none⟩,
  ⟨18, .len (.t 17), none⟩,
  ⟨19, .bin .gtr (.t 18) (.c (.int .i64 0)), none⟩]
def r5_6 : List POp := [⟨20, .mv (.t 0), none⟩,
  ⟨21, .idx 7 (.t 20) (.c (.int .i64 0)), none⟩,
  ⟨22, .fld 0 (.t 21), none⟩,
  ⟨23, .load (.t 22), none⟩,
  ⟨7, .asg (.t 23), none⟩]
def r5_7 : List POp := [⟨25, .mv (.t 0), none⟩,
  ⟨26, .idx 7 (.t 25) (.c (.int .i64 0)), none⟩,
  ⟨27, .loads 7 (.t 26), none⟩,
  ⟨28, .call 15 [.t 27], none⟩,
  ⟨24, .mv (.t 28), none⟩,
  ⟨29, .ext 0 (.t 24), none⟩,
  ⟨30, .ext 1 (.t 24), none⟩,
  ⟨8, .mv (.t 29), none⟩]
def r5_8 : List POp := [⟨31, .mv (.t 1), none⟩,
  ⟨32, .call 16 [.t 31, .c (.int .i64 4)], none⟩,
  ⟨9, .asg (.t 32), none⟩]
def r5_9 : List POp := [⟨33, .mv (.t 9), none⟩,
  ⟨34, .mv (.t 7), none⟩,
  ⟨35, .call 16 [.t 34, .c (.int .i64 8)], none⟩,
  ⟨36, .app 5 1 1 (.t 33) (.t 35), none⟩,
  ⟨9, .asg (.t 36), none⟩]
def r5_10 : List POp := [⟨37, .mv (.t 9), none⟩,
  ⟨38, .mv (.t 8), none⟩,
  ⟨39, .call 16 [.t 38, .c (.int .i64 8)], none⟩,
  ⟨40, .app 5 1 1 (.t 37) (.t 39), none⟩,
  ⟨9, .asg (.t 40), none⟩]
def r5_11 : List POp := [⟨41, .mv (.t 9), none⟩,
  ⟨42, .mv (.t 0), none⟩,
  ⟨43, .len (.t 42), none⟩,
  ⟨44, .call 16 [.t 43, .c (.int .i64 2)], none⟩,
  ⟨45, .app 5 1 1 (.t 41) (.t 44), none⟩,
  ⟨9, .asg (.t 45), none⟩]
def r5_12 : List POp := [⟨10, .asg (.c (.int .i64 0)), none⟩]
def r5_13 : List POp := [⟨46, .mv (.t 10), none⟩,
  ⟨47, .mv (.t 0), none⟩,
  ⟨48, .len (.t 47), none⟩,
  ⟨49, .bin .lss (.t 46) (.t 48), none⟩]
def r5_15 : List POp := [⟨52, .mv (.t 9), none⟩,
  ⟨53, .mv (.t 0), none⟩,
  ⟨54, .mv (.t 10), none⟩,
  ⟨55, .idx 7 (.t 53) (.t 54), none⟩,
  ⟨56, .fld 5 (.t 55), none⟩,
  ⟨57, .load (.t 56), none⟩,
  ⟨58, .call 16 [.t 57, .c (.int .i64 4)], none⟩,
  ⟨59, .app 5 1 1 (.t 52) (.t 58), none⟩,
  ⟨9, .asg (.t 59), none⟩]
def r5_16 : List POp := [⟨60, .mv (.t 9), none⟩,
  ⟨61, .mv (.t 0), none⟩,
  ⟨62, .mv (.t 10), none⟩,
  ⟨63, .idx 7 (.t 61) (.t 62), none⟩,
  ⟨64, .fld 4 (.t 63), none⟩,
  ⟨65, .load (.t 64), none⟩,
  ⟨66, .call 16 [.t 65, .c (.int .i64 4)], none⟩,
  ⟨67, .app 5 1 1 (.t 60) (.t 66), none⟩,
  ⟨9, .asg (.t 67), none⟩]
def r5_14 : List POp := [⟨50, .mv (.t 10), none⟩,
  ⟨51, .bin .add (.t 50) (.c (.int .i64 1)), none⟩,
  ⟨10, .asg (.t 51), none⟩]
def r5_17 : List POp := [⟨68, .mv (.t 9), none⟩,
  ⟨4, .asg (.t 68), none⟩,
  ⟨5, .asg (.c (.int .i64 0)), none⟩]
def l5_0 : PCode := .seq (.seq (.ops r5_13) (.cond (.t 49) (.skip) (.exit 0))) (.seq (.block 1 (.seq (.ops r5_15) (.ops r5_16))) (.ops r5_14))
def p5 : PCode := .seq (.ops r5_0) (.seq (.seq (.ops r5_1) (.seq (.ops r5_2) (.cond (.t 15) (.seq (.ops r5_3) (.ret)) (.skip)))) (.seq (.ops r5_4) (.seq (.seq (.ops r5_5) (.cond (.t 19) (.seq (.ops r5_6) (.ops r5_7)) (.skip))) (.seq (.ops r5_8) (.seq (.ops r5_9) (.seq (.ops r5_10) (.seq (.ops r5_11) (.seq (.seq (.ops r5_12) (.block 0 (.loop l5_0))) (.seq (.ops r5_17) (.ret))))))))))
theorem ok5 : okFunc Tryd.prog 5 [.t 4, .t 5] 2 p5 = true := by kernel_rfl
set_option maxHeartbeats 4000000 in
theorem ridx_c (l : List Seg) (scale : Int) (hl : l.length ≤ 9223372036854775807) (hI : ∀ s ∈ l, SegI s) : CallOK Tryd.prog 5 [.ro (l.map Seg.av), .val (.int .i64 scale)] (.tup [.ro ((idxF l scale).1.map oneU), .val (.int .i64 (idxF l scale).2)]) := by
  refine call_of mixed ok5 rfl ?_
  have hx := rix_c l scale hl hI
  by_cases h0 : ixF l scale = 0
  case neg =>
    rw [show idxF l scale = ([], ixF l scale) from by rw [idxF, if_pos h0]]
    have hb0 := bne0_t h0
    have hb1 := beq0_f h0
    generalize ixF l scale = e at *
    repeat' first | ((with_reducible (first | refine condD ?_ ?_ | refine condE ?_ ?_ | refine condN ?_ ?_ | refine condI ?_ ?_ | refine condS ?_ ?_)) <;> intro h) | ((with_reducible (first | refine guardD (by with_unfolding_all rfl) ?_ ?_ | refine guardE (by with_unfolding_all rfl) ?_ ?_ | refine guardN (by with_unfolding_all rfl) ?_ ?_ | refine guardI (by with_unfolding_all rfl) ?_ ?_ | refine guardS (by with_unfolding_all rfl) ?_ ?_)) <;> intro h) | ((refine callG hx ?_)) | (with_reducible refine And.intro ?_ ?_; omega) | (simp only [Z0,Z1,Z2,Z3,Z4,Z5,Z6,Z7,Z8,Z9,Za,Zb,Zc,Zd,Ze,Zf,List.cons.injEq,Zg,Zh,Zi,Zj,Zk,Zl,Zm,Zn,Zo,Zp,beq_self_eq_true,bne_self_eq_false,decide_true,decide_false,Zq,Zr,Zs,Zt,Zu,Zv,Zw,Zx,Zy,Zz,Y0,Y1,Y2,Y3,Y4,Y5,Y6,Y7,Y8,Y9,Ya,Yb,Yc,Yd,Ye,Yf,Yg,Yh,Yi,Yj,Yk,Yl,lk,ef,Ym,Yn,Yo,Yp,Yq,Yr,Ys,Yt,Yu,Yv,Yw,Yx,Yy,Yz,X0,X1,X2,X3,X4,X5,X6,X7,X8,X9,Xa,Xb,Xc,Xd,Xe,Xf,Xg,Xh,Xi,Xj,Xk,hv,Xl,ev,Xm,Xn,Xo,Xp,Xq,Xr,Xs,Xt,Xu,Xv,Xw,Xx,Xy,Xz,W0,W1,W2,W3,W4,W5,W6,W7,W8,W9,Wa,Wb,Wc,Wd,We,Wf,Wg,Wh,Wi,Value.oneCell',Wj,Wk,Wl,Wm,true_and,and_true,and_self,implies_true,Wn,Wo,Wp,Wq,false_implies,Wr,Ws,Wt,Wu,Wv,Ww,Wx,Wy,Wz,V0,V1,V2,V3,V4,V5,V6,V7,reduceCtorEq,if_true,if_false,V8,↓reduceIte,V9,Va,Vb,Vc,Vd,Ve,ne_eq,not_false_eq_true,not_true_eq_false,Vf,Vg,r5_0,r5_1,r5_2,r5_3,r5_4,r5_5,r5_6,r5_7,r5_8,r5_9,r5_10,r5_11,r5_12,r5_13,r5_15,r5_16,r5_14,r5_17,p5,hb0,hb1]) | (exfalso; omega)
    all_goals first | done | simp
  rw [show idxF l scale = (idxB l scale, 0) from by rw [idxF, if_neg (by simp [h0])]]
  rw [h0] at hx
  obtain ⟨_, hl1, hgo⟩ := ixF_0 h0
  obtain ⟨H, hH⟩ : ∃ H, beB (u64 scale) 4 ++ beB (u64 (numOf l)) 8 ++ beB (u64 (begOf l)) 8 ++ beB (u64 l.length) 2 = H := ⟨_, rfl⟩
  have hHl : H.length = 22 := by rw [← hH]; simp only [List.length_append, beB_len]
  have hidx : idxB l scale = H ++ l.flatMap segB := by rw [← hH]; rfl
  rw [hidx]
  have a1 := written_c scale 4 (by omega)
  have a2 := written_c (numOf l) 8 (by omega)
  have a3 := written_c (begOf l) 8 (by omega)
  have a4 := written_c (l.length : Int) 2 (by omega)
  have l1 := beB_len (u64 scale) 4
  have l2 := beB_len (u64 (numOf l)) 8
  have l3 := beB_len (u64 (begOf l)) 8
  have l4 := beB_len (u64 l.length) 2
  generalize beB (u64 scale) 4 = A1 at *
  generalize beB (u64 l.length) 2 = A4 at *
  clear hidx
  by_cases hz : 0 < l.length
  · have hzi : (0 : Int) < l.length := by omega
    have g0 := getD_map (f := Seg.av) (d := []) hz
    have hb := begins_c l[0] (hI _ (List.getElem_mem hz))
    have hn0 : numOf l = l[0].number := by
      cases l with
      | nil => simp at hz
      | cons s r => rfl
    have hb0 : begOf l = begV l[0] := by
      rw [begV_ok (ixGo_out hgo _ (List.getElem_mem hz))]
      cases l with
      | nil => simp at hz
      | cons s r => rfl
    simp only [Seg.av] at g0 hb
    rw [← hn0] at g0
    rw [← hn0, ← hb0] at hb
    generalize beB (u64 (numOf l)) 8 = A2 at *
    generalize beB (u64 (begOf l)) 8 = A3 at *
    generalize numOf l = num at *
    generalize begOf l = bg at *
    generalize sumB l[0].beg l[0].lead = okb at *
    repeat' first | ((with_reducible (first | refine condD ?_ ?_ | refine condE ?_ ?_ | refine condN ?_ ?_ | refine condI ?_ ?_ | refine condS ?_ ?_)) <;> intro h) | ((with_reducible (first | refine guardD (by with_unfolding_all rfl) ?_ ?_ | refine guardE (by with_unfolding_all rfl) ?_ ?_ | refine guardN (by with_unfolding_all rfl) ?_ ?_ | refine guardI (by with_unfolding_all rfl) ?_ ?_ | refine guardS (by with_unfolding_all rfl) ?_ ?_)) <;> intro h) | ((refine callG hx ?_)) | ((refine callG hb ?_)) | ((refine callG a1 ?_)) | ((refine callG a2 ?_)) | ((refine callG a3 ?_)) | ((refine callG a4 ?_)) | (with_reducible refine And.intro ?_ ?_; omega) | (simp only [Z0,Z1,Z2,Z3,Z4,Z5,Z6,Z7,Z8,Z9,Za,Zb,Zc,Zd,Ze,Zf,List.cons.injEq,Zg,Zh,Zi,Zj,Zk,Zl,Zm,Zn,Zo,Zp,beq_self_eq_true,bne_self_eq_false,decide_true,decide_false,Zq,Zr,Zs,Zt,Zu,Zv,Zw,Zx,Zy,Zz,Y0,Y1,Y2,Y3,Y4,Y5,Y6,Y7,Y8,Y9,Ya,Yb,Yc,Yd,Ye,Yf,Yg,Yh,Yi,Yj,Yk,Yl,lk,ef,Ym,Yn,Yo,Yp,Yq,Yr,Ys,Yt,Yu,Yv,Yw,Yx,Yy,Yz,X0,X1,X2,X3,X4,X5,X6,X7,X8,X9,Xa,Xb,Xc,Xd,Xe,Xf,Xg,Xh,Xi,Xj,Xk,hv,Xl,ev,Xm,Xn,Xo,Xp,Xq,Xr,Xs,Xt,Xu,Xv,Xw,Xx,Xy,Xz,W0,W1,W2,W3,W4,W5,W6,W7,W8,W9,Wa,Wb,Wc,Wd,We,Wf,Wg,Wh,Wi,Value.oneCell',Wj,Wk,Wl,Wm,true_and,and_true,and_self,implies_true,Wn,Wo,Wp,Wq,false_implies,Wr,Ws,Wt,Wu,Wv,Ww,Wx,Wy,Wz,V0,V1,V2,V3,V4,V5,V6,V7,reduceCtorEq,if_true,if_false,V8,↓reduceIte,V9,Va,Vb,Vc,Vd,Ve,ne_eq,not_false_eq_true,not_true_eq_false,Vf,Vg,r5_0,r5_1,r5_2,r5_3,r5_4,r5_5,r5_6,r5_7,r5_8,r5_9,r5_10,r5_11,r5_12,r5_13,r5_15,r5_16,r5_14,r5_17,p5,hzi,hz,g0,bytes_len',map_oneU,hH,Zt,List.length_append,l1,l2,l3,l4]) | (exfalso; omega)
    refine loopS (fun k : Nat => mk [(0, .ro (l.map Seg.av)), (9, .own 5 1 ((H ++ (l.take k).flatMap segB).map oneU)), (10, .val (.int .i64 k))]) (fun k => k ≤ l.length) (fun k => l.length - k) 0 (weak_mk ?_) (Nat.zero_le _) ?_
    · simp only [Vh,Vi,wk1,Vj,Vk,Vl,Z0,Z1,Z2,Z3,Z4,Z5,Z6,Z7,Z8,Z9,Za,Zb,Zc,Zd,Ze,Zf,List.cons.injEq,Zg,Zh,Zi,Zj,Zk,Zl,Zm,Zn,Zo,Zp,beq_self_eq_true,bne_self_eq_false,decide_true,decide_false,Zq,Zr,Zs,Zt,Zu,Zv,Zw,Zx,Zy,Zz,Y0,Y1,Y2,Y3,Y4,Y5,Y6,Y7,Y8,Y9,Ya,Yb,Yc,Yd,Ye,Yf,Yg,Yh,Yi,Yj,Yk,Yl,lk,ef,Ym,Yn,Yo,Yp,Yq,Yr,Ys,Yt,Yu,Yv,Yw,Yx,Yy,Yz,X0,X1,X2,X3,X4,X5,X6,X7,X8,X9,Xa,Xb,Xc,Xd,Xe,Xf,Xg,Xh,Xi,Xj,Xk,hv,Xl,ev,Xm,Xn,Xo,Xp,Xq,Xr,Xs,Xt,Xu,Xv,Xw,Xx,Xy,Xz,W0,W1,W2,W3,W4,W5,W6,W7,W8,W9,Wa,Wb,Wc,Wd,We,Wf,Wg,Wh,Wi,Value.oneCell',Wj,Wk,Wl,Wm,true_and,and_true,and_self,implies_true,Wn,Wo,Wp,Wq,false_implies,Wr,Ws,Wt,Wu,Wv,Ww,Wx,Wy,Wz,V0,V1,V2,V3,V4,V5,V6,V7,reduceCtorEq,if_true,if_false,V8,↓reduceIte,V9,Va,Vb,Vc,Vd,Ve,ne_eq,not_false_eq_true,not_true_eq_false,Vf,Nat.zero_ne_one]
      all_goals first | done | rfl | simp
    rintro J hJ k hk
    simp only [Z0,Z1,Z2,Z3,Z4,Z5,Z6,Z7,Z8,Z9,Za,Zb,Zc,Zd,Ze,Zf,List.cons.injEq,Zg,Zh,Zi,Zj,Zk,Zl,Zm,Zn,Zo,Zp,beq_self_eq_true,bne_self_eq_false,decide_true,decide_false,Zq,Zr,Zs,Zt,Zu,Zv,Zw,Zx,Zy,Zz,Y0,Y1,Y2,Y3,Y4,Y5,Y6,Y7,Y8,Y9,Ya,Yb,Yc,Yd,Ye,Yf,Yg,Yh,Yi,Yj,Yk,Yl,lk,ef,Ym,Yn,Yo,Yp,Yq,Yr,Ys,Yt,Yu,Yv,Yw,Yx,Yy,Yz,X0,X1,X2,X3,X4,X5,X6,X7,X8,X9,Xa,Xb,Xc,Xd,Xe,Xf,Xg,Xh,Xi,Xj,Xk,hv,Xl,ev,Xm,Xn,Xo,Xp,Xq,Xr,Xs,Xt,Xu,Xv,Xw,Xx,Xy,Xz,W0,W1,W2,W3,W4,W5,W6,W7,W8,W9,Wa,Wb,Wc,Wd,We,Wf,Wg,Wh,Wi,Value.oneCell',Wj,Wk,Wl,Wm,true_and,and_true,and_self,implies_true,Wn,Wo,Wp,Wq,false_implies,Wr,Ws,Wt,Wu,Wv,Ww,Wx,Wy,Wz,V0,V1,V2,V3,V4,V5,V6,V7,reduceCtorEq,if_true,if_false,V8,↓reduceIte,V9,Va,Vb,Vc,Vd,Ve,ne_eq,not_false_eq_true,not_true_eq_false,Vf,Vg,r5_0,r5_1,r5_2,r5_3,r5_4,r5_5,r5_6,r5_7,r5_8,r5_9,r5_10,r5_11,r5_12,r5_13,r5_15,r5_16,r5_14,r5_17,p5,l5_0,List.length_map]
    refine condD (fun h => ?_) (fun h => ?_)
    · have hlt : k < l.length := by omega
      have hw := i_add1 k (by omega)
      have gK := getD_map (f := Seg.av) (d := []) hlt
      have hki : (k : Int) < l.length := by omega
      have hki0 : (0 : Int) ≤ k := by omega
      simp only [Seg.av] at gK
      have hlen := segsB_len (l.take k)
      rw [List.length_take, Nat.min_eq_left hk] at hlen
      have b1 := written_c l[k].bytes 4 (by omega)
      have b2 := written_c l[k].len 4 (by omega)
      have m1 := beB_len (u64 l[k].bytes) 4
      have m2 := beB_len (u64 l[k].len) 4
      have hnext : H ++ (l.take k).flatMap segB ++ beB (u64 l[k].bytes) 4 ++ beB (u64 l[k].len) 4 = H ++ (l.take (k + 1)).flatMap segB := by
        rw [List.take_succ_eq_append_getElem hlt, List.flatMap_append]; simp [segB]
      have hOl : (H ++ (l.take k).flatMap segB).length = 22 + 8 * k := by rw [List.length_append, hHl, hlen]
      generalize H ++ (l.take k).flatMap segB = O at *
      generalize beB (u64 l[k].bytes) 4 = B1 at *
      generalize beB (u64 l[k].len) 4 = B2 at *
      repeat' first | ((with_reducible (first | refine condD ?_ ?_ | refine condE ?_ ?_ | refine condN ?_ ?_ | refine condI ?_ ?_ | refine condS ?_ ?_)) <;> intro h) | ((with_reducible (first | refine guardD (by with_unfolding_all rfl) ?_ ?_ | refine guardE (by with_unfolding_all rfl) ?_ ?_ | refine guardN (by with_unfolding_all rfl) ?_ ?_ | refine guardI (by with_unfolding_all rfl) ?_ ?_ | refine guardS (by with_unfolding_all rfl) ?_ ?_)) <;> intro h) | ((refine callG b1 ?_)) | ((refine callG b2 ?_)) | (with_reducible refine And.intro ?_ ?_; omega) | (simp only [Z0,Z1,Z2,Z3,Z4,Z5,Z6,Z7,Z8,Z9,Za,Zb,Zc,Zd,Ze,Zf,List.cons.injEq,Zg,Zh,Zi,Zj,Zk,Zl,Zm,Zn,Zo,Zp,beq_self_eq_true,bne_self_eq_false,decide_true,decide_false,Zq,Zr,Zs,Zt,Zu,Zv,Zw,Zx,Zy,Zz,Y0,Y1,Y2,Y3,Y4,Y5,Y6,Y7,Y8,Y9,Ya,Yb,Yc,Yd,Ye,Yf,Yg,Yh,Yi,Yj,Yk,Yl,lk,ef,Ym,Yn,Yo,Yp,Yq,Yr,Ys,Yt,Yu,Yv,Yw,Yx,Yy,Yz,X0,X1,X2,X3,X4,X5,X6,X7,X8,X9,Xa,Xb,Xc,Xd,Xe,Xf,Xg,Xh,Xi,Xj,Xk,hv,Xl,ev,Xm,Xn,Xo,Xp,Xq,Xr,Xs,Xt,Xu,Xv,Xw,Xx,Xy,Xz,W0,W1,W2,W3,W4,W5,W6,W7,W8,W9,Wa,Wb,Wc,Wd,We,Wf,Wg,Wh,Wi,Value.oneCell',Wj,Wk,Wl,Wm,true_and,and_true,and_self,implies_true,Wn,Wo,Wp,Wq,false_implies,Wr,Ws,Wt,Wu,Wv,Ww,Wx,Wy,Wz,V0,V1,V2,V3,V4,V5,V6,V7,reduceCtorEq,if_true,if_false,V8,↓reduceIte,V9,Va,Vb,Vc,Vd,Ve,ne_eq,not_false_eq_true,not_true_eq_false,Vf,Vg,r5_0,r5_1,r5_2,r5_3,r5_4,r5_5,r5_6,r5_7,r5_8,r5_9,r5_10,r5_11,r5_12,r5_13,r5_15,r5_16,r5_14,r5_17,p5,l5_0,gK,hw,hki,hki0,bytes_len',map_oneU,hnext,Zt,List.length_append,hOl,m1,m2]) | (exfalso; omega)
      all_goals first | omega | exact again hJ (k + 1) (weak_mk (by simp only [Vh,Vi,wk1,Vj,Vk,Vl,Z0,Z1,Z2,Z3,Z4,Z5,Z6,Z7,Z8,Z9,Za,Zb,Zc,Zd,Ze,Zf,List.cons.injEq,Zg,Zh,Zi,Zj,Zk,Zl,Zm,Zn,Zo,Zp,beq_self_eq_true,bne_self_eq_false,decide_true,decide_false,Zq,Zr,Zs,Zt,Zu,Zv,Zw,Zx,Zy,Zz,Y0,Y1,Y2,Y3,Y4,Y5,Y6,Y7,Y8,Y9,Ya,Yb,Yc,Yd,Ye,Yf,Yg,Yh,Yi,Yj,Yk,Yl,lk,ef,Ym,Yn,Yo,Yp,Yq,Yr,Ys,Yt,Yu,Yv,Yw,Yx,Yy,Yz,X0,X1,X2,X3,X4,X5,X6,X7,X8,X9,Xa,Xb,Xc,Xd,Xe,Xf,Xg,Xh,Xi,Xj,Xk,hv,Xl,ev,Xm,Xn,Xo,Xp,Xq,Xr,Xs,Xt,Xu,Xv,Xw,Xx,Xy,Xz,W0,W1,W2,W3,W4,W5,W6,W7,W8,W9,Wa,Wb,Wc,Wd,We,Wf,Wg,Wh,Wi,Value.oneCell',Wj,Wk,Wl,Wm,true_and,and_true,and_self,implies_true,Wn,Wo,Wp,Wq,false_implies,Wr,Ws,Wt,Wu,Wv,Ww,Wx,Wy,Wz,V0,V1,V2,V3,V4,V5,V6,V7,reduceCtorEq,if_true,if_false,V8,↓reduceIte,V9,Va,Vb,Vc,Vd,Ve,ne_eq,not_false_eq_true,not_true_eq_false,Vf,Nat.zero_ne_one]; first | done | rfl)) (by omega) (by omega)
    · have hke : k = l.length := by omega
      subst hke
      rw [List.take_length]
      clear hJ
      repeat' first | ((with_reducible (first | refine condD ?_ ?_ | refine condE ?_ ?_ | refine condN ?_ ?_ | refine condI ?_ ?_ | refine condS ?_ ?_)) <;> intro h) | ((with_reducible (first | refine guardD (by with_unfolding_all rfl) ?_ ?_ | refine guardE (by with_unfolding_all rfl) ?_ ?_ | refine guardN (by with_unfolding_all rfl) ?_ ?_ | refine guardI (by with_unfolding_all rfl) ?_ ?_ | refine guardS (by with_unfolding_all rfl) ?_ ?_)) <;> intro h) | (with_reducible refine And.intro ?_ ?_; omega) | (simp only [Z0,Z1,Z2,Z3,Z4,Z5,Z6,Z7,Z8,Z9,Za,Zb,Zc,Zd,Ze,Zf,List.cons.injEq,Zg,Zh,Zi,Zj,Zk,Zl,Zm,Zn,Zo,Zp,beq_self_eq_true,bne_self_eq_false,decide_true,decide_false,Zq,Zr,Zs,Zt,Zu,Zv,Zw,Zx,Zy,Zz,Y0,Y1,Y2,Y3,Y4,Y5,Y6,Y7,Y8,Y9,Ya,Yb,Yc,Yd,Ye,Yf,Yg,Yh,Yi,Yj,Yk,Yl,lk,ef,Ym,Yn,Yo,Yp,Yq,Yr,Ys,Yt,Yu,Yv,Yw,Yx,Yy,Yz,X0,X1,X2,X3,X4,X5,X6,X7,X8,X9,Xa,Xb,Xc,Xd,Xe,Xf,Xg,Xh,Xi,Xj,Xk,hv,Xl,ev,Xm,Xn,Xo,Xp,Xq,Xr,Xs,Xt,Xu,Xv,Xw,Xx,Xy,Xz,W0,W1,W2,W3,W4,W5,W6,W7,W8,W9,Wa,Wb,Wc,Wd,We,Wf,Wg,Wh,Wi,Value.oneCell',Wj,Wk,Wl,Wm,true_and,and_true,and_self,implies_true,Wn,Wo,Wp,Wq,false_implies,Wr,Ws,Wt,Wu,Wv,Ww,Wx,Wy,Wz,V0,V1,V2,V3,V4,V5,V6,V7,reduceCtorEq,if_true,if_false,V8,↓reduceIte,V9,Va,Vb,Vc,Vd,Ve,ne_eq,not_false_eq_true,not_true_eq_false,Vf,Vg,r5_0,r5_1,r5_2,r5_3,r5_4,r5_5,r5_6,r5_7,r5_8,r5_9,r5_10,r5_11,r5_12,r5_13,r5_15,r5_16,r5_14,r5_17,p5,l5_0]) | (exfalso; omega)
  · have hl0 : l = [] := List.eq_nil_of_length_eq_zero (by omega)
    have hzi : ¬ (0 : Int) < l.length := by omega
    have hn0 : numOf l = 0 := by rw [hl0]; rfl
    have hb0 : begOf l = 0 := by rw [hl0]; rfl
    clear hl0
    rw [hn0] at hH a2 l2
    rw [hb0] at hH a3 l3
    generalize hA2 : beB (u64 0) 8 = A2 at *
    repeat' first | ((with_reducible (first | refine condD ?_ ?_ | refine condE ?_ ?_ | refine condN ?_ ?_ | refine condI ?_ ?_ | refine condS ?_ ?_)) <;> intro h) | ((with_reducible (first | refine guardD (by with_unfolding_all rfl) ?_ ?_ | refine guardE (by with_unfolding_all rfl) ?_ ?_ | refine guardN (by with_unfolding_all rfl) ?_ ?_ | refine guardI (by with_unfolding_all rfl) ?_ ?_ | refine guardS (by with_unfolding_all rfl) ?_ ?_)) <;> intro h) | ((refine callG hx ?_)) | ((refine callG a1 ?_)) | ((refine callG a2 ?_)) | ((refine callG a3 ?_)) | ((refine callG a4 ?_)) | (with_reducible refine And.intro ?_ ?_; omega) | (simp only [Z0,Z1,Z2,Z3,Z4,Z5,Z6,Z7,Z8,Z9,Za,Zb,Zc,Zd,Ze,Zf,List.cons.injEq,Zg,Zh,Zi,Zj,Zk,Zl,Zm,Zn,Zo,Zp,beq_self_eq_true,bne_self_eq_false,decide_true,decide_false,Zq,Zr,Zs,Zt,Zu,Zv,Zw,Zx,Zy,Zz,Y0,Y1,Y2,Y3,Y4,Y5,Y6,Y7,Y8,Y9,Ya,Yb,Yc,Yd,Ye,Yf,Yg,Yh,Yi,Yj,Yk,Yl,lk,ef,Ym,Yn,Yo,Yp,Yq,Yr,Ys,Yt,Yu,Yv,Yw,Yx,Yy,Yz,X0,X1,X2,X3,X4,X5,X6,X7,X8,X9,Xa,Xb,Xc,Xd,Xe,Xf,Xg,Xh,Xi,Xj,Xk,hv,Xl,ev,Xm,Xn,Xo,Xp,Xq,Xr,Xs,Xt,Xu,Xv,Xw,Xx,Xy,Xz,W0,W1,W2,W3,W4,W5,W6,W7,W8,W9,Wa,Wb,Wc,Wd,We,Wf,Wg,Wh,Wi,Value.oneCell',Wj,Wk,Wl,Wm,true_and,and_true,and_self,implies_true,Wn,Wo,Wp,Wq,false_implies,Wr,Ws,Wt,Wu,Wv,Ww,Wx,Wy,Wz,V0,V1,V2,V3,V4,V5,V6,V7,reduceCtorEq,if_true,if_false,V8,↓reduceIte,V9,Va,Vb,Vc,Vd,Ve,ne_eq,not_false_eq_true,not_true_eq_false,Vf,Vg,r5_0,r5_1,r5_2,r5_3,r5_4,r5_5,r5_6,r5_7,r5_8,r5_9,r5_10,r5_11,r5_12,r5_13,r5_15,r5_16,r5_14,r5_17,p5,hzi,bytes_len',map_oneU,hH,Zt,List.length_append,l1,l2,l3,l4]) | (exfalso; omega)
    refine loopS (fun k : Nat => mk [(0, .ro (l.map Seg.av)), (9, .own 5 1 ((H ++ (l.take k).flatMap segB).map oneU)), (10, .val (.int .i64 k))]) (fun k => k ≤ l.length) (fun k => l.length - k) 0 (weak_mk ?_) (Nat.zero_le _) ?_
    · simp only [Vh,Vi,wk1,Vj,Vk,Vl,Z0,Z1,Z2,Z3,Z4,Z5,Z6,Z7,Z8,Z9,Za,Zb,Zc,Zd,Ze,Zf,List.cons.injEq,Zg,Zh,Zi,Zj,Zk,Zl,Zm,Zn,Zo,Zp,beq_self_eq_true,bne_self_eq_false,decide_true,decide_false,Zq,Zr,Zs,Zt,Zu,Zv,Zw,Zx,Zy,Zz,Y0,Y1,Y2,Y3,Y4,Y5,Y6,Y7,Y8,Y9,Ya,Yb,Yc,Yd,Ye,Yf,Yg,Yh,Yi,Yj,Yk,Yl,lk,ef,Ym,Yn,Yo,Yp,Yq,Yr,Ys,Yt,Yu,Yv,Yw,Yx,Yy,Yz,X0,X1,X2,X3,X4,X5,X6,X7,X8,X9,Xa,Xb,Xc,Xd,Xe,Xf,Xg,Xh,Xi,Xj,Xk,hv,Xl,ev,Xm,Xn,Xo,Xp,Xq,Xr,Xs,Xt,Xu,Xv,Xw,Xx,Xy,Xz,W0,W1,W2,W3,W4,W5,W6,W7,W8,W9,Wa,Wb,Wc,Wd,We,Wf,Wg,Wh,Wi,Value.oneCell',Wj,Wk,Wl,Wm,true_and,and_true,and_self,implies_true,Wn,Wo,Wp,Wq,false_implies,Wr,Ws,Wt,Wu,Wv,Ww,Wx,Wy,Wz,V0,V1,V2,V3,V4,V5,V6,V7,reduceCtorEq,if_true,if_false,V8,↓reduceIte,V9,Va,Vb,Vc,Vd,Ve,ne_eq,not_false_eq_true,not_true_eq_false,Vf,Nat.zero_ne_one]
      all_goals first | done | rfl | simp
    rintro J hJ k hk
    simp only [Z0,Z1,Z2,Z3,Z4,Z5,Z6,Z7,Z8,Z9,Za,Zb,Zc,Zd,Ze,Zf,List.cons.injEq,Zg,Zh,Zi,Zj,Zk,Zl,Zm,Zn,Zo,Zp,beq_self_eq_true,bne_self_eq_false,decide_true,decide_false,Zq,Zr,Zs,Zt,Zu,Zv,Zw,Zx,Zy,Zz,Y0,Y1,Y2,Y3,Y4,Y5,Y6,Y7,Y8,Y9,Ya,Yb,Yc,Yd,Ye,Yf,Yg,Yh,Yi,Yj,Yk,Yl,lk,ef,Ym,Yn,Yo,Yp,Yq,Yr,Ys,Yt,Yu,Yv,Yw,Yx,Yy,Yz,X0,X1,X2,X3,X4,X5,X6,X7,X8,X9,Xa,Xb,Xc,Xd,Xe,Xf,Xg,Xh,Xi,Xj,Xk,hv,Xl,ev,Xm,Xn,Xo,Xp,Xq,Xr,Xs,Xt,Xu,Xv,Xw,Xx,Xy,Xz,W0,W1,W2,W3,W4,W5,W6,W7,W8,W9,Wa,Wb,Wc,Wd,We,Wf,Wg,Wh,Wi,Value.oneCell',Wj,Wk,Wl,Wm,true_and,and_true,and_self,implies_true,Wn,Wo,Wp,Wq,false_implies,Wr,Ws,Wt,Wu,Wv,Ww,Wx,Wy,Wz,V0,V1,V2,V3,V4,V5,V6,V7,reduceCtorEq,if_true,if_false,V8,↓reduceIte,V9,Va,Vb,Vc,Vd,Ve,ne_eq,not_false_eq_true,not_true_eq_false,Vf,Vg,r5_0,r5_1,r5_2,r5_3,r5_4,r5_5,r5_6,r5_7,r5_8,r5_9,r5_10,r5_11,r5_12,r5_13,r5_15,r5_16,r5_14,r5_17,p5,l5_0,List.length_map]
    refine condD (fun h => ?_) (fun h => ?_)
    · have hlt : k < l.length := by omega
      have hw := i_add1 k (by omega)
      have gK := getD_map (f := Seg.av) (d := []) hlt
      have hki : (k : Int) < l.length := by omega
      have hki0 : (0 : Int) ≤ k := by omega
      simp only [Seg.av] at gK
      have hlen := segsB_len (l.take k)
      rw [List.length_take, Nat.min_eq_left hk] at hlen
      have b1 := written_c l[k].bytes 4 (by omega)
      have b2 := written_c l[k].len 4 (by omega)
      have m1 := beB_len (u64 l[k].bytes) 4
      have m2 := beB_len (u64 l[k].len) 4
      have hnext : H ++ (l.take k).flatMap segB ++ beB (u64 l[k].bytes) 4 ++ beB (u64 l[k].len) 4 = H ++ (l.take (k + 1)).flatMap segB := by
        rw [List.take_succ_eq_append_getElem hlt, List.flatMap_append]; simp [segB]
      have hOl : (H ++ (l.take k).flatMap segB).length = 22 + 8 * k := by rw [List.length_append, hHl, hlen]
      generalize H ++ (l.take k).flatMap segB = O at *
      generalize beB (u64 l[k].bytes) 4 = B1 at *
      generalize beB (u64 l[k].len) 4 = B2 at *
      repeat' first | ((with_reducible (first | refine condD ?_ ?_ | refine condE ?_ ?_ | refine condN ?_ ?_ | refine condI ?_ ?_ | refine condS ?_ ?_)) <;> intro h) | ((with_reducible (first | refine guardD (by with_unfolding_all rfl) ?_ ?_ | refine guardE (by with_unfolding_all rfl) ?_ ?_ | refine guardN (by with_unfolding_all rfl) ?_ ?_ | refine guardI (by with_unfolding_all rfl) ?_ ?_ | refine guardS (by with_unfolding_all rfl) ?_ ?_)) <;> intro h) | ((refine callG b1 ?_)) | ((refine callG b2 ?_)) | (with_reducible refine And.intro ?_ ?_; omega) | (simp only [Z0,Z1,Z2,Z3,Z4,Z5,Z6,Z7,Z8,Z9,Za,Zb,Zc,Zd,Ze,Zf,List.cons.injEq,Zg,Zh,Zi,Zj,Zk,Zl,Zm,Zn,Zo,Zp,beq_self_eq_true,bne_self_eq_false,decide_true,decide_false,Zq,Zr,Zs,Zt,Zu,Zv,Zw,Zx,Zy,Zz,Y0,Y1,Y2,Y3,Y4,Y5,Y6,Y7,Y8,Y9,Ya,Yb,Yc,Yd,Ye,Yf,Yg,Yh,Yi,Yj,Yk,Yl,lk,ef,Ym,Yn,Yo,Yp,Yq,Yr,Ys,Yt,Yu,Yv,Yw,Yx,Yy,Yz,X0,X1,X2,X3,X4,X5,X6,X7,X8,X9,Xa,Xb,Xc,Xd,Xe,Xf,Xg,Xh,Xi,Xj,Xk,hv,Xl,ev,Xm,Xn,Xo,Xp,Xq,Xr,Xs,Xt,Xu,Xv,Xw,Xx,Xy,Xz,W0,W1,W2,W3,W4,W5,W6,W7,W8,W9,Wa,Wb,Wc,Wd,We,Wf,Wg,Wh,Wi,Value.oneCell',Wj,Wk,Wl,Wm,true_and,and_true,and_self,implies_true,Wn,Wo,Wp,Wq,false_implies,Wr,Ws,Wt,Wu,Wv,Ww,Wx,Wy,Wz,V0,V1,V2,V3,V4,V5,V6,V7,reduceCtorEq,if_true,if_false,V8,↓reduceIte,V9,Va,Vb,Vc,Vd,Ve,ne_eq,not_false_eq_true,not_true_eq_false,Vf,Vg,r5_0,r5_1,r5_2,r5_3,r5_4,r5_5,r5_6,r5_7,r5_8,r5_9,r5_10,r5_11,r5_12,r5_13,r5_15,r5_16,r5_14,r5_17,p5,l5_0,gK,hw,hki,hki0,bytes_len',map_oneU,hnext,Zt,List.length_append,hOl,m1,m2]) | (exfalso; omega)
      all_goals first | omega | exact again hJ (k + 1) (weak_mk (by simp only [Vh,Vi,wk1,Vj,Vk,Vl,Z0,Z1,Z2,Z3,Z4,Z5,Z6,Z7,Z8,Z9,Za,Zb,Zc,Zd,Ze,Zf,List.cons.injEq,Zg,Zh,Zi,Zj,Zk,Zl,Zm,Zn,Zo,Zp,beq_self_eq_true,bne_self_eq_false,decide_true,decide_false,Zq,Zr,Zs,Zt,Zu,Zv,Zw,Zx,Zy,Zz,Y0,Y1,Y2,Y3,Y4,Y5,Y6,Y7,Y8,Y9,Ya,Yb,Yc,Yd,Ye,Yf,Yg,Yh,Yi,Yj,Yk,Yl,lk,ef,Ym,Yn,Yo,Yp,Yq,Yr,Ys,Yt,Yu,Yv,Yw,Yx,Yy,Yz,X0,X1,X2,X3,X4,X5,X6,X7,X8,X9,Xa,Xb,Xc,Xd,Xe,Xf,Xg,Xh,Xi,Xj,Xk,hv,Xl,ev,Xm,Xn,Xo,Xp,Xq,Xr,Xs,Xt,Xu,Xv,Xw,Xx,Xy,Xz,W0,W1,W2,W3,W4,W5,W6,W7,W8,W9,Wa,Wb,Wc,Wd,We,Wf,Wg,Wh,Wi,Value.oneCell',Wj,Wk,Wl,Wm,true_and,and_true,and_self,implies_true,Wn,Wo,Wp,Wq,false_implies,Wr,Ws,Wt,Wu,Wv,Ww,Wx,Wy,Wz,V0,V1,V2,V3,V4,V5,V6,V7,reduceCtorEq,if_true,if_false,V8,↓reduceIte,V9,Va,Vb,Vc,Vd,Ve,ne_eq,not_false_eq_true,not_true_eq_false,Vf,Nat.zero_ne_one]; first | done | rfl)) (by omega) (by omega)
    · have hke : k = l.length := by omega
      subst hke
      rw [List.take_length]
      clear hJ
      repeat' first | ((with_reducible (first | refine condD ?_ ?_ | refine condE ?_ ?_ | refine condN ?_ ?_ | refine condI ?_ ?_ | refine condS ?_ ?_)) <;> intro h) | ((with_reducible (first | refine guardD (by with_unfolding_all rfl) ?_ ?_ | refine guardE (by with_unfolding_all rfl) ?_ ?_ | refine guardN (by with_unfolding_all rfl) ?_ ?_ | refine guardI (by with_unfolding_all rfl) ?_ ?_ | refine guardS (by with_unfolding_all rfl) ?_ ?_)) <;> intro h) | (with_reducible refine And.intro ?_ ?_; omega) | (simp only [Z0,Z1,Z2,Z3,Z4,Z5,Z6,Z7,Z8,Z9,Za,Zb,Zc,Zd,Ze,Zf,List.cons.injEq,Zg,Zh,Zi,Zj,Zk,Zl,Zm,Zn,Zo,Zp,beq_self_eq_true,bne_self_eq_false,decide_true,decide_false,Zq,Zr,Zs,Zt,Zu,Zv,Zw,Zx,Zy,Zz,Y0,Y1,Y2,Y3,Y4,Y5,Y6,Y7,Y8,Y9,Ya,Yb,Yc,Yd,Ye,Yf,Yg,Yh,Yi,Yj,Yk,Yl,lk,ef,Ym,Yn,Yo,Yp,Yq,Yr,Ys,Yt,Yu,Yv,Yw,Yx,Yy,Yz,X0,X1,X2,X3,X4,X5,X6,X7,X8,X9,Xa,Xb,Xc,Xd,Xe,Xf,Xg,Xh,Xi,Xj,Xk,hv,Xl,ev,Xm,Xn,Xo,Xp,Xq,Xr,Xs,Xt,Xu,Xv,Xw,Xx,Xy,Xz,W0,W1,W2,W3,W4,W5,W6,W7,W8,W9,Wa,Wb,Wc,Wd,We,Wf,Wg,Wh,Wi,Value.oneCell',Wj,Wk,Wl,Wm,true_and,and_true,and_self,implies_true,Wn,Wo,Wp,Wq,false_implies,Wr,Ws,Wt,Wu,Wv,Ww,Wx,Wy,Wz,V0,V1,V2,V3,V4,V5,V6,V7,reduceCtorEq,if_true,if_false,V8,↓reduceIte,V9,Va,Vb,Vc,Vd,Ve,ne_eq,not_false_eq_true,not_true_eq_false,Vf,Vg,r5_0,r5_1,r5_2,r5_3,r5_4,r5_5,r5_6,r5_7,r5_8,r5_9,r5_10,r5_11,r5_12,r5_13,r5_15,r5_16,r5_14,r5_17,p5,l5_0]) | (exfalso; omega)
end Go.Proofs.YtjeemcpdmiajmaaDoor
