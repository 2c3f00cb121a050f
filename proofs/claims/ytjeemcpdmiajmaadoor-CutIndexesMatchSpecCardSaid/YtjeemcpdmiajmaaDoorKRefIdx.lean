/- The reference's index: headendref4's begins, written, read, checkIndex, IndexBytes, by the machine on data. -/
import Derived.Test.YtjeemcpdmiajmaaDoorKRefIdxP
import Derived.Test.YtjeemcpdmiajmaaDoorKSlc
namespace Go.Proofs.YtjeemcpdmiajmaaDoor
open Go.RowKit Go.Lib
open Go.Proofs.YtjeemcpdmiajmaaDoor renaming done_eq → Z0, done_eq' → Z1, donet_eq → Z2, donet_eq' → Z3, fin_val → Z4, fin_tup → Z5, fin_agg → Z6, fin_ro → Z7, res_one → Z8, res_more → Z9, rv_t → Za, rv_c → Zb, rv_l → Zc, int_eq → Zg, bool_eq → Zh, toNat_pred → Zr, toNat_succ → Zs, cnd_t → Zu, cnd_f → Zv, grd_tt → Zw, grd_u → Zx, grd_tf → Zy, grd_ft → Zz, grd_ff → Y0, g_skip → Y1, g_ops → Y2, g_seq → Y3, g_block → Y4, g_exit → Y5, g_ret → Y6, x_c → Y7, x_o → Y8, x_l → Y9, x_b → Ya, g_b → Yb, g_nil → Yc, r_all → Yd, o_nil → Ye, g_cond → Yf, o_guard → Yg, o_call → Yh, o_callm → Yi, o_callt → Yj, o_callx → Yk, o_callv → Yl, o_mv → Ym, o_pick → Yn, o_bin → Yo, o_never → Yp, o_eqs → Yq, o_eqb → Yr, o_un → Ys, o_conv → Yt, o_load → Yu, o_loadr → Yv, o_idxr → Yw, o_loads → Yx, o_fld → Yy, o_idx → Yz, o_idxs → X0, o_len → X1, o_lens → X2, o_ext → X3, o_nilck → X4, o_slc → X5, o_slcs → X6, o_build → X7, o_minmax → X8, o_mkfn → X9, o_alloc → Xa, o_box → Xb, o_boxs → Xc, o_row → Xd, o_rowr → Xe, o_mk → Xf, o_asg → Xg, o_app → Xh, o_store → Xi, o_stores → Xj, o_eqnil → Xk, eqAV → Xl, view_t → Xm, view_c → Xn, view_nil → Xo, view_fn → Xp, look_own → Xq, look_box → Xr, look_junk → Xs, look_val → Xt, look_nilsl → Xu, look_ro → Xv, look_roAt → Xw, look_agg → Xx, look_tup → Xy, look_clo → Xz, look_alias → W0, look_ref → W1, look_into → W2, rowOf → W3, cellsOf → W4, argv → W5, vbin → W6, vun → W7, bnd → W8, elemOf → W9, putParts → Wa, setAt → Wb, zav → Wc, put_at → Wj, mk_at → Wk, mk_nil → Wl, initSt → Wm, wk_cons → Vh, wk_nil → Vi, vint_eq → Vj, vbool_eq → Vk
open Go.Proofs.YtjeemcpdmiajmaaDoor.AV.tup renaming injEq → Zd
open Go.Proofs.YtjeemcpdmiajmaaDoor.AV.agg renaming injEq → Ze
open Go.Proofs.YtjeemcpdmiajmaaDoor.AV.ro renaming injEq → Zf
open _root_.Int renaming toNat_natCast → Zi, reduceToNat → Zj, toNat_zero → Zk, toNat_one → Zl, reduceLE → Zm, reduceLT → Zn, reduceBEq → Zo, reduceBNe → Zp, reduceNeg → Zq
open _root_.List renaming length_map → Zt, map_cons → Wn, map_nil → Wo, forall_mem_cons → Wp, not_mem_nil → Wq, length_cons → Wr, length_nil → Ws, getD_cons_zero → Wt, getD_cons_succ → Wu, getD_nil → Wv, drop_succ_cons → Ww, drop_zero → Wx, take_succ_cons → Wy, take_zero → Wz, set_cons_zero → V0, set_cons_succ → V1, all_cons → V2, all_nil → V3
open Go.Proofs.YtjeemcpdmiajmaaDoor.ASt renaming rid → Wd, free → We
open Go.Proofs.YtjeemcpdmiajmaaDoor.AV renaming kill → Wf, isHome → Wg, noLoan → Wh, cellOK → Wi
open _root_.Bool renaming and_true → V4, true_and → V5, not_true → V6, not_false → V7, false_eq_true → V8
open _root_.Nat renaming reduceEqDiff → V9, reduceAdd → Va, reduceSub → Vb, reduceMul → Vc, reduceLeDiff → Vd, reduceLT → Ve, one_ne_zero → Vf, zero_ne_one → Vg
open Go.Proofs.YtjeemcpdmiajmaaDoor.AV.val renaming injEq → Vl
set_option linter.unusedSimpArgs false
--@short

theorem lm_s10 {n : Nat} (h : n < 10000 ^ 10) : (lm n).length ≤ 10 := lm_len h
/-! headend/headendref4.begins -/
def r15_0 : List POp := [⟨1, .boxs (.t 0), none⟩,
  ⟨2, .asg (.c (.int .i64 0)), none⟩,
  ⟨3, .asg (.c (.bool false)), none⟩]
def r15_1 : List POp := [⟨4, .fld 3 (.t 1), none⟩,
  ⟨5, .load (.t 4), none⟩,
  ⟨6, .call 26 [.t 5], none⟩,
  ⟨7, .fld 6 (.t 1), none⟩,
  ⟨8, .load (.t 7), none⟩,
  ⟨9, .call 26 [.t 8], none⟩,
  ⟨10, .call 25 [.t 6, .t 9], none⟩,
  ⟨11, .call 24 [.t 10, .c (.int .i64 1), .c (.int .i64 1000000000000000)], none⟩,
  ⟨12, .ext 0 (.t 11), none⟩,
  ⟨13, .ext 1 (.t 11), none⟩,
  ⟨2, .asg (.t 12), none⟩,
  ⟨3, .asg (.t 13), none⟩]
def p15 : PCode := .seq (.ops r15_0) (.seq (.ops r15_1) (.ret))
theorem ok15 : okFunc Tryd.prog 15 [.t 2, .t 3] 1 p15 = true := by kernel_rfl
theorem begins_c (s : Seg) (hI : SegI s) : CallOK Tryd.prog 15 [.agg s.av] (.tup [.val (.int .i64 (begV s)), .val (.bool (sumB s.beg s.lead))]) := by
  refine call_of mixed ok15 rfl ?_
  obtain ⟨⟨h1, h2⟩, h3, h4⟩ := hI
  have i1 := int_c s.beg h1 h2
  have i2 := int_c s.lead h3 h4
  have l1 : (lm 1).length ≤ 400 := by rw [lm_1]; decide
  have p1 := plus_q s.beg s.lead 1 1 (by decide) (by decide) (Nat.le_trans (lm_s10 (by omega)) (by decide)) l1 (Nat.le_trans (lm_s10 (by omega)) (by decide)) l1
  rw [show s.beg * ((1 : Nat) : Int) + s.lead * ((1 : Nat) : Int) = s.beg + s.lead by omega, Nat.mul_one] at p1
  have r1 := round18_c (s.beg + s.lead) 1 1 1000000000000000 (by decide) (by decide) (Nat.le_trans (lm_s10 (by omega)) (by decide)) (Nat.le_trans l1 (by decide))
  rw [rnd_one] at r1
  have e2 : decide ((s.beg + s.lead).natAbs ≤ 1000000000000000) = sumB s.beg s.lead := by
    unfold sumB
    rw [← Bool.decide_and]
    exact decide_eq_decide.2 (by omega)
  have e1 : (if 1000000000000000 < (s.beg + s.lead).natAbs then (0 : Int) else if s.beg + s.lead < 0 then -((s.beg + s.lead).natAbs : Int) else ((s.beg + s.lead).natAbs : Int)) = begV s := by
    unfold begV
    rw [← e2]
    by_cases q : 1000000000000000 < (s.beg + s.lead).natAbs
    · rw [if_pos q, decide_eq_false (by omega), if_neg (by simp)]
    · rw [if_neg q, decide_eq_true (by omega), if_pos rfl]
      split <;> omega
  rw [e1, e2] at r1
  generalize begV s = v at *
  generalize sumB s.beg s.lead = ok at *
  generalize RQ (s.beg + s.lead) 1 = R3 at *
  generalize RQ s.beg 1 = R1 at *
  generalize RQ s.lead 1 = R2 at *
  clear e1 e2
  simp only [Seg.av]
  repeat' first | ((with_reducible (first | refine condD ?_ ?_ | refine condE ?_ ?_ | refine condN ?_ ?_ | refine condI ?_ ?_ | refine condS ?_ ?_)) <;> intro h) | ((with_reducible (first | refine guardD (by with_unfolding_all rfl) ?_ ?_ | refine guardE (by with_unfolding_all rfl) ?_ ?_ | refine guardN (by with_unfolding_all rfl) ?_ ?_ | refine guardI (by with_unfolding_all rfl) ?_ ?_ | refine guardS (by with_unfolding_all rfl) ?_ ?_)) <;> intro h) | ((refine callG i1 ?_)) | ((refine callG i2 ?_)) | ((refine callG p1 ?_)) | ((refine callG r1 ?_)) | (with_reducible refine And.intro ?_ ?_; omega) | (simp only [Z0,Z1,Z2,Z3,Z4,Z5,Z6,Z7,Z8,Z9,Za,Zb,Zc,Zd,Ze,Zf,List.cons.injEq,Zg,Zh,Zi,Zj,Zk,Zl,Zm,Zn,Zo,Zp,beq_self_eq_true,bne_self_eq_false,decide_true,decide_false,Zq,Zr,Zs,Zt,Zu,Zv,Zw,Zx,Zy,Zz,Y0,Y1,Y2,Y3,Y4,Y5,Y6,Y7,Y8,Y9,Ya,Yb,Yc,Yd,Ye,Yf,Yg,Yh,Yi,Yj,Yk,Yl,lk,ef,Ym,Yn,Yo,Yp,Yq,Yr,Ys,Yt,Yu,Yv,Yw,Yx,Yy,Yz,X0,X1,X2,X3,X4,X5,X6,X7,X8,X9,Xa,Xb,Xc,Xd,Xe,Xf,Xg,Xh,Xi,Xj,Xk,hv,Xl,ev,Xm,Xn,Xo,Xp,Xq,Xr,Xs,Xt,Xu,Xv,Xw,Xx,Xy,Xz,W0,W1,W2,W3,W4,W5,W6,W7,W8,W9,Wa,Wb,Wc,Wd,We,Wf,Wg,Wh,Wi,Value.oneCell',Wj,Wk,Wl,Wm,true_and,and_true,and_self,implies_true,Wn,Wo,Wp,Wq,false_implies,Wr,Ws,Wt,Wu,Wv,Ww,Wx,Wy,Wz,V0,V1,V2,V3,V4,V5,V6,V7,reduceCtorEq,if_true,if_false,V8,↓reduceIte,V9,Va,Vb,Vc,Vd,Ve,ne_eq,not_false_eq_true,not_true_eq_false,Vf,Vg,r15_0,r15_1,p15]) | (exfalso; omega)
/-! headend/headendref4.written -/
def r16_0 : List POp := [⟨4, .asg .nil, none⟩]
def r16_1 : List POp := [⟨8, .mv (.t 1), none⟩,
  ⟨9, .mk 5 1 1 [.int .u8 0] (.t 8) (.t 8), none⟩,
  ⟨5, .asg (.t 9), none⟩]
def r16_2 : List POp := [⟨10, .mv (.t 0), none⟩,
  ⟨11, .conv .u64 (.t 10), none⟩,
  ⟨6, .asg (.t 11), none⟩]
def r16_3 : List POp := [⟨12, .mv (.t 1), none⟩,
  ⟨13, .bin .sub (.t 12) (.c (.int .i64 1)), none⟩,
  ⟨7, .asg (.t 13), none⟩]
def r16_4 : List POp := [⟨14, .mv (.t 7), none⟩,
  ⟨15, .bin .geq (.t 14) (.c (.int .i64 0)), none⟩]
def r16_6 : List POp := [⟨18, .mv (.t 5), none⟩,
  ⟨19, .mv (.t 7), none⟩,
  ⟨20, .mv (.t 6), none⟩,
  ⟨21, .conv .u8 (.t 20), none⟩,
  ⟨22, .idx 1 (.t 18) (.t 19), none⟩,
  ⟨0, .store (.t 22) (.t 21), none⟩]
def r16_7 : List POp := [⟨23, .mv (.t 6), none⟩,
  ⟨24, .bin .quo (.t 23) (.c (.int .u64 256)), none⟩,
  ⟨6, .asg (.t 24), none⟩]
def r16_5 : List POp := [⟨16, .mv (.t 7), none⟩,
  ⟨17, .bin .sub (.t 16) (.c (.int .i64 1)), none⟩,
  ⟨7, .asg (.t 17), none⟩]
def r16_8 : List POp := [⟨25, .mv (.t 5), none⟩,
  ⟨4, .asg (.t 25), none⟩]
def l16_0 : PCode := .seq (.seq (.ops r16_4) (.cond (.t 15) (.skip) (.exit 0))) (.seq (.block 1 (.seq (.ops r16_6) (.ops r16_7))) (.ops r16_5))
def p16 : PCode := .seq (.ops r16_0) (.seq (.ops r16_1) (.seq (.ops r16_2) (.seq (.seq (.ops r16_3) (.block 0 (.loop l16_0))) (.seq (.ops r16_8) (.ret)))))
theorem ok16 : okFunc Tryd.prog 16 [.t 4] 2 p16 = true := by kernel_rfl
theorem written_c (n : Int) (k : Nat) (hk8 : k ≤ 8) : CallOK Tryd.prog 16 [.val (.int .i64 n), .val (.int .i64 k)] (.own 5 1 ((beB (u64 n) k).map oneU)) := by
  refine call_of mixed ok16 rfl ?_
  have hcv := conv_u64 n
  obtain ⟨m, hm⟩ : ∃ m, m = u64 n := ⟨_, rfl⟩
  have hmlt : m < 18446744073709551616 := by rw [hm]; exact u64_lt n
  rw [← hm] at hcv ⊢
  have w0 : IntKind.i64.wrap ((k : Int) - 1) = (k : Int) - 1 := wrap_in (by omega) (by omega)
  have hmk : (List.replicate k 0 ++ beB m (k - k)).map oneU = List.replicate k [.val (.int .u8 0)] := by
    rw [Nat.sub_self, beB, List.append_nil, List.map_replicate]; rfl
  repeat' first | ((with_reducible (first | refine condD ?_ ?_ | refine condE ?_ ?_ | refine condN ?_ ?_ | refine condI ?_ ?_ | refine condS ?_ ?_)) <;> intro h) | ((with_reducible (first | refine guardD (by with_unfolding_all rfl) ?_ ?_ | refine guardE (by with_unfolding_all rfl) ?_ ?_ | refine guardN (by with_unfolding_all rfl) ?_ ?_ | refine guardI (by with_unfolding_all rfl) ?_ ?_ | refine guardS (by with_unfolding_all rfl) ?_ ?_)) <;> intro h) | (with_reducible refine And.intro ?_ ?_; omega) | (simp only [Z0,Z1,Z2,Z3,Z4,Z5,Z6,Z7,Z8,Z9,Za,Zb,Zc,Zd,Ze,Zf,List.cons.injEq,Zg,Zh,Zi,Zj,Zk,Zl,Zm,Zn,Zo,Zp,beq_self_eq_true,bne_self_eq_false,decide_true,decide_false,Zq,Zr,Zs,Zt,Zu,Zv,Zw,Zx,Zy,Zz,Y0,Y1,Y2,Y3,Y4,Y5,Y6,Y7,Y8,Y9,Ya,Yb,Yc,Yd,Ye,Yf,Yg,Yh,Yi,Yj,Yk,Yl,lk,ef,Ym,Yn,Yo,Yp,Yq,Yr,Ys,Yt,Yu,Yv,Yw,Yx,Yy,Yz,X0,X1,X2,X3,X4,X5,X6,X7,X8,X9,Xa,Xb,Xc,Xd,Xe,Xf,Xg,Xh,Xi,Xj,Xk,hv,Xl,ev,Xm,Xn,Xo,Xp,Xq,Xr,Xs,Xt,Xu,Xv,Xw,Xx,Xy,Xz,W0,W1,W2,W3,W4,W5,W6,W7,W8,W9,Wa,Wb,Wc,Wd,We,Wf,Wg,Wh,Wi,Value.oneCell',Wj,Wk,Wl,Wm,true_and,and_true,and_self,implies_true,Wn,Wo,Wp,Wq,false_implies,Wr,Ws,Wt,Wu,Wv,Ww,Wx,Wy,Wz,V0,V1,V2,V3,V4,V5,V6,V7,reduceCtorEq,if_true,if_false,V8,↓reduceIte,V9,Va,Vb,Vc,Vd,Ve,ne_eq,not_false_eq_true,not_true_eq_false,Vf,Vg,r16_0,r16_1,r16_2,r16_3,r16_4,r16_6,r16_7,r16_5,r16_8,p16,hcv,w0]) | (exfalso; omega)
  refine loopS (fun a : Nat => mk [(5, .own 5 1 ((List.replicate a 0 ++ beB m (k - a)).map oneU)), (6, .val (.int .u64 (m / 256 ^ (k - a) : Nat))), (7, .val (.int .i64 ((a : Int) - 1)))]) (fun a => a ≤ k) (fun a => a) k (weak_mk ?_) (Nat.le_refl _) ?_
  · simp only [Vh,Vi,wk1,Vj,Vk,Vl,Z0,Z1,Z2,Z3,Z4,Z5,Z6,Z7,Z8,Z9,Za,Zb,Zc,Zd,Ze,Zf,List.cons.injEq,Zg,Zh,Zi,Zj,Zk,Zl,Zm,Zn,Zo,Zp,beq_self_eq_true,bne_self_eq_false,decide_true,decide_false,Zq,Zr,Zs,Zt,Zu,Zv,Zw,Zx,Zy,Zz,Y0,Y1,Y2,Y3,Y4,Y5,Y6,Y7,Y8,Y9,Ya,Yb,Yc,Yd,Ye,Yf,Yg,Yh,Yi,Yj,Yk,Yl,lk,ef,Ym,Yn,Yo,Yp,Yq,Yr,Ys,Yt,Yu,Yv,Yw,Yx,Yy,Yz,X0,X1,X2,X3,X4,X5,X6,X7,X8,X9,Xa,Xb,Xc,Xd,Xe,Xf,Xg,Xh,Xi,Xj,Xk,hv,Xl,ev,Xm,Xn,Xo,Xp,Xq,Xr,Xs,Xt,Xu,Xv,Xw,Xx,Xy,Xz,W0,W1,W2,W3,W4,W5,W6,W7,W8,W9,Wa,Wb,Wc,Wd,We,Wf,Wg,Wh,Wi,Value.oneCell',Wj,Wk,Wl,Wm,true_and,and_true,and_self,implies_true,Wn,Wo,Wp,Wq,false_implies,Wr,Ws,Wt,Wu,Wv,Ww,Wx,Wy,Wz,V0,V1,V2,V3,V4,V5,V6,V7,reduceCtorEq,if_true,if_false,V8,↓reduceIte,V9,Va,Vb,Vc,Vd,Ve,ne_eq,not_false_eq_true,not_true_eq_false,Vf,Nat.zero_ne_one]
    all_goals first | done | exact ⟨hmk.symm, by simp⟩ | (rw [hmk]; simp) | simp [hmk]
  rintro J hJ a ha
  simp only [Z0,Z1,Z2,Z3,Z4,Z5,Z6,Z7,Z8,Z9,Za,Zb,Zc,Zd,Ze,Zf,List.cons.injEq,Zg,Zh,Zi,Zj,Zk,Zl,Zm,Zn,Zo,Zp,beq_self_eq_true,bne_self_eq_false,decide_true,decide_false,Zq,Zr,Zs,Zt,Zu,Zv,Zw,Zx,Zy,Zz,Y0,Y1,Y2,Y3,Y4,Y5,Y6,Y7,Y8,Y9,Ya,Yb,Yc,Yd,Ye,Yf,Yg,Yh,Yi,Yj,Yk,Yl,lk,ef,Ym,Yn,Yo,Yp,Yq,Yr,Ys,Yt,Yu,Yv,Yw,Yx,Yy,Yz,X0,X1,X2,X3,X4,X5,X6,X7,X8,X9,Xa,Xb,Xc,Xd,Xe,Xf,Xg,Xh,Xi,Xj,Xk,hv,Xl,ev,Xm,Xn,Xo,Xp,Xq,Xr,Xs,Xt,Xu,Xv,Xw,Xx,Xy,Xz,W0,W1,W2,W3,W4,W5,W6,W7,W8,W9,Wa,Wb,Wc,Wd,We,Wf,Wg,Wh,Wi,Value.oneCell',Wj,Wk,Wl,Wm,true_and,and_true,and_self,implies_true,Wn,Wo,Wp,Wq,false_implies,Wr,Ws,Wt,Wu,Wv,Ww,Wx,Wy,Wz,V0,V1,V2,V3,V4,V5,V6,V7,reduceCtorEq,if_true,if_false,V8,↓reduceIte,V9,Va,Vb,Vc,Vd,Ve,ne_eq,not_false_eq_true,not_true_eq_false,Vf,Vg,r16_0,r16_1,r16_2,r16_3,r16_4,r16_6,r16_7,r16_5,r16_8,p16,l16_0]
  refine condD (fun h => ?_) (fun h => ?_)
  · obtain ⟨b, rfl⟩ : ∃ b, a = b + 1 := ⟨a - 1, by omega⟩
    have e1 : (((b + 1 : Nat) : Int) - 1) = b := by omega
    have wb : IntKind.i64.wrap ((b : Int) - 1) = (b : Int) - 1 := wrap_in (by omega) (by omega)
    have ek : k - b = (k - (b + 1)) + 1 := by omega
    obtain ⟨j, hj⟩ : ∃ j, j = k - (b + 1) := ⟨_, rfl⟩
    rw [← hj] at ek ⊢
    have hdiv : m / 256 ^ j ≤ m := Nat.div_le_self _ _
    have hby : IntKind.u8.wrap ((m / 256 ^ j : Nat) : Int) = ((m / 256 ^ j % 256 : Nat) : Int) := by rw [wrap_u8]; generalize m / 256 ^ j = q; omega
    have hq : IntKind.u64.wrap (((m / 256 ^ j : Nat) : Int).tdiv 256) = ((m / 256 ^ (j + 1) : Nat) : Int) := by
      have e2 : m / 256 ^ (j + 1) = m / 256 ^ j / 256 := by rw [Nat.pow_succ, Nat.div_div_eq_div_mul]
      rw [e2]
      generalize m / 256 ^ j = q at *
      have e3 : ((q : Nat) : Int).tdiv 256 = ((q / 256 : Nat) : Int) := by
        have := Int.ofNat_tdiv q 256
        exact this.symm
      rw [e3, wrap_u64]
      omega
    have hset : ((List.replicate (b + 1) 0 ++ beB m j).map oneU).set b [.val (.int .u8 ((m / 256 ^ j % 256 : Nat) : Int))] = (List.replicate b 0 ++ beB m (k - b)).map oneU := by
      rw [ek, beB, ← set_zero, List.map_set]
      rfl
    have hlen : ((List.replicate (b + 1) 0 ++ beB m j).map oneU).length = k := by rw [List.length_map, List.length_append, List.length_replicate, beB_len]; omega
    have hlen2 : (List.replicate (b + 1) 0 ++ beB m j).length = k := by rw [List.length_append, List.length_replicate, beB_len]; omega
    have gG := getD_map (f := oneU) (d := []) (show b < (List.replicate (b + 1) 0 ++ beB m j).length by rw [hlen2]; omega)
    simp only [oneU] at gG
    have hq2 : ((m / 256 ^ (k - b) : Nat) : Int) = ((m / 256 ^ (j + 1) : Nat) : Int) := by rw [ek]
    have b0 : (0 : Int) ≤ (b : Int) := by omega
    have b1 : (b : Int) < (k : Int) := by omega
    have bk : b < k := by omega
    simp only [e1]
    repeat' first | ((with_reducible (first | refine condD ?_ ?_ | refine condE ?_ ?_ | refine condN ?_ ?_ | refine condI ?_ ?_ | refine condS ?_ ?_)) <;> intro h) | ((with_reducible (first | refine guardD (by with_unfolding_all rfl) ?_ ?_ | refine guardE (by with_unfolding_all rfl) ?_ ?_ | refine guardN (by with_unfolding_all rfl) ?_ ?_ | refine guardI (by with_unfolding_all rfl) ?_ ?_ | refine guardS (by with_unfolding_all rfl) ?_ ?_)) <;> intro h) | (with_reducible refine And.intro ?_ ?_; omega) | (simp only [Z0,Z1,Z2,Z3,Z4,Z5,Z6,Z7,Z8,Z9,Za,Zb,Zc,Zd,Ze,Zf,List.cons.injEq,Zg,Zh,Zi,Zj,Zk,Zl,Zm,Zn,Zo,Zp,beq_self_eq_true,bne_self_eq_false,decide_true,decide_false,Zq,Zr,Zs,Zt,Zu,Zv,Zw,Zx,Zy,Zz,Y0,Y1,Y2,Y3,Y4,Y5,Y6,Y7,Y8,Y9,Ya,Yb,Yc,Yd,Ye,Yf,Yg,Yh,Yi,Yj,Yk,Yl,lk,ef,Ym,Yn,Yo,Yp,Yq,Yr,Ys,Yt,Yu,Yv,Yw,Yx,Yy,Yz,X0,X1,X2,X3,X4,X5,X6,X7,X8,X9,Xa,Xb,Xc,Xd,Xe,Xf,Xg,Xh,Xi,Xj,Xk,hv,Xl,ev,Xm,Xn,Xo,Xp,Xq,Xr,Xs,Xt,Xu,Xv,Xw,Xx,Xy,Xz,W0,W1,W2,W3,W4,W5,W6,W7,W8,W9,Wa,Wb,Wc,Wd,We,Wf,Wg,Wh,Wi,Value.oneCell',Wj,Wk,Wl,Wm,true_and,and_true,and_self,implies_true,Wn,Wo,Wp,Wq,false_implies,Wr,Ws,Wt,Wu,Wv,Ww,Wx,Wy,Wz,V0,V1,V2,V3,V4,V5,V6,V7,reduceCtorEq,if_true,if_false,V8,↓reduceIte,V9,Va,Vb,Vc,Vd,Ve,ne_eq,not_false_eq_true,not_true_eq_false,Vf,Vg,r16_0,r16_1,r16_2,r16_3,r16_4,r16_6,r16_7,r16_5,r16_8,p16,l16_0,hby,hq,gG,V0,hset,hlen,hlen2,wb,b0,b1,bk,List.length_map]) | (exfalso; omega)
    all_goals first | omega | exact again hJ b (weak_mk (by simp only [Vh,Vi,wk1,Vj,Vk,Vl,Z0,Z1,Z2,Z3,Z4,Z5,Z6,Z7,Z8,Z9,Za,Zb,Zc,Zd,Ze,Zf,List.cons.injEq,Zg,Zh,Zi,Zj,Zk,Zl,Zm,Zn,Zo,Zp,beq_self_eq_true,bne_self_eq_false,decide_true,decide_false,Zq,Zr,Zs,Zt,Zu,Zv,Zw,Zx,Zy,Zz,Y0,Y1,Y2,Y3,Y4,Y5,Y6,Y7,Y8,Y9,Ya,Yb,Yc,Yd,Ye,Yf,Yg,Yh,Yi,Yj,Yk,Yl,lk,ef,Ym,Yn,Yo,Yp,Yq,Yr,Ys,Yt,Yu,Yv,Yw,Yx,Yy,Yz,X0,X1,X2,X3,X4,X5,X6,X7,X8,X9,Xa,Xb,Xc,Xd,Xe,Xf,Xg,Xh,Xi,Xj,Xk,hv,Xl,ev,Xm,Xn,Xo,Xp,Xq,Xr,Xs,Xt,Xu,Xv,Xw,Xx,Xy,Xz,W0,W1,W2,W3,W4,W5,W6,W7,W8,W9,Wa,Wb,Wc,Wd,We,Wf,Wg,Wh,Wi,Value.oneCell',Wj,Wk,Wl,Wm,true_and,and_true,and_self,implies_true,Wn,Wo,Wp,Wq,false_implies,Wr,Ws,Wt,Wu,Wv,Ww,Wx,Wy,Wz,V0,V1,V2,V3,V4,V5,V6,V7,reduceCtorEq,if_true,if_false,V8,↓reduceIte,V9,Va,Vb,Vc,Vd,Ve,ne_eq,not_false_eq_true,not_true_eq_false,Vf,Nat.zero_ne_one]; first | done | exact hq2.symm | exact ⟨rfl, hq2.symm⟩ | (rw [hq2]) | simp [hq2])) (by omega) (by omega)
  · have ha0 : a = 0 := by omega
    subst ha0
    clear hJ
    have e0 : List.replicate 0 0 ++ beB m (k - 0) = beB m k := by simp
    rw [e0]
    repeat' first | ((with_reducible (first | refine condD ?_ ?_ | refine condE ?_ ?_ | refine condN ?_ ?_ | refine condI ?_ ?_ | refine condS ?_ ?_)) <;> intro h) | ((with_reducible (first | refine guardD (by with_unfolding_all rfl) ?_ ?_ | refine guardE (by with_unfolding_all rfl) ?_ ?_ | refine guardN (by with_unfolding_all rfl) ?_ ?_ | refine guardI (by with_unfolding_all rfl) ?_ ?_ | refine guardS (by with_unfolding_all rfl) ?_ ?_)) <;> intro h) | (with_reducible refine And.intro ?_ ?_; omega) | (simp only [Z0,Z1,Z2,Z3,Z4,Z5,Z6,Z7,Z8,Z9,Za,Zb,Zc,Zd,Ze,Zf,List.cons.injEq,Zg,Zh,Zi,Zj,Zk,Zl,Zm,Zn,Zo,Zp,beq_self_eq_true,bne_self_eq_false,decide_true,decide_false,Zq,Zr,Zs,Zt,Zu,Zv,Zw,Zx,Zy,Zz,Y0,Y1,Y2,Y3,Y4,Y5,Y6,Y7,Y8,Y9,Ya,Yb,Yc,Yd,Ye,Yf,Yg,Yh,Yi,Yj,Yk,Yl,lk,ef,Ym,Yn,Yo,Yp,Yq,Yr,Ys,Yt,Yu,Yv,Yw,Yx,Yy,Yz,X0,X1,X2,X3,X4,X5,X6,X7,X8,X9,Xa,Xb,Xc,Xd,Xe,Xf,Xg,Xh,Xi,Xj,Xk,hv,Xl,ev,Xm,Xn,Xo,Xp,Xq,Xr,Xs,Xt,Xu,Xv,Xw,Xx,Xy,Xz,W0,W1,W2,W3,W4,W5,W6,W7,W8,W9,Wa,Wb,Wc,Wd,We,Wf,Wg,Wh,Wi,Value.oneCell',Wj,Wk,Wl,Wm,true_and,and_true,and_self,implies_true,Wn,Wo,Wp,Wq,false_implies,Wr,Ws,Wt,Wu,Wv,Ww,Wx,Wy,Wz,V0,V1,V2,V3,V4,V5,V6,V7,reduceCtorEq,if_true,if_false,V8,↓reduceIte,V9,Va,Vb,Vc,Vd,Ve,ne_eq,not_false_eq_true,not_true_eq_false,Vf,Vg,r16_0,r16_1,r16_2,r16_3,r16_4,r16_6,r16_7,r16_5,r16_8,p16,l16_0]) | (exfalso; omega)
    all_goals exact fin_own (d := 5) rfl rfl
/-! headend/headendref4.read -/
def r18_0 : List POp := [⟨2, .asg (.c (.int .i64 0)), none⟩]
def r18_1 : List POp := [⟨3, .asg (.c (.int .u64 0)), none⟩]
def r18_2 : List POp := [⟨4, .asg (.c (.int .i64 0)), none⟩]
def r18_3 : List POp := [⟨5, .mv (.t 4), none⟩,
  ⟨6, .mv (.t 0), none⟩,
  ⟨7, .len (.t 6), none⟩,
  ⟨8, .bin .lss (.t 5) (.t 7), none⟩]
def r18_5 : List POp := [⟨11, .mv (.t 3), none⟩,
  ⟨12, .bin .mul (.t 11) (.c (.int .u64 256)), none⟩,
  ⟨13, .mv (.t 0), none⟩,
  ⟨14, .mv (.t 4), none⟩,
  ⟨15, .idx 1 (.t 13) (.t 14), none⟩,
  ⟨16, .load (.t 15), none⟩,
  ⟨17, .conv .u64 (.t 16), none⟩,
  ⟨18, .bin .add (.t 12) (.t 17), none⟩,
  ⟨3, .asg (.t 18), none⟩]
def r18_4 : List POp := [⟨9, .mv (.t 4), none⟩,
  ⟨10, .bin .add (.t 9) (.c (.int .i64 1)), none⟩,
  ⟨4, .asg (.t 10), none⟩]
def r18_6 : List POp := [⟨19, .mv (.t 3), none⟩,
  ⟨20, .conv .i64 (.t 19), none⟩,
  ⟨2, .asg (.t 20), none⟩]
def l18_0 : PCode := .seq (.seq (.ops r18_3) (.cond (.t 8) (.skip) (.exit 0))) (.seq (.block 1 (.ops r18_5)) (.ops r18_4))
def p18 : PCode := .seq (.ops r18_0) (.seq (.ops r18_1) (.seq (.seq (.ops r18_2) (.block 0 (.loop l18_0))) (.seq (.ops r18_6) (.ret))))
theorem ok18 : okFunc Tryd.prog 18 [.t 2] 1 p18 = true := by kernel_rfl
theorem read_r (b : List Nat) (hb : ∀ x ∈ b, x < 256) (hl : b.length ≤ 8) : CallOK Tryd.prog 18 [.ro (b.map oneU)] (.val (.int .i64 (s64 (beV b 0)))) := by
  refine call_of mixed ok18 rfl ?_
  repeat' first | ((with_reducible (first | refine condD ?_ ?_ | refine condE ?_ ?_ | refine condN ?_ ?_ | refine condI ?_ ?_ | refine condS ?_ ?_)) <;> intro h) | ((with_reducible (first | refine guardD (by with_unfolding_all rfl) ?_ ?_ | refine guardE (by with_unfolding_all rfl) ?_ ?_ | refine guardN (by with_unfolding_all rfl) ?_ ?_ | refine guardI (by with_unfolding_all rfl) ?_ ?_ | refine guardS (by with_unfolding_all rfl) ?_ ?_)) <;> intro h) | (with_reducible refine And.intro ?_ ?_; omega) | (simp only [Z0,Z1,Z2,Z3,Z4,Z5,Z6,Z7,Z8,Z9,Za,Zb,Zc,Zd,Ze,Zf,List.cons.injEq,Zg,Zh,Zi,Zj,Zk,Zl,Zm,Zn,Zo,Zp,beq_self_eq_true,bne_self_eq_false,decide_true,decide_false,Zq,Zr,Zs,Zt,Zu,Zv,Zw,Zx,Zy,Zz,Y0,Y1,Y2,Y3,Y4,Y5,Y6,Y7,Y8,Y9,Ya,Yb,Yc,Yd,Ye,Yf,Yg,Yh,Yi,Yj,Yk,Yl,lk,ef,Ym,Yn,Yo,Yp,Yq,Yr,Ys,Yt,Yu,Yv,Yw,Yx,Yy,Yz,X0,X1,X2,X3,X4,X5,X6,X7,X8,X9,Xa,Xb,Xc,Xd,Xe,Xf,Xg,Xh,Xi,Xj,Xk,hv,Xl,ev,Xm,Xn,Xo,Xp,Xq,Xr,Xs,Xt,Xu,Xv,Xw,Xx,Xy,Xz,W0,W1,W2,W3,W4,W5,W6,W7,W8,W9,Wa,Wb,Wc,Wd,We,Wf,Wg,Wh,Wi,Value.oneCell',Wj,Wk,Wl,Wm,true_and,and_true,and_self,implies_true,Wn,Wo,Wp,Wq,false_implies,Wr,Ws,Wt,Wu,Wv,Ww,Wx,Wy,Wz,V0,V1,V2,V3,V4,V5,V6,V7,reduceCtorEq,if_true,if_false,V8,↓reduceIte,V9,Va,Vb,Vc,Vd,Ve,ne_eq,not_false_eq_true,not_true_eq_false,Vf,Vg,r18_0,r18_1,r18_2,r18_3,r18_5,r18_4,r18_6,p18]) | (exfalso; omega)
  refine loopS (fun k : Nat => mk [(0, .ro (b.map oneU)), (3, .val (.int .u64 (beV (b.take k) 0 : Nat))), (4, .val (.int .i64 k))]) (fun k => k ≤ b.length) (fun k => b.length - k) 0 (weak_mk ?_) (Nat.zero_le _) ?_
  · simp only [Vh,Vi,wk1,Vj,Vk,Vl,Z0,Z1,Z2,Z3,Z4,Z5,Z6,Z7,Z8,Z9,Za,Zb,Zc,Zd,Ze,Zf,List.cons.injEq,Zg,Zh,Zi,Zj,Zk,Zl,Zm,Zn,Zo,Zp,beq_self_eq_true,bne_self_eq_false,decide_true,decide_false,Zq,Zr,Zs,Zt,Zu,Zv,Zw,Zx,Zy,Zz,Y0,Y1,Y2,Y3,Y4,Y5,Y6,Y7,Y8,Y9,Ya,Yb,Yc,Yd,Ye,Yf,Yg,Yh,Yi,Yj,Yk,Yl,lk,ef,Ym,Yn,Yo,Yp,Yq,Yr,Ys,Yt,Yu,Yv,Yw,Yx,Yy,Yz,X0,X1,X2,X3,X4,X5,X6,X7,X8,X9,Xa,Xb,Xc,Xd,Xe,Xf,Xg,Xh,Xi,Xj,Xk,hv,Xl,ev,Xm,Xn,Xo,Xp,Xq,Xr,Xs,Xt,Xu,Xv,Xw,Xx,Xy,Xz,W0,W1,W2,W3,W4,W5,W6,W7,W8,W9,Wa,Wb,Wc,Wd,We,Wf,Wg,Wh,Wi,Value.oneCell',Wj,Wk,Wl,Wm,true_and,and_true,and_self,implies_true,Wn,Wo,Wp,Wq,false_implies,Wr,Ws,Wt,Wu,Wv,Ww,Wx,Wy,Wz,V0,V1,V2,V3,V4,V5,V6,V7,reduceCtorEq,if_true,if_false,V8,↓reduceIte,V9,Va,Vb,Vc,Vd,Ve,ne_eq,not_false_eq_true,not_true_eq_false,Vf,Nat.zero_ne_one]
    all_goals first | done | rfl | exact ⟨rfl, rfl⟩ | simp [beV]
  rintro J hJ k hk
  simp only [Z0,Z1,Z2,Z3,Z4,Z5,Z6,Z7,Z8,Z9,Za,Zb,Zc,Zd,Ze,Zf,List.cons.injEq,Zg,Zh,Zi,Zj,Zk,Zl,Zm,Zn,Zo,Zp,beq_self_eq_true,bne_self_eq_false,decide_true,decide_false,Zq,Zr,Zs,Zt,Zu,Zv,Zw,Zx,Zy,Zz,Y0,Y1,Y2,Y3,Y4,Y5,Y6,Y7,Y8,Y9,Ya,Yb,Yc,Yd,Ye,Yf,Yg,Yh,Yi,Yj,Yk,Yl,lk,ef,Ym,Yn,Yo,Yp,Yq,Yr,Ys,Yt,Yu,Yv,Yw,Yx,Yy,Yz,X0,X1,X2,X3,X4,X5,X6,X7,X8,X9,Xa,Xb,Xc,Xd,Xe,Xf,Xg,Xh,Xi,Xj,Xk,hv,Xl,ev,Xm,Xn,Xo,Xp,Xq,Xr,Xs,Xt,Xu,Xv,Xw,Xx,Xy,Xz,W0,W1,W2,W3,W4,W5,W6,W7,W8,W9,Wa,Wb,Wc,Wd,We,Wf,Wg,Wh,Wi,Value.oneCell',Wj,Wk,Wl,Wm,true_and,and_true,and_self,implies_true,Wn,Wo,Wp,Wq,false_implies,Wr,Ws,Wt,Wu,Wv,Ww,Wx,Wy,Wz,V0,V1,V2,V3,V4,V5,V6,V7,reduceCtorEq,if_true,if_false,V8,↓reduceIte,V9,Va,Vb,Vc,Vd,Ve,ne_eq,not_false_eq_true,not_true_eq_false,Vf,Vg,r18_0,r18_1,r18_2,r18_3,r18_5,r18_4,r18_6,p18,l18_0,List.length_map]
  refine condD (fun h => ?_) (fun h => ?_)
  · have hlt : k < b.length := by omega
    have hw := i_add1 k (by omega)
    have gK := getD_map (f := oneU) (d := []) hlt
    simp only [oneU] at gK
    have hx := hb _ (List.getElem_mem hlt)
    have hs : beV (b.take (k + 1)) 0 = beV (b.take k) 0 * 256 + b[k] := by rw [List.take_succ_eq_append_getElem hlt, beV_snoc]
    have h8 := beV_lt (b.take (k + 1)) fun x hx => hb x (List.mem_of_mem_take hx)
    have hp : 256 ^ (b.take (k + 1)).length ≤ 256 ^ 8 := Nat.pow_le_pow_right (by decide) (by rw [List.length_take]; omega)
    have h64 : (256 : Nat) ^ 8 = 18446744073709551616 := by decide
    rw [hs] at h8
    generalize b[k] = x at *
    generalize beV (b.take k) 0 = v at *
    have w1 : IntKind.u64.wrap ((v : Int) * 256) = ((v * 256 : Nat) : Int) := by rw [wrap_u64]; omega
    have w2 : IntKind.u64.wrap ((x : Nat) : Int) = ((x : Nat) : Int) := by rw [wrap_u64]; omega
    have w3 : IntKind.u64.wrap (((v * 256 : Nat) : Int) + (x : Int)) = ((v * 256 + x : Nat) : Int) := by rw [wrap_u64]; omega
    have hki : (k : Int) < b.length := by omega
    repeat' first | ((with_reducible (first | refine condD ?_ ?_ | refine condE ?_ ?_ | refine condN ?_ ?_ | refine condI ?_ ?_ | refine condS ?_ ?_)) <;> intro h) | ((with_reducible (first | refine guardD (by with_unfolding_all rfl) ?_ ?_ | refine guardE (by with_unfolding_all rfl) ?_ ?_ | refine guardN (by with_unfolding_all rfl) ?_ ?_ | refine guardI (by with_unfolding_all rfl) ?_ ?_ | refine guardS (by with_unfolding_all rfl) ?_ ?_)) <;> intro h) | (with_reducible refine And.intro ?_ ?_; omega) | (simp only [Z0,Z1,Z2,Z3,Z4,Z5,Z6,Z7,Z8,Z9,Za,Zb,Zc,Zd,Ze,Zf,List.cons.injEq,Zg,Zh,Zi,Zj,Zk,Zl,Zm,Zn,Zo,Zp,beq_self_eq_true,bne_self_eq_false,decide_true,decide_false,Zq,Zr,Zs,Zt,Zu,Zv,Zw,Zx,Zy,Zz,Y0,Y1,Y2,Y3,Y4,Y5,Y6,Y7,Y8,Y9,Ya,Yb,Yc,Yd,Ye,Yf,Yg,Yh,Yi,Yj,Yk,Yl,lk,ef,Ym,Yn,Yo,Yp,Yq,Yr,Ys,Yt,Yu,Yv,Yw,Yx,Yy,Yz,X0,X1,X2,X3,X4,X5,X6,X7,X8,X9,Xa,Xb,Xc,Xd,Xe,Xf,Xg,Xh,Xi,Xj,Xk,hv,Xl,ev,Xm,Xn,Xo,Xp,Xq,Xr,Xs,Xt,Xu,Xv,Xw,Xx,Xy,Xz,W0,W1,W2,W3,W4,W5,W6,W7,W8,W9,Wa,Wb,Wc,Wd,We,Wf,Wg,Wh,Wi,Value.oneCell',Wj,Wk,Wl,Wm,true_and,and_true,and_self,implies_true,Wn,Wo,Wp,Wq,false_implies,Wr,Ws,Wt,Wu,Wv,Ww,Wx,Wy,Wz,V0,V1,V2,V3,V4,V5,V6,V7,reduceCtorEq,if_true,if_false,V8,↓reduceIte,V9,Va,Vb,Vc,Vd,Ve,ne_eq,not_false_eq_true,not_true_eq_false,Vf,Vg,r18_0,r18_1,r18_2,r18_3,r18_5,r18_4,r18_6,p18,l18_0,gK,w1,w2,w3,hw,hki,List.length_map]) | (exfalso; omega)
    all_goals first | omega | exact again hJ (k + 1) (weak_mk (by simp only [Vh,Vi,wk1,Vj,Vk,Vl,Z0,Z1,Z2,Z3,Z4,Z5,Z6,Z7,Z8,Z9,Za,Zb,Zc,Zd,Ze,Zf,List.cons.injEq,Zg,Zh,Zi,Zj,Zk,Zl,Zm,Zn,Zo,Zp,beq_self_eq_true,bne_self_eq_false,decide_true,decide_false,Zq,Zr,Zs,Zt,Zu,Zv,Zw,Zx,Zy,Zz,Y0,Y1,Y2,Y3,Y4,Y5,Y6,Y7,Y8,Y9,Ya,Yb,Yc,Yd,Ye,Yf,Yg,Yh,Yi,Yj,Yk,Yl,lk,ef,Ym,Yn,Yo,Yp,Yq,Yr,Ys,Yt,Yu,Yv,Yw,Yx,Yy,Yz,X0,X1,X2,X3,X4,X5,X6,X7,X8,X9,Xa,Xb,Xc,Xd,Xe,Xf,Xg,Xh,Xi,Xj,Xk,hv,Xl,ev,Xm,Xn,Xo,Xp,Xq,Xr,Xs,Xt,Xu,Xv,Xw,Xx,Xy,Xz,W0,W1,W2,W3,W4,W5,W6,W7,W8,W9,Wa,Wb,Wc,Wd,We,Wf,Wg,Wh,Wi,Value.oneCell',Wj,Wk,Wl,Wm,true_and,and_true,and_self,implies_true,Wn,Wo,Wp,Wq,false_implies,Wr,Ws,Wt,Wu,Wv,Ww,Wx,Wy,Wz,V0,V1,V2,V3,V4,V5,V6,V7,reduceCtorEq,if_true,if_false,V8,↓reduceIte,V9,Va,Vb,Vc,Vd,Ve,ne_eq,not_false_eq_true,not_true_eq_false,Vf,Nat.zero_ne_one]; first | done | rw [hs])) (by omega) (by omega)
  · have hke : k = b.length := by omega
    subst hke
    rw [List.take_length]
    clear hJ
    have e : IntKind.i64.wrap ((beV b 0 : Nat) : Int) = s64 (beV b 0) := rfl
    repeat' first | ((with_reducible (first | refine condD ?_ ?_ | refine condE ?_ ?_ | refine condN ?_ ?_ | refine condI ?_ ?_ | refine condS ?_ ?_)) <;> intro h) | ((with_reducible (first | refine guardD (by with_unfolding_all rfl) ?_ ?_ | refine guardE (by with_unfolding_all rfl) ?_ ?_ | refine guardN (by with_unfolding_all rfl) ?_ ?_ | refine guardI (by with_unfolding_all rfl) ?_ ?_ | refine guardS (by with_unfolding_all rfl) ?_ ?_)) <;> intro h) | (with_reducible refine And.intro ?_ ?_; omega) | (simp only [Z0,Z1,Z2,Z3,Z4,Z5,Z6,Z7,Z8,Z9,Za,Zb,Zc,Zd,Ze,Zf,List.cons.injEq,Zg,Zh,Zi,Zj,Zk,Zl,Zm,Zn,Zo,Zp,beq_self_eq_true,bne_self_eq_false,decide_true,decide_false,Zq,Zr,Zs,Zt,Zu,Zv,Zw,Zx,Zy,Zz,Y0,Y1,Y2,Y3,Y4,Y5,Y6,Y7,Y8,Y9,Ya,Yb,Yc,Yd,Ye,Yf,Yg,Yh,Yi,Yj,Yk,Yl,lk,ef,Ym,Yn,Yo,Yp,Yq,Yr,Ys,Yt,Yu,Yv,Yw,Yx,Yy,Yz,X0,X1,X2,X3,X4,X5,X6,X7,X8,X9,Xa,Xb,Xc,Xd,Xe,Xf,Xg,Xh,Xi,Xj,Xk,hv,Xl,ev,Xm,Xn,Xo,Xp,Xq,Xr,Xs,Xt,Xu,Xv,Xw,Xx,Xy,Xz,W0,W1,W2,W3,W4,W5,W6,W7,W8,W9,Wa,Wb,Wc,Wd,We,Wf,Wg,Wh,Wi,Value.oneCell',Wj,Wk,Wl,Wm,true_and,and_true,and_self,implies_true,Wn,Wo,Wp,Wq,false_implies,Wr,Ws,Wt,Wu,Wv,Ww,Wx,Wy,Wz,V0,V1,V2,V3,V4,V5,V6,V7,reduceCtorEq,if_true,if_false,V8,↓reduceIte,V9,Va,Vb,Vc,Vd,Ve,ne_eq,not_false_eq_true,not_true_eq_false,Vf,Vg,r18_0,r18_1,r18_2,r18_3,r18_5,r18_4,r18_6,p18,l18_0,e]) | (exfalso; omega)
end Go.Proofs.YtjeemcpdmiajmaaDoor
