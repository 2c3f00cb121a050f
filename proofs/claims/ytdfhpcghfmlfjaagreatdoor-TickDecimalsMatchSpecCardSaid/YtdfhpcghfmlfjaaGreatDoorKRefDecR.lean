/- The reference's decimals: headendref1's IsWay, row, ReadDecimal, by the machine on data. -/
import Derived.Test.YtdfhpcghfmlfjaaGreatDoorKRefDec
import Derived.Test.YtdfhpcghfmlfjaaGreatDoorKNumP
namespace Go.Proofs.YtdfhpcghfmlfjaaGreatDoor
open Go.RowKit Go.Lib
open Go.Proofs.YtdfhpcghfmlfjaaGreatDoor renaming done_eq → Z0, done_eq' → Z1, donet_eq → Z2, donet_eq' → Z3, fin_val → Z4, fin_tup → Z5, fin_agg → Z6, fin_ro → Z7, res_one → Z8, res_more → Z9, rv_t → Za, rv_c → Zb, rv_l → Zc, int_eq → Zg, bool_eq → Zh, toNat_pred → Zr, toNat_succ → Zs, cnd_t → Zu, cnd_f → Zv, grd_tt → Zw, grd_u → Zx, grd_tf → Zy, grd_ft → Zz, grd_ff → Y0, g_skip → Y1, g_ops → Y2, g_seq → Y3, g_block → Y4, g_exit → Y5, g_ret → Y6, x_c → Y7, x_o → Y8, x_l → Y9, x_b → Ya, g_b → Yb, g_nil → Yc, r_all → Yd, o_nil → Ye, g_cond → Yf, o_guard → Yg, o_call → Yh, o_mv → Yi, o_pick → Yj, o_bin → Yk, o_un → Yl, o_loads → Ym, o_idxs → Yn, o_lens → Yo, o_ext → Yp, o_alloc → Yq, o_row → Yr, o_asg → Ys, o_stores → Yt, eqAV → Yu, view_t → Yv, view_c → Yw, view_nil → Yx, view_fn → Yy, look_own → Yz, look_box → X0, look_junk → X1, look_val → X2, look_nilsl → X3, look_ro → X4, look_roAt → X5, look_agg → X6, look_tup → X7, look_clo → X8, look_alias → X9, look_ref → Xa, look_into → Xb, rowOf → Xc, cellsOf → Xd, argv → Xe, vbin → Xf, vun → Xg, bnd → Xh, elemOf → Xi, putParts → Xj, setAt → Xk, zav → Xl, put_at → Xs, mk_at → Xt, mk_nil → Xu, initSt → Xv
open Go.Proofs.YtdfhpcghfmlfjaaGreatDoor.AV.tup renaming injEq → Zd
open Go.Proofs.YtdfhpcghfmlfjaaGreatDoor.AV.agg renaming injEq → Ze
open Go.Proofs.YtdfhpcghfmlfjaaGreatDoor.AV.ro renaming injEq → Zf
open _root_.Int renaming toNat_natCast → Zi, reduceToNat → Zj, toNat_zero → Zk, toNat_one → Zl, reduceLE → Zm, reduceLT → Zn, reduceBEq → Zo, reduceBNe → Zp, reduceNeg → Zq
open _root_.List renaming length_map → Zt, map_cons → Xw, map_nil → Xx, forall_mem_cons → Xy, not_mem_nil → Xz, length_cons → W0, length_nil → W1, getD_cons_zero → W2, getD_cons_succ → W3, getD_nil → W4, drop_succ_cons → W5, drop_zero → W6, take_succ_cons → W7, take_zero → W8, set_cons_zero → W9, set_cons_succ → Wa, all_cons → Wb, all_nil → Wc
open Go.Proofs.YtdfhpcghfmlfjaaGreatDoor.ASt renaming rid → Xm, free → Xn
open Go.Proofs.YtdfhpcghfmlfjaaGreatDoor.AV renaming kill → Xo, isHome → Xp, noLoan → Xq, cellOK → Xr
open _root_.Bool renaming and_true → Wd, true_and → We, not_true → Wf, not_false → Wg, false_eq_true → Wh
open _root_.Nat renaming reduceEqDiff → Wi, reduceAdd → Wj, reduceSub → Wk, reduceMul → Wl, reduceLeDiff → Wm, reduceLT → Wn, one_ne_zero → Wo, zero_ne_one → Wp
open Go.Proofs.YtdfhpcghfmlfjaaGreatDoor.AV.val renaming injEq → Wq
set_option linter.unusedSimpArgs false

theorem BS_49 : (⟨#[49]⟩ : ByteArray) = BS [49] := rfl
theorem trim_eq (T : List UInt8) : (trimPrefix T [45] == T) = !hasPrefix T [45] := by
  unfold trimPrefix
  cases h : hasPrefix T [45] with
  | false => simp
  | true =>
    rw [if_pos rfl]
    cases T with
    | nil => exact absurd h (by decide)
    | cons c r =>
      rw [beq_eq_false_iff_ne.2]
      · rfl
      · intro e
        have := congrArg List.length e
        simp at this
theorem numL_zeros : ∀ k : Nat, numL (List.replicate k 48) = 0
  | 0 => rfl
  | k + 1 => by
    rw [List.replicate_succ']
    rw [numL_snoc, numL_zeros k]
    rfl
theorem numL_ten (k : Nat) : numL (49 :: List.replicate k 48) = 10 ^ k := by
  have h := numL_app [49] (List.replicate k 48)
  rw [List.singleton_append, numL_zeros, List.length_replicate, Nat.add_zero, show numL [49] = 1 from rfl, Nat.one_mul] at h
  exact h
theorem rnd_sgn (neg : Bool) (t b : Nat) (way : Int) (hb : 0 < b) : rndN (neg && decide (0 < t)) t b way = rndN neg t b way := by
  by_cases h : 0 < t
  · rw [decide_eq_true h, Bool.and_true]
  · rw [rdN_neg0 _ way (by omega) hb, rdN_neg0 _ way (by omega) hb]
/-! headend/headendref1.IsWay -/
def r27_0 : List POp := [⟨2, .asg (.c (.bool false)), none⟩]
def r27_1 : List POp := [⟨3, .mv (.t 0), none⟩,
  ⟨4, .bin .eql (.t 3) (.c (.int .i64 1)), none⟩,
  ⟨5, .mv (.t 4), none⟩,
  ⟨6, .mv (.t 0), some (5, false)⟩,
  ⟨7, .bin .eql (.t 6) (.c (.int .i64 2)), some (5, false)⟩,
  ⟨8, .pick (.t 5) (.c (.bool true)) (.t 7), none⟩,
  ⟨9, .mv (.t 8), none⟩,
  ⟨10, .mv (.t 0), some (9, false)⟩,
  ⟨11, .bin .eql (.t 10) (.c (.int .i64 3)), some (9, false)⟩,
  ⟨12, .pick (.t 9) (.c (.bool true)) (.t 11), none⟩,
  ⟨2, .asg (.t 12), none⟩]
def p27 : PCode := .seq (.ops r27_0) (.seq (.ops r27_1) (.ret))
theorem ok27 : okFunc Tryz.prog 27 [.t 2] 1 p27 = true := by kernel_rfl
theorem isway_c (n : Int) : CallOK Tryz.prog 27 [.val (.int .i64 n)] (.val (.bool (!outB n 1 3))) := by
  refine call_of mixed ok27 rfl ?_
  by_cases h1 : n = 1
  · subst h1
    repeat' first | ((with_reducible (first | refine condD ?_ ?_ | refine condE ?_ ?_ | refine condN ?_ ?_ | refine condI ?_ ?_ | refine condS ?_ ?_)) <;> intro h) | ((with_reducible (first | refine guardD (by with_unfolding_all rfl) ?_ ?_ | refine guardE (by with_unfolding_all rfl) ?_ ?_ | refine guardN (by with_unfolding_all rfl) ?_ ?_ | refine guardI (by with_unfolding_all rfl) ?_ ?_ | refine guardS (by with_unfolding_all rfl) ?_ ?_)) <;> intro h) | (with_reducible refine And.intro ?_ ?_; omega) | (simp only [Z0,Z1,Z2,Z3,Z4,Z5,Z6,Z7,Z8,Z9,Za,Zb,Zc,Zd,Ze,Zf,List.cons.injEq,Zg,Zh,Zi,Zj,Zk,Zl,Zm,Zn,Zo,Zp,beq_self_eq_true,bne_self_eq_false,decide_true,decide_false,Zq,Zr,Zs,Zt,Zu,Zv,Zw,Zx,Zy,Zz,Y0,Y1,Y2,Y3,Y4,Y5,Y6,Y7,Y8,Y9,Ya,Yb,Yc,Yd,Ye,Yf,Yg,lk,ef,Yi,Yj,Yk,Ys,hv,Yu,ev,Yv,Yw,Yx,Yy,Yz,X0,X1,X2,X3,X4,X5,X6,X7,X8,X9,Xa,Xb,Xc,Xd,Xe,Xf,Xg,Xh,Xi,Xj,Xk,Xl,Xm,Xn,Xo,Xp,Xq,Xr,Value.oneCell',Xs,Xt,Xu,Xv,true_and,and_true,and_self,implies_true,Xw,Xx,Xy,Xz,false_implies,W0,W1,W2,W3,W4,W5,W6,W7,W8,W9,Wa,Wb,Wc,Wd,We,Wf,Wg,reduceCtorEq,if_true,if_false,Wh,↓reduceIte,Wi,Wj,Wk,Wl,Wm,Wn,ne_eq,not_false_eq_true,not_true_eq_false,Wo,Wp,r27_0,r27_1,p27]) | (exfalso; omega)
    all_goals first | done | rfl
  by_cases h2 : n = 2
  · subst h2
    repeat' first | ((with_reducible (first | refine condD ?_ ?_ | refine condE ?_ ?_ | refine condN ?_ ?_ | refine condI ?_ ?_ | refine condS ?_ ?_)) <;> intro h) | ((with_reducible (first | refine guardD (by with_unfolding_all rfl) ?_ ?_ | refine guardE (by with_unfolding_all rfl) ?_ ?_ | refine guardN (by with_unfolding_all rfl) ?_ ?_ | refine guardI (by with_unfolding_all rfl) ?_ ?_ | refine guardS (by with_unfolding_all rfl) ?_ ?_)) <;> intro h) | (with_reducible refine And.intro ?_ ?_; omega) | (simp only [Z0,Z1,Z2,Z3,Z4,Z5,Z6,Z7,Z8,Z9,Za,Zb,Zc,Zd,Ze,Zf,List.cons.injEq,Zg,Zh,Zi,Zj,Zk,Zl,Zm,Zn,Zo,Zp,beq_self_eq_true,bne_self_eq_false,decide_true,decide_false,Zq,Zr,Zs,Zt,Zu,Zv,Zw,Zx,Zy,Zz,Y0,Y1,Y2,Y3,Y4,Y5,Y6,Y7,Y8,Y9,Ya,Yb,Yc,Yd,Ye,Yf,Yg,lk,ef,Yi,Yj,Yk,Ys,hv,Yu,ev,Yv,Yw,Yx,Yy,Yz,X0,X1,X2,X3,X4,X5,X6,X7,X8,X9,Xa,Xb,Xc,Xd,Xe,Xf,Xg,Xh,Xi,Xj,Xk,Xl,Xm,Xn,Xo,Xp,Xq,Xr,Value.oneCell',Xs,Xt,Xu,Xv,true_and,and_true,and_self,implies_true,Xw,Xx,Xy,Xz,false_implies,W0,W1,W2,W3,W4,W5,W6,W7,W8,W9,Wa,Wb,Wc,Wd,We,Wf,Wg,reduceCtorEq,if_true,if_false,Wh,↓reduceIte,Wi,Wj,Wk,Wl,Wm,Wn,ne_eq,not_false_eq_true,not_true_eq_false,Wo,Wp,r27_0,r27_1,p27]) | (exfalso; omega)
    all_goals first | done | rfl
  by_cases h3 : n = 3
  · subst h3
    repeat' first | ((with_reducible (first | refine condD ?_ ?_ | refine condE ?_ ?_ | refine condN ?_ ?_ | refine condI ?_ ?_ | refine condS ?_ ?_)) <;> intro h) | ((with_reducible (first | refine guardD (by with_unfolding_all rfl) ?_ ?_ | refine guardE (by with_unfolding_all rfl) ?_ ?_ | refine guardN (by with_unfolding_all rfl) ?_ ?_ | refine guardI (by with_unfolding_all rfl) ?_ ?_ | refine guardS (by with_unfolding_all rfl) ?_ ?_)) <;> intro h) | (with_reducible refine And.intro ?_ ?_; omega) | (simp only [Z0,Z1,Z2,Z3,Z4,Z5,Z6,Z7,Z8,Z9,Za,Zb,Zc,Zd,Ze,Zf,List.cons.injEq,Zg,Zh,Zi,Zj,Zk,Zl,Zm,Zn,Zo,Zp,beq_self_eq_true,bne_self_eq_false,decide_true,decide_false,Zq,Zr,Zs,Zt,Zu,Zv,Zw,Zx,Zy,Zz,Y0,Y1,Y2,Y3,Y4,Y5,Y6,Y7,Y8,Y9,Ya,Yb,Yc,Yd,Ye,Yf,Yg,lk,ef,Yi,Yj,Yk,Ys,hv,Yu,ev,Yv,Yw,Yx,Yy,Yz,X0,X1,X2,X3,X4,X5,X6,X7,X8,X9,Xa,Xb,Xc,Xd,Xe,Xf,Xg,Xh,Xi,Xj,Xk,Xl,Xm,Xn,Xo,Xp,Xq,Xr,Value.oneCell',Xs,Xt,Xu,Xv,true_and,and_true,and_self,implies_true,Xw,Xx,Xy,Xz,false_implies,W0,W1,W2,W3,W4,W5,W6,W7,W8,W9,Wa,Wb,Wc,Wd,We,Wf,Wg,reduceCtorEq,if_true,if_false,Wh,↓reduceIte,Wi,Wj,Wk,Wl,Wm,Wn,ne_eq,not_false_eq_true,not_true_eq_false,Wo,Wp,r27_0,r27_1,p27]) | (exfalso; omega)
    all_goals first | done | rfl
  have e1 : (n == 1) = false := beq_eq_false_iff_ne.2 h1
  have e2 : (n == 2) = false := beq_eq_false_iff_ne.2 h2
  have e3 : (n == 3) = false := beq_eq_false_iff_ne.2 h3
  have hR : outB n 1 3 = true := by simp [outB]; omega
  rw [hR]
  repeat' first | ((with_reducible (first | refine condD ?_ ?_ | refine condE ?_ ?_ | refine condN ?_ ?_ | refine condI ?_ ?_ | refine condS ?_ ?_)) <;> intro h) | ((with_reducible (first | refine guardD (by with_unfolding_all rfl) ?_ ?_ | refine guardE (by with_unfolding_all rfl) ?_ ?_ | refine guardN (by with_unfolding_all rfl) ?_ ?_ | refine guardI (by with_unfolding_all rfl) ?_ ?_ | refine guardS (by with_unfolding_all rfl) ?_ ?_)) <;> intro h) | (with_reducible refine And.intro ?_ ?_; omega) | (simp only [Z0,Z1,Z2,Z3,Z4,Z5,Z6,Z7,Z8,Z9,Za,Zb,Zc,Zd,Ze,Zf,List.cons.injEq,Zg,Zh,Zi,Zj,Zk,Zl,Zm,Zn,Zo,Zp,beq_self_eq_true,bne_self_eq_false,decide_true,decide_false,Zq,Zr,Zs,Zt,Zu,Zv,Zw,Zx,Zy,Zz,Y0,Y1,Y2,Y3,Y4,Y5,Y6,Y7,Y8,Y9,Ya,Yb,Yc,Yd,Ye,Yf,Yg,lk,ef,Yi,Yj,Yk,Ys,hv,Yu,ev,Yv,Yw,Yx,Yy,Yz,X0,X1,X2,X3,X4,X5,X6,X7,X8,X9,Xa,Xb,Xc,Xd,Xe,Xf,Xg,Xh,Xi,Xj,Xk,Xl,Xm,Xn,Xo,Xp,Xq,Xr,Value.oneCell',Xs,Xt,Xu,Xv,true_and,and_true,and_self,implies_true,Xw,Xx,Xy,Xz,false_implies,W0,W1,W2,W3,W4,W5,W6,W7,W8,W9,Wa,Wb,Wc,Wd,We,Wf,Wg,reduceCtorEq,if_true,if_false,Wh,↓reduceIte,Wi,Wj,Wk,Wl,Wm,Wn,ne_eq,not_false_eq_true,not_true_eq_false,Wo,Wp,r27_0,r27_1,p27,e1,e2,e3]) | (exfalso; omega)
/-! headend/headendref1.row -/
def r29_0 : List POp := [⟨2, .asg (.c (.bool false)), none⟩]
def r29_1 : List POp := [⟨3, .asg (.c (.int .i64 0)), none⟩]
def r29_2 : List POp := [⟨4, .mv (.t 3), none⟩,
  ⟨5, .mv (.t 0), none⟩,
  ⟨6, .lens (.t 5), none⟩,
  ⟨7, .bin .lss (.t 4) (.t 6), none⟩]
def r29_4 : List POp := [⟨10, .mv (.t 0), none⟩,
  ⟨11, .mv (.t 3), none⟩,
  ⟨12, .idxs (.t 10) (.t 11), none⟩,
  ⟨13, .bin .lss (.t 12) (.c (.int .u8 48)), none⟩,
  ⟨14, .mv (.t 13), none⟩,
  ⟨15, .mv (.t 0), some (14, false)⟩,
  ⟨16, .mv (.t 3), some (14, false)⟩,
  ⟨17, .idxs (.t 15) (.t 16), some (14, false)⟩,
  ⟨18, .bin .gtr (.t 17) (.c (.int .u8 57)), some (14, false)⟩,
  ⟨19, .pick (.t 14) (.c (.bool true)) (.t 18), none⟩]
def r29_5 : List POp := [⟨2, .asg (.c (.bool false)), none⟩]
def r29_3 : List POp := [⟨8, .mv (.t 3), none⟩,
  ⟨9, .bin .add (.t 8) (.c (.int .i64 1)), none⟩,
  ⟨3, .asg (.t 9), none⟩]
def r29_6 : List POp := [⟨20, .mv (.t 0), none⟩,
  ⟨21, .bin .neq (.t 20) (.c (.string ⟨#[]⟩)), none⟩,
  ⟨2, .asg (.t 21), none⟩]
def l29_0 : PCode := .seq (.seq (.ops r29_2) (.cond (.t 7) (.skip) (.exit 0))) (.seq (.block 1 (.seq (.ops r29_4) (.cond (.t 19) (.seq (.ops r29_5) (.ret)) (.skip)))) (.ops r29_3))
def p29 : PCode := .seq (.ops r29_0) (.seq (.seq (.ops r29_1) (.block 0 (.loop l29_0))) (.seq (.ops r29_6) (.ret)))
theorem ok29 : okFunc Tryz.prog 29 [.t 2] 1 p29 = true := by kernel_rfl
theorem row_c (l : List UInt8) (hl : l.length ≤ 100) : CallOK Tryz.prog 29 [.val (.string (BS l))] (.val (.bool (rowB l))) := by
  refine call_of mixed ok29 rfl ?_
  repeat' first | ((with_reducible (first | refine condD ?_ ?_ | refine condE ?_ ?_ | refine condN ?_ ?_ | refine condI ?_ ?_ | refine condS ?_ ?_)) <;> intro h) | ((with_reducible (first | refine guardD (by with_unfolding_all rfl) ?_ ?_ | refine guardE (by with_unfolding_all rfl) ?_ ?_ | refine guardN (by with_unfolding_all rfl) ?_ ?_ | refine guardI (by with_unfolding_all rfl) ?_ ?_ | refine guardS (by with_unfolding_all rfl) ?_ ?_)) <;> intro h) | (with_reducible refine And.intro ?_ ?_; omega) | (simp only [Z0,Z1,Z2,Z3,Z4,Z5,Z6,Z7,Z8,Z9,Za,Zb,Zc,Zd,Ze,Zf,List.cons.injEq,Zg,Zh,Zi,Zj,Zk,Zl,Zm,Zn,Zo,Zp,beq_self_eq_true,bne_self_eq_false,decide_true,decide_false,Zq,Zr,Zs,Zt,Zu,Zv,Zw,Zx,Zy,Zz,Y0,Y1,Y2,Y3,Y4,Y5,Y6,Y7,Y8,Y9,Ya,Yb,Yc,Yd,Ye,Yf,Yg,lk,ef,Yi,Yj,Yk,Yn,Yo,Yr,Ys,hv,Yu,ev,Yv,Yw,Yx,Yy,Yz,X0,X1,X2,X3,X4,X5,X6,X7,X8,X9,Xa,Xb,Xc,Xd,Xe,Xf,Xg,Xh,Xi,Xj,Xk,Xl,Xm,Xn,Xo,Xp,Xq,Xr,Value.oneCell',Xs,Xt,Xu,Xv,true_and,and_true,and_self,implies_true,Xw,Xx,Xy,Xz,false_implies,W0,W1,W2,W3,W4,W5,W6,W7,W8,W9,Wa,Wb,Wc,Wd,We,Wf,Wg,reduceCtorEq,if_true,if_false,Wh,↓reduceIte,Wi,Wj,Wk,Wl,Wm,Wn,ne_eq,not_false_eq_true,not_true_eq_false,Wo,Wp,r29_0,r29_1,r29_2,r29_4,r29_5,r29_3,r29_6,p29,BS_size]) | (exfalso; omega)
  refine loopS (fun k : Nat => mk [(0, .val (.string (BS l))), (3, .val (.int .i64 k))]) (fun k => k ≤ l.length ∧ l.all digB = (l.drop k).all digB) (fun k => l.length - k) 0 (weak_mk ?_) ⟨Nat.zero_le _, rfl⟩ ?_
  · simp only [wk_cons,wk_nil,wk1,vint_eq,vbool_eq,Wq,Z4,Z5,Z6,Z7,Z8,Z9,Za,Zb,Zc,Zd,Ze,Zf,List.cons.injEq,Zg,Zh,Zi,Zj,Zk,Zl,Zm,Zn,Zo,Zp,beq_self_eq_true,bne_self_eq_false,decide_true,decide_false,Zq,Zr,Zs,Zt,Zu,Zv,Zw,Zx,Zy,Zz,Y0,hv,Yu,ev,Yv,Yw,Yx,Yy,Yz,X0,X1,X2,X3,X4,X5,X6,X7,X8,X9,Xa,Xb,Xc,Xd,Xe,Xf,Xg,Xh,Xi,Xj,Xk,Xl,Xm,Xn,Xo,Xp,Xq,Xr,Value.oneCell',Xs,Xt,Xu,Xv,true_and,and_true,and_self,implies_true,Xw,Xx,Xy,Xz,false_implies,W0,W1,W2,W3,W4,W5,W6,W7,W8,W9,Wa,Wb,Wc,Wd,We,Wf,Wg,reduceCtorEq,if_true,if_false,Wh,↓reduceIte,Wi,Wj,Wk,Wl,Wm,Wn,ne_eq,not_false_eq_true,not_true_eq_false,Wo,Nat.zero_ne_one]
    all_goals first | done | rfl
  rintro J hJ k ⟨hk, hg⟩
  simp only [Z0,Z1,Z2,Z3,Z4,Z5,Z6,Z7,Z8,Z9,Za,Zb,Zc,Zd,Ze,Zf,List.cons.injEq,Zg,Zh,Zi,Zj,Zk,Zl,Zm,Zn,Zo,Zp,beq_self_eq_true,bne_self_eq_false,decide_true,decide_false,Zq,Zr,Zs,Zt,Zu,Zv,Zw,Zx,Zy,Zz,Y0,Y1,Y2,Y3,Y4,Y5,Y6,Y7,Y8,Y9,Ya,Yb,Yc,Yd,Ye,Yf,Yg,lk,ef,Yi,Yj,Yk,Yn,Yo,Yr,Ys,hv,Yu,ev,Yv,Yw,Yx,Yy,Yz,X0,X1,X2,X3,X4,X5,X6,X7,X8,X9,Xa,Xb,Xc,Xd,Xe,Xf,Xg,Xh,Xi,Xj,Xk,Xl,Xm,Xn,Xo,Xp,Xq,Xr,Value.oneCell',Xs,Xt,Xu,Xv,true_and,and_true,and_self,implies_true,Xw,Xx,Xy,Xz,false_implies,W0,W1,W2,W3,W4,W5,W6,W7,W8,W9,Wa,Wb,Wc,Wd,We,Wf,Wg,reduceCtorEq,if_true,if_false,Wh,↓reduceIte,Wi,Wj,Wk,Wl,Wm,Wn,ne_eq,not_false_eq_true,not_true_eq_false,Wo,Wp,r29_0,r29_1,r29_2,r29_4,r29_5,r29_3,r29_6,p29,l29_0,BS_size]
  refine condD (fun h => ?_) (fun h => ?_)
  · have hlt : k < l.length := by omega
    have hw := i_add1 k (by omega)
    have hki : (k : Int) < l.length := by omega
    have hk0 : (0 : Int) ≤ k := by omega
    have hgd : l.getD k 0 = l[k] := by rw [List.getD_eq_getElem?_getD, List.getElem?_eq_getElem hlt]; rfl
    rw [List.drop_eq_getElem_cons hlt, List.all_cons] at hg
    cases hd : digB l[k] with
    | true =>
      rw [hd] at hg
      have hdb := hd
      simp only [digB, Bool.and_eq_true, decide_eq_true_eq] at hdb
      have a1 : ¬ ((l[k].toNat : Nat) : Int) < 48 := by omega
      have a2 : ¬ (57 : Int) < ((l[k].toNat : Nat) : Int) := by omega
      repeat' first | ((with_reducible (first | refine condD ?_ ?_ | refine condE ?_ ?_ | refine condN ?_ ?_ | refine condI ?_ ?_ | refine condS ?_ ?_)) <;> intro h) | ((with_reducible (first | refine guardD (by with_unfolding_all rfl) ?_ ?_ | refine guardE (by with_unfolding_all rfl) ?_ ?_ | refine guardN (by with_unfolding_all rfl) ?_ ?_ | refine guardI (by with_unfolding_all rfl) ?_ ?_ | refine guardS (by with_unfolding_all rfl) ?_ ?_)) <;> intro h) | (with_reducible refine And.intro ?_ ?_; omega) | (simp only [Z0,Z1,Z2,Z3,Z4,Z5,Z6,Z7,Z8,Z9,Za,Zb,Zc,Zd,Ze,Zf,List.cons.injEq,Zg,Zh,Zi,Zj,Zk,Zl,Zm,Zn,Zo,Zp,beq_self_eq_true,bne_self_eq_false,decide_true,decide_false,Zq,Zr,Zs,Zt,Zu,Zv,Zw,Zx,Zy,Zz,Y0,Y1,Y2,Y3,Y4,Y5,Y6,Y7,Y8,Y9,Ya,Yb,Yc,Yd,Ye,Yf,Yg,lk,ef,Yi,Yj,Yk,Yn,Yo,Yr,Ys,hv,Yu,ev,Yv,Yw,Yx,Yy,Yz,X0,X1,X2,X3,X4,X5,X6,X7,X8,X9,Xa,Xb,Xc,Xd,Xe,Xf,Xg,Xh,Xi,Xj,Xk,Xl,Xm,Xn,Xo,Xp,Xq,Xr,Value.oneCell',Xs,Xt,Xu,Xv,true_and,and_true,and_self,implies_true,Xw,Xx,Xy,Xz,false_implies,W0,W1,W2,W3,W4,W5,W6,W7,W8,W9,Wa,Wb,Wc,Wd,We,Wf,Wg,reduceCtorEq,if_true,if_false,Wh,↓reduceIte,Wi,Wj,Wk,Wl,Wm,Wn,ne_eq,not_false_eq_true,not_true_eq_false,Wo,Wp,r29_0,r29_1,r29_2,r29_4,r29_5,r29_3,r29_6,p29,l29_0,BS_size,BS_data,hgd,hki,hk0,a1,a2]) | (exfalso; omega)
      all_goals first | omega | exact again hJ (k + 1) (weak_mk (by simp only [wk_cons,wk_nil,wk1,vint_eq,vbool_eq,Wq,Z4,Z5,Z6,Z7,Z8,Z9,Za,Zb,Zc,Zd,Ze,Zf,List.cons.injEq,Zg,Zh,Zi,Zj,Zk,Zl,Zm,Zn,Zo,Zp,beq_self_eq_true,bne_self_eq_false,decide_true,decide_false,Zq,Zr,Zs,Zt,Zu,Zv,Zw,Zx,Zy,Zz,Y0,hv,Yu,ev,Yv,Yw,Yx,Yy,Yz,X0,X1,X2,X3,X4,X5,X6,X7,X8,X9,Xa,Xb,Xc,Xd,Xe,Xf,Xg,Xh,Xi,Xj,Xk,Xl,Xm,Xn,Xo,Xp,Xq,Xr,Value.oneCell',Xs,Xt,Xu,Xv,true_and,and_true,and_self,implies_true,Xw,Xx,Xy,Xz,false_implies,W0,W1,W2,W3,W4,W5,W6,W7,W8,W9,Wa,Wb,Wc,Wd,We,Wf,Wg,reduceCtorEq,if_true,if_false,Wh,↓reduceIte,Wi,Wj,Wk,Wl,Wm,Wn,ne_eq,not_false_eq_true,not_true_eq_false,Wo,Nat.zero_ne_one]; exact hw)) ⟨by omega, by rw [hg]; rfl⟩ (by omega)
    | false =>
      rw [hd] at hg
      have hR : rowB l = false := by rw [rowB, hg]; rfl
      rw [hR]
      have hdb : l[k].toNat < 48 ∨ 57 < l[k].toNat := by
        simp only [digB, Bool.and_eq_false_iff, decide_eq_false_iff_not] at hd
        omega
      by_cases a1 : ((l[k].toNat : Nat) : Int) < 48
      · repeat' first | ((with_reducible (first | refine condD ?_ ?_ | refine condE ?_ ?_ | refine condN ?_ ?_ | refine condI ?_ ?_ | refine condS ?_ ?_)) <;> intro h) | ((with_reducible (first | refine guardD (by with_unfolding_all rfl) ?_ ?_ | refine guardE (by with_unfolding_all rfl) ?_ ?_ | refine guardN (by with_unfolding_all rfl) ?_ ?_ | refine guardI (by with_unfolding_all rfl) ?_ ?_ | refine guardS (by with_unfolding_all rfl) ?_ ?_)) <;> intro h) | (with_reducible refine And.intro ?_ ?_; omega) | (simp only [Z0,Z1,Z2,Z3,Z4,Z5,Z6,Z7,Z8,Z9,Za,Zb,Zc,Zd,Ze,Zf,List.cons.injEq,Zg,Zh,Zi,Zj,Zk,Zl,Zm,Zn,Zo,Zp,beq_self_eq_true,bne_self_eq_false,decide_true,decide_false,Zq,Zr,Zs,Zt,Zu,Zv,Zw,Zx,Zy,Zz,Y0,Y1,Y2,Y3,Y4,Y5,Y6,Y7,Y8,Y9,Ya,Yb,Yc,Yd,Ye,Yf,Yg,lk,ef,Yi,Yj,Yk,Yn,Yo,Yr,Ys,hv,Yu,ev,Yv,Yw,Yx,Yy,Yz,X0,X1,X2,X3,X4,X5,X6,X7,X8,X9,Xa,Xb,Xc,Xd,Xe,Xf,Xg,Xh,Xi,Xj,Xk,Xl,Xm,Xn,Xo,Xp,Xq,Xr,Value.oneCell',Xs,Xt,Xu,Xv,true_and,and_true,and_self,implies_true,Xw,Xx,Xy,Xz,false_implies,W0,W1,W2,W3,W4,W5,W6,W7,W8,W9,Wa,Wb,Wc,Wd,We,Wf,Wg,reduceCtorEq,if_true,if_false,Wh,↓reduceIte,Wi,Wj,Wk,Wl,Wm,Wn,ne_eq,not_false_eq_true,not_true_eq_false,Wo,Wp,r29_0,r29_1,r29_2,r29_4,r29_5,r29_3,r29_6,p29,l29_0,BS_size,BS_data,hgd,hki,hk0,a1]) | (exfalso; omega)
      · have a2 : (57 : Int) < ((l[k].toNat : Nat) : Int) := by omega
        repeat' first | ((with_reducible (first | refine condD ?_ ?_ | refine condE ?_ ?_ | refine condN ?_ ?_ | refine condI ?_ ?_ | refine condS ?_ ?_)) <;> intro h) | ((with_reducible (first | refine guardD (by with_unfolding_all rfl) ?_ ?_ | refine guardE (by with_unfolding_all rfl) ?_ ?_ | refine guardN (by with_unfolding_all rfl) ?_ ?_ | refine guardI (by with_unfolding_all rfl) ?_ ?_ | refine guardS (by with_unfolding_all rfl) ?_ ?_)) <;> intro h) | (with_reducible refine And.intro ?_ ?_; omega) | (simp only [Z0,Z1,Z2,Z3,Z4,Z5,Z6,Z7,Z8,Z9,Za,Zb,Zc,Zd,Ze,Zf,List.cons.injEq,Zg,Zh,Zi,Zj,Zk,Zl,Zm,Zn,Zo,Zp,beq_self_eq_true,bne_self_eq_false,decide_true,decide_false,Zq,Zr,Zs,Zt,Zu,Zv,Zw,Zx,Zy,Zz,Y0,Y1,Y2,Y3,Y4,Y5,Y6,Y7,Y8,Y9,Ya,Yb,Yc,Yd,Ye,Yf,Yg,lk,ef,Yi,Yj,Yk,Yn,Yo,Yr,Ys,hv,Yu,ev,Yv,Yw,Yx,Yy,Yz,X0,X1,X2,X3,X4,X5,X6,X7,X8,X9,Xa,Xb,Xc,Xd,Xe,Xf,Xg,Xh,Xi,Xj,Xk,Xl,Xm,Xn,Xo,Xp,Xq,Xr,Value.oneCell',Xs,Xt,Xu,Xv,true_and,and_true,and_self,implies_true,Xw,Xx,Xy,Xz,false_implies,W0,W1,W2,W3,W4,W5,W6,W7,W8,W9,Wa,Wb,Wc,Wd,We,Wf,Wg,reduceCtorEq,if_true,if_false,Wh,↓reduceIte,Wi,Wj,Wk,Wl,Wm,Wn,ne_eq,not_false_eq_true,not_true_eq_false,Wo,Wp,r29_0,r29_1,r29_2,r29_4,r29_5,r29_3,r29_6,p29,l29_0,BS_size,BS_data,hgd,hki,hk0,a1,a2]) | (exfalso; omega)
  · have hke : k = l.length := by omega
    subst hke
    rw [List.drop_length] at hg
    have hR : rowB l = !(l == []) := by
      rw [rowB, hg]
      cases l <;> simp
    rw [hR]
    clear hJ
    repeat' first | ((with_reducible (first | refine condD ?_ ?_ | refine condE ?_ ?_ | refine condN ?_ ?_ | refine condI ?_ ?_ | refine condS ?_ ?_)) <;> intro h) | ((with_reducible (first | refine guardD (by with_unfolding_all rfl) ?_ ?_ | refine guardE (by with_unfolding_all rfl) ?_ ?_ | refine guardN (by with_unfolding_all rfl) ?_ ?_ | refine guardI (by with_unfolding_all rfl) ?_ ?_ | refine guardS (by with_unfolding_all rfl) ?_ ?_)) <;> intro h) | (with_reducible refine And.intro ?_ ?_; omega) | (simp only [Z0,Z1,Z2,Z3,Z4,Z5,Z6,Z7,Z8,Z9,Za,Zb,Zc,Zd,Ze,Zf,List.cons.injEq,Zg,Zh,Zi,Zj,Zk,Zl,Zm,Zn,Zo,Zp,beq_self_eq_true,bne_self_eq_false,decide_true,decide_false,Zq,Zr,Zs,Zt,Zu,Zv,Zw,Zx,Zy,Zz,Y0,Y1,Y2,Y3,Y4,Y5,Y6,Y7,Y8,Y9,Ya,Yb,Yc,Yd,Ye,Yf,Yg,lk,ef,Yi,Yj,Yk,Yn,Yo,Yr,Ys,hv,Yu,ev,Yv,Yw,Yx,Yy,Yz,X0,X1,X2,X3,X4,X5,X6,X7,X8,X9,Xa,Xb,Xc,Xd,Xe,Xf,Xg,Xh,Xi,Xj,Xk,Xl,Xm,Xn,Xo,Xp,Xq,Xr,Value.oneCell',Xs,Xt,Xu,Xv,true_and,and_true,and_self,implies_true,Xw,Xx,Xy,Xz,false_implies,W0,W1,W2,W3,W4,W5,W6,W7,W8,W9,Wa,Wb,Wc,Wd,We,Wf,Wg,reduceCtorEq,if_true,if_false,Wh,↓reduceIte,Wi,Wj,Wk,Wl,Wm,Wn,ne_eq,not_false_eq_true,not_true_eq_false,Wo,Wp,r29_0,r29_1,r29_2,r29_4,r29_5,r29_3,r29_6,p29,l29_0,BS_nil,BS_toList]) | (exfalso; omega)
    all_goals first | rfl | simp [bne]
theorem trimp_c (l : List UInt8) : CallOK Tryz.prog 28 [.val (.string (BS l)), .val (.string (BS [45]))] (.val (.string (BS (trimPrefix l [45])))) := by
  intro w S vs hT hS hvl hr
  match vs, hvl with
  | [v0, v1], _ =>
    have h0 := rel_val (hr 0 _ v0 rfl rfl)
    have h1 := rel_val (hr 1 _ v1 rfl rfl)
    subst h0; subst h1
    refine (Tryz.strings_TrimPrefix (BS l) (BS [45]) w).mono ?_
    rintro ev w' ⟨rfl, rfl⟩
    rw [BS_data, BS_data]
    exact ⟨_, rfl, Below.refl _ _, Rel.val _⟩
/-! headend/headendref1.ReadDecimal -/
def r7_0 : List POp := [⟨6, .asg (.c (.int .i64 0)), none⟩,
  ⟨7, .asg (.c (.int .i64 0)), none⟩]
def r7_1 : List POp := [⟨15, .mv (.t 1), none⟩,
  ⟨16, .call 16 [.t 15], none⟩,
  ⟨17, .un .not (.t 16), none⟩]
def r7_2 : List POp := [⟨6, .asg (.c (.int .i64 0)), none⟩,
  ⟨7, .asg (.c (.int .i64 1)), none⟩]
def r7_3 : List POp := [⟨18, .mv (.t 2), none⟩,
  ⟨19, .call 27 [.t 18], none⟩,
  ⟨20, .un .not (.t 19), none⟩]
def r7_4 : List POp := [⟨6, .asg (.c (.int .i64 0)), none⟩,
  ⟨7, .asg (.c (.int .i64 4)), none⟩]
def r7_5 : List POp := [⟨21, .mv (.t 0), none⟩,
  ⟨22, .call 28 [.t 21, .c (.string ⟨#[45]⟩)], none⟩,
  ⟨8, .asg (.t 22), none⟩]
def r7_6 : List POp := [⟨24, .mv (.t 8), none⟩,
  ⟨25, .call 22 [.t 24, .c (.string ⟨#[46]⟩)], none⟩,
  ⟨23, .mv (.t 25), none⟩,
  ⟨26, .ext 0 (.t 23), none⟩,
  ⟨27, .ext 1 (.t 23), none⟩,
  ⟨28, .ext 2 (.t 23), none⟩,
  ⟨9, .mv (.t 26), none⟩,
  ⟨10, .mv (.t 27), none⟩,
  ⟨11, .mv (.t 28), none⟩]
def r7_7 : List POp := [⟨29, .mv (.t 0), none⟩,
  ⟨30, .lens (.t 29), none⟩,
  ⟨31, .bin .gtr (.t 30) (.c (.int .i64 30)), none⟩,
  ⟨32, .mv (.t 31), none⟩,
  ⟨33, .mv (.t 9), some (32, false)⟩,
  ⟨34, .call 29 [.t 33], some (32, false)⟩,
  ⟨35, .un .not (.t 34), some (32, false)⟩,
  ⟨36, .pick (.t 32) (.c (.bool true)) (.t 35), none⟩,
  ⟨37, .mv (.t 36), none⟩,
  ⟨38, .mv (.t 9), some (37, false)⟩,
  ⟨39, .lens (.t 38), some (37, false)⟩,
  ⟨40, .bin .gtr (.t 39) (.c (.int .i64 1)), some (37, false)⟩,
  ⟨41, .mv (.t 40), some (37, false)⟩,
  ⟨42, .mv (.t 9), some (41, true)⟩,
  ⟨43, .idxs (.t 42) (.c (.int .i64 0)), some (41, true)⟩,
  ⟨44, .bin .eql (.t 43) (.c (.int .u8 48)), some (41, true)⟩,
  ⟨45, .pick (.t 41) (.t 44) (.c (.bool false)), some (37, false)⟩,
  ⟨46, .pick (.t 37) (.c (.bool true)) (.t 45), none⟩,
  ⟨47, .mv (.t 46), none⟩,
  ⟨48, .mv (.t 11), some (47, false)⟩,
  ⟨49, .mv (.t 48), some (47, false)⟩,
  ⟨50, .mv (.t 10), some (49, true)⟩,
  ⟨51, .call 29 [.t 50], some (49, true)⟩,
  ⟨52, .un .not (.t 51), some (49, true)⟩,
  ⟨53, .mv (.t 52), some (49, true)⟩,
  ⟨54, .mv (.t 10), some (53, false)⟩,
  ⟨55, .lens (.t 54), some (53, false)⟩,
  ⟨56, .bin .gtr (.t 55) (.c (.int .i64 9)), some (53, false)⟩,
  ⟨57, .pick (.t 53) (.c (.bool true)) (.t 56), some (49, true)⟩,
  ⟨58, .pick (.t 49) (.t 57) (.c (.bool false)), some (47, false)⟩,
  ⟨59, .pick (.t 47) (.c (.bool true)) (.t 58), none⟩]
def r7_8 : List POp := [⟨6, .asg (.c (.int .i64 0)), none⟩,
  ⟨7, .asg (.c (.int .i64 10)), none⟩]
def r7_9 : List POp := [⟨60, .mv (.t 9), none⟩,
  ⟨61, .mv (.t 10), none⟩,
  ⟨62, .bin .add (.t 60) (.t 61), none⟩,
  ⟨63, .call 31 [.t 62], none⟩,
  ⟨64, .mv (.t 10), none⟩,
  ⟨65, .lens (.t 64), none⟩,
  ⟨66, .call 32 [.c (.string ⟨#[48]⟩), .t 65], none⟩,
  ⟨67, .bin .add (.c (.string ⟨#[49]⟩)) (.t 66), none⟩,
  ⟨68, .call 31 [.t 67], none⟩,
  ⟨69, .call 30 [.c (.bool false), .t 63, .t 68], none⟩,
  ⟨12, .alloc [.bool false, .slice none 0 0, .slice none 0 0], none⟩,
  ⟨0, .stores 3 (.t 12) (.t 69), none⟩]
def r7_10 : List POp := [⟨70, .mv (.t 8), none⟩,
  ⟨71, .mv (.t 0), none⟩,
  ⟨72, .bin .neq (.t 70) (.t 71), none⟩]
def r7_11 : List POp := [⟨73, .loads 3 (.t 12), none⟩,
  ⟨74, .call 33 [.t 73], none⟩,
  ⟨0, .stores 3 (.t 12) (.t 74), none⟩]
def r7_12 : List POp := [⟨76, .loads 3 (.t 12), none⟩,
  ⟨77, .mv (.t 1), none⟩,
  ⟨78, .call 36 [.t 77], none⟩,
  ⟨79, .call 35 [.t 76, .t 78], none⟩,
  ⟨80, .mv (.t 2), none⟩,
  ⟨81, .call 34 [.t 79, .t 80, .c (.int .i64 1000000000000000)], none⟩,
  ⟨75, .mv (.t 81), none⟩,
  ⟨82, .ext 0 (.t 75), none⟩,
  ⟨83, .ext 1 (.t 75), none⟩,
  ⟨13, .mv (.t 82), none⟩,
  ⟨14, .mv (.t 83), none⟩]
def r7_13 : List POp := [⟨84, .mv (.t 14), none⟩,
  ⟨85, .un .not (.t 84), none⟩]
def r7_14 : List POp := [⟨6, .asg (.c (.int .i64 0)), none⟩,
  ⟨7, .asg (.c (.int .i64 1)), none⟩]
def r7_15 : List POp := [⟨86, .mv (.t 13), none⟩,
  ⟨6, .asg (.t 86), none⟩,
  ⟨7, .asg (.c (.int .i64 0)), none⟩]
def p7 : PCode := .seq (.ops r7_0) (.seq (.seq (.ops r7_1) (.cond (.t 17) (.seq (.ops r7_2) (.ret)) (.skip))) (.seq (.seq (.ops r7_3) (.cond (.t 20) (.seq (.ops r7_4) (.ret)) (.skip))) (.seq (.ops r7_5) (.seq (.ops r7_6) (.seq (.seq (.ops r7_7) (.cond (.t 59) (.seq (.ops r7_8) (.ret)) (.skip))) (.seq (.ops r7_9) (.seq (.seq (.ops r7_10) (.cond (.t 72) (.ops r7_11) (.skip))) (.seq (.ops r7_12) (.seq (.seq (.ops r7_13) (.cond (.t 85) (.seq (.ops r7_14) (.ret)) (.skip))) (.seq (.ops r7_15) (.ret)))))))))))
theorem ok7 : okFunc Tryz.prog 7 [.t 6, .t 7] 3 p7 = true := by kernel_rfl
set_option maxHeartbeats 8000000 in
set_option maxRecDepth 20000 in
theorem rrdec_g (T : List UInt8) (sc way : Int) (hT : T.length ≤ 9223372036854775807) : CallOK Tryz.prog 7 [.val (.string (BS T)), .val (.int .i64 sc), .val (.int .i64 way)] (.tup [.val (.int .i64 (rdF T sc way).1), .val (.int .i64 (rdF T sc way).2)]) := by
  refine call_of mixed ok7 rfl ?_
  have c2 := isscale_c sc
  have cw := isway_c way
  by_cases o2 : noScale sc = true
  · rw [show rdF T sc way = (0, 1) by simp [rdF, o2]]
    rw [o2] at c2
    repeat' first | ((with_reducible (first | refine condD ?_ ?_ | refine condE ?_ ?_ | refine condN ?_ ?_ | refine condI ?_ ?_ | refine condS ?_ ?_)) <;> intro h) | ((with_reducible (first | refine guardD (by with_unfolding_all rfl) ?_ ?_ | refine guardE (by with_unfolding_all rfl) ?_ ?_ | refine guardN (by with_unfolding_all rfl) ?_ ?_ | refine guardI (by with_unfolding_all rfl) ?_ ?_ | refine guardS (by with_unfolding_all rfl) ?_ ?_)) <;> intro h) | ((refine callG c2 ?_)) | (with_reducible refine And.intro ?_ ?_; omega) | (simp only [Z0,Z1,Z2,Z3,Z4,Z5,Z6,Z7,Z8,Z9,Za,Zb,Zc,Zd,Ze,Zf,List.cons.injEq,Zg,Zh,Zi,Zj,Zk,Zl,Zm,Zn,Zo,Zp,beq_self_eq_true,bne_self_eq_false,decide_true,decide_false,Zq,Zr,Zs,Zt,Zu,Zv,Zw,Zx,Zy,Zz,Y0,Y1,Y2,Y3,Y4,Y5,Y6,Y7,Y8,Y9,Ya,Yb,Yc,Yd,Ye,Yf,Yg,Yh,lk,ef,Yi,Yj,Yk,Yl,Ym,Yn,Yo,Yp,Yq,Ys,Yt,hv,Yu,ev,Yv,Yw,Yx,Yy,Yz,X0,X1,X2,X3,X4,X5,X6,X7,X8,X9,Xa,Xb,Xc,Xd,Xe,Xf,Xg,Xh,Xi,Xj,Xk,Xl,Xm,Xn,Xo,Xp,Xq,Xr,Value.oneCell',Xs,Xt,Xu,Xv,true_and,and_true,and_self,implies_true,Xw,Xx,Xy,Xz,false_implies,W0,W1,W2,W3,W4,W5,W6,W7,W8,W9,Wa,Wb,Wc,Wd,We,Wf,Wg,reduceCtorEq,if_true,if_false,Wh,↓reduceIte,Wi,Wj,Wk,Wl,Wm,Wn,ne_eq,not_false_eq_true,not_true_eq_false,Wo,Wp,r7_0,r7_1,r7_2,r7_3,r7_4,r7_5,r7_6,r7_7,r7_8,r7_9,r7_10,r7_11,r7_12,r7_13,r7_14,r7_15,p7]) | (exfalso; omega)
  rw [Bool.not_eq_true] at o2
  rw [o2] at c2
  by_cases hw : outB way 1 3 = true
  · rw [show rdF T sc way = (0, 4) by simp [rdF, o2, hw]]
    rw [hw] at cw
    repeat' first | ((with_reducible (first | refine condD ?_ ?_ | refine condE ?_ ?_ | refine condN ?_ ?_ | refine condI ?_ ?_ | refine condS ?_ ?_)) <;> intro h) | ((with_reducible (first | refine guardD (by with_unfolding_all rfl) ?_ ?_ | refine guardE (by with_unfolding_all rfl) ?_ ?_ | refine guardN (by with_unfolding_all rfl) ?_ ?_ | refine guardI (by with_unfolding_all rfl) ?_ ?_ | refine guardS (by with_unfolding_all rfl) ?_ ?_)) <;> intro h) | ((refine callG c2 ?_)) | ((refine callG cw ?_)) | (with_reducible refine And.intro ?_ ?_; omega) | (simp only [Z0,Z1,Z2,Z3,Z4,Z5,Z6,Z7,Z8,Z9,Za,Zb,Zc,Zd,Ze,Zf,List.cons.injEq,Zg,Zh,Zi,Zj,Zk,Zl,Zm,Zn,Zo,Zp,beq_self_eq_true,bne_self_eq_false,decide_true,decide_false,Zq,Zr,Zs,Zt,Zu,Zv,Zw,Zx,Zy,Zz,Y0,Y1,Y2,Y3,Y4,Y5,Y6,Y7,Y8,Y9,Ya,Yb,Yc,Yd,Ye,Yf,Yg,Yh,lk,ef,Yi,Yj,Yk,Yl,Ym,Yn,Yo,Yp,Yq,Ys,Yt,hv,Yu,ev,Yv,Yw,Yx,Yy,Yz,X0,X1,X2,X3,X4,X5,X6,X7,X8,X9,Xa,Xb,Xc,Xd,Xe,Xf,Xg,Xh,Xi,Xj,Xk,Xl,Xm,Xn,Xo,Xp,Xq,Xr,Value.oneCell',Xs,Xt,Xu,Xv,true_and,and_true,and_self,implies_true,Xw,Xx,Xy,Xz,false_implies,W0,W1,W2,W3,W4,W5,W6,W7,W8,W9,Wa,Wb,Wc,Wd,We,Wf,Wg,reduceCtorEq,if_true,if_false,Wh,↓reduceIte,Wi,Wj,Wk,Wl,Wm,Wn,ne_eq,not_false_eq_true,not_true_eq_false,Wo,Wp,r7_0,r7_1,r7_2,r7_3,r7_4,r7_5,r7_6,r7_7,r7_8,r7_9,r7_10,r7_11,r7_12,r7_13,r7_14,r7_15,p7]) | (exfalso; omega)
  rw [Bool.not_eq_true] at hw
  rw [hw] at cw
  have hF : rdF T sc way = if rdBad T (cutW (trimPrefix T [45])) (cutP (trimPrefix T [45])) (cutB (trimPrefix T [45])) then (0, 10)
      else rdFin (hasPrefix T [45]) (rdN (hasPrefix T [45]) (cutW (trimPrefix T [45])) (cutP (trimPrefix T [45])) sc.toNat way) := by simp [rdF, o2, hw]
  rw [hF]
  clear hF
  have hTr := trimp_c T
  have hUl := trim_len T
  have hCut := cut_any (trimPrefix T [45]) (by omega)
  have hWP := cut_len (trimPrefix T [45])
  have hPz : cutB (trimPrefix T [45]) = false → cutP (trimPrefix T [45]) = [] := fun h => (cut_no' h).2
  have hBne : (trimPrefix T [45] == T) = !hasPrefix T [45] := trim_eq T
  generalize hasPrefix T [45] = neg at *
  generalize cutW (trimPrefix T [45]) = W at *
  generalize cutP (trimPrefix T [45]) = P at *
  generalize cutB (trimPrefix T [45]) = pt at *
  generalize trimPrefix T [45] = U at *
  by_cases c30 : 30 < T.length
  · have i30 : (30 : Int) < T.length := by omega
    rw [if_pos (by simp [rdBad, c30])]
    repeat' first | ((with_reducible (first | refine condD ?_ ?_ | refine condE ?_ ?_ | refine condN ?_ ?_ | refine condI ?_ ?_ | refine condS ?_ ?_)) <;> intro h) | ((with_reducible (first | refine guardD (by with_unfolding_all rfl) ?_ ?_ | refine guardE (by with_unfolding_all rfl) ?_ ?_ | refine guardN (by with_unfolding_all rfl) ?_ ?_ | refine guardI (by with_unfolding_all rfl) ?_ ?_ | refine guardS (by with_unfolding_all rfl) ?_ ?_)) <;> intro h) | ((refine callG c2 ?_)) | ((refine callG cw ?_)) | ((refine callG hTr ?_)) | ((refine callG hCut ?_)) | (with_reducible refine And.intro ?_ ?_; omega) | (simp only [Z0,Z1,Z2,Z3,Z4,Z5,Z6,Z7,Z8,Z9,Za,Zb,Zc,Zd,Ze,Zf,List.cons.injEq,Zg,Zh,Zi,Zj,Zk,Zl,Zm,Zn,Zo,Zp,beq_self_eq_true,bne_self_eq_false,decide_true,decide_false,Zq,Zr,Zs,Zt,Zu,Zv,Zw,Zx,Zy,Zz,Y0,Y1,Y2,Y3,Y4,Y5,Y6,Y7,Y8,Y9,Ya,Yb,Yc,Yd,Ye,Yf,Yg,Yh,lk,ef,Yi,Yj,Yk,Yl,Ym,Yn,Yo,Yp,Yq,Ys,Yt,hv,Yu,ev,Yv,Yw,Yx,Yy,Yz,X0,X1,X2,X3,X4,X5,X6,X7,X8,X9,Xa,Xb,Xc,Xd,Xe,Xf,Xg,Xh,Xi,Xj,Xk,Xl,Xm,Xn,Xo,Xp,Xq,Xr,Value.oneCell',Xs,Xt,Xu,Xv,true_and,and_true,and_self,implies_true,Xw,Xx,Xy,Xz,false_implies,W0,W1,W2,W3,W4,W5,W6,W7,W8,W9,Wa,Wb,Wc,Wd,We,Wf,Wg,reduceCtorEq,if_true,if_false,Wh,↓reduceIte,Wi,Wj,Wk,Wl,Wm,Wn,ne_eq,not_false_eq_true,not_true_eq_false,Wo,Wp,r7_0,r7_1,r7_2,r7_3,r7_4,r7_5,r7_6,r7_7,r7_8,r7_9,r7_10,r7_11,r7_12,r7_13,r7_14,r7_15,p7,BS_45,BS_46,BS_49,BS_size,BS_data,BS_toList,hBne,i30]) | (exfalso; omega)
  have i30 : ¬ (30 : Int) < T.length := by omega
  have hA1 := row_c W (by omega)
  have hA2 := row_c P (by omega)
  cases r1 : rowB W with
  | false =>
    rw [r1] at hA1
    rw [if_pos (by simp [rdBad, r1])]
    repeat' first | ((with_reducible (first | refine condD ?_ ?_ | refine condE ?_ ?_ | refine condN ?_ ?_ | refine condI ?_ ?_ | refine condS ?_ ?_)) <;> intro h) | ((with_reducible (first | refine guardD (by with_unfolding_all rfl) ?_ ?_ | refine guardE (by with_unfolding_all rfl) ?_ ?_ | refine guardN (by with_unfolding_all rfl) ?_ ?_ | refine guardI (by with_unfolding_all rfl) ?_ ?_ | refine guardS (by with_unfolding_all rfl) ?_ ?_)) <;> intro h) | ((refine callG c2 ?_)) | ((refine callG cw ?_)) | ((refine callG hTr ?_)) | ((refine callG hCut ?_)) | ((refine callG hA1 ?_)) | (with_reducible refine And.intro ?_ ?_; omega) | (simp only [Z0,Z1,Z2,Z3,Z4,Z5,Z6,Z7,Z8,Z9,Za,Zb,Zc,Zd,Ze,Zf,List.cons.injEq,Zg,Zh,Zi,Zj,Zk,Zl,Zm,Zn,Zo,Zp,beq_self_eq_true,bne_self_eq_false,decide_true,decide_false,Zq,Zr,Zs,Zt,Zu,Zv,Zw,Zx,Zy,Zz,Y0,Y1,Y2,Y3,Y4,Y5,Y6,Y7,Y8,Y9,Ya,Yb,Yc,Yd,Ye,Yf,Yg,Yh,lk,ef,Yi,Yj,Yk,Yl,Ym,Yn,Yo,Yp,Yq,Ys,Yt,hv,Yu,ev,Yv,Yw,Yx,Yy,Yz,X0,X1,X2,X3,X4,X5,X6,X7,X8,X9,Xa,Xb,Xc,Xd,Xe,Xf,Xg,Xh,Xi,Xj,Xk,Xl,Xm,Xn,Xo,Xp,Xq,Xr,Value.oneCell',Xs,Xt,Xu,Xv,true_and,and_true,and_self,implies_true,Xw,Xx,Xy,Xz,false_implies,W0,W1,W2,W3,W4,W5,W6,W7,W8,W9,Wa,Wb,Wc,Wd,We,Wf,Wg,reduceCtorEq,if_true,if_false,Wh,↓reduceIte,Wi,Wj,Wk,Wl,Wm,Wn,ne_eq,not_false_eq_true,not_true_eq_false,Wo,Wp,r7_0,r7_1,r7_2,r7_3,r7_4,r7_5,r7_6,r7_7,r7_8,r7_9,r7_10,r7_11,r7_12,r7_13,r7_14,r7_15,p7,BS_45,BS_46,BS_49,BS_size,BS_data,BS_toList,hBne,i30]) | (exfalso; omega)
  | true =>
  rw [r1] at hA1
  obtain ⟨hWne, hWd⟩ := rowB_t r1
  have hWp : 0 < W.length := List.length_pos_iff.2 hWne
  have hWpi : (0 : Int) < W.length := by omega
  by_cases z0 : W.getD 0 0 = 48 ∧ 1 < W.length
  · have z1 : ((((W.getD 0 0).toNat : Nat) : Int) == 48) = true := by rw [z0.1]; rfl
    have z2 : (1 : Int) < W.length := by omega
    rw [if_pos (by unfold rdBad; rw [decide_eq_true z0.1, decide_eq_true z0.2]; simp)]
    generalize hw0 : W.getD 0 0 = w0 at *
    repeat' first | ((with_reducible (first | refine condD ?_ ?_ | refine condE ?_ ?_ | refine condN ?_ ?_ | refine condI ?_ ?_ | refine condS ?_ ?_)) <;> intro h) | ((with_reducible (first | refine guardD (by with_unfolding_all rfl) ?_ ?_ | refine guardE (by with_unfolding_all rfl) ?_ ?_ | refine guardN (by with_unfolding_all rfl) ?_ ?_ | refine guardI (by with_unfolding_all rfl) ?_ ?_ | refine guardS (by with_unfolding_all rfl) ?_ ?_)) <;> intro h) | ((refine callG c2 ?_)) | ((refine callG cw ?_)) | ((refine callG hTr ?_)) | ((refine callG hCut ?_)) | ((refine callG hA1 ?_)) | (with_reducible refine And.intro ?_ ?_; omega) | (simp only [Z0,Z1,Z2,Z3,Z4,Z5,Z6,Z7,Z8,Z9,Za,Zb,Zc,Zd,Ze,Zf,List.cons.injEq,Zg,Zh,Zi,Zj,Zk,Zl,Zm,Zn,Zo,Zp,beq_self_eq_true,bne_self_eq_false,decide_true,decide_false,Zq,Zr,Zs,Zt,Zu,Zv,Zw,Zx,Zy,Zz,Y0,Y1,Y2,Y3,Y4,Y5,Y6,Y7,Y8,Y9,Ya,Yb,Yc,Yd,Ye,Yf,Yg,Yh,lk,ef,Yi,Yj,Yk,Yl,Ym,Yn,Yo,Yp,Yq,Ys,Yt,hv,Yu,ev,Yv,Yw,Yx,Yy,Yz,X0,X1,X2,X3,X4,X5,X6,X7,X8,X9,Xa,Xb,Xc,Xd,Xe,Xf,Xg,Xh,Xi,Xj,Xk,Xl,Xm,Xn,Xo,Xp,Xq,Xr,Value.oneCell',Xs,Xt,Xu,Xv,true_and,and_true,and_self,implies_true,Xw,Xx,Xy,Xz,false_implies,W0,W1,W2,W3,W4,W5,W6,W7,W8,W9,Wa,Wb,Wc,Wd,We,Wf,Wg,reduceCtorEq,if_true,if_false,Wh,↓reduceIte,Wi,Wj,Wk,Wl,Wm,Wn,ne_eq,not_false_eq_true,not_true_eq_false,Wo,Wp,r7_0,r7_1,r7_2,r7_3,r7_4,r7_5,r7_6,r7_7,r7_8,r7_9,r7_10,r7_11,r7_12,r7_13,r7_14,r7_15,p7,BS_45,BS_46,BS_49,BS_size,BS_data,BS_toList,hBne,i30,hw0,hWpi,z1,z2]) | (exfalso; omega)
  have h48 : ¬ (1 : Int) < W.length ∨ ((1 : Int) < W.length ∧ ((((W.getD 0 0).toNat : Nat) : Int) == 48) = false) := by
    by_cases q : 1 < W.length
    · right
      refine ⟨by omega, ?_⟩
      rw [beq_eq_false_iff_ne]
      intro z
      exact z0 ⟨UInt8.toNat_inj.1 (by change _ = 48; omega), q⟩
    · left
      omega
  have hbd : (decide (W.getD 0 0 = 48) && decide (1 < W.length)) = false := by
    rw [← Bool.decide_and]; exact decide_eq_false z0
  have hBad : rdBad T W P pt = (pt && (!rowB P || decide (9 < P.length))) := by
    unfold rdBad
    rw [decide_eq_false c30, r1, hbd]
    simp
  rw [hBad]
  generalize hw0 : W.getD 0 0 = w0 at *
  clear hBad hbd z0
  by_cases b1 : pt = true ∧ rowB P = false
  · obtain ⟨rfl, r2⟩ := b1
    rw [r2] at hA2
    rw [r2, if_pos (by simp)]
    rcases h48 with z2 | ⟨z2, z1⟩
    · repeat' first | ((with_reducible (first | refine condD ?_ ?_ | refine condE ?_ ?_ | refine condN ?_ ?_ | refine condI ?_ ?_ | refine condS ?_ ?_)) <;> intro h) | ((with_reducible (first | refine guardD (by with_unfolding_all rfl) ?_ ?_ | refine guardE (by with_unfolding_all rfl) ?_ ?_ | refine guardN (by with_unfolding_all rfl) ?_ ?_ | refine guardI (by with_unfolding_all rfl) ?_ ?_ | refine guardS (by with_unfolding_all rfl) ?_ ?_)) <;> intro h) | ((refine callG c2 ?_)) | ((refine callG cw ?_)) | ((refine callG hTr ?_)) | ((refine callG hCut ?_)) | ((refine callG hA1 ?_)) | ((refine callG hA2 ?_)) | (with_reducible refine And.intro ?_ ?_; omega) | (simp only [Z0,Z1,Z2,Z3,Z4,Z5,Z6,Z7,Z8,Z9,Za,Zb,Zc,Zd,Ze,Zf,List.cons.injEq,Zg,Zh,Zi,Zj,Zk,Zl,Zm,Zn,Zo,Zp,beq_self_eq_true,bne_self_eq_false,decide_true,decide_false,Zq,Zr,Zs,Zt,Zu,Zv,Zw,Zx,Zy,Zz,Y0,Y1,Y2,Y3,Y4,Y5,Y6,Y7,Y8,Y9,Ya,Yb,Yc,Yd,Ye,Yf,Yg,Yh,lk,ef,Yi,Yj,Yk,Yl,Ym,Yn,Yo,Yp,Yq,Ys,Yt,hv,Yu,ev,Yv,Yw,Yx,Yy,Yz,X0,X1,X2,X3,X4,X5,X6,X7,X8,X9,Xa,Xb,Xc,Xd,Xe,Xf,Xg,Xh,Xi,Xj,Xk,Xl,Xm,Xn,Xo,Xp,Xq,Xr,Value.oneCell',Xs,Xt,Xu,Xv,true_and,and_true,and_self,implies_true,Xw,Xx,Xy,Xz,false_implies,W0,W1,W2,W3,W4,W5,W6,W7,W8,W9,Wa,Wb,Wc,Wd,We,Wf,Wg,reduceCtorEq,if_true,if_false,Wh,↓reduceIte,Wi,Wj,Wk,Wl,Wm,Wn,ne_eq,not_false_eq_true,not_true_eq_false,Wo,Wp,r7_0,r7_1,r7_2,r7_3,r7_4,r7_5,r7_6,r7_7,r7_8,r7_9,r7_10,r7_11,r7_12,r7_13,r7_14,r7_15,p7,BS_45,BS_46,BS_49,BS_size,BS_data,BS_toList,hBne,i30,z2]) | (exfalso; omega)
    · repeat' first | ((with_reducible (first | refine condD ?_ ?_ | refine condE ?_ ?_ | refine condN ?_ ?_ | refine condI ?_ ?_ | refine condS ?_ ?_)) <;> intro h) | ((with_reducible (first | refine guardD (by with_unfolding_all rfl) ?_ ?_ | refine guardE (by with_unfolding_all rfl) ?_ ?_ | refine guardN (by with_unfolding_all rfl) ?_ ?_ | refine guardI (by with_unfolding_all rfl) ?_ ?_ | refine guardS (by with_unfolding_all rfl) ?_ ?_)) <;> intro h) | ((refine callG c2 ?_)) | ((refine callG cw ?_)) | ((refine callG hTr ?_)) | ((refine callG hCut ?_)) | ((refine callG hA1 ?_)) | ((refine callG hA2 ?_)) | (with_reducible refine And.intro ?_ ?_; omega) | (simp only [Z0,Z1,Z2,Z3,Z4,Z5,Z6,Z7,Z8,Z9,Za,Zb,Zc,Zd,Ze,Zf,List.cons.injEq,Zg,Zh,Zi,Zj,Zk,Zl,Zm,Zn,Zo,Zp,beq_self_eq_true,bne_self_eq_false,decide_true,decide_false,Zq,Zr,Zs,Zt,Zu,Zv,Zw,Zx,Zy,Zz,Y0,Y1,Y2,Y3,Y4,Y5,Y6,Y7,Y8,Y9,Ya,Yb,Yc,Yd,Ye,Yf,Yg,Yh,lk,ef,Yi,Yj,Yk,Yl,Ym,Yn,Yo,Yp,Yq,Ys,Yt,hv,Yu,ev,Yv,Yw,Yx,Yy,Yz,X0,X1,X2,X3,X4,X5,X6,X7,X8,X9,Xa,Xb,Xc,Xd,Xe,Xf,Xg,Xh,Xi,Xj,Xk,Xl,Xm,Xn,Xo,Xp,Xq,Xr,Value.oneCell',Xs,Xt,Xu,Xv,true_and,and_true,and_self,implies_true,Xw,Xx,Xy,Xz,false_implies,W0,W1,W2,W3,W4,W5,W6,W7,W8,W9,Wa,Wb,Wc,Wd,We,Wf,Wg,reduceCtorEq,if_true,if_false,Wh,↓reduceIte,Wi,Wj,Wk,Wl,Wm,Wn,ne_eq,not_false_eq_true,not_true_eq_false,Wo,Wp,r7_0,r7_1,r7_2,r7_3,r7_4,r7_5,r7_6,r7_7,r7_8,r7_9,r7_10,r7_11,r7_12,r7_13,r7_14,r7_15,p7,BS_45,BS_46,BS_49,BS_size,BS_data,BS_toList,hBne,i30,hw0,hWpi,z1,z2]) | (exfalso; omega)
  have hr2 : pt = true → rowB P = true := fun q => by
    cases r2 : rowB P with
    | true => rfl
    | false => exact absurd ⟨q, r2⟩ b1
  by_cases b2 : pt = true ∧ 9 < P.length
  · obtain ⟨rfl, p9⟩ := b2
    have i9 : (9 : Int) < P.length := by omega
    rw [hr2 rfl] at hA2
    rw [hr2 rfl, decide_eq_true p9, if_pos (by simp)]
    rcases h48 with z2 | ⟨z2, z1⟩
    · repeat' first | ((with_reducible (first | refine condD ?_ ?_ | refine condE ?_ ?_ | refine condN ?_ ?_ | refine condI ?_ ?_ | refine condS ?_ ?_)) <;> intro h) | ((with_reducible (first | refine guardD (by with_unfolding_all rfl) ?_ ?_ | refine guardE (by with_unfolding_all rfl) ?_ ?_ | refine guardN (by with_unfolding_all rfl) ?_ ?_ | refine guardI (by with_unfolding_all rfl) ?_ ?_ | refine guardS (by with_unfolding_all rfl) ?_ ?_)) <;> intro h) | ((refine callG c2 ?_)) | ((refine callG cw ?_)) | ((refine callG hTr ?_)) | ((refine callG hCut ?_)) | ((refine callG hA1 ?_)) | ((refine callG hA2 ?_)) | (with_reducible refine And.intro ?_ ?_; omega) | (simp only [Z0,Z1,Z2,Z3,Z4,Z5,Z6,Z7,Z8,Z9,Za,Zb,Zc,Zd,Ze,Zf,List.cons.injEq,Zg,Zh,Zi,Zj,Zk,Zl,Zm,Zn,Zo,Zp,beq_self_eq_true,bne_self_eq_false,decide_true,decide_false,Zq,Zr,Zs,Zt,Zu,Zv,Zw,Zx,Zy,Zz,Y0,Y1,Y2,Y3,Y4,Y5,Y6,Y7,Y8,Y9,Ya,Yb,Yc,Yd,Ye,Yf,Yg,Yh,lk,ef,Yi,Yj,Yk,Yl,Ym,Yn,Yo,Yp,Yq,Ys,Yt,hv,Yu,ev,Yv,Yw,Yx,Yy,Yz,X0,X1,X2,X3,X4,X5,X6,X7,X8,X9,Xa,Xb,Xc,Xd,Xe,Xf,Xg,Xh,Xi,Xj,Xk,Xl,Xm,Xn,Xo,Xp,Xq,Xr,Value.oneCell',Xs,Xt,Xu,Xv,true_and,and_true,and_self,implies_true,Xw,Xx,Xy,Xz,false_implies,W0,W1,W2,W3,W4,W5,W6,W7,W8,W9,Wa,Wb,Wc,Wd,We,Wf,Wg,reduceCtorEq,if_true,if_false,Wh,↓reduceIte,Wi,Wj,Wk,Wl,Wm,Wn,ne_eq,not_false_eq_true,not_true_eq_false,Wo,Wp,r7_0,r7_1,r7_2,r7_3,r7_4,r7_5,r7_6,r7_7,r7_8,r7_9,r7_10,r7_11,r7_12,r7_13,r7_14,r7_15,p7,BS_45,BS_46,BS_49,BS_size,BS_data,BS_toList,hBne,i30,i9,z2]) | (exfalso; omega)
    · repeat' first | ((with_reducible (first | refine condD ?_ ?_ | refine condE ?_ ?_ | refine condN ?_ ?_ | refine condI ?_ ?_ | refine condS ?_ ?_)) <;> intro h) | ((with_reducible (first | refine guardD (by with_unfolding_all rfl) ?_ ?_ | refine guardE (by with_unfolding_all rfl) ?_ ?_ | refine guardN (by with_unfolding_all rfl) ?_ ?_ | refine guardI (by with_unfolding_all rfl) ?_ ?_ | refine guardS (by with_unfolding_all rfl) ?_ ?_)) <;> intro h) | ((refine callG c2 ?_)) | ((refine callG cw ?_)) | ((refine callG hTr ?_)) | ((refine callG hCut ?_)) | ((refine callG hA1 ?_)) | ((refine callG hA2 ?_)) | (with_reducible refine And.intro ?_ ?_; omega) | (simp only [Z0,Z1,Z2,Z3,Z4,Z5,Z6,Z7,Z8,Z9,Za,Zb,Zc,Zd,Ze,Zf,List.cons.injEq,Zg,Zh,Zi,Zj,Zk,Zl,Zm,Zn,Zo,Zp,beq_self_eq_true,bne_self_eq_false,decide_true,decide_false,Zq,Zr,Zs,Zt,Zu,Zv,Zw,Zx,Zy,Zz,Y0,Y1,Y2,Y3,Y4,Y5,Y6,Y7,Y8,Y9,Ya,Yb,Yc,Yd,Ye,Yf,Yg,Yh,lk,ef,Yi,Yj,Yk,Yl,Ym,Yn,Yo,Yp,Yq,Ys,Yt,hv,Yu,ev,Yv,Yw,Yx,Yy,Yz,X0,X1,X2,X3,X4,X5,X6,X7,X8,X9,Xa,Xb,Xc,Xd,Xe,Xf,Xg,Xh,Xi,Xj,Xk,Xl,Xm,Xn,Xo,Xp,Xq,Xr,Value.oneCell',Xs,Xt,Xu,Xv,true_and,and_true,and_self,implies_true,Xw,Xx,Xy,Xz,false_implies,W0,W1,W2,W3,W4,W5,W6,W7,W8,W9,Wa,Wb,Wc,Wd,We,Wf,Wg,reduceCtorEq,if_true,if_false,Wh,↓reduceIte,Wi,Wj,Wk,Wl,Wm,Wn,ne_eq,not_false_eq_true,not_true_eq_false,Wo,Wp,r7_0,r7_1,r7_2,r7_3,r7_4,r7_5,r7_6,r7_7,r7_8,r7_9,r7_10,r7_11,r7_12,r7_13,r7_14,r7_15,p7,BS_45,BS_46,BS_49,BS_size,BS_data,BS_toList,hBne,i30,i9,hw0,hWpi,z1,z2]) | (exfalso; omega)
  have hp9 : P.length ≤ 9 := by
    cases pt with
    | true => exact Nat.le_of_not_lt fun z => b2 ⟨rfl, z⟩
    | false => rw [hPz rfl]; decide
  have hPd : ∀ c ∈ P, digB c = true := by
    cases pt with
    | true => exact (rowB_t (hr2 rfl)).2
    | false => rw [hPz rfl]; simp
  have i9 : ¬ (9 : Int) < P.length := by omega
  rw [if_neg (by
    cases pt with
    | true => rw [hr2 rfl, decide_eq_false (by omega)]; simp
    | false => simp)]
  have hA2' : pt = true → CallOK Tryz.prog 29 [.val (.string (BS P))] (.val (.bool true)) := fun q => by rw [hr2 q] at hA2; exact hA2
  clear hA2 b1 b2 hr2 r1 hPz
  have bS := noScale_bd o2
  obtain ⟨S, rfl⟩ : ∃ k : Nat, sc = k := ⟨sc.toNat, by omega⟩
  rw [Int.toNat_natCast]
  have hkp : 0 < 10 ^ P.length := Nat.pow_pos (by decide)
  have hk9 : 10 ^ P.length ≤ 10 ^ 9 := Nat.pow_le_pow_right (by decide) hp9
  have hWPd : ∀ c ∈ W ++ P, digB c = true := fun c hc => by
    rcases List.mem_append.1 hc with hc | hc
    · exact hWd c hc
    · exact hPd c hc
  have hWPl : (W ++ P).length ≤ 30 := by rw [List.length_append]; omega
  have hL1 := limbs_c (W ++ P) hWPd (by omega)
  have hrep := repeat_c P.length (by omega)
  have hTd : ∀ c ∈ (49 : UInt8) :: List.replicate P.length 48, digB c = true := fun c hc => by
    rcases List.mem_cons.1 hc with rfl | hc
    · rfl
    · rw [List.eq_of_mem_replicate hc]; rfl
  have hL2 := limbs_c (49 :: List.replicate P.length 48) hTd (by rw [List.length_cons, List.length_replicate]; omega)
  rw [numL_ten] at hL2
  have hVlt := numL_lt hWPd
  have hV30 : 10 ^ (W ++ P).length ≤ 10 ^ 30 := Nat.pow_le_pow_right (by decide) hWPl
  have hRP : [49] ++ List.replicate P.length 48 = 49 :: List.replicate P.length 48 := rfl
  have hRl : (List.replicate P.length (48 : UInt8)).length = P.length := List.length_replicate
  unfold rdN
  rw [← numL_app]
  generalize numL (W ++ P) = V at *
  generalize List.replicate P.length (48 : UInt8) = Z at *
  have hLow := lowest_c false V (10 ^ P.length) hkp (Nat.le_trans (lm_s10 (by omega)) (by decide)) (Nat.le_trans (lm_s10 (by omega)) (by decide))
  rw [rq_of, if_neg (by simp)] at hLow
  have hMin := minus_q (V : Int) (10 ^ P.length) hkp
  have iS := int_c S (by omega) (by omega)
  have l1 : (lm 1).length ≤ 400 := by rw [lm_1]; decide
  have hVS : V * S ≤ 10 ^ 30 * 1000000000 := Nat.mul_le_mul (by omega) (by omega)
  have hTm := times_q (if neg then -(V : Int) else V) (S : Int) (10 ^ P.length) 1 hkp (by decide) (by cases neg <;> simp <;> exact Nat.le_trans (lm_s10 (by omega)) (by decide)) (Nat.le_trans (lm_s10 (by omega)) (by decide)) (Nat.le_trans (lm_s10 (by omega)) (by decide)) l1
  rw [Nat.mul_one] at hTm
  have eA : ((if neg then -(V : Int) else V) * (S : Int)).natAbs = V * S := by
    rw [Int.natAbs_mul, Int.natAbs_natCast]
    cases neg <;> simp
  have eS : decide ((if neg then -(V : Int) else V) * (S : Int) < 0) = (neg && decide (0 < V * S)) := by
    cases neg
    · simp only [Bool.false_eq_true, if_false, Bool.false_and]
      exact decide_eq_false (by rw [← Int.natCast_mul]; omega)
    · simp only [if_true, Bool.true_and]
      rw [decide_eq_decide, Int.neg_mul, ← Int.natCast_mul]
      omega
  have hRd := round18_c ((if neg then -(V : Int) else V) * (S : Int)) (10 ^ P.length) way 1000000000000000 (by decide) hkp (by rw [eA]; exact Nat.le_trans (lm_s10 (by omega)) (by decide)) (Nat.le_trans (lm_s10 (by omega)) (by decide))
  rw [eA, eS, rnd_sgn _ _ _ _ hkp] at hRd
  obtain ⟨N, hN⟩ : ∃ N, N = rndN neg (V * S) (10 ^ P.length) way := ⟨_, rfl⟩
  have hN0 : V * S = 0 → N = 0 := fun q => by rw [hN, rdN_neg0 _ _ q hkp]
  rw [← hN] at hRd ⊢
  have hz : (if 1000000000000000 < N then (0 : Int) else if (if neg then -(V : Int) else V) * (S : Int) < 0 then -(N : Int) else N) = (rdFin neg N).1 := by
    unfold rdFin
    by_cases q : 1000000000000000 < N
    · rw [if_pos q, if_pos q]
    · rw [if_neg q, if_neg q]
      simp only
      have e2 : ((if neg then -(V : Int) else V) * (S : Int) < 0) ↔ (neg && decide (0 < V * S)) = true := by rw [← eS, decide_eq_true_eq]
      cases neg
      · rw [if_neg (fun z => by have := e2.1 z; simp at this), if_neg (by simp)]
      · by_cases p : 0 < V * S
        · rw [if_pos (e2.2 (by simpa using p)), if_pos rfl]
        · rw [if_neg (fun z => p (by have := e2.1 z; simpa using this)), if_pos rfl, hN0 (by omega)]
          rfl
  rw [hz] at hRd
  have hfin : rdFin neg N = ((rdFin neg N).1, if N ≤ 1000000000000000 then 0 else 1) := by
    unfold rdFin
    by_cases q : 1000000000000000 < N
    · rw [if_pos q, if_neg (show ¬ N ≤ 1000000000000000 by omega)]
    · rw [if_neg q, if_pos (show N ≤ 1000000000000000 by omega)]
  rw [hfin]
  have hbM : ¬ N ≤ 1000000000000000 → (rdFin neg N).1 = 0 := fun q => by rw [rdFin, if_pos (by omega)]
  generalize (rdFin neg N).1 = M at *
  clear hz hfin hN0 hN eA eS hVS hVlt hV30
  cases neg with
  | true =>
    simp only [Bool.false_eq_true, if_true, if_false, Bool.not_true, Bool.not_false] at *
    generalize RQ (-(V : Int) * (S : Int)) (10 ^ P.length) = R2 at *
    obtain ⟨u1, u2, u3, hR1⟩ : ∃ u v w, RQ (-(V : Int)) (10 ^ P.length) = [u, v, w] := ⟨_, _, _, rfl⟩
    simp only [hR1] at hMin hTm
    clear hR1
    obtain ⟨v1, v2, v3, hR0⟩ : ∃ u v w, RQ (V : Int) (10 ^ P.length) = [u, v, w] := ⟨_, _, _, rfl⟩
    simp only [hR0] at hLow hMin hTm
    clear hR0
    generalize RQ (S : Int) 1 = R3 at *
    by_cases hbig : N ≤ 1000000000000000
    · rw [if_pos hbig]
      rw [decide_eq_true hbig] at hRd
      cases pt with
      | true =>
        have hA2 := hA2' rfl
        rcases h48 with z2 | ⟨z2, z1⟩
        · repeat' first | ((with_reducible (first | refine condD ?_ ?_ | refine condE ?_ ?_ | refine condN ?_ ?_ | refine condI ?_ ?_ | refine condS ?_ ?_)) <;> intro h) | ((with_reducible (first | refine guardD (by with_unfolding_all rfl) ?_ ?_ | refine guardE (by with_unfolding_all rfl) ?_ ?_ | refine guardN (by with_unfolding_all rfl) ?_ ?_ | refine guardI (by with_unfolding_all rfl) ?_ ?_ | refine guardS (by with_unfolding_all rfl) ?_ ?_)) <;> intro h) | ((refine callG c2 ?_)) | ((refine callG cw ?_)) | ((refine callG hTr ?_)) | ((refine callG hCut ?_)) | ((refine callG hA1 ?_)) | ((refine callG hA2 ?_)) | ((refine callG hL1 ?_)) | ((refine callG hrep ?_)) | ((refine callG hL2 ?_)) | ((refine callG hLow ?_)) | ((refine callG hMin ?_)) | ((refine callG iS ?_)) | ((refine callG hTm ?_)) | ((refine callG hRd ?_)) | (with_reducible refine And.intro ?_ ?_; omega) | (simp only [Z0,Z1,Z2,Z3,Z4,Z5,Z6,Z7,Z8,Z9,Za,Zb,Zc,Zd,Ze,Zf,List.cons.injEq,Zg,Zh,Zi,Zj,Zk,Zl,Zm,Zn,Zo,Zp,beq_self_eq_true,bne_self_eq_false,decide_true,decide_false,Zq,Zr,Zs,Zt,Zu,Zv,Zw,Zx,Zy,Zz,Y0,Y1,Y2,Y3,Y4,Y5,Y6,Y7,Y8,Y9,Ya,Yb,Yc,Yd,Ye,Yf,Yg,Yh,lk,ef,Yi,Yj,Yk,Yl,Ym,Yn,Yo,Yp,Yq,Ys,Yt,hv,Yu,ev,Yv,Yw,Yx,Yy,Yz,X0,X1,X2,X3,X4,X5,X6,X7,X8,X9,Xa,Xb,Xc,Xd,Xe,Xf,Xg,Xh,Xi,Xj,Xk,Xl,Xm,Xn,Xo,Xp,Xq,Xr,Value.oneCell',Xs,Xt,Xu,Xv,true_and,and_true,and_self,implies_true,Xw,Xx,Xy,Xz,false_implies,W0,W1,W2,W3,W4,W5,W6,W7,W8,W9,Wa,Wb,Wc,Wd,We,Wf,Wg,reduceCtorEq,if_true,if_false,Wh,↓reduceIte,Wi,Wj,Wk,Wl,Wm,Wn,ne_eq,not_false_eq_true,not_true_eq_false,Wo,Wp,r7_0,r7_1,r7_2,r7_3,r7_4,r7_5,r7_6,r7_7,r7_8,r7_9,r7_10,r7_11,r7_12,r7_13,r7_14,r7_15,p7,BS_45,BS_46,BS_49,BS_size,BS_data,BS_toList,hBne,BS_app,hRP,hRl,List.length_append,List.length_singleton,i9,i30,z2]) | (exfalso; omega)
          all_goals first | omega | done
        · repeat' first | ((with_reducible (first | refine condD ?_ ?_ | refine condE ?_ ?_ | refine condN ?_ ?_ | refine condI ?_ ?_ | refine condS ?_ ?_)) <;> intro h) | ((with_reducible (first | refine guardD (by with_unfolding_all rfl) ?_ ?_ | refine guardE (by with_unfolding_all rfl) ?_ ?_ | refine guardN (by with_unfolding_all rfl) ?_ ?_ | refine guardI (by with_unfolding_all rfl) ?_ ?_ | refine guardS (by with_unfolding_all rfl) ?_ ?_)) <;> intro h) | ((refine callG c2 ?_)) | ((refine callG cw ?_)) | ((refine callG hTr ?_)) | ((refine callG hCut ?_)) | ((refine callG hA1 ?_)) | ((refine callG hA2 ?_)) | ((refine callG hL1 ?_)) | ((refine callG hrep ?_)) | ((refine callG hL2 ?_)) | ((refine callG hLow ?_)) | ((refine callG hMin ?_)) | ((refine callG iS ?_)) | ((refine callG hTm ?_)) | ((refine callG hRd ?_)) | (with_reducible refine And.intro ?_ ?_; omega) | (simp only [Z0,Z1,Z2,Z3,Z4,Z5,Z6,Z7,Z8,Z9,Za,Zb,Zc,Zd,Ze,Zf,List.cons.injEq,Zg,Zh,Zi,Zj,Zk,Zl,Zm,Zn,Zo,Zp,beq_self_eq_true,bne_self_eq_false,decide_true,decide_false,Zq,Zr,Zs,Zt,Zu,Zv,Zw,Zx,Zy,Zz,Y0,Y1,Y2,Y3,Y4,Y5,Y6,Y7,Y8,Y9,Ya,Yb,Yc,Yd,Ye,Yf,Yg,Yh,lk,ef,Yi,Yj,Yk,Yl,Ym,Yn,Yo,Yp,Yq,Ys,Yt,hv,Yu,ev,Yv,Yw,Yx,Yy,Yz,X0,X1,X2,X3,X4,X5,X6,X7,X8,X9,Xa,Xb,Xc,Xd,Xe,Xf,Xg,Xh,Xi,Xj,Xk,Xl,Xm,Xn,Xo,Xp,Xq,Xr,Value.oneCell',Xs,Xt,Xu,Xv,true_and,and_true,and_self,implies_true,Xw,Xx,Xy,Xz,false_implies,W0,W1,W2,W3,W4,W5,W6,W7,W8,W9,Wa,Wb,Wc,Wd,We,Wf,Wg,reduceCtorEq,if_true,if_false,Wh,↓reduceIte,Wi,Wj,Wk,Wl,Wm,Wn,ne_eq,not_false_eq_true,not_true_eq_false,Wo,Wp,r7_0,r7_1,r7_2,r7_3,r7_4,r7_5,r7_6,r7_7,r7_8,r7_9,r7_10,r7_11,r7_12,r7_13,r7_14,r7_15,p7,BS_45,BS_46,BS_49,BS_size,BS_data,BS_toList,hBne,BS_app,hRP,hRl,List.length_append,List.length_singleton,i9,i30,hw0,hWpi,z1,z2]) | (exfalso; omega)
          all_goals first | omega | done
      | false =>
        rcases h48 with z2 | ⟨z2, z1⟩
        · repeat' first | ((with_reducible (first | refine condD ?_ ?_ | refine condE ?_ ?_ | refine condN ?_ ?_ | refine condI ?_ ?_ | refine condS ?_ ?_)) <;> intro h) | ((with_reducible (first | refine guardD (by with_unfolding_all rfl) ?_ ?_ | refine guardE (by with_unfolding_all rfl) ?_ ?_ | refine guardN (by with_unfolding_all rfl) ?_ ?_ | refine guardI (by with_unfolding_all rfl) ?_ ?_ | refine guardS (by with_unfolding_all rfl) ?_ ?_)) <;> intro h) | ((refine callG c2 ?_)) | ((refine callG cw ?_)) | ((refine callG hTr ?_)) | ((refine callG hCut ?_)) | ((refine callG hA1 ?_)) | ((refine callG hL1 ?_)) | ((refine callG hrep ?_)) | ((refine callG hL2 ?_)) | ((refine callG hLow ?_)) | ((refine callG hMin ?_)) | ((refine callG iS ?_)) | ((refine callG hTm ?_)) | ((refine callG hRd ?_)) | (with_reducible refine And.intro ?_ ?_; omega) | (simp only [Z0,Z1,Z2,Z3,Z4,Z5,Z6,Z7,Z8,Z9,Za,Zb,Zc,Zd,Ze,Zf,List.cons.injEq,Zg,Zh,Zi,Zj,Zk,Zl,Zm,Zn,Zo,Zp,beq_self_eq_true,bne_self_eq_false,decide_true,decide_false,Zq,Zr,Zs,Zt,Zu,Zv,Zw,Zx,Zy,Zz,Y0,Y1,Y2,Y3,Y4,Y5,Y6,Y7,Y8,Y9,Ya,Yb,Yc,Yd,Ye,Yf,Yg,Yh,lk,ef,Yi,Yj,Yk,Yl,Ym,Yn,Yo,Yp,Yq,Ys,Yt,hv,Yu,ev,Yv,Yw,Yx,Yy,Yz,X0,X1,X2,X3,X4,X5,X6,X7,X8,X9,Xa,Xb,Xc,Xd,Xe,Xf,Xg,Xh,Xi,Xj,Xk,Xl,Xm,Xn,Xo,Xp,Xq,Xr,Value.oneCell',Xs,Xt,Xu,Xv,true_and,and_true,and_self,implies_true,Xw,Xx,Xy,Xz,false_implies,W0,W1,W2,W3,W4,W5,W6,W7,W8,W9,Wa,Wb,Wc,Wd,We,Wf,Wg,reduceCtorEq,if_true,if_false,Wh,↓reduceIte,Wi,Wj,Wk,Wl,Wm,Wn,ne_eq,not_false_eq_true,not_true_eq_false,Wo,Wp,r7_0,r7_1,r7_2,r7_3,r7_4,r7_5,r7_6,r7_7,r7_8,r7_9,r7_10,r7_11,r7_12,r7_13,r7_14,r7_15,p7,BS_45,BS_46,BS_49,BS_size,BS_data,BS_toList,hBne,BS_app,hRP,hRl,List.length_append,List.length_singleton,i9,i30,z2]) | (exfalso; omega)
          all_goals first | omega | done
        · repeat' first | ((with_reducible (first | refine condD ?_ ?_ | refine condE ?_ ?_ | refine condN ?_ ?_ | refine condI ?_ ?_ | refine condS ?_ ?_)) <;> intro h) | ((with_reducible (first | refine guardD (by with_unfolding_all rfl) ?_ ?_ | refine guardE (by with_unfolding_all rfl) ?_ ?_ | refine guardN (by with_unfolding_all rfl) ?_ ?_ | refine guardI (by with_unfolding_all rfl) ?_ ?_ | refine guardS (by with_unfolding_all rfl) ?_ ?_)) <;> intro h) | ((refine callG c2 ?_)) | ((refine callG cw ?_)) | ((refine callG hTr ?_)) | ((refine callG hCut ?_)) | ((refine callG hA1 ?_)) | ((refine callG hL1 ?_)) | ((refine callG hrep ?_)) | ((refine callG hL2 ?_)) | ((refine callG hLow ?_)) | ((refine callG hMin ?_)) | ((refine callG iS ?_)) | ((refine callG hTm ?_)) | ((refine callG hRd ?_)) | (with_reducible refine And.intro ?_ ?_; omega) | (simp only [Z0,Z1,Z2,Z3,Z4,Z5,Z6,Z7,Z8,Z9,Za,Zb,Zc,Zd,Ze,Zf,List.cons.injEq,Zg,Zh,Zi,Zj,Zk,Zl,Zm,Zn,Zo,Zp,beq_self_eq_true,bne_self_eq_false,decide_true,decide_false,Zq,Zr,Zs,Zt,Zu,Zv,Zw,Zx,Zy,Zz,Y0,Y1,Y2,Y3,Y4,Y5,Y6,Y7,Y8,Y9,Ya,Yb,Yc,Yd,Ye,Yf,Yg,Yh,lk,ef,Yi,Yj,Yk,Yl,Ym,Yn,Yo,Yp,Yq,Ys,Yt,hv,Yu,ev,Yv,Yw,Yx,Yy,Yz,X0,X1,X2,X3,X4,X5,X6,X7,X8,X9,Xa,Xb,Xc,Xd,Xe,Xf,Xg,Xh,Xi,Xj,Xk,Xl,Xm,Xn,Xo,Xp,Xq,Xr,Value.oneCell',Xs,Xt,Xu,Xv,true_and,and_true,and_self,implies_true,Xw,Xx,Xy,Xz,false_implies,W0,W1,W2,W3,W4,W5,W6,W7,W8,W9,Wa,Wb,Wc,Wd,We,Wf,Wg,reduceCtorEq,if_true,if_false,Wh,↓reduceIte,Wi,Wj,Wk,Wl,Wm,Wn,ne_eq,not_false_eq_true,not_true_eq_false,Wo,Wp,r7_0,r7_1,r7_2,r7_3,r7_4,r7_5,r7_6,r7_7,r7_8,r7_9,r7_10,r7_11,r7_12,r7_13,r7_14,r7_15,p7,BS_45,BS_46,BS_49,BS_size,BS_data,BS_toList,hBne,BS_app,hRP,hRl,List.length_append,List.length_singleton,i9,i30,hw0,hWpi,z1,z2]) | (exfalso; omega)
          all_goals first | omega | done
    · rw [if_neg hbig]
      rw [decide_eq_false hbig] at hRd
      have hM0 : M = 0 := hbM hbig
      subst hM0
      cases pt with
      | true =>
        have hA2 := hA2' rfl
        rcases h48 with z2 | ⟨z2, z1⟩
        · repeat' first | ((with_reducible (first | refine condD ?_ ?_ | refine condE ?_ ?_ | refine condN ?_ ?_ | refine condI ?_ ?_ | refine condS ?_ ?_)) <;> intro h) | ((with_reducible (first | refine guardD (by with_unfolding_all rfl) ?_ ?_ | refine guardE (by with_unfolding_all rfl) ?_ ?_ | refine guardN (by with_unfolding_all rfl) ?_ ?_ | refine guardI (by with_unfolding_all rfl) ?_ ?_ | refine guardS (by with_unfolding_all rfl) ?_ ?_)) <;> intro h) | ((refine callG c2 ?_)) | ((refine callG cw ?_)) | ((refine callG hTr ?_)) | ((refine callG hCut ?_)) | ((refine callG hA1 ?_)) | ((refine callG hA2 ?_)) | ((refine callG hL1 ?_)) | ((refine callG hrep ?_)) | ((refine callG hL2 ?_)) | ((refine callG hLow ?_)) | ((refine callG hMin ?_)) | ((refine callG iS ?_)) | ((refine callG hTm ?_)) | ((refine callG hRd ?_)) | (with_reducible refine And.intro ?_ ?_; omega) | (simp only [Z0,Z1,Z2,Z3,Z4,Z5,Z6,Z7,Z8,Z9,Za,Zb,Zc,Zd,Ze,Zf,List.cons.injEq,Zg,Zh,Zi,Zj,Zk,Zl,Zm,Zn,Zo,Zp,beq_self_eq_true,bne_self_eq_false,decide_true,decide_false,Zq,Zr,Zs,Zt,Zu,Zv,Zw,Zx,Zy,Zz,Y0,Y1,Y2,Y3,Y4,Y5,Y6,Y7,Y8,Y9,Ya,Yb,Yc,Yd,Ye,Yf,Yg,Yh,lk,ef,Yi,Yj,Yk,Yl,Ym,Yn,Yo,Yp,Yq,Ys,Yt,hv,Yu,ev,Yv,Yw,Yx,Yy,Yz,X0,X1,X2,X3,X4,X5,X6,X7,X8,X9,Xa,Xb,Xc,Xd,Xe,Xf,Xg,Xh,Xi,Xj,Xk,Xl,Xm,Xn,Xo,Xp,Xq,Xr,Value.oneCell',Xs,Xt,Xu,Xv,true_and,and_true,and_self,implies_true,Xw,Xx,Xy,Xz,false_implies,W0,W1,W2,W3,W4,W5,W6,W7,W8,W9,Wa,Wb,Wc,Wd,We,Wf,Wg,reduceCtorEq,if_true,if_false,Wh,↓reduceIte,Wi,Wj,Wk,Wl,Wm,Wn,ne_eq,not_false_eq_true,not_true_eq_false,Wo,Wp,r7_0,r7_1,r7_2,r7_3,r7_4,r7_5,r7_6,r7_7,r7_8,r7_9,r7_10,r7_11,r7_12,r7_13,r7_14,r7_15,p7,BS_45,BS_46,BS_49,BS_size,BS_data,BS_toList,hBne,BS_app,hRP,hRl,List.length_append,List.length_singleton,i9,i30,z2]) | (exfalso; omega)
          all_goals first | omega | done
        · repeat' first | ((with_reducible (first | refine condD ?_ ?_ | refine condE ?_ ?_ | refine condN ?_ ?_ | refine condI ?_ ?_ | refine condS ?_ ?_)) <;> intro h) | ((with_reducible (first | refine guardD (by with_unfolding_all rfl) ?_ ?_ | refine guardE (by with_unfolding_all rfl) ?_ ?_ | refine guardN (by with_unfolding_all rfl) ?_ ?_ | refine guardI (by with_unfolding_all rfl) ?_ ?_ | refine guardS (by with_unfolding_all rfl) ?_ ?_)) <;> intro h) | ((refine callG c2 ?_)) | ((refine callG cw ?_)) | ((refine callG hTr ?_)) | ((refine callG hCut ?_)) | ((refine callG hA1 ?_)) | ((refine callG hA2 ?_)) | ((refine callG hL1 ?_)) | ((refine callG hrep ?_)) | ((refine callG hL2 ?_)) | ((refine callG hLow ?_)) | ((refine callG hMin ?_)) | ((refine callG iS ?_)) | ((refine callG hTm ?_)) | ((refine callG hRd ?_)) | (with_reducible refine And.intro ?_ ?_; omega) | (simp only [Z0,Z1,Z2,Z3,Z4,Z5,Z6,Z7,Z8,Z9,Za,Zb,Zc,Zd,Ze,Zf,List.cons.injEq,Zg,Zh,Zi,Zj,Zk,Zl,Zm,Zn,Zo,Zp,beq_self_eq_true,bne_self_eq_false,decide_true,decide_false,Zq,Zr,Zs,Zt,Zu,Zv,Zw,Zx,Zy,Zz,Y0,Y1,Y2,Y3,Y4,Y5,Y6,Y7,Y8,Y9,Ya,Yb,Yc,Yd,Ye,Yf,Yg,Yh,lk,ef,Yi,Yj,Yk,Yl,Ym,Yn,Yo,Yp,Yq,Ys,Yt,hv,Yu,ev,Yv,Yw,Yx,Yy,Yz,X0,X1,X2,X3,X4,X5,X6,X7,X8,X9,Xa,Xb,Xc,Xd,Xe,Xf,Xg,Xh,Xi,Xj,Xk,Xl,Xm,Xn,Xo,Xp,Xq,Xr,Value.oneCell',Xs,Xt,Xu,Xv,true_and,and_true,and_self,implies_true,Xw,Xx,Xy,Xz,false_implies,W0,W1,W2,W3,W4,W5,W6,W7,W8,W9,Wa,Wb,Wc,Wd,We,Wf,Wg,reduceCtorEq,if_true,if_false,Wh,↓reduceIte,Wi,Wj,Wk,Wl,Wm,Wn,ne_eq,not_false_eq_true,not_true_eq_false,Wo,Wp,r7_0,r7_1,r7_2,r7_3,r7_4,r7_5,r7_6,r7_7,r7_8,r7_9,r7_10,r7_11,r7_12,r7_13,r7_14,r7_15,p7,BS_45,BS_46,BS_49,BS_size,BS_data,BS_toList,hBne,BS_app,hRP,hRl,List.length_append,List.length_singleton,i9,i30,hw0,hWpi,z1,z2]) | (exfalso; omega)
          all_goals first | omega | done
      | false =>
        rcases h48 with z2 | ⟨z2, z1⟩
        · repeat' first | ((with_reducible (first | refine condD ?_ ?_ | refine condE ?_ ?_ | refine condN ?_ ?_ | refine condI ?_ ?_ | refine condS ?_ ?_)) <;> intro h) | ((with_reducible (first | refine guardD (by with_unfolding_all rfl) ?_ ?_ | refine guardE (by with_unfolding_all rfl) ?_ ?_ | refine guardN (by with_unfolding_all rfl) ?_ ?_ | refine guardI (by with_unfolding_all rfl) ?_ ?_ | refine guardS (by with_unfolding_all rfl) ?_ ?_)) <;> intro h) | ((refine callG c2 ?_)) | ((refine callG cw ?_)) | ((refine callG hTr ?_)) | ((refine callG hCut ?_)) | ((refine callG hA1 ?_)) | ((refine callG hL1 ?_)) | ((refine callG hrep ?_)) | ((refine callG hL2 ?_)) | ((refine callG hLow ?_)) | ((refine callG hMin ?_)) | ((refine callG iS ?_)) | ((refine callG hTm ?_)) | ((refine callG hRd ?_)) | (with_reducible refine And.intro ?_ ?_; omega) | (simp only [Z0,Z1,Z2,Z3,Z4,Z5,Z6,Z7,Z8,Z9,Za,Zb,Zc,Zd,Ze,Zf,List.cons.injEq,Zg,Zh,Zi,Zj,Zk,Zl,Zm,Zn,Zo,Zp,beq_self_eq_true,bne_self_eq_false,decide_true,decide_false,Zq,Zr,Zs,Zt,Zu,Zv,Zw,Zx,Zy,Zz,Y0,Y1,Y2,Y3,Y4,Y5,Y6,Y7,Y8,Y9,Ya,Yb,Yc,Yd,Ye,Yf,Yg,Yh,lk,ef,Yi,Yj,Yk,Yl,Ym,Yn,Yo,Yp,Yq,Ys,Yt,hv,Yu,ev,Yv,Yw,Yx,Yy,Yz,X0,X1,X2,X3,X4,X5,X6,X7,X8,X9,Xa,Xb,Xc,Xd,Xe,Xf,Xg,Xh,Xi,Xj,Xk,Xl,Xm,Xn,Xo,Xp,Xq,Xr,Value.oneCell',Xs,Xt,Xu,Xv,true_and,and_true,and_self,implies_true,Xw,Xx,Xy,Xz,false_implies,W0,W1,W2,W3,W4,W5,W6,W7,W8,W9,Wa,Wb,Wc,Wd,We,Wf,Wg,reduceCtorEq,if_true,if_false,Wh,↓reduceIte,Wi,Wj,Wk,Wl,Wm,Wn,ne_eq,not_false_eq_true,not_true_eq_false,Wo,Wp,r7_0,r7_1,r7_2,r7_3,r7_4,r7_5,r7_6,r7_7,r7_8,r7_9,r7_10,r7_11,r7_12,r7_13,r7_14,r7_15,p7,BS_45,BS_46,BS_49,BS_size,BS_data,BS_toList,hBne,BS_app,hRP,hRl,List.length_append,List.length_singleton,i9,i30,z2]) | (exfalso; omega)
          all_goals first | omega | done
        · repeat' first | ((with_reducible (first | refine condD ?_ ?_ | refine condE ?_ ?_ | refine condN ?_ ?_ | refine condI ?_ ?_ | refine condS ?_ ?_)) <;> intro h) | ((with_reducible (first | refine guardD (by with_unfolding_all rfl) ?_ ?_ | refine guardE (by with_unfolding_all rfl) ?_ ?_ | refine guardN (by with_unfolding_all rfl) ?_ ?_ | refine guardI (by with_unfolding_all rfl) ?_ ?_ | refine guardS (by with_unfolding_all rfl) ?_ ?_)) <;> intro h) | ((refine callG c2 ?_)) | ((refine callG cw ?_)) | ((refine callG hTr ?_)) | ((refine callG hCut ?_)) | ((refine callG hA1 ?_)) | ((refine callG hL1 ?_)) | ((refine callG hrep ?_)) | ((refine callG hL2 ?_)) | ((refine callG hLow ?_)) | ((refine callG hMin ?_)) | ((refine callG iS ?_)) | ((refine callG hTm ?_)) | ((refine callG hRd ?_)) | (with_reducible refine And.intro ?_ ?_; omega) | (simp only [Z0,Z1,Z2,Z3,Z4,Z5,Z6,Z7,Z8,Z9,Za,Zb,Zc,Zd,Ze,Zf,List.cons.injEq,Zg,Zh,Zi,Zj,Zk,Zl,Zm,Zn,Zo,Zp,beq_self_eq_true,bne_self_eq_false,decide_true,decide_false,Zq,Zr,Zs,Zt,Zu,Zv,Zw,Zx,Zy,Zz,Y0,Y1,Y2,Y3,Y4,Y5,Y6,Y7,Y8,Y9,Ya,Yb,Yc,Yd,Ye,Yf,Yg,Yh,lk,ef,Yi,Yj,Yk,Yl,Ym,Yn,Yo,Yp,Yq,Ys,Yt,hv,Yu,ev,Yv,Yw,Yx,Yy,Yz,X0,X1,X2,X3,X4,X5,X6,X7,X8,X9,Xa,Xb,Xc,Xd,Xe,Xf,Xg,Xh,Xi,Xj,Xk,Xl,Xm,Xn,Xo,Xp,Xq,Xr,Value.oneCell',Xs,Xt,Xu,Xv,true_and,and_true,and_self,implies_true,Xw,Xx,Xy,Xz,false_implies,W0,W1,W2,W3,W4,W5,W6,W7,W8,W9,Wa,Wb,Wc,Wd,We,Wf,Wg,reduceCtorEq,if_true,if_false,Wh,↓reduceIte,Wi,Wj,Wk,Wl,Wm,Wn,ne_eq,not_false_eq_true,not_true_eq_false,Wo,Wp,r7_0,r7_1,r7_2,r7_3,r7_4,r7_5,r7_6,r7_7,r7_8,r7_9,r7_10,r7_11,r7_12,r7_13,r7_14,r7_15,p7,BS_45,BS_46,BS_49,BS_size,BS_data,BS_toList,hBne,BS_app,hRP,hRl,List.length_append,List.length_singleton,i9,i30,hw0,hWpi,z1,z2]) | (exfalso; omega)
          all_goals first | omega | done
  | false =>
    simp only [Bool.false_eq_true, if_true, if_false, Bool.not_true, Bool.not_false] at *
    generalize RQ ((V : Int) * (S : Int)) (10 ^ P.length) = R2 at *
    obtain ⟨v1, v2, v3, hR0⟩ : ∃ u v w, RQ (V : Int) (10 ^ P.length) = [u, v, w] := ⟨_, _, _, rfl⟩
    simp only [hR0] at hLow hMin hTm
    clear hR0
    generalize RQ (S : Int) 1 = R3 at *
    by_cases hbig : N ≤ 1000000000000000
    · rw [if_pos hbig]
      rw [decide_eq_true hbig] at hRd
      cases pt with
      | true =>
        have hA2 := hA2' rfl
        rcases h48 with z2 | ⟨z2, z1⟩
        · repeat' first | ((with_reducible (first | refine condD ?_ ?_ | refine condE ?_ ?_ | refine condN ?_ ?_ | refine condI ?_ ?_ | refine condS ?_ ?_)) <;> intro h) | ((with_reducible (first | refine guardD (by with_unfolding_all rfl) ?_ ?_ | refine guardE (by with_unfolding_all rfl) ?_ ?_ | refine guardN (by with_unfolding_all rfl) ?_ ?_ | refine guardI (by with_unfolding_all rfl) ?_ ?_ | refine guardS (by with_unfolding_all rfl) ?_ ?_)) <;> intro h) | ((refine callG c2 ?_)) | ((refine callG cw ?_)) | ((refine callG hTr ?_)) | ((refine callG hCut ?_)) | ((refine callG hA1 ?_)) | ((refine callG hA2 ?_)) | ((refine callG hL1 ?_)) | ((refine callG hrep ?_)) | ((refine callG hL2 ?_)) | ((refine callG hLow ?_)) | ((refine callG hMin ?_)) | ((refine callG iS ?_)) | ((refine callG hTm ?_)) | ((refine callG hRd ?_)) | (with_reducible refine And.intro ?_ ?_; omega) | (simp only [Z0,Z1,Z2,Z3,Z4,Z5,Z6,Z7,Z8,Z9,Za,Zb,Zc,Zd,Ze,Zf,List.cons.injEq,Zg,Zh,Zi,Zj,Zk,Zl,Zm,Zn,Zo,Zp,beq_self_eq_true,bne_self_eq_false,decide_true,decide_false,Zq,Zr,Zs,Zt,Zu,Zv,Zw,Zx,Zy,Zz,Y0,Y1,Y2,Y3,Y4,Y5,Y6,Y7,Y8,Y9,Ya,Yb,Yc,Yd,Ye,Yf,Yg,Yh,lk,ef,Yi,Yj,Yk,Yl,Ym,Yn,Yo,Yp,Yq,Ys,Yt,hv,Yu,ev,Yv,Yw,Yx,Yy,Yz,X0,X1,X2,X3,X4,X5,X6,X7,X8,X9,Xa,Xb,Xc,Xd,Xe,Xf,Xg,Xh,Xi,Xj,Xk,Xl,Xm,Xn,Xo,Xp,Xq,Xr,Value.oneCell',Xs,Xt,Xu,Xv,true_and,and_true,and_self,implies_true,Xw,Xx,Xy,Xz,false_implies,W0,W1,W2,W3,W4,W5,W6,W7,W8,W9,Wa,Wb,Wc,Wd,We,Wf,Wg,reduceCtorEq,if_true,if_false,Wh,↓reduceIte,Wi,Wj,Wk,Wl,Wm,Wn,ne_eq,not_false_eq_true,not_true_eq_false,Wo,Wp,r7_0,r7_1,r7_2,r7_3,r7_4,r7_5,r7_6,r7_7,r7_8,r7_9,r7_10,r7_11,r7_12,r7_13,r7_14,r7_15,p7,BS_45,BS_46,BS_49,BS_size,BS_data,BS_toList,hBne,BS_app,hRP,hRl,List.length_append,List.length_singleton,i9,i30,z2]) | (exfalso; omega)
          all_goals first | omega | done
        · repeat' first | ((with_reducible (first | refine condD ?_ ?_ | refine condE ?_ ?_ | refine condN ?_ ?_ | refine condI ?_ ?_ | refine condS ?_ ?_)) <;> intro h) | ((with_reducible (first | refine guardD (by with_unfolding_all rfl) ?_ ?_ | refine guardE (by with_unfolding_all rfl) ?_ ?_ | refine guardN (by with_unfolding_all rfl) ?_ ?_ | refine guardI (by with_unfolding_all rfl) ?_ ?_ | refine guardS (by with_unfolding_all rfl) ?_ ?_)) <;> intro h) | ((refine callG c2 ?_)) | ((refine callG cw ?_)) | ((refine callG hTr ?_)) | ((refine callG hCut ?_)) | ((refine callG hA1 ?_)) | ((refine callG hA2 ?_)) | ((refine callG hL1 ?_)) | ((refine callG hrep ?_)) | ((refine callG hL2 ?_)) | ((refine callG hLow ?_)) | ((refine callG hMin ?_)) | ((refine callG iS ?_)) | ((refine callG hTm ?_)) | ((refine callG hRd ?_)) | (with_reducible refine And.intro ?_ ?_; omega) | (simp only [Z0,Z1,Z2,Z3,Z4,Z5,Z6,Z7,Z8,Z9,Za,Zb,Zc,Zd,Ze,Zf,List.cons.injEq,Zg,Zh,Zi,Zj,Zk,Zl,Zm,Zn,Zo,Zp,beq_self_eq_true,bne_self_eq_false,decide_true,decide_false,Zq,Zr,Zs,Zt,Zu,Zv,Zw,Zx,Zy,Zz,Y0,Y1,Y2,Y3,Y4,Y5,Y6,Y7,Y8,Y9,Ya,Yb,Yc,Yd,Ye,Yf,Yg,Yh,lk,ef,Yi,Yj,Yk,Yl,Ym,Yn,Yo,Yp,Yq,Ys,Yt,hv,Yu,ev,Yv,Yw,Yx,Yy,Yz,X0,X1,X2,X3,X4,X5,X6,X7,X8,X9,Xa,Xb,Xc,Xd,Xe,Xf,Xg,Xh,Xi,Xj,Xk,Xl,Xm,Xn,Xo,Xp,Xq,Xr,Value.oneCell',Xs,Xt,Xu,Xv,true_and,and_true,and_self,implies_true,Xw,Xx,Xy,Xz,false_implies,W0,W1,W2,W3,W4,W5,W6,W7,W8,W9,Wa,Wb,Wc,Wd,We,Wf,Wg,reduceCtorEq,if_true,if_false,Wh,↓reduceIte,Wi,Wj,Wk,Wl,Wm,Wn,ne_eq,not_false_eq_true,not_true_eq_false,Wo,Wp,r7_0,r7_1,r7_2,r7_3,r7_4,r7_5,r7_6,r7_7,r7_8,r7_9,r7_10,r7_11,r7_12,r7_13,r7_14,r7_15,p7,BS_45,BS_46,BS_49,BS_size,BS_data,BS_toList,hBne,BS_app,hRP,hRl,List.length_append,List.length_singleton,i9,i30,hw0,hWpi,z1,z2]) | (exfalso; omega)
          all_goals first | omega | done
      | false =>
        rcases h48 with z2 | ⟨z2, z1⟩
        · repeat' first | ((with_reducible (first | refine condD ?_ ?_ | refine condE ?_ ?_ | refine condN ?_ ?_ | refine condI ?_ ?_ | refine condS ?_ ?_)) <;> intro h) | ((with_reducible (first | refine guardD (by with_unfolding_all rfl) ?_ ?_ | refine guardE (by with_unfolding_all rfl) ?_ ?_ | refine guardN (by with_unfolding_all rfl) ?_ ?_ | refine guardI (by with_unfolding_all rfl) ?_ ?_ | refine guardS (by with_unfolding_all rfl) ?_ ?_)) <;> intro h) | ((refine callG c2 ?_)) | ((refine callG cw ?_)) | ((refine callG hTr ?_)) | ((refine callG hCut ?_)) | ((refine callG hA1 ?_)) | ((refine callG hL1 ?_)) | ((refine callG hrep ?_)) | ((refine callG hL2 ?_)) | ((refine callG hLow ?_)) | ((refine callG hMin ?_)) | ((refine callG iS ?_)) | ((refine callG hTm ?_)) | ((refine callG hRd ?_)) | (with_reducible refine And.intro ?_ ?_; omega) | (simp only [Z0,Z1,Z2,Z3,Z4,Z5,Z6,Z7,Z8,Z9,Za,Zb,Zc,Zd,Ze,Zf,List.cons.injEq,Zg,Zh,Zi,Zj,Zk,Zl,Zm,Zn,Zo,Zp,beq_self_eq_true,bne_self_eq_false,decide_true,decide_false,Zq,Zr,Zs,Zt,Zu,Zv,Zw,Zx,Zy,Zz,Y0,Y1,Y2,Y3,Y4,Y5,Y6,Y7,Y8,Y9,Ya,Yb,Yc,Yd,Ye,Yf,Yg,Yh,lk,ef,Yi,Yj,Yk,Yl,Ym,Yn,Yo,Yp,Yq,Ys,Yt,hv,Yu,ev,Yv,Yw,Yx,Yy,Yz,X0,X1,X2,X3,X4,X5,X6,X7,X8,X9,Xa,Xb,Xc,Xd,Xe,Xf,Xg,Xh,Xi,Xj,Xk,Xl,Xm,Xn,Xo,Xp,Xq,Xr,Value.oneCell',Xs,Xt,Xu,Xv,true_and,and_true,and_self,implies_true,Xw,Xx,Xy,Xz,false_implies,W0,W1,W2,W3,W4,W5,W6,W7,W8,W9,Wa,Wb,Wc,Wd,We,Wf,Wg,reduceCtorEq,if_true,if_false,Wh,↓reduceIte,Wi,Wj,Wk,Wl,Wm,Wn,ne_eq,not_false_eq_true,not_true_eq_false,Wo,Wp,r7_0,r7_1,r7_2,r7_3,r7_4,r7_5,r7_6,r7_7,r7_8,r7_9,r7_10,r7_11,r7_12,r7_13,r7_14,r7_15,p7,BS_45,BS_46,BS_49,BS_size,BS_data,BS_toList,hBne,BS_app,hRP,hRl,List.length_append,List.length_singleton,i9,i30,z2]) | (exfalso; omega)
          all_goals first | omega | done
        · repeat' first | ((with_reducible (first | refine condD ?_ ?_ | refine condE ?_ ?_ | refine condN ?_ ?_ | refine condI ?_ ?_ | refine condS ?_ ?_)) <;> intro h) | ((with_reducible (first | refine guardD (by with_unfolding_all rfl) ?_ ?_ | refine guardE (by with_unfolding_all rfl) ?_ ?_ | refine guardN (by with_unfolding_all rfl) ?_ ?_ | refine guardI (by with_unfolding_all rfl) ?_ ?_ | refine guardS (by with_unfolding_all rfl) ?_ ?_)) <;> intro h) | ((refine callG c2 ?_)) | ((refine callG cw ?_)) | ((refine callG hTr ?_)) | ((refine callG hCut ?_)) | ((refine callG hA1 ?_)) | ((refine callG hL1 ?_)) | ((refine callG hrep ?_)) | ((refine callG hL2 ?_)) | ((refine callG hLow ?_)) | ((refine callG hMin ?_)) | ((refine callG iS ?_)) | ((refine callG hTm ?_)) | ((refine callG hRd ?_)) | (with_reducible refine And.intro ?_ ?_; omega) | (simp only [Z0,Z1,Z2,Z3,Z4,Z5,Z6,Z7,Z8,Z9,Za,Zb,Zc,Zd,Ze,Zf,List.cons.injEq,Zg,Zh,Zi,Zj,Zk,Zl,Zm,Zn,Zo,Zp,beq_self_eq_true,bne_self_eq_false,decide_true,decide_false,Zq,Zr,Zs,Zt,Zu,Zv,Zw,Zx,Zy,Zz,Y0,Y1,Y2,Y3,Y4,Y5,Y6,Y7,Y8,Y9,Ya,Yb,Yc,Yd,Ye,Yf,Yg,Yh,lk,ef,Yi,Yj,Yk,Yl,Ym,Yn,Yo,Yp,Yq,Ys,Yt,hv,Yu,ev,Yv,Yw,Yx,Yy,Yz,X0,X1,X2,X3,X4,X5,X6,X7,X8,X9,Xa,Xb,Xc,Xd,Xe,Xf,Xg,Xh,Xi,Xj,Xk,Xl,Xm,Xn,Xo,Xp,Xq,Xr,Value.oneCell',Xs,Xt,Xu,Xv,true_and,and_true,and_self,implies_true,Xw,Xx,Xy,Xz,false_implies,W0,W1,W2,W3,W4,W5,W6,W7,W8,W9,Wa,Wb,Wc,Wd,We,Wf,Wg,reduceCtorEq,if_true,if_false,Wh,↓reduceIte,Wi,Wj,Wk,Wl,Wm,Wn,ne_eq,not_false_eq_true,not_true_eq_false,Wo,Wp,r7_0,r7_1,r7_2,r7_3,r7_4,r7_5,r7_6,r7_7,r7_8,r7_9,r7_10,r7_11,r7_12,r7_13,r7_14,r7_15,p7,BS_45,BS_46,BS_49,BS_size,BS_data,BS_toList,hBne,BS_app,hRP,hRl,List.length_append,List.length_singleton,i9,i30,hw0,hWpi,z1,z2]) | (exfalso; omega)
          all_goals first | omega | done
    · rw [if_neg hbig]
      rw [decide_eq_false hbig] at hRd
      have hM0 : M = 0 := hbM hbig
      subst hM0
      cases pt with
      | true =>
        have hA2 := hA2' rfl
        rcases h48 with z2 | ⟨z2, z1⟩
        · repeat' first | ((with_reducible (first | refine condD ?_ ?_ | refine condE ?_ ?_ | refine condN ?_ ?_ | refine condI ?_ ?_ | refine condS ?_ ?_)) <;> intro h) | ((with_reducible (first | refine guardD (by with_unfolding_all rfl) ?_ ?_ | refine guardE (by with_unfolding_all rfl) ?_ ?_ | refine guardN (by with_unfolding_all rfl) ?_ ?_ | refine guardI (by with_unfolding_all rfl) ?_ ?_ | refine guardS (by with_unfolding_all rfl) ?_ ?_)) <;> intro h) | ((refine callG c2 ?_)) | ((refine callG cw ?_)) | ((refine callG hTr ?_)) | ((refine callG hCut ?_)) | ((refine callG hA1 ?_)) | ((refine callG hA2 ?_)) | ((refine callG hL1 ?_)) | ((refine callG hrep ?_)) | ((refine callG hL2 ?_)) | ((refine callG hLow ?_)) | ((refine callG hMin ?_)) | ((refine callG iS ?_)) | ((refine callG hTm ?_)) | ((refine callG hRd ?_)) | (with_reducible refine And.intro ?_ ?_; omega) | (simp only [Z0,Z1,Z2,Z3,Z4,Z5,Z6,Z7,Z8,Z9,Za,Zb,Zc,Zd,Ze,Zf,List.cons.injEq,Zg,Zh,Zi,Zj,Zk,Zl,Zm,Zn,Zo,Zp,beq_self_eq_true,bne_self_eq_false,decide_true,decide_false,Zq,Zr,Zs,Zt,Zu,Zv,Zw,Zx,Zy,Zz,Y0,Y1,Y2,Y3,Y4,Y5,Y6,Y7,Y8,Y9,Ya,Yb,Yc,Yd,Ye,Yf,Yg,Yh,lk,ef,Yi,Yj,Yk,Yl,Ym,Yn,Yo,Yp,Yq,Ys,Yt,hv,Yu,ev,Yv,Yw,Yx,Yy,Yz,X0,X1,X2,X3,X4,X5,X6,X7,X8,X9,Xa,Xb,Xc,Xd,Xe,Xf,Xg,Xh,Xi,Xj,Xk,Xl,Xm,Xn,Xo,Xp,Xq,Xr,Value.oneCell',Xs,Xt,Xu,Xv,true_and,and_true,and_self,implies_true,Xw,Xx,Xy,Xz,false_implies,W0,W1,W2,W3,W4,W5,W6,W7,W8,W9,Wa,Wb,Wc,Wd,We,Wf,Wg,reduceCtorEq,if_true,if_false,Wh,↓reduceIte,Wi,Wj,Wk,Wl,Wm,Wn,ne_eq,not_false_eq_true,not_true_eq_false,Wo,Wp,r7_0,r7_1,r7_2,r7_3,r7_4,r7_5,r7_6,r7_7,r7_8,r7_9,r7_10,r7_11,r7_12,r7_13,r7_14,r7_15,p7,BS_45,BS_46,BS_49,BS_size,BS_data,BS_toList,hBne,BS_app,hRP,hRl,List.length_append,List.length_singleton,i9,i30,z2]) | (exfalso; omega)
          all_goals first | omega | done
        · repeat' first | ((with_reducible (first | refine condD ?_ ?_ | refine condE ?_ ?_ | refine condN ?_ ?_ | refine condI ?_ ?_ | refine condS ?_ ?_)) <;> intro h) | ((with_reducible (first | refine guardD (by with_unfolding_all rfl) ?_ ?_ | refine guardE (by with_unfolding_all rfl) ?_ ?_ | refine guardN (by with_unfolding_all rfl) ?_ ?_ | refine guardI (by with_unfolding_all rfl) ?_ ?_ | refine guardS (by with_unfolding_all rfl) ?_ ?_)) <;> intro h) | ((refine callG c2 ?_)) | ((refine callG cw ?_)) | ((refine callG hTr ?_)) | ((refine callG hCut ?_)) | ((refine callG hA1 ?_)) | ((refine callG hA2 ?_)) | ((refine callG hL1 ?_)) | ((refine callG hrep ?_)) | ((refine callG hL2 ?_)) | ((refine callG hLow ?_)) | ((refine callG hMin ?_)) | ((refine callG iS ?_)) | ((refine callG hTm ?_)) | ((refine callG hRd ?_)) | (with_reducible refine And.intro ?_ ?_; omega) | (simp only [Z0,Z1,Z2,Z3,Z4,Z5,Z6,Z7,Z8,Z9,Za,Zb,Zc,Zd,Ze,Zf,List.cons.injEq,Zg,Zh,Zi,Zj,Zk,Zl,Zm,Zn,Zo,Zp,beq_self_eq_true,bne_self_eq_false,decide_true,decide_false,Zq,Zr,Zs,Zt,Zu,Zv,Zw,Zx,Zy,Zz,Y0,Y1,Y2,Y3,Y4,Y5,Y6,Y7,Y8,Y9,Ya,Yb,Yc,Yd,Ye,Yf,Yg,Yh,lk,ef,Yi,Yj,Yk,Yl,Ym,Yn,Yo,Yp,Yq,Ys,Yt,hv,Yu,ev,Yv,Yw,Yx,Yy,Yz,X0,X1,X2,X3,X4,X5,X6,X7,X8,X9,Xa,Xb,Xc,Xd,Xe,Xf,Xg,Xh,Xi,Xj,Xk,Xl,Xm,Xn,Xo,Xp,Xq,Xr,Value.oneCell',Xs,Xt,Xu,Xv,true_and,and_true,and_self,implies_true,Xw,Xx,Xy,Xz,false_implies,W0,W1,W2,W3,W4,W5,W6,W7,W8,W9,Wa,Wb,Wc,Wd,We,Wf,Wg,reduceCtorEq,if_true,if_false,Wh,↓reduceIte,Wi,Wj,Wk,Wl,Wm,Wn,ne_eq,not_false_eq_true,not_true_eq_false,Wo,Wp,r7_0,r7_1,r7_2,r7_3,r7_4,r7_5,r7_6,r7_7,r7_8,r7_9,r7_10,r7_11,r7_12,r7_13,r7_14,r7_15,p7,BS_45,BS_46,BS_49,BS_size,BS_data,BS_toList,hBne,BS_app,hRP,hRl,List.length_append,List.length_singleton,i9,i30,hw0,hWpi,z1,z2]) | (exfalso; omega)
          all_goals first | omega | done
      | false =>
        rcases h48 with z2 | ⟨z2, z1⟩
        · repeat' first | ((with_reducible (first | refine condD ?_ ?_ | refine condE ?_ ?_ | refine condN ?_ ?_ | refine condI ?_ ?_ | refine condS ?_ ?_)) <;> intro h) | ((with_reducible (first | refine guardD (by with_unfolding_all rfl) ?_ ?_ | refine guardE (by with_unfolding_all rfl) ?_ ?_ | refine guardN (by with_unfolding_all rfl) ?_ ?_ | refine guardI (by with_unfolding_all rfl) ?_ ?_ | refine guardS (by with_unfolding_all rfl) ?_ ?_)) <;> intro h) | ((refine callG c2 ?_)) | ((refine callG cw ?_)) | ((refine callG hTr ?_)) | ((refine callG hCut ?_)) | ((refine callG hA1 ?_)) | ((refine callG hL1 ?_)) | ((refine callG hrep ?_)) | ((refine callG hL2 ?_)) | ((refine callG hLow ?_)) | ((refine callG hMin ?_)) | ((refine callG iS ?_)) | ((refine callG hTm ?_)) | ((refine callG hRd ?_)) | (with_reducible refine And.intro ?_ ?_; omega) | (simp only [Z0,Z1,Z2,Z3,Z4,Z5,Z6,Z7,Z8,Z9,Za,Zb,Zc,Zd,Ze,Zf,List.cons.injEq,Zg,Zh,Zi,Zj,Zk,Zl,Zm,Zn,Zo,Zp,beq_self_eq_true,bne_self_eq_false,decide_true,decide_false,Zq,Zr,Zs,Zt,Zu,Zv,Zw,Zx,Zy,Zz,Y0,Y1,Y2,Y3,Y4,Y5,Y6,Y7,Y8,Y9,Ya,Yb,Yc,Yd,Ye,Yf,Yg,Yh,lk,ef,Yi,Yj,Yk,Yl,Ym,Yn,Yo,Yp,Yq,Ys,Yt,hv,Yu,ev,Yv,Yw,Yx,Yy,Yz,X0,X1,X2,X3,X4,X5,X6,X7,X8,X9,Xa,Xb,Xc,Xd,Xe,Xf,Xg,Xh,Xi,Xj,Xk,Xl,Xm,Xn,Xo,Xp,Xq,Xr,Value.oneCell',Xs,Xt,Xu,Xv,true_and,and_true,and_self,implies_true,Xw,Xx,Xy,Xz,false_implies,W0,W1,W2,W3,W4,W5,W6,W7,W8,W9,Wa,Wb,Wc,Wd,We,Wf,Wg,reduceCtorEq,if_true,if_false,Wh,↓reduceIte,Wi,Wj,Wk,Wl,Wm,Wn,ne_eq,not_false_eq_true,not_true_eq_false,Wo,Wp,r7_0,r7_1,r7_2,r7_3,r7_4,r7_5,r7_6,r7_7,r7_8,r7_9,r7_10,r7_11,r7_12,r7_13,r7_14,r7_15,p7,BS_45,BS_46,BS_49,BS_size,BS_data,BS_toList,hBne,BS_app,hRP,hRl,List.length_append,List.length_singleton,i9,i30,z2]) | (exfalso; omega)
          all_goals first | omega | done
        · repeat' first | ((with_reducible (first | refine condD ?_ ?_ | refine condE ?_ ?_ | refine condN ?_ ?_ | refine condI ?_ ?_ | refine condS ?_ ?_)) <;> intro h) | ((with_reducible (first | refine guardD (by with_unfolding_all rfl) ?_ ?_ | refine guardE (by with_unfolding_all rfl) ?_ ?_ | refine guardN (by with_unfolding_all rfl) ?_ ?_ | refine guardI (by with_unfolding_all rfl) ?_ ?_ | refine guardS (by with_unfolding_all rfl) ?_ ?_)) <;> intro h) | ((refine callG c2 ?_)) | ((refine callG cw ?_)) | ((refine callG hTr ?_)) | ((refine callG hCut ?_)) | ((refine callG hA1 ?_)) | ((refine callG hL1 ?_)) | ((refine callG hrep ?_)) | ((refine callG hL2 ?_)) | ((refine callG hLow ?_)) | ((refine callG hMin ?_)) | ((refine callG iS ?_)) | ((refine callG hTm ?_)) | ((refine callG hRd ?_)) | (with_reducible refine And.intro ?_ ?_; omega) | (simp only [Z0,Z1,Z2,Z3,Z4,Z5,Z6,Z7,Z8,Z9,Za,Zb,Zc,Zd,Ze,Zf,List.cons.injEq,Zg,Zh,Zi,Zj,Zk,Zl,Zm,Zn,Zo,Zp,beq_self_eq_true,bne_self_eq_false,decide_true,decide_false,Zq,Zr,Zs,Zt,Zu,Zv,Zw,Zx,Zy,Zz,Y0,Y1,Y2,Y3,Y4,Y5,Y6,Y7,Y8,Y9,Ya,Yb,Yc,Yd,Ye,Yf,Yg,Yh,lk,ef,Yi,Yj,Yk,Yl,Ym,Yn,Yo,Yp,Yq,Ys,Yt,hv,Yu,ev,Yv,Yw,Yx,Yy,Yz,X0,X1,X2,X3,X4,X5,X6,X7,X8,X9,Xa,Xb,Xc,Xd,Xe,Xf,Xg,Xh,Xi,Xj,Xk,Xl,Xm,Xn,Xo,Xp,Xq,Xr,Value.oneCell',Xs,Xt,Xu,Xv,true_and,and_true,and_self,implies_true,Xw,Xx,Xy,Xz,false_implies,W0,W1,W2,W3,W4,W5,W6,W7,W8,W9,Wa,Wb,Wc,Wd,We,Wf,Wg,reduceCtorEq,if_true,if_false,Wh,↓reduceIte,Wi,Wj,Wk,Wl,Wm,Wn,ne_eq,not_false_eq_true,not_true_eq_false,Wo,Wp,r7_0,r7_1,r7_2,r7_3,r7_4,r7_5,r7_6,r7_7,r7_8,r7_9,r7_10,r7_11,r7_12,r7_13,r7_14,r7_15,p7,BS_45,BS_46,BS_49,BS_size,BS_data,BS_toList,hBne,BS_app,hRP,hRl,List.length_append,List.length_singleton,i9,i30,hw0,hWpi,z1,z2]) | (exfalso; omega)
          all_goals first | omega | done
end Go.Proofs.YtdfhpcghfmlfjaaGreatDoor
