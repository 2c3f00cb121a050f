/- The reference's places: headendref1's IsName, headendref4's checkOne, CheckRenditions, closed, places, Places, by the machine on data. -/
import Derived.Test.YtjeemcpdmiajmaaGreatDoorKPlcP
import Derived.Test.YtjeemcpdmiajmaaGreatDoorKRefGrpW
import Derived.Test.YtjeemcpdmiajmaaGreatDoorKRefSmp
import Derived.Test.YtjeemcpdmiajmaaGreatDoorKSlc
namespace Go.Proofs.YtjeemcpdmiajmaaGreatDoor
open Go.RowKit
open Go.Proofs.YtjeemcpdmiajmaaGreatDoor renaming done_eq → Z0, done_eq' → Z1, donet_eq → Z2, donet_eq' → Z3, fin_val → Z4, fin_tup → Z5, fin_agg → Z6, fin_ro → Z7, res_one → Z8, res_more → Z9, rv_t → Za, rv_c → Zb, rv_l → Zc, int_eq → Zg, bool_eq → Zh, toNat_pred → Zr, toNat_succ → Zs, cnd_t → Zu, cnd_f → Zv, grd_tt → Zw, grd_u → Zx, grd_tf → Zy, grd_ft → Zz, grd_ff → Y0, g_skip → Y1, g_ops → Y2, g_seq → Y3, g_block → Y4, g_exit → Y5, g_ret → Y6, x_c → Y7, x_o → Y8, x_l → Y9, x_b → Ya, g_b → Yb, g_nil → Yc, r_all → Yd, o_nil → Ye, g_cond → Yf, o_guard → Yg, o_call → Yh, o_mv → Yi, o_pick → Yj, o_bin → Yk, o_un → Yl, o_load → Ym, o_loads → Yn, o_fld → Yo, o_idx → Yp, o_idxs → Yq, o_len → Yr, o_lens → Ys, o_alloc → Yt, o_boxs → Yu, o_row → Yv, o_asg → Yw, o_app → Yx, o_stores → Yy, eqAV → Yz, view_t → X0, view_c → X1, view_nil → X2, view_fn → X3, look_own → X4, look_box → X5, look_junk → X6, look_val → X7, look_nilsl → X8, look_ro → X9, look_roAt → Xa, look_agg → Xb, look_tup → Xc, look_clo → Xd, look_alias → Xe, look_ref → Xf, look_into → Xg, rowOf → Xh, cellsOf → Xi, argv → Xj, vbin → Xk, vun → Xl, bnd → Xm, elemOf → Xn, putParts → Xo, setAt → Xp, zav → Xq, put_at → Xx, mk_at → Xy, mk_nil → Xz, initSt → W0, wk_cons → Wv, wk_nil → Ww, wk1 → Wx, vint_eq → Wy, vbool_eq → Wz
open Go.Proofs.YtjeemcpdmiajmaaGreatDoor.AV.tup renaming injEq → Zd
open Go.Proofs.YtjeemcpdmiajmaaGreatDoor.AV.agg renaming injEq → Ze
open Go.Proofs.YtjeemcpdmiajmaaGreatDoor.AV.ro renaming injEq → Zf
open _root_.Int renaming toNat_natCast → Zi, reduceToNat → Zj, toNat_zero → Zk, toNat_one → Zl, reduceLE → Zm, reduceLT → Zn, reduceBEq → Zo, reduceBNe → Zp, reduceNeg → Zq
open _root_.List renaming length_map → Zt, map_cons → W1, map_nil → W2, forall_mem_cons → W3, not_mem_nil → W4, length_cons → W5, length_nil → W6, getD_cons_zero → W7, getD_cons_succ → W8, getD_nil → W9, drop_succ_cons → Wa, drop_zero → Wb, take_succ_cons → Wc, take_zero → Wd, set_cons_zero → We, set_cons_succ → Wf, all_cons → Wg, all_nil → Wh
open Go.Proofs.YtjeemcpdmiajmaaGreatDoor.ASt renaming rid → Xr, free → Xs
open Go.Proofs.YtjeemcpdmiajmaaGreatDoor.AV renaming kill → Xt, isHome → Xu, noLoan → Xv, cellOK → Xw
open _root_.Bool renaming and_true → Wi, true_and → Wj, not_true → Wk, not_false → Wl, false_eq_true → Wm
open _root_.Nat renaming reduceEqDiff → Wn, reduceAdd → Wo, reduceSub → Wp, reduceMul → Wq, reduceLeDiff → Wr, reduceLT → Ws, one_ne_zero → Wt, zero_ne_one → Wu
open Go.Proofs.YtjeemcpdmiajmaaGreatDoor.AV.val renaming injEq → V0
set_option linter.unusedSimpArgs false

/-! ### Names -/
def rnGo (first : Bool) : List UInt8 → Bool
  | [] => true
  | b :: r => (letterB b.toNat || (!first && ((b.toNat : Int) == 45 || digitB b.toNat))) && rnGo false r
theorem rnGo_f : ∀ l : List UInt8, rnGo false l = nameGo l
  | [] => rfl
  | b :: r => by
    rw [rnGo, nameGo, rnGo_f r, okB]
    cases letterB b.toNat <;> cases digitB b.toNat <;> cases ((b.toNat : Int) == 45) <;> rfl
theorem name_is (s : ByteArray) : isNameB s = (rnGo true s.data.toList && !((s.size : Int) == 0) && decide (s.size ≤ 40)) := by
  have hsz : s.data.toList.length = s.size := by simp only [Array.length_toList]; rfl
  unfold isNameB
  cases hl : s.data.toList with
  | nil =>
    rw [hl] at hsz
    rw [show ((s.size : Int) == 0) = true by rw [beq_iff_eq, ← hsz]; rfl]
    simp
  | cons b r =>
    rw [rnGo, rnGo_f, nameGo, List.getD_cons_zero, okB]
    simp only [Bool.not_true, Bool.false_and, Bool.or_false]
    cases letterB b.toNat <;> cases nameGo r <;> cases ((s.size : Int) == 0) <;> cases decide (s.size ≤ 40) <;> simp
/-! headend/headendref1.IsName -/
def r17_0 : List POp := [⟨2, .asg (.c (.bool false)), none⟩]
def r17_1 : List POp := [⟨3, .asg (.c (.int .i64 0)), none⟩]
def r17_2 : List POp := [⟨6, .mv (.t 3), none⟩,
  ⟨7, .mv (.t 0), none⟩,
  ⟨8, .lens (.t 7), none⟩,
  ⟨9, .bin .lss (.t 6) (.t 8), none⟩]
def r17_4 : List POp := [⟨12, .mv (.t 0), none⟩,
  ⟨13, .mv (.t 3), none⟩,
  ⟨14, .idxs (.t 12) (.t 13), none⟩,
  ⟨4, .asg (.t 14), none⟩]
def r17_5 : List POp := [⟨15, .mv (.t 4), none⟩,
  ⟨16, .bin .geq (.t 15) (.c (.int .u8 97)), none⟩,
  ⟨17, .mv (.t 16), none⟩,
  ⟨18, .mv (.t 4), some (17, true)⟩,
  ⟨19, .bin .leq (.t 18) (.c (.int .u8 122)), some (17, true)⟩,
  ⟨20, .pick (.t 17) (.t 19) (.c (.bool false)), none⟩,
  ⟨5, .asg (.t 20), none⟩]
def r17_6 : List POp := [⟨21, .mv (.t 5), none⟩,
  ⟨22, .un .not (.t 21), none⟩,
  ⟨23, .mv (.t 22), none⟩,
  ⟨24, .mv (.t 3), some (23, true)⟩,
  ⟨25, .bin .eql (.t 24) (.c (.int .i64 0)), some (23, true)⟩,
  ⟨26, .mv (.t 25), some (23, true)⟩,
  ⟨27, .mv (.t 4), some (26, false)⟩,
  ⟨28, .bin .neq (.t 27) (.c (.int .u8 45)), some (26, false)⟩,
  ⟨29, .mv (.t 28), some (26, false)⟩,
  ⟨30, .mv (.t 4), some (29, true)⟩,
  ⟨31, .bin .geq (.t 30) (.c (.int .u8 48)), some (29, true)⟩,
  ⟨32, .mv (.t 31), some (29, true)⟩,
  ⟨33, .mv (.t 4), some (32, true)⟩,
  ⟨34, .bin .leq (.t 33) (.c (.int .u8 57)), some (32, true)⟩,
  ⟨35, .pick (.t 32) (.t 34) (.c (.bool false)), some (29, true)⟩,
  ⟨36, .un .not (.t 35), some (29, true)⟩,
  ⟨37, .pick (.t 29) (.t 36) (.c (.bool false)), some (26, false)⟩,
  ⟨38, .pick (.t 26) (.c (.bool true)) (.t 37), some (23, true)⟩,
  ⟨39, .pick (.t 23) (.t 38) (.c (.bool false)), none⟩]
def r17_7 : List POp := [⟨2, .asg (.c (.bool false)), none⟩]
def r17_3 : List POp := [⟨10, .mv (.t 3), none⟩,
  ⟨11, .bin .add (.t 10) (.c (.int .i64 1)), none⟩,
  ⟨3, .asg (.t 11), none⟩]
def r17_8 : List POp := [⟨40, .mv (.t 0), none⟩,
  ⟨41, .bin .neq (.t 40) (.c (.string ⟨#[]⟩)), none⟩,
  ⟨42, .mv (.t 41), none⟩,
  ⟨43, .mv (.t 0), some (42, true)⟩,
  ⟨44, .lens (.t 43), some (42, true)⟩,
  ⟨45, .bin .leq (.t 44) (.c (.int .i64 40)), some (42, true)⟩,
  ⟨46, .pick (.t 42) (.t 45) (.c (.bool false)), none⟩,
  ⟨2, .asg (.t 46), none⟩]
def l17_0 : PCode := .seq (.seq (.ops r17_2) (.cond (.t 9) (.skip) (.exit 0))) (.seq (.block 1 (.seq (.ops r17_4) (.seq (.ops r17_5) (.seq (.ops r17_6) (.cond (.t 39) (.seq (.ops r17_7) (.ret)) (.skip)))))) (.ops r17_3))
def p17 : PCode := .seq (.ops r17_0) (.seq (.seq (.ops r17_1) (.block 0 (.loop l17_0))) (.seq (.ops r17_8) (.ret)))
theorem ok17 : okFunc Tryz.prog 17 [.t 2] 1 p17 = true := by kernel_rfl
theorem refname_c (s : ByteArray) (hs9 : s.size ≤ 9223372036854775807) : CallOK Tryz.prog 17 [.val (.string s)] (.val (.bool (isNameB s))) := by
  refine call_of mixed ok17 rfl ?_
  have hsz : s.data.toList.length = s.size := by simp only [Array.length_toList]; rfl
  have hN := name_is s
  repeat' first | ((with_reducible (first | refine condD ?_ ?_ | refine condE ?_ ?_ | refine condN ?_ ?_ | refine condI ?_ ?_ | refine condS ?_ ?_)) <;> intro h) | ((with_reducible (first | refine guardD (by with_unfolding_all rfl) ?_ ?_ | refine guardE (by with_unfolding_all rfl) ?_ ?_ | refine guardN (by with_unfolding_all rfl) ?_ ?_ | refine guardI (by with_unfolding_all rfl) ?_ ?_ | refine guardS (by with_unfolding_all rfl) ?_ ?_)) <;> intro h) | (with_reducible refine And.intro ?_ ?_; omega) | (simp only [Z0,Z1,Z2,Z3,Z4,Z5,Z6,Z7,Z8,Z9,Za,Zb,Zc,Zd,Ze,Zf,List.cons.injEq,Zg,Zh,Zi,Zj,Zk,Zl,Zm,Zn,Zo,Zp,beq_self_eq_true,bne_self_eq_false,decide_true,decide_false,Zq,Zr,Zs,Zt,Zu,Zv,Zw,Zx,Zy,Zz,Y0,Y1,Y2,Y3,Y4,Y5,Y6,Y7,Y8,Y9,Ya,Yb,Yc,Yd,Ye,Yf,Yg,lk,ef,Yi,Yj,Yk,Yl,Yq,Ys,Yw,hv,Yz,ev,X0,X1,X2,X3,X4,X5,X6,X7,X8,X9,Xa,Xb,Xc,Xd,Xe,Xf,Xg,Xh,Xi,Xj,Xk,Xl,Xm,Xn,Xo,Xp,Xq,Xr,Xs,Xt,Xu,Xv,Xw,Value.oneCell',Xx,Xy,Xz,W0,true_and,and_true,and_self,implies_true,W1,W2,W3,W4,false_implies,W5,W6,W7,W8,W9,Wa,Wb,Wc,Wd,We,Wf,Wg,Wh,Wi,Wj,Wk,Wl,reduceCtorEq,if_true,if_false,Wm,↓reduceIte,Wn,Wo,Wp,Wq,Wr,Ws,ne_eq,not_false_eq_true,not_true_eq_false,Wt,Wu,r17_0,r17_1,r17_2,r17_4,r17_5,r17_6,r17_7,r17_3,r17_8,p17]) | (exfalso; omega)
  refine loopS (fun k : Nat => mk [(0, .val (.string s)), (3, .val (.int .i64 k))]) (fun k => k ≤ s.size ∧ rnGo true s.data.toList = rnGo (decide (k = 0)) (s.data.toList.drop k)) (fun k => s.size - k) 0 (weak_mk ?_) ⟨Nat.zero_le _, rfl⟩ ?_
  · simp only [Wv,Ww,Wx,Wy,Wz,V0,Z4,Z5,Z6,Z7,Z8,Z9,Za,Zb,Zc,Zd,Ze,Zf,List.cons.injEq,Zg,Zh,Zi,Zj,Zk,Zl,Zm,Zn,Zo,Zp,beq_self_eq_true,bne_self_eq_false,decide_true,decide_false,Zq,Zr,Zs,Zt,Zu,Zv,Zw,Zx,Zy,Zz,Y0,hv,Yz,ev,X0,X1,X2,X3,X4,X5,X6,X7,X8,X9,Xa,Xb,Xc,Xd,Xe,Xf,Xg,Xh,Xi,Xj,Xk,Xl,Xm,Xn,Xo,Xp,Xq,Xr,Xs,Xt,Xu,Xv,Xw,Value.oneCell',Xx,Xy,Xz,W0,true_and,and_true,and_self,implies_true,W1,W2,W3,W4,false_implies,W5,W6,W7,W8,W9,Wa,Wb,Wc,Wd,We,Wf,Wg,Wh,Wi,Wj,Wk,Wl,reduceCtorEq,if_true,if_false,Wm,↓reduceIte,Wn,Wo,Wp,Wq,Wr,Ws,ne_eq,not_false_eq_true,not_true_eq_false,Wt,Nat.zero_ne_one]
    all_goals first | done | rfl | simp
  rintro J hJ k ⟨hk, hg⟩
  simp only [Z0,Z1,Z2,Z3,Z4,Z5,Z6,Z7,Z8,Z9,Za,Zb,Zc,Zd,Ze,Zf,List.cons.injEq,Zg,Zh,Zi,Zj,Zk,Zl,Zm,Zn,Zo,Zp,beq_self_eq_true,bne_self_eq_false,decide_true,decide_false,Zq,Zr,Zs,Zt,Zu,Zv,Zw,Zx,Zy,Zz,Y0,Y1,Y2,Y3,Y4,Y5,Y6,Y7,Y8,Y9,Ya,Yb,Yc,Yd,Ye,Yf,Yg,lk,ef,Yi,Yj,Yk,Yl,Yq,Ys,Yw,hv,Yz,ev,X0,X1,X2,X3,X4,X5,X6,X7,X8,X9,Xa,Xb,Xc,Xd,Xe,Xf,Xg,Xh,Xi,Xj,Xk,Xl,Xm,Xn,Xo,Xp,Xq,Xr,Xs,Xt,Xu,Xv,Xw,Value.oneCell',Xx,Xy,Xz,W0,true_and,and_true,and_self,implies_true,W1,W2,W3,W4,false_implies,W5,W6,W7,W8,W9,Wa,Wb,Wc,Wd,We,Wf,Wg,Wh,Wi,Wj,Wk,Wl,reduceCtorEq,if_true,if_false,Wm,↓reduceIte,Wn,Wo,Wp,Wq,Wr,Ws,ne_eq,not_false_eq_true,not_true_eq_false,Wt,Wu,r17_0,r17_1,r17_2,r17_4,r17_5,r17_6,r17_7,r17_3,r17_8,p17,l17_0]
  refine condD (fun h => ?_) (fun h => ?_)
  · have hlt : k < s.data.toList.length := by omega
    have hw : IntKind.i64.wrap (k + 1 : Int) = ((k + 1 : Nat) : Int) := wrap_in (by omega) (by omega)
    have hbd : s.data.toList.getD k 0 = s.data.toList[k] := by rw [List.getD_eq_getElem?_getD, List.getElem?_eq_getElem hlt]; rfl
    rw [List.drop_eq_getElem_cons hlt, rnGo] at hg
    have hki : (k : Int) < s.size := by omega
    generalize s.data.toList[k] = b at *
    obtain ⟨n, hn⟩ : ∃ n : Nat, n = b.toNat := ⟨_, rfl⟩
    rw [← hn] at hg
    by_cases hok : (letterB n || (!decide (k = 0) && ((n : Int) == 45 || digitB n))) = true
    · rw [hok, Bool.true_and] at hg
      have hgn : rnGo true s.data.toList = rnGo (decide (k + 1 = 0)) (s.data.toList.drop (k + 1)) := by rw [hg]; rfl
      clear hg
      simp only [letterB, digitB, Bool.or_eq_true, Bool.and_eq_true, decide_eq_true_eq, Bool.not_eq_true', decide_eq_false_iff_not, beq_iff_eq] at hok
      repeat' first | ((with_reducible (first | refine condD ?_ ?_ | refine condE ?_ ?_ | refine condN ?_ ?_ | refine condI ?_ ?_ | refine condS ?_ ?_)) <;> intro h) | ((with_reducible (first | refine guardD (by with_unfolding_all rfl) ?_ ?_ | refine guardE (by with_unfolding_all rfl) ?_ ?_ | refine guardN (by with_unfolding_all rfl) ?_ ?_ | refine guardI (by with_unfolding_all rfl) ?_ ?_ | refine guardS (by with_unfolding_all rfl) ?_ ?_)) <;> intro h) | (with_reducible refine And.intro ?_ ?_; omega) | (simp only [Z0,Z1,Z2,Z3,Z4,Z5,Z6,Z7,Z8,Z9,Za,Zb,Zc,Zd,Ze,Zf,List.cons.injEq,Zg,Zh,Zi,Zj,Zk,Zl,Zm,Zn,Zo,Zp,beq_self_eq_true,bne_self_eq_false,decide_true,decide_false,Zq,Zr,Zs,Zt,Zu,Zv,Zw,Zx,Zy,Zz,Y0,Y1,Y2,Y3,Y4,Y5,Y6,Y7,Y8,Y9,Ya,Yb,Yc,Yd,Ye,Yf,Yg,lk,ef,Yi,Yj,Yk,Yl,Yq,Ys,Yw,hv,Yz,ev,X0,X1,X2,X3,X4,X5,X6,X7,X8,X9,Xa,Xb,Xc,Xd,Xe,Xf,Xg,Xh,Xi,Xj,Xk,Xl,Xm,Xn,Xo,Xp,Xq,Xr,Xs,Xt,Xu,Xv,Xw,Value.oneCell',Xx,Xy,Xz,W0,true_and,and_true,and_self,implies_true,W1,W2,W3,W4,false_implies,W5,W6,W7,W8,W9,Wa,Wb,Wc,Wd,We,Wf,Wg,Wh,Wi,Wj,Wk,Wl,reduceCtorEq,if_true,if_false,Wm,↓reduceIte,Wn,Wo,Wp,Wq,Wr,Ws,ne_eq,not_false_eq_true,not_true_eq_false,Wt,Wu,r17_0,r17_1,r17_2,r17_4,r17_5,r17_6,r17_7,r17_3,r17_8,p17,l17_0,hbd,← hn,hki,hw]) | (exfalso; omega)
      all_goals first | (exfalso; omega) | (exfalso; clear hJ; simp only [decide_eq_false_iff_not, decide_eq_true_eq, beq_eq_false_iff_ne, beq_iff_eq] at *; omega) | exact again hJ (k + 1) (weak_mk (by simp only [Wv,Ww,Wx,Wy,Wz,V0,Z4,Z5,Z6,Z7,Z8,Z9,Za,Zb,Zc,Zd,Ze,Zf,List.cons.injEq,Zg,Zh,Zi,Zj,Zk,Zl,Zm,Zn,Zo,Zp,beq_self_eq_true,bne_self_eq_false,decide_true,decide_false,Zq,Zr,Zs,Zt,Zu,Zv,Zw,Zx,Zy,Zz,Y0,hv,Yz,ev,X0,X1,X2,X3,X4,X5,X6,X7,X8,X9,Xa,Xb,Xc,Xd,Xe,Xf,Xg,Xh,Xi,Xj,Xk,Xl,Xm,Xn,Xo,Xp,Xq,Xr,Xs,Xt,Xu,Xv,Xw,Value.oneCell',Xx,Xy,Xz,W0,true_and,and_true,and_self,implies_true,W1,W2,W3,W4,false_implies,W5,W6,W7,W8,W9,Wa,Wb,Wc,Wd,We,Wf,Wg,Wh,Wi,Wj,Wk,Wl,reduceCtorEq,if_true,if_false,Wm,↓reduceIte,Wn,Wo,Wp,Wq,Wr,Ws,ne_eq,not_false_eq_true,not_true_eq_false,Wt,Nat.zero_ne_one])) ⟨by omega, hgn⟩ (by omega)
    · rw [Bool.not_eq_true] at hok
      rw [hok, Bool.false_and] at hg
      rw [hg] at hN
      simp only [Bool.false_and] at hN
      rw [hN]
      simp only [letterB, digitB, Bool.or_eq_false_iff, Bool.and_eq_false_iff, decide_eq_false_iff_not, Bool.not_eq_false', decide_eq_true_eq, beq_eq_false_iff_ne] at hok
      repeat' first | ((with_reducible (first | refine condD ?_ ?_ | refine condE ?_ ?_ | refine condN ?_ ?_ | refine condI ?_ ?_ | refine condS ?_ ?_)) <;> intro h) | ((with_reducible (first | refine guardD (by with_unfolding_all rfl) ?_ ?_ | refine guardE (by with_unfolding_all rfl) ?_ ?_ | refine guardN (by with_unfolding_all rfl) ?_ ?_ | refine guardI (by with_unfolding_all rfl) ?_ ?_ | refine guardS (by with_unfolding_all rfl) ?_ ?_)) <;> intro h) | (with_reducible refine And.intro ?_ ?_; omega) | (simp only [Z0,Z1,Z2,Z3,Z4,Z5,Z6,Z7,Z8,Z9,Za,Zb,Zc,Zd,Ze,Zf,List.cons.injEq,Zg,Zh,Zi,Zj,Zk,Zl,Zm,Zn,Zo,Zp,beq_self_eq_true,bne_self_eq_false,decide_true,decide_false,Zq,Zr,Zs,Zt,Zu,Zv,Zw,Zx,Zy,Zz,Y0,Y1,Y2,Y3,Y4,Y5,Y6,Y7,Y8,Y9,Ya,Yb,Yc,Yd,Ye,Yf,Yg,lk,ef,Yi,Yj,Yk,Yl,Yq,Ys,Yw,hv,Yz,ev,X0,X1,X2,X3,X4,X5,X6,X7,X8,X9,Xa,Xb,Xc,Xd,Xe,Xf,Xg,Xh,Xi,Xj,Xk,Xl,Xm,Xn,Xo,Xp,Xq,Xr,Xs,Xt,Xu,Xv,Xw,Value.oneCell',Xx,Xy,Xz,W0,true_and,and_true,and_self,implies_true,W1,W2,W3,W4,false_implies,W5,W6,W7,W8,W9,Wa,Wb,Wc,Wd,We,Wf,Wg,Wh,Wi,Wj,Wk,Wl,reduceCtorEq,if_true,if_false,Wm,↓reduceIte,Wn,Wo,Wp,Wq,Wr,Ws,ne_eq,not_false_eq_true,not_true_eq_false,Wt,Wu,r17_0,r17_1,r17_2,r17_4,r17_5,r17_6,r17_7,r17_3,r17_8,p17,l17_0,hbd,← hn,hki,hw]) | (exfalso; omega)
      all_goals first | done | (exfalso; omega) | (exfalso; clear hJ; simp only [decide_eq_false_iff_not, decide_eq_true_eq, beq_eq_false_iff_ne, beq_iff_eq] at *; omega)
  · have hke : k = s.size := by omega
    subst hke
    have hn : s.data.toList.drop s.size = [] := List.drop_eq_nil_of_le (by omega)
    rw [hn] at hg
    rw [hg] at hN
    simp only [rnGo, Bool.true_and] at hN
    clear hJ
    by_cases z : s.size = 0
    · have hs : s = ⟨#[]⟩ := by
        cases s with
        | mk d =>
          have : d.size = 0 := z
          rw [Array.eq_empty_of_size_eq_zero this]
      subst hs
      rw [hN]
      repeat' first | ((with_reducible (first | refine condD ?_ ?_ | refine condE ?_ ?_ | refine condN ?_ ?_ | refine condI ?_ ?_ | refine condS ?_ ?_)) <;> intro h) | ((with_reducible (first | refine guardD (by with_unfolding_all rfl) ?_ ?_ | refine guardE (by with_unfolding_all rfl) ?_ ?_ | refine guardN (by with_unfolding_all rfl) ?_ ?_ | refine guardI (by with_unfolding_all rfl) ?_ ?_ | refine guardS (by with_unfolding_all rfl) ?_ ?_)) <;> intro h) | (with_reducible refine And.intro ?_ ?_; omega) | (simp only [Z0,Z1,Z2,Z3,Z4,Z5,Z6,Z7,Z8,Z9,Za,Zb,Zc,Zd,Ze,Zf,List.cons.injEq,Zg,Zh,Zi,Zj,Zk,Zl,Zm,Zn,Zo,Zp,beq_self_eq_true,bne_self_eq_false,decide_true,decide_false,Zq,Zr,Zs,Zt,Zu,Zv,Zw,Zx,Zy,Zz,Y0,Y1,Y2,Y3,Y4,Y5,Y6,Y7,Y8,Y9,Ya,Yb,Yc,Yd,Ye,Yf,Yg,lk,ef,Yi,Yj,Yk,Yl,Yq,Ys,Yw,hv,Yz,ev,X0,X1,X2,X3,X4,X5,X6,X7,X8,X9,Xa,Xb,Xc,Xd,Xe,Xf,Xg,Xh,Xi,Xj,Xk,Xl,Xm,Xn,Xo,Xp,Xq,Xr,Xs,Xt,Xu,Xv,Xw,Value.oneCell',Xx,Xy,Xz,W0,true_and,and_true,and_self,implies_true,W1,W2,W3,W4,false_implies,W5,W6,W7,W8,W9,Wa,Wb,Wc,Wd,We,Wf,Wg,Wh,Wi,Wj,Wk,Wl,reduceCtorEq,if_true,if_false,Wm,↓reduceIte,Wn,Wo,Wp,Wq,Wr,Ws,ne_eq,not_false_eq_true,not_true_eq_false,Wt,Wu,r17_0,r17_1,r17_2,r17_4,r17_5,r17_6,r17_7,r17_3,r17_8,p17,l17_0]) | (exfalso; omega)
      all_goals first | rfl | simp
    · have hne : (s.toList == (⟨#[]⟩ : ByteArray).toList) = false := by
        rw [beq_eq_false_iff_ne]
        intro e
        rw [ByteArray.toList_eq, ByteArray.toList_eq] at e
        have := congrArg List.length e
        rw [hsz] at this
        exact z this
      have hz : ((s.size : Int) == 0) = false := by rw [beq_eq_false_iff_ne]; omega
      rw [hN, hz]
      repeat' first | ((with_reducible (first | refine condD ?_ ?_ | refine condE ?_ ?_ | refine condN ?_ ?_ | refine condI ?_ ?_ | refine condS ?_ ?_)) <;> intro h) | ((with_reducible (first | refine guardD (by with_unfolding_all rfl) ?_ ?_ | refine guardE (by with_unfolding_all rfl) ?_ ?_ | refine guardN (by with_unfolding_all rfl) ?_ ?_ | refine guardI (by with_unfolding_all rfl) ?_ ?_ | refine guardS (by with_unfolding_all rfl) ?_ ?_)) <;> intro h) | (with_reducible refine And.intro ?_ ?_; omega) | (simp only [Z0,Z1,Z2,Z3,Z4,Z5,Z6,Z7,Z8,Z9,Za,Zb,Zc,Zd,Ze,Zf,List.cons.injEq,Zg,Zh,Zi,Zj,Zk,Zl,Zm,Zn,Zo,Zp,beq_self_eq_true,bne_self_eq_false,decide_true,decide_false,Zq,Zr,Zs,Zt,Zu,Zv,Zw,Zx,Zy,Zz,Y0,Y1,Y2,Y3,Y4,Y5,Y6,Y7,Y8,Y9,Ya,Yb,Yc,Yd,Ye,Yf,Yg,lk,ef,Yi,Yj,Yk,Yl,Yq,Ys,Yw,hv,Yz,ev,X0,X1,X2,X3,X4,X5,X6,X7,X8,X9,Xa,Xb,Xc,Xd,Xe,Xf,Xg,Xh,Xi,Xj,Xk,Xl,Xm,Xn,Xo,Xp,Xq,Xr,Xs,Xt,Xu,Xv,Xw,Value.oneCell',Xx,Xy,Xz,W0,true_and,and_true,and_self,implies_true,W1,W2,W3,W4,false_implies,W5,W6,W7,W8,W9,Wa,Wb,Wc,Wd,We,Wf,Wg,Wh,Wi,Wj,Wk,Wl,reduceCtorEq,if_true,if_false,Wm,↓reduceIte,Wn,Wo,Wp,Wq,Wr,Ws,ne_eq,not_false_eq_true,not_true_eq_false,Wt,Wu,r17_0,r17_1,r17_2,r17_4,r17_5,r17_6,r17_7,r17_3,r17_8,p17,l17_0,hne]) | (exfalso; omega)
      all_goals first | done | (simp; omega) | simp
/-! headend/headendref4.checkOne -/
def r18_0 : List POp := [⟨1, .boxs (.t 0), none⟩,
  ⟨2, .asg (.c (.int .i64 0)), none⟩]
def r18_1 : List POp := [⟨4, .fld 0 (.t 1), none⟩,
  ⟨5, .load (.t 4), none⟩,
  ⟨6, .call 17 [.t 5], none⟩,
  ⟨7, .un .not (.t 6), none⟩]
def r18_2 : List POp := [⟨2, .asg (.c (.int .i64 5)), none⟩]
def r18_3 : List POp := [⟨8, .fld 1 (.t 1), none⟩,
  ⟨9, .load (.t 8), none⟩,
  ⟨10, .call 28 [.t 9], none⟩,
  ⟨11, .un .not (.t 10), none⟩]
def r18_4 : List POp := [⟨2, .asg (.c (.int .i64 1)), none⟩]
def r18_5 : List POp := [⟨12, .fld 3 (.t 1), none⟩,
  ⟨13, .load (.t 12), none⟩,
  ⟨14, .call 29 [.t 13], none⟩,
  ⟨3, .asg (.t 14), none⟩]
def r18_6 : List POp := [⟨15, .mv (.t 3), none⟩,
  ⟨16, .bin .neq (.t 15) (.c (.int .i64 0)), none⟩]
def r18_7 : List POp := [⟨17, .mv (.t 3), none⟩,
  ⟨2, .asg (.t 17), none⟩]
def r18_8 : List POp := [⟨18, .fld 3 (.t 1), none⟩,
  ⟨19, .load (.t 18), none⟩,
  ⟨20, .len (.t 19), none⟩,
  ⟨21, .bin .eql (.t 20) (.c (.int .i64 0)), none⟩]
def r18_9 : List POp := [⟨2, .asg (.c (.int .i64 9)), none⟩]
def r18_10 : List POp := [⟨2, .asg (.c (.int .i64 0)), none⟩]
def p18 : PCode := .seq (.ops r18_0) (.seq (.seq (.ops r18_1) (.cond (.t 7) (.seq (.ops r18_2) (.ret)) (.skip))) (.seq (.seq (.ops r18_3) (.cond (.t 11) (.seq (.ops r18_4) (.ret)) (.skip))) (.seq (.seq (.ops r18_5) (.seq (.ops r18_6) (.cond (.t 16) (.seq (.ops r18_7) (.ret)) (.skip)))) (.seq (.seq (.ops r18_8) (.cond (.t 21) (.seq (.ops r18_9) (.ret)) (.skip))) (.seq (.ops r18_10) (.ret))))))
theorem ok18 : okFunc Tryz.prog 18 [.t 2] 1 p18 = true := by kernel_rfl
def NmOK (r : Str) : Prop := r.name.size ≤ 9223372036854775807
theorem one_c (r : Str) (hnm : NmOK r) : CallOK Tryz.prog 18 [.agg r.av] (.val (.int .i64 (strF r []))) := by
  refine call_of mixed ok18 rfl ?_
  have c1 := refname_c r.name hnm
  have c2 := isscale_c r.scale
  have c3 := refsmp_c r.smps
  unfold strF strF2
  simp only [named, Bool.false_eq_true, if_false]
  cases h1 : isNameB r.name with
  | false =>
    rw [h1] at c1
    rw [if_pos rfl]
    repeat' first | ((with_reducible (first | refine condD ?_ ?_ | refine condE ?_ ?_ | refine condN ?_ ?_ | refine condI ?_ ?_ | refine condS ?_ ?_)) <;> intro h) | ((refine callG c1 ?_)) | (with_reducible refine And.intro ?_ ?_; omega) | (simp only [Z0,Z1,Z2,Z3,Z4,Z5,Z6,Z7,Z8,Z9,Za,Zb,Zc,Zd,Ze,Zf,List.cons.injEq,Zg,Zh,Zi,Zj,Zk,Zl,Zm,Zn,Zo,Zp,beq_self_eq_true,bne_self_eq_false,decide_true,decide_false,Zq,Zr,Zs,Zt,Zu,Zv,Zw,Zx,Zy,Zz,Y0,Y1,Y2,Y3,Y4,Y5,Y6,Y7,Y8,Y9,Ya,Yb,Yc,Yd,Ye,Yf,Yg,Yh,lk,ef,Yi,Yk,Yl,Ym,Yo,Yr,Yu,Yw,hv,Yz,ev,X0,X1,X2,X3,X4,X5,X6,X7,X8,X9,Xa,Xb,Xc,Xd,Xe,Xf,Xg,Xh,Xi,Xj,Xk,Xl,Xm,Xn,Xo,Xp,Xq,Xr,Xs,Xt,Xu,Xv,Xw,Value.oneCell',Xx,Xy,Xz,W0,true_and,and_true,and_self,implies_true,W1,W2,W3,W4,false_implies,W5,W6,W7,W8,W9,Wa,Wb,Wc,Wd,We,Wf,Wg,Wh,Wi,Wj,Wk,Wl,reduceCtorEq,if_true,if_false,Wm,↓reduceIte,Wn,Wo,Wp,Wq,Wr,Ws,ne_eq,not_false_eq_true,not_true_eq_false,Wt,Wu,r18_0,r18_1,r18_2,r18_3,r18_4,r18_5,r18_6,r18_7,r18_8,r18_9,r18_10,p18,Str.av]) | (exfalso; omega)
  | true =>
  rw [h1] at c1
  rw [if_neg (by simp)]
  cases h2 : noScale r.scale with
  | true =>
    rw [h2] at c2
    rw [if_pos rfl]
    repeat' first | ((with_reducible (first | refine condD ?_ ?_ | refine condE ?_ ?_ | refine condN ?_ ?_ | refine condI ?_ ?_ | refine condS ?_ ?_)) <;> intro h) | ((refine callG c1 ?_)) | ((refine callG c2 ?_)) | (with_reducible refine And.intro ?_ ?_; omega) | (simp only [Z0,Z1,Z2,Z3,Z4,Z5,Z6,Z7,Z8,Z9,Za,Zb,Zc,Zd,Ze,Zf,List.cons.injEq,Zg,Zh,Zi,Zj,Zk,Zl,Zm,Zn,Zo,Zp,beq_self_eq_true,bne_self_eq_false,decide_true,decide_false,Zq,Zr,Zs,Zt,Zu,Zv,Zw,Zx,Zy,Zz,Y0,Y1,Y2,Y3,Y4,Y5,Y6,Y7,Y8,Y9,Ya,Yb,Yc,Yd,Ye,Yf,Yg,Yh,lk,ef,Yi,Yk,Yl,Ym,Yo,Yr,Yu,Yw,hv,Yz,ev,X0,X1,X2,X3,X4,X5,X6,X7,X8,X9,Xa,Xb,Xc,Xd,Xe,Xf,Xg,Xh,Xi,Xj,Xk,Xl,Xm,Xn,Xo,Xp,Xq,Xr,Xs,Xt,Xu,Xv,Xw,Value.oneCell',Xx,Xy,Xz,W0,true_and,and_true,and_self,implies_true,W1,W2,W3,W4,false_implies,W5,W6,W7,W8,W9,Wa,Wb,Wc,Wd,We,Wf,Wg,Wh,Wi,Wj,Wk,Wl,reduceCtorEq,if_true,if_false,Wm,↓reduceIte,Wn,Wo,Wp,Wq,Wr,Ws,ne_eq,not_false_eq_true,not_true_eq_false,Wt,Wu,r18_0,r18_1,r18_2,r18_3,r18_4,r18_5,r18_6,r18_7,r18_8,r18_9,r18_10,p18,Str.av]) | (exfalso; omega)
  | false =>
  rw [h2] at c2
  rw [if_neg (by simp)]
  by_cases h3 : smpF r.smps = 0
  · rw [h3] at c3
    rw [if_neg (by simp [h3])]
    by_cases h4 : (r.smps.length : Int) = 0
    · rw [if_pos h4]
      have h4' : (((r.smps.length : Nat) : Int) == 0) = true := by rw [beq_iff_eq]; exact h4
      repeat' first | ((with_reducible (first | refine condD ?_ ?_ | refine condE ?_ ?_ | refine condN ?_ ?_ | refine condI ?_ ?_ | refine condS ?_ ?_)) <;> intro h) | ((refine callG c1 ?_)) | ((refine callG c2 ?_)) | ((refine callG c3 ?_)) | (with_reducible refine And.intro ?_ ?_; omega) | (simp only [Z0,Z1,Z2,Z3,Z4,Z5,Z6,Z7,Z8,Z9,Za,Zb,Zc,Zd,Ze,Zf,List.cons.injEq,Zg,Zh,Zi,Zj,Zk,Zl,Zm,Zn,Zo,Zp,beq_self_eq_true,bne_self_eq_false,decide_true,decide_false,Zq,Zr,Zs,Zt,Zu,Zv,Zw,Zx,Zy,Zz,Y0,Y1,Y2,Y3,Y4,Y5,Y6,Y7,Y8,Y9,Ya,Yb,Yc,Yd,Ye,Yf,Yg,Yh,lk,ef,Yi,Yk,Yl,Ym,Yo,Yr,Yu,Yw,hv,Yz,ev,X0,X1,X2,X3,X4,X5,X6,X7,X8,X9,Xa,Xb,Xc,Xd,Xe,Xf,Xg,Xh,Xi,Xj,Xk,Xl,Xm,Xn,Xo,Xp,Xq,Xr,Xs,Xt,Xu,Xv,Xw,Value.oneCell',Xx,Xy,Xz,W0,true_and,and_true,and_self,implies_true,W1,W2,W3,W4,false_implies,W5,W6,W7,W8,W9,Wa,Wb,Wc,Wd,We,Wf,Wg,Wh,Wi,Wj,Wk,Wl,reduceCtorEq,if_true,if_false,Wm,↓reduceIte,Wn,Wo,Wp,Wq,Wr,Ws,ne_eq,not_false_eq_true,not_true_eq_false,Wt,Wu,r18_0,r18_1,r18_2,r18_3,r18_4,r18_5,r18_6,r18_7,r18_8,r18_9,r18_10,p18,Str.av,Zt,h4,h4']) | (exfalso; omega)
    · rw [if_neg h4]
      have h4' : (((r.smps.length : Nat) : Int) == 0) = false := by rw [beq_eq_false_iff_ne]; exact h4
      repeat' first | ((with_reducible (first | refine condD ?_ ?_ | refine condE ?_ ?_ | refine condN ?_ ?_ | refine condI ?_ ?_ | refine condS ?_ ?_)) <;> intro h) | ((refine callG c1 ?_)) | ((refine callG c2 ?_)) | ((refine callG c3 ?_)) | (with_reducible refine And.intro ?_ ?_; omega) | (simp only [Z0,Z1,Z2,Z3,Z4,Z5,Z6,Z7,Z8,Z9,Za,Zb,Zc,Zd,Ze,Zf,List.cons.injEq,Zg,Zh,Zi,Zj,Zk,Zl,Zm,Zn,Zo,Zp,beq_self_eq_true,bne_self_eq_false,decide_true,decide_false,Zq,Zr,Zs,Zt,Zu,Zv,Zw,Zx,Zy,Zz,Y0,Y1,Y2,Y3,Y4,Y5,Y6,Y7,Y8,Y9,Ya,Yb,Yc,Yd,Ye,Yf,Yg,Yh,lk,ef,Yi,Yk,Yl,Ym,Yo,Yr,Yu,Yw,hv,Yz,ev,X0,X1,X2,X3,X4,X5,X6,X7,X8,X9,Xa,Xb,Xc,Xd,Xe,Xf,Xg,Xh,Xi,Xj,Xk,Xl,Xm,Xn,Xo,Xp,Xq,Xr,Xs,Xt,Xu,Xv,Xw,Value.oneCell',Xx,Xy,Xz,W0,true_and,and_true,and_self,implies_true,W1,W2,W3,W4,false_implies,W5,W6,W7,W8,W9,Wa,Wb,Wc,Wd,We,Wf,Wg,Wh,Wi,Wj,Wk,Wl,reduceCtorEq,if_true,if_false,Wm,↓reduceIte,Wn,Wo,Wp,Wq,Wr,Ws,ne_eq,not_false_eq_true,not_true_eq_false,Wt,Wu,r18_0,r18_1,r18_2,r18_3,r18_4,r18_5,r18_6,r18_7,r18_8,r18_9,r18_10,p18,Str.av,Zt,h4,h4']) | (exfalso; omega)
  · rw [if_pos h3]
    have h3a := bne0_t h3
    have h3b := beq0_f h3
    generalize smpF r.smps = e at *
    repeat' first | ((with_reducible (first | refine condD ?_ ?_ | refine condE ?_ ?_ | refine condN ?_ ?_ | refine condI ?_ ?_ | refine condS ?_ ?_)) <;> intro h) | ((refine callG c1 ?_)) | ((refine callG c2 ?_)) | ((refine callG c3 ?_)) | (with_reducible refine And.intro ?_ ?_; omega) | (simp only [Z0,Z1,Z2,Z3,Z4,Z5,Z6,Z7,Z8,Z9,Za,Zb,Zc,Zd,Ze,Zf,List.cons.injEq,Zg,Zh,Zi,Zj,Zk,Zl,Zm,Zn,Zo,Zp,beq_self_eq_true,bne_self_eq_false,decide_true,decide_false,Zq,Zr,Zs,Zt,Zu,Zv,Zw,Zx,Zy,Zz,Y0,Y1,Y2,Y3,Y4,Y5,Y6,Y7,Y8,Y9,Ya,Yb,Yc,Yd,Ye,Yf,Yg,Yh,lk,ef,Yi,Yk,Yl,Ym,Yo,Yr,Yu,Yw,hv,Yz,ev,X0,X1,X2,X3,X4,X5,X6,X7,X8,X9,Xa,Xb,Xc,Xd,Xe,Xf,Xg,Xh,Xi,Xj,Xk,Xl,Xm,Xn,Xo,Xp,Xq,Xr,Xs,Xt,Xu,Xv,Xw,Value.oneCell',Xx,Xy,Xz,W0,true_and,and_true,and_self,implies_true,W1,W2,W3,W4,false_implies,W5,W6,W7,W8,W9,Wa,Wb,Wc,Wd,We,Wf,Wg,Wh,Wi,Wj,Wk,Wl,reduceCtorEq,if_true,if_false,Wm,↓reduceIte,Wn,Wo,Wp,Wq,Wr,Ws,ne_eq,not_false_eq_true,not_true_eq_false,Wt,Wu,r18_0,r18_1,r18_2,r18_3,r18_4,r18_5,r18_6,r18_7,r18_8,r18_9,r18_10,p18,Str.av,h3a,h3b]) | (exfalso; omega)
theorem strF_name {t : Str} {e : List Str} (h : isNameB t.name = false) : strF t e = 5 := by simp [strF, h]
theorem strF_two {t : Str} {e : List Str} (h : isNameB t.name = true) (h2 : named t.name e = true) : strF t e = 7 := by simp [strF, h, h2]
theorem strF_one {t : Str} {e : List Str} (h : isNameB t.name = true) (h2 : named t.name e = false) : strF t e = strF t [] := by simp [strF, h, h2, named]
/-! headend/headendref4.CheckRenditions -/
def r7_0 : List POp := [⟨2, .asg (.c (.int .i64 0)), none⟩]
def r7_1 : List POp := [⟨6, .mv (.t 0), none⟩,
  ⟨7, .len (.t 6), none⟩,
  ⟨8, .bin .eql (.t 7) (.c (.int .i64 0)), none⟩]
def r7_2 : List POp := [⟨2, .asg (.c (.int .i64 9)), none⟩]
def r7_3 : List POp := [⟨9, .mv (.t 0), none⟩,
  ⟨10, .len (.t 9), none⟩,
  ⟨11, .bin .gtr (.t 10) (.c (.int .i64 12)), none⟩]
def r7_4 : List POp := [⟨2, .asg (.c (.int .i64 2)), none⟩]
def r7_5 : List POp := [⟨3, .asg (.c (.int .i64 0)), none⟩]
def r7_6 : List POp := [⟨12, .mv (.t 3), none⟩,
  ⟨13, .mv (.t 0), none⟩,
  ⟨14, .len (.t 13), none⟩,
  ⟨15, .bin .lss (.t 12) (.t 14), none⟩]
def r7_8 : List POp := [⟨18, .mv (.t 0), none⟩,
  ⟨19, .mv (.t 3), none⟩,
  ⟨20, .idx 4 (.t 18) (.t 19), none⟩,
  ⟨21, .fld 0 (.t 20), none⟩,
  ⟨22, .load (.t 21), none⟩,
  ⟨23, .call 17 [.t 22], none⟩,
  ⟨24, .un .not (.t 23), none⟩]
def r7_9 : List POp := [⟨2, .asg (.c (.int .i64 5)), none⟩]
def r7_10 : List POp := [⟨4, .asg (.c (.int .i64 0)), none⟩]
def r7_11 : List POp := [⟨25, .mv (.t 4), none⟩,
  ⟨26, .mv (.t 3), none⟩,
  ⟨27, .bin .lss (.t 25) (.t 26), none⟩]
def r7_13 : List POp := [⟨30, .mv (.t 0), none⟩,
  ⟨31, .mv (.t 4), none⟩,
  ⟨32, .idx 4 (.t 30) (.t 31), none⟩,
  ⟨33, .fld 0 (.t 32), none⟩,
  ⟨34, .load (.t 33), none⟩,
  ⟨35, .mv (.t 0), none⟩,
  ⟨36, .mv (.t 3), none⟩,
  ⟨37, .idx 4 (.t 35) (.t 36), none⟩,
  ⟨38, .fld 0 (.t 37), none⟩,
  ⟨39, .load (.t 38), none⟩,
  ⟨40, .bin .eql (.t 34) (.t 39), none⟩]
def r7_14 : List POp := [⟨2, .asg (.c (.int .i64 7)), none⟩]
def r7_12 : List POp := [⟨28, .mv (.t 4), none⟩,
  ⟨29, .bin .add (.t 28) (.c (.int .i64 1)), none⟩,
  ⟨4, .asg (.t 29), none⟩]
def r7_15 : List POp := [⟨41, .mv (.t 0), none⟩,
  ⟨42, .mv (.t 3), none⟩,
  ⟨43, .idx 4 (.t 41) (.t 42), none⟩,
  ⟨44, .loads 4 (.t 43), none⟩,
  ⟨45, .call 18 [.t 44], none⟩,
  ⟨5, .asg (.t 45), none⟩]
def r7_16 : List POp := [⟨46, .mv (.t 5), none⟩,
  ⟨47, .bin .neq (.t 46) (.c (.int .i64 0)), none⟩]
def r7_17 : List POp := [⟨48, .mv (.t 5), none⟩,
  ⟨2, .asg (.t 48), none⟩]
def r7_7 : List POp := [⟨16, .mv (.t 3), none⟩,
  ⟨17, .bin .add (.t 16) (.c (.int .i64 1)), none⟩,
  ⟨3, .asg (.t 17), none⟩]
def r7_18 : List POp := [⟨49, .mv (.t 0), none⟩,
  ⟨50, .idx 4 (.t 49) (.c (.int .i64 0)), none⟩,
  ⟨51, .fld 2 (.t 50), none⟩,
  ⟨52, .load (.t 51), none⟩]
def r7_19 : List POp := [⟨2, .asg (.c (.int .i64 4)), none⟩]
def r7_20 : List POp := [⟨2, .asg (.c (.int .i64 0)), none⟩]
def l7_1 : PCode := .seq (.seq (.ops r7_11) (.cond (.t 27) (.skip) (.exit 2))) (.seq (.block 3 (.seq (.ops r7_13) (.cond (.t 40) (.seq (.ops r7_14) (.ret)) (.skip)))) (.ops r7_12))
def l7_0 : PCode := .seq (.seq (.ops r7_6) (.cond (.t 15) (.skip) (.exit 0))) (.seq (.block 1 (.seq (.seq (.ops r7_8) (.cond (.t 24) (.seq (.ops r7_9) (.ret)) (.skip))) (.seq (.seq (.ops r7_10) (.block 2 (.loop l7_1))) (.seq (.ops r7_15) (.seq (.ops r7_16) (.cond (.t 47) (.seq (.ops r7_17) (.ret)) (.skip))))))) (.ops r7_7))
def p7 : PCode := .seq (.ops r7_0) (.seq (.seq (.ops r7_1) (.cond (.t 8) (.seq (.ops r7_2) (.ret)) (.skip))) (.seq (.seq (.ops r7_3) (.cond (.t 11) (.seq (.ops r7_4) (.ret)) (.skip))) (.seq (.seq (.ops r7_5) (.block 0 (.loop l7_0))) (.seq (.seq (.ops r7_18) (.cond (.t 52) (.seq (.ops r7_19) (.ret)) (.skip))) (.seq (.ops r7_20) (.ret))))))
theorem ok7 : okFunc Tryz.prog 7 [.t 2] 1 p7 = true := by kernel_rfl
set_option maxHeartbeats 1000000 in
theorem rrend_c (ts : List Str) (hnm : ∀ r ∈ ts, NmOK r) : CallOK Tryz.prog 7 [.ro (ts.map Str.av)] (.val (.int .i64 (rendF ts))) := by
  refine call_of mixed ok7 rfl ?_
  by_cases h1 : ts.length = 0
  · obtain rfl := List.eq_nil_of_length_eq_zero h1
    repeat' first | ((with_reducible (first | refine condD ?_ ?_ | refine condE ?_ ?_ | refine condN ?_ ?_ | refine condI ?_ ?_ | refine condS ?_ ?_)) <;> intro h) | (with_reducible refine And.intro ?_ ?_; omega) | (simp only [Z0,Z1,Z2,Z3,Z4,Z5,Z6,Z7,Z8,Z9,Za,Zb,Zc,Zd,Ze,Zf,List.cons.injEq,Zg,Zh,Zi,Zj,Zk,Zl,Zm,Zn,Zo,Zp,beq_self_eq_true,bne_self_eq_false,decide_true,decide_false,Zq,Zr,Zs,Zt,Zu,Zv,Zw,Zx,Zy,Zz,Y0,Y1,Y2,Y3,Y4,Y5,Y6,Y7,Y8,Y9,Ya,Yb,Yc,Yd,Ye,Yf,Yg,Yh,lk,ef,Yi,Yk,Yl,Ym,Yn,Yo,Yp,Yr,Yw,hv,Yz,ev,X0,X1,X2,X3,X4,X5,X6,X7,X8,X9,Xa,Xb,Xc,Xd,Xe,Xf,Xg,Xh,Xi,Xj,Xk,Xl,Xm,Xn,Xo,Xp,Xq,Xr,Xs,Xt,Xu,Xv,Xw,Value.oneCell',Xx,Xy,Xz,W0,true_and,and_true,and_self,implies_true,W1,W2,W3,W4,false_implies,W5,W6,W7,W8,W9,Wa,Wb,Wc,Wd,We,Wf,Wg,Wh,Wi,Wj,Wk,Wl,reduceCtorEq,if_true,if_false,Wm,↓reduceIte,Wn,Wo,Wp,Wq,Wr,Ws,ne_eq,not_false_eq_true,not_true_eq_false,Wt,Wu,r7_0,r7_1,r7_2,r7_3,r7_4,r7_5,r7_6,r7_8,r7_9,r7_10,r7_11,r7_13,r7_14,r7_12,r7_15,r7_16,r7_17,r7_7,r7_18,r7_19,r7_20,p7]) | (exfalso; omega)
    all_goals first | done | simp [rendF]
  have h1b : ((ts.length : Int) == 0) = false := by rw [beq_eq_false_iff_ne]; omega
  by_cases h2 : 12 < ts.length
  · have h2i : (12 : Int) < ts.length := by omega
    rw [show rendF ts = 2 from by rw [rendF, if_neg h1, if_pos h2]]
    repeat' first | ((with_reducible (first | refine condD ?_ ?_ | refine condE ?_ ?_ | refine condN ?_ ?_ | refine condI ?_ ?_ | refine condS ?_ ?_)) <;> intro h) | (with_reducible refine And.intro ?_ ?_; omega) | (simp only [Z0,Z1,Z2,Z3,Z4,Z5,Z6,Z7,Z8,Z9,Za,Zb,Zc,Zd,Ze,Zf,List.cons.injEq,Zg,Zh,Zi,Zj,Zk,Zl,Zm,Zn,Zo,Zp,beq_self_eq_true,bne_self_eq_false,decide_true,decide_false,Zq,Zr,Zs,Zt,Zu,Zv,Zw,Zx,Zy,Zz,Y0,Y1,Y2,Y3,Y4,Y5,Y6,Y7,Y8,Y9,Ya,Yb,Yc,Yd,Ye,Yf,Yg,Yh,lk,ef,Yi,Yk,Yl,Ym,Yn,Yo,Yp,Yr,Yw,hv,Yz,ev,X0,X1,X2,X3,X4,X5,X6,X7,X8,X9,Xa,Xb,Xc,Xd,Xe,Xf,Xg,Xh,Xi,Xj,Xk,Xl,Xm,Xn,Xo,Xp,Xq,Xr,Xs,Xt,Xu,Xv,Xw,Value.oneCell',Xx,Xy,Xz,W0,true_and,and_true,and_self,implies_true,W1,W2,W3,W4,false_implies,W5,W6,W7,W8,W9,Wa,Wb,Wc,Wd,We,Wf,Wg,Wh,Wi,Wj,Wk,Wl,reduceCtorEq,if_true,if_false,Wm,↓reduceIte,Wn,Wo,Wp,Wq,Wr,Ws,ne_eq,not_false_eq_true,not_true_eq_false,Wt,Wu,r7_0,r7_1,r7_2,r7_3,r7_4,r7_5,r7_6,r7_8,r7_9,r7_10,r7_11,r7_13,r7_14,r7_12,r7_15,r7_16,r7_17,r7_7,r7_18,r7_19,r7_20,p7,h1b,h2i,List.length_map]) | (exfalso; omega)
  have h2i : ¬ (12 : Int) < ts.length := by omega
  rw [show rendF ts = if rendK ts ts.length ≠ 0 then rendK ts ts.length else if sound0 ts then 4 else 0 from by rw [rendF, if_neg h1, if_neg h2]]
  obtain ⟨R, hR⟩ : ∃ R, R = if rendK ts ts.length ≠ 0 then rendK ts ts.length else if sound0 ts then 4 else 0 := ⟨_, rfl⟩
  rw [← hR]
  repeat' first | ((with_reducible (first | refine condD ?_ ?_ | refine condE ?_ ?_ | refine condN ?_ ?_ | refine condI ?_ ?_ | refine condS ?_ ?_)) <;> intro h) | (with_reducible refine And.intro ?_ ?_; omega) | (simp only [Z0,Z1,Z2,Z3,Z4,Z5,Z6,Z7,Z8,Z9,Za,Zb,Zc,Zd,Ze,Zf,List.cons.injEq,Zg,Zh,Zi,Zj,Zk,Zl,Zm,Zn,Zo,Zp,beq_self_eq_true,bne_self_eq_false,decide_true,decide_false,Zq,Zr,Zs,Zt,Zu,Zv,Zw,Zx,Zy,Zz,Y0,Y1,Y2,Y3,Y4,Y5,Y6,Y7,Y8,Y9,Ya,Yb,Yc,Yd,Ye,Yf,Yg,Yh,lk,ef,Yi,Yk,Yl,Ym,Yn,Yo,Yp,Yr,Yw,hv,Yz,ev,X0,X1,X2,X3,X4,X5,X6,X7,X8,X9,Xa,Xb,Xc,Xd,Xe,Xf,Xg,Xh,Xi,Xj,Xk,Xl,Xm,Xn,Xo,Xp,Xq,Xr,Xs,Xt,Xu,Xv,Xw,Value.oneCell',Xx,Xy,Xz,W0,true_and,and_true,and_self,implies_true,W1,W2,W3,W4,false_implies,W5,W6,W7,W8,W9,Wa,Wb,Wc,Wd,We,Wf,Wg,Wh,Wi,Wj,Wk,Wl,reduceCtorEq,if_true,if_false,Wm,↓reduceIte,Wn,Wo,Wp,Wq,Wr,Ws,ne_eq,not_false_eq_true,not_true_eq_false,Wt,Wu,r7_0,r7_1,r7_2,r7_3,r7_4,r7_5,r7_6,r7_8,r7_9,r7_10,r7_11,r7_13,r7_14,r7_12,r7_15,r7_16,r7_17,r7_7,r7_18,r7_19,r7_20,p7,h1b,h2i,List.length_map]) | (exfalso; omega)
  refine loopS (fun k : Nat => mk [(0, .ro (ts.map Str.av)), (3, .val (.int .i64 k))]) (fun k => k ≤ ts.length ∧ rendK ts k = 0) (fun k => ts.length - k) 0 (weak_mk ?_) ⟨Nat.zero_le _, rfl⟩ ?_
  · simp only [Wv,Ww,Wx,Wy,Wz,V0,Z4,Z5,Z6,Z7,Z8,Z9,Za,Zb,Zc,Zd,Ze,Zf,List.cons.injEq,Zg,Zh,Zi,Zj,Zk,Zl,Zm,Zn,Zo,Zp,beq_self_eq_true,bne_self_eq_false,decide_true,decide_false,Zq,Zr,Zs,Zt,Zu,Zv,Zw,Zx,Zy,Zz,Y0,hv,Yz,ev,X0,X1,X2,X3,X4,X5,X6,X7,X8,X9,Xa,Xb,Xc,Xd,Xe,Xf,Xg,Xh,Xi,Xj,Xk,Xl,Xm,Xn,Xo,Xp,Xq,Xr,Xs,Xt,Xu,Xv,Xw,Value.oneCell',Xx,Xy,Xz,W0,true_and,and_true,and_self,implies_true,W1,W2,W3,W4,false_implies,W5,W6,W7,W8,W9,Wa,Wb,Wc,Wd,We,Wf,Wg,Wh,Wi,Wj,Wk,Wl,reduceCtorEq,if_true,if_false,Wm,↓reduceIte,Wn,Wo,Wp,Wq,Wr,Ws,ne_eq,not_false_eq_true,not_true_eq_false,Wt,Nat.zero_ne_one]
    all_goals first | done | rfl | simp
  rintro J hJ k ⟨hk, hg⟩
  simp only [Z0,Z1,Z2,Z3,Z4,Z5,Z6,Z7,Z8,Z9,Za,Zb,Zc,Zd,Ze,Zf,List.cons.injEq,Zg,Zh,Zi,Zj,Zk,Zl,Zm,Zn,Zo,Zp,beq_self_eq_true,bne_self_eq_false,decide_true,decide_false,Zq,Zr,Zs,Zt,Zu,Zv,Zw,Zx,Zy,Zz,Y0,Y1,Y2,Y3,Y4,Y5,Y6,Y7,Y8,Y9,Ya,Yb,Yc,Yd,Ye,Yf,Yg,Yh,lk,ef,Yi,Yk,Yl,Ym,Yn,Yo,Yp,Yr,Yw,hv,Yz,ev,X0,X1,X2,X3,X4,X5,X6,X7,X8,X9,Xa,Xb,Xc,Xd,Xe,Xf,Xg,Xh,Xi,Xj,Xk,Xl,Xm,Xn,Xo,Xp,Xq,Xr,Xs,Xt,Xu,Xv,Xw,Value.oneCell',Xx,Xy,Xz,W0,true_and,and_true,and_self,implies_true,W1,W2,W3,W4,false_implies,W5,W6,W7,W8,W9,Wa,Wb,Wc,Wd,We,Wf,Wg,Wh,Wi,Wj,Wk,Wl,reduceCtorEq,if_true,if_false,Wm,↓reduceIte,Wn,Wo,Wp,Wq,Wr,Ws,ne_eq,not_false_eq_true,not_true_eq_false,Wt,Wu,r7_0,r7_1,r7_2,r7_3,r7_4,r7_5,r7_6,r7_8,r7_9,r7_10,r7_11,r7_13,r7_14,r7_12,r7_15,r7_16,r7_17,r7_7,r7_18,r7_19,r7_20,p7,l7_0,List.length_map]
  refine condD (fun h => ?_) (fun h => ?_)
  · have hlt : k < ts.length := by omega
    have hw := i_add1 k (by omega)
    have gK := getD_map (f := Str.av) (d := []) hlt
    simp only [Str.av] at gK
    have hst := rendK_step ts hlt hg
    have hne : strF ts[k] (ts.take k) ≠ 0 → R = strF ts[k] (ts.take k) := fun h0 => by
      have := rendK_keeps ts (k := k + 1) (by rw [hst]; exact h0) (ts.length - (k + 1))
      rw [show k + 1 + (ts.length - (k + 1)) = ts.length by omega] at this
      rw [hR, this, hst, if_pos h0]
    have c1 := refname_c ts[k].name (hnm _ (List.getElem_mem hlt))
    have c2 := one_c ts[k] (hnm _ (List.getElem_mem hlt))
    simp only [Str.av] at c2
    cases hn : isNameB ts[k].name with
    | false =>
      rw [hn] at c1
      have := hne (by rw [strF_name hn]; decide)
      rw [strF_name hn] at this
      rw [this]
      repeat' first | ((with_reducible (first | refine condD ?_ ?_ | refine condE ?_ ?_ | refine condN ?_ ?_ | refine condI ?_ ?_ | refine condS ?_ ?_)) <;> intro h) | ((refine callG c1 ?_)) | (with_reducible refine And.intro ?_ ?_; omega) | (simp only [Z0,Z1,Z2,Z3,Z4,Z5,Z6,Z7,Z8,Z9,Za,Zb,Zc,Zd,Ze,Zf,List.cons.injEq,Zg,Zh,Zi,Zj,Zk,Zl,Zm,Zn,Zo,Zp,beq_self_eq_true,bne_self_eq_false,decide_true,decide_false,Zq,Zr,Zs,Zt,Zu,Zv,Zw,Zx,Zy,Zz,Y0,Y1,Y2,Y3,Y4,Y5,Y6,Y7,Y8,Y9,Ya,Yb,Yc,Yd,Ye,Yf,Yg,Yh,lk,ef,Yi,Yk,Yl,Ym,Yn,Yo,Yp,Yr,Yw,hv,Yz,ev,X0,X1,X2,X3,X4,X5,X6,X7,X8,X9,Xa,Xb,Xc,Xd,Xe,Xf,Xg,Xh,Xi,Xj,Xk,Xl,Xm,Xn,Xo,Xp,Xq,Xr,Xs,Xt,Xu,Xv,Xw,Value.oneCell',Xx,Xy,Xz,W0,true_and,and_true,and_self,implies_true,W1,W2,W3,W4,false_implies,W5,W6,W7,W8,W9,Wa,Wb,Wc,Wd,We,Wf,Wg,Wh,Wi,Wj,Wk,Wl,reduceCtorEq,if_true,if_false,Wm,↓reduceIte,Wn,Wo,Wp,Wq,Wr,Ws,ne_eq,not_false_eq_true,not_true_eq_false,Wt,Wu,r7_0,r7_1,r7_2,r7_3,r7_4,r7_5,r7_6,r7_8,r7_9,r7_10,r7_11,r7_13,r7_14,r7_12,r7_15,r7_16,r7_17,r7_7,r7_18,r7_19,r7_20,p7,l7_0,gK,List.length_map]) | (exfalso; omega)
    | true =>
    rw [hn] at c1
    repeat' first | ((with_reducible (first | refine condD ?_ ?_ | refine condE ?_ ?_ | refine condN ?_ ?_ | refine condI ?_ ?_ | refine condS ?_ ?_)) <;> intro h) | ((refine callG c1 ?_)) | (with_reducible refine And.intro ?_ ?_; omega) | (simp only [Z0,Z1,Z2,Z3,Z4,Z5,Z6,Z7,Z8,Z9,Za,Zb,Zc,Zd,Ze,Zf,List.cons.injEq,Zg,Zh,Zi,Zj,Zk,Zl,Zm,Zn,Zo,Zp,beq_self_eq_true,bne_self_eq_false,decide_true,decide_false,Zq,Zr,Zs,Zt,Zu,Zv,Zw,Zx,Zy,Zz,Y0,Y1,Y2,Y3,Y4,Y5,Y6,Y7,Y8,Y9,Ya,Yb,Yc,Yd,Ye,Yf,Yg,Yh,lk,ef,Yi,Yk,Yl,Ym,Yn,Yo,Yp,Yr,Yw,hv,Yz,ev,X0,X1,X2,X3,X4,X5,X6,X7,X8,X9,Xa,Xb,Xc,Xd,Xe,Xf,Xg,Xh,Xi,Xj,Xk,Xl,Xm,Xn,Xo,Xp,Xq,Xr,Xs,Xt,Xu,Xv,Xw,Value.oneCell',Xx,Xy,Xz,W0,true_and,and_true,and_self,implies_true,W1,W2,W3,W4,false_implies,W5,W6,W7,W8,W9,Wa,Wb,Wc,Wd,We,Wf,Wg,Wh,Wi,Wj,Wk,Wl,reduceCtorEq,if_true,if_false,Wm,↓reduceIte,Wn,Wo,Wp,Wq,Wr,Ws,ne_eq,not_false_eq_true,not_true_eq_false,Wt,Wu,r7_0,r7_1,r7_2,r7_3,r7_4,r7_5,r7_6,r7_8,r7_9,r7_10,r7_11,r7_13,r7_14,r7_12,r7_15,r7_16,r7_17,r7_7,r7_18,r7_19,r7_20,p7,l7_0,gK,List.length_map]) | (exfalso; omega)
    refine loopS (fun j : Nat => mk [(0, .ro (ts.map Str.av)), (3, .val (.int .i64 k)), (4, .val (.int .i64 j))]) (fun j => j ≤ k ∧ named ts[k].name (ts.take k) = named ts[k].name ((ts.take k).drop j)) (fun j => k - j) 0 (weak_mk ?_) ⟨Nat.zero_le _, rfl⟩ ?_
    · simp only [Wv,Ww,Wx,Wy,Wz,V0,Z4,Z5,Z6,Z7,Z8,Z9,Za,Zb,Zc,Zd,Ze,Zf,List.cons.injEq,Zg,Zh,Zi,Zj,Zk,Zl,Zm,Zn,Zo,Zp,beq_self_eq_true,bne_self_eq_false,decide_true,decide_false,Zq,Zr,Zs,Zt,Zu,Zv,Zw,Zx,Zy,Zz,Y0,hv,Yz,ev,X0,X1,X2,X3,X4,X5,X6,X7,X8,X9,Xa,Xb,Xc,Xd,Xe,Xf,Xg,Xh,Xi,Xj,Xk,Xl,Xm,Xn,Xo,Xp,Xq,Xr,Xs,Xt,Xu,Xv,Xw,Value.oneCell',Xx,Xy,Xz,W0,true_and,and_true,and_self,implies_true,W1,W2,W3,W4,false_implies,W5,W6,W7,W8,W9,Wa,Wb,Wc,Wd,We,Wf,Wg,Wh,Wi,Wj,Wk,Wl,reduceCtorEq,if_true,if_false,Wm,↓reduceIte,Wn,Wo,Wp,Wq,Wr,Ws,ne_eq,not_false_eq_true,not_true_eq_false,Wt,Nat.zero_ne_one]
      all_goals first | done | rfl | simp
    rintro J2 hJ2 j ⟨hj, hgj⟩
    simp only [Z0,Z1,Z2,Z3,Z4,Z5,Z6,Z7,Z8,Z9,Za,Zb,Zc,Zd,Ze,Zf,List.cons.injEq,Zg,Zh,Zi,Zj,Zk,Zl,Zm,Zn,Zo,Zp,beq_self_eq_true,bne_self_eq_false,decide_true,decide_false,Zq,Zr,Zs,Zt,Zu,Zv,Zw,Zx,Zy,Zz,Y0,Y1,Y2,Y3,Y4,Y5,Y6,Y7,Y8,Y9,Ya,Yb,Yc,Yd,Ye,Yf,Yg,Yh,lk,ef,Yi,Yk,Yl,Ym,Yn,Yo,Yp,Yr,Yw,hv,Yz,ev,X0,X1,X2,X3,X4,X5,X6,X7,X8,X9,Xa,Xb,Xc,Xd,Xe,Xf,Xg,Xh,Xi,Xj,Xk,Xl,Xm,Xn,Xo,Xp,Xq,Xr,Xs,Xt,Xu,Xv,Xw,Value.oneCell',Xx,Xy,Xz,W0,true_and,and_true,and_self,implies_true,W1,W2,W3,W4,false_implies,W5,W6,W7,W8,W9,Wa,Wb,Wc,Wd,We,Wf,Wg,Wh,Wi,Wj,Wk,Wl,reduceCtorEq,if_true,if_false,Wm,↓reduceIte,Wn,Wo,Wp,Wq,Wr,Ws,ne_eq,not_false_eq_true,not_true_eq_false,Wt,Wu,r7_0,r7_1,r7_2,r7_3,r7_4,r7_5,r7_6,r7_8,r7_9,r7_10,r7_11,r7_13,r7_14,r7_12,r7_15,r7_16,r7_17,r7_7,r7_18,r7_19,r7_20,p7,l7_1]
    refine condD (fun h => ?_) (fun h => ?_)
    · have hjk : j < k := by omega
      have hjl : j < ts.length := by omega
      have hjt : j < (ts.take k).length := by rw [List.length_take]; omega
      have hwj := i_add1 j (by omega)
      have gJ := getD_map (f := Str.av) (d := []) hjl
      simp only [Str.av] at gJ
      rw [List.drop_eq_getElem_cons hjt, named, List.getElem_take] at hgj
      cases he : (ts[j].name.toList == ts[k].name.toList) with
      | true =>
        rw [he, Bool.true_or] at hgj
        have := hne (by rw [strF_two hn hgj]; decide)
        rw [strF_two hn hgj] at this
        rw [this]
        repeat' first | ((with_reducible (first | refine condD ?_ ?_ | refine condE ?_ ?_ | refine condN ?_ ?_ | refine condI ?_ ?_ | refine condS ?_ ?_)) <;> intro h) | (with_reducible refine And.intro ?_ ?_; omega) | (simp only [Z0,Z1,Z2,Z3,Z4,Z5,Z6,Z7,Z8,Z9,Za,Zb,Zc,Zd,Ze,Zf,List.cons.injEq,Zg,Zh,Zi,Zj,Zk,Zl,Zm,Zn,Zo,Zp,beq_self_eq_true,bne_self_eq_false,decide_true,decide_false,Zq,Zr,Zs,Zt,Zu,Zv,Zw,Zx,Zy,Zz,Y0,Y1,Y2,Y3,Y4,Y5,Y6,Y7,Y8,Y9,Ya,Yb,Yc,Yd,Ye,Yf,Yg,Yh,lk,ef,Yi,Yk,Yl,Ym,Yn,Yo,Yp,Yr,Yw,hv,Yz,ev,X0,X1,X2,X3,X4,X5,X6,X7,X8,X9,Xa,Xb,Xc,Xd,Xe,Xf,Xg,Xh,Xi,Xj,Xk,Xl,Xm,Xn,Xo,Xp,Xq,Xr,Xs,Xt,Xu,Xv,Xw,Value.oneCell',Xx,Xy,Xz,W0,true_and,and_true,and_self,implies_true,W1,W2,W3,W4,false_implies,W5,W6,W7,W8,W9,Wa,Wb,Wc,Wd,We,Wf,Wg,Wh,Wi,Wj,Wk,Wl,reduceCtorEq,if_true,if_false,Wm,↓reduceIte,Wn,Wo,Wp,Wq,Wr,Ws,ne_eq,not_false_eq_true,not_true_eq_false,Wt,Wu,r7_0,r7_1,r7_2,r7_3,r7_4,r7_5,r7_6,r7_8,r7_9,r7_10,r7_11,r7_13,r7_14,r7_12,r7_15,r7_16,r7_17,r7_7,r7_18,r7_19,r7_20,p7,l7_1,gK,gJ,he,List.length_map]) | (exfalso; omega)
        all_goals first | done | omega
      | false =>
        rw [he, Bool.false_or] at hgj
        repeat' first | ((with_reducible (first | refine condD ?_ ?_ | refine condE ?_ ?_ | refine condN ?_ ?_ | refine condI ?_ ?_ | refine condS ?_ ?_)) <;> intro h) | (with_reducible refine And.intro ?_ ?_; omega) | (simp only [Z0,Z1,Z2,Z3,Z4,Z5,Z6,Z7,Z8,Z9,Za,Zb,Zc,Zd,Ze,Zf,List.cons.injEq,Zg,Zh,Zi,Zj,Zk,Zl,Zm,Zn,Zo,Zp,beq_self_eq_true,bne_self_eq_false,decide_true,decide_false,Zq,Zr,Zs,Zt,Zu,Zv,Zw,Zx,Zy,Zz,Y0,Y1,Y2,Y3,Y4,Y5,Y6,Y7,Y8,Y9,Ya,Yb,Yc,Yd,Ye,Yf,Yg,Yh,lk,ef,Yi,Yk,Yl,Ym,Yn,Yo,Yp,Yr,Yw,hv,Yz,ev,X0,X1,X2,X3,X4,X5,X6,X7,X8,X9,Xa,Xb,Xc,Xd,Xe,Xf,Xg,Xh,Xi,Xj,Xk,Xl,Xm,Xn,Xo,Xp,Xq,Xr,Xs,Xt,Xu,Xv,Xw,Value.oneCell',Xx,Xy,Xz,W0,true_and,and_true,and_self,implies_true,W1,W2,W3,W4,false_implies,W5,W6,W7,W8,W9,Wa,Wb,Wc,Wd,We,Wf,Wg,Wh,Wi,Wj,Wk,Wl,reduceCtorEq,if_true,if_false,Wm,↓reduceIte,Wn,Wo,Wp,Wq,Wr,Ws,ne_eq,not_false_eq_true,not_true_eq_false,Wt,Wu,r7_0,r7_1,r7_2,r7_3,r7_4,r7_5,r7_6,r7_8,r7_9,r7_10,r7_11,r7_13,r7_14,r7_12,r7_15,r7_16,r7_17,r7_7,r7_18,r7_19,r7_20,p7,l7_1,gK,gJ,he,hwj,List.length_map]) | (exfalso; omega)
        all_goals first | omega | exact again hJ2 (j + 1) (weak_mk (by simp only [Wv,Ww,Wx,Wy,Wz,V0,Z4,Z5,Z6,Z7,Z8,Z9,Za,Zb,Zc,Zd,Ze,Zf,List.cons.injEq,Zg,Zh,Zi,Zj,Zk,Zl,Zm,Zn,Zo,Zp,beq_self_eq_true,bne_self_eq_false,decide_true,decide_false,Zq,Zr,Zs,Zt,Zu,Zv,Zw,Zx,Zy,Zz,Y0,hv,Yz,ev,X0,X1,X2,X3,X4,X5,X6,X7,X8,X9,Xa,Xb,Xc,Xd,Xe,Xf,Xg,Xh,Xi,Xj,Xk,Xl,Xm,Xn,Xo,Xp,Xq,Xr,Xs,Xt,Xu,Xv,Xw,Value.oneCell',Xx,Xy,Xz,W0,true_and,and_true,and_self,implies_true,W1,W2,W3,W4,false_implies,W5,W6,W7,W8,W9,Wa,Wb,Wc,Wd,We,Wf,Wg,Wh,Wi,Wj,Wk,Wl,reduceCtorEq,if_true,if_false,Wm,↓reduceIte,Wn,Wo,Wp,Wq,Wr,Ws,ne_eq,not_false_eq_true,not_true_eq_false,Wt,Nat.zero_ne_one])) ⟨by omega, hgj⟩ (by omega)
    have hje : j = k := by omega
    subst hje
    clear hJ2
    rw [List.drop_of_length_le (by rw [List.length_take]; omega)] at hgj
    have hS := strF_one hn (show named ts[j].name (ts.take j) = false by rw [hgj]; rfl)
    by_cases h0 : strF ts[j] [] = 0
    · rw [h0] at c2
      rw [hS, h0] at hst
      repeat' first | ((with_reducible (first | refine condD ?_ ?_ | refine condE ?_ ?_ | refine condN ?_ ?_ | refine condI ?_ ?_ | refine condS ?_ ?_)) <;> intro h) | ((refine callG c2 ?_)) | (with_reducible refine And.intro ?_ ?_; omega) | (simp only [Z0,Z1,Z2,Z3,Z4,Z5,Z6,Z7,Z8,Z9,Za,Zb,Zc,Zd,Ze,Zf,List.cons.injEq,Zg,Zh,Zi,Zj,Zk,Zl,Zm,Zn,Zo,Zp,beq_self_eq_true,bne_self_eq_false,decide_true,decide_false,Zq,Zr,Zs,Zt,Zu,Zv,Zw,Zx,Zy,Zz,Y0,Y1,Y2,Y3,Y4,Y5,Y6,Y7,Y8,Y9,Ya,Yb,Yc,Yd,Ye,Yf,Yg,Yh,lk,ef,Yi,Yk,Yl,Ym,Yn,Yo,Yp,Yr,Yw,hv,Yz,ev,X0,X1,X2,X3,X4,X5,X6,X7,X8,X9,Xa,Xb,Xc,Xd,Xe,Xf,Xg,Xh,Xi,Xj,Xk,Xl,Xm,Xn,Xo,Xp,Xq,Xr,Xs,Xt,Xu,Xv,Xw,Value.oneCell',Xx,Xy,Xz,W0,true_and,and_true,and_self,implies_true,W1,W2,W3,W4,false_implies,W5,W6,W7,W8,W9,Wa,Wb,Wc,Wd,We,Wf,Wg,Wh,Wi,Wj,Wk,Wl,reduceCtorEq,if_true,if_false,Wm,↓reduceIte,Wn,Wo,Wp,Wq,Wr,Ws,ne_eq,not_false_eq_true,not_true_eq_false,Wt,Wu,r7_0,r7_1,r7_2,r7_3,r7_4,r7_5,r7_6,r7_8,r7_9,r7_10,r7_11,r7_13,r7_14,r7_12,r7_15,r7_16,r7_17,r7_7,r7_18,r7_19,r7_20,p7,l7_1,gK,hw,List.length_map]) | (exfalso; omega)
      all_goals first | omega | exact again hJ (j + 1) (weak_mk (by simp only [Wv,Ww,Wx,Wy,Wz,V0,Z4,Z5,Z6,Z7,Z8,Z9,Za,Zb,Zc,Zd,Ze,Zf,List.cons.injEq,Zg,Zh,Zi,Zj,Zk,Zl,Zm,Zn,Zo,Zp,beq_self_eq_true,bne_self_eq_false,decide_true,decide_false,Zq,Zr,Zs,Zt,Zu,Zv,Zw,Zx,Zy,Zz,Y0,hv,Yz,ev,X0,X1,X2,X3,X4,X5,X6,X7,X8,X9,Xa,Xb,Xc,Xd,Xe,Xf,Xg,Xh,Xi,Xj,Xk,Xl,Xm,Xn,Xo,Xp,Xq,Xr,Xs,Xt,Xu,Xv,Xw,Value.oneCell',Xx,Xy,Xz,W0,true_and,and_true,and_self,implies_true,W1,W2,W3,W4,false_implies,W5,W6,W7,W8,W9,Wa,Wb,Wc,Wd,We,Wf,Wg,Wh,Wi,Wj,Wk,Wl,reduceCtorEq,if_true,if_false,Wm,↓reduceIte,Wn,Wo,Wp,Wq,Wr,Ws,ne_eq,not_false_eq_true,not_true_eq_false,Wt,Nat.zero_ne_one])) ⟨by omega, hst⟩ (by omega)
    · have hb0 := beq0_f h0
      have hb1 := bne0_t h0
      have := hne (by rw [hS]; exact h0)
      rw [hS] at this
      rw [this]
      generalize strF ts[j] [] = e at *
      repeat' first | ((with_reducible (first | refine condD ?_ ?_ | refine condE ?_ ?_ | refine condN ?_ ?_ | refine condI ?_ ?_ | refine condS ?_ ?_)) <;> intro h) | ((refine callG c2 ?_)) | (with_reducible refine And.intro ?_ ?_; omega) | (simp only [Z0,Z1,Z2,Z3,Z4,Z5,Z6,Z7,Z8,Z9,Za,Zb,Zc,Zd,Ze,Zf,List.cons.injEq,Zg,Zh,Zi,Zj,Zk,Zl,Zm,Zn,Zo,Zp,beq_self_eq_true,bne_self_eq_false,decide_true,decide_false,Zq,Zr,Zs,Zt,Zu,Zv,Zw,Zx,Zy,Zz,Y0,Y1,Y2,Y3,Y4,Y5,Y6,Y7,Y8,Y9,Ya,Yb,Yc,Yd,Ye,Yf,Yg,Yh,lk,ef,Yi,Yk,Yl,Ym,Yn,Yo,Yp,Yr,Yw,hv,Yz,ev,X0,X1,X2,X3,X4,X5,X6,X7,X8,X9,Xa,Xb,Xc,Xd,Xe,Xf,Xg,Xh,Xi,Xj,Xk,Xl,Xm,Xn,Xo,Xp,Xq,Xr,Xs,Xt,Xu,Xv,Xw,Value.oneCell',Xx,Xy,Xz,W0,true_and,and_true,and_self,implies_true,W1,W2,W3,W4,false_implies,W5,W6,W7,W8,W9,Wa,Wb,Wc,Wd,We,Wf,Wg,Wh,Wi,Wj,Wk,Wl,reduceCtorEq,if_true,if_false,Wm,↓reduceIte,Wn,Wo,Wp,Wq,Wr,Ws,ne_eq,not_false_eq_true,not_true_eq_false,Wt,Wu,r7_0,r7_1,r7_2,r7_3,r7_4,r7_5,r7_6,r7_8,r7_9,r7_10,r7_11,r7_13,r7_14,r7_12,r7_15,r7_16,r7_17,r7_7,r7_18,r7_19,r7_20,p7,l7_1,gK,hb0,hb1,List.length_map]) | (exfalso; omega)
  · have hke : k = ts.length := by omega
    subst hke
    rw [hg, if_neg (by simp)] at hR
    clear hJ
    obtain ⟨s, r, hts⟩ : ∃ s r, ts = s :: r := by
      cases ts with
      | nil => simp at h1
      | cons s r => exact ⟨s, r, rfl⟩
    have g0 : (ts.map Str.av).getD 0 [] = s.av := by rw [hts]; rfl
    have hs0 : sound0 ts = s.sound := by rw [hts]; rfl
    have hp : (0 : Int) < ts.length := by omega
    have hp' : 0 < ts.length := by omega
    rw [hs0] at hR
    clear hs0 hts
    simp only [Str.av] at g0
    cases hs : s.sound with
    | true =>
      rw [hs] at hR g0
      simp only [if_true] at hR
      subst hR
      repeat' first | ((with_reducible (first | refine condD ?_ ?_ | refine condE ?_ ?_ | refine condN ?_ ?_ | refine condI ?_ ?_ | refine condS ?_ ?_)) <;> intro h) | (with_reducible refine And.intro ?_ ?_; omega) | (simp only [Z0,Z1,Z2,Z3,Z4,Z5,Z6,Z7,Z8,Z9,Za,Zb,Zc,Zd,Ze,Zf,List.cons.injEq,Zg,Zh,Zi,Zj,Zk,Zl,Zm,Zn,Zo,Zp,beq_self_eq_true,bne_self_eq_false,decide_true,decide_false,Zq,Zr,Zs,Zt,Zu,Zv,Zw,Zx,Zy,Zz,Y0,Y1,Y2,Y3,Y4,Y5,Y6,Y7,Y8,Y9,Ya,Yb,Yc,Yd,Ye,Yf,Yg,Yh,lk,ef,Yi,Yk,Yl,Ym,Yn,Yo,Yp,Yr,Yw,hv,Yz,ev,X0,X1,X2,X3,X4,X5,X6,X7,X8,X9,Xa,Xb,Xc,Xd,Xe,Xf,Xg,Xh,Xi,Xj,Xk,Xl,Xm,Xn,Xo,Xp,Xq,Xr,Xs,Xt,Xu,Xv,Xw,Value.oneCell',Xx,Xy,Xz,W0,true_and,and_true,and_self,implies_true,W1,W2,W3,W4,false_implies,W5,W6,W7,W8,W9,Wa,Wb,Wc,Wd,We,Wf,Wg,Wh,Wi,Wj,Wk,Wl,reduceCtorEq,if_true,if_false,Wm,↓reduceIte,Wn,Wo,Wp,Wq,Wr,Ws,ne_eq,not_false_eq_true,not_true_eq_false,Wt,Wu,r7_0,r7_1,r7_2,r7_3,r7_4,r7_5,r7_6,r7_8,r7_9,r7_10,r7_11,r7_13,r7_14,r7_12,r7_15,r7_16,r7_17,r7_7,r7_18,r7_19,r7_20,p7,l7_0,g0,hp,hp',List.length_map]) | (exfalso; omega)
    | false =>
      rw [hs] at hR g0
      simp only [Bool.false_eq_true, if_false] at hR
      subst hR
      repeat' first | ((with_reducible (first | refine condD ?_ ?_ | refine condE ?_ ?_ | refine condN ?_ ?_ | refine condI ?_ ?_ | refine condS ?_ ?_)) <;> intro h) | (with_reducible refine And.intro ?_ ?_; omega) | (simp only [Z0,Z1,Z2,Z3,Z4,Z5,Z6,Z7,Z8,Z9,Za,Zb,Zc,Zd,Ze,Zf,List.cons.injEq,Zg,Zh,Zi,Zj,Zk,Zl,Zm,Zn,Zo,Zp,beq_self_eq_true,bne_self_eq_false,decide_true,decide_false,Zq,Zr,Zs,Zt,Zu,Zv,Zw,Zx,Zy,Zz,Y0,Y1,Y2,Y3,Y4,Y5,Y6,Y7,Y8,Y9,Ya,Yb,Yc,Yd,Ye,Yf,Yg,Yh,lk,ef,Yi,Yk,Yl,Ym,Yn,Yo,Yp,Yr,Yw,hv,Yz,ev,X0,X1,X2,X3,X4,X5,X6,X7,X8,X9,Xa,Xb,Xc,Xd,Xe,Xf,Xg,Xh,Xi,Xj,Xk,Xl,Xm,Xn,Xo,Xp,Xq,Xr,Xs,Xt,Xu,Xv,Xw,Value.oneCell',Xx,Xy,Xz,W0,true_and,and_true,and_self,implies_true,W1,W2,W3,W4,false_implies,W5,W6,W7,W8,W9,Wa,Wb,Wc,Wd,We,Wf,Wg,Wh,Wi,Wj,Wk,Wl,reduceCtorEq,if_true,if_false,Wm,↓reduceIte,Wn,Wo,Wp,Wq,Wr,Ws,ne_eq,not_false_eq_true,not_true_eq_false,Wt,Wu,r7_0,r7_1,r7_2,r7_3,r7_4,r7_5,r7_6,r7_8,r7_9,r7_10,r7_11,r7_13,r7_14,r7_12,r7_15,r7_16,r7_17,r7_7,r7_18,r7_19,r7_20,p7,l7_0,g0,hp,hp',List.length_map]) | (exfalso; omega)
/-! ### Places -/
theorem clos_take {gs : List Grp} {k : Nat} (h : k < gs.length) : (gs.take (k + 1)).filter (·.closed) = (gs.take k).filter (·.closed) ++ if gs[k].closed then [gs[k]] else [] := by
  rw [List.take_succ_eq_append_getElem h, List.filter_append, List.filter_cons]
  split <;> simp
theorem plcT_is {l : List Smp} (h : smpF l = 0) : plcT l = ((groupsL l).filter (·.closed)).map (·.beg) := by
  unfold plcT placesL groupsF
  rw [if_neg (by simp [h])]
  unfold plOf
  rw [List.map_map]
  rfl
theorem groupsL_len {l : List Smp} (h : smpF l = 0) : (groupsL l).length ≤ 5000 := by
  have := groupsF_len l
  unfold groupsF at this
  rw [if_neg (by simp [h])] at this
  exact this
/-! headend/headendref4.closed -/
def r22_0 : List POp := [⟨1, .boxs (.t 0), none⟩,
  ⟨2, .asg .nil, none⟩]
def r22_1 : List POp := [⟨3, .asg .nil, none⟩]
def r22_2 : List POp := [⟨6, .fld 3 (.t 1), none⟩,
  ⟨7, .load (.t 6), none⟩,
  ⟨8, .call 34 [.t 7], none⟩,
  ⟨9, .len (.t 8), none⟩,
  ⟨10, .mv (.c (.int .i64 0)), none⟩]
def r22_3 : List POp := [⟨11, .bin .lss (.t 10) (.t 9), none⟩]
def r22_4 : List POp := [⟨12, .idx 6 (.t 8) (.t 10), none⟩,
  ⟨13, .loads 6 (.t 12), none⟩,
  ⟨5, .alloc [.int .i64 0, .int .i64 0, .bool false, .bool false, .int .i64 0, .int .i64 0], none⟩,
  ⟨0, .stores 6 (.t 5) (.t 13), none⟩]
def r22_5 : List POp := [⟨14, .fld 3 (.t 5), none⟩,
  ⟨15, .load (.t 14), none⟩]
def r22_6 : List POp := [⟨16, .mv (.t 3), none⟩,
  ⟨17, .loads 6 (.t 5), none⟩,
  ⟨18, .row 53 6 [.t 17], none⟩,
  ⟨19, .app 53 6 40 (.t 16) (.t 18), none⟩,
  ⟨3, .asg (.t 19), none⟩]
def r22_7 : List POp := [⟨20, .bin .add (.t 10) (.c (.int .i64 1)), none⟩,
  ⟨10, .mv (.t 20), none⟩]
def r22_8 : List POp := [⟨21, .mv (.t 3), none⟩,
  ⟨2, .asg (.t 21), none⟩]
def l22_0 : PCode := .seq (.ops r22_3) (.seq (.cond (.t 11) (.skip) (.exit 0)) (.seq (.block 1 (.seq (.ops r22_4) (.seq (.ops r22_5) (.cond (.t 15) (.ops r22_6) (.skip))))) (.ops r22_7)))
def p22 : PCode := .seq (.ops r22_0) (.seq (.ops r22_1) (.seq (.seq (.ops r22_2) (.block 0 (.loop l22_0))) (.seq (.ops r22_8) (.ret))))
theorem ok22 : okFunc Tryz.prog 22 [.t 2] 1 p22 = true := by kernel_rfl
theorem rclosed_c (r : Str) (h0 : smpF r.smps = 0) : CallOK Tryz.prog 22 [.agg r.av] (.ro (((groupsL r.smps).filter (·.closed)).map Grp.av)) := by
  refine call_of mixed ok22 rfl ?_
  obtain ⟨q1, q2, _⟩ := smpF_0 h0
  have hG := allgroups_c r.smps q1 q2
  have hlen := groupsL_len h0
  simp only [Str.av]
  generalize groupsL r.smps = gs at *
  repeat' first | ((with_reducible (first | refine condD ?_ ?_ | refine condE ?_ ?_ | refine condN ?_ ?_ | refine condI ?_ ?_ | refine condS ?_ ?_)) <;> intro h) | ((refine callG hG ?_)) | (with_reducible refine And.intro ?_ ?_; omega) | (simp only [Z0,Z1,Z2,Z3,Z4,Z5,Z6,Z7,Z8,Z9,Za,Zb,Zc,Zd,Ze,Zf,List.cons.injEq,Zg,Zh,Zi,Zj,Zk,Zl,Zm,Zn,Zo,Zp,beq_self_eq_true,bne_self_eq_false,decide_true,decide_false,Zq,Zr,Zs,Zt,Zu,Zv,Zw,Zx,Zy,Zz,Y0,Y1,Y2,Y3,Y4,Y5,Y6,Y7,Y8,Y9,Ya,Yb,Yc,Yd,Ye,Yf,Yg,Yh,lk,ef,Yi,Yk,Ym,Yn,Yo,Yp,Yr,Yt,Yu,Yv,Yw,Yx,Yy,hv,Yz,ev,X0,X1,X2,X3,X4,X5,X6,X7,X8,X9,Xa,Xb,Xc,Xd,Xe,Xf,Xg,Xh,Xi,Xj,Xk,Xl,Xm,Xn,Xo,Xp,Xq,Xr,Xs,Xt,Xu,Xv,Xw,Value.oneCell',Xx,Xy,Xz,W0,true_and,and_true,and_self,implies_true,W1,W2,W3,W4,false_implies,W5,W6,W7,W8,W9,Wa,Wb,Wc,Wd,We,Wf,Wg,Wh,Wi,Wj,Wk,Wl,reduceCtorEq,if_true,if_false,Wm,↓reduceIte,Wn,Wo,Wp,Wq,Wr,Ws,ne_eq,not_false_eq_true,not_true_eq_false,Wt,Wu,r22_0,r22_1,r22_2,r22_3,r22_4,r22_5,r22_6,r22_7,r22_8,p22]) | (exfalso; omega)
  refine loopS (fun k : Nat => mk [(3, .own 53 6 (((gs.take k).filter (·.closed)).map Grp.av)), (8, .ro (gs.map Grp.av)), (9, .val (.int .i64 gs.length)), (10, .val (.int .i64 k))]) (fun k => k ≤ gs.length) (fun k => gs.length - k) 0 (weak_mk ?_) (Nat.zero_le _) ?_
  · simp only [Wv,Ww,Wx,Wy,Wz,V0,Z4,Z5,Z6,Z7,Z8,Z9,Za,Zb,Zc,Zd,Ze,Zf,List.cons.injEq,Zg,Zh,Zi,Zj,Zk,Zl,Zm,Zn,Zo,Zp,beq_self_eq_true,bne_self_eq_false,decide_true,decide_false,Zq,Zr,Zs,Zt,Zu,Zv,Zw,Zx,Zy,Zz,Y0,hv,Yz,ev,X0,X1,X2,X3,X4,X5,X6,X7,X8,X9,Xa,Xb,Xc,Xd,Xe,Xf,Xg,Xh,Xi,Xj,Xk,Xl,Xm,Xn,Xo,Xp,Xq,Xr,Xs,Xt,Xu,Xv,Xw,Value.oneCell',Xx,Xy,Xz,W0,true_and,and_true,and_self,implies_true,W1,W2,W3,W4,false_implies,W5,W6,W7,W8,W9,Wa,Wb,Wc,Wd,We,Wf,Wg,Wh,Wi,Wj,Wk,Wl,reduceCtorEq,if_true,if_false,Wm,↓reduceIte,Wn,Wo,Wp,Wq,Wr,Ws,ne_eq,not_false_eq_true,not_true_eq_false,Wt,Nat.zero_ne_one]
    all_goals first | done | rfl | simp
  rintro J hJ k hk
  simp only [Z0,Z1,Z2,Z3,Z4,Z5,Z6,Z7,Z8,Z9,Za,Zb,Zc,Zd,Ze,Zf,List.cons.injEq,Zg,Zh,Zi,Zj,Zk,Zl,Zm,Zn,Zo,Zp,beq_self_eq_true,bne_self_eq_false,decide_true,decide_false,Zq,Zr,Zs,Zt,Zu,Zv,Zw,Zx,Zy,Zz,Y0,Y1,Y2,Y3,Y4,Y5,Y6,Y7,Y8,Y9,Ya,Yb,Yc,Yd,Ye,Yf,Yg,Yh,lk,ef,Yi,Yk,Ym,Yn,Yo,Yp,Yr,Yt,Yu,Yv,Yw,Yx,Yy,hv,Yz,ev,X0,X1,X2,X3,X4,X5,X6,X7,X8,X9,Xa,Xb,Xc,Xd,Xe,Xf,Xg,Xh,Xi,Xj,Xk,Xl,Xm,Xn,Xo,Xp,Xq,Xr,Xs,Xt,Xu,Xv,Xw,Value.oneCell',Xx,Xy,Xz,W0,true_and,and_true,and_self,implies_true,W1,W2,W3,W4,false_implies,W5,W6,W7,W8,W9,Wa,Wb,Wc,Wd,We,Wf,Wg,Wh,Wi,Wj,Wk,Wl,reduceCtorEq,if_true,if_false,Wm,↓reduceIte,Wn,Wo,Wp,Wq,Wr,Ws,ne_eq,not_false_eq_true,not_true_eq_false,Wt,Wu,r22_0,r22_1,r22_2,r22_3,r22_4,r22_5,r22_6,r22_7,r22_8,p22,l22_0]
  refine condD (fun h => ?_) (fun h => ?_)
  · have hlt : k < gs.length := by omega
    have hw := i_add1 k (by omega)
    have gK := getD_map (f := Grp.av) (d := []) hlt
    simp only [Grp.av] at gK
    have hnx := clos_take hlt
    have hpl : ((gs.take k).filter (·.closed)).length ≤ k := Nat.le_trans (List.length_filter_le _ _) (by rw [List.length_take]; omega)
    cases hc : gs[k].closed with
    | true =>
      rw [hc] at hnx
      simp only [if_true] at hnx
      have happ : ((gs.take k).filter (·.closed)).map Grp.av ++ [gs[k].av] = ((gs.take (k + 1)).filter (·.closed)).map Grp.av := by rw [hnx, List.map_append]; rfl
      simp only [Grp.av] at happ
      rw [hc] at gK happ
      repeat' first | ((with_reducible (first | refine condD ?_ ?_ | refine condE ?_ ?_ | refine condN ?_ ?_ | refine condI ?_ ?_ | refine condS ?_ ?_)) <;> intro h) | (with_reducible refine And.intro ?_ ?_; omega) | (simp only [Z0,Z1,Z2,Z3,Z4,Z5,Z6,Z7,Z8,Z9,Za,Zb,Zc,Zd,Ze,Zf,List.cons.injEq,Zg,Zh,Zi,Zj,Zk,Zl,Zm,Zn,Zo,Zp,beq_self_eq_true,bne_self_eq_false,decide_true,decide_false,Zq,Zr,Zs,Zt,Zu,Zv,Zw,Zx,Zy,Zz,Y0,Y1,Y2,Y3,Y4,Y5,Y6,Y7,Y8,Y9,Ya,Yb,Yc,Yd,Ye,Yf,Yg,Yh,lk,ef,Yi,Yk,Ym,Yn,Yo,Yp,Yr,Yt,Yu,Yv,Yw,Yx,Yy,hv,Yz,ev,X0,X1,X2,X3,X4,X5,X6,X7,X8,X9,Xa,Xb,Xc,Xd,Xe,Xf,Xg,Xh,Xi,Xj,Xk,Xl,Xm,Xn,Xo,Xp,Xq,Xr,Xs,Xt,Xu,Xv,Xw,Value.oneCell',Xx,Xy,Xz,W0,true_and,and_true,and_self,implies_true,W1,W2,W3,W4,false_implies,W5,W6,W7,W8,W9,Wa,Wb,Wc,Wd,We,Wf,Wg,Wh,Wi,Wj,Wk,Wl,reduceCtorEq,if_true,if_false,Wm,↓reduceIte,Wn,Wo,Wp,Wq,Wr,Ws,ne_eq,not_false_eq_true,not_true_eq_false,Wt,Wu,r22_0,r22_1,r22_2,r22_3,r22_4,r22_5,r22_6,r22_7,r22_8,p22,l22_0,gK,happ,hw,List.length_map]) | (exfalso; omega)
      all_goals first | omega | exact again hJ (k + 1) (weak_mk (by simp only [Wv,Ww,Wx,Wy,Wz,V0,Z4,Z5,Z6,Z7,Z8,Z9,Za,Zb,Zc,Zd,Ze,Zf,List.cons.injEq,Zg,Zh,Zi,Zj,Zk,Zl,Zm,Zn,Zo,Zp,beq_self_eq_true,bne_self_eq_false,decide_true,decide_false,Zq,Zr,Zs,Zt,Zu,Zv,Zw,Zx,Zy,Zz,Y0,hv,Yz,ev,X0,X1,X2,X3,X4,X5,X6,X7,X8,X9,Xa,Xb,Xc,Xd,Xe,Xf,Xg,Xh,Xi,Xj,Xk,Xl,Xm,Xn,Xo,Xp,Xq,Xr,Xs,Xt,Xu,Xv,Xw,Value.oneCell',Xx,Xy,Xz,W0,true_and,and_true,and_self,implies_true,W1,W2,W3,W4,false_implies,W5,W6,W7,W8,W9,Wa,Wb,Wc,Wd,We,Wf,Wg,Wh,Wi,Wj,Wk,Wl,reduceCtorEq,if_true,if_false,Wm,↓reduceIte,Wn,Wo,Wp,Wq,Wr,Ws,ne_eq,not_false_eq_true,not_true_eq_false,Wt,Nat.zero_ne_one]; first | done | exact ⟨rfl, hw⟩ | simp [Grp.av])) (by omega) (by omega)
    | false =>
      rw [hc] at gK hnx
      simp only [Bool.false_eq_true, if_false, List.append_nil] at hnx
      repeat' first | ((with_reducible (first | refine condD ?_ ?_ | refine condE ?_ ?_ | refine condN ?_ ?_ | refine condI ?_ ?_ | refine condS ?_ ?_)) <;> intro h) | (with_reducible refine And.intro ?_ ?_; omega) | (simp only [Z0,Z1,Z2,Z3,Z4,Z5,Z6,Z7,Z8,Z9,Za,Zb,Zc,Zd,Ze,Zf,List.cons.injEq,Zg,Zh,Zi,Zj,Zk,Zl,Zm,Zn,Zo,Zp,beq_self_eq_true,bne_self_eq_false,decide_true,decide_false,Zq,Zr,Zs,Zt,Zu,Zv,Zw,Zx,Zy,Zz,Y0,Y1,Y2,Y3,Y4,Y5,Y6,Y7,Y8,Y9,Ya,Yb,Yc,Yd,Ye,Yf,Yg,Yh,lk,ef,Yi,Yk,Ym,Yn,Yo,Yp,Yr,Yt,Yu,Yv,Yw,Yx,Yy,hv,Yz,ev,X0,X1,X2,X3,X4,X5,X6,X7,X8,X9,Xa,Xb,Xc,Xd,Xe,Xf,Xg,Xh,Xi,Xj,Xk,Xl,Xm,Xn,Xo,Xp,Xq,Xr,Xs,Xt,Xu,Xv,Xw,Value.oneCell',Xx,Xy,Xz,W0,true_and,and_true,and_self,implies_true,W1,W2,W3,W4,false_implies,W5,W6,W7,W8,W9,Wa,Wb,Wc,Wd,We,Wf,Wg,Wh,Wi,Wj,Wk,Wl,reduceCtorEq,if_true,if_false,Wm,↓reduceIte,Wn,Wo,Wp,Wq,Wr,Ws,ne_eq,not_false_eq_true,not_true_eq_false,Wt,Wu,r22_0,r22_1,r22_2,r22_3,r22_4,r22_5,r22_6,r22_7,r22_8,p22,l22_0,gK,hw,List.length_map]) | (exfalso; omega)
      all_goals first | omega | exact again hJ (k + 1) (weak_mk (by simp only [Wv,Ww,Wx,Wy,Wz,V0,Z4,Z5,Z6,Z7,Z8,Z9,Za,Zb,Zc,Zd,Ze,Zf,List.cons.injEq,Zg,Zh,Zi,Zj,Zk,Zl,Zm,Zn,Zo,Zp,beq_self_eq_true,bne_self_eq_false,decide_true,decide_false,Zq,Zr,Zs,Zt,Zu,Zv,Zw,Zx,Zy,Zz,Y0,hv,Yz,ev,X0,X1,X2,X3,X4,X5,X6,X7,X8,X9,Xa,Xb,Xc,Xd,Xe,Xf,Xg,Xh,Xi,Xj,Xk,Xl,Xm,Xn,Xo,Xp,Xq,Xr,Xs,Xt,Xu,Xv,Xw,Value.oneCell',Xx,Xy,Xz,W0,true_and,and_true,and_self,implies_true,W1,W2,W3,W4,false_implies,W5,W6,W7,W8,W9,Wa,Wb,Wc,Wd,We,Wf,Wg,Wh,Wi,Wj,Wk,Wl,reduceCtorEq,if_true,if_false,Wm,↓reduceIte,Wn,Wo,Wp,Wq,Wr,Ws,ne_eq,not_false_eq_true,not_true_eq_false,Wt,Nat.zero_ne_one]; first | done | rw [hnx])) (by omega) (by omega)
  · have hke : k = gs.length := by omega
    subst hke
    rw [List.take_length]
    clear hJ
    repeat' first | ((with_reducible (first | refine condD ?_ ?_ | refine condE ?_ ?_ | refine condN ?_ ?_ | refine condI ?_ ?_ | refine condS ?_ ?_)) <;> intro h) | (with_reducible refine And.intro ?_ ?_; omega) | (simp only [Z0,Z1,Z2,Z3,Z4,Z5,Z6,Z7,Z8,Z9,Za,Zb,Zc,Zd,Ze,Zf,List.cons.injEq,Zg,Zh,Zi,Zj,Zk,Zl,Zm,Zn,Zo,Zp,beq_self_eq_true,bne_self_eq_false,decide_true,decide_false,Zq,Zr,Zs,Zt,Zu,Zv,Zw,Zx,Zy,Zz,Y0,Y1,Y2,Y3,Y4,Y5,Y6,Y7,Y8,Y9,Ya,Yb,Yc,Yd,Ye,Yf,Yg,Yh,lk,ef,Yi,Yk,Ym,Yn,Yo,Yp,Yr,Yt,Yu,Yv,Yw,Yx,Yy,hv,Yz,ev,X0,X1,X2,X3,X4,X5,X6,X7,X8,X9,Xa,Xb,Xc,Xd,Xe,Xf,Xg,Xh,Xi,Xj,Xk,Xl,Xm,Xn,Xo,Xp,Xq,Xr,Xs,Xt,Xu,Xv,Xw,Value.oneCell',Xx,Xy,Xz,W0,true_and,and_true,and_self,implies_true,W1,W2,W3,W4,false_implies,W5,W6,W7,W8,W9,Wa,Wb,Wc,Wd,We,Wf,Wg,Wh,Wi,Wj,Wk,Wl,reduceCtorEq,if_true,if_false,Wm,↓reduceIte,Wn,Wo,Wp,Wq,Wr,Ws,ne_eq,not_false_eq_true,not_true_eq_false,Wt,Wu,r22_0,r22_1,r22_2,r22_3,r22_4,r22_5,r22_6,r22_7,r22_8,p22,l22_0]) | (exfalso; omega)
/-! headend/headendref4.places -/
def r14_0 : List POp := [⟨1, .boxs (.t 0), none⟩,
  ⟨2, .asg .nil, none⟩]
def r14_1 : List POp := [⟨3, .asg .nil, none⟩]
def r14_2 : List POp := [⟨6, .loads 4 (.t 1), none⟩,
  ⟨7, .call 22 [.t 6], none⟩,
  ⟨8, .len (.t 7), none⟩,
  ⟨9, .mv (.c (.int .i64 0)), none⟩]
def r14_3 : List POp := [⟨10, .bin .lss (.t 9) (.t 8), none⟩]
def r14_4 : List POp := [⟨11, .idx 6 (.t 7) (.t 9), none⟩,
  ⟨12, .loads 6 (.t 11), none⟩,
  ⟨5, .alloc [.int .i64 0, .int .i64 0, .bool false, .bool false, .int .i64 0, .int .i64 0], none⟩,
  ⟨0, .stores 6 (.t 5) (.t 12), none⟩]
def r14_5 : List POp := [⟨13, .mv (.t 3), none⟩,
  ⟨14, .fld 4 (.t 5), none⟩,
  ⟨15, .load (.t 14), none⟩,
  ⟨16, .row 3 1 [.t 15], none⟩,
  ⟨17, .app 3 1 8 (.t 13) (.t 16), none⟩,
  ⟨3, .asg (.t 17), none⟩]
def r14_6 : List POp := [⟨18, .bin .add (.t 9) (.c (.int .i64 1)), none⟩,
  ⟨9, .mv (.t 18), none⟩]
def r14_7 : List POp := [⟨19, .mv (.t 3), none⟩,
  ⟨2, .asg (.t 19), none⟩]
def l14_0 : PCode := .seq (.ops r14_3) (.seq (.cond (.t 10) (.skip) (.exit 0)) (.seq (.block 1 (.seq (.ops r14_4) (.ops r14_5))) (.ops r14_6)))
def p14 : PCode := .seq (.ops r14_0) (.seq (.ops r14_1) (.seq (.seq (.ops r14_2) (.block 0 (.loop l14_0))) (.seq (.ops r14_7) (.ret))))
theorem ok14 : okFunc Tryz.prog 14 [.t 2] 1 p14 = true := by kernel_rfl
theorem rplaces_c (r : Str) (h0 : smpF r.smps = 0) : CallOK Tryz.prog 14 [.agg r.av] (.ro ((plcT r.smps).map oneI)) := by
  refine call_of mixed ok14 rfl ?_
  have hG := rclosed_c r h0
  have hlen : ((groupsL r.smps).filter (·.closed)).length ≤ 5000 := Nat.le_trans (List.length_filter_le _ _) (groupsL_len h0)
  rw [plcT_is h0]
  simp only [Str.av] at hG ⊢
  generalize (groupsL r.smps).filter (·.closed) = gs at *
  repeat' first | ((with_reducible (first | refine condD ?_ ?_ | refine condE ?_ ?_ | refine condN ?_ ?_ | refine condI ?_ ?_ | refine condS ?_ ?_)) <;> intro h) | ((refine callG hG ?_)) | (with_reducible refine And.intro ?_ ?_; omega) | (simp only [Z0,Z1,Z2,Z3,Z4,Z5,Z6,Z7,Z8,Z9,Za,Zb,Zc,Zd,Ze,Zf,List.cons.injEq,Zg,Zh,Zi,Zj,Zk,Zl,Zm,Zn,Zo,Zp,beq_self_eq_true,bne_self_eq_false,decide_true,decide_false,Zq,Zr,Zs,Zt,Zu,Zv,Zw,Zx,Zy,Zz,Y0,Y1,Y2,Y3,Y4,Y5,Y6,Y7,Y8,Y9,Ya,Yb,Yc,Yd,Ye,Yf,Yg,Yh,lk,ef,Yi,Yk,Ym,Yn,Yo,Yp,Yr,Yt,Yu,Yv,Yw,Yx,Yy,hv,Yz,ev,X0,X1,X2,X3,X4,X5,X6,X7,X8,X9,Xa,Xb,Xc,Xd,Xe,Xf,Xg,Xh,Xi,Xj,Xk,Xl,Xm,Xn,Xo,Xp,Xq,Xr,Xs,Xt,Xu,Xv,Xw,Value.oneCell',Xx,Xy,Xz,W0,true_and,and_true,and_self,implies_true,W1,W2,W3,W4,false_implies,W5,W6,W7,W8,W9,Wa,Wb,Wc,Wd,We,Wf,Wg,Wh,Wi,Wj,Wk,Wl,reduceCtorEq,if_true,if_false,Wm,↓reduceIte,Wn,Wo,Wp,Wq,Wr,Ws,ne_eq,not_false_eq_true,not_true_eq_false,Wt,Wu,r14_0,r14_1,r14_2,r14_3,r14_4,r14_5,r14_6,r14_7,p14]) | (exfalso; omega)
  refine loopS (fun k : Nat => mk [(3, .own 3 1 (((gs.take k).map (·.beg)).map oneI)), (7, .ro (gs.map Grp.av)), (8, .val (.int .i64 gs.length)), (9, .val (.int .i64 k))]) (fun k => k ≤ gs.length) (fun k => gs.length - k) 0 (weak_mk ?_) (Nat.zero_le _) ?_
  · simp only [Wv,Ww,Wx,Wy,Wz,V0,Z4,Z5,Z6,Z7,Z8,Z9,Za,Zb,Zc,Zd,Ze,Zf,List.cons.injEq,Zg,Zh,Zi,Zj,Zk,Zl,Zm,Zn,Zo,Zp,beq_self_eq_true,bne_self_eq_false,decide_true,decide_false,Zq,Zr,Zs,Zt,Zu,Zv,Zw,Zx,Zy,Zz,Y0,hv,Yz,ev,X0,X1,X2,X3,X4,X5,X6,X7,X8,X9,Xa,Xb,Xc,Xd,Xe,Xf,Xg,Xh,Xi,Xj,Xk,Xl,Xm,Xn,Xo,Xp,Xq,Xr,Xs,Xt,Xu,Xv,Xw,Value.oneCell',Xx,Xy,Xz,W0,true_and,and_true,and_self,implies_true,W1,W2,W3,W4,false_implies,W5,W6,W7,W8,W9,Wa,Wb,Wc,Wd,We,Wf,Wg,Wh,Wi,Wj,Wk,Wl,reduceCtorEq,if_true,if_false,Wm,↓reduceIte,Wn,Wo,Wp,Wq,Wr,Ws,ne_eq,not_false_eq_true,not_true_eq_false,Wt,Nat.zero_ne_one]
    all_goals first | done | rfl | simp
  rintro J hJ k hk
  simp only [Z0,Z1,Z2,Z3,Z4,Z5,Z6,Z7,Z8,Z9,Za,Zb,Zc,Zd,Ze,Zf,List.cons.injEq,Zg,Zh,Zi,Zj,Zk,Zl,Zm,Zn,Zo,Zp,beq_self_eq_true,bne_self_eq_false,decide_true,decide_false,Zq,Zr,Zs,Zt,Zu,Zv,Zw,Zx,Zy,Zz,Y0,Y1,Y2,Y3,Y4,Y5,Y6,Y7,Y8,Y9,Ya,Yb,Yc,Yd,Ye,Yf,Yg,Yh,lk,ef,Yi,Yk,Ym,Yn,Yo,Yp,Yr,Yt,Yu,Yv,Yw,Yx,Yy,hv,Yz,ev,X0,X1,X2,X3,X4,X5,X6,X7,X8,X9,Xa,Xb,Xc,Xd,Xe,Xf,Xg,Xh,Xi,Xj,Xk,Xl,Xm,Xn,Xo,Xp,Xq,Xr,Xs,Xt,Xu,Xv,Xw,Value.oneCell',Xx,Xy,Xz,W0,true_and,and_true,and_self,implies_true,W1,W2,W3,W4,false_implies,W5,W6,W7,W8,W9,Wa,Wb,Wc,Wd,We,Wf,Wg,Wh,Wi,Wj,Wk,Wl,reduceCtorEq,if_true,if_false,Wm,↓reduceIte,Wn,Wo,Wp,Wq,Wr,Ws,ne_eq,not_false_eq_true,not_true_eq_false,Wt,Wu,r14_0,r14_1,r14_2,r14_3,r14_4,r14_5,r14_6,r14_7,p14,l14_0]
  refine condD (fun h => ?_) (fun h => ?_)
  · have hlt : k < gs.length := by omega
    have hw := i_add1 k (by omega)
    have gK := getD_map (f := Grp.av) (d := []) hlt
    simp only [Grp.av] at gK
    have happ : ((gs.take k).map (·.beg)).map oneI ++ [[.val (.int .i64 gs[k].beg)]] = ((gs.take (k + 1)).map (·.beg)).map oneI := by rw [List.take_succ_eq_append_getElem hlt, List.map_append, List.map_append]; rfl
    repeat' first | ((with_reducible (first | refine condD ?_ ?_ | refine condE ?_ ?_ | refine condN ?_ ?_ | refine condI ?_ ?_ | refine condS ?_ ?_)) <;> intro h) | (with_reducible refine And.intro ?_ ?_; omega) | (simp only [Z0,Z1,Z2,Z3,Z4,Z5,Z6,Z7,Z8,Z9,Za,Zb,Zc,Zd,Ze,Zf,List.cons.injEq,Zg,Zh,Zi,Zj,Zk,Zl,Zm,Zn,Zo,Zp,beq_self_eq_true,bne_self_eq_false,decide_true,decide_false,Zq,Zr,Zs,Zt,Zu,Zv,Zw,Zx,Zy,Zz,Y0,Y1,Y2,Y3,Y4,Y5,Y6,Y7,Y8,Y9,Ya,Yb,Yc,Yd,Ye,Yf,Yg,Yh,lk,ef,Yi,Yk,Ym,Yn,Yo,Yp,Yr,Yt,Yu,Yv,Yw,Yx,Yy,hv,Yz,ev,X0,X1,X2,X3,X4,X5,X6,X7,X8,X9,Xa,Xb,Xc,Xd,Xe,Xf,Xg,Xh,Xi,Xj,Xk,Xl,Xm,Xn,Xo,Xp,Xq,Xr,Xs,Xt,Xu,Xv,Xw,Value.oneCell',Xx,Xy,Xz,W0,true_and,and_true,and_self,implies_true,W1,W2,W3,W4,false_implies,W5,W6,W7,W8,W9,Wa,Wb,Wc,Wd,We,Wf,Wg,Wh,Wi,Wj,Wk,Wl,reduceCtorEq,if_true,if_false,Wm,↓reduceIte,Wn,Wo,Wp,Wq,Wr,Ws,ne_eq,not_false_eq_true,not_true_eq_false,Wt,Wu,r14_0,r14_1,r14_2,r14_3,r14_4,r14_5,r14_6,r14_7,p14,l14_0,gK,happ,hw,Zt,List.length_take]) | (exfalso; omega)
    all_goals first | omega | exact again hJ (k + 1) (weak_mk (by simp only [Wv,Ww,Wx,Wy,Wz,V0,Z4,Z5,Z6,Z7,Z8,Z9,Za,Zb,Zc,Zd,Ze,Zf,List.cons.injEq,Zg,Zh,Zi,Zj,Zk,Zl,Zm,Zn,Zo,Zp,beq_self_eq_true,bne_self_eq_false,decide_true,decide_false,Zq,Zr,Zs,Zt,Zu,Zv,Zw,Zx,Zy,Zz,Y0,hv,Yz,ev,X0,X1,X2,X3,X4,X5,X6,X7,X8,X9,Xa,Xb,Xc,Xd,Xe,Xf,Xg,Xh,Xi,Xj,Xk,Xl,Xm,Xn,Xo,Xp,Xq,Xr,Xs,Xt,Xu,Xv,Xw,Value.oneCell',Xx,Xy,Xz,W0,true_and,and_true,and_self,implies_true,W1,W2,W3,W4,false_implies,W5,W6,W7,W8,W9,Wa,Wb,Wc,Wd,We,Wf,Wg,Wh,Wi,Wj,Wk,Wl,reduceCtorEq,if_true,if_false,Wm,↓reduceIte,Wn,Wo,Wp,Wq,Wr,Ws,ne_eq,not_false_eq_true,not_true_eq_false,Wt,Nat.zero_ne_one]; first | done | exact hw)) (by omega) (by omega)
  · have hke : k = gs.length := by omega
    subst hke
    rw [List.take_length]
    clear hJ
    repeat' first | ((with_reducible (first | refine condD ?_ ?_ | refine condE ?_ ?_ | refine condN ?_ ?_ | refine condI ?_ ?_ | refine condS ?_ ?_)) <;> intro h) | (with_reducible refine And.intro ?_ ?_; omega) | (simp only [Z0,Z1,Z2,Z3,Z4,Z5,Z6,Z7,Z8,Z9,Za,Zb,Zc,Zd,Ze,Zf,List.cons.injEq,Zg,Zh,Zi,Zj,Zk,Zl,Zm,Zn,Zo,Zp,beq_self_eq_true,bne_self_eq_false,decide_true,decide_false,Zq,Zr,Zs,Zt,Zu,Zv,Zw,Zx,Zy,Zz,Y0,Y1,Y2,Y3,Y4,Y5,Y6,Y7,Y8,Y9,Ya,Yb,Yc,Yd,Ye,Yf,Yg,Yh,lk,ef,Yi,Yk,Ym,Yn,Yo,Yp,Yr,Yt,Yu,Yv,Yw,Yx,Yy,hv,Yz,ev,X0,X1,X2,X3,X4,X5,X6,X7,X8,X9,Xa,Xb,Xc,Xd,Xe,Xf,Xg,Xh,Xi,Xj,Xk,Xl,Xm,Xn,Xo,Xp,Xq,Xr,Xs,Xt,Xu,Xv,Xw,Value.oneCell',Xx,Xy,Xz,W0,true_and,and_true,and_self,implies_true,W1,W2,W3,W4,false_implies,W5,W6,W7,W8,W9,Wa,Wb,Wc,Wd,We,Wf,Wg,Wh,Wi,Wj,Wk,Wl,reduceCtorEq,if_true,if_false,Wm,↓reduceIte,Wn,Wo,Wp,Wq,Wr,Ws,ne_eq,not_false_eq_true,not_true_eq_false,Wt,Wu,r14_0,r14_1,r14_2,r14_3,r14_4,r14_5,r14_6,r14_7,p14,l14_0]) | (exfalso; omega)
/-! headend/headendref4.Places -/
def r10_0 : List POp := [⟨1, .boxs (.t 0), none⟩,
  ⟨2, .asg .nil, none⟩,
  ⟨3, .asg (.c (.int .i64 0)), none⟩]
def r10_1 : List POp := [⟨5, .loads 4 (.t 1), none⟩,
  ⟨6, .call 18 [.t 5], none⟩,
  ⟨4, .asg (.t 6), none⟩]
def r10_2 : List POp := [⟨7, .mv (.t 4), none⟩,
  ⟨8, .bin .neq (.t 7) (.c (.int .i64 0)), none⟩]
def r10_3 : List POp := [⟨9, .mv (.t 4), none⟩,
  ⟨2, .asg .nil, none⟩,
  ⟨3, .mv (.t 9), none⟩]
def r10_4 : List POp := [⟨10, .loads 4 (.t 1), none⟩,
  ⟨11, .call 14 [.t 10], none⟩,
  ⟨2, .asg (.t 11), none⟩,
  ⟨3, .asg (.c (.int .i64 0)), none⟩]
def p10 : PCode := .seq (.ops r10_0) (.seq (.seq (.ops r10_1) (.seq (.ops r10_2) (.cond (.t 8) (.seq (.ops r10_3) (.ret)) (.skip)))) (.seq (.ops r10_4) (.ret)))
theorem ok10 : okFunc Tryz.prog 10 [.t 2, .t 3] 1 p10 = true := by kernel_rfl
theorem rPlaces_c (r : Str) (hnm : NmOK r) : CallOK Tryz.prog 10 [.agg r.av] (.tup [.ro ((placesF r).1.map oneI), .val (.int .i64 (placesF r).2)]) := by
  refine call_of mixed ok10 rfl ?_
  have hs := one_c r hnm
  by_cases h0 : strF r [] = 0
  · have hP := rplaces_c r (strF_ok h0).1
    rw [show placesF r = (plcT r.smps, 0) from if_neg (by simp [h0])]
    rw [h0] at hs
    simp only [Str.av] at hs hP ⊢
    repeat' first | ((with_reducible (first | refine condD ?_ ?_ | refine condE ?_ ?_ | refine condN ?_ ?_ | refine condI ?_ ?_ | refine condS ?_ ?_)) <;> intro h) | ((refine callG hs ?_)) | ((refine callG hP ?_)) | (with_reducible refine And.intro ?_ ?_; omega) | (simp only [Z0,Z1,Z2,Z3,Z4,Z5,Z6,Z7,Z8,Z9,Za,Zb,Zc,Zd,Ze,Zf,List.cons.injEq,Zg,Zh,Zi,Zj,Zk,Zl,Zm,Zn,Zo,Zp,beq_self_eq_true,bne_self_eq_false,decide_true,decide_false,Zq,Zr,Zs,Zt,Zu,Zv,Zw,Zx,Zy,Zz,Y0,Y1,Y2,Y3,Y4,Y5,Y6,Y7,Y8,Y9,Ya,Yb,Yc,Yd,Ye,Yf,Yg,Yh,lk,ef,Yi,Yk,Yn,Yu,Yw,hv,Yz,ev,X0,X1,X2,X3,X4,X5,X6,X7,X8,X9,Xa,Xb,Xc,Xd,Xe,Xf,Xg,Xh,Xi,Xj,Xk,Xl,Xm,Xn,Xo,Xp,Xq,Xr,Xs,Xt,Xu,Xv,Xw,Value.oneCell',Xx,Xy,Xz,W0,true_and,and_true,and_self,implies_true,W1,W2,W3,W4,false_implies,W5,W6,W7,W8,W9,Wa,Wb,Wc,Wd,We,Wf,Wg,Wh,Wi,Wj,Wk,Wl,reduceCtorEq,if_true,if_false,Wm,↓reduceIte,Wn,Wo,Wp,Wq,Wr,Ws,ne_eq,not_false_eq_true,not_true_eq_false,Wt,Wu,r10_0,r10_1,r10_2,r10_3,r10_4,p10]) | (exfalso; omega)
  · rw [show placesF r = ([], strF r []) from if_pos h0]
    have hb0 := beq0_f h0
    have hb1 := bne0_t h0
    generalize strF r [] = e at *
    simp only [Str.av] at hs ⊢
    repeat' first | ((with_reducible (first | refine condD ?_ ?_ | refine condE ?_ ?_ | refine condN ?_ ?_ | refine condI ?_ ?_ | refine condS ?_ ?_)) <;> intro h) | ((refine callG hs ?_)) | (with_reducible refine And.intro ?_ ?_; omega) | (simp only [Z0,Z1,Z2,Z3,Z4,Z5,Z6,Z7,Z8,Z9,Za,Zb,Zc,Zd,Ze,Zf,List.cons.injEq,Zg,Zh,Zi,Zj,Zk,Zl,Zm,Zn,Zo,Zp,beq_self_eq_true,bne_self_eq_false,decide_true,decide_false,Zq,Zr,Zs,Zt,Zu,Zv,Zw,Zx,Zy,Zz,Y0,Y1,Y2,Y3,Y4,Y5,Y6,Y7,Y8,Y9,Ya,Yb,Yc,Yd,Ye,Yf,Yg,Yh,lk,ef,Yi,Yk,Yn,Yu,Yw,hv,Yz,ev,X0,X1,X2,X3,X4,X5,X6,X7,X8,X9,Xa,Xb,Xc,Xd,Xe,Xf,Xg,Xh,Xi,Xj,Xk,Xl,Xm,Xn,Xo,Xp,Xq,Xr,Xs,Xt,Xu,Xv,Xw,Value.oneCell',Xx,Xy,Xz,W0,true_and,and_true,and_self,implies_true,W1,W2,W3,W4,false_implies,W5,W6,W7,W8,W9,Wa,Wb,Wc,Wd,We,Wf,Wg,Wh,Wi,Wj,Wk,Wl,reduceCtorEq,if_true,if_false,Wm,↓reduceIte,Wn,Wo,Wp,Wq,Wr,Ws,ne_eq,not_false_eq_true,not_true_eq_false,Wt,Wu,r10_0,r10_1,r10_2,r10_3,r10_4,p10,hb0,hb1]) | (exfalso; omega)
    all_goals first | done | simp
end Go.Proofs.YtjeemcpdmiajmaaGreatDoor
