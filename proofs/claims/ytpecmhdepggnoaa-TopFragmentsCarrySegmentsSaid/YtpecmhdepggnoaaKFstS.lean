/- First samples of segments: cut.firsts, by the machine on data. -/
import Derived.Test.YtpecmhdepggnoaaKFirsts
import Derived.Test.YtpecmhdepggnoaaKPlcB
import Derived.Test.YtpecmhdepggnoaaKAlive
namespace Go.Proofs.Ytpecmhdepggnoaa
open Go.RowKit
open Go.Proofs.Ytpecmhdepggnoaa renaming done_eq → Z0, done_eq' → Z1, donet_eq → Z2, donet_eq' → Z3, fin_val → Z4, fin_tup → Z5, fin_agg → Z6, fin_ro → Z7, res_one → Z8, res_more → Z9, rv_t → Za, rv_c → Zb, rv_l → Zc, int_eq → Zg, bool_eq → Zh, toNat_pred → Zr, toNat_succ → Zs, cnd_t → Zu, cnd_f → Zv, grd_tt → Zw, grd_u → Zx, grd_tf → Zy, grd_ft → Zz, grd_ff → Y0, g_skip → Y1, g_ops → Y2, g_seq → Y3, g_block → Y4, g_exit → Y5, g_ret → Y6, g_nil → Y7, r_all → Y8, o_nil → Y9, g_cond → Ya, o_guard → Yb, o_call → Yc, o_mv → Yd, o_pick → Ye, o_bin → Yf, o_un → Yg, o_load → Yh, o_loads → Yi, o_fld → Yj, o_idx → Yk, o_len → Yl, o_ext → Ym, o_alloc → Yn, o_boxs → Yo, o_row → Yp, o_asg → Yq, o_app → Yr, o_stores → Ys, eqAV → Yt, view_t → Yu, view_c → Yv, view_nil → Yw, view_fn → Yx, look_own → Yy, look_box → Yz, look_junk → X0, look_val → X1, look_nilsl → X2, look_ro → X3, look_roAt → X4, look_agg → X5, look_tup → X6, look_clo → X7, look_alias → X8, look_ref → X9, look_into → Xa, rowOf → Xb, cellsOf → Xc, argv → Xd, vbin → Xe, vun → Xf, bnd → Xg, elemOf → Xh, putParts → Xi, setAt → Xj, zav → Xk, put_at → Xr, mk_at → Xs, mk_nil → Xt, initSt → Xu, wk_cons → Wp, wk_nil → Wq, vint_eq → Wr, vbool_eq → Ws
open Go.Proofs.Ytpecmhdepggnoaa.AV.tup renaming injEq → Zd
open Go.Proofs.Ytpecmhdepggnoaa.AV.agg renaming injEq → Ze
open Go.Proofs.Ytpecmhdepggnoaa.AV.ro renaming injEq → Zf
open _root_.Int renaming toNat_natCast → Zi, reduceToNat → Zj, toNat_zero → Zk, toNat_one → Zl, reduceLE → Zm, reduceLT → Zn, reduceBEq → Zo, reduceBNe → Zp, reduceNeg → Zq
open _root_.List renaming length_map → Zt, map_cons → Xv, map_nil → Xw, forall_mem_cons → Xx, not_mem_nil → Xy, length_cons → Xz, length_nil → W0, getD_cons_zero → W1, getD_cons_succ → W2, getD_nil → W3, drop_succ_cons → W4, drop_zero → W5, take_succ_cons → W6, take_zero → W7, set_cons_zero → W8, set_cons_succ → W9, all_cons → Wa, all_nil → Wb
open Go.Proofs.Ytpecmhdepggnoaa.ASt renaming rid → Xl, free → Xm
open Go.Proofs.Ytpecmhdepggnoaa.AV renaming kill → Xn, isHome → Xo, noLoan → Xp, cellOK → Xq
open _root_.Bool renaming and_true → Wc, true_and → Wd, not_true → We, not_false → Wf, false_eq_true → Wg
open _root_.Nat renaming reduceEqDiff → Wh, reduceAdd → Wi, reduceSub → Wj, reduceMul → Wk, reduceLeDiff → Wl, reduceLT → Wm, one_ne_zero → Wn, zero_ne_one → Wo
open Go.Proofs.Ytpecmhdepggnoaa.AV.val renaming injEq → Wt
set_option linter.unusedSimpArgs false

def cutOf (r : Str) (scale b : Int) : Int := scl b r.scale.toNat scale.toNat 1
def fstAt (r : Str) (scale b : Int) (fr : List Int) : Int × Int :=
  if r.sound then (if fr.length ≠ 0 ∧ (lastB (presL r.smps) r.scale b scale ((presL r.smps).length - 1) : Int) ≤ fr.getD (fr.length - 1) 0 then (0, 13) else ((lastB (presL r.smps) r.scale b scale ((presL r.smps).length - 1) : Nat), 0))
  else if (findF (placesL r.smps) r.scale b scale).2 then ((findF (placesL r.smps) r.scale b scale).1.2, 0) else (0, 9)
def fstGo (r : Str) (scale : Int) : List Int → List Int → List Int → List Int × List Int × Int
  | [], fr, cu => (fr, cu, 0)
  | b :: t, fr, cu => if noTime (cutOf r scale b) then ([], [], 1) else if (fstAt r scale b fr).2 ≠ 0 then ([], [], (fstAt r scale b fr).2) else fstGo r scale t (fr ++ [(fstAt r scale b fr).1]) (cu ++ [cutOf r scale b])
/-! headend/cut.firsts -/
def r73_0 : List POp := [⟨3, .boxs (.t 0), none⟩,
  ⟨6, .asg .nil, none⟩,
  ⟨7, .asg .nil, none⟩,
  ⟨8, .asg (.c (.int .i64 0)), none⟩]
def r73_1 : List POp := [⟨20, .loads 4 (.t 3), none⟩,
  ⟨21, .call 91 [.t 20], none⟩,
  ⟨9, .asg (.t 21), none⟩]
def r73_2 : List POp := [⟨23, .fld 3 (.t 3), none⟩,
  ⟨24, .load (.t 23), none⟩,
  ⟨25, .call 16 [.t 24], none⟩,
  ⟨22, .mv (.t 25), none⟩,
  ⟨26, .ext 0 (.t 22), none⟩,
  ⟨27, .ext 1 (.t 22), none⟩,
  ⟨10, .asg (.t 26), none⟩,
  ⟨11, .mv (.t 27), none⟩]
def r73_3 : List POp := [⟨12, .asg .nil, none⟩,
  ⟨13, .asg .nil, none⟩]
def r73_4 : List POp := [⟨28, .mv (.t 2), none⟩,
  ⟨29, .len (.t 28), none⟩,
  ⟨30, .mv (.c (.int .i64 0)), none⟩]
def r73_5 : List POp := [⟨31, .bin .lss (.t 30) (.t 29), none⟩]
def r73_6 : List POp := [⟨32, .mv (.t 30), none⟩,
  ⟨33, .idx 1 (.t 28) (.t 30), none⟩,
  ⟨34, .load (.t 33), none⟩,
  ⟨14, .asg (.t 32), none⟩,
  ⟨15, .asg (.t 34), none⟩]
def r73_7 : List POp := [⟨35, .mv (.t 15), none⟩,
  ⟨36, .fld 1 (.t 3), none⟩,
  ⟨37, .load (.t 36), none⟩,
  ⟨38, .mv (.t 1), none⟩,
  ⟨39, .call 38 [.t 35, .t 37, .t 38, .c (.int .i64 1)], none⟩,
  ⟨16, .asg (.t 39), none⟩]
def r73_8 : List POp := [⟨40, .mv (.t 16), none⟩,
  ⟨41, .call 41 [.t 40], none⟩]
def r73_9 : List POp := [⟨6, .asg .nil, none⟩,
  ⟨7, .asg .nil, none⟩,
  ⟨8, .asg (.c (.int .i64 1)), none⟩]
def r73_10 : List POp := [⟨17, .asg (.c (.int .i64 0)), none⟩]
def r73_11 : List POp := [⟨42, .fld 2 (.t 3), none⟩,
  ⟨43, .load (.t 42), none⟩]
def r73_12 : List POp := [⟨44, .mv (.t 10), none⟩,
  ⟨45, .fld 1 (.t 3), none⟩,
  ⟨46, .load (.t 45), none⟩,
  ⟨47, .mv (.t 15), none⟩,
  ⟨48, .mv (.t 1), none⟩,
  ⟨49, .call 92 [.t 44, .t 46, .t 47, .t 48], none⟩,
  ⟨17, .asg (.t 49), none⟩]
def r73_13 : List POp := [⟨50, .mv (.t 14), none⟩,
  ⟨51, .bin .gtr (.t 50) (.c (.int .i64 0)), none⟩,
  ⟨52, .mv (.t 51), none⟩,
  ⟨53, .mv (.t 17), some (52, true)⟩,
  ⟨54, .mv (.t 12), some (52, true)⟩,
  ⟨55, .mv (.t 14), some (52, true)⟩,
  ⟨56, .bin .sub (.t 55) (.c (.int .i64 1)), some (52, true)⟩,
  ⟨57, .idx 1 (.t 54) (.t 56), some (52, true)⟩,
  ⟨58, .load (.t 57), some (52, true)⟩,
  ⟨59, .bin .leq (.t 53) (.t 58), some (52, true)⟩,
  ⟨60, .pick (.t 52) (.t 59) (.c (.bool false)), none⟩]
def r73_14 : List POp := [⟨6, .asg .nil, none⟩,
  ⟨7, .asg .nil, none⟩,
  ⟨8, .asg (.c (.int .i64 13)), none⟩]
def r73_15 : List POp := [⟨62, .mv (.t 9), none⟩,
  ⟨63, .fld 1 (.t 3), none⟩,
  ⟨64, .load (.t 63), none⟩,
  ⟨65, .mv (.t 15), none⟩,
  ⟨66, .mv (.t 1), none⟩,
  ⟨67, .call 93 [.t 62, .t 64, .t 65, .t 66], none⟩,
  ⟨61, .mv (.t 67), none⟩,
  ⟨68, .ext 0 (.t 61), none⟩,
  ⟨69, .ext 1 (.t 61), none⟩,
  ⟨18, .alloc [.int .i64 0, .int .i64 0], none⟩,
  ⟨0, .stores 2 (.t 18) (.t 68), none⟩,
  ⟨19, .mv (.t 69), none⟩]
def r73_16 : List POp := [⟨70, .mv (.t 19), none⟩,
  ⟨71, .un .not (.t 70), none⟩]
def r73_17 : List POp := [⟨6, .asg .nil, none⟩,
  ⟨7, .asg .nil, none⟩,
  ⟨8, .asg (.c (.int .i64 9)), none⟩]
def r73_18 : List POp := [⟨72, .fld 1 (.t 18), none⟩,
  ⟨73, .load (.t 72), none⟩,
  ⟨17, .asg (.t 73), none⟩]
def r73_19 : List POp := [⟨74, .mv (.t 12), none⟩,
  ⟨75, .mv (.t 17), none⟩,
  ⟨76, .row 3 1 [.t 75], none⟩,
  ⟨77, .app 3 1 8 (.t 74) (.t 76), none⟩,
  ⟨78, .mv (.t 13), none⟩,
  ⟨79, .mv (.t 16), none⟩,
  ⟨80, .row 3 1 [.t 79], none⟩,
  ⟨81, .app 3 1 8 (.t 78) (.t 80), none⟩,
  ⟨12, .asg (.t 77), none⟩,
  ⟨13, .asg (.t 81), none⟩]
def r73_20 : List POp := [⟨82, .bin .add (.t 30) (.c (.int .i64 1)), none⟩,
  ⟨30, .mv (.t 82), none⟩]
def r73_21 : List POp := [⟨83, .mv (.t 12), none⟩,
  ⟨84, .mv (.t 13), none⟩,
  ⟨6, .asg (.t 83), none⟩,
  ⟨7, .asg (.t 84), none⟩,
  ⟨8, .mv (.c (.int .i64 0)), none⟩]
def l73_0 : PCode := .seq (.ops r73_5) (.seq (.cond (.t 31) (.skip) (.exit 0)) (.seq (.block 1 (.seq (.ops r73_6) (.seq (.ops r73_7) (.seq (.seq (.ops r73_8) (.cond (.t 41) (.seq (.ops r73_9) (.ret)) (.skip))) (.seq (.ops r73_10) (.seq (.seq (.ops r73_11) (.cond (.t 43) (.seq (.ops r73_12) (.seq (.ops r73_13) (.cond (.t 60) (.seq (.ops r73_14) (.ret)) (.skip)))) (.seq (.ops r73_15) (.seq (.seq (.ops r73_16) (.cond (.t 71) (.seq (.ops r73_17) (.ret)) (.skip))) (.ops r73_18))))) (.ops r73_19))))))) (.ops r73_20)))
def p73 : PCode := .seq (.ops r73_0) (.seq (.ops r73_1) (.seq (.ops r73_2) (.seq (.ops r73_3) (.seq (.seq (.ops r73_4) (.block 0 (.loop l73_0))) (.seq (.ops r73_21) (.ret))))))
theorem ok73 : okFunc Try.prog 73 [.t 6, .t 7, .t 8] 3 p73 = true := by kernel_rfl
set_option maxHeartbeats 2000000 in
theorem firsts_c (r : Str) (scale : Int) (B : List Int) (hs : smpF r.smps = 0) (hne : 0 < r.smps.length) (hr : 1 ≤ r.scale ∧ r.scale ≤ 1000000000) (hsc : 1 ≤ scale ∧ scale ≤ 1000000000) (hBl : B.length ≤ 1000) (hB : ∀ b ∈ B, -1000000000000000 ≤ b ∧ b ≤ 1000000000000000) :
    CallOK Try.prog 73 [.agg r.av, .val (.int .i64 scale), .ro (B.map oneI)] (.tup [.ro ((fstGo r scale B [] []).1.map oneI), .ro ((fstGo r scale B [] []).2.1.map oneI), .val (.int .i64 (fstGo r scale B [] []).2.2)]) := by
  refine call_of mixed ok73 rfl ?_
  have hG := places_c r
  have hP := presF_c r.smps
  rw [show presF r.smps = (presL r.smps, 0) from by rw [presF, if_neg (by simp [hs])]] at hP
  have hPl := presL_len r.smps
  have h5 := (smpF_0 hs).1
  have hPb := pres_bd (smpF_0 hs).2.1
  have hfind : ∀ b, (-1000000000000000 ≤ b ∧ b ≤ 1000000000000000) → CallOK Try.prog 93 [.ro ((placesL r.smps).map plAV), .val (.int .i64 r.scale), .val (.int .i64 b), .val (.int .i64 scale)] (.tup [.agg (plAV (findF (placesL r.smps) r.scale b scale).1), .val (.bool (findF (placesL r.smps) r.scale b scale).2)]) := fun b hb =>
    find_c _ _ _ _ (Nat.le_trans (placesL_len _) (by decide)) (fun p hp => by have := placesL_bd hs p hp; omega) (by omega) (by omega) (by omega)
  have hlast : ∀ b, (-1000000000000000 ≤ b ∧ b ≤ 1000000000000000) → CallOK Try.prog 92 [.ro ((presL r.smps).map oneI), .val (.int .i64 r.scale), .val (.int .i64 b), .val (.int .i64 scale)] (.val (.int .i64 (lastB (presL r.smps) r.scale b scale ((presL r.smps).length - 1) : Nat))) := fun b hb =>
    lastb_c _ _ _ _ (by omega) (by omega) (fun p hp => by have := hPb p hp; omega) (by omega) (by omega) (by omega)
  have hcut : ∀ b, (-1000000000000000 ≤ b ∧ b ≤ 1000000000000000) → CallOK Try.prog 38 [.val (.int .i64 b), .val (.int .i64 r.scale), .val (.int .i64 scale), .val (.int .i64 1)] (.val (.int .i64 (cutOf r scale b))) := fun b hb =>
    scaledI_c b r.scale scale 1 (by omega) (by omega) (by omega) (by omega) (by omega) (by omega)
  obtain ⟨R, hR⟩ : ∃ R, fstGo r scale B [] [] = R := ⟨_, rfl⟩
  rw [hR]
  simp only [Str.av] at hG ⊢
  repeat' first | ((with_reducible (first | refine condD ?_ ?_ | refine condE ?_ ?_ | refine condN ?_ ?_ | refine condI ?_ ?_ | refine condS ?_ ?_)) <;> intro h) | ((with_reducible (first | refine guardD (by with_unfolding_all rfl) ?_ ?_ | refine guardE (by with_unfolding_all rfl) ?_ ?_ | refine guardN (by with_unfolding_all rfl) ?_ ?_ | refine guardI (by with_unfolding_all rfl) ?_ ?_ | refine guardS (by with_unfolding_all rfl) ?_ ?_)) <;> intro h) | ((refine callG hG ?_)) | ((refine callG hP ?_)) | (with_reducible refine And.intro ?_ ?_; omega) | (simp only [Z0,Z1,Z2,Z3,Z4,Z5,Z6,Z7,Z8,Z9,Za,Zb,Zc,Zd,Ze,Zf,List.cons.injEq,Zg,Zh,Zi,Zj,Zk,Zl,Zm,Zn,Zo,Zp,beq_self_eq_true,bne_self_eq_false,decide_true,decide_false,Zq,Zr,Zs,Zt,Zu,Zv,Zw,Zx,Zy,Zz,Y0,Y1,Y2,Y3,Y4,Y5,Y6,x_c,x_o,x_l,x_b,g_b,Y7,Y8,Y9,Ya,Yb,Yc,lk,ef,Yd,Ye,Yf,Yg,Yh,Yi,Yj,Yk,Yl,Ym,Yn,Yo,Yp,Yq,Yr,Ys,hv,Yt,ev,Yu,Yv,Yw,Yx,Yy,Yz,X0,X1,X2,X3,X4,X5,X6,X7,X8,X9,Xa,Xb,Xc,Xd,Xe,Xf,Xg,Xh,Xi,Xj,Xk,Xl,Xm,Xn,Xo,Xp,Xq,Value.oneCell',Xr,Xs,Xt,Xu,true_and,and_true,and_self,implies_true,Xv,Xw,Xx,Xy,false_implies,Xz,W0,W1,W2,W3,W4,W5,W6,W7,W8,W9,Wa,Wb,Wc,Wd,We,Wf,reduceCtorEq,if_true,if_false,Wg,↓reduceIte,Wh,Wi,Wj,Wk,Wl,Wm,ne_eq,not_false_eq_true,not_true_eq_false,Wn,Wo,r73_0,r73_1,r73_2,r73_3,r73_4,r73_5,r73_6,r73_7,r73_8,r73_9,r73_10,r73_11,r73_12,r73_13,r73_14,r73_15,r73_16,r73_17,r73_18,r73_19,r73_20,r73_21,p73,List.length_map]) | (exfalso; omega)
  refine loopS (fun p : Nat × List Int × List Int => mk [(1, .val (.int .i64 scale)), (3, .box [.val (.string r.name), .val (.int .i64 r.scale), .val (.bool r.sound), .ro (r.smps.map Smp.av)]), (9, .ro ((placesL r.smps).map plAV)), (10, .ro ((presL r.smps).map oneI)), (12, .own 3 1 (p.2.1.map oneI)), (13, .own 3 1 (p.2.2.map oneI)), (28, .ro (B.map oneI)), (29, .val (.int .i64 B.length)), (30, .val (.int .i64 p.1))])
    (fun p => p.1 ≤ B.length ∧ p.2.1.length = p.1 ∧ p.2.2.length = p.1 ∧ fstGo r scale (B.drop p.1) p.2.1 p.2.2 = R) (fun p => B.length - p.1) (0, [], []) (weak_mk ?_) ⟨Nat.zero_le _, rfl, rfl, hR⟩ ?_
  · simp only [Wp,Wq,wk1,Wr,Ws,Wt,Z4,Z5,Z6,Z7,Z8,Z9,Za,Zb,Zc,Zd,Ze,Zf,List.cons.injEq,Zg,Zh,Zi,Zj,Zk,Zl,Zm,Zn,Zo,Zp,beq_self_eq_true,bne_self_eq_false,decide_true,decide_false,Zq,Zr,Zs,Zt,Zu,Zv,Zw,Zx,Zy,Zz,Y0,hv,Yt,ev,Yu,Yv,Yw,Yx,Yy,Yz,X0,X1,X2,X3,X4,X5,X6,X7,X8,X9,Xa,Xb,Xc,Xd,Xe,Xf,Xg,Xh,Xi,Xj,Xk,Xl,Xm,Xn,Xo,Xp,Xq,Value.oneCell',Xr,Xs,Xt,Xu,true_and,and_true,and_self,implies_true,Xv,Xw,Xx,Xy,false_implies,Xz,W0,W1,W2,W3,W4,W5,W6,W7,W8,W9,Wa,Wb,Wc,Wd,We,Wf,reduceCtorEq,if_true,if_false,Wg,↓reduceIte,Wh,Wi,Wj,Wk,Wl,Wm,ne_eq,not_false_eq_true,not_true_eq_false,Wn,Nat.zero_ne_one]
    simp
  rintro J hJ ⟨k, fr, cu⟩ ⟨hk, hf, hc, hg⟩
  simp only at hk hf hc hg
  simp only [Z0,Z1,Z2,Z3,Z4,Z5,Z6,Z7,Z8,Z9,Za,Zb,Zc,Zd,Ze,Zf,List.cons.injEq,Zg,Zh,Zi,Zj,Zk,Zl,Zm,Zn,Zo,Zp,beq_self_eq_true,bne_self_eq_false,decide_true,decide_false,Zq,Zr,Zs,Zt,Zu,Zv,Zw,Zx,Zy,Zz,Y0,Y1,Y2,Y3,Y4,Y5,Y6,x_c,x_o,x_l,x_b,g_b,Y7,Y8,Y9,Ya,Yb,Yc,lk,ef,Yd,Ye,Yf,Yg,Yh,Yi,Yj,Yk,Yl,Ym,Yn,Yo,Yp,Yq,Yr,Ys,hv,Yt,ev,Yu,Yv,Yw,Yx,Yy,Yz,X0,X1,X2,X3,X4,X5,X6,X7,X8,X9,Xa,Xb,Xc,Xd,Xe,Xf,Xg,Xh,Xi,Xj,Xk,Xl,Xm,Xn,Xo,Xp,Xq,Value.oneCell',Xr,Xs,Xt,Xu,true_and,and_true,and_self,implies_true,Xv,Xw,Xx,Xy,false_implies,Xz,W0,W1,W2,W3,W4,W5,W6,W7,W8,W9,Wa,Wb,Wc,Wd,We,Wf,reduceCtorEq,if_true,if_false,Wg,↓reduceIte,Wh,Wi,Wj,Wk,Wl,Wm,ne_eq,not_false_eq_true,not_true_eq_false,Wn,Wo,r73_0,r73_1,r73_2,r73_3,r73_4,r73_5,r73_6,r73_7,r73_8,r73_9,r73_10,r73_11,r73_12,r73_13,r73_14,r73_15,r73_16,r73_17,r73_18,r73_19,r73_20,r73_21,p73,l73_0]
  refine condD (fun h => ?_) (fun h => ?_)
  · have hlt : k < B.length := by omega
    have hw := i_add1 k (by omega)
    have gK := getD_map (f := oneI) (d := []) hlt
    simp only [oneI] at gK
    have hbb := hB _ (List.getElem_mem hlt)
    have h1 := hcut _ hbb
    have h2 := hfind _ hbb
    have h3 := hlast _ hbb
    rw [List.drop_eq_getElem_cons hlt, fstGo] at hg
    generalize hcv : cutOf r scale B[k] = cv at *
    by_cases n1 : noTime cv = true
    · rw [if_pos n1] at hg
      subst hg
      repeat' first | ((with_reducible (first | refine condD ?_ ?_ | refine condE ?_ ?_ | refine condN ?_ ?_ | refine condI ?_ ?_ | refine condS ?_ ?_)) <;> intro h) | ((with_reducible (first | refine guardD (by with_unfolding_all rfl) ?_ ?_ | refine guardE (by with_unfolding_all rfl) ?_ ?_ | refine guardN (by with_unfolding_all rfl) ?_ ?_ | refine guardI (by with_unfolding_all rfl) ?_ ?_ | refine guardS (by with_unfolding_all rfl) ?_ ?_)) <;> intro h) | ((refine callG h1 ?_)) | ((refine callG (notime_c _) ?_)) | (with_reducible refine And.intro ?_ ?_; omega) | (simp only [Z0,Z1,Z2,Z3,Z4,Z5,Z6,Z7,Z8,Z9,Za,Zb,Zc,Zd,Ze,Zf,List.cons.injEq,Zg,Zh,Zi,Zj,Zk,Zl,Zm,Zn,Zo,Zp,beq_self_eq_true,bne_self_eq_false,decide_true,decide_false,Zq,Zr,Zs,Zt,Zu,Zv,Zw,Zx,Zy,Zz,Y0,Y1,Y2,Y3,Y4,Y5,Y6,x_c,x_o,x_l,x_b,g_b,Y7,Y8,Y9,Ya,Yb,Yc,lk,ef,Yd,Ye,Yf,Yg,Yh,Yi,Yj,Yk,Yl,Ym,Yn,Yo,Yp,Yq,Yr,Ys,hv,Yt,ev,Yu,Yv,Yw,Yx,Yy,Yz,X0,X1,X2,X3,X4,X5,X6,X7,X8,X9,Xa,Xb,Xc,Xd,Xe,Xf,Xg,Xh,Xi,Xj,Xk,Xl,Xm,Xn,Xo,Xp,Xq,Value.oneCell',Xr,Xs,Xt,Xu,true_and,and_true,and_self,implies_true,Xv,Xw,Xx,Xy,false_implies,Xz,W0,W1,W2,W3,W4,W5,W6,W7,W8,W9,Wa,Wb,Wc,Wd,We,Wf,reduceCtorEq,if_true,if_false,Wg,↓reduceIte,Wh,Wi,Wj,Wk,Wl,Wm,ne_eq,not_false_eq_true,not_true_eq_false,Wn,Wo,r73_0,r73_1,r73_2,r73_3,r73_4,r73_5,r73_6,r73_7,r73_8,r73_9,r73_10,r73_11,r73_12,r73_13,r73_14,r73_15,r73_16,r73_17,r73_18,r73_19,r73_20,r73_21,p73,l73_0,gK,n1,List.length_map]) | (exfalso; omega)
    rw [if_neg n1] at hg
    rw [Bool.not_eq_true] at n1
    have happ2 : cu.map oneI ++ [[.val (.int .i64 cv)]] = (cu ++ [cv]).map oneI := by rw [List.map_append]; rfl
    by_cases hso : r.sound = true
    · have hA : fstAt r scale B[k] fr = if fr.length ≠ 0 ∧ (lastB (presL r.smps) r.scale B[k] scale ((presL r.smps).length - 1) : Int) ≤ fr.getD (fr.length - 1) 0 then ((0 : Int), (13 : Int)) else (((lastB (presL r.smps) r.scale B[k] scale ((presL r.smps).length - 1) : Nat) : Int), (0 : Int)) := by
        unfold fstAt
        rw [if_pos hso]
      generalize lastB (presL r.smps) r.scale B[k] scale ((presL r.smps).length - 1) = a at *
      have happ : fr.map oneI ++ [[.val (.int .i64 (a : Nat))]] = (fr ++ [(a : Int)]).map oneI := by rw [List.map_append]; rfl
      by_cases hkz : k = 0
      · have hk0 : ¬ (0 : Int) < k := by omega
        rw [if_neg (by rw [hf]; simp [hkz])] at hA
        rw [hA] at hg
        simp only [ne_eq, not_true_eq_false, if_false] at hg
        repeat' first | ((with_reducible (first | refine condD ?_ ?_ | refine condE ?_ ?_ | refine condN ?_ ?_ | refine condI ?_ ?_ | refine condS ?_ ?_)) <;> intro h) | ((with_reducible (first | refine guardD (by with_unfolding_all rfl) ?_ ?_ | refine guardE (by with_unfolding_all rfl) ?_ ?_ | refine guardN (by with_unfolding_all rfl) ?_ ?_ | refine guardI (by with_unfolding_all rfl) ?_ ?_ | refine guardS (by with_unfolding_all rfl) ?_ ?_)) <;> intro h) | ((refine callG h1 ?_)) | ((refine callG (notime_c _) ?_)) | ((refine callG h3 ?_)) | (with_reducible refine And.intro ?_ ?_; omega) | (simp only [Z0,Z1,Z2,Z3,Z4,Z5,Z6,Z7,Z8,Z9,Za,Zb,Zc,Zd,Ze,Zf,List.cons.injEq,Zg,Zh,Zi,Zj,Zk,Zl,Zm,Zn,Zo,Zp,beq_self_eq_true,bne_self_eq_false,decide_true,decide_false,Zq,Zr,Zs,Zt,Zu,Zv,Zw,Zx,Zy,Zz,Y0,Y1,Y2,Y3,Y4,Y5,Y6,x_c,x_o,x_l,x_b,g_b,Y7,Y8,Y9,Ya,Yb,Yc,lk,ef,Yd,Ye,Yf,Yg,Yh,Yi,Yj,Yk,Yl,Ym,Yn,Yo,Yp,Yq,Yr,Ys,hv,Yt,ev,Yu,Yv,Yw,Yx,Yy,Yz,X0,X1,X2,X3,X4,X5,X6,X7,X8,X9,Xa,Xb,Xc,Xd,Xe,Xf,Xg,Xh,Xi,Xj,Xk,Xl,Xm,Xn,Xo,Xp,Xq,Value.oneCell',Xr,Xs,Xt,Xu,true_and,and_true,and_self,implies_true,Xv,Xw,Xx,Xy,false_implies,Xz,W0,W1,W2,W3,W4,W5,W6,W7,W8,W9,Wa,Wb,Wc,Wd,We,Wf,reduceCtorEq,if_true,if_false,Wg,↓reduceIte,Wh,Wi,Wj,Wk,Wl,Wm,ne_eq,not_false_eq_true,not_true_eq_false,Wn,Wo,r73_0,r73_1,r73_2,r73_3,r73_4,r73_5,r73_6,r73_7,r73_8,r73_9,r73_10,r73_11,r73_12,r73_13,r73_14,r73_15,r73_16,r73_17,r73_18,r73_19,r73_20,r73_21,p73,l73_0,gK,n1,hso,hk0,happ,happ2,List.length_map]) | (exfalso; omega)
        all_goals first | omega | exact again hJ (k + 1, fr ++ [(a : Int)], cu ++ [cv]) (weak_mk (by simp only [Wp,Wq,wk1,Wr,Ws,Wt,Z4,Z5,Z6,Z7,Z8,Z9,Za,Zb,Zc,Zd,Ze,Zf,List.cons.injEq,Zg,Zh,Zi,Zj,Zk,Zl,Zm,Zn,Zo,Zp,beq_self_eq_true,bne_self_eq_false,decide_true,decide_false,Zq,Zr,Zs,Zt,Zu,Zv,Zw,Zx,Zy,Zz,Y0,hv,Yt,ev,Yu,Yv,Yw,Yx,Yy,Yz,X0,X1,X2,X3,X4,X5,X6,X7,X8,X9,Xa,Xb,Xc,Xd,Xe,Xf,Xg,Xh,Xi,Xj,Xk,Xl,Xm,Xn,Xo,Xp,Xq,Value.oneCell',Xr,Xs,Xt,Xu,true_and,and_true,and_self,implies_true,Xv,Xw,Xx,Xy,false_implies,Xz,W0,W1,W2,W3,W4,W5,W6,W7,W8,W9,Wa,Wb,Wc,Wd,We,Wf,reduceCtorEq,if_true,if_false,Wg,↓reduceIte,Wh,Wi,Wj,Wk,Wl,Wm,ne_eq,not_false_eq_true,not_true_eq_false,Wn,Nat.zero_ne_one]; first | exact hw | exact ⟨hso.symm, hw⟩)) ⟨by simp only; omega, by simp [hf], by simp [hc], hg⟩ (by simp only; omega)
      · have hk0 : (0 : Int) < k := by omega
        have hw1 := i_sub1 k (by omega) (by omega)
        have hlt2 : k - 1 < fr.length := by omega
        have gF := getD_map (f := oneI) (d := []) hlt2
        simp only [oneI] at gF
        rw [hf, List.getD_eq_getElem?_getD, List.getElem?_eq_getElem hlt2, Option.getD_some] at hA
        by_cases q : (a : Int) ≤ fr[k - 1]
        · rw [if_pos ⟨by omega, q⟩] at hA
          rw [hA, if_pos (by decide)] at hg
          subst hg
          repeat' first | ((with_reducible (first | refine condD ?_ ?_ | refine condE ?_ ?_ | refine condN ?_ ?_ | refine condI ?_ ?_ | refine condS ?_ ?_)) <;> intro h) | ((with_reducible (first | refine guardD (by with_unfolding_all rfl) ?_ ?_ | refine guardE (by with_unfolding_all rfl) ?_ ?_ | refine guardN (by with_unfolding_all rfl) ?_ ?_ | refine guardI (by with_unfolding_all rfl) ?_ ?_ | refine guardS (by with_unfolding_all rfl) ?_ ?_)) <;> intro h) | ((refine callG h1 ?_)) | ((refine callG (notime_c _) ?_)) | ((refine callG h3 ?_)) | (with_reducible refine And.intro ?_ ?_; omega) | (simp only [Z0,Z1,Z2,Z3,Z4,Z5,Z6,Z7,Z8,Z9,Za,Zb,Zc,Zd,Ze,Zf,List.cons.injEq,Zg,Zh,Zi,Zj,Zk,Zl,Zm,Zn,Zo,Zp,beq_self_eq_true,bne_self_eq_false,decide_true,decide_false,Zq,Zr,Zs,Zt,Zu,Zv,Zw,Zx,Zy,Zz,Y0,Y1,Y2,Y3,Y4,Y5,Y6,x_c,x_o,x_l,x_b,g_b,Y7,Y8,Y9,Ya,Yb,Yc,lk,ef,Yd,Ye,Yf,Yg,Yh,Yi,Yj,Yk,Yl,Ym,Yn,Yo,Yp,Yq,Yr,Ys,hv,Yt,ev,Yu,Yv,Yw,Yx,Yy,Yz,X0,X1,X2,X3,X4,X5,X6,X7,X8,X9,Xa,Xb,Xc,Xd,Xe,Xf,Xg,Xh,Xi,Xj,Xk,Xl,Xm,Xn,Xo,Xp,Xq,Value.oneCell',Xr,Xs,Xt,Xu,true_and,and_true,and_self,implies_true,Xv,Xw,Xx,Xy,false_implies,Xz,W0,W1,W2,W3,W4,W5,W6,W7,W8,W9,Wa,Wb,Wc,Wd,We,Wf,reduceCtorEq,if_true,if_false,Wg,↓reduceIte,Wh,Wi,Wj,Wk,Wl,Wm,ne_eq,not_false_eq_true,not_true_eq_false,Wn,Wo,r73_0,r73_1,r73_2,r73_3,r73_4,r73_5,r73_6,r73_7,r73_8,r73_9,r73_10,r73_11,r73_12,r73_13,r73_14,r73_15,r73_16,r73_17,r73_18,r73_19,r73_20,r73_21,p73,l73_0,gK,gF,n1,hso,hk0,hw1,q,List.length_map]) | (exfalso; omega)
          all_goals omega
        · rw [if_neg (fun z => q z.2)] at hA
          rw [hA] at hg
          simp only [ne_eq, not_true_eq_false, if_false] at hg
          repeat' first | ((with_reducible (first | refine condD ?_ ?_ | refine condE ?_ ?_ | refine condN ?_ ?_ | refine condI ?_ ?_ | refine condS ?_ ?_)) <;> intro h) | ((with_reducible (first | refine guardD (by with_unfolding_all rfl) ?_ ?_ | refine guardE (by with_unfolding_all rfl) ?_ ?_ | refine guardN (by with_unfolding_all rfl) ?_ ?_ | refine guardI (by with_unfolding_all rfl) ?_ ?_ | refine guardS (by with_unfolding_all rfl) ?_ ?_)) <;> intro h) | ((refine callG h1 ?_)) | ((refine callG (notime_c _) ?_)) | ((refine callG h3 ?_)) | (with_reducible refine And.intro ?_ ?_; omega) | (simp only [Z0,Z1,Z2,Z3,Z4,Z5,Z6,Z7,Z8,Z9,Za,Zb,Zc,Zd,Ze,Zf,List.cons.injEq,Zg,Zh,Zi,Zj,Zk,Zl,Zm,Zn,Zo,Zp,beq_self_eq_true,bne_self_eq_false,decide_true,decide_false,Zq,Zr,Zs,Zt,Zu,Zv,Zw,Zx,Zy,Zz,Y0,Y1,Y2,Y3,Y4,Y5,Y6,x_c,x_o,x_l,x_b,g_b,Y7,Y8,Y9,Ya,Yb,Yc,lk,ef,Yd,Ye,Yf,Yg,Yh,Yi,Yj,Yk,Yl,Ym,Yn,Yo,Yp,Yq,Yr,Ys,hv,Yt,ev,Yu,Yv,Yw,Yx,Yy,Yz,X0,X1,X2,X3,X4,X5,X6,X7,X8,X9,Xa,Xb,Xc,Xd,Xe,Xf,Xg,Xh,Xi,Xj,Xk,Xl,Xm,Xn,Xo,Xp,Xq,Value.oneCell',Xr,Xs,Xt,Xu,true_and,and_true,and_self,implies_true,Xv,Xw,Xx,Xy,false_implies,Xz,W0,W1,W2,W3,W4,W5,W6,W7,W8,W9,Wa,Wb,Wc,Wd,We,Wf,reduceCtorEq,if_true,if_false,Wg,↓reduceIte,Wh,Wi,Wj,Wk,Wl,Wm,ne_eq,not_false_eq_true,not_true_eq_false,Wn,Wo,r73_0,r73_1,r73_2,r73_3,r73_4,r73_5,r73_6,r73_7,r73_8,r73_9,r73_10,r73_11,r73_12,r73_13,r73_14,r73_15,r73_16,r73_17,r73_18,r73_19,r73_20,r73_21,p73,l73_0,gK,gF,n1,hso,hk0,hw1,q,happ,happ2,List.length_map]) | (exfalso; omega)
          all_goals first | omega | exact again hJ (k + 1, fr ++ [(a : Int)], cu ++ [cv]) (weak_mk (by simp only [Wp,Wq,wk1,Wr,Ws,Wt,Z4,Z5,Z6,Z7,Z8,Z9,Za,Zb,Zc,Zd,Ze,Zf,List.cons.injEq,Zg,Zh,Zi,Zj,Zk,Zl,Zm,Zn,Zo,Zp,beq_self_eq_true,bne_self_eq_false,decide_true,decide_false,Zq,Zr,Zs,Zt,Zu,Zv,Zw,Zx,Zy,Zz,Y0,hv,Yt,ev,Yu,Yv,Yw,Yx,Yy,Yz,X0,X1,X2,X3,X4,X5,X6,X7,X8,X9,Xa,Xb,Xc,Xd,Xe,Xf,Xg,Xh,Xi,Xj,Xk,Xl,Xm,Xn,Xo,Xp,Xq,Value.oneCell',Xr,Xs,Xt,Xu,true_and,and_true,and_self,implies_true,Xv,Xw,Xx,Xy,false_implies,Xz,W0,W1,W2,W3,W4,W5,W6,W7,W8,W9,Wa,Wb,Wc,Wd,We,Wf,reduceCtorEq,if_true,if_false,Wg,↓reduceIte,Wh,Wi,Wj,Wk,Wl,Wm,ne_eq,not_false_eq_true,not_true_eq_false,Wn,Nat.zero_ne_one]; first | exact hw | exact ⟨hso.symm, hw⟩)) ⟨by simp only; omega, by simp [hf], by simp [hc], hg⟩ (by simp only; omega)
    · have hA : fstAt r scale B[k] fr = if (findF (placesL r.smps) r.scale B[k] scale).2 then ((((findF (placesL r.smps) r.scale B[k] scale).1.2 : Nat) : Int), (0 : Int)) else ((0 : Int), (9 : Int)) := by
        unfold fstAt
        rw [if_neg hso]
      rw [Bool.not_eq_true] at hso
      generalize findF (placesL r.smps) r.scale B[k] scale = Q at *
      obtain ⟨⟨qt, qs⟩, qb⟩ := Q
      simp only [plAV] at h2
      have happ : fr.map oneI ++ [[.val (.int .i64 (qs : Nat))]] = (fr ++ [(qs : Int)]).map oneI := by rw [List.map_append]; rfl
      cases qb with
      | true =>
        simp only [if_true] at hA
        rw [hA] at hg
        simp only [ne_eq, not_true_eq_false, if_false] at hg
        repeat' first | ((with_reducible (first | refine condD ?_ ?_ | refine condE ?_ ?_ | refine condN ?_ ?_ | refine condI ?_ ?_ | refine condS ?_ ?_)) <;> intro h) | ((with_reducible (first | refine guardD (by with_unfolding_all rfl) ?_ ?_ | refine guardE (by with_unfolding_all rfl) ?_ ?_ | refine guardN (by with_unfolding_all rfl) ?_ ?_ | refine guardI (by with_unfolding_all rfl) ?_ ?_ | refine guardS (by with_unfolding_all rfl) ?_ ?_)) <;> intro h) | ((refine callG h1 ?_)) | ((refine callG (notime_c _) ?_)) | ((refine callG h2 ?_)) | (with_reducible refine And.intro ?_ ?_; omega) | (simp only [Z0,Z1,Z2,Z3,Z4,Z5,Z6,Z7,Z8,Z9,Za,Zb,Zc,Zd,Ze,Zf,List.cons.injEq,Zg,Zh,Zi,Zj,Zk,Zl,Zm,Zn,Zo,Zp,beq_self_eq_true,bne_self_eq_false,decide_true,decide_false,Zq,Zr,Zs,Zt,Zu,Zv,Zw,Zx,Zy,Zz,Y0,Y1,Y2,Y3,Y4,Y5,Y6,x_c,x_o,x_l,x_b,g_b,Y7,Y8,Y9,Ya,Yb,Yc,lk,ef,Yd,Ye,Yf,Yg,Yh,Yi,Yj,Yk,Yl,Ym,Yn,Yo,Yp,Yq,Yr,Ys,hv,Yt,ev,Yu,Yv,Yw,Yx,Yy,Yz,X0,X1,X2,X3,X4,X5,X6,X7,X8,X9,Xa,Xb,Xc,Xd,Xe,Xf,Xg,Xh,Xi,Xj,Xk,Xl,Xm,Xn,Xo,Xp,Xq,Value.oneCell',Xr,Xs,Xt,Xu,true_and,and_true,and_self,implies_true,Xv,Xw,Xx,Xy,false_implies,Xz,W0,W1,W2,W3,W4,W5,W6,W7,W8,W9,Wa,Wb,Wc,Wd,We,Wf,reduceCtorEq,if_true,if_false,Wg,↓reduceIte,Wh,Wi,Wj,Wk,Wl,Wm,ne_eq,not_false_eq_true,not_true_eq_false,Wn,Wo,r73_0,r73_1,r73_2,r73_3,r73_4,r73_5,r73_6,r73_7,r73_8,r73_9,r73_10,r73_11,r73_12,r73_13,r73_14,r73_15,r73_16,r73_17,r73_18,r73_19,r73_20,r73_21,p73,l73_0,gK,n1,hso,happ,happ2,List.length_map]) | (exfalso; omega)
        all_goals first | omega | exact again hJ (k + 1, fr ++ [(qs : Int)], cu ++ [cv]) (weak_mk (by simp only [Wp,Wq,wk1,Wr,Ws,Wt,Z4,Z5,Z6,Z7,Z8,Z9,Za,Zb,Zc,Zd,Ze,Zf,List.cons.injEq,Zg,Zh,Zi,Zj,Zk,Zl,Zm,Zn,Zo,Zp,beq_self_eq_true,bne_self_eq_false,decide_true,decide_false,Zq,Zr,Zs,Zt,Zu,Zv,Zw,Zx,Zy,Zz,Y0,hv,Yt,ev,Yu,Yv,Yw,Yx,Yy,Yz,X0,X1,X2,X3,X4,X5,X6,X7,X8,X9,Xa,Xb,Xc,Xd,Xe,Xf,Xg,Xh,Xi,Xj,Xk,Xl,Xm,Xn,Xo,Xp,Xq,Value.oneCell',Xr,Xs,Xt,Xu,true_and,and_true,and_self,implies_true,Xv,Xw,Xx,Xy,false_implies,Xz,W0,W1,W2,W3,W4,W5,W6,W7,W8,W9,Wa,Wb,Wc,Wd,We,Wf,reduceCtorEq,if_true,if_false,Wg,↓reduceIte,Wh,Wi,Wj,Wk,Wl,Wm,ne_eq,not_false_eq_true,not_true_eq_false,Wn,Nat.zero_ne_one]; first | exact hw | exact ⟨hso.symm, hw⟩)) ⟨by simp only; omega, by simp [hf], by simp [hc], hg⟩ (by simp only; omega)
      | false =>
        simp only [Bool.false_eq_true, if_false] at hA
        rw [hA, if_pos (by decide)] at hg
        subst hg
        repeat' first | ((with_reducible (first | refine condD ?_ ?_ | refine condE ?_ ?_ | refine condN ?_ ?_ | refine condI ?_ ?_ | refine condS ?_ ?_)) <;> intro h) | ((with_reducible (first | refine guardD (by with_unfolding_all rfl) ?_ ?_ | refine guardE (by with_unfolding_all rfl) ?_ ?_ | refine guardN (by with_unfolding_all rfl) ?_ ?_ | refine guardI (by with_unfolding_all rfl) ?_ ?_ | refine guardS (by with_unfolding_all rfl) ?_ ?_)) <;> intro h) | ((refine callG h1 ?_)) | ((refine callG (notime_c _) ?_)) | ((refine callG h2 ?_)) | (with_reducible refine And.intro ?_ ?_; omega) | (simp only [Z0,Z1,Z2,Z3,Z4,Z5,Z6,Z7,Z8,Z9,Za,Zb,Zc,Zd,Ze,Zf,List.cons.injEq,Zg,Zh,Zi,Zj,Zk,Zl,Zm,Zn,Zo,Zp,beq_self_eq_true,bne_self_eq_false,decide_true,decide_false,Zq,Zr,Zs,Zt,Zu,Zv,Zw,Zx,Zy,Zz,Y0,Y1,Y2,Y3,Y4,Y5,Y6,x_c,x_o,x_l,x_b,g_b,Y7,Y8,Y9,Ya,Yb,Yc,lk,ef,Yd,Ye,Yf,Yg,Yh,Yi,Yj,Yk,Yl,Ym,Yn,Yo,Yp,Yq,Yr,Ys,hv,Yt,ev,Yu,Yv,Yw,Yx,Yy,Yz,X0,X1,X2,X3,X4,X5,X6,X7,X8,X9,Xa,Xb,Xc,Xd,Xe,Xf,Xg,Xh,Xi,Xj,Xk,Xl,Xm,Xn,Xo,Xp,Xq,Value.oneCell',Xr,Xs,Xt,Xu,true_and,and_true,and_self,implies_true,Xv,Xw,Xx,Xy,false_implies,Xz,W0,W1,W2,W3,W4,W5,W6,W7,W8,W9,Wa,Wb,Wc,Wd,We,Wf,reduceCtorEq,if_true,if_false,Wg,↓reduceIte,Wh,Wi,Wj,Wk,Wl,Wm,ne_eq,not_false_eq_true,not_true_eq_false,Wn,Wo,r73_0,r73_1,r73_2,r73_3,r73_4,r73_5,r73_6,r73_7,r73_8,r73_9,r73_10,r73_11,r73_12,r73_13,r73_14,r73_15,r73_16,r73_17,r73_18,r73_19,r73_20,r73_21,p73,l73_0,gK,n1,hso,List.length_map]) | (exfalso; omega)
  · have hke : k = B.length := by omega
    subst hke
    rw [List.drop_length, fstGo] at hg
    subst hg
    clear hJ
    repeat' first | ((with_reducible (first | refine condD ?_ ?_ | refine condE ?_ ?_ | refine condN ?_ ?_ | refine condI ?_ ?_ | refine condS ?_ ?_)) <;> intro h) | ((with_reducible (first | refine guardD (by with_unfolding_all rfl) ?_ ?_ | refine guardE (by with_unfolding_all rfl) ?_ ?_ | refine guardN (by with_unfolding_all rfl) ?_ ?_ | refine guardI (by with_unfolding_all rfl) ?_ ?_ | refine guardS (by with_unfolding_all rfl) ?_ ?_)) <;> intro h) | (with_reducible refine And.intro ?_ ?_; omega) | (simp only [Z0,Z1,Z2,Z3,Z4,Z5,Z6,Z7,Z8,Z9,Za,Zb,Zc,Zd,Ze,Zf,List.cons.injEq,Zg,Zh,Zi,Zj,Zk,Zl,Zm,Zn,Zo,Zp,beq_self_eq_true,bne_self_eq_false,decide_true,decide_false,Zq,Zr,Zs,Zt,Zu,Zv,Zw,Zx,Zy,Zz,Y0,Y1,Y2,Y3,Y4,Y5,Y6,x_c,x_o,x_l,x_b,g_b,Y7,Y8,Y9,Ya,Yb,Yc,lk,ef,Yd,Ye,Yf,Yg,Yh,Yi,Yj,Yk,Yl,Ym,Yn,Yo,Yp,Yq,Yr,Ys,hv,Yt,ev,Yu,Yv,Yw,Yx,Yy,Yz,X0,X1,X2,X3,X4,X5,X6,X7,X8,X9,Xa,Xb,Xc,Xd,Xe,Xf,Xg,Xh,Xi,Xj,Xk,Xl,Xm,Xn,Xo,Xp,Xq,Value.oneCell',Xr,Xs,Xt,Xu,true_and,and_true,and_self,implies_true,Xv,Xw,Xx,Xy,false_implies,Xz,W0,W1,W2,W3,W4,W5,W6,W7,W8,W9,Wa,Wb,Wc,Wd,We,Wf,reduceCtorEq,if_true,if_false,Wg,↓reduceIte,Wh,Wi,Wj,Wk,Wl,Wm,ne_eq,not_false_eq_true,not_true_eq_false,Wn,Wo,r73_0,r73_1,r73_2,r73_3,r73_4,r73_5,r73_6,r73_7,r73_8,r73_9,r73_10,r73_11,r73_12,r73_13,r73_14,r73_15,r73_16,r73_17,r73_18,r73_19,r73_20,r73_21,p73,l73_0]) | (exfalso; omega)
end Go.Proofs.Ytpecmhdepggnoaa
