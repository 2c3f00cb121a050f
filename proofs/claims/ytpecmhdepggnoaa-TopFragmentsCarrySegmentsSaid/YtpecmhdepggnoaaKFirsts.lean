/- First samples of segments: cut.find, lastBefore, bytesOf, firsts, by the machine on data. -/
import Derived.Test.YtpecmhdepggnoaaKFind
import Derived.Test.YtpecmhdepggnoaaKScl
import Derived.Test.YtpecmhdepggnoaaKMoved
import Derived.Test.YtpecmhdepggnoaaKNeed
namespace Go.Proofs.Ytpecmhdepggnoaa
open Go.RowKit
open Go.Proofs.Ytpecmhdepggnoaa renaming done_eq → Z0, done_eq' → Z1, donet_eq → Z2, donet_eq' → Z3, fin_val → Z4, fin_tup → Z5, fin_agg → Z6, fin_ro → Z7, res_one → Z8, res_more → Z9, rv_t → Za, rv_c → Zb, rv_l → Zc, int_eq → Zg, bool_eq → Zh, toNat_pred → Zr, toNat_succ → Zs, cnd_t → Zu, cnd_f → Zv, grd_tt → Zw, grd_u → Zx, grd_tf → Zy, grd_ft → Zz, grd_ff → Y0, g_skip → Y1, g_ops → Y2, g_seq → Y3, g_block → Y4, g_exit → Y5, g_ret → Y6, g_nil → Y7, r_all → Y8, o_nil → Y9, g_cond → Ya, o_guard → Yb, o_call → Yc, o_mv → Yd, o_bin → Ye, o_load → Yf, o_loads → Yg, o_idx → Yh, o_len → Yi, o_alloc → Yj, o_asg → Yk, o_stores → Yl, eqAV → Ym, view_t → Yn, view_c → Yo, view_nil → Yp, view_fn → Yq, look_own → Yr, look_box → Ys, look_junk → Yt, look_val → Yu, look_nilsl → Yv, look_ro → Yw, look_roAt → Yx, look_agg → Yy, look_tup → Yz, look_clo → X0, look_alias → X1, look_ref → X2, look_into → X3, rowOf → X4, cellsOf → X5, argv → X6, vbin → X7, vun → X8, bnd → X9, elemOf → Xa, putParts → Xb, setAt → Xc, zav → Xd, put_at → Xk, mk_at → Xl, mk_nil → Xm, initSt → Xn, wk_cons → Wi, wk_nil → Wj, vint_eq → Wk, vbool_eq → Wl
open Go.Proofs.Ytpecmhdepggnoaa.AV.tup renaming injEq → Zd
open Go.Proofs.Ytpecmhdepggnoaa.AV.agg renaming injEq → Ze
open Go.Proofs.Ytpecmhdepggnoaa.AV.ro renaming injEq → Zf
open _root_.Int renaming toNat_natCast → Zi, reduceToNat → Zj, toNat_zero → Zk, toNat_one → Zl, reduceLE → Zm, reduceLT → Zn, reduceBEq → Zo, reduceBNe → Zp, reduceNeg → Zq
open _root_.List renaming length_map → Zt, map_cons → Xo, map_nil → Xp, forall_mem_cons → Xq, not_mem_nil → Xr, length_cons → Xs, length_nil → Xt, getD_cons_zero → Xu, getD_cons_succ → Xv, getD_nil → Xw, drop_succ_cons → Xx, drop_zero → Xy, take_succ_cons → Xz, take_zero → W0, set_cons_zero → W1, set_cons_succ → W2, all_cons → W3, all_nil → W4
open Go.Proofs.Ytpecmhdepggnoaa.ASt renaming rid → Xe, free → Xf
open Go.Proofs.Ytpecmhdepggnoaa.AV renaming kill → Xg, isHome → Xh, noLoan → Xi, cellOK → Xj
open _root_.Bool renaming and_true → W5, true_and → W6, not_true → W7, not_false → W8, false_eq_true → W9
open _root_.Nat renaming reduceEqDiff → Wa, reduceAdd → Wb, reduceSub → Wc, reduceMul → Wd, reduceLeDiff → We, reduceLT → Wf, one_ne_zero → Wg, zero_ne_one → Wh
open Go.Proofs.Ytpecmhdepggnoaa.AV.val renaming injEq → Wm
set_option linter.unusedSimpArgs false

def lastB (P : List Int) (own time scale : Int) : Nat → Nat
  | 0 => 0
  | i + 1 => if cmp3 (P.getD (i + 1) 0 * scale) (time * own) ≤ 0 then i + 1 else lastB P own time scale i
theorem lastB_le (P : List Int) (own time scale : Int) : ∀ i, lastB P own time scale i ≤ i
  | 0 => Nat.le_refl _
  | i + 1 => by
    rw [lastB]
    split
    · exact Nat.le_refl _
    · exact Nat.le_succ_of_le (lastB_le P own time scale i)
/-! headend/cut.lastBefore -/
def r92_0 : List POp := [⟨8, .asg (.c (.int .i64 0)), none⟩]
def r92_1 : List POp := [⟨10, .mv (.t 0), none⟩,
  ⟨11, .len (.t 10), none⟩,
  ⟨12, .bin .sub (.t 11) (.c (.int .i64 1)), none⟩,
  ⟨9, .asg (.t 12), none⟩]
def r92_2 : List POp := [⟨13, .mv (.t 9), none⟩,
  ⟨14, .bin .gtr (.t 13) (.c (.int .i64 0)), none⟩]
def r92_4 : List POp := [⟨17, .mv (.t 0), none⟩,
  ⟨18, .mv (.t 9), none⟩,
  ⟨19, .idx 1 (.t 17) (.t 18), none⟩,
  ⟨20, .load (.t 19), none⟩,
  ⟨21, .mv (.t 1), none⟩,
  ⟨22, .mv (.t 2), none⟩,
  ⟨23, .mv (.t 3), none⟩,
  ⟨24, .call 109 [.t 20, .t 21, .t 22, .t 23], none⟩,
  ⟨25, .bin .leq (.t 24) (.c (.int .i64 0)), none⟩]
def r92_5 : List POp := [⟨26, .mv (.t 9), none⟩,
  ⟨8, .asg (.t 26), none⟩]
def r92_3 : List POp := [⟨15, .mv (.t 9), none⟩,
  ⟨16, .bin .sub (.t 15) (.c (.int .i64 1)), none⟩,
  ⟨9, .asg (.t 16), none⟩]
def r92_6 : List POp := [⟨8, .asg (.c (.int .i64 0)), none⟩]
def l92_0 : PCode := .seq (.seq (.ops r92_2) (.cond (.t 14) (.skip) (.exit 0))) (.seq (.block 1 (.seq (.ops r92_4) (.cond (.t 25) (.seq (.ops r92_5) (.ret)) (.skip)))) (.ops r92_3))
def p92 : PCode := .seq (.ops r92_0) (.seq (.seq (.ops r92_1) (.block 0 (.loop l92_0))) (.seq (.ops r92_6) (.ret)))
theorem ok92 : okFunc Try.prog 92 [.t 8] 4 p92 = true := by kernel_rfl
theorem lastb_c (P : List Int) (own time scale : Int) (hl : P.length ≤ 1000000) (hp : 0 < P.length) (hb : ∀ p ∈ P, -9223372036854775808 ≤ p ∧ p ≤ 9223372036854775807) (ho : -9223372036854775808 ≤ own ∧ own ≤ 9223372036854775807) (ht : -9223372036854775808 ≤ time ∧ time ≤ 9223372036854775807) (hs : -9223372036854775808 ≤ scale ∧ scale ≤ 9223372036854775807) :
    CallOK Try.prog 92 [.ro (P.map oneI), .val (.int .i64 own), .val (.int .i64 time), .val (.int .i64 scale)] (.val (.int .i64 (lastB P own time scale (P.length - 1) : Nat))) := by
  refine call_of mixed ok92 rfl ?_
  obtain ⟨R, hR⟩ : ∃ R, lastB P own time scale (P.length - 1) = R := ⟨_, rfl⟩
  rw [hR]
  have hw0 := i_sub1 P.length hp (by omega)
  repeat' first | ((with_reducible (first | refine condD ?_ ?_ | refine condE ?_ ?_ | refine condN ?_ ?_ | refine condI ?_ ?_ | refine condS ?_ ?_)) <;> intro h) | (with_reducible refine And.intro ?_ ?_; omega) | (simp only [Z0,Z1,Z2,Z3,Z4,Z5,Z6,Z7,Z8,Z9,Za,Zb,Zc,Zd,Ze,Zf,List.cons.injEq,Zg,Zh,Zi,Zj,Zk,Zl,Zm,Zn,Zo,Zp,beq_self_eq_true,bne_self_eq_false,decide_true,decide_false,Zq,Zr,Zs,Zt,Zu,Zv,Zw,Zx,Zy,Zz,Y0,Y1,Y2,Y3,Y4,Y5,Y6,x_c,x_o,x_l,x_b,g_b,Y7,Y8,Y9,Ya,Yb,Yc,lk,ef,Yd,Ye,Yf,Yh,Yi,Yk,hv,Ym,ev,Yn,Yo,Yp,Yq,Yr,Ys,Yt,Yu,Yv,Yw,Yx,Yy,Yz,X0,X1,X2,X3,X4,X5,X6,X7,X8,X9,Xa,Xb,Xc,Xd,Xe,Xf,Xg,Xh,Xi,Xj,Value.oneCell',Xk,Xl,Xm,Xn,true_and,and_true,and_self,implies_true,Xo,Xp,Xq,Xr,false_implies,Xs,Xt,Xu,Xv,Xw,Xx,Xy,Xz,W0,W1,W2,W3,W4,W5,W6,W7,W8,reduceCtorEq,if_true,if_false,W9,↓reduceIte,Wa,Wb,Wc,Wd,We,Wf,ne_eq,not_false_eq_true,not_true_eq_false,Wg,Wh,r92_0,r92_1,r92_2,r92_4,r92_5,r92_3,r92_6,p92,hw0,List.length_map]) | (exfalso; omega)
  refine loopS (fun k : Nat => mk [(0, .ro (P.map oneI)), (1, .val (.int .i64 own)), (2, .val (.int .i64 time)), (3, .val (.int .i64 scale)), (9, .val (.int .i64 k))]) (fun k => k ≤ P.length - 1 ∧ lastB P own time scale k = R) (fun k => k) (P.length - 1) (weak_mk ?_) ⟨Nat.le_refl _, hR⟩ ?_
  · simp only [Wi,Wj,wk1,Wk,Wl,Wm,Z4,Z5,Z6,Z7,Z8,Z9,Za,Zb,Zc,Zd,Ze,Zf,List.cons.injEq,Zg,Zh,Zi,Zj,Zk,Zl,Zm,Zn,Zo,Zp,beq_self_eq_true,bne_self_eq_false,decide_true,decide_false,Zq,Zr,Zs,Zt,Zu,Zv,Zw,Zx,Zy,Zz,Y0,hv,Ym,ev,Yn,Yo,Yp,Yq,Yr,Ys,Yt,Yu,Yv,Yw,Yx,Yy,Yz,X0,X1,X2,X3,X4,X5,X6,X7,X8,X9,Xa,Xb,Xc,Xd,Xe,Xf,Xg,Xh,Xi,Xj,Value.oneCell',Xk,Xl,Xm,Xn,true_and,and_true,and_self,implies_true,Xo,Xp,Xq,Xr,false_implies,Xs,Xt,Xu,Xv,Xw,Xx,Xy,Xz,W0,W1,W2,W3,W4,W5,W6,W7,W8,reduceCtorEq,if_true,if_false,W9,↓reduceIte,Wa,Wb,Wc,Wd,We,Wf,ne_eq,not_false_eq_true,not_true_eq_false,Wg,Nat.zero_ne_one]
  rintro J hJ k ⟨hk, hg⟩
  simp only [Z0,Z1,Z2,Z3,Z4,Z5,Z6,Z7,Z8,Z9,Za,Zb,Zc,Zd,Ze,Zf,List.cons.injEq,Zg,Zh,Zi,Zj,Zk,Zl,Zm,Zn,Zo,Zp,beq_self_eq_true,bne_self_eq_false,decide_true,decide_false,Zq,Zr,Zs,Zt,Zu,Zv,Zw,Zx,Zy,Zz,Y0,Y1,Y2,Y3,Y4,Y5,Y6,x_c,x_o,x_l,x_b,g_b,Y7,Y8,Y9,Ya,Yb,Yc,lk,ef,Yd,Ye,Yf,Yh,Yi,Yk,hv,Ym,ev,Yn,Yo,Yp,Yq,Yr,Ys,Yt,Yu,Yv,Yw,Yx,Yy,Yz,X0,X1,X2,X3,X4,X5,X6,X7,X8,X9,Xa,Xb,Xc,Xd,Xe,Xf,Xg,Xh,Xi,Xj,Value.oneCell',Xk,Xl,Xm,Xn,true_and,and_true,and_self,implies_true,Xo,Xp,Xq,Xr,false_implies,Xs,Xt,Xu,Xv,Xw,Xx,Xy,Xz,W0,W1,W2,W3,W4,W5,W6,W7,W8,reduceCtorEq,if_true,if_false,W9,↓reduceIte,Wa,Wb,Wc,Wd,We,Wf,ne_eq,not_false_eq_true,not_true_eq_false,Wg,Wh,r92_0,r92_1,r92_2,r92_4,r92_5,r92_3,r92_6,p92,l92_0]
  refine condD (fun h => ?_) (fun h => ?_)
  · obtain ⟨j, rfl⟩ : ∃ j, k = j + 1 := ⟨k - 1, by omega⟩
    have hlt : j + 1 < P.length := by omega
    have hw := i_sub1 (j + 1) (by omega) (by omega)
    rw [Nat.add_sub_cancel] at hw
    have gK := getD_map (f := oneI) (d := []) hlt
    simp only [oneI] at gK
    have hc := wc_c P[j + 1] own time scale (hb _ (List.getElem_mem hlt)).1 (hb _ (List.getElem_mem hlt)).2 ho.1 ho.2 ht.1 ht.2 hs.1 hs.2
    rw [lastB, List.getD_eq_getElem?_getD, List.getElem?_eq_getElem hlt, Option.getD_some] at hg
    by_cases hz : cmp3 (P[j + 1] * scale) (time * own) ≤ 0
    · rw [if_pos hz] at hg
      subst hg
      repeat' first | ((with_reducible (first | refine condD ?_ ?_ | refine condE ?_ ?_ | refine condN ?_ ?_ | refine condI ?_ ?_ | refine condS ?_ ?_)) <;> intro h) | ((refine callG hc ?_)) | (with_reducible refine And.intro ?_ ?_; omega) | (simp only [Z0,Z1,Z2,Z3,Z4,Z5,Z6,Z7,Z8,Z9,Za,Zb,Zc,Zd,Ze,Zf,List.cons.injEq,Zg,Zh,Zi,Zj,Zk,Zl,Zm,Zn,Zo,Zp,beq_self_eq_true,bne_self_eq_false,decide_true,decide_false,Zq,Zr,Zs,Zt,Zu,Zv,Zw,Zx,Zy,Zz,Y0,Y1,Y2,Y3,Y4,Y5,Y6,x_c,x_o,x_l,x_b,g_b,Y7,Y8,Y9,Ya,Yb,Yc,lk,ef,Yd,Ye,Yf,Yh,Yi,Yk,hv,Ym,ev,Yn,Yo,Yp,Yq,Yr,Ys,Yt,Yu,Yv,Yw,Yx,Yy,Yz,X0,X1,X2,X3,X4,X5,X6,X7,X8,X9,Xa,Xb,Xc,Xd,Xe,Xf,Xg,Xh,Xi,Xj,Value.oneCell',Xk,Xl,Xm,Xn,true_and,and_true,and_self,implies_true,Xo,Xp,Xq,Xr,false_implies,Xs,Xt,Xu,Xv,Xw,Xx,Xy,Xz,W0,W1,W2,W3,W4,W5,W6,W7,W8,reduceCtorEq,if_true,if_false,W9,↓reduceIte,Wa,Wb,Wc,Wd,We,Wf,ne_eq,not_false_eq_true,not_true_eq_false,Wg,Wh,r92_0,r92_1,r92_2,r92_4,r92_5,r92_3,r92_6,p92,l92_0,gK,hz,List.length_map]) | (exfalso; omega)
    · rw [if_neg hz] at hg
      repeat' first | ((with_reducible (first | refine condD ?_ ?_ | refine condE ?_ ?_ | refine condN ?_ ?_ | refine condI ?_ ?_ | refine condS ?_ ?_)) <;> intro h) | ((refine callG hc ?_)) | (with_reducible refine And.intro ?_ ?_; omega) | (simp only [Z0,Z1,Z2,Z3,Z4,Z5,Z6,Z7,Z8,Z9,Za,Zb,Zc,Zd,Ze,Zf,List.cons.injEq,Zg,Zh,Zi,Zj,Zk,Zl,Zm,Zn,Zo,Zp,beq_self_eq_true,bne_self_eq_false,decide_true,decide_false,Zq,Zr,Zs,Zt,Zu,Zv,Zw,Zx,Zy,Zz,Y0,Y1,Y2,Y3,Y4,Y5,Y6,x_c,x_o,x_l,x_b,g_b,Y7,Y8,Y9,Ya,Yb,Yc,lk,ef,Yd,Ye,Yf,Yh,Yi,Yk,hv,Ym,ev,Yn,Yo,Yp,Yq,Yr,Ys,Yt,Yu,Yv,Yw,Yx,Yy,Yz,X0,X1,X2,X3,X4,X5,X6,X7,X8,X9,Xa,Xb,Xc,Xd,Xe,Xf,Xg,Xh,Xi,Xj,Value.oneCell',Xk,Xl,Xm,Xn,true_and,and_true,and_self,implies_true,Xo,Xp,Xq,Xr,false_implies,Xs,Xt,Xu,Xv,Xw,Xx,Xy,Xz,W0,W1,W2,W3,W4,W5,W6,W7,W8,reduceCtorEq,if_true,if_false,W9,↓reduceIte,Wa,Wb,Wc,Wd,We,Wf,ne_eq,not_false_eq_true,not_true_eq_false,Wg,Wh,r92_0,r92_1,r92_2,r92_4,r92_5,r92_3,r92_6,p92,l92_0,gK,hz,hw,List.length_map]) | (exfalso; omega)
      all_goals exact again hJ j (weak_mk (by simp only [Wi,Wj,wk1,Wk,Wl,Wm,Z4,Z5,Z6,Z7,Z8,Z9,Za,Zb,Zc,Zd,Ze,Zf,List.cons.injEq,Zg,Zh,Zi,Zj,Zk,Zl,Zm,Zn,Zo,Zp,beq_self_eq_true,bne_self_eq_false,decide_true,decide_false,Zq,Zr,Zs,Zt,Zu,Zv,Zw,Zx,Zy,Zz,Y0,hv,Ym,ev,Yn,Yo,Yp,Yq,Yr,Ys,Yt,Yu,Yv,Yw,Yx,Yy,Yz,X0,X1,X2,X3,X4,X5,X6,X7,X8,X9,Xa,Xb,Xc,Xd,Xe,Xf,Xg,Xh,Xi,Xj,Value.oneCell',Xk,Xl,Xm,Xn,true_and,and_true,and_self,implies_true,Xo,Xp,Xq,Xr,false_implies,Xs,Xt,Xu,Xv,Xw,Xx,Xy,Xz,W0,W1,W2,W3,W4,W5,W6,W7,W8,reduceCtorEq,if_true,if_false,W9,↓reduceIte,Wa,Wb,Wc,Wd,We,Wf,ne_eq,not_false_eq_true,not_true_eq_false,Wg,Nat.zero_ne_one])) ⟨by omega, hg⟩ (by omega)
  · have hke : k = 0 := by omega
    subst hke
    simp only [lastB] at hg
    subst hg
    clear hJ
    repeat' first | ((with_reducible (first | refine condD ?_ ?_ | refine condE ?_ ?_ | refine condN ?_ ?_ | refine condI ?_ ?_ | refine condS ?_ ?_)) <;> intro h) | (with_reducible refine And.intro ?_ ?_; omega) | (simp only [Z0,Z1,Z2,Z3,Z4,Z5,Z6,Z7,Z8,Z9,Za,Zb,Zc,Zd,Ze,Zf,List.cons.injEq,Zg,Zh,Zi,Zj,Zk,Zl,Zm,Zn,Zo,Zp,beq_self_eq_true,bne_self_eq_false,decide_true,decide_false,Zq,Zr,Zs,Zt,Zu,Zv,Zw,Zx,Zy,Zz,Y0,Y1,Y2,Y3,Y4,Y5,Y6,x_c,x_o,x_l,x_b,g_b,Y7,Y8,Y9,Ya,Yb,Yc,lk,ef,Yd,Ye,Yf,Yh,Yi,Yk,hv,Ym,ev,Yn,Yo,Yp,Yq,Yr,Ys,Yt,Yu,Yv,Yw,Yx,Yy,Yz,X0,X1,X2,X3,X4,X5,X6,X7,X8,X9,Xa,Xb,Xc,Xd,Xe,Xf,Xg,Xh,Xi,Xj,Value.oneCell',Xk,Xl,Xm,Xn,true_and,and_true,and_self,implies_true,Xo,Xp,Xq,Xr,false_implies,Xs,Xt,Xu,Xv,Xw,Xx,Xy,Xz,W0,W1,W2,W3,W4,W5,W6,W7,W8,reduceCtorEq,if_true,if_false,W9,↓reduceIte,Wa,Wb,Wc,Wd,We,Wf,ne_eq,not_false_eq_true,not_true_eq_false,Wg,Wh,r92_0,r92_1,r92_2,r92_4,r92_5,r92_3,r92_6,p92,l92_0]) | (exfalso; omega)
    all_goals rfl
def bytesF : List Smp → Int → Int
  | [], a => a
  | s :: r, a => bytesF r (IntKind.i64.wrap (a + s.size))
/-! headend/cut.bytesOf -/
def r75_0 : List POp := [⟨2, .asg (.c (.int .i64 0)), none⟩]
def r75_1 : List POp := [⟨3, .asg (.c (.int .i64 0)), none⟩]
def r75_2 : List POp := [⟨6, .mv (.t 0), none⟩,
  ⟨7, .len (.t 6), none⟩,
  ⟨8, .mv (.c (.int .i64 0)), none⟩]
def r75_3 : List POp := [⟨9, .bin .lss (.t 8) (.t 7), none⟩]
def r75_4 : List POp := [⟨10, .idx 5 (.t 6) (.t 8), none⟩,
  ⟨11, .loads 5 (.t 10), none⟩,
  ⟨5, .alloc [.int .i64 0, .int .i64 0, .int .i64 0, .int .i64 0, .bool false], none⟩,
  ⟨0, .stores 5 (.t 5) (.t 11), none⟩]
def r75_5 : List POp := [⟨12, .mv (.t 3), none⟩,
  ⟨13, .fld 3 (.t 5), none⟩,
  ⟨14, .load (.t 13), none⟩,
  ⟨15, .bin .add (.t 12) (.t 14), none⟩,
  ⟨3, .asg (.t 15), none⟩]
def r75_6 : List POp := [⟨16, .bin .add (.t 8) (.c (.int .i64 1)), none⟩,
  ⟨8, .mv (.t 16), none⟩]
def r75_7 : List POp := [⟨17, .mv (.t 3), none⟩,
  ⟨2, .asg (.t 17), none⟩]
def l75_0 : PCode := .seq (.ops r75_3) (.seq (.cond (.t 9) (.skip) (.exit 0)) (.seq (.block 1 (.seq (.ops r75_4) (.ops r75_5))) (.ops r75_6)))
def p75 : PCode := .seq (.ops r75_0) (.seq (.ops r75_1) (.seq (.seq (.ops r75_2) (.block 0 (.loop l75_0))) (.seq (.ops r75_7) (.ret))))
theorem ok75 : okFunc Try.prog 75 [.t 2] 1 p75 = true := by kernel_rfl
theorem bytes_c (l : List Smp) (hl : l.length ≤ 9223372036854775807) : CallOK Try.prog 75 [.ro (l.map Smp.av)] (.val (.int .i64 (bytesF l 0))) := by
  refine call_of mixed ok75 rfl ?_
  obtain ⟨R, hR⟩ : ∃ R, bytesF l 0 = R := ⟨_, rfl⟩
  rw [hR]
  repeat' first | ((with_reducible (first | refine condD ?_ ?_ | refine condE ?_ ?_ | refine condN ?_ ?_ | refine condI ?_ ?_ | refine condS ?_ ?_)) <;> intro h) | (with_reducible refine And.intro ?_ ?_; omega) | (simp only [Z0,Z1,Z2,Z3,Z4,Z5,Z6,Z7,Z8,Z9,Za,Zb,Zc,Zd,Ze,Zf,List.cons.injEq,Zg,Zh,Zi,Zj,Zk,Zl,Zm,Zn,Zo,Zp,beq_self_eq_true,bne_self_eq_false,decide_true,decide_false,Zq,Zr,Zs,Zt,Zu,Zv,Zw,Zx,Zy,Zz,Y0,Y1,Y2,Y3,Y4,Y5,Y6,x_c,x_o,x_l,x_b,g_b,Y7,Y8,Y9,Ya,Yb,lk,ef,Yd,Ye,Yf,Yg,o_fld,Yh,Yi,Yj,Yk,Yl,hv,Ym,ev,Yn,Yo,Yp,Yq,Yr,Ys,Yt,Yu,Yv,Yw,Yx,Yy,Yz,X0,X1,X2,X3,X4,X5,X6,X7,X8,X9,Xa,Xb,Xc,Xd,Xe,Xf,Xg,Xh,Xi,Xj,Value.oneCell',Xk,Xl,Xm,Xn,true_and,and_true,and_self,implies_true,Xo,Xp,Xq,Xr,false_implies,Xs,Xt,Xu,Xv,Xw,Xx,Xy,Xz,W0,W1,W2,W3,W4,W5,W6,W7,W8,reduceCtorEq,if_true,if_false,W9,↓reduceIte,Wa,Wb,Wc,Wd,We,Wf,ne_eq,not_false_eq_true,not_true_eq_false,Wg,Wh,r75_0,r75_1,r75_2,r75_3,r75_4,r75_5,r75_6,r75_7,p75,List.length_map]) | (exfalso; omega)
  refine loopS (fun p : Nat × Int => mk [(3, .val (.int .i64 p.2)), (6, .ro (l.map Smp.av)), (7, .val (.int .i64 l.length)), (8, .val (.int .i64 p.1))]) (fun p => p.1 ≤ l.length ∧ bytesF (l.drop p.1) p.2 = R) (fun p => l.length - p.1) (0, 0) (weak_mk ?_) ⟨Nat.zero_le _, hR⟩ ?_
  · simp only [Wi,Wj,wk1,Wk,Wl,Wm,Z4,Z5,Z6,Z7,Z8,Z9,Za,Zb,Zc,Zd,Ze,Zf,List.cons.injEq,Zg,Zh,Zi,Zj,Zk,Zl,Zm,Zn,Zo,Zp,beq_self_eq_true,bne_self_eq_false,decide_true,decide_false,Zq,Zr,Zs,Zt,Zu,Zv,Zw,Zx,Zy,Zz,Y0,hv,Ym,ev,Yn,Yo,Yp,Yq,Yr,Ys,Yt,Yu,Yv,Yw,Yx,Yy,Yz,X0,X1,X2,X3,X4,X5,X6,X7,X8,X9,Xa,Xb,Xc,Xd,Xe,Xf,Xg,Xh,Xi,Xj,Value.oneCell',Xk,Xl,Xm,Xn,true_and,and_true,and_self,implies_true,Xo,Xp,Xq,Xr,false_implies,Xs,Xt,Xu,Xv,Xw,Xx,Xy,Xz,W0,W1,W2,W3,W4,W5,W6,W7,W8,reduceCtorEq,if_true,if_false,W9,↓reduceIte,Wa,Wb,Wc,Wd,We,Wf,ne_eq,not_false_eq_true,not_true_eq_false,Wg,Nat.zero_ne_one]
    simp
  rintro J hJ ⟨k, a⟩ ⟨hk, hg⟩
  simp only at hk hg
  simp only [Z0,Z1,Z2,Z3,Z4,Z5,Z6,Z7,Z8,Z9,Za,Zb,Zc,Zd,Ze,Zf,List.cons.injEq,Zg,Zh,Zi,Zj,Zk,Zl,Zm,Zn,Zo,Zp,beq_self_eq_true,bne_self_eq_false,decide_true,decide_false,Zq,Zr,Zs,Zt,Zu,Zv,Zw,Zx,Zy,Zz,Y0,Y1,Y2,Y3,Y4,Y5,Y6,x_c,x_o,x_l,x_b,g_b,Y7,Y8,Y9,Ya,Yb,lk,ef,Yd,Ye,Yf,Yg,o_fld,Yh,Yi,Yj,Yk,Yl,hv,Ym,ev,Yn,Yo,Yp,Yq,Yr,Ys,Yt,Yu,Yv,Yw,Yx,Yy,Yz,X0,X1,X2,X3,X4,X5,X6,X7,X8,X9,Xa,Xb,Xc,Xd,Xe,Xf,Xg,Xh,Xi,Xj,Value.oneCell',Xk,Xl,Xm,Xn,true_and,and_true,and_self,implies_true,Xo,Xp,Xq,Xr,false_implies,Xs,Xt,Xu,Xv,Xw,Xx,Xy,Xz,W0,W1,W2,W3,W4,W5,W6,W7,W8,reduceCtorEq,if_true,if_false,W9,↓reduceIte,Wa,Wb,Wc,Wd,We,Wf,ne_eq,not_false_eq_true,not_true_eq_false,Wg,Wh,r75_0,r75_1,r75_2,r75_3,r75_4,r75_5,r75_6,r75_7,p75,l75_0]
  refine condD (fun h => ?_) (fun h => ?_)
  · have hlt : k < l.length := by omega
    have hw := i_add1 k (by omega)
    have gK := getD_map (f := Smp.av) (d := []) hlt
    simp only [Smp.av] at gK
    rw [List.drop_eq_getElem_cons hlt, bytesF] at hg
    repeat' first | ((with_reducible (first | refine condD ?_ ?_ | refine condE ?_ ?_ | refine condN ?_ ?_ | refine condI ?_ ?_ | refine condS ?_ ?_)) <;> intro h) | (with_reducible refine And.intro ?_ ?_; omega) | (simp only [Z0,Z1,Z2,Z3,Z4,Z5,Z6,Z7,Z8,Z9,Za,Zb,Zc,Zd,Ze,Zf,List.cons.injEq,Zg,Zh,Zi,Zj,Zk,Zl,Zm,Zn,Zo,Zp,beq_self_eq_true,bne_self_eq_false,decide_true,decide_false,Zq,Zr,Zs,Zt,Zu,Zv,Zw,Zx,Zy,Zz,Y0,Y1,Y2,Y3,Y4,Y5,Y6,x_c,x_o,x_l,x_b,g_b,Y7,Y8,Y9,Ya,Yb,lk,ef,Yd,Ye,Yf,Yg,o_fld,Yh,Yi,Yj,Yk,Yl,hv,Ym,ev,Yn,Yo,Yp,Yq,Yr,Ys,Yt,Yu,Yv,Yw,Yx,Yy,Yz,X0,X1,X2,X3,X4,X5,X6,X7,X8,X9,Xa,Xb,Xc,Xd,Xe,Xf,Xg,Xh,Xi,Xj,Value.oneCell',Xk,Xl,Xm,Xn,true_and,and_true,and_self,implies_true,Xo,Xp,Xq,Xr,false_implies,Xs,Xt,Xu,Xv,Xw,Xx,Xy,Xz,W0,W1,W2,W3,W4,W5,W6,W7,W8,reduceCtorEq,if_true,if_false,W9,↓reduceIte,Wa,Wb,Wc,Wd,We,Wf,ne_eq,not_false_eq_true,not_true_eq_false,Wg,Wh,r75_0,r75_1,r75_2,r75_3,r75_4,r75_5,r75_6,r75_7,p75,l75_0,gK,List.length_map]) | (exfalso; omega)
    all_goals exact again hJ (k + 1, IntKind.i64.wrap (a + l[k].size)) (weak_mk (by simp only [Wi,Wj,wk1,Wk,Wl,Wm,Z4,Z5,Z6,Z7,Z8,Z9,Za,Zb,Zc,Zd,Ze,Zf,List.cons.injEq,Zg,Zh,Zi,Zj,Zk,Zl,Zm,Zn,Zo,Zp,beq_self_eq_true,bne_self_eq_false,decide_true,decide_false,Zq,Zr,Zs,Zt,Zu,Zv,Zw,Zx,Zy,Zz,Y0,hv,Ym,ev,Yn,Yo,Yp,Yq,Yr,Ys,Yt,Yu,Yv,Yw,Yx,Yy,Yz,X0,X1,X2,X3,X4,X5,X6,X7,X8,X9,Xa,Xb,Xc,Xd,Xe,Xf,Xg,Xh,Xi,Xj,Value.oneCell',Xk,Xl,Xm,Xn,true_and,and_true,and_self,implies_true,Xo,Xp,Xq,Xr,false_implies,Xs,Xt,Xu,Xv,Xw,Xx,Xy,Xz,W0,W1,W2,W3,W4,W5,W6,W7,W8,reduceCtorEq,if_true,if_false,W9,↓reduceIte,Wa,Wb,Wc,Wd,We,Wf,ne_eq,not_false_eq_true,not_true_eq_false,Wg,Nat.zero_ne_one]; exact hw)) ⟨by simp only; omega, hg⟩ (by simp only; omega)
  · have hke : k = l.length := by omega
    subst hke
    rw [List.drop_length, bytesF] at hg
    subst hg
    clear hJ
    repeat' first | ((with_reducible (first | refine condD ?_ ?_ | refine condE ?_ ?_ | refine condN ?_ ?_ | refine condI ?_ ?_ | refine condS ?_ ?_)) <;> intro h) | (with_reducible refine And.intro ?_ ?_; omega) | (simp only [Z0,Z1,Z2,Z3,Z4,Z5,Z6,Z7,Z8,Z9,Za,Zb,Zc,Zd,Ze,Zf,List.cons.injEq,Zg,Zh,Zi,Zj,Zk,Zl,Zm,Zn,Zo,Zp,beq_self_eq_true,bne_self_eq_false,decide_true,decide_false,Zq,Zr,Zs,Zt,Zu,Zv,Zw,Zx,Zy,Zz,Y0,Y1,Y2,Y3,Y4,Y5,Y6,x_c,x_o,x_l,x_b,g_b,Y7,Y8,Y9,Ya,Yb,lk,ef,Yd,Ye,Yf,Yg,o_fld,Yh,Yi,Yj,Yk,Yl,hv,Ym,ev,Yn,Yo,Yp,Yq,Yr,Ys,Yt,Yu,Yv,Yw,Yx,Yy,Yz,X0,X1,X2,X3,X4,X5,X6,X7,X8,X9,Xa,Xb,Xc,Xd,Xe,Xf,Xg,Xh,Xi,Xj,Value.oneCell',Xk,Xl,Xm,Xn,true_and,and_true,and_self,implies_true,Xo,Xp,Xq,Xr,false_implies,Xs,Xt,Xu,Xv,Xw,Xx,Xy,Xz,W0,W1,W2,W3,W4,W5,W6,W7,W8,reduceCtorEq,if_true,if_false,W9,↓reduceIte,Wa,Wb,Wc,Wd,We,Wf,ne_eq,not_false_eq_true,not_true_eq_false,Wg,Wh,r75_0,r75_1,r75_2,r75_3,r75_4,r75_5,r75_6,r75_7,p75,l75_0]) | (exfalso; omega)
end Go.Proofs.Ytpecmhdepggnoaa
