/- Places: cut.find, by the machine on data. -/
import Derived.Test.YtpecmhdepggnoaaKPlace
import Derived.Test.YtpecmhdepggnoaaKNat
namespace Go.Proofs.Ytpecmhdepggnoaa
open Go.RowKit
open Go.Proofs.Ytpecmhdepggnoaa renaming done_eq → Z0, done_eq' → Z1, donet_eq → Z2, donet_eq' → Z3, fin_val → Z4, fin_tup → Z5, fin_agg → Z6, fin_ro → Z7, res_one → Z8, res_more → Z9, rv_t → Za, rv_c → Zb, rv_l → Zc, int_eq → Zg, bool_eq → Zh, toNat_pred → Zr, toNat_succ → Zs, cnd_t → Zu, cnd_f → Zv, grd_tt → Zw, grd_u → Zx, grd_tf → Zy, grd_ft → Zz, grd_ff → Y0, g_skip → Y1, g_ops → Y2, g_seq → Y3, g_block → Y4, g_exit → Y5, g_ret → Y6, g_nil → Y7, r_all → Y8, o_nil → Y9, g_cond → Ya, o_guard → Yb, o_call → Yc, o_mv → Yd, o_pick → Ye, o_bin → Yf, o_load → Yg, o_loads → Yh, o_fld → Yi, o_idx → Yj, o_len → Yk, o_build → Yl, o_alloc → Ym, o_asg → Yn, o_stores → Yo, eqAV → Yp, view_t → Yq, view_c → Yr, view_nil → Ys, view_fn → Yt, look_own → Yu, look_box → Yv, look_junk → Yw, look_val → Yx, look_nilsl → Yy, look_ro → Yz, look_roAt → X0, look_agg → X1, look_tup → X2, look_clo → X3, look_alias → X4, look_ref → X5, look_into → X6, rowOf → X7, cellsOf → X8, argv → X9, vbin → Xa, elemOf → Xb, putParts → Xc, setAt → Xd, put_at → Xk, mk_at → Xl, mk_nil → Xm, initSt → Xn, wk_cons → Wi, vint_eq → Wj, vbool_eq → Wk
open Go.Proofs.Ytpecmhdepggnoaa.AV.tup renaming injEq → Zd
open Go.Proofs.Ytpecmhdepggnoaa.AV.agg renaming injEq → Ze
open Go.Proofs.Ytpecmhdepggnoaa.AV.ro renaming injEq → Zf
open _root_.Int renaming toNat_natCast → Zi, reduceToNat → Zj, toNat_zero → Zk, toNat_one → Zl, reduceLE → Zm, reduceLT → Zn, reduceBEq → Zo, reduceBNe → Zp, reduceNeg → Zq
open _root_.List renaming length_map → Zt, map_cons → Xo, map_nil → Xp, forall_mem_cons → Xq, not_mem_nil → Xr, length_cons → Xs, length_nil → Xt, getD_cons_zero → Xu, getD_cons_succ → Xv, getD_nil → Xw, drop_succ_cons → Xx, drop_zero → Xy, take_succ_cons → Xz, take_zero → W0, set_cons_zero → W1, set_cons_succ → W2, all_cons → W3, all_nil → W4
open Go.Proofs.Ytpecmhdepggnoaa.ASt renaming rid → Xe, free → Xf
open Go.Proofs.Ytpecmhdepggnoaa.AV renaming kill → Xg, isHome → Xh, noLoan → Xi, cellOK → Xj
open _root_.Bool renaming and_true → W5, true_and → W6, not_true → W7, not_false → W8, false_eq_true → W9
open _root_.Nat renaming reduceEqDiff → Wa, reduceAdd → Wb, reduceSub → Wc, reduceMul → Wd, reduceLeDiff → We, reduceLT → Wf, one_ne_zero → Wg, zero_ne_one → Wh
open Go.Proofs.Ytpecmhdepggnoaa.AV.val renaming injEq → Wl
set_option linter.unusedSimpArgs false

def cmpP (p : Int × Nat) (own time scale : Int) : Int := cmp3 (p.1 * scale) (time * own)
def bsGo (l : List (Int × Nat)) (own time scale : Int) : Nat → Nat → Nat → Nat
  | 0, low, _ => low
  | f + 1, low, high => if low < high then (if cmpP (l.getD ((low + high) / 2) (0, 0)) own time scale < 0 then bsGo l own time scale f ((low + high) / 2 + 1) high else bsGo l own time scale f low ((low + high) / 2)) else low
def bsL (l : List (Int × Nat)) (own time scale : Int) : Nat := bsGo l own time scale l.length 0 l.length
def findF (l : List (Int × Nat)) (own time scale : Int) : (Int × Nat) × Bool :=
  if bsL l own time scale = l.length then ((0, 0), false) else if cmpP (l.getD (bsL l own time scale) (0, 0)) own time scale ≠ 0 then ((0, 0), false) else (l.getD (bsL l own time scale) (0, 0), true)
theorem bsGo_le {l : List (Int × Nat)} {own time scale : Int} : ∀ {f low high : Nat}, low ≤ high → high ≤ l.length → bsGo l own time scale f low high ≤ l.length
  | 0, _, _, h1, h2 => Nat.le_trans h1 h2
  | f + 1, low, high, h1, h2 => by
    rw [bsGo]
    split
    · split
      · exact bsGo_le (by omega) h2
      · exact bsGo_le (by omega) (by omega)
    · omega
/-! headend/cut.find -/
def r93_0 : List POp := [⟨8, .alloc [.int .i64 0, .int .i64 0], none⟩,
  ⟨9, .asg (.c (.bool false)), none⟩]
def r93_1 : List POp := [⟨13, .mv (.t 0), none⟩,
  ⟨14, .len (.t 13), none⟩,
  ⟨10, .mv (.c (.int .i64 0)), none⟩,
  ⟨11, .mv (.t 14), none⟩]
def r93_2 : List POp := [⟨15, .mv (.t 10), none⟩,
  ⟨16, .mv (.t 11), none⟩,
  ⟨17, .bin .lss (.t 15) (.t 16), none⟩]
def r93_3 : List POp := [⟨18, .mv (.t 10), none⟩,
  ⟨19, .mv (.t 11), none⟩,
  ⟨20, .bin .add (.t 18) (.t 19), none⟩,
  ⟨21, .bin .quo (.t 20) (.c (.int .i64 2)), none⟩,
  ⟨12, .asg (.t 21), none⟩]
def r93_4 : List POp := [⟨22, .mv (.t 0), none⟩,
  ⟨23, .mv (.t 12), none⟩,
  ⟨24, .idx 2 (.t 22) (.t 23), none⟩,
  ⟨25, .fld 0 (.t 24), none⟩,
  ⟨26, .load (.t 25), none⟩,
  ⟨27, .mv (.t 1), none⟩,
  ⟨28, .mv (.t 2), none⟩,
  ⟨29, .mv (.t 3), none⟩,
  ⟨30, .call 109 [.t 26, .t 27, .t 28, .t 29], none⟩,
  ⟨31, .bin .lss (.t 30) (.c (.int .i64 0)), none⟩]
def r93_5 : List POp := [⟨32, .mv (.t 12), none⟩,
  ⟨33, .bin .add (.t 32) (.c (.int .i64 1)), none⟩,
  ⟨10, .asg (.t 33), none⟩]
def r93_6 : List POp := [⟨34, .mv (.t 12), none⟩,
  ⟨11, .asg (.t 34), none⟩]
def r93_7 : List POp := [⟨35, .mv (.t 10), none⟩,
  ⟨36, .mv (.t 0), none⟩,
  ⟨37, .len (.t 36), none⟩,
  ⟨38, .bin .eql (.t 35) (.t 37), none⟩,
  ⟨39, .mv (.t 38), none⟩,
  ⟨40, .mv (.t 0), some (39, false)⟩,
  ⟨41, .mv (.t 10), some (39, false)⟩,
  ⟨42, .idx 2 (.t 40) (.t 41), some (39, false)⟩,
  ⟨43, .fld 0 (.t 42), some (39, false)⟩,
  ⟨44, .load (.t 43), some (39, false)⟩,
  ⟨45, .mv (.t 1), some (39, false)⟩,
  ⟨46, .mv (.t 2), some (39, false)⟩,
  ⟨47, .mv (.t 3), some (39, false)⟩,
  ⟨48, .call 109 [.t 44, .t 45, .t 46, .t 47], some (39, false)⟩,
  ⟨49, .bin .neq (.t 48) (.c (.int .i64 0)), some (39, false)⟩,
  ⟨50, .pick (.t 39) (.c (.bool true)) (.t 49), none⟩]
def r93_8 : List POp := [⟨51, .build [.int .i64 0, .int .i64 0] [], none⟩,
  ⟨0, .stores 2 (.t 8) (.t 51), none⟩,
  ⟨9, .asg (.c (.bool false)), none⟩]
def r93_9 : List POp := [⟨52, .mv (.t 0), none⟩,
  ⟨53, .mv (.t 10), none⟩,
  ⟨54, .idx 2 (.t 52) (.t 53), none⟩,
  ⟨55, .loads 2 (.t 54), none⟩,
  ⟨0, .stores 2 (.t 8) (.t 55), none⟩,
  ⟨9, .asg (.c (.bool true)), none⟩]
def l93_0 : PCode := .seq (.seq (.ops r93_2) (.cond (.t 17) (.skip) (.exit 0))) (.block 1 (.seq (.ops r93_3) (.seq (.ops r93_4) (.cond (.t 31) (.ops r93_5) (.ops r93_6)))))
def p93 : PCode := .seq (.ops r93_0) (.seq (.ops r93_1) (.seq (.block 0 (.loop l93_0)) (.seq (.seq (.ops r93_7) (.cond (.t 50) (.seq (.ops r93_8) (.ret)) (.skip))) (.seq (.ops r93_9) (.ret)))))
theorem ok93 : okFunc Try.prog 93 [.c 8 2, .t 9] 4 p93 = true := by kernel_rfl
set_option maxHeartbeats 1000000 in
theorem find_c (l : List (Int × Nat)) (own time scale : Int) (hl : l.length ≤ 1000000) (hb : ∀ p ∈ l, -9223372036854775808 ≤ p.1 ∧ p.1 ≤ 9223372036854775807) (ho : -9223372036854775808 ≤ own ∧ own ≤ 9223372036854775807) (ht : -9223372036854775808 ≤ time ∧ time ≤ 9223372036854775807) (hs : -9223372036854775808 ≤ scale ∧ scale ≤ 9223372036854775807) :
    CallOK Try.prog 93 [.ro (l.map plAV), .val (.int .i64 own), .val (.int .i64 time), .val (.int .i64 scale)] (.tup [.agg (plAV (findF l own time scale).1), .val (.bool (findF l own time scale).2)]) := by
  refine call_of mixed ok93 rfl ?_
  have hcmp : ∀ k (h : k < l.length), CallOK Try.prog 109 [.val (.int .i64 l[k].1), .val (.int .i64 own), .val (.int .i64 time), .val (.int .i64 scale)] (.val (.int .i64 (cmpP l[k] own time scale))) := fun k h =>
    wc_c _ _ _ _ (hb _ (List.getElem_mem h)).1 (hb _ (List.getElem_mem h)).2 ho.1 ho.2 ht.1 ht.2 hs.1 hs.2
  obtain ⟨F, hF⟩ : ∃ F, F = findF l own time scale := ⟨_, rfl⟩
  rw [← hF]
  have hR : bsGo l own time scale l.length 0 l.length = bsL l own time scale := rfl
  have hRl : bsL l own time scale ≤ l.length := bsGo_le (Nat.zero_le _) (Nat.le_refl _)
  unfold findF at hF
  generalize bsL l own time scale = R at *
  repeat' first | ((with_reducible (first | refine condD ?_ ?_ | refine condE ?_ ?_ | refine condN ?_ ?_ | refine condI ?_ ?_ | refine condS ?_ ?_)) <;> intro h) | ((with_reducible (first | refine guardD (by with_unfolding_all rfl) ?_ ?_ | refine guardE (by with_unfolding_all rfl) ?_ ?_ | refine guardN (by with_unfolding_all rfl) ?_ ?_ | refine guardI (by with_unfolding_all rfl) ?_ ?_ | refine guardS (by with_unfolding_all rfl) ?_ ?_)) <;> intro h) | (with_reducible refine And.intro ?_ ?_; omega) | (simp only [Z0,Z1,Z2,Z3,Z4,Z5,Z6,Z7,Z8,Z9,Za,Zb,Zc,Zd,Ze,Zf,List.cons.injEq,Zg,Zh,Zi,Zj,Zk,Zl,Zm,Zn,Zo,Zp,beq_self_eq_true,bne_self_eq_false,decide_true,decide_false,Zq,Zr,Zs,Zt,Zu,Zv,Zw,Zx,Zy,Zz,Y0,Y1,Y2,Y3,Y4,Y5,Y6,x_c,x_o,x_l,x_b,g_b,Y7,Y8,Y9,Ya,Yb,Yc,lk,ef,Yd,Ye,Yf,Yg,Yh,Yi,Yj,Yk,Yl,Ym,Yn,Yo,hv,Yp,ev,Yq,Yr,Ys,Yt,Yu,Yv,Yw,Yx,Yy,Yz,X0,X1,X2,X3,X4,X5,X6,X7,X8,X9,Xa,vun,bnd,Xb,Xc,Xd,zav,Xe,Xf,Xg,Xh,Xi,Xj,Value.oneCell',Xk,Xl,Xm,Xn,true_and,and_true,and_self,implies_true,Xo,Xp,Xq,Xr,false_implies,Xs,Xt,Xu,Xv,Xw,Xx,Xy,Xz,W0,W1,W2,W3,W4,W5,W6,W7,W8,reduceCtorEq,if_true,if_false,W9,↓reduceIte,Wa,Wb,Wc,Wd,We,Wf,ne_eq,not_false_eq_true,not_true_eq_false,Wg,Wh,r93_0,r93_1,r93_2,r93_3,r93_4,r93_5,r93_6,r93_7,r93_8,r93_9,p93,List.length_map]) | (exfalso; omega)
  refine loopS (fun p : Nat × Nat × Nat => mk [(0, .ro (l.map plAV)), (1, .val (.int .i64 own)), (2, .val (.int .i64 time)), (3, .val (.int .i64 scale)), (8, .box [.val (.int .i64 0), .val (.int .i64 0)]), (10, .val (.int .i64 p.2.1)), (11, .val (.int .i64 p.2.2))])
    (fun p => p.2.1 ≤ p.2.2 ∧ p.2.2 ≤ l.length ∧ p.2.2 - p.2.1 ≤ p.1 ∧ bsGo l own time scale p.1 p.2.1 p.2.2 = R) (fun p => p.1) (l.length, 0, l.length) (weak_mk ?_) ⟨Nat.zero_le _, Nat.le_refl _, Nat.le_refl _, hR⟩ ?_
  · simp only [Wi,wk_nil,wk1,Wj,Wk,Wl,Z4,Z5,Z6,Z7,Z8,Z9,Za,Zb,Zc,Zd,Ze,Zf,List.cons.injEq,Zg,Zh,Zi,Zj,Zk,Zl,Zm,Zn,Zo,Zp,beq_self_eq_true,bne_self_eq_false,decide_true,decide_false,Zq,Zr,Zs,Zt,Zu,Zv,Zw,Zx,Zy,Zz,Y0,hv,Yp,ev,Yq,Yr,Ys,Yt,Yu,Yv,Yw,Yx,Yy,Yz,X0,X1,X2,X3,X4,X5,X6,X7,X8,X9,Xa,vun,bnd,Xb,Xc,Xd,zav,Xe,Xf,Xg,Xh,Xi,Xj,Value.oneCell',Xk,Xl,Xm,Xn,true_and,and_true,and_self,implies_true,Xo,Xp,Xq,Xr,false_implies,Xs,Xt,Xu,Xv,Xw,Xx,Xy,Xz,W0,W1,W2,W3,W4,W5,W6,W7,W8,reduceCtorEq,if_true,if_false,W9,↓reduceIte,Wa,Wb,Wc,Wd,We,Wf,ne_eq,not_false_eq_true,not_true_eq_false,Wg,Nat.zero_ne_one]
    simp
  rintro J hJ ⟨f, low, high⟩ ⟨h1, h2, h3, hg⟩
  simp only at h1 h2 h3 hg
  simp only [Z0,Z1,Z2,Z3,Z4,Z5,Z6,Z7,Z8,Z9,Za,Zb,Zc,Zd,Ze,Zf,List.cons.injEq,Zg,Zh,Zi,Zj,Zk,Zl,Zm,Zn,Zo,Zp,beq_self_eq_true,bne_self_eq_false,decide_true,decide_false,Zq,Zr,Zs,Zt,Zu,Zv,Zw,Zx,Zy,Zz,Y0,Y1,Y2,Y3,Y4,Y5,Y6,x_c,x_o,x_l,x_b,g_b,Y7,Y8,Y9,Ya,Yb,Yc,lk,ef,Yd,Ye,Yf,Yg,Yh,Yi,Yj,Yk,Yl,Ym,Yn,Yo,hv,Yp,ev,Yq,Yr,Ys,Yt,Yu,Yv,Yw,Yx,Yy,Yz,X0,X1,X2,X3,X4,X5,X6,X7,X8,X9,Xa,vun,bnd,Xb,Xc,Xd,zav,Xe,Xf,Xg,Xh,Xi,Xj,Value.oneCell',Xk,Xl,Xm,Xn,true_and,and_true,and_self,implies_true,Xo,Xp,Xq,Xr,false_implies,Xs,Xt,Xu,Xv,Xw,Xx,Xy,Xz,W0,W1,W2,W3,W4,W5,W6,W7,W8,reduceCtorEq,if_true,if_false,W9,↓reduceIte,Wa,Wb,Wc,Wd,We,Wf,ne_eq,not_false_eq_true,not_true_eq_false,Wg,Wh,r93_0,r93_1,r93_2,r93_3,r93_4,r93_5,r93_6,r93_7,r93_8,r93_9,p93,l93_0]
  refine condD (fun h => ?_) (fun h => ?_)
  · have hlt : low < high := by omega
    obtain ⟨f, rfl⟩ : ∃ g, f = g + 1 := ⟨f - 1, by omega⟩
    have hm : (low + high) / 2 < l.length := by omega
    have hw1 : IntKind.i64.wrap ((low : Int) + high) = ((low + high : Nat) : Int) := by rw [wrap_in (by omega) (by omega)]; omega
    have hw2 : IntKind.i64.wrap (((low + high : Nat) : Int).tdiv 2) = (((low + high) / 2 : Nat) : Int) := i_quo (low + high) 2 (by omega)
    have hw3 := i_add1 ((low + high) / 2) (by omega)
    have gM := getD_map (f := plAV) (d := []) hm
    simp only [plAV] at gM
    have hc := hcmp _ hm
    rw [bsGo, if_pos hlt, List.getD_eq_getElem?_getD, List.getElem?_eq_getElem hm, Option.getD_some] at hg
    have hmid : (low + high) / 2 < high := by omega
    have hmid2 : low ≤ (low + high) / 2 := by omega
    generalize (low + high) / 2 = m at *
    by_cases hz : cmpP l[m] own time scale < 0
    · rw [if_pos hz] at hg
      repeat' first | ((with_reducible (first | refine condD ?_ ?_ | refine condE ?_ ?_ | refine condN ?_ ?_ | refine condI ?_ ?_ | refine condS ?_ ?_)) <;> intro h) | ((with_reducible (first | refine guardD (by with_unfolding_all rfl) ?_ ?_ | refine guardE (by with_unfolding_all rfl) ?_ ?_ | refine guardN (by with_unfolding_all rfl) ?_ ?_ | refine guardI (by with_unfolding_all rfl) ?_ ?_ | refine guardS (by with_unfolding_all rfl) ?_ ?_)) <;> intro h) | ((refine callG hc ?_)) | (with_reducible refine And.intro ?_ ?_; omega) | (simp only [Z0,Z1,Z2,Z3,Z4,Z5,Z6,Z7,Z8,Z9,Za,Zb,Zc,Zd,Ze,Zf,List.cons.injEq,Zg,Zh,Zi,Zj,Zk,Zl,Zm,Zn,Zo,Zp,beq_self_eq_true,bne_self_eq_false,decide_true,decide_false,Zq,Zr,Zs,Zt,Zu,Zv,Zw,Zx,Zy,Zz,Y0,Y1,Y2,Y3,Y4,Y5,Y6,x_c,x_o,x_l,x_b,g_b,Y7,Y8,Y9,Ya,Yb,Yc,lk,ef,Yd,Ye,Yf,Yg,Yh,Yi,Yj,Yk,Yl,Ym,Yn,Yo,hv,Yp,ev,Yq,Yr,Ys,Yt,Yu,Yv,Yw,Yx,Yy,Yz,X0,X1,X2,X3,X4,X5,X6,X7,X8,X9,Xa,vun,bnd,Xb,Xc,Xd,zav,Xe,Xf,Xg,Xh,Xi,Xj,Value.oneCell',Xk,Xl,Xm,Xn,true_and,and_true,and_self,implies_true,Xo,Xp,Xq,Xr,false_implies,Xs,Xt,Xu,Xv,Xw,Xx,Xy,Xz,W0,W1,W2,W3,W4,W5,W6,W7,W8,reduceCtorEq,if_true,if_false,W9,↓reduceIte,Wa,Wb,Wc,Wd,We,Wf,ne_eq,not_false_eq_true,not_true_eq_false,Wg,Wh,r93_0,r93_1,r93_2,r93_3,r93_4,r93_5,r93_6,r93_7,r93_8,r93_9,p93,l93_0,gM,hw1,hw2,hw3,hz,List.length_map]) | (exfalso; omega)
      all_goals exact again hJ (f, m + 1, high) (weak_mk (by simp only [Wi,wk_nil,wk1,Wj,Wk,Wl,Z4,Z5,Z6,Z7,Z8,Z9,Za,Zb,Zc,Zd,Ze,Zf,List.cons.injEq,Zg,Zh,Zi,Zj,Zk,Zl,Zm,Zn,Zo,Zp,beq_self_eq_true,bne_self_eq_false,decide_true,decide_false,Zq,Zr,Zs,Zt,Zu,Zv,Zw,Zx,Zy,Zz,Y0,hv,Yp,ev,Yq,Yr,Ys,Yt,Yu,Yv,Yw,Yx,Yy,Yz,X0,X1,X2,X3,X4,X5,X6,X7,X8,X9,Xa,vun,bnd,Xb,Xc,Xd,zav,Xe,Xf,Xg,Xh,Xi,Xj,Value.oneCell',Xk,Xl,Xm,Xn,true_and,and_true,and_self,implies_true,Xo,Xp,Xq,Xr,false_implies,Xs,Xt,Xu,Xv,Xw,Xx,Xy,Xz,W0,W1,W2,W3,W4,W5,W6,W7,W8,reduceCtorEq,if_true,if_false,W9,↓reduceIte,Wa,Wb,Wc,Wd,We,Wf,ne_eq,not_false_eq_true,not_true_eq_false,Wg,Nat.zero_ne_one])) ⟨by simp only; omega, h2, by simp only; omega, hg⟩ (by simp only; omega)
    · rw [if_neg hz] at hg
      repeat' first | ((with_reducible (first | refine condD ?_ ?_ | refine condE ?_ ?_ | refine condN ?_ ?_ | refine condI ?_ ?_ | refine condS ?_ ?_)) <;> intro h) | ((with_reducible (first | refine guardD (by with_unfolding_all rfl) ?_ ?_ | refine guardE (by with_unfolding_all rfl) ?_ ?_ | refine guardN (by with_unfolding_all rfl) ?_ ?_ | refine guardI (by with_unfolding_all rfl) ?_ ?_ | refine guardS (by with_unfolding_all rfl) ?_ ?_)) <;> intro h) | ((refine callG hc ?_)) | (with_reducible refine And.intro ?_ ?_; omega) | (simp only [Z0,Z1,Z2,Z3,Z4,Z5,Z6,Z7,Z8,Z9,Za,Zb,Zc,Zd,Ze,Zf,List.cons.injEq,Zg,Zh,Zi,Zj,Zk,Zl,Zm,Zn,Zo,Zp,beq_self_eq_true,bne_self_eq_false,decide_true,decide_false,Zq,Zr,Zs,Zt,Zu,Zv,Zw,Zx,Zy,Zz,Y0,Y1,Y2,Y3,Y4,Y5,Y6,x_c,x_o,x_l,x_b,g_b,Y7,Y8,Y9,Ya,Yb,Yc,lk,ef,Yd,Ye,Yf,Yg,Yh,Yi,Yj,Yk,Yl,Ym,Yn,Yo,hv,Yp,ev,Yq,Yr,Ys,Yt,Yu,Yv,Yw,Yx,Yy,Yz,X0,X1,X2,X3,X4,X5,X6,X7,X8,X9,Xa,vun,bnd,Xb,Xc,Xd,zav,Xe,Xf,Xg,Xh,Xi,Xj,Value.oneCell',Xk,Xl,Xm,Xn,true_and,and_true,and_self,implies_true,Xo,Xp,Xq,Xr,false_implies,Xs,Xt,Xu,Xv,Xw,Xx,Xy,Xz,W0,W1,W2,W3,W4,W5,W6,W7,W8,reduceCtorEq,if_true,if_false,W9,↓reduceIte,Wa,Wb,Wc,Wd,We,Wf,ne_eq,not_false_eq_true,not_true_eq_false,Wg,Wh,r93_0,r93_1,r93_2,r93_3,r93_4,r93_5,r93_6,r93_7,r93_8,r93_9,p93,l93_0,gM,hw1,hw2,hw3,hz,List.length_map]) | (exfalso; omega)
      all_goals exact again hJ (f, low, m) (weak_mk (by simp only [Wi,wk_nil,wk1,Wj,Wk,Wl,Z4,Z5,Z6,Z7,Z8,Z9,Za,Zb,Zc,Zd,Ze,Zf,List.cons.injEq,Zg,Zh,Zi,Zj,Zk,Zl,Zm,Zn,Zo,Zp,beq_self_eq_true,bne_self_eq_false,decide_true,decide_false,Zq,Zr,Zs,Zt,Zu,Zv,Zw,Zx,Zy,Zz,Y0,hv,Yp,ev,Yq,Yr,Ys,Yt,Yu,Yv,Yw,Yx,Yy,Yz,X0,X1,X2,X3,X4,X5,X6,X7,X8,X9,Xa,vun,bnd,Xb,Xc,Xd,zav,Xe,Xf,Xg,Xh,Xi,Xj,Value.oneCell',Xk,Xl,Xm,Xn,true_and,and_true,and_self,implies_true,Xo,Xp,Xq,Xr,false_implies,Xs,Xt,Xu,Xv,Xw,Xx,Xy,Xz,W0,W1,W2,W3,W4,W5,W6,W7,W8,reduceCtorEq,if_true,if_false,W9,↓reduceIte,Wa,Wb,Wc,Wd,We,Wf,ne_eq,not_false_eq_true,not_true_eq_false,Wg,Nat.zero_ne_one])) ⟨by simp only; omega, by simp only; omega, by simp only; omega, hg⟩ (by simp only; omega)
  · have hRR : R = low := by
      rw [← hg]
      cases f with
      | zero => rfl
      | succ f => rw [bsGo, if_neg (by omega)]
    subst hRR
    clear hJ hR hg
    by_cases e : R = l.length
    · have ei : (R : Int) = l.length := by omega
      rw [if_pos e] at hF
      subst hF
      simp only [plAV]
      repeat' first | ((with_reducible (first | refine condD ?_ ?_ | refine condE ?_ ?_ | refine condN ?_ ?_ | refine condI ?_ ?_ | refine condS ?_ ?_)) <;> intro h) | ((with_reducible (first | refine guardD (by with_unfolding_all rfl) ?_ ?_ | refine guardE (by with_unfolding_all rfl) ?_ ?_ | refine guardN (by with_unfolding_all rfl) ?_ ?_ | refine guardI (by with_unfolding_all rfl) ?_ ?_ | refine guardS (by with_unfolding_all rfl) ?_ ?_)) <;> intro h) | (with_reducible refine And.intro ?_ ?_; omega) | (simp only [Z0,Z1,Z2,Z3,Z4,Z5,Z6,Z7,Z8,Z9,Za,Zb,Zc,Zd,Ze,Zf,List.cons.injEq,Zg,Zh,Zi,Zj,Zk,Zl,Zm,Zn,Zo,Zp,beq_self_eq_true,bne_self_eq_false,decide_true,decide_false,Zq,Zr,Zs,Zt,Zu,Zv,Zw,Zx,Zy,Zz,Y0,Y1,Y2,Y3,Y4,Y5,Y6,x_c,x_o,x_l,x_b,g_b,Y7,Y8,Y9,Ya,Yb,Yc,lk,ef,Yd,Ye,Yf,Yg,Yh,Yi,Yj,Yk,Yl,Ym,Yn,Yo,hv,Yp,ev,Yq,Yr,Ys,Yt,Yu,Yv,Yw,Yx,Yy,Yz,X0,X1,X2,X3,X4,X5,X6,X7,X8,X9,Xa,vun,bnd,Xb,Xc,Xd,zav,Xe,Xf,Xg,Xh,Xi,Xj,Value.oneCell',Xk,Xl,Xm,Xn,true_and,and_true,and_self,implies_true,Xo,Xp,Xq,Xr,false_implies,Xs,Xt,Xu,Xv,Xw,Xx,Xy,Xz,W0,W1,W2,W3,W4,W5,W6,W7,W8,reduceCtorEq,if_true,if_false,W9,↓reduceIte,Wa,Wb,Wc,Wd,We,Wf,ne_eq,not_false_eq_true,not_true_eq_false,Wg,Wh,r93_0,r93_1,r93_2,r93_3,r93_4,r93_5,r93_6,r93_7,r93_8,r93_9,p93,l93_0,ei,List.length_map]) | (exfalso; omega)
      all_goals first | rfl | omega
    · have ei : ¬ (R : Int) = l.length := by omega
      have hlt : R < l.length := by omega
      have gR := getD_map (f := plAV) (d := []) hlt
      simp only [plAV] at gR
      have hc := hcmp _ hlt
      rw [if_neg e, List.getD_eq_getElem?_getD, List.getElem?_eq_getElem hlt, Option.getD_some] at hF
      by_cases hz : cmpP l[R] own time scale = 0
      · rw [if_neg (by simp [hz])] at hF
        rw [hz] at hc
        subst hF
        simp only [plAV]
        repeat' first | ((with_reducible (first | refine condD ?_ ?_ | refine condE ?_ ?_ | refine condN ?_ ?_ | refine condI ?_ ?_ | refine condS ?_ ?_)) <;> intro h) | ((with_reducible (first | refine guardD (by with_unfolding_all rfl) ?_ ?_ | refine guardE (by with_unfolding_all rfl) ?_ ?_ | refine guardN (by with_unfolding_all rfl) ?_ ?_ | refine guardI (by with_unfolding_all rfl) ?_ ?_ | refine guardS (by with_unfolding_all rfl) ?_ ?_)) <;> intro h) | ((refine callG hc ?_)) | (with_reducible refine And.intro ?_ ?_; omega) | (simp only [Z0,Z1,Z2,Z3,Z4,Z5,Z6,Z7,Z8,Z9,Za,Zb,Zc,Zd,Ze,Zf,List.cons.injEq,Zg,Zh,Zi,Zj,Zk,Zl,Zm,Zn,Zo,Zp,beq_self_eq_true,bne_self_eq_false,decide_true,decide_false,Zq,Zr,Zs,Zt,Zu,Zv,Zw,Zx,Zy,Zz,Y0,Y1,Y2,Y3,Y4,Y5,Y6,x_c,x_o,x_l,x_b,g_b,Y7,Y8,Y9,Ya,Yb,Yc,lk,ef,Yd,Ye,Yf,Yg,Yh,Yi,Yj,Yk,Yl,Ym,Yn,Yo,hv,Yp,ev,Yq,Yr,Ys,Yt,Yu,Yv,Yw,Yx,Yy,Yz,X0,X1,X2,X3,X4,X5,X6,X7,X8,X9,Xa,vun,bnd,Xb,Xc,Xd,zav,Xe,Xf,Xg,Xh,Xi,Xj,Value.oneCell',Xk,Xl,Xm,Xn,true_and,and_true,and_self,implies_true,Xo,Xp,Xq,Xr,false_implies,Xs,Xt,Xu,Xv,Xw,Xx,Xy,Xz,W0,W1,W2,W3,W4,W5,W6,W7,W8,reduceCtorEq,if_true,if_false,W9,↓reduceIte,Wa,Wb,Wc,Wd,We,Wf,ne_eq,not_false_eq_true,not_true_eq_false,Wg,Wh,r93_0,r93_1,r93_2,r93_3,r93_4,r93_5,r93_6,r93_7,r93_8,r93_9,p93,l93_0,gR,ei,List.length_map]) | (exfalso; omega)
        all_goals first | rfl | omega
      · rw [if_pos hz] at hF
        subst hF
        simp only [plAV]
        repeat' first | ((with_reducible (first | refine condD ?_ ?_ | refine condE ?_ ?_ | refine condN ?_ ?_ | refine condI ?_ ?_ | refine condS ?_ ?_)) <;> intro h) | ((with_reducible (first | refine guardD (by with_unfolding_all rfl) ?_ ?_ | refine guardE (by with_unfolding_all rfl) ?_ ?_ | refine guardN (by with_unfolding_all rfl) ?_ ?_ | refine guardI (by with_unfolding_all rfl) ?_ ?_ | refine guardS (by with_unfolding_all rfl) ?_ ?_)) <;> intro h) | ((refine callG hc ?_)) | (with_reducible refine And.intro ?_ ?_; omega) | (simp only [Z0,Z1,Z2,Z3,Z4,Z5,Z6,Z7,Z8,Z9,Za,Zb,Zc,Zd,Ze,Zf,List.cons.injEq,Zg,Zh,Zi,Zj,Zk,Zl,Zm,Zn,Zo,Zp,beq_self_eq_true,bne_self_eq_false,decide_true,decide_false,Zq,Zr,Zs,Zt,Zu,Zv,Zw,Zx,Zy,Zz,Y0,Y1,Y2,Y3,Y4,Y5,Y6,x_c,x_o,x_l,x_b,g_b,Y7,Y8,Y9,Ya,Yb,Yc,lk,ef,Yd,Ye,Yf,Yg,Yh,Yi,Yj,Yk,Yl,Ym,Yn,Yo,hv,Yp,ev,Yq,Yr,Ys,Yt,Yu,Yv,Yw,Yx,Yy,Yz,X0,X1,X2,X3,X4,X5,X6,X7,X8,X9,Xa,vun,bnd,Xb,Xc,Xd,zav,Xe,Xf,Xg,Xh,Xi,Xj,Value.oneCell',Xk,Xl,Xm,Xn,true_and,and_true,and_self,implies_true,Xo,Xp,Xq,Xr,false_implies,Xs,Xt,Xu,Xv,Xw,Xx,Xy,Xz,W0,W1,W2,W3,W4,W5,W6,W7,W8,reduceCtorEq,if_true,if_false,W9,↓reduceIte,Wa,Wb,Wc,Wd,We,Wf,ne_eq,not_false_eq_true,not_true_eq_false,Wg,Wh,r93_0,r93_1,r93_2,r93_3,r93_4,r93_5,r93_6,r93_7,r93_8,r93_9,p93,l93_0,gR,ei,bne0_t hz,List.length_map]) | (exfalso; omega)
        all_goals first | rfl | omega
end Go.Proofs.Ytpecmhdepggnoaa
