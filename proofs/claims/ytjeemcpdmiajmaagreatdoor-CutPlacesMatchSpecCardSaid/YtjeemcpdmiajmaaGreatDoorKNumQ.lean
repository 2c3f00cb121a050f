/- The reference's numbers: headendref1's limbs, by the machine on data. -/
import Derived.Test.YtjeemcpdmiajmaaGreatDoorKNumO
import Derived.Test.YtjeemcpdmiajmaaGreatDoorKTxt
namespace Go.Proofs.YtjeemcpdmiajmaaGreatDoor
open Go.RowKit Go.Lib
open Go.Proofs.YtjeemcpdmiajmaaGreatDoor renaming done_eq → Z0, done_eq' → Z1, donet_eq → Z2, donet_eq' → Z3, fin_val → Z4, fin_tup → Z5, fin_agg → Z6, fin_ro → Z7, res_one → Z8, res_more → Z9, rv_t → Za, rv_c → Zb, rv_l → Zc, int_eq → Zg, bool_eq → Zh, toNat_pred → Zr, toNat_succ → Zs, cnd_t → Zu, cnd_f → Zv, grd_tt → Zw, grd_u → Zx, grd_tf → Zy, grd_ft → Zz, grd_ff → Y0, g_skip → Y1, g_block → Y2, g_exit → Y3, g_cond → Y4, o_guard → Y5, o_call → Y6, o_lens → Y7, o_slcs → Y8, o_minmax → Y9, eqAV → Ya, view_t → Yb, view_c → Yc, view_nil → Yd, view_fn → Ye, look_own → Yf, look_box → Yg, look_junk → Yh, look_val → Yi, look_nilsl → Yj, look_ro → Yk, look_roAt → Yl, look_agg → Ym, look_tup → Yn, look_clo → Yo, look_alias → Yp, look_ref → Yq, look_into → Yr, rowOf → Ys, cellsOf → Yt, argv → Yu, vbin → Yv, elemOf → Yw, putParts → Yx, setAt → Yy, put_at → X5, mk_at → X6, mk_nil → X7, initSt → X8, wk_cons → W3, vint_eq → W4, vbool_eq → W5
open Go.Proofs.YtjeemcpdmiajmaaGreatDoor.AV.tup renaming injEq → Zd
open Go.Proofs.YtjeemcpdmiajmaaGreatDoor.AV.agg renaming injEq → Ze
open Go.Proofs.YtjeemcpdmiajmaaGreatDoor.AV.ro renaming injEq → Zf
open _root_.Int renaming toNat_natCast → Zi, reduceToNat → Zj, toNat_zero → Zk, toNat_one → Zl, reduceLE → Zm, reduceLT → Zn, reduceBEq → Zo, reduceBNe → Zp, reduceNeg → Zq
open _root_.List renaming length_map → Zt, map_cons → X9, map_nil → Xa, forall_mem_cons → Xb, not_mem_nil → Xc, length_cons → Xd, length_nil → Xe, getD_cons_zero → Xf, getD_cons_succ → Xg, getD_nil → Xh, drop_succ_cons → Xi, drop_zero → Xj, take_succ_cons → Xk, take_zero → Xl, set_cons_zero → Xm, set_cons_succ → Xn, all_cons → Xo, all_nil → Xp
open Go.Proofs.YtjeemcpdmiajmaaGreatDoor.ASt renaming rid → Yz, free → X0
open Go.Proofs.YtjeemcpdmiajmaaGreatDoor.AV renaming kill → X1, isHome → X2, noLoan → X3, cellOK → X4
open _root_.Bool renaming and_true → Xq, true_and → Xr, not_true → Xs, not_false → Xt, false_eq_true → Xu
open _root_.Nat renaming reduceEqDiff → Xv, reduceAdd → Xw, reduceSub → Xx, reduceMul → Xy, reduceLeDiff → Xz, reduceLT → W0, one_ne_zero → W1, zero_ne_one → W2
open Go.Proofs.YtjeemcpdmiajmaaGreatDoor.AV.val renaming injEq → W6
set_option linter.unusedSimpArgs false

theorem numL_app (a : List UInt8) : ∀ b : List UInt8, numL (a ++ b) = numL a * 10 ^ b.length + numL b := by
  have key : ∀ (b : List UInt8) (x : Nat), b.foldl (fun a c => 10 * a + (c.toNat - 48)) x = x * 10 ^ b.length + numL b := by
    intro b
    induction b with
    | nil => intro x; simp [numL]
    | cons c r ih =>
      intro x
      rw [List.foldl_cons, ih, show numL (c :: r) = r.foldl (fun a c => 10 * a + (c.toNat - 48)) (10 * 0 + (c.toNat - 48)) from rfl, ih, List.length_cons, Nat.pow_succ]
      simp only [Nat.mul_zero, Nat.zero_add]
      rw [Nat.add_mul, Nat.add_assoc, Nat.mul_comm (10 ^ r.length) 10, ← Nat.mul_assoc, Nat.mul_comm 10 x]
  intro b
  rw [show numL (a ++ b) = b.foldl (fun a c => 10 * a + (c.toNat - 48)) (numL a) by simp [numL], key]
/-! headend/headendref1.limbs -/
def r63_0 : List POp := [⟨2, .asg .nil, none⟩]
def r63_1 : List POp := [⟨3, .asg .nil, none⟩]
def r63_2 : List POp := [⟨7, .mv (.t 0), none⟩,
  ⟨8, .lens (.t 7), none⟩,
  ⟨9, .bin .gtr (.t 8) (.c (.int .i64 0)), none⟩]
def r63_3 : List POp := [⟨10, .mv (.t 0), none⟩,
  ⟨11, .lens (.t 10), none⟩,
  ⟨12, .bin .sub (.t 11) (.c (.int .i64 4)), none⟩,
  ⟨13, .minmax true (.c (.int .i64 0)) (.t 12), none⟩,
  ⟨4, .asg (.t 13), none⟩]
def r63_4 : List POp := [⟨15, .mv (.t 0), none⟩,
  ⟨16, .mv (.t 4), none⟩,
  ⟨17, .slcs (some (.t 16)) none (.t 15), none⟩,
  ⟨18, .call 75 [.t 17], none⟩,
  ⟨14, .mv (.t 18), none⟩,
  ⟨19, .ext 0 (.t 14), none⟩,
  ⟨20, .ext 1 (.t 14), none⟩,
  ⟨5, .mv (.t 19), none⟩,
  ⟨6, .asg (.t 20), none⟩]
def r63_5 : List POp := [⟨21, .mv (.t 3), none⟩,
  ⟨22, .mv (.t 5), none⟩,
  ⟨23, .row 3 1 [.t 22], none⟩,
  ⟨24, .app 3 1 8 (.t 21) (.t 23), none⟩,
  ⟨3, .asg (.t 24), none⟩]
def r63_6 : List POp := [⟨25, .mv (.t 0), none⟩,
  ⟨26, .mv (.t 4), none⟩,
  ⟨27, .slcs none (some (.t 26)) (.t 25), none⟩,
  ⟨0, .asg (.t 27), none⟩]
def r63_7 : List POp := [⟨28, .mv (.t 3), none⟩,
  ⟨29, .call 72 [.t 28], none⟩,
  ⟨2, .asg (.t 29), none⟩]
def l63_0 : PCode := .seq (.seq (.ops r63_2) (.cond (.t 9) (.skip) (.exit 0))) (.block 1 (.seq (.ops r63_3) (.seq (.ops r63_4) (.seq (.ops r63_5) (.ops r63_6)))))
def p63 : PCode := .seq (.ops r63_0) (.seq (.ops r63_1) (.seq (.block 0 (.loop l63_0)) (.seq (.opw r63_7) (.ret))))
theorem ok63 : okFunc Tryz.prog 63 [.t 2] 1 p63 = true := by kernel_rfl
set_option maxRecDepth 20000 in
set_option maxHeartbeats 2000000 in
theorem limbs_c (l : List UInt8) (hd : ∀ c ∈ l, digB c = true) (hl : l.length ≤ 40) : CallOK Tryz.prog 63 [.val (.string (BS l))] (.ro ((lm (numL l)).map oneN)) := by
  refine call_of mixed ok63 rfl ?_
  repeat' first | ((with_reducible (first | refine condD ?_ ?_ | refine condE ?_ ?_ | refine condN ?_ ?_ | refine condI ?_ ?_ | refine condS ?_ ?_)) <;> intro h) | (with_reducible refine And.intro ?_ ?_; omega) | (simp only [Z0,Z1,Z2,Z3,Z4,Z5,Z6,Z7,Z8,Z9,Za,Zb,Zc,Zd,Ze,Zf,List.cons.injEq,Zg,Zh,Zi,Zj,Zk,Zl,Zm,Zn,Zo,Zp,beq_self_eq_true,bne_self_eq_false,decide_true,decide_false,Zq,Zr,Zs,Zt,Zu,Zv,Zw,Zx,Zy,Zz,Y0,Y1,g_ops,g_seq,Y2,Y3,g_ret,x_c,x_o,x_l,x_b,g_b,g_nil,r_all,o_nil,Y4,Y5,Y6,lk,ef,o_mv,o_bin,Y7,o_ext,Y8,Y9,o_row,o_asg,o_app,hv,Ya,ev,Yb,Yc,Yd,Ye,Yf,Yg,Yh,Yi,Yj,Yk,Yl,Ym,Yn,Yo,Yp,Yq,Yr,Ys,Yt,Yu,Yv,vun,bnd,Yw,Yx,Yy,zav,Yz,X0,X1,X2,X3,X4,Value.oneCell',X5,X6,X7,X8,true_and,and_true,and_self,implies_true,X9,Xa,Xb,Xc,false_implies,Xd,Xe,Xf,Xg,Xh,Xi,Xj,Xk,Xl,Xm,Xn,Xo,Xp,Xq,Xr,Xs,Xt,reduceCtorEq,if_true,if_false,Xu,↓reduceIte,Xv,Xw,Xx,Xy,Xz,W0,ne_eq,not_false_eq_true,not_true_eq_false,W1,W2,r63_0,r63_1,r63_2,r63_3,r63_4,r63_5,r63_6,r63_7,p63]) | (exfalso; omega)
  refine loopS (fun s : List UInt8 × List Nat => mk [(0, .val (.string (BS s.1))), (3, .own 3 1 (s.2.map oneN))]) (fun s => (∀ c ∈ s.1, digB c = true) ∧ s.1.length ≤ 40 ∧ s.2.length + s.1.length ≤ 40 ∧ digN s.2 ∧ numL l = valN s.2 + numL s.1 * 10000 ^ s.2.length) (fun s => s.1.length) (l, []) (weak_mk ?_) ⟨hd, hl, by simpa using hl, (fun d hd => by cases hd), by simp [valN]⟩ ?_
  · simp only [W3,wk_nil,wk1,W4,W5,W6,Z4,Z5,Z6,Z7,Z8,Z9,Za,Zb,Zc,Zd,Ze,Zf,List.cons.injEq,Zg,Zh,Zi,Zj,Zk,Zl,Zm,Zn,Zo,Zp,beq_self_eq_true,bne_self_eq_false,decide_true,decide_false,Zq,Zr,Zs,Zt,Zu,Zv,Zw,Zx,Zy,Zz,Y0,hv,Ya,ev,Yb,Yc,Yd,Ye,Yf,Yg,Yh,Yi,Yj,Yk,Yl,Ym,Yn,Yo,Yp,Yq,Yr,Ys,Yt,Yu,Yv,vun,bnd,Yw,Yx,Yy,zav,Yz,X0,X1,X2,X3,X4,Value.oneCell',X5,X6,X7,X8,true_and,and_true,and_self,implies_true,X9,Xa,Xb,Xc,false_implies,Xd,Xe,Xf,Xg,Xh,Xi,Xj,Xk,Xl,Xm,Xn,Xo,Xp,Xq,Xr,Xs,Xt,reduceCtorEq,if_true,if_false,Xu,↓reduceIte,Xv,Xw,Xx,Xy,Xz,W0,ne_eq,not_false_eq_true,not_true_eq_false,W1,Nat.zero_ne_one]
    first | done | simp
  rintro J hJ ⟨S, out⟩ ⟨h1, h2, h3, h4, h5⟩
  simp only at h1 h2 h3 h4 h5
  by_cases hS : 0 < S.length
  · have hSi : (0 : Int) < S.length := by omega
    obtain ⟨k, hk⟩ : ∃ k, k = S.length - 4 := ⟨_, rfl⟩
    have w1 : IntKind.i64.wrap ((S.length : Int) - 4) = (S.length : Int) - 4 := wrap_in (by omega) (by omega)
    have hmx : (if (0 : Int) < (S.length : Int) - 4 then (S.length : Int) - 4 else 0) = (k : Int) := by split <;> omega
    have hTl : (S.drop k).length = S.length - k := List.length_drop
    have hx1 : (BS S).extract k S.length = BS (S.drop k) := by rw [BS_ext, List.take_of_length_le (by rw [hTl]; exact Nat.le_refl _)]
    have hx2 : (BS S).extract 0 k = BS (S.take k) := by rw [BS_ext, List.drop_zero, Nat.sub_zero]
    have hTd : ∀ c ∈ S.drop k, digB c = true := fun c hc => h1 c (List.mem_of_mem_drop hc)
    have hA := atoi_c (S.drop k) (fun e => by rw [e] at hTl; simp at hTl; omega) (by omega) hTd
    have hnum : numL S = numL (S.take k) * 10000 + numL (S.drop k) := by
      have := numL_app (S.take k) (S.drop k)
      rw [List.take_append_drop, hTl] at this
      rw [this]
      by_cases q : k = 0
      · rw [q]; simp [numL]
      · rw [show S.length - k = 4 by omega]
    have hTn : numL (S.drop k) < 10000 := by
      have := (dgs_num _ (S.drop k) rfl hTd).2
      have h4 : 10 ^ (S.drop k).length ≤ 10 ^ 4 := Nat.pow_le_pow_right (by decide) (by omega)
      omega
    have k0 : (0 : Int) ≤ (k : Int) := by omega
    have k1 : k ≤ S.length := by omega
    have hnx : numL l = valN (out ++ [numL (S.drop k)]) + numL (S.take k) * 10000 ^ (out ++ [numL (S.drop k)]).length := by
      rw [val_snoc, List.length_append, List.length_singleton, Nat.pow_succ, h5, hnum, Nat.add_mul]
      have : numL (S.take k) * 10000 * 10000 ^ out.length = numL (S.take k) * (10000 ^ out.length * 10000) := by rw [Nat.mul_assoc, Nat.mul_comm 10000]
      omega
    generalize numL (S.drop k) = n at *
    have happ : out.map oneN ++ [[.val (.int .i64 (n : Nat))]] = (out ++ [n]).map oneN := by rw [List.map_append]; rfl
    repeat' first | ((with_reducible (first | refine condD ?_ ?_ | refine condE ?_ ?_ | refine condN ?_ ?_ | refine condI ?_ ?_ | refine condS ?_ ?_)) <;> intro h) | ((refine callG hA ?_)) | (with_reducible refine And.intro ?_ ?_; omega) | (simp only [Z0,Z1,Z2,Z3,Z4,Z5,Z6,Z7,Z8,Z9,Za,Zb,Zc,Zd,Ze,Zf,List.cons.injEq,Zg,Zh,Zi,Zj,Zk,Zl,Zm,Zn,Zo,Zp,beq_self_eq_true,bne_self_eq_false,decide_true,decide_false,Zq,Zr,Zs,Zt,Zu,Zv,Zw,Zx,Zy,Zz,Y0,Y1,g_ops,g_seq,Y2,Y3,g_ret,x_c,x_o,x_l,x_b,g_b,g_nil,r_all,o_nil,Y4,Y5,Y6,lk,ef,o_mv,o_bin,Y7,o_ext,Y8,Y9,o_row,o_asg,o_app,hv,Ya,ev,Yb,Yc,Yd,Ye,Yf,Yg,Yh,Yi,Yj,Yk,Yl,Ym,Yn,Yo,Yp,Yq,Yr,Ys,Yt,Yu,Yv,vun,bnd,Yw,Yx,Yy,zav,Yz,X0,X1,X2,X3,X4,Value.oneCell',X5,X6,X7,X8,true_and,and_true,and_self,implies_true,X9,Xa,Xb,Xc,false_implies,Xd,Xe,Xf,Xg,Xh,Xi,Xj,Xk,Xl,Xm,Xn,Xo,Xp,Xq,Xr,Xs,Xt,reduceCtorEq,if_true,if_false,Xu,↓reduceIte,Xv,Xw,Xx,Xy,Xz,W0,ne_eq,not_false_eq_true,not_true_eq_false,W1,W2,r63_0,r63_1,r63_2,r63_3,r63_4,r63_5,r63_6,r63_7,p63,l63_0,BS_size,hSi,w1,hmx,hx1,hx2,k0,k1,happ,Zt,Nat.le_refl,Nat.zero_le]) | (exfalso; omega)
    all_goals first | omega | exact again hJ (S.take k, out ++ [n]) (weak_mk (by simp only [W3,wk_nil,wk1,W4,W5,W6,Z4,Z5,Z6,Z7,Z8,Z9,Za,Zb,Zc,Zd,Ze,Zf,List.cons.injEq,Zg,Zh,Zi,Zj,Zk,Zl,Zm,Zn,Zo,Zp,beq_self_eq_true,bne_self_eq_false,decide_true,decide_false,Zq,Zr,Zs,Zt,Zu,Zv,Zw,Zx,Zy,Zz,Y0,hv,Ya,ev,Yb,Yc,Yd,Ye,Yf,Yg,Yh,Yi,Yj,Yk,Yl,Ym,Yn,Yo,Yp,Yq,Yr,Ys,Yt,Yu,Yv,vun,bnd,Yw,Yx,Yy,zav,Yz,X0,X1,X2,X3,X4,Value.oneCell',X5,X6,X7,X8,true_and,and_true,and_self,implies_true,X9,Xa,Xb,Xc,false_implies,Xd,Xe,Xf,Xg,Xh,Xi,Xj,Xk,Xl,Xm,Xn,Xo,Xp,Xq,Xr,Xs,Xt,reduceCtorEq,if_true,if_false,Xu,↓reduceIte,Xv,Xw,Xx,Xy,Xz,W0,ne_eq,not_false_eq_true,not_true_eq_false,W1,Nat.zero_ne_one])) ⟨fun c hc => h1 c (List.mem_of_mem_take hc), by simp only [List.length_take]; omega, by simp only [List.length_take, List.length_append, List.length_singleton]; omega, dig_snoc h4 hTn, hnx⟩ (by simp only [List.length_take]; omega)
  · have hSi : ¬ (0 : Int) < S.length := by omega
    have hS0 : S = [] := List.eq_nil_of_length_eq_zero (by omega)
    rw [hS0] at h5
    have hv' : valN out = numL l := by rw [h5]; simp [numL]
    have hT := trim_c out h4 (by omega)
    rw [hv'] at hT
    clear hJ
    repeat' first | ((with_reducible (first | refine condD ?_ ?_ | refine condE ?_ ?_ | refine condN ?_ ?_ | refine condI ?_ ?_ | refine condS ?_ ?_)) <;> intro h) | (with_reducible refine And.intro ?_ ?_; omega) | (simp only [Z0,Z1,Z2,Z3,Z4,Z5,Z6,Z7,Z8,Z9,Za,Zb,Zc,Zd,Ze,Zf,List.cons.injEq,Zg,Zh,Zi,Zj,Zk,Zl,Zm,Zn,Zo,Zp,beq_self_eq_true,bne_self_eq_false,decide_true,decide_false,Zq,Zr,Zs,Zt,Zu,Zv,Zw,Zx,Zy,Zz,Y0,Y1,g_ops,g_seq,Y2,Y3,g_ret,x_c,x_o,x_l,x_b,g_b,g_nil,r_all,o_nil,Y4,Y5,Y6,lk,ef,o_mv,o_bin,Y7,o_ext,Y8,Y9,o_row,o_asg,o_app,hv,Ya,ev,Yb,Yc,Yd,Ye,Yf,Yg,Yh,Yi,Yj,Yk,Yl,Ym,Yn,Yo,Yp,Yq,Yr,Ys,Yt,Yu,Yv,vun,bnd,Yw,Yx,Yy,zav,Yz,X0,X1,X2,X3,X4,Value.oneCell',X5,X6,X7,X8,true_and,and_true,and_self,implies_true,X9,Xa,Xb,Xc,false_implies,Xd,Xe,Xf,Xg,Xh,Xi,Xj,Xk,Xl,Xm,Xn,Xo,Xp,Xq,Xr,Xs,Xt,reduceCtorEq,if_true,if_false,Xu,↓reduceIte,Xv,Xw,Xx,Xy,Xz,W0,ne_eq,not_false_eq_true,not_true_eq_false,W1,W2,r63_0,r63_1,r63_2,r63_3,r63_4,r63_5,r63_6,r63_7,p63,l63_0,BS_size,hSi]) | (exfalso; omega)
    refine opwG (weak_mk (l := [(3, .ro (out.map oneN))]) ?_) ?_
    · simp only [W3,wk_nil,wk1,W4,W5,W6,Z4,Z5,Z6,Z7,Z8,Z9,Za,Zb,Zc,Zd,Ze,Zf,List.cons.injEq,Zg,Zh,Zi,Zj,Zk,Zl,Zm,Zn,Zo,Zp,beq_self_eq_true,bne_self_eq_false,decide_true,decide_false,Zq,Zr,Zs,Zt,Zu,Zv,Zw,Zx,Zy,Zz,Y0,hv,Ya,ev,Yb,Yc,Yd,Ye,Yf,Yg,Yh,Yi,Yj,Yk,Yl,Ym,Yn,Yo,Yp,Yq,Yr,Ys,Yt,Yu,Yv,vun,bnd,Yw,Yx,Yy,zav,Yz,X0,X1,X2,X3,X4,Value.oneCell',X5,X6,X7,X8,true_and,and_true,and_self,implies_true,X9,Xa,Xb,Xc,false_implies,Xd,Xe,Xf,Xg,Xh,Xi,Xj,Xk,Xl,Xm,Xn,Xo,Xp,Xq,Xr,Xs,Xt,reduceCtorEq,if_true,if_false,Xu,↓reduceIte,Xv,Xw,Xx,Xy,Xz,W0,ne_eq,not_false_eq_true,not_true_eq_false,W1,Nat.zero_ne_one]
    repeat' first | ((with_reducible (first | refine condD ?_ ?_ | refine condE ?_ ?_ | refine condN ?_ ?_ | refine condI ?_ ?_ | refine condS ?_ ?_)) <;> intro h) | ((refine callG hT ?_)) | (with_reducible refine And.intro ?_ ?_; omega) | (simp only [Z0,Z1,Z2,Z3,Z4,Z5,Z6,Z7,Z8,Z9,Za,Zb,Zc,Zd,Ze,Zf,List.cons.injEq,Zg,Zh,Zi,Zj,Zk,Zl,Zm,Zn,Zo,Zp,beq_self_eq_true,bne_self_eq_false,decide_true,decide_false,Zq,Zr,Zs,Zt,Zu,Zv,Zw,Zx,Zy,Zz,Y0,Y1,g_ops,g_seq,Y2,Y3,g_ret,x_c,x_o,x_l,x_b,g_b,g_nil,r_all,o_nil,Y4,Y5,Y6,lk,ef,o_mv,o_bin,Y7,o_ext,Y8,Y9,o_row,o_asg,o_app,hv,Ya,ev,Yb,Yc,Yd,Ye,Yf,Yg,Yh,Yi,Yj,Yk,Yl,Ym,Yn,Yo,Yp,Yq,Yr,Ys,Yt,Yu,Yv,vun,bnd,Yw,Yx,Yy,zav,Yz,X0,X1,X2,X3,X4,Value.oneCell',X5,X6,X7,X8,true_and,and_true,and_self,implies_true,X9,Xa,Xb,Xc,false_implies,Xd,Xe,Xf,Xg,Xh,Xi,Xj,Xk,Xl,Xm,Xn,Xo,Xp,Xq,Xr,Xs,Xt,reduceCtorEq,if_true,if_false,Xu,↓reduceIte,Xv,Xw,Xx,Xy,Xz,W0,ne_eq,not_false_eq_true,not_true_eq_false,W1,W2,r63_0,r63_1,r63_2,r63_3,r63_4,r63_5,r63_6,r63_7,p63,l63_0]) | (exfalso; omega)
end Go.Proofs.YtjeemcpdmiajmaaGreatDoor
/- The reference's numbers: headendref1's round, by the machine on data. -/
namespace Go.Proofs.YtjeemcpdmiajmaaGreatDoor
open Go.RowKit
set_option linter.unusedSimpArgs false

/-- Whether the whole part is made one greater. -/
def upN (neg : Bool) (r b : Nat) (way : Int) : Bool :=
  if way = 1 then neg && decide (0 < r) else if way = 3 then !neg && decide (0 < r) else if way = 2 then decide (b ≤ r + r) else false
def rndN (neg : Bool) (t b : Nat) (way : Int) : Nat := if upN neg (t % b) b way then t / b + 1 else t / b
theorem cmp_ge {a b : Nat} : 0 ≤ cmpN a b ↔ b ≤ a := by
  unfold cmpN
  split
  · omega
  · split <;> omega
end Go.Proofs.YtjeemcpdmiajmaaGreatDoor
/- The reference's numbers as fractions: what Times, Over, round give does not depend on how a fraction is written. -/
namespace Go.Proofs.YtjeemcpdmiajmaaGreatDoor
open Go.RowKit
set_option linter.unusedSimpArgs false

/-- The number z / q in lowest terms. -/
def RQ (z : Int) (q : Nat) : List AV := numAV (decide (z < 0)) (z.natAbs / Nat.gcd z.natAbs q) (q / Nat.gcd z.natAbs q)
theorem rq_of (neg : Bool) (t b : Nat) : numAV (neg && decide (0 < t)) (t / Nat.gcd t b) (b / Nat.gcd t b) = RQ (if neg then -(t : Int) else t) b := by
  unfold RQ
  have e1 : (if neg then -(t : Int) else t).natAbs = t := by split <;> omega
  have e2 : decide ((if neg then -(t : Int) else t) < 0) = (neg && decide (0 < t)) := by
    cases neg
    · simp
    · simp only [if_true, Bool.true_and]
      exact decide_eq_decide.2 (by omega)
  rw [e1, e2]
theorem rq_scale (z : Int) (q k : Nat) (hk : 0 < k) : RQ (z * k) (q * k) = RQ z q := by
  unfold RQ
  have e1 : (z * k).natAbs = z.natAbs * k := by rw [Int.natAbs_mul, Int.natAbs_natCast]
  have e2 : decide (z * k < 0) = decide (z < 0) := decide_eq_decide.2 ⟨fun h => by
    refine Int.not_le.1 fun q => ?_
    have := Int.mul_nonneg q (show (0 : Int) ≤ k by omega)
    omega, fun h => Int.mul_neg_of_neg_of_pos h (by omega)⟩
  rw [e1, e2, Nat.gcd_mul_right, Nat.mul_div_mul_right _ _ hk, Nat.mul_div_mul_right _ _ hk]
theorem sgn_eq {a : Int} {g : Nat} (hg : g ∣ a.natAbs) : a = (if decide (a < 0) then -((a.natAbs / g : Nat) : Int) else ((a.natAbs / g : Nat) : Int)) * (g : Int) := by
  have h := Nat.div_mul_cancel hg
  have h2 : ((a.natAbs / g : Nat) : Int) * (g : Int) = (a.natAbs : Int) := by rw [← Int.natCast_mul, h]
  by_cases q : a < 0
  · rw [decide_eq_true q, if_pos rfl, Int.neg_mul, h2]; omega
  · rw [decide_eq_false q, if_neg (by simp), h2]; omega
theorem mul_sgn (n1 n2 : Bool) (t1 t2 : Nat) : (if (!(n1 == n2)) = true then -((t1 * t2 : Nat) : Int) else ((t1 * t2 : Nat) : Int)) = (if n1 = true then -(t1 : Int) else (t1 : Int)) * (if n2 = true then -(t2 : Int) else (t2 : Int)) := by
  cases n1 <;> cases n2 <;> simp [Int.neg_mul, Int.mul_neg]
theorem gcd_pos {z : Int} {q : Nat} (hq : 0 < q) : 0 < Nat.gcd z.natAbs q := Nat.gcd_pos_of_pos_right _ hq
theorem red_le {a g k : Nat} (h : (lm a).length ≤ k) : (lm (a / g)).length ≤ k := Nat.le_trans (lm_le (Nat.div_le_self _ _)) h
theorem red_pos {z : Int} {q : Nat} (hq : 0 < q) : 0 < q / Nat.gcd z.natAbs q := Nat.div_pos (Nat.le_of_dvd hq (Nat.gcd_dvd_right _ _)) (gcd_pos hq)
theorem mul4 (a b c d : Int) : a * b * (c * d) = a * c * (b * d) := by rw [Int.mul_assoc, Int.mul_left_comm b, ← Int.mul_assoc]
theorem mul4n (a b c d : Nat) : a * b * (c * d) = a * c * (b * d) := by rw [Nat.mul_assoc, Nat.mul_left_comm b, ← Nat.mul_assoc]
theorem over_q (a : Int) (b q r : Nat) (hq : 0 < q) (hb : 0 < b) (hr : 0 < r) (k1 : (lm a.natAbs).length ≤ 400) (k2 : (lm q).length ≤ 400) (k3 : (lm b).length ≤ 400) (k4 : (lm r).length ≤ 400) :
    CallOK Tryz.prog 37 [.agg (RQ a q), .agg (RQ b r)] (.agg (RQ (a * r) (q * b))) := by
  have hd : decide ((b : Int) < 0) = false := decide_eq_false (by omega)
  have hgp : 0 < Nat.gcd b r := Nat.gcd_pos_of_pos_right _ hr
  have h := over_c (decide (a < 0)) (a.natAbs / Nat.gcd a.natAbs q) (q / Nat.gcd a.natAbs q) (decide ((b : Int) < 0)) (b / Nat.gcd b r) (r / Nat.gcd b r) (red_pos hq) (Nat.div_pos (Nat.le_of_dvd hb (Nat.gcd_dvd_left _ _)) hgp) (red_le k1) (red_le k2) (red_le k3) (red_le k4)
  rw [rq_of, hd, mul_sgn, ← rq_scale _ _ _ (Nat.mul_pos (gcd_pos (z := a) hq) hgp), Int.natCast_mul, mul4, mul4n, ← sgn_eq (Nat.gcd_dvd_left _ _), if_neg (by simp), ← Int.natCast_mul, Nat.div_mul_cancel (Nat.gcd_dvd_right _ _), Nat.div_mul_cancel (Nat.gcd_dvd_right _ _), Nat.div_mul_cancel (Nat.gcd_dvd_left _ _)] at h
  rw [show RQ (b : Int) r = numAV (decide ((b : Int) < 0)) (b / Nat.gcd b r) (r / Nat.gcd b r) from rfl, hd]
  exact h
theorem up_red (neg : Bool) (r b g : Nat) (way : Int) (hg : 0 < g) : upN neg (r * g) (b * g) way = upN neg r b way := by
  unfold upN
  have e1 : decide (0 < r * g) = decide (0 < r) := decide_eq_decide.2 ⟨fun h => Nat.pos_of_ne_zero fun e => by rw [e, Nat.zero_mul] at h; exact Nat.lt_irrefl _ h, fun h => Nat.mul_pos h hg⟩
  have e2 : decide (b * g ≤ r * g + r * g) = decide (b ≤ r + r) := decide_eq_decide.2 (by rw [← Nat.add_mul]; exact Nat.mul_le_mul_right_iff hg)
  rw [e1, e2]
theorem rnd_red (neg : Bool) (t b g : Nat) (way : Int) (hg : 0 < g) : rndN neg (t * g) (b * g) way = rndN neg t b way := by
  unfold rndN
  rw [Nat.mul_div_mul_right _ _ hg, Nat.mul_mod_mul_right, up_red _ _ _ _ _ hg]
end Go.Proofs.YtjeemcpdmiajmaaGreatDoor
