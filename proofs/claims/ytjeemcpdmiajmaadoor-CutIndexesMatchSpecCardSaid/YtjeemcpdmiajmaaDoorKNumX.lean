/- The reference's numbers: headendref1's digits and Round, by the machine on data. -/
import Derived.Test.YtjeemcpdmiajmaaDoorKNumF
import Derived.Lib.RepeatB
namespace Go.Proofs.YtjeemcpdmiajmaaDoor
open Go.RowKit Go.Lib
open Go.Proofs.YtjeemcpdmiajmaaDoor renaming done_eq → Z0, done_eq' → Z1, donet_eq → Z2, donet_eq' → Z3, fin_val → Z4, fin_tup → Z5, fin_agg → Z6, fin_ro → Z7, res_one → Z8, res_more → Z9, rv_t → Za, rv_c → Zb, rv_l → Zc, int_eq → Zg, bool_eq → Zh, toNat_pred → Zr, toNat_succ → Zs, cnd_t → Zu, cnd_f → Zv, grd_tt → Zw, grd_u → Zx, grd_tf → Zy, grd_ft → Zz, grd_ff → Y0, g_skip → Y1, g_ops → Y2, g_seq → Y3, g_block → Y4, g_exit → Y5, g_ret → Y6, g_nil → Y7, r_all → Y8, o_nil → Y9, g_cond → Ya, o_guard → Yb, o_call → Yc, o_callm → Yd, o_callt → Ye, o_callx → Yf, o_callv → Yg, o_mv → Yh, o_pick → Yi, o_bin → Yj, o_never → Yk, o_eqs → Yl, o_eqb → Ym, o_un → Yn, o_conv → Yo, o_load → Yp, o_loadr → Yq, o_idxr → Yr, o_loads → Ys, o_fld → Yt, o_idx → Yu, o_idxs → Yv, o_len → Yw, o_lens → Yx, o_ext → Yy, o_nilck → Yz, o_slc → X0, o_slcs → X1, o_build → X2, o_minmax → X3, o_mkfn → X4, o_alloc → X5, o_box → X6, o_boxs → X7, o_row → X8, o_rowr → X9, o_mk → Xa, o_asg → Xb, o_app → Xc, o_store → Xd, o_stores → Xe, o_eqnil → Xf, eqAV → Xg, view_t → Xh, view_c → Xi, view_nil → Xj, view_fn → Xk, look_own → Xl, look_box → Xm, look_junk → Xn, look_val → Xo, look_nilsl → Xp, look_ro → Xq, look_roAt → Xr, look_agg → Xs, look_tup → Xt, look_clo → Xu, look_alias → Xv, look_ref → Xw, look_into → Xx, rowOf → Xy, cellsOf → Xz, argv → W0, vbin → W1, elemOf → W2, putParts → W3, setAt → W4, put_at → Wb, mk_at → Wc, mk_nil → Wd, initSt → We
open Go.Proofs.YtjeemcpdmiajmaaDoor.AV.tup renaming injEq → Zd
open Go.Proofs.YtjeemcpdmiajmaaDoor.AV.agg renaming injEq → Ze
open Go.Proofs.YtjeemcpdmiajmaaDoor.AV.ro renaming injEq → Zf
open _root_.Int renaming toNat_natCast → Zi, reduceToNat → Zj, toNat_zero → Zk, toNat_one → Zl, reduceLE → Zm, reduceLT → Zn, reduceBEq → Zo, reduceBNe → Zp, reduceNeg → Zq
open _root_.List renaming length_map → Zt, map_cons → Wf, map_nil → Wg, forall_mem_cons → Wh, not_mem_nil → Wi, length_cons → Wj, length_nil → Wk, getD_cons_zero → Wl, getD_cons_succ → Wm, getD_nil → Wn, drop_succ_cons → Wo, drop_zero → Wp, take_succ_cons → Wq, take_zero → Wr, set_cons_zero → Ws, set_cons_succ → Wt, all_cons → Wu, all_nil → Wv
open Go.Proofs.YtjeemcpdmiajmaaDoor.ASt renaming rid → W5, free → W6
open Go.Proofs.YtjeemcpdmiajmaaDoor.AV renaming kill → W7, isHome → W8, noLoan → W9, cellOK → Wa
open _root_.Bool renaming and_true → Ww, true_and → Wx, not_true → Wy, not_false → Wz, false_eq_true → V0
open _root_.Nat renaming reduceEqDiff → V1, reduceAdd → V2, reduceSub → V3, reduceMul → V4, reduceLeDiff → V5, reduceLT → V6, one_ne_zero → V7, zero_ne_one → V8
open Go.Proofs.YtjeemcpdmiajmaaDoor.AV.val renaming injEq → V9
set_option linter.unusedSimpArgs false
--@short

theorem dgs_add (a : Nat) : ∀ b n, dgs (a + b) n = dgs a (n / 10 ^ b) ++ dgs b n
  | 0, n => by simp [dgs]
  | b + 1, n => by
    rw [← Nat.add_assoc, dgs, dgs_add a b (n / 10), dgs, List.append_assoc, Nat.div_div_eq_div_mul, Nat.pow_succ, Nat.mul_comm 10]
theorem dgs_pad (a : Nat) : ∀ b n, n < 10 ^ a → dgs (a + b) n = List.replicate b 48 ++ dgs a n
  | 0, n, _ => by simp
  | b + 1, n, h => by
    rw [← Nat.add_assoc, ← dgs_zero (a + b) n (Nat.lt_of_lt_of_le h (Nat.pow_le_pow_right (by decide) (by omega))), dgs_pad a b n h, List.replicate_succ, List.cons_append]
theorem dgs_mod : ∀ k n, dgs k (n % 10 ^ k) = dgs k n
  | 0, n => rfl
  | k + 1, n => by
    rw [dgs, dgs, Nat.pow_succ, Nat.mul_comm (10 ^ k) 10, Nat.mod_mul_right_div_self, dgs_mod k, Nat.mod_mul_right_mod]
theorem nDigits_limb {v d : Nat} (hv : 0 < v) (hd : d < 10000) : nDigits (d + 10000 * v) = nDigits v + 4 := by
  rw [nDigits_big (by omega), nDigits_big (by omega), nDigits_big (by omega), nDigits_big (by omega), show (d + 10000 * v) / 10 / 10 / 10 / 10 = v by omega]
/-- A number's digits out of those of its limbs. -/
theorem dec_limb {v d : Nat} (hv : 0 < v) (hd : d < 10000) : decDigits v ++ (List.replicate (4 - nDigits d) 48 ++ decDigits d) = decDigits (d + 10000 * v) := by
  have h4 : nDigits d ≤ 4 := nDigits_le 4 d (by decide) (by omega)
  have e := dgs_add (nDigits v) 4 (d + 10000 * v)
  rw [show (d + 10000 * v) / 10 ^ 4 = v by omega, ← dgs_mod 4 (d + 10000 * v), show (d + 10000 * v) % 10 ^ 4 = d by omega, dgs_dec _ v rfl, ← nDigits_limb hv hd, dgs_dec _ _ rfl] at e
  rw [e]
  congr 1
  have := dgs_pad (nDigits d) (4 - nDigits d) d (lt_pow_nDigits d)
  rw [show nDigits d + (4 - nDigits d) = 4 by omega, dgs_dec _ d rfl] at this
  exact this.symm
theorem rep_one (x : UInt8) : ∀ c, repeatL [x] c = List.replicate c x
  | 0 => by simp [repeatL]
  | c + 1 => by
    have := rep_one x c
    simp_all [repeatL, List.replicate_succ]
theorem repeat_c (c : Nat) (hc : c ≤ 1000) : CallOK Tryd.prog 54 [.val (.string (BS [48])), .val (.int .i64 c)] (.val (.string (BS (List.replicate c 48)))) := by
  intro w S vs hT hS hvl hr
  match vs, hvl with
  | [v0, v1], _ =>
    have h0 := rel_val (hr 0 _ v0 rfl rfl)
    have h1 := rel_val (hr 1 _ v1 rfl rfl)
    subst h0
    subst h1
    refine (Tryd.strings_Repeat (BS [48]) c w (by omega) (by rw [BS_size]; simp; omega)).mono ?_
    rintro ev w' ⟨rfl, hb⟩
    refine ⟨_, rfl, hb, ?_⟩
    rw [BS_data, rep_one]
    exact Rel.val _
/-! headend/headendref1.digits -/
def r36_0 : List POp := [⟨2, .asg (.c (.string ⟨#[]⟩)), none⟩]
def r36_1 : List POp := [⟨6, .mv (.t 0), none⟩,
  ⟨7, .len (.t 6), none⟩,
  ⟨8, .bin .eql (.t 7) (.c (.int .i64 0)), none⟩]
def r36_2 : List POp := [⟨2, .asg (.c (.string ⟨#[48]⟩)), none⟩]
def r36_3 : List POp := [⟨9, .mv (.t 0), none⟩,
  ⟨10, .mv (.t 0), none⟩,
  ⟨11, .len (.t 10), none⟩,
  ⟨12, .bin .sub (.t 11) (.c (.int .i64 1)), none⟩,
  ⟨13, .idx 1 (.t 9) (.t 12), none⟩,
  ⟨14, .load (.t 13), none⟩,
  ⟨15, .call 34 [.t 14], none⟩,
  ⟨3, .asg (.t 15), none⟩]
def r36_4 : List POp := [⟨16, .mv (.t 0), none⟩,
  ⟨17, .len (.t 16), none⟩,
  ⟨18, .bin .sub (.t 17) (.c (.int .i64 2)), none⟩,
  ⟨4, .asg (.t 18), none⟩]
def r36_5 : List POp := [⟨19, .mv (.t 4), none⟩,
  ⟨20, .bin .geq (.t 19) (.c (.int .i64 0)), none⟩]
def r36_7 : List POp := [⟨23, .mv (.t 0), none⟩,
  ⟨24, .mv (.t 4), none⟩,
  ⟨25, .idx 1 (.t 23) (.t 24), none⟩,
  ⟨26, .load (.t 25), none⟩,
  ⟨27, .call 34 [.t 26], none⟩,
  ⟨5, .asg (.t 27), none⟩]
def r36_8 : List POp := [⟨28, .mv (.t 3), none⟩,
  ⟨29, .mv (.t 5), none⟩,
  ⟨30, .lens (.t 29), none⟩,
  ⟨31, .bin .sub (.c (.int .i64 4)) (.t 30), none⟩,
  ⟨32, .call 54 [.c (.string ⟨#[48]⟩), .t 31], none⟩,
  ⟨33, .mv (.t 5), none⟩,
  ⟨34, .bin .add (.t 32) (.t 33), none⟩,
  ⟨35, .bin .add (.t 28) (.t 34), none⟩,
  ⟨3, .asg (.t 35), none⟩]
def r36_6 : List POp := [⟨21, .mv (.t 4), none⟩,
  ⟨22, .bin .sub (.t 21) (.c (.int .i64 1)), none⟩,
  ⟨4, .asg (.t 22), none⟩]
def r36_9 : List POp := [⟨36, .mv (.t 3), none⟩,
  ⟨2, .asg (.t 36), none⟩]
def l36_0 : PCode := .seq (.seq (.ops r36_5) (.cond (.t 20) (.skip) (.exit 0))) (.seq (.block 1 (.seq (.ops r36_7) (.ops r36_8))) (.ops r36_6))
def p36 : PCode := .seq (.ops r36_0) (.seq (.seq (.ops r36_1) (.cond (.t 8) (.seq (.ops r36_2) (.ret)) (.skip))) (.seq (.ops r36_3) (.seq (.seq (.ops r36_4) (.block 0 (.loop l36_0))) (.seq (.ops r36_9) (.ret)))))
theorem ok36 : okFunc Tryd.prog 36 [.t 2] 1 p36 = true := by kernel_rfl
set_option maxRecDepth 20000 in
set_option maxHeartbeats 2000000 in
theorem digits_c (n : Nat) (hn : (lm n).length ≤ 1000) : CallOK Tryd.prog 36 [.ro ((lm n).map oneN)] (.val (.string (BS (decDigits n)))) := by
  refine call_of mixed ok36 rfl ?_
  by_cases h0 : n = 0
  · subst h0
    have e0 : BS (decDigits 0) = BS [48] := by rw [← dgs_dec 1 0 (nDigits_small (by decide))]; rfl
    rw [lm_0, e0]
    repeat' first | ((with_reducible (first | refine condD ?_ ?_ | refine condE ?_ ?_ | refine condN ?_ ?_ | refine condI ?_ ?_ | refine condS ?_ ?_)) <;> intro h) | ((with_reducible (first | refine guardD (by with_unfolding_all rfl) ?_ ?_ | refine guardE (by with_unfolding_all rfl) ?_ ?_ | refine guardN (by with_unfolding_all rfl) ?_ ?_ | refine guardI (by with_unfolding_all rfl) ?_ ?_ | refine guardS (by with_unfolding_all rfl) ?_ ?_)) <;> intro h) | (with_reducible refine And.intro ?_ ?_; omega) | (simp only [Z0,Z1,Z2,Z3,Z4,Z5,Z6,Z7,Z8,Z9,Za,Zb,Zc,Zd,Ze,Zf,List.cons.injEq,Zg,Zh,Zi,Zj,Zk,Zl,Zm,Zn,Zo,Zp,beq_self_eq_true,bne_self_eq_false,decide_true,decide_false,Zq,Zr,Zs,Zt,Zu,Zv,Zw,Zx,Zy,Zz,Y0,Y1,Y2,Y3,Y4,Y5,Y6,x_c,x_o,x_l,x_b,g_b,Y7,Y8,Y9,Ya,Yb,Yc,Yd,Ye,Yf,Yg,lk,ef,Yh,Yi,Yj,Yk,Yl,Ym,Yn,Yo,Yp,Yq,Yr,Ys,Yt,Yu,Yv,Yw,Yx,Yy,Yz,X0,X1,X2,X3,X4,X5,X6,X7,X8,X9,Xa,Xb,Xc,Xd,Xe,Xf,hv,Xg,ev,Xh,Xi,Xj,Xk,Xl,Xm,Xn,Xo,Xp,Xq,Xr,Xs,Xt,Xu,Xv,Xw,Xx,Xy,Xz,W0,W1,vun,bnd,W2,W3,W4,zav,W5,W6,W7,W8,W9,Wa,Value.oneCell',Wb,Wc,Wd,We,true_and,and_true,and_self,implies_true,Wf,Wg,Wh,Wi,false_implies,Wj,Wk,Wl,Wm,Wn,Wo,Wp,Wq,Wr,Ws,Wt,Wu,Wv,Ww,Wx,Wy,Wz,reduceCtorEq,if_true,if_false,V0,↓reduceIte,V1,V2,V3,V4,V5,V6,ne_eq,not_false_eq_true,not_true_eq_false,V7,V8,r36_0,r36_1,r36_2,r36_3,r36_4,r36_5,r36_7,r36_8,r36_6,r36_9,p36,BS_48,BS_nil,Zt,Wg,List.length_nil]) | (exfalso; omega)
  have va := val_lm n
  have da := dig_lm n
  have la := last_lm n
  have hpos : 0 < (lm n).length := lm_pos_len.2 (by omega)
  have hdec : decDigits n = decDigits (valN (lm n)) := by rw [val_lm]
  rw [hdec]
  clear hdec
  generalize lm n = A at *
  have hne : A ≠ [] := fun e => by rw [e] at hpos; simp at hpos
  have hz : ((A.length : Int) == 0) = false := by rw [beq_eq_false_iff_ne]; omega
  have hm1 : A.length - 1 < A.length := by omega
  have w1 : IntKind.i64.wrap ((A.length : Int) - 1) = ((A.length - 1 : Nat) : Int) := by rw [wrap_in (by omega) (by omega)]; omega
  have w2 : IntKind.i64.wrap ((A.length : Int) - 2) = ((A.length - 1 : Nat) : Int) - 1 := by rw [wrap_in (by omega) (by omega)]; omega
  have gL := getD_map (f := oneN) (d := []) hm1
  simp only [oneN] at gL
  have i0 : (0 : Int) ≤ ((A.length - 1 : Nat) : Int) := by omega
  have i1 : ((A.length - 1 : Nat) : Int) < A.length := by omega
  have hlast : A[A.length - 1] ≠ 0 := la _ (by rw [List.getLast?_eq_getElem?]; exact List.getElem?_eq_getElem hm1)
  have hI0 := itoa_c A[A.length - 1] (by have := da _ (List.getElem_mem hm1); omega)
  have hdl : valN (A.drop (A.length - 1)) = A[A.length - 1] := by rw [List.drop_eq_getElem_cons hm1, List.drop_of_length_le (by omega), valN, valN]; omega
  rw [← hdl] at hI0
  repeat' first | ((with_reducible (first | refine condD ?_ ?_ | refine condE ?_ ?_ | refine condN ?_ ?_ | refine condI ?_ ?_ | refine condS ?_ ?_)) <;> intro h) | ((with_reducible (first | refine guardD (by with_unfolding_all rfl) ?_ ?_ | refine guardE (by with_unfolding_all rfl) ?_ ?_ | refine guardN (by with_unfolding_all rfl) ?_ ?_ | refine guardI (by with_unfolding_all rfl) ?_ ?_ | refine guardS (by with_unfolding_all rfl) ?_ ?_)) <;> intro h) | ((refine callG hI0 ?_)) | (with_reducible refine And.intro ?_ ?_; omega) | (simp only [Z0,Z1,Z2,Z3,Z4,Z5,Z6,Z7,Z8,Z9,Za,Zb,Zc,Zd,Ze,Zf,List.cons.injEq,Zg,Zh,Zi,Zj,Zk,Zl,Zm,Zn,Zo,Zp,beq_self_eq_true,bne_self_eq_false,decide_true,decide_false,Zq,Zr,Zs,Zt,Zu,Zv,Zw,Zx,Zy,Zz,Y0,Y1,Y2,Y3,Y4,Y5,Y6,x_c,x_o,x_l,x_b,g_b,Y7,Y8,Y9,Ya,Yb,Yc,Yd,Ye,Yf,Yg,lk,ef,Yh,Yi,Yj,Yk,Yl,Ym,Yn,Yo,Yp,Yq,Yr,Ys,Yt,Yu,Yv,Yw,Yx,Yy,Yz,X0,X1,X2,X3,X4,X5,X6,X7,X8,X9,Xa,Xb,Xc,Xd,Xe,Xf,hv,Xg,ev,Xh,Xi,Xj,Xk,Xl,Xm,Xn,Xo,Xp,Xq,Xr,Xs,Xt,Xu,Xv,Xw,Xx,Xy,Xz,W0,W1,vun,bnd,W2,W3,W4,zav,W5,W6,W7,W8,W9,Wa,Value.oneCell',Wb,Wc,Wd,We,true_and,and_true,and_self,implies_true,Wf,Wg,Wh,Wi,false_implies,Wj,Wk,Wl,Wm,Wn,Wo,Wp,Wq,Wr,Ws,Wt,Wu,Wv,Ww,Wx,Wy,Wz,reduceCtorEq,if_true,if_false,V0,↓reduceIte,V1,V2,V3,V4,V5,V6,ne_eq,not_false_eq_true,not_true_eq_false,V7,V8,r36_0,r36_1,r36_2,r36_3,r36_4,r36_5,r36_7,r36_8,r36_6,r36_9,p36,hz,w1,w2,gL,i0,i1,BS_nil,Zt,← hdl]) | (exfalso; omega)
  refine loopS (fun k : Nat => mk [(0, .ro (A.map oneN)), (3, .val (.string (BS (decDigits (valN (A.drop k)))))), (4, .val (.int .i64 ((k : Int) - 1)))]) (fun k => k ≤ A.length - 1 ∧ 0 < valN (A.drop k)) (fun k => k) (A.length - 1) (weak_mk ?_) ⟨Nat.le_refl _, by rw [hdl]; omega⟩ ?_
  · simp only [wk_cons,wk_nil,wk1,vint_eq,vbool_eq,V9,Z0,Z1,Z2,Z3,Z4,Z5,Z6,Z7,Z8,Z9,Za,Zb,Zc,Zd,Ze,Zf,List.cons.injEq,Zg,Zh,Zi,Zj,Zk,Zl,Zm,Zn,Zo,Zp,beq_self_eq_true,bne_self_eq_false,decide_true,decide_false,Zq,Zr,Zs,Zt,Zu,Zv,Zw,Zx,Zy,Zz,Y0,Y1,Y2,Y3,Y4,Y5,Y6,x_c,x_o,x_l,x_b,g_b,Y7,Y8,Y9,Ya,Yb,Yc,Yd,Ye,Yf,Yg,lk,ef,Yh,Yi,Yj,Yk,Yl,Ym,Yn,Yo,Yp,Yq,Yr,Ys,Yt,Yu,Yv,Yw,Yx,Yy,Yz,X0,X1,X2,X3,X4,X5,X6,X7,X8,X9,Xa,Xb,Xc,Xd,Xe,Xf,hv,Xg,ev,Xh,Xi,Xj,Xk,Xl,Xm,Xn,Xo,Xp,Xq,Xr,Xs,Xt,Xu,Xv,Xw,Xx,Xy,Xz,W0,W1,vun,bnd,W2,W3,W4,zav,W5,W6,W7,W8,W9,Wa,Value.oneCell',Wb,Wc,Wd,We,true_and,and_true,and_self,implies_true,Wf,Wg,Wh,Wi,false_implies,Wj,Wk,Wl,Wm,Wn,Wo,Wp,Wq,Wr,Ws,Wt,Wu,Wv,Ww,Wx,Wy,Wz,reduceCtorEq,if_true,if_false,V0,↓reduceIte,V1,V2,V3,V4,V5,V6,ne_eq,not_false_eq_true,not_true_eq_false,V7,Nat.zero_ne_one]
  rintro J hJ k ⟨hk, hvp⟩
  by_cases hk0 : k = 0
  · have hki : ¬ (0 : Int) ≤ (k : Int) - 1 := by omega
    rw [show A.drop k = A by rw [hk0, List.drop_zero]]
    clear hJ
    repeat' first | ((with_reducible (first | refine condD ?_ ?_ | refine condE ?_ ?_ | refine condN ?_ ?_ | refine condI ?_ ?_ | refine condS ?_ ?_)) <;> intro h) | ((with_reducible (first | refine guardD (by with_unfolding_all rfl) ?_ ?_ | refine guardE (by with_unfolding_all rfl) ?_ ?_ | refine guardN (by with_unfolding_all rfl) ?_ ?_ | refine guardI (by with_unfolding_all rfl) ?_ ?_ | refine guardS (by with_unfolding_all rfl) ?_ ?_)) <;> intro h) | (with_reducible refine And.intro ?_ ?_; omega) | (simp only [Z0,Z1,Z2,Z3,Z4,Z5,Z6,Z7,Z8,Z9,Za,Zb,Zc,Zd,Ze,Zf,List.cons.injEq,Zg,Zh,Zi,Zj,Zk,Zl,Zm,Zn,Zo,Zp,beq_self_eq_true,bne_self_eq_false,decide_true,decide_false,Zq,Zr,Zs,Zt,Zu,Zv,Zw,Zx,Zy,Zz,Y0,Y1,Y2,Y3,Y4,Y5,Y6,x_c,x_o,x_l,x_b,g_b,Y7,Y8,Y9,Ya,Yb,Yc,Yd,Ye,Yf,Yg,lk,ef,Yh,Yi,Yj,Yk,Yl,Ym,Yn,Yo,Yp,Yq,Yr,Ys,Yt,Yu,Yv,Yw,Yx,Yy,Yz,X0,X1,X2,X3,X4,X5,X6,X7,X8,X9,Xa,Xb,Xc,Xd,Xe,Xf,hv,Xg,ev,Xh,Xi,Xj,Xk,Xl,Xm,Xn,Xo,Xp,Xq,Xr,Xs,Xt,Xu,Xv,Xw,Xx,Xy,Xz,W0,W1,vun,bnd,W2,W3,W4,zav,W5,W6,W7,W8,W9,Wa,Value.oneCell',Wb,Wc,Wd,We,true_and,and_true,and_self,implies_true,Wf,Wg,Wh,Wi,false_implies,Wj,Wk,Wl,Wm,Wn,Wo,Wp,Wq,Wr,Ws,Wt,Wu,Wv,Ww,Wx,Wy,Wz,reduceCtorEq,if_true,if_false,V0,↓reduceIte,V1,V2,V3,V4,V5,V6,ne_eq,not_false_eq_true,not_true_eq_false,V7,V8,r36_0,r36_1,r36_2,r36_3,r36_4,r36_5,r36_7,r36_8,r36_6,r36_9,p36,l36_0,hki]) | (exfalso; omega)
  obtain ⟨j, rfl⟩ : ∃ j, k = j + 1 := ⟨k - 1, by omega⟩
  have hj : j < A.length := by omega
  have ej : ((j + 1 : Nat) : Int) - 1 = (j : Int) := by omega
  have hki : (0 : Int) ≤ (j : Int) := by omega
  have i2 : (j : Int) < A.length := by omega
  have wj : IntKind.i64.wrap ((j : Int) - 1) = (j : Int) - 1 := wrap_in (by omega) (by omega)
  have gA := getD_map (f := oneN) (d := []) hj
  simp only [oneN] at gA
  have hd0 := da _ (List.getElem_mem hj)
  have hv1 : valN (A.drop j) = A[j] + 10000 * valN (A.drop (j + 1)) := by rw [List.drop_eq_getElem_cons hj, valN]
  have hI := itoa_c A[j] (by omega)
  have hlen : (decDigits A[j]).length ≤ 4 := by rw [decDigits_length]; exact nDigits_le 4 _ (by decide) (by omega)
  have hR := repeat_c (4 - nDigits A[j]) (by omega)
  have hw4 : IntKind.i64.wrap (4 - ((decDigits A[j]).length : Int)) = ((4 - nDigits A[j] : Nat) : Int) := by rw [decDigits_length] at hlen ⊢; rw [wrap_in (by omega) (by omega)]; omega
  have hcat := dec_limb hvp hd0
  rw [← hv1] at hcat
  have hnew : 0 < valN (A.drop j) := by omega
  have hs1 : BS (List.replicate (4 - nDigits A[j]) 48) ++ BS (decDigits A[j]) = BS (List.replicate (4 - nDigits A[j]) 48 ++ decDigits A[j]) := BS_app _ _
  have b1 : (List.replicate (4 - nDigits A[j]) (48 : UInt8)).length + (decDigits A[j]).length ≤ 9223372036854775807 := by rw [List.length_replicate]; omega
  have b2 : (decDigits (valN (A.drop (j + 1)))).length + (List.replicate (4 - nDigits A[j]) (48 : UInt8) ++ decDigits A[j]).length ≤ 9223372036854775807 := by
    have h1 := valN_lt (l := A.drop (j + 1)) (fun x hx => da x (List.mem_of_mem_drop hx))
    rw [show (10000 : Nat) = 10 ^ 4 from rfl, ← Nat.pow_mul, List.length_drop] at h1
    have h2 := nDigits_le (4 * (A.length - (j + 1))) _ (by omega) h1
    rw [List.length_append, List.length_replicate, decDigits_length]
    omega
  have hs : BS (decDigits (valN (A.drop (j + 1)))) ++ BS (List.replicate (4 - nDigits A[j]) 48 ++ decDigits A[j]) = BS (decDigits (valN (A.drop j))) := by rw [BS_app, hcat]
  clear hcat hv1
  generalize List.replicate (4 - nDigits A[j]) (48 : UInt8) = RP at *
  generalize hPd : RP ++ decDigits A[j] = PD at *
  repeat' first | ((with_reducible (first | refine condD ?_ ?_ | refine condE ?_ ?_ | refine condN ?_ ?_ | refine condI ?_ ?_ | refine condS ?_ ?_)) <;> intro h) | ((with_reducible (first | refine guardD (by with_unfolding_all rfl) ?_ ?_ | refine guardE (by with_unfolding_all rfl) ?_ ?_ | refine guardN (by with_unfolding_all rfl) ?_ ?_ | refine guardI (by with_unfolding_all rfl) ?_ ?_ | refine guardS (by with_unfolding_all rfl) ?_ ?_)) <;> intro h) | ((refine callG hI ?_)) | ((refine callG hR ?_)) | (with_reducible refine And.intro ?_ ?_; omega) | (simp only [Z0,Z1,Z2,Z3,Z4,Z5,Z6,Z7,Z8,Z9,Za,Zb,Zc,Zd,Ze,Zf,List.cons.injEq,Zg,Zh,Zi,Zj,Zk,Zl,Zm,Zn,Zo,Zp,beq_self_eq_true,bne_self_eq_false,decide_true,decide_false,Zq,Zr,Zs,Zt,Zu,Zv,Zw,Zx,Zy,Zz,Y0,Y1,Y2,Y3,Y4,Y5,Y6,x_c,x_o,x_l,x_b,g_b,Y7,Y8,Y9,Ya,Yb,Yc,Yd,Ye,Yf,Yg,lk,ef,Yh,Yi,Yj,Yk,Yl,Ym,Yn,Yo,Yp,Yq,Yr,Ys,Yt,Yu,Yv,Yw,Yx,Yy,Yz,X0,X1,X2,X3,X4,X5,X6,X7,X8,X9,Xa,Xb,Xc,Xd,Xe,Xf,hv,Xg,ev,Xh,Xi,Xj,Xk,Xl,Xm,Xn,Xo,Xp,Xq,Xr,Xs,Xt,Xu,Xv,Xw,Xx,Xy,Xz,W0,W1,vun,bnd,W2,W3,W4,zav,W5,W6,W7,W8,W9,Wa,Value.oneCell',Wb,Wc,Wd,We,true_and,and_true,and_self,implies_true,Wf,Wg,Wh,Wi,false_implies,Wj,Wk,Wl,Wm,Wn,Wo,Wp,Wq,Wr,Ws,Wt,Wu,Wv,Ww,Wx,Wy,Wz,reduceCtorEq,if_true,if_false,V0,↓reduceIte,V1,V2,V3,V4,V5,V6,ne_eq,not_false_eq_true,not_true_eq_false,V7,V8,r36_0,r36_1,r36_2,r36_3,r36_4,r36_5,r36_7,r36_8,r36_6,r36_9,p36,l36_0,ej,hki,i2,wj,gA,hw4,hs1,hs,b1,b2,BS_48,BS_size,List.length_map]) | (exfalso; omega)
  all_goals first | omega | exact again hJ j (weak_mk (by simp only [wk_cons,wk_nil,wk1,vint_eq,vbool_eq,V9,Z0,Z1,Z2,Z3,Z4,Z5,Z6,Z7,Z8,Z9,Za,Zb,Zc,Zd,Ze,Zf,List.cons.injEq,Zg,Zh,Zi,Zj,Zk,Zl,Zm,Zn,Zo,Zp,beq_self_eq_true,bne_self_eq_false,decide_true,decide_false,Zq,Zr,Zs,Zt,Zu,Zv,Zw,Zx,Zy,Zz,Y0,Y1,Y2,Y3,Y4,Y5,Y6,x_c,x_o,x_l,x_b,g_b,Y7,Y8,Y9,Ya,Yb,Yc,Yd,Ye,Yf,Yg,lk,ef,Yh,Yi,Yj,Yk,Yl,Ym,Yn,Yo,Yp,Yq,Yr,Ys,Yt,Yu,Yv,Yw,Yx,Yy,Yz,X0,X1,X2,X3,X4,X5,X6,X7,X8,X9,Xa,Xb,Xc,Xd,Xe,Xf,hv,Xg,ev,Xh,Xi,Xj,Xk,Xl,Xm,Xn,Xo,Xp,Xq,Xr,Xs,Xt,Xu,Xv,Xw,Xx,Xy,Xz,W0,W1,vun,bnd,W2,W3,W4,zav,W5,W6,W7,W8,W9,Wa,Value.oneCell',Wb,Wc,Wd,We,true_and,and_true,and_self,implies_true,Wf,Wg,Wh,Wi,false_implies,Wj,Wk,Wl,Wm,Wn,Wo,Wp,Wq,Wr,Ws,Wt,Wu,Wv,Ww,Wx,Wy,Wz,reduceCtorEq,if_true,if_false,V0,↓reduceIte,V1,V2,V3,V4,V5,V6,ne_eq,not_false_eq_true,not_true_eq_false,V7,Nat.zero_ne_one])) ⟨by omega, hnew⟩ (by omega)
/-! headend/headendref1.Round -/
def r24_0 : List POp := [⟨3, .boxs (.t 0), none⟩,
  ⟨6, .asg (.c (.int .i64 0)), none⟩,
  ⟨7, .asg (.c (.bool false)), none⟩]
def r24_1 : List POp := [⟨11, .loads 3 (.t 3), none⟩,
  ⟨12, .mv (.t 1), none⟩,
  ⟨13, .call 31 [.t 11, .t 12], none⟩,
  ⟨8, .asg (.t 13), none⟩]
def r24_2 : List POp := [⟨14, .mv (.t 8), none⟩,
  ⟨15, .mv (.t 2), none⟩,
  ⟨16, .call 34 [.t 15], none⟩,
  ⟨17, .call 33 [.t 16], none⟩,
  ⟨18, .call 32 [.t 14, .t 17], none⟩,
  ⟨19, .bin .gtr (.t 18) (.c (.int .i64 0)), none⟩]
def r24_3 : List POp := [⟨6, .asg (.c (.int .i64 0)), none⟩,
  ⟨7, .asg (.c (.bool false)), none⟩]
def r24_4 : List POp := [⟨21, .mv (.t 8), none⟩,
  ⟨22, .call 36 [.t 21], none⟩,
  ⟨23, .call 35 [.t 22], none⟩,
  ⟨20, .mv (.t 23), none⟩,
  ⟨24, .ext 0 (.t 20), none⟩,
  ⟨25, .ext 1 (.t 20), none⟩,
  ⟨9, .mv (.t 24), none⟩,
  ⟨10, .asg (.t 25), none⟩]
def r24_5 : List POp := [⟨26, .fld 0 (.t 3), none⟩,
  ⟨27, .load (.t 26), none⟩]
def r24_6 : List POp := [⟨28, .mv (.t 9), none⟩,
  ⟨29, .un .neg (.t 28), none⟩,
  ⟨9, .asg (.t 29), none⟩]
def r24_7 : List POp := [⟨30, .mv (.t 9), none⟩,
  ⟨6, .asg (.t 30), none⟩,
  ⟨7, .asg (.c (.bool true)), none⟩]
def p24 : PCode := .seq (.ops r24_0) (.seq (.ops r24_1) (.seq (.seq (.ops r24_2) (.cond (.t 19) (.seq (.ops r24_3) (.ret)) (.skip))) (.seq (.ops r24_4) (.seq (.seq (.ops r24_5) (.cond (.t 27) (.ops r24_6) (.skip))) (.seq (.ops r24_7) (.ret))))))
theorem ok24 : okFunc Tryd.prog 24 [.t 6, .t 7] 3 p24 = true := by kernel_rfl
set_option maxRecDepth 20000 in
set_option maxHeartbeats 2000000 in
/-- Rounded to a whole number that is not greater than most (18 digits). -/
theorem round18_c (z : Int) (q : Nat) (way : Int) (most : Nat) (hm : most < 1000000000000000000) (hq : 0 < q) (h1 : (lm z.natAbs).length ≤ 700) (h2 : (lm q).length ≤ 700) :
    CallOK Tryd.prog 24 [.agg (RQ z q), .val (.int .i64 way), .val (.int .i64 most)]
      (.tup [.val (.int .i64 (if most < rndN (decide (z < 0)) z.natAbs q way then 0 else if z < 0 then -(rndN (decide (z < 0)) z.natAbs q way : Int) else rndN (decide (z < 0)) z.natAbs q way)), .val (.bool (decide (rndN (decide (z < 0)) z.natAbs q way ≤ most)))]) := by
  refine call_of mixed ok24 rfl ?_
  have hRd := round_q z q way hq (by omega) (by omega)
  have hNl : (lm (rndN (decide (z < 0)) z.natAbs q way)).length ≤ 800 := by
    have h := lm_below z.natAbs
    obtain ⟨K, hK⟩ : ∃ K, K = 700 := ⟨_, rfl⟩
    have h3 : 10000 ^ (lm z.natAbs).length ≤ 10000 ^ K := Nat.pow_le_pow_right (by decide) (by omega)
    have h4 : z.natAbs / q ≤ z.natAbs := Nat.div_le_self _ _
    have h5 : rndN (decide (z < 0)) z.natAbs q way ≤ z.natAbs + 1 := by unfold rndN; split <;> omega
    refine Nat.le_trans (lm_len (k := K + 1) ?_) (by omega)
    have h7 : 10000 ^ (K + 1) = 10000 ^ K * 10000 := Nat.pow_succ _ _
    generalize 10000 ^ K = P7 at *
    rw [h7]
    omega
  obtain ⟨N, hN⟩ : ∃ N, N = rndN (decide (z < 0)) z.natAbs q way := ⟨_, rfl⟩
  rw [← hN] at hRd hNl ⊢
  have hI := itoa_c most (by omega)
  have hdl : (decDigits most).length ≤ 18 := by rw [decDigits_length]; exact nDigits_le 18 _ (by decide) (by omega)
  have hL := limbs_c (decDigits most) (dec_digN most) (by omega)
  rw [num_dec2] at hL
  have hC := compare_c N most (by omega)
  have hsgn : RQ z q = [.val (.bool (decide (z < 0))), (RQ z q)[1]'(by simp [RQ, numAV]), (RQ z q)[2]'(by simp [RQ, numAV])] := rfl
  obtain ⟨T, B, hTB⟩ : ∃ T B, RQ z q = [.val (.bool (decide (z < 0))), T, B] := ⟨_, _, hsgn⟩
  rw [hTB] at hRd ⊢
  clear hTB hsgn
  by_cases hbig : most < N
  · have e1 : cmpN N most = 1 := by rw [cmpN, if_neg (by omega), if_pos hbig]
    rw [if_pos hbig, decide_eq_false (by omega)]
    rw [e1] at hC
    generalize decDigits most = DM at *
    repeat' first | ((with_reducible (first | refine condD ?_ ?_ | refine condE ?_ ?_ | refine condN ?_ ?_ | refine condI ?_ ?_ | refine condS ?_ ?_)) <;> intro h) | ((with_reducible (first | refine guardD (by with_unfolding_all rfl) ?_ ?_ | refine guardE (by with_unfolding_all rfl) ?_ ?_ | refine guardN (by with_unfolding_all rfl) ?_ ?_ | refine guardI (by with_unfolding_all rfl) ?_ ?_ | refine guardS (by with_unfolding_all rfl) ?_ ?_)) <;> intro h) | ((refine callG hRd ?_)) | ((refine callG hI ?_)) | ((refine callG hL ?_)) | ((refine callG hC ?_)) | (with_reducible refine And.intro ?_ ?_; omega) | (simp only [Z0,Z1,Z2,Z3,Z4,Z5,Z6,Z7,Z8,Z9,Za,Zb,Zc,Zd,Ze,Zf,List.cons.injEq,Zg,Zh,Zi,Zj,Zk,Zl,Zm,Zn,Zo,Zp,beq_self_eq_true,bne_self_eq_false,decide_true,decide_false,Zq,Zr,Zs,Zt,Zu,Zv,Zw,Zx,Zy,Zz,Y0,Y1,Y2,Y3,Y4,Y5,Y6,x_c,x_o,x_l,x_b,g_b,Y7,Y8,Y9,Ya,Yb,Yc,Yd,Ye,Yf,Yg,lk,ef,Yh,Yi,Yj,Yk,Yl,Ym,Yn,Yo,Yp,Yq,Yr,Ys,Yt,Yu,Yv,Yw,Yx,Yy,Yz,X0,X1,X2,X3,X4,X5,X6,X7,X8,X9,Xa,Xb,Xc,Xd,Xe,Xf,hv,Xg,ev,Xh,Xi,Xj,Xk,Xl,Xm,Xn,Xo,Xp,Xq,Xr,Xs,Xt,Xu,Xv,Xw,Xx,Xy,Xz,W0,W1,vun,bnd,W2,W3,W4,zav,W5,W6,W7,W8,W9,Wa,Value.oneCell',Wb,Wc,Wd,We,true_and,and_true,and_self,implies_true,Wf,Wg,Wh,Wi,false_implies,Wj,Wk,Wl,Wm,Wn,Wo,Wp,Wq,Wr,Ws,Wt,Wu,Wv,Ww,Wx,Wy,Wz,reduceCtorEq,if_true,if_false,V0,↓reduceIte,V1,V2,V3,V4,V5,V6,ne_eq,not_false_eq_true,not_true_eq_false,V7,V8,r24_0,r24_1,r24_2,r24_3,r24_4,r24_5,r24_6,r24_7,p24]) | (exfalso; omega)
  have hle : ¬ (0 : Int) < cmpN N most := by
    unfold cmpN
    split
    · decide
    · first | decide | (split <;> first | decide | omega)
  have hD := digits_c N (by omega)
  have hdn : (decDigits N).length ≤ 18 := by rw [decDigits_length]; exact nDigits_le 18 _ (by decide) (by omega)
  have hA := atoi_c (decDigits N) (fun e => by
    have h3 := decDigits_length N
    rw [e] at h3
    by_cases h : N < 10
    · rw [nDigits_small h] at h3; simp at h3
    · rw [nDigits_big h] at h3; simp at h3) hdn (dec_digN N)
  rw [num_dec2] at hA
  rw [if_neg hbig, decide_eq_true (by omega)]
  generalize cmpN N most = cc at *
  generalize decDigits most = DM at *
  generalize decDigits N = DN at *
  by_cases hz : z < 0
  · rw [decide_eq_true hz] at hRd ⊢
    rw [if_pos hz]
    have wn : IntKind.i64.wrap (0 - (N : Int)) = -(N : Int) := by rw [wrap_in (by omega) (by omega)]; omega
    repeat' first | ((with_reducible (first | refine condD ?_ ?_ | refine condE ?_ ?_ | refine condN ?_ ?_ | refine condI ?_ ?_ | refine condS ?_ ?_)) <;> intro h) | ((with_reducible (first | refine guardD (by with_unfolding_all rfl) ?_ ?_ | refine guardE (by with_unfolding_all rfl) ?_ ?_ | refine guardN (by with_unfolding_all rfl) ?_ ?_ | refine guardI (by with_unfolding_all rfl) ?_ ?_ | refine guardS (by with_unfolding_all rfl) ?_ ?_)) <;> intro h) | ((refine callG hRd ?_)) | ((refine callG hI ?_)) | ((refine callG hL ?_)) | ((refine callG hC ?_)) | ((refine callG hD ?_)) | ((refine callG hA ?_)) | (with_reducible refine And.intro ?_ ?_; omega) | (simp only [Z0,Z1,Z2,Z3,Z4,Z5,Z6,Z7,Z8,Z9,Za,Zb,Zc,Zd,Ze,Zf,List.cons.injEq,Zg,Zh,Zi,Zj,Zk,Zl,Zm,Zn,Zo,Zp,beq_self_eq_true,bne_self_eq_false,decide_true,decide_false,Zq,Zr,Zs,Zt,Zu,Zv,Zw,Zx,Zy,Zz,Y0,Y1,Y2,Y3,Y4,Y5,Y6,x_c,x_o,x_l,x_b,g_b,Y7,Y8,Y9,Ya,Yb,Yc,Yd,Ye,Yf,Yg,lk,ef,Yh,Yi,Yj,Yk,Yl,Ym,Yn,Yo,Yp,Yq,Yr,Ys,Yt,Yu,Yv,Yw,Yx,Yy,Yz,X0,X1,X2,X3,X4,X5,X6,X7,X8,X9,Xa,Xb,Xc,Xd,Xe,Xf,hv,Xg,ev,Xh,Xi,Xj,Xk,Xl,Xm,Xn,Xo,Xp,Xq,Xr,Xs,Xt,Xu,Xv,Xw,Xx,Xy,Xz,W0,W1,vun,bnd,W2,W3,W4,zav,W5,W6,W7,W8,W9,Wa,Value.oneCell',Wb,Wc,Wd,We,true_and,and_true,and_self,implies_true,Wf,Wg,Wh,Wi,false_implies,Wj,Wk,Wl,Wm,Wn,Wo,Wp,Wq,Wr,Ws,Wt,Wu,Wv,Ww,Wx,Wy,Wz,reduceCtorEq,if_true,if_false,V0,↓reduceIte,V1,V2,V3,V4,V5,V6,ne_eq,not_false_eq_true,not_true_eq_false,V7,V8,r24_0,r24_1,r24_2,r24_3,r24_4,r24_5,r24_6,r24_7,p24,hle,wn]) | (exfalso; omega)
  · rw [decide_eq_false hz] at hRd ⊢
    rw [if_neg hz]
    repeat' first | ((with_reducible (first | refine condD ?_ ?_ | refine condE ?_ ?_ | refine condN ?_ ?_ | refine condI ?_ ?_ | refine condS ?_ ?_)) <;> intro h) | ((with_reducible (first | refine guardD (by with_unfolding_all rfl) ?_ ?_ | refine guardE (by with_unfolding_all rfl) ?_ ?_ | refine guardN (by with_unfolding_all rfl) ?_ ?_ | refine guardI (by with_unfolding_all rfl) ?_ ?_ | refine guardS (by with_unfolding_all rfl) ?_ ?_)) <;> intro h) | ((refine callG hRd ?_)) | ((refine callG hI ?_)) | ((refine callG hL ?_)) | ((refine callG hC ?_)) | ((refine callG hD ?_)) | ((refine callG hA ?_)) | (with_reducible refine And.intro ?_ ?_; omega) | (simp only [Z0,Z1,Z2,Z3,Z4,Z5,Z6,Z7,Z8,Z9,Za,Zb,Zc,Zd,Ze,Zf,List.cons.injEq,Zg,Zh,Zi,Zj,Zk,Zl,Zm,Zn,Zo,Zp,beq_self_eq_true,bne_self_eq_false,decide_true,decide_false,Zq,Zr,Zs,Zt,Zu,Zv,Zw,Zx,Zy,Zz,Y0,Y1,Y2,Y3,Y4,Y5,Y6,x_c,x_o,x_l,x_b,g_b,Y7,Y8,Y9,Ya,Yb,Yc,Yd,Ye,Yf,Yg,lk,ef,Yh,Yi,Yj,Yk,Yl,Ym,Yn,Yo,Yp,Yq,Yr,Ys,Yt,Yu,Yv,Yw,Yx,Yy,Yz,X0,X1,X2,X3,X4,X5,X6,X7,X8,X9,Xa,Xb,Xc,Xd,Xe,Xf,hv,Xg,ev,Xh,Xi,Xj,Xk,Xl,Xm,Xn,Xo,Xp,Xq,Xr,Xs,Xt,Xu,Xv,Xw,Xx,Xy,Xz,W0,W1,vun,bnd,W2,W3,W4,zav,W5,W6,W7,W8,W9,Wa,Value.oneCell',Wb,Wc,Wd,We,true_and,and_true,and_self,implies_true,Wf,Wg,Wh,Wi,false_implies,Wj,Wk,Wl,Wm,Wn,Wo,Wp,Wq,Wr,Ws,Wt,Wu,Wv,Ww,Wx,Wy,Wz,reduceCtorEq,if_true,if_false,V0,↓reduceIte,V1,V2,V3,V4,V5,V6,ne_eq,not_false_eq_true,not_true_eq_false,V7,V8,r24_0,r24_1,r24_2,r24_3,r24_4,r24_5,r24_6,r24_7,p24,hle]) | (exfalso; omega)
end Go.Proofs.YtjeemcpdmiajmaaDoor
