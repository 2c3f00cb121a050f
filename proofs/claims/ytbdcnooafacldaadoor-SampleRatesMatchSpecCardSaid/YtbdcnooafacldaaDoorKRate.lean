/- Rates: sample.parcelFault, total, LeastRate, delay, Delay, Fullness, by the machine on data. -/
import Derived.Test.YtbdcnooafacldaaDoorKPar
import Derived.Test.YtbdcnooafacldaaDoorKScl
namespace Go.Proofs.YtbdcnooafacldaaDoor
open Go.RowKit
open Go.Proofs.YtbdcnooafacldaaDoor renaming done_eq → Z0, done_eq' → Z1, donet_eq → Z2, donet_eq' → Z3, fin_val → Z4, fin_tup → Z5, fin_agg → Z6, fin_ro → Z7, res_one → Z8, res_more → Z9, rv_t → Za, rv_c → Zb, rv_l → Zc, int_eq → Zg, bool_eq → Zh, toNat_pred → Zr, toNat_succ → Zs, cnd_t → Zu, cnd_f → Zv, grd_tt → Zw, grd_u → Zx, grd_tf → Zy, grd_ft → Zz, grd_ff → Y0, g_skip → Y1, g_ops → Y2, g_seq → Y3, g_block → Y4, g_exit → Y5, g_ret → Y6, x_c → Y7, x_o → Y8, x_l → Y9, x_b → Ya, g_b → Yb, g_nil → Yc, r_all → Yd, o_nil → Ye, g_cond → Yf, o_guard → Yg, o_call → Yh, o_callm → Yi, o_callt → Yj, o_callx → Yk, o_callv → Yl, o_mv → Ym, o_pick → Yn, o_bin → Yo, o_never → Yp, o_eqs → Yq, o_eqb → Yr, o_un → Ys, o_conv → Yt, o_load → Yu, o_loadr → Yv, o_idxr → Yw, o_loads → Yx, o_fld → Yy, o_idx → Yz, o_idxs → X0, o_len → X1, o_lens → X2, o_ext → X3, o_nilck → X4, o_slc → X5, o_slcs → X6, o_build → X7, o_minmax → X8, o_mkfn → X9, o_alloc → Xa, o_box → Xb, o_boxs → Xc, o_row → Xd, o_rowr → Xe, o_mk → Xf, o_asg → Xg, o_app → Xh, o_store → Xi, o_stores → Xj, o_eqnil → Xk, eqAV → Xl, view_t → Xm, view_c → Xn, view_nil → Xo, view_fn → Xp, look_own → Xq, look_box → Xr, look_junk → Xs, look_val → Xt, look_nilsl → Xu, look_ro → Xv, look_roAt → Xw, look_agg → Xx, look_tup → Xy, look_clo → Xz, look_alias → W0, look_ref → W1, look_into → W2, rowOf → W3, cellsOf → W4, argv → W5, vbin → W6, vun → W7, bnd → W8, elemOf → W9, putParts → Wa, setAt → Wb, zav → Wc, put_at → Wj, mk_at → Wk, mk_nil → Wl, initSt → Wm, wk_cons → Vh, wk_nil → Vi, vint_eq → Vj, vbool_eq → Vk
open Go.Proofs.YtbdcnooafacldaaDoor.AV.tup renaming injEq → Zd
open Go.Proofs.YtbdcnooafacldaaDoor.AV.agg renaming injEq → Ze
open Go.Proofs.YtbdcnooafacldaaDoor.AV.ro renaming injEq → Zf
open _root_.Int renaming toNat_natCast → Zi, reduceToNat → Zj, toNat_zero → Zk, toNat_one → Zl, reduceLE → Zm, reduceLT → Zn, reduceBEq → Zo, reduceBNe → Zp, reduceNeg → Zq
open _root_.List renaming length_map → Zt, map_cons → Wn, map_nil → Wo, forall_mem_cons → Wp, not_mem_nil → Wq, length_cons → Wr, length_nil → Ws, getD_cons_zero → Wt, getD_cons_succ → Wu, getD_nil → Wv, drop_succ_cons → Ww, drop_zero → Wx, take_succ_cons → Wy, take_zero → Wz, set_cons_zero → V0, set_cons_succ → V1, all_cons → V2, all_nil → V3
open Go.Proofs.YtbdcnooafacldaaDoor.ASt renaming rid → Wd, free → We
open Go.Proofs.YtbdcnooafacldaaDoor.AV renaming kill → Wf, isHome → Wg, noLoan → Wh, cellOK → Wi
open _root_.Bool renaming and_true → V4, true_and → V5, not_true → V6, not_false → V7, false_eq_true → V8
open _root_.Nat renaming reduceEqDiff → V9, reduceAdd → Va, reduceSub → Vb, reduceMul → Vc, reduceLeDiff → Vd, reduceLT → Ve, one_ne_zero → Vf, zero_ne_one → Vg
open Go.Proofs.YtbdcnooafacldaaDoor.AV.val renaming injEq → Vl
set_option linter.unusedSimpArgs false
--@short

/-- A quotient, rounded up. -/
def cdiv (Q a : Nat) : Nat := Q / a + if 0 < Q % a then 1 else 0
theorem cdiv_le {Q a m : Nat} (h : 0 < a) : cdiv Q a ≤ m ↔ Q ≤ m * a := by
  unfold cdiv
  have h1 := Nat.div_add_mod Q a
  have h2 := Nat.mod_lt Q h
  constructor
  · intro hm
    split at hm
    · have : (Q / a + 1) * a ≤ m * a := Nat.mul_le_mul_right _ hm
      rw [Nat.add_mul, Nat.mul_comm (Q / a)] at this
      omega
    · have : Q / a * a ≤ m * a := Nat.mul_le_mul_right _ hm
      rw [Nat.mul_comm (Q / a)] at this
      omega
  · intro hm
    split
    · rename_i h3
      rcases Nat.lt_or_ge (Q / a) m with h4 | h4
      · omega
      · have : m * a ≤ Q / a * a := Nat.mul_le_mul_right _ h4
        rw [Nat.mul_comm (Q / a)] at this
        omega
    · rename_i h3
      rcases Nat.lt_or_ge m (Q / a) with h4 | h4
      · have : (m + 1) * a ≤ Q / a * a := Nat.mul_le_mul_right _ h4
        rw [Nat.add_mul, Nat.mul_comm (Q / a)] at this
        omega
      · omega
theorem cdiv_bd (Q a : Nat) : cdiv Q a ≤ Q + 1 := by
  have := Nat.div_le_self Q a
  unfold cdiv; split <;> omega
theorem scl_up {n : Int} {b p : Nat} (h0 : 0 ≤ n) (hp : 0 < p) (h : n.toNat * b ≤ 1000000000000000000) : scl n b p 3 = ((cdiv (n.toNat * b) p : Nat) : Int) := by
  rw [scl_pos _ _ _ (by omega), decide_eq_false (by omega)]
  have e : n.natAbs = n.toNat := by omega
  rw [e]
  congr 1
  have h1 : ¬ 18446744073709551616 * p ≤ n.toNat * b := by omega
  have h2 := Nat.div_le_self (n.toNat * b) p
  unfold sclA cdiv
  rw [if_neg h1]
  have r3 : rndB 3 false (n.toNat * b % p) p = decide (0 < n.toNat * b % p) := rfl
  rw [r3]
  simp only [decide_eq_true_eq]
  generalize n.toNat * b / p = q at *
  split <;> omega
theorem scl_down {n : Int} {b p : Nat} (h0 : 0 ≤ n) (hp : 0 < p) : scl n b p 1 = ((min (n.toNat * b / p) 1152921504606846976 : Nat) : Int) := by
  rw [scl_pos _ _ _ (by omega), decide_eq_false (by omega)]
  have e : n.natAbs = n.toNat := by omega
  rw [e]
  congr 1
  unfold sclA
  split
  · rename_i h
    rw [← Nat.le_div_iff_mul_le hp] at h
    omega
  · rfl
/-! headend/sample.total -/
def r26_0 : List POp := [⟨2, .asg (.c (.int .i64 0)), none⟩]
def r26_1 : List POp := [⟨3, .asg (.c (.int .i64 0)), none⟩]
def r26_2 : List POp := [⟨6, .mv (.t 0), none⟩,
  ⟨7, .len (.t 6), none⟩,
  ⟨8, .mv (.c (.int .i64 0)), none⟩]
def r26_3 : List POp := [⟨9, .bin .lss (.t 8) (.t 7), none⟩]
def r26_4 : List POp := [⟨10, .idx 5 (.t 6) (.t 8), none⟩,
  ⟨11, .loads 5 (.t 10), none⟩,
  ⟨5, .alloc [.int .i64 0, .int .i64 0, .int .i64 0, .int .i64 0, .bool false], none⟩,
  ⟨0, .stores 5 (.t 5) (.t 11), none⟩]
def r26_5 : List POp := [⟨12, .mv (.t 3), none⟩,
  ⟨13, .fld 3 (.t 5), none⟩,
  ⟨14, .load (.t 13), none⟩,
  ⟨15, .bin .add (.t 12) (.t 14), none⟩,
  ⟨3, .asg (.t 15), none⟩]
def r26_6 : List POp := [⟨16, .bin .add (.t 8) (.c (.int .i64 1)), none⟩,
  ⟨8, .mv (.t 16), none⟩]
def r26_7 : List POp := [⟨17, .mv (.t 3), none⟩,
  ⟨2, .asg (.t 17), none⟩]
def l26_0 : PCode := .seq (.ops r26_3) (.seq (.cond (.t 9) (.skip) (.exit 0)) (.seq (.block 1 (.seq (.ops r26_4) (.ops r26_5))) (.ops r26_6)))
def p26 : PCode := .seq (.ops r26_0) (.seq (.ops r26_1) (.seq (.seq (.ops r26_2) (.block 0 (.loop l26_0))) (.seq (.ops r26_7) (.ret))))
theorem ok26 : okFunc Tryd.prog 26 [.t 2] 1 p26 = true := by kernel_rfl
theorem total_c (l : List Smp) (hl : l.length ≤ 5000) (hb : ∀ s ∈ l, badSmp s = false) : CallOK Tryd.prog 26 [.ro (l.map Smp.av)] (.val (.int .i64 (sizes l))) := by
  refine call_of mixed ok26 rfl ?_
  repeat' first | ((with_reducible (first | refine condD ?_ ?_ | refine condE ?_ ?_ | refine condN ?_ ?_ | refine condI ?_ ?_ | refine condS ?_ ?_)) <;> intro h) | ((with_reducible (first | refine guardD (by with_unfolding_all rfl) ?_ ?_ | refine guardE (by with_unfolding_all rfl) ?_ ?_ | refine guardN (by with_unfolding_all rfl) ?_ ?_ | refine guardI (by with_unfolding_all rfl) ?_ ?_ | refine guardS (by with_unfolding_all rfl) ?_ ?_)) <;> intro h) | (with_reducible refine And.intro ?_ ?_; omega) | (simp only [Z0,Z1,Z2,Z3,Z4,Z5,Z6,Z7,Z8,Z9,Za,Zb,Zc,Zd,Ze,Zf,List.cons.injEq,Zg,Zh,Zi,Zj,Zk,Zl,Zm,Zn,Zo,Zp,beq_self_eq_true,bne_self_eq_false,decide_true,decide_false,Zq,Zr,Zs,Zt,Zu,Zv,Zw,Zx,Zy,Zz,Y0,Y1,Y2,Y3,Y4,Y5,Y6,Y7,Y8,Y9,Ya,Yb,Yc,Yd,Ye,Yf,Yg,Yh,Yi,Yj,Yk,Yl,lk,ef,Ym,Yn,Yo,Yp,Yq,Yr,Ys,Yt,Yu,Yv,Yw,Yx,Yy,Yz,X0,X1,X2,X3,X4,X5,X6,X7,X8,X9,Xa,Xb,Xc,Xd,Xe,Xf,Xg,Xh,Xi,Xj,Xk,hv,Xl,ev,Xm,Xn,Xo,Xp,Xq,Xr,Xs,Xt,Xu,Xv,Xw,Xx,Xy,Xz,W0,W1,W2,W3,W4,W5,W6,W7,W8,W9,Wa,Wb,Wc,Wd,We,Wf,Wg,Wh,Wi,Value.oneCell',Wj,Wk,Wl,Wm,true_and,and_true,and_self,implies_true,Wn,Wo,Wp,Wq,false_implies,Wr,Ws,Wt,Wu,Wv,Ww,Wx,Wy,Wz,V0,V1,V2,V3,V4,V5,V6,V7,reduceCtorEq,if_true,if_false,V8,↓reduceIte,V9,Va,Vb,Vc,Vd,Ve,ne_eq,not_false_eq_true,not_true_eq_false,Vf,Vg,r26_0,r26_1,r26_2,r26_3,r26_4,r26_5,r26_6,r26_7,p26]) | (exfalso; omega)
  refine loopS (fun k : Nat => mk [(3, .val (.int .i64 (sizes (l.take k)))), (6, .ro (l.map Smp.av)), (7, .val (.int .i64 l.length)), (8, .val (.int .i64 k))]) (fun k => k ≤ l.length) (fun k => l.length - k) 0 (weak_mk ?_) (Nat.zero_le _) ?_
  · simp only [Vh,Vi,wk1,Vj,Vk,Vl,Z0,Z1,Z2,Z3,Z4,Z5,Z6,Z7,Z8,Z9,Za,Zb,Zc,Zd,Ze,Zf,List.cons.injEq,Zg,Zh,Zi,Zj,Zk,Zl,Zm,Zn,Zo,Zp,beq_self_eq_true,bne_self_eq_false,decide_true,decide_false,Zq,Zr,Zs,Zt,Zu,Zv,Zw,Zx,Zy,Zz,Y0,Y1,Y2,Y3,Y4,Y5,Y6,Y7,Y8,Y9,Ya,Yb,Yc,Yd,Ye,Yf,Yg,Yh,Yi,Yj,Yk,Yl,lk,ef,Ym,Yn,Yo,Yp,Yq,Yr,Ys,Yt,Yu,Yv,Yw,Yx,Yy,Yz,X0,X1,X2,X3,X4,X5,X6,X7,X8,X9,Xa,Xb,Xc,Xd,Xe,Xf,Xg,Xh,Xi,Xj,Xk,hv,Xl,ev,Xm,Xn,Xo,Xp,Xq,Xr,Xs,Xt,Xu,Xv,Xw,Xx,Xy,Xz,W0,W1,W2,W3,W4,W5,W6,W7,W8,W9,Wa,Wb,Wc,Wd,We,Wf,Wg,Wh,Wi,Value.oneCell',Wj,Wk,Wl,Wm,true_and,and_true,and_self,implies_true,Wn,Wo,Wp,Wq,false_implies,Wr,Ws,Wt,Wu,Wv,Ww,Wx,Wy,Wz,V0,V1,V2,V3,V4,V5,V6,V7,reduceCtorEq,if_true,if_false,V8,↓reduceIte,V9,Va,Vb,Vc,Vd,Ve,ne_eq,not_false_eq_true,not_true_eq_false,Vf,Nat.zero_ne_one]
    simp [sizes]
  · rintro J hJ k hk
    simp only [Z0,Z1,Z2,Z3,Z4,Z5,Z6,Z7,Z8,Z9,Za,Zb,Zc,Zd,Ze,Zf,List.cons.injEq,Zg,Zh,Zi,Zj,Zk,Zl,Zm,Zn,Zo,Zp,beq_self_eq_true,bne_self_eq_false,decide_true,decide_false,Zq,Zr,Zs,Zt,Zu,Zv,Zw,Zx,Zy,Zz,Y0,Y1,Y2,Y3,Y4,Y5,Y6,Y7,Y8,Y9,Ya,Yb,Yc,Yd,Ye,Yf,Yg,Yh,Yi,Yj,Yk,Yl,lk,ef,Ym,Yn,Yo,Yp,Yq,Yr,Ys,Yt,Yu,Yv,Yw,Yx,Yy,Yz,X0,X1,X2,X3,X4,X5,X6,X7,X8,X9,Xa,Xb,Xc,Xd,Xe,Xf,Xg,Xh,Xi,Xj,Xk,hv,Xl,ev,Xm,Xn,Xo,Xp,Xq,Xr,Xs,Xt,Xu,Xv,Xw,Xx,Xy,Xz,W0,W1,W2,W3,W4,W5,W6,W7,W8,W9,Wa,Wb,Wc,Wd,We,Wf,Wg,Wh,Wi,Value.oneCell',Wj,Wk,Wl,Wm,true_and,and_true,and_self,implies_true,Wn,Wo,Wp,Wq,false_implies,Wr,Ws,Wt,Wu,Wv,Ww,Wx,Wy,Wz,V0,V1,V2,V3,V4,V5,V6,V7,reduceCtorEq,if_true,if_false,V8,↓reduceIte,V9,Va,Vb,Vc,Vd,Ve,ne_eq,not_false_eq_true,not_true_eq_false,Vf,Vg,r26_0,r26_1,r26_2,r26_3,r26_4,r26_5,r26_6,r26_7,p26,l26_0]
    refine condD (fun h => ?_) (fun h => ?_)
    · have hlt : k < l.length := by omega
      have hw := i_add1 k (by omega)
      have b1 := sizes_bd (l := l.take k) fun s hs => hb s (List.mem_of_mem_take hs)
      have b2 := badSmp_bd (hb l[k] (List.getElem_mem hlt))
      have hlen : (l.take k).length ≤ 5000 := by rw [List.length_take]; omega
      have hs := sizes_take hlt
      have w1 : IntKind.i64.wrap (sizes (l.take k) + l[k].size) = sizes (l.take (k + 1)) := by rw [hs]; exact wrap_in (by omega) (by omega)
      repeat' first | ((with_reducible (first | refine condD ?_ ?_ | refine condE ?_ ?_ | refine condN ?_ ?_ | refine condI ?_ ?_ | refine condS ?_ ?_)) <;> intro h) | ((with_reducible (first | refine guardD (by with_unfolding_all rfl) ?_ ?_ | refine guardE (by with_unfolding_all rfl) ?_ ?_ | refine guardN (by with_unfolding_all rfl) ?_ ?_ | refine guardI (by with_unfolding_all rfl) ?_ ?_ | refine guardS (by with_unfolding_all rfl) ?_ ?_)) <;> intro h) | (with_reducible refine And.intro ?_ ?_; omega) | (simp only [Z0,Z1,Z2,Z3,Z4,Z5,Z6,Z7,Z8,Z9,Za,Zb,Zc,Zd,Ze,Zf,List.cons.injEq,Zg,Zh,Zi,Zj,Zk,Zl,Zm,Zn,Zo,Zp,beq_self_eq_true,bne_self_eq_false,decide_true,decide_false,Zq,Zr,Zs,Zt,Zu,Zv,Zw,Zx,Zy,Zz,Y0,Y1,Y2,Y3,Y4,Y5,Y6,Y7,Y8,Y9,Ya,Yb,Yc,Yd,Ye,Yf,Yg,Yh,Yi,Yj,Yk,Yl,lk,ef,Ym,Yn,Yo,Yp,Yq,Yr,Ys,Yt,Yu,Yv,Yw,Yx,Yy,Yz,X0,X1,X2,X3,X4,X5,X6,X7,X8,X9,Xa,Xb,Xc,Xd,Xe,Xf,Xg,Xh,Xi,Xj,Xk,hv,Xl,ev,Xm,Xn,Xo,Xp,Xq,Xr,Xs,Xt,Xu,Xv,Xw,Xx,Xy,Xz,W0,W1,W2,W3,W4,W5,W6,W7,W8,W9,Wa,Wb,Wc,Wd,We,Wf,Wg,Wh,Wi,Value.oneCell',Wj,Wk,Wl,Wm,true_and,and_true,and_self,implies_true,Wn,Wo,Wp,Wq,false_implies,Wr,Ws,Wt,Wu,Wv,Ww,Wx,Wy,Wz,V0,V1,V2,V3,V4,V5,V6,V7,reduceCtorEq,if_true,if_false,V8,↓reduceIte,V9,Va,Vb,Vc,Vd,Ve,ne_eq,not_false_eq_true,not_true_eq_false,Vf,Vg,r26_0,r26_1,r26_2,r26_3,r26_4,r26_5,r26_6,r26_7,p26,l26_0,Smp.av,getD_map hlt,w1]) | (exfalso; omega)
      exact again hJ (k + 1) (weak_mk (by simp only [Vh,Vi,wk1,Vj,Vk,Vl,Z0,Z1,Z2,Z3,Z4,Z5,Z6,Z7,Z8,Z9,Za,Zb,Zc,Zd,Ze,Zf,List.cons.injEq,Zg,Zh,Zi,Zj,Zk,Zl,Zm,Zn,Zo,Zp,beq_self_eq_true,bne_self_eq_false,decide_true,decide_false,Zq,Zr,Zs,Zt,Zu,Zv,Zw,Zx,Zy,Zz,Y0,Y1,Y2,Y3,Y4,Y5,Y6,Y7,Y8,Y9,Ya,Yb,Yc,Yd,Ye,Yf,Yg,Yh,Yi,Yj,Yk,Yl,lk,ef,Ym,Yn,Yo,Yp,Yq,Yr,Ys,Yt,Yu,Yv,Yw,Yx,Yy,Yz,X0,X1,X2,X3,X4,X5,X6,X7,X8,X9,Xa,Xb,Xc,Xd,Xe,Xf,Xg,Xh,Xi,Xj,Xk,hv,Xl,ev,Xm,Xn,Xo,Xp,Xq,Xr,Xs,Xt,Xu,Xv,Xw,Xx,Xy,Xz,W0,W1,W2,W3,W4,W5,W6,W7,W8,W9,Wa,Wb,Wc,Wd,We,Wf,Wg,Wh,Wi,Value.oneCell',Wj,Wk,Wl,Wm,true_and,and_true,and_self,implies_true,Wn,Wo,Wp,Wq,false_implies,Wr,Ws,Wt,Wu,Wv,Ww,Wx,Wy,Wz,V0,V1,V2,V3,V4,V5,V6,V7,reduceCtorEq,if_true,if_false,V8,↓reduceIte,V9,Va,Vb,Vc,Vd,Ve,ne_eq,not_false_eq_true,not_true_eq_false,Vf,Nat.zero_ne_one]; exact hw)) (by omega) (by omega)
    · have hke : k = l.length := by omega
      subst hke
      rw [List.take_length]
      repeat' first | ((with_reducible (first | refine condD ?_ ?_ | refine condE ?_ ?_ | refine condN ?_ ?_ | refine condI ?_ ?_ | refine condS ?_ ?_)) <;> intro h) | ((with_reducible (first | refine guardD (by with_unfolding_all rfl) ?_ ?_ | refine guardE (by with_unfolding_all rfl) ?_ ?_ | refine guardN (by with_unfolding_all rfl) ?_ ?_ | refine guardI (by with_unfolding_all rfl) ?_ ?_ | refine guardS (by with_unfolding_all rfl) ?_ ?_)) <;> intro h) | (with_reducible refine And.intro ?_ ?_; omega) | (simp only [Z0,Z1,Z2,Z3,Z4,Z5,Z6,Z7,Z8,Z9,Za,Zb,Zc,Zd,Ze,Zf,List.cons.injEq,Zg,Zh,Zi,Zj,Zk,Zl,Zm,Zn,Zo,Zp,beq_self_eq_true,bne_self_eq_false,decide_true,decide_false,Zq,Zr,Zs,Zt,Zu,Zv,Zw,Zx,Zy,Zz,Y0,Y1,Y2,Y3,Y4,Y5,Y6,Y7,Y8,Y9,Ya,Yb,Yc,Yd,Ye,Yf,Yg,Yh,Yi,Yj,Yk,Yl,lk,ef,Ym,Yn,Yo,Yp,Yq,Yr,Ys,Yt,Yu,Yv,Yw,Yx,Yy,Yz,X0,X1,X2,X3,X4,X5,X6,X7,X8,X9,Xa,Xb,Xc,Xd,Xe,Xf,Xg,Xh,Xi,Xj,Xk,hv,Xl,ev,Xm,Xn,Xo,Xp,Xq,Xr,Xs,Xt,Xu,Xv,Xw,Xx,Xy,Xz,W0,W1,W2,W3,W4,W5,W6,W7,W8,W9,Wa,Wb,Wc,Wd,We,Wf,Wg,Wh,Wi,Value.oneCell',Wj,Wk,Wl,Wm,true_and,and_true,and_self,implies_true,Wn,Wo,Wp,Wq,false_implies,Wr,Ws,Wt,Wu,Wv,Ww,Wx,Wy,Wz,V0,V1,V2,V3,V4,V5,V6,V7,reduceCtorEq,if_true,if_false,V8,↓reduceIte,V9,Va,Vb,Vc,Vd,Ve,ne_eq,not_false_eq_true,not_true_eq_false,Vf,Vg,r26_0,r26_1,r26_2,r26_3,r26_4,r26_5,r26_6,r26_7,p26,l26_0]) | (exfalso; omega)
/-- The largest need less time: from the k-th sample on. -/
def needs (t0 scale rate : Int) (m b : Int) : List Smp → Int
  | [] => m
  | s :: r => needs t0 scale rate (max m ((cdiv ((b + s.size).toNat * scale.toNat) rate.toNat : Nat) - (s.time - t0))) (b + s.size) r
def delayF (p : Par) (rate : Int) : Int := needs (p.smps.headD ⟨0, 0, 0, 0, false⟩).time p.scale rate 0 0 p.smps
/-! headend/sample.delay -/
def r32_0 : List POp := [⟨2, .boxs (.t 0), none⟩,
  ⟨4, .asg (.c (.int .i64 0)), none⟩]
def r32_1 : List POp := [⟨5, .asg (.c (.int .i64 0)), none⟩,
  ⟨6, .asg (.c (.int .i64 0)), none⟩]
def r32_2 : List POp := [⟨9, .fld 1 (.t 2), none⟩,
  ⟨10, .load (.t 9), none⟩,
  ⟨11, .len (.t 10), none⟩,
  ⟨12, .mv (.c (.int .i64 0)), none⟩]
def r32_3 : List POp := [⟨13, .bin .lss (.t 12) (.t 11), none⟩]
def r32_4 : List POp := [⟨14, .idx 5 (.t 10) (.t 12), none⟩,
  ⟨15, .loads 5 (.t 14), none⟩,
  ⟨8, .alloc [.int .i64 0, .int .i64 0, .int .i64 0, .int .i64 0, .bool false], none⟩,
  ⟨0, .stores 5 (.t 8) (.t 15), none⟩]
def r32_5 : List POp := [⟨16, .mv (.t 6), none⟩,
  ⟨17, .fld 3 (.t 8), none⟩,
  ⟨18, .load (.t 17), none⟩,
  ⟨19, .bin .add (.t 16) (.t 18), none⟩,
  ⟨6, .asg (.t 19), none⟩]
def r32_6 : List POp := [⟨20, .mv (.t 5), none⟩,
  ⟨21, .mv (.t 6), none⟩,
  ⟨22, .fld 0 (.t 2), none⟩,
  ⟨23, .load (.t 22), none⟩,
  ⟨24, .mv (.t 1), none⟩,
  ⟨25, .call 25 [.t 21, .t 23, .t 24, .c (.int .i64 3)], none⟩,
  ⟨26, .fld 0 (.t 8), none⟩,
  ⟨27, .load (.t 26), none⟩,
  ⟨28, .fld 1 (.t 2), none⟩,
  ⟨29, .load (.t 28), none⟩,
  ⟨30, .idx 5 (.t 29) (.c (.int .i64 0)), none⟩,
  ⟨31, .fld 0 (.t 30), none⟩,
  ⟨32, .load (.t 31), none⟩,
  ⟨33, .bin .sub (.t 27) (.t 32), none⟩,
  ⟨34, .bin .sub (.t 25) (.t 33), none⟩,
  ⟨35, .minmax true (.t 20) (.t 34), none⟩,
  ⟨5, .asg (.t 35), none⟩]
def r32_7 : List POp := [⟨36, .bin .add (.t 12) (.c (.int .i64 1)), none⟩,
  ⟨12, .mv (.t 36), none⟩]
def r32_8 : List POp := [⟨37, .mv (.t 5), none⟩,
  ⟨4, .asg (.t 37), none⟩]
def l32_0 : PCode := .seq (.ops r32_3) (.seq (.cond (.t 13) (.skip) (.exit 0)) (.seq (.block 1 (.seq (.ops r32_4) (.seq (.ops r32_5) (.ops r32_6)))) (.ops r32_7)))
def p32 : PCode := .seq (.ops r32_0) (.seq (.ops r32_1) (.seq (.seq (.ops r32_2) (.block 0 (.loop l32_0))) (.seq (.ops r32_8) (.ret))))
theorem ok32 : okFunc Tryd.prog 32 [.t 4] 2 p32 = true := by kernel_rfl
theorem delay_c (p : Par) (rate : Int) (h : parF p = 0) (hr : outB rate 1 1000000000 = false) : CallOK Tryd.prog 32 [.agg p.av, .val (.int .i64 rate)] (.val (.int .i64 (delayF p rate))) := by
  refine call_of mixed ok32 rfl ?_
  obtain ⟨hl, hb, s1, s2, ht⟩ := par_facts h
  have br := outB_f hr
  obtain ⟨t0, ht0⟩ : ∃ t0, t0 = (p.smps.headD ⟨0, 0, 0, 0, false⟩).time := ⟨_, rfl⟩
  have hF : delayF p rate = needs t0 p.scale rate 0 0 p.smps := by rw [ht0]; rfl
  rw [← ht0] at ht
  obtain ⟨scale, l⟩ := p
  simp only at hl hb s1 s2 ht hF ht0
  repeat' first | ((with_reducible (first | refine condD ?_ ?_ | refine condE ?_ ?_ | refine condN ?_ ?_ | refine condI ?_ ?_ | refine condS ?_ ?_)) <;> intro h) | ((with_reducible (first | refine guardD (by with_unfolding_all rfl) ?_ ?_ | refine guardE (by with_unfolding_all rfl) ?_ ?_ | refine guardN (by with_unfolding_all rfl) ?_ ?_ | refine guardI (by with_unfolding_all rfl) ?_ ?_ | refine guardS (by with_unfolding_all rfl) ?_ ?_)) <;> intro h) | (with_reducible refine And.intro ?_ ?_; omega) | (simp only [Z0,Z1,Z2,Z3,Z4,Z5,Z6,Z7,Z8,Z9,Za,Zb,Zc,Zd,Ze,Zf,List.cons.injEq,Zg,Zh,Zi,Zj,Zk,Zl,Zm,Zn,Zo,Zp,beq_self_eq_true,bne_self_eq_false,decide_true,decide_false,Zq,Zr,Zs,Zt,Zu,Zv,Zw,Zx,Zy,Zz,Y0,Y1,Y2,Y3,Y4,Y5,Y6,Y7,Y8,Y9,Ya,Yb,Yc,Yd,Ye,Yf,Yg,Yh,Yi,Yj,Yk,Yl,lk,ef,Ym,Yn,Yo,Yp,Yq,Yr,Ys,Yt,Yu,Yv,Yw,Yx,Yy,Yz,X0,X1,X2,X3,X4,X5,X6,X7,X8,X9,Xa,Xb,Xc,Xd,Xe,Xf,Xg,Xh,Xi,Xj,Xk,hv,Xl,ev,Xm,Xn,Xo,Xp,Xq,Xr,Xs,Xt,Xu,Xv,Xw,Xx,Xy,Xz,W0,W1,W2,W3,W4,W5,W6,W7,W8,W9,Wa,Wb,Wc,Wd,We,Wf,Wg,Wh,Wi,Value.oneCell',Wj,Wk,Wl,Wm,true_and,and_true,and_self,implies_true,Wn,Wo,Wp,Wq,false_implies,Wr,Ws,Wt,Wu,Wv,Ww,Wx,Wy,Wz,V0,V1,V2,V3,V4,V5,V6,V7,reduceCtorEq,if_true,if_false,V8,↓reduceIte,V9,Va,Vb,Vc,Vd,Ve,ne_eq,not_false_eq_true,not_true_eq_false,Vf,Vg,r32_0,r32_1,r32_2,r32_3,r32_4,r32_5,r32_6,r32_7,r32_8,p32,Par.av]) | (exfalso; omega)
  refine loopS (fun q : Nat × Int => mk [(1, .val (.int .i64 rate)), (2, .box (Par.av ⟨scale, l⟩)), (5, .val (.int .i64 q.2)), (6, .val (.int .i64 (sizes (l.take q.1)))), (10, .ro (l.map Smp.av)), (11, .val (.int .i64 l.length)), (12, .val (.int .i64 q.1))])
    (fun q => q.1 ≤ l.length ∧ 0 ≤ q.2 ∧ delayF ⟨scale, l⟩ rate = needs t0 scale rate q.2 (sizes (l.take q.1)) (l.drop q.1)) (fun q => l.length - q.1) (0, 0) (weak_mk ?_) ⟨Nat.zero_le _, Int.le_refl _, by simpa [sizes] using hF⟩ ?_
  · simp only [Vh,Vi,wk1,Vj,Vk,Vl,Z0,Z1,Z2,Z3,Z4,Z5,Z6,Z7,Z8,Z9,Za,Zb,Zc,Zd,Ze,Zf,List.cons.injEq,Zg,Zh,Zi,Zj,Zk,Zl,Zm,Zn,Zo,Zp,beq_self_eq_true,bne_self_eq_false,decide_true,decide_false,Zq,Zr,Zs,Zt,Zu,Zv,Zw,Zx,Zy,Zz,Y0,Y1,Y2,Y3,Y4,Y5,Y6,Y7,Y8,Y9,Ya,Yb,Yc,Yd,Ye,Yf,Yg,Yh,Yi,Yj,Yk,Yl,lk,ef,Ym,Yn,Yo,Yp,Yq,Yr,Ys,Yt,Yu,Yv,Yw,Yx,Yy,Yz,X0,X1,X2,X3,X4,X5,X6,X7,X8,X9,Xa,Xb,Xc,Xd,Xe,Xf,Xg,Xh,Xi,Xj,Xk,hv,Xl,ev,Xm,Xn,Xo,Xp,Xq,Xr,Xs,Xt,Xu,Xv,Xw,Xx,Xy,Xz,W0,W1,W2,W3,W4,W5,W6,W7,W8,W9,Wa,Wb,Wc,Wd,We,Wf,Wg,Wh,Wi,Value.oneCell',Wj,Wk,Wl,Wm,true_and,and_true,and_self,implies_true,Wn,Wo,Wp,Wq,false_implies,Wr,Ws,Wt,Wu,Wv,Ww,Wx,Wy,Wz,V0,V1,V2,V3,V4,V5,V6,V7,reduceCtorEq,if_true,if_false,V8,↓reduceIte,V9,Va,Vb,Vc,Vd,Ve,ne_eq,not_false_eq_true,not_true_eq_false,Vf,Nat.zero_ne_one]
    simp [sizes, Par.av]
  · rintro J hJ ⟨k, m⟩ ⟨hk, hm0, hg⟩
    simp only at hk hm0 hg
    simp only [Z0,Z1,Z2,Z3,Z4,Z5,Z6,Z7,Z8,Z9,Za,Zb,Zc,Zd,Ze,Zf,List.cons.injEq,Zg,Zh,Zi,Zj,Zk,Zl,Zm,Zn,Zo,Zp,beq_self_eq_true,bne_self_eq_false,decide_true,decide_false,Zq,Zr,Zs,Zt,Zu,Zv,Zw,Zx,Zy,Zz,Y0,Y1,Y2,Y3,Y4,Y5,Y6,Y7,Y8,Y9,Ya,Yb,Yc,Yd,Ye,Yf,Yg,Yh,Yi,Yj,Yk,Yl,lk,ef,Ym,Yn,Yo,Yp,Yq,Yr,Ys,Yt,Yu,Yv,Yw,Yx,Yy,Yz,X0,X1,X2,X3,X4,X5,X6,X7,X8,X9,Xa,Xb,Xc,Xd,Xe,Xf,Xg,Xh,Xi,Xj,Xk,hv,Xl,ev,Xm,Xn,Xo,Xp,Xq,Xr,Xs,Xt,Xu,Xv,Xw,Xx,Xy,Xz,W0,W1,W2,W3,W4,W5,W6,W7,W8,W9,Wa,Wb,Wc,Wd,We,Wf,Wg,Wh,Wi,Value.oneCell',Wj,Wk,Wl,Wm,true_and,and_true,and_self,implies_true,Wn,Wo,Wp,Wq,false_implies,Wr,Ws,Wt,Wu,Wv,Ww,Wx,Wy,Wz,V0,V1,V2,V3,V4,V5,V6,V7,reduceCtorEq,if_true,if_false,V8,↓reduceIte,V9,Va,Vb,Vc,Vd,Ve,ne_eq,not_false_eq_true,not_true_eq_false,Vf,Vg,r32_0,r32_1,r32_2,r32_3,r32_4,r32_5,r32_6,r32_7,r32_8,p32,l32_0]
    refine condD (fun h => ?_) (fun h => ?_)
    · have hlt : k < l.length := by omega
      have hlt0 : 0 < l.length := by omega
      have hw := i_add1 k (by omega)
      have b1 := sizes_bd (l := l.take k) fun s hs => hb s (List.mem_of_mem_take hs)
      have b2 := badSmp_bd (hb l[k] (List.getElem_mem hlt))
      have hlen : (l.take k).length ≤ 5000 := by rw [List.length_take]; omega
      have hs := sizes_take hlt
      have hB1 := hs
      have w1 : IntKind.i64.wrap (sizes (l.take k) + l[k].size) = sizes (l.take (k + 1)) := by rw [hs]; exact wrap_in (by omega) (by omega)
      have bB : 0 ≤ sizes (l.take (k + 1)) ∧ sizes (l.take (k + 1)) ≤ 500100000 := by rw [hs]; omega
      have hr' : delayF ⟨scale, l⟩ rate = needs t0 scale rate (max m ((cdiv ((sizes (l.take (k + 1))).toNat * scale.toNat) rate.toNat : Nat) - (l[k].time - t0))) (sizes (l.take (k + 1))) (l.drop (k + 1)) := by
        rw [hg, List.drop_eq_getElem_cons hlt, needs, ← hs]
      clear hg hs hB1
      obtain ⟨B, hB⟩ : ∃ B, B = sizes (l.take (k + 1)) := ⟨_, rfl⟩
      rw [← hB] at w1 bB hr'
      have hQ : B.toNat * scale.toNat ≤ 500100000 * 1000000000 := Nat.mul_le_mul (by omega) (by omega)
      have hsc := scaledI_c B scale rate 3 (by omega) (by omega) (by omega) (by omega) (by omega) (by omega)
      rw [scl_up (by omega) (by omega) (by omega)] at hsc
      have bC := cdiv_bd (B.toNat * scale.toNat) rate.toNat
      generalize cdiv (B.toNat * scale.toNat) rate.toNat = C at *
      have t1 := ht k hlt
      have g0 := getD_map (f := Smp.av) (d := []) hlt0
      have e0 : l[0].time = t0 := by
        rw [ht0]
        cases l with
        | nil => simp at hlt0
        | cons a r => rfl
      have b3 := badSmp_bd (hb l[0] (List.getElem_mem hlt0))
      have v1 : IntKind.i64.wrap (l[k].time - l[0].time) = l[k].time - t0 := by rw [e0]; exact wrap_in (by omega) (by omega)
      have v2 : IntKind.i64.wrap ((C : Int) - (l[k].time - t0)) = C - (l[k].time - t0) := wrap_in (by omega) (by omega)
      repeat' first | ((with_reducible (first | refine condD ?_ ?_ | refine condE ?_ ?_ | refine condN ?_ ?_ | refine condI ?_ ?_ | refine condS ?_ ?_)) <;> intro h) | ((with_reducible (first | refine guardD (by with_unfolding_all rfl) ?_ ?_ | refine guardE (by with_unfolding_all rfl) ?_ ?_ | refine guardN (by with_unfolding_all rfl) ?_ ?_ | refine guardI (by with_unfolding_all rfl) ?_ ?_ | refine guardS (by with_unfolding_all rfl) ?_ ?_)) <;> intro h) | ((refine callG hsc ?_)) | (with_reducible refine And.intro ?_ ?_; omega) | (simp only [Z0,Z1,Z2,Z3,Z4,Z5,Z6,Z7,Z8,Z9,Za,Zb,Zc,Zd,Ze,Zf,List.cons.injEq,Zg,Zh,Zi,Zj,Zk,Zl,Zm,Zn,Zo,Zp,beq_self_eq_true,bne_self_eq_false,decide_true,decide_false,Zq,Zr,Zs,Zt,Zu,Zv,Zw,Zx,Zy,Zz,Y0,Y1,Y2,Y3,Y4,Y5,Y6,Y7,Y8,Y9,Ya,Yb,Yc,Yd,Ye,Yf,Yg,Yh,Yi,Yj,Yk,Yl,lk,ef,Ym,Yn,Yo,Yp,Yq,Yr,Ys,Yt,Yu,Yv,Yw,Yx,Yy,Yz,X0,X1,X2,X3,X4,X5,X6,X7,X8,X9,Xa,Xb,Xc,Xd,Xe,Xf,Xg,Xh,Xi,Xj,Xk,hv,Xl,ev,Xm,Xn,Xo,Xp,Xq,Xr,Xs,Xt,Xu,Xv,Xw,Xx,Xy,Xz,W0,W1,W2,W3,W4,W5,W6,W7,W8,W9,Wa,Wb,Wc,Wd,We,Wf,Wg,Wh,Wi,Value.oneCell',Wj,Wk,Wl,Wm,true_and,and_true,and_self,implies_true,Wn,Wo,Wp,Wq,false_implies,Wr,Ws,Wt,Wu,Wv,Ww,Wx,Wy,Wz,V0,V1,V2,V3,V4,V5,V6,V7,reduceCtorEq,if_true,if_false,V8,↓reduceIte,V9,Va,Vb,Vc,Vd,Ve,ne_eq,not_false_eq_true,not_true_eq_false,Vf,Vg,r32_0,r32_1,r32_2,r32_3,r32_4,r32_5,r32_6,r32_7,r32_8,p32,l32_0,Par.av,Smp.av,getD_map hlt,g0,w1,v1,v2]) | (exfalso; omega)
      exact again hJ (k + 1, max m (C - (l[k].time - t0))) (weak_mk (by simp only [Vh,Vi,wk1,Vj,Vk,Vl,Z0,Z1,Z2,Z3,Z4,Z5,Z6,Z7,Z8,Z9,Za,Zb,Zc,Zd,Ze,Zf,List.cons.injEq,Zg,Zh,Zi,Zj,Zk,Zl,Zm,Zn,Zo,Zp,beq_self_eq_true,bne_self_eq_false,decide_true,decide_false,Zq,Zr,Zs,Zt,Zu,Zv,Zw,Zx,Zy,Zz,Y0,Y1,Y2,Y3,Y4,Y5,Y6,Y7,Y8,Y9,Ya,Yb,Yc,Yd,Ye,Yf,Yg,Yh,Yi,Yj,Yk,Yl,lk,ef,Ym,Yn,Yo,Yp,Yq,Yr,Ys,Yt,Yu,Yv,Yw,Yx,Yy,Yz,X0,X1,X2,X3,X4,X5,X6,X7,X8,X9,Xa,Xb,Xc,Xd,Xe,Xf,Xg,Xh,Xi,Xj,Xk,hv,Xl,ev,Xm,Xn,Xo,Xp,Xq,Xr,Xs,Xt,Xu,Xv,Xw,Xx,Xy,Xz,W0,W1,W2,W3,W4,W5,W6,W7,W8,W9,Wa,Wb,Wc,Wd,We,Wf,Wg,Wh,Wi,Value.oneCell',Wj,Wk,Wl,Wm,true_and,and_true,and_self,implies_true,Wn,Wo,Wp,Wq,false_implies,Wr,Ws,Wt,Wu,Wv,Ww,Wx,Wy,Wz,V0,V1,V2,V3,V4,V5,V6,V7,reduceCtorEq,if_true,if_false,V8,↓reduceIte,V9,Va,Vb,Vc,Vd,Ve,ne_eq,not_false_eq_true,not_true_eq_false,Vf,Nat.zero_ne_one]; exact ⟨by simp [Par.av], by omega, hB, hw⟩)) ⟨by simp only; omega, by simp only; omega, by rw [← hB]; exact hr'⟩ (by simp only; omega)
    · have hke : k = l.length := by omega
      subst hke
      have hR : delayF ⟨scale, l⟩ rate = m := by rw [hg]; simp [needs]
      clear hJ hg
      repeat' first | ((with_reducible (first | refine condD ?_ ?_ | refine condE ?_ ?_ | refine condN ?_ ?_ | refine condI ?_ ?_ | refine condS ?_ ?_)) <;> intro h) | ((with_reducible (first | refine guardD (by with_unfolding_all rfl) ?_ ?_ | refine guardE (by with_unfolding_all rfl) ?_ ?_ | refine guardN (by with_unfolding_all rfl) ?_ ?_ | refine guardI (by with_unfolding_all rfl) ?_ ?_ | refine guardS (by with_unfolding_all rfl) ?_ ?_)) <;> intro h) | (with_reducible refine And.intro ?_ ?_; omega) | (simp only [Z0,Z1,Z2,Z3,Z4,Z5,Z6,Z7,Z8,Z9,Za,Zb,Zc,Zd,Ze,Zf,List.cons.injEq,Zg,Zh,Zi,Zj,Zk,Zl,Zm,Zn,Zo,Zp,beq_self_eq_true,bne_self_eq_false,decide_true,decide_false,Zq,Zr,Zs,Zt,Zu,Zv,Zw,Zx,Zy,Zz,Y0,Y1,Y2,Y3,Y4,Y5,Y6,Y7,Y8,Y9,Ya,Yb,Yc,Yd,Ye,Yf,Yg,Yh,Yi,Yj,Yk,Yl,lk,ef,Ym,Yn,Yo,Yp,Yq,Yr,Ys,Yt,Yu,Yv,Yw,Yx,Yy,Yz,X0,X1,X2,X3,X4,X5,X6,X7,X8,X9,Xa,Xb,Xc,Xd,Xe,Xf,Xg,Xh,Xi,Xj,Xk,hv,Xl,ev,Xm,Xn,Xo,Xp,Xq,Xr,Xs,Xt,Xu,Xv,Xw,Xx,Xy,Xz,W0,W1,W2,W3,W4,W5,W6,W7,W8,W9,Wa,Wb,Wc,Wd,We,Wf,Wg,Wh,Wi,Value.oneCell',Wj,Wk,Wl,Wm,true_and,and_true,and_self,implies_true,Wn,Wo,Wp,Wq,false_implies,Wr,Ws,Wt,Wu,Wv,Ww,Wx,Wy,Wz,V0,V1,V2,V3,V4,V5,V6,V7,reduceCtorEq,if_true,if_false,V8,↓reduceIte,V9,Va,Vb,Vc,Vd,Ve,ne_eq,not_false_eq_true,not_true_eq_false,Vf,Vg,r32_0,r32_1,r32_2,r32_3,r32_4,r32_5,r32_6,r32_7,r32_8,p32,l32_0]) | (exfalso; omega)
      all_goals simp [hR]
/-! headend/sample.Delay -/
def r13_0 : List POp := [⟨2, .boxs (.t 0), none⟩,
  ⟨4, .asg (.c (.int .i64 0)), none⟩,
  ⟨5, .asg (.c (.int .i64 0)), none⟩]
def r13_1 : List POp := [⟨8, .loads 2 (.t 2), none⟩,
  ⟨9, .call 19 [.t 8], none⟩,
  ⟨6, .asg (.t 9), none⟩]
def r13_2 : List POp := [⟨10, .mv (.t 6), none⟩,
  ⟨11, .bin .neq (.t 10) (.c (.int .i64 0)), none⟩]
def r13_3 : List POp := [⟨12, .mv (.t 6), none⟩,
  ⟨4, .mv (.c (.int .i64 0)), none⟩,
  ⟨5, .mv (.t 12), none⟩]
def r13_4 : List POp := [⟨13, .mv (.t 1), none⟩,
  ⟨14, .call 20 [.t 13, .c (.int .i64 1), .c (.int .i64 1000000000)], none⟩]
def r13_5 : List POp := [⟨4, .asg (.c (.int .i64 0)), none⟩,
  ⟨5, .asg (.c (.int .i64 1)), none⟩]
def r13_6 : List POp := [⟨15, .loads 2 (.t 2), none⟩,
  ⟨16, .mv (.t 1), none⟩,
  ⟨17, .call 32 [.t 15, .t 16], none⟩,
  ⟨7, .asg (.t 17), none⟩]
def r13_7 : List POp := [⟨18, .mv (.t 7), none⟩,
  ⟨19, .bin .gtr (.t 18) (.c (.int .i64 1000000000000)), none⟩]
def r13_8 : List POp := [⟨4, .asg (.c (.int .i64 0)), none⟩,
  ⟨5, .asg (.c (.int .i64 1)), none⟩]
def r13_9 : List POp := [⟨20, .mv (.t 7), none⟩,
  ⟨4, .asg (.t 20), none⟩,
  ⟨5, .asg (.c (.int .i64 0)), none⟩]
def p13 : PCode := .seq (.ops r13_0) (.seq (.seq (.ops r13_1) (.seq (.ops r13_2) (.cond (.t 11) (.seq (.ops r13_3) (.ret)) (.skip)))) (.seq (.seq (.ops r13_4) (.cond (.t 14) (.seq (.ops r13_5) (.ret)) (.skip))) (.seq (.ops r13_6) (.seq (.seq (.ops r13_7) (.cond (.t 19) (.seq (.ops r13_8) (.ret)) (.skip))) (.seq (.ops r13_9) (.ret))))))
theorem ok13 : okFunc Tryd.prog 13 [.t 4, .t 5] 2 p13 = true := by kernel_rfl
def delayP (p : Par) (rate : Int) : Int × Int := if parF p ≠ 0 then (0, parF p) else if outB rate 1 1000000000 then (0, 1) else if 1000000000000 < delayF p rate then (0, 1) else (delayF p rate, 0)
theorem delayP_c (p : Par) (rate : Int) : CallOK Tryd.prog 13 [.agg p.av, .val (.int .i64 rate)] (.tup [.val (.int .i64 (delayP p rate).1), .val (.int .i64 (delayP p rate).2)]) := by
  refine call_of mixed ok13 rfl ?_
  have hp := par_c p
  by_cases h0 : parF p = 0
  · rw [h0] at hp
    simp only [Par.av] at hp
    by_cases hr : outB rate 1 1000000000 = true
    · repeat' first | ((with_reducible (first | refine condD ?_ ?_ | refine condE ?_ ?_ | refine condN ?_ ?_ | refine condI ?_ ?_ | refine condS ?_ ?_)) <;> intro h) | ((with_reducible (first | refine guardD (by with_unfolding_all rfl) ?_ ?_ | refine guardE (by with_unfolding_all rfl) ?_ ?_ | refine guardN (by with_unfolding_all rfl) ?_ ?_ | refine guardI (by with_unfolding_all rfl) ?_ ?_ | refine guardS (by with_unfolding_all rfl) ?_ ?_)) <;> intro h) | ((refine callG hp ?_)) | ((refine callG (out_c _ _ _) ?_)) | (with_reducible refine And.intro ?_ ?_; omega) | (simp only [Z0,Z1,Z2,Z3,Z4,Z5,Z6,Z7,Z8,Z9,Za,Zb,Zc,Zd,Ze,Zf,List.cons.injEq,Zg,Zh,Zi,Zj,Zk,Zl,Zm,Zn,Zo,Zp,beq_self_eq_true,bne_self_eq_false,decide_true,decide_false,Zq,Zr,Zs,Zt,Zu,Zv,Zw,Zx,Zy,Zz,Y0,Y1,Y2,Y3,Y4,Y5,Y6,Y7,Y8,Y9,Ya,Yb,Yc,Yd,Ye,Yf,Yg,Yh,Yi,Yj,Yk,Yl,lk,ef,Ym,Yn,Yo,Yp,Yq,Yr,Ys,Yt,Yu,Yv,Yw,Yx,Yy,Yz,X0,X1,X2,X3,X4,X5,X6,X7,X8,X9,Xa,Xb,Xc,Xd,Xe,Xf,Xg,Xh,Xi,Xj,Xk,hv,Xl,ev,Xm,Xn,Xo,Xp,Xq,Xr,Xs,Xt,Xu,Xv,Xw,Xx,Xy,Xz,W0,W1,W2,W3,W4,W5,W6,W7,W8,W9,Wa,Wb,Wc,Wd,We,Wf,Wg,Wh,Wi,Value.oneCell',Wj,Wk,Wl,Wm,true_and,and_true,and_self,implies_true,Wn,Wo,Wp,Wq,false_implies,Wr,Ws,Wt,Wu,Wv,Ww,Wx,Wy,Wz,V0,V1,V2,V3,V4,V5,V6,V7,reduceCtorEq,if_true,if_false,V8,↓reduceIte,V9,Va,Vb,Vc,Vd,Ve,ne_eq,not_false_eq_true,not_true_eq_false,Vf,Vg,r13_0,r13_1,r13_2,r13_3,r13_4,r13_5,r13_6,r13_7,r13_8,r13_9,p13,Par.av,hr]) | (exfalso; omega)
      all_goals simp [delayP, h0, hr]
    · simp only [Bool.not_eq_true] at hr
      have hd := delay_c p rate h0 hr
      simp only [Par.av] at hd
      repeat' first | ((with_reducible (first | refine condD ?_ ?_ | refine condE ?_ ?_ | refine condN ?_ ?_ | refine condI ?_ ?_ | refine condS ?_ ?_)) <;> intro h) | ((with_reducible (first | refine guardD (by with_unfolding_all rfl) ?_ ?_ | refine guardE (by with_unfolding_all rfl) ?_ ?_ | refine guardN (by with_unfolding_all rfl) ?_ ?_ | refine guardI (by with_unfolding_all rfl) ?_ ?_ | refine guardS (by with_unfolding_all rfl) ?_ ?_)) <;> intro h) | ((refine callG hp ?_)) | ((refine callG (out_c _ _ _) ?_)) | ((refine callG hd ?_)) | (with_reducible refine And.intro ?_ ?_; omega) | (simp only [Z0,Z1,Z2,Z3,Z4,Z5,Z6,Z7,Z8,Z9,Za,Zb,Zc,Zd,Ze,Zf,List.cons.injEq,Zg,Zh,Zi,Zj,Zk,Zl,Zm,Zn,Zo,Zp,beq_self_eq_true,bne_self_eq_false,decide_true,decide_false,Zq,Zr,Zs,Zt,Zu,Zv,Zw,Zx,Zy,Zz,Y0,Y1,Y2,Y3,Y4,Y5,Y6,Y7,Y8,Y9,Ya,Yb,Yc,Yd,Ye,Yf,Yg,Yh,Yi,Yj,Yk,Yl,lk,ef,Ym,Yn,Yo,Yp,Yq,Yr,Ys,Yt,Yu,Yv,Yw,Yx,Yy,Yz,X0,X1,X2,X3,X4,X5,X6,X7,X8,X9,Xa,Xb,Xc,Xd,Xe,Xf,Xg,Xh,Xi,Xj,Xk,hv,Xl,ev,Xm,Xn,Xo,Xp,Xq,Xr,Xs,Xt,Xu,Xv,Xw,Xx,Xy,Xz,W0,W1,W2,W3,W4,W5,W6,W7,W8,W9,Wa,Wb,Wc,Wd,We,Wf,Wg,Wh,Wi,Value.oneCell',Wj,Wk,Wl,Wm,true_and,and_true,and_self,implies_true,Wn,Wo,Wp,Wq,false_implies,Wr,Ws,Wt,Wu,Wv,Ww,Wx,Wy,Wz,V0,V1,V2,V3,V4,V5,V6,V7,reduceCtorEq,if_true,if_false,V8,↓reduceIte,V9,Va,Vb,Vc,Vd,Ve,ne_eq,not_false_eq_true,not_true_eq_false,Vf,Vg,r13_0,r13_1,r13_2,r13_3,r13_4,r13_5,r13_6,r13_7,r13_8,r13_9,p13,Par.av,hr]) | (exfalso; omega)
      all_goals simp [delayP, h0, hr, *]
  · simp only [Par.av] at hp
    repeat' first | ((with_reducible (first | refine condD ?_ ?_ | refine condE ?_ ?_ | refine condN ?_ ?_ | refine condI ?_ ?_ | refine condS ?_ ?_)) <;> intro h) | ((with_reducible (first | refine guardD (by with_unfolding_all rfl) ?_ ?_ | refine guardE (by with_unfolding_all rfl) ?_ ?_ | refine guardN (by with_unfolding_all rfl) ?_ ?_ | refine guardI (by with_unfolding_all rfl) ?_ ?_ | refine guardS (by with_unfolding_all rfl) ?_ ?_)) <;> intro h) | ((refine callG hp ?_)) | (with_reducible refine And.intro ?_ ?_; omega) | (simp only [Z0,Z1,Z2,Z3,Z4,Z5,Z6,Z7,Z8,Z9,Za,Zb,Zc,Zd,Ze,Zf,List.cons.injEq,Zg,Zh,Zi,Zj,Zk,Zl,Zm,Zn,Zo,Zp,beq_self_eq_true,bne_self_eq_false,decide_true,decide_false,Zq,Zr,Zs,Zt,Zu,Zv,Zw,Zx,Zy,Zz,Y0,Y1,Y2,Y3,Y4,Y5,Y6,Y7,Y8,Y9,Ya,Yb,Yc,Yd,Ye,Yf,Yg,Yh,Yi,Yj,Yk,Yl,lk,ef,Ym,Yn,Yo,Yp,Yq,Yr,Ys,Yt,Yu,Yv,Yw,Yx,Yy,Yz,X0,X1,X2,X3,X4,X5,X6,X7,X8,X9,Xa,Xb,Xc,Xd,Xe,Xf,Xg,Xh,Xi,Xj,Xk,hv,Xl,ev,Xm,Xn,Xo,Xp,Xq,Xr,Xs,Xt,Xu,Xv,Xw,Xx,Xy,Xz,W0,W1,W2,W3,W4,W5,W6,W7,W8,W9,Wa,Wb,Wc,Wd,We,Wf,Wg,Wh,Wi,Value.oneCell',Wj,Wk,Wl,Wm,true_and,and_true,and_self,implies_true,Wn,Wo,Wp,Wq,false_implies,Wr,Ws,Wt,Wu,Wv,Ww,Wx,Wy,Wz,V0,V1,V2,V3,V4,V5,V6,V7,reduceCtorEq,if_true,if_false,V8,↓reduceIte,V9,Va,Vb,Vc,Vd,Ve,ne_eq,not_false_eq_true,not_true_eq_false,Vf,Vg,r13_0,r13_1,r13_2,r13_3,r13_4,r13_5,r13_6,r13_7,r13_8,r13_9,p13,Par.av,bne0_t h0,beq0_f h0]) | (exfalso; omega)
    all_goals simp [delayP, h0]
/-! headend/sample.LeastRate -/
def r17_0 : List POp := [⟨2, .boxs (.t 0), none⟩,
  ⟨4, .asg (.c (.int .i64 0)), none⟩,
  ⟨5, .asg (.c (.int .i64 0)), none⟩]
def r17_1 : List POp := [⟨12, .loads 2 (.t 2), none⟩,
  ⟨13, .call 19 [.t 12], none⟩,
  ⟨6, .asg (.t 13), none⟩]
def r17_2 : List POp := [⟨14, .mv (.t 6), none⟩,
  ⟨15, .bin .neq (.t 14) (.c (.int .i64 0)), none⟩]
def r17_3 : List POp := [⟨16, .mv (.t 6), none⟩,
  ⟨4, .mv (.c (.int .i64 0)), none⟩,
  ⟨5, .mv (.t 16), none⟩]
def r17_4 : List POp := [⟨17, .mv (.t 1), none⟩,
  ⟨18, .call 20 [.t 17, .c (.int .i64 0), .c (.int .i64 1000000000000)], none⟩]
def r17_5 : List POp := [⟨4, .asg (.c (.int .i64 0)), none⟩,
  ⟨5, .asg (.c (.int .i64 1)), none⟩]
def r17_6 : List POp := [⟨7, .asg (.c (.int .i64 0)), none⟩,
  ⟨8, .asg (.c (.int .i64 0)), none⟩]
def r17_7 : List POp := [⟨19, .fld 1 (.t 2), none⟩,
  ⟨20, .load (.t 19), none⟩,
  ⟨21, .len (.t 20), none⟩,
  ⟨22, .mv (.c (.int .i64 0)), none⟩]
def r17_8 : List POp := [⟨23, .bin .lss (.t 22) (.t 21), none⟩]
def r17_9 : List POp := [⟨24, .idx 5 (.t 20) (.t 22), none⟩,
  ⟨25, .loads 5 (.t 24), none⟩,
  ⟨10, .alloc [.int .i64 0, .int .i64 0, .int .i64 0, .int .i64 0, .bool false], none⟩,
  ⟨0, .stores 5 (.t 10) (.t 25), none⟩]
def r17_10 : List POp := [⟨26, .mv (.t 8), none⟩,
  ⟨27, .fld 3 (.t 10), none⟩,
  ⟨28, .load (.t 27), none⟩,
  ⟨29, .bin .add (.t 26) (.t 28), none⟩,
  ⟨8, .asg (.t 29), none⟩]
def r17_11 : List POp := [⟨30, .mv (.t 8), none⟩,
  ⟨31, .bin .eql (.t 30) (.c (.int .i64 0)), none⟩]
def r17_12 : List POp := [⟨32, .mv (.t 1), none⟩,
  ⟨33, .fld 0 (.t 10), none⟩,
  ⟨34, .load (.t 33), none⟩,
  ⟨35, .bin .add (.t 32) (.t 34), none⟩,
  ⟨36, .fld 1 (.t 2), none⟩,
  ⟨37, .load (.t 36), none⟩,
  ⟨38, .idx 5 (.t 37) (.c (.int .i64 0)), none⟩,
  ⟨39, .fld 0 (.t 38), none⟩,
  ⟨40, .load (.t 39), none⟩,
  ⟨41, .bin .sub (.t 35) (.t 40), none⟩,
  ⟨11, .asg (.t 41), none⟩]
def r17_13 : List POp := [⟨42, .mv (.t 11), none⟩,
  ⟨43, .bin .eql (.t 42) (.c (.int .i64 0)), none⟩]
def r17_14 : List POp := [⟨4, .asg (.c (.int .i64 0)), none⟩,
  ⟨5, .asg (.c (.int .i64 1)), none⟩]
def r17_15 : List POp := [⟨44, .mv (.t 7), none⟩,
  ⟨45, .mv (.t 8), none⟩,
  ⟨46, .fld 0 (.t 2), none⟩,
  ⟨47, .load (.t 46), none⟩,
  ⟨48, .mv (.t 11), none⟩,
  ⟨49, .call 25 [.t 45, .t 47, .t 48, .c (.int .i64 3)], none⟩,
  ⟨50, .minmax true (.t 44) (.t 49), none⟩,
  ⟨7, .asg (.t 50), none⟩]
def r17_16 : List POp := [⟨51, .bin .add (.t 22) (.c (.int .i64 1)), none⟩,
  ⟨22, .mv (.t 51), none⟩]
def r17_17 : List POp := [⟨52, .mv (.t 7), none⟩,
  ⟨53, .bin .gtr (.t 52) (.c (.int .i64 1000000000)), none⟩]
def r17_18 : List POp := [⟨4, .asg (.c (.int .i64 0)), none⟩,
  ⟨5, .asg (.c (.int .i64 1)), none⟩]
def r17_19 : List POp := [⟨54, .mv (.t 7), none⟩,
  ⟨4, .asg (.t 54), none⟩,
  ⟨5, .asg (.c (.int .i64 0)), none⟩]
def l17_0 : PCode := .seq (.ops r17_8) (.seq (.cond (.t 23) (.skip) (.exit 0)) (.seq (.block 1 (.seq (.ops r17_9) (.seq (.ops r17_10) (.seq (.seq (.ops r17_11) (.cond (.t 31) (.exit 1) (.skip))) (.seq (.ops r17_12) (.seq (.seq (.ops r17_13) (.cond (.t 43) (.seq (.ops r17_14) (.ret)) (.skip))) (.ops r17_15))))))) (.ops r17_16)))
def p17 : PCode := .seq (.ops r17_0) (.seq (.seq (.ops r17_1) (.seq (.ops r17_2) (.cond (.t 15) (.seq (.ops r17_3) (.ret)) (.skip)))) (.seq (.seq (.ops r17_4) (.cond (.t 18) (.seq (.ops r17_5) (.ret)) (.skip))) (.seq (.ops r17_6) (.seq (.seq (.ops r17_7) (.block 0 (.loop l17_0))) (.seq (.seq (.ops r17_17) (.cond (.t 53) (.seq (.ops r17_18) (.ret)) (.skip))) (.seq (.ops r17_19) (.ret)))))))
theorem ok17 : okFunc Tryd.prog 17 [.t 4, .t 5] 2 p17 = true := by kernel_rfl
def lrGo (t0 scale wait : Int) (rate b : Int) : List Smp → Option Int
  | [] => some rate
  | s :: r => if b + s.size = 0 then lrGo t0 scale wait rate (b + s.size) r else if wait + s.time - t0 = 0 then none else lrGo t0 scale wait (max rate ((cdiv ((b + s.size).toNat * scale.toNat) (wait + s.time - t0).toNat : Nat) : Int)) (b + s.size) r
def lrR : Option Int → Int × Int
  | none => (0, 1)
  | some r => if 1000000000 < r then (0, 1) else (r, 0)
def leastF (p : Par) (wait : Int) : Int × Int := if parF p ≠ 0 then (0, parF p) else if outB wait 0 1000000000000 then (0, 1) else lrR (lrGo (p.smps.headD ⟨0, 0, 0, 0, false⟩).time p.scale wait 0 0 p.smps)
theorem least_c (p : Par) (wait : Int) : CallOK Tryd.prog 17 [.agg p.av, .val (.int .i64 wait)] (.tup [.val (.int .i64 (leastF p wait).1), .val (.int .i64 (leastF p wait).2)]) := by
  refine call_of mixed ok17 rfl ?_
  have hp := par_c p
  by_cases h0 : parF p = 0
  · rw [h0] at hp
    simp only [Par.av] at hp
    by_cases hr : outB wait 0 1000000000000 = true
    · repeat' first | ((with_reducible (first | refine condD ?_ ?_ | refine condE ?_ ?_ | refine condN ?_ ?_ | refine condI ?_ ?_ | refine condS ?_ ?_)) <;> intro h) | ((with_reducible (first | refine guardD (by with_unfolding_all rfl) ?_ ?_ | refine guardE (by with_unfolding_all rfl) ?_ ?_ | refine guardN (by with_unfolding_all rfl) ?_ ?_ | refine guardI (by with_unfolding_all rfl) ?_ ?_ | refine guardS (by with_unfolding_all rfl) ?_ ?_)) <;> intro h) | ((refine callG hp ?_)) | ((refine callG (out_c _ _ _) ?_)) | (with_reducible refine And.intro ?_ ?_; omega) | (simp only [Z0,Z1,Z2,Z3,Z4,Z5,Z6,Z7,Z8,Z9,Za,Zb,Zc,Zd,Ze,Zf,List.cons.injEq,Zg,Zh,Zi,Zj,Zk,Zl,Zm,Zn,Zo,Zp,beq_self_eq_true,bne_self_eq_false,decide_true,decide_false,Zq,Zr,Zs,Zt,Zu,Zv,Zw,Zx,Zy,Zz,Y0,Y1,Y2,Y3,Y4,Y5,Y6,Y7,Y8,Y9,Ya,Yb,Yc,Yd,Ye,Yf,Yg,Yh,Yi,Yj,Yk,Yl,lk,ef,Ym,Yn,Yo,Yp,Yq,Yr,Ys,Yt,Yu,Yv,Yw,Yx,Yy,Yz,X0,X1,X2,X3,X4,X5,X6,X7,X8,X9,Xa,Xb,Xc,Xd,Xe,Xf,Xg,Xh,Xi,Xj,Xk,hv,Xl,ev,Xm,Xn,Xo,Xp,Xq,Xr,Xs,Xt,Xu,Xv,Xw,Xx,Xy,Xz,W0,W1,W2,W3,W4,W5,W6,W7,W8,W9,Wa,Wb,Wc,Wd,We,Wf,Wg,Wh,Wi,Value.oneCell',Wj,Wk,Wl,Wm,true_and,and_true,and_self,implies_true,Wn,Wo,Wp,Wq,false_implies,Wr,Ws,Wt,Wu,Wv,Ww,Wx,Wy,Wz,V0,V1,V2,V3,V4,V5,V6,V7,reduceCtorEq,if_true,if_false,V8,↓reduceIte,V9,Va,Vb,Vc,Vd,Ve,ne_eq,not_false_eq_true,not_true_eq_false,Vf,Vg,r17_0,r17_1,r17_2,r17_3,r17_4,r17_5,r17_6,r17_7,r17_8,r17_9,r17_10,r17_11,r17_12,r17_13,r17_14,r17_15,r17_16,r17_17,r17_18,r17_19,p17,Par.av,hr]) | (exfalso; omega)
      all_goals simp [leastF, h0, hr]
    · simp only [Bool.not_eq_true] at hr
      have bw := outB_f hr
      obtain ⟨hl, hb, s1, s2, ht⟩ := par_facts h0
      have hF : leastF p wait = lrR (lrGo (p.smps.headD ⟨0, 0, 0, 0, false⟩).time p.scale wait 0 0 p.smps) := by simp [leastF, h0, hr]
      obtain ⟨t0, ht0⟩ : ∃ t0, t0 = (p.smps.headD ⟨0, 0, 0, 0, false⟩).time := ⟨_, rfl⟩
      rw [← ht0] at ht hF
      obtain ⟨scale, l⟩ := p
      simp only at hl hb s1 s2 ht hF ht0 hp
      repeat' first | ((with_reducible (first | refine condD ?_ ?_ | refine condE ?_ ?_ | refine condN ?_ ?_ | refine condI ?_ ?_ | refine condS ?_ ?_)) <;> intro h) | ((with_reducible (first | refine guardD (by with_unfolding_all rfl) ?_ ?_ | refine guardE (by with_unfolding_all rfl) ?_ ?_ | refine guardN (by with_unfolding_all rfl) ?_ ?_ | refine guardI (by with_unfolding_all rfl) ?_ ?_ | refine guardS (by with_unfolding_all rfl) ?_ ?_)) <;> intro h) | ((refine callG hp ?_)) | ((refine callG (out_c _ _ _) ?_)) | (with_reducible refine And.intro ?_ ?_; omega) | (simp only [Z0,Z1,Z2,Z3,Z4,Z5,Z6,Z7,Z8,Z9,Za,Zb,Zc,Zd,Ze,Zf,List.cons.injEq,Zg,Zh,Zi,Zj,Zk,Zl,Zm,Zn,Zo,Zp,beq_self_eq_true,bne_self_eq_false,decide_true,decide_false,Zq,Zr,Zs,Zt,Zu,Zv,Zw,Zx,Zy,Zz,Y0,Y1,Y2,Y3,Y4,Y5,Y6,Y7,Y8,Y9,Ya,Yb,Yc,Yd,Ye,Yf,Yg,Yh,Yi,Yj,Yk,Yl,lk,ef,Ym,Yn,Yo,Yp,Yq,Yr,Ys,Yt,Yu,Yv,Yw,Yx,Yy,Yz,X0,X1,X2,X3,X4,X5,X6,X7,X8,X9,Xa,Xb,Xc,Xd,Xe,Xf,Xg,Xh,Xi,Xj,Xk,hv,Xl,ev,Xm,Xn,Xo,Xp,Xq,Xr,Xs,Xt,Xu,Xv,Xw,Xx,Xy,Xz,W0,W1,W2,W3,W4,W5,W6,W7,W8,W9,Wa,Wb,Wc,Wd,We,Wf,Wg,Wh,Wi,Value.oneCell',Wj,Wk,Wl,Wm,true_and,and_true,and_self,implies_true,Wn,Wo,Wp,Wq,false_implies,Wr,Ws,Wt,Wu,Wv,Ww,Wx,Wy,Wz,V0,V1,V2,V3,V4,V5,V6,V7,reduceCtorEq,if_true,if_false,V8,↓reduceIte,V9,Va,Vb,Vc,Vd,Ve,ne_eq,not_false_eq_true,not_true_eq_false,Vf,Vg,r17_0,r17_1,r17_2,r17_3,r17_4,r17_5,r17_6,r17_7,r17_8,r17_9,r17_10,r17_11,r17_12,r17_13,r17_14,r17_15,r17_16,r17_17,r17_18,r17_19,p17,Par.av,hr]) | (exfalso; omega)
      refine loopS (fun q : Nat × Int => mk [(1, .val (.int .i64 wait)), (2, .box (Par.av ⟨scale, l⟩)), (7, .val (.int .i64 q.2)), (8, .val (.int .i64 (sizes (l.take q.1)))), (20, .ro (l.map Smp.av)), (21, .val (.int .i64 l.length)), (22, .val (.int .i64 q.1))])
        (fun q => q.1 ≤ l.length ∧ 0 ≤ q.2 ∧ leastF ⟨scale, l⟩ wait = lrR (lrGo t0 scale wait q.2 (sizes (l.take q.1)) (l.drop q.1))) (fun q => l.length - q.1) (0, 0) (weak_mk ?_) ⟨Nat.zero_le _, Int.le_refl _, by simpa [sizes] using hF⟩ ?_
      · simp only [Vh,Vi,wk1,Vj,Vk,Vl,Z0,Z1,Z2,Z3,Z4,Z5,Z6,Z7,Z8,Z9,Za,Zb,Zc,Zd,Ze,Zf,List.cons.injEq,Zg,Zh,Zi,Zj,Zk,Zl,Zm,Zn,Zo,Zp,beq_self_eq_true,bne_self_eq_false,decide_true,decide_false,Zq,Zr,Zs,Zt,Zu,Zv,Zw,Zx,Zy,Zz,Y0,Y1,Y2,Y3,Y4,Y5,Y6,Y7,Y8,Y9,Ya,Yb,Yc,Yd,Ye,Yf,Yg,Yh,Yi,Yj,Yk,Yl,lk,ef,Ym,Yn,Yo,Yp,Yq,Yr,Ys,Yt,Yu,Yv,Yw,Yx,Yy,Yz,X0,X1,X2,X3,X4,X5,X6,X7,X8,X9,Xa,Xb,Xc,Xd,Xe,Xf,Xg,Xh,Xi,Xj,Xk,hv,Xl,ev,Xm,Xn,Xo,Xp,Xq,Xr,Xs,Xt,Xu,Xv,Xw,Xx,Xy,Xz,W0,W1,W2,W3,W4,W5,W6,W7,W8,W9,Wa,Wb,Wc,Wd,We,Wf,Wg,Wh,Wi,Value.oneCell',Wj,Wk,Wl,Wm,true_and,and_true,and_self,implies_true,Wn,Wo,Wp,Wq,false_implies,Wr,Ws,Wt,Wu,Wv,Ww,Wx,Wy,Wz,V0,V1,V2,V3,V4,V5,V6,V7,reduceCtorEq,if_true,if_false,V8,↓reduceIte,V9,Va,Vb,Vc,Vd,Ve,ne_eq,not_false_eq_true,not_true_eq_false,Vf,Nat.zero_ne_one]
        simp [sizes, Par.av]
      · rintro J hJ ⟨k, m⟩ ⟨hk, hm0, hg⟩
        simp only at hk hm0 hg
        simp only [Z0,Z1,Z2,Z3,Z4,Z5,Z6,Z7,Z8,Z9,Za,Zb,Zc,Zd,Ze,Zf,List.cons.injEq,Zg,Zh,Zi,Zj,Zk,Zl,Zm,Zn,Zo,Zp,beq_self_eq_true,bne_self_eq_false,decide_true,decide_false,Zq,Zr,Zs,Zt,Zu,Zv,Zw,Zx,Zy,Zz,Y0,Y1,Y2,Y3,Y4,Y5,Y6,Y7,Y8,Y9,Ya,Yb,Yc,Yd,Ye,Yf,Yg,Yh,Yi,Yj,Yk,Yl,lk,ef,Ym,Yn,Yo,Yp,Yq,Yr,Ys,Yt,Yu,Yv,Yw,Yx,Yy,Yz,X0,X1,X2,X3,X4,X5,X6,X7,X8,X9,Xa,Xb,Xc,Xd,Xe,Xf,Xg,Xh,Xi,Xj,Xk,hv,Xl,ev,Xm,Xn,Xo,Xp,Xq,Xr,Xs,Xt,Xu,Xv,Xw,Xx,Xy,Xz,W0,W1,W2,W3,W4,W5,W6,W7,W8,W9,Wa,Wb,Wc,Wd,We,Wf,Wg,Wh,Wi,Value.oneCell',Wj,Wk,Wl,Wm,true_and,and_true,and_self,implies_true,Wn,Wo,Wp,Wq,false_implies,Wr,Ws,Wt,Wu,Wv,Ww,Wx,Wy,Wz,V0,V1,V2,V3,V4,V5,V6,V7,reduceCtorEq,if_true,if_false,V8,↓reduceIte,V9,Va,Vb,Vc,Vd,Ve,ne_eq,not_false_eq_true,not_true_eq_false,Vf,Vg,r17_0,r17_1,r17_2,r17_3,r17_4,r17_5,r17_6,r17_7,r17_8,r17_9,r17_10,r17_11,r17_12,r17_13,r17_14,r17_15,r17_16,r17_17,r17_18,r17_19,p17,l17_0]
        refine condD (fun h => ?_) (fun h => ?_)
        · have hlt : k < l.length := by omega
          have hlt0 : 0 < l.length := by omega
          have hw := i_add1 k (by omega)
          have b1 := sizes_bd (l := l.take k) fun s hs => hb s (List.mem_of_mem_take hs)
          have b2 := badSmp_bd (hb l[k] (List.getElem_mem hlt))
          have hlen : (l.take k).length ≤ 5000 := by rw [List.length_take]; omega
          have hs := sizes_take hlt
          have w1 : IntKind.i64.wrap (sizes (l.take k) + l[k].size) = sizes (l.take (k + 1)) := by rw [hs]; exact wrap_in (by omega) (by omega)
          have bB : 0 ≤ sizes (l.take (k + 1)) ∧ sizes (l.take (k + 1)) ≤ 500100000 := by rw [hs]; omega
          rw [List.drop_eq_getElem_cons hlt, lrGo, ← hs] at hg
          clear hs
          obtain ⟨B, hB⟩ : ∃ B, B = sizes (l.take (k + 1)) := ⟨_, rfl⟩
          rw [← hB] at w1 bB hg
          have t1 := ht k hlt
          have g0 := getD_map (f := Smp.av) (d := []) hlt0
          have e0 : l[0].time = t0 := by
            rw [ht0]
            cases l with
            | nil => simp at hlt0
            | cons a r => rfl
          have b3 := badSmp_bd (hb l[0] (List.getElem_mem hlt0))
          have v1 : IntKind.i64.wrap (wait + l[k].time) = wait + l[k].time := wrap_in (by omega) (by omega)
          have v2 : IntKind.i64.wrap (wait + l[k].time - l[0].time) = wait + l[k].time - t0 := by rw [e0]; exact wrap_in (by omega) (by omega)
          by_cases hz : B = 0
          · rw [if_pos hz] at hg
            have hz' : (B == 0) = true := by rw [beq_iff_eq]; exact hz
            repeat' first | ((with_reducible (first | refine condD ?_ ?_ | refine condE ?_ ?_ | refine condN ?_ ?_ | refine condI ?_ ?_ | refine condS ?_ ?_)) <;> intro h) | ((with_reducible (first | refine guardD (by with_unfolding_all rfl) ?_ ?_ | refine guardE (by with_unfolding_all rfl) ?_ ?_ | refine guardN (by with_unfolding_all rfl) ?_ ?_ | refine guardI (by with_unfolding_all rfl) ?_ ?_ | refine guardS (by with_unfolding_all rfl) ?_ ?_)) <;> intro h) | (with_reducible refine And.intro ?_ ?_; omega) | (simp only [Z0,Z1,Z2,Z3,Z4,Z5,Z6,Z7,Z8,Z9,Za,Zb,Zc,Zd,Ze,Zf,List.cons.injEq,Zg,Zh,Zi,Zj,Zk,Zl,Zm,Zn,Zo,Zp,beq_self_eq_true,bne_self_eq_false,decide_true,decide_false,Zq,Zr,Zs,Zt,Zu,Zv,Zw,Zx,Zy,Zz,Y0,Y1,Y2,Y3,Y4,Y5,Y6,Y7,Y8,Y9,Ya,Yb,Yc,Yd,Ye,Yf,Yg,Yh,Yi,Yj,Yk,Yl,lk,ef,Ym,Yn,Yo,Yp,Yq,Yr,Ys,Yt,Yu,Yv,Yw,Yx,Yy,Yz,X0,X1,X2,X3,X4,X5,X6,X7,X8,X9,Xa,Xb,Xc,Xd,Xe,Xf,Xg,Xh,Xi,Xj,Xk,hv,Xl,ev,Xm,Xn,Xo,Xp,Xq,Xr,Xs,Xt,Xu,Xv,Xw,Xx,Xy,Xz,W0,W1,W2,W3,W4,W5,W6,W7,W8,W9,Wa,Wb,Wc,Wd,We,Wf,Wg,Wh,Wi,Value.oneCell',Wj,Wk,Wl,Wm,true_and,and_true,and_self,implies_true,Wn,Wo,Wp,Wq,false_implies,Wr,Ws,Wt,Wu,Wv,Ww,Wx,Wy,Wz,V0,V1,V2,V3,V4,V5,V6,V7,reduceCtorEq,if_true,if_false,V8,↓reduceIte,V9,Va,Vb,Vc,Vd,Ve,ne_eq,not_false_eq_true,not_true_eq_false,Vf,Vg,r17_0,r17_1,r17_2,r17_3,r17_4,r17_5,r17_6,r17_7,r17_8,r17_9,r17_10,r17_11,r17_12,r17_13,r17_14,r17_15,r17_16,r17_17,r17_18,r17_19,p17,l17_0,Par.av,Smp.av,getD_map hlt,g0,w1,hz']) | (exfalso; omega)
            exact again hJ (k + 1, m) (weak_mk (by simp only [Vh,Vi,wk1,Vj,Vk,Vl,Z0,Z1,Z2,Z3,Z4,Z5,Z6,Z7,Z8,Z9,Za,Zb,Zc,Zd,Ze,Zf,List.cons.injEq,Zg,Zh,Zi,Zj,Zk,Zl,Zm,Zn,Zo,Zp,beq_self_eq_true,bne_self_eq_false,decide_true,decide_false,Zq,Zr,Zs,Zt,Zu,Zv,Zw,Zx,Zy,Zz,Y0,Y1,Y2,Y3,Y4,Y5,Y6,Y7,Y8,Y9,Ya,Yb,Yc,Yd,Ye,Yf,Yg,Yh,Yi,Yj,Yk,Yl,lk,ef,Ym,Yn,Yo,Yp,Yq,Yr,Ys,Yt,Yu,Yv,Yw,Yx,Yy,Yz,X0,X1,X2,X3,X4,X5,X6,X7,X8,X9,Xa,Xb,Xc,Xd,Xe,Xf,Xg,Xh,Xi,Xj,Xk,hv,Xl,ev,Xm,Xn,Xo,Xp,Xq,Xr,Xs,Xt,Xu,Xv,Xw,Xx,Xy,Xz,W0,W1,W2,W3,W4,W5,W6,W7,W8,W9,Wa,Wb,Wc,Wd,We,Wf,Wg,Wh,Wi,Value.oneCell',Wj,Wk,Wl,Wm,true_and,and_true,and_self,implies_true,Wn,Wo,Wp,Wq,false_implies,Wr,Ws,Wt,Wu,Wv,Ww,Wx,Wy,Wz,V0,V1,V2,V3,V4,V5,V6,V7,reduceCtorEq,if_true,if_false,V8,↓reduceIte,V9,Va,Vb,Vc,Vd,Ve,ne_eq,not_false_eq_true,not_true_eq_false,Vf,Nat.zero_ne_one]; exact ⟨by simp [Par.av], hB, hw⟩)) ⟨by simp only; omega, hm0, by rw [← hB]; exact hg⟩ (by simp only; omega)
          · rw [if_neg hz] at hg
            by_cases ha : wait + l[k].time - t0 = 0
            · rw [if_pos ha] at hg
              have ha' : (wait + l[k].time - t0 == 0) = true := by rw [beq_iff_eq]; exact ha
              repeat' first | ((with_reducible (first | refine condD ?_ ?_ | refine condE ?_ ?_ | refine condN ?_ ?_ | refine condI ?_ ?_ | refine condS ?_ ?_)) <;> intro h) | ((with_reducible (first | refine guardD (by with_unfolding_all rfl) ?_ ?_ | refine guardE (by with_unfolding_all rfl) ?_ ?_ | refine guardN (by with_unfolding_all rfl) ?_ ?_ | refine guardI (by with_unfolding_all rfl) ?_ ?_ | refine guardS (by with_unfolding_all rfl) ?_ ?_)) <;> intro h) | (with_reducible refine And.intro ?_ ?_; omega) | (simp only [Z0,Z1,Z2,Z3,Z4,Z5,Z6,Z7,Z8,Z9,Za,Zb,Zc,Zd,Ze,Zf,List.cons.injEq,Zg,Zh,Zi,Zj,Zk,Zl,Zm,Zn,Zo,Zp,beq_self_eq_true,bne_self_eq_false,decide_true,decide_false,Zq,Zr,Zs,Zt,Zu,Zv,Zw,Zx,Zy,Zz,Y0,Y1,Y2,Y3,Y4,Y5,Y6,Y7,Y8,Y9,Ya,Yb,Yc,Yd,Ye,Yf,Yg,Yh,Yi,Yj,Yk,Yl,lk,ef,Ym,Yn,Yo,Yp,Yq,Yr,Ys,Yt,Yu,Yv,Yw,Yx,Yy,Yz,X0,X1,X2,X3,X4,X5,X6,X7,X8,X9,Xa,Xb,Xc,Xd,Xe,Xf,Xg,Xh,Xi,Xj,Xk,hv,Xl,ev,Xm,Xn,Xo,Xp,Xq,Xr,Xs,Xt,Xu,Xv,Xw,Xx,Xy,Xz,W0,W1,W2,W3,W4,W5,W6,W7,W8,W9,Wa,Wb,Wc,Wd,We,Wf,Wg,Wh,Wi,Value.oneCell',Wj,Wk,Wl,Wm,true_and,and_true,and_self,implies_true,Wn,Wo,Wp,Wq,false_implies,Wr,Ws,Wt,Wu,Wv,Ww,Wx,Wy,Wz,V0,V1,V2,V3,V4,V5,V6,V7,reduceCtorEq,if_true,if_false,V8,↓reduceIte,V9,Va,Vb,Vc,Vd,Ve,ne_eq,not_false_eq_true,not_true_eq_false,Vf,Vg,r17_0,r17_1,r17_2,r17_3,r17_4,r17_5,r17_6,r17_7,r17_8,r17_9,r17_10,r17_11,r17_12,r17_13,r17_14,r17_15,r17_16,r17_17,r17_18,r17_19,p17,l17_0,Par.av,Smp.av,getD_map hlt,g0,w1,beq0_f hz,v1,v2,ha']) | (exfalso; omega)
              all_goals simp [hg, lrR]
            · rw [if_neg ha] at hg
              have hA : 0 < wait + l[k].time - t0 := by omega
              have hQ : B.toNat * scale.toNat ≤ 500100000 * 1000000000 := Nat.mul_le_mul (by omega) (by omega)
              have hsc := scaledI_c B scale (wait + l[k].time - t0) 3 (by omega) (by omega) (by omega) (by omega) (by omega) (by omega)
              rw [scl_up (by omega) (by omega) (by omega)] at hsc
              generalize cdiv (B.toNat * scale.toNat) (wait + l[k].time - t0).toNat = C at *
              repeat' first | ((with_reducible (first | refine condD ?_ ?_ | refine condE ?_ ?_ | refine condN ?_ ?_ | refine condI ?_ ?_ | refine condS ?_ ?_)) <;> intro h) | ((with_reducible (first | refine guardD (by with_unfolding_all rfl) ?_ ?_ | refine guardE (by with_unfolding_all rfl) ?_ ?_ | refine guardN (by with_unfolding_all rfl) ?_ ?_ | refine guardI (by with_unfolding_all rfl) ?_ ?_ | refine guardS (by with_unfolding_all rfl) ?_ ?_)) <;> intro h) | ((refine callG hsc ?_)) | (with_reducible refine And.intro ?_ ?_; omega) | (simp only [Z0,Z1,Z2,Z3,Z4,Z5,Z6,Z7,Z8,Z9,Za,Zb,Zc,Zd,Ze,Zf,List.cons.injEq,Zg,Zh,Zi,Zj,Zk,Zl,Zm,Zn,Zo,Zp,beq_self_eq_true,bne_self_eq_false,decide_true,decide_false,Zq,Zr,Zs,Zt,Zu,Zv,Zw,Zx,Zy,Zz,Y0,Y1,Y2,Y3,Y4,Y5,Y6,Y7,Y8,Y9,Ya,Yb,Yc,Yd,Ye,Yf,Yg,Yh,Yi,Yj,Yk,Yl,lk,ef,Ym,Yn,Yo,Yp,Yq,Yr,Ys,Yt,Yu,Yv,Yw,Yx,Yy,Yz,X0,X1,X2,X3,X4,X5,X6,X7,X8,X9,Xa,Xb,Xc,Xd,Xe,Xf,Xg,Xh,Xi,Xj,Xk,hv,Xl,ev,Xm,Xn,Xo,Xp,Xq,Xr,Xs,Xt,Xu,Xv,Xw,Xx,Xy,Xz,W0,W1,W2,W3,W4,W5,W6,W7,W8,W9,Wa,Wb,Wc,Wd,We,Wf,Wg,Wh,Wi,Value.oneCell',Wj,Wk,Wl,Wm,true_and,and_true,and_self,implies_true,Wn,Wo,Wp,Wq,false_implies,Wr,Ws,Wt,Wu,Wv,Ww,Wx,Wy,Wz,V0,V1,V2,V3,V4,V5,V6,V7,reduceCtorEq,if_true,if_false,V8,↓reduceIte,V9,Va,Vb,Vc,Vd,Ve,ne_eq,not_false_eq_true,not_true_eq_false,Vf,Vg,r17_0,r17_1,r17_2,r17_3,r17_4,r17_5,r17_6,r17_7,r17_8,r17_9,r17_10,r17_11,r17_12,r17_13,r17_14,r17_15,r17_16,r17_17,r17_18,r17_19,p17,l17_0,Par.av,Smp.av,getD_map hlt,g0,w1,beq0_f hz,v1,v2,beq0_f ha]) | (exfalso; omega)
              exact again hJ (k + 1, max m C) (weak_mk (by simp only [Vh,Vi,wk1,Vj,Vk,Vl,Z0,Z1,Z2,Z3,Z4,Z5,Z6,Z7,Z8,Z9,Za,Zb,Zc,Zd,Ze,Zf,List.cons.injEq,Zg,Zh,Zi,Zj,Zk,Zl,Zm,Zn,Zo,Zp,beq_self_eq_true,bne_self_eq_false,decide_true,decide_false,Zq,Zr,Zs,Zt,Zu,Zv,Zw,Zx,Zy,Zz,Y0,Y1,Y2,Y3,Y4,Y5,Y6,Y7,Y8,Y9,Ya,Yb,Yc,Yd,Ye,Yf,Yg,Yh,Yi,Yj,Yk,Yl,lk,ef,Ym,Yn,Yo,Yp,Yq,Yr,Ys,Yt,Yu,Yv,Yw,Yx,Yy,Yz,X0,X1,X2,X3,X4,X5,X6,X7,X8,X9,Xa,Xb,Xc,Xd,Xe,Xf,Xg,Xh,Xi,Xj,Xk,hv,Xl,ev,Xm,Xn,Xo,Xp,Xq,Xr,Xs,Xt,Xu,Xv,Xw,Xx,Xy,Xz,W0,W1,W2,W3,W4,W5,W6,W7,W8,W9,Wa,Wb,Wc,Wd,We,Wf,Wg,Wh,Wi,Value.oneCell',Wj,Wk,Wl,Wm,true_and,and_true,and_self,implies_true,Wn,Wo,Wp,Wq,false_implies,Wr,Ws,Wt,Wu,Wv,Ww,Wx,Wy,Wz,V0,V1,V2,V3,V4,V5,V6,V7,reduceCtorEq,if_true,if_false,V8,↓reduceIte,V9,Va,Vb,Vc,Vd,Ve,ne_eq,not_false_eq_true,not_true_eq_false,Vf,Nat.zero_ne_one]; exact ⟨by simp [Par.av], by omega, hB, hw⟩)) ⟨by simp only; omega, by simp only; omega, by rw [← hB]; exact hg⟩ (by simp only; omega)
        · have hke : k = l.length := by omega
          subst hke
          have hR : leastF ⟨scale, l⟩ wait = if 1000000000 < m then (0, 1) else (m, 0) := by rw [hg]; simp [lrGo, lrR]
          clear hJ hg
          repeat' first | ((with_reducible (first | refine condD ?_ ?_ | refine condE ?_ ?_ | refine condN ?_ ?_ | refine condI ?_ ?_ | refine condS ?_ ?_)) <;> intro h) | ((with_reducible (first | refine guardD (by with_unfolding_all rfl) ?_ ?_ | refine guardE (by with_unfolding_all rfl) ?_ ?_ | refine guardN (by with_unfolding_all rfl) ?_ ?_ | refine guardI (by with_unfolding_all rfl) ?_ ?_ | refine guardS (by with_unfolding_all rfl) ?_ ?_)) <;> intro h) | (with_reducible refine And.intro ?_ ?_; omega) | (simp only [Z0,Z1,Z2,Z3,Z4,Z5,Z6,Z7,Z8,Z9,Za,Zb,Zc,Zd,Ze,Zf,List.cons.injEq,Zg,Zh,Zi,Zj,Zk,Zl,Zm,Zn,Zo,Zp,beq_self_eq_true,bne_self_eq_false,decide_true,decide_false,Zq,Zr,Zs,Zt,Zu,Zv,Zw,Zx,Zy,Zz,Y0,Y1,Y2,Y3,Y4,Y5,Y6,Y7,Y8,Y9,Ya,Yb,Yc,Yd,Ye,Yf,Yg,Yh,Yi,Yj,Yk,Yl,lk,ef,Ym,Yn,Yo,Yp,Yq,Yr,Ys,Yt,Yu,Yv,Yw,Yx,Yy,Yz,X0,X1,X2,X3,X4,X5,X6,X7,X8,X9,Xa,Xb,Xc,Xd,Xe,Xf,Xg,Xh,Xi,Xj,Xk,hv,Xl,ev,Xm,Xn,Xo,Xp,Xq,Xr,Xs,Xt,Xu,Xv,Xw,Xx,Xy,Xz,W0,W1,W2,W3,W4,W5,W6,W7,W8,W9,Wa,Wb,Wc,Wd,We,Wf,Wg,Wh,Wi,Value.oneCell',Wj,Wk,Wl,Wm,true_and,and_true,and_self,implies_true,Wn,Wo,Wp,Wq,false_implies,Wr,Ws,Wt,Wu,Wv,Ww,Wx,Wy,Wz,V0,V1,V2,V3,V4,V5,V6,V7,reduceCtorEq,if_true,if_false,V8,↓reduceIte,V9,Va,Vb,Vc,Vd,Ve,ne_eq,not_false_eq_true,not_true_eq_false,Vf,Vg,r17_0,r17_1,r17_2,r17_3,r17_4,r17_5,r17_6,r17_7,r17_8,r17_9,r17_10,r17_11,r17_12,r17_13,r17_14,r17_15,r17_16,r17_17,r17_18,r17_19,p17,l17_0]) | (exfalso; omega)
          all_goals simp [hR, *]
  · simp only [Par.av] at hp
    repeat' first | ((with_reducible (first | refine condD ?_ ?_ | refine condE ?_ ?_ | refine condN ?_ ?_ | refine condI ?_ ?_ | refine condS ?_ ?_)) <;> intro h) | ((with_reducible (first | refine guardD (by with_unfolding_all rfl) ?_ ?_ | refine guardE (by with_unfolding_all rfl) ?_ ?_ | refine guardN (by with_unfolding_all rfl) ?_ ?_ | refine guardI (by with_unfolding_all rfl) ?_ ?_ | refine guardS (by with_unfolding_all rfl) ?_ ?_)) <;> intro h) | ((refine callG hp ?_)) | (with_reducible refine And.intro ?_ ?_; omega) | (simp only [Z0,Z1,Z2,Z3,Z4,Z5,Z6,Z7,Z8,Z9,Za,Zb,Zc,Zd,Ze,Zf,List.cons.injEq,Zg,Zh,Zi,Zj,Zk,Zl,Zm,Zn,Zo,Zp,beq_self_eq_true,bne_self_eq_false,decide_true,decide_false,Zq,Zr,Zs,Zt,Zu,Zv,Zw,Zx,Zy,Zz,Y0,Y1,Y2,Y3,Y4,Y5,Y6,Y7,Y8,Y9,Ya,Yb,Yc,Yd,Ye,Yf,Yg,Yh,Yi,Yj,Yk,Yl,lk,ef,Ym,Yn,Yo,Yp,Yq,Yr,Ys,Yt,Yu,Yv,Yw,Yx,Yy,Yz,X0,X1,X2,X3,X4,X5,X6,X7,X8,X9,Xa,Xb,Xc,Xd,Xe,Xf,Xg,Xh,Xi,Xj,Xk,hv,Xl,ev,Xm,Xn,Xo,Xp,Xq,Xr,Xs,Xt,Xu,Xv,Xw,Xx,Xy,Xz,W0,W1,W2,W3,W4,W5,W6,W7,W8,W9,Wa,Wb,Wc,Wd,We,Wf,Wg,Wh,Wi,Value.oneCell',Wj,Wk,Wl,Wm,true_and,and_true,and_self,implies_true,Wn,Wo,Wp,Wq,false_implies,Wr,Ws,Wt,Wu,Wv,Ww,Wx,Wy,Wz,V0,V1,V2,V3,V4,V5,V6,V7,reduceCtorEq,if_true,if_false,V8,↓reduceIte,V9,Va,Vb,Vc,Vd,Ve,ne_eq,not_false_eq_true,not_true_eq_false,Vf,Vg,r17_0,r17_1,r17_2,r17_3,r17_4,r17_5,r17_6,r17_7,r17_8,r17_9,r17_10,r17_11,r17_12,r17_13,r17_14,r17_15,r17_16,r17_17,r17_18,r17_19,p17,Par.av,bne0_t h0,beq0_f h0]) | (exfalso; omega)
    all_goals simp [leastF, h0]
/-! headend/sample.Fullness -/
def r15_0 : List POp := [⟨3, .boxs (.t 0), none⟩,
  ⟨6, .asg (.c (.int .i64 0)), none⟩,
  ⟨7, .asg (.c (.int .i64 0)), none⟩]
def r15_1 : List POp := [⟨15, .loads 2 (.t 3), none⟩,
  ⟨16, .call 19 [.t 15], none⟩,
  ⟨8, .asg (.t 16), none⟩]
def r15_2 : List POp := [⟨17, .mv (.t 8), none⟩,
  ⟨18, .bin .neq (.t 17) (.c (.int .i64 0)), none⟩]
def r15_3 : List POp := [⟨19, .mv (.t 8), none⟩,
  ⟨6, .mv (.c (.int .i64 0)), none⟩,
  ⟨7, .mv (.t 19), none⟩]
def r15_4 : List POp := [⟨21, .mv (.t 1), none⟩,
  ⟨22, .call 20 [.t 21, .c (.int .i64 1), .c (.int .i64 1000000000)], none⟩,
  ⟨23, .mv (.t 22), none⟩,
  ⟨24, .mv (.t 2), some (23, false)⟩,
  ⟨25, .call 20 [.t 24, .c (.int .i64 0), .c (.int .i64 1000000000000)], some (23, false)⟩,
  ⟨26, .pick (.t 23) (.c (.bool true)) (.t 25), none⟩,
  ⟨20, .asg (.t 26), none⟩]
def r15_5 : List POp := [⟨6, .asg (.c (.int .i64 0)), none⟩,
  ⟨7, .asg (.c (.int .i64 1)), none⟩]
def r15_6 : List POp := [⟨28, .mv (.t 2), none⟩,
  ⟨29, .loads 2 (.t 3), none⟩,
  ⟨30, .mv (.t 1), none⟩,
  ⟨31, .call 32 [.t 29, .t 30], none⟩,
  ⟨32, .bin .lss (.t 28) (.t 31), none⟩,
  ⟨27, .asg (.t 32), none⟩]
def r15_7 : List POp := [⟨6, .asg (.c (.int .i64 0)), none⟩,
  ⟨7, .asg (.c (.int .i64 11)), none⟩]
def r15_8 : List POp := [⟨33, .fld 1 (.t 3), none⟩,
  ⟨34, .load (.t 33), none⟩,
  ⟨35, .call 26 [.t 34], none⟩,
  ⟨9, .asg (.t 35), none⟩,
  ⟨10, .asg (.c (.int .i64 0)), none⟩,
  ⟨11, .asg (.c (.int .i64 0)), none⟩]
def r15_9 : List POp := [⟨36, .fld 1 (.t 3), none⟩,
  ⟨37, .load (.t 36), none⟩,
  ⟨38, .len (.t 37), none⟩,
  ⟨39, .mv (.c (.int .i64 0)), none⟩]
def r15_10 : List POp := [⟨40, .bin .lss (.t 39) (.t 38), none⟩]
def r15_11 : List POp := [⟨41, .idx 5 (.t 37) (.t 39), none⟩,
  ⟨42, .loads 5 (.t 41), none⟩,
  ⟨13, .alloc [.int .i64 0, .int .i64 0, .int .i64 0, .int .i64 0, .bool false], none⟩,
  ⟨0, .stores 5 (.t 13) (.t 42), none⟩]
def r15_12 : List POp := [⟨43, .mv (.t 2), none⟩,
  ⟨44, .fld 0 (.t 13), none⟩,
  ⟨45, .load (.t 44), none⟩,
  ⟨46, .bin .add (.t 43) (.t 45), none⟩,
  ⟨47, .fld 1 (.t 3), none⟩,
  ⟨48, .load (.t 47), none⟩,
  ⟨49, .idx 5 (.t 48) (.c (.int .i64 0)), none⟩,
  ⟨50, .fld 0 (.t 49), none⟩,
  ⟨51, .load (.t 50), none⟩,
  ⟨52, .bin .sub (.t 46) (.t 51), none⟩,
  ⟨53, .mv (.t 1), none⟩,
  ⟨54, .fld 0 (.t 3), none⟩,
  ⟨55, .load (.t 54), none⟩,
  ⟨56, .call 25 [.t 52, .t 53, .t 55, .c (.int .i64 1)], none⟩,
  ⟨14, .asg (.t 56), none⟩]
def r15_13 : List POp := [⟨57, .mv (.t 11), none⟩,
  ⟨58, .mv (.t 9), none⟩,
  ⟨59, .mv (.t 14), none⟩,
  ⟨60, .minmax false (.t 58) (.t 59), none⟩,
  ⟨61, .mv (.t 10), none⟩,
  ⟨62, .bin .sub (.t 60) (.t 61), none⟩,
  ⟨63, .minmax true (.t 57) (.t 62), none⟩,
  ⟨11, .asg (.t 63), none⟩]
def r15_14 : List POp := [⟨64, .mv (.t 10), none⟩,
  ⟨65, .fld 3 (.t 13), none⟩,
  ⟨66, .load (.t 65), none⟩,
  ⟨67, .bin .add (.t 64) (.t 66), none⟩,
  ⟨10, .asg (.t 67), none⟩]
def r15_15 : List POp := [⟨68, .bin .add (.t 39) (.c (.int .i64 1)), none⟩,
  ⟨39, .mv (.t 68), none⟩]
def r15_16 : List POp := [⟨69, .mv (.t 11), none⟩,
  ⟨6, .asg (.t 69), none⟩,
  ⟨7, .asg (.c (.int .i64 0)), none⟩]
def l15_0 : PCode := .seq (.ops r15_10) (.seq (.cond (.t 40) (.skip) (.exit 1)) (.seq (.block 2 (.seq (.ops r15_11) (.seq (.ops r15_12) (.seq (.ops r15_13) (.ops r15_14))))) (.ops r15_15)))
def p15 : PCode := .seq (.ops r15_0) (.seq (.seq (.ops r15_1) (.seq (.ops r15_2) (.cond (.t 18) (.seq (.ops r15_3) (.ret)) (.skip)))) (.seq (.block 0 (.seq (.ops r15_4) (.cond (.t 20) (.seq (.ops r15_5) (.ret)) (.seq (.ops r15_6) (.cond (.t 27) (.seq (.ops r15_7) (.ret)) (.skip)))))) (.seq (.ops r15_8) (.seq (.seq (.ops r15_9) (.block 1 (.loop l15_0))) (.seq (.ops r15_16) (.ret))))))
theorem ok15 : okFunc Tryd.prog 15 [.t 6, .t 7] 3 p15 = true := by kernel_rfl
def fulGo (t0 scale rate wait all : Int) (most taken : Int) : List Smp → Int
  | [] => most
  | s :: r => fulGo t0 scale rate wait all (max most (min all ((min ((wait + s.time - t0).toNat * rate.toNat / scale.toNat) 1152921504606846976 : Nat) : Int) - taken)) (taken + s.size) r
def fullF (p : Par) (rate wait : Int) : Int × Int := if parF p ≠ 0 then (0, parF p) else if outB rate 1 1000000000 || outB wait 0 1000000000000 then (0, 1) else if wait < delayF p rate then (0, 11) else
  (fulGo (p.smps.headD ⟨0, 0, 0, 0, false⟩).time p.scale rate wait (sizes p.smps) 0 0 p.smps, 0)
theorem full_c (p : Par) (rate wait : Int) : CallOK Tryd.prog 15 [.agg p.av, .val (.int .i64 rate), .val (.int .i64 wait)] (.tup [.val (.int .i64 (fullF p rate wait).1), .val (.int .i64 (fullF p rate wait).2)]) := by
  refine call_of mixed ok15 rfl ?_
  have hp := par_c p
  by_cases h0 : parF p = 0
  · rw [h0] at hp
    simp only [Par.av] at hp
    by_cases hr : outB rate 1 1000000000 = true
    · repeat' first | ((with_reducible (first | refine condD ?_ ?_ | refine condE ?_ ?_ | refine condN ?_ ?_ | refine condI ?_ ?_ | refine condS ?_ ?_)) <;> intro h) | ((with_reducible (first | refine guardD (by with_unfolding_all rfl) ?_ ?_ | refine guardE (by with_unfolding_all rfl) ?_ ?_ | refine guardN (by with_unfolding_all rfl) ?_ ?_ | refine guardI (by with_unfolding_all rfl) ?_ ?_ | refine guardS (by with_unfolding_all rfl) ?_ ?_)) <;> intro h) | ((refine callG hp ?_)) | ((refine callG (out_c _ _ _) ?_)) | (with_reducible refine And.intro ?_ ?_; omega) | (simp only [Z0,Z1,Z2,Z3,Z4,Z5,Z6,Z7,Z8,Z9,Za,Zb,Zc,Zd,Ze,Zf,List.cons.injEq,Zg,Zh,Zi,Zj,Zk,Zl,Zm,Zn,Zo,Zp,beq_self_eq_true,bne_self_eq_false,decide_true,decide_false,Zq,Zr,Zs,Zt,Zu,Zv,Zw,Zx,Zy,Zz,Y0,Y1,Y2,Y3,Y4,Y5,Y6,Y7,Y8,Y9,Ya,Yb,Yc,Yd,Ye,Yf,Yg,Yh,Yi,Yj,Yk,Yl,lk,ef,Ym,Yn,Yo,Yp,Yq,Yr,Ys,Yt,Yu,Yv,Yw,Yx,Yy,Yz,X0,X1,X2,X3,X4,X5,X6,X7,X8,X9,Xa,Xb,Xc,Xd,Xe,Xf,Xg,Xh,Xi,Xj,Xk,hv,Xl,ev,Xm,Xn,Xo,Xp,Xq,Xr,Xs,Xt,Xu,Xv,Xw,Xx,Xy,Xz,W0,W1,W2,W3,W4,W5,W6,W7,W8,W9,Wa,Wb,Wc,Wd,We,Wf,Wg,Wh,Wi,Value.oneCell',Wj,Wk,Wl,Wm,true_and,and_true,and_self,implies_true,Wn,Wo,Wp,Wq,false_implies,Wr,Ws,Wt,Wu,Wv,Ww,Wx,Wy,Wz,V0,V1,V2,V3,V4,V5,V6,V7,reduceCtorEq,if_true,if_false,V8,↓reduceIte,V9,Va,Vb,Vc,Vd,Ve,ne_eq,not_false_eq_true,not_true_eq_false,Vf,Vg,r15_0,r15_1,r15_2,r15_3,r15_4,r15_5,r15_6,r15_7,r15_8,r15_9,r15_10,r15_11,r15_12,r15_13,r15_14,r15_15,r15_16,p15,Par.av,hr]) | (exfalso; omega)
      all_goals simp [fullF, h0, hr]
    simp only [Bool.not_eq_true] at hr
    by_cases hr2 : outB wait 0 1000000000000 = true
    · repeat' first | ((with_reducible (first | refine condD ?_ ?_ | refine condE ?_ ?_ | refine condN ?_ ?_ | refine condI ?_ ?_ | refine condS ?_ ?_)) <;> intro h) | ((with_reducible (first | refine guardD (by with_unfolding_all rfl) ?_ ?_ | refine guardE (by with_unfolding_all rfl) ?_ ?_ | refine guardN (by with_unfolding_all rfl) ?_ ?_ | refine guardI (by with_unfolding_all rfl) ?_ ?_ | refine guardS (by with_unfolding_all rfl) ?_ ?_)) <;> intro h) | ((refine callG hp ?_)) | ((refine callG (out_c _ _ _) ?_)) | (with_reducible refine And.intro ?_ ?_; omega) | (simp only [Z0,Z1,Z2,Z3,Z4,Z5,Z6,Z7,Z8,Z9,Za,Zb,Zc,Zd,Ze,Zf,List.cons.injEq,Zg,Zh,Zi,Zj,Zk,Zl,Zm,Zn,Zo,Zp,beq_self_eq_true,bne_self_eq_false,decide_true,decide_false,Zq,Zr,Zs,Zt,Zu,Zv,Zw,Zx,Zy,Zz,Y0,Y1,Y2,Y3,Y4,Y5,Y6,Y7,Y8,Y9,Ya,Yb,Yc,Yd,Ye,Yf,Yg,Yh,Yi,Yj,Yk,Yl,lk,ef,Ym,Yn,Yo,Yp,Yq,Yr,Ys,Yt,Yu,Yv,Yw,Yx,Yy,Yz,X0,X1,X2,X3,X4,X5,X6,X7,X8,X9,Xa,Xb,Xc,Xd,Xe,Xf,Xg,Xh,Xi,Xj,Xk,hv,Xl,ev,Xm,Xn,Xo,Xp,Xq,Xr,Xs,Xt,Xu,Xv,Xw,Xx,Xy,Xz,W0,W1,W2,W3,W4,W5,W6,W7,W8,W9,Wa,Wb,Wc,Wd,We,Wf,Wg,Wh,Wi,Value.oneCell',Wj,Wk,Wl,Wm,true_and,and_true,and_self,implies_true,Wn,Wo,Wp,Wq,false_implies,Wr,Ws,Wt,Wu,Wv,Ww,Wx,Wy,Wz,V0,V1,V2,V3,V4,V5,V6,V7,reduceCtorEq,if_true,if_false,V8,↓reduceIte,V9,Va,Vb,Vc,Vd,Ve,ne_eq,not_false_eq_true,not_true_eq_false,Vf,Vg,r15_0,r15_1,r15_2,r15_3,r15_4,r15_5,r15_6,r15_7,r15_8,r15_9,r15_10,r15_11,r15_12,r15_13,r15_14,r15_15,r15_16,p15,Par.av,hr,hr2]) | (exfalso; omega)
      all_goals simp [fullF, h0, hr2]
    simp only [Bool.not_eq_true] at hr2
    have hd := delay_c p rate h0 hr
    simp only [Par.av] at hd
    by_cases hw0 : wait < delayF p rate
    · repeat' first | ((with_reducible (first | refine condD ?_ ?_ | refine condE ?_ ?_ | refine condN ?_ ?_ | refine condI ?_ ?_ | refine condS ?_ ?_)) <;> intro h) | ((with_reducible (first | refine guardD (by with_unfolding_all rfl) ?_ ?_ | refine guardE (by with_unfolding_all rfl) ?_ ?_ | refine guardN (by with_unfolding_all rfl) ?_ ?_ | refine guardI (by with_unfolding_all rfl) ?_ ?_ | refine guardS (by with_unfolding_all rfl) ?_ ?_)) <;> intro h) | ((refine callG hp ?_)) | ((refine callG (out_c _ _ _) ?_)) | ((refine callG hd ?_)) | (with_reducible refine And.intro ?_ ?_; omega) | (simp only [Z0,Z1,Z2,Z3,Z4,Z5,Z6,Z7,Z8,Z9,Za,Zb,Zc,Zd,Ze,Zf,List.cons.injEq,Zg,Zh,Zi,Zj,Zk,Zl,Zm,Zn,Zo,Zp,beq_self_eq_true,bne_self_eq_false,decide_true,decide_false,Zq,Zr,Zs,Zt,Zu,Zv,Zw,Zx,Zy,Zz,Y0,Y1,Y2,Y3,Y4,Y5,Y6,Y7,Y8,Y9,Ya,Yb,Yc,Yd,Ye,Yf,Yg,Yh,Yi,Yj,Yk,Yl,lk,ef,Ym,Yn,Yo,Yp,Yq,Yr,Ys,Yt,Yu,Yv,Yw,Yx,Yy,Yz,X0,X1,X2,X3,X4,X5,X6,X7,X8,X9,Xa,Xb,Xc,Xd,Xe,Xf,Xg,Xh,Xi,Xj,Xk,hv,Xl,ev,Xm,Xn,Xo,Xp,Xq,Xr,Xs,Xt,Xu,Xv,Xw,Xx,Xy,Xz,W0,W1,W2,W3,W4,W5,W6,W7,W8,W9,Wa,Wb,Wc,Wd,We,Wf,Wg,Wh,Wi,Value.oneCell',Wj,Wk,Wl,Wm,true_and,and_true,and_self,implies_true,Wn,Wo,Wp,Wq,false_implies,Wr,Ws,Wt,Wu,Wv,Ww,Wx,Wy,Wz,V0,V1,V2,V3,V4,V5,V6,V7,reduceCtorEq,if_true,if_false,V8,↓reduceIte,V9,Va,Vb,Vc,Vd,Ve,ne_eq,not_false_eq_true,not_true_eq_false,Vf,Vg,r15_0,r15_1,r15_2,r15_3,r15_4,r15_5,r15_6,r15_7,r15_8,r15_9,r15_10,r15_11,r15_12,r15_13,r15_14,r15_15,r15_16,p15,Par.av,hr,hr2,hw0]) | (exfalso; omega)
      all_goals simp [fullF, h0, hr, hr2, hw0]
    have br := outB_f hr
    have bw := outB_f hr2
    obtain ⟨hl, hb, s1, s2, ht⟩ := par_facts h0
    have htot := total_c p.smps hl hb
    have hF : fullF p rate wait = (fulGo (p.smps.headD ⟨0, 0, 0, 0, false⟩).time p.scale rate wait (sizes p.smps) 0 0 p.smps, 0) := by simp [fullF, h0, hr, hr2, hw0]
    obtain ⟨t0, ht0⟩ : ∃ t0, t0 = (p.smps.headD ⟨0, 0, 0, 0, false⟩).time := ⟨_, rfl⟩
    rw [← ht0] at ht hF
    obtain ⟨scale, l⟩ := p
    simp only at hl hb s1 s2 ht hF ht0 hp htot
    have bA := sizes_bd hb
    obtain ⟨A, hA⟩ : ∃ A, A = sizes l := ⟨_, rfl⟩
    rw [← hA] at htot hF bA
    repeat' first | ((with_reducible (first | refine condD ?_ ?_ | refine condE ?_ ?_ | refine condN ?_ ?_ | refine condI ?_ ?_ | refine condS ?_ ?_)) <;> intro h) | ((with_reducible (first | refine guardD (by with_unfolding_all rfl) ?_ ?_ | refine guardE (by with_unfolding_all rfl) ?_ ?_ | refine guardN (by with_unfolding_all rfl) ?_ ?_ | refine guardI (by with_unfolding_all rfl) ?_ ?_ | refine guardS (by with_unfolding_all rfl) ?_ ?_)) <;> intro h) | ((refine callG hp ?_)) | ((refine callG (out_c _ _ _) ?_)) | ((refine callG hd ?_)) | ((refine callG htot ?_)) | (with_reducible refine And.intro ?_ ?_; omega) | (simp only [Z0,Z1,Z2,Z3,Z4,Z5,Z6,Z7,Z8,Z9,Za,Zb,Zc,Zd,Ze,Zf,List.cons.injEq,Zg,Zh,Zi,Zj,Zk,Zl,Zm,Zn,Zo,Zp,beq_self_eq_true,bne_self_eq_false,decide_true,decide_false,Zq,Zr,Zs,Zt,Zu,Zv,Zw,Zx,Zy,Zz,Y0,Y1,Y2,Y3,Y4,Y5,Y6,Y7,Y8,Y9,Ya,Yb,Yc,Yd,Ye,Yf,Yg,Yh,Yi,Yj,Yk,Yl,lk,ef,Ym,Yn,Yo,Yp,Yq,Yr,Ys,Yt,Yu,Yv,Yw,Yx,Yy,Yz,X0,X1,X2,X3,X4,X5,X6,X7,X8,X9,Xa,Xb,Xc,Xd,Xe,Xf,Xg,Xh,Xi,Xj,Xk,hv,Xl,ev,Xm,Xn,Xo,Xp,Xq,Xr,Xs,Xt,Xu,Xv,Xw,Xx,Xy,Xz,W0,W1,W2,W3,W4,W5,W6,W7,W8,W9,Wa,Wb,Wc,Wd,We,Wf,Wg,Wh,Wi,Value.oneCell',Wj,Wk,Wl,Wm,true_and,and_true,and_self,implies_true,Wn,Wo,Wp,Wq,false_implies,Wr,Ws,Wt,Wu,Wv,Ww,Wx,Wy,Wz,V0,V1,V2,V3,V4,V5,V6,V7,reduceCtorEq,if_true,if_false,V8,↓reduceIte,V9,Va,Vb,Vc,Vd,Ve,ne_eq,not_false_eq_true,not_true_eq_false,Vf,Vg,r15_0,r15_1,r15_2,r15_3,r15_4,r15_5,r15_6,r15_7,r15_8,r15_9,r15_10,r15_11,r15_12,r15_13,r15_14,r15_15,r15_16,p15,Par.av,hr,hr2,hw0]) | (exfalso; omega)
    refine loopS (fun q : Nat × Int => mk [(1, .val (.int .i64 rate)), (2, .val (.int .i64 wait)), (3, .box (Par.av ⟨scale, l⟩)), (9, .val (.int .i64 A)), (10, .val (.int .i64 (sizes (l.take q.1)))), (11, .val (.int .i64 q.2)), (37, .ro (l.map Smp.av)), (38, .val (.int .i64 l.length)), (39, .val (.int .i64 q.1))])
      (fun q => q.1 ≤ l.length ∧ 0 ≤ q.2 ∧ fullF ⟨scale, l⟩ rate wait = (fulGo t0 scale rate wait A q.2 (sizes (l.take q.1)) (l.drop q.1), 0)) (fun q => l.length - q.1) (0, 0) (weak_mk ?_) ⟨Nat.zero_le _, Int.le_refl _, by simpa [sizes] using hF⟩ ?_
    · simp only [Vh,Vi,wk1,Vj,Vk,Vl,Z0,Z1,Z2,Z3,Z4,Z5,Z6,Z7,Z8,Z9,Za,Zb,Zc,Zd,Ze,Zf,List.cons.injEq,Zg,Zh,Zi,Zj,Zk,Zl,Zm,Zn,Zo,Zp,beq_self_eq_true,bne_self_eq_false,decide_true,decide_false,Zq,Zr,Zs,Zt,Zu,Zv,Zw,Zx,Zy,Zz,Y0,Y1,Y2,Y3,Y4,Y5,Y6,Y7,Y8,Y9,Ya,Yb,Yc,Yd,Ye,Yf,Yg,Yh,Yi,Yj,Yk,Yl,lk,ef,Ym,Yn,Yo,Yp,Yq,Yr,Ys,Yt,Yu,Yv,Yw,Yx,Yy,Yz,X0,X1,X2,X3,X4,X5,X6,X7,X8,X9,Xa,Xb,Xc,Xd,Xe,Xf,Xg,Xh,Xi,Xj,Xk,hv,Xl,ev,Xm,Xn,Xo,Xp,Xq,Xr,Xs,Xt,Xu,Xv,Xw,Xx,Xy,Xz,W0,W1,W2,W3,W4,W5,W6,W7,W8,W9,Wa,Wb,Wc,Wd,We,Wf,Wg,Wh,Wi,Value.oneCell',Wj,Wk,Wl,Wm,true_and,and_true,and_self,implies_true,Wn,Wo,Wp,Wq,false_implies,Wr,Ws,Wt,Wu,Wv,Ww,Wx,Wy,Wz,V0,V1,V2,V3,V4,V5,V6,V7,reduceCtorEq,if_true,if_false,V8,↓reduceIte,V9,Va,Vb,Vc,Vd,Ve,ne_eq,not_false_eq_true,not_true_eq_false,Vf,Nat.zero_ne_one]
      simp [sizes, Par.av]
    · rintro J hJ ⟨k, m⟩ ⟨hk, hm0, hg⟩
      simp only at hk hm0 hg
      simp only [Z0,Z1,Z2,Z3,Z4,Z5,Z6,Z7,Z8,Z9,Za,Zb,Zc,Zd,Ze,Zf,List.cons.injEq,Zg,Zh,Zi,Zj,Zk,Zl,Zm,Zn,Zo,Zp,beq_self_eq_true,bne_self_eq_false,decide_true,decide_false,Zq,Zr,Zs,Zt,Zu,Zv,Zw,Zx,Zy,Zz,Y0,Y1,Y2,Y3,Y4,Y5,Y6,Y7,Y8,Y9,Ya,Yb,Yc,Yd,Ye,Yf,Yg,Yh,Yi,Yj,Yk,Yl,lk,ef,Ym,Yn,Yo,Yp,Yq,Yr,Ys,Yt,Yu,Yv,Yw,Yx,Yy,Yz,X0,X1,X2,X3,X4,X5,X6,X7,X8,X9,Xa,Xb,Xc,Xd,Xe,Xf,Xg,Xh,Xi,Xj,Xk,hv,Xl,ev,Xm,Xn,Xo,Xp,Xq,Xr,Xs,Xt,Xu,Xv,Xw,Xx,Xy,Xz,W0,W1,W2,W3,W4,W5,W6,W7,W8,W9,Wa,Wb,Wc,Wd,We,Wf,Wg,Wh,Wi,Value.oneCell',Wj,Wk,Wl,Wm,true_and,and_true,and_self,implies_true,Wn,Wo,Wp,Wq,false_implies,Wr,Ws,Wt,Wu,Wv,Ww,Wx,Wy,Wz,V0,V1,V2,V3,V4,V5,V6,V7,reduceCtorEq,if_true,if_false,V8,↓reduceIte,V9,Va,Vb,Vc,Vd,Ve,ne_eq,not_false_eq_true,not_true_eq_false,Vf,Vg,r15_0,r15_1,r15_2,r15_3,r15_4,r15_5,r15_6,r15_7,r15_8,r15_9,r15_10,r15_11,r15_12,r15_13,r15_14,r15_15,r15_16,p15,l15_0]
      refine condD (fun h => ?_) (fun h => ?_)
      · have hlt : k < l.length := by omega
        have hlt0 : 0 < l.length := by omega
        have hw := i_add1 k (by omega)
        have b1 := sizes_bd (l := l.take k) fun s hs => hb s (List.mem_of_mem_take hs)
        have b2 := badSmp_bd (hb l[k] (List.getElem_mem hlt))
        have hlen : (l.take k).length ≤ 5000 := by rw [List.length_take]; omega
        have hs := sizes_take hlt
        have w1 : IntKind.i64.wrap (sizes (l.take k) + l[k].size) = sizes (l.take (k + 1)) := by rw [hs]; exact wrap_in (by omega) (by omega)
        rw [List.drop_eq_getElem_cons hlt, fulGo, ← hs] at hg
        clear hs
        have t1 := ht k hlt
        have g0 := getD_map (f := Smp.av) (d := []) hlt0
        have e0 : l[0].time = t0 := by
          rw [ht0]
          cases l with
          | nil => simp at hlt0
          | cons a r => rfl
        have b3 := badSmp_bd (hb l[0] (List.getElem_mem hlt0))
        have v1 : IntKind.i64.wrap (wait + l[k].time) = wait + l[k].time := wrap_in (by omega) (by omega)
        have v2 : IntKind.i64.wrap (wait + l[k].time - l[0].time) = wait + l[k].time - t0 := by rw [e0]; exact wrap_in (by omega) (by omega)
        have hsc := scaledI_c (wait + l[k].time - t0) rate scale 1 (by omega) (by omega) (by omega) (by omega) (by omega) (by omega)
        rw [scl_down (by omega) (by omega)] at hsc
        have bC : min ((wait + l[k].time - t0).toNat * rate.toNat / scale.toNat) 1152921504606846976 ≤ 1152921504606846976 := Nat.min_le_right _ _
        obtain ⟨C, hC⟩ : ∃ C : Nat, C = min ((wait + l[k].time - t0).toNat * rate.toNat / scale.toNat) 1152921504606846976 := ⟨_, rfl⟩
        rw [← hC] at hsc bC hg
        have v3 : IntKind.i64.wrap ((if (C : Int) < A then (C : Int) else A) - sizes (l.take k)) = min A (C : Int) - sizes (l.take k) := by
          have : (if (C : Int) < A then (C : Int) else A) = min A (C : Int) := by omega
          rw [this]; exact wrap_in (by omega) (by omega)
        repeat' first | ((with_reducible (first | refine condD ?_ ?_ | refine condE ?_ ?_ | refine condN ?_ ?_ | refine condI ?_ ?_ | refine condS ?_ ?_)) <;> intro h) | ((with_reducible (first | refine guardD (by with_unfolding_all rfl) ?_ ?_ | refine guardE (by with_unfolding_all rfl) ?_ ?_ | refine guardN (by with_unfolding_all rfl) ?_ ?_ | refine guardI (by with_unfolding_all rfl) ?_ ?_ | refine guardS (by with_unfolding_all rfl) ?_ ?_)) <;> intro h) | ((refine callG hsc ?_)) | (with_reducible refine And.intro ?_ ?_; omega) | (simp only [Z0,Z1,Z2,Z3,Z4,Z5,Z6,Z7,Z8,Z9,Za,Zb,Zc,Zd,Ze,Zf,List.cons.injEq,Zg,Zh,Zi,Zj,Zk,Zl,Zm,Zn,Zo,Zp,beq_self_eq_true,bne_self_eq_false,decide_true,decide_false,Zq,Zr,Zs,Zt,Zu,Zv,Zw,Zx,Zy,Zz,Y0,Y1,Y2,Y3,Y4,Y5,Y6,Y7,Y8,Y9,Ya,Yb,Yc,Yd,Ye,Yf,Yg,Yh,Yi,Yj,Yk,Yl,lk,ef,Ym,Yn,Yo,Yp,Yq,Yr,Ys,Yt,Yu,Yv,Yw,Yx,Yy,Yz,X0,X1,X2,X3,X4,X5,X6,X7,X8,X9,Xa,Xb,Xc,Xd,Xe,Xf,Xg,Xh,Xi,Xj,Xk,hv,Xl,ev,Xm,Xn,Xo,Xp,Xq,Xr,Xs,Xt,Xu,Xv,Xw,Xx,Xy,Xz,W0,W1,W2,W3,W4,W5,W6,W7,W8,W9,Wa,Wb,Wc,Wd,We,Wf,Wg,Wh,Wi,Value.oneCell',Wj,Wk,Wl,Wm,true_and,and_true,and_self,implies_true,Wn,Wo,Wp,Wq,false_implies,Wr,Ws,Wt,Wu,Wv,Ww,Wx,Wy,Wz,V0,V1,V2,V3,V4,V5,V6,V7,reduceCtorEq,if_true,if_false,V8,↓reduceIte,V9,Va,Vb,Vc,Vd,Ve,ne_eq,not_false_eq_true,not_true_eq_false,Vf,Vg,r15_0,r15_1,r15_2,r15_3,r15_4,r15_5,r15_6,r15_7,r15_8,r15_9,r15_10,r15_11,r15_12,r15_13,r15_14,r15_15,r15_16,p15,l15_0,Par.av,Smp.av,getD_map hlt,g0,w1,v1,v2,v3]) | (exfalso; omega)
        exact again hJ (k + 1, max m (min A (C : Int) - sizes (l.take k))) (weak_mk (by simp only [Vh,Vi,wk1,Vj,Vk,Vl,Z0,Z1,Z2,Z3,Z4,Z5,Z6,Z7,Z8,Z9,Za,Zb,Zc,Zd,Ze,Zf,List.cons.injEq,Zg,Zh,Zi,Zj,Zk,Zl,Zm,Zn,Zo,Zp,beq_self_eq_true,bne_self_eq_false,decide_true,decide_false,Zq,Zr,Zs,Zt,Zu,Zv,Zw,Zx,Zy,Zz,Y0,Y1,Y2,Y3,Y4,Y5,Y6,Y7,Y8,Y9,Ya,Yb,Yc,Yd,Ye,Yf,Yg,Yh,Yi,Yj,Yk,Yl,lk,ef,Ym,Yn,Yo,Yp,Yq,Yr,Ys,Yt,Yu,Yv,Yw,Yx,Yy,Yz,X0,X1,X2,X3,X4,X5,X6,X7,X8,X9,Xa,Xb,Xc,Xd,Xe,Xf,Xg,Xh,Xi,Xj,Xk,hv,Xl,ev,Xm,Xn,Xo,Xp,Xq,Xr,Xs,Xt,Xu,Xv,Xw,Xx,Xy,Xz,W0,W1,W2,W3,W4,W5,W6,W7,W8,W9,Wa,Wb,Wc,Wd,We,Wf,Wg,Wh,Wi,Value.oneCell',Wj,Wk,Wl,Wm,true_and,and_true,and_self,implies_true,Wn,Wo,Wp,Wq,false_implies,Wr,Ws,Wt,Wu,Wv,Ww,Wx,Wy,Wz,V0,V1,V2,V3,V4,V5,V6,V7,reduceCtorEq,if_true,if_false,V8,↓reduceIte,V9,Va,Vb,Vc,Vd,Ve,ne_eq,not_false_eq_true,not_true_eq_false,Vf,Nat.zero_ne_one]; exact ⟨by simp [Par.av], by omega, hw⟩)) ⟨by simp only; omega, by simp only; omega, hg⟩ (by simp only; omega)
      · have hke : k = l.length := by omega
        subst hke
        have hR : fullF ⟨scale, l⟩ rate wait = (m, 0) := by rw [hg]; simp [fulGo]
        clear hJ hg
        repeat' first | ((with_reducible (first | refine condD ?_ ?_ | refine condE ?_ ?_ | refine condN ?_ ?_ | refine condI ?_ ?_ | refine condS ?_ ?_)) <;> intro h) | ((with_reducible (first | refine guardD (by with_unfolding_all rfl) ?_ ?_ | refine guardE (by with_unfolding_all rfl) ?_ ?_ | refine guardN (by with_unfolding_all rfl) ?_ ?_ | refine guardI (by with_unfolding_all rfl) ?_ ?_ | refine guardS (by with_unfolding_all rfl) ?_ ?_)) <;> intro h) | (with_reducible refine And.intro ?_ ?_; omega) | (simp only [Z0,Z1,Z2,Z3,Z4,Z5,Z6,Z7,Z8,Z9,Za,Zb,Zc,Zd,Ze,Zf,List.cons.injEq,Zg,Zh,Zi,Zj,Zk,Zl,Zm,Zn,Zo,Zp,beq_self_eq_true,bne_self_eq_false,decide_true,decide_false,Zq,Zr,Zs,Zt,Zu,Zv,Zw,Zx,Zy,Zz,Y0,Y1,Y2,Y3,Y4,Y5,Y6,Y7,Y8,Y9,Ya,Yb,Yc,Yd,Ye,Yf,Yg,Yh,Yi,Yj,Yk,Yl,lk,ef,Ym,Yn,Yo,Yp,Yq,Yr,Ys,Yt,Yu,Yv,Yw,Yx,Yy,Yz,X0,X1,X2,X3,X4,X5,X6,X7,X8,X9,Xa,Xb,Xc,Xd,Xe,Xf,Xg,Xh,Xi,Xj,Xk,hv,Xl,ev,Xm,Xn,Xo,Xp,Xq,Xr,Xs,Xt,Xu,Xv,Xw,Xx,Xy,Xz,W0,W1,W2,W3,W4,W5,W6,W7,W8,W9,Wa,Wb,Wc,Wd,We,Wf,Wg,Wh,Wi,Value.oneCell',Wj,Wk,Wl,Wm,true_and,and_true,and_self,implies_true,Wn,Wo,Wp,Wq,false_implies,Wr,Ws,Wt,Wu,Wv,Ww,Wx,Wy,Wz,V0,V1,V2,V3,V4,V5,V6,V7,reduceCtorEq,if_true,if_false,V8,↓reduceIte,V9,Va,Vb,Vc,Vd,Ve,ne_eq,not_false_eq_true,not_true_eq_false,Vf,Vg,r15_0,r15_1,r15_2,r15_3,r15_4,r15_5,r15_6,r15_7,r15_8,r15_9,r15_10,r15_11,r15_12,r15_13,r15_14,r15_15,r15_16,p15,l15_0]) | (exfalso; omega)
        all_goals simp [hR]
  · simp only [Par.av] at hp
    repeat' first | ((with_reducible (first | refine condD ?_ ?_ | refine condE ?_ ?_ | refine condN ?_ ?_ | refine condI ?_ ?_ | refine condS ?_ ?_)) <;> intro h) | ((with_reducible (first | refine guardD (by with_unfolding_all rfl) ?_ ?_ | refine guardE (by with_unfolding_all rfl) ?_ ?_ | refine guardN (by with_unfolding_all rfl) ?_ ?_ | refine guardI (by with_unfolding_all rfl) ?_ ?_ | refine guardS (by with_unfolding_all rfl) ?_ ?_)) <;> intro h) | ((refine callG hp ?_)) | (with_reducible refine And.intro ?_ ?_; omega) | (simp only [Z0,Z1,Z2,Z3,Z4,Z5,Z6,Z7,Z8,Z9,Za,Zb,Zc,Zd,Ze,Zf,List.cons.injEq,Zg,Zh,Zi,Zj,Zk,Zl,Zm,Zn,Zo,Zp,beq_self_eq_true,bne_self_eq_false,decide_true,decide_false,Zq,Zr,Zs,Zt,Zu,Zv,Zw,Zx,Zy,Zz,Y0,Y1,Y2,Y3,Y4,Y5,Y6,Y7,Y8,Y9,Ya,Yb,Yc,Yd,Ye,Yf,Yg,Yh,Yi,Yj,Yk,Yl,lk,ef,Ym,Yn,Yo,Yp,Yq,Yr,Ys,Yt,Yu,Yv,Yw,Yx,Yy,Yz,X0,X1,X2,X3,X4,X5,X6,X7,X8,X9,Xa,Xb,Xc,Xd,Xe,Xf,Xg,Xh,Xi,Xj,Xk,hv,Xl,ev,Xm,Xn,Xo,Xp,Xq,Xr,Xs,Xt,Xu,Xv,Xw,Xx,Xy,Xz,W0,W1,W2,W3,W4,W5,W6,W7,W8,W9,Wa,Wb,Wc,Wd,We,Wf,Wg,Wh,Wi,Value.oneCell',Wj,Wk,Wl,Wm,true_and,and_true,and_self,implies_true,Wn,Wo,Wp,Wq,false_implies,Wr,Ws,Wt,Wu,Wv,Ww,Wx,Wy,Wz,V0,V1,V2,V3,V4,V5,V6,V7,reduceCtorEq,if_true,if_false,V8,↓reduceIte,V9,Va,Vb,Vc,Vd,Ve,ne_eq,not_false_eq_true,not_true_eq_false,Vf,Vg,r15_0,r15_1,r15_2,r15_3,r15_4,r15_5,r15_6,r15_7,r15_8,r15_9,r15_10,r15_11,r15_12,r15_13,r15_14,r15_15,r15_16,p15,Par.av,bne0_t h0,beq0_f h0]) | (exfalso; omega)
    all_goals simp [fullF, h0]
end Go.Proofs.YtbdcnooafacldaaDoor
