/- Fragments: box.marks, appendNumber, FragmentBytes, by the machine on data. -/
import Derived.Test.YtpecmhdepggnoaaKFragJ
import Derived.Test.YtpecmhdepggnoaaKIdxR
namespace Go.Proofs.Ytpecmhdepggnoaa
open Go.RowKit
open Go.Proofs.Ytpecmhdepggnoaa renaming done_eq → Z0, done_eq' → Z1, donet_eq → Z2, donet_eq' → Z3, fin_val → Z4, fin_tup → Z5, fin_agg → Z6, fin_ro → Z7, res_one → Z8, res_more → Z9, rv_t → Za, rv_c → Zb, rv_l → Zc, int_eq → Zg, bool_eq → Zh, toNat_pred → Zr, toNat_succ → Zs, cnd_t → Zu, cnd_f → Zv, grd_tt → Zw, grd_u → Zx, grd_tf → Zy, grd_ft → Zz, grd_ff → Y0, g_skip → Y1, g_ops → Y2, g_seq → Y3, g_block → Y4, g_exit → Y5, g_ret → Y6, x_c → Y7, x_o → Y8, x_l → Y9, x_b → Ya, g_b → Yb, g_nil → Yc, r_all → Yd, o_nil → Ye, g_cond → Yf, o_guard → Yg, o_call → Yh, o_callm → Yi, o_callt → Yj, o_callx → Yk, o_callv → Yl, o_mv → Ym, o_pick → Yn, o_bin → Yo, o_never → Yp, o_eqs → Yq, o_eqb → Yr, o_un → Ys, o_conv → Yt, o_load → Yu, o_loadr → Yv, o_idxr → Yw, o_loads → Yx, o_fld → Yy, o_idx → Yz, o_idxs → X0, o_len → X1, o_lens → X2, o_ext → X3, o_nilck → X4, o_slc → X5, o_slcs → X6, o_build → X7, o_minmax → X8, o_mkfn → X9, o_alloc → Xa, o_box → Xb, o_boxs → Xc, o_row → Xd, o_rowr → Xe, o_mk → Xf, o_asg → Xg, o_app → Xh, o_store → Xi, o_stores → Xj, o_eqnil → Xk, eqAV → Xl, view_t → Xm, view_c → Xn, view_nil → Xo, view_fn → Xp, look_own → Xq, look_box → Xr, look_junk → Xs, look_val → Xt, look_nilsl → Xu, look_ro → Xv, look_roAt → Xw, look_agg → Xx, look_tup → Xy, look_clo → Xz, look_alias → W0, look_ref → W1, look_into → W2, rowOf → W3, cellsOf → W4, argv → W5, vbin → W6, vun → W7, bnd → W8, elemOf → W9, putParts → Wa, setAt → Wb, zav → Wc, put_at → Wj, mk_at → Wk, mk_nil → Wl, initSt → Wm, wk_cons → Vh, wk_nil → Vi, vint_eq → Vj, vbool_eq → Vk
open Go.Proofs.Ytpecmhdepggnoaa.AV.tup renaming injEq → Zd
open Go.Proofs.Ytpecmhdepggnoaa.AV.agg renaming injEq → Ze
open Go.Proofs.Ytpecmhdepggnoaa.AV.ro renaming injEq → Zf
open _root_.Int renaming toNat_natCast → Zi, reduceToNat → Zj, toNat_zero → Zk, toNat_one → Zl, reduceLE → Zm, reduceLT → Zn, reduceBEq → Zo, reduceBNe → Zp, reduceNeg → Zq
open _root_.List renaming length_map → Zt, map_cons → Wn, map_nil → Wo, forall_mem_cons → Wp, not_mem_nil → Wq, length_cons → Wr, length_nil → Ws, getD_cons_zero → Wt, getD_cons_succ → Wu, getD_nil → Wv, drop_succ_cons → Ww, drop_zero → Wx, take_succ_cons → Wy, take_zero → Wz, set_cons_zero → V0, set_cons_succ → V1, all_cons → V2, all_nil → V3
open Go.Proofs.Ytpecmhdepggnoaa.ASt renaming rid → Wd, free → We
open Go.Proofs.Ytpecmhdepggnoaa.AV renaming kill → Wf, isHome → Wg, noLoan → Wh, cellOK → Wi
open _root_.Bool renaming and_true → V4, true_and → V5, not_true → V6, not_false → V7, false_eq_true → V8
open _root_.Nat renaming reduceEqDiff → V9, reduceAdd → Va, reduceSub → Vb, reduceMul → Vc, reduceLeDiff → Vd, reduceLT → Ve, one_ne_zero → Vf, zero_ne_one → Vg
open Go.Proofs.Ytpecmhdepggnoaa.AV.val renaming injEq → Vl
set_option linter.unusedSimpArgs false
--@short

theorem an1 (a b c : Bool) : IntKind.u8.wrap ((BitVec.ofInt IntKind.u8.bits ((mark4 a b c false : Nat) : Int) &&& ~~~BitVec.ofInt IntKind.u8.bits 1).toNat : Int) = ((mark4 false b c false : Nat) : Int) := by
  cases a <;> cases b <;> cases c <;> decide
theorem an2 (a b c : Bool) : IntKind.u8.wrap ((BitVec.ofInt IntKind.u8.bits ((mark4 a b c false : Nat) : Int) &&& ~~~BitVec.ofInt IntKind.u8.bits 2).toNat : Int) = ((mark4 a false c false : Nat) : Int) := by
  cases a <;> cases b <;> cases c <;> decide
theorem an4 (a b c : Bool) : IntKind.u8.wrap ((BitVec.ofInt IntKind.u8.bits ((mark4 a b c false : Nat) : Int) &&& ~~~BitVec.ofInt IntKind.u8.bits 4).toNat : Int) = ((mark4 a b false false : Nat) : Int) := by
  cases a <;> cases b <;> cases c <;> decide
theorem or8 (a b c : Bool) : IntKind.u8.wrap ((BitVec.ofInt IntKind.u8.bits ((mark4 a b c false : Nat) : Int) ||| BitVec.ofInt IntKind.u8.bits 8).toNat : Int) = ((mark4 a b c true : Nat) : Int) := by
  cases a <;> cases b <;> cases c <;> decide
theorem ad1 (a b c d : Bool) : IntKind.u8.wrap ((BitVec.ofInt IntKind.u8.bits ((mark4 a b c d : Nat) : Int) &&& BitVec.ofInt IntKind.u8.bits 1).toNat : Int) = if a then 1 else 0 := by
  cases a <;> cases b <;> cases c <;> cases d <;> decide
theorem ad2 (a b c d : Bool) : IntKind.u8.wrap ((BitVec.ofInt IntKind.u8.bits ((mark4 a b c d : Nat) : Int) &&& BitVec.ofInt IntKind.u8.bits 2).toNat : Int) = if b then 2 else 0 := by
  cases a <;> cases b <;> cases c <;> cases d <;> decide
theorem ad4 (a b c d : Bool) : IntKind.u8.wrap ((BitVec.ofInt IntKind.u8.bits ((mark4 a b c d : Nat) : Int) &&& BitVec.ofInt IntKind.u8.bits 4).toNat : Int) = if c then 4 else 0 := by
  cases a <;> cases b <;> cases c <;> cases d <;> decide
theorem ad8 (a b c d : Bool) : IntKind.u8.wrap ((BitVec.ofInt IntKind.u8.bits ((mark4 a b c d : Nat) : Int) &&& BitVec.ofInt IntKind.u8.bits 8).toNat : Int) = if d then 8 else 0 := by
  cases a <;> cases b <;> cases c <;> cases d <;> decide
/-! headend/box.numberOf -/
def r77_0 : List POp := [⟨2, .asg (.c (.int .u64 0)), none⟩]
def r77_1 : List POp := [⟨3, .asg (.c (.int .u64 0)), none⟩]
def r77_2 : List POp := [⟨6, .mv (.t 0), none⟩,
  ⟨7, .len (.t 6), none⟩,
  ⟨8, .mv (.c (.int .i64 0)), none⟩]
def r77_3 : List POp := [⟨9, .bin .lss (.t 8) (.t 7), none⟩]
def r77_4 : List POp := [⟨10, .idx 1 (.t 6) (.t 8), none⟩,
  ⟨11, .load (.t 10), none⟩,
  ⟨5, .asg (.t 11), none⟩]
def r77_5 : List POp := [⟨12, .mv (.t 3), none⟩,
  ⟨13, .bin .shl (.t 12) (.c (.int .u64 8)), none⟩,
  ⟨14, .mv (.t 5), none⟩,
  ⟨15, .conv .u64 (.t 14), none⟩,
  ⟨16, .bin .or (.t 13) (.t 15), none⟩,
  ⟨3, .asg (.t 16), none⟩]
def r77_6 : List POp := [⟨17, .bin .add (.t 8) (.c (.int .i64 1)), none⟩,
  ⟨8, .mv (.t 17), none⟩]
def r77_7 : List POp := [⟨18, .mv (.t 3), none⟩,
  ⟨2, .asg (.t 18), none⟩]
def l77_0 : PCode := .seq (.ops r77_3) (.seq (.cond (.t 9) (.skip) (.exit 0)) (.seq (.block 1 (.seq (.ops r77_4) (.ops r77_5))) (.ops r77_6)))
def p77 : PCode := .seq (.ops r77_0) (.seq (.ops r77_1) (.seq (.seq (.ops r77_2) (.block 0 (.loop l77_0))) (.seq (.ops r77_7) (.ret))))
theorem ok77 : okFunc Try.prog 77 [.t 2] 1 p77 = true := by kernel_rfl
theorem numberof_c (b : List Nat) (hb : ∀ x ∈ b, x < 256) (hl : b.length ≤ 8) : CallOK Try.prog 77 [.ro (b.map oneU)] (.val (.int .u64 (beV b 0 : Nat))) := by
  refine call_of mixed ok77 rfl ?_
  repeat' first | ((with_reducible (first | refine condD ?_ ?_ | refine condE ?_ ?_ | refine condN ?_ ?_ | refine condI ?_ ?_ | refine condS ?_ ?_)) <;> intro h) | ((with_reducible (first | refine guardD (by with_unfolding_all rfl) ?_ ?_ | refine guardE (by with_unfolding_all rfl) ?_ ?_ | refine guardN (by with_unfolding_all rfl) ?_ ?_ | refine guardI (by with_unfolding_all rfl) ?_ ?_ | refine guardS (by with_unfolding_all rfl) ?_ ?_)) <;> intro h) | (with_reducible refine And.intro ?_ ?_; omega) | (simp only [Z0,Z1,Z2,Z3,Z4,Z5,Z6,Z7,Z8,Z9,Za,Zb,Zc,Zd,Ze,Zf,List.cons.injEq,Zg,Zh,Zi,Zj,Zk,Zl,Zm,Zn,Zo,Zp,beq_self_eq_true,bne_self_eq_false,decide_true,decide_false,Zq,Zr,Zs,Zt,Zu,Zv,Zw,Zx,Zy,Zz,Y0,Y1,Y2,Y3,Y4,Y5,Y6,Y7,Y8,Y9,Ya,Yb,Yc,Yd,Ye,Yf,Yg,Yh,Yi,Yj,Yk,Yl,lk,ef,Ym,Yn,Yo,Yp,Yq,Yr,Ys,Yt,Yu,Yv,Yw,Yx,Yy,Yz,X0,X1,X2,X3,X4,X5,X6,X7,X8,X9,Xa,Xb,Xc,Xd,Xe,Xf,Xg,Xh,Xi,Xj,Xk,hv,Xl,ev,Xm,Xn,Xo,Xp,Xq,Xr,Xs,Xt,Xu,Xv,Xw,Xx,Xy,Xz,W0,W1,W2,W3,W4,W5,W6,W7,W8,W9,Wa,Wb,Wc,Wd,We,Wf,Wg,Wh,Wi,Value.oneCell',Wj,Wk,Wl,Wm,true_and,and_true,and_self,implies_true,Wn,Wo,Wp,Wq,false_implies,Wr,Ws,Wt,Wu,Wv,Ww,Wx,Wy,Wz,V0,V1,V2,V3,V4,V5,V6,V7,reduceCtorEq,if_true,if_false,V8,↓reduceIte,V9,Va,Vb,Vc,Vd,Ve,ne_eq,not_false_eq_true,not_true_eq_false,Vf,Vg,r77_0,r77_1,r77_2,r77_3,r77_4,r77_5,r77_6,r77_7,p77,List.length_map]) | (exfalso; omega)
  refine loopS (fun k : Nat => mk [(3, .val (.int .u64 (beV (b.take k) 0 : Nat))), (6, .ro (b.map oneU)), (7, .val (.int .i64 b.length)), (8, .val (.int .i64 k))]) (fun k => k ≤ b.length) (fun k => b.length - k) 0 (weak_mk ?_) (Nat.zero_le _) ?_
  · simp only [Vh,Vi,wk1,Vj,Vk,Vl,Z0,Z1,Z2,Z3,Z4,Z5,Z6,Z7,Z8,Z9,Za,Zb,Zc,Zd,Ze,Zf,List.cons.injEq,Zg,Zh,Zi,Zj,Zk,Zl,Zm,Zn,Zo,Zp,beq_self_eq_true,bne_self_eq_false,decide_true,decide_false,Zq,Zr,Zs,Zt,Zu,Zv,Zw,Zx,Zy,Zz,Y0,Y1,Y2,Y3,Y4,Y5,Y6,Y7,Y8,Y9,Ya,Yb,Yc,Yd,Ye,Yf,Yg,Yh,Yi,Yj,Yk,Yl,lk,ef,Ym,Yn,Yo,Yp,Yq,Yr,Ys,Yt,Yu,Yv,Yw,Yx,Yy,Yz,X0,X1,X2,X3,X4,X5,X6,X7,X8,X9,Xa,Xb,Xc,Xd,Xe,Xf,Xg,Xh,Xi,Xj,Xk,hv,Xl,ev,Xm,Xn,Xo,Xp,Xq,Xr,Xs,Xt,Xu,Xv,Xw,Xx,Xy,Xz,W0,W1,W2,W3,W4,W5,W6,W7,W8,W9,Wa,Wb,Wc,Wd,We,Wf,Wg,Wh,Wi,Value.oneCell',Wj,Wk,Wl,Wm,true_and,and_true,and_self,implies_true,Wn,Wo,Wp,Wq,false_implies,Wr,Ws,Wt,Wu,Wv,Ww,Wx,Wy,Wz,V0,V1,V2,V3,V4,V5,V6,V7,reduceCtorEq,if_true,if_false,V8,↓reduceIte,V9,Va,Vb,Vc,Vd,Ve,ne_eq,not_false_eq_true,not_true_eq_false,Vf,Nat.zero_ne_one]
    all_goals first | done | rfl | exact ⟨rfl, rfl⟩ | simp [beV]
  rintro J hJ k hk
  simp only [Z0,Z1,Z2,Z3,Z4,Z5,Z6,Z7,Z8,Z9,Za,Zb,Zc,Zd,Ze,Zf,List.cons.injEq,Zg,Zh,Zi,Zj,Zk,Zl,Zm,Zn,Zo,Zp,beq_self_eq_true,bne_self_eq_false,decide_true,decide_false,Zq,Zr,Zs,Zt,Zu,Zv,Zw,Zx,Zy,Zz,Y0,Y1,Y2,Y3,Y4,Y5,Y6,Y7,Y8,Y9,Ya,Yb,Yc,Yd,Ye,Yf,Yg,Yh,Yi,Yj,Yk,Yl,lk,ef,Ym,Yn,Yo,Yp,Yq,Yr,Ys,Yt,Yu,Yv,Yw,Yx,Yy,Yz,X0,X1,X2,X3,X4,X5,X6,X7,X8,X9,Xa,Xb,Xc,Xd,Xe,Xf,Xg,Xh,Xi,Xj,Xk,hv,Xl,ev,Xm,Xn,Xo,Xp,Xq,Xr,Xs,Xt,Xu,Xv,Xw,Xx,Xy,Xz,W0,W1,W2,W3,W4,W5,W6,W7,W8,W9,Wa,Wb,Wc,Wd,We,Wf,Wg,Wh,Wi,Value.oneCell',Wj,Wk,Wl,Wm,true_and,and_true,and_self,implies_true,Wn,Wo,Wp,Wq,false_implies,Wr,Ws,Wt,Wu,Wv,Ww,Wx,Wy,Wz,V0,V1,V2,V3,V4,V5,V6,V7,reduceCtorEq,if_true,if_false,V8,↓reduceIte,V9,Va,Vb,Vc,Vd,Ve,ne_eq,not_false_eq_true,not_true_eq_false,Vf,Vg,r77_0,r77_1,r77_2,r77_3,r77_4,r77_5,r77_6,r77_7,p77,l77_0]
  refine condD (fun h => ?_) (fun h => ?_)
  · have hlt : k < b.length := by omega
    have hw := i_add1 k (by omega)
    have gK := getD_map (f := oneU) (d := []) hlt
    simp only [oneU] at gK
    have hx := hb _ (List.getElem_mem hlt)
    have hV := beV_lt (b.take k) fun x hx => hb x (List.mem_of_mem_take hx)
    have hVl : (b.take k).length ≤ 7 := by rw [List.length_take]; omega
    have hV2 : 256 ^ (b.take k).length ≤ 256 ^ 7 := Nat.pow_le_pow_right (by decide) hVl
    have hV3 : (256 : Nat) ^ 7 = 72057594037927936 := by decide
    have hs : beV (b.take (k + 1)) 0 = beV (b.take k) 0 * 256 + b[k] := by rw [List.take_succ_eq_append_getElem hlt, beV_snoc]
    obtain ⟨V, hVV⟩ : ∃ V, V = beV (b.take k) 0 := ⟨_, rfl⟩
    rw [← hVV] at hV hs ⊢
    have hs8 := sh8 V (by omega)
    have hor := or_byte V b[k] (by omega) hx
    have hcv : IntKind.u64.wrap ((b[k] : Nat) : Int) = ((b[k] : Nat) : Int) := by rw [wrap_u64]; omega
    have hki : (k : Int) < b.length := by omega
    repeat' first | ((with_reducible (first | refine condD ?_ ?_ | refine condE ?_ ?_ | refine condN ?_ ?_ | refine condI ?_ ?_ | refine condS ?_ ?_)) <;> intro h) | ((with_reducible (first | refine guardD (by with_unfolding_all rfl) ?_ ?_ | refine guardE (by with_unfolding_all rfl) ?_ ?_ | refine guardN (by with_unfolding_all rfl) ?_ ?_ | refine guardI (by with_unfolding_all rfl) ?_ ?_ | refine guardS (by with_unfolding_all rfl) ?_ ?_)) <;> intro h) | (with_reducible refine And.intro ?_ ?_; omega) | (simp only [Z0,Z1,Z2,Z3,Z4,Z5,Z6,Z7,Z8,Z9,Za,Zb,Zc,Zd,Ze,Zf,List.cons.injEq,Zg,Zh,Zi,Zj,Zk,Zl,Zm,Zn,Zo,Zp,beq_self_eq_true,bne_self_eq_false,decide_true,decide_false,Zq,Zr,Zs,Zt,Zu,Zv,Zw,Zx,Zy,Zz,Y0,Y1,Y2,Y3,Y4,Y5,Y6,Y7,Y8,Y9,Ya,Yb,Yc,Yd,Ye,Yf,Yg,Yh,Yi,Yj,Yk,Yl,lk,ef,Ym,Yn,Yo,Yp,Yq,Yr,Ys,Yt,Yu,Yv,Yw,Yx,Yy,Yz,X0,X1,X2,X3,X4,X5,X6,X7,X8,X9,Xa,Xb,Xc,Xd,Xe,Xf,Xg,Xh,Xi,Xj,Xk,hv,Xl,ev,Xm,Xn,Xo,Xp,Xq,Xr,Xs,Xt,Xu,Xv,Xw,Xx,Xy,Xz,W0,W1,W2,W3,W4,W5,W6,W7,W8,W9,Wa,Wb,Wc,Wd,We,Wf,Wg,Wh,Wi,Value.oneCell',Wj,Wk,Wl,Wm,true_and,and_true,and_self,implies_true,Wn,Wo,Wp,Wq,false_implies,Wr,Ws,Wt,Wu,Wv,Ww,Wx,Wy,Wz,V0,V1,V2,V3,V4,V5,V6,V7,reduceCtorEq,if_true,if_false,V8,↓reduceIte,V9,Va,Vb,Vc,Vd,Ve,ne_eq,not_false_eq_true,not_true_eq_false,Vf,Vg,r77_0,r77_1,r77_2,r77_3,r77_4,r77_5,r77_6,r77_7,p77,l77_0,gK,hs8,hor,hcv,hw,hki,List.length_map]) | (exfalso; omega)
    all_goals first | omega | exact again hJ (k + 1) (weak_mk (by simp only [Vh,Vi,wk1,Vj,Vk,Vl,Z0,Z1,Z2,Z3,Z4,Z5,Z6,Z7,Z8,Z9,Za,Zb,Zc,Zd,Ze,Zf,List.cons.injEq,Zg,Zh,Zi,Zj,Zk,Zl,Zm,Zn,Zo,Zp,beq_self_eq_true,bne_self_eq_false,decide_true,decide_false,Zq,Zr,Zs,Zt,Zu,Zv,Zw,Zx,Zy,Zz,Y0,Y1,Y2,Y3,Y4,Y5,Y6,Y7,Y8,Y9,Ya,Yb,Yc,Yd,Ye,Yf,Yg,Yh,Yi,Yj,Yk,Yl,lk,ef,Ym,Yn,Yo,Yp,Yq,Yr,Ys,Yt,Yu,Yv,Yw,Yx,Yy,Yz,X0,X1,X2,X3,X4,X5,X6,X7,X8,X9,Xa,Xb,Xc,Xd,Xe,Xf,Xg,Xh,Xi,Xj,Xk,hv,Xl,ev,Xm,Xn,Xo,Xp,Xq,Xr,Xs,Xt,Xu,Xv,Xw,Xx,Xy,Xz,W0,W1,W2,W3,W4,W5,W6,W7,W8,W9,Wa,Wb,Wc,Wd,We,Wf,Wg,Wh,Wi,Value.oneCell',Wj,Wk,Wl,Wm,true_and,and_true,and_self,implies_true,Wn,Wo,Wp,Wq,false_implies,Wr,Ws,Wt,Wu,Wv,Ww,Wx,Wy,Wz,V0,V1,V2,V3,V4,V5,V6,V7,reduceCtorEq,if_true,if_false,V8,↓reduceIte,V9,Va,Vb,Vc,Vd,Ve,ne_eq,not_false_eq_true,not_true_eq_false,Vf,Nat.zero_ne_one]; first | done | rw [hs] | exact ⟨by rw [hs], hw⟩)) (by omega) (by omega)
  · have hke : k = b.length := by omega
    subst hke
    rw [List.take_length]
    clear hJ
    repeat' first | ((with_reducible (first | refine condD ?_ ?_ | refine condE ?_ ?_ | refine condN ?_ ?_ | refine condI ?_ ?_ | refine condS ?_ ?_)) <;> intro h) | ((with_reducible (first | refine guardD (by with_unfolding_all rfl) ?_ ?_ | refine guardE (by with_unfolding_all rfl) ?_ ?_ | refine guardN (by with_unfolding_all rfl) ?_ ?_ | refine guardI (by with_unfolding_all rfl) ?_ ?_ | refine guardS (by with_unfolding_all rfl) ?_ ?_)) <;> intro h) | (with_reducible refine And.intro ?_ ?_; omega) | (simp only [Z0,Z1,Z2,Z3,Z4,Z5,Z6,Z7,Z8,Z9,Za,Zb,Zc,Zd,Ze,Zf,List.cons.injEq,Zg,Zh,Zi,Zj,Zk,Zl,Zm,Zn,Zo,Zp,beq_self_eq_true,bne_self_eq_false,decide_true,decide_false,Zq,Zr,Zs,Zt,Zu,Zv,Zw,Zx,Zy,Zz,Y0,Y1,Y2,Y3,Y4,Y5,Y6,Y7,Y8,Y9,Ya,Yb,Yc,Yd,Ye,Yf,Yg,Yh,Yi,Yj,Yk,Yl,lk,ef,Ym,Yn,Yo,Yp,Yq,Yr,Ys,Yt,Yu,Yv,Yw,Yx,Yy,Yz,X0,X1,X2,X3,X4,X5,X6,X7,X8,X9,Xa,Xb,Xc,Xd,Xe,Xf,Xg,Xh,Xi,Xj,Xk,hv,Xl,ev,Xm,Xn,Xo,Xp,Xq,Xr,Xs,Xt,Xu,Xv,Xw,Xx,Xy,Xz,W0,W1,W2,W3,W4,W5,W6,W7,W8,W9,Wa,Wb,Wc,Wd,We,Wf,Wg,Wh,Wi,Value.oneCell',Wj,Wk,Wl,Wm,true_and,and_true,and_self,implies_true,Wn,Wo,Wp,Wq,false_implies,Wr,Ws,Wt,Wu,Wv,Ww,Wx,Wy,Wz,V0,V1,V2,V3,V4,V5,V6,V7,reduceCtorEq,if_true,if_false,V8,↓reduceIte,V9,Va,Vb,Vc,Vd,Ve,ne_eq,not_false_eq_true,not_true_eq_false,Vf,Vg,r77_0,r77_1,r77_2,r77_3,r77_4,r77_5,r77_6,r77_7,p77,l77_0]) | (exfalso; omega)
theorem bytes_one (b : List Nat) : (∀ x ∈ b.map oneU, x.length = 1) = True := by
  refine eq_true fun x hx => ?_
  obtain ⟨n, _, rfl⟩ := List.mem_map.1 hx
  rfl
theorem cut_of (b : List Nat) (a k : Nat) : List.drop a (List.take (a + k) (b.map oneU)) = ((b.drop a).take k).map oneU := by
  rw [← List.map_take, ← List.map_drop, List.drop_take, Nat.add_sub_cancel_left]
/-! (*headend/box.source).number -/
def r50_0 : List POp := [⟨4, .asg (.c (.int .u64 0)), none⟩]
def r50_1 : List POp := [⟨5, .mv (.t 0), none⟩,
  ⟨6, .nilck (.t 5), none⟩,
  ⟨7, .fld 2 (.t 6), none⟩,
  ⟨8, .load (.t 7), none⟩,
  ⟨9, .mv (.t 8), none⟩,
  ⟨10, .mv (.t 0), some (9, false)⟩,
  ⟨11, .nilck (.t 10), some (9, false)⟩,
  ⟨12, .fld 0 (.t 11), some (9, false)⟩,
  ⟨13, .load (.t 12), some (9, false)⟩,
  ⟨14, .len (.t 13), some (9, false)⟩,
  ⟨15, .mv (.t 0), some (9, false)⟩,
  ⟨16, .nilck (.t 15), some (9, false)⟩,
  ⟨17, .fld 1 (.t 16), some (9, false)⟩,
  ⟨18, .load (.t 17), some (9, false)⟩,
  ⟨19, .bin .sub (.t 14) (.t 18), some (9, false)⟩,
  ⟨20, .mv (.t 1), some (9, false)⟩,
  ⟨21, .bin .lss (.t 19) (.t 20), some (9, false)⟩,
  ⟨22, .pick (.t 9) (.c (.bool true)) (.t 21), none⟩]
def r50_2 : List POp := [⟨23, .mv (.t 0), none⟩,
  ⟨24, .nilck (.t 23), none⟩,
  ⟨25, .fld 2 (.t 24), none⟩,
  ⟨0, .store (.t 25) (.c (.bool true)), none⟩]
def r50_3 : List POp := [⟨4, .asg (.c (.int .u64 0)), none⟩]
def r50_4 : List POp := [⟨26, .mv (.t 0), none⟩,
  ⟨27, .nilck (.t 26), none⟩,
  ⟨28, .fld 1 (.t 27), none⟩,
  ⟨29, .load (.t 28), none⟩,
  ⟨30, .mv (.t 1), none⟩,
  ⟨31, .bin .add (.t 29) (.t 30), none⟩,
  ⟨32, .nilck (.t 26), none⟩,
  ⟨33, .fld 1 (.t 32), none⟩,
  ⟨0, .store (.t 33) (.t 31), none⟩]
def r50_5 : List POp := [⟨34, .mv (.t 0), none⟩,
  ⟨35, .nilck (.t 34), none⟩,
  ⟨36, .fld 0 (.t 35), none⟩,
  ⟨37, .load (.t 36), none⟩,
  ⟨38, .mv (.t 0), none⟩,
  ⟨39, .nilck (.t 38), none⟩,
  ⟨40, .fld 1 (.t 39), none⟩,
  ⟨41, .load (.t 40), none⟩,
  ⟨42, .mv (.t 1), none⟩,
  ⟨43, .bin .sub (.t 41) (.t 42), none⟩,
  ⟨44, .mv (.t 0), none⟩,
  ⟨45, .nilck (.t 44), none⟩,
  ⟨46, .fld 1 (.t 45), none⟩,
  ⟨47, .load (.t 46), none⟩,
  ⟨48, .slc (some (.t 43)) (some (.t 47)) 1 (.t 37), none⟩,
  ⟨49, .call 77 [.t 48], none⟩,
  ⟨4, .asg (.t 49), none⟩]
def p50 : PCode := .seq (.ops r50_0) (.seq (.seq (.ops r50_1) (.cond (.t 22) (.seq (.ops r50_2) (.seq (.ops r50_3) (.ret))) (.skip))) (.seq (.ops r50_4) (.seq (.ops r50_5) (.ret))))
theorem ok50 : okFunc1 Try.prog 50 [.t 4] 2 p50 = true := by kernel_rfl
set_option maxHeartbeats 1000000 in
theorem bnum_c (b : List Nat) (a many : Nat) (hb : ∀ x ∈ b, x < 256) (hl : b.length ≤ 1000000) (ha : a + many ≤ b.length) (hm : many ≤ 8) :
    TurnOK Try.prog 50 (.box [.ro (b.map oneU), .val (.int .i64 a), .val (.bool false)]) (.box [.ro (b.map oneU), .val (.int .i64 ((a + many : Nat) : Int)), .val (.bool false)]) [.val (.int .i64 many)] (.val (.int .u64 (beV ((b.drop a).take many) 0 : Nat))) := by
  refine turn_of mixed ok50 rfl (.val _) rfl ?_
  have hw : IntKind.i64.wrap ((b.length : Int) - a) = (b.length : Int) - a := wrap_in (by omega) (by omega)
  have hlt : ¬ (b.length : Int) - a < many := by omega
  have hw2 : IntKind.i64.wrap ((a : Int) + many) = ((a + many : Nat) : Int) := by rw [wrap_in (by omega) (by omega)]; omega
  have hw3 : IntKind.i64.wrap (((a + many : Nat) : Int) - many) = (a : Int) := by rw [wrap_in (by omega) (by omega)]; omega
  have hn := numberof_c ((b.drop a).take many) (fun x hx => hb x (List.mem_of_mem_drop (List.mem_of_mem_take hx))) (by rw [List.length_take]; omega)
  have hall := bytes_one b
  have hcut := cut_of b a many
  have p0 : (0 : Int) ≤ (a : Int) := by omega
  have p1 : (0 : Int) ≤ ((a + many : Nat) : Int) := by omega
  have p2 : a ≤ a + many := by omega
  generalize beV ((b.drop a).take many) 0 = v at *
  repeat' first | ((with_reducible (first | refine condD ?_ ?_ | refine condE ?_ ?_ | refine condN ?_ ?_ | refine condI ?_ ?_ | refine condS ?_ ?_)) <;> intro h) | ((with_reducible (first | refine guardD (by with_unfolding_all rfl) ?_ ?_ | refine guardE (by with_unfolding_all rfl) ?_ ?_ | refine guardN (by with_unfolding_all rfl) ?_ ?_ | refine guardI (by with_unfolding_all rfl) ?_ ?_ | refine guardS (by with_unfolding_all rfl) ?_ ?_)) <;> intro h) | ((refine callG hn ?_)) | (with_reducible refine And.intro ?_ ?_; omega) | (simp only [Z0,Z1,Z2,Z3,Z4,Z5,Z6,Z7,Z8,Z9,Za,Zb,Zc,Zd,Ze,Zf,List.cons.injEq,Zg,Zh,Zi,Zj,Zk,Zl,Zm,Zn,Zo,Zp,beq_self_eq_true,bne_self_eq_false,decide_true,decide_false,Zq,Zr,Zs,Zt,Zu,Zv,Zw,Zx,Zy,Zz,Y0,Y1,Y2,Y3,Y4,Y5,Y6,Y7,Y8,Y9,Ya,Yb,Yc,Yd,Ye,Yf,Yg,Yh,Yi,Yj,Yk,Yl,lk,ef,Ym,Yn,Yo,Yp,Yq,Yr,Ys,Yt,Yu,Yv,Yw,Yx,Yy,Yz,X0,X1,X2,X3,X4,X5,X6,X7,X8,X9,Xa,Xb,Xc,Xd,Xe,Xf,Xg,Xh,Xi,Xj,Xk,hv,Xl,ev,Xm,Xn,Xo,Xp,Xq,Xr,Xs,Xt,Xu,Xv,Xw,Xx,Xy,Xz,W0,W1,W2,W3,W4,W5,W6,W7,W8,W9,Wa,Wb,Wc,Wd,We,Wf,Wg,Wh,Wi,Value.oneCell',Wj,Wk,Wl,Wm,true_and,and_true,and_self,implies_true,Wn,Wo,Wp,Wq,false_implies,Wr,Ws,Wt,Wu,Wv,Ww,Wx,Wy,Wz,V0,V1,V2,V3,V4,V5,V6,V7,reduceCtorEq,if_true,if_false,V8,↓reduceIte,V9,Va,Vb,Vc,Vd,Ve,ne_eq,not_false_eq_true,not_true_eq_false,Vf,Vg,r50_0,r50_1,r50_2,r50_3,r50_4,r50_5,p50,Z2,Z3,Zt,hw,hlt,hw2,hw3,hall,hcut,p0,p1,p2,ha]) | (exfalso; omega)
/-! headend/box.appendNumber -/
def r49_0 : List POp := [⟨6, .asg .nil, none⟩]
def r49_1 : List POp := [⟨8, .mv (.t 2), none⟩,
  ⟨9, .bin .sub (.t 8) (.c (.int .i64 1)), none⟩,
  ⟨7, .asg (.t 9), none⟩]
def r49_2 : List POp := [⟨10, .mv (.t 7), none⟩,
  ⟨11, .bin .geq (.t 10) (.c (.int .i64 0)), none⟩]
def r49_4 : List POp := [⟨14, .mv (.t 0), none⟩,
  ⟨15, .mv (.t 1), none⟩,
  ⟨16, .mv (.t 7), none⟩,
  ⟨17, .bin .mul (.c (.int .i64 8)) (.t 16), none⟩,
  ⟨18, .bin .shr (.t 15) (.t 17), none⟩,
  ⟨19, .conv .u8 (.t 18), none⟩,
  ⟨20, .row 5 1 [.t 19], none⟩,
  ⟨21, .app 5 1 1 (.t 14) (.t 20), none⟩,
  ⟨0, .asg (.t 21), none⟩]
def r49_3 : List POp := [⟨12, .mv (.t 7), none⟩,
  ⟨13, .bin .sub (.t 12) (.c (.int .i64 1)), none⟩,
  ⟨7, .asg (.t 13), none⟩]
def r49_5 : List POp := [⟨22, .mv (.t 0), none⟩,
  ⟨6, .asg (.t 22), none⟩]
def l49_0 : PCode := .seq (.seq (.ops r49_2) (.cond (.t 11) (.skip) (.exit 0))) (.seq (.block 1 (.ops r49_4)) (.ops r49_3))
def p49 : PCode := .seq (.ops r49_0) (.seq (.seq (.ops r49_1) (.block 0 (.loop l49_0))) (.seq (.ops r49_5) (.ret)))
theorem ok49 : okFunc Try.prog 49 [.t 6] 3 p49 = true := by kernel_rfl
theorem bappnum_c (B : List Nat) (n many : Nat) (hm : many ≤ 8) (_hn : n < 18446744073709551616) (hB : B.length ≤ 1000000) : TakeOK Try.prog 49 5 1 (B.map oneU) [.val (.int .u64 n), .val (.int .i64 many)] (.own 5 1 ((B ++ beB n many).map oneU)) := by
  refine take_of mixed ok49 rfl (fun e m ys h => by injection h with _ _ h; subst h; exact bytes_flat _) ?_
  obtain ⟨R, hR⟩ : ∃ R, R = B ++ beB n many := ⟨_, rfl⟩
  rw [← hR]
  have w0 : IntKind.i64.wrap ((many : Int) - 1) = (many : Int) - 1 := wrap_in (by omega) (by omega)
  repeat' first | ((with_reducible (first | refine condD ?_ ?_ | refine condE ?_ ?_ | refine condN ?_ ?_ | refine condI ?_ ?_ | refine condS ?_ ?_)) <;> intro h) | ((with_reducible (first | refine guardD (by with_unfolding_all rfl) ?_ ?_ | refine guardE (by with_unfolding_all rfl) ?_ ?_ | refine guardN (by with_unfolding_all rfl) ?_ ?_ | refine guardI (by with_unfolding_all rfl) ?_ ?_ | refine guardS (by with_unfolding_all rfl) ?_ ?_)) <;> intro h) | (with_reducible refine And.intro ?_ ?_; omega) | (simp only [Z0,Z1,Z2,Z3,Z4,Z5,Z6,Z7,Z8,Z9,Za,Zb,Zc,Zd,Ze,Zf,List.cons.injEq,Zg,Zh,Zi,Zj,Zk,Zl,Zm,Zn,Zo,Zp,beq_self_eq_true,bne_self_eq_false,decide_true,decide_false,Zq,Zr,Zs,Zt,Zu,Zv,Zw,Zx,Zy,Zz,Y0,Y1,Y2,Y3,Y4,Y5,Y6,Y7,Y8,Y9,Ya,Yb,Yc,Yd,Ye,Yf,Yg,Yh,Yi,Yj,Yk,Yl,lk,ef,Ym,Yn,Yo,Yp,Yq,Yr,Ys,Yt,Yu,Yv,Yw,Yx,Yy,Yz,X0,X1,X2,X3,X4,X5,X6,X7,X8,X9,Xa,Xb,Xc,Xd,Xe,Xf,Xg,Xh,Xi,Xj,Xk,hv,Xl,ev,Xm,Xn,Xo,Xp,Xq,Xr,Xs,Xt,Xu,Xv,Xw,Xx,Xy,Xz,W0,W1,W2,W3,W4,W5,W6,W7,W8,W9,Wa,Wb,Wc,Wd,We,Wf,Wg,Wh,Wi,Value.oneCell',Wj,Wk,Wl,Wm,true_and,and_true,and_self,implies_true,Wn,Wo,Wp,Wq,false_implies,Wr,Ws,Wt,Wu,Wv,Ww,Wx,Wy,Wz,V0,V1,V2,V3,V4,V5,V6,V7,reduceCtorEq,if_true,if_false,V8,↓reduceIte,V9,Va,Vb,Vc,Vd,Ve,ne_eq,not_false_eq_true,not_true_eq_false,Vf,Vg,r49_0,r49_1,r49_2,r49_4,r49_3,r49_5,p49,w0]) | (exfalso; omega)
  refine loopS (fun p : Nat × List Nat => mk [(0, .own 5 1 (p.2.map oneU)), (1, .val (.int .u64 n)), (7, .val (.int .i64 ((p.1 : Int) - 1)))]) (fun p => p.1 ≤ 8 ∧ p.2.length + p.1 ≤ 1000008 ∧ p.2 ++ beB n p.1 = R) (fun p => p.1) (many, B) (weak_mk ?_) ⟨hm, by simp only; omega, hR.symm⟩ ?_
  · simp only [Vh,Vi,wk1,Vj,Vk,Vl,Z0,Z1,Z2,Z3,Z4,Z5,Z6,Z7,Z8,Z9,Za,Zb,Zc,Zd,Ze,Zf,List.cons.injEq,Zg,Zh,Zi,Zj,Zk,Zl,Zm,Zn,Zo,Zp,beq_self_eq_true,bne_self_eq_false,decide_true,decide_false,Zq,Zr,Zs,Zt,Zu,Zv,Zw,Zx,Zy,Zz,Y0,Y1,Y2,Y3,Y4,Y5,Y6,Y7,Y8,Y9,Ya,Yb,Yc,Yd,Ye,Yf,Yg,Yh,Yi,Yj,Yk,Yl,lk,ef,Ym,Yn,Yo,Yp,Yq,Yr,Ys,Yt,Yu,Yv,Yw,Yx,Yy,Yz,X0,X1,X2,X3,X4,X5,X6,X7,X8,X9,Xa,Xb,Xc,Xd,Xe,Xf,Xg,Xh,Xi,Xj,Xk,hv,Xl,ev,Xm,Xn,Xo,Xp,Xq,Xr,Xs,Xt,Xu,Xv,Xw,Xx,Xy,Xz,W0,W1,W2,W3,W4,W5,W6,W7,W8,W9,Wa,Wb,Wc,Wd,We,Wf,Wg,Wh,Wi,Value.oneCell',Wj,Wk,Wl,Wm,true_and,and_true,and_self,implies_true,Wn,Wo,Wp,Wq,false_implies,Wr,Ws,Wt,Wu,Wv,Ww,Wx,Wy,Wz,V0,V1,V2,V3,V4,V5,V6,V7,reduceCtorEq,if_true,if_false,V8,↓reduceIte,V9,Va,Vb,Vc,Vd,Ve,ne_eq,not_false_eq_true,not_true_eq_false,Vf,Nat.zero_ne_one]
  rintro J hJ ⟨k, acc⟩ ⟨hk, hlen, hg⟩
  simp only at hk hlen hg
  simp only [Z0,Z1,Z2,Z3,Z4,Z5,Z6,Z7,Z8,Z9,Za,Zb,Zc,Zd,Ze,Zf,List.cons.injEq,Zg,Zh,Zi,Zj,Zk,Zl,Zm,Zn,Zo,Zp,beq_self_eq_true,bne_self_eq_false,decide_true,decide_false,Zq,Zr,Zs,Zt,Zu,Zv,Zw,Zx,Zy,Zz,Y0,Y1,Y2,Y3,Y4,Y5,Y6,Y7,Y8,Y9,Ya,Yb,Yc,Yd,Ye,Yf,Yg,Yh,Yi,Yj,Yk,Yl,lk,ef,Ym,Yn,Yo,Yp,Yq,Yr,Ys,Yt,Yu,Yv,Yw,Yx,Yy,Yz,X0,X1,X2,X3,X4,X5,X6,X7,X8,X9,Xa,Xb,Xc,Xd,Xe,Xf,Xg,Xh,Xi,Xj,Xk,hv,Xl,ev,Xm,Xn,Xo,Xp,Xq,Xr,Xs,Xt,Xu,Xv,Xw,Xx,Xy,Xz,W0,W1,W2,W3,W4,W5,W6,W7,W8,W9,Wa,Wb,Wc,Wd,We,Wf,Wg,Wh,Wi,Value.oneCell',Wj,Wk,Wl,Wm,true_and,and_true,and_self,implies_true,Wn,Wo,Wp,Wq,false_implies,Wr,Ws,Wt,Wu,Wv,Ww,Wx,Wy,Wz,V0,V1,V2,V3,V4,V5,V6,V7,reduceCtorEq,if_true,if_false,V8,↓reduceIte,V9,Va,Vb,Vc,Vd,Ve,ne_eq,not_false_eq_true,not_true_eq_false,Vf,Vg,r49_0,r49_1,r49_2,r49_4,r49_3,r49_5,p49,l49_0]
  refine condD (fun h => ?_) (fun h => ?_)
  · obtain ⟨j, rfl⟩ : ∃ j, k = j + 1 := ⟨k - 1, by omega⟩
    have e1 : (((j + 1 : Nat) : Int) - 1) = j := by omega
    have wj : IntKind.i64.wrap ((j : Int) - 1) = (j : Int) - 1 := wrap_in (by omega) (by omega)
    have w8 : IntKind.i64.wrap (8 * (j : Int)) = ((8 * j : Nat) : Int) := by rw [wrap_in (by omega) (by omega)]; omega
    have hp8 : (0 : Int) ≤ ((8 * j : Nat) : Int) := by omega
    rw [beB, List.append_cons] at hg
    have hpow : (2 : Int) ^ (min (8 * j) IntKind.u64.bits) = ((256 ^ j : Nat) : Int) := by
      have : min (8 * j) IntKind.u64.bits = 8 * j := by
        have : IntKind.u64.bits = 64 := rfl
        omega
      have e : (2 ^ (8 * j) : Nat) = 256 ^ j := by rw [Nat.pow_mul]
      rw [this, ← e]
      push_cast
      rfl
    have hsh : (n : Int).fdiv ((256 ^ j : Nat) : Int) = ((n / 256 ^ j : Nat) : Int) := by
      rw [Int.fdiv_eq_ediv_of_nonneg _ (Int.natCast_nonneg _), ← Int.natCast_ediv]
    have hby : IntKind.u8.wrap ((n / 256 ^ j : Nat) : Int) = ((n / 256 ^ j % 256 : Nat) : Int) := by rw [wrap_u8]; generalize n / 256 ^ j = q; omega
    have happ : acc.map oneU ++ [[.val (.int .u8 ((n / 256 ^ j % 256 : Nat) : Int))]] = (acc ++ [n / 256 ^ j % 256]).map oneU := by rw [List.map_append]; rfl
    simp only [e1]
    repeat' first | ((with_reducible (first | refine condD ?_ ?_ | refine condE ?_ ?_ | refine condN ?_ ?_ | refine condI ?_ ?_ | refine condS ?_ ?_)) <;> intro h) | ((with_reducible (first | refine guardD (by with_unfolding_all rfl) ?_ ?_ | refine guardE (by with_unfolding_all rfl) ?_ ?_ | refine guardN (by with_unfolding_all rfl) ?_ ?_ | refine guardI (by with_unfolding_all rfl) ?_ ?_ | refine guardS (by with_unfolding_all rfl) ?_ ?_)) <;> intro h) | (with_reducible refine And.intro ?_ ?_; omega) | (simp only [Z0,Z1,Z2,Z3,Z4,Z5,Z6,Z7,Z8,Z9,Za,Zb,Zc,Zd,Ze,Zf,List.cons.injEq,Zg,Zh,Zi,Zj,Zk,Zl,Zm,Zn,Zo,Zp,beq_self_eq_true,bne_self_eq_false,decide_true,decide_false,Zq,Zr,Zs,Zt,Zu,Zv,Zw,Zx,Zy,Zz,Y0,Y1,Y2,Y3,Y4,Y5,Y6,Y7,Y8,Y9,Ya,Yb,Yc,Yd,Ye,Yf,Yg,Yh,Yi,Yj,Yk,Yl,lk,ef,Ym,Yn,Yo,Yp,Yq,Yr,Ys,Yt,Yu,Yv,Yw,Yx,Yy,Yz,X0,X1,X2,X3,X4,X5,X6,X7,X8,X9,Xa,Xb,Xc,Xd,Xe,Xf,Xg,Xh,Xi,Xj,Xk,hv,Xl,ev,Xm,Xn,Xo,Xp,Xq,Xr,Xs,Xt,Xu,Xv,Xw,Xx,Xy,Xz,W0,W1,W2,W3,W4,W5,W6,W7,W8,W9,Wa,Wb,Wc,Wd,We,Wf,Wg,Wh,Wi,Value.oneCell',Wj,Wk,Wl,Wm,true_and,and_true,and_self,implies_true,Wn,Wo,Wp,Wq,false_implies,Wr,Ws,Wt,Wu,Wv,Ww,Wx,Wy,Wz,V0,V1,V2,V3,V4,V5,V6,V7,reduceCtorEq,if_true,if_false,V8,↓reduceIte,V9,Va,Vb,Vc,Vd,Ve,ne_eq,not_false_eq_true,not_true_eq_false,Vf,Vg,r49_0,r49_1,r49_2,r49_4,r49_3,r49_5,p49,l49_0,w8,hp8,hpow,hsh,hby,happ,wj,List.length_map]) | (exfalso; omega)
    all_goals exact again hJ (j, acc ++ [n / 256 ^ j % 256]) (weak_mk (by simp only [Vh,Vi,wk1,Vj,Vk,Vl,Z0,Z1,Z2,Z3,Z4,Z5,Z6,Z7,Z8,Z9,Za,Zb,Zc,Zd,Ze,Zf,List.cons.injEq,Zg,Zh,Zi,Zj,Zk,Zl,Zm,Zn,Zo,Zp,beq_self_eq_true,bne_self_eq_false,decide_true,decide_false,Zq,Zr,Zs,Zt,Zu,Zv,Zw,Zx,Zy,Zz,Y0,Y1,Y2,Y3,Y4,Y5,Y6,Y7,Y8,Y9,Ya,Yb,Yc,Yd,Ye,Yf,Yg,Yh,Yi,Yj,Yk,Yl,lk,ef,Ym,Yn,Yo,Yp,Yq,Yr,Ys,Yt,Yu,Yv,Yw,Yx,Yy,Yz,X0,X1,X2,X3,X4,X5,X6,X7,X8,X9,Xa,Xb,Xc,Xd,Xe,Xf,Xg,Xh,Xi,Xj,Xk,hv,Xl,ev,Xm,Xn,Xo,Xp,Xq,Xr,Xs,Xt,Xu,Xv,Xw,Xx,Xy,Xz,W0,W1,W2,W3,W4,W5,W6,W7,W8,W9,Wa,Wb,Wc,Wd,We,Wf,Wg,Wh,Wi,Value.oneCell',Wj,Wk,Wl,Wm,true_and,and_true,and_self,implies_true,Wn,Wo,Wp,Wq,false_implies,Wr,Ws,Wt,Wu,Wv,Ww,Wx,Wy,Wz,V0,V1,V2,V3,V4,V5,V6,V7,reduceCtorEq,if_true,if_false,V8,↓reduceIte,V9,Va,Vb,Vc,Vd,Ve,ne_eq,not_false_eq_true,not_true_eq_false,Vf,Nat.zero_ne_one])) ⟨by simp only; omega, by simp only [List.length_append, List.length_cons, List.length_nil]; omega, hg⟩ (by simp only; omega)
  · have hk0 : k = 0 := by omega
    subst hk0
    rw [beB, List.append_nil] at hg
    subst hg
    clear hJ
    repeat' first | ((with_reducible (first | refine condD ?_ ?_ | refine condE ?_ ?_ | refine condN ?_ ?_ | refine condI ?_ ?_ | refine condS ?_ ?_)) <;> intro h) | ((with_reducible (first | refine guardD (by with_unfolding_all rfl) ?_ ?_ | refine guardE (by with_unfolding_all rfl) ?_ ?_ | refine guardN (by with_unfolding_all rfl) ?_ ?_ | refine guardI (by with_unfolding_all rfl) ?_ ?_ | refine guardS (by with_unfolding_all rfl) ?_ ?_)) <;> intro h) | (with_reducible refine And.intro ?_ ?_; omega) | (simp only [Z0,Z1,Z2,Z3,Z4,Z5,Z6,Z7,Z8,Z9,Za,Zb,Zc,Zd,Ze,Zf,List.cons.injEq,Zg,Zh,Zi,Zj,Zk,Zl,Zm,Zn,Zo,Zp,beq_self_eq_true,bne_self_eq_false,decide_true,decide_false,Zq,Zr,Zs,Zt,Zu,Zv,Zw,Zx,Zy,Zz,Y0,Y1,Y2,Y3,Y4,Y5,Y6,Y7,Y8,Y9,Ya,Yb,Yc,Yd,Ye,Yf,Yg,Yh,Yi,Yj,Yk,Yl,lk,ef,Ym,Yn,Yo,Yp,Yq,Yr,Ys,Yt,Yu,Yv,Yw,Yx,Yy,Yz,X0,X1,X2,X3,X4,X5,X6,X7,X8,X9,Xa,Xb,Xc,Xd,Xe,Xf,Xg,Xh,Xi,Xj,Xk,hv,Xl,ev,Xm,Xn,Xo,Xp,Xq,Xr,Xs,Xt,Xu,Xv,Xw,Xx,Xy,Xz,W0,W1,W2,W3,W4,W5,W6,W7,W8,W9,Wa,Wb,Wc,Wd,We,Wf,Wg,Wh,Wi,Value.oneCell',Wj,Wk,Wl,Wm,true_and,and_true,and_self,implies_true,Wn,Wo,Wp,Wq,false_implies,Wr,Ws,Wt,Wu,Wv,Ww,Wx,Wy,Wz,V0,V1,V2,V3,V4,V5,V6,V7,reduceCtorEq,if_true,if_false,V8,↓reduceIte,V9,Va,Vb,Vc,Vd,Ve,ne_eq,not_false_eq_true,not_true_eq_false,Vf,Vg,r49_0,r49_1,r49_2,r49_4,r49_3,r49_5,p49,l49_0]) | (exfalso; omega)
    all_goals exact fin_own (d := 0) rfl rfl
/-! headend/box.marks -/
def r48_0 : List POp := [⟨2, .asg (.c (.int .u8 0)), none⟩]
def r48_1 : List POp := [⟨3, .asg (.c (.int .u8 7)), none⟩]
def r48_2 : List POp := [⟨7, .mv (.t 0), none⟩,
  ⟨8, .len (.t 7), none⟩,
  ⟨9, .bin .gtr (.t 8) (.c (.int .i64 0)), none⟩,
  ⟨4, .asg (.t 9), none⟩]
def r48_3 : List POp := [⟨10, .mv (.t 0), none⟩,
  ⟨11, .len (.t 10), none⟩,
  ⟨12, .mv (.c (.int .i64 0)), none⟩]
def r48_4 : List POp := [⟨13, .bin .lss (.t 12) (.t 11), none⟩]
def r48_5 : List POp := [⟨14, .mv (.t 12), none⟩,
  ⟨15, .idx 5 (.t 10) (.t 12), none⟩,
  ⟨16, .loads 5 (.t 15), none⟩,
  ⟨6, .alloc [.int .i64 0, .int .i64 0, .int .i64 0, .int .i64 0, .bool false], none⟩,
  ⟨5, .asg (.t 14), none⟩,
  ⟨0, .stores 5 (.t 6) (.t 16), none⟩]
def r48_6 : List POp := [⟨17, .fld 1 (.t 6), none⟩,
  ⟨18, .load (.t 17), none⟩,
  ⟨19, .mv (.t 0), none⟩,
  ⟨20, .idx 5 (.t 19) (.c (.int .i64 0)), none⟩,
  ⟨21, .fld 1 (.t 20), none⟩,
  ⟨22, .load (.t 21), none⟩,
  ⟨23, .bin .neq (.t 18) (.t 22), none⟩]
def r48_7 : List POp := [⟨24, .mv (.t 3), none⟩,
  ⟨25, .bin .andNot (.t 24) (.c (.int .u8 1)), none⟩,
  ⟨3, .asg (.t 25), none⟩]
def r48_8 : List POp := [⟨26, .fld 2 (.t 6), none⟩,
  ⟨27, .load (.t 26), none⟩,
  ⟨28, .bin .neq (.t 27) (.c (.int .i64 0)), none⟩]
def r48_9 : List POp := [⟨29, .mv (.t 3), none⟩,
  ⟨30, .bin .andNot (.t 29) (.c (.int .u8 2)), none⟩,
  ⟨3, .asg (.t 30), none⟩]
def r48_10 : List POp := [⟨31, .fld 3 (.t 6), none⟩,
  ⟨32, .load (.t 31), none⟩,
  ⟨33, .mv (.t 0), none⟩,
  ⟨34, .idx 5 (.t 33) (.c (.int .i64 0)), none⟩,
  ⟨35, .fld 3 (.t 34), none⟩,
  ⟨36, .load (.t 35), none⟩,
  ⟨37, .bin .neq (.t 32) (.t 36), none⟩]
def r48_11 : List POp := [⟨38, .mv (.t 3), none⟩,
  ⟨39, .bin .andNot (.t 38) (.c (.int .u8 4)), none⟩,
  ⟨3, .asg (.t 39), none⟩]
def r48_12 : List POp := [⟨40, .mv (.t 4), none⟩,
  ⟨41, .mv (.t 40), none⟩,
  ⟨42, .fld 4 (.t 6), some (41, true)⟩,
  ⟨43, .load (.t 42), some (41, true)⟩,
  ⟨44, .mv (.t 5), some (41, true)⟩,
  ⟨45, .bin .eql (.t 44) (.c (.int .i64 0)), some (41, true)⟩,
  ⟨46, .eqb false (.t 43) (.t 45), some (41, true)⟩,
  ⟨47, .pick (.t 41) (.t 46) (.c (.bool false)), none⟩,
  ⟨4, .asg (.t 47), none⟩]
def r48_13 : List POp := [⟨48, .bin .add (.t 12) (.c (.int .i64 1)), none⟩,
  ⟨12, .mv (.t 48), none⟩]
def r48_14 : List POp := [⟨49, .mv (.t 4), none⟩]
def r48_15 : List POp := [⟨50, .mv (.t 3), none⟩,
  ⟨51, .bin .or (.t 50) (.c (.int .u8 8)), none⟩,
  ⟨3, .asg (.t 51), none⟩]
def r48_16 : List POp := [⟨52, .mv (.t 3), none⟩,
  ⟨2, .asg (.t 52), none⟩]
def l48_0 : PCode := .seq (.ops r48_4) (.seq (.cond (.t 13) (.skip) (.exit 0)) (.seq (.block 1 (.seq (.ops r48_5) (.seq (.seq (.ops r48_6) (.cond (.t 23) (.ops r48_7) (.skip))) (.seq (.seq (.ops r48_8) (.cond (.t 28) (.ops r48_9) (.skip))) (.seq (.seq (.ops r48_10) (.cond (.t 37) (.ops r48_11) (.skip))) (.ops r48_12)))))) (.ops r48_13)))
def p48 : PCode := .seq (.ops r48_0) (.seq (.ops r48_1) (.seq (.ops r48_2) (.seq (.seq (.ops r48_3) (.block 0 (.loop l48_0))) (.seq (.seq (.ops r48_14) (.cond (.t 49) (.ops r48_15) (.skip))) (.seq (.ops r48_16) (.ret))))))
theorem ok48 : okFunc Try.prog 48 [.t 2] 1 p48 = true := by kernel_rfl
def stT (l : List Smp) (k : Nat) : Bool := (l.take k).all fun s => s.step == (hdSmp l).step
def shT (l : List Smp) (k : Nat) : Bool := (l.take k).all fun s => s.shift == 0
def szT (l : List Smp) (k : Nat) : Bool := (l.take k).all fun s => s.size == (hdSmp l).size
def kyT (l : List Smp) (k : Nat) : Bool := (List.range k).all fun i => (l.getD i smpZ).key == decide (i = 0)
theorem all_take {l : List Smp} {k : Nat} (h : k < l.length) (f : Smp → Bool) : (l.take (k + 1)).all f = ((l.take k).all f && f l[k]) := by
  rw [List.take_succ_eq_append_getElem h, List.all_append]; simp
theorem kyT_next {l : List Smp} {k : Nat} (h : k < l.length) : kyT l (k + 1) = (kyT l k && (l[k].key == decide (k = 0))) := by
  unfold kyT
  rw [List.range_succ, List.all_append]
  have : l.getD k smpZ = l[k] := by rw [List.getD_eq_getElem?_getD, List.getElem?_eq_getElem h]; rfl
  simp only [List.all_cons, List.all_nil, Bool.and_true, this]
theorem keysOK_is : ∀ (l : List Smp) (first : Bool), keysOK first l = (List.range l.length).all fun i => (l.getD i smpZ).key == (first && decide (i = 0))
  | [], _ => rfl
  | s :: r, first => by
    have e : (fun i => ((s :: r).getD i smpZ).key == (first && decide (i = 0))) ∘ Nat.succ = fun i => (r.getD i smpZ).key == (false && decide (i = 0)) := by
      funext i
      simp
    rw [keysOK, keysOK_is r false, List.length_cons, List.range_succ_eq_map, List.all_cons, List.all_map, e]
    simp
theorem mkFs_is (l : List Smp) : mkFs l = (decide (0 < l.length) && kyT l l.length) := by
  unfold mkFs kyT
  rw [keysOK_is]
  simp
set_option maxHeartbeats 2000000 in
theorem marks_c (l : List Smp) (hl : l.length ≤ 5000) : CallOK Try.prog 48 [.ro (l.map Smp.av)] (.val (.int .u8 (marksN l : Nat))) := by
  refine call_of mixed ok48 rfl ?_
  have hR : marksN l = mark4 (stT l l.length) (shT l l.length) (szT l l.length) (decide (0 < l.length) && kyT l l.length) := by
    unfold marksN
    rw [mkFs_is]
    unfold stT shT szT mkSt mkSh mkSz
    rw [List.take_length]
  rw [hR]
  clear hR
  have h7 : (7 : Int) = ((mark4 (stT l 0) (shT l 0) (szT l 0) false : Nat) : Int) := rfl
  have hpos : decide ((0 : Int) < (l.length : Int)) = (decide (0 < l.length) && kyT l 0) := by
    have : kyT l 0 = true := rfl
    rw [this, Bool.and_true]
    exact decide_eq_decide.2 (by omega)
  repeat' first | ((with_reducible (first | refine condD ?_ ?_ | refine condE ?_ ?_ | refine condN ?_ ?_ | refine condI ?_ ?_ | refine condS ?_ ?_)) <;> intro h) | ((with_reducible (first | refine guardD (by with_unfolding_all rfl) ?_ ?_ | refine guardE (by with_unfolding_all rfl) ?_ ?_ | refine guardN (by with_unfolding_all rfl) ?_ ?_ | refine guardI (by with_unfolding_all rfl) ?_ ?_ | refine guardS (by with_unfolding_all rfl) ?_ ?_)) <;> intro h) | (with_reducible refine And.intro ?_ ?_; omega) | (simp only [Z0,Z1,Z2,Z3,Z4,Z5,Z6,Z7,Z8,Z9,Za,Zb,Zc,Zd,Ze,Zf,List.cons.injEq,Zg,Zh,Zi,Zj,Zk,Zl,Zm,Zn,Zo,Zp,beq_self_eq_true,bne_self_eq_false,decide_true,decide_false,Zq,Zr,Zs,Zt,Zu,Zv,Zw,Zx,Zy,Zz,Y0,Y1,Y2,Y3,Y4,Y5,Y6,Y7,Y8,Y9,Ya,Yb,Yc,Yd,Ye,Yf,Yg,Yh,Yi,Yj,Yk,Yl,lk,ef,Ym,Yn,Yo,Yp,Yq,Yr,Ys,Yt,Yu,Yv,Yw,Yx,Yy,Yz,X0,X1,X2,X3,X4,X5,X6,X7,X8,X9,Xa,Xb,Xc,Xd,Xe,Xf,Xg,Xh,Xi,Xj,Xk,hv,Xl,ev,Xm,Xn,Xo,Xp,Xq,Xr,Xs,Xt,Xu,Xv,Xw,Xx,Xy,Xz,W0,W1,W2,W3,W4,W5,W6,W7,W8,W9,Wa,Wb,Wc,Wd,We,Wf,Wg,Wh,Wi,Value.oneCell',Wj,Wk,Wl,Wm,true_and,and_true,and_self,implies_true,Wn,Wo,Wp,Wq,false_implies,Wr,Ws,Wt,Wu,Wv,Ww,Wx,Wy,Wz,V0,V1,V2,V3,V4,V5,V6,V7,reduceCtorEq,if_true,if_false,V8,↓reduceIte,V9,Va,Vb,Vc,Vd,Ve,ne_eq,not_false_eq_true,not_true_eq_false,Vf,Vg,r48_0,r48_1,r48_2,r48_3,r48_4,r48_5,r48_6,r48_7,r48_8,r48_9,r48_10,r48_11,r48_12,r48_13,r48_14,r48_15,r48_16,p48,List.length_map]) | (exfalso; omega)
  refine loopS (fun k : Nat => mk [(0, .ro (l.map Smp.av)), (3, .val (.int .u8 (mark4 (stT l k) (shT l k) (szT l k) false : Nat))), (4, .val (.bool (decide (0 < l.length) && kyT l k))), (10, .ro (l.map Smp.av)), (11, .val (.int .i64 l.length)), (12, .val (.int .i64 k))]) (fun k => k ≤ l.length) (fun k => l.length - k) 0 (weak_mk ?_) (Nat.zero_le _) ?_
  · simp only [Vh,Vi,wk1,Vj,Vk,Vl,Z0,Z1,Z2,Z3,Z4,Z5,Z6,Z7,Z8,Z9,Za,Zb,Zc,Zd,Ze,Zf,List.cons.injEq,Zg,Zh,Zi,Zj,Zk,Zl,Zm,Zn,Zo,Zp,beq_self_eq_true,bne_self_eq_false,decide_true,decide_false,Zq,Zr,Zs,Zt,Zu,Zv,Zw,Zx,Zy,Zz,Y0,Y1,Y2,Y3,Y4,Y5,Y6,Y7,Y8,Y9,Ya,Yb,Yc,Yd,Ye,Yf,Yg,Yh,Yi,Yj,Yk,Yl,lk,ef,Ym,Yn,Yo,Yp,Yq,Yr,Ys,Yt,Yu,Yv,Yw,Yx,Yy,Yz,X0,X1,X2,X3,X4,X5,X6,X7,X8,X9,Xa,Xb,Xc,Xd,Xe,Xf,Xg,Xh,Xi,Xj,Xk,hv,Xl,ev,Xm,Xn,Xo,Xp,Xq,Xr,Xs,Xt,Xu,Xv,Xw,Xx,Xy,Xz,W0,W1,W2,W3,W4,W5,W6,W7,W8,W9,Wa,Wb,Wc,Wd,We,Wf,Wg,Wh,Wi,Value.oneCell',Wj,Wk,Wl,Wm,true_and,and_true,and_self,implies_true,Wn,Wo,Wp,Wq,false_implies,Wr,Ws,Wt,Wu,Wv,Ww,Wx,Wy,Wz,V0,V1,V2,V3,V4,V5,V6,V7,reduceCtorEq,if_true,if_false,V8,↓reduceIte,V9,Va,Vb,Vc,Vd,Ve,ne_eq,not_false_eq_true,not_true_eq_false,Vf,Nat.zero_ne_one]
    all_goals exact ⟨h7, hpos, rfl⟩
  rintro J hJ k hk
  simp only [Z0,Z1,Z2,Z3,Z4,Z5,Z6,Z7,Z8,Z9,Za,Zb,Zc,Zd,Ze,Zf,List.cons.injEq,Zg,Zh,Zi,Zj,Zk,Zl,Zm,Zn,Zo,Zp,beq_self_eq_true,bne_self_eq_false,decide_true,decide_false,Zq,Zr,Zs,Zt,Zu,Zv,Zw,Zx,Zy,Zz,Y0,Y1,Y2,Y3,Y4,Y5,Y6,Y7,Y8,Y9,Ya,Yb,Yc,Yd,Ye,Yf,Yg,Yh,Yi,Yj,Yk,Yl,lk,ef,Ym,Yn,Yo,Yp,Yq,Yr,Ys,Yt,Yu,Yv,Yw,Yx,Yy,Yz,X0,X1,X2,X3,X4,X5,X6,X7,X8,X9,Xa,Xb,Xc,Xd,Xe,Xf,Xg,Xh,Xi,Xj,Xk,hv,Xl,ev,Xm,Xn,Xo,Xp,Xq,Xr,Xs,Xt,Xu,Xv,Xw,Xx,Xy,Xz,W0,W1,W2,W3,W4,W5,W6,W7,W8,W9,Wa,Wb,Wc,Wd,We,Wf,Wg,Wh,Wi,Value.oneCell',Wj,Wk,Wl,Wm,true_and,and_true,and_self,implies_true,Wn,Wo,Wp,Wq,false_implies,Wr,Ws,Wt,Wu,Wv,Ww,Wx,Wy,Wz,V0,V1,V2,V3,V4,V5,V6,V7,reduceCtorEq,if_true,if_false,V8,↓reduceIte,V9,Va,Vb,Vc,Vd,Ve,ne_eq,not_false_eq_true,not_true_eq_false,Vf,Vg,r48_0,r48_1,r48_2,r48_3,r48_4,r48_5,r48_6,r48_7,r48_8,r48_9,r48_10,r48_11,r48_12,r48_13,r48_14,r48_15,r48_16,p48,l48_0]
  refine condD (fun h => ?_) (fun h => ?_)
  · have hlt : k < l.length := by omega
    have hlt0 : 0 < l.length := by omega
    have hw := i_add1 k (by omega)
    have gK := getD_map (f := Smp.av) (d := []) hlt
    have g0 := getD_map (f := Smp.av) (d := []) hlt0
    simp only [Smp.av] at gK g0
    have hki : (k : Int) < l.length := by omega
    have hpi : (0 : Int) < l.length := by omega
    have hh : hdSmp l = l[0] := by
      cases l with
      | nil => simp at hlt0
      | cons s r => rfl
    have e1 : stT l (k + 1) = (stT l k && (l[k].step == l[0].step)) := by unfold stT; rw [all_take hlt, hh]
    have e2 : shT l (k + 1) = (shT l k && (l[k].shift == 0)) := by unfold shT; rw [all_take hlt]
    have e3 : szT l (k + 1) = (szT l k && (l[k].size == l[0].size)) := by unfold szT; rw [all_take hlt, hh]
    have e4 := kyT_next hlt
    have hk0 : ((k : Int) == 0) = decide (k = 0) := by
      by_cases q : k = 0
      · subst q; rfl
      · rw [decide_eq_false q, beq_eq_false_iff_ne]; omega
    rw [decide_eq_true hlt0, Bool.true_and]
    generalize stT l k = A at *
    generalize shT l k = B at *
    generalize szT l k = C at *
    generalize kyT l k = D at *
    have ep : (decide (0 < l.length) && kyT l (k + 1)) = (D && (l[k].key == decide (k = 0))) := by rw [decide_eq_true hlt0, Bool.true_and, e4]
    cases q1 : (l[k].step == l[0].step) <;> cases q2 : (l[k].shift == 0) <;> cases q3 : (l[k].size == l[0].size) <;> cases D
    all_goals
      have n1 : (l[k].step != l[0].step) = !(l[k].step == l[0].step) := rfl
      have n2 : (l[k].shift != 0) = !(l[k].shift == 0) := rfl
      have n3 : (l[k].size != l[0].size) = !(l[k].size == l[0].size) := rfl
      rw [q1] at n1 e1
      rw [q2] at n2 e2
      rw [q3] at n3 e3
      simp only [Bool.and_true, Bool.and_false, Bool.not_true, Bool.not_false, Bool.true_and, Bool.false_and] at n1 n2 n3 e1 e2 e3 ep
      repeat' first | ((with_reducible (first | refine condD ?_ ?_ | refine condE ?_ ?_ | refine condN ?_ ?_ | refine condI ?_ ?_ | refine condS ?_ ?_)) <;> intro h) | ((with_reducible (first | refine guardD (by with_unfolding_all rfl) ?_ ?_ | refine guardE (by with_unfolding_all rfl) ?_ ?_ | refine guardN (by with_unfolding_all rfl) ?_ ?_ | refine guardI (by with_unfolding_all rfl) ?_ ?_ | refine guardS (by with_unfolding_all rfl) ?_ ?_)) <;> intro h) | (with_reducible refine And.intro ?_ ?_; omega) | (simp only [Z0,Z1,Z2,Z3,Z4,Z5,Z6,Z7,Z8,Z9,Za,Zb,Zc,Zd,Ze,Zf,List.cons.injEq,Zg,Zh,Zi,Zj,Zk,Zl,Zm,Zn,Zo,Zp,beq_self_eq_true,bne_self_eq_false,decide_true,decide_false,Zq,Zr,Zs,Zt,Zu,Zv,Zw,Zx,Zy,Zz,Y0,Y1,Y2,Y3,Y4,Y5,Y6,Y7,Y8,Y9,Ya,Yb,Yc,Yd,Ye,Yf,Yg,Yh,Yi,Yj,Yk,Yl,lk,ef,Ym,Yn,Yo,Yp,Yq,Yr,Ys,Yt,Yu,Yv,Yw,Yx,Yy,Yz,X0,X1,X2,X3,X4,X5,X6,X7,X8,X9,Xa,Xb,Xc,Xd,Xe,Xf,Xg,Xh,Xi,Xj,Xk,hv,Xl,ev,Xm,Xn,Xo,Xp,Xq,Xr,Xs,Xt,Xu,Xv,Xw,Xx,Xy,Xz,W0,W1,W2,W3,W4,W5,W6,W7,W8,W9,Wa,Wb,Wc,Wd,We,Wf,Wg,Wh,Wi,Value.oneCell',Wj,Wk,Wl,Wm,true_and,and_true,and_self,implies_true,Wn,Wo,Wp,Wq,false_implies,Wr,Ws,Wt,Wu,Wv,Ww,Wx,Wy,Wz,V0,V1,V2,V3,V4,V5,V6,V7,reduceCtorEq,if_true,if_false,V8,↓reduceIte,V9,Va,Vb,Vc,Vd,Ve,ne_eq,not_false_eq_true,not_true_eq_false,Vf,Vg,r48_0,r48_1,r48_2,r48_3,r48_4,r48_5,r48_6,r48_7,r48_8,r48_9,r48_10,r48_11,r48_12,r48_13,r48_14,r48_15,r48_16,p48,l48_0,gK,g0,n1,n2,n3,an1,an2,an4,hk0,hw,hki,hpi,hlt0,List.length_map]) | (exfalso; omega)
      all_goals first | omega | exact again hJ (k + 1) (weak_mk (by simp only [Vh,Vi,wk1,Vj,Vk,Vl,Z0,Z1,Z2,Z3,Z4,Z5,Z6,Z7,Z8,Z9,Za,Zb,Zc,Zd,Ze,Zf,List.cons.injEq,Zg,Zh,Zi,Zj,Zk,Zl,Zm,Zn,Zo,Zp,beq_self_eq_true,bne_self_eq_false,decide_true,decide_false,Zq,Zr,Zs,Zt,Zu,Zv,Zw,Zx,Zy,Zz,Y0,Y1,Y2,Y3,Y4,Y5,Y6,Y7,Y8,Y9,Ya,Yb,Yc,Yd,Ye,Yf,Yg,Yh,Yi,Yj,Yk,Yl,lk,ef,Ym,Yn,Yo,Yp,Yq,Yr,Ys,Yt,Yu,Yv,Yw,Yx,Yy,Yz,X0,X1,X2,X3,X4,X5,X6,X7,X8,X9,Xa,Xb,Xc,Xd,Xe,Xf,Xg,Xh,Xi,Xj,Xk,hv,Xl,ev,Xm,Xn,Xo,Xp,Xq,Xr,Xs,Xt,Xu,Xv,Xw,Xx,Xy,Xz,W0,W1,W2,W3,W4,W5,W6,W7,W8,W9,Wa,Wb,Wc,Wd,We,Wf,Wg,Wh,Wi,Value.oneCell',Wj,Wk,Wl,Wm,true_and,and_true,and_self,implies_true,Wn,Wo,Wp,Wq,false_implies,Wr,Ws,Wt,Wu,Wv,Ww,Wx,Wy,Wz,V0,V1,V2,V3,V4,V5,V6,V7,reduceCtorEq,if_true,if_false,V8,↓reduceIte,V9,Va,Vb,Vc,Vd,Ve,ne_eq,not_false_eq_true,not_true_eq_false,Vf,Nat.zero_ne_one]; rw [e1, e2, e3, ep]; first | done | exact ⟨rfl, rfl⟩ | simp)) (by omega) (by omega)
  · have hke : k = l.length := by omega
    subst hke
    clear hJ
    cases hD : (decide (0 < l.length) && kyT l l.length) with
    | true => repeat' first | ((with_reducible (first | refine condD ?_ ?_ | refine condE ?_ ?_ | refine condN ?_ ?_ | refine condI ?_ ?_ | refine condS ?_ ?_)) <;> intro h) | ((with_reducible (first | refine guardD (by with_unfolding_all rfl) ?_ ?_ | refine guardE (by with_unfolding_all rfl) ?_ ?_ | refine guardN (by with_unfolding_all rfl) ?_ ?_ | refine guardI (by with_unfolding_all rfl) ?_ ?_ | refine guardS (by with_unfolding_all rfl) ?_ ?_)) <;> intro h) | (with_reducible refine And.intro ?_ ?_; omega) | (simp only [Z0,Z1,Z2,Z3,Z4,Z5,Z6,Z7,Z8,Z9,Za,Zb,Zc,Zd,Ze,Zf,List.cons.injEq,Zg,Zh,Zi,Zj,Zk,Zl,Zm,Zn,Zo,Zp,beq_self_eq_true,bne_self_eq_false,decide_true,decide_false,Zq,Zr,Zs,Zt,Zu,Zv,Zw,Zx,Zy,Zz,Y0,Y1,Y2,Y3,Y4,Y5,Y6,Y7,Y8,Y9,Ya,Yb,Yc,Yd,Ye,Yf,Yg,Yh,Yi,Yj,Yk,Yl,lk,ef,Ym,Yn,Yo,Yp,Yq,Yr,Ys,Yt,Yu,Yv,Yw,Yx,Yy,Yz,X0,X1,X2,X3,X4,X5,X6,X7,X8,X9,Xa,Xb,Xc,Xd,Xe,Xf,Xg,Xh,Xi,Xj,Xk,hv,Xl,ev,Xm,Xn,Xo,Xp,Xq,Xr,Xs,Xt,Xu,Xv,Xw,Xx,Xy,Xz,W0,W1,W2,W3,W4,W5,W6,W7,W8,W9,Wa,Wb,Wc,Wd,We,Wf,Wg,Wh,Wi,Value.oneCell',Wj,Wk,Wl,Wm,true_and,and_true,and_self,implies_true,Wn,Wo,Wp,Wq,false_implies,Wr,Ws,Wt,Wu,Wv,Ww,Wx,Wy,Wz,V0,V1,V2,V3,V4,V5,V6,V7,reduceCtorEq,if_true,if_false,V8,↓reduceIte,V9,Va,Vb,Vc,Vd,Ve,ne_eq,not_false_eq_true,not_true_eq_false,Vf,Vg,r48_0,r48_1,r48_2,r48_3,r48_4,r48_5,r48_6,r48_7,r48_8,r48_9,r48_10,r48_11,r48_12,r48_13,r48_14,r48_15,r48_16,p48,l48_0,or8]) | (exfalso; omega)
    | false => repeat' first | ((with_reducible (first | refine condD ?_ ?_ | refine condE ?_ ?_ | refine condN ?_ ?_ | refine condI ?_ ?_ | refine condS ?_ ?_)) <;> intro h) | ((with_reducible (first | refine guardD (by with_unfolding_all rfl) ?_ ?_ | refine guardE (by with_unfolding_all rfl) ?_ ?_ | refine guardN (by with_unfolding_all rfl) ?_ ?_ | refine guardI (by with_unfolding_all rfl) ?_ ?_ | refine guardS (by with_unfolding_all rfl) ?_ ?_)) <;> intro h) | (with_reducible refine And.intro ?_ ?_; omega) | (simp only [Z0,Z1,Z2,Z3,Z4,Z5,Z6,Z7,Z8,Z9,Za,Zb,Zc,Zd,Ze,Zf,List.cons.injEq,Zg,Zh,Zi,Zj,Zk,Zl,Zm,Zn,Zo,Zp,beq_self_eq_true,bne_self_eq_false,decide_true,decide_false,Zq,Zr,Zs,Zt,Zu,Zv,Zw,Zx,Zy,Zz,Y0,Y1,Y2,Y3,Y4,Y5,Y6,Y7,Y8,Y9,Ya,Yb,Yc,Yd,Ye,Yf,Yg,Yh,Yi,Yj,Yk,Yl,lk,ef,Ym,Yn,Yo,Yp,Yq,Yr,Ys,Yt,Yu,Yv,Yw,Yx,Yy,Yz,X0,X1,X2,X3,X4,X5,X6,X7,X8,X9,Xa,Xb,Xc,Xd,Xe,Xf,Xg,Xh,Xi,Xj,Xk,hv,Xl,ev,Xm,Xn,Xo,Xp,Xq,Xr,Xs,Xt,Xu,Xv,Xw,Xx,Xy,Xz,W0,W1,W2,W3,W4,W5,W6,W7,W8,W9,Wa,Wb,Wc,Wd,We,Wf,Wg,Wh,Wi,Value.oneCell',Wj,Wk,Wl,Wm,true_and,and_true,and_self,implies_true,Wn,Wo,Wp,Wq,false_implies,Wr,Ws,Wt,Wu,Wv,Ww,Wx,Wy,Wz,V0,V1,V2,V3,V4,V5,V6,V7,reduceCtorEq,if_true,if_false,V8,↓reduceIte,V9,Va,Vb,Vc,Vd,Ve,ne_eq,not_false_eq_true,not_true_eq_false,Vf,Vg,r48_0,r48_1,r48_2,r48_3,r48_4,r48_5,r48_6,r48_7,r48_8,r48_9,r48_10,r48_11,r48_12,r48_13,r48_14,r48_15,r48_16,p48,l48_0]) | (exfalso; omega)
end Go.Proofs.Ytpecmhdepggnoaa
/- Fragments: the source's flag and end, by the machine on data (under way: ReadFragment of what FragmentBytes wrote). -/
namespace Go.Proofs.Ytpecmhdepggnoaa
open Go.RowKit
open Go.Proofs.Ytpecmhdepggnoaa renaming donet_eq → Z0, donet_eq' → Z1
open Go.Proofs.Ytpecmhdepggnoaa.AV.tup renaming injEq → Z2
open Go.Proofs.Ytpecmhdepggnoaa.AV.agg renaming injEq → Z3
open Go.Proofs.Ytpecmhdepggnoaa.AV.ro renaming injEq → Z4
open _root_.Int renaming toNat_natCast → Z5, reduceToNat → Z6, toNat_zero → Z7, toNat_one → Z8, reduceLE → Z9, reduceLT → Za, reduceBEq → Zb, reduceBNe → Zc, reduceNeg → Zd
open _root_.List renaming length_map → Ze, map_cons → Zj, map_nil → Zk, forall_mem_cons → Zl, not_mem_nil → Zm, length_cons → Zn, length_nil → Zo, getD_cons_zero → Zp, getD_cons_succ → Zq, getD_nil → Zr, drop_succ_cons → Zs, drop_zero → Zt, take_succ_cons → Zu, take_zero → Zv, set_cons_zero → Zw, set_cons_succ → Zx, all_cons → Zy, all_nil → Zz
open Go.Proofs.Ytpecmhdepggnoaa.ASt renaming free → Zf
open Go.Proofs.Ytpecmhdepggnoaa.AV renaming isHome → Zg, noLoan → Zh, cellOK → Zi
open _root_.Bool renaming and_true → Y0, true_and → Y1, not_true → Y2, not_false → Y3, false_eq_true → Y4
open _root_.Nat renaming reduceEqDiff → Y5, reduceAdd → Y6, reduceSub → Y7, reduceMul → Y8, reduceLeDiff → Y9, reduceLT → Ya, one_ne_zero → Yb, zero_ne_one → Yc
set_option linter.unusedSimpArgs false
--@short

/-! (*headend/box.source).flag -/
def r51_0 : List POp := [⟨4, .asg (.c (.int .u8 0)), none⟩]
def r51_1 : List POp := [⟨7, .mv (.t 0), none⟩,
  ⟨8, .nilck (.t 7), none⟩,
  ⟨9, .fld 1 (.t 8), none⟩,
  ⟨10, .load (.t 9), none⟩,
  ⟨5, .asg (.t 10), none⟩]
def r51_2 : List POp := [⟨11, .mv (.t 0), none⟩,
  ⟨12, .callm 50 [.t 11, .c (.int .i64 1)], none⟩,
  ⟨13, .conv .u8 (.t 12), none⟩,
  ⟨6, .asg (.t 13), none⟩]
def r51_3 : List POp := [⟨14, .mv (.t 0), none⟩,
  ⟨15, .nilck (.t 14), none⟩,
  ⟨16, .fld 2 (.t 15), none⟩,
  ⟨17, .load (.t 16), none⟩,
  ⟨18, .un .not (.t 17), none⟩,
  ⟨19, .mv (.t 18), none⟩,
  ⟨20, .mv (.t 6), some (19, true)⟩,
  ⟨21, .mv (.t 1), some (19, true)⟩,
  ⟨22, .bin .gtr (.t 20) (.t 21), some (19, true)⟩,
  ⟨23, .pick (.t 19) (.t 22) (.c (.bool false)), none⟩]
def r51_4 : List POp := [⟨24, .mv (.t 0), none⟩,
  ⟨25, .mv (.t 0), none⟩,
  ⟨26, .mv (.t 5), none⟩,
  ⟨27, .nilck (.t 24), none⟩,
  ⟨28, .fld 1 (.t 27), none⟩,
  ⟨0, .store (.t 28) (.t 26), none⟩,
  ⟨29, .nilck (.t 25), none⟩,
  ⟨30, .fld 2 (.t 29), none⟩,
  ⟨0, .store (.t 30) (.c (.bool true)), none⟩]
def r51_5 : List POp := [⟨31, .mv (.t 6), none⟩,
  ⟨4, .asg (.t 31), none⟩]
def p51 : PCode := .seq (.ops r51_0) (.seq (.ops r51_1) (.seq (.ops r51_2) (.seq (.seq (.ops r51_3) (.cond (.t 23) (.ops r51_4) (.skip))) (.seq (.ops r51_5) (.ret)))))
theorem ok51 : okFunc1 Try.prog 51 [.t 4] 2 p51 = true := by kernel_rfl
theorem bflag_c (b : List Nat) (a most : Nat) (hb : ∀ x ∈ b, x < 256) (hl : b.length ≤ 1000000) (ha : a < b.length) (hm : b[a] ≤ most) :
    TurnOK Try.prog 51 (.box [.ro (b.map oneU), .val (.int .i64 a), .val (.bool false)]) (.box [.ro (b.map oneU), .val (.int .i64 ((a + 1 : Nat) : Int)), .val (.bool false)]) [.val (.int .u8 most)] (.val (.int .u8 (b[a] : Nat))) := by
  refine turn_of mixed ok51 rfl (.val _) rfl ?_
  have hn := bnum_c b a 1 hb hl (by omega) (by decide)
  have hv1 : beV ((b.drop a).take 1) 0 = b[a] := by
    rw [List.drop_eq_getElem_cons ha, List.take_succ_cons, List.take_zero, beV, beV]
    omega
  rw [hv1] at hn
  have hx := hb _ (List.getElem_mem ha)
  generalize b[a] = v at *
  have hcv : IntKind.u8.wrap ((v : Nat) : Int) = ((v : Nat) : Int) := by rw [wrap_u8]; omega
  have hng : ¬ ((most : Nat) : Int) < ((v : Nat) : Int) := by omega
  repeat' first | ((with_reducible (first | refine condD ?_ ?_ | refine condE ?_ ?_ | refine condN ?_ ?_ | refine condI ?_ ?_ | refine condS ?_ ?_)) <;> intro h) | ((with_reducible (first | refine guardD (by with_unfolding_all rfl) ?_ ?_ | refine guardE (by with_unfolding_all rfl) ?_ ?_ | refine guardN (by with_unfolding_all rfl) ?_ ?_ | refine guardI (by with_unfolding_all rfl) ?_ ?_ | refine guardS (by with_unfolding_all rfl) ?_ ?_)) <;> intro h) | ((refine turnGb (by with_unfolding_all rfl) hn ?_)) | (with_reducible refine And.intro ?_ ?_; omega) | (simp only [done_eq,done_eq',Z0,Z1,fin_val,fin_tup,fin_agg,fin_ro,res_one,res_more,rv_t,rv_c,rv_l,Z2,Z3,Z4,List.cons.injEq,int_eq,bool_eq,Z5,Z6,Z7,Z8,Z9,Za,Zb,Zc,beq_self_eq_true,bne_self_eq_false,decide_true,decide_false,Zd,toNat_pred,toNat_succ,Ze,cnd_t,cnd_f,grd_tt,grd_u,grd_tf,grd_ft,grd_ff,g_skip,g_ops,g_seq,g_block,g_exit,g_ret,x_c,x_o,x_l,x_b,g_b,g_nil,r_all,o_nil,g_cond,o_guard,o_call,o_callm,o_callt,o_callx,o_callv,lk,ef,o_mv,o_pick,o_bin,o_never,o_eqs,o_eqb,o_un,o_conv,o_load,o_loadr,o_idxr,o_loads,o_fld,o_idx,o_idxs,o_len,o_lens,o_ext,o_nilck,o_slc,o_slcs,o_build,o_minmax,o_mkfn,o_alloc,o_box,o_boxs,o_row,o_rowr,o_mk,o_asg,o_app,o_store,o_stores,o_eqnil,hv,eqAV,ev,view_t,view_c,view_nil,view_fn,look_own,look_box,look_junk,look_val,look_nilsl,look_ro,look_roAt,look_agg,look_tup,look_clo,look_alias,look_ref,look_into,rowOf,cellsOf,argv,vbin,vun,bnd,elemOf,putParts,setAt,zav,ASt.rid,Zf,AV.kill,Zg,Zh,Zi,Value.oneCell',put_at,mk_at,mk_nil,initSt,true_and,and_true,and_self,implies_true,Zj,Zk,Zl,Zm,false_implies,Zn,Zo,Zp,Zq,Zr,Zs,Zt,Zu,Zv,Zw,Zx,Zy,Zz,Y0,Y1,Y2,Y3,reduceCtorEq,if_true,if_false,Y4,↓reduceIte,Y5,Y6,Y7,Y8,Y9,Ya,ne_eq,not_false_eq_true,not_true_eq_false,Yb,Yc,r51_0,r51_1,r51_2,r51_3,r51_4,r51_5,p51,Z0,Z1,hcv,hng,List.length_map]) | (exfalso; omega)
/-! (*headend/box.source).end -/
def r52_0 : List POp := [⟨2, .asg (.c (.bool false)), none⟩]
def r52_1 : List POp := [⟨3, .mv (.t 0), none⟩,
  ⟨4, .nilck (.t 3), none⟩,
  ⟨5, .fld 2 (.t 4), none⟩,
  ⟨6, .load (.t 5), none⟩,
  ⟨7, .un .not (.t 6), none⟩,
  ⟨8, .mv (.t 7), none⟩,
  ⟨9, .mv (.t 0), some (8, true)⟩,
  ⟨10, .nilck (.t 9), some (8, true)⟩,
  ⟨11, .fld 1 (.t 10), some (8, true)⟩,
  ⟨12, .load (.t 11), some (8, true)⟩,
  ⟨13, .mv (.t 0), some (8, true)⟩,
  ⟨14, .nilck (.t 13), some (8, true)⟩,
  ⟨15, .fld 0 (.t 14), some (8, true)⟩,
  ⟨16, .load (.t 15), some (8, true)⟩,
  ⟨17, .len (.t 16), some (8, true)⟩,
  ⟨18, .bin .lss (.t 12) (.t 17), some (8, true)⟩,
  ⟨19, .pick (.t 8) (.t 18) (.c (.bool false)), none⟩]
def r52_2 : List POp := [⟨20, .mv (.t 0), none⟩,
  ⟨21, .nilck (.t 20), none⟩,
  ⟨22, .fld 2 (.t 21), none⟩,
  ⟨0, .store (.t 22) (.c (.bool true)), none⟩]
def r52_3 : List POp := [⟨23, .mv (.t 0), none⟩,
  ⟨24, .nilck (.t 23), none⟩,
  ⟨25, .fld 2 (.t 24), none⟩,
  ⟨26, .load (.t 25), none⟩,
  ⟨27, .un .not (.t 26), none⟩,
  ⟨2, .asg (.t 27), none⟩]
def p52 : PCode := .seq (.ops r52_0) (.seq (.seq (.ops r52_1) (.cond (.t 19) (.ops r52_2) (.skip))) (.seq (.ops r52_3) (.ret)))
theorem ok52 : okFunc1 Try.prog 52 [.t 2] 1 p52 = true := by kernel_rfl
theorem bend_c (b : List Nat) : TurnOK Try.prog 52 (.box [.ro (b.map oneU), .val (.int .i64 b.length), .val (.bool false)]) (.box [.ro (b.map oneU), .val (.int .i64 b.length), .val (.bool false)]) [] (.val (.bool true)) := by
  refine turn_of mixed ok52 rfl (.val _) rfl ?_
  have hlt : ¬ (b.length : Int) < (b.length : Int) := Int.lt_irrefl _
  repeat' first | ((with_reducible (first | refine condD ?_ ?_ | refine condE ?_ ?_ | refine condN ?_ ?_ | refine condI ?_ ?_ | refine condS ?_ ?_)) <;> intro h) | ((with_reducible (first | refine guardD (by with_unfolding_all rfl) ?_ ?_ | refine guardE (by with_unfolding_all rfl) ?_ ?_ | refine guardN (by with_unfolding_all rfl) ?_ ?_ | refine guardI (by with_unfolding_all rfl) ?_ ?_ | refine guardS (by with_unfolding_all rfl) ?_ ?_)) <;> intro h) | (with_reducible refine And.intro ?_ ?_; omega) | (simp only [done_eq,done_eq',Z0,Z1,fin_val,fin_tup,fin_agg,fin_ro,res_one,res_more,rv_t,rv_c,rv_l,Z2,Z3,Z4,List.cons.injEq,int_eq,bool_eq,Z5,Z6,Z7,Z8,Z9,Za,Zb,Zc,beq_self_eq_true,bne_self_eq_false,decide_true,decide_false,Zd,toNat_pred,toNat_succ,Ze,cnd_t,cnd_f,grd_tt,grd_u,grd_tf,grd_ft,grd_ff,g_skip,g_ops,g_seq,g_block,g_exit,g_ret,x_c,x_o,x_l,x_b,g_b,g_nil,r_all,o_nil,g_cond,o_guard,o_call,o_callm,o_callt,o_callx,o_callv,lk,ef,o_mv,o_pick,o_bin,o_never,o_eqs,o_eqb,o_un,o_conv,o_load,o_loadr,o_idxr,o_loads,o_fld,o_idx,o_idxs,o_len,o_lens,o_ext,o_nilck,o_slc,o_slcs,o_build,o_minmax,o_mkfn,o_alloc,o_box,o_boxs,o_row,o_rowr,o_mk,o_asg,o_app,o_store,o_stores,o_eqnil,hv,eqAV,ev,view_t,view_c,view_nil,view_fn,look_own,look_box,look_junk,look_val,look_nilsl,look_ro,look_roAt,look_agg,look_tup,look_clo,look_alias,look_ref,look_into,rowOf,cellsOf,argv,vbin,vun,bnd,elemOf,putParts,setAt,zav,ASt.rid,Zf,AV.kill,Zg,Zh,Zi,Value.oneCell',put_at,mk_at,mk_nil,initSt,true_and,and_true,and_self,implies_true,Zj,Zk,Zl,Zm,false_implies,Zn,Zo,Zp,Zq,Zr,Zs,Zt,Zu,Zv,Zw,Zx,Zy,Zz,Y0,Y1,Y2,Y3,reduceCtorEq,if_true,if_false,Y4,↓reduceIte,Y5,Y6,Y7,Y8,Y9,Ya,ne_eq,not_false_eq_true,not_true_eq_false,Yb,Yc,r52_0,r52_1,r52_2,r52_3,p52,Z0,Z1,hlt,List.length_map]) | (exfalso; omega)
end Go.Proofs.Ytpecmhdepggnoaa
