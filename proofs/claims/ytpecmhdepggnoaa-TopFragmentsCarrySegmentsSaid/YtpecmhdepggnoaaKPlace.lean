/- Places at which renditions can be cut: cut.CheckRenditions, placesOf, find, lastBefore, bytesOf, by the machine on data. -/
import Derived.Test.YtpecmhdepggnoaaKPiece
import Derived.Test.YtpecmhdepggnoaaKGroupsW
import Derived.Test.YtpecmhdepggnoaaKWide
namespace Go.Proofs.Ytpecmhdepggnoaa
open Go.RowKit
open Go.Proofs.Ytpecmhdepggnoaa renaming done_eq → Z0, done_eq' → Z1, donet_eq → Z2, donet_eq' → Z3, fin_val → Z4, fin_tup → Z5, fin_agg → Z6, fin_ro → Z7, res_one → Z8, res_more → Z9, rv_t → Za, rv_c → Zb, rv_l → Zc, int_eq → Zg, bool_eq → Zh, toNat_pred → Zr, toNat_succ → Zs, cnd_t → Zu, cnd_f → Zv, grd_tt → Zw, grd_u → Zx, grd_tf → Zy, grd_ft → Zz, grd_ff → Y0, g_skip → Y1, g_ops → Y2, g_seq → Y3, g_block → Y4, g_exit → Y5, g_ret → Y6, x_c → Y7, x_o → Y8, x_l → Y9, x_b → Ya, g_b → Yb, g_nil → Yc, r_all → Yd, o_nil → Ye, g_cond → Yf, o_guard → Yg, o_call → Yh, o_mv → Yi, o_bin → Yj, o_load → Yk, o_loads → Yl, o_fld → Ym, o_idx → Yn, o_len → Yo, o_ext → Yp, o_slc → Yq, o_build → Yr, o_alloc → Ys, o_boxs → Yt, o_row → Yu, o_asg → Yv, o_app → Yw, o_stores → Yx, eqAV → Yy, view_t → Yz, view_c → X0, view_nil → X1, view_fn → X2, look_own → X3, look_box → X4, look_junk → X5, look_val → X6, look_nilsl → X7, look_ro → X8, look_roAt → X9, look_agg → Xa, look_tup → Xb, look_clo → Xc, look_alias → Xd, look_ref → Xe, look_into → Xf, rowOf → Xg, cellsOf → Xh, argv → Xi, vbin → Xj, vun → Xk, bnd → Xl, elemOf → Xm, putParts → Xn, setAt → Xo, zav → Xp, put_at → Xw, mk_at → Xx, mk_nil → Xy, initSt → Xz, wk_cons → Wu, wk_nil → Wv, vint_eq → Ww, vbool_eq → Wx
open Go.Proofs.Ytpecmhdepggnoaa.AV.tup renaming injEq → Zd
open Go.Proofs.Ytpecmhdepggnoaa.AV.agg renaming injEq → Ze
open Go.Proofs.Ytpecmhdepggnoaa.AV.ro renaming injEq → Zf
open _root_.Int renaming toNat_natCast → Zi, reduceToNat → Zj, toNat_zero → Zk, toNat_one → Zl, reduceLE → Zm, reduceLT → Zn, reduceBEq → Zo, reduceBNe → Zp, reduceNeg → Zq
open _root_.List renaming length_map → Zt, map_cons → W0, map_nil → W1, forall_mem_cons → W2, not_mem_nil → W3, length_cons → W4, length_nil → W5, getD_cons_zero → W6, getD_cons_succ → W7, getD_nil → W8, drop_succ_cons → W9, drop_zero → Wa, take_succ_cons → Wb, take_zero → Wc, set_cons_zero → Wd, set_cons_succ → We, all_cons → Wf, all_nil → Wg
open Go.Proofs.Ytpecmhdepggnoaa.ASt renaming rid → Xq, free → Xr
open Go.Proofs.Ytpecmhdepggnoaa.AV renaming kill → Xs, isHome → Xt, noLoan → Xu, cellOK → Xv
open _root_.Bool renaming and_true → Wh, true_and → Wi, not_true → Wj, not_false → Wk, false_eq_true → Wl
open _root_.Nat renaming reduceEqDiff → Wm, reduceAdd → Wn, reduceSub → Wo, reduceMul → Wp, reduceLeDiff → Wq, reduceLT → Wr, one_ne_zero → Ws, zero_ne_one → Wt
open Go.Proofs.Ytpecmhdepggnoaa.AV.val renaming injEq → Wy
set_option linter.unusedSimpArgs false

def rendK (ts : List Str) : Nat → Int
  | 0 => 0
  | k + 1 => if rendK ts k ≠ 0 then rendK ts k else match ts[k]? with
    | some t => strF t (ts.take k)
    | none => 0
theorem rendK_step (ts : List Str) {k : Nat} (hk : k < ts.length) (h : rendK ts k = 0) : rendK ts (k + 1) = strF ts[k] (ts.take k) := by
  rw [rendK, if_neg (by simp [h]), List.getElem?_eq_getElem hk]
theorem rendK_keeps (ts : List Str) {k : Nat} (h : rendK ts k ≠ 0) : ∀ n, rendK ts (k + n) = rendK ts k
  | 0 => rfl
  | n + 1 => by
    have ih := rendK_keeps ts h n
    rw [← Nat.add_assoc, rendK, ih, if_pos h]
theorem rendK_all (ts : List Str) : ∀ n, n ≤ ts.length → rendK ts n = 0 → ∀ k, k < n → ∀ h : k < ts.length, strF ts[k] (ts.take k) = 0
  | 0, _, _, k, hk, _ => by omega
  | n + 1, hn, h0, k, hk, h => by
    have hz : rendK ts n = 0 := by
      cases Decidable.em (rendK ts n = 0) with
      | inl q => exact q
      | inr q => rw [rendK, if_pos q] at h0; exact h0
    rcases Nat.lt_or_ge k n with q | q
    · exact rendK_all ts n (by omega) hz k q h
    · have : k = n := by omega
      subst this
      rw [← rendK_step ts h hz]; exact h0
def sound0 : List Str → Bool
  | [] => false
  | s :: _ => s.sound
def rendF (ts : List Str) : Int := if ts.length = 0 then 9 else if 12 < ts.length then 2 else if rendK ts ts.length ≠ 0 then rendK ts ts.length else if sound0 ts then 4 else 0
theorem rendF_0 {ts : List Str} (h : rendF ts = 0) : 0 < ts.length ∧ ts.length ≤ 12 ∧ ∀ k, ∀ h : k < ts.length, strF ts[k] (ts.take k) = 0 := by
  unfold rendF at h
  split at h
  · cases h
  rename_i h1
  split at h
  · cases h
  rename_i h2
  split at h
  · rename_i h3; exact absurd h h3
  rename_i h3
  exact ⟨by omega, by omega, fun k hk => rendK_all ts _ (Nat.le_refl _) (by simpa using h3) k hk hk⟩
theorem strs_len (l : List Str) : (∀ x ∈ l.map Str.av, x.length = 4) = True := by
  refine eq_true fun x hx => ?_
  obtain ⟨n, _, rfl⟩ := List.mem_map.1 hx
  rfl
/-! headend/cut.CheckRenditions -/
def r45_0 : List POp := [⟨2, .asg (.c (.int .i64 0)), none⟩]
def r45_1 : List POp := [⟨7, .mv (.t 0), none⟩,
  ⟨8, .len (.t 7), none⟩,
  ⟨9, .bin .eql (.t 8) (.c (.int .i64 0)), none⟩,
  ⟨6, .asg (.t 9), none⟩]
def r45_2 : List POp := [⟨2, .asg (.c (.int .i64 9)), none⟩]
def r45_3 : List POp := [⟨11, .mv (.t 0), none⟩,
  ⟨12, .len (.t 11), none⟩,
  ⟨13, .bin .gtr (.t 12) (.c (.int .i64 12)), none⟩,
  ⟨10, .asg (.t 13), none⟩]
def r45_4 : List POp := [⟨2, .asg (.c (.int .i64 2)), none⟩]
def r45_5 : List POp := [⟨14, .mv (.t 0), none⟩,
  ⟨15, .len (.t 14), none⟩,
  ⟨16, .mv (.c (.int .i64 0)), none⟩]
def r45_6 : List POp := [⟨17, .bin .lss (.t 16) (.t 15), none⟩]
def r45_7 : List POp := [⟨18, .mv (.t 16), none⟩,
  ⟨19, .idx 4 (.t 14) (.t 16), none⟩,
  ⟨20, .loads 4 (.t 19), none⟩,
  ⟨4, .alloc [.string ⟨#[]⟩, .int .i64 0, .bool false, .slice none 0 0], none⟩,
  ⟨3, .asg (.t 18), none⟩,
  ⟨0, .stores 4 (.t 4) (.t 20), none⟩]
def r45_8 : List POp := [⟨21, .loads 4 (.t 4), none⟩,
  ⟨22, .mv (.t 0), none⟩,
  ⟨23, .mv (.t 3), none⟩,
  ⟨24, .slc none (some (.t 23)) 4 (.t 22), none⟩,
  ⟨25, .call 47 [.t 21, .t 24], none⟩,
  ⟨5, .asg (.t 25), none⟩]
def r45_9 : List POp := [⟨26, .mv (.t 5), none⟩,
  ⟨27, .bin .neq (.t 26) (.c (.int .i64 0)), none⟩]
def r45_10 : List POp := [⟨28, .mv (.t 5), none⟩,
  ⟨2, .asg (.t 28), none⟩]
def r45_11 : List POp := [⟨29, .bin .add (.t 16) (.c (.int .i64 1)), none⟩,
  ⟨16, .mv (.t 29), none⟩]
def r45_12 : List POp := [⟨30, .mv (.t 0), none⟩,
  ⟨31, .idx 4 (.t 30) (.c (.int .i64 0)), none⟩,
  ⟨32, .fld 2 (.t 31), none⟩,
  ⟨33, .load (.t 32), none⟩]
def r45_13 : List POp := [⟨2, .asg (.c (.int .i64 4)), none⟩]
def r45_14 : List POp := [⟨2, .asg (.c (.int .i64 0)), none⟩]
def l45_0 : PCode := .seq (.ops r45_6) (.seq (.cond (.t 17) (.skip) (.exit 1)) (.seq (.block 2 (.seq (.ops r45_7) (.seq (.ops r45_8) (.seq (.ops r45_9) (.cond (.t 27) (.seq (.ops r45_10) (.ret)) (.skip)))))) (.ops r45_11)))
def p45 : PCode := .seq (.ops r45_0) (.seq (.block 0 (.seq (.ops r45_1) (.cond (.t 6) (.seq (.ops r45_2) (.ret)) (.seq (.ops r45_3) (.cond (.t 10) (.seq (.ops r45_4) (.ret)) (.skip)))))) (.seq (.seq (.ops r45_5) (.block 1 (.loop l45_0))) (.seq (.seq (.ops r45_12) (.cond (.t 33) (.seq (.ops r45_13) (.ret)) (.skip))) (.seq (.ops r45_14) (.ret)))))
theorem ok45 : okFunc Try.prog 45 [.t 2] 1 p45 = true := by kernel_rfl
theorem rend_c (ts : List Str) : CallOK Try.prog 45 [.ro (ts.map Str.av)] (.val (.int .i64 (rendF ts))) := by
  refine call_of mixed ok45 rfl ?_
  by_cases h1 : ts.length = 0
  · obtain rfl := List.eq_nil_of_length_eq_zero h1
    repeat' first | ((with_reducible (first | refine condD ?_ ?_ | refine condE ?_ ?_ | refine condN ?_ ?_ | refine condI ?_ ?_ | refine condS ?_ ?_)) <;> intro h) | (with_reducible refine And.intro ?_ ?_; omega) | (simp only [Z0,Z1,Z2,Z3,Z4,Z5,Z6,Z7,Z8,Z9,Za,Zb,Zc,Zd,Ze,Zf,List.cons.injEq,Zg,Zh,Zi,Zj,Zk,Zl,Zm,Zn,Zo,Zp,beq_self_eq_true,bne_self_eq_false,decide_true,decide_false,Zq,Zr,Zs,Zt,Zu,Zv,Zw,Zx,Zy,Zz,Y0,Y1,Y2,Y3,Y4,Y5,Y6,Y7,Y8,Y9,Ya,Yb,Yc,Yd,Ye,Yf,Yg,Yh,lk,ef,Yi,Yj,Yk,Yl,Ym,Yn,Yo,Yq,Ys,Yv,Yx,hv,Yy,ev,Yz,X0,X1,X2,X3,X4,X5,X6,X7,X8,X9,Xa,Xb,Xc,Xd,Xe,Xf,Xg,Xh,Xi,Xj,Xk,Xl,Xm,Xn,Xo,Xp,Xq,Xr,Xs,Xt,Xu,Xv,Value.oneCell',Xw,Xx,Xy,Xz,true_and,and_true,and_self,implies_true,W0,W1,W2,W3,false_implies,W4,W5,W6,W7,W8,W9,Wa,Wb,Wc,Wd,We,Wf,Wg,Wh,Wi,Wj,Wk,reduceCtorEq,if_true,if_false,Wl,↓reduceIte,Wm,Wn,Wo,Wp,Wq,Wr,ne_eq,not_false_eq_true,not_true_eq_false,Ws,Wt,r45_0,r45_1,r45_2,r45_3,r45_4,r45_5,r45_6,r45_7,r45_8,r45_9,r45_10,r45_11,r45_12,r45_13,r45_14,p45,Zt,W5,Int.natCast_zero]) | (exfalso; omega)
    all_goals simp [rendF]
  have h1i : ¬ (ts.length : Int) = 0 := by omega
  by_cases h2 : 12 < ts.length
  · have h2i : (12 : Int) < ts.length := by omega
    rw [show rendF ts = 2 from by rw [rendF, if_neg h1, if_pos h2]]
    repeat' first | ((with_reducible (first | refine condD ?_ ?_ | refine condE ?_ ?_ | refine condN ?_ ?_ | refine condI ?_ ?_ | refine condS ?_ ?_)) <;> intro h) | (with_reducible refine And.intro ?_ ?_; omega) | (simp only [Z0,Z1,Z2,Z3,Z4,Z5,Z6,Z7,Z8,Z9,Za,Zb,Zc,Zd,Ze,Zf,List.cons.injEq,Zg,Zh,Zi,Zj,Zk,Zl,Zm,Zn,Zo,Zp,beq_self_eq_true,bne_self_eq_false,decide_true,decide_false,Zq,Zr,Zs,Zt,Zu,Zv,Zw,Zx,Zy,Zz,Y0,Y1,Y2,Y3,Y4,Y5,Y6,Y7,Y8,Y9,Ya,Yb,Yc,Yd,Ye,Yf,Yg,Yh,lk,ef,Yi,Yj,Yk,Yl,Ym,Yn,Yo,Yq,Ys,Yv,Yx,hv,Yy,ev,Yz,X0,X1,X2,X3,X4,X5,X6,X7,X8,X9,Xa,Xb,Xc,Xd,Xe,Xf,Xg,Xh,Xi,Xj,Xk,Xl,Xm,Xn,Xo,Xp,Xq,Xr,Xs,Xt,Xu,Xv,Value.oneCell',Xw,Xx,Xy,Xz,true_and,and_true,and_self,implies_true,W0,W1,W2,W3,false_implies,W4,W5,W6,W7,W8,W9,Wa,Wb,Wc,Wd,We,Wf,Wg,Wh,Wi,Wj,Wk,reduceCtorEq,if_true,if_false,Wl,↓reduceIte,Wm,Wn,Wo,Wp,Wq,Wr,ne_eq,not_false_eq_true,not_true_eq_false,Ws,Wt,r45_0,r45_1,r45_2,r45_3,r45_4,r45_5,r45_6,r45_7,r45_8,r45_9,r45_10,r45_11,r45_12,r45_13,r45_14,p45,h2i,beq0_f h1i,List.length_map]) | (exfalso; omega)
  have h2i : ¬ (12 : Int) < ts.length := by omega
  rw [show rendF ts = if rendK ts ts.length ≠ 0 then rendK ts ts.length else if sound0 ts then 4 else 0 from by rw [rendF, if_neg h1, if_neg h2]]
  obtain ⟨R, hR⟩ : ∃ R, R = if rendK ts ts.length ≠ 0 then rendK ts ts.length else if sound0 ts then 4 else 0 := ⟨_, rfl⟩
  rw [← hR]
  repeat' first | ((with_reducible (first | refine condD ?_ ?_ | refine condE ?_ ?_ | refine condN ?_ ?_ | refine condI ?_ ?_ | refine condS ?_ ?_)) <;> intro h) | (with_reducible refine And.intro ?_ ?_; omega) | (simp only [Z0,Z1,Z2,Z3,Z4,Z5,Z6,Z7,Z8,Z9,Za,Zb,Zc,Zd,Ze,Zf,List.cons.injEq,Zg,Zh,Zi,Zj,Zk,Zl,Zm,Zn,Zo,Zp,beq_self_eq_true,bne_self_eq_false,decide_true,decide_false,Zq,Zr,Zs,Zt,Zu,Zv,Zw,Zx,Zy,Zz,Y0,Y1,Y2,Y3,Y4,Y5,Y6,Y7,Y8,Y9,Ya,Yb,Yc,Yd,Ye,Yf,Yg,Yh,lk,ef,Yi,Yj,Yk,Yl,Ym,Yn,Yo,Yq,Ys,Yv,Yx,hv,Yy,ev,Yz,X0,X1,X2,X3,X4,X5,X6,X7,X8,X9,Xa,Xb,Xc,Xd,Xe,Xf,Xg,Xh,Xi,Xj,Xk,Xl,Xm,Xn,Xo,Xp,Xq,Xr,Xs,Xt,Xu,Xv,Value.oneCell',Xw,Xx,Xy,Xz,true_and,and_true,and_self,implies_true,W0,W1,W2,W3,false_implies,W4,W5,W6,W7,W8,W9,Wa,Wb,Wc,Wd,We,Wf,Wg,Wh,Wi,Wj,Wk,reduceCtorEq,if_true,if_false,Wl,↓reduceIte,Wm,Wn,Wo,Wp,Wq,Wr,ne_eq,not_false_eq_true,not_true_eq_false,Ws,Wt,r45_0,r45_1,r45_2,r45_3,r45_4,r45_5,r45_6,r45_7,r45_8,r45_9,r45_10,r45_11,r45_12,r45_13,r45_14,p45,h2i,beq0_f h1i,List.length_map]) | (exfalso; omega)
  refine loopS (fun k : Nat => mk [(0, .ro (ts.map Str.av)), (14, .ro (ts.map Str.av)), (15, .val (.int .i64 ts.length)), (16, .val (.int .i64 k))]) (fun k => k ≤ ts.length ∧ rendK ts k = 0) (fun k => ts.length - k) 0 (weak_mk ?_) ⟨Nat.zero_le _, rfl⟩ ?_
  · simp only [Wu,Wv,wk1,Ww,Wx,Wy,Z4,Z5,Z6,Z7,Z8,Z9,Za,Zb,Zc,Zd,Ze,Zf,List.cons.injEq,Zg,Zh,Zi,Zj,Zk,Zl,Zm,Zn,Zo,Zp,beq_self_eq_true,bne_self_eq_false,decide_true,decide_false,Zq,Zr,Zs,Zt,Zu,Zv,Zw,Zx,Zy,Zz,Y0,hv,Yy,ev,Yz,X0,X1,X2,X3,X4,X5,X6,X7,X8,X9,Xa,Xb,Xc,Xd,Xe,Xf,Xg,Xh,Xi,Xj,Xk,Xl,Xm,Xn,Xo,Xp,Xq,Xr,Xs,Xt,Xu,Xv,Value.oneCell',Xw,Xx,Xy,Xz,true_and,and_true,and_self,implies_true,W0,W1,W2,W3,false_implies,W4,W5,W6,W7,W8,W9,Wa,Wb,Wc,Wd,We,Wf,Wg,Wh,Wi,Wj,Wk,reduceCtorEq,if_true,if_false,Wl,↓reduceIte,Wm,Wn,Wo,Wp,Wq,Wr,ne_eq,not_false_eq_true,not_true_eq_false,Ws,Nat.zero_ne_one]
    simp
  rintro J hJ k ⟨hk, hg⟩
  simp only [Z0,Z1,Z2,Z3,Z4,Z5,Z6,Z7,Z8,Z9,Za,Zb,Zc,Zd,Ze,Zf,List.cons.injEq,Zg,Zh,Zi,Zj,Zk,Zl,Zm,Zn,Zo,Zp,beq_self_eq_true,bne_self_eq_false,decide_true,decide_false,Zq,Zr,Zs,Zt,Zu,Zv,Zw,Zx,Zy,Zz,Y0,Y1,Y2,Y3,Y4,Y5,Y6,Y7,Y8,Y9,Ya,Yb,Yc,Yd,Ye,Yf,Yg,Yh,lk,ef,Yi,Yj,Yk,Yl,Ym,Yn,Yo,Yq,Ys,Yv,Yx,hv,Yy,ev,Yz,X0,X1,X2,X3,X4,X5,X6,X7,X8,X9,Xa,Xb,Xc,Xd,Xe,Xf,Xg,Xh,Xi,Xj,Xk,Xl,Xm,Xn,Xo,Xp,Xq,Xr,Xs,Xt,Xu,Xv,Value.oneCell',Xw,Xx,Xy,Xz,true_and,and_true,and_self,implies_true,W0,W1,W2,W3,false_implies,W4,W5,W6,W7,W8,W9,Wa,Wb,Wc,Wd,We,Wf,Wg,Wh,Wi,Wj,Wk,reduceCtorEq,if_true,if_false,Wl,↓reduceIte,Wm,Wn,Wo,Wp,Wq,Wr,ne_eq,not_false_eq_true,not_true_eq_false,Ws,Wt,r45_0,r45_1,r45_2,r45_3,r45_4,r45_5,r45_6,r45_7,r45_8,r45_9,r45_10,r45_11,r45_12,r45_13,r45_14,p45,l45_0]
  refine condD (fun h => ?_) (fun h => ?_)
  · have hlt : k < ts.length := by omega
    have hw := i_add1 k (by omega)
    have gK := getD_map (f := Str.av) (d := []) hlt
    simp only [Str.av] at gK
    have ht := strand_c ts[k] (ts.take k) (by rw [List.length_take]; omega)
    rw [List.map_take] at ht
    simp only [Str.av] at ht
    change CallOK _ _ [_, .ro ((ts.map Str.av).take k)] _ at ht
    have hst := rendK_step ts hlt hg
    by_cases h0 : strF ts[k] (ts.take k) = 0
    · rw [h0] at ht hst
      repeat' first | ((with_reducible (first | refine condD ?_ ?_ | refine condE ?_ ?_ | refine condN ?_ ?_ | refine condI ?_ ?_ | refine condS ?_ ?_)) <;> intro h) | ((refine callG ht ?_)) | (with_reducible refine And.intro ?_ ?_; omega) | (simp only [Z0,Z1,Z2,Z3,Z4,Z5,Z6,Z7,Z8,Z9,Za,Zb,Zc,Zd,Ze,Zf,List.cons.injEq,Zg,Zh,Zi,Zj,Zk,Zl,Zm,Zn,Zo,Zp,beq_self_eq_true,bne_self_eq_false,decide_true,decide_false,Zq,Zr,Zs,Zt,Zu,Zv,Zw,Zx,Zy,Zz,Y0,Y1,Y2,Y3,Y4,Y5,Y6,Y7,Y8,Y9,Ya,Yb,Yc,Yd,Ye,Yf,Yg,Yh,lk,ef,Yi,Yj,Yk,Yl,Ym,Yn,Yo,Yq,Ys,Yv,Yx,hv,Yy,ev,Yz,X0,X1,X2,X3,X4,X5,X6,X7,X8,X9,Xa,Xb,Xc,Xd,Xe,Xf,Xg,Xh,Xi,Xj,Xk,Xl,Xm,Xn,Xo,Xp,Xq,Xr,Xs,Xt,Xu,Xv,Value.oneCell',Xw,Xx,Xy,Xz,true_and,and_true,and_self,implies_true,W0,W1,W2,W3,false_implies,W4,W5,W6,W7,W8,W9,Wa,Wb,Wc,Wd,We,Wf,Wg,Wh,Wi,Wj,Wk,reduceCtorEq,if_true,if_false,Wl,↓reduceIte,Wm,Wn,Wo,Wp,Wq,Wr,ne_eq,not_false_eq_true,not_true_eq_false,Ws,Wt,r45_0,r45_1,r45_2,r45_3,r45_4,r45_5,r45_6,r45_7,r45_8,r45_9,r45_10,r45_11,r45_12,r45_13,r45_14,p45,l45_0,gK,strs_len,List.length_map]) | (exfalso; omega)
      all_goals exact again hJ (k + 1) (weak_mk (by simp only [Wu,Wv,wk1,Ww,Wx,Wy,Z4,Z5,Z6,Z7,Z8,Z9,Za,Zb,Zc,Zd,Ze,Zf,List.cons.injEq,Zg,Zh,Zi,Zj,Zk,Zl,Zm,Zn,Zo,Zp,beq_self_eq_true,bne_self_eq_false,decide_true,decide_false,Zq,Zr,Zs,Zt,Zu,Zv,Zw,Zx,Zy,Zz,Y0,hv,Yy,ev,Yz,X0,X1,X2,X3,X4,X5,X6,X7,X8,X9,Xa,Xb,Xc,Xd,Xe,Xf,Xg,Xh,Xi,Xj,Xk,Xl,Xm,Xn,Xo,Xp,Xq,Xr,Xs,Xt,Xu,Xv,Value.oneCell',Xw,Xx,Xy,Xz,true_and,and_true,and_self,implies_true,W0,W1,W2,W3,false_implies,W4,W5,W6,W7,W8,W9,Wa,Wb,Wc,Wd,We,Wf,Wg,Wh,Wi,Wj,Wk,reduceCtorEq,if_true,if_false,Wl,↓reduceIte,Wm,Wn,Wo,Wp,Wq,Wr,ne_eq,not_false_eq_true,not_true_eq_false,Ws,Nat.zero_ne_one]; exact hw)) ⟨by omega, hst⟩ (by omega)
    · have hne : rendK ts ts.length = strF ts[k] (ts.take k) := by
        have := rendK_keeps ts (k := k + 1) (by rw [hst]; exact h0) (ts.length - (k + 1))
        rw [show k + 1 + (ts.length - (k + 1)) = ts.length by omega] at this
        rw [this, hst]
      rw [hne, if_pos h0] at hR
      rw [hR]
      repeat' first | ((with_reducible (first | refine condD ?_ ?_ | refine condE ?_ ?_ | refine condN ?_ ?_ | refine condI ?_ ?_ | refine condS ?_ ?_)) <;> intro h) | ((refine callG ht ?_)) | (with_reducible refine And.intro ?_ ?_; omega) | (simp only [Z0,Z1,Z2,Z3,Z4,Z5,Z6,Z7,Z8,Z9,Za,Zb,Zc,Zd,Ze,Zf,List.cons.injEq,Zg,Zh,Zi,Zj,Zk,Zl,Zm,Zn,Zo,Zp,beq_self_eq_true,bne_self_eq_false,decide_true,decide_false,Zq,Zr,Zs,Zt,Zu,Zv,Zw,Zx,Zy,Zz,Y0,Y1,Y2,Y3,Y4,Y5,Y6,Y7,Y8,Y9,Ya,Yb,Yc,Yd,Ye,Yf,Yg,Yh,lk,ef,Yi,Yj,Yk,Yl,Ym,Yn,Yo,Yq,Ys,Yv,Yx,hv,Yy,ev,Yz,X0,X1,X2,X3,X4,X5,X6,X7,X8,X9,Xa,Xb,Xc,Xd,Xe,Xf,Xg,Xh,Xi,Xj,Xk,Xl,Xm,Xn,Xo,Xp,Xq,Xr,Xs,Xt,Xu,Xv,Value.oneCell',Xw,Xx,Xy,Xz,true_and,and_true,and_self,implies_true,W0,W1,W2,W3,false_implies,W4,W5,W6,W7,W8,W9,Wa,Wb,Wc,Wd,We,Wf,Wg,Wh,Wi,Wj,Wk,reduceCtorEq,if_true,if_false,Wl,↓reduceIte,Wm,Wn,Wo,Wp,Wq,Wr,ne_eq,not_false_eq_true,not_true_eq_false,Ws,Wt,r45_0,r45_1,r45_2,r45_3,r45_4,r45_5,r45_6,r45_7,r45_8,r45_9,r45_10,r45_11,r45_12,r45_13,r45_14,p45,l45_0,gK,strs_len,Zt,bne0_t h0]) | (exfalso; omega)
  · have hke : k = ts.length := by omega
    subst hke
    rw [hg, if_neg (by simp)] at hR
    clear hJ
    obtain ⟨s, r, hts⟩ : ∃ s r, ts = s :: r := by
      cases ts with
      | nil => simp at h1
      | cons s r => exact ⟨s, r, rfl⟩
    have g0 : (ts.map Str.av).getD 0 [] = s.av := by rw [hts]; rfl
    have hs0 : sound0 ts = s.sound := by rw [hts]; rfl
    have hp : (0 : Int) < ts.length := by omega
    have hp' : 0 < ts.length := by omega
    rw [hs0] at hR
    clear hs0 hts
    simp only [Str.av] at g0
    cases hs : s.sound with
    | true =>
      rw [hs] at hR g0
      simp only [if_true] at hR
      subst hR
      repeat' first | ((with_reducible (first | refine condD ?_ ?_ | refine condE ?_ ?_ | refine condN ?_ ?_ | refine condI ?_ ?_ | refine condS ?_ ?_)) <;> intro h) | (with_reducible refine And.intro ?_ ?_; omega) | (simp only [Z0,Z1,Z2,Z3,Z4,Z5,Z6,Z7,Z8,Z9,Za,Zb,Zc,Zd,Ze,Zf,List.cons.injEq,Zg,Zh,Zi,Zj,Zk,Zl,Zm,Zn,Zo,Zp,beq_self_eq_true,bne_self_eq_false,decide_true,decide_false,Zq,Zr,Zs,Zt,Zu,Zv,Zw,Zx,Zy,Zz,Y0,Y1,Y2,Y3,Y4,Y5,Y6,Y7,Y8,Y9,Ya,Yb,Yc,Yd,Ye,Yf,Yg,Yh,lk,ef,Yi,Yj,Yk,Yl,Ym,Yn,Yo,Yq,Ys,Yv,Yx,hv,Yy,ev,Yz,X0,X1,X2,X3,X4,X5,X6,X7,X8,X9,Xa,Xb,Xc,Xd,Xe,Xf,Xg,Xh,Xi,Xj,Xk,Xl,Xm,Xn,Xo,Xp,Xq,Xr,Xs,Xt,Xu,Xv,Value.oneCell',Xw,Xx,Xy,Xz,true_and,and_true,and_self,implies_true,W0,W1,W2,W3,false_implies,W4,W5,W6,W7,W8,W9,Wa,Wb,Wc,Wd,We,Wf,Wg,Wh,Wi,Wj,Wk,reduceCtorEq,if_true,if_false,Wl,↓reduceIte,Wm,Wn,Wo,Wp,Wq,Wr,ne_eq,not_false_eq_true,not_true_eq_false,Ws,Wt,r45_0,r45_1,r45_2,r45_3,r45_4,r45_5,r45_6,r45_7,r45_8,r45_9,r45_10,r45_11,r45_12,r45_13,r45_14,p45,l45_0,g0,hp,hp',List.length_map]) | (exfalso; omega)
    | false =>
      rw [hs] at hR g0
      simp only [Bool.false_eq_true, if_false] at hR
      subst hR
      repeat' first | ((with_reducible (first | refine condD ?_ ?_ | refine condE ?_ ?_ | refine condN ?_ ?_ | refine condI ?_ ?_ | refine condS ?_ ?_)) <;> intro h) | (with_reducible refine And.intro ?_ ?_; omega) | (simp only [Z0,Z1,Z2,Z3,Z4,Z5,Z6,Z7,Z8,Z9,Za,Zb,Zc,Zd,Ze,Zf,List.cons.injEq,Zg,Zh,Zi,Zj,Zk,Zl,Zm,Zn,Zo,Zp,beq_self_eq_true,bne_self_eq_false,decide_true,decide_false,Zq,Zr,Zs,Zt,Zu,Zv,Zw,Zx,Zy,Zz,Y0,Y1,Y2,Y3,Y4,Y5,Y6,Y7,Y8,Y9,Ya,Yb,Yc,Yd,Ye,Yf,Yg,Yh,lk,ef,Yi,Yj,Yk,Yl,Ym,Yn,Yo,Yq,Ys,Yv,Yx,hv,Yy,ev,Yz,X0,X1,X2,X3,X4,X5,X6,X7,X8,X9,Xa,Xb,Xc,Xd,Xe,Xf,Xg,Xh,Xi,Xj,Xk,Xl,Xm,Xn,Xo,Xp,Xq,Xr,Xs,Xt,Xu,Xv,Value.oneCell',Xw,Xx,Xy,Xz,true_and,and_true,and_self,implies_true,W0,W1,W2,W3,false_implies,W4,W5,W6,W7,W8,W9,Wa,Wb,Wc,Wd,We,Wf,Wg,Wh,Wi,Wj,Wk,reduceCtorEq,if_true,if_false,Wl,↓reduceIte,Wm,Wn,Wo,Wp,Wq,Wr,ne_eq,not_false_eq_true,not_true_eq_false,Ws,Wt,r45_0,r45_1,r45_2,r45_3,r45_4,r45_5,r45_6,r45_7,r45_8,r45_9,r45_10,r45_11,r45_12,r45_13,r45_14,p45,l45_0,g0,hp,hp',List.length_map]) | (exfalso; omega)
/-! ### Places -/
def plAV (p : Int × Nat) : List AV := [.val (.int .i64 p.1), .val (.int .i64 (p.2 : Nat))]
def plOf (gs : List Grp) : List (Int × Nat) := (gs.filter (·.closed)).map fun g => (g.beg, g.frm)
def placesL (l : List Smp) : List (Int × Nat) := plOf (groupsF l).1
theorem plOf_take {gs : List Grp} {k : Nat} (h : k < gs.length) : plOf (gs.take (k + 1)) = plOf (gs.take k) ++ if gs[k].closed then [(gs[k].beg, gs[k].frm)] else [] := by
  unfold plOf
  rw [List.take_succ_eq_append_getElem h, List.filter_append, List.map_append, List.filter_cons]
  split <;> simp
theorem plOf_len (gs : List Grp) : (plOf gs).length ≤ gs.length := by
  unfold plOf
  rw [List.length_map]
  exact List.length_filter_le _ _
theorem groupsF_len (l : List Smp) : (groupsF l).1.length ≤ 5000 := by
  unfold groupsF
  split
  · simp
  · rename_i h
    have := (smpF_0 (by simpa using h)).1
    exact Nat.le_trans (groupsGo_len l l.length 0) this
/-! headend/cut.placesOf -/
def r91_0 : List POp := [⟨1, .boxs (.t 0), none⟩,
  ⟨2, .asg .nil, none⟩]
def r91_1 : List POp := [⟨3, .asg .nil, none⟩]
def r91_2 : List POp := [⟨9, .fld 3 (.t 1), none⟩,
  ⟨10, .load (.t 9), none⟩,
  ⟨11, .call 108 [.t 10], none⟩,
  ⟨8, .mv (.t 11), none⟩,
  ⟨12, .ext 0 (.t 8), none⟩,
  ⟨13, .ext 1 (.t 8), none⟩,
  ⟨4, .asg (.t 12), none⟩,
  ⟨5, .mv (.t 13), none⟩]
def r91_3 : List POp := [⟨14, .mv (.t 4), none⟩,
  ⟨15, .len (.t 14), none⟩,
  ⟨16, .mv (.c (.int .i64 0)), none⟩]
def r91_4 : List POp := [⟨17, .bin .lss (.t 16) (.t 15), none⟩]
def r91_5 : List POp := [⟨18, .idx 6 (.t 14) (.t 16), none⟩,
  ⟨19, .loads 6 (.t 18), none⟩,
  ⟨7, .alloc [.int .i64 0, .int .i64 0, .bool false, .bool false, .int .i64 0, .int .i64 0], none⟩,
  ⟨0, .stores 6 (.t 7) (.t 19), none⟩]
def r91_6 : List POp := [⟨20, .fld 3 (.t 7), none⟩,
  ⟨21, .load (.t 20), none⟩]
def r91_7 : List POp := [⟨22, .mv (.t 3), none⟩,
  ⟨23, .fld 4 (.t 7), none⟩,
  ⟨24, .load (.t 23), none⟩,
  ⟨25, .fld 0 (.t 7), none⟩,
  ⟨26, .load (.t 25), none⟩,
  ⟨27, .build [.int .i64 0, .int .i64 0] [(0, 1, .t 24), (1, 1, .t 26)], none⟩,
  ⟨28, .row 172 2 [.t 27], none⟩,
  ⟨29, .app 172 2 16 (.t 22) (.t 28), none⟩,
  ⟨3, .asg (.t 29), none⟩]
def r91_8 : List POp := [⟨30, .bin .add (.t 16) (.c (.int .i64 1)), none⟩,
  ⟨16, .mv (.t 30), none⟩]
def r91_9 : List POp := [⟨31, .mv (.t 3), none⟩,
  ⟨2, .asg (.t 31), none⟩]
def l91_0 : PCode := .seq (.ops r91_4) (.seq (.cond (.t 17) (.skip) (.exit 0)) (.seq (.block 1 (.seq (.ops r91_5) (.seq (.ops r91_6) (.cond (.t 21) (.ops r91_7) (.skip))))) (.ops r91_8)))
def p91 : PCode := .seq (.ops r91_0) (.seq (.ops r91_1) (.seq (.ops r91_2) (.seq (.seq (.ops r91_3) (.block 0 (.loop l91_0))) (.seq (.ops r91_9) (.ret)))))
theorem ok91 : okFunc Try.prog 91 [.t 2] 1 p91 = true := by kernel_rfl
theorem places_c (r : Str) : CallOK Try.prog 91 [.agg r.av] (.ro ((placesL r.smps).map plAV)) := by
  refine call_of mixed ok91 rfl ?_
  have hG := groupsF_c r.smps
  have hlen := groupsF_len r.smps
  unfold placesL
  simp only [Str.av]
  generalize (groupsF r.smps).2 = e at hG
  generalize (groupsF r.smps).1 = gs at *
  repeat' first | ((with_reducible (first | refine condD ?_ ?_ | refine condE ?_ ?_ | refine condN ?_ ?_ | refine condI ?_ ?_ | refine condS ?_ ?_)) <;> intro h) | ((refine callG hG ?_)) | (with_reducible refine And.intro ?_ ?_; omega) | (simp only [Z0,Z1,Z2,Z3,Z4,Z5,Z6,Z7,Z8,Z9,Za,Zb,Zc,Zd,Ze,Zf,List.cons.injEq,Zg,Zh,Zi,Zj,Zk,Zl,Zm,Zn,Zo,Zp,beq_self_eq_true,bne_self_eq_false,decide_true,decide_false,Zq,Zr,Zs,Zt,Zu,Zv,Zw,Zx,Zy,Zz,Y0,Y1,Y2,Y3,Y4,Y5,Y6,Y7,Y8,Y9,Ya,Yb,Yc,Yd,Ye,Yf,Yg,Yh,lk,ef,Yi,Yj,Yk,Yl,Ym,Yn,Yo,Yp,Yr,Ys,Yt,Yu,Yv,Yw,Yx,hv,Yy,ev,Yz,X0,X1,X2,X3,X4,X5,X6,X7,X8,X9,Xa,Xb,Xc,Xd,Xe,Xf,Xg,Xh,Xi,Xj,Xk,Xl,Xm,Xn,Xo,Xp,Xq,Xr,Xs,Xt,Xu,Xv,Value.oneCell',Xw,Xx,Xy,Xz,true_and,and_true,and_self,implies_true,W0,W1,W2,W3,false_implies,W4,W5,W6,W7,W8,W9,Wa,Wb,Wc,Wd,We,Wf,Wg,Wh,Wi,Wj,Wk,reduceCtorEq,if_true,if_false,Wl,↓reduceIte,Wm,Wn,Wo,Wp,Wq,Wr,ne_eq,not_false_eq_true,not_true_eq_false,Ws,Wt,r91_0,r91_1,r91_2,r91_3,r91_4,r91_5,r91_6,r91_7,r91_8,r91_9,p91,List.length_map]) | (exfalso; omega)
  refine loopS (fun k : Nat => mk [(3, .own 172 2 ((plOf (gs.take k)).map plAV)), (14, .ro (gs.map Grp.av)), (15, .val (.int .i64 gs.length)), (16, .val (.int .i64 k))]) (fun k => k ≤ gs.length) (fun k => gs.length - k) 0 (weak_mk ?_) (Nat.zero_le _) ?_
  · simp only [Wu,Wv,wk1,Ww,Wx,Wy,Z4,Z5,Z6,Z7,Z8,Z9,Za,Zb,Zc,Zd,Ze,Zf,List.cons.injEq,Zg,Zh,Zi,Zj,Zk,Zl,Zm,Zn,Zo,Zp,beq_self_eq_true,bne_self_eq_false,decide_true,decide_false,Zq,Zr,Zs,Zt,Zu,Zv,Zw,Zx,Zy,Zz,Y0,hv,Yy,ev,Yz,X0,X1,X2,X3,X4,X5,X6,X7,X8,X9,Xa,Xb,Xc,Xd,Xe,Xf,Xg,Xh,Xi,Xj,Xk,Xl,Xm,Xn,Xo,Xp,Xq,Xr,Xs,Xt,Xu,Xv,Value.oneCell',Xw,Xx,Xy,Xz,true_and,and_true,and_self,implies_true,W0,W1,W2,W3,false_implies,W4,W5,W6,W7,W8,W9,Wa,Wb,Wc,Wd,We,Wf,Wg,Wh,Wi,Wj,Wk,reduceCtorEq,if_true,if_false,Wl,↓reduceIte,Wm,Wn,Wo,Wp,Wq,Wr,ne_eq,not_false_eq_true,not_true_eq_false,Ws,Nat.zero_ne_one]
    simp [plOf]
  rintro J hJ k hk
  simp only [Z0,Z1,Z2,Z3,Z4,Z5,Z6,Z7,Z8,Z9,Za,Zb,Zc,Zd,Ze,Zf,List.cons.injEq,Zg,Zh,Zi,Zj,Zk,Zl,Zm,Zn,Zo,Zp,beq_self_eq_true,bne_self_eq_false,decide_true,decide_false,Zq,Zr,Zs,Zt,Zu,Zv,Zw,Zx,Zy,Zz,Y0,Y1,Y2,Y3,Y4,Y5,Y6,Y7,Y8,Y9,Ya,Yb,Yc,Yd,Ye,Yf,Yg,Yh,lk,ef,Yi,Yj,Yk,Yl,Ym,Yn,Yo,Yp,Yr,Ys,Yt,Yu,Yv,Yw,Yx,hv,Yy,ev,Yz,X0,X1,X2,X3,X4,X5,X6,X7,X8,X9,Xa,Xb,Xc,Xd,Xe,Xf,Xg,Xh,Xi,Xj,Xk,Xl,Xm,Xn,Xo,Xp,Xq,Xr,Xs,Xt,Xu,Xv,Value.oneCell',Xw,Xx,Xy,Xz,true_and,and_true,and_self,implies_true,W0,W1,W2,W3,false_implies,W4,W5,W6,W7,W8,W9,Wa,Wb,Wc,Wd,We,Wf,Wg,Wh,Wi,Wj,Wk,reduceCtorEq,if_true,if_false,Wl,↓reduceIte,Wm,Wn,Wo,Wp,Wq,Wr,ne_eq,not_false_eq_true,not_true_eq_false,Ws,Wt,r91_0,r91_1,r91_2,r91_3,r91_4,r91_5,r91_6,r91_7,r91_8,r91_9,p91,l91_0]
  refine condD (fun h => ?_) (fun h => ?_)
  · have hlt : k < gs.length := by omega
    have hw := i_add1 k (by omega)
    have gK := getD_map (f := Grp.av) (d := []) hlt
    simp only [Grp.av] at gK
    have hnx := plOf_take hlt
    have hpl := plOf_len (gs.take k)
    rw [List.length_take] at hpl
    cases hc : gs[k].closed with
    | true =>
      rw [hc] at gK hnx
      simp only [if_true] at hnx
      have happ : (plOf (gs.take k)).map plAV ++ [[.val (.int .i64 gs[k].beg), .val (.int .i64 (gs[k].frm : Nat))]] = (plOf (gs.take (k + 1))).map plAV := by rw [hnx, List.map_append]; rfl
      repeat' first | ((with_reducible (first | refine condD ?_ ?_ | refine condE ?_ ?_ | refine condN ?_ ?_ | refine condI ?_ ?_ | refine condS ?_ ?_)) <;> intro h) | (with_reducible refine And.intro ?_ ?_; omega) | (simp only [Z0,Z1,Z2,Z3,Z4,Z5,Z6,Z7,Z8,Z9,Za,Zb,Zc,Zd,Ze,Zf,List.cons.injEq,Zg,Zh,Zi,Zj,Zk,Zl,Zm,Zn,Zo,Zp,beq_self_eq_true,bne_self_eq_false,decide_true,decide_false,Zq,Zr,Zs,Zt,Zu,Zv,Zw,Zx,Zy,Zz,Y0,Y1,Y2,Y3,Y4,Y5,Y6,Y7,Y8,Y9,Ya,Yb,Yc,Yd,Ye,Yf,Yg,Yh,lk,ef,Yi,Yj,Yk,Yl,Ym,Yn,Yo,Yp,Yr,Ys,Yt,Yu,Yv,Yw,Yx,hv,Yy,ev,Yz,X0,X1,X2,X3,X4,X5,X6,X7,X8,X9,Xa,Xb,Xc,Xd,Xe,Xf,Xg,Xh,Xi,Xj,Xk,Xl,Xm,Xn,Xo,Xp,Xq,Xr,Xs,Xt,Xu,Xv,Value.oneCell',Xw,Xx,Xy,Xz,true_and,and_true,and_self,implies_true,W0,W1,W2,W3,false_implies,W4,W5,W6,W7,W8,W9,Wa,Wb,Wc,Wd,We,Wf,Wg,Wh,Wi,Wj,Wk,reduceCtorEq,if_true,if_false,Wl,↓reduceIte,Wm,Wn,Wo,Wp,Wq,Wr,ne_eq,not_false_eq_true,not_true_eq_false,Ws,Wt,r91_0,r91_1,r91_2,r91_3,r91_4,r91_5,r91_6,r91_7,r91_8,r91_9,p91,l91_0,gK,happ,List.length_map]) | (exfalso; omega)
      all_goals exact again hJ (k + 1) (weak_mk (by simp only [Wu,Wv,wk1,Ww,Wx,Wy,Z4,Z5,Z6,Z7,Z8,Z9,Za,Zb,Zc,Zd,Ze,Zf,List.cons.injEq,Zg,Zh,Zi,Zj,Zk,Zl,Zm,Zn,Zo,Zp,beq_self_eq_true,bne_self_eq_false,decide_true,decide_false,Zq,Zr,Zs,Zt,Zu,Zv,Zw,Zx,Zy,Zz,Y0,hv,Yy,ev,Yz,X0,X1,X2,X3,X4,X5,X6,X7,X8,X9,Xa,Xb,Xc,Xd,Xe,Xf,Xg,Xh,Xi,Xj,Xk,Xl,Xm,Xn,Xo,Xp,Xq,Xr,Xs,Xt,Xu,Xv,Value.oneCell',Xw,Xx,Xy,Xz,true_and,and_true,and_self,implies_true,W0,W1,W2,W3,false_implies,W4,W5,W6,W7,W8,W9,Wa,Wb,Wc,Wd,We,Wf,Wg,Wh,Wi,Wj,Wk,reduceCtorEq,if_true,if_false,Wl,↓reduceIte,Wm,Wn,Wo,Wp,Wq,Wr,ne_eq,not_false_eq_true,not_true_eq_false,Ws,Nat.zero_ne_one]; exact hw)) (by omega) (by omega)
    | false =>
      rw [hc] at gK hnx
      simp only [Bool.false_eq_true, if_false, List.append_nil] at hnx
      repeat' first | ((with_reducible (first | refine condD ?_ ?_ | refine condE ?_ ?_ | refine condN ?_ ?_ | refine condI ?_ ?_ | refine condS ?_ ?_)) <;> intro h) | (with_reducible refine And.intro ?_ ?_; omega) | (simp only [Z0,Z1,Z2,Z3,Z4,Z5,Z6,Z7,Z8,Z9,Za,Zb,Zc,Zd,Ze,Zf,List.cons.injEq,Zg,Zh,Zi,Zj,Zk,Zl,Zm,Zn,Zo,Zp,beq_self_eq_true,bne_self_eq_false,decide_true,decide_false,Zq,Zr,Zs,Zt,Zu,Zv,Zw,Zx,Zy,Zz,Y0,Y1,Y2,Y3,Y4,Y5,Y6,Y7,Y8,Y9,Ya,Yb,Yc,Yd,Ye,Yf,Yg,Yh,lk,ef,Yi,Yj,Yk,Yl,Ym,Yn,Yo,Yp,Yr,Ys,Yt,Yu,Yv,Yw,Yx,hv,Yy,ev,Yz,X0,X1,X2,X3,X4,X5,X6,X7,X8,X9,Xa,Xb,Xc,Xd,Xe,Xf,Xg,Xh,Xi,Xj,Xk,Xl,Xm,Xn,Xo,Xp,Xq,Xr,Xs,Xt,Xu,Xv,Value.oneCell',Xw,Xx,Xy,Xz,true_and,and_true,and_self,implies_true,W0,W1,W2,W3,false_implies,W4,W5,W6,W7,W8,W9,Wa,Wb,Wc,Wd,We,Wf,Wg,Wh,Wi,Wj,Wk,reduceCtorEq,if_true,if_false,Wl,↓reduceIte,Wm,Wn,Wo,Wp,Wq,Wr,ne_eq,not_false_eq_true,not_true_eq_false,Ws,Wt,r91_0,r91_1,r91_2,r91_3,r91_4,r91_5,r91_6,r91_7,r91_8,r91_9,p91,l91_0,gK,List.length_map]) | (exfalso; omega)
      all_goals exact again hJ (k + 1) (weak_mk (by simp only [Wu,Wv,wk1,Ww,Wx,Wy,Z4,Z5,Z6,Z7,Z8,Z9,Za,Zb,Zc,Zd,Ze,Zf,List.cons.injEq,Zg,Zh,Zi,Zj,Zk,Zl,Zm,Zn,Zo,Zp,beq_self_eq_true,bne_self_eq_false,decide_true,decide_false,Zq,Zr,Zs,Zt,Zu,Zv,Zw,Zx,Zy,Zz,Y0,hv,Yy,ev,Yz,X0,X1,X2,X3,X4,X5,X6,X7,X8,X9,Xa,Xb,Xc,Xd,Xe,Xf,Xg,Xh,Xi,Xj,Xk,Xl,Xm,Xn,Xo,Xp,Xq,Xr,Xs,Xt,Xu,Xv,Value.oneCell',Xw,Xx,Xy,Xz,true_and,and_true,and_self,implies_true,W0,W1,W2,W3,false_implies,W4,W5,W6,W7,W8,W9,Wa,Wb,Wc,Wd,We,Wf,Wg,Wh,Wi,Wj,Wk,reduceCtorEq,if_true,if_false,Wl,↓reduceIte,Wm,Wn,Wo,Wp,Wq,Wr,ne_eq,not_false_eq_true,not_true_eq_false,Ws,Nat.zero_ne_one]; first | exact ⟨by rw [hnx], hw⟩ | exact ⟨hnx.symm, hw⟩ | (rw [hnx]; exact hw))) (by omega) (by omega)
  · have hke : k = gs.length := by omega
    subst hke
    rw [List.take_length]
    clear hJ
    repeat' first | ((with_reducible (first | refine condD ?_ ?_ | refine condE ?_ ?_ | refine condN ?_ ?_ | refine condI ?_ ?_ | refine condS ?_ ?_)) <;> intro h) | (with_reducible refine And.intro ?_ ?_; omega) | (simp only [Z0,Z1,Z2,Z3,Z4,Z5,Z6,Z7,Z8,Z9,Za,Zb,Zc,Zd,Ze,Zf,List.cons.injEq,Zg,Zh,Zi,Zj,Zk,Zl,Zm,Zn,Zo,Zp,beq_self_eq_true,bne_self_eq_false,decide_true,decide_false,Zq,Zr,Zs,Zt,Zu,Zv,Zw,Zx,Zy,Zz,Y0,Y1,Y2,Y3,Y4,Y5,Y6,Y7,Y8,Y9,Ya,Yb,Yc,Yd,Ye,Yf,Yg,Yh,lk,ef,Yi,Yj,Yk,Yl,Ym,Yn,Yo,Yp,Yr,Ys,Yt,Yu,Yv,Yw,Yx,hv,Yy,ev,Yz,X0,X1,X2,X3,X4,X5,X6,X7,X8,X9,Xa,Xb,Xc,Xd,Xe,Xf,Xg,Xh,Xi,Xj,Xk,Xl,Xm,Xn,Xo,Xp,Xq,Xr,Xs,Xt,Xu,Xv,Value.oneCell',Xw,Xx,Xy,Xz,true_and,and_true,and_self,implies_true,W0,W1,W2,W3,false_implies,W4,W5,W6,W7,W8,W9,Wa,Wb,Wc,Wd,We,Wf,Wg,Wh,Wi,Wj,Wk,reduceCtorEq,if_true,if_false,Wl,↓reduceIte,Wm,Wn,Wo,Wp,Wq,Wr,ne_eq,not_false_eq_true,not_true_eq_false,Ws,Wt,r91_0,r91_1,r91_2,r91_3,r91_4,r91_5,r91_6,r91_7,r91_8,r91_9,p91,l91_0]) | (exfalso; omega)
end Go.Proofs.Ytpecmhdepggnoaa
