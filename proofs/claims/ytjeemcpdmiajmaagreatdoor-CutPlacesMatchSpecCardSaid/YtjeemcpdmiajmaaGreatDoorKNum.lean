/- The reference's numbers: limbs; headendref1's trim, compare, by the machine on data. -/
import Derived.Test.YtjeemcpdmiajmaaGreatDoorKNat
import Derived.Test.YtjeemcpdmiajmaaGreatDoorDmP
namespace Go.Proofs.YtjeemcpdmiajmaaGreatDoor
open Go.RowKit
open Go.Proofs.YtjeemcpdmiajmaaGreatDoor renaming done_eq → Z0, done_eq' → Z1, donet_eq → Z2, donet_eq' → Z3, fin_val → Z4, fin_tup → Z5, fin_agg → Z6, fin_ro → Z7, res_one → Z8, res_more → Z9, rv_t → Za, rv_c → Zb, rv_l → Zc, int_eq → Zg, bool_eq → Zh, toNat_pred → Zr, toNat_succ → Zs, cnd_t → Zu, cnd_f → Zv, grd_tt → Zw, grd_u → Zx, grd_tf → Zy, grd_ft → Zz, grd_ff → Y0, g_skip → Y1, g_ops → Y2, g_seq → Y3, g_block → Y4, g_exit → Y5, g_ret → Y6, x_c → Y7, x_o → Y8, x_l → Y9, x_b → Ya, g_b → Yb, g_nil → Yc, r_all → Yd, o_nil → Ye, g_cond → Yf, o_guard → Yg, o_call → Yh, o_mv → Yi, o_pick → Yj, o_bin → Yk, o_load → Yl, o_idx → Ym, o_len → Yn, o_row → Yo, o_asg → Yp, o_app → Yq, eqAV → Yr, view_t → Ys, view_c → Yt, view_nil → Yu, view_fn → Yv, look_own → Yw, look_box → Yx, look_junk → Yy, look_val → Yz, look_nilsl → X0, look_ro → X1, look_roAt → X2, look_agg → X3, look_tup → X4, look_clo → X5, look_alias → X6, look_ref → X7, look_into → X8, rowOf → X9, cellsOf → Xa, argv → Xb, vbin → Xc, vun → Xd, bnd → Xe, elemOf → Xf, putParts → Xg, setAt → Xh, zav → Xi, put_at → Xp, mk_at → Xq, mk_nil → Xr, initSt → Xs, wk_cons → Wn, wk_nil → Wo, wk1 → Wp, vint_eq → Wq, vbool_eq → Wr
open Go.Proofs.YtjeemcpdmiajmaaGreatDoor.AV.tup renaming injEq → Zd
open Go.Proofs.YtjeemcpdmiajmaaGreatDoor.AV.agg renaming injEq → Ze
open Go.Proofs.YtjeemcpdmiajmaaGreatDoor.AV.ro renaming injEq → Zf
open _root_.Int renaming toNat_natCast → Zi, reduceToNat → Zj, toNat_zero → Zk, toNat_one → Zl, reduceLE → Zm, reduceLT → Zn, reduceBEq → Zo, reduceBNe → Zp, reduceNeg → Zq
open _root_.List renaming length_map → Zt, map_cons → Xt, map_nil → Xu, forall_mem_cons → Xv, not_mem_nil → Xw, length_cons → Xx, length_nil → Xy, getD_cons_zero → Xz, getD_cons_succ → W0, getD_nil → W1, drop_succ_cons → W2, drop_zero → W3, take_succ_cons → W4, take_zero → W5, set_cons_zero → W6, set_cons_succ → W7, all_cons → W8, all_nil → W9
open Go.Proofs.YtjeemcpdmiajmaaGreatDoor.ASt renaming rid → Xj, free → Xk
open Go.Proofs.YtjeemcpdmiajmaaGreatDoor.AV renaming kill → Xl, isHome → Xm, noLoan → Xn, cellOK → Xo
open _root_.Bool renaming and_true → Wa, true_and → Wb, not_true → Wc, not_false → Wd, false_eq_true → We
open _root_.Nat renaming reduceEqDiff → Wf, reduceAdd → Wg, reduceSub → Wh, reduceMul → Wi, reduceLeDiff → Wj, reduceLT → Wk, one_ne_zero → Wl, zero_ne_one → Wm
open Go.Proofs.YtjeemcpdmiajmaaGreatDoor.AV.val renaming injEq → Ws
set_option linter.unusedSimpArgs false

/-! ### Limbs -/
def oneN (k : Nat) : List AV := [.val (.int .i64 k)]
def valN : List Nat → Nat
  | [] => 0
  | d :: r => d + 10000 * valN r
def digN (l : List Nat) : Prop := ∀ d ∈ l, d < 10000
def lm (n : Nat) : List Nat := if h : n = 0 then [] else (n % 10000) :: lm (n / 10000)
termination_by n
decreasing_by omega
theorem lm_0 : lm 0 = [] := by rw [lm, dif_pos rfl]
theorem lm_pos {n : Nat} (h : n ≠ 0) : lm n = (n % 10000) :: lm (n / 10000) := by rw [lm, dif_neg h]
theorem lm_nil {n : Nat} : lm n = [] ↔ n = 0 := by
  constructor
  · intro h
    by_cases q : n = 0
    · exact q
    · rw [lm_pos q] at h; cases h
  · rintro rfl; exact lm_0
theorem val_lm (n : Nat) : valN (lm n) = n := by
  induction n using Nat.strongRecOn with
  | ind n ih =>
    by_cases q : n = 0
    · subst q; rw [lm_0]; rfl
    · rw [lm_pos q, valN, ih (n / 10000) (by omega)]; omega
theorem dig_lm (n : Nat) : digN (lm n) := by
  induction n using Nat.strongRecOn with
  | ind n ih =>
    by_cases q : n = 0
    · subst q; rw [lm_0]; intro d hd; cases hd
    · rw [lm_pos q]
      intro d hd
      rcases List.mem_cons.1 hd with rfl | hd
      · omega
      · exact ih (n / 10000) (by omega) d hd
theorem last_lm (n : Nat) : ∀ x, (lm n).getLast? = some x → x ≠ 0 := by
  induction n using Nat.strongRecOn with
  | ind n ih =>
    by_cases q : n = 0
    · subst q; rw [lm_0]; intro x hx; cases hx
    · rw [lm_pos q]
      intro x hx
      by_cases z : n / 10000 = 0
      · rw [z, lm_0] at hx
        simp at hx
        omega
      · have hne : lm (n / 10000) ≠ [] := fun e => z (lm_nil.1 e)
        rw [List.getLast?_cons, List.getLast?_eq_some_getLast hne] at hx
        exact ih (n / 10000) (by omega) x (by rw [List.getLast?_eq_some_getLast hne]; simpa using hx)
theorem canon : ∀ {l : List Nat}, digN l → (∀ x, l.getLast? = some x → x ≠ 0) → l = lm (valN l)
  | [], _, _ => by rw [valN, lm_0]
  | d :: r, hd, hl => by
    have h0 := hd d (by simp)
    cases r with
    | nil =>
      have hd0 : d ≠ 0 := hl d rfl
      rw [valN, valN, Nat.mul_zero, Nat.add_zero, lm_pos hd0, Nat.mod_eq_of_lt h0, Nat.div_eq_of_lt h0, lm_0]
    | cons e r =>
      have ih := canon (l := e :: r) (fun x hx => hd x (by simp [hx])) (fun x hx => hl x (by rw [List.getLast?_cons_cons]; exact hx))
      have hv : valN (e :: r) ≠ 0 := fun z => by rw [z, lm_0] at ih; cases ih
      rw [valN]
      generalize valN (e :: r) = v at *
      rw [lm_pos (by omega), show (d + 10000 * v) % 10000 = d by omega, show (d + 10000 * v) / 10000 = v by omega, ← ih]
theorem val_snoc (l : List Nat) (d : Nat) : valN (l ++ [d]) = valN l + d * 10000 ^ l.length := by
  induction l with
  | nil => simp [valN]
  | cons x r ih =>
    rw [List.cons_append, valN, ih, valN, List.length_cons, Nat.pow_succ, Nat.mul_add, Nat.add_assoc]
    congr 2
    rw [← Nat.mul_assoc, Nat.mul_comm 10000 d, Nat.mul_assoc, Nat.mul_comm 10000]
theorem valN_lt : ∀ {l : List Nat}, digN l → valN l < 10000 ^ l.length
  | [], _ => by simp [valN]
  | d :: r, hd => by
    have h0 := hd d (by simp)
    have ih := valN_lt (l := r) (fun x hx => hd x (by simp [hx]))
    rw [valN, List.length_cons, Nat.pow_succ]
    omega
theorem val_split (l : List Nat) (k : Nat) (h : k ≤ l.length) : valN l = valN (l.take k) + 10000 ^ k * valN (l.drop k) := by
  induction k generalizing l with
  | zero => simp [valN]
  | succ k ih =>
    cases l with
    | nil => simp at h
    | cons d r =>
      rw [List.take_succ_cons, List.drop_succ_cons, valN, valN, ih r (by simpa using h), Nat.pow_succ, Nat.mul_add, Nat.add_assoc]
      congr 2
      rw [← Nat.mul_assoc, Nat.mul_comm 10000]
theorem lm_low {n : Nat} (h : n ≠ 0) : 10000 ^ ((lm n).length - 1) ≤ n := by
  have hne : lm n ≠ [] := fun e => h (lm_nil.1 e)
  have hl := last_lm n _ (List.getLast?_eq_some_getLast hne)
  have hv := val_lm n
  rw [← List.dropLast_concat_getLast hne, val_snoc, List.length_dropLast] at hv
  have : 1 * 10000 ^ ((lm n).length - 1) ≤ (lm n).getLast hne * 10000 ^ ((lm n).length - 1) := Nat.mul_le_mul_right _ (by omega)
  omega
theorem len_lt {a b : Nat} (h : (lm a).length < (lm b).length) : a < b := by
  have hb : b ≠ 0 := fun e => by subst e; rw [lm_0] at h; simp at h
  have h1 := valN_lt (dig_lm a)
  rw [val_lm] at h1
  have h2 := lm_low hb
  have h3 : 10000 ^ (lm a).length ≤ 10000 ^ ((lm b).length - 1) := Nat.pow_le_pow_right (by decide) (by omega)
  omega
def cmpN (a b : Nat) : Int := if a < b then -1 else if b < a then 1 else 0
theorem at_lt {l m : List Nat} (hl : digN l) {k : Nat} (h1 : k < l.length) (h2 : k < m.length) (he : l.drop (k + 1) = m.drop (k + 1)) (h : l[k] < m[k]) : valN l < valN m := by
  rw [val_split l k (by omega), val_split m k (by omega), List.drop_eq_getElem_cons h1, List.drop_eq_getElem_cons h2, valN, valN, he]
  have ht := valN_lt (l := l.take k) (fun x hx => hl x (List.mem_of_mem_take hx))
  rw [List.length_take, Nat.min_eq_left (by omega)] at ht
  have : 10000 ^ k * (l[k] + 10000 * valN (m.drop (k + 1))) + 10000 ^ k ≤ 10000 ^ k * (m[k] + 10000 * valN (m.drop (k + 1))) := by
    rw [← Nat.mul_succ]
    exact Nat.mul_le_mul_left _ (by omega)
  omega
/-! headend/headendref1.trim -/
def r72_0 : List POp := [⟨2, .asg .nil, none⟩]
def r72_1 : List POp := [⟨4, .mv (.t 0), none⟩,
  ⟨5, .len (.t 4), none⟩,
  ⟨3, .asg (.t 5), none⟩]
def r72_2 : List POp := [⟨6, .mv (.t 3), none⟩,
  ⟨7, .bin .gtr (.t 6) (.c (.int .i64 0)), none⟩,
  ⟨8, .mv (.t 7), none⟩,
  ⟨9, .mv (.t 0), some (8, true)⟩,
  ⟨10, .mv (.t 3), some (8, true)⟩,
  ⟨11, .bin .sub (.t 10) (.c (.int .i64 1)), some (8, true)⟩,
  ⟨12, .idx 1 (.t 9) (.t 11), some (8, true)⟩,
  ⟨13, .load (.t 12), some (8, true)⟩,
  ⟨14, .bin .eql (.t 13) (.c (.int .i64 0)), some (8, true)⟩,
  ⟨15, .pick (.t 8) (.t 14) (.c (.bool false)), none⟩]
def r72_3 : List POp := [⟨16, .mv (.t 3), none⟩,
  ⟨17, .bin .sub (.t 16) (.c (.int .i64 1)), none⟩,
  ⟨3, .asg (.t 17), none⟩]
def r72_4 : List POp := [⟨18, .mv (.t 0), none⟩,
  ⟨19, .mv (.t 3), none⟩,
  ⟨20, .slc none (some (.t 19)) 1 (.t 18), none⟩,
  ⟨2, .asg (.t 20), none⟩]
def l72_0 : PCode := .seq (.seq (.ops r72_2) (.cond (.t 15) (.skip) (.exit 0))) (.block 1 (.ops r72_3))
def p72 : PCode := .seq (.ops r72_0) (.seq (.ops r72_1) (.seq (.block 0 (.loop l72_0)) (.seq (.ops r72_4) (.ret))))
theorem ok72 : okFunc Tryz.prog 72 [.t 2] 1 p72 = true := by kernel_rfl
theorem trim_c (l : List Nat) (hd : digN l) (hl : l.length ≤ 1000000) : CallOK Tryz.prog 72 [.ro (l.map oneN)] (.ro ((lm (valN l)).map oneN)) := by
  refine call_of mixed ok72 rfl ?_
  repeat' first | ((with_reducible (first | refine condD ?_ ?_ | refine condE ?_ ?_ | refine condN ?_ ?_ | refine condI ?_ ?_ | refine condS ?_ ?_)) <;> intro h) | ((with_reducible (first | refine guardD (by with_unfolding_all rfl) ?_ ?_ | refine guardE (by with_unfolding_all rfl) ?_ ?_ | refine guardN (by with_unfolding_all rfl) ?_ ?_ | refine guardI (by with_unfolding_all rfl) ?_ ?_ | refine guardS (by with_unfolding_all rfl) ?_ ?_)) <;> intro h) | (with_reducible refine And.intro ?_ ?_; omega) | (simp only [Z0,Z1,Z2,Z3,Z4,Z5,Z6,Z7,Z8,Z9,Za,Zb,Zc,Zd,Ze,Zf,List.cons.injEq,Zg,Zh,Zi,Zj,Zk,Zl,Zm,Zn,Zo,Zp,beq_self_eq_true,bne_self_eq_false,decide_true,decide_false,Zq,Zr,Zs,Zt,Zu,Zv,Zw,Zx,Zy,Zz,Y0,Y1,Y2,Y3,Y4,Y5,Y6,Y7,Y8,Y9,Ya,Yb,Yc,Yd,Ye,Yf,Yg,lk,ef,Yi,Yj,Yk,Yl,Ym,Yn,o_slc,Yp,hv,Yr,ev,Ys,Yt,Yu,Yv,Yw,Yx,Yy,Yz,X0,X1,X2,X3,X4,X5,X6,X7,X8,X9,Xa,Xb,Xc,Xd,Xe,Xf,Xg,Xh,Xi,Xj,Xk,Xl,Xm,Xn,Xo,Value.oneCell',Xp,Xq,Xr,Xs,true_and,and_true,and_self,implies_true,Xt,Xu,Xv,Xw,false_implies,Xx,Xy,Xz,W0,W1,W2,W3,W4,W5,W6,W7,W8,W9,Wa,Wb,Wc,Wd,reduceCtorEq,if_true,if_false,We,↓reduceIte,Wf,Wg,Wh,Wi,Wj,Wk,ne_eq,not_false_eq_true,not_true_eq_false,Wl,Wm,r72_0,r72_1,r72_2,r72_3,r72_4,p72,List.length_map]) | (exfalso; omega)
  refine loopS (fun k : Nat => mk [(0, .ro (l.map oneN)), (3, .val (.int .i64 k))]) (fun k => k ≤ l.length ∧ valN (l.take k) = valN l) (fun k => k) l.length (weak_mk ?_) ⟨Nat.le_refl _, by rw [List.take_length]⟩ ?_
  · simp only [Wn,Wo,Wp,Wq,Wr,Ws,Z4,Z5,Z6,Z7,Z8,Z9,Za,Zb,Zc,Zd,Ze,Zf,List.cons.injEq,Zg,Zh,Zi,Zj,Zk,Zl,Zm,Zn,Zo,Zp,beq_self_eq_true,bne_self_eq_false,decide_true,decide_false,Zq,Zr,Zs,Zt,Zu,Zv,Zw,Zx,Zy,Zz,Y0,hv,Yr,ev,Ys,Yt,Yu,Yv,Yw,Yx,Yy,Yz,X0,X1,X2,X3,X4,X5,X6,X7,X8,X9,Xa,Xb,Xc,Xd,Xe,Xf,Xg,Xh,Xi,Xj,Xk,Xl,Xm,Xn,Xo,Value.oneCell',Xp,Xq,Xr,Xs,true_and,and_true,and_self,implies_true,Xt,Xu,Xv,Xw,false_implies,Xx,Xy,Xz,W0,W1,W2,W3,W4,W5,W6,W7,W8,W9,Wa,Wb,Wc,Wd,reduceCtorEq,if_true,if_false,We,↓reduceIte,Wf,Wg,Wh,Wi,Wj,Wk,ne_eq,not_false_eq_true,not_true_eq_false,Wl,Nat.zero_ne_one]
  rintro J hJ k ⟨hk, hv'⟩
  have hend : (∀ x, (l.take k).getLast? = some x → x ≠ 0) → (l.map oneN).take k = (lm (valN l)).map oneN := fun q => by
    rw [← List.map_take, ← hv', ← canon (fun x hx => hd x (List.mem_of_mem_take hx)) q]
  have hone : (∀ x ∈ l.map oneN, x.length = 1) = True := eq_true fun x hx => by
    obtain ⟨n, _, rfl⟩ := List.mem_map.1 hx
    rfl
  have hkk : (0 : Int) ≤ (k : Int) := by omega
  by_cases hk0 : k = 0
  · have hki : ¬ (0 : Int) < k := by omega
    have hend := hend (fun x hx => by rw [hk0] at hx; simp at hx)
    clear hJ
    repeat' first | ((with_reducible (first | refine condD ?_ ?_ | refine condE ?_ ?_ | refine condN ?_ ?_ | refine condI ?_ ?_ | refine condS ?_ ?_)) <;> intro h) | ((with_reducible (first | refine guardD (by with_unfolding_all rfl) ?_ ?_ | refine guardE (by with_unfolding_all rfl) ?_ ?_ | refine guardN (by with_unfolding_all rfl) ?_ ?_ | refine guardI (by with_unfolding_all rfl) ?_ ?_ | refine guardS (by with_unfolding_all rfl) ?_ ?_)) <;> intro h) | (with_reducible refine And.intro ?_ ?_; omega) | (simp only [Z0,Z1,Z2,Z3,Z4,Z5,Z6,Z7,Z8,Z9,Za,Zb,Zc,Zd,Ze,Zf,List.cons.injEq,Zg,Zh,Zi,Zj,Zk,Zl,Zm,Zn,Zo,Zp,beq_self_eq_true,bne_self_eq_false,decide_true,decide_false,Zq,Zr,Zs,Zt,Zu,Zv,Zw,Zx,Zy,Zz,Y0,Y1,Y2,Y3,Y4,Y5,Y6,Y7,Y8,Y9,Ya,Yb,Yc,Yd,Ye,Yf,Yg,lk,ef,Yi,Yj,Yk,Yl,Ym,Yn,o_slc,Yp,hv,Yr,ev,Ys,Yt,Yu,Yv,Yw,Yx,Yy,Yz,X0,X1,X2,X3,X4,X5,X6,X7,X8,X9,Xa,Xb,Xc,Xd,Xe,Xf,Xg,Xh,Xi,Xj,Xk,Xl,Xm,Xn,Xo,Value.oneCell',Xp,Xq,Xr,Xs,true_and,and_true,and_self,implies_true,Xt,Xu,Xv,Xw,false_implies,Xx,Xy,Xz,W0,W1,W2,W3,W4,W5,W6,W7,W8,W9,Wa,Wb,Wc,Wd,reduceCtorEq,if_true,if_false,We,↓reduceIte,Wf,Wg,Wh,Wi,Wj,Wk,ne_eq,not_false_eq_true,not_true_eq_false,Wl,Wm,r72_0,r72_1,r72_2,r72_3,r72_4,p72,l72_0,hki,hend,hone,hk,hkk,Zt,Nat.zero_le]) | (exfalso; omega)
  have hki : (0 : Int) < k := by omega
  have hlt : k - 1 < l.length := by omega
  have hw : IntKind.i64.wrap ((k : Int) - 1) = ((k - 1 : Nat) : Int) := by rw [wrap_in (by omega) (by omega)]; omega
  have gK := getD_map (f := oneN) (d := []) hlt
  simp only [oneN] at gK
  have hsn : l.take k = l.take (k - 1) ++ [l[k - 1]] := by
    have := List.take_succ_eq_append_getElem hlt
    rw [show k - 1 + 1 = k by omega] at this
    exact this
  have h0 : (0 : Int) ≤ ((k - 1 : Nat) : Int) := by omega
  have h1 : ((k - 1 : Nat) : Int) < l.length := by omega
  by_cases hz : l[k - 1] = 0
  · have hzi : (((l[k - 1] : Nat) : Int) == 0) = true := by rw [hz]; rfl
    repeat' first | ((with_reducible (first | refine condD ?_ ?_ | refine condE ?_ ?_ | refine condN ?_ ?_ | refine condI ?_ ?_ | refine condS ?_ ?_)) <;> intro h) | ((with_reducible (first | refine guardD (by with_unfolding_all rfl) ?_ ?_ | refine guardE (by with_unfolding_all rfl) ?_ ?_ | refine guardN (by with_unfolding_all rfl) ?_ ?_ | refine guardI (by with_unfolding_all rfl) ?_ ?_ | refine guardS (by with_unfolding_all rfl) ?_ ?_)) <;> intro h) | (with_reducible refine And.intro ?_ ?_; omega) | (simp only [Z0,Z1,Z2,Z3,Z4,Z5,Z6,Z7,Z8,Z9,Za,Zb,Zc,Zd,Ze,Zf,List.cons.injEq,Zg,Zh,Zi,Zj,Zk,Zl,Zm,Zn,Zo,Zp,beq_self_eq_true,bne_self_eq_false,decide_true,decide_false,Zq,Zr,Zs,Zt,Zu,Zv,Zw,Zx,Zy,Zz,Y0,Y1,Y2,Y3,Y4,Y5,Y6,Y7,Y8,Y9,Ya,Yb,Yc,Yd,Ye,Yf,Yg,lk,ef,Yi,Yj,Yk,Yl,Ym,Yn,o_slc,Yp,hv,Yr,ev,Ys,Yt,Yu,Yv,Yw,Yx,Yy,Yz,X0,X1,X2,X3,X4,X5,X6,X7,X8,X9,Xa,Xb,Xc,Xd,Xe,Xf,Xg,Xh,Xi,Xj,Xk,Xl,Xm,Xn,Xo,Value.oneCell',Xp,Xq,Xr,Xs,true_and,and_true,and_self,implies_true,Xt,Xu,Xv,Xw,false_implies,Xx,Xy,Xz,W0,W1,W2,W3,W4,W5,W6,W7,W8,W9,Wa,Wb,Wc,Wd,reduceCtorEq,if_true,if_false,We,↓reduceIte,Wf,Wg,Wh,Wi,Wj,Wk,ne_eq,not_false_eq_true,not_true_eq_false,Wl,Wm,r72_0,r72_1,r72_2,r72_3,r72_4,p72,l72_0,hki,hw,gK,hzi,h0,h1,List.length_map]) | (exfalso; omega)
    all_goals first | omega | exact again hJ (k - 1) (weak_mk (by simp only [Wn,Wo,Wp,Wq,Wr,Ws,Z4,Z5,Z6,Z7,Z8,Z9,Za,Zb,Zc,Zd,Ze,Zf,List.cons.injEq,Zg,Zh,Zi,Zj,Zk,Zl,Zm,Zn,Zo,Zp,beq_self_eq_true,bne_self_eq_false,decide_true,decide_false,Zq,Zr,Zs,Zt,Zu,Zv,Zw,Zx,Zy,Zz,Y0,hv,Yr,ev,Ys,Yt,Yu,Yv,Yw,Yx,Yy,Yz,X0,X1,X2,X3,X4,X5,X6,X7,X8,X9,Xa,Xb,Xc,Xd,Xe,Xf,Xg,Xh,Xi,Xj,Xk,Xl,Xm,Xn,Xo,Value.oneCell',Xp,Xq,Xr,Xs,true_and,and_true,and_self,implies_true,Xt,Xu,Xv,Xw,false_implies,Xx,Xy,Xz,W0,W1,W2,W3,W4,W5,W6,W7,W8,W9,Wa,Wb,Wc,Wd,reduceCtorEq,if_true,if_false,We,↓reduceIte,Wf,Wg,Wh,Wi,Wj,Wk,ne_eq,not_false_eq_true,not_true_eq_false,Wl,Nat.zero_ne_one])) ⟨by omega, by rw [← hv', hsn, val_snoc, hz, Nat.zero_mul, Nat.add_zero]⟩ (by omega)
  · have hzi : (((l[k - 1] : Nat) : Int) == 0) = false := by rw [beq_eq_false_iff_ne]; omega
    have hend := hend (fun x hx => by rw [hsn, List.getLast?_concat] at hx; cases hx; exact hz)
    clear hJ
    repeat' first | ((with_reducible (first | refine condD ?_ ?_ | refine condE ?_ ?_ | refine condN ?_ ?_ | refine condI ?_ ?_ | refine condS ?_ ?_)) <;> intro h) | ((with_reducible (first | refine guardD (by with_unfolding_all rfl) ?_ ?_ | refine guardE (by with_unfolding_all rfl) ?_ ?_ | refine guardN (by with_unfolding_all rfl) ?_ ?_ | refine guardI (by with_unfolding_all rfl) ?_ ?_ | refine guardS (by with_unfolding_all rfl) ?_ ?_)) <;> intro h) | (with_reducible refine And.intro ?_ ?_; omega) | (simp only [Z0,Z1,Z2,Z3,Z4,Z5,Z6,Z7,Z8,Z9,Za,Zb,Zc,Zd,Ze,Zf,List.cons.injEq,Zg,Zh,Zi,Zj,Zk,Zl,Zm,Zn,Zo,Zp,beq_self_eq_true,bne_self_eq_false,decide_true,decide_false,Zq,Zr,Zs,Zt,Zu,Zv,Zw,Zx,Zy,Zz,Y0,Y1,Y2,Y3,Y4,Y5,Y6,Y7,Y8,Y9,Ya,Yb,Yc,Yd,Ye,Yf,Yg,lk,ef,Yi,Yj,Yk,Yl,Ym,Yn,o_slc,Yp,hv,Yr,ev,Ys,Yt,Yu,Yv,Yw,Yx,Yy,Yz,X0,X1,X2,X3,X4,X5,X6,X7,X8,X9,Xa,Xb,Xc,Xd,Xe,Xf,Xg,Xh,Xi,Xj,Xk,Xl,Xm,Xn,Xo,Value.oneCell',Xp,Xq,Xr,Xs,true_and,and_true,and_self,implies_true,Xt,Xu,Xv,Xw,false_implies,Xx,Xy,Xz,W0,W1,W2,W3,W4,W5,W6,W7,W8,W9,Wa,Wb,Wc,Wd,reduceCtorEq,if_true,if_false,We,↓reduceIte,Wf,Wg,Wh,Wi,Wj,Wk,ne_eq,not_false_eq_true,not_true_eq_false,Wl,Wm,r72_0,r72_1,r72_2,r72_3,r72_4,p72,l72_0,hki,hw,gK,hzi,h0,h1,hend,hone,hk,hkk,Zt,Nat.zero_le]) | (exfalso; omega)
/-! headend/headendref1.compare -/
def r61_0 : List POp := [⟨4, .asg (.c (.int .i64 0)), none⟩]
def r61_1 : List POp := [⟨6, .mv (.t 0), none⟩,
  ⟨7, .len (.t 6), none⟩,
  ⟨8, .mv (.t 1), none⟩,
  ⟨9, .len (.t 8), none⟩,
  ⟨10, .bin .neq (.t 7) (.t 9), none⟩]
def r61_2 : List POp := [⟨11, .mv (.t 0), none⟩,
  ⟨12, .len (.t 11), none⟩,
  ⟨13, .mv (.t 1), none⟩,
  ⟨14, .len (.t 13), none⟩,
  ⟨15, .bin .lss (.t 12) (.t 14), none⟩]
def r61_3 : List POp := [⟨4, .asg (.c (.int .i64 (-1))), none⟩]
def r61_4 : List POp := [⟨4, .asg (.c (.int .i64 1)), none⟩]
def r61_5 : List POp := [⟨16, .mv (.t 0), none⟩,
  ⟨17, .len (.t 16), none⟩,
  ⟨18, .bin .sub (.t 17) (.c (.int .i64 1)), none⟩,
  ⟨5, .asg (.t 18), none⟩]
def r61_6 : List POp := [⟨19, .mv (.t 5), none⟩,
  ⟨20, .bin .geq (.t 19) (.c (.int .i64 0)), none⟩]
def r61_8 : List POp := [⟨23, .mv (.t 0), none⟩,
  ⟨24, .mv (.t 5), none⟩,
  ⟨25, .idx 1 (.t 23) (.t 24), none⟩,
  ⟨26, .load (.t 25), none⟩,
  ⟨27, .mv (.t 1), none⟩,
  ⟨28, .mv (.t 5), none⟩,
  ⟨29, .idx 1 (.t 27) (.t 28), none⟩,
  ⟨30, .load (.t 29), none⟩,
  ⟨31, .bin .lss (.t 26) (.t 30), none⟩]
def r61_9 : List POp := [⟨4, .asg (.c (.int .i64 (-1))), none⟩]
def r61_10 : List POp := [⟨32, .mv (.t 0), none⟩,
  ⟨33, .mv (.t 5), none⟩,
  ⟨34, .idx 1 (.t 32) (.t 33), none⟩,
  ⟨35, .load (.t 34), none⟩,
  ⟨36, .mv (.t 1), none⟩,
  ⟨37, .mv (.t 5), none⟩,
  ⟨38, .idx 1 (.t 36) (.t 37), none⟩,
  ⟨39, .load (.t 38), none⟩,
  ⟨40, .bin .gtr (.t 35) (.t 39), none⟩]
def r61_11 : List POp := [⟨4, .asg (.c (.int .i64 1)), none⟩]
def r61_7 : List POp := [⟨21, .mv (.t 5), none⟩,
  ⟨22, .bin .sub (.t 21) (.c (.int .i64 1)), none⟩,
  ⟨5, .asg (.t 22), none⟩]
def r61_12 : List POp := [⟨4, .asg (.c (.int .i64 0)), none⟩]
def l61_0 : PCode := .seq (.seq (.ops r61_6) (.cond (.t 20) (.skip) (.exit 0))) (.seq (.block 1 (.seq (.seq (.ops r61_8) (.cond (.t 31) (.seq (.ops r61_9) (.ret)) (.skip))) (.seq (.ops r61_10) (.cond (.t 40) (.seq (.ops r61_11) (.ret)) (.skip))))) (.ops r61_7))
def p61 : PCode := .seq (.ops r61_0) (.seq (.seq (.ops r61_1) (.cond (.t 10) (.seq (.seq (.ops r61_2) (.cond (.t 15) (.seq (.ops r61_3) (.ret)) (.skip))) (.seq (.ops r61_4) (.ret))) (.skip))) (.seq (.seq (.ops r61_5) (.block 0 (.loop l61_0))) (.seq (.ops r61_12) (.ret))))
theorem ok61 : okFunc Tryz.prog 61 [.t 4] 2 p61 = true := by kernel_rfl
theorem compare_c (a b : Nat) (ha : (lm a).length ≤ 1000000) : CallOK Tryz.prog 61 [.ro ((lm a).map oneN), .ro ((lm b).map oneN)] (.val (.int .i64 (cmpN a b))) := by
  refine call_of mixed ok61 rfl ?_
  by_cases hl : (lm a).length = (lm b).length
  case neg =>
    have e : (((lm a).length : Int) != (lm b).length) = true := by rw [bne_iff_ne]; omega
    by_cases hlt : (lm a).length < (lm b).length
    · have hi : ((lm a).length : Int) < (lm b).length := by omega
      rw [show cmpN a b = -1 from if_pos (len_lt hlt)]
      repeat' first | ((with_reducible (first | refine condD ?_ ?_ | refine condE ?_ ?_ | refine condN ?_ ?_ | refine condI ?_ ?_ | refine condS ?_ ?_)) <;> intro h) | (with_reducible refine And.intro ?_ ?_; omega) | (simp only [Z0,Z1,Z2,Z3,Z4,Z5,Z6,Z7,Z8,Z9,Za,Zb,Zc,Zd,Ze,Zf,List.cons.injEq,Zg,Zh,Zi,Zj,Zk,Zl,Zm,Zn,Zo,Zp,beq_self_eq_true,bne_self_eq_false,decide_true,decide_false,Zq,Zr,Zs,Zt,Zu,Zv,Zw,Zx,Zy,Zz,Y0,Y1,Y2,Y3,Y4,Y5,Y6,Y7,Y8,Y9,Ya,Yb,Yc,Yd,Ye,Yf,Yg,lk,ef,Yi,Yk,Yl,Ym,Yn,Yp,hv,Yr,ev,Ys,Yt,Yu,Yv,Yw,Yx,Yy,Yz,X0,X1,X2,X3,X4,X5,X6,X7,X8,X9,Xa,Xb,Xc,Xd,Xe,Xf,Xg,Xh,Xi,Xj,Xk,Xl,Xm,Xn,Xo,Value.oneCell',Xp,Xq,Xr,Xs,true_and,and_true,and_self,implies_true,Xt,Xu,Xv,Xw,false_implies,Xx,Xy,Xz,W0,W1,W2,W3,W4,W5,W6,W7,W8,W9,Wa,Wb,Wc,Wd,reduceCtorEq,if_true,if_false,We,↓reduceIte,Wf,Wg,Wh,Wi,Wj,Wk,ne_eq,not_false_eq_true,not_true_eq_false,Wl,Wm,r61_0,r61_1,r61_2,r61_3,r61_4,r61_5,r61_6,r61_8,r61_9,r61_10,r61_11,r61_7,r61_12,p61,e,hi,List.length_map]) | (exfalso; omega)
    · have hi : ¬ ((lm a).length : Int) < (lm b).length := by omega
      have := len_lt (a := b) (b := a) (by omega)
      rw [show cmpN a b = 1 from by rw [cmpN, if_neg (by omega), if_pos this]]
      repeat' first | ((with_reducible (first | refine condD ?_ ?_ | refine condE ?_ ?_ | refine condN ?_ ?_ | refine condI ?_ ?_ | refine condS ?_ ?_)) <;> intro h) | (with_reducible refine And.intro ?_ ?_; omega) | (simp only [Z0,Z1,Z2,Z3,Z4,Z5,Z6,Z7,Z8,Z9,Za,Zb,Zc,Zd,Ze,Zf,List.cons.injEq,Zg,Zh,Zi,Zj,Zk,Zl,Zm,Zn,Zo,Zp,beq_self_eq_true,bne_self_eq_false,decide_true,decide_false,Zq,Zr,Zs,Zt,Zu,Zv,Zw,Zx,Zy,Zz,Y0,Y1,Y2,Y3,Y4,Y5,Y6,Y7,Y8,Y9,Ya,Yb,Yc,Yd,Ye,Yf,Yg,lk,ef,Yi,Yk,Yl,Ym,Yn,Yp,hv,Yr,ev,Ys,Yt,Yu,Yv,Yw,Yx,Yy,Yz,X0,X1,X2,X3,X4,X5,X6,X7,X8,X9,Xa,Xb,Xc,Xd,Xe,Xf,Xg,Xh,Xi,Xj,Xk,Xl,Xm,Xn,Xo,Value.oneCell',Xp,Xq,Xr,Xs,true_and,and_true,and_self,implies_true,Xt,Xu,Xv,Xw,false_implies,Xx,Xy,Xz,W0,W1,W2,W3,W4,W5,W6,W7,W8,W9,Wa,Wb,Wc,Wd,reduceCtorEq,if_true,if_false,We,↓reduceIte,Wf,Wg,Wh,Wi,Wj,Wk,ne_eq,not_false_eq_true,not_true_eq_false,Wl,Wm,r61_0,r61_1,r61_2,r61_3,r61_4,r61_5,r61_6,r61_8,r61_9,r61_10,r61_11,r61_7,r61_12,p61,e,hi,List.length_map]) | (exfalso; omega)
  have e : (((lm a).length : Int) != (lm b).length) = false := by simp [hl]
  have va := val_lm a
  have vb := val_lm b
  have da := dig_lm a
  have db := dig_lm b
  obtain ⟨R, hR⟩ : ∃ R, cmpN a b = R := ⟨_, rfl⟩
  rw [hR]
  generalize lm a = A at *
  generalize lm b = B at *
  have w0 : IntKind.i64.wrap ((A.length : Int) - 1) = (A.length : Int) - 1 := wrap_in (by omega) (by omega)
  repeat' first | ((with_reducible (first | refine condD ?_ ?_ | refine condE ?_ ?_ | refine condN ?_ ?_ | refine condI ?_ ?_ | refine condS ?_ ?_)) <;> intro h) | (with_reducible refine And.intro ?_ ?_; omega) | (simp only [Z0,Z1,Z2,Z3,Z4,Z5,Z6,Z7,Z8,Z9,Za,Zb,Zc,Zd,Ze,Zf,List.cons.injEq,Zg,Zh,Zi,Zj,Zk,Zl,Zm,Zn,Zo,Zp,beq_self_eq_true,bne_self_eq_false,decide_true,decide_false,Zq,Zr,Zs,Zt,Zu,Zv,Zw,Zx,Zy,Zz,Y0,Y1,Y2,Y3,Y4,Y5,Y6,Y7,Y8,Y9,Ya,Yb,Yc,Yd,Ye,Yf,Yg,lk,ef,Yi,Yk,Yl,Ym,Yn,Yp,hv,Yr,ev,Ys,Yt,Yu,Yv,Yw,Yx,Yy,Yz,X0,X1,X2,X3,X4,X5,X6,X7,X8,X9,Xa,Xb,Xc,Xd,Xe,Xf,Xg,Xh,Xi,Xj,Xk,Xl,Xm,Xn,Xo,Value.oneCell',Xp,Xq,Xr,Xs,true_and,and_true,and_self,implies_true,Xt,Xu,Xv,Xw,false_implies,Xx,Xy,Xz,W0,W1,W2,W3,W4,W5,W6,W7,W8,W9,Wa,Wb,Wc,Wd,reduceCtorEq,if_true,if_false,We,↓reduceIte,Wf,Wg,Wh,Wi,Wj,Wk,ne_eq,not_false_eq_true,not_true_eq_false,Wl,Wm,r61_0,r61_1,r61_2,r61_3,r61_4,r61_5,r61_6,r61_8,r61_9,r61_10,r61_11,r61_7,r61_12,p61,e,w0,List.length_map]) | (exfalso; omega)
  refine loopS (fun k : Nat => mk [(0, .ro (A.map oneN)), (1, .ro (B.map oneN)), (5, .val (.int .i64 ((k : Int) - 1)))]) (fun k => k ≤ A.length ∧ A.drop k = B.drop k) (fun k => k) A.length (weak_mk ?_) ⟨Nat.le_refl _, by rw [List.drop_length, hl, List.drop_length]⟩ ?_
  · simp only [Wn,Wo,Wp,Wq,Wr,Ws,Z4,Z5,Z6,Z7,Z8,Z9,Za,Zb,Zc,Zd,Ze,Zf,List.cons.injEq,Zg,Zh,Zi,Zj,Zk,Zl,Zm,Zn,Zo,Zp,beq_self_eq_true,bne_self_eq_false,decide_true,decide_false,Zq,Zr,Zs,Zt,Zu,Zv,Zw,Zx,Zy,Zz,Y0,hv,Yr,ev,Ys,Yt,Yu,Yv,Yw,Yx,Yy,Yz,X0,X1,X2,X3,X4,X5,X6,X7,X8,X9,Xa,Xb,Xc,Xd,Xe,Xf,Xg,Xh,Xi,Xj,Xk,Xl,Xm,Xn,Xo,Value.oneCell',Xp,Xq,Xr,Xs,true_and,and_true,and_self,implies_true,Xt,Xu,Xv,Xw,false_implies,Xx,Xy,Xz,W0,W1,W2,W3,W4,W5,W6,W7,W8,W9,Wa,Wb,Wc,Wd,reduceCtorEq,if_true,if_false,We,↓reduceIte,Wf,Wg,Wh,Wi,Wj,Wk,ne_eq,not_false_eq_true,not_true_eq_false,Wl,Nat.zero_ne_one]
  rintro J hJ k ⟨hk, hdr⟩
  by_cases hk0 : k = 0
  · have hki : ¬ (0 : Int) ≤ (k : Int) - 1 := by omega
    rw [hk0, List.drop_zero, List.drop_zero] at hdr
    have hab : a = b := by rw [← va, ← vb, hdr]
    have hR0 : R = 0 := by rw [← hR, hab]; simp [cmpN]
    subst hR0
    clear hJ
    repeat' first | ((with_reducible (first | refine condD ?_ ?_ | refine condE ?_ ?_ | refine condN ?_ ?_ | refine condI ?_ ?_ | refine condS ?_ ?_)) <;> intro h) | (with_reducible refine And.intro ?_ ?_; omega) | (simp only [Z0,Z1,Z2,Z3,Z4,Z5,Z6,Z7,Z8,Z9,Za,Zb,Zc,Zd,Ze,Zf,List.cons.injEq,Zg,Zh,Zi,Zj,Zk,Zl,Zm,Zn,Zo,Zp,beq_self_eq_true,bne_self_eq_false,decide_true,decide_false,Zq,Zr,Zs,Zt,Zu,Zv,Zw,Zx,Zy,Zz,Y0,Y1,Y2,Y3,Y4,Y5,Y6,Y7,Y8,Y9,Ya,Yb,Yc,Yd,Ye,Yf,Yg,lk,ef,Yi,Yk,Yl,Ym,Yn,Yp,hv,Yr,ev,Ys,Yt,Yu,Yv,Yw,Yx,Yy,Yz,X0,X1,X2,X3,X4,X5,X6,X7,X8,X9,Xa,Xb,Xc,Xd,Xe,Xf,Xg,Xh,Xi,Xj,Xk,Xl,Xm,Xn,Xo,Value.oneCell',Xp,Xq,Xr,Xs,true_and,and_true,and_self,implies_true,Xt,Xu,Xv,Xw,false_implies,Xx,Xy,Xz,W0,W1,W2,W3,W4,W5,W6,W7,W8,W9,Wa,Wb,Wc,Wd,reduceCtorEq,if_true,if_false,We,↓reduceIte,Wf,Wg,Wh,Wi,Wj,Wk,ne_eq,not_false_eq_true,not_true_eq_false,Wl,Wm,r61_0,r61_1,r61_2,r61_3,r61_4,r61_5,r61_6,r61_8,r61_9,r61_10,r61_11,r61_7,r61_12,p61,l61_0,hki]) | (exfalso; omega)
  obtain ⟨j, rfl⟩ : ∃ j, k = j + 1 := ⟨k - 1, by omega⟩
  have hj1 : j < A.length := by omega
  have hj2 : j < B.length := by omega
  have ej : ((j + 1 : Nat) : Int) - 1 = (j : Int) := by omega
  have hki : (0 : Int) ≤ (j : Int) := by omega
  have i1 : (j : Int) < A.length := by omega
  have i2 : (j : Int) < B.length := by omega
  have wj : IntKind.i64.wrap ((j : Int) - 1) = (j : Int) - 1 := wrap_in (by omega) (by omega)
  have gA := getD_map (f := oneN) (d := []) hj1
  have gB := getD_map (f := oneN) (d := []) hj2
  simp only [oneN] at gA gB
  by_cases h1 : A[j] < B[j]
  · have h1i : ((A[j] : Nat) : Int) < (B[j] : Nat) := by omega
    have hlt := at_lt da hj1 hj2 hdr h1
    rw [va, vb] at hlt
    have hR1 : R = -1 := by rw [← hR]; exact if_pos hlt
    subst hR1
    clear hJ
    repeat' first | ((with_reducible (first | refine condD ?_ ?_ | refine condE ?_ ?_ | refine condN ?_ ?_ | refine condI ?_ ?_ | refine condS ?_ ?_)) <;> intro h) | (with_reducible refine And.intro ?_ ?_; omega) | (simp only [Z0,Z1,Z2,Z3,Z4,Z5,Z6,Z7,Z8,Z9,Za,Zb,Zc,Zd,Ze,Zf,List.cons.injEq,Zg,Zh,Zi,Zj,Zk,Zl,Zm,Zn,Zo,Zp,beq_self_eq_true,bne_self_eq_false,decide_true,decide_false,Zq,Zr,Zs,Zt,Zu,Zv,Zw,Zx,Zy,Zz,Y0,Y1,Y2,Y3,Y4,Y5,Y6,Y7,Y8,Y9,Ya,Yb,Yc,Yd,Ye,Yf,Yg,lk,ef,Yi,Yk,Yl,Ym,Yn,Yp,hv,Yr,ev,Ys,Yt,Yu,Yv,Yw,Yx,Yy,Yz,X0,X1,X2,X3,X4,X5,X6,X7,X8,X9,Xa,Xb,Xc,Xd,Xe,Xf,Xg,Xh,Xi,Xj,Xk,Xl,Xm,Xn,Xo,Value.oneCell',Xp,Xq,Xr,Xs,true_and,and_true,and_self,implies_true,Xt,Xu,Xv,Xw,false_implies,Xx,Xy,Xz,W0,W1,W2,W3,W4,W5,W6,W7,W8,W9,Wa,Wb,Wc,Wd,reduceCtorEq,if_true,if_false,We,↓reduceIte,Wf,Wg,Wh,Wi,Wj,Wk,ne_eq,not_false_eq_true,not_true_eq_false,Wl,Wm,r61_0,r61_1,r61_2,r61_3,r61_4,r61_5,r61_6,r61_8,r61_9,r61_10,r61_11,r61_7,r61_12,p61,l61_0,ej,hki,i1,i2,gA,gB,h1i,List.length_map]) | (exfalso; omega)
  have h1i : ¬ ((A[j] : Nat) : Int) < (B[j] : Nat) := by omega
  by_cases h2 : B[j] < A[j]
  · have h2i : ((B[j] : Nat) : Int) < (A[j] : Nat) := by omega
    have hlt := at_lt db hj2 hj1 hdr.symm h2
    rw [va, vb] at hlt
    have hR1 : R = 1 := by rw [← hR, cmpN, if_neg (by omega), if_pos hlt]
    subst hR1
    clear hJ
    repeat' first | ((with_reducible (first | refine condD ?_ ?_ | refine condE ?_ ?_ | refine condN ?_ ?_ | refine condI ?_ ?_ | refine condS ?_ ?_)) <;> intro h) | (with_reducible refine And.intro ?_ ?_; omega) | (simp only [Z0,Z1,Z2,Z3,Z4,Z5,Z6,Z7,Z8,Z9,Za,Zb,Zc,Zd,Ze,Zf,List.cons.injEq,Zg,Zh,Zi,Zj,Zk,Zl,Zm,Zn,Zo,Zp,beq_self_eq_true,bne_self_eq_false,decide_true,decide_false,Zq,Zr,Zs,Zt,Zu,Zv,Zw,Zx,Zy,Zz,Y0,Y1,Y2,Y3,Y4,Y5,Y6,Y7,Y8,Y9,Ya,Yb,Yc,Yd,Ye,Yf,Yg,lk,ef,Yi,Yk,Yl,Ym,Yn,Yp,hv,Yr,ev,Ys,Yt,Yu,Yv,Yw,Yx,Yy,Yz,X0,X1,X2,X3,X4,X5,X6,X7,X8,X9,Xa,Xb,Xc,Xd,Xe,Xf,Xg,Xh,Xi,Xj,Xk,Xl,Xm,Xn,Xo,Value.oneCell',Xp,Xq,Xr,Xs,true_and,and_true,and_self,implies_true,Xt,Xu,Xv,Xw,false_implies,Xx,Xy,Xz,W0,W1,W2,W3,W4,W5,W6,W7,W8,W9,Wa,Wb,Wc,Wd,reduceCtorEq,if_true,if_false,We,↓reduceIte,Wf,Wg,Wh,Wi,Wj,Wk,ne_eq,not_false_eq_true,not_true_eq_false,Wl,Wm,r61_0,r61_1,r61_2,r61_3,r61_4,r61_5,r61_6,r61_8,r61_9,r61_10,r61_11,r61_7,r61_12,p61,l61_0,ej,hki,i1,i2,gA,gB,h1i,h2i,List.length_map]) | (exfalso; omega)
  have h2i : ¬ ((B[j] : Nat) : Int) < (A[j] : Nat) := by omega
  repeat' first | ((with_reducible (first | refine condD ?_ ?_ | refine condE ?_ ?_ | refine condN ?_ ?_ | refine condI ?_ ?_ | refine condS ?_ ?_)) <;> intro h) | (with_reducible refine And.intro ?_ ?_; omega) | (simp only [Z0,Z1,Z2,Z3,Z4,Z5,Z6,Z7,Z8,Z9,Za,Zb,Zc,Zd,Ze,Zf,List.cons.injEq,Zg,Zh,Zi,Zj,Zk,Zl,Zm,Zn,Zo,Zp,beq_self_eq_true,bne_self_eq_false,decide_true,decide_false,Zq,Zr,Zs,Zt,Zu,Zv,Zw,Zx,Zy,Zz,Y0,Y1,Y2,Y3,Y4,Y5,Y6,Y7,Y8,Y9,Ya,Yb,Yc,Yd,Ye,Yf,Yg,lk,ef,Yi,Yk,Yl,Ym,Yn,Yp,hv,Yr,ev,Ys,Yt,Yu,Yv,Yw,Yx,Yy,Yz,X0,X1,X2,X3,X4,X5,X6,X7,X8,X9,Xa,Xb,Xc,Xd,Xe,Xf,Xg,Xh,Xi,Xj,Xk,Xl,Xm,Xn,Xo,Value.oneCell',Xp,Xq,Xr,Xs,true_and,and_true,and_self,implies_true,Xt,Xu,Xv,Xw,false_implies,Xx,Xy,Xz,W0,W1,W2,W3,W4,W5,W6,W7,W8,W9,Wa,Wb,Wc,Wd,reduceCtorEq,if_true,if_false,We,↓reduceIte,Wf,Wg,Wh,Wi,Wj,Wk,ne_eq,not_false_eq_true,not_true_eq_false,Wl,Wm,r61_0,r61_1,r61_2,r61_3,r61_4,r61_5,r61_6,r61_8,r61_9,r61_10,r61_11,r61_7,r61_12,p61,l61_0,ej,hki,i1,i2,gA,gB,h1i,h2i,wj,List.length_map]) | (exfalso; omega)
  all_goals first | omega | exact again hJ j (weak_mk (by simp only [Wn,Wo,Wp,Wq,Wr,Ws,Z4,Z5,Z6,Z7,Z8,Z9,Za,Zb,Zc,Zd,Ze,Zf,List.cons.injEq,Zg,Zh,Zi,Zj,Zk,Zl,Zm,Zn,Zo,Zp,beq_self_eq_true,bne_self_eq_false,decide_true,decide_false,Zq,Zr,Zs,Zt,Zu,Zv,Zw,Zx,Zy,Zz,Y0,hv,Yr,ev,Ys,Yt,Yu,Yv,Yw,Yx,Yy,Yz,X0,X1,X2,X3,X4,X5,X6,X7,X8,X9,Xa,Xb,Xc,Xd,Xe,Xf,Xg,Xh,Xi,Xj,Xk,Xl,Xm,Xn,Xo,Value.oneCell',Xp,Xq,Xr,Xs,true_and,and_true,and_self,implies_true,Xt,Xu,Xv,Xw,false_implies,Xx,Xy,Xz,W0,W1,W2,W3,W4,W5,W6,W7,W8,W9,Wa,Wb,Wc,Wd,reduceCtorEq,if_true,if_false,We,↓reduceIte,Wf,Wg,Wh,Wi,Wj,Wk,ne_eq,not_false_eq_true,not_true_eq_false,Wl,Nat.zero_ne_one])) ⟨by omega, by rw [List.drop_eq_getElem_cons hj1, List.drop_eq_getElem_cons hj2, hdr]; congr 1; omega⟩ (by omega)
/-! ### Sums -/
theorem take_at (l : List Nat) (i : Nat) : valN (l.take (i + 1)) = valN (l.take i) + l.getD i 0 * 10000 ^ i := by
  by_cases h : i < l.length
  · rw [List.take_succ_eq_append_getElem h, val_snoc, List.length_take, Nat.min_eq_left (by omega), List.getD_eq_getElem?_getD, List.getElem?_eq_getElem h]
    rfl
  · rw [List.take_of_length_le (by omega), List.take_of_length_le (by omega), List.getD_eq_getElem?_getD, List.getElem?_eq_none (by omega)]
    simp
theorem dig_at {l : List Nat} (h : digN l) (i : Nat) : l.getD i 0 < 10000 := by
  by_cases q : i < l.length
  · rw [List.getD_eq_getElem?_getD, List.getElem?_eq_getElem q]; exact h _ (List.getElem_mem q)
  · rw [List.getD_eq_getElem?_getD, List.getElem?_eq_none (by omega)]; decide
theorem dig_snoc {l : List Nat} (h : digN l) {d : Nat} (hd : d < 10000) : digN (l ++ [d]) := by
  intro x hx
  rcases List.mem_append.1 hx with hx | hx
  · exact h x hx
  · rw [List.mem_singleton.1 hx]; exact hd
theorem sum_step {out A B : List Nat} {i c : Nat} (hl : out.length = i) (h : valN out + c * 10000 ^ i = valN (A.take i) + valN (B.take i)) :
    valN (out ++ [(c + A.getD i 0 + B.getD i 0) % 10000]) + (c + A.getD i 0 + B.getD i 0) / 10000 * 10000 ^ (i + 1) = valN (A.take (i + 1)) + valN (B.take (i + 1)) := by
  rw [val_snoc, take_at A, take_at B, hl, Nat.pow_succ]
  generalize A.getD i 0 = x
  generalize B.getD i 0 = y
  generalize 10000 ^ i = z at *
  obtain ⟨q, hq⟩ : ∃ q, q = (c + x + y) / 10000 := ⟨_, rfl⟩
  obtain ⟨r, hr⟩ : ∃ r, r = (c + x + y) % 10000 := ⟨_, rfl⟩
  rw [← hq, ← hr]
  have hn : r + 10000 * q = c + x + y := by omega
  have e1 : q * (z * 10000) = (10000 * q) * z := by rw [Nat.mul_comm z, ← Nat.mul_assoc, Nat.mul_comm q]
  have e2 : r * z + 10000 * q * z = c * z + x * z + y * z := by rw [← Nat.add_mul, hn, Nat.add_mul, Nat.add_mul]
  omega
theorem canon_low {l : List Nat} (hd : digN l) (h : l ≠ [] → 10000 ^ (l.length - 1) ≤ valN l) : l = lm (valN l) := by
  refine canon hd fun x hx => ?_
  have hne : l ≠ [] := fun e => by rw [e] at hx; cases hx
  rw [List.getLast?_eq_some_getLast hne] at hx
  intro hx0
  have h := h hne
  have hs := List.dropLast_concat_getLast hne
  rw [← hs, val_snoc, Option.some.inj hx, hx0] at h
  have := valN_lt (l := l.dropLast) (fun y hy => hd y (List.dropLast_subset l hy))
  rw [List.length_dropLast] at this
  rw [List.length_append, List.length_dropLast] at h
  simp only [List.length_singleton, Nat.zero_mul, Nat.add_zero, Nat.add_sub_cancel] at h
  omega
theorem sum_end {a b c : Nat} {out : List Nat} (hd : digN out) (hc : c ≤ 1) (h1 : (lm a).length ≤ out.length) (h2 : (lm b).length ≤ out.length) (h3 : out.length ≤ (lm a).length ∨ out.length ≤ (lm b).length)
    (h : valN out + c * 10000 ^ out.length = valN ((lm a).take out.length) + valN ((lm b).take out.length)) : (if 0 < c then out ++ [c] else out) = lm (a + b) := by
  rw [List.take_of_length_le h1, List.take_of_length_le h2, val_lm, val_lm] at h
  by_cases q : 0 < c
  · rw [if_pos q]
    have := canon (dig_snoc hd (d := c) (by omega)) (fun x hx => by rw [List.getLast?_concat] at hx; cases hx; omega)
    rw [val_snoc, h] at this
    exact this
  · have hc0 : c = 0 := by omega
    subst hc0
    rw [Nat.zero_mul, Nat.add_zero] at h
    rw [if_neg q, ← h]
    refine canon_low hd fun hne => ?_
    have hpos : 0 < out.length := List.length_pos_iff.2 hne
    rw [h]
    rcases h3 with h3 | h3
    · have e : (lm a).length = out.length := by omega
      have ha : a ≠ 0 := fun z => by rw [z, lm_0] at e; simp at e; omega
      have := lm_low ha
      rw [e] at this
      omega
    · have e : (lm b).length = out.length := by omega
      have hb : b ≠ 0 := fun z => by rw [z, lm_0] at e; simp at e; omega
      have := lm_low hb
      rw [e] at this
      omega
/-! headend/headendref1.add -/
def r60_0 : List POp := [⟨4, .asg .nil, none⟩]
def r60_1 : List POp := [⟨5, .asg .nil, none⟩]
def r60_2 : List POp := [⟨6, .asg (.c (.int .i64 0)), none⟩]
def r60_3 : List POp := [⟨7, .asg (.c (.int .i64 0)), none⟩]
def r60_4 : List POp := [⟨9, .mv (.t 7), none⟩,
  ⟨10, .mv (.t 0), none⟩,
  ⟨11, .len (.t 10), none⟩,
  ⟨12, .bin .lss (.t 9) (.t 11), none⟩,
  ⟨13, .mv (.t 12), none⟩,
  ⟨14, .mv (.t 7), some (13, false)⟩,
  ⟨15, .mv (.t 1), some (13, false)⟩,
  ⟨16, .len (.t 15), some (13, false)⟩,
  ⟨17, .bin .lss (.t 14) (.t 16), some (13, false)⟩,
  ⟨18, .pick (.t 13) (.c (.bool true)) (.t 17), none⟩]
def r60_6 : List POp := [⟨21, .mv (.t 6), none⟩,
  ⟨8, .asg (.t 21), none⟩]
def r60_7 : List POp := [⟨22, .mv (.t 7), none⟩,
  ⟨23, .mv (.t 0), none⟩,
  ⟨24, .len (.t 23), none⟩,
  ⟨25, .bin .lss (.t 22) (.t 24), none⟩]
def r60_8 : List POp := [⟨26, .mv (.t 8), none⟩,
  ⟨27, .mv (.t 0), none⟩,
  ⟨28, .mv (.t 7), none⟩,
  ⟨29, .idx 1 (.t 27) (.t 28), none⟩,
  ⟨30, .load (.t 29), none⟩,
  ⟨31, .bin .add (.t 26) (.t 30), none⟩,
  ⟨8, .asg (.t 31), none⟩]
def r60_9 : List POp := [⟨32, .mv (.t 7), none⟩,
  ⟨33, .mv (.t 1), none⟩,
  ⟨34, .len (.t 33), none⟩,
  ⟨35, .bin .lss (.t 32) (.t 34), none⟩]
def r60_10 : List POp := [⟨36, .mv (.t 8), none⟩,
  ⟨37, .mv (.t 1), none⟩,
  ⟨38, .mv (.t 7), none⟩,
  ⟨39, .idx 1 (.t 37) (.t 38), none⟩,
  ⟨40, .load (.t 39), none⟩,
  ⟨41, .bin .add (.t 36) (.t 40), none⟩,
  ⟨8, .asg (.t 41), none⟩]
def r60_11 : List POp := [⟨42, .mv (.t 5), none⟩,
  ⟨43, .mv (.t 8), none⟩,
  ⟨44, .bin .rem (.t 43) (.c (.int .i64 10000)), none⟩,
  ⟨45, .row 3 1 [.t 44], none⟩,
  ⟨46, .app 3 1 8 (.t 42) (.t 45), none⟩,
  ⟨5, .asg (.t 46), none⟩]
def r60_12 : List POp := [⟨47, .mv (.t 8), none⟩,
  ⟨48, .bin .quo (.t 47) (.c (.int .i64 10000)), none⟩,
  ⟨6, .asg (.t 48), none⟩]
def r60_5 : List POp := [⟨19, .mv (.t 7), none⟩,
  ⟨20, .bin .add (.t 19) (.c (.int .i64 1)), none⟩,
  ⟨7, .asg (.t 20), none⟩]
def r60_13 : List POp := [⟨49, .mv (.t 6), none⟩,
  ⟨50, .bin .gtr (.t 49) (.c (.int .i64 0)), none⟩]
def r60_14 : List POp := [⟨51, .mv (.t 5), none⟩,
  ⟨52, .mv (.t 6), none⟩,
  ⟨53, .row 3 1 [.t 52], none⟩,
  ⟨54, .app 3 1 8 (.t 51) (.t 53), none⟩,
  ⟨5, .asg (.t 54), none⟩]
def r60_15 : List POp := [⟨55, .mv (.t 5), none⟩,
  ⟨4, .asg (.t 55), none⟩]
def l60_0 : PCode := .seq (.seq (.ops r60_4) (.cond (.t 18) (.skip) (.exit 0))) (.seq (.block 1 (.seq (.ops r60_6) (.seq (.seq (.ops r60_7) (.cond (.t 25) (.ops r60_8) (.skip))) (.seq (.seq (.ops r60_9) (.cond (.t 35) (.ops r60_10) (.skip))) (.seq (.ops r60_11) (.ops r60_12)))))) (.ops r60_5))
def p60 : PCode := .seq (.ops r60_0) (.seq (.ops r60_1) (.seq (.ops r60_2) (.seq (.seq (.ops r60_3) (.block 0 (.loop l60_0))) (.seq (.seq (.ops r60_13) (.cond (.t 50) (.ops r60_14) (.skip))) (.seq (.ops r60_15) (.ret))))))
theorem ok60 : okFunc Tryz.prog 60 [.t 4] 2 p60 = true := by kernel_rfl
set_option maxHeartbeats 2000000 in
theorem add_c (a b : Nat) (ha : (lm a).length ≤ 1000) (hb : (lm b).length ≤ 1000) : CallOK Tryz.prog 60 [.ro ((lm a).map oneN), .ro ((lm b).map oneN)] (.ro ((lm (a + b)).map oneN)) := by
  refine call_of mixed ok60 rfl ?_
  have da := dig_lm a
  have db := dig_lm b
  have hE := @sum_end a b
  generalize lm (a + b) = R at *
  generalize lm a = A at *
  generalize lm b = B at *
  repeat' first | ((with_reducible (first | refine condD ?_ ?_ | refine condE ?_ ?_ | refine condN ?_ ?_ | refine condI ?_ ?_ | refine condS ?_ ?_)) <;> intro h) | ((with_reducible (first | refine guardD (by with_unfolding_all rfl) ?_ ?_ | refine guardE (by with_unfolding_all rfl) ?_ ?_ | refine guardN (by with_unfolding_all rfl) ?_ ?_ | refine guardI (by with_unfolding_all rfl) ?_ ?_ | refine guardS (by with_unfolding_all rfl) ?_ ?_)) <;> intro h) | (with_reducible refine And.intro ?_ ?_; omega) | (simp only [Z0,Z1,Z2,Z3,Z4,Z5,Z6,Z7,Z8,Z9,Za,Zb,Zc,Zd,Ze,Zf,List.cons.injEq,Zg,Zh,Zi,Zj,Zk,Zl,Zm,Zn,Zo,Zp,beq_self_eq_true,bne_self_eq_false,decide_true,decide_false,Zq,Zr,Zs,Zt,Zu,Zv,Zw,Zx,Zy,Zz,Y0,Y1,Y2,Y3,Y4,Y5,Y6,Y7,Y8,Y9,Ya,Yb,Yc,Yd,Ye,Yf,Yg,lk,ef,Yi,Yj,Yk,Yl,Ym,Yn,Yo,Yp,Yq,hv,Yr,ev,Ys,Yt,Yu,Yv,Yw,Yx,Yy,Yz,X0,X1,X2,X3,X4,X5,X6,X7,X8,X9,Xa,Xb,Xc,Xd,Xe,Xf,Xg,Xh,Xi,Xj,Xk,Xl,Xm,Xn,Xo,Value.oneCell',Xp,Xq,Xr,Xs,true_and,and_true,and_self,implies_true,Xt,Xu,Xv,Xw,false_implies,Xx,Xy,Xz,W0,W1,W2,W3,W4,W5,W6,W7,W8,W9,Wa,Wb,Wc,Wd,reduceCtorEq,if_true,if_false,We,↓reduceIte,Wf,Wg,Wh,Wi,Wj,Wk,ne_eq,not_false_eq_true,not_true_eq_false,Wl,Wm,r60_0,r60_1,r60_2,r60_3,r60_4,r60_6,r60_7,r60_8,r60_9,r60_10,r60_11,r60_12,r60_5,r60_13,r60_14,r60_15,p60,List.length_map]) | (exfalso; omega)
  refine loopS (fun s : Nat × List Nat × Nat => mk [(0, .ro (A.map oneN)), (1, .ro (B.map oneN)), (5, .own 3 1 (s.2.1.map oneN)), (6, .val (.int .i64 s.2.2)), (7, .val (.int .i64 s.1))])
    (fun s => (s.1 ≤ A.length ∨ s.1 ≤ B.length) ∧ s.2.1.length = s.1 ∧ digN s.2.1 ∧ s.2.2 ≤ 1 ∧ valN s.2.1 + s.2.2 * 10000 ^ s.1 = valN (A.take s.1) + valN (B.take s.1)) (fun s => A.length + B.length - s.1) (0, [], 0) (weak_mk ?_) ⟨.inl (Nat.zero_le _), rfl, (fun d hd => by cases hd), Nat.zero_le _, by simp [valN]⟩ ?_
  · simp only [Wn,Wo,Wp,Wq,Wr,Ws,Z4,Z5,Z6,Z7,Z8,Z9,Za,Zb,Zc,Zd,Ze,Zf,List.cons.injEq,Zg,Zh,Zi,Zj,Zk,Zl,Zm,Zn,Zo,Zp,beq_self_eq_true,bne_self_eq_false,decide_true,decide_false,Zq,Zr,Zs,Zt,Zu,Zv,Zw,Zx,Zy,Zz,Y0,hv,Yr,ev,Ys,Yt,Yu,Yv,Yw,Yx,Yy,Yz,X0,X1,X2,X3,X4,X5,X6,X7,X8,X9,Xa,Xb,Xc,Xd,Xe,Xf,Xg,Xh,Xi,Xj,Xk,Xl,Xm,Xn,Xo,Value.oneCell',Xp,Xq,Xr,Xs,true_and,and_true,and_self,implies_true,Xt,Xu,Xv,Xw,false_implies,Xx,Xy,Xz,W0,W1,W2,W3,W4,W5,W6,W7,W8,W9,Wa,Wb,Wc,Wd,reduceCtorEq,if_true,if_false,We,↓reduceIte,Wf,Wg,Wh,Wi,Wj,Wk,ne_eq,not_false_eq_true,not_true_eq_false,Wl,Nat.zero_ne_one]
    simp
  rintro J hJ ⟨i, out, c⟩ ⟨h1, h2, h3, h4, h5⟩
  simp only at h1 h2 h3 h4 h5
  have hw := i_add1 i (by omega)
  have hst := sum_step h2 h5
  have hx := dig_at da i
  have hy := dig_at db i
  have hi0 : (0 : Int) ≤ (i : Int) := by omega
  have hol : out.length ≤ 1000 := by omega
  by_cases c1 : i < A.length
  · have i1 : (i : Int) < A.length := by omega
    have gA := getD_map (f := oneN) (d := []) c1
    have eA : A.getD i 0 = A[i] := by rw [List.getD_eq_getElem?_getD, List.getElem?_eq_getElem c1]; rfl
    simp only [oneN] at gA
    rw [eA] at hst hx
    generalize A[i] = x at *
    have w1 : IntKind.i64.wrap ((c : Int) + (x : Int)) = ((c + x : Nat) : Int) := by rw [wrap_in (by omega) (by omega)]; omega
    by_cases c2 : i < B.length
    · have i2 : (i : Int) < B.length := by omega
      have gB := getD_map (f := oneN) (d := []) c2
      have eB : B.getD i 0 = B[i] := by rw [List.getD_eq_getElem?_getD, List.getElem?_eq_getElem c2]; rfl
      simp only [oneN] at gB
      rw [eB] at hst hy
      generalize B[i] = y at *
      have w2 : IntKind.i64.wrap (((c + x : Nat) : Int) + (y : Int)) = ((c + x + y : Nat) : Int) := by rw [wrap_in (by omega) (by omega)]; omega
      have hn : c + x + y ≤ 19999 := by omega
      generalize c + x + y = n at *
      have m1 : ((n : Nat) : Int).tmod 10000 = ((n % 10000 : Nat) : Int) := by rw [show (10000 : Int) = ((10000 : Nat) : Int) from rfl, Int.ofNat_tmod]
      have q1 : ((n : Nat) : Int).tdiv 10000 = ((n / 10000 : Nat) : Int) := by rw [show (10000 : Int) = ((10000 : Nat) : Int) from rfl, Int.ofNat_tdiv]
      have w3 : IntKind.i64.wrap ((n / 10000 : Nat) : Int) = (n / 10000 : Nat) := wrap_in (by omega) (by omega)
      have happ : out.map oneN ++ [[.val (.int .i64 ((n % 10000 : Nat) : Int))]] = (out ++ [n % 10000]).map oneN := by rw [List.map_append]; rfl
      repeat' first | ((with_reducible (first | refine condD ?_ ?_ | refine condE ?_ ?_ | refine condN ?_ ?_ | refine condI ?_ ?_ | refine condS ?_ ?_)) <;> intro h) | ((with_reducible (first | refine guardD (by with_unfolding_all rfl) ?_ ?_ | refine guardE (by with_unfolding_all rfl) ?_ ?_ | refine guardN (by with_unfolding_all rfl) ?_ ?_ | refine guardI (by with_unfolding_all rfl) ?_ ?_ | refine guardS (by with_unfolding_all rfl) ?_ ?_)) <;> intro h) | (with_reducible refine And.intro ?_ ?_; omega) | (simp only [Z0,Z1,Z2,Z3,Z4,Z5,Z6,Z7,Z8,Z9,Za,Zb,Zc,Zd,Ze,Zf,List.cons.injEq,Zg,Zh,Zi,Zj,Zk,Zl,Zm,Zn,Zo,Zp,beq_self_eq_true,bne_self_eq_false,decide_true,decide_false,Zq,Zr,Zs,Zt,Zu,Zv,Zw,Zx,Zy,Zz,Y0,Y1,Y2,Y3,Y4,Y5,Y6,Y7,Y8,Y9,Ya,Yb,Yc,Yd,Ye,Yf,Yg,lk,ef,Yi,Yj,Yk,Yl,Ym,Yn,Yo,Yp,Yq,hv,Yr,ev,Ys,Yt,Yu,Yv,Yw,Yx,Yy,Yz,X0,X1,X2,X3,X4,X5,X6,X7,X8,X9,Xa,Xb,Xc,Xd,Xe,Xf,Xg,Xh,Xi,Xj,Xk,Xl,Xm,Xn,Xo,Value.oneCell',Xp,Xq,Xr,Xs,true_and,and_true,and_self,implies_true,Xt,Xu,Xv,Xw,false_implies,Xx,Xy,Xz,W0,W1,W2,W3,W4,W5,W6,W7,W8,W9,Wa,Wb,Wc,Wd,reduceCtorEq,if_true,if_false,We,↓reduceIte,Wf,Wg,Wh,Wi,Wj,Wk,ne_eq,not_false_eq_true,not_true_eq_false,Wl,Wm,r60_0,r60_1,r60_2,r60_3,r60_4,r60_6,r60_7,r60_8,r60_9,r60_10,r60_11,r60_12,r60_5,r60_13,r60_14,r60_15,p60,l60_0,i1,i2,hi0,gA,gB,w1,w2,m1,q1,w3,happ,hw,Int.reduceEq,List.length_map]) | (exfalso; omega)
      all_goals first | omega | exact again hJ (i + 1, out ++ [n % 10000], n / 10000) (weak_mk (by simp only [Wn,Wo,Wp,Wq,Wr,Ws,Z4,Z5,Z6,Z7,Z8,Z9,Za,Zb,Zc,Zd,Ze,Zf,List.cons.injEq,Zg,Zh,Zi,Zj,Zk,Zl,Zm,Zn,Zo,Zp,beq_self_eq_true,bne_self_eq_false,decide_true,decide_false,Zq,Zr,Zs,Zt,Zu,Zv,Zw,Zx,Zy,Zz,Y0,hv,Yr,ev,Ys,Yt,Yu,Yv,Yw,Yx,Yy,Yz,X0,X1,X2,X3,X4,X5,X6,X7,X8,X9,Xa,Xb,Xc,Xd,Xe,Xf,Xg,Xh,Xi,Xj,Xk,Xl,Xm,Xn,Xo,Value.oneCell',Xp,Xq,Xr,Xs,true_and,and_true,and_self,implies_true,Xt,Xu,Xv,Xw,false_implies,Xx,Xy,Xz,W0,W1,W2,W3,W4,W5,W6,W7,W8,W9,Wa,Wb,Wc,Wd,reduceCtorEq,if_true,if_false,We,↓reduceIte,Wf,Wg,Wh,Wi,Wj,Wk,ne_eq,not_false_eq_true,not_true_eq_false,Wl,Nat.zero_ne_one])) ⟨by simp only; omega, by simp [h2], dig_snoc h3 (by omega), by simp only; omega, hst⟩ (by simp only; omega)
    · have i2 : ¬ (i : Int) < B.length := by omega
      have eB : B.getD i 0 = 0 := by rw [List.getD_eq_getElem?_getD, List.getElem?_eq_none (by omega)]; rfl
      rw [eB, Nat.add_zero] at hst
      have hn : c + x ≤ 19999 := by omega
      generalize c + x = n at *
      have m1 : ((n : Nat) : Int).tmod 10000 = ((n % 10000 : Nat) : Int) := by rw [show (10000 : Int) = ((10000 : Nat) : Int) from rfl, Int.ofNat_tmod]
      have q1 : ((n : Nat) : Int).tdiv 10000 = ((n / 10000 : Nat) : Int) := by rw [show (10000 : Int) = ((10000 : Nat) : Int) from rfl, Int.ofNat_tdiv]
      have w3 : IntKind.i64.wrap ((n / 10000 : Nat) : Int) = (n / 10000 : Nat) := wrap_in (by omega) (by omega)
      have happ : out.map oneN ++ [[.val (.int .i64 ((n % 10000 : Nat) : Int))]] = (out ++ [n % 10000]).map oneN := by rw [List.map_append]; rfl
      repeat' first | ((with_reducible (first | refine condD ?_ ?_ | refine condE ?_ ?_ | refine condN ?_ ?_ | refine condI ?_ ?_ | refine condS ?_ ?_)) <;> intro h) | ((with_reducible (first | refine guardD (by with_unfolding_all rfl) ?_ ?_ | refine guardE (by with_unfolding_all rfl) ?_ ?_ | refine guardN (by with_unfolding_all rfl) ?_ ?_ | refine guardI (by with_unfolding_all rfl) ?_ ?_ | refine guardS (by with_unfolding_all rfl) ?_ ?_)) <;> intro h) | (with_reducible refine And.intro ?_ ?_; omega) | (simp only [Z0,Z1,Z2,Z3,Z4,Z5,Z6,Z7,Z8,Z9,Za,Zb,Zc,Zd,Ze,Zf,List.cons.injEq,Zg,Zh,Zi,Zj,Zk,Zl,Zm,Zn,Zo,Zp,beq_self_eq_true,bne_self_eq_false,decide_true,decide_false,Zq,Zr,Zs,Zt,Zu,Zv,Zw,Zx,Zy,Zz,Y0,Y1,Y2,Y3,Y4,Y5,Y6,Y7,Y8,Y9,Ya,Yb,Yc,Yd,Ye,Yf,Yg,lk,ef,Yi,Yj,Yk,Yl,Ym,Yn,Yo,Yp,Yq,hv,Yr,ev,Ys,Yt,Yu,Yv,Yw,Yx,Yy,Yz,X0,X1,X2,X3,X4,X5,X6,X7,X8,X9,Xa,Xb,Xc,Xd,Xe,Xf,Xg,Xh,Xi,Xj,Xk,Xl,Xm,Xn,Xo,Value.oneCell',Xp,Xq,Xr,Xs,true_and,and_true,and_self,implies_true,Xt,Xu,Xv,Xw,false_implies,Xx,Xy,Xz,W0,W1,W2,W3,W4,W5,W6,W7,W8,W9,Wa,Wb,Wc,Wd,reduceCtorEq,if_true,if_false,We,↓reduceIte,Wf,Wg,Wh,Wi,Wj,Wk,ne_eq,not_false_eq_true,not_true_eq_false,Wl,Wm,r60_0,r60_1,r60_2,r60_3,r60_4,r60_6,r60_7,r60_8,r60_9,r60_10,r60_11,r60_12,r60_5,r60_13,r60_14,r60_15,p60,l60_0,i1,i2,hi0,gA,w1,m1,q1,w3,happ,hw,Int.reduceEq,List.length_map]) | (exfalso; omega)
      all_goals first | omega | exact again hJ (i + 1, out ++ [n % 10000], n / 10000) (weak_mk (by simp only [Wn,Wo,Wp,Wq,Wr,Ws,Z4,Z5,Z6,Z7,Z8,Z9,Za,Zb,Zc,Zd,Ze,Zf,List.cons.injEq,Zg,Zh,Zi,Zj,Zk,Zl,Zm,Zn,Zo,Zp,beq_self_eq_true,bne_self_eq_false,decide_true,decide_false,Zq,Zr,Zs,Zt,Zu,Zv,Zw,Zx,Zy,Zz,Y0,hv,Yr,ev,Ys,Yt,Yu,Yv,Yw,Yx,Yy,Yz,X0,X1,X2,X3,X4,X5,X6,X7,X8,X9,Xa,Xb,Xc,Xd,Xe,Xf,Xg,Xh,Xi,Xj,Xk,Xl,Xm,Xn,Xo,Value.oneCell',Xp,Xq,Xr,Xs,true_and,and_true,and_self,implies_true,Xt,Xu,Xv,Xw,false_implies,Xx,Xy,Xz,W0,W1,W2,W3,W4,W5,W6,W7,W8,W9,Wa,Wb,Wc,Wd,reduceCtorEq,if_true,if_false,We,↓reduceIte,Wf,Wg,Wh,Wi,Wj,Wk,ne_eq,not_false_eq_true,not_true_eq_false,Wl,Nat.zero_ne_one])) ⟨by simp only; omega, by simp [h2], dig_snoc h3 (by omega), by simp only; omega, hst⟩ (by simp only; omega)
  have i1 : ¬ (i : Int) < A.length := by omega
  have eA : A.getD i 0 = 0 := by rw [List.getD_eq_getElem?_getD, List.getElem?_eq_none (by omega)]; rfl
  rw [eA, Nat.add_zero] at hst
  by_cases c2 : i < B.length
  · have i2 : (i : Int) < B.length := by omega
    have gB := getD_map (f := oneN) (d := []) c2
    have eB : B.getD i 0 = B[i] := by rw [List.getD_eq_getElem?_getD, List.getElem?_eq_getElem c2]; rfl
    simp only [oneN] at gB
    rw [eB] at hst hy
    generalize B[i] = y at *
    have w2 : IntKind.i64.wrap ((c : Int) + (y : Int)) = ((c + y : Nat) : Int) := by rw [wrap_in (by omega) (by omega)]; omega
    have hn : c + y ≤ 19999 := by omega
    generalize c + y = n at *
    have m1 : ((n : Nat) : Int).tmod 10000 = ((n % 10000 : Nat) : Int) := by rw [show (10000 : Int) = ((10000 : Nat) : Int) from rfl, Int.ofNat_tmod]
    have q1 : ((n : Nat) : Int).tdiv 10000 = ((n / 10000 : Nat) : Int) := by rw [show (10000 : Int) = ((10000 : Nat) : Int) from rfl, Int.ofNat_tdiv]
    have w3 : IntKind.i64.wrap ((n / 10000 : Nat) : Int) = (n / 10000 : Nat) := wrap_in (by omega) (by omega)
    have happ : out.map oneN ++ [[.val (.int .i64 ((n % 10000 : Nat) : Int))]] = (out ++ [n % 10000]).map oneN := by rw [List.map_append]; rfl
    repeat' first | ((with_reducible (first | refine condD ?_ ?_ | refine condE ?_ ?_ | refine condN ?_ ?_ | refine condI ?_ ?_ | refine condS ?_ ?_)) <;> intro h) | ((with_reducible (first | refine guardD (by with_unfolding_all rfl) ?_ ?_ | refine guardE (by with_unfolding_all rfl) ?_ ?_ | refine guardN (by with_unfolding_all rfl) ?_ ?_ | refine guardI (by with_unfolding_all rfl) ?_ ?_ | refine guardS (by with_unfolding_all rfl) ?_ ?_)) <;> intro h) | (with_reducible refine And.intro ?_ ?_; omega) | (simp only [Z0,Z1,Z2,Z3,Z4,Z5,Z6,Z7,Z8,Z9,Za,Zb,Zc,Zd,Ze,Zf,List.cons.injEq,Zg,Zh,Zi,Zj,Zk,Zl,Zm,Zn,Zo,Zp,beq_self_eq_true,bne_self_eq_false,decide_true,decide_false,Zq,Zr,Zs,Zt,Zu,Zv,Zw,Zx,Zy,Zz,Y0,Y1,Y2,Y3,Y4,Y5,Y6,Y7,Y8,Y9,Ya,Yb,Yc,Yd,Ye,Yf,Yg,lk,ef,Yi,Yj,Yk,Yl,Ym,Yn,Yo,Yp,Yq,hv,Yr,ev,Ys,Yt,Yu,Yv,Yw,Yx,Yy,Yz,X0,X1,X2,X3,X4,X5,X6,X7,X8,X9,Xa,Xb,Xc,Xd,Xe,Xf,Xg,Xh,Xi,Xj,Xk,Xl,Xm,Xn,Xo,Value.oneCell',Xp,Xq,Xr,Xs,true_and,and_true,and_self,implies_true,Xt,Xu,Xv,Xw,false_implies,Xx,Xy,Xz,W0,W1,W2,W3,W4,W5,W6,W7,W8,W9,Wa,Wb,Wc,Wd,reduceCtorEq,if_true,if_false,We,↓reduceIte,Wf,Wg,Wh,Wi,Wj,Wk,ne_eq,not_false_eq_true,not_true_eq_false,Wl,Wm,r60_0,r60_1,r60_2,r60_3,r60_4,r60_6,r60_7,r60_8,r60_9,r60_10,r60_11,r60_12,r60_5,r60_13,r60_14,r60_15,p60,l60_0,i1,i2,hi0,gB,w2,m1,q1,w3,happ,hw,Int.reduceEq,List.length_map]) | (exfalso; omega)
    all_goals first | omega | exact again hJ (i + 1, out ++ [n % 10000], n / 10000) (weak_mk (by simp only [Wn,Wo,Wp,Wq,Wr,Ws,Z4,Z5,Z6,Z7,Z8,Z9,Za,Zb,Zc,Zd,Ze,Zf,List.cons.injEq,Zg,Zh,Zi,Zj,Zk,Zl,Zm,Zn,Zo,Zp,beq_self_eq_true,bne_self_eq_false,decide_true,decide_false,Zq,Zr,Zs,Zt,Zu,Zv,Zw,Zx,Zy,Zz,Y0,hv,Yr,ev,Ys,Yt,Yu,Yv,Yw,Yx,Yy,Yz,X0,X1,X2,X3,X4,X5,X6,X7,X8,X9,Xa,Xb,Xc,Xd,Xe,Xf,Xg,Xh,Xi,Xj,Xk,Xl,Xm,Xn,Xo,Value.oneCell',Xp,Xq,Xr,Xs,true_and,and_true,and_self,implies_true,Xt,Xu,Xv,Xw,false_implies,Xx,Xy,Xz,W0,W1,W2,W3,W4,W5,W6,W7,W8,W9,Wa,Wb,Wc,Wd,reduceCtorEq,if_true,if_false,We,↓reduceIte,Wf,Wg,Wh,Wi,Wj,Wk,ne_eq,not_false_eq_true,not_true_eq_false,Wl,Nat.zero_ne_one])) ⟨by simp only; omega, by simp [h2], dig_snoc h3 (by omega), by simp only; omega, hst⟩ (by simp only; omega)
  have i2 : ¬ (i : Int) < B.length := by omega
  subst h2
  have hE := hE h3 h4 (by omega) (by omega) (by omega) h5
  clear hJ
  by_cases hc : 0 < c
  · have hci : (0 : Int) < c := by omega
    rw [if_pos hc] at hE
    have happ : out.map oneN ++ [[.val (.int .i64 (c : Nat))]] = R.map oneN := by rw [← hE, List.map_append]; rfl
    repeat' first | ((with_reducible (first | refine condD ?_ ?_ | refine condE ?_ ?_ | refine condN ?_ ?_ | refine condI ?_ ?_ | refine condS ?_ ?_)) <;> intro h) | ((with_reducible (first | refine guardD (by with_unfolding_all rfl) ?_ ?_ | refine guardE (by with_unfolding_all rfl) ?_ ?_ | refine guardN (by with_unfolding_all rfl) ?_ ?_ | refine guardI (by with_unfolding_all rfl) ?_ ?_ | refine guardS (by with_unfolding_all rfl) ?_ ?_)) <;> intro h) | (with_reducible refine And.intro ?_ ?_; omega) | (simp only [Z0,Z1,Z2,Z3,Z4,Z5,Z6,Z7,Z8,Z9,Za,Zb,Zc,Zd,Ze,Zf,List.cons.injEq,Zg,Zh,Zi,Zj,Zk,Zl,Zm,Zn,Zo,Zp,beq_self_eq_true,bne_self_eq_false,decide_true,decide_false,Zq,Zr,Zs,Zt,Zu,Zv,Zw,Zx,Zy,Zz,Y0,Y1,Y2,Y3,Y4,Y5,Y6,Y7,Y8,Y9,Ya,Yb,Yc,Yd,Ye,Yf,Yg,lk,ef,Yi,Yj,Yk,Yl,Ym,Yn,Yo,Yp,Yq,hv,Yr,ev,Ys,Yt,Yu,Yv,Yw,Yx,Yy,Yz,X0,X1,X2,X3,X4,X5,X6,X7,X8,X9,Xa,Xb,Xc,Xd,Xe,Xf,Xg,Xh,Xi,Xj,Xk,Xl,Xm,Xn,Xo,Value.oneCell',Xp,Xq,Xr,Xs,true_and,and_true,and_self,implies_true,Xt,Xu,Xv,Xw,false_implies,Xx,Xy,Xz,W0,W1,W2,W3,W4,W5,W6,W7,W8,W9,Wa,Wb,Wc,Wd,reduceCtorEq,if_true,if_false,We,↓reduceIte,Wf,Wg,Wh,Wi,Wj,Wk,ne_eq,not_false_eq_true,not_true_eq_false,Wl,Wm,r60_0,r60_1,r60_2,r60_3,r60_4,r60_6,r60_7,r60_8,r60_9,r60_10,r60_11,r60_12,r60_5,r60_13,r60_14,r60_15,p60,l60_0,i1,i2,hci,happ,List.length_map]) | (exfalso; omega)
    all_goals omega
  · have hci : ¬ (0 : Int) < c := by omega
    rw [if_neg hc] at hE
    have hE2 : out.map oneN = R.map oneN := by rw [hE]
    repeat' first | ((with_reducible (first | refine condD ?_ ?_ | refine condE ?_ ?_ | refine condN ?_ ?_ | refine condI ?_ ?_ | refine condS ?_ ?_)) <;> intro h) | ((with_reducible (first | refine guardD (by with_unfolding_all rfl) ?_ ?_ | refine guardE (by with_unfolding_all rfl) ?_ ?_ | refine guardN (by with_unfolding_all rfl) ?_ ?_ | refine guardI (by with_unfolding_all rfl) ?_ ?_ | refine guardS (by with_unfolding_all rfl) ?_ ?_)) <;> intro h) | (with_reducible refine And.intro ?_ ?_; omega) | (simp only [Z0,Z1,Z2,Z3,Z4,Z5,Z6,Z7,Z8,Z9,Za,Zb,Zc,Zd,Ze,Zf,List.cons.injEq,Zg,Zh,Zi,Zj,Zk,Zl,Zm,Zn,Zo,Zp,beq_self_eq_true,bne_self_eq_false,decide_true,decide_false,Zq,Zr,Zs,Zt,Zu,Zv,Zw,Zx,Zy,Zz,Y0,Y1,Y2,Y3,Y4,Y5,Y6,Y7,Y8,Y9,Ya,Yb,Yc,Yd,Ye,Yf,Yg,lk,ef,Yi,Yj,Yk,Yl,Ym,Yn,Yo,Yp,Yq,hv,Yr,ev,Ys,Yt,Yu,Yv,Yw,Yx,Yy,Yz,X0,X1,X2,X3,X4,X5,X6,X7,X8,X9,Xa,Xb,Xc,Xd,Xe,Xf,Xg,Xh,Xi,Xj,Xk,Xl,Xm,Xn,Xo,Value.oneCell',Xp,Xq,Xr,Xs,true_and,and_true,and_self,implies_true,Xt,Xu,Xv,Xw,false_implies,Xx,Xy,Xz,W0,W1,W2,W3,W4,W5,W6,W7,W8,W9,Wa,Wb,Wc,Wd,reduceCtorEq,if_true,if_false,We,↓reduceIte,Wf,Wg,Wh,Wi,Wj,Wk,ne_eq,not_false_eq_true,not_true_eq_false,Wl,Wm,r60_0,r60_1,r60_2,r60_3,r60_4,r60_6,r60_7,r60_8,r60_9,r60_10,r60_11,r60_12,r60_5,r60_13,r60_14,r60_15,p60,l60_0,i1,i2,hci,hE2,List.length_map]) | (exfalso; omega)
/-! ### Differences -/
theorem dif_step {out A B : List Nat} {i c d c' : Nat} (hl : out.length = i) (h : valN out + valN (B.take i) = valN (A.take i) + c * 10000 ^ i) (hd : d + B.getD i 0 + c = A.getD i 0 + c' * 10000) :
    ∀ (_ : c * 10000 ^ i ≤ valN out + valN (B.take i)), valN (out ++ [d]) + valN (B.take (i + 1)) = valN (A.take (i + 1)) + c' * 10000 ^ (i + 1) := by
  intro _
  rw [val_snoc, take_at A, take_at B, hl, Nat.pow_succ]
  generalize A.getD i 0 = x at *
  generalize B.getD i 0 = y at *
  generalize 10000 ^ i = z at *
  have e1 : c' * (z * 10000) = (c' * 10000) * z := by rw [Nat.mul_comm z, ← Nat.mul_assoc]
  have e2 : d * z + y * z + c * z = x * z + c' * 10000 * z := by rw [← Nat.add_mul, ← Nat.add_mul, hd, Nat.add_mul]
  omega
theorem dif_end {a b c : Nat} {out : List Nat} (hd : digN out) (hba : b ≤ a) (hl : out.length = (lm a).length) (h : valN out + valN ((lm b).take out.length) = valN ((lm a).take out.length) + c * 10000 ^ out.length) : valN out = a - b := by
  have hlen : (lm b).length ≤ out.length := by
    rw [hl]
    refine Nat.not_lt.1 fun q => ?_
    have := len_lt q
    omega
  have hlt := valN_lt hd
  rw [List.take_of_length_le hlen, List.take_of_length_le (by omega), val_lm, val_lm] at h
  by_cases hc : c = 0
  · subst hc; omega
  · have : 1 * 10000 ^ out.length ≤ c * 10000 ^ out.length := Nat.mul_le_mul_right _ (by omega)
    omega
/-! headend/headendref1.less -/
def r62_0 : List POp := [⟨4, .asg .nil, none⟩]
def r62_1 : List POp := [⟨5, .asg .nil, none⟩]
def r62_2 : List POp := [⟨6, .asg (.c (.int .i64 0)), none⟩]
def r62_3 : List POp := [⟨7, .asg (.c (.int .i64 0)), none⟩]
def r62_4 : List POp := [⟨9, .mv (.t 7), none⟩,
  ⟨10, .mv (.t 0), none⟩,
  ⟨11, .len (.t 10), none⟩,
  ⟨12, .bin .lss (.t 9) (.t 11), none⟩]
def r62_6 : List POp := [⟨15, .mv (.t 0), none⟩,
  ⟨16, .mv (.t 7), none⟩,
  ⟨17, .idx 1 (.t 15) (.t 16), none⟩,
  ⟨18, .load (.t 17), none⟩,
  ⟨19, .mv (.t 6), none⟩,
  ⟨20, .bin .sub (.t 18) (.t 19), none⟩,
  ⟨8, .asg (.t 20), none⟩]
def r62_7 : List POp := [⟨21, .mv (.t 7), none⟩,
  ⟨22, .mv (.t 1), none⟩,
  ⟨23, .len (.t 22), none⟩,
  ⟨24, .bin .lss (.t 21) (.t 23), none⟩]
def r62_8 : List POp := [⟨25, .mv (.t 8), none⟩,
  ⟨26, .mv (.t 1), none⟩,
  ⟨27, .mv (.t 7), none⟩,
  ⟨28, .idx 1 (.t 26) (.t 27), none⟩,
  ⟨29, .load (.t 28), none⟩,
  ⟨30, .bin .sub (.t 25) (.t 29), none⟩,
  ⟨8, .asg (.t 30), none⟩]
def r62_9 : List POp := [⟨6, .asg (.c (.int .i64 0)), none⟩]
def r62_10 : List POp := [⟨31, .mv (.t 8), none⟩,
  ⟨32, .bin .lss (.t 31) (.c (.int .i64 0)), none⟩]
def r62_11 : List POp := [⟨33, .mv (.t 8), none⟩,
  ⟨34, .bin .add (.t 33) (.c (.int .i64 10000)), none⟩,
  ⟨8, .asg (.t 34), none⟩]
def r62_12 : List POp := [⟨6, .asg (.c (.int .i64 1)), none⟩]
def r62_13 : List POp := [⟨35, .mv (.t 5), none⟩,
  ⟨36, .mv (.t 8), none⟩,
  ⟨37, .row 3 1 [.t 36], none⟩,
  ⟨38, .app 3 1 8 (.t 35) (.t 37), none⟩,
  ⟨5, .asg (.t 38), none⟩]
def r62_5 : List POp := [⟨13, .mv (.t 7), none⟩,
  ⟨14, .bin .add (.t 13) (.c (.int .i64 1)), none⟩,
  ⟨7, .asg (.t 14), none⟩]
def r62_14 : List POp := [⟨39, .mv (.t 5), none⟩,
  ⟨40, .call 72 [.t 39], none⟩,
  ⟨4, .asg (.t 40), none⟩]
def l62_0 : PCode := .seq (.seq (.ops r62_4) (.cond (.t 12) (.skip) (.exit 0))) (.seq (.block 1 (.seq (.ops r62_6) (.seq (.seq (.ops r62_7) (.cond (.t 24) (.ops r62_8) (.skip))) (.seq (.ops r62_9) (.seq (.seq (.ops r62_10) (.cond (.t 32) (.seq (.ops r62_11) (.ops r62_12)) (.skip))) (.ops r62_13)))))) (.ops r62_5))
def p62 : PCode := .seq (.ops r62_0) (.seq (.ops r62_1) (.seq (.ops r62_2) (.seq (.seq (.ops r62_3) (.block 0 (.loop l62_0))) (.seq (.opw r62_14) (.ret)))))
theorem ok62 : okFunc Tryz.prog 62 [.t 4] 2 p62 = true := by kernel_rfl
set_option maxHeartbeats 2000000 in
theorem less_c (a b : Nat) (hba : b ≤ a) (ha : (lm a).length ≤ 1000) : CallOK Tryz.prog 62 [.ro ((lm a).map oneN), .ro ((lm b).map oneN)] (.ro ((lm (a - b)).map oneN)) := by
  refine call_of mixed ok62 rfl ?_
  have da := dig_lm a
  have db := dig_lm b
  have hE := fun c out => @dif_end a b c out
  generalize a - b = v at *
  generalize lm a = A at *
  generalize lm b = B at *
  repeat' first | ((with_reducible (first | refine condD ?_ ?_ | refine condE ?_ ?_ | refine condN ?_ ?_ | refine condI ?_ ?_ | refine condS ?_ ?_)) <;> intro h) | (with_reducible refine And.intro ?_ ?_; omega) | (simp only [Z0,Z1,Z2,Z3,Z4,Z5,Z6,Z7,Z8,Z9,Za,Zb,Zc,Zd,Ze,Zf,List.cons.injEq,Zg,Zh,Zi,Zj,Zk,Zl,Zm,Zn,Zo,Zp,beq_self_eq_true,bne_self_eq_false,decide_true,decide_false,Zq,Zr,Zs,Zt,Zu,Zv,Zw,Zx,Zy,Zz,Y0,Y1,Y2,Y3,Y4,Y5,Y6,Y7,Y8,Y9,Ya,Yb,Yc,Yd,Ye,Yf,Yg,Yh,lk,ef,Yi,Yk,Yl,Ym,Yn,Yo,Yp,Yq,hv,Yr,ev,Ys,Yt,Yu,Yv,Yw,Yx,Yy,Yz,X0,X1,X2,X3,X4,X5,X6,X7,X8,X9,Xa,Xb,Xc,Xd,Xe,Xf,Xg,Xh,Xi,Xj,Xk,Xl,Xm,Xn,Xo,Value.oneCell',Xp,Xq,Xr,Xs,true_and,and_true,and_self,implies_true,Xt,Xu,Xv,Xw,false_implies,Xx,Xy,Xz,W0,W1,W2,W3,W4,W5,W6,W7,W8,W9,Wa,Wb,Wc,Wd,reduceCtorEq,if_true,if_false,We,↓reduceIte,Wf,Wg,Wh,Wi,Wj,Wk,ne_eq,not_false_eq_true,not_true_eq_false,Wl,Wm,r62_0,r62_1,r62_2,r62_3,r62_4,r62_6,r62_7,r62_8,r62_9,r62_10,r62_11,r62_12,r62_13,r62_5,r62_14,p62,List.length_map]) | (exfalso; omega)
  refine loopS (fun s : Nat × List Nat × Nat => mk [(0, .ro (A.map oneN)), (1, .ro (B.map oneN)), (5, .own 3 1 (s.2.1.map oneN)), (6, .val (.int .i64 s.2.2)), (7, .val (.int .i64 s.1))])
    (fun s => s.1 ≤ A.length ∧ s.2.1.length = s.1 ∧ digN s.2.1 ∧ s.2.2 ≤ 1 ∧ valN s.2.1 + valN (B.take s.1) = valN (A.take s.1) + s.2.2 * 10000 ^ s.1) (fun s => A.length - s.1) (0, [], 0) (weak_mk ?_) ⟨Nat.zero_le _, rfl, (fun d hd => by cases hd), Nat.zero_le _, by simp [valN]⟩ ?_
  · simp only [Wn,Wo,Wp,Wq,Wr,Ws,Z4,Z5,Z6,Z7,Z8,Z9,Za,Zb,Zc,Zd,Ze,Zf,List.cons.injEq,Zg,Zh,Zi,Zj,Zk,Zl,Zm,Zn,Zo,Zp,beq_self_eq_true,bne_self_eq_false,decide_true,decide_false,Zq,Zr,Zs,Zt,Zu,Zv,Zw,Zx,Zy,Zz,Y0,hv,Yr,ev,Ys,Yt,Yu,Yv,Yw,Yx,Yy,Yz,X0,X1,X2,X3,X4,X5,X6,X7,X8,X9,Xa,Xb,Xc,Xd,Xe,Xf,Xg,Xh,Xi,Xj,Xk,Xl,Xm,Xn,Xo,Value.oneCell',Xp,Xq,Xr,Xs,true_and,and_true,and_self,implies_true,Xt,Xu,Xv,Xw,false_implies,Xx,Xy,Xz,W0,W1,W2,W3,W4,W5,W6,W7,W8,W9,Wa,Wb,Wc,Wd,reduceCtorEq,if_true,if_false,We,↓reduceIte,Wf,Wg,Wh,Wi,Wj,Wk,ne_eq,not_false_eq_true,not_true_eq_false,Wl,Nat.zero_ne_one]
    simp
  rintro J hJ ⟨i, out, c⟩ ⟨h1, h2, h3, h4, h5⟩
  simp only at h1 h2 h3 h4 h5
  have hw := i_add1 i (by omega)
  have hst := fun d c' => @dif_step out A B i c d c' h2 h5
  have hle : c * 10000 ^ i ≤ valN out + valN (B.take i) := by omega
  have hx := dig_at da i
  have hy := dig_at db i
  have hi0 : (0 : Int) ≤ (i : Int) := by omega
  by_cases c1 : i < A.length
  · have i1 : (i : Int) < A.length := by omega
    have gA := getD_map (f := oneN) (d := []) c1
    have eA : A.getD i 0 = A[i] := by rw [List.getD_eq_getElem?_getD, List.getElem?_eq_getElem c1]; rfl
    simp only [oneN] at gA
    rw [eA] at hst hx
    generalize A[i] = x at *
    have w1 : IntKind.i64.wrap ((x : Int) - (c : Int)) = (x : Int) - c := wrap_in (by omega) (by omega)
    by_cases c2 : i < B.length
    · have i2 : (i : Int) < B.length := by omega
      have gB := getD_map (f := oneN) (d := []) c2
      have eB : B.getD i 0 = B[i] := by rw [List.getD_eq_getElem?_getD, List.getElem?_eq_getElem c2]; rfl
      simp only [oneN] at gB
      rw [eB] at hst hy
      generalize B[i] = y at *
      have w2 : IntKind.i64.wrap ((x : Int) - c - (y : Int)) = (x : Int) - c - y := wrap_in (by omega) (by omega)
      by_cases hneg : (x : Int) - c - y < 0
      · obtain ⟨d, hd⟩ : ∃ d : Nat, (x : Int) - c - y + 10000 = d := ⟨((x : Int) - c - y + 10000).toNat, by omega⟩
        have w3 : IntKind.i64.wrap ((x : Int) - c - y + 10000) = (d : Int) := by rw [wrap_in (by omega) (by omega)]; exact hd
        have happ : out.map oneN ++ [[.val (.int .i64 (d : Nat))]] = (out ++ [d]).map oneN := by rw [List.map_append]; rfl
        have hst := hst d 1 (by omega) hle
        repeat' first | ((with_reducible (first | refine condD ?_ ?_ | refine condE ?_ ?_ | refine condN ?_ ?_ | refine condI ?_ ?_ | refine condS ?_ ?_)) <;> intro h) | (with_reducible refine And.intro ?_ ?_; omega) | (simp only [Z0,Z1,Z2,Z3,Z4,Z5,Z6,Z7,Z8,Z9,Za,Zb,Zc,Zd,Ze,Zf,List.cons.injEq,Zg,Zh,Zi,Zj,Zk,Zl,Zm,Zn,Zo,Zp,beq_self_eq_true,bne_self_eq_false,decide_true,decide_false,Zq,Zr,Zs,Zt,Zu,Zv,Zw,Zx,Zy,Zz,Y0,Y1,Y2,Y3,Y4,Y5,Y6,Y7,Y8,Y9,Ya,Yb,Yc,Yd,Ye,Yf,Yg,Yh,lk,ef,Yi,Yk,Yl,Ym,Yn,Yo,Yp,Yq,hv,Yr,ev,Ys,Yt,Yu,Yv,Yw,Yx,Yy,Yz,X0,X1,X2,X3,X4,X5,X6,X7,X8,X9,Xa,Xb,Xc,Xd,Xe,Xf,Xg,Xh,Xi,Xj,Xk,Xl,Xm,Xn,Xo,Value.oneCell',Xp,Xq,Xr,Xs,true_and,and_true,and_self,implies_true,Xt,Xu,Xv,Xw,false_implies,Xx,Xy,Xz,W0,W1,W2,W3,W4,W5,W6,W7,W8,W9,Wa,Wb,Wc,Wd,reduceCtorEq,if_true,if_false,We,↓reduceIte,Wf,Wg,Wh,Wi,Wj,Wk,ne_eq,not_false_eq_true,not_true_eq_false,Wl,Wm,r62_0,r62_1,r62_2,r62_3,r62_4,r62_6,r62_7,r62_8,r62_9,r62_10,r62_11,r62_12,r62_13,r62_5,r62_14,p62,l62_0,i1,i2,hi0,gA,gB,w1,w2,hneg,w3,happ,hw,List.length_map]) | (exfalso; omega)
        all_goals first | omega | exact again hJ (i + 1, out ++ [d], 1) (weak_mk (by simp only [Wn,Wo,Wp,Wq,Wr,Ws,Z4,Z5,Z6,Z7,Z8,Z9,Za,Zb,Zc,Zd,Ze,Zf,List.cons.injEq,Zg,Zh,Zi,Zj,Zk,Zl,Zm,Zn,Zo,Zp,beq_self_eq_true,bne_self_eq_false,decide_true,decide_false,Zq,Zr,Zs,Zt,Zu,Zv,Zw,Zx,Zy,Zz,Y0,hv,Yr,ev,Ys,Yt,Yu,Yv,Yw,Yx,Yy,Yz,X0,X1,X2,X3,X4,X5,X6,X7,X8,X9,Xa,Xb,Xc,Xd,Xe,Xf,Xg,Xh,Xi,Xj,Xk,Xl,Xm,Xn,Xo,Value.oneCell',Xp,Xq,Xr,Xs,true_and,and_true,and_self,implies_true,Xt,Xu,Xv,Xw,false_implies,Xx,Xy,Xz,W0,W1,W2,W3,W4,W5,W6,W7,W8,W9,Wa,Wb,Wc,Wd,reduceCtorEq,if_true,if_false,We,↓reduceIte,Wf,Wg,Wh,Wi,Wj,Wk,ne_eq,not_false_eq_true,not_true_eq_false,Wl,Nat.zero_ne_one]; first | done | rfl)) ⟨by simp only; omega, by simp [h2], dig_snoc h3 (by omega), Nat.le_refl _, hst⟩ (by simp only; omega)
      · obtain ⟨d, hd⟩ : ∃ d : Nat, (x : Int) - c - y = d := ⟨((x : Int) - c - y).toNat, by omega⟩
        have happ : out.map oneN ++ [[.val (.int .i64 ((x : Int) - c - y))]] = (out ++ [d]).map oneN := by rw [hd, List.map_append]; rfl
        have hst := hst d 0 (by omega) hle
        repeat' first | ((with_reducible (first | refine condD ?_ ?_ | refine condE ?_ ?_ | refine condN ?_ ?_ | refine condI ?_ ?_ | refine condS ?_ ?_)) <;> intro h) | (with_reducible refine And.intro ?_ ?_; omega) | (simp only [Z0,Z1,Z2,Z3,Z4,Z5,Z6,Z7,Z8,Z9,Za,Zb,Zc,Zd,Ze,Zf,List.cons.injEq,Zg,Zh,Zi,Zj,Zk,Zl,Zm,Zn,Zo,Zp,beq_self_eq_true,bne_self_eq_false,decide_true,decide_false,Zq,Zr,Zs,Zt,Zu,Zv,Zw,Zx,Zy,Zz,Y0,Y1,Y2,Y3,Y4,Y5,Y6,Y7,Y8,Y9,Ya,Yb,Yc,Yd,Ye,Yf,Yg,Yh,lk,ef,Yi,Yk,Yl,Ym,Yn,Yo,Yp,Yq,hv,Yr,ev,Ys,Yt,Yu,Yv,Yw,Yx,Yy,Yz,X0,X1,X2,X3,X4,X5,X6,X7,X8,X9,Xa,Xb,Xc,Xd,Xe,Xf,Xg,Xh,Xi,Xj,Xk,Xl,Xm,Xn,Xo,Value.oneCell',Xp,Xq,Xr,Xs,true_and,and_true,and_self,implies_true,Xt,Xu,Xv,Xw,false_implies,Xx,Xy,Xz,W0,W1,W2,W3,W4,W5,W6,W7,W8,W9,Wa,Wb,Wc,Wd,reduceCtorEq,if_true,if_false,We,↓reduceIte,Wf,Wg,Wh,Wi,Wj,Wk,ne_eq,not_false_eq_true,not_true_eq_false,Wl,Wm,r62_0,r62_1,r62_2,r62_3,r62_4,r62_6,r62_7,r62_8,r62_9,r62_10,r62_11,r62_12,r62_13,r62_5,r62_14,p62,l62_0,i1,i2,hi0,gA,gB,w1,w2,hneg,happ,hw,List.length_map]) | (exfalso; omega)
        all_goals first | omega | exact again hJ (i + 1, out ++ [d], 0) (weak_mk (by simp only [Wn,Wo,Wp,Wq,Wr,Ws,Z4,Z5,Z6,Z7,Z8,Z9,Za,Zb,Zc,Zd,Ze,Zf,List.cons.injEq,Zg,Zh,Zi,Zj,Zk,Zl,Zm,Zn,Zo,Zp,beq_self_eq_true,bne_self_eq_false,decide_true,decide_false,Zq,Zr,Zs,Zt,Zu,Zv,Zw,Zx,Zy,Zz,Y0,hv,Yr,ev,Ys,Yt,Yu,Yv,Yw,Yx,Yy,Yz,X0,X1,X2,X3,X4,X5,X6,X7,X8,X9,Xa,Xb,Xc,Xd,Xe,Xf,Xg,Xh,Xi,Xj,Xk,Xl,Xm,Xn,Xo,Value.oneCell',Xp,Xq,Xr,Xs,true_and,and_true,and_self,implies_true,Xt,Xu,Xv,Xw,false_implies,Xx,Xy,Xz,W0,W1,W2,W3,W4,W5,W6,W7,W8,W9,Wa,Wb,Wc,Wd,reduceCtorEq,if_true,if_false,We,↓reduceIte,Wf,Wg,Wh,Wi,Wj,Wk,ne_eq,not_false_eq_true,not_true_eq_false,Wl,Nat.zero_ne_one]; first | done | rfl)) ⟨by simp only; omega, by simp [h2], dig_snoc h3 (by omega), Nat.zero_le _, hst⟩ (by simp only; omega)
    · have i2 : ¬ (i : Int) < B.length := by omega
      have eB : B.getD i 0 = 0 := by rw [List.getD_eq_getElem?_getD, List.getElem?_eq_none (by omega)]; rfl
      rw [eB] at hst
      by_cases hneg : (x : Int) - c < 0
      · obtain ⟨d, hd⟩ : ∃ d : Nat, (x : Int) - c + 10000 = d := ⟨((x : Int) - c + 10000).toNat, by omega⟩
        have w3 : IntKind.i64.wrap ((x : Int) - c + 10000) = (d : Int) := by rw [wrap_in (by omega) (by omega)]; exact hd
        have happ : out.map oneN ++ [[.val (.int .i64 (d : Nat))]] = (out ++ [d]).map oneN := by rw [List.map_append]; rfl
        have hst := hst d 1 (by omega) hle
        repeat' first | ((with_reducible (first | refine condD ?_ ?_ | refine condE ?_ ?_ | refine condN ?_ ?_ | refine condI ?_ ?_ | refine condS ?_ ?_)) <;> intro h) | (with_reducible refine And.intro ?_ ?_; omega) | (simp only [Z0,Z1,Z2,Z3,Z4,Z5,Z6,Z7,Z8,Z9,Za,Zb,Zc,Zd,Ze,Zf,List.cons.injEq,Zg,Zh,Zi,Zj,Zk,Zl,Zm,Zn,Zo,Zp,beq_self_eq_true,bne_self_eq_false,decide_true,decide_false,Zq,Zr,Zs,Zt,Zu,Zv,Zw,Zx,Zy,Zz,Y0,Y1,Y2,Y3,Y4,Y5,Y6,Y7,Y8,Y9,Ya,Yb,Yc,Yd,Ye,Yf,Yg,Yh,lk,ef,Yi,Yk,Yl,Ym,Yn,Yo,Yp,Yq,hv,Yr,ev,Ys,Yt,Yu,Yv,Yw,Yx,Yy,Yz,X0,X1,X2,X3,X4,X5,X6,X7,X8,X9,Xa,Xb,Xc,Xd,Xe,Xf,Xg,Xh,Xi,Xj,Xk,Xl,Xm,Xn,Xo,Value.oneCell',Xp,Xq,Xr,Xs,true_and,and_true,and_self,implies_true,Xt,Xu,Xv,Xw,false_implies,Xx,Xy,Xz,W0,W1,W2,W3,W4,W5,W6,W7,W8,W9,Wa,Wb,Wc,Wd,reduceCtorEq,if_true,if_false,We,↓reduceIte,Wf,Wg,Wh,Wi,Wj,Wk,ne_eq,not_false_eq_true,not_true_eq_false,Wl,Wm,r62_0,r62_1,r62_2,r62_3,r62_4,r62_6,r62_7,r62_8,r62_9,r62_10,r62_11,r62_12,r62_13,r62_5,r62_14,p62,l62_0,i1,i2,hi0,gA,w1,hneg,w3,happ,hw,List.length_map]) | (exfalso; omega)
        all_goals first | omega | exact again hJ (i + 1, out ++ [d], 1) (weak_mk (by simp only [Wn,Wo,Wp,Wq,Wr,Ws,Z4,Z5,Z6,Z7,Z8,Z9,Za,Zb,Zc,Zd,Ze,Zf,List.cons.injEq,Zg,Zh,Zi,Zj,Zk,Zl,Zm,Zn,Zo,Zp,beq_self_eq_true,bne_self_eq_false,decide_true,decide_false,Zq,Zr,Zs,Zt,Zu,Zv,Zw,Zx,Zy,Zz,Y0,hv,Yr,ev,Ys,Yt,Yu,Yv,Yw,Yx,Yy,Yz,X0,X1,X2,X3,X4,X5,X6,X7,X8,X9,Xa,Xb,Xc,Xd,Xe,Xf,Xg,Xh,Xi,Xj,Xk,Xl,Xm,Xn,Xo,Value.oneCell',Xp,Xq,Xr,Xs,true_and,and_true,and_self,implies_true,Xt,Xu,Xv,Xw,false_implies,Xx,Xy,Xz,W0,W1,W2,W3,W4,W5,W6,W7,W8,W9,Wa,Wb,Wc,Wd,reduceCtorEq,if_true,if_false,We,↓reduceIte,Wf,Wg,Wh,Wi,Wj,Wk,ne_eq,not_false_eq_true,not_true_eq_false,Wl,Nat.zero_ne_one]; first | done | rfl)) ⟨by simp only; omega, by simp [h2], dig_snoc h3 (by omega), Nat.le_refl _, hst⟩ (by simp only; omega)
      · obtain ⟨d, hd⟩ : ∃ d : Nat, (x : Int) - c = d := ⟨((x : Int) - c).toNat, by omega⟩
        have happ : out.map oneN ++ [[.val (.int .i64 ((x : Int) - c))]] = (out ++ [d]).map oneN := by rw [hd, List.map_append]; rfl
        have hst := hst d 0 (by omega) hle
        repeat' first | ((with_reducible (first | refine condD ?_ ?_ | refine condE ?_ ?_ | refine condN ?_ ?_ | refine condI ?_ ?_ | refine condS ?_ ?_)) <;> intro h) | (with_reducible refine And.intro ?_ ?_; omega) | (simp only [Z0,Z1,Z2,Z3,Z4,Z5,Z6,Z7,Z8,Z9,Za,Zb,Zc,Zd,Ze,Zf,List.cons.injEq,Zg,Zh,Zi,Zj,Zk,Zl,Zm,Zn,Zo,Zp,beq_self_eq_true,bne_self_eq_false,decide_true,decide_false,Zq,Zr,Zs,Zt,Zu,Zv,Zw,Zx,Zy,Zz,Y0,Y1,Y2,Y3,Y4,Y5,Y6,Y7,Y8,Y9,Ya,Yb,Yc,Yd,Ye,Yf,Yg,Yh,lk,ef,Yi,Yk,Yl,Ym,Yn,Yo,Yp,Yq,hv,Yr,ev,Ys,Yt,Yu,Yv,Yw,Yx,Yy,Yz,X0,X1,X2,X3,X4,X5,X6,X7,X8,X9,Xa,Xb,Xc,Xd,Xe,Xf,Xg,Xh,Xi,Xj,Xk,Xl,Xm,Xn,Xo,Value.oneCell',Xp,Xq,Xr,Xs,true_and,and_true,and_self,implies_true,Xt,Xu,Xv,Xw,false_implies,Xx,Xy,Xz,W0,W1,W2,W3,W4,W5,W6,W7,W8,W9,Wa,Wb,Wc,Wd,reduceCtorEq,if_true,if_false,We,↓reduceIte,Wf,Wg,Wh,Wi,Wj,Wk,ne_eq,not_false_eq_true,not_true_eq_false,Wl,Wm,r62_0,r62_1,r62_2,r62_3,r62_4,r62_6,r62_7,r62_8,r62_9,r62_10,r62_11,r62_12,r62_13,r62_5,r62_14,p62,l62_0,i1,i2,hi0,gA,w1,hneg,happ,hw,List.length_map]) | (exfalso; omega)
        all_goals first | omega | exact again hJ (i + 1, out ++ [d], 0) (weak_mk (by simp only [Wn,Wo,Wp,Wq,Wr,Ws,Z4,Z5,Z6,Z7,Z8,Z9,Za,Zb,Zc,Zd,Ze,Zf,List.cons.injEq,Zg,Zh,Zi,Zj,Zk,Zl,Zm,Zn,Zo,Zp,beq_self_eq_true,bne_self_eq_false,decide_true,decide_false,Zq,Zr,Zs,Zt,Zu,Zv,Zw,Zx,Zy,Zz,Y0,hv,Yr,ev,Ys,Yt,Yu,Yv,Yw,Yx,Yy,Yz,X0,X1,X2,X3,X4,X5,X6,X7,X8,X9,Xa,Xb,Xc,Xd,Xe,Xf,Xg,Xh,Xi,Xj,Xk,Xl,Xm,Xn,Xo,Value.oneCell',Xp,Xq,Xr,Xs,true_and,and_true,and_self,implies_true,Xt,Xu,Xv,Xw,false_implies,Xx,Xy,Xz,W0,W1,W2,W3,W4,W5,W6,W7,W8,W9,Wa,Wb,Wc,Wd,reduceCtorEq,if_true,if_false,We,↓reduceIte,Wf,Wg,Wh,Wi,Wj,Wk,ne_eq,not_false_eq_true,not_true_eq_false,Wl,Nat.zero_ne_one]; first | done | rfl)) ⟨by simp only; omega, by simp [h2], dig_snoc h3 (by omega), Nat.zero_le _, hst⟩ (by simp only; omega)
  have i1 : ¬ (i : Int) < A.length := by omega
  have hie : out.length = A.length := by omega
  subst h2
  have hv' := hE c out h3 hba hie h5
  have hT := trim_c out h3 (by omega)
  rw [hv'] at hT
  clear hJ
  repeat' first | ((with_reducible (first | refine condD ?_ ?_ | refine condE ?_ ?_ | refine condN ?_ ?_ | refine condI ?_ ?_ | refine condS ?_ ?_)) <;> intro h) | (with_reducible refine And.intro ?_ ?_; omega) | (simp only [Z0,Z1,Z2,Z3,Z4,Z5,Z6,Z7,Z8,Z9,Za,Zb,Zc,Zd,Ze,Zf,List.cons.injEq,Zg,Zh,Zi,Zj,Zk,Zl,Zm,Zn,Zo,Zp,beq_self_eq_true,bne_self_eq_false,decide_true,decide_false,Zq,Zr,Zs,Zt,Zu,Zv,Zw,Zx,Zy,Zz,Y0,Y1,Y2,Y3,Y4,Y5,Y6,Y7,Y8,Y9,Ya,Yb,Yc,Yd,Ye,Yf,Yg,Yh,lk,ef,Yi,Yk,Yl,Ym,Yn,Yo,Yp,Yq,hv,Yr,ev,Ys,Yt,Yu,Yv,Yw,Yx,Yy,Yz,X0,X1,X2,X3,X4,X5,X6,X7,X8,X9,Xa,Xb,Xc,Xd,Xe,Xf,Xg,Xh,Xi,Xj,Xk,Xl,Xm,Xn,Xo,Value.oneCell',Xp,Xq,Xr,Xs,true_and,and_true,and_self,implies_true,Xt,Xu,Xv,Xw,false_implies,Xx,Xy,Xz,W0,W1,W2,W3,W4,W5,W6,W7,W8,W9,Wa,Wb,Wc,Wd,reduceCtorEq,if_true,if_false,We,↓reduceIte,Wf,Wg,Wh,Wi,Wj,Wk,ne_eq,not_false_eq_true,not_true_eq_false,Wl,Wm,r62_0,r62_1,r62_2,r62_3,r62_4,r62_6,r62_7,r62_8,r62_9,r62_10,r62_11,r62_12,r62_13,r62_5,r62_14,p62,l62_0,i1,List.length_map]) | (exfalso; omega)
  refine opwG (weak_mk (l := [(5, .ro (out.map oneN))]) ?_) ?_
  · simp only [Wn,Wo,Wp,Wq,Wr,Ws,Z4,Z5,Z6,Z7,Z8,Z9,Za,Zb,Zc,Zd,Ze,Zf,List.cons.injEq,Zg,Zh,Zi,Zj,Zk,Zl,Zm,Zn,Zo,Zp,beq_self_eq_true,bne_self_eq_false,decide_true,decide_false,Zq,Zr,Zs,Zt,Zu,Zv,Zw,Zx,Zy,Zz,Y0,hv,Yr,ev,Ys,Yt,Yu,Yv,Yw,Yx,Yy,Yz,X0,X1,X2,X3,X4,X5,X6,X7,X8,X9,Xa,Xb,Xc,Xd,Xe,Xf,Xg,Xh,Xi,Xj,Xk,Xl,Xm,Xn,Xo,Value.oneCell',Xp,Xq,Xr,Xs,true_and,and_true,and_self,implies_true,Xt,Xu,Xv,Xw,false_implies,Xx,Xy,Xz,W0,W1,W2,W3,W4,W5,W6,W7,W8,W9,Wa,Wb,Wc,Wd,reduceCtorEq,if_true,if_false,We,↓reduceIte,Wf,Wg,Wh,Wi,Wj,Wk,ne_eq,not_false_eq_true,not_true_eq_false,Wl,Nat.zero_ne_one]
  repeat' first | ((with_reducible (first | refine condD ?_ ?_ | refine condE ?_ ?_ | refine condN ?_ ?_ | refine condI ?_ ?_ | refine condS ?_ ?_)) <;> intro h) | ((refine callG hT ?_)) | (with_reducible refine And.intro ?_ ?_; omega) | (simp only [Z0,Z1,Z2,Z3,Z4,Z5,Z6,Z7,Z8,Z9,Za,Zb,Zc,Zd,Ze,Zf,List.cons.injEq,Zg,Zh,Zi,Zj,Zk,Zl,Zm,Zn,Zo,Zp,beq_self_eq_true,bne_self_eq_false,decide_true,decide_false,Zq,Zr,Zs,Zt,Zu,Zv,Zw,Zx,Zy,Zz,Y0,Y1,Y2,Y3,Y4,Y5,Y6,Y7,Y8,Y9,Ya,Yb,Yc,Yd,Ye,Yf,Yg,Yh,lk,ef,Yi,Yk,Yl,Ym,Yn,Yo,Yp,Yq,hv,Yr,ev,Ys,Yt,Yu,Yv,Yw,Yx,Yy,Yz,X0,X1,X2,X3,X4,X5,X6,X7,X8,X9,Xa,Xb,Xc,Xd,Xe,Xf,Xg,Xh,Xi,Xj,Xk,Xl,Xm,Xn,Xo,Value.oneCell',Xp,Xq,Xr,Xs,true_and,and_true,and_self,implies_true,Xt,Xu,Xv,Xw,false_implies,Xx,Xy,Xz,W0,W1,W2,W3,W4,W5,W6,W7,W8,W9,Wa,Wb,Wc,Wd,reduceCtorEq,if_true,if_false,We,↓reduceIte,Wf,Wg,Wh,Wi,Wj,Wk,ne_eq,not_false_eq_true,not_true_eq_false,Wl,Wm,r62_0,r62_1,r62_2,r62_3,r62_4,r62_6,r62_7,r62_8,r62_9,r62_10,r62_11,r62_12,r62_13,r62_5,r62_14,p62,l62_0]) | (exfalso; omega)
end Go.Proofs.YtjeemcpdmiajmaaGreatDoor
