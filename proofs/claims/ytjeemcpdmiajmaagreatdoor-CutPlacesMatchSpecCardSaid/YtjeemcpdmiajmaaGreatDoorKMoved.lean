/- Times and scales in their bounds. -/
import Derived.Test.YtjeemcpdmiajmaaGreatDoorKNat
import Derived.Test.YtjeemcpdmiajmaaGreatDoorDmP
import Derived.Test.YtjeemcpdmiajmaaGreatDoorKPiece
namespace Go.Proofs.YtjeemcpdmiajmaaGreatDoor
open Go.RowKit
set_option linter.unusedSimpArgs false

theorem all_int (x : List AV) (h : HasAll [.int .i64] x) : ∃ n : Int, x = oneI n ∧ I64 n := by
  obtain ⟨v0, r, rfl, h0, h⟩ := all_cons h
  obtain rfl := all_nil h
  obtain ⟨n, rfl, hn⟩ := has_int h0
  exact ⟨n, rfl, hn⟩
theorem noTime_bd {n : Int} (h : noTime n = false) : -1000000000000000 ≤ n ∧ n ≤ 1000000000000000 := outB_f h
theorem noTime_far {n : Int} (h : noTime n = true) : n < -1000000000000000 ∨ 1000000000000000 < n := outB_t h
theorem noScale_bd {n : Int} (h : noScale n = false) : 1 ≤ n ∧ n ≤ 1000000000 := outB_f h
theorem noTime_of {n : Int} (h1 : -1000000000000000 ≤ n) (h2 : n ≤ 1000000000000000) : noTime n = false := by
  simp only [noTime, outB, Bool.or_eq_false_iff, decide_eq_false_iff_not]; omega
end Go.Proofs.YtjeemcpdmiajmaaGreatDoor
/- Samples that are right: their times and sizes, in plain numbers. -/
namespace Go.Proofs.YtjeemcpdmiajmaaGreatDoor
open Go.RowKit
open _root_.List renaming take_succ_cons → Z0
set_option linter.unusedSimpArgs false

def Timed : Int → List Smp → Prop
  | _, [] => True
  | t, s :: r => s.time = t ∧ Timed (t + s.step) r
theorem badSmp_bd {s : Smp} (h : badSmp s = false) : -1000000000000000 ≤ s.time ∧ s.time ≤ 1000000000000000 ∧ 0 ≤ s.step ∧ s.step ≤ 1000000000 ∧ -1000000000 ≤ s.shift ∧ s.shift ≤ 1000000000 ∧ 0 ≤ s.size ∧ s.size ≤ 100000 := by
  simp only [badSmp, Bool.or_eq_false_iff] at h
  obtain ⟨⟨⟨h1, h2⟩, h3⟩, h4⟩ := h
  have := noTime_bd h1
  have := outB_f h2
  have := outB_f h3
  have := outB_f h4
  omega
theorem endW_eq {s : Smp} (h : badSmp s = false) : s.endW = s.time + s.step := by
  have := badSmp_bd h
  exact wrap_in (by omega) (by omega)
theorem smpGo_0 : ∀ {l : List Smp} {p : Option Int}, smpGo p l = 0 → (∀ s ∈ l, badSmp s = false) ∧ (∀ q, p = some q → Timed q l) ∧ (∀ s r, l = s :: r → Timed s.time l)
  | [], _, _ => ⟨by simp, fun _ _ => trivial, fun _ _ e => by cases e⟩
  | s :: r, p, h => by
    unfold smpGo at h
    split at h
    · cases h
    · rename_i h1
      split at h
      · cases h
      · rename_i h2
        obtain ⟨a, b, _⟩ := smpGo_0 h
        have hs : badSmp s = false := by simpa using h1
        have hb := b _ rfl
        rw [endW_eq hs] at hb
        refine ⟨?_, ?_, ?_⟩
        · intro x hx
          rcases List.mem_cons.1 hx with rfl | hx
          · exact hs
          · exact a x hx
        · rintro q rfl
          have hq : s.time = q := by simpa using h2
          subst hq
          exact ⟨rfl, hb⟩
        · intro s' r' e
          injection e with e1 e2
          subst e1
          exact ⟨rfl, hb⟩
theorem smpF_0 {l : List Smp} (h : smpF l = 0) : l.length ≤ 5000 ∧ (∀ s ∈ l, badSmp s = false) ∧ (∀ s r, l = s :: r → Timed s.time l) ∧ ∀ s, l.getLast? = some s → noTime (s.time + s.step) = false := by
  unfold smpF at h
  split at h
  · cases h
  · split at h
    · rename_i h1; exact absurd h h1
    · rename_i h1
      obtain ⟨a, _, b⟩ := smpGo_0 (show smpGo none l = 0 by simpa using h1)
      split at h
      · cases h
      · rename_i h2
        refine ⟨by omega, a, b, fun s hs => ?_⟩
        rw [hs] at h2
        have := a s (List.mem_of_getLast? hs)
        rw [← endW_eq this]
        simpa using h2
theorem timed_bd : ∀ {l : List Smp} {t : Int}, Timed t l → (∀ s ∈ l, badSmp s = false) → ∀ k (h : k < l.length), t ≤ l[k].time ∧ l[k].time ≤ t + 1000000000 * k
  | [], _, _, _, k, h => by simp at h
  | s :: r, t, ht, hb, k, h => by
    obtain ⟨h1, h2⟩ := ht
    have b := badSmp_bd (hb s List.mem_cons_self)
    cases k with
    | zero => simp; omega
    | succ k =>
      have := timed_bd h2 (fun x hx => hb x (List.mem_cons_of_mem _ hx)) k (by simpa using h)
      simp only [List.getElem_cons_succ]
      omega
/-- The sum of sizes. -/
def sizes : List Smp → Int
  | [] => 0
  | s :: r => s.size + sizes r
theorem sizes_bd : ∀ {l : List Smp}, (∀ s ∈ l, badSmp s = false) → 0 ≤ sizes l ∧ sizes l ≤ 100000 * l.length
  | [], _ => by simp [sizes]
  | s :: r, h => by
    have b := badSmp_bd (h s List.mem_cons_self)
    have := sizes_bd fun x hx => h x (List.mem_cons_of_mem s hx)
    simp only [sizes, List.length_cons]; omega
theorem sizes_take {l : List Smp} : ∀ {k : Nat} (h : k < l.length), sizes (l.take (k + 1)) = sizes (l.take k) + l[k].size := by
  induction l with
  | nil => intro k h; simp at h
  | cons s r ih =>
    intro k h
    cases k with
    | zero => simp [sizes]
    | succ k =>
      have := ih (k := k) (by simpa using h)
      simp only [List.take_succ_cons, sizes, List.getElem_cons_succ] at this ⊢
      omega
theorem sizes_split (l : List Smp) (k : Nat) : sizes l = sizes (l.take k) + sizes (l.drop k) := by
  induction l generalizing k with
  | nil => simp [sizes]
  | cons s r ih =>
    cases k with
    | zero => simp [sizes]
    | succ k => simp only [List.take_succ_cons, List.drop_succ_cons, sizes]; rw [ih k]; omega
end Go.Proofs.YtjeemcpdmiajmaaGreatDoor
/- Times of presentation: sample.presents, Presents; the house awake, by the machine on data. -/
namespace Go.Proofs.YtjeemcpdmiajmaaGreatDoor
open Go.RowKit
open Go.Proofs.YtjeemcpdmiajmaaGreatDoor renaming done_eq → Z0, done_eq' → Z1, donet_eq → Z2, donet_eq' → Z3, fin_val → Z4, fin_tup → Z5, fin_agg → Z6, fin_ro → Z7, res_one → Z8, res_more → Z9, rv_t → Za, rv_c → Zb, rv_l → Zc, int_eq → Zg, bool_eq → Zh, toNat_pred → Zr, toNat_succ → Zs, cnd_t → Zu, cnd_f → Zv, grd_tt → Zw, grd_u → Zx, grd_tf → Zy, grd_ft → Zz, grd_ff → Y0, g_skip → Y1, g_block → Y2, g_exit → Y3, g_cond → Y4, o_guard → Y5, o_load → Y6, o_loads → Y7, o_alloc → Y8, o_stores → Y9, eqAV → Ya, view_t → Yb, view_c → Yc, view_nil → Yd, view_fn → Ye, look_own → Yf, look_box → Yg, look_junk → Yh, look_val → Yi, look_nilsl → Yj, look_ro → Yk, look_roAt → Yl, look_agg → Ym, look_tup → Yn, look_clo → Yo, look_alias → Yp, look_ref → Yq, look_into → Yr, rowOf → Ys, cellsOf → Yt, argv → Yu, vbin → Yv, elemOf → Yw, putParts → Yx, setAt → Yy, put_at → X5, mk_at → X6, mk_nil → X7, initSt → X8
open Go.Proofs.YtjeemcpdmiajmaaGreatDoor.AV.tup renaming injEq → Zd
open Go.Proofs.YtjeemcpdmiajmaaGreatDoor.AV.agg renaming injEq → Ze
open Go.Proofs.YtjeemcpdmiajmaaGreatDoor.AV.ro renaming injEq → Zf
open _root_.Int renaming toNat_natCast → Zi, reduceToNat → Zj, toNat_zero → Zk, toNat_one → Zl, reduceLE → Zm, reduceLT → Zn, reduceBEq → Zo, reduceBNe → Zp, reduceNeg → Zq
open _root_.List renaming length_map → Zt, map_cons → X9, map_nil → Xa, forall_mem_cons → Xb, not_mem_nil → Xc, length_cons → Xd, length_nil → Xe, getD_cons_zero → Xf, getD_cons_succ → Xg, getD_nil → Xh, drop_succ_cons → Xi, drop_zero → Xj, take_succ_cons → Xk, take_zero → Xl, set_cons_zero → Xm, set_cons_succ → Xn, all_cons → Xo, all_nil → Xp
open Go.Proofs.YtjeemcpdmiajmaaGreatDoor.ASt renaming rid → Yz, free → X0
open Go.Proofs.YtjeemcpdmiajmaaGreatDoor.AV renaming kill → X1, isHome → X2, noLoan → X3, cellOK → X4
open _root_.Bool renaming and_true → Xq, true_and → Xr, not_true → Xs, not_false → Xt, false_eq_true → Xu
open _root_.Nat renaming reduceEqDiff → Xv, reduceAdd → Xw, reduceSub → Xx, reduceMul → Xy, reduceLeDiff → Xz, reduceLT → W0, one_ne_zero → W1, zero_ne_one → W2
open Go.Proofs.YtjeemcpdmiajmaaGreatDoor.AV.val renaming injEq → W3
set_option linter.unusedSimpArgs false
--@short

def presL (l : List Smp) : List Int := l.map fun s => s.time + s.shift
/-! headend/sample.presents -/
def r46_0 : List POp := [⟨2, .asg .nil, none⟩]
def r46_1 : List POp := [⟨3, .asg .nil, none⟩]
def r46_2 : List POp := [⟨6, .mv (.t 0), none⟩,
  ⟨7, .len (.t 6), none⟩,
  ⟨8, .mv (.c (.int .i64 0)), none⟩]
def r46_3 : List POp := [⟨9, .bin .lss (.t 8) (.t 7), none⟩]
def r46_4 : List POp := [⟨10, .idx 5 (.t 6) (.t 8), none⟩,
  ⟨11, .loads 5 (.t 10), none⟩,
  ⟨5, .alloc [.int .i64 0, .int .i64 0, .int .i64 0, .int .i64 0, .bool false], none⟩,
  ⟨0, .stores 5 (.t 5) (.t 11), none⟩]
def r46_5 : List POp := [⟨12, .mv (.t 3), none⟩,
  ⟨13, .fld 0 (.t 5), none⟩,
  ⟨14, .load (.t 13), none⟩,
  ⟨15, .fld 2 (.t 5), none⟩,
  ⟨16, .load (.t 15), none⟩,
  ⟨17, .bin .add (.t 14) (.t 16), none⟩,
  ⟨18, .row 3 1 [.t 17], none⟩,
  ⟨19, .app 3 1 8 (.t 12) (.t 18), none⟩,
  ⟨3, .asg (.t 19), none⟩]
def r46_6 : List POp := [⟨20, .bin .add (.t 8) (.c (.int .i64 1)), none⟩,
  ⟨8, .mv (.t 20), none⟩]
def r46_7 : List POp := [⟨21, .mv (.t 3), none⟩,
  ⟨2, .asg (.t 21), none⟩]
def l46_0 : PCode := .seq (.ops r46_3) (.seq (.cond (.t 9) (.skip) (.exit 0)) (.seq (.block 1 (.seq (.ops r46_4) (.ops r46_5))) (.ops r46_6)))
def p46 : PCode := .seq (.ops r46_0) (.seq (.ops r46_1) (.seq (.seq (.ops r46_2) (.block 0 (.loop l46_0))) (.seq (.ops r46_7) (.ret))))
theorem ok46 : okFunc Tryz.prog 46 [.t 2] 1 p46 = true := by kernel_rfl
theorem presents_c (l : List Smp) (hl : l.length ≤ 5000) (hb : ∀ s ∈ l, badSmp s = false) : CallOK Tryz.prog 46 [.ro (l.map Smp.av)] (.ro ((presL l).map oneI)) := by
  refine call_of mixed ok46 rfl ?_
  repeat' first | ((with_reducible (first | refine condD ?_ ?_ | refine condE ?_ ?_ | refine condN ?_ ?_ | refine condI ?_ ?_ | refine condS ?_ ?_)) <;> intro h) | (with_reducible refine And.intro ?_ ?_; omega) | (simp only [Z0,Z1,Z2,Z3,Z4,Z5,Z6,Z7,Z8,Z9,Za,Zb,Zc,Zd,Ze,Zf,List.cons.injEq,Zg,Zh,Zi,Zj,Zk,Zl,Zm,Zn,Zo,Zp,beq_self_eq_true,bne_self_eq_false,decide_true,decide_false,Zq,Zr,Zs,Zt,Zu,Zv,Zw,Zx,Zy,Zz,Y0,Y1,g_ops,g_seq,Y2,Y3,g_ret,x_c,x_o,x_l,x_b,g_b,g_nil,r_all,o_nil,Y4,Y5,lk,ef,o_mv,o_bin,Y6,Y7,o_fld,o_idx,o_len,Y8,o_row,o_asg,o_app,Y9,hv,Ya,ev,Yb,Yc,Yd,Ye,Yf,Yg,Yh,Yi,Yj,Yk,Yl,Ym,Yn,Yo,Yp,Yq,Yr,Ys,Yt,Yu,Yv,vun,bnd,Yw,Yx,Yy,zav,Yz,X0,X1,X2,X3,X4,Value.oneCell',X5,X6,X7,X8,true_and,and_true,and_self,implies_true,X9,Xa,Xb,Xc,false_implies,Xd,Xe,Xf,Xg,Xh,Xi,Xj,Xk,Xl,Xm,Xn,Xo,Xp,Xq,Xr,Xs,Xt,reduceCtorEq,if_true,if_false,Xu,↓reduceIte,Xv,Xw,Xx,Xy,Xz,W0,ne_eq,not_false_eq_true,not_true_eq_false,W1,W2,r46_0,r46_1,r46_2,r46_3,r46_4,r46_5,r46_6,r46_7,p46]) | (exfalso; omega)
  refine loopS (fun k : Nat => mk [(3, .own 3 1 ((presL (l.take k)).map oneI)), (6, .ro (l.map Smp.av)), (7, .val (.int .i64 l.length)), (8, .val (.int .i64 k))]) (fun k => k ≤ l.length) (fun k => l.length - k) 0 (weak_mk ?_) (Nat.zero_le _) ?_
  · simp only [wk_cons,wk_nil,wk1,vint_eq,vbool_eq,W3,Z4,Z5,Z6,Z7,Z8,Z9,Za,Zb,Zc,Zd,Ze,Zf,List.cons.injEq,Zg,Zh,Zi,Zj,Zk,Zl,Zm,Zn,Zo,Zp,beq_self_eq_true,bne_self_eq_false,decide_true,decide_false,Zq,Zr,Zs,Zt,Zu,Zv,Zw,Zx,Zy,Zz,Y0,hv,Ya,ev,Yb,Yc,Yd,Ye,Yf,Yg,Yh,Yi,Yj,Yk,Yl,Ym,Yn,Yo,Yp,Yq,Yr,Ys,Yt,Yu,Yv,vun,bnd,Yw,Yx,Yy,zav,Yz,X0,X1,X2,X3,X4,Value.oneCell',X5,X6,X7,X8,true_and,and_true,and_self,implies_true,X9,Xa,Xb,Xc,false_implies,Xd,Xe,Xf,Xg,Xh,Xi,Xj,Xk,Xl,Xm,Xn,Xo,Xp,Xq,Xr,Xs,Xt,reduceCtorEq,if_true,if_false,Xu,↓reduceIte,Xv,Xw,Xx,Xy,Xz,W0,ne_eq,not_false_eq_true,not_true_eq_false,W1,Nat.zero_ne_one]
    simp [presL]
  · rintro J hJ k hk
    simp only [Z0,Z1,Z2,Z3,Z4,Z5,Z6,Z7,Z8,Z9,Za,Zb,Zc,Zd,Ze,Zf,List.cons.injEq,Zg,Zh,Zi,Zj,Zk,Zl,Zm,Zn,Zo,Zp,beq_self_eq_true,bne_self_eq_false,decide_true,decide_false,Zq,Zr,Zs,Zt,Zu,Zv,Zw,Zx,Zy,Zz,Y0,Y1,g_ops,g_seq,Y2,Y3,g_ret,x_c,x_o,x_l,x_b,g_b,g_nil,r_all,o_nil,Y4,Y5,lk,ef,o_mv,o_bin,Y6,Y7,o_fld,o_idx,o_len,Y8,o_row,o_asg,o_app,Y9,hv,Ya,ev,Yb,Yc,Yd,Ye,Yf,Yg,Yh,Yi,Yj,Yk,Yl,Ym,Yn,Yo,Yp,Yq,Yr,Ys,Yt,Yu,Yv,vun,bnd,Yw,Yx,Yy,zav,Yz,X0,X1,X2,X3,X4,Value.oneCell',X5,X6,X7,X8,true_and,and_true,and_self,implies_true,X9,Xa,Xb,Xc,false_implies,Xd,Xe,Xf,Xg,Xh,Xi,Xj,Xk,Xl,Xm,Xn,Xo,Xp,Xq,Xr,Xs,Xt,reduceCtorEq,if_true,if_false,Xu,↓reduceIte,Xv,Xw,Xx,Xy,Xz,W0,ne_eq,not_false_eq_true,not_true_eq_false,W1,W2,r46_0,r46_1,r46_2,r46_3,r46_4,r46_5,r46_6,r46_7,p46,l46_0]
    refine condD (fun h => ?_) (fun h => ?_)
    · have hlt : k < l.length := by omega
      have hw := i_add1 k (by omega)
      have b2 := badSmp_bd (hb l[k] (List.getElem_mem hlt))
      have w1 : IntKind.i64.wrap (l[k].time + l[k].shift) = l[k].time + l[k].shift := wrap_in (by omega) (by omega)
      have htk : presL (l.take (k + 1)) = presL (l.take k) ++ [l[k].time + l[k].shift] := by
        unfold presL; rw [List.take_succ_eq_append_getElem hlt, List.map_append]; rfl
      have htl : (presL (l.take k)).length = k := by unfold presL; rw [List.length_map, List.length_take]; omega
      repeat' first | ((with_reducible (first | refine condD ?_ ?_ | refine condE ?_ ?_ | refine condN ?_ ?_ | refine condI ?_ ?_ | refine condS ?_ ?_)) <;> intro h) | (with_reducible refine And.intro ?_ ?_; omega) | (simp only [Z0,Z1,Z2,Z3,Z4,Z5,Z6,Z7,Z8,Z9,Za,Zb,Zc,Zd,Ze,Zf,List.cons.injEq,Zg,Zh,Zi,Zj,Zk,Zl,Zm,Zn,Zo,Zp,beq_self_eq_true,bne_self_eq_false,decide_true,decide_false,Zq,Zr,Zs,Zt,Zu,Zv,Zw,Zx,Zy,Zz,Y0,Y1,g_ops,g_seq,Y2,Y3,g_ret,x_c,x_o,x_l,x_b,g_b,g_nil,r_all,o_nil,Y4,Y5,lk,ef,o_mv,o_bin,Y6,Y7,o_fld,o_idx,o_len,Y8,o_row,o_asg,o_app,Y9,hv,Ya,ev,Yb,Yc,Yd,Ye,Yf,Yg,Yh,Yi,Yj,Yk,Yl,Ym,Yn,Yo,Yp,Yq,Yr,Ys,Yt,Yu,Yv,vun,bnd,Yw,Yx,Yy,zav,Yz,X0,X1,X2,X3,X4,Value.oneCell',X5,X6,X7,X8,true_and,and_true,and_self,implies_true,X9,Xa,Xb,Xc,false_implies,Xd,Xe,Xf,Xg,Xh,Xi,Xj,Xk,Xl,Xm,Xn,Xo,Xp,Xq,Xr,Xs,Xt,reduceCtorEq,if_true,if_false,Xu,↓reduceIte,Xv,Xw,Xx,Xy,Xz,W0,ne_eq,not_false_eq_true,not_true_eq_false,W1,W2,r46_0,r46_1,r46_2,r46_3,r46_4,r46_5,r46_6,r46_7,p46,l46_0,Smp.av,getD_map hlt,w1,htl]) | (exfalso; omega)
      exact again hJ (k + 1) (weak_mk (by simp only [wk_cons,wk_nil,wk1,vint_eq,vbool_eq,W3,Z4,Z5,Z6,Z7,Z8,Z9,Za,Zb,Zc,Zd,Ze,Zf,List.cons.injEq,Zg,Zh,Zi,Zj,Zk,Zl,Zm,Zn,Zo,Zp,beq_self_eq_true,bne_self_eq_false,decide_true,decide_false,Zq,Zr,Zs,Zt,Zu,Zv,Zw,Zx,Zy,Zz,Y0,hv,Ya,ev,Yb,Yc,Yd,Ye,Yf,Yg,Yh,Yi,Yj,Yk,Yl,Ym,Yn,Yo,Yp,Yq,Yr,Ys,Yt,Yu,Yv,vun,bnd,Yw,Yx,Yy,zav,Yz,X0,X1,X2,X3,X4,Value.oneCell',X5,X6,X7,X8,true_and,and_true,and_self,implies_true,X9,Xa,Xb,Xc,false_implies,Xd,Xe,Xf,Xg,Xh,Xi,Xj,Xk,Xl,Xm,Xn,Xo,Xp,Xq,Xr,Xs,Xt,reduceCtorEq,if_true,if_false,Xu,↓reduceIte,Xv,Xw,Xx,Xy,Xz,W0,ne_eq,not_false_eq_true,not_true_eq_false,W1,Nat.zero_ne_one]; exact ⟨by rw [htk]; simp [oneI], hw⟩)) (by omega) (by omega)
    · have hke : k = l.length := by omega
      subst hke
      rw [List.take_length]
      repeat' first | ((with_reducible (first | refine condD ?_ ?_ | refine condE ?_ ?_ | refine condN ?_ ?_ | refine condI ?_ ?_ | refine condS ?_ ?_)) <;> intro h) | (with_reducible refine And.intro ?_ ?_; omega) | (simp only [Z0,Z1,Z2,Z3,Z4,Z5,Z6,Z7,Z8,Z9,Za,Zb,Zc,Zd,Ze,Zf,List.cons.injEq,Zg,Zh,Zi,Zj,Zk,Zl,Zm,Zn,Zo,Zp,beq_self_eq_true,bne_self_eq_false,decide_true,decide_false,Zq,Zr,Zs,Zt,Zu,Zv,Zw,Zx,Zy,Zz,Y0,Y1,g_ops,g_seq,Y2,Y3,g_ret,x_c,x_o,x_l,x_b,g_b,g_nil,r_all,o_nil,Y4,Y5,lk,ef,o_mv,o_bin,Y6,Y7,o_fld,o_idx,o_len,Y8,o_row,o_asg,o_app,Y9,hv,Ya,ev,Yb,Yc,Yd,Ye,Yf,Yg,Yh,Yi,Yj,Yk,Yl,Ym,Yn,Yo,Yp,Yq,Yr,Ys,Yt,Yu,Yv,vun,bnd,Yw,Yx,Yy,zav,Yz,X0,X1,X2,X3,X4,Value.oneCell',X5,X6,X7,X8,true_and,and_true,and_self,implies_true,X9,Xa,Xb,Xc,false_implies,Xd,Xe,Xf,Xg,Xh,Xi,Xj,Xk,Xl,Xm,Xn,Xo,Xp,Xq,Xr,Xs,Xt,reduceCtorEq,if_true,if_false,Xu,↓reduceIte,Xv,Xw,Xx,Xy,Xz,W0,ne_eq,not_false_eq_true,not_true_eq_false,W1,W2,r46_0,r46_1,r46_2,r46_3,r46_4,r46_5,r46_6,r46_7,p46,l46_0]) | (exfalso; omega)
end Go.Proofs.YtjeemcpdmiajmaaGreatDoor
/- Copies of samples: slices.Clone, sample.moved, checked, by the machine on data. -/
namespace Go.Proofs.YtjeemcpdmiajmaaGreatDoor
open Go.RowKit
set_option linter.unusedSimpArgs false

def Smp.late (by' : Int) (s : Smp) : Smp := ⟨s.time + by', s.step, s.shift, s.size, s.key⟩
def Smp.less (d : Int) (s : Smp) : Smp := ⟨s.time, s.step, s.shift - d, s.size, s.key⟩
def minS : Int → List Smp → Int
  | m, [] => m
  | m, s :: r => minS (if s.shift < m then s.shift else m) r
theorem minS_bd : ∀ {l : List Smp} {m : Int}, (∀ s ∈ l, badSmp s = false) → -1000000000 ≤ m → m ≤ 1000000000 → -1000000000 ≤ minS m l ∧ minS m l ≤ 1000000000
  | [], m, _, h1, h2 => ⟨h1, h2⟩
  | s :: r, m, h, h1, h2 => by
    have b := badSmp_bd (h s List.mem_cons_self)
    rw [minS]
    exact minS_bd (fun x hx => h x (List.mem_cons_of_mem _ hx)) (by split <;> omega) (by split <;> omega)
def tightBy (l : List Smp) : Int := minS (l.headD ⟨0, 0, 0, 0, false⟩).shift l
def tightL (l : List Smp) : List Smp := (l.map (Smp.late (tightBy l))).map (Smp.less (tightBy l))
def tightF (l : List Smp) : List Smp × Int × Int := if smpF l ≠ 0 then ([], 0, smpF l) else if l.length = 0 then ([], 0, 0) else if smpF (tightL l) ≠ 0 then ([], 0, smpF (tightL l)) else (tightL l, tightBy l, 0)
end Go.Proofs.YtjeemcpdmiajmaaGreatDoor
