/- The greatest number of bytes in a window, in plain numbers. -/
import Derived.Test.YtbdcnooafacldaaDoorKRate
import Derived.Test.YtbdcnooafacldaaDoorKGetD
namespace Go.Proofs.YtbdcnooafacldaaDoor
open Go.RowKit
set_option linter.unusedSimpArgs false

def smp0 : Smp := ⟨0, 0, 0, 0, false⟩
def tmN (l : List Smp) (k : Nat) : Int := (l.getD k smp0).time
def szN (l : List Smp) (k : Nat) : Int := sizes (l.take k)
theorem tmN_in {l : List Smp} {k : Nat} (h : k < l.length) : tmN l k = l[k].time := by unfold tmN; rw [getD_in h]
theorem szN_succ {l : List Smp} {k : Nat} (h : k < l.length) : szN l (k + 1) = szN l k + l[k].size := sizes_take h
theorem szN_0 (l : List Smp) : szN l 0 = 0 := by simp [szN, sizes]
/-- A right strand of samples: times that do not fall, sizes that are not below 0. -/
structure Good (l : List Smp) : Prop where
  tm : ∀ i k, i ≤ k → k < l.length → tmN l i ≤ tmN l k
  sz : ∀ i k, i ≤ k → k ≤ l.length → szN l i ≤ szN l k
theorem good_of {l : List Smp} (hb : ∀ s ∈ l, badSmp s = false) (ht : ∀ s r, l = s :: r → Timed s.time l) : Good l := by
  constructor
  · intro i
    have hT : ∀ (m : List Smp) (t : Int), Timed t m → (∀ s ∈ m, badSmp s = false) → ∀ i k, i ≤ k → (h : k < m.length) → tmN m i ≤ tmN m k := by
      intro m
      induction m with
      | nil => intro t _ _ i k _ h; simp at h
      | cons s r ih =>
        intro t hm hbm i k hik hk
        cases i with
        | zero =>
          have := timed_bd hm hbm k hk
          rw [tmN_in hk, tmN_in (by omega : 0 < (s :: r).length)]
          have h0 := timed_bd hm hbm 0 (by omega)
          simp only [List.getElem_cons_zero] at h0 ⊢
          have : t = s.time := hm.1.symm
          omega
        | succ i =>
          cases k with
          | zero => omega
          | succ k =>
            have := ih _ hm.2 (fun x hx => hbm x (List.mem_cons_of_mem _ hx)) i k (by omega) (by simpa using hk)
            simpa [tmN] using this
    intro k hik hk
    cases l with
    | nil => simp at hk
    | cons s r => exact hT _ _ (ht s r rfl) hb i k hik hk
  · intro i k hik
    induction k with
    | zero => intro _; rw [show i = 0 by omega]; exact Int.le_refl _
    | succ k ih =>
      intro hk
      by_cases e : i = k + 1
      · subst e; exact Int.le_refl _
      · have h1 := ih (by omega) (by omega)
        have h2 := szN_succ (l := l) (show k < l.length by omega)
        have h3 := badSmp_bd (hb l[k] (List.getElem_mem _))
        omega
/-- v is the greatest sum of the bytes of samples that lie in one window, of those that end before K. -/
structure PkTo (l : List Smp) (w : Int) (ok : Nat → Nat → Prop) (v : Int) : Prop where
  ge0 : 0 ≤ v
  up : ∀ i k, i ≤ k → k < l.length → ok i k → tmN l k - tmN l i < w → szN l (k + 1) - szN l i ≤ v
  at' : v = 0 ∨ ∃ i k, i ≤ k ∧ k < l.length ∧ tmN l k - tmN l i < w ∧ v = szN l (k + 1) - szN l i
theorem PkTo.one {l : List Smp} {w v u : Int} (h : PkTo l w (fun _ _ => True) v) (k : PkTo l w (fun _ _ => True) u) : v = u := by
  have h1 : v ≤ u := by
    rcases h.at' with e | ⟨i, j, a, b, c, e⟩
    · have := k.ge0; omega
    · have := k.up i j a b trivial c; omega
  have h2 : u ≤ v := by
    rcases k.at' with e | ⟨i, j, a, b, c, e⟩
    · have := h.ge0; omega
    · have := h.up i j a b trivial c; omega
  omega
theorem PkTo.start (l : List Smp) (w : Int) : PkTo l w (fun _ _ => False) 0 := ⟨Int.le_refl _, fun _ _ _ _ h => h.elim, .inl rfl⟩
theorem PkTo.weak {l : List Smp} {w v : Int} {p q : Nat → Nat → Prop} (h : PkTo l w p v) (hq : ∀ i k, i ≤ k → k < l.length → q i k → p i k) : PkTo l w q v :=
  ⟨h.ge0, fun i k a b c d => h.up i k a b (hq i k a b c) d, h.at'⟩
/-- One more end of a window: the k-th sample, the window from the f-th one on. -/
theorem PkTo.endAt {l : List Smp} {w v : Int} {k f : Nat} (g : Good l) (h : PkTo l w (fun _ e => e < k) v) (hf : f ≤ k) (hk : k < l.length) (hlow : ∀ i, i < f → w ≤ tmN l k - tmN l i) (hin : tmN l k - tmN l f < w) : PkTo l w (fun _ e => e < k + 1) (max v (szN l (k + 1) - szN l f)) := by
  have h0 := h.ge0
  have hs := g.sz f (k + 1) (by omega) (by omega)
  refine ⟨by omega, ?_, ?_⟩
  · intro i e hie he hok hw
    by_cases q : e = k
    · subst q
      have hfi : f ≤ i := by
        rcases Nat.lt_or_ge i f with z | z
        · have := hlow i z; omega
        · exact z
      have := g.sz f i hfi (by omega)
      omega
    · have := h.up i e hie he (by omega) hw
      omega
  · by_cases q : v ≤ szN l (k + 1) - szN l f
    · exact .inr ⟨f, k, hf, hk, hin, by omega⟩
    · rcases h.at' with e | ⟨i, j, a, b, c, e⟩
      · exact .inl (by omega)
      · exact .inr ⟨i, j, a, b, c, by omega⟩
/-- One more begin of a window: the i-th sample; the window ends before the j-th one. -/
theorem PkTo.fromAt {l : List Smp} {w v : Int} {i j : Nat} (g : Good l) (h : PkTo l w (fun f _ => f < i) v) (hij : i ≤ j) (hj : j ≤ l.length) (hin : i < j → tmN l (j - 1) - tmN l i < w) (hout : j < l.length → w ≤ tmN l j - tmN l i) : PkTo l w (fun f _ => f < i + 1) (max v (szN l j - szN l i)) := by
  have h0 := h.ge0
  have hs := g.sz i j hij hj
  refine ⟨by omega, ?_, ?_⟩
  · intro f e hfe he hok hw
    by_cases q : f = i
    · subst q
      have hej : e < j := by
        rcases Nat.lt_or_ge e j with z | z
        · exact z
        · have h1 := g.tm j e z he
          have h2 := hout (by omega)
          omega
      have := g.sz (e + 1) j (by omega) hj
      omega
    · have := h.up f e hfe he (by omega) hw
      omega
  · by_cases q : v < szN l j - szN l i
    · have hlt : i < j := by
        rcases Nat.lt_or_ge i j with z | z
        · exact z
        · rw [show j = i by omega] at q; omega
      exact .inr ⟨i, j - 1, by omega, by omega, hin hlt, by rw [show j - 1 + 1 = j by omega]; omega⟩
    · rcases h.at' with e | ⟨a, b, c, d, e, f⟩
      · exact .inl (by omega)
      · exact .inr ⟨a, b, c, d, e, by omega⟩
end Go.Proofs.YtbdcnooafacldaaDoor
/- The rates of a parcel: sample.Mean, Peak, by the machine on data. -/
namespace Go.Proofs.YtbdcnooafacldaaDoor
open Go.RowKit
open Go.Proofs.YtbdcnooafacldaaDoor renaming done_eq → Z0, done_eq' → Z1, donet_eq → Z2, donet_eq' → Z3, fin_val → Z4, fin_tup → Z5, fin_agg → Z6, fin_ro → Z7, res_one → Z8, res_more → Z9, rv_t → Za, rv_c → Zb, rv_l → Zc, int_eq → Zg, bool_eq → Zh, toNat_pred → Zr, toNat_succ → Zs, cnd_t → Zu, cnd_f → Zv, grd_tt → Zw, grd_u → Zx, grd_tf → Zy, grd_ft → Zz, grd_ff → Y0, g_skip → Y1, g_ops → Y2, g_seq → Y3, g_block → Y4, g_exit → Y5, g_ret → Y6, x_c → Y7, x_o → Y8, x_l → Y9, x_b → Ya, g_b → Yb, g_nil → Yc, r_all → Yd, o_nil → Ye, g_cond → Yf, o_guard → Yg, o_call → Yh, o_callm → Yi, o_callt → Yj, o_callx → Yk, o_callv → Yl, o_mv → Ym, o_pick → Yn, o_bin → Yo, o_never → Yp, o_eqs → Yq, o_eqb → Yr, o_un → Ys, o_conv → Yt, o_load → Yu, o_loadr → Yv, o_idxr → Yw, o_loads → Yx, o_fld → Yy, o_idx → Yz, o_idxs → X0, o_len → X1, o_lens → X2, o_ext → X3, o_nilck → X4, o_slc → X5, o_slcs → X6, o_build → X7, o_minmax → X8, o_mkfn → X9, o_alloc → Xa, o_box → Xb, o_boxs → Xc, o_row → Xd, o_rowr → Xe, o_mk → Xf, o_asg → Xg, o_app → Xh, o_store → Xi, o_stores → Xj, o_eqnil → Xk, eqAV → Xl, view_t → Xm, view_c → Xn, view_nil → Xo, view_fn → Xp, look_own → Xq, look_box → Xr, look_junk → Xs, look_val → Xt, look_nilsl → Xu, look_ro → Xv, look_roAt → Xw, look_agg → Xx, look_tup → Xy, look_clo → Xz, look_alias → W0, look_ref → W1, look_into → W2, rowOf → W3, cellsOf → W4, argv → W5, vbin → W6, vun → W7, bnd → W8, elemOf → W9, putParts → Wa, setAt → Wb, zav → Wc, put_at → Wj, mk_at → Wk, mk_nil → Wl, initSt → Wm, wk_cons → Vh, wk_nil → Vi, vint_eq → Vj, vbool_eq → Vk
open Go.Proofs.YtbdcnooafacldaaDoor.AV.tup renaming injEq → Zd
open Go.Proofs.YtbdcnooafacldaaDoor.AV.agg renaming injEq → Ze
open Go.Proofs.YtbdcnooafacldaaDoor.AV.ro renaming injEq → Zf
open _root_.Int renaming toNat_natCast → Zi, reduceToNat → Zj, toNat_zero → Zk, toNat_one → Zl, reduceLE → Zm, reduceLT → Zn, reduceBEq → Zo, reduceBNe → Zp, reduceNeg → Zq
open _root_.List renaming length_map → Zt, map_cons → Wn, map_nil → Wo, forall_mem_cons → Wp, not_mem_nil → Wq, length_cons → Wr, length_nil → Ws, getD_cons_zero → Wt, getD_cons_succ → Wu, getD_nil → Wv, drop_succ_cons → Ww, drop_zero → Wx, take_succ_cons → Wy, take_zero → Wz, set_cons_zero → V0, set_cons_succ → V1, all_cons → V2, all_nil → V3
open Go.Proofs.YtbdcnooafacldaaDoor.ASt renaming rid → Wd, free → We
open Go.Proofs.YtbdcnooafacldaaDoor.AV renaming kill → Wf, isHome → Wg, noLoan → Wh, cellOK → Wi
open _root_.Bool renaming and_true → V4, true_and → V5, not_true → V6, not_false → V7, false_eq_true → V8
open _root_.Nat renaming reduceEqDiff → V9, reduceAdd → Va, reduceSub → Vb, reduceMul → Vc, reduceLeDiff → Vd, reduceLT → Ve, one_ne_zero → Vf, zero_ne_one → Vg
open Go.Proofs.YtbdcnooafacldaaDoor.AV.val renaming injEq → Vl
set_option linter.unusedSimpArgs false
--@short

def stepsL : List Smp → Int
  | [] => 0
  | s :: r => s.step + stepsL r
theorem stepsL_bd : ∀ {l : List Smp}, (∀ s ∈ l, badSmp s = false) → 0 ≤ stepsL l ∧ stepsL l ≤ 1000000000 * l.length
  | [], _ => by simp [stepsL]
  | s :: r, h => by
    have b := badSmp_bd (h s List.mem_cons_self)
    have := stepsL_bd fun x hx => h x (List.mem_cons_of_mem s hx)
    simp only [stepsL, List.length_cons]; omega
theorem stepsL_take {l : List Smp} : ∀ {k : Nat} (h : k < l.length), stepsL (l.take (k + 1)) = stepsL (l.take k) + l[k].step := by
  induction l with
  | nil => intro k h; simp at h
  | cons s r ih =>
    intro k h
    cases k with
    | zero => simp [stepsL]
    | succ k =>
      have := ih (k := k) (by simpa using h)
      simp only [List.take_succ_cons, stepsL, List.getElem_cons_succ] at this ⊢
      omega
def meanF (p : Par) : Int × Int := if parF p ≠ 0 then (0, parF p) else if stepsL p.smps = 0 then (0, 13) else (((cdiv ((sizes p.smps).toNat * p.scale.toNat) (stepsL p.smps).toNat : Nat) : Int), 0)
/-! ### There is a greatest window -/
theorem low_from {l : List Smp} {w : Int} (hw : 1 ≤ w) {k : Nat} : ∀ (d n : Nat), n + d = k → (∀ i, i < n → w ≤ tmN l k - tmN l i) → ∃ f, f ≤ k ∧ (∀ i, i < f → w ≤ tmN l k - tmN l i) ∧ tmN l k - tmN l f < w
  | 0, n, e, h => ⟨k, Nat.le_refl _, by have : n = k := by omega
                                        subst this; exact h, by omega⟩
  | d + 1, n, e, h => by
    by_cases q : w ≤ tmN l k - tmN l n
    · exact low_from hw d (n + 1) (by omega) fun i hi => by
        by_cases z : i = n
        · subst z; exact q
        · exact h i (by omega)
    · exact ⟨n, by omega, h, by omega⟩
theorem PkTo.ex {l : List Smp} {w : Int} (g : Good l) (hw : 1 ≤ w) : ∃ v, PkTo l w (fun _ _ => True) v := by
  have h : ∀ K, K ≤ l.length → ∃ v, PkTo l w (fun _ e => e < K) v := by
    intro K
    induction K with
    | zero => intro _; exact ⟨0, (PkTo.start l w).weak fun i k _ _ h => absurd h (Nat.not_lt_zero _)⟩
    | succ K ih =>
      intro hK
      obtain ⟨v, hv'⟩ := ih (by omega)
      obtain ⟨f, f1, f2, f3⟩ := low_from (l := l) hw (k := K) K 0 (by omega) (fun i hi => by omega)
      exact ⟨_, hv'.endAt g f1 (by omega) f2 f3⟩
  obtain ⟨v, h⟩ := h l.length (Nat.le_refl _)
  exact ⟨v, h.weak fun i k _ hk _ => hk⟩
theorem PkTo.bd {l : List Smp} {w v : Int} {ok : Nat → Nat → Prop} (g : Good l) (h : PkTo l w ok v) : v ≤ sizes l := by
  have e : sizes l = szN l l.length := by unfold szN; rw [List.take_length]
  have hz := szN_0 l
  rcases h.at' with q | ⟨i, k, a, b, _, q⟩
  · have := g.sz 0 l.length (Nat.zero_le _) (Nat.le_refl _)
    omega
  · have h1 := g.sz (k + 1) l.length (by omega) (Nat.le_refl _)
    have h2 := g.sz 0 i (Nat.zero_le _) (by omega)
    omega
/-! headend/sample.Mean -/
def r9_0 : List POp := [⟨1, .boxs (.t 0), none⟩,
  ⟨2, .asg (.c (.int .i64 0)), none⟩,
  ⟨3, .asg (.c (.int .i64 0)), none⟩]
def r9_1 : List POp := [⟨8, .loads 2 (.t 1), none⟩,
  ⟨9, .call 19 [.t 8], none⟩,
  ⟨4, .asg (.t 9), none⟩]
def r9_2 : List POp := [⟨10, .mv (.t 4), none⟩,
  ⟨11, .bin .neq (.t 10) (.c (.int .i64 0)), none⟩]
def r9_3 : List POp := [⟨12, .mv (.t 4), none⟩,
  ⟨2, .mv (.c (.int .i64 0)), none⟩,
  ⟨3, .mv (.t 12), none⟩]
def r9_4 : List POp := [⟨5, .asg (.c (.int .i64 0)), none⟩]
def r9_5 : List POp := [⟨13, .fld 1 (.t 1), none⟩,
  ⟨14, .load (.t 13), none⟩,
  ⟨15, .len (.t 14), none⟩,
  ⟨16, .mv (.c (.int .i64 0)), none⟩]
def r9_6 : List POp := [⟨17, .bin .lss (.t 16) (.t 15), none⟩]
def r9_7 : List POp := [⟨18, .idx 5 (.t 14) (.t 16), none⟩,
  ⟨19, .loads 5 (.t 18), none⟩,
  ⟨7, .alloc [.int .i64 0, .int .i64 0, .int .i64 0, .int .i64 0, .bool false], none⟩,
  ⟨0, .stores 5 (.t 7) (.t 19), none⟩]
def r9_8 : List POp := [⟨20, .mv (.t 5), none⟩,
  ⟨21, .fld 1 (.t 7), none⟩,
  ⟨22, .load (.t 21), none⟩,
  ⟨23, .bin .add (.t 20) (.t 22), none⟩,
  ⟨5, .asg (.t 23), none⟩]
def r9_9 : List POp := [⟨24, .bin .add (.t 16) (.c (.int .i64 1)), none⟩,
  ⟨16, .mv (.t 24), none⟩]
def r9_10 : List POp := [⟨25, .mv (.t 5), none⟩,
  ⟨26, .bin .eql (.t 25) (.c (.int .i64 0)), none⟩]
def r9_11 : List POp := [⟨2, .asg (.c (.int .i64 0)), none⟩,
  ⟨3, .asg (.c (.int .i64 13)), none⟩]
def r9_12 : List POp := [⟨27, .fld 1 (.t 1), none⟩,
  ⟨28, .load (.t 27), none⟩,
  ⟨29, .call 26 [.t 28], none⟩,
  ⟨30, .fld 0 (.t 1), none⟩,
  ⟨31, .load (.t 30), none⟩,
  ⟨32, .mv (.t 5), none⟩,
  ⟨33, .call 25 [.t 29, .t 31, .t 32, .c (.int .i64 3)], none⟩,
  ⟨2, .asg (.t 33), none⟩,
  ⟨3, .asg (.c (.int .i64 0)), none⟩]
def l9_0 : PCode := .seq (.ops r9_6) (.seq (.cond (.t 17) (.skip) (.exit 0)) (.seq (.block 1 (.seq (.ops r9_7) (.ops r9_8))) (.ops r9_9)))
def p9 : PCode := .seq (.ops r9_0) (.seq (.seq (.ops r9_1) (.seq (.ops r9_2) (.cond (.t 11) (.seq (.ops r9_3) (.ret)) (.skip)))) (.seq (.ops r9_4) (.seq (.seq (.ops r9_5) (.block 0 (.loop l9_0))) (.seq (.seq (.ops r9_10) (.cond (.t 26) (.seq (.ops r9_11) (.ret)) (.skip))) (.seq (.ops r9_12) (.ret))))))
theorem ok9 : okFunc Tryd.prog 9 [.t 2, .t 3] 1 p9 = true := by kernel_rfl
theorem mean_c (p : Par) : CallOK Tryd.prog 9 [.agg p.av] (.tup [.val (.int .i64 (meanF p).1), .val (.int .i64 (meanF p).2)]) := by
  refine call_of mixed ok9 rfl ?_
  have hp := par_c p
  by_cases h0 : parF p = 0
  case neg =>
    simp only [Par.av] at hp
    repeat' first | ((with_reducible (first | refine condD ?_ ?_ | refine condE ?_ ?_ | refine condN ?_ ?_ | refine condI ?_ ?_ | refine condS ?_ ?_)) <;> intro h) | ((with_reducible (first | refine guardD (by with_unfolding_all rfl) ?_ ?_ | refine guardE (by with_unfolding_all rfl) ?_ ?_ | refine guardN (by with_unfolding_all rfl) ?_ ?_ | refine guardI (by with_unfolding_all rfl) ?_ ?_ | refine guardS (by with_unfolding_all rfl) ?_ ?_)) <;> intro h) | ((refine callG hp ?_)) | (with_reducible refine And.intro ?_ ?_; omega) | (simp only [Z0,Z1,Z2,Z3,Z4,Z5,Z6,Z7,Z8,Z9,Za,Zb,Zc,Zd,Ze,Zf,List.cons.injEq,Zg,Zh,Zi,Zj,Zk,Zl,Zm,Zn,Zo,Zp,beq_self_eq_true,bne_self_eq_false,decide_true,decide_false,Zq,Zr,Zs,Zt,Zu,Zv,Zw,Zx,Zy,Zz,Y0,Y1,Y2,Y3,Y4,Y5,Y6,Y7,Y8,Y9,Ya,Yb,Yc,Yd,Ye,Yf,Yg,Yh,Yi,Yj,Yk,Yl,lk,ef,Ym,Yn,Yo,Yp,Yq,Yr,Ys,Yt,Yu,Yv,Yw,Yx,Yy,Yz,X0,X1,X2,X3,X4,X5,X6,X7,X8,X9,Xa,Xb,Xc,Xd,Xe,Xf,Xg,Xh,Xi,Xj,Xk,hv,Xl,ev,Xm,Xn,Xo,Xp,Xq,Xr,Xs,Xt,Xu,Xv,Xw,Xx,Xy,Xz,W0,W1,W2,W3,W4,W5,W6,W7,W8,W9,Wa,Wb,Wc,Wd,We,Wf,Wg,Wh,Wi,Value.oneCell',Wj,Wk,Wl,Wm,true_and,and_true,and_self,implies_true,Wn,Wo,Wp,Wq,false_implies,Wr,Ws,Wt,Wu,Wv,Ww,Wx,Wy,Wz,V0,V1,V2,V3,V4,V5,V6,V7,reduceCtorEq,if_true,if_false,V8,↓reduceIte,V9,Va,Vb,Vc,Vd,Ve,ne_eq,not_false_eq_true,not_true_eq_false,Vf,Vg,r9_0,r9_1,r9_2,r9_3,r9_4,r9_5,r9_6,r9_7,r9_8,r9_9,r9_10,r9_11,r9_12,p9,Par.av,bne0_t h0,beq0_f h0]) | (exfalso; omega)
    all_goals simp [meanF, h0]
  rw [h0] at hp
  simp only [Par.av] at hp
  obtain ⟨hl, hb, s1, s2, ht⟩ := par_facts h0
  have htot := total_c p.smps hl hb
  have hF : meanF p = if stepsL p.smps = 0 then (0, 13) else (((cdiv ((sizes p.smps).toNat * p.scale.toNat) (stepsL p.smps).toNat : Nat) : Int), 0) := by simp [meanF, h0]
  obtain ⟨scale, l⟩ := p
  simp only at hl hb s1 s2 ht hF hp htot
  have hT := stepsL_bd hb
  have hZ := sizes_bd hb
  rw [hF]
  clear hF
  repeat' first | ((with_reducible (first | refine condD ?_ ?_ | refine condE ?_ ?_ | refine condN ?_ ?_ | refine condI ?_ ?_ | refine condS ?_ ?_)) <;> intro h) | ((with_reducible (first | refine guardD (by with_unfolding_all rfl) ?_ ?_ | refine guardE (by with_unfolding_all rfl) ?_ ?_ | refine guardN (by with_unfolding_all rfl) ?_ ?_ | refine guardI (by with_unfolding_all rfl) ?_ ?_ | refine guardS (by with_unfolding_all rfl) ?_ ?_)) <;> intro h) | ((refine callG hp ?_)) | (with_reducible refine And.intro ?_ ?_; omega) | (simp only [Z0,Z1,Z2,Z3,Z4,Z5,Z6,Z7,Z8,Z9,Za,Zb,Zc,Zd,Ze,Zf,List.cons.injEq,Zg,Zh,Zi,Zj,Zk,Zl,Zm,Zn,Zo,Zp,beq_self_eq_true,bne_self_eq_false,decide_true,decide_false,Zq,Zr,Zs,Zt,Zu,Zv,Zw,Zx,Zy,Zz,Y0,Y1,Y2,Y3,Y4,Y5,Y6,Y7,Y8,Y9,Ya,Yb,Yc,Yd,Ye,Yf,Yg,Yh,Yi,Yj,Yk,Yl,lk,ef,Ym,Yn,Yo,Yp,Yq,Yr,Ys,Yt,Yu,Yv,Yw,Yx,Yy,Yz,X0,X1,X2,X3,X4,X5,X6,X7,X8,X9,Xa,Xb,Xc,Xd,Xe,Xf,Xg,Xh,Xi,Xj,Xk,hv,Xl,ev,Xm,Xn,Xo,Xp,Xq,Xr,Xs,Xt,Xu,Xv,Xw,Xx,Xy,Xz,W0,W1,W2,W3,W4,W5,W6,W7,W8,W9,Wa,Wb,Wc,Wd,We,Wf,Wg,Wh,Wi,Value.oneCell',Wj,Wk,Wl,Wm,true_and,and_true,and_self,implies_true,Wn,Wo,Wp,Wq,false_implies,Wr,Ws,Wt,Wu,Wv,Ww,Wx,Wy,Wz,V0,V1,V2,V3,V4,V5,V6,V7,reduceCtorEq,if_true,if_false,V8,↓reduceIte,V9,Va,Vb,Vc,Vd,Ve,ne_eq,not_false_eq_true,not_true_eq_false,Vf,Vg,r9_0,r9_1,r9_2,r9_3,r9_4,r9_5,r9_6,r9_7,r9_8,r9_9,r9_10,r9_11,r9_12,p9,Par.av]) | (exfalso; omega)
  refine loopS (fun k : Nat => mk [(1, .box (Par.av ⟨scale, l⟩)), (5, .val (.int .i64 (stepsL (l.take k)))), (14, .ro (l.map Smp.av)), (15, .val (.int .i64 l.length)), (16, .val (.int .i64 k))]) (fun k => k ≤ l.length) (fun k => l.length - k) 0 (weak_mk ?_) (Nat.zero_le _) ?_
  · simp only [Vh,Vi,wk1,Vj,Vk,Vl,Z0,Z1,Z2,Z3,Z4,Z5,Z6,Z7,Z8,Z9,Za,Zb,Zc,Zd,Ze,Zf,List.cons.injEq,Zg,Zh,Zi,Zj,Zk,Zl,Zm,Zn,Zo,Zp,beq_self_eq_true,bne_self_eq_false,decide_true,decide_false,Zq,Zr,Zs,Zt,Zu,Zv,Zw,Zx,Zy,Zz,Y0,Y1,Y2,Y3,Y4,Y5,Y6,Y7,Y8,Y9,Ya,Yb,Yc,Yd,Ye,Yf,Yg,Yh,Yi,Yj,Yk,Yl,lk,ef,Ym,Yn,Yo,Yp,Yq,Yr,Ys,Yt,Yu,Yv,Yw,Yx,Yy,Yz,X0,X1,X2,X3,X4,X5,X6,X7,X8,X9,Xa,Xb,Xc,Xd,Xe,Xf,Xg,Xh,Xi,Xj,Xk,hv,Xl,ev,Xm,Xn,Xo,Xp,Xq,Xr,Xs,Xt,Xu,Xv,Xw,Xx,Xy,Xz,W0,W1,W2,W3,W4,W5,W6,W7,W8,W9,Wa,Wb,Wc,Wd,We,Wf,Wg,Wh,Wi,Value.oneCell',Wj,Wk,Wl,Wm,true_and,and_true,and_self,implies_true,Wn,Wo,Wp,Wq,false_implies,Wr,Ws,Wt,Wu,Wv,Ww,Wx,Wy,Wz,V0,V1,V2,V3,V4,V5,V6,V7,reduceCtorEq,if_true,if_false,V8,↓reduceIte,V9,Va,Vb,Vc,Vd,Ve,ne_eq,not_false_eq_true,not_true_eq_false,Vf,Nat.zero_ne_one]
    simp [stepsL, Par.av]
  rintro J hJ k hk
  simp only [Z0,Z1,Z2,Z3,Z4,Z5,Z6,Z7,Z8,Z9,Za,Zb,Zc,Zd,Ze,Zf,List.cons.injEq,Zg,Zh,Zi,Zj,Zk,Zl,Zm,Zn,Zo,Zp,beq_self_eq_true,bne_self_eq_false,decide_true,decide_false,Zq,Zr,Zs,Zt,Zu,Zv,Zw,Zx,Zy,Zz,Y0,Y1,Y2,Y3,Y4,Y5,Y6,Y7,Y8,Y9,Ya,Yb,Yc,Yd,Ye,Yf,Yg,Yh,Yi,Yj,Yk,Yl,lk,ef,Ym,Yn,Yo,Yp,Yq,Yr,Ys,Yt,Yu,Yv,Yw,Yx,Yy,Yz,X0,X1,X2,X3,X4,X5,X6,X7,X8,X9,Xa,Xb,Xc,Xd,Xe,Xf,Xg,Xh,Xi,Xj,Xk,hv,Xl,ev,Xm,Xn,Xo,Xp,Xq,Xr,Xs,Xt,Xu,Xv,Xw,Xx,Xy,Xz,W0,W1,W2,W3,W4,W5,W6,W7,W8,W9,Wa,Wb,Wc,Wd,We,Wf,Wg,Wh,Wi,Value.oneCell',Wj,Wk,Wl,Wm,true_and,and_true,and_self,implies_true,Wn,Wo,Wp,Wq,false_implies,Wr,Ws,Wt,Wu,Wv,Ww,Wx,Wy,Wz,V0,V1,V2,V3,V4,V5,V6,V7,reduceCtorEq,if_true,if_false,V8,↓reduceIte,V9,Va,Vb,Vc,Vd,Ve,ne_eq,not_false_eq_true,not_true_eq_false,Vf,Vg,r9_0,r9_1,r9_2,r9_3,r9_4,r9_5,r9_6,r9_7,r9_8,r9_9,r9_10,r9_11,r9_12,p9,l9_0]
  refine condD (fun h => ?_) (fun h => ?_)
  · have hlt : k < l.length := by omega
    have hw := i_add1 k (by omega)
    have b1 := stepsL_bd (l := l.take k) fun s hs => hb s (List.mem_of_mem_take hs)
    have b2 := badSmp_bd (hb l[k] (List.getElem_mem hlt))
    have hlen : (l.take k).length ≤ 5000 := by rw [List.length_take]; omega
    have hs := stepsL_take hlt
    have w1 : IntKind.i64.wrap (stepsL (l.take k) + l[k].step) = stepsL (l.take (k + 1)) := by rw [hs]; exact wrap_in (by omega) (by omega)
    repeat' first | ((with_reducible (first | refine condD ?_ ?_ | refine condE ?_ ?_ | refine condN ?_ ?_ | refine condI ?_ ?_ | refine condS ?_ ?_)) <;> intro h) | ((with_reducible (first | refine guardD (by with_unfolding_all rfl) ?_ ?_ | refine guardE (by with_unfolding_all rfl) ?_ ?_ | refine guardN (by with_unfolding_all rfl) ?_ ?_ | refine guardI (by with_unfolding_all rfl) ?_ ?_ | refine guardS (by with_unfolding_all rfl) ?_ ?_)) <;> intro h) | (with_reducible refine And.intro ?_ ?_; omega) | (simp only [Z0,Z1,Z2,Z3,Z4,Z5,Z6,Z7,Z8,Z9,Za,Zb,Zc,Zd,Ze,Zf,List.cons.injEq,Zg,Zh,Zi,Zj,Zk,Zl,Zm,Zn,Zo,Zp,beq_self_eq_true,bne_self_eq_false,decide_true,decide_false,Zq,Zr,Zs,Zt,Zu,Zv,Zw,Zx,Zy,Zz,Y0,Y1,Y2,Y3,Y4,Y5,Y6,Y7,Y8,Y9,Ya,Yb,Yc,Yd,Ye,Yf,Yg,Yh,Yi,Yj,Yk,Yl,lk,ef,Ym,Yn,Yo,Yp,Yq,Yr,Ys,Yt,Yu,Yv,Yw,Yx,Yy,Yz,X0,X1,X2,X3,X4,X5,X6,X7,X8,X9,Xa,Xb,Xc,Xd,Xe,Xf,Xg,Xh,Xi,Xj,Xk,hv,Xl,ev,Xm,Xn,Xo,Xp,Xq,Xr,Xs,Xt,Xu,Xv,Xw,Xx,Xy,Xz,W0,W1,W2,W3,W4,W5,W6,W7,W8,W9,Wa,Wb,Wc,Wd,We,Wf,Wg,Wh,Wi,Value.oneCell',Wj,Wk,Wl,Wm,true_and,and_true,and_self,implies_true,Wn,Wo,Wp,Wq,false_implies,Wr,Ws,Wt,Wu,Wv,Ww,Wx,Wy,Wz,V0,V1,V2,V3,V4,V5,V6,V7,reduceCtorEq,if_true,if_false,V8,↓reduceIte,V9,Va,Vb,Vc,Vd,Ve,ne_eq,not_false_eq_true,not_true_eq_false,Vf,Vg,r9_0,r9_1,r9_2,r9_3,r9_4,r9_5,r9_6,r9_7,r9_8,r9_9,r9_10,r9_11,r9_12,p9,l9_0,Par.av,Smp.av,getD_map hlt,w1]) | (exfalso; omega)
    exact again hJ (k + 1) (weak_mk (by simp only [Vh,Vi,wk1,Vj,Vk,Vl,Z0,Z1,Z2,Z3,Z4,Z5,Z6,Z7,Z8,Z9,Za,Zb,Zc,Zd,Ze,Zf,List.cons.injEq,Zg,Zh,Zi,Zj,Zk,Zl,Zm,Zn,Zo,Zp,beq_self_eq_true,bne_self_eq_false,decide_true,decide_false,Zq,Zr,Zs,Zt,Zu,Zv,Zw,Zx,Zy,Zz,Y0,Y1,Y2,Y3,Y4,Y5,Y6,Y7,Y8,Y9,Ya,Yb,Yc,Yd,Ye,Yf,Yg,Yh,Yi,Yj,Yk,Yl,lk,ef,Ym,Yn,Yo,Yp,Yq,Yr,Ys,Yt,Yu,Yv,Yw,Yx,Yy,Yz,X0,X1,X2,X3,X4,X5,X6,X7,X8,X9,Xa,Xb,Xc,Xd,Xe,Xf,Xg,Xh,Xi,Xj,Xk,hv,Xl,ev,Xm,Xn,Xo,Xp,Xq,Xr,Xs,Xt,Xu,Xv,Xw,Xx,Xy,Xz,W0,W1,W2,W3,W4,W5,W6,W7,W8,W9,Wa,Wb,Wc,Wd,We,Wf,Wg,Wh,Wi,Value.oneCell',Wj,Wk,Wl,Wm,true_and,and_true,and_self,implies_true,Wn,Wo,Wp,Wq,false_implies,Wr,Ws,Wt,Wu,Wv,Ww,Wx,Wy,Wz,V0,V1,V2,V3,V4,V5,V6,V7,reduceCtorEq,if_true,if_false,V8,↓reduceIte,V9,Va,Vb,Vc,Vd,Ve,ne_eq,not_false_eq_true,not_true_eq_false,Vf,Nat.zero_ne_one]; first | exact hw | exact ⟨by simp [Par.av], hw⟩)) (by omega) (by omega)
  have hke : k = l.length := by omega
  subst hke
  clear hJ
  rw [List.take_length]
  by_cases hz : stepsL l = 0
  · have hz' : (stepsL l == 0) = true := by rw [beq_iff_eq]; exact hz
    rw [if_pos hz]
    repeat' first | ((with_reducible (first | refine condD ?_ ?_ | refine condE ?_ ?_ | refine condN ?_ ?_ | refine condI ?_ ?_ | refine condS ?_ ?_)) <;> intro h) | ((with_reducible (first | refine guardD (by with_unfolding_all rfl) ?_ ?_ | refine guardE (by with_unfolding_all rfl) ?_ ?_ | refine guardN (by with_unfolding_all rfl) ?_ ?_ | refine guardI (by with_unfolding_all rfl) ?_ ?_ | refine guardS (by with_unfolding_all rfl) ?_ ?_)) <;> intro h) | (with_reducible refine And.intro ?_ ?_; omega) | (simp only [Z0,Z1,Z2,Z3,Z4,Z5,Z6,Z7,Z8,Z9,Za,Zb,Zc,Zd,Ze,Zf,List.cons.injEq,Zg,Zh,Zi,Zj,Zk,Zl,Zm,Zn,Zo,Zp,beq_self_eq_true,bne_self_eq_false,decide_true,decide_false,Zq,Zr,Zs,Zt,Zu,Zv,Zw,Zx,Zy,Zz,Y0,Y1,Y2,Y3,Y4,Y5,Y6,Y7,Y8,Y9,Ya,Yb,Yc,Yd,Ye,Yf,Yg,Yh,Yi,Yj,Yk,Yl,lk,ef,Ym,Yn,Yo,Yp,Yq,Yr,Ys,Yt,Yu,Yv,Yw,Yx,Yy,Yz,X0,X1,X2,X3,X4,X5,X6,X7,X8,X9,Xa,Xb,Xc,Xd,Xe,Xf,Xg,Xh,Xi,Xj,Xk,hv,Xl,ev,Xm,Xn,Xo,Xp,Xq,Xr,Xs,Xt,Xu,Xv,Xw,Xx,Xy,Xz,W0,W1,W2,W3,W4,W5,W6,W7,W8,W9,Wa,Wb,Wc,Wd,We,Wf,Wg,Wh,Wi,Value.oneCell',Wj,Wk,Wl,Wm,true_and,and_true,and_self,implies_true,Wn,Wo,Wp,Wq,false_implies,Wr,Ws,Wt,Wu,Wv,Ww,Wx,Wy,Wz,V0,V1,V2,V3,V4,V5,V6,V7,reduceCtorEq,if_true,if_false,V8,↓reduceIte,V9,Va,Vb,Vc,Vd,Ve,ne_eq,not_false_eq_true,not_true_eq_false,Vf,Vg,r9_0,r9_1,r9_2,r9_3,r9_4,r9_5,r9_6,r9_7,r9_8,r9_9,r9_10,r9_11,r9_12,p9,l9_0,hz']) | (exfalso; omega)
  · rw [if_neg hz]
    have hQ : (sizes l).toNat * scale.toNat ≤ 500100000 * 1000000000 := Nat.mul_le_mul (by omega) (by omega)
    have hsc := scaledI_c (sizes l) scale (stepsL l) 3 (by omega) (by omega) (by omega) (by omega) (by omega) (by omega)
    rw [scl_up (by omega) (by omega) (by omega)] at hsc
    generalize cdiv ((sizes l).toNat * scale.toNat) (stepsL l).toNat = C at *
    repeat' first | ((with_reducible (first | refine condD ?_ ?_ | refine condE ?_ ?_ | refine condN ?_ ?_ | refine condI ?_ ?_ | refine condS ?_ ?_)) <;> intro h) | ((with_reducible (first | refine guardD (by with_unfolding_all rfl) ?_ ?_ | refine guardE (by with_unfolding_all rfl) ?_ ?_ | refine guardN (by with_unfolding_all rfl) ?_ ?_ | refine guardI (by with_unfolding_all rfl) ?_ ?_ | refine guardS (by with_unfolding_all rfl) ?_ ?_)) <;> intro h) | ((refine callG htot ?_)) | ((refine callG hsc ?_)) | (with_reducible refine And.intro ?_ ?_; omega) | (simp only [Z0,Z1,Z2,Z3,Z4,Z5,Z6,Z7,Z8,Z9,Za,Zb,Zc,Zd,Ze,Zf,List.cons.injEq,Zg,Zh,Zi,Zj,Zk,Zl,Zm,Zn,Zo,Zp,beq_self_eq_true,bne_self_eq_false,decide_true,decide_false,Zq,Zr,Zs,Zt,Zu,Zv,Zw,Zx,Zy,Zz,Y0,Y1,Y2,Y3,Y4,Y5,Y6,Y7,Y8,Y9,Ya,Yb,Yc,Yd,Ye,Yf,Yg,Yh,Yi,Yj,Yk,Yl,lk,ef,Ym,Yn,Yo,Yp,Yq,Yr,Ys,Yt,Yu,Yv,Yw,Yx,Yy,Yz,X0,X1,X2,X3,X4,X5,X6,X7,X8,X9,Xa,Xb,Xc,Xd,Xe,Xf,Xg,Xh,Xi,Xj,Xk,hv,Xl,ev,Xm,Xn,Xo,Xp,Xq,Xr,Xs,Xt,Xu,Xv,Xw,Xx,Xy,Xz,W0,W1,W2,W3,W4,W5,W6,W7,W8,W9,Wa,Wb,Wc,Wd,We,Wf,Wg,Wh,Wi,Value.oneCell',Wj,Wk,Wl,Wm,true_and,and_true,and_self,implies_true,Wn,Wo,Wp,Wq,false_implies,Wr,Ws,Wt,Wu,Wv,Ww,Wx,Wy,Wz,V0,V1,V2,V3,V4,V5,V6,V7,reduceCtorEq,if_true,if_false,V8,↓reduceIte,V9,Va,Vb,Vc,Vd,Ve,ne_eq,not_false_eq_true,not_true_eq_false,Vf,Vg,r9_0,r9_1,r9_2,r9_3,r9_4,r9_5,r9_6,r9_7,r9_8,r9_9,r9_10,r9_11,r9_12,p9,l9_0,Par.av,beq0_f hz]) | (exfalso; omega)
def peakR (p : Par) (w v : Int) : Int × Int := if parF p ≠ 0 then (0, parF p) else if outB w 1 1000000000000 then (0, 1) else (v, 0)
/-! headend/sample.Peak -/
def r11_0 : List POp := [⟨2, .boxs (.t 0), none⟩,
  ⟨4, .asg (.c (.int .i64 0)), none⟩,
  ⟨5, .asg (.c (.int .i64 0)), none⟩]
def r11_1 : List POp := [⟨12, .loads 2 (.t 2), none⟩,
  ⟨13, .call 19 [.t 12], none⟩,
  ⟨6, .asg (.t 13), none⟩]
def r11_2 : List POp := [⟨14, .mv (.t 6), none⟩,
  ⟨15, .bin .neq (.t 14) (.c (.int .i64 0)), none⟩]
def r11_3 : List POp := [⟨16, .mv (.t 6), none⟩,
  ⟨4, .mv (.c (.int .i64 0)), none⟩,
  ⟨5, .mv (.t 16), none⟩]
def r11_4 : List POp := [⟨17, .mv (.t 1), none⟩,
  ⟨18, .call 20 [.t 17, .c (.int .i64 1), .c (.int .i64 1000000000000)], none⟩]
def r11_5 : List POp := [⟨4, .asg (.c (.int .i64 0)), none⟩,
  ⟨5, .asg (.c (.int .i64 1)), none⟩]
def r11_6 : List POp := [⟨7, .asg (.c (.int .i64 0)), none⟩,
  ⟨8, .asg (.c (.int .i64 0)), none⟩,
  ⟨9, .asg (.c (.int .i64 0)), none⟩]
def r11_7 : List POp := [⟨19, .fld 1 (.t 2), none⟩,
  ⟨20, .load (.t 19), none⟩,
  ⟨21, .len (.t 20), none⟩,
  ⟨22, .mv (.c (.int .i64 0)), none⟩]
def r11_8 : List POp := [⟨23, .bin .lss (.t 22) (.t 21), none⟩]
def r11_9 : List POp := [⟨24, .idx 5 (.t 20) (.t 22), none⟩,
  ⟨25, .loads 5 (.t 24), none⟩,
  ⟨11, .alloc [.int .i64 0, .int .i64 0, .int .i64 0, .int .i64 0, .bool false], none⟩,
  ⟨0, .stores 5 (.t 11) (.t 25), none⟩]
def r11_10 : List POp := [⟨26, .mv (.t 8), none⟩,
  ⟨27, .fld 3 (.t 11), none⟩,
  ⟨28, .load (.t 27), none⟩,
  ⟨29, .bin .add (.t 26) (.t 28), none⟩,
  ⟨8, .asg (.t 29), none⟩]
def r11_11 : List POp := [⟨30, .fld 0 (.t 11), none⟩,
  ⟨31, .load (.t 30), none⟩,
  ⟨32, .fld 1 (.t 2), none⟩,
  ⟨33, .load (.t 32), none⟩,
  ⟨34, .mv (.t 9), none⟩,
  ⟨35, .idx 5 (.t 33) (.t 34), none⟩,
  ⟨36, .fld 0 (.t 35), none⟩,
  ⟨37, .load (.t 36), none⟩,
  ⟨38, .bin .sub (.t 31) (.t 37), none⟩,
  ⟨39, .mv (.t 1), none⟩,
  ⟨40, .bin .geq (.t 38) (.t 39), none⟩]
def r11_12 : List POp := [⟨41, .mv (.t 8), none⟩,
  ⟨42, .fld 1 (.t 2), none⟩,
  ⟨43, .load (.t 42), none⟩,
  ⟨44, .mv (.t 9), none⟩,
  ⟨45, .idx 5 (.t 43) (.t 44), none⟩,
  ⟨46, .fld 3 (.t 45), none⟩,
  ⟨47, .load (.t 46), none⟩,
  ⟨48, .bin .sub (.t 41) (.t 47), none⟩,
  ⟨8, .asg (.t 48), none⟩]
def r11_13 : List POp := [⟨49, .mv (.t 9), none⟩,
  ⟨50, .bin .add (.t 49) (.c (.int .i64 1)), none⟩,
  ⟨9, .asg (.t 50), none⟩]
def r11_14 : List POp := [⟨51, .mv (.t 7), none⟩,
  ⟨52, .mv (.t 8), none⟩,
  ⟨53, .minmax true (.t 51) (.t 52), none⟩,
  ⟨7, .asg (.t 53), none⟩]
def r11_15 : List POp := [⟨54, .bin .add (.t 22) (.c (.int .i64 1)), none⟩,
  ⟨22, .mv (.t 54), none⟩]
def r11_16 : List POp := [⟨55, .mv (.t 7), none⟩,
  ⟨4, .asg (.t 55), none⟩,
  ⟨5, .asg (.c (.int .i64 0)), none⟩]
def l11_1 : PCode := .seq (.seq (.ops r11_11) (.cond (.t 40) (.skip) (.exit 2))) (.block 3 (.seq (.ops r11_12) (.ops r11_13)))
def l11_0 : PCode := .seq (.ops r11_8) (.seq (.cond (.t 23) (.skip) (.exit 0)) (.seq (.block 1 (.seq (.ops r11_9) (.seq (.ops r11_10) (.seq (.block 2 (.loop l11_1)) (.ops r11_14))))) (.ops r11_15)))
def p11 : PCode := .seq (.ops r11_0) (.seq (.seq (.ops r11_1) (.seq (.ops r11_2) (.cond (.t 15) (.seq (.ops r11_3) (.ret)) (.skip)))) (.seq (.seq (.ops r11_4) (.cond (.t 18) (.seq (.ops r11_5) (.ret)) (.skip))) (.seq (.ops r11_6) (.seq (.seq (.ops r11_7) (.block 0 (.loop l11_0))) (.seq (.ops r11_16) (.ret))))))
theorem ok11 : okFunc Tryd.prog 11 [.t 4, .t 5] 2 p11 = true := by kernel_rfl
set_option maxHeartbeats 1000000 in
theorem peak_c (p : Par) (w v : Int) (hV : parF p = 0 → outB w 1 1000000000000 = false → PkTo p.smps w (fun _ _ => True) v) : CallOK Tryd.prog 11 [.agg p.av, .val (.int .i64 w)] (.tup [.val (.int .i64 (peakR p w v).1), .val (.int .i64 (peakR p w v).2)]) := by
  refine call_of mixed ok11 rfl ?_
  have hp := par_c p
  by_cases h0 : parF p = 0
  case neg =>
    simp only [Par.av] at hp
    repeat' first | ((with_reducible (first | refine condD ?_ ?_ | refine condE ?_ ?_ | refine condN ?_ ?_ | refine condI ?_ ?_ | refine condS ?_ ?_)) <;> intro h) | ((with_reducible (first | refine guardD (by with_unfolding_all rfl) ?_ ?_ | refine guardE (by with_unfolding_all rfl) ?_ ?_ | refine guardN (by with_unfolding_all rfl) ?_ ?_ | refine guardI (by with_unfolding_all rfl) ?_ ?_ | refine guardS (by with_unfolding_all rfl) ?_ ?_)) <;> intro h) | ((refine callG hp ?_)) | (with_reducible refine And.intro ?_ ?_; omega) | (simp only [Z0,Z1,Z2,Z3,Z4,Z5,Z6,Z7,Z8,Z9,Za,Zb,Zc,Zd,Ze,Zf,List.cons.injEq,Zg,Zh,Zi,Zj,Zk,Zl,Zm,Zn,Zo,Zp,beq_self_eq_true,bne_self_eq_false,decide_true,decide_false,Zq,Zr,Zs,Zt,Zu,Zv,Zw,Zx,Zy,Zz,Y0,Y1,Y2,Y3,Y4,Y5,Y6,Y7,Y8,Y9,Ya,Yb,Yc,Yd,Ye,Yf,Yg,Yh,Yi,Yj,Yk,Yl,lk,ef,Ym,Yn,Yo,Yp,Yq,Yr,Ys,Yt,Yu,Yv,Yw,Yx,Yy,Yz,X0,X1,X2,X3,X4,X5,X6,X7,X8,X9,Xa,Xb,Xc,Xd,Xe,Xf,Xg,Xh,Xi,Xj,Xk,hv,Xl,ev,Xm,Xn,Xo,Xp,Xq,Xr,Xs,Xt,Xu,Xv,Xw,Xx,Xy,Xz,W0,W1,W2,W3,W4,W5,W6,W7,W8,W9,Wa,Wb,Wc,Wd,We,Wf,Wg,Wh,Wi,Value.oneCell',Wj,Wk,Wl,Wm,true_and,and_true,and_self,implies_true,Wn,Wo,Wp,Wq,false_implies,Wr,Ws,Wt,Wu,Wv,Ww,Wx,Wy,Wz,V0,V1,V2,V3,V4,V5,V6,V7,reduceCtorEq,if_true,if_false,V8,↓reduceIte,V9,Va,Vb,Vc,Vd,Ve,ne_eq,not_false_eq_true,not_true_eq_false,Vf,Vg,r11_0,r11_1,r11_2,r11_3,r11_4,r11_5,r11_6,r11_7,r11_8,r11_9,r11_10,r11_11,r11_12,r11_13,r11_14,r11_15,r11_16,p11,Par.av,bne0_t h0,beq0_f h0]) | (exfalso; omega)
    all_goals simp [peakR, h0]
  rw [h0] at hp
  simp only [Par.av] at hp
  by_cases hr : outB w 1 1000000000000 = true
  · repeat' first | ((with_reducible (first | refine condD ?_ ?_ | refine condE ?_ ?_ | refine condN ?_ ?_ | refine condI ?_ ?_ | refine condS ?_ ?_)) <;> intro h) | ((with_reducible (first | refine guardD (by with_unfolding_all rfl) ?_ ?_ | refine guardE (by with_unfolding_all rfl) ?_ ?_ | refine guardN (by with_unfolding_all rfl) ?_ ?_ | refine guardI (by with_unfolding_all rfl) ?_ ?_ | refine guardS (by with_unfolding_all rfl) ?_ ?_)) <;> intro h) | ((refine callG hp ?_)) | ((refine callG (out_c _ _ _) ?_)) | (with_reducible refine And.intro ?_ ?_; omega) | (simp only [Z0,Z1,Z2,Z3,Z4,Z5,Z6,Z7,Z8,Z9,Za,Zb,Zc,Zd,Ze,Zf,List.cons.injEq,Zg,Zh,Zi,Zj,Zk,Zl,Zm,Zn,Zo,Zp,beq_self_eq_true,bne_self_eq_false,decide_true,decide_false,Zq,Zr,Zs,Zt,Zu,Zv,Zw,Zx,Zy,Zz,Y0,Y1,Y2,Y3,Y4,Y5,Y6,Y7,Y8,Y9,Ya,Yb,Yc,Yd,Ye,Yf,Yg,Yh,Yi,Yj,Yk,Yl,lk,ef,Ym,Yn,Yo,Yp,Yq,Yr,Ys,Yt,Yu,Yv,Yw,Yx,Yy,Yz,X0,X1,X2,X3,X4,X5,X6,X7,X8,X9,Xa,Xb,Xc,Xd,Xe,Xf,Xg,Xh,Xi,Xj,Xk,hv,Xl,ev,Xm,Xn,Xo,Xp,Xq,Xr,Xs,Xt,Xu,Xv,Xw,Xx,Xy,Xz,W0,W1,W2,W3,W4,W5,W6,W7,W8,W9,Wa,Wb,Wc,Wd,We,Wf,Wg,Wh,Wi,Value.oneCell',Wj,Wk,Wl,Wm,true_and,and_true,and_self,implies_true,Wn,Wo,Wp,Wq,false_implies,Wr,Ws,Wt,Wu,Wv,Ww,Wx,Wy,Wz,V0,V1,V2,V3,V4,V5,V6,V7,reduceCtorEq,if_true,if_false,V8,↓reduceIte,V9,Va,Vb,Vc,Vd,Ve,ne_eq,not_false_eq_true,not_true_eq_false,Vf,Vg,r11_0,r11_1,r11_2,r11_3,r11_4,r11_5,r11_6,r11_7,r11_8,r11_9,r11_10,r11_11,r11_12,r11_13,r11_14,r11_15,r11_16,p11,Par.av,hr]) | (exfalso; omega)
    all_goals simp [peakR, h0, hr]
  simp only [Bool.not_eq_true] at hr
  have hR : peakR p w v = (v, 0) := by simp [peakR, h0, hr]
  rw [hR]
  have bw := outB_f hr
  have hV := hV h0 hr
  obtain ⟨hl, hb, s1, s2, ht⟩ := par_facts h0
  have hG := good_of hb (smpF_0 (parF_0 h0).1).2.2.1
  obtain ⟨scale, l⟩ := p
  simp only at hl hb s1 s2 ht hp hV hG
  have hZ := sizes_bd hb
  have eZ : sizes l = szN l l.length := by unfold szN; rw [List.take_length]
  repeat' first | ((with_reducible (first | refine condD ?_ ?_ | refine condE ?_ ?_ | refine condN ?_ ?_ | refine condI ?_ ?_ | refine condS ?_ ?_)) <;> intro h) | ((with_reducible (first | refine guardD (by with_unfolding_all rfl) ?_ ?_ | refine guardE (by with_unfolding_all rfl) ?_ ?_ | refine guardN (by with_unfolding_all rfl) ?_ ?_ | refine guardI (by with_unfolding_all rfl) ?_ ?_ | refine guardS (by with_unfolding_all rfl) ?_ ?_)) <;> intro h) | ((refine callG hp ?_)) | ((refine callG (out_c _ _ _) ?_)) | (with_reducible refine And.intro ?_ ?_; omega) | (simp only [Z0,Z1,Z2,Z3,Z4,Z5,Z6,Z7,Z8,Z9,Za,Zb,Zc,Zd,Ze,Zf,List.cons.injEq,Zg,Zh,Zi,Zj,Zk,Zl,Zm,Zn,Zo,Zp,beq_self_eq_true,bne_self_eq_false,decide_true,decide_false,Zq,Zr,Zs,Zt,Zu,Zv,Zw,Zx,Zy,Zz,Y0,Y1,Y2,Y3,Y4,Y5,Y6,Y7,Y8,Y9,Ya,Yb,Yc,Yd,Ye,Yf,Yg,Yh,Yi,Yj,Yk,Yl,lk,ef,Ym,Yn,Yo,Yp,Yq,Yr,Ys,Yt,Yu,Yv,Yw,Yx,Yy,Yz,X0,X1,X2,X3,X4,X5,X6,X7,X8,X9,Xa,Xb,Xc,Xd,Xe,Xf,Xg,Xh,Xi,Xj,Xk,hv,Xl,ev,Xm,Xn,Xo,Xp,Xq,Xr,Xs,Xt,Xu,Xv,Xw,Xx,Xy,Xz,W0,W1,W2,W3,W4,W5,W6,W7,W8,W9,Wa,Wb,Wc,Wd,We,Wf,Wg,Wh,Wi,Value.oneCell',Wj,Wk,Wl,Wm,true_and,and_true,and_self,implies_true,Wn,Wo,Wp,Wq,false_implies,Wr,Ws,Wt,Wu,Wv,Ww,Wx,Wy,Wz,V0,V1,V2,V3,V4,V5,V6,V7,reduceCtorEq,if_true,if_false,V8,↓reduceIte,V9,Va,Vb,Vc,Vd,Ve,ne_eq,not_false_eq_true,not_true_eq_false,Vf,Vg,r11_0,r11_1,r11_2,r11_3,r11_4,r11_5,r11_6,r11_7,r11_8,r11_9,r11_10,r11_11,r11_12,r11_13,r11_14,r11_15,r11_16,p11,Par.av,hr]) | (exfalso; omega)
  refine loopS (fun q : Nat × Nat × Int => mk [(1, .val (.int .i64 w)), (2, .box (Par.av ⟨scale, l⟩)), (7, .val (.int .i64 q.2.2)), (8, .val (.int .i64 (szN l q.1 - szN l q.2.1))), (9, .val (.int .i64 (q.2.1 : Nat))), (20, .ro (l.map Smp.av)), (21, .val (.int .i64 l.length)), (22, .val (.int .i64 (q.1 : Nat)))])
    (fun q => q.1 ≤ l.length ∧ q.2.1 ≤ q.1 ∧ (∀ i, i < q.2.1 → ∀ j, q.1 ≤ j + 1 → j < l.length → w ≤ tmN l j - tmN l i) ∧ PkTo l w (fun _ e => e < q.1) q.2.2) (fun q => l.length - q.1) (0, 0, 0) (weak_mk ?_)
    ⟨Nat.zero_le _, Nat.le_refl _, fun i hi => absurd hi (Nat.not_lt_zero _), (PkTo.start l w).weak fun i k _ _ h => absurd h (Nat.not_lt_zero _)⟩ ?_
  · simp only [Vh,Vi,wk1,Vj,Vk,Vl,Z0,Z1,Z2,Z3,Z4,Z5,Z6,Z7,Z8,Z9,Za,Zb,Zc,Zd,Ze,Zf,List.cons.injEq,Zg,Zh,Zi,Zj,Zk,Zl,Zm,Zn,Zo,Zp,beq_self_eq_true,bne_self_eq_false,decide_true,decide_false,Zq,Zr,Zs,Zt,Zu,Zv,Zw,Zx,Zy,Zz,Y0,Y1,Y2,Y3,Y4,Y5,Y6,Y7,Y8,Y9,Ya,Yb,Yc,Yd,Ye,Yf,Yg,Yh,Yi,Yj,Yk,Yl,lk,ef,Ym,Yn,Yo,Yp,Yq,Yr,Ys,Yt,Yu,Yv,Yw,Yx,Yy,Yz,X0,X1,X2,X3,X4,X5,X6,X7,X8,X9,Xa,Xb,Xc,Xd,Xe,Xf,Xg,Xh,Xi,Xj,Xk,hv,Xl,ev,Xm,Xn,Xo,Xp,Xq,Xr,Xs,Xt,Xu,Xv,Xw,Xx,Xy,Xz,W0,W1,W2,W3,W4,W5,W6,W7,W8,W9,Wa,Wb,Wc,Wd,We,Wf,Wg,Wh,Wi,Value.oneCell',Wj,Wk,Wl,Wm,true_and,and_true,and_self,implies_true,Wn,Wo,Wp,Wq,false_implies,Wr,Ws,Wt,Wu,Wv,Ww,Wx,Wy,Wz,V0,V1,V2,V3,V4,V5,V6,V7,reduceCtorEq,if_true,if_false,V8,↓reduceIte,V9,Va,Vb,Vc,Vd,Ve,ne_eq,not_false_eq_true,not_true_eq_false,Vf,Nat.zero_ne_one]
    simp [szN_0, Par.av]
  rintro J hJ ⟨k, f, m⟩ ⟨hk, hf, hlo, hP⟩
  simp only at hk hf hlo hP
  simp only [Z0,Z1,Z2,Z3,Z4,Z5,Z6,Z7,Z8,Z9,Za,Zb,Zc,Zd,Ze,Zf,List.cons.injEq,Zg,Zh,Zi,Zj,Zk,Zl,Zm,Zn,Zo,Zp,beq_self_eq_true,bne_self_eq_false,decide_true,decide_false,Zq,Zr,Zs,Zt,Zu,Zv,Zw,Zx,Zy,Zz,Y0,Y1,Y2,Y3,Y4,Y5,Y6,Y7,Y8,Y9,Ya,Yb,Yc,Yd,Ye,Yf,Yg,Yh,Yi,Yj,Yk,Yl,lk,ef,Ym,Yn,Yo,Yp,Yq,Yr,Ys,Yt,Yu,Yv,Yw,Yx,Yy,Yz,X0,X1,X2,X3,X4,X5,X6,X7,X8,X9,Xa,Xb,Xc,Xd,Xe,Xf,Xg,Xh,Xi,Xj,Xk,hv,Xl,ev,Xm,Xn,Xo,Xp,Xq,Xr,Xs,Xt,Xu,Xv,Xw,Xx,Xy,Xz,W0,W1,W2,W3,W4,W5,W6,W7,W8,W9,Wa,Wb,Wc,Wd,We,Wf,Wg,Wh,Wi,Value.oneCell',Wj,Wk,Wl,Wm,true_and,and_true,and_self,implies_true,Wn,Wo,Wp,Wq,false_implies,Wr,Ws,Wt,Wu,Wv,Ww,Wx,Wy,Wz,V0,V1,V2,V3,V4,V5,V6,V7,reduceCtorEq,if_true,if_false,V8,↓reduceIte,V9,Va,Vb,Vc,Vd,Ve,ne_eq,not_false_eq_true,not_true_eq_false,Vf,Vg,r11_0,r11_1,r11_2,r11_3,r11_4,r11_5,r11_6,r11_7,r11_8,r11_9,r11_10,r11_11,r11_12,r11_13,r11_14,r11_15,r11_16,p11,l11_0]
  refine condD (fun h => ?_) (fun h => ?_)
  · have hlt : k < l.length := by omega
    have hw := i_add1 k (by omega)
    have hs := szN_succ hlt
    have b2 := badSmp_bd (hb l[k] (List.getElem_mem hlt))
    have z1 := hG.sz 0 f (Nat.zero_le _) (by omega)
    have z2 := hG.sz f k hf (by omega)
    have z3 := hG.sz (k + 1) l.length (by omega) (Nat.le_refl _)
    have z0 := szN_0 l
    have w1 : IntKind.i64.wrap (szN l k - szN l f + l[k].size) = szN l (k + 1) - szN l f := by rw [hs]; rw [wrap_in (by omega) (by omega)]; omega
    have hlo2 : ∀ i, i < f → w ≤ tmN l k - tmN l i := fun i hi => hlo i hi k (by omega) hlt
    have gK := getD_map (f := Smp.av) (d := []) hlt
    simp only [Smp.av] at gK
    repeat' first | ((with_reducible (first | refine condD ?_ ?_ | refine condE ?_ ?_ | refine condN ?_ ?_ | refine condI ?_ ?_ | refine condS ?_ ?_)) <;> intro h) | ((with_reducible (first | refine guardD (by with_unfolding_all rfl) ?_ ?_ | refine guardE (by with_unfolding_all rfl) ?_ ?_ | refine guardN (by with_unfolding_all rfl) ?_ ?_ | refine guardI (by with_unfolding_all rfl) ?_ ?_ | refine guardS (by with_unfolding_all rfl) ?_ ?_)) <;> intro h) | (with_reducible refine And.intro ?_ ?_; omega) | (simp only [Z0,Z1,Z2,Z3,Z4,Z5,Z6,Z7,Z8,Z9,Za,Zb,Zc,Zd,Ze,Zf,List.cons.injEq,Zg,Zh,Zi,Zj,Zk,Zl,Zm,Zn,Zo,Zp,beq_self_eq_true,bne_self_eq_false,decide_true,decide_false,Zq,Zr,Zs,Zt,Zu,Zv,Zw,Zx,Zy,Zz,Y0,Y1,Y2,Y3,Y4,Y5,Y6,Y7,Y8,Y9,Ya,Yb,Yc,Yd,Ye,Yf,Yg,Yh,Yi,Yj,Yk,Yl,lk,ef,Ym,Yn,Yo,Yp,Yq,Yr,Ys,Yt,Yu,Yv,Yw,Yx,Yy,Yz,X0,X1,X2,X3,X4,X5,X6,X7,X8,X9,Xa,Xb,Xc,Xd,Xe,Xf,Xg,Xh,Xi,Xj,Xk,hv,Xl,ev,Xm,Xn,Xo,Xp,Xq,Xr,Xs,Xt,Xu,Xv,Xw,Xx,Xy,Xz,W0,W1,W2,W3,W4,W5,W6,W7,W8,W9,Wa,Wb,Wc,Wd,We,Wf,Wg,Wh,Wi,Value.oneCell',Wj,Wk,Wl,Wm,true_and,and_true,and_self,implies_true,Wn,Wo,Wp,Wq,false_implies,Wr,Ws,Wt,Wu,Wv,Ww,Wx,Wy,Wz,V0,V1,V2,V3,V4,V5,V6,V7,reduceCtorEq,if_true,if_false,V8,↓reduceIte,V9,Va,Vb,Vc,Vd,Ve,ne_eq,not_false_eq_true,not_true_eq_false,Vf,Vg,r11_0,r11_1,r11_2,r11_3,r11_4,r11_5,r11_6,r11_7,r11_8,r11_9,r11_10,r11_11,r11_12,r11_13,r11_14,r11_15,r11_16,p11,l11_0,Par.av,gK,w1]) | (exfalso; omega)
    refine loopS (fun g : Nat => mk [(1, .val (.int .i64 w)), (2, .box (Par.av ⟨scale, l⟩)), (7, .val (.int .i64 m)), (8, .val (.int .i64 (szN l (k + 1) - szN l g))), (9, .val (.int .i64 g)), (11, .box (Smp.av l[k])), (20, .ro (l.map Smp.av)), (21, .val (.int .i64 l.length)), (22, .val (.int .i64 k))])
      (fun g => g ≤ k ∧ ∀ i, i < g → w ≤ tmN l k - tmN l i) (fun g => k - g) f (weak_mk ?_) ⟨hf, hlo2⟩ ?_
    · simp only [Vh,Vi,wk1,Vj,Vk,Vl,Z0,Z1,Z2,Z3,Z4,Z5,Z6,Z7,Z8,Z9,Za,Zb,Zc,Zd,Ze,Zf,List.cons.injEq,Zg,Zh,Zi,Zj,Zk,Zl,Zm,Zn,Zo,Zp,beq_self_eq_true,bne_self_eq_false,decide_true,decide_false,Zq,Zr,Zs,Zt,Zu,Zv,Zw,Zx,Zy,Zz,Y0,Y1,Y2,Y3,Y4,Y5,Y6,Y7,Y8,Y9,Ya,Yb,Yc,Yd,Ye,Yf,Yg,Yh,Yi,Yj,Yk,Yl,lk,ef,Ym,Yn,Yo,Yp,Yq,Yr,Ys,Yt,Yu,Yv,Yw,Yx,Yy,Yz,X0,X1,X2,X3,X4,X5,X6,X7,X8,X9,Xa,Xb,Xc,Xd,Xe,Xf,Xg,Xh,Xi,Xj,Xk,hv,Xl,ev,Xm,Xn,Xo,Xp,Xq,Xr,Xs,Xt,Xu,Xv,Xw,Xx,Xy,Xz,W0,W1,W2,W3,W4,W5,W6,W7,W8,W9,Wa,Wb,Wc,Wd,We,Wf,Wg,Wh,Wi,Value.oneCell',Wj,Wk,Wl,Wm,true_and,and_true,and_self,implies_true,Wn,Wo,Wp,Wq,false_implies,Wr,Ws,Wt,Wu,Wv,Ww,Wx,Wy,Wz,V0,V1,V2,V3,V4,V5,V6,V7,reduceCtorEq,if_true,if_false,V8,↓reduceIte,V9,Va,Vb,Vc,Vd,Ve,ne_eq,not_false_eq_true,not_true_eq_false,Vf,Nat.zero_ne_one]
      all_goals first | done | rfl | exact ⟨rfl, rfl⟩
    rintro J2 hJ2 g ⟨hg, hgl⟩
    have hgt : g < l.length := by omega
    have gG := getD_map (f := Smp.av) (d := []) hgt
    have b3 := badSmp_bd (hb l[g] (List.getElem_mem hgt))
    simp only [Smp.av] at gG
    have tk := tmN_in hlt
    have tg := tmN_in hgt
    have w2 : IntKind.i64.wrap (l[k].time - l[g].time) = l[k].time - l[g].time := wrap_in (by omega) (by omega)
    have hwg := i_add1 g (by omega)
    have y1 := hG.sz 0 g (Nat.zero_le _) (by omega)
    have y2 := hG.sz g (k + 1) (by omega) (by omega)
    by_cases hd : w ≤ l[k].time - l[g].time
    · have hgk : g < k := by
        rcases Nat.lt_or_ge g k with q | q
        · exact q
        · have e : g = k := by omega
          subst e; omega
      have hsg := szN_succ hgt
      have y3 := hG.sz (g + 1) (k + 1) (by omega) (by omega)
      have w3 : IntKind.i64.wrap (szN l (k + 1) - szN l g - l[g].size) = szN l (k + 1) - szN l (g + 1) := by rw [hsg, wrap_in (by omega) (by omega)]; omega
      have hgl2 : ∀ i, i < g + 1 → w ≤ tmN l k - tmN l i := fun i hi => by
        by_cases q : i = g
        · subst q; omega
        · exact hgl i (by omega)
      repeat' first | ((with_reducible (first | refine condD ?_ ?_ | refine condE ?_ ?_ | refine condN ?_ ?_ | refine condI ?_ ?_ | refine condS ?_ ?_)) <;> intro h) | ((with_reducible (first | refine guardD (by with_unfolding_all rfl) ?_ ?_ | refine guardE (by with_unfolding_all rfl) ?_ ?_ | refine guardN (by with_unfolding_all rfl) ?_ ?_ | refine guardI (by with_unfolding_all rfl) ?_ ?_ | refine guardS (by with_unfolding_all rfl) ?_ ?_)) <;> intro h) | (with_reducible refine And.intro ?_ ?_; omega) | (simp only [Z0,Z1,Z2,Z3,Z4,Z5,Z6,Z7,Z8,Z9,Za,Zb,Zc,Zd,Ze,Zf,List.cons.injEq,Zg,Zh,Zi,Zj,Zk,Zl,Zm,Zn,Zo,Zp,beq_self_eq_true,bne_self_eq_false,decide_true,decide_false,Zq,Zr,Zs,Zt,Zu,Zv,Zw,Zx,Zy,Zz,Y0,Y1,Y2,Y3,Y4,Y5,Y6,Y7,Y8,Y9,Ya,Yb,Yc,Yd,Ye,Yf,Yg,Yh,Yi,Yj,Yk,Yl,lk,ef,Ym,Yn,Yo,Yp,Yq,Yr,Ys,Yt,Yu,Yv,Yw,Yx,Yy,Yz,X0,X1,X2,X3,X4,X5,X6,X7,X8,X9,Xa,Xb,Xc,Xd,Xe,Xf,Xg,Xh,Xi,Xj,Xk,hv,Xl,ev,Xm,Xn,Xo,Xp,Xq,Xr,Xs,Xt,Xu,Xv,Xw,Xx,Xy,Xz,W0,W1,W2,W3,W4,W5,W6,W7,W8,W9,Wa,Wb,Wc,Wd,We,Wf,Wg,Wh,Wi,Value.oneCell',Wj,Wk,Wl,Wm,true_and,and_true,and_self,implies_true,Wn,Wo,Wp,Wq,false_implies,Wr,Ws,Wt,Wu,Wv,Ww,Wx,Wy,Wz,V0,V1,V2,V3,V4,V5,V6,V7,reduceCtorEq,if_true,if_false,V8,↓reduceIte,V9,Va,Vb,Vc,Vd,Ve,ne_eq,not_false_eq_true,not_true_eq_false,Vf,Vg,r11_0,r11_1,r11_2,r11_3,r11_4,r11_5,r11_6,r11_7,r11_8,r11_9,r11_10,r11_11,r11_12,r11_13,r11_14,r11_15,r11_16,p11,l11_1,Par.av,Smp.av,gG,w2,w3,hd]) | (exfalso; omega)
      all_goals first | omega | exact again hJ2 (g + 1) (weak_mk (by simp only [Vh,Vi,wk1,Vj,Vk,Vl,Z0,Z1,Z2,Z3,Z4,Z5,Z6,Z7,Z8,Z9,Za,Zb,Zc,Zd,Ze,Zf,List.cons.injEq,Zg,Zh,Zi,Zj,Zk,Zl,Zm,Zn,Zo,Zp,beq_self_eq_true,bne_self_eq_false,decide_true,decide_false,Zq,Zr,Zs,Zt,Zu,Zv,Zw,Zx,Zy,Zz,Y0,Y1,Y2,Y3,Y4,Y5,Y6,Y7,Y8,Y9,Ya,Yb,Yc,Yd,Ye,Yf,Yg,Yh,Yi,Yj,Yk,Yl,lk,ef,Ym,Yn,Yo,Yp,Yq,Yr,Ys,Yt,Yu,Yv,Yw,Yx,Yy,Yz,X0,X1,X2,X3,X4,X5,X6,X7,X8,X9,Xa,Xb,Xc,Xd,Xe,Xf,Xg,Xh,Xi,Xj,Xk,hv,Xl,ev,Xm,Xn,Xo,Xp,Xq,Xr,Xs,Xt,Xu,Xv,Xw,Xx,Xy,Xz,W0,W1,W2,W3,W4,W5,W6,W7,W8,W9,Wa,Wb,Wc,Wd,We,Wf,Wg,Wh,Wi,Value.oneCell',Wj,Wk,Wl,Wm,true_and,and_true,and_self,implies_true,Wn,Wo,Wp,Wq,false_implies,Wr,Ws,Wt,Wu,Wv,Ww,Wx,Wy,Wz,V0,V1,V2,V3,V4,V5,V6,V7,reduceCtorEq,if_true,if_false,V8,↓reduceIte,V9,Va,Vb,Vc,Vd,Ve,ne_eq,not_false_eq_true,not_true_eq_false,Vf,Nat.zero_ne_one]; exact ⟨rfl, hwg, rfl⟩)) ⟨by omega, hgl2⟩ (by omega)
    · have hnx := hP.endAt hG hg hlt hgl (by omega)
      have hlo3 : ∀ i, i < g → ∀ j, k + 1 ≤ j + 1 → j < l.length → w ≤ tmN l j - tmN l i := fun i hi j h1 h2 => by
        have a := hgl i hi
        have b := hG.tm k j (by omega) h2
        omega
      clear hJ2
      have eM : (if m < szN l (k + 1) - szN l g then szN l (k + 1) - szN l g else m) = max m (szN l (k + 1) - szN l g) := by omega
      repeat' first | ((with_reducible (first | refine condD ?_ ?_ | refine condE ?_ ?_ | refine condN ?_ ?_ | refine condI ?_ ?_ | refine condS ?_ ?_)) <;> intro h) | ((with_reducible (first | refine guardD (by with_unfolding_all rfl) ?_ ?_ | refine guardE (by with_unfolding_all rfl) ?_ ?_ | refine guardN (by with_unfolding_all rfl) ?_ ?_ | refine guardI (by with_unfolding_all rfl) ?_ ?_ | refine guardS (by with_unfolding_all rfl) ?_ ?_)) <;> intro h) | (with_reducible refine And.intro ?_ ?_; omega) | (simp only [Z0,Z1,Z2,Z3,Z4,Z5,Z6,Z7,Z8,Z9,Za,Zb,Zc,Zd,Ze,Zf,List.cons.injEq,Zg,Zh,Zi,Zj,Zk,Zl,Zm,Zn,Zo,Zp,beq_self_eq_true,bne_self_eq_false,decide_true,decide_false,Zq,Zr,Zs,Zt,Zu,Zv,Zw,Zx,Zy,Zz,Y0,Y1,Y2,Y3,Y4,Y5,Y6,Y7,Y8,Y9,Ya,Yb,Yc,Yd,Ye,Yf,Yg,Yh,Yi,Yj,Yk,Yl,lk,ef,Ym,Yn,Yo,Yp,Yq,Yr,Ys,Yt,Yu,Yv,Yw,Yx,Yy,Yz,X0,X1,X2,X3,X4,X5,X6,X7,X8,X9,Xa,Xb,Xc,Xd,Xe,Xf,Xg,Xh,Xi,Xj,Xk,hv,Xl,ev,Xm,Xn,Xo,Xp,Xq,Xr,Xs,Xt,Xu,Xv,Xw,Xx,Xy,Xz,W0,W1,W2,W3,W4,W5,W6,W7,W8,W9,Wa,Wb,Wc,Wd,We,Wf,Wg,Wh,Wi,Value.oneCell',Wj,Wk,Wl,Wm,true_and,and_true,and_self,implies_true,Wn,Wo,Wp,Wq,false_implies,Wr,Ws,Wt,Wu,Wv,Ww,Wx,Wy,Wz,V0,V1,V2,V3,V4,V5,V6,V7,reduceCtorEq,if_true,if_false,V8,↓reduceIte,V9,Va,Vb,Vc,Vd,Ve,ne_eq,not_false_eq_true,not_true_eq_false,Vf,Vg,r11_0,r11_1,r11_2,r11_3,r11_4,r11_5,r11_6,r11_7,r11_8,r11_9,r11_10,r11_11,r11_12,r11_13,r11_14,r11_15,r11_16,p11,l11_1,Par.av,Smp.av,gG,w2,hd]) | (exfalso; omega)
      all_goals first | omega | exact again hJ (k + 1, g, max m (szN l (k + 1) - szN l g)) (weak_mk (by simp only [Vh,Vi,wk1,Vj,Vk,Vl,Z0,Z1,Z2,Z3,Z4,Z5,Z6,Z7,Z8,Z9,Za,Zb,Zc,Zd,Ze,Zf,List.cons.injEq,Zg,Zh,Zi,Zj,Zk,Zl,Zm,Zn,Zo,Zp,beq_self_eq_true,bne_self_eq_false,decide_true,decide_false,Zq,Zr,Zs,Zt,Zu,Zv,Zw,Zx,Zy,Zz,Y0,Y1,Y2,Y3,Y4,Y5,Y6,Y7,Y8,Y9,Ya,Yb,Yc,Yd,Ye,Yf,Yg,Yh,Yi,Yj,Yk,Yl,lk,ef,Ym,Yn,Yo,Yp,Yq,Yr,Ys,Yt,Yu,Yv,Yw,Yx,Yy,Yz,X0,X1,X2,X3,X4,X5,X6,X7,X8,X9,Xa,Xb,Xc,Xd,Xe,Xf,Xg,Xh,Xi,Xj,Xk,hv,Xl,ev,Xm,Xn,Xo,Xp,Xq,Xr,Xs,Xt,Xu,Xv,Xw,Xx,Xy,Xz,W0,W1,W2,W3,W4,W5,W6,W7,W8,W9,Wa,Wb,Wc,Wd,We,Wf,Wg,Wh,Wi,Value.oneCell',Wj,Wk,Wl,Wm,true_and,and_true,and_self,implies_true,Wn,Wo,Wp,Wq,false_implies,Wr,Ws,Wt,Wu,Wv,Ww,Wx,Wy,Wz,V0,V1,V2,V3,V4,V5,V6,V7,reduceCtorEq,if_true,if_false,V8,↓reduceIte,V9,Va,Vb,Vc,Vd,Ve,ne_eq,not_false_eq_true,not_true_eq_false,Vf,Nat.zero_ne_one]; exact ⟨rfl, eM, hw⟩)) ⟨by simp only; omega, by simp only; omega, hlo3, hnx⟩ (by simp only; omega)
  have hke : k = l.length := by omega
  subst hke
  clear hJ
  have e1 := PkTo.one (hP.weak (q := fun _ _ => True) fun i k _ h _ => h) hV
  subst e1
  repeat' first | ((with_reducible (first | refine condD ?_ ?_ | refine condE ?_ ?_ | refine condN ?_ ?_ | refine condI ?_ ?_ | refine condS ?_ ?_)) <;> intro h) | ((with_reducible (first | refine guardD (by with_unfolding_all rfl) ?_ ?_ | refine guardE (by with_unfolding_all rfl) ?_ ?_ | refine guardN (by with_unfolding_all rfl) ?_ ?_ | refine guardI (by with_unfolding_all rfl) ?_ ?_ | refine guardS (by with_unfolding_all rfl) ?_ ?_)) <;> intro h) | (with_reducible refine And.intro ?_ ?_; omega) | (simp only [Z0,Z1,Z2,Z3,Z4,Z5,Z6,Z7,Z8,Z9,Za,Zb,Zc,Zd,Ze,Zf,List.cons.injEq,Zg,Zh,Zi,Zj,Zk,Zl,Zm,Zn,Zo,Zp,beq_self_eq_true,bne_self_eq_false,decide_true,decide_false,Zq,Zr,Zs,Zt,Zu,Zv,Zw,Zx,Zy,Zz,Y0,Y1,Y2,Y3,Y4,Y5,Y6,Y7,Y8,Y9,Ya,Yb,Yc,Yd,Ye,Yf,Yg,Yh,Yi,Yj,Yk,Yl,lk,ef,Ym,Yn,Yo,Yp,Yq,Yr,Ys,Yt,Yu,Yv,Yw,Yx,Yy,Yz,X0,X1,X2,X3,X4,X5,X6,X7,X8,X9,Xa,Xb,Xc,Xd,Xe,Xf,Xg,Xh,Xi,Xj,Xk,hv,Xl,ev,Xm,Xn,Xo,Xp,Xq,Xr,Xs,Xt,Xu,Xv,Xw,Xx,Xy,Xz,W0,W1,W2,W3,W4,W5,W6,W7,W8,W9,Wa,Wb,Wc,Wd,We,Wf,Wg,Wh,Wi,Value.oneCell',Wj,Wk,Wl,Wm,true_and,and_true,and_self,implies_true,Wn,Wo,Wp,Wq,false_implies,Wr,Ws,Wt,Wu,Wv,Ww,Wx,Wy,Wz,V0,V1,V2,V3,V4,V5,V6,V7,reduceCtorEq,if_true,if_false,V8,↓reduceIte,V9,Va,Vb,Vc,Vd,Ve,ne_eq,not_false_eq_true,not_true_eq_false,Vf,Vg,r11_0,r11_1,r11_2,r11_3,r11_4,r11_5,r11_6,r11_7,r11_8,r11_9,r11_10,r11_11,r11_12,r11_13,r11_14,r11_15,r11_16,p11,l11_0]) | (exfalso; omega)
end Go.Proofs.YtbdcnooafacldaaDoor
