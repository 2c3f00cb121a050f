/- slices.symMergeCmpFunc with sample.Order's comparison, the whole. -/
import Derived.Test.YtbdcnooafacldaaKStabC
namespace Go.Proofs.Ytbdcnooafacldaa
open Go.RowKit
open Go.Proofs.Ytbdcnooafacldaa renaming done_eq → Z0, done_eq' → Z3, donet_eq → Z4, donet_eq' → Z5, fin_val → Z6, fin_tup → Z7, fin_agg → Z8, fin_ro → Z9, res_one → Za, res_more → Zb, rv_t → Zc, rv_c → Zd, rv_l → Ze, int_eq → Zi, bool_eq → Zj, toNat_pred → Zt, toNat_succ → Zu, cnd_t → Zw, cnd_f → Zx, grd_tt → Zy, grd_u → Zz, grd_tf → Y0, grd_ft → Y1, grd_ff → Y2, g_skip → Y3, g_ops → Y4, g_seq → Y5, g_block → Y6, g_exit → Y7, g_ret → Y8, x_c → Y9, x_o → Ya, x_l → Yb, x_b → Yc, g_b → Yd, g_nil → Ye, r_all → Yf, o_nil → Yg, g_cond → Yh, o_guard → Yi, o_call → Yj, o_callm → Yk, o_callt → Yl, o_callx → Ym, o_callv → Yn, o_callc → Yo, o_callh → Yp, o_apph → Yq, noav_alias → Yr, noav_nil → Ys, o_mv → Yt, o_pick → Yu, o_bin → Yv, o_never → Yw, o_eqs → Yx, o_eqb → Yy, o_un → Yz, o_conv → X0, o_load → X1, o_loadr → X2, o_idxr → X3, o_loads → X4, o_loadsr → X5, o_fld → X6, o_idx → X7, o_idxs → X8, o_len → X9, o_lens → Xa, o_ext → Xb, o_nilck → Xc, o_slc → Xd, o_slcs → Xe, o_build → Xf, o_minmax → Xg, o_mkfn → Xh, o_mkfnr → Xi, o_alloc → Xj, o_box → Xk, o_boxs → Xl, o_row → Xm, o_rowr → Xn, o_mk → Xo, o_asg → Xp, o_app → Xq, o_appa → Xr, o_store → Xs, o_stores → Xt, o_eqnil → Xu, eqAV → Xv, view_t → Xw, view_c → Xx, view_nil → Xy, view_fn → Xz, look_own → W0, look_box → W1, look_junk → W2, look_val → W3, look_nilsl → W4, look_ro → W5, look_roAt → W6, look_agg → W7, look_tup → W8, look_clo → W9, look_alias → Wa, look_ref → Wb, look_into → Wc, look_fnv → Wd, look_held → We, rowOf → Wf, cellsOf → Wg, argv → Wh, vbin → Wi, vun → Wj, bnd → Wk, elemOf → Wl, putParts → Wm, setAt → Wn, zav → Wo, put_at → Ww, mk_at → Wx, mk_nil → Wy, initSt → Wz, wk_cons → Vv, wk_nil → Vw, vint_eq → Vx, vbool_eq → Vy
open Go.Proofs.Ytbdcnooafacldaa.AV.tup renaming injEq → Zf
open Go.Proofs.Ytbdcnooafacldaa.AV.agg renaming injEq → Zg
open Go.Proofs.Ytbdcnooafacldaa.AV.ro renaming injEq → Zh
open _root_.Int renaming toNat_natCast → Zk, reduceToNat → Zl, toNat_zero → Zm, toNat_one → Zn, reduceLE → Zo, reduceLT → Zp, reduceBEq → Zq, reduceBNe → Zr, reduceNeg → Zs
open _root_.List renaming length_map → Zv, map_cons → V0, map_nil → V1, forall_mem_cons → V2, not_mem_nil → V3, length_cons → V4, length_nil → V5, getD_cons_zero → V6, getD_cons_succ → V7, getD_nil → V8, drop_succ_cons → V9, drop_zero → Va, take_succ_cons → Vb, take_zero → Vc, set_cons_zero → Vd, set_cons_succ → Ve, all_cons → Vf, all_nil → Vg
open Go.Proofs.Ytbdcnooafacldaa.ASt renaming rid → Wp, hold → Wq, free → Wr
open Go.Proofs.Ytbdcnooafacldaa.AV renaming kill → Ws, isHome → Wt, noLoan → Wu, cellOK → Wv
open _root_.Bool renaming and_true → Vh, true_and → Vi, not_true → Vj, not_false → Vk, false_eq_true → Vl
open _root_.Nat renaming reduceEqDiff → Vm, reduceBNe → Vn, reduceAdd → Vo, reduceSub → Vp, reduceMul → Vq, reduceLeDiff → Vr, reduceLT → Vs, one_ne_zero → Vt, zero_ne_one → Vu
open Go.Proofs.Ytbdcnooafacldaa.AV.val renaming injEq → Vz
set_option linter.unusedSimpArgs false
--@short

/-- Two ways that lead to one place. -/
structure Wrapped (G : Prop) : Prop where
  out : G
theorem both_ways {p q G goal : Prop} (h : p ∨ q) (g : Wrapped G) (a : p → Wrapped G → goal) (b : q → Wrapped G → goal) : goal := h.elim (fun x => a x g) (fun x => b x g)
/-- What symMerge asks of two halves. -/
structure SymPre (p : List Int) (L R : List Int) : Prop where
  l : 0 < L.length
  r : 0 < R.length
  lk : InK p L
  rk : InK p R
  ls : SrtK (fK p) L
  rs : SrtK (fK p) R
  lt : ∀ x ∈ L, ∀ y ∈ R, x < y
/-- symMerge puts two halves in order. -/
def SymOK (p P L R S : List Int) : Prop := TurnOK Try.prog 33 (.own 3 1 ((P ++ L ++ R ++ S).map oneI)) (.own 3 1 ((P ++ srt (fK p) (L ++ R) ++ S).map oneI)) [.val (.int .i64 P.length), .val (.int .i64 ((P.length + L.length : Nat) : Int)), .val (.int .i64 ((P.length + L.length + R.length : Nat) : Int)), .fnv 16 [.roAt [.ro (p.map oneI)] 0]] (.tup [])
theorem pairwise_take {α : Type} {r : α → α → Prop} {l : List α} (h : l.Pairwise r) (n : Nat) : (l.take n).Pairwise r := h.sublist (List.take_sublist n l)
theorem pairwise_drop {α : Type} {r : α → α → Prop} {l : List α} (h : l.Pairwise r) (n : Nat) : (l.drop n).Pairwise r := h.sublist (List.drop_sublist n l)
set_option maxHeartbeats 8000000 in
set_option maxRecDepth 20000 in
theorem symm3_c (p : List Int) (hp : KBnd p) (P L R S : List Int) (ih : ∀ P' L' R' S', L'.length + R'.length < L.length + R.length → SymPre p L' R' → (P' ++ L' ++ R' ++ S').length ≤ 100000 → SymOK p P' L' R' S') (h1 : 1 < L.length) (h2 : 1 < R.length) (hpre : SymPre p L R) (hl : (P ++ L ++ R ++ S).length ≤ 100000) : SymOK p P L R S := by
  unfold SymOK at ih ⊢
  refine turn_of mixed ok33 rfl (.tup _ (by simp)) rfl ?_
  obtain ⟨_, _, hLK, hRK, hLs, hRs, hlt⟩ := hpre
  have hll : (P ++ L ++ R ++ S).length = P.length + L.length + R.length + S.length := by simp only [List.length_append]
  obtain ⟨h, hh⟩ : ∃ h, h = (L.length + R.length) / 2 := ⟨_, rfl⟩
  obtain ⟨s0, t0, hst, hs0, hdom⟩ : ∃ s0 t0 : Nat, (if h < L.length then s0 = h - R.length ∧ t0 = h ∧ R.length ≤ h else s0 = 0 ∧ t0 = L.length) ∧ s0 ≤ t0 ∧ ∀ c, s0 ≤ c → c < t0 → c < L.length ∧ c < h ∧ h - 1 - c < R.length := by
    by_cases q : h < L.length
    · exact ⟨h - R.length, h, by rw [if_pos q]; omega, by omega, fun c a b => by omega⟩
    · exact ⟨0, L.length, by rw [if_neg q]; omega, by omega, fun c a b => by omega⟩
  -- what the search finds
  have hfin : ∀ s, s0 ≤ s → s ≤ t0 → (s = s0 ∨ ∃ c, s = c + 1 ∧ ∃ (a : c < L.length) (b : h - 1 - c < R.length), leK (fK p) L[c] R[h - 1 - c]) → (s = t0 ∨ ∃ (a : s < L.length) (b : h - 1 - s < R.length), leK (fK p) R[h - 1 - s] L[s]) →
      (s ≤ L.length ∧ s ≤ h ∧ h - s ≤ R.length) ∧ srt (fK p) (L.take s ++ R.take (h - s)) ++ srt (fK p) (L.drop s ++ R.drop (h - s)) = srt (fK p) (L ++ R) := fun s a1 a2 a3 a4 => by
    have hb : s ≤ L.length ∧ s ≤ h ∧ h - s ≤ R.length := by
      split at hst
      · omega
      · omega
    refine ⟨hb, ?_⟩
    have e := merge_parts (f := fK p) (A := L.take s) (B := L.drop s) (C := R.take (h - s)) (D := R.drop (h - s)) (by rw [List.take_append_drop]; exact hLs) (by rw [List.take_append_drop]; exact hRs) (fun x hx y hy => ?_) (fun x hx y hy => ?_)
    · rw [List.take_append_drop, List.take_append_drop] at e; exact e
    · rcases a3 with rfl | ⟨c, rfl, b1, b2, b3⟩
      · exfalso
        split at hst
        · rw [List.drop_of_length_le (by omega)] at hy; cases hy
        · rw [show s = 0 by omega] at hx; simp at hx
      · have e1 := take_bd (f := fK p) (z := R[h - 1 - c]) hLs (.inr ⟨by omega, by simpa using b3⟩) x hx
        have e2 := drop_bd (f := fK p) (i := h - (c + 1)) (z := R[h - 1 - c]) hRs (.inr ⟨by omega, by
          have : h - (c + 1) = h - 1 - c := by omega
          simp only [this]; unfold leK; omega⟩) y hy
        exact leK_trans e1 e2
    · rcases a4 with rfl | ⟨b1, b2, b3⟩
      · exfalso
        split at hst
        · rw [show h - s = 0 by omega] at hx; simp at hx
        · rw [List.drop_of_length_le (by omega)] at hy; cases hy
      · by_cases hsh : s < h
        · have e1 := take_bd (f := fK p) (i := h - s) (z := L[s]) hRs (.inr ⟨by omega, by
            have : h - s - 1 = h - 1 - s := by omega
            simp only [this]; exact b3⟩) x hx
          have e2 := drop_bd (f := fK p) (z := L[s]) hLs (.inr ⟨b1, by unfold leK; omega⟩) y hy
          exact leK_trans e1 e2
        · exfalso
          rw [show h - s = 0 by omega] at hx; simp at hx
  obtain ⟨Z, hZ⟩ : ∃ Z, Z = P ++ L ++ R ++ S := ⟨_, rfl⟩
  have hzl : ∀ t (q : t < L.length), Z[P.length + t]? = some L[t] := fun t q => by rw [hZ]; exact at_L q
  have hzr : ∀ t (q : t < R.length), Z[P.length + L.length + t]? = some R[t] := fun t q => by rw [hZ]; exact at_R q
  rw [← hZ]
  rw [← hZ] at hl hll
  generalize hq : P.length = q at *
  have w0 := sub_in (q + L.length) q L.length rfl (by omega)
  have w0' := sub_in (q + L.length + R.length) (q + L.length) R.length rfl (by omega)
  have hne : ((L.length : Int) == 1) = false := beq_eq_false_iff_ne.2 (by omega)
  have hne' : ((R.length : Int) == 1) = false := beq_eq_false_iff_ne.2 (by omega)
  have s1 := sum_in q (q + L.length + R.length) (by omega) (by omega)
  have s2 := u64_in (n := q + (q + L.length + R.length)) (by omega)
  have s3 : ((q + (q + L.length + R.length) : Nat) : Int).fdiv (2 ^ (min 1 IntKind.u64.bits)) = ((q + h : Nat) : Int) := by
    have := half_2 q 0 (L.length + R.length)
    rw [Nat.zero_add, ← hh] at this
    rw [← this, show q + (q + L.length + R.length) = q + 0 + (q + (L.length + R.length)) by omega]
  have s4 := i64_in (n := q + h) (by omega)
  have s5 := sum_in (q + h) (q + L.length) (by omega) (by omega)
  obtain ⟨pn, hpn⟩ : ∃ pn, pn + 1 = q + h + (q + L.length) := ⟨q + h + (q + L.length) - 1, by omega⟩
  have s6 : IntKind.i64.wrap (((q + h + (q + L.length) : Nat) : Int) - 1) = ((pn : Nat) : Int) := by rw [wrap_in (by omega) (by omega)]; omega
  have hcase : (h < L.length ∧ s0 = h - R.length ∧ t0 = h ∧ R.length ≤ h) ∨ (¬ h < L.length ∧ s0 = 0 ∧ t0 = L.length) := by
    split at hst
    · rename_i z; exact .inl ⟨z, hst⟩
    · rename_i z; exact .inr ⟨z, hst⟩
  clear hst
  have b0 : (0 : Int) ≤ (q : Int) := by omega
  refine both_ways (G := ?G) hcase ?g (fun hcs key => ?a) (fun hcs key => ?b)
  case a =>
      obtain ⟨c1, c2, c3, c4⟩ := hcs
      have hd : ((q + h : Nat) : Int) < ((q + L.length : Nat) : Int) := by omega
      have s8 : IntKind.i64.wrap (((q + h + (q + L.length) : Nat) : Int) - ((q + L.length + R.length : Nat) : Int)) = ((q + s0 : Nat) : Int) := by rw [wrap_in (by omega) (by omega)]; omega
      repeat' first | ((with_reducible (first | refine condD ?_ ?_ | refine condE ?_ ?_ | refine condN ?_ ?_ | refine condI ?_ ?_ | refine condS ?_ ?_)) <;> intro h) | ((with_reducible (first | refine guardD (by with_unfolding_all rfl) ?_ ?_ | refine guardE (by with_unfolding_all rfl) ?_ ?_ | refine guardN (by with_unfolding_all rfl) ?_ ?_ | refine guardI (by with_unfolding_all rfl) ?_ ?_ | refine guardS (by with_unfolding_all rfl) ?_ ?_)) <;> intro h) | (with_reducible refine And.intro ?_ ?_; omega) | (simp only [Z0,Z3,Z4,Z5,Z6,Z7,Z8,Z9,Za,Zb,Zc,Zd,Ze,Zf,Zg,Zh,List.cons.injEq,Zi,Zj,Zk,Zl,Zm,Zn,Zo,Zp,Zq,Zr,beq_self_eq_true,bne_self_eq_false,decide_true,decide_false,Zs,Zt,Zu,Zv,Zw,Zx,Zy,Zz,Y0,Y1,Y2,Y3,Y4,Y5,Y6,Y7,Y8,Y9,Ya,Yb,Yc,Yd,Ye,Yf,Yg,Yh,Yi,Yj,Yk,Yl,Ym,Yn,Yo,Yp,Yq,Yr,Ys,lk,ef,Yt,Yu,Yv,Yw,Yx,Yy,Yz,X0,X1,X2,X3,X4,X5,X6,X7,X8,X9,Xa,Xb,Xc,Xd,Xe,Xf,Xg,Xh,Xi,Xj,Xk,Xl,Xm,Xn,Xo,Xp,Xq,Xr,Xs,Xt,Xu,hv,Xv,ev,Xw,Xx,Xy,Xz,W0,W1,W2,W3,W4,W5,W6,W7,W8,W9,Wa,Wb,Wc,Wd,We,Wf,Wg,Wh,Wi,Wj,Wk,Wl,Wm,Wn,Wo,Wp,Wq,Wr,Ws,Wt,Wu,Wv,Value.oneCell',Ww,Wx,Wy,Wz,true_and,and_true,and_self,implies_true,V0,V1,V2,V3,false_implies,V4,V5,V6,V7,V8,V9,Va,Vb,Vc,Vd,Ve,Vf,Vg,Vh,Vi,Vj,Vk,reduceCtorEq,if_true,if_false,Vl,↓reduceIte,Vm,Vn,Vo,Vp,Vq,Vr,Vs,ne_eq,not_false_eq_true,not_true_eq_false,Vt,Vu,r33_0,r33_1,r33_2,r33_3,r33_4,r33_5,r33_6,r33_7,r33_8,r33_9,r33_11,r33_10,r33_12,r33_13,r33_14,r33_15,r33_16,r33_17,r33_18,r33_19,r33_20,r33_21,r33_23,r33_22,r33_24,r33_25,r33_26,r33_27,r33_28,r33_29,r33_30,r33_31,r33_32,r33_33,r33_34,r33_35,r33_36,r33_37,r33_38,r33_39,r33_40,r33_41,r33_42,r33_43,r33_44,p33,hd,s8,w0,w0',hne,hne',s1,s2,s3,s4,s5,s6]) | (exfalso; omega)
      refine loopS (fun i : Nat × Nat => mk [(0, .own 3 1 (Z.map oneI)), (1, .val (.int .i64 q)), (2, .val (.int .i64 ((q + L.length : Nat) : Int))), (3, .val (.int .i64 ((q + L.length + R.length : Nat) : Int))), (4, .fnv 16 [.roAt [.ro (p.map oneI)] 0]), (18, .val (.int .i64 ((q + h : Nat) : Int))), (19, .val (.int .i64 ((q + h + (q + L.length) : Nat) : Int))), (20, .val (.int .i64 ((q + i.1 : Nat) : Int))), (21, .val (.int .i64 ((q + i.2 : Nat) : Int))), (22, .val (.int .i64 ((pn : Nat) : Int)))])
        (fun i => s0 ≤ i.1 ∧ i.1 ≤ i.2 ∧ i.2 ≤ t0 ∧ (i.1 = s0 ∨ ∃ c, i.1 = c + 1 ∧ ∃ (a : c < L.length) (b : h - 1 - c < R.length), leK (fK p) L[c] R[h - 1 - c]) ∧ (i.2 = t0 ∨ ∃ (a : i.2 < L.length) (b : h - 1 - i.2 < R.length), leK (fK p) R[h - 1 - i.2] L[i.2])) (fun i => i.2 - i.1) (s0, t0) (weak_mk ?_) ⟨Nat.le_refl _, hs0, Nat.le_refl _, .inl rfl, .inl rfl⟩ ?_
      · simp only [Vv,Vw,wk1,Vx,Vy,Vz,Z0,Z3,Z4,Z5,Z6,Z7,Z8,Z9,Za,Zb,Zc,Zd,Ze,Zf,Zg,Zh,List.cons.injEq,Zi,Zj,Zk,Zl,Zm,Zn,Zo,Zp,Zq,Zr,beq_self_eq_true,bne_self_eq_false,decide_true,decide_false,Zs,Zt,Zu,Zv,Zw,Zx,Zy,Zz,Y0,Y1,Y2,Y3,Y4,Y5,Y6,Y7,Y8,Y9,Ya,Yb,Yc,Yd,Ye,Yf,Yg,Yh,Yi,Yj,Yk,Yl,Ym,Yn,Yo,Yp,Yq,Yr,Ys,lk,ef,Yt,Yu,Yv,Yw,Yx,Yy,Yz,X0,X1,X2,X3,X4,X5,X6,X7,X8,X9,Xa,Xb,Xc,Xd,Xe,Xf,Xg,Xh,Xi,Xj,Xk,Xl,Xm,Xn,Xo,Xp,Xq,Xr,Xs,Xt,Xu,hv,Xv,ev,Xw,Xx,Xy,Xz,W0,W1,W2,W3,W4,W5,W6,W7,W8,W9,Wa,Wb,Wc,Wd,We,Wf,Wg,Wh,Wi,Wj,Wk,Wl,Wm,Wn,Wo,Wp,Wq,Wr,Ws,Wt,Wu,Wv,Value.oneCell',Ww,Wx,Wy,Wz,true_and,and_true,and_self,implies_true,V0,V1,V2,V3,false_implies,V4,V5,V6,V7,V8,V9,Va,Vb,Vc,Vd,Ve,Vf,Vg,Vh,Vi,Vj,Vk,reduceCtorEq,if_true,if_false,Vl,↓reduceIte,Vm,Vn,Vo,Vp,Vq,Vr,Vs,ne_eq,not_false_eq_true,not_true_eq_false,Vt,Nat.zero_ne_one]
        all_goals first | done | (simp only [c2, c3, Nat.add_zero, and_self]; done) | trace_state
      exact key.out
  case b =>
      obtain ⟨c1, c2, c3⟩ := hcs
      have hd : ¬ ((q + h : Nat) : Int) < ((q + L.length : Nat) : Int) := by omega
      repeat' first | ((with_reducible (first | refine condD ?_ ?_ | refine condE ?_ ?_ | refine condN ?_ ?_ | refine condI ?_ ?_ | refine condS ?_ ?_)) <;> intro h) | ((with_reducible (first | refine guardD (by with_unfolding_all rfl) ?_ ?_ | refine guardE (by with_unfolding_all rfl) ?_ ?_ | refine guardN (by with_unfolding_all rfl) ?_ ?_ | refine guardI (by with_unfolding_all rfl) ?_ ?_ | refine guardS (by with_unfolding_all rfl) ?_ ?_)) <;> intro h) | (with_reducible refine And.intro ?_ ?_; omega) | (simp only [Z0,Z3,Z4,Z5,Z6,Z7,Z8,Z9,Za,Zb,Zc,Zd,Ze,Zf,Zg,Zh,List.cons.injEq,Zi,Zj,Zk,Zl,Zm,Zn,Zo,Zp,Zq,Zr,beq_self_eq_true,bne_self_eq_false,decide_true,decide_false,Zs,Zt,Zu,Zv,Zw,Zx,Zy,Zz,Y0,Y1,Y2,Y3,Y4,Y5,Y6,Y7,Y8,Y9,Ya,Yb,Yc,Yd,Ye,Yf,Yg,Yh,Yi,Yj,Yk,Yl,Ym,Yn,Yo,Yp,Yq,Yr,Ys,lk,ef,Yt,Yu,Yv,Yw,Yx,Yy,Yz,X0,X1,X2,X3,X4,X5,X6,X7,X8,X9,Xa,Xb,Xc,Xd,Xe,Xf,Xg,Xh,Xi,Xj,Xk,Xl,Xm,Xn,Xo,Xp,Xq,Xr,Xs,Xt,Xu,hv,Xv,ev,Xw,Xx,Xy,Xz,W0,W1,W2,W3,W4,W5,W6,W7,W8,W9,Wa,Wb,Wc,Wd,We,Wf,Wg,Wh,Wi,Wj,Wk,Wl,Wm,Wn,Wo,Wp,Wq,Wr,Ws,Wt,Wu,Wv,Value.oneCell',Ww,Wx,Wy,Wz,true_and,and_true,and_self,implies_true,V0,V1,V2,V3,false_implies,V4,V5,V6,V7,V8,V9,Va,Vb,Vc,Vd,Ve,Vf,Vg,Vh,Vi,Vj,Vk,reduceCtorEq,if_true,if_false,Vl,↓reduceIte,Vm,Vn,Vo,Vp,Vq,Vr,Vs,ne_eq,not_false_eq_true,not_true_eq_false,Vt,Vu,r33_0,r33_1,r33_2,r33_3,r33_4,r33_5,r33_6,r33_7,r33_8,r33_9,r33_11,r33_10,r33_12,r33_13,r33_14,r33_15,r33_16,r33_17,r33_18,r33_19,r33_20,r33_21,r33_23,r33_22,r33_24,r33_25,r33_26,r33_27,r33_28,r33_29,r33_30,r33_31,r33_32,r33_33,r33_34,r33_35,r33_36,r33_37,r33_38,r33_39,r33_40,r33_41,r33_42,r33_43,r33_44,p33,hd,w0,w0',hne,hne',s1,s2,s3,s4,s5,s6]) | (exfalso; omega)
      refine loopS (fun i : Nat × Nat => mk [(0, .own 3 1 (Z.map oneI)), (1, .val (.int .i64 q)), (2, .val (.int .i64 ((q + L.length : Nat) : Int))), (3, .val (.int .i64 ((q + L.length + R.length : Nat) : Int))), (4, .fnv 16 [.roAt [.ro (p.map oneI)] 0]), (18, .val (.int .i64 ((q + h : Nat) : Int))), (19, .val (.int .i64 ((q + h + (q + L.length) : Nat) : Int))), (20, .val (.int .i64 ((q + i.1 : Nat) : Int))), (21, .val (.int .i64 ((q + i.2 : Nat) : Int))), (22, .val (.int .i64 ((pn : Nat) : Int)))])
        (fun i => s0 ≤ i.1 ∧ i.1 ≤ i.2 ∧ i.2 ≤ t0 ∧ (i.1 = s0 ∨ ∃ c, i.1 = c + 1 ∧ ∃ (a : c < L.length) (b : h - 1 - c < R.length), leK (fK p) L[c] R[h - 1 - c]) ∧ (i.2 = t0 ∨ ∃ (a : i.2 < L.length) (b : h - 1 - i.2 < R.length), leK (fK p) R[h - 1 - i.2] L[i.2])) (fun i => i.2 - i.1) (s0, t0) (weak_mk ?_) ⟨Nat.le_refl _, hs0, Nat.le_refl _, .inl rfl, .inl rfl⟩ ?_
      · simp only [Vv,Vw,wk1,Vx,Vy,Vz,Z0,Z3,Z4,Z5,Z6,Z7,Z8,Z9,Za,Zb,Zc,Zd,Ze,Zf,Zg,Zh,List.cons.injEq,Zi,Zj,Zk,Zl,Zm,Zn,Zo,Zp,Zq,Zr,beq_self_eq_true,bne_self_eq_false,decide_true,decide_false,Zs,Zt,Zu,Zv,Zw,Zx,Zy,Zz,Y0,Y1,Y2,Y3,Y4,Y5,Y6,Y7,Y8,Y9,Ya,Yb,Yc,Yd,Ye,Yf,Yg,Yh,Yi,Yj,Yk,Yl,Ym,Yn,Yo,Yp,Yq,Yr,Ys,lk,ef,Yt,Yu,Yv,Yw,Yx,Yy,Yz,X0,X1,X2,X3,X4,X5,X6,X7,X8,X9,Xa,Xb,Xc,Xd,Xe,Xf,Xg,Xh,Xi,Xj,Xk,Xl,Xm,Xn,Xo,Xp,Xq,Xr,Xs,Xt,Xu,hv,Xv,ev,Xw,Xx,Xy,Xz,W0,W1,W2,W3,W4,W5,W6,W7,W8,W9,Wa,Wb,Wc,Wd,We,Wf,Wg,Wh,Wi,Wj,Wk,Wl,Wm,Wn,Wo,Wp,Wq,Wr,Ws,Wt,Wu,Wv,Value.oneCell',Ww,Wx,Wy,Wz,true_and,and_true,and_self,implies_true,V0,V1,V2,V3,false_implies,V4,V5,V6,V7,V8,V9,Va,Vb,Vc,Vd,Ve,Vf,Vg,Vh,Vi,Vj,Vk,reduceCtorEq,if_true,if_false,Vl,↓reduceIte,Vm,Vn,Vo,Vp,Vq,Vr,Vs,ne_eq,not_false_eq_true,not_true_eq_false,Vt,Nat.zero_ne_one]
        all_goals first | done | (simp only [c2, c3, Nat.add_zero, and_self]; done) | trace_state
      exact key.out
  case g =>
    refine ⟨?_⟩
    clear hcase w0 w0' hne hne' s1 s2 s3 s4 s5 s6
    rintro J hJ ⟨s, t⟩ ⟨a1, a2, a3, a4, a5⟩
    simp only at a1 a2 a3 a4 a5
    simp only [Z0,Z3,Z4,Z5,Z6,Z7,Z8,Z9,Za,Zb,Zc,Zd,Ze,Zf,Zg,Zh,List.cons.injEq,Zi,Zj,Zk,Zl,Zm,Zn,Zo,Zp,Zq,Zr,beq_self_eq_true,bne_self_eq_false,decide_true,decide_false,Zs,Zt,Zu,Zv,Zw,Zx,Zy,Zz,Y0,Y1,Y2,Y3,Y4,Y5,Y6,Y7,Y8,Y9,Ya,Yb,Yc,Yd,Ye,Yf,Yg,Yh,Yi,Yj,Yk,Yl,Ym,Yn,Yo,Yp,Yq,Yr,Ys,lk,ef,Yt,Yu,Yv,Yw,Yx,Yy,Yz,X0,X1,X2,X3,X4,X5,X6,X7,X8,X9,Xa,Xb,Xc,Xd,Xe,Xf,Xg,Xh,Xi,Xj,Xk,Xl,Xm,Xn,Xo,Xp,Xq,Xr,Xs,Xt,Xu,hv,Xv,ev,Xw,Xx,Xy,Xz,W0,W1,W2,W3,W4,W5,W6,W7,W8,W9,Wa,Wb,Wc,Wd,We,Wf,Wg,Wh,Wi,Wj,Wk,Wl,Wm,Wn,Wo,Wp,Wq,Wr,Ws,Wt,Wu,Wv,Value.oneCell',Ww,Wx,Wy,Wz,true_and,and_true,and_self,implies_true,V0,V1,V2,V3,false_implies,V4,V5,V6,V7,V8,V9,Va,Vb,Vc,Vd,Ve,Vf,Vg,Vh,Vi,Vj,Vk,reduceCtorEq,if_true,if_false,Vl,↓reduceIte,Vm,Vn,Vo,Vp,Vq,Vr,Vs,ne_eq,not_false_eq_true,not_true_eq_false,Vt,Vu,r33_0,r33_1,r33_2,r33_3,r33_4,r33_5,r33_6,r33_7,r33_8,r33_9,r33_11,r33_10,r33_12,r33_13,r33_14,r33_15,r33_16,r33_17,r33_18,r33_19,r33_20,r33_21,r33_23,r33_22,r33_24,r33_25,r33_26,r33_27,r33_28,r33_29,r33_30,r33_31,r33_32,r33_33,r33_34,r33_35,r33_36,r33_37,r33_38,r33_39,r33_40,r33_41,r33_42,r33_43,r33_44,p33,l33_4]
    refine condD (fun hc => ?_) (fun hc => ?_)
    · have hst : s < t := by omega
      obtain ⟨c, hcd⟩ : ∃ c, c = (s + t) / 2 := ⟨_, rfl⟩
      have hc1 : s ≤ c := by omega
      have hc2 : c < t := by omega
      obtain ⟨d1, d2, d3⟩ := hdom c (by omega) (by omega)
      obtain ⟨e, he⟩ : ∃ e, e = h - 1 - c := ⟨_, rfl⟩
      have he2 : e + c + 1 = h := by omega
      rw [← he] at d3
      have hcs : c + 1 ≤ t0 := by omega
      have u1 := sum_in (q + s) (q + t) (by omega) (by omega)
      have u2 := u64_in (n := q + s + (q + t)) (by omega)
      have u3 := half_2 q s t
      rw [← hcd] at u3
      have u4 := i64_in (n := q + c) (by omega)
      have u5 : IntKind.i64.wrap (((q + c : Nat) : Int) + 1) = ((q + (c + 1) : Nat) : Int) := by rw [wrap_in (by omega) (by omega)]; omega
      have u6 : IntKind.i64.wrap (((pn : Nat) : Int) - ((q + c : Nat) : Int)) = ((q + L.length + e : Nat) : Int) := by rw [wrap_in (by omega) (by omega)]; omega
      have g1 := one_get (hzl c d1)
      have g2 := one_get (hzr e d3)
      have k1 : (0 : Int) ≤ ((q + c : Nat) : Int) := by omega
      have k2 : ((q + c : Nat) : Int) < Z.length := by omega
      have k3 : (0 : Int) ≤ ((q + L.length + e : Nat) : Int) := by omega
      have k4 : ((q + L.length + e : Nat) : Int) < Z.length := by omega
      have hm1 := List.getElem_mem d1
      have hm2 := List.getElem_mem d3
      have hcm := cmp_c p R[e] L[c] hp (hRK _ hm2) (hLK _ hm1)
      have hlx := hlt _ hm1 _ hm2
      by_cases ht : fK p R[e] < fK p L[c]
      · have ht' : fK p R[e] - fK p L[c] < 0 := by omega
        repeat' first | ((with_reducible (first | refine condD ?_ ?_ | refine condE ?_ ?_ | refine condN ?_ ?_ | refine condI ?_ ?_ | refine condS ?_ ?_)) <;> intro h) | ((with_reducible (first | refine guardD (by with_unfolding_all rfl) ?_ ?_ | refine guardE (by with_unfolding_all rfl) ?_ ?_ | refine guardN (by with_unfolding_all rfl) ?_ ?_ | refine guardI (by with_unfolding_all rfl) ?_ ?_ | refine guardS (by with_unfolding_all rfl) ?_ ?_)) <;> intro h) | ((refine callcG (by kernel_rfl) hcm (.val _) ?_)) | (with_reducible refine And.intro ?_ ?_; omega) | (simp only [Z0,Z3,Z4,Z5,Z6,Z7,Z8,Z9,Za,Zb,Zc,Zd,Ze,Zf,Zg,Zh,List.cons.injEq,Zi,Zj,Zk,Zl,Zm,Zn,Zo,Zp,Zq,Zr,beq_self_eq_true,bne_self_eq_false,decide_true,decide_false,Zs,Zt,Zu,Zv,Zw,Zx,Zy,Zz,Y0,Y1,Y2,Y3,Y4,Y5,Y6,Y7,Y8,Y9,Ya,Yb,Yc,Yd,Ye,Yf,Yg,Yh,Yi,Yj,Yk,Yl,Ym,Yn,Yo,Yp,Yq,Yr,Ys,lk,ef,Yt,Yu,Yv,Yw,Yx,Yy,Yz,X0,X1,X2,X3,X4,X5,X6,X7,X8,X9,Xa,Xb,Xc,Xd,Xe,Xf,Xg,Xh,Xi,Xj,Xk,Xl,Xm,Xn,Xo,Xp,Xq,Xr,Xs,Xt,Xu,hv,Xv,ev,Xw,Xx,Xy,Xz,W0,W1,W2,W3,W4,W5,W6,W7,W8,W9,Wa,Wb,Wc,Wd,We,Wf,Wg,Wh,Wi,Wj,Wk,Wl,Wm,Wn,Wo,Wp,Wq,Wr,Ws,Wt,Wu,Wv,Value.oneCell',Ww,Wx,Wy,Wz,true_and,and_true,and_self,implies_true,V0,V1,V2,V3,false_implies,V4,V5,V6,V7,V8,V9,Va,Vb,Vc,Vd,Ve,Vf,Vg,Vh,Vi,Vj,Vk,reduceCtorEq,if_true,if_false,Vl,↓reduceIte,Vm,Vn,Vo,Vp,Vq,Vr,Vs,ne_eq,not_false_eq_true,not_true_eq_false,Vt,Vu,r33_0,r33_1,r33_2,r33_3,r33_4,r33_5,r33_6,r33_7,r33_8,r33_9,r33_11,r33_10,r33_12,r33_13,r33_14,r33_15,r33_16,r33_17,r33_18,r33_19,r33_20,r33_21,r33_23,r33_22,r33_24,r33_25,r33_26,r33_27,r33_28,r33_29,r33_30,r33_31,r33_32,r33_33,r33_34,r33_35,r33_36,r33_37,r33_38,r33_39,r33_40,r33_41,r33_42,r33_43,r33_44,p33,l33_4,u1,u2,u3,u4,u5,u6,g1,g2,k1,k2,k3,k4,ht',List.length_map]) | (exfalso; omega)
        all_goals first | omega | exact again hJ (s, c) (weak_mk (by simp only [Vv,Vw,wk1,Vx,Vy,Vz,Z0,Z3,Z4,Z5,Z6,Z7,Z8,Z9,Za,Zb,Zc,Zd,Ze,Zf,Zg,Zh,List.cons.injEq,Zi,Zj,Zk,Zl,Zm,Zn,Zo,Zp,Zq,Zr,beq_self_eq_true,bne_self_eq_false,decide_true,decide_false,Zs,Zt,Zu,Zv,Zw,Zx,Zy,Zz,Y0,Y1,Y2,Y3,Y4,Y5,Y6,Y7,Y8,Y9,Ya,Yb,Yc,Yd,Ye,Yf,Yg,Yh,Yi,Yj,Yk,Yl,Ym,Yn,Yo,Yp,Yq,Yr,Ys,lk,ef,Yt,Yu,Yv,Yw,Yx,Yy,Yz,X0,X1,X2,X3,X4,X5,X6,X7,X8,X9,Xa,Xb,Xc,Xd,Xe,Xf,Xg,Xh,Xi,Xj,Xk,Xl,Xm,Xn,Xo,Xp,Xq,Xr,Xs,Xt,Xu,hv,Xv,ev,Xw,Xx,Xy,Xz,W0,W1,W2,W3,W4,W5,W6,W7,W8,W9,Wa,Wb,Wc,Wd,We,Wf,Wg,Wh,Wi,Wj,Wk,Wl,Wm,Wn,Wo,Wp,Wq,Wr,Ws,Wt,Wu,Wv,Value.oneCell',Ww,Wx,Wy,Wz,true_and,and_true,and_self,implies_true,V0,V1,V2,V3,false_implies,V4,V5,V6,V7,V8,V9,Va,Vb,Vc,Vd,Ve,Vf,Vg,Vh,Vi,Vj,Vk,reduceCtorEq,if_true,if_false,Vl,↓reduceIte,Vm,Vn,Vo,Vp,Vq,Vr,Vs,ne_eq,not_false_eq_true,not_true_eq_false,Vt,Nat.zero_ne_one]; all_goals first | done | rfl)) ⟨a1, hc1, by simp only; omega, a4, .inr ⟨d1, he ▸ d3, by subst he; exact .inl ht⟩⟩ (by simp only; omega) | trace_state
      · have ht' : ¬ fK p R[e] - fK p L[c] < 0 := by omega
        have hle : leK (fK p) L[c] R[e] := by unfold leK; omega
        repeat' first | ((with_reducible (first | refine condD ?_ ?_ | refine condE ?_ ?_ | refine condN ?_ ?_ | refine condI ?_ ?_ | refine condS ?_ ?_)) <;> intro h) | ((with_reducible (first | refine guardD (by with_unfolding_all rfl) ?_ ?_ | refine guardE (by with_unfolding_all rfl) ?_ ?_ | refine guardN (by with_unfolding_all rfl) ?_ ?_ | refine guardI (by with_unfolding_all rfl) ?_ ?_ | refine guardS (by with_unfolding_all rfl) ?_ ?_)) <;> intro h) | ((refine callcG (by kernel_rfl) hcm (.val _) ?_)) | (with_reducible refine And.intro ?_ ?_; omega) | (simp only [Z0,Z3,Z4,Z5,Z6,Z7,Z8,Z9,Za,Zb,Zc,Zd,Ze,Zf,Zg,Zh,List.cons.injEq,Zi,Zj,Zk,Zl,Zm,Zn,Zo,Zp,Zq,Zr,beq_self_eq_true,bne_self_eq_false,decide_true,decide_false,Zs,Zt,Zu,Zv,Zw,Zx,Zy,Zz,Y0,Y1,Y2,Y3,Y4,Y5,Y6,Y7,Y8,Y9,Ya,Yb,Yc,Yd,Ye,Yf,Yg,Yh,Yi,Yj,Yk,Yl,Ym,Yn,Yo,Yp,Yq,Yr,Ys,lk,ef,Yt,Yu,Yv,Yw,Yx,Yy,Yz,X0,X1,X2,X3,X4,X5,X6,X7,X8,X9,Xa,Xb,Xc,Xd,Xe,Xf,Xg,Xh,Xi,Xj,Xk,Xl,Xm,Xn,Xo,Xp,Xq,Xr,Xs,Xt,Xu,hv,Xv,ev,Xw,Xx,Xy,Xz,W0,W1,W2,W3,W4,W5,W6,W7,W8,W9,Wa,Wb,Wc,Wd,We,Wf,Wg,Wh,Wi,Wj,Wk,Wl,Wm,Wn,Wo,Wp,Wq,Wr,Ws,Wt,Wu,Wv,Value.oneCell',Ww,Wx,Wy,Wz,true_and,and_true,and_self,implies_true,V0,V1,V2,V3,false_implies,V4,V5,V6,V7,V8,V9,Va,Vb,Vc,Vd,Ve,Vf,Vg,Vh,Vi,Vj,Vk,reduceCtorEq,if_true,if_false,Vl,↓reduceIte,Vm,Vn,Vo,Vp,Vq,Vr,Vs,ne_eq,not_false_eq_true,not_true_eq_false,Vt,Vu,r33_0,r33_1,r33_2,r33_3,r33_4,r33_5,r33_6,r33_7,r33_8,r33_9,r33_11,r33_10,r33_12,r33_13,r33_14,r33_15,r33_16,r33_17,r33_18,r33_19,r33_20,r33_21,r33_23,r33_22,r33_24,r33_25,r33_26,r33_27,r33_28,r33_29,r33_30,r33_31,r33_32,r33_33,r33_34,r33_35,r33_36,r33_37,r33_38,r33_39,r33_40,r33_41,r33_42,r33_43,r33_44,p33,l33_4,u1,u2,u3,u4,u5,u6,g1,g2,k1,k2,k3,k4,ht',List.length_map]) | (exfalso; omega)
        all_goals first | omega | exact again hJ (c + 1, t) (weak_mk (by simp only [Vv,Vw,wk1,Vx,Vy,Vz,Z0,Z3,Z4,Z5,Z6,Z7,Z8,Z9,Za,Zb,Zc,Zd,Ze,Zf,Zg,Zh,List.cons.injEq,Zi,Zj,Zk,Zl,Zm,Zn,Zo,Zp,Zq,Zr,beq_self_eq_true,bne_self_eq_false,decide_true,decide_false,Zs,Zt,Zu,Zv,Zw,Zx,Zy,Zz,Y0,Y1,Y2,Y3,Y4,Y5,Y6,Y7,Y8,Y9,Ya,Yb,Yc,Yd,Ye,Yf,Yg,Yh,Yi,Yj,Yk,Yl,Ym,Yn,Yo,Yp,Yq,Yr,Ys,lk,ef,Yt,Yu,Yv,Yw,Yx,Yy,Yz,X0,X1,X2,X3,X4,X5,X6,X7,X8,X9,Xa,Xb,Xc,Xd,Xe,Xf,Xg,Xh,Xi,Xj,Xk,Xl,Xm,Xn,Xo,Xp,Xq,Xr,Xs,Xt,Xu,hv,Xv,ev,Xw,Xx,Xy,Xz,W0,W1,W2,W3,W4,W5,W6,W7,W8,W9,Wa,Wb,Wc,Wd,We,Wf,Wg,Wh,Wi,Wj,Wk,Wl,Wm,Wn,Wo,Wp,Wq,Wr,Ws,Wt,Wu,Wv,Value.oneCell',Ww,Wx,Wy,Wz,true_and,and_true,and_self,implies_true,V0,V1,V2,V3,false_implies,V4,V5,V6,V7,V8,V9,Va,Vb,Vc,Vd,Ve,Vf,Vg,Vh,Vi,Vj,Vk,reduceCtorEq,if_true,if_false,Vl,↓reduceIte,Vm,Vn,Vo,Vp,Vq,Vr,Vs,ne_eq,not_false_eq_true,not_true_eq_false,Vt,Nat.zero_ne_one]; all_goals first | done | rfl)) ⟨by simp only; omega, by simp only; omega, a3, .inr ⟨c, rfl, d1, he ▸ d3, by subst he; exact hle⟩, a5⟩ (by simp only; omega) | trace_state
    · have hse : s = t := by omega
      subst hse
      obtain ⟨⟨f1, f2, f3⟩, hmg⟩ := hfin s a1 a3 a4 a5
      clear hJ hzl hzr a4 a5 hfin hdom
      have lL1 : (L.take s).length = s := by rw [List.length_take]; omega
      have lL2 : (L.drop s).length = L.length - s := List.length_drop
      have lR1 : (R.take (h - s)).length = h - s := by rw [List.length_take]; omega
      have lR2 : (R.drop (h - s)).length = R.length - (h - s) := List.length_drop
      have pL1 := pairwise_take hLs s
      have pL2 := pairwise_drop hLs s
      have pR1 := pairwise_take hRs (h - s)
      have pR2 := pairwise_drop hRs (h - s)
      have kL1 : InK p (L.take s) := fun x hx => hLK x (List.mem_of_mem_take hx)
      have kL2 : InK p (L.drop s) := fun x hx => hLK x (List.mem_of_mem_drop hx)
      have kR1 : InK p (R.take (h - s)) := fun x hx => hRK x (List.mem_of_mem_take hx)
      have kR2 : InK p (R.drop (h - s)) := fun x hx => hRK x (List.mem_of_mem_drop hx)
      have o1 : ∀ x ∈ L.take s, ∀ y ∈ R.take (h - s), x < y := fun x hx y hy => hlt x (List.mem_of_mem_take hx) y (List.mem_of_mem_take hy)
      have o2 : ∀ x ∈ L.drop s, ∀ y ∈ R.drop (h - s), x < y := fun x hx y hy => hlt x (List.mem_of_mem_drop hx) y (List.mem_of_mem_drop hy)
      have eZ : Z = (P ++ L.take s) ++ L.drop s ++ R.take (h - s) ++ (R.drop (h - s) ++ S) := by
        rw [hZ, List.append_assoc P (L.take s), List.take_append_drop, ← List.append_assoc (P ++ L ++ R.take (h - s)), List.append_assoc (P ++ L) (R.take (h - s)), List.take_append_drop]
      have eT : P ++ srt (fK p) (L ++ R) ++ S = (P ++ srt (fK p) (L.take s ++ R.take (h - s))) ++ srt (fK p) (L.drop s ++ R.drop (h - s)) ++ S := by
        rw [← hmg]; simp only [List.append_assoc]
      obtain ⟨T, hT⟩ : ∃ T, T = P ++ srt (fK p) (L ++ R) ++ S := ⟨_, rfl⟩
      rw [← hT] at eT ⊢
      obtain ⟨Z1, hZ1⟩ : ∃ Z1, Z1 = P ++ L.take s ++ R.take (h - s) ++ (L.drop s ++ (R.drop (h - s) ++ S)) := ⟨_, rfl⟩
      obtain ⟨Z2, hZ2⟩ : ∃ Z2, Z2 = P ++ srt (fK p) (L.take s ++ R.take (h - s)) ++ (L.drop s ++ (R.drop (h - s) ++ S)) := ⟨_, rfl⟩
      have hz1 : Z1.length = Z.length := by rw [hZ1, hll]; simp only [List.length_append, lL1, lL2, lR1, lR2, hq]; omega
      have hz2 : Z2.length = Z.length := by rw [hZ2, hll]; simp only [List.length_append, srt_len, lL1, lL2, lR1, lR2, hq]; omega
      have hz3 : T.length = Z.length := by rw [hT, hll]; simp only [List.length_append, srt_len, hq]; omega
      have hrot : s < L.length → s < h → TurnOK Try.prog 38 (.own 3 1 (Z.map oneI)) (.own 3 1 (Z1.map oneI)) [.val (.int .i64 ((q + s : Nat) : Int)), .val (.int .i64 ((q + L.length : Nat) : Int)), .val (.int .i64 ((q + L.length + (h - s) : Nat) : Int)), .fnv 16 [.roAt [.ro (p.map oneI)] 0]] (.tup []) := fun x1 x2 => by
        have := rotate_c 16 [.roAt [.ro (p.map oneI)] 0] (P ++ L.take s) (L.drop s) (R.take (h - s)) (R.drop (h - s) ++ S) (by omega) (by omega) (by rw [← eZ]; exact hl)
        rw [← eZ, List.append_assoc (P ++ L.take s ++ R.take (h - s)), ← hZ1, lL2, lR1, List.length_append, lL1, hq, show q + s + (L.length - s) = q + L.length by omega] at this
        exact this
      have hrot0 : (s = L.length ∨ s = h) → Z = Z1 := fun z => by
        rw [eZ, hZ1]
        rcases z with z | z
        · rw [show L.drop s = [] from List.drop_of_length_le (by omega)]
          simp only [List.append_assoc, List.nil_append]
        · rw [show R.take (h - s) = [] by rw [z, Nat.sub_self, List.take_zero]]
          simp only [List.append_assoc, List.nil_append]
      have hm1 : 0 < s → s < h → TurnOK Try.prog 33 (.own 3 1 (Z1.map oneI)) (.own 3 1 (Z2.map oneI)) [.val (.int .i64 q), .val (.int .i64 ((q + s : Nat) : Int)), .val (.int .i64 ((q + h : Nat) : Int)), .fnv 16 [.roAt [.ro (p.map oneI)] 0]] (.tup []) := fun x1 x2 => by
        have := ih P (L.take s) (R.take (h - s)) (L.drop s ++ (R.drop (h - s) ++ S)) (by omega) ⟨by omega, by omega, kL1, kR1, pL1, pR1, o1⟩ (by rw [← hZ1]; omega)
        rw [← hZ1, ← hZ2, lL1, lR1, hq, show q + s + (h - s) = q + h by omega] at this
        exact this
      have hm10 : (s = 0 ∨ s = h) → Z1 = Z2 := fun z => by
        rw [hZ1, hZ2]
        rcases z with z | z
        · rw [z, List.take_zero, List.nil_append, List.append_nil, Nat.sub_zero, srt_of (by rw [z, Nat.sub_zero] at pR1; exact pR1)]
        · rw [show R.take (h - s) = [] by rw [z, Nat.sub_self, List.take_zero], List.append_nil, List.append_nil, srt_of pL1]
      have hm2 : s < L.length → h - s < R.length → TurnOK Try.prog 33 (.own 3 1 (Z2.map oneI)) (.own 3 1 (T.map oneI)) [.val (.int .i64 ((q + h : Nat) : Int)), .val (.int .i64 ((q + L.length + (h - s) : Nat) : Int)), .val (.int .i64 ((q + L.length + R.length : Nat) : Int)), .fnv 16 [.roAt [.ro (p.map oneI)] 0]] (.tup []) := fun x1 x2 => by
        have e : Z2 = (P ++ srt (fK p) (L.take s ++ R.take (h - s))) ++ L.drop s ++ R.drop (h - s) ++ S := by rw [hZ2]; simp only [List.append_assoc]
        have := ih (P ++ srt (fK p) (L.take s ++ R.take (h - s))) (L.drop s) (R.drop (h - s)) S (by omega) ⟨by omega, by omega, kL2, kR2, pL2, pR2, o2⟩ (by rw [← e]; omega)
        rw [← e, ← eT, List.length_append, srt_len, List.length_append, lL1, lL2, lR1, lR2, hq, show q + (s + (h - s)) = q + h by omega, show q + h + (L.length - s) = q + L.length + (h - s) by omega, show q + L.length + (h - s) + (R.length - (h - s)) = q + L.length + R.length by omega] at this
        exact this
      have hm20 : (s = L.length ∨ h - s = R.length) → Z2 = T := fun z => by
        rw [eT, hZ2]
        rcases z with z | z
        · rw [show L.drop s = [] from List.drop_of_length_le (by omega), List.nil_append, List.nil_append, srt_of pR2]
          simp only [List.append_assoc]
        · rw [show R.drop (h - s) = [] from List.drop_of_length_le (by omega), List.nil_append, List.append_nil, srt_of pL2]
          simp only [List.append_assoc]
      have w9 : IntKind.i64.wrap (((q + h + (q + L.length) : Nat) : Int) - ((q + s : Nat) : Int)) = ((q + L.length + (h - s) : Nat) : Int) := by rw [wrap_in (by omega) (by omega)]; omega
      clear eZ eT hZ1 hZ2 hT hmg hZ ih hlt hLK hRK hLs hRs pL1 pL2 pR1 pR2 kL1 kL2 kR1 kR2 o1 o2 lL1 lL2 lR1 lR2
      have hleaf : (s < L.length ∧ s < h ∧ 0 < s ∧ h - s < R.length) ∨ (s < L.length ∧ s < h ∧ 0 < s ∧ h - s = R.length) ∨ (s < L.length ∧ s < h ∧ s = 0 ∧ h - s < R.length) ∨ (s < L.length ∧ s < h ∧ s = 0 ∧ h - s = R.length) ∨ (s < L.length ∧ s = h) ∨ (s = L.length ∧ s < h) ∨ (s = L.length ∧ s = h) := by omega
      rcases hleaf with ⟨x1, x2, x3, x4⟩ | ⟨x1, x2, x3, x4⟩ | ⟨x1, x2, x3, x4⟩ | ⟨x1, x2, x3, x4⟩ | ⟨x1, x2⟩ | ⟨x1, x2⟩ | ⟨x1, x2⟩
      · have d1 : ((q + s : Nat) : Int) < ((q + L.length : Nat) : Int) := by omega
        have d2 : ((q + L.length : Nat) : Int) < ((q + L.length + (h - s) : Nat) : Int) := by omega
        have d4 : ((q + s : Nat) : Int) < ((q + h : Nat) : Int) := by omega
        have d5 : ((q + h : Nat) : Int) < ((q + L.length + (h - s) : Nat) : Int) := by omega
        have d6 : ((q + L.length + (h - s) : Nat) : Int) < ((q + L.length + R.length : Nat) : Int) := by omega
        have d3 : (q : Int) < ((q + s : Nat) : Int) := by omega
        have k1 := hrot x1 x2
        have k2 := hm1 (by omega) (by omega)
        have k3 := hm2 (by omega) (by omega)
        clear hrot hrot0 hm1 hm10 hm2 hm20
        repeat' first | ((with_reducible (first | refine condD ?_ ?_ | refine condE ?_ ?_ | refine condN ?_ ?_ | refine condI ?_ ?_ | refine condS ?_ ?_)) <;> intro h) | ((with_reducible (first | refine guardD (by with_unfolding_all rfl) ?_ ?_ | refine guardE (by with_unfolding_all rfl) ?_ ?_ | refine guardN (by with_unfolding_all rfl) ?_ ?_ | refine guardI (by with_unfolding_all rfl) ?_ ?_ | refine guardS (by with_unfolding_all rfl) ?_ ?_)) <;> intro h) | ((refine turnG (by with_unfolding_all rfl) (by simp only [List.length_map, hz1, hz2, hz3]) k1 ?_)) | ((refine turnG (by with_unfolding_all rfl) (by simp only [List.length_map, hz1, hz2, hz3]) k2 ?_)) | ((refine turnG (by with_unfolding_all rfl) (by simp only [List.length_map, hz1, hz2, hz3]) k3 ?_)) | (with_reducible refine And.intro ?_ ?_; omega) | (simp only [Z0,Z3,Z4,Z5,Z6,Z7,Z8,Z9,Za,Zb,Zc,Zd,Ze,Zf,Zg,Zh,List.cons.injEq,Zi,Zj,Zk,Zl,Zm,Zn,Zo,Zp,Zq,Zr,beq_self_eq_true,bne_self_eq_false,decide_true,decide_false,Zs,Zt,Zu,Zv,Zw,Zx,Zy,Zz,Y0,Y1,Y2,Y3,Y4,Y5,Y6,Y7,Y8,Y9,Ya,Yb,Yc,Yd,Ye,Yf,Yg,Yh,Yi,Yj,Yk,Yl,Ym,Yn,Yo,Yp,Yq,Yr,Ys,lk,ef,Yt,Yu,Yv,Yw,Yx,Yy,Yz,X0,X1,X2,X3,X4,X5,X6,X7,X8,X9,Xa,Xb,Xc,Xd,Xe,Xf,Xg,Xh,Xi,Xj,Xk,Xl,Xm,Xn,Xo,Xp,Xq,Xr,Xs,Xt,Xu,hv,Xv,ev,Xw,Xx,Xy,Xz,W0,W1,W2,W3,W4,W5,W6,W7,W8,W9,Wa,Wb,Wc,Wd,We,Wf,Wg,Wh,Wi,Wj,Wk,Wl,Wm,Wn,Wo,Wp,Wq,Wr,Ws,Wt,Wu,Wv,Value.oneCell',Ww,Wx,Wy,Wz,true_and,and_true,and_self,implies_true,V0,V1,V2,V3,false_implies,V4,V5,V6,V7,V8,V9,Va,Vb,Vc,Vd,Ve,Vf,Vg,Vh,Vi,Vj,Vk,reduceCtorEq,if_true,if_false,Vl,↓reduceIte,Vm,Vn,Vo,Vp,Vq,Vr,Vs,ne_eq,not_false_eq_true,not_true_eq_false,Vt,Vu,r33_0,r33_1,r33_2,r33_3,r33_4,r33_5,r33_6,r33_7,r33_8,r33_9,r33_11,r33_10,r33_12,r33_13,r33_14,r33_15,r33_16,r33_17,r33_18,r33_19,r33_20,r33_21,r33_23,r33_22,r33_24,r33_25,r33_26,r33_27,r33_28,r33_29,r33_30,r33_31,r33_32,r33_33,r33_34,r33_35,r33_36,r33_37,r33_38,r33_39,r33_40,r33_41,r33_42,r33_43,r33_44,p33,l33_4,w9,d1,d2,d4,d5,d6,d3,Z4,Z5,List.length_map]) | (exfalso; omega)
        all_goals first | rfl | trace_state
      · have d1 : ((q + s : Nat) : Int) < ((q + L.length : Nat) : Int) := by omega
        have d2 : ((q + L.length : Nat) : Int) < ((q + L.length + (h - s) : Nat) : Int) := by omega
        have d4 : ((q + s : Nat) : Int) < ((q + h : Nat) : Int) := by omega
        have d5 : ((q + h : Nat) : Int) < ((q + L.length + (h - s) : Nat) : Int) := by omega
        have d6 : ¬ ((q + L.length + (h - s) : Nat) : Int) < ((q + L.length + R.length : Nat) : Int) := by omega
        have d3 : (q : Int) < ((q + s : Nat) : Int) := by omega
        have k1 := hrot x1 x2
        have k2 := hm1 (by omega) (by omega)
        have k3 := hm20 (by omega)
        clear hrot hrot0 hm1 hm10 hm2 hm20
        subst k3
        repeat' first | ((with_reducible (first | refine condD ?_ ?_ | refine condE ?_ ?_ | refine condN ?_ ?_ | refine condI ?_ ?_ | refine condS ?_ ?_)) <;> intro h) | ((with_reducible (first | refine guardD (by with_unfolding_all rfl) ?_ ?_ | refine guardE (by with_unfolding_all rfl) ?_ ?_ | refine guardN (by with_unfolding_all rfl) ?_ ?_ | refine guardI (by with_unfolding_all rfl) ?_ ?_ | refine guardS (by with_unfolding_all rfl) ?_ ?_)) <;> intro h) | ((refine turnG (by with_unfolding_all rfl) (by simp only [List.length_map, hz1, hz2, hz3]) k1 ?_)) | ((refine turnG (by with_unfolding_all rfl) (by simp only [List.length_map, hz1, hz2, hz3]) k2 ?_)) | (with_reducible refine And.intro ?_ ?_; omega) | (simp only [Z0,Z3,Z4,Z5,Z6,Z7,Z8,Z9,Za,Zb,Zc,Zd,Ze,Zf,Zg,Zh,List.cons.injEq,Zi,Zj,Zk,Zl,Zm,Zn,Zo,Zp,Zq,Zr,beq_self_eq_true,bne_self_eq_false,decide_true,decide_false,Zs,Zt,Zu,Zv,Zw,Zx,Zy,Zz,Y0,Y1,Y2,Y3,Y4,Y5,Y6,Y7,Y8,Y9,Ya,Yb,Yc,Yd,Ye,Yf,Yg,Yh,Yi,Yj,Yk,Yl,Ym,Yn,Yo,Yp,Yq,Yr,Ys,lk,ef,Yt,Yu,Yv,Yw,Yx,Yy,Yz,X0,X1,X2,X3,X4,X5,X6,X7,X8,X9,Xa,Xb,Xc,Xd,Xe,Xf,Xg,Xh,Xi,Xj,Xk,Xl,Xm,Xn,Xo,Xp,Xq,Xr,Xs,Xt,Xu,hv,Xv,ev,Xw,Xx,Xy,Xz,W0,W1,W2,W3,W4,W5,W6,W7,W8,W9,Wa,Wb,Wc,Wd,We,Wf,Wg,Wh,Wi,Wj,Wk,Wl,Wm,Wn,Wo,Wp,Wq,Wr,Ws,Wt,Wu,Wv,Value.oneCell',Ww,Wx,Wy,Wz,true_and,and_true,and_self,implies_true,V0,V1,V2,V3,false_implies,V4,V5,V6,V7,V8,V9,Va,Vb,Vc,Vd,Ve,Vf,Vg,Vh,Vi,Vj,Vk,reduceCtorEq,if_true,if_false,Vl,↓reduceIte,Vm,Vn,Vo,Vp,Vq,Vr,Vs,ne_eq,not_false_eq_true,not_true_eq_false,Vt,Vu,r33_0,r33_1,r33_2,r33_3,r33_4,r33_5,r33_6,r33_7,r33_8,r33_9,r33_11,r33_10,r33_12,r33_13,r33_14,r33_15,r33_16,r33_17,r33_18,r33_19,r33_20,r33_21,r33_23,r33_22,r33_24,r33_25,r33_26,r33_27,r33_28,r33_29,r33_30,r33_31,r33_32,r33_33,r33_34,r33_35,r33_36,r33_37,r33_38,r33_39,r33_40,r33_41,r33_42,r33_43,r33_44,p33,l33_4,w9,d1,d2,d4,d5,d6,d3,Z4,Z5,List.length_map]) | (exfalso; omega)
        all_goals first | rfl | trace_state
      · have d1 : ((q + s : Nat) : Int) < ((q + L.length : Nat) : Int) := by omega
        have d2 : ((q + L.length : Nat) : Int) < ((q + L.length + (h - s) : Nat) : Int) := by omega
        have d4 : ((q + s : Nat) : Int) < ((q + h : Nat) : Int) := by omega
        have d5 : ((q + h : Nat) : Int) < ((q + L.length + (h - s) : Nat) : Int) := by omega
        have d6 : ((q + L.length + (h - s) : Nat) : Int) < ((q + L.length + R.length : Nat) : Int) := by omega
        have d3 : ¬ (q : Int) < ((q + s : Nat) : Int) := by omega
        have k1 := hrot x1 x2
        have k2 := hm10 (by omega)
        have k3 := hm2 (by omega) (by omega)
        clear hrot hrot0 hm1 hm10 hm2 hm20
        subst k2
        repeat' first | ((with_reducible (first | refine condD ?_ ?_ | refine condE ?_ ?_ | refine condN ?_ ?_ | refine condI ?_ ?_ | refine condS ?_ ?_)) <;> intro h) | ((with_reducible (first | refine guardD (by with_unfolding_all rfl) ?_ ?_ | refine guardE (by with_unfolding_all rfl) ?_ ?_ | refine guardN (by with_unfolding_all rfl) ?_ ?_ | refine guardI (by with_unfolding_all rfl) ?_ ?_ | refine guardS (by with_unfolding_all rfl) ?_ ?_)) <;> intro h) | ((refine turnG (by with_unfolding_all rfl) (by simp only [List.length_map, hz1, hz2, hz3]) k1 ?_)) | ((refine turnG (by with_unfolding_all rfl) (by simp only [List.length_map, hz1, hz2, hz3]) k3 ?_)) | (with_reducible refine And.intro ?_ ?_; omega) | (simp only [Z0,Z3,Z4,Z5,Z6,Z7,Z8,Z9,Za,Zb,Zc,Zd,Ze,Zf,Zg,Zh,List.cons.injEq,Zi,Zj,Zk,Zl,Zm,Zn,Zo,Zp,Zq,Zr,beq_self_eq_true,bne_self_eq_false,decide_true,decide_false,Zs,Zt,Zu,Zv,Zw,Zx,Zy,Zz,Y0,Y1,Y2,Y3,Y4,Y5,Y6,Y7,Y8,Y9,Ya,Yb,Yc,Yd,Ye,Yf,Yg,Yh,Yi,Yj,Yk,Yl,Ym,Yn,Yo,Yp,Yq,Yr,Ys,lk,ef,Yt,Yu,Yv,Yw,Yx,Yy,Yz,X0,X1,X2,X3,X4,X5,X6,X7,X8,X9,Xa,Xb,Xc,Xd,Xe,Xf,Xg,Xh,Xi,Xj,Xk,Xl,Xm,Xn,Xo,Xp,Xq,Xr,Xs,Xt,Xu,hv,Xv,ev,Xw,Xx,Xy,Xz,W0,W1,W2,W3,W4,W5,W6,W7,W8,W9,Wa,Wb,Wc,Wd,We,Wf,Wg,Wh,Wi,Wj,Wk,Wl,Wm,Wn,Wo,Wp,Wq,Wr,Ws,Wt,Wu,Wv,Value.oneCell',Ww,Wx,Wy,Wz,true_and,and_true,and_self,implies_true,V0,V1,V2,V3,false_implies,V4,V5,V6,V7,V8,V9,Va,Vb,Vc,Vd,Ve,Vf,Vg,Vh,Vi,Vj,Vk,reduceCtorEq,if_true,if_false,Vl,↓reduceIte,Vm,Vn,Vo,Vp,Vq,Vr,Vs,ne_eq,not_false_eq_true,not_true_eq_false,Vt,Vu,r33_0,r33_1,r33_2,r33_3,r33_4,r33_5,r33_6,r33_7,r33_8,r33_9,r33_11,r33_10,r33_12,r33_13,r33_14,r33_15,r33_16,r33_17,r33_18,r33_19,r33_20,r33_21,r33_23,r33_22,r33_24,r33_25,r33_26,r33_27,r33_28,r33_29,r33_30,r33_31,r33_32,r33_33,r33_34,r33_35,r33_36,r33_37,r33_38,r33_39,r33_40,r33_41,r33_42,r33_43,r33_44,p33,l33_4,w9,d1,d2,d4,d5,d6,d3,Z4,Z5,List.length_map]) | (exfalso; omega)
        all_goals first | rfl | trace_state
      · have d1 : ((q + s : Nat) : Int) < ((q + L.length : Nat) : Int) := by omega
        have d2 : ((q + L.length : Nat) : Int) < ((q + L.length + (h - s) : Nat) : Int) := by omega
        have d4 : ((q + s : Nat) : Int) < ((q + h : Nat) : Int) := by omega
        have d5 : ((q + h : Nat) : Int) < ((q + L.length + (h - s) : Nat) : Int) := by omega
        have d6 : ¬ ((q + L.length + (h - s) : Nat) : Int) < ((q + L.length + R.length : Nat) : Int) := by omega
        have d3 : ¬ (q : Int) < ((q + s : Nat) : Int) := by omega
        have k1 := hrot x1 x2
        have k2 := hm10 (by omega)
        have k3 := hm20 (by omega)
        clear hrot hrot0 hm1 hm10 hm2 hm20
        subst k2
        subst k3
        repeat' first | ((with_reducible (first | refine condD ?_ ?_ | refine condE ?_ ?_ | refine condN ?_ ?_ | refine condI ?_ ?_ | refine condS ?_ ?_)) <;> intro h) | ((with_reducible (first | refine guardD (by with_unfolding_all rfl) ?_ ?_ | refine guardE (by with_unfolding_all rfl) ?_ ?_ | refine guardN (by with_unfolding_all rfl) ?_ ?_ | refine guardI (by with_unfolding_all rfl) ?_ ?_ | refine guardS (by with_unfolding_all rfl) ?_ ?_)) <;> intro h) | ((refine turnG (by with_unfolding_all rfl) (by simp only [List.length_map, hz1, hz2, hz3]) k1 ?_)) | (with_reducible refine And.intro ?_ ?_; omega) | (simp only [Z0,Z3,Z4,Z5,Z6,Z7,Z8,Z9,Za,Zb,Zc,Zd,Ze,Zf,Zg,Zh,List.cons.injEq,Zi,Zj,Zk,Zl,Zm,Zn,Zo,Zp,Zq,Zr,beq_self_eq_true,bne_self_eq_false,decide_true,decide_false,Zs,Zt,Zu,Zv,Zw,Zx,Zy,Zz,Y0,Y1,Y2,Y3,Y4,Y5,Y6,Y7,Y8,Y9,Ya,Yb,Yc,Yd,Ye,Yf,Yg,Yh,Yi,Yj,Yk,Yl,Ym,Yn,Yo,Yp,Yq,Yr,Ys,lk,ef,Yt,Yu,Yv,Yw,Yx,Yy,Yz,X0,X1,X2,X3,X4,X5,X6,X7,X8,X9,Xa,Xb,Xc,Xd,Xe,Xf,Xg,Xh,Xi,Xj,Xk,Xl,Xm,Xn,Xo,Xp,Xq,Xr,Xs,Xt,Xu,hv,Xv,ev,Xw,Xx,Xy,Xz,W0,W1,W2,W3,W4,W5,W6,W7,W8,W9,Wa,Wb,Wc,Wd,We,Wf,Wg,Wh,Wi,Wj,Wk,Wl,Wm,Wn,Wo,Wp,Wq,Wr,Ws,Wt,Wu,Wv,Value.oneCell',Ww,Wx,Wy,Wz,true_and,and_true,and_self,implies_true,V0,V1,V2,V3,false_implies,V4,V5,V6,V7,V8,V9,Va,Vb,Vc,Vd,Ve,Vf,Vg,Vh,Vi,Vj,Vk,reduceCtorEq,if_true,if_false,Vl,↓reduceIte,Vm,Vn,Vo,Vp,Vq,Vr,Vs,ne_eq,not_false_eq_true,not_true_eq_false,Vt,Vu,r33_0,r33_1,r33_2,r33_3,r33_4,r33_5,r33_6,r33_7,r33_8,r33_9,r33_11,r33_10,r33_12,r33_13,r33_14,r33_15,r33_16,r33_17,r33_18,r33_19,r33_20,r33_21,r33_23,r33_22,r33_24,r33_25,r33_26,r33_27,r33_28,r33_29,r33_30,r33_31,r33_32,r33_33,r33_34,r33_35,r33_36,r33_37,r33_38,r33_39,r33_40,r33_41,r33_42,r33_43,r33_44,p33,l33_4,w9,d1,d2,d4,d5,d6,d3,Z4,Z5,List.length_map]) | (exfalso; omega)
        all_goals first | rfl | trace_state
      · have d1 : ((q + s : Nat) : Int) < ((q + L.length : Nat) : Int) := by omega
        have d2 : ¬ ((q + L.length : Nat) : Int) < ((q + L.length + (h - s) : Nat) : Int) := by omega
        have d4 : ¬ ((q + s : Nat) : Int) < ((q + h : Nat) : Int) := by omega
        have d5 : ((q + h : Nat) : Int) < ((q + L.length + (h - s) : Nat) : Int) := by omega
        have d6 : ((q + L.length + (h - s) : Nat) : Int) < ((q + L.length + R.length : Nat) : Int) := by omega
        have d3 : (q : Int) < ((q + s : Nat) : Int) := by omega
        have k1 := hrot0 (by omega)
        have k2 := hm10 (by omega)
        have k3 := hm2 (by omega) (by omega)
        clear hrot hrot0 hm1 hm10 hm2 hm20
        subst k1
        subst k2
        repeat' first | ((with_reducible (first | refine condD ?_ ?_ | refine condE ?_ ?_ | refine condN ?_ ?_ | refine condI ?_ ?_ | refine condS ?_ ?_)) <;> intro h) | ((with_reducible (first | refine guardD (by with_unfolding_all rfl) ?_ ?_ | refine guardE (by with_unfolding_all rfl) ?_ ?_ | refine guardN (by with_unfolding_all rfl) ?_ ?_ | refine guardI (by with_unfolding_all rfl) ?_ ?_ | refine guardS (by with_unfolding_all rfl) ?_ ?_)) <;> intro h) | ((refine turnG (by with_unfolding_all rfl) (by simp only [List.length_map, hz1, hz2, hz3]) k3 ?_)) | (with_reducible refine And.intro ?_ ?_; omega) | (simp only [Z0,Z3,Z4,Z5,Z6,Z7,Z8,Z9,Za,Zb,Zc,Zd,Ze,Zf,Zg,Zh,List.cons.injEq,Zi,Zj,Zk,Zl,Zm,Zn,Zo,Zp,Zq,Zr,beq_self_eq_true,bne_self_eq_false,decide_true,decide_false,Zs,Zt,Zu,Zv,Zw,Zx,Zy,Zz,Y0,Y1,Y2,Y3,Y4,Y5,Y6,Y7,Y8,Y9,Ya,Yb,Yc,Yd,Ye,Yf,Yg,Yh,Yi,Yj,Yk,Yl,Ym,Yn,Yo,Yp,Yq,Yr,Ys,lk,ef,Yt,Yu,Yv,Yw,Yx,Yy,Yz,X0,X1,X2,X3,X4,X5,X6,X7,X8,X9,Xa,Xb,Xc,Xd,Xe,Xf,Xg,Xh,Xi,Xj,Xk,Xl,Xm,Xn,Xo,Xp,Xq,Xr,Xs,Xt,Xu,hv,Xv,ev,Xw,Xx,Xy,Xz,W0,W1,W2,W3,W4,W5,W6,W7,W8,W9,Wa,Wb,Wc,Wd,We,Wf,Wg,Wh,Wi,Wj,Wk,Wl,Wm,Wn,Wo,Wp,Wq,Wr,Ws,Wt,Wu,Wv,Value.oneCell',Ww,Wx,Wy,Wz,true_and,and_true,and_self,implies_true,V0,V1,V2,V3,false_implies,V4,V5,V6,V7,V8,V9,Va,Vb,Vc,Vd,Ve,Vf,Vg,Vh,Vi,Vj,Vk,reduceCtorEq,if_true,if_false,Vl,↓reduceIte,Vm,Vn,Vo,Vp,Vq,Vr,Vs,ne_eq,not_false_eq_true,not_true_eq_false,Vt,Vu,r33_0,r33_1,r33_2,r33_3,r33_4,r33_5,r33_6,r33_7,r33_8,r33_9,r33_11,r33_10,r33_12,r33_13,r33_14,r33_15,r33_16,r33_17,r33_18,r33_19,r33_20,r33_21,r33_23,r33_22,r33_24,r33_25,r33_26,r33_27,r33_28,r33_29,r33_30,r33_31,r33_32,r33_33,r33_34,r33_35,r33_36,r33_37,r33_38,r33_39,r33_40,r33_41,r33_42,r33_43,r33_44,p33,l33_4,w9,d1,d2,d4,d5,d6,d3,Z4,Z5,List.length_map]) | (exfalso; omega)
        all_goals first | rfl | trace_state
      · have d1 : ¬ ((q + s : Nat) : Int) < ((q + L.length : Nat) : Int) := by omega
        have d4 : ((q + s : Nat) : Int) < ((q + h : Nat) : Int) := by omega
        have d5 : ¬ ((q + h : Nat) : Int) < ((q + L.length + (h - s) : Nat) : Int) := by omega
        have d3 : (q : Int) < ((q + s : Nat) : Int) := by omega
        have k1 := hrot0 (by omega)
        have k2 := hm1 (by omega) (by omega)
        have k3 := hm20 (by omega)
        clear hrot hrot0 hm1 hm10 hm2 hm20
        subst k1
        subst k3
        repeat' first | ((with_reducible (first | refine condD ?_ ?_ | refine condE ?_ ?_ | refine condN ?_ ?_ | refine condI ?_ ?_ | refine condS ?_ ?_)) <;> intro h) | ((with_reducible (first | refine guardD (by with_unfolding_all rfl) ?_ ?_ | refine guardE (by with_unfolding_all rfl) ?_ ?_ | refine guardN (by with_unfolding_all rfl) ?_ ?_ | refine guardI (by with_unfolding_all rfl) ?_ ?_ | refine guardS (by with_unfolding_all rfl) ?_ ?_)) <;> intro h) | ((refine turnG (by with_unfolding_all rfl) (by simp only [List.length_map, hz1, hz2, hz3]) k2 ?_)) | (with_reducible refine And.intro ?_ ?_; omega) | (simp only [Z0,Z3,Z4,Z5,Z6,Z7,Z8,Z9,Za,Zb,Zc,Zd,Ze,Zf,Zg,Zh,List.cons.injEq,Zi,Zj,Zk,Zl,Zm,Zn,Zo,Zp,Zq,Zr,beq_self_eq_true,bne_self_eq_false,decide_true,decide_false,Zs,Zt,Zu,Zv,Zw,Zx,Zy,Zz,Y0,Y1,Y2,Y3,Y4,Y5,Y6,Y7,Y8,Y9,Ya,Yb,Yc,Yd,Ye,Yf,Yg,Yh,Yi,Yj,Yk,Yl,Ym,Yn,Yo,Yp,Yq,Yr,Ys,lk,ef,Yt,Yu,Yv,Yw,Yx,Yy,Yz,X0,X1,X2,X3,X4,X5,X6,X7,X8,X9,Xa,Xb,Xc,Xd,Xe,Xf,Xg,Xh,Xi,Xj,Xk,Xl,Xm,Xn,Xo,Xp,Xq,Xr,Xs,Xt,Xu,hv,Xv,ev,Xw,Xx,Xy,Xz,W0,W1,W2,W3,W4,W5,W6,W7,W8,W9,Wa,Wb,Wc,Wd,We,Wf,Wg,Wh,Wi,Wj,Wk,Wl,Wm,Wn,Wo,Wp,Wq,Wr,Ws,Wt,Wu,Wv,Value.oneCell',Ww,Wx,Wy,Wz,true_and,and_true,and_self,implies_true,V0,V1,V2,V3,false_implies,V4,V5,V6,V7,V8,V9,Va,Vb,Vc,Vd,Ve,Vf,Vg,Vh,Vi,Vj,Vk,reduceCtorEq,if_true,if_false,Vl,↓reduceIte,Vm,Vn,Vo,Vp,Vq,Vr,Vs,ne_eq,not_false_eq_true,not_true_eq_false,Vt,Vu,r33_0,r33_1,r33_2,r33_3,r33_4,r33_5,r33_6,r33_7,r33_8,r33_9,r33_11,r33_10,r33_12,r33_13,r33_14,r33_15,r33_16,r33_17,r33_18,r33_19,r33_20,r33_21,r33_23,r33_22,r33_24,r33_25,r33_26,r33_27,r33_28,r33_29,r33_30,r33_31,r33_32,r33_33,r33_34,r33_35,r33_36,r33_37,r33_38,r33_39,r33_40,r33_41,r33_42,r33_43,r33_44,p33,l33_4,w9,d1,d4,d5,d3,Z4,Z5,List.length_map]) | (exfalso; omega)
        all_goals first | rfl | trace_state
      · have d1 : ¬ ((q + s : Nat) : Int) < ((q + L.length : Nat) : Int) := by omega
        have d4 : ¬ ((q + s : Nat) : Int) < ((q + h : Nat) : Int) := by omega
        have d5 : ¬ ((q + h : Nat) : Int) < ((q + L.length + (h - s) : Nat) : Int) := by omega
        have d3 : (q : Int) < ((q + s : Nat) : Int) := by omega
        have k1 := hrot0 (by omega)
        have k2 := hm10 (by omega)
        have k3 := hm20 (by omega)
        clear hrot hrot0 hm1 hm10 hm2 hm20
        subst k1
        subst k2
        subst k3
        repeat' first | ((with_reducible (first | refine condD ?_ ?_ | refine condE ?_ ?_ | refine condN ?_ ?_ | refine condI ?_ ?_ | refine condS ?_ ?_)) <;> intro h) | ((with_reducible (first | refine guardD (by with_unfolding_all rfl) ?_ ?_ | refine guardE (by with_unfolding_all rfl) ?_ ?_ | refine guardN (by with_unfolding_all rfl) ?_ ?_ | refine guardI (by with_unfolding_all rfl) ?_ ?_ | refine guardS (by with_unfolding_all rfl) ?_ ?_)) <;> intro h) | (with_reducible refine And.intro ?_ ?_; omega) | (simp only [Z0,Z3,Z4,Z5,Z6,Z7,Z8,Z9,Za,Zb,Zc,Zd,Ze,Zf,Zg,Zh,List.cons.injEq,Zi,Zj,Zk,Zl,Zm,Zn,Zo,Zp,Zq,Zr,beq_self_eq_true,bne_self_eq_false,decide_true,decide_false,Zs,Zt,Zu,Zv,Zw,Zx,Zy,Zz,Y0,Y1,Y2,Y3,Y4,Y5,Y6,Y7,Y8,Y9,Ya,Yb,Yc,Yd,Ye,Yf,Yg,Yh,Yi,Yj,Yk,Yl,Ym,Yn,Yo,Yp,Yq,Yr,Ys,lk,ef,Yt,Yu,Yv,Yw,Yx,Yy,Yz,X0,X1,X2,X3,X4,X5,X6,X7,X8,X9,Xa,Xb,Xc,Xd,Xe,Xf,Xg,Xh,Xi,Xj,Xk,Xl,Xm,Xn,Xo,Xp,Xq,Xr,Xs,Xt,Xu,hv,Xv,ev,Xw,Xx,Xy,Xz,W0,W1,W2,W3,W4,W5,W6,W7,W8,W9,Wa,Wb,Wc,Wd,We,Wf,Wg,Wh,Wi,Wj,Wk,Wl,Wm,Wn,Wo,Wp,Wq,Wr,Ws,Wt,Wu,Wv,Value.oneCell',Ww,Wx,Wy,Wz,true_and,and_true,and_self,implies_true,V0,V1,V2,V3,false_implies,V4,V5,V6,V7,V8,V9,Va,Vb,Vc,Vd,Ve,Vf,Vg,Vh,Vi,Vj,Vk,reduceCtorEq,if_true,if_false,Vl,↓reduceIte,Vm,Vn,Vo,Vp,Vq,Vr,Vs,ne_eq,not_false_eq_true,not_true_eq_false,Vt,Vu,r33_0,r33_1,r33_2,r33_3,r33_4,r33_5,r33_6,r33_7,r33_8,r33_9,r33_11,r33_10,r33_12,r33_13,r33_14,r33_15,r33_16,r33_17,r33_18,r33_19,r33_20,r33_21,r33_23,r33_22,r33_24,r33_25,r33_26,r33_27,r33_28,r33_29,r33_30,r33_31,r33_32,r33_33,r33_34,r33_35,r33_36,r33_37,r33_38,r33_39,r33_40,r33_41,r33_42,r33_43,r33_44,p33,l33_4,w9,d1,d4,d5,d3,Z4,Z5,List.length_map]) | (exfalso; omega)
        all_goals first | rfl | trace_state
end Go.Proofs.Ytbdcnooafacldaa
