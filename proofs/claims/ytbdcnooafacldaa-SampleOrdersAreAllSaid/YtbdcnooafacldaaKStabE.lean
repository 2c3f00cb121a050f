/- slices.stableCmpFunc and SortStableFunc with sample.Order's comparison, by the machine on data. -/
import Derived.Test.YtbdcnooafacldaaKStabD
namespace Go.Proofs.Ytbdcnooafacldaa
open Go.RowKit
open Go.Proofs.Ytbdcnooafacldaa renaming done_eq → Z0, done_eq' → Z1, donet_eq → Z2, donet_eq' → Z3, fin_val → Z4, fin_tup → Z5, fin_agg → Z6, fin_ro → Z7, res_one → Z8, res_more → Z9, rv_t → Za, rv_c → Zb, rv_l → Zc, int_eq → Zg, bool_eq → Zh, toNat_pred → Zr, toNat_succ → Zs, cnd_t → Zu, cnd_f → Zv, grd_tt → Zw, grd_u → Zx, grd_tf → Zy, grd_ft → Zz, grd_ff → Y0, g_skip → Y1, g_ops → Y2, g_seq → Y3, g_block → Y4, g_exit → Y5, g_ret → Y6, x_c → Y7, x_o → Y8, x_l → Y9, x_b → Ya, g_b → Yb, g_nil → Yc, r_all → Yd, o_nil → Ye, g_cond → Yf, o_guard → Yg, o_call → Yh, o_callm → Yi, o_callt → Yj, o_callx → Yk, o_callv → Yl, o_callc → Ym, o_callh → Yn, o_apph → Yo, noav_alias → Yp, noav_nil → Yq, o_mv → Yr, o_pick → Ys, o_bin → Yt, o_never → Yu, o_eqs → Yv, o_eqb → Yw, o_un → Yx, o_conv → Yy, o_load → Yz, o_loadr → X0, o_idxr → X1, o_loads → X2, o_loadsr → X3, o_fld → X4, o_idx → X5, o_idxs → X6, o_len → X7, o_lens → X8, o_ext → X9, o_nilck → Xa, o_slc → Xb, o_slcs → Xc, o_build → Xd, o_minmax → Xe, o_mkfn → Xf, o_mkfnr → Xg, o_alloc → Xh, o_box → Xi, o_boxs → Xj, o_row → Xk, o_rowr → Xl, o_mk → Xm, o_asg → Xn, o_app → Xo, o_appa → Xp, o_store → Xq, o_stores → Xr, o_eqnil → Xs, eqAV → Xt, view_t → Xu, view_c → Xv, view_nil → Xw, view_fn → Xx, look_own → Xy, look_box → Xz, look_junk → W0, look_val → W1, look_nilsl → W2, look_ro → W3, look_roAt → W4, look_agg → W5, look_tup → W6, look_clo → W7, look_alias → W8, look_ref → W9, look_into → Wa, look_fnv → Wb, look_held → Wc, rowOf → Wd, cellsOf → We, argv → Wf, vbin → Wg, vun → Wh, bnd → Wi, elemOf → Wj, putParts → Wk, setAt → Wl, zav → Wm, put_at → Wu, mk_at → Wv, mk_nil → Ww, initSt → Wx, wk_cons → Vt, wk_nil → Vu, vint_eq → Vv, vbool_eq → Vw
open Go.Proofs.Ytbdcnooafacldaa.AV.tup renaming injEq → Zd
open Go.Proofs.Ytbdcnooafacldaa.AV.agg renaming injEq → Ze
open Go.Proofs.Ytbdcnooafacldaa.AV.ro renaming injEq → Zf
open _root_.Int renaming toNat_natCast → Zi, reduceToNat → Zj, toNat_zero → Zk, toNat_one → Zl, reduceLE → Zm, reduceLT → Zn, reduceBEq → Zo, reduceBNe → Zp, reduceNeg → Zq
open _root_.List renaming length_map → Zt, map_cons → Wy, map_nil → Wz, forall_mem_cons → V0, not_mem_nil → V1, length_cons → V2, length_nil → V3, getD_cons_zero → V4, getD_cons_succ → V5, getD_nil → V6, drop_succ_cons → V7, drop_zero → V8, take_succ_cons → V9, take_zero → Va, set_cons_zero → Vb, set_cons_succ → Vc, all_cons → Vd, all_nil → Ve
open Go.Proofs.Ytbdcnooafacldaa.ASt renaming rid → Wn, hold → Wo, free → Wp
open Go.Proofs.Ytbdcnooafacldaa.AV renaming kill → Wq, isHome → Wr, noLoan → Ws, cellOK → Wt
open _root_.Bool renaming and_true → Vf, true_and → Vg, not_true → Vh, not_false → Vi, false_eq_true → Vj
open _root_.Nat renaming reduceEqDiff → Vk, reduceBNe → Vl, reduceAdd → Vm, reduceSub → Vn, reduceMul → Vo, reduceLeDiff → Vp, reduceLT → Vq, one_ne_zero → Vr, zero_ne_one → Vs
open Go.Proofs.Ytbdcnooafacldaa.AV.val renaming injEq → Vx
set_option linter.unusedSimpArgs false
--@short

theorem srt_congr {f : Int → Int} {l r : List Int} (h : l.Perm r) : srt f l = srt f r := srt_is (srt_srt f l) ((srt_perm f l).trans h)
theorem srt_two (f : Int → Int) (A B : List Int) : srt f (srt f A ++ srt f B) = srt f (A ++ B) := srt_congr ((srt_perm f A).append (srt_perm f B))
theorem blk_next {f : Int → Int} {w k : Nat} {X : List Int} (hw : 0 < w) (h : w * (k + 1) ≤ X.length) : blkS f w (X.take (w * (k + 1))) = blkS f w (X.take (w * k)) ++ srt f ((X.drop (w * k)).take w) := by
  have e : w * (k + 1) = w * k + w := by rw [Nat.mul_add, Nat.mul_one]
  rw [e] at h ⊢
  rw [List.take_add, blk_app hw k (by rw [List.length_take]; omega), blk_one (X := (X.drop (w * k)).take w) hw (by rw [List.length_take]; omega)]
theorem blk_last {f : Int → Int} {w k : Nat} {X : List Int} (hw : 0 < w) (h1 : w * k ≤ X.length) (h2 : X.length ≤ w * (k + 1)) : blkS f w X = blkS f w (X.take (w * k)) ++ srt f (X.drop (w * k)) := by
  have e : w * (k + 1) = w * k + w := by rw [Nat.mul_add, Nat.mul_one]
  rw [← blk_one (X := X.drop (w * k)) hw (by rw [List.length_drop]; omega), ← blk_app hw k (by rw [List.length_take]; omega), List.take_append_drop]
theorem blk_two {f : Int → Int} {w : Nat} {X : List Int} (hw : 0 < w) (h : w < X.length) : blkS f w X = srt f (X.take w) ++ srt f ((X.drop w).take w) ++ blkS f w (X.drop (w + w)) := by
  rw [blk_cons hw (by omega), blk_cons (X := X.drop w) hw (by rw [List.length_drop]; omega), List.drop_drop, List.append_assoc]
theorem blk_two' {f : Int → Int} {w : Nat} {X : List Int} (hw : 0 < w) (h : w < X.length) (h2 : X.length ≤ w + w) : blkS f w X = srt f (X.take w) ++ srt f (X.drop w) := by
  rw [blk_cons hw (by omega), blk_one (X := X.drop w) hw (by rw [List.length_drop]; omega)]
theorem inc_parts {X : List Int} (h : X.Pairwise (· < ·)) (n m : Nat) : ∀ x ∈ X.take n, ∀ y ∈ (X.drop n).take m, x < y := by
  intro x hx y hy
  have h' := h
  rw [← List.take_append_drop n X] at h'
  exact (List.pairwise_append.1 h').2.2 x hx y (List.mem_of_mem_take hy)
theorem symm_c (p : List Int) (hp : KBnd p) : ∀ (N : Nat) (P L R S : List Int), L.length + R.length ≤ N → SymPre p L R → (P ++ L ++ R ++ S).length ≤ 100000 → SymOK p P L R S := by
  intro N
  induction N with
  | zero => intro P L R S h hpre; have := hpre.l; omega
  | succ N ih =>
    intro P L R S h hpre hl
    by_cases h1 : L.length = 1
    · obtain ⟨x, rfl⟩ := List.length_eq_one_iff.1 h1
      exact symm1_c p hp P R S x hpre.r (hpre.lk x (by simp)) hpre.rk hpre.rs (fun y hy => hpre.lt x (by simp) y hy) hl
    by_cases h2 : R.length = 1
    · obtain ⟨y, rfl⟩ := List.length_eq_one_iff.1 h2
      have := hpre.l
      exact symm2_c p hp P L S y (by omega) (hpre.rk y (by simp)) hpre.lk hpre.ls (fun x hx => hpre.lt x hx y (by simp)) hl
    have := hpre.l
    have := hpre.r
    exact symm3_c p hp P L R S (fun P' L' R' S' hlt hp' hl' => ih P' L' R' S' (by omega) hp' hl') (by omega) (by omega) hpre hl
/-! slices.stableCmpFunc[int] -/
def r24_0 : List POp := [⟨6, .asg (.c (.int .i64 20)), none⟩]
def r24_1 : List POp := [⟨10, .mv (.t 6), none⟩,
  ⟨7, .mv (.c (.int .i64 0)), none⟩,
  ⟨8, .mv (.t 10), none⟩]
def r24_2 : List POp := [⟨11, .mv (.t 8), none⟩,
  ⟨12, .mv (.t 1), none⟩,
  ⟨13, .bin .leq (.t 11) (.t 12), none⟩]
def r24_3 : List POp := [⟨14, .mv (.t 0), none⟩,
  ⟨15, .mv (.t 7), none⟩,
  ⟨16, .mv (.t 8), none⟩,
  ⟨17, .mv (.t 2), none⟩,
  ⟨18, .callm 32 [.t 14, .t 15, .t 16, .t 17], none⟩]
def r24_4 : List POp := [⟨19, .mv (.t 8), none⟩,
  ⟨7, .asg (.t 19), none⟩]
def r24_5 : List POp := [⟨20, .mv (.t 8), none⟩,
  ⟨21, .mv (.t 6), none⟩,
  ⟨22, .bin .add (.t 20) (.t 21), none⟩,
  ⟨8, .asg (.t 22), none⟩]
def r24_6 : List POp := [⟨23, .mv (.t 0), none⟩,
  ⟨24, .mv (.t 7), none⟩,
  ⟨25, .mv (.t 1), none⟩,
  ⟨26, .mv (.t 2), none⟩,
  ⟨27, .callm 32 [.t 23, .t 24, .t 25, .t 26], none⟩]
def r24_7 : List POp := [⟨28, .mv (.t 6), none⟩,
  ⟨29, .mv (.t 1), none⟩,
  ⟨30, .bin .lss (.t 28) (.t 29), none⟩]
def r24_8 : List POp := [⟨31, .mv (.t 6), none⟩,
  ⟨32, .bin .mul (.c (.int .i64 2)) (.t 31), none⟩,
  ⟨7, .mv (.c (.int .i64 0)), none⟩,
  ⟨8, .mv (.t 32), none⟩]
def r24_9 : List POp := [⟨33, .mv (.t 8), none⟩,
  ⟨34, .mv (.t 1), none⟩,
  ⟨35, .bin .leq (.t 33) (.t 34), none⟩]
def r24_10 : List POp := [⟨36, .mv (.t 0), none⟩,
  ⟨37, .mv (.t 7), none⟩,
  ⟨38, .mv (.t 7), none⟩,
  ⟨39, .mv (.t 6), none⟩,
  ⟨40, .bin .add (.t 38) (.t 39), none⟩,
  ⟨41, .mv (.t 8), none⟩,
  ⟨42, .mv (.t 2), none⟩,
  ⟨43, .callm 33 [.t 36, .t 37, .t 40, .t 41, .t 42], none⟩]
def r24_11 : List POp := [⟨44, .mv (.t 8), none⟩,
  ⟨7, .asg (.t 44), none⟩]
def r24_12 : List POp := [⟨45, .mv (.t 8), none⟩,
  ⟨46, .mv (.t 6), none⟩,
  ⟨47, .bin .mul (.c (.int .i64 2)) (.t 46), none⟩,
  ⟨48, .bin .add (.t 45) (.t 47), none⟩,
  ⟨8, .asg (.t 48), none⟩]
def r24_13 : List POp := [⟨49, .mv (.t 7), none⟩,
  ⟨50, .mv (.t 6), none⟩,
  ⟨51, .bin .add (.t 49) (.t 50), none⟩,
  ⟨9, .asg (.t 51), none⟩]
def r24_14 : List POp := [⟨52, .mv (.t 9), none⟩,
  ⟨53, .mv (.t 1), none⟩,
  ⟨54, .bin .lss (.t 52) (.t 53), none⟩]
def r24_15 : List POp := [⟨55, .mv (.t 0), none⟩,
  ⟨56, .mv (.t 7), none⟩,
  ⟨57, .mv (.t 9), none⟩,
  ⟨58, .mv (.t 1), none⟩,
  ⟨59, .mv (.t 2), none⟩,
  ⟨60, .callm 33 [.t 55, .t 56, .t 57, .t 58, .t 59], none⟩]
def r24_16 : List POp := [⟨61, .mv (.t 6), none⟩,
  ⟨62, .bin .mul (.t 61) (.c (.int .i64 2)), none⟩,
  ⟨6, .asg (.t 62), none⟩]
def l24_2 : PCode := .seq (.seq (.ops r24_9) (.cond (.t 35) (.skip) (.exit 4))) (.block 5 (.seq (.ops r24_10) (.seq (.ops r24_11) (.ops r24_12))))
def l24_1 : PCode := .seq (.seq (.ops r24_7) (.cond (.t 30) (.skip) (.exit 2))) (.block 3 (.seq (.ops r24_8) (.seq (.block 4 (.loop l24_2)) (.seq (.seq (.ops r24_13) (.seq (.ops r24_14) (.cond (.t 54) (.ops r24_15) (.skip)))) (.ops r24_16)))))
def l24_0 : PCode := .seq (.seq (.ops r24_2) (.cond (.t 13) (.skip) (.exit 0))) (.block 1 (.seq (.ops r24_3) (.seq (.ops r24_4) (.ops r24_5))))
def p24 : PCode := .seq (.ops r24_0) (.seq (.ops r24_1) (.seq (.block 0 (.loop l24_0)) (.seq (.ops r24_6) (.block 2 (.loop l24_1)))))
theorem ok24 : okFunc1 Try.prog 24 [] 3 p24 = true := by kernel_rfl
set_option maxHeartbeats 4000000 in
set_option maxRecDepth 20000 in
theorem stable_c (p : List Int) (hp : KBnd p) (X : List Int) (hX : InK p X) (hinc : X.Pairwise (· < ·)) (hl : X.length ≤ 5000) :
    TurnOK Try.prog 24 (.own 3 1 (X.map oneI)) (.own 3 1 ((srt (fK p) X).map oneI)) [.val (.int .i64 X.length), .fnv 16 [.roAt [.ro (p.map oneI)] 0]] (.tup []) := by
  refine turn_of mixed ok24 rfl (.tup _ (by simp)) rfl ?_
  have sub : ∀ a m, InK p ((X.drop a).take m) := fun a m x hx => hX x (List.mem_of_mem_drop (List.mem_of_mem_take hx))
  have subI : ∀ a m, ((X.drop a).take m).Pairwise (· < ·) := fun a m => pairwise_take (pairwise_drop hinc a) m
  -- the first rows
  obtain ⟨r0, hr0⟩ : ∃ r0 : Nat → List Int, r0 = fun k => blkS (fK p) 20 (X.take (20 * k)) ++ X.drop (20 * k) := ⟨_, rfl⟩
  have hr00 : X = r0 0 := by rw [hr0]; simp [blk_nil]
  have hr0l : ∀ k, (r0 k).length = X.length := fun k => by rw [hr0]; simp only [List.length_append, blk_len (show 0 < 20 by decide), List.length_take, List.length_drop]; omega
  have ins1 : ∀ k, 20 * k + 20 ≤ X.length → TurnOK Try.prog 32 (.own 3 1 ((r0 k).map oneI)) (.own 3 1 ((r0 (k + 1)).map oneI)) [.val (.int .i64 ((20 * k : Nat) : Int)), .val (.int .i64 ((20 * k + 20 : Nat) : Int)), .fnv 16 [.roAt [.ro (p.map oneI)] 0]] (.tup []) := fun k hk => by
    have hPl : (blkS (fK p) 20 (X.take (20 * k))).length = 20 * k := by rw [blk_len (by decide), List.length_take]; omega
    have hsl : ((X.drop (20 * k)).take 20).length = 20 := by rw [List.length_take, List.length_drop]; omega
    have e1 : r0 k = blkS (fK p) 20 (X.take (20 * k)) ++ (X.drop (20 * k)).take 20 ++ X.drop (20 * k + 20) := by
      rw [hr0]; simp only; rw [List.append_assoc, ← List.drop_drop, List.take_append_drop]
    have e2 : r0 (k + 1) = blkS (fK p) 20 (X.take (20 * k)) ++ srt (fK p) ((X.drop (20 * k)).take 20) ++ X.drop (20 * k + 20) := by
      rw [hr0]; simp only; rw [blk_next (by decide) (by omega), Nat.mul_add]
    have := insertion_c p hp (blkS (fK p) 20 (X.take (20 * k))) ((X.drop (20 * k)).take 20) (X.drop (20 * k + 20)) (sub _ _) (subI _ _) (by rw [← e1, hr0l]; omega)
    rw [← e1, ← e2, hPl, hsl] at this
    exact this
  have ins2 : ∀ k, 20 * k ≤ X.length → X.length < 20 * k + 20 → TurnOK Try.prog 32 (.own 3 1 ((r0 k).map oneI)) (.own 3 1 ((blkS (fK p) 20 X).map oneI)) [.val (.int .i64 ((20 * k : Nat) : Int)), .val (.int .i64 X.length), .fnv 16 [.roAt [.ro (p.map oneI)] 0]] (.tup []) := fun k hk1 hk2 => by
    have hPl : (blkS (fK p) 20 (X.take (20 * k))).length = 20 * k := by rw [blk_len (by decide), List.length_take]; omega
    have hsl : (X.drop (20 * k)).length = X.length - 20 * k := List.length_drop
    have e1 : r0 k = blkS (fK p) 20 (X.take (20 * k)) ++ X.drop (20 * k) ++ [] := by rw [hr0, List.append_nil]
    have := insertion_c p hp (blkS (fK p) 20 (X.take (20 * k))) (X.drop (20 * k)) [] (fun x hx => hX x (List.mem_of_mem_drop hx)) (pairwise_drop hinc _) (by rw [← e1, hr0l]; omega)
    rw [← e1, List.append_nil, ← blk_last (by decide) hk1 (by omega), hPl, hsl, show 20 * k + (X.length - 20 * k) = X.length by omega] at this
    exact this
  -- the merged rows
  obtain ⟨r2, hr2⟩ : ∃ r2 : Nat → Nat → List Int, r2 = fun w k => blkS (fK p) (2 * w) (X.take (2 * w * k)) ++ blkS (fK p) w (X.drop (2 * w * k)) := ⟨_, rfl⟩
  have hr20 : ∀ w, blkS (fK p) w X = r2 w 0 := fun w => by rw [hr2]; simp [blk_nil]
  have hr2l : ∀ w k, 0 < w → (r2 w k).length = X.length := fun w k hw => by rw [hr2]; simp only [List.length_append, blk_len hw, blk_len (show 0 < 2 * w by omega), List.length_take, List.length_drop]; omega
  have hbl : ∀ w, 0 < w → (blkS (fK p) w X).length = X.length := fun w hw => blk_len hw
  have mrg1 : ∀ w k, 0 < w → 2 * w * k + 2 * w ≤ X.length → TurnOK Try.prog 33 (.own 3 1 ((r2 w k).map oneI)) (.own 3 1 ((r2 w (k + 1)).map oneI)) [.val (.int .i64 ((2 * w * k : Nat) : Int)), .val (.int .i64 ((2 * w * k + w : Nat) : Int)), .val (.int .i64 ((2 * w * k + 2 * w : Nat) : Int)), .fnv 16 [.roAt [.ro (p.map oneI)] 0]] (.tup []) := fun w k hw hk => by
    generalize ha : 2 * w * k = a at *
    have hPl : (blkS (fK p) (2 * w) (X.take a)).length = a := by rw [blk_len (by omega), List.length_take]; omega
    have hA : ((X.drop a).take w).length = w := by rw [List.length_take, List.length_drop]; omega
    have hB : (((X.drop a).drop w).take w).length = w := by rw [List.length_take, List.length_drop, List.length_drop]; omega
    have e1 : r2 w k = blkS (fK p) (2 * w) (X.take a) ++ srt (fK p) ((X.drop a).take w) ++ srt (fK p) (((X.drop a).drop w).take w) ++ blkS (fK p) w (X.drop (a + 2 * w)) := by
      rw [hr2]; simp only
      have e5 : (X.drop a).drop (w + w) = X.drop (a + 2 * w) := by rw [List.drop_drop, show a + (w + w) = a + 2 * w by omega]
      rw [ha, blk_two (X := X.drop a) hw (by rw [List.length_drop]; omega), e5]
      simp only [List.append_assoc]
    have e2 : r2 w (k + 1) = blkS (fK p) (2 * w) (X.take a) ++ srt (fK p) (srt (fK p) ((X.drop a).take w) ++ srt (fK p) (((X.drop a).drop w).take w)) ++ blkS (fK p) w (X.drop (a + 2 * w)) := by
      have e3 : 2 * w * (k + 1) = a + 2 * w := by rw [Nat.mul_add, ha, Nat.mul_one]
      rw [hr2]; simp only
      rw [blk_next (by omega) (by rw [e3]; omega), e3, ha, srt_two, show 2 * w = w + w by omega, List.take_add]
    have hpre : SymPre p (srt (fK p) ((X.drop a).take w)) (srt (fK p) (((X.drop a).drop w).take w)) := ⟨by rw [srt_len]; omega, by rw [srt_len]; omega, fun x hx => sub a w x (srt_mem.1 hx), fun x hx => by
        have := srt_mem.1 hx
        rw [List.drop_drop] at this
        exact sub _ _ x this, srt_srt _ _, srt_srt _ _, fun x hx y hy => inc_parts (pairwise_drop hinc a) w w x (srt_mem.1 hx) y (srt_mem.1 hy)⟩
    have := symm_c p hp _ (blkS (fK p) (2 * w) (X.take a)) _ _ (blkS (fK p) w (X.drop (a + 2 * w))) (Nat.le_refl _) hpre (by rw [← e1, hr2l w k hw]; omega)
    unfold SymOK at this
    rw [← e1, ← e2, srt_len, srt_len, hPl, hA, hB, show a + w + w = a + 2 * w by omega] at this
    exact this
  have mrg2 : ∀ w k, 0 < w → 2 * w * k + w < X.length → X.length < 2 * w * k + 2 * w → TurnOK Try.prog 33 (.own 3 1 ((r2 w k).map oneI)) (.own 3 1 ((blkS (fK p) (2 * w) X).map oneI)) [.val (.int .i64 ((2 * w * k : Nat) : Int)), .val (.int .i64 ((2 * w * k + w : Nat) : Int)), .val (.int .i64 X.length), .fnv 16 [.roAt [.ro (p.map oneI)] 0]] (.tup []) := fun w k hw hk1 hk2 => by
    have e2 : blkS (fK p) (2 * w) X = blkS (fK p) (2 * w) (X.take (2 * w * k)) ++ srt (fK p) (X.drop (2 * w * k)) := blk_last (by omega) (by omega) (by rw [Nat.mul_add]; omega)
    rw [e2]
    generalize ha : 2 * w * k = a at *
    have hPl : (blkS (fK p) (2 * w) (X.take a)).length = a := by rw [blk_len (by omega), List.length_take]; omega
    have hA : ((X.drop a).take w).length = w := by rw [List.length_take, List.length_drop]; omega
    have hB : ((X.drop a).drop w).length = X.length - a - w := by rw [List.length_drop, List.length_drop]
    have e1 : r2 w k = blkS (fK p) (2 * w) (X.take a) ++ srt (fK p) ((X.drop a).take w) ++ srt (fK p) ((X.drop a).drop w) ++ [] := by
      rw [hr2]; simp only
      rw [ha, blk_two' (X := X.drop a) hw (by rw [List.length_drop]; omega) (by rw [List.length_drop]; omega)]
      simp only [List.append_assoc, List.append_nil]
    have hpre : SymPre p (srt (fK p) ((X.drop a).take w)) (srt (fK p) ((X.drop a).drop w)) := ⟨by rw [srt_len]; omega, by rw [srt_len]; omega, fun x hx => sub a w x (srt_mem.1 hx), fun x hx => hX x (List.mem_of_mem_drop (List.mem_of_mem_drop (srt_mem.1 hx))), srt_srt _ _, srt_srt _ _, fun x hx y hy => by
        have hy' := srt_mem.1 hy
        have := inc_parts (pairwise_drop hinc a) w ((X.drop a).drop w).length x (srt_mem.1 hx) y
        rw [List.take_length] at this
        exact this hy'⟩
    have := symm_c p hp _ (blkS (fK p) (2 * w) (X.take a)) _ _ [] (Nat.le_refl _) hpre (by rw [← e1, hr2l w k hw]; omega)
    unfold SymOK at this
    rw [← e1, srt_two, List.take_append_drop, List.append_nil, srt_len, srt_len, hPl, hA, hB, show a + w + (X.length - a - w) = X.length by omega] at this
    exact this
  have mrg0 : ∀ w k, 0 < w → 2 * w * k ≤ X.length → X.length ≤ 2 * w * k + w → r2 w k = blkS (fK p) (2 * w) X := fun w k hw hk1 hk2 => by
    rw [blk_last (w := 2 * w) (k := k) (by omega) hk1 (by rw [Nat.mul_add]; omega), hr2]
    simp only
    rw [blk_one (X := X.drop (2 * w * k)) hw (by rw [List.length_drop]; omega)]
  have hfin : ∀ w, 0 < w → X.length ≤ w → blkS (fK p) w X = srt (fK p) X := fun w hw h => blk_one hw h
  rw [hr00, ← hr00]
  have hrow0 : X.map oneI = (r0 0).map oneI := by rw [← hr00]
  rw [hrow0]
  clear hr0 hr2 sub subI hX hinc hr00 hrow0
  repeat' first | ((with_reducible (first | refine condD ?_ ?_ | refine condE ?_ ?_ | refine condN ?_ ?_ | refine condI ?_ ?_ | refine condS ?_ ?_)) <;> intro h) | ((with_reducible (first | refine guardD (by with_unfolding_all rfl) ?_ ?_ | refine guardE (by with_unfolding_all rfl) ?_ ?_ | refine guardN (by with_unfolding_all rfl) ?_ ?_ | refine guardI (by with_unfolding_all rfl) ?_ ?_ | refine guardS (by with_unfolding_all rfl) ?_ ?_)) <;> intro h) | (with_reducible refine And.intro ?_ ?_; omega) | (simp only [Z0,Z1,Z2,Z3,Z4,Z5,Z6,Z7,Z8,Z9,Za,Zb,Zc,Zd,Ze,Zf,List.cons.injEq,Zg,Zh,Zi,Zj,Zk,Zl,Zm,Zn,Zo,Zp,beq_self_eq_true,bne_self_eq_false,decide_true,decide_false,Zq,Zr,Zs,Zt,Zu,Zv,Zw,Zx,Zy,Zz,Y0,Y1,Y2,Y3,Y4,Y5,Y6,Y7,Y8,Y9,Ya,Yb,Yc,Yd,Ye,Yf,Yg,Yh,Yi,Yj,Yk,Yl,Ym,Yn,Yo,Yp,Yq,lk,ef,Yr,Ys,Yt,Yu,Yv,Yw,Yx,Yy,Yz,X0,X1,X2,X3,X4,X5,X6,X7,X8,X9,Xa,Xb,Xc,Xd,Xe,Xf,Xg,Xh,Xi,Xj,Xk,Xl,Xm,Xn,Xo,Xp,Xq,Xr,Xs,hv,Xt,ev,Xu,Xv,Xw,Xx,Xy,Xz,W0,W1,W2,W3,W4,W5,W6,W7,W8,W9,Wa,Wb,Wc,Wd,We,Wf,Wg,Wh,Wi,Wj,Wk,Wl,Wm,Wn,Wo,Wp,Wq,Wr,Ws,Wt,Value.oneCell',Wu,Wv,Ww,Wx,true_and,and_true,and_self,implies_true,Wy,Wz,V0,V1,false_implies,V2,V3,V4,V5,V6,V7,V8,V9,Va,Vb,Vc,Vd,Ve,Vf,Vg,Vh,Vi,reduceCtorEq,if_true,if_false,Vj,↓reduceIte,Vk,Vl,Vm,Vn,Vo,Vp,Vq,ne_eq,not_false_eq_true,not_true_eq_false,Vr,Vs,r24_0,r24_1,r24_2,r24_3,r24_4,r24_5,r24_6,r24_7,r24_8,r24_9,r24_10,r24_11,r24_12,r24_13,r24_14,r24_15,r24_16,p24]) | (exfalso; omega)
  refine loopS (fun k : Nat => mk [(0, .own 3 1 ((r0 k).map oneI)), (1, .val (.int .i64 X.length)), (2, .fnv 16 [.roAt [.ro (p.map oneI)] 0]), (6, .val (.int .i64 20)), (7, .val (.int .i64 ((20 * k : Nat) : Int))), (8, .val (.int .i64 ((20 * k + 20 : Nat) : Int)))]) (fun k => 20 * k ≤ X.length) (fun k => X.length - 20 * k) 0 (weak_mk ?_) (by omega) ?_
  · simp only [Vt,Vu,wk1,Vv,Vw,Vx,Z0,Z1,Z2,Z3,Z4,Z5,Z6,Z7,Z8,Z9,Za,Zb,Zc,Zd,Ze,Zf,List.cons.injEq,Zg,Zh,Zi,Zj,Zk,Zl,Zm,Zn,Zo,Zp,beq_self_eq_true,bne_self_eq_false,decide_true,decide_false,Zq,Zr,Zs,Zt,Zu,Zv,Zw,Zx,Zy,Zz,Y0,Y1,Y2,Y3,Y4,Y5,Y6,Y7,Y8,Y9,Ya,Yb,Yc,Yd,Ye,Yf,Yg,Yh,Yi,Yj,Yk,Yl,Ym,Yn,Yo,Yp,Yq,lk,ef,Yr,Ys,Yt,Yu,Yv,Yw,Yx,Yy,Yz,X0,X1,X2,X3,X4,X5,X6,X7,X8,X9,Xa,Xb,Xc,Xd,Xe,Xf,Xg,Xh,Xi,Xj,Xk,Xl,Xm,Xn,Xo,Xp,Xq,Xr,Xs,hv,Xt,ev,Xu,Xv,Xw,Xx,Xy,Xz,W0,W1,W2,W3,W4,W5,W6,W7,W8,W9,Wa,Wb,Wc,Wd,We,Wf,Wg,Wh,Wi,Wj,Wk,Wl,Wm,Wn,Wo,Wp,Wq,Wr,Ws,Wt,Value.oneCell',Wu,Wv,Ww,Wx,true_and,and_true,and_self,implies_true,Wy,Wz,V0,V1,false_implies,V2,V3,V4,V5,V6,V7,V8,V9,Va,Vb,Vc,Vd,Ve,Vf,Vg,Vh,Vi,reduceCtorEq,if_true,if_false,Vj,↓reduceIte,Vk,Vl,Vm,Vn,Vo,Vp,Vq,ne_eq,not_false_eq_true,not_true_eq_false,Vr,Nat.zero_ne_one]
    all_goals first | done | rfl | exact ⟨rfl, rfl⟩
  rintro J hJ k hk
  simp only [Z0,Z1,Z2,Z3,Z4,Z5,Z6,Z7,Z8,Z9,Za,Zb,Zc,Zd,Ze,Zf,List.cons.injEq,Zg,Zh,Zi,Zj,Zk,Zl,Zm,Zn,Zo,Zp,beq_self_eq_true,bne_self_eq_false,decide_true,decide_false,Zq,Zr,Zs,Zt,Zu,Zv,Zw,Zx,Zy,Zz,Y0,Y1,Y2,Y3,Y4,Y5,Y6,Y7,Y8,Y9,Ya,Yb,Yc,Yd,Ye,Yf,Yg,Yh,Yi,Yj,Yk,Yl,Ym,Yn,Yo,Yp,Yq,lk,ef,Yr,Ys,Yt,Yu,Yv,Yw,Yx,Yy,Yz,X0,X1,X2,X3,X4,X5,X6,X7,X8,X9,Xa,Xb,Xc,Xd,Xe,Xf,Xg,Xh,Xi,Xj,Xk,Xl,Xm,Xn,Xo,Xp,Xq,Xr,Xs,hv,Xt,ev,Xu,Xv,Xw,Xx,Xy,Xz,W0,W1,W2,W3,W4,W5,W6,W7,W8,W9,Wa,Wb,Wc,Wd,We,Wf,Wg,Wh,Wi,Wj,Wk,Wl,Wm,Wn,Wo,Wp,Wq,Wr,Ws,Wt,Value.oneCell',Wu,Wv,Ww,Wx,true_and,and_true,and_self,implies_true,Wy,Wz,V0,V1,false_implies,V2,V3,V4,V5,V6,V7,V8,V9,Va,Vb,Vc,Vd,Ve,Vf,Vg,Vh,Vi,reduceCtorEq,if_true,if_false,Vj,↓reduceIte,Vk,Vl,Vm,Vn,Vo,Vp,Vq,ne_eq,not_false_eq_true,not_true_eq_false,Vr,Vs,r24_0,r24_1,r24_2,r24_3,r24_4,r24_5,r24_6,r24_7,r24_8,r24_9,r24_10,r24_11,r24_12,r24_13,r24_14,r24_15,r24_16,p24,l24_0]
  refine condD (fun h => ?_) (fun h => ?_)
  · have hk2 : 20 * k + 20 ≤ X.length := by omega
    have hc := ins1 k hk2
    have w1 : IntKind.i64.wrap (((20 * k + 20 : Nat) : Int) + 20) = ((20 * (k + 1) + 20 : Nat) : Int) := by rw [wrap_in (by omega) (by omega)]; omega
    have e1 : ((20 * k + 20 : Nat) : Int) = ((20 * (k + 1) : Nat) : Int) := by omega
    have l1 := hr0l k
    have l2 := hr0l (k + 1)
    repeat' first | ((with_reducible (first | refine condD ?_ ?_ | refine condE ?_ ?_ | refine condN ?_ ?_ | refine condI ?_ ?_ | refine condS ?_ ?_)) <;> intro h) | ((with_reducible (first | refine guardD (by with_unfolding_all rfl) ?_ ?_ | refine guardE (by with_unfolding_all rfl) ?_ ?_ | refine guardN (by with_unfolding_all rfl) ?_ ?_ | refine guardI (by with_unfolding_all rfl) ?_ ?_ | refine guardS (by with_unfolding_all rfl) ?_ ?_)) <;> intro h) | ((refine turnG (by with_unfolding_all rfl) (by simp only [List.length_map, l1, l2]) hc ?_)) | (with_reducible refine And.intro ?_ ?_; omega) | (simp only [Z0,Z1,Z2,Z3,Z4,Z5,Z6,Z7,Z8,Z9,Za,Zb,Zc,Zd,Ze,Zf,List.cons.injEq,Zg,Zh,Zi,Zj,Zk,Zl,Zm,Zn,Zo,Zp,beq_self_eq_true,bne_self_eq_false,decide_true,decide_false,Zq,Zr,Zs,Zt,Zu,Zv,Zw,Zx,Zy,Zz,Y0,Y1,Y2,Y3,Y4,Y5,Y6,Y7,Y8,Y9,Ya,Yb,Yc,Yd,Ye,Yf,Yg,Yh,Yi,Yj,Yk,Yl,Ym,Yn,Yo,Yp,Yq,lk,ef,Yr,Ys,Yt,Yu,Yv,Yw,Yx,Yy,Yz,X0,X1,X2,X3,X4,X5,X6,X7,X8,X9,Xa,Xb,Xc,Xd,Xe,Xf,Xg,Xh,Xi,Xj,Xk,Xl,Xm,Xn,Xo,Xp,Xq,Xr,Xs,hv,Xt,ev,Xu,Xv,Xw,Xx,Xy,Xz,W0,W1,W2,W3,W4,W5,W6,W7,W8,W9,Wa,Wb,Wc,Wd,We,Wf,Wg,Wh,Wi,Wj,Wk,Wl,Wm,Wn,Wo,Wp,Wq,Wr,Ws,Wt,Value.oneCell',Wu,Wv,Ww,Wx,true_and,and_true,and_self,implies_true,Wy,Wz,V0,V1,false_implies,V2,V3,V4,V5,V6,V7,V8,V9,Va,Vb,Vc,Vd,Ve,Vf,Vg,Vh,Vi,reduceCtorEq,if_true,if_false,Vj,↓reduceIte,Vk,Vl,Vm,Vn,Vo,Vp,Vq,ne_eq,not_false_eq_true,not_true_eq_false,Vr,Vs,r24_0,r24_1,r24_2,r24_3,r24_4,r24_5,r24_6,r24_7,r24_8,r24_9,r24_10,r24_11,r24_12,r24_13,r24_14,r24_15,r24_16,p24,l24_0,w1,List.length_map]) | (exfalso; omega)
    all_goals first | omega | exact again hJ (k + 1) (weak_mk (by simp only [Vt,Vu,wk1,Vv,Vw,Vx,Z0,Z1,Z2,Z3,Z4,Z5,Z6,Z7,Z8,Z9,Za,Zb,Zc,Zd,Ze,Zf,List.cons.injEq,Zg,Zh,Zi,Zj,Zk,Zl,Zm,Zn,Zo,Zp,beq_self_eq_true,bne_self_eq_false,decide_true,decide_false,Zq,Zr,Zs,Zt,Zu,Zv,Zw,Zx,Zy,Zz,Y0,Y1,Y2,Y3,Y4,Y5,Y6,Y7,Y8,Y9,Ya,Yb,Yc,Yd,Ye,Yf,Yg,Yh,Yi,Yj,Yk,Yl,Ym,Yn,Yo,Yp,Yq,lk,ef,Yr,Ys,Yt,Yu,Yv,Yw,Yx,Yy,Yz,X0,X1,X2,X3,X4,X5,X6,X7,X8,X9,Xa,Xb,Xc,Xd,Xe,Xf,Xg,Xh,Xi,Xj,Xk,Xl,Xm,Xn,Xo,Xp,Xq,Xr,Xs,hv,Xt,ev,Xu,Xv,Xw,Xx,Xy,Xz,W0,W1,W2,W3,W4,W5,W6,W7,W8,W9,Wa,Wb,Wc,Wd,We,Wf,Wg,Wh,Wi,Wj,Wk,Wl,Wm,Wn,Wo,Wp,Wq,Wr,Ws,Wt,Value.oneCell',Wu,Wv,Ww,Wx,true_and,and_true,and_self,implies_true,Wy,Wz,V0,V1,false_implies,V2,V3,V4,V5,V6,V7,V8,V9,Va,Vb,Vc,Vd,Ve,Vf,Vg,Vh,Vi,reduceCtorEq,if_true,if_false,Vj,↓reduceIte,Vk,Vl,Vm,Vn,Vo,Vp,Vq,ne_eq,not_false_eq_true,not_true_eq_false,Vr,Nat.zero_ne_one]; all_goals first | done | rw [e1])) (by omega) (by omega) | trace_state
  · have hk2 : X.length < 20 * k + 20 := by omega
    have hc := ins2 k hk hk2
    have l1 := hr0l k
    have l2 := hbl 20 (by decide)
    clear hJ
    repeat' first | ((with_reducible (first | refine condD ?_ ?_ | refine condE ?_ ?_ | refine condN ?_ ?_ | refine condI ?_ ?_ | refine condS ?_ ?_)) <;> intro h) | ((with_reducible (first | refine guardD (by with_unfolding_all rfl) ?_ ?_ | refine guardE (by with_unfolding_all rfl) ?_ ?_ | refine guardN (by with_unfolding_all rfl) ?_ ?_ | refine guardI (by with_unfolding_all rfl) ?_ ?_ | refine guardS (by with_unfolding_all rfl) ?_ ?_)) <;> intro h) | ((refine turnG (by with_unfolding_all rfl) (by simp only [List.length_map, l1, l2]) hc ?_)) | (with_reducible refine And.intro ?_ ?_; omega) | (simp only [Z0,Z1,Z2,Z3,Z4,Z5,Z6,Z7,Z8,Z9,Za,Zb,Zc,Zd,Ze,Zf,List.cons.injEq,Zg,Zh,Zi,Zj,Zk,Zl,Zm,Zn,Zo,Zp,beq_self_eq_true,bne_self_eq_false,decide_true,decide_false,Zq,Zr,Zs,Zt,Zu,Zv,Zw,Zx,Zy,Zz,Y0,Y1,Y2,Y3,Y4,Y5,Y6,Y7,Y8,Y9,Ya,Yb,Yc,Yd,Ye,Yf,Yg,Yh,Yi,Yj,Yk,Yl,Ym,Yn,Yo,Yp,Yq,lk,ef,Yr,Ys,Yt,Yu,Yv,Yw,Yx,Yy,Yz,X0,X1,X2,X3,X4,X5,X6,X7,X8,X9,Xa,Xb,Xc,Xd,Xe,Xf,Xg,Xh,Xi,Xj,Xk,Xl,Xm,Xn,Xo,Xp,Xq,Xr,Xs,hv,Xt,ev,Xu,Xv,Xw,Xx,Xy,Xz,W0,W1,W2,W3,W4,W5,W6,W7,W8,W9,Wa,Wb,Wc,Wd,We,Wf,Wg,Wh,Wi,Wj,Wk,Wl,Wm,Wn,Wo,Wp,Wq,Wr,Ws,Wt,Value.oneCell',Wu,Wv,Ww,Wx,true_and,and_true,and_self,implies_true,Wy,Wz,V0,V1,false_implies,V2,V3,V4,V5,V6,V7,V8,V9,Va,Vb,Vc,Vd,Ve,Vf,Vg,Vh,Vi,reduceCtorEq,if_true,if_false,Vj,↓reduceIte,Vk,Vl,Vm,Vn,Vo,Vp,Vq,ne_eq,not_false_eq_true,not_true_eq_false,Vr,Vs,r24_0,r24_1,r24_2,r24_3,r24_4,r24_5,r24_6,r24_7,r24_8,r24_9,r24_10,r24_11,r24_12,r24_13,r24_14,r24_15,r24_16,p24,l24_0,List.length_map]) | (exfalso; omega)
    refine loopS (fun w : Nat => mk [(0, .own 3 1 ((blkS (fK p) w X).map oneI)), (1, .val (.int .i64 X.length)), (2, .fnv 16 [.roAt [.ro (p.map oneI)] 0]), (6, .val (.int .i64 w))]) (fun w => 20 ≤ w ∧ w ≤ 20000) (fun w => X.length - w) 20 (weak_mk ?_) (by omega) ?_
    · simp only [Vt,Vu,wk1,Vv,Vw,Vx,Z0,Z1,Z2,Z3,Z4,Z5,Z6,Z7,Z8,Z9,Za,Zb,Zc,Zd,Ze,Zf,List.cons.injEq,Zg,Zh,Zi,Zj,Zk,Zl,Zm,Zn,Zo,Zp,beq_self_eq_true,bne_self_eq_false,decide_true,decide_false,Zq,Zr,Zs,Zt,Zu,Zv,Zw,Zx,Zy,Zz,Y0,Y1,Y2,Y3,Y4,Y5,Y6,Y7,Y8,Y9,Ya,Yb,Yc,Yd,Ye,Yf,Yg,Yh,Yi,Yj,Yk,Yl,Ym,Yn,Yo,Yp,Yq,lk,ef,Yr,Ys,Yt,Yu,Yv,Yw,Yx,Yy,Yz,X0,X1,X2,X3,X4,X5,X6,X7,X8,X9,Xa,Xb,Xc,Xd,Xe,Xf,Xg,Xh,Xi,Xj,Xk,Xl,Xm,Xn,Xo,Xp,Xq,Xr,Xs,hv,Xt,ev,Xu,Xv,Xw,Xx,Xy,Xz,W0,W1,W2,W3,W4,W5,W6,W7,W8,W9,Wa,Wb,Wc,Wd,We,Wf,Wg,Wh,Wi,Wj,Wk,Wl,Wm,Wn,Wo,Wp,Wq,Wr,Ws,Wt,Value.oneCell',Wu,Wv,Ww,Wx,true_and,and_true,and_self,implies_true,Wy,Wz,V0,V1,false_implies,V2,V3,V4,V5,V6,V7,V8,V9,Va,Vb,Vc,Vd,Ve,Vf,Vg,Vh,Vi,reduceCtorEq,if_true,if_false,Vj,↓reduceIte,Vk,Vl,Vm,Vn,Vo,Vp,Vq,ne_eq,not_false_eq_true,not_true_eq_false,Vr,Nat.zero_ne_one]
      all_goals first | done | rfl | exact ⟨rfl, rfl⟩
    clear hc l1 l2 h hk hk2
    rintro J hJ w ⟨hw1, hw2⟩
    have hw : 0 < w := by omega
    simp only [Z0,Z1,Z2,Z3,Z4,Z5,Z6,Z7,Z8,Z9,Za,Zb,Zc,Zd,Ze,Zf,List.cons.injEq,Zg,Zh,Zi,Zj,Zk,Zl,Zm,Zn,Zo,Zp,beq_self_eq_true,bne_self_eq_false,decide_true,decide_false,Zq,Zr,Zs,Zt,Zu,Zv,Zw,Zx,Zy,Zz,Y0,Y1,Y2,Y3,Y4,Y5,Y6,Y7,Y8,Y9,Ya,Yb,Yc,Yd,Ye,Yf,Yg,Yh,Yi,Yj,Yk,Yl,Ym,Yn,Yo,Yp,Yq,lk,ef,Yr,Ys,Yt,Yu,Yv,Yw,Yx,Yy,Yz,X0,X1,X2,X3,X4,X5,X6,X7,X8,X9,Xa,Xb,Xc,Xd,Xe,Xf,Xg,Xh,Xi,Xj,Xk,Xl,Xm,Xn,Xo,Xp,Xq,Xr,Xs,hv,Xt,ev,Xu,Xv,Xw,Xx,Xy,Xz,W0,W1,W2,W3,W4,W5,W6,W7,W8,W9,Wa,Wb,Wc,Wd,We,Wf,Wg,Wh,Wi,Wj,Wk,Wl,Wm,Wn,Wo,Wp,Wq,Wr,Ws,Wt,Value.oneCell',Wu,Wv,Ww,Wx,true_and,and_true,and_self,implies_true,Wy,Wz,V0,V1,false_implies,V2,V3,V4,V5,V6,V7,V8,V9,Va,Vb,Vc,Vd,Ve,Vf,Vg,Vh,Vi,reduceCtorEq,if_true,if_false,Vj,↓reduceIte,Vk,Vl,Vm,Vn,Vo,Vp,Vq,ne_eq,not_false_eq_true,not_true_eq_false,Vr,Vs,r24_0,r24_1,r24_2,r24_3,r24_4,r24_5,r24_6,r24_7,r24_8,r24_9,r24_10,r24_11,r24_12,r24_13,r24_14,r24_15,r24_16,p24,l24_1]
    refine condD (fun h => ?_) (fun h => ?_)
    · have hwn : w < X.length := by omega
      have w1 : IntKind.i64.wrap (2 * (w : Int)) = ((2 * w * 0 + 2 * w : Nat) : Int) := by rw [wrap_in (by omega) (by omega)]; omega
      rw [hr20 w]
      repeat' first | ((with_reducible (first | refine condD ?_ ?_ | refine condE ?_ ?_ | refine condN ?_ ?_ | refine condI ?_ ?_ | refine condS ?_ ?_)) <;> intro h) | ((with_reducible (first | refine guardD (by with_unfolding_all rfl) ?_ ?_ | refine guardE (by with_unfolding_all rfl) ?_ ?_ | refine guardN (by with_unfolding_all rfl) ?_ ?_ | refine guardI (by with_unfolding_all rfl) ?_ ?_ | refine guardS (by with_unfolding_all rfl) ?_ ?_)) <;> intro h) | (with_reducible refine And.intro ?_ ?_; omega) | (simp only [Z0,Z1,Z2,Z3,Z4,Z5,Z6,Z7,Z8,Z9,Za,Zb,Zc,Zd,Ze,Zf,List.cons.injEq,Zg,Zh,Zi,Zj,Zk,Zl,Zm,Zn,Zo,Zp,beq_self_eq_true,bne_self_eq_false,decide_true,decide_false,Zq,Zr,Zs,Zt,Zu,Zv,Zw,Zx,Zy,Zz,Y0,Y1,Y2,Y3,Y4,Y5,Y6,Y7,Y8,Y9,Ya,Yb,Yc,Yd,Ye,Yf,Yg,Yh,Yi,Yj,Yk,Yl,Ym,Yn,Yo,Yp,Yq,lk,ef,Yr,Ys,Yt,Yu,Yv,Yw,Yx,Yy,Yz,X0,X1,X2,X3,X4,X5,X6,X7,X8,X9,Xa,Xb,Xc,Xd,Xe,Xf,Xg,Xh,Xi,Xj,Xk,Xl,Xm,Xn,Xo,Xp,Xq,Xr,Xs,hv,Xt,ev,Xu,Xv,Xw,Xx,Xy,Xz,W0,W1,W2,W3,W4,W5,W6,W7,W8,W9,Wa,Wb,Wc,Wd,We,Wf,Wg,Wh,Wi,Wj,Wk,Wl,Wm,Wn,Wo,Wp,Wq,Wr,Ws,Wt,Value.oneCell',Wu,Wv,Ww,Wx,true_and,and_true,and_self,implies_true,Wy,Wz,V0,V1,false_implies,V2,V3,V4,V5,V6,V7,V8,V9,Va,Vb,Vc,Vd,Ve,Vf,Vg,Vh,Vi,reduceCtorEq,if_true,if_false,Vj,↓reduceIte,Vk,Vl,Vm,Vn,Vo,Vp,Vq,ne_eq,not_false_eq_true,not_true_eq_false,Vr,Vs,r24_0,r24_1,r24_2,r24_3,r24_4,r24_5,r24_6,r24_7,r24_8,r24_9,r24_10,r24_11,r24_12,r24_13,r24_14,r24_15,r24_16,p24,l24_1,w1]) | (exfalso; omega)
      refine loopS (fun k : Nat => mk [(0, .own 3 1 ((r2 w k).map oneI)), (1, .val (.int .i64 X.length)), (2, .fnv 16 [.roAt [.ro (p.map oneI)] 0]), (6, .val (.int .i64 w)), (7, .val (.int .i64 ((2 * w * k : Nat) : Int))), (8, .val (.int .i64 ((2 * w * k + 2 * w : Nat) : Int)))]) (fun k => 2 * w * k ≤ X.length) (fun k => X.length - 2 * w * k) 0 (weak_mk ?_) (by omega) ?_
      · simp only [Vt,Vu,wk1,Vv,Vw,Vx,Z0,Z1,Z2,Z3,Z4,Z5,Z6,Z7,Z8,Z9,Za,Zb,Zc,Zd,Ze,Zf,List.cons.injEq,Zg,Zh,Zi,Zj,Zk,Zl,Zm,Zn,Zo,Zp,beq_self_eq_true,bne_self_eq_false,decide_true,decide_false,Zq,Zr,Zs,Zt,Zu,Zv,Zw,Zx,Zy,Zz,Y0,Y1,Y2,Y3,Y4,Y5,Y6,Y7,Y8,Y9,Ya,Yb,Yc,Yd,Ye,Yf,Yg,Yh,Yi,Yj,Yk,Yl,Ym,Yn,Yo,Yp,Yq,lk,ef,Yr,Ys,Yt,Yu,Yv,Yw,Yx,Yy,Yz,X0,X1,X2,X3,X4,X5,X6,X7,X8,X9,Xa,Xb,Xc,Xd,Xe,Xf,Xg,Xh,Xi,Xj,Xk,Xl,Xm,Xn,Xo,Xp,Xq,Xr,Xs,hv,Xt,ev,Xu,Xv,Xw,Xx,Xy,Xz,W0,W1,W2,W3,W4,W5,W6,W7,W8,W9,Wa,Wb,Wc,Wd,We,Wf,Wg,Wh,Wi,Wj,Wk,Wl,Wm,Wn,Wo,Wp,Wq,Wr,Ws,Wt,Value.oneCell',Wu,Wv,Ww,Wx,true_and,and_true,and_self,implies_true,Wy,Wz,V0,V1,false_implies,V2,V3,V4,V5,V6,V7,V8,V9,Va,Vb,Vc,Vd,Ve,Vf,Vg,Vh,Vi,reduceCtorEq,if_true,if_false,Vj,↓reduceIte,Vk,Vl,Vm,Vn,Vo,Vp,Vq,ne_eq,not_false_eq_true,not_true_eq_false,Vr,Nat.zero_ne_one]
        all_goals first | done | rfl | (simp; done) | exact ⟨rfl, rfl⟩
      rintro J2 hJ2 k hk
      have e3 : 2 * w * (k + 1) = 2 * w * k + 2 * w := by rw [Nat.mul_add, Nat.mul_one]
      simp only [Z0,Z1,Z2,Z3,Z4,Z5,Z6,Z7,Z8,Z9,Za,Zb,Zc,Zd,Ze,Zf,List.cons.injEq,Zg,Zh,Zi,Zj,Zk,Zl,Zm,Zn,Zo,Zp,beq_self_eq_true,bne_self_eq_false,decide_true,decide_false,Zq,Zr,Zs,Zt,Zu,Zv,Zw,Zx,Zy,Zz,Y0,Y1,Y2,Y3,Y4,Y5,Y6,Y7,Y8,Y9,Ya,Yb,Yc,Yd,Ye,Yf,Yg,Yh,Yi,Yj,Yk,Yl,Ym,Yn,Yo,Yp,Yq,lk,ef,Yr,Ys,Yt,Yu,Yv,Yw,Yx,Yy,Yz,X0,X1,X2,X3,X4,X5,X6,X7,X8,X9,Xa,Xb,Xc,Xd,Xe,Xf,Xg,Xh,Xi,Xj,Xk,Xl,Xm,Xn,Xo,Xp,Xq,Xr,Xs,hv,Xt,ev,Xu,Xv,Xw,Xx,Xy,Xz,W0,W1,W2,W3,W4,W5,W6,W7,W8,W9,Wa,Wb,Wc,Wd,We,Wf,Wg,Wh,Wi,Wj,Wk,Wl,Wm,Wn,Wo,Wp,Wq,Wr,Ws,Wt,Value.oneCell',Wu,Wv,Ww,Wx,true_and,and_true,and_self,implies_true,Wy,Wz,V0,V1,false_implies,V2,V3,V4,V5,V6,V7,V8,V9,Va,Vb,Vc,Vd,Ve,Vf,Vg,Vh,Vi,reduceCtorEq,if_true,if_false,Vj,↓reduceIte,Vk,Vl,Vm,Vn,Vo,Vp,Vq,ne_eq,not_false_eq_true,not_true_eq_false,Vr,Vs,r24_0,r24_1,r24_2,r24_3,r24_4,r24_5,r24_6,r24_7,r24_8,r24_9,r24_10,r24_11,r24_12,r24_13,r24_14,r24_15,r24_16,p24,l24_2]
      refine condD (fun hc => ?_) (fun hc => ?_)
      · have hk2 : 2 * w * k + 2 * w ≤ X.length := by omega
        have hm := mrg1 w k hw hk2
        have l1 := hr2l w k hw
        have l2 := hr2l w (k + 1) hw
        generalize 2 * w * k = a at *
        have w2 : IntKind.i64.wrap ((a : Int) + (w : Int)) = ((a + w : Nat) : Int) := sum_in a w (by omega) (by omega)
        have w3 : IntKind.i64.wrap (2 * (w : Int)) = ((2 * w : Nat) : Int) := by rw [wrap_in (by omega) (by omega)]; omega
        have w4 : IntKind.i64.wrap (((a + 2 * w : Nat) : Int) + ((2 * w : Nat) : Int)) = ((a + 2 * w + 2 * w : Nat) : Int) := sum_in _ _ (by omega) (by omega)
        repeat' first | ((with_reducible (first | refine condD ?_ ?_ | refine condE ?_ ?_ | refine condN ?_ ?_ | refine condI ?_ ?_ | refine condS ?_ ?_)) <;> intro h) | ((with_reducible (first | refine guardD (by with_unfolding_all rfl) ?_ ?_ | refine guardE (by with_unfolding_all rfl) ?_ ?_ | refine guardN (by with_unfolding_all rfl) ?_ ?_ | refine guardI (by with_unfolding_all rfl) ?_ ?_ | refine guardS (by with_unfolding_all rfl) ?_ ?_)) <;> intro h) | ((refine turnG (by with_unfolding_all rfl) (by simp only [List.length_map, l1, l2]) hm ?_)) | (with_reducible refine And.intro ?_ ?_; omega) | (simp only [Z0,Z1,Z2,Z3,Z4,Z5,Z6,Z7,Z8,Z9,Za,Zb,Zc,Zd,Ze,Zf,List.cons.injEq,Zg,Zh,Zi,Zj,Zk,Zl,Zm,Zn,Zo,Zp,beq_self_eq_true,bne_self_eq_false,decide_true,decide_false,Zq,Zr,Zs,Zt,Zu,Zv,Zw,Zx,Zy,Zz,Y0,Y1,Y2,Y3,Y4,Y5,Y6,Y7,Y8,Y9,Ya,Yb,Yc,Yd,Ye,Yf,Yg,Yh,Yi,Yj,Yk,Yl,Ym,Yn,Yo,Yp,Yq,lk,ef,Yr,Ys,Yt,Yu,Yv,Yw,Yx,Yy,Yz,X0,X1,X2,X3,X4,X5,X6,X7,X8,X9,Xa,Xb,Xc,Xd,Xe,Xf,Xg,Xh,Xi,Xj,Xk,Xl,Xm,Xn,Xo,Xp,Xq,Xr,Xs,hv,Xt,ev,Xu,Xv,Xw,Xx,Xy,Xz,W0,W1,W2,W3,W4,W5,W6,W7,W8,W9,Wa,Wb,Wc,Wd,We,Wf,Wg,Wh,Wi,Wj,Wk,Wl,Wm,Wn,Wo,Wp,Wq,Wr,Ws,Wt,Value.oneCell',Wu,Wv,Ww,Wx,true_and,and_true,and_self,implies_true,Wy,Wz,V0,V1,false_implies,V2,V3,V4,V5,V6,V7,V8,V9,Va,Vb,Vc,Vd,Ve,Vf,Vg,Vh,Vi,reduceCtorEq,if_true,if_false,Vj,↓reduceIte,Vk,Vl,Vm,Vn,Vo,Vp,Vq,ne_eq,not_false_eq_true,not_true_eq_false,Vr,Vs,r24_0,r24_1,r24_2,r24_3,r24_4,r24_5,r24_6,r24_7,r24_8,r24_9,r24_10,r24_11,r24_12,r24_13,r24_14,r24_15,r24_16,p24,l24_2,w2,w3,w4,List.length_map]) | (exfalso; omega)
        all_goals first | omega | exact again hJ2 (k + 1) (weak_mk (by simp only [Vt,Vu,wk1,Vv,Vw,Vx,Z0,Z1,Z2,Z3,Z4,Z5,Z6,Z7,Z8,Z9,Za,Zb,Zc,Zd,Ze,Zf,List.cons.injEq,Zg,Zh,Zi,Zj,Zk,Zl,Zm,Zn,Zo,Zp,beq_self_eq_true,bne_self_eq_false,decide_true,decide_false,Zq,Zr,Zs,Zt,Zu,Zv,Zw,Zx,Zy,Zz,Y0,Y1,Y2,Y3,Y4,Y5,Y6,Y7,Y8,Y9,Ya,Yb,Yc,Yd,Ye,Yf,Yg,Yh,Yi,Yj,Yk,Yl,Ym,Yn,Yo,Yp,Yq,lk,ef,Yr,Ys,Yt,Yu,Yv,Yw,Yx,Yy,Yz,X0,X1,X2,X3,X4,X5,X6,X7,X8,X9,Xa,Xb,Xc,Xd,Xe,Xf,Xg,Xh,Xi,Xj,Xk,Xl,Xm,Xn,Xo,Xp,Xq,Xr,Xs,hv,Xt,ev,Xu,Xv,Xw,Xx,Xy,Xz,W0,W1,W2,W3,W4,W5,W6,W7,W8,W9,Wa,Wb,Wc,Wd,We,Wf,Wg,Wh,Wi,Wj,Wk,Wl,Wm,Wn,Wo,Wp,Wq,Wr,Ws,Wt,Value.oneCell',Wu,Wv,Ww,Wx,true_and,and_true,and_self,implies_true,Wy,Wz,V0,V1,false_implies,V2,V3,V4,V5,V6,V7,V8,V9,Va,Vb,Vc,Vd,Ve,Vf,Vg,Vh,Vi,reduceCtorEq,if_true,if_false,Vj,↓reduceIte,Vk,Vl,Vm,Vn,Vo,Vp,Vq,ne_eq,not_false_eq_true,not_true_eq_false,Vr,Nat.zero_ne_one]; all_goals first | done | (rw [e3]; done) | (rw [e3]; exact ⟨rfl, rfl⟩))) (by omega) (by omega) | trace_state
      · have hk2 : X.length < 2 * w * k + 2 * w := by omega
        have l1 := hr2l w k hw
        have l2 := hbl (2 * w) (by omega)
        have w2 : IntKind.i64.wrap (((2 * w * k : Nat) : Int) + (w : Int)) = ((2 * w * k + w : Nat) : Int) := sum_in _ w (by omega) (by omega)
        have w3 : IntKind.i64.wrap ((w : Int) * 2) = ((2 * w : Nat) : Int) := by rw [wrap_in (by omega) (by omega)]; omega
        clear hJ2
        by_cases hm : 2 * w * k + w < X.length
        · have hc2 := mrg2 w k hw hm hk2
          have hmi : ((2 * w * k + w : Nat) : Int) < (X.length : Int) := by omega
          repeat' first | ((with_reducible (first | refine condD ?_ ?_ | refine condE ?_ ?_ | refine condN ?_ ?_ | refine condI ?_ ?_ | refine condS ?_ ?_)) <;> intro h) | ((with_reducible (first | refine guardD (by with_unfolding_all rfl) ?_ ?_ | refine guardE (by with_unfolding_all rfl) ?_ ?_ | refine guardN (by with_unfolding_all rfl) ?_ ?_ | refine guardI (by with_unfolding_all rfl) ?_ ?_ | refine guardS (by with_unfolding_all rfl) ?_ ?_)) <;> intro h) | ((refine turnG (by with_unfolding_all rfl) (by simp only [List.length_map, l1, l2]) hc2 ?_)) | (with_reducible refine And.intro ?_ ?_; omega) | (simp only [Z0,Z1,Z2,Z3,Z4,Z5,Z6,Z7,Z8,Z9,Za,Zb,Zc,Zd,Ze,Zf,List.cons.injEq,Zg,Zh,Zi,Zj,Zk,Zl,Zm,Zn,Zo,Zp,beq_self_eq_true,bne_self_eq_false,decide_true,decide_false,Zq,Zr,Zs,Zt,Zu,Zv,Zw,Zx,Zy,Zz,Y0,Y1,Y2,Y3,Y4,Y5,Y6,Y7,Y8,Y9,Ya,Yb,Yc,Yd,Ye,Yf,Yg,Yh,Yi,Yj,Yk,Yl,Ym,Yn,Yo,Yp,Yq,lk,ef,Yr,Ys,Yt,Yu,Yv,Yw,Yx,Yy,Yz,X0,X1,X2,X3,X4,X5,X6,X7,X8,X9,Xa,Xb,Xc,Xd,Xe,Xf,Xg,Xh,Xi,Xj,Xk,Xl,Xm,Xn,Xo,Xp,Xq,Xr,Xs,hv,Xt,ev,Xu,Xv,Xw,Xx,Xy,Xz,W0,W1,W2,W3,W4,W5,W6,W7,W8,W9,Wa,Wb,Wc,Wd,We,Wf,Wg,Wh,Wi,Wj,Wk,Wl,Wm,Wn,Wo,Wp,Wq,Wr,Ws,Wt,Value.oneCell',Wu,Wv,Ww,Wx,true_and,and_true,and_self,implies_true,Wy,Wz,V0,V1,false_implies,V2,V3,V4,V5,V6,V7,V8,V9,Va,Vb,Vc,Vd,Ve,Vf,Vg,Vh,Vi,reduceCtorEq,if_true,if_false,Vj,↓reduceIte,Vk,Vl,Vm,Vn,Vo,Vp,Vq,ne_eq,not_false_eq_true,not_true_eq_false,Vr,Vs,r24_0,r24_1,r24_2,r24_3,r24_4,r24_5,r24_6,r24_7,r24_8,r24_9,r24_10,r24_11,r24_12,r24_13,r24_14,r24_15,r24_16,p24,l24_2,w2,w3,hmi,List.length_map]) | (exfalso; omega)
          all_goals first | omega | exact again hJ (2 * w) (weak_mk (by simp only [Vt,Vu,wk1,Vv,Vw,Vx,Z0,Z1,Z2,Z3,Z4,Z5,Z6,Z7,Z8,Z9,Za,Zb,Zc,Zd,Ze,Zf,List.cons.injEq,Zg,Zh,Zi,Zj,Zk,Zl,Zm,Zn,Zo,Zp,beq_self_eq_true,bne_self_eq_false,decide_true,decide_false,Zq,Zr,Zs,Zt,Zu,Zv,Zw,Zx,Zy,Zz,Y0,Y1,Y2,Y3,Y4,Y5,Y6,Y7,Y8,Y9,Ya,Yb,Yc,Yd,Ye,Yf,Yg,Yh,Yi,Yj,Yk,Yl,Ym,Yn,Yo,Yp,Yq,lk,ef,Yr,Ys,Yt,Yu,Yv,Yw,Yx,Yy,Yz,X0,X1,X2,X3,X4,X5,X6,X7,X8,X9,Xa,Xb,Xc,Xd,Xe,Xf,Xg,Xh,Xi,Xj,Xk,Xl,Xm,Xn,Xo,Xp,Xq,Xr,Xs,hv,Xt,ev,Xu,Xv,Xw,Xx,Xy,Xz,W0,W1,W2,W3,W4,W5,W6,W7,W8,W9,Wa,Wb,Wc,Wd,We,Wf,Wg,Wh,Wi,Wj,Wk,Wl,Wm,Wn,Wo,Wp,Wq,Wr,Ws,Wt,Value.oneCell',Wu,Wv,Ww,Wx,true_and,and_true,and_self,implies_true,Wy,Wz,V0,V1,false_implies,V2,V3,V4,V5,V6,V7,V8,V9,Va,Vb,Vc,Vd,Ve,Vf,Vg,Vh,Vi,reduceCtorEq,if_true,if_false,Vj,↓reduceIte,Vk,Vl,Vm,Vn,Vo,Vp,Vq,ne_eq,not_false_eq_true,not_true_eq_false,Vr,Nat.zero_ne_one]; all_goals first | done | rfl)) (by omega) (by omega) | trace_state
        · have hc2 := mrg0 w k hw hk (by omega)
          have hmi : ¬ ((2 * w * k + w : Nat) : Int) < (X.length : Int) := by omega
          rw [hc2]
          repeat' first | ((with_reducible (first | refine condD ?_ ?_ | refine condE ?_ ?_ | refine condN ?_ ?_ | refine condI ?_ ?_ | refine condS ?_ ?_)) <;> intro h) | ((with_reducible (first | refine guardD (by with_unfolding_all rfl) ?_ ?_ | refine guardE (by with_unfolding_all rfl) ?_ ?_ | refine guardN (by with_unfolding_all rfl) ?_ ?_ | refine guardI (by with_unfolding_all rfl) ?_ ?_ | refine guardS (by with_unfolding_all rfl) ?_ ?_)) <;> intro h) | (with_reducible refine And.intro ?_ ?_; omega) | (simp only [Z0,Z1,Z2,Z3,Z4,Z5,Z6,Z7,Z8,Z9,Za,Zb,Zc,Zd,Ze,Zf,List.cons.injEq,Zg,Zh,Zi,Zj,Zk,Zl,Zm,Zn,Zo,Zp,beq_self_eq_true,bne_self_eq_false,decide_true,decide_false,Zq,Zr,Zs,Zt,Zu,Zv,Zw,Zx,Zy,Zz,Y0,Y1,Y2,Y3,Y4,Y5,Y6,Y7,Y8,Y9,Ya,Yb,Yc,Yd,Ye,Yf,Yg,Yh,Yi,Yj,Yk,Yl,Ym,Yn,Yo,Yp,Yq,lk,ef,Yr,Ys,Yt,Yu,Yv,Yw,Yx,Yy,Yz,X0,X1,X2,X3,X4,X5,X6,X7,X8,X9,Xa,Xb,Xc,Xd,Xe,Xf,Xg,Xh,Xi,Xj,Xk,Xl,Xm,Xn,Xo,Xp,Xq,Xr,Xs,hv,Xt,ev,Xu,Xv,Xw,Xx,Xy,Xz,W0,W1,W2,W3,W4,W5,W6,W7,W8,W9,Wa,Wb,Wc,Wd,We,Wf,Wg,Wh,Wi,Wj,Wk,Wl,Wm,Wn,Wo,Wp,Wq,Wr,Ws,Wt,Value.oneCell',Wu,Wv,Ww,Wx,true_and,and_true,and_self,implies_true,Wy,Wz,V0,V1,false_implies,V2,V3,V4,V5,V6,V7,V8,V9,Va,Vb,Vc,Vd,Ve,Vf,Vg,Vh,Vi,reduceCtorEq,if_true,if_false,Vj,↓reduceIte,Vk,Vl,Vm,Vn,Vo,Vp,Vq,ne_eq,not_false_eq_true,not_true_eq_false,Vr,Vs,r24_0,r24_1,r24_2,r24_3,r24_4,r24_5,r24_6,r24_7,r24_8,r24_9,r24_10,r24_11,r24_12,r24_13,r24_14,r24_15,r24_16,p24,l24_2,w2,w3,hmi,List.length_map]) | (exfalso; omega)
          all_goals first | omega | exact again hJ (2 * w) (weak_mk (by simp only [Vt,Vu,wk1,Vv,Vw,Vx,Z0,Z1,Z2,Z3,Z4,Z5,Z6,Z7,Z8,Z9,Za,Zb,Zc,Zd,Ze,Zf,List.cons.injEq,Zg,Zh,Zi,Zj,Zk,Zl,Zm,Zn,Zo,Zp,beq_self_eq_true,bne_self_eq_false,decide_true,decide_false,Zq,Zr,Zs,Zt,Zu,Zv,Zw,Zx,Zy,Zz,Y0,Y1,Y2,Y3,Y4,Y5,Y6,Y7,Y8,Y9,Ya,Yb,Yc,Yd,Ye,Yf,Yg,Yh,Yi,Yj,Yk,Yl,Ym,Yn,Yo,Yp,Yq,lk,ef,Yr,Ys,Yt,Yu,Yv,Yw,Yx,Yy,Yz,X0,X1,X2,X3,X4,X5,X6,X7,X8,X9,Xa,Xb,Xc,Xd,Xe,Xf,Xg,Xh,Xi,Xj,Xk,Xl,Xm,Xn,Xo,Xp,Xq,Xr,Xs,hv,Xt,ev,Xu,Xv,Xw,Xx,Xy,Xz,W0,W1,W2,W3,W4,W5,W6,W7,W8,W9,Wa,Wb,Wc,Wd,We,Wf,Wg,Wh,Wi,Wj,Wk,Wl,Wm,Wn,Wo,Wp,Wq,Wr,Ws,Wt,Value.oneCell',Wu,Wv,Ww,Wx,true_and,and_true,and_self,implies_true,Wy,Wz,V0,V1,false_implies,V2,V3,V4,V5,V6,V7,V8,V9,Va,Vb,Vc,Vd,Ve,Vf,Vg,Vh,Vi,reduceCtorEq,if_true,if_false,Vj,↓reduceIte,Vk,Vl,Vm,Vn,Vo,Vp,Vq,ne_eq,not_false_eq_true,not_true_eq_false,Vr,Nat.zero_ne_one]; all_goals first | done | rfl)) (by omega) (by omega) | trace_state
    · have hc2 := hfin w hw (by omega)
      rw [hc2]
      clear hJ
      repeat' first | ((with_reducible (first | refine condD ?_ ?_ | refine condE ?_ ?_ | refine condN ?_ ?_ | refine condI ?_ ?_ | refine condS ?_ ?_)) <;> intro h) | ((with_reducible (first | refine guardD (by with_unfolding_all rfl) ?_ ?_ | refine guardE (by with_unfolding_all rfl) ?_ ?_ | refine guardN (by with_unfolding_all rfl) ?_ ?_ | refine guardI (by with_unfolding_all rfl) ?_ ?_ | refine guardS (by with_unfolding_all rfl) ?_ ?_)) <;> intro h) | (with_reducible refine And.intro ?_ ?_; omega) | (simp only [Z0,Z1,Z2,Z3,Z4,Z5,Z6,Z7,Z8,Z9,Za,Zb,Zc,Zd,Ze,Zf,List.cons.injEq,Zg,Zh,Zi,Zj,Zk,Zl,Zm,Zn,Zo,Zp,beq_self_eq_true,bne_self_eq_false,decide_true,decide_false,Zq,Zr,Zs,Zt,Zu,Zv,Zw,Zx,Zy,Zz,Y0,Y1,Y2,Y3,Y4,Y5,Y6,Y7,Y8,Y9,Ya,Yb,Yc,Yd,Ye,Yf,Yg,Yh,Yi,Yj,Yk,Yl,Ym,Yn,Yo,Yp,Yq,lk,ef,Yr,Ys,Yt,Yu,Yv,Yw,Yx,Yy,Yz,X0,X1,X2,X3,X4,X5,X6,X7,X8,X9,Xa,Xb,Xc,Xd,Xe,Xf,Xg,Xh,Xi,Xj,Xk,Xl,Xm,Xn,Xo,Xp,Xq,Xr,Xs,hv,Xt,ev,Xu,Xv,Xw,Xx,Xy,Xz,W0,W1,W2,W3,W4,W5,W6,W7,W8,W9,Wa,Wb,Wc,Wd,We,Wf,Wg,Wh,Wi,Wj,Wk,Wl,Wm,Wn,Wo,Wp,Wq,Wr,Ws,Wt,Value.oneCell',Wu,Wv,Ww,Wx,true_and,and_true,and_self,implies_true,Wy,Wz,V0,V1,false_implies,V2,V3,V4,V5,V6,V7,V8,V9,Va,Vb,Vc,Vd,Ve,Vf,Vg,Vh,Vi,reduceCtorEq,if_true,if_false,Vj,↓reduceIte,Vk,Vl,Vm,Vn,Vo,Vp,Vq,ne_eq,not_false_eq_true,not_true_eq_false,Vr,Vs,r24_0,r24_1,r24_2,r24_3,r24_4,r24_5,r24_6,r24_7,r24_8,r24_9,r24_10,r24_11,r24_12,r24_13,r24_14,r24_15,r24_16,p24,l24_1,Z2,donet_eq']) | (exfalso; omega)
      all_goals first | rfl | trace_state
/-! slices.SortStableFunc[[]int,int] -/
def r15_0 : List POp := [⟨4, .mv (.t 0), none⟩,
  ⟨5, .mv (.t 0), none⟩,
  ⟨6, .len (.t 5), none⟩,
  ⟨7, .mv (.t 1), none⟩,
  ⟨8, .callm 24 [.t 4, .t 6, .t 7], none⟩]
def p15 : PCode := .ops r15_0
theorem ok15 : okFunc1 Try.prog 15 [] 2 p15 = true := by kernel_rfl
theorem sortstable_c (p : List Int) (hp : KBnd p) (X : List Int) (hX : InK p X) (hinc : X.Pairwise (· < ·)) (hl : X.length ≤ 5000) :
    TurnOK Try.prog 15 (.own 3 1 (X.map oneI)) (.own 3 1 ((srt (fK p) X).map oneI)) [.fnv 16 [.roAt [.ro (p.map oneI)] 0]] (.tup []) := by
  refine turn_of mixed ok15 rfl (.tup _ (by simp)) rfl ?_
  have hc := stable_c p hp X hX hinc hl
  have hsl := srt_len (fK p) X
  repeat' first | ((with_reducible (first | refine condD ?_ ?_ | refine condE ?_ ?_ | refine condN ?_ ?_ | refine condI ?_ ?_ | refine condS ?_ ?_)) <;> intro h) | ((with_reducible (first | refine guardD (by with_unfolding_all rfl) ?_ ?_ | refine guardE (by with_unfolding_all rfl) ?_ ?_ | refine guardN (by with_unfolding_all rfl) ?_ ?_ | refine guardI (by with_unfolding_all rfl) ?_ ?_ | refine guardS (by with_unfolding_all rfl) ?_ ?_)) <;> intro h) | ((refine turnG (by with_unfolding_all rfl) (by simp only [List.length_map, hsl]) hc ?_)) | (with_reducible refine And.intro ?_ ?_; omega) | (simp only [Z0,Z1,Z2,Z3,Z4,Z5,Z6,Z7,Z8,Z9,Za,Zb,Zc,Zd,Ze,Zf,List.cons.injEq,Zg,Zh,Zi,Zj,Zk,Zl,Zm,Zn,Zo,Zp,beq_self_eq_true,bne_self_eq_false,decide_true,decide_false,Zq,Zr,Zs,Zt,Zu,Zv,Zw,Zx,Zy,Zz,Y0,Y1,Y2,Y3,Y4,Y5,Y6,Y7,Y8,Y9,Ya,Yb,Yc,Yd,Ye,Yf,Yg,Yh,Yi,Yj,Yk,Yl,Ym,Yn,Yo,Yp,Yq,lk,ef,Yr,Ys,Yt,Yu,Yv,Yw,Yx,Yy,Yz,X0,X1,X2,X3,X4,X5,X6,X7,X8,X9,Xa,Xb,Xc,Xd,Xe,Xf,Xg,Xh,Xi,Xj,Xk,Xl,Xm,Xn,Xo,Xp,Xq,Xr,Xs,hv,Xt,ev,Xu,Xv,Xw,Xx,Xy,Xz,W0,W1,W2,W3,W4,W5,W6,W7,W8,W9,Wa,Wb,Wc,Wd,We,Wf,Wg,Wh,Wi,Wj,Wk,Wl,Wm,Wn,Wo,Wp,Wq,Wr,Ws,Wt,Value.oneCell',Wu,Wv,Ww,Wx,true_and,and_true,and_self,implies_true,Wy,Wz,V0,V1,false_implies,V2,V3,V4,V5,V6,V7,V8,V9,Va,Vb,Vc,Vd,Ve,Vf,Vg,Vh,Vi,reduceCtorEq,if_true,if_false,Vj,↓reduceIte,Vk,Vl,Vm,Vn,Vo,Vp,Vq,ne_eq,not_false_eq_true,not_true_eq_false,Vr,Vs,r15_0,p15,Z2,Z3,List.length_map]) | (exfalso; omega)
  all_goals first | rfl | trace_state
end Go.Proofs.Ytbdcnooafacldaa
