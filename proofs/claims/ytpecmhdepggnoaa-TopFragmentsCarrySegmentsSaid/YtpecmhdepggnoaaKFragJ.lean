/- Fragments: what is written and what is read, in plain numbers. -/
import Derived.Test.YtpecmhdepggnoaaKIdxP
import Derived.Test.YtpecmhdepggnoaaKSmpQ
namespace Go.Proofs.Ytpecmhdepggnoaa
open Go.RowKit
set_option linter.unusedSimpArgs false

def smpZ : Smp := ⟨0, 0, 0, 0, false⟩
def hdSmp (l : List Smp) : Smp := l.headD smpZ
/-! ### Marks -/
def mkSt (l : List Smp) : Bool := l.all fun s => s.step == (hdSmp l).step
def mkSh (l : List Smp) : Bool := l.all fun s => s.shift == 0
def mkSz (l : List Smp) : Bool := l.all fun s => s.size == (hdSmp l).size
def keysOK : Bool → List Smp → Bool
  | _, [] => true
  | first, s :: r => (s.key == first) && keysOK false r
def mkFs (l : List Smp) : Bool := decide (0 < l.length) && keysOK true l
def mark4 (a b c d : Bool) : Nat := (if a then 1 else 0) + (if b then 2 else 0) + (if c then 4 else 0) + (if d then 8 else 0)
def marksN (l : List Smp) : Nat := mark4 (mkSt l) (mkSh l) (mkSz l) (mkFs l)
theorem mark4_lt (a b c d : Bool) : mark4 a b c d ≤ 15 := by cases a <;> cases b <;> cases c <;> cases d <;> decide
/-! ### Written -/
def stB (s : Smp) : List Nat := beB (u64 s.step) 4
def shB (s : Smp) : List Nat := beB (u64 s.shift) 4
def szB (s : Smp) : List Nat := beB (u64 s.size) 4
def kyB (s : Smp) : List Nat := [if s.key then 1 else 0]
def stepsB (l : List Smp) : List Nat := (if mkSt l then l.take 1 else l).flatMap stB
def shiftsB (l : List Smp) : List Nat := (if mkSh l then [] else l).flatMap shB
def sizesB (l : List Smp) : List Nat := (if mkSz l then l.take 1 else l).flatMap szB
def keysB (l : List Smp) : List Nat := (if mkFs l then [] else l).flatMap kyB
def headB (n : Int) (l : List Smp) : List Nat := beB (u64 n) 4 ++ beB (u64 (hdSmp l).time) 8 ++ beB (u64 l.length) 2 ++ [marksN l]
def fragB (n : Int) (l : List Smp) : List Nat := headB n l ++ stepsB l ++ shiftsB l ++ sizesB l ++ keysB l
def frgF (n : Int) (l : List Smp) : List Nat × Int := if outB n 0 4294967295 then ([], 1) else if smpF l ≠ 0 then ([], smpF l) else (fragB n l, 0)
theorem headB_len (n : Int) (l : List Smp) : (headB n l).length = 15 := by simp [headB, beB_len]
theorem flat4_len {f : Smp → List Nat} (h : ∀ s, (f s).length = 4) : ∀ l : List Smp, (l.flatMap f).length = 4 * l.length
  | [] => rfl
  | s :: r => by rw [List.flatMap_cons, List.length_append, h, flat4_len h r, List.length_cons]; omega
theorem stB_len (s : Smp) : (stB s).length = 4 := beB_len _ _
theorem shB_len (s : Smp) : (shB s).length = 4 := beB_len _ _
theorem szB_len (s : Smp) : (szB s).length = 4 := beB_len _ _
theorem keysB_len : ∀ l : List Smp, (l.flatMap kyB).length = l.length
  | [] => rfl
  | s :: r => by rw [List.flatMap_cons, List.length_append, keysB_len r, List.length_cons]; simp [kyB]; omega
theorem fragB_lt (n : Int) (l : List Smp) : ∀ x ∈ fragB n l, x < 256 := by
  intro x hx
  have hm := mark4_lt (mkSt l) (mkSh l) (mkSz l) (mkFs l)
  simp only [fragB, headB, stepsB, shiftsB, sizesB, keysB, List.mem_append, List.mem_flatMap, List.mem_singleton, stB, shB, szB, kyB] at hx
  rcases hx with (((((((h | h) | h) | h) | ⟨s, _, h⟩) | ⟨s, _, h⟩) | ⟨s, _, h⟩) | ⟨s, _, h⟩)
  · exact beB_lt _ _ _ h
  · exact beB_lt _ _ _ h
  · exact beB_lt _ _ _ h
  · rw [h]; unfold marksN; omega
  · exact beB_lt _ _ _ h
  · exact beB_lt _ _ _ h
  · exact beB_lt _ _ _ h
  · rw [h]; split <;> decide
/-! ### Bytes of a number come back -/
theorem beV_small {n : Int} {k : Nat} (h0 : 0 ≤ n) (h : n < (256 ^ k : Nat)) (hk : n ≤ 9223372036854775807) : ((beV (beB (u64 n) k) 0 : Nat) : Int) = n := by
  rw [beV_beB, Nat.zero_mul, Nat.zero_add, u64_pos h0 hk, Nat.mod_eq_of_lt (by omega)]
  omega
/-- A number of eight bytes, as a number with a sign. -/
theorem beV_eight {n : Int} (h0 : -9223372036854775808 ≤ n) (h1 : n ≤ 9223372036854775807) : s64 (beV (beB (u64 n) 8) 0) = n := by
  have e : (256 : Nat) ^ 8 = 18446744073709551616 := by decide
  have := u64_lt n
  rw [beV_beB, Nat.zero_mul, Nat.zero_add, e, Nat.mod_eq_of_lt this, s64_u64 h0 h1]
/-- A number of four bytes, as a number with a sign of 32 bits. -/
def s32 (n : Nat) : Int := if 2147483648 ≤ n then (n : Int) - 4294967296 else n
theorem beV_four {n : Int} (h0 : -1000000000 ≤ n) (h1 : n ≤ 1000000000) : s32 (beV (beB (u64 n) 4) 0) = n := by
  have e : (256 : Nat) ^ 4 = 4294967296 := by decide
  rw [beV_beB, Nat.zero_mul, Nat.zero_add, e]
  unfold s32 u64
  split <;> omega
/-! ### Joined -/
theorem mkFs_key {l : List Smp} (h : mkFs l = true) : ∀ i (hi : i < l.length), l[i].key = decide (i = 0) := by
  simp only [mkFs, Bool.and_eq_true] at h
  have hf : ∀ (m : List Smp), keysOK false m = true → ∀ i (hi : i < m.length), m[i].key = false := by
    intro m
    induction m with
    | nil => intro _ i hi; simp at hi
    | cons s r ih =>
      intro h i hi
      simp only [keysOK, Bool.and_eq_true, beq_iff_eq] at h
      cases i with
      | zero => exact h.1
      | succ i => exact ih h.2 i (by simpa using hi)
  intro i hi
  cases l with
  | nil => simp at hi
  | cons s r =>
    have h2 := h.2
    simp only [keysOK, Bool.and_eq_true, beq_iff_eq] at h2
    cases i with
    | zero => simpa using h2.1
    | succ i => simpa using hf r h2.2 i (by simpa using hi)
theorem mkSt_step {l : List Smp} (h : mkSt l = true) : ∀ i (hi : i < l.length), l[i].step = (hdSmp l).step := fun i hi => by
  simp only [mkSt, List.all_eq_true, beq_iff_eq] at h
  exact h _ (List.getElem_mem hi)
theorem mkSh_shift {l : List Smp} (h : mkSh l = true) : ∀ i (hi : i < l.length), l[i].shift = 0 := fun i hi => by
  simp only [mkSh, List.all_eq_true, beq_iff_eq] at h
  exact h _ (List.getElem_mem hi)
theorem mkSz_size {l : List Smp} (h : mkSz l = true) : ∀ i (hi : i < l.length), l[i].size = (hdSmp l).size := fun i hi => by
  simp only [mkSz, List.all_eq_true, beq_iff_eq] at h
  exact h _ (List.getElem_mem hi)
end Go.Proofs.Ytpecmhdepggnoaa
/- Fragments: box.Joined of fragments that follow one another, by the machine on data. -/
namespace Go.Proofs.Ytpecmhdepggnoaa
open Go.RowKit
open Go.Proofs.Ytpecmhdepggnoaa renaming done_eq → Z0, done_eq' → Z1, donet_eq → Z2, donet_eq' → Z3, fin_val → Z4, fin_tup → Z5, fin_agg → Z6, fin_ro → Z7, res_one → Z8, res_more → Z9, rv_t → Za, rv_c → Zb, rv_l → Zc, int_eq → Zg, bool_eq → Zh, toNat_pred → Zr, toNat_succ → Zs, cnd_t → Zu, cnd_f → Zv, grd_tt → Zw, grd_u → Zx, grd_tf → Zy, grd_ft → Zz, grd_ff → Y0, g_skip → Y1, g_ops → Y2, g_seq → Y3, g_block → Y4, g_exit → Y5, g_ret → Y6, g_nil → Y7, r_all → Y8, o_nil → Y9, g_cond → Ya, o_guard → Yb, o_call → Yc, o_callm → Yd, o_callt → Ye, o_callx → Yf, o_callv → Yg, o_mv → Yh, o_pick → Yi, o_bin → Yj, o_never → Yk, o_eqs → Yl, o_eqb → Ym, o_un → Yn, o_conv → Yo, o_load → Yp, o_loadr → Yq, o_idxr → Yr, o_loads → Ys, o_fld → Yt, o_idx → Yu, o_idxs → Yv, o_len → Yw, o_lens → Yx, o_ext → Yy, o_nilck → Yz, o_slc → X0, o_slcs → X1, o_build → X2, o_minmax → X3, o_mkfn → X4, o_alloc → X5, o_box → X6, o_boxs → X7, o_row → X8, o_rowr → X9, o_mk → Xa, o_asg → Xb, o_app → Xc, o_store → Xd, o_stores → Xe, o_eqnil → Xf, eqAV → Xg, view_t → Xh, view_c → Xi, view_nil → Xj, view_fn → Xk, look_own → Xl, look_box → Xm, look_junk → Xn, look_val → Xo, look_nilsl → Xp, look_ro → Xq, look_roAt → Xr, look_agg → Xs, look_tup → Xt, look_clo → Xu, look_alias → Xv, look_ref → Xw, look_into → Xx, rowOf → Xy, cellsOf → Xz, argv → W0, vbin → W1, elemOf → W2, putParts → W3, setAt → W4, put_at → Wb, mk_at → Wc, mk_nil → Wd, initSt → We, wk_cons → V9, vint_eq → Va, vbool_eq → Vb
open Go.Proofs.Ytpecmhdepggnoaa.AV.tup renaming injEq → Zd
open Go.Proofs.Ytpecmhdepggnoaa.AV.agg renaming injEq → Ze
open Go.Proofs.Ytpecmhdepggnoaa.AV.ro renaming injEq → Zf
open _root_.Int renaming toNat_natCast → Zi, reduceToNat → Zj, toNat_zero → Zk, toNat_one → Zl, reduceLE → Zm, reduceLT → Zn, reduceBEq → Zo, reduceBNe → Zp, reduceNeg → Zq
open _root_.List renaming length_map → Zt, map_cons → Wf, map_nil → Wg, forall_mem_cons → Wh, not_mem_nil → Wi, length_cons → Wj, length_nil → Wk, getD_cons_zero → Wl, getD_cons_succ → Wm, getD_nil → Wn, drop_succ_cons → Wo, drop_zero → Wp, take_succ_cons → Wq, take_zero → Wr, set_cons_zero → Ws, set_cons_succ → Wt, all_cons → Wu, all_nil → Wv
open Go.Proofs.Ytpecmhdepggnoaa.ASt renaming rid → W5, free → W6
open Go.Proofs.Ytpecmhdepggnoaa.AV renaming kill → W7, isHome → W8, noLoan → W9, cellOK → Wa
open _root_.Bool renaming and_true → Ww, true_and → Wx, not_true → Wy, not_false → Wz, false_eq_true → V0
open _root_.Nat renaming reduceEqDiff → V1, reduceAdd → V2, reduceSub → V3, reduceMul → V4, reduceLeDiff → V5, reduceLT → V6, one_ne_zero → V7, zero_ne_one → V8
open Go.Proofs.Ytpecmhdepggnoaa.AV.val renaming injEq → Vc
set_option linter.unusedSimpArgs false
--@short

def frAV (f : Int × List Smp) : List AV := [.val (.int .i64 f.1), .ro (f.2.map Smp.av)]
def catS (fs : List (Int × List Smp)) : List Smp := fs.flatMap Prod.snd
theorem catS_take {fs : List (Int × List Smp)} {k : Nat} (h : k < fs.length) : catS (fs.take (k + 1)) = catS (fs.take k) ++ fs[k].2 := by
  unfold catS
  rw [List.take_succ_eq_append_getElem h, List.flatMap_append]
  simp
theorem catS_le (fs : List (Int × List Smp)) (k : Nat) : (catS (fs.take k)).length ≤ (catS fs).length := by
  have : catS fs = catS (fs.take k) ++ catS (fs.drop k) := by
    unfold catS
    rw [← List.flatMap_append, List.take_append_drop]
  rw [this, List.length_append]
  omega
theorem smps_len5 (l : List Smp) : (∀ x ∈ l.map Smp.av, x.length = 5) = True := by
  refine eq_true fun x hx => ?_
  obtain ⟨n, _, rfl⟩ := List.mem_map.1 hx
  rfl
theorem map_av (A B : List Smp) : A.map Smp.av ++ B.map Smp.av = (A ++ B).map Smp.av := by rw [List.map_append]
/-! headend/box.Joined -/
def r24_0 : List POp := [⟨2, .asg .nil, none⟩,
  ⟨3, .asg (.c (.int .i64 0)), none⟩]
def r24_1 : List POp := [⟨9, .mv (.t 0), none⟩,
  ⟨10, .len (.t 9), none⟩,
  ⟨11, .bin .gtr (.t 10) (.c (.int .i64 5000)), none⟩]
def r24_2 : List POp := [⟨2, .asg .nil, none⟩,
  ⟨3, .asg (.c (.int .i64 2)), none⟩]
def r24_3 : List POp := [⟨4, .asg .nil, none⟩]
def r24_4 : List POp := [⟨12, .mv (.t 0), none⟩,
  ⟨13, .len (.t 12), none⟩,
  ⟨14, .mv (.c (.int .i64 0)), none⟩]
def r24_5 : List POp := [⟨15, .bin .lss (.t 14) (.t 13), none⟩]
def r24_6 : List POp := [⟨16, .mv (.t 14), none⟩,
  ⟨17, .idx 2 (.t 12) (.t 14), none⟩,
  ⟨18, .loads 2 (.t 17), none⟩,
  ⟨6, .alloc [.int .i64 0, .slice none 0 0], none⟩,
  ⟨5, .asg (.t 16), none⟩,
  ⟨0, .stores 2 (.t 6) (.t 18), none⟩]
def r24_7 : List POp := [⟨19, .fld 0 (.t 6), none⟩,
  ⟨20, .load (.t 19), none⟩,
  ⟨21, .call 32 [.t 20, .c (.int .i64 0), .c (.int .i64 4294967295)], none⟩]
def r24_8 : List POp := [⟨2, .asg .nil, none⟩,
  ⟨3, .asg (.c (.int .i64 1)), none⟩]
def r24_9 : List POp := [⟨22, .fld 1 (.t 6), none⟩,
  ⟨23, .load (.t 22), none⟩,
  ⟨24, .call 40 [.t 23], none⟩,
  ⟨7, .asg (.t 24), none⟩]
def r24_10 : List POp := [⟨25, .mv (.t 7), none⟩,
  ⟨26, .bin .neq (.t 25) (.c (.int .i64 0)), none⟩]
def r24_11 : List POp := [⟨27, .mv (.t 7), none⟩,
  ⟨2, .asg .nil, none⟩,
  ⟨3, .mv (.t 27), none⟩]
def r24_12 : List POp := [⟨28, .mv (.t 5), none⟩,
  ⟨29, .bin .gtr (.t 28) (.c (.int .i64 0)), none⟩,
  ⟨30, .mv (.t 29), none⟩,
  ⟨31, .fld 0 (.t 6), some (30, true)⟩,
  ⟨32, .load (.t 31), some (30, true)⟩,
  ⟨33, .mv (.t 0), some (30, true)⟩,
  ⟨34, .mv (.t 5), some (30, true)⟩,
  ⟨35, .bin .sub (.t 34) (.c (.int .i64 1)), some (30, true)⟩,
  ⟨36, .idx 2 (.t 33) (.t 35), some (30, true)⟩,
  ⟨37, .fld 0 (.t 36), some (30, true)⟩,
  ⟨38, .load (.t 37), some (30, true)⟩,
  ⟨39, .bin .add (.t 38) (.c (.int .i64 1)), some (30, true)⟩,
  ⟨40, .bin .neq (.t 32) (.t 39), some (30, true)⟩,
  ⟨41, .pick (.t 30) (.t 40) (.c (.bool false)), none⟩]
def r24_13 : List POp := [⟨2, .asg .nil, none⟩,
  ⟨3, .asg (.c (.int .i64 8)), none⟩]
def r24_14 : List POp := [⟨42, .mv (.t 4), none⟩,
  ⟨43, .len (.t 42), none⟩,
  ⟨44, .bin .leq (.t 43) (.c (.int .i64 5000)), none⟩]
def r24_15 : List POp := [⟨45, .mv (.t 4), none⟩,
  ⟨46, .fld 1 (.t 6), none⟩,
  ⟨47, .load (.t 46), none⟩,
  ⟨48, .app 69 5 40 (.t 45) (.t 47), none⟩,
  ⟨4, .asg (.t 48), none⟩]
def r24_16 : List POp := [⟨49, .bin .add (.t 14) (.c (.int .i64 1)), none⟩,
  ⟨14, .mv (.t 49), none⟩]
def r24_17 : List POp := [⟨50, .mv (.t 4), none⟩,
  ⟨51, .call 40 [.t 50], none⟩,
  ⟨8, .asg (.t 51), none⟩]
def r24_18 : List POp := [⟨52, .mv (.t 8), none⟩,
  ⟨53, .bin .neq (.t 52) (.c (.int .i64 0)), none⟩]
def r24_19 : List POp := [⟨54, .mv (.t 8), none⟩,
  ⟨2, .asg .nil, none⟩,
  ⟨3, .mv (.t 54), none⟩]
def r24_20 : List POp := [⟨55, .mv (.t 4), none⟩,
  ⟨2, .asg (.t 55), none⟩,
  ⟨3, .asg (.c (.int .i64 0)), none⟩]
def l24_0 : PCode := .seq (.ops r24_5) (.seq (.cond (.t 15) (.skip) (.exit 0)) (.seq (.block 1 (.seq (.ops r24_6) (.seq (.seq (.ops r24_7) (.cond (.t 21) (.seq (.ops r24_8) (.ret)) (.skip))) (.seq (.seq (.ops r24_9) (.seq (.ops r24_10) (.cond (.t 26) (.seq (.ops r24_11) (.ret)) (.skip)))) (.seq (.seq (.ops r24_12) (.cond (.t 41) (.seq (.ops r24_13) (.ret)) (.skip))) (.seq (.ops r24_14) (.cond (.t 44) (.ops r24_15) (.skip)))))))) (.ops r24_16)))
def p24 : PCode := .seq (.ops r24_0) (.seq (.seq (.ops r24_1) (.cond (.t 11) (.seq (.ops r24_2) (.ret)) (.skip))) (.seq (.ops r24_3) (.seq (.seq (.ops r24_4) (.block 0 (.loop l24_0))) (.seq (.seq (.ops r24_17) (.seq (.ops r24_18) (.cond (.t 53) (.seq (.ops r24_19) (.ret)) (.skip)))) (.seq (.ops r24_20) (.ret))))))
theorem ok24 : okFunc Try.prog 24 [.t 2, .t 3] 1 p24 = true := by kernel_rfl
set_option maxHeartbeats 2000000 in
theorem join_c (fs : List (Int × List Smp)) (hlen : fs.length ≤ 5000) (h1 : ∀ f ∈ fs, outB f.1 0 4294967295 = false ∧ smpF f.2 = 0) (h2 : ∀ i (h : i + 1 < fs.length), fs[i + 1].1 = fs[i].1 + 1) (h3 : smpF (catS fs) = 0) :
    CallOK Try.prog 24 [.ro (fs.map frAV)] (.tup [.ro ((catS fs).map Smp.av), .val (.int .i64 0)]) := by
  refine call_of mixed ok24 rfl ?_
  have hl := (smpF_0 h3).1
  have hli : ¬ (5000 : Int) < fs.length := by omega
  have hS := smp_c (catS fs)
  rw [h3] at hS
  repeat' first | ((with_reducible (first | refine condD ?_ ?_ | refine condE ?_ ?_ | refine condN ?_ ?_ | refine condI ?_ ?_ | refine condS ?_ ?_)) <;> intro h) | ((with_reducible (first | refine guardD (by with_unfolding_all rfl) ?_ ?_ | refine guardE (by with_unfolding_all rfl) ?_ ?_ | refine guardN (by with_unfolding_all rfl) ?_ ?_ | refine guardI (by with_unfolding_all rfl) ?_ ?_ | refine guardS (by with_unfolding_all rfl) ?_ ?_)) <;> intro h) | (with_reducible refine And.intro ?_ ?_; omega) | (simp only [Z0,Z1,Z2,Z3,Z4,Z5,Z6,Z7,Z8,Z9,Za,Zb,Zc,Zd,Ze,Zf,List.cons.injEq,Zg,Zh,Zi,Zj,Zk,Zl,Zm,Zn,Zo,Zp,beq_self_eq_true,bne_self_eq_false,decide_true,decide_false,Zq,Zr,Zs,Zt,Zu,Zv,Zw,Zx,Zy,Zz,Y0,Y1,Y2,Y3,Y4,Y5,Y6,x_c,x_o,x_l,x_b,g_b,Y7,Y8,Y9,Ya,Yb,Yc,Yd,Ye,Yf,Yg,lk,ef,Yh,Yi,Yj,Yk,Yl,Ym,Yn,Yo,Yp,Yq,Yr,Ys,Yt,Yu,Yv,Yw,Yx,Yy,Yz,X0,X1,X2,X3,X4,X5,X6,X7,X8,X9,Xa,Xb,Xc,Xd,Xe,Xf,hv,Xg,ev,Xh,Xi,Xj,Xk,Xl,Xm,Xn,Xo,Xp,Xq,Xr,Xs,Xt,Xu,Xv,Xw,Xx,Xy,Xz,W0,W1,vun,bnd,W2,W3,W4,zav,W5,W6,W7,W8,W9,Wa,Value.oneCell',Wb,Wc,Wd,We,true_and,and_true,and_self,implies_true,Wf,Wg,Wh,Wi,false_implies,Wj,Wk,Wl,Wm,Wn,Wo,Wp,Wq,Wr,Ws,Wt,Wu,Wv,Ww,Wx,Wy,Wz,reduceCtorEq,if_true,if_false,V0,↓reduceIte,V1,V2,V3,V4,V5,V6,ne_eq,not_false_eq_true,not_true_eq_false,V7,V8,r24_0,r24_1,r24_2,r24_3,r24_4,r24_5,r24_6,r24_7,r24_8,r24_9,r24_10,r24_11,r24_12,r24_13,r24_14,r24_15,r24_16,r24_17,r24_18,r24_19,r24_20,p24,hli,List.length_map]) | (exfalso; omega)
  refine loopS (fun k : Nat => mk [(0, .ro (fs.map frAV)), (4, .own 69 5 ((catS (fs.take k)).map Smp.av)), (12, .ro (fs.map frAV)), (13, .val (.int .i64 fs.length)), (14, .val (.int .i64 k))]) (fun k => k ≤ fs.length) (fun k => fs.length - k) 0 (weak_mk ?_) (Nat.zero_le _) ?_
  · simp only [V9,wk_nil,wk1,Va,Vb,Vc,Z0,Z1,Z2,Z3,Z4,Z5,Z6,Z7,Z8,Z9,Za,Zb,Zc,Zd,Ze,Zf,List.cons.injEq,Zg,Zh,Zi,Zj,Zk,Zl,Zm,Zn,Zo,Zp,beq_self_eq_true,bne_self_eq_false,decide_true,decide_false,Zq,Zr,Zs,Zt,Zu,Zv,Zw,Zx,Zy,Zz,Y0,Y1,Y2,Y3,Y4,Y5,Y6,x_c,x_o,x_l,x_b,g_b,Y7,Y8,Y9,Ya,Yb,Yc,Yd,Ye,Yf,Yg,lk,ef,Yh,Yi,Yj,Yk,Yl,Ym,Yn,Yo,Yp,Yq,Yr,Ys,Yt,Yu,Yv,Yw,Yx,Yy,Yz,X0,X1,X2,X3,X4,X5,X6,X7,X8,X9,Xa,Xb,Xc,Xd,Xe,Xf,hv,Xg,ev,Xh,Xi,Xj,Xk,Xl,Xm,Xn,Xo,Xp,Xq,Xr,Xs,Xt,Xu,Xv,Xw,Xx,Xy,Xz,W0,W1,vun,bnd,W2,W3,W4,zav,W5,W6,W7,W8,W9,Wa,Value.oneCell',Wb,Wc,Wd,We,true_and,and_true,and_self,implies_true,Wf,Wg,Wh,Wi,false_implies,Wj,Wk,Wl,Wm,Wn,Wo,Wp,Wq,Wr,Ws,Wt,Wu,Wv,Ww,Wx,Wy,Wz,reduceCtorEq,if_true,if_false,V0,↓reduceIte,V1,V2,V3,V4,V5,V6,ne_eq,not_false_eq_true,not_true_eq_false,V7,Nat.zero_ne_one]
    all_goals first | done | rfl | simp [catS]
  rintro J hJ k hk
  simp only [Z0,Z1,Z2,Z3,Z4,Z5,Z6,Z7,Z8,Z9,Za,Zb,Zc,Zd,Ze,Zf,List.cons.injEq,Zg,Zh,Zi,Zj,Zk,Zl,Zm,Zn,Zo,Zp,beq_self_eq_true,bne_self_eq_false,decide_true,decide_false,Zq,Zr,Zs,Zt,Zu,Zv,Zw,Zx,Zy,Zz,Y0,Y1,Y2,Y3,Y4,Y5,Y6,x_c,x_o,x_l,x_b,g_b,Y7,Y8,Y9,Ya,Yb,Yc,Yd,Ye,Yf,Yg,lk,ef,Yh,Yi,Yj,Yk,Yl,Ym,Yn,Yo,Yp,Yq,Yr,Ys,Yt,Yu,Yv,Yw,Yx,Yy,Yz,X0,X1,X2,X3,X4,X5,X6,X7,X8,X9,Xa,Xb,Xc,Xd,Xe,Xf,hv,Xg,ev,Xh,Xi,Xj,Xk,Xl,Xm,Xn,Xo,Xp,Xq,Xr,Xs,Xt,Xu,Xv,Xw,Xx,Xy,Xz,W0,W1,vun,bnd,W2,W3,W4,zav,W5,W6,W7,W8,W9,Wa,Value.oneCell',Wb,Wc,Wd,We,true_and,and_true,and_self,implies_true,Wf,Wg,Wh,Wi,false_implies,Wj,Wk,Wl,Wm,Wn,Wo,Wp,Wq,Wr,Ws,Wt,Wu,Wv,Ww,Wx,Wy,Wz,reduceCtorEq,if_true,if_false,V0,↓reduceIte,V1,V2,V3,V4,V5,V6,ne_eq,not_false_eq_true,not_true_eq_false,V7,V8,r24_0,r24_1,r24_2,r24_3,r24_4,r24_5,r24_6,r24_7,r24_8,r24_9,r24_10,r24_11,r24_12,r24_13,r24_14,r24_15,r24_16,r24_17,r24_18,r24_19,r24_20,p24,l24_0]
  refine condD (fun h => ?_) (fun h => ?_)
  · have hlt : k < fs.length := by omega
    have hw := i_add1 k (by omega)
    have gK := getD_map (f := frAV) (d := []) hlt
    simp only [frAV] at gK
    obtain ⟨o1, o2⟩ := h1 _ (List.getElem_mem hlt)
    have ob := outB_f o1
    have hs := smp_c fs[k].2
    rw [o2] at hs
    have hki : (k : Int) < fs.length := by omega
    have hcl := catS_le fs k
    have hcl2 := catS_le fs (k + 1)
    have hcn := catS_take hlt
    rw [hcn, List.length_append] at hcl2
    have hout := out_c fs[k].1 0 4294967295
    rw [o1] at hout
    have h5 : ((catS (fs.take k)).length : Int) ≤ 5000 := by omega
    have hall := smps_len5 fs[k].2
    by_cases hk0 : k = 0
    · have hk0i : ¬ (0 : Int) < k := by omega
      repeat' first | ((with_reducible (first | refine condD ?_ ?_ | refine condE ?_ ?_ | refine condN ?_ ?_ | refine condI ?_ ?_ | refine condS ?_ ?_)) <;> intro h) | ((with_reducible (first | refine guardD (by with_unfolding_all rfl) ?_ ?_ | refine guardE (by with_unfolding_all rfl) ?_ ?_ | refine guardN (by with_unfolding_all rfl) ?_ ?_ | refine guardI (by with_unfolding_all rfl) ?_ ?_ | refine guardS (by with_unfolding_all rfl) ?_ ?_)) <;> intro h) | ((refine callG hout ?_)) | ((refine callG hs ?_)) | (with_reducible refine And.intro ?_ ?_; omega) | (simp only [Z0,Z1,Z2,Z3,Z4,Z5,Z6,Z7,Z8,Z9,Za,Zb,Zc,Zd,Ze,Zf,List.cons.injEq,Zg,Zh,Zi,Zj,Zk,Zl,Zm,Zn,Zo,Zp,beq_self_eq_true,bne_self_eq_false,decide_true,decide_false,Zq,Zr,Zs,Zt,Zu,Zv,Zw,Zx,Zy,Zz,Y0,Y1,Y2,Y3,Y4,Y5,Y6,x_c,x_o,x_l,x_b,g_b,Y7,Y8,Y9,Ya,Yb,Yc,Yd,Ye,Yf,Yg,lk,ef,Yh,Yi,Yj,Yk,Yl,Ym,Yn,Yo,Yp,Yq,Yr,Ys,Yt,Yu,Yv,Yw,Yx,Yy,Yz,X0,X1,X2,X3,X4,X5,X6,X7,X8,X9,Xa,Xb,Xc,Xd,Xe,Xf,hv,Xg,ev,Xh,Xi,Xj,Xk,Xl,Xm,Xn,Xo,Xp,Xq,Xr,Xs,Xt,Xu,Xv,Xw,Xx,Xy,Xz,W0,W1,vun,bnd,W2,W3,W4,zav,W5,W6,W7,W8,W9,Wa,Value.oneCell',Wb,Wc,Wd,We,true_and,and_true,and_self,implies_true,Wf,Wg,Wh,Wi,false_implies,Wj,Wk,Wl,Wm,Wn,Wo,Wp,Wq,Wr,Ws,Wt,Wu,Wv,Ww,Wx,Wy,Wz,reduceCtorEq,if_true,if_false,V0,↓reduceIte,V1,V2,V3,V4,V5,V6,ne_eq,not_false_eq_true,not_true_eq_false,V7,V8,r24_0,r24_1,r24_2,r24_3,r24_4,r24_5,r24_6,r24_7,r24_8,r24_9,r24_10,r24_11,r24_12,r24_13,r24_14,r24_15,r24_16,r24_17,r24_18,r24_19,r24_20,p24,l24_0,frAV,gK,hw,hki,hk0i,h5,hall,map_av,← hcn,List.length_map]) | (exfalso; omega)
      all_goals first | omega | exact again hJ (k + 1) (weak_mk (by simp only [V9,wk_nil,wk1,Va,Vb,Vc,Z0,Z1,Z2,Z3,Z4,Z5,Z6,Z7,Z8,Z9,Za,Zb,Zc,Zd,Ze,Zf,List.cons.injEq,Zg,Zh,Zi,Zj,Zk,Zl,Zm,Zn,Zo,Zp,beq_self_eq_true,bne_self_eq_false,decide_true,decide_false,Zq,Zr,Zs,Zt,Zu,Zv,Zw,Zx,Zy,Zz,Y0,Y1,Y2,Y3,Y4,Y5,Y6,x_c,x_o,x_l,x_b,g_b,Y7,Y8,Y9,Ya,Yb,Yc,Yd,Ye,Yf,Yg,lk,ef,Yh,Yi,Yj,Yk,Yl,Ym,Yn,Yo,Yp,Yq,Yr,Ys,Yt,Yu,Yv,Yw,Yx,Yy,Yz,X0,X1,X2,X3,X4,X5,X6,X7,X8,X9,Xa,Xb,Xc,Xd,Xe,Xf,hv,Xg,ev,Xh,Xi,Xj,Xk,Xl,Xm,Xn,Xo,Xp,Xq,Xr,Xs,Xt,Xu,Xv,Xw,Xx,Xy,Xz,W0,W1,vun,bnd,W2,W3,W4,zav,W5,W6,W7,W8,W9,Wa,Value.oneCell',Wb,Wc,Wd,We,true_and,and_true,and_self,implies_true,Wf,Wg,Wh,Wi,false_implies,Wj,Wk,Wl,Wm,Wn,Wo,Wp,Wq,Wr,Ws,Wt,Wu,Wv,Ww,Wx,Wy,Wz,reduceCtorEq,if_true,if_false,V0,↓reduceIte,V1,V2,V3,V4,V5,V6,ne_eq,not_false_eq_true,not_true_eq_false,V7,Nat.zero_ne_one]; all_goals first | done | rw [hcn])) (by omega) (by omega)
    · have hk0i : (0 : Int) < k := by omega
      obtain ⟨j, rfl⟩ : ∃ j, k = j + 1 := ⟨k - 1, by omega⟩
      have hlp : j < fs.length := by omega
      have gP := getD_map (f := frAV) (d := []) hlp
      simp only [frAV] at gP
      obtain ⟨p1, _⟩ := h1 _ (List.getElem_mem hlp)
      have pb := outB_f p1
      have hnum := h2 j hlt
      have wj : IntKind.i64.wrap (((j + 1 : Nat) : Int) - 1) = (j : Int) := by rw [wrap_in (by omega) (by omega)]; omega
      have wn : IntKind.i64.wrap (fs[j].1 + 1) = fs[j].1 + 1 := wrap_in (by omega) (by omega)
      have hne : (fs[j + 1].1 != fs[j].1 + 1) = false := by rw [hnum]; simp
      have hji : (j : Int) < fs.length := by omega
      have hj0 : (0 : Int) ≤ j := by omega
      repeat' first | ((with_reducible (first | refine condD ?_ ?_ | refine condE ?_ ?_ | refine condN ?_ ?_ | refine condI ?_ ?_ | refine condS ?_ ?_)) <;> intro h) | ((with_reducible (first | refine guardD (by with_unfolding_all rfl) ?_ ?_ | refine guardE (by with_unfolding_all rfl) ?_ ?_ | refine guardN (by with_unfolding_all rfl) ?_ ?_ | refine guardI (by with_unfolding_all rfl) ?_ ?_ | refine guardS (by with_unfolding_all rfl) ?_ ?_)) <;> intro h) | ((refine callG hout ?_)) | ((refine callG hs ?_)) | (with_reducible refine And.intro ?_ ?_; omega) | (simp only [Z0,Z1,Z2,Z3,Z4,Z5,Z6,Z7,Z8,Z9,Za,Zb,Zc,Zd,Ze,Zf,List.cons.injEq,Zg,Zh,Zi,Zj,Zk,Zl,Zm,Zn,Zo,Zp,beq_self_eq_true,bne_self_eq_false,decide_true,decide_false,Zq,Zr,Zs,Zt,Zu,Zv,Zw,Zx,Zy,Zz,Y0,Y1,Y2,Y3,Y4,Y5,Y6,x_c,x_o,x_l,x_b,g_b,Y7,Y8,Y9,Ya,Yb,Yc,Yd,Ye,Yf,Yg,lk,ef,Yh,Yi,Yj,Yk,Yl,Ym,Yn,Yo,Yp,Yq,Yr,Ys,Yt,Yu,Yv,Yw,Yx,Yy,Yz,X0,X1,X2,X3,X4,X5,X6,X7,X8,X9,Xa,Xb,Xc,Xd,Xe,Xf,hv,Xg,ev,Xh,Xi,Xj,Xk,Xl,Xm,Xn,Xo,Xp,Xq,Xr,Xs,Xt,Xu,Xv,Xw,Xx,Xy,Xz,W0,W1,vun,bnd,W2,W3,W4,zav,W5,W6,W7,W8,W9,Wa,Value.oneCell',Wb,Wc,Wd,We,true_and,and_true,and_self,implies_true,Wf,Wg,Wh,Wi,false_implies,Wj,Wk,Wl,Wm,Wn,Wo,Wp,Wq,Wr,Ws,Wt,Wu,Wv,Ww,Wx,Wy,Wz,reduceCtorEq,if_true,if_false,V0,↓reduceIte,V1,V2,V3,V4,V5,V6,ne_eq,not_false_eq_true,not_true_eq_false,V7,V8,r24_0,r24_1,r24_2,r24_3,r24_4,r24_5,r24_6,r24_7,r24_8,r24_9,r24_10,r24_11,r24_12,r24_13,r24_14,r24_15,r24_16,r24_17,r24_18,r24_19,r24_20,p24,l24_0,frAV,gK,gP,hw,hki,hk0i,h5,hall,wj,wn,hne,hji,hj0,map_av,← hcn,List.length_map]) | (exfalso; omega)
      all_goals first | omega | exact again hJ (j + 1 + 1) (weak_mk (by simp only [V9,wk_nil,wk1,Va,Vb,Vc,Z0,Z1,Z2,Z3,Z4,Z5,Z6,Z7,Z8,Z9,Za,Zb,Zc,Zd,Ze,Zf,List.cons.injEq,Zg,Zh,Zi,Zj,Zk,Zl,Zm,Zn,Zo,Zp,beq_self_eq_true,bne_self_eq_false,decide_true,decide_false,Zq,Zr,Zs,Zt,Zu,Zv,Zw,Zx,Zy,Zz,Y0,Y1,Y2,Y3,Y4,Y5,Y6,x_c,x_o,x_l,x_b,g_b,Y7,Y8,Y9,Ya,Yb,Yc,Yd,Ye,Yf,Yg,lk,ef,Yh,Yi,Yj,Yk,Yl,Ym,Yn,Yo,Yp,Yq,Yr,Ys,Yt,Yu,Yv,Yw,Yx,Yy,Yz,X0,X1,X2,X3,X4,X5,X6,X7,X8,X9,Xa,Xb,Xc,Xd,Xe,Xf,hv,Xg,ev,Xh,Xi,Xj,Xk,Xl,Xm,Xn,Xo,Xp,Xq,Xr,Xs,Xt,Xu,Xv,Xw,Xx,Xy,Xz,W0,W1,vun,bnd,W2,W3,W4,zav,W5,W6,W7,W8,W9,Wa,Value.oneCell',Wb,Wc,Wd,We,true_and,and_true,and_self,implies_true,Wf,Wg,Wh,Wi,false_implies,Wj,Wk,Wl,Wm,Wn,Wo,Wp,Wq,Wr,Ws,Wt,Wu,Wv,Ww,Wx,Wy,Wz,reduceCtorEq,if_true,if_false,V0,↓reduceIte,V1,V2,V3,V4,V5,V6,ne_eq,not_false_eq_true,not_true_eq_false,V7,Nat.zero_ne_one]; all_goals first | done | rw [hcn])) (by omega) (by omega)
  · have hke : k = fs.length := by omega
    subst hke
    rw [List.take_length]
    clear hJ
    repeat' first | ((with_reducible (first | refine condD ?_ ?_ | refine condE ?_ ?_ | refine condN ?_ ?_ | refine condI ?_ ?_ | refine condS ?_ ?_)) <;> intro h) | ((with_reducible (first | refine guardD (by with_unfolding_all rfl) ?_ ?_ | refine guardE (by with_unfolding_all rfl) ?_ ?_ | refine guardN (by with_unfolding_all rfl) ?_ ?_ | refine guardI (by with_unfolding_all rfl) ?_ ?_ | refine guardS (by with_unfolding_all rfl) ?_ ?_)) <;> intro h) | ((refine callG_flat hS (.val _) ?_)) | ((refine callG hS ?_)) | (with_reducible refine And.intro ?_ ?_; omega) | (simp only [Z0,Z1,Z2,Z3,Z4,Z5,Z6,Z7,Z8,Z9,Za,Zb,Zc,Zd,Ze,Zf,List.cons.injEq,Zg,Zh,Zi,Zj,Zk,Zl,Zm,Zn,Zo,Zp,beq_self_eq_true,bne_self_eq_false,decide_true,decide_false,Zq,Zr,Zs,Zt,Zu,Zv,Zw,Zx,Zy,Zz,Y0,Y1,Y2,Y3,Y4,Y5,Y6,x_c,x_o,x_l,x_b,g_b,Y7,Y8,Y9,Ya,Yb,Yc,Yd,Ye,Yf,Yg,lk,ef,Yh,Yi,Yj,Yk,Yl,Ym,Yn,Yo,Yp,Yq,Yr,Ys,Yt,Yu,Yv,Yw,Yx,Yy,Yz,X0,X1,X2,X3,X4,X5,X6,X7,X8,X9,Xa,Xb,Xc,Xd,Xe,Xf,hv,Xg,ev,Xh,Xi,Xj,Xk,Xl,Xm,Xn,Xo,Xp,Xq,Xr,Xs,Xt,Xu,Xv,Xw,Xx,Xy,Xz,W0,W1,vun,bnd,W2,W3,W4,zav,W5,W6,W7,W8,W9,Wa,Value.oneCell',Wb,Wc,Wd,We,true_and,and_true,and_self,implies_true,Wf,Wg,Wh,Wi,false_implies,Wj,Wk,Wl,Wm,Wn,Wo,Wp,Wq,Wr,Ws,Wt,Wu,Wv,Ww,Wx,Wy,Wz,reduceCtorEq,if_true,if_false,V0,↓reduceIte,V1,V2,V3,V4,V5,V6,ne_eq,not_false_eq_true,not_true_eq_false,V7,V8,r24_0,r24_1,r24_2,r24_3,r24_4,r24_5,r24_6,r24_7,r24_8,r24_9,r24_10,r24_11,r24_12,r24_13,r24_14,r24_15,r24_16,r24_17,r24_18,r24_19,r24_20,p24,l24_0]) | (exfalso; omega)
end Go.Proofs.Ytpecmhdepggnoaa
