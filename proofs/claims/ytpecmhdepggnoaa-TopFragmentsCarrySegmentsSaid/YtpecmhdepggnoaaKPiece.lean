/- Segments: cut.boundary, cut.rowFault, by the machine on data. -/
import Derived.Test.YtpecmhdepggnoaaKDo
import Derived.Test.YtpecmhdepggnoaaDmP
namespace Go.Proofs.Ytpecmhdepggnoaa
open Go.RowKit
set_option linter.unusedSimpArgs false

structure Seg where
  number : Int
  frm : Int
  to : Int
  beg : Int
  len : Int
  bytes : Int
  lead : Int
def Seg.av (s : Seg) : List AV := [.val (.int .i64 s.number), .val (.int .i64 s.frm), .val (.int .i64 s.to), .val (.int .i64 s.beg), .val (.int .i64 s.len), .val (.int .i64 s.bytes), .val (.int .i64 s.lead)]
def Seg.bnd (s : Seg) : Int := s.beg + s.lead
def Seg.bw (s : Seg) : Int := IntKind.i64.wrap s.bnd


def badSeg (s : Seg) : Bool := noTime s.beg || noTime s.lead || noTime s.len || noTime (IntKind.i64.wrap (s.bw + s.len))
def rowGo : Option Int → List Seg → Int
  | _, [] => 0
  | p, s :: r => if badSeg s then 1 else if (p.any fun q => decide (s.bw < q)) || decide (s.len < 0) then 8 else rowGo (some s.bw) r
def row (l : List Seg) : Int := if 1000 < l.length then 2 else rowGo none l
theorem row_len {l : List Seg} (h : row l = 0) : l.length ≤ 1000 := by
  unfold row at h; split at h
  · omega
  · omega
def prvB (l : List Seg) (k : Nat) : Option Int := if k = 0 then none else l[k-1]?.map Seg.bw
theorem prvB_succ (l : List Seg) (k : Nat) (h : k < l.length) : prvB l (k + 1) = some l[k].bw := by simp [prvB, h]

end Go.Proofs.Ytpecmhdepggnoaa
/- Samples and renditions: kit.letter, IsDigit, IsName, box.CheckSamples, cut.strandFault, by the machine on data. -/
namespace Go.Proofs.Ytpecmhdepggnoaa
open Go.RowKit
open Go.Proofs.Ytpecmhdepggnoaa renaming done_eq → Z0, done_eq' → Z1, donet_eq → Z2, donet_eq' → Z3, fin_val → Z4, fin_tup → Z5, fin_agg → Z6, fin_ro → Z7, res_one → Z8, res_more → Z9, rv_t → Za, rv_c → Zb, rv_l → Zc, int_eq → Zg, bool_eq → Zh, toNat_pred → Zr, toNat_succ → Zs, cnd_t → Zu, cnd_f → Zv, grd_tt → Zw, grd_u → Zx, grd_tf → Zy, grd_ft → Zz, grd_ff → Y0, g_skip → Y1, g_ops → Y2, g_seq → Y3, g_block → Y4, g_exit → Y5, g_ret → Y6, x_c → Y7, x_o → Y8, x_l → Y9, x_b → Ya, g_b → Yb, g_nil → Yc, r_all → Yd, o_nil → Ye, g_cond → Yf, o_guard → Yg, o_call → Yh, o_mv → Yi, o_pick → Yj, o_bin → Yk, o_load → Yl, o_loads → Ym, o_fld → Yn, o_idx → Yo, o_idxs → Yp, o_len → Yq, o_lens → Yr, o_alloc → Ys, o_asg → Yt, o_stores → Yu, eqAV → Yv, view_t → Yw, view_c → Yx, view_nil → Yy, view_fn → Yz, look_own → X0, look_box → X1, look_junk → X2, look_val → X3, look_nilsl → X4, look_ro → X5, look_roAt → X6, look_agg → X7, look_tup → X8, look_clo → X9, look_alias → Xa, look_ref → Xb, look_into → Xc, rowOf → Xd, cellsOf → Xe, argv → Xf, vbin → Xg, vun → Xh, bnd → Xi, elemOf → Xj, putParts → Xk, setAt → Xl, zav → Xm, put_at → Xt, mk_at → Xu, mk_nil → Xv, initSt → Xw, wk_cons → Wr, wk_nil → Ws, vint_eq → Wt, vbool_eq → Wu
open Go.Proofs.Ytpecmhdepggnoaa.AV.tup renaming injEq → Zd
open Go.Proofs.Ytpecmhdepggnoaa.AV.agg renaming injEq → Ze
open Go.Proofs.Ytpecmhdepggnoaa.AV.ro renaming injEq → Zf
open _root_.Int renaming toNat_natCast → Zi, reduceToNat → Zj, toNat_zero → Zk, toNat_one → Zl, reduceLE → Zm, reduceLT → Zn, reduceBEq → Zo, reduceBNe → Zp, reduceNeg → Zq
open _root_.List renaming length_map → Zt, map_cons → Xx, map_nil → Xy, forall_mem_cons → Xz, not_mem_nil → W0, length_cons → W1, length_nil → W2, getD_cons_zero → W3, getD_cons_succ → W4, getD_nil → W5, drop_succ_cons → W6, drop_zero → W7, take_succ_cons → W8, take_zero → W9, set_cons_zero → Wa, set_cons_succ → Wb, all_cons → Wc, all_nil → Wd
open Go.Proofs.Ytpecmhdepggnoaa.ASt renaming rid → Xn, free → Xo
open Go.Proofs.Ytpecmhdepggnoaa.AV renaming kill → Xp, isHome → Xq, noLoan → Xr, cellOK → Xs
open _root_.Bool renaming and_true → We, true_and → Wf, not_true → Wg, not_false → Wh, false_eq_true → Wi
open _root_.Nat renaming reduceEqDiff → Wj, reduceAdd → Wk, reduceSub → Wl, reduceMul → Wm, reduceLeDiff → Wn, reduceLT → Wo, one_ne_zero → Wp, zero_ne_one → Wq
open Go.Proofs.Ytpecmhdepggnoaa.AV.val renaming injEq → Wv
set_option linter.unusedSimpArgs false

structure Smp where
  time : Int
  step : Int
  shift : Int
  size : Int
  key : Bool
def Smp.av (s : Smp) : List AV := [.val (.int .i64 s.time), .val (.int .i64 s.step), .val (.int .i64 s.shift), .val (.int .i64 s.size), .val (.bool s.key)]
theorem all_smp (x : List AV) (h : HasAll [.int .i64, .int .i64, .int .i64, .int .i64, .bool] x) : ∃ s : Smp, x = s.av ∧ (I64 s.time ∧ I64 s.step ∧ I64 s.shift ∧ I64 s.size) := by
  obtain ⟨v0, r, rfl, h0, h⟩ := all_cons h
  obtain ⟨v1, r, rfl, h1, h⟩ := all_cons h
  obtain ⟨v2, r, rfl, h2, h⟩ := all_cons h
  obtain ⟨v3, r, rfl, h3, h⟩ := all_cons h
  obtain ⟨v4, r, rfl, h4, h⟩ := all_cons h
  obtain rfl := all_nil h
  obtain ⟨n0, rfl, b0⟩ := has_int h0
  obtain ⟨n1, rfl, b1⟩ := has_int h1
  obtain ⟨n2, rfl, b2⟩ := has_int h2
  obtain ⟨n3, rfl, b3⟩ := has_int h3
  obtain ⟨k, rfl⟩ := has_bool h4
  exact ⟨⟨n0, n1, n2, n3, k⟩, rfl, b0, b1, b2, b3⟩
def Smp.endW (s : Smp) : Int := IntKind.i64.wrap (s.time + s.step)

/-! headend/kit.letter -/
def r94_0 : List POp := [⟨2, .asg (.c (.bool false)), none⟩]
def r94_1 : List POp := [⟨3, .mv (.t 0), none⟩,
  ⟨4, .bin .leq (.c (.int .u8 97)) (.t 3), none⟩,
  ⟨5, .mv (.t 4), none⟩,
  ⟨6, .mv (.t 0), some (5, true)⟩,
  ⟨7, .bin .leq (.t 6) (.c (.int .u8 122)), some (5, true)⟩,
  ⟨8, .pick (.t 5) (.t 7) (.c (.bool false)), none⟩,
  ⟨2, .asg (.t 8), none⟩]
def p94 : PCode := .seq (.ops r94_0) (.seq (.ops r94_1) (.ret))
theorem ok94 : okFunc Try.prog 94 [.t 2] 1 p94 = true := by kernel_rfl
/-! headend/kit.IsDigit -/
def r95_0 : List POp := [⟨2, .asg (.c (.bool false)), none⟩]
def r95_1 : List POp := [⟨3, .mv (.t 0), none⟩,
  ⟨4, .bin .leq (.c (.int .u8 48)) (.t 3), none⟩,
  ⟨5, .mv (.t 4), none⟩,
  ⟨6, .mv (.t 0), some (5, true)⟩,
  ⟨7, .bin .leq (.t 6) (.c (.int .u8 57)), some (5, true)⟩,
  ⟨8, .pick (.t 5) (.t 7) (.c (.bool false)), none⟩,
  ⟨2, .asg (.t 8), none⟩]
def p95 : PCode := .seq (.ops r95_0) (.seq (.ops r95_1) (.ret))
theorem ok95 : okFunc Try.prog 95 [.t 2] 1 p95 = true := by kernel_rfl
/-! headend/kit.IsName -/
def r76_0 : List POp := [⟨2, .asg (.c (.bool false)), none⟩]
def r76_1 : List POp := [⟨4, .mv (.t 0), none⟩,
  ⟨5, .lens (.t 4), none⟩,
  ⟨6, .bin .eql (.t 5) (.c (.int .i64 0)), none⟩,
  ⟨7, .mv (.t 6), none⟩,
  ⟨8, .mv (.t 0), some (7, false)⟩,
  ⟨9, .lens (.t 8), some (7, false)⟩,
  ⟨10, .bin .gtr (.t 9) (.c (.int .i64 40)), some (7, false)⟩,
  ⟨11, .pick (.t 7) (.c (.bool true)) (.t 10), none⟩,
  ⟨12, .mv (.t 11), none⟩,
  ⟨13, .mv (.t 0), some (12, false)⟩,
  ⟨14, .idxs (.t 13) (.c (.int .i64 0)), some (12, false)⟩,
  ⟨15, .call 94 [.t 14], some (12, false)⟩,
  ⟨16, .un .not (.t 15), some (12, false)⟩,
  ⟨17, .pick (.t 12) (.c (.bool true)) (.t 16), none⟩]
def r76_2 : List POp := [⟨2, .asg (.c (.bool false)), none⟩]
def r76_3 : List POp := [⟨18, .mv (.t 0), none⟩,
  ⟨19, .lens (.t 18), none⟩,
  ⟨20, .mv (.c (.int .i64 0)), none⟩]
def r76_4 : List POp := [⟨21, .bin .lss (.t 20) (.t 19), none⟩]
def r76_5 : List POp := [⟨22, .mv (.t 20), none⟩,
  ⟨3, .asg (.t 22), none⟩]
def r76_6 : List POp := [⟨23, .mv (.t 0), none⟩,
  ⟨24, .mv (.t 3), none⟩,
  ⟨25, .idxs (.t 23) (.t 24), none⟩,
  ⟨26, .call 94 [.t 25], none⟩,
  ⟨27, .un .not (.t 26), none⟩,
  ⟨28, .mv (.t 27), none⟩,
  ⟨29, .mv (.t 0), some (28, true)⟩,
  ⟨30, .mv (.t 3), some (28, true)⟩,
  ⟨31, .idxs (.t 29) (.t 30), some (28, true)⟩,
  ⟨32, .call 95 [.t 31], some (28, true)⟩,
  ⟨33, .un .not (.t 32), some (28, true)⟩,
  ⟨34, .pick (.t 28) (.t 33) (.c (.bool false)), none⟩,
  ⟨35, .mv (.t 34), none⟩,
  ⟨36, .mv (.t 0), some (35, true)⟩,
  ⟨37, .mv (.t 3), some (35, true)⟩,
  ⟨38, .idxs (.t 36) (.t 37), some (35, true)⟩,
  ⟨39, .bin .neq (.t 38) (.c (.int .u8 45)), some (35, true)⟩,
  ⟨40, .pick (.t 35) (.t 39) (.c (.bool false)), none⟩]
def r76_7 : List POp := [⟨2, .asg (.c (.bool false)), none⟩]
def r76_8 : List POp := [⟨41, .bin .add (.t 20) (.c (.int .i64 1)), none⟩,
  ⟨20, .mv (.t 41), none⟩]
def r76_9 : List POp := [⟨2, .asg (.c (.bool true)), none⟩]
def l76_0 : PCode := .seq (.ops r76_4) (.seq (.cond (.t 21) (.skip) (.exit 0)) (.seq (.block 1 (.seq (.ops r76_5) (.seq (.ops r76_6) (.cond (.t 40) (.seq (.ops r76_7) (.ret)) (.skip))))) (.ops r76_8)))
def p76 : PCode := .seq (.ops r76_0) (.seq (.seq (.ops r76_1) (.cond (.t 17) (.seq (.ops r76_2) (.ret)) (.skip))) (.seq (.seq (.ops r76_3) (.block 0 (.loop l76_0))) (.seq (.ops r76_9) (.ret))))
theorem ok76 : okFunc Try.prog 76 [.t 2] 1 p76 = true := by kernel_rfl
def letterB (n : Int) : Bool := decide (97 ≤ n) && decide (n ≤ 122)
def digitB (n : Int) : Bool := decide (48 ≤ n) && decide (n ≤ 57)
theorem letter_c (n : Int) : CallOK Try.prog 94 [.val (.int .u8 n)] (.val (.bool (letterB n))) := by
  refine call_of mixed ok94 rfl ?_
  repeat' first | ((with_reducible (first | refine condD ?_ ?_ | refine condE ?_ ?_ | refine condN ?_ ?_ | refine condI ?_ ?_ | refine condS ?_ ?_)) <;> intro h) | ((with_reducible (first | refine guardD (by with_unfolding_all rfl) ?_ ?_ | refine guardE (by with_unfolding_all rfl) ?_ ?_ | refine guardN (by with_unfolding_all rfl) ?_ ?_ | refine guardI (by with_unfolding_all rfl) ?_ ?_ | refine guardS (by with_unfolding_all rfl) ?_ ?_)) <;> intro h) | (with_reducible refine And.intro ?_ ?_; omega) | (simp only [Z0,Z1,Z2,Z3,Z4,Z5,Z6,Z7,Z8,Z9,Za,Zb,Zc,Zd,Ze,Zf,List.cons.injEq,Zg,Zh,Zi,Zj,Zk,Zl,Zm,Zn,Zo,Zp,beq_self_eq_true,bne_self_eq_false,decide_true,decide_false,Zq,Zr,Zs,Zt,Zu,Zv,Zw,Zx,Zy,Zz,Y0,Y1,Y2,Y3,Y4,Y5,Y6,Y7,Y8,Y9,Ya,Yb,Yc,Yd,Ye,Yf,Yg,lk,ef,Yi,Yj,Yk,Yt,hv,Yv,ev,Yw,Yx,Yy,Yz,X0,X1,X2,X3,X4,X5,X6,X7,X8,X9,Xa,Xb,Xc,Xd,Xe,Xf,Xg,Xh,Xi,Xj,Xk,Xl,Xm,Xn,Xo,Xp,Xq,Xr,Xs,Value.oneCell',Xt,Xu,Xv,Xw,true_and,and_true,and_self,implies_true,Xx,Xy,Xz,W0,false_implies,W1,W2,W3,W4,W5,W6,W7,W8,W9,Wa,Wb,Wc,Wd,We,Wf,Wg,Wh,reduceCtorEq,if_true,if_false,Wi,↓reduceIte,Wj,Wk,Wl,Wm,Wn,Wo,ne_eq,not_false_eq_true,not_true_eq_false,Wp,Wq,r94_0,r94_1,p94]) | (exfalso; omega)
  all_goals simp [letterB]; omega
theorem digit_c (n : Int) : CallOK Try.prog 95 [.val (.int .u8 n)] (.val (.bool (digitB n))) := by
  refine call_of mixed ok95 rfl ?_
  repeat' first | ((with_reducible (first | refine condD ?_ ?_ | refine condE ?_ ?_ | refine condN ?_ ?_ | refine condI ?_ ?_ | refine condS ?_ ?_)) <;> intro h) | ((with_reducible (first | refine guardD (by with_unfolding_all rfl) ?_ ?_ | refine guardE (by with_unfolding_all rfl) ?_ ?_ | refine guardN (by with_unfolding_all rfl) ?_ ?_ | refine guardI (by with_unfolding_all rfl) ?_ ?_ | refine guardS (by with_unfolding_all rfl) ?_ ?_)) <;> intro h) | (with_reducible refine And.intro ?_ ?_; omega) | (simp only [Z0,Z1,Z2,Z3,Z4,Z5,Z6,Z7,Z8,Z9,Za,Zb,Zc,Zd,Ze,Zf,List.cons.injEq,Zg,Zh,Zi,Zj,Zk,Zl,Zm,Zn,Zo,Zp,beq_self_eq_true,bne_self_eq_false,decide_true,decide_false,Zq,Zr,Zs,Zt,Zu,Zv,Zw,Zx,Zy,Zz,Y0,Y1,Y2,Y3,Y4,Y5,Y6,Y7,Y8,Y9,Ya,Yb,Yc,Yd,Ye,Yf,Yg,lk,ef,Yi,Yj,Yk,Yt,hv,Yv,ev,Yw,Yx,Yy,Yz,X0,X1,X2,X3,X4,X5,X6,X7,X8,X9,Xa,Xb,Xc,Xd,Xe,Xf,Xg,Xh,Xi,Xj,Xk,Xl,Xm,Xn,Xo,Xp,Xq,Xr,Xs,Value.oneCell',Xt,Xu,Xv,Xw,true_and,and_true,and_self,implies_true,Xx,Xy,Xz,W0,false_implies,W1,W2,W3,W4,W5,W6,W7,W8,W9,Wa,Wb,Wc,Wd,We,Wf,Wg,Wh,reduceCtorEq,if_true,if_false,Wi,↓reduceIte,Wj,Wk,Wl,Wm,Wn,Wo,ne_eq,not_false_eq_true,not_true_eq_false,Wp,Wq,r95_0,r95_1,p95]) | (exfalso; omega)
  all_goals simp [digitB]; omega
def okB (b : UInt8) : Bool := letterB b.toNat || digitB b.toNat || ((b.toNat : Int) == 45)
def nameGo : List UInt8 → Bool
  | [] => true
  | b :: r => okB b && nameGo r
def isNameB (s : ByteArray) : Bool := !((s.size : Int) == 0) && decide (s.size ≤ 40) && letterB (s.data.toList.getD 0 0).toNat && nameGo s.data.toList
theorem isName_1 {s : ByteArray} (h : s.size = 0) : isNameB s = false := by simp only [isNameB, h]; rfl
theorem isName_2 {s : ByteArray} (h : 40 < s.size) : isNameB s = false := by
  simp only [isNameB, show decide (s.size ≤ 40) = false from decide_eq_false (by omega), Bool.and_false, Bool.false_and]
theorem isName_3 {s : ByteArray} (h : letterB (s.data.toList.getD 0 0).toNat = false) : isNameB s = false := by
  simp only [isNameB, h, Bool.and_false, Bool.false_and]
theorem isName_4 {s : ByteArray} (h1 : s.size ≠ 0) (h2 : s.size ≤ 40) (h : letterB (s.data.toList.getD 0 0).toNat = true) : isNameB s = nameGo s.data.toList := by
  simp only [isNameB, h, decide_eq_true h2, show ((s.size : Int) == 0) = false by simp only [beq_eq_false_iff_ne]; omega, Bool.not_false, Bool.true_and]
theorem name_c (s : ByteArray) : CallOK Try.prog 76 [.val (.string s)] (.val (.bool (isNameB s))) := by
  refine call_of mixed ok76 rfl ?_
  repeat' first | ((with_reducible (first | refine condD ?_ ?_ | refine condE ?_ ?_ | refine condN ?_ ?_ | refine condI ?_ ?_ | refine condS ?_ ?_)) <;> intro h) | ((with_reducible (first | refine guardD (by with_unfolding_all rfl) ?_ ?_ | refine guardE (by with_unfolding_all rfl) ?_ ?_ | refine guardN (by with_unfolding_all rfl) ?_ ?_ | refine guardI (by with_unfolding_all rfl) ?_ ?_ | refine guardS (by with_unfolding_all rfl) ?_ ?_)) <;> intro h) | ((refine callG (letter_c _) ?_)) | (with_reducible refine And.intro ?_ ?_; omega) | (simp only [Z0,Z1,Z2,Z3,Z4,Z5,Z6,Z7,Z8,Z9,Za,Zb,Zc,Zd,Ze,Zf,List.cons.injEq,Zg,Zh,Zi,Zj,Zk,Zl,Zm,Zn,Zo,Zp,beq_self_eq_true,bne_self_eq_false,decide_true,decide_false,Zq,Zr,Zs,Zt,Zu,Zv,Zw,Zx,Zy,Zz,Y0,Y1,Y2,Y3,Y4,Y5,Y6,Y7,Y8,Y9,Ya,Yb,Yc,Yd,Ye,Yf,Yg,Yh,lk,ef,Yi,Yj,Yk,o_un,Yp,Yr,Yt,hv,Yv,ev,Yw,Yx,Yy,Yz,X0,X1,X2,X3,X4,X5,X6,X7,X8,X9,Xa,Xb,Xc,Xd,Xe,Xf,Xg,Xh,Xi,Xj,Xk,Xl,Xm,Xn,Xo,Xp,Xq,Xr,Xs,Value.oneCell',Xt,Xu,Xv,Xw,true_and,and_true,and_self,implies_true,Xx,Xy,Xz,W0,false_implies,W1,W2,W3,W4,W5,W6,W7,W8,W9,Wa,Wb,Wc,Wd,We,Wf,Wg,Wh,reduceCtorEq,if_true,if_false,Wi,↓reduceIte,Wj,Wk,Wl,Wm,Wn,Wo,ne_eq,not_false_eq_true,not_true_eq_false,Wp,Wq,r76_0,r76_1,r76_2,r76_3,r76_4,r76_5,r76_6,r76_7,r76_8,r76_9,p76]) | (exfalso; omega)
  · exact (isName_1 (by omega)).symm
  · exact (isName_2 (by omega)).symm
  · exact (isName_3 h).symm
  · rename_i h1 h2
    have hsz : s.data.toList.length = s.size := by simp only [Array.length_toList]; rfl
    have hN : isNameB s = nameGo s.data.toList := isName_4 (by omega) (by omega) h
    refine loopS (fun k : Nat => mk [(0, .val (.string s)), (19, .val (.int .i64 s.size)), (20, .val (.int .i64 k))]) (fun k => k ≤ s.size ∧ isNameB s = nameGo (s.data.toList.drop k)) (fun k => s.size - k) 0 (weak_mk ?_) ⟨Nat.zero_le _, hN⟩ ?_
    · simp only [Wr,Ws,wk1,Wt,Wu,Wv,Z4,Z5,Z6,Z7,Z8,Z9,Za,Zb,Zc,Zd,Ze,Zf,List.cons.injEq,Zg,Zh,Zi,Zj,Zk,Zl,Zm,Zn,Zo,Zp,beq_self_eq_true,bne_self_eq_false,decide_true,decide_false,Zq,Zr,Zs,Zt,Zu,Zv,Zw,Zx,Zy,Zz,Y0,hv,Yv,ev,Yw,Yx,Yy,Yz,X0,X1,X2,X3,X4,X5,X6,X7,X8,X9,Xa,Xb,Xc,Xd,Xe,Xf,Xg,Xh,Xi,Xj,Xk,Xl,Xm,Xn,Xo,Xp,Xq,Xr,Xs,Value.oneCell',Xt,Xu,Xv,Xw,true_and,and_true,and_self,implies_true,Xx,Xy,Xz,W0,false_implies,W1,W2,W3,W4,W5,W6,W7,W8,W9,Wa,Wb,Wc,Wd,We,Wf,Wg,Wh,reduceCtorEq,if_true,if_false,Wi,↓reduceIte,Wj,Wk,Wl,Wm,Wn,Wo,ne_eq,not_false_eq_true,not_true_eq_false,Wp,Nat.zero_ne_one]
      simp
    · rintro J hJ k ⟨hk, hg⟩
      simp only [Z0,Z1,Z2,Z3,Z4,Z5,Z6,Z7,Z8,Z9,Za,Zb,Zc,Zd,Ze,Zf,List.cons.injEq,Zg,Zh,Zi,Zj,Zk,Zl,Zm,Zn,Zo,Zp,beq_self_eq_true,bne_self_eq_false,decide_true,decide_false,Zq,Zr,Zs,Zt,Zu,Zv,Zw,Zx,Zy,Zz,Y0,Y1,Y2,Y3,Y4,Y5,Y6,Y7,Y8,Y9,Ya,Yb,Yc,Yd,Ye,Yf,Yg,Yh,lk,ef,Yi,Yj,Yk,o_un,Yp,Yr,Yt,hv,Yv,ev,Yw,Yx,Yy,Yz,X0,X1,X2,X3,X4,X5,X6,X7,X8,X9,Xa,Xb,Xc,Xd,Xe,Xf,Xg,Xh,Xi,Xj,Xk,Xl,Xm,Xn,Xo,Xp,Xq,Xr,Xs,Value.oneCell',Xt,Xu,Xv,Xw,true_and,and_true,and_self,implies_true,Xx,Xy,Xz,W0,false_implies,W1,W2,W3,W4,W5,W6,W7,W8,W9,Wa,Wb,Wc,Wd,We,Wf,Wg,Wh,reduceCtorEq,if_true,if_false,Wi,↓reduceIte,Wj,Wk,Wl,Wm,Wn,Wo,ne_eq,not_false_eq_true,not_true_eq_false,Wp,Wq,r76_0,r76_1,r76_2,r76_3,r76_4,r76_5,r76_6,r76_7,r76_8,r76_9,p76,l76_0]
      refine condD (fun h => ?_) (fun h => ?_)
      · have hlt : k < s.data.toList.length := by omega
        have hr : isNameB s = (okB s.data.toList[k] && nameGo (s.data.toList.drop (k + 1))) := by rw [hg, List.drop_eq_getElem_cons hlt, nameGo]
        have hw : IntKind.i64.wrap (k + 1 : Int) = ((k + 1 : Nat) : Int) := wrap_in (by omega) (by omega)
        have hb : s.data.toList.getD k 0 = s.data.toList[k] := by rw [List.getD_eq_getElem?_getD, List.getElem?_eq_getElem hlt]; rfl
        clear hg
        repeat' first | ((with_reducible (first | refine condD ?_ ?_ | refine condE ?_ ?_ | refine condN ?_ ?_ | refine condI ?_ ?_ | refine condS ?_ ?_)) <;> intro h) | ((with_reducible (first | refine guardD (by with_unfolding_all rfl) ?_ ?_ | refine guardE (by with_unfolding_all rfl) ?_ ?_ | refine guardN (by with_unfolding_all rfl) ?_ ?_ | refine guardI (by with_unfolding_all rfl) ?_ ?_ | refine guardS (by with_unfolding_all rfl) ?_ ?_)) <;> intro h) | ((refine callG (letter_c _) ?_)) | ((refine callG (digit_c _) ?_)) | (with_reducible refine And.intro ?_ ?_; omega) | (simp only [Z0,Z1,Z2,Z3,Z4,Z5,Z6,Z7,Z8,Z9,Za,Zb,Zc,Zd,Ze,Zf,List.cons.injEq,Zg,Zh,Zi,Zj,Zk,Zl,Zm,Zn,Zo,Zp,beq_self_eq_true,bne_self_eq_false,decide_true,decide_false,Zq,Zr,Zs,Zt,Zu,Zv,Zw,Zx,Zy,Zz,Y0,Y1,Y2,Y3,Y4,Y5,Y6,Y7,Y8,Y9,Ya,Yb,Yc,Yd,Ye,Yf,Yg,Yh,lk,ef,Yi,Yj,Yk,o_un,Yp,Yr,Yt,hv,Yv,ev,Yw,Yx,Yy,Yz,X0,X1,X2,X3,X4,X5,X6,X7,X8,X9,Xa,Xb,Xc,Xd,Xe,Xf,Xg,Xh,Xi,Xj,Xk,Xl,Xm,Xn,Xo,Xp,Xq,Xr,Xs,Value.oneCell',Xt,Xu,Xv,Xw,true_and,and_true,and_self,implies_true,Xx,Xy,Xz,W0,false_implies,W1,W2,W3,W4,W5,W6,W7,W8,W9,Wa,Wb,Wc,Wd,We,Wf,Wg,Wh,reduceCtorEq,if_true,if_false,Wi,↓reduceIte,Wj,Wk,Wl,Wm,Wn,Wo,ne_eq,not_false_eq_true,not_true_eq_false,Wp,Wq,r76_0,r76_1,r76_2,r76_3,r76_4,r76_5,r76_6,r76_7,r76_8,r76_9,p76,l76_0,hb]) | (exfalso; omega)
        · rw [hr, show okB s.data.toList[k] = false by unfold okB; generalize s.data.toList[k] = b at *; simp [*], Bool.false_and]
        all_goals exact again hJ (k + 1) (weak_mk (by simp only [Wr,Ws,wk1,Wt,Wu,Wv,Z4,Z5,Z6,Z7,Z8,Z9,Za,Zb,Zc,Zd,Ze,Zf,List.cons.injEq,Zg,Zh,Zi,Zj,Zk,Zl,Zm,Zn,Zo,Zp,beq_self_eq_true,bne_self_eq_false,decide_true,decide_false,Zq,Zr,Zs,Zt,Zu,Zv,Zw,Zx,Zy,Zz,Y0,hv,Yv,ev,Yw,Yx,Yy,Yz,X0,X1,X2,X3,X4,X5,X6,X7,X8,X9,Xa,Xb,Xc,Xd,Xe,Xf,Xg,Xh,Xi,Xj,Xk,Xl,Xm,Xn,Xo,Xp,Xq,Xr,Xs,Value.oneCell',Xt,Xu,Xv,Xw,true_and,and_true,and_self,implies_true,Xx,Xy,Xz,W0,false_implies,W1,W2,W3,W4,W5,W6,W7,W8,W9,Wa,Wb,Wc,Wd,We,Wf,Wg,Wh,reduceCtorEq,if_true,if_false,Wi,↓reduceIte,Wj,Wk,Wl,Wm,Wn,Wo,ne_eq,not_false_eq_true,not_true_eq_false,Wp,Nat.zero_ne_one]; exact hw)) ⟨by omega, by rw [hr, show okB s.data.toList[k] = true by unfold okB; clear hJ; generalize s.data.toList[k] = b at *; simp [*], Bool.true_and]⟩ (by omega)
      · have hke : k = s.size := by omega
        subst hke
        have hn : s.data.toList.drop s.size = [] := List.drop_eq_nil_of_le (by omega)
        repeat' first | ((with_reducible (first | refine condD ?_ ?_ | refine condE ?_ ?_ | refine condN ?_ ?_ | refine condI ?_ ?_ | refine condS ?_ ?_)) <;> intro h) | ((with_reducible (first | refine guardD (by with_unfolding_all rfl) ?_ ?_ | refine guardE (by with_unfolding_all rfl) ?_ ?_ | refine guardN (by with_unfolding_all rfl) ?_ ?_ | refine guardI (by with_unfolding_all rfl) ?_ ?_ | refine guardS (by with_unfolding_all rfl) ?_ ?_)) <;> intro h) | (with_reducible refine And.intro ?_ ?_; omega) | (simp only [Z0,Z1,Z2,Z3,Z4,Z5,Z6,Z7,Z8,Z9,Za,Zb,Zc,Zd,Ze,Zf,List.cons.injEq,Zg,Zh,Zi,Zj,Zk,Zl,Zm,Zn,Zo,Zp,beq_self_eq_true,bne_self_eq_false,decide_true,decide_false,Zq,Zr,Zs,Zt,Zu,Zv,Zw,Zx,Zy,Zz,Y0,Y1,Y2,Y3,Y4,Y5,Y6,Y7,Y8,Y9,Ya,Yb,Yc,Yd,Ye,Yf,Yg,Yh,lk,ef,Yi,Yj,Yk,o_un,Yp,Yr,Yt,hv,Yv,ev,Yw,Yx,Yy,Yz,X0,X1,X2,X3,X4,X5,X6,X7,X8,X9,Xa,Xb,Xc,Xd,Xe,Xf,Xg,Xh,Xi,Xj,Xk,Xl,Xm,Xn,Xo,Xp,Xq,Xr,Xs,Value.oneCell',Xt,Xu,Xv,Xw,true_and,and_true,and_self,implies_true,Xx,Xy,Xz,W0,false_implies,W1,W2,W3,W4,W5,W6,W7,W8,W9,Wa,Wb,Wc,Wd,We,Wf,Wg,Wh,reduceCtorEq,if_true,if_false,Wi,↓reduceIte,Wj,Wk,Wl,Wm,Wn,Wo,ne_eq,not_false_eq_true,not_true_eq_false,Wp,Wq,r76_0,r76_1,r76_2,r76_3,r76_4,r76_5,r76_6,r76_7,r76_8,r76_9,p76,l76_0]) | (exfalso; omega)
        simp [hg, hn, nameGo]

/-! headend/box.CheckSamples -/
def r40_0 : List POp := [⟨2, .asg (.c (.int .i64 0)), none⟩]
def r40_1 : List POp := [⟨6, .mv (.t 0), none⟩,
  ⟨7, .len (.t 6), none⟩,
  ⟨8, .bin .gtr (.t 7) (.c (.int .i64 5000)), none⟩]
def r40_2 : List POp := [⟨2, .asg (.c (.int .i64 2)), none⟩]
def r40_3 : List POp := [⟨9, .mv (.t 0), none⟩,
  ⟨10, .len (.t 9), none⟩,
  ⟨11, .mv (.c (.int .i64 0)), none⟩]
def r40_4 : List POp := [⟨12, .bin .lss (.t 11) (.t 10), none⟩]
def r40_5 : List POp := [⟨13, .mv (.t 11), none⟩,
  ⟨14, .idx 5 (.t 9) (.t 11), none⟩,
  ⟨15, .loads 5 (.t 14), none⟩,
  ⟨4, .alloc [.int .i64 0, .int .i64 0, .int .i64 0, .int .i64 0, .bool false], none⟩,
  ⟨3, .asg (.t 13), none⟩,
  ⟨0, .stores 5 (.t 4) (.t 15), none⟩]
def r40_6 : List POp := [⟨17, .fld 0 (.t 4), none⟩,
  ⟨18, .load (.t 17), none⟩,
  ⟨19, .call 41 [.t 18], none⟩,
  ⟨20, .mv (.t 19), none⟩,
  ⟨21, .fld 1 (.t 4), some (20, false)⟩,
  ⟨22, .load (.t 21), some (20, false)⟩,
  ⟨23, .call 32 [.t 22, .c (.int .i64 0), .c (.int .i64 1000000000)], some (20, false)⟩,
  ⟨24, .pick (.t 20) (.c (.bool true)) (.t 23), none⟩,
  ⟨25, .mv (.t 24), none⟩,
  ⟨26, .fld 2 (.t 4), some (25, false)⟩,
  ⟨27, .load (.t 26), some (25, false)⟩,
  ⟨28, .call 32 [.t 27, .c (.int .i64 (-1000000000)), .c (.int .i64 1000000000)], some (25, false)⟩,
  ⟨29, .pick (.t 25) (.c (.bool true)) (.t 28), none⟩,
  ⟨30, .mv (.t 29), none⟩,
  ⟨31, .fld 3 (.t 4), some (30, false)⟩,
  ⟨32, .load (.t 31), some (30, false)⟩,
  ⟨33, .call 32 [.t 32, .c (.int .i64 0), .c (.int .i64 100000)], some (30, false)⟩,
  ⟨34, .pick (.t 30) (.c (.bool true)) (.t 33), none⟩,
  ⟨16, .asg (.t 34), none⟩]
def r40_7 : List POp := [⟨2, .asg (.c (.int .i64 1)), none⟩]
def r40_8 : List POp := [⟨36, .mv (.t 3), none⟩,
  ⟨37, .bin .gtr (.t 36) (.c (.int .i64 0)), none⟩,
  ⟨38, .mv (.t 37), none⟩,
  ⟨39, .fld 0 (.t 4), some (38, true)⟩,
  ⟨40, .load (.t 39), some (38, true)⟩,
  ⟨41, .mv (.t 0), some (38, true)⟩,
  ⟨42, .mv (.t 3), some (38, true)⟩,
  ⟨43, .bin .sub (.t 42) (.c (.int .i64 1)), some (38, true)⟩,
  ⟨44, .idx 5 (.t 41) (.t 43), some (38, true)⟩,
  ⟨45, .fld 0 (.t 44), some (38, true)⟩,
  ⟨46, .load (.t 45), some (38, true)⟩,
  ⟨47, .mv (.t 0), some (38, true)⟩,
  ⟨48, .mv (.t 3), some (38, true)⟩,
  ⟨49, .bin .sub (.t 48) (.c (.int .i64 1)), some (38, true)⟩,
  ⟨50, .idx 5 (.t 47) (.t 49), some (38, true)⟩,
  ⟨51, .fld 1 (.t 50), some (38, true)⟩,
  ⟨52, .load (.t 51), some (38, true)⟩,
  ⟨53, .bin .add (.t 46) (.t 52), some (38, true)⟩,
  ⟨54, .bin .neq (.t 40) (.t 53), some (38, true)⟩,
  ⟨55, .pick (.t 38) (.t 54) (.c (.bool false)), none⟩,
  ⟨35, .asg (.t 55), none⟩]
def r40_9 : List POp := [⟨2, .asg (.c (.int .i64 8)), none⟩]
def r40_10 : List POp := [⟨56, .bin .add (.t 11) (.c (.int .i64 1)), none⟩,
  ⟨11, .mv (.t 56), none⟩]
def r40_11 : List POp := [⟨57, .mv (.t 0), none⟩,
  ⟨58, .len (.t 57), none⟩,
  ⟨5, .asg (.t 58), none⟩]
def r40_12 : List POp := [⟨59, .mv (.t 5), none⟩,
  ⟨60, .bin .gtr (.t 59) (.c (.int .i64 0)), none⟩,
  ⟨61, .mv (.t 60), none⟩,
  ⟨62, .mv (.t 0), some (61, true)⟩,
  ⟨63, .mv (.t 5), some (61, true)⟩,
  ⟨64, .bin .sub (.t 63) (.c (.int .i64 1)), some (61, true)⟩,
  ⟨65, .idx 5 (.t 62) (.t 64), some (61, true)⟩,
  ⟨66, .fld 0 (.t 65), some (61, true)⟩,
  ⟨67, .load (.t 66), some (61, true)⟩,
  ⟨68, .mv (.t 0), some (61, true)⟩,
  ⟨69, .mv (.t 5), some (61, true)⟩,
  ⟨70, .bin .sub (.t 69) (.c (.int .i64 1)), some (61, true)⟩,
  ⟨71, .idx 5 (.t 68) (.t 70), some (61, true)⟩,
  ⟨72, .fld 1 (.t 71), some (61, true)⟩,
  ⟨73, .load (.t 72), some (61, true)⟩,
  ⟨74, .bin .add (.t 67) (.t 73), some (61, true)⟩,
  ⟨75, .call 41 [.t 74], some (61, true)⟩,
  ⟨76, .pick (.t 61) (.t 75) (.c (.bool false)), none⟩]
def r40_13 : List POp := [⟨2, .asg (.c (.int .i64 1)), none⟩]
def r40_14 : List POp := [⟨2, .asg (.c (.int .i64 0)), none⟩]
def l40_0 : PCode := .seq (.ops r40_4) (.seq (.cond (.t 12) (.skip) (.exit 0)) (.seq (.block 1 (.seq (.ops r40_5) (.block 2 (.seq (.ops r40_6) (.cond (.t 16) (.seq (.ops r40_7) (.ret)) (.seq (.ops r40_8) (.cond (.t 35) (.seq (.ops r40_9) (.ret)) (.skip)))))))) (.ops r40_10)))
def p40 : PCode := .seq (.ops r40_0) (.seq (.seq (.ops r40_1) (.cond (.t 8) (.seq (.ops r40_2) (.ret)) (.skip))) (.seq (.seq (.ops r40_3) (.block 0 (.loop l40_0))) (.seq (.seq (.ops r40_11) (.seq (.ops r40_12) (.cond (.t 76) (.seq (.ops r40_13) (.ret)) (.skip)))) (.seq (.ops r40_14) (.ret)))))
theorem ok40 : okFunc Try.prog 40 [.t 2] 1 p40 = true := by kernel_rfl
def badSmp (s : Smp) : Bool := noTime s.time || outB s.step 0 1000000000 || outB s.shift (-1000000000) 1000000000 || outB s.size 0 100000
def smpGo : Option Int → List Smp → Int
  | _, [] => 0
  | p, s :: r => if badSmp s then 1 else if p.any fun q => s.time != q then 8 else smpGo (some s.endW) r
def smpF (l : List Smp) : Int := if 5000 < l.length then 2 else if smpGo none l ≠ 0 then smpGo none l else if l.getLast?.any fun s => noTime s.endW then 1 else 0
def prvS (l : List Smp) (k : Nat) : Option Int := if k = 0 then none else l[k-1]?.map Smp.endW
theorem prvS_succ (l : List Smp) (k : Nat) (h : k < l.length) : prvS l (k + 1) = some l[k].endW := by simp [prvS, h]
theorem smp_c (l : List Smp) : CallOK Try.prog 40 [.ro (l.map Smp.av)] (.val (.int .i64 (smpF l))) := by
  refine call_of mixed ok40 rfl ?_
  repeat' first | ((with_reducible (first | refine condD ?_ ?_ | refine condE ?_ ?_ | refine condN ?_ ?_ | refine condI ?_ ?_ | refine condS ?_ ?_)) <;> intro h) | ((with_reducible (first | refine guardD (by with_unfolding_all rfl) ?_ ?_ | refine guardE (by with_unfolding_all rfl) ?_ ?_ | refine guardN (by with_unfolding_all rfl) ?_ ?_ | refine guardI (by with_unfolding_all rfl) ?_ ?_ | refine guardS (by with_unfolding_all rfl) ?_ ?_)) <;> intro h) | (with_reducible refine And.intro ?_ ?_; omega) | (simp only [Z0,Z1,Z2,Z3,Z4,Z5,Z6,Z7,Z8,Z9,Za,Zb,Zc,Zd,Ze,Zf,List.cons.injEq,Zg,Zh,Zi,Zj,Zk,Zl,Zm,Zn,Zo,Zp,beq_self_eq_true,bne_self_eq_false,decide_true,decide_false,Zq,Zr,Zs,Zt,Zu,Zv,Zw,Zx,Zy,Zz,Y0,Y1,Y2,Y3,Y4,Y5,Y6,Y7,Y8,Y9,Ya,Yb,Yc,Yd,Ye,Yf,Yg,Yh,lk,ef,Yi,Yj,Yk,Yl,Ym,Yn,Yo,Yq,Ys,Yt,Yu,hv,Yv,ev,Yw,Yx,Yy,Yz,X0,X1,X2,X3,X4,X5,X6,X7,X8,X9,Xa,Xb,Xc,Xd,Xe,Xf,Xg,Xh,Xi,Xj,Xk,Xl,Xm,Xn,Xo,Xp,Xq,Xr,Xs,Value.oneCell',Xt,Xu,Xv,Xw,true_and,and_true,and_self,implies_true,Xx,Xy,Xz,W0,false_implies,W1,W2,W3,W4,W5,W6,W7,W8,W9,Wa,Wb,Wc,Wd,We,Wf,Wg,Wh,reduceCtorEq,if_true,if_false,Wi,↓reduceIte,Wj,Wk,Wl,Wm,Wn,Wo,ne_eq,not_false_eq_true,not_true_eq_false,Wp,Wq,r40_0,r40_1,r40_2,r40_3,r40_4,r40_5,r40_6,r40_7,r40_8,r40_9,r40_10,r40_11,r40_12,r40_13,r40_14,p40]) | (exfalso; omega)
  · rw [smpF, if_pos (by omega)]
  · have hl : l.length ≤ 5000 := by omega
    have hr0 : smpF l = if smpGo none l ≠ 0 then smpGo none l else if l.getLast?.any fun s => noTime s.endW then 1 else 0 := if_neg (by omega)
    refine loopS (fun k : Nat => mk [(0, .ro (l.map Smp.av)), (9, .ro (l.map Smp.av)), (10, .val (.int .i64 l.length)), (11, .val (.int .i64 k))]) (fun k => k ≤ l.length ∧ smpGo none l = smpGo (prvS l k) (l.drop k)) (fun k => l.length - k) 0 (weak_mk ?_) ?_ ?_
    · simp only [Wr,Ws,wk1,Wt,Wu,Wv,Z4,Z5,Z6,Z7,Z8,Z9,Za,Zb,Zc,Zd,Ze,Zf,List.cons.injEq,Zg,Zh,Zi,Zj,Zk,Zl,Zm,Zn,Zo,Zp,beq_self_eq_true,bne_self_eq_false,decide_true,decide_false,Zq,Zr,Zs,Zt,Zu,Zv,Zw,Zx,Zy,Zz,Y0,hv,Yv,ev,Yw,Yx,Yy,Yz,X0,X1,X2,X3,X4,X5,X6,X7,X8,X9,Xa,Xb,Xc,Xd,Xe,Xf,Xg,Xh,Xi,Xj,Xk,Xl,Xm,Xn,Xo,Xp,Xq,Xr,Xs,Value.oneCell',Xt,Xu,Xv,Xw,true_and,and_true,and_self,implies_true,Xx,Xy,Xz,W0,false_implies,W1,W2,W3,W4,W5,W6,W7,W8,W9,Wa,Wb,Wc,Wd,We,Wf,Wg,Wh,reduceCtorEq,if_true,if_false,Wi,↓reduceIte,Wj,Wk,Wl,Wm,Wn,Wo,ne_eq,not_false_eq_true,not_true_eq_false,Wp,Nat.zero_ne_one]
      simp
    · exact ⟨Nat.zero_le _, by simp [prvS]⟩
    · rintro J hJ k ⟨hk, hg⟩
      simp only [Z0,Z1,Z2,Z3,Z4,Z5,Z6,Z7,Z8,Z9,Za,Zb,Zc,Zd,Ze,Zf,List.cons.injEq,Zg,Zh,Zi,Zj,Zk,Zl,Zm,Zn,Zo,Zp,beq_self_eq_true,bne_self_eq_false,decide_true,decide_false,Zq,Zr,Zs,Zt,Zu,Zv,Zw,Zx,Zy,Zz,Y0,Y1,Y2,Y3,Y4,Y5,Y6,Y7,Y8,Y9,Ya,Yb,Yc,Yd,Ye,Yf,Yg,Yh,lk,ef,Yi,Yj,Yk,Yl,Ym,Yn,Yo,Yq,Ys,Yt,Yu,hv,Yv,ev,Yw,Yx,Yy,Yz,X0,X1,X2,X3,X4,X5,X6,X7,X8,X9,Xa,Xb,Xc,Xd,Xe,Xf,Xg,Xh,Xi,Xj,Xk,Xl,Xm,Xn,Xo,Xp,Xq,Xr,Xs,Value.oneCell',Xt,Xu,Xv,Xw,true_and,and_true,and_self,implies_true,Xx,Xy,Xz,W0,false_implies,W1,W2,W3,W4,W5,W6,W7,W8,W9,Wa,Wb,Wc,Wd,We,Wf,Wg,Wh,reduceCtorEq,if_true,if_false,Wi,↓reduceIte,Wj,Wk,Wl,Wm,Wn,Wo,ne_eq,not_false_eq_true,not_true_eq_false,Wp,Wq,r40_0,r40_1,r40_2,r40_3,r40_4,r40_5,r40_6,r40_7,r40_8,r40_9,r40_10,r40_11,r40_12,r40_13,r40_14,p40,l40_0]
      refine condD (fun h => ?_) (fun h => ?_)
      · have hlt : k < l.length := by omega
        have hr : smpGo none l = if badSmp l[k] then 1 else if (prvS l k).any fun q => l[k].time != q then 8 else smpGo (prvS l (k + 1)) (l.drop (k + 1)) := by
          rw [hg, List.drop_eq_getElem_cons hlt, smpGo, prvS_succ _ _ hlt]
        have hw : IntKind.i64.wrap (k + 1 : Int) = ((k + 1 : Nat) : Int) := wrap_in (by omega) (by omega)
        clear hg
        rcases Nat.eq_zero_or_pos k with rfl | hp
        · repeat' first | ((with_reducible (first | refine condD ?_ ?_ | refine condE ?_ ?_ | refine condN ?_ ?_ | refine condI ?_ ?_ | refine condS ?_ ?_)) <;> intro h) | ((with_reducible (first | refine guardD (by with_unfolding_all rfl) ?_ ?_ | refine guardE (by with_unfolding_all rfl) ?_ ?_ | refine guardN (by with_unfolding_all rfl) ?_ ?_ | refine guardI (by with_unfolding_all rfl) ?_ ?_ | refine guardS (by with_unfolding_all rfl) ?_ ?_)) <;> intro h) | ((refine callG (notime_c _) ?_)) | ((refine callG (out_c _ _ _) ?_)) | (with_reducible refine And.intro ?_ ?_; omega) | (simp only [Z0,Z1,Z2,Z3,Z4,Z5,Z6,Z7,Z8,Z9,Za,Zb,Zc,Zd,Ze,Zf,List.cons.injEq,Zg,Zh,Zi,Zj,Zk,Zl,Zm,Zn,Zo,Zp,beq_self_eq_true,bne_self_eq_false,decide_true,decide_false,Zq,Zr,Zs,Zt,Zu,Zv,Zw,Zx,Zy,Zz,Y0,Y1,Y2,Y3,Y4,Y5,Y6,Y7,Y8,Y9,Ya,Yb,Yc,Yd,Ye,Yf,Yg,Yh,lk,ef,Yi,Yj,Yk,Yl,Ym,Yn,Yo,Yq,Ys,Yt,Yu,hv,Yv,ev,Yw,Yx,Yy,Yz,X0,X1,X2,X3,X4,X5,X6,X7,X8,X9,Xa,Xb,Xc,Xd,Xe,Xf,Xg,Xh,Xi,Xj,Xk,Xl,Xm,Xn,Xo,Xp,Xq,Xr,Xs,Value.oneCell',Xt,Xu,Xv,Xw,true_and,and_true,and_self,implies_true,Xx,Xy,Xz,W0,false_implies,W1,W2,W3,W4,W5,W6,W7,W8,W9,Wa,Wb,Wc,Wd,We,Wf,Wg,Wh,reduceCtorEq,if_true,if_false,Wi,↓reduceIte,Wj,Wk,Wl,Wm,Wn,Wo,ne_eq,not_false_eq_true,not_true_eq_false,Wp,Wq,r40_0,r40_1,r40_2,r40_3,r40_4,r40_5,r40_6,r40_7,r40_8,r40_9,r40_10,r40_11,r40_12,r40_13,r40_14,p40,l40_0,Smp.av,getD_map hlt]) | (exfalso; omega)
          all_goals try (clear hJ; simp [hr0, hr, badSmp, prvS, *]; done)
          exact again hJ (0 + 1) (weak_mk (by simp only [Wr,Ws,wk1,Wt,Wu,Wv,Z4,Z5,Z6,Z7,Z8,Z9,Za,Zb,Zc,Zd,Ze,Zf,List.cons.injEq,Zg,Zh,Zi,Zj,Zk,Zl,Zm,Zn,Zo,Zp,beq_self_eq_true,bne_self_eq_false,decide_true,decide_false,Zq,Zr,Zs,Zt,Zu,Zv,Zw,Zx,Zy,Zz,Y0,hv,Yv,ev,Yw,Yx,Yy,Yz,X0,X1,X2,X3,X4,X5,X6,X7,X8,X9,Xa,Xb,Xc,Xd,Xe,Xf,Xg,Xh,Xi,Xj,Xk,Xl,Xm,Xn,Xo,Xp,Xq,Xr,Xs,Value.oneCell',Xt,Xu,Xv,Xw,true_and,and_true,and_self,implies_true,Xx,Xy,Xz,W0,false_implies,W1,W2,W3,W4,W5,W6,W7,W8,W9,Wa,Wb,Wc,Wd,We,Wf,Wg,Wh,reduceCtorEq,if_true,if_false,Wi,↓reduceIte,Wj,Wk,Wl,Wm,Wn,Wo,ne_eq,not_false_eq_true,not_true_eq_false,Wp,Nat.zero_ne_one]; exact hw)) ⟨by omega, by simp [hr, badSmp, prvS, *, -hJ]⟩ (by omega)
        · have hlt1 : k - 1 < l.length := by omega
          have hw1 : IntKind.i64.wrap (k - 1 : Int) = ((k - 1 : Nat) : Int) := by rw [wrap_in (by omega) (by omega)]; omega
          have hpv : prvS l k = some l[k-1].endW := by simp [prvS, hlt1]; omega
          have he1 : IntKind.i64.wrap (l[k-1].time + l[k-1].step) = l[k-1].endW := rfl
          repeat' first | ((with_reducible (first | refine condD ?_ ?_ | refine condE ?_ ?_ | refine condN ?_ ?_ | refine condI ?_ ?_ | refine condS ?_ ?_)) <;> intro h) | ((with_reducible (first | refine guardD (by with_unfolding_all rfl) ?_ ?_ | refine guardE (by with_unfolding_all rfl) ?_ ?_ | refine guardN (by with_unfolding_all rfl) ?_ ?_ | refine guardI (by with_unfolding_all rfl) ?_ ?_ | refine guardS (by with_unfolding_all rfl) ?_ ?_)) <;> intro h) | ((refine callG (notime_c _) ?_)) | ((refine callG (out_c _ _ _) ?_)) | (with_reducible refine And.intro ?_ ?_; omega) | (simp only [Z0,Z1,Z2,Z3,Z4,Z5,Z6,Z7,Z8,Z9,Za,Zb,Zc,Zd,Ze,Zf,List.cons.injEq,Zg,Zh,Zi,Zj,Zk,Zl,Zm,Zn,Zo,Zp,beq_self_eq_true,bne_self_eq_false,decide_true,decide_false,Zq,Zr,Zs,Zt,Zu,Zv,Zw,Zx,Zy,Zz,Y0,Y1,Y2,Y3,Y4,Y5,Y6,Y7,Y8,Y9,Ya,Yb,Yc,Yd,Ye,Yf,Yg,Yh,lk,ef,Yi,Yj,Yk,Yl,Ym,Yn,Yo,Yq,Ys,Yt,Yu,hv,Yv,ev,Yw,Yx,Yy,Yz,X0,X1,X2,X3,X4,X5,X6,X7,X8,X9,Xa,Xb,Xc,Xd,Xe,Xf,Xg,Xh,Xi,Xj,Xk,Xl,Xm,Xn,Xo,Xp,Xq,Xr,Xs,Value.oneCell',Xt,Xu,Xv,Xw,true_and,and_true,and_self,implies_true,Xx,Xy,Xz,W0,false_implies,W1,W2,W3,W4,W5,W6,W7,W8,W9,Wa,Wb,Wc,Wd,We,Wf,Wg,Wh,reduceCtorEq,if_true,if_false,Wi,↓reduceIte,Wj,Wk,Wl,Wm,Wn,Wo,ne_eq,not_false_eq_true,not_true_eq_false,Wp,Wq,r40_0,r40_1,r40_2,r40_3,r40_4,r40_5,r40_6,r40_7,r40_8,r40_9,r40_10,r40_11,r40_12,r40_13,r40_14,p40,l40_0,Smp.av,getD_map hlt,getD_map hlt1,hw1,he1]) | (exfalso; omega)
          all_goals try (clear hJ; simp [hr0, hr, badSmp, *]; done)
          exact again hJ (k + 1) (weak_mk (by simp only [Wr,Ws,wk1,Wt,Wu,Wv,Z4,Z5,Z6,Z7,Z8,Z9,Za,Zb,Zc,Zd,Ze,Zf,List.cons.injEq,Zg,Zh,Zi,Zj,Zk,Zl,Zm,Zn,Zo,Zp,beq_self_eq_true,bne_self_eq_false,decide_true,decide_false,Zq,Zr,Zs,Zt,Zu,Zv,Zw,Zx,Zy,Zz,Y0,hv,Yv,ev,Yw,Yx,Yy,Yz,X0,X1,X2,X3,X4,X5,X6,X7,X8,X9,Xa,Xb,Xc,Xd,Xe,Xf,Xg,Xh,Xi,Xj,Xk,Xl,Xm,Xn,Xo,Xp,Xq,Xr,Xs,Value.oneCell',Xt,Xu,Xv,Xw,true_and,and_true,and_self,implies_true,Xx,Xy,Xz,W0,false_implies,W1,W2,W3,W4,W5,W6,W7,W8,W9,Wa,Wb,Wc,Wd,We,Wf,Wg,Wh,reduceCtorEq,if_true,if_false,Wi,↓reduceIte,Wj,Wk,Wl,Wm,Wn,Wo,ne_eq,not_false_eq_true,not_true_eq_false,Wp,Nat.zero_ne_one]; exact hw)) ⟨by omega, by rw [hr, if_neg (by simp only [badSmp, Bool.or_eq_true, not_or, Bool.not_eq_true]; refine ⟨⟨⟨?_, ?_⟩, ?_⟩, ?_⟩ <;> assumption), if_neg (by simpa [hpv] using h)]⟩ (by omega)
      · have hke : k = l.length := by omega
        subst hke
        have hz : smpGo none l = 0 := by rw [hg]; simp [smpGo]
        clear hg hJ
        rcases Nat.eq_zero_or_pos l.length with h0 | hp
        · have hn : l = [] := List.eq_nil_of_length_eq_zero h0
          subst hn
          repeat' first | ((with_reducible (first | refine condD ?_ ?_ | refine condE ?_ ?_ | refine condN ?_ ?_ | refine condI ?_ ?_ | refine condS ?_ ?_)) <;> intro h) | ((with_reducible (first | refine guardD (by with_unfolding_all rfl) ?_ ?_ | refine guardE (by with_unfolding_all rfl) ?_ ?_ | refine guardN (by with_unfolding_all rfl) ?_ ?_ | refine guardI (by with_unfolding_all rfl) ?_ ?_ | refine guardS (by with_unfolding_all rfl) ?_ ?_)) <;> intro h) | (with_reducible refine And.intro ?_ ?_; omega) | (simp only [Z0,Z1,Z2,Z3,Z4,Z5,Z6,Z7,Z8,Z9,Za,Zb,Zc,Zd,Ze,Zf,List.cons.injEq,Zg,Zh,Zi,Zj,Zk,Zl,Zm,Zn,Zo,Zp,beq_self_eq_true,bne_self_eq_false,decide_true,decide_false,Zq,Zr,Zs,Zt,Zu,Zv,Zw,Zx,Zy,Zz,Y0,Y1,Y2,Y3,Y4,Y5,Y6,Y7,Y8,Y9,Ya,Yb,Yc,Yd,Ye,Yf,Yg,Yh,lk,ef,Yi,Yj,Yk,Yl,Ym,Yn,Yo,Yq,Ys,Yt,Yu,hv,Yv,ev,Yw,Yx,Yy,Yz,X0,X1,X2,X3,X4,X5,X6,X7,X8,X9,Xa,Xb,Xc,Xd,Xe,Xf,Xg,Xh,Xi,Xj,Xk,Xl,Xm,Xn,Xo,Xp,Xq,Xr,Xs,Value.oneCell',Xt,Xu,Xv,Xw,true_and,and_true,and_self,implies_true,Xx,Xy,Xz,W0,false_implies,W1,W2,W3,W4,W5,W6,W7,W8,W9,Wa,Wb,Wc,Wd,We,Wf,Wg,Wh,reduceCtorEq,if_true,if_false,Wi,↓reduceIte,Wj,Wk,Wl,Wm,Wn,Wo,ne_eq,not_false_eq_true,not_true_eq_false,Wp,Wq,r40_0,r40_1,r40_2,r40_3,r40_4,r40_5,r40_6,r40_7,r40_8,r40_9,r40_10,r40_11,r40_12,r40_13,r40_14,p40,l40_0,W2,Int.natCast_zero]) | (exfalso; omega)
          all_goals simp [hr0, hz]
        · have hlt1 : l.length - 1 < l.length := by omega
          have hw1 : IntKind.i64.wrap (l.length - 1 : Int) = ((l.length - 1 : Nat) : Int) := by rw [wrap_in (by omega) (by omega)]; omega
          have he1 : IntKind.i64.wrap (l[l.length-1].time + l[l.length-1].step) = l[l.length-1].endW := rfl
          have hlast : l.getLast? = some l[l.length-1] := by rw [List.getLast?_eq_getElem?, List.getElem?_eq_getElem hlt1]
          repeat' first | ((with_reducible (first | refine condD ?_ ?_ | refine condE ?_ ?_ | refine condN ?_ ?_ | refine condI ?_ ?_ | refine condS ?_ ?_)) <;> intro h) | ((with_reducible (first | refine guardD (by with_unfolding_all rfl) ?_ ?_ | refine guardE (by with_unfolding_all rfl) ?_ ?_ | refine guardN (by with_unfolding_all rfl) ?_ ?_ | refine guardI (by with_unfolding_all rfl) ?_ ?_ | refine guardS (by with_unfolding_all rfl) ?_ ?_)) <;> intro h) | ((refine callG (notime_c _) ?_)) | (with_reducible refine And.intro ?_ ?_; omega) | (simp only [Z0,Z1,Z2,Z3,Z4,Z5,Z6,Z7,Z8,Z9,Za,Zb,Zc,Zd,Ze,Zf,List.cons.injEq,Zg,Zh,Zi,Zj,Zk,Zl,Zm,Zn,Zo,Zp,beq_self_eq_true,bne_self_eq_false,decide_true,decide_false,Zq,Zr,Zs,Zt,Zu,Zv,Zw,Zx,Zy,Zz,Y0,Y1,Y2,Y3,Y4,Y5,Y6,Y7,Y8,Y9,Ya,Yb,Yc,Yd,Ye,Yf,Yg,Yh,lk,ef,Yi,Yj,Yk,Yl,Ym,Yn,Yo,Yq,Ys,Yt,Yu,hv,Yv,ev,Yw,Yx,Yy,Yz,X0,X1,X2,X3,X4,X5,X6,X7,X8,X9,Xa,Xb,Xc,Xd,Xe,Xf,Xg,Xh,Xi,Xj,Xk,Xl,Xm,Xn,Xo,Xp,Xq,Xr,Xs,Value.oneCell',Xt,Xu,Xv,Xw,true_and,and_true,and_self,implies_true,Xx,Xy,Xz,W0,false_implies,W1,W2,W3,W4,W5,W6,W7,W8,W9,Wa,Wb,Wc,Wd,We,Wf,Wg,Wh,reduceCtorEq,if_true,if_false,Wi,↓reduceIte,Wj,Wk,Wl,Wm,Wn,Wo,ne_eq,not_false_eq_true,not_true_eq_false,Wp,Wq,r40_0,r40_1,r40_2,r40_3,r40_4,r40_5,r40_6,r40_7,r40_8,r40_9,r40_10,r40_11,r40_12,r40_13,r40_14,p40,l40_0,Smp.av,getD_map hlt1,hw1,he1]) | (exfalso; omega)
          all_goals simp [hr0, hz, hlast, *]
end Go.Proofs.Ytpecmhdepggnoaa
/- Parts of a segment: cut.strandFault, Pieces, by the machine on data. -/
namespace Go.Proofs.Ytpecmhdepggnoaa
open Go.RowKit
open Go.Proofs.Ytpecmhdepggnoaa renaming done_eq → Z0, done_eq' → Z1, donet_eq → Z2, donet_eq' → Z3, fin_val → Z4, fin_tup → Z5, fin_agg → Z6, fin_ro → Z7, res_one → Z8, res_more → Z9, rv_t → Za, rv_c → Zb, rv_l → Zc, int_eq → Zg, bool_eq → Zh, toNat_pred → Zr, toNat_succ → Zs, cnd_t → Zu, cnd_f → Zv, grd_tt → Zw, grd_u → Zx, grd_tf → Zy, grd_ft → Zz, grd_ff → Y0, g_skip → Y1, g_block → Y2, g_exit → Y3, g_cond → Y4, o_guard → Y5, o_call → Y6, o_load → Y7, o_loads → Y8, o_alloc → Y9, o_boxs → Ya, o_stores → Yb, eqAV → Yc, view_t → Yd, view_c → Ye, view_nil → Yf, view_fn → Yg, look_own → Yh, look_box → Yi, look_junk → Yj, look_val → Yk, look_nilsl → Yl, look_ro → Ym, look_roAt → Yn, look_agg → Yo, look_tup → Yp, look_clo → Yq, look_alias → Yr, look_ref → Ys, look_into → Yt, rowOf → Yu, cellsOf → Yv, argv → Yw, vbin → Yx, elemOf → Yy, putParts → Yz, setAt → X0, put_at → X7, mk_at → X8, mk_nil → X9, initSt → Xa
open Go.Proofs.Ytpecmhdepggnoaa.AV.tup renaming injEq → Zd
open Go.Proofs.Ytpecmhdepggnoaa.AV.agg renaming injEq → Ze
open Go.Proofs.Ytpecmhdepggnoaa.AV.ro renaming injEq → Zf
open _root_.Int renaming toNat_natCast → Zi, reduceToNat → Zj, toNat_zero → Zk, toNat_one → Zl, reduceLE → Zm, reduceLT → Zn, reduceBEq → Zo, reduceBNe → Zp, reduceNeg → Zq
open _root_.List renaming length_map → Zt, map_cons → Xb, map_nil → Xc, forall_mem_cons → Xd, not_mem_nil → Xe, length_cons → Xf, length_nil → Xg, getD_cons_zero → Xh, getD_cons_succ → Xi, getD_nil → Xj, drop_succ_cons → Xk, drop_zero → Xl, take_succ_cons → Xm, take_zero → Xn, set_cons_zero → Xo, set_cons_succ → Xp, all_cons → Xq, all_nil → Xr
open Go.Proofs.Ytpecmhdepggnoaa.ASt renaming rid → X1, free → X2
open Go.Proofs.Ytpecmhdepggnoaa.AV renaming kill → X3, isHome → X4, noLoan → X5, cellOK → X6
open _root_.Bool renaming and_true → Xs, true_and → Xt, not_true → Xu, not_false → Xv, false_eq_true → Xw
open _root_.Nat renaming reduceEqDiff → Xx, reduceAdd → Xy, reduceSub → Xz, reduceMul → W0, reduceLeDiff → W1, reduceLT → W2, one_ne_zero → W3, zero_ne_one → W4
open Go.Proofs.Ytpecmhdepggnoaa.AV.val renaming injEq → W5
set_option linter.unusedSimpArgs false

structure Str where
  name : ByteArray
  scale : Int
  sound : Bool
  smps : List Smp
def Str.av (r : Str) : List AV := [.val (.string r.name), .val (.int .i64 r.scale), .val (.bool r.sound), .ro (r.smps.map Smp.av)]

/-! headend/cut.strandFault -/
def r47_0 : List POp := [⟨2, .boxs (.t 0), none⟩,
  ⟨4, .asg (.c (.int .i64 0)), none⟩]
def r47_1 : List POp := [⟨8, .fld 0 (.t 2), none⟩,
  ⟨9, .load (.t 8), none⟩,
  ⟨10, .call 76 [.t 9], none⟩,
  ⟨11, .un .not (.t 10), none⟩]
def r47_2 : List POp := [⟨4, .asg (.c (.int .i64 5)), none⟩]
def r47_3 : List POp := [⟨12, .mv (.t 1), none⟩,
  ⟨13, .len (.t 12), none⟩,
  ⟨14, .mv (.c (.int .i64 0)), none⟩]
def r47_4 : List POp := [⟨15, .bin .lss (.t 14) (.t 13), none⟩]
def r47_5 : List POp := [⟨16, .idx 4 (.t 12) (.t 14), none⟩,
  ⟨17, .loads 4 (.t 16), none⟩,
  ⟨6, .alloc [.string ⟨#[]⟩, .int .i64 0, .bool false, .slice none 0 0], none⟩,
  ⟨0, .stores 4 (.t 6) (.t 17), none⟩]
def r47_6 : List POp := [⟨18, .fld 0 (.t 6), none⟩,
  ⟨19, .load (.t 18), none⟩,
  ⟨20, .fld 0 (.t 2), none⟩,
  ⟨21, .load (.t 20), none⟩,
  ⟨22, .bin .eql (.t 19) (.t 21), none⟩]
def r47_7 : List POp := [⟨4, .asg (.c (.int .i64 7)), none⟩]
def r47_8 : List POp := [⟨23, .bin .add (.t 14) (.c (.int .i64 1)), none⟩,
  ⟨14, .mv (.t 23), none⟩]
def r47_9 : List POp := [⟨24, .fld 1 (.t 2), none⟩,
  ⟨25, .load (.t 24), none⟩,
  ⟨26, .call 59 [.t 25], none⟩]
def r47_10 : List POp := [⟨4, .asg (.c (.int .i64 1)), none⟩]
def r47_11 : List POp := [⟨27, .fld 3 (.t 2), none⟩,
  ⟨28, .load (.t 27), none⟩,
  ⟨29, .call 40 [.t 28], none⟩,
  ⟨7, .asg (.t 29), none⟩]
def r47_12 : List POp := [⟨30, .mv (.t 7), none⟩,
  ⟨31, .bin .neq (.t 30) (.c (.int .i64 0)), none⟩]
def r47_13 : List POp := [⟨32, .mv (.t 7), none⟩,
  ⟨4, .asg (.t 32), none⟩]
def r47_14 : List POp := [⟨33, .fld 3 (.t 2), none⟩,
  ⟨34, .load (.t 33), none⟩,
  ⟨35, .len (.t 34), none⟩,
  ⟨36, .bin .eql (.t 35) (.c (.int .i64 0)), none⟩]
def r47_15 : List POp := [⟨4, .asg (.c (.int .i64 9)), none⟩]
def r47_16 : List POp := [⟨4, .asg (.c (.int .i64 0)), none⟩]
def l47_0 : PCode := .seq (.ops r47_4) (.seq (.cond (.t 15) (.skip) (.exit 0)) (.seq (.block 1 (.seq (.ops r47_5) (.seq (.ops r47_6) (.cond (.t 22) (.seq (.ops r47_7) (.ret)) (.skip))))) (.ops r47_8)))
def p47 : PCode := .seq (.ops r47_0) (.seq (.seq (.ops r47_1) (.cond (.t 11) (.seq (.ops r47_2) (.ret)) (.skip))) (.seq (.seq (.ops r47_3) (.block 0 (.loop l47_0))) (.seq (.seq (.ops r47_9) (.cond (.t 26) (.seq (.ops r47_10) (.ret)) (.skip))) (.seq (.seq (.ops r47_11) (.seq (.ops r47_12) (.cond (.t 31) (.seq (.ops r47_13) (.ret)) (.skip)))) (.seq (.seq (.ops r47_14) (.cond (.t 36) (.seq (.ops r47_15) (.ret)) (.skip))) (.seq (.ops r47_16) (.ret)))))))
theorem ok47 : okFunc Try.prog 47 [.t 4] 2 p47 = true := by kernel_rfl
def named (n : ByteArray) : List Str → Bool
  | [] => false
  | o :: r => (o.name.toList == n.toList) || named n r
def strF2 (r : Str) : Int := if noScale r.scale then 1 else if smpF r.smps ≠ 0 then smpF r.smps else if (r.smps.length : Int) = 0 then 9 else 0
def strF (r : Str) (e : List Str) : Int := if isNameB r.name = false then 5 else if named r.name e then 7 else strF2 r
theorem strand_c (r : Str) (e : List Str) (he : e.length ≤ 1000000000) : CallOK Try.prog 47 [.agg r.av, .ro (e.map Str.av)] (.val (.int .i64 (strF r e))) := by
  refine call_of mixed ok47 rfl ?_
  repeat' first | ((with_reducible (first | refine condD ?_ ?_ | refine condE ?_ ?_ | refine condN ?_ ?_ | refine condI ?_ ?_ | refine condS ?_ ?_)) <;> intro h) | ((refine callG (name_c _) ?_)) | (with_reducible refine And.intro ?_ ?_; omega) | (simp only [Z0,Z1,Z2,Z3,Z4,Z5,Z6,Z7,Z8,Z9,Za,Zb,Zc,Zd,Ze,Zf,List.cons.injEq,Zg,Zh,Zi,Zj,Zk,Zl,Zm,Zn,Zo,Zp,beq_self_eq_true,bne_self_eq_false,decide_true,decide_false,Zq,Zr,Zs,Zt,Zu,Zv,Zw,Zx,Zy,Zz,Y0,Y1,g_ops,g_seq,Y2,Y3,g_ret,x_c,x_o,x_l,x_b,g_b,g_nil,r_all,o_nil,Y4,Y5,Y6,lk,ef,o_mv,o_bin,o_un,Y7,Y8,o_fld,o_idx,o_len,Y9,Ya,o_asg,Yb,hv,Yc,ev,Yd,Ye,Yf,Yg,Yh,Yi,Yj,Yk,Yl,Ym,Yn,Yo,Yp,Yq,Yr,Ys,Yt,Yu,Yv,Yw,Yx,vun,bnd,Yy,Yz,X0,zav,X1,X2,X3,X4,X5,X6,Value.oneCell',X7,X8,X9,Xa,true_and,and_true,and_self,implies_true,Xb,Xc,Xd,Xe,false_implies,Xf,Xg,Xh,Xi,Xj,Xk,Xl,Xm,Xn,Xo,Xp,Xq,Xr,Xs,Xt,Xu,Xv,reduceCtorEq,if_true,if_false,Xw,↓reduceIte,Xx,Xy,Xz,W0,W1,W2,ne_eq,not_false_eq_true,not_true_eq_false,W3,W4,r47_0,r47_1,r47_2,r47_3,r47_4,r47_5,r47_6,r47_7,r47_8,r47_9,r47_10,r47_11,r47_12,r47_13,r47_14,r47_15,r47_16,p47,Str.av]) | (exfalso; omega)
  · rw [strF, if_pos h]
  · have hn := h
    refine loopS (fun k : Nat => mk [(2, .box r.av), (12, .ro (e.map Str.av)), (13, .val (.int .i64 e.length)), (14, .val (.int .i64 k))]) (fun k => k ≤ e.length ∧ named r.name e = named r.name (e.drop k)) (fun k => e.length - k) 0 (weak_mk ?_) ⟨Nat.zero_le _, rfl⟩ ?_
    · simp only [wk_cons,wk_nil,wk1,vint_eq,vbool_eq,W5,Z4,Z5,Z6,Z7,Z8,Z9,Za,Zb,Zc,Zd,Ze,Zf,List.cons.injEq,Zg,Zh,Zi,Zj,Zk,Zl,Zm,Zn,Zo,Zp,beq_self_eq_true,bne_self_eq_false,decide_true,decide_false,Zq,Zr,Zs,Zt,Zu,Zv,Zw,Zx,Zy,Zz,Y0,hv,Yc,ev,Yd,Ye,Yf,Yg,Yh,Yi,Yj,Yk,Yl,Ym,Yn,Yo,Yp,Yq,Yr,Ys,Yt,Yu,Yv,Yw,Yx,vun,bnd,Yy,Yz,X0,zav,X1,X2,X3,X4,X5,X6,Value.oneCell',X7,X8,X9,Xa,true_and,and_true,and_self,implies_true,Xb,Xc,Xd,Xe,false_implies,Xf,Xg,Xh,Xi,Xj,Xk,Xl,Xm,Xn,Xo,Xp,Xq,Xr,Xs,Xt,Xu,Xv,reduceCtorEq,if_true,if_false,Xw,↓reduceIte,Xx,Xy,Xz,W0,W1,W2,ne_eq,not_false_eq_true,not_true_eq_false,W3,Nat.zero_ne_one]
      simp [Str.av]
    · rintro J hJ k ⟨hk, hg⟩
      simp only [Z0,Z1,Z2,Z3,Z4,Z5,Z6,Z7,Z8,Z9,Za,Zb,Zc,Zd,Ze,Zf,List.cons.injEq,Zg,Zh,Zi,Zj,Zk,Zl,Zm,Zn,Zo,Zp,beq_self_eq_true,bne_self_eq_false,decide_true,decide_false,Zq,Zr,Zs,Zt,Zu,Zv,Zw,Zx,Zy,Zz,Y0,Y1,g_ops,g_seq,Y2,Y3,g_ret,x_c,x_o,x_l,x_b,g_b,g_nil,r_all,o_nil,Y4,Y5,Y6,lk,ef,o_mv,o_bin,o_un,Y7,Y8,o_fld,o_idx,o_len,Y9,Ya,o_asg,Yb,hv,Yc,ev,Yd,Ye,Yf,Yg,Yh,Yi,Yj,Yk,Yl,Ym,Yn,Yo,Yp,Yq,Yr,Ys,Yt,Yu,Yv,Yw,Yx,vun,bnd,Yy,Yz,X0,zav,X1,X2,X3,X4,X5,X6,Value.oneCell',X7,X8,X9,Xa,true_and,and_true,and_self,implies_true,Xb,Xc,Xd,Xe,false_implies,Xf,Xg,Xh,Xi,Xj,Xk,Xl,Xm,Xn,Xo,Xp,Xq,Xr,Xs,Xt,Xu,Xv,reduceCtorEq,if_true,if_false,Xw,↓reduceIte,Xx,Xy,Xz,W0,W1,W2,ne_eq,not_false_eq_true,not_true_eq_false,W3,W4,r47_0,r47_1,r47_2,r47_3,r47_4,r47_5,r47_6,r47_7,r47_8,r47_9,r47_10,r47_11,r47_12,r47_13,r47_14,r47_15,r47_16,p47,l47_0]
      refine condD (fun h => ?_) (fun h => ?_)
      · have hlt : k < e.length := by omega
        have hr : named r.name e = ((e[k].name.toList == r.name.toList) || named r.name (e.drop (k + 1))) := by rw [hg, List.drop_eq_getElem_cons hlt, named]
        have hw : IntKind.i64.wrap (k + 1 : Int) = ((k + 1 : Nat) : Int) := wrap_in (by omega) (by omega)
        clear hg
        repeat' first | ((with_reducible (first | refine condD ?_ ?_ | refine condE ?_ ?_ | refine condN ?_ ?_ | refine condI ?_ ?_ | refine condS ?_ ?_)) <;> intro h) | (with_reducible refine And.intro ?_ ?_; omega) | (simp only [Z0,Z1,Z2,Z3,Z4,Z5,Z6,Z7,Z8,Z9,Za,Zb,Zc,Zd,Ze,Zf,List.cons.injEq,Zg,Zh,Zi,Zj,Zk,Zl,Zm,Zn,Zo,Zp,beq_self_eq_true,bne_self_eq_false,decide_true,decide_false,Zq,Zr,Zs,Zt,Zu,Zv,Zw,Zx,Zy,Zz,Y0,Y1,g_ops,g_seq,Y2,Y3,g_ret,x_c,x_o,x_l,x_b,g_b,g_nil,r_all,o_nil,Y4,Y5,Y6,lk,ef,o_mv,o_bin,o_un,Y7,Y8,o_fld,o_idx,o_len,Y9,Ya,o_asg,Yb,hv,Yc,ev,Yd,Ye,Yf,Yg,Yh,Yi,Yj,Yk,Yl,Ym,Yn,Yo,Yp,Yq,Yr,Ys,Yt,Yu,Yv,Yw,Yx,vun,bnd,Yy,Yz,X0,zav,X1,X2,X3,X4,X5,X6,Value.oneCell',X7,X8,X9,Xa,true_and,and_true,and_self,implies_true,Xb,Xc,Xd,Xe,false_implies,Xf,Xg,Xh,Xi,Xj,Xk,Xl,Xm,Xn,Xo,Xp,Xq,Xr,Xs,Xt,Xu,Xv,reduceCtorEq,if_true,if_false,Xw,↓reduceIte,Xx,Xy,Xz,W0,W1,W2,ne_eq,not_false_eq_true,not_true_eq_false,W3,W4,r47_0,r47_1,r47_2,r47_3,r47_4,r47_5,r47_6,r47_7,r47_8,r47_9,r47_10,r47_11,r47_12,r47_13,r47_14,r47_15,r47_16,p47,l47_0,Str.av,getD_map hlt]) | (exfalso; omega)
        · rw [strF, if_neg (by simp [hn]), if_pos (by rw [hr, h]; rfl)]
        · exact again hJ (k + 1) (weak_mk (by simp only [wk_cons,wk_nil,wk1,vint_eq,vbool_eq,W5,Z4,Z5,Z6,Z7,Z8,Z9,Za,Zb,Zc,Zd,Ze,Zf,List.cons.injEq,Zg,Zh,Zi,Zj,Zk,Zl,Zm,Zn,Zo,Zp,beq_self_eq_true,bne_self_eq_false,decide_true,decide_false,Zq,Zr,Zs,Zt,Zu,Zv,Zw,Zx,Zy,Zz,Y0,hv,Yc,ev,Yd,Ye,Yf,Yg,Yh,Yi,Yj,Yk,Yl,Ym,Yn,Yo,Yp,Yq,Yr,Ys,Yt,Yu,Yv,Yw,Yx,vun,bnd,Yy,Yz,X0,zav,X1,X2,X3,X4,X5,X6,Value.oneCell',X7,X8,X9,Xa,true_and,and_true,and_self,implies_true,Xb,Xc,Xd,Xe,false_implies,Xf,Xg,Xh,Xi,Xj,Xk,Xl,Xm,Xn,Xo,Xp,Xq,Xr,Xs,Xt,Xu,Xv,reduceCtorEq,if_true,if_false,Xw,↓reduceIte,Xx,Xy,Xz,W0,W1,W2,ne_eq,not_false_eq_true,not_true_eq_false,W3,Nat.zero_ne_one]; exact ⟨by simp [Str.av], hw⟩)) ⟨by omega, by rw [hr, h]; rfl⟩ (by omega)
      · have hke : k = e.length := by omega
        subst hke
        have hz : strF r e = strF2 r := by rw [strF, if_neg (by simp [hn]), if_neg (by rw [hg]; simp [named])]
        clear hg hJ
        repeat' first | ((with_reducible (first | refine condD ?_ ?_ | refine condE ?_ ?_ | refine condN ?_ ?_ | refine condI ?_ ?_ | refine condS ?_ ?_)) <;> intro h) | ((refine callG (noscale_c _) ?_)) | ((refine callG (smp_c _) ?_)) | (with_reducible refine And.intro ?_ ?_; omega) | (simp only [Z0,Z1,Z2,Z3,Z4,Z5,Z6,Z7,Z8,Z9,Za,Zb,Zc,Zd,Ze,Zf,List.cons.injEq,Zg,Zh,Zi,Zj,Zk,Zl,Zm,Zn,Zo,Zp,beq_self_eq_true,bne_self_eq_false,decide_true,decide_false,Zq,Zr,Zs,Zt,Zu,Zv,Zw,Zx,Zy,Zz,Y0,Y1,g_ops,g_seq,Y2,Y3,g_ret,x_c,x_o,x_l,x_b,g_b,g_nil,r_all,o_nil,Y4,Y5,Y6,lk,ef,o_mv,o_bin,o_un,Y7,Y8,o_fld,o_idx,o_len,Y9,Ya,o_asg,Yb,hv,Yc,ev,Yd,Ye,Yf,Yg,Yh,Yi,Yj,Yk,Yl,Ym,Yn,Yo,Yp,Yq,Yr,Ys,Yt,Yu,Yv,Yw,Yx,vun,bnd,Yy,Yz,X0,zav,X1,X2,X3,X4,X5,X6,Value.oneCell',X7,X8,X9,Xa,true_and,and_true,and_self,implies_true,Xb,Xc,Xd,Xe,false_implies,Xf,Xg,Xh,Xi,Xj,Xk,Xl,Xm,Xn,Xo,Xp,Xq,Xr,Xs,Xt,Xu,Xv,reduceCtorEq,if_true,if_false,Xw,↓reduceIte,Xx,Xy,Xz,W0,W1,W2,ne_eq,not_false_eq_true,not_true_eq_false,W3,W4,r47_0,r47_1,r47_2,r47_3,r47_4,r47_5,r47_6,r47_7,r47_8,r47_9,r47_10,r47_11,r47_12,r47_13,r47_14,r47_15,r47_16,p47,l47_0,Str.av]) | (exfalso; omega)
        all_goals simp [hz, strF2, *]
        intro e0
        simp [e0] at h

structure Pc where
  frm : Nat
  to : Nat
  len : Int
  free : Bool
def Pc.av (p : Pc) : List AV := [.val (.int .i64 p.frm), .val (.int .i64 p.to), .val (.int .i64 p.len), .val (.bool p.free)]
def pcStep (tgt : Int) (i : Nat) (x : Smp) (out : List Pc) : List Pc := match out.getLast? with
  | some p => if IntKind.i64.wrap (p.len + x.step) ≤ tgt then out.dropLast ++ [⟨p.frm, p.to + 1, IntKind.i64.wrap (p.len + x.step), p.free⟩] else out ++ [⟨i, i + 1, x.step, x.key⟩]
  | none => [⟨i, i + 1, x.step, x.key⟩]
def pcGo (tgt : Int) : Nat → List Pc → List Smp → List Pc
  | _, out, [] => out
  | i, out, x :: r => pcGo tgt (i + 1) (pcStep tgt i x out) r
theorem pcStep_last (tgt : Int) (i : Nat) (x : Smp) (pre : List Pc) (p : Pc) : pcStep tgt i x (pre ++ [p]) = if IntKind.i64.wrap (p.len + x.step) ≤ tgt then pre ++ [⟨p.frm, p.to + 1, IntKind.i64.wrap (p.len + x.step), p.free⟩] else pre ++ [p] ++ [⟨i, i + 1, x.step, x.key⟩] := by
  simp [pcStep]
theorem getD_last {α β : Type} (f : α → β) (l : List α) (c d : β) : (l.map f ++ [c]).getD l.length d = c := by
  rw [List.getD_eq_getElem?_getD, List.getElem?_append_right (by simp)]; simp
theorem set_last {α β : Type} (f : α → β) (l : List α) (c d : β) : (l.map f ++ [c]).set l.length d = l.map f ++ [d] := by
  rw [List.set_append_right _ _ (by simp)]; simp
theorem nil_or_last {α : Type} (l : List α) : l = [] ∨ ∃ pre p, l = pre ++ [p] := by
  rcases List.eq_nil_or_concat l with h | ⟨pre, p, h⟩
  · exact .inl h
  · exact .inr ⟨pre, p, by simpa using h⟩
end Go.Proofs.Ytpecmhdepggnoaa
