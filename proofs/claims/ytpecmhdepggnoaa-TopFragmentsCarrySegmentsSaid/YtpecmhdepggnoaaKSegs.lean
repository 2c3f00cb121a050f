/- Segments of a rendition: cut.segments, by the machine on data. -/
import Derived.Test.YtpecmhdepggnoaaKFstS
import Derived.Test.YtpecmhdepggnoaaKGrid
import Derived.Test.YtpecmhdepggnoaaKNeed
namespace Go.Proofs.Ytpecmhdepggnoaa
open Go.RowKit
open Go.Proofs.Ytpecmhdepggnoaa renaming done_eq → Z0, done_eq' → Z1, donet_eq → Z2, donet_eq' → Z3, fin_val → Z4, fin_tup → Z5, fin_agg → Z6, fin_ro → Z7, res_one → Z8, res_more → Z9, rv_t → Za, rv_c → Zb, rv_l → Zc, int_eq → Zg, bool_eq → Zh, toNat_pred → Zr, toNat_succ → Zs, cnd_t → Zu, cnd_f → Zv, grd_tt → Zw, grd_u → Zx, grd_tf → Zy, grd_ft → Zz, grd_ff → Y0, g_skip → Y1, g_ops → Y2, g_seq → Y3, g_block → Y4, g_exit → Y5, g_ret → Y6, x_c → Y7, x_o → Y8, x_l → Y9, x_b → Ya, g_b → Yb, g_nil → Yc, r_all → Yd, o_nil → Ye, g_cond → Yf, o_guard → Yg, o_call → Yh, o_mv → Yi, o_bin → Yj, o_load → Yk, o_loads → Yl, o_fld → Ym, o_idx → Yn, o_len → Yo, o_ext → Yp, o_slc → Yq, o_build → Yr, o_minmax → Ys, o_alloc → Yt, o_boxs → Yu, o_row → Yv, o_asg → Yw, o_app → Yx, o_store → Yy, o_stores → Yz, eqAV → X0, view_t → X1, view_c → X2, view_nil → X3, view_fn → X4, look_own → X5, look_box → X6, look_junk → X7, look_val → X8, look_nilsl → X9, look_ro → Xa, look_roAt → Xb, look_agg → Xc, look_tup → Xd, look_clo → Xe, look_alias → Xf, look_ref → Xg, look_into → Xh, rowOf → Xi, cellsOf → Xj, argv → Xk, vbin → Xl, vun → Xm, bnd → Xn, elemOf → Xo, putParts → Xp, setAt → Xq, zav → Xr, put_at → Xy, mk_at → Xz, mk_nil → W0, initSt → W1, wk_cons → Ww, wk_nil → Wx, vint_eq → Wy, vbool_eq → Wz
open Go.Proofs.Ytpecmhdepggnoaa.AV.tup renaming injEq → Zd
open Go.Proofs.Ytpecmhdepggnoaa.AV.agg renaming injEq → Ze
open Go.Proofs.Ytpecmhdepggnoaa.AV.ro renaming injEq → Zf
open _root_.Int renaming toNat_natCast → Zi, reduceToNat → Zj, toNat_zero → Zk, toNat_one → Zl, reduceLE → Zm, reduceLT → Zn, reduceBEq → Zo, reduceBNe → Zp, reduceNeg → Zq
open _root_.List renaming length_map → Zt, map_cons → W2, map_nil → W3, forall_mem_cons → W4, not_mem_nil → W5, length_cons → W6, length_nil → W7, getD_cons_zero → W8, getD_cons_succ → W9, getD_nil → Wa, drop_succ_cons → Wb, drop_zero → Wc, take_succ_cons → Wd, take_zero → We, set_cons_zero → Wf, set_cons_succ → Wg, all_cons → Wh, all_nil → Wi
open Go.Proofs.Ytpecmhdepggnoaa.ASt renaming rid → Xs, free → Xt
open Go.Proofs.Ytpecmhdepggnoaa.AV renaming kill → Xu, isHome → Xv, noLoan → Xw, cellOK → Xx
open _root_.Bool renaming and_true → Wj, true_and → Wk, not_true → Wl, not_false → Wm, false_eq_true → Wn
open _root_.Nat renaming reduceEqDiff → Wo, reduceAdd → Wp, reduceSub → Wq, reduceMul → Wr, reduceLeDiff → Ws, reduceLT → Wt, one_ne_zero → Wu, zero_ne_one → Wv
open Go.Proofs.Ytpecmhdepggnoaa.AV.val renaming injEq → V0
set_option linter.unusedSimpArgs false

def segTo (n : Nat) (F : List Nat) (k : Nat) : Nat := if k + 1 < F.length then F.getD (k + 1) 0 else n
def segLen (r : Str) (F : List Nat) (cu : List Int) (k : Nat) : Int :=
  if k + 1 < F.length then IntKind.i64.wrap (cu.getD (k + 1) 0 - cu.getD k 0) else IntKind.i64.wrap (Go.Lib.maxOf (((endsL r.smps).take (endsL r.smps).length).drop (F.getD k 0)) - cu.getD k 0)
def posW (v : Int) : Int := if 0 < v then v else 0
def segAt (r : Str) (first : Int) (F : List Nat) (cu : List Int) (k : Nat) : Seg :=
  ⟨IntKind.i64.wrap (first + k), (F.getD k 0 : Nat), (segTo r.smps.length F k : Nat), (presL r.smps).getD (F.getD k 0) 0, segLen r F cu k, bytesF ((r.smps.take (segTo r.smps.length F k)).drop (F.getD k 0)) 0, if r.sound then posW (IntKind.i64.wrap (cu.getD k 0 - (presL r.smps).getD (F.getD k 0) 0)) else 0⟩
def segsL (r : Str) (first : Int) (F : List Nat) (cu : List Int) : List Seg := (List.range F.length).map (segAt r first F cu)
def segF (r : Str) (scale : Int) (B : List Int) (first : Int) : List Seg × Int :=
  if noScale scale then ([], 1) else if rise B ≠ 0 then ([], rise B) else if outB first 0 999999999999000 then ([], 1) else
  if (fstGo r scale B [] []).2.2 ≠ 0 then ([], (fstGo r scale B [] []).2.2) else if (fstGo r scale B [] []).1.getD 0 0 ≠ 0 then ([], 3) else
  if segLen r ((fstGo r scale B [] []).1.map Int.toNat) (fstGo r scale B [] []).2.1 (B.length - 1) < 0 then ([], 1) else (segsL r first ((fstGo r scale B [] []).1.map Int.toNat) (fstGo r scale B [] []).2.1, 0)
theorem segAt_1 {r : Str} {first : Int} {F : List Nat} {cu : List Int} {k : Nat} (h : k + 1 < F.length) (hc : k + 1 < cu.length) (hp : F[k] < (presL r.smps).length) :
    segAt r first F cu k = ⟨IntKind.i64.wrap (first + k), (F[k] : Nat), (F[k + 1] : Nat), (presL r.smps)[F[k]], IntKind.i64.wrap (cu[k + 1] - cu[k]), bytesF ((r.smps.take F[k + 1]).drop F[k]) 0, if r.sound then posW (IntKind.i64.wrap (cu[k] - (presL r.smps)[F[k]])) else 0⟩ := by
  unfold segAt segLen segTo
  rw [if_pos h, if_pos h, getD_at (show k < F.length by omega), getD_at h, getD_at hp, getD_at hc, getD_at (show k < cu.length by omega)]
theorem segAt_2 {r : Str} {first : Int} {F : List Nat} {cu : List Int} {k : Nat} (h : k < F.length) (h' : ¬ k + 1 < F.length) (hc : k < cu.length) (hp : F[k] < (presL r.smps).length) :
    segAt r first F cu k = ⟨IntKind.i64.wrap (first + k), (F[k] : Nat), (r.smps.length : Nat), (presL r.smps)[F[k]], IntKind.i64.wrap (Go.Lib.maxOf (((endsL r.smps).take (endsL r.smps).length).drop F[k]) - cu[k]), bytesF ((r.smps.take r.smps.length).drop F[k]) 0, if r.sound then posW (IntKind.i64.wrap (cu[k] - (presL r.smps)[F[k]])) else 0⟩ := by
  unfold segAt segLen segTo
  rw [if_neg h', if_neg h', getD_at h, getD_at hp, getD_at hc]
def FrOK (n m : Nat) (X : List Int × List Int × Int) : Prop := ∃ F : List Nat, X.1 = F.map (fun (a : Nat) => (a : Int)) ∧ F.length = m ∧ X.2.1.length = m ∧ (∀ k (h : k < F.length), F[k] < n) ∧ ∀ k (h : k + 1 < F.length), F[k] ≤ F[k + 1]
/-! headend/cut.segments -/
def r46_0 : List POp := [⟨4, .boxs (.t 0), none⟩,
  ⟨8, .asg .nil, none⟩,
  ⟨9, .asg (.c (.int .i64 0)), none⟩]
def r46_1 : List POp := [⟨22, .mv (.t 1), none⟩,
  ⟨23, .call 59 [.t 22], none⟩]
def r46_2 : List POp := [⟨8, .asg .nil, none⟩,
  ⟨9, .asg (.c (.int .i64 1)), none⟩]
def r46_3 : List POp := [⟨24, .mv (.t 2), none⟩,
  ⟨25, .call 72 [.t 24], none⟩,
  ⟨10, .asg (.t 25), none⟩]
def r46_4 : List POp := [⟨26, .mv (.t 10), none⟩,
  ⟨27, .bin .neq (.t 26) (.c (.int .i64 0)), none⟩]
def r46_5 : List POp := [⟨28, .mv (.t 10), none⟩,
  ⟨8, .asg .nil, none⟩,
  ⟨9, .mv (.t 28), none⟩]
def r46_6 : List POp := [⟨29, .mv (.t 3), none⟩,
  ⟨30, .call 32 [.t 29, .c (.int .i64 0), .c (.int .i64 999999999999000)], none⟩]
def r46_7 : List POp := [⟨8, .asg .nil, none⟩,
  ⟨9, .asg (.c (.int .i64 1)), none⟩]
def r46_8 : List POp := [⟨32, .loads 4 (.t 4), none⟩,
  ⟨33, .mv (.t 1), none⟩,
  ⟨34, .mv (.t 2), none⟩,
  ⟨35, .call 73 [.t 32, .t 33, .t 34], none⟩,
  ⟨31, .mv (.t 35), none⟩,
  ⟨36, .ext 0 (.t 31), none⟩,
  ⟨37, .ext 1 (.t 31), none⟩,
  ⟨38, .ext 2 (.t 31), none⟩,
  ⟨11, .asg (.t 36), none⟩,
  ⟨12, .asg (.t 37), none⟩,
  ⟨13, .mv (.t 38), none⟩]
def r46_9 : List POp := [⟨39, .mv (.t 13), none⟩,
  ⟨40, .bin .neq (.t 39) (.c (.int .i64 0)), none⟩]
def r46_10 : List POp := [⟨41, .mv (.t 13), none⟩,
  ⟨8, .asg .nil, none⟩,
  ⟨9, .mv (.t 41), none⟩]
def r46_11 : List POp := [⟨42, .mv (.t 11), none⟩,
  ⟨43, .idx 1 (.t 42) (.c (.int .i64 0)), none⟩,
  ⟨44, .load (.t 43), none⟩,
  ⟨45, .bin .neq (.t 44) (.c (.int .i64 0)), none⟩]
def r46_12 : List POp := [⟨8, .asg .nil, none⟩,
  ⟨9, .asg (.c (.int .i64 3)), none⟩]
def r46_13 : List POp := [⟨47, .fld 3 (.t 4), none⟩,
  ⟨48, .load (.t 47), none⟩,
  ⟨49, .call 16 [.t 48], none⟩,
  ⟨46, .mv (.t 49), none⟩,
  ⟨50, .ext 0 (.t 46), none⟩,
  ⟨51, .ext 1 (.t 46), none⟩,
  ⟨14, .asg (.t 50), none⟩,
  ⟨15, .mv (.t 51), none⟩]
def r46_14 : List POp := [⟨53, .fld 3 (.t 4), none⟩,
  ⟨54, .load (.t 53), none⟩,
  ⟨55, .call 17 [.t 54], none⟩,
  ⟨52, .mv (.t 55), none⟩,
  ⟨56, .ext 0 (.t 52), none⟩,
  ⟨57, .ext 1 (.t 52), none⟩,
  ⟨16, .asg (.t 56), none⟩,
  ⟨17, .mv (.t 57), none⟩]
def r46_15 : List POp := [⟨18, .asg .nil, none⟩]
def r46_16 : List POp := [⟨58, .mv (.t 11), none⟩,
  ⟨59, .len (.t 58), none⟩,
  ⟨60, .mv (.c (.int .i64 0)), none⟩]
def r46_17 : List POp := [⟨61, .bin .lss (.t 60) (.t 59), none⟩]
def r46_18 : List POp := [⟨62, .mv (.t 60), none⟩,
  ⟨63, .idx 1 (.t 58) (.t 60), none⟩,
  ⟨64, .load (.t 63), none⟩,
  ⟨19, .asg (.t 62), none⟩,
  ⟨20, .asg (.t 64), none⟩]
def r46_19 : List POp := [⟨65, .mv (.t 3), none⟩,
  ⟨66, .mv (.t 19), none⟩,
  ⟨67, .bin .add (.t 65) (.t 66), none⟩,
  ⟨68, .mv (.t 20), none⟩,
  ⟨69, .fld 3 (.t 4), none⟩,
  ⟨70, .load (.t 69), none⟩,
  ⟨71, .len (.t 70), none⟩,
  ⟨72, .mv (.t 14), none⟩,
  ⟨73, .mv (.t 20), none⟩,
  ⟨74, .idx 1 (.t 72) (.t 73), none⟩,
  ⟨75, .load (.t 74), none⟩,
  ⟨76, .build [.int .i64 0, .int .i64 0, .int .i64 0, .int .i64 0, .int .i64 0, .int .i64 0, .int .i64 0] [(0, 1, .t 67), (1, 1, .t 68), (2, 1, .t 71), (3, 1, .t 75)], none⟩,
  ⟨21, .alloc [.int .i64 0, .int .i64 0, .int .i64 0, .int .i64 0, .int .i64 0, .int .i64 0, .int .i64 0], none⟩,
  ⟨0, .stores 7 (.t 21) (.t 76), none⟩]
def r46_20 : List POp := [⟨77, .mv (.t 19), none⟩,
  ⟨78, .bin .add (.t 77) (.c (.int .i64 1)), none⟩,
  ⟨79, .mv (.t 11), none⟩,
  ⟨80, .len (.t 79), none⟩,
  ⟨81, .bin .lss (.t 78) (.t 80), none⟩]
def r46_21 : List POp := [⟨82, .mv (.t 11), none⟩,
  ⟨83, .mv (.t 19), none⟩,
  ⟨84, .bin .add (.t 83) (.c (.int .i64 1)), none⟩,
  ⟨85, .idx 1 (.t 82) (.t 84), none⟩,
  ⟨86, .load (.t 85), none⟩,
  ⟨87, .fld 2 (.t 21), none⟩,
  ⟨0, .store (.t 87) (.t 86), none⟩]
def r46_22 : List POp := [⟨88, .mv (.t 12), none⟩,
  ⟨89, .mv (.t 19), none⟩,
  ⟨90, .bin .add (.t 89) (.c (.int .i64 1)), none⟩,
  ⟨91, .idx 1 (.t 88) (.t 90), none⟩,
  ⟨92, .load (.t 91), none⟩,
  ⟨93, .mv (.t 12), none⟩,
  ⟨94, .mv (.t 19), none⟩,
  ⟨95, .idx 1 (.t 93) (.t 94), none⟩,
  ⟨96, .load (.t 95), none⟩,
  ⟨97, .bin .sub (.t 92) (.t 96), none⟩,
  ⟨98, .fld 4 (.t 21), none⟩,
  ⟨0, .store (.t 98) (.t 97), none⟩]
def r46_23 : List POp := [⟨99, .mv (.t 16), none⟩,
  ⟨100, .mv (.t 20), none⟩,
  ⟨101, .slc (some (.t 100)) none 1 (.t 99), none⟩,
  ⟨102, .call 74 [.t 101], none⟩,
  ⟨103, .mv (.t 12), none⟩,
  ⟨104, .mv (.t 19), none⟩,
  ⟨105, .idx 1 (.t 103) (.t 104), none⟩,
  ⟨106, .load (.t 105), none⟩,
  ⟨107, .bin .sub (.t 102) (.t 106), none⟩,
  ⟨108, .fld 4 (.t 21), none⟩,
  ⟨0, .store (.t 108) (.t 107), none⟩]
def r46_24 : List POp := [⟨109, .fld 2 (.t 4), none⟩,
  ⟨110, .load (.t 109), none⟩]
def r46_25 : List POp := [⟨111, .mv (.t 12), none⟩,
  ⟨112, .mv (.t 19), none⟩,
  ⟨113, .idx 1 (.t 111) (.t 112), none⟩,
  ⟨114, .load (.t 113), none⟩,
  ⟨115, .fld 3 (.t 21), none⟩,
  ⟨116, .load (.t 115), none⟩,
  ⟨117, .bin .sub (.t 114) (.t 116), none⟩,
  ⟨118, .minmax true (.c (.int .i64 0)) (.t 117), none⟩,
  ⟨119, .fld 6 (.t 21), none⟩,
  ⟨0, .store (.t 119) (.t 118), none⟩]
def r46_26 : List POp := [⟨120, .fld 3 (.t 4), none⟩,
  ⟨121, .load (.t 120), none⟩,
  ⟨122, .fld 1 (.t 21), none⟩,
  ⟨123, .load (.t 122), none⟩,
  ⟨124, .fld 2 (.t 21), none⟩,
  ⟨125, .load (.t 124), none⟩,
  ⟨126, .slc (some (.t 123)) (some (.t 125)) 5 (.t 121), none⟩,
  ⟨127, .call 75 [.t 126], none⟩,
  ⟨128, .fld 5 (.t 21), none⟩,
  ⟨0, .store (.t 128) (.t 127), none⟩]
def r46_27 : List POp := [⟨129, .mv (.t 18), none⟩,
  ⟨130, .loads 7 (.t 21), none⟩,
  ⟨131, .row 78 7 [.t 130], none⟩,
  ⟨132, .app 78 7 56 (.t 129) (.t 131), none⟩,
  ⟨18, .asg (.t 132), none⟩]
def r46_28 : List POp := [⟨133, .bin .add (.t 60) (.c (.int .i64 1)), none⟩,
  ⟨60, .mv (.t 133), none⟩]
def r46_29 : List POp := [⟨134, .mv (.t 18), none⟩,
  ⟨135, .mv (.t 18), none⟩,
  ⟨136, .len (.t 135), none⟩,
  ⟨137, .bin .sub (.t 136) (.c (.int .i64 1)), none⟩,
  ⟨138, .idx 7 (.t 134) (.t 137), none⟩,
  ⟨139, .fld 4 (.t 138), none⟩,
  ⟨140, .load (.t 139), none⟩,
  ⟨141, .bin .lss (.t 140) (.c (.int .i64 0)), none⟩]
def r46_30 : List POp := [⟨8, .asg .nil, none⟩,
  ⟨9, .asg (.c (.int .i64 1)), none⟩]
def r46_31 : List POp := [⟨142, .mv (.t 18), none⟩,
  ⟨8, .asg (.t 142), none⟩,
  ⟨9, .asg (.c (.int .i64 0)), none⟩]
def l46_0 : PCode := .seq (.ops r46_17) (.seq (.cond (.t 61) (.skip) (.exit 0)) (.seq (.block 1 (.seq (.ops r46_18) (.seq (.ops r46_19) (.seq (.seq (.ops r46_20) (.cond (.t 81) (.seq (.ops r46_21) (.ops r46_22)) (.ops r46_23))) (.seq (.seq (.ops r46_24) (.cond (.t 110) (.ops r46_25) (.skip))) (.seq (.ops r46_26) (.ops r46_27))))))) (.ops r46_28)))
def p46 : PCode := .seq (.ops r46_0) (.seq (.seq (.ops r46_1) (.cond (.t 23) (.seq (.ops r46_2) (.ret)) (.skip))) (.seq (.seq (.ops r46_3) (.seq (.ops r46_4) (.cond (.t 27) (.seq (.ops r46_5) (.ret)) (.skip)))) (.seq (.seq (.ops r46_6) (.cond (.t 30) (.seq (.ops r46_7) (.ret)) (.skip))) (.seq (.ops r46_8) (.seq (.seq (.ops r46_9) (.cond (.t 40) (.seq (.ops r46_10) (.ret)) (.skip))) (.seq (.seq (.ops r46_11) (.cond (.t 45) (.seq (.ops r46_12) (.ret)) (.skip))) (.seq (.ops r46_13) (.seq (.ops r46_14) (.seq (.ops r46_15) (.seq (.seq (.ops r46_16) (.block 0 (.loop l46_0))) (.seq (.seq (.ops r46_29) (.cond (.t 141) (.seq (.ops r46_30) (.ret)) (.skip))) (.seq (.ops r46_31) (.ret)))))))))))))
theorem ok46 : okFunc Try.prog 46 [.t 8, .t 9] 4 p46 = true := by kernel_rfl
set_option maxRecDepth 20000 in
set_option maxHeartbeats 4000000 in
theorem segments_c (r : Str) (scale : Int) (B : List Int) (first : Int) (hs : smpF r.smps = 0) (hne : 0 < r.smps.length) (hr : 1 ≤ r.scale ∧ r.scale ≤ 1000000000) (hX : noScale scale = false → rise B = 0 → (fstGo r scale B [] []).2.2 = 0 → FrOK r.smps.length B.length (fstGo r scale B [] [])) :
    CallOK Try.prog 46 [.agg r.av, .val (.int .i64 scale), .ro (B.map oneI), .val (.int .i64 first)] (.tup [.ro ((segF r scale B first).1.map Seg.av), .val (.int .i64 (segF r scale B first).2)]) := by
  refine call_of mixed ok46 rfl ?_
  by_cases n1 : noScale scale = true
  · rw [show segF r scale B first = ([], 1) from by rw [segF, if_pos n1]]
    repeat' first | ((with_reducible (first | refine condD ?_ ?_ | refine condE ?_ ?_ | refine condN ?_ ?_ | refine condI ?_ ?_ | refine condS ?_ ?_)) <;> intro h) | ((refine callG (noscale_c _) ?_)) | (with_reducible refine And.intro ?_ ?_; omega) | (simp only [Z0,Z1,Z2,Z3,Z4,Z5,Z6,Z7,Z8,Z9,Za,Zb,Zc,Zd,Ze,Zf,List.cons.injEq,Zg,Zh,Zi,Zj,Zk,Zl,Zm,Zn,Zo,Zp,beq_self_eq_true,bne_self_eq_false,decide_true,decide_false,Zq,Zr,Zs,Zt,Zu,Zv,Zw,Zx,Zy,Zz,Y0,Y1,Y2,Y3,Y4,Y5,Y6,Y7,Y8,Y9,Ya,Yb,Yc,Yd,Ye,Yf,Yg,Yh,lk,ef,Yi,Yj,Yk,Yl,Ym,Yn,Yo,Yp,Yq,Yr,Ys,Yt,Yu,Yv,Yw,Yx,Yy,Yz,hv,X0,ev,X1,X2,X3,X4,X5,X6,X7,X8,X9,Xa,Xb,Xc,Xd,Xe,Xf,Xg,Xh,Xi,Xj,Xk,Xl,Xm,Xn,Xo,Xp,Xq,Xr,Xs,Xt,Xu,Xv,Xw,Xx,Value.oneCell',Xy,Xz,W0,W1,true_and,and_true,and_self,implies_true,W2,W3,W4,W5,false_implies,W6,W7,W8,W9,Wa,Wb,Wc,Wd,We,Wf,Wg,Wh,Wi,Wj,Wk,Wl,Wm,reduceCtorEq,if_true,if_false,Wn,↓reduceIte,Wo,Wp,Wq,Wr,Ws,Wt,ne_eq,not_false_eq_true,not_true_eq_false,Wu,Wv,r46_0,r46_1,r46_2,r46_3,r46_4,r46_5,r46_6,r46_7,r46_8,r46_9,r46_10,r46_11,r46_12,r46_13,r46_14,r46_15,r46_16,r46_17,r46_18,r46_19,r46_20,r46_21,r46_22,r46_23,r46_24,r46_25,r46_26,r46_27,r46_28,r46_29,r46_30,r46_31,p46,n1,Str.av]) | (exfalso; omega)
  have hR := rise_c B
  by_cases n2 : rise B = 0
  case neg =>
    rw [show segF r scale B first = ([], rise B) from by rw [segF, if_neg n1, if_pos n2]]
    rw [Bool.not_eq_true] at n1
    repeat' first | ((with_reducible (first | refine condD ?_ ?_ | refine condE ?_ ?_ | refine condN ?_ ?_ | refine condI ?_ ?_ | refine condS ?_ ?_)) <;> intro h) | ((refine callG (noscale_c _) ?_)) | ((refine callG hR ?_)) | (with_reducible refine And.intro ?_ ?_; omega) | (simp only [Z0,Z1,Z2,Z3,Z4,Z5,Z6,Z7,Z8,Z9,Za,Zb,Zc,Zd,Ze,Zf,List.cons.injEq,Zg,Zh,Zi,Zj,Zk,Zl,Zm,Zn,Zo,Zp,beq_self_eq_true,bne_self_eq_false,decide_true,decide_false,Zq,Zr,Zs,Zt,Zu,Zv,Zw,Zx,Zy,Zz,Y0,Y1,Y2,Y3,Y4,Y5,Y6,Y7,Y8,Y9,Ya,Yb,Yc,Yd,Ye,Yf,Yg,Yh,lk,ef,Yi,Yj,Yk,Yl,Ym,Yn,Yo,Yp,Yq,Yr,Ys,Yt,Yu,Yv,Yw,Yx,Yy,Yz,hv,X0,ev,X1,X2,X3,X4,X5,X6,X7,X8,X9,Xa,Xb,Xc,Xd,Xe,Xf,Xg,Xh,Xi,Xj,Xk,Xl,Xm,Xn,Xo,Xp,Xq,Xr,Xs,Xt,Xu,Xv,Xw,Xx,Value.oneCell',Xy,Xz,W0,W1,true_and,and_true,and_self,implies_true,W2,W3,W4,W5,false_implies,W6,W7,W8,W9,Wa,Wb,Wc,Wd,We,Wf,Wg,Wh,Wi,Wj,Wk,Wl,Wm,reduceCtorEq,if_true,if_false,Wn,↓reduceIte,Wo,Wp,Wq,Wr,Ws,Wt,ne_eq,not_false_eq_true,not_true_eq_false,Wu,Wv,r46_0,r46_1,r46_2,r46_3,r46_4,r46_5,r46_6,r46_7,r46_8,r46_9,r46_10,r46_11,r46_12,r46_13,r46_14,r46_15,r46_16,r46_17,r46_18,r46_19,r46_20,r46_21,r46_22,r46_23,r46_24,r46_25,r46_26,r46_27,r46_28,r46_29,r46_30,r46_31,p46,n1,bne0_t n2,Str.av]) | (exfalso; omega)
  by_cases n3 : outB first 0 999999999999000 = true
  · rw [show segF r scale B first = ([], 1) from by rw [segF, if_neg n1, if_neg (by simp [n2]), if_pos n3]]
    rw [Bool.not_eq_true] at n1
    rw [n2] at hR
    repeat' first | ((with_reducible (first | refine condD ?_ ?_ | refine condE ?_ ?_ | refine condN ?_ ?_ | refine condI ?_ ?_ | refine condS ?_ ?_)) <;> intro h) | ((refine callG (noscale_c _) ?_)) | ((refine callG hR ?_)) | ((refine callG (out_c _ _ _) ?_)) | (with_reducible refine And.intro ?_ ?_; omega) | (simp only [Z0,Z1,Z2,Z3,Z4,Z5,Z6,Z7,Z8,Z9,Za,Zb,Zc,Zd,Ze,Zf,List.cons.injEq,Zg,Zh,Zi,Zj,Zk,Zl,Zm,Zn,Zo,Zp,beq_self_eq_true,bne_self_eq_false,decide_true,decide_false,Zq,Zr,Zs,Zt,Zu,Zv,Zw,Zx,Zy,Zz,Y0,Y1,Y2,Y3,Y4,Y5,Y6,Y7,Y8,Y9,Ya,Yb,Yc,Yd,Ye,Yf,Yg,Yh,lk,ef,Yi,Yj,Yk,Yl,Ym,Yn,Yo,Yp,Yq,Yr,Ys,Yt,Yu,Yv,Yw,Yx,Yy,Yz,hv,X0,ev,X1,X2,X3,X4,X5,X6,X7,X8,X9,Xa,Xb,Xc,Xd,Xe,Xf,Xg,Xh,Xi,Xj,Xk,Xl,Xm,Xn,Xo,Xp,Xq,Xr,Xs,Xt,Xu,Xv,Xw,Xx,Value.oneCell',Xy,Xz,W0,W1,true_and,and_true,and_self,implies_true,W2,W3,W4,W5,false_implies,W6,W7,W8,W9,Wa,Wb,Wc,Wd,We,Wf,Wg,Wh,Wi,Wj,Wk,Wl,Wm,reduceCtorEq,if_true,if_false,Wn,↓reduceIte,Wo,Wp,Wq,Wr,Ws,Wt,ne_eq,not_false_eq_true,not_true_eq_false,Wu,Wv,r46_0,r46_1,r46_2,r46_3,r46_4,r46_5,r46_6,r46_7,r46_8,r46_9,r46_10,r46_11,r46_12,r46_13,r46_14,r46_15,r46_16,r46_17,r46_18,r46_19,r46_20,r46_21,r46_22,r46_23,r46_24,r46_25,r46_26,r46_27,r46_28,r46_29,r46_30,r46_31,p46,n1,n3,Str.av]) | (exfalso; omega)
  obtain ⟨hp, hBl, hrg⟩ := rise_0 n2
  have hsc := noScale_bd (by simpa using n1)
  have hF := firsts_c r scale B hs hne hr hsc hBl (riseGo_times hrg)
  have hX := hX (by simpa using n1) n2
  have hseg : segF r scale B first = if (fstGo r scale B [] []).2.2 ≠ 0 then ([], (fstGo r scale B [] []).2.2) else if (fstGo r scale B [] []).1.getD 0 0 ≠ 0 then ([], 3) else
    if segLen r ((fstGo r scale B [] []).1.map Int.toNat) (fstGo r scale B [] []).2.1 (B.length - 1) < 0 then ([], 1) else (segsL r first ((fstGo r scale B [] []).1.map Int.toNat) (fstGo r scale B [] []).2.1, 0) := by rw [segF, if_neg n1, if_neg (by simp [n2]), if_neg n3]
  rw [hseg]
  clear hseg
  rw [n2] at hR
  rw [Bool.not_eq_true] at n1 n3
  generalize fstGo r scale B [] [] = X at *
  obtain ⟨fr, cu, e⟩ := X
  simp only at hX hF ⊢
  by_cases n4 : e = 0
  case neg =>
    rw [if_pos n4]
    simp only [Str.av] at hF
    repeat' first | ((with_reducible (first | refine condD ?_ ?_ | refine condE ?_ ?_ | refine condN ?_ ?_ | refine condI ?_ ?_ | refine condS ?_ ?_)) <;> intro h) | ((refine callG (noscale_c _) ?_)) | ((refine callG hR ?_)) | ((refine callG (out_c _ _ _) ?_)) | ((refine callG hF ?_)) | (with_reducible refine And.intro ?_ ?_; omega) | (simp only [Z0,Z1,Z2,Z3,Z4,Z5,Z6,Z7,Z8,Z9,Za,Zb,Zc,Zd,Ze,Zf,List.cons.injEq,Zg,Zh,Zi,Zj,Zk,Zl,Zm,Zn,Zo,Zp,beq_self_eq_true,bne_self_eq_false,decide_true,decide_false,Zq,Zr,Zs,Zt,Zu,Zv,Zw,Zx,Zy,Zz,Y0,Y1,Y2,Y3,Y4,Y5,Y6,Y7,Y8,Y9,Ya,Yb,Yc,Yd,Ye,Yf,Yg,Yh,lk,ef,Yi,Yj,Yk,Yl,Ym,Yn,Yo,Yp,Yq,Yr,Ys,Yt,Yu,Yv,Yw,Yx,Yy,Yz,hv,X0,ev,X1,X2,X3,X4,X5,X6,X7,X8,X9,Xa,Xb,Xc,Xd,Xe,Xf,Xg,Xh,Xi,Xj,Xk,Xl,Xm,Xn,Xo,Xp,Xq,Xr,Xs,Xt,Xu,Xv,Xw,Xx,Value.oneCell',Xy,Xz,W0,W1,true_and,and_true,and_self,implies_true,W2,W3,W4,W5,false_implies,W6,W7,W8,W9,Wa,Wb,Wc,Wd,We,Wf,Wg,Wh,Wi,Wj,Wk,Wl,Wm,reduceCtorEq,if_true,if_false,Wn,↓reduceIte,Wo,Wp,Wq,Wr,Ws,Wt,ne_eq,not_false_eq_true,not_true_eq_false,Wu,Wv,r46_0,r46_1,r46_2,r46_3,r46_4,r46_5,r46_6,r46_7,r46_8,r46_9,r46_10,r46_11,r46_12,r46_13,r46_14,r46_15,r46_16,r46_17,r46_18,r46_19,r46_20,r46_21,r46_22,r46_23,r46_24,r46_25,r46_26,r46_27,r46_28,r46_29,r46_30,r46_31,p46,n1,n3,bne0_t n4,Str.av]) | (exfalso; omega)
  rw [if_neg (by simp [n4])]
  obtain ⟨F, h1, h2, h3, h4, h5⟩ := hX n4
  simp only at h1 h3
  subst h1
  subst n4
  simp only [Str.av] at hF
  have f0 : 0 < F.length := by omega
  have f0i : (0 : Int) < F.length := by omega
  have gF : ∀ k (h : k < F.length), ((F.map (fun (a : Nat) => (a : Int))).map oneI).getD k [] = [.val (.int .i64 (F[k] : Nat))] := fun k h => by
    rw [getD_map (f := oneI) (d := []) (show k < (F.map (fun (a : Nat) => (a : Int))).length by rw [List.length_map]; exact h), List.getElem_map]; rfl
  have g0 := gF 0 f0
  have e0 : (F.map (fun (a : Nat) => (a : Int))).getD 0 0 = F[0] := by rw [List.getD_eq_getElem?_getD, List.getElem?_map, List.getElem?_eq_getElem f0]; rfl
  rw [e0]
  have eN : (F.map (fun (a : Nat) => (a : Int))).map Int.toNat = F := by
    rw [List.map_map]
    exact (List.map_congr_left (fun a _ => by simp)).trans (List.map_id F)
  rw [eN]
  by_cases n5 : (F[0] : Int) = 0
  case neg =>
    rw [if_pos n5]
    repeat' first | ((with_reducible (first | refine condD ?_ ?_ | refine condE ?_ ?_ | refine condN ?_ ?_ | refine condI ?_ ?_ | refine condS ?_ ?_)) <;> intro h) | ((refine callG (noscale_c _) ?_)) | ((refine callG hR ?_)) | ((refine callG (out_c _ _ _) ?_)) | ((refine callG hF ?_)) | (with_reducible refine And.intro ?_ ?_; omega) | (simp only [Z0,Z1,Z2,Z3,Z4,Z5,Z6,Z7,Z8,Z9,Za,Zb,Zc,Zd,Ze,Zf,List.cons.injEq,Zg,Zh,Zi,Zj,Zk,Zl,Zm,Zn,Zo,Zp,beq_self_eq_true,bne_self_eq_false,decide_true,decide_false,Zq,Zr,Zs,Zt,Zu,Zv,Zw,Zx,Zy,Zz,Y0,Y1,Y2,Y3,Y4,Y5,Y6,Y7,Y8,Y9,Ya,Yb,Yc,Yd,Ye,Yf,Yg,Yh,lk,ef,Yi,Yj,Yk,Yl,Ym,Yn,Yo,Yp,Yq,Yr,Ys,Yt,Yu,Yv,Yw,Yx,Yy,Yz,hv,X0,ev,X1,X2,X3,X4,X5,X6,X7,X8,X9,Xa,Xb,Xc,Xd,Xe,Xf,Xg,Xh,Xi,Xj,Xk,Xl,Xm,Xn,Xo,Xp,Xq,Xr,Xs,Xt,Xu,Xv,Xw,Xx,Value.oneCell',Xy,Xz,W0,W1,true_and,and_true,and_self,implies_true,W2,W3,W4,W5,false_implies,W6,W7,W8,W9,Wa,Wb,Wc,Wd,We,Wf,Wg,Wh,Wi,Wj,Wk,Wl,Wm,reduceCtorEq,if_true,if_false,Wn,↓reduceIte,Wo,Wp,Wq,Wr,Ws,Wt,ne_eq,not_false_eq_true,not_true_eq_false,Wu,Wv,r46_0,r46_1,r46_2,r46_3,r46_4,r46_5,r46_6,r46_7,r46_8,r46_9,r46_10,r46_11,r46_12,r46_13,r46_14,r46_15,r46_16,r46_17,r46_18,r46_19,r46_20,r46_21,r46_22,r46_23,r46_24,r46_25,r46_26,r46_27,r46_28,r46_29,r46_30,r46_31,p46,n1,n3,g0,f0i,bne0_t n5,Str.av,List.length_map]) | (exfalso; omega)
  rw [if_neg (by simpa using n5)]
  rw [n5] at g0
  have hP := presF_c r.smps
  rw [show presF r.smps = (presL r.smps, 0) from by rw [presF, if_neg (by simp [hs])]] at hP
  have hE := endsF_c r.smps
  rw [show endsF r.smps = (endsL r.smps, 0) from by rw [endsF, if_neg (by simp [hs])]] at hE
  have hPl := presL_len r.smps
  have hEl := endsL_len r.smps
  have hn5 := (smpF_0 hs).1
  obtain ⟨Z, hZ⟩ : ∃ Z, Z = if segLen r F cu (B.length - 1) < 0 then ([], (1 : Int)) else (segsL r first F cu, 0) := ⟨_, rfl⟩
  rw [← hZ]
  repeat' first | ((with_reducible (first | refine condD ?_ ?_ | refine condE ?_ ?_ | refine condN ?_ ?_ | refine condI ?_ ?_ | refine condS ?_ ?_)) <;> intro h) | ((refine callG (noscale_c _) ?_)) | ((refine callG hR ?_)) | ((refine callG (out_c _ _ _) ?_)) | ((refine callG hF ?_)) | ((refine callG hP ?_)) | ((refine callG hE ?_)) | (with_reducible refine And.intro ?_ ?_; omega) | (simp only [Z0,Z1,Z2,Z3,Z4,Z5,Z6,Z7,Z8,Z9,Za,Zb,Zc,Zd,Ze,Zf,List.cons.injEq,Zg,Zh,Zi,Zj,Zk,Zl,Zm,Zn,Zo,Zp,beq_self_eq_true,bne_self_eq_false,decide_true,decide_false,Zq,Zr,Zs,Zt,Zu,Zv,Zw,Zx,Zy,Zz,Y0,Y1,Y2,Y3,Y4,Y5,Y6,Y7,Y8,Y9,Ya,Yb,Yc,Yd,Ye,Yf,Yg,Yh,lk,ef,Yi,Yj,Yk,Yl,Ym,Yn,Yo,Yp,Yq,Yr,Ys,Yt,Yu,Yv,Yw,Yx,Yy,Yz,hv,X0,ev,X1,X2,X3,X4,X5,X6,X7,X8,X9,Xa,Xb,Xc,Xd,Xe,Xf,Xg,Xh,Xi,Xj,Xk,Xl,Xm,Xn,Xo,Xp,Xq,Xr,Xs,Xt,Xu,Xv,Xw,Xx,Value.oneCell',Xy,Xz,W0,W1,true_and,and_true,and_self,implies_true,W2,W3,W4,W5,false_implies,W6,W7,W8,W9,Wa,Wb,Wc,Wd,We,Wf,Wg,Wh,Wi,Wj,Wk,Wl,Wm,reduceCtorEq,if_true,if_false,Wn,↓reduceIte,Wo,Wp,Wq,Wr,Ws,Wt,ne_eq,not_false_eq_true,not_true_eq_false,Wu,Wv,r46_0,r46_1,r46_2,r46_3,r46_4,r46_5,r46_6,r46_7,r46_8,r46_9,r46_10,r46_11,r46_12,r46_13,r46_14,r46_15,r46_16,r46_17,r46_18,r46_19,r46_20,r46_21,r46_22,r46_23,r46_24,r46_25,r46_26,r46_27,r46_28,r46_29,r46_30,r46_31,p46,n1,n3,g0,f0i,Str.av,List.length_map]) | (exfalso; omega)
  refine loopS (fun k : Nat => mk [(3, .val (.int .i64 first)), (4, .box [.val (.string r.name), .val (.int .i64 r.scale), .val (.bool r.sound), .ro (r.smps.map Smp.av)]), (11, .ro ((F.map (fun (a : Nat) => (a : Int))).map oneI)), (12, .ro (cu.map oneI)), (14, .ro ((presL r.smps).map oneI)), (16, .ro ((endsL r.smps).map oneI)), (18, .own 78 7 (((List.range k).map (segAt r first F cu)).map Seg.av)), (58, .ro ((F.map (fun (a : Nat) => (a : Int))).map oneI)), (59, .val (.int .i64 F.length)), (60, .val (.int .i64 k))]) (fun k => k ≤ F.length) (fun k => F.length - k) 0 (weak_mk ?_) (Nat.zero_le _) ?_
  · simp only [Ww,Wx,wk1,Wy,Wz,V0,Z4,Z5,Z6,Z7,Z8,Z9,Za,Zb,Zc,Zd,Ze,Zf,List.cons.injEq,Zg,Zh,Zi,Zj,Zk,Zl,Zm,Zn,Zo,Zp,beq_self_eq_true,bne_self_eq_false,decide_true,decide_false,Zq,Zr,Zs,Zt,Zu,Zv,Zw,Zx,Zy,Zz,Y0,hv,X0,ev,X1,X2,X3,X4,X5,X6,X7,X8,X9,Xa,Xb,Xc,Xd,Xe,Xf,Xg,Xh,Xi,Xj,Xk,Xl,Xm,Xn,Xo,Xp,Xq,Xr,Xs,Xt,Xu,Xv,Xw,Xx,Value.oneCell',Xy,Xz,W0,W1,true_and,and_true,and_self,implies_true,W2,W3,W4,W5,false_implies,W6,W7,W8,W9,Wa,Wb,Wc,Wd,We,Wf,Wg,Wh,Wi,Wj,Wk,Wl,Wm,reduceCtorEq,if_true,if_false,Wn,↓reduceIte,Wo,Wp,Wq,Wr,Ws,Wt,ne_eq,not_false_eq_true,not_true_eq_false,Wu,Nat.zero_ne_one]
    simp
  rintro J hJ k hk
  simp only [Z0,Z1,Z2,Z3,Z4,Z5,Z6,Z7,Z8,Z9,Za,Zb,Zc,Zd,Ze,Zf,List.cons.injEq,Zg,Zh,Zi,Zj,Zk,Zl,Zm,Zn,Zo,Zp,beq_self_eq_true,bne_self_eq_false,decide_true,decide_false,Zq,Zr,Zs,Zt,Zu,Zv,Zw,Zx,Zy,Zz,Y0,Y1,Y2,Y3,Y4,Y5,Y6,Y7,Y8,Y9,Ya,Yb,Yc,Yd,Ye,Yf,Yg,Yh,lk,ef,Yi,Yj,Yk,Yl,Ym,Yn,Yo,Yp,Yq,Yr,Ys,Yt,Yu,Yv,Yw,Yx,Yy,Yz,hv,X0,ev,X1,X2,X3,X4,X5,X6,X7,X8,X9,Xa,Xb,Xc,Xd,Xe,Xf,Xg,Xh,Xi,Xj,Xk,Xl,Xm,Xn,Xo,Xp,Xq,Xr,Xs,Xt,Xu,Xv,Xw,Xx,Value.oneCell',Xy,Xz,W0,W1,true_and,and_true,and_self,implies_true,W2,W3,W4,W5,false_implies,W6,W7,W8,W9,Wa,Wb,Wc,Wd,We,Wf,Wg,Wh,Wi,Wj,Wk,Wl,Wm,reduceCtorEq,if_true,if_false,Wn,↓reduceIte,Wo,Wp,Wq,Wr,Ws,Wt,ne_eq,not_false_eq_true,not_true_eq_false,Wu,Wv,r46_0,r46_1,r46_2,r46_3,r46_4,r46_5,r46_6,r46_7,r46_8,r46_9,r46_10,r46_11,r46_12,r46_13,r46_14,r46_15,r46_16,r46_17,r46_18,r46_19,r46_20,r46_21,r46_22,r46_23,r46_24,r46_25,r46_26,r46_27,r46_28,r46_29,r46_30,r46_31,p46,l46_0]
  refine condD (fun h => ?_) (fun h => ?_)
  · have hlt : k < F.length := by omega
    have hw := i_add1 k (by omega)
    have gk := gF k hlt
    have ha := h4 k hlt
    have hpl : F[k] < (presL r.smps).length := by omega
    have gP := getD_map (f := oneI) (d := []) hpl
    have hck : k < cu.length := by omega
    have gC := getD_map (f := oneI) (d := []) hck
    simp only [oneI] at gP gC
    by_cases hl : k + 1 < F.length
    · have hck1 : k + 1 < cu.length := by omega
      have gC1 := getD_map (f := oneI) (d := []) hck1
      simp only [oneI] at gC1
      have gk1 := gF (k + 1) hl
      have hinc := h5 k hl
      have ha1 := h4 (k + 1) hl
      have hS := segAt_1 (r := r) (first := first) hl hck1 hpl
      have hb := bytes_c ((r.smps.take F[k + 1]).drop F[k]) (by rw [List.length_drop, List.length_take]; omega)
      have h6 : ((k + 1 : Nat) : Int) < (F.length : Nat) := by omega
      have hlen2 : (endsL r.smps).length = r.smps.length := hEl
      have hM : True := trivial
      by_cases hso : r.sound = true
      · rw [if_pos hso] at hS
        obtain ⟨v, hvv⟩ : ∃ v, IntKind.i64.wrap (cu[k] - (presL r.smps)[F[k]]) = v := ⟨_, rfl⟩
        rw [hvv] at hS
        by_cases hps : 0 < v
        · rw [posW, if_pos hps] at hS
          have happ : ((List.range k).map (segAt r first F cu)).map Seg.av ++ [[.val (.int .i64 (IntKind.i64.wrap (first + k))), .val (.int .i64 (F[k] : Nat)), .val (.int .i64 ((F[k + 1] : Nat) : Int)), .val (.int .i64 (presL r.smps)[F[k]]), .val (.int .i64 (IntKind.i64.wrap (cu[k + 1] - cu[k]))), .val (.int .i64 (bytesF ((r.smps.take F[k + 1]).drop F[k]) 0)), .val (.int .i64 (v))]] = ((List.range (k + 1)).map (segAt r first F cu)).map Seg.av := by rw [List.range_succ, List.map_append, List.map_append, List.map_singleton, List.map_singleton, hS]; rfl
          repeat' first | ((with_reducible (first | refine condD ?_ ?_ | refine condE ?_ ?_ | refine condN ?_ ?_ | refine condI ?_ ?_ | refine condS ?_ ?_)) <;> intro h) | ((refine callG hb ?_)) | (with_reducible refine And.intro ?_ ?_; omega) | (simp only [Z0,Z1,Z2,Z3,Z4,Z5,Z6,Z7,Z8,Z9,Za,Zb,Zc,Zd,Ze,Zf,List.cons.injEq,Zg,Zh,Zi,Zj,Zk,Zl,Zm,Zn,Zo,Zp,beq_self_eq_true,bne_self_eq_false,decide_true,decide_false,Zq,Zr,Zs,Zt,Zu,Zv,Zw,Zx,Zy,Zz,Y0,Y1,Y2,Y3,Y4,Y5,Y6,Y7,Y8,Y9,Ya,Yb,Yc,Yd,Ye,Yf,Yg,Yh,lk,ef,Yi,Yj,Yk,Yl,Ym,Yn,Yo,Yp,Yq,Yr,Ys,Yt,Yu,Yv,Yw,Yx,Yy,Yz,hv,X0,ev,X1,X2,X3,X4,X5,X6,X7,X8,X9,Xa,Xb,Xc,Xd,Xe,Xf,Xg,Xh,Xi,Xj,Xk,Xl,Xm,Xn,Xo,Xp,Xq,Xr,Xs,Xt,Xu,Xv,Xw,Xx,Value.oneCell',Xy,Xz,W0,W1,true_and,and_true,and_self,implies_true,W2,W3,W4,W5,false_implies,W6,W7,W8,W9,Wa,Wb,Wc,Wd,We,Wf,Wg,Wh,Wi,Wj,Wk,Wl,Wm,reduceCtorEq,if_true,if_false,Wn,↓reduceIte,Wo,Wp,Wq,Wr,Ws,Wt,ne_eq,not_false_eq_true,not_true_eq_false,Wu,Wv,r46_0,r46_1,r46_2,r46_3,r46_4,r46_5,r46_6,r46_7,r46_8,r46_9,r46_10,r46_11,r46_12,r46_13,r46_14,r46_15,r46_16,r46_17,r46_18,r46_19,r46_20,r46_21,r46_22,r46_23,r46_24,r46_25,r46_26,r46_27,r46_28,r46_29,r46_30,r46_31,p46,l46_0,gk,gP,gC,hw,h6,hlen2,happ,Zt,List.length_range,← List.map_take,← List.map_drop,smps_len,ones_len',gk1,gC1,hso,hvv,hps]) | (exfalso; omega)
          all_goals exact again hJ (k + 1) (weak_mk (by simp only [Ww,Wx,wk1,Wy,Wz,V0,Z4,Z5,Z6,Z7,Z8,Z9,Za,Zb,Zc,Zd,Ze,Zf,List.cons.injEq,Zg,Zh,Zi,Zj,Zk,Zl,Zm,Zn,Zo,Zp,beq_self_eq_true,bne_self_eq_false,decide_true,decide_false,Zq,Zr,Zs,Zt,Zu,Zv,Zw,Zx,Zy,Zz,Y0,hv,X0,ev,X1,X2,X3,X4,X5,X6,X7,X8,X9,Xa,Xb,Xc,Xd,Xe,Xf,Xg,Xh,Xi,Xj,Xk,Xl,Xm,Xn,Xo,Xp,Xq,Xr,Xs,Xt,Xu,Xv,Xw,Xx,Value.oneCell',Xy,Xz,W0,W1,true_and,and_true,and_self,implies_true,W2,W3,W4,W5,false_implies,W6,W7,W8,W9,Wa,Wb,Wc,Wd,We,Wf,Wg,Wh,Wi,Wj,Wk,Wl,Wm,reduceCtorEq,if_true,if_false,Wn,↓reduceIte,Wo,Wp,Wq,Wr,Ws,Wt,ne_eq,not_false_eq_true,not_true_eq_false,Wu,Nat.zero_ne_one]; exact hso.symm)) (by omega) (by omega)
        · rw [posW, if_neg hps] at hS
          have happ : ((List.range k).map (segAt r first F cu)).map Seg.av ++ [[.val (.int .i64 (IntKind.i64.wrap (first + k))), .val (.int .i64 (F[k] : Nat)), .val (.int .i64 ((F[k + 1] : Nat) : Int)), .val (.int .i64 (presL r.smps)[F[k]]), .val (.int .i64 (IntKind.i64.wrap (cu[k + 1] - cu[k]))), .val (.int .i64 (bytesF ((r.smps.take F[k + 1]).drop F[k]) 0)), .val (.int .i64 (0))]] = ((List.range (k + 1)).map (segAt r first F cu)).map Seg.av := by rw [List.range_succ, List.map_append, List.map_append, List.map_singleton, List.map_singleton, hS]; rfl
          repeat' first | ((with_reducible (first | refine condD ?_ ?_ | refine condE ?_ ?_ | refine condN ?_ ?_ | refine condI ?_ ?_ | refine condS ?_ ?_)) <;> intro h) | ((refine callG hb ?_)) | (with_reducible refine And.intro ?_ ?_; omega) | (simp only [Z0,Z1,Z2,Z3,Z4,Z5,Z6,Z7,Z8,Z9,Za,Zb,Zc,Zd,Ze,Zf,List.cons.injEq,Zg,Zh,Zi,Zj,Zk,Zl,Zm,Zn,Zo,Zp,beq_self_eq_true,bne_self_eq_false,decide_true,decide_false,Zq,Zr,Zs,Zt,Zu,Zv,Zw,Zx,Zy,Zz,Y0,Y1,Y2,Y3,Y4,Y5,Y6,Y7,Y8,Y9,Ya,Yb,Yc,Yd,Ye,Yf,Yg,Yh,lk,ef,Yi,Yj,Yk,Yl,Ym,Yn,Yo,Yp,Yq,Yr,Ys,Yt,Yu,Yv,Yw,Yx,Yy,Yz,hv,X0,ev,X1,X2,X3,X4,X5,X6,X7,X8,X9,Xa,Xb,Xc,Xd,Xe,Xf,Xg,Xh,Xi,Xj,Xk,Xl,Xm,Xn,Xo,Xp,Xq,Xr,Xs,Xt,Xu,Xv,Xw,Xx,Value.oneCell',Xy,Xz,W0,W1,true_and,and_true,and_self,implies_true,W2,W3,W4,W5,false_implies,W6,W7,W8,W9,Wa,Wb,Wc,Wd,We,Wf,Wg,Wh,Wi,Wj,Wk,Wl,Wm,reduceCtorEq,if_true,if_false,Wn,↓reduceIte,Wo,Wp,Wq,Wr,Ws,Wt,ne_eq,not_false_eq_true,not_true_eq_false,Wu,Wv,r46_0,r46_1,r46_2,r46_3,r46_4,r46_5,r46_6,r46_7,r46_8,r46_9,r46_10,r46_11,r46_12,r46_13,r46_14,r46_15,r46_16,r46_17,r46_18,r46_19,r46_20,r46_21,r46_22,r46_23,r46_24,r46_25,r46_26,r46_27,r46_28,r46_29,r46_30,r46_31,p46,l46_0,gk,gP,gC,hw,h6,hlen2,happ,Zt,List.length_range,← List.map_take,← List.map_drop,smps_len,ones_len',gk1,gC1,hso,hvv,hps]) | (exfalso; omega)
          all_goals exact again hJ (k + 1) (weak_mk (by simp only [Ww,Wx,wk1,Wy,Wz,V0,Z4,Z5,Z6,Z7,Z8,Z9,Za,Zb,Zc,Zd,Ze,Zf,List.cons.injEq,Zg,Zh,Zi,Zj,Zk,Zl,Zm,Zn,Zo,Zp,beq_self_eq_true,bne_self_eq_false,decide_true,decide_false,Zq,Zr,Zs,Zt,Zu,Zv,Zw,Zx,Zy,Zz,Y0,hv,X0,ev,X1,X2,X3,X4,X5,X6,X7,X8,X9,Xa,Xb,Xc,Xd,Xe,Xf,Xg,Xh,Xi,Xj,Xk,Xl,Xm,Xn,Xo,Xp,Xq,Xr,Xs,Xt,Xu,Xv,Xw,Xx,Value.oneCell',Xy,Xz,W0,W1,true_and,and_true,and_self,implies_true,W2,W3,W4,W5,false_implies,W6,W7,W8,W9,Wa,Wb,Wc,Wd,We,Wf,Wg,Wh,Wi,Wj,Wk,Wl,Wm,reduceCtorEq,if_true,if_false,Wn,↓reduceIte,Wo,Wp,Wq,Wr,Ws,Wt,ne_eq,not_false_eq_true,not_true_eq_false,Wu,Nat.zero_ne_one]; exact hso.symm)) (by omega) (by omega)
      · rw [if_neg hso] at hS
        rw [Bool.not_eq_true] at hso
        have happ : ((List.range k).map (segAt r first F cu)).map Seg.av ++ [[.val (.int .i64 (IntKind.i64.wrap (first + k))), .val (.int .i64 (F[k] : Nat)), .val (.int .i64 ((F[k + 1] : Nat) : Int)), .val (.int .i64 (presL r.smps)[F[k]]), .val (.int .i64 (IntKind.i64.wrap (cu[k + 1] - cu[k]))), .val (.int .i64 (bytesF ((r.smps.take F[k + 1]).drop F[k]) 0)), .val (.int .i64 (0))]] = ((List.range (k + 1)).map (segAt r first F cu)).map Seg.av := by rw [List.range_succ, List.map_append, List.map_append, List.map_singleton, List.map_singleton, hS]; rfl
        repeat' first | ((with_reducible (first | refine condD ?_ ?_ | refine condE ?_ ?_ | refine condN ?_ ?_ | refine condI ?_ ?_ | refine condS ?_ ?_)) <;> intro h) | ((refine callG hb ?_)) | (with_reducible refine And.intro ?_ ?_; omega) | (simp only [Z0,Z1,Z2,Z3,Z4,Z5,Z6,Z7,Z8,Z9,Za,Zb,Zc,Zd,Ze,Zf,List.cons.injEq,Zg,Zh,Zi,Zj,Zk,Zl,Zm,Zn,Zo,Zp,beq_self_eq_true,bne_self_eq_false,decide_true,decide_false,Zq,Zr,Zs,Zt,Zu,Zv,Zw,Zx,Zy,Zz,Y0,Y1,Y2,Y3,Y4,Y5,Y6,Y7,Y8,Y9,Ya,Yb,Yc,Yd,Ye,Yf,Yg,Yh,lk,ef,Yi,Yj,Yk,Yl,Ym,Yn,Yo,Yp,Yq,Yr,Ys,Yt,Yu,Yv,Yw,Yx,Yy,Yz,hv,X0,ev,X1,X2,X3,X4,X5,X6,X7,X8,X9,Xa,Xb,Xc,Xd,Xe,Xf,Xg,Xh,Xi,Xj,Xk,Xl,Xm,Xn,Xo,Xp,Xq,Xr,Xs,Xt,Xu,Xv,Xw,Xx,Value.oneCell',Xy,Xz,W0,W1,true_and,and_true,and_self,implies_true,W2,W3,W4,W5,false_implies,W6,W7,W8,W9,Wa,Wb,Wc,Wd,We,Wf,Wg,Wh,Wi,Wj,Wk,Wl,Wm,reduceCtorEq,if_true,if_false,Wn,↓reduceIte,Wo,Wp,Wq,Wr,Ws,Wt,ne_eq,not_false_eq_true,not_true_eq_false,Wu,Wv,r46_0,r46_1,r46_2,r46_3,r46_4,r46_5,r46_6,r46_7,r46_8,r46_9,r46_10,r46_11,r46_12,r46_13,r46_14,r46_15,r46_16,r46_17,r46_18,r46_19,r46_20,r46_21,r46_22,r46_23,r46_24,r46_25,r46_26,r46_27,r46_28,r46_29,r46_30,r46_31,p46,l46_0,gk,gP,gC,hw,h6,hlen2,happ,Zt,List.length_range,← List.map_take,← List.map_drop,smps_len,ones_len',gk1,gC1,hso]) | (exfalso; omega)
        all_goals exact again hJ (k + 1) (weak_mk (by simp only [Ww,Wx,wk1,Wy,Wz,V0,Z4,Z5,Z6,Z7,Z8,Z9,Za,Zb,Zc,Zd,Ze,Zf,List.cons.injEq,Zg,Zh,Zi,Zj,Zk,Zl,Zm,Zn,Zo,Zp,beq_self_eq_true,bne_self_eq_false,decide_true,decide_false,Zq,Zr,Zs,Zt,Zu,Zv,Zw,Zx,Zy,Zz,Y0,hv,X0,ev,X1,X2,X3,X4,X5,X6,X7,X8,X9,Xa,Xb,Xc,Xd,Xe,Xf,Xg,Xh,Xi,Xj,Xk,Xl,Xm,Xn,Xo,Xp,Xq,Xr,Xs,Xt,Xu,Xv,Xw,Xx,Value.oneCell',Xy,Xz,W0,W1,true_and,and_true,and_self,implies_true,W2,W3,W4,W5,false_implies,W6,W7,W8,W9,Wa,Wb,Wc,Wd,We,Wf,Wg,Wh,Wi,Wj,Wk,Wl,Wm,reduceCtorEq,if_true,if_false,Wn,↓reduceIte,Wo,Wp,Wq,Wr,Ws,Wt,ne_eq,not_false_eq_true,not_true_eq_false,Wu,Nat.zero_ne_one]; exact hso.symm)) (by omega) (by omega)
    · have hS := segAt_2 (r := r) (first := first) hlt hl hck hpl
      have hb := bytes_c ((r.smps.take r.smps.length).drop F[k]) (by rw [List.length_drop, List.length_take]; omega)
      have h6 : ¬ ((k + 1 : Nat) : Int) < (F.length : Nat) := by omega
      have hlen2 : (endsL r.smps).length = r.smps.length := hEl
      have hM := max_c (((endsL r.smps).take (endsL r.smps).length).drop F[k]) (fun q => by have := congrArg List.length q; rw [List.length_drop, List.length_take, List.length_nil] at this; omega)
      rw [hlen2] at hM hS
      by_cases hso : r.sound = true
      · rw [if_pos hso] at hS
        obtain ⟨v, hvv⟩ : ∃ v, IntKind.i64.wrap (cu[k] - (presL r.smps)[F[k]]) = v := ⟨_, rfl⟩
        rw [hvv] at hS
        by_cases hps : 0 < v
        · rw [posW, if_pos hps] at hS
          have happ : ((List.range k).map (segAt r first F cu)).map Seg.av ++ [[.val (.int .i64 (IntKind.i64.wrap (first + k))), .val (.int .i64 (F[k] : Nat)), .val (.int .i64 ((r.smps.length : Nat) : Int)), .val (.int .i64 (presL r.smps)[F[k]]), .val (.int .i64 (IntKind.i64.wrap (Go.Lib.maxOf (((endsL r.smps).take r.smps.length).drop F[k]) - cu[k]))), .val (.int .i64 (bytesF ((r.smps.take r.smps.length).drop F[k]) 0)), .val (.int .i64 (v))]] = ((List.range (k + 1)).map (segAt r first F cu)).map Seg.av := by rw [List.range_succ, List.map_append, List.map_append, List.map_singleton, List.map_singleton, hS]; rfl
          repeat' first | ((with_reducible (first | refine condD ?_ ?_ | refine condE ?_ ?_ | refine condN ?_ ?_ | refine condI ?_ ?_ | refine condS ?_ ?_)) <;> intro h) | ((refine callG hM ?_)) | ((refine callG hb ?_)) | (with_reducible refine And.intro ?_ ?_; omega) | (simp only [Z0,Z1,Z2,Z3,Z4,Z5,Z6,Z7,Z8,Z9,Za,Zb,Zc,Zd,Ze,Zf,List.cons.injEq,Zg,Zh,Zi,Zj,Zk,Zl,Zm,Zn,Zo,Zp,beq_self_eq_true,bne_self_eq_false,decide_true,decide_false,Zq,Zr,Zs,Zt,Zu,Zv,Zw,Zx,Zy,Zz,Y0,Y1,Y2,Y3,Y4,Y5,Y6,Y7,Y8,Y9,Ya,Yb,Yc,Yd,Ye,Yf,Yg,Yh,lk,ef,Yi,Yj,Yk,Yl,Ym,Yn,Yo,Yp,Yq,Yr,Ys,Yt,Yu,Yv,Yw,Yx,Yy,Yz,hv,X0,ev,X1,X2,X3,X4,X5,X6,X7,X8,X9,Xa,Xb,Xc,Xd,Xe,Xf,Xg,Xh,Xi,Xj,Xk,Xl,Xm,Xn,Xo,Xp,Xq,Xr,Xs,Xt,Xu,Xv,Xw,Xx,Value.oneCell',Xy,Xz,W0,W1,true_and,and_true,and_self,implies_true,W2,W3,W4,W5,false_implies,W6,W7,W8,W9,Wa,Wb,Wc,Wd,We,Wf,Wg,Wh,Wi,Wj,Wk,Wl,Wm,reduceCtorEq,if_true,if_false,Wn,↓reduceIte,Wo,Wp,Wq,Wr,Ws,Wt,ne_eq,not_false_eq_true,not_true_eq_false,Wu,Wv,r46_0,r46_1,r46_2,r46_3,r46_4,r46_5,r46_6,r46_7,r46_8,r46_9,r46_10,r46_11,r46_12,r46_13,r46_14,r46_15,r46_16,r46_17,r46_18,r46_19,r46_20,r46_21,r46_22,r46_23,r46_24,r46_25,r46_26,r46_27,r46_28,r46_29,r46_30,r46_31,p46,l46_0,gk,gP,gC,hw,h6,hlen2,happ,Zt,List.length_range,← List.map_take,← List.map_drop,smps_len,ones_len',hso,hvv,hps]) | (exfalso; omega)
          all_goals exact again hJ (k + 1) (weak_mk (by simp only [Ww,Wx,wk1,Wy,Wz,V0,Z4,Z5,Z6,Z7,Z8,Z9,Za,Zb,Zc,Zd,Ze,Zf,List.cons.injEq,Zg,Zh,Zi,Zj,Zk,Zl,Zm,Zn,Zo,Zp,beq_self_eq_true,bne_self_eq_false,decide_true,decide_false,Zq,Zr,Zs,Zt,Zu,Zv,Zw,Zx,Zy,Zz,Y0,hv,X0,ev,X1,X2,X3,X4,X5,X6,X7,X8,X9,Xa,Xb,Xc,Xd,Xe,Xf,Xg,Xh,Xi,Xj,Xk,Xl,Xm,Xn,Xo,Xp,Xq,Xr,Xs,Xt,Xu,Xv,Xw,Xx,Value.oneCell',Xy,Xz,W0,W1,true_and,and_true,and_self,implies_true,W2,W3,W4,W5,false_implies,W6,W7,W8,W9,Wa,Wb,Wc,Wd,We,Wf,Wg,Wh,Wi,Wj,Wk,Wl,Wm,reduceCtorEq,if_true,if_false,Wn,↓reduceIte,Wo,Wp,Wq,Wr,Ws,Wt,ne_eq,not_false_eq_true,not_true_eq_false,Wu,Nat.zero_ne_one]; exact hso.symm)) (by omega) (by omega)
        · rw [posW, if_neg hps] at hS
          have happ : ((List.range k).map (segAt r first F cu)).map Seg.av ++ [[.val (.int .i64 (IntKind.i64.wrap (first + k))), .val (.int .i64 (F[k] : Nat)), .val (.int .i64 ((r.smps.length : Nat) : Int)), .val (.int .i64 (presL r.smps)[F[k]]), .val (.int .i64 (IntKind.i64.wrap (Go.Lib.maxOf (((endsL r.smps).take r.smps.length).drop F[k]) - cu[k]))), .val (.int .i64 (bytesF ((r.smps.take r.smps.length).drop F[k]) 0)), .val (.int .i64 (0))]] = ((List.range (k + 1)).map (segAt r first F cu)).map Seg.av := by rw [List.range_succ, List.map_append, List.map_append, List.map_singleton, List.map_singleton, hS]; rfl
          repeat' first | ((with_reducible (first | refine condD ?_ ?_ | refine condE ?_ ?_ | refine condN ?_ ?_ | refine condI ?_ ?_ | refine condS ?_ ?_)) <;> intro h) | ((refine callG hM ?_)) | ((refine callG hb ?_)) | (with_reducible refine And.intro ?_ ?_; omega) | (simp only [Z0,Z1,Z2,Z3,Z4,Z5,Z6,Z7,Z8,Z9,Za,Zb,Zc,Zd,Ze,Zf,List.cons.injEq,Zg,Zh,Zi,Zj,Zk,Zl,Zm,Zn,Zo,Zp,beq_self_eq_true,bne_self_eq_false,decide_true,decide_false,Zq,Zr,Zs,Zt,Zu,Zv,Zw,Zx,Zy,Zz,Y0,Y1,Y2,Y3,Y4,Y5,Y6,Y7,Y8,Y9,Ya,Yb,Yc,Yd,Ye,Yf,Yg,Yh,lk,ef,Yi,Yj,Yk,Yl,Ym,Yn,Yo,Yp,Yq,Yr,Ys,Yt,Yu,Yv,Yw,Yx,Yy,Yz,hv,X0,ev,X1,X2,X3,X4,X5,X6,X7,X8,X9,Xa,Xb,Xc,Xd,Xe,Xf,Xg,Xh,Xi,Xj,Xk,Xl,Xm,Xn,Xo,Xp,Xq,Xr,Xs,Xt,Xu,Xv,Xw,Xx,Value.oneCell',Xy,Xz,W0,W1,true_and,and_true,and_self,implies_true,W2,W3,W4,W5,false_implies,W6,W7,W8,W9,Wa,Wb,Wc,Wd,We,Wf,Wg,Wh,Wi,Wj,Wk,Wl,Wm,reduceCtorEq,if_true,if_false,Wn,↓reduceIte,Wo,Wp,Wq,Wr,Ws,Wt,ne_eq,not_false_eq_true,not_true_eq_false,Wu,Wv,r46_0,r46_1,r46_2,r46_3,r46_4,r46_5,r46_6,r46_7,r46_8,r46_9,r46_10,r46_11,r46_12,r46_13,r46_14,r46_15,r46_16,r46_17,r46_18,r46_19,r46_20,r46_21,r46_22,r46_23,r46_24,r46_25,r46_26,r46_27,r46_28,r46_29,r46_30,r46_31,p46,l46_0,gk,gP,gC,hw,h6,hlen2,happ,Zt,List.length_range,← List.map_take,← List.map_drop,smps_len,ones_len',hso,hvv,hps]) | (exfalso; omega)
          all_goals exact again hJ (k + 1) (weak_mk (by simp only [Ww,Wx,wk1,Wy,Wz,V0,Z4,Z5,Z6,Z7,Z8,Z9,Za,Zb,Zc,Zd,Ze,Zf,List.cons.injEq,Zg,Zh,Zi,Zj,Zk,Zl,Zm,Zn,Zo,Zp,beq_self_eq_true,bne_self_eq_false,decide_true,decide_false,Zq,Zr,Zs,Zt,Zu,Zv,Zw,Zx,Zy,Zz,Y0,hv,X0,ev,X1,X2,X3,X4,X5,X6,X7,X8,X9,Xa,Xb,Xc,Xd,Xe,Xf,Xg,Xh,Xi,Xj,Xk,Xl,Xm,Xn,Xo,Xp,Xq,Xr,Xs,Xt,Xu,Xv,Xw,Xx,Value.oneCell',Xy,Xz,W0,W1,true_and,and_true,and_self,implies_true,W2,W3,W4,W5,false_implies,W6,W7,W8,W9,Wa,Wb,Wc,Wd,We,Wf,Wg,Wh,Wi,Wj,Wk,Wl,Wm,reduceCtorEq,if_true,if_false,Wn,↓reduceIte,Wo,Wp,Wq,Wr,Ws,Wt,ne_eq,not_false_eq_true,not_true_eq_false,Wu,Nat.zero_ne_one]; exact hso.symm)) (by omega) (by omega)
      · rw [if_neg hso] at hS
        rw [Bool.not_eq_true] at hso
        have happ : ((List.range k).map (segAt r first F cu)).map Seg.av ++ [[.val (.int .i64 (IntKind.i64.wrap (first + k))), .val (.int .i64 (F[k] : Nat)), .val (.int .i64 ((r.smps.length : Nat) : Int)), .val (.int .i64 (presL r.smps)[F[k]]), .val (.int .i64 (IntKind.i64.wrap (Go.Lib.maxOf (((endsL r.smps).take r.smps.length).drop F[k]) - cu[k]))), .val (.int .i64 (bytesF ((r.smps.take r.smps.length).drop F[k]) 0)), .val (.int .i64 (0))]] = ((List.range (k + 1)).map (segAt r first F cu)).map Seg.av := by rw [List.range_succ, List.map_append, List.map_append, List.map_singleton, List.map_singleton, hS]; rfl
        repeat' first | ((with_reducible (first | refine condD ?_ ?_ | refine condE ?_ ?_ | refine condN ?_ ?_ | refine condI ?_ ?_ | refine condS ?_ ?_)) <;> intro h) | ((refine callG hM ?_)) | ((refine callG hb ?_)) | (with_reducible refine And.intro ?_ ?_; omega) | (simp only [Z0,Z1,Z2,Z3,Z4,Z5,Z6,Z7,Z8,Z9,Za,Zb,Zc,Zd,Ze,Zf,List.cons.injEq,Zg,Zh,Zi,Zj,Zk,Zl,Zm,Zn,Zo,Zp,beq_self_eq_true,bne_self_eq_false,decide_true,decide_false,Zq,Zr,Zs,Zt,Zu,Zv,Zw,Zx,Zy,Zz,Y0,Y1,Y2,Y3,Y4,Y5,Y6,Y7,Y8,Y9,Ya,Yb,Yc,Yd,Ye,Yf,Yg,Yh,lk,ef,Yi,Yj,Yk,Yl,Ym,Yn,Yo,Yp,Yq,Yr,Ys,Yt,Yu,Yv,Yw,Yx,Yy,Yz,hv,X0,ev,X1,X2,X3,X4,X5,X6,X7,X8,X9,Xa,Xb,Xc,Xd,Xe,Xf,Xg,Xh,Xi,Xj,Xk,Xl,Xm,Xn,Xo,Xp,Xq,Xr,Xs,Xt,Xu,Xv,Xw,Xx,Value.oneCell',Xy,Xz,W0,W1,true_and,and_true,and_self,implies_true,W2,W3,W4,W5,false_implies,W6,W7,W8,W9,Wa,Wb,Wc,Wd,We,Wf,Wg,Wh,Wi,Wj,Wk,Wl,Wm,reduceCtorEq,if_true,if_false,Wn,↓reduceIte,Wo,Wp,Wq,Wr,Ws,Wt,ne_eq,not_false_eq_true,not_true_eq_false,Wu,Wv,r46_0,r46_1,r46_2,r46_3,r46_4,r46_5,r46_6,r46_7,r46_8,r46_9,r46_10,r46_11,r46_12,r46_13,r46_14,r46_15,r46_16,r46_17,r46_18,r46_19,r46_20,r46_21,r46_22,r46_23,r46_24,r46_25,r46_26,r46_27,r46_28,r46_29,r46_30,r46_31,p46,l46_0,gk,gP,gC,hw,h6,hlen2,happ,Zt,List.length_range,← List.map_take,← List.map_drop,smps_len,ones_len',hso]) | (exfalso; omega)
        all_goals exact again hJ (k + 1) (weak_mk (by simp only [Ww,Wx,wk1,Wy,Wz,V0,Z4,Z5,Z6,Z7,Z8,Z9,Za,Zb,Zc,Zd,Ze,Zf,List.cons.injEq,Zg,Zh,Zi,Zj,Zk,Zl,Zm,Zn,Zo,Zp,beq_self_eq_true,bne_self_eq_false,decide_true,decide_false,Zq,Zr,Zs,Zt,Zu,Zv,Zw,Zx,Zy,Zz,Y0,hv,X0,ev,X1,X2,X3,X4,X5,X6,X7,X8,X9,Xa,Xb,Xc,Xd,Xe,Xf,Xg,Xh,Xi,Xj,Xk,Xl,Xm,Xn,Xo,Xp,Xq,Xr,Xs,Xt,Xu,Xv,Xw,Xx,Value.oneCell',Xy,Xz,W0,W1,true_and,and_true,and_self,implies_true,W2,W3,W4,W5,false_implies,W6,W7,W8,W9,Wa,Wb,Wc,Wd,We,Wf,Wg,Wh,Wi,Wj,Wk,Wl,Wm,reduceCtorEq,if_true,if_false,Wn,↓reduceIte,Wo,Wp,Wq,Wr,Ws,Wt,ne_eq,not_false_eq_true,not_true_eq_false,Wu,Nat.zero_ne_one]; exact hso.symm)) (by omega) (by omega)
  · have hke : k = F.length := by omega
    subst hke
    clear hJ
    have hw1 := i_sub1 F.length f0 (by omega)
    have hlt1 : F.length - 1 < ((List.range F.length).map (segAt r first F cu)).length := by rw [List.length_map, List.length_range]; omega
    have gL := getD_map (f := Seg.av) (d := []) hlt1
    have hel : ((List.range F.length).map (segAt r first F cu))[F.length - 1] = segAt r first F cu (F.length - 1) := by rw [List.getElem_map, List.getElem_range]
    rw [hel] at gL
    simp only [Seg.av, segAt] at gL
    rw [← h2] at hZ
    have hbi : ((F.length - 1 : Nat) : Int) < (F.length : Nat) := by omega
    have hbn : F.length - 1 < F.length := by omega
    generalize segLen r F cu (F.length - 1) = q at gL hZ
    by_cases hq : q < 0
    · rw [if_pos hq] at hZ
      subst hZ
      repeat' first | ((with_reducible (first | refine condD ?_ ?_ | refine condE ?_ ?_ | refine condN ?_ ?_ | refine condI ?_ ?_ | refine condS ?_ ?_)) <;> intro h) | (with_reducible refine And.intro ?_ ?_; omega) | (simp only [Z0,Z1,Z2,Z3,Z4,Z5,Z6,Z7,Z8,Z9,Za,Zb,Zc,Zd,Ze,Zf,List.cons.injEq,Zg,Zh,Zi,Zj,Zk,Zl,Zm,Zn,Zo,Zp,beq_self_eq_true,bne_self_eq_false,decide_true,decide_false,Zq,Zr,Zs,Zt,Zu,Zv,Zw,Zx,Zy,Zz,Y0,Y1,Y2,Y3,Y4,Y5,Y6,Y7,Y8,Y9,Ya,Yb,Yc,Yd,Ye,Yf,Yg,Yh,lk,ef,Yi,Yj,Yk,Yl,Ym,Yn,Yo,Yp,Yq,Yr,Ys,Yt,Yu,Yv,Yw,Yx,Yy,Yz,hv,X0,ev,X1,X2,X3,X4,X5,X6,X7,X8,X9,Xa,Xb,Xc,Xd,Xe,Xf,Xg,Xh,Xi,Xj,Xk,Xl,Xm,Xn,Xo,Xp,Xq,Xr,Xs,Xt,Xu,Xv,Xw,Xx,Value.oneCell',Xy,Xz,W0,W1,true_and,and_true,and_self,implies_true,W2,W3,W4,W5,false_implies,W6,W7,W8,W9,Wa,Wb,Wc,Wd,We,Wf,Wg,Wh,Wi,Wj,Wk,Wl,Wm,reduceCtorEq,if_true,if_false,Wn,↓reduceIte,Wo,Wp,Wq,Wr,Ws,Wt,ne_eq,not_false_eq_true,not_true_eq_false,Wu,Wv,r46_0,r46_1,r46_2,r46_3,r46_4,r46_5,r46_6,r46_7,r46_8,r46_9,r46_10,r46_11,r46_12,r46_13,r46_14,r46_15,r46_16,r46_17,r46_18,r46_19,r46_20,r46_21,r46_22,r46_23,r46_24,r46_25,r46_26,r46_27,r46_28,r46_29,r46_30,r46_31,p46,l46_0,gL,hw1,hq,hbi,hbn,Zt,List.length_range]) | (exfalso; omega)
      all_goals omega
    · rw [if_neg hq] at hZ
      subst hZ
      unfold segsL
      repeat' first | ((with_reducible (first | refine condD ?_ ?_ | refine condE ?_ ?_ | refine condN ?_ ?_ | refine condI ?_ ?_ | refine condS ?_ ?_)) <;> intro h) | (with_reducible refine And.intro ?_ ?_; omega) | (simp only [Z0,Z1,Z2,Z3,Z4,Z5,Z6,Z7,Z8,Z9,Za,Zb,Zc,Zd,Ze,Zf,List.cons.injEq,Zg,Zh,Zi,Zj,Zk,Zl,Zm,Zn,Zo,Zp,beq_self_eq_true,bne_self_eq_false,decide_true,decide_false,Zq,Zr,Zs,Zt,Zu,Zv,Zw,Zx,Zy,Zz,Y0,Y1,Y2,Y3,Y4,Y5,Y6,Y7,Y8,Y9,Ya,Yb,Yc,Yd,Ye,Yf,Yg,Yh,lk,ef,Yi,Yj,Yk,Yl,Ym,Yn,Yo,Yp,Yq,Yr,Ys,Yt,Yu,Yv,Yw,Yx,Yy,Yz,hv,X0,ev,X1,X2,X3,X4,X5,X6,X7,X8,X9,Xa,Xb,Xc,Xd,Xe,Xf,Xg,Xh,Xi,Xj,Xk,Xl,Xm,Xn,Xo,Xp,Xq,Xr,Xs,Xt,Xu,Xv,Xw,Xx,Value.oneCell',Xy,Xz,W0,W1,true_and,and_true,and_self,implies_true,W2,W3,W4,W5,false_implies,W6,W7,W8,W9,Wa,Wb,Wc,Wd,We,Wf,Wg,Wh,Wi,Wj,Wk,Wl,Wm,reduceCtorEq,if_true,if_false,Wn,↓reduceIte,Wo,Wp,Wq,Wr,Ws,Wt,ne_eq,not_false_eq_true,not_true_eq_false,Wu,Wv,r46_0,r46_1,r46_2,r46_3,r46_4,r46_5,r46_6,r46_7,r46_8,r46_9,r46_10,r46_11,r46_12,r46_13,r46_14,r46_15,r46_16,r46_17,r46_18,r46_19,r46_20,r46_21,r46_22,r46_23,r46_24,r46_25,r46_26,r46_27,r46_28,r46_29,r46_30,r46_31,p46,l46_0,gL,hw1,hq,hbi,hbn,Zt,List.length_range]) | (exfalso; omega)
      all_goals omega
end Go.Proofs.Ytpecmhdepggnoaa
