/- Fragments: box.ReadFragment of what FragmentBytes wrote, by the machine on data. -/
import Derived.Test.YtpecmhdepggnoaaKFragV
import Derived.Test.YtpecmhdepggnoaaKFragR
namespace Go.Proofs.Ytpecmhdepggnoaa
open Go.RowKit
open Go.Proofs.Ytpecmhdepggnoaa renaming done_eq → Z0, done_eq' → Z1, donet_eq → Z2, donet_eq' → Z3, fin_val → Z4, fin_tup → Z5, fin_agg → Z6, fin_ro → Z7, res_one → Z8, res_more → Z9, rv_t → Za, rv_c → Zb, rv_l → Zc, int_eq → Zg, bool_eq → Zh, toNat_pred → Zr, toNat_succ → Zs, cnd_t → Zu, cnd_f → Zv, grd_tt → Zw, grd_u → Zx, grd_tf → Zy, grd_ft → Zz, grd_ff → Y0, g_skip → Y1, g_ops → Y2, g_seq → Y3, g_block → Y4, g_exit → Y5, g_ret → Y6, x_c → Y7, x_o → Y8, x_l → Y9, x_b → Ya, g_b → Yb, g_nil → Yc, r_all → Yd, o_nil → Ye, g_cond → Yf, o_guard → Yg, o_call → Yh, o_callm → Yi, o_callt → Yj, o_callx → Yk, o_callv → Yl, o_mv → Ym, o_pick → Yn, o_bin → Yo, o_never → Yp, o_eqs → Yq, o_eqb → Yr, o_un → Ys, o_conv → Yt, o_load → Yu, o_loadr → Yv, o_idxr → Yw, o_loads → Yx, o_fld → Yy, o_idx → Yz, o_idxs → X0, o_len → X1, o_lens → X2, o_ext → X3, o_nilck → X4, o_slc → X5, o_slcs → X6, o_build → X7, o_minmax → X8, o_mkfn → X9, o_alloc → Xa, o_box → Xb, o_boxs → Xc, o_row → Xd, o_rowr → Xe, o_mk → Xf, o_asg → Xg, o_app → Xh, o_store → Xi, o_stores → Xj, o_eqnil → Xk, eqAV → Xl, view_t → Xm, view_c → Xn, view_nil → Xo, view_fn → Xp, look_own → Xq, look_box → Xr, look_junk → Xs, look_val → Xt, look_nilsl → Xu, look_ro → Xv, look_roAt → Xw, look_agg → Xx, look_tup → Xy, look_clo → Xz, look_alias → W0, look_ref → W1, look_into → W2, rowOf → W3, cellsOf → W4, argv → W5, vbin → W6, vun → W7, bnd → W8, elemOf → W9, putParts → Wa, setAt → Wb, zav → Wc, put_at → Wj, mk_at → Wk, mk_nil → Wl, initSt → Wm, wk_cons → Vh, wk_nil → Vi, wk1 → Vj, vint_eq → Vk, vbool_eq → Vl
open Go.Proofs.Ytpecmhdepggnoaa.AV.tup renaming injEq → Zd
open Go.Proofs.Ytpecmhdepggnoaa.AV.agg renaming injEq → Ze
open Go.Proofs.Ytpecmhdepggnoaa.AV.ro renaming injEq → Zf
open _root_.Int renaming toNat_natCast → Zi, reduceToNat → Zj, toNat_zero → Zk, toNat_one → Zl, reduceLE → Zm, reduceLT → Zn, reduceBEq → Zo, reduceBNe → Zp, reduceNeg → Zq
open _root_.List renaming length_map → Zt, map_cons → Wn, map_nil → Wo, forall_mem_cons → Wp, not_mem_nil → Wq, length_cons → Wr, length_nil → Ws, getD_cons_zero → Wt, getD_cons_succ → Wu, getD_nil → Wv, drop_succ_cons → Ww, drop_zero → Wx, take_succ_cons → Wy, take_zero → Wz, set_cons_zero → V0, set_cons_succ → V1, all_cons → V2, all_nil → V3
open Go.Proofs.Ytpecmhdepggnoaa.ASt renaming rid → Wd, free → We
open Go.Proofs.Ytpecmhdepggnoaa.AV renaming kill → Wf, isHome → Wg, noLoan → Wh, cellOK → Wi
open _root_.Bool renaming and_true → V4, true_and → V5, not_true → V6, not_false → V7, false_eq_true → V8
open _root_.Nat renaming reduceEqDiff → V9, reduceAdd → Va, reduceSub → Vb, reduceMul → Vc, reduceLeDiff → Vd, reduceLT → Ve, one_ne_zero → Vf, zero_ne_one → Vg
open Go.Proofs.Ytpecmhdepggnoaa.AV.val renaming injEq → Vm
set_option linter.unusedSimpArgs false
--@short

theorem set_getD_self {α : Type} : ∀ (xs : List (List α)) (k : Nat), xs.set k (xs.getD k []) = xs
  | [], _ => rfl
  | x :: r, 0 => rfl
  | x :: r, k + 1 => by rw [List.set_cons_succ, List.getD_cons_succ, set_getD_self r k]
theorem rowS_t0 (l : List Smp) : rowS l l.length l.length l.length l.length 0 = l.map fun s => ⟨0, s.step, s.shift, s.size, s.key⟩ := by
  refine List.ext_getElem (by simp [rowS]) fun i h1 h2 => ?_
  have h3 : i < l.length := by simpa using h2
  have hg : l.getD i smpZ = l[i] := by rw [List.getD_eq_getElem?_getD, List.getElem?_eq_getElem h3]; rfl
  simp only [rowS, List.getElem_map, List.getElem_range, if_pos h3, Nat.not_lt_zero, if_false, hg]
theorem keysOK_t0 : ∀ (l : List Smp) (b : Bool), keysOK b (l.map fun s => ⟨0, s.step, s.shift, s.size, s.key⟩) = keysOK b l
  | [], b => by cases b <;> rfl
  | s :: r, b => by rw [List.map_cons, keysOK, keysOK, keysOK_t0 r]
theorem marks_t0 (l : List Smp) : marksN (rowS l l.length l.length l.length l.length 0) = marksN l := by
  rw [rowS_t0]
  unfold marksN mkSt mkSh mkSz mkFs
  rw [keysOK_t0, List.length_map, List.all_map, List.all_map, List.all_map]
  cases l <;> rfl
/-! headend/box.ReadFragment -/
def r23_0 : List POp := [⟨2, .alloc [.int .i64 0, .slice none 0 0], none⟩,
  ⟨3, .asg (.c (.int .i64 0)), none⟩,
  ⟨4, .asg (.c (.int .i64 0)), none⟩]
def r23_1 : List POp := [⟨17, .mv (.t 0), none⟩,
  ⟨18, .build [.slice none 0 0, .int .i64 0, .bool false] [(0, 1, .t 17)], none⟩,
  ⟨19, .boxs (.t 18), none⟩,
  ⟨5, .asg (.t 19), none⟩]
def r23_2 : List POp := [⟨20, .mv (.t 5), none⟩,
  ⟨21, .callm 50 [.t 20, .c (.int .i64 4)], none⟩,
  ⟨22, .conv .i64 (.t 21), none⟩,
  ⟨23, .build [.int .i64 0, .slice none 0 0] [(0, 1, .t 22)], none⟩,
  ⟨6, .alloc [.int .i64 0, .slice none 0 0], none⟩,
  ⟨0, .stores 2 (.t 6) (.t 23), none⟩]
def r23_3 : List POp := [⟨24, .mv (.t 5), none⟩,
  ⟨25, .callm 50 [.t 24, .c (.int .i64 8)], none⟩,
  ⟨26, .conv .i64 (.t 25), none⟩,
  ⟨7, .asg (.t 26), none⟩]
def r23_4 : List POp := [⟨27, .mv (.t 5), none⟩,
  ⟨28, .callm 50 [.t 27, .c (.int .i64 2)], none⟩,
  ⟨29, .conv .i64 (.t 28), none⟩,
  ⟨8, .asg (.t 29), none⟩]
def r23_5 : List POp := [⟨30, .mv (.t 5), none⟩,
  ⟨31, .callm 51 [.t 30, .c (.int .u8 15)], none⟩,
  ⟨9, .asg (.t 31), none⟩]
def r23_6 : List POp := [⟨32, .mv (.t 5), none⟩,
  ⟨33, .nilck (.t 32), none⟩,
  ⟨34, .fld 2 (.t 33), none⟩,
  ⟨35, .load (.t 34), none⟩]
def r23_7 : List POp := [⟨36, .build [.int .i64 0, .slice none 0 0] [], none⟩,
  ⟨37, .mv (.t 5), none⟩,
  ⟨38, .nilck (.t 37), none⟩,
  ⟨39, .fld 1 (.t 38), none⟩,
  ⟨40, .loadr (.t 39), none⟩,
  ⟨0, .stores 2 (.t 2) (.t 36), none⟩,
  ⟨3, .mv (.t 40), none⟩,
  ⟨4, .mv (.c (.int .i64 10)), none⟩]
def r23_8 : List POp := [⟨41, .mv (.t 8), none⟩,
  ⟨42, .mk 69 5 40 [.int .i64 0, .int .i64 0, .int .i64 0, .int .i64 0, .bool false] (.t 41) (.t 41), none⟩,
  ⟨10, .asg (.t 42), none⟩]
def r23_9 : List POp := [⟨43, .mv (.t 10), none⟩,
  ⟨44, .len (.t 43), none⟩,
  ⟨45, .mv (.c (.int .i64 0)), none⟩]
def r23_10 : List POp := [⟨46, .bin .lss (.t 45) (.t 44), none⟩]
def r23_11 : List POp := [⟨47, .mv (.t 45), none⟩,
  ⟨11, .asg (.t 47), none⟩]
def r23_12 : List POp := [⟨48, .mv (.t 11), none⟩,
  ⟨49, .bin .gtr (.t 48) (.c (.int .i64 0)), none⟩,
  ⟨50, .mv (.t 49), none⟩,
  ⟨51, .mv (.t 9), some (50, true)⟩,
  ⟨52, .bin .and (.t 51) (.c (.int .u8 1)), some (50, true)⟩,
  ⟨53, .bin .neq (.t 52) (.c (.int .u8 0)), some (50, true)⟩,
  ⟨54, .pick (.t 50) (.t 53) (.c (.bool false)), none⟩]
def r23_13 : List POp := [⟨55, .mv (.t 10), none⟩,
  ⟨56, .mv (.t 11), none⟩,
  ⟨57, .mv (.t 10), none⟩,
  ⟨58, .idx 5 (.t 57) (.c (.int .i64 0)), none⟩,
  ⟨59, .fld 1 (.t 58), none⟩,
  ⟨60, .load (.t 59), none⟩,
  ⟨61, .idx 5 (.t 55) (.t 56), none⟩,
  ⟨62, .fld 1 (.t 61), none⟩,
  ⟨0, .store (.t 62) (.t 60), none⟩]
def r23_14 : List POp := [⟨63, .mv (.t 10), none⟩,
  ⟨64, .mv (.t 11), none⟩,
  ⟨65, .mv (.t 5), none⟩,
  ⟨66, .callm 50 [.t 65, .c (.int .i64 4)], none⟩,
  ⟨67, .conv .i64 (.t 66), none⟩,
  ⟨68, .idx 5 (.t 63) (.t 64), none⟩,
  ⟨69, .fld 1 (.t 68), none⟩,
  ⟨0, .store (.t 69) (.t 67), none⟩]
def r23_15 : List POp := [⟨70, .bin .add (.t 45) (.c (.int .i64 1)), none⟩,
  ⟨45, .mv (.t 70), none⟩]
def r23_16 : List POp := [⟨71, .mv (.t 10), none⟩,
  ⟨72, .len (.t 71), none⟩,
  ⟨73, .mv (.c (.int .i64 0)), none⟩]
def r23_17 : List POp := [⟨74, .bin .lss (.t 73) (.t 72), none⟩]
def r23_18 : List POp := [⟨75, .mv (.t 73), none⟩,
  ⟨12, .asg (.t 75), none⟩]
def r23_19 : List POp := [⟨76, .mv (.t 9), none⟩,
  ⟨77, .bin .and (.t 76) (.c (.int .u8 2)), none⟩,
  ⟨78, .bin .eql (.t 77) (.c (.int .u8 0)), none⟩]
def r23_20 : List POp := [⟨79, .mv (.t 10), none⟩,
  ⟨80, .mv (.t 12), none⟩,
  ⟨81, .mv (.t 5), none⟩,
  ⟨82, .callm 50 [.t 81, .c (.int .i64 4)], none⟩,
  ⟨83, .conv .i32 (.t 82), none⟩,
  ⟨84, .conv .i64 (.t 83), none⟩,
  ⟨85, .idx 5 (.t 79) (.t 80), none⟩,
  ⟨86, .fld 2 (.t 85), none⟩,
  ⟨0, .store (.t 86) (.t 84), none⟩]
def r23_21 : List POp := [⟨87, .bin .add (.t 73) (.c (.int .i64 1)), none⟩,
  ⟨73, .mv (.t 87), none⟩]
def r23_22 : List POp := [⟨88, .mv (.t 10), none⟩,
  ⟨89, .len (.t 88), none⟩,
  ⟨90, .mv (.c (.int .i64 0)), none⟩]
def r23_23 : List POp := [⟨91, .bin .lss (.t 90) (.t 89), none⟩]
def r23_24 : List POp := [⟨92, .mv (.t 90), none⟩,
  ⟨13, .asg (.t 92), none⟩]
def r23_25 : List POp := [⟨93, .mv (.t 13), none⟩,
  ⟨94, .bin .gtr (.t 93) (.c (.int .i64 0)), none⟩,
  ⟨95, .mv (.t 94), none⟩,
  ⟨96, .mv (.t 9), some (95, true)⟩,
  ⟨97, .bin .and (.t 96) (.c (.int .u8 4)), some (95, true)⟩,
  ⟨98, .bin .neq (.t 97) (.c (.int .u8 0)), some (95, true)⟩,
  ⟨99, .pick (.t 95) (.t 98) (.c (.bool false)), none⟩]
def r23_26 : List POp := [⟨100, .mv (.t 10), none⟩,
  ⟨101, .mv (.t 13), none⟩,
  ⟨102, .mv (.t 10), none⟩,
  ⟨103, .idx 5 (.t 102) (.c (.int .i64 0)), none⟩,
  ⟨104, .fld 3 (.t 103), none⟩,
  ⟨105, .load (.t 104), none⟩,
  ⟨106, .idx 5 (.t 100) (.t 101), none⟩,
  ⟨107, .fld 3 (.t 106), none⟩,
  ⟨0, .store (.t 107) (.t 105), none⟩]
def r23_27 : List POp := [⟨108, .mv (.t 10), none⟩,
  ⟨109, .mv (.t 13), none⟩,
  ⟨110, .mv (.t 5), none⟩,
  ⟨111, .callm 50 [.t 110, .c (.int .i64 4)], none⟩,
  ⟨112, .conv .i64 (.t 111), none⟩,
  ⟨113, .idx 5 (.t 108) (.t 109), none⟩,
  ⟨114, .fld 3 (.t 113), none⟩,
  ⟨0, .store (.t 114) (.t 112), none⟩]
def r23_28 : List POp := [⟨115, .bin .add (.t 90) (.c (.int .i64 1)), none⟩,
  ⟨90, .mv (.t 115), none⟩]
def r23_29 : List POp := [⟨116, .mv (.t 10), none⟩,
  ⟨117, .len (.t 116), none⟩,
  ⟨118, .mv (.c (.int .i64 0)), none⟩]
def r23_30 : List POp := [⟨119, .bin .lss (.t 118) (.t 117), none⟩]
def r23_31 : List POp := [⟨120, .mv (.t 118), none⟩,
  ⟨14, .asg (.t 120), none⟩]
def r23_32 : List POp := [⟨121, .mv (.t 9), none⟩,
  ⟨122, .bin .and (.t 121) (.c (.int .u8 8)), none⟩,
  ⟨123, .bin .neq (.t 122) (.c (.int .u8 0)), none⟩]
def r23_33 : List POp := [⟨124, .mv (.t 10), none⟩,
  ⟨125, .mv (.t 14), none⟩,
  ⟨126, .mv (.t 14), none⟩,
  ⟨127, .bin .eql (.t 126) (.c (.int .i64 0)), none⟩,
  ⟨128, .idx 5 (.t 124) (.t 125), none⟩,
  ⟨129, .fld 4 (.t 128), none⟩,
  ⟨0, .store (.t 129) (.t 127), none⟩]
def r23_34 : List POp := [⟨130, .mv (.t 10), none⟩,
  ⟨131, .mv (.t 14), none⟩,
  ⟨132, .mv (.t 5), none⟩,
  ⟨133, .callm 51 [.t 132, .c (.int .u8 1)], none⟩,
  ⟨134, .bin .eql (.t 133) (.c (.int .u8 1)), none⟩,
  ⟨135, .idx 5 (.t 130) (.t 131), none⟩,
  ⟨136, .fld 4 (.t 135), none⟩,
  ⟨0, .store (.t 136) (.t 134), none⟩]
def r23_35 : List POp := [⟨137, .bin .add (.t 118) (.c (.int .i64 1)), none⟩,
  ⟨118, .mv (.t 137), none⟩]
def r23_36 : List POp := [⟨138, .mv (.t 5), none⟩,
  ⟨139, .callm 52 [.t 138], none⟩,
  ⟨140, .un .not (.t 139), none⟩]
def r23_37 : List POp := [⟨141, .build [.int .i64 0, .slice none 0 0] [], none⟩,
  ⟨142, .mv (.t 5), none⟩,
  ⟨143, .nilck (.t 142), none⟩,
  ⟨144, .fld 1 (.t 143), none⟩,
  ⟨145, .loadr (.t 144), none⟩,
  ⟨0, .stores 2 (.t 2) (.t 141), none⟩,
  ⟨3, .mv (.t 145), none⟩,
  ⟨4, .mv (.c (.int .i64 10)), none⟩]
def r23_38 : List POp := [⟨147, .mv (.t 8), none⟩,
  ⟨148, .bin .eql (.t 147) (.c (.int .i64 0)), none⟩,
  ⟨149, .mv (.t 148), none⟩,
  ⟨150, .mv (.t 7), some (149, true)⟩,
  ⟨151, .bin .neq (.t 150) (.c (.int .i64 0)), some (149, true)⟩,
  ⟨152, .pick (.t 149) (.t 151) (.c (.bool false)), none⟩,
  ⟨146, .asg (.t 152), none⟩]
def r23_39 : List POp := [⟨153, .build [.int .i64 0, .slice none 0 0] [], none⟩,
  ⟨0, .stores 2 (.t 2) (.t 153), none⟩,
  ⟨3, .asg (.c (.int .i64 4)), none⟩,
  ⟨4, .asg (.c (.int .i64 3)), none⟩]
def r23_40 : List POp := [⟨155, .mv (.t 9), none⟩,
  ⟨156, .mv (.t 10), none⟩,
  ⟨157, .call 48 [.t 156], none⟩,
  ⟨158, .bin .neq (.t 155) (.t 157), none⟩,
  ⟨154, .asg (.t 158), none⟩]
def r23_41 : List POp := [⟨159, .build [.int .i64 0, .slice none 0 0] [], none⟩,
  ⟨0, .stores 2 (.t 2) (.t 159), none⟩,
  ⟨3, .asg (.c (.int .i64 14)), none⟩,
  ⟨4, .asg (.c (.int .i64 3)), none⟩]
def r23_42 : List POp := [⟨160, .mv (.t 10), none⟩,
  ⟨161, .len (.t 160), none⟩,
  ⟨162, .mv (.c (.int .i64 0)), none⟩]
def r23_43 : List POp := [⟨163, .bin .lss (.t 162) (.t 161), none⟩]
def r23_44 : List POp := [⟨164, .mv (.t 162), none⟩,
  ⟨15, .asg (.t 164), none⟩]
def r23_45 : List POp := [⟨165, .mv (.t 10), none⟩,
  ⟨166, .mv (.t 15), none⟩,
  ⟨167, .mv (.t 7), none⟩,
  ⟨168, .idx 5 (.t 165) (.t 166), none⟩,
  ⟨169, .fld 0 (.t 168), none⟩,
  ⟨0, .store (.t 169) (.t 167), none⟩]
def r23_46 : List POp := [⟨170, .mv (.t 7), none⟩,
  ⟨171, .mv (.t 10), none⟩,
  ⟨172, .mv (.t 15), none⟩,
  ⟨173, .idx 5 (.t 171) (.t 172), none⟩,
  ⟨174, .fld 1 (.t 173), none⟩,
  ⟨175, .load (.t 174), none⟩,
  ⟨176, .bin .add (.t 170) (.t 175), none⟩,
  ⟨7, .asg (.t 176), none⟩]
def r23_47 : List POp := [⟨177, .bin .add (.t 162) (.c (.int .i64 1)), none⟩,
  ⟨162, .mv (.t 177), none⟩]
def r23_48 : List POp := [⟨178, .mv (.t 10), none⟩,
  ⟨179, .call 40 [.t 178], none⟩,
  ⟨16, .asg (.t 179), none⟩]
def r23_49 : List POp := [⟨180, .mv (.t 16), none⟩,
  ⟨181, .bin .neq (.t 180) (.c (.int .i64 0)), none⟩]
def r23_50 : List POp := [⟨182, .build [.int .i64 0, .slice none 0 0] [], none⟩,
  ⟨183, .mv (.t 16), none⟩,
  ⟨0, .stores 2 (.t 2) (.t 182), none⟩,
  ⟨3, .mv (.c (.int .i64 0)), none⟩,
  ⟨4, .mv (.t 183), none⟩]
def r23_51 : List POp := [⟨184, .mv (.t 10), none⟩,
  ⟨185, .fld 1 (.t 6), none⟩,
  ⟨0, .store (.t 185) (.t 184), none⟩]
def r23_52 : List POp := [⟨186, .loads 2 (.t 6), none⟩,
  ⟨0, .stores 2 (.t 2) (.t 186), none⟩,
  ⟨3, .asg (.c (.int .i64 0)), none⟩,
  ⟨4, .asg (.c (.int .i64 0)), none⟩]
def l23_4 : PCode := .seq (.ops r23_43) (.seq (.cond (.t 163) (.skip) (.exit 9)) (.seq (.block 10 (.seq (.ops r23_44) (.seq (.ops r23_45) (.ops r23_46)))) (.ops r23_47)))
def l23_3 : PCode := .seq (.ops r23_30) (.seq (.cond (.t 119) (.skip) (.exit 6)) (.seq (.block 7 (.seq (.ops r23_31) (.seq (.seq (.ops r23_32) (.cond (.t 123) (.seq (.ops r23_33) (.exit 7)) (.skip))) (.ops r23_34)))) (.ops r23_35)))
def l23_2 : PCode := .seq (.ops r23_23) (.seq (.cond (.t 91) (.skip) (.exit 4)) (.seq (.block 5 (.seq (.ops r23_24) (.seq (.seq (.ops r23_25) (.cond (.t 99) (.seq (.ops r23_26) (.exit 5)) (.skip))) (.ops r23_27)))) (.ops r23_28)))
def l23_1 : PCode := .seq (.ops r23_17) (.seq (.cond (.t 74) (.skip) (.exit 2)) (.seq (.block 3 (.seq (.ops r23_18) (.seq (.ops r23_19) (.cond (.t 78) (.ops r23_20) (.skip))))) (.ops r23_21)))
def l23_0 : PCode := .seq (.ops r23_10) (.seq (.cond (.t 46) (.skip) (.exit 0)) (.seq (.block 1 (.seq (.ops r23_11) (.seq (.seq (.ops r23_12) (.cond (.t 54) (.seq (.ops r23_13) (.exit 1)) (.skip))) (.ops r23_14)))) (.ops r23_15)))
def p23 : PCode := .seq (.ops r23_0) (.seq (.ops r23_1) (.seq (.ops r23_2) (.seq (.ops r23_3) (.seq (.ops r23_4) (.seq (.ops r23_5) (.seq (.seq (.ops r23_6) (.cond (.t 35) (.seq (.ops r23_7) (.ret)) (.skip))) (.seq (.ops r23_8) (.seq (.seq (.ops r23_9) (.block 0 (.loop l23_0))) (.seq (.seq (.ops r23_16) (.block 2 (.loop l23_1))) (.seq (.seq (.ops r23_22) (.block 4 (.loop l23_2))) (.seq (.seq (.ops r23_29) (.block 6 (.loop l23_3))) (.seq (.seq (.ops r23_36) (.cond (.t 140) (.seq (.ops r23_37) (.ret)) (.skip))) (.seq (.block 8 (.seq (.ops r23_38) (.cond (.t 146) (.seq (.ops r23_39) (.ret)) (.seq (.ops r23_40) (.cond (.t 154) (.seq (.ops r23_41) (.ret)) (.skip)))))) (.seq (.seq (.ops r23_42) (.block 9 (.loop l23_4))) (.seq (.seq (.ops r23_48) (.seq (.ops r23_49) (.cond (.t 181) (.seq (.ops r23_50) (.ret)) (.skip)))) (.seq (.opw r23_51) (.seq (.ops r23_52) (.ret))))))))))))))))))
theorem ok23 : okFunc Try.prog 23 [.c 2 2, .t 3, .t 4] 1 p23 = true := by kernel_rfl
set_option maxHeartbeats 16000000 in
set_option maxRecDepth 20000 in
theorem rfrag_c (n : Int) (l : List Smp) (hn : outB n 0 4294967295 = false) (h0 : smpF l = 0) : CallOK Try.prog 23 [.ro ((fragB n l).map oneU)] (.tup [.agg [.val (.int .i64 n), .ro (l.map Smp.av)], .val (.int .i64 0), .val (.int .i64 0)]) := by
  refine call_of mixed ok23 rfl ?_
  obtain ⟨hl, hbd, htm, _⟩ := smpF_0 h0
  have bn := outB_f hn
  have hb := fragB_lt n l
  obtain ⟨hd1, hd2, hd3, hd4, hd5⟩ := at_head n l
  have hbl : (fragB n l).length ≤ 1000000 := by
    rw [fragB_parts]
    have L1 := partB_len (one := mkSt l) (f := stB) (fun s => by rw [stB_len]; exact Nat.le_refl _) (l := l) (k := l.length)
    have L2 := allB_len (none' := mkSh l) (f := shB) (fun s => by rw [shB_len]; exact Nat.le_refl _) (l := l) (k := l.length)
    have L3 := partB_len (one := mkSz l) (f := szB) (fun s => by rw [szB_len]; exact Nat.le_refl _) (l := l) (k := l.length)
    have L4 := allB_len (none' := mkFs l) (f := kyB) (fun s => by simp [kyB]) (l := l) (k := l.length)
    simp only [List.length_append, headB_len]
    omega
  have hT : -1000000000000000 ≤ (hdSmp l).time ∧ (hdSmp l).time ≤ 1000000000000000 := by
    cases l with
    | nil => simp [hdSmp, smpZ]
    | cons s r => have := badSmp_bd (hbd s List.mem_cons_self); exact ⟨this.1, this.2.1⟩
  have hs := smp_c l
  rw [h0] at hs
  have hS : ∀ k (h : k < l.length), k = 0 ∨ mkSt l = false → ((fragB n l).drop (pS l k)).take 4 = stB l[k] ∧ pS l k + 4 ≤ (fragB n l).length := fun k h => rd_step h
  have hH : ∀ k (h : k < l.length), mkSh l = false → ((fragB n l).drop (pH l k)).take 4 = shB l[k] ∧ pH l k + 4 ≤ (fragB n l).length := fun k h => rd_shift h
  have hZ : ∀ k (h : k < l.length), k = 0 ∨ mkSz l = false → ((fragB n l).drop (pZ l k)).take 4 = szB l[k] ∧ pZ l k + 4 ≤ (fragB n l).length := fun k h => rd_size h
  have hK : ∀ k (h : k < l.length), mkFs l = false → ∃ ha : pK l k < (fragB n l).length, (fragB n l)[pK l k] = if l[k].key then 1 else 0 := fun k h => rd_key h
  have hSy : ∀ k, k < l.length → k = 0 ∨ mkSt l = false → pS l (k + 1) = pS l k + 4 := fun k => pS_yes
  have hHy : ∀ k, k < l.length → mkSh l = false → pH l (k + 1) = pH l k + 4 := fun k => pH_yes
  have hZy : ∀ k, k < l.length → k = 0 ∨ mkSz l = false → pZ l (k + 1) = pZ l k + 4 := fun k => pZ_yes
  have hKy : ∀ k, k < l.length → mkFs l = false → pK l (k + 1) = pK l k + 1 := fun k => pK_yes
  have hSn : ∀ k, k ≠ 0 → mkSt l = true → pS l (k + 1) = pS l k := fun k => pS_no
  have hHn : ∀ k, mkSh l = true → pH l (k + 1) = pH l k := fun k => pH_no
  have hZn : ∀ k, k ≠ 0 → mkSz l = true → pZ l (k + 1) = pZ l k := fun k => pZ_no
  have hKn : ∀ k, mkFs l = true → pK l (k + 1) = pK l k := fun k => pK_no
  have hSm : mkSt l = true → ∀ i (hi : i < l.length), l[i].step = (hdSmp l).step := mkSt_step
  have hHm : mkSh l = true → ∀ i (hi : i < l.length), l[i].shift = 0 := mkSh_shift
  have hZm : mkSz l = true → ∀ i (hi : i < l.length), l[i].size = (hdSmp l).size := mkSz_size
  have hKm : mkFs l = true → ∀ i (hi : i < l.length), l[i].key = decide (i = 0) := mkFs_key
  have hKe := pK_end n l
  have n1 := bnum_c (fragB n l) 0 4 hb hbl (by omega) (by decide)
  have n2 := bnum_c (fragB n l) 4 8 hb hbl (by omega) (by decide)
  have n3 := bnum_c (fragB n l) 12 2 hb hbl (by omega) (by decide)
  have f1 := bflag_c (fragB n l) 14 15 hb hbl hd4 (by rw [hd5]; exact mark4_lt _ _ _ _)
  rw [hd1] at n1
  rw [hd2] at n2
  rw [hd3] at n3
  rw [hd5] at f1
  clear hd1 hd2 hd3 hd4 hd5
  have v1 : IntKind.i64.wrap ((beV (beB (u64 n) 4) 0 : Nat) : Int) = n := by
    rw [beV_small (by omega) (by have : (256 : Nat) ^ 4 = 4294967296 := by decide
                                 omega) (by omega)]
    exact wrap_in (by omega) (by omega)
  have v2 : IntKind.i64.wrap ((beV (beB (u64 (hdSmp l).time) 8) 0 : Nat) : Int) = (hdSmp l).time := beV_eight (by omega) (by omega)
  have v3 : IntKind.i64.wrap ((beV (beB (u64 l.length) 2) 0 : Nat) : Int) = l.length := by
    rw [beV_small (by omega) (by have : (256 : Nat) ^ 2 = 65536 := by decide
                                 omega) (by omega)]
    exact wrap_in (by omega) (by omega)
  generalize beV (beB (u64 n) 4) 0 = w1 at *
  generalize beV (beB (u64 (hdSmp l).time) 8) 0 = w2 at *
  generalize beV (beB (u64 l.length) 2) 0 = w3 at *
  simp only [Int.natCast_zero] at n1
  have hM : marksN l = mark4 (mkSt l) (mkSh l) (mkSz l) (mkFs l) := rfl
  rw [hM] at f1
  generalize fragB n l = X at *
  generalize mkSt l = A at *
  generalize mkSh l = B at *
  generalize mkSz l = C at *
  generalize mkFs l = D at *
  repeat' first | ((with_reducible (first | refine condD ?_ ?_ | refine condE ?_ ?_ | refine condN ?_ ?_ | refine condI ?_ ?_ | refine condS ?_ ?_)) <;> intro h) | ((with_reducible (first | refine guardD (by with_unfolding_all rfl) ?_ ?_ | refine guardE (by with_unfolding_all rfl) ?_ ?_ | refine guardN (by with_unfolding_all rfl) ?_ ?_ | refine guardI (by with_unfolding_all rfl) ?_ ?_ | refine guardS (by with_unfolding_all rfl) ?_ ?_)) <;> intro h) | ((refine turnGb (by with_unfolding_all rfl) n1 ?_)) | ((refine turnGb (by with_unfolding_all rfl) n2 ?_)) | ((refine turnGb (by with_unfolding_all rfl) n3 ?_)) | ((refine turnGb (by with_unfolding_all rfl) f1 ?_)) | (with_reducible refine And.intro ?_ ?_; omega) | (simp only [Z0,Z1,Z2,Z3,Z4,Z5,Z6,Z7,Z8,Z9,Za,Zb,Zc,Zd,Ze,Zf,List.cons.injEq,Zg,Zh,Zi,Zj,Zk,Zl,Zm,Zn,Zo,Zp,beq_self_eq_true,bne_self_eq_false,decide_true,decide_false,Zq,Zr,Zs,Zt,Zu,Zv,Zw,Zx,Zy,Zz,Y0,Y1,Y2,Y3,Y4,Y5,Y6,Y7,Y8,Y9,Ya,Yb,Yc,Yd,Ye,Yf,Yg,Yh,Yi,Yj,Yk,Yl,lk,ef,Ym,Yn,Yo,Yp,Yq,Yr,Ys,Yt,Yu,Yv,Yw,Yx,Yy,Yz,X0,X1,X2,X3,X4,X5,X6,X7,X8,X9,Xa,Xb,Xc,Xd,Xe,Xf,Xg,Xh,Xi,Xj,Xk,hv,Xl,ev,Xm,Xn,Xo,Xp,Xq,Xr,Xs,Xt,Xu,Xv,Xw,Xx,Xy,Xz,W0,W1,W2,W3,W4,W5,W6,W7,W8,W9,Wa,Wb,Wc,Wd,We,Wf,Wg,Wh,Wi,Value.oneCell',Wj,Wk,Wl,Wm,true_and,and_true,and_self,implies_true,Wn,Wo,Wp,Wq,false_implies,Wr,Ws,Wt,Wu,Wv,Ww,Wx,Wy,Wz,V0,V1,V2,V3,V4,V5,V6,V7,reduceCtorEq,if_true,if_false,V8,↓reduceIte,V9,Va,Vb,Vc,Vd,Ve,ne_eq,not_false_eq_true,not_true_eq_false,Vf,Vg,r23_0,r23_1,r23_2,r23_3,r23_4,r23_5,r23_6,r23_7,r23_8,r23_9,r23_10,r23_11,r23_12,r23_13,r23_14,r23_15,r23_16,r23_17,r23_18,r23_19,r23_20,r23_21,r23_22,r23_23,r23_24,r23_25,r23_26,r23_27,r23_28,r23_29,r23_30,r23_31,r23_32,r23_33,r23_34,r23_35,r23_36,r23_37,r23_38,r23_39,r23_40,r23_41,r23_42,r23_43,r23_44,r23_45,r23_46,r23_47,r23_48,r23_49,r23_50,r23_51,r23_52,p23,v1,v2,v3,List.length_map]) | (exfalso; omega)
  clear n1 n2 n3 f1 v1 v2 v3
  have hrow : (List.replicate l.length [.val (.int .i64 0), .val (.int .i64 0), .val (.int .i64 0), .val (.int .i64 0), .val (.bool false)] : List (List AV)) = (rowS l 0 0 0 0 0).map Smp.av := (rowS_0 l).symm
  try simp only [hrow]
  refine loopS (fun k : Nat => mk [(2, .box [.val (.int .i64 0), .nilsl]), (5, .ref 19 0), (19, .box [.ro (X.map oneU), .val (.int .i64 ((pS l k : Nat) : Int)), .val (.bool false)]), (6, .box [.val (.int .i64 n), .nilsl]), (7, .val (.int .i64 (hdSmp l).time)), (8, .val (.int .i64 l.length)), (9, .val (.int .u8 (mark4 A B C D : Nat))), (10, .own 69 5 ((rowS l k 0 0 0 0).map Smp.av)), (44, .val (.int .i64 l.length)), (45, .val (.int .i64 k))]) (fun k => k ≤ l.length) (fun k => l.length - k) 0 (weak_mk ?_) (Nat.zero_le _) ?_
  · simp only [Vh,Vi,Vj,Vk,Vl,Vm,Z0,Z1,Z2,Z3,Z4,Z5,Z6,Z7,Z8,Z9,Za,Zb,Zc,Zd,Ze,Zf,List.cons.injEq,Zg,Zh,Zi,Zj,Zk,Zl,Zm,Zn,Zo,Zp,beq_self_eq_true,bne_self_eq_false,decide_true,decide_false,Zq,Zr,Zs,Zt,Zu,Zv,Zw,Zx,Zy,Zz,Y0,Y1,Y2,Y3,Y4,Y5,Y6,Y7,Y8,Y9,Ya,Yb,Yc,Yd,Ye,Yf,Yg,Yh,Yi,Yj,Yk,Yl,lk,ef,Ym,Yn,Yo,Yp,Yq,Yr,Ys,Yt,Yu,Yv,Yw,Yx,Yy,Yz,X0,X1,X2,X3,X4,X5,X6,X7,X8,X9,Xa,Xb,Xc,Xd,Xe,Xf,Xg,Xh,Xi,Xj,Xk,hv,Xl,ev,Xm,Xn,Xo,Xp,Xq,Xr,Xs,Xt,Xu,Xv,Xw,Xx,Xy,Xz,W0,W1,W2,W3,W4,W5,W6,W7,W8,W9,Wa,Wb,Wc,Wd,We,Wf,Wg,Wh,Wi,Value.oneCell',Wj,Wk,Wl,Wm,true_and,and_true,and_self,implies_true,Wn,Wo,Wp,Wq,false_implies,Wr,Ws,Wt,Wu,Wv,Ww,Wx,Wy,Wz,V0,V1,V2,V3,V4,V5,V6,V7,reduceCtorEq,if_true,if_false,V8,↓reduceIte,V9,Va,Vb,Vc,Vd,Ve,ne_eq,not_false_eq_true,not_true_eq_false,Vf,Nat.zero_ne_one]
    all_goals first | done | (simp [pS_0, pH_0, pZ_0, pK_0, rowS_len, tmF]; done)
  rintro J hJ k hk
  simp only [Z0,Z1,Z2,Z3,Z4,Z5,Z6,Z7,Z8,Z9,Za,Zb,Zc,Zd,Ze,Zf,List.cons.injEq,Zg,Zh,Zi,Zj,Zk,Zl,Zm,Zn,Zo,Zp,beq_self_eq_true,bne_self_eq_false,decide_true,decide_false,Zq,Zr,Zs,Zt,Zu,Zv,Zw,Zx,Zy,Zz,Y0,Y1,Y2,Y3,Y4,Y5,Y6,Y7,Y8,Y9,Ya,Yb,Yc,Yd,Ye,Yf,Yg,Yh,Yi,Yj,Yk,Yl,lk,ef,Ym,Yn,Yo,Yp,Yq,Yr,Ys,Yt,Yu,Yv,Yw,Yx,Yy,Yz,X0,X1,X2,X3,X4,X5,X6,X7,X8,X9,Xa,Xb,Xc,Xd,Xe,Xf,Xg,Xh,Xi,Xj,Xk,hv,Xl,ev,Xm,Xn,Xo,Xp,Xq,Xr,Xs,Xt,Xu,Xv,Xw,Xx,Xy,Xz,W0,W1,W2,W3,W4,W5,W6,W7,W8,W9,Wa,Wb,Wc,Wd,We,Wf,Wg,Wh,Wi,Value.oneCell',Wj,Wk,Wl,Wm,true_and,and_true,and_self,implies_true,Wn,Wo,Wp,Wq,false_implies,Wr,Ws,Wt,Wu,Wv,Ww,Wx,Wy,Wz,V0,V1,V2,V3,V4,V5,V6,V7,reduceCtorEq,if_true,if_false,V8,↓reduceIte,V9,Va,Vb,Vc,Vd,Ve,ne_eq,not_false_eq_true,not_true_eq_false,Vf,Vg,r23_0,r23_1,r23_2,r23_3,r23_4,r23_5,r23_6,r23_7,r23_8,r23_9,r23_10,r23_11,r23_12,r23_13,r23_14,r23_15,r23_16,r23_17,r23_18,r23_19,r23_20,r23_21,r23_22,r23_23,r23_24,r23_25,r23_26,r23_27,r23_28,r23_29,r23_30,r23_31,r23_32,r23_33,r23_34,r23_35,r23_36,r23_37,r23_38,r23_39,r23_40,r23_41,r23_42,r23_43,r23_44,r23_45,r23_46,r23_47,r23_48,r23_49,r23_50,r23_51,r23_52,p23,l23_0]
  refine condD (fun h => ?_) (fun h => ?_)
  · have hlt' : k < l.length := by omega
    have hlt : k < l.length := by omega
    have hlt0 : 0 < l.length := by omega
    have hw := i_add1 k (by omega)
    have hki : (k : Int) < l.length := by omega
    have bs := badSmp_bd (hbd l[k] (List.getElem_mem hlt))
    have hrl : ((rowS l k 0 0 0 0).map Smp.av).length = l.length := by rw [List.length_map, rowS_len]
    have gR := rowS_get (a := k) (b := 0) (c := 0) (d := 0) (e := 0) hlt
    simp only [Nat.lt_irrefl, Nat.not_lt_zero, if_false, if_true, hlt, Smp.av] at gR
    have hset := rowS_set (a := k) (b := 0) (c := 0) (d := 0) (e := 0) (a' := k + 1) (b' := 0) (c' := 0) (d' := 0) (e' := 0) hlt ⟨0, l[k].step, 0, 0, false⟩ (by simp [hlt]) (fun i hi => ⟨by omega, by omega, by omega, by omega, by omega⟩)
    simp only [Smp.av] at hset
    by_cases hq : k = 0 ∨ A = false
    · obtain ⟨z1, z2⟩ := hS k hlt hq
      have nk := bnum_c X (pS l k) 4 hb hbl z2 (by decide)
      rw [z1] at nk
      have hv4 := av4 (A := stB l[k]) (n := l[k].step) rfl (by omega) (by omega)
      rw [← hSy k hlt hq] at nk
      generalize beV (stB l[k]) 0 = wv at *
      by_cases q0 : k = 0
      · have hk0 : ¬ (0 : Int) < k := by omega
        repeat' first | ((with_reducible (first | refine condD ?_ ?_ | refine condE ?_ ?_ | refine condN ?_ ?_ | refine condI ?_ ?_ | refine condS ?_ ?_)) <;> intro h) | ((with_reducible (first | refine guardD (by with_unfolding_all rfl) ?_ ?_ | refine guardE (by with_unfolding_all rfl) ?_ ?_ | refine guardN (by with_unfolding_all rfl) ?_ ?_ | refine guardI (by with_unfolding_all rfl) ?_ ?_ | refine guardS (by with_unfolding_all rfl) ?_ ?_)) <;> intro h) | ((refine turnGb (by with_unfolding_all rfl) nk ?_)) | (with_reducible refine And.intro ?_ ?_; omega) | (simp only [Z0,Z1,Z2,Z3,Z4,Z5,Z6,Z7,Z8,Z9,Za,Zb,Zc,Zd,Ze,Zf,List.cons.injEq,Zg,Zh,Zi,Zj,Zk,Zl,Zm,Zn,Zo,Zp,beq_self_eq_true,bne_self_eq_false,decide_true,decide_false,Zq,Zr,Zs,Zt,Zu,Zv,Zw,Zx,Zy,Zz,Y0,Y1,Y2,Y3,Y4,Y5,Y6,Y7,Y8,Y9,Ya,Yb,Yc,Yd,Ye,Yf,Yg,Yh,Yi,Yj,Yk,Yl,lk,ef,Ym,Yn,Yo,Yp,Yq,Yr,Ys,Yt,Yu,Yv,Yw,Yx,Yy,Yz,X0,X1,X2,X3,X4,X5,X6,X7,X8,X9,Xa,Xb,Xc,Xd,Xe,Xf,Xg,Xh,Xi,Xj,Xk,hv,Xl,ev,Xm,Xn,Xo,Xp,Xq,Xr,Xs,Xt,Xu,Xv,Xw,Xx,Xy,Xz,W0,W1,W2,W3,W4,W5,W6,W7,W8,W9,Wa,Wb,Wc,Wd,We,Wf,Wg,Wh,Wi,Value.oneCell',Wj,Wk,Wl,Wm,true_and,and_true,and_self,implies_true,Wn,Wo,Wp,Wq,false_implies,Wr,Ws,Wt,Wu,Wv,Ww,Wx,Wy,Wz,V0,V1,V2,V3,V4,V5,V6,V7,reduceCtorEq,if_true,if_false,V8,↓reduceIte,V9,Va,Vb,Vc,Vd,Ve,ne_eq,not_false_eq_true,not_true_eq_false,Vf,Vg,r23_0,r23_1,r23_2,r23_3,r23_4,r23_5,r23_6,r23_7,r23_8,r23_9,r23_10,r23_11,r23_12,r23_13,r23_14,r23_15,r23_16,r23_17,r23_18,r23_19,r23_20,r23_21,r23_22,r23_23,r23_24,r23_25,r23_26,r23_27,r23_28,r23_29,r23_30,r23_31,r23_32,r23_33,r23_34,r23_35,r23_36,r23_37,r23_38,r23_39,r23_40,r23_41,r23_42,r23_43,r23_44,r23_45,r23_46,r23_47,r23_48,r23_49,r23_50,r23_51,r23_52,p23,l23_0,hk0,hv4,gR,hrl,hset,hw,hki,Zt,V0,List.set_cons_succ]) | (exfalso; omega)
        all_goals first | omega | exact again hJ (k + 1) (weak_mk (by simp only [Vh,Vi,Vj,Vk,Vl,Vm,Z0,Z1,Z2,Z3,Z4,Z5,Z6,Z7,Z8,Z9,Za,Zb,Zc,Zd,Ze,Zf,List.cons.injEq,Zg,Zh,Zi,Zj,Zk,Zl,Zm,Zn,Zo,Zp,beq_self_eq_true,bne_self_eq_false,decide_true,decide_false,Zq,Zr,Zs,Zt,Zu,Zv,Zw,Zx,Zy,Zz,Y0,Y1,Y2,Y3,Y4,Y5,Y6,Y7,Y8,Y9,Ya,Yb,Yc,Yd,Ye,Yf,Yg,Yh,Yi,Yj,Yk,Yl,lk,ef,Ym,Yn,Yo,Yp,Yq,Yr,Ys,Yt,Yu,Yv,Yw,Yx,Yy,Yz,X0,X1,X2,X3,X4,X5,X6,X7,X8,X9,Xa,Xb,Xc,Xd,Xe,Xf,Xg,Xh,Xi,Xj,Xk,hv,Xl,ev,Xm,Xn,Xo,Xp,Xq,Xr,Xs,Xt,Xu,Xv,Xw,Xx,Xy,Xz,W0,W1,W2,W3,W4,W5,W6,W7,W8,W9,Wa,Wb,Wc,Wd,We,Wf,Wg,Wh,Wi,Value.oneCell',Wj,Wk,Wl,Wm,true_and,and_true,and_self,implies_true,Wn,Wo,Wp,Wq,false_implies,Wr,Ws,Wt,Wu,Wv,Ww,Wx,Wy,Wz,V0,V1,V2,V3,V4,V5,V6,V7,reduceCtorEq,if_true,if_false,V8,↓reduceIte,V9,Va,Vb,Vc,Vd,Ve,ne_eq,not_false_eq_true,not_true_eq_false,Vf,Nat.zero_ne_one]; all_goals first | done | rfl)) (by omega) (by omega) | trace_state
      · have hk0 : (0 : Int) < k := by omega
        have q1 : A = false := hq.resolve_left q0
        have ht := an1' A B C D
        subst q1
        repeat' first | ((with_reducible (first | refine condD ?_ ?_ | refine condE ?_ ?_ | refine condN ?_ ?_ | refine condI ?_ ?_ | refine condS ?_ ?_)) <;> intro h) | ((with_reducible (first | refine guardD (by with_unfolding_all rfl) ?_ ?_ | refine guardE (by with_unfolding_all rfl) ?_ ?_ | refine guardN (by with_unfolding_all rfl) ?_ ?_ | refine guardI (by with_unfolding_all rfl) ?_ ?_ | refine guardS (by with_unfolding_all rfl) ?_ ?_)) <;> intro h) | ((refine turnGb (by with_unfolding_all rfl) nk ?_)) | (with_reducible refine And.intro ?_ ?_; omega) | (simp only [Z0,Z1,Z2,Z3,Z4,Z5,Z6,Z7,Z8,Z9,Za,Zb,Zc,Zd,Ze,Zf,List.cons.injEq,Zg,Zh,Zi,Zj,Zk,Zl,Zm,Zn,Zo,Zp,beq_self_eq_true,bne_self_eq_false,decide_true,decide_false,Zq,Zr,Zs,Zt,Zu,Zv,Zw,Zx,Zy,Zz,Y0,Y1,Y2,Y3,Y4,Y5,Y6,Y7,Y8,Y9,Ya,Yb,Yc,Yd,Ye,Yf,Yg,Yh,Yi,Yj,Yk,Yl,lk,ef,Ym,Yn,Yo,Yp,Yq,Yr,Ys,Yt,Yu,Yv,Yw,Yx,Yy,Yz,X0,X1,X2,X3,X4,X5,X6,X7,X8,X9,Xa,Xb,Xc,Xd,Xe,Xf,Xg,Xh,Xi,Xj,Xk,hv,Xl,ev,Xm,Xn,Xo,Xp,Xq,Xr,Xs,Xt,Xu,Xv,Xw,Xx,Xy,Xz,W0,W1,W2,W3,W4,W5,W6,W7,W8,W9,Wa,Wb,Wc,Wd,We,Wf,Wg,Wh,Wi,Value.oneCell',Wj,Wk,Wl,Wm,true_and,and_true,and_self,implies_true,Wn,Wo,Wp,Wq,false_implies,Wr,Ws,Wt,Wu,Wv,Ww,Wx,Wy,Wz,V0,V1,V2,V3,V4,V5,V6,V7,reduceCtorEq,if_true,if_false,V8,↓reduceIte,V9,Va,Vb,Vc,Vd,Ve,ne_eq,not_false_eq_true,not_true_eq_false,Vf,Vg,r23_0,r23_1,r23_2,r23_3,r23_4,r23_5,r23_6,r23_7,r23_8,r23_9,r23_10,r23_11,r23_12,r23_13,r23_14,r23_15,r23_16,r23_17,r23_18,r23_19,r23_20,r23_21,r23_22,r23_23,r23_24,r23_25,r23_26,r23_27,r23_28,r23_29,r23_30,r23_31,r23_32,r23_33,r23_34,r23_35,r23_36,r23_37,r23_38,r23_39,r23_40,r23_41,r23_42,r23_43,r23_44,r23_45,r23_46,r23_47,r23_48,r23_49,r23_50,r23_51,r23_52,p23,l23_0,hk0,ht,hv4,gR,hrl,hset,hw,hki,Zt,V0,List.set_cons_succ]) | (exfalso; omega)
        all_goals first | omega | exact again hJ (k + 1) (weak_mk (by simp only [Vh,Vi,Vj,Vk,Vl,Vm,Z0,Z1,Z2,Z3,Z4,Z5,Z6,Z7,Z8,Z9,Za,Zb,Zc,Zd,Ze,Zf,List.cons.injEq,Zg,Zh,Zi,Zj,Zk,Zl,Zm,Zn,Zo,Zp,beq_self_eq_true,bne_self_eq_false,decide_true,decide_false,Zq,Zr,Zs,Zt,Zu,Zv,Zw,Zx,Zy,Zz,Y0,Y1,Y2,Y3,Y4,Y5,Y6,Y7,Y8,Y9,Ya,Yb,Yc,Yd,Ye,Yf,Yg,Yh,Yi,Yj,Yk,Yl,lk,ef,Ym,Yn,Yo,Yp,Yq,Yr,Ys,Yt,Yu,Yv,Yw,Yx,Yy,Yz,X0,X1,X2,X3,X4,X5,X6,X7,X8,X9,Xa,Xb,Xc,Xd,Xe,Xf,Xg,Xh,Xi,Xj,Xk,hv,Xl,ev,Xm,Xn,Xo,Xp,Xq,Xr,Xs,Xt,Xu,Xv,Xw,Xx,Xy,Xz,W0,W1,W2,W3,W4,W5,W6,W7,W8,W9,Wa,Wb,Wc,Wd,We,Wf,Wg,Wh,Wi,Value.oneCell',Wj,Wk,Wl,Wm,true_and,and_true,and_self,implies_true,Wn,Wo,Wp,Wq,false_implies,Wr,Ws,Wt,Wu,Wv,Ww,Wx,Wy,Wz,V0,V1,V2,V3,V4,V5,V6,V7,reduceCtorEq,if_true,if_false,V8,↓reduceIte,V9,Va,Vb,Vc,Vd,Ve,ne_eq,not_false_eq_true,not_true_eq_false,Vf,Nat.zero_ne_one]; all_goals first | done | rfl)) (by omega) (by omega) | trace_state
    · have q0 : k ≠ 0 := fun z => hq (.inl z)
      have q1 : A = true := by cases A with
        | true => rfl
        | false => exact absurd (.inr rfl) hq
      have hk0 : (0 : Int) < k := by omega
      have hk1 : 0 < k := by omega
      have hz := hSn k q0 q1
      have gZ := rowS_get (a := k) (b := 0) (c := 0) (d := 0) (e := 0) hlt0
      simp only [Nat.lt_irrefl, Nat.not_lt_zero, if_false, if_true, hlt0, hk1, Smp.av] at gZ
      have hsm : l[0].step = l[k].step := by rw [hSm q1 0 hlt0, hSm q1 k hlt]
      rw [hsm] at gZ
      have hl0 : (0 : Int) < l.length := by omega
      have ht := an1' A B C D
      subst q1
      repeat' first | ((with_reducible (first | refine condD ?_ ?_ | refine condE ?_ ?_ | refine condN ?_ ?_ | refine condI ?_ ?_ | refine condS ?_ ?_)) <;> intro h) | ((with_reducible (first | refine guardD (by with_unfolding_all rfl) ?_ ?_ | refine guardE (by with_unfolding_all rfl) ?_ ?_ | refine guardN (by with_unfolding_all rfl) ?_ ?_ | refine guardI (by with_unfolding_all rfl) ?_ ?_ | refine guardS (by with_unfolding_all rfl) ?_ ?_)) <;> intro h) | (with_reducible refine And.intro ?_ ?_; omega) | (simp only [Z0,Z1,Z2,Z3,Z4,Z5,Z6,Z7,Z8,Z9,Za,Zb,Zc,Zd,Ze,Zf,List.cons.injEq,Zg,Zh,Zi,Zj,Zk,Zl,Zm,Zn,Zo,Zp,beq_self_eq_true,bne_self_eq_false,decide_true,decide_false,Zq,Zr,Zs,Zt,Zu,Zv,Zw,Zx,Zy,Zz,Y0,Y1,Y2,Y3,Y4,Y5,Y6,Y7,Y8,Y9,Ya,Yb,Yc,Yd,Ye,Yf,Yg,Yh,Yi,Yj,Yk,Yl,lk,ef,Ym,Yn,Yo,Yp,Yq,Yr,Ys,Yt,Yu,Yv,Yw,Yx,Yy,Yz,X0,X1,X2,X3,X4,X5,X6,X7,X8,X9,Xa,Xb,Xc,Xd,Xe,Xf,Xg,Xh,Xi,Xj,Xk,hv,Xl,ev,Xm,Xn,Xo,Xp,Xq,Xr,Xs,Xt,Xu,Xv,Xw,Xx,Xy,Xz,W0,W1,W2,W3,W4,W5,W6,W7,W8,W9,Wa,Wb,Wc,Wd,We,Wf,Wg,Wh,Wi,Value.oneCell',Wj,Wk,Wl,Wm,true_and,and_true,and_self,implies_true,Wn,Wo,Wp,Wq,false_implies,Wr,Ws,Wt,Wu,Wv,Ww,Wx,Wy,Wz,V0,V1,V2,V3,V4,V5,V6,V7,reduceCtorEq,if_true,if_false,V8,↓reduceIte,V9,Va,Vb,Vc,Vd,Ve,ne_eq,not_false_eq_true,not_true_eq_false,Vf,Vg,r23_0,r23_1,r23_2,r23_3,r23_4,r23_5,r23_6,r23_7,r23_8,r23_9,r23_10,r23_11,r23_12,r23_13,r23_14,r23_15,r23_16,r23_17,r23_18,r23_19,r23_20,r23_21,r23_22,r23_23,r23_24,r23_25,r23_26,r23_27,r23_28,r23_29,r23_30,r23_31,r23_32,r23_33,r23_34,r23_35,r23_36,r23_37,r23_38,r23_39,r23_40,r23_41,r23_42,r23_43,r23_44,r23_45,r23_46,r23_47,r23_48,r23_49,r23_50,r23_51,r23_52,p23,l23_0,hk0,ht,gR,gZ,hrl,hset,hw,hki,hl0,hlt,hlt0,Zt,V0,List.set_cons_succ]) | (exfalso; omega)
      all_goals first | omega | exact again hJ (k + 1) (weak_mk (by simp only [Vh,Vi,Vj,Vk,Vl,Vm,Z0,Z1,Z2,Z3,Z4,Z5,Z6,Z7,Z8,Z9,Za,Zb,Zc,Zd,Ze,Zf,List.cons.injEq,Zg,Zh,Zi,Zj,Zk,Zl,Zm,Zn,Zo,Zp,beq_self_eq_true,bne_self_eq_false,decide_true,decide_false,Zq,Zr,Zs,Zt,Zu,Zv,Zw,Zx,Zy,Zz,Y0,Y1,Y2,Y3,Y4,Y5,Y6,Y7,Y8,Y9,Ya,Yb,Yc,Yd,Ye,Yf,Yg,Yh,Yi,Yj,Yk,Yl,lk,ef,Ym,Yn,Yo,Yp,Yq,Yr,Ys,Yt,Yu,Yv,Yw,Yx,Yy,Yz,X0,X1,X2,X3,X4,X5,X6,X7,X8,X9,Xa,Xb,Xc,Xd,Xe,Xf,Xg,Xh,Xi,Xj,Xk,hv,Xl,ev,Xm,Xn,Xo,Xp,Xq,Xr,Xs,Xt,Xu,Xv,Xw,Xx,Xy,Xz,W0,W1,W2,W3,W4,W5,W6,W7,W8,W9,Wa,Wb,Wc,Wd,We,Wf,Wg,Wh,Wi,Value.oneCell',Wj,Wk,Wl,Wm,true_and,and_true,and_self,implies_true,Wn,Wo,Wp,Wq,false_implies,Wr,Ws,Wt,Wu,Wv,Ww,Wx,Wy,Wz,V0,V1,V2,V3,V4,V5,V6,V7,reduceCtorEq,if_true,if_false,V8,↓reduceIte,V9,Va,Vb,Vc,Vd,Ve,ne_eq,not_false_eq_true,not_true_eq_false,Vf,Nat.zero_ne_one]; rw [hz]; all_goals first | done | rfl | exact ⟨rfl, rfl⟩)) (by omega) (by omega) | trace_state
  have hke : k = l.length := by omega
  subst hke
  clear hJ h
  repeat' first | ((with_reducible (first | refine condD ?_ ?_ | refine condE ?_ ?_ | refine condN ?_ ?_ | refine condI ?_ ?_ | refine condS ?_ ?_)) <;> intro h) | ((with_reducible (first | refine guardD (by with_unfolding_all rfl) ?_ ?_ | refine guardE (by with_unfolding_all rfl) ?_ ?_ | refine guardN (by with_unfolding_all rfl) ?_ ?_ | refine guardI (by with_unfolding_all rfl) ?_ ?_ | refine guardS (by with_unfolding_all rfl) ?_ ?_)) <;> intro h) | (with_reducible refine And.intro ?_ ?_; omega) | (simp only [Z0,Z1,Z2,Z3,Z4,Z5,Z6,Z7,Z8,Z9,Za,Zb,Zc,Zd,Ze,Zf,List.cons.injEq,Zg,Zh,Zi,Zj,Zk,Zl,Zm,Zn,Zo,Zp,beq_self_eq_true,bne_self_eq_false,decide_true,decide_false,Zq,Zr,Zs,Zt,Zu,Zv,Zw,Zx,Zy,Zz,Y0,Y1,Y2,Y3,Y4,Y5,Y6,Y7,Y8,Y9,Ya,Yb,Yc,Yd,Ye,Yf,Yg,Yh,Yi,Yj,Yk,Yl,lk,ef,Ym,Yn,Yo,Yp,Yq,Yr,Ys,Yt,Yu,Yv,Yw,Yx,Yy,Yz,X0,X1,X2,X3,X4,X5,X6,X7,X8,X9,Xa,Xb,Xc,Xd,Xe,Xf,Xg,Xh,Xi,Xj,Xk,hv,Xl,ev,Xm,Xn,Xo,Xp,Xq,Xr,Xs,Xt,Xu,Xv,Xw,Xx,Xy,Xz,W0,W1,W2,W3,W4,W5,W6,W7,W8,W9,Wa,Wb,Wc,Wd,We,Wf,Wg,Wh,Wi,Value.oneCell',Wj,Wk,Wl,Wm,true_and,and_true,and_self,implies_true,Wn,Wo,Wp,Wq,false_implies,Wr,Ws,Wt,Wu,Wv,Ww,Wx,Wy,Wz,V0,V1,V2,V3,V4,V5,V6,V7,reduceCtorEq,if_true,if_false,V8,↓reduceIte,V9,Va,Vb,Vc,Vd,Ve,ne_eq,not_false_eq_true,not_true_eq_false,Vf,Vg,r23_0,r23_1,r23_2,r23_3,r23_4,r23_5,r23_6,r23_7,r23_8,r23_9,r23_10,r23_11,r23_12,r23_13,r23_14,r23_15,r23_16,r23_17,r23_18,r23_19,r23_20,r23_21,r23_22,r23_23,r23_24,r23_25,r23_26,r23_27,r23_28,r23_29,r23_30,r23_31,r23_32,r23_33,r23_34,r23_35,r23_36,r23_37,r23_38,r23_39,r23_40,r23_41,r23_42,r23_43,r23_44,r23_45,r23_46,r23_47,r23_48,r23_49,r23_50,r23_51,r23_52,p23,l23_0]) | (exfalso; omega)
  refine loopS (fun k : Nat => mk [(2, .box [.val (.int .i64 0), .nilsl]), (5, .ref 19 0), (19, .box [.ro (X.map oneU), .val (.int .i64 ((pH l k : Nat) : Int)), .val (.bool false)]), (6, .box [.val (.int .i64 n), .nilsl]), (7, .val (.int .i64 (hdSmp l).time)), (8, .val (.int .i64 l.length)), (9, .val (.int .u8 (mark4 A B C D : Nat))), (10, .own 69 5 ((rowS l l.length k 0 0 0).map Smp.av)), (72, .val (.int .i64 l.length)), (73, .val (.int .i64 k))]) (fun k => k ≤ l.length) (fun k => l.length - k) 0 (weak_mk ?_) (Nat.zero_le _) ?_
  · simp only [Vh,Vi,Vj,Vk,Vl,Vm,Z0,Z1,Z2,Z3,Z4,Z5,Z6,Z7,Z8,Z9,Za,Zb,Zc,Zd,Ze,Zf,List.cons.injEq,Zg,Zh,Zi,Zj,Zk,Zl,Zm,Zn,Zo,Zp,beq_self_eq_true,bne_self_eq_false,decide_true,decide_false,Zq,Zr,Zs,Zt,Zu,Zv,Zw,Zx,Zy,Zz,Y0,Y1,Y2,Y3,Y4,Y5,Y6,Y7,Y8,Y9,Ya,Yb,Yc,Yd,Ye,Yf,Yg,Yh,Yi,Yj,Yk,Yl,lk,ef,Ym,Yn,Yo,Yp,Yq,Yr,Ys,Yt,Yu,Yv,Yw,Yx,Yy,Yz,X0,X1,X2,X3,X4,X5,X6,X7,X8,X9,Xa,Xb,Xc,Xd,Xe,Xf,Xg,Xh,Xi,Xj,Xk,hv,Xl,ev,Xm,Xn,Xo,Xp,Xq,Xr,Xs,Xt,Xu,Xv,Xw,Xx,Xy,Xz,W0,W1,W2,W3,W4,W5,W6,W7,W8,W9,Wa,Wb,Wc,Wd,We,Wf,Wg,Wh,Wi,Value.oneCell',Wj,Wk,Wl,Wm,true_and,and_true,and_self,implies_true,Wn,Wo,Wp,Wq,false_implies,Wr,Ws,Wt,Wu,Wv,Ww,Wx,Wy,Wz,V0,V1,V2,V3,V4,V5,V6,V7,reduceCtorEq,if_true,if_false,V8,↓reduceIte,V9,Va,Vb,Vc,Vd,Ve,ne_eq,not_false_eq_true,not_true_eq_false,Vf,Nat.zero_ne_one]
    all_goals first | done | (simp [pS_0, pH_0, pZ_0, pK_0, rowS_len, tmF]; done)
  rintro J hJ k hk
  simp only [Z0,Z1,Z2,Z3,Z4,Z5,Z6,Z7,Z8,Z9,Za,Zb,Zc,Zd,Ze,Zf,List.cons.injEq,Zg,Zh,Zi,Zj,Zk,Zl,Zm,Zn,Zo,Zp,beq_self_eq_true,bne_self_eq_false,decide_true,decide_false,Zq,Zr,Zs,Zt,Zu,Zv,Zw,Zx,Zy,Zz,Y0,Y1,Y2,Y3,Y4,Y5,Y6,Y7,Y8,Y9,Ya,Yb,Yc,Yd,Ye,Yf,Yg,Yh,Yi,Yj,Yk,Yl,lk,ef,Ym,Yn,Yo,Yp,Yq,Yr,Ys,Yt,Yu,Yv,Yw,Yx,Yy,Yz,X0,X1,X2,X3,X4,X5,X6,X7,X8,X9,Xa,Xb,Xc,Xd,Xe,Xf,Xg,Xh,Xi,Xj,Xk,hv,Xl,ev,Xm,Xn,Xo,Xp,Xq,Xr,Xs,Xt,Xu,Xv,Xw,Xx,Xy,Xz,W0,W1,W2,W3,W4,W5,W6,W7,W8,W9,Wa,Wb,Wc,Wd,We,Wf,Wg,Wh,Wi,Value.oneCell',Wj,Wk,Wl,Wm,true_and,and_true,and_self,implies_true,Wn,Wo,Wp,Wq,false_implies,Wr,Ws,Wt,Wu,Wv,Ww,Wx,Wy,Wz,V0,V1,V2,V3,V4,V5,V6,V7,reduceCtorEq,if_true,if_false,V8,↓reduceIte,V9,Va,Vb,Vc,Vd,Ve,ne_eq,not_false_eq_true,not_true_eq_false,Vf,Vg,r23_0,r23_1,r23_2,r23_3,r23_4,r23_5,r23_6,r23_7,r23_8,r23_9,r23_10,r23_11,r23_12,r23_13,r23_14,r23_15,r23_16,r23_17,r23_18,r23_19,r23_20,r23_21,r23_22,r23_23,r23_24,r23_25,r23_26,r23_27,r23_28,r23_29,r23_30,r23_31,r23_32,r23_33,r23_34,r23_35,r23_36,r23_37,r23_38,r23_39,r23_40,r23_41,r23_42,r23_43,r23_44,r23_45,r23_46,r23_47,r23_48,r23_49,r23_50,r23_51,r23_52,p23,l23_1]
  refine condD (fun h => ?_) (fun h => ?_)
  · have hlt' : k < l.length := by omega
    have hlt : k < l.length := by omega
    have hlt0 : 0 < l.length := by omega
    have hw := i_add1 k (by omega)
    have hki : (k : Int) < l.length := by omega
    have bs := badSmp_bd (hbd l[k] (List.getElem_mem hlt))
    have hrl : ((rowS l l.length k 0 0 0).map Smp.av).length = l.length := by rw [List.length_map, rowS_len]
    have gR := rowS_get (a := l.length) (b := k) (c := 0) (d := 0) (e := 0) hlt
    simp only [Nat.lt_irrefl, Nat.not_lt_zero, if_false, if_true, hlt, Smp.av] at gR
    have hset := rowS_set (a := l.length) (b := k) (c := 0) (d := 0) (e := 0) (a' := l.length) (b' := k + 1) (c' := 0) (d' := 0) (e' := 0) hlt ⟨0, l[k].step, l[k].shift, 0, false⟩ (by simp [hlt]) (fun i hi => ⟨by omega, by omega, by omega, by omega, by omega⟩)
    simp only [Smp.av] at hset
    cases hB : B with
    | false =>
      obtain ⟨z1, z2⟩ := hH k hlt hB
      have nk := bnum_c X (pH l k) 4 hb hbl z2 (by decide)
      rw [z1] at nk
      have hv4 := av32 (A := shB l[k]) (n := l[k].shift) rfl (by omega) (by omega)
      rw [← hHy k hlt hB] at nk
      generalize beV (shB l[k]) 0 = wv at *
      have ht := ad2' A false C D
      subst hB
      repeat' first | ((with_reducible (first | refine condD ?_ ?_ | refine condE ?_ ?_ | refine condN ?_ ?_ | refine condI ?_ ?_ | refine condS ?_ ?_)) <;> intro h) | ((with_reducible (first | refine guardD (by with_unfolding_all rfl) ?_ ?_ | refine guardE (by with_unfolding_all rfl) ?_ ?_ | refine guardN (by with_unfolding_all rfl) ?_ ?_ | refine guardI (by with_unfolding_all rfl) ?_ ?_ | refine guardS (by with_unfolding_all rfl) ?_ ?_)) <;> intro h) | ((refine turnGb (by with_unfolding_all rfl) nk ?_)) | (with_reducible refine And.intro ?_ ?_; omega) | (simp only [Z0,Z1,Z2,Z3,Z4,Z5,Z6,Z7,Z8,Z9,Za,Zb,Zc,Zd,Ze,Zf,List.cons.injEq,Zg,Zh,Zi,Zj,Zk,Zl,Zm,Zn,Zo,Zp,beq_self_eq_true,bne_self_eq_false,decide_true,decide_false,Zq,Zr,Zs,Zt,Zu,Zv,Zw,Zx,Zy,Zz,Y0,Y1,Y2,Y3,Y4,Y5,Y6,Y7,Y8,Y9,Ya,Yb,Yc,Yd,Ye,Yf,Yg,Yh,Yi,Yj,Yk,Yl,lk,ef,Ym,Yn,Yo,Yp,Yq,Yr,Ys,Yt,Yu,Yv,Yw,Yx,Yy,Yz,X0,X1,X2,X3,X4,X5,X6,X7,X8,X9,Xa,Xb,Xc,Xd,Xe,Xf,Xg,Xh,Xi,Xj,Xk,hv,Xl,ev,Xm,Xn,Xo,Xp,Xq,Xr,Xs,Xt,Xu,Xv,Xw,Xx,Xy,Xz,W0,W1,W2,W3,W4,W5,W6,W7,W8,W9,Wa,Wb,Wc,Wd,We,Wf,Wg,Wh,Wi,Value.oneCell',Wj,Wk,Wl,Wm,true_and,and_true,and_self,implies_true,Wn,Wo,Wp,Wq,false_implies,Wr,Ws,Wt,Wu,Wv,Ww,Wx,Wy,Wz,V0,V1,V2,V3,V4,V5,V6,V7,reduceCtorEq,if_true,if_false,V8,↓reduceIte,V9,Va,Vb,Vc,Vd,Ve,ne_eq,not_false_eq_true,not_true_eq_false,Vf,Vg,r23_0,r23_1,r23_2,r23_3,r23_4,r23_5,r23_6,r23_7,r23_8,r23_9,r23_10,r23_11,r23_12,r23_13,r23_14,r23_15,r23_16,r23_17,r23_18,r23_19,r23_20,r23_21,r23_22,r23_23,r23_24,r23_25,r23_26,r23_27,r23_28,r23_29,r23_30,r23_31,r23_32,r23_33,r23_34,r23_35,r23_36,r23_37,r23_38,r23_39,r23_40,r23_41,r23_42,r23_43,r23_44,r23_45,r23_46,r23_47,r23_48,r23_49,r23_50,r23_51,r23_52,p23,l23_1,ht,V7,hv4,gR,hrl,hset,hw,hki,Zt,V0,List.set_cons_succ]) | (exfalso; omega)
      all_goals first | omega | exact again hJ (k + 1) (weak_mk (by simp only [Vh,Vi,Vj,Vk,Vl,Vm,Z0,Z1,Z2,Z3,Z4,Z5,Z6,Z7,Z8,Z9,Za,Zb,Zc,Zd,Ze,Zf,List.cons.injEq,Zg,Zh,Zi,Zj,Zk,Zl,Zm,Zn,Zo,Zp,beq_self_eq_true,bne_self_eq_false,decide_true,decide_false,Zq,Zr,Zs,Zt,Zu,Zv,Zw,Zx,Zy,Zz,Y0,Y1,Y2,Y3,Y4,Y5,Y6,Y7,Y8,Y9,Ya,Yb,Yc,Yd,Ye,Yf,Yg,Yh,Yi,Yj,Yk,Yl,lk,ef,Ym,Yn,Yo,Yp,Yq,Yr,Ys,Yt,Yu,Yv,Yw,Yx,Yy,Yz,X0,X1,X2,X3,X4,X5,X6,X7,X8,X9,Xa,Xb,Xc,Xd,Xe,Xf,Xg,Xh,Xi,Xj,Xk,hv,Xl,ev,Xm,Xn,Xo,Xp,Xq,Xr,Xs,Xt,Xu,Xv,Xw,Xx,Xy,Xz,W0,W1,W2,W3,W4,W5,W6,W7,W8,W9,Wa,Wb,Wc,Wd,We,Wf,Wg,Wh,Wi,Value.oneCell',Wj,Wk,Wl,Wm,true_and,and_true,and_self,implies_true,Wn,Wo,Wp,Wq,false_implies,Wr,Ws,Wt,Wu,Wv,Ww,Wx,Wy,Wz,V0,V1,V2,V3,V4,V5,V6,V7,reduceCtorEq,if_true,if_false,V8,↓reduceIte,V9,Va,Vb,Vc,Vd,Ve,ne_eq,not_false_eq_true,not_true_eq_false,Vf,Nat.zero_ne_one]; all_goals first | done | rfl)) (by omega) (by omega) | trace_state
    | true =>
      have hz := hHn k hB
      have ht := ad2' A true C D
      have hs0 := hHm hB k hlt
      have hrw : (rowS l l.length (k + 1) 0 0 0).map Smp.av = (rowS l l.length k 0 0 0).map Smp.av := by
        rw [← hset, hs0, ← gR]
        exact set_getD_self _ _
      subst hB
      repeat' first | ((with_reducible (first | refine condD ?_ ?_ | refine condE ?_ ?_ | refine condN ?_ ?_ | refine condI ?_ ?_ | refine condS ?_ ?_)) <;> intro h) | ((with_reducible (first | refine guardD (by with_unfolding_all rfl) ?_ ?_ | refine guardE (by with_unfolding_all rfl) ?_ ?_ | refine guardN (by with_unfolding_all rfl) ?_ ?_ | refine guardI (by with_unfolding_all rfl) ?_ ?_ | refine guardS (by with_unfolding_all rfl) ?_ ?_)) <;> intro h) | (with_reducible refine And.intro ?_ ?_; omega) | (simp only [Z0,Z1,Z2,Z3,Z4,Z5,Z6,Z7,Z8,Z9,Za,Zb,Zc,Zd,Ze,Zf,List.cons.injEq,Zg,Zh,Zi,Zj,Zk,Zl,Zm,Zn,Zo,Zp,beq_self_eq_true,bne_self_eq_false,decide_true,decide_false,Zq,Zr,Zs,Zt,Zu,Zv,Zw,Zx,Zy,Zz,Y0,Y1,Y2,Y3,Y4,Y5,Y6,Y7,Y8,Y9,Ya,Yb,Yc,Yd,Ye,Yf,Yg,Yh,Yi,Yj,Yk,Yl,lk,ef,Ym,Yn,Yo,Yp,Yq,Yr,Ys,Yt,Yu,Yv,Yw,Yx,Yy,Yz,X0,X1,X2,X3,X4,X5,X6,X7,X8,X9,Xa,Xb,Xc,Xd,Xe,Xf,Xg,Xh,Xi,Xj,Xk,hv,Xl,ev,Xm,Xn,Xo,Xp,Xq,Xr,Xs,Xt,Xu,Xv,Xw,Xx,Xy,Xz,W0,W1,W2,W3,W4,W5,W6,W7,W8,W9,Wa,Wb,Wc,Wd,We,Wf,Wg,Wh,Wi,Value.oneCell',Wj,Wk,Wl,Wm,true_and,and_true,and_self,implies_true,Wn,Wo,Wp,Wq,false_implies,Wr,Ws,Wt,Wu,Wv,Ww,Wx,Wy,Wz,V0,V1,V2,V3,V4,V5,V6,V7,reduceCtorEq,if_true,if_false,V8,↓reduceIte,V9,Va,Vb,Vc,Vd,Ve,ne_eq,not_false_eq_true,not_true_eq_false,Vf,Vg,r23_0,r23_1,r23_2,r23_3,r23_4,r23_5,r23_6,r23_7,r23_8,r23_9,r23_10,r23_11,r23_12,r23_13,r23_14,r23_15,r23_16,r23_17,r23_18,r23_19,r23_20,r23_21,r23_22,r23_23,r23_24,r23_25,r23_26,r23_27,r23_28,r23_29,r23_30,r23_31,r23_32,r23_33,r23_34,r23_35,r23_36,r23_37,r23_38,r23_39,r23_40,r23_41,r23_42,r23_43,r23_44,r23_45,r23_46,r23_47,r23_48,r23_49,r23_50,r23_51,r23_52,p23,l23_1,ht,V6,hw,hki,List.length_map]) | (exfalso; omega)
      all_goals first | omega | exact again hJ (k + 1) (weak_mk (by simp only [Vh,Vi,Vj,Vk,Vl,Vm,Z0,Z1,Z2,Z3,Z4,Z5,Z6,Z7,Z8,Z9,Za,Zb,Zc,Zd,Ze,Zf,List.cons.injEq,Zg,Zh,Zi,Zj,Zk,Zl,Zm,Zn,Zo,Zp,beq_self_eq_true,bne_self_eq_false,decide_true,decide_false,Zq,Zr,Zs,Zt,Zu,Zv,Zw,Zx,Zy,Zz,Y0,Y1,Y2,Y3,Y4,Y5,Y6,Y7,Y8,Y9,Ya,Yb,Yc,Yd,Ye,Yf,Yg,Yh,Yi,Yj,Yk,Yl,lk,ef,Ym,Yn,Yo,Yp,Yq,Yr,Ys,Yt,Yu,Yv,Yw,Yx,Yy,Yz,X0,X1,X2,X3,X4,X5,X6,X7,X8,X9,Xa,Xb,Xc,Xd,Xe,Xf,Xg,Xh,Xi,Xj,Xk,hv,Xl,ev,Xm,Xn,Xo,Xp,Xq,Xr,Xs,Xt,Xu,Xv,Xw,Xx,Xy,Xz,W0,W1,W2,W3,W4,W5,W6,W7,W8,W9,Wa,Wb,Wc,Wd,We,Wf,Wg,Wh,Wi,Value.oneCell',Wj,Wk,Wl,Wm,true_and,and_true,and_self,implies_true,Wn,Wo,Wp,Wq,false_implies,Wr,Ws,Wt,Wu,Wv,Ww,Wx,Wy,Wz,V0,V1,V2,V3,V4,V5,V6,V7,reduceCtorEq,if_true,if_false,V8,↓reduceIte,V9,Va,Vb,Vc,Vd,Ve,ne_eq,not_false_eq_true,not_true_eq_false,Vf,Nat.zero_ne_one]; rw [hz, hrw]; all_goals first | done | rfl | exact ⟨rfl, rfl⟩ | exact ⟨rfl, rfl, rfl⟩ | exact ⟨rfl, rfl, hw⟩ | trace_state)) (by omega) (by omega) | trace_state
  have hke : k = l.length := by omega
  subst hke
  clear hJ h
  repeat' first | ((with_reducible (first | refine condD ?_ ?_ | refine condE ?_ ?_ | refine condN ?_ ?_ | refine condI ?_ ?_ | refine condS ?_ ?_)) <;> intro h) | ((with_reducible (first | refine guardD (by with_unfolding_all rfl) ?_ ?_ | refine guardE (by with_unfolding_all rfl) ?_ ?_ | refine guardN (by with_unfolding_all rfl) ?_ ?_ | refine guardI (by with_unfolding_all rfl) ?_ ?_ | refine guardS (by with_unfolding_all rfl) ?_ ?_)) <;> intro h) | (with_reducible refine And.intro ?_ ?_; omega) | (simp only [Z0,Z1,Z2,Z3,Z4,Z5,Z6,Z7,Z8,Z9,Za,Zb,Zc,Zd,Ze,Zf,List.cons.injEq,Zg,Zh,Zi,Zj,Zk,Zl,Zm,Zn,Zo,Zp,beq_self_eq_true,bne_self_eq_false,decide_true,decide_false,Zq,Zr,Zs,Zt,Zu,Zv,Zw,Zx,Zy,Zz,Y0,Y1,Y2,Y3,Y4,Y5,Y6,Y7,Y8,Y9,Ya,Yb,Yc,Yd,Ye,Yf,Yg,Yh,Yi,Yj,Yk,Yl,lk,ef,Ym,Yn,Yo,Yp,Yq,Yr,Ys,Yt,Yu,Yv,Yw,Yx,Yy,Yz,X0,X1,X2,X3,X4,X5,X6,X7,X8,X9,Xa,Xb,Xc,Xd,Xe,Xf,Xg,Xh,Xi,Xj,Xk,hv,Xl,ev,Xm,Xn,Xo,Xp,Xq,Xr,Xs,Xt,Xu,Xv,Xw,Xx,Xy,Xz,W0,W1,W2,W3,W4,W5,W6,W7,W8,W9,Wa,Wb,Wc,Wd,We,Wf,Wg,Wh,Wi,Value.oneCell',Wj,Wk,Wl,Wm,true_and,and_true,and_self,implies_true,Wn,Wo,Wp,Wq,false_implies,Wr,Ws,Wt,Wu,Wv,Ww,Wx,Wy,Wz,V0,V1,V2,V3,V4,V5,V6,V7,reduceCtorEq,if_true,if_false,V8,↓reduceIte,V9,Va,Vb,Vc,Vd,Ve,ne_eq,not_false_eq_true,not_true_eq_false,Vf,Vg,r23_0,r23_1,r23_2,r23_3,r23_4,r23_5,r23_6,r23_7,r23_8,r23_9,r23_10,r23_11,r23_12,r23_13,r23_14,r23_15,r23_16,r23_17,r23_18,r23_19,r23_20,r23_21,r23_22,r23_23,r23_24,r23_25,r23_26,r23_27,r23_28,r23_29,r23_30,r23_31,r23_32,r23_33,r23_34,r23_35,r23_36,r23_37,r23_38,r23_39,r23_40,r23_41,r23_42,r23_43,r23_44,r23_45,r23_46,r23_47,r23_48,r23_49,r23_50,r23_51,r23_52,p23,l23_1]) | (exfalso; omega)
  refine loopS (fun k : Nat => mk [(2, .box [.val (.int .i64 0), .nilsl]), (5, .ref 19 0), (19, .box [.ro (X.map oneU), .val (.int .i64 ((pZ l k : Nat) : Int)), .val (.bool false)]), (6, .box [.val (.int .i64 n), .nilsl]), (7, .val (.int .i64 (hdSmp l).time)), (8, .val (.int .i64 l.length)), (9, .val (.int .u8 (mark4 A B C D : Nat))), (10, .own 69 5 ((rowS l l.length l.length k 0 0).map Smp.av)), (89, .val (.int .i64 l.length)), (90, .val (.int .i64 k))]) (fun k => k ≤ l.length) (fun k => l.length - k) 0 (weak_mk ?_) (Nat.zero_le _) ?_
  · simp only [Vh,Vi,Vj,Vk,Vl,Vm,Z0,Z1,Z2,Z3,Z4,Z5,Z6,Z7,Z8,Z9,Za,Zb,Zc,Zd,Ze,Zf,List.cons.injEq,Zg,Zh,Zi,Zj,Zk,Zl,Zm,Zn,Zo,Zp,beq_self_eq_true,bne_self_eq_false,decide_true,decide_false,Zq,Zr,Zs,Zt,Zu,Zv,Zw,Zx,Zy,Zz,Y0,Y1,Y2,Y3,Y4,Y5,Y6,Y7,Y8,Y9,Ya,Yb,Yc,Yd,Ye,Yf,Yg,Yh,Yi,Yj,Yk,Yl,lk,ef,Ym,Yn,Yo,Yp,Yq,Yr,Ys,Yt,Yu,Yv,Yw,Yx,Yy,Yz,X0,X1,X2,X3,X4,X5,X6,X7,X8,X9,Xa,Xb,Xc,Xd,Xe,Xf,Xg,Xh,Xi,Xj,Xk,hv,Xl,ev,Xm,Xn,Xo,Xp,Xq,Xr,Xs,Xt,Xu,Xv,Xw,Xx,Xy,Xz,W0,W1,W2,W3,W4,W5,W6,W7,W8,W9,Wa,Wb,Wc,Wd,We,Wf,Wg,Wh,Wi,Value.oneCell',Wj,Wk,Wl,Wm,true_and,and_true,and_self,implies_true,Wn,Wo,Wp,Wq,false_implies,Wr,Ws,Wt,Wu,Wv,Ww,Wx,Wy,Wz,V0,V1,V2,V3,V4,V5,V6,V7,reduceCtorEq,if_true,if_false,V8,↓reduceIte,V9,Va,Vb,Vc,Vd,Ve,ne_eq,not_false_eq_true,not_true_eq_false,Vf,Nat.zero_ne_one]
    all_goals first | done | (simp [pS_0, pH_0, pZ_0, pK_0, rowS_len, tmF]; done)
  rintro J hJ k hk
  simp only [Z0,Z1,Z2,Z3,Z4,Z5,Z6,Z7,Z8,Z9,Za,Zb,Zc,Zd,Ze,Zf,List.cons.injEq,Zg,Zh,Zi,Zj,Zk,Zl,Zm,Zn,Zo,Zp,beq_self_eq_true,bne_self_eq_false,decide_true,decide_false,Zq,Zr,Zs,Zt,Zu,Zv,Zw,Zx,Zy,Zz,Y0,Y1,Y2,Y3,Y4,Y5,Y6,Y7,Y8,Y9,Ya,Yb,Yc,Yd,Ye,Yf,Yg,Yh,Yi,Yj,Yk,Yl,lk,ef,Ym,Yn,Yo,Yp,Yq,Yr,Ys,Yt,Yu,Yv,Yw,Yx,Yy,Yz,X0,X1,X2,X3,X4,X5,X6,X7,X8,X9,Xa,Xb,Xc,Xd,Xe,Xf,Xg,Xh,Xi,Xj,Xk,hv,Xl,ev,Xm,Xn,Xo,Xp,Xq,Xr,Xs,Xt,Xu,Xv,Xw,Xx,Xy,Xz,W0,W1,W2,W3,W4,W5,W6,W7,W8,W9,Wa,Wb,Wc,Wd,We,Wf,Wg,Wh,Wi,Value.oneCell',Wj,Wk,Wl,Wm,true_and,and_true,and_self,implies_true,Wn,Wo,Wp,Wq,false_implies,Wr,Ws,Wt,Wu,Wv,Ww,Wx,Wy,Wz,V0,V1,V2,V3,V4,V5,V6,V7,reduceCtorEq,if_true,if_false,V8,↓reduceIte,V9,Va,Vb,Vc,Vd,Ve,ne_eq,not_false_eq_true,not_true_eq_false,Vf,Vg,r23_0,r23_1,r23_2,r23_3,r23_4,r23_5,r23_6,r23_7,r23_8,r23_9,r23_10,r23_11,r23_12,r23_13,r23_14,r23_15,r23_16,r23_17,r23_18,r23_19,r23_20,r23_21,r23_22,r23_23,r23_24,r23_25,r23_26,r23_27,r23_28,r23_29,r23_30,r23_31,r23_32,r23_33,r23_34,r23_35,r23_36,r23_37,r23_38,r23_39,r23_40,r23_41,r23_42,r23_43,r23_44,r23_45,r23_46,r23_47,r23_48,r23_49,r23_50,r23_51,r23_52,p23,l23_2]
  refine condD (fun h => ?_) (fun h => ?_)
  · have hlt' : k < l.length := by omega
    have hlt : k < l.length := by omega
    have hlt0 : 0 < l.length := by omega
    have hw := i_add1 k (by omega)
    have hki : (k : Int) < l.length := by omega
    have bs := badSmp_bd (hbd l[k] (List.getElem_mem hlt))
    have hrl : ((rowS l l.length l.length k 0 0).map Smp.av).length = l.length := by rw [List.length_map, rowS_len]
    have gR := rowS_get (a := l.length) (b := l.length) (c := k) (d := 0) (e := 0) hlt
    simp only [Nat.lt_irrefl, Nat.not_lt_zero, if_false, if_true, hlt, Smp.av] at gR
    have hset := rowS_set (a := l.length) (b := l.length) (c := k) (d := 0) (e := 0) (a' := l.length) (b' := l.length) (c' := k + 1) (d' := 0) (e' := 0) hlt ⟨0, l[k].step, l[k].shift, l[k].size, false⟩ (by simp [hlt]) (fun i hi => ⟨by omega, by omega, by omega, by omega, by omega⟩)
    simp only [Smp.av] at hset
    by_cases hq : k = 0 ∨ C = false
    · obtain ⟨z1, z2⟩ := hZ k hlt hq
      have nk := bnum_c X (pZ l k) 4 hb hbl z2 (by decide)
      rw [z1] at nk
      have hv4 := av4 (A := szB l[k]) (n := l[k].size) rfl (by omega) (by omega)
      rw [← hZy k hlt hq] at nk
      generalize beV (szB l[k]) 0 = wv at *
      by_cases q0 : k = 0
      · have hk0 : ¬ (0 : Int) < k := by omega
        repeat' first | ((with_reducible (first | refine condD ?_ ?_ | refine condE ?_ ?_ | refine condN ?_ ?_ | refine condI ?_ ?_ | refine condS ?_ ?_)) <;> intro h) | ((with_reducible (first | refine guardD (by with_unfolding_all rfl) ?_ ?_ | refine guardE (by with_unfolding_all rfl) ?_ ?_ | refine guardN (by with_unfolding_all rfl) ?_ ?_ | refine guardI (by with_unfolding_all rfl) ?_ ?_ | refine guardS (by with_unfolding_all rfl) ?_ ?_)) <;> intro h) | ((refine turnGb (by with_unfolding_all rfl) nk ?_)) | (with_reducible refine And.intro ?_ ?_; omega) | (simp only [Z0,Z1,Z2,Z3,Z4,Z5,Z6,Z7,Z8,Z9,Za,Zb,Zc,Zd,Ze,Zf,List.cons.injEq,Zg,Zh,Zi,Zj,Zk,Zl,Zm,Zn,Zo,Zp,beq_self_eq_true,bne_self_eq_false,decide_true,decide_false,Zq,Zr,Zs,Zt,Zu,Zv,Zw,Zx,Zy,Zz,Y0,Y1,Y2,Y3,Y4,Y5,Y6,Y7,Y8,Y9,Ya,Yb,Yc,Yd,Ye,Yf,Yg,Yh,Yi,Yj,Yk,Yl,lk,ef,Ym,Yn,Yo,Yp,Yq,Yr,Ys,Yt,Yu,Yv,Yw,Yx,Yy,Yz,X0,X1,X2,X3,X4,X5,X6,X7,X8,X9,Xa,Xb,Xc,Xd,Xe,Xf,Xg,Xh,Xi,Xj,Xk,hv,Xl,ev,Xm,Xn,Xo,Xp,Xq,Xr,Xs,Xt,Xu,Xv,Xw,Xx,Xy,Xz,W0,W1,W2,W3,W4,W5,W6,W7,W8,W9,Wa,Wb,Wc,Wd,We,Wf,Wg,Wh,Wi,Value.oneCell',Wj,Wk,Wl,Wm,true_and,and_true,and_self,implies_true,Wn,Wo,Wp,Wq,false_implies,Wr,Ws,Wt,Wu,Wv,Ww,Wx,Wy,Wz,V0,V1,V2,V3,V4,V5,V6,V7,reduceCtorEq,if_true,if_false,V8,↓reduceIte,V9,Va,Vb,Vc,Vd,Ve,ne_eq,not_false_eq_true,not_true_eq_false,Vf,Vg,r23_0,r23_1,r23_2,r23_3,r23_4,r23_5,r23_6,r23_7,r23_8,r23_9,r23_10,r23_11,r23_12,r23_13,r23_14,r23_15,r23_16,r23_17,r23_18,r23_19,r23_20,r23_21,r23_22,r23_23,r23_24,r23_25,r23_26,r23_27,r23_28,r23_29,r23_30,r23_31,r23_32,r23_33,r23_34,r23_35,r23_36,r23_37,r23_38,r23_39,r23_40,r23_41,r23_42,r23_43,r23_44,r23_45,r23_46,r23_47,r23_48,r23_49,r23_50,r23_51,r23_52,p23,l23_2,hk0,hv4,gR,hrl,hset,hw,hki,Zt,V0,List.set_cons_succ]) | (exfalso; omega)
        all_goals first | omega | exact again hJ (k + 1) (weak_mk (by simp only [Vh,Vi,Vj,Vk,Vl,Vm,Z0,Z1,Z2,Z3,Z4,Z5,Z6,Z7,Z8,Z9,Za,Zb,Zc,Zd,Ze,Zf,List.cons.injEq,Zg,Zh,Zi,Zj,Zk,Zl,Zm,Zn,Zo,Zp,beq_self_eq_true,bne_self_eq_false,decide_true,decide_false,Zq,Zr,Zs,Zt,Zu,Zv,Zw,Zx,Zy,Zz,Y0,Y1,Y2,Y3,Y4,Y5,Y6,Y7,Y8,Y9,Ya,Yb,Yc,Yd,Ye,Yf,Yg,Yh,Yi,Yj,Yk,Yl,lk,ef,Ym,Yn,Yo,Yp,Yq,Yr,Ys,Yt,Yu,Yv,Yw,Yx,Yy,Yz,X0,X1,X2,X3,X4,X5,X6,X7,X8,X9,Xa,Xb,Xc,Xd,Xe,Xf,Xg,Xh,Xi,Xj,Xk,hv,Xl,ev,Xm,Xn,Xo,Xp,Xq,Xr,Xs,Xt,Xu,Xv,Xw,Xx,Xy,Xz,W0,W1,W2,W3,W4,W5,W6,W7,W8,W9,Wa,Wb,Wc,Wd,We,Wf,Wg,Wh,Wi,Value.oneCell',Wj,Wk,Wl,Wm,true_and,and_true,and_self,implies_true,Wn,Wo,Wp,Wq,false_implies,Wr,Ws,Wt,Wu,Wv,Ww,Wx,Wy,Wz,V0,V1,V2,V3,V4,V5,V6,V7,reduceCtorEq,if_true,if_false,V8,↓reduceIte,V9,Va,Vb,Vc,Vd,Ve,ne_eq,not_false_eq_true,not_true_eq_false,Vf,Nat.zero_ne_one]; all_goals first | done | rfl)) (by omega) (by omega) | trace_state
      · have hk0 : (0 : Int) < k := by omega
        have q1 : C = false := hq.resolve_left q0
        have ht := an4' A B C D
        subst q1
        repeat' first | ((with_reducible (first | refine condD ?_ ?_ | refine condE ?_ ?_ | refine condN ?_ ?_ | refine condI ?_ ?_ | refine condS ?_ ?_)) <;> intro h) | ((with_reducible (first | refine guardD (by with_unfolding_all rfl) ?_ ?_ | refine guardE (by with_unfolding_all rfl) ?_ ?_ | refine guardN (by with_unfolding_all rfl) ?_ ?_ | refine guardI (by with_unfolding_all rfl) ?_ ?_ | refine guardS (by with_unfolding_all rfl) ?_ ?_)) <;> intro h) | ((refine turnGb (by with_unfolding_all rfl) nk ?_)) | (with_reducible refine And.intro ?_ ?_; omega) | (simp only [Z0,Z1,Z2,Z3,Z4,Z5,Z6,Z7,Z8,Z9,Za,Zb,Zc,Zd,Ze,Zf,List.cons.injEq,Zg,Zh,Zi,Zj,Zk,Zl,Zm,Zn,Zo,Zp,beq_self_eq_true,bne_self_eq_false,decide_true,decide_false,Zq,Zr,Zs,Zt,Zu,Zv,Zw,Zx,Zy,Zz,Y0,Y1,Y2,Y3,Y4,Y5,Y6,Y7,Y8,Y9,Ya,Yb,Yc,Yd,Ye,Yf,Yg,Yh,Yi,Yj,Yk,Yl,lk,ef,Ym,Yn,Yo,Yp,Yq,Yr,Ys,Yt,Yu,Yv,Yw,Yx,Yy,Yz,X0,X1,X2,X3,X4,X5,X6,X7,X8,X9,Xa,Xb,Xc,Xd,Xe,Xf,Xg,Xh,Xi,Xj,Xk,hv,Xl,ev,Xm,Xn,Xo,Xp,Xq,Xr,Xs,Xt,Xu,Xv,Xw,Xx,Xy,Xz,W0,W1,W2,W3,W4,W5,W6,W7,W8,W9,Wa,Wb,Wc,Wd,We,Wf,Wg,Wh,Wi,Value.oneCell',Wj,Wk,Wl,Wm,true_and,and_true,and_self,implies_true,Wn,Wo,Wp,Wq,false_implies,Wr,Ws,Wt,Wu,Wv,Ww,Wx,Wy,Wz,V0,V1,V2,V3,V4,V5,V6,V7,reduceCtorEq,if_true,if_false,V8,↓reduceIte,V9,Va,Vb,Vc,Vd,Ve,ne_eq,not_false_eq_true,not_true_eq_false,Vf,Vg,r23_0,r23_1,r23_2,r23_3,r23_4,r23_5,r23_6,r23_7,r23_8,r23_9,r23_10,r23_11,r23_12,r23_13,r23_14,r23_15,r23_16,r23_17,r23_18,r23_19,r23_20,r23_21,r23_22,r23_23,r23_24,r23_25,r23_26,r23_27,r23_28,r23_29,r23_30,r23_31,r23_32,r23_33,r23_34,r23_35,r23_36,r23_37,r23_38,r23_39,r23_40,r23_41,r23_42,r23_43,r23_44,r23_45,r23_46,r23_47,r23_48,r23_49,r23_50,r23_51,r23_52,p23,l23_2,hk0,ht,hv4,gR,hrl,hset,hw,hki,Zt,V0,List.set_cons_succ]) | (exfalso; omega)
        all_goals first | omega | exact again hJ (k + 1) (weak_mk (by simp only [Vh,Vi,Vj,Vk,Vl,Vm,Z0,Z1,Z2,Z3,Z4,Z5,Z6,Z7,Z8,Z9,Za,Zb,Zc,Zd,Ze,Zf,List.cons.injEq,Zg,Zh,Zi,Zj,Zk,Zl,Zm,Zn,Zo,Zp,beq_self_eq_true,bne_self_eq_false,decide_true,decide_false,Zq,Zr,Zs,Zt,Zu,Zv,Zw,Zx,Zy,Zz,Y0,Y1,Y2,Y3,Y4,Y5,Y6,Y7,Y8,Y9,Ya,Yb,Yc,Yd,Ye,Yf,Yg,Yh,Yi,Yj,Yk,Yl,lk,ef,Ym,Yn,Yo,Yp,Yq,Yr,Ys,Yt,Yu,Yv,Yw,Yx,Yy,Yz,X0,X1,X2,X3,X4,X5,X6,X7,X8,X9,Xa,Xb,Xc,Xd,Xe,Xf,Xg,Xh,Xi,Xj,Xk,hv,Xl,ev,Xm,Xn,Xo,Xp,Xq,Xr,Xs,Xt,Xu,Xv,Xw,Xx,Xy,Xz,W0,W1,W2,W3,W4,W5,W6,W7,W8,W9,Wa,Wb,Wc,Wd,We,Wf,Wg,Wh,Wi,Value.oneCell',Wj,Wk,Wl,Wm,true_and,and_true,and_self,implies_true,Wn,Wo,Wp,Wq,false_implies,Wr,Ws,Wt,Wu,Wv,Ww,Wx,Wy,Wz,V0,V1,V2,V3,V4,V5,V6,V7,reduceCtorEq,if_true,if_false,V8,↓reduceIte,V9,Va,Vb,Vc,Vd,Ve,ne_eq,not_false_eq_true,not_true_eq_false,Vf,Nat.zero_ne_one]; all_goals first | done | rfl)) (by omega) (by omega) | trace_state
    · have q0 : k ≠ 0 := fun z => hq (.inl z)
      have q1 : C = true := by cases C with
        | true => rfl
        | false => exact absurd (.inr rfl) hq
      have hk0 : (0 : Int) < k := by omega
      have hk1 : 0 < k := by omega
      have hz := hZn k q0 q1
      have gZ := rowS_get (a := l.length) (b := l.length) (c := k) (d := 0) (e := 0) hlt0
      simp only [Nat.lt_irrefl, Nat.not_lt_zero, if_false, if_true, hlt0, hk1, Smp.av] at gZ
      have hsm : l[0].size = l[k].size := by rw [hZm q1 0 hlt0, hZm q1 k hlt]
      rw [hsm] at gZ
      have hl0 : (0 : Int) < l.length := by omega
      have ht := an4' A B C D
      subst q1
      repeat' first | ((with_reducible (first | refine condD ?_ ?_ | refine condE ?_ ?_ | refine condN ?_ ?_ | refine condI ?_ ?_ | refine condS ?_ ?_)) <;> intro h) | ((with_reducible (first | refine guardD (by with_unfolding_all rfl) ?_ ?_ | refine guardE (by with_unfolding_all rfl) ?_ ?_ | refine guardN (by with_unfolding_all rfl) ?_ ?_ | refine guardI (by with_unfolding_all rfl) ?_ ?_ | refine guardS (by with_unfolding_all rfl) ?_ ?_)) <;> intro h) | (with_reducible refine And.intro ?_ ?_; omega) | (simp only [Z0,Z1,Z2,Z3,Z4,Z5,Z6,Z7,Z8,Z9,Za,Zb,Zc,Zd,Ze,Zf,List.cons.injEq,Zg,Zh,Zi,Zj,Zk,Zl,Zm,Zn,Zo,Zp,beq_self_eq_true,bne_self_eq_false,decide_true,decide_false,Zq,Zr,Zs,Zt,Zu,Zv,Zw,Zx,Zy,Zz,Y0,Y1,Y2,Y3,Y4,Y5,Y6,Y7,Y8,Y9,Ya,Yb,Yc,Yd,Ye,Yf,Yg,Yh,Yi,Yj,Yk,Yl,lk,ef,Ym,Yn,Yo,Yp,Yq,Yr,Ys,Yt,Yu,Yv,Yw,Yx,Yy,Yz,X0,X1,X2,X3,X4,X5,X6,X7,X8,X9,Xa,Xb,Xc,Xd,Xe,Xf,Xg,Xh,Xi,Xj,Xk,hv,Xl,ev,Xm,Xn,Xo,Xp,Xq,Xr,Xs,Xt,Xu,Xv,Xw,Xx,Xy,Xz,W0,W1,W2,W3,W4,W5,W6,W7,W8,W9,Wa,Wb,Wc,Wd,We,Wf,Wg,Wh,Wi,Value.oneCell',Wj,Wk,Wl,Wm,true_and,and_true,and_self,implies_true,Wn,Wo,Wp,Wq,false_implies,Wr,Ws,Wt,Wu,Wv,Ww,Wx,Wy,Wz,V0,V1,V2,V3,V4,V5,V6,V7,reduceCtorEq,if_true,if_false,V8,↓reduceIte,V9,Va,Vb,Vc,Vd,Ve,ne_eq,not_false_eq_true,not_true_eq_false,Vf,Vg,r23_0,r23_1,r23_2,r23_3,r23_4,r23_5,r23_6,r23_7,r23_8,r23_9,r23_10,r23_11,r23_12,r23_13,r23_14,r23_15,r23_16,r23_17,r23_18,r23_19,r23_20,r23_21,r23_22,r23_23,r23_24,r23_25,r23_26,r23_27,r23_28,r23_29,r23_30,r23_31,r23_32,r23_33,r23_34,r23_35,r23_36,r23_37,r23_38,r23_39,r23_40,r23_41,r23_42,r23_43,r23_44,r23_45,r23_46,r23_47,r23_48,r23_49,r23_50,r23_51,r23_52,p23,l23_2,hk0,ht,gR,gZ,hrl,hset,hw,hki,hl0,hlt,hlt0,Zt,V0,List.set_cons_succ]) | (exfalso; omega)
      all_goals first | omega | exact again hJ (k + 1) (weak_mk (by simp only [Vh,Vi,Vj,Vk,Vl,Vm,Z0,Z1,Z2,Z3,Z4,Z5,Z6,Z7,Z8,Z9,Za,Zb,Zc,Zd,Ze,Zf,List.cons.injEq,Zg,Zh,Zi,Zj,Zk,Zl,Zm,Zn,Zo,Zp,beq_self_eq_true,bne_self_eq_false,decide_true,decide_false,Zq,Zr,Zs,Zt,Zu,Zv,Zw,Zx,Zy,Zz,Y0,Y1,Y2,Y3,Y4,Y5,Y6,Y7,Y8,Y9,Ya,Yb,Yc,Yd,Ye,Yf,Yg,Yh,Yi,Yj,Yk,Yl,lk,ef,Ym,Yn,Yo,Yp,Yq,Yr,Ys,Yt,Yu,Yv,Yw,Yx,Yy,Yz,X0,X1,X2,X3,X4,X5,X6,X7,X8,X9,Xa,Xb,Xc,Xd,Xe,Xf,Xg,Xh,Xi,Xj,Xk,hv,Xl,ev,Xm,Xn,Xo,Xp,Xq,Xr,Xs,Xt,Xu,Xv,Xw,Xx,Xy,Xz,W0,W1,W2,W3,W4,W5,W6,W7,W8,W9,Wa,Wb,Wc,Wd,We,Wf,Wg,Wh,Wi,Value.oneCell',Wj,Wk,Wl,Wm,true_and,and_true,and_self,implies_true,Wn,Wo,Wp,Wq,false_implies,Wr,Ws,Wt,Wu,Wv,Ww,Wx,Wy,Wz,V0,V1,V2,V3,V4,V5,V6,V7,reduceCtorEq,if_true,if_false,V8,↓reduceIte,V9,Va,Vb,Vc,Vd,Ve,ne_eq,not_false_eq_true,not_true_eq_false,Vf,Nat.zero_ne_one]; rw [hz]; all_goals first | done | rfl | exact ⟨rfl, rfl⟩)) (by omega) (by omega) | trace_state
  have hke : k = l.length := by omega
  subst hke
  clear hJ h
  repeat' first | ((with_reducible (first | refine condD ?_ ?_ | refine condE ?_ ?_ | refine condN ?_ ?_ | refine condI ?_ ?_ | refine condS ?_ ?_)) <;> intro h) | ((with_reducible (first | refine guardD (by with_unfolding_all rfl) ?_ ?_ | refine guardE (by with_unfolding_all rfl) ?_ ?_ | refine guardN (by with_unfolding_all rfl) ?_ ?_ | refine guardI (by with_unfolding_all rfl) ?_ ?_ | refine guardS (by with_unfolding_all rfl) ?_ ?_)) <;> intro h) | (with_reducible refine And.intro ?_ ?_; omega) | (simp only [Z0,Z1,Z2,Z3,Z4,Z5,Z6,Z7,Z8,Z9,Za,Zb,Zc,Zd,Ze,Zf,List.cons.injEq,Zg,Zh,Zi,Zj,Zk,Zl,Zm,Zn,Zo,Zp,beq_self_eq_true,bne_self_eq_false,decide_true,decide_false,Zq,Zr,Zs,Zt,Zu,Zv,Zw,Zx,Zy,Zz,Y0,Y1,Y2,Y3,Y4,Y5,Y6,Y7,Y8,Y9,Ya,Yb,Yc,Yd,Ye,Yf,Yg,Yh,Yi,Yj,Yk,Yl,lk,ef,Ym,Yn,Yo,Yp,Yq,Yr,Ys,Yt,Yu,Yv,Yw,Yx,Yy,Yz,X0,X1,X2,X3,X4,X5,X6,X7,X8,X9,Xa,Xb,Xc,Xd,Xe,Xf,Xg,Xh,Xi,Xj,Xk,hv,Xl,ev,Xm,Xn,Xo,Xp,Xq,Xr,Xs,Xt,Xu,Xv,Xw,Xx,Xy,Xz,W0,W1,W2,W3,W4,W5,W6,W7,W8,W9,Wa,Wb,Wc,Wd,We,Wf,Wg,Wh,Wi,Value.oneCell',Wj,Wk,Wl,Wm,true_and,and_true,and_self,implies_true,Wn,Wo,Wp,Wq,false_implies,Wr,Ws,Wt,Wu,Wv,Ww,Wx,Wy,Wz,V0,V1,V2,V3,V4,V5,V6,V7,reduceCtorEq,if_true,if_false,V8,↓reduceIte,V9,Va,Vb,Vc,Vd,Ve,ne_eq,not_false_eq_true,not_true_eq_false,Vf,Vg,r23_0,r23_1,r23_2,r23_3,r23_4,r23_5,r23_6,r23_7,r23_8,r23_9,r23_10,r23_11,r23_12,r23_13,r23_14,r23_15,r23_16,r23_17,r23_18,r23_19,r23_20,r23_21,r23_22,r23_23,r23_24,r23_25,r23_26,r23_27,r23_28,r23_29,r23_30,r23_31,r23_32,r23_33,r23_34,r23_35,r23_36,r23_37,r23_38,r23_39,r23_40,r23_41,r23_42,r23_43,r23_44,r23_45,r23_46,r23_47,r23_48,r23_49,r23_50,r23_51,r23_52,p23,l23_2]) | (exfalso; omega)
  refine loopS (fun k : Nat => mk [(2, .box [.val (.int .i64 0), .nilsl]), (5, .ref 19 0), (19, .box [.ro (X.map oneU), .val (.int .i64 ((pK l k : Nat) : Int)), .val (.bool false)]), (6, .box [.val (.int .i64 n), .nilsl]), (7, .val (.int .i64 (hdSmp l).time)), (8, .val (.int .i64 l.length)), (9, .val (.int .u8 (mark4 A B C D : Nat))), (10, .own 69 5 ((rowS l l.length l.length l.length k 0).map Smp.av)), (117, .val (.int .i64 l.length)), (118, .val (.int .i64 k))]) (fun k => k ≤ l.length) (fun k => l.length - k) 0 (weak_mk ?_) (Nat.zero_le _) ?_
  · simp only [Vh,Vi,Vj,Vk,Vl,Vm,Z0,Z1,Z2,Z3,Z4,Z5,Z6,Z7,Z8,Z9,Za,Zb,Zc,Zd,Ze,Zf,List.cons.injEq,Zg,Zh,Zi,Zj,Zk,Zl,Zm,Zn,Zo,Zp,beq_self_eq_true,bne_self_eq_false,decide_true,decide_false,Zq,Zr,Zs,Zt,Zu,Zv,Zw,Zx,Zy,Zz,Y0,Y1,Y2,Y3,Y4,Y5,Y6,Y7,Y8,Y9,Ya,Yb,Yc,Yd,Ye,Yf,Yg,Yh,Yi,Yj,Yk,Yl,lk,ef,Ym,Yn,Yo,Yp,Yq,Yr,Ys,Yt,Yu,Yv,Yw,Yx,Yy,Yz,X0,X1,X2,X3,X4,X5,X6,X7,X8,X9,Xa,Xb,Xc,Xd,Xe,Xf,Xg,Xh,Xi,Xj,Xk,hv,Xl,ev,Xm,Xn,Xo,Xp,Xq,Xr,Xs,Xt,Xu,Xv,Xw,Xx,Xy,Xz,W0,W1,W2,W3,W4,W5,W6,W7,W8,W9,Wa,Wb,Wc,Wd,We,Wf,Wg,Wh,Wi,Value.oneCell',Wj,Wk,Wl,Wm,true_and,and_true,and_self,implies_true,Wn,Wo,Wp,Wq,false_implies,Wr,Ws,Wt,Wu,Wv,Ww,Wx,Wy,Wz,V0,V1,V2,V3,V4,V5,V6,V7,reduceCtorEq,if_true,if_false,V8,↓reduceIte,V9,Va,Vb,Vc,Vd,Ve,ne_eq,not_false_eq_true,not_true_eq_false,Vf,Nat.zero_ne_one]
    all_goals first | done | (simp [pS_0, pH_0, pZ_0, pK_0, rowS_len, tmF]; done)
  rintro J hJ k hk
  simp only [Z0,Z1,Z2,Z3,Z4,Z5,Z6,Z7,Z8,Z9,Za,Zb,Zc,Zd,Ze,Zf,List.cons.injEq,Zg,Zh,Zi,Zj,Zk,Zl,Zm,Zn,Zo,Zp,beq_self_eq_true,bne_self_eq_false,decide_true,decide_false,Zq,Zr,Zs,Zt,Zu,Zv,Zw,Zx,Zy,Zz,Y0,Y1,Y2,Y3,Y4,Y5,Y6,Y7,Y8,Y9,Ya,Yb,Yc,Yd,Ye,Yf,Yg,Yh,Yi,Yj,Yk,Yl,lk,ef,Ym,Yn,Yo,Yp,Yq,Yr,Ys,Yt,Yu,Yv,Yw,Yx,Yy,Yz,X0,X1,X2,X3,X4,X5,X6,X7,X8,X9,Xa,Xb,Xc,Xd,Xe,Xf,Xg,Xh,Xi,Xj,Xk,hv,Xl,ev,Xm,Xn,Xo,Xp,Xq,Xr,Xs,Xt,Xu,Xv,Xw,Xx,Xy,Xz,W0,W1,W2,W3,W4,W5,W6,W7,W8,W9,Wa,Wb,Wc,Wd,We,Wf,Wg,Wh,Wi,Value.oneCell',Wj,Wk,Wl,Wm,true_and,and_true,and_self,implies_true,Wn,Wo,Wp,Wq,false_implies,Wr,Ws,Wt,Wu,Wv,Ww,Wx,Wy,Wz,V0,V1,V2,V3,V4,V5,V6,V7,reduceCtorEq,if_true,if_false,V8,↓reduceIte,V9,Va,Vb,Vc,Vd,Ve,ne_eq,not_false_eq_true,not_true_eq_false,Vf,Vg,r23_0,r23_1,r23_2,r23_3,r23_4,r23_5,r23_6,r23_7,r23_8,r23_9,r23_10,r23_11,r23_12,r23_13,r23_14,r23_15,r23_16,r23_17,r23_18,r23_19,r23_20,r23_21,r23_22,r23_23,r23_24,r23_25,r23_26,r23_27,r23_28,r23_29,r23_30,r23_31,r23_32,r23_33,r23_34,r23_35,r23_36,r23_37,r23_38,r23_39,r23_40,r23_41,r23_42,r23_43,r23_44,r23_45,r23_46,r23_47,r23_48,r23_49,r23_50,r23_51,r23_52,p23,l23_3]
  refine condD (fun h => ?_) (fun h => ?_)
  · have hlt' : k < l.length := by omega
    have hlt : k < l.length := by omega
    have hlt0 : 0 < l.length := by omega
    have hw := i_add1 k (by omega)
    have hki : (k : Int) < l.length := by omega
    have bs := badSmp_bd (hbd l[k] (List.getElem_mem hlt))
    have hrl : ((rowS l l.length l.length l.length k 0).map Smp.av).length = l.length := by rw [List.length_map, rowS_len]
    have gR := rowS_get (a := l.length) (b := l.length) (c := l.length) (d := k) (e := 0) hlt
    simp only [Nat.lt_irrefl, Nat.not_lt_zero, if_false, if_true, hlt, Smp.av] at gR
    have hset := rowS_set (a := l.length) (b := l.length) (c := l.length) (d := k) (e := 0) (a' := l.length) (b' := l.length) (c' := l.length) (d' := k + 1) (e' := 0) hlt ⟨0, l[k].step, l[k].shift, l[k].size, l[k].key⟩ (by simp [hlt]) (fun i hi => ⟨by omega, by omega, by omega, by omega, by omega⟩)
    simp only [Smp.av] at hset
    cases hD : D with
    | false =>
      obtain ⟨z2, z1⟩ := hK k hlt hD
      have nk := bflag_c X (pK l k) 1 hb hbl z2 (by rw [z1]; split <;> decide)
      rw [z1] at nk
      rw [← hKy k hlt hD] at nk
      have hke : ((((if l[k].key = true then 1 else 0 : Nat) : Nat) : Int) == 1) = l[k].key := by cases l[k].key <;> rfl
      generalize (if l[k].key = true then 1 else 0 : Nat) = wv at *
      have ht := ad8' A B C false
      subst hD
      repeat' first | ((with_reducible (first | refine condD ?_ ?_ | refine condE ?_ ?_ | refine condN ?_ ?_ | refine condI ?_ ?_ | refine condS ?_ ?_)) <;> intro h) | ((with_reducible (first | refine guardD (by with_unfolding_all rfl) ?_ ?_ | refine guardE (by with_unfolding_all rfl) ?_ ?_ | refine guardN (by with_unfolding_all rfl) ?_ ?_ | refine guardI (by with_unfolding_all rfl) ?_ ?_ | refine guardS (by with_unfolding_all rfl) ?_ ?_)) <;> intro h) | ((refine turnGb (by with_unfolding_all rfl) nk ?_)) | (with_reducible refine And.intro ?_ ?_; omega) | (simp only [Z0,Z1,Z2,Z3,Z4,Z5,Z6,Z7,Z8,Z9,Za,Zb,Zc,Zd,Ze,Zf,List.cons.injEq,Zg,Zh,Zi,Zj,Zk,Zl,Zm,Zn,Zo,Zp,beq_self_eq_true,bne_self_eq_false,decide_true,decide_false,Zq,Zr,Zs,Zt,Zu,Zv,Zw,Zx,Zy,Zz,Y0,Y1,Y2,Y3,Y4,Y5,Y6,Y7,Y8,Y9,Ya,Yb,Yc,Yd,Ye,Yf,Yg,Yh,Yi,Yj,Yk,Yl,lk,ef,Ym,Yn,Yo,Yp,Yq,Yr,Ys,Yt,Yu,Yv,Yw,Yx,Yy,Yz,X0,X1,X2,X3,X4,X5,X6,X7,X8,X9,Xa,Xb,Xc,Xd,Xe,Xf,Xg,Xh,Xi,Xj,Xk,hv,Xl,ev,Xm,Xn,Xo,Xp,Xq,Xr,Xs,Xt,Xu,Xv,Xw,Xx,Xy,Xz,W0,W1,W2,W3,W4,W5,W6,W7,W8,W9,Wa,Wb,Wc,Wd,We,Wf,Wg,Wh,Wi,Value.oneCell',Wj,Wk,Wl,Wm,true_and,and_true,and_self,implies_true,Wn,Wo,Wp,Wq,false_implies,Wr,Ws,Wt,Wu,Wv,Ww,Wx,Wy,Wz,V0,V1,V2,V3,V4,V5,V6,V7,reduceCtorEq,if_true,if_false,V8,↓reduceIte,V9,Va,Vb,Vc,Vd,Ve,ne_eq,not_false_eq_true,not_true_eq_false,Vf,Vg,r23_0,r23_1,r23_2,r23_3,r23_4,r23_5,r23_6,r23_7,r23_8,r23_9,r23_10,r23_11,r23_12,r23_13,r23_14,r23_15,r23_16,r23_17,r23_18,r23_19,r23_20,r23_21,r23_22,r23_23,r23_24,r23_25,r23_26,r23_27,r23_28,r23_29,r23_30,r23_31,r23_32,r23_33,r23_34,r23_35,r23_36,r23_37,r23_38,r23_39,r23_40,r23_41,r23_42,r23_43,r23_44,r23_45,r23_46,r23_47,r23_48,r23_49,r23_50,r23_51,r23_52,p23,l23_3,ht,hke,gR,hrl,hset,hw,hki,Zt,V0,List.set_cons_succ]) | (exfalso; omega)
      all_goals first | omega | exact again hJ (k + 1) (weak_mk (by simp only [Vh,Vi,Vj,Vk,Vl,Vm,Z0,Z1,Z2,Z3,Z4,Z5,Z6,Z7,Z8,Z9,Za,Zb,Zc,Zd,Ze,Zf,List.cons.injEq,Zg,Zh,Zi,Zj,Zk,Zl,Zm,Zn,Zo,Zp,beq_self_eq_true,bne_self_eq_false,decide_true,decide_false,Zq,Zr,Zs,Zt,Zu,Zv,Zw,Zx,Zy,Zz,Y0,Y1,Y2,Y3,Y4,Y5,Y6,Y7,Y8,Y9,Ya,Yb,Yc,Yd,Ye,Yf,Yg,Yh,Yi,Yj,Yk,Yl,lk,ef,Ym,Yn,Yo,Yp,Yq,Yr,Ys,Yt,Yu,Yv,Yw,Yx,Yy,Yz,X0,X1,X2,X3,X4,X5,X6,X7,X8,X9,Xa,Xb,Xc,Xd,Xe,Xf,Xg,Xh,Xi,Xj,Xk,hv,Xl,ev,Xm,Xn,Xo,Xp,Xq,Xr,Xs,Xt,Xu,Xv,Xw,Xx,Xy,Xz,W0,W1,W2,W3,W4,W5,W6,W7,W8,W9,Wa,Wb,Wc,Wd,We,Wf,Wg,Wh,Wi,Value.oneCell',Wj,Wk,Wl,Wm,true_and,and_true,and_self,implies_true,Wn,Wo,Wp,Wq,false_implies,Wr,Ws,Wt,Wu,Wv,Ww,Wx,Wy,Wz,V0,V1,V2,V3,V4,V5,V6,V7,reduceCtorEq,if_true,if_false,V8,↓reduceIte,V9,Va,Vb,Vc,Vd,Ve,ne_eq,not_false_eq_true,not_true_eq_false,Vf,Nat.zero_ne_one]; all_goals first | done | rfl)) (by omega) (by omega) | trace_state
    | true =>
      have hz := hKn k hD
      have ht := ad8' A B C true
      have hke : ((k : Int) == 0) = l[k].key := by rw [hKm hD k hlt]; by_cases q : k = 0 <;> simp [q]
      subst hD
      repeat' first | ((with_reducible (first | refine condD ?_ ?_ | refine condE ?_ ?_ | refine condN ?_ ?_ | refine condI ?_ ?_ | refine condS ?_ ?_)) <;> intro h) | ((with_reducible (first | refine guardD (by with_unfolding_all rfl) ?_ ?_ | refine guardE (by with_unfolding_all rfl) ?_ ?_ | refine guardN (by with_unfolding_all rfl) ?_ ?_ | refine guardI (by with_unfolding_all rfl) ?_ ?_ | refine guardS (by with_unfolding_all rfl) ?_ ?_)) <;> intro h) | (with_reducible refine And.intro ?_ ?_; omega) | (simp only [Z0,Z1,Z2,Z3,Z4,Z5,Z6,Z7,Z8,Z9,Za,Zb,Zc,Zd,Ze,Zf,List.cons.injEq,Zg,Zh,Zi,Zj,Zk,Zl,Zm,Zn,Zo,Zp,beq_self_eq_true,bne_self_eq_false,decide_true,decide_false,Zq,Zr,Zs,Zt,Zu,Zv,Zw,Zx,Zy,Zz,Y0,Y1,Y2,Y3,Y4,Y5,Y6,Y7,Y8,Y9,Ya,Yb,Yc,Yd,Ye,Yf,Yg,Yh,Yi,Yj,Yk,Yl,lk,ef,Ym,Yn,Yo,Yp,Yq,Yr,Ys,Yt,Yu,Yv,Yw,Yx,Yy,Yz,X0,X1,X2,X3,X4,X5,X6,X7,X8,X9,Xa,Xb,Xc,Xd,Xe,Xf,Xg,Xh,Xi,Xj,Xk,hv,Xl,ev,Xm,Xn,Xo,Xp,Xq,Xr,Xs,Xt,Xu,Xv,Xw,Xx,Xy,Xz,W0,W1,W2,W3,W4,W5,W6,W7,W8,W9,Wa,Wb,Wc,Wd,We,Wf,Wg,Wh,Wi,Value.oneCell',Wj,Wk,Wl,Wm,true_and,and_true,and_self,implies_true,Wn,Wo,Wp,Wq,false_implies,Wr,Ws,Wt,Wu,Wv,Ww,Wx,Wy,Wz,V0,V1,V2,V3,V4,V5,V6,V7,reduceCtorEq,if_true,if_false,V8,↓reduceIte,V9,Va,Vb,Vc,Vd,Ve,ne_eq,not_false_eq_true,not_true_eq_false,Vf,Vg,r23_0,r23_1,r23_2,r23_3,r23_4,r23_5,r23_6,r23_7,r23_8,r23_9,r23_10,r23_11,r23_12,r23_13,r23_14,r23_15,r23_16,r23_17,r23_18,r23_19,r23_20,r23_21,r23_22,r23_23,r23_24,r23_25,r23_26,r23_27,r23_28,r23_29,r23_30,r23_31,r23_32,r23_33,r23_34,r23_35,r23_36,r23_37,r23_38,r23_39,r23_40,r23_41,r23_42,r23_43,r23_44,r23_45,r23_46,r23_47,r23_48,r23_49,r23_50,r23_51,r23_52,p23,l23_3,ht,hke,gR,hrl,hset,hw,hki,Zt,V0,List.set_cons_succ]) | (exfalso; omega)
      all_goals first | omega | exact again hJ (k + 1) (weak_mk (by simp only [Vh,Vi,Vj,Vk,Vl,Vm,Z0,Z1,Z2,Z3,Z4,Z5,Z6,Z7,Z8,Z9,Za,Zb,Zc,Zd,Ze,Zf,List.cons.injEq,Zg,Zh,Zi,Zj,Zk,Zl,Zm,Zn,Zo,Zp,beq_self_eq_true,bne_self_eq_false,decide_true,decide_false,Zq,Zr,Zs,Zt,Zu,Zv,Zw,Zx,Zy,Zz,Y0,Y1,Y2,Y3,Y4,Y5,Y6,Y7,Y8,Y9,Ya,Yb,Yc,Yd,Ye,Yf,Yg,Yh,Yi,Yj,Yk,Yl,lk,ef,Ym,Yn,Yo,Yp,Yq,Yr,Ys,Yt,Yu,Yv,Yw,Yx,Yy,Yz,X0,X1,X2,X3,X4,X5,X6,X7,X8,X9,Xa,Xb,Xc,Xd,Xe,Xf,Xg,Xh,Xi,Xj,Xk,hv,Xl,ev,Xm,Xn,Xo,Xp,Xq,Xr,Xs,Xt,Xu,Xv,Xw,Xx,Xy,Xz,W0,W1,W2,W3,W4,W5,W6,W7,W8,W9,Wa,Wb,Wc,Wd,We,Wf,Wg,Wh,Wi,Value.oneCell',Wj,Wk,Wl,Wm,true_and,and_true,and_self,implies_true,Wn,Wo,Wp,Wq,false_implies,Wr,Ws,Wt,Wu,Wv,Ww,Wx,Wy,Wz,V0,V1,V2,V3,V4,V5,V6,V7,reduceCtorEq,if_true,if_false,V8,↓reduceIte,V9,Va,Vb,Vc,Vd,Ve,ne_eq,not_false_eq_true,not_true_eq_false,Vf,Nat.zero_ne_one]; rw [hz]; all_goals first | done | rfl | exact ⟨rfl, rfl⟩ | trace_state)) (by omega) (by omega) | trace_state
  have hke : k = l.length := by omega
  subst hke
  clear hJ h
  rw [hKe]
  have he := bend_c X
  have hm := marks_c (rowS l l.length l.length l.length l.length 0) (by rw [rowS_len]; exact hl)
  rw [marks_t0, hM] at hm
  have hz1 : ((l.length : Int) == 0) = true → ((hdSmp l).time != 0) = false := fun q => by
    have : l = [] := List.length_eq_zero_iff.1 (by simpa using q)
    subst this; rfl
  by_cases hz2 : ((l.length : Int) == 0) = true
  · have hz3 := hz1 hz2
    repeat' first | ((with_reducible (first | refine condD ?_ ?_ | refine condE ?_ ?_ | refine condN ?_ ?_ | refine condI ?_ ?_ | refine condS ?_ ?_)) <;> intro h) | ((with_reducible (first | refine guardD (by with_unfolding_all rfl) ?_ ?_ | refine guardE (by with_unfolding_all rfl) ?_ ?_ | refine guardN (by with_unfolding_all rfl) ?_ ?_ | refine guardI (by with_unfolding_all rfl) ?_ ?_ | refine guardS (by with_unfolding_all rfl) ?_ ?_)) <;> intro h) | ((refine turnGb (by with_unfolding_all rfl) he ?_)) | ((refine callG_flat hm (.val _) ?_)) | (with_reducible refine And.intro ?_ ?_; omega) | (simp only [Z0,Z1,Z2,Z3,Z4,Z5,Z6,Z7,Z8,Z9,Za,Zb,Zc,Zd,Ze,Zf,List.cons.injEq,Zg,Zh,Zi,Zj,Zk,Zl,Zm,Zn,Zo,Zp,beq_self_eq_true,bne_self_eq_false,decide_true,decide_false,Zq,Zr,Zs,Zt,Zu,Zv,Zw,Zx,Zy,Zz,Y0,Y1,Y2,Y3,Y4,Y5,Y6,Y7,Y8,Y9,Ya,Yb,Yc,Yd,Ye,Yf,Yg,Yh,Yi,Yj,Yk,Yl,lk,ef,Ym,Yn,Yo,Yp,Yq,Yr,Ys,Yt,Yu,Yv,Yw,Yx,Yy,Yz,X0,X1,X2,X3,X4,X5,X6,X7,X8,X9,Xa,Xb,Xc,Xd,Xe,Xf,Xg,Xh,Xi,Xj,Xk,hv,Xl,ev,Xm,Xn,Xo,Xp,Xq,Xr,Xs,Xt,Xu,Xv,Xw,Xx,Xy,Xz,W0,W1,W2,W3,W4,W5,W6,W7,W8,W9,Wa,Wb,Wc,Wd,We,Wf,Wg,Wh,Wi,Value.oneCell',Wj,Wk,Wl,Wm,true_and,and_true,and_self,implies_true,Wn,Wo,Wp,Wq,false_implies,Wr,Ws,Wt,Wu,Wv,Ww,Wx,Wy,Wz,V0,V1,V2,V3,V4,V5,V6,V7,reduceCtorEq,if_true,if_false,V8,↓reduceIte,V9,Va,Vb,Vc,Vd,Ve,ne_eq,not_false_eq_true,not_true_eq_false,Vf,Vg,r23_0,r23_1,r23_2,r23_3,r23_4,r23_5,r23_6,r23_7,r23_8,r23_9,r23_10,r23_11,r23_12,r23_13,r23_14,r23_15,r23_16,r23_17,r23_18,r23_19,r23_20,r23_21,r23_22,r23_23,r23_24,r23_25,r23_26,r23_27,r23_28,r23_29,r23_30,r23_31,r23_32,r23_33,r23_34,r23_35,r23_36,r23_37,r23_38,r23_39,r23_40,r23_41,r23_42,r23_43,r23_44,r23_45,r23_46,r23_47,r23_48,r23_49,r23_50,r23_51,r23_52,p23,l23_3,hz2,hz3,List.length_map]) | (exfalso; omega)
    refine loopS (fun k : Nat => mk [(2, .box [.val (.int .i64 0), .nilsl]), (6, .box [.val (.int .i64 n), .nilsl]), (7, .val (.int .i64 (tmF l k))), (10, .own 69 5 ((rowS l l.length l.length l.length l.length k).map Smp.av)), (161, .val (.int .i64 l.length)), (162, .val (.int .i64 k))]) (fun k => k ≤ l.length) (fun k => l.length - k) 0 (weak_mk ?_) (Nat.zero_le _) ?_
    · simp only [Vh,Vi,Vj,Vk,Vl,Vm,Z0,Z1,Z2,Z3,Z4,Z5,Z6,Z7,Z8,Z9,Za,Zb,Zc,Zd,Ze,Zf,List.cons.injEq,Zg,Zh,Zi,Zj,Zk,Zl,Zm,Zn,Zo,Zp,beq_self_eq_true,bne_self_eq_false,decide_true,decide_false,Zq,Zr,Zs,Zt,Zu,Zv,Zw,Zx,Zy,Zz,Y0,Y1,Y2,Y3,Y4,Y5,Y6,Y7,Y8,Y9,Ya,Yb,Yc,Yd,Ye,Yf,Yg,Yh,Yi,Yj,Yk,Yl,lk,ef,Ym,Yn,Yo,Yp,Yq,Yr,Ys,Yt,Yu,Yv,Yw,Yx,Yy,Yz,X0,X1,X2,X3,X4,X5,X6,X7,X8,X9,Xa,Xb,Xc,Xd,Xe,Xf,Xg,Xh,Xi,Xj,Xk,hv,Xl,ev,Xm,Xn,Xo,Xp,Xq,Xr,Xs,Xt,Xu,Xv,Xw,Xx,Xy,Xz,W0,W1,W2,W3,W4,W5,W6,W7,W8,W9,Wa,Wb,Wc,Wd,We,Wf,Wg,Wh,Wi,Value.oneCell',Wj,Wk,Wl,Wm,true_and,and_true,and_self,implies_true,Wn,Wo,Wp,Wq,false_implies,Wr,Ws,Wt,Wu,Wv,Ww,Wx,Wy,Wz,V0,V1,V2,V3,V4,V5,V6,V7,reduceCtorEq,if_true,if_false,V8,↓reduceIte,V9,Va,Vb,Vc,Vd,Ve,ne_eq,not_false_eq_true,not_true_eq_false,Vf,Nat.zero_ne_one]
      all_goals first | done | (simp [pS_0, pH_0, pZ_0, pK_0, rowS_len, tmF]; done)
    rintro J hJ k hk
    simp only [Z0,Z1,Z2,Z3,Z4,Z5,Z6,Z7,Z8,Z9,Za,Zb,Zc,Zd,Ze,Zf,List.cons.injEq,Zg,Zh,Zi,Zj,Zk,Zl,Zm,Zn,Zo,Zp,beq_self_eq_true,bne_self_eq_false,decide_true,decide_false,Zq,Zr,Zs,Zt,Zu,Zv,Zw,Zx,Zy,Zz,Y0,Y1,Y2,Y3,Y4,Y5,Y6,Y7,Y8,Y9,Ya,Yb,Yc,Yd,Ye,Yf,Yg,Yh,Yi,Yj,Yk,Yl,lk,ef,Ym,Yn,Yo,Yp,Yq,Yr,Ys,Yt,Yu,Yv,Yw,Yx,Yy,Yz,X0,X1,X2,X3,X4,X5,X6,X7,X8,X9,Xa,Xb,Xc,Xd,Xe,Xf,Xg,Xh,Xi,Xj,Xk,hv,Xl,ev,Xm,Xn,Xo,Xp,Xq,Xr,Xs,Xt,Xu,Xv,Xw,Xx,Xy,Xz,W0,W1,W2,W3,W4,W5,W6,W7,W8,W9,Wa,Wb,Wc,Wd,We,Wf,Wg,Wh,Wi,Value.oneCell',Wj,Wk,Wl,Wm,true_and,and_true,and_self,implies_true,Wn,Wo,Wp,Wq,false_implies,Wr,Ws,Wt,Wu,Wv,Ww,Wx,Wy,Wz,V0,V1,V2,V3,V4,V5,V6,V7,reduceCtorEq,if_true,if_false,V8,↓reduceIte,V9,Va,Vb,Vc,Vd,Ve,ne_eq,not_false_eq_true,not_true_eq_false,Vf,Vg,r23_0,r23_1,r23_2,r23_3,r23_4,r23_5,r23_6,r23_7,r23_8,r23_9,r23_10,r23_11,r23_12,r23_13,r23_14,r23_15,r23_16,r23_17,r23_18,r23_19,r23_20,r23_21,r23_22,r23_23,r23_24,r23_25,r23_26,r23_27,r23_28,r23_29,r23_30,r23_31,r23_32,r23_33,r23_34,r23_35,r23_36,r23_37,r23_38,r23_39,r23_40,r23_41,r23_42,r23_43,r23_44,r23_45,r23_46,r23_47,r23_48,r23_49,r23_50,r23_51,r23_52,p23,l23_4]
    refine condD (fun h => ?_) (fun h => ?_)
    · have hlt' : k < l.length := by omega
      have hlt : k < l.length := by omega
      have hlt0 : 0 < l.length := by omega
      have hw := i_add1 k (by omega)
      have hki : (k : Int) < l.length := by omega
      have bs := badSmp_bd (hbd l[k] (List.getElem_mem hlt))
      have hrl : ((rowS l l.length l.length l.length l.length k).map Smp.av).length = l.length := by rw [List.length_map, rowS_len]
      have gR := rowS_get (a := l.length) (b := l.length) (c := l.length) (d := l.length) (e := k) hlt
      simp only [Nat.lt_irrefl, Nat.not_lt_zero, if_false, if_true, hlt, Smp.av] at gR
      have hset := rowS_set (a := l.length) (b := l.length) (c := l.length) (d := l.length) (e := k) (a' := l.length) (b' := l.length) (c' := l.length) (d' := l.length) (e' := k + 1) hlt ⟨l[k].time, l[k].step, l[k].shift, l[k].size, l[k].key⟩ (by simp [hlt]) (fun i hi => ⟨by omega, by omega, by omega, by omega, by omega⟩)
      simp only [Smp.av] at hset
      have gN := rowS_get (a := l.length) (b := l.length) (c := l.length) (d := l.length) (e := k + 1) hlt
      simp only [Nat.lt_irrefl, Nat.lt_succ_self, Nat.not_lt_zero, if_false, if_true, hlt, Smp.av] at gN
      have hrl2 : ((rowS l l.length l.length l.length l.length (k + 1)).map Smp.av).length = l.length := by rw [List.length_map, rowS_len]
      have ht := tmF_at htm hlt
      have hn := tmF_succ hlt
      have hw2 : IntKind.i64.wrap (l[k].time + l[k].step) = tmF l (k + 1) := by rw [hn]; exact wrap_in (by omega) (by omega)
      repeat' first | ((with_reducible (first | refine condD ?_ ?_ | refine condE ?_ ?_ | refine condN ?_ ?_ | refine condI ?_ ?_ | refine condS ?_ ?_)) <;> intro h) | ((with_reducible (first | refine guardD (by with_unfolding_all rfl) ?_ ?_ | refine guardE (by with_unfolding_all rfl) ?_ ?_ | refine guardN (by with_unfolding_all rfl) ?_ ?_ | refine guardI (by with_unfolding_all rfl) ?_ ?_ | refine guardS (by with_unfolding_all rfl) ?_ ?_)) <;> intro h) | (with_reducible refine And.intro ?_ ?_; omega) | (simp only [Z0,Z1,Z2,Z3,Z4,Z5,Z6,Z7,Z8,Z9,Za,Zb,Zc,Zd,Ze,Zf,List.cons.injEq,Zg,Zh,Zi,Zj,Zk,Zl,Zm,Zn,Zo,Zp,beq_self_eq_true,bne_self_eq_false,decide_true,decide_false,Zq,Zr,Zs,Zt,Zu,Zv,Zw,Zx,Zy,Zz,Y0,Y1,Y2,Y3,Y4,Y5,Y6,Y7,Y8,Y9,Ya,Yb,Yc,Yd,Ye,Yf,Yg,Yh,Yi,Yj,Yk,Yl,lk,ef,Ym,Yn,Yo,Yp,Yq,Yr,Ys,Yt,Yu,Yv,Yw,Yx,Yy,Yz,X0,X1,X2,X3,X4,X5,X6,X7,X8,X9,Xa,Xb,Xc,Xd,Xe,Xf,Xg,Xh,Xi,Xj,Xk,hv,Xl,ev,Xm,Xn,Xo,Xp,Xq,Xr,Xs,Xt,Xu,Xv,Xw,Xx,Xy,Xz,W0,W1,W2,W3,W4,W5,W6,W7,W8,W9,Wa,Wb,Wc,Wd,We,Wf,Wg,Wh,Wi,Value.oneCell',Wj,Wk,Wl,Wm,true_and,and_true,and_self,implies_true,Wn,Wo,Wp,Wq,false_implies,Wr,Ws,Wt,Wu,Wv,Ww,Wx,Wy,Wz,V0,V1,V2,V3,V4,V5,V6,V7,reduceCtorEq,if_true,if_false,V8,↓reduceIte,V9,Va,Vb,Vc,Vd,Ve,ne_eq,not_false_eq_true,not_true_eq_false,Vf,Vg,r23_0,r23_1,r23_2,r23_3,r23_4,r23_5,r23_6,r23_7,r23_8,r23_9,r23_10,r23_11,r23_12,r23_13,r23_14,r23_15,r23_16,r23_17,r23_18,r23_19,r23_20,r23_21,r23_22,r23_23,r23_24,r23_25,r23_26,r23_27,r23_28,r23_29,r23_30,r23_31,r23_32,r23_33,r23_34,r23_35,r23_36,r23_37,r23_38,r23_39,r23_40,r23_41,r23_42,r23_43,r23_44,r23_45,r23_46,r23_47,r23_48,r23_49,r23_50,r23_51,r23_52,p23,l23_4,ht,hw2,gR,gN,hrl,hrl2,hset,hw,hki,Zt,V0,List.set_cons_succ]) | (exfalso; omega)
      all_goals first | omega | exact again hJ (k + 1) (weak_mk (by simp only [Vh,Vi,Vj,Vk,Vl,Vm,Z0,Z1,Z2,Z3,Z4,Z5,Z6,Z7,Z8,Z9,Za,Zb,Zc,Zd,Ze,Zf,List.cons.injEq,Zg,Zh,Zi,Zj,Zk,Zl,Zm,Zn,Zo,Zp,beq_self_eq_true,bne_self_eq_false,decide_true,decide_false,Zq,Zr,Zs,Zt,Zu,Zv,Zw,Zx,Zy,Zz,Y0,Y1,Y2,Y3,Y4,Y5,Y6,Y7,Y8,Y9,Ya,Yb,Yc,Yd,Ye,Yf,Yg,Yh,Yi,Yj,Yk,Yl,lk,ef,Ym,Yn,Yo,Yp,Yq,Yr,Ys,Yt,Yu,Yv,Yw,Yx,Yy,Yz,X0,X1,X2,X3,X4,X5,X6,X7,X8,X9,Xa,Xb,Xc,Xd,Xe,Xf,Xg,Xh,Xi,Xj,Xk,hv,Xl,ev,Xm,Xn,Xo,Xp,Xq,Xr,Xs,Xt,Xu,Xv,Xw,Xx,Xy,Xz,W0,W1,W2,W3,W4,W5,W6,W7,W8,W9,Wa,Wb,Wc,Wd,We,Wf,Wg,Wh,Wi,Value.oneCell',Wj,Wk,Wl,Wm,true_and,and_true,and_self,implies_true,Wn,Wo,Wp,Wq,false_implies,Wr,Ws,Wt,Wu,Wv,Ww,Wx,Wy,Wz,V0,V1,V2,V3,V4,V5,V6,V7,reduceCtorEq,if_true,if_false,V8,↓reduceIte,V9,Va,Vb,Vc,Vd,Ve,ne_eq,not_false_eq_true,not_true_eq_false,Vf,Nat.zero_ne_one]; all_goals first | done | rfl | trace_state)) (by omega) (by omega) | trace_state
    have hke : k = l.length := by omega
    subst hke
    clear hJ h
    rw [rowS_all]
    repeat' first | ((with_reducible (first | refine condD ?_ ?_ | refine condE ?_ ?_ | refine condN ?_ ?_ | refine condI ?_ ?_ | refine condS ?_ ?_)) <;> intro h) | ((with_reducible (first | refine guardD (by with_unfolding_all rfl) ?_ ?_ | refine guardE (by with_unfolding_all rfl) ?_ ?_ | refine guardN (by with_unfolding_all rfl) ?_ ?_ | refine guardI (by with_unfolding_all rfl) ?_ ?_ | refine guardS (by with_unfolding_all rfl) ?_ ?_)) <;> intro h) | ((refine callG_flat hs (.val _) ?_)) | ((refine opwG (weak_mk (l := [(2, .box [.val (.int .i64 0), .nilsl]), (6, .box [.val (.int .i64 n), .nilsl]), (10, .ro (l.map Smp.av))]) (by simp only [Vh,Vi,Vj,Vk,Vl,Vm,Z0,Z1,Z2,Z3,Z4,Z5,Z6,Z7,Z8,Z9,Za,Zb,Zc,Zd,Ze,Zf,List.cons.injEq,Zg,Zh,Zi,Zj,Zk,Zl,Zm,Zn,Zo,Zp,beq_self_eq_true,bne_self_eq_false,decide_true,decide_false,Zq,Zr,Zs,Zt,Zu,Zv,Zw,Zx,Zy,Zz,Y0,Y1,Y2,Y3,Y4,Y5,Y6,Y7,Y8,Y9,Ya,Yb,Yc,Yd,Ye,Yf,Yg,Yh,Yi,Yj,Yk,Yl,lk,ef,Ym,Yn,Yo,Yp,Yq,Yr,Ys,Yt,Yu,Yv,Yw,Yx,Yy,Yz,X0,X1,X2,X3,X4,X5,X6,X7,X8,X9,Xa,Xb,Xc,Xd,Xe,Xf,Xg,Xh,Xi,Xj,Xk,hv,Xl,ev,Xm,Xn,Xo,Xp,Xq,Xr,Xs,Xt,Xu,Xv,Xw,Xx,Xy,Xz,W0,W1,W2,W3,W4,W5,W6,W7,W8,W9,Wa,Wb,Wc,Wd,We,Wf,Wg,Wh,Wi,Value.oneCell',Wj,Wk,Wl,Wm,true_and,and_true,and_self,implies_true,Wn,Wo,Wp,Wq,false_implies,Wr,Ws,Wt,Wu,Wv,Ww,Wx,Wy,Wz,V0,V1,V2,V3,V4,V5,V6,V7,reduceCtorEq,if_true,if_false,V8,↓reduceIte,V9,Va,Vb,Vc,Vd,Ve,ne_eq,not_false_eq_true,not_true_eq_false,Vf,Nat.zero_ne_one])) ?_)) | (with_reducible refine And.intro ?_ ?_; omega) | (simp only [Z0,Z1,Z2,Z3,Z4,Z5,Z6,Z7,Z8,Z9,Za,Zb,Zc,Zd,Ze,Zf,List.cons.injEq,Zg,Zh,Zi,Zj,Zk,Zl,Zm,Zn,Zo,Zp,beq_self_eq_true,bne_self_eq_false,decide_true,decide_false,Zq,Zr,Zs,Zt,Zu,Zv,Zw,Zx,Zy,Zz,Y0,Y1,Y2,Y3,Y4,Y5,Y6,Y7,Y8,Y9,Ya,Yb,Yc,Yd,Ye,Yf,Yg,Yh,Yi,Yj,Yk,Yl,lk,ef,Ym,Yn,Yo,Yp,Yq,Yr,Ys,Yt,Yu,Yv,Yw,Yx,Yy,Yz,X0,X1,X2,X3,X4,X5,X6,X7,X8,X9,Xa,Xb,Xc,Xd,Xe,Xf,Xg,Xh,Xi,Xj,Xk,hv,Xl,ev,Xm,Xn,Xo,Xp,Xq,Xr,Xs,Xt,Xu,Xv,Xw,Xx,Xy,Xz,W0,W1,W2,W3,W4,W5,W6,W7,W8,W9,Wa,Wb,Wc,Wd,We,Wf,Wg,Wh,Wi,Value.oneCell',Wj,Wk,Wl,Wm,true_and,and_true,and_self,implies_true,Wn,Wo,Wp,Wq,false_implies,Wr,Ws,Wt,Wu,Wv,Ww,Wx,Wy,Wz,V0,V1,V2,V3,V4,V5,V6,V7,reduceCtorEq,if_true,if_false,V8,↓reduceIte,V9,Va,Vb,Vc,Vd,Ve,ne_eq,not_false_eq_true,not_true_eq_false,Vf,Vg,r23_0,r23_1,r23_2,r23_3,r23_4,r23_5,r23_6,r23_7,r23_8,r23_9,r23_10,r23_11,r23_12,r23_13,r23_14,r23_15,r23_16,r23_17,r23_18,r23_19,r23_20,r23_21,r23_22,r23_23,r23_24,r23_25,r23_26,r23_27,r23_28,r23_29,r23_30,r23_31,r23_32,r23_33,r23_34,r23_35,r23_36,r23_37,r23_38,r23_39,r23_40,r23_41,r23_42,r23_43,r23_44,r23_45,r23_46,r23_47,r23_48,r23_49,r23_50,r23_51,r23_52,p23,l23_4]) | (exfalso; omega)
    all_goals trace_state
  · rw [Bool.not_eq_true] at hz2
    repeat' first | ((with_reducible (first | refine condD ?_ ?_ | refine condE ?_ ?_ | refine condN ?_ ?_ | refine condI ?_ ?_ | refine condS ?_ ?_)) <;> intro h) | ((with_reducible (first | refine guardD (by with_unfolding_all rfl) ?_ ?_ | refine guardE (by with_unfolding_all rfl) ?_ ?_ | refine guardN (by with_unfolding_all rfl) ?_ ?_ | refine guardI (by with_unfolding_all rfl) ?_ ?_ | refine guardS (by with_unfolding_all rfl) ?_ ?_)) <;> intro h) | ((refine turnGb (by with_unfolding_all rfl) he ?_)) | ((refine callG_flat hm (.val _) ?_)) | (with_reducible refine And.intro ?_ ?_; omega) | (simp only [Z0,Z1,Z2,Z3,Z4,Z5,Z6,Z7,Z8,Z9,Za,Zb,Zc,Zd,Ze,Zf,List.cons.injEq,Zg,Zh,Zi,Zj,Zk,Zl,Zm,Zn,Zo,Zp,beq_self_eq_true,bne_self_eq_false,decide_true,decide_false,Zq,Zr,Zs,Zt,Zu,Zv,Zw,Zx,Zy,Zz,Y0,Y1,Y2,Y3,Y4,Y5,Y6,Y7,Y8,Y9,Ya,Yb,Yc,Yd,Ye,Yf,Yg,Yh,Yi,Yj,Yk,Yl,lk,ef,Ym,Yn,Yo,Yp,Yq,Yr,Ys,Yt,Yu,Yv,Yw,Yx,Yy,Yz,X0,X1,X2,X3,X4,X5,X6,X7,X8,X9,Xa,Xb,Xc,Xd,Xe,Xf,Xg,Xh,Xi,Xj,Xk,hv,Xl,ev,Xm,Xn,Xo,Xp,Xq,Xr,Xs,Xt,Xu,Xv,Xw,Xx,Xy,Xz,W0,W1,W2,W3,W4,W5,W6,W7,W8,W9,Wa,Wb,Wc,Wd,We,Wf,Wg,Wh,Wi,Value.oneCell',Wj,Wk,Wl,Wm,true_and,and_true,and_self,implies_true,Wn,Wo,Wp,Wq,false_implies,Wr,Ws,Wt,Wu,Wv,Ww,Wx,Wy,Wz,V0,V1,V2,V3,V4,V5,V6,V7,reduceCtorEq,if_true,if_false,V8,↓reduceIte,V9,Va,Vb,Vc,Vd,Ve,ne_eq,not_false_eq_true,not_true_eq_false,Vf,Vg,r23_0,r23_1,r23_2,r23_3,r23_4,r23_5,r23_6,r23_7,r23_8,r23_9,r23_10,r23_11,r23_12,r23_13,r23_14,r23_15,r23_16,r23_17,r23_18,r23_19,r23_20,r23_21,r23_22,r23_23,r23_24,r23_25,r23_26,r23_27,r23_28,r23_29,r23_30,r23_31,r23_32,r23_33,r23_34,r23_35,r23_36,r23_37,r23_38,r23_39,r23_40,r23_41,r23_42,r23_43,r23_44,r23_45,r23_46,r23_47,r23_48,r23_49,r23_50,r23_51,r23_52,p23,l23_3,hz2,List.length_map]) | (exfalso; omega)
    refine loopS (fun k : Nat => mk [(2, .box [.val (.int .i64 0), .nilsl]), (6, .box [.val (.int .i64 n), .nilsl]), (7, .val (.int .i64 (tmF l k))), (10, .own 69 5 ((rowS l l.length l.length l.length l.length k).map Smp.av)), (161, .val (.int .i64 l.length)), (162, .val (.int .i64 k))]) (fun k => k ≤ l.length) (fun k => l.length - k) 0 (weak_mk ?_) (Nat.zero_le _) ?_
    · simp only [Vh,Vi,Vj,Vk,Vl,Vm,Z0,Z1,Z2,Z3,Z4,Z5,Z6,Z7,Z8,Z9,Za,Zb,Zc,Zd,Ze,Zf,List.cons.injEq,Zg,Zh,Zi,Zj,Zk,Zl,Zm,Zn,Zo,Zp,beq_self_eq_true,bne_self_eq_false,decide_true,decide_false,Zq,Zr,Zs,Zt,Zu,Zv,Zw,Zx,Zy,Zz,Y0,Y1,Y2,Y3,Y4,Y5,Y6,Y7,Y8,Y9,Ya,Yb,Yc,Yd,Ye,Yf,Yg,Yh,Yi,Yj,Yk,Yl,lk,ef,Ym,Yn,Yo,Yp,Yq,Yr,Ys,Yt,Yu,Yv,Yw,Yx,Yy,Yz,X0,X1,X2,X3,X4,X5,X6,X7,X8,X9,Xa,Xb,Xc,Xd,Xe,Xf,Xg,Xh,Xi,Xj,Xk,hv,Xl,ev,Xm,Xn,Xo,Xp,Xq,Xr,Xs,Xt,Xu,Xv,Xw,Xx,Xy,Xz,W0,W1,W2,W3,W4,W5,W6,W7,W8,W9,Wa,Wb,Wc,Wd,We,Wf,Wg,Wh,Wi,Value.oneCell',Wj,Wk,Wl,Wm,true_and,and_true,and_self,implies_true,Wn,Wo,Wp,Wq,false_implies,Wr,Ws,Wt,Wu,Wv,Ww,Wx,Wy,Wz,V0,V1,V2,V3,V4,V5,V6,V7,reduceCtorEq,if_true,if_false,V8,↓reduceIte,V9,Va,Vb,Vc,Vd,Ve,ne_eq,not_false_eq_true,not_true_eq_false,Vf,Nat.zero_ne_one]
      all_goals first | done | (simp [pS_0, pH_0, pZ_0, pK_0, rowS_len, tmF]; done)
    rintro J hJ k hk
    simp only [Z0,Z1,Z2,Z3,Z4,Z5,Z6,Z7,Z8,Z9,Za,Zb,Zc,Zd,Ze,Zf,List.cons.injEq,Zg,Zh,Zi,Zj,Zk,Zl,Zm,Zn,Zo,Zp,beq_self_eq_true,bne_self_eq_false,decide_true,decide_false,Zq,Zr,Zs,Zt,Zu,Zv,Zw,Zx,Zy,Zz,Y0,Y1,Y2,Y3,Y4,Y5,Y6,Y7,Y8,Y9,Ya,Yb,Yc,Yd,Ye,Yf,Yg,Yh,Yi,Yj,Yk,Yl,lk,ef,Ym,Yn,Yo,Yp,Yq,Yr,Ys,Yt,Yu,Yv,Yw,Yx,Yy,Yz,X0,X1,X2,X3,X4,X5,X6,X7,X8,X9,Xa,Xb,Xc,Xd,Xe,Xf,Xg,Xh,Xi,Xj,Xk,hv,Xl,ev,Xm,Xn,Xo,Xp,Xq,Xr,Xs,Xt,Xu,Xv,Xw,Xx,Xy,Xz,W0,W1,W2,W3,W4,W5,W6,W7,W8,W9,Wa,Wb,Wc,Wd,We,Wf,Wg,Wh,Wi,Value.oneCell',Wj,Wk,Wl,Wm,true_and,and_true,and_self,implies_true,Wn,Wo,Wp,Wq,false_implies,Wr,Ws,Wt,Wu,Wv,Ww,Wx,Wy,Wz,V0,V1,V2,V3,V4,V5,V6,V7,reduceCtorEq,if_true,if_false,V8,↓reduceIte,V9,Va,Vb,Vc,Vd,Ve,ne_eq,not_false_eq_true,not_true_eq_false,Vf,Vg,r23_0,r23_1,r23_2,r23_3,r23_4,r23_5,r23_6,r23_7,r23_8,r23_9,r23_10,r23_11,r23_12,r23_13,r23_14,r23_15,r23_16,r23_17,r23_18,r23_19,r23_20,r23_21,r23_22,r23_23,r23_24,r23_25,r23_26,r23_27,r23_28,r23_29,r23_30,r23_31,r23_32,r23_33,r23_34,r23_35,r23_36,r23_37,r23_38,r23_39,r23_40,r23_41,r23_42,r23_43,r23_44,r23_45,r23_46,r23_47,r23_48,r23_49,r23_50,r23_51,r23_52,p23,l23_4]
    refine condD (fun h => ?_) (fun h => ?_)
    · have hlt' : k < l.length := by omega
      have hlt : k < l.length := by omega
      have hlt0 : 0 < l.length := by omega
      have hw := i_add1 k (by omega)
      have hki : (k : Int) < l.length := by omega
      have bs := badSmp_bd (hbd l[k] (List.getElem_mem hlt))
      have hrl : ((rowS l l.length l.length l.length l.length k).map Smp.av).length = l.length := by rw [List.length_map, rowS_len]
      have gR := rowS_get (a := l.length) (b := l.length) (c := l.length) (d := l.length) (e := k) hlt
      simp only [Nat.lt_irrefl, Nat.not_lt_zero, if_false, if_true, hlt, Smp.av] at gR
      have hset := rowS_set (a := l.length) (b := l.length) (c := l.length) (d := l.length) (e := k) (a' := l.length) (b' := l.length) (c' := l.length) (d' := l.length) (e' := k + 1) hlt ⟨l[k].time, l[k].step, l[k].shift, l[k].size, l[k].key⟩ (by simp [hlt]) (fun i hi => ⟨by omega, by omega, by omega, by omega, by omega⟩)
      simp only [Smp.av] at hset
      have gN := rowS_get (a := l.length) (b := l.length) (c := l.length) (d := l.length) (e := k + 1) hlt
      simp only [Nat.lt_irrefl, Nat.lt_succ_self, Nat.not_lt_zero, if_false, if_true, hlt, Smp.av] at gN
      have hrl2 : ((rowS l l.length l.length l.length l.length (k + 1)).map Smp.av).length = l.length := by rw [List.length_map, rowS_len]
      have ht := tmF_at htm hlt
      have hn := tmF_succ hlt
      have hw2 : IntKind.i64.wrap (l[k].time + l[k].step) = tmF l (k + 1) := by rw [hn]; exact wrap_in (by omega) (by omega)
      repeat' first | ((with_reducible (first | refine condD ?_ ?_ | refine condE ?_ ?_ | refine condN ?_ ?_ | refine condI ?_ ?_ | refine condS ?_ ?_)) <;> intro h) | ((with_reducible (first | refine guardD (by with_unfolding_all rfl) ?_ ?_ | refine guardE (by with_unfolding_all rfl) ?_ ?_ | refine guardN (by with_unfolding_all rfl) ?_ ?_ | refine guardI (by with_unfolding_all rfl) ?_ ?_ | refine guardS (by with_unfolding_all rfl) ?_ ?_)) <;> intro h) | (with_reducible refine And.intro ?_ ?_; omega) | (simp only [Z0,Z1,Z2,Z3,Z4,Z5,Z6,Z7,Z8,Z9,Za,Zb,Zc,Zd,Ze,Zf,List.cons.injEq,Zg,Zh,Zi,Zj,Zk,Zl,Zm,Zn,Zo,Zp,beq_self_eq_true,bne_self_eq_false,decide_true,decide_false,Zq,Zr,Zs,Zt,Zu,Zv,Zw,Zx,Zy,Zz,Y0,Y1,Y2,Y3,Y4,Y5,Y6,Y7,Y8,Y9,Ya,Yb,Yc,Yd,Ye,Yf,Yg,Yh,Yi,Yj,Yk,Yl,lk,ef,Ym,Yn,Yo,Yp,Yq,Yr,Ys,Yt,Yu,Yv,Yw,Yx,Yy,Yz,X0,X1,X2,X3,X4,X5,X6,X7,X8,X9,Xa,Xb,Xc,Xd,Xe,Xf,Xg,Xh,Xi,Xj,Xk,hv,Xl,ev,Xm,Xn,Xo,Xp,Xq,Xr,Xs,Xt,Xu,Xv,Xw,Xx,Xy,Xz,W0,W1,W2,W3,W4,W5,W6,W7,W8,W9,Wa,Wb,Wc,Wd,We,Wf,Wg,Wh,Wi,Value.oneCell',Wj,Wk,Wl,Wm,true_and,and_true,and_self,implies_true,Wn,Wo,Wp,Wq,false_implies,Wr,Ws,Wt,Wu,Wv,Ww,Wx,Wy,Wz,V0,V1,V2,V3,V4,V5,V6,V7,reduceCtorEq,if_true,if_false,V8,↓reduceIte,V9,Va,Vb,Vc,Vd,Ve,ne_eq,not_false_eq_true,not_true_eq_false,Vf,Vg,r23_0,r23_1,r23_2,r23_3,r23_4,r23_5,r23_6,r23_7,r23_8,r23_9,r23_10,r23_11,r23_12,r23_13,r23_14,r23_15,r23_16,r23_17,r23_18,r23_19,r23_20,r23_21,r23_22,r23_23,r23_24,r23_25,r23_26,r23_27,r23_28,r23_29,r23_30,r23_31,r23_32,r23_33,r23_34,r23_35,r23_36,r23_37,r23_38,r23_39,r23_40,r23_41,r23_42,r23_43,r23_44,r23_45,r23_46,r23_47,r23_48,r23_49,r23_50,r23_51,r23_52,p23,l23_4,ht,hw2,gR,gN,hrl,hrl2,hset,hw,hki,Zt,V0,List.set_cons_succ]) | (exfalso; omega)
      all_goals first | omega | exact again hJ (k + 1) (weak_mk (by simp only [Vh,Vi,Vj,Vk,Vl,Vm,Z0,Z1,Z2,Z3,Z4,Z5,Z6,Z7,Z8,Z9,Za,Zb,Zc,Zd,Ze,Zf,List.cons.injEq,Zg,Zh,Zi,Zj,Zk,Zl,Zm,Zn,Zo,Zp,beq_self_eq_true,bne_self_eq_false,decide_true,decide_false,Zq,Zr,Zs,Zt,Zu,Zv,Zw,Zx,Zy,Zz,Y0,Y1,Y2,Y3,Y4,Y5,Y6,Y7,Y8,Y9,Ya,Yb,Yc,Yd,Ye,Yf,Yg,Yh,Yi,Yj,Yk,Yl,lk,ef,Ym,Yn,Yo,Yp,Yq,Yr,Ys,Yt,Yu,Yv,Yw,Yx,Yy,Yz,X0,X1,X2,X3,X4,X5,X6,X7,X8,X9,Xa,Xb,Xc,Xd,Xe,Xf,Xg,Xh,Xi,Xj,Xk,hv,Xl,ev,Xm,Xn,Xo,Xp,Xq,Xr,Xs,Xt,Xu,Xv,Xw,Xx,Xy,Xz,W0,W1,W2,W3,W4,W5,W6,W7,W8,W9,Wa,Wb,Wc,Wd,We,Wf,Wg,Wh,Wi,Value.oneCell',Wj,Wk,Wl,Wm,true_and,and_true,and_self,implies_true,Wn,Wo,Wp,Wq,false_implies,Wr,Ws,Wt,Wu,Wv,Ww,Wx,Wy,Wz,V0,V1,V2,V3,V4,V5,V6,V7,reduceCtorEq,if_true,if_false,V8,↓reduceIte,V9,Va,Vb,Vc,Vd,Ve,ne_eq,not_false_eq_true,not_true_eq_false,Vf,Nat.zero_ne_one]; all_goals first | done | rfl | trace_state)) (by omega) (by omega) | trace_state
    have hke : k = l.length := by omega
    subst hke
    clear hJ h
    rw [rowS_all]
    repeat' first | ((with_reducible (first | refine condD ?_ ?_ | refine condE ?_ ?_ | refine condN ?_ ?_ | refine condI ?_ ?_ | refine condS ?_ ?_)) <;> intro h) | ((with_reducible (first | refine guardD (by with_unfolding_all rfl) ?_ ?_ | refine guardE (by with_unfolding_all rfl) ?_ ?_ | refine guardN (by with_unfolding_all rfl) ?_ ?_ | refine guardI (by with_unfolding_all rfl) ?_ ?_ | refine guardS (by with_unfolding_all rfl) ?_ ?_)) <;> intro h) | ((refine callG_flat hs (.val _) ?_)) | ((refine opwG (weak_mk (l := [(2, .box [.val (.int .i64 0), .nilsl]), (6, .box [.val (.int .i64 n), .nilsl]), (10, .ro (l.map Smp.av))]) (by simp only [Vh,Vi,Vj,Vk,Vl,Vm,Z0,Z1,Z2,Z3,Z4,Z5,Z6,Z7,Z8,Z9,Za,Zb,Zc,Zd,Ze,Zf,List.cons.injEq,Zg,Zh,Zi,Zj,Zk,Zl,Zm,Zn,Zo,Zp,beq_self_eq_true,bne_self_eq_false,decide_true,decide_false,Zq,Zr,Zs,Zt,Zu,Zv,Zw,Zx,Zy,Zz,Y0,Y1,Y2,Y3,Y4,Y5,Y6,Y7,Y8,Y9,Ya,Yb,Yc,Yd,Ye,Yf,Yg,Yh,Yi,Yj,Yk,Yl,lk,ef,Ym,Yn,Yo,Yp,Yq,Yr,Ys,Yt,Yu,Yv,Yw,Yx,Yy,Yz,X0,X1,X2,X3,X4,X5,X6,X7,X8,X9,Xa,Xb,Xc,Xd,Xe,Xf,Xg,Xh,Xi,Xj,Xk,hv,Xl,ev,Xm,Xn,Xo,Xp,Xq,Xr,Xs,Xt,Xu,Xv,Xw,Xx,Xy,Xz,W0,W1,W2,W3,W4,W5,W6,W7,W8,W9,Wa,Wb,Wc,Wd,We,Wf,Wg,Wh,Wi,Value.oneCell',Wj,Wk,Wl,Wm,true_and,and_true,and_self,implies_true,Wn,Wo,Wp,Wq,false_implies,Wr,Ws,Wt,Wu,Wv,Ww,Wx,Wy,Wz,V0,V1,V2,V3,V4,V5,V6,V7,reduceCtorEq,if_true,if_false,V8,↓reduceIte,V9,Va,Vb,Vc,Vd,Ve,ne_eq,not_false_eq_true,not_true_eq_false,Vf,Nat.zero_ne_one])) ?_)) | (with_reducible refine And.intro ?_ ?_; omega) | (simp only [Z0,Z1,Z2,Z3,Z4,Z5,Z6,Z7,Z8,Z9,Za,Zb,Zc,Zd,Ze,Zf,List.cons.injEq,Zg,Zh,Zi,Zj,Zk,Zl,Zm,Zn,Zo,Zp,beq_self_eq_true,bne_self_eq_false,decide_true,decide_false,Zq,Zr,Zs,Zt,Zu,Zv,Zw,Zx,Zy,Zz,Y0,Y1,Y2,Y3,Y4,Y5,Y6,Y7,Y8,Y9,Ya,Yb,Yc,Yd,Ye,Yf,Yg,Yh,Yi,Yj,Yk,Yl,lk,ef,Ym,Yn,Yo,Yp,Yq,Yr,Ys,Yt,Yu,Yv,Yw,Yx,Yy,Yz,X0,X1,X2,X3,X4,X5,X6,X7,X8,X9,Xa,Xb,Xc,Xd,Xe,Xf,Xg,Xh,Xi,Xj,Xk,hv,Xl,ev,Xm,Xn,Xo,Xp,Xq,Xr,Xs,Xt,Xu,Xv,Xw,Xx,Xy,Xz,W0,W1,W2,W3,W4,W5,W6,W7,W8,W9,Wa,Wb,Wc,Wd,We,Wf,Wg,Wh,Wi,Value.oneCell',Wj,Wk,Wl,Wm,true_and,and_true,and_self,implies_true,Wn,Wo,Wp,Wq,false_implies,Wr,Ws,Wt,Wu,Wv,Ww,Wx,Wy,Wz,V0,V1,V2,V3,V4,V5,V6,V7,reduceCtorEq,if_true,if_false,V8,↓reduceIte,V9,Va,Vb,Vc,Vd,Ve,ne_eq,not_false_eq_true,not_true_eq_false,Vf,Vg,r23_0,r23_1,r23_2,r23_3,r23_4,r23_5,r23_6,r23_7,r23_8,r23_9,r23_10,r23_11,r23_12,r23_13,r23_14,r23_15,r23_16,r23_17,r23_18,r23_19,r23_20,r23_21,r23_22,r23_23,r23_24,r23_25,r23_26,r23_27,r23_28,r23_29,r23_30,r23_31,r23_32,r23_33,r23_34,r23_35,r23_36,r23_37,r23_38,r23_39,r23_40,r23_41,r23_42,r23_43,r23_44,r23_45,r23_46,r23_47,r23_48,r23_49,r23_50,r23_51,r23_52,p23,l23_4]) | (exfalso; omega)
    all_goals trace_state
end Go.Proofs.Ytpecmhdepggnoaa
