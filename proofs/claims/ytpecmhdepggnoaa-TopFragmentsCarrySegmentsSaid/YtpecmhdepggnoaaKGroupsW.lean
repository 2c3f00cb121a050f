/- The groups of samples: sample.groups, Groups, by the machine on data. -/
import Derived.Test.YtpecmhdepggnoaaKNeed
namespace Go.Proofs.Ytpecmhdepggnoaa
open Go.RowKit
open Go.Proofs.Ytpecmhdepggnoaa renaming done_eq → Z0, done_eq' → Z1, donet_eq → Z2, donet_eq' → Z3, fin_val → Z4, fin_tup → Z5, fin_agg → Z6, fin_ro → Z7, res_one → Z8, res_more → Z9, rv_t → Za, rv_c → Zb, rv_l → Zc, int_eq → Zg, bool_eq → Zh, toNat_pred → Zr, toNat_succ → Zs, cnd_t → Zu, cnd_f → Zv, grd_tt → Zw, grd_u → Zx, grd_tf → Zy, grd_ft → Zz, grd_ff → Y0, g_skip → Y1, g_ops → Y2, g_seq → Y3, g_block → Y4, g_exit → Y5, g_ret → Y6, x_c → Y7, x_o → Y8, x_l → Y9, x_b → Ya, g_b → Yb, g_nil → Yc, r_all → Yd, o_nil → Ye, g_cond → Yf, o_guard → Yg, o_call → Yh, o_mv → Yi, o_pick → Yj, o_bin → Yk, o_un → Yl, o_load → Ym, o_loads → Yn, o_fld → Yo, o_idx → Yp, o_len → Yq, o_slc → Yr, o_build → Ys, o_minmax → Yt, o_alloc → Yu, o_row → Yv, o_asg → Yw, o_app → Yx, o_store → Yy, o_stores → Yz, eqAV → X0, view_t → X1, view_c → X2, view_nil → X3, view_fn → X4, look_own → X5, look_box → X6, look_junk → X7, look_val → X8, look_nilsl → X9, look_ro → Xa, look_roAt → Xb, look_agg → Xc, look_tup → Xd, look_clo → Xe, look_alias → Xf, look_ref → Xg, look_into → Xh, rowOf → Xi, cellsOf → Xj, argv → Xk, vbin → Xl, vun → Xm, bnd → Xn, elemOf → Xo, putParts → Xp, setAt → Xq, zav → Xr, put_at → Xy, mk_at → Xz, mk_nil → W0, initSt → W1, wk_cons → Ww, wk_nil → Wx, wk1 → Wy, vint_eq → Wz, vbool_eq → V0
open Go.Proofs.Ytpecmhdepggnoaa.AV.tup renaming injEq → Zd
open Go.Proofs.Ytpecmhdepggnoaa.AV.agg renaming injEq → Ze
open Go.Proofs.Ytpecmhdepggnoaa.AV.ro renaming injEq → Zf
open _root_.Int renaming toNat_natCast → Zi, reduceToNat → Zj, toNat_zero → Zk, toNat_one → Zl, reduceLE → Zm, reduceLT → Zn, reduceBEq → Zo, reduceBNe → Zp, reduceNeg → Zq
open _root_.List renaming length_map → Zt, map_cons → W2, map_nil → W3, forall_mem_cons → W4, not_mem_nil → W5, length_cons → W6, length_nil → W7, getD_cons_zero → W8, getD_cons_succ → W9, getD_nil → Wa, drop_succ_cons → Wb, drop_zero → Wc, take_succ_cons → Wd, take_zero → We, set_cons_zero → Wf, set_cons_succ → Wg, all_cons → Wh, all_nil → Wi
open Go.Proofs.Ytpecmhdepggnoaa.ASt renaming rid → Xs, free → Xt
open Go.Proofs.Ytpecmhdepggnoaa.AV renaming kill → Xu, isHome → Xv, noLoan → Xw, cellOK → Xx
open _root_.Bool renaming and_true → Wj, true_and → Wk, not_true → Wl, not_false → Wm, false_eq_true → Wn
open _root_.Nat renaming reduceEqDiff → Wo, reduceAdd → Wp, reduceSub → Wq, reduceMul → Wr, reduceLeDiff → Ws, reduceLT → Wt, one_ne_zero → Wu, zero_ne_one → Wv
open Go.Proofs.Ytpecmhdepggnoaa.AV.val renaming injEq → V1
set_option linter.unusedSimpArgs false

structure Grp where
  frm : Nat
  to : Nat
  key : Bool
  closed : Bool
  beg : Int
  fin : Int
def Grp.av (g : Grp) : List AV := [.val (.int .i64 g.frm), .val (.int .i64 g.to), .val (.bool g.key), .val (.bool g.closed), .val (.int .i64 g.beg), .val (.int .i64 g.fin)]
/-- How many come ahead of the next Key. -/
def nk : List Smp → Nat
  | [] => 0
  | s :: r => if s.key then 0 else nk r + 1
theorem nk_le : ∀ l, nk l ≤ l.length
  | [] => Nat.le_refl _
  | s :: r => by
    have := nk_le r
    unfold nk
    split <;> simp
    omega
/-- Where the group that begins at f ends. -/
def toOf (l : List Smp) (f : Nat) : Nat := f + 1 + nk (l.drop (f + 1))
theorem toOf_bd {l : List Smp} {f : Nat} (h : f < l.length) : f + 1 ≤ toOf l f ∧ toOf l f ≤ l.length := by
  have := nk_le (l.drop (f + 1))
  rw [List.length_drop] at this
  unfold toOf; omega
def lastK (P : List Int) (f : Nat) : Int := if f = 0 then 0 else Go.Lib.maxOf (P.take f)
def sub (P : List Int) (f t : Nat) : List Int := (P.take t).drop f
def closedB (P : List Int) (k : Bool) (f t : Nat) : Bool :=
  k && (Go.Lib.minOf (sub P f t) == P.getD f 0) && !((sub P (f + 1) t).contains (Go.Lib.minOf (sub P f t))) && (decide (f = 0) || decide (lastK P f < Go.Lib.minOf (sub P f t)))
def grpAt (l : List Smp) (f : Nat) : Grp :=
  ⟨f, toOf l f, (l.getD f ⟨0, 0, 0, 0, false⟩).key, closedB (presL l) (l.getD f ⟨0, 0, 0, 0, false⟩).key f (toOf l f), Go.Lib.minOf (sub (presL l) f (toOf l f)), Go.Lib.maxOf (sub (endsL l) f (toOf l f))⟩
def groupsGo (l : List Smp) : Nat → Nat → List Grp
  | 0, _ => []
  | u + 1, f => if f < l.length then grpAt l f :: groupsGo l u (toOf l f) else []
def groupsL (l : List Smp) : List Grp := groupsGo l l.length 0
theorem sub_ne {P : List Int} {f t : Nat} (h : f < t) (ht : t ≤ P.length) : sub P f t ≠ [] := by
  intro e
  have := congrArg List.length e
  unfold sub at this
  rw [List.length_drop, List.length_take, List.length_nil] at this
  omega
theorem sub_mem {P : List Int} {f t : Nat} {x : Int} (h : x ∈ sub P f t) : ∃ i, ∃ (hi : i < P.length), f ≤ i ∧ i < t ∧ x = P[i] := by
  obtain ⟨j, hj, rfl⟩ := List.getElem_of_mem h
  unfold sub at hj ⊢
  rw [List.length_drop, List.length_take] at hj
  refine ⟨f + j, by omega, by omega, by omega, ?_⟩
  rw [List.getElem_drop, List.getElem_take]
theorem mem_sub {P : List Int} {f t i : Nat} (hi : i < P.length) (h1 : f ≤ i) (h2 : i < t) : P[i] ∈ sub P f t := by
  unfold sub
  have hj : i - f < ((P.take t).drop f).length := by rw [List.length_drop, List.length_take]; omega
  have : ((P.take t).drop f)[i - f] = P[i] := by
    rw [List.getElem_drop, List.getElem_take]; congr 1; omega
  rw [← this]; exact List.getElem_mem _
theorem sub_all {P : List Int} {f t : Nat} {x : Int} (h : x ∈ sub P f t) : x ∈ P := List.mem_of_mem_take (List.mem_of_mem_drop h)
theorem lastK_step {P : List Int} {f t : Nat} (h : f < t) (ht : t ≤ P.length) (hf : 0 < f) :
    lastK P t = if lastK P f < Go.Lib.maxOf (sub P f t) then Go.Lib.maxOf (sub P f t) else lastK P f := by
  have n1 : P.take t ≠ [] := fun e => by have := congrArg List.length e; rw [List.length_take, List.length_nil] at this; omega
  have n2 : P.take f ≠ [] := fun e => by have := congrArg List.length e; rw [List.length_take, List.length_nil] at this; omega
  have e1 : lastK P t = Go.Lib.maxOf (P.take t) := if_neg (by omega)
  have e2 : lastK P f = Go.Lib.maxOf (P.take f) := if_neg (by omega)
  obtain ⟨a1, a2⟩ := maxOf_is n1
  obtain ⟨b1, b2⟩ := maxOf_is n2
  obtain ⟨c1, c2⟩ := maxOf_is (sub_ne h ht)
  rw [e1, e2]
  have h1 : Go.Lib.maxOf (P.take f) ≤ Go.Lib.maxOf (P.take t) := by
    apply a2
    obtain ⟨i, hi, e⟩ := List.getElem_of_mem b1
    rw [← e, List.getElem_take]
    rw [List.length_take] at hi
    exact List.mem_take_iff_getElem.2 ⟨i, by omega, rfl⟩
  have h2 : Go.Lib.maxOf (sub P f t) ≤ Go.Lib.maxOf (P.take t) := a2 _ (List.mem_of_mem_drop c1)
  have h3 : Go.Lib.maxOf (P.take t) ≤ Go.Lib.maxOf (P.take f) ∨ Go.Lib.maxOf (P.take t) ≤ Go.Lib.maxOf (sub P f t) := by
    obtain ⟨i, hi, e⟩ := List.getElem_of_mem a1
    rw [List.length_take] at hi
    rw [List.getElem_take] at e
    by_cases q : i < f
    · left; rw [← e]; exact b2 _ (List.mem_take_iff_getElem.2 ⟨i, by omega, rfl⟩)
    · right; rw [← e]; exact c2 _ (mem_sub (by omega) (by omega) (by omega))
  split <;> omega
theorem lastK_first {P : List Int} {t : Nat} (h : 0 < t) (ht : t ≤ P.length) :
    lastK P t = if P.getD 0 0 < Go.Lib.maxOf (sub P 0 t) then Go.Lib.maxOf (sub P 0 t) else P.getD 0 0 := by
  have e1 : lastK P t = Go.Lib.maxOf (P.take t) := if_neg (by omega)
  have e2 : sub P 0 t = P.take t := by unfold sub; rw [List.drop_zero]
  rw [e1, e2, getD_in (show 0 < P.length by omega)]
  have n1 : P.take t ≠ [] := fun e => by have := congrArg List.length e; rw [List.length_take, List.length_nil] at this; omega
  have := (maxOf_is n1).2 P[0] (List.mem_take_iff_getElem.2 ⟨0, by omega, rfl⟩)
  split <;> omega
theorem grps_len (l : List Grp) : (∀ x ∈ l.map Grp.av, x.length = 6) = True := by
  refine eq_true fun x hx => ?_
  obtain ⟨n, _, rfl⟩ := List.mem_map.1 hx
  rfl
/-! headend/sample.groups -/
def r115_0 : List POp := [⟨2, .asg .nil, none⟩]
def r115_1 : List POp := [⟨10, .mv (.t 0), none⟩,
  ⟨11, .call 42 [.t 10], none⟩,
  ⟨12, .mv (.t 0), none⟩,
  ⟨13, .call 43 [.t 12], none⟩,
  ⟨3, .asg (.t 11), none⟩,
  ⟨4, .asg (.t 13), none⟩]
def r115_2 : List POp := [⟨5, .asg .nil, none⟩]
def r115_3 : List POp := [⟨6, .asg (.c (.int .i64 0)), none⟩]
def r115_4 : List POp := [⟨7, .asg (.c (.int .i64 0)), none⟩]
def r115_5 : List POp := [⟨14, .mv (.t 7), none⟩,
  ⟨15, .mv (.t 0), none⟩,
  ⟨16, .len (.t 15), none⟩,
  ⟨17, .bin .lss (.t 14) (.t 16), none⟩]
def r115_6 : List POp := [⟨18, .mv (.t 7), none⟩,
  ⟨19, .bin .add (.t 18) (.c (.int .i64 1)), none⟩,
  ⟨8, .asg (.t 19), none⟩]
def r115_7 : List POp := [⟨20, .mv (.t 8), none⟩,
  ⟨21, .mv (.t 0), none⟩,
  ⟨22, .len (.t 21), none⟩,
  ⟨23, .bin .lss (.t 20) (.t 22), none⟩,
  ⟨24, .mv (.t 23), none⟩,
  ⟨25, .mv (.t 0), some (24, true)⟩,
  ⟨26, .mv (.t 8), some (24, true)⟩,
  ⟨27, .idx 5 (.t 25) (.t 26), some (24, true)⟩,
  ⟨28, .fld 4 (.t 27), some (24, true)⟩,
  ⟨29, .load (.t 28), some (24, true)⟩,
  ⟨30, .un .not (.t 29), some (24, true)⟩,
  ⟨31, .pick (.t 24) (.t 30) (.c (.bool false)), none⟩]
def r115_8 : List POp := [⟨32, .mv (.t 8), none⟩,
  ⟨33, .bin .add (.t 32) (.c (.int .i64 1)), none⟩,
  ⟨8, .asg (.t 33), none⟩]
def r115_9 : List POp := [⟨34, .mv (.t 7), none⟩,
  ⟨35, .mv (.t 8), none⟩,
  ⟨36, .mv (.t 0), none⟩,
  ⟨37, .mv (.t 7), none⟩,
  ⟨38, .idx 5 (.t 36) (.t 37), none⟩,
  ⟨39, .fld 4 (.t 38), none⟩,
  ⟨40, .load (.t 39), none⟩,
  ⟨41, .mv (.t 3), none⟩,
  ⟨42, .mv (.t 7), none⟩,
  ⟨43, .mv (.t 8), none⟩,
  ⟨44, .slc (some (.t 42)) (some (.t 43)) 1 (.t 41), none⟩,
  ⟨45, .call 19 [.t 44], none⟩,
  ⟨46, .mv (.t 4), none⟩,
  ⟨47, .mv (.t 7), none⟩,
  ⟨48, .mv (.t 8), none⟩,
  ⟨49, .slc (some (.t 47)) (some (.t 48)) 1 (.t 46), none⟩,
  ⟨50, .call 74 [.t 49], none⟩,
  ⟨51, .build [.int .i64 0, .int .i64 0, .bool false, .bool false, .int .i64 0, .int .i64 0] [(0, 1, .t 34), (1, 1, .t 35), (2, 1, .t 40), (4, 1, .t 45), (5, 1, .t 50)], none⟩,
  ⟨9, .alloc [.int .i64 0, .int .i64 0, .bool false, .bool false, .int .i64 0, .int .i64 0], none⟩,
  ⟨0, .stores 6 (.t 9) (.t 51), none⟩]
def r115_10 : List POp := [⟨52, .fld 2 (.t 9), none⟩,
  ⟨53, .load (.t 52), none⟩,
  ⟨54, .mv (.t 53), none⟩,
  ⟨55, .fld 4 (.t 9), some (54, true)⟩,
  ⟨56, .load (.t 55), some (54, true)⟩,
  ⟨57, .mv (.t 3), some (54, true)⟩,
  ⟨58, .mv (.t 7), some (54, true)⟩,
  ⟨59, .idx 1 (.t 57) (.t 58), some (54, true)⟩,
  ⟨60, .load (.t 59), some (54, true)⟩,
  ⟨61, .bin .eql (.t 56) (.t 60), some (54, true)⟩,
  ⟨62, .pick (.t 54) (.t 61) (.c (.bool false)), none⟩,
  ⟨63, .mv (.t 62), none⟩,
  ⟨64, .mv (.t 3), some (63, true)⟩,
  ⟨65, .mv (.t 7), some (63, true)⟩,
  ⟨66, .bin .add (.t 65) (.c (.int .i64 1)), some (63, true)⟩,
  ⟨67, .mv (.t 8), some (63, true)⟩,
  ⟨68, .slc (some (.t 66)) (some (.t 67)) 1 (.t 64), some (63, true)⟩,
  ⟨69, .fld 4 (.t 9), some (63, true)⟩,
  ⟨70, .load (.t 69), some (63, true)⟩,
  ⟨71, .call 119 [.t 68, .t 70], some (63, true)⟩,
  ⟨72, .un .not (.t 71), some (63, true)⟩,
  ⟨73, .pick (.t 63) (.t 72) (.c (.bool false)), none⟩,
  ⟨74, .mv (.t 73), none⟩,
  ⟨75, .mv (.t 7), some (74, true)⟩,
  ⟨76, .bin .eql (.t 75) (.c (.int .i64 0)), some (74, true)⟩,
  ⟨77, .mv (.t 76), some (74, true)⟩,
  ⟨78, .mv (.t 6), some (77, false)⟩,
  ⟨79, .fld 4 (.t 9), some (77, false)⟩,
  ⟨80, .load (.t 79), some (77, false)⟩,
  ⟨81, .bin .lss (.t 78) (.t 80), some (77, false)⟩,
  ⟨82, .pick (.t 77) (.c (.bool true)) (.t 81), some (74, true)⟩,
  ⟨83, .pick (.t 74) (.t 82) (.c (.bool false)), none⟩,
  ⟨84, .fld 3 (.t 9), none⟩,
  ⟨0, .store (.t 84) (.t 83), none⟩]
def r115_11 : List POp := [⟨85, .mv (.t 7), none⟩,
  ⟨86, .bin .eql (.t 85) (.c (.int .i64 0)), none⟩]
def r115_12 : List POp := [⟨87, .mv (.t 3), none⟩,
  ⟨88, .idx 1 (.t 87) (.c (.int .i64 0)), none⟩,
  ⟨89, .load (.t 88), none⟩,
  ⟨6, .asg (.t 89), none⟩]
def r115_13 : List POp := [⟨90, .mv (.t 6), none⟩,
  ⟨91, .mv (.t 3), none⟩,
  ⟨92, .mv (.t 7), none⟩,
  ⟨93, .mv (.t 8), none⟩,
  ⟨94, .slc (some (.t 92)) (some (.t 93)) 1 (.t 91), none⟩,
  ⟨95, .call 74 [.t 94], none⟩,
  ⟨96, .minmax true (.t 90) (.t 95), none⟩,
  ⟨6, .asg (.t 96), none⟩]
def r115_14 : List POp := [⟨97, .mv (.t 5), none⟩,
  ⟨98, .loads 6 (.t 9), none⟩,
  ⟨99, .row 188 6 [.t 98], none⟩,
  ⟨100, .app 188 6 40 (.t 97) (.t 99), none⟩,
  ⟨5, .asg (.t 100), none⟩]
def r115_15 : List POp := [⟨101, .mv (.t 8), none⟩,
  ⟨7, .asg (.t 101), none⟩]
def r115_16 : List POp := [⟨102, .mv (.t 5), none⟩,
  ⟨2, .asg (.t 102), none⟩]
def l115_1 : PCode := .seq (.seq (.ops r115_7) (.cond (.t 31) (.skip) (.exit 2))) (.block 3 (.ops r115_8))
def l115_0 : PCode := .seq (.seq (.ops r115_5) (.cond (.t 17) (.skip) (.exit 0))) (.block 1 (.seq (.ops r115_6) (.seq (.block 2 (.loop l115_1)) (.seq (.ops r115_9) (.seq (.ops r115_10) (.seq (.seq (.ops r115_11) (.cond (.t 86) (.ops r115_12) (.skip))) (.seq (.ops r115_13) (.seq (.ops r115_14) (.ops r115_15)))))))))
def p115 : PCode := .seq (.ops r115_0) (.seq (.ops r115_1) (.seq (.ops r115_2) (.seq (.ops r115_3) (.seq (.seq (.ops r115_4) (.block 0 (.loop l115_0))) (.seq (.ops r115_16) (.ret))))))
theorem ok115 : okFunc Try.prog 115 [.t 2] 1 p115 = true := by kernel_rfl
set_option maxRecDepth 20000 in
set_option maxHeartbeats 1000000 in
theorem groups_c (l : List Smp) (hl : l.length ≤ 5000) (hb : ∀ s ∈ l, badSmp s = false) : CallOK Try.prog 115 [.ro (l.map Smp.av)] (.ro ((groupsL l).map Grp.av)) := by
  refine call_of mixed ok115 rfl ?_
  have h1 := presents_c l hl hb
  have h2 := ends_c l hl hb
  have hG : ∀ f, grpAt l f = ⟨f, toOf l f, (l.getD f ⟨0, 0, 0, 0, false⟩).key, closedB (presL l) (l.getD f ⟨0, 0, 0, 0, false⟩).key f (toOf l f), Go.Lib.minOf (sub (presL l) f (toOf l f)), Go.Lib.maxOf (sub (endsL l) f (toOf l f))⟩ := fun _ => rfl
  have hPl := presL_len l
  have hEl := endsL_len l
  generalize presL l = P at *
  generalize endsL l = E at *
  repeat' first | ((with_reducible (first | refine condD ?_ ?_ | refine condE ?_ ?_ | refine condN ?_ ?_ | refine condI ?_ ?_ | refine condS ?_ ?_)) <;> intro h) | ((with_reducible (first | refine guardD (by with_unfolding_all rfl) ?_ ?_ | refine guardE (by with_unfolding_all rfl) ?_ ?_ | refine guardN (by with_unfolding_all rfl) ?_ ?_ | refine guardI (by with_unfolding_all rfl) ?_ ?_ | refine guardS (by with_unfolding_all rfl) ?_ ?_)) <;> intro h) | ((refine callG h1 ?_)) | ((refine callG h2 ?_)) | (with_reducible refine And.intro ?_ ?_; omega) | (simp only [Z0,Z1,Z2,Z3,Z4,Z5,Z6,Z7,Z8,Z9,Za,Zb,Zc,Zd,Ze,Zf,List.cons.injEq,Zg,Zh,Zi,Zj,Zk,Zl,Zm,Zn,Zo,Zp,beq_self_eq_true,bne_self_eq_false,decide_true,decide_false,Zq,Zr,Zs,Zt,Zu,Zv,Zw,Zx,Zy,Zz,Y0,Y1,Y2,Y3,Y4,Y5,Y6,Y7,Y8,Y9,Ya,Yb,Yc,Yd,Ye,Yf,Yg,Yh,lk,ef,Yi,Yj,Yk,Yl,Ym,Yn,Yo,Yp,Yq,Yr,Ys,Yt,Yu,Yv,Yw,Yx,Yy,Yz,hv,X0,ev,X1,X2,X3,X4,X5,X6,X7,X8,X9,Xa,Xb,Xc,Xd,Xe,Xf,Xg,Xh,Xi,Xj,Xk,Xl,Xm,Xn,Xo,Xp,Xq,Xr,Xs,Xt,Xu,Xv,Xw,Xx,Value.oneCell',Xy,Xz,W0,W1,true_and,and_true,and_self,implies_true,W2,W3,W4,W5,false_implies,W6,W7,W8,W9,Wa,Wb,Wc,Wd,We,Wf,Wg,Wh,Wi,Wj,Wk,Wl,Wm,reduceCtorEq,if_true,if_false,Wn,↓reduceIte,Wo,Wp,Wq,Wr,Ws,Wt,ne_eq,not_false_eq_true,not_true_eq_false,Wu,Wv,r115_0,r115_1,r115_2,r115_3,r115_4,r115_5,r115_6,r115_7,r115_8,r115_9,r115_10,r115_11,r115_12,r115_13,r115_14,r115_15,r115_16,p115]) | (exfalso; omega)
  refine loopS (fun p : List Grp × Nat => mk [(0, .ro (l.map Smp.av)), (3, .ro (P.map oneI)), (4, .ro (E.map oneI)), (5, .own 188 6 (p.1.map Grp.av)), (6, .val (.int .i64 (lastK P p.2))), (7, .val (.int .i64 p.2))]) (fun p => p.2 ≤ l.length ∧ p.1.length ≤ p.2 ∧ ∃ u, l.length ≤ p.2 + u ∧ p.1 ++ groupsGo l u p.2 = groupsL l) (fun p => l.length - p.2) ([], 0) (weak_mk ?_) ⟨Nat.zero_le _, Nat.le_refl _, l.length, by simp, rfl⟩ ?_
  · simp only [Ww,Wx,Wy,Wz,V0,V1,Z4,Z5,Z6,Z7,Z8,Z9,Za,Zb,Zc,Zd,Ze,Zf,List.cons.injEq,Zg,Zh,Zi,Zj,Zk,Zl,Zm,Zn,Zo,Zp,beq_self_eq_true,bne_self_eq_false,decide_true,decide_false,Zq,Zr,Zs,Zt,Zu,Zv,Zw,Zx,Zy,Zz,Y0,hv,X0,ev,X1,X2,X3,X4,X5,X6,X7,X8,X9,Xa,Xb,Xc,Xd,Xe,Xf,Xg,Xh,Xi,Xj,Xk,Xl,Xm,Xn,Xo,Xp,Xq,Xr,Xs,Xt,Xu,Xv,Xw,Xx,Value.oneCell',Xy,Xz,W0,W1,true_and,and_true,and_self,implies_true,W2,W3,W4,W5,false_implies,W6,W7,W8,W9,Wa,Wb,Wc,Wd,We,Wf,Wg,Wh,Wi,Wj,Wk,Wl,Wm,reduceCtorEq,if_true,if_false,Wn,↓reduceIte,Wo,Wp,Wq,Wr,Ws,Wt,ne_eq,not_false_eq_true,not_true_eq_false,Wu,Nat.zero_ne_one]
    simp [lastK]
  · rintro J hJ ⟨out, f⟩ ⟨hf, hol, u, hu, hgo⟩
    simp only at hf hol hu hgo
    simp only [Z0,Z1,Z2,Z3,Z4,Z5,Z6,Z7,Z8,Z9,Za,Zb,Zc,Zd,Ze,Zf,List.cons.injEq,Zg,Zh,Zi,Zj,Zk,Zl,Zm,Zn,Zo,Zp,beq_self_eq_true,bne_self_eq_false,decide_true,decide_false,Zq,Zr,Zs,Zt,Zu,Zv,Zw,Zx,Zy,Zz,Y0,Y1,Y2,Y3,Y4,Y5,Y6,Y7,Y8,Y9,Ya,Yb,Yc,Yd,Ye,Yf,Yg,Yh,lk,ef,Yi,Yj,Yk,Yl,Ym,Yn,Yo,Yp,Yq,Yr,Ys,Yt,Yu,Yv,Yw,Yx,Yy,Yz,hv,X0,ev,X1,X2,X3,X4,X5,X6,X7,X8,X9,Xa,Xb,Xc,Xd,Xe,Xf,Xg,Xh,Xi,Xj,Xk,Xl,Xm,Xn,Xo,Xp,Xq,Xr,Xs,Xt,Xu,Xv,Xw,Xx,Value.oneCell',Xy,Xz,W0,W1,true_and,and_true,and_self,implies_true,W2,W3,W4,W5,false_implies,W6,W7,W8,W9,Wa,Wb,Wc,Wd,We,Wf,Wg,Wh,Wi,Wj,Wk,Wl,Wm,reduceCtorEq,if_true,if_false,Wn,↓reduceIte,Wo,Wp,Wq,Wr,Ws,Wt,ne_eq,not_false_eq_true,not_true_eq_false,Wu,Wv,r115_0,r115_1,r115_2,r115_3,r115_4,r115_5,r115_6,r115_7,r115_8,r115_9,r115_10,r115_11,r115_12,r115_13,r115_14,r115_15,r115_16,p115,l115_0]
    refine condD (fun h => ?_) (fun h => ?_)
    · have hlt : f < l.length := by omega
      have hw := i_add1 f (by omega)
      obtain ⟨t1, t2⟩ := toOf_bd hlt
      have hto : toOf l f = f + 1 + nk (l.drop (f + 1)) := rfl
      have hgd : l.getD f ⟨0, 0, 0, 0, false⟩ = l[f] := by rw [List.getD_eq_getElem?_getD, List.getElem?_eq_getElem hlt]; rfl
      have hGf := hG f
      rw [hgd] at hGf
      obtain ⟨u', rfl⟩ : ∃ u', u = u' + 1 := ⟨u - 1, by omega⟩
      rw [groupsGo, if_pos hlt] at hgo
      have hinv : ∀ G, G = grpAt l f → toOf l f ≤ l.length ∧ (out ++ [G]).length ≤ toOf l f ∧ ∃ u, l.length ≤ toOf l f + u ∧ (out ++ [G]) ++ groupsGo l u (toOf l f) = groupsL l := fun G hGe => ⟨t2, by simp; omega, u', by omega, by rw [hGe]; simpa using hgo⟩
      clear hgo
      repeat' first | ((with_reducible (first | refine condD ?_ ?_ | refine condE ?_ ?_ | refine condN ?_ ?_ | refine condI ?_ ?_ | refine condS ?_ ?_)) <;> intro h) | ((with_reducible (first | refine guardD (by with_unfolding_all rfl) ?_ ?_ | refine guardE (by with_unfolding_all rfl) ?_ ?_ | refine guardN (by with_unfolding_all rfl) ?_ ?_ | refine guardI (by with_unfolding_all rfl) ?_ ?_ | refine guardS (by with_unfolding_all rfl) ?_ ?_)) <;> intro h) | (with_reducible refine And.intro ?_ ?_; omega) | (simp only [Z0,Z1,Z2,Z3,Z4,Z5,Z6,Z7,Z8,Z9,Za,Zb,Zc,Zd,Ze,Zf,List.cons.injEq,Zg,Zh,Zi,Zj,Zk,Zl,Zm,Zn,Zo,Zp,beq_self_eq_true,bne_self_eq_false,decide_true,decide_false,Zq,Zr,Zs,Zt,Zu,Zv,Zw,Zx,Zy,Zz,Y0,Y1,Y2,Y3,Y4,Y5,Y6,Y7,Y8,Y9,Ya,Yb,Yc,Yd,Ye,Yf,Yg,Yh,lk,ef,Yi,Yj,Yk,Yl,Ym,Yn,Yo,Yp,Yq,Yr,Ys,Yt,Yu,Yv,Yw,Yx,Yy,Yz,hv,X0,ev,X1,X2,X3,X4,X5,X6,X7,X8,X9,Xa,Xb,Xc,Xd,Xe,Xf,Xg,Xh,Xi,Xj,Xk,Xl,Xm,Xn,Xo,Xp,Xq,Xr,Xs,Xt,Xu,Xv,Xw,Xx,Value.oneCell',Xy,Xz,W0,W1,true_and,and_true,and_self,implies_true,W2,W3,W4,W5,false_implies,W6,W7,W8,W9,Wa,Wb,Wc,Wd,We,Wf,Wg,Wh,Wi,Wj,Wk,Wl,Wm,reduceCtorEq,if_true,if_false,Wn,↓reduceIte,Wo,Wp,Wq,Wr,Ws,Wt,ne_eq,not_false_eq_true,not_true_eq_false,Wu,Wv,r115_0,r115_1,r115_2,r115_3,r115_4,r115_5,r115_6,r115_7,r115_8,r115_9,r115_10,r115_11,r115_12,r115_13,r115_14,r115_15,r115_16,p115,l115_0,hw]) | (exfalso; omega)
      refine loopS (fun j : Nat => mk [(0, .ro (l.map Smp.av)), (3, .ro (P.map oneI)), (4, .ro (E.map oneI)), (5, .own 188 6 (out.map Grp.av)), (6, .val (.int .i64 (lastK P f))), (7, .val (.int .i64 f)), (8, .val (.int .i64 j))]) (fun j => f + 1 ≤ j ∧ j ≤ l.length ∧ toOf l f = j + nk (l.drop j)) (fun j => l.length - j) (f + 1) (weak_mk ?_) ⟨Nat.le_refl _, by omega, hto⟩ ?_
      · simp only [Ww,Wx,Wy,Wz,V0,V1,Z4,Z5,Z6,Z7,Z8,Z9,Za,Zb,Zc,Zd,Ze,Zf,List.cons.injEq,Zg,Zh,Zi,Zj,Zk,Zl,Zm,Zn,Zo,Zp,beq_self_eq_true,bne_self_eq_false,decide_true,decide_false,Zq,Zr,Zs,Zt,Zu,Zv,Zw,Zx,Zy,Zz,Y0,hv,X0,ev,X1,X2,X3,X4,X5,X6,X7,X8,X9,Xa,Xb,Xc,Xd,Xe,Xf,Xg,Xh,Xi,Xj,Xk,Xl,Xm,Xn,Xo,Xp,Xq,Xr,Xs,Xt,Xu,Xv,Xw,Xx,Value.oneCell',Xy,Xz,W0,W1,true_and,and_true,and_self,implies_true,W2,W3,W4,W5,false_implies,W6,W7,W8,W9,Wa,Wb,Wc,Wd,We,Wf,Wg,Wh,Wi,Wj,Wk,Wl,Wm,reduceCtorEq,if_true,if_false,Wn,↓reduceIte,Wo,Wp,Wq,Wr,Ws,Wt,ne_eq,not_false_eq_true,not_true_eq_false,Wu,Nat.zero_ne_one]
      · rintro J2 hJ2 j ⟨hj1, hj2, hj3⟩
        by_cases hend : j < l.length ∧ l[j]?.any (fun s => s.key) = false
        · obtain ⟨hjl, hjk⟩ := hend
          rw [List.getElem?_eq_getElem hjl, Option.any_some] at hjk
          have hwj := i_add1 j (by omega)
          have hjl' : (j : Int) < l.length := by omega
          rw [List.drop_eq_getElem_cons hjl, nk, hjk] at hj3
          simp only [Bool.false_eq_true, if_false] at hj3
          repeat' first | ((with_reducible (first | refine condD ?_ ?_ | refine condE ?_ ?_ | refine condN ?_ ?_ | refine condI ?_ ?_ | refine condS ?_ ?_)) <;> intro h) | ((with_reducible (first | refine guardD (by with_unfolding_all rfl) ?_ ?_ | refine guardE (by with_unfolding_all rfl) ?_ ?_ | refine guardN (by with_unfolding_all rfl) ?_ ?_ | refine guardI (by with_unfolding_all rfl) ?_ ?_ | refine guardS (by with_unfolding_all rfl) ?_ ?_)) <;> intro h) | (with_reducible refine And.intro ?_ ?_; omega) | (simp only [Z0,Z1,Z2,Z3,Z4,Z5,Z6,Z7,Z8,Z9,Za,Zb,Zc,Zd,Ze,Zf,List.cons.injEq,Zg,Zh,Zi,Zj,Zk,Zl,Zm,Zn,Zo,Zp,beq_self_eq_true,bne_self_eq_false,decide_true,decide_false,Zq,Zr,Zs,Zt,Zu,Zv,Zw,Zx,Zy,Zz,Y0,Y1,Y2,Y3,Y4,Y5,Y6,Y7,Y8,Y9,Ya,Yb,Yc,Yd,Ye,Yf,Yg,Yh,lk,ef,Yi,Yj,Yk,Yl,Ym,Yn,Yo,Yp,Yq,Yr,Ys,Yt,Yu,Yv,Yw,Yx,Yy,Yz,hv,X0,ev,X1,X2,X3,X4,X5,X6,X7,X8,X9,Xa,Xb,Xc,Xd,Xe,Xf,Xg,Xh,Xi,Xj,Xk,Xl,Xm,Xn,Xo,Xp,Xq,Xr,Xs,Xt,Xu,Xv,Xw,Xx,Value.oneCell',Xy,Xz,W0,W1,true_and,and_true,and_self,implies_true,W2,W3,W4,W5,false_implies,W6,W7,W8,W9,Wa,Wb,Wc,Wd,We,Wf,Wg,Wh,Wi,Wj,Wk,Wl,Wm,reduceCtorEq,if_true,if_false,Wn,↓reduceIte,Wo,Wp,Wq,Wr,Ws,Wt,ne_eq,not_false_eq_true,not_true_eq_false,Wu,Wv,r115_0,r115_1,r115_2,r115_3,r115_4,r115_5,r115_6,r115_7,r115_8,r115_9,r115_10,r115_11,r115_12,r115_13,r115_14,r115_15,r115_16,p115,l115_1,hjl',getD_map hjl,Smp.av,hjk]) | (exfalso; omega)
          all_goals exact again hJ2 (j + 1) (weak_mk (by simp only [Ww,Wx,Wy,Wz,V0,V1,Z4,Z5,Z6,Z7,Z8,Z9,Za,Zb,Zc,Zd,Ze,Zf,List.cons.injEq,Zg,Zh,Zi,Zj,Zk,Zl,Zm,Zn,Zo,Zp,beq_self_eq_true,bne_self_eq_false,decide_true,decide_false,Zq,Zr,Zs,Zt,Zu,Zv,Zw,Zx,Zy,Zz,Y0,hv,X0,ev,X1,X2,X3,X4,X5,X6,X7,X8,X9,Xa,Xb,Xc,Xd,Xe,Xf,Xg,Xh,Xi,Xj,Xk,Xl,Xm,Xn,Xo,Xp,Xq,Xr,Xs,Xt,Xu,Xv,Xw,Xx,Value.oneCell',Xy,Xz,W0,W1,true_and,and_true,and_self,implies_true,W2,W3,W4,W5,false_implies,W6,W7,W8,W9,Wa,Wb,Wc,Wd,We,Wf,Wg,Wh,Wi,Wj,Wk,Wl,Wm,reduceCtorEq,if_true,if_false,Wn,↓reduceIte,Wo,Wp,Wq,Wr,Ws,Wt,ne_eq,not_false_eq_true,not_true_eq_false,Wu,Nat.zero_ne_one]; exact hwj)) ⟨by omega, by omega, by omega⟩ (by omega)
        · have hjt : toOf l f = j := by
            by_cases hjl : j < l.length
            · rw [List.drop_eq_getElem_cons hjl, nk] at hj3
              have : l[j].key = true := by
                cases hk : l[j].key
                · exact absurd ⟨hjl, by rw [List.getElem?_eq_getElem hjl, Option.any_some]; exact hk⟩ hend
                · rfl
              rw [this] at hj3
              simpa using hj3
            · rw [List.drop_eq_nil_of_le (by omega), nk] at hj3; omega
          rw [hjt] at hinv hGf t1 t2
          clear hj3 hJ2 hto hjt
          have hs1 := sub_ne (P := P) (f := f) (t := j) (by omega) (by omega)
          have hs2 := sub_ne (P := E) (f := f) (t := j) (by omega) (by omega)
          have c1 := min_c _ hs1
          have c2 := max_c _ hs2
          have c3 := contains_c (sub P (f + 1) j) (Go.Lib.minOf (sub P f j))
          have c4 := max_c _ hs1
          have hlp : f < P.length := by omega
          have gP := getD_map (f := oneI) (d := []) hlp
          have gL := getD_map (f := Smp.av) (d := []) hlt
          have hl0 : 0 < P.length := by omega
          have gP0 := getD_map (f := oneI) (d := []) hl0
          have hst1 : 0 < f → lastK P j = if lastK P f < Go.Lib.maxOf (sub P f j) then Go.Lib.maxOf (sub P f j) else lastK P f := lastK_step (by omega) (by omega)
          have hst0 : f = 0 → lastK P j = if P[0] < Go.Lib.maxOf (sub P f j) then Go.Lib.maxOf (sub P f j) else P[0] := fun e => by
            have := lastK_first (P := P) (t := j) (by omega) (by omega)
            rw [getD_in hl0] at this
            rw [e]; exact this
          have hcB : closedB P l[f].key f j = (l[f].key && (Go.Lib.minOf (sub P f j) == P[f]) && !((sub P (f + 1) j).contains (Go.Lib.minOf (sub P f j))) && (decide (f = 0) || decide (lastK P f < Go.Lib.minOf (sub P f j)))) := by unfold closedB; rw [getD_in hlp]
          rw [hcB] at hGf
          have exitC : ∀ x : Bool, (j < l.length → l[j]? = none ∨ ∃ s, l[j]? = some s ∧ s.key = true) := fun _ hjl => by
            right
            refine ⟨l[j], List.getElem?_eq_getElem hjl, ?_⟩
            cases hk : l[j].key
            · exact absurd ⟨hjl, by rw [List.getElem?_eq_getElem hjl, Option.any_some]; exact hk⟩ hend
            · rfl
          have sub1 : (P.take j).drop f = sub P f j := rfl
          have sub2 : (E.take j).drop f = sub E f j := rfl
          have sub3 : (P.take j).drop (f + 1) = sub P (f + 1) j := rfl
          simp only [oneI] at gP gP0
          simp only [Smp.av] at gL
          clear hend hcB hG
          generalize Go.Lib.minOf (sub P f j) = B at *
          generalize Go.Lib.maxOf (sub P f j) = M at *
          generalize Go.Lib.maxOf (sub E f j) = X at *
          generalize (sub P (f + 1) j).contains B = C at *
          generalize lastK P f = LA at *
          by_cases hjl : j < l.length
          · have hjl' : (j : Int) < l.length := by omega
            have hkey : l[j].key = true := by
              rcases exitC true hjl with h | ⟨s, h, h2⟩
              · rw [List.getElem?_eq_getElem hjl] at h; cases h
              · rw [List.getElem?_eq_getElem hjl] at h; injection h with h; rw [h]; exact h2
            have gJ := getD_map (f := Smp.av) (d := []) hjl
            simp only [Smp.av, hkey] at gJ
            repeat' first | ((with_reducible (first | refine condD ?_ ?_ | refine condE ?_ ?_ | refine condN ?_ ?_ | refine condI ?_ ?_ | refine condS ?_ ?_)) <;> intro h) | ((with_reducible (first | refine guardD (by with_unfolding_all rfl) ?_ ?_ | refine guardE (by with_unfolding_all rfl) ?_ ?_ | refine guardN (by with_unfolding_all rfl) ?_ ?_ | refine guardI (by with_unfolding_all rfl) ?_ ?_ | refine guardS (by with_unfolding_all rfl) ?_ ?_)) <;> intro h) | (with_reducible refine And.intro ?_ ?_; omega) | (simp only [Z0,Z1,Z2,Z3,Z4,Z5,Z6,Z7,Z8,Z9,Za,Zb,Zc,Zd,Ze,Zf,List.cons.injEq,Zg,Zh,Zi,Zj,Zk,Zl,Zm,Zn,Zo,Zp,beq_self_eq_true,bne_self_eq_false,decide_true,decide_false,Zq,Zr,Zs,Zt,Zu,Zv,Zw,Zx,Zy,Zz,Y0,Y1,Y2,Y3,Y4,Y5,Y6,Y7,Y8,Y9,Ya,Yb,Yc,Yd,Ye,Yf,Yg,Yh,lk,ef,Yi,Yj,Yk,Yl,Ym,Yn,Yo,Yp,Yq,Yr,Ys,Yt,Yu,Yv,Yw,Yx,Yy,Yz,hv,X0,ev,X1,X2,X3,X4,X5,X6,X7,X8,X9,Xa,Xb,Xc,Xd,Xe,Xf,Xg,Xh,Xi,Xj,Xk,Xl,Xm,Xn,Xo,Xp,Xq,Xr,Xs,Xt,Xu,Xv,Xw,Xx,Value.oneCell',Xy,Xz,W0,W1,true_and,and_true,and_self,implies_true,W2,W3,W4,W5,false_implies,W6,W7,W8,W9,Wa,Wb,Wc,Wd,We,Wf,Wg,Wh,Wi,Wj,Wk,Wl,Wm,reduceCtorEq,if_true,if_false,Wn,↓reduceIte,Wo,Wp,Wq,Wr,Ws,Wt,ne_eq,not_false_eq_true,not_true_eq_false,Wu,Wv,r115_0,r115_1,r115_2,r115_3,r115_4,r115_5,r115_6,r115_7,r115_8,r115_9,r115_10,r115_11,r115_12,r115_13,r115_14,r115_15,r115_16,p115,l115_1,hjl',gJ]) | (exfalso; omega)
            rcases Nat.eq_zero_or_pos f with hf0 | hf0
            · have qf : ((f : Int) == 0) = true := by rw [beq_iff_eq]; omega
              have df : decide (f = 0) = true := by simp; omega
              cases hk : l[f].key
              · repeat' first | ((with_reducible (first | refine condD ?_ ?_ | refine condE ?_ ?_ | refine condN ?_ ?_ | refine condI ?_ ?_ | refine condS ?_ ?_)) <;> intro h) | ((with_reducible (first | refine guardD (by with_unfolding_all rfl) ?_ ?_ | refine guardE (by with_unfolding_all rfl) ?_ ?_ | refine guardN (by with_unfolding_all rfl) ?_ ?_ | refine guardI (by with_unfolding_all rfl) ?_ ?_ | refine guardS (by with_unfolding_all rfl) ?_ ?_)) <;> intro h) | ((refine callG c1 ?_)) | ((refine callG c2 ?_)) | ((refine callG c3 ?_)) | ((refine callG c4 ?_)) | (with_reducible refine And.intro ?_ ?_; omega) | (simp only [Z0,Z1,Z2,Z3,Z4,Z5,Z6,Z7,Z8,Z9,Za,Zb,Zc,Zd,Ze,Zf,List.cons.injEq,Zg,Zh,Zi,Zj,Zk,Zl,Zm,Zn,Zo,Zp,beq_self_eq_true,bne_self_eq_false,decide_true,decide_false,Zq,Zr,Zs,Zt,Zu,Zv,Zw,Zx,Zy,Zz,Y0,Y1,Y2,Y3,Y4,Y5,Y6,Y7,Y8,Y9,Ya,Yb,Yc,Yd,Ye,Yf,Yg,Yh,lk,ef,Yi,Yj,Yk,Yl,Ym,Yn,Yo,Yp,Yq,Yr,Ys,Yt,Yu,Yv,Yw,Yx,Yy,Yz,hv,X0,ev,X1,X2,X3,X4,X5,X6,X7,X8,X9,Xa,Xb,Xc,Xd,Xe,Xf,Xg,Xh,Xi,Xj,Xk,Xl,Xm,Xn,Xo,Xp,Xq,Xr,Xs,Xt,Xu,Xv,Xw,Xx,Value.oneCell',Xy,Xz,W0,W1,true_and,and_true,and_self,implies_true,W2,W3,W4,W5,false_implies,W6,W7,W8,W9,Wa,Wb,Wc,Wd,We,Wf,Wg,Wh,Wi,Wj,Wk,Wl,Wm,reduceCtorEq,if_true,if_false,Wn,↓reduceIte,Wo,Wp,Wq,Wr,Ws,Wt,ne_eq,not_false_eq_true,not_true_eq_false,Wu,Wv,r115_0,r115_1,r115_2,r115_3,r115_4,r115_5,r115_6,r115_7,r115_8,r115_9,r115_10,r115_11,r115_12,r115_13,r115_14,r115_15,r115_16,p115,l115_1,hjl',sub1,sub2,sub3,← List.map_take,← List.map_drop,ones_len',hPl,hEl,gL,gP,gP0,hw,grps_len,Zt,hk,qf]) | (exfalso; omega)
                all_goals exact again hJ (out ++ [⟨f, j, l[f].key, false, B, X⟩], j) (weak_mk (by simp only [Ww,Wx,Wy,Wz,V0,V1,Z4,Z5,Z6,Z7,Z8,Z9,Za,Zb,Zc,Zd,Ze,Zf,List.cons.injEq,Zg,Zh,Zi,Zj,Zk,Zl,Zm,Zn,Zo,Zp,beq_self_eq_true,bne_self_eq_false,decide_true,decide_false,Zq,Zr,Zs,Zt,Zu,Zv,Zw,Zx,Zy,Zz,Y0,hv,X0,ev,X1,X2,X3,X4,X5,X6,X7,X8,X9,Xa,Xb,Xc,Xd,Xe,Xf,Xg,Xh,Xi,Xj,Xk,Xl,Xm,Xn,Xo,Xp,Xq,Xr,Xs,Xt,Xu,Xv,Xw,Xx,Value.oneCell',Xy,Xz,W0,W1,true_and,and_true,and_self,implies_true,W2,W3,W4,W5,false_implies,W6,W7,W8,W9,Wa,Wb,Wc,Wd,We,Wf,Wg,Wh,Wi,Wj,Wk,Wl,Wm,reduceCtorEq,if_true,if_false,Wn,↓reduceIte,Wo,Wp,Wq,Wr,Ws,Wt,ne_eq,not_false_eq_true,not_true_eq_false,Wu,Nat.zero_ne_one]; refine ⟨by simp [Grp.av, hk], ?_⟩; rw [hst0 hf0])) (hinv _ (by rw [hGf]; simp only [hk, df, Bool.false_and, Bool.true_and, Bool.and_true, Bool.and_false, Bool.not_true, Bool.not_false, Bool.true_or, Bool.false_or])) (by simp only; omega)
              · by_cases hB : B = P[f]
                · have hB' : (B == P[f]) = true := by rw [beq_iff_eq]; exact hB
                  cases hC : C
                  · repeat' first | ((with_reducible (first | refine condD ?_ ?_ | refine condE ?_ ?_ | refine condN ?_ ?_ | refine condI ?_ ?_ | refine condS ?_ ?_)) <;> intro h) | ((with_reducible (first | refine guardD (by with_unfolding_all rfl) ?_ ?_ | refine guardE (by with_unfolding_all rfl) ?_ ?_ | refine guardN (by with_unfolding_all rfl) ?_ ?_ | refine guardI (by with_unfolding_all rfl) ?_ ?_ | refine guardS (by with_unfolding_all rfl) ?_ ?_)) <;> intro h) | ((refine callG c1 ?_)) | ((refine callG c2 ?_)) | ((refine callG c3 ?_)) | ((refine callG c4 ?_)) | (with_reducible refine And.intro ?_ ?_; omega) | (simp only [Z0,Z1,Z2,Z3,Z4,Z5,Z6,Z7,Z8,Z9,Za,Zb,Zc,Zd,Ze,Zf,List.cons.injEq,Zg,Zh,Zi,Zj,Zk,Zl,Zm,Zn,Zo,Zp,beq_self_eq_true,bne_self_eq_false,decide_true,decide_false,Zq,Zr,Zs,Zt,Zu,Zv,Zw,Zx,Zy,Zz,Y0,Y1,Y2,Y3,Y4,Y5,Y6,Y7,Y8,Y9,Ya,Yb,Yc,Yd,Ye,Yf,Yg,Yh,lk,ef,Yi,Yj,Yk,Yl,Ym,Yn,Yo,Yp,Yq,Yr,Ys,Yt,Yu,Yv,Yw,Yx,Yy,Yz,hv,X0,ev,X1,X2,X3,X4,X5,X6,X7,X8,X9,Xa,Xb,Xc,Xd,Xe,Xf,Xg,Xh,Xi,Xj,Xk,Xl,Xm,Xn,Xo,Xp,Xq,Xr,Xs,Xt,Xu,Xv,Xw,Xx,Value.oneCell',Xy,Xz,W0,W1,true_and,and_true,and_self,implies_true,W2,W3,W4,W5,false_implies,W6,W7,W8,W9,Wa,Wb,Wc,Wd,We,Wf,Wg,Wh,Wi,Wj,Wk,Wl,Wm,reduceCtorEq,if_true,if_false,Wn,↓reduceIte,Wo,Wp,Wq,Wr,Ws,Wt,ne_eq,not_false_eq_true,not_true_eq_false,Wu,Wv,r115_0,r115_1,r115_2,r115_3,r115_4,r115_5,r115_6,r115_7,r115_8,r115_9,r115_10,r115_11,r115_12,r115_13,r115_14,r115_15,r115_16,p115,l115_1,hjl',sub1,sub2,sub3,← List.map_take,← List.map_drop,ones_len',hPl,hEl,gL,gP,gP0,hw,grps_len,Zt,hk,qf,hB',hC]) | (exfalso; omega)
                    all_goals exact again hJ (out ++ [⟨f, j, l[f].key, true, B, X⟩], j) (weak_mk (by simp only [Ww,Wx,Wy,Wz,V0,V1,Z4,Z5,Z6,Z7,Z8,Z9,Za,Zb,Zc,Zd,Ze,Zf,List.cons.injEq,Zg,Zh,Zi,Zj,Zk,Zl,Zm,Zn,Zo,Zp,beq_self_eq_true,bne_self_eq_false,decide_true,decide_false,Zq,Zr,Zs,Zt,Zu,Zv,Zw,Zx,Zy,Zz,Y0,hv,X0,ev,X1,X2,X3,X4,X5,X6,X7,X8,X9,Xa,Xb,Xc,Xd,Xe,Xf,Xg,Xh,Xi,Xj,Xk,Xl,Xm,Xn,Xo,Xp,Xq,Xr,Xs,Xt,Xu,Xv,Xw,Xx,Value.oneCell',Xy,Xz,W0,W1,true_and,and_true,and_self,implies_true,W2,W3,W4,W5,false_implies,W6,W7,W8,W9,Wa,Wb,Wc,Wd,We,Wf,Wg,Wh,Wi,Wj,Wk,Wl,Wm,reduceCtorEq,if_true,if_false,Wn,↓reduceIte,Wo,Wp,Wq,Wr,Ws,Wt,ne_eq,not_false_eq_true,not_true_eq_false,Wu,Nat.zero_ne_one]; refine ⟨by simp [Grp.av, hk], ?_⟩; rw [hst0 hf0])) (hinv _ (by rw [hGf]; simp only [hk, df, hB', hC, Bool.false_and, Bool.true_and, Bool.and_true, Bool.and_false, Bool.not_true, Bool.not_false, Bool.true_or, Bool.false_or])) (by simp only; omega)
                  · repeat' first | ((with_reducible (first | refine condD ?_ ?_ | refine condE ?_ ?_ | refine condN ?_ ?_ | refine condI ?_ ?_ | refine condS ?_ ?_)) <;> intro h) | ((with_reducible (first | refine guardD (by with_unfolding_all rfl) ?_ ?_ | refine guardE (by with_unfolding_all rfl) ?_ ?_ | refine guardN (by with_unfolding_all rfl) ?_ ?_ | refine guardI (by with_unfolding_all rfl) ?_ ?_ | refine guardS (by with_unfolding_all rfl) ?_ ?_)) <;> intro h) | ((refine callG c1 ?_)) | ((refine callG c2 ?_)) | ((refine callG c3 ?_)) | ((refine callG c4 ?_)) | (with_reducible refine And.intro ?_ ?_; omega) | (simp only [Z0,Z1,Z2,Z3,Z4,Z5,Z6,Z7,Z8,Z9,Za,Zb,Zc,Zd,Ze,Zf,List.cons.injEq,Zg,Zh,Zi,Zj,Zk,Zl,Zm,Zn,Zo,Zp,beq_self_eq_true,bne_self_eq_false,decide_true,decide_false,Zq,Zr,Zs,Zt,Zu,Zv,Zw,Zx,Zy,Zz,Y0,Y1,Y2,Y3,Y4,Y5,Y6,Y7,Y8,Y9,Ya,Yb,Yc,Yd,Ye,Yf,Yg,Yh,lk,ef,Yi,Yj,Yk,Yl,Ym,Yn,Yo,Yp,Yq,Yr,Ys,Yt,Yu,Yv,Yw,Yx,Yy,Yz,hv,X0,ev,X1,X2,X3,X4,X5,X6,X7,X8,X9,Xa,Xb,Xc,Xd,Xe,Xf,Xg,Xh,Xi,Xj,Xk,Xl,Xm,Xn,Xo,Xp,Xq,Xr,Xs,Xt,Xu,Xv,Xw,Xx,Value.oneCell',Xy,Xz,W0,W1,true_and,and_true,and_self,implies_true,W2,W3,W4,W5,false_implies,W6,W7,W8,W9,Wa,Wb,Wc,Wd,We,Wf,Wg,Wh,Wi,Wj,Wk,Wl,Wm,reduceCtorEq,if_true,if_false,Wn,↓reduceIte,Wo,Wp,Wq,Wr,Ws,Wt,ne_eq,not_false_eq_true,not_true_eq_false,Wu,Wv,r115_0,r115_1,r115_2,r115_3,r115_4,r115_5,r115_6,r115_7,r115_8,r115_9,r115_10,r115_11,r115_12,r115_13,r115_14,r115_15,r115_16,p115,l115_1,hjl',sub1,sub2,sub3,← List.map_take,← List.map_drop,ones_len',hPl,hEl,gL,gP,gP0,hw,grps_len,Zt,hk,qf,hB',hC]) | (exfalso; omega)
                    all_goals exact again hJ (out ++ [⟨f, j, l[f].key, false, B, X⟩], j) (weak_mk (by simp only [Ww,Wx,Wy,Wz,V0,V1,Z4,Z5,Z6,Z7,Z8,Z9,Za,Zb,Zc,Zd,Ze,Zf,List.cons.injEq,Zg,Zh,Zi,Zj,Zk,Zl,Zm,Zn,Zo,Zp,beq_self_eq_true,bne_self_eq_false,decide_true,decide_false,Zq,Zr,Zs,Zt,Zu,Zv,Zw,Zx,Zy,Zz,Y0,hv,X0,ev,X1,X2,X3,X4,X5,X6,X7,X8,X9,Xa,Xb,Xc,Xd,Xe,Xf,Xg,Xh,Xi,Xj,Xk,Xl,Xm,Xn,Xo,Xp,Xq,Xr,Xs,Xt,Xu,Xv,Xw,Xx,Value.oneCell',Xy,Xz,W0,W1,true_and,and_true,and_self,implies_true,W2,W3,W4,W5,false_implies,W6,W7,W8,W9,Wa,Wb,Wc,Wd,We,Wf,Wg,Wh,Wi,Wj,Wk,Wl,Wm,reduceCtorEq,if_true,if_false,Wn,↓reduceIte,Wo,Wp,Wq,Wr,Ws,Wt,ne_eq,not_false_eq_true,not_true_eq_false,Wu,Nat.zero_ne_one]; refine ⟨by simp [Grp.av, hk], ?_⟩; rw [hst0 hf0])) (hinv _ (by rw [hGf]; simp only [hk, df, hB', hC, Bool.false_and, Bool.true_and, Bool.and_true, Bool.and_false, Bool.not_true, Bool.not_false, Bool.true_or, Bool.false_or])) (by simp only; omega)
                · have hB' : (B == P[f]) = false := by rw [beq_eq_false_iff_ne]; exact hB
                  repeat' first | ((with_reducible (first | refine condD ?_ ?_ | refine condE ?_ ?_ | refine condN ?_ ?_ | refine condI ?_ ?_ | refine condS ?_ ?_)) <;> intro h) | ((with_reducible (first | refine guardD (by with_unfolding_all rfl) ?_ ?_ | refine guardE (by with_unfolding_all rfl) ?_ ?_ | refine guardN (by with_unfolding_all rfl) ?_ ?_ | refine guardI (by with_unfolding_all rfl) ?_ ?_ | refine guardS (by with_unfolding_all rfl) ?_ ?_)) <;> intro h) | ((refine callG c1 ?_)) | ((refine callG c2 ?_)) | ((refine callG c3 ?_)) | ((refine callG c4 ?_)) | (with_reducible refine And.intro ?_ ?_; omega) | (simp only [Z0,Z1,Z2,Z3,Z4,Z5,Z6,Z7,Z8,Z9,Za,Zb,Zc,Zd,Ze,Zf,List.cons.injEq,Zg,Zh,Zi,Zj,Zk,Zl,Zm,Zn,Zo,Zp,beq_self_eq_true,bne_self_eq_false,decide_true,decide_false,Zq,Zr,Zs,Zt,Zu,Zv,Zw,Zx,Zy,Zz,Y0,Y1,Y2,Y3,Y4,Y5,Y6,Y7,Y8,Y9,Ya,Yb,Yc,Yd,Ye,Yf,Yg,Yh,lk,ef,Yi,Yj,Yk,Yl,Ym,Yn,Yo,Yp,Yq,Yr,Ys,Yt,Yu,Yv,Yw,Yx,Yy,Yz,hv,X0,ev,X1,X2,X3,X4,X5,X6,X7,X8,X9,Xa,Xb,Xc,Xd,Xe,Xf,Xg,Xh,Xi,Xj,Xk,Xl,Xm,Xn,Xo,Xp,Xq,Xr,Xs,Xt,Xu,Xv,Xw,Xx,Value.oneCell',Xy,Xz,W0,W1,true_and,and_true,and_self,implies_true,W2,W3,W4,W5,false_implies,W6,W7,W8,W9,Wa,Wb,Wc,Wd,We,Wf,Wg,Wh,Wi,Wj,Wk,Wl,Wm,reduceCtorEq,if_true,if_false,Wn,↓reduceIte,Wo,Wp,Wq,Wr,Ws,Wt,ne_eq,not_false_eq_true,not_true_eq_false,Wu,Wv,r115_0,r115_1,r115_2,r115_3,r115_4,r115_5,r115_6,r115_7,r115_8,r115_9,r115_10,r115_11,r115_12,r115_13,r115_14,r115_15,r115_16,p115,l115_1,hjl',sub1,sub2,sub3,← List.map_take,← List.map_drop,ones_len',hPl,hEl,gL,gP,gP0,hw,grps_len,Zt,hk,qf,hB']) | (exfalso; omega)
                  all_goals exact again hJ (out ++ [⟨f, j, l[f].key, false, B, X⟩], j) (weak_mk (by simp only [Ww,Wx,Wy,Wz,V0,V1,Z4,Z5,Z6,Z7,Z8,Z9,Za,Zb,Zc,Zd,Ze,Zf,List.cons.injEq,Zg,Zh,Zi,Zj,Zk,Zl,Zm,Zn,Zo,Zp,beq_self_eq_true,bne_self_eq_false,decide_true,decide_false,Zq,Zr,Zs,Zt,Zu,Zv,Zw,Zx,Zy,Zz,Y0,hv,X0,ev,X1,X2,X3,X4,X5,X6,X7,X8,X9,Xa,Xb,Xc,Xd,Xe,Xf,Xg,Xh,Xi,Xj,Xk,Xl,Xm,Xn,Xo,Xp,Xq,Xr,Xs,Xt,Xu,Xv,Xw,Xx,Value.oneCell',Xy,Xz,W0,W1,true_and,and_true,and_self,implies_true,W2,W3,W4,W5,false_implies,W6,W7,W8,W9,Wa,Wb,Wc,Wd,We,Wf,Wg,Wh,Wi,Wj,Wk,Wl,Wm,reduceCtorEq,if_true,if_false,Wn,↓reduceIte,Wo,Wp,Wq,Wr,Ws,Wt,ne_eq,not_false_eq_true,not_true_eq_false,Wu,Nat.zero_ne_one]; refine ⟨by simp [Grp.av, hk], ?_⟩; rw [hst0 hf0])) (hinv _ (by rw [hGf]; simp only [hk, df, hB', Bool.false_and, Bool.true_and, Bool.and_true, Bool.and_false, Bool.not_true, Bool.not_false, Bool.true_or, Bool.false_or])) (by simp only; omega)
            · have qf : ((f : Int) == 0) = false := by rw [beq_eq_false_iff_ne]; omega
              have df : decide (f = 0) = false := by simp; omega
              cases hk : l[f].key
              · repeat' first | ((with_reducible (first | refine condD ?_ ?_ | refine condE ?_ ?_ | refine condN ?_ ?_ | refine condI ?_ ?_ | refine condS ?_ ?_)) <;> intro h) | ((with_reducible (first | refine guardD (by with_unfolding_all rfl) ?_ ?_ | refine guardE (by with_unfolding_all rfl) ?_ ?_ | refine guardN (by with_unfolding_all rfl) ?_ ?_ | refine guardI (by with_unfolding_all rfl) ?_ ?_ | refine guardS (by with_unfolding_all rfl) ?_ ?_)) <;> intro h) | ((refine callG c1 ?_)) | ((refine callG c2 ?_)) | ((refine callG c3 ?_)) | ((refine callG c4 ?_)) | (with_reducible refine And.intro ?_ ?_; omega) | (simp only [Z0,Z1,Z2,Z3,Z4,Z5,Z6,Z7,Z8,Z9,Za,Zb,Zc,Zd,Ze,Zf,List.cons.injEq,Zg,Zh,Zi,Zj,Zk,Zl,Zm,Zn,Zo,Zp,beq_self_eq_true,bne_self_eq_false,decide_true,decide_false,Zq,Zr,Zs,Zt,Zu,Zv,Zw,Zx,Zy,Zz,Y0,Y1,Y2,Y3,Y4,Y5,Y6,Y7,Y8,Y9,Ya,Yb,Yc,Yd,Ye,Yf,Yg,Yh,lk,ef,Yi,Yj,Yk,Yl,Ym,Yn,Yo,Yp,Yq,Yr,Ys,Yt,Yu,Yv,Yw,Yx,Yy,Yz,hv,X0,ev,X1,X2,X3,X4,X5,X6,X7,X8,X9,Xa,Xb,Xc,Xd,Xe,Xf,Xg,Xh,Xi,Xj,Xk,Xl,Xm,Xn,Xo,Xp,Xq,Xr,Xs,Xt,Xu,Xv,Xw,Xx,Value.oneCell',Xy,Xz,W0,W1,true_and,and_true,and_self,implies_true,W2,W3,W4,W5,false_implies,W6,W7,W8,W9,Wa,Wb,Wc,Wd,We,Wf,Wg,Wh,Wi,Wj,Wk,Wl,Wm,reduceCtorEq,if_true,if_false,Wn,↓reduceIte,Wo,Wp,Wq,Wr,Ws,Wt,ne_eq,not_false_eq_true,not_true_eq_false,Wu,Wv,r115_0,r115_1,r115_2,r115_3,r115_4,r115_5,r115_6,r115_7,r115_8,r115_9,r115_10,r115_11,r115_12,r115_13,r115_14,r115_15,r115_16,p115,l115_1,hjl',sub1,sub2,sub3,← List.map_take,← List.map_drop,ones_len',hPl,hEl,gL,gP,gP0,hw,grps_len,Zt,hk,qf]) | (exfalso; omega)
                all_goals exact again hJ (out ++ [⟨f, j, l[f].key, false, B, X⟩], j) (weak_mk (by simp only [Ww,Wx,Wy,Wz,V0,V1,Z4,Z5,Z6,Z7,Z8,Z9,Za,Zb,Zc,Zd,Ze,Zf,List.cons.injEq,Zg,Zh,Zi,Zj,Zk,Zl,Zm,Zn,Zo,Zp,beq_self_eq_true,bne_self_eq_false,decide_true,decide_false,Zq,Zr,Zs,Zt,Zu,Zv,Zw,Zx,Zy,Zz,Y0,hv,X0,ev,X1,X2,X3,X4,X5,X6,X7,X8,X9,Xa,Xb,Xc,Xd,Xe,Xf,Xg,Xh,Xi,Xj,Xk,Xl,Xm,Xn,Xo,Xp,Xq,Xr,Xs,Xt,Xu,Xv,Xw,Xx,Value.oneCell',Xy,Xz,W0,W1,true_and,and_true,and_self,implies_true,W2,W3,W4,W5,false_implies,W6,W7,W8,W9,Wa,Wb,Wc,Wd,We,Wf,Wg,Wh,Wi,Wj,Wk,Wl,Wm,reduceCtorEq,if_true,if_false,Wn,↓reduceIte,Wo,Wp,Wq,Wr,Ws,Wt,ne_eq,not_false_eq_true,not_true_eq_false,Wu,Nat.zero_ne_one]; refine ⟨by simp [Grp.av, hk], ?_⟩; rw [hst1 hf0])) (hinv _ (by rw [hGf]; simp only [hk, df, Bool.false_and, Bool.true_and, Bool.and_true, Bool.and_false, Bool.not_true, Bool.not_false, Bool.true_or, Bool.false_or])) (by simp only; omega)
              · by_cases hB : B = P[f]
                · have hB' : (B == P[f]) = true := by rw [beq_iff_eq]; exact hB
                  cases hC : C
                  · by_cases hLA : LA < B
                    · have dl : decide (LA < B) = true := decide_eq_true hLA
                      repeat' first | ((with_reducible (first | refine condD ?_ ?_ | refine condE ?_ ?_ | refine condN ?_ ?_ | refine condI ?_ ?_ | refine condS ?_ ?_)) <;> intro h) | ((with_reducible (first | refine guardD (by with_unfolding_all rfl) ?_ ?_ | refine guardE (by with_unfolding_all rfl) ?_ ?_ | refine guardN (by with_unfolding_all rfl) ?_ ?_ | refine guardI (by with_unfolding_all rfl) ?_ ?_ | refine guardS (by with_unfolding_all rfl) ?_ ?_)) <;> intro h) | ((refine callG c1 ?_)) | ((refine callG c2 ?_)) | ((refine callG c3 ?_)) | ((refine callG c4 ?_)) | (with_reducible refine And.intro ?_ ?_; omega) | (simp only [Z0,Z1,Z2,Z3,Z4,Z5,Z6,Z7,Z8,Z9,Za,Zb,Zc,Zd,Ze,Zf,List.cons.injEq,Zg,Zh,Zi,Zj,Zk,Zl,Zm,Zn,Zo,Zp,beq_self_eq_true,bne_self_eq_false,decide_true,decide_false,Zq,Zr,Zs,Zt,Zu,Zv,Zw,Zx,Zy,Zz,Y0,Y1,Y2,Y3,Y4,Y5,Y6,Y7,Y8,Y9,Ya,Yb,Yc,Yd,Ye,Yf,Yg,Yh,lk,ef,Yi,Yj,Yk,Yl,Ym,Yn,Yo,Yp,Yq,Yr,Ys,Yt,Yu,Yv,Yw,Yx,Yy,Yz,hv,X0,ev,X1,X2,X3,X4,X5,X6,X7,X8,X9,Xa,Xb,Xc,Xd,Xe,Xf,Xg,Xh,Xi,Xj,Xk,Xl,Xm,Xn,Xo,Xp,Xq,Xr,Xs,Xt,Xu,Xv,Xw,Xx,Value.oneCell',Xy,Xz,W0,W1,true_and,and_true,and_self,implies_true,W2,W3,W4,W5,false_implies,W6,W7,W8,W9,Wa,Wb,Wc,Wd,We,Wf,Wg,Wh,Wi,Wj,Wk,Wl,Wm,reduceCtorEq,if_true,if_false,Wn,↓reduceIte,Wo,Wp,Wq,Wr,Ws,Wt,ne_eq,not_false_eq_true,not_true_eq_false,Wu,Wv,r115_0,r115_1,r115_2,r115_3,r115_4,r115_5,r115_6,r115_7,r115_8,r115_9,r115_10,r115_11,r115_12,r115_13,r115_14,r115_15,r115_16,p115,l115_1,hjl',sub1,sub2,sub3,← List.map_take,← List.map_drop,ones_len',hPl,hEl,gL,gP,gP0,hw,grps_len,Zt,hk,qf,hB',hC,hLA]) | (exfalso; omega)
                      all_goals exact again hJ (out ++ [⟨f, j, l[f].key, true, B, X⟩], j) (weak_mk (by simp only [Ww,Wx,Wy,Wz,V0,V1,Z4,Z5,Z6,Z7,Z8,Z9,Za,Zb,Zc,Zd,Ze,Zf,List.cons.injEq,Zg,Zh,Zi,Zj,Zk,Zl,Zm,Zn,Zo,Zp,beq_self_eq_true,bne_self_eq_false,decide_true,decide_false,Zq,Zr,Zs,Zt,Zu,Zv,Zw,Zx,Zy,Zz,Y0,hv,X0,ev,X1,X2,X3,X4,X5,X6,X7,X8,X9,Xa,Xb,Xc,Xd,Xe,Xf,Xg,Xh,Xi,Xj,Xk,Xl,Xm,Xn,Xo,Xp,Xq,Xr,Xs,Xt,Xu,Xv,Xw,Xx,Value.oneCell',Xy,Xz,W0,W1,true_and,and_true,and_self,implies_true,W2,W3,W4,W5,false_implies,W6,W7,W8,W9,Wa,Wb,Wc,Wd,We,Wf,Wg,Wh,Wi,Wj,Wk,Wl,Wm,reduceCtorEq,if_true,if_false,Wn,↓reduceIte,Wo,Wp,Wq,Wr,Ws,Wt,ne_eq,not_false_eq_true,not_true_eq_false,Wu,Nat.zero_ne_one]; refine ⟨by simp [Grp.av, hk], ?_⟩; rw [hst1 hf0])) (hinv _ (by rw [hGf]; simp only [hk, df, hB', hC, dl, Bool.false_and, Bool.true_and, Bool.and_true, Bool.and_false, Bool.not_true, Bool.not_false, Bool.true_or, Bool.false_or])) (by simp only; omega)
                    · have dl : decide (LA < B) = false := decide_eq_false hLA
                      repeat' first | ((with_reducible (first | refine condD ?_ ?_ | refine condE ?_ ?_ | refine condN ?_ ?_ | refine condI ?_ ?_ | refine condS ?_ ?_)) <;> intro h) | ((with_reducible (first | refine guardD (by with_unfolding_all rfl) ?_ ?_ | refine guardE (by with_unfolding_all rfl) ?_ ?_ | refine guardN (by with_unfolding_all rfl) ?_ ?_ | refine guardI (by with_unfolding_all rfl) ?_ ?_ | refine guardS (by with_unfolding_all rfl) ?_ ?_)) <;> intro h) | ((refine callG c1 ?_)) | ((refine callG c2 ?_)) | ((refine callG c3 ?_)) | ((refine callG c4 ?_)) | (with_reducible refine And.intro ?_ ?_; omega) | (simp only [Z0,Z1,Z2,Z3,Z4,Z5,Z6,Z7,Z8,Z9,Za,Zb,Zc,Zd,Ze,Zf,List.cons.injEq,Zg,Zh,Zi,Zj,Zk,Zl,Zm,Zn,Zo,Zp,beq_self_eq_true,bne_self_eq_false,decide_true,decide_false,Zq,Zr,Zs,Zt,Zu,Zv,Zw,Zx,Zy,Zz,Y0,Y1,Y2,Y3,Y4,Y5,Y6,Y7,Y8,Y9,Ya,Yb,Yc,Yd,Ye,Yf,Yg,Yh,lk,ef,Yi,Yj,Yk,Yl,Ym,Yn,Yo,Yp,Yq,Yr,Ys,Yt,Yu,Yv,Yw,Yx,Yy,Yz,hv,X0,ev,X1,X2,X3,X4,X5,X6,X7,X8,X9,Xa,Xb,Xc,Xd,Xe,Xf,Xg,Xh,Xi,Xj,Xk,Xl,Xm,Xn,Xo,Xp,Xq,Xr,Xs,Xt,Xu,Xv,Xw,Xx,Value.oneCell',Xy,Xz,W0,W1,true_and,and_true,and_self,implies_true,W2,W3,W4,W5,false_implies,W6,W7,W8,W9,Wa,Wb,Wc,Wd,We,Wf,Wg,Wh,Wi,Wj,Wk,Wl,Wm,reduceCtorEq,if_true,if_false,Wn,↓reduceIte,Wo,Wp,Wq,Wr,Ws,Wt,ne_eq,not_false_eq_true,not_true_eq_false,Wu,Wv,r115_0,r115_1,r115_2,r115_3,r115_4,r115_5,r115_6,r115_7,r115_8,r115_9,r115_10,r115_11,r115_12,r115_13,r115_14,r115_15,r115_16,p115,l115_1,hjl',sub1,sub2,sub3,← List.map_take,← List.map_drop,ones_len',hPl,hEl,gL,gP,gP0,hw,grps_len,Zt,hk,qf,hB',hC,hLA]) | (exfalso; omega)
                      all_goals exact again hJ (out ++ [⟨f, j, l[f].key, false, B, X⟩], j) (weak_mk (by simp only [Ww,Wx,Wy,Wz,V0,V1,Z4,Z5,Z6,Z7,Z8,Z9,Za,Zb,Zc,Zd,Ze,Zf,List.cons.injEq,Zg,Zh,Zi,Zj,Zk,Zl,Zm,Zn,Zo,Zp,beq_self_eq_true,bne_self_eq_false,decide_true,decide_false,Zq,Zr,Zs,Zt,Zu,Zv,Zw,Zx,Zy,Zz,Y0,hv,X0,ev,X1,X2,X3,X4,X5,X6,X7,X8,X9,Xa,Xb,Xc,Xd,Xe,Xf,Xg,Xh,Xi,Xj,Xk,Xl,Xm,Xn,Xo,Xp,Xq,Xr,Xs,Xt,Xu,Xv,Xw,Xx,Value.oneCell',Xy,Xz,W0,W1,true_and,and_true,and_self,implies_true,W2,W3,W4,W5,false_implies,W6,W7,W8,W9,Wa,Wb,Wc,Wd,We,Wf,Wg,Wh,Wi,Wj,Wk,Wl,Wm,reduceCtorEq,if_true,if_false,Wn,↓reduceIte,Wo,Wp,Wq,Wr,Ws,Wt,ne_eq,not_false_eq_true,not_true_eq_false,Wu,Nat.zero_ne_one]; refine ⟨by simp [Grp.av, hk], ?_⟩; rw [hst1 hf0])) (hinv _ (by rw [hGf]; simp only [hk, df, hB', hC, dl, Bool.false_and, Bool.true_and, Bool.and_true, Bool.and_false, Bool.not_true, Bool.not_false, Bool.true_or, Bool.false_or])) (by simp only; omega)
                  · repeat' first | ((with_reducible (first | refine condD ?_ ?_ | refine condE ?_ ?_ | refine condN ?_ ?_ | refine condI ?_ ?_ | refine condS ?_ ?_)) <;> intro h) | ((with_reducible (first | refine guardD (by with_unfolding_all rfl) ?_ ?_ | refine guardE (by with_unfolding_all rfl) ?_ ?_ | refine guardN (by with_unfolding_all rfl) ?_ ?_ | refine guardI (by with_unfolding_all rfl) ?_ ?_ | refine guardS (by with_unfolding_all rfl) ?_ ?_)) <;> intro h) | ((refine callG c1 ?_)) | ((refine callG c2 ?_)) | ((refine callG c3 ?_)) | ((refine callG c4 ?_)) | (with_reducible refine And.intro ?_ ?_; omega) | (simp only [Z0,Z1,Z2,Z3,Z4,Z5,Z6,Z7,Z8,Z9,Za,Zb,Zc,Zd,Ze,Zf,List.cons.injEq,Zg,Zh,Zi,Zj,Zk,Zl,Zm,Zn,Zo,Zp,beq_self_eq_true,bne_self_eq_false,decide_true,decide_false,Zq,Zr,Zs,Zt,Zu,Zv,Zw,Zx,Zy,Zz,Y0,Y1,Y2,Y3,Y4,Y5,Y6,Y7,Y8,Y9,Ya,Yb,Yc,Yd,Ye,Yf,Yg,Yh,lk,ef,Yi,Yj,Yk,Yl,Ym,Yn,Yo,Yp,Yq,Yr,Ys,Yt,Yu,Yv,Yw,Yx,Yy,Yz,hv,X0,ev,X1,X2,X3,X4,X5,X6,X7,X8,X9,Xa,Xb,Xc,Xd,Xe,Xf,Xg,Xh,Xi,Xj,Xk,Xl,Xm,Xn,Xo,Xp,Xq,Xr,Xs,Xt,Xu,Xv,Xw,Xx,Value.oneCell',Xy,Xz,W0,W1,true_and,and_true,and_self,implies_true,W2,W3,W4,W5,false_implies,W6,W7,W8,W9,Wa,Wb,Wc,Wd,We,Wf,Wg,Wh,Wi,Wj,Wk,Wl,Wm,reduceCtorEq,if_true,if_false,Wn,↓reduceIte,Wo,Wp,Wq,Wr,Ws,Wt,ne_eq,not_false_eq_true,not_true_eq_false,Wu,Wv,r115_0,r115_1,r115_2,r115_3,r115_4,r115_5,r115_6,r115_7,r115_8,r115_9,r115_10,r115_11,r115_12,r115_13,r115_14,r115_15,r115_16,p115,l115_1,hjl',sub1,sub2,sub3,← List.map_take,← List.map_drop,ones_len',hPl,hEl,gL,gP,gP0,hw,grps_len,Zt,hk,qf,hB',hC]) | (exfalso; omega)
                    all_goals exact again hJ (out ++ [⟨f, j, l[f].key, false, B, X⟩], j) (weak_mk (by simp only [Ww,Wx,Wy,Wz,V0,V1,Z4,Z5,Z6,Z7,Z8,Z9,Za,Zb,Zc,Zd,Ze,Zf,List.cons.injEq,Zg,Zh,Zi,Zj,Zk,Zl,Zm,Zn,Zo,Zp,beq_self_eq_true,bne_self_eq_false,decide_true,decide_false,Zq,Zr,Zs,Zt,Zu,Zv,Zw,Zx,Zy,Zz,Y0,hv,X0,ev,X1,X2,X3,X4,X5,X6,X7,X8,X9,Xa,Xb,Xc,Xd,Xe,Xf,Xg,Xh,Xi,Xj,Xk,Xl,Xm,Xn,Xo,Xp,Xq,Xr,Xs,Xt,Xu,Xv,Xw,Xx,Value.oneCell',Xy,Xz,W0,W1,true_and,and_true,and_self,implies_true,W2,W3,W4,W5,false_implies,W6,W7,W8,W9,Wa,Wb,Wc,Wd,We,Wf,Wg,Wh,Wi,Wj,Wk,Wl,Wm,reduceCtorEq,if_true,if_false,Wn,↓reduceIte,Wo,Wp,Wq,Wr,Ws,Wt,ne_eq,not_false_eq_true,not_true_eq_false,Wu,Nat.zero_ne_one]; refine ⟨by simp [Grp.av, hk], ?_⟩; rw [hst1 hf0])) (hinv _ (by rw [hGf]; simp only [hk, df, hB', hC, Bool.false_and, Bool.true_and, Bool.and_true, Bool.and_false, Bool.not_true, Bool.not_false, Bool.true_or, Bool.false_or])) (by simp only; omega)
                · have hB' : (B == P[f]) = false := by rw [beq_eq_false_iff_ne]; exact hB
                  repeat' first | ((with_reducible (first | refine condD ?_ ?_ | refine condE ?_ ?_ | refine condN ?_ ?_ | refine condI ?_ ?_ | refine condS ?_ ?_)) <;> intro h) | ((with_reducible (first | refine guardD (by with_unfolding_all rfl) ?_ ?_ | refine guardE (by with_unfolding_all rfl) ?_ ?_ | refine guardN (by with_unfolding_all rfl) ?_ ?_ | refine guardI (by with_unfolding_all rfl) ?_ ?_ | refine guardS (by with_unfolding_all rfl) ?_ ?_)) <;> intro h) | ((refine callG c1 ?_)) | ((refine callG c2 ?_)) | ((refine callG c3 ?_)) | ((refine callG c4 ?_)) | (with_reducible refine And.intro ?_ ?_; omega) | (simp only [Z0,Z1,Z2,Z3,Z4,Z5,Z6,Z7,Z8,Z9,Za,Zb,Zc,Zd,Ze,Zf,List.cons.injEq,Zg,Zh,Zi,Zj,Zk,Zl,Zm,Zn,Zo,Zp,beq_self_eq_true,bne_self_eq_false,decide_true,decide_false,Zq,Zr,Zs,Zt,Zu,Zv,Zw,Zx,Zy,Zz,Y0,Y1,Y2,Y3,Y4,Y5,Y6,Y7,Y8,Y9,Ya,Yb,Yc,Yd,Ye,Yf,Yg,Yh,lk,ef,Yi,Yj,Yk,Yl,Ym,Yn,Yo,Yp,Yq,Yr,Ys,Yt,Yu,Yv,Yw,Yx,Yy,Yz,hv,X0,ev,X1,X2,X3,X4,X5,X6,X7,X8,X9,Xa,Xb,Xc,Xd,Xe,Xf,Xg,Xh,Xi,Xj,Xk,Xl,Xm,Xn,Xo,Xp,Xq,Xr,Xs,Xt,Xu,Xv,Xw,Xx,Value.oneCell',Xy,Xz,W0,W1,true_and,and_true,and_self,implies_true,W2,W3,W4,W5,false_implies,W6,W7,W8,W9,Wa,Wb,Wc,Wd,We,Wf,Wg,Wh,Wi,Wj,Wk,Wl,Wm,reduceCtorEq,if_true,if_false,Wn,↓reduceIte,Wo,Wp,Wq,Wr,Ws,Wt,ne_eq,not_false_eq_true,not_true_eq_false,Wu,Wv,r115_0,r115_1,r115_2,r115_3,r115_4,r115_5,r115_6,r115_7,r115_8,r115_9,r115_10,r115_11,r115_12,r115_13,r115_14,r115_15,r115_16,p115,l115_1,hjl',sub1,sub2,sub3,← List.map_take,← List.map_drop,ones_len',hPl,hEl,gL,gP,gP0,hw,grps_len,Zt,hk,qf,hB']) | (exfalso; omega)
                  all_goals exact again hJ (out ++ [⟨f, j, l[f].key, false, B, X⟩], j) (weak_mk (by simp only [Ww,Wx,Wy,Wz,V0,V1,Z4,Z5,Z6,Z7,Z8,Z9,Za,Zb,Zc,Zd,Ze,Zf,List.cons.injEq,Zg,Zh,Zi,Zj,Zk,Zl,Zm,Zn,Zo,Zp,beq_self_eq_true,bne_self_eq_false,decide_true,decide_false,Zq,Zr,Zs,Zt,Zu,Zv,Zw,Zx,Zy,Zz,Y0,hv,X0,ev,X1,X2,X3,X4,X5,X6,X7,X8,X9,Xa,Xb,Xc,Xd,Xe,Xf,Xg,Xh,Xi,Xj,Xk,Xl,Xm,Xn,Xo,Xp,Xq,Xr,Xs,Xt,Xu,Xv,Xw,Xx,Value.oneCell',Xy,Xz,W0,W1,true_and,and_true,and_self,implies_true,W2,W3,W4,W5,false_implies,W6,W7,W8,W9,Wa,Wb,Wc,Wd,We,Wf,Wg,Wh,Wi,Wj,Wk,Wl,Wm,reduceCtorEq,if_true,if_false,Wn,↓reduceIte,Wo,Wp,Wq,Wr,Ws,Wt,ne_eq,not_false_eq_true,not_true_eq_false,Wu,Nat.zero_ne_one]; refine ⟨by simp [Grp.av, hk], ?_⟩; rw [hst1 hf0])) (hinv _ (by rw [hGf]; simp only [hk, df, hB', Bool.false_and, Bool.true_and, Bool.and_true, Bool.and_false, Bool.not_true, Bool.not_false, Bool.true_or, Bool.false_or])) (by simp only; omega)
          · have hjl' : ¬ (j : Int) < l.length := by omega
            repeat' first | ((with_reducible (first | refine condD ?_ ?_ | refine condE ?_ ?_ | refine condN ?_ ?_ | refine condI ?_ ?_ | refine condS ?_ ?_)) <;> intro h) | ((with_reducible (first | refine guardD (by with_unfolding_all rfl) ?_ ?_ | refine guardE (by with_unfolding_all rfl) ?_ ?_ | refine guardN (by with_unfolding_all rfl) ?_ ?_ | refine guardI (by with_unfolding_all rfl) ?_ ?_ | refine guardS (by with_unfolding_all rfl) ?_ ?_)) <;> intro h) | (with_reducible refine And.intro ?_ ?_; omega) | (simp only [Z0,Z1,Z2,Z3,Z4,Z5,Z6,Z7,Z8,Z9,Za,Zb,Zc,Zd,Ze,Zf,List.cons.injEq,Zg,Zh,Zi,Zj,Zk,Zl,Zm,Zn,Zo,Zp,beq_self_eq_true,bne_self_eq_false,decide_true,decide_false,Zq,Zr,Zs,Zt,Zu,Zv,Zw,Zx,Zy,Zz,Y0,Y1,Y2,Y3,Y4,Y5,Y6,Y7,Y8,Y9,Ya,Yb,Yc,Yd,Ye,Yf,Yg,Yh,lk,ef,Yi,Yj,Yk,Yl,Ym,Yn,Yo,Yp,Yq,Yr,Ys,Yt,Yu,Yv,Yw,Yx,Yy,Yz,hv,X0,ev,X1,X2,X3,X4,X5,X6,X7,X8,X9,Xa,Xb,Xc,Xd,Xe,Xf,Xg,Xh,Xi,Xj,Xk,Xl,Xm,Xn,Xo,Xp,Xq,Xr,Xs,Xt,Xu,Xv,Xw,Xx,Value.oneCell',Xy,Xz,W0,W1,true_and,and_true,and_self,implies_true,W2,W3,W4,W5,false_implies,W6,W7,W8,W9,Wa,Wb,Wc,Wd,We,Wf,Wg,Wh,Wi,Wj,Wk,Wl,Wm,reduceCtorEq,if_true,if_false,Wn,↓reduceIte,Wo,Wp,Wq,Wr,Ws,Wt,ne_eq,not_false_eq_true,not_true_eq_false,Wu,Wv,r115_0,r115_1,r115_2,r115_3,r115_4,r115_5,r115_6,r115_7,r115_8,r115_9,r115_10,r115_11,r115_12,r115_13,r115_14,r115_15,r115_16,p115,l115_1,hjl']) | (exfalso; omega)
            rcases Nat.eq_zero_or_pos f with hf0 | hf0
            · have qf : ((f : Int) == 0) = true := by rw [beq_iff_eq]; omega
              have df : decide (f = 0) = true := by simp; omega
              cases hk : l[f].key
              · repeat' first | ((with_reducible (first | refine condD ?_ ?_ | refine condE ?_ ?_ | refine condN ?_ ?_ | refine condI ?_ ?_ | refine condS ?_ ?_)) <;> intro h) | ((with_reducible (first | refine guardD (by with_unfolding_all rfl) ?_ ?_ | refine guardE (by with_unfolding_all rfl) ?_ ?_ | refine guardN (by with_unfolding_all rfl) ?_ ?_ | refine guardI (by with_unfolding_all rfl) ?_ ?_ | refine guardS (by with_unfolding_all rfl) ?_ ?_)) <;> intro h) | ((refine callG c1 ?_)) | ((refine callG c2 ?_)) | ((refine callG c3 ?_)) | ((refine callG c4 ?_)) | (with_reducible refine And.intro ?_ ?_; omega) | (simp only [Z0,Z1,Z2,Z3,Z4,Z5,Z6,Z7,Z8,Z9,Za,Zb,Zc,Zd,Ze,Zf,List.cons.injEq,Zg,Zh,Zi,Zj,Zk,Zl,Zm,Zn,Zo,Zp,beq_self_eq_true,bne_self_eq_false,decide_true,decide_false,Zq,Zr,Zs,Zt,Zu,Zv,Zw,Zx,Zy,Zz,Y0,Y1,Y2,Y3,Y4,Y5,Y6,Y7,Y8,Y9,Ya,Yb,Yc,Yd,Ye,Yf,Yg,Yh,lk,ef,Yi,Yj,Yk,Yl,Ym,Yn,Yo,Yp,Yq,Yr,Ys,Yt,Yu,Yv,Yw,Yx,Yy,Yz,hv,X0,ev,X1,X2,X3,X4,X5,X6,X7,X8,X9,Xa,Xb,Xc,Xd,Xe,Xf,Xg,Xh,Xi,Xj,Xk,Xl,Xm,Xn,Xo,Xp,Xq,Xr,Xs,Xt,Xu,Xv,Xw,Xx,Value.oneCell',Xy,Xz,W0,W1,true_and,and_true,and_self,implies_true,W2,W3,W4,W5,false_implies,W6,W7,W8,W9,Wa,Wb,Wc,Wd,We,Wf,Wg,Wh,Wi,Wj,Wk,Wl,Wm,reduceCtorEq,if_true,if_false,Wn,↓reduceIte,Wo,Wp,Wq,Wr,Ws,Wt,ne_eq,not_false_eq_true,not_true_eq_false,Wu,Wv,r115_0,r115_1,r115_2,r115_3,r115_4,r115_5,r115_6,r115_7,r115_8,r115_9,r115_10,r115_11,r115_12,r115_13,r115_14,r115_15,r115_16,p115,l115_1,hjl',sub1,sub2,sub3,← List.map_take,← List.map_drop,ones_len',hPl,hEl,gL,gP,gP0,hw,grps_len,Zt,hk,qf]) | (exfalso; omega)
                all_goals exact again hJ (out ++ [⟨f, j, l[f].key, false, B, X⟩], j) (weak_mk (by simp only [Ww,Wx,Wy,Wz,V0,V1,Z4,Z5,Z6,Z7,Z8,Z9,Za,Zb,Zc,Zd,Ze,Zf,List.cons.injEq,Zg,Zh,Zi,Zj,Zk,Zl,Zm,Zn,Zo,Zp,beq_self_eq_true,bne_self_eq_false,decide_true,decide_false,Zq,Zr,Zs,Zt,Zu,Zv,Zw,Zx,Zy,Zz,Y0,hv,X0,ev,X1,X2,X3,X4,X5,X6,X7,X8,X9,Xa,Xb,Xc,Xd,Xe,Xf,Xg,Xh,Xi,Xj,Xk,Xl,Xm,Xn,Xo,Xp,Xq,Xr,Xs,Xt,Xu,Xv,Xw,Xx,Value.oneCell',Xy,Xz,W0,W1,true_and,and_true,and_self,implies_true,W2,W3,W4,W5,false_implies,W6,W7,W8,W9,Wa,Wb,Wc,Wd,We,Wf,Wg,Wh,Wi,Wj,Wk,Wl,Wm,reduceCtorEq,if_true,if_false,Wn,↓reduceIte,Wo,Wp,Wq,Wr,Ws,Wt,ne_eq,not_false_eq_true,not_true_eq_false,Wu,Nat.zero_ne_one]; refine ⟨by simp [Grp.av, hk], ?_⟩; rw [hst0 hf0])) (hinv _ (by rw [hGf]; simp only [hk, df, Bool.false_and, Bool.true_and, Bool.and_true, Bool.and_false, Bool.not_true, Bool.not_false, Bool.true_or, Bool.false_or])) (by simp only; omega)
              · by_cases hB : B = P[f]
                · have hB' : (B == P[f]) = true := by rw [beq_iff_eq]; exact hB
                  cases hC : C
                  · repeat' first | ((with_reducible (first | refine condD ?_ ?_ | refine condE ?_ ?_ | refine condN ?_ ?_ | refine condI ?_ ?_ | refine condS ?_ ?_)) <;> intro h) | ((with_reducible (first | refine guardD (by with_unfolding_all rfl) ?_ ?_ | refine guardE (by with_unfolding_all rfl) ?_ ?_ | refine guardN (by with_unfolding_all rfl) ?_ ?_ | refine guardI (by with_unfolding_all rfl) ?_ ?_ | refine guardS (by with_unfolding_all rfl) ?_ ?_)) <;> intro h) | ((refine callG c1 ?_)) | ((refine callG c2 ?_)) | ((refine callG c3 ?_)) | ((refine callG c4 ?_)) | (with_reducible refine And.intro ?_ ?_; omega) | (simp only [Z0,Z1,Z2,Z3,Z4,Z5,Z6,Z7,Z8,Z9,Za,Zb,Zc,Zd,Ze,Zf,List.cons.injEq,Zg,Zh,Zi,Zj,Zk,Zl,Zm,Zn,Zo,Zp,beq_self_eq_true,bne_self_eq_false,decide_true,decide_false,Zq,Zr,Zs,Zt,Zu,Zv,Zw,Zx,Zy,Zz,Y0,Y1,Y2,Y3,Y4,Y5,Y6,Y7,Y8,Y9,Ya,Yb,Yc,Yd,Ye,Yf,Yg,Yh,lk,ef,Yi,Yj,Yk,Yl,Ym,Yn,Yo,Yp,Yq,Yr,Ys,Yt,Yu,Yv,Yw,Yx,Yy,Yz,hv,X0,ev,X1,X2,X3,X4,X5,X6,X7,X8,X9,Xa,Xb,Xc,Xd,Xe,Xf,Xg,Xh,Xi,Xj,Xk,Xl,Xm,Xn,Xo,Xp,Xq,Xr,Xs,Xt,Xu,Xv,Xw,Xx,Value.oneCell',Xy,Xz,W0,W1,true_and,and_true,and_self,implies_true,W2,W3,W4,W5,false_implies,W6,W7,W8,W9,Wa,Wb,Wc,Wd,We,Wf,Wg,Wh,Wi,Wj,Wk,Wl,Wm,reduceCtorEq,if_true,if_false,Wn,↓reduceIte,Wo,Wp,Wq,Wr,Ws,Wt,ne_eq,not_false_eq_true,not_true_eq_false,Wu,Wv,r115_0,r115_1,r115_2,r115_3,r115_4,r115_5,r115_6,r115_7,r115_8,r115_9,r115_10,r115_11,r115_12,r115_13,r115_14,r115_15,r115_16,p115,l115_1,hjl',sub1,sub2,sub3,← List.map_take,← List.map_drop,ones_len',hPl,hEl,gL,gP,gP0,hw,grps_len,Zt,hk,qf,hB',hC]) | (exfalso; omega)
                    all_goals exact again hJ (out ++ [⟨f, j, l[f].key, true, B, X⟩], j) (weak_mk (by simp only [Ww,Wx,Wy,Wz,V0,V1,Z4,Z5,Z6,Z7,Z8,Z9,Za,Zb,Zc,Zd,Ze,Zf,List.cons.injEq,Zg,Zh,Zi,Zj,Zk,Zl,Zm,Zn,Zo,Zp,beq_self_eq_true,bne_self_eq_false,decide_true,decide_false,Zq,Zr,Zs,Zt,Zu,Zv,Zw,Zx,Zy,Zz,Y0,hv,X0,ev,X1,X2,X3,X4,X5,X6,X7,X8,X9,Xa,Xb,Xc,Xd,Xe,Xf,Xg,Xh,Xi,Xj,Xk,Xl,Xm,Xn,Xo,Xp,Xq,Xr,Xs,Xt,Xu,Xv,Xw,Xx,Value.oneCell',Xy,Xz,W0,W1,true_and,and_true,and_self,implies_true,W2,W3,W4,W5,false_implies,W6,W7,W8,W9,Wa,Wb,Wc,Wd,We,Wf,Wg,Wh,Wi,Wj,Wk,Wl,Wm,reduceCtorEq,if_true,if_false,Wn,↓reduceIte,Wo,Wp,Wq,Wr,Ws,Wt,ne_eq,not_false_eq_true,not_true_eq_false,Wu,Nat.zero_ne_one]; refine ⟨by simp [Grp.av, hk], ?_⟩; rw [hst0 hf0])) (hinv _ (by rw [hGf]; simp only [hk, df, hB', hC, Bool.false_and, Bool.true_and, Bool.and_true, Bool.and_false, Bool.not_true, Bool.not_false, Bool.true_or, Bool.false_or])) (by simp only; omega)
                  · repeat' first | ((with_reducible (first | refine condD ?_ ?_ | refine condE ?_ ?_ | refine condN ?_ ?_ | refine condI ?_ ?_ | refine condS ?_ ?_)) <;> intro h) | ((with_reducible (first | refine guardD (by with_unfolding_all rfl) ?_ ?_ | refine guardE (by with_unfolding_all rfl) ?_ ?_ | refine guardN (by with_unfolding_all rfl) ?_ ?_ | refine guardI (by with_unfolding_all rfl) ?_ ?_ | refine guardS (by with_unfolding_all rfl) ?_ ?_)) <;> intro h) | ((refine callG c1 ?_)) | ((refine callG c2 ?_)) | ((refine callG c3 ?_)) | ((refine callG c4 ?_)) | (with_reducible refine And.intro ?_ ?_; omega) | (simp only [Z0,Z1,Z2,Z3,Z4,Z5,Z6,Z7,Z8,Z9,Za,Zb,Zc,Zd,Ze,Zf,List.cons.injEq,Zg,Zh,Zi,Zj,Zk,Zl,Zm,Zn,Zo,Zp,beq_self_eq_true,bne_self_eq_false,decide_true,decide_false,Zq,Zr,Zs,Zt,Zu,Zv,Zw,Zx,Zy,Zz,Y0,Y1,Y2,Y3,Y4,Y5,Y6,Y7,Y8,Y9,Ya,Yb,Yc,Yd,Ye,Yf,Yg,Yh,lk,ef,Yi,Yj,Yk,Yl,Ym,Yn,Yo,Yp,Yq,Yr,Ys,Yt,Yu,Yv,Yw,Yx,Yy,Yz,hv,X0,ev,X1,X2,X3,X4,X5,X6,X7,X8,X9,Xa,Xb,Xc,Xd,Xe,Xf,Xg,Xh,Xi,Xj,Xk,Xl,Xm,Xn,Xo,Xp,Xq,Xr,Xs,Xt,Xu,Xv,Xw,Xx,Value.oneCell',Xy,Xz,W0,W1,true_and,and_true,and_self,implies_true,W2,W3,W4,W5,false_implies,W6,W7,W8,W9,Wa,Wb,Wc,Wd,We,Wf,Wg,Wh,Wi,Wj,Wk,Wl,Wm,reduceCtorEq,if_true,if_false,Wn,↓reduceIte,Wo,Wp,Wq,Wr,Ws,Wt,ne_eq,not_false_eq_true,not_true_eq_false,Wu,Wv,r115_0,r115_1,r115_2,r115_3,r115_4,r115_5,r115_6,r115_7,r115_8,r115_9,r115_10,r115_11,r115_12,r115_13,r115_14,r115_15,r115_16,p115,l115_1,hjl',sub1,sub2,sub3,← List.map_take,← List.map_drop,ones_len',hPl,hEl,gL,gP,gP0,hw,grps_len,Zt,hk,qf,hB',hC]) | (exfalso; omega)
                    all_goals exact again hJ (out ++ [⟨f, j, l[f].key, false, B, X⟩], j) (weak_mk (by simp only [Ww,Wx,Wy,Wz,V0,V1,Z4,Z5,Z6,Z7,Z8,Z9,Za,Zb,Zc,Zd,Ze,Zf,List.cons.injEq,Zg,Zh,Zi,Zj,Zk,Zl,Zm,Zn,Zo,Zp,beq_self_eq_true,bne_self_eq_false,decide_true,decide_false,Zq,Zr,Zs,Zt,Zu,Zv,Zw,Zx,Zy,Zz,Y0,hv,X0,ev,X1,X2,X3,X4,X5,X6,X7,X8,X9,Xa,Xb,Xc,Xd,Xe,Xf,Xg,Xh,Xi,Xj,Xk,Xl,Xm,Xn,Xo,Xp,Xq,Xr,Xs,Xt,Xu,Xv,Xw,Xx,Value.oneCell',Xy,Xz,W0,W1,true_and,and_true,and_self,implies_true,W2,W3,W4,W5,false_implies,W6,W7,W8,W9,Wa,Wb,Wc,Wd,We,Wf,Wg,Wh,Wi,Wj,Wk,Wl,Wm,reduceCtorEq,if_true,if_false,Wn,↓reduceIte,Wo,Wp,Wq,Wr,Ws,Wt,ne_eq,not_false_eq_true,not_true_eq_false,Wu,Nat.zero_ne_one]; refine ⟨by simp [Grp.av, hk], ?_⟩; rw [hst0 hf0])) (hinv _ (by rw [hGf]; simp only [hk, df, hB', hC, Bool.false_and, Bool.true_and, Bool.and_true, Bool.and_false, Bool.not_true, Bool.not_false, Bool.true_or, Bool.false_or])) (by simp only; omega)
                · have hB' : (B == P[f]) = false := by rw [beq_eq_false_iff_ne]; exact hB
                  repeat' first | ((with_reducible (first | refine condD ?_ ?_ | refine condE ?_ ?_ | refine condN ?_ ?_ | refine condI ?_ ?_ | refine condS ?_ ?_)) <;> intro h) | ((with_reducible (first | refine guardD (by with_unfolding_all rfl) ?_ ?_ | refine guardE (by with_unfolding_all rfl) ?_ ?_ | refine guardN (by with_unfolding_all rfl) ?_ ?_ | refine guardI (by with_unfolding_all rfl) ?_ ?_ | refine guardS (by with_unfolding_all rfl) ?_ ?_)) <;> intro h) | ((refine callG c1 ?_)) | ((refine callG c2 ?_)) | ((refine callG c3 ?_)) | ((refine callG c4 ?_)) | (with_reducible refine And.intro ?_ ?_; omega) | (simp only [Z0,Z1,Z2,Z3,Z4,Z5,Z6,Z7,Z8,Z9,Za,Zb,Zc,Zd,Ze,Zf,List.cons.injEq,Zg,Zh,Zi,Zj,Zk,Zl,Zm,Zn,Zo,Zp,beq_self_eq_true,bne_self_eq_false,decide_true,decide_false,Zq,Zr,Zs,Zt,Zu,Zv,Zw,Zx,Zy,Zz,Y0,Y1,Y2,Y3,Y4,Y5,Y6,Y7,Y8,Y9,Ya,Yb,Yc,Yd,Ye,Yf,Yg,Yh,lk,ef,Yi,Yj,Yk,Yl,Ym,Yn,Yo,Yp,Yq,Yr,Ys,Yt,Yu,Yv,Yw,Yx,Yy,Yz,hv,X0,ev,X1,X2,X3,X4,X5,X6,X7,X8,X9,Xa,Xb,Xc,Xd,Xe,Xf,Xg,Xh,Xi,Xj,Xk,Xl,Xm,Xn,Xo,Xp,Xq,Xr,Xs,Xt,Xu,Xv,Xw,Xx,Value.oneCell',Xy,Xz,W0,W1,true_and,and_true,and_self,implies_true,W2,W3,W4,W5,false_implies,W6,W7,W8,W9,Wa,Wb,Wc,Wd,We,Wf,Wg,Wh,Wi,Wj,Wk,Wl,Wm,reduceCtorEq,if_true,if_false,Wn,↓reduceIte,Wo,Wp,Wq,Wr,Ws,Wt,ne_eq,not_false_eq_true,not_true_eq_false,Wu,Wv,r115_0,r115_1,r115_2,r115_3,r115_4,r115_5,r115_6,r115_7,r115_8,r115_9,r115_10,r115_11,r115_12,r115_13,r115_14,r115_15,r115_16,p115,l115_1,hjl',sub1,sub2,sub3,← List.map_take,← List.map_drop,ones_len',hPl,hEl,gL,gP,gP0,hw,grps_len,Zt,hk,qf,hB']) | (exfalso; omega)
                  all_goals exact again hJ (out ++ [⟨f, j, l[f].key, false, B, X⟩], j) (weak_mk (by simp only [Ww,Wx,Wy,Wz,V0,V1,Z4,Z5,Z6,Z7,Z8,Z9,Za,Zb,Zc,Zd,Ze,Zf,List.cons.injEq,Zg,Zh,Zi,Zj,Zk,Zl,Zm,Zn,Zo,Zp,beq_self_eq_true,bne_self_eq_false,decide_true,decide_false,Zq,Zr,Zs,Zt,Zu,Zv,Zw,Zx,Zy,Zz,Y0,hv,X0,ev,X1,X2,X3,X4,X5,X6,X7,X8,X9,Xa,Xb,Xc,Xd,Xe,Xf,Xg,Xh,Xi,Xj,Xk,Xl,Xm,Xn,Xo,Xp,Xq,Xr,Xs,Xt,Xu,Xv,Xw,Xx,Value.oneCell',Xy,Xz,W0,W1,true_and,and_true,and_self,implies_true,W2,W3,W4,W5,false_implies,W6,W7,W8,W9,Wa,Wb,Wc,Wd,We,Wf,Wg,Wh,Wi,Wj,Wk,Wl,Wm,reduceCtorEq,if_true,if_false,Wn,↓reduceIte,Wo,Wp,Wq,Wr,Ws,Wt,ne_eq,not_false_eq_true,not_true_eq_false,Wu,Nat.zero_ne_one]; refine ⟨by simp [Grp.av, hk], ?_⟩; rw [hst0 hf0])) (hinv _ (by rw [hGf]; simp only [hk, df, hB', Bool.false_and, Bool.true_and, Bool.and_true, Bool.and_false, Bool.not_true, Bool.not_false, Bool.true_or, Bool.false_or])) (by simp only; omega)
            · have qf : ((f : Int) == 0) = false := by rw [beq_eq_false_iff_ne]; omega
              have df : decide (f = 0) = false := by simp; omega
              cases hk : l[f].key
              · repeat' first | ((with_reducible (first | refine condD ?_ ?_ | refine condE ?_ ?_ | refine condN ?_ ?_ | refine condI ?_ ?_ | refine condS ?_ ?_)) <;> intro h) | ((with_reducible (first | refine guardD (by with_unfolding_all rfl) ?_ ?_ | refine guardE (by with_unfolding_all rfl) ?_ ?_ | refine guardN (by with_unfolding_all rfl) ?_ ?_ | refine guardI (by with_unfolding_all rfl) ?_ ?_ | refine guardS (by with_unfolding_all rfl) ?_ ?_)) <;> intro h) | ((refine callG c1 ?_)) | ((refine callG c2 ?_)) | ((refine callG c3 ?_)) | ((refine callG c4 ?_)) | (with_reducible refine And.intro ?_ ?_; omega) | (simp only [Z0,Z1,Z2,Z3,Z4,Z5,Z6,Z7,Z8,Z9,Za,Zb,Zc,Zd,Ze,Zf,List.cons.injEq,Zg,Zh,Zi,Zj,Zk,Zl,Zm,Zn,Zo,Zp,beq_self_eq_true,bne_self_eq_false,decide_true,decide_false,Zq,Zr,Zs,Zt,Zu,Zv,Zw,Zx,Zy,Zz,Y0,Y1,Y2,Y3,Y4,Y5,Y6,Y7,Y8,Y9,Ya,Yb,Yc,Yd,Ye,Yf,Yg,Yh,lk,ef,Yi,Yj,Yk,Yl,Ym,Yn,Yo,Yp,Yq,Yr,Ys,Yt,Yu,Yv,Yw,Yx,Yy,Yz,hv,X0,ev,X1,X2,X3,X4,X5,X6,X7,X8,X9,Xa,Xb,Xc,Xd,Xe,Xf,Xg,Xh,Xi,Xj,Xk,Xl,Xm,Xn,Xo,Xp,Xq,Xr,Xs,Xt,Xu,Xv,Xw,Xx,Value.oneCell',Xy,Xz,W0,W1,true_and,and_true,and_self,implies_true,W2,W3,W4,W5,false_implies,W6,W7,W8,W9,Wa,Wb,Wc,Wd,We,Wf,Wg,Wh,Wi,Wj,Wk,Wl,Wm,reduceCtorEq,if_true,if_false,Wn,↓reduceIte,Wo,Wp,Wq,Wr,Ws,Wt,ne_eq,not_false_eq_true,not_true_eq_false,Wu,Wv,r115_0,r115_1,r115_2,r115_3,r115_4,r115_5,r115_6,r115_7,r115_8,r115_9,r115_10,r115_11,r115_12,r115_13,r115_14,r115_15,r115_16,p115,l115_1,hjl',sub1,sub2,sub3,← List.map_take,← List.map_drop,ones_len',hPl,hEl,gL,gP,gP0,hw,grps_len,Zt,hk,qf]) | (exfalso; omega)
                all_goals exact again hJ (out ++ [⟨f, j, l[f].key, false, B, X⟩], j) (weak_mk (by simp only [Ww,Wx,Wy,Wz,V0,V1,Z4,Z5,Z6,Z7,Z8,Z9,Za,Zb,Zc,Zd,Ze,Zf,List.cons.injEq,Zg,Zh,Zi,Zj,Zk,Zl,Zm,Zn,Zo,Zp,beq_self_eq_true,bne_self_eq_false,decide_true,decide_false,Zq,Zr,Zs,Zt,Zu,Zv,Zw,Zx,Zy,Zz,Y0,hv,X0,ev,X1,X2,X3,X4,X5,X6,X7,X8,X9,Xa,Xb,Xc,Xd,Xe,Xf,Xg,Xh,Xi,Xj,Xk,Xl,Xm,Xn,Xo,Xp,Xq,Xr,Xs,Xt,Xu,Xv,Xw,Xx,Value.oneCell',Xy,Xz,W0,W1,true_and,and_true,and_self,implies_true,W2,W3,W4,W5,false_implies,W6,W7,W8,W9,Wa,Wb,Wc,Wd,We,Wf,Wg,Wh,Wi,Wj,Wk,Wl,Wm,reduceCtorEq,if_true,if_false,Wn,↓reduceIte,Wo,Wp,Wq,Wr,Ws,Wt,ne_eq,not_false_eq_true,not_true_eq_false,Wu,Nat.zero_ne_one]; refine ⟨by simp [Grp.av, hk], ?_⟩; rw [hst1 hf0])) (hinv _ (by rw [hGf]; simp only [hk, df, Bool.false_and, Bool.true_and, Bool.and_true, Bool.and_false, Bool.not_true, Bool.not_false, Bool.true_or, Bool.false_or])) (by simp only; omega)
              · by_cases hB : B = P[f]
                · have hB' : (B == P[f]) = true := by rw [beq_iff_eq]; exact hB
                  cases hC : C
                  · by_cases hLA : LA < B
                    · have dl : decide (LA < B) = true := decide_eq_true hLA
                      repeat' first | ((with_reducible (first | refine condD ?_ ?_ | refine condE ?_ ?_ | refine condN ?_ ?_ | refine condI ?_ ?_ | refine condS ?_ ?_)) <;> intro h) | ((with_reducible (first | refine guardD (by with_unfolding_all rfl) ?_ ?_ | refine guardE (by with_unfolding_all rfl) ?_ ?_ | refine guardN (by with_unfolding_all rfl) ?_ ?_ | refine guardI (by with_unfolding_all rfl) ?_ ?_ | refine guardS (by with_unfolding_all rfl) ?_ ?_)) <;> intro h) | ((refine callG c1 ?_)) | ((refine callG c2 ?_)) | ((refine callG c3 ?_)) | ((refine callG c4 ?_)) | (with_reducible refine And.intro ?_ ?_; omega) | (simp only [Z0,Z1,Z2,Z3,Z4,Z5,Z6,Z7,Z8,Z9,Za,Zb,Zc,Zd,Ze,Zf,List.cons.injEq,Zg,Zh,Zi,Zj,Zk,Zl,Zm,Zn,Zo,Zp,beq_self_eq_true,bne_self_eq_false,decide_true,decide_false,Zq,Zr,Zs,Zt,Zu,Zv,Zw,Zx,Zy,Zz,Y0,Y1,Y2,Y3,Y4,Y5,Y6,Y7,Y8,Y9,Ya,Yb,Yc,Yd,Ye,Yf,Yg,Yh,lk,ef,Yi,Yj,Yk,Yl,Ym,Yn,Yo,Yp,Yq,Yr,Ys,Yt,Yu,Yv,Yw,Yx,Yy,Yz,hv,X0,ev,X1,X2,X3,X4,X5,X6,X7,X8,X9,Xa,Xb,Xc,Xd,Xe,Xf,Xg,Xh,Xi,Xj,Xk,Xl,Xm,Xn,Xo,Xp,Xq,Xr,Xs,Xt,Xu,Xv,Xw,Xx,Value.oneCell',Xy,Xz,W0,W1,true_and,and_true,and_self,implies_true,W2,W3,W4,W5,false_implies,W6,W7,W8,W9,Wa,Wb,Wc,Wd,We,Wf,Wg,Wh,Wi,Wj,Wk,Wl,Wm,reduceCtorEq,if_true,if_false,Wn,↓reduceIte,Wo,Wp,Wq,Wr,Ws,Wt,ne_eq,not_false_eq_true,not_true_eq_false,Wu,Wv,r115_0,r115_1,r115_2,r115_3,r115_4,r115_5,r115_6,r115_7,r115_8,r115_9,r115_10,r115_11,r115_12,r115_13,r115_14,r115_15,r115_16,p115,l115_1,hjl',sub1,sub2,sub3,← List.map_take,← List.map_drop,ones_len',hPl,hEl,gL,gP,gP0,hw,grps_len,Zt,hk,qf,hB',hC,hLA]) | (exfalso; omega)
                      all_goals exact again hJ (out ++ [⟨f, j, l[f].key, true, B, X⟩], j) (weak_mk (by simp only [Ww,Wx,Wy,Wz,V0,V1,Z4,Z5,Z6,Z7,Z8,Z9,Za,Zb,Zc,Zd,Ze,Zf,List.cons.injEq,Zg,Zh,Zi,Zj,Zk,Zl,Zm,Zn,Zo,Zp,beq_self_eq_true,bne_self_eq_false,decide_true,decide_false,Zq,Zr,Zs,Zt,Zu,Zv,Zw,Zx,Zy,Zz,Y0,hv,X0,ev,X1,X2,X3,X4,X5,X6,X7,X8,X9,Xa,Xb,Xc,Xd,Xe,Xf,Xg,Xh,Xi,Xj,Xk,Xl,Xm,Xn,Xo,Xp,Xq,Xr,Xs,Xt,Xu,Xv,Xw,Xx,Value.oneCell',Xy,Xz,W0,W1,true_and,and_true,and_self,implies_true,W2,W3,W4,W5,false_implies,W6,W7,W8,W9,Wa,Wb,Wc,Wd,We,Wf,Wg,Wh,Wi,Wj,Wk,Wl,Wm,reduceCtorEq,if_true,if_false,Wn,↓reduceIte,Wo,Wp,Wq,Wr,Ws,Wt,ne_eq,not_false_eq_true,not_true_eq_false,Wu,Nat.zero_ne_one]; refine ⟨by simp [Grp.av, hk], ?_⟩; rw [hst1 hf0])) (hinv _ (by rw [hGf]; simp only [hk, df, hB', hC, dl, Bool.false_and, Bool.true_and, Bool.and_true, Bool.and_false, Bool.not_true, Bool.not_false, Bool.true_or, Bool.false_or])) (by simp only; omega)
                    · have dl : decide (LA < B) = false := decide_eq_false hLA
                      repeat' first | ((with_reducible (first | refine condD ?_ ?_ | refine condE ?_ ?_ | refine condN ?_ ?_ | refine condI ?_ ?_ | refine condS ?_ ?_)) <;> intro h) | ((with_reducible (first | refine guardD (by with_unfolding_all rfl) ?_ ?_ | refine guardE (by with_unfolding_all rfl) ?_ ?_ | refine guardN (by with_unfolding_all rfl) ?_ ?_ | refine guardI (by with_unfolding_all rfl) ?_ ?_ | refine guardS (by with_unfolding_all rfl) ?_ ?_)) <;> intro h) | ((refine callG c1 ?_)) | ((refine callG c2 ?_)) | ((refine callG c3 ?_)) | ((refine callG c4 ?_)) | (with_reducible refine And.intro ?_ ?_; omega) | (simp only [Z0,Z1,Z2,Z3,Z4,Z5,Z6,Z7,Z8,Z9,Za,Zb,Zc,Zd,Ze,Zf,List.cons.injEq,Zg,Zh,Zi,Zj,Zk,Zl,Zm,Zn,Zo,Zp,beq_self_eq_true,bne_self_eq_false,decide_true,decide_false,Zq,Zr,Zs,Zt,Zu,Zv,Zw,Zx,Zy,Zz,Y0,Y1,Y2,Y3,Y4,Y5,Y6,Y7,Y8,Y9,Ya,Yb,Yc,Yd,Ye,Yf,Yg,Yh,lk,ef,Yi,Yj,Yk,Yl,Ym,Yn,Yo,Yp,Yq,Yr,Ys,Yt,Yu,Yv,Yw,Yx,Yy,Yz,hv,X0,ev,X1,X2,X3,X4,X5,X6,X7,X8,X9,Xa,Xb,Xc,Xd,Xe,Xf,Xg,Xh,Xi,Xj,Xk,Xl,Xm,Xn,Xo,Xp,Xq,Xr,Xs,Xt,Xu,Xv,Xw,Xx,Value.oneCell',Xy,Xz,W0,W1,true_and,and_true,and_self,implies_true,W2,W3,W4,W5,false_implies,W6,W7,W8,W9,Wa,Wb,Wc,Wd,We,Wf,Wg,Wh,Wi,Wj,Wk,Wl,Wm,reduceCtorEq,if_true,if_false,Wn,↓reduceIte,Wo,Wp,Wq,Wr,Ws,Wt,ne_eq,not_false_eq_true,not_true_eq_false,Wu,Wv,r115_0,r115_1,r115_2,r115_3,r115_4,r115_5,r115_6,r115_7,r115_8,r115_9,r115_10,r115_11,r115_12,r115_13,r115_14,r115_15,r115_16,p115,l115_1,hjl',sub1,sub2,sub3,← List.map_take,← List.map_drop,ones_len',hPl,hEl,gL,gP,gP0,hw,grps_len,Zt,hk,qf,hB',hC,hLA]) | (exfalso; omega)
                      all_goals exact again hJ (out ++ [⟨f, j, l[f].key, false, B, X⟩], j) (weak_mk (by simp only [Ww,Wx,Wy,Wz,V0,V1,Z4,Z5,Z6,Z7,Z8,Z9,Za,Zb,Zc,Zd,Ze,Zf,List.cons.injEq,Zg,Zh,Zi,Zj,Zk,Zl,Zm,Zn,Zo,Zp,beq_self_eq_true,bne_self_eq_false,decide_true,decide_false,Zq,Zr,Zs,Zt,Zu,Zv,Zw,Zx,Zy,Zz,Y0,hv,X0,ev,X1,X2,X3,X4,X5,X6,X7,X8,X9,Xa,Xb,Xc,Xd,Xe,Xf,Xg,Xh,Xi,Xj,Xk,Xl,Xm,Xn,Xo,Xp,Xq,Xr,Xs,Xt,Xu,Xv,Xw,Xx,Value.oneCell',Xy,Xz,W0,W1,true_and,and_true,and_self,implies_true,W2,W3,W4,W5,false_implies,W6,W7,W8,W9,Wa,Wb,Wc,Wd,We,Wf,Wg,Wh,Wi,Wj,Wk,Wl,Wm,reduceCtorEq,if_true,if_false,Wn,↓reduceIte,Wo,Wp,Wq,Wr,Ws,Wt,ne_eq,not_false_eq_true,not_true_eq_false,Wu,Nat.zero_ne_one]; refine ⟨by simp [Grp.av, hk], ?_⟩; rw [hst1 hf0])) (hinv _ (by rw [hGf]; simp only [hk, df, hB', hC, dl, Bool.false_and, Bool.true_and, Bool.and_true, Bool.and_false, Bool.not_true, Bool.not_false, Bool.true_or, Bool.false_or])) (by simp only; omega)
                  · repeat' first | ((with_reducible (first | refine condD ?_ ?_ | refine condE ?_ ?_ | refine condN ?_ ?_ | refine condI ?_ ?_ | refine condS ?_ ?_)) <;> intro h) | ((with_reducible (first | refine guardD (by with_unfolding_all rfl) ?_ ?_ | refine guardE (by with_unfolding_all rfl) ?_ ?_ | refine guardN (by with_unfolding_all rfl) ?_ ?_ | refine guardI (by with_unfolding_all rfl) ?_ ?_ | refine guardS (by with_unfolding_all rfl) ?_ ?_)) <;> intro h) | ((refine callG c1 ?_)) | ((refine callG c2 ?_)) | ((refine callG c3 ?_)) | ((refine callG c4 ?_)) | (with_reducible refine And.intro ?_ ?_; omega) | (simp only [Z0,Z1,Z2,Z3,Z4,Z5,Z6,Z7,Z8,Z9,Za,Zb,Zc,Zd,Ze,Zf,List.cons.injEq,Zg,Zh,Zi,Zj,Zk,Zl,Zm,Zn,Zo,Zp,beq_self_eq_true,bne_self_eq_false,decide_true,decide_false,Zq,Zr,Zs,Zt,Zu,Zv,Zw,Zx,Zy,Zz,Y0,Y1,Y2,Y3,Y4,Y5,Y6,Y7,Y8,Y9,Ya,Yb,Yc,Yd,Ye,Yf,Yg,Yh,lk,ef,Yi,Yj,Yk,Yl,Ym,Yn,Yo,Yp,Yq,Yr,Ys,Yt,Yu,Yv,Yw,Yx,Yy,Yz,hv,X0,ev,X1,X2,X3,X4,X5,X6,X7,X8,X9,Xa,Xb,Xc,Xd,Xe,Xf,Xg,Xh,Xi,Xj,Xk,Xl,Xm,Xn,Xo,Xp,Xq,Xr,Xs,Xt,Xu,Xv,Xw,Xx,Value.oneCell',Xy,Xz,W0,W1,true_and,and_true,and_self,implies_true,W2,W3,W4,W5,false_implies,W6,W7,W8,W9,Wa,Wb,Wc,Wd,We,Wf,Wg,Wh,Wi,Wj,Wk,Wl,Wm,reduceCtorEq,if_true,if_false,Wn,↓reduceIte,Wo,Wp,Wq,Wr,Ws,Wt,ne_eq,not_false_eq_true,not_true_eq_false,Wu,Wv,r115_0,r115_1,r115_2,r115_3,r115_4,r115_5,r115_6,r115_7,r115_8,r115_9,r115_10,r115_11,r115_12,r115_13,r115_14,r115_15,r115_16,p115,l115_1,hjl',sub1,sub2,sub3,← List.map_take,← List.map_drop,ones_len',hPl,hEl,gL,gP,gP0,hw,grps_len,Zt,hk,qf,hB',hC]) | (exfalso; omega)
                    all_goals exact again hJ (out ++ [⟨f, j, l[f].key, false, B, X⟩], j) (weak_mk (by simp only [Ww,Wx,Wy,Wz,V0,V1,Z4,Z5,Z6,Z7,Z8,Z9,Za,Zb,Zc,Zd,Ze,Zf,List.cons.injEq,Zg,Zh,Zi,Zj,Zk,Zl,Zm,Zn,Zo,Zp,beq_self_eq_true,bne_self_eq_false,decide_true,decide_false,Zq,Zr,Zs,Zt,Zu,Zv,Zw,Zx,Zy,Zz,Y0,hv,X0,ev,X1,X2,X3,X4,X5,X6,X7,X8,X9,Xa,Xb,Xc,Xd,Xe,Xf,Xg,Xh,Xi,Xj,Xk,Xl,Xm,Xn,Xo,Xp,Xq,Xr,Xs,Xt,Xu,Xv,Xw,Xx,Value.oneCell',Xy,Xz,W0,W1,true_and,and_true,and_self,implies_true,W2,W3,W4,W5,false_implies,W6,W7,W8,W9,Wa,Wb,Wc,Wd,We,Wf,Wg,Wh,Wi,Wj,Wk,Wl,Wm,reduceCtorEq,if_true,if_false,Wn,↓reduceIte,Wo,Wp,Wq,Wr,Ws,Wt,ne_eq,not_false_eq_true,not_true_eq_false,Wu,Nat.zero_ne_one]; refine ⟨by simp [Grp.av, hk], ?_⟩; rw [hst1 hf0])) (hinv _ (by rw [hGf]; simp only [hk, df, hB', hC, Bool.false_and, Bool.true_and, Bool.and_true, Bool.and_false, Bool.not_true, Bool.not_false, Bool.true_or, Bool.false_or])) (by simp only; omega)
                · have hB' : (B == P[f]) = false := by rw [beq_eq_false_iff_ne]; exact hB
                  repeat' first | ((with_reducible (first | refine condD ?_ ?_ | refine condE ?_ ?_ | refine condN ?_ ?_ | refine condI ?_ ?_ | refine condS ?_ ?_)) <;> intro h) | ((with_reducible (first | refine guardD (by with_unfolding_all rfl) ?_ ?_ | refine guardE (by with_unfolding_all rfl) ?_ ?_ | refine guardN (by with_unfolding_all rfl) ?_ ?_ | refine guardI (by with_unfolding_all rfl) ?_ ?_ | refine guardS (by with_unfolding_all rfl) ?_ ?_)) <;> intro h) | ((refine callG c1 ?_)) | ((refine callG c2 ?_)) | ((refine callG c3 ?_)) | ((refine callG c4 ?_)) | (with_reducible refine And.intro ?_ ?_; omega) | (simp only [Z0,Z1,Z2,Z3,Z4,Z5,Z6,Z7,Z8,Z9,Za,Zb,Zc,Zd,Ze,Zf,List.cons.injEq,Zg,Zh,Zi,Zj,Zk,Zl,Zm,Zn,Zo,Zp,beq_self_eq_true,bne_self_eq_false,decide_true,decide_false,Zq,Zr,Zs,Zt,Zu,Zv,Zw,Zx,Zy,Zz,Y0,Y1,Y2,Y3,Y4,Y5,Y6,Y7,Y8,Y9,Ya,Yb,Yc,Yd,Ye,Yf,Yg,Yh,lk,ef,Yi,Yj,Yk,Yl,Ym,Yn,Yo,Yp,Yq,Yr,Ys,Yt,Yu,Yv,Yw,Yx,Yy,Yz,hv,X0,ev,X1,X2,X3,X4,X5,X6,X7,X8,X9,Xa,Xb,Xc,Xd,Xe,Xf,Xg,Xh,Xi,Xj,Xk,Xl,Xm,Xn,Xo,Xp,Xq,Xr,Xs,Xt,Xu,Xv,Xw,Xx,Value.oneCell',Xy,Xz,W0,W1,true_and,and_true,and_self,implies_true,W2,W3,W4,W5,false_implies,W6,W7,W8,W9,Wa,Wb,Wc,Wd,We,Wf,Wg,Wh,Wi,Wj,Wk,Wl,Wm,reduceCtorEq,if_true,if_false,Wn,↓reduceIte,Wo,Wp,Wq,Wr,Ws,Wt,ne_eq,not_false_eq_true,not_true_eq_false,Wu,Wv,r115_0,r115_1,r115_2,r115_3,r115_4,r115_5,r115_6,r115_7,r115_8,r115_9,r115_10,r115_11,r115_12,r115_13,r115_14,r115_15,r115_16,p115,l115_1,hjl',sub1,sub2,sub3,← List.map_take,← List.map_drop,ones_len',hPl,hEl,gL,gP,gP0,hw,grps_len,Zt,hk,qf,hB']) | (exfalso; omega)
                  all_goals exact again hJ (out ++ [⟨f, j, l[f].key, false, B, X⟩], j) (weak_mk (by simp only [Ww,Wx,Wy,Wz,V0,V1,Z4,Z5,Z6,Z7,Z8,Z9,Za,Zb,Zc,Zd,Ze,Zf,List.cons.injEq,Zg,Zh,Zi,Zj,Zk,Zl,Zm,Zn,Zo,Zp,beq_self_eq_true,bne_self_eq_false,decide_true,decide_false,Zq,Zr,Zs,Zt,Zu,Zv,Zw,Zx,Zy,Zz,Y0,hv,X0,ev,X1,X2,X3,X4,X5,X6,X7,X8,X9,Xa,Xb,Xc,Xd,Xe,Xf,Xg,Xh,Xi,Xj,Xk,Xl,Xm,Xn,Xo,Xp,Xq,Xr,Xs,Xt,Xu,Xv,Xw,Xx,Value.oneCell',Xy,Xz,W0,W1,true_and,and_true,and_self,implies_true,W2,W3,W4,W5,false_implies,W6,W7,W8,W9,Wa,Wb,Wc,Wd,We,Wf,Wg,Wh,Wi,Wj,Wk,Wl,Wm,reduceCtorEq,if_true,if_false,Wn,↓reduceIte,Wo,Wp,Wq,Wr,Ws,Wt,ne_eq,not_false_eq_true,not_true_eq_false,Wu,Nat.zero_ne_one]; refine ⟨by simp [Grp.av, hk], ?_⟩; rw [hst1 hf0])) (hinv _ (by rw [hGf]; simp only [hk, df, hB', Bool.false_and, Bool.true_and, Bool.and_true, Bool.and_false, Bool.not_true, Bool.not_false, Bool.true_or, Bool.false_or])) (by simp only; omega)
    · have hfe : f = l.length := by omega
      subst hfe
      have : groupsGo l u l.length = [] := by
        cases u with
        | zero => rfl
        | succ u => rw [groupsGo, if_neg (by omega)]
      rw [this, List.append_nil] at hgo
      subst hgo
      repeat' first | ((with_reducible (first | refine condD ?_ ?_ | refine condE ?_ ?_ | refine condN ?_ ?_ | refine condI ?_ ?_ | refine condS ?_ ?_)) <;> intro h) | ((with_reducible (first | refine guardD (by with_unfolding_all rfl) ?_ ?_ | refine guardE (by with_unfolding_all rfl) ?_ ?_ | refine guardN (by with_unfolding_all rfl) ?_ ?_ | refine guardI (by with_unfolding_all rfl) ?_ ?_ | refine guardS (by with_unfolding_all rfl) ?_ ?_)) <;> intro h) | (with_reducible refine And.intro ?_ ?_; omega) | (simp only [Z0,Z1,Z2,Z3,Z4,Z5,Z6,Z7,Z8,Z9,Za,Zb,Zc,Zd,Ze,Zf,List.cons.injEq,Zg,Zh,Zi,Zj,Zk,Zl,Zm,Zn,Zo,Zp,beq_self_eq_true,bne_self_eq_false,decide_true,decide_false,Zq,Zr,Zs,Zt,Zu,Zv,Zw,Zx,Zy,Zz,Y0,Y1,Y2,Y3,Y4,Y5,Y6,Y7,Y8,Y9,Ya,Yb,Yc,Yd,Ye,Yf,Yg,Yh,lk,ef,Yi,Yj,Yk,Yl,Ym,Yn,Yo,Yp,Yq,Yr,Ys,Yt,Yu,Yv,Yw,Yx,Yy,Yz,hv,X0,ev,X1,X2,X3,X4,X5,X6,X7,X8,X9,Xa,Xb,Xc,Xd,Xe,Xf,Xg,Xh,Xi,Xj,Xk,Xl,Xm,Xn,Xo,Xp,Xq,Xr,Xs,Xt,Xu,Xv,Xw,Xx,Value.oneCell',Xy,Xz,W0,W1,true_and,and_true,and_self,implies_true,W2,W3,W4,W5,false_implies,W6,W7,W8,W9,Wa,Wb,Wc,Wd,We,Wf,Wg,Wh,Wi,Wj,Wk,Wl,Wm,reduceCtorEq,if_true,if_false,Wn,↓reduceIte,Wo,Wp,Wq,Wr,Ws,Wt,ne_eq,not_false_eq_true,not_true_eq_false,Wu,Wv,r115_0,r115_1,r115_2,r115_3,r115_4,r115_5,r115_6,r115_7,r115_8,r115_9,r115_10,r115_11,r115_12,r115_13,r115_14,r115_15,r115_16,p115,l115_0]) | (exfalso; omega)
end Go.Proofs.Ytpecmhdepggnoaa
/- Groups with the validation, by the machine on data. -/
namespace Go.Proofs.Ytpecmhdepggnoaa
open Go.RowKit
set_option linter.unusedSimpArgs false

theorem groupsGo_len (l : List Smp) : ∀ u f, (groupsGo l u f).length ≤ u
  | 0, f => by simp [groupsGo]
  | u + 1, f => by
    unfold groupsGo
    split
    · have := groupsGo_len l u (toOf l f)
      simp; omega
    · simp
def groupsF (l : List Smp) : List Grp × Int := if smpF l ≠ 0 then ([], smpF l) else (groupsL l, 0)
/-! headend/sample.Groups -/
def r108_0 : List POp := [⟨2, .asg .nil, none⟩,
  ⟨3, .asg (.c (.int .i64 0)), none⟩]
def r108_1 : List POp := [⟨5, .mv (.t 0), none⟩,
  ⟨6, .call 40 [.t 5], none⟩,
  ⟨4, .asg (.t 6), none⟩]
def r108_2 : List POp := [⟨7, .mv (.t 4), none⟩,
  ⟨8, .bin .neq (.t 7) (.c (.int .i64 0)), none⟩]
def r108_3 : List POp := [⟨9, .mv (.t 4), none⟩,
  ⟨2, .asg .nil, none⟩,
  ⟨3, .mv (.t 9), none⟩]
def r108_4 : List POp := [⟨10, .mv (.t 0), none⟩,
  ⟨11, .call 115 [.t 10], none⟩,
  ⟨2, .asg (.t 11), none⟩,
  ⟨3, .asg (.c (.int .i64 0)), none⟩]
def p108 : PCode := .seq (.ops r108_0) (.seq (.seq (.ops r108_1) (.seq (.ops r108_2) (.cond (.t 8) (.seq (.ops r108_3) (.ret)) (.skip)))) (.seq (.ops r108_4) (.ret)))
theorem ok108 : okFunc Try.prog 108 [.t 2, .t 3] 1 p108 = true := by kernel_rfl
theorem groupsF_c (l : List Smp) : CallOK Try.prog 108 [.ro (l.map Smp.av)] (.tup [.ro ((groupsF l).1.map Grp.av), .val (.int .i64 (groupsF l).2)]) := by
  refine call_of mixed ok108 rfl ?_
  have hs := smp_c l
  by_cases h0 : smpF l = 0
  · obtain ⟨a, b, _⟩ := smpF_0 h0
    rw [h0] at hs
    repeat' first | ((with_reducible (first | refine condD ?_ ?_ | refine condE ?_ ?_ | refine condN ?_ ?_ | refine condI ?_ ?_ | refine condS ?_ ?_)) <;> intro h) | ((with_reducible (first | refine guardD (by with_unfolding_all rfl) ?_ ?_ | refine guardE (by with_unfolding_all rfl) ?_ ?_ | refine guardN (by with_unfolding_all rfl) ?_ ?_ | refine guardI (by with_unfolding_all rfl) ?_ ?_ | refine guardS (by with_unfolding_all rfl) ?_ ?_)) <;> intro h) | ((refine callG hs ?_)) | ((refine callG (groups_c l a b) ?_)) | (with_reducible refine And.intro ?_ ?_; omega) | (simp only [done_eq, done_eq', donet_eq, donet_eq', fin_val, fin_tup, fin_agg, fin_ro, res_one, res_more, rv_t, rv_c, rv_l, AV.tup.injEq, AV.agg.injEq, AV.ro.injEq, List.cons.injEq, int_eq, bool_eq, Int.toNat_natCast, Int.reduceToNat, Int.toNat_zero, Int.toNat_one, Int.reduceLE, Int.reduceLT, Int.reduceBEq, Int.reduceBNe, beq_self_eq_true, bne_self_eq_false, decide_true, decide_false,  Int.reduceNeg, toNat_pred, toNat_succ, List.length_map, cnd_t, cnd_f, grd_tt, grd_u, grd_tf, grd_ft, grd_ff, g_skip, g_ops, g_seq, g_block, g_exit, g_ret, x_c, x_o, x_l, x_b, g_b, g_nil, r_all, o_nil, g_cond, o_guard, o_call, o_callm, o_callt, o_callx, o_callv, lk, ef, o_mv, o_pick, o_bin, o_never, o_eqs, o_eqb, o_un, o_conv, o_load, o_loadr, o_idxr, o_loads, o_fld, o_idx, o_idxs, o_len, o_lens, o_ext, o_nilck, o_slc, o_slcs, o_build, o_minmax, o_mkfn, o_alloc, o_box, o_boxs, o_row, o_rowr, o_mk, o_asg, o_app, o_store, o_stores, o_eqnil, hv, eqAV, ev, view_t, view_c, view_nil, view_fn, look_own, look_box, look_junk, look_val, look_nilsl, look_ro, look_roAt, look_agg, look_tup, look_clo, look_alias, look_ref, look_into, rowOf, cellsOf, argv, vbin, vun, bnd, elemOf, putParts, setAt, zav, ASt.rid, ASt.free, AV.kill, AV.isHome, AV.noLoan, AV.cellOK, Value.oneCell', put_at, mk_at, mk_nil, initSt, true_and, and_true, and_self, implies_true, List.map_cons, List.map_nil, List.forall_mem_cons, List.not_mem_nil, false_implies, List.length_cons, List.length_nil, List.getD_cons_zero, List.getD_cons_succ, List.getD_nil, List.drop_succ_cons, List.drop_zero, List.take_succ_cons, List.take_zero, List.set_cons_zero, List.set_cons_succ, List.all_cons, List.all_nil, Bool.and_true, Bool.true_and, Bool.not_true, Bool.not_false, reduceCtorEq, if_true, if_false, Bool.false_eq_true, ↓reduceIte, Nat.reduceEqDiff, Nat.reduceAdd, Nat.reduceSub, Nat.reduceMul, Nat.reduceLeDiff, Nat.reduceLT, ne_eq, not_false_eq_true, not_true_eq_false, Nat.one_ne_zero, Nat.zero_ne_one, r108_0, r108_1, r108_2, r108_3, r108_4, p108]) | (exfalso; omega)
    all_goals simp [groupsF, h0]
  · repeat' first | ((with_reducible (first | refine condD ?_ ?_ | refine condE ?_ ?_ | refine condN ?_ ?_ | refine condI ?_ ?_ | refine condS ?_ ?_)) <;> intro h) | ((with_reducible (first | refine guardD (by with_unfolding_all rfl) ?_ ?_ | refine guardE (by with_unfolding_all rfl) ?_ ?_ | refine guardN (by with_unfolding_all rfl) ?_ ?_ | refine guardI (by with_unfolding_all rfl) ?_ ?_ | refine guardS (by with_unfolding_all rfl) ?_ ?_)) <;> intro h) | ((refine callG hs ?_)) | (with_reducible refine And.intro ?_ ?_; omega) | (simp only [done_eq, done_eq', donet_eq, donet_eq', fin_val, fin_tup, fin_agg, fin_ro, res_one, res_more, rv_t, rv_c, rv_l, AV.tup.injEq, AV.agg.injEq, AV.ro.injEq, List.cons.injEq, int_eq, bool_eq, Int.toNat_natCast, Int.reduceToNat, Int.toNat_zero, Int.toNat_one, Int.reduceLE, Int.reduceLT, Int.reduceBEq, Int.reduceBNe, beq_self_eq_true, bne_self_eq_false, decide_true, decide_false,  Int.reduceNeg, toNat_pred, toNat_succ, List.length_map, cnd_t, cnd_f, grd_tt, grd_u, grd_tf, grd_ft, grd_ff, g_skip, g_ops, g_seq, g_block, g_exit, g_ret, x_c, x_o, x_l, x_b, g_b, g_nil, r_all, o_nil, g_cond, o_guard, o_call, o_callm, o_callt, o_callx, o_callv, lk, ef, o_mv, o_pick, o_bin, o_never, o_eqs, o_eqb, o_un, o_conv, o_load, o_loadr, o_idxr, o_loads, o_fld, o_idx, o_idxs, o_len, o_lens, o_ext, o_nilck, o_slc, o_slcs, o_build, o_minmax, o_mkfn, o_alloc, o_box, o_boxs, o_row, o_rowr, o_mk, o_asg, o_app, o_store, o_stores, o_eqnil, hv, eqAV, ev, view_t, view_c, view_nil, view_fn, look_own, look_box, look_junk, look_val, look_nilsl, look_ro, look_roAt, look_agg, look_tup, look_clo, look_alias, look_ref, look_into, rowOf, cellsOf, argv, vbin, vun, bnd, elemOf, putParts, setAt, zav, ASt.rid, ASt.free, AV.kill, AV.isHome, AV.noLoan, AV.cellOK, Value.oneCell', put_at, mk_at, mk_nil, initSt, true_and, and_true, and_self, implies_true, List.map_cons, List.map_nil, List.forall_mem_cons, List.not_mem_nil, false_implies, List.length_cons, List.length_nil, List.getD_cons_zero, List.getD_cons_succ, List.getD_nil, List.drop_succ_cons, List.drop_zero, List.take_succ_cons, List.take_zero, List.set_cons_zero, List.set_cons_succ, List.all_cons, List.all_nil, Bool.and_true, Bool.true_and, Bool.not_true, Bool.not_false, reduceCtorEq, if_true, if_false, Bool.false_eq_true, ↓reduceIte, Nat.reduceEqDiff, Nat.reduceAdd, Nat.reduceSub, Nat.reduceMul, Nat.reduceLeDiff, Nat.reduceLT, ne_eq, not_false_eq_true, not_true_eq_false, Nat.one_ne_zero, Nat.zero_ne_one, r108_0, r108_1, r108_2, r108_3, r108_4, p108, bne0_t h0, beq0_f h0]) | (exfalso; omega)
    all_goals simp [groupsF, h0]
end Go.Proofs.Ytpecmhdepggnoaa
