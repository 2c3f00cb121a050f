/- Places: in which bounds they are. -/
import Derived.Test.YtjeemcpdmiajmaaGreatDoorKFind
import Derived.Test.YtjeemcpdmiajmaaGreatDoorKMoved
namespace Go.Proofs.YtjeemcpdmiajmaaGreatDoor
open Go.RowKit
set_option linter.unusedSimpArgs false

theorem getD_at {α : Type} {l : List α} {k : Nat} {d : α} (h : k < l.length) : l.getD k d = l[k] := by rw [List.getD_eq_getElem?_getD, List.getElem?_eq_getElem h]; rfl
theorem groupsGo_mem {l : List Smp} : ∀ {u f : Nat} {g : Grp}, g ∈ groupsGo l u f → ∃ f', f ≤ f' ∧ f' < l.length ∧ g = grpAt l f'
  | 0, _, _, h => by simp [groupsGo] at h
  | u + 1, f, g, h => by
    unfold groupsGo at h
    split at h
    · rename_i hf
      rcases List.mem_cons.1 h with rfl | h
      · exact ⟨f, Nat.le_refl _, hf, rfl⟩
      · obtain ⟨f', h1, h2, h3⟩ := groupsGo_mem h
        have := toOf_bd hf
        exact ⟨f', by omega, h2, h3⟩
    · simp at h
theorem plOf_mem {gs : List Grp} {p : Int × Nat} (h : p ∈ plOf gs) : ∃ g ∈ gs, g.closed = true ∧ p = (g.beg, g.frm) := by
  unfold plOf at h
  obtain ⟨g, hg, rfl⟩ := List.mem_map.1 h
  obtain ⟨h1, h2⟩ := List.mem_filter.1 hg
  exact ⟨g, h1, h2, rfl⟩
theorem placesL_mem {l : List Smp} (hs : smpF l = 0) {p : Int × Nat} (h : p ∈ placesL l) : ∃ f, f < l.length ∧ (grpAt l f).closed = true ∧ p = ((grpAt l f).beg, f) := by
  unfold placesL groupsF at h
  rw [if_neg (by simp [hs])] at h
  obtain ⟨g, hg, hc, rfl⟩ := plOf_mem h
  obtain ⟨f, _, hf, rfl⟩ := groupsGo_mem hg
  exact ⟨f, hf, hc, rfl⟩
theorem placesL_bd {l : List Smp} (hs : smpF l = 0) : ∀ p ∈ placesL l, -2000000000000000 ≤ p.1 ∧ p.1 ≤ 2000000000000000 := by
  intro p hp
  obtain ⟨f, hf, hc, rfl⟩ := placesL_mem hs hp
  obtain ⟨t1, t2⟩ := toOf_bd hf
  have hPl := presL_len l
  have := (minOf_is (sub_ne (P := presL l) (f := f) (t := toOf l f) (by omega) (by omega))).1
  obtain ⟨i, hi, h1, h2, h3⟩ := sub_mem this
  have hb := pres_bd (smpF_0 hs).2.1 _ (List.getElem_mem (show i < (presL l).length by omega))
  simp only [grpAt]
  rw [h3]
  exact hb
theorem placesL_len (l : List Smp) : (placesL l).length ≤ 5000 := Nat.le_trans (plOf_len _) (groupsF_len l)
def scale0 : List Str → Int
  | [] => 0
  | s :: _ => s.scale
def StrOK (r : Str) : Prop := smpF r.smps = 0 ∧ 0 < r.smps.length ∧ 1 ≤ r.scale ∧ r.scale ≤ 1000000000
theorem strF_ok {r : Str} {e : List Str} (h : strF r e = 0) : StrOK r := by
  unfold strF at h
  split at h
  · cases h
  split at h
  · cases h
  unfold strF2 at h
  split at h
  · cases h
  rename_i h1
  split at h
  · rename_i h2; exact absurd h h2
  rename_i h2
  split at h
  · cases h
  rename_i h3
  have := noScale_bd (by simpa using h1)
  exact ⟨by simpa using h2, by omega, this.1, this.2⟩
theorem findF_yes {l : List (Int × Nat)} {own time scale : Int} (h : (findF l own time scale).2 = true) : (findF l own time scale).1 ∈ l ∧ cmpP (findF l own time scale).1 own time scale = 0 := by
  have hle : bsL l own time scale ≤ l.length := bsGo_le (Nat.zero_le _) (Nat.le_refl _)
  unfold findF at h ⊢
  generalize bsL l own time scale = R at *
  split at h
  · cases h
  rename_i h1
  split at h
  · cases h
  rename_i h2
  rw [if_neg h1, if_neg h2]
  have hlt : R < l.length := by omega
  refine ⟨?_, by simpa using h2⟩
  simp only [List.getD_eq_getElem?_getD, List.getElem?_eq_getElem hlt, Option.getD_some]
  exact List.getElem_mem hlt
theorem cmp3_0 {a b : Int} (h : cmp3 a b = 0) : a = b := by
  unfold cmp3 at h
  split at h
  · cases h
  · split at h
    · cases h
    · omega
theorem lastK_ge' {P : List Int} {f i : Nat} (hi : i < P.length) (h : i < f) : P[i] ≤ lastK P f := by
  have n1 : P.take f ≠ [] := fun e => by have := congrArg List.length e; rw [List.length_take, List.length_nil] at this; omega
  rw [show lastK P f = Go.Lib.maxOf (P.take f) from if_neg (by omega)]
  exact (maxOf_is n1).2 _ (List.mem_take_iff_getElem.2 ⟨i, by omega, rfl⟩)
theorem closed_beg {l : List Smp} {f : Nat} (h : (grpAt l f).closed = true) : (grpAt l f).beg = (presL l).getD f 0 ∧ (f = 0 ∨ lastK (presL l) f < (grpAt l f).beg) := by
  simp only [grpAt, closedB, Bool.and_eq_true, beq_iff_eq, Bool.or_eq_true, decide_eq_true_eq] at h ⊢
  exact ⟨h.1.1.2, h.2⟩
end Go.Proofs.YtjeemcpdmiajmaaGreatDoor
/- cut.Common, Places, by the machine on data. -/
namespace Go.Proofs.YtjeemcpdmiajmaaGreatDoor
open Go.RowKit
open Go.Proofs.YtjeemcpdmiajmaaGreatDoor renaming done_eq → Z0, done_eq' → Z1, donet_eq → Z2, donet_eq' → Z3, fin_val → Z4, fin_tup → Z5, fin_agg → Z6, fin_ro → Z7, res_one → Z8, res_more → Z9, rv_t → Za, rv_c → Zb, rv_l → Zc, int_eq → Zg, bool_eq → Zh, toNat_pred → Zr, toNat_succ → Zs, cnd_t → Zu, cnd_f → Zv, grd_tt → Zw, grd_u → Zx, grd_tf → Zy, grd_ft → Zz, grd_ff → Y0, g_skip → Y1, g_ops → Y2, g_seq → Y3, g_block → Y4, g_exit → Y5, g_ret → Y6, x_c → Y7, x_o → Y8, x_l → Y9, x_b → Ya, g_b → Yb, g_nil → Yc, r_all → Yd, o_nil → Ye, g_cond → Yf, o_guard → Yg, o_call → Yh, o_mv → Yi, o_bin → Yj, o_load → Yk, o_loads → Yl, o_fld → Ym, o_idx → Yn, o_len → Yo, o_ext → Yp, o_slc → Yq, o_alloc → Yr, o_boxs → Ys, o_row → Yt, o_asg → Yu, o_app → Yv, o_stores → Yw, eqAV → Yx, view_t → Yy, view_c → Yz, view_nil → X0, view_fn → X1, look_own → X2, look_box → X3, look_junk → X4, look_val → X5, look_nilsl → X6, look_ro → X7, look_roAt → X8, look_agg → X9, look_tup → Xa, look_clo → Xb, look_alias → Xc, look_ref → Xd, look_into → Xe, rowOf → Xf, cellsOf → Xg, argv → Xh, vbin → Xi, vun → Xj, bnd → Xk, elemOf → Xl, putParts → Xm, setAt → Xn, zav → Xo, put_at → Xv, mk_at → Xw, mk_nil → Xx, initSt → Xy, wk_cons → Wt, wk_nil → Wu, vint_eq → Wv, vbool_eq → Ww
open Go.Proofs.YtjeemcpdmiajmaaGreatDoor.AV.tup renaming injEq → Zd
open Go.Proofs.YtjeemcpdmiajmaaGreatDoor.AV.agg renaming injEq → Ze
open Go.Proofs.YtjeemcpdmiajmaaGreatDoor.AV.ro renaming injEq → Zf
open _root_.Int renaming toNat_natCast → Zi, reduceToNat → Zj, toNat_zero → Zk, toNat_one → Zl, reduceLE → Zm, reduceLT → Zn, reduceBEq → Zo, reduceBNe → Zp, reduceNeg → Zq
open _root_.List renaming length_map → Zt, map_cons → Xz, map_nil → W0, forall_mem_cons → W1, not_mem_nil → W2, length_cons → W3, length_nil → W4, getD_cons_zero → W5, getD_cons_succ → W6, getD_nil → W7, drop_succ_cons → W8, drop_zero → W9, take_succ_cons → Wa, take_zero → Wb, set_cons_zero → Wc, set_cons_succ → Wd, all_cons → We, all_nil → Wf
open Go.Proofs.YtjeemcpdmiajmaaGreatDoor.ASt renaming rid → Xp, free → Xq
open Go.Proofs.YtjeemcpdmiajmaaGreatDoor.AV renaming kill → Xr, isHome → Xs, noLoan → Xt, cellOK → Xu
open _root_.Bool renaming and_true → Wg, true_and → Wh, not_true → Wi, not_false → Wj, false_eq_true → Wk
open _root_.Nat renaming reduceEqDiff → Wl, reduceAdd → Wm, reduceSub → Wn, reduceMul → Wo, reduceLeDiff → Wp, reduceLT → Wq, one_ne_zero → Wr, zero_ne_one → Ws
open Go.Proofs.YtjeemcpdmiajmaaGreatDoor.AV.val renaming injEq → Wx
set_option linter.unusedSimpArgs false

def hasP (sc : Int) (r : Str) (p : Int × Nat) : Bool := (findF (placesL r.smps) r.scale p.1 sc).2
def leftGo (sc : Int) : List Str → List (Int × Nat) → List (Int × Nat)
  | [], left => left
  | r :: t, left => leftGo sc t (if r.sound then left else left.filter (hasP sc r))
def smps0 : List Str → List Smp
  | [] => []
  | s :: _ => s.smps
def commonF (l : List Str) : List Int × Int := if rendF l ≠ 0 then ([], rendF l) else ((leftGo (scale0 l) (l.drop 1) (placesL (smps0 l))).map Prod.fst, 0)
theorem leftGo_len {sc : Int} : ∀ {t : List Str} {left : List (Int × Nat)}, (leftGo sc t left).length ≤ left.length
  | [], _ => Nat.le_refl _
  | r :: t, left => by
    rw [leftGo]
    refine Nat.le_trans leftGo_len ?_
    split
    · exact Nat.le_refl _
    · exact List.length_filter_le _ _
theorem leftGo_sub {sc : Int} : ∀ {t : List Str} {left : List (Int × Nat)}, (leftGo sc t left).Sublist left ∧ ∀ r ∈ t, r.sound = false → ∀ x ∈ leftGo sc t left, hasP sc r x = true
  | [], _ => ⟨List.Sublist.refl _, by simp⟩
  | r :: t, left => by
    rw [leftGo]
    obtain ⟨h1, h2⟩ := @leftGo_sub sc t (if r.sound then left else left.filter (hasP sc r))
    refine ⟨h1.trans ?_, fun q hq hs x hx => ?_⟩
    · split
      · exact List.Sublist.refl _
      · exact List.filter_sublist
    · rcases List.mem_cons.1 hq with rfl | hq
      · have := h1.subset hx
        rw [hs, if_neg (by simp)] at this
        exact (List.mem_filter.1 this).2
      · exact h2 q hq hs x hx
/-! ### Places rise -/
theorem closed_up {l : List Smp} {f g : Nat} (hfg : f < g) (hg : g < l.length) (h1 : (grpAt l f).closed = true) (h2 : (grpAt l g).closed = true) : (grpAt l f).beg < (grpAt l g).beg := by
  obtain ⟨a1, _⟩ := closed_beg h1
  obtain ⟨b1, b2⟩ := closed_beg h2
  have hfp : f < (presL l).length := by rw [presL_len]; omega
  have := lastK_ge' hfp hfg
  rw [getD_at hfp] at a1
  rcases b2 with b2 | b2 <;> omega
theorem groupsGo_up {l : List Smp} : ∀ (u f : Nat), (groupsGo l u f).Pairwise (fun a b => a.closed = true → b.closed = true → a.beg < b.beg)
  | 0, _ => by rw [groupsGo]; exact List.Pairwise.nil
  | u + 1, f => by
    rw [groupsGo]
    split
    · rename_i hf
      refine List.pairwise_cons.2 ⟨fun b hb h1 h2 => ?_, groupsGo_up u _⟩
      obtain ⟨g, hg1, hg2, rfl⟩ := groupsGo_mem hb
      have := toOf_bd hf
      exact closed_up (by omega) hg2 h1 h2
    · exact List.Pairwise.nil
theorem plOf_up {gs : List Grp} (h : gs.Pairwise (fun a b => a.closed = true → b.closed = true → a.beg < b.beg)) : (plOf gs).Pairwise (fun a b => a.1 < b.1) := by
  unfold plOf
  rw [List.pairwise_map, List.pairwise_filter]
  exact h.imp fun q a b => q a b
theorem placesL_up (l : List Smp) : (placesL l).Pairwise (fun a b => a.1 < b.1) := by
  unfold placesL groupsF
  split
  · simp [plOf]
  · exact plOf_up (groupsGo_up _ _)
def placesF (r : Str) : List Int × Int := if strF r [] ≠ 0 then ([], strF r []) else ((placesL r.smps).map Prod.fst, 0)
/-! headend/cut.Places -/
def r9_0 : List POp := [⟨1, .boxs (.t 0), none⟩,
  ⟨2, .asg .nil, none⟩,
  ⟨3, .asg (.c (.int .i64 0)), none⟩]
def r9_1 : List POp := [⟨8, .loads 4 (.t 1), none⟩,
  ⟨9, .call 16 [.t 8, .nil], none⟩,
  ⟨4, .asg (.t 9), none⟩]
def r9_2 : List POp := [⟨10, .mv (.t 4), none⟩,
  ⟨11, .bin .neq (.t 10) (.c (.int .i64 0)), none⟩]
def r9_3 : List POp := [⟨12, .mv (.t 4), none⟩,
  ⟨2, .asg .nil, none⟩,
  ⟨3, .mv (.t 12), none⟩]
def r9_4 : List POp := [⟨5, .asg .nil, none⟩]
def r9_5 : List POp := [⟨13, .loads 4 (.t 1), none⟩,
  ⟨14, .call 12 [.t 13], none⟩,
  ⟨15, .len (.t 14), none⟩,
  ⟨16, .mv (.c (.int .i64 0)), none⟩]
def r9_6 : List POp := [⟨17, .bin .lss (.t 16) (.t 15), none⟩]
def r9_7 : List POp := [⟨18, .idx 2 (.t 14) (.t 16), none⟩,
  ⟨19, .loads 2 (.t 18), none⟩,
  ⟨7, .alloc [.int .i64 0, .int .i64 0], none⟩,
  ⟨0, .stores 2 (.t 7) (.t 19), none⟩]
def r9_8 : List POp := [⟨20, .mv (.t 5), none⟩,
  ⟨21, .fld 0 (.t 7), none⟩,
  ⟨22, .load (.t 21), none⟩,
  ⟨23, .row 3 1 [.t 22], none⟩,
  ⟨24, .app 3 1 8 (.t 20) (.t 23), none⟩,
  ⟨5, .asg (.t 24), none⟩]
def r9_9 : List POp := [⟨25, .bin .add (.t 16) (.c (.int .i64 1)), none⟩,
  ⟨16, .mv (.t 25), none⟩]
def r9_10 : List POp := [⟨26, .mv (.t 5), none⟩,
  ⟨2, .asg (.t 26), none⟩,
  ⟨3, .asg (.c (.int .i64 0)), none⟩]
def l9_0 : PCode := .seq (.ops r9_6) (.seq (.cond (.t 17) (.skip) (.exit 0)) (.seq (.block 1 (.seq (.ops r9_7) (.ops r9_8))) (.ops r9_9)))
def p9 : PCode := .seq (.ops r9_0) (.seq (.seq (.ops r9_1) (.seq (.ops r9_2) (.cond (.t 11) (.seq (.ops r9_3) (.ret)) (.skip)))) (.seq (.ops r9_4) (.seq (.seq (.ops r9_5) (.block 0 (.loop l9_0))) (.seq (.ops r9_10) (.ret)))))
theorem ok9 : okFunc Tryz.prog 9 [.t 2, .t 3] 1 p9 = true := by kernel_rfl
theorem cplaces_c (r : Str) : CallOK Tryz.prog 9 [.agg r.av] (.tup [.ro ((placesF r).1.map oneI), .val (.int .i64 (placesF r).2)]) := by
  refine call_of mixed ok9 rfl ?_
  have hs := strand_c r [] (by simp)
  have hG := places_c r
  have hl := placesL_len r.smps
  simp only [List.map_nil, Str.av] at hs hG ⊢
  by_cases h0 : strF r [] = 0
  case neg =>
    rw [show placesF r = ([], strF r []) from if_pos h0]
    repeat' first | ((with_reducible (first | refine condD ?_ ?_ | refine condE ?_ ?_ | refine condN ?_ ?_ | refine condI ?_ ?_ | refine condS ?_ ?_)) <;> intro h) | ((refine callG hs ?_)) | (with_reducible refine And.intro ?_ ?_; omega) | (simp only [Z0,Z1,Z2,Z3,Z4,Z5,Z6,Z7,Z8,Z9,Za,Zb,Zc,Zd,Ze,Zf,List.cons.injEq,Zg,Zh,Zi,Zj,Zk,Zl,Zm,Zn,Zo,Zp,beq_self_eq_true,bne_self_eq_false,decide_true,decide_false,Zq,Zr,Zs,Zt,Zu,Zv,Zw,Zx,Zy,Zz,Y0,Y1,Y2,Y3,Y4,Y5,Y6,Y7,Y8,Y9,Ya,Yb,Yc,Yd,Ye,Yf,Yg,Yh,lk,ef,Yi,Yj,Yk,Yl,Ym,Yn,Yo,Yr,Ys,Yt,Yu,Yv,Yw,hv,Yx,ev,Yy,Yz,X0,X1,X2,X3,X4,X5,X6,X7,X8,X9,Xa,Xb,Xc,Xd,Xe,Xf,Xg,Xh,Xi,Xj,Xk,Xl,Xm,Xn,Xo,Xp,Xq,Xr,Xs,Xt,Xu,Value.oneCell',Xv,Xw,Xx,Xy,true_and,and_true,and_self,implies_true,Xz,W0,W1,W2,false_implies,W3,W4,W5,W6,W7,W8,W9,Wa,Wb,Wc,Wd,We,Wf,Wg,Wh,Wi,Wj,reduceCtorEq,if_true,if_false,Wk,↓reduceIte,Wl,Wm,Wn,Wo,Wp,Wq,ne_eq,not_false_eq_true,not_true_eq_false,Wr,Ws,r9_0,r9_1,r9_2,r9_3,r9_4,r9_5,r9_6,r9_7,r9_8,r9_9,r9_10,p9,bne0_t h0]) | (exfalso; omega)
  rw [show placesF r = ((placesL r.smps).map Prod.fst, 0) from if_neg (by simp [h0])]
  rw [h0] at hs
  generalize placesL r.smps = L at *
  repeat' first | ((with_reducible (first | refine condD ?_ ?_ | refine condE ?_ ?_ | refine condN ?_ ?_ | refine condI ?_ ?_ | refine condS ?_ ?_)) <;> intro h) | ((refine callG hs ?_)) | ((refine callG hG ?_)) | (with_reducible refine And.intro ?_ ?_; omega) | (simp only [Z0,Z1,Z2,Z3,Z4,Z5,Z6,Z7,Z8,Z9,Za,Zb,Zc,Zd,Ze,Zf,List.cons.injEq,Zg,Zh,Zi,Zj,Zk,Zl,Zm,Zn,Zo,Zp,beq_self_eq_true,bne_self_eq_false,decide_true,decide_false,Zq,Zr,Zs,Zt,Zu,Zv,Zw,Zx,Zy,Zz,Y0,Y1,Y2,Y3,Y4,Y5,Y6,Y7,Y8,Y9,Ya,Yb,Yc,Yd,Ye,Yf,Yg,Yh,lk,ef,Yi,Yj,Yk,Yl,Ym,Yn,Yo,Yr,Ys,Yt,Yu,Yv,Yw,hv,Yx,ev,Yy,Yz,X0,X1,X2,X3,X4,X5,X6,X7,X8,X9,Xa,Xb,Xc,Xd,Xe,Xf,Xg,Xh,Xi,Xj,Xk,Xl,Xm,Xn,Xo,Xp,Xq,Xr,Xs,Xt,Xu,Value.oneCell',Xv,Xw,Xx,Xy,true_and,and_true,and_self,implies_true,Xz,W0,W1,W2,false_implies,W3,W4,W5,W6,W7,W8,W9,Wa,Wb,Wc,Wd,We,Wf,Wg,Wh,Wi,Wj,reduceCtorEq,if_true,if_false,Wk,↓reduceIte,Wl,Wm,Wn,Wo,Wp,Wq,ne_eq,not_false_eq_true,not_true_eq_false,Wr,Ws,r9_0,r9_1,r9_2,r9_3,r9_4,r9_5,r9_6,r9_7,r9_8,r9_9,r9_10,p9,List.length_map]) | (exfalso; omega)
  refine loopS (fun k : Nat => mk [(5, .own 3 1 (((L.take k).map Prod.fst).map oneI)), (14, .ro (L.map plAV)), (15, .val (.int .i64 L.length)), (16, .val (.int .i64 k))]) (fun k => k ≤ L.length) (fun k => L.length - k) 0 (weak_mk ?_) (Nat.zero_le _) ?_
  · simp only [Wt,Wu,wk1,Wv,Ww,Wx,Z4,Z5,Z6,Z7,Z8,Z9,Za,Zb,Zc,Zd,Ze,Zf,List.cons.injEq,Zg,Zh,Zi,Zj,Zk,Zl,Zm,Zn,Zo,Zp,beq_self_eq_true,bne_self_eq_false,decide_true,decide_false,Zq,Zr,Zs,Zt,Zu,Zv,Zw,Zx,Zy,Zz,Y0,hv,Yx,ev,Yy,Yz,X0,X1,X2,X3,X4,X5,X6,X7,X8,X9,Xa,Xb,Xc,Xd,Xe,Xf,Xg,Xh,Xi,Xj,Xk,Xl,Xm,Xn,Xo,Xp,Xq,Xr,Xs,Xt,Xu,Value.oneCell',Xv,Xw,Xx,Xy,true_and,and_true,and_self,implies_true,Xz,W0,W1,W2,false_implies,W3,W4,W5,W6,W7,W8,W9,Wa,Wb,Wc,Wd,We,Wf,Wg,Wh,Wi,Wj,reduceCtorEq,if_true,if_false,Wk,↓reduceIte,Wl,Wm,Wn,Wo,Wp,Wq,ne_eq,not_false_eq_true,not_true_eq_false,Wr,Nat.zero_ne_one]
    simp
  rintro J hJ k hk
  simp only [Z0,Z1,Z2,Z3,Z4,Z5,Z6,Z7,Z8,Z9,Za,Zb,Zc,Zd,Ze,Zf,List.cons.injEq,Zg,Zh,Zi,Zj,Zk,Zl,Zm,Zn,Zo,Zp,beq_self_eq_true,bne_self_eq_false,decide_true,decide_false,Zq,Zr,Zs,Zt,Zu,Zv,Zw,Zx,Zy,Zz,Y0,Y1,Y2,Y3,Y4,Y5,Y6,Y7,Y8,Y9,Ya,Yb,Yc,Yd,Ye,Yf,Yg,Yh,lk,ef,Yi,Yj,Yk,Yl,Ym,Yn,Yo,Yr,Ys,Yt,Yu,Yv,Yw,hv,Yx,ev,Yy,Yz,X0,X1,X2,X3,X4,X5,X6,X7,X8,X9,Xa,Xb,Xc,Xd,Xe,Xf,Xg,Xh,Xi,Xj,Xk,Xl,Xm,Xn,Xo,Xp,Xq,Xr,Xs,Xt,Xu,Value.oneCell',Xv,Xw,Xx,Xy,true_and,and_true,and_self,implies_true,Xz,W0,W1,W2,false_implies,W3,W4,W5,W6,W7,W8,W9,Wa,Wb,Wc,Wd,We,Wf,Wg,Wh,Wi,Wj,reduceCtorEq,if_true,if_false,Wk,↓reduceIte,Wl,Wm,Wn,Wo,Wp,Wq,ne_eq,not_false_eq_true,not_true_eq_false,Wr,Ws,r9_0,r9_1,r9_2,r9_3,r9_4,r9_5,r9_6,r9_7,r9_8,r9_9,r9_10,p9,l9_0]
  refine condD (fun h => ?_) (fun h => ?_)
  · have hlt : k < L.length := by omega
    have hw := i_add1 k (by omega)
    have gK := getD_map (f := plAV) (d := []) hlt
    simp only [plAV] at gK
    have happ : ((L.take k).map Prod.fst).map oneI ++ [[.val (.int .i64 L[k].1)]] = ((L.take (k + 1)).map Prod.fst).map oneI := by rw [List.take_succ_eq_append_getElem hlt, List.map_append, List.map_append]; rfl
    repeat' first | ((with_reducible (first | refine condD ?_ ?_ | refine condE ?_ ?_ | refine condN ?_ ?_ | refine condI ?_ ?_ | refine condS ?_ ?_)) <;> intro h) | (with_reducible refine And.intro ?_ ?_; omega) | (simp only [Z0,Z1,Z2,Z3,Z4,Z5,Z6,Z7,Z8,Z9,Za,Zb,Zc,Zd,Ze,Zf,List.cons.injEq,Zg,Zh,Zi,Zj,Zk,Zl,Zm,Zn,Zo,Zp,beq_self_eq_true,bne_self_eq_false,decide_true,decide_false,Zq,Zr,Zs,Zt,Zu,Zv,Zw,Zx,Zy,Zz,Y0,Y1,Y2,Y3,Y4,Y5,Y6,Y7,Y8,Y9,Ya,Yb,Yc,Yd,Ye,Yf,Yg,Yh,lk,ef,Yi,Yj,Yk,Yl,Ym,Yn,Yo,Yr,Ys,Yt,Yu,Yv,Yw,hv,Yx,ev,Yy,Yz,X0,X1,X2,X3,X4,X5,X6,X7,X8,X9,Xa,Xb,Xc,Xd,Xe,Xf,Xg,Xh,Xi,Xj,Xk,Xl,Xm,Xn,Xo,Xp,Xq,Xr,Xs,Xt,Xu,Value.oneCell',Xv,Xw,Xx,Xy,true_and,and_true,and_self,implies_true,Xz,W0,W1,W2,false_implies,W3,W4,W5,W6,W7,W8,W9,Wa,Wb,Wc,Wd,We,Wf,Wg,Wh,Wi,Wj,reduceCtorEq,if_true,if_false,Wk,↓reduceIte,Wl,Wm,Wn,Wo,Wp,Wq,ne_eq,not_false_eq_true,not_true_eq_false,Wr,Ws,r9_0,r9_1,r9_2,r9_3,r9_4,r9_5,r9_6,r9_7,r9_8,r9_9,r9_10,p9,l9_0,gK,happ,Zt,List.length_take]) | (exfalso; omega)
    all_goals first | omega | exact again hJ (k + 1) (weak_mk (by simp only [Wt,Wu,wk1,Wv,Ww,Wx,Z4,Z5,Z6,Z7,Z8,Z9,Za,Zb,Zc,Zd,Ze,Zf,List.cons.injEq,Zg,Zh,Zi,Zj,Zk,Zl,Zm,Zn,Zo,Zp,beq_self_eq_true,bne_self_eq_false,decide_true,decide_false,Zq,Zr,Zs,Zt,Zu,Zv,Zw,Zx,Zy,Zz,Y0,hv,Yx,ev,Yy,Yz,X0,X1,X2,X3,X4,X5,X6,X7,X8,X9,Xa,Xb,Xc,Xd,Xe,Xf,Xg,Xh,Xi,Xj,Xk,Xl,Xm,Xn,Xo,Xp,Xq,Xr,Xs,Xt,Xu,Value.oneCell',Xv,Xw,Xx,Xy,true_and,and_true,and_self,implies_true,Xz,W0,W1,W2,false_implies,W3,W4,W5,W6,W7,W8,W9,Wa,Wb,Wc,Wd,We,Wf,Wg,Wh,Wi,Wj,reduceCtorEq,if_true,if_false,Wk,↓reduceIte,Wl,Wm,Wn,Wo,Wp,Wq,ne_eq,not_false_eq_true,not_true_eq_false,Wr,Nat.zero_ne_one]; exact hw)) (by omega) (by omega)
  · have hke : k = L.length := by omega
    subst hke
    rw [List.take_length]
    clear hJ
    repeat' first | ((with_reducible (first | refine condD ?_ ?_ | refine condE ?_ ?_ | refine condN ?_ ?_ | refine condI ?_ ?_ | refine condS ?_ ?_)) <;> intro h) | (with_reducible refine And.intro ?_ ?_; omega) | (simp only [Z0,Z1,Z2,Z3,Z4,Z5,Z6,Z7,Z8,Z9,Za,Zb,Zc,Zd,Ze,Zf,List.cons.injEq,Zg,Zh,Zi,Zj,Zk,Zl,Zm,Zn,Zo,Zp,beq_self_eq_true,bne_self_eq_false,decide_true,decide_false,Zq,Zr,Zs,Zt,Zu,Zv,Zw,Zx,Zy,Zz,Y0,Y1,Y2,Y3,Y4,Y5,Y6,Y7,Y8,Y9,Ya,Yb,Yc,Yd,Ye,Yf,Yg,Yh,lk,ef,Yi,Yj,Yk,Yl,Ym,Yn,Yo,Yr,Ys,Yt,Yu,Yv,Yw,hv,Yx,ev,Yy,Yz,X0,X1,X2,X3,X4,X5,X6,X7,X8,X9,Xa,Xb,Xc,Xd,Xe,Xf,Xg,Xh,Xi,Xj,Xk,Xl,Xm,Xn,Xo,Xp,Xq,Xr,Xs,Xt,Xu,Value.oneCell',Xv,Xw,Xx,Xy,true_and,and_true,and_self,implies_true,Xz,W0,W1,W2,false_implies,W3,W4,W5,W6,W7,W8,W9,Wa,Wb,Wc,Wd,We,Wf,Wg,Wh,Wi,Wj,reduceCtorEq,if_true,if_false,Wk,↓reduceIte,Wl,Wm,Wn,Wo,Wp,Wq,ne_eq,not_false_eq_true,not_true_eq_false,Wr,Ws,r9_0,r9_1,r9_2,r9_3,r9_4,r9_5,r9_6,r9_7,r9_8,r9_9,r9_10,p9,l9_0]) | (exfalso; omega)
theorem filter_take {α : Type} {f : α → Bool} {l : List α} {k : Nat} (h : k < l.length) : (l.take (k + 1)).filter f = (l.take k).filter f ++ if f l[k] then [l[k]] else [] := by
  rw [List.take_succ_eq_append_getElem h, List.filter_append, List.filter_cons]
  split <;> simp
theorem smps0_bd {l : List Str} (h : rendF l = 0) : ∀ p ∈ placesL (smps0 l), -2000000000000000 ≤ p.1 ∧ p.1 ≤ 2000000000000000 := by
  cases l with
  | nil => simp [rendF] at h
  | cons s t => exact placesL_bd (strF_ok ((rendF_0 h).2.2 0 (by simp))).1
/-! headend/cut.Common -/
def r4_0 : List POp := [⟨2, .asg .nil, none⟩,
  ⟨3, .asg (.c (.int .i64 0)), none⟩]
def r4_1 : List POp := [⟨17, .mv (.t 0), none⟩,
  ⟨18, .call 6 [.t 17], none⟩,
  ⟨4, .asg (.t 18), none⟩]
def r4_2 : List POp := [⟨19, .mv (.t 4), none⟩,
  ⟨20, .bin .neq (.t 19) (.c (.int .i64 0)), none⟩]
def r4_3 : List POp := [⟨21, .mv (.t 4), none⟩,
  ⟨2, .asg .nil, none⟩,
  ⟨3, .mv (.t 21), none⟩]
def r4_4 : List POp := [⟨22, .mv (.t 0), none⟩,
  ⟨23, .idx 4 (.t 22) (.c (.int .i64 0)), none⟩,
  ⟨24, .loads 4 (.t 23), none⟩,
  ⟨25, .call 12 [.t 24], none⟩,
  ⟨5, .asg (.t 25), none⟩]
def r4_5 : List POp := [⟨26, .mv (.t 0), none⟩,
  ⟨27, .slc (some (.c (.int .i64 1))) none 4 (.t 26), none⟩,
  ⟨28, .len (.t 27), none⟩,
  ⟨29, .mv (.c (.int .i64 0)), none⟩]
def r4_6 : List POp := [⟨30, .bin .lss (.t 29) (.t 28), none⟩]
def r4_7 : List POp := [⟨31, .idx 4 (.t 27) (.t 29), none⟩,
  ⟨32, .loads 4 (.t 31), none⟩,
  ⟨7, .alloc [.string ⟨#[]⟩, .int .i64 0, .bool false, .slice none 0 0], none⟩,
  ⟨0, .stores 4 (.t 7) (.t 32), none⟩]
def r4_8 : List POp := [⟨33, .fld 2 (.t 7), none⟩,
  ⟨34, .load (.t 33), none⟩]
def r4_9 : List POp := [⟨35, .loads 4 (.t 7), none⟩,
  ⟨36, .call 12 [.t 35], none⟩,
  ⟨8, .asg (.t 36), none⟩]
def r4_10 : List POp := [⟨9, .asg .nil, none⟩]
def r4_11 : List POp := [⟨37, .mv (.t 5), none⟩,
  ⟨38, .len (.t 37), none⟩,
  ⟨39, .mv (.c (.int .i64 0)), none⟩]
def r4_12 : List POp := [⟨40, .bin .lss (.t 39) (.t 38), none⟩]
def r4_13 : List POp := [⟨41, .idx 2 (.t 37) (.t 39), none⟩,
  ⟨42, .loads 2 (.t 41), none⟩,
  ⟨11, .alloc [.int .i64 0, .int .i64 0], none⟩,
  ⟨0, .stores 2 (.t 11) (.t 42), none⟩]
def r4_14 : List POp := [⟨44, .mv (.t 8), none⟩,
  ⟨45, .fld 1 (.t 7), none⟩,
  ⟨46, .load (.t 45), none⟩,
  ⟨47, .fld 0 (.t 11), none⟩,
  ⟨48, .load (.t 47), none⟩,
  ⟨49, .mv (.t 0), none⟩,
  ⟨50, .idx 4 (.t 49) (.c (.int .i64 0)), none⟩,
  ⟨51, .fld 1 (.t 50), none⟩,
  ⟨52, .load (.t 51), none⟩,
  ⟨53, .call 13 [.t 44, .t 46, .t 48, .t 52], none⟩,
  ⟨43, .mv (.t 53), none⟩,
  ⟨54, .ext 0 (.t 43), none⟩,
  ⟨55, .ext 1 (.t 43), none⟩,
  ⟨12, .alloc [.int .i64 0, .int .i64 0], none⟩,
  ⟨0, .stores 2 (.t 12) (.t 54), none⟩,
  ⟨13, .mv (.t 55), none⟩]
def r4_15 : List POp := [⟨56, .mv (.t 13), none⟩]
def r4_16 : List POp := [⟨57, .mv (.t 9), none⟩,
  ⟨58, .loads 2 (.t 11), none⟩,
  ⟨59, .row 38 2 [.t 58], none⟩,
  ⟨60, .app 38 2 16 (.t 57) (.t 59), none⟩,
  ⟨9, .asg (.t 60), none⟩]
def r4_17 : List POp := [⟨61, .bin .add (.t 39) (.c (.int .i64 1)), none⟩,
  ⟨39, .mv (.t 61), none⟩]
def r4_18 : List POp := [⟨62, .mv (.t 9), none⟩,
  ⟨5, .asg (.t 62), none⟩]
def r4_19 : List POp := [⟨63, .bin .add (.t 29) (.c (.int .i64 1)), none⟩,
  ⟨29, .mv (.t 63), none⟩]
def r4_20 : List POp := [⟨14, .asg .nil, none⟩]
def r4_21 : List POp := [⟨64, .mv (.t 5), none⟩,
  ⟨65, .len (.t 64), none⟩,
  ⟨66, .mv (.c (.int .i64 0)), none⟩]
def r4_22 : List POp := [⟨67, .bin .lss (.t 66) (.t 65), none⟩]
def r4_23 : List POp := [⟨68, .idx 2 (.t 64) (.t 66), none⟩,
  ⟨69, .loads 2 (.t 68), none⟩,
  ⟨16, .alloc [.int .i64 0, .int .i64 0], none⟩,
  ⟨0, .stores 2 (.t 16) (.t 69), none⟩]
def r4_24 : List POp := [⟨70, .mv (.t 14), none⟩,
  ⟨71, .fld 0 (.t 16), none⟩,
  ⟨72, .load (.t 71), none⟩,
  ⟨73, .row 3 1 [.t 72], none⟩,
  ⟨74, .app 3 1 8 (.t 70) (.t 73), none⟩,
  ⟨14, .asg (.t 74), none⟩]
def r4_25 : List POp := [⟨75, .bin .add (.t 66) (.c (.int .i64 1)), none⟩,
  ⟨66, .mv (.t 75), none⟩]
def r4_26 : List POp := [⟨76, .mv (.t 14), none⟩,
  ⟨2, .asg (.t 76), none⟩,
  ⟨3, .asg (.c (.int .i64 0)), none⟩]
def l4_2 : PCode := .seq (.ops r4_22) (.seq (.cond (.t 67) (.skip) (.exit 4)) (.seq (.block 5 (.seq (.ops r4_23) (.ops r4_24))) (.ops r4_25)))
def l4_1 : PCode := .seq (.ops r4_12) (.seq (.cond (.t 40) (.skip) (.exit 2)) (.seq (.block 3 (.seq (.ops r4_13) (.seq (.ops r4_14) (.seq (.ops r4_15) (.cond (.t 56) (.ops r4_16) (.skip)))))) (.ops r4_17)))
def l4_0 : PCode := .seq (.ops r4_6) (.seq (.cond (.t 30) (.skip) (.exit 0)) (.seq (.block 1 (.seq (.ops r4_7) (.seq (.seq (.ops r4_8) (.cond (.t 34) (.exit 1) (.skip))) (.seq (.ops r4_9) (.seq (.ops r4_10) (.seq (.seq (.ops r4_11) (.block 2 (.loop l4_1))) (.ops r4_18))))))) (.ops r4_19)))
def p4 : PCode := .seq (.ops r4_0) (.seq (.seq (.ops r4_1) (.seq (.ops r4_2) (.cond (.t 20) (.seq (.ops r4_3) (.ret)) (.skip)))) (.seq (.ops r4_4) (.seq (.seq (.ops r4_5) (.block 0 (.loop l4_0))) (.seq (.ops r4_20) (.seq (.seq (.ops r4_21) (.block 4 (.loop l4_2))) (.seq (.ops r4_26) (.ret)))))))
theorem ok4 : okFunc Tryz.prog 4 [.t 2, .t 3] 1 p4 = true := by kernel_rfl
set_option maxHeartbeats 2000000 in
theorem common_c' (l : List Str) : CallOK Tryz.prog 4 [.ro (l.map Str.av)] (.tup [.ro ((commonF l).1.map oneI), .val (.int .i64 (commonF l).2)]) := by
  refine call_of mixed ok4 rfl ?_
  have hc := rend_c l
  by_cases h0 : rendF l = 0
  case neg =>
    rw [show commonF l = ([], rendF l) from if_pos h0]
    repeat' first | ((with_reducible (first | refine condD ?_ ?_ | refine condE ?_ ?_ | refine condN ?_ ?_ | refine condI ?_ ?_ | refine condS ?_ ?_)) <;> intro h) | ((refine callG hc ?_)) | (with_reducible refine And.intro ?_ ?_; omega) | (simp only [Z0,Z1,Z2,Z3,Z4,Z5,Z6,Z7,Z8,Z9,Za,Zb,Zc,Zd,Ze,Zf,List.cons.injEq,Zg,Zh,Zi,Zj,Zk,Zl,Zm,Zn,Zo,Zp,beq_self_eq_true,bne_self_eq_false,decide_true,decide_false,Zq,Zr,Zs,Zt,Zu,Zv,Zw,Zx,Zy,Zz,Y0,Y1,Y2,Y3,Y4,Y5,Y6,Y7,Y8,Y9,Ya,Yb,Yc,Yd,Ye,Yf,Yg,Yh,lk,ef,Yi,Yj,Yk,Yl,Ym,Yn,Yo,Yp,Yq,Yr,Yt,Yu,Yv,Yw,hv,Yx,ev,Yy,Yz,X0,X1,X2,X3,X4,X5,X6,X7,X8,X9,Xa,Xb,Xc,Xd,Xe,Xf,Xg,Xh,Xi,Xj,Xk,Xl,Xm,Xn,Xo,Xp,Xq,Xr,Xs,Xt,Xu,Value.oneCell',Xv,Xw,Xx,Xy,true_and,and_true,and_self,implies_true,Xz,W0,W1,W2,false_implies,W3,W4,W5,W6,W7,W8,W9,Wa,Wb,Wc,Wd,We,Wf,Wg,Wh,Wi,Wj,reduceCtorEq,if_true,if_false,Wk,↓reduceIte,Wl,Wm,Wn,Wo,Wp,Wq,ne_eq,not_false_eq_true,not_true_eq_false,Wr,Ws,r4_0,r4_1,r4_2,r4_3,r4_4,r4_5,r4_6,r4_7,r4_8,r4_9,r4_10,r4_11,r4_12,r4_13,r4_14,r4_15,r4_16,r4_17,r4_18,r4_19,r4_20,r4_21,r4_22,r4_23,r4_24,r4_25,r4_26,p4,bne0_t h0]) | (exfalso; omega)
  rw [show commonF l = ((leftGo (scale0 l) (l.drop 1) (placesL (smps0 l))).map Prod.fst, 0) from if_neg (by simp [h0])]
  obtain ⟨hp, hl12, hst⟩ := rendF_0 h0
  rw [h0] at hc
  have hbd := smps0_bd h0
  have hpl := placesL_len (smps0 l)
  have hok0 := strF_ok (hst 0 hp)
  obtain ⟨s0, r0, hts⟩ : ∃ s r, l = s :: r := by
    cases l with
    | nil => simp at hp
    | cons s r => exact ⟨s, r, rfl⟩
  have g0 : (l.map Str.av).getD 0 [] = s0.av := by rw [hts]; rfl
  have hs0 : scale0 l = s0.scale := by rw [hts]; rfl
  have hm0 : smps0 l = s0.smps := by rw [hts]; rfl
  have he0 : l[0] = s0 := by simp [hts]
  have hpi : (0 : Int) < l.length := by omega
  have h1i : (1 : Int) ≤ l.length := by omega
  rw [he0] at hok0
  rw [hs0, hm0]
  rw [hm0] at hbd hpl
  clear hs0 hm0 he0 hts
  obtain ⟨T, hT⟩ : ∃ T, T = l.drop 1 := ⟨_, rfl⟩
  have hT2 : (l.map Str.av).drop 1 = T.map Str.av := by rw [hT, List.map_drop]
  have hTm : ∀ r ∈ T, StrOK r := fun r hr => by
    rw [hT] at hr
    obtain ⟨k, hk, rfl⟩ := List.getElem_of_mem (List.mem_of_mem_drop hr)
    exact strF_ok (hst k hk)
  have hTl : T.length ≤ 12 := by rw [hT, List.length_drop]; omega
  have hTk : (List.take l.length (l.map Str.av)) = l.map Str.av := by rw [← List.length_map (f := Str.av), List.take_length]
  rw [← hT]
  obtain ⟨R, hR⟩ : ∃ R, leftGo s0.scale T (placesL s0.smps) = R := ⟨_, rfl⟩
  rw [hR]
  have hPl := places_c s0
  simp only [Str.av] at g0 hPl
  have hp1 : 1 ≤ l.length := hp
  repeat' first | ((with_reducible (first | refine condD ?_ ?_ | refine condE ?_ ?_ | refine condN ?_ ?_ | refine condI ?_ ?_ | refine condS ?_ ?_)) <;> intro h) | ((refine callG hc ?_)) | ((refine callG hPl ?_)) | (with_reducible refine And.intro ?_ ?_; omega) | (simp only [Z0,Z1,Z2,Z3,Z4,Z5,Z6,Z7,Z8,Z9,Za,Zb,Zc,Zd,Ze,Zf,List.cons.injEq,Zg,Zh,Zi,Zj,Zk,Zl,Zm,Zn,Zo,Zp,beq_self_eq_true,bne_self_eq_false,decide_true,decide_false,Zq,Zr,Zs,Zt,Zu,Zv,Zw,Zx,Zy,Zz,Y0,Y1,Y2,Y3,Y4,Y5,Y6,Y7,Y8,Y9,Ya,Yb,Yc,Yd,Ye,Yf,Yg,Yh,lk,ef,Yi,Yj,Yk,Yl,Ym,Yn,Yo,Yp,Yq,Yr,Yt,Yu,Yv,Yw,hv,Yx,ev,Yy,Yz,X0,X1,X2,X3,X4,X5,X6,X7,X8,X9,Xa,Xb,Xc,Xd,Xe,Xf,Xg,Xh,Xi,Xj,Xk,Xl,Xm,Xn,Xo,Xp,Xq,Xr,Xs,Xt,Xu,Value.oneCell',Xv,Xw,Xx,Xy,true_and,and_true,and_self,implies_true,Xz,W0,W1,W2,false_implies,W3,W4,W5,W6,W7,W8,W9,Wa,Wb,Wc,Wd,We,Wf,Wg,Wh,Wi,Wj,reduceCtorEq,if_true,if_false,Wk,↓reduceIte,Wl,Wm,Wn,Wo,Wp,Wq,ne_eq,not_false_eq_true,not_true_eq_false,Wr,Ws,r4_0,r4_1,r4_2,r4_3,r4_4,r4_5,r4_6,r4_7,r4_8,r4_9,r4_10,r4_11,r4_12,r4_13,r4_14,r4_15,r4_16,r4_17,r4_18,r4_19,r4_20,r4_21,r4_22,r4_23,r4_24,r4_25,r4_26,p4,g0,hpi,hp,hp1,h1i,hTk,hT2,strs_len,Nat.le_refl,List.length_map]) | (exfalso; omega)
  refine loopS (fun p : Nat × List (Int × Nat) => mk [(0, .ro (l.map Str.av)), (5, .ro (p.2.map plAV)), (27, .ro (T.map Str.av)), (28, .val (.int .i64 T.length)), (29, .val (.int .i64 p.1))]) (fun p => p.1 ≤ T.length ∧ p.2.length ≤ 5000 ∧ (∀ x ∈ p.2, -2000000000000000 ≤ x.1 ∧ x.1 ≤ 2000000000000000) ∧ leftGo s0.scale (T.drop p.1) p.2 = R) (fun p => T.length - p.1) (0, placesL s0.smps) (weak_mk ?_) ⟨Nat.zero_le _, hpl, hbd, hR⟩ ?_
  · simp only [Wt,Wu,wk1,Wv,Ww,Wx,Z4,Z5,Z6,Z7,Z8,Z9,Za,Zb,Zc,Zd,Ze,Zf,List.cons.injEq,Zg,Zh,Zi,Zj,Zk,Zl,Zm,Zn,Zo,Zp,beq_self_eq_true,bne_self_eq_false,decide_true,decide_false,Zq,Zr,Zs,Zt,Zu,Zv,Zw,Zx,Zy,Zz,Y0,hv,Yx,ev,Yy,Yz,X0,X1,X2,X3,X4,X5,X6,X7,X8,X9,Xa,Xb,Xc,Xd,Xe,Xf,Xg,Xh,Xi,Xj,Xk,Xl,Xm,Xn,Xo,Xp,Xq,Xr,Xs,Xt,Xu,Value.oneCell',Xv,Xw,Xx,Xy,true_and,and_true,and_self,implies_true,Xz,W0,W1,W2,false_implies,W3,W4,W5,W6,W7,W8,W9,Wa,Wb,Wc,Wd,We,Wf,Wg,Wh,Wi,Wj,reduceCtorEq,if_true,if_false,Wk,↓reduceIte,Wl,Wm,Wn,Wo,Wp,Wq,ne_eq,not_false_eq_true,not_true_eq_false,Wr,Nat.zero_ne_one]
    simp
  rintro J hJ ⟨k, left⟩ ⟨hk, hll, hlb, hg⟩
  simp only at hk hll hlb hg
  simp only [Z0,Z1,Z2,Z3,Z4,Z5,Z6,Z7,Z8,Z9,Za,Zb,Zc,Zd,Ze,Zf,List.cons.injEq,Zg,Zh,Zi,Zj,Zk,Zl,Zm,Zn,Zo,Zp,beq_self_eq_true,bne_self_eq_false,decide_true,decide_false,Zq,Zr,Zs,Zt,Zu,Zv,Zw,Zx,Zy,Zz,Y0,Y1,Y2,Y3,Y4,Y5,Y6,Y7,Y8,Y9,Ya,Yb,Yc,Yd,Ye,Yf,Yg,Yh,lk,ef,Yi,Yj,Yk,Yl,Ym,Yn,Yo,Yp,Yq,Yr,Yt,Yu,Yv,Yw,hv,Yx,ev,Yy,Yz,X0,X1,X2,X3,X4,X5,X6,X7,X8,X9,Xa,Xb,Xc,Xd,Xe,Xf,Xg,Xh,Xi,Xj,Xk,Xl,Xm,Xn,Xo,Xp,Xq,Xr,Xs,Xt,Xu,Value.oneCell',Xv,Xw,Xx,Xy,true_and,and_true,and_self,implies_true,Xz,W0,W1,W2,false_implies,W3,W4,W5,W6,W7,W8,W9,Wa,Wb,Wc,Wd,We,Wf,Wg,Wh,Wi,Wj,reduceCtorEq,if_true,if_false,Wk,↓reduceIte,Wl,Wm,Wn,Wo,Wp,Wq,ne_eq,not_false_eq_true,not_true_eq_false,Wr,Ws,r4_0,r4_1,r4_2,r4_3,r4_4,r4_5,r4_6,r4_7,r4_8,r4_9,r4_10,r4_11,r4_12,r4_13,r4_14,r4_15,r4_16,r4_17,r4_18,r4_19,r4_20,r4_21,r4_22,r4_23,r4_24,r4_25,r4_26,p4,l4_0]
  refine condD (fun h => ?_) (fun h => ?_)
  · have hlt : k < T.length := by omega
    have hw := i_add1 k (by omega)
    have gK := getD_map (f := Str.av) (d := []) hlt
    obtain ⟨q1, q2, q3, q4⟩ := hTm _ (List.getElem_mem hlt)
    rw [List.drop_eq_getElem_cons hlt, leftGo] at hg
    have hPr := places_c T[k]
    have hrl := placesL_len T[k].smps
    have hrb := placesL_bd q1
    simp only [Str.av] at gK hPr
    by_cases hso : T[k].sound = true
    · rw [if_pos hso] at hg
      repeat' first | ((with_reducible (first | refine condD ?_ ?_ | refine condE ?_ ?_ | refine condN ?_ ?_ | refine condI ?_ ?_ | refine condS ?_ ?_)) <;> intro h) | (with_reducible refine And.intro ?_ ?_; omega) | (simp only [Z0,Z1,Z2,Z3,Z4,Z5,Z6,Z7,Z8,Z9,Za,Zb,Zc,Zd,Ze,Zf,List.cons.injEq,Zg,Zh,Zi,Zj,Zk,Zl,Zm,Zn,Zo,Zp,beq_self_eq_true,bne_self_eq_false,decide_true,decide_false,Zq,Zr,Zs,Zt,Zu,Zv,Zw,Zx,Zy,Zz,Y0,Y1,Y2,Y3,Y4,Y5,Y6,Y7,Y8,Y9,Ya,Yb,Yc,Yd,Ye,Yf,Yg,Yh,lk,ef,Yi,Yj,Yk,Yl,Ym,Yn,Yo,Yp,Yq,Yr,Yt,Yu,Yv,Yw,hv,Yx,ev,Yy,Yz,X0,X1,X2,X3,X4,X5,X6,X7,X8,X9,Xa,Xb,Xc,Xd,Xe,Xf,Xg,Xh,Xi,Xj,Xk,Xl,Xm,Xn,Xo,Xp,Xq,Xr,Xs,Xt,Xu,Value.oneCell',Xv,Xw,Xx,Xy,true_and,and_true,and_self,implies_true,Xz,W0,W1,W2,false_implies,W3,W4,W5,W6,W7,W8,W9,Wa,Wb,Wc,Wd,We,Wf,Wg,Wh,Wi,Wj,reduceCtorEq,if_true,if_false,Wk,↓reduceIte,Wl,Wm,Wn,Wo,Wp,Wq,ne_eq,not_false_eq_true,not_true_eq_false,Wr,Ws,r4_0,r4_1,r4_2,r4_3,r4_4,r4_5,r4_6,r4_7,r4_8,r4_9,r4_10,r4_11,r4_12,r4_13,r4_14,r4_15,r4_16,r4_17,r4_18,r4_19,r4_20,r4_21,r4_22,r4_23,r4_24,r4_25,r4_26,p4,l4_0,gK,hso,List.length_map]) | (exfalso; omega)
      all_goals exact again hJ (k + 1, left) (weak_mk (by simp only [Wt,Wu,wk1,Wv,Ww,Wx,Z4,Z5,Z6,Z7,Z8,Z9,Za,Zb,Zc,Zd,Ze,Zf,List.cons.injEq,Zg,Zh,Zi,Zj,Zk,Zl,Zm,Zn,Zo,Zp,beq_self_eq_true,bne_self_eq_false,decide_true,decide_false,Zq,Zr,Zs,Zt,Zu,Zv,Zw,Zx,Zy,Zz,Y0,hv,Yx,ev,Yy,Yz,X0,X1,X2,X3,X4,X5,X6,X7,X8,X9,Xa,Xb,Xc,Xd,Xe,Xf,Xg,Xh,Xi,Xj,Xk,Xl,Xm,Xn,Xo,Xp,Xq,Xr,Xs,Xt,Xu,Value.oneCell',Xv,Xw,Xx,Xy,true_and,and_true,and_self,implies_true,Xz,W0,W1,W2,false_implies,W3,W4,W5,W6,W7,W8,W9,Wa,Wb,Wc,Wd,We,Wf,Wg,Wh,Wi,Wj,reduceCtorEq,if_true,if_false,Wk,↓reduceIte,Wl,Wm,Wn,Wo,Wp,Wq,ne_eq,not_false_eq_true,not_true_eq_false,Wr,Nat.zero_ne_one]; exact hw)) ⟨by simp only; omega, hll, hlb, hg⟩ (by simp only; omega)
    rw [if_neg hso] at hg
    rw [Bool.not_eq_true] at hso
    rw [hso] at gK hPr
    have hfind : ∀ j (hj : j < left.length), CallOK Tryz.prog 13 [.ro ((placesL T[k].smps).map plAV), .val (.int .i64 T[k].scale), .val (.int .i64 left[j].1), .val (.int .i64 s0.scale)] (.tup [.agg (plAV (findF (placesL T[k].smps) T[k].scale left[j].1 s0.scale).1), .val (.bool (hasP s0.scale T[k] left[j]))]) := fun j hj =>
      find_c _ _ _ _ (Nat.le_trans hrl (by decide)) (fun p hp => by have := hrb p hp; omega) (by omega) (by have := hlb _ (List.getElem_mem hj); omega) (by have := hok0.2.2; omega)
    generalize T[k] = r at *
    repeat' first | ((with_reducible (first | refine condD ?_ ?_ | refine condE ?_ ?_ | refine condN ?_ ?_ | refine condI ?_ ?_ | refine condS ?_ ?_)) <;> intro h) | ((refine callG hPr ?_)) | (with_reducible refine And.intro ?_ ?_; omega) | (simp only [Z0,Z1,Z2,Z3,Z4,Z5,Z6,Z7,Z8,Z9,Za,Zb,Zc,Zd,Ze,Zf,List.cons.injEq,Zg,Zh,Zi,Zj,Zk,Zl,Zm,Zn,Zo,Zp,beq_self_eq_true,bne_self_eq_false,decide_true,decide_false,Zq,Zr,Zs,Zt,Zu,Zv,Zw,Zx,Zy,Zz,Y0,Y1,Y2,Y3,Y4,Y5,Y6,Y7,Y8,Y9,Ya,Yb,Yc,Yd,Ye,Yf,Yg,Yh,lk,ef,Yi,Yj,Yk,Yl,Ym,Yn,Yo,Yp,Yq,Yr,Yt,Yu,Yv,Yw,hv,Yx,ev,Yy,Yz,X0,X1,X2,X3,X4,X5,X6,X7,X8,X9,Xa,Xb,Xc,Xd,Xe,Xf,Xg,Xh,Xi,Xj,Xk,Xl,Xm,Xn,Xo,Xp,Xq,Xr,Xs,Xt,Xu,Value.oneCell',Xv,Xw,Xx,Xy,true_and,and_true,and_self,implies_true,Xz,W0,W1,W2,false_implies,W3,W4,W5,W6,W7,W8,W9,Wa,Wb,Wc,Wd,We,Wf,Wg,Wh,Wi,Wj,reduceCtorEq,if_true,if_false,Wk,↓reduceIte,Wl,Wm,Wn,Wo,Wp,Wq,ne_eq,not_false_eq_true,not_true_eq_false,Wr,Ws,r4_0,r4_1,r4_2,r4_3,r4_4,r4_5,r4_6,r4_7,r4_8,r4_9,r4_10,r4_11,r4_12,r4_13,r4_14,r4_15,r4_16,r4_17,r4_18,r4_19,r4_20,r4_21,r4_22,r4_23,r4_24,r4_25,r4_26,p4,l4_0,gK,hso,List.length_map]) | (exfalso; omega)
    refine loopS (fun j : Nat => mk [(0, .ro (l.map Str.av)), (7, .box [.val (.string r.name), .val (.int .i64 r.scale), .val (.bool false), .ro (r.smps.map Smp.av)]), (8, .ro ((placesL r.smps).map plAV)), (9, .own 38 2 (((left.take j).filter (hasP s0.scale r)).map plAV)), (27, .ro (T.map Str.av)), (28, .val (.int .i64 T.length)), (29, .val (.int .i64 k)), (37, .ro (left.map plAV)), (38, .val (.int .i64 left.length)), (39, .val (.int .i64 j))]) (fun j => j ≤ left.length) (fun j => left.length - j) 0 (weak_mk ?_) (Nat.zero_le _) ?_
    · simp only [Wt,Wu,wk1,Wv,Ww,Wx,Z4,Z5,Z6,Z7,Z8,Z9,Za,Zb,Zc,Zd,Ze,Zf,List.cons.injEq,Zg,Zh,Zi,Zj,Zk,Zl,Zm,Zn,Zo,Zp,beq_self_eq_true,bne_self_eq_false,decide_true,decide_false,Zq,Zr,Zs,Zt,Zu,Zv,Zw,Zx,Zy,Zz,Y0,hv,Yx,ev,Yy,Yz,X0,X1,X2,X3,X4,X5,X6,X7,X8,X9,Xa,Xb,Xc,Xd,Xe,Xf,Xg,Xh,Xi,Xj,Xk,Xl,Xm,Xn,Xo,Xp,Xq,Xr,Xs,Xt,Xu,Value.oneCell',Xv,Xw,Xx,Xy,true_and,and_true,and_self,implies_true,Xz,W0,W1,W2,false_implies,W3,W4,W5,W6,W7,W8,W9,Wa,Wb,Wc,Wd,We,Wf,Wg,Wh,Wi,Wj,reduceCtorEq,if_true,if_false,Wk,↓reduceIte,Wl,Wm,Wn,Wo,Wp,Wq,ne_eq,not_false_eq_true,not_true_eq_false,Wr,Nat.zero_ne_one]
      simp [hso]
    rintro J2 hJ2 j hj
    simp only [Z0,Z1,Z2,Z3,Z4,Z5,Z6,Z7,Z8,Z9,Za,Zb,Zc,Zd,Ze,Zf,List.cons.injEq,Zg,Zh,Zi,Zj,Zk,Zl,Zm,Zn,Zo,Zp,beq_self_eq_true,bne_self_eq_false,decide_true,decide_false,Zq,Zr,Zs,Zt,Zu,Zv,Zw,Zx,Zy,Zz,Y0,Y1,Y2,Y3,Y4,Y5,Y6,Y7,Y8,Y9,Ya,Yb,Yc,Yd,Ye,Yf,Yg,Yh,lk,ef,Yi,Yj,Yk,Yl,Ym,Yn,Yo,Yp,Yq,Yr,Yt,Yu,Yv,Yw,hv,Yx,ev,Yy,Yz,X0,X1,X2,X3,X4,X5,X6,X7,X8,X9,Xa,Xb,Xc,Xd,Xe,Xf,Xg,Xh,Xi,Xj,Xk,Xl,Xm,Xn,Xo,Xp,Xq,Xr,Xs,Xt,Xu,Value.oneCell',Xv,Xw,Xx,Xy,true_and,and_true,and_self,implies_true,Xz,W0,W1,W2,false_implies,W3,W4,W5,W6,W7,W8,W9,Wa,Wb,Wc,Wd,We,Wf,Wg,Wh,Wi,Wj,reduceCtorEq,if_true,if_false,Wk,↓reduceIte,Wl,Wm,Wn,Wo,Wp,Wq,ne_eq,not_false_eq_true,not_true_eq_false,Wr,Ws,r4_0,r4_1,r4_2,r4_3,r4_4,r4_5,r4_6,r4_7,r4_8,r4_9,r4_10,r4_11,r4_12,r4_13,r4_14,r4_15,r4_16,r4_17,r4_18,r4_19,r4_20,r4_21,r4_22,r4_23,r4_24,r4_25,r4_26,p4,l4_1]
    refine condD (fun h2 => ?_) (fun h2 => ?_)
    · have hlt2 : j < left.length := by omega
      have hwj := i_add1 j (by omega)
      have gJ := getD_map (f := plAV) (d := []) hlt2
      simp only [plAV] at gJ
      have hF := hfind j hlt2
      have hnx := filter_take (f := hasP s0.scale r) hlt2
      have hfl : ((left.take j).filter (hasP s0.scale r)).length ≤ left.length := Nat.le_trans (List.length_filter_le _ _) (by rw [List.length_take]; omega)
      generalize (findF (placesL r.smps) r.scale left[j].1 s0.scale).1 = fp at hF
      simp only [plAV] at hF
      cases hb : hasP s0.scale r left[j] with
      | true =>
        rw [hb] at hF hnx
        simp only [if_true] at hnx
        have happ : ((left.take j).filter (hasP s0.scale r)).map plAV ++ [[.val (.int .i64 left[j].1), .val (.int .i64 (left[j].2 : Nat))]] = ((left.take (j + 1)).filter (hasP s0.scale r)).map plAV := by rw [hnx, List.map_append]; rfl
        repeat' first | ((with_reducible (first | refine condD ?_ ?_ | refine condE ?_ ?_ | refine condN ?_ ?_ | refine condI ?_ ?_ | refine condS ?_ ?_)) <;> intro h) | ((refine callG hF ?_)) | (with_reducible refine And.intro ?_ ?_; omega) | (simp only [Z0,Z1,Z2,Z3,Z4,Z5,Z6,Z7,Z8,Z9,Za,Zb,Zc,Zd,Ze,Zf,List.cons.injEq,Zg,Zh,Zi,Zj,Zk,Zl,Zm,Zn,Zo,Zp,beq_self_eq_true,bne_self_eq_false,decide_true,decide_false,Zq,Zr,Zs,Zt,Zu,Zv,Zw,Zx,Zy,Zz,Y0,Y1,Y2,Y3,Y4,Y5,Y6,Y7,Y8,Y9,Ya,Yb,Yc,Yd,Ye,Yf,Yg,Yh,lk,ef,Yi,Yj,Yk,Yl,Ym,Yn,Yo,Yp,Yq,Yr,Yt,Yu,Yv,Yw,hv,Yx,ev,Yy,Yz,X0,X1,X2,X3,X4,X5,X6,X7,X8,X9,Xa,Xb,Xc,Xd,Xe,Xf,Xg,Xh,Xi,Xj,Xk,Xl,Xm,Xn,Xo,Xp,Xq,Xr,Xs,Xt,Xu,Value.oneCell',Xv,Xw,Xx,Xy,true_and,and_true,and_self,implies_true,Xz,W0,W1,W2,false_implies,W3,W4,W5,W6,W7,W8,W9,Wa,Wb,Wc,Wd,We,Wf,Wg,Wh,Wi,Wj,reduceCtorEq,if_true,if_false,Wk,↓reduceIte,Wl,Wm,Wn,Wo,Wp,Wq,ne_eq,not_false_eq_true,not_true_eq_false,Wr,Ws,r4_0,r4_1,r4_2,r4_3,r4_4,r4_5,r4_6,r4_7,r4_8,r4_9,r4_10,r4_11,r4_12,r4_13,r4_14,r4_15,r4_16,r4_17,r4_18,r4_19,r4_20,r4_21,r4_22,r4_23,r4_24,r4_25,r4_26,p4,l4_1,gJ,g0,hpi,hp,happ,List.length_map]) | (exfalso; omega)
        all_goals first | omega | exact again hJ2 (j + 1) (weak_mk (by simp only [Wt,Wu,wk1,Wv,Ww,Wx,Z4,Z5,Z6,Z7,Z8,Z9,Za,Zb,Zc,Zd,Ze,Zf,List.cons.injEq,Zg,Zh,Zi,Zj,Zk,Zl,Zm,Zn,Zo,Zp,beq_self_eq_true,bne_self_eq_false,decide_true,decide_false,Zq,Zr,Zs,Zt,Zu,Zv,Zw,Zx,Zy,Zz,Y0,hv,Yx,ev,Yy,Yz,X0,X1,X2,X3,X4,X5,X6,X7,X8,X9,Xa,Xb,Xc,Xd,Xe,Xf,Xg,Xh,Xi,Xj,Xk,Xl,Xm,Xn,Xo,Xp,Xq,Xr,Xs,Xt,Xu,Value.oneCell',Xv,Xw,Xx,Xy,true_and,and_true,and_self,implies_true,Xz,W0,W1,W2,false_implies,W3,W4,W5,W6,W7,W8,W9,Wa,Wb,Wc,Wd,We,Wf,Wg,Wh,Wi,Wj,reduceCtorEq,if_true,if_false,Wk,↓reduceIte,Wl,Wm,Wn,Wo,Wp,Wq,ne_eq,not_false_eq_true,not_true_eq_false,Wr,Nat.zero_ne_one]; exact hwj)) (by omega) (by omega)
      | false =>
        rw [hb] at hF hnx
        simp only [Bool.false_eq_true, if_false, List.append_nil] at hnx
        repeat' first | ((with_reducible (first | refine condD ?_ ?_ | refine condE ?_ ?_ | refine condN ?_ ?_ | refine condI ?_ ?_ | refine condS ?_ ?_)) <;> intro h) | ((refine callG hF ?_)) | (with_reducible refine And.intro ?_ ?_; omega) | (simp only [Z0,Z1,Z2,Z3,Z4,Z5,Z6,Z7,Z8,Z9,Za,Zb,Zc,Zd,Ze,Zf,List.cons.injEq,Zg,Zh,Zi,Zj,Zk,Zl,Zm,Zn,Zo,Zp,beq_self_eq_true,bne_self_eq_false,decide_true,decide_false,Zq,Zr,Zs,Zt,Zu,Zv,Zw,Zx,Zy,Zz,Y0,Y1,Y2,Y3,Y4,Y5,Y6,Y7,Y8,Y9,Ya,Yb,Yc,Yd,Ye,Yf,Yg,Yh,lk,ef,Yi,Yj,Yk,Yl,Ym,Yn,Yo,Yp,Yq,Yr,Yt,Yu,Yv,Yw,hv,Yx,ev,Yy,Yz,X0,X1,X2,X3,X4,X5,X6,X7,X8,X9,Xa,Xb,Xc,Xd,Xe,Xf,Xg,Xh,Xi,Xj,Xk,Xl,Xm,Xn,Xo,Xp,Xq,Xr,Xs,Xt,Xu,Value.oneCell',Xv,Xw,Xx,Xy,true_and,and_true,and_self,implies_true,Xz,W0,W1,W2,false_implies,W3,W4,W5,W6,W7,W8,W9,Wa,Wb,Wc,Wd,We,Wf,Wg,Wh,Wi,Wj,reduceCtorEq,if_true,if_false,Wk,↓reduceIte,Wl,Wm,Wn,Wo,Wp,Wq,ne_eq,not_false_eq_true,not_true_eq_false,Wr,Ws,r4_0,r4_1,r4_2,r4_3,r4_4,r4_5,r4_6,r4_7,r4_8,r4_9,r4_10,r4_11,r4_12,r4_13,r4_14,r4_15,r4_16,r4_17,r4_18,r4_19,r4_20,r4_21,r4_22,r4_23,r4_24,r4_25,r4_26,p4,l4_1,gJ,g0,hpi,hp,List.length_map]) | (exfalso; omega)
        all_goals first | omega | exact again hJ2 (j + 1) (weak_mk (by simp only [Wt,Wu,wk1,Wv,Ww,Wx,Z4,Z5,Z6,Z7,Z8,Z9,Za,Zb,Zc,Zd,Ze,Zf,List.cons.injEq,Zg,Zh,Zi,Zj,Zk,Zl,Zm,Zn,Zo,Zp,beq_self_eq_true,bne_self_eq_false,decide_true,decide_false,Zq,Zr,Zs,Zt,Zu,Zv,Zw,Zx,Zy,Zz,Y0,hv,Yx,ev,Yy,Yz,X0,X1,X2,X3,X4,X5,X6,X7,X8,X9,Xa,Xb,Xc,Xd,Xe,Xf,Xg,Xh,Xi,Xj,Xk,Xl,Xm,Xn,Xo,Xp,Xq,Xr,Xs,Xt,Xu,Value.oneCell',Xv,Xw,Xx,Xy,true_and,and_true,and_self,implies_true,Xz,W0,W1,W2,false_implies,W3,W4,W5,W6,W7,W8,W9,Wa,Wb,Wc,Wd,We,Wf,Wg,Wh,Wi,Wj,reduceCtorEq,if_true,if_false,Wk,↓reduceIte,Wl,Wm,Wn,Wo,Wp,Wq,ne_eq,not_false_eq_true,not_true_eq_false,Wr,Nat.zero_ne_one]; first | exact ⟨by rw [hnx], hwj⟩ | exact ⟨hnx.symm, hwj⟩ | (rw [hnx]; exact hwj))) (by omega) (by omega)
    · have hje : j = left.length := by omega
      subst hje
      clear hJ2
      rw [List.take_length]
      repeat' first | ((with_reducible (first | refine condD ?_ ?_ | refine condE ?_ ?_ | refine condN ?_ ?_ | refine condI ?_ ?_ | refine condS ?_ ?_)) <;> intro h) | (with_reducible refine And.intro ?_ ?_; omega) | (simp only [Z0,Z1,Z2,Z3,Z4,Z5,Z6,Z7,Z8,Z9,Za,Zb,Zc,Zd,Ze,Zf,List.cons.injEq,Zg,Zh,Zi,Zj,Zk,Zl,Zm,Zn,Zo,Zp,beq_self_eq_true,bne_self_eq_false,decide_true,decide_false,Zq,Zr,Zs,Zt,Zu,Zv,Zw,Zx,Zy,Zz,Y0,Y1,Y2,Y3,Y4,Y5,Y6,Y7,Y8,Y9,Ya,Yb,Yc,Yd,Ye,Yf,Yg,Yh,lk,ef,Yi,Yj,Yk,Yl,Ym,Yn,Yo,Yp,Yq,Yr,Yt,Yu,Yv,Yw,hv,Yx,ev,Yy,Yz,X0,X1,X2,X3,X4,X5,X6,X7,X8,X9,Xa,Xb,Xc,Xd,Xe,Xf,Xg,Xh,Xi,Xj,Xk,Xl,Xm,Xn,Xo,Xp,Xq,Xr,Xs,Xt,Xu,Value.oneCell',Xv,Xw,Xx,Xy,true_and,and_true,and_self,implies_true,Xz,W0,W1,W2,false_implies,W3,W4,W5,W6,W7,W8,W9,Wa,Wb,Wc,Wd,We,Wf,Wg,Wh,Wi,Wj,reduceCtorEq,if_true,if_false,Wk,↓reduceIte,Wl,Wm,Wn,Wo,Wp,Wq,ne_eq,not_false_eq_true,not_true_eq_false,Wr,Ws,r4_0,r4_1,r4_2,r4_3,r4_4,r4_5,r4_6,r4_7,r4_8,r4_9,r4_10,r4_11,r4_12,r4_13,r4_14,r4_15,r4_16,r4_17,r4_18,r4_19,r4_20,r4_21,r4_22,r4_23,r4_24,r4_25,r4_26,p4,l4_1]) | (exfalso; omega)
      all_goals exact again hJ (k + 1, left.filter (hasP s0.scale r)) (weak_mk (by simp only [Wt,Wu,wk1,Wv,Ww,Wx,Z4,Z5,Z6,Z7,Z8,Z9,Za,Zb,Zc,Zd,Ze,Zf,List.cons.injEq,Zg,Zh,Zi,Zj,Zk,Zl,Zm,Zn,Zo,Zp,beq_self_eq_true,bne_self_eq_false,decide_true,decide_false,Zq,Zr,Zs,Zt,Zu,Zv,Zw,Zx,Zy,Zz,Y0,hv,Yx,ev,Yy,Yz,X0,X1,X2,X3,X4,X5,X6,X7,X8,X9,Xa,Xb,Xc,Xd,Xe,Xf,Xg,Xh,Xi,Xj,Xk,Xl,Xm,Xn,Xo,Xp,Xq,Xr,Xs,Xt,Xu,Value.oneCell',Xv,Xw,Xx,Xy,true_and,and_true,and_self,implies_true,Xz,W0,W1,W2,false_implies,W3,W4,W5,W6,W7,W8,W9,Wa,Wb,Wc,Wd,We,Wf,Wg,Wh,Wi,Wj,reduceCtorEq,if_true,if_false,Wk,↓reduceIte,Wl,Wm,Wn,Wo,Wp,Wq,ne_eq,not_false_eq_true,not_true_eq_false,Wr,Nat.zero_ne_one]; exact hw)) ⟨by simp only; omega, Nat.le_trans (List.length_filter_le _ _) hll, fun x hx => hlb x (List.mem_filter.1 hx).1, hg⟩ (by simp only; omega)
  · have hke : k = T.length := by omega
    subst hke
    rw [List.drop_length, leftGo] at hg
    subst hg
    clear hJ
    repeat' first | ((with_reducible (first | refine condD ?_ ?_ | refine condE ?_ ?_ | refine condN ?_ ?_ | refine condI ?_ ?_ | refine condS ?_ ?_)) <;> intro h) | (with_reducible refine And.intro ?_ ?_; omega) | (simp only [Z0,Z1,Z2,Z3,Z4,Z5,Z6,Z7,Z8,Z9,Za,Zb,Zc,Zd,Ze,Zf,List.cons.injEq,Zg,Zh,Zi,Zj,Zk,Zl,Zm,Zn,Zo,Zp,beq_self_eq_true,bne_self_eq_false,decide_true,decide_false,Zq,Zr,Zs,Zt,Zu,Zv,Zw,Zx,Zy,Zz,Y0,Y1,Y2,Y3,Y4,Y5,Y6,Y7,Y8,Y9,Ya,Yb,Yc,Yd,Ye,Yf,Yg,Yh,lk,ef,Yi,Yj,Yk,Yl,Ym,Yn,Yo,Yp,Yq,Yr,Yt,Yu,Yv,Yw,hv,Yx,ev,Yy,Yz,X0,X1,X2,X3,X4,X5,X6,X7,X8,X9,Xa,Xb,Xc,Xd,Xe,Xf,Xg,Xh,Xi,Xj,Xk,Xl,Xm,Xn,Xo,Xp,Xq,Xr,Xs,Xt,Xu,Value.oneCell',Xv,Xw,Xx,Xy,true_and,and_true,and_self,implies_true,Xz,W0,W1,W2,false_implies,W3,W4,W5,W6,W7,W8,W9,Wa,Wb,Wc,Wd,We,Wf,Wg,Wh,Wi,Wj,reduceCtorEq,if_true,if_false,Wk,↓reduceIte,Wl,Wm,Wn,Wo,Wp,Wq,ne_eq,not_false_eq_true,not_true_eq_false,Wr,Ws,r4_0,r4_1,r4_2,r4_3,r4_4,r4_5,r4_6,r4_7,r4_8,r4_9,r4_10,r4_11,r4_12,r4_13,r4_14,r4_15,r4_16,r4_17,r4_18,r4_19,r4_20,r4_21,r4_22,r4_23,r4_24,r4_25,r4_26,p4,l4_0,List.length_map]) | (exfalso; omega)
    refine loopS (fun j : Nat => mk [(14, .own 3 1 (((left.take j).map Prod.fst).map oneI)), (64, .ro (left.map plAV)), (65, .val (.int .i64 left.length)), (66, .val (.int .i64 j))]) (fun j => j ≤ left.length) (fun j => left.length - j) 0 (weak_mk ?_) (Nat.zero_le _) ?_
    · simp only [Wt,Wu,wk1,Wv,Ww,Wx,Z4,Z5,Z6,Z7,Z8,Z9,Za,Zb,Zc,Zd,Ze,Zf,List.cons.injEq,Zg,Zh,Zi,Zj,Zk,Zl,Zm,Zn,Zo,Zp,beq_self_eq_true,bne_self_eq_false,decide_true,decide_false,Zq,Zr,Zs,Zt,Zu,Zv,Zw,Zx,Zy,Zz,Y0,hv,Yx,ev,Yy,Yz,X0,X1,X2,X3,X4,X5,X6,X7,X8,X9,Xa,Xb,Xc,Xd,Xe,Xf,Xg,Xh,Xi,Xj,Xk,Xl,Xm,Xn,Xo,Xp,Xq,Xr,Xs,Xt,Xu,Value.oneCell',Xv,Xw,Xx,Xy,true_and,and_true,and_self,implies_true,Xz,W0,W1,W2,false_implies,W3,W4,W5,W6,W7,W8,W9,Wa,Wb,Wc,Wd,We,Wf,Wg,Wh,Wi,Wj,reduceCtorEq,if_true,if_false,Wk,↓reduceIte,Wl,Wm,Wn,Wo,Wp,Wq,ne_eq,not_false_eq_true,not_true_eq_false,Wr,Nat.zero_ne_one]
      simp
    rintro J hJ j hj
    simp only [Z0,Z1,Z2,Z3,Z4,Z5,Z6,Z7,Z8,Z9,Za,Zb,Zc,Zd,Ze,Zf,List.cons.injEq,Zg,Zh,Zi,Zj,Zk,Zl,Zm,Zn,Zo,Zp,beq_self_eq_true,bne_self_eq_false,decide_true,decide_false,Zq,Zr,Zs,Zt,Zu,Zv,Zw,Zx,Zy,Zz,Y0,Y1,Y2,Y3,Y4,Y5,Y6,Y7,Y8,Y9,Ya,Yb,Yc,Yd,Ye,Yf,Yg,Yh,lk,ef,Yi,Yj,Yk,Yl,Ym,Yn,Yo,Yp,Yq,Yr,Yt,Yu,Yv,Yw,hv,Yx,ev,Yy,Yz,X0,X1,X2,X3,X4,X5,X6,X7,X8,X9,Xa,Xb,Xc,Xd,Xe,Xf,Xg,Xh,Xi,Xj,Xk,Xl,Xm,Xn,Xo,Xp,Xq,Xr,Xs,Xt,Xu,Value.oneCell',Xv,Xw,Xx,Xy,true_and,and_true,and_self,implies_true,Xz,W0,W1,W2,false_implies,W3,W4,W5,W6,W7,W8,W9,Wa,Wb,Wc,Wd,We,Wf,Wg,Wh,Wi,Wj,reduceCtorEq,if_true,if_false,Wk,↓reduceIte,Wl,Wm,Wn,Wo,Wp,Wq,ne_eq,not_false_eq_true,not_true_eq_false,Wr,Ws,r4_0,r4_1,r4_2,r4_3,r4_4,r4_5,r4_6,r4_7,r4_8,r4_9,r4_10,r4_11,r4_12,r4_13,r4_14,r4_15,r4_16,r4_17,r4_18,r4_19,r4_20,r4_21,r4_22,r4_23,r4_24,r4_25,r4_26,p4,l4_2]
    refine condD (fun h => ?_) (fun h => ?_)
    · have hlt : j < left.length := by omega
      have hw := i_add1 j (by omega)
      have gK := getD_map (f := plAV) (d := []) hlt
      simp only [plAV] at gK
      have happ : ((left.take j).map Prod.fst).map oneI ++ [[.val (.int .i64 left[j].1)]] = ((left.take (j + 1)).map Prod.fst).map oneI := by rw [List.take_succ_eq_append_getElem hlt, List.map_append, List.map_append]; rfl
      repeat' first | ((with_reducible (first | refine condD ?_ ?_ | refine condE ?_ ?_ | refine condN ?_ ?_ | refine condI ?_ ?_ | refine condS ?_ ?_)) <;> intro h) | (with_reducible refine And.intro ?_ ?_; omega) | (simp only [Z0,Z1,Z2,Z3,Z4,Z5,Z6,Z7,Z8,Z9,Za,Zb,Zc,Zd,Ze,Zf,List.cons.injEq,Zg,Zh,Zi,Zj,Zk,Zl,Zm,Zn,Zo,Zp,beq_self_eq_true,bne_self_eq_false,decide_true,decide_false,Zq,Zr,Zs,Zt,Zu,Zv,Zw,Zx,Zy,Zz,Y0,Y1,Y2,Y3,Y4,Y5,Y6,Y7,Y8,Y9,Ya,Yb,Yc,Yd,Ye,Yf,Yg,Yh,lk,ef,Yi,Yj,Yk,Yl,Ym,Yn,Yo,Yp,Yq,Yr,Yt,Yu,Yv,Yw,hv,Yx,ev,Yy,Yz,X0,X1,X2,X3,X4,X5,X6,X7,X8,X9,Xa,Xb,Xc,Xd,Xe,Xf,Xg,Xh,Xi,Xj,Xk,Xl,Xm,Xn,Xo,Xp,Xq,Xr,Xs,Xt,Xu,Value.oneCell',Xv,Xw,Xx,Xy,true_and,and_true,and_self,implies_true,Xz,W0,W1,W2,false_implies,W3,W4,W5,W6,W7,W8,W9,Wa,Wb,Wc,Wd,We,Wf,Wg,Wh,Wi,Wj,reduceCtorEq,if_true,if_false,Wk,↓reduceIte,Wl,Wm,Wn,Wo,Wp,Wq,ne_eq,not_false_eq_true,not_true_eq_false,Wr,Ws,r4_0,r4_1,r4_2,r4_3,r4_4,r4_5,r4_6,r4_7,r4_8,r4_9,r4_10,r4_11,r4_12,r4_13,r4_14,r4_15,r4_16,r4_17,r4_18,r4_19,r4_20,r4_21,r4_22,r4_23,r4_24,r4_25,r4_26,p4,l4_2,gK,happ,Zt,List.length_take]) | (exfalso; omega)
      all_goals first | omega | exact again hJ (j + 1) (weak_mk (by simp only [Wt,Wu,wk1,Wv,Ww,Wx,Z4,Z5,Z6,Z7,Z8,Z9,Za,Zb,Zc,Zd,Ze,Zf,List.cons.injEq,Zg,Zh,Zi,Zj,Zk,Zl,Zm,Zn,Zo,Zp,beq_self_eq_true,bne_self_eq_false,decide_true,decide_false,Zq,Zr,Zs,Zt,Zu,Zv,Zw,Zx,Zy,Zz,Y0,hv,Yx,ev,Yy,Yz,X0,X1,X2,X3,X4,X5,X6,X7,X8,X9,Xa,Xb,Xc,Xd,Xe,Xf,Xg,Xh,Xi,Xj,Xk,Xl,Xm,Xn,Xo,Xp,Xq,Xr,Xs,Xt,Xu,Value.oneCell',Xv,Xw,Xx,Xy,true_and,and_true,and_self,implies_true,Xz,W0,W1,W2,false_implies,W3,W4,W5,W6,W7,W8,W9,Wa,Wb,Wc,Wd,We,Wf,Wg,Wh,Wi,Wj,reduceCtorEq,if_true,if_false,Wk,↓reduceIte,Wl,Wm,Wn,Wo,Wp,Wq,ne_eq,not_false_eq_true,not_true_eq_false,Wr,Nat.zero_ne_one]; exact hw)) (by omega) (by omega)
    · have hje : j = left.length := by omega
      subst hje
      rw [List.take_length]
      clear hJ
      repeat' first | ((with_reducible (first | refine condD ?_ ?_ | refine condE ?_ ?_ | refine condN ?_ ?_ | refine condI ?_ ?_ | refine condS ?_ ?_)) <;> intro h) | (with_reducible refine And.intro ?_ ?_; omega) | (simp only [Z0,Z1,Z2,Z3,Z4,Z5,Z6,Z7,Z8,Z9,Za,Zb,Zc,Zd,Ze,Zf,List.cons.injEq,Zg,Zh,Zi,Zj,Zk,Zl,Zm,Zn,Zo,Zp,beq_self_eq_true,bne_self_eq_false,decide_true,decide_false,Zq,Zr,Zs,Zt,Zu,Zv,Zw,Zx,Zy,Zz,Y0,Y1,Y2,Y3,Y4,Y5,Y6,Y7,Y8,Y9,Ya,Yb,Yc,Yd,Ye,Yf,Yg,Yh,lk,ef,Yi,Yj,Yk,Yl,Ym,Yn,Yo,Yp,Yq,Yr,Yt,Yu,Yv,Yw,hv,Yx,ev,Yy,Yz,X0,X1,X2,X3,X4,X5,X6,X7,X8,X9,Xa,Xb,Xc,Xd,Xe,Xf,Xg,Xh,Xi,Xj,Xk,Xl,Xm,Xn,Xo,Xp,Xq,Xr,Xs,Xt,Xu,Value.oneCell',Xv,Xw,Xx,Xy,true_and,and_true,and_self,implies_true,Xz,W0,W1,W2,false_implies,W3,W4,W5,W6,W7,W8,W9,Wa,Wb,Wc,Wd,We,Wf,Wg,Wh,Wi,Wj,reduceCtorEq,if_true,if_false,Wk,↓reduceIte,Wl,Wm,Wn,Wo,Wp,Wq,ne_eq,not_false_eq_true,not_true_eq_false,Wr,Ws,r4_0,r4_1,r4_2,r4_3,r4_4,r4_5,r4_6,r4_7,r4_8,r4_9,r4_10,r4_11,r4_12,r4_13,r4_14,r4_15,r4_16,r4_17,r4_18,r4_19,r4_20,r4_21,r4_22,r4_23,r4_24,r4_25,r4_26,p4,l4_2]) | (exfalso; omega)
end Go.Proofs.YtjeemcpdmiajmaaGreatDoor
/- Common places, in plain numbers: what is found begins at an equal moment. -/
namespace Go.Proofs.YtjeemcpdmiajmaaGreatDoor
open Go.RowKit
set_option linter.unusedSimpArgs false

def plcT (l : List Smp) : List Int := (placesL l).map Prod.fst
/-- Is one of the times T, at scale own, the moment t at scale sc? -/
def foundP (own sc t : Int) (T : List Int) : Bool := T.any fun q => decide (t * own = q * sc)
def allP (sc t : Int) (l : List Str) : Bool := l.all fun r => r.sound || foundP r.scale sc t (plcT r.smps)
theorem cmpP_gen {p : Int × Nat} {own t sc : Int} : (cmpP p own t sc < 0 ↔ p.1 * sc < t * own) ∧ (cmpP p own t sc = 0 ↔ p.1 * sc = t * own) := by
  unfold cmpP cmp3
  generalize p.1 * sc = x
  generalize t * own = y
  constructor
  · split
    · omega
    · split <;> omega
  · split
    · omega
    · split <;> omega
theorem bsGo_atG {l : List (Int × Nat)} {own t sc : Int} (ho : 0 < sc) (hl : l.Pairwise (fun a b => a.1 < b.1)) {j : Nat} (hj : j < l.length) (hjt : l[j].1 * sc = t * own) : ∀ {f low high : Nat}, low ≤ j → j ≤ high → high ≤ l.length → high - low ≤ f → bsGo l own t sc f low high = j
  | 0, low, high, h1, h2, _, h3 => by rw [bsGo]; omega
  | f + 1, low, high, h1, h2, h4, h3 => by
    rw [bsGo]
    split
    · rename_i hlt
      have hm : (low + high) / 2 < l.length := by omega
      have hm1 : low ≤ (low + high) / 2 := by omega
      have hm2 : (low + high) / 2 < high := by omega
      generalize (low + high) / 2 = m at *
      rw [getD_at hm]
      split
      · rename_i q
        have q := cmpP_gen.1.1 q
        refine bsGo_atG ho hl hj hjt ?_ h2 h4 (by omega)
        refine Nat.not_le.1 fun z => ?_
        rcases Nat.lt_or_eq_of_le z with z | z
        · have h5 := List.pairwise_iff_getElem.1 hl j m hj hm z
          have h6 := Int.mul_lt_mul_of_pos_right h5 ho
          omega
        · subst z; omega
      · rename_i q
        have q : ¬ l[m].1 * sc < t * own := fun z => q (cmpP_gen.1.2 z)
        refine bsGo_atG ho hl hj hjt h1 ?_ (by omega) (by omega)
        refine Nat.not_lt.1 fun z => ?_
        have h5 := List.pairwise_iff_getElem.1 hl m j hm hj z
        have h6 := Int.mul_lt_mul_of_pos_right h5 ho
        omega
    · omega
theorem hasP_is {sc : Int} {r : Str} {p : Int × Nat} (ho : 0 < sc) : hasP sc r p = foundP r.scale sc p.1 (plcT r.smps) := by
  rw [Bool.eq_iff_iff]
  constructor
  · intro h
    obtain ⟨h1, h2⟩ := findF_yes h
    unfold foundP plcT
    rw [List.any_eq_true]
    exact ⟨_, List.mem_map.2 ⟨_, h1, rfl⟩, by rw [decide_eq_true_eq]; exact (cmpP_gen.2.1 h2).symm⟩
  · intro h
    unfold foundP plcT at h
    rw [List.any_eq_true] at h
    obtain ⟨q, h1, h2⟩ := h
    rw [decide_eq_true_eq] at h2
    obtain ⟨x, hx, rfl⟩ := List.mem_map.1 h1
    obtain ⟨j, hj, rfl⟩ := List.getElem_of_mem hx
    have hb := bsGo_atG (own := r.scale) (t := p.1) ho (placesL_up r.smps) hj h2.symm (f := (placesL r.smps).length) (Nat.zero_le j) (Nat.le_of_lt hj) (Nat.le_refl _) (by omega)
    unfold hasP findF bsL
    rw [hb, if_neg (by omega), getD_at hj, if_neg (by rw [ne_eq, Decidable.not_not]; exact cmpP_gen.2.2 h2.symm)]
theorem leftGo_is {sc : Int} (ho : 0 < sc) : ∀ (t : List Str) (left : List (Int × Nat)), leftGo sc t left = left.filter fun x => allP sc x.1 t
  | [], left => by
    rw [leftGo]
    exact (List.filter_eq_self.2 fun x _ => rfl).symm
  | r :: t, left => by
    rw [leftGo, leftGo_is ho t]
    cases hs : r.sound with
    | true =>
      rw [if_pos rfl]
      refine List.filter_congr fun x _ => ?_
      simp [allP, hs]
    | false =>
      rw [if_neg (by simp), List.filter_filter]
      refine List.filter_congr fun x _ => ?_
      rw [hasP_is ho]
      simp [allP, hs, Bool.and_comm]
theorem common_is {l : List Str} (h : rendF l = 0) (ho : 0 < scale0 l) : (commonF l).1 = (plcT (smps0 l)).filter fun t => allP (scale0 l) t (l.drop 1) := by
  rw [show commonF l = ((leftGo (scale0 l) (l.drop 1) (placesL (smps0 l))).map Prod.fst, 0) from if_neg (by simp [h])]
  simp only
  rw [leftGo_is ho]
  unfold plcT
  rw [List.filter_map]
  rfl
end Go.Proofs.YtjeemcpdmiajmaaGreatDoor
