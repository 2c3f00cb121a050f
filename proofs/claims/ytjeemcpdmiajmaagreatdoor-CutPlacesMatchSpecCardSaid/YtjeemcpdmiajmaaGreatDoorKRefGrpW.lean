/- The reference's groups: AllGroups, Groups, by the machine on data. -/
import Derived.Test.YtjeemcpdmiajmaaGreatDoorKGroupsW
import Derived.Test.YtjeemcpdmiajmaaGreatDoorKRefEnds
namespace Go.Proofs.YtjeemcpdmiajmaaGreatDoor
open Go.RowKit
open _root_.List renaming map_cons → Z0, length_nil → Z1
set_option linter.unusedSimpArgs false

def Grp.open (g : Grp) : Grp := ⟨g.frm, g.to, g.key, false, g.beg, g.fin⟩
/-- The group from f on, as far as i. -/
def part (l : List Smp) (P E : List Int) (f i : Nat) : Grp := ⟨f, i, (l.getD f ⟨0, 0, 0, 0, false⟩).key, false, Go.Lib.minOf (sub P f i), Go.Lib.maxOf (sub E f i)⟩
theorem sub_snoc {P : List Int} {f i : Nat} (hf : f ≤ i) (hi : i < P.length) : sub P f (i + 1) = sub P f i ++ [P[i]] := by
  unfold sub
  rw [List.take_succ_eq_append_getElem hi, List.drop_append_of_le_length (by rw [List.length_take]; omega)]
theorem sub_one {P : List Int} {i : Nat} (hi : i < P.length) : sub P i (i + 1) = [P[i]] := by
  rw [sub_snoc (Nat.le_refl _) hi]
  have : sub P i i = [] := by
    unfold sub
    exact List.drop_eq_nil_of_le (by rw [List.length_take]; omega)
  rw [this, List.nil_append]
theorem min_snoc {A : List Int} {x : Int} (h : A ≠ []) : Go.Lib.minOf (A ++ [x]) = if x < Go.Lib.minOf A then x else Go.Lib.minOf A := by
  obtain ⟨a1, a2⟩ := minOf_is h
  obtain ⟨b1, b2⟩ := minOf_is (l := A ++ [x]) (by simp)
  have h1 := b2 _ (List.mem_append_left [x] a1)
  have h2 := b2 x (by simp)
  rcases List.mem_append.1 b1 with h3 | h3
  · have := a2 _ h3; split <;> omega
  · rw [List.mem_singleton] at h3; split <;> omega
theorem max_snoc {A : List Int} {x : Int} (h : A ≠ []) : Go.Lib.maxOf (A ++ [x]) = if Go.Lib.maxOf A < x then x else Go.Lib.maxOf A := by
  obtain ⟨a1, a2⟩ := maxOf_is h
  obtain ⟨b1, b2⟩ := maxOf_is (l := A ++ [x]) (by simp)
  have h1 := b2 _ (List.mem_append_left [x] a1)
  have h2 := b2 x (by simp)
  rcases List.mem_append.1 b1 with h3 | h3
  · have := a2 _ h3; split <;> omega
  · rw [List.mem_singleton] at h3; split <;> omega
theorem nk_step {l : List Smp} {i : Nat} (hi : i < l.length) : nk (l.drop i) = if l[i].key then 0 else nk (l.drop (i + 1)) + 1 := by
  rw [List.drop_eq_getElem_cons hi, nk]
/-- All that is known where sample i comes. -/
def Inv (l : List Smp) (P E : List Int) (i : Nat) (cur : List Grp) : Prop :=
  (i = 0 ∧ cur = []) ∨ ∃ dn f u, cur = dn ++ [part l P E f i] ∧ f < i ∧ toOf l f = i + nk (l.drop i) ∧ l.length ≤ f + u ∧ dn ++ (groupsGo l u f).map Grp.open = (groupsL l).map Grp.open
theorem inv_end {l : List Smp} {cur : List Grp} (h : Inv l (presL l) (endsL l) l.length cur) (hl : 0 < l.length) : cur = (groupsL l).map Grp.open := by
  rcases h with ⟨h, _⟩ | ⟨dn, f, u, rfl, hf, ht, hu, hg⟩
  · omega
  · rw [List.drop_eq_nil_of_le (Nat.le_refl _), nk, Nat.add_zero] at ht
    rw [← hg]
    obtain ⟨u', rfl⟩ : ∃ u', u = u' + 1 := ⟨u - 1, by omega⟩
    rw [groupsGo, if_pos hf, ht]
    have : groupsGo l u' l.length = [] := by
      cases u' with
      | zero => rfl
      | succ u => rw [groupsGo, if_neg (by omega)]
    rw [this, List.map_cons, List.map_nil]
    congr 2
    simp only [part, Grp.open, grpAt, ht]
/-- With the mark set. -/
def closeG (P : List Int) (g : Grp) : Grp := ⟨g.frm, g.to, g.key, g.key && (g.beg == P.getD g.frm 0) && !((sub P (g.frm + 1) g.to).contains g.beg) && (decide (g.frm = 0) || decide (lastK P g.frm < g.beg)), g.beg, g.fin⟩
theorem mem_groupsGo {l : List Smp} : ∀ {u f g}, g ∈ groupsGo l u f → ∃ k, k < l.length ∧ g = grpAt l k
  | 0, f, g, h => by simp [groupsGo] at h
  | u + 1, f, g, h => by
    unfold groupsGo at h
    split at h
    · rename_i hf
      rcases List.mem_cons.1 h with rfl | h
      · exact ⟨f, hf, rfl⟩
      · exact mem_groupsGo h
    · simp at h
theorem close_all (l : List Smp) : ((groupsL l).map Grp.open).map (closeG (presL l)) = groupsL l := by
  rw [List.map_map]
  have : ∀ g ∈ groupsL l, (closeG (presL l) ∘ Grp.open) g = g := fun g hg => by
    obtain ⟨k, _, rfl⟩ := mem_groupsGo hg
    rfl
  rw [List.map_congr_left this, List.map_id']
def allNe (P : List Int) (b : Int) (s : Nat) : Nat → Bool
  | 0 => true
  | j + 1 => allNe P b s j && (P.getD (s + j) 0 != b)
def allLt (P : List Int) (b : Int) : Nat → Bool
  | 0 => true
  | j + 1 => allLt P b j && decide (P.getD j 0 < b)
theorem allNe_is (P : List Int) (b : Int) (s : Nat) : ∀ j, allNe P b s j = true ↔ ∀ i, i < j → P.getD (s + i) 0 ≠ b
  | 0 => by simp [allNe]
  | j + 1 => by
    rw [allNe, Bool.and_eq_true, allNe_is P b s j, bne_iff_ne]
    constructor
    · intro h i hi
      by_cases e : i = j
      · rw [e]; exact h.2
      · exact h.1 i (by omega)
    · intro h
      exact ⟨fun i hi => h i (by omega), h j (by omega)⟩
theorem allLt_is (P : List Int) (b : Int) : ∀ j, allLt P b j = true ↔ ∀ i, i < j → P.getD i 0 < b
  | 0 => by simp [allLt]
  | j + 1 => by
    rw [allLt, Bool.and_eq_true, allLt_is P b j, decide_eq_true_eq]
    constructor
    · intro h i hi
      by_cases e : i = j
      · rw [e]; exact h.2
      · exact h.1 i (by omega)
    · intro h
      exact ⟨fun i hi => h i (by omega), h j (by omega)⟩
theorem ne_contains {P : List Int} {b : Int} {f t : Nat} (hf : f < t) (ht : t ≤ P.length) : allNe P b (f + 1) (t - (f + 1)) = !((sub P (f + 1) t).contains b) := by
  rw [Bool.eq_iff_iff, allNe_is, Bool.not_eq_true', ← Bool.not_eq_true, List.contains_iff_mem]
  constructor
  · intro h hm
    obtain ⟨i, hi, h1, h2, e⟩ := sub_mem hm
    have := h (i - (f + 1)) (by omega)
    rw [show f + 1 + (i - (f + 1)) = i by omega, getD_in hi] at this
    exact this e.symm
  · intro h i hi e
    refine h ?_
    rw [getD_in (show f + 1 + i < P.length by omega)] at e
    rw [← e]; exact mem_sub (by omega) (by omega) (by omega)
theorem lt_last {P : List Int} {b : Int} {f : Nat} (hf : f ≤ P.length) : allLt P b f = (decide (f = 0) || decide (lastK P f < b)) := by
  rw [Bool.eq_iff_iff, allLt_is, Bool.or_eq_true, decide_eq_true_eq, decide_eq_true_eq]
  constructor
  · intro h
    by_cases e : f = 0
    · exact .inl e
    · right
      have n1 : P.take f ≠ [] := fun e => by have := congrArg List.length e; rw [List.length_take, List.length_nil] at this; omega
      rw [show lastK P f = Go.Lib.maxOf (P.take f) from if_neg e]
      obtain ⟨i, hi, e'⟩ := List.getElem_of_mem (maxOf_is n1).1
      rw [List.length_take] at hi
      rw [← e', List.getElem_take]
      have := h i (by omega)
      rwa [getD_in (show i < P.length by omega)] at this
  · rintro (h | h) i hi
    · omega
    · have n1 : P.take f ≠ [] := fun e => by have := congrArg List.length e; rw [List.length_take, List.length_nil] at this; omega
      rw [show lastK P f = Go.Lib.maxOf (P.take f) from if_neg (by omega)] at h
      rw [getD_in (show i < P.length by omega)]
      have := (maxOf_is n1).2 P[i] (List.mem_take_iff_getElem.2 ⟨i, by omega, rfl⟩)
      omega
theorem inv_key {l : List Smp} {P E : List Int} {i : Nat} {cur : List Grp} (h : Inv l P E i cur) (hP : P = presL l) (hE : E = endsL l) (hi : i < l.length) (hk : i = 0 ∨ l[i].key = true) : Inv l P E (i + 1) (cur ++ [part l P E i (i + 1)]) := by
  rcases h with ⟨rfl, rfl⟩ | ⟨dn, f, u, rfl, hf, ht, hu, hg⟩
  · exact .inr ⟨[], 0, l.length, rfl, by omega, by unfold toOf; omega, by omega, rfl⟩
  · have hk' : l[i].key = true := by
      rcases hk with rfl | hk
      · omega
      · exact hk
    rw [nk_step hi, hk'] at ht
    simp only [if_true, Nat.add_zero] at ht
    obtain ⟨u', rfl⟩ : ∃ u', u = u' + 1 := ⟨u - 1, by omega⟩
    rw [groupsGo, if_pos (by omega), ht, List.map_cons] at hg
    refine .inr ⟨dn ++ [part l P E f i], i, u', rfl, by omega, by unfold toOf; omega, by omega, ?_⟩
    rw [← hg, List.append_assoc]
    congr 1
    simp only [List.singleton_append]
    congr 1
    subst hP; subst hE
    simp only [part, Grp.open, grpAt, ht]
theorem inv_go {l : List Smp} {P E : List Int} {i f : Nat} {dn : List Grp} (h : ∃ u, f < i ∧ toOf l f = i + nk (l.drop i) ∧ l.length ≤ f + u ∧ dn ++ (groupsGo l u f).map Grp.open = (groupsL l).map Grp.open) (hi : i < l.length) (hk : l[i].key = false) : Inv l P E (i + 1) (dn ++ [part l P E f (i + 1)]) := by
  obtain ⟨u, hf, ht, hu, hg⟩ := h
  rw [nk_step hi, hk] at ht
  simp only [Bool.false_eq_true, if_false] at ht
  exact .inr ⟨dn, f, u, rfl, by omega, by omega, hu, hg⟩
end Go.Proofs.YtjeemcpdmiajmaaGreatDoor
/- The reference's AllGroups and Groups, the walk, by the machine on data. -/
namespace Go.Proofs.YtjeemcpdmiajmaaGreatDoor
open Go.RowKit
open Go.Proofs.YtjeemcpdmiajmaaGreatDoor renaming done_eq → Z0, done_eq' → Z1, donet_eq → Z2, donet_eq' → Z3, fin_val → Z4, fin_tup → Z5, fin_agg → Z6, fin_ro → Z7, res_one → Z8, res_more → Z9, rv_t → Za, rv_c → Zb, rv_l → Zc, int_eq → Zg, bool_eq → Zh, toNat_pred → Zr, toNat_succ → Zs, cnd_t → Zu, cnd_f → Zv, grd_tt → Zw, grd_u → Zx, grd_tf → Zy, grd_ft → Zz, grd_ff → Y0, g_skip → Y1, g_ops → Y2, g_seq → Y3, g_block → Y4, g_exit → Y5, g_ret → Y6, x_c → Y7, x_o → Y8, x_l → Y9, x_b → Ya, g_b → Yb, g_nil → Yc, r_all → Yd, o_nil → Ye, g_cond → Yf, o_guard → Yg, o_call → Yh, o_mv → Yi, o_pick → Yj, o_bin → Yk, o_load → Yl, o_loadr → Ym, o_idxr → Yn, o_loads → Yo, o_fld → Yp, o_idx → Yq, o_len → Yr, o_build → Ys, o_minmax → Yt, o_alloc → Yu, o_row → Yv, o_asg → Yw, o_app → Yx, o_store → Yy, o_stores → Yz, eqAV → X0, view_t → X1, view_c → X2, view_nil → X3, view_fn → X4, look_own → X5, look_box → X6, look_junk → X7, look_val → X8, look_nilsl → X9, look_ro → Xa, look_roAt → Xb, look_agg → Xc, look_tup → Xd, look_clo → Xe, look_alias → Xf, look_ref → Xg, look_into → Xh, rowOf → Xi, cellsOf → Xj, argv → Xk, vbin → Xl, vun → Xm, bnd → Xn, elemOf → Xo, putParts → Xp, setAt → Xq, zav → Xr, put_at → Xy, mk_at → Xz, mk_nil → W0, initSt → W1, wk_cons → Ww, wk_nil → Wx, wk1 → Wy, vint_eq → Wz, vbool_eq → V0
open Go.Proofs.YtjeemcpdmiajmaaGreatDoor.AV.tup renaming injEq → Zd
open Go.Proofs.YtjeemcpdmiajmaaGreatDoor.AV.agg renaming injEq → Ze
open Go.Proofs.YtjeemcpdmiajmaaGreatDoor.AV.ro renaming injEq → Zf
open _root_.Int renaming toNat_natCast → Zi, reduceToNat → Zj, toNat_zero → Zk, toNat_one → Zl, reduceLE → Zm, reduceLT → Zn, reduceBEq → Zo, reduceBNe → Zp, reduceNeg → Zq
open _root_.List renaming length_map → Zt, map_cons → W2, map_nil → W3, forall_mem_cons → W4, not_mem_nil → W5, length_cons → W6, length_nil → W7, getD_cons_zero → W8, getD_cons_succ → W9, getD_nil → Wa, drop_succ_cons → Wb, drop_zero → Wc, take_succ_cons → Wd, take_zero → We, set_cons_zero → Wf, set_cons_succ → Wg, all_cons → Wh, all_nil → Wi
open Go.Proofs.YtjeemcpdmiajmaaGreatDoor.ASt renaming rid → Xs, free → Xt
open Go.Proofs.YtjeemcpdmiajmaaGreatDoor.AV renaming kill → Xu, isHome → Xv, noLoan → Xw, cellOK → Xx
open _root_.Bool renaming and_true → Wj, true_and → Wk, not_true → Wl, not_false → Wm, false_eq_true → Wn
open _root_.Nat renaming reduceEqDiff → Wo, reduceAdd → Wp, reduceSub → Wq, reduceMul → Wr, reduceLeDiff → Ws, reduceLT → Wt, one_ne_zero → Wu, zero_ne_one → Wv
open Go.Proofs.YtjeemcpdmiajmaaGreatDoor.AV.val renaming injEq → V1
set_option linter.unusedSimpArgs false

theorem last_get {D : List (List AV)} {n : Nat} (h : D.length = n) (c d : List AV) : (D ++ [c]).getD n d = c := by
  subst h; rw [List.getD_eq_getElem?_getD, List.getElem?_append_right (Nat.le_refl _)]; simp
theorem last_set {D : List (List AV)} {n : Nat} (h : D.length = n) (c c' : List AV) : (D ++ [c]).set n c' = D ++ [c'] := by
  subst h; rw [List.set_append_right _ _ (Nat.le_refl _)]; simp
/-! headend/headendref3.AllGroups -/
def r34_0 : List POp := [⟨2, .asg .nil, none⟩]
def r34_1 : List POp := [⟨12, .mv (.t 0), none⟩,
  ⟨13, .call 56 [.t 12], none⟩,
  ⟨3, .asg (.t 13), none⟩]
def r34_2 : List POp := [⟨4, .asg .nil, none⟩]
def r34_3 : List POp := [⟨5, .asg (.c (.int .i64 0)), none⟩]
def r34_4 : List POp := [⟨14, .mv (.t 5), none⟩,
  ⟨15, .mv (.t 0), none⟩,
  ⟨16, .len (.t 15), none⟩,
  ⟨17, .bin .lss (.t 14) (.t 16), none⟩]
def r34_6 : List POp := [⟨20, .mv (.t 5), none⟩,
  ⟨21, .bin .eql (.t 20) (.c (.int .i64 0)), none⟩,
  ⟨22, .mv (.t 21), none⟩,
  ⟨23, .mv (.t 0), some (22, false)⟩,
  ⟨24, .mv (.t 5), some (22, false)⟩,
  ⟨25, .idx 5 (.t 23) (.t 24), some (22, false)⟩,
  ⟨26, .fld 4 (.t 25), some (22, false)⟩,
  ⟨27, .load (.t 26), some (22, false)⟩,
  ⟨28, .pick (.t 22) (.c (.bool true)) (.t 27), none⟩]
def r34_7 : List POp := [⟨29, .mv (.t 4), none⟩,
  ⟨30, .mv (.t 5), none⟩,
  ⟨31, .mv (.t 5), none⟩,
  ⟨32, .mv (.t 0), none⟩,
  ⟨33, .mv (.t 5), none⟩,
  ⟨34, .idx 5 (.t 32) (.t 33), none⟩,
  ⟨35, .fld 4 (.t 34), none⟩,
  ⟨36, .load (.t 35), none⟩,
  ⟨37, .mv (.t 0), none⟩,
  ⟨38, .mv (.t 5), none⟩,
  ⟨39, .idx 5 (.t 37) (.t 38), none⟩,
  ⟨40, .loads 5 (.t 39), none⟩,
  ⟨41, .call 57 [.t 40], none⟩,
  ⟨42, .mv (.t 3), none⟩,
  ⟨43, .mv (.t 5), none⟩,
  ⟨44, .idx 1 (.t 42) (.t 43), none⟩,
  ⟨45, .load (.t 44), none⟩,
  ⟨46, .build [.int .i64 0, .int .i64 0, .bool false, .bool false, .int .i64 0, .int .i64 0] [(0, 1, .t 30), (1, 1, .t 31), (2, 1, .t 36), (4, 1, .t 41), (5, 1, .t 45)], none⟩,
  ⟨47, .row 53 6 [.t 46], none⟩,
  ⟨48, .app 53 6 40 (.t 29) (.t 47), none⟩,
  ⟨4, .asg (.t 48), none⟩]
def r34_8 : List POp := [⟨49, .mv (.t 4), none⟩,
  ⟨50, .mv (.t 4), none⟩,
  ⟨51, .len (.t 50), none⟩,
  ⟨52, .bin .sub (.t 51) (.c (.int .i64 1)), none⟩,
  ⟨53, .idx 6 (.t 49) (.t 52), none⟩,
  ⟨54, .loads 6 (.t 53), none⟩,
  ⟨6, .alloc [.int .i64 0, .int .i64 0, .bool false, .bool false, .int .i64 0, .int .i64 0], none⟩,
  ⟨0, .stores 6 (.t 6) (.t 54), none⟩]
def r34_9 : List POp := [⟨55, .mv (.t 5), none⟩,
  ⟨56, .bin .add (.t 55) (.c (.int .i64 1)), none⟩,
  ⟨57, .fld 1 (.t 6), none⟩,
  ⟨0, .store (.t 57) (.t 56), none⟩]
def r34_10 : List POp := [⟨58, .fld 4 (.t 6), none⟩,
  ⟨59, .load (.t 58), none⟩,
  ⟨60, .mv (.t 0), none⟩,
  ⟨61, .mv (.t 5), none⟩,
  ⟨62, .idx 5 (.t 60) (.t 61), none⟩,
  ⟨63, .loads 5 (.t 62), none⟩,
  ⟨64, .call 57 [.t 63], none⟩,
  ⟨65, .minmax false (.t 59) (.t 64), none⟩,
  ⟨66, .fld 5 (.t 6), none⟩,
  ⟨67, .load (.t 66), none⟩,
  ⟨68, .mv (.t 3), none⟩,
  ⟨69, .mv (.t 5), none⟩,
  ⟨70, .idxr 1 (.t 68) (.t 69), none⟩,
  ⟨71, .loadr (.t 70), none⟩,
  ⟨72, .minmax true (.t 67) (.t 71), none⟩,
  ⟨73, .fld 4 (.t 6), none⟩,
  ⟨0, .store (.t 73) (.t 65), none⟩,
  ⟨74, .fld 5 (.t 6), none⟩,
  ⟨0, .store (.t 74) (.t 72), none⟩]
def r34_11 : List POp := [⟨75, .mv (.t 4), none⟩,
  ⟨76, .mv (.t 4), none⟩,
  ⟨77, .len (.t 76), none⟩,
  ⟨78, .bin .sub (.t 77) (.c (.int .i64 1)), none⟩,
  ⟨79, .loads 6 (.t 6), none⟩,
  ⟨80, .idx 6 (.t 75) (.t 78), none⟩,
  ⟨0, .stores 6 (.t 80) (.t 79), none⟩]
def r34_5 : List POp := [⟨18, .mv (.t 5), none⟩,
  ⟨19, .bin .add (.t 18) (.c (.int .i64 1)), none⟩,
  ⟨5, .asg (.t 19), none⟩]
def r34_12 : List POp := [⟨7, .asg (.c (.int .i64 0)), none⟩]
def r34_13 : List POp := [⟨81, .mv (.t 7), none⟩,
  ⟨82, .mv (.t 4), none⟩,
  ⟨83, .len (.t 82), none⟩,
  ⟨84, .bin .lss (.t 81) (.t 83), none⟩]
def r34_15 : List POp := [⟨87, .mv (.t 4), none⟩,
  ⟨88, .mv (.t 7), none⟩,
  ⟨89, .idx 6 (.t 87) (.t 88), none⟩,
  ⟨90, .loads 6 (.t 89), none⟩,
  ⟨8, .alloc [.int .i64 0, .int .i64 0, .bool false, .bool false, .int .i64 0, .int .i64 0], none⟩,
  ⟨0, .stores 6 (.t 8) (.t 90), none⟩]
def r34_16 : List POp := [⟨91, .fld 2 (.t 8), none⟩,
  ⟨92, .load (.t 91), none⟩,
  ⟨93, .mv (.t 92), none⟩,
  ⟨94, .fld 4 (.t 8), some (93, true)⟩,
  ⟨95, .load (.t 94), some (93, true)⟩,
  ⟨96, .mv (.t 0), some (93, true)⟩,
  ⟨97, .fld 0 (.t 8), some (93, true)⟩,
  ⟨98, .load (.t 97), some (93, true)⟩,
  ⟨99, .idx 5 (.t 96) (.t 98), some (93, true)⟩,
  ⟨100, .loads 5 (.t 99), some (93, true)⟩,
  ⟨101, .call 57 [.t 100], some (93, true)⟩,
  ⟨102, .bin .eql (.t 95) (.t 101), some (93, true)⟩,
  ⟨103, .pick (.t 93) (.t 102) (.c (.bool false)), none⟩,
  ⟨9, .asg (.t 103), none⟩]
def r34_17 : List POp := [⟨104, .fld 0 (.t 8), none⟩,
  ⟨105, .load (.t 104), none⟩,
  ⟨106, .bin .add (.t 105) (.c (.int .i64 1)), none⟩,
  ⟨10, .asg (.t 106), none⟩]
def r34_18 : List POp := [⟨107, .mv (.t 10), none⟩,
  ⟨108, .fld 1 (.t 8), none⟩,
  ⟨109, .load (.t 108), none⟩,
  ⟨110, .bin .lss (.t 107) (.t 109), none⟩]
def r34_20 : List POp := [⟨113, .mv (.t 9), none⟩,
  ⟨114, .mv (.t 113), none⟩,
  ⟨115, .mv (.t 0), some (114, true)⟩,
  ⟨116, .mv (.t 10), some (114, true)⟩,
  ⟨117, .idx 5 (.t 115) (.t 116), some (114, true)⟩,
  ⟨118, .loads 5 (.t 117), some (114, true)⟩,
  ⟨119, .call 57 [.t 118], some (114, true)⟩,
  ⟨120, .fld 4 (.t 8), some (114, true)⟩,
  ⟨121, .load (.t 120), some (114, true)⟩,
  ⟨122, .bin .neq (.t 119) (.t 121), some (114, true)⟩,
  ⟨123, .pick (.t 114) (.t 122) (.c (.bool false)), none⟩,
  ⟨9, .asg (.t 123), none⟩]
def r34_19 : List POp := [⟨111, .mv (.t 10), none⟩,
  ⟨112, .bin .add (.t 111) (.c (.int .i64 1)), none⟩,
  ⟨10, .asg (.t 112), none⟩]
def r34_21 : List POp := [⟨11, .asg (.c (.int .i64 0)), none⟩]
def r34_22 : List POp := [⟨124, .mv (.t 11), none⟩,
  ⟨125, .fld 0 (.t 8), none⟩,
  ⟨126, .load (.t 125), none⟩,
  ⟨127, .bin .lss (.t 124) (.t 126), none⟩]
def r34_24 : List POp := [⟨130, .mv (.t 9), none⟩,
  ⟨131, .mv (.t 130), none⟩,
  ⟨132, .mv (.t 0), some (131, true)⟩,
  ⟨133, .mv (.t 11), some (131, true)⟩,
  ⟨134, .idx 5 (.t 132) (.t 133), some (131, true)⟩,
  ⟨135, .loads 5 (.t 134), some (131, true)⟩,
  ⟨136, .call 57 [.t 135], some (131, true)⟩,
  ⟨137, .fld 4 (.t 8), some (131, true)⟩,
  ⟨138, .load (.t 137), some (131, true)⟩,
  ⟨139, .bin .lss (.t 136) (.t 138), some (131, true)⟩,
  ⟨140, .pick (.t 131) (.t 139) (.c (.bool false)), none⟩,
  ⟨9, .asg (.t 140), none⟩]
def r34_23 : List POp := [⟨128, .mv (.t 11), none⟩,
  ⟨129, .bin .add (.t 128) (.c (.int .i64 1)), none⟩,
  ⟨11, .asg (.t 129), none⟩]
def r34_25 : List POp := [⟨141, .mv (.t 4), none⟩,
  ⟨142, .mv (.t 7), none⟩,
  ⟨143, .mv (.t 9), none⟩,
  ⟨144, .idx 6 (.t 141) (.t 142), none⟩,
  ⟨145, .fld 3 (.t 144), none⟩,
  ⟨0, .store (.t 145) (.t 143), none⟩]
def r34_14 : List POp := [⟨85, .mv (.t 7), none⟩,
  ⟨86, .bin .add (.t 85) (.c (.int .i64 1)), none⟩,
  ⟨7, .asg (.t 86), none⟩]
def r34_26 : List POp := [⟨146, .mv (.t 4), none⟩,
  ⟨2, .asg (.t 146), none⟩]
def l34_3 : PCode := .seq (.seq (.ops r34_22) (.cond (.t 127) (.skip) (.exit 6))) (.seq (.block 7 (.ops r34_24)) (.ops r34_23))
def l34_2 : PCode := .seq (.seq (.ops r34_18) (.cond (.t 110) (.skip) (.exit 4))) (.seq (.block 5 (.ops r34_20)) (.ops r34_19))
def l34_1 : PCode := .seq (.seq (.ops r34_13) (.cond (.t 84) (.skip) (.exit 2))) (.seq (.block 3 (.seq (.ops r34_15) (.seq (.ops r34_16) (.seq (.seq (.ops r34_17) (.block 4 (.loop l34_2))) (.seq (.seq (.ops r34_21) (.block 6 (.loop l34_3))) (.ops r34_25)))))) (.ops r34_14))
def l34_0 : PCode := .seq (.seq (.ops r34_4) (.cond (.t 17) (.skip) (.exit 0))) (.seq (.block 1 (.seq (.seq (.ops r34_6) (.cond (.t 28) (.ops r34_7) (.skip))) (.seq (.ops r34_8) (.seq (.ops r34_9) (.seq (.ops r34_10) (.ops r34_11)))))) (.ops r34_5))
def p34 : PCode := .seq (.ops r34_0) (.seq (.ops r34_1) (.seq (.ops r34_2) (.seq (.seq (.ops r34_3) (.block 0 (.loop l34_0))) (.seq (.seq (.ops r34_12) (.block 2 (.loop l34_1))) (.seq (.ops r34_26) (.ret))))))
theorem ok34 : okFunc Tryz.prog 34 [.t 2] 1 p34 = true := by kernel_rfl
set_option maxRecDepth 20000 in
set_option maxHeartbeats 1000000 in
theorem allgroups_c (l : List Smp) (hl : l.length ≤ 5000) (hb : ∀ s ∈ l, badSmp s = false) : CallOK Tryz.prog 34 [.ro (l.map Smp.av)] (.ro ((groupsL l).map Grp.av)) := by
  refine call_of mixed ok34 rfl ?_
  have h2 := allends_c l hl hb
  have hpr := fun k (h : k < l.length) => present_s hb h
  obtain ⟨P, hP⟩ : ∃ P, P = presL l := ⟨_, rfl⟩
  obtain ⟨E, hE⟩ : ∃ E, E = endsL l := ⟨_, rfl⟩
  have hPl : P.length = l.length := by rw [hP]; exact presL_len l
  have hEl : E.length = l.length := by rw [hE]; exact endsL_len l
  have hpr2 : ∀ k (h : k < l.length), CallOK Tryz.prog 57 [.agg l[k].av] (.val (.int .i64 (P[k]'(by rw [hPl]; exact h)))) := fun k h => by subst hP; exact hpr k h
  rw [← hE] at h2
  clear hpr
  repeat' first | ((with_reducible (first | refine condD ?_ ?_ | refine condE ?_ ?_ | refine condN ?_ ?_ | refine condI ?_ ?_ | refine condS ?_ ?_)) <;> intro h) | ((with_reducible (first | refine guardD (by with_unfolding_all rfl) ?_ ?_ | refine guardE (by with_unfolding_all rfl) ?_ ?_ | refine guardN (by with_unfolding_all rfl) ?_ ?_ | refine guardI (by with_unfolding_all rfl) ?_ ?_ | refine guardS (by with_unfolding_all rfl) ?_ ?_)) <;> intro h) | ((refine callG h2 ?_)) | (with_reducible refine And.intro ?_ ?_; omega) | (simp only [Z0,Z1,Z2,Z3,Z4,Z5,Z6,Z7,Z8,Z9,Za,Zb,Zc,Zd,Ze,Zf,List.cons.injEq,Zg,Zh,Zi,Zj,Zk,Zl,Zm,Zn,Zo,Zp,beq_self_eq_true,bne_self_eq_false,decide_true,decide_false,Zq,Zr,Zs,Zt,Zu,Zv,Zw,Zx,Zy,Zz,Y0,Y1,Y2,Y3,Y4,Y5,Y6,Y7,Y8,Y9,Ya,Yb,Yc,Yd,Ye,Yf,Yg,Yh,lk,ef,Yi,Yj,Yk,Yl,Ym,Yn,Yo,Yp,Yq,Yr,Ys,Yt,Yu,Yv,Yw,Yx,Yy,Yz,hv,X0,ev,X1,X2,X3,X4,X5,X6,X7,X8,X9,Xa,Xb,Xc,Xd,Xe,Xf,Xg,Xh,Xi,Xj,Xk,Xl,Xm,Xn,Xo,Xp,Xq,Xr,Xs,Xt,Xu,Xv,Xw,Xx,Value.oneCell',Xy,Xz,W0,W1,true_and,and_true,and_self,implies_true,W2,W3,W4,W5,false_implies,W6,W7,W8,W9,Wa,Wb,Wc,Wd,We,Wf,Wg,Wh,Wi,Wj,Wk,Wl,Wm,reduceCtorEq,if_true,if_false,Wn,↓reduceIte,Wo,Wp,Wq,Wr,Ws,Wt,ne_eq,not_false_eq_true,not_true_eq_false,Wu,Wv,r34_0,r34_1,r34_2,r34_3,r34_4,r34_6,r34_7,r34_8,r34_9,r34_10,r34_11,r34_5,r34_12,r34_13,r34_15,r34_16,r34_17,r34_18,r34_20,r34_19,r34_21,r34_22,r34_24,r34_23,r34_25,r34_14,r34_26,p34]) | (exfalso; omega)
  refine loopS (fun p : Nat × List Grp => mk [(0, .ro (l.map Smp.av)), (3, .ro (E.map oneI)), (4, .own 53 6 (p.2.map Grp.av)), (5, .val (.int .i64 p.1))]) (fun p => p.1 ≤ l.length ∧ p.2.length ≤ p.1 ∧ Inv l P E p.1 p.2) (fun p => l.length - p.1) (0, []) (weak_mk ?_) ⟨Nat.zero_le _, Nat.le_refl _, .inl ⟨rfl, rfl⟩⟩ ?_
  · simp only [Ww,Wx,Wy,Wz,V0,V1,Z4,Z5,Z6,Z7,Z8,Z9,Za,Zb,Zc,Zd,Ze,Zf,List.cons.injEq,Zg,Zh,Zi,Zj,Zk,Zl,Zm,Zn,Zo,Zp,beq_self_eq_true,bne_self_eq_false,decide_true,decide_false,Zq,Zr,Zs,Zt,Zu,Zv,Zw,Zx,Zy,Zz,Y0,hv,X0,ev,X1,X2,X3,X4,X5,X6,X7,X8,X9,Xa,Xb,Xc,Xd,Xe,Xf,Xg,Xh,Xi,Xj,Xk,Xl,Xm,Xn,Xo,Xp,Xq,Xr,Xs,Xt,Xu,Xv,Xw,Xx,Value.oneCell',Xy,Xz,W0,W1,true_and,and_true,and_self,implies_true,W2,W3,W4,W5,false_implies,W6,W7,W8,W9,Wa,Wb,Wc,Wd,We,Wf,Wg,Wh,Wi,Wj,Wk,Wl,Wm,reduceCtorEq,if_true,if_false,Wn,↓reduceIte,Wo,Wp,Wq,Wr,Ws,Wt,ne_eq,not_false_eq_true,not_true_eq_false,Wu,Nat.zero_ne_one]
    simp
  · rintro J hJ ⟨i, cur⟩ ⟨hi, hcl, hinv⟩
    simp only at hi hcl hinv
    simp only [Z0,Z1,Z2,Z3,Z4,Z5,Z6,Z7,Z8,Z9,Za,Zb,Zc,Zd,Ze,Zf,List.cons.injEq,Zg,Zh,Zi,Zj,Zk,Zl,Zm,Zn,Zo,Zp,beq_self_eq_true,bne_self_eq_false,decide_true,decide_false,Zq,Zr,Zs,Zt,Zu,Zv,Zw,Zx,Zy,Zz,Y0,Y1,Y2,Y3,Y4,Y5,Y6,Y7,Y8,Y9,Ya,Yb,Yc,Yd,Ye,Yf,Yg,Yh,lk,ef,Yi,Yj,Yk,Yl,Ym,Yn,Yo,Yp,Yq,Yr,Ys,Yt,Yu,Yv,Yw,Yx,Yy,Yz,hv,X0,ev,X1,X2,X3,X4,X5,X6,X7,X8,X9,Xa,Xb,Xc,Xd,Xe,Xf,Xg,Xh,Xi,Xj,Xk,Xl,Xm,Xn,Xo,Xp,Xq,Xr,Xs,Xt,Xu,Xv,Xw,Xx,Value.oneCell',Xy,Xz,W0,W1,true_and,and_true,and_self,implies_true,W2,W3,W4,W5,false_implies,W6,W7,W8,W9,Wa,Wb,Wc,Wd,We,Wf,Wg,Wh,Wi,Wj,Wk,Wl,Wm,reduceCtorEq,if_true,if_false,Wn,↓reduceIte,Wo,Wp,Wq,Wr,Ws,Wt,ne_eq,not_false_eq_true,not_true_eq_false,Wu,Wv,r34_0,r34_1,r34_2,r34_3,r34_4,r34_6,r34_7,r34_8,r34_9,r34_10,r34_11,r34_5,r34_12,r34_13,r34_15,r34_16,r34_17,r34_18,r34_20,r34_19,r34_21,r34_22,r34_24,r34_23,r34_25,r34_14,r34_26,p34,l34_0]
    refine condD (fun h => ?_) (fun h => ?_)
    · have hlt : i < l.length := by omega
      have hw := i_add1 i (by omega)
      have hip : i < P.length := by omega
      have hie : i < E.length := by omega
      have hp2 := hpr2 i hlt
      have gL := getD_map (f := Smp.av) (d := []) hlt
      have gE := getD_map (f := oneI) (d := []) hie
      simp only [Smp.av] at hp2 gL
      simp only [oneI] at gE
      have hgd : l.getD i ⟨0, 0, 0, 0, false⟩ = l[i] := by rw [List.getD_eq_getElem?_getD, List.getElem?_eq_getElem hlt]; rfl
      have hcm : (cur.map Grp.av).length = cur.length := List.length_map _
      by_cases hk : i = 0 ∨ l[i].key = true
      · have hnext := inv_key hinv hP hE hlt hk
        have hnew : part l P E i (i + 1) = ⟨i, i + 1, l[i].key, false, P[i], E[i]⟩ := by
          unfold part
          rw [hgd, sub_one hip, sub_one hie]
          simp [Go.Lib.minOf, Go.Lib.maxOf]
        rw [hnew] at hnext
        have v0 : IntKind.i64.wrap (((cur.length + 1 : Nat) : Int) - 1) = cur.length := by rw [wrap_in (by omega) (by omega)]; omega
        have ir1 : ¬ P[i] < P[i] := by omega
        have ir2 : ¬ E[i] < E[i] := by omega
        have hg := fun c => last_get hcm c []
        have hs := fun c c' => last_set hcm c c'
        by_cases h0 : i = 0
        · have q0 : ((i : Int) == 0) = true := by rw [beq_iff_eq]; omega
          repeat' first | ((with_reducible (first | refine condD ?_ ?_ | refine condE ?_ ?_ | refine condN ?_ ?_ | refine condI ?_ ?_ | refine condS ?_ ?_)) <;> intro h) | ((with_reducible (first | refine guardD (by with_unfolding_all rfl) ?_ ?_ | refine guardE (by with_unfolding_all rfl) ?_ ?_ | refine guardN (by with_unfolding_all rfl) ?_ ?_ | refine guardI (by with_unfolding_all rfl) ?_ ?_ | refine guardS (by with_unfolding_all rfl) ?_ ?_)) <;> intro h) | ((refine callG hp2 ?_)) | (with_reducible refine And.intro ?_ ?_; omega) | (simp only [Z0,Z1,Z2,Z3,Z4,Z5,Z6,Z7,Z8,Z9,Za,Zb,Zc,Zd,Ze,Zf,List.cons.injEq,Zg,Zh,Zi,Zj,Zk,Zl,Zm,Zn,Zo,Zp,beq_self_eq_true,bne_self_eq_false,decide_true,decide_false,Zq,Zr,Zs,Zt,Zu,Zv,Zw,Zx,Zy,Zz,Y0,Y1,Y2,Y3,Y4,Y5,Y6,Y7,Y8,Y9,Ya,Yb,Yc,Yd,Ye,Yf,Yg,Yh,lk,ef,Yi,Yj,Yk,Yl,Ym,Yn,Yo,Yp,Yq,Yr,Ys,Yt,Yu,Yv,Yw,Yx,Yy,Yz,hv,X0,ev,X1,X2,X3,X4,X5,X6,X7,X8,X9,Xa,Xb,Xc,Xd,Xe,Xf,Xg,Xh,Xi,Xj,Xk,Xl,Xm,Xn,Xo,Xp,Xq,Xr,Xs,Xt,Xu,Xv,Xw,Xx,Value.oneCell',Xy,Xz,W0,W1,true_and,and_true,and_self,implies_true,W2,W3,W4,W5,false_implies,W6,W7,W8,W9,Wa,Wb,Wc,Wd,We,Wf,Wg,Wh,Wi,Wj,Wk,Wl,Wm,reduceCtorEq,if_true,if_false,Wn,↓reduceIte,Wo,Wp,Wq,Wr,Ws,Wt,ne_eq,not_false_eq_true,not_true_eq_false,Wu,Wv,r34_0,r34_1,r34_2,r34_3,r34_4,r34_6,r34_7,r34_8,r34_9,r34_10,r34_11,r34_5,r34_12,r34_13,r34_15,r34_16,r34_17,r34_18,r34_20,r34_19,r34_21,r34_22,r34_24,r34_23,r34_25,r34_14,r34_26,p34,l34_0,q0,gL,gE,v0,ir1,ir2,hg,hs,hw,hcm,List.length_append]) | (exfalso; omega)
          all_goals exact again hJ (i + 1, cur ++ [⟨i, i + 1, l[i].key, false, P[i], E[i]⟩]) (weak_mk (by simp only [Ww,Wx,Wy,Wz,V0,V1,Z4,Z5,Z6,Z7,Z8,Z9,Za,Zb,Zc,Zd,Ze,Zf,List.cons.injEq,Zg,Zh,Zi,Zj,Zk,Zl,Zm,Zn,Zo,Zp,beq_self_eq_true,bne_self_eq_false,decide_true,decide_false,Zq,Zr,Zs,Zt,Zu,Zv,Zw,Zx,Zy,Zz,Y0,hv,X0,ev,X1,X2,X3,X4,X5,X6,X7,X8,X9,Xa,Xb,Xc,Xd,Xe,Xf,Xg,Xh,Xi,Xj,Xk,Xl,Xm,Xn,Xo,Xp,Xq,Xr,Xs,Xt,Xu,Xv,Xw,Xx,Value.oneCell',Xy,Xz,W0,W1,true_and,and_true,and_self,implies_true,W2,W3,W4,W5,false_implies,W6,W7,W8,W9,Wa,Wb,Wc,Wd,We,Wf,Wg,Wh,Wi,Wj,Wk,Wl,Wm,reduceCtorEq,if_true,if_false,Wn,↓reduceIte,Wo,Wp,Wq,Wr,Ws,Wt,ne_eq,not_false_eq_true,not_true_eq_false,Wu,Nat.zero_ne_one]; simp [Grp.av])) ⟨by simp only; omega, by simp; omega, hnext⟩ (by simp only; omega)
        · have q0 : ((i : Int) == 0) = false := by rw [beq_eq_false_iff_ne]; omega
          have hkk : l[i].key = true := hk.resolve_left h0
          rw [hkk] at gL hp2
          repeat' first | ((with_reducible (first | refine condD ?_ ?_ | refine condE ?_ ?_ | refine condN ?_ ?_ | refine condI ?_ ?_ | refine condS ?_ ?_)) <;> intro h) | ((with_reducible (first | refine guardD (by with_unfolding_all rfl) ?_ ?_ | refine guardE (by with_unfolding_all rfl) ?_ ?_ | refine guardN (by with_unfolding_all rfl) ?_ ?_ | refine guardI (by with_unfolding_all rfl) ?_ ?_ | refine guardS (by with_unfolding_all rfl) ?_ ?_)) <;> intro h) | ((refine callG hp2 ?_)) | (with_reducible refine And.intro ?_ ?_; omega) | (simp only [Z0,Z1,Z2,Z3,Z4,Z5,Z6,Z7,Z8,Z9,Za,Zb,Zc,Zd,Ze,Zf,List.cons.injEq,Zg,Zh,Zi,Zj,Zk,Zl,Zm,Zn,Zo,Zp,beq_self_eq_true,bne_self_eq_false,decide_true,decide_false,Zq,Zr,Zs,Zt,Zu,Zv,Zw,Zx,Zy,Zz,Y0,Y1,Y2,Y3,Y4,Y5,Y6,Y7,Y8,Y9,Ya,Yb,Yc,Yd,Ye,Yf,Yg,Yh,lk,ef,Yi,Yj,Yk,Yl,Ym,Yn,Yo,Yp,Yq,Yr,Ys,Yt,Yu,Yv,Yw,Yx,Yy,Yz,hv,X0,ev,X1,X2,X3,X4,X5,X6,X7,X8,X9,Xa,Xb,Xc,Xd,Xe,Xf,Xg,Xh,Xi,Xj,Xk,Xl,Xm,Xn,Xo,Xp,Xq,Xr,Xs,Xt,Xu,Xv,Xw,Xx,Value.oneCell',Xy,Xz,W0,W1,true_and,and_true,and_self,implies_true,W2,W3,W4,W5,false_implies,W6,W7,W8,W9,Wa,Wb,Wc,Wd,We,Wf,Wg,Wh,Wi,Wj,Wk,Wl,Wm,reduceCtorEq,if_true,if_false,Wn,↓reduceIte,Wo,Wp,Wq,Wr,Ws,Wt,ne_eq,not_false_eq_true,not_true_eq_false,Wu,Wv,r34_0,r34_1,r34_2,r34_3,r34_4,r34_6,r34_7,r34_8,r34_9,r34_10,r34_11,r34_5,r34_12,r34_13,r34_15,r34_16,r34_17,r34_18,r34_20,r34_19,r34_21,r34_22,r34_24,r34_23,r34_25,r34_14,r34_26,p34,l34_0,q0,gL,gE,v0,ir1,ir2,hg,hs,hw,hcm,List.length_append]) | (exfalso; omega)
          all_goals exact again hJ (i + 1, cur ++ [⟨i, i + 1, l[i].key, false, P[i], E[i]⟩]) (weak_mk (by simp only [Ww,Wx,Wy,Wz,V0,V1,Z4,Z5,Z6,Z7,Z8,Z9,Za,Zb,Zc,Zd,Ze,Zf,List.cons.injEq,Zg,Zh,Zi,Zj,Zk,Zl,Zm,Zn,Zo,Zp,beq_self_eq_true,bne_self_eq_false,decide_true,decide_false,Zq,Zr,Zs,Zt,Zu,Zv,Zw,Zx,Zy,Zz,Y0,hv,X0,ev,X1,X2,X3,X4,X5,X6,X7,X8,X9,Xa,Xb,Xc,Xd,Xe,Xf,Xg,Xh,Xi,Xj,Xk,Xl,Xm,Xn,Xo,Xp,Xq,Xr,Xs,Xt,Xu,Xv,Xw,Xx,Value.oneCell',Xy,Xz,W0,W1,true_and,and_true,and_self,implies_true,W2,W3,W4,W5,false_implies,W6,W7,W8,W9,Wa,Wb,Wc,Wd,We,Wf,Wg,Wh,Wi,Wj,Wk,Wl,Wm,reduceCtorEq,if_true,if_false,Wn,↓reduceIte,Wo,Wp,Wq,Wr,Ws,Wt,ne_eq,not_false_eq_true,not_true_eq_false,Wu,Nat.zero_ne_one]; simp [Grp.av, hkk])) ⟨by simp only; omega, by simp; omega, hnext⟩ (by simp only; omega)
      · have h0 : i ≠ 0 := fun e => hk (.inl e)
        have hkk : l[i].key = false := by
          cases hx : l[i].key
          · rfl
          · exact absurd (.inr hx) hk
        have q0 : ((i : Int) == 0) = false := by rw [beq_eq_false_iff_ne]; omega
        rcases hinv with ⟨e, _⟩ | ⟨dn, f, u, hcur, hf, ht, hu, hgo⟩
        · exact absurd e h0
        have hnext := inv_go (P := P) (E := E) (i := i) (f := f) (dn := dn) ⟨u, hf, ht, hu, hgo⟩ hlt hkk
        have hmn := min_snoc (A := sub P f i) (x := P[i]) (sub_ne hf (by omega))
        have hmx := max_snoc (A := sub E f i) (x := E[i]) (sub_ne hf (by omega))
        rw [← sub_snoc (by omega) hip] at hmn
        rw [← sub_snoc (by omega) hie] at hmx
        have hpart : ∀ j, part l P E f j = ⟨f, j, (l.getD f ⟨0, 0, 0, 0, false⟩).key, false, Go.Lib.minOf (sub P f j), Go.Lib.maxOf (sub E f j)⟩ := fun _ => rfl
        rw [hpart, hmn, hmx] at hnext
        rw [hpart] at hcur
        generalize (l.getD f ⟨0, 0, 0, 0, false⟩).key = K at *
        generalize Go.Lib.minOf (sub P f i) = B at *
        generalize Go.Lib.maxOf (sub E f i) = X at *
        have hdm : (dn.map Grp.av).length = dn.length := List.length_map _
        have hcur2 : cur.map Grp.av = dn.map Grp.av ++ [[.val (.int .i64 f), .val (.int .i64 i), .val (.bool K), .val (.bool false), .val (.int .i64 B), .val (.int .i64 X)]] := by rw [hcur]; simp [Grp.av]
        have v0 : IntKind.i64.wrap (((dn.length + 1 : Nat) : Int) - 1) = dn.length := by
          have : cur.length = dn.length + 1 := by rw [hcur]; simp
          rw [wrap_in (by omega) (by omega)]; omega
        have hdl : dn.length + 1 ≤ i := by
          have : cur.length = dn.length + 1 := by rw [hcur]; simp
          omega
        have hg := fun c => last_get hdm c []
        have hs := fun c c' => last_set hdm c c'
        rw [hkk] at gL hp2
        clear hcur hgo ht hpart hmn hmx
        repeat' first | ((with_reducible (first | refine condD ?_ ?_ | refine condE ?_ ?_ | refine condN ?_ ?_ | refine condI ?_ ?_ | refine condS ?_ ?_)) <;> intro h) | ((with_reducible (first | refine guardD (by with_unfolding_all rfl) ?_ ?_ | refine guardE (by with_unfolding_all rfl) ?_ ?_ | refine guardN (by with_unfolding_all rfl) ?_ ?_ | refine guardI (by with_unfolding_all rfl) ?_ ?_ | refine guardS (by with_unfolding_all rfl) ?_ ?_)) <;> intro h) | ((refine callG hp2 ?_)) | (with_reducible refine And.intro ?_ ?_; omega) | (simp only [Z0,Z1,Z2,Z3,Z4,Z5,Z6,Z7,Z8,Z9,Za,Zb,Zc,Zd,Ze,Zf,List.cons.injEq,Zg,Zh,Zi,Zj,Zk,Zl,Zm,Zn,Zo,Zp,beq_self_eq_true,bne_self_eq_false,decide_true,decide_false,Zq,Zr,Zs,Zt,Zu,Zv,Zw,Zx,Zy,Zz,Y0,Y1,Y2,Y3,Y4,Y5,Y6,Y7,Y8,Y9,Ya,Yb,Yc,Yd,Ye,Yf,Yg,Yh,lk,ef,Yi,Yj,Yk,Yl,Ym,Yn,Yo,Yp,Yq,Yr,Ys,Yt,Yu,Yv,Yw,Yx,Yy,Yz,hv,X0,ev,X1,X2,X3,X4,X5,X6,X7,X8,X9,Xa,Xb,Xc,Xd,Xe,Xf,Xg,Xh,Xi,Xj,Xk,Xl,Xm,Xn,Xo,Xp,Xq,Xr,Xs,Xt,Xu,Xv,Xw,Xx,Value.oneCell',Xy,Xz,W0,W1,true_and,and_true,and_self,implies_true,W2,W3,W4,W5,false_implies,W6,W7,W8,W9,Wa,Wb,Wc,Wd,We,Wf,Wg,Wh,Wi,Wj,Wk,Wl,Wm,reduceCtorEq,if_true,if_false,Wn,↓reduceIte,Wo,Wp,Wq,Wr,Ws,Wt,ne_eq,not_false_eq_true,not_true_eq_false,Wu,Wv,r34_0,r34_1,r34_2,r34_3,r34_4,r34_6,r34_7,r34_8,r34_9,r34_10,r34_11,r34_5,r34_12,r34_13,r34_15,r34_16,r34_17,r34_18,r34_20,r34_19,r34_21,r34_22,r34_24,r34_23,r34_25,r34_14,r34_26,p34,l34_0,hcur2,q0,gL,gE,v0,hg,hs,hw,hdm,List.length_append]) | (exfalso; omega)
        all_goals exact again hJ (i + 1, dn ++ [⟨f, i + 1, K, false, if P[i] < B then P[i] else B, if X < E[i] then E[i] else X⟩]) (weak_mk (by simp only [Ww,Wx,Wy,Wz,V0,V1,Z4,Z5,Z6,Z7,Z8,Z9,Za,Zb,Zc,Zd,Ze,Zf,List.cons.injEq,Zg,Zh,Zi,Zj,Zk,Zl,Zm,Zn,Zo,Zp,beq_self_eq_true,bne_self_eq_false,decide_true,decide_false,Zq,Zr,Zs,Zt,Zu,Zv,Zw,Zx,Zy,Zz,Y0,hv,X0,ev,X1,X2,X3,X4,X5,X6,X7,X8,X9,Xa,Xb,Xc,Xd,Xe,Xf,Xg,Xh,Xi,Xj,Xk,Xl,Xm,Xn,Xo,Xp,Xq,Xr,Xs,Xt,Xu,Xv,Xw,Xx,Value.oneCell',Xy,Xz,W0,W1,true_and,and_true,and_self,implies_true,W2,W3,W4,W5,false_implies,W6,W7,W8,W9,Wa,Wb,Wc,Wd,We,Wf,Wg,Wh,Wi,Wj,Wk,Wl,Wm,reduceCtorEq,if_true,if_false,Wn,↓reduceIte,Wo,Wp,Wq,Wr,Ws,Wt,ne_eq,not_false_eq_true,not_true_eq_false,Wu,Nat.zero_ne_one]; simp [Grp.av])) ⟨by simp only; omega, by simp; omega, hnext⟩ (by simp only; omega)
    · have hie : i = l.length := by omega
      subst hie
      obtain ⟨R, hR⟩ : ∃ R, R = (groupsL l).map Grp.open := ⟨_, rfl⟩
      have hcR : cur = R := by
        rw [hR]
        by_cases h0 : 0 < l.length
        · subst hP; subst hE; exact inv_end hinv h0
        · have : l = [] := List.eq_nil_of_length_eq_zero (by omega)
          subst this
          have : cur = [] := List.eq_nil_of_length_eq_zero (by simpa using hcl)
          rw [this]; rfl
      subst hcR
      have hfin : cur.map (closeG P) = groupsL l := by rw [hR, hP]; exact close_all l
      have hmem : ∀ k (h : k < cur.length), ∃ f, f < l.length ∧ cur[k] = ⟨f, toOf l f, (l.getD f ⟨0, 0, 0, 0, false⟩).key, false, Go.Lib.minOf (sub P f (toOf l f)), Go.Lib.maxOf (sub E f (toOf l f))⟩ := fun k h => by
        have hm : cur[k] ∈ (groupsL l).map Grp.open := by rw [← hR]; exact List.getElem_mem h
        obtain ⟨g, hg, e⟩ := List.mem_map.1 hm
        obtain ⟨f, hf, rfl⟩ := mem_groupsGo hg
        exact ⟨f, hf, by rw [← e, hP, hE]; rfl⟩
      clear hJ hinv hR
      repeat' first | ((with_reducible (first | refine condD ?_ ?_ | refine condE ?_ ?_ | refine condN ?_ ?_ | refine condI ?_ ?_ | refine condS ?_ ?_)) <;> intro h) | ((with_reducible (first | refine guardD (by with_unfolding_all rfl) ?_ ?_ | refine guardE (by with_unfolding_all rfl) ?_ ?_ | refine guardN (by with_unfolding_all rfl) ?_ ?_ | refine guardI (by with_unfolding_all rfl) ?_ ?_ | refine guardS (by with_unfolding_all rfl) ?_ ?_)) <;> intro h) | (with_reducible refine And.intro ?_ ?_; omega) | (simp only [Z0,Z1,Z2,Z3,Z4,Z5,Z6,Z7,Z8,Z9,Za,Zb,Zc,Zd,Ze,Zf,List.cons.injEq,Zg,Zh,Zi,Zj,Zk,Zl,Zm,Zn,Zo,Zp,beq_self_eq_true,bne_self_eq_false,decide_true,decide_false,Zq,Zr,Zs,Zt,Zu,Zv,Zw,Zx,Zy,Zz,Y0,Y1,Y2,Y3,Y4,Y5,Y6,Y7,Y8,Y9,Ya,Yb,Yc,Yd,Ye,Yf,Yg,Yh,lk,ef,Yi,Yj,Yk,Yl,Ym,Yn,Yo,Yp,Yq,Yr,Ys,Yt,Yu,Yv,Yw,Yx,Yy,Yz,hv,X0,ev,X1,X2,X3,X4,X5,X6,X7,X8,X9,Xa,Xb,Xc,Xd,Xe,Xf,Xg,Xh,Xi,Xj,Xk,Xl,Xm,Xn,Xo,Xp,Xq,Xr,Xs,Xt,Xu,Xv,Xw,Xx,Value.oneCell',Xy,Xz,W0,W1,true_and,and_true,and_self,implies_true,W2,W3,W4,W5,false_implies,W6,W7,W8,W9,Wa,Wb,Wc,Wd,We,Wf,Wg,Wh,Wi,Wj,Wk,Wl,Wm,reduceCtorEq,if_true,if_false,Wn,↓reduceIte,Wo,Wp,Wq,Wr,Ws,Wt,ne_eq,not_false_eq_true,not_true_eq_false,Wu,Wv,r34_0,r34_1,r34_2,r34_3,r34_4,r34_6,r34_7,r34_8,r34_9,r34_10,r34_11,r34_5,r34_12,r34_13,r34_15,r34_16,r34_17,r34_18,r34_20,r34_19,r34_21,r34_22,r34_24,r34_23,r34_25,r34_14,r34_26,p34,l34_0]) | (exfalso; omega)
      refine loopS (fun k : Nat => mk [(0, .ro (l.map Smp.av)), (4, .own 53 6 ((upd (closeG P) k cur).map Grp.av)), (7, .val (.int .i64 k))]) (fun k => k ≤ cur.length) (fun k => cur.length - k) 0 (weak_mk ?_) (Nat.zero_le _) ?_
      · simp only [Ww,Wx,Wy,Wz,V0,V1,Z4,Z5,Z6,Z7,Z8,Z9,Za,Zb,Zc,Zd,Ze,Zf,List.cons.injEq,Zg,Zh,Zi,Zj,Zk,Zl,Zm,Zn,Zo,Zp,beq_self_eq_true,bne_self_eq_false,decide_true,decide_false,Zq,Zr,Zs,Zt,Zu,Zv,Zw,Zx,Zy,Zz,Y0,hv,X0,ev,X1,X2,X3,X4,X5,X6,X7,X8,X9,Xa,Xb,Xc,Xd,Xe,Xf,Xg,Xh,Xi,Xj,Xk,Xl,Xm,Xn,Xo,Xp,Xq,Xr,Xs,Xt,Xu,Xv,Xw,Xx,Value.oneCell',Xy,Xz,W0,W1,true_and,and_true,and_self,implies_true,W2,W3,W4,W5,false_implies,W6,W7,W8,W9,Wa,Wb,Wc,Wd,We,Wf,Wg,Wh,Wi,Wj,Wk,Wl,Wm,reduceCtorEq,if_true,if_false,Wn,↓reduceIte,Wo,Wp,Wq,Wr,Ws,Wt,ne_eq,not_false_eq_true,not_true_eq_false,Wu,Nat.zero_ne_one]
        simp [upd_zero]
      · rintro J hJ k hk
        simp only [Z0,Z1,Z2,Z3,Z4,Z5,Z6,Z7,Z8,Z9,Za,Zb,Zc,Zd,Ze,Zf,List.cons.injEq,Zg,Zh,Zi,Zj,Zk,Zl,Zm,Zn,Zo,Zp,beq_self_eq_true,bne_self_eq_false,decide_true,decide_false,Zq,Zr,Zs,Zt,Zu,Zv,Zw,Zx,Zy,Zz,Y0,Y1,Y2,Y3,Y4,Y5,Y6,Y7,Y8,Y9,Ya,Yb,Yc,Yd,Ye,Yf,Yg,Yh,lk,ef,Yi,Yj,Yk,Yl,Ym,Yn,Yo,Yp,Yq,Yr,Ys,Yt,Yu,Yv,Yw,Yx,Yy,Yz,hv,X0,ev,X1,X2,X3,X4,X5,X6,X7,X8,X9,Xa,Xb,Xc,Xd,Xe,Xf,Xg,Xh,Xi,Xj,Xk,Xl,Xm,Xn,Xo,Xp,Xq,Xr,Xs,Xt,Xu,Xv,Xw,Xx,Value.oneCell',Xy,Xz,W0,W1,true_and,and_true,and_self,implies_true,W2,W3,W4,W5,false_implies,W6,W7,W8,W9,Wa,Wb,Wc,Wd,We,Wf,Wg,Wh,Wi,Wj,Wk,Wl,Wm,reduceCtorEq,if_true,if_false,Wn,↓reduceIte,Wo,Wp,Wq,Wr,Ws,Wt,ne_eq,not_false_eq_true,not_true_eq_false,Wu,Wv,r34_0,r34_1,r34_2,r34_3,r34_4,r34_6,r34_7,r34_8,r34_9,r34_10,r34_11,r34_5,r34_12,r34_13,r34_15,r34_16,r34_17,r34_18,r34_20,r34_19,r34_21,r34_22,r34_24,r34_23,r34_25,r34_14,r34_26,p34,l34_1,upd_len,List.length_map]
        refine condD (fun h => ?_) (fun h => ?_)
        · have hlt : k < cur.length := by omega
          have hw := i_add1 k (by omega)
          obtain ⟨f, hf, hck⟩ := hmem k hlt
          obtain ⟨t1, t2⟩ := toOf_bd hf
          have hlt2 : k < (upd (closeG P) k cur).length := by rw [upd_len]; exact hlt
          have hgd := getD_map (f := Grp.av) (d := []) hlt2
          rw [upd_get _ _ _ hlt, hck] at hgd
          have hset := upd_set (closeG P) Grp.av k cur hlt
          rw [hck] at hset
          have hfp : f < P.length := by omega
          simp only [closeG, getD_in hfp, ← ne_contains (P := P) (f := f) (t := toOf l f) (by omega) (by omega), ← lt_last (P := P) (f := f) (by omega)] at hset
          have hpf := hpr2 f hf
          have gF := getD_map (f := Smp.av) (d := []) hf
          simp only [Smp.av] at hpf gF
          have hwf := i_add1 f (by omega)
          have hul := upd_len (closeG P) k cur
          clear hck
          generalize (l.getD f ⟨0, 0, 0, 0, false⟩).key = K at *
          generalize Go.Lib.minOf (sub P f (toOf l f)) = B at *
          generalize Go.Lib.maxOf (sub E f (toOf l f)) = X at *
          generalize toOf l f = t at *
          simp only [Grp.av] at hset hgd
          cases hK : K
          · rw [hK] at hgd hset
            repeat' first | ((with_reducible (first | refine condD ?_ ?_ | refine condE ?_ ?_ | refine condN ?_ ?_ | refine condI ?_ ?_ | refine condS ?_ ?_)) <;> intro h) | ((with_reducible (first | refine guardD (by with_unfolding_all rfl) ?_ ?_ | refine guardE (by with_unfolding_all rfl) ?_ ?_ | refine guardN (by with_unfolding_all rfl) ?_ ?_ | refine guardI (by with_unfolding_all rfl) ?_ ?_ | refine guardS (by with_unfolding_all rfl) ?_ ?_)) <;> intro h) | (with_reducible refine And.intro ?_ ?_; omega) | (simp only [Z0,Z1,Z2,Z3,Z4,Z5,Z6,Z7,Z8,Z9,Za,Zb,Zc,Zd,Ze,Zf,List.cons.injEq,Zg,Zh,Zi,Zj,Zk,Zl,Zm,Zn,Zo,Zp,beq_self_eq_true,bne_self_eq_false,decide_true,decide_false,Zq,Zr,Zs,Zt,Zu,Zv,Zw,Zx,Zy,Zz,Y0,Y1,Y2,Y3,Y4,Y5,Y6,Y7,Y8,Y9,Ya,Yb,Yc,Yd,Ye,Yf,Yg,Yh,lk,ef,Yi,Yj,Yk,Yl,Ym,Yn,Yo,Yp,Yq,Yr,Ys,Yt,Yu,Yv,Yw,Yx,Yy,Yz,hv,X0,ev,X1,X2,X3,X4,X5,X6,X7,X8,X9,Xa,Xb,Xc,Xd,Xe,Xf,Xg,Xh,Xi,Xj,Xk,Xl,Xm,Xn,Xo,Xp,Xq,Xr,Xs,Xt,Xu,Xv,Xw,Xx,Value.oneCell',Xy,Xz,W0,W1,true_and,and_true,and_self,implies_true,W2,W3,W4,W5,false_implies,W6,W7,W8,W9,Wa,Wb,Wc,Wd,We,Wf,Wg,Wh,Wi,Wj,Wk,Wl,Wm,reduceCtorEq,if_true,if_false,Wn,↓reduceIte,Wo,Wp,Wq,Wr,Ws,Wt,ne_eq,not_false_eq_true,not_true_eq_false,Wu,Wv,r34_0,r34_1,r34_2,r34_3,r34_4,r34_6,r34_7,r34_8,r34_9,r34_10,r34_11,r34_5,r34_12,r34_13,r34_15,r34_16,r34_17,r34_18,r34_20,r34_19,r34_21,r34_22,r34_24,r34_23,r34_25,r34_14,r34_26,p34,l34_1,hgd,gF,hwf,hul,List.length_map]) | (exfalso; omega)
            obtain ⟨c0, hc0⟩ : ∃ c0 : Bool, c0 = false := ⟨_, rfl⟩
            refine loopS (fun j : Nat => mk [(0, .ro (l.map Smp.av)), (4, .own 53 6 ((upd (closeG P) k cur).map Grp.av)), (7, .val (.int .i64 k)), (8, .box [.val (.int .i64 f), .val (.int .i64 t), .val (.bool false), .val (.bool false), .val (.int .i64 B), .val (.int .i64 X)]), (9, .val (.bool (c0 && allNe P B (f + 1) j))), (10, .val (.int .i64 ((f + 1 + j : Nat) : Int)))]) (fun j => f + 1 + j ≤ t) (fun j => t - j) 0 (weak_mk ?_) (by omega) ?_
            · simp only [Ww,Wx,Wy,Wz,V0,V1,Z4,Z5,Z6,Z7,Z8,Z9,Za,Zb,Zc,Zd,Ze,Zf,List.cons.injEq,Zg,Zh,Zi,Zj,Zk,Zl,Zm,Zn,Zo,Zp,beq_self_eq_true,bne_self_eq_false,decide_true,decide_false,Zq,Zr,Zs,Zt,Zu,Zv,Zw,Zx,Zy,Zz,Y0,hv,X0,ev,X1,X2,X3,X4,X5,X6,X7,X8,X9,Xa,Xb,Xc,Xd,Xe,Xf,Xg,Xh,Xi,Xj,Xk,Xl,Xm,Xn,Xo,Xp,Xq,Xr,Xs,Xt,Xu,Xv,Xw,Xx,Value.oneCell',Xy,Xz,W0,W1,true_and,and_true,and_self,implies_true,W2,W3,W4,W5,false_implies,W6,W7,W8,W9,Wa,Wb,Wc,Wd,We,Wf,Wg,Wh,Wi,Wj,Wk,Wl,Wm,reduceCtorEq,if_true,if_false,Wn,↓reduceIte,Wo,Wp,Wq,Wr,Ws,Wt,ne_eq,not_false_eq_true,not_true_eq_false,Wu,Nat.zero_ne_one]
              simp [allNe, hc0]
            · rintro J2 hJ2 j hj
              simp only [Z0,Z1,Z2,Z3,Z4,Z5,Z6,Z7,Z8,Z9,Za,Zb,Zc,Zd,Ze,Zf,List.cons.injEq,Zg,Zh,Zi,Zj,Zk,Zl,Zm,Zn,Zo,Zp,beq_self_eq_true,bne_self_eq_false,decide_true,decide_false,Zq,Zr,Zs,Zt,Zu,Zv,Zw,Zx,Zy,Zz,Y0,Y1,Y2,Y3,Y4,Y5,Y6,Y7,Y8,Y9,Ya,Yb,Yc,Yd,Ye,Yf,Yg,Yh,lk,ef,Yi,Yj,Yk,Yl,Ym,Yn,Yo,Yp,Yq,Yr,Ys,Yt,Yu,Yv,Yw,Yx,Yy,Yz,hv,X0,ev,X1,X2,X3,X4,X5,X6,X7,X8,X9,Xa,Xb,Xc,Xd,Xe,Xf,Xg,Xh,Xi,Xj,Xk,Xl,Xm,Xn,Xo,Xp,Xq,Xr,Xs,Xt,Xu,Xv,Xw,Xx,Value.oneCell',Xy,Xz,W0,W1,true_and,and_true,and_self,implies_true,W2,W3,W4,W5,false_implies,W6,W7,W8,W9,Wa,Wb,Wc,Wd,We,Wf,Wg,Wh,Wi,Wj,Wk,Wl,Wm,reduceCtorEq,if_true,if_false,Wn,↓reduceIte,Wo,Wp,Wq,Wr,Ws,Wt,ne_eq,not_false_eq_true,not_true_eq_false,Wu,Wv,r34_0,r34_1,r34_2,r34_3,r34_4,r34_6,r34_7,r34_8,r34_9,r34_10,r34_11,r34_5,r34_12,r34_13,r34_15,r34_16,r34_17,r34_18,r34_20,r34_19,r34_21,r34_22,r34_24,r34_23,r34_25,r34_14,r34_26,p34,l34_2]
              refine condD (fun h3 => ?_) (fun h3 => ?_)
              · have hlj : f + 1 + j < l.length := by omega
                have hljp : f + 1 + j < P.length := by omega
                have hwj : IntKind.i64.wrap (((f + 1 + j : Nat) : Int) + 1) = ((f + 1 + (j + 1) : Nat) : Int) := i_add1 (f + 1 + j) (by omega)
                have hj2 := hpr2 (f + 1 + j) hlj
                have gJ := getD_map (f := Smp.av) (d := []) hlj
                simp only [Smp.av] at hj2 gJ
                have hne : (c0 && allNe P B (f + 1) (j + 1)) = ((c0 && allNe P B (f + 1) j) && (P[f + 1 + j] != B)) := by rw [allNe, getD_in hljp, Bool.and_assoc]
                cases hcc : (c0 && allNe P B (f + 1) j)
                · rw [hcc] at hne
                  repeat' first | ((with_reducible (first | refine condD ?_ ?_ | refine condE ?_ ?_ | refine condN ?_ ?_ | refine condI ?_ ?_ | refine condS ?_ ?_)) <;> intro h) | ((with_reducible (first | refine guardD (by with_unfolding_all rfl) ?_ ?_ | refine guardE (by with_unfolding_all rfl) ?_ ?_ | refine guardN (by with_unfolding_all rfl) ?_ ?_ | refine guardI (by with_unfolding_all rfl) ?_ ?_ | refine guardS (by with_unfolding_all rfl) ?_ ?_)) <;> intro h) | ((refine callG hj2 ?_)) | (with_reducible refine And.intro ?_ ?_; omega) | (simp only [Z0,Z1,Z2,Z3,Z4,Z5,Z6,Z7,Z8,Z9,Za,Zb,Zc,Zd,Ze,Zf,List.cons.injEq,Zg,Zh,Zi,Zj,Zk,Zl,Zm,Zn,Zo,Zp,beq_self_eq_true,bne_self_eq_false,decide_true,decide_false,Zq,Zr,Zs,Zt,Zu,Zv,Zw,Zx,Zy,Zz,Y0,Y1,Y2,Y3,Y4,Y5,Y6,Y7,Y8,Y9,Ya,Yb,Yc,Yd,Ye,Yf,Yg,Yh,lk,ef,Yi,Yj,Yk,Yl,Ym,Yn,Yo,Yp,Yq,Yr,Ys,Yt,Yu,Yv,Yw,Yx,Yy,Yz,hv,X0,ev,X1,X2,X3,X4,X5,X6,X7,X8,X9,Xa,Xb,Xc,Xd,Xe,Xf,Xg,Xh,Xi,Xj,Xk,Xl,Xm,Xn,Xo,Xp,Xq,Xr,Xs,Xt,Xu,Xv,Xw,Xx,Value.oneCell',Xy,Xz,W0,W1,true_and,and_true,and_self,implies_true,W2,W3,W4,W5,false_implies,W6,W7,W8,W9,Wa,Wb,Wc,Wd,We,Wf,Wg,Wh,Wi,Wj,Wk,Wl,Wm,reduceCtorEq,if_true,if_false,Wn,↓reduceIte,Wo,Wp,Wq,Wr,Ws,Wt,ne_eq,not_false_eq_true,not_true_eq_false,Wu,Wv,r34_0,r34_1,r34_2,r34_3,r34_4,r34_6,r34_7,r34_8,r34_9,r34_10,r34_11,r34_5,r34_12,r34_13,r34_15,r34_16,r34_17,r34_18,r34_20,r34_19,r34_21,r34_22,r34_24,r34_23,r34_25,r34_14,r34_26,p34,l34_2,hwj,gJ]) | (exfalso; omega)
                  all_goals exact again hJ2 (j + 1) (weak_mk (by simp only [Ww,Wx,Wy,Wz,V0,V1,Z4,Z5,Z6,Z7,Z8,Z9,Za,Zb,Zc,Zd,Ze,Zf,List.cons.injEq,Zg,Zh,Zi,Zj,Zk,Zl,Zm,Zn,Zo,Zp,beq_self_eq_true,bne_self_eq_false,decide_true,decide_false,Zq,Zr,Zs,Zt,Zu,Zv,Zw,Zx,Zy,Zz,Y0,hv,X0,ev,X1,X2,X3,X4,X5,X6,X7,X8,X9,Xa,Xb,Xc,Xd,Xe,Xf,Xg,Xh,Xi,Xj,Xk,Xl,Xm,Xn,Xo,Xp,Xq,Xr,Xs,Xt,Xu,Xv,Xw,Xx,Value.oneCell',Xy,Xz,W0,W1,true_and,and_true,and_self,implies_true,W2,W3,W4,W5,false_implies,W6,W7,W8,W9,Wa,Wb,Wc,Wd,We,Wf,Wg,Wh,Wi,Wj,Wk,Wl,Wm,reduceCtorEq,if_true,if_false,Wn,↓reduceIte,Wo,Wp,Wq,Wr,Ws,Wt,ne_eq,not_false_eq_true,not_true_eq_false,Wu,Nat.zero_ne_one]; rw [hne]; simp)) (by omega) (by omega)
                · rw [hcc] at hne
                  repeat' first | ((with_reducible (first | refine condD ?_ ?_ | refine condE ?_ ?_ | refine condN ?_ ?_ | refine condI ?_ ?_ | refine condS ?_ ?_)) <;> intro h) | ((with_reducible (first | refine guardD (by with_unfolding_all rfl) ?_ ?_ | refine guardE (by with_unfolding_all rfl) ?_ ?_ | refine guardN (by with_unfolding_all rfl) ?_ ?_ | refine guardI (by with_unfolding_all rfl) ?_ ?_ | refine guardS (by with_unfolding_all rfl) ?_ ?_)) <;> intro h) | ((refine callG hj2 ?_)) | (with_reducible refine And.intro ?_ ?_; omega) | (simp only [Z0,Z1,Z2,Z3,Z4,Z5,Z6,Z7,Z8,Z9,Za,Zb,Zc,Zd,Ze,Zf,List.cons.injEq,Zg,Zh,Zi,Zj,Zk,Zl,Zm,Zn,Zo,Zp,beq_self_eq_true,bne_self_eq_false,decide_true,decide_false,Zq,Zr,Zs,Zt,Zu,Zv,Zw,Zx,Zy,Zz,Y0,Y1,Y2,Y3,Y4,Y5,Y6,Y7,Y8,Y9,Ya,Yb,Yc,Yd,Ye,Yf,Yg,Yh,lk,ef,Yi,Yj,Yk,Yl,Ym,Yn,Yo,Yp,Yq,Yr,Ys,Yt,Yu,Yv,Yw,Yx,Yy,Yz,hv,X0,ev,X1,X2,X3,X4,X5,X6,X7,X8,X9,Xa,Xb,Xc,Xd,Xe,Xf,Xg,Xh,Xi,Xj,Xk,Xl,Xm,Xn,Xo,Xp,Xq,Xr,Xs,Xt,Xu,Xv,Xw,Xx,Value.oneCell',Xy,Xz,W0,W1,true_and,and_true,and_self,implies_true,W2,W3,W4,W5,false_implies,W6,W7,W8,W9,Wa,Wb,Wc,Wd,We,Wf,Wg,Wh,Wi,Wj,Wk,Wl,Wm,reduceCtorEq,if_true,if_false,Wn,↓reduceIte,Wo,Wp,Wq,Wr,Ws,Wt,ne_eq,not_false_eq_true,not_true_eq_false,Wu,Wv,r34_0,r34_1,r34_2,r34_3,r34_4,r34_6,r34_7,r34_8,r34_9,r34_10,r34_11,r34_5,r34_12,r34_13,r34_15,r34_16,r34_17,r34_18,r34_20,r34_19,r34_21,r34_22,r34_24,r34_23,r34_25,r34_14,r34_26,p34,l34_2,hwj,gJ]) | (exfalso; omega)
                  all_goals exact again hJ2 (j + 1) (weak_mk (by simp only [Ww,Wx,Wy,Wz,V0,V1,Z4,Z5,Z6,Z7,Z8,Z9,Za,Zb,Zc,Zd,Ze,Zf,List.cons.injEq,Zg,Zh,Zi,Zj,Zk,Zl,Zm,Zn,Zo,Zp,beq_self_eq_true,bne_self_eq_false,decide_true,decide_false,Zq,Zr,Zs,Zt,Zu,Zv,Zw,Zx,Zy,Zz,Y0,hv,X0,ev,X1,X2,X3,X4,X5,X6,X7,X8,X9,Xa,Xb,Xc,Xd,Xe,Xf,Xg,Xh,Xi,Xj,Xk,Xl,Xm,Xn,Xo,Xp,Xq,Xr,Xs,Xt,Xu,Xv,Xw,Xx,Value.oneCell',Xy,Xz,W0,W1,true_and,and_true,and_self,implies_true,W2,W3,W4,W5,false_implies,W6,W7,W8,W9,Wa,Wb,Wc,Wd,We,Wf,Wg,Wh,Wi,Wj,Wk,Wl,Wm,reduceCtorEq,if_true,if_false,Wn,↓reduceIte,Wo,Wp,Wq,Wr,Ws,Wt,ne_eq,not_false_eq_true,not_true_eq_false,Wu,Nat.zero_ne_one]; rw [hne]; simp)) (by omega) (by omega)
              · have hje : j = t - (f + 1) := by omega
                subst hje
                clear hJ2
                obtain ⟨c1, hc1⟩ : ∃ c1 : Bool, c1 = (c0 && allNe P B (f + 1) (t - (f + 1))) := ⟨_, rfl⟩
                repeat' first | ((with_reducible (first | refine condD ?_ ?_ | refine condE ?_ ?_ | refine condN ?_ ?_ | refine condI ?_ ?_ | refine condS ?_ ?_)) <;> intro h) | ((with_reducible (first | refine guardD (by with_unfolding_all rfl) ?_ ?_ | refine guardE (by with_unfolding_all rfl) ?_ ?_ | refine guardN (by with_unfolding_all rfl) ?_ ?_ | refine guardI (by with_unfolding_all rfl) ?_ ?_ | refine guardS (by with_unfolding_all rfl) ?_ ?_)) <;> intro h) | (with_reducible refine And.intro ?_ ?_; omega) | (simp only [Z0,Z1,Z2,Z3,Z4,Z5,Z6,Z7,Z8,Z9,Za,Zb,Zc,Zd,Ze,Zf,List.cons.injEq,Zg,Zh,Zi,Zj,Zk,Zl,Zm,Zn,Zo,Zp,beq_self_eq_true,bne_self_eq_false,decide_true,decide_false,Zq,Zr,Zs,Zt,Zu,Zv,Zw,Zx,Zy,Zz,Y0,Y1,Y2,Y3,Y4,Y5,Y6,Y7,Y8,Y9,Ya,Yb,Yc,Yd,Ye,Yf,Yg,Yh,lk,ef,Yi,Yj,Yk,Yl,Ym,Yn,Yo,Yp,Yq,Yr,Ys,Yt,Yu,Yv,Yw,Yx,Yy,Yz,hv,X0,ev,X1,X2,X3,X4,X5,X6,X7,X8,X9,Xa,Xb,Xc,Xd,Xe,Xf,Xg,Xh,Xi,Xj,Xk,Xl,Xm,Xn,Xo,Xp,Xq,Xr,Xs,Xt,Xu,Xv,Xw,Xx,Value.oneCell',Xy,Xz,W0,W1,true_and,and_true,and_self,implies_true,W2,W3,W4,W5,false_implies,W6,W7,W8,W9,Wa,Wb,Wc,Wd,We,Wf,Wg,Wh,Wi,Wj,Wk,Wl,Wm,reduceCtorEq,if_true,if_false,Wn,↓reduceIte,Wo,Wp,Wq,Wr,Ws,Wt,ne_eq,not_false_eq_true,not_true_eq_false,Wu,Wv,r34_0,r34_1,r34_2,r34_3,r34_4,r34_6,r34_7,r34_8,r34_9,r34_10,r34_11,r34_5,r34_12,r34_13,r34_15,r34_16,r34_17,r34_18,r34_20,r34_19,r34_21,r34_22,r34_24,r34_23,r34_25,r34_14,r34_26,p34,l34_2]) | (exfalso; omega)
                refine loopS (fun j : Nat => mk [(0, .ro (l.map Smp.av)), (4, .own 53 6 ((upd (closeG P) k cur).map Grp.av)), (7, .val (.int .i64 k)), (8, .box [.val (.int .i64 f), .val (.int .i64 t), .val (.bool false), .val (.bool false), .val (.int .i64 B), .val (.int .i64 X)]), (9, .val (.bool (c1 && allLt P B j))), (11, .val (.int .i64 j))]) (fun j => j ≤ f) (fun j => f - j) 0 (weak_mk ?_) (by omega) ?_
                · simp only [Ww,Wx,Wy,Wz,V0,V1,Z4,Z5,Z6,Z7,Z8,Z9,Za,Zb,Zc,Zd,Ze,Zf,List.cons.injEq,Zg,Zh,Zi,Zj,Zk,Zl,Zm,Zn,Zo,Zp,beq_self_eq_true,bne_self_eq_false,decide_true,decide_false,Zq,Zr,Zs,Zt,Zu,Zv,Zw,Zx,Zy,Zz,Y0,hv,X0,ev,X1,X2,X3,X4,X5,X6,X7,X8,X9,Xa,Xb,Xc,Xd,Xe,Xf,Xg,Xh,Xi,Xj,Xk,Xl,Xm,Xn,Xo,Xp,Xq,Xr,Xs,Xt,Xu,Xv,Xw,Xx,Value.oneCell',Xy,Xz,W0,W1,true_and,and_true,and_self,implies_true,W2,W3,W4,W5,false_implies,W6,W7,W8,W9,Wa,Wb,Wc,Wd,We,Wf,Wg,Wh,Wi,Wj,Wk,Wl,Wm,reduceCtorEq,if_true,if_false,Wn,↓reduceIte,Wo,Wp,Wq,Wr,Ws,Wt,ne_eq,not_false_eq_true,not_true_eq_false,Wu,Nat.zero_ne_one]
                  simp [allLt, hc1]
                · rintro J3 hJ3 j hj
                  simp only [Z0,Z1,Z2,Z3,Z4,Z5,Z6,Z7,Z8,Z9,Za,Zb,Zc,Zd,Ze,Zf,List.cons.injEq,Zg,Zh,Zi,Zj,Zk,Zl,Zm,Zn,Zo,Zp,beq_self_eq_true,bne_self_eq_false,decide_true,decide_false,Zq,Zr,Zs,Zt,Zu,Zv,Zw,Zx,Zy,Zz,Y0,Y1,Y2,Y3,Y4,Y5,Y6,Y7,Y8,Y9,Ya,Yb,Yc,Yd,Ye,Yf,Yg,Yh,lk,ef,Yi,Yj,Yk,Yl,Ym,Yn,Yo,Yp,Yq,Yr,Ys,Yt,Yu,Yv,Yw,Yx,Yy,Yz,hv,X0,ev,X1,X2,X3,X4,X5,X6,X7,X8,X9,Xa,Xb,Xc,Xd,Xe,Xf,Xg,Xh,Xi,Xj,Xk,Xl,Xm,Xn,Xo,Xp,Xq,Xr,Xs,Xt,Xu,Xv,Xw,Xx,Value.oneCell',Xy,Xz,W0,W1,true_and,and_true,and_self,implies_true,W2,W3,W4,W5,false_implies,W6,W7,W8,W9,Wa,Wb,Wc,Wd,We,Wf,Wg,Wh,Wi,Wj,Wk,Wl,Wm,reduceCtorEq,if_true,if_false,Wn,↓reduceIte,Wo,Wp,Wq,Wr,Ws,Wt,ne_eq,not_false_eq_true,not_true_eq_false,Wu,Wv,r34_0,r34_1,r34_2,r34_3,r34_4,r34_6,r34_7,r34_8,r34_9,r34_10,r34_11,r34_5,r34_12,r34_13,r34_15,r34_16,r34_17,r34_18,r34_20,r34_19,r34_21,r34_22,r34_24,r34_23,r34_25,r34_14,r34_26,p34,l34_3]
                  refine condD (fun h3 => ?_) (fun h3 => ?_)
                  · have hlj : j < l.length := by omega
                    have hljp : j < P.length := by omega
                    have hwj := i_add1 j (by omega)
                    have hj2 := hpr2 j hlj
                    have gJ := getD_map (f := Smp.av) (d := []) hlj
                    simp only [Smp.av] at hj2 gJ
                    have hne : (c1 && allLt P B (j + 1)) = ((c1 && allLt P B j) && decide (P[j] < B)) := by rw [allLt, getD_in hljp, Bool.and_assoc]
                    cases hcc : (c1 && allLt P B j)
                    · rw [hcc] at hne
                      repeat' first | ((with_reducible (first | refine condD ?_ ?_ | refine condE ?_ ?_ | refine condN ?_ ?_ | refine condI ?_ ?_ | refine condS ?_ ?_)) <;> intro h) | ((with_reducible (first | refine guardD (by with_unfolding_all rfl) ?_ ?_ | refine guardE (by with_unfolding_all rfl) ?_ ?_ | refine guardN (by with_unfolding_all rfl) ?_ ?_ | refine guardI (by with_unfolding_all rfl) ?_ ?_ | refine guardS (by with_unfolding_all rfl) ?_ ?_)) <;> intro h) | ((refine callG hj2 ?_)) | (with_reducible refine And.intro ?_ ?_; omega) | (simp only [Z0,Z1,Z2,Z3,Z4,Z5,Z6,Z7,Z8,Z9,Za,Zb,Zc,Zd,Ze,Zf,List.cons.injEq,Zg,Zh,Zi,Zj,Zk,Zl,Zm,Zn,Zo,Zp,beq_self_eq_true,bne_self_eq_false,decide_true,decide_false,Zq,Zr,Zs,Zt,Zu,Zv,Zw,Zx,Zy,Zz,Y0,Y1,Y2,Y3,Y4,Y5,Y6,Y7,Y8,Y9,Ya,Yb,Yc,Yd,Ye,Yf,Yg,Yh,lk,ef,Yi,Yj,Yk,Yl,Ym,Yn,Yo,Yp,Yq,Yr,Ys,Yt,Yu,Yv,Yw,Yx,Yy,Yz,hv,X0,ev,X1,X2,X3,X4,X5,X6,X7,X8,X9,Xa,Xb,Xc,Xd,Xe,Xf,Xg,Xh,Xi,Xj,Xk,Xl,Xm,Xn,Xo,Xp,Xq,Xr,Xs,Xt,Xu,Xv,Xw,Xx,Value.oneCell',Xy,Xz,W0,W1,true_and,and_true,and_self,implies_true,W2,W3,W4,W5,false_implies,W6,W7,W8,W9,Wa,Wb,Wc,Wd,We,Wf,Wg,Wh,Wi,Wj,Wk,Wl,Wm,reduceCtorEq,if_true,if_false,Wn,↓reduceIte,Wo,Wp,Wq,Wr,Ws,Wt,ne_eq,not_false_eq_true,not_true_eq_false,Wu,Wv,r34_0,r34_1,r34_2,r34_3,r34_4,r34_6,r34_7,r34_8,r34_9,r34_10,r34_11,r34_5,r34_12,r34_13,r34_15,r34_16,r34_17,r34_18,r34_20,r34_19,r34_21,r34_22,r34_24,r34_23,r34_25,r34_14,r34_26,p34,l34_3,hwj,gJ]) | (exfalso; omega)
                      all_goals exact again hJ3 (j + 1) (weak_mk (by simp only [Ww,Wx,Wy,Wz,V0,V1,Z4,Z5,Z6,Z7,Z8,Z9,Za,Zb,Zc,Zd,Ze,Zf,List.cons.injEq,Zg,Zh,Zi,Zj,Zk,Zl,Zm,Zn,Zo,Zp,beq_self_eq_true,bne_self_eq_false,decide_true,decide_false,Zq,Zr,Zs,Zt,Zu,Zv,Zw,Zx,Zy,Zz,Y0,hv,X0,ev,X1,X2,X3,X4,X5,X6,X7,X8,X9,Xa,Xb,Xc,Xd,Xe,Xf,Xg,Xh,Xi,Xj,Xk,Xl,Xm,Xn,Xo,Xp,Xq,Xr,Xs,Xt,Xu,Xv,Xw,Xx,Value.oneCell',Xy,Xz,W0,W1,true_and,and_true,and_self,implies_true,W2,W3,W4,W5,false_implies,W6,W7,W8,W9,Wa,Wb,Wc,Wd,We,Wf,Wg,Wh,Wi,Wj,Wk,Wl,Wm,reduceCtorEq,if_true,if_false,Wn,↓reduceIte,Wo,Wp,Wq,Wr,Ws,Wt,ne_eq,not_false_eq_true,not_true_eq_false,Wu,Nat.zero_ne_one]; rw [hne]; simp [hwj])) (by omega) (by omega)
                    · rw [hcc] at hne
                      repeat' first | ((with_reducible (first | refine condD ?_ ?_ | refine condE ?_ ?_ | refine condN ?_ ?_ | refine condI ?_ ?_ | refine condS ?_ ?_)) <;> intro h) | ((with_reducible (first | refine guardD (by with_unfolding_all rfl) ?_ ?_ | refine guardE (by with_unfolding_all rfl) ?_ ?_ | refine guardN (by with_unfolding_all rfl) ?_ ?_ | refine guardI (by with_unfolding_all rfl) ?_ ?_ | refine guardS (by with_unfolding_all rfl) ?_ ?_)) <;> intro h) | ((refine callG hj2 ?_)) | (with_reducible refine And.intro ?_ ?_; omega) | (simp only [Z0,Z1,Z2,Z3,Z4,Z5,Z6,Z7,Z8,Z9,Za,Zb,Zc,Zd,Ze,Zf,List.cons.injEq,Zg,Zh,Zi,Zj,Zk,Zl,Zm,Zn,Zo,Zp,beq_self_eq_true,bne_self_eq_false,decide_true,decide_false,Zq,Zr,Zs,Zt,Zu,Zv,Zw,Zx,Zy,Zz,Y0,Y1,Y2,Y3,Y4,Y5,Y6,Y7,Y8,Y9,Ya,Yb,Yc,Yd,Ye,Yf,Yg,Yh,lk,ef,Yi,Yj,Yk,Yl,Ym,Yn,Yo,Yp,Yq,Yr,Ys,Yt,Yu,Yv,Yw,Yx,Yy,Yz,hv,X0,ev,X1,X2,X3,X4,X5,X6,X7,X8,X9,Xa,Xb,Xc,Xd,Xe,Xf,Xg,Xh,Xi,Xj,Xk,Xl,Xm,Xn,Xo,Xp,Xq,Xr,Xs,Xt,Xu,Xv,Xw,Xx,Value.oneCell',Xy,Xz,W0,W1,true_and,and_true,and_self,implies_true,W2,W3,W4,W5,false_implies,W6,W7,W8,W9,Wa,Wb,Wc,Wd,We,Wf,Wg,Wh,Wi,Wj,Wk,Wl,Wm,reduceCtorEq,if_true,if_false,Wn,↓reduceIte,Wo,Wp,Wq,Wr,Ws,Wt,ne_eq,not_false_eq_true,not_true_eq_false,Wu,Wv,r34_0,r34_1,r34_2,r34_3,r34_4,r34_6,r34_7,r34_8,r34_9,r34_10,r34_11,r34_5,r34_12,r34_13,r34_15,r34_16,r34_17,r34_18,r34_20,r34_19,r34_21,r34_22,r34_24,r34_23,r34_25,r34_14,r34_26,p34,l34_3,hwj,gJ]) | (exfalso; omega)
                      all_goals exact again hJ3 (j + 1) (weak_mk (by simp only [Ww,Wx,Wy,Wz,V0,V1,Z4,Z5,Z6,Z7,Z8,Z9,Za,Zb,Zc,Zd,Ze,Zf,List.cons.injEq,Zg,Zh,Zi,Zj,Zk,Zl,Zm,Zn,Zo,Zp,beq_self_eq_true,bne_self_eq_false,decide_true,decide_false,Zq,Zr,Zs,Zt,Zu,Zv,Zw,Zx,Zy,Zz,Y0,hv,X0,ev,X1,X2,X3,X4,X5,X6,X7,X8,X9,Xa,Xb,Xc,Xd,Xe,Xf,Xg,Xh,Xi,Xj,Xk,Xl,Xm,Xn,Xo,Xp,Xq,Xr,Xs,Xt,Xu,Xv,Xw,Xx,Value.oneCell',Xy,Xz,W0,W1,true_and,and_true,and_self,implies_true,W2,W3,W4,W5,false_implies,W6,W7,W8,W9,Wa,Wb,Wc,Wd,We,Wf,Wg,Wh,Wi,Wj,Wk,Wl,Wm,reduceCtorEq,if_true,if_false,Wn,↓reduceIte,Wo,Wp,Wq,Wr,Ws,Wt,ne_eq,not_false_eq_true,not_true_eq_false,Wu,Nat.zero_ne_one]; rw [hne]; simp [hwj])) (by omega) (by omega)
                  · have hje : j = f := by omega
                    subst hje
                    clear hJ3
                    have hV : (false && (B == P[j]) && allNe P B (j + 1) (t - (j + 1)) && allLt P B j) = (c1 && allLt P B j) := by rw [hc1, hc0, Bool.false_and, Bool.false_and]
                    rw [hV] at hset
                    repeat' first | ((with_reducible (first | refine condD ?_ ?_ | refine condE ?_ ?_ | refine condN ?_ ?_ | refine condI ?_ ?_ | refine condS ?_ ?_)) <;> intro h) | ((with_reducible (first | refine guardD (by with_unfolding_all rfl) ?_ ?_ | refine guardE (by with_unfolding_all rfl) ?_ ?_ | refine guardN (by with_unfolding_all rfl) ?_ ?_ | refine guardI (by with_unfolding_all rfl) ?_ ?_ | refine guardS (by with_unfolding_all rfl) ?_ ?_)) <;> intro h) | (with_reducible refine And.intro ?_ ?_; omega) | (simp only [Z0,Z1,Z2,Z3,Z4,Z5,Z6,Z7,Z8,Z9,Za,Zb,Zc,Zd,Ze,Zf,List.cons.injEq,Zg,Zh,Zi,Zj,Zk,Zl,Zm,Zn,Zo,Zp,beq_self_eq_true,bne_self_eq_false,decide_true,decide_false,Zq,Zr,Zs,Zt,Zu,Zv,Zw,Zx,Zy,Zz,Y0,Y1,Y2,Y3,Y4,Y5,Y6,Y7,Y8,Y9,Ya,Yb,Yc,Yd,Ye,Yf,Yg,Yh,lk,ef,Yi,Yj,Yk,Yl,Ym,Yn,Yo,Yp,Yq,Yr,Ys,Yt,Yu,Yv,Yw,Yx,Yy,Yz,hv,X0,ev,X1,X2,X3,X4,X5,X6,X7,X8,X9,Xa,Xb,Xc,Xd,Xe,Xf,Xg,Xh,Xi,Xj,Xk,Xl,Xm,Xn,Xo,Xp,Xq,Xr,Xs,Xt,Xu,Xv,Xw,Xx,Value.oneCell',Xy,Xz,W0,W1,true_and,and_true,and_self,implies_true,W2,W3,W4,W5,false_implies,W6,W7,W8,W9,Wa,Wb,Wc,Wd,We,Wf,Wg,Wh,Wi,Wj,Wk,Wl,Wm,reduceCtorEq,if_true,if_false,Wn,↓reduceIte,Wo,Wp,Wq,Wr,Ws,Wt,ne_eq,not_false_eq_true,not_true_eq_false,Wu,Wv,r34_0,r34_1,r34_2,r34_3,r34_4,r34_6,r34_7,r34_8,r34_9,r34_10,r34_11,r34_5,r34_12,r34_13,r34_15,r34_16,r34_17,r34_18,r34_20,r34_19,r34_21,r34_22,r34_24,r34_23,r34_25,r34_14,r34_26,p34,l34_3,hgd,hset,hul,List.length_map]) | (exfalso; omega)
                    all_goals exact again hJ (k + 1) (weak_mk (by simp only [Ww,Wx,Wy,Wz,V0,V1,Z4,Z5,Z6,Z7,Z8,Z9,Za,Zb,Zc,Zd,Ze,Zf,List.cons.injEq,Zg,Zh,Zi,Zj,Zk,Zl,Zm,Zn,Zo,Zp,beq_self_eq_true,bne_self_eq_false,decide_true,decide_false,Zq,Zr,Zs,Zt,Zu,Zv,Zw,Zx,Zy,Zz,Y0,hv,X0,ev,X1,X2,X3,X4,X5,X6,X7,X8,X9,Xa,Xb,Xc,Xd,Xe,Xf,Xg,Xh,Xi,Xj,Xk,Xl,Xm,Xn,Xo,Xp,Xq,Xr,Xs,Xt,Xu,Xv,Xw,Xx,Value.oneCell',Xy,Xz,W0,W1,true_and,and_true,and_self,implies_true,W2,W3,W4,W5,false_implies,W6,W7,W8,W9,Wa,Wb,Wc,Wd,We,Wf,Wg,Wh,Wi,Wj,Wk,Wl,Wm,reduceCtorEq,if_true,if_false,Wn,↓reduceIte,Wo,Wp,Wq,Wr,Ws,Wt,ne_eq,not_false_eq_true,not_true_eq_false,Wu,Nat.zero_ne_one]; exact hw)) (by omega) (by omega)
          · rw [hK] at hgd hset
            repeat' first | ((with_reducible (first | refine condD ?_ ?_ | refine condE ?_ ?_ | refine condN ?_ ?_ | refine condI ?_ ?_ | refine condS ?_ ?_)) <;> intro h) | ((with_reducible (first | refine guardD (by with_unfolding_all rfl) ?_ ?_ | refine guardE (by with_unfolding_all rfl) ?_ ?_ | refine guardN (by with_unfolding_all rfl) ?_ ?_ | refine guardI (by with_unfolding_all rfl) ?_ ?_ | refine guardS (by with_unfolding_all rfl) ?_ ?_)) <;> intro h) | ((refine callG hpf ?_)) | (with_reducible refine And.intro ?_ ?_; omega) | (simp only [Z0,Z1,Z2,Z3,Z4,Z5,Z6,Z7,Z8,Z9,Za,Zb,Zc,Zd,Ze,Zf,List.cons.injEq,Zg,Zh,Zi,Zj,Zk,Zl,Zm,Zn,Zo,Zp,beq_self_eq_true,bne_self_eq_false,decide_true,decide_false,Zq,Zr,Zs,Zt,Zu,Zv,Zw,Zx,Zy,Zz,Y0,Y1,Y2,Y3,Y4,Y5,Y6,Y7,Y8,Y9,Ya,Yb,Yc,Yd,Ye,Yf,Yg,Yh,lk,ef,Yi,Yj,Yk,Yl,Ym,Yn,Yo,Yp,Yq,Yr,Ys,Yt,Yu,Yv,Yw,Yx,Yy,Yz,hv,X0,ev,X1,X2,X3,X4,X5,X6,X7,X8,X9,Xa,Xb,Xc,Xd,Xe,Xf,Xg,Xh,Xi,Xj,Xk,Xl,Xm,Xn,Xo,Xp,Xq,Xr,Xs,Xt,Xu,Xv,Xw,Xx,Value.oneCell',Xy,Xz,W0,W1,true_and,and_true,and_self,implies_true,W2,W3,W4,W5,false_implies,W6,W7,W8,W9,Wa,Wb,Wc,Wd,We,Wf,Wg,Wh,Wi,Wj,Wk,Wl,Wm,reduceCtorEq,if_true,if_false,Wn,↓reduceIte,Wo,Wp,Wq,Wr,Ws,Wt,ne_eq,not_false_eq_true,not_true_eq_false,Wu,Wv,r34_0,r34_1,r34_2,r34_3,r34_4,r34_6,r34_7,r34_8,r34_9,r34_10,r34_11,r34_5,r34_12,r34_13,r34_15,r34_16,r34_17,r34_18,r34_20,r34_19,r34_21,r34_22,r34_24,r34_23,r34_25,r34_14,r34_26,p34,l34_1,hgd,gF,hwf,hul,List.length_map]) | (exfalso; omega)
            obtain ⟨c0, hc0⟩ : ∃ c0 : Bool, c0 = (B == P[f]) := ⟨_, rfl⟩
            refine loopS (fun j : Nat => mk [(0, .ro (l.map Smp.av)), (4, .own 53 6 ((upd (closeG P) k cur).map Grp.av)), (7, .val (.int .i64 k)), (8, .box [.val (.int .i64 f), .val (.int .i64 t), .val (.bool true), .val (.bool false), .val (.int .i64 B), .val (.int .i64 X)]), (9, .val (.bool (c0 && allNe P B (f + 1) j))), (10, .val (.int .i64 ((f + 1 + j : Nat) : Int)))]) (fun j => f + 1 + j ≤ t) (fun j => t - j) 0 (weak_mk ?_) (by omega) ?_
            · simp only [Ww,Wx,Wy,Wz,V0,V1,Z4,Z5,Z6,Z7,Z8,Z9,Za,Zb,Zc,Zd,Ze,Zf,List.cons.injEq,Zg,Zh,Zi,Zj,Zk,Zl,Zm,Zn,Zo,Zp,beq_self_eq_true,bne_self_eq_false,decide_true,decide_false,Zq,Zr,Zs,Zt,Zu,Zv,Zw,Zx,Zy,Zz,Y0,hv,X0,ev,X1,X2,X3,X4,X5,X6,X7,X8,X9,Xa,Xb,Xc,Xd,Xe,Xf,Xg,Xh,Xi,Xj,Xk,Xl,Xm,Xn,Xo,Xp,Xq,Xr,Xs,Xt,Xu,Xv,Xw,Xx,Value.oneCell',Xy,Xz,W0,W1,true_and,and_true,and_self,implies_true,W2,W3,W4,W5,false_implies,W6,W7,W8,W9,Wa,Wb,Wc,Wd,We,Wf,Wg,Wh,Wi,Wj,Wk,Wl,Wm,reduceCtorEq,if_true,if_false,Wn,↓reduceIte,Wo,Wp,Wq,Wr,Ws,Wt,ne_eq,not_false_eq_true,not_true_eq_false,Wu,Nat.zero_ne_one]
              simp [allNe, hc0]
            · rintro J2 hJ2 j hj
              simp only [Z0,Z1,Z2,Z3,Z4,Z5,Z6,Z7,Z8,Z9,Za,Zb,Zc,Zd,Ze,Zf,List.cons.injEq,Zg,Zh,Zi,Zj,Zk,Zl,Zm,Zn,Zo,Zp,beq_self_eq_true,bne_self_eq_false,decide_true,decide_false,Zq,Zr,Zs,Zt,Zu,Zv,Zw,Zx,Zy,Zz,Y0,Y1,Y2,Y3,Y4,Y5,Y6,Y7,Y8,Y9,Ya,Yb,Yc,Yd,Ye,Yf,Yg,Yh,lk,ef,Yi,Yj,Yk,Yl,Ym,Yn,Yo,Yp,Yq,Yr,Ys,Yt,Yu,Yv,Yw,Yx,Yy,Yz,hv,X0,ev,X1,X2,X3,X4,X5,X6,X7,X8,X9,Xa,Xb,Xc,Xd,Xe,Xf,Xg,Xh,Xi,Xj,Xk,Xl,Xm,Xn,Xo,Xp,Xq,Xr,Xs,Xt,Xu,Xv,Xw,Xx,Value.oneCell',Xy,Xz,W0,W1,true_and,and_true,and_self,implies_true,W2,W3,W4,W5,false_implies,W6,W7,W8,W9,Wa,Wb,Wc,Wd,We,Wf,Wg,Wh,Wi,Wj,Wk,Wl,Wm,reduceCtorEq,if_true,if_false,Wn,↓reduceIte,Wo,Wp,Wq,Wr,Ws,Wt,ne_eq,not_false_eq_true,not_true_eq_false,Wu,Wv,r34_0,r34_1,r34_2,r34_3,r34_4,r34_6,r34_7,r34_8,r34_9,r34_10,r34_11,r34_5,r34_12,r34_13,r34_15,r34_16,r34_17,r34_18,r34_20,r34_19,r34_21,r34_22,r34_24,r34_23,r34_25,r34_14,r34_26,p34,l34_2]
              refine condD (fun h3 => ?_) (fun h3 => ?_)
              · have hlj : f + 1 + j < l.length := by omega
                have hljp : f + 1 + j < P.length := by omega
                have hwj : IntKind.i64.wrap (((f + 1 + j : Nat) : Int) + 1) = ((f + 1 + (j + 1) : Nat) : Int) := i_add1 (f + 1 + j) (by omega)
                have hj2 := hpr2 (f + 1 + j) hlj
                have gJ := getD_map (f := Smp.av) (d := []) hlj
                simp only [Smp.av] at hj2 gJ
                have hne : (c0 && allNe P B (f + 1) (j + 1)) = ((c0 && allNe P B (f + 1) j) && (P[f + 1 + j] != B)) := by rw [allNe, getD_in hljp, Bool.and_assoc]
                cases hcc : (c0 && allNe P B (f + 1) j)
                · rw [hcc] at hne
                  repeat' first | ((with_reducible (first | refine condD ?_ ?_ | refine condE ?_ ?_ | refine condN ?_ ?_ | refine condI ?_ ?_ | refine condS ?_ ?_)) <;> intro h) | ((with_reducible (first | refine guardD (by with_unfolding_all rfl) ?_ ?_ | refine guardE (by with_unfolding_all rfl) ?_ ?_ | refine guardN (by with_unfolding_all rfl) ?_ ?_ | refine guardI (by with_unfolding_all rfl) ?_ ?_ | refine guardS (by with_unfolding_all rfl) ?_ ?_)) <;> intro h) | ((refine callG hj2 ?_)) | (with_reducible refine And.intro ?_ ?_; omega) | (simp only [Z0,Z1,Z2,Z3,Z4,Z5,Z6,Z7,Z8,Z9,Za,Zb,Zc,Zd,Ze,Zf,List.cons.injEq,Zg,Zh,Zi,Zj,Zk,Zl,Zm,Zn,Zo,Zp,beq_self_eq_true,bne_self_eq_false,decide_true,decide_false,Zq,Zr,Zs,Zt,Zu,Zv,Zw,Zx,Zy,Zz,Y0,Y1,Y2,Y3,Y4,Y5,Y6,Y7,Y8,Y9,Ya,Yb,Yc,Yd,Ye,Yf,Yg,Yh,lk,ef,Yi,Yj,Yk,Yl,Ym,Yn,Yo,Yp,Yq,Yr,Ys,Yt,Yu,Yv,Yw,Yx,Yy,Yz,hv,X0,ev,X1,X2,X3,X4,X5,X6,X7,X8,X9,Xa,Xb,Xc,Xd,Xe,Xf,Xg,Xh,Xi,Xj,Xk,Xl,Xm,Xn,Xo,Xp,Xq,Xr,Xs,Xt,Xu,Xv,Xw,Xx,Value.oneCell',Xy,Xz,W0,W1,true_and,and_true,and_self,implies_true,W2,W3,W4,W5,false_implies,W6,W7,W8,W9,Wa,Wb,Wc,Wd,We,Wf,Wg,Wh,Wi,Wj,Wk,Wl,Wm,reduceCtorEq,if_true,if_false,Wn,↓reduceIte,Wo,Wp,Wq,Wr,Ws,Wt,ne_eq,not_false_eq_true,not_true_eq_false,Wu,Wv,r34_0,r34_1,r34_2,r34_3,r34_4,r34_6,r34_7,r34_8,r34_9,r34_10,r34_11,r34_5,r34_12,r34_13,r34_15,r34_16,r34_17,r34_18,r34_20,r34_19,r34_21,r34_22,r34_24,r34_23,r34_25,r34_14,r34_26,p34,l34_2,hwj,gJ]) | (exfalso; omega)
                  all_goals exact again hJ2 (j + 1) (weak_mk (by simp only [Ww,Wx,Wy,Wz,V0,V1,Z4,Z5,Z6,Z7,Z8,Z9,Za,Zb,Zc,Zd,Ze,Zf,List.cons.injEq,Zg,Zh,Zi,Zj,Zk,Zl,Zm,Zn,Zo,Zp,beq_self_eq_true,bne_self_eq_false,decide_true,decide_false,Zq,Zr,Zs,Zt,Zu,Zv,Zw,Zx,Zy,Zz,Y0,hv,X0,ev,X1,X2,X3,X4,X5,X6,X7,X8,X9,Xa,Xb,Xc,Xd,Xe,Xf,Xg,Xh,Xi,Xj,Xk,Xl,Xm,Xn,Xo,Xp,Xq,Xr,Xs,Xt,Xu,Xv,Xw,Xx,Value.oneCell',Xy,Xz,W0,W1,true_and,and_true,and_self,implies_true,W2,W3,W4,W5,false_implies,W6,W7,W8,W9,Wa,Wb,Wc,Wd,We,Wf,Wg,Wh,Wi,Wj,Wk,Wl,Wm,reduceCtorEq,if_true,if_false,Wn,↓reduceIte,Wo,Wp,Wq,Wr,Ws,Wt,ne_eq,not_false_eq_true,not_true_eq_false,Wu,Nat.zero_ne_one]; rw [hne]; simp)) (by omega) (by omega)
                · rw [hcc] at hne
                  repeat' first | ((with_reducible (first | refine condD ?_ ?_ | refine condE ?_ ?_ | refine condN ?_ ?_ | refine condI ?_ ?_ | refine condS ?_ ?_)) <;> intro h) | ((with_reducible (first | refine guardD (by with_unfolding_all rfl) ?_ ?_ | refine guardE (by with_unfolding_all rfl) ?_ ?_ | refine guardN (by with_unfolding_all rfl) ?_ ?_ | refine guardI (by with_unfolding_all rfl) ?_ ?_ | refine guardS (by with_unfolding_all rfl) ?_ ?_)) <;> intro h) | ((refine callG hj2 ?_)) | (with_reducible refine And.intro ?_ ?_; omega) | (simp only [Z0,Z1,Z2,Z3,Z4,Z5,Z6,Z7,Z8,Z9,Za,Zb,Zc,Zd,Ze,Zf,List.cons.injEq,Zg,Zh,Zi,Zj,Zk,Zl,Zm,Zn,Zo,Zp,beq_self_eq_true,bne_self_eq_false,decide_true,decide_false,Zq,Zr,Zs,Zt,Zu,Zv,Zw,Zx,Zy,Zz,Y0,Y1,Y2,Y3,Y4,Y5,Y6,Y7,Y8,Y9,Ya,Yb,Yc,Yd,Ye,Yf,Yg,Yh,lk,ef,Yi,Yj,Yk,Yl,Ym,Yn,Yo,Yp,Yq,Yr,Ys,Yt,Yu,Yv,Yw,Yx,Yy,Yz,hv,X0,ev,X1,X2,X3,X4,X5,X6,X7,X8,X9,Xa,Xb,Xc,Xd,Xe,Xf,Xg,Xh,Xi,Xj,Xk,Xl,Xm,Xn,Xo,Xp,Xq,Xr,Xs,Xt,Xu,Xv,Xw,Xx,Value.oneCell',Xy,Xz,W0,W1,true_and,and_true,and_self,implies_true,W2,W3,W4,W5,false_implies,W6,W7,W8,W9,Wa,Wb,Wc,Wd,We,Wf,Wg,Wh,Wi,Wj,Wk,Wl,Wm,reduceCtorEq,if_true,if_false,Wn,↓reduceIte,Wo,Wp,Wq,Wr,Ws,Wt,ne_eq,not_false_eq_true,not_true_eq_false,Wu,Wv,r34_0,r34_1,r34_2,r34_3,r34_4,r34_6,r34_7,r34_8,r34_9,r34_10,r34_11,r34_5,r34_12,r34_13,r34_15,r34_16,r34_17,r34_18,r34_20,r34_19,r34_21,r34_22,r34_24,r34_23,r34_25,r34_14,r34_26,p34,l34_2,hwj,gJ]) | (exfalso; omega)
                  all_goals exact again hJ2 (j + 1) (weak_mk (by simp only [Ww,Wx,Wy,Wz,V0,V1,Z4,Z5,Z6,Z7,Z8,Z9,Za,Zb,Zc,Zd,Ze,Zf,List.cons.injEq,Zg,Zh,Zi,Zj,Zk,Zl,Zm,Zn,Zo,Zp,beq_self_eq_true,bne_self_eq_false,decide_true,decide_false,Zq,Zr,Zs,Zt,Zu,Zv,Zw,Zx,Zy,Zz,Y0,hv,X0,ev,X1,X2,X3,X4,X5,X6,X7,X8,X9,Xa,Xb,Xc,Xd,Xe,Xf,Xg,Xh,Xi,Xj,Xk,Xl,Xm,Xn,Xo,Xp,Xq,Xr,Xs,Xt,Xu,Xv,Xw,Xx,Value.oneCell',Xy,Xz,W0,W1,true_and,and_true,and_self,implies_true,W2,W3,W4,W5,false_implies,W6,W7,W8,W9,Wa,Wb,Wc,Wd,We,Wf,Wg,Wh,Wi,Wj,Wk,Wl,Wm,reduceCtorEq,if_true,if_false,Wn,↓reduceIte,Wo,Wp,Wq,Wr,Ws,Wt,ne_eq,not_false_eq_true,not_true_eq_false,Wu,Nat.zero_ne_one]; rw [hne]; simp)) (by omega) (by omega)
              · have hje : j = t - (f + 1) := by omega
                subst hje
                clear hJ2
                obtain ⟨c1, hc1⟩ : ∃ c1 : Bool, c1 = (c0 && allNe P B (f + 1) (t - (f + 1))) := ⟨_, rfl⟩
                repeat' first | ((with_reducible (first | refine condD ?_ ?_ | refine condE ?_ ?_ | refine condN ?_ ?_ | refine condI ?_ ?_ | refine condS ?_ ?_)) <;> intro h) | ((with_reducible (first | refine guardD (by with_unfolding_all rfl) ?_ ?_ | refine guardE (by with_unfolding_all rfl) ?_ ?_ | refine guardN (by with_unfolding_all rfl) ?_ ?_ | refine guardI (by with_unfolding_all rfl) ?_ ?_ | refine guardS (by with_unfolding_all rfl) ?_ ?_)) <;> intro h) | (with_reducible refine And.intro ?_ ?_; omega) | (simp only [Z0,Z1,Z2,Z3,Z4,Z5,Z6,Z7,Z8,Z9,Za,Zb,Zc,Zd,Ze,Zf,List.cons.injEq,Zg,Zh,Zi,Zj,Zk,Zl,Zm,Zn,Zo,Zp,beq_self_eq_true,bne_self_eq_false,decide_true,decide_false,Zq,Zr,Zs,Zt,Zu,Zv,Zw,Zx,Zy,Zz,Y0,Y1,Y2,Y3,Y4,Y5,Y6,Y7,Y8,Y9,Ya,Yb,Yc,Yd,Ye,Yf,Yg,Yh,lk,ef,Yi,Yj,Yk,Yl,Ym,Yn,Yo,Yp,Yq,Yr,Ys,Yt,Yu,Yv,Yw,Yx,Yy,Yz,hv,X0,ev,X1,X2,X3,X4,X5,X6,X7,X8,X9,Xa,Xb,Xc,Xd,Xe,Xf,Xg,Xh,Xi,Xj,Xk,Xl,Xm,Xn,Xo,Xp,Xq,Xr,Xs,Xt,Xu,Xv,Xw,Xx,Value.oneCell',Xy,Xz,W0,W1,true_and,and_true,and_self,implies_true,W2,W3,W4,W5,false_implies,W6,W7,W8,W9,Wa,Wb,Wc,Wd,We,Wf,Wg,Wh,Wi,Wj,Wk,Wl,Wm,reduceCtorEq,if_true,if_false,Wn,↓reduceIte,Wo,Wp,Wq,Wr,Ws,Wt,ne_eq,not_false_eq_true,not_true_eq_false,Wu,Wv,r34_0,r34_1,r34_2,r34_3,r34_4,r34_6,r34_7,r34_8,r34_9,r34_10,r34_11,r34_5,r34_12,r34_13,r34_15,r34_16,r34_17,r34_18,r34_20,r34_19,r34_21,r34_22,r34_24,r34_23,r34_25,r34_14,r34_26,p34,l34_2]) | (exfalso; omega)
                refine loopS (fun j : Nat => mk [(0, .ro (l.map Smp.av)), (4, .own 53 6 ((upd (closeG P) k cur).map Grp.av)), (7, .val (.int .i64 k)), (8, .box [.val (.int .i64 f), .val (.int .i64 t), .val (.bool true), .val (.bool false), .val (.int .i64 B), .val (.int .i64 X)]), (9, .val (.bool (c1 && allLt P B j))), (11, .val (.int .i64 j))]) (fun j => j ≤ f) (fun j => f - j) 0 (weak_mk ?_) (by omega) ?_
                · simp only [Ww,Wx,Wy,Wz,V0,V1,Z4,Z5,Z6,Z7,Z8,Z9,Za,Zb,Zc,Zd,Ze,Zf,List.cons.injEq,Zg,Zh,Zi,Zj,Zk,Zl,Zm,Zn,Zo,Zp,beq_self_eq_true,bne_self_eq_false,decide_true,decide_false,Zq,Zr,Zs,Zt,Zu,Zv,Zw,Zx,Zy,Zz,Y0,hv,X0,ev,X1,X2,X3,X4,X5,X6,X7,X8,X9,Xa,Xb,Xc,Xd,Xe,Xf,Xg,Xh,Xi,Xj,Xk,Xl,Xm,Xn,Xo,Xp,Xq,Xr,Xs,Xt,Xu,Xv,Xw,Xx,Value.oneCell',Xy,Xz,W0,W1,true_and,and_true,and_self,implies_true,W2,W3,W4,W5,false_implies,W6,W7,W8,W9,Wa,Wb,Wc,Wd,We,Wf,Wg,Wh,Wi,Wj,Wk,Wl,Wm,reduceCtorEq,if_true,if_false,Wn,↓reduceIte,Wo,Wp,Wq,Wr,Ws,Wt,ne_eq,not_false_eq_true,not_true_eq_false,Wu,Nat.zero_ne_one]
                  simp [allLt, hc1]
                · rintro J3 hJ3 j hj
                  simp only [Z0,Z1,Z2,Z3,Z4,Z5,Z6,Z7,Z8,Z9,Za,Zb,Zc,Zd,Ze,Zf,List.cons.injEq,Zg,Zh,Zi,Zj,Zk,Zl,Zm,Zn,Zo,Zp,beq_self_eq_true,bne_self_eq_false,decide_true,decide_false,Zq,Zr,Zs,Zt,Zu,Zv,Zw,Zx,Zy,Zz,Y0,Y1,Y2,Y3,Y4,Y5,Y6,Y7,Y8,Y9,Ya,Yb,Yc,Yd,Ye,Yf,Yg,Yh,lk,ef,Yi,Yj,Yk,Yl,Ym,Yn,Yo,Yp,Yq,Yr,Ys,Yt,Yu,Yv,Yw,Yx,Yy,Yz,hv,X0,ev,X1,X2,X3,X4,X5,X6,X7,X8,X9,Xa,Xb,Xc,Xd,Xe,Xf,Xg,Xh,Xi,Xj,Xk,Xl,Xm,Xn,Xo,Xp,Xq,Xr,Xs,Xt,Xu,Xv,Xw,Xx,Value.oneCell',Xy,Xz,W0,W1,true_and,and_true,and_self,implies_true,W2,W3,W4,W5,false_implies,W6,W7,W8,W9,Wa,Wb,Wc,Wd,We,Wf,Wg,Wh,Wi,Wj,Wk,Wl,Wm,reduceCtorEq,if_true,if_false,Wn,↓reduceIte,Wo,Wp,Wq,Wr,Ws,Wt,ne_eq,not_false_eq_true,not_true_eq_false,Wu,Wv,r34_0,r34_1,r34_2,r34_3,r34_4,r34_6,r34_7,r34_8,r34_9,r34_10,r34_11,r34_5,r34_12,r34_13,r34_15,r34_16,r34_17,r34_18,r34_20,r34_19,r34_21,r34_22,r34_24,r34_23,r34_25,r34_14,r34_26,p34,l34_3]
                  refine condD (fun h3 => ?_) (fun h3 => ?_)
                  · have hlj : j < l.length := by omega
                    have hljp : j < P.length := by omega
                    have hwj := i_add1 j (by omega)
                    have hj2 := hpr2 j hlj
                    have gJ := getD_map (f := Smp.av) (d := []) hlj
                    simp only [Smp.av] at hj2 gJ
                    have hne : (c1 && allLt P B (j + 1)) = ((c1 && allLt P B j) && decide (P[j] < B)) := by rw [allLt, getD_in hljp, Bool.and_assoc]
                    cases hcc : (c1 && allLt P B j)
                    · rw [hcc] at hne
                      repeat' first | ((with_reducible (first | refine condD ?_ ?_ | refine condE ?_ ?_ | refine condN ?_ ?_ | refine condI ?_ ?_ | refine condS ?_ ?_)) <;> intro h) | ((with_reducible (first | refine guardD (by with_unfolding_all rfl) ?_ ?_ | refine guardE (by with_unfolding_all rfl) ?_ ?_ | refine guardN (by with_unfolding_all rfl) ?_ ?_ | refine guardI (by with_unfolding_all rfl) ?_ ?_ | refine guardS (by with_unfolding_all rfl) ?_ ?_)) <;> intro h) | ((refine callG hj2 ?_)) | (with_reducible refine And.intro ?_ ?_; omega) | (simp only [Z0,Z1,Z2,Z3,Z4,Z5,Z6,Z7,Z8,Z9,Za,Zb,Zc,Zd,Ze,Zf,List.cons.injEq,Zg,Zh,Zi,Zj,Zk,Zl,Zm,Zn,Zo,Zp,beq_self_eq_true,bne_self_eq_false,decide_true,decide_false,Zq,Zr,Zs,Zt,Zu,Zv,Zw,Zx,Zy,Zz,Y0,Y1,Y2,Y3,Y4,Y5,Y6,Y7,Y8,Y9,Ya,Yb,Yc,Yd,Ye,Yf,Yg,Yh,lk,ef,Yi,Yj,Yk,Yl,Ym,Yn,Yo,Yp,Yq,Yr,Ys,Yt,Yu,Yv,Yw,Yx,Yy,Yz,hv,X0,ev,X1,X2,X3,X4,X5,X6,X7,X8,X9,Xa,Xb,Xc,Xd,Xe,Xf,Xg,Xh,Xi,Xj,Xk,Xl,Xm,Xn,Xo,Xp,Xq,Xr,Xs,Xt,Xu,Xv,Xw,Xx,Value.oneCell',Xy,Xz,W0,W1,true_and,and_true,and_self,implies_true,W2,W3,W4,W5,false_implies,W6,W7,W8,W9,Wa,Wb,Wc,Wd,We,Wf,Wg,Wh,Wi,Wj,Wk,Wl,Wm,reduceCtorEq,if_true,if_false,Wn,↓reduceIte,Wo,Wp,Wq,Wr,Ws,Wt,ne_eq,not_false_eq_true,not_true_eq_false,Wu,Wv,r34_0,r34_1,r34_2,r34_3,r34_4,r34_6,r34_7,r34_8,r34_9,r34_10,r34_11,r34_5,r34_12,r34_13,r34_15,r34_16,r34_17,r34_18,r34_20,r34_19,r34_21,r34_22,r34_24,r34_23,r34_25,r34_14,r34_26,p34,l34_3,hwj,gJ]) | (exfalso; omega)
                      all_goals exact again hJ3 (j + 1) (weak_mk (by simp only [Ww,Wx,Wy,Wz,V0,V1,Z4,Z5,Z6,Z7,Z8,Z9,Za,Zb,Zc,Zd,Ze,Zf,List.cons.injEq,Zg,Zh,Zi,Zj,Zk,Zl,Zm,Zn,Zo,Zp,beq_self_eq_true,bne_self_eq_false,decide_true,decide_false,Zq,Zr,Zs,Zt,Zu,Zv,Zw,Zx,Zy,Zz,Y0,hv,X0,ev,X1,X2,X3,X4,X5,X6,X7,X8,X9,Xa,Xb,Xc,Xd,Xe,Xf,Xg,Xh,Xi,Xj,Xk,Xl,Xm,Xn,Xo,Xp,Xq,Xr,Xs,Xt,Xu,Xv,Xw,Xx,Value.oneCell',Xy,Xz,W0,W1,true_and,and_true,and_self,implies_true,W2,W3,W4,W5,false_implies,W6,W7,W8,W9,Wa,Wb,Wc,Wd,We,Wf,Wg,Wh,Wi,Wj,Wk,Wl,Wm,reduceCtorEq,if_true,if_false,Wn,↓reduceIte,Wo,Wp,Wq,Wr,Ws,Wt,ne_eq,not_false_eq_true,not_true_eq_false,Wu,Nat.zero_ne_one]; rw [hne]; simp [hwj])) (by omega) (by omega)
                    · rw [hcc] at hne
                      repeat' first | ((with_reducible (first | refine condD ?_ ?_ | refine condE ?_ ?_ | refine condN ?_ ?_ | refine condI ?_ ?_ | refine condS ?_ ?_)) <;> intro h) | ((with_reducible (first | refine guardD (by with_unfolding_all rfl) ?_ ?_ | refine guardE (by with_unfolding_all rfl) ?_ ?_ | refine guardN (by with_unfolding_all rfl) ?_ ?_ | refine guardI (by with_unfolding_all rfl) ?_ ?_ | refine guardS (by with_unfolding_all rfl) ?_ ?_)) <;> intro h) | ((refine callG hj2 ?_)) | (with_reducible refine And.intro ?_ ?_; omega) | (simp only [Z0,Z1,Z2,Z3,Z4,Z5,Z6,Z7,Z8,Z9,Za,Zb,Zc,Zd,Ze,Zf,List.cons.injEq,Zg,Zh,Zi,Zj,Zk,Zl,Zm,Zn,Zo,Zp,beq_self_eq_true,bne_self_eq_false,decide_true,decide_false,Zq,Zr,Zs,Zt,Zu,Zv,Zw,Zx,Zy,Zz,Y0,Y1,Y2,Y3,Y4,Y5,Y6,Y7,Y8,Y9,Ya,Yb,Yc,Yd,Ye,Yf,Yg,Yh,lk,ef,Yi,Yj,Yk,Yl,Ym,Yn,Yo,Yp,Yq,Yr,Ys,Yt,Yu,Yv,Yw,Yx,Yy,Yz,hv,X0,ev,X1,X2,X3,X4,X5,X6,X7,X8,X9,Xa,Xb,Xc,Xd,Xe,Xf,Xg,Xh,Xi,Xj,Xk,Xl,Xm,Xn,Xo,Xp,Xq,Xr,Xs,Xt,Xu,Xv,Xw,Xx,Value.oneCell',Xy,Xz,W0,W1,true_and,and_true,and_self,implies_true,W2,W3,W4,W5,false_implies,W6,W7,W8,W9,Wa,Wb,Wc,Wd,We,Wf,Wg,Wh,Wi,Wj,Wk,Wl,Wm,reduceCtorEq,if_true,if_false,Wn,↓reduceIte,Wo,Wp,Wq,Wr,Ws,Wt,ne_eq,not_false_eq_true,not_true_eq_false,Wu,Wv,r34_0,r34_1,r34_2,r34_3,r34_4,r34_6,r34_7,r34_8,r34_9,r34_10,r34_11,r34_5,r34_12,r34_13,r34_15,r34_16,r34_17,r34_18,r34_20,r34_19,r34_21,r34_22,r34_24,r34_23,r34_25,r34_14,r34_26,p34,l34_3,hwj,gJ]) | (exfalso; omega)
                      all_goals exact again hJ3 (j + 1) (weak_mk (by simp only [Ww,Wx,Wy,Wz,V0,V1,Z4,Z5,Z6,Z7,Z8,Z9,Za,Zb,Zc,Zd,Ze,Zf,List.cons.injEq,Zg,Zh,Zi,Zj,Zk,Zl,Zm,Zn,Zo,Zp,beq_self_eq_true,bne_self_eq_false,decide_true,decide_false,Zq,Zr,Zs,Zt,Zu,Zv,Zw,Zx,Zy,Zz,Y0,hv,X0,ev,X1,X2,X3,X4,X5,X6,X7,X8,X9,Xa,Xb,Xc,Xd,Xe,Xf,Xg,Xh,Xi,Xj,Xk,Xl,Xm,Xn,Xo,Xp,Xq,Xr,Xs,Xt,Xu,Xv,Xw,Xx,Value.oneCell',Xy,Xz,W0,W1,true_and,and_true,and_self,implies_true,W2,W3,W4,W5,false_implies,W6,W7,W8,W9,Wa,Wb,Wc,Wd,We,Wf,Wg,Wh,Wi,Wj,Wk,Wl,Wm,reduceCtorEq,if_true,if_false,Wn,↓reduceIte,Wo,Wp,Wq,Wr,Ws,Wt,ne_eq,not_false_eq_true,not_true_eq_false,Wu,Nat.zero_ne_one]; rw [hne]; simp [hwj])) (by omega) (by omega)
                  · have hje : j = f := by omega
                    subst hje
                    clear hJ3
                    have hV : (true && (B == P[j]) && allNe P B (j + 1) (t - (j + 1)) && allLt P B j) = (c1 && allLt P B j) := by rw [hc1, hc0, Bool.true_and]
                    rw [hV] at hset
                    repeat' first | ((with_reducible (first | refine condD ?_ ?_ | refine condE ?_ ?_ | refine condN ?_ ?_ | refine condI ?_ ?_ | refine condS ?_ ?_)) <;> intro h) | ((with_reducible (first | refine guardD (by with_unfolding_all rfl) ?_ ?_ | refine guardE (by with_unfolding_all rfl) ?_ ?_ | refine guardN (by with_unfolding_all rfl) ?_ ?_ | refine guardI (by with_unfolding_all rfl) ?_ ?_ | refine guardS (by with_unfolding_all rfl) ?_ ?_)) <;> intro h) | (with_reducible refine And.intro ?_ ?_; omega) | (simp only [Z0,Z1,Z2,Z3,Z4,Z5,Z6,Z7,Z8,Z9,Za,Zb,Zc,Zd,Ze,Zf,List.cons.injEq,Zg,Zh,Zi,Zj,Zk,Zl,Zm,Zn,Zo,Zp,beq_self_eq_true,bne_self_eq_false,decide_true,decide_false,Zq,Zr,Zs,Zt,Zu,Zv,Zw,Zx,Zy,Zz,Y0,Y1,Y2,Y3,Y4,Y5,Y6,Y7,Y8,Y9,Ya,Yb,Yc,Yd,Ye,Yf,Yg,Yh,lk,ef,Yi,Yj,Yk,Yl,Ym,Yn,Yo,Yp,Yq,Yr,Ys,Yt,Yu,Yv,Yw,Yx,Yy,Yz,hv,X0,ev,X1,X2,X3,X4,X5,X6,X7,X8,X9,Xa,Xb,Xc,Xd,Xe,Xf,Xg,Xh,Xi,Xj,Xk,Xl,Xm,Xn,Xo,Xp,Xq,Xr,Xs,Xt,Xu,Xv,Xw,Xx,Value.oneCell',Xy,Xz,W0,W1,true_and,and_true,and_self,implies_true,W2,W3,W4,W5,false_implies,W6,W7,W8,W9,Wa,Wb,Wc,Wd,We,Wf,Wg,Wh,Wi,Wj,Wk,Wl,Wm,reduceCtorEq,if_true,if_false,Wn,↓reduceIte,Wo,Wp,Wq,Wr,Ws,Wt,ne_eq,not_false_eq_true,not_true_eq_false,Wu,Wv,r34_0,r34_1,r34_2,r34_3,r34_4,r34_6,r34_7,r34_8,r34_9,r34_10,r34_11,r34_5,r34_12,r34_13,r34_15,r34_16,r34_17,r34_18,r34_20,r34_19,r34_21,r34_22,r34_24,r34_23,r34_25,r34_14,r34_26,p34,l34_3,hgd,hset,hul,List.length_map]) | (exfalso; omega)
                    all_goals exact again hJ (k + 1) (weak_mk (by simp only [Ww,Wx,Wy,Wz,V0,V1,Z4,Z5,Z6,Z7,Z8,Z9,Za,Zb,Zc,Zd,Ze,Zf,List.cons.injEq,Zg,Zh,Zi,Zj,Zk,Zl,Zm,Zn,Zo,Zp,beq_self_eq_true,bne_self_eq_false,decide_true,decide_false,Zq,Zr,Zs,Zt,Zu,Zv,Zw,Zx,Zy,Zz,Y0,hv,X0,ev,X1,X2,X3,X4,X5,X6,X7,X8,X9,Xa,Xb,Xc,Xd,Xe,Xf,Xg,Xh,Xi,Xj,Xk,Xl,Xm,Xn,Xo,Xp,Xq,Xr,Xs,Xt,Xu,Xv,Xw,Xx,Value.oneCell',Xy,Xz,W0,W1,true_and,and_true,and_self,implies_true,W2,W3,W4,W5,false_implies,W6,W7,W8,W9,Wa,Wb,Wc,Wd,We,Wf,Wg,Wh,Wi,Wj,Wk,Wl,Wm,reduceCtorEq,if_true,if_false,Wn,↓reduceIte,Wo,Wp,Wq,Wr,Ws,Wt,ne_eq,not_false_eq_true,not_true_eq_false,Wu,Nat.zero_ne_one]; exact hw)) (by omega) (by omega)
        · have hke : k = cur.length := by omega
          subst hke
          rw [upd_all, hfin]
          repeat' first | ((with_reducible (first | refine condD ?_ ?_ | refine condE ?_ ?_ | refine condN ?_ ?_ | refine condI ?_ ?_ | refine condS ?_ ?_)) <;> intro h) | ((with_reducible (first | refine guardD (by with_unfolding_all rfl) ?_ ?_ | refine guardE (by with_unfolding_all rfl) ?_ ?_ | refine guardN (by with_unfolding_all rfl) ?_ ?_ | refine guardI (by with_unfolding_all rfl) ?_ ?_ | refine guardS (by with_unfolding_all rfl) ?_ ?_)) <;> intro h) | (with_reducible refine And.intro ?_ ?_; omega) | (simp only [Z0,Z1,Z2,Z3,Z4,Z5,Z6,Z7,Z8,Z9,Za,Zb,Zc,Zd,Ze,Zf,List.cons.injEq,Zg,Zh,Zi,Zj,Zk,Zl,Zm,Zn,Zo,Zp,beq_self_eq_true,bne_self_eq_false,decide_true,decide_false,Zq,Zr,Zs,Zt,Zu,Zv,Zw,Zx,Zy,Zz,Y0,Y1,Y2,Y3,Y4,Y5,Y6,Y7,Y8,Y9,Ya,Yb,Yc,Yd,Ye,Yf,Yg,Yh,lk,ef,Yi,Yj,Yk,Yl,Ym,Yn,Yo,Yp,Yq,Yr,Ys,Yt,Yu,Yv,Yw,Yx,Yy,Yz,hv,X0,ev,X1,X2,X3,X4,X5,X6,X7,X8,X9,Xa,Xb,Xc,Xd,Xe,Xf,Xg,Xh,Xi,Xj,Xk,Xl,Xm,Xn,Xo,Xp,Xq,Xr,Xs,Xt,Xu,Xv,Xw,Xx,Value.oneCell',Xy,Xz,W0,W1,true_and,and_true,and_self,implies_true,W2,W3,W4,W5,false_implies,W6,W7,W8,W9,Wa,Wb,Wc,Wd,We,Wf,Wg,Wh,Wi,Wj,Wk,Wl,Wm,reduceCtorEq,if_true,if_false,Wn,↓reduceIte,Wo,Wp,Wq,Wr,Ws,Wt,ne_eq,not_false_eq_true,not_true_eq_false,Wu,Wv,r34_0,r34_1,r34_2,r34_3,r34_4,r34_6,r34_7,r34_8,r34_9,r34_10,r34_11,r34_5,r34_12,r34_13,r34_15,r34_16,r34_17,r34_18,r34_20,r34_19,r34_21,r34_22,r34_24,r34_23,r34_25,r34_14,r34_26,p34,l34_1]) | (exfalso; omega)
end Go.Proofs.YtjeemcpdmiajmaaGreatDoor
