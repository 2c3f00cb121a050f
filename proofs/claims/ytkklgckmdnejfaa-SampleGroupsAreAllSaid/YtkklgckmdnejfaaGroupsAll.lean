/- SampleGroupsAreAll: the groups have all samples, each once, and what is in a closed group needs nothing before it. For every input; no condition. -/
import Derived.Test.YtkklgckmdnejfaaKGroupsW
import Derived.Test.YtkklgckmdnejfaaRows
namespace Go.Proofs.Ytkklgckmdnejfaa
open Go.RowKit
set_option linter.unusedSimpArgs false

theorem endsL_get {l : List Smp} {k : Nat} (h : k < l.length) : (endsL l)[k]'(by rw [endsL_len]; exact h) = (nextI (presL l) (l[k].time + l[k].shift)).getD (l[k].time + l[k].shift + l[k].step) := by
  simp [endsL, endOf]
theorem lastK_ge {P : List Int} {f i : Nat} (hi : i < P.length) (h : i < f) : P[i] ≤ lastK P f := by
  have n1 : P.take f ≠ [] := fun e => by have := congrArg List.length e; rw [List.length_take, List.length_nil] at this; omega
  rw [show lastK P f = Go.Lib.maxOf (P.take f) from if_neg (by omega)]
  exact (maxOf_is n1).2 _ (List.mem_take_iff_getElem.2 ⟨i, by omega, rfl⟩)
theorem closed_need {l : List Smp} {f : Nat} (hs : smpF l = 0) (hf : f < l.length) (hc : (grpAt l f).closed = true) (hx : (grpAt l f).beg < (grpAt l f).fin) (b1 : -1000000000000000 ≤ (grpAt l f).beg) (b2 : (grpAt l f).beg < 1000000000000000) :
    (needF l (grpAt l f).beg ((grpAt l f).beg + 1)).2 = 0 ∧ (needF l (grpAt l f).beg ((grpAt l f).beg + 1)).1.1 = (f : Int) := by
  have hgd : l.getD f ⟨0, 0, 0, 0, false⟩ = l[f] := by rw [List.getD_eq_getElem?_getD, List.getElem?_eq_getElem hf]; rfl
  have hPl := presL_len l
  have hEl := endsL_len l
  obtain ⟨t1, t2⟩ := toOf_bd hf
  have hfp : f < (presL l).length := by omega
  simp only [grpAt, closedB, hgd, Bool.and_eq_true, beq_iff_eq, Bool.not_eq_true', Bool.or_eq_true, decide_eq_true_eq, getD_in hfp] at hc
  obtain ⟨⟨⟨hk, hB⟩, hC⟩, hL⟩ := hc
  simp only [grpAt] at hx b1 b2 ⊢
  have hmin := (minOf_is (sub_ne (P := presL l) (f := f) (t := toOf l f) (by omega) (by omega))).2
  have hmax := (maxOf_is (sub_ne (P := endsL l) (f := f) (t := toOf l f) (by omega) (by omega))).1
  generalize Go.Lib.minOf (sub (presL l) f (toOf l f)) = B at *
  generalize Go.Lib.maxOf (sub (endsL l) f (toOf l f)) = X at *
  have hpf := pres_get hf
  have hef := endsL_get hf
  rw [← hpf] at hef
  -- the first sample's presentation is not empty
  have hE : B < (endsL l)[f]'(by omega) := by
    rcases nextI_is (presL l) (presL l)[f] with ⟨e, h⟩ | ⟨e, e1, _, h, _⟩
    · obtain ⟨i, hi, h1, h2, h3⟩ := sub_mem hmax
      have hi' : i < l.length := by omega
      by_cases e' : i = f
      · subst e'; omega
      · exfalso
        have hpi := h _ (List.getElem_mem (show i < (presL l).length by omega))
        have hge := hmin _ (mem_sub (P := presL l) (f := f) (t := toOf l f) (i := i) (by omega) h1 h2)
        have : (presL l)[i] = B := by omega
        have hin := mem_sub (P := presL l) (f := f + 1) (t := toOf l f) (i := i) (by omega) (by omega) h2
        rw [this] at hin
        rw [List.contains_iff_mem.2 hin] at hC
        cases hC
    · rw [hef, e1, Option.getD_some, hB]; exact h
  have hhit : hitP (presL l) (endsL l) B (B + 1) f = true := by
    unfold hitP
    rw [getD_in hfp, getD_in (show f < (endsL l).length by omega), ← hB]
    simp only [decide_eq_true_eq]
    split <;> split <;> omega
  have hn1 : noTime B = false := by simp [noTime, outB]; omega
  have hn2 : noTime (B + 1) = false := by simp [noTime, outB]; omega
  have hF : needF l B (B + 1) = needG l B (B + 1) := by
    unfold needF
    rw [if_neg (by simpa using hs), if_neg (by omega), if_neg (by simp [hn1, hn2])]
  rw [hF]
  unfold needG
  rcases flK_is (presL l) (endsL l) B (B + 1) l.length with ⟨_, h⟩ | ⟨g, t, hgt, r1, r2, r3, r4⟩
  · rw [h f hf] at hhit; cases hhit
  · have hle := (r4 f hf hhit).1
    have hge : f ≤ g := by
      rcases Nat.lt_or_ge g f with hlt | hge
      · exfalso
        have hgl : g < l.length := by omega
        have hgp : g < (presL l).length := by omega
        have hL' : lastK (presL l) f < B := by
          rcases hL with hL | hL
          · omega
          · exact hL
        have hpg := lastK_ge hgp hlt
        have heg := endsL_get hgl
        rw [← pres_get hgl] at heg
        rcases nextI_is (presL l) (presL l)[g] with ⟨e, h⟩ | ⟨e, e1, _, _, h⟩
        · have := h _ (List.getElem_mem hfp); omega
        · rw [e1, Option.getD_some] at heg
          have := h _ (List.getElem_mem hfp) (by omega)
          unfold hitP at r3
          rw [getD_in hgp, getD_in (show g < (endsL l).length by omega)] at r3
          simp only [decide_eq_true_eq] at r3
          split at r3 <;> split at r3 <;> omega
      · exact hge
    have hgf : g = f := by omega
    subst hgf
    have hg0 : ¬ (g : Int) < 0 := by omega
    have hbk : backK l g = g := by
      have h1 := backK_le l g
      have h2 := backK_ge l g (.inl (by rw [hgd]; exact hk)) g (Nat.le_refl _)
      omega
    rw [hgt]
    simp only [hg0, if_false, Int.toNat_natCast, hbk]
    exact ⟨trivial, trivial⟩
/-! headend/headendlaw3.SampleGroupsAreAll -/
def r12_0 : List POp := [⟨2, .asg (.c (.bool false)), none⟩]
def r12_1 : List POp := [⟨10, .mv (.t 0), none⟩,
  ⟨11, .call 34 [.t 10], none⟩,
  ⟨9, .mv (.t 11), none⟩,
  ⟨12, .ext 0 (.t 9), none⟩,
  ⟨13, .ext 1 (.t 9), none⟩,
  ⟨3, .asg (.t 12), none⟩,
  ⟨4, .mv (.t 13), none⟩]
def r12_2 : List POp := [⟨14, .mv (.t 4), none⟩,
  ⟨15, .bin .neq (.t 14) (.c (.int .i64 0)), none⟩]
def r12_3 : List POp := [⟨16, .mv (.t 3), none⟩,
  ⟨17, .len (.t 16), none⟩,
  ⟨18, .bin .eql (.t 17) (.c (.int .i64 0)), none⟩,
  ⟨19, .mv (.t 18), none⟩,
  ⟨20, .call 16 [], some (19, true)⟩,
  ⟨21, .pick (.t 19) (.t 20) (.c (.bool false)), none⟩,
  ⟨2, .asg (.t 21), none⟩]
def r12_4 : List POp := [⟨5, .asg (.c (.int .i64 0)), none⟩]
def r12_5 : List POp := [⟨6, .asg (.c (.int .i64 0)), none⟩]
def r12_6 : List POp := [⟨22, .mv (.t 6), none⟩,
  ⟨23, .mv (.t 3), none⟩,
  ⟨24, .len (.t 23), none⟩,
  ⟨25, .bin .lss (.t 22) (.t 24), none⟩]
def r12_8 : List POp := [⟨28, .mv (.t 3), none⟩,
  ⟨29, .mv (.t 6), none⟩,
  ⟨30, .idx 6 (.t 28) (.t 29), none⟩,
  ⟨31, .fld 0 (.t 30), none⟩,
  ⟨32, .load (.t 31), none⟩,
  ⟨33, .mv (.t 5), none⟩,
  ⟨34, .bin .neq (.t 32) (.t 33), none⟩,
  ⟨35, .mv (.t 34), none⟩,
  ⟨36, .mv (.t 3), some (35, false)⟩,
  ⟨37, .mv (.t 6), some (35, false)⟩,
  ⟨38, .idx 6 (.t 36) (.t 37), some (35, false)⟩,
  ⟨39, .fld 1 (.t 38), some (35, false)⟩,
  ⟨40, .load (.t 39), some (35, false)⟩,
  ⟨41, .mv (.t 5), some (35, false)⟩,
  ⟨42, .bin .leq (.t 40) (.t 41), some (35, false)⟩,
  ⟨43, .pick (.t 35) (.c (.bool true)) (.t 42), none⟩,
  ⟨44, .mv (.t 43), none⟩,
  ⟨45, .mv (.t 3), some (44, false)⟩,
  ⟨46, .mv (.t 6), some (44, false)⟩,
  ⟨47, .idx 6 (.t 45) (.t 46), some (44, false)⟩,
  ⟨48, .fld 2 (.t 47), some (44, false)⟩,
  ⟨49, .load (.t 48), some (44, false)⟩,
  ⟨50, .mv (.t 0), some (44, false)⟩,
  ⟨51, .mv (.t 5), some (44, false)⟩,
  ⟨52, .idx 5 (.t 50) (.t 51), some (44, false)⟩,
  ⟨53, .fld 4 (.t 52), some (44, false)⟩,
  ⟨54, .load (.t 53), some (44, false)⟩,
  ⟨55, .eqb true (.t 49) (.t 54), some (44, false)⟩,
  ⟨56, .pick (.t 44) (.c (.bool true)) (.t 55), none⟩]
def r12_9 : List POp := [⟨2, .asg (.c (.bool false)), none⟩]
def r12_10 : List POp := [⟨57, .mv (.t 3), none⟩,
  ⟨58, .mv (.t 6), none⟩,
  ⟨59, .idx 6 (.t 57) (.t 58), none⟩,
  ⟨60, .fld 1 (.t 59), none⟩,
  ⟨61, .load (.t 60), none⟩,
  ⟨5, .asg (.t 61), none⟩]
def r12_11 : List POp := [⟨62, .mv (.t 3), none⟩,
  ⟨63, .mv (.t 6), none⟩,
  ⟨64, .idx 6 (.t 62) (.t 63), none⟩,
  ⟨65, .fld 3 (.t 64), none⟩,
  ⟨66, .load (.t 65), none⟩,
  ⟨67, .un .not (.t 66), none⟩,
  ⟨68, .mv (.t 67), none⟩,
  ⟨69, .mv (.t 3), some (68, false)⟩,
  ⟨70, .mv (.t 6), some (68, false)⟩,
  ⟨71, .idx 6 (.t 69) (.t 70), some (68, false)⟩,
  ⟨72, .fld 5 (.t 71), some (68, false)⟩,
  ⟨73, .load (.t 72), some (68, false)⟩,
  ⟨74, .mv (.t 3), some (68, false)⟩,
  ⟨75, .mv (.t 6), some (68, false)⟩,
  ⟨76, .idx 6 (.t 74) (.t 75), some (68, false)⟩,
  ⟨77, .fld 4 (.t 76), some (68, false)⟩,
  ⟨78, .load (.t 77), some (68, false)⟩,
  ⟨79, .bin .leq (.t 73) (.t 78), some (68, false)⟩,
  ⟨80, .pick (.t 68) (.c (.bool true)) (.t 79), none⟩,
  ⟨81, .mv (.t 80), none⟩,
  ⟨82, .mv (.t 3), some (81, false)⟩,
  ⟨83, .mv (.t 6), some (81, false)⟩,
  ⟨84, .idx 6 (.t 82) (.t 83), some (81, false)⟩,
  ⟨85, .fld 4 (.t 84), some (81, false)⟩,
  ⟨86, .load (.t 85), some (81, false)⟩,
  ⟨87, .bin .lss (.t 86) (.c (.int .i64 (-1000000000000000))), some (81, false)⟩,
  ⟨88, .pick (.t 81) (.c (.bool true)) (.t 87), none⟩,
  ⟨89, .mv (.t 88), none⟩,
  ⟨90, .mv (.t 3), some (89, false)⟩,
  ⟨91, .mv (.t 6), some (89, false)⟩,
  ⟨92, .idx 6 (.t 90) (.t 91), some (89, false)⟩,
  ⟨93, .fld 4 (.t 92), some (89, false)⟩,
  ⟨94, .load (.t 93), some (89, false)⟩,
  ⟨95, .bin .geq (.t 94) (.c (.int .i64 1000000000000000)), some (89, false)⟩,
  ⟨96, .pick (.t 89) (.c (.bool true)) (.t 95), none⟩]
def r12_12 : List POp := [⟨98, .mv (.t 0), none⟩,
  ⟨99, .mv (.t 3), none⟩,
  ⟨100, .mv (.t 6), none⟩,
  ⟨101, .idx 6 (.t 99) (.t 100), none⟩,
  ⟨102, .fld 4 (.t 101), none⟩,
  ⟨103, .load (.t 102), none⟩,
  ⟨104, .mv (.t 3), none⟩,
  ⟨105, .mv (.t 6), none⟩,
  ⟨106, .idx 6 (.t 104) (.t 105), none⟩,
  ⟨107, .fld 4 (.t 106), none⟩,
  ⟨108, .load (.t 107), none⟩,
  ⟨109, .bin .add (.t 108) (.c (.int .i64 1)), none⟩,
  ⟨110, .build [.int .i64 0, .int .i64 0] [(0, 1, .t 103), (1, 1, .t 109)], none⟩,
  ⟨111, .call 29 [.t 98, .t 110], none⟩,
  ⟨97, .mv (.t 111), none⟩,
  ⟨112, .ext 0 (.t 97), none⟩,
  ⟨113, .ext 1 (.t 97), none⟩,
  ⟨7, .alloc [.int .i64 0, .int .i64 0, .int .i64 0], none⟩,
  ⟨0, .stores 3 (.t 7) (.t 112), none⟩,
  ⟨8, .mv (.t 113), none⟩]
def r12_13 : List POp := [⟨114, .mv (.t 8), none⟩,
  ⟨115, .bin .neq (.t 114) (.c (.int .i64 0)), none⟩,
  ⟨116, .mv (.t 115), none⟩,
  ⟨117, .fld 0 (.t 7), some (116, false)⟩,
  ⟨118, .load (.t 117), some (116, false)⟩,
  ⟨119, .mv (.t 3), some (116, false)⟩,
  ⟨120, .mv (.t 6), some (116, false)⟩,
  ⟨121, .idx 6 (.t 119) (.t 120), some (116, false)⟩,
  ⟨122, .fld 0 (.t 121), some (116, false)⟩,
  ⟨123, .load (.t 122), some (116, false)⟩,
  ⟨124, .bin .neq (.t 118) (.t 123), some (116, false)⟩,
  ⟨125, .pick (.t 116) (.c (.bool true)) (.t 124), none⟩]
def r12_14 : List POp := [⟨2, .asg (.c (.bool false)), none⟩]
def r12_7 : List POp := [⟨26, .mv (.t 6), none⟩,
  ⟨27, .bin .add (.t 26) (.c (.int .i64 1)), none⟩,
  ⟨6, .asg (.t 27), none⟩]
def r12_15 : List POp := [⟨126, .mv (.t 5), none⟩,
  ⟨127, .mv (.t 0), none⟩,
  ⟨128, .len (.t 127), none⟩,
  ⟨129, .bin .eql (.t 126) (.t 128), none⟩,
  ⟨130, .mv (.t 129), none⟩,
  ⟨131, .call 16 [], some (130, true)⟩,
  ⟨132, .pick (.t 130) (.t 131) (.c (.bool false)), none⟩,
  ⟨2, .asg (.t 132), none⟩]
def l12_0 : PCode := .seq (.seq (.ops r12_6) (.cond (.t 25) (.skip) (.exit 0))) (.seq (.block 1 (.seq (.seq (.ops r12_8) (.cond (.t 56) (.seq (.ops r12_9) (.ret)) (.skip))) (.seq (.ops r12_10) (.seq (.seq (.ops r12_11) (.cond (.t 96) (.exit 1) (.skip))) (.seq (.ops r12_12) (.seq (.ops r12_13) (.cond (.t 125) (.seq (.ops r12_14) (.ret)) (.skip)))))))) (.ops r12_7))
def p12 : PCode := .seq (.ops r12_0) (.seq (.ops r12_1) (.seq (.seq (.ops r12_2) (.cond (.t 15) (.seq (.ops r12_3) (.ret)) (.skip))) (.seq (.ops r12_4) (.seq (.seq (.ops r12_5) (.block 0 (.loop l12_0))) (.seq (.ops r12_15) (.ret))))))
theorem ok12 : okFunc Try.prog 12 [.t 2] 1 p12 = true := by kernel_rfl
set_option maxRecDepth 20000 in
set_option maxHeartbeats 1000000 in
theorem groupsall_d (l : List Smp) : CallOK Try.prog 12 [.ro (l.map Smp.av)] (.val (.bool true)) := by
  refine call_of mixed ok12 rfl ?_
  have k1 := groupsF_c l
  by_cases h0 : smpF l = 0
  case neg =>
    have hF : groupsF l = ([], smpF l) := by simp [groupsF, h0]
    rw [hF] at k1
    repeat' first | (with_reducible refine condD (fun h => ?_) (fun h => ?_)) | (with_reducible refine condE (fun h => ?_) (fun h => ?_)) | (with_reducible refine condN (fun h => ?_) (fun h => ?_)) | (with_reducible refine condI (fun h => ?_) (fun h => ?_)) | (with_reducible refine condS (fun h => ?_) (fun h => ?_)) | (with_reducible refine guardD (by with_unfolding_all rfl) (fun h => ?_) (fun h => ?_)) | (with_reducible refine guardE (by with_unfolding_all rfl) (fun h => ?_) (fun h => ?_)) | (with_reducible refine guardN (by with_unfolding_all rfl) (fun h => ?_) (fun h => ?_)) | (with_reducible refine guardI (by with_unfolding_all rfl) (fun h => ?_) (fun h => ?_)) | (with_reducible refine guardS (by with_unfolding_all rfl) (fun h => ?_) (fun h => ?_)) | ((refine callG k1 ?_)) | ((refine callG awake3_c ?_)) | (with_reducible refine And.intro ?_ ?_; omega) | (simp only [done_eq, done_eq', fin_val, fin_tup, fin_agg, fin_ro, res_one, res_more, rv_t, rv_c, rv_l, AV.tup.injEq, AV.agg.injEq, AV.ro.injEq, List.cons.injEq, int_eq, bool_eq, Int.toNat_natCast, Int.reduceToNat, Int.toNat_zero, Int.toNat_one, Int.reduceLE, Int.reduceLT, Int.reduceBEq, Int.reduceBNe, beq_self_eq_true, bne_self_eq_false, decide_true, decide_false,  Int.reduceNeg, toNat_pred, toNat_succ, List.length_map, cnd_t, cnd_f, grd_tt, grd_u, grd_tf, grd_ft, grd_ff, g_skip, g_ops, g_seq, g_block, g_exit, g_ret, x_c, x_o, x_l, x_b, g_b, g_nil, r_all, o_nil, g_cond, o_guard, o_call, o_callm, o_callv, lk, ef, o_mv, o_pick, o_bin, o_never, o_eqs, o_eqb, o_un, o_conv, o_load, o_loads, o_fld, o_idx, o_idxs, o_len, o_lens, o_ext, o_nilck, o_slc, o_slcs, o_build, o_minmax, o_mkfn, o_alloc, o_box, o_boxs, o_row, o_rowr, o_mk, o_asg, o_app, o_store, o_stores, o_eqnil, hv, eqAV, ev, view_t, view_c, view_nil, view_fn, look_own, look_box, look_junk, look_val, look_nilsl, look_ro, look_roAt, look_agg, look_tup, look_clo, look_alias, look_ref, look_into, rowOf, cellsOf, argv, vbin, vun, bnd, elemOf, putParts, setAt, zav, ASt.rid, ASt.free, AV.kill, AV.isHome, AV.noLoan, AV.cellOK, Value.oneCell', put_at, mk_at, mk_nil, initSt, true_and, and_true, and_self, implies_true, List.map_cons, List.map_nil, List.forall_mem_cons, List.not_mem_nil, false_implies, List.length_cons, List.length_nil, List.getD_cons_zero, List.getD_cons_succ, List.getD_nil, List.drop_succ_cons, List.drop_zero, List.take_succ_cons, List.take_zero, List.set_cons_zero, List.set_cons_succ, List.all_cons, List.all_nil, Bool.and_true, Bool.true_and, Bool.not_true, Bool.not_false, reduceCtorEq, if_true, if_false, Bool.false_eq_true, ↓reduceIte, Nat.reduceEqDiff, Nat.reduceAdd, Nat.reduceSub, Nat.reduceMul, Nat.reduceLeDiff, Nat.reduceLT, ne_eq, not_false_eq_true, not_true_eq_false, Nat.one_ne_zero, Nat.zero_ne_one, r12_0, r12_1, r12_2, r12_3, r12_4, r12_5, r12_6, r12_8, r12_9, r12_10, r12_11, r12_12, r12_13, r12_14, r12_7, r12_15, p12, bne0_t h0, beq0_f h0]) | (exfalso; omega)
  obtain ⟨hl, hb, _⟩ := smpF_0 h0
  have hF : groupsF l = (groupsL l, 0) := by simp [groupsF, h0]
  rw [hF] at k1
  obtain ⟨A, hA⟩ : ∃ A, A = groupsL l := ⟨_, rfl⟩
  rw [← hA] at k1
  have hstart : A.drop 0 = groupsGo l l.length 0 := by rw [hA]; rfl
  have hAl : A.length ≤ l.length := by rw [hA]; exact groupsGo_len l _ _
  clear hA hF
  repeat' first | (with_reducible refine condD (fun h => ?_) (fun h => ?_)) | (with_reducible refine condE (fun h => ?_) (fun h => ?_)) | (with_reducible refine condN (fun h => ?_) (fun h => ?_)) | (with_reducible refine condI (fun h => ?_) (fun h => ?_)) | (with_reducible refine condS (fun h => ?_) (fun h => ?_)) | (with_reducible refine guardD (by with_unfolding_all rfl) (fun h => ?_) (fun h => ?_)) | (with_reducible refine guardE (by with_unfolding_all rfl) (fun h => ?_) (fun h => ?_)) | (with_reducible refine guardN (by with_unfolding_all rfl) (fun h => ?_) (fun h => ?_)) | (with_reducible refine guardI (by with_unfolding_all rfl) (fun h => ?_) (fun h => ?_)) | (with_reducible refine guardS (by with_unfolding_all rfl) (fun h => ?_) (fun h => ?_)) | ((refine callG k1 ?_)) | (with_reducible refine And.intro ?_ ?_; omega) | (simp only [done_eq, done_eq', fin_val, fin_tup, fin_agg, fin_ro, res_one, res_more, rv_t, rv_c, rv_l, AV.tup.injEq, AV.agg.injEq, AV.ro.injEq, List.cons.injEq, int_eq, bool_eq, Int.toNat_natCast, Int.reduceToNat, Int.toNat_zero, Int.toNat_one, Int.reduceLE, Int.reduceLT, Int.reduceBEq, Int.reduceBNe, beq_self_eq_true, bne_self_eq_false, decide_true, decide_false,  Int.reduceNeg, toNat_pred, toNat_succ, List.length_map, cnd_t, cnd_f, grd_tt, grd_u, grd_tf, grd_ft, grd_ff, g_skip, g_ops, g_seq, g_block, g_exit, g_ret, x_c, x_o, x_l, x_b, g_b, g_nil, r_all, o_nil, g_cond, o_guard, o_call, o_callm, o_callv, lk, ef, o_mv, o_pick, o_bin, o_never, o_eqs, o_eqb, o_un, o_conv, o_load, o_loads, o_fld, o_idx, o_idxs, o_len, o_lens, o_ext, o_nilck, o_slc, o_slcs, o_build, o_minmax, o_mkfn, o_alloc, o_box, o_boxs, o_row, o_rowr, o_mk, o_asg, o_app, o_store, o_stores, o_eqnil, hv, eqAV, ev, view_t, view_c, view_nil, view_fn, look_own, look_box, look_junk, look_val, look_nilsl, look_ro, look_roAt, look_agg, look_tup, look_clo, look_alias, look_ref, look_into, rowOf, cellsOf, argv, vbin, vun, bnd, elemOf, putParts, setAt, zav, ASt.rid, ASt.free, AV.kill, AV.isHome, AV.noLoan, AV.cellOK, Value.oneCell', put_at, mk_at, mk_nil, initSt, true_and, and_true, and_self, implies_true, List.map_cons, List.map_nil, List.forall_mem_cons, List.not_mem_nil, false_implies, List.length_cons, List.length_nil, List.getD_cons_zero, List.getD_cons_succ, List.getD_nil, List.drop_succ_cons, List.drop_zero, List.take_succ_cons, List.take_zero, List.set_cons_zero, List.set_cons_succ, List.all_cons, List.all_nil, Bool.and_true, Bool.true_and, Bool.not_true, Bool.not_false, reduceCtorEq, if_true, if_false, Bool.false_eq_true, ↓reduceIte, Nat.reduceEqDiff, Nat.reduceAdd, Nat.reduceSub, Nat.reduceMul, Nat.reduceLeDiff, Nat.reduceLT, ne_eq, not_false_eq_true, not_true_eq_false, Nat.one_ne_zero, Nat.zero_ne_one, r12_0, r12_1, r12_2, r12_3, r12_4, r12_5, r12_6, r12_8, r12_9, r12_10, r12_11, r12_12, r12_13, r12_14, r12_7, r12_15, p12]) | (exfalso; omega)
  refine loopS (fun p : Nat × Nat => mk [(0, .ro (l.map Smp.av)), (3, .ro (A.map Grp.av)), (5, .val (.int .i64 p.2)), (6, .val (.int .i64 p.1))]) (fun p => p.1 ≤ A.length ∧ p.2 ≤ l.length ∧ ∃ u, l.length ≤ p.2 + u ∧ A.drop p.1 = groupsGo l u p.2) (fun p => A.length - p.1) (0, 0) (weak_mk ?_) ⟨Nat.zero_le _, Nat.zero_le _, l.length, by simp, hstart⟩ ?_
  · simp only [wk_cons, wk_nil, wk1, vint_eq, vbool_eq, AV.val.injEq, done_eq, done_eq', fin_val, fin_tup, fin_agg, fin_ro, res_one, res_more, rv_t, rv_c, rv_l, AV.tup.injEq, AV.agg.injEq, AV.ro.injEq, List.cons.injEq, int_eq, bool_eq, Int.toNat_natCast, Int.reduceToNat, Int.toNat_zero, Int.toNat_one, Int.reduceLE, Int.reduceLT, Int.reduceBEq, Int.reduceBNe, beq_self_eq_true, bne_self_eq_false, decide_true, decide_false,  Int.reduceNeg, toNat_pred, toNat_succ, List.length_map, cnd_t, cnd_f, grd_tt, grd_u, grd_tf, grd_ft, grd_ff, g_skip, g_ops, g_seq, g_block, g_exit, g_ret, x_c, x_o, x_l, x_b, g_b, g_nil, r_all, o_nil, g_cond, o_guard, o_call, o_callm, o_callv, lk, ef, o_mv, o_pick, o_bin, o_never, o_eqs, o_eqb, o_un, o_conv, o_load, o_loads, o_fld, o_idx, o_idxs, o_len, o_lens, o_ext, o_nilck, o_slc, o_slcs, o_build, o_minmax, o_mkfn, o_alloc, o_box, o_boxs, o_row, o_rowr, o_mk, o_asg, o_app, o_store, o_stores, o_eqnil, hv, eqAV, ev, view_t, view_c, view_nil, view_fn, look_own, look_box, look_junk, look_val, look_nilsl, look_ro, look_roAt, look_agg, look_tup, look_clo, look_alias, look_ref, look_into, rowOf, cellsOf, argv, vbin, vun, bnd, elemOf, putParts, setAt, zav, ASt.rid, ASt.free, AV.kill, AV.isHome, AV.noLoan, AV.cellOK, Value.oneCell', put_at, mk_at, mk_nil, initSt, true_and, and_true, and_self, implies_true, List.map_cons, List.map_nil, List.forall_mem_cons, List.not_mem_nil, false_implies, List.length_cons, List.length_nil, List.getD_cons_zero, List.getD_cons_succ, List.getD_nil, List.drop_succ_cons, List.drop_zero, List.take_succ_cons, List.take_zero, List.set_cons_zero, List.set_cons_succ, List.all_cons, List.all_nil, Bool.and_true, Bool.true_and, Bool.not_true, Bool.not_false, reduceCtorEq, if_true, if_false, Bool.false_eq_true, ↓reduceIte, Nat.reduceEqDiff, Nat.reduceAdd, Nat.reduceSub, Nat.reduceMul, Nat.reduceLeDiff, Nat.reduceLT, ne_eq, not_false_eq_true, not_true_eq_false, Nat.one_ne_zero, Nat.zero_ne_one]
    first | exact ⟨rfl, rfl⟩ | exact rfl
  · rintro J hJ ⟨i, f⟩ ⟨hi, hf, u, hu, hgo⟩
    simp only at hi hf hu hgo
    simp only [done_eq, done_eq', fin_val, fin_tup, fin_agg, fin_ro, res_one, res_more, rv_t, rv_c, rv_l, AV.tup.injEq, AV.agg.injEq, AV.ro.injEq, List.cons.injEq, int_eq, bool_eq, Int.toNat_natCast, Int.reduceToNat, Int.toNat_zero, Int.toNat_one, Int.reduceLE, Int.reduceLT, Int.reduceBEq, Int.reduceBNe, beq_self_eq_true, bne_self_eq_false, decide_true, decide_false,  Int.reduceNeg, toNat_pred, toNat_succ, List.length_map, cnd_t, cnd_f, grd_tt, grd_u, grd_tf, grd_ft, grd_ff, g_skip, g_ops, g_seq, g_block, g_exit, g_ret, x_c, x_o, x_l, x_b, g_b, g_nil, r_all, o_nil, g_cond, o_guard, o_call, o_callm, o_callv, lk, ef, o_mv, o_pick, o_bin, o_never, o_eqs, o_eqb, o_un, o_conv, o_load, o_loads, o_fld, o_idx, o_idxs, o_len, o_lens, o_ext, o_nilck, o_slc, o_slcs, o_build, o_minmax, o_mkfn, o_alloc, o_box, o_boxs, o_row, o_rowr, o_mk, o_asg, o_app, o_store, o_stores, o_eqnil, hv, eqAV, ev, view_t, view_c, view_nil, view_fn, look_own, look_box, look_junk, look_val, look_nilsl, look_ro, look_roAt, look_agg, look_tup, look_clo, look_alias, look_ref, look_into, rowOf, cellsOf, argv, vbin, vun, bnd, elemOf, putParts, setAt, zav, ASt.rid, ASt.free, AV.kill, AV.isHome, AV.noLoan, AV.cellOK, Value.oneCell', put_at, mk_at, mk_nil, initSt, true_and, and_true, and_self, implies_true, List.map_cons, List.map_nil, List.forall_mem_cons, List.not_mem_nil, false_implies, List.length_cons, List.length_nil, List.getD_cons_zero, List.getD_cons_succ, List.getD_nil, List.drop_succ_cons, List.drop_zero, List.take_succ_cons, List.take_zero, List.set_cons_zero, List.set_cons_succ, List.all_cons, List.all_nil, Bool.and_true, Bool.true_and, Bool.not_true, Bool.not_false, reduceCtorEq, if_true, if_false, Bool.false_eq_true, ↓reduceIte, Nat.reduceEqDiff, Nat.reduceAdd, Nat.reduceSub, Nat.reduceMul, Nat.reduceLeDiff, Nat.reduceLT, ne_eq, not_false_eq_true, not_true_eq_false, Nat.one_ne_zero, Nat.zero_ne_one, r12_0, r12_1, r12_2, r12_3, r12_4, r12_5, r12_6, r12_8, r12_9, r12_10, r12_11, r12_12, r12_13, r12_14, r12_7, r12_15, p12, l12_0]
    refine condD (fun h => ?_) (fun h => ?_)
    · have hlt : i < A.length := by omega
      have hw := i_add1 i (by omega)
      rw [List.drop_eq_getElem_cons hlt] at hgo
      obtain ⟨u', rfl⟩ : ∃ u', u = u' + 1 := by
        cases u with
        | zero => exact absurd hgo (by rw [groupsGo]; exact List.cons_ne_nil _ _)
        | succ u => exact ⟨u, rfl⟩
      rw [groupsGo] at hgo
      by_cases hfl : f < l.length
      case neg => rw [if_neg hfl] at hgo; cases hgo
      rw [if_pos hfl] at hgo
      injection hgo with hg1 hg2
      obtain ⟨t1, t2⟩ := toOf_bd hfl
      have hgd : l.getD f ⟨0, 0, 0, 0, false⟩ = l[f] := by rw [List.getD_eq_getElem?_getD, List.getElem?_eq_getElem hfl]; rfl
      have gA := getD_map (f := Grp.av) (d := []) hlt
      have hcn := closed_need h0 hfl
      have hav : A[i].av = [.val (.int .i64 f), .val (.int .i64 (toOf l f)), .val (.bool l[f].key), .val (.bool (grpAt l f).closed), .val (.int .i64 (grpAt l f).beg), .val (.int .i64 (grpAt l f).fin)] := by
        rw [hg1]; simp only [Grp.av, grpAt, hgd]
      rw [hav] at gA
      have gL := getD_map (f := Smp.av) (d := []) hfl
      simp only [Smp.av] at gL
      have hnext : i + 1 ≤ A.length ∧ toOf l f ≤ l.length ∧ ∃ u, l.length ≤ toOf l f + u ∧ A.drop (i + 1) = groupsGo l u (toOf l f) := ⟨by omega, t2, u', by omega, hg2⟩
      have q1 : ¬ ((toOf l f : Nat) : Int) ≤ f := by omega
      have hn := need_c l (grpAt l f).beg ((grpAt l f).beg + 1)
      clear hav hg1 hg2
      generalize (grpAt l f).beg = B at *
      generalize (grpAt l f).fin = X at *
      generalize toOf l f = t at *
      cases hcl : (grpAt l f).closed
      · rw [hcl] at gA
        repeat' first | (with_reducible refine condD (fun h => ?_) (fun h => ?_)) | (with_reducible refine condE (fun h => ?_) (fun h => ?_)) | (with_reducible refine condN (fun h => ?_) (fun h => ?_)) | (with_reducible refine condI (fun h => ?_) (fun h => ?_)) | (with_reducible refine condS (fun h => ?_) (fun h => ?_)) | (with_reducible refine guardD (by with_unfolding_all rfl) (fun h => ?_) (fun h => ?_)) | (with_reducible refine guardE (by with_unfolding_all rfl) (fun h => ?_) (fun h => ?_)) | (with_reducible refine guardN (by with_unfolding_all rfl) (fun h => ?_) (fun h => ?_)) | (with_reducible refine guardI (by with_unfolding_all rfl) (fun h => ?_) (fun h => ?_)) | (with_reducible refine guardS (by with_unfolding_all rfl) (fun h => ?_) (fun h => ?_)) | (with_reducible refine And.intro ?_ ?_; omega) | (simp only [done_eq, done_eq', fin_val, fin_tup, fin_agg, fin_ro, res_one, res_more, rv_t, rv_c, rv_l, AV.tup.injEq, AV.agg.injEq, AV.ro.injEq, List.cons.injEq, int_eq, bool_eq, Int.toNat_natCast, Int.reduceToNat, Int.toNat_zero, Int.toNat_one, Int.reduceLE, Int.reduceLT, Int.reduceBEq, Int.reduceBNe, beq_self_eq_true, bne_self_eq_false, decide_true, decide_false,  Int.reduceNeg, toNat_pred, toNat_succ, List.length_map, cnd_t, cnd_f, grd_tt, grd_u, grd_tf, grd_ft, grd_ff, g_skip, g_ops, g_seq, g_block, g_exit, g_ret, x_c, x_o, x_l, x_b, g_b, g_nil, r_all, o_nil, g_cond, o_guard, o_call, o_callm, o_callv, lk, ef, o_mv, o_pick, o_bin, o_never, o_eqs, o_eqb, o_un, o_conv, o_load, o_loads, o_fld, o_idx, o_idxs, o_len, o_lens, o_ext, o_nilck, o_slc, o_slcs, o_build, o_minmax, o_mkfn, o_alloc, o_box, o_boxs, o_row, o_rowr, o_mk, o_asg, o_app, o_store, o_stores, o_eqnil, hv, eqAV, ev, view_t, view_c, view_nil, view_fn, look_own, look_box, look_junk, look_val, look_nilsl, look_ro, look_roAt, look_agg, look_tup, look_clo, look_alias, look_ref, look_into, rowOf, cellsOf, argv, vbin, vun, bnd, elemOf, putParts, setAt, zav, ASt.rid, ASt.free, AV.kill, AV.isHome, AV.noLoan, AV.cellOK, Value.oneCell', put_at, mk_at, mk_nil, initSt, true_and, and_true, and_self, implies_true, List.map_cons, List.map_nil, List.forall_mem_cons, List.not_mem_nil, false_implies, List.length_cons, List.length_nil, List.getD_cons_zero, List.getD_cons_succ, List.getD_nil, List.drop_succ_cons, List.drop_zero, List.take_succ_cons, List.take_zero, List.set_cons_zero, List.set_cons_succ, List.all_cons, List.all_nil, Bool.and_true, Bool.true_and, Bool.not_true, Bool.not_false, reduceCtorEq, if_true, if_false, Bool.false_eq_true, ↓reduceIte, Nat.reduceEqDiff, Nat.reduceAdd, Nat.reduceSub, Nat.reduceMul, Nat.reduceLeDiff, Nat.reduceLT, ne_eq, not_false_eq_true, not_true_eq_false, Nat.one_ne_zero, Nat.zero_ne_one, r12_0, r12_1, r12_2, r12_3, r12_4, r12_5, r12_6, r12_8, r12_9, r12_10, r12_11, r12_12, r12_13, r12_14, r12_7, r12_15, p12, l12_0, gA, gL, q1]) | (exfalso; omega)
        all_goals exact again hJ (i + 1, t) (weak_mk (by simp only [wk_cons, wk_nil, wk1, vint_eq, vbool_eq, AV.val.injEq, done_eq, done_eq', fin_val, fin_tup, fin_agg, fin_ro, res_one, res_more, rv_t, rv_c, rv_l, AV.tup.injEq, AV.agg.injEq, AV.ro.injEq, List.cons.injEq, int_eq, bool_eq, Int.toNat_natCast, Int.reduceToNat, Int.toNat_zero, Int.toNat_one, Int.reduceLE, Int.reduceLT, Int.reduceBEq, Int.reduceBNe, beq_self_eq_true, bne_self_eq_false, decide_true, decide_false,  Int.reduceNeg, toNat_pred, toNat_succ, List.length_map, cnd_t, cnd_f, grd_tt, grd_u, grd_tf, grd_ft, grd_ff, g_skip, g_ops, g_seq, g_block, g_exit, g_ret, x_c, x_o, x_l, x_b, g_b, g_nil, r_all, o_nil, g_cond, o_guard, o_call, o_callm, o_callv, lk, ef, o_mv, o_pick, o_bin, o_never, o_eqs, o_eqb, o_un, o_conv, o_load, o_loads, o_fld, o_idx, o_idxs, o_len, o_lens, o_ext, o_nilck, o_slc, o_slcs, o_build, o_minmax, o_mkfn, o_alloc, o_box, o_boxs, o_row, o_rowr, o_mk, o_asg, o_app, o_store, o_stores, o_eqnil, hv, eqAV, ev, view_t, view_c, view_nil, view_fn, look_own, look_box, look_junk, look_val, look_nilsl, look_ro, look_roAt, look_agg, look_tup, look_clo, look_alias, look_ref, look_into, rowOf, cellsOf, argv, vbin, vun, bnd, elemOf, putParts, setAt, zav, ASt.rid, ASt.free, AV.kill, AV.isHome, AV.noLoan, AV.cellOK, Value.oneCell', put_at, mk_at, mk_nil, initSt, true_and, and_true, and_self, implies_true, List.map_cons, List.map_nil, List.forall_mem_cons, List.not_mem_nil, false_implies, List.length_cons, List.length_nil, List.getD_cons_zero, List.getD_cons_succ, List.getD_nil, List.drop_succ_cons, List.drop_zero, List.take_succ_cons, List.take_zero, List.set_cons_zero, List.set_cons_succ, List.all_cons, List.all_nil, Bool.and_true, Bool.true_and, Bool.not_true, Bool.not_false, reduceCtorEq, if_true, if_false, Bool.false_eq_true, ↓reduceIte, Nat.reduceEqDiff, Nat.reduceAdd, Nat.reduceSub, Nat.reduceMul, Nat.reduceLeDiff, Nat.reduceLT, ne_eq, not_false_eq_true, not_true_eq_false, Nat.one_ne_zero, Nat.zero_ne_one]; exact hw)) hnext (by simp only; omega)
      rw [hcl] at gA
      by_cases x1 : X ≤ B
      · repeat' first | (with_reducible refine condD (fun h => ?_) (fun h => ?_)) | (with_reducible refine condE (fun h => ?_) (fun h => ?_)) | (with_reducible refine condN (fun h => ?_) (fun h => ?_)) | (with_reducible refine condI (fun h => ?_) (fun h => ?_)) | (with_reducible refine condS (fun h => ?_) (fun h => ?_)) | (with_reducible refine guardD (by with_unfolding_all rfl) (fun h => ?_) (fun h => ?_)) | (with_reducible refine guardE (by with_unfolding_all rfl) (fun h => ?_) (fun h => ?_)) | (with_reducible refine guardN (by with_unfolding_all rfl) (fun h => ?_) (fun h => ?_)) | (with_reducible refine guardI (by with_unfolding_all rfl) (fun h => ?_) (fun h => ?_)) | (with_reducible refine guardS (by with_unfolding_all rfl) (fun h => ?_) (fun h => ?_)) | (with_reducible refine And.intro ?_ ?_; omega) | (simp only [done_eq, done_eq', fin_val, fin_tup, fin_agg, fin_ro, res_one, res_more, rv_t, rv_c, rv_l, AV.tup.injEq, AV.agg.injEq, AV.ro.injEq, List.cons.injEq, int_eq, bool_eq, Int.toNat_natCast, Int.reduceToNat, Int.toNat_zero, Int.toNat_one, Int.reduceLE, Int.reduceLT, Int.reduceBEq, Int.reduceBNe, beq_self_eq_true, bne_self_eq_false, decide_true, decide_false,  Int.reduceNeg, toNat_pred, toNat_succ, List.length_map, cnd_t, cnd_f, grd_tt, grd_u, grd_tf, grd_ft, grd_ff, g_skip, g_ops, g_seq, g_block, g_exit, g_ret, x_c, x_o, x_l, x_b, g_b, g_nil, r_all, o_nil, g_cond, o_guard, o_call, o_callm, o_callv, lk, ef, o_mv, o_pick, o_bin, o_never, o_eqs, o_eqb, o_un, o_conv, o_load, o_loads, o_fld, o_idx, o_idxs, o_len, o_lens, o_ext, o_nilck, o_slc, o_slcs, o_build, o_minmax, o_mkfn, o_alloc, o_box, o_boxs, o_row, o_rowr, o_mk, o_asg, o_app, o_store, o_stores, o_eqnil, hv, eqAV, ev, view_t, view_c, view_nil, view_fn, look_own, look_box, look_junk, look_val, look_nilsl, look_ro, look_roAt, look_agg, look_tup, look_clo, look_alias, look_ref, look_into, rowOf, cellsOf, argv, vbin, vun, bnd, elemOf, putParts, setAt, zav, ASt.rid, ASt.free, AV.kill, AV.isHome, AV.noLoan, AV.cellOK, Value.oneCell', put_at, mk_at, mk_nil, initSt, true_and, and_true, and_self, implies_true, List.map_cons, List.map_nil, List.forall_mem_cons, List.not_mem_nil, false_implies, List.length_cons, List.length_nil, List.getD_cons_zero, List.getD_cons_succ, List.getD_nil, List.drop_succ_cons, List.drop_zero, List.take_succ_cons, List.take_zero, List.set_cons_zero, List.set_cons_succ, List.all_cons, List.all_nil, Bool.and_true, Bool.true_and, Bool.not_true, Bool.not_false, reduceCtorEq, if_true, if_false, Bool.false_eq_true, ↓reduceIte, Nat.reduceEqDiff, Nat.reduceAdd, Nat.reduceSub, Nat.reduceMul, Nat.reduceLeDiff, Nat.reduceLT, ne_eq, not_false_eq_true, not_true_eq_false, Nat.one_ne_zero, Nat.zero_ne_one, r12_0, r12_1, r12_2, r12_3, r12_4, r12_5, r12_6, r12_8, r12_9, r12_10, r12_11, r12_12, r12_13, r12_14, r12_7, r12_15, p12, l12_0, gA, gL, q1, x1]) | (exfalso; omega)
        all_goals exact again hJ (i + 1, t) (weak_mk (by simp only [wk_cons, wk_nil, wk1, vint_eq, vbool_eq, AV.val.injEq, done_eq, done_eq', fin_val, fin_tup, fin_agg, fin_ro, res_one, res_more, rv_t, rv_c, rv_l, AV.tup.injEq, AV.agg.injEq, AV.ro.injEq, List.cons.injEq, int_eq, bool_eq, Int.toNat_natCast, Int.reduceToNat, Int.toNat_zero, Int.toNat_one, Int.reduceLE, Int.reduceLT, Int.reduceBEq, Int.reduceBNe, beq_self_eq_true, bne_self_eq_false, decide_true, decide_false,  Int.reduceNeg, toNat_pred, toNat_succ, List.length_map, cnd_t, cnd_f, grd_tt, grd_u, grd_tf, grd_ft, grd_ff, g_skip, g_ops, g_seq, g_block, g_exit, g_ret, x_c, x_o, x_l, x_b, g_b, g_nil, r_all, o_nil, g_cond, o_guard, o_call, o_callm, o_callv, lk, ef, o_mv, o_pick, o_bin, o_never, o_eqs, o_eqb, o_un, o_conv, o_load, o_loads, o_fld, o_idx, o_idxs, o_len, o_lens, o_ext, o_nilck, o_slc, o_slcs, o_build, o_minmax, o_mkfn, o_alloc, o_box, o_boxs, o_row, o_rowr, o_mk, o_asg, o_app, o_store, o_stores, o_eqnil, hv, eqAV, ev, view_t, view_c, view_nil, view_fn, look_own, look_box, look_junk, look_val, look_nilsl, look_ro, look_roAt, look_agg, look_tup, look_clo, look_alias, look_ref, look_into, rowOf, cellsOf, argv, vbin, vun, bnd, elemOf, putParts, setAt, zav, ASt.rid, ASt.free, AV.kill, AV.isHome, AV.noLoan, AV.cellOK, Value.oneCell', put_at, mk_at, mk_nil, initSt, true_and, and_true, and_self, implies_true, List.map_cons, List.map_nil, List.forall_mem_cons, List.not_mem_nil, false_implies, List.length_cons, List.length_nil, List.getD_cons_zero, List.getD_cons_succ, List.getD_nil, List.drop_succ_cons, List.drop_zero, List.take_succ_cons, List.take_zero, List.set_cons_zero, List.set_cons_succ, List.all_cons, List.all_nil, Bool.and_true, Bool.true_and, Bool.not_true, Bool.not_false, reduceCtorEq, if_true, if_false, Bool.false_eq_true, ↓reduceIte, Nat.reduceEqDiff, Nat.reduceAdd, Nat.reduceSub, Nat.reduceMul, Nat.reduceLeDiff, Nat.reduceLT, ne_eq, not_false_eq_true, not_true_eq_false, Nat.one_ne_zero, Nat.zero_ne_one]; exact hw)) hnext (by simp only; omega)
      by_cases x2 : B < -1000000000000000
      · repeat' first | (with_reducible refine condD (fun h => ?_) (fun h => ?_)) | (with_reducible refine condE (fun h => ?_) (fun h => ?_)) | (with_reducible refine condN (fun h => ?_) (fun h => ?_)) | (with_reducible refine condI (fun h => ?_) (fun h => ?_)) | (with_reducible refine condS (fun h => ?_) (fun h => ?_)) | (with_reducible refine guardD (by with_unfolding_all rfl) (fun h => ?_) (fun h => ?_)) | (with_reducible refine guardE (by with_unfolding_all rfl) (fun h => ?_) (fun h => ?_)) | (with_reducible refine guardN (by with_unfolding_all rfl) (fun h => ?_) (fun h => ?_)) | (with_reducible refine guardI (by with_unfolding_all rfl) (fun h => ?_) (fun h => ?_)) | (with_reducible refine guardS (by with_unfolding_all rfl) (fun h => ?_) (fun h => ?_)) | (with_reducible refine And.intro ?_ ?_; omega) | (simp only [done_eq, done_eq', fin_val, fin_tup, fin_agg, fin_ro, res_one, res_more, rv_t, rv_c, rv_l, AV.tup.injEq, AV.agg.injEq, AV.ro.injEq, List.cons.injEq, int_eq, bool_eq, Int.toNat_natCast, Int.reduceToNat, Int.toNat_zero, Int.toNat_one, Int.reduceLE, Int.reduceLT, Int.reduceBEq, Int.reduceBNe, beq_self_eq_true, bne_self_eq_false, decide_true, decide_false,  Int.reduceNeg, toNat_pred, toNat_succ, List.length_map, cnd_t, cnd_f, grd_tt, grd_u, grd_tf, grd_ft, grd_ff, g_skip, g_ops, g_seq, g_block, g_exit, g_ret, x_c, x_o, x_l, x_b, g_b, g_nil, r_all, o_nil, g_cond, o_guard, o_call, o_callm, o_callv, lk, ef, o_mv, o_pick, o_bin, o_never, o_eqs, o_eqb, o_un, o_conv, o_load, o_loads, o_fld, o_idx, o_idxs, o_len, o_lens, o_ext, o_nilck, o_slc, o_slcs, o_build, o_minmax, o_mkfn, o_alloc, o_box, o_boxs, o_row, o_rowr, o_mk, o_asg, o_app, o_store, o_stores, o_eqnil, hv, eqAV, ev, view_t, view_c, view_nil, view_fn, look_own, look_box, look_junk, look_val, look_nilsl, look_ro, look_roAt, look_agg, look_tup, look_clo, look_alias, look_ref, look_into, rowOf, cellsOf, argv, vbin, vun, bnd, elemOf, putParts, setAt, zav, ASt.rid, ASt.free, AV.kill, AV.isHome, AV.noLoan, AV.cellOK, Value.oneCell', put_at, mk_at, mk_nil, initSt, true_and, and_true, and_self, implies_true, List.map_cons, List.map_nil, List.forall_mem_cons, List.not_mem_nil, false_implies, List.length_cons, List.length_nil, List.getD_cons_zero, List.getD_cons_succ, List.getD_nil, List.drop_succ_cons, List.drop_zero, List.take_succ_cons, List.take_zero, List.set_cons_zero, List.set_cons_succ, List.all_cons, List.all_nil, Bool.and_true, Bool.true_and, Bool.not_true, Bool.not_false, reduceCtorEq, if_true, if_false, Bool.false_eq_true, ↓reduceIte, Nat.reduceEqDiff, Nat.reduceAdd, Nat.reduceSub, Nat.reduceMul, Nat.reduceLeDiff, Nat.reduceLT, ne_eq, not_false_eq_true, not_true_eq_false, Nat.one_ne_zero, Nat.zero_ne_one, r12_0, r12_1, r12_2, r12_3, r12_4, r12_5, r12_6, r12_8, r12_9, r12_10, r12_11, r12_12, r12_13, r12_14, r12_7, r12_15, p12, l12_0, gA, gL, q1, x1, x2]) | (exfalso; omega)
        all_goals exact again hJ (i + 1, t) (weak_mk (by simp only [wk_cons, wk_nil, wk1, vint_eq, vbool_eq, AV.val.injEq, done_eq, done_eq', fin_val, fin_tup, fin_agg, fin_ro, res_one, res_more, rv_t, rv_c, rv_l, AV.tup.injEq, AV.agg.injEq, AV.ro.injEq, List.cons.injEq, int_eq, bool_eq, Int.toNat_natCast, Int.reduceToNat, Int.toNat_zero, Int.toNat_one, Int.reduceLE, Int.reduceLT, Int.reduceBEq, Int.reduceBNe, beq_self_eq_true, bne_self_eq_false, decide_true, decide_false,  Int.reduceNeg, toNat_pred, toNat_succ, List.length_map, cnd_t, cnd_f, grd_tt, grd_u, grd_tf, grd_ft, grd_ff, g_skip, g_ops, g_seq, g_block, g_exit, g_ret, x_c, x_o, x_l, x_b, g_b, g_nil, r_all, o_nil, g_cond, o_guard, o_call, o_callm, o_callv, lk, ef, o_mv, o_pick, o_bin, o_never, o_eqs, o_eqb, o_un, o_conv, o_load, o_loads, o_fld, o_idx, o_idxs, o_len, o_lens, o_ext, o_nilck, o_slc, o_slcs, o_build, o_minmax, o_mkfn, o_alloc, o_box, o_boxs, o_row, o_rowr, o_mk, o_asg, o_app, o_store, o_stores, o_eqnil, hv, eqAV, ev, view_t, view_c, view_nil, view_fn, look_own, look_box, look_junk, look_val, look_nilsl, look_ro, look_roAt, look_agg, look_tup, look_clo, look_alias, look_ref, look_into, rowOf, cellsOf, argv, vbin, vun, bnd, elemOf, putParts, setAt, zav, ASt.rid, ASt.free, AV.kill, AV.isHome, AV.noLoan, AV.cellOK, Value.oneCell', put_at, mk_at, mk_nil, initSt, true_and, and_true, and_self, implies_true, List.map_cons, List.map_nil, List.forall_mem_cons, List.not_mem_nil, false_implies, List.length_cons, List.length_nil, List.getD_cons_zero, List.getD_cons_succ, List.getD_nil, List.drop_succ_cons, List.drop_zero, List.take_succ_cons, List.take_zero, List.set_cons_zero, List.set_cons_succ, List.all_cons, List.all_nil, Bool.and_true, Bool.true_and, Bool.not_true, Bool.not_false, reduceCtorEq, if_true, if_false, Bool.false_eq_true, ↓reduceIte, Nat.reduceEqDiff, Nat.reduceAdd, Nat.reduceSub, Nat.reduceMul, Nat.reduceLeDiff, Nat.reduceLT, ne_eq, not_false_eq_true, not_true_eq_false, Nat.one_ne_zero, Nat.zero_ne_one]; exact hw)) hnext (by simp only; omega)
      by_cases x3 : (1000000000000000 : Int) ≤ B
      · repeat' first | (with_reducible refine condD (fun h => ?_) (fun h => ?_)) | (with_reducible refine condE (fun h => ?_) (fun h => ?_)) | (with_reducible refine condN (fun h => ?_) (fun h => ?_)) | (with_reducible refine condI (fun h => ?_) (fun h => ?_)) | (with_reducible refine condS (fun h => ?_) (fun h => ?_)) | (with_reducible refine guardD (by with_unfolding_all rfl) (fun h => ?_) (fun h => ?_)) | (with_reducible refine guardE (by with_unfolding_all rfl) (fun h => ?_) (fun h => ?_)) | (with_reducible refine guardN (by with_unfolding_all rfl) (fun h => ?_) (fun h => ?_)) | (with_reducible refine guardI (by with_unfolding_all rfl) (fun h => ?_) (fun h => ?_)) | (with_reducible refine guardS (by with_unfolding_all rfl) (fun h => ?_) (fun h => ?_)) | (with_reducible refine And.intro ?_ ?_; omega) | (simp only [done_eq, done_eq', fin_val, fin_tup, fin_agg, fin_ro, res_one, res_more, rv_t, rv_c, rv_l, AV.tup.injEq, AV.agg.injEq, AV.ro.injEq, List.cons.injEq, int_eq, bool_eq, Int.toNat_natCast, Int.reduceToNat, Int.toNat_zero, Int.toNat_one, Int.reduceLE, Int.reduceLT, Int.reduceBEq, Int.reduceBNe, beq_self_eq_true, bne_self_eq_false, decide_true, decide_false,  Int.reduceNeg, toNat_pred, toNat_succ, List.length_map, cnd_t, cnd_f, grd_tt, grd_u, grd_tf, grd_ft, grd_ff, g_skip, g_ops, g_seq, g_block, g_exit, g_ret, x_c, x_o, x_l, x_b, g_b, g_nil, r_all, o_nil, g_cond, o_guard, o_call, o_callm, o_callv, lk, ef, o_mv, o_pick, o_bin, o_never, o_eqs, o_eqb, o_un, o_conv, o_load, o_loads, o_fld, o_idx, o_idxs, o_len, o_lens, o_ext, o_nilck, o_slc, o_slcs, o_build, o_minmax, o_mkfn, o_alloc, o_box, o_boxs, o_row, o_rowr, o_mk, o_asg, o_app, o_store, o_stores, o_eqnil, hv, eqAV, ev, view_t, view_c, view_nil, view_fn, look_own, look_box, look_junk, look_val, look_nilsl, look_ro, look_roAt, look_agg, look_tup, look_clo, look_alias, look_ref, look_into, rowOf, cellsOf, argv, vbin, vun, bnd, elemOf, putParts, setAt, zav, ASt.rid, ASt.free, AV.kill, AV.isHome, AV.noLoan, AV.cellOK, Value.oneCell', put_at, mk_at, mk_nil, initSt, true_and, and_true, and_self, implies_true, List.map_cons, List.map_nil, List.forall_mem_cons, List.not_mem_nil, false_implies, List.length_cons, List.length_nil, List.getD_cons_zero, List.getD_cons_succ, List.getD_nil, List.drop_succ_cons, List.drop_zero, List.take_succ_cons, List.take_zero, List.set_cons_zero, List.set_cons_succ, List.all_cons, List.all_nil, Bool.and_true, Bool.true_and, Bool.not_true, Bool.not_false, reduceCtorEq, if_true, if_false, Bool.false_eq_true, ↓reduceIte, Nat.reduceEqDiff, Nat.reduceAdd, Nat.reduceSub, Nat.reduceMul, Nat.reduceLeDiff, Nat.reduceLT, ne_eq, not_false_eq_true, not_true_eq_false, Nat.one_ne_zero, Nat.zero_ne_one, r12_0, r12_1, r12_2, r12_3, r12_4, r12_5, r12_6, r12_8, r12_9, r12_10, r12_11, r12_12, r12_13, r12_14, r12_7, r12_15, p12, l12_0, gA, gL, q1, x1, x2, x3]) | (exfalso; omega)
        all_goals exact again hJ (i + 1, t) (weak_mk (by simp only [wk_cons, wk_nil, wk1, vint_eq, vbool_eq, AV.val.injEq, done_eq, done_eq', fin_val, fin_tup, fin_agg, fin_ro, res_one, res_more, rv_t, rv_c, rv_l, AV.tup.injEq, AV.agg.injEq, AV.ro.injEq, List.cons.injEq, int_eq, bool_eq, Int.toNat_natCast, Int.reduceToNat, Int.toNat_zero, Int.toNat_one, Int.reduceLE, Int.reduceLT, Int.reduceBEq, Int.reduceBNe, beq_self_eq_true, bne_self_eq_false, decide_true, decide_false,  Int.reduceNeg, toNat_pred, toNat_succ, List.length_map, cnd_t, cnd_f, grd_tt, grd_u, grd_tf, grd_ft, grd_ff, g_skip, g_ops, g_seq, g_block, g_exit, g_ret, x_c, x_o, x_l, x_b, g_b, g_nil, r_all, o_nil, g_cond, o_guard, o_call, o_callm, o_callv, lk, ef, o_mv, o_pick, o_bin, o_never, o_eqs, o_eqb, o_un, o_conv, o_load, o_loads, o_fld, o_idx, o_idxs, o_len, o_lens, o_ext, o_nilck, o_slc, o_slcs, o_build, o_minmax, o_mkfn, o_alloc, o_box, o_boxs, o_row, o_rowr, o_mk, o_asg, o_app, o_store, o_stores, o_eqnil, hv, eqAV, ev, view_t, view_c, view_nil, view_fn, look_own, look_box, look_junk, look_val, look_nilsl, look_ro, look_roAt, look_agg, look_tup, look_clo, look_alias, look_ref, look_into, rowOf, cellsOf, argv, vbin, vun, bnd, elemOf, putParts, setAt, zav, ASt.rid, ASt.free, AV.kill, AV.isHome, AV.noLoan, AV.cellOK, Value.oneCell', put_at, mk_at, mk_nil, initSt, true_and, and_true, and_self, implies_true, List.map_cons, List.map_nil, List.forall_mem_cons, List.not_mem_nil, false_implies, List.length_cons, List.length_nil, List.getD_cons_zero, List.getD_cons_succ, List.getD_nil, List.drop_succ_cons, List.drop_zero, List.take_succ_cons, List.take_zero, List.set_cons_zero, List.set_cons_succ, List.all_cons, List.all_nil, Bool.and_true, Bool.true_and, Bool.not_true, Bool.not_false, reduceCtorEq, if_true, if_false, Bool.false_eq_true, ↓reduceIte, Nat.reduceEqDiff, Nat.reduceAdd, Nat.reduceSub, Nat.reduceMul, Nat.reduceLeDiff, Nat.reduceLT, ne_eq, not_false_eq_true, not_true_eq_false, Nat.one_ne_zero, Nat.zero_ne_one]; exact hw)) hnext (by simp only; omega)
      obtain ⟨n1, n2⟩ := hcn hcl (by omega) (by omega) (by omega)
      rw [n1, n2] at hn
      generalize (needF l B (B + 1)).1.2.1 = y1 at hn
      generalize (needF l B (B + 1)).1.2.2 = y2 at hn
      simp only [span, kept] at hn
      have w1 : IntKind.i64.wrap (B + 1) = B + 1 := wrap_in (by omega) (by omega)
      repeat' first | (with_reducible refine condD (fun h => ?_) (fun h => ?_)) | (with_reducible refine condE (fun h => ?_) (fun h => ?_)) | (with_reducible refine condN (fun h => ?_) (fun h => ?_)) | (with_reducible refine condI (fun h => ?_) (fun h => ?_)) | (with_reducible refine condS (fun h => ?_) (fun h => ?_)) | (with_reducible refine guardD (by with_unfolding_all rfl) (fun h => ?_) (fun h => ?_)) | (with_reducible refine guardE (by with_unfolding_all rfl) (fun h => ?_) (fun h => ?_)) | (with_reducible refine guardN (by with_unfolding_all rfl) (fun h => ?_) (fun h => ?_)) | (with_reducible refine guardI (by with_unfolding_all rfl) (fun h => ?_) (fun h => ?_)) | (with_reducible refine guardS (by with_unfolding_all rfl) (fun h => ?_) (fun h => ?_)) | ((refine callG hn ?_)) | (with_reducible refine And.intro ?_ ?_; omega) | (simp only [done_eq, done_eq', fin_val, fin_tup, fin_agg, fin_ro, res_one, res_more, rv_t, rv_c, rv_l, AV.tup.injEq, AV.agg.injEq, AV.ro.injEq, List.cons.injEq, int_eq, bool_eq, Int.toNat_natCast, Int.reduceToNat, Int.toNat_zero, Int.toNat_one, Int.reduceLE, Int.reduceLT, Int.reduceBEq, Int.reduceBNe, beq_self_eq_true, bne_self_eq_false, decide_true, decide_false,  Int.reduceNeg, toNat_pred, toNat_succ, List.length_map, cnd_t, cnd_f, grd_tt, grd_u, grd_tf, grd_ft, grd_ff, g_skip, g_ops, g_seq, g_block, g_exit, g_ret, x_c, x_o, x_l, x_b, g_b, g_nil, r_all, o_nil, g_cond, o_guard, o_call, o_callm, o_callv, lk, ef, o_mv, o_pick, o_bin, o_never, o_eqs, o_eqb, o_un, o_conv, o_load, o_loads, o_fld, o_idx, o_idxs, o_len, o_lens, o_ext, o_nilck, o_slc, o_slcs, o_build, o_minmax, o_mkfn, o_alloc, o_box, o_boxs, o_row, o_rowr, o_mk, o_asg, o_app, o_store, o_stores, o_eqnil, hv, eqAV, ev, view_t, view_c, view_nil, view_fn, look_own, look_box, look_junk, look_val, look_nilsl, look_ro, look_roAt, look_agg, look_tup, look_clo, look_alias, look_ref, look_into, rowOf, cellsOf, argv, vbin, vun, bnd, elemOf, putParts, setAt, zav, ASt.rid, ASt.free, AV.kill, AV.isHome, AV.noLoan, AV.cellOK, Value.oneCell', put_at, mk_at, mk_nil, initSt, true_and, and_true, and_self, implies_true, List.map_cons, List.map_nil, List.forall_mem_cons, List.not_mem_nil, false_implies, List.length_cons, List.length_nil, List.getD_cons_zero, List.getD_cons_succ, List.getD_nil, List.drop_succ_cons, List.drop_zero, List.take_succ_cons, List.take_zero, List.set_cons_zero, List.set_cons_succ, List.all_cons, List.all_nil, Bool.and_true, Bool.true_and, Bool.not_true, Bool.not_false, reduceCtorEq, if_true, if_false, Bool.false_eq_true, ↓reduceIte, Nat.reduceEqDiff, Nat.reduceAdd, Nat.reduceSub, Nat.reduceMul, Nat.reduceLeDiff, Nat.reduceLT, ne_eq, not_false_eq_true, not_true_eq_false, Nat.one_ne_zero, Nat.zero_ne_one, r12_0, r12_1, r12_2, r12_3, r12_4, r12_5, r12_6, r12_8, r12_9, r12_10, r12_11, r12_12, r12_13, r12_14, r12_7, r12_15, p12, l12_0, gA, gL, q1, x1, x2, x3, w1]) | (exfalso; omega)
      all_goals exact again hJ (i + 1, t) (weak_mk (by simp only [wk_cons, wk_nil, wk1, vint_eq, vbool_eq, AV.val.injEq, done_eq, done_eq', fin_val, fin_tup, fin_agg, fin_ro, res_one, res_more, rv_t, rv_c, rv_l, AV.tup.injEq, AV.agg.injEq, AV.ro.injEq, List.cons.injEq, int_eq, bool_eq, Int.toNat_natCast, Int.reduceToNat, Int.toNat_zero, Int.toNat_one, Int.reduceLE, Int.reduceLT, Int.reduceBEq, Int.reduceBNe, beq_self_eq_true, bne_self_eq_false, decide_true, decide_false,  Int.reduceNeg, toNat_pred, toNat_succ, List.length_map, cnd_t, cnd_f, grd_tt, grd_u, grd_tf, grd_ft, grd_ff, g_skip, g_ops, g_seq, g_block, g_exit, g_ret, x_c, x_o, x_l, x_b, g_b, g_nil, r_all, o_nil, g_cond, o_guard, o_call, o_callm, o_callv, lk, ef, o_mv, o_pick, o_bin, o_never, o_eqs, o_eqb, o_un, o_conv, o_load, o_loads, o_fld, o_idx, o_idxs, o_len, o_lens, o_ext, o_nilck, o_slc, o_slcs, o_build, o_minmax, o_mkfn, o_alloc, o_box, o_boxs, o_row, o_rowr, o_mk, o_asg, o_app, o_store, o_stores, o_eqnil, hv, eqAV, ev, view_t, view_c, view_nil, view_fn, look_own, look_box, look_junk, look_val, look_nilsl, look_ro, look_roAt, look_agg, look_tup, look_clo, look_alias, look_ref, look_into, rowOf, cellsOf, argv, vbin, vun, bnd, elemOf, putParts, setAt, zav, ASt.rid, ASt.free, AV.kill, AV.isHome, AV.noLoan, AV.cellOK, Value.oneCell', put_at, mk_at, mk_nil, initSt, true_and, and_true, and_self, implies_true, List.map_cons, List.map_nil, List.forall_mem_cons, List.not_mem_nil, false_implies, List.length_cons, List.length_nil, List.getD_cons_zero, List.getD_cons_succ, List.getD_nil, List.drop_succ_cons, List.drop_zero, List.take_succ_cons, List.take_zero, List.set_cons_zero, List.set_cons_succ, List.all_cons, List.all_nil, Bool.and_true, Bool.true_and, Bool.not_true, Bool.not_false, reduceCtorEq, if_true, if_false, Bool.false_eq_true, ↓reduceIte, Nat.reduceEqDiff, Nat.reduceAdd, Nat.reduceSub, Nat.reduceMul, Nat.reduceLeDiff, Nat.reduceLT, ne_eq, not_false_eq_true, not_true_eq_false, Nat.one_ne_zero, Nat.zero_ne_one]; exact hw)) hnext (by simp only; omega)
    · have hie : i = A.length := by omega
      subst hie
      rw [List.drop_eq_nil_of_le (Nat.le_refl _)] at hgo
      have hfe : f = l.length := by
        cases u with
        | zero => omega
        | succ u =>
          rw [groupsGo] at hgo
          by_cases hfl : f < l.length
          · rw [if_pos hfl] at hgo; cases hgo
          · omega
      subst hfe
      repeat' first | (with_reducible refine condD (fun h => ?_) (fun h => ?_)) | (with_reducible refine condE (fun h => ?_) (fun h => ?_)) | (with_reducible refine condN (fun h => ?_) (fun h => ?_)) | (with_reducible refine condI (fun h => ?_) (fun h => ?_)) | (with_reducible refine condS (fun h => ?_) (fun h => ?_)) | (with_reducible refine guardD (by with_unfolding_all rfl) (fun h => ?_) (fun h => ?_)) | (with_reducible refine guardE (by with_unfolding_all rfl) (fun h => ?_) (fun h => ?_)) | (with_reducible refine guardN (by with_unfolding_all rfl) (fun h => ?_) (fun h => ?_)) | (with_reducible refine guardI (by with_unfolding_all rfl) (fun h => ?_) (fun h => ?_)) | (with_reducible refine guardS (by with_unfolding_all rfl) (fun h => ?_) (fun h => ?_)) | ((refine callG awake3_c ?_)) | (with_reducible refine And.intro ?_ ?_; omega) | (simp only [done_eq, done_eq', fin_val, fin_tup, fin_agg, fin_ro, res_one, res_more, rv_t, rv_c, rv_l, AV.tup.injEq, AV.agg.injEq, AV.ro.injEq, List.cons.injEq, int_eq, bool_eq, Int.toNat_natCast, Int.reduceToNat, Int.toNat_zero, Int.toNat_one, Int.reduceLE, Int.reduceLT, Int.reduceBEq, Int.reduceBNe, beq_self_eq_true, bne_self_eq_false, decide_true, decide_false,  Int.reduceNeg, toNat_pred, toNat_succ, List.length_map, cnd_t, cnd_f, grd_tt, grd_u, grd_tf, grd_ft, grd_ff, g_skip, g_ops, g_seq, g_block, g_exit, g_ret, x_c, x_o, x_l, x_b, g_b, g_nil, r_all, o_nil, g_cond, o_guard, o_call, o_callm, o_callv, lk, ef, o_mv, o_pick, o_bin, o_never, o_eqs, o_eqb, o_un, o_conv, o_load, o_loads, o_fld, o_idx, o_idxs, o_len, o_lens, o_ext, o_nilck, o_slc, o_slcs, o_build, o_minmax, o_mkfn, o_alloc, o_box, o_boxs, o_row, o_rowr, o_mk, o_asg, o_app, o_store, o_stores, o_eqnil, hv, eqAV, ev, view_t, view_c, view_nil, view_fn, look_own, look_box, look_junk, look_val, look_nilsl, look_ro, look_roAt, look_agg, look_tup, look_clo, look_alias, look_ref, look_into, rowOf, cellsOf, argv, vbin, vun, bnd, elemOf, putParts, setAt, zav, ASt.rid, ASt.free, AV.kill, AV.isHome, AV.noLoan, AV.cellOK, Value.oneCell', put_at, mk_at, mk_nil, initSt, true_and, and_true, and_self, implies_true, List.map_cons, List.map_nil, List.forall_mem_cons, List.not_mem_nil, false_implies, List.length_cons, List.length_nil, List.getD_cons_zero, List.getD_cons_succ, List.getD_nil, List.drop_succ_cons, List.drop_zero, List.take_succ_cons, List.take_zero, List.set_cons_zero, List.set_cons_succ, List.all_cons, List.all_nil, Bool.and_true, Bool.true_and, Bool.not_true, Bool.not_false, reduceCtorEq, if_true, if_false, Bool.false_eq_true, ↓reduceIte, Nat.reduceEqDiff, Nat.reduceAdd, Nat.reduceSub, Nat.reduceMul, Nat.reduceLeDiff, Nat.reduceLT, ne_eq, not_false_eq_true, not_true_eq_false, Nat.one_ne_zero, Nat.zero_ne_one, r12_0, r12_1, r12_2, r12_3, r12_4, r12_5, r12_6, r12_8, r12_9, r12_10, r12_11, r12_12, r12_13, r12_14, r12_7, r12_15, p12, l12_0]) | (exfalso; omega)
theorem groupsall_c : ∀ avs, HasArgs [.one (.row [.int .i64, .int .i64, .int .i64, .int .i64, .bool])] avs → CallOK Try.prog 12 avs (.val (.bool true)) := by
  intro avs h
  obtain ⟨v0, r, rfl, h0, h⟩ := args_cons h
  obtain rfl := args_nil h
  obtain ⟨n0, rfl, hl0, hb0⟩ := has_row h0 all_smp
  exact groupsall_d n0

/-! ### The row -/
open Go.ChangeShapes Go.WideShapes Go.ChangeAt
set_option maxRecDepth 100000 in
theorem groupsall_lifted (os : Os) (started : os.Started) (H : Type) (enc : TypeId × Value → H) :
    ReturnsInHanded {} Try.checked os 12 .any (Rows.sampleGroupsAreAllSpec.pre6 enc Try.prog Try.f12 Rows.sampleGroupsAreAllRow.domain false) (Rows.sampleGroupsAreAllSpec.post enc Try.prog Try.f12 false true false false) := by
  refine returnsInHanded_of_change (C := Try.checked) own_knob started (by kernel_rfl) Try.func12
    (ChangeSpec.witness6 (enc := enc) (C := Try.checked) false ⟨#[], #[.slice none 0 0], []⟩ 8 (by kernel_rfl) (by kernel_rfl) (by kernel_rfl) (by kernel_rfl)) ?_
  intro W base args ds gs before hval hW _ _
  refine law_step rfl (by kernel_rfl) (fun ds h => ?_) ?_ hval hW ?_
  · match ds, h with | [a], _ => exact ⟨rfl, rfl, rfl⟩
  · rw [Try.params12]
    intro t ht
    simp only [List.mem_cons, List.not_mem_nil, or_false] at ht
    repeat' (first | (rcases ht with rfl | ht) | subst ht)
    all_goals exact ⟨by kernel_rfl, of_decide_eq_true (by kernel_rfl)⟩
  · rw [Try.params12]
    intro hin
    exact law_dm (ss := [.one (.row [.int .i64, .int .i64, .int .i64, .int .i64, .bool])]) (by kernel_rfl) hin groupsall_c

theorem groupsall_holds : Rows.SampleGroupsAreAllSaid :=
  OpenClaim.holds_of_wide 12 Try.f12 rfl rfl rfl rfl rfl rfl rfl ⟨rfl, rfl, rfl, rfl, rfl⟩ rfl rfl rfl rfl rfl (by kernel_rfl) Try.func12 (by kernel_rfl)
    (of_decide_eq_true (by kernel_rfl)) (by unfold Func.isWrapper; first | (rw [if_pos (by decide +kernel)]; kernel_rfl) | (rw [if_neg (by decide +kernel)]; exact ⟨rfl, rfl⟩))
    (fun os started H enc _ => groupsall_lifted os started H enc)

end Go.Proofs.Ytkklgckmdnejfaa
