/- CutCommonCuts: renditions of pictures that begin together can be cut at all common places. For every input; no condition. -/
import Derived.Test.YtjeemcpdmiajmaaKCommon
import Derived.Test.YtjeemcpdmiajmaaRows
namespace Go.Proofs.Ytjeemcpdmiajmaa
open Go.RowKit
set_option linter.unusedSimpArgs false

theorem all_smpC (x : List AV) (h : HasAll [.int .i64, .int .i64, .int .i64, .int .i64, .bool] x) : ∃ s : Smp, x = s.av ∧ True := by
  obtain ⟨v0, r, rfl, h0, h⟩ := all_cons h
  obtain ⟨v1, r, rfl, h1, h⟩ := all_cons h
  obtain ⟨v2, r, rfl, h2, h⟩ := all_cons h
  obtain ⟨v3, r, rfl, h3, h⟩ := all_cons h
  obtain ⟨v4, r, rfl, h4, h⟩ := all_cons h
  obtain rfl := all_nil h
  obtain ⟨n0, rfl, _⟩ := has_int h0
  obtain ⟨n1, rfl, _⟩ := has_int h1
  obtain ⟨n2, rfl, _⟩ := has_int h2
  obtain ⟨n3, rfl, _⟩ := has_int h3
  obtain ⟨n4, rfl⟩ := has_bool h4
  exact ⟨⟨n0, n1, n2, n3, n4⟩, rfl, trivial⟩
theorem all_strC (x : List AV) (h : HasAll [.str, .int .i64, .bool, .row [.int .i64, .int .i64, .int .i64, .int .i64, .bool]] x) : ∃ s : Str, x = s.av ∧ s.smps.length ≤ maxLen := by
  obtain ⟨v0, r, rfl, h0, h⟩ := all_cons h
  obtain ⟨v1, r, rfl, h1, h⟩ := all_cons h
  obtain ⟨v2, r, rfl, h2, h⟩ := all_cons h
  obtain ⟨v3, r, rfl, h3, h⟩ := all_cons h
  obtain rfl := all_nil h
  obtain ⟨n0, rfl, _⟩ := has_str h0
  obtain ⟨n1, rfl, _⟩ := has_int h1
  obtain ⟨k, rfl⟩ := has_bool h2
  obtain ⟨l, rfl, hl, _⟩ := has_row h3 all_smpC
  exact ⟨⟨n0, n1, k, l⟩, rfl, hl⟩
theorem strF2_0 {r : Str} {e : List Str} (h : strF r e = 0) : strF r [] = 0 := by
  unfold strF at h ⊢
  split at h
  · cases h
  rename_i h1
  rw [if_neg h1]
  split at h
  · cases h
  · simpa [named] using h
/-- One rendition at the first common place. -/
theorem seg_first {l : List Str} (h : rendF l = 0) {p : Int} {B : List Int} (hp : (commonF l).1 = p :: B) {k : Nat} (hk : k < l.length) (hso : l[k].sound = false) :
    placesL l[k].smps ≠ [] ∧ ((segF l[k] (scale0 l) [p] 0).2 = 0 ∧ (segF l[k] (scale0 l) [p] 0).1.length = 1 ∧ (∀ h : 0 < (segF l[k] (scale0 l) [p] 0).1.length, (segF l[k] (scale0 l) [p] 0).1[0].frm = 0) ∨ (segF l[k] (scale0 l) [p] 0).2 = 1 ∨ (segF l[k] (scale0 l) [p] 0).2 = 3) := by
  have hc : commonF l = ((leftGo (scale0 l) (l.drop 1) (placesL (smps0 l))).map Prod.fst, 0) := if_neg (by simp [h])
  have hm : p ∈ (commonF l).1 := by rw [hp]; simp
  rw [hc] at hm
  obtain ⟨x, hx, rfl⟩ := List.mem_map.1 hm
  have hh := common_has h hx l[k] (List.getElem_mem hk) hso
  refine ⟨findF_ne hh, ?_⟩
  have hsc : noScale (scale0 l) = false := by
    cases l with
    | nil => simp at hk
    | cons s t =>
      have := (strF_ok ((rendF_0 h).2.2 0 (by simp))).2.2
      simp only [List.getElem_cons_zero] at this
      exact noScale_of this.1 this.2
  have hr := strF_ok ((rendF_0 h).2.2 k hk)
  rcases segF_fault hso hsc (first := 0) (by decide) (rise_one x.1) (fun b hb => by
    rw [List.mem_singleton] at hb
    subst hb
    exact hh) with q | q | ⟨q, _⟩
  · left
    have hz := segF_zero q
    obtain ⟨h1, h2, h3, _, h5⟩ := segF_ok q
    obtain ⟨F, x1, x2, _⟩ := fr_ok hr h1 h2 h3
    refine ⟨q, ?_, fun hl => ?_⟩
    · rw [h5, segsL, List.length_map, List.length_range, List.length_map, x1, List.length_map, x2]; rfl
    · simp only [h5, segsL, List.getElem_map, List.getElem_range, segAt]
      rw [x1] at hz ⊢
      cases F with
      | nil => simp at x2
      | cons a F => simpa using hz
  · exact .inr (.inl q)
  · exact .inr (.inr q)
/-! headend/headendlaw4.CutCommonCuts -/
def r3_0 : List POp := [⟨2, .asg (.c (.bool false)), none⟩]
def r3_1 : List POp := [⟨13, .mv (.t 0), none⟩,
  ⟨14, .call 4 [.t 13], none⟩,
  ⟨12, .mv (.t 14), none⟩,
  ⟨15, .ext 0 (.t 12), none⟩,
  ⟨16, .ext 1 (.t 12), none⟩,
  ⟨3, .asg (.t 15), none⟩,
  ⟨4, .mv (.t 16), none⟩]
def r3_2 : List POp := [⟨17, .mv (.t 4), none⟩,
  ⟨18, .bin .neq (.t 17) (.c (.int .i64 0)), none⟩,
  ⟨19, .mv (.t 18), none⟩,
  ⟨20, .mv (.t 3), some (19, false)⟩,
  ⟨21, .len (.t 20), some (19, false)⟩,
  ⟨22, .bin .eql (.t 21) (.c (.int .i64 0)), some (19, false)⟩,
  ⟨23, .pick (.t 19) (.c (.bool true)) (.t 22), none⟩,
  ⟨24, .mv (.t 23), none⟩,
  ⟨25, .mv (.t 3), some (24, false)⟩,
  ⟨26, .len (.t 25), some (24, false)⟩,
  ⟨27, .bin .gtr (.t 26) (.c (.int .i64 1000)), some (24, false)⟩,
  ⟨28, .pick (.t 24) (.c (.bool true)) (.t 27), none⟩]
def r3_3 : List POp := [⟨29, .mv (.t 4), none⟩,
  ⟨30, .bin .eql (.t 29) (.c (.int .i64 0)), none⟩,
  ⟨31, .mv (.t 30), none⟩,
  ⟨32, .mv (.t 3), some (31, false)⟩,
  ⟨33, .len (.t 32), some (31, false)⟩,
  ⟨34, .bin .eql (.t 33) (.c (.int .i64 0)), some (31, false)⟩,
  ⟨35, .pick (.t 31) (.c (.bool true)) (.t 34), none⟩,
  ⟨36, .mv (.t 35), none⟩,
  ⟨37, .call 5 [], some (36, true)⟩,
  ⟨38, .pick (.t 36) (.t 37) (.c (.bool false)), none⟩,
  ⟨2, .asg (.t 38), none⟩]
def r3_4 : List POp := [⟨5, .asg (.c (.int .i64 0)), none⟩]
def r3_5 : List POp := [⟨39, .mv (.t 5), none⟩,
  ⟨40, .mv (.t 0), none⟩,
  ⟨41, .len (.t 40), none⟩,
  ⟨42, .bin .lss (.t 39) (.t 41), none⟩]
def r3_7 : List POp := [⟨45, .mv (.t 0), none⟩,
  ⟨46, .mv (.t 5), none⟩,
  ⟨47, .idx 4 (.t 45) (.t 46), none⟩,
  ⟨48, .fld 3 (.t 47), none⟩,
  ⟨49, .load (.t 48), none⟩,
  ⟨50, .idx 5 (.t 49) (.c (.int .i64 0)), none⟩,
  ⟨51, .loads 5 (.t 50), none⟩,
  ⟨6, .alloc [.int .i64 0, .int .i64 0, .int .i64 0, .int .i64 0, .bool false], none⟩,
  ⟨0, .stores 5 (.t 6) (.t 51), none⟩]
def r3_8 : List POp := [⟨52, .mv (.t 0), none⟩,
  ⟨53, .mv (.t 5), none⟩,
  ⟨54, .idx 4 (.t 52) (.t 53), none⟩,
  ⟨55, .fld 2 (.t 54), none⟩,
  ⟨56, .load (.t 55), none⟩,
  ⟨57, .mv (.t 56), none⟩,
  ⟨58, .fld 0 (.t 6), some (57, false)⟩,
  ⟨59, .load (.t 58), some (57, false)⟩,
  ⟨60, .fld 2 (.t 6), some (57, false)⟩,
  ⟨61, .load (.t 60), some (57, false)⟩,
  ⟨62, .bin .add (.t 59) (.t 61), some (57, false)⟩,
  ⟨63, .bin .lss (.t 62) (.c (.int .i64 (-1000000000000000))), some (57, false)⟩,
  ⟨64, .pick (.t 57) (.c (.bool true)) (.t 63), none⟩,
  ⟨65, .mv (.t 64), none⟩,
  ⟨66, .fld 0 (.t 6), some (65, false)⟩,
  ⟨67, .load (.t 66), some (65, false)⟩,
  ⟨68, .fld 2 (.t 6), some (65, false)⟩,
  ⟨69, .load (.t 68), some (65, false)⟩,
  ⟨70, .bin .add (.t 67) (.t 69), some (65, false)⟩,
  ⟨71, .bin .gtr (.t 70) (.c (.int .i64 1000000000000000)), some (65, false)⟩,
  ⟨72, .pick (.t 65) (.c (.bool true)) (.t 71), none⟩]
def r3_9 : List POp := [⟨73, .call 5 [], none⟩,
  ⟨2, .asg (.t 73), none⟩]
def r3_10 : List POp := [⟨75, .mv (.t 0), none⟩,
  ⟨76, .mv (.t 5), none⟩,
  ⟨77, .idx 4 (.t 75) (.t 76), none⟩,
  ⟨78, .loads 4 (.t 77), none⟩,
  ⟨79, .call 6 [.t 78], none⟩,
  ⟨74, .mv (.t 79), none⟩,
  ⟨80, .ext 0 (.t 74), none⟩,
  ⟨81, .ext 1 (.t 74), none⟩,
  ⟨7, .asg (.t 80), none⟩,
  ⟨8, .mv (.t 81), none⟩]
def r3_11 : List POp := [⟨82, .mv (.t 8), none⟩,
  ⟨83, .bin .neq (.t 82) (.c (.int .i64 0)), none⟩,
  ⟨84, .mv (.t 83), none⟩,
  ⟨85, .mv (.t 7), some (84, false)⟩,
  ⟨86, .len (.t 85), some (84, false)⟩,
  ⟨87, .bin .eql (.t 86) (.c (.int .i64 0)), some (84, false)⟩,
  ⟨88, .pick (.t 84) (.c (.bool true)) (.t 87), none⟩]
def r3_12 : List POp := [⟨2, .asg (.c (.bool false)), none⟩]
def r3_13 : List POp := [⟨89, .mv (.t 0), none⟩,
  ⟨90, .mv (.t 5), none⟩,
  ⟨91, .idx 4 (.t 89) (.t 90), none⟩,
  ⟨92, .fld 3 (.t 91), none⟩,
  ⟨93, .load (.t 92), none⟩,
  ⟨94, .idx 5 (.t 93) (.c (.int .i64 0)), none⟩,
  ⟨95, .loads 5 (.t 94), none⟩,
  ⟨9, .alloc [.int .i64 0, .int .i64 0, .int .i64 0, .int .i64 0, .bool false], none⟩,
  ⟨0, .stores 5 (.t 9) (.t 95), none⟩]
def r3_14 : List POp := [⟨96, .mv (.t 7), none⟩,
  ⟨97, .idx 1 (.t 96) (.c (.int .i64 0)), none⟩,
  ⟨98, .load (.t 97), none⟩,
  ⟨99, .fld 0 (.t 9), none⟩,
  ⟨100, .load (.t 99), none⟩,
  ⟨101, .fld 2 (.t 9), none⟩,
  ⟨102, .load (.t 101), none⟩,
  ⟨103, .bin .add (.t 100) (.t 102), none⟩,
  ⟨104, .bin .neq (.t 98) (.t 103), none⟩]
def r3_15 : List POp := [⟨105, .call 5 [], none⟩,
  ⟨2, .asg (.t 105), none⟩]
def r3_16 : List POp := [⟨107, .mv (.t 0), none⟩,
  ⟨108, .mv (.t 5), none⟩,
  ⟨109, .idx 4 (.t 107) (.t 108), none⟩,
  ⟨110, .loads 4 (.t 109), none⟩,
  ⟨111, .mv (.t 0), none⟩,
  ⟨112, .idx 4 (.t 111) (.c (.int .i64 0)), none⟩,
  ⟨113, .fld 1 (.t 112), none⟩,
  ⟨114, .load (.t 113), none⟩,
  ⟨115, .mv (.t 3), none⟩,
  ⟨116, .slc none (some (.c (.int .i64 1))) 1 (.t 115), none⟩,
  ⟨117, .call 7 [.t 110, .t 114, .t 116, .c (.int .i64 0)], none⟩,
  ⟨106, .mv (.t 117), none⟩,
  ⟨118, .ext 0 (.t 106), none⟩,
  ⟨119, .ext 1 (.t 106), none⟩,
  ⟨10, .mv (.t 118), none⟩,
  ⟨8, .mv (.t 119), none⟩]
def r3_17 : List POp := [⟨120, .mv (.t 8), none⟩,
  ⟨121, .bin .neq (.t 120) (.c (.int .i64 0)), none⟩,
  ⟨122, .mv (.t 121), none⟩,
  ⟨123, .mv (.t 10), some (122, false)⟩,
  ⟨124, .idx 7 (.t 123) (.c (.int .i64 0)), some (122, false)⟩,
  ⟨125, .fld 1 (.t 124), some (122, false)⟩,
  ⟨126, .load (.t 125), some (122, false)⟩,
  ⟨127, .bin .neq (.t 126) (.c (.int .i64 0)), some (122, false)⟩,
  ⟨128, .pick (.t 122) (.c (.bool true)) (.t 127), none⟩]
def r3_18 : List POp := [⟨129, .mv (.t 8), none⟩,
  ⟨130, .bin .eql (.t 129) (.c (.int .i64 3)), none⟩,
  ⟨131, .mv (.t 130), none⟩,
  ⟨132, .mv (.t 8), some (131, false)⟩,
  ⟨133, .bin .eql (.t 132) (.c (.int .i64 1)), some (131, false)⟩,
  ⟨134, .pick (.t 131) (.c (.bool true)) (.t 133), none⟩,
  ⟨2, .asg (.t 134), none⟩]
def r3_6 : List POp := [⟨43, .mv (.t 5), none⟩,
  ⟨44, .bin .add (.t 43) (.c (.int .i64 1)), none⟩,
  ⟨5, .asg (.t 44), none⟩]
def r3_19 : List POp := [⟨135, .mv (.t 3), none⟩,
  ⟨136, .mv (.t 3), none⟩,
  ⟨137, .len (.t 136), none⟩,
  ⟨138, .bin .sub (.t 137) (.c (.int .i64 1)), none⟩,
  ⟨139, .idx 1 (.t 135) (.t 138), none⟩,
  ⟨140, .load (.t 139), none⟩,
  ⟨141, .bin .gtr (.t 140) (.c (.int .i64 1000000000000000)), none⟩,
  ⟨142, .mv (.t 141), none⟩,
  ⟨143, .mv (.t 3), some (142, false)⟩,
  ⟨144, .idx 1 (.t 143) (.c (.int .i64 0)), some (142, false)⟩,
  ⟨145, .load (.t 144), some (142, false)⟩,
  ⟨146, .bin .lss (.t 145) (.c (.int .i64 (-1000000000000000))), some (142, false)⟩,
  ⟨147, .pick (.t 142) (.c (.bool true)) (.t 146), none⟩]
def r3_20 : List POp := [⟨148, .call 5 [], none⟩,
  ⟨2, .asg (.t 148), none⟩]
def r3_21 : List POp := [⟨150, .mv (.t 0), none⟩,
  ⟨151, .mv (.t 3), none⟩,
  ⟨152, .call 8 [.t 150, .t 151, .c (.int .i64 0)], none⟩,
  ⟨149, .mv (.t 152), none⟩,
  ⟨153, .ext 0 (.t 149), none⟩,
  ⟨154, .ext 1 (.t 149), none⟩,
  ⟨11, .asg (.t 153), none⟩,
  ⟨4, .mv (.t 154), none⟩]
def r3_22 : List POp := [⟨155, .mv (.t 4), none⟩,
  ⟨156, .bin .eql (.t 155) (.c (.int .i64 0)), none⟩,
  ⟨157, .mv (.t 156), none⟩,
  ⟨158, .mv (.t 11), some (157, true)⟩,
  ⟨159, .len (.t 158), some (157, true)⟩,
  ⟨160, .mv (.t 0), some (157, true)⟩,
  ⟨161, .len (.t 160), some (157, true)⟩,
  ⟨162, .bin .eql (.t 159) (.t 161), some (157, true)⟩,
  ⟨163, .pick (.t 157) (.t 162) (.c (.bool false)), none⟩,
  ⟨164, .mv (.t 163), none⟩,
  ⟨165, .mv (.t 4), some (164, false)⟩,
  ⟨166, .bin .eql (.t 165) (.c (.int .i64 1)), some (164, false)⟩,
  ⟨167, .pick (.t 164) (.c (.bool true)) (.t 166), none⟩,
  ⟨168, .mv (.t 167), none⟩,
  ⟨169, .call 5 [], some (168, true)⟩,
  ⟨170, .pick (.t 168) (.t 169) (.c (.bool false)), none⟩,
  ⟨2, .asg (.t 170), none⟩]
def l3_0 : PCode := .seq (.seq (.ops r3_5) (.cond (.t 42) (.skip) (.exit 0))) (.seq (.block 1 (.seq (.seq (.ops r3_7) (.seq (.ops r3_8) (.cond (.t 72) (.seq (.ops r3_9) (.ret)) (.skip)))) (.seq (.ops r3_10) (.seq (.seq (.ops r3_11) (.cond (.t 88) (.seq (.ops r3_12) (.ret)) (.skip))) (.seq (.seq (.ops r3_13) (.seq (.ops r3_14) (.cond (.t 104) (.seq (.ops r3_15) (.ret)) (.skip)))) (.seq (.ops r3_16) (.seq (.ops r3_17) (.cond (.t 128) (.seq (.ops r3_18) (.ret)) (.skip))))))))) (.ops r3_6))
def p3 : PCode := .seq (.ops r3_0) (.seq (.ops r3_1) (.seq (.seq (.ops r3_2) (.cond (.t 28) (.seq (.ops r3_3) (.ret)) (.skip))) (.seq (.seq (.ops r3_4) (.block 0 (.loop l3_0))) (.seq (.seq (.ops r3_19) (.cond (.t 147) (.seq (.ops r3_20) (.ret)) (.skip))) (.seq (.ops r3_21) (.seq (.ops r3_22) (.ret)))))))
theorem ok3 : okFunc Try.prog 3 [.t 2] 1 p3 = true := by kernel_rfl
set_option maxRecDepth 20000 in
set_option maxHeartbeats 2000000 in
theorem cutcommon_d (l : List Str) : CallOK Try.prog 3 [.ro (l.map Str.av)] (.val (.bool true)) := by
  refine call_of mixed ok3 rfl ?_
  have hc := common_c' l
  by_cases h0 : rendF l = 0
  case neg =>
    rw [show commonF l = ([], rendF l) from if_pos h0] at hc
    repeat' first | ((with_reducible (first | refine condD ?_ ?_ | refine condE ?_ ?_ | refine condN ?_ ?_ | refine condI ?_ ?_ | refine condS ?_ ?_)) <;> intro h) | ((with_reducible (first | refine guardD (by with_unfolding_all rfl) ?_ ?_ | refine guardE (by with_unfolding_all rfl) ?_ ?_ | refine guardN (by with_unfolding_all rfl) ?_ ?_ | refine guardI (by with_unfolding_all rfl) ?_ ?_ | refine guardS (by with_unfolding_all rfl) ?_ ?_)) <;> intro h) | ((refine callG hc ?_)) | ((refine callG awake_c ?_)) | (with_reducible refine And.intro ?_ ?_; omega) | (simp only [done_eq, done_eq', donet_eq, donet_eq', fin_val, fin_tup, fin_agg, fin_ro, res_one, res_more, rv_t, rv_c, rv_l, AV.tup.injEq, AV.agg.injEq, AV.ro.injEq, List.cons.injEq, int_eq, bool_eq, Int.toNat_natCast, Int.reduceToNat, Int.toNat_zero, Int.toNat_one, Int.reduceLE, Int.reduceLT, Int.reduceBEq, Int.reduceBNe, beq_self_eq_true, bne_self_eq_false, decide_true, decide_false,  Int.reduceNeg, toNat_pred, toNat_succ, List.length_map, cnd_t, cnd_f, grd_tt, grd_u, grd_tf, grd_ft, grd_ff, g_skip, g_ops, g_seq, g_block, g_exit, g_ret, x_c, x_o, x_l, x_b, g_b, g_nil, r_all, o_nil, g_cond, o_guard, o_call, o_callm, o_callt, o_callx, o_callv, lk, ef, o_mv, o_pick, o_bin, o_never, o_eqs, o_eqb, o_un, o_conv, o_load, o_loadr, o_idxr, o_loads, o_fld, o_idx, o_idxs, o_len, o_lens, o_ext, o_nilck, o_slc, o_slcs, o_build, o_minmax, o_mkfn, o_alloc, o_box, o_boxs, o_row, o_rowr, o_mk, o_asg, o_app, o_store, o_stores, o_eqnil, hv, eqAV, ev, view_t, view_c, view_nil, view_fn, look_own, look_box, look_junk, look_val, look_nilsl, look_ro, look_roAt, look_agg, look_tup, look_clo, look_alias, look_ref, look_into, rowOf, cellsOf, argv, vbin, vun, bnd, elemOf, putParts, setAt, zav, ASt.rid, ASt.free, AV.kill, AV.isHome, AV.noLoan, AV.cellOK, Value.oneCell', put_at, mk_at, mk_nil, initSt, true_and, and_true, and_self, implies_true, List.map_cons, List.map_nil, List.forall_mem_cons, List.not_mem_nil, false_implies, List.length_cons, List.length_nil, List.getD_cons_zero, List.getD_cons_succ, List.getD_nil, List.drop_succ_cons, List.drop_zero, List.take_succ_cons, List.take_zero, List.set_cons_zero, List.set_cons_succ, List.all_cons, List.all_nil, Bool.and_true, Bool.true_and, Bool.not_true, Bool.not_false, reduceCtorEq, if_true, if_false, Bool.false_eq_true, ↓reduceIte, Nat.reduceEqDiff, Nat.reduceAdd, Nat.reduceSub, Nat.reduceMul, Nat.reduceLeDiff, Nat.reduceLT, ne_eq, not_false_eq_true, not_true_eq_false, Nat.one_ne_zero, Nat.zero_ne_one, r3_0, r3_1, r3_2, r3_3, r3_4, r3_5, r3_7, r3_8, r3_9, r3_10, r3_11, r3_12, r3_13, r3_14, r3_15, r3_16, r3_17, r3_18, r3_6, r3_19, r3_20, r3_21, r3_22, p3, bne0_t h0, beq0_f h0]) | (exfalso; omega)
  have hC : commonF l = ((commonF l).1, 0) := by rw [show commonF l = ((leftGo (scale0 l) (l.drop 1) (placesL (smps0 l))).map Prod.fst, 0) from if_neg (by simp [h0])]
  obtain ⟨PB, hP⟩ : ∃ P, (commonF l).1 = P := ⟨_, rfl⟩
  rw [hC, hP] at hc
  clear hC
  by_cases hPz : PB = []
  · subst hPz
    simp only [List.map_nil] at hc
    repeat' first | ((with_reducible (first | refine condD ?_ ?_ | refine condE ?_ ?_ | refine condN ?_ ?_ | refine condI ?_ ?_ | refine condS ?_ ?_)) <;> intro h) | ((with_reducible (first | refine guardD (by with_unfolding_all rfl) ?_ ?_ | refine guardE (by with_unfolding_all rfl) ?_ ?_ | refine guardN (by with_unfolding_all rfl) ?_ ?_ | refine guardI (by with_unfolding_all rfl) ?_ ?_ | refine guardS (by with_unfolding_all rfl) ?_ ?_)) <;> intro h) | ((refine callG hc ?_)) | ((refine callG awake_c ?_)) | (with_reducible refine And.intro ?_ ?_; omega) | (simp only [done_eq, done_eq', donet_eq, donet_eq', fin_val, fin_tup, fin_agg, fin_ro, res_one, res_more, rv_t, rv_c, rv_l, AV.tup.injEq, AV.agg.injEq, AV.ro.injEq, List.cons.injEq, int_eq, bool_eq, Int.toNat_natCast, Int.reduceToNat, Int.toNat_zero, Int.toNat_one, Int.reduceLE, Int.reduceLT, Int.reduceBEq, Int.reduceBNe, beq_self_eq_true, bne_self_eq_false, decide_true, decide_false,  Int.reduceNeg, toNat_pred, toNat_succ, List.length_map, cnd_t, cnd_f, grd_tt, grd_u, grd_tf, grd_ft, grd_ff, g_skip, g_ops, g_seq, g_block, g_exit, g_ret, x_c, x_o, x_l, x_b, g_b, g_nil, r_all, o_nil, g_cond, o_guard, o_call, o_callm, o_callt, o_callx, o_callv, lk, ef, o_mv, o_pick, o_bin, o_never, o_eqs, o_eqb, o_un, o_conv, o_load, o_loadr, o_idxr, o_loads, o_fld, o_idx, o_idxs, o_len, o_lens, o_ext, o_nilck, o_slc, o_slcs, o_build, o_minmax, o_mkfn, o_alloc, o_box, o_boxs, o_row, o_rowr, o_mk, o_asg, o_app, o_store, o_stores, o_eqnil, hv, eqAV, ev, view_t, view_c, view_nil, view_fn, look_own, look_box, look_junk, look_val, look_nilsl, look_ro, look_roAt, look_agg, look_tup, look_clo, look_alias, look_ref, look_into, rowOf, cellsOf, argv, vbin, vun, bnd, elemOf, putParts, setAt, zav, ASt.rid, ASt.free, AV.kill, AV.isHome, AV.noLoan, AV.cellOK, Value.oneCell', put_at, mk_at, mk_nil, initSt, true_and, and_true, and_self, implies_true, List.map_cons, List.map_nil, List.forall_mem_cons, List.not_mem_nil, false_implies, List.length_cons, List.length_nil, List.getD_cons_zero, List.getD_cons_succ, List.getD_nil, List.drop_succ_cons, List.drop_zero, List.take_succ_cons, List.take_zero, List.set_cons_zero, List.set_cons_succ, List.all_cons, List.all_nil, Bool.and_true, Bool.true_and, Bool.not_true, Bool.not_false, reduceCtorEq, if_true, if_false, Bool.false_eq_true, ↓reduceIte, Nat.reduceEqDiff, Nat.reduceAdd, Nat.reduceSub, Nat.reduceMul, Nat.reduceLeDiff, Nat.reduceLT, ne_eq, not_false_eq_true, not_true_eq_false, Nat.one_ne_zero, Nat.zero_ne_one, r3_0, r3_1, r3_2, r3_3, r3_4, r3_5, r3_7, r3_8, r3_9, r3_10, r3_11, r3_12, r3_13, r3_14, r3_15, r3_16, r3_17, r3_18, r3_6, r3_19, r3_20, r3_21, r3_22, p3]) | (exfalso; omega)
  obtain ⟨p, B, hPB⟩ : ∃ p B, PB = p :: B := by
    cases PB with
    | nil => exact absurd rfl hPz
    | cons p B => exact ⟨p, B, rfl⟩
  have hPp : 1 ≤ PB.length := by rw [hPB]; simp
  have hPz : ¬ ((PB.length : Int) = 0) := by omega
  by_cases hbig : (1000 : Int) < PB.length
  · repeat' first | ((with_reducible (first | refine condD ?_ ?_ | refine condE ?_ ?_ | refine condN ?_ ?_ | refine condI ?_ ?_ | refine condS ?_ ?_)) <;> intro h) | ((with_reducible (first | refine guardD (by with_unfolding_all rfl) ?_ ?_ | refine guardE (by with_unfolding_all rfl) ?_ ?_ | refine guardN (by with_unfolding_all rfl) ?_ ?_ | refine guardI (by with_unfolding_all rfl) ?_ ?_ | refine guardS (by with_unfolding_all rfl) ?_ ?_)) <;> intro h) | ((refine callG hc ?_)) | ((refine callG awake_c ?_)) | (with_reducible refine And.intro ?_ ?_; omega) | (simp only [done_eq, done_eq', donet_eq, donet_eq', fin_val, fin_tup, fin_agg, fin_ro, res_one, res_more, rv_t, rv_c, rv_l, AV.tup.injEq, AV.agg.injEq, AV.ro.injEq, List.cons.injEq, int_eq, bool_eq, Int.toNat_natCast, Int.reduceToNat, Int.toNat_zero, Int.toNat_one, Int.reduceLE, Int.reduceLT, Int.reduceBEq, Int.reduceBNe, beq_self_eq_true, bne_self_eq_false, decide_true, decide_false,  Int.reduceNeg, toNat_pred, toNat_succ, List.length_map, cnd_t, cnd_f, grd_tt, grd_u, grd_tf, grd_ft, grd_ff, g_skip, g_ops, g_seq, g_block, g_exit, g_ret, x_c, x_o, x_l, x_b, g_b, g_nil, r_all, o_nil, g_cond, o_guard, o_call, o_callm, o_callt, o_callx, o_callv, lk, ef, o_mv, o_pick, o_bin, o_never, o_eqs, o_eqb, o_un, o_conv, o_load, o_loadr, o_idxr, o_loads, o_fld, o_idx, o_idxs, o_len, o_lens, o_ext, o_nilck, o_slc, o_slcs, o_build, o_minmax, o_mkfn, o_alloc, o_box, o_boxs, o_row, o_rowr, o_mk, o_asg, o_app, o_store, o_stores, o_eqnil, hv, eqAV, ev, view_t, view_c, view_nil, view_fn, look_own, look_box, look_junk, look_val, look_nilsl, look_ro, look_roAt, look_agg, look_tup, look_clo, look_alias, look_ref, look_into, rowOf, cellsOf, argv, vbin, vun, bnd, elemOf, putParts, setAt, zav, ASt.rid, ASt.free, AV.kill, AV.isHome, AV.noLoan, AV.cellOK, Value.oneCell', put_at, mk_at, mk_nil, initSt, true_and, and_true, and_self, implies_true, List.map_cons, List.map_nil, List.forall_mem_cons, List.not_mem_nil, false_implies, List.length_cons, List.length_nil, List.getD_cons_zero, List.getD_cons_succ, List.getD_nil, List.drop_succ_cons, List.drop_zero, List.take_succ_cons, List.take_zero, List.set_cons_zero, List.set_cons_succ, List.all_cons, List.all_nil, Bool.and_true, Bool.true_and, Bool.not_true, Bool.not_false, reduceCtorEq, if_true, if_false, Bool.false_eq_true, ↓reduceIte, Nat.reduceEqDiff, Nat.reduceAdd, Nat.reduceSub, Nat.reduceMul, Nat.reduceLeDiff, Nat.reduceLT, ne_eq, not_false_eq_true, not_true_eq_false, Nat.one_ne_zero, Nat.zero_ne_one, r3_0, r3_1, r3_2, r3_3, r3_4, r3_5, r3_7, r3_8, r3_9, r3_10, r3_11, r3_12, r3_13, r3_14, r3_15, r3_16, r3_17, r3_18, r3_6, r3_19, r3_20, r3_21, r3_22, p3, hbig, beq0_f hPz, List.length_map]) | (exfalso; omega)
  have hlast0 : PB.length - 1 < PB.length := by omega
  obtain ⟨hpos, hl12, hst⟩ := rendF_0 h0
  obtain ⟨s0, r0, hts⟩ : ∃ s r, l = s :: r := by
    cases l with
    | nil => simp at hpos
    | cons s r => exact ⟨s, r, rfl⟩
  have g0 : (l.map Str.av).getD 0 [] = s0.av := by rw [hts]; rfl
  have hs0 : scale0 l = s0.scale := by rw [hts]; rfl
  have hpi : (0 : Int) < l.length := by omega
  have hP' : (commonF l).1 = p :: B := by rw [hP, hPB]
  have hfirst := fun k hk hso => @seg_first l h0 p B hP' k hk hso
  have hall := @all_common l p B h0 hP'
  rw [hs0] at hfirst hall
  rw [← hPB] at hall
  have hall := hall (by omega)
  have hA := all_c l PB 0 (fun _ _ a b c d => fr_ok a b c d)
  have hcseg := fun r => csegments_c r s0.scale [p] 0
  have hP1 : (PB.map oneI).take 1 = [p].map oneI := by rw [hPB]; simp
  have gP0 : (PB.map oneI).getD 0 [] = [.val (.int .i64 p)] := by rw [hPB]; rfl
  have gPl := getD_map (f := oneI) (d := []) hlast0
  have hlv : ∀ x, PB.getLast? = some x → x = PB[PB.length - 1] := fun x hx => by
    rw [List.getLast?_eq_getElem?, List.getElem?_eq_getElem hlast0] at hx
    exact (Option.some.inj hx).symm
  simp only [oneI] at gPl
  generalize PB[PB.length - 1] = z at *
  simp only [Str.av] at g0 hcseg
  clear hts hs0 hlast0 hP' hPB hP
  have hw1 : IntKind.i64.wrap ((PB.length : Int) - 1) = ((PB.length - 1 : Nat) : Int) := by rw [wrap_in (by omega) (by omega)]; omega
  have hPi : (0 : Int) < PB.length := by omega
  have hPi1 : (1 : Int) ≤ PB.length := by omega
  have hPl : ((PB.length - 1 : Nat) : Int) < PB.length := by omega
  repeat' first | ((with_reducible (first | refine condD ?_ ?_ | refine condE ?_ ?_ | refine condN ?_ ?_ | refine condI ?_ ?_ | refine condS ?_ ?_)) <;> intro h) | ((with_reducible (first | refine guardD (by with_unfolding_all rfl) ?_ ?_ | refine guardE (by with_unfolding_all rfl) ?_ ?_ | refine guardN (by with_unfolding_all rfl) ?_ ?_ | refine guardI (by with_unfolding_all rfl) ?_ ?_ | refine guardS (by with_unfolding_all rfl) ?_ ?_)) <;> intro h) | ((refine callG hc ?_)) | (with_reducible refine And.intro ?_ ?_; omega) | (simp only [done_eq, done_eq', donet_eq, donet_eq', fin_val, fin_tup, fin_agg, fin_ro, res_one, res_more, rv_t, rv_c, rv_l, AV.tup.injEq, AV.agg.injEq, AV.ro.injEq, List.cons.injEq, int_eq, bool_eq, Int.toNat_natCast, Int.reduceToNat, Int.toNat_zero, Int.toNat_one, Int.reduceLE, Int.reduceLT, Int.reduceBEq, Int.reduceBNe, beq_self_eq_true, bne_self_eq_false, decide_true, decide_false,  Int.reduceNeg, toNat_pred, toNat_succ, List.length_map, cnd_t, cnd_f, grd_tt, grd_u, grd_tf, grd_ft, grd_ff, g_skip, g_ops, g_seq, g_block, g_exit, g_ret, x_c, x_o, x_l, x_b, g_b, g_nil, r_all, o_nil, g_cond, o_guard, o_call, o_callm, o_callt, o_callx, o_callv, lk, ef, o_mv, o_pick, o_bin, o_never, o_eqs, o_eqb, o_un, o_conv, o_load, o_loadr, o_idxr, o_loads, o_fld, o_idx, o_idxs, o_len, o_lens, o_ext, o_nilck, o_slc, o_slcs, o_build, o_minmax, o_mkfn, o_alloc, o_box, o_boxs, o_row, o_rowr, o_mk, o_asg, o_app, o_store, o_stores, o_eqnil, hv, eqAV, ev, view_t, view_c, view_nil, view_fn, look_own, look_box, look_junk, look_val, look_nilsl, look_ro, look_roAt, look_agg, look_tup, look_clo, look_alias, look_ref, look_into, rowOf, cellsOf, argv, vbin, vun, bnd, elemOf, putParts, setAt, zav, ASt.rid, ASt.free, AV.kill, AV.isHome, AV.noLoan, AV.cellOK, Value.oneCell', put_at, mk_at, mk_nil, initSt, true_and, and_true, and_self, implies_true, List.map_cons, List.map_nil, List.forall_mem_cons, List.not_mem_nil, false_implies, List.length_cons, List.length_nil, List.getD_cons_zero, List.getD_cons_succ, List.getD_nil, List.drop_succ_cons, List.drop_zero, List.take_succ_cons, List.take_zero, List.set_cons_zero, List.set_cons_succ, List.all_cons, List.all_nil, Bool.and_true, Bool.true_and, Bool.not_true, Bool.not_false, reduceCtorEq, if_true, if_false, Bool.false_eq_true, ↓reduceIte, Nat.reduceEqDiff, Nat.reduceAdd, Nat.reduceSub, Nat.reduceMul, Nat.reduceLeDiff, Nat.reduceLT, ne_eq, not_false_eq_true, not_true_eq_false, Nat.one_ne_zero, Nat.zero_ne_one, r3_0, r3_1, r3_2, r3_3, r3_4, r3_5, r3_7, r3_8, r3_9, r3_10, r3_11, r3_12, r3_13, r3_14, r3_15, r3_16, r3_17, r3_18, r3_6, r3_19, r3_20, r3_21, r3_22, p3, hbig, beq0_f hPz, List.length_map]) | (exfalso; omega)
  refine loopS (fun k : Nat => mk [(0, .ro (l.map Str.av)), (3, .ro (PB.map oneI)), (5, .val (.int .i64 k))]) (fun k => k ≤ l.length ∧ ∀ i (h : i < k) (h' : i < l.length), l[i].sound = false ∧ (segF l[i] s0.scale [p] 0).2 = 0) (fun k => l.length - k) 0 (weak_mk ?_) ⟨Nat.zero_le _, fun i h => by omega⟩ ?_
  · simp only [wk_cons, wk_nil, wk1, vint_eq, vbool_eq, AV.val.injEq, done_eq, done_eq', donet_eq, donet_eq', fin_val, fin_tup, fin_agg, fin_ro, res_one, res_more, rv_t, rv_c, rv_l, AV.tup.injEq, AV.agg.injEq, AV.ro.injEq, List.cons.injEq, int_eq, bool_eq, Int.toNat_natCast, Int.reduceToNat, Int.toNat_zero, Int.toNat_one, Int.reduceLE, Int.reduceLT, Int.reduceBEq, Int.reduceBNe, beq_self_eq_true, bne_self_eq_false, decide_true, decide_false,  Int.reduceNeg, toNat_pred, toNat_succ, List.length_map, cnd_t, cnd_f, grd_tt, grd_u, grd_tf, grd_ft, grd_ff, g_skip, g_ops, g_seq, g_block, g_exit, g_ret, x_c, x_o, x_l, x_b, g_b, g_nil, r_all, o_nil, g_cond, o_guard, o_call, o_callm, o_callt, o_callx, o_callv, lk, ef, o_mv, o_pick, o_bin, o_never, o_eqs, o_eqb, o_un, o_conv, o_load, o_loadr, o_idxr, o_loads, o_fld, o_idx, o_idxs, o_len, o_lens, o_ext, o_nilck, o_slc, o_slcs, o_build, o_minmax, o_mkfn, o_alloc, o_box, o_boxs, o_row, o_rowr, o_mk, o_asg, o_app, o_store, o_stores, o_eqnil, hv, eqAV, ev, view_t, view_c, view_nil, view_fn, look_own, look_box, look_junk, look_val, look_nilsl, look_ro, look_roAt, look_agg, look_tup, look_clo, look_alias, look_ref, look_into, rowOf, cellsOf, argv, vbin, vun, bnd, elemOf, putParts, setAt, zav, ASt.rid, ASt.free, AV.kill, AV.isHome, AV.noLoan, AV.cellOK, Value.oneCell', put_at, mk_at, mk_nil, initSt, true_and, and_true, and_self, implies_true, List.map_cons, List.map_nil, List.forall_mem_cons, List.not_mem_nil, false_implies, List.length_cons, List.length_nil, List.getD_cons_zero, List.getD_cons_succ, List.getD_nil, List.drop_succ_cons, List.drop_zero, List.take_succ_cons, List.take_zero, List.set_cons_zero, List.set_cons_succ, List.all_cons, List.all_nil, Bool.and_true, Bool.true_and, Bool.not_true, Bool.not_false, reduceCtorEq, if_true, if_false, Bool.false_eq_true, ↓reduceIte, Nat.reduceEqDiff, Nat.reduceAdd, Nat.reduceSub, Nat.reduceMul, Nat.reduceLeDiff, Nat.reduceLT, ne_eq, not_false_eq_true, not_true_eq_false, Nat.one_ne_zero, Nat.zero_ne_one]
    simp
  rintro J hJ k ⟨hk, hinv⟩
  simp only [done_eq, done_eq', donet_eq, donet_eq', fin_val, fin_tup, fin_agg, fin_ro, res_one, res_more, rv_t, rv_c, rv_l, AV.tup.injEq, AV.agg.injEq, AV.ro.injEq, List.cons.injEq, int_eq, bool_eq, Int.toNat_natCast, Int.reduceToNat, Int.toNat_zero, Int.toNat_one, Int.reduceLE, Int.reduceLT, Int.reduceBEq, Int.reduceBNe, beq_self_eq_true, bne_self_eq_false, decide_true, decide_false,  Int.reduceNeg, toNat_pred, toNat_succ, List.length_map, cnd_t, cnd_f, grd_tt, grd_u, grd_tf, grd_ft, grd_ff, g_skip, g_ops, g_seq, g_block, g_exit, g_ret, x_c, x_o, x_l, x_b, g_b, g_nil, r_all, o_nil, g_cond, o_guard, o_call, o_callm, o_callt, o_callx, o_callv, lk, ef, o_mv, o_pick, o_bin, o_never, o_eqs, o_eqb, o_un, o_conv, o_load, o_loadr, o_idxr, o_loads, o_fld, o_idx, o_idxs, o_len, o_lens, o_ext, o_nilck, o_slc, o_slcs, o_build, o_minmax, o_mkfn, o_alloc, o_box, o_boxs, o_row, o_rowr, o_mk, o_asg, o_app, o_store, o_stores, o_eqnil, hv, eqAV, ev, view_t, view_c, view_nil, view_fn, look_own, look_box, look_junk, look_val, look_nilsl, look_ro, look_roAt, look_agg, look_tup, look_clo, look_alias, look_ref, look_into, rowOf, cellsOf, argv, vbin, vun, bnd, elemOf, putParts, setAt, zav, ASt.rid, ASt.free, AV.kill, AV.isHome, AV.noLoan, AV.cellOK, Value.oneCell', put_at, mk_at, mk_nil, initSt, true_and, and_true, and_self, implies_true, List.map_cons, List.map_nil, List.forall_mem_cons, List.not_mem_nil, false_implies, List.length_cons, List.length_nil, List.getD_cons_zero, List.getD_cons_succ, List.getD_nil, List.drop_succ_cons, List.drop_zero, List.take_succ_cons, List.take_zero, List.set_cons_zero, List.set_cons_succ, List.all_cons, List.all_nil, Bool.and_true, Bool.true_and, Bool.not_true, Bool.not_false, reduceCtorEq, if_true, if_false, Bool.false_eq_true, ↓reduceIte, Nat.reduceEqDiff, Nat.reduceAdd, Nat.reduceSub, Nat.reduceMul, Nat.reduceLeDiff, Nat.reduceLT, ne_eq, not_false_eq_true, not_true_eq_false, Nat.one_ne_zero, Nat.zero_ne_one, r3_0, r3_1, r3_2, r3_3, r3_4, r3_5, r3_7, r3_8, r3_9, r3_10, r3_11, r3_12, r3_13, r3_14, r3_15, r3_16, r3_17, r3_18, r3_6, r3_19, r3_20, r3_21, r3_22, p3, l3_0, List.length_map]
  refine condD (fun h => ?_) (fun h => ?_)
  · have hlt : k < l.length := by omega
    have hw := i_add1 k (by omega)
    have gK := getD_map (f := Str.av) (d := []) hlt
    have hr := hst k hlt
    have hok := strF_ok hr
    have hs2 := strF2_0 hr
    have hf := hfirst k hlt
    have hCP := cplaces_c l[k]
    have hCS := hcseg l[k]
    rw [show placesF l[k] = ((placesL l[k].smps).map Prod.fst, 0) from if_neg (by simp [hs2])] at hCP
    rw [show segmF l[k] s0.scale [p] 0 = segF l[k] s0.scale [p] 0 from if_neg (by simp [hs2])] at hCS
    have hstep : ∀ (a : l[k].sound = false) (b : (segF l[k] s0.scale [p] 0).2 = 0), ∀ i (h : i < k + 1) (h' : i < l.length), l[i].sound = false ∧ (segF l[i] s0.scale [p] 0).2 = 0 := by
      intro a b i h h'
      by_cases q : i < k
      · exact hinv i q h'
      · have : i = k := by omega
        subst this
        exact ⟨a, b⟩
    have hsm := hok.2.1
    clear hok hr hs2 hinv
    generalize l[k] = r at *
    simp only [Str.av] at gK hCP hCS
    have gX := getD_map (f := Smp.av) (d := []) hsm
    simp only [Smp.av] at gX
    have hsmi : (0 : Int) < r.smps.length := by omega
    by_cases hso : r.sound = true
    · repeat' first | ((with_reducible (first | refine condD ?_ ?_ | refine condE ?_ ?_ | refine condN ?_ ?_ | refine condI ?_ ?_ | refine condS ?_ ?_)) <;> intro h) | ((with_reducible (first | refine guardD (by with_unfolding_all rfl) ?_ ?_ | refine guardE (by with_unfolding_all rfl) ?_ ?_ | refine guardN (by with_unfolding_all rfl) ?_ ?_ | refine guardI (by with_unfolding_all rfl) ?_ ?_ | refine guardS (by with_unfolding_all rfl) ?_ ?_)) <;> intro h) | ((refine callG awake_c ?_)) | (with_reducible refine And.intro ?_ ?_; omega) | (simp only [done_eq, done_eq', donet_eq, donet_eq', fin_val, fin_tup, fin_agg, fin_ro, res_one, res_more, rv_t, rv_c, rv_l, AV.tup.injEq, AV.agg.injEq, AV.ro.injEq, List.cons.injEq, int_eq, bool_eq, Int.toNat_natCast, Int.reduceToNat, Int.toNat_zero, Int.toNat_one, Int.reduceLE, Int.reduceLT, Int.reduceBEq, Int.reduceBNe, beq_self_eq_true, bne_self_eq_false, decide_true, decide_false,  Int.reduceNeg, toNat_pred, toNat_succ, List.length_map, cnd_t, cnd_f, grd_tt, grd_u, grd_tf, grd_ft, grd_ff, g_skip, g_ops, g_seq, g_block, g_exit, g_ret, x_c, x_o, x_l, x_b, g_b, g_nil, r_all, o_nil, g_cond, o_guard, o_call, o_callm, o_callt, o_callx, o_callv, lk, ef, o_mv, o_pick, o_bin, o_never, o_eqs, o_eqb, o_un, o_conv, o_load, o_loadr, o_idxr, o_loads, o_fld, o_idx, o_idxs, o_len, o_lens, o_ext, o_nilck, o_slc, o_slcs, o_build, o_minmax, o_mkfn, o_alloc, o_box, o_boxs, o_row, o_rowr, o_mk, o_asg, o_app, o_store, o_stores, o_eqnil, hv, eqAV, ev, view_t, view_c, view_nil, view_fn, look_own, look_box, look_junk, look_val, look_nilsl, look_ro, look_roAt, look_agg, look_tup, look_clo, look_alias, look_ref, look_into, rowOf, cellsOf, argv, vbin, vun, bnd, elemOf, putParts, setAt, zav, ASt.rid, ASt.free, AV.kill, AV.isHome, AV.noLoan, AV.cellOK, Value.oneCell', put_at, mk_at, mk_nil, initSt, true_and, and_true, and_self, implies_true, List.map_cons, List.map_nil, List.forall_mem_cons, List.not_mem_nil, false_implies, List.length_cons, List.length_nil, List.getD_cons_zero, List.getD_cons_succ, List.getD_nil, List.drop_succ_cons, List.drop_zero, List.take_succ_cons, List.take_zero, List.set_cons_zero, List.set_cons_succ, List.all_cons, List.all_nil, Bool.and_true, Bool.true_and, Bool.not_true, Bool.not_false, reduceCtorEq, if_true, if_false, Bool.false_eq_true, ↓reduceIte, Nat.reduceEqDiff, Nat.reduceAdd, Nat.reduceSub, Nat.reduceMul, Nat.reduceLeDiff, Nat.reduceLT, ne_eq, not_false_eq_true, not_true_eq_false, Nat.one_ne_zero, Nat.zero_ne_one, r3_0, r3_1, r3_2, r3_3, r3_4, r3_5, r3_7, r3_8, r3_9, r3_10, r3_11, r3_12, r3_13, r3_14, r3_15, r3_16, r3_17, r3_18, r3_6, r3_19, r3_20, r3_21, r3_22, p3, l3_0, gK, gX, hsmi, hso, List.length_map]) | (exfalso; omega)
    rw [Bool.not_eq_true] at hso
    rw [hso] at gK hCP hCS
    generalize hv0 : IntKind.i64.wrap (r.smps[0].time + r.smps[0].shift) = v at *
    by_cases c1 : v < -1000000000000000
    · repeat' first | ((with_reducible (first | refine condD ?_ ?_ | refine condE ?_ ?_ | refine condN ?_ ?_ | refine condI ?_ ?_ | refine condS ?_ ?_)) <;> intro h) | ((with_reducible (first | refine guardD (by with_unfolding_all rfl) ?_ ?_ | refine guardE (by with_unfolding_all rfl) ?_ ?_ | refine guardN (by with_unfolding_all rfl) ?_ ?_ | refine guardI (by with_unfolding_all rfl) ?_ ?_ | refine guardS (by with_unfolding_all rfl) ?_ ?_)) <;> intro h) | ((refine callG awake_c ?_)) | (with_reducible refine And.intro ?_ ?_; omega) | (simp only [done_eq, done_eq', donet_eq, donet_eq', fin_val, fin_tup, fin_agg, fin_ro, res_one, res_more, rv_t, rv_c, rv_l, AV.tup.injEq, AV.agg.injEq, AV.ro.injEq, List.cons.injEq, int_eq, bool_eq, Int.toNat_natCast, Int.reduceToNat, Int.toNat_zero, Int.toNat_one, Int.reduceLE, Int.reduceLT, Int.reduceBEq, Int.reduceBNe, beq_self_eq_true, bne_self_eq_false, decide_true, decide_false,  Int.reduceNeg, toNat_pred, toNat_succ, List.length_map, cnd_t, cnd_f, grd_tt, grd_u, grd_tf, grd_ft, grd_ff, g_skip, g_ops, g_seq, g_block, g_exit, g_ret, x_c, x_o, x_l, x_b, g_b, g_nil, r_all, o_nil, g_cond, o_guard, o_call, o_callm, o_callt, o_callx, o_callv, lk, ef, o_mv, o_pick, o_bin, o_never, o_eqs, o_eqb, o_un, o_conv, o_load, o_loadr, o_idxr, o_loads, o_fld, o_idx, o_idxs, o_len, o_lens, o_ext, o_nilck, o_slc, o_slcs, o_build, o_minmax, o_mkfn, o_alloc, o_box, o_boxs, o_row, o_rowr, o_mk, o_asg, o_app, o_store, o_stores, o_eqnil, hv, eqAV, ev, view_t, view_c, view_nil, view_fn, look_own, look_box, look_junk, look_val, look_nilsl, look_ro, look_roAt, look_agg, look_tup, look_clo, look_alias, look_ref, look_into, rowOf, cellsOf, argv, vbin, vun, bnd, elemOf, putParts, setAt, zav, ASt.rid, ASt.free, AV.kill, AV.isHome, AV.noLoan, AV.cellOK, Value.oneCell', put_at, mk_at, mk_nil, initSt, true_and, and_true, and_self, implies_true, List.map_cons, List.map_nil, List.forall_mem_cons, List.not_mem_nil, false_implies, List.length_cons, List.length_nil, List.getD_cons_zero, List.getD_cons_succ, List.getD_nil, List.drop_succ_cons, List.drop_zero, List.take_succ_cons, List.take_zero, List.set_cons_zero, List.set_cons_succ, List.all_cons, List.all_nil, Bool.and_true, Bool.true_and, Bool.not_true, Bool.not_false, reduceCtorEq, if_true, if_false, Bool.false_eq_true, ↓reduceIte, Nat.reduceEqDiff, Nat.reduceAdd, Nat.reduceSub, Nat.reduceMul, Nat.reduceLeDiff, Nat.reduceLT, ne_eq, not_false_eq_true, not_true_eq_false, Nat.one_ne_zero, Nat.zero_ne_one, r3_0, r3_1, r3_2, r3_3, r3_4, r3_5, r3_7, r3_8, r3_9, r3_10, r3_11, r3_12, r3_13, r3_14, r3_15, r3_16, r3_17, r3_18, r3_6, r3_19, r3_20, r3_21, r3_22, p3, l3_0, gK, gX, hsmi, hso, hv0, c1, List.length_map]) | (exfalso; omega)
    by_cases c2 : 1000000000000000 < v
    · repeat' first | ((with_reducible (first | refine condD ?_ ?_ | refine condE ?_ ?_ | refine condN ?_ ?_ | refine condI ?_ ?_ | refine condS ?_ ?_)) <;> intro h) | ((with_reducible (first | refine guardD (by with_unfolding_all rfl) ?_ ?_ | refine guardE (by with_unfolding_all rfl) ?_ ?_ | refine guardN (by with_unfolding_all rfl) ?_ ?_ | refine guardI (by with_unfolding_all rfl) ?_ ?_ | refine guardS (by with_unfolding_all rfl) ?_ ?_)) <;> intro h) | ((refine callG awake_c ?_)) | (with_reducible refine And.intro ?_ ?_; omega) | (simp only [done_eq, done_eq', donet_eq, donet_eq', fin_val, fin_tup, fin_agg, fin_ro, res_one, res_more, rv_t, rv_c, rv_l, AV.tup.injEq, AV.agg.injEq, AV.ro.injEq, List.cons.injEq, int_eq, bool_eq, Int.toNat_natCast, Int.reduceToNat, Int.toNat_zero, Int.toNat_one, Int.reduceLE, Int.reduceLT, Int.reduceBEq, Int.reduceBNe, beq_self_eq_true, bne_self_eq_false, decide_true, decide_false,  Int.reduceNeg, toNat_pred, toNat_succ, List.length_map, cnd_t, cnd_f, grd_tt, grd_u, grd_tf, grd_ft, grd_ff, g_skip, g_ops, g_seq, g_block, g_exit, g_ret, x_c, x_o, x_l, x_b, g_b, g_nil, r_all, o_nil, g_cond, o_guard, o_call, o_callm, o_callt, o_callx, o_callv, lk, ef, o_mv, o_pick, o_bin, o_never, o_eqs, o_eqb, o_un, o_conv, o_load, o_loadr, o_idxr, o_loads, o_fld, o_idx, o_idxs, o_len, o_lens, o_ext, o_nilck, o_slc, o_slcs, o_build, o_minmax, o_mkfn, o_alloc, o_box, o_boxs, o_row, o_rowr, o_mk, o_asg, o_app, o_store, o_stores, o_eqnil, hv, eqAV, ev, view_t, view_c, view_nil, view_fn, look_own, look_box, look_junk, look_val, look_nilsl, look_ro, look_roAt, look_agg, look_tup, look_clo, look_alias, look_ref, look_into, rowOf, cellsOf, argv, vbin, vun, bnd, elemOf, putParts, setAt, zav, ASt.rid, ASt.free, AV.kill, AV.isHome, AV.noLoan, AV.cellOK, Value.oneCell', put_at, mk_at, mk_nil, initSt, true_and, and_true, and_self, implies_true, List.map_cons, List.map_nil, List.forall_mem_cons, List.not_mem_nil, false_implies, List.length_cons, List.length_nil, List.getD_cons_zero, List.getD_cons_succ, List.getD_nil, List.drop_succ_cons, List.drop_zero, List.take_succ_cons, List.take_zero, List.set_cons_zero, List.set_cons_succ, List.all_cons, List.all_nil, Bool.and_true, Bool.true_and, Bool.not_true, Bool.not_false, reduceCtorEq, if_true, if_false, Bool.false_eq_true, ↓reduceIte, Nat.reduceEqDiff, Nat.reduceAdd, Nat.reduceSub, Nat.reduceMul, Nat.reduceLeDiff, Nat.reduceLT, ne_eq, not_false_eq_true, not_true_eq_false, Nat.one_ne_zero, Nat.zero_ne_one, r3_0, r3_1, r3_2, r3_3, r3_4, r3_5, r3_7, r3_8, r3_9, r3_10, r3_11, r3_12, r3_13, r3_14, r3_15, r3_16, r3_17, r3_18, r3_6, r3_19, r3_20, r3_21, r3_22, p3, l3_0, gK, gX, hsmi, hso, hv0, c1, c2, List.length_map]) | (exfalso; omega)
    obtain ⟨hne, hf⟩ := hf hso
    have hstep := hstep hso
    obtain ⟨q, Q, hQ⟩ : ∃ q Q, placesL r.smps = q :: Q := by
      cases hz : placesL r.smps with
      | nil => exact absurd hz hne
      | cons q Q => exact ⟨q, Q, rfl⟩
    rw [hQ] at hCP
    have gQ : ((((q :: Q).map Prod.fst)).map oneI).getD 0 [] = [.val (.int .i64 q.1)] := rfl
    have hQz : ¬ ((q :: Q).length : Int) = 0 := by rw [List.length_cons]; omega
    have hQi : (0 : Int) < (q :: Q).length := by rw [List.length_cons]; omega
    have hQn : 0 < (q :: Q).length := by simp
    generalize q :: Q = QQ at *
    by_cases c3 : q.1 = v
    case neg =>
      have c3' : (q.1 != v) = true := by simpa using c3
      repeat' first | ((with_reducible (first | refine condD ?_ ?_ | refine condE ?_ ?_ | refine condN ?_ ?_ | refine condI ?_ ?_ | refine condS ?_ ?_)) <;> intro h) | ((with_reducible (first | refine guardD (by with_unfolding_all rfl) ?_ ?_ | refine guardE (by with_unfolding_all rfl) ?_ ?_ | refine guardN (by with_unfolding_all rfl) ?_ ?_ | refine guardI (by with_unfolding_all rfl) ?_ ?_ | refine guardS (by with_unfolding_all rfl) ?_ ?_)) <;> intro h) | ((refine callG hCP ?_)) | ((refine callG awake_c ?_)) | (with_reducible refine And.intro ?_ ?_; omega) | (simp only [done_eq, done_eq', donet_eq, donet_eq', fin_val, fin_tup, fin_agg, fin_ro, res_one, res_more, rv_t, rv_c, rv_l, AV.tup.injEq, AV.agg.injEq, AV.ro.injEq, List.cons.injEq, int_eq, bool_eq, Int.toNat_natCast, Int.reduceToNat, Int.toNat_zero, Int.toNat_one, Int.reduceLE, Int.reduceLT, Int.reduceBEq, Int.reduceBNe, beq_self_eq_true, bne_self_eq_false, decide_true, decide_false,  Int.reduceNeg, toNat_pred, toNat_succ, List.length_map, cnd_t, cnd_f, grd_tt, grd_u, grd_tf, grd_ft, grd_ff, g_skip, g_ops, g_seq, g_block, g_exit, g_ret, x_c, x_o, x_l, x_b, g_b, g_nil, r_all, o_nil, g_cond, o_guard, o_call, o_callm, o_callt, o_callx, o_callv, lk, ef, o_mv, o_pick, o_bin, o_never, o_eqs, o_eqb, o_un, o_conv, o_load, o_loadr, o_idxr, o_loads, o_fld, o_idx, o_idxs, o_len, o_lens, o_ext, o_nilck, o_slc, o_slcs, o_build, o_minmax, o_mkfn, o_alloc, o_box, o_boxs, o_row, o_rowr, o_mk, o_asg, o_app, o_store, o_stores, o_eqnil, hv, eqAV, ev, view_t, view_c, view_nil, view_fn, look_own, look_box, look_junk, look_val, look_nilsl, look_ro, look_roAt, look_agg, look_tup, look_clo, look_alias, look_ref, look_into, rowOf, cellsOf, argv, vbin, vun, bnd, elemOf, putParts, setAt, zav, ASt.rid, ASt.free, AV.kill, AV.isHome, AV.noLoan, AV.cellOK, Value.oneCell', put_at, mk_at, mk_nil, initSt, true_and, and_true, and_self, implies_true, List.map_cons, List.map_nil, List.forall_mem_cons, List.not_mem_nil, false_implies, List.length_cons, List.length_nil, List.getD_cons_zero, List.getD_cons_succ, List.getD_nil, List.drop_succ_cons, List.drop_zero, List.take_succ_cons, List.take_zero, List.set_cons_zero, List.set_cons_succ, List.all_cons, List.all_nil, Bool.and_true, Bool.true_and, Bool.not_true, Bool.not_false, reduceCtorEq, if_true, if_false, Bool.false_eq_true, ↓reduceIte, Nat.reduceEqDiff, Nat.reduceAdd, Nat.reduceSub, Nat.reduceMul, Nat.reduceLeDiff, Nat.reduceLT, ne_eq, not_false_eq_true, not_true_eq_false, Nat.one_ne_zero, Nat.zero_ne_one, r3_0, r3_1, r3_2, r3_3, r3_4, r3_5, r3_7, r3_8, r3_9, r3_10, r3_11, r3_12, r3_13, r3_14, r3_15, r3_16, r3_17, r3_18, r3_6, r3_19, r3_20, r3_21, r3_22, p3, l3_0, gK, gX, gQ, hQi, hQn, beq0_f hQz, hsmi, hso, hv0, c1, c2, c3', List.length_map]) | (exfalso; omega)
    have c3' : (q.1 != v) = false := by simp [c3]
    generalize segF r s0.scale [p] 0 = G at *
    rcases hf with ⟨e0, e1, e2⟩ | e | e
    · rw [e0] at hCS
      have hG0 : 0 < G.1.length := by omega
      have gG := getD_map (f := Seg.av) (d := []) hG0
      simp only [Seg.av, e2 hG0] at gG
      have hGi : (0 : Int) < G.1.length := by omega
      repeat' first | ((with_reducible (first | refine condD ?_ ?_ | refine condE ?_ ?_ | refine condN ?_ ?_ | refine condI ?_ ?_ | refine condS ?_ ?_)) <;> intro h) | ((with_reducible (first | refine guardD (by with_unfolding_all rfl) ?_ ?_ | refine guardE (by with_unfolding_all rfl) ?_ ?_ | refine guardN (by with_unfolding_all rfl) ?_ ?_ | refine guardI (by with_unfolding_all rfl) ?_ ?_ | refine guardS (by with_unfolding_all rfl) ?_ ?_)) <;> intro h) | ((refine callG hCP ?_)) | ((refine callG hCS ?_)) | ((refine callG awake_c ?_)) | (with_reducible refine And.intro ?_ ?_; omega) | (simp only [done_eq, done_eq', donet_eq, donet_eq', fin_val, fin_tup, fin_agg, fin_ro, res_one, res_more, rv_t, rv_c, rv_l, AV.tup.injEq, AV.agg.injEq, AV.ro.injEq, List.cons.injEq, int_eq, bool_eq, Int.toNat_natCast, Int.reduceToNat, Int.toNat_zero, Int.toNat_one, Int.reduceLE, Int.reduceLT, Int.reduceBEq, Int.reduceBNe, beq_self_eq_true, bne_self_eq_false, decide_true, decide_false,  Int.reduceNeg, toNat_pred, toNat_succ, List.length_map, cnd_t, cnd_f, grd_tt, grd_u, grd_tf, grd_ft, grd_ff, g_skip, g_ops, g_seq, g_block, g_exit, g_ret, x_c, x_o, x_l, x_b, g_b, g_nil, r_all, o_nil, g_cond, o_guard, o_call, o_callm, o_callt, o_callx, o_callv, lk, ef, o_mv, o_pick, o_bin, o_never, o_eqs, o_eqb, o_un, o_conv, o_load, o_loadr, o_idxr, o_loads, o_fld, o_idx, o_idxs, o_len, o_lens, o_ext, o_nilck, o_slc, o_slcs, o_build, o_minmax, o_mkfn, o_alloc, o_box, o_boxs, o_row, o_rowr, o_mk, o_asg, o_app, o_store, o_stores, o_eqnil, hv, eqAV, ev, view_t, view_c, view_nil, view_fn, look_own, look_box, look_junk, look_val, look_nilsl, look_ro, look_roAt, look_agg, look_tup, look_clo, look_alias, look_ref, look_into, rowOf, cellsOf, argv, vbin, vun, bnd, elemOf, putParts, setAt, zav, ASt.rid, ASt.free, AV.kill, AV.isHome, AV.noLoan, AV.cellOK, Value.oneCell', put_at, mk_at, mk_nil, initSt, true_and, and_true, and_self, implies_true, List.map_cons, List.map_nil, List.forall_mem_cons, List.not_mem_nil, false_implies, List.length_cons, List.length_nil, List.getD_cons_zero, List.getD_cons_succ, List.getD_nil, List.drop_succ_cons, List.drop_zero, List.take_succ_cons, List.take_zero, List.set_cons_zero, List.set_cons_succ, List.all_cons, List.all_nil, Bool.and_true, Bool.true_and, Bool.not_true, Bool.not_false, reduceCtorEq, if_true, if_false, Bool.false_eq_true, ↓reduceIte, Nat.reduceEqDiff, Nat.reduceAdd, Nat.reduceSub, Nat.reduceMul, Nat.reduceLeDiff, Nat.reduceLT, ne_eq, not_false_eq_true, not_true_eq_false, Nat.one_ne_zero, Nat.zero_ne_one, r3_0, r3_1, r3_2, r3_3, r3_4, r3_5, r3_7, r3_8, r3_9, r3_10, r3_11, r3_12, r3_13, r3_14, r3_15, r3_16, r3_17, r3_18, r3_6, r3_19, r3_20, r3_21, r3_22, p3, l3_0, gK, gX, gQ, gG, ones_len', hPp, g0, hpi, hpos, hGi, hG0, hP1, hQi, hQn, beq0_f hQz, hsmi, hso, hv0, c1, c2, c3', List.length_map]) | (exfalso; omega)
      all_goals first | omega | exact again hJ (k + 1) (weak_mk (by simp only [wk_cons, wk_nil, wk1, vint_eq, vbool_eq, AV.val.injEq, done_eq, done_eq', donet_eq, donet_eq', fin_val, fin_tup, fin_agg, fin_ro, res_one, res_more, rv_t, rv_c, rv_l, AV.tup.injEq, AV.agg.injEq, AV.ro.injEq, List.cons.injEq, int_eq, bool_eq, Int.toNat_natCast, Int.reduceToNat, Int.toNat_zero, Int.toNat_one, Int.reduceLE, Int.reduceLT, Int.reduceBEq, Int.reduceBNe, beq_self_eq_true, bne_self_eq_false, decide_true, decide_false,  Int.reduceNeg, toNat_pred, toNat_succ, List.length_map, cnd_t, cnd_f, grd_tt, grd_u, grd_tf, grd_ft, grd_ff, g_skip, g_ops, g_seq, g_block, g_exit, g_ret, x_c, x_o, x_l, x_b, g_b, g_nil, r_all, o_nil, g_cond, o_guard, o_call, o_callm, o_callt, o_callx, o_callv, lk, ef, o_mv, o_pick, o_bin, o_never, o_eqs, o_eqb, o_un, o_conv, o_load, o_loadr, o_idxr, o_loads, o_fld, o_idx, o_idxs, o_len, o_lens, o_ext, o_nilck, o_slc, o_slcs, o_build, o_minmax, o_mkfn, o_alloc, o_box, o_boxs, o_row, o_rowr, o_mk, o_asg, o_app, o_store, o_stores, o_eqnil, hv, eqAV, ev, view_t, view_c, view_nil, view_fn, look_own, look_box, look_junk, look_val, look_nilsl, look_ro, look_roAt, look_agg, look_tup, look_clo, look_alias, look_ref, look_into, rowOf, cellsOf, argv, vbin, vun, bnd, elemOf, putParts, setAt, zav, ASt.rid, ASt.free, AV.kill, AV.isHome, AV.noLoan, AV.cellOK, Value.oneCell', put_at, mk_at, mk_nil, initSt, true_and, and_true, and_self, implies_true, List.map_cons, List.map_nil, List.forall_mem_cons, List.not_mem_nil, false_implies, List.length_cons, List.length_nil, List.getD_cons_zero, List.getD_cons_succ, List.getD_nil, List.drop_succ_cons, List.drop_zero, List.take_succ_cons, List.take_zero, List.set_cons_zero, List.set_cons_succ, List.all_cons, List.all_nil, Bool.and_true, Bool.true_and, Bool.not_true, Bool.not_false, reduceCtorEq, if_true, if_false, Bool.false_eq_true, ↓reduceIte, Nat.reduceEqDiff, Nat.reduceAdd, Nat.reduceSub, Nat.reduceMul, Nat.reduceLeDiff, Nat.reduceLT, ne_eq, not_false_eq_true, not_true_eq_false, Nat.one_ne_zero, Nat.zero_ne_one]; exact hw)) ⟨by omega, hstep e0⟩ (by omega)
    · rw [e] at hCS
      have hq1 : ((1 : Int) != 0) = true := by decide
      repeat' first | ((with_reducible (first | refine condD ?_ ?_ | refine condE ?_ ?_ | refine condN ?_ ?_ | refine condI ?_ ?_ | refine condS ?_ ?_)) <;> intro h) | ((with_reducible (first | refine guardD (by with_unfolding_all rfl) ?_ ?_ | refine guardE (by with_unfolding_all rfl) ?_ ?_ | refine guardN (by with_unfolding_all rfl) ?_ ?_ | refine guardI (by with_unfolding_all rfl) ?_ ?_ | refine guardS (by with_unfolding_all rfl) ?_ ?_)) <;> intro h) | ((refine callG hCP ?_)) | ((refine callG hCS ?_)) | ((refine callG awake_c ?_)) | (with_reducible refine And.intro ?_ ?_; omega) | (simp only [done_eq, done_eq', donet_eq, donet_eq', fin_val, fin_tup, fin_agg, fin_ro, res_one, res_more, rv_t, rv_c, rv_l, AV.tup.injEq, AV.agg.injEq, AV.ro.injEq, List.cons.injEq, int_eq, bool_eq, Int.toNat_natCast, Int.reduceToNat, Int.toNat_zero, Int.toNat_one, Int.reduceLE, Int.reduceLT, Int.reduceBEq, Int.reduceBNe, beq_self_eq_true, bne_self_eq_false, decide_true, decide_false,  Int.reduceNeg, toNat_pred, toNat_succ, List.length_map, cnd_t, cnd_f, grd_tt, grd_u, grd_tf, grd_ft, grd_ff, g_skip, g_ops, g_seq, g_block, g_exit, g_ret, x_c, x_o, x_l, x_b, g_b, g_nil, r_all, o_nil, g_cond, o_guard, o_call, o_callm, o_callt, o_callx, o_callv, lk, ef, o_mv, o_pick, o_bin, o_never, o_eqs, o_eqb, o_un, o_conv, o_load, o_loadr, o_idxr, o_loads, o_fld, o_idx, o_idxs, o_len, o_lens, o_ext, o_nilck, o_slc, o_slcs, o_build, o_minmax, o_mkfn, o_alloc, o_box, o_boxs, o_row, o_rowr, o_mk, o_asg, o_app, o_store, o_stores, o_eqnil, hv, eqAV, ev, view_t, view_c, view_nil, view_fn, look_own, look_box, look_junk, look_val, look_nilsl, look_ro, look_roAt, look_agg, look_tup, look_clo, look_alias, look_ref, look_into, rowOf, cellsOf, argv, vbin, vun, bnd, elemOf, putParts, setAt, zav, ASt.rid, ASt.free, AV.kill, AV.isHome, AV.noLoan, AV.cellOK, Value.oneCell', put_at, mk_at, mk_nil, initSt, true_and, and_true, and_self, implies_true, List.map_cons, List.map_nil, List.forall_mem_cons, List.not_mem_nil, false_implies, List.length_cons, List.length_nil, List.getD_cons_zero, List.getD_cons_succ, List.getD_nil, List.drop_succ_cons, List.drop_zero, List.take_succ_cons, List.take_zero, List.set_cons_zero, List.set_cons_succ, List.all_cons, List.all_nil, Bool.and_true, Bool.true_and, Bool.not_true, Bool.not_false, reduceCtorEq, if_true, if_false, Bool.false_eq_true, ↓reduceIte, Nat.reduceEqDiff, Nat.reduceAdd, Nat.reduceSub, Nat.reduceMul, Nat.reduceLeDiff, Nat.reduceLT, ne_eq, not_false_eq_true, not_true_eq_false, Nat.one_ne_zero, Nat.zero_ne_one, r3_0, r3_1, r3_2, r3_3, r3_4, r3_5, r3_7, r3_8, r3_9, r3_10, r3_11, r3_12, r3_13, r3_14, r3_15, r3_16, r3_17, r3_18, r3_6, r3_19, r3_20, r3_21, r3_22, p3, l3_0, gK, gX, gQ, ones_len', hPp, g0, hpi, hpos, hP1, hq1, hQi, hQn, beq0_f hQz, hsmi, hso, hv0, c1, c2, c3', List.length_map]) | (exfalso; omega)
    · rw [e] at hCS
      have hq1 : ((3 : Int) != 0) = true := by decide
      repeat' first | ((with_reducible (first | refine condD ?_ ?_ | refine condE ?_ ?_ | refine condN ?_ ?_ | refine condI ?_ ?_ | refine condS ?_ ?_)) <;> intro h) | ((with_reducible (first | refine guardD (by with_unfolding_all rfl) ?_ ?_ | refine guardE (by with_unfolding_all rfl) ?_ ?_ | refine guardN (by with_unfolding_all rfl) ?_ ?_ | refine guardI (by with_unfolding_all rfl) ?_ ?_ | refine guardS (by with_unfolding_all rfl) ?_ ?_)) <;> intro h) | ((refine callG hCP ?_)) | ((refine callG hCS ?_)) | ((refine callG awake_c ?_)) | (with_reducible refine And.intro ?_ ?_; omega) | (simp only [done_eq, done_eq', donet_eq, donet_eq', fin_val, fin_tup, fin_agg, fin_ro, res_one, res_more, rv_t, rv_c, rv_l, AV.tup.injEq, AV.agg.injEq, AV.ro.injEq, List.cons.injEq, int_eq, bool_eq, Int.toNat_natCast, Int.reduceToNat, Int.toNat_zero, Int.toNat_one, Int.reduceLE, Int.reduceLT, Int.reduceBEq, Int.reduceBNe, beq_self_eq_true, bne_self_eq_false, decide_true, decide_false,  Int.reduceNeg, toNat_pred, toNat_succ, List.length_map, cnd_t, cnd_f, grd_tt, grd_u, grd_tf, grd_ft, grd_ff, g_skip, g_ops, g_seq, g_block, g_exit, g_ret, x_c, x_o, x_l, x_b, g_b, g_nil, r_all, o_nil, g_cond, o_guard, o_call, o_callm, o_callt, o_callx, o_callv, lk, ef, o_mv, o_pick, o_bin, o_never, o_eqs, o_eqb, o_un, o_conv, o_load, o_loadr, o_idxr, o_loads, o_fld, o_idx, o_idxs, o_len, o_lens, o_ext, o_nilck, o_slc, o_slcs, o_build, o_minmax, o_mkfn, o_alloc, o_box, o_boxs, o_row, o_rowr, o_mk, o_asg, o_app, o_store, o_stores, o_eqnil, hv, eqAV, ev, view_t, view_c, view_nil, view_fn, look_own, look_box, look_junk, look_val, look_nilsl, look_ro, look_roAt, look_agg, look_tup, look_clo, look_alias, look_ref, look_into, rowOf, cellsOf, argv, vbin, vun, bnd, elemOf, putParts, setAt, zav, ASt.rid, ASt.free, AV.kill, AV.isHome, AV.noLoan, AV.cellOK, Value.oneCell', put_at, mk_at, mk_nil, initSt, true_and, and_true, and_self, implies_true, List.map_cons, List.map_nil, List.forall_mem_cons, List.not_mem_nil, false_implies, List.length_cons, List.length_nil, List.getD_cons_zero, List.getD_cons_succ, List.getD_nil, List.drop_succ_cons, List.drop_zero, List.take_succ_cons, List.take_zero, List.set_cons_zero, List.set_cons_succ, List.all_cons, List.all_nil, Bool.and_true, Bool.true_and, Bool.not_true, Bool.not_false, reduceCtorEq, if_true, if_false, Bool.false_eq_true, ↓reduceIte, Nat.reduceEqDiff, Nat.reduceAdd, Nat.reduceSub, Nat.reduceMul, Nat.reduceLeDiff, Nat.reduceLT, ne_eq, not_false_eq_true, not_true_eq_false, Nat.one_ne_zero, Nat.zero_ne_one, r3_0, r3_1, r3_2, r3_3, r3_4, r3_5, r3_7, r3_8, r3_9, r3_10, r3_11, r3_12, r3_13, r3_14, r3_15, r3_16, r3_17, r3_18, r3_6, r3_19, r3_20, r3_21, r3_22, p3, l3_0, gK, gX, gQ, ones_len', hPp, g0, hpi, hpos, hP1, hq1, hQi, hQn, beq0_f hQz, hsmi, hso, hv0, c1, c2, c3', List.length_map]) | (exfalso; omega)
  · have hke : k = l.length := by omega
    subst hke
    clear hJ
    by_cases c1 : 1000000000000000 < z
    · repeat' first | ((with_reducible (first | refine condD ?_ ?_ | refine condE ?_ ?_ | refine condN ?_ ?_ | refine condI ?_ ?_ | refine condS ?_ ?_)) <;> intro h) | ((with_reducible (first | refine guardD (by with_unfolding_all rfl) ?_ ?_ | refine guardE (by with_unfolding_all rfl) ?_ ?_ | refine guardN (by with_unfolding_all rfl) ?_ ?_ | refine guardI (by with_unfolding_all rfl) ?_ ?_ | refine guardS (by with_unfolding_all rfl) ?_ ?_)) <;> intro h) | ((refine callG awake_c ?_)) | (with_reducible refine And.intro ?_ ?_; omega) | (simp only [done_eq, done_eq', donet_eq, donet_eq', fin_val, fin_tup, fin_agg, fin_ro, res_one, res_more, rv_t, rv_c, rv_l, AV.tup.injEq, AV.agg.injEq, AV.ro.injEq, List.cons.injEq, int_eq, bool_eq, Int.toNat_natCast, Int.reduceToNat, Int.toNat_zero, Int.toNat_one, Int.reduceLE, Int.reduceLT, Int.reduceBEq, Int.reduceBNe, beq_self_eq_true, bne_self_eq_false, decide_true, decide_false,  Int.reduceNeg, toNat_pred, toNat_succ, List.length_map, cnd_t, cnd_f, grd_tt, grd_u, grd_tf, grd_ft, grd_ff, g_skip, g_ops, g_seq, g_block, g_exit, g_ret, x_c, x_o, x_l, x_b, g_b, g_nil, r_all, o_nil, g_cond, o_guard, o_call, o_callm, o_callt, o_callx, o_callv, lk, ef, o_mv, o_pick, o_bin, o_never, o_eqs, o_eqb, o_un, o_conv, o_load, o_loadr, o_idxr, o_loads, o_fld, o_idx, o_idxs, o_len, o_lens, o_ext, o_nilck, o_slc, o_slcs, o_build, o_minmax, o_mkfn, o_alloc, o_box, o_boxs, o_row, o_rowr, o_mk, o_asg, o_app, o_store, o_stores, o_eqnil, hv, eqAV, ev, view_t, view_c, view_nil, view_fn, look_own, look_box, look_junk, look_val, look_nilsl, look_ro, look_roAt, look_agg, look_tup, look_clo, look_alias, look_ref, look_into, rowOf, cellsOf, argv, vbin, vun, bnd, elemOf, putParts, setAt, zav, ASt.rid, ASt.free, AV.kill, AV.isHome, AV.noLoan, AV.cellOK, Value.oneCell', put_at, mk_at, mk_nil, initSt, true_and, and_true, and_self, implies_true, List.map_cons, List.map_nil, List.forall_mem_cons, List.not_mem_nil, false_implies, List.length_cons, List.length_nil, List.getD_cons_zero, List.getD_cons_succ, List.getD_nil, List.drop_succ_cons, List.drop_zero, List.take_succ_cons, List.take_zero, List.set_cons_zero, List.set_cons_succ, List.all_cons, List.all_nil, Bool.and_true, Bool.true_and, Bool.not_true, Bool.not_false, reduceCtorEq, if_true, if_false, Bool.false_eq_true, ↓reduceIte, Nat.reduceEqDiff, Nat.reduceAdd, Nat.reduceSub, Nat.reduceMul, Nat.reduceLeDiff, Nat.reduceLT, ne_eq, not_false_eq_true, not_true_eq_false, Nat.one_ne_zero, Nat.zero_ne_one, r3_0, r3_1, r3_2, r3_3, r3_4, r3_5, r3_7, r3_8, r3_9, r3_10, r3_11, r3_12, r3_13, r3_14, r3_15, r3_16, r3_17, r3_18, r3_6, r3_19, r3_20, r3_21, r3_22, p3, l3_0, gPl, gP0, hw1, hPi, hPl, c1, List.length_map]) | (exfalso; omega)
    by_cases c2 : p < -1000000000000000
    · repeat' first | ((with_reducible (first | refine condD ?_ ?_ | refine condE ?_ ?_ | refine condN ?_ ?_ | refine condI ?_ ?_ | refine condS ?_ ?_)) <;> intro h) | ((with_reducible (first | refine guardD (by with_unfolding_all rfl) ?_ ?_ | refine guardE (by with_unfolding_all rfl) ?_ ?_ | refine guardN (by with_unfolding_all rfl) ?_ ?_ | refine guardI (by with_unfolding_all rfl) ?_ ?_ | refine guardS (by with_unfolding_all rfl) ?_ ?_)) <;> intro h) | ((refine callG awake_c ?_)) | (with_reducible refine And.intro ?_ ?_; omega) | (simp only [done_eq, done_eq', donet_eq, donet_eq', fin_val, fin_tup, fin_agg, fin_ro, res_one, res_more, rv_t, rv_c, rv_l, AV.tup.injEq, AV.agg.injEq, AV.ro.injEq, List.cons.injEq, int_eq, bool_eq, Int.toNat_natCast, Int.reduceToNat, Int.toNat_zero, Int.toNat_one, Int.reduceLE, Int.reduceLT, Int.reduceBEq, Int.reduceBNe, beq_self_eq_true, bne_self_eq_false, decide_true, decide_false,  Int.reduceNeg, toNat_pred, toNat_succ, List.length_map, cnd_t, cnd_f, grd_tt, grd_u, grd_tf, grd_ft, grd_ff, g_skip, g_ops, g_seq, g_block, g_exit, g_ret, x_c, x_o, x_l, x_b, g_b, g_nil, r_all, o_nil, g_cond, o_guard, o_call, o_callm, o_callt, o_callx, o_callv, lk, ef, o_mv, o_pick, o_bin, o_never, o_eqs, o_eqb, o_un, o_conv, o_load, o_loadr, o_idxr, o_loads, o_fld, o_idx, o_idxs, o_len, o_lens, o_ext, o_nilck, o_slc, o_slcs, o_build, o_minmax, o_mkfn, o_alloc, o_box, o_boxs, o_row, o_rowr, o_mk, o_asg, o_app, o_store, o_stores, o_eqnil, hv, eqAV, ev, view_t, view_c, view_nil, view_fn, look_own, look_box, look_junk, look_val, look_nilsl, look_ro, look_roAt, look_agg, look_tup, look_clo, look_alias, look_ref, look_into, rowOf, cellsOf, argv, vbin, vun, bnd, elemOf, putParts, setAt, zav, ASt.rid, ASt.free, AV.kill, AV.isHome, AV.noLoan, AV.cellOK, Value.oneCell', put_at, mk_at, mk_nil, initSt, true_and, and_true, and_self, implies_true, List.map_cons, List.map_nil, List.forall_mem_cons, List.not_mem_nil, false_implies, List.length_cons, List.length_nil, List.getD_cons_zero, List.getD_cons_succ, List.getD_nil, List.drop_succ_cons, List.drop_zero, List.take_succ_cons, List.take_zero, List.set_cons_zero, List.set_cons_succ, List.all_cons, List.all_nil, Bool.and_true, Bool.true_and, Bool.not_true, Bool.not_false, reduceCtorEq, if_true, if_false, Bool.false_eq_true, ↓reduceIte, Nat.reduceEqDiff, Nat.reduceAdd, Nat.reduceSub, Nat.reduceMul, Nat.reduceLeDiff, Nat.reduceLT, ne_eq, not_false_eq_true, not_true_eq_false, Nat.one_ne_zero, Nat.zero_ne_one, r3_0, r3_1, r3_2, r3_3, r3_4, r3_5, r3_7, r3_8, r3_9, r3_10, r3_11, r3_12, r3_13, r3_14, r3_15, r3_16, r3_17, r3_18, r3_6, r3_19, r3_20, r3_21, r3_22, p3, l3_0, gPl, gP0, hw1, hPi, hPl, hPp, c1, c2, List.length_map]) | (exfalso; omega)
    have hall := hall (by omega) (fun x hx => by rw [hlv x hx]; omega) (fun r hr => by
      obtain ⟨i, hi, rfl⟩ := List.getElem_of_mem hr
      exact hinv i hi hi)
    generalize allF l PB 0 = G at *
    rcases hall with ⟨e0, e1⟩ | e
    · rw [e0] at hA
      have e1' : ((G.1.length : Int) == l.length) = true := by rw [e1]; simp
      repeat' first | ((with_reducible (first | refine condD ?_ ?_ | refine condE ?_ ?_ | refine condN ?_ ?_ | refine condI ?_ ?_ | refine condS ?_ ?_)) <;> intro h) | ((with_reducible (first | refine guardD (by with_unfolding_all rfl) ?_ ?_ | refine guardE (by with_unfolding_all rfl) ?_ ?_ | refine guardN (by with_unfolding_all rfl) ?_ ?_ | refine guardI (by with_unfolding_all rfl) ?_ ?_ | refine guardS (by with_unfolding_all rfl) ?_ ?_)) <;> intro h) | ((refine callG hA ?_)) | ((refine callG awake_c ?_)) | (with_reducible refine And.intro ?_ ?_; omega) | (simp only [done_eq, done_eq', donet_eq, donet_eq', fin_val, fin_tup, fin_agg, fin_ro, res_one, res_more, rv_t, rv_c, rv_l, AV.tup.injEq, AV.agg.injEq, AV.ro.injEq, List.cons.injEq, int_eq, bool_eq, Int.toNat_natCast, Int.reduceToNat, Int.toNat_zero, Int.toNat_one, Int.reduceLE, Int.reduceLT, Int.reduceBEq, Int.reduceBNe, beq_self_eq_true, bne_self_eq_false, decide_true, decide_false,  Int.reduceNeg, toNat_pred, toNat_succ, List.length_map, cnd_t, cnd_f, grd_tt, grd_u, grd_tf, grd_ft, grd_ff, g_skip, g_ops, g_seq, g_block, g_exit, g_ret, x_c, x_o, x_l, x_b, g_b, g_nil, r_all, o_nil, g_cond, o_guard, o_call, o_callm, o_callt, o_callx, o_callv, lk, ef, o_mv, o_pick, o_bin, o_never, o_eqs, o_eqb, o_un, o_conv, o_load, o_loadr, o_idxr, o_loads, o_fld, o_idx, o_idxs, o_len, o_lens, o_ext, o_nilck, o_slc, o_slcs, o_build, o_minmax, o_mkfn, o_alloc, o_box, o_boxs, o_row, o_rowr, o_mk, o_asg, o_app, o_store, o_stores, o_eqnil, hv, eqAV, ev, view_t, view_c, view_nil, view_fn, look_own, look_box, look_junk, look_val, look_nilsl, look_ro, look_roAt, look_agg, look_tup, look_clo, look_alias, look_ref, look_into, rowOf, cellsOf, argv, vbin, vun, bnd, elemOf, putParts, setAt, zav, ASt.rid, ASt.free, AV.kill, AV.isHome, AV.noLoan, AV.cellOK, Value.oneCell', put_at, mk_at, mk_nil, initSt, true_and, and_true, and_self, implies_true, List.map_cons, List.map_nil, List.forall_mem_cons, List.not_mem_nil, false_implies, List.length_cons, List.length_nil, List.getD_cons_zero, List.getD_cons_succ, List.getD_nil, List.drop_succ_cons, List.drop_zero, List.take_succ_cons, List.take_zero, List.set_cons_zero, List.set_cons_succ, List.all_cons, List.all_nil, Bool.and_true, Bool.true_and, Bool.not_true, Bool.not_false, reduceCtorEq, if_true, if_false, Bool.false_eq_true, ↓reduceIte, Nat.reduceEqDiff, Nat.reduceAdd, Nat.reduceSub, Nat.reduceMul, Nat.reduceLeDiff, Nat.reduceLT, ne_eq, not_false_eq_true, not_true_eq_false, Nat.one_ne_zero, Nat.zero_ne_one, r3_0, r3_1, r3_2, r3_3, r3_4, r3_5, r3_7, r3_8, r3_9, r3_10, r3_11, r3_12, r3_13, r3_14, r3_15, r3_16, r3_17, r3_18, r3_6, r3_19, r3_20, r3_21, r3_22, p3, l3_0, gPl, gP0, hw1, hPi, hPl, hPp, c1, c2, e1', List.length_map]) | (exfalso; omega)
    · rw [e] at hA
      repeat' first | ((with_reducible (first | refine condD ?_ ?_ | refine condE ?_ ?_ | refine condN ?_ ?_ | refine condI ?_ ?_ | refine condS ?_ ?_)) <;> intro h) | ((with_reducible (first | refine guardD (by with_unfolding_all rfl) ?_ ?_ | refine guardE (by with_unfolding_all rfl) ?_ ?_ | refine guardN (by with_unfolding_all rfl) ?_ ?_ | refine guardI (by with_unfolding_all rfl) ?_ ?_ | refine guardS (by with_unfolding_all rfl) ?_ ?_)) <;> intro h) | ((refine callG hA ?_)) | ((refine callG awake_c ?_)) | (with_reducible refine And.intro ?_ ?_; omega) | (simp only [done_eq, done_eq', donet_eq, donet_eq', fin_val, fin_tup, fin_agg, fin_ro, res_one, res_more, rv_t, rv_c, rv_l, AV.tup.injEq, AV.agg.injEq, AV.ro.injEq, List.cons.injEq, int_eq, bool_eq, Int.toNat_natCast, Int.reduceToNat, Int.toNat_zero, Int.toNat_one, Int.reduceLE, Int.reduceLT, Int.reduceBEq, Int.reduceBNe, beq_self_eq_true, bne_self_eq_false, decide_true, decide_false,  Int.reduceNeg, toNat_pred, toNat_succ, List.length_map, cnd_t, cnd_f, grd_tt, grd_u, grd_tf, grd_ft, grd_ff, g_skip, g_ops, g_seq, g_block, g_exit, g_ret, x_c, x_o, x_l, x_b, g_b, g_nil, r_all, o_nil, g_cond, o_guard, o_call, o_callm, o_callt, o_callx, o_callv, lk, ef, o_mv, o_pick, o_bin, o_never, o_eqs, o_eqb, o_un, o_conv, o_load, o_loadr, o_idxr, o_loads, o_fld, o_idx, o_idxs, o_len, o_lens, o_ext, o_nilck, o_slc, o_slcs, o_build, o_minmax, o_mkfn, o_alloc, o_box, o_boxs, o_row, o_rowr, o_mk, o_asg, o_app, o_store, o_stores, o_eqnil, hv, eqAV, ev, view_t, view_c, view_nil, view_fn, look_own, look_box, look_junk, look_val, look_nilsl, look_ro, look_roAt, look_agg, look_tup, look_clo, look_alias, look_ref, look_into, rowOf, cellsOf, argv, vbin, vun, bnd, elemOf, putParts, setAt, zav, ASt.rid, ASt.free, AV.kill, AV.isHome, AV.noLoan, AV.cellOK, Value.oneCell', put_at, mk_at, mk_nil, initSt, true_and, and_true, and_self, implies_true, List.map_cons, List.map_nil, List.forall_mem_cons, List.not_mem_nil, false_implies, List.length_cons, List.length_nil, List.getD_cons_zero, List.getD_cons_succ, List.getD_nil, List.drop_succ_cons, List.drop_zero, List.take_succ_cons, List.take_zero, List.set_cons_zero, List.set_cons_succ, List.all_cons, List.all_nil, Bool.and_true, Bool.true_and, Bool.not_true, Bool.not_false, reduceCtorEq, if_true, if_false, Bool.false_eq_true, ↓reduceIte, Nat.reduceEqDiff, Nat.reduceAdd, Nat.reduceSub, Nat.reduceMul, Nat.reduceLeDiff, Nat.reduceLT, ne_eq, not_false_eq_true, not_true_eq_false, Nat.one_ne_zero, Nat.zero_ne_one, r3_0, r3_1, r3_2, r3_3, r3_4, r3_5, r3_7, r3_8, r3_9, r3_10, r3_11, r3_12, r3_13, r3_14, r3_15, r3_16, r3_17, r3_18, r3_6, r3_19, r3_20, r3_21, r3_22, p3, l3_0, gPl, gP0, hw1, hPi, hPl, hPp, c1, c2, List.length_map]) | (exfalso; omega)
theorem cutcommon_c : ∀ avs, HasArgs [.one (.row [.str, .int .i64, .bool, .row [.int .i64, .int .i64, .int .i64, .int .i64, .bool]])] avs → CallOK Try.prog 3 avs (.val (.bool true)) := by
  intro avs h
  obtain ⟨v0, r, rfl, h0, h⟩ := args_cons h
  obtain rfl := args_nil h
  obtain ⟨n0, rfl, hl0, hb0⟩ := has_row h0 all_strC
  exact cutcommon_d n0

/-! ### The row -/
open Go.ChangeShapes Go.WideShapes Go.ChangeAt
set_option maxRecDepth 100000 in
theorem cutcommon_lifted (os : Os) (started : os.Started) (H : Type) (enc : TypeId × Value → H) :
    ReturnsInHanded {} Try.checked os 3 .any (Rows.cutCommonCutsSpec.pre6 enc Try.prog Try.f3 Rows.cutCommonCutsRow.domain false) (Rows.cutCommonCutsSpec.post enc Try.prog Try.f3 false true false false) := by
  refine returnsInHanded_of_change (C := Try.checked) own_knob started (by kernel_rfl) Try.func3
    (ChangeSpec.witness6 (enc := enc) (C := Try.checked) false ⟨#[], #[.slice none 0 0], []⟩ 8 (by kernel_rfl) (by kernel_rfl) (by kernel_rfl) (by kernel_rfl)) ?_
  intro W base args ds gs before hval hW _ _
  refine law_step rfl (by kernel_rfl) (fun ds h => ?_) ?_ hval hW ?_
  · match ds, h with | [a], _ => exact ⟨rfl, rfl, rfl⟩
  · rw [Try.params3]
    intro t ht
    simp only [List.mem_cons, List.not_mem_nil, or_false] at ht
    repeat' (first | (rcases ht with rfl | ht) | subst ht)
    all_goals exact ⟨by kernel_rfl, of_decide_eq_true (by kernel_rfl)⟩
  · rw [Try.params3]
    intro hin
    exact law_dm (ss := [.one (.row [.str, .int .i64, .bool, .row [.int .i64, .int .i64, .int .i64, .int .i64, .bool]])]) (by kernel_rfl) hin cutcommon_c

theorem cutcommon_holds : Rows.CutCommonCutsSaid :=
  OpenClaim.holds_of_wide 3 Try.f3 rfl rfl rfl rfl rfl rfl rfl ⟨rfl, rfl, rfl, rfl, rfl⟩ rfl rfl rfl rfl rfl (by kernel_rfl) Try.func3 (by kernel_rfl)
    (of_decide_eq_true (by kernel_rfl)) (by unfold Func.isWrapper; first | (rw [if_pos (by decide +kernel)]; kernel_rfl) | (rw [if_neg (by decide +kernel)]; exact ⟨rfl, rfl⟩))
    (fun os started H enc _ => cutcommon_lifted os started H enc)

end Go.Proofs.Ytjeemcpdmiajmaa
