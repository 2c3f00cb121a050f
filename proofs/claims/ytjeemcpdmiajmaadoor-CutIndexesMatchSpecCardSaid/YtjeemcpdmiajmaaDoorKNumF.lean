/- strconv.FormatUint at base 10: the decimal numeral, for every uint64; the reference's Int. -/
import Derived.Test.YtjeemcpdmiajmaaDoorKNumQ
import Derived.Shelf.Strconv.Itoa3
import Derived.Lib.AppendIntMem
namespace Go.Proofs.YtjeemcpdmiajmaaDoor
open Go.RowKit Go.Sort Go.Lib
set_option linter.unusedSimpArgs false

set_option maxHeartbeats 6400000 in
set_option maxRecDepth 100000 in
theorem ifmtu_small (u : Nat) (hu : u < 100) (w : World) :
    Calls Tryd.prog 56 #[.int .u64 u, .int .i64 10] w fun e w' => e = .returned (.string ⟨(decDigits u).toArray⟩) ∧ w' = w := by
  go_enter Tryd.func56, Tryd.ntmps56
  go_wp2_with (go_at_call 73; refine (Tryd.internal_strconv_small u hu _).mono ?_; rintro e w' ⟨rfl, rfl⟩)
  go_ret
  exact ⟨rfl, rfl⟩
set_option maxHeartbeats 6400000 in
set_option maxRecDepth 100000 in
theorem ifmtu_big (u : Nat) (hu : 100 ≤ u) (hu64 : u < 18446744073709551616) (w : World) (htab : TabIs Tryd.prog w "internal/strconv.uint64pow10" .u64 pow10Tab) :
    Calls Tryd.prog 56 #[.int .u64 u, .int .i64 10] w fun e w' => e = .returned (.string ⟨(decDigits u).toArray⟩) ∧ ∃ k os, w' = Go.Sort.grow (w.drewN k) os := by
  have u171 : Tryd.prog.underlying 110 = some (.array 24 5) := by kernel_rfl
  have u37 : Tryd.prog.underlying 23 = some (.slice 5) := by kernel_rfl
  have u5 : Tryd.prog.underlying 5 = some (.int .u8) := by kernel_rfl
  have u9 : Tryd.prog.underlying 9 = some .string := by kernel_rfl
  have hu1 : 1 ≤ u := by omega
  have hnd20 : nDigits u ≤ 20 := by have := numDigits_eq u hu1 hu64; split at this <;> omega
  have hal : Tryd.prog.arrayLen 110 = 24 := by simp [Program.arrayLen, u171]
  have hsl : ∀ W, (Instr.sliceAt 110 (.pointer (some ⟨w.heap.size, 0, none⟩)) none (some (.int .i64 (nDigits u : Int))) none).run Tryd.prog W = .ok (.slice (some ⟨w.heap.size, 0, none⟩) (nDigits u) 24) W := fun W => by
    rw [run_sliceAt_array_h W 110 ⟨w.heap.size, 0, none⟩ (by simp [Program.arrayLen, Program.elem, u171]) .i64 (nDigits u : Int) (by omega) (by rw [hal]; omega)]
    go_simp
  have hH0 := holds_zero0 w 110 (nDigits u) (by omega)
  have hfmt := Tryd.internal_strconv_formatBase10 w.heap.size 0 24 u (Array.replicate (nDigits u) 0) (w.alloc (.cells zeros24 110)) hH0 (by rw [Array.size_replicate]; exact lt_pow_nDigits u) hu64 (by rw [Array.size_replicate]; omega)
  rw [Array.size_replicate] at hfmt
  have HH0 := Lib.hid hH0
  have iu : (100 : Int) ≤ (u : Int) := by omega
  clear hH0 hal
  go_enter Tryd.func56, Tryd.ntmps56
  go_wp2_with (first
    | (go_at_call 74; refine (Tryd.internal_strconv_numDigits u hu1 hu64 _ (tabIs_alloc htab _)).mono ?_; rintro e w' ⟨rfl, rfl⟩))
  go_at_call 75
  refine hfmt.mono ?_
  rintro e w' ⟨rfl, k, v', dk, rfl, hF⟩
  have hcv : (convert 23 9 (.slice (some ⟨w.heap.size, 0, none⟩) (nDigits u) 24)).run Tryd.prog ((putRow (fun (b : UInt8) => Value.int .u8 (b.toNat : Int)) (w.alloc (.cells zeros24 110)) w.heap.size 0 dk).drewN k) = .ok (.string ⟨(decDigits u).toArray⟩) ((putRow (fun (b : UInt8) => Value.int .u8 (b.toNat : Int)) (w.alloc (.cells zeros24 110)) w.heap.size 0 dk).drewN k) := by
    have h := run_convert_bytes_back (P := Tryd.prog) ((putRow (fun (b : UInt8) => Value.int .u8 (b.toNat : Int)) (w.alloc (.cells zeros24 110)) w.heap.size 0 dk).drewN k) 23 9 5 ⟨w.heap.size, 0, none⟩ 24 (decDigits u) u37 u5 u9 (fun j hj => by
      rw [row_is_numeral hF j hj, add_plain, World.cell?_drewN]
      exact cell?_putRow (fun (b : UInt8) => Value.int .u8 (b.toNat : Int)) _ w.heap.size 0 _ dk HH0.out (by rw [hF.size, Array.size_replicate]) j (by rw [hF.size]; rw [decDigits_length] at hj; exact hj))
    rw [decDigits_length] at h
    exact h
  go_wp2
  go_ret
  obtain ⟨os, eo⟩ := fin_at w (.cells zeros24 110) dk k 0
  exact ⟨rfl, k, os, eo⟩
theorem ifmtu_c (u : Nat) (hu : u < 18446744073709551616) : CallOK Tryd.prog 56 [.val (.int .u64 u), .val (.int .i64 10)] (.val (.string (BS (decDigits u)))) := by
  intro w S vs hT hS hvl hr
  match vs, hvl with
  | [v0, v1], _ =>
    have h0 := rel_val (hr 0 _ v0 rfl rfl)
    have h1 := rel_val (hr 1 _ v1 rfl rfl)
    subst h0
    subst h1
    by_cases hs : u < 100
    · refine (ifmtu_small u hs w).mono ?_
      rintro ev w' ⟨rfl, rfl⟩
      exact ⟨_, rfl, Below.refl _ _, Rel.val _⟩
    · refine (ifmtu_big u (by omega) hu w (tabIs_of hT)).mono ?_
      rintro ev w' ⟨rfl, k, os, rfl⟩
      refine ⟨_, rfl, ⟨rfl, rfl, rfl, by simp [Go.Sort.grow, World.drewN], fun b hb => ?_⟩, Rel.val _⟩
      rw [Go.Sort.heap_grow_old _ _ (by simpa [World.drewN] using hb)]
      rfl
/-! strconv.FormatUint -/
def r41_0 : List POp := [⟨4, .asg (.c (.string ⟨#[]⟩)), none⟩]
def r41_1 : List POp := [⟨5, .mv (.t 0), none⟩,
  ⟨6, .mv (.t 1), none⟩,
  ⟨7, .call 56 [.t 5, .t 6], none⟩,
  ⟨4, .asg (.t 7), none⟩]
def p41 : PCode := .seq (.ops r41_0) (.seq (.ops r41_1) (.ret))
theorem ok41 : okFunc Tryd.prog 41 [.t 4] 2 p41 = true := by kernel_rfl
theorem fmtu_c (u : Nat) (hu : u < 18446744073709551616) : CallOK Tryd.prog 41 [.val (.int .u64 u), .val (.int .i64 10)] (.val (.string (BS (decDigits u)))) := by
  refine call_of mixed ok41 rfl ?_
  have h := ifmtu_c u hu
  repeat' first | ((with_reducible (first | refine condD ?_ ?_ | refine condE ?_ ?_ | refine condN ?_ ?_ | refine condI ?_ ?_ | refine condS ?_ ?_)) <;> intro h) | ((with_reducible (first | refine guardD (by with_unfolding_all rfl) ?_ ?_ | refine guardE (by with_unfolding_all rfl) ?_ ?_ | refine guardN (by with_unfolding_all rfl) ?_ ?_ | refine guardI (by with_unfolding_all rfl) ?_ ?_ | refine guardS (by with_unfolding_all rfl) ?_ ?_)) <;> intro h) | ((refine callG h ?_)) | (with_reducible refine And.intro ?_ ?_; omega) | (simp only [done_eq, done_eq', donet_eq, donet_eq', fin_val, fin_tup, fin_agg, fin_ro, res_one, res_more, rv_t, rv_c, rv_l, AV.tup.injEq, AV.agg.injEq, AV.ro.injEq, List.cons.injEq, int_eq, bool_eq, Int.toNat_natCast, Int.reduceToNat, Int.toNat_zero, Int.toNat_one, Int.reduceLE, Int.reduceLT, Int.reduceBEq, Int.reduceBNe, beq_self_eq_true, bne_self_eq_false, decide_true, decide_false,  Int.reduceNeg, toNat_pred, toNat_succ, List.length_map, cnd_t, cnd_f, grd_tt, grd_u, grd_tf, grd_ft, grd_ff, g_skip, g_ops, g_seq, g_block, g_exit, g_ret, x_c, x_o, x_l, x_b, g_b, g_nil, r_all, o_nil, g_cond, o_guard, o_call, o_callm, o_callt, o_callx, o_callv, lk, ef, o_mv, o_pick, o_bin, o_never, o_eqs, o_eqb, o_un, o_conv, o_load, o_loadr, o_idxr, o_loads, o_fld, o_idx, o_idxs, o_len, o_lens, o_ext, o_nilck, o_slc, o_slcs, o_build, o_minmax, o_mkfn, o_alloc, o_box, o_boxs, o_row, o_rowr, o_mk, o_asg, o_app, o_store, o_stores, o_eqnil, hv, eqAV, ev, view_t, view_c, view_nil, view_fn, look_own, look_box, look_junk, look_val, look_nilsl, look_ro, look_roAt, look_agg, look_tup, look_clo, look_alias, look_ref, look_into, rowOf, cellsOf, argv, vbin, vun, bnd, elemOf, putParts, setAt, zav, ASt.rid, ASt.free, AV.kill, AV.isHome, AV.noLoan, AV.cellOK, Value.oneCell', put_at, mk_at, mk_nil, initSt, true_and, and_true, and_self, implies_true, List.map_cons, List.map_nil, List.forall_mem_cons, List.not_mem_nil, false_implies, List.length_cons, List.length_nil, List.getD_cons_zero, List.getD_cons_succ, List.getD_nil, List.drop_succ_cons, List.drop_zero, List.take_succ_cons, List.take_zero, List.set_cons_zero, List.set_cons_succ, List.all_cons, List.all_nil, Bool.and_true, Bool.true_and, Bool.not_true, Bool.not_false, reduceCtorEq, if_true, if_false, Bool.false_eq_true, ↓reduceIte, Nat.reduceEqDiff, Nat.reduceAdd, Nat.reduceSub, Nat.reduceMul, Nat.reduceLeDiff, Nat.reduceLT, ne_eq, not_false_eq_true, not_true_eq_false, Nat.one_ne_zero, Nat.zero_ne_one, r41_0, r41_1, p41]) | (exfalso; omega)
theorem dec_digN (n : Nat) : ∀ c ∈ decDigits n, digB c = true := by
  rw [← dgs_dec _ n rfl]; exact dgs_dig _ _
theorem num_dec2 (n : Nat) : numL (decDigits n) = n := by
  rw [← dgs_dec _ n rfl]; exact num_dgs _ _ (lt_pow_nDigits n)
theorem lm_one : (lm 1).map oneN = [[.val (.int .i64 1)]] := by rw [lm_1]; rfl
/-! headend/headendref1.Int -/
def r26_0 : List POp := [⟨2, .alloc [.bool false, .slice none 0 0, .slice none 0 0], none⟩]
def r26_1 : List POp := [⟨5, .mv (.t 0), none⟩,
  ⟨6, .bin .lss (.t 5) (.c (.int .i64 0)), none⟩,
  ⟨3, .asg (.t 6), none⟩]
def r26_2 : List POp := [⟨7, .mv (.t 0), none⟩,
  ⟨8, .conv .u64 (.t 7), none⟩,
  ⟨4, .asg (.t 8), none⟩]
def r26_3 : List POp := [⟨9, .mv (.t 3), none⟩]
def r26_4 : List POp := [⟨10, .mv (.t 4), none⟩,
  ⟨11, .un .neg (.t 10), none⟩,
  ⟨4, .asg (.t 11), none⟩]
def r26_5 : List POp := [⟨12, .mv (.t 3), none⟩,
  ⟨13, .mv (.t 4), none⟩,
  ⟨14, .call 41 [.t 13, .c (.int .i64 10)], none⟩,
  ⟨15, .call 33 [.t 14], none⟩,
  ⟨16, .rowr 3 1 [.c (.int .i64 1)], none⟩,
  ⟨17, .call 38 [.t 12, .t 15, .t 16], none⟩,
  ⟨0, .stores 3 (.t 2) (.t 17), none⟩]
def p26 : PCode := .seq (.ops r26_0) (.seq (.ops r26_1) (.seq (.ops r26_2) (.seq (.seq (.ops r26_3) (.cond (.t 9) (.ops r26_4) (.skip))) (.seq (.ops r26_5) (.ret)))))
theorem ok26 : okFunc Tryd.prog 26 [.c 2 3] 1 p26 = true := by kernel_rfl
set_option maxRecDepth 20000 in
theorem int_c (z : Int) (h0 : -9223372036854775808 ≤ z) (h1 : z ≤ 9223372036854775807) : CallOK Tryd.prog 26 [.val (.int .i64 z)] (.agg (RQ z 1)) := by
  refine call_of mixed ok26 rfl ?_
  obtain ⟨u, hu⟩ : ∃ u, u = z.natAbs := ⟨_, rfl⟩
  have hF := fmtu_c u (by omega)
  have hlen : (decDigits u).length ≤ 20 := by
    rw [decDigits_length]
    have := nDigits_le 20 u (by decide) (by omega)
    exact this
  have hL := limbs_c (decDigits u) (dec_digN u) (by omega)
  rw [num_dec2] at hL
  have hlm : (lm u).length ≤ 5 := lm_len (by omega)
  have hW := lowest_c (decide (z < 0)) u 1 (by decide) (by omega) (by rw [lm_1]; decide)
  rw [rq_of, lm_one] at hW
  have hz : (if decide (z < 0) = true then -(u : Int) else (u : Int)) = z := by
    by_cases q : z < 0
    · rw [decide_eq_true q, if_pos rfl]; omega
    · rw [decide_eq_false q, if_neg (by simp)]; omega
  rw [hz] at hW
  have hRl : ∃ a b c, RQ z 1 = [a, b, c] := ⟨_, _, _, rfl⟩
  obtain ⟨a, b, c, hR⟩ := hRl
  rw [hR] at hW ⊢
  clear hR hz
  generalize lm u = LU at *
  generalize decDigits u = DU at *
  by_cases q : z < 0
  · have w1 : IntKind.u64.wrap z = z + 18446744073709551616 := by rw [IntKind.wrap_u64]; omega
    have w2 : IntKind.u64.wrap (0 - (z + 18446744073709551616)) = (u : Int) := by rw [IntKind.wrap_u64]; omega
    rw [decide_eq_true q] at hW
    repeat' first | ((with_reducible (first | refine condD ?_ ?_ | refine condE ?_ ?_ | refine condN ?_ ?_ | refine condI ?_ ?_ | refine condS ?_ ?_)) <;> intro h) | ((with_reducible (first | refine guardD (by with_unfolding_all rfl) ?_ ?_ | refine guardE (by with_unfolding_all rfl) ?_ ?_ | refine guardN (by with_unfolding_all rfl) ?_ ?_ | refine guardI (by with_unfolding_all rfl) ?_ ?_ | refine guardS (by with_unfolding_all rfl) ?_ ?_)) <;> intro h) | ((refine callG hF ?_)) | ((refine callG hL ?_)) | ((refine callG hW ?_)) | (with_reducible refine And.intro ?_ ?_; omega) | (simp only [done_eq, done_eq', donet_eq, donet_eq', fin_val, fin_tup, fin_agg, fin_ro, res_one, res_more, rv_t, rv_c, rv_l, AV.tup.injEq, AV.agg.injEq, AV.ro.injEq, List.cons.injEq, int_eq, bool_eq, Int.toNat_natCast, Int.reduceToNat, Int.toNat_zero, Int.toNat_one, Int.reduceLE, Int.reduceLT, Int.reduceBEq, Int.reduceBNe, beq_self_eq_true, bne_self_eq_false, decide_true, decide_false,  Int.reduceNeg, toNat_pred, toNat_succ, List.length_map, cnd_t, cnd_f, grd_tt, grd_u, grd_tf, grd_ft, grd_ff, g_skip, g_ops, g_seq, g_block, g_exit, g_ret, x_c, x_o, x_l, x_b, g_b, g_nil, r_all, o_nil, g_cond, o_guard, o_call, o_callm, o_callt, o_callx, o_callv, lk, ef, o_mv, o_pick, o_bin, o_never, o_eqs, o_eqb, o_un, o_conv, o_load, o_loadr, o_idxr, o_loads, o_fld, o_idx, o_idxs, o_len, o_lens, o_ext, o_nilck, o_slc, o_slcs, o_build, o_minmax, o_mkfn, o_alloc, o_box, o_boxs, o_row, o_rowr, o_mk, o_asg, o_app, o_store, o_stores, o_eqnil, hv, eqAV, ev, view_t, view_c, view_nil, view_fn, look_own, look_box, look_junk, look_val, look_nilsl, look_ro, look_roAt, look_agg, look_tup, look_clo, look_alias, look_ref, look_into, rowOf, cellsOf, argv, vbin, vun, bnd, elemOf, putParts, setAt, zav, ASt.rid, ASt.free, AV.kill, AV.isHome, AV.noLoan, AV.cellOK, Value.oneCell', put_at, mk_at, mk_nil, initSt, true_and, and_true, and_self, implies_true, List.map_cons, List.map_nil, List.forall_mem_cons, List.not_mem_nil, false_implies, List.length_cons, List.length_nil, List.getD_cons_zero, List.getD_cons_succ, List.getD_nil, List.drop_succ_cons, List.drop_zero, List.take_succ_cons, List.take_zero, List.set_cons_zero, List.set_cons_succ, List.all_cons, List.all_nil, Bool.and_true, Bool.true_and, Bool.not_true, Bool.not_false, reduceCtorEq, if_true, if_false, Bool.false_eq_true, ↓reduceIte, Nat.reduceEqDiff, Nat.reduceAdd, Nat.reduceSub, Nat.reduceMul, Nat.reduceLeDiff, Nat.reduceLT, ne_eq, not_false_eq_true, not_true_eq_false, Nat.one_ne_zero, Nat.zero_ne_one, r26_0, r26_1, r26_2, r26_3, r26_4, r26_5, p26, q, w1, w2]) | (exfalso; omega)
  · have w1 : IntKind.u64.wrap z = (u : Int) := by rw [IntKind.wrap_u64]; omega
    rw [decide_eq_false q] at hW
    repeat' first | ((with_reducible (first | refine condD ?_ ?_ | refine condE ?_ ?_ | refine condN ?_ ?_ | refine condI ?_ ?_ | refine condS ?_ ?_)) <;> intro h) | ((with_reducible (first | refine guardD (by with_unfolding_all rfl) ?_ ?_ | refine guardE (by with_unfolding_all rfl) ?_ ?_ | refine guardN (by with_unfolding_all rfl) ?_ ?_ | refine guardI (by with_unfolding_all rfl) ?_ ?_ | refine guardS (by with_unfolding_all rfl) ?_ ?_)) <;> intro h) | ((refine callG hF ?_)) | ((refine callG hL ?_)) | ((refine callG hW ?_)) | (with_reducible refine And.intro ?_ ?_; omega) | (simp only [done_eq, done_eq', donet_eq, donet_eq', fin_val, fin_tup, fin_agg, fin_ro, res_one, res_more, rv_t, rv_c, rv_l, AV.tup.injEq, AV.agg.injEq, AV.ro.injEq, List.cons.injEq, int_eq, bool_eq, Int.toNat_natCast, Int.reduceToNat, Int.toNat_zero, Int.toNat_one, Int.reduceLE, Int.reduceLT, Int.reduceBEq, Int.reduceBNe, beq_self_eq_true, bne_self_eq_false, decide_true, decide_false,  Int.reduceNeg, toNat_pred, toNat_succ, List.length_map, cnd_t, cnd_f, grd_tt, grd_u, grd_tf, grd_ft, grd_ff, g_skip, g_ops, g_seq, g_block, g_exit, g_ret, x_c, x_o, x_l, x_b, g_b, g_nil, r_all, o_nil, g_cond, o_guard, o_call, o_callm, o_callt, o_callx, o_callv, lk, ef, o_mv, o_pick, o_bin, o_never, o_eqs, o_eqb, o_un, o_conv, o_load, o_loadr, o_idxr, o_loads, o_fld, o_idx, o_idxs, o_len, o_lens, o_ext, o_nilck, o_slc, o_slcs, o_build, o_minmax, o_mkfn, o_alloc, o_box, o_boxs, o_row, o_rowr, o_mk, o_asg, o_app, o_store, o_stores, o_eqnil, hv, eqAV, ev, view_t, view_c, view_nil, view_fn, look_own, look_box, look_junk, look_val, look_nilsl, look_ro, look_roAt, look_agg, look_tup, look_clo, look_alias, look_ref, look_into, rowOf, cellsOf, argv, vbin, vun, bnd, elemOf, putParts, setAt, zav, ASt.rid, ASt.free, AV.kill, AV.isHome, AV.noLoan, AV.cellOK, Value.oneCell', put_at, mk_at, mk_nil, initSt, true_and, and_true, and_self, implies_true, List.map_cons, List.map_nil, List.forall_mem_cons, List.not_mem_nil, false_implies, List.length_cons, List.length_nil, List.getD_cons_zero, List.getD_cons_succ, List.getD_nil, List.drop_succ_cons, List.drop_zero, List.take_succ_cons, List.take_zero, List.set_cons_zero, List.set_cons_succ, List.all_cons, List.all_nil, Bool.and_true, Bool.true_and, Bool.not_true, Bool.not_false, reduceCtorEq, if_true, if_false, Bool.false_eq_true, ↓reduceIte, Nat.reduceEqDiff, Nat.reduceAdd, Nat.reduceSub, Nat.reduceMul, Nat.reduceLeDiff, Nat.reduceLT, ne_eq, not_false_eq_true, not_true_eq_false, Nat.one_ne_zero, Nat.zero_ne_one, r26_0, r26_1, r26_2, r26_3, r26_4, r26_5, p26, q, w1]) | (exfalso; omega)
end Go.Proofs.YtjeemcpdmiajmaaDoor
