/- TickDecimalsComeBack: a time of a scale that is a power of ten is read from its decimal as it was, whatever the rounding. For every input; no condition beyond the card's tied tables. -/
import Derived.Test.YtdfhpcghfmlfjaaDoorKDec
namespace Go.Proofs.YtdfhpcghfmlfjaaDoor
open Go.RowKit Go.Lib
set_option linter.unusedSimpArgs false

theorem sclA_ex {way : Int} {neg : Bool} {m p : Nat} (hp : 0 < p) (hm : m ≤ 2000000000000000) (hw : way = 1 ∨ way = 2) : sclA way neg (m * p) p = m := by
  unfold sclA
  have h1 : ¬ 18446744073709551616 * p ≤ m * p := fun h => by
    have := Nat.le_of_mul_le_mul_right h hp
    omega
  rw [if_neg h1, Nat.mul_mod_left, Nat.mul_div_cancel _ hp]
  have h2 : ¬ rndB way neg 0 p = true := by
    rcases hw with rfl | rfl
    · simp [rndB]
    · simp [rndB]; omega
  rw [if_neg h2]
  omega
theorem scl_ex {way : Int} {a b p m : Nat} (hp : 0 < p) (h : a * b = m * p) (hm : m ≤ 2000000000000000) (hw : way = 1 ∨ way = 2) : scl (a : Int) b p way = m := by
  rw [scl_pos _ _ _ (by omega), Int.natAbs_natCast, h, sclA_ex hp hm hw]
/-- What Decimal writes of a time of a scale that is a power of ten. -/
def decText (neg : Bool) (whole more part : Nat) : List UInt8 := (if neg then [45] else []) ++ (decDigits whole ++ (if 0 < more then 46 :: dgs more part else []))
/-- The numbers of a decimal: S is the scale, S * e the power of ten of the places. -/
structure DecN (S e pl more size whole rest part : Nat) : Prop where
  hS : S = 10 ^ pl
  hp : S * e = 10 ^ more
  hS1 : 1 ≤ S
  hS9 : S ≤ 1000000000
  he : 1 ≤ e
  hP9 : S * e ≤ 1000000000
  hm : more ≤ 9
  hs : size = whole * S + rest
  hr : rest < S
  hpart : part = rest * e
  hsz : size ≤ 1000000000000000
  hw : whole ≤ 1000000000000000
  hlt : part < S * e
theorem decN_of {pl more size : Nat} (h : pl ≤ more) (hm : more ≤ 9) (hsz : size ≤ 1000000000000000) : DecN (10 ^ pl) (10 ^ (more - pl)) pl more size (size / 10 ^ pl) (size % 10 ^ pl) (size % 10 ^ pl * 10 ^ (more - pl)) := by
  have hpos : 0 < 10 ^ pl := Nat.pow_pos (by decide)
  have h9 : 10 ^ pl ≤ 10 ^ 9 := Nat.pow_le_pow_right (by decide) (by omega)
  have hp : 10 ^ pl * 10 ^ (more - pl) = 10 ^ more := by rw [← Nat.pow_add]; congr 1; omega
  have hm9 : 10 ^ more ≤ 10 ^ 9 := Nat.pow_le_pow_right (by decide) hm
  have he : 0 < 10 ^ (more - pl) := Nat.pow_pos (by decide)
  have hr := Nat.mod_lt size hpos
  exact ⟨rfl, hp, hpos, by omega, he, by rw [hp]; omega, hm, by rw [Nat.mul_comm]; exact (Nat.div_add_mod size _).symm, hr, rfl, hsz, Nat.le_trans (Nat.div_le_self _ _) hsz, Nat.mul_lt_mul_of_pos_right hr he⟩
theorem of_noTime {n : Int} (h : noTime n = false) : -1000000000000000 ≤ n ∧ n ≤ 1000000000000000 := outB_f h
theorem pow_9 {n : Nat} (h : n ≤ 9) : 10 ^ n ≤ 1000000000 := Nat.le_trans (Nat.pow_le_pow_right (by decide) h) (by decide)
/-! headend/tick.Decimal -/
def r10_0 : List POp := [⟨6, .asg (.c (.string ⟨#[]⟩)), none⟩,
  ⟨7, .asg (.c (.int .i64 0)), none⟩]
def r10_1 : List POp := [⟨13, .mv (.t 0), none⟩,
  ⟨14, .call 25 [.t 13], none⟩,
  ⟨15, .mv (.t 14), none⟩,
  ⟨16, .mv (.t 1), some (15, false)⟩,
  ⟨17, .call 26 [.t 16], some (15, false)⟩,
  ⟨18, .pick (.t 15) (.c (.bool true)) (.t 17), none⟩,
  ⟨19, .mv (.t 18), none⟩,
  ⟨20, .mv (.t 2), some (19, false)⟩,
  ⟨21, .call 18 [.t 20, .c (.int .i64 0), .c (.int .i64 9)], some (19, false)⟩,
  ⟨22, .pick (.t 19) (.c (.bool true)) (.t 21), none⟩]
def r10_2 : List POp := [⟨6, .asg (.c (.string ⟨#[]⟩)), none⟩,
  ⟨7, .asg (.c (.int .i64 1)), none⟩]
def r10_3 : List POp := [⟨23, .mv (.t 0), none⟩,
  ⟨24, .mv (.t 0), none⟩,
  ⟨25, .un .neg (.t 24), none⟩,
  ⟨26, .minmax true (.t 23) (.t 25), none⟩,
  ⟨8, .asg (.t 26), none⟩]
def r10_4 : List POp := [⟨27, .mv (.t 2), none⟩,
  ⟨28, .call 27 [.t 27], none⟩,
  ⟨9, .asg (.t 28), none⟩]
def r10_5 : List POp := [⟨29, .mv (.t 8), none⟩,
  ⟨30, .mv (.t 1), none⟩,
  ⟨31, .bin .quo (.t 29) (.t 30), none⟩,
  ⟨32, .mv (.t 8), none⟩,
  ⟨33, .mv (.t 1), none⟩,
  ⟨34, .bin .rem (.t 32) (.t 33), none⟩,
  ⟨35, .mv (.t 9), none⟩,
  ⟨36, .mv (.t 1), none⟩,
  ⟨37, .call 28 [.t 34, .t 35, .t 36, .c (.int .i64 2)], none⟩,
  ⟨10, .mv (.t 31), none⟩,
  ⟨11, .mv (.t 37), none⟩]
def r10_6 : List POp := [⟨38, .mv (.t 11), none⟩,
  ⟨39, .mv (.t 9), none⟩,
  ⟨40, .bin .eql (.t 38) (.t 39), none⟩]
def r10_7 : List POp := [⟨41, .mv (.t 10), none⟩,
  ⟨42, .bin .add (.t 41) (.c (.int .i64 1)), none⟩,
  ⟨10, .asg (.t 42), none⟩,
  ⟨11, .asg (.c (.int .i64 0)), none⟩]
def r10_8 : List POp := [⟨43, .mv (.t 10), none⟩,
  ⟨44, .call 29 [.t 43], none⟩,
  ⟨12, .asg (.t 44), none⟩]
def r10_9 : List POp := [⟨45, .mv (.t 2), none⟩,
  ⟨46, .bin .gtr (.t 45) (.c (.int .i64 0)), none⟩]
def r10_10 : List POp := [⟨47, .mv (.t 12), none⟩,
  ⟨48, .mv (.t 9), none⟩,
  ⟨49, .mv (.t 11), none⟩,
  ⟨50, .bin .add (.t 48) (.t 49), none⟩,
  ⟨51, .call 29 [.t 50], none⟩,
  ⟨52, .slcs (some (.c (.int .i64 1))) none (.t 51), none⟩,
  ⟨53, .bin .add (.c (.string ⟨#[46]⟩)) (.t 52), none⟩,
  ⟨54, .bin .add (.t 47) (.t 53), none⟩,
  ⟨12, .asg (.t 54), none⟩]
def r10_11 : List POp := [⟨55, .mv (.t 0), none⟩,
  ⟨56, .bin .lss (.t 55) (.c (.int .i64 0)), none⟩,
  ⟨57, .mv (.t 56), none⟩,
  ⟨58, .mv (.t 10), some (57, true)⟩,
  ⟨59, .mv (.t 11), some (57, true)⟩,
  ⟨60, .bin .add (.t 58) (.t 59), some (57, true)⟩,
  ⟨61, .bin .gtr (.t 60) (.c (.int .i64 0)), some (57, true)⟩,
  ⟨62, .pick (.t 57) (.t 61) (.c (.bool false)), none⟩]
def r10_12 : List POp := [⟨63, .mv (.t 12), none⟩,
  ⟨64, .bin .add (.c (.string ⟨#[45]⟩)) (.t 63), none⟩,
  ⟨12, .asg (.t 64), none⟩]
def r10_13 : List POp := [⟨65, .mv (.t 12), none⟩,
  ⟨6, .asg (.t 65), none⟩,
  ⟨7, .asg (.c (.int .i64 0)), none⟩]
def p10 : PCode := .seq (.ops r10_0) (.seq (.seq (.ops r10_1) (.cond (.t 22) (.seq (.ops r10_2) (.ret)) (.skip))) (.seq (.ops r10_3) (.seq (.ops r10_4) (.seq (.ops r10_5) (.seq (.seq (.ops r10_6) (.cond (.t 40) (.ops r10_7) (.skip))) (.seq (.ops r10_8) (.seq (.seq (.ops r10_9) (.cond (.t 46) (.ops r10_10) (.skip))) (.seq (.seq (.ops r10_11) (.cond (.t 62) (.ops r10_12) (.skip))) (.seq (.ops r10_13) (.ret))))))))))
theorem ok10 : okFunc Tryd.prog 10 [.t 6, .t 7] 3 p10 = true := by kernel_rfl
theorem decimal_no (n sc more : Int) (h : noTime n = true) : CallOK Tryd.prog 10 [.val (.int .i64 n), .val (.int .i64 sc), .val (.int .i64 more)] (.tup [.val (.string (BS [])), .val (.int .i64 1)]) := by
  refine call_of mixed ok10 rfl ?_
  repeat' first | ((with_reducible (first | refine condD ?_ ?_ | refine condE ?_ ?_ | refine condN ?_ ?_ | refine condI ?_ ?_ | refine condS ?_ ?_)) <;> intro h) | ((with_reducible (first | refine guardD (by with_unfolding_all rfl) ?_ ?_ | refine guardE (by with_unfolding_all rfl) ?_ ?_ | refine guardN (by with_unfolding_all rfl) ?_ ?_ | refine guardI (by with_unfolding_all rfl) ?_ ?_ | refine guardS (by with_unfolding_all rfl) ?_ ?_)) <;> intro h) | ((refine callG (notime_c _) ?_)) | (with_reducible refine And.intro ?_ ?_; omega) | (simp only [done_eq, done_eq', donet_eq, donet_eq', fin_val, fin_tup, fin_agg, fin_ro, res_one, res_more, rv_t, rv_c, rv_l, AV.tup.injEq, AV.agg.injEq, AV.ro.injEq, List.cons.injEq, int_eq, bool_eq, Int.toNat_natCast, Int.reduceToNat, Int.toNat_zero, Int.toNat_one, Int.reduceLE, Int.reduceLT, Int.reduceBEq, Int.reduceBNe, beq_self_eq_true, bne_self_eq_false, decide_true, decide_false,  Int.reduceNeg, toNat_pred, toNat_succ, List.length_map, cnd_t, cnd_f, grd_tt, grd_u, grd_tf, grd_ft, grd_ff, g_skip, g_ops, g_seq, g_block, g_exit, g_ret, x_c, x_o, x_l, x_b, g_b, g_nil, r_all, o_nil, g_cond, o_guard, o_call, o_callm, o_callt, o_callx, o_callv, lk, ef, o_mv, o_pick, o_bin, o_never, o_eqs, o_eqb, o_un, o_conv, o_load, o_loadr, o_idxr, o_loads, o_fld, o_idx, o_idxs, o_len, o_lens, o_ext, o_nilck, o_slc, o_slcs, o_build, o_minmax, o_mkfn, o_alloc, o_box, o_boxs, o_row, o_rowr, o_mk, o_asg, o_app, o_store, o_stores, o_eqnil, hv, eqAV, ev, view_t, view_c, view_nil, view_fn, look_own, look_box, look_junk, look_val, look_nilsl, look_ro, look_roAt, look_agg, look_tup, look_clo, look_alias, look_ref, look_into, rowOf, cellsOf, argv, vbin, vun, bnd, elemOf, putParts, setAt, zav, ASt.rid, ASt.free, AV.kill, AV.isHome, AV.noLoan, AV.cellOK, Value.oneCell', put_at, mk_at, mk_nil, initSt, true_and, and_true, and_self, implies_true, List.map_cons, List.map_nil, List.forall_mem_cons, List.not_mem_nil, false_implies, List.length_cons, List.length_nil, List.getD_cons_zero, List.getD_cons_succ, List.getD_nil, List.drop_succ_cons, List.drop_zero, List.take_succ_cons, List.take_zero, List.set_cons_zero, List.set_cons_succ, List.all_cons, List.all_nil, Bool.and_true, Bool.true_and, Bool.not_true, Bool.not_false, reduceCtorEq, if_true, if_false, Bool.false_eq_true, ↓reduceIte, Nat.reduceEqDiff, Nat.reduceAdd, Nat.reduceSub, Nat.reduceMul, Nat.reduceLeDiff, Nat.reduceLT, ne_eq, not_false_eq_true, not_true_eq_false, Nat.one_ne_zero, Nat.zero_ne_one, r10_0, r10_1, r10_2, r10_3, r10_4, r10_5, r10_6, r10_7, r10_8, r10_9, r10_10, r10_11, r10_12, r10_13, p10, BS_nil, h]) | (exfalso; omega)
set_option maxHeartbeats 2000000 in
theorem decimal_yes (n : Int) {S e pl more size whole rest part : Nat} (d : DecN S e pl more size whole rest part) (hn : n.natAbs = size) :
    CallOK Tryd.prog 10 [.val (.int .i64 n), .val (.int .i64 S), .val (.int .i64 more)] (.tup [.val (.string (BS (decText (decide (n < 0)) whole more part))), .val (.int .i64 0)]) := by
  refine call_of mixed ok10 rfl ?_
  obtain ⟨hS, hp, hS1, hS9, he, hP9, hm, hs, hr, hpart, hsz, hwh, hlt⟩ := d
  have o1 : noTime n = false := by simp [noTime, outB]; omega
  have o2 : noScale (S : Int) = false := by simp [noScale, outB]; omega
  have o3 : outB (more : Int) 0 9 = false := by simp [outB]; omega
  have wn : IntKind.i64.wrap (0 - n) = -n := by rw [wrap_in (by omega) (by omega)]; omega
  have hpw := power_c more hm
  rw [← hp] at hpw
  have dv : (size : Int).tdiv (S : Int) = (whole : Int) := by
    rw [tdiv_nat size S, hs]
    congr 1
    rw [Nat.add_comm, Nat.add_mul_div_right _ _ (by omega), Nat.div_eq_of_lt hr]; omega
  have md : (size : Int).tmod (S : Int) = (rest : Int) := by
    rw [tmod_nat size S, hs, Nat.add_comm, Nat.add_mul_mod_self_right, Nat.mod_eq_of_lt hr]
  have ww : IntKind.i64.wrap (whole : Int) = whole := wrap_in (by omega) (by omega)
  have hSz : ¬ ((S : Int) = 0) := by omega
  have hSc := scaledI_c (rest : Int) ((S * e : Nat) : Int) (S : Int) 2 (by omega) (by omega) (by omega) (by omega) (by omega) (by omega)
  have hse : scl (rest : Int) (((S * e : Nat) : Int).toNat) ((S : Int).toNat) 2 = part := by
    rw [Int.toNat_natCast, Int.toNat_natCast]
    exact scl_ex (by omega) (by rw [hpart, Nat.mul_comm S e, Nat.mul_assoc]) (by omega) (.inr rfl)
  rw [hse] at hSc
  have hI := itoa_c whole (by omega)
  have hI2 := itoa_c (S * e + part) (by omega)
  rw [hp, dec_one (by rw [← hp]; exact hlt), ← hp] at hI2
  obtain ⟨Q, hQ⟩ : ∃ Q, Q = 49 :: dgs more part := ⟨_, rfl⟩
  have hQl : Q.length = more + 1 := by rw [hQ, List.length_cons, dgs_len]
  have hQx : (BS Q).extract 1 (more + 1) = BS (dgs more part) := by
    rw [BS_ext, hQ, List.drop_succ_cons, List.drop_zero, show more + 1 - 1 = more by omega, List.take_of_length_le (by rw [dgs_len]; exact Nat.le_refl _)]
  rw [← hQ] at hI2
  have hDl : (decDigits whole).length ≤ 16 := by rw [decDigits_length]; exact nDigits_le 16 whole (by omega) (by omega)
  have hne : (((part : Nat) : Int) == ((S * e : Nat) : Int)) = false := by rw [beq_eq_false_iff_ne]; omega
  have wp : IntKind.i64.wrap (((S * e : Nat) : Int) + ((part : Nat) : Int)) = ((S * e + part : Nat) : Int) := by rw [wrap_in (by omega) (by omega)]; omega
  have wq : IntKind.i64.wrap (((whole : Nat) : Int) + ((part : Nat) : Int)) = ((whole + part : Nat) : Int) := by rw [wrap_in (by omega) (by omega)]; omega
  have hpos : n < 0 → (0 : Int) < ((whole + part : Nat) : Int) := fun h => by
    have : 0 < size := by omega
    have : whole ≠ 0 ∨ rest ≠ 0 := by
      by_cases q : whole = 0
      · right; rw [q, Nat.zero_mul] at hs; omega
      · exact .inl q
    have : 0 < whole + part := by
      rcases this with q | q
      · omega
      · have := Nat.mul_pos (Nat.pos_of_ne_zero q) he; omega
    omega
  obtain ⟨X, hX⟩ : ∃ X, X = decText (decide (n < 0)) whole more part := ⟨_, rfl⟩
  rw [← hX]
  unfold decText at hX
  have dl := dgs_len more part
  generalize decDigits whole = W at *
  generalize hD : dgs more part = D at *
  generalize S * e = P at *
  clear hs hpart hQ
  by_cases h0 : n < 0
  · have hmx : (if n < -n then -n else n) = (size : Int) := by rw [if_pos (by omega)]; omega
    have hpos := hpos h0
    rw [decide_eq_true h0, if_pos rfl] at hX
    by_cases hmo : 0 < more
    · rw [if_pos hmo] at hX
      have hmi : (0 : Int) < more := by omega
      have hf : [45] ++ (W ++ ([46] ++ D)) = X := by rw [hX]; rfl
      repeat' first | ((with_reducible (first | refine condD ?_ ?_ | refine condE ?_ ?_ | refine condN ?_ ?_ | refine condI ?_ ?_ | refine condS ?_ ?_)) <;> intro h) | ((with_reducible (first | refine guardD (by with_unfolding_all rfl) ?_ ?_ | refine guardE (by with_unfolding_all rfl) ?_ ?_ | refine guardN (by with_unfolding_all rfl) ?_ ?_ | refine guardI (by with_unfolding_all rfl) ?_ ?_ | refine guardS (by with_unfolding_all rfl) ?_ ?_)) <;> intro h) | ((refine callG (notime_c _) ?_)) | ((refine callG (noscale_c _) ?_)) | ((refine callG (out_c _ _ _) ?_)) | ((refine callG hpw ?_)) | ((refine callG hSc ?_)) | ((refine callG hI ?_)) | ((refine callG hI2 ?_)) | (with_reducible refine And.intro ?_ ?_; omega) | (simp only [done_eq, done_eq', donet_eq, donet_eq', fin_val, fin_tup, fin_agg, fin_ro, res_one, res_more, rv_t, rv_c, rv_l, AV.tup.injEq, AV.agg.injEq, AV.ro.injEq, List.cons.injEq, int_eq, bool_eq, Int.toNat_natCast, Int.reduceToNat, Int.toNat_zero, Int.toNat_one, Int.reduceLE, Int.reduceLT, Int.reduceBEq, Int.reduceBNe, beq_self_eq_true, bne_self_eq_false, decide_true, decide_false,  Int.reduceNeg, toNat_pred, toNat_succ, List.length_map, cnd_t, cnd_f, grd_tt, grd_u, grd_tf, grd_ft, grd_ff, g_skip, g_ops, g_seq, g_block, g_exit, g_ret, x_c, x_o, x_l, x_b, g_b, g_nil, r_all, o_nil, g_cond, o_guard, o_call, o_callm, o_callt, o_callx, o_callv, lk, ef, o_mv, o_pick, o_bin, o_never, o_eqs, o_eqb, o_un, o_conv, o_load, o_loadr, o_idxr, o_loads, o_fld, o_idx, o_idxs, o_len, o_lens, o_ext, o_nilck, o_slc, o_slcs, o_build, o_minmax, o_mkfn, o_alloc, o_box, o_boxs, o_row, o_rowr, o_mk, o_asg, o_app, o_store, o_stores, o_eqnil, hv, eqAV, ev, view_t, view_c, view_nil, view_fn, look_own, look_box, look_junk, look_val, look_nilsl, look_ro, look_roAt, look_agg, look_tup, look_clo, look_alias, look_ref, look_into, rowOf, cellsOf, argv, vbin, vun, bnd, elemOf, putParts, setAt, zav, ASt.rid, ASt.free, AV.kill, AV.isHome, AV.noLoan, AV.cellOK, Value.oneCell', put_at, mk_at, mk_nil, initSt, true_and, and_true, and_self, implies_true, List.map_cons, List.map_nil, List.forall_mem_cons, List.not_mem_nil, false_implies, List.length_cons, List.length_nil, List.getD_cons_zero, List.getD_cons_succ, List.getD_nil, List.drop_succ_cons, List.drop_zero, List.take_succ_cons, List.take_zero, List.set_cons_zero, List.set_cons_succ, List.all_cons, List.all_nil, Bool.and_true, Bool.true_and, Bool.not_true, Bool.not_false, reduceCtorEq, if_true, if_false, Bool.false_eq_true, ↓reduceIte, Nat.reduceEqDiff, Nat.reduceAdd, Nat.reduceSub, Nat.reduceMul, Nat.reduceLeDiff, Nat.reduceLT, ne_eq, not_false_eq_true, not_true_eq_false, Nat.one_ne_zero, Nat.zero_ne_one, r10_0, r10_1, r10_2, r10_3, r10_4, r10_5, r10_6, r10_7, r10_8, r10_9, r10_10, r10_11, r10_12, r10_13, p10, o1, o2, o3, wn, hmx, dv, md, ww, hSz, hne, hmi, wp, wq, h0, hpos, BS_45, BS_46, BS_app, BS_size, hQl, hQx, hf, List.length_append, List.length_singleton, dl, Nat.le_refl]) | (exfalso; omega)
      all_goals omega
    · rw [if_neg hmo] at hX
      have hmi : ¬ (0 : Int) < more := by omega
      have hf : [45] ++ W = X := by rw [hX]; simp
      repeat' first | ((with_reducible (first | refine condD ?_ ?_ | refine condE ?_ ?_ | refine condN ?_ ?_ | refine condI ?_ ?_ | refine condS ?_ ?_)) <;> intro h) | ((with_reducible (first | refine guardD (by with_unfolding_all rfl) ?_ ?_ | refine guardE (by with_unfolding_all rfl) ?_ ?_ | refine guardN (by with_unfolding_all rfl) ?_ ?_ | refine guardI (by with_unfolding_all rfl) ?_ ?_ | refine guardS (by with_unfolding_all rfl) ?_ ?_)) <;> intro h) | ((refine callG (notime_c _) ?_)) | ((refine callG (noscale_c _) ?_)) | ((refine callG (out_c _ _ _) ?_)) | ((refine callG hpw ?_)) | ((refine callG hSc ?_)) | ((refine callG hI ?_)) | ((refine callG hI2 ?_)) | (with_reducible refine And.intro ?_ ?_; omega) | (simp only [done_eq, done_eq', donet_eq, donet_eq', fin_val, fin_tup, fin_agg, fin_ro, res_one, res_more, rv_t, rv_c, rv_l, AV.tup.injEq, AV.agg.injEq, AV.ro.injEq, List.cons.injEq, int_eq, bool_eq, Int.toNat_natCast, Int.reduceToNat, Int.toNat_zero, Int.toNat_one, Int.reduceLE, Int.reduceLT, Int.reduceBEq, Int.reduceBNe, beq_self_eq_true, bne_self_eq_false, decide_true, decide_false,  Int.reduceNeg, toNat_pred, toNat_succ, List.length_map, cnd_t, cnd_f, grd_tt, grd_u, grd_tf, grd_ft, grd_ff, g_skip, g_ops, g_seq, g_block, g_exit, g_ret, x_c, x_o, x_l, x_b, g_b, g_nil, r_all, o_nil, g_cond, o_guard, o_call, o_callm, o_callt, o_callx, o_callv, lk, ef, o_mv, o_pick, o_bin, o_never, o_eqs, o_eqb, o_un, o_conv, o_load, o_loadr, o_idxr, o_loads, o_fld, o_idx, o_idxs, o_len, o_lens, o_ext, o_nilck, o_slc, o_slcs, o_build, o_minmax, o_mkfn, o_alloc, o_box, o_boxs, o_row, o_rowr, o_mk, o_asg, o_app, o_store, o_stores, o_eqnil, hv, eqAV, ev, view_t, view_c, view_nil, view_fn, look_own, look_box, look_junk, look_val, look_nilsl, look_ro, look_roAt, look_agg, look_tup, look_clo, look_alias, look_ref, look_into, rowOf, cellsOf, argv, vbin, vun, bnd, elemOf, putParts, setAt, zav, ASt.rid, ASt.free, AV.kill, AV.isHome, AV.noLoan, AV.cellOK, Value.oneCell', put_at, mk_at, mk_nil, initSt, true_and, and_true, and_self, implies_true, List.map_cons, List.map_nil, List.forall_mem_cons, List.not_mem_nil, false_implies, List.length_cons, List.length_nil, List.getD_cons_zero, List.getD_cons_succ, List.getD_nil, List.drop_succ_cons, List.drop_zero, List.take_succ_cons, List.take_zero, List.set_cons_zero, List.set_cons_succ, List.all_cons, List.all_nil, Bool.and_true, Bool.true_and, Bool.not_true, Bool.not_false, reduceCtorEq, if_true, if_false, Bool.false_eq_true, ↓reduceIte, Nat.reduceEqDiff, Nat.reduceAdd, Nat.reduceSub, Nat.reduceMul, Nat.reduceLeDiff, Nat.reduceLT, ne_eq, not_false_eq_true, not_true_eq_false, Nat.one_ne_zero, Nat.zero_ne_one, r10_0, r10_1, r10_2, r10_3, r10_4, r10_5, r10_6, r10_7, r10_8, r10_9, r10_10, r10_11, r10_12, r10_13, p10, o1, o2, o3, wn, hmx, dv, md, ww, hSz, hne, hmi, wp, wq, h0, hpos, BS_45, BS_46, BS_app, BS_size, hQl, hQx, hf, List.length_append, List.length_singleton, dl, Nat.le_refl]) | (exfalso; omega)
      all_goals omega
  · have hmx : (if n < -n then -n else n) = (size : Int) := by
      by_cases q : n < -n
      · omega
      · rw [if_neg q]; omega
    rw [decide_eq_false h0, if_neg (by simp), List.nil_append] at hX
    by_cases hmo : 0 < more
    · rw [if_pos hmo] at hX
      have hmi : (0 : Int) < more := by omega
      have hf : W ++ ([46] ++ D) = X := by rw [hX]; rfl
      repeat' first | ((with_reducible (first | refine condD ?_ ?_ | refine condE ?_ ?_ | refine condN ?_ ?_ | refine condI ?_ ?_ | refine condS ?_ ?_)) <;> intro h) | ((with_reducible (first | refine guardD (by with_unfolding_all rfl) ?_ ?_ | refine guardE (by with_unfolding_all rfl) ?_ ?_ | refine guardN (by with_unfolding_all rfl) ?_ ?_ | refine guardI (by with_unfolding_all rfl) ?_ ?_ | refine guardS (by with_unfolding_all rfl) ?_ ?_)) <;> intro h) | ((refine callG (notime_c _) ?_)) | ((refine callG (noscale_c _) ?_)) | ((refine callG (out_c _ _ _) ?_)) | ((refine callG hpw ?_)) | ((refine callG hSc ?_)) | ((refine callG hI ?_)) | ((refine callG hI2 ?_)) | (with_reducible refine And.intro ?_ ?_; omega) | (simp only [done_eq, done_eq', donet_eq, donet_eq', fin_val, fin_tup, fin_agg, fin_ro, res_one, res_more, rv_t, rv_c, rv_l, AV.tup.injEq, AV.agg.injEq, AV.ro.injEq, List.cons.injEq, int_eq, bool_eq, Int.toNat_natCast, Int.reduceToNat, Int.toNat_zero, Int.toNat_one, Int.reduceLE, Int.reduceLT, Int.reduceBEq, Int.reduceBNe, beq_self_eq_true, bne_self_eq_false, decide_true, decide_false,  Int.reduceNeg, toNat_pred, toNat_succ, List.length_map, cnd_t, cnd_f, grd_tt, grd_u, grd_tf, grd_ft, grd_ff, g_skip, g_ops, g_seq, g_block, g_exit, g_ret, x_c, x_o, x_l, x_b, g_b, g_nil, r_all, o_nil, g_cond, o_guard, o_call, o_callm, o_callt, o_callx, o_callv, lk, ef, o_mv, o_pick, o_bin, o_never, o_eqs, o_eqb, o_un, o_conv, o_load, o_loadr, o_idxr, o_loads, o_fld, o_idx, o_idxs, o_len, o_lens, o_ext, o_nilck, o_slc, o_slcs, o_build, o_minmax, o_mkfn, o_alloc, o_box, o_boxs, o_row, o_rowr, o_mk, o_asg, o_app, o_store, o_stores, o_eqnil, hv, eqAV, ev, view_t, view_c, view_nil, view_fn, look_own, look_box, look_junk, look_val, look_nilsl, look_ro, look_roAt, look_agg, look_tup, look_clo, look_alias, look_ref, look_into, rowOf, cellsOf, argv, vbin, vun, bnd, elemOf, putParts, setAt, zav, ASt.rid, ASt.free, AV.kill, AV.isHome, AV.noLoan, AV.cellOK, Value.oneCell', put_at, mk_at, mk_nil, initSt, true_and, and_true, and_self, implies_true, List.map_cons, List.map_nil, List.forall_mem_cons, List.not_mem_nil, false_implies, List.length_cons, List.length_nil, List.getD_cons_zero, List.getD_cons_succ, List.getD_nil, List.drop_succ_cons, List.drop_zero, List.take_succ_cons, List.take_zero, List.set_cons_zero, List.set_cons_succ, List.all_cons, List.all_nil, Bool.and_true, Bool.true_and, Bool.not_true, Bool.not_false, reduceCtorEq, if_true, if_false, Bool.false_eq_true, ↓reduceIte, Nat.reduceEqDiff, Nat.reduceAdd, Nat.reduceSub, Nat.reduceMul, Nat.reduceLeDiff, Nat.reduceLT, ne_eq, not_false_eq_true, not_true_eq_false, Nat.one_ne_zero, Nat.zero_ne_one, r10_0, r10_1, r10_2, r10_3, r10_4, r10_5, r10_6, r10_7, r10_8, r10_9, r10_10, r10_11, r10_12, r10_13, p10, o1, o2, o3, wn, hmx, dv, md, ww, hSz, hne, hmi, wp, wq, h0, BS_45, BS_46, BS_app, BS_size, hQl, hQx, hf, List.length_append, List.length_singleton, dl, Nat.le_refl]) | (exfalso; omega)
      all_goals omega
    · rw [if_neg hmo, List.append_nil] at hX
      have hmi : ¬ (0 : Int) < more := by omega
      repeat' first | ((with_reducible (first | refine condD ?_ ?_ | refine condE ?_ ?_ | refine condN ?_ ?_ | refine condI ?_ ?_ | refine condS ?_ ?_)) <;> intro h) | ((with_reducible (first | refine guardD (by with_unfolding_all rfl) ?_ ?_ | refine guardE (by with_unfolding_all rfl) ?_ ?_ | refine guardN (by with_unfolding_all rfl) ?_ ?_ | refine guardI (by with_unfolding_all rfl) ?_ ?_ | refine guardS (by with_unfolding_all rfl) ?_ ?_)) <;> intro h) | ((refine callG (notime_c _) ?_)) | ((refine callG (noscale_c _) ?_)) | ((refine callG (out_c _ _ _) ?_)) | ((refine callG hpw ?_)) | ((refine callG hSc ?_)) | ((refine callG hI ?_)) | ((refine callG hI2 ?_)) | (with_reducible refine And.intro ?_ ?_; omega) | (simp only [done_eq, done_eq', donet_eq, donet_eq', fin_val, fin_tup, fin_agg, fin_ro, res_one, res_more, rv_t, rv_c, rv_l, AV.tup.injEq, AV.agg.injEq, AV.ro.injEq, List.cons.injEq, int_eq, bool_eq, Int.toNat_natCast, Int.reduceToNat, Int.toNat_zero, Int.toNat_one, Int.reduceLE, Int.reduceLT, Int.reduceBEq, Int.reduceBNe, beq_self_eq_true, bne_self_eq_false, decide_true, decide_false,  Int.reduceNeg, toNat_pred, toNat_succ, List.length_map, cnd_t, cnd_f, grd_tt, grd_u, grd_tf, grd_ft, grd_ff, g_skip, g_ops, g_seq, g_block, g_exit, g_ret, x_c, x_o, x_l, x_b, g_b, g_nil, r_all, o_nil, g_cond, o_guard, o_call, o_callm, o_callt, o_callx, o_callv, lk, ef, o_mv, o_pick, o_bin, o_never, o_eqs, o_eqb, o_un, o_conv, o_load, o_loadr, o_idxr, o_loads, o_fld, o_idx, o_idxs, o_len, o_lens, o_ext, o_nilck, o_slc, o_slcs, o_build, o_minmax, o_mkfn, o_alloc, o_box, o_boxs, o_row, o_rowr, o_mk, o_asg, o_app, o_store, o_stores, o_eqnil, hv, eqAV, ev, view_t, view_c, view_nil, view_fn, look_own, look_box, look_junk, look_val, look_nilsl, look_ro, look_roAt, look_agg, look_tup, look_clo, look_alias, look_ref, look_into, rowOf, cellsOf, argv, vbin, vun, bnd, elemOf, putParts, setAt, zav, ASt.rid, ASt.free, AV.kill, AV.isHome, AV.noLoan, AV.cellOK, Value.oneCell', put_at, mk_at, mk_nil, initSt, true_and, and_true, and_self, implies_true, List.map_cons, List.map_nil, List.forall_mem_cons, List.not_mem_nil, false_implies, List.length_cons, List.length_nil, List.getD_cons_zero, List.getD_cons_succ, List.getD_nil, List.drop_succ_cons, List.drop_zero, List.take_succ_cons, List.take_zero, List.set_cons_zero, List.set_cons_succ, List.all_cons, List.all_nil, Bool.and_true, Bool.true_and, Bool.not_true, Bool.not_false, reduceCtorEq, if_true, if_false, Bool.false_eq_true, ↓reduceIte, Nat.reduceEqDiff, Nat.reduceAdd, Nat.reduceSub, Nat.reduceMul, Nat.reduceLeDiff, Nat.reduceLT, ne_eq, not_false_eq_true, not_true_eq_false, Nat.one_ne_zero, Nat.zero_ne_one, r10_0, r10_1, r10_2, r10_3, r10_4, r10_5, r10_6, r10_7, r10_8, r10_9, r10_10, r10_11, r10_12, r10_13, p10, o1, o2, o3, wn, hmx, dv, md, ww, hSz, hne, hmi, wp, wq, h0, BS_45, BS_46, BS_app, BS_size, hQl, hQx, ← hX, List.length_append, List.length_singleton, dl, Nat.le_refl]) | (exfalso; omega)
      all_goals omega
theorem pre_yes (U : List UInt8) : trimPrefix (45 :: U) [45] = U ∧ hasPrefix (45 :: U) [45] = true := by
  have : hasPrefix (45 :: U) [45] = true := by simp [hasPrefix, List.isPrefixOf]
  exact ⟨by rw [trimPrefix, if_pos this]; rfl, this⟩
theorem pre_no {U : List UInt8} (h : U.getD 0 0 ≠ 45) : trimPrefix U [45] = U ∧ hasPrefix U [45] = false := by
  have : hasPrefix U [45] = false := by
    cases U with
    | nil => rfl
    | cons a r =>
      have : (45 == a) = false := by rw [beq_eq_false_iff_ne]; intro e; exact h (by rw [← e]; rfl)
      simp [hasPrefix, List.isPrefixOf, this]
  exact ⟨by rw [trimPrefix, if_neg (by rw [this]; simp)], this⟩
/-! headend/tick.ReadDecimal -/
def r11_0 : List POp := [⟨6, .asg (.c (.int .i64 0)), none⟩,
  ⟨7, .asg (.c (.int .i64 0)), none⟩]
def r11_1 : List POp := [⟨17, .mv (.t 1), none⟩,
  ⟨18, .call 26 [.t 17], none⟩,
  ⟨16, .asg (.t 18), none⟩]
def r11_2 : List POp := [⟨6, .asg (.c (.int .i64 0)), none⟩,
  ⟨7, .asg (.c (.int .i64 1)), none⟩]
def r11_3 : List POp := [⟨20, .mv (.t 2), none⟩,
  ⟨21, .call 30 [.t 20], none⟩,
  ⟨19, .asg (.t 21), none⟩]
def r11_4 : List POp := [⟨6, .asg (.c (.int .i64 0)), none⟩,
  ⟨7, .asg (.c (.int .i64 4)), none⟩]
def r11_5 : List POp := [⟨23, .mv (.t 0), none⟩,
  ⟨24, .call 31 [.t 23, .c (.string ⟨#[45]⟩)], none⟩,
  ⟨22, .mv (.t 24), none⟩,
  ⟨25, .ext 0 (.t 22), none⟩,
  ⟨26, .ext 1 (.t 22), none⟩,
  ⟨8, .mv (.t 25), none⟩,
  ⟨9, .mv (.t 26), none⟩]
def r11_6 : List POp := [⟨28, .mv (.t 8), none⟩,
  ⟨29, .call 32 [.t 28, .c (.string ⟨#[46]⟩)], none⟩,
  ⟨27, .mv (.t 29), none⟩,
  ⟨30, .ext 0 (.t 27), none⟩,
  ⟨31, .ext 1 (.t 27), none⟩,
  ⟨32, .ext 2 (.t 27), none⟩,
  ⟨10, .mv (.t 30), none⟩,
  ⟨11, .mv (.t 31), none⟩,
  ⟨12, .mv (.t 32), none⟩]
def r11_7 : List POp := [⟨33, .mv (.t 0), none⟩,
  ⟨34, .lens (.t 33), none⟩,
  ⟨35, .bin .gtr (.t 34) (.c (.int .i64 30)), none⟩,
  ⟨36, .mv (.t 35), none⟩,
  ⟨37, .mv (.t 10), some (36, false)⟩,
  ⟨38, .call 33 [.t 37], some (36, false)⟩,
  ⟨39, .un .not (.t 38), some (36, false)⟩,
  ⟨40, .pick (.t 36) (.c (.bool true)) (.t 39), none⟩,
  ⟨41, .mv (.t 40), none⟩,
  ⟨42, .mv (.t 10), some (41, false)⟩,
  ⟨43, .idxs (.t 42) (.c (.int .i64 0)), some (41, false)⟩,
  ⟨44, .bin .eql (.t 43) (.c (.int .u8 48)), some (41, false)⟩,
  ⟨45, .mv (.t 44), some (41, false)⟩,
  ⟨46, .mv (.t 10), some (45, true)⟩,
  ⟨47, .lens (.t 46), some (45, true)⟩,
  ⟨48, .bin .gtr (.t 47) (.c (.int .i64 1)), some (45, true)⟩,
  ⟨49, .pick (.t 45) (.t 48) (.c (.bool false)), some (41, false)⟩,
  ⟨50, .pick (.t 41) (.c (.bool true)) (.t 49), none⟩,
  ⟨51, .mv (.t 50), none⟩,
  ⟨52, .mv (.t 12), some (51, false)⟩,
  ⟨53, .mv (.t 52), some (51, false)⟩,
  ⟨54, .mv (.t 11), some (53, true)⟩,
  ⟨55, .call 33 [.t 54], some (53, true)⟩,
  ⟨56, .un .not (.t 55), some (53, true)⟩,
  ⟨57, .mv (.t 56), some (53, true)⟩,
  ⟨58, .mv (.t 11), some (57, false)⟩,
  ⟨59, .lens (.t 58), some (57, false)⟩,
  ⟨60, .bin .gtr (.t 59) (.c (.int .i64 9)), some (57, false)⟩,
  ⟨61, .pick (.t 57) (.c (.bool true)) (.t 60), some (53, true)⟩,
  ⟨62, .pick (.t 53) (.t 61) (.c (.bool false)), some (51, false)⟩,
  ⟨63, .pick (.t 51) (.c (.bool true)) (.t 62), none⟩]
def r11_8 : List POp := [⟨6, .asg (.c (.int .i64 0)), none⟩,
  ⟨7, .asg (.c (.int .i64 10)), none⟩]
def r11_9 : List POp := [⟨64, .mv (.t 10), none⟩,
  ⟨65, .lens (.t 64), none⟩,
  ⟨66, .bin .gtr (.t 65) (.c (.int .i64 16)), none⟩]
def r11_10 : List POp := [⟨6, .asg (.c (.int .i64 0)), none⟩,
  ⟨7, .asg (.c (.int .i64 1)), none⟩]
def r11_11 : List POp := [⟨67, .mv (.t 10), none⟩,
  ⟨68, .call 23 [.t 67], none⟩,
  ⟨69, .mv (.t 1), none⟩,
  ⟨70, .call 28 [.t 68, .t 69, .c (.int .i64 1), .c (.int .i64 1)], none⟩,
  ⟨13, .asg (.t 70), none⟩]
def r11_12 : List POp := [⟨71, .mv (.t 13), none⟩,
  ⟨72, .bin .gtr (.t 71) (.c (.int .i64 1000000000000000)), none⟩]
def r11_13 : List POp := [⟨6, .asg (.c (.int .i64 0)), none⟩,
  ⟨7, .asg (.c (.int .i64 1)), none⟩]
def r11_14 : List POp := [⟨73, .mv (.t 11), none⟩,
  ⟨74, .lens (.t 73), none⟩,
  ⟨75, .call 27 [.t 74], none⟩,
  ⟨14, .asg (.t 75), none⟩]
def r11_15 : List POp := [⟨76, .mv (.t 11), none⟩,
  ⟨77, .call 23 [.t 76], none⟩,
  ⟨78, .mv (.t 1), none⟩,
  ⟨79, .bin .mul (.t 77) (.t 78), none⟩,
  ⟨15, .asg (.t 79), none⟩]
def r11_16 : List POp := [⟨80, .mv (.t 13), none⟩,
  ⟨81, .mv (.t 15), none⟩,
  ⟨82, .mv (.t 14), none⟩,
  ⟨83, .bin .quo (.t 81) (.t 82), none⟩,
  ⟨84, .bin .add (.t 80) (.t 83), none⟩,
  ⟨13, .asg (.t 84), none⟩]
def r11_17 : List POp := [⟨85, .mv (.t 9), none⟩]
def r11_18 : List POp := [⟨86, .mv (.t 13), none⟩,
  ⟨87, .un .neg (.t 86), none⟩,
  ⟨13, .asg (.t 87), none⟩]
def r11_19 : List POp := [⟨88, .mv (.t 13), none⟩,
  ⟨89, .mv (.t 15), none⟩,
  ⟨90, .mv (.t 14), none⟩,
  ⟨91, .bin .rem (.t 89) (.t 90), none⟩,
  ⟨92, .mv (.t 14), none⟩,
  ⟨93, .mv (.t 2), none⟩,
  ⟨94, .call 34 [.t 91, .t 92, .t 93], none⟩,
  ⟨95, .bin .add (.t 88) (.t 94), none⟩,
  ⟨13, .asg (.t 95), none⟩]
def r11_20 : List POp := [⟨96, .mv (.t 13), none⟩,
  ⟨97, .mv (.t 15), none⟩,
  ⟨98, .mv (.t 14), none⟩,
  ⟨99, .bin .rem (.t 97) (.t 98), none⟩,
  ⟨100, .mv (.t 14), none⟩,
  ⟨101, .mv (.t 2), none⟩,
  ⟨102, .call 35 [.t 99, .t 100, .t 101], none⟩,
  ⟨103, .bin .add (.t 96) (.t 102), none⟩,
  ⟨13, .asg (.t 103), none⟩]
def r11_21 : List POp := [⟨104, .mv (.t 13), none⟩,
  ⟨105, .call 25 [.t 104], none⟩]
def r11_22 : List POp := [⟨6, .asg (.c (.int .i64 0)), none⟩,
  ⟨7, .asg (.c (.int .i64 1)), none⟩]
def r11_23 : List POp := [⟨106, .mv (.t 13), none⟩,
  ⟨6, .asg (.t 106), none⟩,
  ⟨7, .asg (.c (.int .i64 0)), none⟩]
def p11 : PCode := .seq (.ops r11_0) (.seq (.block 0 (.seq (.ops r11_1) (.cond (.t 16) (.seq (.ops r11_2) (.ret)) (.seq (.ops r11_3) (.cond (.t 19) (.seq (.ops r11_4) (.ret)) (.skip)))))) (.seq (.ops r11_5) (.seq (.ops r11_6) (.seq (.seq (.ops r11_7) (.cond (.t 63) (.seq (.ops r11_8) (.ret)) (.skip))) (.seq (.seq (.ops r11_9) (.cond (.t 66) (.seq (.ops r11_10) (.ret)) (.skip))) (.seq (.ops r11_11) (.seq (.seq (.ops r11_12) (.cond (.t 72) (.seq (.ops r11_13) (.ret)) (.skip))) (.seq (.ops r11_14) (.seq (.ops r11_15) (.seq (.ops r11_16) (.seq (.seq (.ops r11_17) (.cond (.t 85) (.seq (.ops r11_18) (.ops r11_19)) (.ops r11_20))) (.seq (.seq (.ops r11_21) (.cond (.t 105) (.seq (.ops r11_22) (.ret)) (.skip))) (.seq (.ops r11_23) (.ret))))))))))))))
theorem ok11 : okFunc Tryd.prog 11 [.t 6, .t 7] 3 p11 = true := by kernel_rfl
theorem rdec_kind (T : List UInt8) (S : Nat) (way : Int) (hS1 : 1 ≤ S) (hS9 : S ≤ 1000000000) (hw : outB way 1 3 = true) : CallOK Tryd.prog 11 [.val (.string (BS T)), .val (.int .i64 S), .val (.int .i64 way)] (.tup [.val (.int .i64 0), .val (.int .i64 4)]) := by
  refine call_of mixed ok11 rfl ?_
  have o2 : noScale (S : Int) = false := by simp [noScale, outB]; omega
  repeat' first | ((with_reducible (first | refine condD ?_ ?_ | refine condE ?_ ?_ | refine condN ?_ ?_ | refine condI ?_ ?_ | refine condS ?_ ?_)) <;> intro h) | ((with_reducible (first | refine guardD (by with_unfolding_all rfl) ?_ ?_ | refine guardE (by with_unfolding_all rfl) ?_ ?_ | refine guardN (by with_unfolding_all rfl) ?_ ?_ | refine guardI (by with_unfolding_all rfl) ?_ ?_ | refine guardS (by with_unfolding_all rfl) ?_ ?_)) <;> intro h) | ((refine callG (noscale_c _) ?_)) | ((refine callG (noway_c _) ?_)) | (with_reducible refine And.intro ?_ ?_; omega) | (simp only [done_eq, done_eq', donet_eq, donet_eq', fin_val, fin_tup, fin_agg, fin_ro, res_one, res_more, rv_t, rv_c, rv_l, AV.tup.injEq, AV.agg.injEq, AV.ro.injEq, List.cons.injEq, int_eq, bool_eq, Int.toNat_natCast, Int.reduceToNat, Int.toNat_zero, Int.toNat_one, Int.reduceLE, Int.reduceLT, Int.reduceBEq, Int.reduceBNe, beq_self_eq_true, bne_self_eq_false, decide_true, decide_false,  Int.reduceNeg, toNat_pred, toNat_succ, List.length_map, cnd_t, cnd_f, grd_tt, grd_u, grd_tf, grd_ft, grd_ff, g_skip, g_ops, g_seq, g_block, g_exit, g_ret, x_c, x_o, x_l, x_b, g_b, g_nil, r_all, o_nil, g_cond, o_guard, o_call, o_callm, o_callt, o_callx, o_callv, lk, ef, o_mv, o_pick, o_bin, o_never, o_eqs, o_eqb, o_un, o_conv, o_load, o_loadr, o_idxr, o_loads, o_fld, o_idx, o_idxs, o_len, o_lens, o_ext, o_nilck, o_slc, o_slcs, o_build, o_minmax, o_mkfn, o_alloc, o_box, o_boxs, o_row, o_rowr, o_mk, o_asg, o_app, o_store, o_stores, o_eqnil, hv, eqAV, ev, view_t, view_c, view_nil, view_fn, look_own, look_box, look_junk, look_val, look_nilsl, look_ro, look_roAt, look_agg, look_tup, look_clo, look_alias, look_ref, look_into, rowOf, cellsOf, argv, vbin, vun, bnd, elemOf, putParts, setAt, zav, ASt.rid, ASt.free, AV.kill, AV.isHome, AV.noLoan, AV.cellOK, Value.oneCell', put_at, mk_at, mk_nil, initSt, true_and, and_true, and_self, implies_true, List.map_cons, List.map_nil, List.forall_mem_cons, List.not_mem_nil, false_implies, List.length_cons, List.length_nil, List.getD_cons_zero, List.getD_cons_succ, List.getD_nil, List.drop_succ_cons, List.drop_zero, List.take_succ_cons, List.take_zero, List.set_cons_zero, List.set_cons_succ, List.all_cons, List.all_nil, Bool.and_true, Bool.true_and, Bool.not_true, Bool.not_false, reduceCtorEq, if_true, if_false, Bool.false_eq_true, ↓reduceIte, Nat.reduceEqDiff, Nat.reduceAdd, Nat.reduceSub, Nat.reduceMul, Nat.reduceLeDiff, Nat.reduceLT, ne_eq, not_false_eq_true, not_true_eq_false, Nat.one_ne_zero, Nat.zero_ne_one, r11_0, r11_1, r11_2, r11_3, r11_4, r11_5, r11_6, r11_7, r11_8, r11_9, r11_10, r11_11, r11_12, r11_13, r11_14, r11_15, r11_16, r11_17, r11_18, r11_19, r11_20, r11_21, r11_22, r11_23, p11, o2, hw]) | (exfalso; omega)
set_option maxHeartbeats 4000000 in
theorem rdec_c (neg : Bool) (way : Int) (hw : outB way 1 3 = false) {S e pl more size whole rest part : Nat} (d : DecN S e pl more size whole rest part) :
    CallOK Tryd.prog 11 [.val (.string (BS (decText neg whole more part))), .val (.int .i64 S), .val (.int .i64 way)] (.tup [.val (.int .i64 (if neg then -(size : Int) else size)), .val (.int .i64 0)]) := by
  refine call_of mixed ok11 rfl ?_
  obtain ⟨hS, hp, hS1, hS9, he, hP9, hm, hs, hr, hpart, hsz, hwh, hlt⟩ := d
  have o2 : noScale (S : Int) = false := by simp [noScale, outB]; omega
  obtain ⟨W, hW⟩ : ∃ W, W = decDigits whole := ⟨_, rfl⟩
  have hWd : ∀ c ∈ W, digB c = true := by rw [hW]; exact dec_dig whole
  have hWne : W ≠ [] := by rw [hW]; exact dec_ne whole
  have hWl : W.length ≤ 16 := by rw [hW, decDigits_length]; exact nDigits_le 16 whole (by omega) (by omega)
  have hWp : 0 < W.length := List.length_pos_iff.2 hWne
  have hWn : numL W = whole := by rw [hW]; exact dec_num' whole
  have hWh : W.getD 0 0 = 48 → W.length = 1 := by rw [hW]; exact dec_head' whole
  obtain ⟨PT, hPT⟩ : ∃ PT, PT = if 0 < more then dgs more part else [] := ⟨_, rfl⟩
  have hPl : PT.length = more := by
    rw [hPT]; split
    · rw [dgs_len]
    · simp; omega
  have hPd : ∀ c ∈ PT, digB c = true := by
    rw [hPT]; split
    · exact dgs_dig _ _
    · simp
  have hPn : numL PT = part := by
    rw [hPT]; split
    · exact num_dgs _ _ (by rw [← hp]; exact hlt)
    · have : more = 0 := by omega
      rw [this, Nat.pow_zero] at hp
      rw [hp] at hlt
      simp [numL]; omega
  obtain ⟨U, hU⟩ : ∃ U, U = W ++ (if 0 < more then 46 :: dgs more part else []) := ⟨_, rfl⟩
  have hUl : U.length ≤ 26 := by
    rw [hU, List.length_append]
    split
    · rw [List.length_cons, dgs_len]; omega
    · simp; omega
  have hU0 : U.getD 0 0 ≠ 45 := by
    obtain ⟨a, r, hWa⟩ : ∃ a r, W = a :: r := by
      cases W with
      | nil => exact absurd rfl hWne
      | cons a r => exact ⟨a, r, rfl⟩
    rw [hU, hWa, List.cons_append, List.getD_cons_zero]
    have := hWd a (by rw [hWa]; simp)
    intro e
    rw [e] at this
    exact absurd this (by decide)
  have hCut : CallOK Tryd.prog 32 [.val (.string (BS U)), .val (.string (BS [46]))] (.tup [.val (.string (BS W)), .val (.string (BS PT)), .val (.bool (decide (0 < more)))]) := by
    by_cases q : 0 < more
    · rw [if_pos q] at hU hPT
      rw [hU, hPT, decide_eq_true q]
      exact cut_yes W _ (no_dot hWd) (by rw [dgs_len]; omega)
    · rw [if_neg q, List.append_nil] at hU
      rw [if_neg q] at hPT
      rw [hU, hPT, decide_eq_false q]
      exact cut_no W (no_dot hWd)
  obtain ⟨T, hT⟩ : ∃ T, T = decText neg whole more part := ⟨_, rfl⟩
  rw [← hT]
  unfold decText at hT
  rw [← hW, ← hU] at hT
  have hTl : T.length ≤ 27 := by rw [hT, List.length_append]; cases neg <;> simp <;> omega
  have hCP : CallOK Tryd.prog 31 [.val (.string (BS T)), .val (.string (BS [45]))] (.tup [.val (.string (BS U)), .val (.bool neg)]) := by
    have := cutp_c T
    cases neg with
    | true =>
      rw [hT, if_pos rfl, List.singleton_append, (pre_yes U).1, (pre_yes U).2] at this
      rw [hT, if_pos rfl, List.singleton_append]
      exact this
    | false =>
      rw [if_neg (by simp), List.nil_append] at hT
      rw [hT, (pre_no hU0).1, (pre_no hU0).2] at this
      rw [hT]
      exact this
  have hA1 := alld_c W hWne (by omega) hWd
  have hN1 := number_c W (by omega) hWd
  have hN2 := number_c PT (by omega) hPd
  rw [hWn] at hN1
  rw [hPn] at hN2
  have hpw := power_c more hm
  rw [← hp] at hpw
  have hSc := scaledI_c (whole : Int) (S : Int) 1 1 (by omega) (by omega) (by omega) (by omega) (by omega) (by omega)
  have hws : whole * S ≤ size := by omega
  have hse : scl (whole : Int) ((S : Int).toNat) ((1 : Int).toNat) 1 = ((whole * S : Nat) : Int) := by
    rw [Int.toNat_natCast]
    exact scl_ex (by decide) (by simp) (by omega) (.inl rfl)
  rw [hse] at hSc
  have i30 : ¬ (30 : Int) < T.length := by omega
  have i16 : ¬ (16 : Int) < W.length := by omega
  have i9 : ¬ (9 : Int) < (more : Int) := by omega
  have imx : ¬ (1000000000000000 : Int) < ((whole * S : Nat) : Int) := by omega
  have hPS : part * S = rest * (S * e) := by rw [hpart, Nat.mul_assoc, Nat.mul_comm e S]
  have hPpos : 0 < S * e := Nat.mul_pos (by omega) (by omega)
  have hbig : part * S ≤ 1000000000 * 1000000000 := Nat.mul_le_mul (by omega) hS9
  have v1 : IntKind.i64.wrap ((part : Int) * (S : Int)) = ((part * S : Nat) : Int) := by rw [← Int.natCast_mul, wrap_in (by omega) (by omega)]
  have dv : ((part * S : Nat) : Int).tdiv ((S * e : Nat) : Int) = (rest : Int) := by rw [tdiv_nat, hPS, Nat.mul_div_cancel _ hPpos]
  have md : ((part * S : Nat) : Int).tmod ((S * e : Nat) : Int) = 0 := by rw [tmod_nat, hPS, Nat.mul_mod_left]; rfl
  have v2 : IntKind.i64.wrap (rest : Int) = rest := wrap_in (by omega) (by omega)
  have v3 : IntKind.i64.wrap (((whole * S : Nat) : Int) + (rest : Int)) = (size : Int) := by rw [wrap_in (by omega) (by omega)]; omega
  have v4 : IntKind.i64.wrap (0 - (size : Int)) = -(size : Int) := by rw [wrap_in (by omega) (by omega)]; omega
  have v5 : IntKind.i64.wrap (-(size : Int) + 0) = -(size : Int) := by rw [Int.add_zero, wrap_in (by omega) (by omega)]
  have v6 : IntKind.i64.wrap ((size : Int) + 0) = (size : Int) := by rw [Int.add_zero, wrap_in (by omega) (by omega)]
  have t1 : noTime (-(size : Int)) = false := by simp [noTime, outB]; omega
  have t2 : noTime (size : Int) = false := by simp [noTime, outB]; omega
  have hPz : ¬ (((S * e : Nat) : Int) = 0) := by omega
  have hRA := rabove_c ((S * e : Nat) : Int) way (by omega)
  have hRB := rbelow_c ((S * e : Nat) : Int) way (by omega)
  have hA2 : 0 < more → CallOK Tryd.prog 33 [.val (.string (BS PT))] (.val (.bool true)) := fun q => alld_c PT (fun e => by rw [e] at hPl; simp at hPl; omega) (by omega) hPd
  have h48 : ((((W.getD 0 0).toNat : Nat) : Int) == 48) = true ∧ ¬ (1 : Int) < W.length ∨ ((((W.getD 0 0).toNat : Nat) : Int) == 48) = false := by
    by_cases q : W.getD 0 0 = 48
    · left
      have := hWh q
      exact ⟨by rw [q]; rfl, by omega⟩
    · right
      rw [beq_eq_false_iff_ne]
      intro z
      exact q (UInt8.toNat_inj.1 (by change _ = 48; omega))
  have hWpi : (0 : Int) < W.length := by omega
  generalize S * e = P at *
  generalize whole * S = ws at *
  generalize part * S = ps at *
  generalize hw0 : W.getD 0 0 = w0 at *
  clear hT hU hPT hW hWh hs hpart hPS hS hp
  cases neg with
  | true =>
    simp only [if_true]
    by_cases hmo : 0 < more
    · rw [decide_eq_true hmo] at hCut
      rcases h48 with ⟨z1, z2⟩ | z1
      · repeat' first | ((with_reducible (first | refine condD ?_ ?_ | refine condE ?_ ?_ | refine condN ?_ ?_ | refine condI ?_ ?_ | refine condS ?_ ?_)) <;> intro h) | ((with_reducible (first | refine guardD (by with_unfolding_all rfl) ?_ ?_ | refine guardE (by with_unfolding_all rfl) ?_ ?_ | refine guardN (by with_unfolding_all rfl) ?_ ?_ | refine guardI (by with_unfolding_all rfl) ?_ ?_ | refine guardS (by with_unfolding_all rfl) ?_ ?_)) <;> intro h) | ((refine callG (noscale_c _) ?_)) | ((refine callG (noway_c _) ?_)) | ((refine callG hCP ?_)) | ((refine callG hCut ?_)) | ((refine callG hA1 ?_)) | ((refine callG (hA2 hmo) ?_)) | ((refine callG hN1 ?_)) | ((refine callG hN2 ?_)) | ((refine callG hSc ?_)) | ((refine callG hpw ?_)) | ((refine callG hRA ?_)) | ((refine callG hRB ?_)) | ((refine callG (notime_c _) ?_)) | (with_reducible refine And.intro ?_ ?_; omega) | (simp only [done_eq, done_eq', donet_eq, donet_eq', fin_val, fin_tup, fin_agg, fin_ro, res_one, res_more, rv_t, rv_c, rv_l, AV.tup.injEq, AV.agg.injEq, AV.ro.injEq, List.cons.injEq, int_eq, bool_eq, Int.toNat_natCast, Int.reduceToNat, Int.toNat_zero, Int.toNat_one, Int.reduceLE, Int.reduceLT, Int.reduceBEq, Int.reduceBNe, beq_self_eq_true, bne_self_eq_false, decide_true, decide_false,  Int.reduceNeg, toNat_pred, toNat_succ, List.length_map, cnd_t, cnd_f, grd_tt, grd_u, grd_tf, grd_ft, grd_ff, g_skip, g_ops, g_seq, g_block, g_exit, g_ret, x_c, x_o, x_l, x_b, g_b, g_nil, r_all, o_nil, g_cond, o_guard, o_call, o_callm, o_callt, o_callx, o_callv, lk, ef, o_mv, o_pick, o_bin, o_never, o_eqs, o_eqb, o_un, o_conv, o_load, o_loadr, o_idxr, o_loads, o_fld, o_idx, o_idxs, o_len, o_lens, o_ext, o_nilck, o_slc, o_slcs, o_build, o_minmax, o_mkfn, o_alloc, o_box, o_boxs, o_row, o_rowr, o_mk, o_asg, o_app, o_store, o_stores, o_eqnil, hv, eqAV, ev, view_t, view_c, view_nil, view_fn, look_own, look_box, look_junk, look_val, look_nilsl, look_ro, look_roAt, look_agg, look_tup, look_clo, look_alias, look_ref, look_into, rowOf, cellsOf, argv, vbin, vun, bnd, elemOf, putParts, setAt, zav, ASt.rid, ASt.free, AV.kill, AV.isHome, AV.noLoan, AV.cellOK, Value.oneCell', put_at, mk_at, mk_nil, initSt, true_and, and_true, and_self, implies_true, List.map_cons, List.map_nil, List.forall_mem_cons, List.not_mem_nil, false_implies, List.length_cons, List.length_nil, List.getD_cons_zero, List.getD_cons_succ, List.getD_nil, List.drop_succ_cons, List.drop_zero, List.take_succ_cons, List.take_zero, List.set_cons_zero, List.set_cons_succ, List.all_cons, List.all_nil, Bool.and_true, Bool.true_and, Bool.not_true, Bool.not_false, reduceCtorEq, if_true, if_false, Bool.false_eq_true, ↓reduceIte, Nat.reduceEqDiff, Nat.reduceAdd, Nat.reduceSub, Nat.reduceMul, Nat.reduceLeDiff, Nat.reduceLT, ne_eq, not_false_eq_true, not_true_eq_false, Nat.one_ne_zero, Nat.zero_ne_one, r11_0, r11_1, r11_2, r11_3, r11_4, r11_5, r11_6, r11_7, r11_8, r11_9, r11_10, r11_11, r11_12, r11_13, r11_14, r11_15, r11_16, r11_17, r11_18, r11_19, r11_20, r11_21, r11_22, r11_23, p11, BS_45, BS_46, BS_size, BS_data, o2, hw, i30, i16, i9, imx, hPl, hw0, hWpi, hPz, v1, dv, md, v2, v3, z1, z2, v4, v5, t1]) | (exfalso; omega)
      · repeat' first | ((with_reducible (first | refine condD ?_ ?_ | refine condE ?_ ?_ | refine condN ?_ ?_ | refine condI ?_ ?_ | refine condS ?_ ?_)) <;> intro h) | ((with_reducible (first | refine guardD (by with_unfolding_all rfl) ?_ ?_ | refine guardE (by with_unfolding_all rfl) ?_ ?_ | refine guardN (by with_unfolding_all rfl) ?_ ?_ | refine guardI (by with_unfolding_all rfl) ?_ ?_ | refine guardS (by with_unfolding_all rfl) ?_ ?_)) <;> intro h) | ((refine callG (noscale_c _) ?_)) | ((refine callG (noway_c _) ?_)) | ((refine callG hCP ?_)) | ((refine callG hCut ?_)) | ((refine callG hA1 ?_)) | ((refine callG (hA2 hmo) ?_)) | ((refine callG hN1 ?_)) | ((refine callG hN2 ?_)) | ((refine callG hSc ?_)) | ((refine callG hpw ?_)) | ((refine callG hRA ?_)) | ((refine callG hRB ?_)) | ((refine callG (notime_c _) ?_)) | (with_reducible refine And.intro ?_ ?_; omega) | (simp only [done_eq, done_eq', donet_eq, donet_eq', fin_val, fin_tup, fin_agg, fin_ro, res_one, res_more, rv_t, rv_c, rv_l, AV.tup.injEq, AV.agg.injEq, AV.ro.injEq, List.cons.injEq, int_eq, bool_eq, Int.toNat_natCast, Int.reduceToNat, Int.toNat_zero, Int.toNat_one, Int.reduceLE, Int.reduceLT, Int.reduceBEq, Int.reduceBNe, beq_self_eq_true, bne_self_eq_false, decide_true, decide_false,  Int.reduceNeg, toNat_pred, toNat_succ, List.length_map, cnd_t, cnd_f, grd_tt, grd_u, grd_tf, grd_ft, grd_ff, g_skip, g_ops, g_seq, g_block, g_exit, g_ret, x_c, x_o, x_l, x_b, g_b, g_nil, r_all, o_nil, g_cond, o_guard, o_call, o_callm, o_callt, o_callx, o_callv, lk, ef, o_mv, o_pick, o_bin, o_never, o_eqs, o_eqb, o_un, o_conv, o_load, o_loadr, o_idxr, o_loads, o_fld, o_idx, o_idxs, o_len, o_lens, o_ext, o_nilck, o_slc, o_slcs, o_build, o_minmax, o_mkfn, o_alloc, o_box, o_boxs, o_row, o_rowr, o_mk, o_asg, o_app, o_store, o_stores, o_eqnil, hv, eqAV, ev, view_t, view_c, view_nil, view_fn, look_own, look_box, look_junk, look_val, look_nilsl, look_ro, look_roAt, look_agg, look_tup, look_clo, look_alias, look_ref, look_into, rowOf, cellsOf, argv, vbin, vun, bnd, elemOf, putParts, setAt, zav, ASt.rid, ASt.free, AV.kill, AV.isHome, AV.noLoan, AV.cellOK, Value.oneCell', put_at, mk_at, mk_nil, initSt, true_and, and_true, and_self, implies_true, List.map_cons, List.map_nil, List.forall_mem_cons, List.not_mem_nil, false_implies, List.length_cons, List.length_nil, List.getD_cons_zero, List.getD_cons_succ, List.getD_nil, List.drop_succ_cons, List.drop_zero, List.take_succ_cons, List.take_zero, List.set_cons_zero, List.set_cons_succ, List.all_cons, List.all_nil, Bool.and_true, Bool.true_and, Bool.not_true, Bool.not_false, reduceCtorEq, if_true, if_false, Bool.false_eq_true, ↓reduceIte, Nat.reduceEqDiff, Nat.reduceAdd, Nat.reduceSub, Nat.reduceMul, Nat.reduceLeDiff, Nat.reduceLT, ne_eq, not_false_eq_true, not_true_eq_false, Nat.one_ne_zero, Nat.zero_ne_one, r11_0, r11_1, r11_2, r11_3, r11_4, r11_5, r11_6, r11_7, r11_8, r11_9, r11_10, r11_11, r11_12, r11_13, r11_14, r11_15, r11_16, r11_17, r11_18, r11_19, r11_20, r11_21, r11_22, r11_23, p11, BS_45, BS_46, BS_size, BS_data, o2, hw, i30, i16, i9, imx, hPl, hw0, hWpi, hPz, v1, dv, md, v2, v3, z1, v4, v5, t1]) | (exfalso; omega)
    · rw [decide_eq_false hmo] at hCut
      rcases h48 with ⟨z1, z2⟩ | z1
      · repeat' first | ((with_reducible (first | refine condD ?_ ?_ | refine condE ?_ ?_ | refine condN ?_ ?_ | refine condI ?_ ?_ | refine condS ?_ ?_)) <;> intro h) | ((with_reducible (first | refine guardD (by with_unfolding_all rfl) ?_ ?_ | refine guardE (by with_unfolding_all rfl) ?_ ?_ | refine guardN (by with_unfolding_all rfl) ?_ ?_ | refine guardI (by with_unfolding_all rfl) ?_ ?_ | refine guardS (by with_unfolding_all rfl) ?_ ?_)) <;> intro h) | ((refine callG (noscale_c _) ?_)) | ((refine callG (noway_c _) ?_)) | ((refine callG hCP ?_)) | ((refine callG hCut ?_)) | ((refine callG hA1 ?_)) | ((refine callG hN1 ?_)) | ((refine callG hN2 ?_)) | ((refine callG hSc ?_)) | ((refine callG hpw ?_)) | ((refine callG hRA ?_)) | ((refine callG hRB ?_)) | ((refine callG (notime_c _) ?_)) | (with_reducible refine And.intro ?_ ?_; omega) | (simp only [done_eq, done_eq', donet_eq, donet_eq', fin_val, fin_tup, fin_agg, fin_ro, res_one, res_more, rv_t, rv_c, rv_l, AV.tup.injEq, AV.agg.injEq, AV.ro.injEq, List.cons.injEq, int_eq, bool_eq, Int.toNat_natCast, Int.reduceToNat, Int.toNat_zero, Int.toNat_one, Int.reduceLE, Int.reduceLT, Int.reduceBEq, Int.reduceBNe, beq_self_eq_true, bne_self_eq_false, decide_true, decide_false,  Int.reduceNeg, toNat_pred, toNat_succ, List.length_map, cnd_t, cnd_f, grd_tt, grd_u, grd_tf, grd_ft, grd_ff, g_skip, g_ops, g_seq, g_block, g_exit, g_ret, x_c, x_o, x_l, x_b, g_b, g_nil, r_all, o_nil, g_cond, o_guard, o_call, o_callm, o_callt, o_callx, o_callv, lk, ef, o_mv, o_pick, o_bin, o_never, o_eqs, o_eqb, o_un, o_conv, o_load, o_loadr, o_idxr, o_loads, o_fld, o_idx, o_idxs, o_len, o_lens, o_ext, o_nilck, o_slc, o_slcs, o_build, o_minmax, o_mkfn, o_alloc, o_box, o_boxs, o_row, o_rowr, o_mk, o_asg, o_app, o_store, o_stores, o_eqnil, hv, eqAV, ev, view_t, view_c, view_nil, view_fn, look_own, look_box, look_junk, look_val, look_nilsl, look_ro, look_roAt, look_agg, look_tup, look_clo, look_alias, look_ref, look_into, rowOf, cellsOf, argv, vbin, vun, bnd, elemOf, putParts, setAt, zav, ASt.rid, ASt.free, AV.kill, AV.isHome, AV.noLoan, AV.cellOK, Value.oneCell', put_at, mk_at, mk_nil, initSt, true_and, and_true, and_self, implies_true, List.map_cons, List.map_nil, List.forall_mem_cons, List.not_mem_nil, false_implies, List.length_cons, List.length_nil, List.getD_cons_zero, List.getD_cons_succ, List.getD_nil, List.drop_succ_cons, List.drop_zero, List.take_succ_cons, List.take_zero, List.set_cons_zero, List.set_cons_succ, List.all_cons, List.all_nil, Bool.and_true, Bool.true_and, Bool.not_true, Bool.not_false, reduceCtorEq, if_true, if_false, Bool.false_eq_true, ↓reduceIte, Nat.reduceEqDiff, Nat.reduceAdd, Nat.reduceSub, Nat.reduceMul, Nat.reduceLeDiff, Nat.reduceLT, ne_eq, not_false_eq_true, not_true_eq_false, Nat.one_ne_zero, Nat.zero_ne_one, r11_0, r11_1, r11_2, r11_3, r11_4, r11_5, r11_6, r11_7, r11_8, r11_9, r11_10, r11_11, r11_12, r11_13, r11_14, r11_15, r11_16, r11_17, r11_18, r11_19, r11_20, r11_21, r11_22, r11_23, p11, BS_45, BS_46, BS_size, BS_data, o2, hw, i30, i16, i9, imx, hPl, hw0, hWpi, hPz, v1, dv, md, v2, v3, z1, z2, v4, v5, t1]) | (exfalso; omega)
      · repeat' first | ((with_reducible (first | refine condD ?_ ?_ | refine condE ?_ ?_ | refine condN ?_ ?_ | refine condI ?_ ?_ | refine condS ?_ ?_)) <;> intro h) | ((with_reducible (first | refine guardD (by with_unfolding_all rfl) ?_ ?_ | refine guardE (by with_unfolding_all rfl) ?_ ?_ | refine guardN (by with_unfolding_all rfl) ?_ ?_ | refine guardI (by with_unfolding_all rfl) ?_ ?_ | refine guardS (by with_unfolding_all rfl) ?_ ?_)) <;> intro h) | ((refine callG (noscale_c _) ?_)) | ((refine callG (noway_c _) ?_)) | ((refine callG hCP ?_)) | ((refine callG hCut ?_)) | ((refine callG hA1 ?_)) | ((refine callG hN1 ?_)) | ((refine callG hN2 ?_)) | ((refine callG hSc ?_)) | ((refine callG hpw ?_)) | ((refine callG hRA ?_)) | ((refine callG hRB ?_)) | ((refine callG (notime_c _) ?_)) | (with_reducible refine And.intro ?_ ?_; omega) | (simp only [done_eq, done_eq', donet_eq, donet_eq', fin_val, fin_tup, fin_agg, fin_ro, res_one, res_more, rv_t, rv_c, rv_l, AV.tup.injEq, AV.agg.injEq, AV.ro.injEq, List.cons.injEq, int_eq, bool_eq, Int.toNat_natCast, Int.reduceToNat, Int.toNat_zero, Int.toNat_one, Int.reduceLE, Int.reduceLT, Int.reduceBEq, Int.reduceBNe, beq_self_eq_true, bne_self_eq_false, decide_true, decide_false,  Int.reduceNeg, toNat_pred, toNat_succ, List.length_map, cnd_t, cnd_f, grd_tt, grd_u, grd_tf, grd_ft, grd_ff, g_skip, g_ops, g_seq, g_block, g_exit, g_ret, x_c, x_o, x_l, x_b, g_b, g_nil, r_all, o_nil, g_cond, o_guard, o_call, o_callm, o_callt, o_callx, o_callv, lk, ef, o_mv, o_pick, o_bin, o_never, o_eqs, o_eqb, o_un, o_conv, o_load, o_loadr, o_idxr, o_loads, o_fld, o_idx, o_idxs, o_len, o_lens, o_ext, o_nilck, o_slc, o_slcs, o_build, o_minmax, o_mkfn, o_alloc, o_box, o_boxs, o_row, o_rowr, o_mk, o_asg, o_app, o_store, o_stores, o_eqnil, hv, eqAV, ev, view_t, view_c, view_nil, view_fn, look_own, look_box, look_junk, look_val, look_nilsl, look_ro, look_roAt, look_agg, look_tup, look_clo, look_alias, look_ref, look_into, rowOf, cellsOf, argv, vbin, vun, bnd, elemOf, putParts, setAt, zav, ASt.rid, ASt.free, AV.kill, AV.isHome, AV.noLoan, AV.cellOK, Value.oneCell', put_at, mk_at, mk_nil, initSt, true_and, and_true, and_self, implies_true, List.map_cons, List.map_nil, List.forall_mem_cons, List.not_mem_nil, false_implies, List.length_cons, List.length_nil, List.getD_cons_zero, List.getD_cons_succ, List.getD_nil, List.drop_succ_cons, List.drop_zero, List.take_succ_cons, List.take_zero, List.set_cons_zero, List.set_cons_succ, List.all_cons, List.all_nil, Bool.and_true, Bool.true_and, Bool.not_true, Bool.not_false, reduceCtorEq, if_true, if_false, Bool.false_eq_true, ↓reduceIte, Nat.reduceEqDiff, Nat.reduceAdd, Nat.reduceSub, Nat.reduceMul, Nat.reduceLeDiff, Nat.reduceLT, ne_eq, not_false_eq_true, not_true_eq_false, Nat.one_ne_zero, Nat.zero_ne_one, r11_0, r11_1, r11_2, r11_3, r11_4, r11_5, r11_6, r11_7, r11_8, r11_9, r11_10, r11_11, r11_12, r11_13, r11_14, r11_15, r11_16, r11_17, r11_18, r11_19, r11_20, r11_21, r11_22, r11_23, p11, BS_45, BS_46, BS_size, BS_data, o2, hw, i30, i16, i9, imx, hPl, hw0, hWpi, hPz, v1, dv, md, v2, v3, z1, v4, v5, t1]) | (exfalso; omega)
  | false =>
    simp only [Bool.false_eq_true, if_false]
    by_cases hmo : 0 < more
    · rw [decide_eq_true hmo] at hCut
      rcases h48 with ⟨z1, z2⟩ | z1
      · repeat' first | ((with_reducible (first | refine condD ?_ ?_ | refine condE ?_ ?_ | refine condN ?_ ?_ | refine condI ?_ ?_ | refine condS ?_ ?_)) <;> intro h) | ((with_reducible (first | refine guardD (by with_unfolding_all rfl) ?_ ?_ | refine guardE (by with_unfolding_all rfl) ?_ ?_ | refine guardN (by with_unfolding_all rfl) ?_ ?_ | refine guardI (by with_unfolding_all rfl) ?_ ?_ | refine guardS (by with_unfolding_all rfl) ?_ ?_)) <;> intro h) | ((refine callG (noscale_c _) ?_)) | ((refine callG (noway_c _) ?_)) | ((refine callG hCP ?_)) | ((refine callG hCut ?_)) | ((refine callG hA1 ?_)) | ((refine callG (hA2 hmo) ?_)) | ((refine callG hN1 ?_)) | ((refine callG hN2 ?_)) | ((refine callG hSc ?_)) | ((refine callG hpw ?_)) | ((refine callG hRA ?_)) | ((refine callG hRB ?_)) | ((refine callG (notime_c _) ?_)) | (with_reducible refine And.intro ?_ ?_; omega) | (simp only [done_eq, done_eq', donet_eq, donet_eq', fin_val, fin_tup, fin_agg, fin_ro, res_one, res_more, rv_t, rv_c, rv_l, AV.tup.injEq, AV.agg.injEq, AV.ro.injEq, List.cons.injEq, int_eq, bool_eq, Int.toNat_natCast, Int.reduceToNat, Int.toNat_zero, Int.toNat_one, Int.reduceLE, Int.reduceLT, Int.reduceBEq, Int.reduceBNe, beq_self_eq_true, bne_self_eq_false, decide_true, decide_false,  Int.reduceNeg, toNat_pred, toNat_succ, List.length_map, cnd_t, cnd_f, grd_tt, grd_u, grd_tf, grd_ft, grd_ff, g_skip, g_ops, g_seq, g_block, g_exit, g_ret, x_c, x_o, x_l, x_b, g_b, g_nil, r_all, o_nil, g_cond, o_guard, o_call, o_callm, o_callt, o_callx, o_callv, lk, ef, o_mv, o_pick, o_bin, o_never, o_eqs, o_eqb, o_un, o_conv, o_load, o_loadr, o_idxr, o_loads, o_fld, o_idx, o_idxs, o_len, o_lens, o_ext, o_nilck, o_slc, o_slcs, o_build, o_minmax, o_mkfn, o_alloc, o_box, o_boxs, o_row, o_rowr, o_mk, o_asg, o_app, o_store, o_stores, o_eqnil, hv, eqAV, ev, view_t, view_c, view_nil, view_fn, look_own, look_box, look_junk, look_val, look_nilsl, look_ro, look_roAt, look_agg, look_tup, look_clo, look_alias, look_ref, look_into, rowOf, cellsOf, argv, vbin, vun, bnd, elemOf, putParts, setAt, zav, ASt.rid, ASt.free, AV.kill, AV.isHome, AV.noLoan, AV.cellOK, Value.oneCell', put_at, mk_at, mk_nil, initSt, true_and, and_true, and_self, implies_true, List.map_cons, List.map_nil, List.forall_mem_cons, List.not_mem_nil, false_implies, List.length_cons, List.length_nil, List.getD_cons_zero, List.getD_cons_succ, List.getD_nil, List.drop_succ_cons, List.drop_zero, List.take_succ_cons, List.take_zero, List.set_cons_zero, List.set_cons_succ, List.all_cons, List.all_nil, Bool.and_true, Bool.true_and, Bool.not_true, Bool.not_false, reduceCtorEq, if_true, if_false, Bool.false_eq_true, ↓reduceIte, Nat.reduceEqDiff, Nat.reduceAdd, Nat.reduceSub, Nat.reduceMul, Nat.reduceLeDiff, Nat.reduceLT, ne_eq, not_false_eq_true, not_true_eq_false, Nat.one_ne_zero, Nat.zero_ne_one, r11_0, r11_1, r11_2, r11_3, r11_4, r11_5, r11_6, r11_7, r11_8, r11_9, r11_10, r11_11, r11_12, r11_13, r11_14, r11_15, r11_16, r11_17, r11_18, r11_19, r11_20, r11_21, r11_22, r11_23, p11, BS_45, BS_46, BS_size, BS_data, o2, hw, i30, i16, i9, imx, hPl, hw0, hWpi, hPz, v1, dv, md, v2, v3, z1, z2, v6, t2]) | (exfalso; omega)
      · repeat' first | ((with_reducible (first | refine condD ?_ ?_ | refine condE ?_ ?_ | refine condN ?_ ?_ | refine condI ?_ ?_ | refine condS ?_ ?_)) <;> intro h) | ((with_reducible (first | refine guardD (by with_unfolding_all rfl) ?_ ?_ | refine guardE (by with_unfolding_all rfl) ?_ ?_ | refine guardN (by with_unfolding_all rfl) ?_ ?_ | refine guardI (by with_unfolding_all rfl) ?_ ?_ | refine guardS (by with_unfolding_all rfl) ?_ ?_)) <;> intro h) | ((refine callG (noscale_c _) ?_)) | ((refine callG (noway_c _) ?_)) | ((refine callG hCP ?_)) | ((refine callG hCut ?_)) | ((refine callG hA1 ?_)) | ((refine callG (hA2 hmo) ?_)) | ((refine callG hN1 ?_)) | ((refine callG hN2 ?_)) | ((refine callG hSc ?_)) | ((refine callG hpw ?_)) | ((refine callG hRA ?_)) | ((refine callG hRB ?_)) | ((refine callG (notime_c _) ?_)) | (with_reducible refine And.intro ?_ ?_; omega) | (simp only [done_eq, done_eq', donet_eq, donet_eq', fin_val, fin_tup, fin_agg, fin_ro, res_one, res_more, rv_t, rv_c, rv_l, AV.tup.injEq, AV.agg.injEq, AV.ro.injEq, List.cons.injEq, int_eq, bool_eq, Int.toNat_natCast, Int.reduceToNat, Int.toNat_zero, Int.toNat_one, Int.reduceLE, Int.reduceLT, Int.reduceBEq, Int.reduceBNe, beq_self_eq_true, bne_self_eq_false, decide_true, decide_false,  Int.reduceNeg, toNat_pred, toNat_succ, List.length_map, cnd_t, cnd_f, grd_tt, grd_u, grd_tf, grd_ft, grd_ff, g_skip, g_ops, g_seq, g_block, g_exit, g_ret, x_c, x_o, x_l, x_b, g_b, g_nil, r_all, o_nil, g_cond, o_guard, o_call, o_callm, o_callt, o_callx, o_callv, lk, ef, o_mv, o_pick, o_bin, o_never, o_eqs, o_eqb, o_un, o_conv, o_load, o_loadr, o_idxr, o_loads, o_fld, o_idx, o_idxs, o_len, o_lens, o_ext, o_nilck, o_slc, o_slcs, o_build, o_minmax, o_mkfn, o_alloc, o_box, o_boxs, o_row, o_rowr, o_mk, o_asg, o_app, o_store, o_stores, o_eqnil, hv, eqAV, ev, view_t, view_c, view_nil, view_fn, look_own, look_box, look_junk, look_val, look_nilsl, look_ro, look_roAt, look_agg, look_tup, look_clo, look_alias, look_ref, look_into, rowOf, cellsOf, argv, vbin, vun, bnd, elemOf, putParts, setAt, zav, ASt.rid, ASt.free, AV.kill, AV.isHome, AV.noLoan, AV.cellOK, Value.oneCell', put_at, mk_at, mk_nil, initSt, true_and, and_true, and_self, implies_true, List.map_cons, List.map_nil, List.forall_mem_cons, List.not_mem_nil, false_implies, List.length_cons, List.length_nil, List.getD_cons_zero, List.getD_cons_succ, List.getD_nil, List.drop_succ_cons, List.drop_zero, List.take_succ_cons, List.take_zero, List.set_cons_zero, List.set_cons_succ, List.all_cons, List.all_nil, Bool.and_true, Bool.true_and, Bool.not_true, Bool.not_false, reduceCtorEq, if_true, if_false, Bool.false_eq_true, ↓reduceIte, Nat.reduceEqDiff, Nat.reduceAdd, Nat.reduceSub, Nat.reduceMul, Nat.reduceLeDiff, Nat.reduceLT, ne_eq, not_false_eq_true, not_true_eq_false, Nat.one_ne_zero, Nat.zero_ne_one, r11_0, r11_1, r11_2, r11_3, r11_4, r11_5, r11_6, r11_7, r11_8, r11_9, r11_10, r11_11, r11_12, r11_13, r11_14, r11_15, r11_16, r11_17, r11_18, r11_19, r11_20, r11_21, r11_22, r11_23, p11, BS_45, BS_46, BS_size, BS_data, o2, hw, i30, i16, i9, imx, hPl, hw0, hWpi, hPz, v1, dv, md, v2, v3, z1, v6, t2]) | (exfalso; omega)
    · rw [decide_eq_false hmo] at hCut
      rcases h48 with ⟨z1, z2⟩ | z1
      · repeat' first | ((with_reducible (first | refine condD ?_ ?_ | refine condE ?_ ?_ | refine condN ?_ ?_ | refine condI ?_ ?_ | refine condS ?_ ?_)) <;> intro h) | ((with_reducible (first | refine guardD (by with_unfolding_all rfl) ?_ ?_ | refine guardE (by with_unfolding_all rfl) ?_ ?_ | refine guardN (by with_unfolding_all rfl) ?_ ?_ | refine guardI (by with_unfolding_all rfl) ?_ ?_ | refine guardS (by with_unfolding_all rfl) ?_ ?_)) <;> intro h) | ((refine callG (noscale_c _) ?_)) | ((refine callG (noway_c _) ?_)) | ((refine callG hCP ?_)) | ((refine callG hCut ?_)) | ((refine callG hA1 ?_)) | ((refine callG hN1 ?_)) | ((refine callG hN2 ?_)) | ((refine callG hSc ?_)) | ((refine callG hpw ?_)) | ((refine callG hRA ?_)) | ((refine callG hRB ?_)) | ((refine callG (notime_c _) ?_)) | (with_reducible refine And.intro ?_ ?_; omega) | (simp only [done_eq, done_eq', donet_eq, donet_eq', fin_val, fin_tup, fin_agg, fin_ro, res_one, res_more, rv_t, rv_c, rv_l, AV.tup.injEq, AV.agg.injEq, AV.ro.injEq, List.cons.injEq, int_eq, bool_eq, Int.toNat_natCast, Int.reduceToNat, Int.toNat_zero, Int.toNat_one, Int.reduceLE, Int.reduceLT, Int.reduceBEq, Int.reduceBNe, beq_self_eq_true, bne_self_eq_false, decide_true, decide_false,  Int.reduceNeg, toNat_pred, toNat_succ, List.length_map, cnd_t, cnd_f, grd_tt, grd_u, grd_tf, grd_ft, grd_ff, g_skip, g_ops, g_seq, g_block, g_exit, g_ret, x_c, x_o, x_l, x_b, g_b, g_nil, r_all, o_nil, g_cond, o_guard, o_call, o_callm, o_callt, o_callx, o_callv, lk, ef, o_mv, o_pick, o_bin, o_never, o_eqs, o_eqb, o_un, o_conv, o_load, o_loadr, o_idxr, o_loads, o_fld, o_idx, o_idxs, o_len, o_lens, o_ext, o_nilck, o_slc, o_slcs, o_build, o_minmax, o_mkfn, o_alloc, o_box, o_boxs, o_row, o_rowr, o_mk, o_asg, o_app, o_store, o_stores, o_eqnil, hv, eqAV, ev, view_t, view_c, view_nil, view_fn, look_own, look_box, look_junk, look_val, look_nilsl, look_ro, look_roAt, look_agg, look_tup, look_clo, look_alias, look_ref, look_into, rowOf, cellsOf, argv, vbin, vun, bnd, elemOf, putParts, setAt, zav, ASt.rid, ASt.free, AV.kill, AV.isHome, AV.noLoan, AV.cellOK, Value.oneCell', put_at, mk_at, mk_nil, initSt, true_and, and_true, and_self, implies_true, List.map_cons, List.map_nil, List.forall_mem_cons, List.not_mem_nil, false_implies, List.length_cons, List.length_nil, List.getD_cons_zero, List.getD_cons_succ, List.getD_nil, List.drop_succ_cons, List.drop_zero, List.take_succ_cons, List.take_zero, List.set_cons_zero, List.set_cons_succ, List.all_cons, List.all_nil, Bool.and_true, Bool.true_and, Bool.not_true, Bool.not_false, reduceCtorEq, if_true, if_false, Bool.false_eq_true, ↓reduceIte, Nat.reduceEqDiff, Nat.reduceAdd, Nat.reduceSub, Nat.reduceMul, Nat.reduceLeDiff, Nat.reduceLT, ne_eq, not_false_eq_true, not_true_eq_false, Nat.one_ne_zero, Nat.zero_ne_one, r11_0, r11_1, r11_2, r11_3, r11_4, r11_5, r11_6, r11_7, r11_8, r11_9, r11_10, r11_11, r11_12, r11_13, r11_14, r11_15, r11_16, r11_17, r11_18, r11_19, r11_20, r11_21, r11_22, r11_23, p11, BS_45, BS_46, BS_size, BS_data, o2, hw, i30, i16, i9, imx, hPl, hw0, hWpi, hPz, v1, dv, md, v2, v3, z1, z2, v6, t2]) | (exfalso; omega)
      · repeat' first | ((with_reducible (first | refine condD ?_ ?_ | refine condE ?_ ?_ | refine condN ?_ ?_ | refine condI ?_ ?_ | refine condS ?_ ?_)) <;> intro h) | ((with_reducible (first | refine guardD (by with_unfolding_all rfl) ?_ ?_ | refine guardE (by with_unfolding_all rfl) ?_ ?_ | refine guardN (by with_unfolding_all rfl) ?_ ?_ | refine guardI (by with_unfolding_all rfl) ?_ ?_ | refine guardS (by with_unfolding_all rfl) ?_ ?_)) <;> intro h) | ((refine callG (noscale_c _) ?_)) | ((refine callG (noway_c _) ?_)) | ((refine callG hCP ?_)) | ((refine callG hCut ?_)) | ((refine callG hA1 ?_)) | ((refine callG hN1 ?_)) | ((refine callG hN2 ?_)) | ((refine callG hSc ?_)) | ((refine callG hpw ?_)) | ((refine callG hRA ?_)) | ((refine callG hRB ?_)) | ((refine callG (notime_c _) ?_)) | (with_reducible refine And.intro ?_ ?_; omega) | (simp only [done_eq, done_eq', donet_eq, donet_eq', fin_val, fin_tup, fin_agg, fin_ro, res_one, res_more, rv_t, rv_c, rv_l, AV.tup.injEq, AV.agg.injEq, AV.ro.injEq, List.cons.injEq, int_eq, bool_eq, Int.toNat_natCast, Int.reduceToNat, Int.toNat_zero, Int.toNat_one, Int.reduceLE, Int.reduceLT, Int.reduceBEq, Int.reduceBNe, beq_self_eq_true, bne_self_eq_false, decide_true, decide_false,  Int.reduceNeg, toNat_pred, toNat_succ, List.length_map, cnd_t, cnd_f, grd_tt, grd_u, grd_tf, grd_ft, grd_ff, g_skip, g_ops, g_seq, g_block, g_exit, g_ret, x_c, x_o, x_l, x_b, g_b, g_nil, r_all, o_nil, g_cond, o_guard, o_call, o_callm, o_callt, o_callx, o_callv, lk, ef, o_mv, o_pick, o_bin, o_never, o_eqs, o_eqb, o_un, o_conv, o_load, o_loadr, o_idxr, o_loads, o_fld, o_idx, o_idxs, o_len, o_lens, o_ext, o_nilck, o_slc, o_slcs, o_build, o_minmax, o_mkfn, o_alloc, o_box, o_boxs, o_row, o_rowr, o_mk, o_asg, o_app, o_store, o_stores, o_eqnil, hv, eqAV, ev, view_t, view_c, view_nil, view_fn, look_own, look_box, look_junk, look_val, look_nilsl, look_ro, look_roAt, look_agg, look_tup, look_clo, look_alias, look_ref, look_into, rowOf, cellsOf, argv, vbin, vun, bnd, elemOf, putParts, setAt, zav, ASt.rid, ASt.free, AV.kill, AV.isHome, AV.noLoan, AV.cellOK, Value.oneCell', put_at, mk_at, mk_nil, initSt, true_and, and_true, and_self, implies_true, List.map_cons, List.map_nil, List.forall_mem_cons, List.not_mem_nil, false_implies, List.length_cons, List.length_nil, List.getD_cons_zero, List.getD_cons_succ, List.getD_nil, List.drop_succ_cons, List.drop_zero, List.take_succ_cons, List.take_zero, List.set_cons_zero, List.set_cons_succ, List.all_cons, List.all_nil, Bool.and_true, Bool.true_and, Bool.not_true, Bool.not_false, reduceCtorEq, if_true, if_false, Bool.false_eq_true, ↓reduceIte, Nat.reduceEqDiff, Nat.reduceAdd, Nat.reduceSub, Nat.reduceMul, Nat.reduceLeDiff, Nat.reduceLT, ne_eq, not_false_eq_true, not_true_eq_false, Nat.one_ne_zero, Nat.zero_ne_one, r11_0, r11_1, r11_2, r11_3, r11_4, r11_5, r11_6, r11_7, r11_8, r11_9, r11_10, r11_11, r11_12, r11_13, r11_14, r11_15, r11_16, r11_17, r11_18, r11_19, r11_20, r11_21, r11_22, r11_23, p11, BS_45, BS_46, BS_size, BS_data, o2, hw, i30, i16, i9, imx, hPl, hw0, hWpi, hPz, v1, dv, md, v2, v3, z1, v6, t2]) | (exfalso; omega)
/-! headend/headendlaw1.TickDecimalsComeBack -/
def r4_0 : List POp := [⟨8, .asg (.c (.bool false)), none⟩]
def r4_1 : List POp := [⟨14, .mv (.t 1), none⟩,
  ⟨15, .bin .lss (.t 14) (.c (.int .i64 0)), none⟩,
  ⟨16, .mv (.t 15), none⟩,
  ⟨17, .mv (.t 1), some (16, false)⟩,
  ⟨18, .bin .gtr (.t 17) (.c (.int .i64 9)), some (16, false)⟩,
  ⟨19, .pick (.t 16) (.c (.bool true)) (.t 18), none⟩,
  ⟨20, .mv (.t 19), none⟩,
  ⟨21, .mv (.t 2), some (20, false)⟩,
  ⟨22, .mv (.t 1), some (20, false)⟩,
  ⟨23, .bin .lss (.t 21) (.t 22), some (20, false)⟩,
  ⟨24, .pick (.t 20) (.c (.bool true)) (.t 23), none⟩,
  ⟨25, .mv (.t 24), none⟩,
  ⟨26, .mv (.t 2), some (25, false)⟩,
  ⟨27, .bin .gtr (.t 26) (.c (.int .i64 9)), some (25, false)⟩,
  ⟨28, .pick (.t 25) (.c (.bool true)) (.t 27), none⟩]
def r4_2 : List POp := [⟨29, .call 9 [], none⟩,
  ⟨8, .asg (.t 29), none⟩]
def r4_3 : List POp := [⟨9, .asg (.c (.int .i64 1)), none⟩]
def r4_4 : List POp := [⟨10, .asg (.c (.int .i64 0)), none⟩]
def r4_5 : List POp := [⟨30, .mv (.t 10), none⟩,
  ⟨31, .mv (.t 1), none⟩,
  ⟨32, .bin .lss (.t 30) (.t 31), none⟩]
def r4_7 : List POp := [⟨35, .mv (.t 9), none⟩,
  ⟨36, .bin .mul (.t 35) (.c (.int .i64 10)), none⟩,
  ⟨9, .asg (.t 36), none⟩]
def r4_6 : List POp := [⟨33, .mv (.t 10), none⟩,
  ⟨34, .bin .add (.t 33) (.c (.int .i64 1)), none⟩,
  ⟨10, .asg (.t 34), none⟩]
def r4_8 : List POp := [⟨38, .mv (.t 0), none⟩,
  ⟨39, .mv (.t 9), none⟩,
  ⟨40, .mv (.t 2), none⟩,
  ⟨41, .call 10 [.t 38, .t 39, .t 40], none⟩,
  ⟨37, .mv (.t 41), none⟩,
  ⟨42, .ext 0 (.t 37), none⟩,
  ⟨43, .ext 1 (.t 37), none⟩,
  ⟨11, .mv (.t 42), none⟩,
  ⟨12, .mv (.t 43), none⟩]
def r4_9 : List POp := [⟨44, .mv (.t 12), none⟩,
  ⟨45, .bin .neq (.t 44) (.c (.int .i64 0)), none⟩]
def r4_10 : List POp := [⟨46, .mv (.t 11), none⟩,
  ⟨47, .bin .eql (.t 46) (.c (.string ⟨#[]⟩)), none⟩,
  ⟨48, .mv (.t 47), none⟩,
  ⟨49, .call 9 [], some (48, true)⟩,
  ⟨50, .pick (.t 48) (.t 49) (.c (.bool false)), none⟩,
  ⟨8, .asg (.t 50), none⟩]
def r4_11 : List POp := [⟨52, .mv (.t 11), none⟩,
  ⟨53, .mv (.t 9), none⟩,
  ⟨54, .mv (.t 3), none⟩,
  ⟨55, .call 11 [.t 52, .t 53, .t 54], none⟩,
  ⟨51, .mv (.t 55), none⟩,
  ⟨56, .ext 0 (.t 51), none⟩,
  ⟨57, .ext 1 (.t 51), none⟩,
  ⟨13, .mv (.t 56), none⟩,
  ⟨12, .mv (.t 57), none⟩]
def r4_12 : List POp := [⟨58, .mv (.t 12), none⟩,
  ⟨59, .bin .eql (.t 58) (.c (.int .i64 0)), none⟩,
  ⟨60, .mv (.t 59), none⟩,
  ⟨61, .mv (.t 13), some (60, true)⟩,
  ⟨62, .mv (.t 0), some (60, true)⟩,
  ⟨63, .bin .eql (.t 61) (.t 62), some (60, true)⟩,
  ⟨64, .pick (.t 60) (.t 63) (.c (.bool false)), none⟩,
  ⟨65, .mv (.t 64), none⟩,
  ⟨66, .mv (.t 12), some (65, false)⟩,
  ⟨67, .bin .eql (.t 66) (.c (.int .i64 4)), some (65, false)⟩,
  ⟨68, .pick (.t 65) (.c (.bool true)) (.t 67), none⟩,
  ⟨69, .mv (.t 68), none⟩,
  ⟨70, .call 9 [], some (69, true)⟩,
  ⟨71, .pick (.t 69) (.t 70) (.c (.bool false)), none⟩,
  ⟨8, .asg (.t 71), none⟩]
def l4_0 : PCode := .seq (.seq (.ops r4_5) (.cond (.t 32) (.skip) (.exit 0))) (.seq (.block 1 (.ops r4_7)) (.ops r4_6))
def p4 : PCode := .seq (.ops r4_0) (.seq (.seq (.ops r4_1) (.cond (.t 28) (.seq (.ops r4_2) (.ret)) (.skip))) (.seq (.ops r4_3) (.seq (.seq (.ops r4_4) (.block 0 (.loop l4_0))) (.seq (.ops r4_8) (.seq (.seq (.ops r4_9) (.cond (.t 45) (.seq (.ops r4_10) (.ret)) (.skip))) (.seq (.ops r4_11) (.seq (.ops r4_12) (.ret))))))))
theorem ok4 : okFunc Tryd.prog 4 [.t 8] 4 p4 = true := by kernel_rfl
set_option maxRecDepth 20000 in
set_option maxHeartbeats 2000000 in
theorem decback_d (n places more way : Int) (hn : -9223372036854775808 ≤ n ∧ n ≤ 9223372036854775807) : CallOK Tryd.prog 4 [.val (.int .i64 n), .val (.int .i64 places), .val (.int .i64 more), .val (.int .i64 way)] (.val (.bool true)) := by
  refine call_of mixed ok4 rfl ?_
  by_cases q1 : places < 0
  · repeat' first | ((with_reducible (first | refine condD ?_ ?_ | refine condE ?_ ?_ | refine condN ?_ ?_ | refine condI ?_ ?_ | refine condS ?_ ?_)) <;> intro h) | ((with_reducible (first | refine guardD (by with_unfolding_all rfl) ?_ ?_ | refine guardE (by with_unfolding_all rfl) ?_ ?_ | refine guardN (by with_unfolding_all rfl) ?_ ?_ | refine guardI (by with_unfolding_all rfl) ?_ ?_ | refine guardS (by with_unfolding_all rfl) ?_ ?_)) <;> intro h) | ((refine callG awake1_c ?_)) | (with_reducible refine And.intro ?_ ?_; omega) | (simp only [done_eq, done_eq', donet_eq, donet_eq', fin_val, fin_tup, fin_agg, fin_ro, res_one, res_more, rv_t, rv_c, rv_l, AV.tup.injEq, AV.agg.injEq, AV.ro.injEq, List.cons.injEq, int_eq, bool_eq, Int.toNat_natCast, Int.reduceToNat, Int.toNat_zero, Int.toNat_one, Int.reduceLE, Int.reduceLT, Int.reduceBEq, Int.reduceBNe, beq_self_eq_true, bne_self_eq_false, decide_true, decide_false,  Int.reduceNeg, toNat_pred, toNat_succ, List.length_map, cnd_t, cnd_f, grd_tt, grd_u, grd_tf, grd_ft, grd_ff, g_skip, g_ops, g_seq, g_block, g_exit, g_ret, x_c, x_o, x_l, x_b, g_b, g_nil, r_all, o_nil, g_cond, o_guard, o_call, o_callm, o_callt, o_callx, o_callv, lk, ef, o_mv, o_pick, o_bin, o_never, o_eqs, o_eqb, o_un, o_conv, o_load, o_loadr, o_idxr, o_loads, o_fld, o_idx, o_idxs, o_len, o_lens, o_ext, o_nilck, o_slc, o_slcs, o_build, o_minmax, o_mkfn, o_alloc, o_box, o_boxs, o_row, o_rowr, o_mk, o_asg, o_app, o_store, o_stores, o_eqnil, hv, eqAV, ev, view_t, view_c, view_nil, view_fn, look_own, look_box, look_junk, look_val, look_nilsl, look_ro, look_roAt, look_agg, look_tup, look_clo, look_alias, look_ref, look_into, rowOf, cellsOf, argv, vbin, vun, bnd, elemOf, putParts, setAt, zav, ASt.rid, ASt.free, AV.kill, AV.isHome, AV.noLoan, AV.cellOK, Value.oneCell', put_at, mk_at, mk_nil, initSt, true_and, and_true, and_self, implies_true, List.map_cons, List.map_nil, List.forall_mem_cons, List.not_mem_nil, false_implies, List.length_cons, List.length_nil, List.getD_cons_zero, List.getD_cons_succ, List.getD_nil, List.drop_succ_cons, List.drop_zero, List.take_succ_cons, List.take_zero, List.set_cons_zero, List.set_cons_succ, List.all_cons, List.all_nil, Bool.and_true, Bool.true_and, Bool.not_true, Bool.not_false, reduceCtorEq, if_true, if_false, Bool.false_eq_true, ↓reduceIte, Nat.reduceEqDiff, Nat.reduceAdd, Nat.reduceSub, Nat.reduceMul, Nat.reduceLeDiff, Nat.reduceLT, ne_eq, not_false_eq_true, not_true_eq_false, Nat.one_ne_zero, Nat.zero_ne_one, r4_0, r4_1, r4_2, r4_3, r4_4, r4_5, r4_7, r4_6, r4_8, r4_9, r4_10, r4_11, r4_12, p4, q1]) | (exfalso; omega)
  by_cases q2 : 9 < places
  · repeat' first | ((with_reducible (first | refine condD ?_ ?_ | refine condE ?_ ?_ | refine condN ?_ ?_ | refine condI ?_ ?_ | refine condS ?_ ?_)) <;> intro h) | ((with_reducible (first | refine guardD (by with_unfolding_all rfl) ?_ ?_ | refine guardE (by with_unfolding_all rfl) ?_ ?_ | refine guardN (by with_unfolding_all rfl) ?_ ?_ | refine guardI (by with_unfolding_all rfl) ?_ ?_ | refine guardS (by with_unfolding_all rfl) ?_ ?_)) <;> intro h) | ((refine callG awake1_c ?_)) | (with_reducible refine And.intro ?_ ?_; omega) | (simp only [done_eq, done_eq', donet_eq, donet_eq', fin_val, fin_tup, fin_agg, fin_ro, res_one, res_more, rv_t, rv_c, rv_l, AV.tup.injEq, AV.agg.injEq, AV.ro.injEq, List.cons.injEq, int_eq, bool_eq, Int.toNat_natCast, Int.reduceToNat, Int.toNat_zero, Int.toNat_one, Int.reduceLE, Int.reduceLT, Int.reduceBEq, Int.reduceBNe, beq_self_eq_true, bne_self_eq_false, decide_true, decide_false,  Int.reduceNeg, toNat_pred, toNat_succ, List.length_map, cnd_t, cnd_f, grd_tt, grd_u, grd_tf, grd_ft, grd_ff, g_skip, g_ops, g_seq, g_block, g_exit, g_ret, x_c, x_o, x_l, x_b, g_b, g_nil, r_all, o_nil, g_cond, o_guard, o_call, o_callm, o_callt, o_callx, o_callv, lk, ef, o_mv, o_pick, o_bin, o_never, o_eqs, o_eqb, o_un, o_conv, o_load, o_loadr, o_idxr, o_loads, o_fld, o_idx, o_idxs, o_len, o_lens, o_ext, o_nilck, o_slc, o_slcs, o_build, o_minmax, o_mkfn, o_alloc, o_box, o_boxs, o_row, o_rowr, o_mk, o_asg, o_app, o_store, o_stores, o_eqnil, hv, eqAV, ev, view_t, view_c, view_nil, view_fn, look_own, look_box, look_junk, look_val, look_nilsl, look_ro, look_roAt, look_agg, look_tup, look_clo, look_alias, look_ref, look_into, rowOf, cellsOf, argv, vbin, vun, bnd, elemOf, putParts, setAt, zav, ASt.rid, ASt.free, AV.kill, AV.isHome, AV.noLoan, AV.cellOK, Value.oneCell', put_at, mk_at, mk_nil, initSt, true_and, and_true, and_self, implies_true, List.map_cons, List.map_nil, List.forall_mem_cons, List.not_mem_nil, false_implies, List.length_cons, List.length_nil, List.getD_cons_zero, List.getD_cons_succ, List.getD_nil, List.drop_succ_cons, List.drop_zero, List.take_succ_cons, List.take_zero, List.set_cons_zero, List.set_cons_succ, List.all_cons, List.all_nil, Bool.and_true, Bool.true_and, Bool.not_true, Bool.not_false, reduceCtorEq, if_true, if_false, Bool.false_eq_true, ↓reduceIte, Nat.reduceEqDiff, Nat.reduceAdd, Nat.reduceSub, Nat.reduceMul, Nat.reduceLeDiff, Nat.reduceLT, ne_eq, not_false_eq_true, not_true_eq_false, Nat.one_ne_zero, Nat.zero_ne_one, r4_0, r4_1, r4_2, r4_3, r4_4, r4_5, r4_7, r4_6, r4_8, r4_9, r4_10, r4_11, r4_12, p4, q1, q2]) | (exfalso; omega)
  by_cases q3 : more < places
  · repeat' first | ((with_reducible (first | refine condD ?_ ?_ | refine condE ?_ ?_ | refine condN ?_ ?_ | refine condI ?_ ?_ | refine condS ?_ ?_)) <;> intro h) | ((with_reducible (first | refine guardD (by with_unfolding_all rfl) ?_ ?_ | refine guardE (by with_unfolding_all rfl) ?_ ?_ | refine guardN (by with_unfolding_all rfl) ?_ ?_ | refine guardI (by with_unfolding_all rfl) ?_ ?_ | refine guardS (by with_unfolding_all rfl) ?_ ?_)) <;> intro h) | ((refine callG awake1_c ?_)) | (with_reducible refine And.intro ?_ ?_; omega) | (simp only [done_eq, done_eq', donet_eq, donet_eq', fin_val, fin_tup, fin_agg, fin_ro, res_one, res_more, rv_t, rv_c, rv_l, AV.tup.injEq, AV.agg.injEq, AV.ro.injEq, List.cons.injEq, int_eq, bool_eq, Int.toNat_natCast, Int.reduceToNat, Int.toNat_zero, Int.toNat_one, Int.reduceLE, Int.reduceLT, Int.reduceBEq, Int.reduceBNe, beq_self_eq_true, bne_self_eq_false, decide_true, decide_false,  Int.reduceNeg, toNat_pred, toNat_succ, List.length_map, cnd_t, cnd_f, grd_tt, grd_u, grd_tf, grd_ft, grd_ff, g_skip, g_ops, g_seq, g_block, g_exit, g_ret, x_c, x_o, x_l, x_b, g_b, g_nil, r_all, o_nil, g_cond, o_guard, o_call, o_callm, o_callt, o_callx, o_callv, lk, ef, o_mv, o_pick, o_bin, o_never, o_eqs, o_eqb, o_un, o_conv, o_load, o_loadr, o_idxr, o_loads, o_fld, o_idx, o_idxs, o_len, o_lens, o_ext, o_nilck, o_slc, o_slcs, o_build, o_minmax, o_mkfn, o_alloc, o_box, o_boxs, o_row, o_rowr, o_mk, o_asg, o_app, o_store, o_stores, o_eqnil, hv, eqAV, ev, view_t, view_c, view_nil, view_fn, look_own, look_box, look_junk, look_val, look_nilsl, look_ro, look_roAt, look_agg, look_tup, look_clo, look_alias, look_ref, look_into, rowOf, cellsOf, argv, vbin, vun, bnd, elemOf, putParts, setAt, zav, ASt.rid, ASt.free, AV.kill, AV.isHome, AV.noLoan, AV.cellOK, Value.oneCell', put_at, mk_at, mk_nil, initSt, true_and, and_true, and_self, implies_true, List.map_cons, List.map_nil, List.forall_mem_cons, List.not_mem_nil, false_implies, List.length_cons, List.length_nil, List.getD_cons_zero, List.getD_cons_succ, List.getD_nil, List.drop_succ_cons, List.drop_zero, List.take_succ_cons, List.take_zero, List.set_cons_zero, List.set_cons_succ, List.all_cons, List.all_nil, Bool.and_true, Bool.true_and, Bool.not_true, Bool.not_false, reduceCtorEq, if_true, if_false, Bool.false_eq_true, ↓reduceIte, Nat.reduceEqDiff, Nat.reduceAdd, Nat.reduceSub, Nat.reduceMul, Nat.reduceLeDiff, Nat.reduceLT, ne_eq, not_false_eq_true, not_true_eq_false, Nat.one_ne_zero, Nat.zero_ne_one, r4_0, r4_1, r4_2, r4_3, r4_4, r4_5, r4_7, r4_6, r4_8, r4_9, r4_10, r4_11, r4_12, p4, q1, q2, q3]) | (exfalso; omega)
  by_cases q4 : 9 < more
  · repeat' first | ((with_reducible (first | refine condD ?_ ?_ | refine condE ?_ ?_ | refine condN ?_ ?_ | refine condI ?_ ?_ | refine condS ?_ ?_)) <;> intro h) | ((with_reducible (first | refine guardD (by with_unfolding_all rfl) ?_ ?_ | refine guardE (by with_unfolding_all rfl) ?_ ?_ | refine guardN (by with_unfolding_all rfl) ?_ ?_ | refine guardI (by with_unfolding_all rfl) ?_ ?_ | refine guardS (by with_unfolding_all rfl) ?_ ?_)) <;> intro h) | ((refine callG awake1_c ?_)) | (with_reducible refine And.intro ?_ ?_; omega) | (simp only [done_eq, done_eq', donet_eq, donet_eq', fin_val, fin_tup, fin_agg, fin_ro, res_one, res_more, rv_t, rv_c, rv_l, AV.tup.injEq, AV.agg.injEq, AV.ro.injEq, List.cons.injEq, int_eq, bool_eq, Int.toNat_natCast, Int.reduceToNat, Int.toNat_zero, Int.toNat_one, Int.reduceLE, Int.reduceLT, Int.reduceBEq, Int.reduceBNe, beq_self_eq_true, bne_self_eq_false, decide_true, decide_false,  Int.reduceNeg, toNat_pred, toNat_succ, List.length_map, cnd_t, cnd_f, grd_tt, grd_u, grd_tf, grd_ft, grd_ff, g_skip, g_ops, g_seq, g_block, g_exit, g_ret, x_c, x_o, x_l, x_b, g_b, g_nil, r_all, o_nil, g_cond, o_guard, o_call, o_callm, o_callt, o_callx, o_callv, lk, ef, o_mv, o_pick, o_bin, o_never, o_eqs, o_eqb, o_un, o_conv, o_load, o_loadr, o_idxr, o_loads, o_fld, o_idx, o_idxs, o_len, o_lens, o_ext, o_nilck, o_slc, o_slcs, o_build, o_minmax, o_mkfn, o_alloc, o_box, o_boxs, o_row, o_rowr, o_mk, o_asg, o_app, o_store, o_stores, o_eqnil, hv, eqAV, ev, view_t, view_c, view_nil, view_fn, look_own, look_box, look_junk, look_val, look_nilsl, look_ro, look_roAt, look_agg, look_tup, look_clo, look_alias, look_ref, look_into, rowOf, cellsOf, argv, vbin, vun, bnd, elemOf, putParts, setAt, zav, ASt.rid, ASt.free, AV.kill, AV.isHome, AV.noLoan, AV.cellOK, Value.oneCell', put_at, mk_at, mk_nil, initSt, true_and, and_true, and_self, implies_true, List.map_cons, List.map_nil, List.forall_mem_cons, List.not_mem_nil, false_implies, List.length_cons, List.length_nil, List.getD_cons_zero, List.getD_cons_succ, List.getD_nil, List.drop_succ_cons, List.drop_zero, List.take_succ_cons, List.take_zero, List.set_cons_zero, List.set_cons_succ, List.all_cons, List.all_nil, Bool.and_true, Bool.true_and, Bool.not_true, Bool.not_false, reduceCtorEq, if_true, if_false, Bool.false_eq_true, ↓reduceIte, Nat.reduceEqDiff, Nat.reduceAdd, Nat.reduceSub, Nat.reduceMul, Nat.reduceLeDiff, Nat.reduceLT, ne_eq, not_false_eq_true, not_true_eq_false, Nat.one_ne_zero, Nat.zero_ne_one, r4_0, r4_1, r4_2, r4_3, r4_4, r4_5, r4_7, r4_6, r4_8, r4_9, r4_10, r4_11, r4_12, p4, q1, q2, q3, q4]) | (exfalso; omega)
  obtain ⟨pl, rfl⟩ : ∃ k : Nat, places = k := ⟨places.toNat, by omega⟩
  obtain ⟨mo, rfl⟩ : ∃ k : Nat, more = k := ⟨more.toNat, by omega⟩
  have hpl : pl ≤ mo := by omega
  have hmo : mo ≤ 9 := by omega
  repeat' first | ((with_reducible (first | refine condD ?_ ?_ | refine condE ?_ ?_ | refine condN ?_ ?_ | refine condI ?_ ?_ | refine condS ?_ ?_)) <;> intro h) | ((with_reducible (first | refine guardD (by with_unfolding_all rfl) ?_ ?_ | refine guardE (by with_unfolding_all rfl) ?_ ?_ | refine guardN (by with_unfolding_all rfl) ?_ ?_ | refine guardI (by with_unfolding_all rfl) ?_ ?_ | refine guardS (by with_unfolding_all rfl) ?_ ?_)) <;> intro h) | (with_reducible refine And.intro ?_ ?_; omega) | (simp only [done_eq, done_eq', donet_eq, donet_eq', fin_val, fin_tup, fin_agg, fin_ro, res_one, res_more, rv_t, rv_c, rv_l, AV.tup.injEq, AV.agg.injEq, AV.ro.injEq, List.cons.injEq, int_eq, bool_eq, Int.toNat_natCast, Int.reduceToNat, Int.toNat_zero, Int.toNat_one, Int.reduceLE, Int.reduceLT, Int.reduceBEq, Int.reduceBNe, beq_self_eq_true, bne_self_eq_false, decide_true, decide_false,  Int.reduceNeg, toNat_pred, toNat_succ, List.length_map, cnd_t, cnd_f, grd_tt, grd_u, grd_tf, grd_ft, grd_ff, g_skip, g_ops, g_seq, g_block, g_exit, g_ret, x_c, x_o, x_l, x_b, g_b, g_nil, r_all, o_nil, g_cond, o_guard, o_call, o_callm, o_callt, o_callx, o_callv, lk, ef, o_mv, o_pick, o_bin, o_never, o_eqs, o_eqb, o_un, o_conv, o_load, o_loadr, o_idxr, o_loads, o_fld, o_idx, o_idxs, o_len, o_lens, o_ext, o_nilck, o_slc, o_slcs, o_build, o_minmax, o_mkfn, o_alloc, o_box, o_boxs, o_row, o_rowr, o_mk, o_asg, o_app, o_store, o_stores, o_eqnil, hv, eqAV, ev, view_t, view_c, view_nil, view_fn, look_own, look_box, look_junk, look_val, look_nilsl, look_ro, look_roAt, look_agg, look_tup, look_clo, look_alias, look_ref, look_into, rowOf, cellsOf, argv, vbin, vun, bnd, elemOf, putParts, setAt, zav, ASt.rid, ASt.free, AV.kill, AV.isHome, AV.noLoan, AV.cellOK, Value.oneCell', put_at, mk_at, mk_nil, initSt, true_and, and_true, and_self, implies_true, List.map_cons, List.map_nil, List.forall_mem_cons, List.not_mem_nil, false_implies, List.length_cons, List.length_nil, List.getD_cons_zero, List.getD_cons_succ, List.getD_nil, List.drop_succ_cons, List.drop_zero, List.take_succ_cons, List.take_zero, List.set_cons_zero, List.set_cons_succ, List.all_cons, List.all_nil, Bool.and_true, Bool.true_and, Bool.not_true, Bool.not_false, reduceCtorEq, if_true, if_false, Bool.false_eq_true, ↓reduceIte, Nat.reduceEqDiff, Nat.reduceAdd, Nat.reduceSub, Nat.reduceMul, Nat.reduceLeDiff, Nat.reduceLT, ne_eq, not_false_eq_true, not_true_eq_false, Nat.one_ne_zero, Nat.zero_ne_one, r4_0, r4_1, r4_2, r4_3, r4_4, r4_5, r4_7, r4_6, r4_8, r4_9, r4_10, r4_11, r4_12, p4, q1, q2, q3, q4]) | (exfalso; omega)
  refine loopS (fun k : Nat => mk [(0, .val (.int .i64 n)), (1, .val (.int .i64 pl)), (2, .val (.int .i64 mo)), (3, .val (.int .i64 way)), (9, .val (.int .i64 (10 ^ k : Nat))), (10, .val (.int .i64 k))]) (fun k => k ≤ pl) (fun k => pl - k) 0 (weak_mk ?_) (Nat.zero_le _) ?_
  · simp only [wk_cons, wk_nil, wk1, vint_eq, vbool_eq, AV.val.injEq, done_eq, done_eq', donet_eq, donet_eq', fin_val, fin_tup, fin_agg, fin_ro, res_one, res_more, rv_t, rv_c, rv_l, AV.tup.injEq, AV.agg.injEq, AV.ro.injEq, List.cons.injEq, int_eq, bool_eq, Int.toNat_natCast, Int.reduceToNat, Int.toNat_zero, Int.toNat_one, Int.reduceLE, Int.reduceLT, Int.reduceBEq, Int.reduceBNe, beq_self_eq_true, bne_self_eq_false, decide_true, decide_false,  Int.reduceNeg, toNat_pred, toNat_succ, List.length_map, cnd_t, cnd_f, grd_tt, grd_u, grd_tf, grd_ft, grd_ff, g_skip, g_ops, g_seq, g_block, g_exit, g_ret, x_c, x_o, x_l, x_b, g_b, g_nil, r_all, o_nil, g_cond, o_guard, o_call, o_callm, o_callt, o_callx, o_callv, lk, ef, o_mv, o_pick, o_bin, o_never, o_eqs, o_eqb, o_un, o_conv, o_load, o_loadr, o_idxr, o_loads, o_fld, o_idx, o_idxs, o_len, o_lens, o_ext, o_nilck, o_slc, o_slcs, o_build, o_minmax, o_mkfn, o_alloc, o_box, o_boxs, o_row, o_rowr, o_mk, o_asg, o_app, o_store, o_stores, o_eqnil, hv, eqAV, ev, view_t, view_c, view_nil, view_fn, look_own, look_box, look_junk, look_val, look_nilsl, look_ro, look_roAt, look_agg, look_tup, look_clo, look_alias, look_ref, look_into, rowOf, cellsOf, argv, vbin, vun, bnd, elemOf, putParts, setAt, zav, ASt.rid, ASt.free, AV.kill, AV.isHome, AV.noLoan, AV.cellOK, Value.oneCell', put_at, mk_at, mk_nil, initSt, true_and, and_true, and_self, implies_true, List.map_cons, List.map_nil, List.forall_mem_cons, List.not_mem_nil, false_implies, List.length_cons, List.length_nil, List.getD_cons_zero, List.getD_cons_succ, List.getD_nil, List.drop_succ_cons, List.drop_zero, List.take_succ_cons, List.take_zero, List.set_cons_zero, List.set_cons_succ, List.all_cons, List.all_nil, Bool.and_true, Bool.true_and, Bool.not_true, Bool.not_false, reduceCtorEq, if_true, if_false, Bool.false_eq_true, ↓reduceIte, Nat.reduceEqDiff, Nat.reduceAdd, Nat.reduceSub, Nat.reduceMul, Nat.reduceLeDiff, Nat.reduceLT, ne_eq, not_false_eq_true, not_true_eq_false, Nat.one_ne_zero, Nat.zero_ne_one]
    exact ⟨rfl, rfl⟩
  rintro J hJ k hk
  by_cases hlt : k < pl
  · have hw := i_add1 k (by omega)
    have hki : (k : Int) < pl := by omega
    have hp9 := pow_9 (n := k) (by omega)
    have hw2 : IntKind.i64.wrap (((10 ^ k : Nat) : Int) * 10) = ((10 ^ (k + 1) : Nat) : Int) := by
      rw [Nat.pow_succ]
      generalize 10 ^ k = z at *
      rw [wrap_in (by omega) (by omega)]; omega
    repeat' first | ((with_reducible (first | refine condD ?_ ?_ | refine condE ?_ ?_ | refine condN ?_ ?_ | refine condI ?_ ?_ | refine condS ?_ ?_)) <;> intro h) | ((with_reducible (first | refine guardD (by with_unfolding_all rfl) ?_ ?_ | refine guardE (by with_unfolding_all rfl) ?_ ?_ | refine guardN (by with_unfolding_all rfl) ?_ ?_ | refine guardI (by with_unfolding_all rfl) ?_ ?_ | refine guardS (by with_unfolding_all rfl) ?_ ?_)) <;> intro h) | (with_reducible refine And.intro ?_ ?_; omega) | (simp only [done_eq, done_eq', donet_eq, donet_eq', fin_val, fin_tup, fin_agg, fin_ro, res_one, res_more, rv_t, rv_c, rv_l, AV.tup.injEq, AV.agg.injEq, AV.ro.injEq, List.cons.injEq, int_eq, bool_eq, Int.toNat_natCast, Int.reduceToNat, Int.toNat_zero, Int.toNat_one, Int.reduceLE, Int.reduceLT, Int.reduceBEq, Int.reduceBNe, beq_self_eq_true, bne_self_eq_false, decide_true, decide_false,  Int.reduceNeg, toNat_pred, toNat_succ, List.length_map, cnd_t, cnd_f, grd_tt, grd_u, grd_tf, grd_ft, grd_ff, g_skip, g_ops, g_seq, g_block, g_exit, g_ret, x_c, x_o, x_l, x_b, g_b, g_nil, r_all, o_nil, g_cond, o_guard, o_call, o_callm, o_callt, o_callx, o_callv, lk, ef, o_mv, o_pick, o_bin, o_never, o_eqs, o_eqb, o_un, o_conv, o_load, o_loadr, o_idxr, o_loads, o_fld, o_idx, o_idxs, o_len, o_lens, o_ext, o_nilck, o_slc, o_slcs, o_build, o_minmax, o_mkfn, o_alloc, o_box, o_boxs, o_row, o_rowr, o_mk, o_asg, o_app, o_store, o_stores, o_eqnil, hv, eqAV, ev, view_t, view_c, view_nil, view_fn, look_own, look_box, look_junk, look_val, look_nilsl, look_ro, look_roAt, look_agg, look_tup, look_clo, look_alias, look_ref, look_into, rowOf, cellsOf, argv, vbin, vun, bnd, elemOf, putParts, setAt, zav, ASt.rid, ASt.free, AV.kill, AV.isHome, AV.noLoan, AV.cellOK, Value.oneCell', put_at, mk_at, mk_nil, initSt, true_and, and_true, and_self, implies_true, List.map_cons, List.map_nil, List.forall_mem_cons, List.not_mem_nil, false_implies, List.length_cons, List.length_nil, List.getD_cons_zero, List.getD_cons_succ, List.getD_nil, List.drop_succ_cons, List.drop_zero, List.take_succ_cons, List.take_zero, List.set_cons_zero, List.set_cons_succ, List.all_cons, List.all_nil, Bool.and_true, Bool.true_and, Bool.not_true, Bool.not_false, reduceCtorEq, if_true, if_false, Bool.false_eq_true, ↓reduceIte, Nat.reduceEqDiff, Nat.reduceAdd, Nat.reduceSub, Nat.reduceMul, Nat.reduceLeDiff, Nat.reduceLT, ne_eq, not_false_eq_true, not_true_eq_false, Nat.one_ne_zero, Nat.zero_ne_one, r4_0, r4_1, r4_2, r4_3, r4_4, r4_5, r4_7, r4_6, r4_8, r4_9, r4_10, r4_11, r4_12, p4, l4_0, hw, hw2, hki]) | (exfalso; omega)
    all_goals first | omega | exact again hJ (k + 1) (weak_mk (by simp only [wk_cons, wk_nil, wk1, vint_eq, vbool_eq, AV.val.injEq, done_eq, done_eq', donet_eq, donet_eq', fin_val, fin_tup, fin_agg, fin_ro, res_one, res_more, rv_t, rv_c, rv_l, AV.tup.injEq, AV.agg.injEq, AV.ro.injEq, List.cons.injEq, int_eq, bool_eq, Int.toNat_natCast, Int.reduceToNat, Int.toNat_zero, Int.toNat_one, Int.reduceLE, Int.reduceLT, Int.reduceBEq, Int.reduceBNe, beq_self_eq_true, bne_self_eq_false, decide_true, decide_false,  Int.reduceNeg, toNat_pred, toNat_succ, List.length_map, cnd_t, cnd_f, grd_tt, grd_u, grd_tf, grd_ft, grd_ff, g_skip, g_ops, g_seq, g_block, g_exit, g_ret, x_c, x_o, x_l, x_b, g_b, g_nil, r_all, o_nil, g_cond, o_guard, o_call, o_callm, o_callt, o_callx, o_callv, lk, ef, o_mv, o_pick, o_bin, o_never, o_eqs, o_eqb, o_un, o_conv, o_load, o_loadr, o_idxr, o_loads, o_fld, o_idx, o_idxs, o_len, o_lens, o_ext, o_nilck, o_slc, o_slcs, o_build, o_minmax, o_mkfn, o_alloc, o_box, o_boxs, o_row, o_rowr, o_mk, o_asg, o_app, o_store, o_stores, o_eqnil, hv, eqAV, ev, view_t, view_c, view_nil, view_fn, look_own, look_box, look_junk, look_val, look_nilsl, look_ro, look_roAt, look_agg, look_tup, look_clo, look_alias, look_ref, look_into, rowOf, cellsOf, argv, vbin, vun, bnd, elemOf, putParts, setAt, zav, ASt.rid, ASt.free, AV.kill, AV.isHome, AV.noLoan, AV.cellOK, Value.oneCell', put_at, mk_at, mk_nil, initSt, true_and, and_true, and_self, implies_true, List.map_cons, List.map_nil, List.forall_mem_cons, List.not_mem_nil, false_implies, List.length_cons, List.length_nil, List.getD_cons_zero, List.getD_cons_succ, List.getD_nil, List.drop_succ_cons, List.drop_zero, List.take_succ_cons, List.take_zero, List.set_cons_zero, List.set_cons_succ, List.all_cons, List.all_nil, Bool.and_true, Bool.true_and, Bool.not_true, Bool.not_false, reduceCtorEq, if_true, if_false, Bool.false_eq_true, ↓reduceIte, Nat.reduceEqDiff, Nat.reduceAdd, Nat.reduceSub, Nat.reduceMul, Nat.reduceLeDiff, Nat.reduceLT, ne_eq, not_false_eq_true, not_true_eq_false, Nat.one_ne_zero, Nat.zero_ne_one])) (by omega) (by omega)
  have hke : k = pl := by omega
  subst hke
  clear hJ
  have hki : ¬ (k : Int) < k := by omega
  have hself : ((BS []).toList == (BS []).toList) = true := by simp
  by_cases hT : noTime n = true
  · have hD := decimal_no n ((10 ^ k : Nat) : Int) (mo : Int) hT
    generalize 10 ^ k = S at *
    repeat' first | ((with_reducible (first | refine condD ?_ ?_ | refine condE ?_ ?_ | refine condN ?_ ?_ | refine condI ?_ ?_ | refine condS ?_ ?_)) <;> intro h) | ((with_reducible (first | refine guardD (by with_unfolding_all rfl) ?_ ?_ | refine guardE (by with_unfolding_all rfl) ?_ ?_ | refine guardN (by with_unfolding_all rfl) ?_ ?_ | refine guardI (by with_unfolding_all rfl) ?_ ?_ | refine guardS (by with_unfolding_all rfl) ?_ ?_)) <;> intro h) | ((refine callG hD ?_)) | ((refine callG awake1_c ?_)) | (with_reducible refine And.intro ?_ ?_; omega) | (simp only [done_eq, done_eq', donet_eq, donet_eq', fin_val, fin_tup, fin_agg, fin_ro, res_one, res_more, rv_t, rv_c, rv_l, AV.tup.injEq, AV.agg.injEq, AV.ro.injEq, List.cons.injEq, int_eq, bool_eq, Int.toNat_natCast, Int.reduceToNat, Int.toNat_zero, Int.toNat_one, Int.reduceLE, Int.reduceLT, Int.reduceBEq, Int.reduceBNe, beq_self_eq_true, bne_self_eq_false, decide_true, decide_false,  Int.reduceNeg, toNat_pred, toNat_succ, List.length_map, cnd_t, cnd_f, grd_tt, grd_u, grd_tf, grd_ft, grd_ff, g_skip, g_ops, g_seq, g_block, g_exit, g_ret, x_c, x_o, x_l, x_b, g_b, g_nil, r_all, o_nil, g_cond, o_guard, o_call, o_callm, o_callt, o_callx, o_callv, lk, ef, o_mv, o_pick, o_bin, o_never, o_eqs, o_eqb, o_un, o_conv, o_load, o_loadr, o_idxr, o_loads, o_fld, o_idx, o_idxs, o_len, o_lens, o_ext, o_nilck, o_slc, o_slcs, o_build, o_minmax, o_mkfn, o_alloc, o_box, o_boxs, o_row, o_rowr, o_mk, o_asg, o_app, o_store, o_stores, o_eqnil, hv, eqAV, ev, view_t, view_c, view_nil, view_fn, look_own, look_box, look_junk, look_val, look_nilsl, look_ro, look_roAt, look_agg, look_tup, look_clo, look_alias, look_ref, look_into, rowOf, cellsOf, argv, vbin, vun, bnd, elemOf, putParts, setAt, zav, ASt.rid, ASt.free, AV.kill, AV.isHome, AV.noLoan, AV.cellOK, Value.oneCell', put_at, mk_at, mk_nil, initSt, true_and, and_true, and_self, implies_true, List.map_cons, List.map_nil, List.forall_mem_cons, List.not_mem_nil, false_implies, List.length_cons, List.length_nil, List.getD_cons_zero, List.getD_cons_succ, List.getD_nil, List.drop_succ_cons, List.drop_zero, List.take_succ_cons, List.take_zero, List.set_cons_zero, List.set_cons_succ, List.all_cons, List.all_nil, Bool.and_true, Bool.true_and, Bool.not_true, Bool.not_false, reduceCtorEq, if_true, if_false, Bool.false_eq_true, ↓reduceIte, Nat.reduceEqDiff, Nat.reduceAdd, Nat.reduceSub, Nat.reduceMul, Nat.reduceLeDiff, Nat.reduceLT, ne_eq, not_false_eq_true, not_true_eq_false, Nat.one_ne_zero, Nat.zero_ne_one, r4_0, r4_1, r4_2, r4_3, r4_4, r4_5, r4_7, r4_6, r4_8, r4_9, r4_10, r4_11, r4_12, p4, l4_0, hki, BS_nil, hself]) | (exfalso; omega)
  have hb := of_noTime (by simpa using hT)
  have d := decN_of hpl hmo (size := n.natAbs) (by omega)
  have hD := decimal_yes n d rfl
  have hS1 := d.hS1
  have hS9 := d.hS9
  by_cases hway : outB way 1 3 = true
  · have hR := rdec_kind (decText (decide (n < 0)) (n.natAbs / 10 ^ k) mo (n.natAbs % 10 ^ k * 10 ^ (mo - k))) (10 ^ k) way hS1 hS9 hway
    generalize decText (decide (n < 0)) (n.natAbs / 10 ^ k) mo (n.natAbs % 10 ^ k * 10 ^ (mo - k)) = T at *
    generalize 10 ^ k = S at *
    repeat' first | ((with_reducible (first | refine condD ?_ ?_ | refine condE ?_ ?_ | refine condN ?_ ?_ | refine condI ?_ ?_ | refine condS ?_ ?_)) <;> intro h) | ((with_reducible (first | refine guardD (by with_unfolding_all rfl) ?_ ?_ | refine guardE (by with_unfolding_all rfl) ?_ ?_ | refine guardN (by with_unfolding_all rfl) ?_ ?_ | refine guardI (by with_unfolding_all rfl) ?_ ?_ | refine guardS (by with_unfolding_all rfl) ?_ ?_)) <;> intro h) | ((refine callG hD ?_)) | ((refine callG hR ?_)) | ((refine callG awake1_c ?_)) | (with_reducible refine And.intro ?_ ?_; omega) | (simp only [done_eq, done_eq', donet_eq, donet_eq', fin_val, fin_tup, fin_agg, fin_ro, res_one, res_more, rv_t, rv_c, rv_l, AV.tup.injEq, AV.agg.injEq, AV.ro.injEq, List.cons.injEq, int_eq, bool_eq, Int.toNat_natCast, Int.reduceToNat, Int.toNat_zero, Int.toNat_one, Int.reduceLE, Int.reduceLT, Int.reduceBEq, Int.reduceBNe, beq_self_eq_true, bne_self_eq_false, decide_true, decide_false,  Int.reduceNeg, toNat_pred, toNat_succ, List.length_map, cnd_t, cnd_f, grd_tt, grd_u, grd_tf, grd_ft, grd_ff, g_skip, g_ops, g_seq, g_block, g_exit, g_ret, x_c, x_o, x_l, x_b, g_b, g_nil, r_all, o_nil, g_cond, o_guard, o_call, o_callm, o_callt, o_callx, o_callv, lk, ef, o_mv, o_pick, o_bin, o_never, o_eqs, o_eqb, o_un, o_conv, o_load, o_loadr, o_idxr, o_loads, o_fld, o_idx, o_idxs, o_len, o_lens, o_ext, o_nilck, o_slc, o_slcs, o_build, o_minmax, o_mkfn, o_alloc, o_box, o_boxs, o_row, o_rowr, o_mk, o_asg, o_app, o_store, o_stores, o_eqnil, hv, eqAV, ev, view_t, view_c, view_nil, view_fn, look_own, look_box, look_junk, look_val, look_nilsl, look_ro, look_roAt, look_agg, look_tup, look_clo, look_alias, look_ref, look_into, rowOf, cellsOf, argv, vbin, vun, bnd, elemOf, putParts, setAt, zav, ASt.rid, ASt.free, AV.kill, AV.isHome, AV.noLoan, AV.cellOK, Value.oneCell', put_at, mk_at, mk_nil, initSt, true_and, and_true, and_self, implies_true, List.map_cons, List.map_nil, List.forall_mem_cons, List.not_mem_nil, false_implies, List.length_cons, List.length_nil, List.getD_cons_zero, List.getD_cons_succ, List.getD_nil, List.drop_succ_cons, List.drop_zero, List.take_succ_cons, List.take_zero, List.set_cons_zero, List.set_cons_succ, List.all_cons, List.all_nil, Bool.and_true, Bool.true_and, Bool.not_true, Bool.not_false, reduceCtorEq, if_true, if_false, Bool.false_eq_true, ↓reduceIte, Nat.reduceEqDiff, Nat.reduceAdd, Nat.reduceSub, Nat.reduceMul, Nat.reduceLeDiff, Nat.reduceLT, ne_eq, not_false_eq_true, not_true_eq_false, Nat.one_ne_zero, Nat.zero_ne_one, r4_0, r4_1, r4_2, r4_3, r4_4, r4_5, r4_7, r4_6, r4_8, r4_9, r4_10, r4_11, r4_12, p4, l4_0, hki]) | (exfalso; omega)
  · have hR := rdec_c (decide (n < 0)) way (by simpa using hway) d
    have hnv : (if decide (n < 0) = true then -((n.natAbs : Nat) : Int) else ((n.natAbs : Nat) : Int)) = n := by
      by_cases h0 : n < 0
      · rw [if_pos (by simpa using h0)]; omega
      · rw [if_neg (by simpa using h0)]; omega
    rw [hnv] at hR
    have hnn : (n == n) = true := by simp
    generalize decText (decide (n < 0)) (n.natAbs / 10 ^ k) mo (n.natAbs % 10 ^ k * 10 ^ (mo - k)) = T at *
    generalize 10 ^ k = S at *
    repeat' first | ((with_reducible (first | refine condD ?_ ?_ | refine condE ?_ ?_ | refine condN ?_ ?_ | refine condI ?_ ?_ | refine condS ?_ ?_)) <;> intro h) | ((with_reducible (first | refine guardD (by with_unfolding_all rfl) ?_ ?_ | refine guardE (by with_unfolding_all rfl) ?_ ?_ | refine guardN (by with_unfolding_all rfl) ?_ ?_ | refine guardI (by with_unfolding_all rfl) ?_ ?_ | refine guardS (by with_unfolding_all rfl) ?_ ?_)) <;> intro h) | ((refine callG hD ?_)) | ((refine callG hR ?_)) | ((refine callG awake1_c ?_)) | (with_reducible refine And.intro ?_ ?_; omega) | (simp only [done_eq, done_eq', donet_eq, donet_eq', fin_val, fin_tup, fin_agg, fin_ro, res_one, res_more, rv_t, rv_c, rv_l, AV.tup.injEq, AV.agg.injEq, AV.ro.injEq, List.cons.injEq, int_eq, bool_eq, Int.toNat_natCast, Int.reduceToNat, Int.toNat_zero, Int.toNat_one, Int.reduceLE, Int.reduceLT, Int.reduceBEq, Int.reduceBNe, beq_self_eq_true, bne_self_eq_false, decide_true, decide_false,  Int.reduceNeg, toNat_pred, toNat_succ, List.length_map, cnd_t, cnd_f, grd_tt, grd_u, grd_tf, grd_ft, grd_ff, g_skip, g_ops, g_seq, g_block, g_exit, g_ret, x_c, x_o, x_l, x_b, g_b, g_nil, r_all, o_nil, g_cond, o_guard, o_call, o_callm, o_callt, o_callx, o_callv, lk, ef, o_mv, o_pick, o_bin, o_never, o_eqs, o_eqb, o_un, o_conv, o_load, o_loadr, o_idxr, o_loads, o_fld, o_idx, o_idxs, o_len, o_lens, o_ext, o_nilck, o_slc, o_slcs, o_build, o_minmax, o_mkfn, o_alloc, o_box, o_boxs, o_row, o_rowr, o_mk, o_asg, o_app, o_store, o_stores, o_eqnil, hv, eqAV, ev, view_t, view_c, view_nil, view_fn, look_own, look_box, look_junk, look_val, look_nilsl, look_ro, look_roAt, look_agg, look_tup, look_clo, look_alias, look_ref, look_into, rowOf, cellsOf, argv, vbin, vun, bnd, elemOf, putParts, setAt, zav, ASt.rid, ASt.free, AV.kill, AV.isHome, AV.noLoan, AV.cellOK, Value.oneCell', put_at, mk_at, mk_nil, initSt, true_and, and_true, and_self, implies_true, List.map_cons, List.map_nil, List.forall_mem_cons, List.not_mem_nil, false_implies, List.length_cons, List.length_nil, List.getD_cons_zero, List.getD_cons_succ, List.getD_nil, List.drop_succ_cons, List.drop_zero, List.take_succ_cons, List.take_zero, List.set_cons_zero, List.set_cons_succ, List.all_cons, List.all_nil, Bool.and_true, Bool.true_and, Bool.not_true, Bool.not_false, reduceCtorEq, if_true, if_false, Bool.false_eq_true, ↓reduceIte, Nat.reduceEqDiff, Nat.reduceAdd, Nat.reduceSub, Nat.reduceMul, Nat.reduceLeDiff, Nat.reduceLT, ne_eq, not_false_eq_true, not_true_eq_false, Nat.one_ne_zero, Nat.zero_ne_one, r4_0, r4_1, r4_2, r4_3, r4_4, r4_5, r4_7, r4_6, r4_8, r4_9, r4_10, r4_11, r4_12, p4, l4_0, hki, hnn]) | (exfalso; omega)
theorem decback_c : ∀ avs, HasArgs [.one (.int .i64), .one (.int .i64), .one (.int .i64), .one (.int .i64)] avs → CallOK Tryd.prog 4 avs (.val (.bool true)) := by
  intro avs h
  obtain ⟨v0, r, rfl, h0, h⟩ := args_cons h
  obtain ⟨v1, r, rfl, h1, h⟩ := args_cons h
  obtain ⟨v2, r, rfl, h2, h⟩ := args_cons h
  obtain ⟨v3, r, rfl, h3, h⟩ := args_cons h
  obtain rfl := args_nil h
  obtain ⟨n0, rfl, hb0⟩ := has_int h0
  obtain ⟨n1, rfl, hb1⟩ := has_int h1
  obtain ⟨n2, rfl, hb2⟩ := has_int h2
  obtain ⟨n3, rfl, hb3⟩ := has_int h3
  exact decback_d n0 n1 n2 n3 hb0

/-! ### The row -/
open Go.ChangeShapes Go.WideShapes Go.ChangeAt

set_option maxRecDepth 100000 in
theorem decback_door (os : Os) (args : Array Value) : laidMetH Tryd.prog Rows.tickDecimalsComeBackRow.laid ((World.doorLaid Tryd.prog 400 os).forCall (fun _ _ => 0) ⟨#[], args, []⟩).memory :=
  laidMetH_of_parts3 (fuel := 8) (laidMet_of_run' 8 (by kernel_rfl) (by kernel_rfl)) (by kernel_rfl) (by kernel_rfl)
set_option maxRecDepth 100000 in
theorem decback_lifted (os : Os) (started : os.Started) (H : Type) (enc : TypeId × Value → H) :
    ReturnsInHanded {} Tryd.checked os 4 .any (fun w args => (Rows.tickDecimalsComeBackSpec.pre enc Tryd.prog Tryd.f4 [] false w args ∧ laidMetH Tryd.prog Rows.tickDecimalsComeBackRow.laid w) ∧ sizedMet enc Tryd.prog Tryd.f4 (OpenSpec.ofChange Rows.tickDecimalsComeBackSpec) false w args) (Rows.tickDecimalsComeBackSpec.post enc Tryd.prog Tryd.f4 false true false false) := by
  refine returnsInHanded_of_change_and (C := Tryd.checked) (X := fun w _ => laidMetH Tryd.prog Rows.tickDecimalsComeBackRow.laid w) (fun _ _ _ hh h => h.of_heap hh) own_knob started (by kernel_rfl) Tryd.func4
    (ChangeSpec.witness_shaped (enc := enc) (C := Tryd.checked) (os := os) (X := fun w _ => laidMetH Tryd.prog Rows.tickDecimalsComeBackRow.laid w) false (World.doorLaid Tryd.prog 400 os) #[.int .i64 0, .int .i64 0, .int .i64 0, .int .i64 0] 8 rfl (World.shaped_of_RefB (by kernel_rfl) (by kernel_rfl)) (by kernel_rfl) (by kernel_rfl) (by kernel_rfl) (decback_door os _)) ?_
  intro W base args ds gs before hval hW _ _ hL _
  refine law_step rfl (by kernel_rfl) (fun ds h => ?_) ?_ hval hW ?_
  · match ds, h with | [a, b, c, d], _ => exact ⟨rfl, rfl, rfl⟩
  · rw [Tryd.params4]
    intro t ht
    simp only [List.mem_cons, List.not_mem_nil, or_false] at ht
    repeat' (first | (rcases ht with rfl | ht) | subst ht)
    all_goals exact ⟨by kernel_rfl, of_decide_eq_true (by kernel_rfl)⟩
  · rw [Tryd.params4]
    intro hin
    exact law_dmT (ss := [.one (.int .i64), .one (.int .i64), .one (.int .i64), .one (.int .i64)]) (by kernel_rfl) hin (tab_of_laid 2 (by kernel_rfl) (by kernel_rfl) hL) decback_c
theorem decback_row : Rows.TickDecimalsComeBackSaid :=
  OpenClaim.holds_of_wide 4 Tryd.f4 rfl rfl rfl rfl rfl rfl rfl ⟨rfl, rfl, rfl, rfl, rfl⟩ rfl rfl rfl rfl rfl (by kernel_rfl) Tryd.func4 (by kernel_rfl)
    (of_decide_eq_true (by kernel_rfl)) (by unfold Func.isWrapper; first | (rw [if_pos (by decide +kernel)]; kernel_rfl) | (rw [if_neg (by decide +kernel)]; exact ⟨rfl, rfl⟩))
    (fun os started H enc _ => decback_lifted os started H enc)

/-- The card: what the row lists is tied to the program's text. -/
theorem decback_holds : Rows.TickDecimalsComeBackCardSaid :=
  Claim7.holds_tied_plain_at .later [] [.data, .data, .data] true (true, "34196f8bdd3dcdedca20c57aa18e17ee47bef08a005c81fbdf9c096c09cf1939") true
    decback_row (fun _ h => by cases h) (by kernel_rfl) (fun _ h => by cases h) tickDecimalsComeBack_row_tie rfl ⟨rfl, rfl⟩ (by kernel_rfl) rfl
    (fun f fn hf hfn => by
      obtain rfl : f = 4 := Option.some.inj ((show Tryd.prog.funcNamed "headend/headendlaw1.TickDecimalsComeBack" = some 4 by kernel_rfl).symm.trans hf) |>.symm
      obtain rfl : fn = Tryd.f4 := (Option.some.inj (Tryd.func4.symm.trans hfn)).symm
      exact ⟨by kernel_rfl, fun j t ht => by
        rw [Tryd.params4] at ht
        have hm := Array.mem_of_getElem? ht
        have hall : ([3, 3, 3, 3].all fun u => !Tryd.prog.wantsStandIn u) = true := by kernel_rfl
        have hm : t ∈ [3, 3, 3, 3] := by simpa using hm
        exact (show Tryd.prog.wantsStandIn t = false by simpa using List.all_eq_true.1 hall t hm)⟩)
    (by kernel_rfl)

end Go.Proofs.YtdfhpcghfmlfjaaDoor
