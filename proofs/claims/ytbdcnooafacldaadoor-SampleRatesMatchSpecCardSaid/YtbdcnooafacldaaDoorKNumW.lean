/- The reference's numbers as fractions: what Times, Over, round give does not depend on how a fraction is written. -/
import Derived.Test.YtbdcnooafacldaaDoorKNumR
import Derived.Shelf.Strconv.Itoa3
import Derived.Lib.AppendIntMem
import Derived.Lib.RepeatB
import Derived.Lib.AtoiAll
namespace Go.Proofs.YtbdcnooafacldaaDoor
open Go.RowKit
set_option linter.unusedSimpArgs false

/-- The number z / q in lowest terms. -/
def RQ (z : Int) (q : Nat) : List AV := numAV (decide (z < 0)) (z.natAbs / Nat.gcd z.natAbs q) (q / Nat.gcd z.natAbs q)
theorem rq_of (neg : Bool) (t b : Nat) : numAV (neg && decide (0 < t)) (t / Nat.gcd t b) (b / Nat.gcd t b) = RQ (if neg then -(t : Int) else t) b := by
  unfold RQ
  have e1 : (if neg then -(t : Int) else t).natAbs = t := by split <;> omega
  have e2 : decide ((if neg then -(t : Int) else t) < 0) = (neg && decide (0 < t)) := by
    cases neg
    · simp
    · simp only [if_true, Bool.true_and]
      exact decide_eq_decide.2 (by omega)
  rw [e1, e2]
theorem rq_scale (z : Int) (q k : Nat) (hk : 0 < k) : RQ (z * k) (q * k) = RQ z q := by
  unfold RQ
  have e1 : (z * k).natAbs = z.natAbs * k := by rw [Int.natAbs_mul, Int.natAbs_natCast]
  have e2 : decide (z * k < 0) = decide (z < 0) := decide_eq_decide.2 ⟨fun h => by
    refine Int.not_le.1 fun q => ?_
    have := Int.mul_nonneg q (show (0 : Int) ≤ k by omega)
    omega, fun h => Int.mul_neg_of_neg_of_pos h (by omega)⟩
  rw [e1, e2, Nat.gcd_mul_right, Nat.mul_div_mul_right _ _ hk, Nat.mul_div_mul_right _ _ hk]
theorem sgn_eq {a : Int} {g : Nat} (hg : g ∣ a.natAbs) : a = (if decide (a < 0) then -((a.natAbs / g : Nat) : Int) else ((a.natAbs / g : Nat) : Int)) * (g : Int) := by
  have h := Nat.div_mul_cancel hg
  have h2 : ((a.natAbs / g : Nat) : Int) * (g : Int) = (a.natAbs : Int) := by rw [← Int.natCast_mul, h]
  by_cases q : a < 0
  · rw [decide_eq_true q, if_pos rfl, Int.neg_mul, h2]; omega
  · rw [decide_eq_false q, if_neg (by simp), h2]; omega
theorem mul_sgn (n1 n2 : Bool) (t1 t2 : Nat) : (if (!(n1 == n2)) = true then -((t1 * t2 : Nat) : Int) else ((t1 * t2 : Nat) : Int)) = (if n1 = true then -(t1 : Int) else (t1 : Int)) * (if n2 = true then -(t2 : Int) else (t2 : Int)) := by
  cases n1 <;> cases n2 <;> simp [Int.neg_mul, Int.mul_neg]
theorem gcd_pos {z : Int} {q : Nat} (hq : 0 < q) : 0 < Nat.gcd z.natAbs q := Nat.gcd_pos_of_pos_right _ hq
theorem red_le {a g k : Nat} (h : (lm a).length ≤ k) : (lm (a / g)).length ≤ k := Nat.le_trans (lm_le (Nat.div_le_self _ _)) h
theorem red_pos {z : Int} {q : Nat} (hq : 0 < q) : 0 < q / Nat.gcd z.natAbs q := Nat.div_pos (Nat.le_of_dvd hq (Nat.gcd_dvd_right _ _)) (gcd_pos hq)
theorem mul4 (a b c d : Int) : a * b * (c * d) = a * c * (b * d) := by rw [Int.mul_assoc, Int.mul_left_comm b, ← Int.mul_assoc]
theorem mul4n (a b c d : Nat) : a * b * (c * d) = a * c * (b * d) := by rw [Nat.mul_assoc, Nat.mul_left_comm b, ← Nat.mul_assoc]
theorem times_q (a b : Int) (q r : Nat) (hq : 0 < q) (hr : 0 < r) (k1 : (lm a.natAbs).length ≤ 400) (k2 : (lm q).length ≤ 400) (k3 : (lm b.natAbs).length ≤ 400) (k4 : (lm r).length ≤ 400) :
    CallOK Tryd.prog 29 [.agg (RQ a q), .agg (RQ b r)] (.agg (RQ (a * b) (q * r))) := by
  have h := ntimes_c (decide (a < 0)) (a.natAbs / Nat.gcd a.natAbs q) (q / Nat.gcd a.natAbs q) (decide (b < 0)) (b.natAbs / Nat.gcd b.natAbs r) (r / Nat.gcd b.natAbs r) (red_pos hq) (red_pos hr) (red_le k1) (red_le k2) (red_le k3) (red_le k4)
  rw [rq_of, mul_sgn, ← rq_scale _ _ _ (Nat.mul_pos (gcd_pos (z := a) hq) (gcd_pos (z := b) hr)), Int.natCast_mul, mul4, mul4n, ← sgn_eq (Nat.gcd_dvd_left _ _), ← sgn_eq (Nat.gcd_dvd_left _ _), Nat.div_mul_cancel (Nat.gcd_dvd_right _ _), Nat.div_mul_cancel (Nat.gcd_dvd_right _ _)] at h
  exact h
theorem over_q (a : Int) (b q r : Nat) (hq : 0 < q) (hb : 0 < b) (hr : 0 < r) (k1 : (lm a.natAbs).length ≤ 400) (k2 : (lm q).length ≤ 400) (k3 : (lm b).length ≤ 400) (k4 : (lm r).length ≤ 400) :
    CallOK Tryd.prog 28 [.agg (RQ a q), .agg (RQ b r)] (.agg (RQ (a * r) (q * b))) := by
  have hd : decide ((b : Int) < 0) = false := decide_eq_false (by omega)
  have hgp : 0 < Nat.gcd b r := Nat.gcd_pos_of_pos_right _ hr
  have h := over_c (decide (a < 0)) (a.natAbs / Nat.gcd a.natAbs q) (q / Nat.gcd a.natAbs q) (decide ((b : Int) < 0)) (b / Nat.gcd b r) (r / Nat.gcd b r) (red_pos hq) (Nat.div_pos (Nat.le_of_dvd hb (Nat.gcd_dvd_left _ _)) hgp) (red_le k1) (red_le k2) (red_le k3) (red_le k4)
  rw [rq_of, hd, mul_sgn, ← rq_scale _ _ _ (Nat.mul_pos (gcd_pos (z := a) hq) hgp), Int.natCast_mul, mul4, mul4n, ← sgn_eq (Nat.gcd_dvd_left _ _), if_neg (by simp), ← Int.natCast_mul, Nat.div_mul_cancel (Nat.gcd_dvd_right _ _), Nat.div_mul_cancel (Nat.gcd_dvd_right _ _), Nat.div_mul_cancel (Nat.gcd_dvd_left _ _)] at h
  rw [show RQ (b : Int) r = numAV (decide ((b : Int) < 0)) (b / Nat.gcd b r) (r / Nat.gcd b r) from rfl, hd]
  exact h
theorem up_red (neg : Bool) (r b g : Nat) (way : Int) (hg : 0 < g) : upN neg (r * g) (b * g) way = upN neg r b way := by
  unfold upN
  have e1 : decide (0 < r * g) = decide (0 < r) := decide_eq_decide.2 ⟨fun h => Nat.pos_of_ne_zero fun e => by rw [e, Nat.zero_mul] at h; exact Nat.lt_irrefl _ h, fun h => Nat.mul_pos h hg⟩
  have e2 : decide (b * g ≤ r * g + r * g) = decide (b ≤ r + r) := decide_eq_decide.2 (by rw [← Nat.add_mul]; exact Nat.mul_le_mul_right_iff hg)
  rw [e1, e2]
theorem rnd_red (neg : Bool) (t b g : Nat) (way : Int) (hg : 0 < g) : rndN neg (t * g) (b * g) way = rndN neg t b way := by
  unfold rndN
  rw [Nat.mul_div_mul_right _ _ hg, Nat.mul_mod_mul_right, up_red _ _ _ _ _ hg]
theorem round_q (z : Int) (q : Nat) (way : Int) (hq : 0 < q) (h1 : (lm z.natAbs).length ≤ 800) (h2 : (lm q).length ≤ 800) :
    CallOK Tryd.prog 61 [.agg (RQ z q), .val (.int .i64 way)] (.ro ((lm (rndN (decide (z < 0)) z.natAbs q way)).map oneN)) := by
  have h := round_c (decide (z < 0)) (z.natAbs / Nat.gcd z.natAbs q) (q / Nat.gcd z.natAbs q) way (red_pos hq) (red_le h1) (red_le h2)
  rw [← rnd_red _ _ _ _ _ (gcd_pos (z := z) hq), Nat.div_mul_cancel (Nat.gcd_dvd_left _ _), Nat.div_mul_cancel (Nat.gcd_dvd_right _ _)] at h
  exact h
end Go.Proofs.YtbdcnooafacldaaDoor
/- strconv.FormatUint at base 10: the decimal numeral, for every uint64; the reference's Int. -/
namespace Go.Proofs.YtbdcnooafacldaaDoor
open Go.RowKit Go.Sort Go.Lib
set_option linter.unusedSimpArgs false

set_option maxHeartbeats 6400000 in
set_option maxRecDepth 100000 in
theorem ifmtu_small (u : Nat) (hu : u < 100) (w : World) :
    Calls Tryd.prog 69 #[.int .u64 u, .int .i64 10] w fun e w' => e = .returned (.string ⟨(decDigits u).toArray⟩) ∧ w' = w := by
  go_enter Tryd.func69, Tryd.ntmps69
  go_wp2_with (go_at_call 80; refine (Tryd.internal_strconv_small u hu _).mono ?_; rintro e w' ⟨rfl, rfl⟩)
  go_ret
  exact ⟨rfl, rfl⟩
set_option maxHeartbeats 6400000 in
set_option maxRecDepth 100000 in
theorem ifmtu_big (u : Nat) (hu : 100 ≤ u) (hu64 : u < 18446744073709551616) (w : World) (htab : TabIs Tryd.prog w "internal/strconv.uint64pow10" .u64 pow10Tab) :
    Calls Tryd.prog 69 #[.int .u64 u, .int .i64 10] w fun e w' => e = .returned (.string ⟨(decDigits u).toArray⟩) ∧ ∃ k os, w' = Go.Sort.grow (w.drewN k) os := by
  have u171 : Tryd.prog.underlying 98 = some (.array 24 5) := by kernel_rfl
  have u37 : Tryd.prog.underlying 100 = some (.slice 5) := by kernel_rfl
  have u5 : Tryd.prog.underlying 5 = some (.int .u8) := by kernel_rfl
  have u9 : Tryd.prog.underlying 9 = some .string := by kernel_rfl
  have hu1 : 1 ≤ u := by omega
  have hnd20 : nDigits u ≤ 20 := by have := numDigits_eq u hu1 hu64; split at this <;> omega
  have hal : Tryd.prog.arrayLen 98 = 24 := by simp [Program.arrayLen, u171]
  have hsl : ∀ W, (Instr.sliceAt 98 (.pointer (some ⟨w.heap.size, 0, none⟩)) none (some (.int .i64 (nDigits u : Int))) none).run Tryd.prog W = .ok (.slice (some ⟨w.heap.size, 0, none⟩) (nDigits u) 24) W := fun W => by
    rw [run_sliceAt_array_h W 98 ⟨w.heap.size, 0, none⟩ (by simp [Program.arrayLen, Program.elem, u171]) .i64 (nDigits u : Int) (by omega) (by rw [hal]; omega)]
    go_simp
  have hH0 := holds_zero0 w 98 (nDigits u) (by omega)
  have hfmt := Tryd.internal_strconv_formatBase10 w.heap.size 0 24 u (Array.replicate (nDigits u) 0) (w.alloc (.cells zeros24 98)) hH0 (by rw [Array.size_replicate]; exact lt_pow_nDigits u) hu64 (by rw [Array.size_replicate]; omega)
  rw [Array.size_replicate] at hfmt
  have HH0 := Lib.hid hH0
  have iu : (100 : Int) ≤ (u : Int) := by omega
  clear hH0 hal
  go_enter Tryd.func69, Tryd.ntmps69
  go_wp2_with (first
    | (go_at_call 81; refine (Tryd.internal_strconv_numDigits u hu1 hu64 _ (tabIs_alloc htab _)).mono ?_; rintro e w' ⟨rfl, rfl⟩))
  go_at_call 82
  refine hfmt.mono ?_
  rintro e w' ⟨rfl, k, v', dk, rfl, hF⟩
  have hcv : (convert 100 9 (.slice (some ⟨w.heap.size, 0, none⟩) (nDigits u) 24)).run Tryd.prog ((putRow (fun (b : UInt8) => Value.int .u8 (b.toNat : Int)) (w.alloc (.cells zeros24 98)) w.heap.size 0 dk).drewN k) = .ok (.string ⟨(decDigits u).toArray⟩) ((putRow (fun (b : UInt8) => Value.int .u8 (b.toNat : Int)) (w.alloc (.cells zeros24 98)) w.heap.size 0 dk).drewN k) := by
    have h := run_convert_bytes_back (P := Tryd.prog) ((putRow (fun (b : UInt8) => Value.int .u8 (b.toNat : Int)) (w.alloc (.cells zeros24 98)) w.heap.size 0 dk).drewN k) 100 9 5 ⟨w.heap.size, 0, none⟩ 24 (decDigits u) u37 u5 u9 (fun j hj => by
      rw [row_is_numeral hF j hj, add_plain, World.cell?_drewN]
      exact cell?_putRow (fun (b : UInt8) => Value.int .u8 (b.toNat : Int)) _ w.heap.size 0 _ dk HH0.out (by rw [hF.size, Array.size_replicate]) j (by rw [hF.size]; rw [decDigits_length] at hj; exact hj))
    rw [decDigits_length] at h
    exact h
  go_wp2
  go_ret
  obtain ⟨os, eo⟩ := fin_at w (.cells zeros24 98) dk k 0
  exact ⟨rfl, k, os, eo⟩
theorem ifmtu_c (u : Nat) (hu : u < 18446744073709551616) : CallOK Tryd.prog 69 [.val (.int .u64 u), .val (.int .i64 10)] (.val (.string (BS (decDigits u)))) := by
  intro w S vs hT hS hvl hr
  match vs, hvl with
  | [v0, v1], _ =>
    have h0 := rel_val (hr 0 _ v0 rfl rfl)
    have h1 := rel_val (hr 1 _ v1 rfl rfl)
    subst h0
    subst h1
    by_cases hs : u < 100
    · refine (ifmtu_small u hs w).mono ?_
      rintro ev w' ⟨rfl, rfl⟩
      exact ⟨_, rfl, Below.refl _ _, Rel.val _⟩
    · refine (ifmtu_big u (by omega) hu w (tabIs_of hT)).mono ?_
      rintro ev w' ⟨rfl, k, os, rfl⟩
      refine ⟨_, rfl, ⟨rfl, rfl, rfl, by simp [Go.Sort.grow, World.drewN], fun b hb => ?_⟩, Rel.val _⟩
      rw [Go.Sort.heap_grow_old _ _ (by simpa [World.drewN] using hb)]
      rfl
/-! strconv.FormatUint -/
def r51_0 : List POp := [⟨4, .asg (.c (.string ⟨#[]⟩)), none⟩]
def r51_1 : List POp := [⟨5, .mv (.t 0), none⟩,
  ⟨6, .mv (.t 1), none⟩,
  ⟨7, .call 69 [.t 5, .t 6], none⟩,
  ⟨4, .asg (.t 7), none⟩]
def p51 : PCode := .seq (.ops r51_0) (.seq (.ops r51_1) (.ret))
theorem ok51 : okFunc Tryd.prog 51 [.t 4] 2 p51 = true := by kernel_rfl
theorem fmtu_c (u : Nat) (hu : u < 18446744073709551616) : CallOK Tryd.prog 51 [.val (.int .u64 u), .val (.int .i64 10)] (.val (.string (BS (decDigits u)))) := by
  refine call_of mixed ok51 rfl ?_
  have h := ifmtu_c u hu
  repeat' first | ((with_reducible (first | refine condD ?_ ?_ | refine condE ?_ ?_ | refine condN ?_ ?_ | refine condI ?_ ?_ | refine condS ?_ ?_)) <;> intro h) | ((with_reducible (first | refine guardD (by with_unfolding_all rfl) ?_ ?_ | refine guardE (by with_unfolding_all rfl) ?_ ?_ | refine guardN (by with_unfolding_all rfl) ?_ ?_ | refine guardI (by with_unfolding_all rfl) ?_ ?_ | refine guardS (by with_unfolding_all rfl) ?_ ?_)) <;> intro h) | ((refine callG h ?_)) | (with_reducible refine And.intro ?_ ?_; omega) | (simp only [done_eq, done_eq', donet_eq, donet_eq', fin_val, fin_tup, fin_agg, fin_ro, res_one, res_more, rv_t, rv_c, rv_l, AV.tup.injEq, AV.agg.injEq, AV.ro.injEq, List.cons.injEq, int_eq, bool_eq, Int.toNat_natCast, Int.reduceToNat, Int.toNat_zero, Int.toNat_one, Int.reduceLE, Int.reduceLT, Int.reduceBEq, Int.reduceBNe, beq_self_eq_true, bne_self_eq_false, decide_true, decide_false,  Int.reduceNeg, toNat_pred, toNat_succ, List.length_map, cnd_t, cnd_f, grd_tt, grd_u, grd_tf, grd_ft, grd_ff, g_skip, g_ops, g_seq, g_block, g_exit, g_ret, x_c, x_o, x_l, x_b, g_b, g_nil, r_all, o_nil, g_cond, o_guard, o_call, o_callm, o_callt, o_callx, o_callv, lk, ef, o_mv, o_pick, o_bin, o_never, o_eqs, o_eqb, o_un, o_conv, o_load, o_loadr, o_idxr, o_loads, o_fld, o_idx, o_idxs, o_len, o_lens, o_ext, o_nilck, o_slc, o_slcs, o_build, o_minmax, o_mkfn, o_alloc, o_box, o_boxs, o_row, o_rowr, o_mk, o_asg, o_app, o_store, o_stores, o_eqnil, hv, eqAV, ev, view_t, view_c, view_nil, view_fn, look_own, look_box, look_junk, look_val, look_nilsl, look_ro, look_roAt, look_agg, look_tup, look_clo, look_alias, look_ref, look_into, rowOf, cellsOf, argv, vbin, vun, bnd, elemOf, putParts, setAt, zav, ASt.rid, ASt.free, AV.kill, AV.isHome, AV.noLoan, AV.cellOK, Value.oneCell', put_at, mk_at, mk_nil, initSt, true_and, and_true, and_self, implies_true, List.map_cons, List.map_nil, List.forall_mem_cons, List.not_mem_nil, false_implies, List.length_cons, List.length_nil, List.getD_cons_zero, List.getD_cons_succ, List.getD_nil, List.drop_succ_cons, List.drop_zero, List.take_succ_cons, List.take_zero, List.set_cons_zero, List.set_cons_succ, List.all_cons, List.all_nil, Bool.and_true, Bool.true_and, Bool.not_true, Bool.not_false, reduceCtorEq, if_true, if_false, Bool.false_eq_true, ↓reduceIte, Nat.reduceEqDiff, Nat.reduceAdd, Nat.reduceSub, Nat.reduceMul, Nat.reduceLeDiff, Nat.reduceLT, ne_eq, not_false_eq_true, not_true_eq_false, Nat.one_ne_zero, Nat.zero_ne_one, r51_0, r51_1, p51]) | (exfalso; omega)
theorem dec_digN (n : Nat) : ∀ c ∈ decDigits n, digB c = true := by
  rw [← dgs_dec _ n rfl]; exact dgs_dig _ _
theorem num_dec2 (n : Nat) : numL (decDigits n) = n := by
  rw [← dgs_dec _ n rfl]; exact num_dgs _ _ (lt_pow_nDigits n)
theorem lm_one : (lm 1).map oneN = [[.val (.int .i64 1)]] := by rw [lm_1]; rfl
/-! headend/headendref1.Int -/
def r30_0 : List POp := [⟨2, .alloc [.bool false, .slice none 0 0, .slice none 0 0], none⟩]
def r30_1 : List POp := [⟨5, .mv (.t 0), none⟩,
  ⟨6, .bin .lss (.t 5) (.c (.int .i64 0)), none⟩,
  ⟨3, .asg (.t 6), none⟩]
def r30_2 : List POp := [⟨7, .mv (.t 0), none⟩,
  ⟨8, .conv .u64 (.t 7), none⟩,
  ⟨4, .asg (.t 8), none⟩]
def r30_3 : List POp := [⟨9, .mv (.t 3), none⟩]
def r30_4 : List POp := [⟨10, .mv (.t 4), none⟩,
  ⟨11, .un .neg (.t 10), none⟩,
  ⟨4, .asg (.t 11), none⟩]
def r30_5 : List POp := [⟨12, .mv (.t 3), none⟩,
  ⟨13, .mv (.t 4), none⟩,
  ⟨14, .call 51 [.t 13, .c (.int .i64 10)], none⟩,
  ⟨15, .call 50 [.t 14], none⟩,
  ⟨16, .rowr 3 1 [.c (.int .i64 1)], none⟩,
  ⟨17, .call 48 [.t 12, .t 15, .t 16], none⟩,
  ⟨0, .stores 3 (.t 2) (.t 17), none⟩]
def p30 : PCode := .seq (.ops r30_0) (.seq (.ops r30_1) (.seq (.ops r30_2) (.seq (.seq (.ops r30_3) (.cond (.t 9) (.ops r30_4) (.skip))) (.seq (.ops r30_5) (.ret)))))
theorem ok30 : okFunc Tryd.prog 30 [.c 2 3] 1 p30 = true := by kernel_rfl
set_option maxRecDepth 20000 in
theorem int_c (z : Int) (h0 : -9223372036854775808 ≤ z) (h1 : z ≤ 9223372036854775807) : CallOK Tryd.prog 30 [.val (.int .i64 z)] (.agg (RQ z 1)) := by
  refine call_of mixed ok30 rfl ?_
  obtain ⟨u, hu⟩ : ∃ u, u = z.natAbs := ⟨_, rfl⟩
  have hF := fmtu_c u (by omega)
  have hlen : (decDigits u).length ≤ 20 := by
    rw [decDigits_length]
    have := nDigits_le 20 u (by decide) (by omega)
    exact this
  have hL := limbs_c (decDigits u) (dec_digN u) (by omega)
  rw [num_dec2] at hL
  have hlm : (lm u).length ≤ 5 := lm_len (by omega)
  have hW := lowest_c (decide (z < 0)) u 1 (by decide) (by omega) (by rw [lm_1]; decide)
  rw [rq_of, lm_one] at hW
  have hz : (if decide (z < 0) = true then -(u : Int) else (u : Int)) = z := by
    by_cases q : z < 0
    · rw [decide_eq_true q, if_pos rfl]; omega
    · rw [decide_eq_false q, if_neg (by simp)]; omega
  rw [hz] at hW
  have hRl : ∃ a b c, RQ z 1 = [a, b, c] := ⟨_, _, _, rfl⟩
  obtain ⟨a, b, c, hR⟩ := hRl
  rw [hR] at hW ⊢
  clear hR hz
  generalize lm u = LU at *
  generalize decDigits u = DU at *
  by_cases q : z < 0
  · have w1 : IntKind.u64.wrap z = z + 18446744073709551616 := by rw [IntKind.wrap_u64]; omega
    have w2 : IntKind.u64.wrap (0 - (z + 18446744073709551616)) = (u : Int) := by rw [IntKind.wrap_u64]; omega
    rw [decide_eq_true q] at hW
    repeat' first | ((with_reducible (first | refine condD ?_ ?_ | refine condE ?_ ?_ | refine condN ?_ ?_ | refine condI ?_ ?_ | refine condS ?_ ?_)) <;> intro h) | ((with_reducible (first | refine guardD (by with_unfolding_all rfl) ?_ ?_ | refine guardE (by with_unfolding_all rfl) ?_ ?_ | refine guardN (by with_unfolding_all rfl) ?_ ?_ | refine guardI (by with_unfolding_all rfl) ?_ ?_ | refine guardS (by with_unfolding_all rfl) ?_ ?_)) <;> intro h) | ((refine callG hF ?_)) | ((refine callG hL ?_)) | ((refine callG hW ?_)) | (with_reducible refine And.intro ?_ ?_; omega) | (simp only [done_eq, done_eq', donet_eq, donet_eq', fin_val, fin_tup, fin_agg, fin_ro, res_one, res_more, rv_t, rv_c, rv_l, AV.tup.injEq, AV.agg.injEq, AV.ro.injEq, List.cons.injEq, int_eq, bool_eq, Int.toNat_natCast, Int.reduceToNat, Int.toNat_zero, Int.toNat_one, Int.reduceLE, Int.reduceLT, Int.reduceBEq, Int.reduceBNe, beq_self_eq_true, bne_self_eq_false, decide_true, decide_false,  Int.reduceNeg, toNat_pred, toNat_succ, List.length_map, cnd_t, cnd_f, grd_tt, grd_u, grd_tf, grd_ft, grd_ff, g_skip, g_ops, g_seq, g_block, g_exit, g_ret, x_c, x_o, x_l, x_b, g_b, g_nil, r_all, o_nil, g_cond, o_guard, o_call, o_callm, o_callt, o_callx, o_callv, lk, ef, o_mv, o_pick, o_bin, o_never, o_eqs, o_eqb, o_un, o_conv, o_load, o_loadr, o_idxr, o_loads, o_fld, o_idx, o_idxs, o_len, o_lens, o_ext, o_nilck, o_slc, o_slcs, o_build, o_minmax, o_mkfn, o_alloc, o_box, o_boxs, o_row, o_rowr, o_mk, o_asg, o_app, o_store, o_stores, o_eqnil, hv, eqAV, ev, view_t, view_c, view_nil, view_fn, look_own, look_box, look_junk, look_val, look_nilsl, look_ro, look_roAt, look_agg, look_tup, look_clo, look_alias, look_ref, look_into, rowOf, cellsOf, argv, vbin, vun, bnd, elemOf, putParts, setAt, zav, ASt.rid, ASt.free, AV.kill, AV.isHome, AV.noLoan, AV.cellOK, Value.oneCell', put_at, mk_at, mk_nil, initSt, true_and, and_true, and_self, implies_true, List.map_cons, List.map_nil, List.forall_mem_cons, List.not_mem_nil, false_implies, List.length_cons, List.length_nil, List.getD_cons_zero, List.getD_cons_succ, List.getD_nil, List.drop_succ_cons, List.drop_zero, List.take_succ_cons, List.take_zero, List.set_cons_zero, List.set_cons_succ, List.all_cons, List.all_nil, Bool.and_true, Bool.true_and, Bool.not_true, Bool.not_false, reduceCtorEq, if_true, if_false, Bool.false_eq_true, ↓reduceIte, Nat.reduceEqDiff, Nat.reduceAdd, Nat.reduceSub, Nat.reduceMul, Nat.reduceLeDiff, Nat.reduceLT, ne_eq, not_false_eq_true, not_true_eq_false, Nat.one_ne_zero, Nat.zero_ne_one, r30_0, r30_1, r30_2, r30_3, r30_4, r30_5, p30, q, w1, w2]) | (exfalso; omega)
  · have w1 : IntKind.u64.wrap z = (u : Int) := by rw [IntKind.wrap_u64]; omega
    rw [decide_eq_false q] at hW
    repeat' first | ((with_reducible (first | refine condD ?_ ?_ | refine condE ?_ ?_ | refine condN ?_ ?_ | refine condI ?_ ?_ | refine condS ?_ ?_)) <;> intro h) | ((with_reducible (first | refine guardD (by with_unfolding_all rfl) ?_ ?_ | refine guardE (by with_unfolding_all rfl) ?_ ?_ | refine guardN (by with_unfolding_all rfl) ?_ ?_ | refine guardI (by with_unfolding_all rfl) ?_ ?_ | refine guardS (by with_unfolding_all rfl) ?_ ?_)) <;> intro h) | ((refine callG hF ?_)) | ((refine callG hL ?_)) | ((refine callG hW ?_)) | (with_reducible refine And.intro ?_ ?_; omega) | (simp only [done_eq, done_eq', donet_eq, donet_eq', fin_val, fin_tup, fin_agg, fin_ro, res_one, res_more, rv_t, rv_c, rv_l, AV.tup.injEq, AV.agg.injEq, AV.ro.injEq, List.cons.injEq, int_eq, bool_eq, Int.toNat_natCast, Int.reduceToNat, Int.toNat_zero, Int.toNat_one, Int.reduceLE, Int.reduceLT, Int.reduceBEq, Int.reduceBNe, beq_self_eq_true, bne_self_eq_false, decide_true, decide_false,  Int.reduceNeg, toNat_pred, toNat_succ, List.length_map, cnd_t, cnd_f, grd_tt, grd_u, grd_tf, grd_ft, grd_ff, g_skip, g_ops, g_seq, g_block, g_exit, g_ret, x_c, x_o, x_l, x_b, g_b, g_nil, r_all, o_nil, g_cond, o_guard, o_call, o_callm, o_callt, o_callx, o_callv, lk, ef, o_mv, o_pick, o_bin, o_never, o_eqs, o_eqb, o_un, o_conv, o_load, o_loadr, o_idxr, o_loads, o_fld, o_idx, o_idxs, o_len, o_lens, o_ext, o_nilck, o_slc, o_slcs, o_build, o_minmax, o_mkfn, o_alloc, o_box, o_boxs, o_row, o_rowr, o_mk, o_asg, o_app, o_store, o_stores, o_eqnil, hv, eqAV, ev, view_t, view_c, view_nil, view_fn, look_own, look_box, look_junk, look_val, look_nilsl, look_ro, look_roAt, look_agg, look_tup, look_clo, look_alias, look_ref, look_into, rowOf, cellsOf, argv, vbin, vun, bnd, elemOf, putParts, setAt, zav, ASt.rid, ASt.free, AV.kill, AV.isHome, AV.noLoan, AV.cellOK, Value.oneCell', put_at, mk_at, mk_nil, initSt, true_and, and_true, and_self, implies_true, List.map_cons, List.map_nil, List.forall_mem_cons, List.not_mem_nil, false_implies, List.length_cons, List.length_nil, List.getD_cons_zero, List.getD_cons_succ, List.getD_nil, List.drop_succ_cons, List.drop_zero, List.take_succ_cons, List.take_zero, List.set_cons_zero, List.set_cons_succ, List.all_cons, List.all_nil, Bool.and_true, Bool.true_and, Bool.not_true, Bool.not_false, reduceCtorEq, if_true, if_false, Bool.false_eq_true, ↓reduceIte, Nat.reduceEqDiff, Nat.reduceAdd, Nat.reduceSub, Nat.reduceMul, Nat.reduceLeDiff, Nat.reduceLT, ne_eq, not_false_eq_true, not_true_eq_false, Nat.one_ne_zero, Nat.zero_ne_one, r30_0, r30_1, r30_2, r30_3, r30_4, r30_5, p30, q, w1]) | (exfalso; omega)
end Go.Proofs.YtbdcnooafacldaaDoor
/- The reference's numbers: headendref1's digits and Round, by the machine on data. -/
namespace Go.Proofs.YtbdcnooafacldaaDoor
open Go.RowKit Go.Lib
open Go.Proofs.YtbdcnooafacldaaDoor renaming done_eq → Z0, done_eq' → Z1, donet_eq → Z2, donet_eq' → Z3, fin_val → Z4, fin_tup → Z5, fin_agg → Z6, fin_ro → Z7, res_one → Z8, res_more → Z9, rv_t → Za, rv_c → Zb, rv_l → Zc, int_eq → Zg, bool_eq → Zh, toNat_pred → Zr, toNat_succ → Zs, cnd_t → Zu, cnd_f → Zv, grd_tt → Zw, grd_u → Zx, grd_tf → Zy, grd_ft → Zz, grd_ff → Y0, g_skip → Y1, g_ops → Y2, g_seq → Y3, g_block → Y4, g_exit → Y5, g_ret → Y6, g_nil → Y7, r_all → Y8, o_nil → Y9, g_cond → Ya, o_guard → Yb, o_call → Yc, o_callm → Yd, o_callt → Ye, o_callx → Yf, o_callv → Yg, o_mv → Yh, o_pick → Yi, o_bin → Yj, o_never → Yk, o_eqs → Yl, o_eqb → Ym, o_un → Yn, o_conv → Yo, o_load → Yp, o_loadr → Yq, o_idxr → Yr, o_loads → Ys, o_fld → Yt, o_idx → Yu, o_idxs → Yv, o_len → Yw, o_lens → Yx, o_ext → Yy, o_nilck → Yz, o_slc → X0, o_slcs → X1, o_build → X2, o_minmax → X3, o_mkfn → X4, o_alloc → X5, o_box → X6, o_boxs → X7, o_row → X8, o_rowr → X9, o_mk → Xa, o_asg → Xb, o_app → Xc, o_store → Xd, o_stores → Xe, o_eqnil → Xf, eqAV → Xg, view_t → Xh, view_c → Xi, view_nil → Xj, view_fn → Xk, look_own → Xl, look_box → Xm, look_junk → Xn, look_val → Xo, look_nilsl → Xp, look_ro → Xq, look_roAt → Xr, look_agg → Xs, look_tup → Xt, look_clo → Xu, look_alias → Xv, look_ref → Xw, look_into → Xx, rowOf → Xy, cellsOf → Xz, argv → W0, vbin → W1, elemOf → W2, putParts → W3, setAt → W4, put_at → Wb, mk_at → Wc, mk_nil → Wd, initSt → We
open Go.Proofs.YtbdcnooafacldaaDoor.AV.tup renaming injEq → Zd
open Go.Proofs.YtbdcnooafacldaaDoor.AV.agg renaming injEq → Ze
open Go.Proofs.YtbdcnooafacldaaDoor.AV.ro renaming injEq → Zf
open _root_.Int renaming toNat_natCast → Zi, reduceToNat → Zj, toNat_zero → Zk, toNat_one → Zl, reduceLE → Zm, reduceLT → Zn, reduceBEq → Zo, reduceBNe → Zp, reduceNeg → Zq
open _root_.List renaming length_map → Zt, map_cons → Wf, map_nil → Wg, forall_mem_cons → Wh, not_mem_nil → Wi, length_cons → Wj, length_nil → Wk, getD_cons_zero → Wl, getD_cons_succ → Wm, getD_nil → Wn, drop_succ_cons → Wo, drop_zero → Wp, take_succ_cons → Wq, take_zero → Wr, set_cons_zero → Ws, set_cons_succ → Wt, all_cons → Wu, all_nil → Wv
open Go.Proofs.YtbdcnooafacldaaDoor.ASt renaming rid → W5, free → W6
open Go.Proofs.YtbdcnooafacldaaDoor.AV renaming kill → W7, isHome → W8, noLoan → W9, cellOK → Wa
open _root_.Bool renaming and_true → Ww, true_and → Wx, not_true → Wy, not_false → Wz, false_eq_true → V0
open _root_.Nat renaming reduceEqDiff → V1, reduceAdd → V2, reduceSub → V3, reduceMul → V4, reduceLeDiff → V5, reduceLT → V6, one_ne_zero → V7, zero_ne_one → V8
open Go.Proofs.YtbdcnooafacldaaDoor.AV.val renaming injEq → V9
set_option linter.unusedSimpArgs false
--@short

theorem dgs_add (a : Nat) : ∀ b n, dgs (a + b) n = dgs a (n / 10 ^ b) ++ dgs b n
  | 0, n => by simp [dgs]
  | b + 1, n => by
    rw [← Nat.add_assoc, dgs, dgs_add a b (n / 10), dgs, List.append_assoc, Nat.div_div_eq_div_mul, Nat.pow_succ, Nat.mul_comm 10]
theorem dgs_pad (a : Nat) : ∀ b n, n < 10 ^ a → dgs (a + b) n = List.replicate b 48 ++ dgs a n
  | 0, n, _ => by simp
  | b + 1, n, h => by
    rw [← Nat.add_assoc, ← dgs_zero (a + b) n (Nat.lt_of_lt_of_le h (Nat.pow_le_pow_right (by decide) (by omega))), dgs_pad a b n h, List.replicate_succ, List.cons_append]
theorem dgs_mod : ∀ k n, dgs k (n % 10 ^ k) = dgs k n
  | 0, n => rfl
  | k + 1, n => by
    rw [dgs, dgs, Nat.pow_succ, Nat.mul_comm (10 ^ k) 10, Nat.mod_mul_right_div_self, dgs_mod k, Nat.mod_mul_right_mod]
theorem nDigits_limb {v d : Nat} (hv : 0 < v) (hd : d < 10000) : nDigits (d + 10000 * v) = nDigits v + 4 := by
  rw [nDigits_big (by omega), nDigits_big (by omega), nDigits_big (by omega), nDigits_big (by omega), show (d + 10000 * v) / 10 / 10 / 10 / 10 = v by omega]
/-- A number's digits out of those of its limbs. -/
theorem dec_limb {v d : Nat} (hv : 0 < v) (hd : d < 10000) : decDigits v ++ (List.replicate (4 - nDigits d) 48 ++ decDigits d) = decDigits (d + 10000 * v) := by
  have h4 : nDigits d ≤ 4 := nDigits_le 4 d (by decide) (by omega)
  have e := dgs_add (nDigits v) 4 (d + 10000 * v)
  rw [show (d + 10000 * v) / 10 ^ 4 = v by omega, ← dgs_mod 4 (d + 10000 * v), show (d + 10000 * v) % 10 ^ 4 = d by omega, dgs_dec _ v rfl, ← nDigits_limb hv hd, dgs_dec _ _ rfl] at e
  rw [e]
  congr 1
  have := dgs_pad (nDigits d) (4 - nDigits d) d (lt_pow_nDigits d)
  rw [show nDigits d + (4 - nDigits d) = 4 by omega, dgs_dec _ d rfl] at this
  exact this.symm
theorem rep_one (x : UInt8) : ∀ c, repeatL [x] c = List.replicate c x
  | 0 => by simp [repeatL]
  | c + 1 => by
    have := rep_one x c
    simp_all [repeatL, List.replicate_succ]
theorem repeat_c (c : Nat) (hc : c ≤ 1000) : CallOK Tryd.prog 78 [.val (.string (BS [48])), .val (.int .i64 c)] (.val (.string (BS (List.replicate c 48)))) := by
  intro w S vs hT hS hvl hr
  match vs, hvl with
  | [v0, v1], _ =>
    have h0 := rel_val (hr 0 _ v0 rfl rfl)
    have h1 := rel_val (hr 1 _ v1 rfl rfl)
    subst h0
    subst h1
    refine (Tryd.strings_Repeat (BS [48]) c w (by omega) (by rw [BS_size]; simp; omega)).mono ?_
    rintro ev w' ⟨rfl, hb⟩
    refine ⟨_, rfl, hb, ?_⟩
    rw [BS_data, rep_one]
    exact Rel.val _
/-! headend/headendref1.digits -/
def r65_0 : List POp := [⟨2, .asg (.c (.string ⟨#[]⟩)), none⟩]
def r65_1 : List POp := [⟨6, .mv (.t 0), none⟩,
  ⟨7, .len (.t 6), none⟩,
  ⟨8, .bin .eql (.t 7) (.c (.int .i64 0)), none⟩]
def r65_2 : List POp := [⟨2, .asg (.c (.string ⟨#[48]⟩)), none⟩]
def r65_3 : List POp := [⟨9, .mv (.t 0), none⟩,
  ⟨10, .mv (.t 0), none⟩,
  ⟨11, .len (.t 10), none⟩,
  ⟨12, .bin .sub (.t 11) (.c (.int .i64 1)), none⟩,
  ⟨13, .idx 1 (.t 9) (.t 12), none⟩,
  ⟨14, .load (.t 13), none⟩,
  ⟨15, .call 63 [.t 14], none⟩,
  ⟨3, .asg (.t 15), none⟩]
def r65_4 : List POp := [⟨16, .mv (.t 0), none⟩,
  ⟨17, .len (.t 16), none⟩,
  ⟨18, .bin .sub (.t 17) (.c (.int .i64 2)), none⟩,
  ⟨4, .asg (.t 18), none⟩]
def r65_5 : List POp := [⟨19, .mv (.t 4), none⟩,
  ⟨20, .bin .geq (.t 19) (.c (.int .i64 0)), none⟩]
def r65_7 : List POp := [⟨23, .mv (.t 0), none⟩,
  ⟨24, .mv (.t 4), none⟩,
  ⟨25, .idx 1 (.t 23) (.t 24), none⟩,
  ⟨26, .load (.t 25), none⟩,
  ⟨27, .call 63 [.t 26], none⟩,
  ⟨5, .asg (.t 27), none⟩]
def r65_8 : List POp := [⟨28, .mv (.t 3), none⟩,
  ⟨29, .mv (.t 5), none⟩,
  ⟨30, .lens (.t 29), none⟩,
  ⟨31, .bin .sub (.c (.int .i64 4)) (.t 30), none⟩,
  ⟨32, .call 78 [.c (.string ⟨#[48]⟩), .t 31], none⟩,
  ⟨33, .mv (.t 5), none⟩,
  ⟨34, .bin .add (.t 32) (.t 33), none⟩,
  ⟨35, .bin .add (.t 28) (.t 34), none⟩,
  ⟨3, .asg (.t 35), none⟩]
def r65_6 : List POp := [⟨21, .mv (.t 4), none⟩,
  ⟨22, .bin .sub (.t 21) (.c (.int .i64 1)), none⟩,
  ⟨4, .asg (.t 22), none⟩]
def r65_9 : List POp := [⟨36, .mv (.t 3), none⟩,
  ⟨2, .asg (.t 36), none⟩]
def l65_0 : PCode := .seq (.seq (.ops r65_5) (.cond (.t 20) (.skip) (.exit 0))) (.seq (.block 1 (.seq (.ops r65_7) (.ops r65_8))) (.ops r65_6))
def p65 : PCode := .seq (.ops r65_0) (.seq (.seq (.ops r65_1) (.cond (.t 8) (.seq (.ops r65_2) (.ret)) (.skip))) (.seq (.ops r65_3) (.seq (.seq (.ops r65_4) (.block 0 (.loop l65_0))) (.seq (.ops r65_9) (.ret)))))
theorem ok65 : okFunc Tryd.prog 65 [.t 2] 1 p65 = true := by kernel_rfl
set_option maxRecDepth 20000 in
set_option maxHeartbeats 2000000 in
theorem digits_c (n : Nat) (hn : (lm n).length ≤ 1000) : CallOK Tryd.prog 65 [.ro ((lm n).map oneN)] (.val (.string (BS (decDigits n)))) := by
  refine call_of mixed ok65 rfl ?_
  by_cases h0 : n = 0
  · subst h0
    have e0 : BS (decDigits 0) = BS [48] := by rw [← dgs_dec 1 0 (nDigits_small (by decide))]; rfl
    rw [lm_0, e0]
    repeat' first | ((with_reducible (first | refine condD ?_ ?_ | refine condE ?_ ?_ | refine condN ?_ ?_ | refine condI ?_ ?_ | refine condS ?_ ?_)) <;> intro h) | ((with_reducible (first | refine guardD (by with_unfolding_all rfl) ?_ ?_ | refine guardE (by with_unfolding_all rfl) ?_ ?_ | refine guardN (by with_unfolding_all rfl) ?_ ?_ | refine guardI (by with_unfolding_all rfl) ?_ ?_ | refine guardS (by with_unfolding_all rfl) ?_ ?_)) <;> intro h) | (with_reducible refine And.intro ?_ ?_; omega) | (simp only [Z0,Z1,Z2,Z3,Z4,Z5,Z6,Z7,Z8,Z9,Za,Zb,Zc,Zd,Ze,Zf,List.cons.injEq,Zg,Zh,Zi,Zj,Zk,Zl,Zm,Zn,Zo,Zp,beq_self_eq_true,bne_self_eq_false,decide_true,decide_false,Zq,Zr,Zs,Zt,Zu,Zv,Zw,Zx,Zy,Zz,Y0,Y1,Y2,Y3,Y4,Y5,Y6,x_c,x_o,x_l,x_b,g_b,Y7,Y8,Y9,Ya,Yb,Yc,Yd,Ye,Yf,Yg,lk,ef,Yh,Yi,Yj,Yk,Yl,Ym,Yn,Yo,Yp,Yq,Yr,Ys,Yt,Yu,Yv,Yw,Yx,Yy,Yz,X0,X1,X2,X3,X4,X5,X6,X7,X8,X9,Xa,Xb,Xc,Xd,Xe,Xf,hv,Xg,ev,Xh,Xi,Xj,Xk,Xl,Xm,Xn,Xo,Xp,Xq,Xr,Xs,Xt,Xu,Xv,Xw,Xx,Xy,Xz,W0,W1,vun,bnd,W2,W3,W4,zav,W5,W6,W7,W8,W9,Wa,Value.oneCell',Wb,Wc,Wd,We,true_and,and_true,and_self,implies_true,Wf,Wg,Wh,Wi,false_implies,Wj,Wk,Wl,Wm,Wn,Wo,Wp,Wq,Wr,Ws,Wt,Wu,Wv,Ww,Wx,Wy,Wz,reduceCtorEq,if_true,if_false,V0,↓reduceIte,V1,V2,V3,V4,V5,V6,ne_eq,not_false_eq_true,not_true_eq_false,V7,V8,r65_0,r65_1,r65_2,r65_3,r65_4,r65_5,r65_7,r65_8,r65_6,r65_9,p65,BS_48,BS_nil,Zt,Wg,List.length_nil]) | (exfalso; omega)
  have va := val_lm n
  have da := dig_lm n
  have la := last_lm n
  have hpos : 0 < (lm n).length := lm_pos_len.2 (by omega)
  have hdec : decDigits n = decDigits (valN (lm n)) := by rw [val_lm]
  rw [hdec]
  clear hdec
  generalize lm n = A at *
  have hne : A ≠ [] := fun e => by rw [e] at hpos; simp at hpos
  have hz : ((A.length : Int) == 0) = false := by rw [beq_eq_false_iff_ne]; omega
  have hm1 : A.length - 1 < A.length := by omega
  have w1 : IntKind.i64.wrap ((A.length : Int) - 1) = ((A.length - 1 : Nat) : Int) := by rw [wrap_in (by omega) (by omega)]; omega
  have w2 : IntKind.i64.wrap ((A.length : Int) - 2) = ((A.length - 1 : Nat) : Int) - 1 := by rw [wrap_in (by omega) (by omega)]; omega
  have gL := getD_map (f := oneN) (d := []) hm1
  simp only [oneN] at gL
  have i0 : (0 : Int) ≤ ((A.length - 1 : Nat) : Int) := by omega
  have i1 : ((A.length - 1 : Nat) : Int) < A.length := by omega
  have hlast : A[A.length - 1] ≠ 0 := la _ (by rw [List.getLast?_eq_getElem?]; exact List.getElem?_eq_getElem hm1)
  have hI0 := itoa_c A[A.length - 1] (by have := da _ (List.getElem_mem hm1); omega)
  have hdl : valN (A.drop (A.length - 1)) = A[A.length - 1] := by rw [List.drop_eq_getElem_cons hm1, List.drop_of_length_le (by omega), valN, valN]; omega
  rw [← hdl] at hI0
  repeat' first | ((with_reducible (first | refine condD ?_ ?_ | refine condE ?_ ?_ | refine condN ?_ ?_ | refine condI ?_ ?_ | refine condS ?_ ?_)) <;> intro h) | ((with_reducible (first | refine guardD (by with_unfolding_all rfl) ?_ ?_ | refine guardE (by with_unfolding_all rfl) ?_ ?_ | refine guardN (by with_unfolding_all rfl) ?_ ?_ | refine guardI (by with_unfolding_all rfl) ?_ ?_ | refine guardS (by with_unfolding_all rfl) ?_ ?_)) <;> intro h) | ((refine callG hI0 ?_)) | (with_reducible refine And.intro ?_ ?_; omega) | (simp only [Z0,Z1,Z2,Z3,Z4,Z5,Z6,Z7,Z8,Z9,Za,Zb,Zc,Zd,Ze,Zf,List.cons.injEq,Zg,Zh,Zi,Zj,Zk,Zl,Zm,Zn,Zo,Zp,beq_self_eq_true,bne_self_eq_false,decide_true,decide_false,Zq,Zr,Zs,Zt,Zu,Zv,Zw,Zx,Zy,Zz,Y0,Y1,Y2,Y3,Y4,Y5,Y6,x_c,x_o,x_l,x_b,g_b,Y7,Y8,Y9,Ya,Yb,Yc,Yd,Ye,Yf,Yg,lk,ef,Yh,Yi,Yj,Yk,Yl,Ym,Yn,Yo,Yp,Yq,Yr,Ys,Yt,Yu,Yv,Yw,Yx,Yy,Yz,X0,X1,X2,X3,X4,X5,X6,X7,X8,X9,Xa,Xb,Xc,Xd,Xe,Xf,hv,Xg,ev,Xh,Xi,Xj,Xk,Xl,Xm,Xn,Xo,Xp,Xq,Xr,Xs,Xt,Xu,Xv,Xw,Xx,Xy,Xz,W0,W1,vun,bnd,W2,W3,W4,zav,W5,W6,W7,W8,W9,Wa,Value.oneCell',Wb,Wc,Wd,We,true_and,and_true,and_self,implies_true,Wf,Wg,Wh,Wi,false_implies,Wj,Wk,Wl,Wm,Wn,Wo,Wp,Wq,Wr,Ws,Wt,Wu,Wv,Ww,Wx,Wy,Wz,reduceCtorEq,if_true,if_false,V0,↓reduceIte,V1,V2,V3,V4,V5,V6,ne_eq,not_false_eq_true,not_true_eq_false,V7,V8,r65_0,r65_1,r65_2,r65_3,r65_4,r65_5,r65_7,r65_8,r65_6,r65_9,p65,hz,w1,w2,gL,i0,i1,BS_nil,Zt,← hdl]) | (exfalso; omega)
  refine loopS (fun k : Nat => mk [(0, .ro (A.map oneN)), (3, .val (.string (BS (decDigits (valN (A.drop k)))))), (4, .val (.int .i64 ((k : Int) - 1)))]) (fun k => k ≤ A.length - 1 ∧ 0 < valN (A.drop k)) (fun k => k) (A.length - 1) (weak_mk ?_) ⟨Nat.le_refl _, by rw [hdl]; omega⟩ ?_
  · simp only [wk_cons,wk_nil,wk1,vint_eq,vbool_eq,V9,Z0,Z1,Z2,Z3,Z4,Z5,Z6,Z7,Z8,Z9,Za,Zb,Zc,Zd,Ze,Zf,List.cons.injEq,Zg,Zh,Zi,Zj,Zk,Zl,Zm,Zn,Zo,Zp,beq_self_eq_true,bne_self_eq_false,decide_true,decide_false,Zq,Zr,Zs,Zt,Zu,Zv,Zw,Zx,Zy,Zz,Y0,Y1,Y2,Y3,Y4,Y5,Y6,x_c,x_o,x_l,x_b,g_b,Y7,Y8,Y9,Ya,Yb,Yc,Yd,Ye,Yf,Yg,lk,ef,Yh,Yi,Yj,Yk,Yl,Ym,Yn,Yo,Yp,Yq,Yr,Ys,Yt,Yu,Yv,Yw,Yx,Yy,Yz,X0,X1,X2,X3,X4,X5,X6,X7,X8,X9,Xa,Xb,Xc,Xd,Xe,Xf,hv,Xg,ev,Xh,Xi,Xj,Xk,Xl,Xm,Xn,Xo,Xp,Xq,Xr,Xs,Xt,Xu,Xv,Xw,Xx,Xy,Xz,W0,W1,vun,bnd,W2,W3,W4,zav,W5,W6,W7,W8,W9,Wa,Value.oneCell',Wb,Wc,Wd,We,true_and,and_true,and_self,implies_true,Wf,Wg,Wh,Wi,false_implies,Wj,Wk,Wl,Wm,Wn,Wo,Wp,Wq,Wr,Ws,Wt,Wu,Wv,Ww,Wx,Wy,Wz,reduceCtorEq,if_true,if_false,V0,↓reduceIte,V1,V2,V3,V4,V5,V6,ne_eq,not_false_eq_true,not_true_eq_false,V7,Nat.zero_ne_one]
  rintro J hJ k ⟨hk, hvp⟩
  by_cases hk0 : k = 0
  · have hki : ¬ (0 : Int) ≤ (k : Int) - 1 := by omega
    rw [show A.drop k = A by rw [hk0, List.drop_zero]]
    clear hJ
    repeat' first | ((with_reducible (first | refine condD ?_ ?_ | refine condE ?_ ?_ | refine condN ?_ ?_ | refine condI ?_ ?_ | refine condS ?_ ?_)) <;> intro h) | ((with_reducible (first | refine guardD (by with_unfolding_all rfl) ?_ ?_ | refine guardE (by with_unfolding_all rfl) ?_ ?_ | refine guardN (by with_unfolding_all rfl) ?_ ?_ | refine guardI (by with_unfolding_all rfl) ?_ ?_ | refine guardS (by with_unfolding_all rfl) ?_ ?_)) <;> intro h) | (with_reducible refine And.intro ?_ ?_; omega) | (simp only [Z0,Z1,Z2,Z3,Z4,Z5,Z6,Z7,Z8,Z9,Za,Zb,Zc,Zd,Ze,Zf,List.cons.injEq,Zg,Zh,Zi,Zj,Zk,Zl,Zm,Zn,Zo,Zp,beq_self_eq_true,bne_self_eq_false,decide_true,decide_false,Zq,Zr,Zs,Zt,Zu,Zv,Zw,Zx,Zy,Zz,Y0,Y1,Y2,Y3,Y4,Y5,Y6,x_c,x_o,x_l,x_b,g_b,Y7,Y8,Y9,Ya,Yb,Yc,Yd,Ye,Yf,Yg,lk,ef,Yh,Yi,Yj,Yk,Yl,Ym,Yn,Yo,Yp,Yq,Yr,Ys,Yt,Yu,Yv,Yw,Yx,Yy,Yz,X0,X1,X2,X3,X4,X5,X6,X7,X8,X9,Xa,Xb,Xc,Xd,Xe,Xf,hv,Xg,ev,Xh,Xi,Xj,Xk,Xl,Xm,Xn,Xo,Xp,Xq,Xr,Xs,Xt,Xu,Xv,Xw,Xx,Xy,Xz,W0,W1,vun,bnd,W2,W3,W4,zav,W5,W6,W7,W8,W9,Wa,Value.oneCell',Wb,Wc,Wd,We,true_and,and_true,and_self,implies_true,Wf,Wg,Wh,Wi,false_implies,Wj,Wk,Wl,Wm,Wn,Wo,Wp,Wq,Wr,Ws,Wt,Wu,Wv,Ww,Wx,Wy,Wz,reduceCtorEq,if_true,if_false,V0,↓reduceIte,V1,V2,V3,V4,V5,V6,ne_eq,not_false_eq_true,not_true_eq_false,V7,V8,r65_0,r65_1,r65_2,r65_3,r65_4,r65_5,r65_7,r65_8,r65_6,r65_9,p65,l65_0,hki]) | (exfalso; omega)
  obtain ⟨j, rfl⟩ : ∃ j, k = j + 1 := ⟨k - 1, by omega⟩
  have hj : j < A.length := by omega
  have ej : ((j + 1 : Nat) : Int) - 1 = (j : Int) := by omega
  have hki : (0 : Int) ≤ (j : Int) := by omega
  have i2 : (j : Int) < A.length := by omega
  have wj : IntKind.i64.wrap ((j : Int) - 1) = (j : Int) - 1 := wrap_in (by omega) (by omega)
  have gA := getD_map (f := oneN) (d := []) hj
  simp only [oneN] at gA
  have hd0 := da _ (List.getElem_mem hj)
  have hv1 : valN (A.drop j) = A[j] + 10000 * valN (A.drop (j + 1)) := by rw [List.drop_eq_getElem_cons hj, valN]
  have hI := itoa_c A[j] (by omega)
  have hlen : (decDigits A[j]).length ≤ 4 := by rw [decDigits_length]; exact nDigits_le 4 _ (by decide) (by omega)
  have hR := repeat_c (4 - nDigits A[j]) (by omega)
  have hw4 : IntKind.i64.wrap (4 - ((decDigits A[j]).length : Int)) = ((4 - nDigits A[j] : Nat) : Int) := by rw [decDigits_length] at hlen ⊢; rw [wrap_in (by omega) (by omega)]; omega
  have hcat := dec_limb hvp hd0
  rw [← hv1] at hcat
  have hnew : 0 < valN (A.drop j) := by omega
  have hs1 : BS (List.replicate (4 - nDigits A[j]) 48) ++ BS (decDigits A[j]) = BS (List.replicate (4 - nDigits A[j]) 48 ++ decDigits A[j]) := BS_app _ _
  have b1 : (List.replicate (4 - nDigits A[j]) (48 : UInt8)).length + (decDigits A[j]).length ≤ 9223372036854775807 := by rw [List.length_replicate]; omega
  have b2 : (decDigits (valN (A.drop (j + 1)))).length + (List.replicate (4 - nDigits A[j]) (48 : UInt8) ++ decDigits A[j]).length ≤ 9223372036854775807 := by
    have h1 := valN_lt (l := A.drop (j + 1)) (fun x hx => da x (List.mem_of_mem_drop hx))
    rw [show (10000 : Nat) = 10 ^ 4 from rfl, ← Nat.pow_mul, List.length_drop] at h1
    have h2 := nDigits_le (4 * (A.length - (j + 1))) _ (by omega) h1
    rw [List.length_append, List.length_replicate, decDigits_length]
    omega
  have hs : BS (decDigits (valN (A.drop (j + 1)))) ++ BS (List.replicate (4 - nDigits A[j]) 48 ++ decDigits A[j]) = BS (decDigits (valN (A.drop j))) := by rw [BS_app, hcat]
  clear hcat hv1
  generalize List.replicate (4 - nDigits A[j]) (48 : UInt8) = RP at *
  generalize hPd : RP ++ decDigits A[j] = PD at *
  repeat' first | ((with_reducible (first | refine condD ?_ ?_ | refine condE ?_ ?_ | refine condN ?_ ?_ | refine condI ?_ ?_ | refine condS ?_ ?_)) <;> intro h) | ((with_reducible (first | refine guardD (by with_unfolding_all rfl) ?_ ?_ | refine guardE (by with_unfolding_all rfl) ?_ ?_ | refine guardN (by with_unfolding_all rfl) ?_ ?_ | refine guardI (by with_unfolding_all rfl) ?_ ?_ | refine guardS (by with_unfolding_all rfl) ?_ ?_)) <;> intro h) | ((refine callG hI ?_)) | ((refine callG hR ?_)) | (with_reducible refine And.intro ?_ ?_; omega) | (simp only [Z0,Z1,Z2,Z3,Z4,Z5,Z6,Z7,Z8,Z9,Za,Zb,Zc,Zd,Ze,Zf,List.cons.injEq,Zg,Zh,Zi,Zj,Zk,Zl,Zm,Zn,Zo,Zp,beq_self_eq_true,bne_self_eq_false,decide_true,decide_false,Zq,Zr,Zs,Zt,Zu,Zv,Zw,Zx,Zy,Zz,Y0,Y1,Y2,Y3,Y4,Y5,Y6,x_c,x_o,x_l,x_b,g_b,Y7,Y8,Y9,Ya,Yb,Yc,Yd,Ye,Yf,Yg,lk,ef,Yh,Yi,Yj,Yk,Yl,Ym,Yn,Yo,Yp,Yq,Yr,Ys,Yt,Yu,Yv,Yw,Yx,Yy,Yz,X0,X1,X2,X3,X4,X5,X6,X7,X8,X9,Xa,Xb,Xc,Xd,Xe,Xf,hv,Xg,ev,Xh,Xi,Xj,Xk,Xl,Xm,Xn,Xo,Xp,Xq,Xr,Xs,Xt,Xu,Xv,Xw,Xx,Xy,Xz,W0,W1,vun,bnd,W2,W3,W4,zav,W5,W6,W7,W8,W9,Wa,Value.oneCell',Wb,Wc,Wd,We,true_and,and_true,and_self,implies_true,Wf,Wg,Wh,Wi,false_implies,Wj,Wk,Wl,Wm,Wn,Wo,Wp,Wq,Wr,Ws,Wt,Wu,Wv,Ww,Wx,Wy,Wz,reduceCtorEq,if_true,if_false,V0,↓reduceIte,V1,V2,V3,V4,V5,V6,ne_eq,not_false_eq_true,not_true_eq_false,V7,V8,r65_0,r65_1,r65_2,r65_3,r65_4,r65_5,r65_7,r65_8,r65_6,r65_9,p65,l65_0,ej,hki,i2,wj,gA,hw4,hs1,hs,b1,b2,BS_48,BS_size,List.length_map]) | (exfalso; omega)
  all_goals first | omega | exact again hJ j (weak_mk (by simp only [wk_cons,wk_nil,wk1,vint_eq,vbool_eq,V9,Z0,Z1,Z2,Z3,Z4,Z5,Z6,Z7,Z8,Z9,Za,Zb,Zc,Zd,Ze,Zf,List.cons.injEq,Zg,Zh,Zi,Zj,Zk,Zl,Zm,Zn,Zo,Zp,beq_self_eq_true,bne_self_eq_false,decide_true,decide_false,Zq,Zr,Zs,Zt,Zu,Zv,Zw,Zx,Zy,Zz,Y0,Y1,Y2,Y3,Y4,Y5,Y6,x_c,x_o,x_l,x_b,g_b,Y7,Y8,Y9,Ya,Yb,Yc,Yd,Ye,Yf,Yg,lk,ef,Yh,Yi,Yj,Yk,Yl,Ym,Yn,Yo,Yp,Yq,Yr,Ys,Yt,Yu,Yv,Yw,Yx,Yy,Yz,X0,X1,X2,X3,X4,X5,X6,X7,X8,X9,Xa,Xb,Xc,Xd,Xe,Xf,hv,Xg,ev,Xh,Xi,Xj,Xk,Xl,Xm,Xn,Xo,Xp,Xq,Xr,Xs,Xt,Xu,Xv,Xw,Xx,Xy,Xz,W0,W1,vun,bnd,W2,W3,W4,zav,W5,W6,W7,W8,W9,Wa,Value.oneCell',Wb,Wc,Wd,We,true_and,and_true,and_self,implies_true,Wf,Wg,Wh,Wi,false_implies,Wj,Wk,Wl,Wm,Wn,Wo,Wp,Wq,Wr,Ws,Wt,Wu,Wv,Ww,Wx,Wy,Wz,reduceCtorEq,if_true,if_false,V0,↓reduceIte,V1,V2,V3,V4,V5,V6,ne_eq,not_false_eq_true,not_true_eq_false,V7,Nat.zero_ne_one])) ⟨by omega, hnew⟩ (by omega)
/-! headend/headendref1.Round -/
def r47_0 : List POp := [⟨3, .boxs (.t 0), none⟩,
  ⟨6, .asg (.c (.int .i64 0)), none⟩,
  ⟨7, .asg (.c (.bool false)), none⟩]
def r47_1 : List POp := [⟨11, .loads 3 (.t 3), none⟩,
  ⟨12, .mv (.t 1), none⟩,
  ⟨13, .call 61 [.t 11, .t 12], none⟩,
  ⟨8, .asg (.t 13), none⟩]
def r47_2 : List POp := [⟨14, .mv (.t 8), none⟩,
  ⟨15, .mv (.t 2), none⟩,
  ⟨16, .call 63 [.t 15], none⟩,
  ⟨17, .call 50 [.t 16], none⟩,
  ⟨18, .call 62 [.t 14, .t 17], none⟩,
  ⟨19, .bin .gtr (.t 18) (.c (.int .i64 0)), none⟩]
def r47_3 : List POp := [⟨6, .asg (.c (.int .i64 0)), none⟩,
  ⟨7, .asg (.c (.bool false)), none⟩]
def r47_4 : List POp := [⟨21, .mv (.t 8), none⟩,
  ⟨22, .call 65 [.t 21], none⟩,
  ⟨23, .call 64 [.t 22], none⟩,
  ⟨20, .mv (.t 23), none⟩,
  ⟨24, .ext 0 (.t 20), none⟩,
  ⟨25, .ext 1 (.t 20), none⟩,
  ⟨9, .mv (.t 24), none⟩,
  ⟨10, .asg (.t 25), none⟩]
def r47_5 : List POp := [⟨26, .fld 0 (.t 3), none⟩,
  ⟨27, .load (.t 26), none⟩]
def r47_6 : List POp := [⟨28, .mv (.t 9), none⟩,
  ⟨29, .un .neg (.t 28), none⟩,
  ⟨9, .asg (.t 29), none⟩]
def r47_7 : List POp := [⟨30, .mv (.t 9), none⟩,
  ⟨6, .asg (.t 30), none⟩,
  ⟨7, .asg (.c (.bool true)), none⟩]
def p47 : PCode := .seq (.ops r47_0) (.seq (.ops r47_1) (.seq (.seq (.ops r47_2) (.cond (.t 19) (.seq (.ops r47_3) (.ret)) (.skip))) (.seq (.ops r47_4) (.seq (.seq (.ops r47_5) (.cond (.t 27) (.ops r47_6) (.skip))) (.seq (.ops r47_7) (.ret))))))
theorem ok47 : okFunc Tryd.prog 47 [.t 6, .t 7] 3 p47 = true := by kernel_rfl
set_option maxRecDepth 20000 in
set_option maxHeartbeats 2000000 in
/-- Rounded to a whole number that is not greater than most (18 digits). -/
theorem round18_c (z : Int) (q : Nat) (way : Int) (most : Nat) (hm : most < 1000000000000000000) (hq : 0 < q) (h1 : (lm z.natAbs).length ≤ 700) (h2 : (lm q).length ≤ 700) :
    CallOK Tryd.prog 47 [.agg (RQ z q), .val (.int .i64 way), .val (.int .i64 most)]
      (.tup [.val (.int .i64 (if most < rndN (decide (z < 0)) z.natAbs q way then 0 else if z < 0 then -(rndN (decide (z < 0)) z.natAbs q way : Int) else rndN (decide (z < 0)) z.natAbs q way)), .val (.bool (decide (rndN (decide (z < 0)) z.natAbs q way ≤ most)))]) := by
  refine call_of mixed ok47 rfl ?_
  have hRd := round_q z q way hq (by omega) (by omega)
  have hNl : (lm (rndN (decide (z < 0)) z.natAbs q way)).length ≤ 800 := by
    have h := lm_below z.natAbs
    obtain ⟨K, hK⟩ : ∃ K, K = 700 := ⟨_, rfl⟩
    have h3 : 10000 ^ (lm z.natAbs).length ≤ 10000 ^ K := Nat.pow_le_pow_right (by decide) (by omega)
    have h4 : z.natAbs / q ≤ z.natAbs := Nat.div_le_self _ _
    have h5 : rndN (decide (z < 0)) z.natAbs q way ≤ z.natAbs + 1 := by unfold rndN; split <;> omega
    refine Nat.le_trans (lm_len (k := K + 1) ?_) (by omega)
    have h7 : 10000 ^ (K + 1) = 10000 ^ K * 10000 := Nat.pow_succ _ _
    generalize 10000 ^ K = P7 at *
    rw [h7]
    omega
  obtain ⟨N, hN⟩ : ∃ N, N = rndN (decide (z < 0)) z.natAbs q way := ⟨_, rfl⟩
  rw [← hN] at hRd hNl ⊢
  have hI := itoa_c most (by omega)
  have hdl : (decDigits most).length ≤ 18 := by rw [decDigits_length]; exact nDigits_le 18 _ (by decide) (by omega)
  have hL := limbs_c (decDigits most) (dec_digN most) (by omega)
  rw [num_dec2] at hL
  have hC := compare_c N most (by omega)
  have hsgn : RQ z q = [.val (.bool (decide (z < 0))), (RQ z q)[1]'(by simp [RQ, numAV]), (RQ z q)[2]'(by simp [RQ, numAV])] := rfl
  obtain ⟨T, B, hTB⟩ : ∃ T B, RQ z q = [.val (.bool (decide (z < 0))), T, B] := ⟨_, _, hsgn⟩
  rw [hTB] at hRd ⊢
  clear hTB hsgn
  by_cases hbig : most < N
  · have e1 : cmpN N most = 1 := by rw [cmpN, if_neg (by omega), if_pos hbig]
    rw [if_pos hbig, decide_eq_false (by omega)]
    rw [e1] at hC
    generalize decDigits most = DM at *
    repeat' first | ((with_reducible (first | refine condD ?_ ?_ | refine condE ?_ ?_ | refine condN ?_ ?_ | refine condI ?_ ?_ | refine condS ?_ ?_)) <;> intro h) | ((with_reducible (first | refine guardD (by with_unfolding_all rfl) ?_ ?_ | refine guardE (by with_unfolding_all rfl) ?_ ?_ | refine guardN (by with_unfolding_all rfl) ?_ ?_ | refine guardI (by with_unfolding_all rfl) ?_ ?_ | refine guardS (by with_unfolding_all rfl) ?_ ?_)) <;> intro h) | ((refine callG hRd ?_)) | ((refine callG hI ?_)) | ((refine callG hL ?_)) | ((refine callG hC ?_)) | (with_reducible refine And.intro ?_ ?_; omega) | (simp only [Z0,Z1,Z2,Z3,Z4,Z5,Z6,Z7,Z8,Z9,Za,Zb,Zc,Zd,Ze,Zf,List.cons.injEq,Zg,Zh,Zi,Zj,Zk,Zl,Zm,Zn,Zo,Zp,beq_self_eq_true,bne_self_eq_false,decide_true,decide_false,Zq,Zr,Zs,Zt,Zu,Zv,Zw,Zx,Zy,Zz,Y0,Y1,Y2,Y3,Y4,Y5,Y6,x_c,x_o,x_l,x_b,g_b,Y7,Y8,Y9,Ya,Yb,Yc,Yd,Ye,Yf,Yg,lk,ef,Yh,Yi,Yj,Yk,Yl,Ym,Yn,Yo,Yp,Yq,Yr,Ys,Yt,Yu,Yv,Yw,Yx,Yy,Yz,X0,X1,X2,X3,X4,X5,X6,X7,X8,X9,Xa,Xb,Xc,Xd,Xe,Xf,hv,Xg,ev,Xh,Xi,Xj,Xk,Xl,Xm,Xn,Xo,Xp,Xq,Xr,Xs,Xt,Xu,Xv,Xw,Xx,Xy,Xz,W0,W1,vun,bnd,W2,W3,W4,zav,W5,W6,W7,W8,W9,Wa,Value.oneCell',Wb,Wc,Wd,We,true_and,and_true,and_self,implies_true,Wf,Wg,Wh,Wi,false_implies,Wj,Wk,Wl,Wm,Wn,Wo,Wp,Wq,Wr,Ws,Wt,Wu,Wv,Ww,Wx,Wy,Wz,reduceCtorEq,if_true,if_false,V0,↓reduceIte,V1,V2,V3,V4,V5,V6,ne_eq,not_false_eq_true,not_true_eq_false,V7,V8,r47_0,r47_1,r47_2,r47_3,r47_4,r47_5,r47_6,r47_7,p47]) | (exfalso; omega)
  have hle : ¬ (0 : Int) < cmpN N most := by
    unfold cmpN
    split
    · decide
    · first | decide | (split <;> first | decide | omega)
  have hD := digits_c N (by omega)
  have hdn : (decDigits N).length ≤ 18 := by rw [decDigits_length]; exact nDigits_le 18 _ (by decide) (by omega)
  have hA := atoi_c (decDigits N) (fun e => by
    have h3 := decDigits_length N
    rw [e] at h3
    by_cases h : N < 10
    · rw [nDigits_small h] at h3; simp at h3
    · rw [nDigits_big h] at h3; simp at h3) hdn (dec_digN N)
  rw [num_dec2] at hA
  rw [if_neg hbig, decide_eq_true (by omega)]
  generalize cmpN N most = cc at *
  generalize decDigits most = DM at *
  generalize decDigits N = DN at *
  by_cases hz : z < 0
  · rw [decide_eq_true hz] at hRd ⊢
    rw [if_pos hz]
    have wn : IntKind.i64.wrap (0 - (N : Int)) = -(N : Int) := by rw [wrap_in (by omega) (by omega)]; omega
    repeat' first | ((with_reducible (first | refine condD ?_ ?_ | refine condE ?_ ?_ | refine condN ?_ ?_ | refine condI ?_ ?_ | refine condS ?_ ?_)) <;> intro h) | ((with_reducible (first | refine guardD (by with_unfolding_all rfl) ?_ ?_ | refine guardE (by with_unfolding_all rfl) ?_ ?_ | refine guardN (by with_unfolding_all rfl) ?_ ?_ | refine guardI (by with_unfolding_all rfl) ?_ ?_ | refine guardS (by with_unfolding_all rfl) ?_ ?_)) <;> intro h) | ((refine callG hRd ?_)) | ((refine callG hI ?_)) | ((refine callG hL ?_)) | ((refine callG hC ?_)) | ((refine callG hD ?_)) | ((refine callG hA ?_)) | (with_reducible refine And.intro ?_ ?_; omega) | (simp only [Z0,Z1,Z2,Z3,Z4,Z5,Z6,Z7,Z8,Z9,Za,Zb,Zc,Zd,Ze,Zf,List.cons.injEq,Zg,Zh,Zi,Zj,Zk,Zl,Zm,Zn,Zo,Zp,beq_self_eq_true,bne_self_eq_false,decide_true,decide_false,Zq,Zr,Zs,Zt,Zu,Zv,Zw,Zx,Zy,Zz,Y0,Y1,Y2,Y3,Y4,Y5,Y6,x_c,x_o,x_l,x_b,g_b,Y7,Y8,Y9,Ya,Yb,Yc,Yd,Ye,Yf,Yg,lk,ef,Yh,Yi,Yj,Yk,Yl,Ym,Yn,Yo,Yp,Yq,Yr,Ys,Yt,Yu,Yv,Yw,Yx,Yy,Yz,X0,X1,X2,X3,X4,X5,X6,X7,X8,X9,Xa,Xb,Xc,Xd,Xe,Xf,hv,Xg,ev,Xh,Xi,Xj,Xk,Xl,Xm,Xn,Xo,Xp,Xq,Xr,Xs,Xt,Xu,Xv,Xw,Xx,Xy,Xz,W0,W1,vun,bnd,W2,W3,W4,zav,W5,W6,W7,W8,W9,Wa,Value.oneCell',Wb,Wc,Wd,We,true_and,and_true,and_self,implies_true,Wf,Wg,Wh,Wi,false_implies,Wj,Wk,Wl,Wm,Wn,Wo,Wp,Wq,Wr,Ws,Wt,Wu,Wv,Ww,Wx,Wy,Wz,reduceCtorEq,if_true,if_false,V0,↓reduceIte,V1,V2,V3,V4,V5,V6,ne_eq,not_false_eq_true,not_true_eq_false,V7,V8,r47_0,r47_1,r47_2,r47_3,r47_4,r47_5,r47_6,r47_7,p47,hle,wn]) | (exfalso; omega)
  · rw [decide_eq_false hz] at hRd ⊢
    rw [if_neg hz]
    repeat' first | ((with_reducible (first | refine condD ?_ ?_ | refine condE ?_ ?_ | refine condN ?_ ?_ | refine condI ?_ ?_ | refine condS ?_ ?_)) <;> intro h) | ((with_reducible (first | refine guardD (by with_unfolding_all rfl) ?_ ?_ | refine guardE (by with_unfolding_all rfl) ?_ ?_ | refine guardN (by with_unfolding_all rfl) ?_ ?_ | refine guardI (by with_unfolding_all rfl) ?_ ?_ | refine guardS (by with_unfolding_all rfl) ?_ ?_)) <;> intro h) | ((refine callG hRd ?_)) | ((refine callG hI ?_)) | ((refine callG hL ?_)) | ((refine callG hC ?_)) | ((refine callG hD ?_)) | ((refine callG hA ?_)) | (with_reducible refine And.intro ?_ ?_; omega) | (simp only [Z0,Z1,Z2,Z3,Z4,Z5,Z6,Z7,Z8,Z9,Za,Zb,Zc,Zd,Ze,Zf,List.cons.injEq,Zg,Zh,Zi,Zj,Zk,Zl,Zm,Zn,Zo,Zp,beq_self_eq_true,bne_self_eq_false,decide_true,decide_false,Zq,Zr,Zs,Zt,Zu,Zv,Zw,Zx,Zy,Zz,Y0,Y1,Y2,Y3,Y4,Y5,Y6,x_c,x_o,x_l,x_b,g_b,Y7,Y8,Y9,Ya,Yb,Yc,Yd,Ye,Yf,Yg,lk,ef,Yh,Yi,Yj,Yk,Yl,Ym,Yn,Yo,Yp,Yq,Yr,Ys,Yt,Yu,Yv,Yw,Yx,Yy,Yz,X0,X1,X2,X3,X4,X5,X6,X7,X8,X9,Xa,Xb,Xc,Xd,Xe,Xf,hv,Xg,ev,Xh,Xi,Xj,Xk,Xl,Xm,Xn,Xo,Xp,Xq,Xr,Xs,Xt,Xu,Xv,Xw,Xx,Xy,Xz,W0,W1,vun,bnd,W2,W3,W4,zav,W5,W6,W7,W8,W9,Wa,Value.oneCell',Wb,Wc,Wd,We,true_and,and_true,and_self,implies_true,Wf,Wg,Wh,Wi,false_implies,Wj,Wk,Wl,Wm,Wn,Wo,Wp,Wq,Wr,Ws,Wt,Wu,Wv,Ww,Wx,Wy,Wz,reduceCtorEq,if_true,if_false,V0,↓reduceIte,V1,V2,V3,V4,V5,V6,ne_eq,not_false_eq_true,not_true_eq_false,V7,V8,r47_0,r47_1,r47_2,r47_3,r47_4,r47_5,r47_6,r47_7,p47,hle]) | (exfalso; omega)
end Go.Proofs.YtbdcnooafacldaaDoor
/- The reference's numbers: strconv.Atoi of 19 digits, headendref1's Round, Whole, by the machine on data. -/
namespace Go.Proofs.YtbdcnooafacldaaDoor
open Go.RowKit Go.Lib
open Go.Proofs.YtbdcnooafacldaaDoor renaming done_eq → Z0, done_eq' → Z1, donet_eq → Z2, donet_eq' → Z3, fin_val → Z4, fin_tup → Z5, fin_agg → Z6, fin_ro → Z7, res_one → Z8, res_more → Z9, rv_t → Za, rv_c → Zb, rv_l → Zc, int_eq → Zg, bool_eq → Zh, toNat_pred → Zr, toNat_succ → Zs, cnd_t → Zu, cnd_f → Zv, grd_tt → Zw, grd_u → Zx, grd_tf → Zy, grd_ft → Zz, grd_ff → Y0, g_skip → Y1, g_ops → Y2, g_seq → Y3, g_block → Y4, g_exit → Y5, g_ret → Y6, g_nil → Y7, r_all → Y8, o_nil → Y9, g_cond → Ya, o_guard → Yb, o_call → Yc, o_callm → Yd, o_callt → Ye, o_callx → Yf, o_callv → Yg, o_mv → Yh, o_pick → Yi, o_bin → Yj, o_never → Yk, o_eqs → Yl, o_eqb → Ym, o_un → Yn, o_conv → Yo, o_load → Yp, o_loadr → Yq, o_idxr → Yr, o_loads → Ys, o_fld → Yt, o_idx → Yu, o_idxs → Yv, o_len → Yw, o_lens → Yx, o_ext → Yy, o_nilck → Yz, o_slc → X0, o_slcs → X1, o_build → X2, o_minmax → X3, o_mkfn → X4, o_alloc → X5, o_box → X6, o_boxs → X7, o_row → X8, o_rowr → X9, o_mk → Xa, o_asg → Xb, o_app → Xc, o_store → Xd, o_stores → Xe, o_eqnil → Xf, eqAV → Xg, view_t → Xh, view_c → Xi, view_nil → Xj, view_fn → Xk, look_own → Xl, look_box → Xm, look_junk → Xn, look_val → Xo, look_nilsl → Xp, look_ro → Xq, look_roAt → Xr, look_agg → Xs, look_tup → Xt, look_clo → Xu, look_alias → Xv, look_ref → Xw, look_into → Xx, rowOf → Xy, cellsOf → Xz, argv → W0, vbin → W1, elemOf → W2, putParts → W3, setAt → W4, put_at → Wb, mk_at → Wc, mk_nil → Wd, initSt → We
open Go.Proofs.YtbdcnooafacldaaDoor.AV.tup renaming injEq → Zd
open Go.Proofs.YtbdcnooafacldaaDoor.AV.agg renaming injEq → Ze
open Go.Proofs.YtbdcnooafacldaaDoor.AV.ro renaming injEq → Zf
open _root_.Int renaming toNat_natCast → Zi, reduceToNat → Zj, toNat_zero → Zk, toNat_one → Zl, reduceLE → Zm, reduceLT → Zn, reduceBEq → Zo, reduceBNe → Zp, reduceNeg → Zq
open _root_.List renaming length_map → Zt, map_cons → Wf, map_nil → Wg, forall_mem_cons → Wh, not_mem_nil → Wi, length_cons → Wj, length_nil → Wk, getD_cons_zero → Wl, getD_cons_succ → Wm, getD_nil → Wn, drop_succ_cons → Wo, drop_zero → Wp, take_succ_cons → Wq, take_zero → Wr, set_cons_zero → Ws, set_cons_succ → Wt, all_cons → Wu, all_nil → Wv
open Go.Proofs.YtbdcnooafacldaaDoor.ASt renaming rid → W5, free → W6
open Go.Proofs.YtbdcnooafacldaaDoor.AV renaming kill → W7, isHome → W8, noLoan → W9, cellOK → Wa
open _root_.Bool renaming and_true → Ww, true_and → Wx, not_true → Wy, not_false → Wz, false_eq_true → V0
open _root_.Nat renaming reduceEqDiff → V1, reduceAdd → V2, reduceSub → V3, reduceMul → V4, reduceLeDiff → V5, reduceLT → V6, one_ne_zero → V7, zero_ne_one → V8
set_option linter.unusedSimpArgs false
--@short

theorem fold_ge : ∀ (l : List UInt8) (acc : Nat), acc ≤ l.foldl (fun a c => 10 * a + (c.toNat - 48)) acc
  | [], _ => Nat.le_refl _
  | c :: r, acc => Nat.le_trans (by omega) (fold_ge r (10 * acc + (c.toNat - 48)))
theorem pu_num : ∀ (l : List UInt8) (acc : Nat), (∀ c ∈ l, digB c = true) → l.foldl (fun a c => 10 * a + (c.toNat - 48)) acc ≤ 9223372036854775807 → parseUint10 acc l = .ok (l.foldl (fun a c => 10 * a + (c.toNat - 48)) acc)
  | [], _, _, _ => rfl
  | c :: r, acc, h, hb => by
    have hc := h c (by simp)
    simp only [digB, Bool.and_eq_true, decide_eq_true_eq] at hc
    rw [List.foldl_cons] at hb ⊢
    have hg := fold_ge r (10 * acc + (c.toNat - 48))
    rw [parseUint10, if_pos hc, if_neg (by omega), if_neg (by omega), Nat.mul_comm acc 10]
    exact pu_num r _ (fun x hx => h x (by simp [hx])) hb
theorem atoiAll_num {l : List UInt8} (hne : l ≠ []) (hd : ∀ c ∈ l, digB c = true) (hb : numL l ≤ 9223372036854775807) : atoiAll l = .ok (numL l : Int) := by
  cases l with
  | nil => exact absurd rfl hne
  | cons b r =>
    have hbd := hd b (by simp)
    simp only [digB, Bool.and_eq_true, decide_eq_true_eq] at hbd
    have hp := pu_num (b :: r) 0 hd hb
    have e : numL (b :: r) = (b :: r).foldl (fun a c => 10 * a + (c.toNat - 48)) 0 := rfl
    rw [← e] at hp
    simp only [atoiAll, parseMag]
    rw [if_neg (show ¬ (b.toNat = 43 ∨ b.toNat = 45) by omega), if_neg hne, hp]
    simp only
    rw [if_neg (by omega), if_neg (by omega), if_neg (by omega)]
theorem atoiW_c (l : List UInt8) (hne : l ≠ []) (hl : l.length ≤ 1000) (hd : ∀ c ∈ l, digB c = true) (hb : numL l ≤ 9223372036854775807) : CallOK Tryd.prog 64 [.val (.string (BS l))] (.tup [.val (.int .i64 (numL l : Nat)), .val .nilIface]) := by
  intro w S vs hT hS hvl hr
  match vs, hvl with
  | [v0], _ =>
    have h0 := rel_val (hr 0 _ v0 rfl rfl)
    subst h0
    refine (Tryd.strconv_Atoi_ok (BS l) (by rw [BS_size]; omega) (numL l : Int) (by rw [BS_data]; exact atoiAll_num hne hd hb) w).mono ?_
    rintro ev w' ⟨rfl, hw⟩
    have hbel : Below w.heap.size w w' := by
      rcases hw with rfl | ⟨t, rfl⟩
      · exact Below.refl _ _
      · exact Go.Joins.below_bytesWorld _ _ _ _ (Nat.le_refl _)
    refine ⟨_, rfl, hbel, ?_⟩
    exact Rel.tup [.val (.int .i64 (numL l : Nat)), .val .nilIface] #[.int .i64 (numL l : Int), .nilIface] rfl fun j av hj => by
      match j, hj with
      | 0, hj => injection hj with hj; subst hj; exact Rel.val _
      | 1, hj => injection hj with hj; subst hj; exact Rel.val _
set_option maxRecDepth 20000 in
set_option maxHeartbeats 2000000 in
/-- Rounded to a whole number that is not greater than most (19 digits). -/
theorem roundW_c (z : Int) (q : Nat) (way : Int) (most : Nat) (hm : most ≤ 9223372036854775807) (hq : 0 < q) (h1 : (lm z.natAbs).length ≤ 700) (h2 : (lm q).length ≤ 700) :
    CallOK Tryd.prog 47 [.agg (RQ z q), .val (.int .i64 way), .val (.int .i64 most)]
      (.tup [.val (.int .i64 (if most < rndN (decide (z < 0)) z.natAbs q way then 0 else if z < 0 then -(rndN (decide (z < 0)) z.natAbs q way : Int) else rndN (decide (z < 0)) z.natAbs q way)), .val (.bool (decide (rndN (decide (z < 0)) z.natAbs q way ≤ most)))]) := by
  refine call_of mixed ok47 rfl ?_
  have hRd := round_q z q way hq (by omega) (by omega)
  have hNl : (lm (rndN (decide (z < 0)) z.natAbs q way)).length ≤ 800 := by
    have h := lm_below z.natAbs
    obtain ⟨K, hK⟩ : ∃ K, K = 700 := ⟨_, rfl⟩
    have h3 : 10000 ^ (lm z.natAbs).length ≤ 10000 ^ K := Nat.pow_le_pow_right (by decide) (by omega)
    have h4 : z.natAbs / q ≤ z.natAbs := Nat.div_le_self _ _
    have h5 : rndN (decide (z < 0)) z.natAbs q way ≤ z.natAbs + 1 := by unfold rndN; split <;> omega
    refine Nat.le_trans (lm_len (k := K + 1) ?_) (by omega)
    have h7 : 10000 ^ (K + 1) = 10000 ^ K * 10000 := Nat.pow_succ _ _
    generalize 10000 ^ K = P7 at *
    rw [h7]
    omega
  obtain ⟨N, hN⟩ : ∃ N, N = rndN (decide (z < 0)) z.natAbs q way := ⟨_, rfl⟩
  rw [← hN] at hRd hNl ⊢
  have hI := itoa_c most (by omega)
  have hdl : (decDigits most).length ≤ 19 := by rw [decDigits_length]; exact nDigits_le 19 _ (by decide) (by omega)
  have hL := limbs_c (decDigits most) (dec_digN most) (by omega)
  rw [num_dec2] at hL
  have hC := compare_c N most (by omega)
  have hsgn : RQ z q = [.val (.bool (decide (z < 0))), (RQ z q)[1]'(by simp [RQ, numAV]), (RQ z q)[2]'(by simp [RQ, numAV])] := rfl
  obtain ⟨T, B, hTB⟩ : ∃ T B, RQ z q = [.val (.bool (decide (z < 0))), T, B] := ⟨_, _, hsgn⟩
  rw [hTB] at hRd ⊢
  clear hTB hsgn
  by_cases hbig : most < N
  · have e1 : cmpN N most = 1 := by rw [cmpN, if_neg (by omega), if_pos hbig]
    rw [if_pos hbig, decide_eq_false (by omega)]
    rw [e1] at hC
    generalize decDigits most = DM at *
    repeat' first | ((with_reducible (first | refine condD ?_ ?_ | refine condE ?_ ?_ | refine condN ?_ ?_ | refine condI ?_ ?_ | refine condS ?_ ?_)) <;> intro h) | ((with_reducible (first | refine guardD (by with_unfolding_all rfl) ?_ ?_ | refine guardE (by with_unfolding_all rfl) ?_ ?_ | refine guardN (by with_unfolding_all rfl) ?_ ?_ | refine guardI (by with_unfolding_all rfl) ?_ ?_ | refine guardS (by with_unfolding_all rfl) ?_ ?_)) <;> intro h) | ((refine callG hRd ?_)) | ((refine callG hI ?_)) | ((refine callG hL ?_)) | ((refine callG hC ?_)) | (with_reducible refine And.intro ?_ ?_; omega) | (simp only [Z0,Z1,Z2,Z3,Z4,Z5,Z6,Z7,Z8,Z9,Za,Zb,Zc,Zd,Ze,Zf,List.cons.injEq,Zg,Zh,Zi,Zj,Zk,Zl,Zm,Zn,Zo,Zp,beq_self_eq_true,bne_self_eq_false,decide_true,decide_false,Zq,Zr,Zs,Zt,Zu,Zv,Zw,Zx,Zy,Zz,Y0,Y1,Y2,Y3,Y4,Y5,Y6,x_c,x_o,x_l,x_b,g_b,Y7,Y8,Y9,Ya,Yb,Yc,Yd,Ye,Yf,Yg,lk,ef,Yh,Yi,Yj,Yk,Yl,Ym,Yn,Yo,Yp,Yq,Yr,Ys,Yt,Yu,Yv,Yw,Yx,Yy,Yz,X0,X1,X2,X3,X4,X5,X6,X7,X8,X9,Xa,Xb,Xc,Xd,Xe,Xf,hv,Xg,ev,Xh,Xi,Xj,Xk,Xl,Xm,Xn,Xo,Xp,Xq,Xr,Xs,Xt,Xu,Xv,Xw,Xx,Xy,Xz,W0,W1,vun,bnd,W2,W3,W4,zav,W5,W6,W7,W8,W9,Wa,Value.oneCell',Wb,Wc,Wd,We,true_and,and_true,and_self,implies_true,Wf,Wg,Wh,Wi,false_implies,Wj,Wk,Wl,Wm,Wn,Wo,Wp,Wq,Wr,Ws,Wt,Wu,Wv,Ww,Wx,Wy,Wz,reduceCtorEq,if_true,if_false,V0,↓reduceIte,V1,V2,V3,V4,V5,V6,ne_eq,not_false_eq_true,not_true_eq_false,V7,V8,r47_0,r47_1,r47_2,r47_3,r47_4,r47_5,r47_6,r47_7,p47]) | (exfalso; omega)
  have hle : ¬ (0 : Int) < cmpN N most := by
    unfold cmpN
    split
    · decide
    · first | decide | (split <;> first | decide | omega)
  have hD := digits_c N (by omega)
  have hdn : (decDigits N).length ≤ 19 := by rw [decDigits_length]; exact nDigits_le 19 _ (by decide) (by omega)
  have hA := atoiW_c (decDigits N) (fun e => by
    have h3 := decDigits_length N
    rw [e] at h3
    by_cases h : N < 10
    · rw [nDigits_small h] at h3; simp at h3
    · rw [nDigits_big h] at h3; simp at h3) (by omega) (dec_digN N) (by rw [num_dec2]; omega)
  rw [num_dec2] at hA
  rw [if_neg hbig, decide_eq_true (by omega)]
  generalize cmpN N most = cc at *
  generalize decDigits most = DM at *
  generalize decDigits N = DN at *
  by_cases hz : z < 0
  · rw [decide_eq_true hz] at hRd ⊢
    rw [if_pos hz]
    have wn : IntKind.i64.wrap (0 - (N : Int)) = -(N : Int) := by rw [wrap_in (by omega) (by omega)]; omega
    repeat' first | ((with_reducible (first | refine condD ?_ ?_ | refine condE ?_ ?_ | refine condN ?_ ?_ | refine condI ?_ ?_ | refine condS ?_ ?_)) <;> intro h) | ((with_reducible (first | refine guardD (by with_unfolding_all rfl) ?_ ?_ | refine guardE (by with_unfolding_all rfl) ?_ ?_ | refine guardN (by with_unfolding_all rfl) ?_ ?_ | refine guardI (by with_unfolding_all rfl) ?_ ?_ | refine guardS (by with_unfolding_all rfl) ?_ ?_)) <;> intro h) | ((refine callG hRd ?_)) | ((refine callG hI ?_)) | ((refine callG hL ?_)) | ((refine callG hC ?_)) | ((refine callG hD ?_)) | ((refine callG hA ?_)) | (with_reducible refine And.intro ?_ ?_; omega) | (simp only [Z0,Z1,Z2,Z3,Z4,Z5,Z6,Z7,Z8,Z9,Za,Zb,Zc,Zd,Ze,Zf,List.cons.injEq,Zg,Zh,Zi,Zj,Zk,Zl,Zm,Zn,Zo,Zp,beq_self_eq_true,bne_self_eq_false,decide_true,decide_false,Zq,Zr,Zs,Zt,Zu,Zv,Zw,Zx,Zy,Zz,Y0,Y1,Y2,Y3,Y4,Y5,Y6,x_c,x_o,x_l,x_b,g_b,Y7,Y8,Y9,Ya,Yb,Yc,Yd,Ye,Yf,Yg,lk,ef,Yh,Yi,Yj,Yk,Yl,Ym,Yn,Yo,Yp,Yq,Yr,Ys,Yt,Yu,Yv,Yw,Yx,Yy,Yz,X0,X1,X2,X3,X4,X5,X6,X7,X8,X9,Xa,Xb,Xc,Xd,Xe,Xf,hv,Xg,ev,Xh,Xi,Xj,Xk,Xl,Xm,Xn,Xo,Xp,Xq,Xr,Xs,Xt,Xu,Xv,Xw,Xx,Xy,Xz,W0,W1,vun,bnd,W2,W3,W4,zav,W5,W6,W7,W8,W9,Wa,Value.oneCell',Wb,Wc,Wd,We,true_and,and_true,and_self,implies_true,Wf,Wg,Wh,Wi,false_implies,Wj,Wk,Wl,Wm,Wn,Wo,Wp,Wq,Wr,Ws,Wt,Wu,Wv,Ww,Wx,Wy,Wz,reduceCtorEq,if_true,if_false,V0,↓reduceIte,V1,V2,V3,V4,V5,V6,ne_eq,not_false_eq_true,not_true_eq_false,V7,V8,r47_0,r47_1,r47_2,r47_3,r47_4,r47_5,r47_6,r47_7,p47,hle,wn]) | (exfalso; omega)
  · rw [decide_eq_false hz] at hRd ⊢
    rw [if_neg hz]
    repeat' first | ((with_reducible (first | refine condD ?_ ?_ | refine condE ?_ ?_ | refine condN ?_ ?_ | refine condI ?_ ?_ | refine condS ?_ ?_)) <;> intro h) | ((with_reducible (first | refine guardD (by with_unfolding_all rfl) ?_ ?_ | refine guardE (by with_unfolding_all rfl) ?_ ?_ | refine guardN (by with_unfolding_all rfl) ?_ ?_ | refine guardI (by with_unfolding_all rfl) ?_ ?_ | refine guardS (by with_unfolding_all rfl) ?_ ?_)) <;> intro h) | ((refine callG hRd ?_)) | ((refine callG hI ?_)) | ((refine callG hL ?_)) | ((refine callG hC ?_)) | ((refine callG hD ?_)) | ((refine callG hA ?_)) | (with_reducible refine And.intro ?_ ?_; omega) | (simp only [Z0,Z1,Z2,Z3,Z4,Z5,Z6,Z7,Z8,Z9,Za,Zb,Zc,Zd,Ze,Zf,List.cons.injEq,Zg,Zh,Zi,Zj,Zk,Zl,Zm,Zn,Zo,Zp,beq_self_eq_true,bne_self_eq_false,decide_true,decide_false,Zq,Zr,Zs,Zt,Zu,Zv,Zw,Zx,Zy,Zz,Y0,Y1,Y2,Y3,Y4,Y5,Y6,x_c,x_o,x_l,x_b,g_b,Y7,Y8,Y9,Ya,Yb,Yc,Yd,Ye,Yf,Yg,lk,ef,Yh,Yi,Yj,Yk,Yl,Ym,Yn,Yo,Yp,Yq,Yr,Ys,Yt,Yu,Yv,Yw,Yx,Yy,Yz,X0,X1,X2,X3,X4,X5,X6,X7,X8,X9,Xa,Xb,Xc,Xd,Xe,Xf,hv,Xg,ev,Xh,Xi,Xj,Xk,Xl,Xm,Xn,Xo,Xp,Xq,Xr,Xs,Xt,Xu,Xv,Xw,Xx,Xy,Xz,W0,W1,vun,bnd,W2,W3,W4,zav,W5,W6,W7,W8,W9,Wa,Value.oneCell',Wb,Wc,Wd,We,true_and,and_true,and_self,implies_true,Wf,Wg,Wh,Wi,false_implies,Wj,Wk,Wl,Wm,Wn,Wo,Wp,Wq,Wr,Ws,Wt,Wu,Wv,Ww,Wx,Wy,Wz,reduceCtorEq,if_true,if_false,V0,↓reduceIte,V1,V2,V3,V4,V5,V6,ne_eq,not_false_eq_true,not_true_eq_false,V7,V8,r47_0,r47_1,r47_2,r47_3,r47_4,r47_5,r47_6,r47_7,p47,hle]) | (exfalso; omega)
/-! headend/headendref1.Whole -/
def r27_0 : List POp := [⟨2, .boxs (.t 0), none⟩,
  ⟨4, .asg (.c (.int .i64 0)), none⟩]
def r27_1 : List POp := [⟨8, .loads 3 (.t 2), none⟩,
  ⟨9, .mv (.t 1), none⟩,
  ⟨10, .call 47 [.t 8, .t 9, .c (.int .i64 4611686018427387904)], none⟩,
  ⟨7, .mv (.t 10), none⟩,
  ⟨11, .ext 0 (.t 7), none⟩,
  ⟨12, .ext 1 (.t 7), none⟩,
  ⟨5, .mv (.t 11), none⟩,
  ⟨6, .mv (.t 12), none⟩]
def r27_2 : List POp := [⟨13, .mv (.t 6), none⟩]
def r27_3 : List POp := [⟨14, .mv (.t 5), none⟩,
  ⟨4, .asg (.t 14), none⟩]
def r27_4 : List POp := [⟨15, .fld 0 (.t 2), none⟩,
  ⟨16, .load (.t 15), none⟩]
def r27_5 : List POp := [⟨4, .asg (.c (.int .i64 (-4611686018427387904))), none⟩]
def r27_6 : List POp := [⟨4, .asg (.c (.int .i64 4611686018427387904)), none⟩]
def p27 : PCode := .seq (.ops r27_0) (.seq (.ops r27_1) (.seq (.seq (.ops r27_2) (.cond (.t 13) (.seq (.ops r27_3) (.ret)) (.skip))) (.seq (.seq (.ops r27_4) (.cond (.t 16) (.seq (.ops r27_5) (.ret)) (.skip))) (.seq (.ops r27_6) (.ret)))))
theorem ok27 : okFunc Tryd.prog 27 [.t 4] 2 p27 = true := by kernel_rfl
def whlN (z : Int) (N : Nat) : Int := if 4611686018427387904 < N then (if z < 0 then -4611686018427387904 else 4611686018427387904) else if z < 0 then -(N : Int) else N
theorem whole_c (z : Int) (q : Nat) (way : Int) (hq : 0 < q) (h1 : (lm z.natAbs).length ≤ 700) (h2 : (lm q).length ≤ 700) :
    CallOK Tryd.prog 27 [.agg (RQ z q), .val (.int .i64 way)] (.val (.int .i64 (whlN z (rndN (decide (z < 0)) z.natAbs q way)))) := by
  refine call_of mixed ok27 rfl ?_
  have hR := roundW_c z q way 4611686018427387904 (by decide) hq h1 h2
  generalize rndN (decide (z < 0)) z.natAbs q way = N at *
  have hsgn : RQ z q = [.val (.bool (decide (z < 0))), (RQ z q)[1]'(by simp [RQ, numAV]), (RQ z q)[2]'(by simp [RQ, numAV])] := rfl
  obtain ⟨T, B, hTB⟩ : ∃ T B, RQ z q = [.val (.bool (decide (z < 0))), T, B] := ⟨_, _, hsgn⟩
  rw [hTB] at hR ⊢
  clear hTB hsgn
  unfold whlN
  by_cases hb : 4611686018427387904 < N
  · rw [if_pos hb, decide_eq_false (show ¬ N ≤ 4611686018427387904 by omega)] at hR
    rw [if_pos hb]
    by_cases hz : z < 0
    · rw [if_pos hz]
      rw [decide_eq_true hz] at hR ⊢
      repeat' first | ((with_reducible (first | refine condD ?_ ?_ | refine condE ?_ ?_ | refine condN ?_ ?_ | refine condI ?_ ?_ | refine condS ?_ ?_)) <;> intro h) | ((with_reducible (first | refine guardD (by with_unfolding_all rfl) ?_ ?_ | refine guardE (by with_unfolding_all rfl) ?_ ?_ | refine guardN (by with_unfolding_all rfl) ?_ ?_ | refine guardI (by with_unfolding_all rfl) ?_ ?_ | refine guardS (by with_unfolding_all rfl) ?_ ?_)) <;> intro h) | ((refine callG hR ?_)) | (with_reducible refine And.intro ?_ ?_; omega) | (simp only [Z0,Z1,Z2,Z3,Z4,Z5,Z6,Z7,Z8,Z9,Za,Zb,Zc,Zd,Ze,Zf,List.cons.injEq,Zg,Zh,Zi,Zj,Zk,Zl,Zm,Zn,Zo,Zp,beq_self_eq_true,bne_self_eq_false,decide_true,decide_false,Zq,Zr,Zs,Zt,Zu,Zv,Zw,Zx,Zy,Zz,Y0,Y1,Y2,Y3,Y4,Y5,Y6,x_c,x_o,x_l,x_b,g_b,Y7,Y8,Y9,Ya,Yb,Yc,Yd,Ye,Yf,Yg,lk,ef,Yh,Yi,Yj,Yk,Yl,Ym,Yn,Yo,Yp,Yq,Yr,Ys,Yt,Yu,Yv,Yw,Yx,Yy,Yz,X0,X1,X2,X3,X4,X5,X6,X7,X8,X9,Xa,Xb,Xc,Xd,Xe,Xf,hv,Xg,ev,Xh,Xi,Xj,Xk,Xl,Xm,Xn,Xo,Xp,Xq,Xr,Xs,Xt,Xu,Xv,Xw,Xx,Xy,Xz,W0,W1,vun,bnd,W2,W3,W4,zav,W5,W6,W7,W8,W9,Wa,Value.oneCell',Wb,Wc,Wd,We,true_and,and_true,and_self,implies_true,Wf,Wg,Wh,Wi,false_implies,Wj,Wk,Wl,Wm,Wn,Wo,Wp,Wq,Wr,Ws,Wt,Wu,Wv,Ww,Wx,Wy,Wz,reduceCtorEq,if_true,if_false,V0,↓reduceIte,V1,V2,V3,V4,V5,V6,ne_eq,not_false_eq_true,not_true_eq_false,V7,V8,r27_0,r27_1,r27_2,r27_3,r27_4,r27_5,r27_6,p27]) | (exfalso; omega)
    · rw [if_neg hz]
      rw [decide_eq_false hz] at hR ⊢
      repeat' first | ((with_reducible (first | refine condD ?_ ?_ | refine condE ?_ ?_ | refine condN ?_ ?_ | refine condI ?_ ?_ | refine condS ?_ ?_)) <;> intro h) | ((with_reducible (first | refine guardD (by with_unfolding_all rfl) ?_ ?_ | refine guardE (by with_unfolding_all rfl) ?_ ?_ | refine guardN (by with_unfolding_all rfl) ?_ ?_ | refine guardI (by with_unfolding_all rfl) ?_ ?_ | refine guardS (by with_unfolding_all rfl) ?_ ?_)) <;> intro h) | ((refine callG hR ?_)) | (with_reducible refine And.intro ?_ ?_; omega) | (simp only [Z0,Z1,Z2,Z3,Z4,Z5,Z6,Z7,Z8,Z9,Za,Zb,Zc,Zd,Ze,Zf,List.cons.injEq,Zg,Zh,Zi,Zj,Zk,Zl,Zm,Zn,Zo,Zp,beq_self_eq_true,bne_self_eq_false,decide_true,decide_false,Zq,Zr,Zs,Zt,Zu,Zv,Zw,Zx,Zy,Zz,Y0,Y1,Y2,Y3,Y4,Y5,Y6,x_c,x_o,x_l,x_b,g_b,Y7,Y8,Y9,Ya,Yb,Yc,Yd,Ye,Yf,Yg,lk,ef,Yh,Yi,Yj,Yk,Yl,Ym,Yn,Yo,Yp,Yq,Yr,Ys,Yt,Yu,Yv,Yw,Yx,Yy,Yz,X0,X1,X2,X3,X4,X5,X6,X7,X8,X9,Xa,Xb,Xc,Xd,Xe,Xf,hv,Xg,ev,Xh,Xi,Xj,Xk,Xl,Xm,Xn,Xo,Xp,Xq,Xr,Xs,Xt,Xu,Xv,Xw,Xx,Xy,Xz,W0,W1,vun,bnd,W2,W3,W4,zav,W5,W6,W7,W8,W9,Wa,Value.oneCell',Wb,Wc,Wd,We,true_and,and_true,and_self,implies_true,Wf,Wg,Wh,Wi,false_implies,Wj,Wk,Wl,Wm,Wn,Wo,Wp,Wq,Wr,Ws,Wt,Wu,Wv,Ww,Wx,Wy,Wz,reduceCtorEq,if_true,if_false,V0,↓reduceIte,V1,V2,V3,V4,V5,V6,ne_eq,not_false_eq_true,not_true_eq_false,V7,V8,r27_0,r27_1,r27_2,r27_3,r27_4,r27_5,r27_6,p27]) | (exfalso; omega)
  · rw [if_neg hb, decide_eq_true (show N ≤ 4611686018427387904 by omega)] at hR
    rw [if_neg hb]
    generalize (if z < 0 then -(N : Int) else (N : Int)) = V at *
    repeat' first | ((with_reducible (first | refine condD ?_ ?_ | refine condE ?_ ?_ | refine condN ?_ ?_ | refine condI ?_ ?_ | refine condS ?_ ?_)) <;> intro h) | ((with_reducible (first | refine guardD (by with_unfolding_all rfl) ?_ ?_ | refine guardE (by with_unfolding_all rfl) ?_ ?_ | refine guardN (by with_unfolding_all rfl) ?_ ?_ | refine guardI (by with_unfolding_all rfl) ?_ ?_ | refine guardS (by with_unfolding_all rfl) ?_ ?_)) <;> intro h) | ((refine callG hR ?_)) | (with_reducible refine And.intro ?_ ?_; omega) | (simp only [Z0,Z1,Z2,Z3,Z4,Z5,Z6,Z7,Z8,Z9,Za,Zb,Zc,Zd,Ze,Zf,List.cons.injEq,Zg,Zh,Zi,Zj,Zk,Zl,Zm,Zn,Zo,Zp,beq_self_eq_true,bne_self_eq_false,decide_true,decide_false,Zq,Zr,Zs,Zt,Zu,Zv,Zw,Zx,Zy,Zz,Y0,Y1,Y2,Y3,Y4,Y5,Y6,x_c,x_o,x_l,x_b,g_b,Y7,Y8,Y9,Ya,Yb,Yc,Yd,Ye,Yf,Yg,lk,ef,Yh,Yi,Yj,Yk,Yl,Ym,Yn,Yo,Yp,Yq,Yr,Ys,Yt,Yu,Yv,Yw,Yx,Yy,Yz,X0,X1,X2,X3,X4,X5,X6,X7,X8,X9,Xa,Xb,Xc,Xd,Xe,Xf,hv,Xg,ev,Xh,Xi,Xj,Xk,Xl,Xm,Xn,Xo,Xp,Xq,Xr,Xs,Xt,Xu,Xv,Xw,Xx,Xy,Xz,W0,W1,vun,bnd,W2,W3,W4,zav,W5,W6,W7,W8,W9,Wa,Value.oneCell',Wb,Wc,Wd,We,true_and,and_true,and_self,implies_true,Wf,Wg,Wh,Wi,false_implies,Wj,Wk,Wl,Wm,Wn,Wo,Wp,Wq,Wr,Ws,Wt,Wu,Wv,Ww,Wx,Wy,Wz,reduceCtorEq,if_true,if_false,V0,↓reduceIte,V1,V2,V3,V4,V5,V6,ne_eq,not_false_eq_true,not_true_eq_false,V7,V8,r27_0,r27_1,r27_2,r27_3,r27_4,r27_5,r27_6,p27]) | (exfalso; omega)
end Go.Proofs.YtbdcnooafacldaaDoor
