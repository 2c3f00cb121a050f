/- The parts of a segment have all its samples: the law's function, by the machine on data. -/
import Derived.Test.YtpkeiabifoipoaaKPiece
import Derived.Test.YtpkeiabifoipoaaKSeek
namespace Go.Proofs.Ytpkeiabifoipoaa
open Go.RowKit
set_option linter.unusedSimpArgs false

/-! ### The plain law -/
inductive Chain (smps : List Smp) (tgt : Int) (F : Nat) : List Pc → Nat → Prop
  | nil : Chain smps tgt F [] F
  | snoc {l : List Pc} {q : Nat} {p : Pc} (h : Chain smps tgt F l q) (h1 : p.frm = q) (h2 : q < p.to) (h3 : p.len ≤ tgt ∨ p.to = q + 1) (h4 : ∃ h : q < smps.length, p.free = smps[q].key ∧ ∀ x, l.getLast? = some x → tgt < IntKind.i64.wrap (x.len + smps[q].step)) : Chain smps tgt F (l ++ [p]) p.to
def atOf (F : Nat) (l : List Pc) (j : Nat) : Nat := if j = 0 then F else (l[j-1]?.map Pc.to).getD 0
section
variable {smps : List Smp} {tgt : Int} {F : Nat}
theorem chain_end {l : List Pc} {q : Nat} (h : Chain smps tgt F l q) : atOf F l l.length = q := by
  cases h with
  | nil => rfl
  | snoc h => simp [atOf]
theorem chain_len {l : List Pc} {q : Nat} (h : Chain smps tgt F l q) : F + l.length ≤ q := by
  induction h with
  | nil => simp
  | snoc h h1 h2 h3 h4 ih => simp; omega
theorem chain_at {l : List Pc} {q : Nat} (h : Chain smps tgt F l q) : ∀ j, (hj : j < l.length) → l[j].frm = atOf F l j ∧ atOf F l j < l[j].to ∧ l[j].to ≤ q ∧ (l[j].len ≤ tgt ∨ l[j].to = atOf F l j + 1) ∧
    ∃ h : atOf F l j < smps.length, l[j].free = smps[atOf F l j].key ∧ ∀ x, 0 < j → l[j-1]? = some x → tgt < IntKind.i64.wrap (x.len + smps[atOf F l j].step) := by
  induction h with
  | nil => intro j hj; simp at hj
  | @snoc l q p h h1 h2 h3 h4 ih =>
    intro j hj
    by_cases hjl : j < l.length
    · have e : atOf F (l ++ [p]) j = atOf F l j := by
        unfold atOf
        split
        · rfl
        · rw [List.getElem?_append_left (by omega)]
      have := ih j hjl
      rw [List.getElem_append_left hjl]
      simp only [e]
      obtain ⟨g1, g2, g3, g4, g5, g6, g7⟩ := this
      refine ⟨g1, g2, by omega, g4, g5, g6, fun x hx hx2 => g7 x hx ?_⟩
      rwa [List.getElem?_append_left (by omega)] at hx2
    · have hje : j = l.length := by simp at hj; omega
      subst hje
      have e : atOf F (l ++ [p]) l.length = q := by
        rw [← chain_end h]
        unfold atOf
        split
        · rfl
        · rw [List.getElem?_append_left (by omega)]
      simp only [List.getElem_append_right (Nat.le_refl _), Nat.sub_self, List.getElem_cons_zero, e]
      obtain ⟨g5, g6, g7⟩ := h4
      refine ⟨h1, h2, Nat.le_refl _, h3, g5, g6, fun x hx hx2 => g7 x ?_⟩
      rw [List.getElem?_append_left (by omega)] at hx2
      rw [List.getLast?_eq_getElem?]
      exact hx2
theorem step_chain {out : List Pc} {i : Nat} (h : Chain smps tgt F out i) (hi : i < smps.length) : Chain smps tgt F (pcStep tgt i smps[i] out) (i + 1) := by
  rcases nil_or_last out with rfl | ⟨pre, p, rfl⟩
  · generalize hl : ([] : List Pc) = l at h
    cases h with
    | nil => exact .snoc (l := []) (p := ⟨F, F + 1, smps[F].step, smps[F].key⟩) .nil rfl (by simp) (.inr rfl) ⟨hi, rfl, by simp⟩
    | snoc h => simp at hl
  · rw [pcStep_last]
    split
    · rename_i hc
      generalize hl : pre ++ [p] = l at h
      cases h with
      | nil => simp at hl
      | snoc h h1 h2 h3 h4 =>
        rename_i l' q' p'
        obtain ⟨rfl, hp⟩ := List.append_inj' hl rfl
        cases hp
        exact .snoc (p := ⟨p.frm, p.to + 1, IntKind.i64.wrap (p.len + smps[p.to].step), p.free⟩) h h1 (by simp only; omega) (.inl hc) h4
    · rename_i hc
      exact .snoc (p := ⟨i, i + 1, smps[i].step, smps[i].key⟩) h rfl (by simp) (.inr rfl) ⟨hi, rfl, fun x hx => by simp at hx; subst hx; omega⟩
theorem go_chain : ∀ (seg : List Smp) (i : Nat) (out : List Pc), Chain smps tgt F out i → i + seg.length ≤ smps.length → (∀ j, (h : j < seg.length) → smps[i + j]? = some seg[j]) → Chain smps tgt F (pcGo tgt i out seg) (i + seg.length)
  | [], i, out, h, _, _ => h
  | x :: r, i, out, h, hl, he => by
    have hi : i < smps.length := by simp at hl; omega
    have hx : smps[i] = x := by
      have := he 0 (by simp)
      rw [Nat.add_zero, List.getElem?_eq_getElem hi] at this
      simpa using this
    have hs := step_chain h hi
    rw [hx] at hs
    have := go_chain r (i + 1) _ hs (by simp at hl; omega) (fun j hj => by
      have := he (j + 1) (by simpa using hj)
      rw [show i + 1 + j = i + (j + 1) by omega]
      simpa using this)
    rw [List.length_cons, show i + (r.length + 1) = i + 1 + r.length by omega]
    exact this
end
theorem pieces_ok {r : Str} {s : Seg} {tgt : Int} (h : (pieces r s tgt).2 = 0) : ∃ F T : Nat, s.frm = F ∧ s.to = T ∧ T ≤ r.smps.length ∧ r.smps.length ≤ 5000 ∧ Chain r.smps tgt F (pieces r s tgt).1 T := by
  unfold pieces at h ⊢
  split at h
  · rename_i h1; exact absurd h h1
  · rename_i h1
    rw [if_neg h1]
    split at h
    · cases h
    · rename_i h2
      rw [if_neg h2]
      simp only [outPc, Bool.or_eq_true, not_or, decide_eq_true_eq] at h2
      obtain ⟨⟨⟨g1, g2⟩, g3⟩, g4⟩ := h2
      have hs := strF_0 (by simpa using h1 : strF r [] = 0)
      have hl := smpF_len hs.1
      have := go_chain (smps := r.smps) (tgt := tgt) (F := s.frm.toNat) ((r.smps.take s.to.toNat).drop s.frm.toNat) s.frm.toNat [] .nil (by rw [List.length_drop, List.length_take]; omega) (fun j hj => by
        rw [List.length_drop, List.length_take] at hj
        rw [List.getElem_drop, List.getElem_take, List.getElem?_eq_getElem])
      rw [List.length_drop, List.length_take, show s.frm.toNat + (min s.to.toNat r.smps.length - s.frm.toNat) = s.to.toNat by omega] at this
      exact ⟨s.frm.toNat, s.to.toNat, by omega, by omega, by omega, hl, this⟩
theorem pieces_no {r : Str} {s : Seg} {tgt : Int} (h : (pieces r s tgt).2 ≠ 0) : (pieces r s tgt).1 = [] := by
  unfold pieces at h ⊢
  split
  · rfl
  · rename_i h1
    split
    · rfl
    · rename_i h2
      rw [if_neg h1, if_neg h2] at h
      simp at h
theorem all_smp (x : List AV) (h : HasAll [.int .i64, .int .i64, .int .i64, .int .i64, .bool] x) : ∃ s : Smp, x = s.av ∧ (I64 s.time ∧ I64 s.step ∧ I64 s.shift ∧ I64 s.size) := by
  obtain ⟨v0, r, rfl, h0, h⟩ := all_cons h
  obtain ⟨v1, r, rfl, h1, h⟩ := all_cons h
  obtain ⟨v2, r, rfl, h2, h⟩ := all_cons h
  obtain ⟨v3, r, rfl, h3, h⟩ := all_cons h
  obtain ⟨v4, r, rfl, h4, h⟩ := all_cons h
  obtain rfl := all_nil h
  obtain ⟨n0, rfl, b0⟩ := has_int h0
  obtain ⟨n1, rfl, b1⟩ := has_int h1
  obtain ⟨n2, rfl, b2⟩ := has_int h2
  obtain ⟨n3, rfl, b3⟩ := has_int h3
  obtain ⟨k, rfl⟩ := has_bool h4
  exact ⟨⟨n0, n1, n2, n3, k⟩, rfl, b0, b1, b2, b3⟩
theorem all_str (x : List AV) (h : HasAll [.str, .int .i64, .bool, .row [.int .i64, .int .i64, .int .i64, .int .i64, .bool]] x) : ∃ s : Str, x = s.av ∧ s.smps.length ≤ maxLen := by
  obtain ⟨v0, r, rfl, h0, h⟩ := all_cons h
  obtain ⟨v1, r, rfl, h1, h⟩ := all_cons h
  obtain ⟨v2, r, rfl, h2, h⟩ := all_cons h
  obtain ⟨v3, r, rfl, h3, h⟩ := all_cons h
  obtain rfl := all_nil h
  obtain ⟨n0, rfl, _⟩ := has_str h0
  obtain ⟨n1, rfl, _⟩ := has_int h1
  obtain ⟨k, rfl⟩ := has_bool h2
  obtain ⟨l, rfl, hl, _⟩ := has_row h3 all_smp
  exact ⟨⟨n0, n1, k, l⟩, rfl, hl⟩
/-! headend/headendlaw4.CutPiecesAreAll -/
def r6_0 : List POp := [⟨3, .boxs (.t 0), none⟩,
  ⟨4, .boxs (.t 1), none⟩,
  ⟨6, .asg (.c (.bool false)), none⟩]
def r6_1 : List POp := [⟨13, .loads 4 (.t 3), none⟩,
  ⟨14, .loads 7 (.t 4), none⟩,
  ⟨15, .mv (.t 2), none⟩,
  ⟨16, .call 18 [.t 13, .t 14, .t 15], none⟩,
  ⟨12, .mv (.t 16), none⟩,
  ⟨17, .ext 0 (.t 12), none⟩,
  ⟨18, .ext 1 (.t 12), none⟩,
  ⟨7, .asg (.t 17), none⟩,
  ⟨8, .asg (.t 18), none⟩]
def r6_2 : List POp := [⟨19, .mv (.t 8), none⟩,
  ⟨20, .bin .neq (.t 19) (.c (.int .i64 0)), none⟩]
def r6_3 : List POp := [⟨21, .mv (.t 7), none⟩,
  ⟨22, .len (.t 21), none⟩,
  ⟨23, .bin .eql (.t 22) (.c (.int .i64 0)), none⟩,
  ⟨24, .mv (.t 23), none⟩,
  ⟨25, .call 12 [], some (24, true)⟩,
  ⟨26, .pick (.t 24) (.t 25) (.c (.bool false)), none⟩,
  ⟨6, .asg (.t 26), none⟩]
def r6_4 : List POp := [⟨27, .fld 1 (.t 4), none⟩,
  ⟨28, .load (.t 27), none⟩,
  ⟨9, .asg (.t 28), none⟩]
def r6_5 : List POp := [⟨10, .asg (.c (.int .i64 0)), none⟩]
def r6_6 : List POp := [⟨29, .mv (.t 10), none⟩,
  ⟨30, .mv (.t 7), none⟩,
  ⟨31, .len (.t 30), none⟩,
  ⟨32, .bin .lss (.t 29) (.t 31), none⟩]
def r6_8 : List POp := [⟨35, .mv (.t 7), none⟩,
  ⟨36, .mv (.t 10), none⟩,
  ⟨37, .idx 4 (.t 35) (.t 36), none⟩,
  ⟨38, .loads 4 (.t 37), none⟩,
  ⟨11, .alloc [.int .i64 0, .int .i64 0, .int .i64 0, .bool false], none⟩,
  ⟨0, .stores 4 (.t 11) (.t 38), none⟩]
def r6_9 : List POp := [⟨39, .fld 0 (.t 11), none⟩,
  ⟨40, .load (.t 39), none⟩,
  ⟨41, .mv (.t 9), none⟩,
  ⟨42, .bin .neq (.t 40) (.t 41), none⟩,
  ⟨43, .mv (.t 42), none⟩,
  ⟨44, .fld 1 (.t 11), some (43, false)⟩,
  ⟨45, .load (.t 44), some (43, false)⟩,
  ⟨46, .mv (.t 9), some (43, false)⟩,
  ⟨47, .bin .leq (.t 45) (.t 46), some (43, false)⟩,
  ⟨48, .pick (.t 43) (.c (.bool true)) (.t 47), none⟩,
  ⟨49, .mv (.t 48), none⟩,
  ⟨50, .fld 2 (.t 11), some (49, false)⟩,
  ⟨51, .load (.t 50), some (49, false)⟩,
  ⟨52, .mv (.t 2), some (49, false)⟩,
  ⟨53, .bin .gtr (.t 51) (.t 52), some (49, false)⟩,
  ⟨54, .mv (.t 53), some (49, false)⟩,
  ⟨55, .fld 1 (.t 11), some (54, true)⟩,
  ⟨56, .load (.t 55), some (54, true)⟩,
  ⟨57, .mv (.t 9), some (54, true)⟩,
  ⟨58, .bin .add (.t 57) (.c (.int .i64 1)), some (54, true)⟩,
  ⟨59, .bin .gtr (.t 56) (.t 58), some (54, true)⟩,
  ⟨60, .pick (.t 54) (.t 59) (.c (.bool false)), some (49, false)⟩,
  ⟨61, .pick (.t 49) (.c (.bool true)) (.t 60), none⟩,
  ⟨62, .mv (.t 61), none⟩,
  ⟨63, .fld 3 (.t 11), some (62, false)⟩,
  ⟨64, .load (.t 63), some (62, false)⟩,
  ⟨65, .fld 3 (.t 3), some (62, false)⟩,
  ⟨66, .load (.t 65), some (62, false)⟩,
  ⟨67, .mv (.t 9), some (62, false)⟩,
  ⟨68, .idx 5 (.t 66) (.t 67), some (62, false)⟩,
  ⟨69, .fld 4 (.t 68), some (62, false)⟩,
  ⟨70, .load (.t 69), some (62, false)⟩,
  ⟨71, .eqb true (.t 64) (.t 70), some (62, false)⟩,
  ⟨72, .pick (.t 62) (.c (.bool true)) (.t 71), none⟩]
def r6_10 : List POp := [⟨6, .asg (.c (.bool false)), none⟩]
def r6_11 : List POp := [⟨73, .fld 1 (.t 11), none⟩,
  ⟨74, .load (.t 73), none⟩,
  ⟨9, .asg (.t 74), none⟩]
def r6_12 : List POp := [⟨75, .mv (.t 10), none⟩,
  ⟨76, .bin .gtr (.t 75) (.c (.int .i64 0)), none⟩,
  ⟨77, .mv (.t 76), none⟩,
  ⟨78, .mv (.t 7), some (77, true)⟩,
  ⟨79, .mv (.t 10), some (77, true)⟩,
  ⟨80, .bin .sub (.t 79) (.c (.int .i64 1)), some (77, true)⟩,
  ⟨81, .idx 4 (.t 78) (.t 80), some (77, true)⟩,
  ⟨82, .fld 2 (.t 81), some (77, true)⟩,
  ⟨83, .load (.t 82), some (77, true)⟩,
  ⟨84, .fld 3 (.t 3), some (77, true)⟩,
  ⟨85, .load (.t 84), some (77, true)⟩,
  ⟨86, .fld 0 (.t 11), some (77, true)⟩,
  ⟨87, .load (.t 86), some (77, true)⟩,
  ⟨88, .idx 5 (.t 85) (.t 87), some (77, true)⟩,
  ⟨89, .fld 1 (.t 88), some (77, true)⟩,
  ⟨90, .load (.t 89), some (77, true)⟩,
  ⟨91, .bin .add (.t 83) (.t 90), some (77, true)⟩,
  ⟨92, .mv (.t 2), some (77, true)⟩,
  ⟨93, .bin .leq (.t 91) (.t 92), some (77, true)⟩,
  ⟨94, .pick (.t 77) (.t 93) (.c (.bool false)), none⟩]
def r6_13 : List POp := [⟨6, .asg (.c (.bool false)), none⟩]
def r6_7 : List POp := [⟨33, .mv (.t 10), none⟩,
  ⟨34, .bin .add (.t 33) (.c (.int .i64 1)), none⟩,
  ⟨10, .asg (.t 34), none⟩]
def r6_14 : List POp := [⟨95, .mv (.t 9), none⟩,
  ⟨96, .fld 2 (.t 4), none⟩,
  ⟨97, .load (.t 96), none⟩,
  ⟨98, .bin .eql (.t 95) (.t 97), none⟩,
  ⟨99, .mv (.t 98), none⟩,
  ⟨100, .call 12 [], some (99, true)⟩,
  ⟨101, .pick (.t 99) (.t 100) (.c (.bool false)), none⟩,
  ⟨6, .asg (.t 101), none⟩]
def l6_0 : PCode := .seq (.seq (.ops r6_6) (.cond (.t 32) (.skip) (.exit 0))) (.seq (.block 1 (.seq (.ops r6_8) (.seq (.seq (.ops r6_9) (.cond (.t 72) (.seq (.ops r6_10) (.ret)) (.skip))) (.seq (.ops r6_11) (.seq (.ops r6_12) (.cond (.t 94) (.seq (.ops r6_13) (.ret)) (.skip))))))) (.ops r6_7))
def p6 : PCode := .seq (.ops r6_0) (.seq (.ops r6_1) (.seq (.seq (.ops r6_2) (.cond (.t 20) (.seq (.ops r6_3) (.ret)) (.skip))) (.seq (.ops r6_4) (.seq (.seq (.ops r6_5) (.block 0 (.loop l6_0))) (.seq (.ops r6_14) (.ret))))))
theorem ok6 : okFunc Try.prog 6 [.t 6] 3 p6 = true := by kernel_rfl
set_option maxRecDepth 20000 in
theorem piecesD (r : Str) (s : Seg) (tgt : Int) : CallOK Try.prog 6 [.agg r.av, .agg s.av, .val (.int .i64 tgt)] (.val (.bool true)) := by
  refine call_of mixed ok6 rfl ?_
  have hp := pieces_c r s tgt
  simp only [Str.av, Seg.av] at hp
  by_cases h0 : (pieces r s tgt).2 = 0
  · obtain ⟨F, T, hF, hT, hTL, hL, hc⟩ := pieces_ok h0
    have hlen := chain_len hc
    have hend := chain_end hc
    rw [h0] at hp
    generalize (pieces r s tgt).1 = l at *
    simp only [hF, hT] at hp
    repeat' first | (with_reducible refine condD (fun h => ?_) (fun h => ?_)) | (with_reducible refine condE (fun h => ?_) (fun h => ?_)) | (with_reducible refine condN (fun h => ?_) (fun h => ?_)) | (with_reducible refine condI (fun h => ?_) (fun h => ?_)) | (with_reducible refine condS (fun h => ?_) (fun h => ?_)) | (with_reducible refine guardD (by with_unfolding_all rfl) (fun h => ?_) (fun h => ?_)) | (with_reducible refine guardE (by with_unfolding_all rfl) (fun h => ?_) (fun h => ?_)) | (with_reducible refine guardN (by with_unfolding_all rfl) (fun h => ?_) (fun h => ?_)) | (with_reducible refine guardI (by with_unfolding_all rfl) (fun h => ?_) (fun h => ?_)) | (with_reducible refine guardS (by with_unfolding_all rfl) (fun h => ?_) (fun h => ?_)) | ((refine callG hp ?_)) | (with_reducible refine And.intro ?_ ?_; omega) | (simp only [done_eq, done_eq', fin_val, fin_tup, fin_agg, fin_ro, res_one, res_more, rv_t, rv_c, rv_l, AV.tup.injEq, AV.agg.injEq, AV.ro.injEq, List.cons.injEq, int_eq, bool_eq, Int.toNat_natCast, Int.reduceToNat, Int.toNat_zero, Int.toNat_one, Int.reduceLE, Int.reduceLT, Int.reduceBEq, Int.reduceBNe, beq_self_eq_true, bne_self_eq_false, decide_true, decide_false,  Int.reduceNeg, toNat_pred, toNat_succ, List.length_map, cnd_t, cnd_f, grd_tt, grd_u, grd_tf, grd_ft, grd_ff, g_skip, g_ops, g_seq, g_block, g_exit, g_ret, x_c, x_o, x_l, x_b, g_b, g_nil, r_all, o_nil, g_cond, o_guard, o_call, o_callv, lk, ef, o_mv, o_pick, o_bin, o_eqs, o_eqb, o_un, o_conv, o_load, o_loads, o_fld, o_idx, o_idxs, o_len, o_lens, o_ext, o_nilck, o_slc, o_slcs, o_build, o_minmax, o_mkfn, o_alloc, o_box, o_boxs, o_row, o_rowr, o_mk, o_asg, o_app, o_store, o_stores, hv, eqAV, ev, view, rowOf, cellsOf, argv, vbin, vun, bnd, elemOf, putParts, setAt, zav, ASt.rid, ASt.free, AV.kill, AV.isHome, AV.noLoan, AV.cellOK, Value.oneCell', put_at, mk_at, mk_nil, initSt, true_and, and_true, and_self, implies_true, List.map_cons, List.map_nil, List.forall_mem_cons, List.not_mem_nil, false_implies, List.length_cons, List.length_nil, List.getD_cons_zero, List.getD_cons_succ, List.getD_nil, List.drop_succ_cons, List.drop_zero, List.take_succ_cons, List.take_zero, List.set_cons_zero, List.set_cons_succ, List.all_cons, List.all_nil, Bool.and_true, Bool.true_and, Bool.not_true, Bool.not_false, reduceCtorEq, if_true, if_false, Bool.false_eq_true, ↓reduceIte, Nat.reduceEqDiff, Nat.reduceAdd, Nat.reduceSub, Nat.reduceMul, Nat.reduceLeDiff, Nat.reduceLT, ne_eq, not_false_eq_true, not_true_eq_false, Nat.one_ne_zero, Nat.zero_ne_one, r6_0, r6_1, r6_2, r6_3, r6_4, r6_5, r6_6, r6_8, r6_9, r6_10, r6_11, r6_12, r6_13, r6_7, r6_14, p6, Str.av, Seg.av, hF, hT]) | (exfalso; omega)
    refine loopS (fun k : Nat => mk [(2, .val (.int .i64 tgt)), (3, .box r.av), (4, .box s.av), (7, .ro (l.map Pc.av)), (9, .val (.int .i64 (atOf F l k))), (10, .val (.int .i64 k))]) (fun k => k ≤ l.length) (fun k => l.length - k) 0 (weak_mk ?_) (Nat.zero_le _) ?_
    · simp only [wk_cons, wk_nil, wk1, vint_eq, vbool_eq, AV.val.injEq, done_eq, done_eq', fin_val, fin_tup, fin_agg, fin_ro, res_one, res_more, rv_t, rv_c, rv_l, AV.tup.injEq, AV.agg.injEq, AV.ro.injEq, List.cons.injEq, int_eq, bool_eq, Int.toNat_natCast, Int.reduceToNat, Int.toNat_zero, Int.toNat_one, Int.reduceLE, Int.reduceLT, Int.reduceBEq, Int.reduceBNe, beq_self_eq_true, bne_self_eq_false, decide_true, decide_false,  Int.reduceNeg, toNat_pred, toNat_succ, List.length_map, cnd_t, cnd_f, grd_tt, grd_u, grd_tf, grd_ft, grd_ff, g_skip, g_ops, g_seq, g_block, g_exit, g_ret, x_c, x_o, x_l, x_b, g_b, g_nil, r_all, o_nil, g_cond, o_guard, o_call, o_callv, lk, ef, o_mv, o_pick, o_bin, o_eqs, o_eqb, o_un, o_conv, o_load, o_loads, o_fld, o_idx, o_idxs, o_len, o_lens, o_ext, o_nilck, o_slc, o_slcs, o_build, o_minmax, o_mkfn, o_alloc, o_box, o_boxs, o_row, o_rowr, o_mk, o_asg, o_app, o_store, o_stores, hv, eqAV, ev, view, rowOf, cellsOf, argv, vbin, vun, bnd, elemOf, putParts, setAt, zav, ASt.rid, ASt.free, AV.kill, AV.isHome, AV.noLoan, AV.cellOK, Value.oneCell', put_at, mk_at, mk_nil, initSt, true_and, and_true, and_self, implies_true, List.map_cons, List.map_nil, List.forall_mem_cons, List.not_mem_nil, false_implies, List.length_cons, List.length_nil, List.getD_cons_zero, List.getD_cons_succ, List.getD_nil, List.drop_succ_cons, List.drop_zero, List.take_succ_cons, List.take_zero, List.set_cons_zero, List.set_cons_succ, List.all_cons, List.all_nil, Bool.and_true, Bool.true_and, Bool.not_true, Bool.not_false, reduceCtorEq, if_true, if_false, Bool.false_eq_true, ↓reduceIte, Nat.reduceEqDiff, Nat.reduceAdd, Nat.reduceSub, Nat.reduceMul, Nat.reduceLeDiff, Nat.reduceLT, ne_eq, not_false_eq_true, not_true_eq_false, Nat.one_ne_zero, Nat.zero_ne_one]
      simp [Str.av, Seg.av, hF, hT, atOf]
    · rintro J hJ k hk
      simp only [done_eq, done_eq', fin_val, fin_tup, fin_agg, fin_ro, res_one, res_more, rv_t, rv_c, rv_l, AV.tup.injEq, AV.agg.injEq, AV.ro.injEq, List.cons.injEq, int_eq, bool_eq, Int.toNat_natCast, Int.reduceToNat, Int.toNat_zero, Int.toNat_one, Int.reduceLE, Int.reduceLT, Int.reduceBEq, Int.reduceBNe, beq_self_eq_true, bne_self_eq_false, decide_true, decide_false,  Int.reduceNeg, toNat_pred, toNat_succ, List.length_map, cnd_t, cnd_f, grd_tt, grd_u, grd_tf, grd_ft, grd_ff, g_skip, g_ops, g_seq, g_block, g_exit, g_ret, x_c, x_o, x_l, x_b, g_b, g_nil, r_all, o_nil, g_cond, o_guard, o_call, o_callv, lk, ef, o_mv, o_pick, o_bin, o_eqs, o_eqb, o_un, o_conv, o_load, o_loads, o_fld, o_idx, o_idxs, o_len, o_lens, o_ext, o_nilck, o_slc, o_slcs, o_build, o_minmax, o_mkfn, o_alloc, o_box, o_boxs, o_row, o_rowr, o_mk, o_asg, o_app, o_store, o_stores, hv, eqAV, ev, view, rowOf, cellsOf, argv, vbin, vun, bnd, elemOf, putParts, setAt, zav, ASt.rid, ASt.free, AV.kill, AV.isHome, AV.noLoan, AV.cellOK, Value.oneCell', put_at, mk_at, mk_nil, initSt, true_and, and_true, and_self, implies_true, List.map_cons, List.map_nil, List.forall_mem_cons, List.not_mem_nil, false_implies, List.length_cons, List.length_nil, List.getD_cons_zero, List.getD_cons_succ, List.getD_nil, List.drop_succ_cons, List.drop_zero, List.take_succ_cons, List.take_zero, List.set_cons_zero, List.set_cons_succ, List.all_cons, List.all_nil, Bool.and_true, Bool.true_and, Bool.not_true, Bool.not_false, reduceCtorEq, if_true, if_false, Bool.false_eq_true, ↓reduceIte, Nat.reduceEqDiff, Nat.reduceAdd, Nat.reduceSub, Nat.reduceMul, Nat.reduceLeDiff, Nat.reduceLT, ne_eq, not_false_eq_true, not_true_eq_false, Nat.one_ne_zero, Nat.zero_ne_one, r6_0, r6_1, r6_2, r6_3, r6_4, r6_5, r6_6, r6_8, r6_9, r6_10, r6_11, r6_12, r6_13, r6_7, r6_14, p6, l6_0]
      refine condD (fun h => ?_) (fun h => ?_)
      · have hlt : k < l.length := by omega
        obtain ⟨g1, g2, g3, g4, g5, g6, g7⟩ := chain_at hc k hlt
        have hnext : atOf F l (k + 1) = l[k].to := by simp [atOf, hlt]
        have hw : IntKind.i64.wrap (k + 1 : Int) = ((k + 1 : Nat) : Int) := wrap_in (by omega) (by omega)
        have hwa : IntKind.i64.wrap ((atOf F l k : Int) + 1) = ((atOf F l k : Int) + 1) := wrap_in (by omega) (by omega)
        have hto : ¬ ((l[k].to : Int) ≤ atOf F l k) := by omega
        rcases Nat.eq_zero_or_pos k with hk0 | hk0
        · have hk1 : ¬ (0 < (k : Int)) := by omega
          repeat' first | (with_reducible refine condD (fun h => ?_) (fun h => ?_)) | (with_reducible refine condE (fun h => ?_) (fun h => ?_)) | (with_reducible refine condN (fun h => ?_) (fun h => ?_)) | (with_reducible refine condI (fun h => ?_) (fun h => ?_)) | (with_reducible refine condS (fun h => ?_) (fun h => ?_)) | (with_reducible refine guardD (by with_unfolding_all rfl) (fun h => ?_) (fun h => ?_)) | (with_reducible refine guardE (by with_unfolding_all rfl) (fun h => ?_) (fun h => ?_)) | (with_reducible refine guardN (by with_unfolding_all rfl) (fun h => ?_) (fun h => ?_)) | (with_reducible refine guardI (by with_unfolding_all rfl) (fun h => ?_) (fun h => ?_)) | (with_reducible refine guardS (by with_unfolding_all rfl) (fun h => ?_) (fun h => ?_)) | (with_reducible refine And.intro ?_ ?_; omega) | (simp only [done_eq, done_eq', fin_val, fin_tup, fin_agg, fin_ro, res_one, res_more, rv_t, rv_c, rv_l, AV.tup.injEq, AV.agg.injEq, AV.ro.injEq, List.cons.injEq, int_eq, bool_eq, Int.toNat_natCast, Int.reduceToNat, Int.toNat_zero, Int.toNat_one, Int.reduceLE, Int.reduceLT, Int.reduceBEq, Int.reduceBNe, beq_self_eq_true, bne_self_eq_false, decide_true, decide_false,  Int.reduceNeg, toNat_pred, toNat_succ, List.length_map, cnd_t, cnd_f, grd_tt, grd_u, grd_tf, grd_ft, grd_ff, g_skip, g_ops, g_seq, g_block, g_exit, g_ret, x_c, x_o, x_l, x_b, g_b, g_nil, r_all, o_nil, g_cond, o_guard, o_call, o_callv, lk, ef, o_mv, o_pick, o_bin, o_eqs, o_eqb, o_un, o_conv, o_load, o_loads, o_fld, o_idx, o_idxs, o_len, o_lens, o_ext, o_nilck, o_slc, o_slcs, o_build, o_minmax, o_mkfn, o_alloc, o_box, o_boxs, o_row, o_rowr, o_mk, o_asg, o_app, o_store, o_stores, hv, eqAV, ev, view, rowOf, cellsOf, argv, vbin, vun, bnd, elemOf, putParts, setAt, zav, ASt.rid, ASt.free, AV.kill, AV.isHome, AV.noLoan, AV.cellOK, Value.oneCell', put_at, mk_at, mk_nil, initSt, true_and, and_true, and_self, implies_true, List.map_cons, List.map_nil, List.forall_mem_cons, List.not_mem_nil, false_implies, List.length_cons, List.length_nil, List.getD_cons_zero, List.getD_cons_succ, List.getD_nil, List.drop_succ_cons, List.drop_zero, List.take_succ_cons, List.take_zero, List.set_cons_zero, List.set_cons_succ, List.all_cons, List.all_nil, Bool.and_true, Bool.true_and, Bool.not_true, Bool.not_false, reduceCtorEq, if_true, if_false, Bool.false_eq_true, ↓reduceIte, Nat.reduceEqDiff, Nat.reduceAdd, Nat.reduceSub, Nat.reduceMul, Nat.reduceLeDiff, Nat.reduceLT, ne_eq, not_false_eq_true, not_true_eq_false, Nat.one_ne_zero, Nat.zero_ne_one, r6_0, r6_1, r6_2, r6_3, r6_4, r6_5, r6_6, r6_8, r6_9, r6_10, r6_11, r6_12, r6_13, r6_7, r6_14, p6, l6_0, Str.av, Seg.av, Pc.av, Smp.av, getD_map hlt, getD_map g5, g1, g6, hto, hwa, hk1]) | (exfalso; omega)
          all_goals exact again hJ (k + 1) (weak_mk (by simp only [wk_cons, wk_nil, wk1, vint_eq, vbool_eq, AV.val.injEq, done_eq, done_eq', fin_val, fin_tup, fin_agg, fin_ro, res_one, res_more, rv_t, rv_c, rv_l, AV.tup.injEq, AV.agg.injEq, AV.ro.injEq, List.cons.injEq, int_eq, bool_eq, Int.toNat_natCast, Int.reduceToNat, Int.toNat_zero, Int.toNat_one, Int.reduceLE, Int.reduceLT, Int.reduceBEq, Int.reduceBNe, beq_self_eq_true, bne_self_eq_false, decide_true, decide_false,  Int.reduceNeg, toNat_pred, toNat_succ, List.length_map, cnd_t, cnd_f, grd_tt, grd_u, grd_tf, grd_ft, grd_ff, g_skip, g_ops, g_seq, g_block, g_exit, g_ret, x_c, x_o, x_l, x_b, g_b, g_nil, r_all, o_nil, g_cond, o_guard, o_call, o_callv, lk, ef, o_mv, o_pick, o_bin, o_eqs, o_eqb, o_un, o_conv, o_load, o_loads, o_fld, o_idx, o_idxs, o_len, o_lens, o_ext, o_nilck, o_slc, o_slcs, o_build, o_minmax, o_mkfn, o_alloc, o_box, o_boxs, o_row, o_rowr, o_mk, o_asg, o_app, o_store, o_stores, hv, eqAV, ev, view, rowOf, cellsOf, argv, vbin, vun, bnd, elemOf, putParts, setAt, zav, ASt.rid, ASt.free, AV.kill, AV.isHome, AV.noLoan, AV.cellOK, Value.oneCell', put_at, mk_at, mk_nil, initSt, true_and, and_true, and_self, implies_true, List.map_cons, List.map_nil, List.forall_mem_cons, List.not_mem_nil, false_implies, List.length_cons, List.length_nil, List.getD_cons_zero, List.getD_cons_succ, List.getD_nil, List.drop_succ_cons, List.drop_zero, List.take_succ_cons, List.take_zero, List.set_cons_zero, List.set_cons_succ, List.all_cons, List.all_nil, Bool.and_true, Bool.true_and, Bool.not_true, Bool.not_false, reduceCtorEq, if_true, if_false, Bool.false_eq_true, ↓reduceIte, Nat.reduceEqDiff, Nat.reduceAdd, Nat.reduceSub, Nat.reduceMul, Nat.reduceLeDiff, Nat.reduceLT, ne_eq, not_false_eq_true, not_true_eq_false, Nat.one_ne_zero, Nat.zero_ne_one]; simp [Str.av, Seg.av, hF, hT, hnext, hw])) (by omega) (by omega)
        · have hk1 : 0 < (k : Int) := by omega
          have hlt1 : k - 1 < l.length := by omega
          have hw1 : IntKind.i64.wrap (k - 1 : Int) = ((k - 1 : Nat) : Int) := by rw [wrap_in (by omega) (by omega)]; omega
          have hlow : ¬ IntKind.i64.wrap (l[k-1].len + r.smps[atOf F l k].step) ≤ tgt := by
            have := g7 l[k-1] hk0 (List.getElem?_eq_getElem hlt1)
            omega
          repeat' first | (with_reducible refine condD (fun h => ?_) (fun h => ?_)) | (with_reducible refine condE (fun h => ?_) (fun h => ?_)) | (with_reducible refine condN (fun h => ?_) (fun h => ?_)) | (with_reducible refine condI (fun h => ?_) (fun h => ?_)) | (with_reducible refine condS (fun h => ?_) (fun h => ?_)) | (with_reducible refine guardD (by with_unfolding_all rfl) (fun h => ?_) (fun h => ?_)) | (with_reducible refine guardE (by with_unfolding_all rfl) (fun h => ?_) (fun h => ?_)) | (with_reducible refine guardN (by with_unfolding_all rfl) (fun h => ?_) (fun h => ?_)) | (with_reducible refine guardI (by with_unfolding_all rfl) (fun h => ?_) (fun h => ?_)) | (with_reducible refine guardS (by with_unfolding_all rfl) (fun h => ?_) (fun h => ?_)) | (with_reducible refine And.intro ?_ ?_; omega) | (simp only [done_eq, done_eq', fin_val, fin_tup, fin_agg, fin_ro, res_one, res_more, rv_t, rv_c, rv_l, AV.tup.injEq, AV.agg.injEq, AV.ro.injEq, List.cons.injEq, int_eq, bool_eq, Int.toNat_natCast, Int.reduceToNat, Int.toNat_zero, Int.toNat_one, Int.reduceLE, Int.reduceLT, Int.reduceBEq, Int.reduceBNe, beq_self_eq_true, bne_self_eq_false, decide_true, decide_false,  Int.reduceNeg, toNat_pred, toNat_succ, List.length_map, cnd_t, cnd_f, grd_tt, grd_u, grd_tf, grd_ft, grd_ff, g_skip, g_ops, g_seq, g_block, g_exit, g_ret, x_c, x_o, x_l, x_b, g_b, g_nil, r_all, o_nil, g_cond, o_guard, o_call, o_callv, lk, ef, o_mv, o_pick, o_bin, o_eqs, o_eqb, o_un, o_conv, o_load, o_loads, o_fld, o_idx, o_idxs, o_len, o_lens, o_ext, o_nilck, o_slc, o_slcs, o_build, o_minmax, o_mkfn, o_alloc, o_box, o_boxs, o_row, o_rowr, o_mk, o_asg, o_app, o_store, o_stores, hv, eqAV, ev, view, rowOf, cellsOf, argv, vbin, vun, bnd, elemOf, putParts, setAt, zav, ASt.rid, ASt.free, AV.kill, AV.isHome, AV.noLoan, AV.cellOK, Value.oneCell', put_at, mk_at, mk_nil, initSt, true_and, and_true, and_self, implies_true, List.map_cons, List.map_nil, List.forall_mem_cons, List.not_mem_nil, false_implies, List.length_cons, List.length_nil, List.getD_cons_zero, List.getD_cons_succ, List.getD_nil, List.drop_succ_cons, List.drop_zero, List.take_succ_cons, List.take_zero, List.set_cons_zero, List.set_cons_succ, List.all_cons, List.all_nil, Bool.and_true, Bool.true_and, Bool.not_true, Bool.not_false, reduceCtorEq, if_true, if_false, Bool.false_eq_true, ↓reduceIte, Nat.reduceEqDiff, Nat.reduceAdd, Nat.reduceSub, Nat.reduceMul, Nat.reduceLeDiff, Nat.reduceLT, ne_eq, not_false_eq_true, not_true_eq_false, Nat.one_ne_zero, Nat.zero_ne_one, r6_0, r6_1, r6_2, r6_3, r6_4, r6_5, r6_6, r6_8, r6_9, r6_10, r6_11, r6_12, r6_13, r6_7, r6_14, p6, l6_0, Str.av, Seg.av, Pc.av, Smp.av, getD_map hlt, getD_map hlt1, getD_map g5, g1, g6, hto, hwa, hk1, hw1, hlow]) | (exfalso; omega)
          all_goals exact again hJ (k + 1) (weak_mk (by simp only [wk_cons, wk_nil, wk1, vint_eq, vbool_eq, AV.val.injEq, done_eq, done_eq', fin_val, fin_tup, fin_agg, fin_ro, res_one, res_more, rv_t, rv_c, rv_l, AV.tup.injEq, AV.agg.injEq, AV.ro.injEq, List.cons.injEq, int_eq, bool_eq, Int.toNat_natCast, Int.reduceToNat, Int.toNat_zero, Int.toNat_one, Int.reduceLE, Int.reduceLT, Int.reduceBEq, Int.reduceBNe, beq_self_eq_true, bne_self_eq_false, decide_true, decide_false,  Int.reduceNeg, toNat_pred, toNat_succ, List.length_map, cnd_t, cnd_f, grd_tt, grd_u, grd_tf, grd_ft, grd_ff, g_skip, g_ops, g_seq, g_block, g_exit, g_ret, x_c, x_o, x_l, x_b, g_b, g_nil, r_all, o_nil, g_cond, o_guard, o_call, o_callv, lk, ef, o_mv, o_pick, o_bin, o_eqs, o_eqb, o_un, o_conv, o_load, o_loads, o_fld, o_idx, o_idxs, o_len, o_lens, o_ext, o_nilck, o_slc, o_slcs, o_build, o_minmax, o_mkfn, o_alloc, o_box, o_boxs, o_row, o_rowr, o_mk, o_asg, o_app, o_store, o_stores, hv, eqAV, ev, view, rowOf, cellsOf, argv, vbin, vun, bnd, elemOf, putParts, setAt, zav, ASt.rid, ASt.free, AV.kill, AV.isHome, AV.noLoan, AV.cellOK, Value.oneCell', put_at, mk_at, mk_nil, initSt, true_and, and_true, and_self, implies_true, List.map_cons, List.map_nil, List.forall_mem_cons, List.not_mem_nil, false_implies, List.length_cons, List.length_nil, List.getD_cons_zero, List.getD_cons_succ, List.getD_nil, List.drop_succ_cons, List.drop_zero, List.take_succ_cons, List.take_zero, List.set_cons_zero, List.set_cons_succ, List.all_cons, List.all_nil, Bool.and_true, Bool.true_and, Bool.not_true, Bool.not_false, reduceCtorEq, if_true, if_false, Bool.false_eq_true, ↓reduceIte, Nat.reduceEqDiff, Nat.reduceAdd, Nat.reduceSub, Nat.reduceMul, Nat.reduceLeDiff, Nat.reduceLT, ne_eq, not_false_eq_true, not_true_eq_false, Nat.one_ne_zero, Nat.zero_ne_one]; simp [Str.av, Seg.av, hF, hT, hnext, hw])) (by omega) (by omega)
      · have hke : k = l.length := by omega
        subst hke
        repeat' first | (with_reducible refine condD (fun h => ?_) (fun h => ?_)) | (with_reducible refine condE (fun h => ?_) (fun h => ?_)) | (with_reducible refine condN (fun h => ?_) (fun h => ?_)) | (with_reducible refine condI (fun h => ?_) (fun h => ?_)) | (with_reducible refine condS (fun h => ?_) (fun h => ?_)) | (with_reducible refine guardD (by with_unfolding_all rfl) (fun h => ?_) (fun h => ?_)) | (with_reducible refine guardE (by with_unfolding_all rfl) (fun h => ?_) (fun h => ?_)) | (with_reducible refine guardN (by with_unfolding_all rfl) (fun h => ?_) (fun h => ?_)) | (with_reducible refine guardI (by with_unfolding_all rfl) (fun h => ?_) (fun h => ?_)) | (with_reducible refine guardS (by with_unfolding_all rfl) (fun h => ?_) (fun h => ?_)) | ((refine callG awake_c ?_)) | (with_reducible refine And.intro ?_ ?_; omega) | (simp only [done_eq, done_eq', fin_val, fin_tup, fin_agg, fin_ro, res_one, res_more, rv_t, rv_c, rv_l, AV.tup.injEq, AV.agg.injEq, AV.ro.injEq, List.cons.injEq, int_eq, bool_eq, Int.toNat_natCast, Int.reduceToNat, Int.toNat_zero, Int.toNat_one, Int.reduceLE, Int.reduceLT, Int.reduceBEq, Int.reduceBNe, beq_self_eq_true, bne_self_eq_false, decide_true, decide_false,  Int.reduceNeg, toNat_pred, toNat_succ, List.length_map, cnd_t, cnd_f, grd_tt, grd_u, grd_tf, grd_ft, grd_ff, g_skip, g_ops, g_seq, g_block, g_exit, g_ret, x_c, x_o, x_l, x_b, g_b, g_nil, r_all, o_nil, g_cond, o_guard, o_call, o_callv, lk, ef, o_mv, o_pick, o_bin, o_eqs, o_eqb, o_un, o_conv, o_load, o_loads, o_fld, o_idx, o_idxs, o_len, o_lens, o_ext, o_nilck, o_slc, o_slcs, o_build, o_minmax, o_mkfn, o_alloc, o_box, o_boxs, o_row, o_rowr, o_mk, o_asg, o_app, o_store, o_stores, hv, eqAV, ev, view, rowOf, cellsOf, argv, vbin, vun, bnd, elemOf, putParts, setAt, zav, ASt.rid, ASt.free, AV.kill, AV.isHome, AV.noLoan, AV.cellOK, Value.oneCell', put_at, mk_at, mk_nil, initSt, true_and, and_true, and_self, implies_true, List.map_cons, List.map_nil, List.forall_mem_cons, List.not_mem_nil, false_implies, List.length_cons, List.length_nil, List.getD_cons_zero, List.getD_cons_succ, List.getD_nil, List.drop_succ_cons, List.drop_zero, List.take_succ_cons, List.take_zero, List.set_cons_zero, List.set_cons_succ, List.all_cons, List.all_nil, Bool.and_true, Bool.true_and, Bool.not_true, Bool.not_false, reduceCtorEq, if_true, if_false, Bool.false_eq_true, ↓reduceIte, Nat.reduceEqDiff, Nat.reduceAdd, Nat.reduceSub, Nat.reduceMul, Nat.reduceLeDiff, Nat.reduceLT, ne_eq, not_false_eq_true, not_true_eq_false, Nat.one_ne_zero, Nat.zero_ne_one, r6_0, r6_1, r6_2, r6_3, r6_4, r6_5, r6_6, r6_8, r6_9, r6_10, r6_11, r6_12, r6_13, r6_7, r6_14, p6, l6_0, Seg.av, hend, hT]) | (exfalso; omega)
  · have hn := pieces_no h0
    rw [hn] at hp
    have hb : ((pieces r s tgt).2 != 0) = true := by simpa using h0
    repeat' first | (with_reducible refine condD (fun h => ?_) (fun h => ?_)) | (with_reducible refine condE (fun h => ?_) (fun h => ?_)) | (with_reducible refine condN (fun h => ?_) (fun h => ?_)) | (with_reducible refine condI (fun h => ?_) (fun h => ?_)) | (with_reducible refine condS (fun h => ?_) (fun h => ?_)) | (with_reducible refine guardD (by with_unfolding_all rfl) (fun h => ?_) (fun h => ?_)) | (with_reducible refine guardE (by with_unfolding_all rfl) (fun h => ?_) (fun h => ?_)) | (with_reducible refine guardN (by with_unfolding_all rfl) (fun h => ?_) (fun h => ?_)) | (with_reducible refine guardI (by with_unfolding_all rfl) (fun h => ?_) (fun h => ?_)) | (with_reducible refine guardS (by with_unfolding_all rfl) (fun h => ?_) (fun h => ?_)) | ((refine callG hp ?_)) | ((refine callG awake_c ?_)) | (with_reducible refine And.intro ?_ ?_; omega) | (simp only [done_eq, done_eq', fin_val, fin_tup, fin_agg, fin_ro, res_one, res_more, rv_t, rv_c, rv_l, AV.tup.injEq, AV.agg.injEq, AV.ro.injEq, List.cons.injEq, int_eq, bool_eq, Int.toNat_natCast, Int.reduceToNat, Int.toNat_zero, Int.toNat_one, Int.reduceLE, Int.reduceLT, Int.reduceBEq, Int.reduceBNe, beq_self_eq_true, bne_self_eq_false, decide_true, decide_false,  Int.reduceNeg, toNat_pred, toNat_succ, List.length_map, cnd_t, cnd_f, grd_tt, grd_u, grd_tf, grd_ft, grd_ff, g_skip, g_ops, g_seq, g_block, g_exit, g_ret, x_c, x_o, x_l, x_b, g_b, g_nil, r_all, o_nil, g_cond, o_guard, o_call, o_callv, lk, ef, o_mv, o_pick, o_bin, o_eqs, o_eqb, o_un, o_conv, o_load, o_loads, o_fld, o_idx, o_idxs, o_len, o_lens, o_ext, o_nilck, o_slc, o_slcs, o_build, o_minmax, o_mkfn, o_alloc, o_box, o_boxs, o_row, o_rowr, o_mk, o_asg, o_app, o_store, o_stores, hv, eqAV, ev, view, rowOf, cellsOf, argv, vbin, vun, bnd, elemOf, putParts, setAt, zav, ASt.rid, ASt.free, AV.kill, AV.isHome, AV.noLoan, AV.cellOK, Value.oneCell', put_at, mk_at, mk_nil, initSt, true_and, and_true, and_self, implies_true, List.map_cons, List.map_nil, List.forall_mem_cons, List.not_mem_nil, false_implies, List.length_cons, List.length_nil, List.getD_cons_zero, List.getD_cons_succ, List.getD_nil, List.drop_succ_cons, List.drop_zero, List.take_succ_cons, List.take_zero, List.set_cons_zero, List.set_cons_succ, List.all_cons, List.all_nil, Bool.and_true, Bool.true_and, Bool.not_true, Bool.not_false, reduceCtorEq, if_true, if_false, Bool.false_eq_true, ↓reduceIte, Nat.reduceEqDiff, Nat.reduceAdd, Nat.reduceSub, Nat.reduceMul, Nat.reduceLeDiff, Nat.reduceLT, ne_eq, not_false_eq_true, not_true_eq_false, Nat.one_ne_zero, Nat.zero_ne_one, r6_0, r6_1, r6_2, r6_3, r6_4, r6_5, r6_6, r6_8, r6_9, r6_10, r6_11, r6_12, r6_13, r6_7, r6_14, p6, Str.av, Seg.av, hb]) | (exfalso; omega)
theorem pieceslaw_all : ∀ avs, HasArgs [.agg [.str, .int .i64, .bool, .row [.int .i64, .int .i64, .int .i64, .int .i64, .bool]], .agg [.int .i64, .int .i64, .int .i64, .int .i64, .int .i64, .int .i64, .int .i64], .one (.int .i64)] avs → CallOK Try.prog 6 avs (.val (.bool true)) := by
  intro avs h
  obtain ⟨v0, r, rfl, h0, h⟩ := args_cons h
  obtain ⟨v1, r, rfl, h1, h⟩ := args_cons h
  obtain ⟨v2, r, rfl, h2, h⟩ := args_cons h
  obtain rfl := args_nil h
  obtain ⟨x, rfl, h0⟩ := h0
  obtain ⟨y, rfl, h1⟩ := h1
  obtain ⟨n2, rfl, _⟩ := has_int h2
  obtain ⟨s, rfl, _⟩ := all_seg y h1
  obtain ⟨q, rfl, _⟩ := all_str x h0
  exact piecesD q s n2
end Go.Proofs.Ytpkeiabifoipoaa
