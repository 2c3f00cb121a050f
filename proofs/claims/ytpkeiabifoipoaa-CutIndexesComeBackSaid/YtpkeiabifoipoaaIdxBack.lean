/- CutIndexesComeBack: an index is read as it was written, and its bytes are written as they were read. For every input; no condition. -/
import Derived.Test.YtpkeiabifoipoaaKIdxR
import Derived.Test.YtpkeiabifoipoaaKSeek
import Derived.Test.YtpkeiabifoipoaaKGrid
import Derived.Test.YtpkeiabifoipoaaRows
namespace Go.Proofs.Ytpkeiabifoipoaa
open Go.RowKit
set_option linter.unusedSimpArgs false

theorem rdGo_segI (b : List Nat) : ∀ (c : Nat) (num beg : Int) (at_ : Nat) (bad : Bool) (out : List Seg), (-9223372036854775808 ≤ beg ∧ beg ≤ 9223372036854775807) → (∀ s ∈ out, SegI s) → ∀ s ∈ (rdGo b c num beg at_ bad out).1, SegI s
  | 0, _, _, _, _, _, _, h => h
  | c + 1, num, beg, at_, bad, out, hb, h => by
    rw [rdGo]
    split
    · exact h
    · refine rdGo_segI b c _ _ _ _ _ (by rw [wrap_i64]; split <;> omega) fun s hs => ?_
      rcases List.mem_append.1 hs with hs | hs
      · exact h s hs
      · rw [List.mem_singleton.1 hs]
        exact ⟨hb, by simp⟩
theorem rdF_segI (b : List Nat) : ∀ s ∈ (rdF b).1, SegI s := by
  have hL : ∀ s ∈ (rdL b).1, SegI s := rdGo_segI b _ _ _ _ _ _ (tkN_bd _ _ _ _) (by simp)
  unfold rdF
  split
  · simp
  split
  · simp
  split
  · simp
  split
  · simp
  exact hL
theorem rdF_err {b : List Nat} (h : (rdF b).2.2.2 ≠ 0) : (rdF b).1 = [] ∧ (rdF b).2.1 = 0 := by
  unfold rdF at h ⊢
  split
  · exact ⟨rfl, rfl⟩
  split
  · exact ⟨rfl, rfl⟩
  split
  · exact ⟨rfl, rfl⟩
  split
  · exact ⟨rfl, rfl⟩
  rename_i n1 n2 n3 n4
  rw [if_neg n1, if_neg n2, if_neg n3, if_neg n4] at h
  exact absurd rfl h
theorem has_u8 {av : AV} (h : Has (.int .u8) av) : ∃ n : Nat, av = .val (.int .u8 n) ∧ n < 256 := by
  cases h with
  | @int k n h =>
    have hb : 0 ≤ n ∧ n < 256 := by
      have e1 : IntKind.u8.min = 0 := by decide
      have e2 : IntKind.u8.max = 255 := by decide
      have := h
      simp [Lit.wf, e1, e2] at this
      omega
    exact ⟨n.toNat, by rw [Int.toNat_of_nonneg hb.1], by omega⟩
theorem all_u8 (x : List AV) (h : HasAll [.int .u8] x) : ∃ n : Nat, x = oneU n ∧ n < 256 := by
  obtain ⟨v0, r, rfl, h0, h⟩ := all_cons h
  obtain rfl := all_nil h
  obtain ⟨n0, rfl, h1⟩ := has_u8 h0
  exact ⟨n0, rfl, h1⟩
theorem rel_val' {w : World} {I : Nat → Prop} {v u : Value} (h : Rel w I (.val v) u) : u = v := by cases h; rfl
theorem flat_u8 (l : List Nat) : (l.map oneU).flatten = l.map fun (n : Nat) => AV.val (.int .u8 (n : Int)) := by
  induction l with
  | nil => rfl
  | cons x r ih => rw [List.map_cons, List.flatten_cons, ih]; rfl
theorem ro_u8 {w : World} {I : Nat → Prop} {l : List Nat} {v : Value} (h : Rel w I (.ro (l.map oneU)) v) : ∃ p c, v = .slice p l.length c ∧ Go.Lib.BytesIn w p l.length (l.map fun (n : Nat) => (n : Int)) := by
  generalize hxs : l.map oneU = xs at h
  cases h with
  | ro0 A c =>
    obtain rfl := List.map_eq_nil_iff.1 hxs
    exact ⟨A, c, rfl, Go.Lib.BytesIn.nil w A _⟩
  | ro _ b off c m f hb hm hc hx hcell hrel =>
    subst hxs
    rw [List.length_map] at *
    refine ⟨some ⟨b, off, none⟩, c, rfl, fun _ => ⟨b, off, rfl, fun j hj => ?_⟩⟩
    have hmm : m = 1 := (hm (oneU l[j]) (List.mem_map.2 ⟨_, List.getElem_mem hj, rfl⟩)).symm
    subst hmm
    obtain ⟨h1, _⟩ := hcell j (by omega)
    rw [h1, rel_val' (hrel j (.val (.int .u8 (l[j] : Nat))) (by rw [flat_u8, List.getElem?_map, List.getElem?_eq_getElem hj]; rfl)), List.getD_eq_getElem?_getD, List.getElem?_map, List.getElem?_eq_getElem hj]
    rfl
theorem eqb_c (l : List Nat) : CallOK Try.prog 29 [.ro (l.map oneU), .ro (l.map oneU)] (.val (.bool true)) := by
  intro w S vs hS hvl hr
  match vs, hvl with
  | [v0, v1], _ =>
    obtain ⟨p, c, rfl, h0⟩ := ro_u8 (hr 0 _ v0 rfl rfl)
    obtain ⟨q, d, rfl, h1⟩ := ro_u8 (hr 1 _ v1 rfl rfl)
    refine (Try.bytes_Equal_all p q l.length c l.length d _ _ w (List.length_map _) (List.length_map _) h0 h1).mono ?_
    rintro ev w' ⟨rfl, rfl⟩
    rw [beq_self_eq_true]
    exact ⟨_, rfl, Below.refl _ _, Rel.val _⟩
/-! headend/headendlaw4.CutIndexesComeBack -/
def r10_0 : List POp := [⟨6, .asg (.c (.bool false)), none⟩]
def r10_1 : List POp := [⟨20, .mv (.t 0), none⟩,
  ⟨21, .mv (.t 1), none⟩,
  ⟨22, .call 27 [.t 20, .t 21], none⟩,
  ⟨19, .mv (.t 22), none⟩,
  ⟨23, .ext 0 (.t 19), none⟩,
  ⟨24, .ext 1 (.t 19), none⟩,
  ⟨7, .asg (.t 23), none⟩,
  ⟨8, .mv (.t 24), none⟩]
def r10_2 : List POp := [⟨25, .mv (.t 8), none⟩,
  ⟨26, .bin .eql (.t 25) (.c (.int .i64 0)), none⟩]
def r10_3 : List POp := [⟨28, .mv (.t 7), none⟩,
  ⟨29, .call 28 [.t 28], none⟩,
  ⟨27, .mv (.t 29), none⟩,
  ⟨30, .ext 0 (.t 27), none⟩,
  ⟨31, .ext 1 (.t 27), none⟩,
  ⟨32, .ext 2 (.t 27), none⟩,
  ⟨33, .ext 3 (.t 27), none⟩,
  ⟨9, .asg (.t 30), none⟩,
  ⟨10, .mv (.t 31), none⟩,
  ⟨11, .mv (.t 32), none⟩,
  ⟨12, .mv (.t 33), none⟩]
def r10_4 : List POp := [⟨34, .mv (.t 12), none⟩,
  ⟨35, .bin .neq (.t 34) (.c (.int .i64 0)), none⟩,
  ⟨36, .mv (.t 35), none⟩,
  ⟨37, .mv (.t 10), some (36, false)⟩,
  ⟨38, .mv (.t 1), some (36, false)⟩,
  ⟨39, .bin .neq (.t 37) (.t 38), some (36, false)⟩,
  ⟨40, .pick (.t 36) (.c (.bool true)) (.t 39), none⟩,
  ⟨41, .mv (.t 40), none⟩,
  ⟨42, .mv (.t 9), some (41, false)⟩,
  ⟨43, .len (.t 42), some (41, false)⟩,
  ⟨44, .mv (.t 0), some (41, false)⟩,
  ⟨45, .len (.t 44), some (41, false)⟩,
  ⟨46, .bin .neq (.t 43) (.t 45), some (41, false)⟩,
  ⟨47, .pick (.t 41) (.c (.bool true)) (.t 46), none⟩]
def r10_5 : List POp := [⟨6, .asg (.c (.bool false)), none⟩]
def r10_6 : List POp := [⟨13, .asg (.c (.int .i64 0)), none⟩]
def r10_7 : List POp := [⟨48, .mv (.t 13), none⟩,
  ⟨49, .mv (.t 0), none⟩,
  ⟨50, .len (.t 49), none⟩,
  ⟨51, .bin .lss (.t 48) (.t 50), none⟩]
def r10_9 : List POp := [⟨54, .mv (.t 9), none⟩,
  ⟨55, .mv (.t 13), none⟩,
  ⟨56, .idx 7 (.t 54) (.t 55), none⟩,
  ⟨57, .fld 0 (.t 56), none⟩,
  ⟨58, .load (.t 57), none⟩,
  ⟨59, .mv (.t 0), none⟩,
  ⟨60, .mv (.t 13), none⟩,
  ⟨61, .idx 7 (.t 59) (.t 60), none⟩,
  ⟨62, .fld 0 (.t 61), none⟩,
  ⟨63, .load (.t 62), none⟩,
  ⟨64, .bin .neq (.t 58) (.t 63), none⟩,
  ⟨65, .mv (.t 64), none⟩,
  ⟨66, .mv (.t 9), some (65, false)⟩,
  ⟨67, .mv (.t 13), some (65, false)⟩,
  ⟨68, .idx 7 (.t 66) (.t 67), some (65, false)⟩,
  ⟨69, .fld 3 (.t 68), some (65, false)⟩,
  ⟨70, .load (.t 69), some (65, false)⟩,
  ⟨71, .mv (.t 0), some (65, false)⟩,
  ⟨72, .mv (.t 13), some (65, false)⟩,
  ⟨73, .idx 7 (.t 71) (.t 72), some (65, false)⟩,
  ⟨74, .fld 3 (.t 73), some (65, false)⟩,
  ⟨75, .load (.t 74), some (65, false)⟩,
  ⟨76, .mv (.t 0), some (65, false)⟩,
  ⟨77, .mv (.t 13), some (65, false)⟩,
  ⟨78, .idx 7 (.t 76) (.t 77), some (65, false)⟩,
  ⟨79, .fld 6 (.t 78), some (65, false)⟩,
  ⟨80, .load (.t 79), some (65, false)⟩,
  ⟨81, .bin .add (.t 75) (.t 80), some (65, false)⟩,
  ⟨82, .bin .neq (.t 70) (.t 81), some (65, false)⟩,
  ⟨83, .pick (.t 65) (.c (.bool true)) (.t 82), none⟩,
  ⟨84, .mv (.t 83), none⟩,
  ⟨85, .mv (.t 9), some (84, false)⟩,
  ⟨86, .mv (.t 13), some (84, false)⟩,
  ⟨87, .idx 7 (.t 85) (.t 86), some (84, false)⟩,
  ⟨88, .fld 4 (.t 87), some (84, false)⟩,
  ⟨89, .load (.t 88), some (84, false)⟩,
  ⟨90, .mv (.t 0), some (84, false)⟩,
  ⟨91, .mv (.t 13), some (84, false)⟩,
  ⟨92, .idx 7 (.t 90) (.t 91), some (84, false)⟩,
  ⟨93, .fld 4 (.t 92), some (84, false)⟩,
  ⟨94, .load (.t 93), some (84, false)⟩,
  ⟨95, .bin .neq (.t 89) (.t 94), some (84, false)⟩,
  ⟨96, .pick (.t 84) (.c (.bool true)) (.t 95), none⟩,
  ⟨97, .mv (.t 96), none⟩,
  ⟨98, .mv (.t 9), some (97, false)⟩,
  ⟨99, .mv (.t 13), some (97, false)⟩,
  ⟨100, .idx 7 (.t 98) (.t 99), some (97, false)⟩,
  ⟨101, .fld 5 (.t 100), some (97, false)⟩,
  ⟨102, .load (.t 101), some (97, false)⟩,
  ⟨103, .mv (.t 0), some (97, false)⟩,
  ⟨104, .mv (.t 13), some (97, false)⟩,
  ⟨105, .idx 7 (.t 103) (.t 104), some (97, false)⟩,
  ⟨106, .fld 5 (.t 105), some (97, false)⟩,
  ⟨107, .load (.t 106), some (97, false)⟩,
  ⟨108, .bin .neq (.t 102) (.t 107), some (97, false)⟩,
  ⟨109, .pick (.t 97) (.c (.bool true)) (.t 108), none⟩,
  ⟨110, .mv (.t 109), none⟩,
  ⟨111, .mv (.t 9), some (110, false)⟩,
  ⟨112, .mv (.t 13), some (110, false)⟩,
  ⟨113, .idx 7 (.t 111) (.t 112), some (110, false)⟩,
  ⟨114, .fld 6 (.t 113), some (110, false)⟩,
  ⟨115, .load (.t 114), some (110, false)⟩,
  ⟨116, .bin .neq (.t 115) (.c (.int .i64 0)), some (110, false)⟩,
  ⟨117, .pick (.t 110) (.c (.bool true)) (.t 116), none⟩]
def r10_10 : List POp := [⟨6, .asg (.c (.bool false)), none⟩]
def r10_8 : List POp := [⟨52, .mv (.t 13), none⟩,
  ⟨53, .bin .add (.t 52) (.c (.int .i64 1)), none⟩,
  ⟨13, .asg (.t 53), none⟩]
def r10_11 : List POp := [⟨119, .mv (.t 2), none⟩,
  ⟨120, .call 28 [.t 119], none⟩,
  ⟨118, .mv (.t 120), none⟩,
  ⟨121, .ext 0 (.t 118), none⟩,
  ⟨122, .ext 1 (.t 118), none⟩,
  ⟨123, .ext 2 (.t 118), none⟩,
  ⟨124, .ext 3 (.t 118), none⟩,
  ⟨14, .asg (.t 121), none⟩,
  ⟨15, .mv (.t 122), none⟩,
  ⟨16, .mv (.t 123), none⟩,
  ⟨17, .mv (.t 124), none⟩]
def r10_12 : List POp := [⟨125, .mv (.t 17), none⟩,
  ⟨126, .bin .neq (.t 125) (.c (.int .i64 0)), none⟩]
def r10_13 : List POp := [⟨127, .mv (.t 14), none⟩,
  ⟨128, .len (.t 127), none⟩,
  ⟨129, .bin .eql (.t 128) (.c (.int .i64 0)), none⟩,
  ⟨130, .mv (.t 129), none⟩,
  ⟨131, .mv (.t 15), some (130, true)⟩,
  ⟨132, .bin .eql (.t 131) (.c (.int .i64 0)), some (130, true)⟩,
  ⟨133, .pick (.t 130) (.t 132) (.c (.bool false)), none⟩,
  ⟨134, .mv (.t 133), none⟩,
  ⟨135, .call 12 [], some (134, true)⟩,
  ⟨136, .pick (.t 134) (.t 135) (.c (.bool false)), none⟩,
  ⟨6, .asg (.t 136), none⟩]
def r10_14 : List POp := [⟨138, .mv (.t 14), none⟩,
  ⟨139, .mv (.t 15), none⟩,
  ⟨140, .call 27 [.t 138, .t 139], none⟩,
  ⟨137, .mv (.t 140), none⟩,
  ⟨141, .ext 0 (.t 137), none⟩,
  ⟨142, .ext 1 (.t 137), none⟩,
  ⟨18, .asg (.t 141), none⟩,
  ⟨17, .mv (.t 142), none⟩]
def r10_15 : List POp := [⟨143, .mv (.t 17), none⟩,
  ⟨144, .bin .eql (.t 143) (.c (.int .i64 0)), none⟩,
  ⟨145, .mv (.t 144), none⟩,
  ⟨146, .mv (.t 18), some (145, true)⟩,
  ⟨147, .mv (.t 2), some (145, true)⟩,
  ⟨148, .call 29 [.t 146, .t 147], some (145, true)⟩,
  ⟨149, .pick (.t 145) (.t 148) (.c (.bool false)), none⟩,
  ⟨150, .mv (.t 149), none⟩,
  ⟨151, .call 12 [], some (150, true)⟩,
  ⟨152, .pick (.t 150) (.t 151) (.c (.bool false)), none⟩,
  ⟨6, .asg (.t 152), none⟩]
def l10_0 : PCode := .seq (.seq (.ops r10_7) (.cond (.t 51) (.skip) (.exit 0))) (.seq (.block 1 (.seq (.ops r10_9) (.cond (.t 117) (.seq (.ops r10_10) (.ret)) (.skip)))) (.ops r10_8))
def p10 : PCode := .seq (.ops r10_0) (.seq (.seq (.ops r10_1) (.seq (.ops r10_2) (.cond (.t 26) (.seq (.ops r10_3) (.seq (.seq (.ops r10_4) (.cond (.t 47) (.seq (.ops r10_5) (.ret)) (.skip))) (.seq (.ops r10_6) (.block 0 (.loop l10_0))))) (.skip)))) (.seq (.ops r10_11) (.seq (.seq (.ops r10_12) (.cond (.t 126) (.seq (.ops r10_13) (.ret)) (.skip))) (.seq (.ops r10_14) (.seq (.ops r10_15) (.ret))))))
theorem ok10 : okFunc Try.prog 10 [.t 6] 3 p10 = true := by kernel_rfl
set_option maxRecDepth 20000 in
set_option maxHeartbeats 2000000 in
theorem idxback_d (l : List Seg) (scale : Int) (b : List Nat) (hl : l.length ≤ 9223372036854775807) (hI : ∀ s ∈ l, SegI s) (hbl : b.length ≤ 9223372036854775807) (hb : ∀ x ∈ b, x < 256) : CallOK Try.prog 10 [.ro (l.map Seg.av), .val (.int .i64 scale), .ro (b.map oneU)] (.val (.bool true)) := by
  refine call_of mixed ok10 rfl ?_
  have hx := idx_c l scale hl hI
  have hr := read_c b hb hbl
  have hq := eqb_c b
  by_cases h0 : ixF l scale = 0
  case neg =>
    rw [show idxF l scale = ([], ixF l scale) from by rw [idxF, if_pos h0]] at hx
    generalize ixF l scale = E at *
    simp only at hx
    by_cases q : (rdF b).2.2.2 = 0
    · obtain ⟨y1, y2⟩ := written_read hb q
      have hx2 := idx_c (rdF b).1 (rdF b).2.1 (by have := (ixF_0 y1).2.1; omega) (rdF_segI b)
      rw [show idxF (rdF b).1 (rdF b).2.1 = (b, 0) from by rw [idxF, if_neg (by simp [y1]), y2]] at hx2
      rw [q] at hr
      generalize rdF b = F at *
      simp only at hx2
      repeat' first | (with_reducible refine condD (fun h => ?_) (fun h => ?_)) | (with_reducible refine condE (fun h => ?_) (fun h => ?_)) | (with_reducible refine condN (fun h => ?_) (fun h => ?_)) | (with_reducible refine condI (fun h => ?_) (fun h => ?_)) | (with_reducible refine condS (fun h => ?_) (fun h => ?_)) | (with_reducible refine guardD (by with_unfolding_all rfl) (fun h => ?_) (fun h => ?_)) | (with_reducible refine guardE (by with_unfolding_all rfl) (fun h => ?_) (fun h => ?_)) | (with_reducible refine guardN (by with_unfolding_all rfl) (fun h => ?_) (fun h => ?_)) | (with_reducible refine guardI (by with_unfolding_all rfl) (fun h => ?_) (fun h => ?_)) | (with_reducible refine guardS (by with_unfolding_all rfl) (fun h => ?_) (fun h => ?_)) | ((refine callG hr ?_)) | ((refine callG hx ?_)) | ((refine callG hx2 ?_)) | ((refine callG hq ?_)) | ((refine callG awake_c ?_)) | (with_reducible refine And.intro ?_ ?_; omega) | (simp only [done_eq, done_eq', donet_eq, donet_eq', fin_val, fin_tup, fin_agg, fin_ro, res_one, res_more, rv_t, rv_c, rv_l, AV.tup.injEq, AV.agg.injEq, AV.ro.injEq, List.cons.injEq, int_eq, bool_eq, Int.toNat_natCast, Int.reduceToNat, Int.toNat_zero, Int.toNat_one, Int.reduceLE, Int.reduceLT, Int.reduceBEq, Int.reduceBNe, beq_self_eq_true, bne_self_eq_false, decide_true, decide_false,  Int.reduceNeg, toNat_pred, toNat_succ, List.length_map, cnd_t, cnd_f, grd_tt, grd_u, grd_tf, grd_ft, grd_ff, g_skip, g_ops, g_seq, g_block, g_exit, g_ret, x_c, x_o, x_l, x_b, g_b, g_nil, r_all, o_nil, g_cond, o_guard, o_call, o_callm, o_callt, o_callx, o_callv, lk, ef, o_mv, o_pick, o_bin, o_never, o_eqs, o_eqb, o_un, o_conv, o_load, o_loadr, o_idxr, o_loads, o_fld, o_idx, o_idxs, o_len, o_lens, o_ext, o_nilck, o_slc, o_slcs, o_build, o_minmax, o_mkfn, o_alloc, o_box, o_boxs, o_row, o_rowr, o_mk, o_asg, o_app, o_store, o_stores, o_eqnil, hv, eqAV, ev, view_t, view_c, view_nil, view_fn, look_own, look_box, look_junk, look_val, look_nilsl, look_ro, look_roAt, look_agg, look_tup, look_clo, look_alias, look_ref, look_into, rowOf, cellsOf, argv, vbin, vun, bnd, elemOf, putParts, setAt, zav, ASt.rid, ASt.free, AV.kill, AV.isHome, AV.noLoan, AV.cellOK, Value.oneCell', put_at, mk_at, mk_nil, initSt, true_and, and_true, and_self, implies_true, List.map_cons, List.map_nil, List.forall_mem_cons, List.not_mem_nil, false_implies, List.length_cons, List.length_nil, List.getD_cons_zero, List.getD_cons_succ, List.getD_nil, List.drop_succ_cons, List.drop_zero, List.take_succ_cons, List.take_zero, List.set_cons_zero, List.set_cons_succ, List.all_cons, List.all_nil, Bool.and_true, Bool.true_and, Bool.not_true, Bool.not_false, reduceCtorEq, if_true, if_false, Bool.false_eq_true, ↓reduceIte, Nat.reduceEqDiff, Nat.reduceAdd, Nat.reduceSub, Nat.reduceMul, Nat.reduceLeDiff, Nat.reduceLT, ne_eq, not_false_eq_true, not_true_eq_false, Nat.one_ne_zero, Nat.zero_ne_one, r10_0, r10_1, r10_2, r10_3, r10_4, r10_5, r10_6, r10_7, r10_9, r10_10, r10_8, r10_11, r10_12, r10_13, r10_14, r10_15, p10, beq0_f h0]) | (exfalso; omega)
    · obtain ⟨y1, y2⟩ := rdF_err q
      rw [y1, y2, List.map_nil] at hr
      generalize rdF b = F at *
      repeat' first | (with_reducible refine condD (fun h => ?_) (fun h => ?_)) | (with_reducible refine condE (fun h => ?_) (fun h => ?_)) | (with_reducible refine condN (fun h => ?_) (fun h => ?_)) | (with_reducible refine condI (fun h => ?_) (fun h => ?_)) | (with_reducible refine condS (fun h => ?_) (fun h => ?_)) | (with_reducible refine guardD (by with_unfolding_all rfl) (fun h => ?_) (fun h => ?_)) | (with_reducible refine guardE (by with_unfolding_all rfl) (fun h => ?_) (fun h => ?_)) | (with_reducible refine guardN (by with_unfolding_all rfl) (fun h => ?_) (fun h => ?_)) | (with_reducible refine guardI (by with_unfolding_all rfl) (fun h => ?_) (fun h => ?_)) | (with_reducible refine guardS (by with_unfolding_all rfl) (fun h => ?_) (fun h => ?_)) | ((refine callG hr ?_)) | ((refine callG hx ?_)) | ((refine callG awake_c ?_)) | (with_reducible refine And.intro ?_ ?_; omega) | (simp only [done_eq, done_eq', donet_eq, donet_eq', fin_val, fin_tup, fin_agg, fin_ro, res_one, res_more, rv_t, rv_c, rv_l, AV.tup.injEq, AV.agg.injEq, AV.ro.injEq, List.cons.injEq, int_eq, bool_eq, Int.toNat_natCast, Int.reduceToNat, Int.toNat_zero, Int.toNat_one, Int.reduceLE, Int.reduceLT, Int.reduceBEq, Int.reduceBNe, beq_self_eq_true, bne_self_eq_false, decide_true, decide_false,  Int.reduceNeg, toNat_pred, toNat_succ, List.length_map, cnd_t, cnd_f, grd_tt, grd_u, grd_tf, grd_ft, grd_ff, g_skip, g_ops, g_seq, g_block, g_exit, g_ret, x_c, x_o, x_l, x_b, g_b, g_nil, r_all, o_nil, g_cond, o_guard, o_call, o_callm, o_callt, o_callx, o_callv, lk, ef, o_mv, o_pick, o_bin, o_never, o_eqs, o_eqb, o_un, o_conv, o_load, o_loadr, o_idxr, o_loads, o_fld, o_idx, o_idxs, o_len, o_lens, o_ext, o_nilck, o_slc, o_slcs, o_build, o_minmax, o_mkfn, o_alloc, o_box, o_boxs, o_row, o_rowr, o_mk, o_asg, o_app, o_store, o_stores, o_eqnil, hv, eqAV, ev, view_t, view_c, view_nil, view_fn, look_own, look_box, look_junk, look_val, look_nilsl, look_ro, look_roAt, look_agg, look_tup, look_clo, look_alias, look_ref, look_into, rowOf, cellsOf, argv, vbin, vun, bnd, elemOf, putParts, setAt, zav, ASt.rid, ASt.free, AV.kill, AV.isHome, AV.noLoan, AV.cellOK, Value.oneCell', put_at, mk_at, mk_nil, initSt, true_and, and_true, and_self, implies_true, List.map_cons, List.map_nil, List.forall_mem_cons, List.not_mem_nil, false_implies, List.length_cons, List.length_nil, List.getD_cons_zero, List.getD_cons_succ, List.getD_nil, List.drop_succ_cons, List.drop_zero, List.take_succ_cons, List.take_zero, List.set_cons_zero, List.set_cons_succ, List.all_cons, List.all_nil, Bool.and_true, Bool.true_and, Bool.not_true, Bool.not_false, reduceCtorEq, if_true, if_false, Bool.false_eq_true, ↓reduceIte, Nat.reduceEqDiff, Nat.reduceAdd, Nat.reduceSub, Nat.reduceMul, Nat.reduceLeDiff, Nat.reduceLT, ne_eq, not_false_eq_true, not_true_eq_false, Nat.one_ne_zero, Nat.zero_ne_one, r10_0, r10_1, r10_2, r10_3, r10_4, r10_5, r10_6, r10_7, r10_9, r10_10, r10_8, r10_11, r10_12, r10_13, r10_14, r10_15, p10, beq0_f h0, bne0_t q]) | (exfalso; omega)
  rw [show idxF l scale = (idxB l scale, 0) from by rw [idxF, if_neg (by simp [h0])]] at hx
  have hr1 := read_c (idxB l scale) (idxB_lt l scale) (by rw [idxB_len]; have := (ixF_0 h0).2.1; omega)
  rw [read_written h0] at hr1
  have hout := ixGo_out (ixF_0 h0).2.2
  simp only at hx hr1
  generalize idxB l scale = X at *
  repeat' first | (with_reducible refine condD (fun h => ?_) (fun h => ?_)) | (with_reducible refine condE (fun h => ?_) (fun h => ?_)) | (with_reducible refine condN (fun h => ?_) (fun h => ?_)) | (with_reducible refine condI (fun h => ?_) (fun h => ?_)) | (with_reducible refine condS (fun h => ?_) (fun h => ?_)) | (with_reducible refine guardD (by with_unfolding_all rfl) (fun h => ?_) (fun h => ?_)) | (with_reducible refine guardE (by with_unfolding_all rfl) (fun h => ?_) (fun h => ?_)) | (with_reducible refine guardN (by with_unfolding_all rfl) (fun h => ?_) (fun h => ?_)) | (with_reducible refine guardI (by with_unfolding_all rfl) (fun h => ?_) (fun h => ?_)) | (with_reducible refine guardS (by with_unfolding_all rfl) (fun h => ?_) (fun h => ?_)) | ((refine callG hx ?_)) | ((refine callG hr1 ?_)) | (with_reducible refine And.intro ?_ ?_; omega) | (simp only [done_eq, done_eq', donet_eq, donet_eq', fin_val, fin_tup, fin_agg, fin_ro, res_one, res_more, rv_t, rv_c, rv_l, AV.tup.injEq, AV.agg.injEq, AV.ro.injEq, List.cons.injEq, int_eq, bool_eq, Int.toNat_natCast, Int.reduceToNat, Int.toNat_zero, Int.toNat_one, Int.reduceLE, Int.reduceLT, Int.reduceBEq, Int.reduceBNe, beq_self_eq_true, bne_self_eq_false, decide_true, decide_false,  Int.reduceNeg, toNat_pred, toNat_succ, List.length_map, cnd_t, cnd_f, grd_tt, grd_u, grd_tf, grd_ft, grd_ff, g_skip, g_ops, g_seq, g_block, g_exit, g_ret, x_c, x_o, x_l, x_b, g_b, g_nil, r_all, o_nil, g_cond, o_guard, o_call, o_callm, o_callt, o_callx, o_callv, lk, ef, o_mv, o_pick, o_bin, o_never, o_eqs, o_eqb, o_un, o_conv, o_load, o_loadr, o_idxr, o_loads, o_fld, o_idx, o_idxs, o_len, o_lens, o_ext, o_nilck, o_slc, o_slcs, o_build, o_minmax, o_mkfn, o_alloc, o_box, o_boxs, o_row, o_rowr, o_mk, o_asg, o_app, o_store, o_stores, o_eqnil, hv, eqAV, ev, view_t, view_c, view_nil, view_fn, look_own, look_box, look_junk, look_val, look_nilsl, look_ro, look_roAt, look_agg, look_tup, look_clo, look_alias, look_ref, look_into, rowOf, cellsOf, argv, vbin, vun, bnd, elemOf, putParts, setAt, zav, ASt.rid, ASt.free, AV.kill, AV.isHome, AV.noLoan, AV.cellOK, Value.oneCell', put_at, mk_at, mk_nil, initSt, true_and, and_true, and_self, implies_true, List.map_cons, List.map_nil, List.forall_mem_cons, List.not_mem_nil, false_implies, List.length_cons, List.length_nil, List.getD_cons_zero, List.getD_cons_succ, List.getD_nil, List.drop_succ_cons, List.drop_zero, List.take_succ_cons, List.take_zero, List.set_cons_zero, List.set_cons_succ, List.all_cons, List.all_nil, Bool.and_true, Bool.true_and, Bool.not_true, Bool.not_false, reduceCtorEq, if_true, if_false, Bool.false_eq_true, ↓reduceIte, Nat.reduceEqDiff, Nat.reduceAdd, Nat.reduceSub, Nat.reduceMul, Nat.reduceLeDiff, Nat.reduceLT, ne_eq, not_false_eq_true, not_true_eq_false, Nat.one_ne_zero, Nat.zero_ne_one, r10_0, r10_1, r10_2, r10_3, r10_4, r10_5, r10_6, r10_7, r10_9, r10_10, r10_8, r10_11, r10_12, r10_13, r10_14, r10_15, p10, List.length_map]) | (exfalso; omega)
  refine loopS (fun k : Nat => mk [(0, .ro (l.map Seg.av)), (2, .ro (b.map oneU)), (9, .ro ((l.map Seg.clean).map Seg.av)), (13, .val (.int .i64 k))]) (fun k => k ≤ l.length) (fun k => l.length - k) 0 (weak_mk ?_) (Nat.zero_le _) ?_
  · simp only [wk_cons, wk_nil, wk1, vint_eq, vbool_eq, AV.val.injEq, done_eq, done_eq', donet_eq, donet_eq', fin_val, fin_tup, fin_agg, fin_ro, res_one, res_more, rv_t, rv_c, rv_l, AV.tup.injEq, AV.agg.injEq, AV.ro.injEq, List.cons.injEq, int_eq, bool_eq, Int.toNat_natCast, Int.reduceToNat, Int.toNat_zero, Int.toNat_one, Int.reduceLE, Int.reduceLT, Int.reduceBEq, Int.reduceBNe, beq_self_eq_true, bne_self_eq_false, decide_true, decide_false,  Int.reduceNeg, toNat_pred, toNat_succ, List.length_map, cnd_t, cnd_f, grd_tt, grd_u, grd_tf, grd_ft, grd_ff, g_skip, g_ops, g_seq, g_block, g_exit, g_ret, x_c, x_o, x_l, x_b, g_b, g_nil, r_all, o_nil, g_cond, o_guard, o_call, o_callm, o_callt, o_callx, o_callv, lk, ef, o_mv, o_pick, o_bin, o_never, o_eqs, o_eqb, o_un, o_conv, o_load, o_loadr, o_idxr, o_loads, o_fld, o_idx, o_idxs, o_len, o_lens, o_ext, o_nilck, o_slc, o_slcs, o_build, o_minmax, o_mkfn, o_alloc, o_box, o_boxs, o_row, o_rowr, o_mk, o_asg, o_app, o_store, o_stores, o_eqnil, hv, eqAV, ev, view_t, view_c, view_nil, view_fn, look_own, look_box, look_junk, look_val, look_nilsl, look_ro, look_roAt, look_agg, look_tup, look_clo, look_alias, look_ref, look_into, rowOf, cellsOf, argv, vbin, vun, bnd, elemOf, putParts, setAt, zav, ASt.rid, ASt.free, AV.kill, AV.isHome, AV.noLoan, AV.cellOK, Value.oneCell', put_at, mk_at, mk_nil, initSt, true_and, and_true, and_self, implies_true, List.map_cons, List.map_nil, List.forall_mem_cons, List.not_mem_nil, false_implies, List.length_cons, List.length_nil, List.getD_cons_zero, List.getD_cons_succ, List.getD_nil, List.drop_succ_cons, List.drop_zero, List.take_succ_cons, List.take_zero, List.set_cons_zero, List.set_cons_succ, List.all_cons, List.all_nil, Bool.and_true, Bool.true_and, Bool.not_true, Bool.not_false, reduceCtorEq, if_true, if_false, Bool.false_eq_true, ↓reduceIte, Nat.reduceEqDiff, Nat.reduceAdd, Nat.reduceSub, Nat.reduceMul, Nat.reduceLeDiff, Nat.reduceLT, ne_eq, not_false_eq_true, not_true_eq_false, Nat.one_ne_zero, Nat.zero_ne_one]
    simp
  rintro J hJ k hk
  simp only [done_eq, done_eq', donet_eq, donet_eq', fin_val, fin_tup, fin_agg, fin_ro, res_one, res_more, rv_t, rv_c, rv_l, AV.tup.injEq, AV.agg.injEq, AV.ro.injEq, List.cons.injEq, int_eq, bool_eq, Int.toNat_natCast, Int.reduceToNat, Int.toNat_zero, Int.toNat_one, Int.reduceLE, Int.reduceLT, Int.reduceBEq, Int.reduceBNe, beq_self_eq_true, bne_self_eq_false, decide_true, decide_false,  Int.reduceNeg, toNat_pred, toNat_succ, List.length_map, cnd_t, cnd_f, grd_tt, grd_u, grd_tf, grd_ft, grd_ff, g_skip, g_ops, g_seq, g_block, g_exit, g_ret, x_c, x_o, x_l, x_b, g_b, g_nil, r_all, o_nil, g_cond, o_guard, o_call, o_callm, o_callt, o_callx, o_callv, lk, ef, o_mv, o_pick, o_bin, o_never, o_eqs, o_eqb, o_un, o_conv, o_load, o_loadr, o_idxr, o_loads, o_fld, o_idx, o_idxs, o_len, o_lens, o_ext, o_nilck, o_slc, o_slcs, o_build, o_minmax, o_mkfn, o_alloc, o_box, o_boxs, o_row, o_rowr, o_mk, o_asg, o_app, o_store, o_stores, o_eqnil, hv, eqAV, ev, view_t, view_c, view_nil, view_fn, look_own, look_box, look_junk, look_val, look_nilsl, look_ro, look_roAt, look_agg, look_tup, look_clo, look_alias, look_ref, look_into, rowOf, cellsOf, argv, vbin, vun, bnd, elemOf, putParts, setAt, zav, ASt.rid, ASt.free, AV.kill, AV.isHome, AV.noLoan, AV.cellOK, Value.oneCell', put_at, mk_at, mk_nil, initSt, true_and, and_true, and_self, implies_true, List.map_cons, List.map_nil, List.forall_mem_cons, List.not_mem_nil, false_implies, List.length_cons, List.length_nil, List.getD_cons_zero, List.getD_cons_succ, List.getD_nil, List.drop_succ_cons, List.drop_zero, List.take_succ_cons, List.take_zero, List.set_cons_zero, List.set_cons_succ, List.all_cons, List.all_nil, Bool.and_true, Bool.true_and, Bool.not_true, Bool.not_false, reduceCtorEq, if_true, if_false, Bool.false_eq_true, ↓reduceIte, Nat.reduceEqDiff, Nat.reduceAdd, Nat.reduceSub, Nat.reduceMul, Nat.reduceLeDiff, Nat.reduceLT, ne_eq, not_false_eq_true, not_true_eq_false, Nat.one_ne_zero, Nat.zero_ne_one, r10_0, r10_1, r10_2, r10_3, r10_4, r10_5, r10_6, r10_7, r10_9, r10_10, r10_8, r10_11, r10_12, r10_13, r10_14, r10_15, p10, l10_0]
  refine condD (fun h => ?_) (fun h => ?_)
  · have hlt : k < l.length := by omega
    have hw := i_add1 k (by omega)
    have gK := getD_map (f := Seg.av) (d := []) hlt
    have gC := getD_map (f := Seg.av) (d := []) (show k < (l.map Seg.clean).length by rw [List.length_map]; exact hlt)
    simp only [List.getElem_map, Seg.av, Seg.clean] at gK gC
    have hbw : IntKind.i64.wrap (l[k].beg + l[k].lead) = l[k].bnd := (outIx_f (hout _ (List.getElem_mem hlt))).2.2.2.2.2.2.2.2
    generalize l[k].bnd = Bn at gC hbw
    repeat' first | (with_reducible refine condD (fun h => ?_) (fun h => ?_)) | (with_reducible refine condE (fun h => ?_) (fun h => ?_)) | (with_reducible refine condN (fun h => ?_) (fun h => ?_)) | (with_reducible refine condI (fun h => ?_) (fun h => ?_)) | (with_reducible refine condS (fun h => ?_) (fun h => ?_)) | (with_reducible refine guardD (by with_unfolding_all rfl) (fun h => ?_) (fun h => ?_)) | (with_reducible refine guardE (by with_unfolding_all rfl) (fun h => ?_) (fun h => ?_)) | (with_reducible refine guardN (by with_unfolding_all rfl) (fun h => ?_) (fun h => ?_)) | (with_reducible refine guardI (by with_unfolding_all rfl) (fun h => ?_) (fun h => ?_)) | (with_reducible refine guardS (by with_unfolding_all rfl) (fun h => ?_) (fun h => ?_)) | (with_reducible refine And.intro ?_ ?_; omega) | (simp only [done_eq, done_eq', donet_eq, donet_eq', fin_val, fin_tup, fin_agg, fin_ro, res_one, res_more, rv_t, rv_c, rv_l, AV.tup.injEq, AV.agg.injEq, AV.ro.injEq, List.cons.injEq, int_eq, bool_eq, Int.toNat_natCast, Int.reduceToNat, Int.toNat_zero, Int.toNat_one, Int.reduceLE, Int.reduceLT, Int.reduceBEq, Int.reduceBNe, beq_self_eq_true, bne_self_eq_false, decide_true, decide_false,  Int.reduceNeg, toNat_pred, toNat_succ, List.length_map, cnd_t, cnd_f, grd_tt, grd_u, grd_tf, grd_ft, grd_ff, g_skip, g_ops, g_seq, g_block, g_exit, g_ret, x_c, x_o, x_l, x_b, g_b, g_nil, r_all, o_nil, g_cond, o_guard, o_call, o_callm, o_callt, o_callx, o_callv, lk, ef, o_mv, o_pick, o_bin, o_never, o_eqs, o_eqb, o_un, o_conv, o_load, o_loadr, o_idxr, o_loads, o_fld, o_idx, o_idxs, o_len, o_lens, o_ext, o_nilck, o_slc, o_slcs, o_build, o_minmax, o_mkfn, o_alloc, o_box, o_boxs, o_row, o_rowr, o_mk, o_asg, o_app, o_store, o_stores, o_eqnil, hv, eqAV, ev, view_t, view_c, view_nil, view_fn, look_own, look_box, look_junk, look_val, look_nilsl, look_ro, look_roAt, look_agg, look_tup, look_clo, look_alias, look_ref, look_into, rowOf, cellsOf, argv, vbin, vun, bnd, elemOf, putParts, setAt, zav, ASt.rid, ASt.free, AV.kill, AV.isHome, AV.noLoan, AV.cellOK, Value.oneCell', put_at, mk_at, mk_nil, initSt, true_and, and_true, and_self, implies_true, List.map_cons, List.map_nil, List.forall_mem_cons, List.not_mem_nil, false_implies, List.length_cons, List.length_nil, List.getD_cons_zero, List.getD_cons_succ, List.getD_nil, List.drop_succ_cons, List.drop_zero, List.take_succ_cons, List.take_zero, List.set_cons_zero, List.set_cons_succ, List.all_cons, List.all_nil, Bool.and_true, Bool.true_and, Bool.not_true, Bool.not_false, reduceCtorEq, if_true, if_false, Bool.false_eq_true, ↓reduceIte, Nat.reduceEqDiff, Nat.reduceAdd, Nat.reduceSub, Nat.reduceMul, Nat.reduceLeDiff, Nat.reduceLT, ne_eq, not_false_eq_true, not_true_eq_false, Nat.one_ne_zero, Nat.zero_ne_one, r10_0, r10_1, r10_2, r10_3, r10_4, r10_5, r10_6, r10_7, r10_9, r10_10, r10_8, r10_11, r10_12, r10_13, r10_14, r10_15, p10, l10_0, gK, gC, hbw, List.length_map]) | (exfalso; omega)
    all_goals exact again hJ (k + 1) (weak_mk (by simp only [wk_cons, wk_nil, wk1, vint_eq, vbool_eq, AV.val.injEq, done_eq, done_eq', donet_eq, donet_eq', fin_val, fin_tup, fin_agg, fin_ro, res_one, res_more, rv_t, rv_c, rv_l, AV.tup.injEq, AV.agg.injEq, AV.ro.injEq, List.cons.injEq, int_eq, bool_eq, Int.toNat_natCast, Int.reduceToNat, Int.toNat_zero, Int.toNat_one, Int.reduceLE, Int.reduceLT, Int.reduceBEq, Int.reduceBNe, beq_self_eq_true, bne_self_eq_false, decide_true, decide_false,  Int.reduceNeg, toNat_pred, toNat_succ, List.length_map, cnd_t, cnd_f, grd_tt, grd_u, grd_tf, grd_ft, grd_ff, g_skip, g_ops, g_seq, g_block, g_exit, g_ret, x_c, x_o, x_l, x_b, g_b, g_nil, r_all, o_nil, g_cond, o_guard, o_call, o_callm, o_callt, o_callx, o_callv, lk, ef, o_mv, o_pick, o_bin, o_never, o_eqs, o_eqb, o_un, o_conv, o_load, o_loadr, o_idxr, o_loads, o_fld, o_idx, o_idxs, o_len, o_lens, o_ext, o_nilck, o_slc, o_slcs, o_build, o_minmax, o_mkfn, o_alloc, o_box, o_boxs, o_row, o_rowr, o_mk, o_asg, o_app, o_store, o_stores, o_eqnil, hv, eqAV, ev, view_t, view_c, view_nil, view_fn, look_own, look_box, look_junk, look_val, look_nilsl, look_ro, look_roAt, look_agg, look_tup, look_clo, look_alias, look_ref, look_into, rowOf, cellsOf, argv, vbin, vun, bnd, elemOf, putParts, setAt, zav, ASt.rid, ASt.free, AV.kill, AV.isHome, AV.noLoan, AV.cellOK, Value.oneCell', put_at, mk_at, mk_nil, initSt, true_and, and_true, and_self, implies_true, List.map_cons, List.map_nil, List.forall_mem_cons, List.not_mem_nil, false_implies, List.length_cons, List.length_nil, List.getD_cons_zero, List.getD_cons_succ, List.getD_nil, List.drop_succ_cons, List.drop_zero, List.take_succ_cons, List.take_zero, List.set_cons_zero, List.set_cons_succ, List.all_cons, List.all_nil, Bool.and_true, Bool.true_and, Bool.not_true, Bool.not_false, reduceCtorEq, if_true, if_false, Bool.false_eq_true, ↓reduceIte, Nat.reduceEqDiff, Nat.reduceAdd, Nat.reduceSub, Nat.reduceMul, Nat.reduceLeDiff, Nat.reduceLT, ne_eq, not_false_eq_true, not_true_eq_false, Nat.one_ne_zero, Nat.zero_ne_one]; exact hw)) (by omega) (by omega)
  · have hke : k = l.length := by omega
    subst hke
    clear hJ
    by_cases q : (rdF b).2.2.2 = 0
    · obtain ⟨y1, y2⟩ := written_read hb q
      have hx2 := idx_c (rdF b).1 (rdF b).2.1 (by have := (ixF_0 y1).2.1; omega) (rdF_segI b)
      rw [show idxF (rdF b).1 (rdF b).2.1 = (b, 0) from by rw [idxF, if_neg (by simp [y1]), y2]] at hx2
      rw [q] at hr
      generalize rdF b = F at *
      simp only at hx2
      repeat' first | (with_reducible refine condD (fun h => ?_) (fun h => ?_)) | (with_reducible refine condE (fun h => ?_) (fun h => ?_)) | (with_reducible refine condN (fun h => ?_) (fun h => ?_)) | (with_reducible refine condI (fun h => ?_) (fun h => ?_)) | (with_reducible refine condS (fun h => ?_) (fun h => ?_)) | (with_reducible refine guardD (by with_unfolding_all rfl) (fun h => ?_) (fun h => ?_)) | (with_reducible refine guardE (by with_unfolding_all rfl) (fun h => ?_) (fun h => ?_)) | (with_reducible refine guardN (by with_unfolding_all rfl) (fun h => ?_) (fun h => ?_)) | (with_reducible refine guardI (by with_unfolding_all rfl) (fun h => ?_) (fun h => ?_)) | (with_reducible refine guardS (by with_unfolding_all rfl) (fun h => ?_) (fun h => ?_)) | ((refine callG hr ?_)) | ((refine callG hx2 ?_)) | ((refine callG hq ?_)) | ((refine callG awake_c ?_)) | (with_reducible refine And.intro ?_ ?_; omega) | (simp only [done_eq, done_eq', donet_eq, donet_eq', fin_val, fin_tup, fin_agg, fin_ro, res_one, res_more, rv_t, rv_c, rv_l, AV.tup.injEq, AV.agg.injEq, AV.ro.injEq, List.cons.injEq, int_eq, bool_eq, Int.toNat_natCast, Int.reduceToNat, Int.toNat_zero, Int.toNat_one, Int.reduceLE, Int.reduceLT, Int.reduceBEq, Int.reduceBNe, beq_self_eq_true, bne_self_eq_false, decide_true, decide_false,  Int.reduceNeg, toNat_pred, toNat_succ, List.length_map, cnd_t, cnd_f, grd_tt, grd_u, grd_tf, grd_ft, grd_ff, g_skip, g_ops, g_seq, g_block, g_exit, g_ret, x_c, x_o, x_l, x_b, g_b, g_nil, r_all, o_nil, g_cond, o_guard, o_call, o_callm, o_callt, o_callx, o_callv, lk, ef, o_mv, o_pick, o_bin, o_never, o_eqs, o_eqb, o_un, o_conv, o_load, o_loadr, o_idxr, o_loads, o_fld, o_idx, o_idxs, o_len, o_lens, o_ext, o_nilck, o_slc, o_slcs, o_build, o_minmax, o_mkfn, o_alloc, o_box, o_boxs, o_row, o_rowr, o_mk, o_asg, o_app, o_store, o_stores, o_eqnil, hv, eqAV, ev, view_t, view_c, view_nil, view_fn, look_own, look_box, look_junk, look_val, look_nilsl, look_ro, look_roAt, look_agg, look_tup, look_clo, look_alias, look_ref, look_into, rowOf, cellsOf, argv, vbin, vun, bnd, elemOf, putParts, setAt, zav, ASt.rid, ASt.free, AV.kill, AV.isHome, AV.noLoan, AV.cellOK, Value.oneCell', put_at, mk_at, mk_nil, initSt, true_and, and_true, and_self, implies_true, List.map_cons, List.map_nil, List.forall_mem_cons, List.not_mem_nil, false_implies, List.length_cons, List.length_nil, List.getD_cons_zero, List.getD_cons_succ, List.getD_nil, List.drop_succ_cons, List.drop_zero, List.take_succ_cons, List.take_zero, List.set_cons_zero, List.set_cons_succ, List.all_cons, List.all_nil, Bool.and_true, Bool.true_and, Bool.not_true, Bool.not_false, reduceCtorEq, if_true, if_false, Bool.false_eq_true, ↓reduceIte, Nat.reduceEqDiff, Nat.reduceAdd, Nat.reduceSub, Nat.reduceMul, Nat.reduceLeDiff, Nat.reduceLT, ne_eq, not_false_eq_true, not_true_eq_false, Nat.one_ne_zero, Nat.zero_ne_one, r10_0, r10_1, r10_2, r10_3, r10_4, r10_5, r10_6, r10_7, r10_9, r10_10, r10_8, r10_11, r10_12, r10_13, r10_14, r10_15, p10, l10_0, List.length_map]) | (exfalso; omega)
    · obtain ⟨y1, y2⟩ := rdF_err q
      rw [y1, y2, List.map_nil] at hr
      generalize rdF b = F at *
      repeat' first | (with_reducible refine condD (fun h => ?_) (fun h => ?_)) | (with_reducible refine condE (fun h => ?_) (fun h => ?_)) | (with_reducible refine condN (fun h => ?_) (fun h => ?_)) | (with_reducible refine condI (fun h => ?_) (fun h => ?_)) | (with_reducible refine condS (fun h => ?_) (fun h => ?_)) | (with_reducible refine guardD (by with_unfolding_all rfl) (fun h => ?_) (fun h => ?_)) | (with_reducible refine guardE (by with_unfolding_all rfl) (fun h => ?_) (fun h => ?_)) | (with_reducible refine guardN (by with_unfolding_all rfl) (fun h => ?_) (fun h => ?_)) | (with_reducible refine guardI (by with_unfolding_all rfl) (fun h => ?_) (fun h => ?_)) | (with_reducible refine guardS (by with_unfolding_all rfl) (fun h => ?_) (fun h => ?_)) | ((refine callG hr ?_)) | ((refine callG awake_c ?_)) | (with_reducible refine And.intro ?_ ?_; omega) | (simp only [done_eq, done_eq', donet_eq, donet_eq', fin_val, fin_tup, fin_agg, fin_ro, res_one, res_more, rv_t, rv_c, rv_l, AV.tup.injEq, AV.agg.injEq, AV.ro.injEq, List.cons.injEq, int_eq, bool_eq, Int.toNat_natCast, Int.reduceToNat, Int.toNat_zero, Int.toNat_one, Int.reduceLE, Int.reduceLT, Int.reduceBEq, Int.reduceBNe, beq_self_eq_true, bne_self_eq_false, decide_true, decide_false,  Int.reduceNeg, toNat_pred, toNat_succ, List.length_map, cnd_t, cnd_f, grd_tt, grd_u, grd_tf, grd_ft, grd_ff, g_skip, g_ops, g_seq, g_block, g_exit, g_ret, x_c, x_o, x_l, x_b, g_b, g_nil, r_all, o_nil, g_cond, o_guard, o_call, o_callm, o_callt, o_callx, o_callv, lk, ef, o_mv, o_pick, o_bin, o_never, o_eqs, o_eqb, o_un, o_conv, o_load, o_loadr, o_idxr, o_loads, o_fld, o_idx, o_idxs, o_len, o_lens, o_ext, o_nilck, o_slc, o_slcs, o_build, o_minmax, o_mkfn, o_alloc, o_box, o_boxs, o_row, o_rowr, o_mk, o_asg, o_app, o_store, o_stores, o_eqnil, hv, eqAV, ev, view_t, view_c, view_nil, view_fn, look_own, look_box, look_junk, look_val, look_nilsl, look_ro, look_roAt, look_agg, look_tup, look_clo, look_alias, look_ref, look_into, rowOf, cellsOf, argv, vbin, vun, bnd, elemOf, putParts, setAt, zav, ASt.rid, ASt.free, AV.kill, AV.isHome, AV.noLoan, AV.cellOK, Value.oneCell', put_at, mk_at, mk_nil, initSt, true_and, and_true, and_self, implies_true, List.map_cons, List.map_nil, List.forall_mem_cons, List.not_mem_nil, false_implies, List.length_cons, List.length_nil, List.getD_cons_zero, List.getD_cons_succ, List.getD_nil, List.drop_succ_cons, List.drop_zero, List.take_succ_cons, List.take_zero, List.set_cons_zero, List.set_cons_succ, List.all_cons, List.all_nil, Bool.and_true, Bool.true_and, Bool.not_true, Bool.not_false, reduceCtorEq, if_true, if_false, Bool.false_eq_true, ↓reduceIte, Nat.reduceEqDiff, Nat.reduceAdd, Nat.reduceSub, Nat.reduceMul, Nat.reduceLeDiff, Nat.reduceLT, ne_eq, not_false_eq_true, not_true_eq_false, Nat.one_ne_zero, Nat.zero_ne_one, r10_0, r10_1, r10_2, r10_3, r10_4, r10_5, r10_6, r10_7, r10_9, r10_10, r10_8, r10_11, r10_12, r10_13, r10_14, r10_15, p10, l10_0, List.length_map, bne0_t q]) | (exfalso; omega)
theorem idxback_c : ∀ avs, HasArgs [.one (.row [.int .i64, .int .i64, .int .i64, .int .i64, .int .i64, .int .i64, .int .i64]), .one (.int .i64), .one (.row [.int .u8])] avs → CallOK Try.prog 10 avs (.val (.bool true)) := by
  intro avs h
  obtain ⟨v0, r, rfl, h0, h⟩ := args_cons h
  obtain ⟨v1, r, rfl, h1, h⟩ := args_cons h
  obtain ⟨v2, r, rfl, h2, h⟩ := args_cons h
  obtain rfl := args_nil h
  obtain ⟨n0, rfl, hl0, hb0⟩ := has_row h0 all_seg
  obtain ⟨n1, rfl, hb1⟩ := has_int h1
  obtain ⟨n2, rfl, hl2, hb2⟩ := has_row h2 all_u8
  exact idxback_d n0 n1 n2 (by unfold maxLen at hl0; omega) (fun s hs => ⟨(hb0 s hs).2.2.2.1, (hb0 s hs).2.2.2.2.2.2⟩) (by unfold maxLen at hl2; omega) hb2

/-! ### The row -/
open Go.ChangeShapes Go.WideShapes Go.ChangeAt
set_option maxRecDepth 100000 in
theorem idxback_lifted (os : Os) (started : os.Started) (H : Type) (enc : TypeId × Value → H) :
    ReturnsInHanded {} Try.checked os 10 .any (Rows.cutIndexesComeBackSpec.pre6 enc Try.prog Try.f10 Rows.cutIndexesComeBackRow.domain false) (Rows.cutIndexesComeBackSpec.post enc Try.prog Try.f10 false true false false) := by
  refine returnsInHanded_of_change (C := Try.checked) own_knob started (by kernel_rfl) Try.func10
    (ChangeSpec.witness6 (enc := enc) (C := Try.checked) false ⟨#[], #[.slice none 0 0, .int .i64 0, .slice none 0 0], []⟩ 8 (by kernel_rfl) (by kernel_rfl) (by kernel_rfl) (by kernel_rfl)) ?_
  intro W base args ds gs before hval hW _ _
  refine law_step rfl (by kernel_rfl) (fun ds h => ?_) ?_ hval hW ?_
  · match ds, h with | [a, b, c], _ => exact ⟨rfl, rfl, rfl⟩
  · rw [Try.params10]
    intro t ht
    simp only [List.mem_cons, List.not_mem_nil, or_false] at ht
    repeat' (first | (rcases ht with rfl | ht) | subst ht)
    all_goals exact ⟨by kernel_rfl, of_decide_eq_true (by kernel_rfl)⟩
  · rw [Try.params10]
    intro hin
    exact law_dm (ss := [.one (.row [.int .i64, .int .i64, .int .i64, .int .i64, .int .i64, .int .i64, .int .i64]), .one (.int .i64), .one (.row [.int .u8])]) (by kernel_rfl) hin idxback_c

theorem idxback_holds : Rows.CutIndexesComeBackSaid :=
  OpenClaim.holds_of_wide 10 Try.f10 rfl rfl rfl rfl rfl rfl rfl ⟨rfl, rfl, rfl, rfl, rfl⟩ rfl rfl rfl rfl rfl (by kernel_rfl) Try.func10 (by kernel_rfl)
    (of_decide_eq_true (by kernel_rfl)) (by unfold Func.isWrapper; first | (rw [if_pos (by decide +kernel)]; kernel_rfl) | (rw [if_neg (by decide +kernel)]; exact ⟨rfl, rfl⟩))
    (fun os started H enc _ => idxback_lifted os started H enc)

end Go.Proofs.Ytpkeiabifoipoaa
