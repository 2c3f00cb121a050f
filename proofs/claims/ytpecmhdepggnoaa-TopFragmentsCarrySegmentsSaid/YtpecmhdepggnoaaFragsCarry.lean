/- cut.Segments, by the machine on data. -/
import Derived.Test.YtpecmhdepggnoaaKFrOK
import Derived.Test.YtpecmhdepggnoaaKSmpQ
import Derived.Test.YtpecmhdepggnoaaKFragJ
import Derived.Test.YtpecmhdepggnoaaKFragU
import Derived.Test.YtpecmhdepggnoaaKRefSmp
import Derived.Test.YtpecmhdepggnoaaKAlive
import Derived.Test.YtpecmhdepggnoaaRows
namespace Go.Proofs.Ytpecmhdepggnoaa
open Go.RowKit
open Go.Proofs.Ytpecmhdepggnoaa.AV.tup renaming injEq → Z0
open Go.Proofs.Ytpecmhdepggnoaa.AV.agg renaming injEq → Z1
open Go.Proofs.Ytpecmhdepggnoaa.AV.ro renaming injEq → Z2
open _root_.Int renaming toNat_natCast → Z3, reduceToNat → Z4, toNat_zero → Z5, toNat_one → Z6, reduceLE → Z7, reduceLT → Z8, reduceBEq → Z9, reduceBNe → Za, reduceNeg → Zb
open _root_.List renaming length_map → Zc, map_cons → Zh, map_nil → Zi, forall_mem_cons → Zj, not_mem_nil → Zk, length_cons → Zl, length_nil → Zm, getD_cons_zero → Zn, getD_cons_succ → Zo, getD_nil → Zp, drop_succ_cons → Zq, drop_zero → Zr, take_succ_cons → Zs, take_zero → Zt, set_cons_zero → Zu, set_cons_succ → Zv, all_cons → Zw, all_nil → Zx
open Go.Proofs.Ytpecmhdepggnoaa.ASt renaming free → Zd
open Go.Proofs.Ytpecmhdepggnoaa.AV renaming isHome → Ze, noLoan → Zf, cellOK → Zg
open _root_.Bool renaming and_true → Zy, true_and → Zz, not_true → Y0, not_false → Y1, false_eq_true → Y2
open _root_.Nat renaming reduceEqDiff → Y3, reduceAdd → Y4, reduceSub → Y5, reduceMul → Y6, reduceLeDiff → Y7, reduceLT → Y8, one_ne_zero → Y9, zero_ne_one → Ya
set_option linter.unusedSimpArgs false
--@short

theorem segF_ok {r : Str} {sc first : Int} {B : List Int} (h : (segF r sc B first).2 = 0) : noScale sc = false ∧ rise B = 0 ∧ (fstGo r sc B [] []).2.2 = 0 ∧ ¬ segLen r ((fstGo r sc B [] []).1.map Int.toNat) (fstGo r sc B [] []).2.1 (B.length - 1) < 0 ∧ (segF r sc B first).1 = segsL r first ((fstGo r sc B [] []).1.map Int.toNat) (fstGo r sc B [] []).2.1 := by
  unfold segF at h ⊢
  split at h
  · cases h
  rename_i h1
  split at h
  · rename_i h2; exact absurd h h2
  rename_i h2
  split at h
  · cases h
  rename_i h3
  split at h
  · rename_i h4; exact absurd h h4
  rename_i h4
  split at h
  · cases h
  rename_i h5
  split at h
  · cases h
  rename_i h6
  rw [if_neg h1, if_neg h2, if_neg h3, if_neg h4, if_neg h5, if_neg h6]
  exact ⟨by simpa using h1, by simpa using h2, by simpa using h4, h6, rfl⟩
theorem segF_zero {r : Str} {sc first : Int} {B : List Int} (h : (segF r sc B first).2 = 0) : (fstGo r sc B [] []).1.getD 0 0 = 0 := by
  unfold segF at h
  split at h
  · cases h
  split at h
  · rename_i h2; exact absurd h h2
  split at h
  · cases h
  split at h
  · rename_i h4; exact absurd h h4
  split at h
  · cases h
  rename_i h5
  simpa using h5
def segmF (r : Str) (scale : Int) (B : List Int) (first : Int) : List Seg × Int := if strF r [] ≠ 0 then ([], strF r []) else segF r scale B first
/-! headend/cut.Segments -/
def r21_0 : List POp := [⟨4, .boxs (.t 0), none⟩,
  ⟨8, .asg .nil, none⟩,
  ⟨9, .asg (.c (.int .i64 0)), none⟩]
def r21_1 : List POp := [⟨11, .loads 4 (.t 4), none⟩,
  ⟨12, .call 47 [.t 11, .nil], none⟩,
  ⟨10, .asg (.t 12), none⟩]
def r21_2 : List POp := [⟨13, .mv (.t 10), none⟩,
  ⟨14, .bin .neq (.t 13) (.c (.int .i64 0)), none⟩]
def r21_3 : List POp := [⟨15, .mv (.t 10), none⟩,
  ⟨8, .asg .nil, none⟩,
  ⟨9, .mv (.t 15), none⟩]
def r21_4 : List POp := [⟨16, .loads 4 (.t 4), none⟩,
  ⟨17, .mv (.t 1), none⟩,
  ⟨18, .mv (.t 2), none⟩,
  ⟨19, .mv (.t 3), none⟩,
  ⟨20, .call 46 [.t 16, .t 17, .t 18, .t 19], none⟩,
  ⟨21, .ext 0 (.t 20), none⟩,
  ⟨22, .ext 1 (.t 20), none⟩,
  ⟨8, .asg (.t 21), none⟩,
  ⟨9, .asg (.t 22), none⟩]
def p21 : PCode := .seq (.ops r21_0) (.seq (.seq (.ops r21_1) (.seq (.ops r21_2) (.cond (.t 14) (.seq (.ops r21_3) (.ret)) (.skip)))) (.seq (.ops r21_4) (.ret)))
theorem ok21 : okFunc Try.prog 21 [.t 8, .t 9] 4 p21 = true := by kernel_rfl
theorem csegments_c (r : Str) (scale : Int) (B : List Int) (first : Int) : CallOK Try.prog 21 [.agg r.av, .val (.int .i64 scale), .ro (B.map oneI), .val (.int .i64 first)] (.tup [.ro ((segmF r scale B first).1.map Seg.av), .val (.int .i64 (segmF r scale B first).2)]) := by
  refine call_of mixed ok21 rfl ?_
  have hs := strand_c r [] (by simp)
  by_cases h0 : strF r [] = 0
  case neg =>
    rw [show segmF r scale B first = ([], strF r []) from if_pos h0]
    simp only [List.map_nil, Str.av] at hs ⊢
    repeat' first | ((with_reducible (first | refine condD ?_ ?_ | refine condE ?_ ?_ | refine condN ?_ ?_ | refine condI ?_ ?_ | refine condS ?_ ?_)) <;> intro h) | ((with_reducible (first | refine guardD (by with_unfolding_all rfl) ?_ ?_ | refine guardE (by with_unfolding_all rfl) ?_ ?_ | refine guardN (by with_unfolding_all rfl) ?_ ?_ | refine guardI (by with_unfolding_all rfl) ?_ ?_ | refine guardS (by with_unfolding_all rfl) ?_ ?_)) <;> intro h) | ((refine callG hs ?_)) | (with_reducible refine And.intro ?_ ?_; omega) | (simp only [done_eq,done_eq',donet_eq,donet_eq',fin_val,fin_tup,fin_agg,fin_ro,res_one,res_more,rv_t,rv_c,rv_l,Z0,Z1,Z2,List.cons.injEq,int_eq,bool_eq,Z3,Z4,Z5,Z6,Z7,Z8,Z9,Za,beq_self_eq_true,bne_self_eq_false,decide_true,decide_false,Zb,toNat_pred,toNat_succ,Zc,cnd_t,cnd_f,grd_tt,grd_u,grd_tf,grd_ft,grd_ff,g_skip,g_ops,g_seq,g_block,g_exit,g_ret,x_c,x_o,x_l,x_b,g_b,g_nil,r_all,o_nil,g_cond,o_guard,o_call,o_callm,o_callt,o_callx,o_callv,lk,ef,o_mv,o_pick,o_bin,o_never,o_eqs,o_eqb,o_un,o_conv,o_load,o_loadr,o_idxr,o_loads,o_fld,o_idx,o_idxs,o_len,o_lens,o_ext,o_nilck,o_slc,o_slcs,o_build,o_minmax,o_mkfn,o_alloc,o_box,o_boxs,o_row,o_rowr,o_mk,o_asg,o_app,o_store,o_stores,o_eqnil,hv,eqAV,ev,view_t,view_c,view_nil,view_fn,look_own,look_box,look_junk,look_val,look_nilsl,look_ro,look_roAt,look_agg,look_tup,look_clo,look_alias,look_ref,look_into,rowOf,cellsOf,argv,vbin,vun,bnd,elemOf,putParts,setAt,zav,ASt.rid,Zd,AV.kill,Ze,Zf,Zg,Value.oneCell',put_at,mk_at,mk_nil,initSt,true_and,and_true,and_self,implies_true,Zh,Zi,Zj,Zk,false_implies,Zl,Zm,Zn,Zo,Zp,Zq,Zr,Zs,Zt,Zu,Zv,Zw,Zx,Zy,Zz,Y0,Y1,reduceCtorEq,if_true,if_false,Y2,↓reduceIte,Y3,Y4,Y5,Y6,Y7,Y8,ne_eq,not_false_eq_true,not_true_eq_false,Y9,Ya,r21_0,r21_1,r21_2,r21_3,r21_4,p21,bne0_t h0]) | (exfalso; omega)
  rw [show segmF r scale B first = segF r scale B first from if_neg (by simp [h0])]
  obtain ⟨q1, q2, q3, q4⟩ := strF_ok h0
  have hS := segments_c r scale B first q1 q2 ⟨q3, q4⟩ (fun a b c => fr_ok ⟨q1, q2, q3, q4⟩ a b c)
  rw [h0] at hs
  generalize segF r scale B first = G at *
  simp only [List.map_nil, Str.av] at hs hS ⊢
  repeat' first | ((with_reducible (first | refine condD ?_ ?_ | refine condE ?_ ?_ | refine condN ?_ ?_ | refine condI ?_ ?_ | refine condS ?_ ?_)) <;> intro h) | ((with_reducible (first | refine guardD (by with_unfolding_all rfl) ?_ ?_ | refine guardE (by with_unfolding_all rfl) ?_ ?_ | refine guardN (by with_unfolding_all rfl) ?_ ?_ | refine guardI (by with_unfolding_all rfl) ?_ ?_ | refine guardS (by with_unfolding_all rfl) ?_ ?_)) <;> intro h) | ((refine callG hs ?_)) | ((refine callG hS ?_)) | (with_reducible refine And.intro ?_ ?_; omega) | (simp only [done_eq,done_eq',donet_eq,donet_eq',fin_val,fin_tup,fin_agg,fin_ro,res_one,res_more,rv_t,rv_c,rv_l,Z0,Z1,Z2,List.cons.injEq,int_eq,bool_eq,Z3,Z4,Z5,Z6,Z7,Z8,Z9,Za,beq_self_eq_true,bne_self_eq_false,decide_true,decide_false,Zb,toNat_pred,toNat_succ,Zc,cnd_t,cnd_f,grd_tt,grd_u,grd_tf,grd_ft,grd_ff,g_skip,g_ops,g_seq,g_block,g_exit,g_ret,x_c,x_o,x_l,x_b,g_b,g_nil,r_all,o_nil,g_cond,o_guard,o_call,o_callm,o_callt,o_callx,o_callv,lk,ef,o_mv,o_pick,o_bin,o_never,o_eqs,o_eqb,o_un,o_conv,o_load,o_loadr,o_idxr,o_loads,o_fld,o_idx,o_idxs,o_len,o_lens,o_ext,o_nilck,o_slc,o_slcs,o_build,o_minmax,o_mkfn,o_alloc,o_box,o_boxs,o_row,o_rowr,o_mk,o_asg,o_app,o_store,o_stores,o_eqnil,hv,eqAV,ev,view_t,view_c,view_nil,view_fn,look_own,look_box,look_junk,look_val,look_nilsl,look_ro,look_roAt,look_agg,look_tup,look_clo,look_alias,look_ref,look_into,rowOf,cellsOf,argv,vbin,vun,bnd,elemOf,putParts,setAt,zav,ASt.rid,Zd,AV.kill,Ze,Zf,Zg,Value.oneCell',put_at,mk_at,mk_nil,initSt,true_and,and_true,and_self,implies_true,Zh,Zi,Zj,Zk,false_implies,Zl,Zm,Zn,Zo,Zp,Zq,Zr,Zs,Zt,Zu,Zv,Zw,Zx,Zy,Zz,Y0,Y1,reduceCtorEq,if_true,if_false,Y2,↓reduceIte,Y3,Y4,Y5,Y6,Y7,Y8,ne_eq,not_false_eq_true,not_true_eq_false,Y9,Ya,r21_0,r21_1,r21_2,r21_3,r21_4,p21]) | (exfalso; omega)
end Go.Proofs.Ytpecmhdepggnoaa
/- What segments carry, as fragments: the plain law. -/
namespace Go.Proofs.Ytpecmhdepggnoaa
open Go.RowKit
set_option linter.unusedSimpArgs false

theorem segF_none {r : Str} {sc first : Int} {B : List Int} (h : (segF r sc B first).2 ≠ 0) : (segF r sc B first).1 = [] := by
  unfold segF at h ⊢
  split
  · rfl
  split
  · rfl
  split
  · rfl
  split
  · rfl
  split
  · rfl
  split
  · rfl
  · rename_i h1 h2 h3 h4 h5 h6
    rw [if_neg h1, if_neg h2, if_neg h3, if_neg h4, if_neg h5, if_neg h6] at h
    exact absurd rfl h
theorem segmF_none {r : Str} {sc first : Int} {B : List Int} (h : (segmF r sc B first).2 ≠ 0) : (segmF r sc B first).1 = [] := by
  unfold segmF at h ⊢
  split
  · rfl
  · rename_i q
    rw [if_neg q] at h
    exact segF_none h
/-- The fragments of segments. -/
def frOf (l : List Smp) (F : List Nat) : List (Int × List Smp) := (List.range F.length).map fun (k : Nat) => ((1 + (k : Int)), (l.take (segTo l.length F k)).drop (F.getD k 0))
theorem frOf_len (l : List Smp) (F : List Nat) : (frOf l F).length = F.length := by simp [frOf]
theorem frOf_get (l : List Smp) (F : List Nat) (k : Nat) (h : k < (frOf l F).length) : (frOf l F)[k] = ((1 + (k : Int)), (l.take (segTo l.length F k)).drop (F.getD k 0)) := by simp [frOf]
theorem segTo_le {n : Nat} {F : List Nat} (h : ∀ k (h : k < F.length), F[k] < n) (k : Nat) : segTo n F k ≤ n := by
  unfold segTo
  split
  · rename_i q
    rw [List.getD_eq_getElem?_getD, List.getElem?_eq_getElem q]
    exact Nat.le_of_lt (h _ q)
  · exact Nat.le_refl _
theorem smpF_piece {l : List Smp} (h : smpF l = 0) {a b : Nat} (hb : b ≤ l.length) : smpF ((l.take b).drop a) = 0 := by
  by_cases q : a < b
  · obtain ⟨t, rfl⟩ : ∃ t, b = t + 1 := ⟨b - 1, by omega⟩
    exact smpF_part h (by omega) (by omega)
  · have : (l.take b).drop a = [] := by
      apply List.eq_nil_of_length_eq_zero
      rw [List.length_drop, List.length_take]
      omega
    rw [this]
    decide
theorem piece_on {l : List Smp} {a b : Nat} (h : a ≤ b) : l.take a ++ (l.take b).drop a = l.take b := by
  have := List.take_append_drop a (l.take b)
  rw [List.take_take, Nat.min_eq_left h] at this
  exact this
/-- One behind the other, they are all samples. -/
theorem frOf_all {l : List Smp} {F : List Nat} (hn : 0 < F.length) (h0 : F.getD 0 0 = 0) (h1 : ∀ k (h : k < F.length), F[k] < l.length) (h2 : ∀ k (h : k + 1 < F.length), F[k] ≤ F[k + 1]) : catS (frOf l F) = l := by
  have go : ∀ k, k < F.length → catS ((frOf l F).take (k + 1)) = l.take (segTo l.length F k) := by
    intro k
    induction k with
    | zero =>
      intro hk
      rw [catS_take (by rw [frOf_len]; exact hk), frOf_get]
      simp only [h0, List.drop_zero, List.take_zero]
      simp [catS]
    | succ k ih =>
      intro hk
      have e : segTo l.length F k = F.getD (k + 1) 0 := if_pos hk
      have hg : F.getD (k + 1) 0 = F[k + 1] := by rw [List.getD_eq_getElem?_getD, List.getElem?_eq_getElem hk]; rfl
      rw [catS_take (by rw [frOf_len]; exact hk), frOf_get, ih (by omega), e]
      refine piece_on ?_
      unfold segTo
      split
      · rename_i q
        have hg2 : F.getD (k + 1 + 1) 0 = F[k + 1 + 1] := by rw [List.getD_eq_getElem?_getD, List.getElem?_eq_getElem q]; rfl
        rw [hg, hg2]
        exact h2 _ q
      · rw [hg]
        exact Nat.le_of_lt (h1 _ hk)
  have hl := go (F.length - 1) (by omega)
  rw [show F.length - 1 + 1 = (frOf l F).length by rw [frOf_len]; omega, List.take_length] at hl
  rw [hl]
  have e : segTo l.length F (F.length - 1) = l.length := if_neg (by omega)
  rw [e, List.take_length]
/-- What is known of segments that were cut. -/
theorem segm_ok {r : Str} {sc : Int} {B : List Int} (h : (segmF r sc B 1).2 = 0) : StrOK r ∧ ∃ (F : List Nat) (cu : List Int), (segmF r sc B 1).1 = segsL r 1 F cu ∧ 0 < F.length ∧ F.length ≤ 1000 ∧ F.getD 0 0 = 0 ∧ (∀ k (h : k < F.length), F[k] < r.smps.length) ∧ ∀ k (h : k + 1 < F.length), F[k] ≤ F[k + 1] := by
  unfold segmF at h ⊢
  split at h
  · rename_i q; exact absurd h q
  rename_i q
  rw [if_neg q]
  simp only [ne_eq, Decidable.not_not] at q
  have hr := strF_ok q
  refine ⟨hr, ?_⟩
  have hz := segF_zero h
  obtain ⟨h1, h2, h3, _, h5⟩ := segF_ok h
  obtain ⟨F, x1, x2, x3, x4, x5⟩ := fr_ok hr h1 h2 h3
  have hb := rise_0 h2
  have hm : (fstGo r sc B [] []).1.map Int.toNat = F := by
    rw [x1, List.map_map]
    have : (Int.toNat ∘ fun a : Nat => (a : Int)) = id := by funext a; simp
    rw [this, List.map_id]
  rw [hm] at h5
  refine ⟨F, _, h5, by omega, by omega, ?_, x4, x5⟩
  rw [x1] at hz
  cases F with
  | nil => simp at x2; omega
  | cons a t => simpa using hz
end Go.Proofs.Ytpecmhdepggnoaa
/- TopFragmentsCarrySegments: what the segments of a rendition carry as fragments, written and read again, is the rendition. For every input; no condition. -/
namespace Go.Proofs.Ytpecmhdepggnoaa
open Go.RowKit
set_option linter.unusedSimpArgs false

theorem all_strF (x : List AV) (h : HasAll [.str, .int .i64, .bool, .row [.int .i64, .int .i64, .int .i64, .int .i64, .bool]] x) : ∃ s : Str, x = s.av ∧ s.smps.length ≤ maxLen := by
  obtain ⟨v0, r, rfl, h0, h⟩ := all_cons h
  obtain ⟨v1, r, rfl, h1, h⟩ := all_cons h
  obtain ⟨v2, r, rfl, h2, h⟩ := all_cons h
  obtain ⟨v3, r, rfl, h3, h⟩ := all_cons h
  obtain rfl := all_nil h
  obtain ⟨n0, rfl, _⟩ := has_str h0
  obtain ⟨n1, rfl, _⟩ := has_int h1
  obtain ⟨k, rfl⟩ := has_bool h2
  obtain ⟨l, rfl, hl, _⟩ := has_row h3 all_smp
  exact ⟨⟨n0, n1, k, l⟩, rfl, hl⟩
theorem cut_smps (l : List Smp) (a b : Nat) : List.drop a (List.take b (l.map Smp.av)) = ((l.take b).drop a).map Smp.av := by
  rw [← List.map_take, ← List.map_drop]
/-! headend/headendtop.TopFragmentsCarrySegments -/
def r6_0 : List POp := [⟨2, .boxs (.t 0), none⟩,
  ⟨4, .asg (.c (.bool false)), none⟩]
def r6_1 : List POp := [⟨16, .loads 4 (.t 2), none⟩,
  ⟨17, .fld 1 (.t 2), none⟩,
  ⟨18, .load (.t 17), none⟩,
  ⟨19, .mv (.t 1), none⟩,
  ⟨20, .call 21 [.t 16, .t 18, .t 19, .c (.int .i64 1)], none⟩,
  ⟨15, .mv (.t 20), none⟩,
  ⟨21, .ext 0 (.t 15), none⟩,
  ⟨22, .ext 1 (.t 15), none⟩,
  ⟨5, .asg (.t 21), none⟩,
  ⟨6, .mv (.t 22), none⟩]
def r6_2 : List POp := [⟨23, .mv (.t 6), none⟩,
  ⟨24, .bin .neq (.t 23) (.c (.int .i64 0)), none⟩]
def r6_3 : List POp := [⟨25, .mv (.t 5), none⟩,
  ⟨26, .len (.t 25), none⟩,
  ⟨27, .bin .eql (.t 26) (.c (.int .i64 0)), none⟩,
  ⟨28, .mv (.t 27), none⟩,
  ⟨29, .call 12 [], some (28, true)⟩,
  ⟨30, .pick (.t 28) (.t 29) (.c (.bool false)), none⟩,
  ⟨4, .asg (.t 30), none⟩]
def r6_4 : List POp := [⟨7, .asg .nil, none⟩]
def r6_5 : List POp := [⟨31, .mv (.t 5), none⟩,
  ⟨32, .len (.t 31), none⟩,
  ⟨33, .mv (.c (.int .i64 0)), none⟩]
def r6_6 : List POp := [⟨34, .bin .lss (.t 33) (.t 32), none⟩]
def r6_7 : List POp := [⟨35, .idx 7 (.t 31) (.t 33), none⟩,
  ⟨36, .loads 7 (.t 35), none⟩,
  ⟨9, .alloc [.int .i64 0, .int .i64 0, .int .i64 0, .int .i64 0, .int .i64 0, .int .i64 0, .int .i64 0], none⟩,
  ⟨0, .stores 7 (.t 9) (.t 36), none⟩]
def r6_8 : List POp := [⟨38, .fld 0 (.t 9), none⟩,
  ⟨39, .load (.t 38), none⟩,
  ⟨40, .fld 3 (.t 2), none⟩,
  ⟨41, .load (.t 40), none⟩,
  ⟨42, .fld 1 (.t 9), none⟩,
  ⟨43, .load (.t 42), none⟩,
  ⟨44, .fld 2 (.t 9), none⟩,
  ⟨45, .load (.t 44), none⟩,
  ⟨46, .slc (some (.t 43)) (some (.t 45)) 5 (.t 41), none⟩,
  ⟨47, .build [.int .i64 0, .slice none 0 0] [(0, 1, .t 39), (1, 1, .t 46)], none⟩,
  ⟨48, .call 22 [.t 47], none⟩,
  ⟨37, .mv (.t 48), none⟩,
  ⟨49, .ext 0 (.t 37), none⟩,
  ⟨50, .ext 1 (.t 37), none⟩,
  ⟨10, .mv (.t 49), none⟩,
  ⟨11, .mv (.t 50), none⟩]
def r6_9 : List POp := [⟨51, .mv (.t 11), none⟩,
  ⟨52, .bin .neq (.t 51) (.c (.int .i64 0)), none⟩]
def r6_10 : List POp := [⟨4, .asg (.c (.bool false)), none⟩]
def r6_11 : List POp := [⟨54, .mv (.t 10), none⟩,
  ⟨55, .call 23 [.t 54], none⟩,
  ⟨53, .mv (.t 55), none⟩,
  ⟨56, .ext 0 (.t 53), none⟩,
  ⟨57, .ext 1 (.t 53), none⟩,
  ⟨58, .ext 2 (.t 53), none⟩,
  ⟨12, .alloc [.int .i64 0, .slice none 0 0], none⟩,
  ⟨0, .stores 2 (.t 12) (.t 56), none⟩,
  ⟨13, .mv (.t 57), none⟩,
  ⟨11, .mv (.t 58), none⟩]
def r6_12 : List POp := [⟨59, .mv (.t 11), none⟩,
  ⟨60, .bin .neq (.t 59) (.c (.int .i64 0)), none⟩,
  ⟨61, .mv (.t 60), none⟩,
  ⟨62, .mv (.t 13), some (61, false)⟩,
  ⟨63, .bin .neq (.t 62) (.c (.int .i64 0)), some (61, false)⟩,
  ⟨64, .pick (.t 61) (.c (.bool true)) (.t 63), none⟩]
def r6_13 : List POp := [⟨4, .asg (.c (.bool false)), none⟩]
def r6_14 : List POp := [⟨65, .mv (.t 7), none⟩,
  ⟨66, .loads 2 (.t 12), none⟩,
  ⟨67, .row 89 2 [.t 66], none⟩,
  ⟨68, .app 89 2 32 (.t 65) (.t 67), none⟩,
  ⟨7, .asg (.t 68), none⟩]
def r6_15 : List POp := [⟨69, .bin .add (.t 33) (.c (.int .i64 1)), none⟩,
  ⟨33, .mv (.t 69), none⟩]
def r6_16 : List POp := [⟨71, .mv (.t 7), none⟩,
  ⟨72, .call 24 [.t 71], none⟩,
  ⟨70, .mv (.t 72), none⟩,
  ⟨73, .ext 0 (.t 70), none⟩,
  ⟨74, .ext 1 (.t 70), none⟩,
  ⟨14, .asg (.t 73), none⟩,
  ⟨6, .mv (.t 74), none⟩]
def r6_17 : List POp := [⟨75, .mv (.t 6), none⟩,
  ⟨76, .bin .eql (.t 75) (.c (.int .i64 0)), none⟩,
  ⟨77, .mv (.t 76), none⟩,
  ⟨78, .mv (.t 14), some (77, true)⟩,
  ⟨79, .fld 3 (.t 2), some (77, true)⟩,
  ⟨80, .load (.t 79), some (77, true)⟩,
  ⟨81, .call 25 [.t 78, .t 80], some (77, true)⟩,
  ⟨82, .pick (.t 77) (.t 81) (.c (.bool false)), none⟩,
  ⟨83, .mv (.t 82), none⟩,
  ⟨84, .call 12 [], some (83, true)⟩,
  ⟨85, .pick (.t 83) (.t 84) (.c (.bool false)), none⟩,
  ⟨4, .asg (.t 85), none⟩]
def l6_0 : PCode := .seq (.ops r6_6) (.seq (.cond (.t 34) (.skip) (.exit 0)) (.seq (.block 1 (.seq (.ops r6_7) (.seq (.ops r6_8) (.seq (.seq (.ops r6_9) (.cond (.t 52) (.seq (.ops r6_10) (.ret)) (.skip))) (.seq (.ops r6_11) (.seq (.seq (.ops r6_12) (.cond (.t 64) (.seq (.ops r6_13) (.ret)) (.skip))) (.ops r6_14))))))) (.ops r6_15)))
def p6 : PCode := .seq (.ops r6_0) (.seq (.ops r6_1) (.seq (.seq (.ops r6_2) (.cond (.t 24) (.seq (.ops r6_3) (.ret)) (.skip))) (.seq (.ops r6_4) (.seq (.seq (.ops r6_5) (.block 0 (.loop l6_0))) (.seq (.opw r6_16) (.seq (.ops r6_17) (.ret)))))))
theorem ok6 : okFunc Try.prog 6 [.t 4] 2 p6 = true := by kernel_rfl
set_option maxHeartbeats 4000000 in
set_option maxRecDepth 20000 in
theorem frags_d (r : Str) (B : List Int) : CallOK Try.prog 6 [.agg r.av, .ro (B.map oneI)] (.val (.bool true)) := by
  refine call_of mixed ok6 rfl ?_
  have hC := csegments_c r r.scale B 1
  by_cases h0 : (segmF r r.scale B 1).2 = 0
  case neg =>
    rw [segmF_none h0] at hC
    have hb := bne0_t h0
    simp only [List.map_nil] at hC
    generalize (segmF r r.scale B 1).2 = e at *
    repeat' first | ((with_reducible (first | refine condD ?_ ?_ | refine condE ?_ ?_ | refine condN ?_ ?_ | refine condI ?_ ?_ | refine condS ?_ ?_)) <;> intro h) | ((with_reducible (first | refine guardD (by with_unfolding_all rfl) ?_ ?_ | refine guardE (by with_unfolding_all rfl) ?_ ?_ | refine guardN (by with_unfolding_all rfl) ?_ ?_ | refine guardI (by with_unfolding_all rfl) ?_ ?_ | refine guardS (by with_unfolding_all rfl) ?_ ?_)) <;> intro h) | ((refine callG hC ?_)) | ((refine callG alive_c ?_)) | (with_reducible refine And.intro ?_ ?_; omega) | (simp only [done_eq, done_eq', donet_eq, donet_eq', fin_val, fin_tup, fin_agg, fin_ro, res_one, res_more, rv_t, rv_c, rv_l, AV.tup.injEq, AV.agg.injEq, AV.ro.injEq, List.cons.injEq, int_eq, bool_eq, Int.toNat_natCast, Int.reduceToNat, Int.toNat_zero, Int.toNat_one, Int.reduceLE, Int.reduceLT, Int.reduceBEq, Int.reduceBNe, beq_self_eq_true, bne_self_eq_false, decide_true, decide_false,  Int.reduceNeg, toNat_pred, toNat_succ, List.length_map, cnd_t, cnd_f, grd_tt, grd_u, grd_tf, grd_ft, grd_ff, g_skip, g_ops, g_seq, g_block, g_exit, g_ret, x_c, x_o, x_l, x_b, g_b, g_nil, r_all, o_nil, g_cond, o_guard, o_call, o_callm, o_callt, o_callx, o_callv, lk, ef, o_mv, o_pick, o_bin, o_never, o_eqs, o_eqb, o_un, o_conv, o_load, o_loadr, o_idxr, o_loads, o_fld, o_idx, o_idxs, o_len, o_lens, o_ext, o_nilck, o_slc, o_slcs, o_build, o_minmax, o_mkfn, o_alloc, o_box, o_boxs, o_row, o_rowr, o_mk, o_asg, o_app, o_store, o_stores, o_eqnil, hv, eqAV, ev, view_t, view_c, view_nil, view_fn, look_own, look_box, look_junk, look_val, look_nilsl, look_ro, look_roAt, look_agg, look_tup, look_clo, look_alias, look_ref, look_into, rowOf, cellsOf, argv, vbin, vun, bnd, elemOf, putParts, setAt, zav, ASt.rid, ASt.free, AV.kill, AV.isHome, AV.noLoan, AV.cellOK, Value.oneCell', put_at, mk_at, mk_nil, initSt, true_and, and_true, and_self, implies_true, List.map_cons, List.map_nil, List.forall_mem_cons, List.not_mem_nil, false_implies, List.length_cons, List.length_nil, List.getD_cons_zero, List.getD_cons_succ, List.getD_nil, List.drop_succ_cons, List.drop_zero, List.take_succ_cons, List.take_zero, List.set_cons_zero, List.set_cons_succ, List.all_cons, List.all_nil, Bool.and_true, Bool.true_and, Bool.not_true, Bool.not_false, reduceCtorEq, if_true, if_false, Bool.false_eq_true, ↓reduceIte, Nat.reduceEqDiff, Nat.reduceAdd, Nat.reduceSub, Nat.reduceMul, Nat.reduceLeDiff, Nat.reduceLT, ne_eq, not_false_eq_true, not_true_eq_false, Nat.one_ne_zero, Nat.zero_ne_one, r6_0, r6_1, r6_2, r6_3, r6_4, r6_5, r6_6, r6_7, r6_8, r6_9, r6_10, r6_11, r6_12, r6_13, r6_14, r6_15, r6_16, r6_17, p6, hb, Str.av]) | (exfalso; omega)
    all_goals trace_state
  obtain ⟨hr, F, cu, hS, f0, f1, f2, f3, f4⟩ := segm_ok h0
  rw [h0, hS] at hC
  have hsl : (segsL r 1 F cu).length = F.length := by simp [segsL]
  have hget := frOf_get r.smps F
  have hfl := frOf_len r.smps F
  have hcat := frOf_all f0 f2 f3 f4
  generalize frOf r.smps F = fs at *
  have hJ0 : ∀ f ∈ fs, outB f.1 0 4294967295 = false ∧ smpF f.2 = 0 := by
    intro f hf
    obtain ⟨k, hk, rfl⟩ := List.getElem_of_mem hf
    rw [hget]
    refine ⟨?_, smpF_piece hr.1 (segTo_le f3 k)⟩
    simp [outB]
    omega
  have hJn : ∀ i (h : i + 1 < fs.length), fs[i + 1].1 = fs[i].1 + 1 := by
    intro i h
    rw [hget, hget]
    simp only
    push_cast
    omega
  have hJc := join_c fs (by omega) hJ0 hJn (by rw [hcat]; exact hr.1)
  rw [hcat] at hJc
  have hE := eqs_c r.smps (by have := (smpF_0 hr.1).1; omega)
  simp only [Str.av] at hC ⊢
  generalize hG : segsL r 1 F cu = G at *
  repeat' first | ((with_reducible (first | refine condD ?_ ?_ | refine condE ?_ ?_ | refine condN ?_ ?_ | refine condI ?_ ?_ | refine condS ?_ ?_)) <;> intro h) | ((with_reducible (first | refine guardD (by with_unfolding_all rfl) ?_ ?_ | refine guardE (by with_unfolding_all rfl) ?_ ?_ | refine guardN (by with_unfolding_all rfl) ?_ ?_ | refine guardI (by with_unfolding_all rfl) ?_ ?_ | refine guardS (by with_unfolding_all rfl) ?_ ?_)) <;> intro h) | ((refine callG hC ?_)) | (with_reducible refine And.intro ?_ ?_; omega) | (simp only [done_eq, done_eq', donet_eq, donet_eq', fin_val, fin_tup, fin_agg, fin_ro, res_one, res_more, rv_t, rv_c, rv_l, AV.tup.injEq, AV.agg.injEq, AV.ro.injEq, List.cons.injEq, int_eq, bool_eq, Int.toNat_natCast, Int.reduceToNat, Int.toNat_zero, Int.toNat_one, Int.reduceLE, Int.reduceLT, Int.reduceBEq, Int.reduceBNe, beq_self_eq_true, bne_self_eq_false, decide_true, decide_false,  Int.reduceNeg, toNat_pred, toNat_succ, List.length_map, cnd_t, cnd_f, grd_tt, grd_u, grd_tf, grd_ft, grd_ff, g_skip, g_ops, g_seq, g_block, g_exit, g_ret, x_c, x_o, x_l, x_b, g_b, g_nil, r_all, o_nil, g_cond, o_guard, o_call, o_callm, o_callt, o_callx, o_callv, lk, ef, o_mv, o_pick, o_bin, o_never, o_eqs, o_eqb, o_un, o_conv, o_load, o_loadr, o_idxr, o_loads, o_fld, o_idx, o_idxs, o_len, o_lens, o_ext, o_nilck, o_slc, o_slcs, o_build, o_minmax, o_mkfn, o_alloc, o_box, o_boxs, o_row, o_rowr, o_mk, o_asg, o_app, o_store, o_stores, o_eqnil, hv, eqAV, ev, view_t, view_c, view_nil, view_fn, look_own, look_box, look_junk, look_val, look_nilsl, look_ro, look_roAt, look_agg, look_tup, look_clo, look_alias, look_ref, look_into, rowOf, cellsOf, argv, vbin, vun, bnd, elemOf, putParts, setAt, zav, ASt.rid, ASt.free, AV.kill, AV.isHome, AV.noLoan, AV.cellOK, Value.oneCell', put_at, mk_at, mk_nil, initSt, true_and, and_true, and_self, implies_true, List.map_cons, List.map_nil, List.forall_mem_cons, List.not_mem_nil, false_implies, List.length_cons, List.length_nil, List.getD_cons_zero, List.getD_cons_succ, List.getD_nil, List.drop_succ_cons, List.drop_zero, List.take_succ_cons, List.take_zero, List.set_cons_zero, List.set_cons_succ, List.all_cons, List.all_nil, Bool.and_true, Bool.true_and, Bool.not_true, Bool.not_false, reduceCtorEq, if_true, if_false, Bool.false_eq_true, ↓reduceIte, Nat.reduceEqDiff, Nat.reduceAdd, Nat.reduceSub, Nat.reduceMul, Nat.reduceLeDiff, Nat.reduceLT, ne_eq, not_false_eq_true, not_true_eq_false, Nat.one_ne_zero, Nat.zero_ne_one, r6_0, r6_1, r6_2, r6_3, r6_4, r6_5, r6_6, r6_7, r6_8, r6_9, r6_10, r6_11, r6_12, r6_13, r6_14, r6_15, r6_16, r6_17, p6, List.length_map]) | (exfalso; omega)
  refine loopS (fun k : Nat => mk [(2, .box [.val (.string r.name), .val (.int .i64 r.scale), .val (.bool r.sound), .ro (r.smps.map Smp.av)]), (7, .own 89 2 ((fs.take k).map frAV)), (31, .ro (G.map Seg.av)), (32, .val (.int .i64 G.length)), (33, .val (.int .i64 k))]) (fun k => k ≤ G.length) (fun k => G.length - k) 0 (weak_mk ?_) (Nat.zero_le _) ?_
  · simp only [wk_cons, wk_nil, wk1, vint_eq, vbool_eq, AV.val.injEq, done_eq, done_eq', donet_eq, donet_eq', fin_val, fin_tup, fin_agg, fin_ro, res_one, res_more, rv_t, rv_c, rv_l, AV.tup.injEq, AV.agg.injEq, AV.ro.injEq, List.cons.injEq, int_eq, bool_eq, Int.toNat_natCast, Int.reduceToNat, Int.toNat_zero, Int.toNat_one, Int.reduceLE, Int.reduceLT, Int.reduceBEq, Int.reduceBNe, beq_self_eq_true, bne_self_eq_false, decide_true, decide_false,  Int.reduceNeg, toNat_pred, toNat_succ, List.length_map, cnd_t, cnd_f, grd_tt, grd_u, grd_tf, grd_ft, grd_ff, g_skip, g_ops, g_seq, g_block, g_exit, g_ret, x_c, x_o, x_l, x_b, g_b, g_nil, r_all, o_nil, g_cond, o_guard, o_call, o_callm, o_callt, o_callx, o_callv, lk, ef, o_mv, o_pick, o_bin, o_never, o_eqs, o_eqb, o_un, o_conv, o_load, o_loadr, o_idxr, o_loads, o_fld, o_idx, o_idxs, o_len, o_lens, o_ext, o_nilck, o_slc, o_slcs, o_build, o_minmax, o_mkfn, o_alloc, o_box, o_boxs, o_row, o_rowr, o_mk, o_asg, o_app, o_store, o_stores, o_eqnil, hv, eqAV, ev, view_t, view_c, view_nil, view_fn, look_own, look_box, look_junk, look_val, look_nilsl, look_ro, look_roAt, look_agg, look_tup, look_clo, look_alias, look_ref, look_into, rowOf, cellsOf, argv, vbin, vun, bnd, elemOf, putParts, setAt, zav, ASt.rid, ASt.free, AV.kill, AV.isHome, AV.noLoan, AV.cellOK, Value.oneCell', put_at, mk_at, mk_nil, initSt, true_and, and_true, and_self, implies_true, List.map_cons, List.map_nil, List.forall_mem_cons, List.not_mem_nil, false_implies, List.length_cons, List.length_nil, List.getD_cons_zero, List.getD_cons_succ, List.getD_nil, List.drop_succ_cons, List.drop_zero, List.take_succ_cons, List.take_zero, List.set_cons_zero, List.set_cons_succ, List.all_cons, List.all_nil, Bool.and_true, Bool.true_and, Bool.not_true, Bool.not_false, reduceCtorEq, if_true, if_false, Bool.false_eq_true, ↓reduceIte, Nat.reduceEqDiff, Nat.reduceAdd, Nat.reduceSub, Nat.reduceMul, Nat.reduceLeDiff, Nat.reduceLT, ne_eq, not_false_eq_true, not_true_eq_false, Nat.one_ne_zero, Nat.zero_ne_one]
    all_goals first | done | rfl | simp
  rintro J hJ k hk
  simp only [done_eq, done_eq', donet_eq, donet_eq', fin_val, fin_tup, fin_agg, fin_ro, res_one, res_more, rv_t, rv_c, rv_l, AV.tup.injEq, AV.agg.injEq, AV.ro.injEq, List.cons.injEq, int_eq, bool_eq, Int.toNat_natCast, Int.reduceToNat, Int.toNat_zero, Int.toNat_one, Int.reduceLE, Int.reduceLT, Int.reduceBEq, Int.reduceBNe, beq_self_eq_true, bne_self_eq_false, decide_true, decide_false,  Int.reduceNeg, toNat_pred, toNat_succ, List.length_map, cnd_t, cnd_f, grd_tt, grd_u, grd_tf, grd_ft, grd_ff, g_skip, g_ops, g_seq, g_block, g_exit, g_ret, x_c, x_o, x_l, x_b, g_b, g_nil, r_all, o_nil, g_cond, o_guard, o_call, o_callm, o_callt, o_callx, o_callv, lk, ef, o_mv, o_pick, o_bin, o_never, o_eqs, o_eqb, o_un, o_conv, o_load, o_loadr, o_idxr, o_loads, o_fld, o_idx, o_idxs, o_len, o_lens, o_ext, o_nilck, o_slc, o_slcs, o_build, o_minmax, o_mkfn, o_alloc, o_box, o_boxs, o_row, o_rowr, o_mk, o_asg, o_app, o_store, o_stores, o_eqnil, hv, eqAV, ev, view_t, view_c, view_nil, view_fn, look_own, look_box, look_junk, look_val, look_nilsl, look_ro, look_roAt, look_agg, look_tup, look_clo, look_alias, look_ref, look_into, rowOf, cellsOf, argv, vbin, vun, bnd, elemOf, putParts, setAt, zav, ASt.rid, ASt.free, AV.kill, AV.isHome, AV.noLoan, AV.cellOK, Value.oneCell', put_at, mk_at, mk_nil, initSt, true_and, and_true, and_self, implies_true, List.map_cons, List.map_nil, List.forall_mem_cons, List.not_mem_nil, false_implies, List.length_cons, List.length_nil, List.getD_cons_zero, List.getD_cons_succ, List.getD_nil, List.drop_succ_cons, List.drop_zero, List.take_succ_cons, List.take_zero, List.set_cons_zero, List.set_cons_succ, List.all_cons, List.all_nil, Bool.and_true, Bool.true_and, Bool.not_true, Bool.not_false, reduceCtorEq, if_true, if_false, Bool.false_eq_true, ↓reduceIte, Nat.reduceEqDiff, Nat.reduceAdd, Nat.reduceSub, Nat.reduceMul, Nat.reduceLeDiff, Nat.reduceLT, ne_eq, not_false_eq_true, not_true_eq_false, Nat.one_ne_zero, Nat.zero_ne_one, r6_0, r6_1, r6_2, r6_3, r6_4, r6_5, r6_6, r6_7, r6_8, r6_9, r6_10, r6_11, r6_12, r6_13, r6_14, r6_15, r6_16, r6_17, p6, l6_0]
  refine condD (fun h => ?_) (fun h => ?_)
  · have hlt : k < G.length := by omega
    have hltF : k < F.length := by omega
    have hlf : k < fs.length := by omega
    have hw := i_add1 k (by omega)
    have hki : (k : Int) < G.length := by omega
    have gK := getD_map (f := Seg.av) (d := []) hlt
    have hg : G[k] = segAt r 1 F cu k := by subst hG; simp [segsL]
    have hf : fs[k] = ((1 + (k : Int)), (r.smps.take (segTo r.smps.length F k)).drop (F.getD k 0)) := hget k hlf
    obtain ⟨o1, o2⟩ := hJ0 _ (List.getElem_mem hlf)
    have hnum : (segAt r 1 F cu k).number = 1 + (k : Int) := by unfold segAt; exact wrap_in (by omega) (by omega)
    have hfr : (segAt r 1 F cu k).frm = ((F.getD k 0 : Nat) : Int) := rfl
    have hto : (segAt r 1 F cu k).to = ((segTo r.smps.length F k : Nat) : Int) := rfl
    simp only [Seg.av, hg, hnum, hfr, hto] at gK
    have hnx : fs.take (k + 1) = fs.take k ++ [fs[k]] := List.take_succ_eq_append_getElem hlf
    have hle : segTo r.smps.length F k ≤ r.smps.length := segTo_le f3 k
    have hab : F.getD k 0 ≤ segTo r.smps.length F k := by
      have e0 : F.getD k 0 = F[k] := by rw [List.getD_eq_getElem?_getD, List.getElem?_eq_getElem hltF]; rfl
      unfold segTo
      split
      · rename_i q
        have e1 : F.getD (k + 1) 0 = F[k + 1] := by rw [List.getD_eq_getElem?_getD, List.getElem?_eq_getElem q]; rfl
        rw [e0, e1]; exact f4 k q
      · rw [e0]; exact Nat.le_of_lt (f3 k hltF)
    rw [hf] at o1 o2
    simp only at o1 o2
    have hcut := cut_smps r.smps (F.getD k 0) (segTo r.smps.length F k)
    have hfb := frag_c (1 + (k : Int)) ((r.smps.take (segTo r.smps.length F k)).drop (F.getD k 0))
    rw [show frgF (1 + (k : Int)) ((r.smps.take (segTo r.smps.length F k)).drop (F.getD k 0)) = (fragB (1 + (k : Int)) ((r.smps.take (segTo r.smps.length F k)).drop (F.getD k 0)), 0) by rw [frgF, if_neg (show ¬ outB (1 + (k : Int)) 0 4294967295 = true by rw [o1]; decide), if_neg (fun z => z o2)]] at hfb
    have hrd := rfrag_c (1 + (k : Int)) ((r.smps.take (segTo r.smps.length F k)).drop (F.getD k 0)) o1 o2
    have happ : (fs.take k).map frAV ++ [[.val (.int .i64 (1 + (k : Int))), .ro (((r.smps.take (segTo r.smps.length F k)).drop (F.getD k 0)).map Smp.av)]] = (fs.take (k + 1)).map frAV := by
      rw [hnx, List.map_append, hf]; rfl
    have htl : (fs.take k).length = k := by rw [List.length_take]; omega
    have hall := smps_len5 r.smps
    clear hf hnx
    generalize (r.smps.take (segTo r.smps.length F k)).drop (F.getD k 0) = P at *
    generalize fragB (1 + (k : Int)) P = X at *
    generalize segAt r 1 F cu k = sg at *
    generalize F.getD k 0 = a at *
    generalize segTo r.smps.length F k = b at *
    have hai : (0 : Int) ≤ (a : Int) := by omega
    have hbi : (0 : Int) ≤ (b : Int) := by omega
    repeat' first | ((with_reducible (first | refine condD ?_ ?_ | refine condE ?_ ?_ | refine condN ?_ ?_ | refine condI ?_ ?_ | refine condS ?_ ?_)) <;> intro h) | ((with_reducible (first | refine guardD (by with_unfolding_all rfl) ?_ ?_ | refine guardE (by with_unfolding_all rfl) ?_ ?_ | refine guardN (by with_unfolding_all rfl) ?_ ?_ | refine guardI (by with_unfolding_all rfl) ?_ ?_ | refine guardS (by with_unfolding_all rfl) ?_ ?_)) <;> intro h) | ((refine callG hfb ?_)) | ((refine callG hrd ?_)) | (with_reducible refine And.intro ?_ ?_; omega) | (simp only [done_eq, done_eq', donet_eq, donet_eq', fin_val, fin_tup, fin_agg, fin_ro, res_one, res_more, rv_t, rv_c, rv_l, AV.tup.injEq, AV.agg.injEq, AV.ro.injEq, List.cons.injEq, int_eq, bool_eq, Int.toNat_natCast, Int.reduceToNat, Int.toNat_zero, Int.toNat_one, Int.reduceLE, Int.reduceLT, Int.reduceBEq, Int.reduceBNe, beq_self_eq_true, bne_self_eq_false, decide_true, decide_false,  Int.reduceNeg, toNat_pred, toNat_succ, List.length_map, cnd_t, cnd_f, grd_tt, grd_u, grd_tf, grd_ft, grd_ff, g_skip, g_ops, g_seq, g_block, g_exit, g_ret, x_c, x_o, x_l, x_b, g_b, g_nil, r_all, o_nil, g_cond, o_guard, o_call, o_callm, o_callt, o_callx, o_callv, lk, ef, o_mv, o_pick, o_bin, o_never, o_eqs, o_eqb, o_un, o_conv, o_load, o_loadr, o_idxr, o_loads, o_fld, o_idx, o_idxs, o_len, o_lens, o_ext, o_nilck, o_slc, o_slcs, o_build, o_minmax, o_mkfn, o_alloc, o_box, o_boxs, o_row, o_rowr, o_mk, o_asg, o_app, o_store, o_stores, o_eqnil, hv, eqAV, ev, view_t, view_c, view_nil, view_fn, look_own, look_box, look_junk, look_val, look_nilsl, look_ro, look_roAt, look_agg, look_tup, look_clo, look_alias, look_ref, look_into, rowOf, cellsOf, argv, vbin, vun, bnd, elemOf, putParts, setAt, zav, ASt.rid, ASt.free, AV.kill, AV.isHome, AV.noLoan, AV.cellOK, Value.oneCell', put_at, mk_at, mk_nil, initSt, true_and, and_true, and_self, implies_true, List.map_cons, List.map_nil, List.forall_mem_cons, List.not_mem_nil, false_implies, List.length_cons, List.length_nil, List.getD_cons_zero, List.getD_cons_succ, List.getD_nil, List.drop_succ_cons, List.drop_zero, List.take_succ_cons, List.take_zero, List.set_cons_zero, List.set_cons_succ, List.all_cons, List.all_nil, Bool.and_true, Bool.true_and, Bool.not_true, Bool.not_false, reduceCtorEq, if_true, if_false, Bool.false_eq_true, ↓reduceIte, Nat.reduceEqDiff, Nat.reduceAdd, Nat.reduceSub, Nat.reduceMul, Nat.reduceLeDiff, Nat.reduceLT, ne_eq, not_false_eq_true, not_true_eq_false, Nat.one_ne_zero, Nat.zero_ne_one, r6_0, r6_1, r6_2, r6_3, r6_4, r6_5, r6_6, r6_7, r6_8, r6_9, r6_10, r6_11, r6_12, r6_13, r6_14, r6_15, r6_16, r6_17, p6, l6_0, gK, hki, hw, hcut, happ, hall, hai, hbi, hab, hle, htl, List.length_map]) | (exfalso; omega)
    all_goals first | omega | exact again hJ (k + 1) (weak_mk (by simp only [wk_cons, wk_nil, wk1, vint_eq, vbool_eq, AV.val.injEq, done_eq, done_eq', donet_eq, donet_eq', fin_val, fin_tup, fin_agg, fin_ro, res_one, res_more, rv_t, rv_c, rv_l, AV.tup.injEq, AV.agg.injEq, AV.ro.injEq, List.cons.injEq, int_eq, bool_eq, Int.toNat_natCast, Int.reduceToNat, Int.toNat_zero, Int.toNat_one, Int.reduceLE, Int.reduceLT, Int.reduceBEq, Int.reduceBNe, beq_self_eq_true, bne_self_eq_false, decide_true, decide_false,  Int.reduceNeg, toNat_pred, toNat_succ, List.length_map, cnd_t, cnd_f, grd_tt, grd_u, grd_tf, grd_ft, grd_ff, g_skip, g_ops, g_seq, g_block, g_exit, g_ret, x_c, x_o, x_l, x_b, g_b, g_nil, r_all, o_nil, g_cond, o_guard, o_call, o_callm, o_callt, o_callx, o_callv, lk, ef, o_mv, o_pick, o_bin, o_never, o_eqs, o_eqb, o_un, o_conv, o_load, o_loadr, o_idxr, o_loads, o_fld, o_idx, o_idxs, o_len, o_lens, o_ext, o_nilck, o_slc, o_slcs, o_build, o_minmax, o_mkfn, o_alloc, o_box, o_boxs, o_row, o_rowr, o_mk, o_asg, o_app, o_store, o_stores, o_eqnil, hv, eqAV, ev, view_t, view_c, view_nil, view_fn, look_own, look_box, look_junk, look_val, look_nilsl, look_ro, look_roAt, look_agg, look_tup, look_clo, look_alias, look_ref, look_into, rowOf, cellsOf, argv, vbin, vun, bnd, elemOf, putParts, setAt, zav, ASt.rid, ASt.free, AV.kill, AV.isHome, AV.noLoan, AV.cellOK, Value.oneCell', put_at, mk_at, mk_nil, initSt, true_and, and_true, and_self, implies_true, List.map_cons, List.map_nil, List.forall_mem_cons, List.not_mem_nil, false_implies, List.length_cons, List.length_nil, List.getD_cons_zero, List.getD_cons_succ, List.getD_nil, List.drop_succ_cons, List.drop_zero, List.take_succ_cons, List.take_zero, List.set_cons_zero, List.set_cons_succ, List.all_cons, List.all_nil, Bool.and_true, Bool.true_and, Bool.not_true, Bool.not_false, reduceCtorEq, if_true, if_false, Bool.false_eq_true, ↓reduceIte, Nat.reduceEqDiff, Nat.reduceAdd, Nat.reduceSub, Nat.reduceMul, Nat.reduceLeDiff, Nat.reduceLT, ne_eq, not_false_eq_true, not_true_eq_false, Nat.one_ne_zero, Nat.zero_ne_one]; all_goals first | done | rfl)) (by omega) (by omega) | trace_state
  · have hke : k = G.length := by omega
    subst hke
    rw [show fs.take G.length = fs by rw [List.take_of_length_le]; omega]
    clear hJ
    repeat' first | ((with_reducible (first | refine condD ?_ ?_ | refine condE ?_ ?_ | refine condN ?_ ?_ | refine condI ?_ ?_ | refine condS ?_ ?_)) <;> intro h) | ((with_reducible (first | refine guardD (by with_unfolding_all rfl) ?_ ?_ | refine guardE (by with_unfolding_all rfl) ?_ ?_ | refine guardN (by with_unfolding_all rfl) ?_ ?_ | refine guardI (by with_unfolding_all rfl) ?_ ?_ | refine guardS (by with_unfolding_all rfl) ?_ ?_)) <;> intro h) | ((refine callG hJc ?_)) | ((refine callG hE ?_)) | ((refine callG alive_c ?_)) | ((refine opwG (weak_mk (l := [(2, .box [.val (.string r.name), .val (.int .i64 r.scale), .val (.bool r.sound), .ro (r.smps.map Smp.av)]), (7, .ro (fs.map frAV))]) (by simp only [wk_cons, wk_nil, wk1, vint_eq, vbool_eq, AV.val.injEq, done_eq, done_eq', donet_eq, donet_eq', fin_val, fin_tup, fin_agg, fin_ro, res_one, res_more, rv_t, rv_c, rv_l, AV.tup.injEq, AV.agg.injEq, AV.ro.injEq, List.cons.injEq, int_eq, bool_eq, Int.toNat_natCast, Int.reduceToNat, Int.toNat_zero, Int.toNat_one, Int.reduceLE, Int.reduceLT, Int.reduceBEq, Int.reduceBNe, beq_self_eq_true, bne_self_eq_false, decide_true, decide_false,  Int.reduceNeg, toNat_pred, toNat_succ, List.length_map, cnd_t, cnd_f, grd_tt, grd_u, grd_tf, grd_ft, grd_ff, g_skip, g_ops, g_seq, g_block, g_exit, g_ret, x_c, x_o, x_l, x_b, g_b, g_nil, r_all, o_nil, g_cond, o_guard, o_call, o_callm, o_callt, o_callx, o_callv, lk, ef, o_mv, o_pick, o_bin, o_never, o_eqs, o_eqb, o_un, o_conv, o_load, o_loadr, o_idxr, o_loads, o_fld, o_idx, o_idxs, o_len, o_lens, o_ext, o_nilck, o_slc, o_slcs, o_build, o_minmax, o_mkfn, o_alloc, o_box, o_boxs, o_row, o_rowr, o_mk, o_asg, o_app, o_store, o_stores, o_eqnil, hv, eqAV, ev, view_t, view_c, view_nil, view_fn, look_own, look_box, look_junk, look_val, look_nilsl, look_ro, look_roAt, look_agg, look_tup, look_clo, look_alias, look_ref, look_into, rowOf, cellsOf, argv, vbin, vun, bnd, elemOf, putParts, setAt, zav, ASt.rid, ASt.free, AV.kill, AV.isHome, AV.noLoan, AV.cellOK, Value.oneCell', put_at, mk_at, mk_nil, initSt, true_and, and_true, and_self, implies_true, List.map_cons, List.map_nil, List.forall_mem_cons, List.not_mem_nil, false_implies, List.length_cons, List.length_nil, List.getD_cons_zero, List.getD_cons_succ, List.getD_nil, List.drop_succ_cons, List.drop_zero, List.take_succ_cons, List.take_zero, List.set_cons_zero, List.set_cons_succ, List.all_cons, List.all_nil, Bool.and_true, Bool.true_and, Bool.not_true, Bool.not_false, reduceCtorEq, if_true, if_false, Bool.false_eq_true, ↓reduceIte, Nat.reduceEqDiff, Nat.reduceAdd, Nat.reduceSub, Nat.reduceMul, Nat.reduceLeDiff, Nat.reduceLT, ne_eq, not_false_eq_true, not_true_eq_false, Nat.one_ne_zero, Nat.zero_ne_one])) ?_)) | (with_reducible refine And.intro ?_ ?_; omega) | (simp only [done_eq, done_eq', donet_eq, donet_eq', fin_val, fin_tup, fin_agg, fin_ro, res_one, res_more, rv_t, rv_c, rv_l, AV.tup.injEq, AV.agg.injEq, AV.ro.injEq, List.cons.injEq, int_eq, bool_eq, Int.toNat_natCast, Int.reduceToNat, Int.toNat_zero, Int.toNat_one, Int.reduceLE, Int.reduceLT, Int.reduceBEq, Int.reduceBNe, beq_self_eq_true, bne_self_eq_false, decide_true, decide_false,  Int.reduceNeg, toNat_pred, toNat_succ, List.length_map, cnd_t, cnd_f, grd_tt, grd_u, grd_tf, grd_ft, grd_ff, g_skip, g_ops, g_seq, g_block, g_exit, g_ret, x_c, x_o, x_l, x_b, g_b, g_nil, r_all, o_nil, g_cond, o_guard, o_call, o_callm, o_callt, o_callx, o_callv, lk, ef, o_mv, o_pick, o_bin, o_never, o_eqs, o_eqb, o_un, o_conv, o_load, o_loadr, o_idxr, o_loads, o_fld, o_idx, o_idxs, o_len, o_lens, o_ext, o_nilck, o_slc, o_slcs, o_build, o_minmax, o_mkfn, o_alloc, o_box, o_boxs, o_row, o_rowr, o_mk, o_asg, o_app, o_store, o_stores, o_eqnil, hv, eqAV, ev, view_t, view_c, view_nil, view_fn, look_own, look_box, look_junk, look_val, look_nilsl, look_ro, look_roAt, look_agg, look_tup, look_clo, look_alias, look_ref, look_into, rowOf, cellsOf, argv, vbin, vun, bnd, elemOf, putParts, setAt, zav, ASt.rid, ASt.free, AV.kill, AV.isHome, AV.noLoan, AV.cellOK, Value.oneCell', put_at, mk_at, mk_nil, initSt, true_and, and_true, and_self, implies_true, List.map_cons, List.map_nil, List.forall_mem_cons, List.not_mem_nil, false_implies, List.length_cons, List.length_nil, List.getD_cons_zero, List.getD_cons_succ, List.getD_nil, List.drop_succ_cons, List.drop_zero, List.take_succ_cons, List.take_zero, List.set_cons_zero, List.set_cons_succ, List.all_cons, List.all_nil, Bool.and_true, Bool.true_and, Bool.not_true, Bool.not_false, reduceCtorEq, if_true, if_false, Bool.false_eq_true, ↓reduceIte, Nat.reduceEqDiff, Nat.reduceAdd, Nat.reduceSub, Nat.reduceMul, Nat.reduceLeDiff, Nat.reduceLT, ne_eq, not_false_eq_true, not_true_eq_false, Nat.one_ne_zero, Nat.zero_ne_one, r6_0, r6_1, r6_2, r6_3, r6_4, r6_5, r6_6, r6_7, r6_8, r6_9, r6_10, r6_11, r6_12, r6_13, r6_14, r6_15, r6_16, r6_17, p6, l6_0]) | (exfalso; omega)
    all_goals trace_state
theorem fragscarry_c : ∀ avs, HasArgs [.agg [.str, .int .i64, .bool, .row [.int .i64, .int .i64, .int .i64, .int .i64, .bool]], .one (.row [.int .i64])] avs → CallOK Try.prog 6 avs (.val (.bool true)) := by
  intro avs h
  obtain ⟨v0, r, rfl, h0, h⟩ := args_cons h
  obtain ⟨v1, r, rfl, h1, h⟩ := args_cons h
  obtain rfl := args_nil h
  obtain ⟨x0, rfl, h0⟩ := h0
  obtain ⟨n0, rfl, hb0⟩ := all_strF x0 h0
  obtain ⟨n1, rfl, hl1, hb1⟩ := has_row h1 all_int
  exact frags_d n0 n1

/-! ### The row -/
open Go.ChangeShapes Go.WideShapes Go.ChangeAt
set_option maxRecDepth 100000 in
theorem fragscarry_lifted (os : Os) (started : os.Started) (H : Type) (enc : TypeId × Value → H) :
    ReturnsInHanded {} Try.checked os 6 .any (Rows.topFragmentsCarrySegmentsSpec.pre6 enc Try.prog Try.f6 Rows.topFragmentsCarrySegmentsRow.domain false) (Rows.topFragmentsCarrySegmentsSpec.post enc Try.prog Try.f6 false true false false) := by
  refine returnsInHanded_of_change (C := Try.checked) own_knob started (by kernel_rfl) Try.func6
    (ChangeSpec.witness6 (enc := enc) (C := Try.checked) false ⟨#[], #[.agg #[.string ⟨#[]⟩, .int .i64 0, .bool false, .slice none 0 0], .slice none 0 0], []⟩ 8 (by kernel_rfl) (by kernel_rfl) (by kernel_rfl) (by kernel_rfl)) ?_
  intro W base args ds gs before hval hW _ _
  refine law_step rfl (by kernel_rfl) (fun ds h => ?_) ?_ hval hW ?_
  · match ds, h with | [a, b], _ => exact ⟨rfl, rfl, rfl⟩
  · rw [Try.params6]
    intro t ht
    simp only [List.mem_cons, List.not_mem_nil, or_false] at ht
    repeat' (first | (rcases ht with rfl | ht) | subst ht)
    all_goals exact ⟨by kernel_rfl, of_decide_eq_true (by kernel_rfl)⟩
  · rw [Try.params6]
    intro hin
    exact law_dm rfl (ss := [.agg [.str, .int .i64, .bool, .row [.int .i64, .int .i64, .int .i64, .int .i64, .bool]], .one (.row [.int .i64])]) (by kernel_rfl) hin fragscarry_c

theorem fragscarry_holds : Rows.TopFragmentsCarrySegmentsSaid :=
  OpenClaim.holds_of_wide 6 Try.f6 rfl rfl rfl rfl rfl rfl rfl ⟨rfl, rfl, rfl, rfl, rfl⟩ rfl rfl rfl rfl rfl (by kernel_rfl) Try.func6 (by kernel_rfl)
    (of_decide_eq_true (by kernel_rfl)) (by unfold Func.isWrapper; first | (rw [if_pos (by decide +kernel)]; kernel_rfl) | (rw [if_neg (by decide +kernel)]; exact ⟨rfl, rfl⟩))
    (fun os started H enc _ => fragscarry_lifted os started H enc)

end Go.Proofs.Ytpecmhdepggnoaa
