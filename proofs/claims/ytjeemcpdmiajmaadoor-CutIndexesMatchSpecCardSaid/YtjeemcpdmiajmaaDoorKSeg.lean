/- Segments: cut.boundary, cut.rowFault, by the machine on data. -/
import Derived.Test.YtjeemcpdmiajmaaDoorKDo
namespace Go.Proofs.YtjeemcpdmiajmaaDoor
open Go.RowKit
set_option linter.unusedSimpArgs false

structure Seg where
  number : Int
  frm : Int
  to : Int
  beg : Int
  len : Int
  bytes : Int
  lead : Int
def Seg.av (s : Seg) : List AV := [.val (.int .i64 s.number), .val (.int .i64 s.frm), .val (.int .i64 s.to), .val (.int .i64 s.beg), .val (.int .i64 s.len), .val (.int .i64 s.bytes), .val (.int .i64 s.lead)]
def Seg.bnd (s : Seg) : Int := s.beg + s.lead
def Seg.bw (s : Seg) : Int := IntKind.i64.wrap s.bnd

/-! headend/cut.boundary -/
def r12_0 : List POp := [⟨1, .boxs (.t 0), none⟩,
  ⟨2, .asg (.c (.int .i64 0)), none⟩]
def r12_1 : List POp := [⟨3, .fld 3 (.t 1), none⟩,
  ⟨4, .load (.t 3), none⟩,
  ⟨5, .fld 6 (.t 1), none⟩,
  ⟨6, .load (.t 5), none⟩,
  ⟨7, .bin .add (.t 4) (.t 6), none⟩,
  ⟨2, .asg (.t 7), none⟩]
def p12 : PCode := .seq (.ops r12_0) (.seq (.ops r12_1) (.ret))
theorem ok12 : okFunc Tryd.prog 12 [.t 2] 1 p12 = true := by kernel_rfl
theorem boundary_c (s : Seg) : CallOK Tryd.prog 12 [.agg s.av] (.val (.int .i64 s.bw)) := by
  refine call_of mixed ok12 rfl ?_
  simp only [done_eq, done_eq', donet_eq, donet_eq', fin_val, fin_tup, fin_agg, fin_ro, res_one, res_more, rv_t, rv_c, rv_l, AV.tup.injEq, AV.agg.injEq, AV.ro.injEq, List.cons.injEq, int_eq, bool_eq, Int.toNat_natCast, Int.reduceToNat, Int.toNat_zero, Int.toNat_one, Int.reduceLE, Int.reduceLT, Int.reduceBEq, Int.reduceBNe, beq_self_eq_true, bne_self_eq_false, decide_true, decide_false,  Int.reduceNeg, toNat_pred, toNat_succ, List.length_map, cnd_t, cnd_f, grd_tt, grd_u, grd_tf, grd_ft, grd_ff, g_skip, g_ops, g_seq, g_block, g_exit, g_ret, x_c, x_o, x_l, x_b, g_b, g_nil, r_all, o_nil, g_cond, o_guard, o_call, o_callm, o_callt, o_callx, o_callv, lk, ef, o_mv, o_pick, o_bin, o_never, o_eqs, o_eqb, o_un, o_conv, o_load, o_loadr, o_idxr, o_loads, o_fld, o_idx, o_idxs, o_len, o_lens, o_ext, o_nilck, o_slc, o_slcs, o_build, o_minmax, o_mkfn, o_alloc, o_box, o_boxs, o_row, o_rowr, o_mk, o_asg, o_app, o_store, o_stores, o_eqnil, hv, eqAV, ev, view_t, view_c, view_nil, view_fn, look_own, look_box, look_junk, look_val, look_nilsl, look_ro, look_roAt, look_agg, look_tup, look_clo, look_alias, look_ref, look_into, rowOf, cellsOf, argv, vbin, vun, bnd, elemOf, putParts, setAt, zav, ASt.rid, ASt.free, AV.kill, AV.isHome, AV.noLoan, AV.cellOK, Value.oneCell', put_at, mk_at, mk_nil, initSt, true_and, and_true, and_self, implies_true, List.map_cons, List.map_nil, List.forall_mem_cons, List.not_mem_nil, false_implies, List.length_cons, List.length_nil, List.getD_cons_zero, List.getD_cons_succ, List.getD_nil, List.drop_succ_cons, List.drop_zero, List.take_succ_cons, List.take_zero, List.set_cons_zero, List.set_cons_succ, List.all_cons, List.all_nil, Bool.and_true, Bool.true_and, Bool.not_true, Bool.not_false, reduceCtorEq, if_true, if_false, Bool.false_eq_true, ↓reduceIte, Nat.reduceEqDiff, Nat.reduceAdd, Nat.reduceSub, Nat.reduceMul, Nat.reduceLeDiff, Nat.reduceLT, ne_eq, not_false_eq_true, not_true_eq_false, Nat.one_ne_zero, Nat.zero_ne_one, r12_0, r12_1, p12, Seg.av]
  rfl

def badSeg (s : Seg) : Bool := noTime s.beg || noTime s.lead || noTime s.len || noTime (IntKind.i64.wrap (s.bw + s.len))
def rowGo : Option Int → List Seg → Int
  | _, [] => 0
  | p, s :: r => if badSeg s then 1 else if (p.any fun q => decide (s.bw < q)) || decide (s.len < 0) then 8 else rowGo (some s.bw) r
def row (l : List Seg) : Int := if 1000 < l.length then 2 else rowGo none l
theorem row_len {l : List Seg} (h : row l = 0) : l.length ≤ 1000 := by
  unfold row at h; split at h
  · omega
  · omega
def prvB (l : List Seg) (k : Nat) : Option Int := if k = 0 then none else l[k-1]?.map Seg.bw
theorem prvB_succ (l : List Seg) (k : Nat) (h : k < l.length) : prvB l (k + 1) = some l[k].bw := by simp [prvB, h]

end Go.Proofs.YtjeemcpdmiajmaaDoor
