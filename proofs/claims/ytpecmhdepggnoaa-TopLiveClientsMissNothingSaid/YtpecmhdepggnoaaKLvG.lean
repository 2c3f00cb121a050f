/- Live lists: slices.Clone of strings, copyEntry, by the machine on data. -/
import Derived.Test.YtpecmhdepggnoaaKLvF
namespace Go.Proofs.Ytpecmhdepggnoaa
open Go.RowKit
open Go.Proofs.Ytpecmhdepggnoaa.AV.tup renaming injEq → Z0
open Go.Proofs.Ytpecmhdepggnoaa.AV.agg renaming injEq → Z1
open Go.Proofs.Ytpecmhdepggnoaa.AV.ro renaming injEq → Z2
open _root_.Int renaming toNat_natCast → Z3, reduceToNat → Z4, toNat_zero → Z5, toNat_one → Z6, reduceLE → Z7, reduceLT → Z8, reduceBEq → Z9, reduceBNe → Za, reduceNeg → Zb
open _root_.List renaming length_map → Zc, map_cons → Zi, map_nil → Zj, forall_mem_cons → Zk, not_mem_nil → Zl, length_cons → Zm, length_nil → Zn, getD_cons_zero → Zo, getD_cons_succ → Zp, getD_nil → Zq, drop_succ_cons → Zr, drop_zero → Zs, take_succ_cons → Zt, take_zero → Zu, set_cons_zero → Zv, set_cons_succ → Zw, all_cons → Zx, all_nil → Zy
open Go.Proofs.Ytpecmhdepggnoaa.ASt renaming hold → Zd, free → Ze
open Go.Proofs.Ytpecmhdepggnoaa.AV renaming isHome → Zf, noLoan → Zg, cellOK → Zh
open _root_.Bool renaming and_true → Zz, true_and → Y0, not_true → Y1, not_false → Y2, false_eq_true → Y3
open _root_.Nat renaming reduceEqDiff → Y4, reduceBNe → Y5, reduceAdd → Y6, reduceSub → Y7, reduceMul → Y8, reduceLeDiff → Y9, reduceLT → Ya, one_ne_zero → Yb, zero_ne_one → Yc
set_option linter.unusedSimpArgs false
--@short

/-! slices.Clone[[]string,string] -/
def r56_0 : List POp := [⟨2, .asg .nil, none⟩]
def r56_1 : List POp := [⟨3, .mv (.t 0), none⟩,
  ⟨4, .eqnil false (.t 3), none⟩]
def r56_2 : List POp := [⟨2, .asg .nil, none⟩]
def r56_3 : List POp := [⟨5, .row 9 1 [], none⟩,
  ⟨6, .mv (.t 0), none⟩,
  ⟨7, .app 9 1 16 (.t 5) (.t 6), none⟩,
  ⟨2, .asg (.t 7), none⟩]
def p56 : PCode := .seq (.ops r56_0) (.seq (.seq (.ops r56_1) (.cond (.t 4) (.seq (.ops r56_2) (.ret)) (.skip))) (.seq (.ops r56_3) (.ret)))
theorem ok56 : okFunc Try.prog 56 [.t 2] 1 p56 = true := by kernel_rfl
theorem clones_c (l : List ByteArray) (hl : l.length * 16 ≤ 140737488355328) : CallOK Try.prog 56 [.ro (l.map oneS)] (.ro (l.map oneS)) := by
  refine call_of mixed ok56 rfl ?_
  repeat' first | ((with_reducible (first | refine condD ?_ ?_ | refine condE ?_ ?_ | refine condN ?_ ?_ | refine condI ?_ ?_ | refine condS ?_ ?_)) <;> intro h) | ((with_reducible (first | refine guardD (by with_unfolding_all rfl) ?_ ?_ | refine guardE (by with_unfolding_all rfl) ?_ ?_ | refine guardN (by with_unfolding_all rfl) ?_ ?_ | refine guardI (by with_unfolding_all rfl) ?_ ?_ | refine guardS (by with_unfolding_all rfl) ?_ ?_)) <;> intro h) | ((with_reducible refine nilG rfl (fun b hb => ?_))) | (with_reducible refine And.intro ?_ ?_; omega) | (simp only [done_eq,done_eq',donet_eq,donet_eq',fin_val,fin_tup,fin_agg,fin_ro,res_one,res_more,rv_t,rv_c,rv_l,Z0,Z1,Z2,List.cons.injEq,int_eq,bool_eq,Z3,Z4,Z5,Z6,Z7,Z8,Z9,Za,beq_self_eq_true,bne_self_eq_false,decide_true,decide_false,Zb,toNat_pred,toNat_succ,Zc,cnd_t,cnd_f,grd_tt,grd_u,grd_tf,grd_ft,grd_ff,g_skip,g_ops,g_seq,g_block,g_exit,g_ret,x_c,x_o,x_l,x_b,g_b,g_nil,r_all,o_nil,g_cond,o_guard,o_call,o_callm,o_callt,o_callx,o_callv,o_callc,o_callh,o_apph,noav_alias,noav_nil,lk,ef,o_mv,o_pick,o_bin,o_never,o_eqs,o_eqb,o_un,o_conv,o_load,o_loadr,o_idxr,o_loads,o_loadsr,o_fld,o_idx,o_idxs,o_len,o_lens,o_ext,o_nilck,o_slc,o_slcs,o_build,o_minmax,o_mkfn,o_mkfnr,o_alloc,o_box,o_boxs,o_row,o_rowr,o_mk,o_asg,o_app,o_appa,o_store,o_stores,o_eqnil,hv,eqAV,ev,view_t,view_c,view_nil,view_fn,look_own,look_box,look_junk,look_val,look_nilsl,look_ro,look_roAt,look_agg,look_tup,look_clo,look_alias,look_ref,look_into,look_fnv,look_held,rowOf,cellsOf,argv,vbin,vun,bnd,elemOf,putParts,setAt,zav,ASt.rid,Zd,Ze,AV.kill,Zf,Zg,Zh,Value.oneCell',put_at,mk_at,mk_nil,initSt,true_and,and_true,and_self,implies_true,Zi,Zj,Zk,Zl,false_implies,Zm,Zn,Zo,Zp,Zq,Zr,Zs,Zt,Zu,Zv,Zw,Zx,Zy,Zz,Y0,Y1,Y2,reduceCtorEq,if_true,if_false,Y3,↓reduceIte,Y4,Y5,Y6,Y7,Y8,Y9,Ya,ne_eq,not_false_eq_true,not_true_eq_false,Yb,Yc,r56_0,r56_1,r56_2,r56_3,p56,List.length_map]) | (exfalso; omega)
  · rcases l with _ | ⟨x, r⟩
    · rfl
    · have := hb (by simp)
      rw [this] at h; cases h
  · refine ⟨⟨fun y hy => ?_, by omega, by omega⟩, rfl⟩
    obtain ⟨z, _, rfl⟩ := List.mem_map.1 hy
    rfl
/-! headend/list.copyEntry -/
def r30_0 : List POp := [⟨1, .boxs (.t 0), none⟩,
  ⟨2, .alloc [.string ⟨#[]⟩, .int .i64 0, .bool false, .int .i64 0, .string ⟨#[]⟩, .bool false, .slice none 0 0], none⟩]
def r30_1 : List POp := [⟨3, .fld 6 (.t 1), none⟩,
  ⟨4, .load (.t 3), none⟩,
  ⟨5, .call 56 [.t 4], none⟩,
  ⟨6, .fld 6 (.t 1), none⟩,
  ⟨0, .store (.t 6) (.t 5), none⟩]
def r30_2 : List POp := [⟨7, .loads 7 (.t 1), none⟩,
  ⟨0, .stores 7 (.t 2) (.t 7), none⟩]
def p30 : PCode := .seq (.ops r30_0) (.seq (.ops r30_1) (.seq (.ops r30_2) (.ret)))
theorem ok30 : okFunc Try.prog 30 [.c 2 7] 1 p30 = true := by kernel_rfl
theorem copye_c (e : LE) (he : e.extra.length * 16 ≤ 140737488355328) : CallOK Try.prog 30 [.agg e.av] (.agg e.av) := by
  refine call_of mixed ok30 rfl ?_
  have c1 := clones_c e.extra he
  repeat' first | ((with_reducible (first | refine condD ?_ ?_ | refine condE ?_ ?_ | refine condN ?_ ?_ | refine condI ?_ ?_ | refine condS ?_ ?_)) <;> intro h) | ((with_reducible (first | refine guardD (by with_unfolding_all rfl) ?_ ?_ | refine guardE (by with_unfolding_all rfl) ?_ ?_ | refine guardN (by with_unfolding_all rfl) ?_ ?_ | refine guardI (by with_unfolding_all rfl) ?_ ?_ | refine guardS (by with_unfolding_all rfl) ?_ ?_)) <;> intro h) | ((refine callG c1 ?_)) | (with_reducible refine And.intro ?_ ?_; omega) | (simp only [done_eq,done_eq',donet_eq,donet_eq',fin_val,fin_tup,fin_agg,fin_ro,res_one,res_more,rv_t,rv_c,rv_l,Z0,Z1,Z2,List.cons.injEq,int_eq,bool_eq,Z3,Z4,Z5,Z6,Z7,Z8,Z9,Za,beq_self_eq_true,bne_self_eq_false,decide_true,decide_false,Zb,toNat_pred,toNat_succ,Zc,cnd_t,cnd_f,grd_tt,grd_u,grd_tf,grd_ft,grd_ff,g_skip,g_ops,g_seq,g_block,g_exit,g_ret,x_c,x_o,x_l,x_b,g_b,g_nil,r_all,o_nil,g_cond,o_guard,o_call,o_callm,o_callt,o_callx,o_callv,o_callc,o_callh,o_apph,noav_alias,noav_nil,lk,ef,o_mv,o_pick,o_bin,o_never,o_eqs,o_eqb,o_un,o_conv,o_load,o_loadr,o_idxr,o_loads,o_loadsr,o_fld,o_idx,o_idxs,o_len,o_lens,o_ext,o_nilck,o_slc,o_slcs,o_build,o_minmax,o_mkfn,o_mkfnr,o_alloc,o_box,o_boxs,o_row,o_rowr,o_mk,o_asg,o_app,o_appa,o_store,o_stores,o_eqnil,hv,eqAV,ev,view_t,view_c,view_nil,view_fn,look_own,look_box,look_junk,look_val,look_nilsl,look_ro,look_roAt,look_agg,look_tup,look_clo,look_alias,look_ref,look_into,look_fnv,look_held,rowOf,cellsOf,argv,vbin,vun,bnd,elemOf,putParts,setAt,zav,ASt.rid,Zd,Ze,AV.kill,Zf,Zg,Zh,Value.oneCell',put_at,mk_at,mk_nil,initSt,true_and,and_true,and_self,implies_true,Zi,Zj,Zk,Zl,false_implies,Zm,Zn,Zo,Zp,Zq,Zr,Zs,Zt,Zu,Zv,Zw,Zx,Zy,Zz,Y0,Y1,Y2,reduceCtorEq,if_true,if_false,Y3,↓reduceIte,Y4,Y5,Y6,Y7,Y8,Y9,Ya,ne_eq,not_false_eq_true,not_true_eq_false,Yb,Yc,r30_0,r30_1,r30_2,p30,LE.av]) | (exfalso; omega)
  all_goals first | done | rfl | trace_state
end Go.Proofs.Ytpecmhdepggnoaa
