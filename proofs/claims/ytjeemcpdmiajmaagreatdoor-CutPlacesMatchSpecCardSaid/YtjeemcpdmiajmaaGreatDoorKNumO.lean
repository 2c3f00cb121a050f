/- The reference's numbers: headendref1's Times, Over, by the machine on data. -/
import Derived.Test.YtjeemcpdmiajmaaGreatDoorKNumG
namespace Go.Proofs.YtjeemcpdmiajmaaGreatDoor
open Go.RowKit
open Go.Proofs.YtjeemcpdmiajmaaGreatDoor.AV.tup renaming injEq → Z0
open Go.Proofs.YtjeemcpdmiajmaaGreatDoor.AV.agg renaming injEq → Z1
open Go.Proofs.YtjeemcpdmiajmaaGreatDoor.AV.ro renaming injEq → Z2
open _root_.Int renaming toNat_natCast → Z3, reduceToNat → Z4, toNat_zero → Z5, toNat_one → Z6, reduceLE → Z7, reduceLT → Z8, reduceBEq → Z9, reduceBNe → Za, reduceNeg → Zb
open _root_.List renaming length_map → Zc, map_cons → Zh, map_nil → Zi, forall_mem_cons → Zj, not_mem_nil → Zk, length_cons → Zl, length_nil → Zm, getD_cons_zero → Zn, getD_cons_succ → Zo, getD_nil → Zp, drop_succ_cons → Zq, drop_zero → Zr, take_succ_cons → Zs, take_zero → Zt, set_cons_zero → Zu, set_cons_succ → Zv, all_cons → Zw, all_nil → Zx
open Go.Proofs.YtjeemcpdmiajmaaGreatDoor.ASt renaming free → Zd
open Go.Proofs.YtjeemcpdmiajmaaGreatDoor.AV renaming isHome → Ze, noLoan → Zf, cellOK → Zg
open _root_.Bool renaming and_true → Zy, true_and → Zz, not_true → Y0, not_false → Y1, false_eq_true → Y2
open _root_.Nat renaming reduceEqDiff → Y3, reduceAdd → Y4, reduceSub → Y5, reduceMul → Y6, reduceLeDiff → Y7, reduceLT → Y8, one_ne_zero → Y9, zero_ne_one → Ya
set_option linter.unusedSimpArgs false

theorem lm_prod {a b : Nat} : (lm (a * b)).length ≤ (lm a).length + (lm b).length := by
  refine lm_len ?_
  rw [Nat.pow_add]
  exact Nat.mul_lt_mul'' (lm_below a) (lm_below b)
/-! headend/headendref1.Over -/
def r37_0 : List POp := [⟨2, .boxs (.t 0), none⟩,
  ⟨3, .boxs (.t 1), none⟩,
  ⟨4, .alloc [.bool false, .slice none 0 0, .slice none 0 0], none⟩]
def r37_1 : List POp := [⟨5, .fld 0 (.t 2), none⟩,
  ⟨6, .load (.t 5), none⟩,
  ⟨7, .fld 0 (.t 3), none⟩,
  ⟨8, .load (.t 7), none⟩,
  ⟨9, .eqb true (.t 6) (.t 8), none⟩,
  ⟨10, .fld 1 (.t 2), none⟩,
  ⟨11, .load (.t 10), none⟩,
  ⟨12, .fld 2 (.t 3), none⟩,
  ⟨13, .load (.t 12), none⟩,
  ⟨14, .call 58 [.t 11, .t 13], none⟩,
  ⟨15, .fld 2 (.t 2), none⟩,
  ⟨16, .load (.t 15), none⟩,
  ⟨17, .fld 1 (.t 3), none⟩,
  ⟨18, .load (.t 17), none⟩,
  ⟨19, .call 58 [.t 16, .t 18], none⟩,
  ⟨20, .call 59 [.t 9, .t 14, .t 19], none⟩,
  ⟨0, .stores 3 (.t 4) (.t 20), none⟩]
def p37 : PCode := .seq (.ops r37_0) (.seq (.ops r37_1) (.ret))
theorem ok37 : okFunc Tryz.prog 37 [.c 4 3] 2 p37 = true := by kernel_rfl
theorem over_c (n1 : Bool) (t1 b1 : Nat) (n2 : Bool) (t2 b2 : Nat) (h1 : 0 < b1) (h2 : 0 < t2) (k1 : (lm t1).length ≤ 400) (k2 : (lm b1).length ≤ 400) (k3 : (lm t2).length ≤ 400) (k4 : (lm b2).length ≤ 400) :
    CallOK Tryz.prog 37 [.agg (numAV n1 t1 b1), .agg (numAV n2 t2 b2)] (.agg (numAV ((!(n1 == n2)) && decide (0 < t1 * b2)) (t1 * b2 / Nat.gcd (t1 * b2) (b1 * t2)) (b1 * t2 / Nat.gcd (t1 * b2) (b1 * t2)))) := by
  refine call_of mixed ok37 rfl ?_
  have hM1 := times_c t1 b2 (by omega) (by omega)
  have hM2 := times_c b1 t2 (by omega) (by omega)
  have hL := lowest_c (!(n1 == n2)) (t1 * b2) (b1 * t2) (Nat.mul_pos h1 h2) (Nat.le_trans lm_prod (by omega)) (Nat.le_trans lm_prod (by omega))
  obtain ⟨R, hR⟩ : ∃ R, R = numAV ((!(n1 == n2)) && decide (0 < t1 * b2)) (t1 * b2 / Nat.gcd (t1 * b2) (b1 * t2)) (b1 * t2 / Nat.gcd (t1 * b2) (b1 * t2)) := ⟨_, rfl⟩
  have hRl : ∃ u v w, R = [u, v, w] := ⟨_, _, _, hR⟩
  rw [← hR] at hL ⊢
  obtain ⟨u, v, w, rfl⟩ := hRl
  clear hR
  unfold numAV topAV
  have z2 : ¬ t2 = 0 := by omega
  generalize t1 * b2 = tt at *
  generalize b1 * t2 = bb at *
  by_cases z1 : t1 = 0
  · rw [if_pos z1, if_neg z2]
    rw [z1, lm_0, List.map_nil] at hM1
    repeat' first | ((with_reducible (first | refine condD ?_ ?_ | refine condE ?_ ?_ | refine condN ?_ ?_ | refine condI ?_ ?_ | refine condS ?_ ?_)) <;> intro h) | ((refine callG hM1 ?_)) | ((refine callG hM2 ?_)) | ((refine callG hL ?_)) | (with_reducible refine And.intro ?_ ?_; omega) | (simp only [done_eq,done_eq',donet_eq,donet_eq',fin_val,fin_tup,fin_agg,fin_ro,res_one,res_more,rv_t,rv_c,rv_l,Z0,Z1,Z2,List.cons.injEq,int_eq,bool_eq,Z3,Z4,Z5,Z6,Z7,Z8,Z9,Za,beq_self_eq_true,bne_self_eq_false,decide_true,decide_false,Zb,toNat_pred,toNat_succ,Zc,cnd_t,cnd_f,grd_tt,grd_u,grd_tf,grd_ft,grd_ff,g_skip,g_ops,g_seq,g_block,g_exit,g_ret,x_c,x_o,x_l,x_b,g_b,g_nil,r_all,o_nil,g_cond,o_guard,o_call,lk,ef,o_eqb,o_load,o_fld,o_alloc,o_boxs,o_stores,hv,eqAV,ev,view_t,view_c,view_nil,view_fn,look_own,look_box,look_junk,look_val,look_nilsl,look_ro,look_roAt,look_agg,look_tup,look_clo,look_alias,look_ref,look_into,rowOf,cellsOf,argv,vbin,vun,bnd,elemOf,putParts,setAt,zav,ASt.rid,Zd,AV.kill,Ze,Zf,Zg,Value.oneCell',put_at,mk_at,mk_nil,initSt,true_and,and_true,and_self,implies_true,Zh,Zi,Zj,Zk,false_implies,Zl,Zm,Zn,Zo,Zp,Zq,Zr,Zs,Zt,Zu,Zv,Zw,Zx,Zy,Zz,Y0,Y1,reduceCtorEq,if_true,if_false,Y2,↓reduceIte,Y3,Y4,Y5,Y6,Y7,Y8,ne_eq,not_false_eq_true,not_true_eq_false,Y9,Ya,r37_0,r37_1,p37]) | (exfalso; omega)
  · rw [if_neg z1, if_neg z2]
    repeat' first | ((with_reducible (first | refine condD ?_ ?_ | refine condE ?_ ?_ | refine condN ?_ ?_ | refine condI ?_ ?_ | refine condS ?_ ?_)) <;> intro h) | ((refine callG hM1 ?_)) | ((refine callG hM2 ?_)) | ((refine callG hL ?_)) | (with_reducible refine And.intro ?_ ?_; omega) | (simp only [done_eq,done_eq',donet_eq,donet_eq',fin_val,fin_tup,fin_agg,fin_ro,res_one,res_more,rv_t,rv_c,rv_l,Z0,Z1,Z2,List.cons.injEq,int_eq,bool_eq,Z3,Z4,Z5,Z6,Z7,Z8,Z9,Za,beq_self_eq_true,bne_self_eq_false,decide_true,decide_false,Zb,toNat_pred,toNat_succ,Zc,cnd_t,cnd_f,grd_tt,grd_u,grd_tf,grd_ft,grd_ff,g_skip,g_ops,g_seq,g_block,g_exit,g_ret,x_c,x_o,x_l,x_b,g_b,g_nil,r_all,o_nil,g_cond,o_guard,o_call,lk,ef,o_eqb,o_load,o_fld,o_alloc,o_boxs,o_stores,hv,eqAV,ev,view_t,view_c,view_nil,view_fn,look_own,look_box,look_junk,look_val,look_nilsl,look_ro,look_roAt,look_agg,look_tup,look_clo,look_alias,look_ref,look_into,rowOf,cellsOf,argv,vbin,vun,bnd,elemOf,putParts,setAt,zav,ASt.rid,Zd,AV.kill,Ze,Zf,Zg,Value.oneCell',put_at,mk_at,mk_nil,initSt,true_and,and_true,and_self,implies_true,Zh,Zi,Zj,Zk,false_implies,Zl,Zm,Zn,Zo,Zp,Zq,Zr,Zs,Zt,Zu,Zv,Zw,Zx,Zy,Zz,Y0,Y1,reduceCtorEq,if_true,if_false,Y2,↓reduceIte,Y3,Y4,Y5,Y6,Y7,Y8,ne_eq,not_false_eq_true,not_true_eq_false,Y9,Ya,r37_0,r37_1,p37]) | (exfalso; omega)
end Go.Proofs.YtjeemcpdmiajmaaGreatDoor
