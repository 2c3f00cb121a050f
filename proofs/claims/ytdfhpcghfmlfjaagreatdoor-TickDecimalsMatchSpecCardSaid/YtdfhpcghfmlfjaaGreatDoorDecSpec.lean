/- TickDecimalsMatchSpec: Decimal and ReadDecimal are as specified, with all errors. For every input; no condition beyond the card's tied tables. -/
import Derived.Test.YtdfhpcghfmlfjaaGreatDoorKRefDecR
namespace Go.Proofs.YtdfhpcghfmlfjaaGreatDoor
open Go.RowKit Go.Lib
open _root_.List renaming not_mem_nil → Z0
set_option linter.unusedSimpArgs false

/-! headend/headendlaw1.TickDecimalsMatchSpec -/
def r3_0 : List POp := [⟨10, .asg (.c (.bool false)), none⟩]
def r3_1 : List POp := [⟨20, .mv (.t 0), none⟩,
  ⟨21, .mv (.t 1), none⟩,
  ⟨22, .mv (.t 2), none⟩,
  ⟨23, .call 4 [.t 20, .t 21, .t 22], none⟩,
  ⟨19, .mv (.t 23), none⟩,
  ⟨24, .ext 0 (.t 19), none⟩,
  ⟨25, .ext 1 (.t 19), none⟩,
  ⟨11, .mv (.t 24), none⟩,
  ⟨12, .mv (.t 25), none⟩]
def r3_2 : List POp := [⟨27, .mv (.t 0), none⟩,
  ⟨28, .mv (.t 1), none⟩,
  ⟨29, .mv (.t 2), none⟩,
  ⟨30, .call 5 [.t 27, .t 28, .t 29], none⟩,
  ⟨26, .mv (.t 30), none⟩,
  ⟨31, .ext 0 (.t 26), none⟩,
  ⟨32, .ext 1 (.t 26), none⟩,
  ⟨13, .mv (.t 31), none⟩,
  ⟨14, .mv (.t 32), none⟩]
def r3_3 : List POp := [⟨34, .mv (.t 3), none⟩,
  ⟨35, .mv (.t 1), none⟩,
  ⟨36, .mv (.t 4), none⟩,
  ⟨37, .call 6 [.t 34, .t 35, .t 36], none⟩,
  ⟨33, .mv (.t 37), none⟩,
  ⟨38, .ext 0 (.t 33), none⟩,
  ⟨39, .ext 1 (.t 33), none⟩,
  ⟨15, .mv (.t 38), none⟩,
  ⟨16, .mv (.t 39), none⟩]
def r3_4 : List POp := [⟨41, .mv (.t 3), none⟩,
  ⟨42, .mv (.t 1), none⟩,
  ⟨43, .mv (.t 4), none⟩,
  ⟨44, .call 7 [.t 41, .t 42, .t 43], none⟩,
  ⟨40, .mv (.t 44), none⟩,
  ⟨45, .ext 0 (.t 40), none⟩,
  ⟨46, .ext 1 (.t 40), none⟩,
  ⟨17, .mv (.t 45), none⟩,
  ⟨18, .mv (.t 46), none⟩]
def r3_5 : List POp := [⟨47, .mv (.t 11), none⟩,
  ⟨48, .mv (.t 13), none⟩,
  ⟨49, .bin .eql (.t 47) (.t 48), none⟩,
  ⟨50, .mv (.t 49), none⟩,
  ⟨51, .mv (.t 12), some (50, true)⟩,
  ⟨52, .mv (.t 14), some (50, true)⟩,
  ⟨53, .bin .eql (.t 51) (.t 52), some (50, true)⟩,
  ⟨54, .pick (.t 50) (.t 53) (.c (.bool false)), none⟩,
  ⟨55, .mv (.t 54), none⟩,
  ⟨56, .mv (.t 15), some (55, true)⟩,
  ⟨57, .mv (.t 17), some (55, true)⟩,
  ⟨58, .bin .eql (.t 56) (.t 57), some (55, true)⟩,
  ⟨59, .pick (.t 55) (.t 58) (.c (.bool false)), none⟩,
  ⟨60, .mv (.t 59), none⟩,
  ⟨61, .mv (.t 16), some (60, true)⟩,
  ⟨62, .mv (.t 18), some (60, true)⟩,
  ⟨63, .bin .eql (.t 61) (.t 62), some (60, true)⟩,
  ⟨64, .pick (.t 60) (.t 63) (.c (.bool false)), none⟩,
  ⟨65, .mv (.t 64), none⟩,
  ⟨66, .call 8 [], some (65, true)⟩,
  ⟨67, .pick (.t 65) (.t 66) (.c (.bool false)), none⟩,
  ⟨10, .asg (.t 67), none⟩]
def p3 : PCode := .seq (.ops r3_0) (.seq (.ops r3_1) (.seq (.ops r3_2) (.seq (.ops r3_3) (.seq (.ops r3_4) (.seq (.ops r3_5) (.ret))))))
theorem ok3 : okFunc Tryz.prog 3 [.t 10] 5 p3 = true := by kernel_rfl
set_option maxRecDepth 20000 in
set_option maxHeartbeats 2000000 in
theorem decspec_d (n sc more : Int) (text : ByteArray) (way : Int) (hsz : text.size ≤ maxLen) : CallOK Tryz.prog 3 [.val (.int .i64 n), .val (.int .i64 sc), .val (.int .i64 more), .val (.string text), .val (.int .i64 way)] (.val (.bool true)) := by
  refine call_of mixed ok3 rfl ?_
  obtain ⟨l, rfl⟩ := BS_of text
  rw [BS_size] at hsz
  have hl : l.length ≤ 9223372036854775807 := Nat.le_trans hsz (by decide)
  have hA := decimal_g n sc more
  have hB := rdecimal_c n sc more
  have hR := rdec_g l sc way hl
  have hQ := rrdec_g l sc way hl
  generalize decF n sc more = A at *
  generalize rdF l sc way = R at *
  obtain ⟨A1, A2⟩ := A
  obtain ⟨R1, R2⟩ := R
  simp only at hA hB hR hQ
  generalize BS A1 = A3 at *
  generalize BS l = L at *
  have e1 : (A3.toList == A3.toList) = true := by simp
  have e2 : (A2 == A2) = true := by simp
  have e3 : (R1 == R1) = true := by simp
  have e4 : (R2 == R2) = true := by simp
  repeat' first | ((with_reducible (first | refine condD ?_ ?_ | refine condE ?_ ?_ | refine condN ?_ ?_ | refine condI ?_ ?_ | refine condS ?_ ?_)) <;> intro h) | ((with_reducible (first | refine guardD (by with_unfolding_all rfl) ?_ ?_ | refine guardE (by with_unfolding_all rfl) ?_ ?_ | refine guardN (by with_unfolding_all rfl) ?_ ?_ | refine guardI (by with_unfolding_all rfl) ?_ ?_ | refine guardS (by with_unfolding_all rfl) ?_ ?_)) <;> intro h) | ((refine callG hA ?_)) | ((refine callG hB ?_)) | ((refine callG hR ?_)) | ((refine callG hQ ?_)) | ((refine callG awake1_c ?_)) | (with_reducible refine And.intro ?_ ?_; omega) | (simp only [done_eq,done_eq',donet_eq,donet_eq',fin_val,fin_tup,fin_agg,fin_ro,res_one,res_more,rv_t,rv_c,rv_l,AV.tup.injEq,AV.agg.injEq,AV.ro.injEq,List.cons.injEq,int_eq,bool_eq,Int.toNat_natCast,Int.reduceToNat,Int.toNat_zero,Int.toNat_one,Int.reduceLE,Int.reduceLT,Int.reduceBEq,Int.reduceBNe,beq_self_eq_true,bne_self_eq_false,decide_true,decide_false,Int.reduceNeg,toNat_pred,toNat_succ,List.length_map,cnd_t,cnd_f,grd_tt,grd_u,grd_tf,grd_ft,grd_ff,g_skip,g_ops,g_seq,g_block,g_exit,g_ret,x_c,x_o,x_l,x_b,g_b,g_nil,r_all,o_nil,g_cond,o_guard,o_call,lk,ef,o_mv,o_pick,o_bin,o_ext,o_asg,hv,eqAV,ev,view_t,view_c,view_nil,view_fn,look_own,look_box,look_junk,look_val,look_nilsl,look_ro,look_roAt,look_agg,look_tup,look_clo,look_alias,look_ref,look_into,rowOf,cellsOf,argv,vbin,vun,bnd,elemOf,putParts,setAt,zav,ASt.rid,ASt.free,AV.kill,AV.isHome,AV.noLoan,AV.cellOK,Value.oneCell',put_at,mk_at,mk_nil,initSt,true_and,and_true,and_self,implies_true,List.map_cons,List.map_nil,List.forall_mem_cons,Z0,false_implies,List.length_cons,List.length_nil,List.getD_cons_zero,List.getD_cons_succ,List.getD_nil,List.drop_succ_cons,List.drop_zero,List.take_succ_cons,List.take_zero,List.set_cons_zero,List.set_cons_succ,List.all_cons,List.all_nil,Bool.and_true,Bool.true_and,Bool.not_true,Bool.not_false,reduceCtorEq,if_true,if_false,Bool.false_eq_true,↓reduceIte,Nat.reduceEqDiff,Nat.reduceAdd,Nat.reduceSub,Nat.reduceMul,Nat.reduceLeDiff,Nat.reduceLT,ne_eq,not_false_eq_true,not_true_eq_false,Nat.one_ne_zero,Nat.zero_ne_one,r3_0,r3_1,r3_2,r3_3,r3_4,r3_5,p3,e1,e2,e3,e4]) | (exfalso; omega)
theorem decspec_c : ∀ avs, HasArgs [.one (.int .i64), .one (.int .i64), .one (.int .i64), .one (.str), .one (.int .i64)] avs → CallOK Tryz.prog 3 avs (.val (.bool true)) := by
  intro avs h
  obtain ⟨v0, r, rfl, h0, h⟩ := args_cons h
  obtain ⟨v1, r, rfl, h1, h⟩ := args_cons h
  obtain ⟨v2, r, rfl, h2, h⟩ := args_cons h
  obtain ⟨v3, r, rfl, h3, h⟩ := args_cons h
  obtain ⟨v4, r, rfl, h4, h⟩ := args_cons h
  obtain rfl := args_nil h
  obtain ⟨n0, rfl, hb0⟩ := has_int h0
  obtain ⟨n1, rfl, hb1⟩ := has_int h1
  obtain ⟨n2, rfl, hb2⟩ := has_int h2
  obtain ⟨n3, rfl, hb3⟩ := has_str h3
  obtain ⟨n4, rfl, hb4⟩ := has_int h4
  exact decspec_d n0 n1 n2 n3 n4 hb3

/-! ### The row -/
open Go.ChangeShapes Go.WideShapes Go.ChangeAt

set_option maxRecDepth 100000 in
theorem decspec_door (os : Os) (args : Array Value) : laidMetH Tryz.prog Rows.tickDecimalsMatchSpecRow.laid ((World.doorLaid Tryz.prog 400 os).forCall (fun _ _ => 0) ⟨#[], args, []⟩).memory :=
  laidMetH_of_parts3 (fuel := 8) (laidMet_of_run' 8 (by kernel_rfl) (by kernel_rfl)) (by kernel_rfl) (by kernel_rfl)
set_option maxRecDepth 100000 in
theorem decspec_lifted (os : Os) (started : os.Started) (H : Type) (enc : TypeId × Value → H) :
    ReturnsInHanded {} Tryz.checked os 3 .any (fun w args => (Rows.tickDecimalsMatchSpecSpec.pre enc Tryz.prog Tryz.f3 [] false w args ∧ laidMetH Tryz.prog Rows.tickDecimalsMatchSpecRow.laid w) ∧ sizedMet enc Tryz.prog Tryz.f3 (OpenSpec.ofChange Rows.tickDecimalsMatchSpecSpec) false w args) (Rows.tickDecimalsMatchSpecSpec.post enc Tryz.prog Tryz.f3 false true false false) := by
  refine returnsInHanded_of_change_and (C := Tryz.checked) (X := fun w _ => laidMetH Tryz.prog Rows.tickDecimalsMatchSpecRow.laid w) (fun _ _ _ hh h => h.of_heap hh) own_knob started (by kernel_rfl) Tryz.func3
    (ChangeSpec.witness_shaped (enc := enc) (C := Tryz.checked) (os := os) (X := fun w _ => laidMetH Tryz.prog Rows.tickDecimalsMatchSpecRow.laid w) false (World.doorLaid Tryz.prog 400 os) #[.int .i64 0, .int .i64 0, .int .i64 0, .string ⟨#[]⟩, .int .i64 0] 8 rfl (World.shaped_of_RefB (by kernel_rfl) (by kernel_rfl)) (by kernel_rfl) (by kernel_rfl) (by kernel_rfl) (decspec_door os _)) ?_
  intro W base args ds gs before hval hW _ _ hL _
  refine law_step rfl (by kernel_rfl) (fun ds h => ?_) ?_ hval hW ?_
  · match ds, h with | [a, b, c, d, e], _ => exact ⟨rfl, rfl, rfl⟩
  · rw [Tryz.params3]
    intro t ht
    simp only [List.mem_cons, List.not_mem_nil, or_false] at ht
    repeat' (first | (rcases ht with rfl | ht) | subst ht)
    all_goals exact ⟨by kernel_rfl, of_decide_eq_true (by kernel_rfl)⟩
  · rw [Tryz.params3]
    intro hin
    exact law_dmT (ss := [.one (.int .i64), .one (.int .i64), .one (.int .i64), .one (.str), .one (.int .i64)]) (by kernel_rfl) hin (tab_of_laid 2 (by kernel_rfl) (by kernel_rfl) hL) decspec_c
theorem decspec_row : Rows.TickDecimalsMatchSpecSaid :=
  OpenClaim.holds_of_wide 3 Tryz.f3 rfl rfl rfl rfl rfl rfl rfl ⟨rfl, rfl, rfl, rfl, rfl⟩ rfl rfl rfl rfl rfl (by kernel_rfl) Tryz.func3 (by kernel_rfl)
    (of_decide_eq_true (by kernel_rfl)) (by unfold Func.isWrapper; first | (rw [if_pos (by decide +kernel)]; kernel_rfl) | (rw [if_neg (by decide +kernel)]; exact ⟨rfl, rfl⟩))
    (fun os started H enc _ => decspec_lifted os started H enc)

/-- The card: what the row lists is tied to the program's text. -/
theorem decspec_holds : Rows.TickDecimalsMatchSpecCardSaid :=
  Claim7.holds_tied_plain_at .later [] [.data, .data, .data, .sentinel, .sentinel] true (true, "26ffacd4c5a8871459b4d4a1a0c0cd9eae402e0afa6482c7c3107a0471fd827c") true
    decspec_row (fun _ h => by cases h) (by kernel_rfl) (fun _ h => by cases h) tickDecimalsMatchSpec_row_tie rfl ⟨rfl, rfl⟩ (by kernel_rfl) rfl
    (fun f fn hf hfn => by
      obtain rfl : f = 3 := Option.some.inj ((show Tryz.prog.funcNamed "headend/headendlaw1.TickDecimalsMatchSpec" = some 3 by kernel_rfl).symm.trans hf) |>.symm
      obtain rfl : fn = Tryz.f3 := (Option.some.inj (Tryz.func3.symm.trans hfn)).symm
      exact ⟨by kernel_rfl, fun j t ht => by
        rw [Tryz.params3] at ht
        have hm := Array.mem_of_getElem? ht
        have hall : ([3, 3, 3, 9, 3].all fun u => !Tryz.prog.wantsStandIn u) = true := by kernel_rfl
        have hm : t ∈ [3, 3, 3, 9, 3] := by simpa using hm
        exact (show Tryz.prog.wantsStandIn t = false by simpa using List.all_eq_true.1 hall t hm)⟩)
    (by kernel_rfl)

end Go.Proofs.YtdfhpcghfmlfjaaGreatDoor
