/- Samples out of times of presentation: sample.Reordered, by the machine on data. -/
import Derived.Test.YtpecmhdepggnoaaKEdges
import Derived.Test.YtpecmhdepggnoaaKMoved
import Derived.Test.YtpecmhdepggnoaaKRefSmp
namespace Go.Proofs.Ytpecmhdepggnoaa
open Go.RowKit
open Go.Proofs.Ytpecmhdepggnoaa.ASt renaming free → Z0
set_option linter.unusedSimpArgs false

/-! slices.Clone[[]int,int] -/
def r68_0 : List POp := [⟨2, .asg .nil, none⟩]
def r68_1 : List POp := [⟨3, .mv (.t 0), none⟩,
  ⟨4, .eqnil false (.t 3), none⟩]
def r68_2 : List POp := [⟨2, .asg .nil, none⟩]
def r68_3 : List POp := [⟨5, .row 3 1 [], none⟩,
  ⟨6, .mv (.t 0), none⟩,
  ⟨7, .app 3 1 8 (.t 5) (.t 6), none⟩,
  ⟨2, .asg (.t 7), none⟩]
def p68 : PCode := .seq (.ops r68_0) (.seq (.seq (.ops r68_1) (.cond (.t 4) (.seq (.ops r68_2) (.ret)) (.skip))) (.seq (.ops r68_3) (.ret)))
theorem ok68 : okFunc Try.prog 68 [.t 2] 1 p68 = true := by kernel_rfl
theorem clonei_c (l : List Int) (hl : l.length ≤ 1000000000) : CallOK Try.prog 68 [.ro (l.map oneI)] (.own 3 1 (l.map oneI)) := by
  refine call_of mixed ok68 rfl ?_
  repeat' first | ((with_reducible (first | refine condD ?_ ?_ | refine condE ?_ ?_ | refine condN ?_ ?_ | refine condI ?_ ?_ | refine condS ?_ ?_)) <;> intro h) | ((with_reducible refine nilG rfl (fun b hb => ?_))) | (with_reducible refine And.intro ?_ ?_; omega) | (simp only [done_eq,done_eq',donet_eq,donet_eq',fin_val,fin_tup,fin_agg,fin_ro,res_one,res_more,rv_t,rv_c,rv_l,AV.tup.injEq,AV.agg.injEq,AV.ro.injEq,List.cons.injEq,int_eq,bool_eq,Int.toNat_natCast,Int.reduceToNat,Int.toNat_zero,Int.toNat_one,Int.reduceLE,Int.reduceLT,Int.reduceBEq,Int.reduceBNe,beq_self_eq_true,bne_self_eq_false,decide_true,decide_false,Int.reduceNeg,toNat_pred,toNat_succ,List.length_map,cnd_t,cnd_f,grd_tt,grd_u,grd_tf,grd_ft,grd_ff,g_skip,g_ops,g_seq,g_block,g_exit,g_ret,x_c,x_o,x_l,x_b,g_b,g_nil,r_all,o_nil,g_cond,o_guard,lk,ef,o_mv,o_row,o_asg,o_app,o_eqnil,hv,eqAV,ev,view_t,view_c,view_nil,view_fn,look_own,look_box,look_junk,look_val,look_nilsl,look_ro,look_roAt,look_agg,look_tup,look_clo,look_alias,look_ref,look_into,rowOf,cellsOf,argv,vbin,vun,bnd,elemOf,putParts,setAt,zav,ASt.rid,Z0,AV.kill,AV.isHome,AV.noLoan,AV.cellOK,Value.oneCell',put_at,mk_at,mk_nil,initSt,true_and,and_true,and_self,implies_true,List.map_cons,List.map_nil,List.forall_mem_cons,List.not_mem_nil,false_implies,List.length_cons,List.length_nil,List.getD_cons_zero,List.getD_cons_succ,List.getD_nil,List.drop_succ_cons,List.drop_zero,List.take_succ_cons,List.take_zero,List.set_cons_zero,List.set_cons_succ,List.all_cons,List.all_nil,Bool.and_true,Bool.true_and,Bool.not_true,Bool.not_false,reduceCtorEq,if_true,if_false,Bool.false_eq_true,↓reduceIte,Nat.reduceEqDiff,Nat.reduceAdd,Nat.reduceSub,Nat.reduceMul,Nat.reduceLeDiff,Nat.reduceLT,ne_eq,not_false_eq_true,not_true_eq_false,Nat.one_ne_zero,Nat.zero_ne_one,r68_0,r68_1,r68_2,r68_3,p68]) | (exfalso; omega)
  · have hn : l = [] := by
      rcases l with _ | ⟨x, r⟩
      · rfl
      · have := hb (by simp)
        rw [this] at h; cases h
    subst hn
    exact fin_ownz rfl (by decide)
  · refine ⟨⟨fun y hy => ?_, by omega, by omega⟩, ?_⟩
    · obtain ⟨z, _, rfl⟩ := List.mem_map.1 hy
      rfl
    · exact fin_own (d := 2) rfl (by simp [put_at, ASt.free])
def oneB (b : Bool) : List AV := [.val (.bool b)]
theorem all_bool (x : List AV) (h : HasAll [.bool] x) : ∃ b : Bool, x = oneB b ∧ True := by
  obtain ⟨v0, r, rfl, h0, h⟩ := all_cons h
  obtain rfl := all_nil h
  obtain ⟨k, rfl⟩ := has_bool h0
  exact ⟨k, rfl, trivial⟩
/-- The greatest lateness of the first k. -/
def dK (s p : List Int) : Nat → Int
  | 0 => 0
  | k + 1 => if dK s p k < s.getD k 0 - p.getD k 0 then s.getD k 0 - p.getD k 0 else dK s p k
def dupK (s : List Int) : Nat → Bool
  | 0 => false
  | k + 1 => dupK s k || (decide (0 < k) && s.getD k 0 == s.getD (k - 1) 0)
theorem dupK_le {s : List Int} {k : Nat} (h : dupK s k = true) : ∀ n, k ≤ n → dupK s n = true
  | 0, hn => by obtain rfl : k = 0 := by omega
                exact h
  | n + 1, hn => by
    by_cases e : k = n + 1
    · rw [← e]; exact h
    · simp [dupK, dupK_le h n (by omega)]
def smpAt (s p : List Int) (last : Int) (z : List Int) (q : List Bool) (d : Int) (k : Nat) : Smp :=
  ⟨s.getD k 0 - d, if k + 1 < p.length then s.getD (k + 1) 0 - s.getD k 0 else last, p.getD k 0 - s.getD k 0 + d, z.getD k 0, q.getD k false⟩
def reordL (s p : List Int) (last : Int) (z : List Int) (q : List Bool) : List Smp := (List.range p.length).map (smpAt s p last z q (dK s p p.length))
def reordE (p : List Int) (z : List Int) (q : List Bool) : Int :=
  if 5000 < p.length then 2 else if z.length ≠ p.length ∨ q.length ≠ p.length then 3 else if p.any noTime then 1 else if dupK (sortI p) p.length then 7 else 0
def reordF (p : List Int) (last : Int) (z : List Int) (q : List Bool) : List Smp × Int :=
  if reordE p z q ≠ 0 then ([], reordE p z q) else (if smpF (reordL (sortI p) p last z q) = 0 then reordL (sortI p) p last z q else [], smpF (reordL (sortI p) p last z q))
theorem dK_bd {s p : List Int} (hs : ∀ k, k < s.length → -1000000000000000 ≤ s.getD k 0 ∧ s.getD k 0 ≤ 1000000000000000) (hp : ∀ k, k < p.length → -1000000000000000 ≤ p.getD k 0 ∧ p.getD k 0 ≤ 1000000000000000) (hl : s.length = p.length) : ∀ k, k ≤ p.length → 0 ≤ dK s p k ∧ dK s p k ≤ 2000000000000000
  | 0, _ => by simp [dK]
  | k + 1, h => by
    have := dK_bd hs hp hl k (by omega)
    have := hs k (by omega)
    have := hp k (by omega)
    unfold dK; split <;> omega
end Go.Proofs.Ytpecmhdepggnoaa
/- When presentations end: sample.ends, Ends, by the machine on data. -/
namespace Go.Proofs.Ytpecmhdepggnoaa
open Go.RowKit
open Go.Proofs.Ytpecmhdepggnoaa renaming done_eq → Z0, done_eq' → Z1, donet_eq → Z2, donet_eq' → Z3, fin_val → Z4, fin_tup → Z5, fin_agg → Z6, fin_ro → Z7, res_one → Z8, res_more → Z9, rv_t → Za, rv_c → Zb, rv_l → Zc, int_eq → Zg, bool_eq → Zh, toNat_pred → Zr, toNat_succ → Zs, cnd_t → Zu, cnd_f → Zv, grd_tt → Zw, grd_u → Zx, grd_tf → Zy, grd_ft → Zz, grd_ff → Y0, g_skip → Y1, g_ops → Y2, g_seq → Y3, g_block → Y4, g_exit → Y5, g_ret → Y6, g_nil → Y7, r_all → Y8, o_nil → Y9, g_cond → Ya, o_guard → Yb, o_call → Yc, o_callm → Yd, o_mv → Ye, o_bin → Yf, o_load → Yg, o_loads → Yh, o_fld → Yi, o_idx → Yj, o_len → Yk, o_ext → Yl, o_alloc → Ym, o_row → Yn, o_asg → Yo, o_app → Yp, o_stores → Yq, eqAV → Yr, view_t → Ys, view_c → Yt, view_nil → Yu, view_fn → Yv, look_own → Yw, look_box → Yx, look_junk → Yy, look_val → Yz, look_nilsl → X0, look_ro → X1, look_roAt → X2, look_agg → X3, look_tup → X4, look_clo → X5, look_alias → X6, look_ref → X7, look_into → X8, rowOf → X9, cellsOf → Xa, argv → Xb, vbin → Xc, elemOf → Xd, putParts → Xe, setAt → Xf, put_at → Xm, mk_at → Xn, mk_nil → Xo, initSt → Xp, wk_cons → Wk, vint_eq → Wl, vbool_eq → Wm
open Go.Proofs.Ytpecmhdepggnoaa.AV.tup renaming injEq → Zd
open Go.Proofs.Ytpecmhdepggnoaa.AV.agg renaming injEq → Ze
open Go.Proofs.Ytpecmhdepggnoaa.AV.ro renaming injEq → Zf
open _root_.Int renaming toNat_natCast → Zi, reduceToNat → Zj, toNat_zero → Zk, toNat_one → Zl, reduceLE → Zm, reduceLT → Zn, reduceBEq → Zo, reduceBNe → Zp, reduceNeg → Zq
open _root_.List renaming length_map → Zt, map_cons → Xq, map_nil → Xr, forall_mem_cons → Xs, not_mem_nil → Xt, length_cons → Xu, length_nil → Xv, getD_cons_zero → Xw, getD_cons_succ → Xx, getD_nil → Xy, drop_succ_cons → Xz, drop_zero → W0, take_succ_cons → W1, take_zero → W2, set_cons_zero → W3, set_cons_succ → W4, all_cons → W5, all_nil → W6
open Go.Proofs.Ytpecmhdepggnoaa.ASt renaming rid → Xg, free → Xh
open Go.Proofs.Ytpecmhdepggnoaa.AV renaming kill → Xi, isHome → Xj, noLoan → Xk, cellOK → Xl
open _root_.Bool renaming and_true → W7, true_and → W8, not_true → W9, not_false → Wa, false_eq_true → Wb
open _root_.Nat renaming reduceEqDiff → Wc, reduceAdd → Wd, reduceSub → We, reduceMul → Wf, reduceLeDiff → Wg, reduceLT → Wh, one_ne_zero → Wi, zero_ne_one → Wj
open Go.Proofs.Ytpecmhdepggnoaa.AV.val renaming injEq → Wn
set_option linter.unusedSimpArgs false

/-! ### The next greater number -/
def nextGo (x : Int) : Option Int → List Int → Option Int
  | acc, [] => acc
  | acc, n :: r => nextGo x (if x < n ∧ (acc.all fun e => decide (n < e)) = true then some n else acc) r
def nextI (P : List Int) (x : Int) : Option Int := nextGo x none P
def IsNext (P : List Int) (x : Int) (r : Option Int) : Prop := (r = none ∧ ∀ y ∈ P, y ≤ x) ∨ ∃ e, r = some e ∧ e ∈ P ∧ x < e ∧ ∀ y ∈ P, x < y → e ≤ y
theorem isNext_uniq {P : List Int} {x : Int} {r s : Option Int} (h : IsNext P x r) (k : IsNext P x s) : r = s := by
  rcases h with ⟨rfl, h⟩ | ⟨e, rfl, h1, h2, h3⟩ <;> rcases k with ⟨rfl, k⟩ | ⟨f, rfl, k1, k2, k3⟩
  · rfl
  · have := h f k1; omega
  · have := k e h1; omega
  · have := h3 f k1 k2
    have := k3 e h1 h2
    rw [show e = f by omega]
theorem isNext_mem {P Q : List Int} {x : Int} {r : Option Int} (hm : ∀ y, y ∈ P ↔ y ∈ Q) (h : IsNext P x r) : IsNext Q x r := by
  rcases h with ⟨rfl, h⟩ | ⟨e, rfl, h1, h2, h3⟩
  · exact .inl ⟨rfl, fun y hy => h y ((hm y).2 hy)⟩
  · exact .inr ⟨e, rfl, (hm e).1 h1, h2, fun y hy => h3 y ((hm y).2 hy)⟩
theorem nextGo_is (x : Int) : ∀ (P A : List Int) (acc : Option Int), IsNext A x acc → IsNext (A ++ P) x (nextGo x acc P)
  | [], A, acc, h => by rw [List.append_nil]; exact h
  | n :: r, A, acc, h => by
    rw [show A ++ n :: r = (A ++ [n]) ++ r by simp, nextGo]
    refine nextGo_is x r (A ++ [n]) _ ?_
    rcases h with ⟨rfl, h⟩ | ⟨e, rfl, h1, h2, h3⟩
    · by_cases hn : x < n
      · rw [if_pos ⟨hn, rfl⟩]
        refine .inr ⟨n, rfl, by simp, hn, fun y hy hxy => ?_⟩
        rw [List.mem_append, List.mem_singleton] at hy
        rcases hy with hy | rfl
        · have := h y hy; omega
        · exact Int.le_refl _
      · rw [if_neg (fun hc => hn hc.1)]
        refine .inl ⟨rfl, fun y hy => ?_⟩
        rw [List.mem_append, List.mem_singleton] at hy
        rcases hy with hy | rfl
        · exact h y hy
        · omega
    · by_cases hn : x < n ∧ n < e
      · rw [if_pos ⟨hn.1, by simpa using hn.2⟩]
        refine .inr ⟨n, rfl, by simp, hn.1, fun y hy hxy => ?_⟩
        rw [List.mem_append, List.mem_singleton] at hy
        rcases hy with hy | rfl
        · have := h3 y hy hxy; omega
        · exact Int.le_refl _
      · rw [if_neg (fun hc => hn ⟨hc.1, by simpa using hc.2⟩)]
        refine .inr ⟨e, rfl, by simp [h1], h2, fun y hy hxy => ?_⟩
        rw [List.mem_append, List.mem_singleton] at hy
        rcases hy with hy | rfl
        · exact h3 y hy hxy
        · omega
theorem nextI_is (P : List Int) (x : Int) : IsNext P x (nextI P x) := by
  have := nextGo_is x P [] none (.inl ⟨rfl, by simp⟩)
  rwa [List.nil_append] at this
theorem count_is (x : Int) : ∀ T : List Int, T.Pairwise (· < ·) → IsNext T x T[T.countP (· < x + 1)]?
  | [], _ => .inl ⟨rfl, by simp⟩
  | a :: r, h => by
    rw [List.pairwise_cons] at h
    by_cases ha : a < x + 1
    · have hc : (a :: r).countP (· < x + 1) = r.countP (· < x + 1) + 1 := List.countP_cons_of_pos (by simpa using ha)
      rw [hc, List.getElem?_cons_succ]
      rcases count_is x r h.2 with ⟨e, k⟩ | ⟨e, e1, k1, k2, k3⟩
      · refine .inl ⟨e, fun y hy => ?_⟩
        rcases List.mem_cons.1 hy with rfl | hy
        · omega
        · exact k y hy
      · refine .inr ⟨e, e1, List.mem_cons_of_mem _ k1, k2, fun y hy hxy => ?_⟩
        rcases List.mem_cons.1 hy with rfl | hy
        · omega
        · exact k3 y hy hxy
    · have hc : (a :: r).countP (· < x + 1) = 0 := by
        rw [List.countP_eq_zero]
        intro y hy
        rcases List.mem_cons.1 hy with rfl | hy
        · simpa using ha
        · have := h.1 y hy
          simp; omega
      rw [hc, List.getElem?_cons_zero]
      refine .inr ⟨a, rfl, List.mem_cons_self, by omega, fun y hy _ => ?_⟩
      rcases List.mem_cons.1 hy with rfl | hy
      · exact Int.le_refl _
      · have := h.1 y hy; omega
def endOf (P : List Int) (s : Smp) : Int := (nextI P (s.time + s.shift)).getD (s.time + s.shift + s.step)
def endsL (l : List Smp) : List Int := l.map (endOf (presL l))
theorem endsL_len (l : List Smp) : (endsL l).length = l.length := by simp [endsL]
theorem presL_len (l : List Smp) : (presL l).length = l.length := by simp [presL]
theorem pres_get {l : List Smp} {k : Nat} (h : k < l.length) : (presL l)[k]'(by rw [presL_len]; exact h) = l[k].time + l[k].shift := by simp [presL]
theorem pres_bd {l : List Smp} (hb : ∀ s ∈ l, badSmp s = false) : ∀ x ∈ presL l, -2000000000000000 ≤ x ∧ x ≤ 2000000000000000 := fun x hx => by
  obtain ⟨s, hs, rfl⟩ := List.mem_map.1 hx
  have := badSmp_bd (hb s hs)
  omega
theorem ends_bd {l : List Smp} (hb : ∀ s ∈ l, badSmp s = false) : ∀ x ∈ endsL l, -3000000000000000 ≤ x ∧ x ≤ 3000000000000000 := fun x hx => by
  obtain ⟨s, hs, rfl⟩ := List.mem_map.1 hx
  have b := badSmp_bd (hb s hs)
  unfold endOf
  rcases nextI_is (presL l) (s.time + s.shift) with ⟨e, _⟩ | ⟨e, e1, k1, _, _⟩
  · rw [e]; simp only [Option.getD_none]; omega
  · rw [e1]; have := pres_bd hb e k1; simp only [Option.getD_some]; omega
/-! headend/sample.ends -/
def r43_0 : List POp := [⟨2, .asg .nil, none⟩]
def r43_1 : List POp := [⟨10, .mv (.t 0), none⟩,
  ⟨11, .call 42 [.t 10], none⟩,
  ⟨3, .asg (.t 11), none⟩]
def r43_2 : List POp := [⟨12, .mv (.t 3), none⟩,
  ⟨13, .call 68 [.t 12], none⟩,
  ⟨4, .asg (.t 13), none⟩]
def r43_3 : List POp := [⟨14, .mv (.t 4), none⟩,
  ⟨15, .callm 69 [.t 14], none⟩]
def r43_4 : List POp := [⟨16, .mv (.t 4), none⟩,
  ⟨17, .callm 70 [.t 16], none⟩,
  ⟨4, .asg (.t 17), none⟩]
def r43_5 : List POp := [⟨5, .asg .nil, none⟩]
def r43_6 : List POp := [⟨18, .mv (.t 0), none⟩,
  ⟨19, .len (.t 18), none⟩,
  ⟨20, .mv (.c (.int .i64 0)), none⟩]
def r43_7 : List POp := [⟨21, .bin .lss (.t 20) (.t 19), none⟩]
def r43_8 : List POp := [⟨22, .mv (.t 20), none⟩,
  ⟨23, .idx 5 (.t 18) (.t 20), none⟩,
  ⟨24, .loads 5 (.t 23), none⟩,
  ⟨7, .alloc [.int .i64 0, .int .i64 0, .int .i64 0, .int .i64 0, .bool false], none⟩,
  ⟨6, .asg (.t 22), none⟩,
  ⟨0, .stores 5 (.t 7) (.t 24), none⟩]
def r43_9 : List POp := [⟨26, .mv (.t 4), none⟩,
  ⟨27, .mv (.t 3), none⟩,
  ⟨28, .mv (.t 6), none⟩,
  ⟨29, .idx 1 (.t 27) (.t 28), none⟩,
  ⟨30, .load (.t 29), none⟩,
  ⟨31, .bin .add (.t 30) (.c (.int .i64 1)), none⟩,
  ⟨32, .call 71 [.t 26, .t 31], none⟩,
  ⟨25, .mv (.t 32), none⟩,
  ⟨33, .ext 0 (.t 25), none⟩,
  ⟨34, .ext 1 (.t 25), none⟩,
  ⟨8, .mv (.t 33), none⟩,
  ⟨9, .mv (.t 34), none⟩]
def r43_10 : List POp := [⟨35, .mv (.t 8), none⟩,
  ⟨36, .mv (.t 4), none⟩,
  ⟨37, .len (.t 36), none⟩,
  ⟨38, .bin .lss (.t 35) (.t 37), none⟩]
def r43_11 : List POp := [⟨39, .mv (.t 5), none⟩,
  ⟨40, .mv (.t 4), none⟩,
  ⟨41, .mv (.t 8), none⟩,
  ⟨42, .idx 1 (.t 40) (.t 41), none⟩,
  ⟨43, .load (.t 42), none⟩,
  ⟨44, .row 3 1 [.t 43], none⟩,
  ⟨45, .app 3 1 8 (.t 39) (.t 44), none⟩,
  ⟨5, .asg (.t 45), none⟩]
def r43_12 : List POp := [⟨46, .mv (.t 5), none⟩,
  ⟨47, .mv (.t 3), none⟩,
  ⟨48, .mv (.t 6), none⟩,
  ⟨49, .idx 1 (.t 47) (.t 48), none⟩,
  ⟨50, .load (.t 49), none⟩,
  ⟨51, .fld 1 (.t 7), none⟩,
  ⟨52, .load (.t 51), none⟩,
  ⟨53, .bin .add (.t 50) (.t 52), none⟩,
  ⟨54, .row 3 1 [.t 53], none⟩,
  ⟨55, .app 3 1 8 (.t 46) (.t 54), none⟩,
  ⟨5, .asg (.t 55), none⟩]
def r43_13 : List POp := [⟨56, .bin .add (.t 20) (.c (.int .i64 1)), none⟩,
  ⟨20, .mv (.t 56), none⟩]
def r43_14 : List POp := [⟨57, .mv (.t 5), none⟩,
  ⟨2, .asg (.t 57), none⟩]
def l43_0 : PCode := .seq (.ops r43_7) (.seq (.cond (.t 21) (.skip) (.exit 0)) (.seq (.block 1 (.seq (.ops r43_8) (.seq (.ops r43_9) (.seq (.ops r43_10) (.cond (.t 38) (.ops r43_11) (.ops r43_12)))))) (.ops r43_13)))
def p43 : PCode := .seq (.ops r43_0) (.seq (.ops r43_1) (.seq (.ops r43_2) (.seq (.ops r43_3) (.seq (.ops r43_4) (.seq (.ops r43_5) (.seq (.seq (.ops r43_6) (.block 0 (.loop l43_0))) (.seq (.ops r43_14) (.ret))))))))
theorem ok43 : okFunc Try.prog 43 [.t 2] 1 p43 = true := by kernel_rfl
theorem ends_c (l : List Smp) (hl : l.length ≤ 5000) (hb : ∀ s ∈ l, badSmp s = false) : CallOK Try.prog 43 [.ro (l.map Smp.av)] (.ro ((endsL l).map oneI)) := by
  refine call_of mixed ok43 rfl ?_
  obtain ⟨P, hP⟩ : ∃ P, P = presL l := ⟨_, rfl⟩
  have hPl : P.length = l.length := by rw [hP]; exact presL_len l
  have h1 := presents_c l hl hb
  rw [← hP] at h1
  have h2 := clonei_c P (by omega)
  have h3 := sort_c 3 P (by omega)
  have h4 := compact_c 3 (sortI P) (compact_len _)
  have hTl : (Go.Lib.compact (sortI P)).length ≤ 5000 := by have := compact_len (sortI P); rw [sortI_len] at this; omega
  have hTm : ∀ y, y ∈ Go.Lib.compact (sortI P) ↔ y ∈ P := fun y => compact_mem.trans sort_mem
  have hTu := compact_up (sortI_ord P)
  generalize Go.Lib.compact (sortI P) = T at *
  repeat' first | ((with_reducible (first | refine condD ?_ ?_ | refine condE ?_ ?_ | refine condN ?_ ?_ | refine condI ?_ ?_ | refine condS ?_ ?_)) <;> intro h) | ((refine callG h1 ?_)) | ((refine callG h2 ?_)) | ((refine turnG (by with_unfolding_all rfl) (by simp [sortI_len]) h3 ?_)) | ((refine takeG (by with_unfolding_all rfl) h4 ?_)) | (with_reducible refine And.intro ?_ ?_; omega) | (simp only [Z0,Z1,Z2,Z3,Z4,Z5,Z6,Z7,Z8,Z9,Za,Zb,Zc,Zd,Ze,Zf,List.cons.injEq,Zg,Zh,Zi,Zj,Zk,Zl,Zm,Zn,Zo,Zp,beq_self_eq_true,bne_self_eq_false,decide_true,decide_false,Zq,Zr,Zs,Zt,Zu,Zv,Zw,Zx,Zy,Zz,Y0,Y1,Y2,Y3,Y4,Y5,Y6,x_c,x_o,x_l,x_b,g_b,Y7,Y8,Y9,Ya,Yb,Yc,Yd,lk,ef,Ye,Yf,Yg,Yh,Yi,Yj,Yk,Yl,Ym,Yn,Yo,Yp,Yq,hv,Yr,ev,Ys,Yt,Yu,Yv,Yw,Yx,Yy,Yz,X0,X1,X2,X3,X4,X5,X6,X7,X8,X9,Xa,Xb,Xc,vun,bnd,Xd,Xe,Xf,zav,Xg,Xh,Xi,Xj,Xk,Xl,Value.oneCell',Xm,Xn,Xo,Xp,true_and,and_true,and_self,implies_true,Xq,Xr,Xs,Xt,false_implies,Xu,Xv,Xw,Xx,Xy,Xz,W0,W1,W2,W3,W4,W5,W6,W7,W8,W9,Wa,reduceCtorEq,if_true,if_false,Wb,↓reduceIte,Wc,Wd,We,Wf,Wg,Wh,ne_eq,not_false_eq_true,not_true_eq_false,Wi,Wj,r43_0,r43_1,r43_2,r43_3,r43_4,r43_5,r43_6,r43_7,r43_8,r43_9,r43_10,r43_11,r43_12,r43_13,r43_14,p43]) | (exfalso; omega)
  refine loopS (fun k : Nat => mk [(3, .ro (P.map oneI)), (4, .ro (T.map oneI)), (5, .own 3 1 (((l.take k).map (endOf P)).map oneI)), (18, .ro (l.map Smp.av)), (19, .val (.int .i64 l.length)), (20, .val (.int .i64 k))]) (fun k => k ≤ l.length) (fun k => l.length - k) 0 (weak_mk ?_) (Nat.zero_le _) ?_
  · simp only [Wk,wk_nil,wk1,Wl,Wm,Wn,Z4,Z5,Z6,Z7,Z8,Z9,Za,Zb,Zc,Zd,Ze,Zf,List.cons.injEq,Zg,Zh,Zi,Zj,Zk,Zl,Zm,Zn,Zo,Zp,beq_self_eq_true,bne_self_eq_false,decide_true,decide_false,Zq,Zr,Zs,Zt,Zu,Zv,Zw,Zx,Zy,Zz,Y0,hv,Yr,ev,Ys,Yt,Yu,Yv,Yw,Yx,Yy,Yz,X0,X1,X2,X3,X4,X5,X6,X7,X8,X9,Xa,Xb,Xc,vun,bnd,Xd,Xe,Xf,zav,Xg,Xh,Xi,Xj,Xk,Xl,Value.oneCell',Xm,Xn,Xo,Xp,true_and,and_true,and_self,implies_true,Xq,Xr,Xs,Xt,false_implies,Xu,Xv,Xw,Xx,Xy,Xz,W0,W1,W2,W3,W4,W5,W6,W7,W8,W9,Wa,reduceCtorEq,if_true,if_false,Wb,↓reduceIte,Wc,Wd,We,Wf,Wg,Wh,ne_eq,not_false_eq_true,not_true_eq_false,Wi,Nat.zero_ne_one]
    simp
  · rintro J hJ k hk
    simp only [Z0,Z1,Z2,Z3,Z4,Z5,Z6,Z7,Z8,Z9,Za,Zb,Zc,Zd,Ze,Zf,List.cons.injEq,Zg,Zh,Zi,Zj,Zk,Zl,Zm,Zn,Zo,Zp,beq_self_eq_true,bne_self_eq_false,decide_true,decide_false,Zq,Zr,Zs,Zt,Zu,Zv,Zw,Zx,Zy,Zz,Y0,Y1,Y2,Y3,Y4,Y5,Y6,x_c,x_o,x_l,x_b,g_b,Y7,Y8,Y9,Ya,Yb,Yc,Yd,lk,ef,Ye,Yf,Yg,Yh,Yi,Yj,Yk,Yl,Ym,Yn,Yo,Yp,Yq,hv,Yr,ev,Ys,Yt,Yu,Yv,Yw,Yx,Yy,Yz,X0,X1,X2,X3,X4,X5,X6,X7,X8,X9,Xa,Xb,Xc,vun,bnd,Xd,Xe,Xf,zav,Xg,Xh,Xi,Xj,Xk,Xl,Value.oneCell',Xm,Xn,Xo,Xp,true_and,and_true,and_self,implies_true,Xq,Xr,Xs,Xt,false_implies,Xu,Xv,Xw,Xx,Xy,Xz,W0,W1,W2,W3,W4,W5,W6,W7,W8,W9,Wa,reduceCtorEq,if_true,if_false,Wb,↓reduceIte,Wc,Wd,We,Wf,Wg,Wh,ne_eq,not_false_eq_true,not_true_eq_false,Wi,Wj,r43_0,r43_1,r43_2,r43_3,r43_4,r43_5,r43_6,r43_7,r43_8,r43_9,r43_10,r43_11,r43_12,r43_13,r43_14,p43,l43_0]
    refine condD (fun h => ?_) (fun h => ?_)
    · have hlt : k < l.length := by omega
      have hlp : k < P.length := by omega
      have hw := i_add1 k (by omega)
      have b := badSmp_bd (hb l[k] (List.getElem_mem hlt))
      have hpk : P[k] = l[k].time + l[k].shift := by subst hP; exact pres_get hlt
      have w1 : IntKind.i64.wrap (P[k] + 1) = P[k] + 1 := wrap_in (by omega) (by omega)
      have w2 : IntKind.i64.wrap (P[k] + l[k].step) = P[k] + l[k].step := wrap_in (by omega) (by omega)
      have hs := search_c T (P[k] + 1) (by omega) (hTu.imp fun h => by omega)
      have hnx := isNext_uniq (isNext_mem hTm (count_is P[k] T hTu)) (nextI_is P P[k])
      have hsucc : (l.take (k + 1)).map (endOf P) = (l.take k).map (endOf P) ++ [endOf P l[k]] := by rw [List.take_succ_eq_append_getElem hlt, List.map_append]; rfl
      have hend : endOf P l[k] = (nextI P P[k]).getD (P[k] + l[k].step) := by unfold endOf; rw [← hpk]
      have hrl : ((l.take k).map (endOf P)).length = k := by rw [List.length_map, List.length_take]; omega
      clear hP
      generalize T.countP (· < P[k] + 1) = c at *
      by_cases hc : c < T.length
      · have hc' : (c : Int) < T.length := by omega
        rw [List.getElem?_eq_getElem hc] at hnx
        rw [← hnx, Option.getD_some] at hend
        rw [hend] at hsucc
        repeat' first | ((with_reducible (first | refine condD ?_ ?_ | refine condE ?_ ?_ | refine condN ?_ ?_ | refine condI ?_ ?_ | refine condS ?_ ?_)) <;> intro h) | ((refine callG hs ?_)) | (with_reducible refine And.intro ?_ ?_; omega) | (simp only [Z0,Z1,Z2,Z3,Z4,Z5,Z6,Z7,Z8,Z9,Za,Zb,Zc,Zd,Ze,Zf,List.cons.injEq,Zg,Zh,Zi,Zj,Zk,Zl,Zm,Zn,Zo,Zp,beq_self_eq_true,bne_self_eq_false,decide_true,decide_false,Zq,Zr,Zs,Zt,Zu,Zv,Zw,Zx,Zy,Zz,Y0,Y1,Y2,Y3,Y4,Y5,Y6,x_c,x_o,x_l,x_b,g_b,Y7,Y8,Y9,Ya,Yb,Yc,Yd,lk,ef,Ye,Yf,Yg,Yh,Yi,Yj,Yk,Yl,Ym,Yn,Yo,Yp,Yq,hv,Yr,ev,Ys,Yt,Yu,Yv,Yw,Yx,Yy,Yz,X0,X1,X2,X3,X4,X5,X6,X7,X8,X9,Xa,Xb,Xc,vun,bnd,Xd,Xe,Xf,zav,Xg,Xh,Xi,Xj,Xk,Xl,Value.oneCell',Xm,Xn,Xo,Xp,true_and,and_true,and_self,implies_true,Xq,Xr,Xs,Xt,false_implies,Xu,Xv,Xw,Xx,Xy,Xz,W0,W1,W2,W3,W4,W5,W6,W7,W8,W9,Wa,reduceCtorEq,if_true,if_false,Wb,↓reduceIte,Wc,Wd,We,Wf,Wg,Wh,ne_eq,not_false_eq_true,not_true_eq_false,Wi,Wj,r43_0,r43_1,r43_2,r43_3,r43_4,r43_5,r43_6,r43_7,r43_8,r43_9,r43_10,r43_11,r43_12,r43_13,r43_14,p43,l43_0,oneI,Smp.av,getD_map hlt,getD_map hlp,getD_map hc,w1,hc',hrl]) | (exfalso; omega)
        all_goals exact again hJ (k + 1) (weak_mk (by simp only [Wk,wk_nil,wk1,Wl,Wm,Wn,Z4,Z5,Z6,Z7,Z8,Z9,Za,Zb,Zc,Zd,Ze,Zf,List.cons.injEq,Zg,Zh,Zi,Zj,Zk,Zl,Zm,Zn,Zo,Zp,beq_self_eq_true,bne_self_eq_false,decide_true,decide_false,Zq,Zr,Zs,Zt,Zu,Zv,Zw,Zx,Zy,Zz,Y0,hv,Yr,ev,Ys,Yt,Yu,Yv,Yw,Yx,Yy,Yz,X0,X1,X2,X3,X4,X5,X6,X7,X8,X9,Xa,Xb,Xc,vun,bnd,Xd,Xe,Xf,zav,Xg,Xh,Xi,Xj,Xk,Xl,Value.oneCell',Xm,Xn,Xo,Xp,true_and,and_true,and_self,implies_true,Xq,Xr,Xs,Xt,false_implies,Xu,Xv,Xw,Xx,Xy,Xz,W0,W1,W2,W3,W4,W5,W6,W7,W8,W9,Wa,reduceCtorEq,if_true,if_false,Wb,↓reduceIte,Wc,Wd,We,Wf,Wg,Wh,ne_eq,not_false_eq_true,not_true_eq_false,Wi,Nat.zero_ne_one]; exact ⟨by rw [hsucc]; simp [oneI], hw⟩)) (by omega) (by omega)
      · have hc' : ¬ (c : Int) < T.length := by omega
        rw [List.getElem?_eq_none (by omega)] at hnx
        rw [← hnx, Option.getD_none] at hend
        rw [hend] at hsucc
        repeat' first | ((with_reducible (first | refine condD ?_ ?_ | refine condE ?_ ?_ | refine condN ?_ ?_ | refine condI ?_ ?_ | refine condS ?_ ?_)) <;> intro h) | ((refine callG hs ?_)) | (with_reducible refine And.intro ?_ ?_; omega) | (simp only [Z0,Z1,Z2,Z3,Z4,Z5,Z6,Z7,Z8,Z9,Za,Zb,Zc,Zd,Ze,Zf,List.cons.injEq,Zg,Zh,Zi,Zj,Zk,Zl,Zm,Zn,Zo,Zp,beq_self_eq_true,bne_self_eq_false,decide_true,decide_false,Zq,Zr,Zs,Zt,Zu,Zv,Zw,Zx,Zy,Zz,Y0,Y1,Y2,Y3,Y4,Y5,Y6,x_c,x_o,x_l,x_b,g_b,Y7,Y8,Y9,Ya,Yb,Yc,Yd,lk,ef,Ye,Yf,Yg,Yh,Yi,Yj,Yk,Yl,Ym,Yn,Yo,Yp,Yq,hv,Yr,ev,Ys,Yt,Yu,Yv,Yw,Yx,Yy,Yz,X0,X1,X2,X3,X4,X5,X6,X7,X8,X9,Xa,Xb,Xc,vun,bnd,Xd,Xe,Xf,zav,Xg,Xh,Xi,Xj,Xk,Xl,Value.oneCell',Xm,Xn,Xo,Xp,true_and,and_true,and_self,implies_true,Xq,Xr,Xs,Xt,false_implies,Xu,Xv,Xw,Xx,Xy,Xz,W0,W1,W2,W3,W4,W5,W6,W7,W8,W9,Wa,reduceCtorEq,if_true,if_false,Wb,↓reduceIte,Wc,Wd,We,Wf,Wg,Wh,ne_eq,not_false_eq_true,not_true_eq_false,Wi,Wj,r43_0,r43_1,r43_2,r43_3,r43_4,r43_5,r43_6,r43_7,r43_8,r43_9,r43_10,r43_11,r43_12,r43_13,r43_14,p43,l43_0,oneI,Smp.av,getD_map hlt,getD_map hlp,w1,w2,hc',hrl]) | (exfalso; omega)
        all_goals exact again hJ (k + 1) (weak_mk (by simp only [Wk,wk_nil,wk1,Wl,Wm,Wn,Z4,Z5,Z6,Z7,Z8,Z9,Za,Zb,Zc,Zd,Ze,Zf,List.cons.injEq,Zg,Zh,Zi,Zj,Zk,Zl,Zm,Zn,Zo,Zp,beq_self_eq_true,bne_self_eq_false,decide_true,decide_false,Zq,Zr,Zs,Zt,Zu,Zv,Zw,Zx,Zy,Zz,Y0,hv,Yr,ev,Ys,Yt,Yu,Yv,Yw,Yx,Yy,Yz,X0,X1,X2,X3,X4,X5,X6,X7,X8,X9,Xa,Xb,Xc,vun,bnd,Xd,Xe,Xf,zav,Xg,Xh,Xi,Xj,Xk,Xl,Value.oneCell',Xm,Xn,Xo,Xp,true_and,and_true,and_self,implies_true,Xq,Xr,Xs,Xt,false_implies,Xu,Xv,Xw,Xx,Xy,Xz,W0,W1,W2,W3,W4,W5,W6,W7,W8,W9,Wa,reduceCtorEq,if_true,if_false,Wb,↓reduceIte,Wc,Wd,We,Wf,Wg,Wh,ne_eq,not_false_eq_true,not_true_eq_false,Wi,Nat.zero_ne_one]; exact ⟨by rw [hsucc]; simp [oneI], hw⟩)) (by omega) (by omega)
    · have hke : k = l.length := by omega
      subst hke
      rw [List.take_length]
      have : l.map (endOf P) = endsL l := by rw [hP]; rfl
      rw [this]
      repeat' first | ((with_reducible (first | refine condD ?_ ?_ | refine condE ?_ ?_ | refine condN ?_ ?_ | refine condI ?_ ?_ | refine condS ?_ ?_)) <;> intro h) | (with_reducible refine And.intro ?_ ?_; omega) | (simp only [Z0,Z1,Z2,Z3,Z4,Z5,Z6,Z7,Z8,Z9,Za,Zb,Zc,Zd,Ze,Zf,List.cons.injEq,Zg,Zh,Zi,Zj,Zk,Zl,Zm,Zn,Zo,Zp,beq_self_eq_true,bne_self_eq_false,decide_true,decide_false,Zq,Zr,Zs,Zt,Zu,Zv,Zw,Zx,Zy,Zz,Y0,Y1,Y2,Y3,Y4,Y5,Y6,x_c,x_o,x_l,x_b,g_b,Y7,Y8,Y9,Ya,Yb,Yc,Yd,lk,ef,Ye,Yf,Yg,Yh,Yi,Yj,Yk,Yl,Ym,Yn,Yo,Yp,Yq,hv,Yr,ev,Ys,Yt,Yu,Yv,Yw,Yx,Yy,Yz,X0,X1,X2,X3,X4,X5,X6,X7,X8,X9,Xa,Xb,Xc,vun,bnd,Xd,Xe,Xf,zav,Xg,Xh,Xi,Xj,Xk,Xl,Value.oneCell',Xm,Xn,Xo,Xp,true_and,and_true,and_self,implies_true,Xq,Xr,Xs,Xt,false_implies,Xu,Xv,Xw,Xx,Xy,Xz,W0,W1,W2,W3,W4,W5,W6,W7,W8,W9,Wa,reduceCtorEq,if_true,if_false,Wb,↓reduceIte,Wc,Wd,We,Wf,Wg,Wh,ne_eq,not_false_eq_true,not_true_eq_false,Wi,Wj,r43_0,r43_1,r43_2,r43_3,r43_4,r43_5,r43_6,r43_7,r43_8,r43_9,r43_10,r43_11,r43_12,r43_13,r43_14,p43,l43_0]) | (exfalso; omega)
def endsF (l : List Smp) : List Int × Int := if smpF l ≠ 0 then ([], smpF l) else (endsL l, 0)
/-! headend/sample.Ends -/
def r17_0 : List POp := [⟨2, .asg .nil, none⟩,
  ⟨3, .asg (.c (.int .i64 0)), none⟩]
def r17_1 : List POp := [⟨5, .mv (.t 0), none⟩,
  ⟨6, .call 40 [.t 5], none⟩,
  ⟨4, .asg (.t 6), none⟩]
def r17_2 : List POp := [⟨7, .mv (.t 4), none⟩,
  ⟨8, .bin .neq (.t 7) (.c (.int .i64 0)), none⟩]
def r17_3 : List POp := [⟨9, .mv (.t 4), none⟩,
  ⟨2, .asg .nil, none⟩,
  ⟨3, .mv (.t 9), none⟩]
def r17_4 : List POp := [⟨10, .mv (.t 0), none⟩,
  ⟨11, .call 43 [.t 10], none⟩,
  ⟨2, .asg (.t 11), none⟩,
  ⟨3, .asg (.c (.int .i64 0)), none⟩]
def p17 : PCode := .seq (.ops r17_0) (.seq (.seq (.ops r17_1) (.seq (.ops r17_2) (.cond (.t 8) (.seq (.ops r17_3) (.ret)) (.skip)))) (.seq (.ops r17_4) (.ret)))
theorem ok17 : okFunc Try.prog 17 [.t 2, .t 3] 1 p17 = true := by kernel_rfl
theorem endsF_c (l : List Smp) : CallOK Try.prog 17 [.ro (l.map Smp.av)] (.tup [.ro ((endsF l).1.map oneI), .val (.int .i64 (endsF l).2)]) := by
  refine call_of mixed ok17 rfl ?_
  have hs := smp_c l
  by_cases h0 : smpF l = 0
  · obtain ⟨a, b, _⟩ := smpF_0 h0
    rw [h0] at hs
    repeat' first | ((with_reducible (first | refine condD ?_ ?_ | refine condE ?_ ?_ | refine condN ?_ ?_ | refine condI ?_ ?_ | refine condS ?_ ?_)) <;> intro h) | ((refine callG hs ?_)) | ((refine callG (ends_c l a b) ?_)) | (with_reducible refine And.intro ?_ ?_; omega) | (simp only [Z0,Z1,Z2,Z3,Z4,Z5,Z6,Z7,Z8,Z9,Za,Zb,Zc,Zd,Ze,Zf,List.cons.injEq,Zg,Zh,Zi,Zj,Zk,Zl,Zm,Zn,Zo,Zp,beq_self_eq_true,bne_self_eq_false,decide_true,decide_false,Zq,Zr,Zs,Zt,Zu,Zv,Zw,Zx,Zy,Zz,Y0,Y1,Y2,Y3,Y4,Y5,Y6,x_c,x_o,x_l,x_b,g_b,Y7,Y8,Y9,Ya,Yb,Yc,lk,ef,Ye,Yf,Yo,hv,Yr,ev,Ys,Yt,Yu,Yv,Yw,Yx,Yy,Yz,X0,X1,X2,X3,X4,X5,X6,X7,X8,X9,Xa,Xb,Xc,vun,bnd,Xd,Xe,Xf,zav,Xg,Xh,Xi,Xj,Xk,Xl,Value.oneCell',Xm,Xn,Xo,Xp,true_and,and_true,and_self,implies_true,Xq,Xr,Xs,Xt,false_implies,Xu,Xv,Xw,Xx,Xy,Xz,W0,W1,W2,W3,W4,W5,W6,W7,W8,W9,Wa,reduceCtorEq,if_true,if_false,Wb,↓reduceIte,Wc,Wd,We,Wf,Wg,Wh,ne_eq,not_false_eq_true,not_true_eq_false,Wi,Wj,r17_0,r17_1,r17_2,r17_3,r17_4,p17]) | (exfalso; omega)
    all_goals simp [endsF, h0]
  · repeat' first | ((with_reducible (first | refine condD ?_ ?_ | refine condE ?_ ?_ | refine condN ?_ ?_ | refine condI ?_ ?_ | refine condS ?_ ?_)) <;> intro h) | ((refine callG hs ?_)) | (with_reducible refine And.intro ?_ ?_; omega) | (simp only [Z0,Z1,Z2,Z3,Z4,Z5,Z6,Z7,Z8,Z9,Za,Zb,Zc,Zd,Ze,Zf,List.cons.injEq,Zg,Zh,Zi,Zj,Zk,Zl,Zm,Zn,Zo,Zp,beq_self_eq_true,bne_self_eq_false,decide_true,decide_false,Zq,Zr,Zs,Zt,Zu,Zv,Zw,Zx,Zy,Zz,Y0,Y1,Y2,Y3,Y4,Y5,Y6,x_c,x_o,x_l,x_b,g_b,Y7,Y8,Y9,Ya,Yb,Yc,lk,ef,Ye,Yf,Yo,hv,Yr,ev,Ys,Yt,Yu,Yv,Yw,Yx,Yy,Yz,X0,X1,X2,X3,X4,X5,X6,X7,X8,X9,Xa,Xb,Xc,vun,bnd,Xd,Xe,Xf,zav,Xg,Xh,Xi,Xj,Xk,Xl,Value.oneCell',Xm,Xn,Xo,Xp,true_and,and_true,and_self,implies_true,Xq,Xr,Xs,Xt,false_implies,Xu,Xv,Xw,Xx,Xy,Xz,W0,W1,W2,W3,W4,W5,W6,W7,W8,W9,Wa,reduceCtorEq,if_true,if_false,Wb,↓reduceIte,Wc,Wd,We,Wf,Wg,Wh,ne_eq,not_false_eq_true,not_true_eq_false,Wi,Wj,r17_0,r17_1,r17_2,r17_3,r17_4,p17,bne0_t h0,beq0_f h0]) | (exfalso; omega)
    all_goals simp [endsF, h0]
end Go.Proofs.Ytpecmhdepggnoaa
/- What is needed to present a span: sample.Needed, Cut, by the machine on data. -/
namespace Go.Proofs.Ytpecmhdepggnoaa
open Go.RowKit
open Go.Proofs.Ytpecmhdepggnoaa renaming done_eq → Z0, done_eq' → Z1, donet_eq → Z2, donet_eq' → Z3, fin_val → Z4, fin_tup → Z5, fin_agg → Z6, fin_ro → Z7, res_one → Z8, res_more → Z9, rv_t → Za, rv_c → Zb, rv_l → Zc, int_eq → Zg, bool_eq → Zh, toNat_pred → Zr, toNat_succ → Zs, cnd_t → Zu, cnd_f → Zv, grd_tt → Zw, grd_u → Zx, grd_tf → Zy, grd_ft → Zz, grd_ff → Y0, g_skip → Y1, g_ops → Y2, g_seq → Y3, g_block → Y4, g_exit → Y5, g_ret → Y6, x_c → Y7, x_o → Y8, x_l → Y9, x_b → Ya, g_b → Yb, g_nil → Yc, r_all → Yd, o_nil → Ye, g_cond → Yf, o_guard → Yg, o_call → Yh, o_mv → Yi, o_pick → Yj, o_bin → Yk, o_un → Yl, o_load → Ym, o_fld → Yn, o_idx → Yo, o_len → Yp, o_slc → Yq, o_build → Yr, o_minmax → Ys, o_alloc → Yt, o_boxs → Yu, o_asg → Yv, o_stores → Yw, eqAV → Yx, view_t → Yy, view_c → Yz, view_nil → X0, view_fn → X1, look_own → X2, look_box → X3, look_junk → X4, look_val → X5, look_nilsl → X6, look_ro → X7, look_roAt → X8, look_agg → X9, look_tup → Xa, look_clo → Xb, look_alias → Xc, look_ref → Xd, look_into → Xe, rowOf → Xf, cellsOf → Xg, argv → Xh, vbin → Xi, vun → Xj, bnd → Xk, elemOf → Xl, putParts → Xm, setAt → Xn, zav → Xo, put_at → Xv, mk_at → Xw, mk_nil → Xx, initSt → Xy, wk_cons → Wt, wk_nil → Wu, vint_eq → Wv, vbool_eq → Ww
open Go.Proofs.Ytpecmhdepggnoaa.AV.tup renaming injEq → Zd
open Go.Proofs.Ytpecmhdepggnoaa.AV.agg renaming injEq → Ze
open Go.Proofs.Ytpecmhdepggnoaa.AV.ro renaming injEq → Zf
open _root_.Int renaming toNat_natCast → Zi, reduceToNat → Zj, toNat_zero → Zk, toNat_one → Zl, reduceLE → Zm, reduceLT → Zn, reduceBEq → Zo, reduceBNe → Zp, reduceNeg → Zq
open _root_.List renaming length_map → Zt, map_cons → Xz, map_nil → W0, forall_mem_cons → W1, not_mem_nil → W2, length_cons → W3, length_nil → W4, getD_cons_zero → W5, getD_cons_succ → W6, getD_nil → W7, drop_succ_cons → W8, drop_zero → W9, take_succ_cons → Wa, take_zero → Wb, set_cons_zero → Wc, set_cons_succ → Wd, all_cons → We, all_nil → Wf
open Go.Proofs.Ytpecmhdepggnoaa.ASt renaming rid → Xp, free → Xq
open Go.Proofs.Ytpecmhdepggnoaa.AV renaming kill → Xr, isHome → Xs, noLoan → Xt, cellOK → Xu
open _root_.Bool renaming and_true → Wg, true_and → Wh, not_true → Wi, not_false → Wj, false_eq_true → Wk
open _root_.Nat renaming reduceEqDiff → Wl, reduceAdd → Wm, reduceSub → Wn, reduceMul → Wo, reduceLeDiff → Wp, reduceLT → Wq, one_ne_zero → Wr, zero_ne_one → Ws
open Go.Proofs.Ytpecmhdepggnoaa.AV.val renaming injEq → Wx
set_option linter.unusedSimpArgs false

def kept (f t s : Int) : List AV := [.val (.int .i64 f), .val (.int .i64 t), .val (.int .i64 s)]
def span (a b : Int) : List AV := [.val (.int .i64 a), .val (.int .i64 b)]
theorem all_span (x : List AV) (h : HasAll [.int .i64, .int .i64] x) : ∃ p : Int × Int, x = span p.1 p.2 ∧ (I64 p.1 ∧ I64 p.2) := by
  obtain ⟨v0, r, rfl, h0, h⟩ := all_cons h
  obtain ⟨v1, r, rfl, h1, h⟩ := all_cons h
  obtain rfl := all_nil h
  obtain ⟨n0, rfl, b0⟩ := has_int h0
  obtain ⟨n1, rfl, b1⟩ := has_int h1
  exact ⟨(n0, n1), rfl, b0, b1⟩
theorem all_kept (x : List AV) (h : HasAll [.int .i64, .int .i64, .int .i64] x) : ∃ p : Int × Int × Int, x = kept p.1 p.2.1 p.2.2 ∧ (I64 p.1 ∧ I64 p.2.1 ∧ I64 p.2.2) := by
  obtain ⟨v0, r, rfl, h0, h⟩ := all_cons h
  obtain ⟨v1, r, rfl, h1, h⟩ := all_cons h
  obtain ⟨v2, r, rfl, h2, h⟩ := all_cons h
  obtain rfl := all_nil h
  obtain ⟨n0, rfl, b0⟩ := has_int h0
  obtain ⟨n1, rfl, b1⟩ := has_int h1
  obtain ⟨n2, rfl, b2⟩ := has_int h2
  exact ⟨(n0, n1, n2), rfl, b0, b1, b2⟩
theorem ones_len' (l : List Int) : (∀ x ∈ l.map oneI, x.length = 1) = True := by
  refine eq_true fun x hx => ?_
  obtain ⟨n, _, rfl⟩ := List.mem_map.1 hx
  rfl
theorem smps_len (l : List Smp) : (∀ x ∈ l.map Smp.av, x.length = 5) = True := by
  refine eq_true fun x hx => ?_
  obtain ⟨n, _, rfl⟩ := List.mem_map.1 hx
  rfl
theorem minOf_is {l : List Int} (h : l ≠ []) : Go.Lib.minOf l ∈ l ∧ ∀ x ∈ l, Go.Lib.minOf l ≤ x := by
  have key : ∀ (r : List Int) (a : Int), (r.foldl min a = a ∨ r.foldl min a ∈ r) ∧ r.foldl min a ≤ a ∧ ∀ x ∈ r, r.foldl min a ≤ x := by
    intro r
    induction r with
    | nil => intro a; simp
    | cons b r ih =>
      intro a
      obtain ⟨h1, h2, h3⟩ := ih (min a b)
      rw [List.foldl_cons]
      refine ⟨?_, by omega, fun x hx => ?_⟩
      · rcases h1 with h1 | h1
        · rw [h1]
          rcases Int.le_total a b with hab | hab
          · left; omega
          · right; rw [show min a b = b by omega]; exact List.mem_cons_self
        · exact .inr (List.mem_cons_of_mem _ h1)
      · rcases List.mem_cons.1 hx with rfl | hx
        · omega
        · exact h3 x hx
  cases l with
  | nil => exact absurd rfl h
  | cons a r =>
    obtain ⟨h1, h2, h3⟩ := key (a :: r) a
    refine ⟨?_, h3⟩
    show (a :: r).foldl min a ∈ a :: r
    rcases h1 with h1 | h1
    · rw [h1]; exact List.mem_cons_self
    · exact h1
theorem maxOf_is {l : List Int} (h : l ≠ []) : Go.Lib.maxOf l ∈ l ∧ ∀ x ∈ l, x ≤ Go.Lib.maxOf l := by
  have key : ∀ (r : List Int) (a : Int), (r.foldl max a = a ∨ r.foldl max a ∈ r) ∧ a ≤ r.foldl max a ∧ ∀ x ∈ r, x ≤ r.foldl max a := by
    intro r
    induction r with
    | nil => intro a; simp
    | cons b r ih =>
      intro a
      obtain ⟨h1, h2, h3⟩ := ih (max a b)
      rw [List.foldl_cons]
      refine ⟨?_, by omega, fun x hx => ?_⟩
      · rcases h1 with h1 | h1
        · rw [h1]
          rcases Int.le_total a b with hab | hab
          · right; rw [show max a b = b by omega]; exact List.mem_cons_self
          · left; omega
        · exact .inr (List.mem_cons_of_mem _ h1)
      · rcases List.mem_cons.1 hx with rfl | hx
        · omega
        · exact h3 x hx
  cases l with
  | nil => exact absurd rfl h
  | cons a r =>
    obtain ⟨h1, h2, h3⟩ := key (a :: r) a
    refine ⟨?_, h3⟩
    show (a :: r).foldl max a ∈ a :: r
    rcases h1 with h1 | h1
    · rw [h1]; exact List.mem_cons_self
    · exact h1

/-- Is sample k presented within the span? -/
def hitP (P E : List Int) (a b : Int) (k : Nat) : Bool := decide ((if P.getD k 0 < a then a else P.getD k 0) < (if b < E.getD k 0 then b else E.getD k 0))
/-- The first and the last one among the first k. -/
def flK (P E : List Int) (a b : Int) : Nat → Int × Int
  | 0 => (-1, -1)
  | k + 1 => if hitP P E a b k then (if (flK P E a b k).1 < 0 then (k : Int) else (flK P E a b k).1, (k : Int)) else flK P E a b k
/-- Back to a Key. -/
def backK (l : List Smp) : Nat → Nat
  | 0 => 0
  | j + 1 => if (l.getD (j + 1) ⟨0, 0, 0, 0, false⟩).key then j + 1 else backK l j
theorem backK_le (l : List Smp) : ∀ j, backK l j ≤ j
  | 0 => Nat.le_refl _
  | j + 1 => by
    have := backK_le l j
    unfold backK; split <;> omega
theorem backK_key (l : List Smp) : ∀ j, 0 < backK l j → (l.getD (backK l j) ⟨0, 0, 0, 0, false⟩).key = true
  | 0, h => by simp [backK] at h
  | j + 1, h => by
    unfold backK at h ⊢
    split
    · assumption
    · rename_i hk
      rw [if_neg hk] at h
      exact backK_key l j h
/-- A Key that lies between is not passed. -/
theorem backK_ge (l : List Smp) (q : Nat) (hq : (l.getD q ⟨0, 0, 0, 0, false⟩).key = true ∨ q = 0) : ∀ j, q ≤ j → q ≤ backK l j
  | 0, h => by omega
  | j + 1, h => by
    unfold backK
    split
    · exact h
    · rename_i hk
      refine backK_ge l q hq j ?_
      rcases hq with hq | rfl
      · have : q ≠ j + 1 := fun e => hk (e ▸ hq)
        omega
      · omega
theorem flK_is (P E : List Int) (a b : Int) : ∀ n, ((flK P E a b n).1 < 0 ∧ ∀ k, k < n → hitP P E a b k = false) ∨
    ∃ f t : Nat, flK P E a b n = ((f : Int), (t : Int)) ∧ f ≤ t ∧ t < n ∧ hitP P E a b f = true ∧ ∀ k, k < n → hitP P E a b k = true → f ≤ k ∧ k ≤ t
  | 0 => .inl ⟨by simp [flK], fun k hk => by omega⟩
  | n + 1 => by
    unfold flK
    cases hh : hitP P E a b n
    · simp only [Bool.false_eq_true, if_false]
      rcases flK_is P E a b n with ⟨h1, h2⟩ | ⟨f, t, e, h1, h2, h3, h4⟩
      · refine .inl ⟨h1, fun k hk => ?_⟩
        by_cases e : k = n
        · rw [e]; exact hh
        · exact h2 k (by omega)
      · refine .inr ⟨f, t, e, h1, by omega, h3, fun k hk hp => ?_⟩
        by_cases e : k = n
        · rw [e, hh] at hp; cases hp
        · exact h4 k (by omega) hp
    · simp only [if_true]
      rcases flK_is P E a b n with ⟨h1, h2⟩ | ⟨f, t, e, h1, h2, h3, h4⟩
      · refine .inr ⟨n, n, by simp [h1], Nat.le_refl _, by omega, hh, fun k hk hp => ?_⟩
        by_cases e : k = n
        · omega
        · rw [h2 k (by omega)] at hp; cases hp
      · refine .inr ⟨f, n, by rw [e]; simp [show ¬ (f : Int) < 0 by omega], by omega, by omega, h3, fun k hk hp => ?_⟩
        by_cases e : k = n
        · omega
        · have := h4 k (by omega) hp; omega
def needG (l : List Smp) (a b : Int) : (Int × Int × Int) × Int :=
  if (flK (presL l) (endsL l) a b l.length).1 < 0 then ((0, 0, 0), 9) else
    ((((backK l (flK (presL l) (endsL l) a b l.length).1.toNat : Nat) : Int), (flK (presL l) (endsL l) a b l.length).2 + 1,
      max 0 (a - Go.Lib.minOf (((presL l).take ((flK (presL l) (endsL l) a b l.length).2.toNat + 1)).drop (backK l (flK (presL l) (endsL l) a b l.length).1.toNat)))), 0)
def needF (l : List Smp) (a b : Int) : (Int × Int × Int) × Int :=
  if smpF l ≠ 0 then ((0, 0, 0), smpF l) else if b ≤ a then ((0, 0, 0), 8) else if noTime a || noTime b then ((0, 0, 0), 1) else needG l a b
/-! headend/sample.Needed -/
def r15_0 : List POp := [⟨3, .boxs (.t 1), none⟩,
  ⟨4, .alloc [.int .i64 0, .int .i64 0, .int .i64 0], none⟩,
  ⟨5, .asg (.c (.int .i64 0)), none⟩]
def r15_1 : List POp := [⟨12, .mv (.t 0), none⟩,
  ⟨13, .call 40 [.t 12], none⟩,
  ⟨6, .asg (.t 13), none⟩]
def r15_2 : List POp := [⟨14, .mv (.t 6), none⟩,
  ⟨15, .bin .neq (.t 14) (.c (.int .i64 0)), none⟩]
def r15_3 : List POp := [⟨16, .build [.int .i64 0, .int .i64 0, .int .i64 0] [], none⟩,
  ⟨17, .mv (.t 6), none⟩,
  ⟨0, .stores 3 (.t 4) (.t 16), none⟩,
  ⟨5, .mv (.t 17), none⟩]
def r15_4 : List POp := [⟨19, .fld 1 (.t 3), none⟩,
  ⟨20, .load (.t 19), none⟩,
  ⟨21, .fld 0 (.t 3), none⟩,
  ⟨22, .load (.t 21), none⟩,
  ⟨23, .bin .leq (.t 20) (.t 22), none⟩,
  ⟨18, .asg (.t 23), none⟩]
def r15_5 : List POp := [⟨24, .build [.int .i64 0, .int .i64 0, .int .i64 0] [], none⟩,
  ⟨0, .stores 3 (.t 4) (.t 24), none⟩,
  ⟨5, .asg (.c (.int .i64 8)), none⟩]
def r15_6 : List POp := [⟨26, .fld 0 (.t 3), none⟩,
  ⟨27, .load (.t 26), none⟩,
  ⟨28, .call 41 [.t 27], none⟩,
  ⟨29, .mv (.t 28), none⟩,
  ⟨30, .fld 1 (.t 3), some (29, false)⟩,
  ⟨31, .load (.t 30), some (29, false)⟩,
  ⟨32, .call 41 [.t 31], some (29, false)⟩,
  ⟨33, .pick (.t 29) (.c (.bool true)) (.t 32), none⟩,
  ⟨25, .asg (.t 33), none⟩]
def r15_7 : List POp := [⟨34, .build [.int .i64 0, .int .i64 0, .int .i64 0] [], none⟩,
  ⟨0, .stores 3 (.t 4) (.t 34), none⟩,
  ⟨5, .asg (.c (.int .i64 1)), none⟩]
def r15_8 : List POp := [⟨35, .mv (.t 0), none⟩,
  ⟨36, .call 42 [.t 35], none⟩,
  ⟨37, .mv (.t 0), none⟩,
  ⟨38, .call 43 [.t 37], none⟩,
  ⟨7, .asg (.t 36), none⟩,
  ⟨8, .asg (.t 38), none⟩]
def r15_9 : List POp := [⟨9, .asg (.c (.int .i64 (-1))), none⟩,
  ⟨10, .asg (.c (.int .i64 (-1))), none⟩]
def r15_10 : List POp := [⟨39, .mv (.t 0), none⟩,
  ⟨40, .len (.t 39), none⟩,
  ⟨41, .mv (.c (.int .i64 0)), none⟩]
def r15_11 : List POp := [⟨42, .bin .lss (.t 41) (.t 40), none⟩]
def r15_12 : List POp := [⟨43, .mv (.t 41), none⟩,
  ⟨11, .asg (.t 43), none⟩]
def r15_13 : List POp := [⟨44, .mv (.t 7), none⟩,
  ⟨45, .mv (.t 11), none⟩,
  ⟨46, .idx 1 (.t 44) (.t 45), none⟩,
  ⟨47, .load (.t 46), none⟩,
  ⟨48, .fld 0 (.t 3), none⟩,
  ⟨49, .load (.t 48), none⟩,
  ⟨50, .minmax true (.t 47) (.t 49), none⟩,
  ⟨51, .mv (.t 8), none⟩,
  ⟨52, .mv (.t 11), none⟩,
  ⟨53, .idx 1 (.t 51) (.t 52), none⟩,
  ⟨54, .load (.t 53), none⟩,
  ⟨55, .fld 1 (.t 3), none⟩,
  ⟨56, .load (.t 55), none⟩,
  ⟨57, .minmax false (.t 54) (.t 56), none⟩,
  ⟨58, .bin .lss (.t 50) (.t 57), none⟩]
def r15_14 : List POp := [⟨59, .mv (.t 9), none⟩,
  ⟨60, .bin .lss (.t 59) (.c (.int .i64 0)), none⟩]
def r15_15 : List POp := [⟨61, .mv (.t 11), none⟩,
  ⟨9, .asg (.t 61), none⟩]
def r15_16 : List POp := [⟨62, .mv (.t 11), none⟩,
  ⟨10, .asg (.t 62), none⟩]
def r15_17 : List POp := [⟨63, .bin .add (.t 41) (.c (.int .i64 1)), none⟩,
  ⟨41, .mv (.t 63), none⟩]
def r15_18 : List POp := [⟨64, .mv (.t 9), none⟩,
  ⟨65, .bin .lss (.t 64) (.c (.int .i64 0)), none⟩]
def r15_19 : List POp := [⟨66, .build [.int .i64 0, .int .i64 0, .int .i64 0] [], none⟩,
  ⟨0, .stores 3 (.t 4) (.t 66), none⟩,
  ⟨5, .asg (.c (.int .i64 9)), none⟩]
def r15_20 : List POp := [⟨67, .mv (.t 9), none⟩,
  ⟨68, .bin .gtr (.t 67) (.c (.int .i64 0)), none⟩,
  ⟨69, .mv (.t 68), none⟩,
  ⟨70, .mv (.t 0), some (69, true)⟩,
  ⟨71, .mv (.t 9), some (69, true)⟩,
  ⟨72, .idx 5 (.t 70) (.t 71), some (69, true)⟩,
  ⟨73, .fld 4 (.t 72), some (69, true)⟩,
  ⟨74, .load (.t 73), some (69, true)⟩,
  ⟨75, .un .not (.t 74), some (69, true)⟩,
  ⟨76, .pick (.t 69) (.t 75) (.c (.bool false)), none⟩]
def r15_21 : List POp := [⟨77, .mv (.t 9), none⟩,
  ⟨78, .bin .sub (.t 77) (.c (.int .i64 1)), none⟩,
  ⟨9, .asg (.t 78), none⟩]
def r15_22 : List POp := [⟨79, .mv (.t 9), none⟩,
  ⟨80, .mv (.t 10), none⟩,
  ⟨81, .bin .add (.t 80) (.c (.int .i64 1)), none⟩,
  ⟨82, .fld 0 (.t 3), none⟩,
  ⟨83, .load (.t 82), none⟩,
  ⟨84, .mv (.t 7), none⟩,
  ⟨85, .mv (.t 9), none⟩,
  ⟨86, .mv (.t 10), none⟩,
  ⟨87, .bin .add (.t 86) (.c (.int .i64 1)), none⟩,
  ⟨88, .slc (some (.t 85)) (some (.t 87)) 1 (.t 84), none⟩,
  ⟨89, .call 19 [.t 88], none⟩,
  ⟨90, .bin .sub (.t 83) (.t 89), none⟩,
  ⟨91, .minmax true (.c (.int .i64 0)) (.t 90), none⟩,
  ⟨92, .build [.int .i64 0, .int .i64 0, .int .i64 0] [(0, 1, .t 79), (1, 1, .t 81), (2, 1, .t 91)], none⟩,
  ⟨0, .stores 3 (.t 4) (.t 92), none⟩,
  ⟨5, .asg (.c (.int .i64 0)), none⟩]
def l15_1 : PCode := .seq (.seq (.ops r15_20) (.cond (.t 76) (.skip) (.exit 3))) (.block 4 (.ops r15_21))
def l15_0 : PCode := .seq (.ops r15_11) (.seq (.cond (.t 42) (.skip) (.exit 1)) (.seq (.block 2 (.seq (.ops r15_12) (.seq (.ops r15_13) (.cond (.t 58) (.seq (.seq (.ops r15_14) (.cond (.t 60) (.ops r15_15) (.skip))) (.ops r15_16)) (.skip))))) (.ops r15_17)))
def p15 : PCode := .seq (.ops r15_0) (.seq (.seq (.ops r15_1) (.seq (.ops r15_2) (.cond (.t 15) (.seq (.ops r15_3) (.ret)) (.skip)))) (.seq (.block 0 (.seq (.ops r15_4) (.cond (.t 18) (.seq (.ops r15_5) (.ret)) (.seq (.ops r15_6) (.cond (.t 25) (.seq (.ops r15_7) (.ret)) (.skip)))))) (.seq (.ops r15_8) (.seq (.ops r15_9) (.seq (.seq (.ops r15_10) (.block 1 (.loop l15_0))) (.seq (.seq (.ops r15_18) (.cond (.t 65) (.seq (.ops r15_19) (.ret)) (.skip))) (.seq (.block 3 (.loop l15_1)) (.seq (.ops r15_22) (.ret)))))))))
theorem ok15 : okFunc Try.prog 15 [.c 4 3, .t 5] 2 p15 = true := by kernel_rfl
set_option maxRecDepth 20000 in
theorem need_c (l : List Smp) (a b : Int) : CallOK Try.prog 15 [.ro (l.map Smp.av), .agg (span a b)] (.tup [.agg (kept (needF l a b).1.1 (needF l a b).1.2.1 (needF l a b).1.2.2), .val (.int .i64 (needF l a b).2)]) := by
  refine call_of mixed ok15 rfl ?_
  have hs := smp_c l
  by_cases h0 : smpF l = 0
  case neg =>
    have hF : needF l a b = ((0, 0, 0), smpF l) := by simp [needF, h0]
    rw [hF]
    repeat' first | ((with_reducible (first | refine condD ?_ ?_ | refine condE ?_ ?_ | refine condN ?_ ?_ | refine condI ?_ ?_ | refine condS ?_ ?_)) <;> intro h) | ((with_reducible (first | refine guardD (by with_unfolding_all rfl) ?_ ?_ | refine guardE (by with_unfolding_all rfl) ?_ ?_ | refine guardN (by with_unfolding_all rfl) ?_ ?_ | refine guardI (by with_unfolding_all rfl) ?_ ?_ | refine guardS (by with_unfolding_all rfl) ?_ ?_)) <;> intro h) | ((refine callG hs ?_)) | (with_reducible refine And.intro ?_ ?_; omega) | (simp only [Z0,Z1,Z2,Z3,Z4,Z5,Z6,Z7,Z8,Z9,Za,Zb,Zc,Zd,Ze,Zf,List.cons.injEq,Zg,Zh,Zi,Zj,Zk,Zl,Zm,Zn,Zo,Zp,beq_self_eq_true,bne_self_eq_false,decide_true,decide_false,Zq,Zr,Zs,Zt,Zu,Zv,Zw,Zx,Zy,Zz,Y0,Y1,Y2,Y3,Y4,Y5,Y6,Y7,Y8,Y9,Ya,Yb,Yc,Yd,Ye,Yf,Yg,Yh,lk,ef,Yi,Yj,Yk,Yl,Ym,Yn,Yo,Yp,Yq,Yr,Ys,Yt,Yu,Yv,Yw,hv,Yx,ev,Yy,Yz,X0,X1,X2,X3,X4,X5,X6,X7,X8,X9,Xa,Xb,Xc,Xd,Xe,Xf,Xg,Xh,Xi,Xj,Xk,Xl,Xm,Xn,Xo,Xp,Xq,Xr,Xs,Xt,Xu,Value.oneCell',Xv,Xw,Xx,Xy,true_and,and_true,and_self,implies_true,Xz,W0,W1,W2,false_implies,W3,W4,W5,W6,W7,W8,W9,Wa,Wb,Wc,Wd,We,Wf,Wg,Wh,Wi,Wj,reduceCtorEq,if_true,if_false,Wk,↓reduceIte,Wl,Wm,Wn,Wo,Wp,Wq,ne_eq,not_false_eq_true,not_true_eq_false,Wr,Ws,r15_0,r15_1,r15_2,r15_3,r15_4,r15_5,r15_6,r15_7,r15_8,r15_9,r15_10,r15_11,r15_12,r15_13,r15_14,r15_15,r15_16,r15_17,r15_18,r15_19,r15_20,r15_21,r15_22,p15,span,kept,bne0_t h0,beq0_f h0]) | (exfalso; omega)
  obtain ⟨hl, hb, _⟩ := smpF_0 h0
  rw [h0] at hs
  by_cases hab : b ≤ a
  · have hF : needF l a b = ((0, 0, 0), 8) := by simp [needF, h0, hab]
    rw [hF]
    repeat' first | ((with_reducible (first | refine condD ?_ ?_ | refine condE ?_ ?_ | refine condN ?_ ?_ | refine condI ?_ ?_ | refine condS ?_ ?_)) <;> intro h) | ((with_reducible (first | refine guardD (by with_unfolding_all rfl) ?_ ?_ | refine guardE (by with_unfolding_all rfl) ?_ ?_ | refine guardN (by with_unfolding_all rfl) ?_ ?_ | refine guardI (by with_unfolding_all rfl) ?_ ?_ | refine guardS (by with_unfolding_all rfl) ?_ ?_)) <;> intro h) | ((refine callG hs ?_)) | (with_reducible refine And.intro ?_ ?_; omega) | (simp only [Z0,Z1,Z2,Z3,Z4,Z5,Z6,Z7,Z8,Z9,Za,Zb,Zc,Zd,Ze,Zf,List.cons.injEq,Zg,Zh,Zi,Zj,Zk,Zl,Zm,Zn,Zo,Zp,beq_self_eq_true,bne_self_eq_false,decide_true,decide_false,Zq,Zr,Zs,Zt,Zu,Zv,Zw,Zx,Zy,Zz,Y0,Y1,Y2,Y3,Y4,Y5,Y6,Y7,Y8,Y9,Ya,Yb,Yc,Yd,Ye,Yf,Yg,Yh,lk,ef,Yi,Yj,Yk,Yl,Ym,Yn,Yo,Yp,Yq,Yr,Ys,Yt,Yu,Yv,Yw,hv,Yx,ev,Yy,Yz,X0,X1,X2,X3,X4,X5,X6,X7,X8,X9,Xa,Xb,Xc,Xd,Xe,Xf,Xg,Xh,Xi,Xj,Xk,Xl,Xm,Xn,Xo,Xp,Xq,Xr,Xs,Xt,Xu,Value.oneCell',Xv,Xw,Xx,Xy,true_and,and_true,and_self,implies_true,Xz,W0,W1,W2,false_implies,W3,W4,W5,W6,W7,W8,W9,Wa,Wb,Wc,Wd,We,Wf,Wg,Wh,Wi,Wj,reduceCtorEq,if_true,if_false,Wk,↓reduceIte,Wl,Wm,Wn,Wo,Wp,Wq,ne_eq,not_false_eq_true,not_true_eq_false,Wr,Ws,r15_0,r15_1,r15_2,r15_3,r15_4,r15_5,r15_6,r15_7,r15_8,r15_9,r15_10,r15_11,r15_12,r15_13,r15_14,r15_15,r15_16,r15_17,r15_18,r15_19,r15_20,r15_21,r15_22,p15,span,kept,hab]) | (exfalso; omega)
  have t1 := notime_c a
  have t2 := notime_c b
  cases ha : noTime a
  case true =>
    have hF : needF l a b = ((0, 0, 0), 1) := by simp [needF, h0, hab, ha]
    rw [hF]
    rw [ha] at t1
    repeat' first | ((with_reducible (first | refine condD ?_ ?_ | refine condE ?_ ?_ | refine condN ?_ ?_ | refine condI ?_ ?_ | refine condS ?_ ?_)) <;> intro h) | ((with_reducible (first | refine guardD (by with_unfolding_all rfl) ?_ ?_ | refine guardE (by with_unfolding_all rfl) ?_ ?_ | refine guardN (by with_unfolding_all rfl) ?_ ?_ | refine guardI (by with_unfolding_all rfl) ?_ ?_ | refine guardS (by with_unfolding_all rfl) ?_ ?_)) <;> intro h) | ((refine callG hs ?_)) | ((refine callG t1 ?_)) | (with_reducible refine And.intro ?_ ?_; omega) | (simp only [Z0,Z1,Z2,Z3,Z4,Z5,Z6,Z7,Z8,Z9,Za,Zb,Zc,Zd,Ze,Zf,List.cons.injEq,Zg,Zh,Zi,Zj,Zk,Zl,Zm,Zn,Zo,Zp,beq_self_eq_true,bne_self_eq_false,decide_true,decide_false,Zq,Zr,Zs,Zt,Zu,Zv,Zw,Zx,Zy,Zz,Y0,Y1,Y2,Y3,Y4,Y5,Y6,Y7,Y8,Y9,Ya,Yb,Yc,Yd,Ye,Yf,Yg,Yh,lk,ef,Yi,Yj,Yk,Yl,Ym,Yn,Yo,Yp,Yq,Yr,Ys,Yt,Yu,Yv,Yw,hv,Yx,ev,Yy,Yz,X0,X1,X2,X3,X4,X5,X6,X7,X8,X9,Xa,Xb,Xc,Xd,Xe,Xf,Xg,Xh,Xi,Xj,Xk,Xl,Xm,Xn,Xo,Xp,Xq,Xr,Xs,Xt,Xu,Value.oneCell',Xv,Xw,Xx,Xy,true_and,and_true,and_self,implies_true,Xz,W0,W1,W2,false_implies,W3,W4,W5,W6,W7,W8,W9,Wa,Wb,Wc,Wd,We,Wf,Wg,Wh,Wi,Wj,reduceCtorEq,if_true,if_false,Wk,↓reduceIte,Wl,Wm,Wn,Wo,Wp,Wq,ne_eq,not_false_eq_true,not_true_eq_false,Wr,Ws,r15_0,r15_1,r15_2,r15_3,r15_4,r15_5,r15_6,r15_7,r15_8,r15_9,r15_10,r15_11,r15_12,r15_13,r15_14,r15_15,r15_16,r15_17,r15_18,r15_19,r15_20,r15_21,r15_22,p15,span,kept,hab]) | (exfalso; omega)
  cases hbt : noTime b
  case true =>
    have hF : needF l a b = ((0, 0, 0), 1) := by simp [needF, h0, hab, hbt]
    rw [hF]
    rw [ha] at t1
    rw [hbt] at t2
    repeat' first | ((with_reducible (first | refine condD ?_ ?_ | refine condE ?_ ?_ | refine condN ?_ ?_ | refine condI ?_ ?_ | refine condS ?_ ?_)) <;> intro h) | ((with_reducible (first | refine guardD (by with_unfolding_all rfl) ?_ ?_ | refine guardE (by with_unfolding_all rfl) ?_ ?_ | refine guardN (by with_unfolding_all rfl) ?_ ?_ | refine guardI (by with_unfolding_all rfl) ?_ ?_ | refine guardS (by with_unfolding_all rfl) ?_ ?_)) <;> intro h) | ((refine callG hs ?_)) | ((refine callG t1 ?_)) | ((refine callG t2 ?_)) | (with_reducible refine And.intro ?_ ?_; omega) | (simp only [Z0,Z1,Z2,Z3,Z4,Z5,Z6,Z7,Z8,Z9,Za,Zb,Zc,Zd,Ze,Zf,List.cons.injEq,Zg,Zh,Zi,Zj,Zk,Zl,Zm,Zn,Zo,Zp,beq_self_eq_true,bne_self_eq_false,decide_true,decide_false,Zq,Zr,Zs,Zt,Zu,Zv,Zw,Zx,Zy,Zz,Y0,Y1,Y2,Y3,Y4,Y5,Y6,Y7,Y8,Y9,Ya,Yb,Yc,Yd,Ye,Yf,Yg,Yh,lk,ef,Yi,Yj,Yk,Yl,Ym,Yn,Yo,Yp,Yq,Yr,Ys,Yt,Yu,Yv,Yw,hv,Yx,ev,Yy,Yz,X0,X1,X2,X3,X4,X5,X6,X7,X8,X9,Xa,Xb,Xc,Xd,Xe,Xf,Xg,Xh,Xi,Xj,Xk,Xl,Xm,Xn,Xo,Xp,Xq,Xr,Xs,Xt,Xu,Value.oneCell',Xv,Xw,Xx,Xy,true_and,and_true,and_self,implies_true,Xz,W0,W1,W2,false_implies,W3,W4,W5,W6,W7,W8,W9,Wa,Wb,Wc,Wd,We,Wf,Wg,Wh,Wi,Wj,reduceCtorEq,if_true,if_false,Wk,↓reduceIte,Wl,Wm,Wn,Wo,Wp,Wq,ne_eq,not_false_eq_true,not_true_eq_false,Wr,Ws,r15_0,r15_1,r15_2,r15_3,r15_4,r15_5,r15_6,r15_7,r15_8,r15_9,r15_10,r15_11,r15_12,r15_13,r15_14,r15_15,r15_16,r15_17,r15_18,r15_19,r15_20,r15_21,r15_22,p15,span,kept,hab]) | (exfalso; omega)
  rw [ha] at t1
  rw [hbt] at t2
  have ba := noTime_bd ha
  have bb := noTime_bd hbt
  have hF : needF l a b = needG l a b := by simp [needF, h0, hab, ha, hbt]
  obtain ⟨P, hP⟩ : ∃ P, P = presL l := ⟨_, rfl⟩
  obtain ⟨E, hE⟩ : ∃ E, E = endsL l := ⟨_, rfl⟩
  have hPl : P.length = l.length := by rw [hP]; exact presL_len l
  have hEl : E.length = l.length := by rw [hE]; exact endsL_len l
  have c1 := presents_c l hl hb
  have c2 := ends_c l hl hb
  have hPb := pres_bd hb
  unfold needG at hF
  rw [← hP] at c1 hF hPb
  rw [← hE] at c2 hF
  clear hP hE
  repeat' first | ((with_reducible (first | refine condD ?_ ?_ | refine condE ?_ ?_ | refine condN ?_ ?_ | refine condI ?_ ?_ | refine condS ?_ ?_)) <;> intro h) | ((with_reducible (first | refine guardD (by with_unfolding_all rfl) ?_ ?_ | refine guardE (by with_unfolding_all rfl) ?_ ?_ | refine guardN (by with_unfolding_all rfl) ?_ ?_ | refine guardI (by with_unfolding_all rfl) ?_ ?_ | refine guardS (by with_unfolding_all rfl) ?_ ?_)) <;> intro h) | ((refine callG hs ?_)) | ((refine callG t1 ?_)) | ((refine callG t2 ?_)) | ((refine callG c1 ?_)) | ((refine callG c2 ?_)) | (with_reducible refine And.intro ?_ ?_; omega) | (simp only [Z0,Z1,Z2,Z3,Z4,Z5,Z6,Z7,Z8,Z9,Za,Zb,Zc,Zd,Ze,Zf,List.cons.injEq,Zg,Zh,Zi,Zj,Zk,Zl,Zm,Zn,Zo,Zp,beq_self_eq_true,bne_self_eq_false,decide_true,decide_false,Zq,Zr,Zs,Zt,Zu,Zv,Zw,Zx,Zy,Zz,Y0,Y1,Y2,Y3,Y4,Y5,Y6,Y7,Y8,Y9,Ya,Yb,Yc,Yd,Ye,Yf,Yg,Yh,lk,ef,Yi,Yj,Yk,Yl,Ym,Yn,Yo,Yp,Yq,Yr,Ys,Yt,Yu,Yv,Yw,hv,Yx,ev,Yy,Yz,X0,X1,X2,X3,X4,X5,X6,X7,X8,X9,Xa,Xb,Xc,Xd,Xe,Xf,Xg,Xh,Xi,Xj,Xk,Xl,Xm,Xn,Xo,Xp,Xq,Xr,Xs,Xt,Xu,Value.oneCell',Xv,Xw,Xx,Xy,true_and,and_true,and_self,implies_true,Xz,W0,W1,W2,false_implies,W3,W4,W5,W6,W7,W8,W9,Wa,Wb,Wc,Wd,We,Wf,Wg,Wh,Wi,Wj,reduceCtorEq,if_true,if_false,Wk,↓reduceIte,Wl,Wm,Wn,Wo,Wp,Wq,ne_eq,not_false_eq_true,not_true_eq_false,Wr,Ws,r15_0,r15_1,r15_2,r15_3,r15_4,r15_5,r15_6,r15_7,r15_8,r15_9,r15_10,r15_11,r15_12,r15_13,r15_14,r15_15,r15_16,r15_17,r15_18,r15_19,r15_20,r15_21,r15_22,p15,span,kept,hab]) | (exfalso; omega)
  refine loopS (fun k : Nat => mk [(0, .ro (l.map Smp.av)), (3, .box (span a b)), (4, .box (kept 0 0 0)), (7, .ro (P.map oneI)), (8, .ro (E.map oneI)), (9, .val (.int .i64 (flK P E a b k).1)), (10, .val (.int .i64 (flK P E a b k).2)), (40, .val (.int .i64 l.length)), (41, .val (.int .i64 k))]) (fun k => k ≤ l.length) (fun k => l.length - k) 0 (weak_mk ?_) (Nat.zero_le _) ?_
  · simp only [Wt,Wu,wk1,Wv,Ww,Wx,Z4,Z5,Z6,Z7,Z8,Z9,Za,Zb,Zc,Zd,Ze,Zf,List.cons.injEq,Zg,Zh,Zi,Zj,Zk,Zl,Zm,Zn,Zo,Zp,beq_self_eq_true,bne_self_eq_false,decide_true,decide_false,Zq,Zr,Zs,Zt,Zu,Zv,Zw,Zx,Zy,Zz,Y0,hv,Yx,ev,Yy,Yz,X0,X1,X2,X3,X4,X5,X6,X7,X8,X9,Xa,Xb,Xc,Xd,Xe,Xf,Xg,Xh,Xi,Xj,Xk,Xl,Xm,Xn,Xo,Xp,Xq,Xr,Xs,Xt,Xu,Value.oneCell',Xv,Xw,Xx,Xy,true_and,and_true,and_self,implies_true,Xz,W0,W1,W2,false_implies,W3,W4,W5,W6,W7,W8,W9,Wa,Wb,Wc,Wd,We,Wf,Wg,Wh,Wi,Wj,reduceCtorEq,if_true,if_false,Wk,↓reduceIte,Wl,Wm,Wn,Wo,Wp,Wq,ne_eq,not_false_eq_true,not_true_eq_false,Wr,Nat.zero_ne_one]
    simp [flK, span, kept]
  · rintro J hJ k hk
    simp only [Z0,Z1,Z2,Z3,Z4,Z5,Z6,Z7,Z8,Z9,Za,Zb,Zc,Zd,Ze,Zf,List.cons.injEq,Zg,Zh,Zi,Zj,Zk,Zl,Zm,Zn,Zo,Zp,beq_self_eq_true,bne_self_eq_false,decide_true,decide_false,Zq,Zr,Zs,Zt,Zu,Zv,Zw,Zx,Zy,Zz,Y0,Y1,Y2,Y3,Y4,Y5,Y6,Y7,Y8,Y9,Ya,Yb,Yc,Yd,Ye,Yf,Yg,Yh,lk,ef,Yi,Yj,Yk,Yl,Ym,Yn,Yo,Yp,Yq,Yr,Ys,Yt,Yu,Yv,Yw,hv,Yx,ev,Yy,Yz,X0,X1,X2,X3,X4,X5,X6,X7,X8,X9,Xa,Xb,Xc,Xd,Xe,Xf,Xg,Xh,Xi,Xj,Xk,Xl,Xm,Xn,Xo,Xp,Xq,Xr,Xs,Xt,Xu,Value.oneCell',Xv,Xw,Xx,Xy,true_and,and_true,and_self,implies_true,Xz,W0,W1,W2,false_implies,W3,W4,W5,W6,W7,W8,W9,Wa,Wb,Wc,Wd,We,Wf,Wg,Wh,Wi,Wj,reduceCtorEq,if_true,if_false,Wk,↓reduceIte,Wl,Wm,Wn,Wo,Wp,Wq,ne_eq,not_false_eq_true,not_true_eq_false,Wr,Ws,r15_0,r15_1,r15_2,r15_3,r15_4,r15_5,r15_6,r15_7,r15_8,r15_9,r15_10,r15_11,r15_12,r15_13,r15_14,r15_15,r15_16,r15_17,r15_18,r15_19,r15_20,r15_21,r15_22,p15,l15_0]
    refine condD (fun h => ?_) (fun h => ?_)
    · have hlt : k < l.length := by omega
      have hlp : k < P.length := by omega
      have hle : k < E.length := by omega
      have hw := i_add1 k (by omega)
      have hhit : hitP P E a b k = decide ((if P[k] < a then a else P[k]) < (if b < E[k] then b else E[k])) := by unfold hitP; rw [getD_in hlp, getD_in hle]
      have hstep : flK P E a b (k + 1) = if hitP P E a b k then (if (flK P E a b k).1 < 0 then (k : Int) else (flK P E a b k).1, (k : Int)) else flK P E a b k := rfl
      by_cases hh : (if P[k] < a then a else P[k]) < (if b < E[k] then b else E[k])
      · have hh' : hitP P E a b k = true := by rw [hhit]; exact decide_eq_true hh
        rw [hh'] at hstep
        simp only [if_true] at hstep
        by_cases hf : (flK P E a b k).1 < 0
        · rw [if_pos hf] at hstep
          repeat' first | ((with_reducible (first | refine condD ?_ ?_ | refine condE ?_ ?_ | refine condN ?_ ?_ | refine condI ?_ ?_ | refine condS ?_ ?_)) <;> intro h) | ((with_reducible (first | refine guardD (by with_unfolding_all rfl) ?_ ?_ | refine guardE (by with_unfolding_all rfl) ?_ ?_ | refine guardN (by with_unfolding_all rfl) ?_ ?_ | refine guardI (by with_unfolding_all rfl) ?_ ?_ | refine guardS (by with_unfolding_all rfl) ?_ ?_)) <;> intro h) | (with_reducible refine And.intro ?_ ?_; omega) | (simp only [Z0,Z1,Z2,Z3,Z4,Z5,Z6,Z7,Z8,Z9,Za,Zb,Zc,Zd,Ze,Zf,List.cons.injEq,Zg,Zh,Zi,Zj,Zk,Zl,Zm,Zn,Zo,Zp,beq_self_eq_true,bne_self_eq_false,decide_true,decide_false,Zq,Zr,Zs,Zt,Zu,Zv,Zw,Zx,Zy,Zz,Y0,Y1,Y2,Y3,Y4,Y5,Y6,Y7,Y8,Y9,Ya,Yb,Yc,Yd,Ye,Yf,Yg,Yh,lk,ef,Yi,Yj,Yk,Yl,Ym,Yn,Yo,Yp,Yq,Yr,Ys,Yt,Yu,Yv,Yw,hv,Yx,ev,Yy,Yz,X0,X1,X2,X3,X4,X5,X6,X7,X8,X9,Xa,Xb,Xc,Xd,Xe,Xf,Xg,Xh,Xi,Xj,Xk,Xl,Xm,Xn,Xo,Xp,Xq,Xr,Xs,Xt,Xu,Value.oneCell',Xv,Xw,Xx,Xy,true_and,and_true,and_self,implies_true,Xz,W0,W1,W2,false_implies,W3,W4,W5,W6,W7,W8,W9,Wa,Wb,Wc,Wd,We,Wf,Wg,Wh,Wi,Wj,reduceCtorEq,if_true,if_false,Wk,↓reduceIte,Wl,Wm,Wn,Wo,Wp,Wq,ne_eq,not_false_eq_true,not_true_eq_false,Wr,Ws,r15_0,r15_1,r15_2,r15_3,r15_4,r15_5,r15_6,r15_7,r15_8,r15_9,r15_10,r15_11,r15_12,r15_13,r15_14,r15_15,r15_16,r15_17,r15_18,r15_19,r15_20,r15_21,r15_22,p15,l15_0,span,kept,oneI,getD_map hlp,getD_map hle,hh,hf]) | (exfalso; omega)
          all_goals exact again hJ (k + 1) (weak_mk (by simp only [Wt,Wu,wk1,Wv,Ww,Wx,Z4,Z5,Z6,Z7,Z8,Z9,Za,Zb,Zc,Zd,Ze,Zf,List.cons.injEq,Zg,Zh,Zi,Zj,Zk,Zl,Zm,Zn,Zo,Zp,beq_self_eq_true,bne_self_eq_false,decide_true,decide_false,Zq,Zr,Zs,Zt,Zu,Zv,Zw,Zx,Zy,Zz,Y0,hv,Yx,ev,Yy,Yz,X0,X1,X2,X3,X4,X5,X6,X7,X8,X9,Xa,Xb,Xc,Xd,Xe,Xf,Xg,Xh,Xi,Xj,Xk,Xl,Xm,Xn,Xo,Xp,Xq,Xr,Xs,Xt,Xu,Value.oneCell',Xv,Xw,Xx,Xy,true_and,and_true,and_self,implies_true,Xz,W0,W1,W2,false_implies,W3,W4,W5,W6,W7,W8,W9,Wa,Wb,Wc,Wd,We,Wf,Wg,Wh,Wi,Wj,reduceCtorEq,if_true,if_false,Wk,↓reduceIte,Wl,Wm,Wn,Wo,Wp,Wq,ne_eq,not_false_eq_true,not_true_eq_false,Wr,Nat.zero_ne_one]; rw [hstep]; simp [hw, span, kept])) (by omega) (by omega)
        · rw [if_neg hf] at hstep
          repeat' first | ((with_reducible (first | refine condD ?_ ?_ | refine condE ?_ ?_ | refine condN ?_ ?_ | refine condI ?_ ?_ | refine condS ?_ ?_)) <;> intro h) | ((with_reducible (first | refine guardD (by with_unfolding_all rfl) ?_ ?_ | refine guardE (by with_unfolding_all rfl) ?_ ?_ | refine guardN (by with_unfolding_all rfl) ?_ ?_ | refine guardI (by with_unfolding_all rfl) ?_ ?_ | refine guardS (by with_unfolding_all rfl) ?_ ?_)) <;> intro h) | (with_reducible refine And.intro ?_ ?_; omega) | (simp only [Z0,Z1,Z2,Z3,Z4,Z5,Z6,Z7,Z8,Z9,Za,Zb,Zc,Zd,Ze,Zf,List.cons.injEq,Zg,Zh,Zi,Zj,Zk,Zl,Zm,Zn,Zo,Zp,beq_self_eq_true,bne_self_eq_false,decide_true,decide_false,Zq,Zr,Zs,Zt,Zu,Zv,Zw,Zx,Zy,Zz,Y0,Y1,Y2,Y3,Y4,Y5,Y6,Y7,Y8,Y9,Ya,Yb,Yc,Yd,Ye,Yf,Yg,Yh,lk,ef,Yi,Yj,Yk,Yl,Ym,Yn,Yo,Yp,Yq,Yr,Ys,Yt,Yu,Yv,Yw,hv,Yx,ev,Yy,Yz,X0,X1,X2,X3,X4,X5,X6,X7,X8,X9,Xa,Xb,Xc,Xd,Xe,Xf,Xg,Xh,Xi,Xj,Xk,Xl,Xm,Xn,Xo,Xp,Xq,Xr,Xs,Xt,Xu,Value.oneCell',Xv,Xw,Xx,Xy,true_and,and_true,and_self,implies_true,Xz,W0,W1,W2,false_implies,W3,W4,W5,W6,W7,W8,W9,Wa,Wb,Wc,Wd,We,Wf,Wg,Wh,Wi,Wj,reduceCtorEq,if_true,if_false,Wk,↓reduceIte,Wl,Wm,Wn,Wo,Wp,Wq,ne_eq,not_false_eq_true,not_true_eq_false,Wr,Ws,r15_0,r15_1,r15_2,r15_3,r15_4,r15_5,r15_6,r15_7,r15_8,r15_9,r15_10,r15_11,r15_12,r15_13,r15_14,r15_15,r15_16,r15_17,r15_18,r15_19,r15_20,r15_21,r15_22,p15,l15_0,span,kept,oneI,getD_map hlp,getD_map hle,hh,hf]) | (exfalso; omega)
          all_goals exact again hJ (k + 1) (weak_mk (by simp only [Wt,Wu,wk1,Wv,Ww,Wx,Z4,Z5,Z6,Z7,Z8,Z9,Za,Zb,Zc,Zd,Ze,Zf,List.cons.injEq,Zg,Zh,Zi,Zj,Zk,Zl,Zm,Zn,Zo,Zp,beq_self_eq_true,bne_self_eq_false,decide_true,decide_false,Zq,Zr,Zs,Zt,Zu,Zv,Zw,Zx,Zy,Zz,Y0,hv,Yx,ev,Yy,Yz,X0,X1,X2,X3,X4,X5,X6,X7,X8,X9,Xa,Xb,Xc,Xd,Xe,Xf,Xg,Xh,Xi,Xj,Xk,Xl,Xm,Xn,Xo,Xp,Xq,Xr,Xs,Xt,Xu,Value.oneCell',Xv,Xw,Xx,Xy,true_and,and_true,and_self,implies_true,Xz,W0,W1,W2,false_implies,W3,W4,W5,W6,W7,W8,W9,Wa,Wb,Wc,Wd,We,Wf,Wg,Wh,Wi,Wj,reduceCtorEq,if_true,if_false,Wk,↓reduceIte,Wl,Wm,Wn,Wo,Wp,Wq,ne_eq,not_false_eq_true,not_true_eq_false,Wr,Nat.zero_ne_one]; rw [hstep]; simp [hw, span, kept])) (by omega) (by omega)
      · have hh' : hitP P E a b k = false := by rw [hhit]; exact decide_eq_false hh
        rw [hh'] at hstep
        simp only [Bool.false_eq_true, if_false] at hstep
        repeat' first | ((with_reducible (first | refine condD ?_ ?_ | refine condE ?_ ?_ | refine condN ?_ ?_ | refine condI ?_ ?_ | refine condS ?_ ?_)) <;> intro h) | ((with_reducible (first | refine guardD (by with_unfolding_all rfl) ?_ ?_ | refine guardE (by with_unfolding_all rfl) ?_ ?_ | refine guardN (by with_unfolding_all rfl) ?_ ?_ | refine guardI (by with_unfolding_all rfl) ?_ ?_ | refine guardS (by with_unfolding_all rfl) ?_ ?_)) <;> intro h) | (with_reducible refine And.intro ?_ ?_; omega) | (simp only [Z0,Z1,Z2,Z3,Z4,Z5,Z6,Z7,Z8,Z9,Za,Zb,Zc,Zd,Ze,Zf,List.cons.injEq,Zg,Zh,Zi,Zj,Zk,Zl,Zm,Zn,Zo,Zp,beq_self_eq_true,bne_self_eq_false,decide_true,decide_false,Zq,Zr,Zs,Zt,Zu,Zv,Zw,Zx,Zy,Zz,Y0,Y1,Y2,Y3,Y4,Y5,Y6,Y7,Y8,Y9,Ya,Yb,Yc,Yd,Ye,Yf,Yg,Yh,lk,ef,Yi,Yj,Yk,Yl,Ym,Yn,Yo,Yp,Yq,Yr,Ys,Yt,Yu,Yv,Yw,hv,Yx,ev,Yy,Yz,X0,X1,X2,X3,X4,X5,X6,X7,X8,X9,Xa,Xb,Xc,Xd,Xe,Xf,Xg,Xh,Xi,Xj,Xk,Xl,Xm,Xn,Xo,Xp,Xq,Xr,Xs,Xt,Xu,Value.oneCell',Xv,Xw,Xx,Xy,true_and,and_true,and_self,implies_true,Xz,W0,W1,W2,false_implies,W3,W4,W5,W6,W7,W8,W9,Wa,Wb,Wc,Wd,We,Wf,Wg,Wh,Wi,Wj,reduceCtorEq,if_true,if_false,Wk,↓reduceIte,Wl,Wm,Wn,Wo,Wp,Wq,ne_eq,not_false_eq_true,not_true_eq_false,Wr,Ws,r15_0,r15_1,r15_2,r15_3,r15_4,r15_5,r15_6,r15_7,r15_8,r15_9,r15_10,r15_11,r15_12,r15_13,r15_14,r15_15,r15_16,r15_17,r15_18,r15_19,r15_20,r15_21,r15_22,p15,l15_0,span,kept,oneI,getD_map hlp,getD_map hle,hh]) | (exfalso; omega)
        all_goals exact again hJ (k + 1) (weak_mk (by simp only [Wt,Wu,wk1,Wv,Ww,Wx,Z4,Z5,Z6,Z7,Z8,Z9,Za,Zb,Zc,Zd,Ze,Zf,List.cons.injEq,Zg,Zh,Zi,Zj,Zk,Zl,Zm,Zn,Zo,Zp,beq_self_eq_true,bne_self_eq_false,decide_true,decide_false,Zq,Zr,Zs,Zt,Zu,Zv,Zw,Zx,Zy,Zz,Y0,hv,Yx,ev,Yy,Yz,X0,X1,X2,X3,X4,X5,X6,X7,X8,X9,Xa,Xb,Xc,Xd,Xe,Xf,Xg,Xh,Xi,Xj,Xk,Xl,Xm,Xn,Xo,Xp,Xq,Xr,Xs,Xt,Xu,Value.oneCell',Xv,Xw,Xx,Xy,true_and,and_true,and_self,implies_true,Xz,W0,W1,W2,false_implies,W3,W4,W5,W6,W7,W8,W9,Wa,Wb,Wc,Wd,We,Wf,Wg,Wh,Wi,Wj,reduceCtorEq,if_true,if_false,Wk,↓reduceIte,Wl,Wm,Wn,Wo,Wp,Wq,ne_eq,not_false_eq_true,not_true_eq_false,Wr,Nat.zero_ne_one]; rw [hstep]; simp [hw, span, kept])) (by omega) (by omega)
    · have hke : k = l.length := by omega
      subst hke
      clear hJ
      rcases flK_is P E a b l.length with ⟨hf, _⟩ | ⟨f, t, hft, h1, h2, h3, h4⟩
      · rw [if_pos hf] at hF
        rw [hF]
        repeat' first | ((with_reducible (first | refine condD ?_ ?_ | refine condE ?_ ?_ | refine condN ?_ ?_ | refine condI ?_ ?_ | refine condS ?_ ?_)) <;> intro h) | ((with_reducible (first | refine guardD (by with_unfolding_all rfl) ?_ ?_ | refine guardE (by with_unfolding_all rfl) ?_ ?_ | refine guardN (by with_unfolding_all rfl) ?_ ?_ | refine guardI (by with_unfolding_all rfl) ?_ ?_ | refine guardS (by with_unfolding_all rfl) ?_ ?_)) <;> intro h) | (with_reducible refine And.intro ?_ ?_; omega) | (simp only [Z0,Z1,Z2,Z3,Z4,Z5,Z6,Z7,Z8,Z9,Za,Zb,Zc,Zd,Ze,Zf,List.cons.injEq,Zg,Zh,Zi,Zj,Zk,Zl,Zm,Zn,Zo,Zp,beq_self_eq_true,bne_self_eq_false,decide_true,decide_false,Zq,Zr,Zs,Zt,Zu,Zv,Zw,Zx,Zy,Zz,Y0,Y1,Y2,Y3,Y4,Y5,Y6,Y7,Y8,Y9,Ya,Yb,Yc,Yd,Ye,Yf,Yg,Yh,lk,ef,Yi,Yj,Yk,Yl,Ym,Yn,Yo,Yp,Yq,Yr,Ys,Yt,Yu,Yv,Yw,hv,Yx,ev,Yy,Yz,X0,X1,X2,X3,X4,X5,X6,X7,X8,X9,Xa,Xb,Xc,Xd,Xe,Xf,Xg,Xh,Xi,Xj,Xk,Xl,Xm,Xn,Xo,Xp,Xq,Xr,Xs,Xt,Xu,Value.oneCell',Xv,Xw,Xx,Xy,true_and,and_true,and_self,implies_true,Xz,W0,W1,W2,false_implies,W3,W4,W5,W6,W7,W8,W9,Wa,Wb,Wc,Wd,We,Wf,Wg,Wh,Wi,Wj,reduceCtorEq,if_true,if_false,Wk,↓reduceIte,Wl,Wm,Wn,Wo,Wp,Wq,ne_eq,not_false_eq_true,not_true_eq_false,Wr,Ws,r15_0,r15_1,r15_2,r15_3,r15_4,r15_5,r15_6,r15_7,r15_8,r15_9,r15_10,r15_11,r15_12,r15_13,r15_14,r15_15,r15_16,r15_17,r15_18,r15_19,r15_20,r15_21,r15_22,p15,l15_0,span,kept,hf]) | (exfalso; omega)
      · rw [hft] at hF ⊢
        have hf0 : ¬ (f : Int) < 0 := by omega
        simp only [hf0, if_false, Int.toNat_natCast] at hF
        repeat' first | ((with_reducible (first | refine condD ?_ ?_ | refine condE ?_ ?_ | refine condN ?_ ?_ | refine condI ?_ ?_ | refine condS ?_ ?_)) <;> intro h) | ((with_reducible (first | refine guardD (by with_unfolding_all rfl) ?_ ?_ | refine guardE (by with_unfolding_all rfl) ?_ ?_ | refine guardN (by with_unfolding_all rfl) ?_ ?_ | refine guardI (by with_unfolding_all rfl) ?_ ?_ | refine guardS (by with_unfolding_all rfl) ?_ ?_)) <;> intro h) | (with_reducible refine And.intro ?_ ?_; omega) | (simp only [Z0,Z1,Z2,Z3,Z4,Z5,Z6,Z7,Z8,Z9,Za,Zb,Zc,Zd,Ze,Zf,List.cons.injEq,Zg,Zh,Zi,Zj,Zk,Zl,Zm,Zn,Zo,Zp,beq_self_eq_true,bne_self_eq_false,decide_true,decide_false,Zq,Zr,Zs,Zt,Zu,Zv,Zw,Zx,Zy,Zz,Y0,Y1,Y2,Y3,Y4,Y5,Y6,Y7,Y8,Y9,Ya,Yb,Yc,Yd,Ye,Yf,Yg,Yh,lk,ef,Yi,Yj,Yk,Yl,Ym,Yn,Yo,Yp,Yq,Yr,Ys,Yt,Yu,Yv,Yw,hv,Yx,ev,Yy,Yz,X0,X1,X2,X3,X4,X5,X6,X7,X8,X9,Xa,Xb,Xc,Xd,Xe,Xf,Xg,Xh,Xi,Xj,Xk,Xl,Xm,Xn,Xo,Xp,Xq,Xr,Xs,Xt,Xu,Value.oneCell',Xv,Xw,Xx,Xy,true_and,and_true,and_self,implies_true,Xz,W0,W1,W2,false_implies,W3,W4,W5,W6,W7,W8,W9,Wa,Wb,Wc,Wd,We,Wf,Wg,Wh,Wi,Wj,reduceCtorEq,if_true,if_false,Wk,↓reduceIte,Wl,Wm,Wn,Wo,Wp,Wq,ne_eq,not_false_eq_true,not_true_eq_false,Wr,Ws,r15_0,r15_1,r15_2,r15_3,r15_4,r15_5,r15_6,r15_7,r15_8,r15_9,r15_10,r15_11,r15_12,r15_13,r15_14,r15_15,r15_16,r15_17,r15_18,r15_19,r15_20,r15_21,r15_22,p15,l15_0,span,kept,hf0]) | (exfalso; omega)
        refine loopS (fun j : Nat => mk [(0, .ro (l.map Smp.av)), (3, .box (span a b)), (4, .box (kept 0 0 0)), (7, .ro (P.map oneI)), (9, .val (.int .i64 j)), (10, .val (.int .i64 t))]) (fun j => j ≤ f ∧ backK l f = backK l j) (fun j => j) f (weak_mk ?_) ⟨Nat.le_refl _, rfl⟩ ?_
        · simp only [Wt,Wu,wk1,Wv,Ww,Wx,Z4,Z5,Z6,Z7,Z8,Z9,Za,Zb,Zc,Zd,Ze,Zf,List.cons.injEq,Zg,Zh,Zi,Zj,Zk,Zl,Zm,Zn,Zo,Zp,beq_self_eq_true,bne_self_eq_false,decide_true,decide_false,Zq,Zr,Zs,Zt,Zu,Zv,Zw,Zx,Zy,Zz,Y0,hv,Yx,ev,Yy,Yz,X0,X1,X2,X3,X4,X5,X6,X7,X8,X9,Xa,Xb,Xc,Xd,Xe,Xf,Xg,Xh,Xi,Xj,Xk,Xl,Xm,Xn,Xo,Xp,Xq,Xr,Xs,Xt,Xu,Value.oneCell',Xv,Xw,Xx,Xy,true_and,and_true,and_self,implies_true,Xz,W0,W1,W2,false_implies,W3,W4,W5,W6,W7,W8,W9,Wa,Wb,Wc,Wd,We,Wf,Wg,Wh,Wi,Wj,reduceCtorEq,if_true,if_false,Wk,↓reduceIte,Wl,Wm,Wn,Wo,Wp,Wq,ne_eq,not_false_eq_true,not_true_eq_false,Wr,Nat.zero_ne_one]
          simp [span, kept]
        · rintro J hJ j ⟨hj, hbk⟩
          have rest : ∀ q : Nat, q = backK l f → ∀ x, x = max 0 (a - Go.Lib.minOf ((P.take (t + 1)).drop q)) → needF l a b = (((q : Int), (t : Int) + 1, x), 0) := fun q hq x hx => by rw [hF, hx, hq]
          have hlj : j < l.length := by omega
          have hgj := getD_map (f := Smp.av) (d := []) hlj
          have htt : t + 1 < 9223372036854775807 := by omega
          have hw1 := i_add1 t (by omega)
          have hsub : (P.take (t + 1)).drop j ≠ [] := by
            intro e
            have := congrArg List.length e
            simp at this; omega
          have hm := min_c _ hsub
          have hmb := hPb _ (List.mem_of_mem_take (List.mem_of_mem_drop (minOf_is hsub).1))
          have w2 : IntKind.i64.wrap (a - Go.Lib.minOf ((P.take (t + 1)).drop j)) = a - Go.Lib.minOf ((P.take (t + 1)).drop j) := wrap_in (by omega) (by omega)
          rcases Nat.eq_zero_or_pos j with rfl | hjp
          · have hz0 : ¬ (0 : Int) < ((0 : Nat) : Int) := by omega
            have hR := rest 0 (by rw [hbk]; rfl) _ rfl
            rw [hR]
            generalize Go.Lib.minOf ((P.take (t + 1)).drop 0) = M at *
            repeat' first | ((with_reducible (first | refine condD ?_ ?_ | refine condE ?_ ?_ | refine condN ?_ ?_ | refine condI ?_ ?_ | refine condS ?_ ?_)) <;> intro h) | ((with_reducible (first | refine guardD (by with_unfolding_all rfl) ?_ ?_ | refine guardE (by with_unfolding_all rfl) ?_ ?_ | refine guardN (by with_unfolding_all rfl) ?_ ?_ | refine guardI (by with_unfolding_all rfl) ?_ ?_ | refine guardS (by with_unfolding_all rfl) ?_ ?_)) <;> intro h) | ((refine callG hm ?_)) | (with_reducible refine And.intro ?_ ?_; omega) | (simp only [Z0,Z1,Z2,Z3,Z4,Z5,Z6,Z7,Z8,Z9,Za,Zb,Zc,Zd,Ze,Zf,List.cons.injEq,Zg,Zh,Zi,Zj,Zk,Zl,Zm,Zn,Zo,Zp,beq_self_eq_true,bne_self_eq_false,decide_true,decide_false,Zq,Zr,Zs,Zt,Zu,Zv,Zw,Zx,Zy,Zz,Y0,Y1,Y2,Y3,Y4,Y5,Y6,Y7,Y8,Y9,Ya,Yb,Yc,Yd,Ye,Yf,Yg,Yh,lk,ef,Yi,Yj,Yk,Yl,Ym,Yn,Yo,Yp,Yq,Yr,Ys,Yt,Yu,Yv,Yw,hv,Yx,ev,Yy,Yz,X0,X1,X2,X3,X4,X5,X6,X7,X8,X9,Xa,Xb,Xc,Xd,Xe,Xf,Xg,Xh,Xi,Xj,Xk,Xl,Xm,Xn,Xo,Xp,Xq,Xr,Xs,Xt,Xu,Value.oneCell',Xv,Xw,Xx,Xy,true_and,and_true,and_self,implies_true,Xz,W0,W1,W2,false_implies,W3,W4,W5,W6,W7,W8,W9,Wa,Wb,Wc,Wd,We,Wf,Wg,Wh,Wi,Wj,reduceCtorEq,if_true,if_false,Wk,↓reduceIte,Wl,Wm,Wn,Wo,Wp,Wq,ne_eq,not_false_eq_true,not_true_eq_false,Wr,Ws,r15_0,r15_1,r15_2,r15_3,r15_4,r15_5,r15_6,r15_7,r15_8,r15_9,r15_10,r15_11,r15_12,r15_13,r15_14,r15_15,r15_16,r15_17,r15_18,r15_19,r15_20,r15_21,r15_22,p15,l15_1,span,kept,hz0,hw1,w2,hPl,← List.map_take,← List.map_drop,ones_len']) | (exfalso; omega)
            all_goals (split <;> omega)
          · obtain ⟨i, rfl⟩ : ∃ i, j = i + 1 := ⟨j - 1, by omega⟩
            have v0 := i_sub1 (i + 1) (by omega) (by omega)
            rw [Nat.add_sub_cancel] at v0
            have hp0 : (0 : Int) < ((i + 1 : Nat) : Int) := by omega
            have hgd : l.getD (i + 1) ⟨0, 0, 0, 0, false⟩ = l[i + 1] := by rw [List.getD_eq_getElem?_getD, List.getElem?_eq_getElem hlj]; rfl
            rw [backK, hgd] at hbk
            cases hkey : l[i + 1].key
            · rw [hkey] at hbk
              simp only [Bool.false_eq_true, if_false] at hbk
              repeat' first | ((with_reducible (first | refine condD ?_ ?_ | refine condE ?_ ?_ | refine condN ?_ ?_ | refine condI ?_ ?_ | refine condS ?_ ?_)) <;> intro h) | ((with_reducible (first | refine guardD (by with_unfolding_all rfl) ?_ ?_ | refine guardE (by with_unfolding_all rfl) ?_ ?_ | refine guardN (by with_unfolding_all rfl) ?_ ?_ | refine guardI (by with_unfolding_all rfl) ?_ ?_ | refine guardS (by with_unfolding_all rfl) ?_ ?_)) <;> intro h) | (with_reducible refine And.intro ?_ ?_; omega) | (simp only [Z0,Z1,Z2,Z3,Z4,Z5,Z6,Z7,Z8,Z9,Za,Zb,Zc,Zd,Ze,Zf,List.cons.injEq,Zg,Zh,Zi,Zj,Zk,Zl,Zm,Zn,Zo,Zp,beq_self_eq_true,bne_self_eq_false,decide_true,decide_false,Zq,Zr,Zs,Zt,Zu,Zv,Zw,Zx,Zy,Zz,Y0,Y1,Y2,Y3,Y4,Y5,Y6,Y7,Y8,Y9,Ya,Yb,Yc,Yd,Ye,Yf,Yg,Yh,lk,ef,Yi,Yj,Yk,Yl,Ym,Yn,Yo,Yp,Yq,Yr,Ys,Yt,Yu,Yv,Yw,hv,Yx,ev,Yy,Yz,X0,X1,X2,X3,X4,X5,X6,X7,X8,X9,Xa,Xb,Xc,Xd,Xe,Xf,Xg,Xh,Xi,Xj,Xk,Xl,Xm,Xn,Xo,Xp,Xq,Xr,Xs,Xt,Xu,Value.oneCell',Xv,Xw,Xx,Xy,true_and,and_true,and_self,implies_true,Xz,W0,W1,W2,false_implies,W3,W4,W5,W6,W7,W8,W9,Wa,Wb,Wc,Wd,We,Wf,Wg,Wh,Wi,Wj,reduceCtorEq,if_true,if_false,Wk,↓reduceIte,Wl,Wm,Wn,Wo,Wp,Wq,ne_eq,not_false_eq_true,not_true_eq_false,Wr,Ws,r15_0,r15_1,r15_2,r15_3,r15_4,r15_5,r15_6,r15_7,r15_8,r15_9,r15_10,r15_11,r15_12,r15_13,r15_14,r15_15,r15_16,r15_17,r15_18,r15_19,r15_20,r15_21,r15_22,p15,l15_1,span,kept,hp0,v0,hgj,Smp.av,hkey]) | (exfalso; omega)
              all_goals exact again hJ i (weak_mk (by simp only [Wt,Wu,wk1,Wv,Ww,Wx,Z4,Z5,Z6,Z7,Z8,Z9,Za,Zb,Zc,Zd,Ze,Zf,List.cons.injEq,Zg,Zh,Zi,Zj,Zk,Zl,Zm,Zn,Zo,Zp,beq_self_eq_true,bne_self_eq_false,decide_true,decide_false,Zq,Zr,Zs,Zt,Zu,Zv,Zw,Zx,Zy,Zz,Y0,hv,Yx,ev,Yy,Yz,X0,X1,X2,X3,X4,X5,X6,X7,X8,X9,Xa,Xb,Xc,Xd,Xe,Xf,Xg,Xh,Xi,Xj,Xk,Xl,Xm,Xn,Xo,Xp,Xq,Xr,Xs,Xt,Xu,Value.oneCell',Xv,Xw,Xx,Xy,true_and,and_true,and_self,implies_true,Xz,W0,W1,W2,false_implies,W3,W4,W5,W6,W7,W8,W9,Wa,Wb,Wc,Wd,We,Wf,Wg,Wh,Wi,Wj,reduceCtorEq,if_true,if_false,Wk,↓reduceIte,Wl,Wm,Wn,Wo,Wp,Wq,ne_eq,not_false_eq_true,not_true_eq_false,Wr,Nat.zero_ne_one]; simp [span, kept])) ⟨by omega, hbk⟩ (by omega)
            · rw [hkey] at hbk
              simp only [if_true] at hbk
              have hR := rest (i + 1) hbk.symm _ rfl
              rw [hR]
              generalize Go.Lib.minOf ((P.take (t + 1)).drop (i + 1)) = M at *
              repeat' first | ((with_reducible (first | refine condD ?_ ?_ | refine condE ?_ ?_ | refine condN ?_ ?_ | refine condI ?_ ?_ | refine condS ?_ ?_)) <;> intro h) | ((with_reducible (first | refine guardD (by with_unfolding_all rfl) ?_ ?_ | refine guardE (by with_unfolding_all rfl) ?_ ?_ | refine guardN (by with_unfolding_all rfl) ?_ ?_ | refine guardI (by with_unfolding_all rfl) ?_ ?_ | refine guardS (by with_unfolding_all rfl) ?_ ?_)) <;> intro h) | ((refine callG hm ?_)) | (with_reducible refine And.intro ?_ ?_; omega) | (simp only [Z0,Z1,Z2,Z3,Z4,Z5,Z6,Z7,Z8,Z9,Za,Zb,Zc,Zd,Ze,Zf,List.cons.injEq,Zg,Zh,Zi,Zj,Zk,Zl,Zm,Zn,Zo,Zp,beq_self_eq_true,bne_self_eq_false,decide_true,decide_false,Zq,Zr,Zs,Zt,Zu,Zv,Zw,Zx,Zy,Zz,Y0,Y1,Y2,Y3,Y4,Y5,Y6,Y7,Y8,Y9,Ya,Yb,Yc,Yd,Ye,Yf,Yg,Yh,lk,ef,Yi,Yj,Yk,Yl,Ym,Yn,Yo,Yp,Yq,Yr,Ys,Yt,Yu,Yv,Yw,hv,Yx,ev,Yy,Yz,X0,X1,X2,X3,X4,X5,X6,X7,X8,X9,Xa,Xb,Xc,Xd,Xe,Xf,Xg,Xh,Xi,Xj,Xk,Xl,Xm,Xn,Xo,Xp,Xq,Xr,Xs,Xt,Xu,Value.oneCell',Xv,Xw,Xx,Xy,true_and,and_true,and_self,implies_true,Xz,W0,W1,W2,false_implies,W3,W4,W5,W6,W7,W8,W9,Wa,Wb,Wc,Wd,We,Wf,Wg,Wh,Wi,Wj,reduceCtorEq,if_true,if_false,Wk,↓reduceIte,Wl,Wm,Wn,Wo,Wp,Wq,ne_eq,not_false_eq_true,not_true_eq_false,Wr,Ws,r15_0,r15_1,r15_2,r15_3,r15_4,r15_5,r15_6,r15_7,r15_8,r15_9,r15_10,r15_11,r15_12,r15_13,r15_14,r15_15,r15_16,r15_17,r15_18,r15_19,r15_20,r15_21,r15_22,p15,l15_1,span,kept,hp0,hgj,Smp.av,hkey,hw1,w2,hPl,← List.map_take,← List.map_drop,ones_len']) | (exfalso; omega)
              all_goals (split <;> omega)
def cutF (l : List Smp) (f t : Int) : List Smp × Int :=
  if smpF l ≠ 0 then ([], smpF l) else if f < 0 ∨ t < f ∨ (l.length : Int) < t then ([], 1) else ((l.take t.toNat).drop f.toNat, 0)
/-! headend/sample.Cut -/
def r18_0 : List POp := [⟨3, .boxs (.t 1), none⟩,
  ⟨4, .asg .nil, none⟩,
  ⟨5, .asg (.c (.int .i64 0)), none⟩]
def r18_1 : List POp := [⟨7, .mv (.t 0), none⟩,
  ⟨8, .call 40 [.t 7], none⟩,
  ⟨6, .asg (.t 8), none⟩]
def r18_2 : List POp := [⟨9, .mv (.t 6), none⟩,
  ⟨10, .bin .neq (.t 9) (.c (.int .i64 0)), none⟩]
def r18_3 : List POp := [⟨11, .mv (.t 6), none⟩,
  ⟨4, .asg .nil, none⟩,
  ⟨5, .mv (.t 11), none⟩]
def r18_4 : List POp := [⟨12, .fld 0 (.t 3), none⟩,
  ⟨13, .load (.t 12), none⟩,
  ⟨14, .bin .lss (.t 13) (.c (.int .i64 0)), none⟩,
  ⟨15, .mv (.t 14), none⟩,
  ⟨16, .fld 0 (.t 3), some (15, false)⟩,
  ⟨17, .load (.t 16), some (15, false)⟩,
  ⟨18, .fld 1 (.t 3), some (15, false)⟩,
  ⟨19, .load (.t 18), some (15, false)⟩,
  ⟨20, .bin .gtr (.t 17) (.t 19), some (15, false)⟩,
  ⟨21, .pick (.t 15) (.c (.bool true)) (.t 20), none⟩,
  ⟨22, .mv (.t 21), none⟩,
  ⟨23, .fld 1 (.t 3), some (22, false)⟩,
  ⟨24, .load (.t 23), some (22, false)⟩,
  ⟨25, .mv (.t 0), some (22, false)⟩,
  ⟨26, .len (.t 25), some (22, false)⟩,
  ⟨27, .bin .gtr (.t 24) (.t 26), some (22, false)⟩,
  ⟨28, .pick (.t 22) (.c (.bool true)) (.t 27), none⟩]
def r18_5 : List POp := [⟨4, .asg .nil, none⟩,
  ⟨5, .asg (.c (.int .i64 1)), none⟩]
def r18_6 : List POp := [⟨29, .mv (.t 0), none⟩,
  ⟨30, .fld 0 (.t 3), none⟩,
  ⟨31, .load (.t 30), none⟩,
  ⟨32, .fld 1 (.t 3), none⟩,
  ⟨33, .load (.t 32), none⟩,
  ⟨34, .slc (some (.t 31)) (some (.t 33)) 5 (.t 29), none⟩,
  ⟨35, .call 44 [.t 34], none⟩,
  ⟨4, .asg (.t 35), none⟩,
  ⟨5, .asg (.c (.int .i64 0)), none⟩]
def p18 : PCode := .seq (.ops r18_0) (.seq (.seq (.ops r18_1) (.seq (.ops r18_2) (.cond (.t 10) (.seq (.ops r18_3) (.ret)) (.skip)))) (.seq (.seq (.ops r18_4) (.cond (.t 28) (.seq (.ops r18_5) (.ret)) (.skip))) (.seq (.ops r18_6) (.ret))))
theorem ok18 : okFunc Try.prog 18 [.t 4, .t 5] 2 p18 = true := by kernel_rfl
theorem cut_c (l : List Smp) (f t s : Int) : CallOK Try.prog 18 [.ro (l.map Smp.av), .agg (kept f t s)] (.tup [.ro ((cutF l f t).1.map Smp.av), .val (.int .i64 (cutF l f t).2)]) := by
  refine call_of mixed ok18 rfl ?_
  have hs := smp_c l
  by_cases h0 : smpF l = 0
  case neg =>
    have hF : cutF l f t = ([], smpF l) := by simp [cutF, h0]
    rw [hF]
    repeat' first | ((with_reducible (first | refine condD ?_ ?_ | refine condE ?_ ?_ | refine condN ?_ ?_ | refine condI ?_ ?_ | refine condS ?_ ?_)) <;> intro h) | ((with_reducible (first | refine guardD (by with_unfolding_all rfl) ?_ ?_ | refine guardE (by with_unfolding_all rfl) ?_ ?_ | refine guardN (by with_unfolding_all rfl) ?_ ?_ | refine guardI (by with_unfolding_all rfl) ?_ ?_ | refine guardS (by with_unfolding_all rfl) ?_ ?_)) <;> intro h) | ((refine callG hs ?_)) | (with_reducible refine And.intro ?_ ?_; omega) | (simp only [Z0,Z1,Z2,Z3,Z4,Z5,Z6,Z7,Z8,Z9,Za,Zb,Zc,Zd,Ze,Zf,List.cons.injEq,Zg,Zh,Zi,Zj,Zk,Zl,Zm,Zn,Zo,Zp,beq_self_eq_true,bne_self_eq_false,decide_true,decide_false,Zq,Zr,Zs,Zt,Zu,Zv,Zw,Zx,Zy,Zz,Y0,Y1,Y2,Y3,Y4,Y5,Y6,Y7,Y8,Y9,Ya,Yb,Yc,Yd,Ye,Yf,Yg,Yh,lk,ef,Yi,Yj,Yk,Ym,Yn,Yp,Yq,Yu,Yv,hv,Yx,ev,Yy,Yz,X0,X1,X2,X3,X4,X5,X6,X7,X8,X9,Xa,Xb,Xc,Xd,Xe,Xf,Xg,Xh,Xi,Xj,Xk,Xl,Xm,Xn,Xo,Xp,Xq,Xr,Xs,Xt,Xu,Value.oneCell',Xv,Xw,Xx,Xy,true_and,and_true,and_self,implies_true,Xz,W0,W1,W2,false_implies,W3,W4,W5,W6,W7,W8,W9,Wa,Wb,Wc,Wd,We,Wf,Wg,Wh,Wi,Wj,reduceCtorEq,if_true,if_false,Wk,↓reduceIte,Wl,Wm,Wn,Wo,Wp,Wq,ne_eq,not_false_eq_true,not_true_eq_false,Wr,Ws,r18_0,r18_1,r18_2,r18_3,r18_4,r18_5,r18_6,p18,kept,bne0_t h0,beq0_f h0]) | (exfalso; omega)
  obtain ⟨hl, hb, _⟩ := smpF_0 h0
  rw [h0] at hs
  by_cases hbad : f < 0 ∨ t < f ∨ (l.length : Int) < t
  · have hF : cutF l f t = ([], 1) := by simp only [cutF, h0, hbad]; simp
    rw [hF]
    by_cases q1 : f < 0
    · repeat' first | ((with_reducible (first | refine condD ?_ ?_ | refine condE ?_ ?_ | refine condN ?_ ?_ | refine condI ?_ ?_ | refine condS ?_ ?_)) <;> intro h) | ((with_reducible (first | refine guardD (by with_unfolding_all rfl) ?_ ?_ | refine guardE (by with_unfolding_all rfl) ?_ ?_ | refine guardN (by with_unfolding_all rfl) ?_ ?_ | refine guardI (by with_unfolding_all rfl) ?_ ?_ | refine guardS (by with_unfolding_all rfl) ?_ ?_)) <;> intro h) | ((refine callG hs ?_)) | (with_reducible refine And.intro ?_ ?_; omega) | (simp only [Z0,Z1,Z2,Z3,Z4,Z5,Z6,Z7,Z8,Z9,Za,Zb,Zc,Zd,Ze,Zf,List.cons.injEq,Zg,Zh,Zi,Zj,Zk,Zl,Zm,Zn,Zo,Zp,beq_self_eq_true,bne_self_eq_false,decide_true,decide_false,Zq,Zr,Zs,Zt,Zu,Zv,Zw,Zx,Zy,Zz,Y0,Y1,Y2,Y3,Y4,Y5,Y6,Y7,Y8,Y9,Ya,Yb,Yc,Yd,Ye,Yf,Yg,Yh,lk,ef,Yi,Yj,Yk,Ym,Yn,Yp,Yq,Yu,Yv,hv,Yx,ev,Yy,Yz,X0,X1,X2,X3,X4,X5,X6,X7,X8,X9,Xa,Xb,Xc,Xd,Xe,Xf,Xg,Xh,Xi,Xj,Xk,Xl,Xm,Xn,Xo,Xp,Xq,Xr,Xs,Xt,Xu,Value.oneCell',Xv,Xw,Xx,Xy,true_and,and_true,and_self,implies_true,Xz,W0,W1,W2,false_implies,W3,W4,W5,W6,W7,W8,W9,Wa,Wb,Wc,Wd,We,Wf,Wg,Wh,Wi,Wj,reduceCtorEq,if_true,if_false,Wk,↓reduceIte,Wl,Wm,Wn,Wo,Wp,Wq,ne_eq,not_false_eq_true,not_true_eq_false,Wr,Ws,r18_0,r18_1,r18_2,r18_3,r18_4,r18_5,r18_6,p18,kept,q1]) | (exfalso; omega)
    · by_cases q2 : t < f
      · repeat' first | ((with_reducible (first | refine condD ?_ ?_ | refine condE ?_ ?_ | refine condN ?_ ?_ | refine condI ?_ ?_ | refine condS ?_ ?_)) <;> intro h) | ((with_reducible (first | refine guardD (by with_unfolding_all rfl) ?_ ?_ | refine guardE (by with_unfolding_all rfl) ?_ ?_ | refine guardN (by with_unfolding_all rfl) ?_ ?_ | refine guardI (by with_unfolding_all rfl) ?_ ?_ | refine guardS (by with_unfolding_all rfl) ?_ ?_)) <;> intro h) | ((refine callG hs ?_)) | (with_reducible refine And.intro ?_ ?_; omega) | (simp only [Z0,Z1,Z2,Z3,Z4,Z5,Z6,Z7,Z8,Z9,Za,Zb,Zc,Zd,Ze,Zf,List.cons.injEq,Zg,Zh,Zi,Zj,Zk,Zl,Zm,Zn,Zo,Zp,beq_self_eq_true,bne_self_eq_false,decide_true,decide_false,Zq,Zr,Zs,Zt,Zu,Zv,Zw,Zx,Zy,Zz,Y0,Y1,Y2,Y3,Y4,Y5,Y6,Y7,Y8,Y9,Ya,Yb,Yc,Yd,Ye,Yf,Yg,Yh,lk,ef,Yi,Yj,Yk,Ym,Yn,Yp,Yq,Yu,Yv,hv,Yx,ev,Yy,Yz,X0,X1,X2,X3,X4,X5,X6,X7,X8,X9,Xa,Xb,Xc,Xd,Xe,Xf,Xg,Xh,Xi,Xj,Xk,Xl,Xm,Xn,Xo,Xp,Xq,Xr,Xs,Xt,Xu,Value.oneCell',Xv,Xw,Xx,Xy,true_and,and_true,and_self,implies_true,Xz,W0,W1,W2,false_implies,W3,W4,W5,W6,W7,W8,W9,Wa,Wb,Wc,Wd,We,Wf,Wg,Wh,Wi,Wj,reduceCtorEq,if_true,if_false,Wk,↓reduceIte,Wl,Wm,Wn,Wo,Wp,Wq,ne_eq,not_false_eq_true,not_true_eq_false,Wr,Ws,r18_0,r18_1,r18_2,r18_3,r18_4,r18_5,r18_6,p18,kept,q1,q2]) | (exfalso; omega)
      · have q3 : (l.length : Int) < t := by omega
        repeat' first | ((with_reducible (first | refine condD ?_ ?_ | refine condE ?_ ?_ | refine condN ?_ ?_ | refine condI ?_ ?_ | refine condS ?_ ?_)) <;> intro h) | ((with_reducible (first | refine guardD (by with_unfolding_all rfl) ?_ ?_ | refine guardE (by with_unfolding_all rfl) ?_ ?_ | refine guardN (by with_unfolding_all rfl) ?_ ?_ | refine guardI (by with_unfolding_all rfl) ?_ ?_ | refine guardS (by with_unfolding_all rfl) ?_ ?_)) <;> intro h) | ((refine callG hs ?_)) | (with_reducible refine And.intro ?_ ?_; omega) | (simp only [Z0,Z1,Z2,Z3,Z4,Z5,Z6,Z7,Z8,Z9,Za,Zb,Zc,Zd,Ze,Zf,List.cons.injEq,Zg,Zh,Zi,Zj,Zk,Zl,Zm,Zn,Zo,Zp,beq_self_eq_true,bne_self_eq_false,decide_true,decide_false,Zq,Zr,Zs,Zt,Zu,Zv,Zw,Zx,Zy,Zz,Y0,Y1,Y2,Y3,Y4,Y5,Y6,Y7,Y8,Y9,Ya,Yb,Yc,Yd,Ye,Yf,Yg,Yh,lk,ef,Yi,Yj,Yk,Ym,Yn,Yp,Yq,Yu,Yv,hv,Yx,ev,Yy,Yz,X0,X1,X2,X3,X4,X5,X6,X7,X8,X9,Xa,Xb,Xc,Xd,Xe,Xf,Xg,Xh,Xi,Xj,Xk,Xl,Xm,Xn,Xo,Xp,Xq,Xr,Xs,Xt,Xu,Value.oneCell',Xv,Xw,Xx,Xy,true_and,and_true,and_self,implies_true,Xz,W0,W1,W2,false_implies,W3,W4,W5,W6,W7,W8,W9,Wa,Wb,Wc,Wd,We,Wf,Wg,Wh,Wi,Wj,reduceCtorEq,if_true,if_false,Wk,↓reduceIte,Wl,Wm,Wn,Wo,Wp,Wq,ne_eq,not_false_eq_true,not_true_eq_false,Wr,Ws,r18_0,r18_1,r18_2,r18_3,r18_4,r18_5,r18_6,p18,kept,q1,q2,q3]) | (exfalso; omega)
  · have hF : cutF l f t = ((l.take t.toNat).drop f.toNat, 0) := by simp only [cutF, h0, hbad]; simp
    rw [hF]
    have q1 : ¬ f < 0 := by omega
    have q2 : ¬ t < f := by omega
    have q3 : ¬ (l.length : Int) < t := by omega
    have hc := clone_c ((l.take t.toNat).drop f.toNat) (by simp; omega)
    repeat' first | ((with_reducible (first | refine condD ?_ ?_ | refine condE ?_ ?_ | refine condN ?_ ?_ | refine condI ?_ ?_ | refine condS ?_ ?_)) <;> intro h) | ((with_reducible (first | refine guardD (by with_unfolding_all rfl) ?_ ?_ | refine guardE (by with_unfolding_all rfl) ?_ ?_ | refine guardN (by with_unfolding_all rfl) ?_ ?_ | refine guardI (by with_unfolding_all rfl) ?_ ?_ | refine guardS (by with_unfolding_all rfl) ?_ ?_)) <;> intro h) | ((refine callG hs ?_)) | ((refine callG hc ?_)) | (with_reducible refine And.intro ?_ ?_; omega) | (simp only [Z0,Z1,Z2,Z3,Z4,Z5,Z6,Z7,Z8,Z9,Za,Zb,Zc,Zd,Ze,Zf,List.cons.injEq,Zg,Zh,Zi,Zj,Zk,Zl,Zm,Zn,Zo,Zp,beq_self_eq_true,bne_self_eq_false,decide_true,decide_false,Zq,Zr,Zs,Zt,Zu,Zv,Zw,Zx,Zy,Zz,Y0,Y1,Y2,Y3,Y4,Y5,Y6,Y7,Y8,Y9,Ya,Yb,Yc,Yd,Ye,Yf,Yg,Yh,lk,ef,Yi,Yj,Yk,Ym,Yn,Yp,Yq,Yu,Yv,hv,Yx,ev,Yy,Yz,X0,X1,X2,X3,X4,X5,X6,X7,X8,X9,Xa,Xb,Xc,Xd,Xe,Xf,Xg,Xh,Xi,Xj,Xk,Xl,Xm,Xn,Xo,Xp,Xq,Xr,Xs,Xt,Xu,Value.oneCell',Xv,Xw,Xx,Xy,true_and,and_true,and_self,implies_true,Xz,W0,W1,W2,false_implies,W3,W4,W5,W6,W7,W8,W9,Wa,Wb,Wc,Wd,We,Wf,Wg,Wh,Wi,Wj,reduceCtorEq,if_true,if_false,Wk,↓reduceIte,Wl,Wm,Wn,Wo,Wp,Wq,ne_eq,not_false_eq_true,not_true_eq_false,Wr,Ws,r18_0,r18_1,r18_2,r18_3,r18_4,r18_5,r18_6,p18,kept,q1,q2,q3,← List.map_take,← List.map_drop,smps_len]) | (exfalso; omega)
end Go.Proofs.Ytpecmhdepggnoaa
