/- Texts as lists of bytes; strconv.Itoa, Atoi, said of data. -/
import Derived.Test.YtjeemcpdmiajmaaDoorKDateP
import Derived.Test.YtjeemcpdmiajmaaDoorCardKit
import Derived.Test.YtjeemcpdmiajmaaDoorKSort
namespace Go.Proofs.YtjeemcpdmiajmaaDoor
open Go.RowKit Go.Lib
set_option linter.unusedSimpArgs false

/-! ### Texts as lists of bytes -/
def BS (l : List UInt8) : ByteArray := ⟨l.toArray⟩
theorem BS_app (a b : List UInt8) : BS a ++ BS b = BS (a ++ b) := by
  apply ByteArray.ext; simp [BS, ByteArray.data_append]
theorem BS_size (l : List UInt8) : (BS l).size = l.length := by simp [BS, ByteArray.size]
theorem BS_data (l : List UInt8) : (BS l).data.toList = l := by simp [BS]
theorem BS_toList (l : List UInt8) : (BS l).toList = l := by rw [ByteArray.toList_eq, BS_data]
theorem BS_of (s : ByteArray) : ∃ l : List UInt8, s = BS l := ⟨s.data.toList, by cases s; simp [BS]⟩
theorem BS_ext (l : List UInt8) (a b : Nat) : (BS l).extract a b = BS ((l.drop a).take (b - a)) := by
  apply ByteArray.ext; simp [BS, ByteArray.data_extract]
theorem BS_45 : (⟨#[45]⟩ : ByteArray) = BS [45] := rfl
theorem BS_48 : (⟨#[48]⟩ : ByteArray) = BS [48] := rfl
theorem BS_84 : (⟨#[84]⟩ : ByteArray) = BS [84] := rfl
theorem BS_58 : (⟨#[58]⟩ : ByteArray) = BS [58] := rfl
theorem BS_46 : (⟨#[46]⟩ : ByteArray) = BS [46] := rfl
theorem BS_90 : (⟨#[90]⟩ : ByteArray) = BS [90] := rfl
theorem BS_form : (⟨#[48, 48, 48, 48, 45, 48, 48, 45, 48, 48, 84, 48, 48, 58, 48, 48, 58, 48, 48, 46, 48, 48, 48, 90]⟩ : ByteArray) = BS form := rfl
theorem BS_nil : (⟨#[]⟩ : ByteArray) = BS [] := rfl
/-! ### Numbers of dates -/
theorem nDigits_le : ∀ (k n : Nat), 1 ≤ k → n < 10 ^ k → nDigits n ≤ k
  | 0, _, h, _ => by omega
  | k + 1, n, _, hn => by
    by_cases q : n < 10
    · rw [nDigits_small q]; omega
    · rw [nDigits_big q]
      have hk : 1 ≤ k := by
        cases k with
        | zero => simp at hn; omega
        | succ k => omega
      have := nDigits_le k (n / 10) hk (by rw [Nat.pow_succ] at hn; omega)
      omega
theorem itoa_c (n : Nat) (hn : n ≤ 9223372036854775807) : CallOK Tryd.prog 34 [.val (.int .i64 n)] (.val (.string (BS (decDigits n)))) := by
  intro w S vs hT hS hvl hr
  match vs, hvl with
  | [v0], _ =>
    have h0 := rel_val (hr 0 _ v0 rfl rfl)
    subst h0
    refine (Tryd.strconv_Itoa n (by omega) (by omega) w (tabIs_of hT)).mono ?_
    rintro ev w' ⟨rfl, k, os, rfl⟩
    refine ⟨_, rfl, ⟨rfl, rfl, rfl, by simp [Go.Sort.grow, World.drewN], fun b hb => ?_⟩, ?_⟩
    · rw [Go.Sort.heap_grow_old _ _ (by simpa [World.drewN] using hb)]
      rfl
    · rw [itoa_nonneg]; exact Rel.val _
/-! ### Reading -/
theorem dec_num : ∀ (l : List UInt8) (acc : Nat), (∀ c ∈ l, digB c = true) → decFrom acc l = some (l.foldl (fun a c => 10 * a + (c.toNat - 48)) acc)
  | [], acc, _ => rfl
  | c :: r, acc, h => by
    have hc := h c (by simp)
    simp only [digB, Bool.and_eq_true, decide_eq_true_eq] at hc
    rw [decFrom, digitVal, if_pos hc]
    simp only
    rw [dec_num r _ (fun x hx => h x (by simp [hx])), List.foldl_cons, Nat.mul_comm]
theorem atoi_num {l : List UInt8} (hne : l ≠ []) (hd : ∀ c ∈ l, digB c = true) : Go.Lib.atoi l = some (numL l : Int) := by
  cases l with
  | nil => exact absurd rfl hne
  | cons b r =>
    have hb := hd b (by simp)
    simp only [digB, Bool.and_eq_true, decide_eq_true_eq] at hb
    have n1 : (b == 45) = false := by
      rw [beq_eq_false_iff_ne]; intro e; rw [e] at hb; exact absurd hb.1 (by decide)
    have n2 : (b == 43) = false := by
      rw [beq_eq_false_iff_ne]; intro e; rw [e] at hb; exact absurd hb.1 (by decide)
    rw [Go.Lib.atoi, n1, n2]
    simp only [Bool.false_eq_true, if_false]
    rw [decNat, if_neg (by simp), dec_num _ _ hd]
    rfl
theorem atoi_c (l : List UInt8) (hne : l ≠ []) (hl : l.length ≤ 18) (hd : ∀ c ∈ l, digB c = true) : CallOK Tryd.prog 35 [.val (.string (BS l))] (.tup [.val (.int .i64 (numL l : Nat)), .val .nilIface]) := by
  intro w S vs hT hS hvl hr
  match vs, hvl with
  | [v0], _ =>
    have h0 := rel_val (hr 0 _ v0 rfl rfl)
    subst h0
    refine (Tryd.strconv_Atoi (BS l) (numL l : Int) (by rw [BS_size]; exact hl) (by rw [BS_data]; exact atoi_num hne hd) w).mono ?_
    rintro ev w' ⟨rfl, t, rfl⟩
    refine ⟨_, rfl, Go.Joins.below_bytesWorld _ _ _ _ (Nat.le_refl _), ?_⟩
    exact Rel.tup [.val (.int .i64 (numL l : Nat)), .val .nilIface] #[.int .i64 (numL l : Int), .nilIface] rfl fun j av hj => by
      match j, hj with
      | 0, hj => injection hj with hj; subst hj; exact Rel.val _
      | 1, hj => injection hj with hj; subst hj; exact Rel.val _
end Go.Proofs.YtjeemcpdmiajmaaDoor
