/- Fragments: samples that are read field by field; where the bytes of a fragment lie (plain). -/
import Derived.Test.YtpecmhdepggnoaaKFragW
namespace Go.Proofs.Ytpecmhdepggnoaa
open Go.RowKit
set_option linter.unusedSimpArgs false

/-- The first a steps, b shifts, c sizes, d keys and e times of samples. -/
def rowS (l : List Smp) (a b c d e : Nat) : List Smp := (List.range l.length).map fun i =>
  ⟨if i < e then (l.getD i smpZ).time else 0, if i < a then (l.getD i smpZ).step else 0, if i < b then (l.getD i smpZ).shift else 0, if i < c then (l.getD i smpZ).size else 0, if i < d then (l.getD i smpZ).key else false⟩
theorem rowS_len (l : List Smp) (a b c d e : Nat) : (rowS l a b c d e).length = l.length := by simp [rowS]
theorem rowS_all (l : List Smp) : rowS l l.length l.length l.length l.length l.length = l := by
  refine List.ext_getElem (rowS_len _ _ _ _ _ _) fun i h1 h2 => ?_
  have hg : l.getD i smpZ = l[i] := by rw [List.getD_eq_getElem?_getD, List.getElem?_eq_getElem h2]; rfl
  simp only [rowS, List.getElem_map, List.getElem_range, if_pos h2, hg]
theorem rowS_0 (l : List Smp) : (rowS l 0 0 0 0 0).map Smp.av = List.replicate l.length (Smp.av smpZ) := by
  refine List.ext_getElem (by simp [rowS]) fun i h1 h2 => ?_
  simp [rowS, smpZ]
theorem rowS_get {l : List Smp} {a b c d e k : Nat} (h : k < l.length) : ((rowS l a b c d e).map Smp.av).getD k [] = Smp.av ⟨if k < e then l[k].time else 0, if k < a then l[k].step else 0, if k < b then l[k].shift else 0, if k < c then l[k].size else 0, if k < d then l[k].key else false⟩ := by
  have h' : k < (rowS l a b c d e).length := by rw [rowS_len]; exact h
  have hg : l.getD k smpZ = l[k] := by rw [List.getD_eq_getElem?_getD, List.getElem?_eq_getElem h]; rfl
  rw [getD_map (f := Smp.av) (d := []) h']
  simp only [rowS, List.getElem_map, List.getElem_range, hg]
theorem rowS_set {l : List Smp} {a b c d e a' b' c' d' e' k : Nat} (h : k < l.length) (s : Smp)
    (hs : s = ⟨if k < e' then l[k].time else 0, if k < a' then l[k].step else 0, if k < b' then l[k].shift else 0, if k < c' then l[k].size else 0, if k < d' then l[k].key else false⟩)
    (hi : ∀ i, i ≠ k → (i < a ↔ i < a') ∧ (i < b ↔ i < b') ∧ (i < c ↔ i < c') ∧ (i < d ↔ i < d') ∧ (i < e ↔ i < e')) :
    ((rowS l a b c d e).map Smp.av).set k s.av = (rowS l a' b' c' d' e').map Smp.av := by
  have hg : l.getD k smpZ = l[k] := by rw [List.getD_eq_getElem?_getD, List.getElem?_eq_getElem h]; rfl
  rw [← List.map_set]
  congr 1
  refine List.ext_getElem (by simp [rowS]) fun i h1 h2 => ?_
  rw [List.getElem_set]
  split
  · rename_i q
    subst q
    rw [hs]
    simp only [rowS, List.getElem_map, List.getElem_range, hg]
  · rename_i q
    obtain ⟨q1, q2, q3, q4, q5⟩ := hi i (fun z => q z.symm)
    simp only [rowS, List.getElem_map, List.getElem_range, q1, q2, q3, q4, q5]
/-- What lies at a place. -/
theorem piece_at {P Q R : List Nat} {a k : Nat} (hP : P.length = a) (hQ : Q.length = k) : ((P ++ Q ++ R).drop a).take k = Q := by
  rw [List.append_assoc, List.drop_left' hP, List.take_left' hQ]
end Go.Proofs.Ytpecmhdepggnoaa
/- Fragments: where the bytes of a fragment lie (plain, goes on from KFragS). -/
namespace Go.Proofs.Ytpecmhdepggnoaa
open Go.RowKit
set_option linter.unusedSimpArgs false

theorem partB_split {one : Bool} {f : Smp → List Nat} {l : List Smp} {k : Nat} (h : k < l.length) (hk : k = 0 ∨ one = false) : ∃ R, partB one f l l.length = partB one f l k ++ f l[k] ++ R := by
  cases one with
  | false =>
    refine ⟨(l.drop (k + 1)).flatMap f, ?_⟩
    rw [← partB_yes h hk]
    unfold partB
    simp only [Bool.false_eq_true, if_false]
    rw [List.take_length, ← List.flatMap_append, List.take_append_drop]
  | true =>
    rcases hk with rfl | hk
    · refine ⟨[], ?_⟩
      rw [← partB_yes h (.inl rfl), List.append_nil]
      unfold partB
      simp only [if_true]
      rw [List.take_length, List.take_take]
      rfl
    · cases hk
theorem allB_split {f : Smp → List Nat} {l : List Smp} {k : Nat} (h : k < l.length) : ∃ R, allB false f l l.length = allB false f l k ++ f l[k] ++ R := by
  refine ⟨(l.drop (k + 1)).flatMap f, ?_⟩
  rw [← allB_yes h]
  unfold allB
  simp only [Bool.false_eq_true, if_false]
  rw [List.take_length, ← List.flatMap_append, List.take_append_drop]
/-- The bytes of a fragment in their five parts. -/
theorem fragB_parts (n : Int) (l : List Smp) : fragB n l = headB n l ++ partB (mkSt l) stB l l.length ++ allB (mkSh l) shB l l.length ++ partB (mkSz l) szB l l.length ++ allB (mkFs l) kyB l l.length := by
  unfold partB allB
  rw [List.take_length]
  rfl
theorem at_step {n : Int} {l : List Smp} {k : Nat} (h : k < l.length) (hk : k = 0 ∨ mkSt l = false) : ((fragB n l).drop (15 + (partB (mkSt l) stB l k).length)).take 4 = stB l[k] ∧ 15 + (partB (mkSt l) stB l k).length + 4 ≤ (fragB n l).length := by
  obtain ⟨R, hR⟩ := partB_split (f := stB) h hk
  have e : fragB n l = (headB n l ++ partB (mkSt l) stB l k) ++ stB l[k] ++ (R ++ allB (mkSh l) shB l l.length ++ partB (mkSz l) szB l l.length ++ allB (mkFs l) kyB l l.length) := by
    rw [fragB_parts, hR]
    simp only [List.append_assoc]
  rw [e]
  refine ⟨piece_at (by rw [List.length_append, headB_len]) (stB_len _), ?_⟩
  rw [List.length_append, List.length_append, List.length_append, headB_len, stB_len]
  omega
theorem at_shift {n : Int} {l : List Smp} {k : Nat} (h : k < l.length) (hB : mkSh l = false) : ((fragB n l).drop (15 + (partB (mkSt l) stB l l.length).length + (allB false shB l k).length)).take 4 = shB l[k] ∧ 15 + (partB (mkSt l) stB l l.length).length + (allB false shB l k).length + 4 ≤ (fragB n l).length := by
  obtain ⟨R, hR⟩ := allB_split (f := shB) h
  have e : fragB n l = (headB n l ++ partB (mkSt l) stB l l.length ++ allB false shB l k) ++ shB l[k] ++ (R ++ partB (mkSz l) szB l l.length ++ allB (mkFs l) kyB l l.length) := by
    rw [fragB_parts, hB, hR]
    simp only [List.append_assoc]
  rw [e]
  refine ⟨piece_at (by rw [List.length_append, List.length_append, headB_len]) (shB_len _), ?_⟩
  simp only [List.length_append, headB_len, shB_len]
  omega
theorem at_size {n : Int} {l : List Smp} {k : Nat} (h : k < l.length) (hk : k = 0 ∨ mkSz l = false) : ((fragB n l).drop (15 + (partB (mkSt l) stB l l.length).length + (allB (mkSh l) shB l l.length).length + (partB (mkSz l) szB l k).length)).take 4 = szB l[k] ∧ 15 + (partB (mkSt l) stB l l.length).length + (allB (mkSh l) shB l l.length).length + (partB (mkSz l) szB l k).length + 4 ≤ (fragB n l).length := by
  obtain ⟨R, hR⟩ := partB_split (f := szB) h hk
  have e : fragB n l = (headB n l ++ partB (mkSt l) stB l l.length ++ allB (mkSh l) shB l l.length ++ partB (mkSz l) szB l k) ++ szB l[k] ++ (R ++ allB (mkFs l) kyB l l.length) := by
    rw [fragB_parts, hR]
    simp only [List.append_assoc]
  rw [e]
  refine ⟨piece_at (by simp only [List.length_append, headB_len]) (szB_len _), ?_⟩
  simp only [List.length_append, headB_len, szB_len]
  omega
end Go.Proofs.Ytpecmhdepggnoaa
/- Fragments: the places and the values at which ReadFragment's loops are (plain). -/
namespace Go.Proofs.Ytpecmhdepggnoaa
open Go.RowKit
set_option linter.unusedSimpArgs false

theorem get_mid {P R : List Nat} {x a : Nat} (hP : P.length = a) (h : a < (P ++ [x] ++ R).length) : (P ++ [x] ++ R)[a] = x := by
  subst hP
  rw [List.getElem_append_left (by simp), List.getElem_append_right (Nat.le_refl _)]
  simp
theorem at_head (n : Int) (l : List Smp) : ((fragB n l).drop 0).take 4 = beB (u64 n) 4 ∧ ((fragB n l).drop 4).take 8 = beB (u64 (hdSmp l).time) 8 ∧ ((fragB n l).drop 12).take 2 = beB (u64 l.length) 2 ∧ ∃ h : 14 < (fragB n l).length, (fragB n l)[14] = marksN l := by
  obtain ⟨R, hR⟩ : ∃ R, fragB n l = beB (u64 n) 4 ++ beB (u64 (hdSmp l).time) 8 ++ beB (u64 l.length) 2 ++ [marksN l] ++ R := ⟨stepsB l ++ shiftsB l ++ sizesB l ++ keysB l, by simp only [fragB, headB, List.append_assoc]⟩
  rw [hR]
  have l1 := beB_len (u64 n) 4
  have l2 := beB_len (u64 (hdSmp l).time) 8
  have l3 := beB_len (u64 l.length) 2
  generalize beB (u64 n) 4 = A at *
  generalize beB (u64 (hdSmp l).time) 8 = B at *
  generalize beB (u64 l.length) 2 = C at *
  refine ⟨?_, ?_, ?_, by simp only [List.length_append, List.length_singleton]; omega, ?_⟩
  · have := piece_at (P := []) (Q := A) (R := B ++ C ++ [marksN l] ++ R) (a := 0) (k := 4) rfl l1
    simpa only [List.nil_append, List.append_assoc] using this
  · have := piece_at (P := A) (Q := B) (R := C ++ [marksN l] ++ R) (a := 4) (k := 8) l1 l2
    simpa only [List.append_assoc] using this
  · have := piece_at (P := A ++ B) (Q := C) (R := [marksN l] ++ R) (a := 12) (k := 2) (by rw [List.length_append]; omega) l3
    simpa only [List.append_assoc] using this
  · have hl : (A ++ B ++ C).length = 14 := by simp only [List.length_append]; omega
    exact get_mid hl _
theorem at_key {n : Int} {l : List Smp} {k : Nat} (h : k < l.length) (hD : mkFs l = false) : ∃ ha : 15 + (partB (mkSt l) stB l l.length).length + (allB (mkSh l) shB l l.length).length + (partB (mkSz l) szB l l.length).length + (allB false kyB l k).length < (fragB n l).length, (fragB n l)[15 + (partB (mkSt l) stB l l.length).length + (allB (mkSh l) shB l l.length).length + (partB (mkSz l) szB l l.length).length + (allB false kyB l k).length] = if l[k].key then 1 else 0 := by
  obtain ⟨R, hR⟩ := allB_split (f := kyB) h
  have e : fragB n l = (headB n l ++ partB (mkSt l) stB l l.length ++ allB (mkSh l) shB l l.length ++ partB (mkSz l) szB l l.length ++ allB false kyB l k) ++ (kyB l[k] ++ R) := by
    rw [fragB_parts, hD, hR]
    simp only [List.append_assoc]
  have hlen : (headB n l ++ partB (mkSt l) stB l l.length ++ allB (mkSh l) shB l l.length ++ partB (mkSz l) szB l l.length ++ allB false kyB l k).length = 15 + (partB (mkSt l) stB l l.length).length + (allB (mkSh l) shB l l.length).length + (partB (mkSz l) szB l l.length).length + (allB false kyB l k).length := by simp only [List.length_append, headB_len]
  generalize headB n l ++ partB (mkSt l) stB l l.length ++ allB (mkSh l) shB l l.length ++ partB (mkSz l) szB l l.length ++ allB false kyB l k = P at *
  simp only [← hlen]
  have hlt : P.length < (fragB n l).length := by rw [e, List.length_append, List.length_append]; simp [kyB]; omega
  refine ⟨hlt, ?_⟩
  have h2 : P.length < (P ++ (kyB l[k] ++ R)).length := by rw [← e]; exact hlt
  have h3 : (fragB n l)[P.length] = (P ++ (kyB l[k] ++ R))[P.length] := by congr 1
  rw [h3, List.getElem_append_right (Nat.le_refl _)]
  simp [kyB]
theorem s32_conv (v : Nat) (hv4 : v < 4294967296) : IntKind.i64.wrap (IntKind.i32.wrap ((v : Nat) : Int)) = s32 v := by
  have h : IntKind.i32.wrap (v : Int) = if (IntKind.i32.signed && decide ((v : Int) % (2 ^ IntKind.i32.bits : Int) ≥ (2 ^ (IntKind.i32.bits - 1) : Int))) = true then (v : Int) % (2 ^ IntKind.i32.bits : Int) - (2 ^ IntKind.i32.bits : Int) else (v : Int) % (2 ^ IntKind.i32.bits : Int) := rfl
  have e1 : (2 ^ IntKind.i32.bits : Int) = 4294967296 := by decide
  have e2 : (2 ^ (IntKind.i32.bits - 1) : Int) = 2147483648 := by decide
  rw [h, e1, e2]
  unfold s32
  simp only [IntKind.signed, Bool.true_and, decide_eq_true_eq]
  split <;> split <;> (rw [wrap_in (by omega) (by omega)]; omega)
/-! ### The places -/
def pS (l : List Smp) (k : Nat) : Nat := 15 + (partB (mkSt l) stB l k).length
def pH (l : List Smp) (k : Nat) : Nat := pS l l.length + (allB (mkSh l) shB l k).length
def pZ (l : List Smp) (k : Nat) : Nat := pH l l.length + (partB (mkSz l) szB l k).length
def pK (l : List Smp) (k : Nat) : Nat := pZ l l.length + (allB (mkFs l) kyB l k).length
theorem pS_0 (l : List Smp) : pS l 0 = 15 := by unfold pS; rw [partB_0]; rfl
theorem pH_0 (l : List Smp) : pH l 0 = pS l l.length := by unfold pH; rw [allB_0]; rfl
theorem pZ_0 (l : List Smp) : pZ l 0 = pH l l.length := by unfold pZ; rw [partB_0]; rfl
theorem pK_0 (l : List Smp) : pK l 0 = pZ l l.length := by unfold pK; rw [allB_0]; rfl
theorem pS_yes {l : List Smp} {k : Nat} (h : k < l.length) (hk : k = 0 ∨ mkSt l = false) : pS l (k + 1) = pS l k + 4 := by
  unfold pS; rw [partB_yes h hk, List.length_append, stB_len]; rfl
theorem pS_no {l : List Smp} {k : Nat} (hk : k ≠ 0) (h : mkSt l = true) : pS l (k + 1) = pS l k := by
  unfold pS; rw [h, partB_no hk]
theorem pH_yes {l : List Smp} {k : Nat} (h : k < l.length) (hk : mkSh l = false) : pH l (k + 1) = pH l k + 4 := by
  unfold pH; rw [hk, allB_yes h, List.length_append, shB_len]; rfl
theorem pH_no {l : List Smp} {k : Nat} (h : mkSh l = true) : pH l (k + 1) = pH l k := by
  unfold pH; rw [h, allB_no, allB_no]
theorem pZ_yes {l : List Smp} {k : Nat} (h : k < l.length) (hk : k = 0 ∨ mkSz l = false) : pZ l (k + 1) = pZ l k + 4 := by
  unfold pZ; rw [partB_yes h hk, List.length_append, szB_len]; rfl
theorem pZ_no {l : List Smp} {k : Nat} (hk : k ≠ 0) (h : mkSz l = true) : pZ l (k + 1) = pZ l k := by
  unfold pZ; rw [h, partB_no hk]
theorem pK_yes {l : List Smp} {k : Nat} (h : k < l.length) (hk : mkFs l = false) : pK l (k + 1) = pK l k + 1 := by
  unfold pK; rw [hk, allB_yes h, List.length_append]; rfl
theorem pK_no {l : List Smp} {k : Nat} (h : mkFs l = true) : pK l (k + 1) = pK l k := by
  unfold pK; rw [h, allB_no, allB_no]
theorem pK_end (n : Int) (l : List Smp) : pK l l.length = (fragB n l).length := by
  rw [fragB_parts]
  simp only [List.length_append, headB_len, pK, pZ, pH, pS]
theorem rd_step {n : Int} {l : List Smp} {k : Nat} (h : k < l.length) (hk : k = 0 ∨ mkSt l = false) : ((fragB n l).drop (pS l k)).take 4 = stB l[k] ∧ pS l k + 4 ≤ (fragB n l).length := at_step h hk
theorem rd_shift {n : Int} {l : List Smp} {k : Nat} (h : k < l.length) (hk : mkSh l = false) : ((fragB n l).drop (pH l k)).take 4 = shB l[k] ∧ pH l k + 4 ≤ (fragB n l).length := by
  have := at_shift (n := n) h hk
  unfold pH pS
  rw [hk]
  exact this
theorem rd_size {n : Int} {l : List Smp} {k : Nat} (h : k < l.length) (hk : k = 0 ∨ mkSz l = false) : ((fragB n l).drop (pZ l k)).take 4 = szB l[k] ∧ pZ l k + 4 ≤ (fragB n l).length := at_size h hk
theorem rd_key {n : Int} {l : List Smp} {k : Nat} (h : k < l.length) (hk : mkFs l = false) : ∃ ha : pK l k < (fragB n l).length, (fragB n l)[pK l k] = if l[k].key then 1 else 0 := by
  have := at_key (n := n) h hk
  unfold pK pZ pH pS
  simp only [hk]
  exact this
theorem timed_next : ∀ {l : List Smp} {t : Int}, Timed t l → ∀ k (h : k + 1 < l.length), l[k + 1].time = l[k].time + l[k].step
  | [], _, _, _, h => by simp at h
  | [_], _, _, _, h => by simp at h
  | s :: r :: m, t, ht, k, h => by
    obtain ⟨h1, h2, h3⟩ := ht
    cases k with
    | zero => simp only [List.getElem_cons_zero, List.getElem_cons_succ]; rw [h2, h1]
    | succ k => exact timed_next (l := r :: m) ⟨h2, h3⟩ k (by simpa using h)
/-- The time at sample k, as it is counted on. -/
def tmF (l : List Smp) (k : Nat) : Int := if k = 0 then (hdSmp l).time else (l.getD (k - 1) smpZ).time + (l.getD (k - 1) smpZ).step
theorem tmF_succ {l : List Smp} {k : Nat} (h : k < l.length) : tmF l (k + 1) = l[k].time + l[k].step := by
  have hg : l.getD k smpZ = l[k] := by rw [List.getD_eq_getElem?_getD, List.getElem?_eq_getElem h]; rfl
  unfold tmF
  rw [if_neg (by omega), Nat.add_sub_cancel, hg]
theorem tmF_at {l : List Smp} (ht : ∀ s r, l = s :: r → Timed s.time l) {k : Nat} (h : k < l.length) : tmF l k = l[k].time := by
  cases k with
  | zero =>
    cases l with
    | nil => simp at h
    | cons s r => rfl
  | succ k =>
    rw [tmF_succ (by omega)]
    cases l with
    | nil => simp at h
    | cons s r => exact (timed_next (ht s r rfl) k h).symm
theorem hd_at {l : List Smp} (h : 0 < l.length) : hdSmp l = l[0] := by
  cases l with
  | nil => simp at h
  | cons s r => rfl
theorem av4 {n : Int} {A : List Nat} (h : A = beB (u64 n) 4) (h0 : 0 ≤ n) (h1 : n ≤ 4294967295) : IntKind.i64.wrap ((beV A 0 : Nat) : Int) = n := by
  have e : (256 : Nat) ^ 4 = 4294967296 := by decide
  rw [h, beV_small h0 (by omega) (by omega)]
  exact wrap_in (by omega) (by omega)
theorem av32 {n : Int} {A : List Nat} (h : A = beB (u64 n) 4) (h0 : -1000000000 ≤ n) (h1 : n ≤ 1000000000) : IntKind.i64.wrap (IntKind.i32.wrap ((beV A 0 : Nat) : Int)) = n := by
  have e : (256 : Nat) ^ 4 = 4294967296 := by decide
  have hb : beV A 0 < 4294967296 := by
    rw [h, beV_beB, Nat.zero_mul, Nat.zero_add, e]
    exact Nat.mod_lt _ (by decide)
  rw [s32_conv _ hb, h]
  exact beV_four h0 h1
/-! ### The marks' tests -/
theorem an1' (a b c d : Bool) : (IntKind.u8.wrap ((BitVec.ofInt IntKind.u8.bits ((mark4 a b c d : Nat) : Int) &&& BitVec.ofInt IntKind.u8.bits 1).toNat : Int) != 0) = a := by
  rw [ad1]; cases a <;> rfl
theorem an4' (a b c d : Bool) : (IntKind.u8.wrap ((BitVec.ofInt IntKind.u8.bits ((mark4 a b c d : Nat) : Int) &&& BitVec.ofInt IntKind.u8.bits 4).toNat : Int) != 0) = c := by
  rw [ad4]; cases c <;> rfl
end Go.Proofs.Ytpecmhdepggnoaa
