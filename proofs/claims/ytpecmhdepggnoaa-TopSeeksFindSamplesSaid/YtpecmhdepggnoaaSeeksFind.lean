/- TopSeeksFindSamples. -/
import Derived.Test.YtpecmhdepggnoaaKFilm
import Derived.Test.YtpecmhdepggnoaaKNeed
import Derived.Test.YtpecmhdepggnoaaKComes
namespace Go.Proofs.Ytpecmhdepggnoaa
open Go.RowKit
set_option linter.unusedSimpArgs false

/-! ### Part of samples that are right -/
theorem smpGo_none {p : Option Int} {l : List Smp} (h : smpGo p l = 0) : smpGo none l = 0 := by
  cases l with
  | nil => rfl
  | cons s r =>
    unfold smpGo at h ⊢
    split at h
    · cases h
    · rename_i h1
      split at h
      · cases h
      · rw [if_neg h1]; simpa using h
theorem smpGo_tail {p : Option Int} {s : Smp} {r : List Smp} (h : smpGo p (s :: r) = 0) : badSmp s = false ∧ smpGo (some s.endW) r = 0 := by
  unfold smpGo at h
  split at h
  · cases h
  · rename_i h1
    split at h
    · cases h
    · exact ⟨by simpa using h1, h⟩
theorem smpGo_drop : ∀ (f : Nat) {p : Option Int} {l : List Smp}, smpGo p l = 0 → smpGo none (l.drop f) = 0
  | 0, _, _, h => by simpa using smpGo_none h
  | f + 1, _, [], _ => rfl
  | f + 1, _, s :: r, h => by rw [List.drop_succ_cons]; exact smpGo_drop f (smpGo_tail h).2
theorem smpGo_take : ∀ (t : Nat) {p : Option Int} {l : List Smp}, smpGo p l = 0 → smpGo p (l.take t) = 0
  | 0, _, _, _ => by simp [smpGo]
  | t + 1, _, [], _ => by simp [smpGo]
  | t + 1, p, s :: r, h => by
    rw [List.take_succ_cons]
    have ht := smpGo_tail h
    unfold smpGo at h ⊢
    split at h
    · cases h
    · rename_i h1
      split at h
      · cases h
      · rename_i h2
        rw [if_neg h1, if_neg h2]; exact smpGo_take t ht.2
theorem smpGo_next : ∀ {l : List Smp} {p : Option Int}, smpGo p l = 0 → ∀ k (h : k + 1 < l.length), l[k + 1].time = l[k].endW
  | [], _, _, k, h => by simp at h
  | s :: r, p, hg, k, h => by
    have ht := smpGo_tail hg
    cases k with
    | zero =>
      cases r with
      | nil => simp at h
      | cons u v =>
        have h2 := ht.2
        unfold smpGo at h2
        split at h2
        · cases h2
        · split at h2
          · cases h2
          · rename_i q
            simpa using q
    | succ k => simpa using smpGo_next ht.2 k (by simpa using h)
theorem smpF_part {l : List Smp} (h : smpF l = 0) {q t : Nat} (hqt : q ≤ t) (ht : t < l.length) : smpF ((l.take (t + 1)).drop q) = 0 := by
  have h0 := h
  unfold smpF at h
  split at h
  · cases h
  rename_i hl
  split at h
  · rename_i h1; exact absurd h h1
  rename_i h1
  simp only [ne_eq, Decidable.not_not] at h1
  split at h
  · cases h
  rename_i hlast
  have hg : smpGo none ((l.take (t + 1)).drop q) = 0 := smpGo_drop q (smpGo_take (t + 1) h1)
  have hlen : ((l.take (t + 1)).drop q).length = t + 1 - q := by rw [List.length_drop, List.length_take]; omega
  have hgl : ((l.take (t + 1)).drop q).getLast? = some l[t] := by
    rw [List.getLast?_eq_getElem?, hlen, List.getElem?_drop, List.getElem?_take, if_pos (by omega), show q + (t + 1 - q - 1) = t by omega, List.getElem?_eq_getElem ht]
  unfold smpF
  rw [if_neg (by omega), hg, if_neg (by simp), hgl]
  simp only [Option.any_some]
  rw [if_neg]
  rw [Bool.not_eq_true]
  by_cases hn : t + 1 < l.length
  · rw [← smpGo_next h1 t hn]
    have hb := (smpF_0 h0).2.1 _ (List.getElem_mem hn)
    simp only [badSmp, Bool.or_eq_false_iff] at hb
    exact hb.1.1.1
  · have hle : l.getLast? = some l[t] := by
      rw [List.getLast?_eq_getElem?, show l.length - 1 = t by omega, List.getElem?_eq_getElem ht]
    rw [hle] at hlast
    simpa using hlast
theorem hit_at {P E : List Int} {m : Int} {k : Nat} : hitP P E m (m + 1) k = true ↔ P.getD k 0 ≤ m ∧ m < E.getD k 0 := by
  unfold hitP
  rw [decide_eq_true_eq]
  split <;> split <;> omega
theorem seek_p {l : List Smp} {m : Int} (hs : smpF l = 0) (h0 : -1000000000000000 ≤ m) (h1 : m < 1000000000000000) :
    ((needF l m (m + 1)).2 = 9 ∧ ∀ k, k < l.length → ¬ ((presL l).getD k 0 ≤ m ∧ m < (endsL l).getD k 0)) ∨
    ∃ q t : Nat, q ≤ t ∧ t < l.length ∧ needF l m (m + 1) = (((q : Int), (((t + 1 : Nat)) : Int), m - Go.Lib.minOf (presL ((l.take (t + 1)).drop q))), 0) ∧ (0 < q → (l.getD q ⟨0, 0, 0, 0, false⟩).key = true) ∧ Go.Lib.minOf (presL ((l.take (t + 1)).drop q)) ≤ m ∧
      smpF ((l.take (t + 1)).drop q) = 0 ∧ (-1001000000000000 ≤ Go.Lib.minOf (presL ((l.take (t + 1)).drop q))) := by
  have hn : needF l m (m + 1) = needG l m (m + 1) := by
    rw [needF, if_neg (by simp [hs]), if_neg (by omega), if_neg]
    have : noTime m = false := by simp [noTime, outB]; omega
    have : noTime (m + 1) = false := by simp [noTime, outB]; omega
    simp [*]
  rw [hn]
  unfold needG
  rcases flK_is (presL l) (endsL l) m (m + 1) l.length with ⟨hf, hno⟩ | ⟨f, t, hft, r1, r2, r3, r4⟩
  · left
    rw [if_pos hf]
    refine ⟨rfl, fun k hk hq => ?_⟩
    have := hno k hk
    rw [hit_at.2 hq] at this
    cases this
  · right
    have hf0 : ¬ (f : Int) < 0 := by omega
    rw [hft]
    simp only [hf0, if_false, Int.toNat_natCast]
    have hle := backK_le l f
    obtain ⟨q, hq⟩ : ∃ q, q = backK l f := ⟨_, rfl⟩
    rw [← hq] at hle ⊢
    have hpm : ((presL l).take (t + 1)).drop q = presL ((l.take (t + 1)).drop q) := by simp [presL, List.map_take, List.map_drop]
    rw [hpm]
    have hne : presL ((l.take (t + 1)).drop q) ≠ [] := by
      intro e
      have := congrArg List.length e
      rw [presL_len, List.length_drop, List.length_take] at this
      simp at this; omega
    obtain ⟨m1, m2⟩ := minOf_is hne
    have hf := (hit_at.1 r3).1
    have hfl : f < l.length := by omega
    have hmem : (presL l).getD f 0 ∈ presL ((l.take (t + 1)).drop q) := by
      rw [← hpm, List.getD_eq_getElem?_getD, List.getElem?_eq_getElem (by rw [presL_len]; exact hfl), Option.getD_some]
      refine List.mem_iff_getElem.2 ⟨f - q, by rw [List.length_drop, List.length_take, presL_len]; omega, ?_⟩
      rw [List.getElem_drop, List.getElem_take]
      congr 1; omega
    have hmin := m2 _ hmem
    refine ⟨q, t, by omega, r2, ?_, fun hp => by rw [hq] at hp ⊢; exact backK_key l f hp, by omega, smpF_part hs (by omega) r2, ?_⟩
    · congr 3
      omega
    · simp only [presL, List.mem_map] at m1
      obtain ⟨s, hs1, hs2⟩ := m1
      have hb := (smpF_0 hs).2.1 s (List.mem_of_mem_take (List.mem_of_mem_drop hs1))
      simp only [badSmp, Bool.or_eq_false_iff] at hb
      have b1 := outB_f hb.1.1.1
      have b2 := outB_f hb.1.2
      change _ = Go.Lib.minOf (presL ((l.take (t + 1)).drop q)) at hs2
      rw [← hs2]; omega
theorem media_no {sc : Int} {ts : List Trk} {tr time : Int} (h : (mediaAtF sc ts tr time).2 ≠ 0) : (mediaAtF sc ts tr time).1 = 0 := by
  unfold mediaAtF at h ⊢
  split
  · rfl
  rename_i h1
  rw [if_neg h1] at h
  split
  · rfl
  rename_i h2
  rw [if_neg h2] at h
  split
  · rfl
  · rename_i t ht
    rw [ht] at h
    simp only at h
    split
    · rfl
    rename_i h3
    rw [if_neg h3] at h
    split
    · rfl
    · rename_i h4
      rw [if_neg h4] at h
      exact absurd rfl h
theorem media_yes {sc : Int} {ts : List Trk} {tr time : Int} (h : (mediaAtF sc ts tr time).2 = 0) : flmF sc ts tr = 0 := by
  unfold mediaAtF at h
  split at h
  · rename_i q; exact absurd h q
  · rename_i q; simpa using q
theorem all_smp' (x : List AV) (h : HasAll [.int .i64, .int .i64, .int .i64, .int .i64, .bool] x) : ∃ s : Smp, x = s.av ∧ True := by
  obtain ⟨v0, r, rfl, h0, h⟩ := all_cons h
  obtain ⟨v1, r, rfl, h1, h⟩ := all_cons h
  obtain ⟨v2, r, rfl, h2, h⟩ := all_cons h
  obtain ⟨v3, r, rfl, h3, h⟩ := all_cons h
  obtain ⟨v4, r, rfl, h4, h⟩ := all_cons h
  obtain rfl := all_nil h
  obtain ⟨n0, rfl, _⟩ := has_int h0
  obtain ⟨n1, rfl, _⟩ := has_int h1
  obtain ⟨n2, rfl, _⟩ := has_int h2
  obtain ⟨n3, rfl, _⟩ := has_int h3
  obtain ⟨n4, rfl⟩ := has_bool h4
  exact ⟨⟨n0, n1, n2, n3, n4⟩, rfl, trivial⟩
theorem all_edt (x : List AV) (h : HasAll [.int .i64, .int .i64] x) : ∃ s : Edt, x = s.av ∧ True := by
  obtain ⟨v0, r, rfl, h0, h⟩ := all_cons h
  obtain ⟨v1, r, rfl, h1, h⟩ := all_cons h
  obtain rfl := all_nil h
  obtain ⟨n0, rfl, _⟩ := has_int h0
  obtain ⟨n1, rfl, _⟩ := has_int h1
  exact ⟨⟨n0, n1⟩, rfl, trivial⟩
theorem all_trk (x : List AV) (h : HasAll [.str, .int .i64, .row [.int .i64, .int .i64, .int .i64, .int .i64, .bool], .row [.int .i64, .int .i64]] x) : ∃ t : Trk, x = t.av ∧ True := by
  obtain ⟨v0, r, rfl, h0, h⟩ := all_cons h
  obtain ⟨v1, r, rfl, h1, h⟩ := all_cons h
  obtain ⟨v2, r, rfl, h2, h⟩ := all_cons h
  obtain ⟨v3, r, rfl, h3, h⟩ := all_cons h
  obtain rfl := all_nil h
  obtain ⟨n0, rfl, _⟩ := has_str h0
  obtain ⟨n1, rfl, _⟩ := has_int h1
  obtain ⟨n2, rfl, _, _⟩ := has_row h2 all_smp'
  obtain ⟨n3, rfl, _, _⟩ := has_row h3 all_edt
  exact ⟨⟨n0, n1, n2, n3⟩, rfl, trivial⟩
theorem all_film (x : List AV) (h : HasAll [.int .i64, .row [.str, .int .i64, .row [.int .i64, .int .i64, .int .i64, .int .i64, .bool], .row [.int .i64, .int .i64]]] x) : ∃ p : Int × List Trk, x = [.val (.int .i64 p.1), .ro (p.2.map Trk.av)] ∧ p.2.length ≤ maxLen := by
  obtain ⟨v0, r, rfl, h0, h⟩ := all_cons h
  obtain ⟨v1, r, rfl, h1, h⟩ := all_cons h
  obtain rfl := all_nil h
  obtain ⟨n0, rfl, _⟩ := has_int h0
  obtain ⟨n1, rfl, hl, _⟩ := has_row h1 all_trk
  exact ⟨(n0, n1), rfl, hl⟩
/-! headend/headendtop.TopSeeksFindSamples -/
def r4_0 : List POp := [⟨3, .boxs (.t 0), none⟩,
  ⟨6, .asg (.c (.bool false)), none⟩]
def r4_1 : List POp := [⟨21, .loads 2 (.t 3), none⟩,
  ⟨22, .mv (.t 1), none⟩,
  ⟨23, .mv (.t 2), none⟩,
  ⟨24, .call 13 [.t 21, .t 22, .t 23], none⟩,
  ⟨20, .mv (.t 24), none⟩,
  ⟨25, .ext 0 (.t 20), none⟩,
  ⟨26, .ext 1 (.t 20), none⟩,
  ⟨7, .mv (.t 25), none⟩,
  ⟨8, .mv (.t 26), none⟩]
def r4_2 : List POp := [⟨27, .mv (.t 8), none⟩,
  ⟨28, .bin .neq (.t 27) (.c (.int .i64 0)), none⟩,
  ⟨29, .mv (.t 28), none⟩,
  ⟨30, .mv (.t 7), some (29, false)⟩,
  ⟨31, .bin .lss (.t 30) (.c (.int .i64 (-1000000000000000))), some (29, false)⟩,
  ⟨32, .pick (.t 29) (.c (.bool true)) (.t 31), none⟩,
  ⟨33, .mv (.t 32), none⟩,
  ⟨34, .mv (.t 7), some (33, false)⟩,
  ⟨35, .bin .geq (.t 34) (.c (.int .i64 1000000000000000)), some (33, false)⟩,
  ⟨36, .pick (.t 33) (.c (.bool true)) (.t 35), none⟩,
  ⟨37, .mv (.t 36), none⟩,
  ⟨38, .mv (.t 1), some (37, false)⟩,
  ⟨39, .bin .lss (.t 38) (.c (.int .i64 0)), some (37, false)⟩,
  ⟨40, .pick (.t 37) (.c (.bool true)) (.t 39), none⟩,
  ⟨41, .mv (.t 40), none⟩,
  ⟨42, .mv (.t 1), some (41, false)⟩,
  ⟨43, .fld 1 (.t 3), some (41, false)⟩,
  ⟨44, .load (.t 43), some (41, false)⟩,
  ⟨45, .len (.t 44), some (41, false)⟩,
  ⟨46, .bin .geq (.t 42) (.t 45), some (41, false)⟩,
  ⟨47, .pick (.t 41) (.c (.bool true)) (.t 46), none⟩]
def r4_3 : List POp := [⟨48, .mv (.t 8), none⟩,
  ⟨49, .bin .eql (.t 48) (.c (.int .i64 0)), none⟩,
  ⟨50, .mv (.t 49), none⟩,
  ⟨51, .mv (.t 7), some (50, false)⟩,
  ⟨52, .bin .eql (.t 51) (.c (.int .i64 0)), some (50, false)⟩,
  ⟨53, .pick (.t 50) (.c (.bool true)) (.t 52), none⟩,
  ⟨54, .mv (.t 53), none⟩,
  ⟨55, .call 14 [], some (54, true)⟩,
  ⟨56, .pick (.t 54) (.t 55) (.c (.bool false)), none⟩,
  ⟨6, .asg (.t 56), none⟩]
def r4_4 : List POp := [⟨57, .fld 1 (.t 3), none⟩,
  ⟨58, .load (.t 57), none⟩,
  ⟨59, .mv (.t 1), none⟩,
  ⟨60, .idx 4 (.t 58) (.t 59), none⟩,
  ⟨61, .fld 2 (.t 60), none⟩,
  ⟨62, .load (.t 61), none⟩,
  ⟨9, .asg (.t 62), none⟩]
def r4_5 : List POp := [⟨64, .mv (.t 9), none⟩,
  ⟨65, .mv (.t 7), none⟩,
  ⟨66, .mv (.t 7), none⟩,
  ⟨67, .bin .add (.t 66) (.c (.int .i64 1)), none⟩,
  ⟨68, .build [.int .i64 0, .int .i64 0] [(0, 1, .t 65), (1, 1, .t 67)], none⟩,
  ⟨69, .call 15 [.t 64, .t 68], none⟩,
  ⟨63, .mv (.t 69), none⟩,
  ⟨70, .ext 0 (.t 63), none⟩,
  ⟨71, .ext 1 (.t 63), none⟩,
  ⟨10, .alloc [.int .i64 0, .int .i64 0, .int .i64 0], none⟩,
  ⟨0, .stores 3 (.t 10) (.t 70), none⟩,
  ⟨8, .mv (.t 71), none⟩]
def r4_6 : List POp := [⟨72, .mv (.t 8), none⟩,
  ⟨73, .bin .eql (.t 72) (.c (.int .i64 9)), none⟩]
def r4_7 : List POp := [⟨75, .mv (.t 9), none⟩,
  ⟨76, .call 16 [.t 75], none⟩,
  ⟨74, .mv (.t 76), none⟩,
  ⟨77, .ext 0 (.t 74), none⟩,
  ⟨78, .ext 1 (.t 74), none⟩,
  ⟨11, .asg (.t 77), none⟩,
  ⟨12, .mv (.t 78), none⟩]
def r4_8 : List POp := [⟨80, .mv (.t 9), none⟩,
  ⟨81, .call 17 [.t 80], none⟩,
  ⟨79, .mv (.t 81), none⟩,
  ⟨82, .ext 0 (.t 79), none⟩,
  ⟨83, .ext 1 (.t 79), none⟩,
  ⟨13, .asg (.t 82), none⟩,
  ⟨14, .mv (.t 83), none⟩]
def r4_9 : List POp := [⟨15, .asg (.c (.int .i64 0)), none⟩]
def r4_10 : List POp := [⟨84, .mv (.t 15), none⟩,
  ⟨85, .mv (.t 11), none⟩,
  ⟨86, .len (.t 85), none⟩,
  ⟨87, .bin .lss (.t 84) (.t 86), none⟩,
  ⟨88, .mv (.t 87), none⟩,
  ⟨89, .mv (.t 15), some (88, true)⟩,
  ⟨90, .mv (.t 13), some (88, true)⟩,
  ⟨91, .len (.t 90), some (88, true)⟩,
  ⟨92, .bin .lss (.t 89) (.t 91), some (88, true)⟩,
  ⟨93, .pick (.t 88) (.t 92) (.c (.bool false)), none⟩]
def r4_12 : List POp := [⟨96, .mv (.t 11), none⟩,
  ⟨97, .mv (.t 15), none⟩,
  ⟨98, .idx 1 (.t 96) (.t 97), none⟩,
  ⟨99, .load (.t 98), none⟩,
  ⟨100, .mv (.t 7), none⟩,
  ⟨101, .bin .leq (.t 99) (.t 100), none⟩,
  ⟨102, .mv (.t 101), none⟩,
  ⟨103, .mv (.t 7), some (102, true)⟩,
  ⟨104, .mv (.t 13), some (102, true)⟩,
  ⟨105, .mv (.t 15), some (102, true)⟩,
  ⟨106, .idx 1 (.t 104) (.t 105), some (102, true)⟩,
  ⟨107, .load (.t 106), some (102, true)⟩,
  ⟨108, .bin .lss (.t 103) (.t 107), some (102, true)⟩,
  ⟨109, .pick (.t 102) (.t 108) (.c (.bool false)), none⟩]
def r4_13 : List POp := [⟨6, .asg (.c (.bool false)), none⟩]
def r4_11 : List POp := [⟨94, .mv (.t 15), none⟩,
  ⟨95, .bin .add (.t 94) (.c (.int .i64 1)), none⟩,
  ⟨15, .asg (.t 95), none⟩]
def r4_14 : List POp := [⟨110, .mv (.t 12), none⟩,
  ⟨111, .bin .eql (.t 110) (.c (.int .i64 0)), none⟩,
  ⟨112, .mv (.t 111), none⟩,
  ⟨113, .mv (.t 14), some (112, true)⟩,
  ⟨114, .bin .eql (.t 113) (.c (.int .i64 0)), some (112, true)⟩,
  ⟨115, .pick (.t 112) (.t 114) (.c (.bool false)), none⟩,
  ⟨116, .mv (.t 115), none⟩,
  ⟨117, .call 14 [], some (116, true)⟩,
  ⟨118, .pick (.t 116) (.t 117) (.c (.bool false)), none⟩,
  ⟨6, .asg (.t 118), none⟩]
def r4_15 : List POp := [⟨120, .mv (.t 9), none⟩,
  ⟨121, .loads 3 (.t 10), none⟩,
  ⟨122, .call 18 [.t 120, .t 121], none⟩,
  ⟨119, .mv (.t 122), none⟩,
  ⟨123, .ext 0 (.t 119), none⟩,
  ⟨124, .ext 1 (.t 119), none⟩,
  ⟨16, .asg (.t 123), none⟩,
  ⟨17, .mv (.t 124), none⟩]
def r4_16 : List POp := [⟨126, .mv (.t 16), none⟩,
  ⟨127, .call 16 [.t 126], none⟩,
  ⟨125, .mv (.t 127), none⟩,
  ⟨128, .ext 0 (.t 125), none⟩,
  ⟨129, .ext 1 (.t 125), none⟩,
  ⟨18, .asg (.t 128), none⟩,
  ⟨19, .mv (.t 129), none⟩]
def r4_17 : List POp := [⟨130, .mv (.t 8), none⟩,
  ⟨131, .bin .neq (.t 130) (.c (.int .i64 0)), none⟩,
  ⟨132, .mv (.t 131), none⟩,
  ⟨133, .mv (.t 17), some (132, false)⟩,
  ⟨134, .bin .neq (.t 133) (.c (.int .i64 0)), some (132, false)⟩,
  ⟨135, .pick (.t 132) (.c (.bool true)) (.t 134), none⟩,
  ⟨136, .mv (.t 135), none⟩,
  ⟨137, .mv (.t 19), some (136, false)⟩,
  ⟨138, .bin .neq (.t 137) (.c (.int .i64 0)), some (136, false)⟩,
  ⟨139, .pick (.t 136) (.c (.bool true)) (.t 138), none⟩,
  ⟨140, .mv (.t 139), none⟩,
  ⟨141, .mv (.t 16), some (140, false)⟩,
  ⟨142, .len (.t 141), some (140, false)⟩,
  ⟨143, .bin .eql (.t 142) (.c (.int .i64 0)), some (140, false)⟩,
  ⟨144, .pick (.t 140) (.c (.bool true)) (.t 143), none⟩,
  ⟨145, .mv (.t 144), none⟩,
  ⟨146, .fld 0 (.t 10), some (145, false)⟩,
  ⟨147, .load (.t 146), some (145, false)⟩,
  ⟨148, .bin .gtr (.t 147) (.c (.int .i64 0)), some (145, false)⟩,
  ⟨149, .mv (.t 148), some (145, false)⟩,
  ⟨150, .mv (.t 16), some (149, true)⟩,
  ⟨151, .idx 5 (.t 150) (.c (.int .i64 0)), some (149, true)⟩,
  ⟨152, .fld 4 (.t 151), some (149, true)⟩,
  ⟨153, .load (.t 152), some (149, true)⟩,
  ⟨154, .un .not (.t 153), some (149, true)⟩,
  ⟨155, .pick (.t 149) (.t 154) (.c (.bool false)), some (145, false)⟩,
  ⟨156, .pick (.t 145) (.c (.bool true)) (.t 155), none⟩]
def r4_18 : List POp := [⟨6, .asg (.c (.bool false)), none⟩]
def r4_19 : List POp := [⟨157, .mv (.t 18), none⟩,
  ⟨158, .call 19 [.t 157], none⟩,
  ⟨159, .mv (.t 7), none⟩,
  ⟨160, .bin .leq (.t 158) (.t 159), none⟩,
  ⟨161, .mv (.t 160), none⟩,
  ⟨162, .fld 2 (.t 10), some (161, true)⟩,
  ⟨163, .load (.t 162), some (161, true)⟩,
  ⟨164, .mv (.t 7), some (161, true)⟩,
  ⟨165, .mv (.t 18), some (161, true)⟩,
  ⟨166, .call 19 [.t 165], some (161, true)⟩,
  ⟨167, .bin .sub (.t 164) (.t 166), some (161, true)⟩,
  ⟨168, .bin .eql (.t 163) (.t 167), some (161, true)⟩,
  ⟨169, .pick (.t 161) (.t 168) (.c (.bool false)), none⟩,
  ⟨170, .mv (.t 169), none⟩,
  ⟨171, .call 14 [], some (170, true)⟩,
  ⟨172, .pick (.t 170) (.t 171) (.c (.bool false)), none⟩,
  ⟨6, .asg (.t 172), none⟩]
def l4_0 : PCode := .seq (.seq (.ops r4_10) (.cond (.t 93) (.skip) (.exit 0))) (.seq (.block 1 (.seq (.ops r4_12) (.cond (.t 109) (.seq (.ops r4_13) (.ret)) (.skip)))) (.ops r4_11))
def p4 : PCode := .seq (.ops r4_0) (.seq (.ops r4_1) (.seq (.seq (.ops r4_2) (.cond (.t 47) (.seq (.ops r4_3) (.ret)) (.skip))) (.seq (.ops r4_4) (.seq (.ops r4_5) (.seq (.seq (.ops r4_6) (.cond (.t 73) (.seq (.ops r4_7) (.seq (.ops r4_8) (.seq (.seq (.ops r4_9) (.block 0 (.loop l4_0))) (.seq (.ops r4_14) (.ret))))) (.skip))) (.seq (.ops r4_15) (.seq (.ops r4_16) (.seq (.seq (.ops r4_17) (.cond (.t 156) (.seq (.ops r4_18) (.ret)) (.skip))) (.seq (.ops r4_19) (.ret))))))))))
theorem ok4 : okFunc Try.prog 4 [.t 6] 3 p4 = true := by kernel_rfl
set_option maxHeartbeats 1000000 in
set_option maxRecDepth 20000 in
theorem seeksfind_d (sc : Int) (ts : List Trk) (tr time : Int) (hl : ts.length ≤ 9223372036854775807) : CallOK Try.prog 4 [.agg [.val (.int .i64 sc), .ro (ts.map Trk.av)], .val (.int .i64 tr), .val (.int .i64 time)] (.val (.bool true)) := by
  refine call_of mixed ok4 rfl ?_
  have hm := mediaat_c sc ts tr time hl
  by_cases e0 : (mediaAtF sc ts tr time).2 = 0
  case neg =>
    rw [media_no e0] at hm
    generalize (mediaAtF sc ts tr time).2 = e at *
    repeat' first | (with_reducible refine condD (fun h => ?_) (fun h => ?_)) | (with_reducible refine condE (fun h => ?_) (fun h => ?_)) | (with_reducible refine condN (fun h => ?_) (fun h => ?_)) | (with_reducible refine condI (fun h => ?_) (fun h => ?_)) | (with_reducible refine condS (fun h => ?_) (fun h => ?_)) | (with_reducible refine guardD (by with_unfolding_all rfl) (fun h => ?_) (fun h => ?_)) | (with_reducible refine guardE (by with_unfolding_all rfl) (fun h => ?_) (fun h => ?_)) | (with_reducible refine guardN (by with_unfolding_all rfl) (fun h => ?_) (fun h => ?_)) | (with_reducible refine guardI (by with_unfolding_all rfl) (fun h => ?_) (fun h => ?_)) | (with_reducible refine guardS (by with_unfolding_all rfl) (fun h => ?_) (fun h => ?_)) | ((refine callG hm ?_)) | ((refine callG comes_c ?_)) | (with_reducible refine And.intro ?_ ?_; omega) | (simp only [done_eq, done_eq', donet_eq, donet_eq', fin_val, fin_tup, fin_agg, fin_ro, res_one, res_more, rv_t, rv_c, rv_l, AV.tup.injEq, AV.agg.injEq, AV.ro.injEq, List.cons.injEq, int_eq, bool_eq, Int.toNat_natCast, Int.reduceToNat, Int.toNat_zero, Int.toNat_one, Int.reduceLE, Int.reduceLT, Int.reduceBEq, Int.reduceBNe, beq_self_eq_true, bne_self_eq_false, decide_true, decide_false,  Int.reduceNeg, toNat_pred, toNat_succ, List.length_map, cnd_t, cnd_f, grd_tt, grd_u, grd_tf, grd_ft, grd_ff, g_skip, g_ops, g_seq, g_block, g_exit, g_ret, x_c, x_o, x_l, x_b, g_b, g_nil, r_all, o_nil, g_cond, o_guard, o_call, o_callm, o_callx, o_callv, lk, ef, o_mv, o_pick, o_bin, o_never, o_eqs, o_eqb, o_un, o_conv, o_load, o_loadr, o_idxr, o_loads, o_fld, o_idx, o_idxs, o_len, o_lens, o_ext, o_nilck, o_slc, o_slcs, o_build, o_minmax, o_mkfn, o_alloc, o_box, o_boxs, o_row, o_rowr, o_mk, o_asg, o_app, o_store, o_stores, o_eqnil, hv, eqAV, ev, view_t, view_c, view_nil, view_fn, look_own, look_box, look_junk, look_val, look_nilsl, look_ro, look_roAt, look_agg, look_tup, look_clo, look_alias, look_ref, look_into, rowOf, cellsOf, argv, vbin, vun, bnd, elemOf, putParts, setAt, zav, ASt.rid, ASt.free, AV.kill, AV.isHome, AV.noLoan, AV.cellOK, Value.oneCell', put_at, mk_at, mk_nil, initSt, true_and, and_true, and_self, implies_true, List.map_cons, List.map_nil, List.forall_mem_cons, List.not_mem_nil, false_implies, List.length_cons, List.length_nil, List.getD_cons_zero, List.getD_cons_succ, List.getD_nil, List.drop_succ_cons, List.drop_zero, List.take_succ_cons, List.take_zero, List.set_cons_zero, List.set_cons_succ, List.all_cons, List.all_nil, Bool.and_true, Bool.true_and, Bool.not_true, Bool.not_false, reduceCtorEq, if_true, if_false, Bool.false_eq_true, ↓reduceIte, Nat.reduceEqDiff, Nat.reduceAdd, Nat.reduceSub, Nat.reduceMul, Nat.reduceLeDiff, Nat.reduceLT, ne_eq, not_false_eq_true, not_true_eq_false, Nat.one_ne_zero, Nat.zero_ne_one, r4_0, r4_1, r4_2, r4_3, r4_4, r4_5, r4_6, r4_7, r4_8, r4_9, r4_10, r4_12, r4_13, r4_11, r4_14, r4_15, r4_16, r4_17, r4_18, r4_19, p4, bne0_t e0, beq0_f e0]) | (exfalso; omega)
  have hflm := media_yes e0
  obtain ⟨_, k, rfl, hk, htk⟩ := flmF_0 hflm
  obtain ⟨_, hsm, _, _⟩ := trkF_0 htk
  have gK := getD_map (f := Trk.av) (d := []) hk
  simp only [Trk.av] at gK
  have hki : (k : Int) < ts.length := by omega
  have hkn : ¬ (ts.length : Int) ≤ k := by omega
  have hk0 : ¬ (k : Int) < 0 := by omega
  rw [e0] at hm
  generalize (mediaAtF sc ts k time).1 = m at *
  clear e0 hflm
  by_cases h1 : m < -1000000000000000
  · repeat' first | (with_reducible refine condD (fun h => ?_) (fun h => ?_)) | (with_reducible refine condE (fun h => ?_) (fun h => ?_)) | (with_reducible refine condN (fun h => ?_) (fun h => ?_)) | (with_reducible refine condI (fun h => ?_) (fun h => ?_)) | (with_reducible refine condS (fun h => ?_) (fun h => ?_)) | (with_reducible refine guardD (by with_unfolding_all rfl) (fun h => ?_) (fun h => ?_)) | (with_reducible refine guardE (by with_unfolding_all rfl) (fun h => ?_) (fun h => ?_)) | (with_reducible refine guardN (by with_unfolding_all rfl) (fun h => ?_) (fun h => ?_)) | (with_reducible refine guardI (by with_unfolding_all rfl) (fun h => ?_) (fun h => ?_)) | (with_reducible refine guardS (by with_unfolding_all rfl) (fun h => ?_) (fun h => ?_)) | ((refine callG hm ?_)) | ((refine callG comes_c ?_)) | (with_reducible refine And.intro ?_ ?_; omega) | (simp only [done_eq, done_eq', donet_eq, donet_eq', fin_val, fin_tup, fin_agg, fin_ro, res_one, res_more, rv_t, rv_c, rv_l, AV.tup.injEq, AV.agg.injEq, AV.ro.injEq, List.cons.injEq, int_eq, bool_eq, Int.toNat_natCast, Int.reduceToNat, Int.toNat_zero, Int.toNat_one, Int.reduceLE, Int.reduceLT, Int.reduceBEq, Int.reduceBNe, beq_self_eq_true, bne_self_eq_false, decide_true, decide_false,  Int.reduceNeg, toNat_pred, toNat_succ, List.length_map, cnd_t, cnd_f, grd_tt, grd_u, grd_tf, grd_ft, grd_ff, g_skip, g_ops, g_seq, g_block, g_exit, g_ret, x_c, x_o, x_l, x_b, g_b, g_nil, r_all, o_nil, g_cond, o_guard, o_call, o_callm, o_callx, o_callv, lk, ef, o_mv, o_pick, o_bin, o_never, o_eqs, o_eqb, o_un, o_conv, o_load, o_loadr, o_idxr, o_loads, o_fld, o_idx, o_idxs, o_len, o_lens, o_ext, o_nilck, o_slc, o_slcs, o_build, o_minmax, o_mkfn, o_alloc, o_box, o_boxs, o_row, o_rowr, o_mk, o_asg, o_app, o_store, o_stores, o_eqnil, hv, eqAV, ev, view_t, view_c, view_nil, view_fn, look_own, look_box, look_junk, look_val, look_nilsl, look_ro, look_roAt, look_agg, look_tup, look_clo, look_alias, look_ref, look_into, rowOf, cellsOf, argv, vbin, vun, bnd, elemOf, putParts, setAt, zav, ASt.rid, ASt.free, AV.kill, AV.isHome, AV.noLoan, AV.cellOK, Value.oneCell', put_at, mk_at, mk_nil, initSt, true_and, and_true, and_self, implies_true, List.map_cons, List.map_nil, List.forall_mem_cons, List.not_mem_nil, false_implies, List.length_cons, List.length_nil, List.getD_cons_zero, List.getD_cons_succ, List.getD_nil, List.drop_succ_cons, List.drop_zero, List.take_succ_cons, List.take_zero, List.set_cons_zero, List.set_cons_succ, List.all_cons, List.all_nil, Bool.and_true, Bool.true_and, Bool.not_true, Bool.not_false, reduceCtorEq, if_true, if_false, Bool.false_eq_true, ↓reduceIte, Nat.reduceEqDiff, Nat.reduceAdd, Nat.reduceSub, Nat.reduceMul, Nat.reduceLeDiff, Nat.reduceLT, ne_eq, not_false_eq_true, not_true_eq_false, Nat.one_ne_zero, Nat.zero_ne_one, r4_0, r4_1, r4_2, r4_3, r4_4, r4_5, r4_6, r4_7, r4_8, r4_9, r4_10, r4_12, r4_13, r4_11, r4_14, r4_15, r4_16, r4_17, r4_18, r4_19, p4, h1]) | (exfalso; omega)
  by_cases h2 : 1000000000000000 ≤ m
  · repeat' first | (with_reducible refine condD (fun h => ?_) (fun h => ?_)) | (with_reducible refine condE (fun h => ?_) (fun h => ?_)) | (with_reducible refine condN (fun h => ?_) (fun h => ?_)) | (with_reducible refine condI (fun h => ?_) (fun h => ?_)) | (with_reducible refine condS (fun h => ?_) (fun h => ?_)) | (with_reducible refine guardD (by with_unfolding_all rfl) (fun h => ?_) (fun h => ?_)) | (with_reducible refine guardE (by with_unfolding_all rfl) (fun h => ?_) (fun h => ?_)) | (with_reducible refine guardN (by with_unfolding_all rfl) (fun h => ?_) (fun h => ?_)) | (with_reducible refine guardI (by with_unfolding_all rfl) (fun h => ?_) (fun h => ?_)) | (with_reducible refine guardS (by with_unfolding_all rfl) (fun h => ?_) (fun h => ?_)) | ((refine callG hm ?_)) | ((refine callG comes_c ?_)) | (with_reducible refine And.intro ?_ ?_; omega) | (simp only [done_eq, done_eq', donet_eq, donet_eq', fin_val, fin_tup, fin_agg, fin_ro, res_one, res_more, rv_t, rv_c, rv_l, AV.tup.injEq, AV.agg.injEq, AV.ro.injEq, List.cons.injEq, int_eq, bool_eq, Int.toNat_natCast, Int.reduceToNat, Int.toNat_zero, Int.toNat_one, Int.reduceLE, Int.reduceLT, Int.reduceBEq, Int.reduceBNe, beq_self_eq_true, bne_self_eq_false, decide_true, decide_false,  Int.reduceNeg, toNat_pred, toNat_succ, List.length_map, cnd_t, cnd_f, grd_tt, grd_u, grd_tf, grd_ft, grd_ff, g_skip, g_ops, g_seq, g_block, g_exit, g_ret, x_c, x_o, x_l, x_b, g_b, g_nil, r_all, o_nil, g_cond, o_guard, o_call, o_callm, o_callx, o_callv, lk, ef, o_mv, o_pick, o_bin, o_never, o_eqs, o_eqb, o_un, o_conv, o_load, o_loadr, o_idxr, o_loads, o_fld, o_idx, o_idxs, o_len, o_lens, o_ext, o_nilck, o_slc, o_slcs, o_build, o_minmax, o_mkfn, o_alloc, o_box, o_boxs, o_row, o_rowr, o_mk, o_asg, o_app, o_store, o_stores, o_eqnil, hv, eqAV, ev, view_t, view_c, view_nil, view_fn, look_own, look_box, look_junk, look_val, look_nilsl, look_ro, look_roAt, look_agg, look_tup, look_clo, look_alias, look_ref, look_into, rowOf, cellsOf, argv, vbin, vun, bnd, elemOf, putParts, setAt, zav, ASt.rid, ASt.free, AV.kill, AV.isHome, AV.noLoan, AV.cellOK, Value.oneCell', put_at, mk_at, mk_nil, initSt, true_and, and_true, and_self, implies_true, List.map_cons, List.map_nil, List.forall_mem_cons, List.not_mem_nil, false_implies, List.length_cons, List.length_nil, List.getD_cons_zero, List.getD_cons_succ, List.getD_nil, List.drop_succ_cons, List.drop_zero, List.take_succ_cons, List.take_zero, List.set_cons_zero, List.set_cons_succ, List.all_cons, List.all_nil, Bool.and_true, Bool.true_and, Bool.not_true, Bool.not_false, reduceCtorEq, if_true, if_false, Bool.false_eq_true, ↓reduceIte, Nat.reduceEqDiff, Nat.reduceAdd, Nat.reduceSub, Nat.reduceMul, Nat.reduceLeDiff, Nat.reduceLT, ne_eq, not_false_eq_true, not_true_eq_false, Nat.one_ne_zero, Nat.zero_ne_one, r4_0, r4_1, r4_2, r4_3, r4_4, r4_5, r4_6, r4_7, r4_8, r4_9, r4_10, r4_12, r4_13, r4_11, r4_14, r4_15, r4_16, r4_17, r4_18, r4_19, p4, h1, h2]) | (exfalso; omega)
  have w1 : IntKind.i64.wrap (m + 1) = m + 1 := wrap_in (by omega) (by omega)
  obtain ⟨l, hll⟩ : ∃ l, l = ts[k].smps := ⟨_, rfl⟩
  rw [← hll] at hsm gK
  have hn := need_c l m (m + 1)
  have hl5 := (smpF_0 hsm).1
  have hpl : (presL l).length = l.length := presL_len l
  have hel : (endsL l).length = l.length := endsL_len l
  rcases seek_p (m := m) hsm (Int.not_lt.1 h1) (Int.not_le.1 h2) with ⟨h9, hno⟩ | ⟨q, t, hqt, htl, hneed, hkey, hmin, hpart, hmb⟩
  · have hp := presF_c l
    have he := endsF_c l
    rw [show presF l = (presL l, 0) from by simp [presF, hsm]] at hp
    rw [show endsF l = (endsL l, 0) from by simp [endsF, hsm]] at he
    rw [h9] at hn
    generalize (needF l m (m + 1)).1 = K at *
    simp only [kept, span] at hn
    generalize hP : presL l = P at *
    generalize hE : endsL l = E at *
    repeat' first | (with_reducible refine condD (fun h => ?_) (fun h => ?_)) | (with_reducible refine condE (fun h => ?_) (fun h => ?_)) | (with_reducible refine condN (fun h => ?_) (fun h => ?_)) | (with_reducible refine condI (fun h => ?_) (fun h => ?_)) | (with_reducible refine condS (fun h => ?_) (fun h => ?_)) | (with_reducible refine guardD (by with_unfolding_all rfl) (fun h => ?_) (fun h => ?_)) | (with_reducible refine guardE (by with_unfolding_all rfl) (fun h => ?_) (fun h => ?_)) | (with_reducible refine guardN (by with_unfolding_all rfl) (fun h => ?_) (fun h => ?_)) | (with_reducible refine guardI (by with_unfolding_all rfl) (fun h => ?_) (fun h => ?_)) | (with_reducible refine guardS (by with_unfolding_all rfl) (fun h => ?_) (fun h => ?_)) | ((refine callG hm ?_)) | ((refine callG comes_c ?_)) | ((refine callG hn ?_)) | ((refine callG hp ?_)) | ((refine callG he ?_)) | (with_reducible refine And.intro ?_ ?_; omega) | (simp only [done_eq, done_eq', donet_eq, donet_eq', fin_val, fin_tup, fin_agg, fin_ro, res_one, res_more, rv_t, rv_c, rv_l, AV.tup.injEq, AV.agg.injEq, AV.ro.injEq, List.cons.injEq, int_eq, bool_eq, Int.toNat_natCast, Int.reduceToNat, Int.toNat_zero, Int.toNat_one, Int.reduceLE, Int.reduceLT, Int.reduceBEq, Int.reduceBNe, beq_self_eq_true, bne_self_eq_false, decide_true, decide_false,  Int.reduceNeg, toNat_pred, toNat_succ, List.length_map, cnd_t, cnd_f, grd_tt, grd_u, grd_tf, grd_ft, grd_ff, g_skip, g_ops, g_seq, g_block, g_exit, g_ret, x_c, x_o, x_l, x_b, g_b, g_nil, r_all, o_nil, g_cond, o_guard, o_call, o_callm, o_callx, o_callv, lk, ef, o_mv, o_pick, o_bin, o_never, o_eqs, o_eqb, o_un, o_conv, o_load, o_loadr, o_idxr, o_loads, o_fld, o_idx, o_idxs, o_len, o_lens, o_ext, o_nilck, o_slc, o_slcs, o_build, o_minmax, o_mkfn, o_alloc, o_box, o_boxs, o_row, o_rowr, o_mk, o_asg, o_app, o_store, o_stores, o_eqnil, hv, eqAV, ev, view_t, view_c, view_nil, view_fn, look_own, look_box, look_junk, look_val, look_nilsl, look_ro, look_roAt, look_agg, look_tup, look_clo, look_alias, look_ref, look_into, rowOf, cellsOf, argv, vbin, vun, bnd, elemOf, putParts, setAt, zav, ASt.rid, ASt.free, AV.kill, AV.isHome, AV.noLoan, AV.cellOK, Value.oneCell', put_at, mk_at, mk_nil, initSt, true_and, and_true, and_self, implies_true, List.map_cons, List.map_nil, List.forall_mem_cons, List.not_mem_nil, false_implies, List.length_cons, List.length_nil, List.getD_cons_zero, List.getD_cons_succ, List.getD_nil, List.drop_succ_cons, List.drop_zero, List.take_succ_cons, List.take_zero, List.set_cons_zero, List.set_cons_succ, List.all_cons, List.all_nil, Bool.and_true, Bool.true_and, Bool.not_true, Bool.not_false, reduceCtorEq, if_true, if_false, Bool.false_eq_true, ↓reduceIte, Nat.reduceEqDiff, Nat.reduceAdd, Nat.reduceSub, Nat.reduceMul, Nat.reduceLeDiff, Nat.reduceLT, ne_eq, not_false_eq_true, not_true_eq_false, Nat.one_ne_zero, Nat.zero_ne_one, r4_0, r4_1, r4_2, r4_3, r4_4, r4_5, r4_6, r4_7, r4_8, r4_9, r4_10, r4_12, r4_13, r4_11, r4_14, r4_15, r4_16, r4_17, r4_18, r4_19, p4, h1, h2, gK, hki, hkn, hk0, w1, List.length_map]) | (exfalso; omega)
    refine loopS (fun i : Nat => mk [(7, .val (.int .i64 m)), (11, .ro (P.map oneI)), (12, .val (.int .i64 0)), (13, .ro (E.map oneI)), (14, .val (.int .i64 0)), (15, .val (.int .i64 i))]) (fun i => i ≤ l.length) (fun i => l.length - i) 0 (weak_mk ?_) (Nat.zero_le _) ?_
    · simp only [wk_cons, wk_nil, wk1, vint_eq, vbool_eq, AV.val.injEq, done_eq, done_eq', donet_eq, donet_eq', fin_val, fin_tup, fin_agg, fin_ro, res_one, res_more, rv_t, rv_c, rv_l, AV.tup.injEq, AV.agg.injEq, AV.ro.injEq, List.cons.injEq, int_eq, bool_eq, Int.toNat_natCast, Int.reduceToNat, Int.toNat_zero, Int.toNat_one, Int.reduceLE, Int.reduceLT, Int.reduceBEq, Int.reduceBNe, beq_self_eq_true, bne_self_eq_false, decide_true, decide_false,  Int.reduceNeg, toNat_pred, toNat_succ, List.length_map, cnd_t, cnd_f, grd_tt, grd_u, grd_tf, grd_ft, grd_ff, g_skip, g_ops, g_seq, g_block, g_exit, g_ret, x_c, x_o, x_l, x_b, g_b, g_nil, r_all, o_nil, g_cond, o_guard, o_call, o_callm, o_callx, o_callv, lk, ef, o_mv, o_pick, o_bin, o_never, o_eqs, o_eqb, o_un, o_conv, o_load, o_loadr, o_idxr, o_loads, o_fld, o_idx, o_idxs, o_len, o_lens, o_ext, o_nilck, o_slc, o_slcs, o_build, o_minmax, o_mkfn, o_alloc, o_box, o_boxs, o_row, o_rowr, o_mk, o_asg, o_app, o_store, o_stores, o_eqnil, hv, eqAV, ev, view_t, view_c, view_nil, view_fn, look_own, look_box, look_junk, look_val, look_nilsl, look_ro, look_roAt, look_agg, look_tup, look_clo, look_alias, look_ref, look_into, rowOf, cellsOf, argv, vbin, vun, bnd, elemOf, putParts, setAt, zav, ASt.rid, ASt.free, AV.kill, AV.isHome, AV.noLoan, AV.cellOK, Value.oneCell', put_at, mk_at, mk_nil, initSt, true_and, and_true, and_self, implies_true, List.map_cons, List.map_nil, List.forall_mem_cons, List.not_mem_nil, false_implies, List.length_cons, List.length_nil, List.getD_cons_zero, List.getD_cons_succ, List.getD_nil, List.drop_succ_cons, List.drop_zero, List.take_succ_cons, List.take_zero, List.set_cons_zero, List.set_cons_succ, List.all_cons, List.all_nil, Bool.and_true, Bool.true_and, Bool.not_true, Bool.not_false, reduceCtorEq, if_true, if_false, Bool.false_eq_true, ↓reduceIte, Nat.reduceEqDiff, Nat.reduceAdd, Nat.reduceSub, Nat.reduceMul, Nat.reduceLeDiff, Nat.reduceLT, ne_eq, not_false_eq_true, not_true_eq_false, Nat.one_ne_zero, Nat.zero_ne_one]
      simp
    rintro J hJ i hi
    by_cases hil : i < l.length
    · have hiP : i < P.length := by omega
      have hiE : i < E.length := by omega
      have gP := getD_map (f := oneI) (d := []) hiP
      have gE := getD_map (f := oneI) (d := []) hiE
      simp only [oneI] at gP gE
      have hw := i_add1 i (by omega)
      have hii : (i : Int) < P.length := by omega
      have hie : (i : Int) < E.length := by omega
      have hn' := hno i hil
      rw [List.getD_eq_getElem?_getD, List.getElem?_eq_getElem hiP, List.getD_eq_getElem?_getD, List.getElem?_eq_getElem hiE, Option.getD_some, Option.getD_some] at hn'
      by_cases c1 : P[i] ≤ m
      · have c2 : ¬ m < E[i] := fun c => hn' ⟨c1, c⟩
        repeat' first | (with_reducible refine condD (fun h => ?_) (fun h => ?_)) | (with_reducible refine condE (fun h => ?_) (fun h => ?_)) | (with_reducible refine condN (fun h => ?_) (fun h => ?_)) | (with_reducible refine condI (fun h => ?_) (fun h => ?_)) | (with_reducible refine condS (fun h => ?_) (fun h => ?_)) | (with_reducible refine guardD (by with_unfolding_all rfl) (fun h => ?_) (fun h => ?_)) | (with_reducible refine guardE (by with_unfolding_all rfl) (fun h => ?_) (fun h => ?_)) | (with_reducible refine guardN (by with_unfolding_all rfl) (fun h => ?_) (fun h => ?_)) | (with_reducible refine guardI (by with_unfolding_all rfl) (fun h => ?_) (fun h => ?_)) | (with_reducible refine guardS (by with_unfolding_all rfl) (fun h => ?_) (fun h => ?_)) | (with_reducible refine And.intro ?_ ?_; omega) | (simp only [done_eq, done_eq', donet_eq, donet_eq', fin_val, fin_tup, fin_agg, fin_ro, res_one, res_more, rv_t, rv_c, rv_l, AV.tup.injEq, AV.agg.injEq, AV.ro.injEq, List.cons.injEq, int_eq, bool_eq, Int.toNat_natCast, Int.reduceToNat, Int.toNat_zero, Int.toNat_one, Int.reduceLE, Int.reduceLT, Int.reduceBEq, Int.reduceBNe, beq_self_eq_true, bne_self_eq_false, decide_true, decide_false,  Int.reduceNeg, toNat_pred, toNat_succ, List.length_map, cnd_t, cnd_f, grd_tt, grd_u, grd_tf, grd_ft, grd_ff, g_skip, g_ops, g_seq, g_block, g_exit, g_ret, x_c, x_o, x_l, x_b, g_b, g_nil, r_all, o_nil, g_cond, o_guard, o_call, o_callm, o_callx, o_callv, lk, ef, o_mv, o_pick, o_bin, o_never, o_eqs, o_eqb, o_un, o_conv, o_load, o_loadr, o_idxr, o_loads, o_fld, o_idx, o_idxs, o_len, o_lens, o_ext, o_nilck, o_slc, o_slcs, o_build, o_minmax, o_mkfn, o_alloc, o_box, o_boxs, o_row, o_rowr, o_mk, o_asg, o_app, o_store, o_stores, o_eqnil, hv, eqAV, ev, view_t, view_c, view_nil, view_fn, look_own, look_box, look_junk, look_val, look_nilsl, look_ro, look_roAt, look_agg, look_tup, look_clo, look_alias, look_ref, look_into, rowOf, cellsOf, argv, vbin, vun, bnd, elemOf, putParts, setAt, zav, ASt.rid, ASt.free, AV.kill, AV.isHome, AV.noLoan, AV.cellOK, Value.oneCell', put_at, mk_at, mk_nil, initSt, true_and, and_true, and_self, implies_true, List.map_cons, List.map_nil, List.forall_mem_cons, List.not_mem_nil, false_implies, List.length_cons, List.length_nil, List.getD_cons_zero, List.getD_cons_succ, List.getD_nil, List.drop_succ_cons, List.drop_zero, List.take_succ_cons, List.take_zero, List.set_cons_zero, List.set_cons_succ, List.all_cons, List.all_nil, Bool.and_true, Bool.true_and, Bool.not_true, Bool.not_false, reduceCtorEq, if_true, if_false, Bool.false_eq_true, ↓reduceIte, Nat.reduceEqDiff, Nat.reduceAdd, Nat.reduceSub, Nat.reduceMul, Nat.reduceLeDiff, Nat.reduceLT, ne_eq, not_false_eq_true, not_true_eq_false, Nat.one_ne_zero, Nat.zero_ne_one, r4_0, r4_1, r4_2, r4_3, r4_4, r4_5, r4_6, r4_7, r4_8, r4_9, r4_10, r4_12, r4_13, r4_11, r4_14, r4_15, r4_16, r4_17, r4_18, r4_19, p4, l4_0, gP, gE, hii, hie, c1, c2, List.length_map]) | (exfalso; omega)
        all_goals exact again hJ (i + 1) (weak_mk (by simp only [wk_cons, wk_nil, wk1, vint_eq, vbool_eq, AV.val.injEq, done_eq, done_eq', donet_eq, donet_eq', fin_val, fin_tup, fin_agg, fin_ro, res_one, res_more, rv_t, rv_c, rv_l, AV.tup.injEq, AV.agg.injEq, AV.ro.injEq, List.cons.injEq, int_eq, bool_eq, Int.toNat_natCast, Int.reduceToNat, Int.toNat_zero, Int.toNat_one, Int.reduceLE, Int.reduceLT, Int.reduceBEq, Int.reduceBNe, beq_self_eq_true, bne_self_eq_false, decide_true, decide_false,  Int.reduceNeg, toNat_pred, toNat_succ, List.length_map, cnd_t, cnd_f, grd_tt, grd_u, grd_tf, grd_ft, grd_ff, g_skip, g_ops, g_seq, g_block, g_exit, g_ret, x_c, x_o, x_l, x_b, g_b, g_nil, r_all, o_nil, g_cond, o_guard, o_call, o_callm, o_callx, o_callv, lk, ef, o_mv, o_pick, o_bin, o_never, o_eqs, o_eqb, o_un, o_conv, o_load, o_loadr, o_idxr, o_loads, o_fld, o_idx, o_idxs, o_len, o_lens, o_ext, o_nilck, o_slc, o_slcs, o_build, o_minmax, o_mkfn, o_alloc, o_box, o_boxs, o_row, o_rowr, o_mk, o_asg, o_app, o_store, o_stores, o_eqnil, hv, eqAV, ev, view_t, view_c, view_nil, view_fn, look_own, look_box, look_junk, look_val, look_nilsl, look_ro, look_roAt, look_agg, look_tup, look_clo, look_alias, look_ref, look_into, rowOf, cellsOf, argv, vbin, vun, bnd, elemOf, putParts, setAt, zav, ASt.rid, ASt.free, AV.kill, AV.isHome, AV.noLoan, AV.cellOK, Value.oneCell', put_at, mk_at, mk_nil, initSt, true_and, and_true, and_self, implies_true, List.map_cons, List.map_nil, List.forall_mem_cons, List.not_mem_nil, false_implies, List.length_cons, List.length_nil, List.getD_cons_zero, List.getD_cons_succ, List.getD_nil, List.drop_succ_cons, List.drop_zero, List.take_succ_cons, List.take_zero, List.set_cons_zero, List.set_cons_succ, List.all_cons, List.all_nil, Bool.and_true, Bool.true_and, Bool.not_true, Bool.not_false, reduceCtorEq, if_true, if_false, Bool.false_eq_true, ↓reduceIte, Nat.reduceEqDiff, Nat.reduceAdd, Nat.reduceSub, Nat.reduceMul, Nat.reduceLeDiff, Nat.reduceLT, ne_eq, not_false_eq_true, not_true_eq_false, Nat.one_ne_zero, Nat.zero_ne_one]; exact hw)) (by omega) (by omega)
      · repeat' first | (with_reducible refine condD (fun h => ?_) (fun h => ?_)) | (with_reducible refine condE (fun h => ?_) (fun h => ?_)) | (with_reducible refine condN (fun h => ?_) (fun h => ?_)) | (with_reducible refine condI (fun h => ?_) (fun h => ?_)) | (with_reducible refine condS (fun h => ?_) (fun h => ?_)) | (with_reducible refine guardD (by with_unfolding_all rfl) (fun h => ?_) (fun h => ?_)) | (with_reducible refine guardE (by with_unfolding_all rfl) (fun h => ?_) (fun h => ?_)) | (with_reducible refine guardN (by with_unfolding_all rfl) (fun h => ?_) (fun h => ?_)) | (with_reducible refine guardI (by with_unfolding_all rfl) (fun h => ?_) (fun h => ?_)) | (with_reducible refine guardS (by with_unfolding_all rfl) (fun h => ?_) (fun h => ?_)) | (with_reducible refine And.intro ?_ ?_; omega) | (simp only [done_eq, done_eq', donet_eq, donet_eq', fin_val, fin_tup, fin_agg, fin_ro, res_one, res_more, rv_t, rv_c, rv_l, AV.tup.injEq, AV.agg.injEq, AV.ro.injEq, List.cons.injEq, int_eq, bool_eq, Int.toNat_natCast, Int.reduceToNat, Int.toNat_zero, Int.toNat_one, Int.reduceLE, Int.reduceLT, Int.reduceBEq, Int.reduceBNe, beq_self_eq_true, bne_self_eq_false, decide_true, decide_false,  Int.reduceNeg, toNat_pred, toNat_succ, List.length_map, cnd_t, cnd_f, grd_tt, grd_u, grd_tf, grd_ft, grd_ff, g_skip, g_ops, g_seq, g_block, g_exit, g_ret, x_c, x_o, x_l, x_b, g_b, g_nil, r_all, o_nil, g_cond, o_guard, o_call, o_callm, o_callx, o_callv, lk, ef, o_mv, o_pick, o_bin, o_never, o_eqs, o_eqb, o_un, o_conv, o_load, o_loadr, o_idxr, o_loads, o_fld, o_idx, o_idxs, o_len, o_lens, o_ext, o_nilck, o_slc, o_slcs, o_build, o_minmax, o_mkfn, o_alloc, o_box, o_boxs, o_row, o_rowr, o_mk, o_asg, o_app, o_store, o_stores, o_eqnil, hv, eqAV, ev, view_t, view_c, view_nil, view_fn, look_own, look_box, look_junk, look_val, look_nilsl, look_ro, look_roAt, look_agg, look_tup, look_clo, look_alias, look_ref, look_into, rowOf, cellsOf, argv, vbin, vun, bnd, elemOf, putParts, setAt, zav, ASt.rid, ASt.free, AV.kill, AV.isHome, AV.noLoan, AV.cellOK, Value.oneCell', put_at, mk_at, mk_nil, initSt, true_and, and_true, and_self, implies_true, List.map_cons, List.map_nil, List.forall_mem_cons, List.not_mem_nil, false_implies, List.length_cons, List.length_nil, List.getD_cons_zero, List.getD_cons_succ, List.getD_nil, List.drop_succ_cons, List.drop_zero, List.take_succ_cons, List.take_zero, List.set_cons_zero, List.set_cons_succ, List.all_cons, List.all_nil, Bool.and_true, Bool.true_and, Bool.not_true, Bool.not_false, reduceCtorEq, if_true, if_false, Bool.false_eq_true, ↓reduceIte, Nat.reduceEqDiff, Nat.reduceAdd, Nat.reduceSub, Nat.reduceMul, Nat.reduceLeDiff, Nat.reduceLT, ne_eq, not_false_eq_true, not_true_eq_false, Nat.one_ne_zero, Nat.zero_ne_one, r4_0, r4_1, r4_2, r4_3, r4_4, r4_5, r4_6, r4_7, r4_8, r4_9, r4_10, r4_12, r4_13, r4_11, r4_14, r4_15, r4_16, r4_17, r4_18, r4_19, p4, l4_0, gP, gE, hii, hie, c1, List.length_map]) | (exfalso; omega)
        all_goals exact again hJ (i + 1) (weak_mk (by simp only [wk_cons, wk_nil, wk1, vint_eq, vbool_eq, AV.val.injEq, done_eq, done_eq', donet_eq, donet_eq', fin_val, fin_tup, fin_agg, fin_ro, res_one, res_more, rv_t, rv_c, rv_l, AV.tup.injEq, AV.agg.injEq, AV.ro.injEq, List.cons.injEq, int_eq, bool_eq, Int.toNat_natCast, Int.reduceToNat, Int.toNat_zero, Int.toNat_one, Int.reduceLE, Int.reduceLT, Int.reduceBEq, Int.reduceBNe, beq_self_eq_true, bne_self_eq_false, decide_true, decide_false,  Int.reduceNeg, toNat_pred, toNat_succ, List.length_map, cnd_t, cnd_f, grd_tt, grd_u, grd_tf, grd_ft, grd_ff, g_skip, g_ops, g_seq, g_block, g_exit, g_ret, x_c, x_o, x_l, x_b, g_b, g_nil, r_all, o_nil, g_cond, o_guard, o_call, o_callm, o_callx, o_callv, lk, ef, o_mv, o_pick, o_bin, o_never, o_eqs, o_eqb, o_un, o_conv, o_load, o_loadr, o_idxr, o_loads, o_fld, o_idx, o_idxs, o_len, o_lens, o_ext, o_nilck, o_slc, o_slcs, o_build, o_minmax, o_mkfn, o_alloc, o_box, o_boxs, o_row, o_rowr, o_mk, o_asg, o_app, o_store, o_stores, o_eqnil, hv, eqAV, ev, view_t, view_c, view_nil, view_fn, look_own, look_box, look_junk, look_val, look_nilsl, look_ro, look_roAt, look_agg, look_tup, look_clo, look_alias, look_ref, look_into, rowOf, cellsOf, argv, vbin, vun, bnd, elemOf, putParts, setAt, zav, ASt.rid, ASt.free, AV.kill, AV.isHome, AV.noLoan, AV.cellOK, Value.oneCell', put_at, mk_at, mk_nil, initSt, true_and, and_true, and_self, implies_true, List.map_cons, List.map_nil, List.forall_mem_cons, List.not_mem_nil, false_implies, List.length_cons, List.length_nil, List.getD_cons_zero, List.getD_cons_succ, List.getD_nil, List.drop_succ_cons, List.drop_zero, List.take_succ_cons, List.take_zero, List.set_cons_zero, List.set_cons_succ, List.all_cons, List.all_nil, Bool.and_true, Bool.true_and, Bool.not_true, Bool.not_false, reduceCtorEq, if_true, if_false, Bool.false_eq_true, ↓reduceIte, Nat.reduceEqDiff, Nat.reduceAdd, Nat.reduceSub, Nat.reduceMul, Nat.reduceLeDiff, Nat.reduceLT, ne_eq, not_false_eq_true, not_true_eq_false, Nat.one_ne_zero, Nat.zero_ne_one]; exact hw)) (by omega) (by omega)
    · have hii : ¬ (i : Int) < P.length := by omega
      clear hJ
      repeat' first | (with_reducible refine condD (fun h => ?_) (fun h => ?_)) | (with_reducible refine condE (fun h => ?_) (fun h => ?_)) | (with_reducible refine condN (fun h => ?_) (fun h => ?_)) | (with_reducible refine condI (fun h => ?_) (fun h => ?_)) | (with_reducible refine condS (fun h => ?_) (fun h => ?_)) | (with_reducible refine guardD (by with_unfolding_all rfl) (fun h => ?_) (fun h => ?_)) | (with_reducible refine guardE (by with_unfolding_all rfl) (fun h => ?_) (fun h => ?_)) | (with_reducible refine guardN (by with_unfolding_all rfl) (fun h => ?_) (fun h => ?_)) | (with_reducible refine guardI (by with_unfolding_all rfl) (fun h => ?_) (fun h => ?_)) | (with_reducible refine guardS (by with_unfolding_all rfl) (fun h => ?_) (fun h => ?_)) | ((refine callG comes_c ?_)) | (with_reducible refine And.intro ?_ ?_; omega) | (simp only [done_eq, done_eq', donet_eq, donet_eq', fin_val, fin_tup, fin_agg, fin_ro, res_one, res_more, rv_t, rv_c, rv_l, AV.tup.injEq, AV.agg.injEq, AV.ro.injEq, List.cons.injEq, int_eq, bool_eq, Int.toNat_natCast, Int.reduceToNat, Int.toNat_zero, Int.toNat_one, Int.reduceLE, Int.reduceLT, Int.reduceBEq, Int.reduceBNe, beq_self_eq_true, bne_self_eq_false, decide_true, decide_false,  Int.reduceNeg, toNat_pred, toNat_succ, List.length_map, cnd_t, cnd_f, grd_tt, grd_u, grd_tf, grd_ft, grd_ff, g_skip, g_ops, g_seq, g_block, g_exit, g_ret, x_c, x_o, x_l, x_b, g_b, g_nil, r_all, o_nil, g_cond, o_guard, o_call, o_callm, o_callx, o_callv, lk, ef, o_mv, o_pick, o_bin, o_never, o_eqs, o_eqb, o_un, o_conv, o_load, o_loadr, o_idxr, o_loads, o_fld, o_idx, o_idxs, o_len, o_lens, o_ext, o_nilck, o_slc, o_slcs, o_build, o_minmax, o_mkfn, o_alloc, o_box, o_boxs, o_row, o_rowr, o_mk, o_asg, o_app, o_store, o_stores, o_eqnil, hv, eqAV, ev, view_t, view_c, view_nil, view_fn, look_own, look_box, look_junk, look_val, look_nilsl, look_ro, look_roAt, look_agg, look_tup, look_clo, look_alias, look_ref, look_into, rowOf, cellsOf, argv, vbin, vun, bnd, elemOf, putParts, setAt, zav, ASt.rid, ASt.free, AV.kill, AV.isHome, AV.noLoan, AV.cellOK, Value.oneCell', put_at, mk_at, mk_nil, initSt, true_and, and_true, and_self, implies_true, List.map_cons, List.map_nil, List.forall_mem_cons, List.not_mem_nil, false_implies, List.length_cons, List.length_nil, List.getD_cons_zero, List.getD_cons_succ, List.getD_nil, List.drop_succ_cons, List.drop_zero, List.take_succ_cons, List.take_zero, List.set_cons_zero, List.set_cons_succ, List.all_cons, List.all_nil, Bool.and_true, Bool.true_and, Bool.not_true, Bool.not_false, reduceCtorEq, if_true, if_false, Bool.false_eq_true, ↓reduceIte, Nat.reduceEqDiff, Nat.reduceAdd, Nat.reduceSub, Nat.reduceMul, Nat.reduceLeDiff, Nat.reduceLT, ne_eq, not_false_eq_true, not_true_eq_false, Nat.one_ne_zero, Nat.zero_ne_one, r4_0, r4_1, r4_2, r4_3, r4_4, r4_5, r4_6, r4_7, r4_8, r4_9, r4_10, r4_12, r4_13, r4_11, r4_14, r4_15, r4_16, r4_17, r4_18, r4_19, p4, l4_0, hii, List.length_map]) | (exfalso; omega)
  · have hc := cut_c l q ((t + 1 : Nat) : Int) (m - Go.Lib.minOf (presL ((l.take (t + 1)).drop q)))
    rw [show cutF l q ((t + 1 : Nat) : Int) = ((l.take (t + 1)).drop q, 0) from by
      rw [cutF, if_neg (by simp [hsm]), if_neg (by omega)]; simp] at hc
    rw [hneed] at hn
    have hlenc : ((l.take (t + 1)).drop q).length = t + 1 - q := by rw [List.length_drop, List.length_take]; omega
    have hhead : (l.getD q ⟨0, 0, 0, 0, false⟩) = ((l.take (t + 1)).drop q).getD 0 ⟨0, 0, 0, 0, false⟩ := by
      rw [List.getD_eq_getElem?_getD, List.getD_eq_getElem?_getD, List.getElem?_drop, List.getElem?_take, if_pos (by omega), Nat.add_zero]
    rw [hhead] at hkey
    generalize hC : (l.take (t + 1)).drop q = C at *
    have hp := presF_c C
    rw [show presF C = (presL C, 0) from by simp [presF, hpart]] at hp
    have hne : presL C ≠ [] := by
      intro e
      have := congrArg List.length e
      rw [presL_len, hlenc] at this
      simp at this; omega
    have hmn := min_c (presL C) hne
    generalize Go.Lib.minOf (presL C) = M at *
    have w2 : IntKind.i64.wrap (m - M) = m - M := wrap_in (by omega) (by omega)
    have hC0 : 0 < C.length := by omega
    have hCb : ((C.length : Int) == 0) = false := beq0_f (by omega)
    have hCi : (0 : Int) < C.length := by omega
    have gC := getD_map (f := Smp.av) (d := []) hC0
    simp only [Smp.av] at gC
    simp only [kept, span] at hn hc
    generalize presL C = P at *
    by_cases hq : q = 0
    · subst hq
      have hqi : ¬ ((0 : Nat) : Int) > 0 := by omega
      simp only [Int.natCast_zero] at hn hc hqi
      repeat' first | (with_reducible refine condD (fun h => ?_) (fun h => ?_)) | (with_reducible refine condE (fun h => ?_) (fun h => ?_)) | (with_reducible refine condN (fun h => ?_) (fun h => ?_)) | (with_reducible refine condI (fun h => ?_) (fun h => ?_)) | (with_reducible refine condS (fun h => ?_) (fun h => ?_)) | (with_reducible refine guardD (by with_unfolding_all rfl) (fun h => ?_) (fun h => ?_)) | (with_reducible refine guardE (by with_unfolding_all rfl) (fun h => ?_) (fun h => ?_)) | (with_reducible refine guardN (by with_unfolding_all rfl) (fun h => ?_) (fun h => ?_)) | (with_reducible refine guardI (by with_unfolding_all rfl) (fun h => ?_) (fun h => ?_)) | (with_reducible refine guardS (by with_unfolding_all rfl) (fun h => ?_) (fun h => ?_)) | ((refine callG hm ?_)) | ((refine callG comes_c ?_)) | ((refine callG hn ?_)) | ((refine callG hc ?_)) | ((refine callG hp ?_)) | ((refine callG hmn ?_)) | (with_reducible refine And.intro ?_ ?_; omega) | (simp only [done_eq, done_eq', donet_eq, donet_eq', fin_val, fin_tup, fin_agg, fin_ro, res_one, res_more, rv_t, rv_c, rv_l, AV.tup.injEq, AV.agg.injEq, AV.ro.injEq, List.cons.injEq, int_eq, bool_eq, Int.toNat_natCast, Int.reduceToNat, Int.toNat_zero, Int.toNat_one, Int.reduceLE, Int.reduceLT, Int.reduceBEq, Int.reduceBNe, beq_self_eq_true, bne_self_eq_false, decide_true, decide_false,  Int.reduceNeg, toNat_pred, toNat_succ, List.length_map, cnd_t, cnd_f, grd_tt, grd_u, grd_tf, grd_ft, grd_ff, g_skip, g_ops, g_seq, g_block, g_exit, g_ret, x_c, x_o, x_l, x_b, g_b, g_nil, r_all, o_nil, g_cond, o_guard, o_call, o_callm, o_callx, o_callv, lk, ef, o_mv, o_pick, o_bin, o_never, o_eqs, o_eqb, o_un, o_conv, o_load, o_loadr, o_idxr, o_loads, o_fld, o_idx, o_idxs, o_len, o_lens, o_ext, o_nilck, o_slc, o_slcs, o_build, o_minmax, o_mkfn, o_alloc, o_box, o_boxs, o_row, o_rowr, o_mk, o_asg, o_app, o_store, o_stores, o_eqnil, hv, eqAV, ev, view_t, view_c, view_nil, view_fn, look_own, look_box, look_junk, look_val, look_nilsl, look_ro, look_roAt, look_agg, look_tup, look_clo, look_alias, look_ref, look_into, rowOf, cellsOf, argv, vbin, vun, bnd, elemOf, putParts, setAt, zav, ASt.rid, ASt.free, AV.kill, AV.isHome, AV.noLoan, AV.cellOK, Value.oneCell', put_at, mk_at, mk_nil, initSt, true_and, and_true, and_self, implies_true, List.map_cons, List.map_nil, List.forall_mem_cons, List.not_mem_nil, false_implies, List.length_cons, List.length_nil, List.getD_cons_zero, List.getD_cons_succ, List.getD_nil, List.drop_succ_cons, List.drop_zero, List.take_succ_cons, List.take_zero, List.set_cons_zero, List.set_cons_succ, List.all_cons, List.all_nil, Bool.and_true, Bool.true_and, Bool.not_true, Bool.not_false, reduceCtorEq, if_true, if_false, Bool.false_eq_true, ↓reduceIte, Nat.reduceEqDiff, Nat.reduceAdd, Nat.reduceSub, Nat.reduceMul, Nat.reduceLeDiff, Nat.reduceLT, ne_eq, not_false_eq_true, not_true_eq_false, Nat.one_ne_zero, Nat.zero_ne_one, r4_0, r4_1, r4_2, r4_3, r4_4, r4_5, r4_6, r4_7, r4_8, r4_9, r4_10, r4_12, r4_13, r4_11, r4_14, r4_15, r4_16, r4_17, r4_18, r4_19, p4, h1, h2, gK, hki, hkn, hk0, w1, w2, hCb, hmin, List.length_map]) | (exfalso; omega)
    · have hqi : (0 : Int) < (q : Int) := by omega
      have hky := hkey (by omega)
      rw [List.getD_eq_getElem?_getD, List.getElem?_eq_getElem hC0, Option.getD_some] at hky
      rw [hky] at gC
      repeat' first | (with_reducible refine condD (fun h => ?_) (fun h => ?_)) | (with_reducible refine condE (fun h => ?_) (fun h => ?_)) | (with_reducible refine condN (fun h => ?_) (fun h => ?_)) | (with_reducible refine condI (fun h => ?_) (fun h => ?_)) | (with_reducible refine condS (fun h => ?_) (fun h => ?_)) | (with_reducible refine guardD (by with_unfolding_all rfl) (fun h => ?_) (fun h => ?_)) | (with_reducible refine guardE (by with_unfolding_all rfl) (fun h => ?_) (fun h => ?_)) | (with_reducible refine guardN (by with_unfolding_all rfl) (fun h => ?_) (fun h => ?_)) | (with_reducible refine guardI (by with_unfolding_all rfl) (fun h => ?_) (fun h => ?_)) | (with_reducible refine guardS (by with_unfolding_all rfl) (fun h => ?_) (fun h => ?_)) | ((refine callG hm ?_)) | ((refine callG comes_c ?_)) | ((refine callG hn ?_)) | ((refine callG hc ?_)) | ((refine callG hp ?_)) | ((refine callG hmn ?_)) | (with_reducible refine And.intro ?_ ?_; omega) | (simp only [done_eq, done_eq', donet_eq, donet_eq', fin_val, fin_tup, fin_agg, fin_ro, res_one, res_more, rv_t, rv_c, rv_l, AV.tup.injEq, AV.agg.injEq, AV.ro.injEq, List.cons.injEq, int_eq, bool_eq, Int.toNat_natCast, Int.reduceToNat, Int.toNat_zero, Int.toNat_one, Int.reduceLE, Int.reduceLT, Int.reduceBEq, Int.reduceBNe, beq_self_eq_true, bne_self_eq_false, decide_true, decide_false,  Int.reduceNeg, toNat_pred, toNat_succ, List.length_map, cnd_t, cnd_f, grd_tt, grd_u, grd_tf, grd_ft, grd_ff, g_skip, g_ops, g_seq, g_block, g_exit, g_ret, x_c, x_o, x_l, x_b, g_b, g_nil, r_all, o_nil, g_cond, o_guard, o_call, o_callm, o_callx, o_callv, lk, ef, o_mv, o_pick, o_bin, o_never, o_eqs, o_eqb, o_un, o_conv, o_load, o_loadr, o_idxr, o_loads, o_fld, o_idx, o_idxs, o_len, o_lens, o_ext, o_nilck, o_slc, o_slcs, o_build, o_minmax, o_mkfn, o_alloc, o_box, o_boxs, o_row, o_rowr, o_mk, o_asg, o_app, o_store, o_stores, o_eqnil, hv, eqAV, ev, view_t, view_c, view_nil, view_fn, look_own, look_box, look_junk, look_val, look_nilsl, look_ro, look_roAt, look_agg, look_tup, look_clo, look_alias, look_ref, look_into, rowOf, cellsOf, argv, vbin, vun, bnd, elemOf, putParts, setAt, zav, ASt.rid, ASt.free, AV.kill, AV.isHome, AV.noLoan, AV.cellOK, Value.oneCell', put_at, mk_at, mk_nil, initSt, true_and, and_true, and_self, implies_true, List.map_cons, List.map_nil, List.forall_mem_cons, List.not_mem_nil, false_implies, List.length_cons, List.length_nil, List.getD_cons_zero, List.getD_cons_succ, List.getD_nil, List.drop_succ_cons, List.drop_zero, List.take_succ_cons, List.take_zero, List.set_cons_zero, List.set_cons_succ, List.all_cons, List.all_nil, Bool.and_true, Bool.true_and, Bool.not_true, Bool.not_false, reduceCtorEq, if_true, if_false, Bool.false_eq_true, ↓reduceIte, Nat.reduceEqDiff, Nat.reduceAdd, Nat.reduceSub, Nat.reduceMul, Nat.reduceLeDiff, Nat.reduceLT, ne_eq, not_false_eq_true, not_true_eq_false, Nat.one_ne_zero, Nat.zero_ne_one, r4_0, r4_1, r4_2, r4_3, r4_4, r4_5, r4_6, r4_7, r4_8, r4_9, r4_10, r4_12, r4_13, r4_11, r4_14, r4_15, r4_16, r4_17, r4_18, r4_19, p4, h1, h2, gK, hki, hkn, hk0, w1, w2, hCb, hmin, hqi, gC, hC0, hCi, List.length_map]) | (exfalso; omega)
theorem seeksfind_c : ∀ avs, HasArgs [.agg [.int .i64, .row [.str, .int .i64, .row [.int .i64, .int .i64, .int .i64, .int .i64, .bool], .row [.int .i64, .int .i64]]], .one (.int .i64), .one (.int .i64)] avs → CallOK Try.prog 4 avs (.val (.bool true)) := by
  intro avs h
  obtain ⟨v0, r, rfl, h0, h⟩ := args_cons h
  obtain ⟨v1, r, rfl, h1, h⟩ := args_cons h
  obtain ⟨v2, r, rfl, h2, h⟩ := args_cons h
  obtain rfl := args_nil h
  obtain ⟨x0, rfl, h0⟩ := h0
  obtain ⟨n0, rfl, hb0⟩ := all_film x0 h0
  obtain ⟨n1, rfl, hb1⟩ := has_int h1
  obtain ⟨n2, rfl, hb2⟩ := has_int h2
  exact seeksfind_d n0.1 n0.2 n1 n2 (by unfold maxLen at hb0; omega)

/-! ### The row -/
open Go.ChangeShapes Go.WideShapes Go.ChangeAt
set_option maxRecDepth 100000 in
theorem seeksfind_lifted (os : Os) (started : os.Started) (H : Type) (enc : TypeId × Value → H) :
    ReturnsInHanded {} Try.checked os 4 .any (Rows.topSeeksFindSamplesSpec.pre6 enc Try.prog Try.f4 Rows.topSeeksFindSamplesRow.domain false) (Rows.topSeeksFindSamplesSpec.post enc Try.prog Try.f4 false true false false) := by
  refine returnsInHanded_of_change (C := Try.checked) own_knob started (by kernel_rfl) Try.func4
    (ChangeSpec.witness6 (enc := enc) (C := Try.checked) false ⟨#[], #[.agg #[.int .i64 0, .slice none 0 0], .int .i64 0, .int .i64 0], []⟩ 8 (by kernel_rfl) (by kernel_rfl) (by kernel_rfl) (by kernel_rfl)) ?_
  intro W base args ds gs before hval hW _ _
  refine law_step rfl (by kernel_rfl) (fun ds h => ?_) ?_ hval hW ?_
  · match ds, h with | [a, b, c], _ => exact ⟨rfl, rfl, rfl⟩
  · rw [Try.params4]
    intro t ht
    simp only [List.mem_cons, List.not_mem_nil, or_false] at ht
    repeat' (first | (rcases ht with rfl | ht) | subst ht)
    all_goals exact ⟨by kernel_rfl, of_decide_eq_true (by kernel_rfl)⟩
  · rw [Try.params4]
    intro hin
    exact law_dm (ss := [.agg [.int .i64, .row [.str, .int .i64, .row [.int .i64, .int .i64, .int .i64, .int .i64, .bool], .row [.int .i64, .int .i64]]], .one (.int .i64), .one (.int .i64)]) (by kernel_rfl) hin seeksfind_c

theorem seeksfind_holds : Rows.TopSeeksFindSamplesSaid :=
  OpenClaim.holds_of_wide 4 Try.f4 rfl rfl rfl rfl rfl rfl rfl ⟨rfl, rfl, rfl, rfl, rfl⟩ rfl rfl rfl rfl rfl (by kernel_rfl) Try.func4 (by kernel_rfl)
    (of_decide_eq_true (by kernel_rfl)) (by unfold Func.isWrapper; first | (rw [if_pos (by decide +kernel)]; kernel_rfl) | (rw [if_neg (by decide +kernel)]; exact ⟨rfl, rfl⟩))
    (fun os started H enc _ => seeksfind_lifted os started H enc)

end Go.Proofs.Ytpecmhdepggnoaa
