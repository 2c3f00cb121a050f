/- Sets of ticks, as spans: the plain law. -/
import Derived.Test.YtlpbnpmmndcleaaKNat
namespace Go.Proofs.Ytlpbnpmmndcleaa
set_option linter.unusedSimpArgs false

structure Sp where
  f : Int
  t : Int
def Sp.has (s : Sp) (n : Int) : Bool := decide (s.f ≤ n) && decide (n < s.t)
def hasB (l : List Sp) (n : Int) : Bool := l.any fun s => s.has n
theorem sp_has {s : Sp} {n : Int} : s.has n = true ↔ s.f ≤ n ∧ n < s.t := by simp [Sp.has]
theorem hasB_iff {l : List Sp} {n : Int} : hasB l n = true ↔ ∃ s ∈ l, s.f ≤ n ∧ n < s.t := by simp [hasB, sp_has]
theorem hasB_nil {n : Int} : hasB [] n = false := rfl
theorem hasB_cons {s : Sp} {l : List Sp} {n : Int} : hasB (s :: l) n = (s.has n || hasB l n) := by simp [hasB]
theorem hasB_app {l m : List Sp} {n : Int} : hasB (l ++ m) n = (hasB l n || hasB m n) := by simp [hasB]
/-- Spans that are right, but for their bounds. -/
def OkS (l : List Sp) : Prop := (∀ s ∈ l, s.f < s.t) ∧ l.Pairwise fun s u => s.t < u.f
theorem OkS.tail {s : Sp} {l : List Sp} (h : OkS (s :: l)) : OkS l := ⟨fun u hu => h.1 u (by simp [hu]), (List.pairwise_cons.1 h.2).2⟩
theorem OkS.head {s : Sp} {l : List Sp} (h : OkS (s :: l)) : s.f < s.t ∧ ∀ u ∈ l, s.t < u.f := ⟨h.1 s (by simp), (List.pairwise_cons.1 h.2).1⟩
theorem okS_nil : OkS [] := ⟨by simp, List.Pairwise.nil⟩
theorem sp_ext {s u : Sp} (h1 : s.f = u.f) (h2 : s.t = u.t) : s = u := by cases s; cases u; simp at h1 h2; simp [h1, h2]
theorem okS_uniq : ∀ {a b : List Sp}, OkS a → OkS b → (∀ n, hasB a n = hasB b n) → a = b
  | [], [], _, _, _ => rfl
  | [], u :: v, _, hb, h => by
    have h1 := hb.head.1
    have := h u.f
    rw [hasB_nil, hasB_cons] at this
    have : u.has u.f = true := sp_has.2 ⟨Int.le_refl _, h1⟩
    simp_all
  | s :: r, [], ha, _, h => by
    have h1 := ha.head.1
    have := h s.f
    rw [hasB_nil, hasB_cons] at this
    have : s.has s.f = true := sp_has.2 ⟨Int.le_refl _, h1⟩
    simp_all
  | s :: r, u :: v, ha, hb, h => by
    obtain ⟨a1, a2⟩ := ha.head
    obtain ⟨b1, b2⟩ := hb.head
    have h' : ∀ n, (∃ x ∈ s :: r, x.f ≤ n ∧ n < x.t) ↔ ∃ x ∈ u :: v, x.f ≤ n ∧ n < x.t := fun n => by rw [← hasB_iff, ← hasB_iff, h n]
    have lowa : ∀ x ∈ s :: r, s.f ≤ x.f := fun x hx => by
      rcases List.mem_cons.1 hx with rfl | hx
      · exact Int.le_refl _
      · have := a2 x hx; omega
    have lowb : ∀ x ∈ u :: v, u.f ≤ x.f := fun x hx => by
      rcases List.mem_cons.1 hx with rfl | hx
      · exact Int.le_refl _
      · have := b2 x hx; omega
    have e1 : s.f = u.f := by
      obtain ⟨x, hx, q1, q2⟩ := (h' s.f).1 ⟨s, by simp, Int.le_refl _, a1⟩
      obtain ⟨y, hy, p1, p2⟩ := (h' u.f).2 ⟨u, by simp, Int.le_refl _, b1⟩
      have := lowb x hx; have := lowa y hy
      omega
    have e2 : s.t = u.t := by
      rcases Int.lt_trichotomy s.t u.t with q | q | q
      · obtain ⟨x, hx, q1, q2⟩ := (h' s.t).2 ⟨u, by simp, by omega, q⟩
        rcases List.mem_cons.1 hx with rfl | hx
        · omega
        · have := a2 x hx; omega
      · exact q
      · obtain ⟨x, hx, q1, q2⟩ := (h' u.t).1 ⟨s, by simp, by omega, q⟩
        rcases List.mem_cons.1 hx with rfl | hx
        · omega
        · have := b2 x hx; omega
    have e : s = u := sp_ext e1 e2
    subst e
    congr 1
    refine okS_uniq ha.tail hb.tail fun n => ?_
    have := h n
    rw [hasB_cons, hasB_cons] at this
    cases hs : s.has n with
    | false => simpa [hs] using this
    | true =>
      obtain ⟨q1, q2⟩ := sp_has.1 hs
      have f1 : hasB r n = false := by
        cases hq : hasB r n with
        | false => rfl
        | true => obtain ⟨x, hx, p1, p2⟩ := hasB_iff.1 hq; have := a2 x hx; omega
      have f2 : hasB v n = false := by
        cases hq : hasB v n with
        | false => rfl
        | true => obtain ⟨x, hx, p1, p2⟩ := hasB_iff.1 hq; have := b2 x hx; omega
      rw [f1, f2]

/-! ### A span behind others -/
def addS (l : List Sp) (s : Sp) : List Sp := match l.getLast? with
  | some u => if u.t = s.f then l.dropLast ++ [⟨u.f, s.t⟩] else l ++ [s]
  | none => [s]
theorem addS_nil (s : Sp) : addS [] s = [s] := rfl
theorem addS_app (l : List Sp) (u s : Sp) : addS (l ++ [u]) s = if u.t = s.f then l ++ [⟨u.f, s.t⟩] else l ++ [u] ++ [s] := by
  unfold addS
  simp
theorem addS_ok {l : List Sp} {s : Sp} (h : OkS l) (hs : s.f < s.t) (hl : ∀ u ∈ l, u.t ≤ s.f) : OkS (addS l s) ∧ (∀ n, hasB (addS l s) n = (hasB l n || s.has n)) ∧ ∀ u ∈ addS l s, u.t ≤ s.t := by
  rcases List.eq_nil_or_concat l with rfl | ⟨m, u, rfl⟩
  · rw [addS_nil]
    refine ⟨⟨by simpa using hs, by simp⟩, fun n => by simp [hasB], by simp⟩
  · rw [List.concat_eq_append] at h hl ⊢
    rw [addS_app]
    obtain ⟨h1, h2⟩ := h
    have hu := h1 u (by simp)
    have hut := hl u (by simp)
    obtain ⟨p1, p2, p3⟩ := List.pairwise_append.1 h2
    split
    · rename_i he
      refine ⟨⟨fun x hx => ?_, List.pairwise_append.2 ⟨p1, by simp, fun x hx y hy => ?_⟩⟩, fun n => ?_, fun x hx => ?_⟩
      · rcases List.mem_append.1 hx with hx | hx
        · exact h1 x (by simp [hx])
        · simp at hx; subst hx; simp only; omega
      · simp at hy; subst hy
        exact p3 x hx u (by simp)
      · rw [hasB_app, hasB_app, Bool.or_assoc]
        congr 1
        simp only [hasB, List.any_cons, List.any_nil, Bool.or_false, Sp.has]
        rw [Bool.eq_iff_iff]
        simp
        omega
      · rcases List.mem_append.1 hx with hx | hx
        · have := hl x (by simp [hx]); omega
        · simp at hx; subst hx; exact Int.le_refl _
    · rename_i he
      refine ⟨⟨fun x hx => ?_, List.pairwise_append.2 ⟨h2, by simp, fun x hx y hy => ?_⟩⟩, fun n => ?_, fun x hx => ?_⟩
      · rcases List.mem_append.1 hx with hx | hx
        · exact h1 x hx
        · simp at hx; subst hx; exact hs
      · simp at hy; subst hy
        have := hl x hx
        rcases List.mem_append.1 hx with hx | hx
        · have := p3 x hx u (by simp); omega
        · simp at hx; subst hx; omega
      · rw [hasB_app (l := m ++ [u])]; simp [hasB]
      · rcases List.mem_append.1 hx with hx | hx
        · have := hl x hx; omega
        · simp at hx; subst hx; exact Int.le_refl _
theorem addS_len (l : List Sp) (s : Sp) : (addS l s).length ≤ l.length + 1 := by
  rcases List.eq_nil_or_concat l with rfl | ⟨m, u, rfl⟩
  · simp [addS_nil]
  · rw [List.concat_eq_append, addS_app]; split <;> simp
theorem addS_mem {l : List Sp} {s u : Sp} (h : u ∈ addS l s) : (u.f = s.f ∨ ∃ x ∈ l, u.f = x.f) ∧ (u.t = s.t ∨ ∃ x ∈ l, u.t = x.t) := by
  rcases List.eq_nil_or_concat l with rfl | ⟨m, v, rfl⟩
  · rw [addS_nil] at h; simp at h; subst h; exact ⟨.inl rfl, .inl rfl⟩
  · rw [List.concat_eq_append] at h ⊢
    rw [addS_app] at h
    split at h <;> rcases List.mem_append.1 h with h | h
    · exact ⟨.inr ⟨u, by simp [h], rfl⟩, .inr ⟨u, by simp [h], rfl⟩⟩
    · simp at h; subst h; exact ⟨.inr ⟨v, by simp, rfl⟩, .inl rfl⟩
    · exact ⟨.inr ⟨u, h, rfl⟩, .inr ⟨u, h, rfl⟩⟩
    · simp at h; subst h; exact ⟨.inl rfl, .inl rfl⟩

/-! ### Two sets together, from edge to edge -/
def advS (l : List Sp) (e : Int) : List Sp := l.dropWhile fun s => decide (s.t ≤ e)
def inS (l : List Sp) (e : Int) : Bool := match l with
  | [] => false
  | s :: _ => decide (s.f ≤ e)
theorem advS_in {l : List Sp} (h : OkS l) (e : Int) : inS (advS l e) e = hasB l e := by
  induction l with
  | nil => rfl
  | cons s r ih =>
    obtain ⟨h1, h2⟩ := h.head
    rw [hasB_cons, advS, List.dropWhile_cons]
    by_cases hs : s.t ≤ e
    · rw [if_pos (by simpa using hs)]
      have : s.has e = false := by simp [Sp.has]; omega
      rw [this, Bool.false_or]
      exact ih h.tail
    · rw [if_neg (by simpa using hs)]
      simp only [inS]
      have hr : s.f ≤ e ∨ hasB r e = false := by
        cases hq : hasB r e with
        | false => exact .inr rfl
        | true => obtain ⟨x, hx, p1, p2⟩ := hasB_iff.1 hq; have := h2 x hx; exact .inl (by omega)
      simp only [Sp.has]
      by_cases hf : s.f ≤ e
      · simp [hf]; omega
      · simp [hf, hr.resolve_left hf]
theorem advS_adv {l : List Sp} {e e' : Int} (he : e ≤ e') : advS (advS l e) e' = advS l e' := by
  induction l with
  | nil => rfl
  | cons s r ih =>
    unfold advS at ih ⊢
    rw [List.dropWhile_cons]
    by_cases hs : s.t ≤ e
    · rw [if_pos (by simpa using hs), ih, List.dropWhile_cons, if_pos (by simp; omega)]
    · rw [if_neg (by simpa using hs)]
theorem advS_le {l : List Sp} {e : Int} (h : ∀ s ∈ l, s.t > e) : advS l e = l := by
  cases l with
  | nil => rfl
  | cons s r => rw [advS, List.dropWhile_cons, if_neg (by have := h s (by simp); simp; omega)]
def combGo (keep : Bool → Bool → Bool) (a b : List Sp) : List Int → List Sp → List Sp
  | [], out => out
  | [_], out => out
  | e :: e' :: r, out => combGo keep a b (e' :: r) (if keep (inS (advS a e) e) (inS (advS b e) e) = true then addS out ⟨e, e'⟩ else out)
/-- The edges are among these, or before. -/
def EdgesIn (l : List Sp) (E : List Int) (e : Int) : Prop := ∀ s ∈ l, (s.f ∈ E ∨ s.f < e) ∧ (s.t ∈ E ∨ s.t < e)
theorem edges_same {l : List Sp} {e e' : Int} {r : List Int} (hp : (e :: e' :: r).Pairwise (· < ·)) (hl : EdgesIn l (e :: e' :: r) e) {n : Int} (h1 : e ≤ n) (h2 : n < e') : hasB l n = hasB l e := by
  have hge : ∀ x ∈ e :: e' :: r, x = e ∨ e' ≤ x := fun x hx => by
    rcases List.mem_cons.1 hx with rfl | hx
    · exact .inl rfl
    · rcases List.mem_cons.1 hx with rfl | hx
      · exact .inr (Int.le_refl _)
      · have := (List.pairwise_cons.1 (List.pairwise_cons.1 hp).2).1 x hx; exact .inr (by omega)
  have key : ∀ s ∈ l, s.has n = s.has e := fun s hs => by
    obtain ⟨q1, q2⟩ := hl s hs
    have q1' : s.f ≤ e ∨ e' ≤ s.f := by
      rcases q1 with q1 | q1
      · rcases hge _ q1 with q1 | q1 <;> omega
      · omega
    have q2' : s.t ≤ e ∨ e' ≤ s.t := by
      rcases q2 with q2 | q2
      · rcases hge _ q2 with q2 | q2 <;> omega
      · omega
    rw [Bool.eq_iff_iff, sp_has, sp_has]
    omega
  unfold hasB
  induction l with
  | nil => rfl
  | cons s t ih =>
    simp only [List.any_cons]
    rw [key s (by simp), ih (fun x hx => hl x (by simp [hx])) (fun x hx => key x (by simp [hx]))]
theorem edges_next {l : List Sp} {e e' : Int} {r : List Int} (hp : (e :: e' :: r).Pairwise (· < ·)) (hl : EdgesIn l (e :: e' :: r) e) : EdgesIn l (e' :: r) e' := fun s hs => by
  have h0 := (List.pairwise_cons.1 hp).1 e' (by simp)
  obtain ⟨q1, q2⟩ := hl s hs
  refine ⟨?_, ?_⟩
  · rcases q1 with q1 | q1
    · rcases List.mem_cons.1 q1 with q1 | q1
      · exact .inr (by omega)
      · exact .inl q1
    · exact .inr (by omega)
  · rcases q2 with q2 | q2
    · rcases List.mem_cons.1 q2 with q2 | q2
      · exact .inr (by omega)
      · exact .inl q2
    · exact .inr (by omega)
theorem edges_end {l : List Sp} {e n : Int} (hl : EdgesIn l [e] e) (hn : e ≤ n) : hasB l n = false := by
  cases hq : hasB l n with
  | false => rfl
  | true =>
    obtain ⟨s, hs, q1, q2⟩ := hasB_iff.1 hq
    obtain ⟨_, q3⟩ := hl s hs
    simp at q3
    omega
theorem comb_ok {keep : Bool → Bool → Bool} (hk : keep false false = false) {a b : List Sp} (ha : OkS a) (hb : OkS b) : ∀ (r : List Int) (e : Int) (out : List Sp), (e :: r).Pairwise (· < ·) → EdgesIn a (e :: r) e → EdgesIn b (e :: r) e → OkS out → (∀ u ∈ out, u.t ≤ e) →
    OkS (combGo keep a b (e :: r) out) ∧ ∀ n, hasB (combGo keep a b (e :: r) out) n = if n < e then hasB out n else keep (hasB a n) (hasB b n)
  | [], e, out, _, h1, h2, ho, hl => by
    rw [combGo]
    refine ⟨ho, fun n => ?_⟩
    split
    · rfl
    · rename_i hn
      rw [edges_end h1 (by omega), edges_end h2 (by omega), hk]
      cases hq : hasB out n with
      | false => rfl
      | true => obtain ⟨s, hs, q1, q2⟩ := hasB_iff.1 hq; have := hl s hs; omega
  | e' :: r, e, out, hp, h1, h2, ho, hl => by
    have h0 := (List.pairwise_cons.1 hp).1 e' (by simp)
    rw [combGo, advS_in ha, advS_in hb]
    obtain ⟨p1, p2, p3⟩ := addS_ok (s := ⟨e, e'⟩) ho h0 hl
    obtain ⟨out', hout⟩ : ∃ o, o = (if keep (hasB a e) (hasB b e) = true then addS out ⟨e, e'⟩ else out) := ⟨_, rfl⟩
    rw [← hout]
    have hp' := (List.pairwise_cons.1 hp).2
    have q1 : OkS out' := by rw [hout]; split; exact p1; exact ho
    have q2 : ∀ u ∈ out', u.t ≤ e' := by
      rw [hout]; split
      · exact p3
      · exact fun u hu => by have := hl u hu; omega
    have q3 : ∀ n, hasB out' n = (hasB out n || (keep (hasB a e) (hasB b e) && Sp.has ⟨e, e'⟩ n)) := fun n => by
      rw [hout]; split
      · rename_i hq; rw [p2, hq, Bool.true_and]
      · rename_i hq; rw [Bool.not_eq_true] at hq; rw [hq, Bool.false_and, Bool.or_false]
    obtain ⟨r1, r2⟩ := comb_ok hk ha hb r e' out' hp' (edges_next hp h1) (edges_next hp h2) q1 q2
    refine ⟨r1, fun n => ?_⟩
    rw [r2, q3]
    by_cases hn : n < e
    · rw [if_pos (by omega), if_pos hn]
      have : Sp.has ⟨e, e'⟩ n = false := by simp [Sp.has]; omega
      rw [this, Bool.and_false, Bool.or_false]
    · rw [if_neg hn]
      by_cases hn' : n < e'
      · rw [if_pos hn', edges_same hp h1 (by omega) hn', edges_same hp h2 (by omega) hn']
        have : Sp.has ⟨e, e'⟩ n = true := by simp [Sp.has]; omega
        rw [this, Bool.and_true]
        have : hasB out n = false := by
          cases hq : hasB out n with
          | false => rfl
          | true => obtain ⟨s, hs, q1, q2⟩ := hasB_iff.1 hq; have := hl s hs; omega
        rw [this, Bool.false_or]
      · rw [if_neg hn']
theorem comb_mem {keep : Bool → Bool → Bool} {a b : List Sp} : ∀ (E : List Int) (out : List Sp) (P : Int → Prop), (∀ x ∈ E, P x) → (∀ u ∈ out, P u.f ∧ P u.t) → ∀ u ∈ combGo keep a b E out, P u.f ∧ P u.t
  | [], out, P, _, ho, u, hu => ho u hu
  | [_], out, P, _, ho, u, hu => ho u hu
  | e :: e' :: r, out, P, hE, ho, u, hu => by
    rw [combGo] at hu
    refine comb_mem (e' :: r) _ P (fun x hx => hE x (by simp [hx])) (fun v hv => ?_) u hu
    split at hv
    · obtain ⟨q1, q2⟩ := addS_mem hv
      refine ⟨?_, ?_⟩
      · rcases q1 with q1 | ⟨x, hx, q1⟩
        · rw [q1]; exact hE e (by simp)
        · rw [q1]; exact (ho x hx).1
      · rcases q2 with q2 | ⟨x, hx, q2⟩
        · rw [q2]; exact hE e' (by simp)
        · rw [q2]; exact (ho x hx).2
    · exact ho v hv
theorem comb_len {keep : Bool → Bool → Bool} {a b : List Sp} : ∀ (E : List Int) (out : List Sp), (combGo keep a b E out).length ≤ out.length + E.length
  | [], out => by simp [combGo]
  | [_], out => by simp [combGo]
  | e :: e' :: r, out => by
    rw [combGo]
    have h := comb_len (keep := keep) (a := a) (b := b) (e' :: r) (if keep (inS (advS a e) e) (inS (advS b e) e) = true then addS out ⟨e, e'⟩ else out)
    have : (if keep (inS (advS a e) e) (inS (advS b e) e) = true then addS out ⟨e, e'⟩ else out).length ≤ out.length + 1 := by
      split
      · exact addS_len _ _
      · omega
    simp only [List.length_cons] at h ⊢
    omega

/-! ### How many ticks -/
def lenS : List Sp → Int
  | [] => 0
  | s :: r => s.t - s.f + lenS r
def cntB (p : Int → Bool) (lo : Int) : Nat → Int
  | 0 => 0
  | k + 1 => cntB p lo k + if p (lo + k) = true then 1 else 0
theorem cnt_add {p q r s : Int → Bool} {lo : Int} (h : ∀ n, (if p n = true then (1 : Int) else 0) + (if q n = true then 1 else 0) = (if r n = true then 1 else 0) + (if s n = true then 1 else 0)) : ∀ k, cntB p lo k + cntB q lo k = cntB r lo k + cntB s lo k
  | 0 => rfl
  | k + 1 => by
    have h1 := cnt_add (lo := lo) h k
    have h2 := h (lo + k)
    simp only [cntB]
    omega
theorem cnt_none {lo : Int} : ∀ k, cntB (fun _ => false) lo k = 0
  | 0 => rfl
  | k + 1 => by simp [cntB, cnt_none k]
theorem cnt_one {s : Sp} {lo : Int} (h1 : lo ≤ s.f) (h2 : s.f < s.t) : ∀ k : Nat, cntB s.has lo k = if lo + k ≤ s.f then 0 else if lo + k ≤ s.t then lo + k - s.f else s.t - s.f
  | 0 => by simp [cntB, h1]
  | k + 1 => by
    rw [cntB, cnt_one h1 h2 k]
    by_cases hq : s.has (lo + k) = true
    · rw [if_pos hq]
      rw [sp_has] at hq
      push_cast
      split <;> split <;> first | (split <;> omega) | omega
    · rw [if_neg hq]
      have : ¬ (s.f ≤ lo + k ∧ lo + k < s.t) := fun h => hq (sp_has.2 h)
      push_cast
      split <;> split <;> first | (split <;> omega) | omega
theorem lenS_cnt {lo : Int} {k : Nat} : ∀ {l : List Sp}, OkS l → (∀ s ∈ l, lo ≤ s.f ∧ s.t ≤ lo + k) → lenS l = cntB (hasB l) lo k
  | [], _, _ => (cnt_none k).symm
  | s :: r, h, hb => by
    obtain ⟨h1, h2⟩ := h.head
    obtain ⟨b1, b2⟩ := hb s (by simp)
    have ih := lenS_cnt (lo := lo) (k := k) h.tail (fun u hu => hb u (by simp [hu]))
    have e := cnt_add (p := s.has) (q := hasB r) (r := hasB (s :: r)) (s := fun _ => false) (lo := lo) (fun n => by
      rw [hasB_cons]
      cases q1 : s.has n <;> cases q2 : hasB r n <;> simp
      obtain ⟨p1, p2⟩ := sp_has.1 q1
      obtain ⟨x, hx, p3, p4⟩ := hasB_iff.1 q2
      have := h2 x hx
      omega) k
    rw [cnt_none, Int.add_zero, cnt_one b1 h1 k] at e
    rw [lenS, ih, ← e]
    rw [if_neg (by omega)]
    split <;> omega
end Go.Proofs.Ytlpbnpmmndcleaa
