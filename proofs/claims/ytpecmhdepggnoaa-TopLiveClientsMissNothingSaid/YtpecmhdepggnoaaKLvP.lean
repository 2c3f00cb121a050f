/- Live lists: what Add, Slide, Follows, Load and Play mean, in plain words, and what holds of them. -/
import Derived.Test.YtpecmhdepggnoaaKLvH
namespace Go.Proofs.Ytpecmhdepggnoaa
open Go.RowKit
set_option linter.unusedSimpArgs false

def zPL : PL := ⟨0, 0, 0, [], false⟩
structure QI where
  num : Int
  ent : LE
def QI.av (q : QI) : List AV := [.val (.int .i64 q.num), .val (.string q.ent.uri), .val (.int .i64 q.ent.milli), .val (.bool q.ent.brk), .val (.int .i64 q.ent.date), .val (.string q.ent.key), .val (.bool q.ent.gap), .ro (q.ent.extra.map oneS)]
structure CL where
  begun : Bool
  next : Int
  last : PL
  queue : List QI
  lost : Int
def CL.av (c : CL) : List AV := [.val (.bool c.begun), .val (.int .i64 c.next), .val (.int .i64 c.last.target), .val (.int .i64 c.last.first), .val (.int .i64 c.last.breaks), .ro (c.last.ents.map LE.av), .val (.bool c.last.ended), .ro (c.queue.map QI.av), .val (.int .i64 c.lost)]
def zCL : CL := ⟨false, 0, zPL, [], 0⟩

/-! ### Add, Slide -/
def addL (l : PL) (e : LE) : PL := ⟨l.target, l.first, l.breaks, l.ents ++ [e], l.ended⟩
def addF (l : PL) (e : LE) : Int := if ckF l ≠ 0 then ckF l else if l.ended then 11 else ckF (addL l e)
/-- How many go, and the breaks then. -/
def slGo (keep : Int) : List LE → Int → Nat × Int → Nat × Int
  | [], _, s => s
  | e :: r, left, s => if IntKind.i64.wrap (left - e.milli) < keep then s else slGo keep r (IntKind.i64.wrap (left - e.milli)) (s.1 + 1, if e.brk then IntKind.i64.wrap (s.2 + 1) else s.2)
def slS (l : PL) (keep : Int) : Nat × Int := slGo keep l.ents (lenF l) (0, l.breaks)
def slL (l : PL) (keep : Int) : PL := ⟨l.target, l.first + (slS l keep).1, (slS l keep).2, l.ents.drop (slS l keep).1, l.ended⟩
def slF (l : PL) (keep : Int) : Int :=
  if ckF l ≠ 0 then ckF l else if outB keep 0 1000000000000000 then 1 else if l.ended then 11
  else if 999999999999000 < (slL l keep).first then 1 else if 1000000000000000 < (slL l keep).breaks then 1 else 0
def brkEnd (n : Int) : List LE → Int
  | [] => n
  | e :: r => brkEnd (if e.brk then IntKind.i64.wrap (n + 1) else n) r
theorem slGo_is (keep : Int) : ∀ (l : List LE) (left : Int) (g : Nat) (b : Int), ∃ k, k ≤ l.length ∧ slGo keep l left (g, b) = (g + k, brkEnd b (l.take k))
  | [], left, g, b => ⟨0, Nat.le_refl _, rfl⟩
  | e :: r, left, g, b => by
    rw [slGo]
    split
    · exact ⟨0, Nat.zero_le _, rfl⟩
    · obtain ⟨k, h1, h2⟩ := slGo_is keep r (IntKind.i64.wrap (left - e.milli)) (g + 1) (if e.brk then IntKind.i64.wrap (b + 1) else b)
      refine ⟨k + 1, by simpa using h1, ?_⟩
      rw [h2, List.take_succ_cons, brkEnd]
      rw [show g + 1 + k = g + (k + 1) by omega]
theorem slS_is (l : PL) (keep : Int) : (slS l keep).1 ≤ l.ents.length ∧ (slS l keep).2 = brkEnd l.breaks (l.ents.take (slS l keep).1) := by
  obtain ⟨k, h1, h2⟩ := slGo_is keep l.ents (lenF l) 0 l.breaks
  unfold slS
  rw [h2, Nat.zero_add]
  exact ⟨h1, rfl⟩

/-! ### Follows -/
def folGo : List LE → List Int → List LE → List Int → Int
  | x :: A, p :: a, y :: B, q :: b => if sameE x y = false then 12 else if p ≠ q then 3 else folGo A a B b
  | _, _, _, _ => 0
/-- The last break number of a list. -/
def lastB (l : PL) : Int := (brkF l).getLastD l.breaks
def folF (old now : PL) : Int :=
  if old.target ≠ now.target then 6 else if old.ended && !sameL old now then 11
  else if now.first < old.first ∨ now.first + now.ents.length < old.first + old.ents.length then 8
  else if folGo (old.ents.drop (now.first - old.first).toNat) ((brkF old).drop (now.first - old.first).toNat) now.ents (brkF now) ≠ 0 then folGo (old.ents.drop (now.first - old.first).toNat) ((brkF old).drop (now.first - old.first).toNat) now.ents (brkF now)
  else if old.first + old.ents.length ≤ now.first ∧ now.breaks < lastB old then 8 else 0
def followF (old now : PL) : Int := if ckF old ≠ 0 then ckF old else if ckF now ≠ 0 then ckF now else folF old now
theorem brkGo_append (n : Int) : ∀ (a b : List LE), brkGo n (a ++ b) = brkGo n a ++ brkGo (brkEnd n a) b
  | [], b => rfl
  | e :: r, b => by rw [List.cons_append, brkGo, brkGo, brkEnd, brkGo_append _ r b, List.cons_append]
theorem brkGo_last : ∀ (a : List LE) (n m : Int), (brkGo n a).getLastD m = match a with | [] => m | _ :: _ => brkEnd n a
  | [], n, m => rfl
  | [e], n, m => rfl
  | e :: e' :: r, n, m => by
    obtain ⟨b, hb⟩ : ∃ b, b = if e.brk then IntKind.i64.wrap (n + 1) else n := ⟨_, rfl⟩
    have := brkGo_last (e' :: r) b b
    show (brkGo n (e :: e' :: r)).getLastD m = brkEnd n (e :: e' :: r)
    rw [brkGo, brkEnd, ← hb, List.getLastD_cons, this]
theorem folGo_same : ∀ (X Y : List LE) (n : Int), folGo X (brkGo n X) (X ++ Y) (brkGo n (X ++ Y)) = 0
  | [], Y, n => by simp [folGo, brkGo]
  | e :: r, Y, n => by
    rw [List.cons_append, brkGo, brkGo, folGo, sameE_refl, if_neg (by simp), if_neg (by simp)]
    exact folGo_same r Y _
/-- A list with an entry more, less its first ones, follows. -/
theorem fol_slid (l : PL) (e : LE) (g : Nat) (hg : g ≤ l.ents.length) (hend : l.ended = false) : folF l ⟨l.target, l.first + g, brkEnd l.breaks ((l.ents ++ [e]).take g), (l.ents ++ [e]).drop g, l.ended⟩ = 0 := by
  unfold folF
  have ht : (l.ents ++ [e]).take g = l.ents.take g := List.take_append_of_le_length hg
  have hd : (l.ents ++ [e]).drop g = l.ents.drop g ++ [e] := List.drop_append_of_le_length hg
  have hb : (brkF l).drop g = brkGo (brkEnd l.breaks (l.ents.take g)) (l.ents.drop g) := by
    unfold brkF
    conv => lhs; rw [← List.take_append_drop g l.ents, brkGo_append]
    rw [List.drop_append_of_le_length (by rw [brkGo_len, List.length_take]; omega), List.drop_of_length_le (by rw [brkGo_len, List.length_take]; omega), List.nil_append]
  have hG : folGo (l.ents.drop g) ((brkF l).drop g) (l.ents.drop g ++ [e]) (brkGo (brkEnd l.breaks (l.ents.take g)) (l.ents.drop g ++ [e])) = 0 := by
    rw [hb]; exact folGo_same _ _ _
  have hbn : brkF ⟨l.target, l.first + g, brkEnd l.breaks (l.ents.take g), l.ents.drop g ++ [e], l.ended⟩ = brkGo (brkEnd l.breaks (l.ents.take g)) (l.ents.drop g ++ [e]) := rfl
  rw [if_neg (by simp), if_neg (by rw [hend]; simp), ht, hd]
  simp only [show (l.first + (g : Int) - l.first).toNat = g by omega]
  rw [if_neg (by rw [List.length_append, List.length_drop, List.length_singleton]; omega), hbn, if_neg (by rw [hG]; simp), if_neg ?_]
  rintro ⟨h1, h2⟩
  have hgl : g = l.ents.length := by omega
  rw [hgl, List.take_length] at h2
  unfold lastB brkF at h2
  rw [brkGo_last] at h2
  revert h2
  rcases l.ents with _ | ⟨y, r⟩
  · exact fun h => Int.lt_irrefl _ h
  · exact fun h => Int.lt_irrefl _ h

/-! ### Load, Play -/
def clF (c : CL) (back : Int) : Int := if outB c.next 0 1000000000000000 || outB c.lost 0 1000000000000000 || outB back 0 1000000000000000 then 1 else if 2000 < c.queue.length then 2 else 0
def beginF (c : CL) (l : PL) (back : Int) : Int × Int :=
  if clF c back ≠ 0 then (0, clF c back)
  else if c.begun then (if ckF c.last ≠ 0 then (0, ckF c.last) else (c.next, folF c.last l))
  else if c.next ≠ 0 then (0, 3) else if c.lost ≠ 0 then (0, 3) else if c.queue ≠ [] then (0, 3) else if sameL c.last zPL = false then (0, 3)
  else (l.first + (stF l back).1.1, (stF l back).2)
/-- What Load has in hand behind an entry: the next number, what is lost and not told yet, the queue. -/
structure LS where
  next : Int
  lost : Int
  queue : List QI
def brkE (e : LE) : LE := ⟨e.uri, e.milli, true, e.date, e.key, e.gap, e.extra⟩
def ldStep (n : Int) (e : LE) (s : LS) : LS := if n < s.next then s else ⟨s.next + 1, if 0 < s.lost then 0 else s.lost, s.queue ++ [⟨n, if 0 < s.lost then brkE e else e⟩]⟩
def ldGo (n : Int) : List LE → LS → LS
  | [], s => s
  | e :: r, s => ldGo (n + 1) r (ldStep n e s)
def ldLost (l : PL) (next : Int) : Int := max 0 (l.first - next)
def ldS (c : CL) (l : PL) (next : Int) : LS := ldGo l.first l.ents ⟨next + ldLost l next, ldLost l next, c.queue⟩
def ldC (c : CL) (l : PL) (next : Int) : CL := ⟨true, (ldS c l next).next, l, (ldS c l next).queue, c.lost + ldLost l next⟩
def loadF (c : CL) (l : PL) (back : Int) : Int :=
  if ckF l ≠ 0 then ckF l else if (beginF c l back).2 ≠ 0 then (beginF c l back).2 else if 2000 < (ldS c l (beginF c l back).1).queue.length then 17 else 0
def loadC (c : CL) (l : PL) (back : Int) : CL := ldC c l (beginF c l back).1
def playF (c : CL) : Int := if clF c 0 ≠ 0 then clF c 0 else if c.queue.length = 0 then 9 else 0
def playC (c : CL) : CL := ⟨c.begun, c.next, c.last, c.queue.tail, c.lost⟩

/-- The numbers rise, and are below a bound. -/
def RiseTo (b : Int) : List Int → Prop
  | [] => True
  | [x] => x < b
  | x :: y :: r => x < y ∧ RiseTo b (y :: r)
theorem riseTo_up {b b' : Int} (h : b ≤ b') : ∀ {l : List Int}, RiseTo b l → RiseTo b' l
  | [], _ => trivial
  | [_], hx => Int.lt_of_lt_of_le hx h
  | _ :: _ :: _, hx => ⟨hx.1, riseTo_up h hx.2⟩
theorem riseTo_snoc {b : Int} : ∀ {l : List Int}, RiseTo b l → RiseTo (b + 1) (l ++ [b])
  | [], _ => Int.lt_succ b
  | [_], hx => ⟨hx, Int.lt_succ b⟩
  | _ :: y :: r, hx => ⟨hx.1, riseTo_snoc (l := y :: r) hx.2⟩
theorem riseTo_left {b : Int} : ∀ {l r : List Int}, RiseTo b (l ++ r) → ∃ b', RiseTo b' l
  | [], _, _ => ⟨0, trivial⟩
  | [x], _, _ => ⟨x + 1, Int.lt_succ x⟩
  | x :: y :: s, r, h => by
    obtain ⟨b', hb⟩ := riseTo_left (l := y :: s) (r := r) h.2
    exact ⟨b', h.1, hb⟩
theorem riseTo_get {b : Int} : ∀ {l : List Int}, RiseTo b l → ∀ i (h : i + 1 < l.length), l[i] < l[i + 1]
  | _ :: _ :: _, h, 0, _ => h.1
  | _ :: y :: r, h, i + 1, hl => riseTo_get (l := y :: r) h.2 i (by simpa using hl)
  | [], _, _, hl => by simp at hl
  | [_], _, _, hl => by simp at hl
/-- What an entry does to what Load has in hand. -/
theorem ldStep_is {n : Int} {e : LE} {s : LS} {P : List Int} (hn : n ≤ s.next) (hr : RiseTo s.next (P ++ s.queue.map QI.num)) :
    n + 1 ≤ (ldStep n e s).next ∧ RiseTo (ldStep n e s).next (P ++ (ldStep n e s).queue.map QI.num) ∧ (ldStep n e s).next - (ldStep n e s).queue.length = s.next - s.queue.length ∧ s.next ≤ (ldStep n e s).next := by
  unfold ldStep
  split
  · rename_i h; exact ⟨h, hr, rfl, Int.le_refl _⟩
  · rename_i h
    have he : n = s.next := by omega
    refine ⟨?_, ?_, ?_, ?_⟩
    · show n + 1 ≤ s.next + 1; omega
    · show RiseTo (s.next + 1) (P ++ (s.queue ++ [_]).map QI.num)
      rw [List.map_append, ← List.append_assoc]
      show RiseTo (s.next + 1) (P ++ s.queue.map QI.num ++ [n])
      rw [he]; exact riseTo_snoc hr
    · show s.next + 1 - ((s.queue ++ [_]).length : Nat) = _
      rw [List.length_append, List.length_singleton]; omega
    · show s.next ≤ s.next + 1; omega
theorem ldGo_is {P : List Int} : ∀ {l : List LE} {n : Int} {s : LS}, n ≤ s.next → RiseTo s.next (P ++ s.queue.map QI.num) →
    RiseTo (ldGo n l s).next (P ++ (ldGo n l s).queue.map QI.num) ∧ (ldGo n l s).next - (ldGo n l s).queue.length = s.next - s.queue.length ∧ s.next ≤ (ldGo n l s).next
  | [], n, s, _, hr => ⟨hr, rfl, Int.le_refl _⟩
  | e :: r, n, s, hn, hr => by
    obtain ⟨h1, h2, h3, h4⟩ := ldStep_is (e := e) hn hr
    obtain ⟨k1, k2, k3⟩ := ldGo_is (l := r) h1 h2
    exact ⟨k1, by rw [ldGo, k2, h3], Int.le_trans h4 k3⟩
theorem ldGo_sm {m : Nat} : ∀ {l : List LE} {n : Int} {s : LS}, (∀ e ∈ l, e.extra.length ≤ m) → (∀ q ∈ s.queue, q.ent.extra.length ≤ m) → ∀ q ∈ (ldGo n l s).queue, q.ent.extra.length ≤ m
  | [], n, s, _, hq => hq
  | e :: r, n, s, he, hq => by
    refine ldGo_sm (l := r) (fun x hx => he x (List.mem_cons_of_mem _ hx)) ?_
    unfold ldStep
    split
    · exact hq
    · intro q hqm
      rcases List.mem_append.1 hqm with hqm | hqm
      · exact hq q hqm
      · rw [List.mem_singleton] at hqm
        subst hqm
        have := he e (List.mem_cons_self ..)
        show (if 0 < s.lost then brkE e else e).extra.length ≤ m
        split <;> exact this
theorem ldGo_up : ∀ {l : List LE} {n : Int} {s : LS}, s.next ≤ (ldGo n l s).next ∧ (ldGo n l s).next ≤ s.next + l.length
  | [], n, s => ⟨Int.le_refl _, by rw [ldGo, List.length_nil]; omega⟩
  | e :: r, n, s => by
    have h1 := ldGo_up (l := r) (n := n + 1) (s := ldStep n e s)
    have h2 : s.next ≤ (ldStep n e s).next ∧ (ldStep n e s).next ≤ s.next + 1 := by
      unfold ldStep
      split
      · exact ⟨Int.le_refl _, by omega⟩
      · exact ⟨by show s.next ≤ s.next + 1; omega, Int.le_refl _⟩
    rw [ldGo, List.length_cons]
    omega
theorem ldGo_len : ∀ {l : List LE} {n : Int} {s : LS}, (ldGo n l s).queue.length ≤ s.queue.length + l.length
  | [], n, s => Nat.le_refl _
  | e :: r, n, s => by
    refine Nat.le_trans (ldGo_len (l := r)) ?_
    unfold ldStep
    split
    · simp
    · show (s.queue ++ [_]).length + r.length ≤ _
      rw [List.length_append, List.length_singleton, List.length_cons]; omega

/-! ### The law in plain words -/
structure Chg where
  ent : LE
  load : Bool
  keep : Int
/-- Where the law is: the list, the client, what was played, the first number that it got on with. -/
structure Lv where
  l : PL
  c : CL
  played : List Int
  start : Int
def lvLoad (back : Int) (s : Lv) : Lv := if loadF s.c s.l back = 0 then ⟨s.l, loadC s.c s.l back, s.played, if s.start < 0 then (loadC s.c s.l back).next - (loadC s.c s.l back).queue.length else s.start⟩ else s
def lvPlay (s : Lv) : Lv := if playF s.c = 0 then ⟨s.l, playC s.c, s.played ++ [(s.c.queue.map QI.num).getD 0 0], s.start⟩ else s
def lvNow (l : PL) (x : Chg) : PL := if slF (addL l x.ent) x.keep = 0 ∧ 0 < (slL (addL l x.ent) x.keep).ents.length then slL (addL l x.ent) x.keep else addL l x.ent
def lvStep (back : Int) (x : Chg) (s : Lv) : Lv := if x.load then lvPlay (lvLoad back s) else if addF s.l x.ent = 0 then ⟨lvNow s.l x, s.c, s.played, s.start⟩ else s
/-- What always holds. -/
def Lv.ok (s : Lv) : Prop :=
  s.l.ok ∧ s.c.last.ok ∧ s.c.last.small ∧ s.c.queue.length ≤ 2000 ∧ (∀ q ∈ s.c.queue, q.ent.extra.length ≤ 20) ∧ RiseTo s.c.next (s.played ++ s.c.queue.map QI.num) ∧
    (s.start < 0 → s.c = zCL ∧ s.played = [] ∧ s.start = -1) ∧ (0 ≤ s.start → s.c.next - s.start = s.played.length + s.c.queue.length + s.c.lost ∧ s.c.begun = true) ∧
    (0 ≤ s.c.next ∧ s.c.next ≤ 4000000000000000 ∧ 0 ≤ s.c.lost ∧ s.c.lost ≤ 4000000000000000)
theorem efF_extra {e : LE} {t : Int} (h : efF e t = 0) : e.extra.length ≤ 20 := by
  unfold efF at h
  split at h; · rename_i q; exact absurd h q
  split at h; · cases h
  split at h; · cases h
  split at h; · cases h
  split at h; · cases h
  split at h; · cases h
  rename_i q; omega
theorem ck_small {l : PL} (h : ckF l = 0) : l.small := by
  obtain ⟨_, _, _, h4, h5⟩ := ckF_0.1 h
  exact ⟨by omega, fun e he => efF_extra (h5 e he)⟩
theorem outB_no {n lo hi : Int} (h : outB n lo hi = false) : lo ≤ n ∧ n ≤ hi := by
  have := outB_f h; omega
theorem clF_0 {c : CL} {back : Int} (h : clF c back = 0) : (0 ≤ c.next ∧ c.next ≤ 1000000000000000) ∧ (0 ≤ c.lost ∧ c.lost ≤ 1000000000000000) ∧ (0 ≤ back ∧ back ≤ 1000000000000000) ∧ c.queue.length ≤ 2000 := by
  unfold clF at h
  split at h; · cases h
  rename_i q
  simp only [outB, Bool.or_eq_true, decide_eq_true_eq, not_or] at q
  split at h; · cases h
  exact ⟨by omega, by omega, by omega, by omega⟩
theorem begin_begun {c : CL} {l : PL} {back : Int} (g : c.begun = true) : (beginF c l back).2 = 0 → (beginF c l back).1 = c.next := by
  unfold beginF
  by_cases q : clF c back ≠ 0
  · rw [if_pos q]; intro h; exact absurd h q
  rw [if_neg q, if_pos g]
  by_cases q2 : ckF c.last ≠ 0
  · rw [if_pos q2]; intro h; exact absurd h q2
  · rw [if_neg q2]; intro _; rfl
theorem begin_rng {c : CL} {l : PL} {back : Int} (hl : ckF l = 0) (h : (beginF c l back).2 = 0) : (0 ≤ (beginF c l back).1 ∧ (beginF c l back).1 ≤ 1000000000001000) ∧ (0 ≤ c.lost ∧ c.lost ≤ 1000000000000000) ∧ c.queue.length ≤ 2000 := by
  have hcl : clF c back = 0 := by
    unfold beginF at h
    split at h
    · rename_i q; exact absurd h q
    · rename_i q; omega
  obtain ⟨r1, r2, r3, r4⟩ := clF_0 hcl
  obtain ⟨_, ⟨f0, f1⟩, _, f4, _⟩ := ckF_0.1 hl
  have hst := stF_le l back
  refine ⟨?_, r2, r4⟩
  unfold beginF
  rw [if_neg (by omega)]
  split
  · split
    · exact ⟨Int.le_refl 0, by show (0 : Int) ≤ 1000000000001000; omega⟩
    · show 0 ≤ c.next ∧ c.next ≤ _; omega
  · split; · exact ⟨Int.le_refl 0, by show (0 : Int) ≤ 1000000000001000; omega⟩
    split; · exact ⟨Int.le_refl 0, by show (0 : Int) ≤ 1000000000001000; omega⟩
    split; · exact ⟨Int.le_refl 0, by show (0 : Int) ≤ 1000000000001000; omega⟩
    split; · exact ⟨Int.le_refl 0, by show (0 : Int) ≤ 1000000000001000; omega⟩
    show 0 ≤ l.first + ((stF l back).1.1 : Int) ∧ l.first + ((stF l back).1.1 : Int) ≤ _
    omega
theorem lvLoad_ok {back : Int} {s : Lv} (h : s.ok) : (lvLoad back s).ok := by
  unfold lvLoad
  split
  case isFalse => exact h
  rename_i hf
  obtain ⟨h1, h2, h3, h4, h5, h6, h7, h8, h9⟩ := h
  unfold loadF at hf
  split at hf; · rename_i q; exact absurd hf q
  rename_i hck
  split at hf; · rename_i q; exact absurd hf q
  rename_i hbg
  split at hf; · cases hf
  rename_i hq
  have hck : ckF s.l = 0 := by omega
  obtain ⟨_, ⟨f0, f1⟩, _, _, _⟩ := ckF_0.1 hck
  have hbg : (beginF s.c s.l back).2 = 0 := by omega
  have hls : 0 ≤ ldLost s.l (beginF s.c s.l back).1 := by unfold ldLost; omega
  have hnl : s.l.first ≤ (beginF s.c s.l back).1 + ldLost s.l (beginF s.c s.l back).1 := by unfold ldLost; omega
  have hex : ∀ e ∈ s.l.ents, e.extra.length ≤ 20 := fun e he => efF_extra ((ckF_0.1 hck).2.2.2.2 e he)
  have hsm := ldGo_sm (m := 20) (n := s.l.first) (s := ⟨(beginF s.c s.l back).1 + ldLost s.l (beginF s.c s.l back).1, ldLost s.l (beginF s.c s.l back).1, s.c.queue⟩) hex h5
  have hrng : 0 ≤ (loadC s.c s.l back).next ∧ (loadC s.c s.l back).next ≤ 4000000000000000 ∧ 0 ≤ (loadC s.c s.l back).lost ∧ (loadC s.c s.l back).lost ≤ 4000000000000000 := by
    obtain ⟨r1, r2, r3⟩ := begin_rng hck hbg
    have hll : ldLost s.l (beginF s.c s.l back).1 ≤ 1000000000000000 := by unfold ldLost; omega
    have k2 := ldGo_up (l := s.l.ents) (n := s.l.first) (s := ⟨(beginF s.c s.l back).1 + ldLost s.l (beginF s.c s.l back).1, ldLost s.l (beginF s.c s.l back).1, s.c.queue⟩)
    have hle := (ckF_0.1 hck).2.2.2.1
    refine ⟨?_, ?_, ?_, ?_⟩
    · show 0 ≤ (ldS s.c s.l (beginF s.c s.l back).1).next
      refine Int.le_trans ?_ k2.1
      show 0 ≤ (beginF s.c s.l back).1 + ldLost s.l (beginF s.c s.l back).1
      omega
    · show (ldS s.c s.l (beginF s.c s.l back).1).next ≤ _
      refine Int.le_trans k2.2 ?_
      show (beginF s.c s.l back).1 + ldLost s.l (beginF s.c s.l back).1 + (s.l.ents.length : Int) ≤ _
      omega
    · show 0 ≤ s.c.lost + ldLost s.l (beginF s.c s.l back).1; omega
    · show s.c.lost + ldLost s.l (beginF s.c s.l back).1 ≤ _; omega
  by_cases hst : s.start < 0
  · obtain ⟨hc, hp, hm⟩ := h7 hst
    have hb2 : beginF s.c s.l back = (s.l.first + (stF s.l back).1.1, (stF s.l back).2) := by
      rw [hc]
      unfold beginF at hbg ⊢
      rw [hc] at hbg
      split at hbg; · rename_i q; exact absurd hbg q
      rename_i q
      rw [if_neg q, if_neg (by simp [zCL]), if_neg (by simp [zCL]), if_neg (by simp [zCL]), if_neg (by simp [zCL]), if_neg (by simp [zCL, zPL, sameL, eqEL])]
    have hl0 : ldLost s.l (beginF s.c s.l back).1 = 0 := by rw [hb2]; unfold ldLost; simp only; omega
    obtain ⟨k1, k2, k3⟩ := ldGo_is (P := []) (l := s.l.ents) (n := s.l.first) (s := ⟨(beginF s.c s.l back).1 + ldLost s.l (beginF s.c s.l back).1, ldLost s.l (beginF s.c s.l back).1, s.c.queue⟩) hnl (by rw [hc]; trivial)
    have hnx : (loadC s.c s.l back).next - (loadC s.c s.l back).queue.length = s.l.first + (stF s.l back).1.1 := by
      refine k2.trans ?_
      rw [hl0, hb2, hc]
      show s.l.first + ((stF s.l back).1.1 : Int) + 0 - ((0 : Nat) : Int) = _
      omega
    refine ⟨h1, h1, ck_small hck, by show (ldS s.c s.l (beginF s.c s.l back).1).queue.length ≤ 2000; omega, hsm, ?_, ?_, ?_⟩
    · show RiseTo _ (s.played ++ _)
      rw [hp]; exact k1
    · show (if s.start < 0 then _ else _) < 0 → _
      rw [if_pos hst, hnx]
      intro hneg; omega
    · refine ⟨fun _ => ?_, hrng⟩
      refine ⟨?_, rfl⟩
      show _ - (if s.start < 0 then _ else _) = _
      rw [if_pos hst]
      show (loadC s.c s.l back).next - ((loadC s.c s.l back).next - ((loadC s.c s.l back).queue.length : Int)) = (s.played.length : Int) + ((loadC s.c s.l back).queue.length : Int) + (s.c.lost + ldLost s.l (beginF s.c s.l back).1)
      rw [hp, hl0, hc]
      show _ = ((0 : Nat) : Int) + _ + ((0 : Int) + 0)
      omega
  · obtain ⟨g1, g2⟩ := h8 (by omega)
    have hb2 : (beginF s.c s.l back).1 = s.c.next := begin_begun g2 hbg
    have hup : RiseTo ((beginF s.c s.l back).1 + ldLost s.l (beginF s.c s.l back).1) (s.played ++ s.c.queue.map QI.num) := riseTo_up (by rw [hb2] at hls ⊢; omega) h6
    obtain ⟨k1, k2, k3⟩ := ldGo_is (P := s.played) (l := s.l.ents) (n := s.l.first) (s := ⟨(beginF s.c s.l back).1 + ldLost s.l (beginF s.c s.l back).1, ldLost s.l (beginF s.c s.l back).1, s.c.queue⟩) hnl hup
    refine ⟨h1, h1, ck_small hck, by show (ldS s.c s.l (beginF s.c s.l back).1).queue.length ≤ 2000; omega, hsm, k1, ?_, ?_⟩
    · show (if s.start < 0 then _ else _) < 0 → _
      rw [if_neg hst]
      intro hneg; exact absurd hneg hst
    · refine ⟨fun _ => ?_, hrng⟩
      refine ⟨?_, rfl⟩
      show _ - (if s.start < 0 then _ else _) = _
      rw [if_neg hst]
      show (loadC s.c s.l back).next - s.start = (s.played.length : Int) + ((loadC s.c s.l back).queue.length : Int) + (s.c.lost + ldLost s.l (beginF s.c s.l back).1)
      have k2' : (loadC s.c s.l back).next - ((loadC s.c s.l back).queue.length : Int) = (beginF s.c s.l back).1 + ldLost s.l (beginF s.c s.l back).1 - (s.c.queue.length : Int) := k2
      rw [hb2] at k2' ⊢
      omega
theorem lvPlay_ok {s : Lv} (h : s.ok) : (lvPlay s).ok := by
  unfold lvPlay
  split
  case isFalse => exact h
  rename_i hf
  obtain ⟨h1, h2, h3, h4, h5, h6, h7, h8, h9⟩ := h
  unfold playF at hf
  split at hf; · rename_i q; exact absurd hf q
  split at hf; · cases hf
  rename_i hq
  rcases hqe : s.c.queue with _ | ⟨q, r⟩
  · rw [hqe] at hq; exact absurd rfl hq
  have hst : ¬ s.start < 0 := fun hst => by
    obtain ⟨hc, _⟩ := h7 hst
    rw [hc] at hqe; cases hqe
  obtain ⟨g1, g2⟩ := h8 (by omega)
  have hpc : playC s.c = ⟨s.c.begun, s.c.next, s.c.last, r, s.c.lost⟩ := by unfold playC; rw [hqe]; rfl
  rw [hpc]
  refine ⟨h1, h2, h3, ?_, ?_, ?_, fun hneg => absurd hneg hst, fun _ => ⟨?_, g2⟩, h9⟩
  · rw [hqe, List.length_cons] at h4; show r.length ≤ 2000; omega
  · intro x hx; exact h5 x (by rw [hqe]; exact List.mem_cons_of_mem _ hx)
  · show RiseTo s.c.next (s.played ++ [((q :: r).map QI.num).getD 0 0] ++ r.map QI.num)
    rw [hqe] at h6
    rw [List.append_assoc]
    exact h6
  · show s.c.next - s.start = ((s.played ++ [_]).length : Int) + (r.length : Int) + s.c.lost
    rw [hqe, List.length_cons] at g1
    rw [List.length_append, List.length_singleton]
    omega
theorem addL_ok {l : PL} {e : LE} (h : l.ok) (hc : l.ents.length ≤ 1000) (he : e.ok) : (addL l e).ok := by
  refine ⟨?_, fun x hx => ?_⟩
  · show (l.ents ++ [e]).length ≤ _
    rw [List.length_append, List.length_singleton]; omega
  · rcases List.mem_append.1 hx with hx | hx
    · exact h.2 x hx
    · rw [List.mem_singleton] at hx; subst hx; exact he
theorem slL_ok {l : PL} {k : Int} (h : l.ok) : (slL l k).ok := by
  refine ⟨?_, fun x hx => h.2 x (List.mem_of_mem_drop hx)⟩
  show (l.ents.drop _).length ≤ _
  rw [List.length_drop]; have := h.1; omega
theorem lvStep_ok {back : Int} {x : Chg} {s : Lv} (h : s.ok) (he : x.ent.ok) : (lvStep back x s).ok := by
  unfold lvStep
  split
  · exact lvPlay_ok (lvLoad_ok h)
  split
  case isFalse => exact h
  rename_i ha
  unfold addF at ha
  split at ha; · rename_i q; exact absurd ha q
  rename_i hck
  have hck : ckF s.l = 0 := by omega
  have hle := (ckF_0.1 hck).2.2.2.1
  have hok := addL_ok (e := x.ent) h.1 hle he
  obtain ⟨h1, h2⟩ := h
  refine ⟨?_, h2⟩
  show (lvNow s.l x).ok
  unfold lvNow
  split
  · exact slL_ok hok
  · exact hok
/-- What the law asks of each step. -/
theorem lv_follows {l : PL} {x : Chg} (ha : addF l x.ent = 0) : followF l (lvNow l x) = 0 := by
  unfold addF at ha
  split at ha; · rename_i q; exact absurd ha q
  rename_i hck
  split at ha; · cases ha
  rename_i hend
  rw [Bool.not_eq_true] at hend
  have hck : ckF l = 0 := by omega
  obtain ⟨q1, q2, q3, q4, q5⟩ := ckF_0.1 ha
  have key : ckF (lvNow l x) = 0 ∧ folF l (lvNow l x) = 0 := by
    unfold lvNow
    split
    · rename_i hs
      obtain ⟨hs1, hs2⟩ := hs
      obtain ⟨g1, g2⟩ := slS_is (addL l x.ent) x.keep
      have e : slL (addL l x.ent) x.keep = ⟨l.target, l.first + (slS (addL l x.ent) x.keep).1, brkEnd l.breaks ((l.ents ++ [x.ent]).take (slS (addL l x.ent) x.keep).1), (l.ents ++ [x.ent]).drop (slS (addL l x.ent) x.keep).1, l.ended⟩ := by
        unfold slL; rw [g2]; rfl
      have hg : (slS (addL l x.ent) x.keep).1 ≤ l.ents.length := by
        rw [e] at hs2
        simp only [List.length_drop, List.length_append, List.length_singleton] at hs2
        omega
      refine ⟨?_, by rw [e]; exact fol_slid l x.ent _ hg hend⟩
      unfold slF at hs1
      rw [if_neg (by omega)] at hs1
      split at hs1; · cases hs1
      split at hs1; · cases hs1
      split at hs1; · cases hs1
      rename_i z1
      split at hs1; · cases hs1
      rename_i z2
      refine ckF_0.2 ⟨q1, ⟨?_, by omega⟩, ⟨?_, by omega⟩, ?_, fun y hy => q5 y (List.mem_of_mem_drop hy)⟩
      · show 0 ≤ (addL l x.ent).first + ((slS (addL l x.ent) x.keep).1 : Int); omega
      · rw [e]
        show 0 ≤ brkEnd l.breaks _
        have key : ∀ (L : List LE) (n : Int), 0 ≤ n → n + L.length ≤ 9000000000000000000 → 0 ≤ brkEnd n L := by
          intro L
          induction L with
          | nil => intro n hn _; exact hn
          | cons y r ih =>
            intro n hn hl
            rw [List.length_cons] at hl
            rw [brkEnd]
            split
            · rw [wrap_in (by omega) (by omega)]; exact ih _ (by omega) (by omega)
            · exact ih _ hn (by omega)
        refine key _ _ (by have : (addL l x.ent).breaks = l.breaks := rfl; omega) ?_
        have hb : (addL l x.ent).breaks = l.breaks := rfl
        have hn : (addL l x.ent).ents = l.ents ++ [x.ent] := rfl
        rw [hn] at q4
        rw [List.length_take]
        omega
      · show ((addL l x.ent).ents.drop _).length ≤ 1000
        rw [List.length_drop]; omega
    · refine ⟨ha, ?_⟩
      have := fol_slid l x.ent 0 (Nat.zero_le _) hend
      simpa [brkEnd, addL] using this
  unfold followF
  rw [if_neg (by omega), if_neg (by omega)]
  exact key.2
end Go.Proofs.Ytpecmhdepggnoaa
