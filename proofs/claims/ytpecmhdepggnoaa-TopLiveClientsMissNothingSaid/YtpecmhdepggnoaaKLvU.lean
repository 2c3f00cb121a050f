/- Live lists: Load, Play as the law calls them; the law's function, by the machine on data. -/
import Derived.Test.YtpecmhdepggnoaaKLvS
import Derived.Test.YtpecmhdepggnoaaKLvT
import Derived.Test.YtpecmhdepggnoaaKLvQ
import Derived.Test.YtpecmhdepggnoaaKAlive
namespace Go.Proofs.Ytpecmhdepggnoaa
open Go.RowKit
open _root_.List renaming map_cons → Z0
set_option linter.unusedSimpArgs false
--@short

def Chg.av (x : Chg) : List AV := [.val (.string x.ent.uri), .val (.int .i64 x.ent.milli), .val (.bool x.ent.brk), .val (.int .i64 x.ent.date), .val (.string x.ent.key), .val (.bool x.ent.gap), .ro (x.ent.extra.map oneS), .val (.bool x.load), .val (.int .i64 x.keep)]
/-- A client's cells; its slices may be nil before the first Load. -/
def cAV (c : CL) (X Y : AV) : List AV := [.val (.bool c.begun), .val (.int .i64 c.next), .val (.int .i64 c.last.target), .val (.int .i64 c.last.first), .val (.int .i64 c.last.breaks), X, .val (.bool c.last.ended), Y, .val (.int .i64 c.lost)]
def LvXY (c : CL) (sn : Int) (X Y : AV) : Prop := (sn < 0 ∧ X = .nilsl ∧ Y = .nilsl) ∨ (0 ≤ sn ∧ X = .ro (c.last.ents.map LE.av) ∧ Y = .ro (c.queue.map QI.av))
theorem cAV_no {l : PL} {c : CL} {pl : List Int} {sn : Int} {X Y : AV} (h : Lv.ok ⟨l, c, pl, sn⟩) (hXY : LvXY c sn X Y) : (AV.agg (cAV c X Y)).noNil = .agg c.av := by
  rcases hXY with ⟨hs, rfl, rfl⟩ | ⟨hs, rfl, rfl⟩
  · obtain ⟨_, _, _, _, _, _, h7, _⟩ := h
    obtain ⟨hc, _⟩ := h7 hs
    have hc : c = zCL := hc
    subst hc
    rfl
  · rfl
theorem lv_small {l : PL} {c : CL} {pl : List Int} {sn : Int} (h : Lv.ok ⟨l, c, pl, sn⟩) : c.small := by
  obtain ⟨_, _, h3, h4, h5, _⟩ := h
  exact ⟨h3, h4, h5⟩
theorem load_s {l : PL} {c : CL} {pl : List Int} {sn : Int} {X Y : AV} (h : Lv.ok ⟨l, c, pl, sn⟩) (hXY : LvXY c sn X Y) (back : Int) :
    CallOK Try.prog 7 [.agg (cAV c X Y), .agg l.av, .val (.int .i64 back)] (if loadF c l back = 0 then .tup [.agg (loadC c l back).av, .val (.int .i64 0)] else .tup [zCLn, .val (.int .i64 (loadF c l back))]) := by
  refine call_noNil ?_
  rw [List.map_cons, cAV_no h hXY]
  exact load_c c l h.1 h.2.1 (lv_small h) back
theorem play_s0 {l : PL} {c : CL} {pl : List Int} {sn : Int} {X Y : AV} (h : Lv.ok ⟨l, c, pl, sn⟩) (hXY : LvXY c sn X Y) (hp : playF c ≠ 0) :
    CallOK Try.prog 8 [.agg (cAV c X Y)] (.tup [.agg zCLp, .agg zQIp, .val (.int .i64 (playF c))]) := by
  refine call_noNil ?_
  rw [List.map_cons, cAV_no h hXY]
  exact play_c0 c (lv_small h) hp
theorem play_s1 {l : PL} {c : CL} {pl : List Int} {sn : Int} {X Y : AV} (h : Lv.ok ⟨l, c, pl, sn⟩) (hXY : LvXY c sn X Y) (hp : playF c = 0) :
    ∃ x T, c.queue = x :: T ∧ CallOK Try.prog 8 [.agg (cAV c X Y)] (.tup [.agg (playC c).av, .agg x.av, .val (.int .i64 0)]) := by
  rcases hq : c.queue with _ | ⟨x, T⟩
  · exfalso
    unfold playF at hp
    rw [hq] at hp
    split at hp
    · rename_i q; exact absurd hp q
    · simp at hp
  · refine ⟨x, T, rfl, ?_⟩
    refine call_noNil ?_
    rw [List.map_cons, cAV_no h hXY]
    exact play_c1 c (lv_small h) hp x T hq
/-- Behind a Load that is right the client has begun. -/
theorem lvLoad_st {back : Int} {l : PL} {c : CL} {pl : List Int} {sn : Int} (h : Lv.ok ⟨l, c, pl, sn⟩) (hL : loadF c l back = 0) :
    ∃ st, st = (if sn < 0 then (loadC c l back).next - (loadC c l back).queue.length else sn) ∧ Lv.ok ⟨l, loadC c l back, pl, st⟩ ∧ 0 ≤ st := by
  have h1 := lvLoad_ok (back := back) h
  have e : lvLoad back ⟨l, c, pl, sn⟩ = ⟨l, loadC c l back, pl, if sn < 0 then (loadC c l back).next - (loadC c l back).queue.length else sn⟩ := by
    unfold lvLoad; rw [if_pos hL]
  rw [e] at h1
  refine ⟨_, rfl, h1, ?_⟩
  obtain ⟨_, _, _, _, _, _, h7, _⟩ := h1
  generalize (if sn < 0 then (loadC c l back).next - ((loadC c l back).queue.length : Int) else sn) = st at *
  rcases Int.lt_or_le st 0 with hn | hn
  · have hc : loadC c l back = zCL := (h7 hn).1
    have : (loadC c l back).begun = true := rfl
    rw [hc] at this; cases this
  · exact hn
theorem lvPlay_st {l : PL} {c : CL} {pl : List Int} {sn : Int} {x : QI} {T : List QI} (h : Lv.ok ⟨l, c, pl, sn⟩) (hP : playF c = 0) (hx : c.queue = x :: T) :
    Lv.ok ⟨l, playC c, pl ++ [x.num], sn⟩ ∧ 0 ≤ sn := by
  have h1 := lvPlay_ok h
  have e : lvPlay ⟨l, c, pl, sn⟩ = ⟨l, playC c, pl ++ [x.num], sn⟩ := by
    unfold lvPlay
    rw [if_pos hP]
    show Lv.mk l (playC c) (pl ++ [(c.queue.map QI.num).getD 0 0]) sn = _
    rw [hx]; rfl
  rw [e] at h1
  refine ⟨h1, ?_⟩
  obtain ⟨_, _, _, _, _, _, h7, _⟩ := h
  rcases Int.lt_or_le sn 0 with hn | hn
  · have hc : c = zCL := (h7 hn).1
    rw [hc] at hx; cases hx
  · exact hn
theorem lvAdd_st {l : PL} {c : CL} {pl : List Int} {sn : Int} {x : Chg} (h : Lv.ok ⟨l, c, pl, sn⟩) (he : x.ent.ok) (hx : x.load = false) (hA : addF l x.ent = 0) : Lv.ok ⟨lvNow l x, c, pl, sn⟩ := by
  have h1 := lvStep_ok (back := 0) h he
  unfold lvStep at h1
  rw [if_neg (by rw [hx]; decide), if_pos hA] at h1
  exact h1
theorem lv_start {l : PL} (h : l.ok) : Lv.ok ⟨l, zCL, [], -1⟩ := by
  refine ⟨h, ⟨Nat.zero_le _, fun e he => ?_⟩, ⟨Nat.zero_le _, fun e he => ?_⟩, Nat.zero_le _, fun q hq => ?_, trivial, fun _ => ⟨rfl, rfl, rfl⟩, fun h => absurd h (show ¬ (0 : Int) ≤ -1 by decide), (show (0 : Int) ≤ 0 ∧ (0 : Int) ≤ 4000000000000000 ∧ (0 : Int) ≤ 0 ∧ (0 : Int) ≤ 4000000000000000 by decide)⟩
  · cases he
  · cases he
  · cases hq
end Go.Proofs.Ytpecmhdepggnoaa
