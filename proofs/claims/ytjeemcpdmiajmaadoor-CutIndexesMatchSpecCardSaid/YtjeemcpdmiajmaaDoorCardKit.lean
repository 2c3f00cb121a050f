/- What a card's list of package-level variables gives the machine: the table of the powers of ten. -/
import Derived.Test.YtjeemcpdmiajmaaDoorDmP
import Derived.Test.YtjeemcpdmiajmaaDoorTie
import Derived.Test.YtjeemcpdmiajmaaDoorCards
import Derived.Lib.LaidTab
import Derived.LaidMore
import Derived.OpenShut
import Derived.MakeChecks
import Derived.SevenTiedAt
namespace Go.Proofs.YtjeemcpdmiajmaaDoor
open Go.RowKit

theorem laid_reads {P : Program} {w : World} : ∀ {l : List (String × DataW Unit)} {ps : List MemPlace}, DataW.LaidVars P w l ps → ∀ n d, (n, d) ∈ l →
    ∃ g t cs fuel p, P.globalNamed n = some g ∧ (P.globals[g]?).map (·.type) = some t ∧ w.var? P n = some cs ∧ DataW.trod (fun _ => ()) P w 0 (fun _ => true) false fuel t cs.toList = some (d, p)
  | [], _, _, _, _, hm => by cases hm
  | (n', d') :: r, ps, h, n, d, hm => by
    obtain ⟨g, t, cs, fuel, p, q, h1, h2, h3, h4, h5, _⟩ := h
    rcases List.mem_cons.1 hm with e | e
    · cases e
      exact ⟨g, t, cs, fuel, p, h1, h2, h3, h4⟩
    · exact laid_reads h5 n d e
theorem tab_of_laid (i : Nat) {l : List (String × DataW Unit)} {W : World} (hm : l[i]? = some ("internal/strconv.uint64pow10", Go.Lib.tabData .u64 Go.Lib.pow10Tab)) (hp : (l.all fun x => x.2.handleName?.isNone) = true) (h : laidMetH Tryd.prog l W) : TabB W W.heap.size := by
  rw [MakeChecks.laidMetH_plain _ _ _ hp] at h
  obtain ⟨ps, hv, _⟩ := h
  obtain ⟨g, t, cs, fuel, p, h1, h2, h3, h4⟩ := laid_reads hv _ _ (List.mem_of_getElem? hm)
  obtain rfl : g = 2 := Option.some.inj (h1.symm.trans (by kernel_rfl))
  obtain rfl : t = 126 := Option.some.inj (h2.symm.trans (by kernel_rfl))
  have hc := Go.Lib.cells_of_tab (e := 38) (n := 20) (by kernel_rfl) (by kernel_rfl) (by kernel_rfl) (by kernel_rfl) h4
  intro g' cs' hg
  simp only [tabs, List.mem_singleton, Prod.mk.injEq] at hg
  obtain ⟨rfl, rfl⟩ := hg
  unfold World.var? at h3
  rw [h1, Option.bind_some] at h3
  split at h3
  · rename_i ys tt rr hh
    have : cs = (Go.Lib.pow10Tab.map fun z => Value.int .u64 z).toArray := by
      rw [← hc, Array.toArray_toList]
    rw [Option.some.inj h3, this] at hh
    exact ⟨(Array.getElem?_eq_some_iff.1 hh).1, tt, rr, hh⟩
  · cases h3
/-- The library's word for it. -/
theorem tabIs_of {w : World} {base : Nat} (h : TabB w base) : Go.Lib.TabIs Tryd.prog w "internal/strconv.uint64pow10" .u64 Go.Lib.pow10Tab := by
  obtain ⟨_, t, r, hh⟩ := h 2 (Go.Lib.pow10Tab.map fun z => Value.int .u64 z).toArray (by simp [tabs])
  unfold Go.Lib.TabIs World.var?
  rw [show Tryd.prog.globalNamed "internal/strconv.uint64pow10" = some 2 by kernel_rfl, Option.bind_some, hh]
end Go.Proofs.YtjeemcpdmiajmaaDoor
