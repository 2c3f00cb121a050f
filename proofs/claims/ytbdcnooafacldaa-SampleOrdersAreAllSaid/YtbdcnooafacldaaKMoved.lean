/- Copies of samples: slices.Clone, sample.moved, checked, by the machine on data. -/
import Derived.Test.YtbdcnooafacldaaKPres
namespace Go.Proofs.Ytbdcnooafacldaa
open Go.RowKit
set_option linter.unusedSimpArgs false

def Smp.late (by' : Int) (s : Smp) : Smp := ⟨s.time + by', s.step, s.shift, s.size, s.key⟩
def Smp.less (d : Int) (s : Smp) : Smp := ⟨s.time, s.step, s.shift - d, s.size, s.key⟩
def minS : Int → List Smp → Int
  | m, [] => m
  | m, s :: r => minS (if s.shift < m then s.shift else m) r
theorem minS_bd : ∀ {l : List Smp} {m : Int}, (∀ s ∈ l, badSmp s = false) → -1000000000 ≤ m → m ≤ 1000000000 → -1000000000 ≤ minS m l ∧ minS m l ≤ 1000000000
  | [], m, _, h1, h2 => ⟨h1, h2⟩
  | s :: r, m, h, h1, h2 => by
    have b := badSmp_bd (h s List.mem_cons_self)
    rw [minS]
    exact minS_bd (fun x hx => h x (List.mem_cons_of_mem _ hx)) (by split <;> omega) (by split <;> omega)
def tightBy (l : List Smp) : Int := minS (l.headD ⟨0, 0, 0, 0, false⟩).shift l
def tightL (l : List Smp) : List Smp := (l.map (Smp.late (tightBy l))).map (Smp.less (tightBy l))
def tightF (l : List Smp) : List Smp × Int × Int := if smpF l ≠ 0 then ([], 0, smpF l) else if l.length = 0 then ([], 0, 0) else if smpF (tightL l) ≠ 0 then ([], 0, smpF (tightL l)) else (tightL l, tightBy l, 0)
end Go.Proofs.Ytbdcnooafacldaa
