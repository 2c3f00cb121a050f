/- The machine on data: the walk's rules again, as rules that the kernel does not unfold. -/
import Derived.Test.YtdfhpcghfmlfjaaDoorDmN
namespace Go.Proofs.YtdfhpcghfmlfjaaDoor
open Go.RowKit
section
variable {P : Program} {Q : PX → ASt → Prop} {k : List Itm} {st : ASt}
theorem n_g_skip : go P Q (.c .skip :: k) .normal st = go P Q k .normal st := Eq.trans rfl rfl
theorem n_g_ops (l : List POp) : go P Q (.c (.ops l) :: k) .normal st = go P Q (.o l :: k) .normal st := Eq.trans rfl rfl
theorem n_g_exit (id : Nat) : go P Q (.c (.exit id) :: k) .normal st = go P Q k (.exit id) st := Eq.trans rfl rfl
theorem n_g_ret : go P Q (.c .ret :: k) .normal st = go P Q k .ret st := Eq.trans rfl rfl
theorem n_x_c (i : Nat) (a : PCode) : go P Q (.c a :: k) (.exit i) st = go P Q k (.exit i) st := Eq.trans rfl rfl
theorem n_x_o (i : Nat) (l : List POp) : go P Q (.o l :: k) (.exit i) st = go P Q k (.exit i) st := Eq.trans rfl rfl
theorem n_x_l (i m : Nat) (J : ASt → Nat → Prop) : go P Q (.l J m :: k) (.exit i) st = go P Q k (.exit i) st := Eq.trans rfl rfl
theorem n_x_b (i j : Nat) : go P Q (.b j :: k) (.exit i) st = if i = j then go P Q k .normal st else go P Q k (.exit i) st := Eq.trans rfl rfl
theorem n_g_b (j : Nat) : go P Q (.b j :: k) .normal st = go P Q k .normal st := Eq.trans rfl rfl
theorem n_g_nil (x : PX) : go P Q [] x st = Q x st := Eq.trans rfl rfl
theorem n_o_nil : go P Q (.o [] :: k) .normal st = go P Q k .normal st := Eq.trans rfl rfl
theorem n_o_eqnil (d : Nat) (n : Bool) (x : Opd) (l : List POp) : go P Q (.o (⟨d, .eqnil n x, none⟩ :: l) :: k) .normal st = NilV P Q d n l k st (rowOf st (view st x)) := Eq.trans rfl rfl
theorem n_lk (d : Nat) (l : List POp) (p : Prop) (v : AV) : Lk P Q d l k st (p, v) = ((st d).isHome = false ∧ p ∧ go P Q (.o l :: k) .normal (st.put d v)) := Eq.trans rfl rfl
theorem n_ef (l : List POp) (p : Prop) (s : ASt) : Ef P Q l k (p, s) = (p ∧ go P Q (.o l :: k) .normal s) := Eq.trans rfl rfl
theorem n_o_mv (d : Nat) (x : Opd) (l : List POp) : go P Q (.o (⟨d, .mv x, none⟩ :: l) :: k) .normal st = Lk P Q d l k st (hv st (.mv x)) := Eq.trans rfl rfl
theorem n_o_pick (d : Nat) (c a b : Opd) (l : List POp) : go P Q (.o (⟨d, .pick c a b, none⟩ :: l) :: k) .normal st = Lk P Q d l k st (hv st (.pick c a b)) := Eq.trans rfl rfl
theorem n_o_bin (d : Nat) (op : BinOp) (x y : Opd) (l : List POp) : go P Q (.o (⟨d, .bin op x y, none⟩ :: l) :: k) .normal st = Lk P Q d l k st (hv st (.bin op x y)) := Eq.trans rfl rfl
theorem n_o_eqs (d : Nat) (n : Bool) (ks : List Nat) (x y : Opd) (l : List POp) : go P Q (.o (⟨d, .eqs n ks x y, none⟩ :: l) :: k) .normal st = Lk P Q d l k st (hv st (.eqs n ks x y)) := Eq.trans rfl rfl
theorem n_o_eqb (d : Nat) (n : Bool) (x y : Opd) (l : List POp) : go P Q (.o (⟨d, .eqb n x y, none⟩ :: l) :: k) .normal st = Lk P Q d l k st (hv st (.eqb n x y)) := Eq.trans rfl rfl
theorem n_o_never (d : Nat) (l : List POp) : go P Q (.o (⟨d, .never, none⟩ :: l) :: k) .normal st = ((st d).isHome = false ∧ False ∧ go P Q (.o l :: k) .normal (st.put d .junk)) := Eq.trans rfl rfl
theorem n_o_un (d : Nat) (op : UnOp) (x : Opd) (l : List POp) : go P Q (.o (⟨d, .un op x, none⟩ :: l) :: k) .normal st = Lk P Q d l k st (hv st (.un op x)) := Eq.trans rfl rfl
theorem n_o_conv (d : Nat) (q : IntKind) (x : Opd) (l : List POp) : go P Q (.o (⟨d, .conv q x, none⟩ :: l) :: k) .normal st = Lk P Q d l k st (hv st (.conv q x)) := Eq.trans rfl rfl
theorem n_o_load (d : Nat) (x : Opd) (l : List POp) : go P Q (.o (⟨d, .load x, none⟩ :: l) :: k) .normal st = Lk P Q d l k st (hv st (.load x)) := Eq.trans rfl rfl
theorem n_o_loadr (d : Nat) (x : Opd) (l : List POp) : go P Q (.o (⟨d, .loadr x, none⟩ :: l) :: k) .normal st = Lk P Q d l k st (hv st (.loadr x)) := Eq.trans rfl rfl
theorem n_o_idxr (d : Nat) (m : Nat) (x i : Opd) (l : List POp) : go P Q (.o (⟨d, .idxr m x i, none⟩ :: l) :: k) .normal st = Lk P Q d l k st (hv st (.idxr m x i)) := Eq.trans rfl rfl
theorem n_o_loads (d : Nat) (j : Nat) (x : Opd) (l : List POp) : go P Q (.o (⟨d, .loads j x, none⟩ :: l) :: k) .normal st = Lk P Q d l k st (hv st (.loads j x)) := Eq.trans rfl rfl
theorem n_o_fld (d : Nat) (j : Nat) (x : Opd) (l : List POp) : go P Q (.o (⟨d, .fld j x, none⟩ :: l) :: k) .normal st = Lk P Q d l k st (hv st (.fld j x)) := Eq.trans rfl rfl
theorem n_o_idx (d : Nat) (m : Nat) (x i : Opd) (l : List POp) : go P Q (.o (⟨d, .idx m x i, none⟩ :: l) :: k) .normal st = Lk P Q d l k st (hv st (.idx m x i)) := Eq.trans rfl rfl
theorem n_o_idxs (d : Nat) (x i : Opd) (l : List POp) : go P Q (.o (⟨d, .idxs x i, none⟩ :: l) :: k) .normal st = Lk P Q d l k st (hv st (.idxs x i)) := Eq.trans rfl rfl
theorem n_o_len (d : Nat) (x : Opd) (l : List POp) : go P Q (.o (⟨d, .len x, none⟩ :: l) :: k) .normal st = Lk P Q d l k st (hv st (.len x)) := Eq.trans rfl rfl
theorem n_o_lens (d : Nat) (x : Opd) (l : List POp) : go P Q (.o (⟨d, .lens x, none⟩ :: l) :: k) .normal st = Lk P Q d l k st (hv st (.lens x)) := Eq.trans rfl rfl
theorem n_o_ext (d : Nat) (j : Nat) (x : Opd) (l : List POp) : go P Q (.o (⟨d, .ext j x, none⟩ :: l) :: k) .normal st = Lk P Q d l k st (hv st (.ext j x)) := Eq.trans rfl rfl
theorem n_o_nilck (d : Nat) (x : Opd) (l : List POp) : go P Q (.o (⟨d, .nilck x, none⟩ :: l) :: k) .normal st = Lk P Q d l k st (hv st (.nilck x)) := Eq.trans rfl rfl
theorem n_o_slc (d : Nat) (lo hi : Option Opd) (m : Nat) (x : Opd) (l : List POp) : go P Q (.o (⟨d, .slc lo hi m x, none⟩ :: l) :: k) .normal st = Lk P Q d l k st (hv st (.slc lo hi m x)) := Eq.trans rfl rfl
theorem n_o_slcs (d : Nat) (lo hi : Option Opd) (x : Opd) (l : List POp) : go P Q (.o (⟨d, .slcs lo hi x, none⟩ :: l) :: k) .normal st = Lk P Q d l k st (hv st (.slcs lo hi x)) := Eq.trans rfl rfl
theorem n_o_build (d : Nat) (z : List Value) (ps : List (Nat × Nat × Opd)) (l : List POp) : go P Q (.o (⟨d, .build z ps, none⟩ :: l) :: k) .normal st = Lk P Q d l k st (hv st (.build z ps)) := Eq.trans rfl rfl
theorem n_o_minmax (d : Nat) (b : Bool) (x y : Opd) (l : List POp) : go P Q (.o (⟨d, .minmax b x y, none⟩ :: l) :: k) .normal st = Lk P Q d l k st (hv st (.minmax b x y)) := Eq.trans rfl rfl
theorem n_o_mkfn (d : Nat) (f : Nat) (cs : List Nat) (l : List POp) : go P Q (.o (⟨d, .mkfn f cs, none⟩ :: l) :: k) .normal st = Lk P Q d l k st (hv st (.mkfn f cs)) := Eq.trans rfl rfl
theorem n_o_alloc (d : Nat) (z : List Value) (l : List POp) : go P Q (.o (⟨d, .alloc z, none⟩ :: l) :: k) .normal st = Lk P Q d l k st (hv st (.alloc z)) := Eq.trans rfl rfl
theorem n_o_box (d : Nat) (x : Opd) (l : List POp) : go P Q (.o (⟨d, .box x, none⟩ :: l) :: k) .normal st = Lk P Q d l k st (hv st (.box x)) := Eq.trans rfl rfl
theorem n_o_boxs (d : Nat) (x : Opd) (l : List POp) : go P Q (.o (⟨d, .boxs x, none⟩ :: l) :: k) .normal st = Lk P Q d l k st (hv st (.boxs x)) := Eq.trans rfl rfl
theorem n_o_row (d : Nat) (e m : Nat) (ps : List Opd) (l : List POp) : go P Q (.o (⟨d, .row e m ps, none⟩ :: l) :: k) .normal st = Lk P Q d l k st (hv st (.row e m ps)) := Eq.trans rfl rfl
theorem n_o_rowr (d : Nat) (e m : Nat) (ps : List Opd) (l : List POp) : go P Q (.o (⟨d, .rowr e m ps, none⟩ :: l) :: k) .normal st = Lk P Q d l k st (hv st (.rowr e m ps)) := Eq.trans rfl rfl
theorem n_o_mk (d : Nat) (e m b : Nat) (z : List Value) (x y : Opd) (l : List POp) : go P Q (.o (⟨d, .mk e m b z x y, none⟩ :: l) :: k) .normal st = Lk P Q d l k st (hv st (.mk e m b z x y)) := Eq.trans rfl rfl
theorem n_o_asg (d : Nat) (x : Opd) (l : List POp) : go P Q (.o (⟨d, .asg x, none⟩ :: l) :: k) .normal st = Ef P Q l k (ev st d (.asg x)) := Eq.trans rfl rfl
theorem n_o_app (d : Nat) (e m b : Nat) (x y : Opd) (l : List POp) : go P Q (.o (⟨d, .app e m b x y, none⟩ :: l) :: k) .normal st = Ef P Q l k (ev st d (.app e m b x y)) := Eq.trans rfl rfl
theorem n_o_store (d : Nat) (x y : Opd) (l : List POp) : go P Q (.o (⟨d, .store x y, none⟩ :: l) :: k) .normal st = Ef P Q l k (ev st d (.store x y)) := Eq.trans rfl rfl
theorem n_o_stores (d : Nat) (j : Nat) (x y : Opd) (l : List POp) : go P Q (.o (⟨d, .stores j x y, none⟩ :: l) :: k) .normal st = Ef P Q l k (ev st d (.stores j x y)) := Eq.trans rfl rfl
end
end Go.Proofs.YtdfhpcghfmlfjaaDoor
