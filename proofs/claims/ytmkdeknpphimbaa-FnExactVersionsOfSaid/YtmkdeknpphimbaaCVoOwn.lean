import Derived.Test.YtmkdeknpphimbaaCVoWMore
namespace Go.Proofs.Ytmkdeknpphimbaa.Own
open Go Go.RowKit Go.Proofs.YtmkdeknpphimbaaW.PrintWords Go.Proofs.YtmkdeknpphimbaaW.PrintLast Go.Proofs.YtmkdeknpphimbaaW.PrintMore
set_option linter.unusedVariables false
set_option linter.unusedSimpArgs false
def In (lo hi : Nat) : Nat → Prop := fun k => lo ≤ k ∧ k < hi
section
variable {α : Type} {d : Kd α} {e : Nat} {w w1 W : World} {lo hi lo' hi' : Nat} {v : Value} {xs ys : List α}
theorem drawn {w w' : World} (h : Drawn0 w w') : Below w.heap.size w w' := by
  obtain ⟨n, rfl⟩ := h.out
  exact pw_below_drewN (Below.refl _ _) n
theorem R_mk (hb : Below W.heap.size W w) (h : d.R e w1 w.heap.size (fun _ => True) v xs) : d.R e w1 W.heap.size (In w.heap.size w1.heap.size) v xs :=
  Kd.R_lower (Kd.R_mono (Kd.R_bound h) (fun k hk => ⟨hk.2.1, hk.2.2.1⟩)) hb.size
theorem S_mk (hb : Below W.heap.size W w) (h : Kd.S d e w1 w.heap.size (fun _ => True) v xs) : Kd.S d e w1 W.heap.size (In w.heap.size w1.heap.size) v xs :=
  Kd.S_lower (Kd.S_mono (Kd.S_bound h) (fun k hk => ⟨hk.2.1, hk.2.2.1⟩)) hb.size
theorem R_keep (h : d.R e w W.heap.size (In lo hi) v xs) (hk : Kept w w1 (In lo' hi')) (hd : hi ≤ lo' ∨ hi' ≤ lo) : d.R e w1 W.heap.size (In lo hi) v xs :=
  Kd.R_kept h hk (fun k h1 h2 => by have a := h1.1; have b := h1.2; have c := h2.1; have d := h2.2; omega)
theorem S_keep (h : Kd.S d e w W.heap.size (In lo hi) v xs) (hk : Kept w w1 (In lo' hi')) (hd : hi ≤ lo' ∨ hi' ≤ lo) : Kd.S d e w1 W.heap.size (In lo hi) v xs :=
  Kd.S_kept h hk (fun k h1 h2 => by have a := h1.1; have b := h1.2; have c := h2.1; have d := h2.2; omega)
theorem R_marked (hE : d.E = []) (h : d.R e w W.heap.size (In lo hi) v xs) (h1 : d.R e w1 W.heap.size (fun k => In lo hi k ∨ w.heap.size ≤ k) v ys) : d.R e w1 W.heap.size (In lo hi) v ys :=
  Kd.R_reok hE h1 (fun k hk => h.1 k hk)
end
end Go.Proofs.Ytmkdeknpphimbaa.Own
