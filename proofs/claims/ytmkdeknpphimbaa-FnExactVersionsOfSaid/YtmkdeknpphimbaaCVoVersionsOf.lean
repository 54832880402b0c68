import Derived.Test.YtmkdeknpphimbaaCVoWkVersionsOf
namespace Go.Proofs.Ytmkdeknpphimbaa.PFnExactVersionsOf
open Go Go.RowKit Go.Proofs.YtmkdeknpphimbaaW.PrintWords Go.Proofs.YtmkdeknpphimbaaW.PrintLast Go.Proofs.YtmkdeknpphimbaaW.PrintMore Go.Proofs.Ytmkdeknpphimbaa.Ev
set_option linter.unusedVariables false
set_option linter.unusedSimpArgs false
abbrev en (xs : List S46) (i : Nat) : S46 := xs.getD i z46
def vers (es : List S46) (p : ByteArray) : List S44 :=
  ((List.range es.length).filter fun i => decide ((en es i).f0.toList = p.toList)).map fun i => (en es i).f1
theorem spec (es : List S46) (p : ByteArray) (he : es.length ≤ 1759218604441) : Ev (fun k => spec_VersionsOf.f k es p) (vers es p) := by
  refine filter_loop (fun k acc i => spec_VersionsOf.l0 k es p acc i) es.length _ (fun i => (en es i).f1) (fun k acc i hi => ?_) (fun i acc r hi hacc hk hr => ?_) (fun i acc r hi hacc hk hr => ?_)
  · show spec_VersionsOf.l0 (k + 1) es p acc i = some acc
    simp only [spec_VersionsOf.l0]
    rw [if_neg (by omega)]
  · have hw := wrapS hi (by omega)
    refine Ev.step (f := ?f1) (fun k => ?e1) ?g1
    case e1 => (simp only [spec_VersionsOf.l0]; rw [if_pos (by omega), if_pos (by omega), hw])
    case g1 => exact Ev.pos (of_decide_eq_true hk) (Ev.pos (by omega) hr)
  · have hw := wrapS hi (by omega)
    refine Ev.step (f := ?f2) (fun k => ?e2) ?g2
    case e2 => (simp only [spec_VersionsOf.l0]; rw [if_pos (by omega), if_pos (by omega), hw])
    case g2 => exact Ev.neg (of_decide_eq_false hk) hr
theorem impl (es : List S46) (p : ByteArray) (he : es.length ≤ 1759218604441) : Ev (fun k => impl_VersionsOf.f k es p) (vers es p) := by
  refine filter_loop (fun k acc i => impl_VersionsOf.l0 k p acc es es.length i) es.length _ (fun i => (en es i).f1) (fun k acc i hi => ?_) (fun i acc r hi hacc hk hr => ?_) (fun i acc r hi hacc hk hr => ?_)
  · show impl_VersionsOf.l0 (k + 1) p acc es es.length i = some acc
    simp only [impl_VersionsOf.l0]
    rw [if_neg (by omega)]
  · have hw := wrapS hi (by omega)
    refine Ev.step (f := ?f1) (fun k => ?e1) ?g1
    case e1 => (simp only [impl_VersionsOf.l0]; rw [if_pos (by omega), if_pos (by omega), if_pos (by omega), hw])
    case g1 => exact Ev.pos (of_decide_eq_true hk) (Ev.pos (by omega) hr)
  · have hw := wrapS hi (by omega)
    refine Ev.step (f := ?f2) (fun k => ?e2) ?g2
    case e2 => (simp only [impl_VersionsOf.l0]; rw [if_pos (by omega), if_pos (by omega), if_pos (by omega), hw])
    case g2 => exact Ev.neg (of_decide_eq_false hk) hr
theorem vers_length (es : List S46) (p : ByteArray) : (vers es p).length ≤ es.length := by
  unfold vers
  rw [List.length_map]
  exact Nat.le_trans (List.length_filter_le _ _) (by simp)
theorem cnt_cv : ∀ l : List S72, cnt (l.map cvEntry) ≤ 5 * ((l.length : Int) + (l.map wtEntry).sum)
  | [] => by simp [cnt]
  | x :: l => by
    have ih := cnt_cv l
    have e : (cvEntry x).f2.length = x.f2.length := List.length_map _
    have h : x.f2.length ≤ wtEntry x := by unfold wtEntry; omega
    simp only [List.map_cons, cnt, List.length_cons, List.sum_cons, e]
    omega
theorem gl_at (l : List S72) (h : (∀ a ∈ l, gdEntry a) ∧ l.length * 80 ≤ 140737488351232) (i : Nat) : (el (l.map cvEntry) i).f2.length ≤ 281474976710656 := by
  by_cases hi : i < (l.map cvEntry).length
  · exact ((gl_EntryS l h).1 _ (getD_mem (z := z46) hi))
  · have e : el (l.map cvEntry) i = z46 := by
      simp only [el, List.getD_eq_getElem?_getD, List.getElem?_eq_none (by omega : (l.map cvEntry).length ≤ i), Option.getD_none]
    rw [e]
    exact Nat.zero_le _
theorem law (l0 : List S72) (b : ByteArray) (A0 : Option Addr) (c0 : Nat) (w : World) (hr0 : Kd.C k72 w A0 l0.length l0) (hc0 : l0.length ≤ c0)
    (h0 : (∀ a ∈ l0, gdEntry a) ∧ l0.length * 80 ≤ 140737488351232) (_ : b.size ≤ 140737488351232) :
    Calls Try.prog 4 #[.slice A0 l0.length c0, .string b] w fun e w' => e = .returned (.bool true) ∧ Below w.heap.size w w' := by
  by_cases d0 : (1048576 : Int) < (b.size : Int)
  · exact big0 l0 A0 c0 b w hr0 hc0 (decide_eq_true d0)
  obtain ⟨s1, q1, b1, w1⟩ := sz_EntryS l0 h0 1048576 (by omega) (by omega)
  obtain ⟨k1, e1⟩ := q1.rounds
  by_cases d1 : s1 < 0
  · exact big1 l0 A0 c0 b w hr0 hc0 k1 s1 (decide_eq_false d0) e1 (decide_eq_true d1)
  have hw1 := w1 (by omega)
  have hx0 : (l0.map cvEntry).length = l0.length := List.length_map _
  have hg := vers_length (l0.map cvEntry) b
  have hcnt := cnt_cv l0
  have hcnt0 := cnt_nonneg (l0.map cvEntry)
  obtain ⟨k3, e3⟩ := (to_EntryS l0 h0).rounds
  obtain ⟨k5, e5⟩ := (spec (l0.map cvEntry) b (by omega)).rounds
  obtain ⟨k6, e6⟩ := (impl (l0.map cvEntry) b (by omega)).rounds
  obtain ⟨k7, e7⟩ := (eq_VersionS (vers (l0.map cvEntry) b) (by omega)).rounds
  obtain ⟨k8, e8⟩ := (eq_EntryS (l0.map cvEntry) (gl_EntryS l0 h0)).rounds
  obtain ⟨k11, e11⟩ := (markVersionS (vers (l0.map cvEntry) b) (by omega) 1 (by omega) (by omega)).rounds
  obtain ⟨k12, e12⟩ := (heldVersionS (vers (l0.map cvEntry) b).length (by omega) 1 (by omega) (by omega)).rounds
  exact good l0 A0 c0 b w hr0 hc0 k1 k3 k5 k6 k7 k8 k11 k12 s1 _ _ _ _ _ e1 e3 e5 e6 e7 e8 e11 e12 rfl (by omega) (by omega) (by simp) (fun i => gl_at l0 h0 i) (decide_eq_false d0) (decide_eq_false d1) (decide_eq_false (by omega)) (decide_eq_false (by omega))
end Go.Proofs.Ytmkdeknpphimbaa.PFnExactVersionsOf
