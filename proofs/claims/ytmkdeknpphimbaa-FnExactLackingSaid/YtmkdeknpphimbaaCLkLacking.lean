import Derived.Test.YtmkdeknpphimbaaCLkWkLacking
namespace Go.Proofs.Ytmkdeknpphimbaa.PFnExactLacking
open Go Go.RowKit Go.Proofs.YtmkdeknpphimbaaW.PrintWords Go.Proofs.YtmkdeknpphimbaaW.PrintLast Go.Proofs.YtmkdeknpphimbaaW.PrintMore Go.Proofs.Ytmkdeknpphimbaa.Ev
set_option linter.unusedVariables false
set_option linter.unusedSimpArgs false
abbrev en (xs : List S46) (i : Nat) : S46 := xs.getD i z46
def hit (xs : List S46) (p : ByteArray) (a b c : Int) (s : ByteArray) (i : Nat) : Bool :=
  decide ((en xs i).f0.toList = p.toList) && (((en xs i).f1.f0 == a && ((en xs i).f1.f1 == b && ((en xs i).f1.f2 == c && ((en xs i).f1.f3.toList == s.toList)))))
def fe (xs : List S46) (p : ByteArray) (a b c : Int) (s : ByteArray) : Int := fst (hit xs p a b c s) xs.length 0
theorem at15 (xs : List S46) (p : ByteArray) (a b c : Int) (s : ByteArray) (hl : xs.length ≤ 281474976710656) : Ev (fun k => spec_l15At.f k xs p a b c s) (fe xs p a b c s) := by
  refine find_loop (fun k i => spec_l15At.l0 k xs p i a b c s) xs.length (hit xs p a b c s) (fun k i hi => ?_) (fun i r hi hh hk => ?_) (fun i hi hh => ?_)
  · show spec_l15At.l0 (k + 1) xs p i a b c s = some (-1)
    simp only [spec_l15At.l0]
    rw [if_neg (by omega)]
  · have hw := wrapS hi hl
    refine Ev.step (f := ?f1) (fun k => ?e1) ?g1
    case e1 => (simp only [spec_l15At.l0]; rw [if_pos (by omega), if_pos (by omega), hw])
    case g1 =>
      by_cases h : (en xs i).f0.toList = p.toList
      · refine Ev.pos h (Ev.neg (fun e => ?_) hk)
        rw [hit, decide_eq_true h, Bool.true_and] at hh
        exact Bool.noConfusion (e.symm.trans hh)
      · exact Ev.neg h hk
  · refine Ev.step (f := ?f2) (fun k => ?e2) ?g2
    case e2 => (simp only [spec_l15At.l0]; rw [if_pos (by omega), if_pos (by omega)])
    case g2 =>
      have h := hh
      rw [hit, Bool.and_eq_true, decide_eq_true_eq] at h
      exact Ev.pos h.1 (Ev.pos h.2 (Ev.now _))
theorem findEntry (xs : List S46) (p : ByteArray) (a b c : Int) (s : ByteArray) (hl : xs.length ≤ 281474976710656) : Ev (fun k => impl_findEntry.f k xs p a b c s) (fe xs p a b c s) := by
  refine find_loop (fun k i => impl_findEntry.l0 k p xs xs.length i a b c s) xs.length (hit xs p a b c s) (fun k i hi => ?_) (fun i r hi hh hk => ?_) (fun i hi hh => ?_)
  · show impl_findEntry.l0 (k + 1) p xs xs.length i a b c s = some (-1)
    simp only [impl_findEntry.l0]
    rw [if_neg (by omega)]
  · have hw := wrapS hi hl
    refine Ev.step (f := ?f1) (fun k => ?e1) ?g1
    case e1 => (simp only [impl_findEntry.l0]; rw [if_pos (by omega), if_pos (by omega), if_pos (by omega), hw])
    case g1 =>
      by_cases h : (en xs i).f0.toList = p.toList
      · refine Ev.pos h (Ev.neg (fun e => ?_) hk)
        rw [hit, decide_eq_true h, Bool.true_and] at hh
        exact Bool.noConfusion (e.symm.trans hh)
      · exact Ev.neg h hk
  · refine Ev.step (f := ?f2) (fun k => ?e2) ?g2
    case e2 => (simp only [impl_findEntry.l0]; rw [if_pos (by omega), if_pos (by omega), if_pos (by omega)])
    case g2 =>
      have h := hh
      rw [hit, Bool.and_eq_true, decide_eq_true_eq] at h
      exact Ev.pos h.1 (Ev.pos h.2 (Ev.now _))
def lacks (es : List S46) (ns : List S78) : List S78 :=
  ((List.range ns.length).filter fun i => decide (fe es (ns.getD i z78).f0 (ns.getD i z78).f1.f0 (ns.getD i z78).f1.f1 (ns.getD i z78).f1.f2 (ns.getD i z78).f1.f3 < 0)).map fun i => ns.getD i z78
theorem spec (es : List S46) (ns : List S78) (he : es.length ≤ 281474976710656) (hn : ns.length ≤ 2513169434900) : Ev (fun k => spec_Lacking.f k es ns) (lacks es ns) := by
  refine filter_loop (fun k acc i => spec_Lacking.l0 k es ns acc i) ns.length _ (fun i => ns.getD i z78) (fun k acc i hi => ?_) (fun i acc r hi hacc hk hr => ?_) (fun i acc r hi hacc hk hr => ?_)
  · show spec_Lacking.l0 (k + 1) es ns acc i = some acc
    simp only [spec_Lacking.l0]
    rw [if_neg (by omega)]
  · have hw := wrapS hi (by omega)
    refine Ev.step (f := ?f1) (fun k => ?e1) ?g1
    case e1 => (simp only [spec_Lacking.l0]; rw [if_pos (by omega), if_pos (by omega), hw])
    case g1 => exact Ev.bind (at15 es _ _ _ _ _ he) (Ev.pos (of_decide_eq_true hk) (Ev.pos (by omega) hr))
  · have hw := wrapS hi (by omega)
    refine Ev.step (f := ?f2) (fun k => ?e2) ?g2
    case e2 => (simp only [spec_Lacking.l0]; rw [if_pos (by omega), if_pos (by omega), hw])
    case g2 => exact Ev.bind (at15 es _ _ _ _ _ he) (Ev.neg (of_decide_eq_false hk) hr)
theorem impl (es : List S46) (ns : List S78) (he : es.length ≤ 281474976710656) (hn : ns.length ≤ 2513169434900) : Ev (fun k => impl_Lacking.f k es ns) (lacks es ns) := by
  refine filter_loop (fun k acc i => impl_Lacking.l0 k es acc ns ns.length i) ns.length _ (fun i => ns.getD i z78) (fun k acc i hi => ?_) (fun i acc r hi hacc hk hr => ?_) (fun i acc r hi hacc hk hr => ?_)
  · show impl_Lacking.l0 (k + 1) es acc ns ns.length i = some acc
    simp only [impl_Lacking.l0]
    rw [if_neg (by omega)]
  · have hw := wrapS hi (by omega)
    refine Ev.step (f := ?f1) (fun k => ?e1) ?g1
    case e1 => (simp only [impl_Lacking.l0]; rw [if_pos (by omega), if_pos (by omega), if_pos (by omega), hw])
    case g1 => exact Ev.bind (findEntry es _ _ _ _ _ he) (Ev.pos (of_decide_eq_true hk) (Ev.pos (by omega) hr))
  · have hw := wrapS hi (by omega)
    refine Ev.step (f := ?f2) (fun k => ?e2) ?g2
    case e2 => (simp only [impl_Lacking.l0]; rw [if_pos (by omega), if_pos (by omega), if_pos (by omega), hw])
    case g2 => exact Ev.bind (findEntry es _ _ _ _ _ he) (Ev.neg (of_decide_eq_false hk) hr)
theorem lacks_length (es : List S46) (ns : List S78) : (lacks es ns).length ≤ ns.length := by
  unfold lacks
  rw [List.length_map]
  exact Nat.le_trans (List.length_filter_le _ _) (by simp)
theorem cnt_cv : ∀ l : List S72, cnt (l.map cvEntry) ≤ 5 * ((l.length : Int) + (l.map wtEntry).sum)
  | [] => by simp [cnt]
  | x :: l => by
    have ih := cnt_cv l
    have e : (cvEntry x).f2.length = x.f2.length := List.length_map _
    have h : x.f2.length ≤ wtEntry x := by unfold wtEntry; omega
    simp only [List.map_cons, cnt, List.length_cons, List.sum_cons, e]
    omega
theorem gl_at (l : List S72) (h : (∀ a ∈ l, gdEntry a) ∧ l.length * 80 ≤ 140737488351232) (i : Nat) : (el (l.map cvEntry) i).f2.length ≤ 281474976710656 := by
  by_cases hi : i < (l.map cvEntry).length
  · exact ((gl_EntryS l h).1 _ (getD_mem (z := z46) hi))
  · have e : el (l.map cvEntry) i = z46 := by
      simp only [el, List.getD_eq_getElem?_getD, List.getElem?_eq_none (by omega : (l.map cvEntry).length ≤ i), Option.getD_none]
    rw [e]
    exact Nat.zero_le _
theorem law (l0 : List S72) (l1 : List S75) (A0 A1 : Option Addr) (c0 c1 : Nat) (w : World) (hr0 : Kd.C k72 w A0 l0.length l0) (hc0 : l0.length ≤ c0) (hr1 : Kd.C k75 w A1 l1.length l1) (hc1 : l1.length ≤ c1)
    (h0 : (∀ a ∈ l0, gdEntry a) ∧ l0.length * 80 ≤ 140737488351232) (h1 : (∀ a ∈ l1, gdNeed a) ∧ l1.length * 56 ≤ 140737488351232) :
    Calls Try.prog 3 #[.slice A0 l0.length c0, .slice A1 l1.length c1] w fun e w' => e = .returned (.bool true) ∧ Below w.heap.size w w' := by
  obtain ⟨s1, q1, b1, w1⟩ := sz_EntryS l0 h0 1048576 (by omega) (by omega)
  obtain ⟨k1, e1⟩ := q1.rounds
  by_cases d1 : s1 < 0
  · exact big1 l0 l1 A0 A1 c0 c1 w hr0 hc0 hr1 hc1 k1 s1 e1 (decide_eq_true d1)
  obtain ⟨s2, q2, b2, w2⟩ := sz_NeedS l1 h1 s1 (by omega) (by omega)
  obtain ⟨k2, e2⟩ := q2.rounds
  by_cases d2 : s2 < 0
  · exact big2 l0 l1 A0 A1 c0 c1 w hr0 hc0 hr1 hc1 k1 k2 s1 s2 e1 (decide_eq_false d1) e2 (decide_eq_true d2)
  have hw1 := w1 (by omega)
  have hx0 : (l0.map cvEntry).length = l0.length := List.length_map _
  have hx1 : (l1.map cvNeed).length = l1.length := List.length_map _
  have hg := lacks_length (l0.map cvEntry) (l1.map cvNeed)
  have hcnt := cnt_cv l0
  have hcnt0 := cnt_nonneg (l0.map cvEntry)
  obtain ⟨k3, e3⟩ := (to_EntryS l0 h0).rounds
  obtain ⟨k4, e4⟩ := (to_NeedS l1 h1).rounds
  obtain ⟨k5, e5⟩ := (spec (l0.map cvEntry) (l1.map cvNeed) (by omega) (by omega)).rounds
  obtain ⟨k6, e6⟩ := (impl (l0.map cvEntry) (l1.map cvNeed) (by omega) (by omega)).rounds
  obtain ⟨k7, e7⟩ := (eq_NeedS (lacks (l0.map cvEntry) (l1.map cvNeed)) (by omega)).rounds
  obtain ⟨k8, e8⟩ := (eq_EntryS (l0.map cvEntry) (gl_EntryS l0 h0)).rounds
  obtain ⟨k9, e9⟩ := (eq_NeedS (l1.map cvNeed) (by omega)).rounds
  obtain ⟨k10, e10⟩ := (markNeedS (l1.map cvNeed) (by omega) (1 + cnt (l0.map cvEntry)) (by omega) (by omega)).rounds
  obtain ⟨k11, e11⟩ := (markNeedS (lacks (l0.map cvEntry) (l1.map cvNeed)) (by omega) 1 (by omega) (by omega)).rounds
  obtain ⟨k12, e12⟩ := (heldNeedS (lacks (l0.map cvEntry) (l1.map cvNeed)).length (by omega) 1 (by omega) (by omega)).rounds
  exact good l0 l1 A0 A1 c0 c1 w hr0 hc0 hr1 hc1 k1 k2 k3 k4 k5 k6 k7 k8 k9 k10 k11 k12 s1 s2 _ _ _ _ _ _ _ _ e1 e2 e3 e4 e5 e6 e7 e8 e9 e10 e11 e12 rfl (by omega) (by omega) (by simp) (fun i => gl_at l0 h0 i) (decide_eq_false d1) (decide_eq_false d2) (decide_eq_false (by omega)) (decide_eq_false (by omega))
end Go.Proofs.Ytmkdeknpphimbaa.PFnExactLacking
