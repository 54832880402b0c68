import Derived.Test.YtmkdeknpphimbaaDoorCClClosedClo
import Derived.Test.YtmkdeknpphimbaaDoorCClEFnExactClosed
namespace Go.Proofs.YtmkdeknpphimbaaDoor.PFnExactClosed
open Go Go.RowKit Go.Proofs.YtmkdeknpphimbaaDoorW.PrintWords Go.Proofs.YtmkdeknpphimbaaDoorW.PrintLast Go.Proofs.YtmkdeknpphimbaaDoorW.PrintMore Go.Proofs.YtmkdeknpphimbaaDoor.Ev Go.Proofs.YtmkdeknpphimbaaDoor.Str Go.Proofs.YtmkdeknpphimbaaDoor.Num
set_option linter.unusedVariables false
set_option linter.unusedSimpArgs false
theorem sum_ge {α : Type} (f : α → Nat) : ∀ {l : List α} {a : α}, a ∈ l → f a ≤ (l.map f).sum
  | b :: l, a, h => by
    rcases List.mem_cons.1 h with rfl | h
    · simp only [List.map_cons, List.sum_cons]; omega
    · have := sum_ge f h
      simp only [List.map_cons, List.sum_cons]; omega
theorem short_of (l : List S53) (n : Nat) (hn : n ≤ 1048576) (h : l.length + (l.map wtNeed).sum ≤ n) : shortN (l.map cvNeed) := by
  refine ⟨fun x hx => ?_, by rw [List.length_map]; omega⟩
  obtain ⟨y, hy, rfl⟩ := List.mem_map.1 hx
  have := sum_ge wtNeed hy
  have h2 : y.f1.f3.size ≤ wtNeed y := by unfold wtNeed; omega
  show y.f1.f3.size ≤ _
  omega
theorem shortE_of (l : List S67) (n : Nat) (hn : n ≤ 1048576) (h : l.length + (l.map wtEntry).sum ≤ n) : shortE (l.map cvEntry) := by
  refine ⟨fun x hx => ?_, by rw [List.length_map]; omega⟩
  obtain ⟨y, hy, rfl⟩ := List.mem_map.1 hx
  have := sum_ge wtEntry hy
  have h2 : y.f2.length + (y.f2.map wtNeed).sum ≤ wtEntry y := by unfold wtEntry; omega
  exact short_of y.f2 n hn (by omega)
theorem law_ev (l0 : List S67) (l1 : List S53) (h0 : (∀ a ∈ l0, gdEntry a) ∧ l0.length * 80 ≤ 140737488351232) (h1 : (∀ a ∈ l1, gdNeed a) ∧ l1.length * 56 ≤ 140737488351232) : Ev (fun k => laws_FnExactClosed.f k l0 l1) true := by
  obtain ⟨s1, q1, b1, w1⟩ := sz_EntryS l0 h0 1048576 (by omega) (by omega)
  refine Ev.bind q1 ?_
  by_cases d1 : s1 < 0
  · exact Ev.pos d1 (Ev.now _)
  refine Ev.neg d1 ?_
  obtain ⟨s2, q2, b2, w2⟩ := sz_NeedS l1 h1 s1 (by omega) (by omega)
  refine Ev.bind q2 ?_
  by_cases d2 : s2 < 0
  · exact Ev.pos d2 (Ev.now _)
  refine Ev.neg d2 ?_
  have hw1 := w1 (by omega)
  have hw2 := w2 (by omega)
  have x0 := shortE_of l0 1048576 (by omega) (by omega)
  have x1 := short_of l1 1048576 (by omega) (by omega)
  have t0 := to_EntryS l0 h0
  have t1 := to_NeedS l1 h1
  refine Ev.bind t0 (Ev.bind t1 (Ev.bind (closedS _ _ x0 x1) (Ev.bind t0 (Ev.bind t1 (Ev.bind (closedI _ _ x0 x1) ?_)))))
  refine Ev.neg (by simp) (Ev.bind t0 (Ev.bind (eq_EntryS _ (gl_EntryS l0 h0)) (Ev.pos rfl (Ev.bind t1 (Ev.bind (eq_NeedS _ (by have := x1.2; omega)) (Ev.pos rfl (Ev.now _)))))))
theorem law (l0 : List S67) (l1 : List S53) (A0 A1 : Option Addr) (c0 c1 : Nat) (w : World) (hr0 : Kd.C k67 w A0 l0.length l0) (hc0 : l0.length ≤ c0) (hr1 : Kd.C k53 w A1 l1.length l1) (hc1 : l1.length ≤ c1)
    (h0 : (∀ a ∈ l0, gdEntry a) ∧ l0.length * 80 ≤ 140737488351232) (h1 : (∀ a ∈ l1, gdNeed a) ∧ l1.length * 56 ≤ 140737488351232) :
    Calls Tryd.prog 5 #[.slice A0 l0.length c0, .slice A1 l1.length c1] w fun e w' => e = .returned (.bool true) ∧ Below w.heap.size w w' := by
  obtain ⟨k, h⟩ := (law_ev l0 l1 h0 h1).rounds
  exact laws_FnExactClosed.calls k A0 c0 l0 A1 c1 l1 true w hr0 hc0 hr1 hc1 h
end Go.Proofs.YtmkdeknpphimbaaDoor.PFnExactClosed
