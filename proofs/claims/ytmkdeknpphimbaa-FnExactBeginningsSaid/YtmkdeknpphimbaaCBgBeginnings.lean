import Derived.Test.YtmkdeknpphimbaaCBgEFnExactBeginnings
import Derived.Test.YtmkdeknpphimbaaCBgPFnExactBeginningsx
namespace Go.Proofs.Ytmkdeknpphimbaa.PFnExactBeginnings
open Go Go.RowKit Go.Proofs.YtmkdeknpphimbaaW.PrintWords Go.Proofs.YtmkdeknpphimbaaW.PrintLast Go.Proofs.YtmkdeknpphimbaaW.PrintMore Go.Proofs.Ytmkdeknpphimbaa.Ev
set_option linter.unusedVariables false
set_option linter.unusedSimpArgs false
theorem same8 (x y : List ByteArray) (hx : x.length ≤ 281474976710656) : Ev (fun k => spec_l8Same.f k x y) (decide (x = y)) := by
  unfold spec_l8Same.f
  by_cases hl : x.length = y.length
  · refine Ev.pos (by omega) ?_
    have h := bool_loop (fun k i => spec_l8Same.l0 k x y i) (fun _ => some true) x.length (fun i => x.getD i ByteArray.empty = y.getD i ByteArray.empty) false (fun k i hi => by simp only [spec_l8Same.l0]; rw [if_neg (by omega)]) (Ev.now _) (fun i r hi hp hk => ?_) (fun i hi hp => ?_) 0 (Nat.zero_le _)
    · by_cases e : x = y
      · rw [decide_eq_true e]
        exact h.1 ((list_eq_iff hl).2 e)
      · rw [decide_eq_false e]
        exact h.2 (fun h' => e ((list_eq_iff hl).1 h'))
    · have hw := wrapS hi (by omega)
      refine Ev.step (f := ?f1) (fun k => ?e1) ?g1
      case e1 => (simp only [spec_l8Same.l0]; rw [if_pos (by omega), if_pos (by omega), if_pos (by omega), hw])
      case g1 => exact Ev.pos (congrArg ByteArray.toList hp) hk
    · refine Ev.step (f := ?f2) (fun k => ?e2) ?g2
      case e2 => (simp only [spec_l8Same.l0]; rw [if_pos (by omega), if_pos (by omega), if_pos (by omega)])
      case g2 => exact Ev.neg (fun e => hp (arr_eq e)) (Ev.now _)
  · refine Ev.neg (by omega) ?_
    rw [decide_eq_false (fun e : x = y => hl (by rw [e]))]
    exact Ev.now _
theorem equal (x y : List ByteArray) (hx : x.length ≤ 281474976710656) : Ev (fun k => slices_Equal_string_string.f k x y) (decide (x = y)) := by
  unfold slices_Equal_string_string.f
  by_cases hl : x.length = y.length
  · refine Ev.pos (by omega) ?_
    have h := bool_loop (fun k i => slices_Equal_string_string.l0 k x y x.length i) (fun _ => some true) x.length (fun i => x.getD i ByteArray.empty = y.getD i ByteArray.empty) false (fun k i hi => by simp only [slices_Equal_string_string.l0]; rw [if_neg (by omega)]) (Ev.now _) (fun i r hi hp hk => ?_) (fun i hi hp => ?_) 0 (Nat.zero_le _)
    · by_cases e : x = y
      · rw [decide_eq_true e]
        exact h.1 ((list_eq_iff hl).2 e)
      · rw [decide_eq_false e]
        exact h.2 (fun h' => e ((list_eq_iff hl).1 h'))
    · have hw := wrapS hi (by omega)
      refine Ev.step (f := ?f1) (fun k => ?e1) ?g1
      case e1 => (simp only [slices_Equal_string_string.l0]; rw [if_pos (by omega), if_pos (by omega), if_pos (by omega), if_pos (by omega), hw])
      case g1 => exact Ev.pos (congrArg ByteArray.toList hp) hk
    · refine Ev.step (f := ?f2) (fun k => ?e2) ?g2
      case e2 => (simp only [slices_Equal_string_string.l0]; rw [if_pos (by omega), if_pos (by omega), if_pos (by omega), if_pos (by omega)])
      case g2 => exact Ev.neg (fun e => hp (arr_eq e)) (Ev.now _)
  · refine Ev.neg (by omega) ?_
    rw [decide_eq_false (fun e : x = y => hl (by rw [e]))]
    exact Ev.now _
theorem begins (x y : List ByteArray) (hx : x.length ≤ 281474976710656) : Ev (fun k => spec_l20Begins.f k x y) (decide (x = y.take x.length)) := by
  unfold spec_l20Begins.f
  by_cases hl : x.length ≤ y.length
  · refine Ev.pos (by omega) (Ev.pos (by omega) (Ev.bind (same8 _ _ hx) ?_))
    rw [Int.toNat_natCast]
    exact Ev.now _
  · refine Ev.neg (by omega) ?_
    rw [decide_eq_false (fun e => by have := congrArg List.length e; rw [List.length_take] at this; omega)]
    exact Ev.now _
theorem isBeginning (x y : List ByteArray) (hx : x.length ≤ 281474976710656) : Ev (fun k => impl_isBeginning.f k x y) (decide (x = y.take x.length)) := by
  unfold impl_isBeginning.f
  by_cases hl : x.length ≤ y.length
  · refine Ev.pos (by omega) (Ev.pos (by omega) (Ev.bind (equal _ _ hx) ?_))
    rw [Int.toNat_natCast]
    exact Ev.now _
  · refine Ev.neg (by omega) ?_
    rw [decide_eq_false (fun e => by have := congrArg List.length e; rw [List.length_take] at this; omega)]
    exact Ev.now _
abbrev tx (l : List S110) (i : Nat) : List ByteArray := (l.getD i z110).f1.f0.f0
theorem same (a0 : List ByteArray) (a1 : List S91) (a2 : List S110) (a3 : List Int) (a4 : List S128) (h1 : a1.length ≤ 281474976710656) (h2 : (∀ x ∈ a2, glMirror x) ∧ a2.length ≤ 281474976710656) :
    ∃ b, Ev (fun k => spec_Beginnings.f k a0 a1 a2 a3 a4) b ∧ Ev (fun k => impl_Beginnings.f k a0 a1 a2 a3 a4) b := by
  have hb : ∀ i, i < a2.length → (tx a2 i).length ≤ 281474976710656 := fun i hi => (h2.1 _ (getD_mem (z := z110) hi)).1
  have hs := bool_loop (fun k i => spec_Beginnings.l0 k i a0 a1 a2 a3 a4) (fun _ => some true) a2.length (fun i => tx a2 i = a0.take (tx a2 i).length) false (fun k i hi => ?_) (Ev.now _) (fun i r hi hp hk => ?_) (fun i hi hp => ?_) 0 (Nat.zero_le _)
  rotate_left
  · show spec_Beginnings.l0 (k + 1) i a0 a1 a2 a3 a4 = some true
    simp only [spec_Beginnings.l0]
    rw [if_neg (by omega)]
  · have hw := wrapS hi h2.2
    refine Ev.step (f := ?f1) (fun k => ?e1) ?g1
    case e1 => (simp only [spec_Beginnings.l0]; rw [if_pos (by omega), if_pos (by omega), hw])
    case g1 => exact Ev.bind (begins _ _ (hb i hi)) (Ev.pos (decide_eq_true hp) hk)
  · refine Ev.step (f := ?f2) (fun k => ?e2) ?g2
    case e2 => (simp only [spec_Beginnings.l0]; rw [if_pos (by omega), if_pos (by omega)])
    case g2 => exact Ev.bind (begins _ _ (hb i hi)) (Ev.neg (fun e => hp (of_decide_eq_true e)) (Ev.now _))
  have hi := bool_loop (fun k i => impl_Beginnings.l0 k a2 a2.length i a0 a1 a2 a3 a4) (fun _ => some true) a2.length (fun i => tx a2 i = a0.take (tx a2 i).length) false (fun k i hi => ?_) (Ev.now _) (fun i r hi hp hk => ?_) (fun i hi hp => ?_) 0 (Nat.zero_le _)
  rotate_left
  · show impl_Beginnings.l0 (k + 1) a2 a2.length i a0 a1 a2 a3 a4 = some true
    simp only [impl_Beginnings.l0]
    rw [if_neg (by omega)]
  · have hw := wrapS hi h2.2
    refine Ev.step (f := ?f3) (fun k => ?e3) ?g3
    case e3 => (simp only [impl_Beginnings.l0]; rw [if_pos (by omega), if_pos (by omega), if_pos (by omega), hw])
    case g3 => exact Ev.bind (isBeginning _ _ (hb i hi)) (Ev.pos (decide_eq_true hp) hk)
  · refine Ev.step (f := ?f4) (fun k => ?e4) ?g4
    case e4 => (simp only [impl_Beginnings.l0]; rw [if_pos (by omega), if_pos (by omega), if_pos (by omega)])
    case g4 => exact Ev.bind (isBeginning _ _ (hb i hi)) (Ev.neg (fun e => hp (of_decide_eq_true e)) (Ev.now _))
  by_cases h : ∀ i, 0 ≤ i → i < a2.length → tx a2 i = a0.take (tx a2 i).length
  · exact ⟨true, hs.1 h, hi.1 h⟩
  · exact ⟨false, hs.2 h, hi.2 h⟩
theorem law (a0 : List ByteArray) (a1 : List S114) (a2 : List S121) (a3 : List Int) (a4 : List S124)
    (h0 : (∀ a ∈ a0, a.size ≤ 140737488351232) ∧ a0.length * 16 ≤ 140737488351232) (h1 : (∀ a ∈ a1, gdHead a) ∧ a1.length * 24 ≤ 140737488351232) (h2 : (∀ a ∈ a2, gdMirror a) ∧ a2.length * 112 ≤ 140737488351232) (h3 : (∀ a ∈ a3, (Lit.int .i64 a).wf = true) ∧ a3.length * 8 ≤ 140737488351232) (h4 : (∀ a ∈ a4, gdMsg a) ∧ a4.length * 80 ≤ 140737488351232) :
    ∃ k, laws_FnExactBeginnings.f k a0 a1 a2 a3 a4 = some true := by
  refine Ev.rounds ?_
  unfold laws_FnExactBeginnings.f
  obtain ⟨r, hr, hl⟩ := sz_World a0 a1 a2 a3 a4 h0 h1 h2 h3 h4 1048576 (by omega) (by omega)
  have ht := to_World a0 a1 a2 a3 a4 h0 h1 h2 h3 h4
  refine Ev.bind hr ?_
  by_cases hc : r < 0
  · exact Ev.pos hc (Ev.now _)
  refine Ev.neg hc (Ev.bind ht ?_)
  obtain ⟨b, hs, hi⟩ := same a0 (a1.map cvHead) (a2.map cvMirror) a3 (a4.map cvMsg) (by rw [List.length_map]; omega) (gl_MirrorS a2 h2)
  refine Ev.bind hs (Ev.bind ht (Ev.bind hi (Ev.neg (by simp) (Ev.bind ht (Ev.bind (eq_World a0 (a1.map cvHead) (a2.map cvMirror) a3 (a4.map cvMsg) (by omega) (by rw [List.length_map]; omega) (gl_MirrorS a2 h2) (by omega) (gl_MsgS a4 h4)) (Ev.pos rfl (Ev.now _)))))))
end Go.Proofs.Ytmkdeknpphimbaa.PFnExactBeginnings
