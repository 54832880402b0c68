import Derived.Test.YtmkdeknpphimbaaCAsEFnExactAllSigned
import Derived.Test.YtmkdeknpphimbaaCAsPFnExactAllSignedx
namespace Go.Proofs.Ytmkdeknpphimbaa.PFnExactAllSigned
open Go Go.RowKit Go.Proofs.YtmkdeknpphimbaaW.PrintWords Go.Proofs.YtmkdeknpphimbaaW.PrintLast Go.Proofs.YtmkdeknpphimbaaW.PrintMore Go.Proofs.Ytmkdeknpphimbaa.Ev
set_option linter.unusedVariables false
set_option linter.unusedSimpArgs false
abbrev el (l : List S91) (i : Nat) : S91 := l.getD i z91
def sg (l : List S91) (a : Int) (b : ByteArray) : Prop := ¬ ∀ i, 0 ≤ i → i < l.length → ¬ ((el l i).f0 = a ∧ (el l i).f1.toList = b.toList)
theorem isSigned (l : List S91) (a : Int) (b : ByteArray) (hl : l.length ≤ 281474976710656) : (sg l a b → Ev (fun k => spec_IsSigned.f k l a b) true) ∧ (¬ sg l a b → Ev (fun k => spec_IsSigned.f k l a b) false) := by
  have h := bool_loop (fun k i => spec_IsSigned.l0 k l i a b) (fun _ => some false) l.length (fun i => ¬ ((el l i).f0 = a ∧ (el l i).f1.toList = b.toList)) true (fun n i hi => by simp only [spec_IsSigned.l0]; rw [if_neg (by omega)]) (Ev.now _) (fun i r hi hp hr => ?_) (fun i hi hp => ?_) 0 (Nat.zero_le _)
  · exact ⟨fun hh => h.2 hh, fun hh => h.1 (Classical.not_not.1 hh)⟩
  · have hw := wrapS hi hl
    refine Ev.step (f := ?f1) (fun n => ?e1) ?g1
    case e1 => (simp only [spec_IsSigned.l0]; rw [if_pos (by omega), if_pos (by omega), hw])
    case g1 => exact Ev.neg (fun e => hp (by simp only [Bool.and_eq_true, beq_iff_eq] at e; exact e)) hr
  · refine Ev.step (f := ?f2) (fun n => ?e2) ?g2
    case e2 => (simp only [spec_IsSigned.l0]; rw [if_pos (by omega), if_pos (by omega)])
    case g2 => exact Ev.pos (by have := Classical.not_not.1 hp; simp only [Bool.and_eq_true, beq_iff_eq]; exact this) (Ev.now _)
theorem contains (l : List S91) (a : Int) (b : ByteArray) (hl : l.length ≤ 281474976710656) : (sg l a b → Ev (fun k => impl_IsSigned.f k l a b) true) ∧ (¬ sg l a b → Ev (fun k => impl_IsSigned.f k l a b) false) := by
  have hgo : ∀ (i : Nat) r, i < l.length → ¬ ((el l i).f0 = a ∧ (el l i).f1.toList = b.toList) → Ev (fun k => impl_Head_95.l0 k l l.length ((i + 1 : Nat) : Int) a b) r → Ev (fun k => impl_Head_95.l0 k l l.length (i : Int) a b) r := by
    intro i r hi hp hr
    have hw := wrapS hi hl
    refine Ev.step (f := ?f1) (fun n => ?e1) ?g1
    case e1 => (simp only [impl_Head_95.l0]; rw [if_pos (by omega), if_pos (by omega), if_pos (by omega), hw])
    case g1 => exact Ev.neg (fun e => hp (by simp only [Bool.and_eq_true, beq_iff_eq] at e; exact ⟨e.1.symm, e.2.symm⟩)) hr
  have key : ∀ v, (∃ r, Ev (fun k => impl_Head_95.l0 k l l.length ((0 : Nat) : Int) a b) r ∧ decide (r ≥ 0) = v) → Ev (fun k => impl_IsSigned.f k l a b) v := by
    rintro v ⟨r, hr, rfl⟩
    unfold impl_IsSigned.f impl_Head_91.f impl_Head_95.f
    exact Ev.bind (Ev.bind hr (Ev.now _)) (Ev.now _)
  refine ⟨fun h => key true ?_, fun h => key false ?_⟩
  · refine out_loop (fun k i => impl_Head_95.l0 k l l.length i a b) l.length (fun i => ¬ ((el l i).f0 = a ∧ (el l i).f1.toList = b.toList)) (fun r => decide (r ≥ 0) = true) hgo (fun i hi hp => ⟨(i : Int), ?_, by simp⟩) 0 (Nat.zero_le _) h
    refine Ev.step (f := ?f2) (fun n => ?e2) ?g2
    case e2 => (simp only [impl_Head_95.l0]; rw [if_pos (by omega), if_pos (by omega), if_pos (by omega)])
    case g2 => exact Ev.pos (by have := Classical.not_not.1 hp; simp only [Bool.and_eq_true, beq_iff_eq]; exact ⟨this.1.symm, this.2.symm⟩) (Ev.now _)
  · exact go_loop (fun k i => impl_Head_95.l0 k l l.length i a b) (fun _ => some (-1)) l.length (fun i => ¬ ((el l i).f0 = a ∧ (el l i).f1.toList = b.toList)) (fun r => decide (r ≥ 0) = false) (fun n i hi => by simp only [impl_Head_95.l0]; rw [if_neg (by omega)]) hgo 0 (Nat.zero_le _) (Classical.not_not.1 h) ⟨-1, Ev.now _, by simp⟩
theorem same (a0 : List ByteArray) (a1 : List S91) (a2 : List S110) (a3 : List Int) (a4 : List S128) (h1 : a1.length ≤ 281474976710656) (h2 : (∀ x ∈ a2, glMirror x) ∧ a2.length ≤ 281474976710656) :
    ∃ b, Ev (fun k => spec_AllSigned.f k a0 a1 a2 a3 a4) b ∧ Ev (fun k => impl_AllSigned.f k a0 a1 a2 a3 a4) b := by
  let p := fun (i : Nat) => sg a1 (a2.getD i z110).f2.f0 (a2.getD i z110).f2.f1 ∧ sg a1 (a2.getD i z110).f1.f0.f1.f0 (a2.getD i z110).f1.f0.f1.f1
  have hs := bool_loop (fun k i => spec_AllSigned.l0 k i a0 a1 a2 a3 a4) (fun _ => some true) a2.length p false (fun n i hi => by simp only [spec_AllSigned.l0]; rw [if_neg (by omega)]) (Ev.now _) (fun i r hi hp hk => ?_) (fun i hi hp => ?_) 0 (Nat.zero_le _)
  rotate_left
  · have hw := wrapS hi h2.2
    refine Ev.step (f := ?f1) (fun k => ?e1) ?g1
    case e1 => (simp only [spec_AllSigned.l0]; rw [if_pos (by omega), if_pos (by omega), hw])
    case g1 => exact Ev.bind ((isSigned _ _ _ h1).1 hp.1) (Ev.pos rfl (Ev.bind ((isSigned _ _ _ h1).1 hp.2) (Ev.pos rfl hk)))
  · refine Ev.step (f := ?f2) (fun k => ?e2) ?g2
    case e2 => (simp only [spec_AllSigned.l0]; rw [if_pos (by omega), if_pos (by omega)])
    case g2 =>
      by_cases h : sg a1 (a2.getD i z110).f2.f0 (a2.getD i z110).f2.f1
      · exact Ev.bind ((isSigned _ _ _ h1).1 h) (Ev.pos rfl (Ev.bind ((isSigned _ _ _ h1).2 (fun h' => hp ⟨h, h'⟩)) (Ev.neg (by simp) (Ev.now _))))
      · exact Ev.bind ((isSigned _ _ _ h1).2 h) (Ev.neg (by simp) (Ev.now _))
  have hi := bool_loop (fun k i => impl_AllSigned.l0 k a2 a2.length i a0 a1 a2 a3 a4) (fun _ => some true) a2.length p false (fun n i hi => by simp only [impl_AllSigned.l0]; rw [if_neg (by omega)]) (Ev.now _) (fun i r hi hp hk => ?_) (fun i hi hp => ?_) 0 (Nat.zero_le _)
  rotate_left
  · have hw := wrapS hi h2.2
    refine Ev.step (f := ?f3) (fun k => ?e3) ?g3
    case e3 => (simp only [impl_AllSigned.l0]; rw [if_pos (by omega), if_pos (by omega), if_pos (by omega), hw])
    case g3 => exact Ev.bind ((contains _ _ _ h1).1 hp.2) (Ev.pos rfl (Ev.bind ((contains _ _ _ h1).1 hp.1) (Ev.pos rfl hk)))
  · refine Ev.step (f := ?f4) (fun k => ?e4) ?g4
    case e4 => (simp only [impl_AllSigned.l0]; rw [if_pos (by omega), if_pos (by omega), if_pos (by omega)])
    case g4 =>
      by_cases h : sg a1 (a2.getD i z110).f1.f0.f1.f0 (a2.getD i z110).f1.f0.f1.f1
      · exact Ev.bind ((contains _ _ _ h1).1 h) (Ev.pos rfl (Ev.bind ((contains _ _ _ h1).2 (fun h' => hp ⟨h', h⟩)) (Ev.neg (by simp) (Ev.now _))))
      · exact Ev.bind ((contains _ _ _ h1).2 h) (Ev.neg (by simp) (Ev.now _))
  by_cases h : ∀ i, 0 ≤ i → i < a2.length → p i
  · exact ⟨true, hs.1 h, hi.1 h⟩
  · exact ⟨false, hs.2 h, hi.2 h⟩
theorem law (a0 : List ByteArray) (a1 : List S114) (a2 : List S121) (a3 : List Int) (a4 : List S124)
    (h0 : (∀ a ∈ a0, a.size ≤ 140737488351232) ∧ a0.length * 16 ≤ 140737488351232) (h1 : (∀ a ∈ a1, gdHead a) ∧ a1.length * 24 ≤ 140737488351232) (h2 : (∀ a ∈ a2, gdMirror a) ∧ a2.length * 112 ≤ 140737488351232) (h3 : (∀ a ∈ a3, (Lit.int .i64 a).wf = true) ∧ a3.length * 8 ≤ 140737488351232) (h4 : (∀ a ∈ a4, gdMsg a) ∧ a4.length * 80 ≤ 140737488351232) :
    ∃ k, laws_FnExactAllSigned.f k a0 a1 a2 a3 a4 = some true := by
  refine Ev.rounds ?_
  unfold laws_FnExactAllSigned.f
  obtain ⟨r, hr, hl⟩ := sz_World a0 a1 a2 a3 a4 h0 h1 h2 h3 h4 1048576 (by omega) (by omega)
  have ht := to_World a0 a1 a2 a3 a4 h0 h1 h2 h3 h4
  refine Ev.bind hr ?_
  by_cases hc : r < 0
  · exact Ev.pos hc (Ev.now _)
  refine Ev.neg hc (Ev.bind ht ?_)
  obtain ⟨b, hs, hi⟩ := same a0 (a1.map cvHead) (a2.map cvMirror) a3 (a4.map cvMsg) (by rw [List.length_map]; omega) (gl_MirrorS a2 h2)
  refine Ev.bind hs (Ev.bind ht (Ev.bind hi (Ev.neg (by simp) (Ev.bind ht (Ev.bind (eq_World a0 (a1.map cvHead) (a2.map cvMirror) a3 (a4.map cvMsg) (by omega) (by rw [List.length_map]; omega) (gl_MirrorS a2 h2) (by omega) (gl_MsgS a4 h4)) (Ev.pos rfl (Ev.now _)))))))
end Go.Proofs.Ytmkdeknpphimbaa.PFnExactAllSigned
