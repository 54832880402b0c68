import Derived.Test.YtmkdeknpphimbaaCAgEFnExactAgree
import Derived.Test.YtmkdeknpphimbaaCAgPFnExactAgreex
namespace Go.Proofs.Ytmkdeknpphimbaa.PFnExactAgree
open Go Go.RowKit Go.Proofs.YtmkdeknpphimbaaW.PrintWords Go.Proofs.YtmkdeknpphimbaaW.PrintLast Go.Proofs.YtmkdeknpphimbaaW.PrintMore Go.Proofs.Ytmkdeknpphimbaa.Ev
set_option linter.unusedVariables false
set_option linter.unusedSimpArgs false
theorem same8 (x y : List ByteArray) (hx : x.length ≤ 281474976710656) : Ev (fun k => spec_l8Same.f k x y) (decide (x = y)) := by
  unfold spec_l8Same.f
  by_cases hl : x.length = y.length
  · refine Ev.pos (by omega) ?_
    have h := bool_loop (fun k i => spec_l8Same.l0 k x y i) (fun _ => some true) x.length (fun i => x.getD i ByteArray.empty = y.getD i ByteArray.empty) false (fun k i hi => by simp only [spec_l8Same.l0]; rw [if_neg (by omega)]) (Ev.now _) (fun i r hi hp hk => ?_) (fun i hi hp => ?_) 0 (Nat.zero_le _)
    · by_cases e : x = y
      · rw [decide_eq_true e]
        exact h.1 ((list_eq_iff hl).2 e)
      · rw [decide_eq_false e]
        exact h.2 (fun h' => e ((list_eq_iff hl).1 h'))
    · have hw := wrapS hi (by omega)
      refine Ev.step (f := ?f1) (fun k => ?e1) ?g1
      case e1 => (simp only [spec_l8Same.l0]; rw [if_pos (by omega), if_pos (by omega), if_pos (by omega), hw])
      case g1 => exact Ev.pos (congrArg ByteArray.toList hp) hk
    · refine Ev.step (f := ?f2) (fun k => ?e2) ?g2
      case e2 => (simp only [spec_l8Same.l0]; rw [if_pos (by omega), if_pos (by omega), if_pos (by omega)])
      case g2 => exact Ev.neg (fun e => hp (arr_eq e)) (Ev.now _)
  · refine Ev.neg (by omega) ?_
    rw [decide_eq_false (fun e : x = y => hl (by rw [e]))]
    exact Ev.now _
theorem equal (x y : List ByteArray) (hx : x.length ≤ 281474976710656) : Ev (fun k => slices_Equal_string_string.f k x y) (decide (x = y)) := by
  unfold slices_Equal_string_string.f
  by_cases hl : x.length = y.length
  · refine Ev.pos (by omega) ?_
    have h := bool_loop (fun k i => slices_Equal_string_string.l0 k x y x.length i) (fun _ => some true) x.length (fun i => x.getD i ByteArray.empty = y.getD i ByteArray.empty) false (fun k i hi => by simp only [slices_Equal_string_string.l0]; rw [if_neg (by omega)]) (Ev.now _) (fun i r hi hp hk => ?_) (fun i hi hp => ?_) 0 (Nat.zero_le _)
    · by_cases e : x = y
      · rw [decide_eq_true e]
        exact h.1 ((list_eq_iff hl).2 e)
      · rw [decide_eq_false e]
        exact h.2 (fun h' => e ((list_eq_iff hl).1 h'))
    · have hw := wrapS hi (by omega)
      refine Ev.step (f := ?f1) (fun k => ?e1) ?g1
      case e1 => (simp only [slices_Equal_string_string.l0]; rw [if_pos (by omega), if_pos (by omega), if_pos (by omega), if_pos (by omega), hw])
      case g1 => exact Ev.pos (congrArg ByteArray.toList hp) hk
    · refine Ev.step (f := ?f2) (fun k => ?e2) ?g2
      case e2 => (simp only [slices_Equal_string_string.l0]; rw [if_pos (by omega), if_pos (by omega), if_pos (by omega), if_pos (by omega)])
      case g2 => exact Ev.neg (fun e => hp (arr_eq e)) (Ev.now _)
  · refine Ev.neg (by omega) ?_
    rw [decide_eq_false (fun e : x = y => hl (by rw [e]))]
    exact Ev.now _
theorem begins (x y : List ByteArray) (hx : x.length ≤ 281474976710656) : Ev (fun k => spec_l20Begins.f k x y) (decide (x = y.take x.length)) := by
  unfold spec_l20Begins.f
  by_cases hl : x.length ≤ y.length
  · refine Ev.pos (by omega) (Ev.pos (by omega) (Ev.bind (same8 _ _ hx) ?_))
    rw [Int.toNat_natCast]
    exact Ev.now _
  · refine Ev.neg (by omega) ?_
    rw [decide_eq_false (fun e => by have := congrArg List.length e; rw [List.length_take] at this; omega)]
    exact Ev.now _
theorem isBeginning (x y : List ByteArray) (hx : x.length ≤ 281474976710656) : Ev (fun k => impl_isBeginning.f k x y) (decide (x = y.take x.length)) := by
  unfold impl_isBeginning.f
  by_cases hl : x.length ≤ y.length
  · refine Ev.pos (by omega) (Ev.pos (by omega) (Ev.bind (equal _ _ hx) ?_))
    rw [Int.toNat_natCast]
    exact Ev.now _
  · refine Ev.neg (by omega) ?_
    rw [decide_eq_false (fun e => by have := congrArg List.length e; rw [List.length_take] at this; omega)]
    exact Ev.now _
abbrev tx (l : List S110) (i : Nat) : List ByteArray := (l.getD i z110).f1.f0.f0
def ag (l : List S110) (i k : Nat) : Prop := tx l i = (tx l k).take (tx l i).length ∨ tx l k = (tx l i).take (tx l k).length
theorem tx_take (l : List S110) (i k : Nat) (hk : k < i) : (l.take i).getD k z110 = l.getD k z110 := by
  simp [List.getD, List.getElem?_take, hk]
theorem same (a0 : List ByteArray) (a1 : List S91) (a2 : List S110) (a3 : List Int) (a4 : List S128) (h1 : a1.length ≤ 281474976710656) (h2 : (∀ x ∈ a2, glMirror x) ∧ a2.length ≤ 281474976710656) :
    ∃ b, Ev (fun k => spec_Agree.f k a0 a1 a2 a3 a4) b ∧ Ev (fun k => impl_Agree.f k a0 a1 a2 a3 a4) b := by
  have hb : ∀ i, i < a2.length → (tx a2 i).length ≤ 281474976710656 := fun i hi => (h2.1 _ (getD_mem (z := z110) hi)).1
  have hs : ((∀ i, 0 ≤ i → i < a2.length → ∀ k, 0 ≤ k → k < i → ag a2 i k) → Ev (fun n => spec_Agree.f n a0 a1 a2 a3 a4) true) ∧ ((¬ ∀ i, 0 ≤ i → i < a2.length → ∀ k, 0 ≤ k → k < i → ag a2 i k) → Ev (fun n => spec_Agree.f n a0 a1 a2 a3 a4) false) := by
    have hin : ∀ (i : Nat), i < a2.length → ∀ g, Ev (fun n => spec_Agree.l0 n ((i + 1 : Nat) : Int) a0 a1 a2 a3 a4) g → ((∀ k, 0 ≤ k → k < i → ag a2 i k) → Ev (fun n => spec_Agree.l1 n i 0 a0 a1 a2 a3 a4) g) := by
      intro i hi g hg hall
      suffices hx : ∃ r, Ev (fun n => spec_Agree.l1 n i ((0 : Nat) : Int) a0 a1 a2 a3 a4) r ∧ r = g by
        obtain ⟨r, hr, e⟩ := hx
        exact e ▸ hr
      refine go_loop (fun n k => spec_Agree.l1 n i k a0 a1 a2 a3 a4) (fun n => spec_Agree.l0 n ((i + 1 : Nat) : Int) a0 a1 a2 a3 a4) i (ag a2 i) (· = g) (fun n k hk => ?_) (fun k r hk hp hr => ?_) 0 (Nat.zero_le _) hall ⟨g, hg, rfl⟩
      · show spec_Agree.l1 (n + 1) i k a0 a1 a2 a3 a4 = _
        simp only [spec_Agree.l1]
        rw [if_neg (by omega), wrapS hi h2.2]
      · have hw := wrapS (show k < a2.length by omega) h2.2
        refine Ev.step (f := ?f1) (fun n => ?e1) ?g1
        case e1 => (simp only [spec_Agree.l1]; rw [if_pos (by omega), if_pos (by omega), if_pos (by omega), if_pos (by omega), if_pos (by omega), hw])
        case g1 =>
          refine Ev.bind (begins _ _ (hb i hi)) ?_
          by_cases h1 : tx a2 i = (tx a2 k).take (tx a2 i).length
          · exact Ev.pos (decide_eq_true h1) hr
          · exact Ev.neg (fun e => h1 (of_decide_eq_true e)) (Ev.bind (begins _ _ (hb k (by omega))) (Ev.pos (decide_eq_true (hp.resolve_left h1)) hr))
    have hout : ∀ (i : Nat), i < a2.length → (¬ ∀ k, 0 ≤ k → k < i → ag a2 i k) → Ev (fun n => spec_Agree.l1 n i 0 a0 a1 a2 a3 a4) false := by
      intro i hi hall
      suffices hx : ∃ r, Ev (fun n => spec_Agree.l1 n i ((0 : Nat) : Int) a0 a1 a2 a3 a4) r ∧ r = false by
        obtain ⟨r, hr, e⟩ := hx
        exact e ▸ hr
      refine out_loop (fun n k => spec_Agree.l1 n i k a0 a1 a2 a3 a4) i (ag a2 i) (· = false) (fun k r hk hp hr => ?_) (fun k hk hp => ⟨false, ?_, rfl⟩) 0 (Nat.zero_le _) hall
      · have hw := wrapS (show k < a2.length by omega) h2.2
        refine Ev.step (f := ?f2) (fun n => ?e2) ?g2
        case e2 => (simp only [spec_Agree.l1]; rw [if_pos (by omega), if_pos (by omega), if_pos (by omega), if_pos (by omega), if_pos (by omega), hw])
        case g2 =>
          refine Ev.bind (begins _ _ (hb i hi)) ?_
          by_cases h1 : tx a2 i = (tx a2 k).take (tx a2 i).length
          · exact Ev.pos (decide_eq_true h1) hr
          · exact Ev.neg (fun e => h1 (of_decide_eq_true e)) (Ev.bind (begins _ _ (hb k (by omega))) (Ev.pos (decide_eq_true (hp.resolve_left h1)) hr))
      · refine Ev.step (f := ?f3) (fun n => ?e3) ?g3
        case e3 => (simp only [spec_Agree.l1]; rw [if_pos (by omega), if_pos (by omega), if_pos (by omega), if_pos (by omega), if_pos (by omega)])
        case g3 => exact Ev.bind (begins _ _ (hb i hi)) (Ev.neg (fun e => hp (.inl (of_decide_eq_true e))) (Ev.bind (begins _ _ (hb k (by omega))) (Ev.neg (fun e => hp (.inr (of_decide_eq_true e))) (Ev.now _))))
    have hhead : ∀ (i : Nat), i < a2.length → ∀ {r}, Ev (fun n => spec_Agree.l1 n i 0 a0 a1 a2 a3 a4) r → Ev (fun n => spec_Agree.l0 n (i : Int) a0 a1 a2 a3 a4) r := by
      intro i hi r hr
      refine Ev.step (f := fun n => spec_Agree.l1 n i 0 a0 a1 a2 a3 a4) (fun n => ?_) hr
      simp only [spec_Agree.l0]
      rw [if_pos (by omega)]
    exact bool_loop (fun n i => spec_Agree.l0 n i a0 a1 a2 a3 a4) (fun _ => some true) a2.length (fun i => ∀ k, 0 ≤ k → k < i → ag a2 i k) false (fun n i hi => by simp only [spec_Agree.l0]; rw [if_neg (by omega)]) (Ev.now _) (fun i r hi hp hr => hhead i hi (hin i hi r hr hp)) (fun i hi hp => hhead i hi (hout i hi hp)) 0 (Nat.zero_le _)
  have hi : ((∀ i, 0 ≤ i → i < a2.length → ∀ k, 0 ≤ k → k < i → ag a2 i k) → Ev (fun n => impl_Agree.f n a0 a1 a2 a3 a4) true) ∧ ((¬ ∀ i, 0 ≤ i → i < a2.length → ∀ k, 0 ≤ k → k < i → ag a2 i k) → Ev (fun n => impl_Agree.f n a0 a1 a2 a3 a4) false) := by
    have hlen : ∀ i, i < a2.length → (a2.take i).length = i := fun i hi => by rw [List.length_take]; omega
    let L := fun (i n : Nat) (k : Int) => impl_Agree.l1 n a2 a2.length i (a2.take i) i k a0 a1 a2 a3 a4 (a2.getD i z110).f0 (a2.getD i z110).f1.f0.f0 (a2.getD i z110).f1.f0.f1.f0 (a2.getD i z110).f1.f0.f1.f1 (a2.getD i z110).f1.f1 (a2.getD i z110).f1.f2 (a2.getD i z110).f2.f0 (a2.getD i z110).f2.f1
    have hgo : ∀ (i : Nat), i < a2.length → ∀ (k : Nat) r, k < i → ag a2 i k → Ev (fun n => L i n ((k + 1 : Nat) : Int)) r → Ev (fun n => L i n (k : Int)) r := by
      intro i hi k r hk hp hr
      have hw := wrapS (show k < a2.length by omega) h2.2
      have he : rd_T110 (a2.take i) k = a2.getD k z110 := tx_take a2 i k hk
      refine Ev.step (f := ?f4) (fun n => ?e4) ?g4
      case e4 => (simp only [L, impl_Agree.l1]; rw [if_pos (by omega), if_pos (by omega), if_pos (by rw [hlen i hi]; omega), hw, he])
      case g4 =>
        refine Ev.bind (isBeginning _ _ (hb i hi)) ?_
        by_cases h1 : tx a2 i = (tx a2 k).take (tx a2 i).length
        · exact Ev.pos (decide_eq_true h1) hr
        · exact Ev.neg (fun e => h1 (of_decide_eq_true e)) (Ev.bind (isBeginning _ _ (hb k (by omega))) (Ev.pos (decide_eq_true (hp.resolve_left h1)) hr))
    have hno : ∀ (i : Nat), i < a2.length → ∀ (k : Nat), k < i → ¬ ag a2 i k → Ev (fun n => L i n (k : Int)) false := by
      intro i hi k hk hp
      have he : rd_T110 (a2.take i) k = a2.getD k z110 := tx_take a2 i k hk
      refine Ev.step (f := ?f5) (fun n => ?e5) ?g5
      case e5 => (simp only [L, impl_Agree.l1]; rw [if_pos (by omega), if_pos (by omega), if_pos (by rw [hlen i hi]; omega), he])
      case g5 => exact Ev.bind (isBeginning _ _ (hb i hi)) (Ev.neg (fun e => hp (.inl (of_decide_eq_true e))) (Ev.bind (isBeginning _ _ (hb k (by omega))) (Ev.neg (fun e => hp (.inr (of_decide_eq_true e))) (Ev.now _))))
    have hhead : ∀ (i : Nat), i < a2.length → ∀ {r}, Ev (fun n => L i n 0) r → Ev (fun n => impl_Agree.l0 n a2 a2.length (i : Int) a0 a1 a2 a3 a4) r := by
      intro i hi r hr
      refine Ev.step (f := fun n => L i n 0) (fun n => ?_) hr
      simp only [impl_Agree.l0]
      rw [if_pos (by omega), if_pos (by omega), if_pos (by omega), if_pos (by omega)]
      simp only [Option.bind_some, Int.toNat_natCast, hlen i hi]
      rfl
    refine bool_loop (fun n i => impl_Agree.l0 n a2 a2.length i a0 a1 a2 a3 a4) (fun _ => some true) a2.length (fun i => ∀ k, 0 ≤ k → k < i → ag a2 i k) false (fun n i hi => by simp only [impl_Agree.l0]; rw [if_neg (by omega)]) (Ev.now _) (fun i r hi hp hr => hhead i hi ?_) (fun i hi hp => hhead i hi ?_) 0 (Nat.zero_le _)
    · suffices hx : ∃ q, Ev (fun n => L i n ((0 : Nat) : Int)) q ∧ q = r by
        obtain ⟨q, h1, e⟩ := hx
        exact e ▸ h1
      refine go_loop (fun n k => L i n k) (fun n => impl_Agree.l0 n a2 a2.length ((i + 1 : Nat) : Int) a0 a1 a2 a3 a4) i (ag a2 i) (· = r) (fun n k hk => ?_) (fun k r => hgo i hi k r) 0 (Nat.zero_le _) hp ⟨r, hr, rfl⟩
      · show L i (n + 1) k = _
        simp only [L, impl_Agree.l1]
        rw [if_neg (by omega), wrapS hi h2.2]
    · obtain ⟨r, h1, rfl⟩ := out_loop (fun n k => L i n k) i (ag a2 i) (· = false) (fun k r => hgo i hi k r) (fun k hk hp => ⟨false, hno i hi k hk hp, rfl⟩) 0 (Nat.zero_le _) hp
      exact h1
  by_cases h : ∀ i, 0 ≤ i → i < a2.length → ∀ k, 0 ≤ k → k < i → ag a2 i k
  · exact ⟨true, hs.1 h, hi.1 h⟩
  · exact ⟨false, hs.2 h, hi.2 h⟩
theorem law (a0 : List ByteArray) (a1 : List S114) (a2 : List S121) (a3 : List Int) (a4 : List S124)
    (h0 : (∀ a ∈ a0, a.size ≤ 140737488351232) ∧ a0.length * 16 ≤ 140737488351232) (h1 : (∀ a ∈ a1, gdHead a) ∧ a1.length * 24 ≤ 140737488351232) (h2 : (∀ a ∈ a2, gdMirror a) ∧ a2.length * 112 ≤ 140737488351232) (h3 : (∀ a ∈ a3, (Lit.int .i64 a).wf = true) ∧ a3.length * 8 ≤ 140737488351232) (h4 : (∀ a ∈ a4, gdMsg a) ∧ a4.length * 80 ≤ 140737488351232) :
    ∃ k, laws_FnExactAgree.f k a0 a1 a2 a3 a4 = some true := by
  refine Ev.rounds ?_
  unfold laws_FnExactAgree.f
  obtain ⟨r, hr, hl⟩ := sz_World a0 a1 a2 a3 a4 h0 h1 h2 h3 h4 1048576 (by omega) (by omega)
  have ht := to_World a0 a1 a2 a3 a4 h0 h1 h2 h3 h4
  refine Ev.bind hr ?_
  by_cases hc : r < 0
  · exact Ev.pos hc (Ev.now _)
  refine Ev.neg hc (Ev.bind ht ?_)
  obtain ⟨b, hs, hi⟩ := same a0 (a1.map cvHead) (a2.map cvMirror) a3 (a4.map cvMsg) (by rw [List.length_map]; omega) (gl_MirrorS a2 h2)
  refine Ev.bind hs (Ev.bind ht (Ev.bind hi (Ev.neg (by simp) (Ev.bind ht (Ev.bind (eq_World a0 (a1.map cvHead) (a2.map cvMirror) a3 (a4.map cvMsg) (by omega) (by rw [List.length_map]; omega) (gl_MirrorS a2 h2) (by omega) (gl_MsgS a4 h4)) (Ev.pos rfl (Ev.now _)))))))
end Go.Proofs.Ytmkdeknpphimbaa.PFnExactAgree
