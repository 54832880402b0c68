import Derived.Test.YtmkdeknpphimbaaCNfEFnExactNoFork
import Derived.Test.YtmkdeknpphimbaaCNfPFnExactNoForkx
namespace Go.Proofs.Ytmkdeknpphimbaa.PFnExactNoFork
open Go Go.RowKit Go.Proofs.YtmkdeknpphimbaaW.PrintWords Go.Proofs.YtmkdeknpphimbaaW.PrintLast Go.Proofs.YtmkdeknpphimbaaW.PrintMore Go.Proofs.Ytmkdeknpphimbaa.Ev
set_option linter.unusedVariables false
set_option linter.unusedSimpArgs false
abbrev Hd := S91
abbrev el (l : List Hd) (i : Nat) : Hd := l.getD i z91
def fine (l : List Hd) (i k : Nat) : Prop := (el l k).f0 = (el l i).f0 → (el l k).f1.toList = (el l i).f1.toList
def all (l : List Hd) : Prop := ∀ i, 0 ≤ i → i < l.length → ∀ k, 0 ≤ k → k < i → fine l i k
theorem spec (l : List Hd) (hl : l.length ≤ 281474976710656) : ∃ r, Ev (fun k => spec_Fork.f k l) r ∧ (r.2.2.2.2 = false ↔ all l) := by
  unfold spec_Fork.f
  have hgo : ∀ (i : Nat), i < l.length → ∀ (k : Nat) r, k < i → fine l i k → Ev (fun n => spec_Fork.l1 n l i ((k + 1 : Nat) : Int)) r → Ev (fun n => spec_Fork.l1 n l i (k : Int)) r := by
    intro i hi k r hk hp hr
    have hw := wrapS (show k < l.length by omega) hl
    refine Ev.step (f := ?f) (fun n => ?e) ?g
    case e => (simp only [spec_Fork.l1]; rw [if_pos (by omega), if_pos (by omega), if_pos (by omega), if_pos (by omega), if_pos (by omega), hw])
    case g =>
      by_cases h : (el l k).f0 = (el l i).f0
      · exact Ev.pos h (Ev.pos (hp h) hr)
      · exact Ev.neg h hr
  have hout : ∀ (i : Nat), i < l.length → ∀ (k : Nat), k < i → ¬ fine l i k → ∃ r, Ev (fun n => spec_Fork.l1 n l i (k : Int)) r ∧ r.2.2.2.2 = true := by
    intro i hi k hk hp
    have h1 : (el l k).f0 = (el l i).f0 := Classical.byContradiction fun h => hp (fun h' => absurd h' h)
    have h2 : ¬ (el l k).f1.toList = (el l i).f1.toList := fun h => hp (fun _ => h)
    refine ⟨((el l k).f0, (el l k).f1, (el l i).f0, (el l i).f1, true), Ev.step (f := ?f2) (fun n => ?e2) ?g2, ?_⟩
    case e2 => (simp only [spec_Fork.l1]; rw [if_pos (by omega), if_pos (by omega), if_pos (by omega), if_pos (by omega), if_pos (by omega)])
    case g2 => exact Ev.pos h1 (Ev.neg h2 (Ev.now _))
    rfl
  have hstop : ∀ (i : Nat), i < l.length → ∀ n (k : Nat), ¬ k < i → spec_Fork.l1 (n + 1) l i (k : Int) = spec_Fork.l0 n l ((i + 1 : Nat) : Int) := by
    intro i hi n k hk
    have hw := wrapS hi hl
    simp only [spec_Fork.l1]
    rw [if_neg (by omega), hw]
  have hhead : ∀ (i : Nat), i < l.length → ∀ {r}, Ev (fun n => spec_Fork.l1 n l i 0) r → Ev (fun n => spec_Fork.l0 n l (i : Int)) r := by
    intro i hi r hr
    refine Ev.step (f := fun n => spec_Fork.l1 n l i 0) (fun n => ?_) hr
    simp only [spec_Fork.l0]
    rw [if_pos (by omega)]
  have go : ∀ (i : Nat) r, i < l.length → (∀ k, 0 ≤ k → k < i → fine l i k) → Ev (fun n => spec_Fork.l0 n l ((i + 1 : Nat) : Int)) r → Ev (fun n => spec_Fork.l0 n l (i : Int)) r := by
    intro i r hi hp hr
    obtain ⟨r', h1, rfl⟩ := go_loop (fun n k => spec_Fork.l1 n l i k) (fun n => spec_Fork.l0 n l ((i + 1 : Nat) : Int)) i (fine l i) (· = r) (hstop i hi) (fun k r => hgo i hi k r) 0 (Nat.zero_le _) hp ⟨r, hr, rfl⟩
    exact hhead i hi h1
  by_cases h : all l
  · obtain ⟨r, h1, h2⟩ := go_loop (fun n i => spec_Fork.l0 n l i) (fun _ => some (0, (⟨#[]⟩ : ByteArray), 0, (⟨#[]⟩ : ByteArray), false)) l.length (fun i => ∀ k, 0 ≤ k → k < i → fine l i k) (fun r => r.2.2.2.2 = false) (fun n i hi => by simp only [spec_Fork.l0]; rw [if_neg (by omega)]) go 0 (Nat.zero_le _) h ⟨_, Ev.now _, rfl⟩
    exact ⟨r, h1, ⟨fun _ => h, fun _ => h2⟩⟩
  · obtain ⟨r, h1, h2⟩ := out_loop (fun n i => spec_Fork.l0 n l i) l.length (fun i => ∀ k, 0 ≤ k → k < i → fine l i k) (fun r => r.2.2.2.2 = true) go (fun i hi hp => by
      obtain ⟨r, h1, h2⟩ := out_loop (fun n k => spec_Fork.l1 n l i k) i (fine l i) (fun r => r.2.2.2.2 = true) (fun k r => hgo i hi k r) (hout i hi) 0 (Nat.zero_le _) hp
      exact ⟨r, hhead i hi h1, h2⟩) 0 (Nat.zero_le _) h
    exact ⟨r, h1, ⟨fun e => (by rw [h2] at e; cases e), fun h' => absurd h' h⟩⟩
theorem el_take (l : List Hd) (i k : Nat) (hk : k < i) : (l.take i).getD k z91 = el l k := by
  simp [List.getD, List.getElem?_take, hk]
theorem impl (l : List Hd) (hl : l.length ≤ 281474976710656) : ∃ r, Ev (fun k => impl_Fork.f k l) r ∧ (r.2.2.2.2 = false ↔ all l) := by
  unfold impl_Fork.f
  have hlen : ∀ i, i < l.length → (l.take i).length = i := fun i hi => by rw [List.length_take]; omega
  have hgo : ∀ (i : Nat), i < l.length → ∀ (k : Nat) r, k < i → fine l i k → Ev (fun n => impl_Fork.l1 n l l l.length i (l.take i) i ((k + 1 : Nat) : Int) (el l i).f0 (el l i).f1) r → Ev (fun n => impl_Fork.l1 n l l l.length i (l.take i) i (k : Int) (el l i).f0 (el l i).f1) r := by
    intro i hi k r hk hp hr
    have hw := wrapS (show k < l.length by omega) hl
    have he : rd_T91 (l.take i) k = el l k := el_take l i k hk
    refine Ev.step (f := ?f) (fun n => ?e) ?g
    case e => (simp only [impl_Fork.l1]; rw [if_pos (by omega), if_pos (by omega), if_pos (by rw [hlen i hi]; omega), hw, he])
    case g =>
      by_cases h : (el l k).f0 = (el l i).f0
      · exact Ev.pos h (Ev.pos (hp h) hr)
      · exact Ev.neg h hr
  have hout : ∀ (i : Nat), i < l.length → ∀ (k : Nat), k < i → ¬ fine l i k → ∃ r, Ev (fun n => impl_Fork.l1 n l l l.length i (l.take i) i (k : Int) (el l i).f0 (el l i).f1) r ∧ r.2.2.2.2 = true := by
    intro i hi k hk hp
    have h1 : (el l k).f0 = (el l i).f0 := Classical.byContradiction fun h => hp (fun h' => absurd h' h)
    have h2 : ¬ (el l k).f1.toList = (el l i).f1.toList := fun h => hp (fun _ => h)
    have he : rd_T91 (l.take i) k = el l k := el_take l i k hk
    refine ⟨((el l k).f0, (el l k).f1, (el l i).f0, (el l i).f1, true), Ev.step (f := ?f2) (fun n => ?e2) ?g2, ?_⟩
    case e2 => (simp only [impl_Fork.l1]; rw [if_pos (by omega), if_pos (by omega), if_pos (by rw [hlen i hi]; omega), he])
    case g2 => exact Ev.pos h1 (Ev.neg h2 (Ev.now _))
    rfl
  have hstop : ∀ (i : Nat), i < l.length → ∀ n (k : Nat), ¬ k < i → impl_Fork.l1 (n + 1) l l l.length i (l.take i) i (k : Int) (el l i).f0 (el l i).f1 = impl_Fork.l0 n l l l.length ((i + 1 : Nat) : Int) := by
    intro i hi n k hk
    have hw := wrapS hi hl
    simp only [impl_Fork.l1]
    rw [if_neg (by omega), hw]
  have hhead : ∀ (i : Nat), i < l.length → ∀ {r}, Ev (fun n => impl_Fork.l1 n l l l.length i (l.take i) i 0 (el l i).f0 (el l i).f1) r → Ev (fun n => impl_Fork.l0 n l l l.length (i : Int)) r := by
    intro i hi r hr
    refine Ev.step (f := fun n => impl_Fork.l1 n l l l.length i (l.take i) i 0 (el l i).f0 (el l i).f1) (fun n => ?_) hr
    simp only [impl_Fork.l0]
    rw [if_pos (by omega), if_pos (by omega), if_pos (by omega), if_pos (by omega)]
    simp only [Option.bind_some, Int.toNat_natCast, hlen i hi]
    rfl
  have go : ∀ (i : Nat) r, i < l.length → (∀ k, 0 ≤ k → k < i → fine l i k) → Ev (fun n => impl_Fork.l0 n l l l.length ((i + 1 : Nat) : Int)) r → Ev (fun n => impl_Fork.l0 n l l l.length (i : Int)) r := by
    intro i r hi hp hr
    obtain ⟨r', h1, rfl⟩ := go_loop (fun n k => impl_Fork.l1 n l l l.length i (l.take i) i k (el l i).f0 (el l i).f1) (fun n => impl_Fork.l0 n l l l.length ((i + 1 : Nat) : Int)) i (fine l i) (· = r) (hstop i hi) (fun k r => hgo i hi k r) 0 (Nat.zero_le _) hp ⟨r, hr, rfl⟩
    exact hhead i hi h1
  by_cases h : all l
  · obtain ⟨r, h1, h2⟩ := go_loop (fun n i => impl_Fork.l0 n l l l.length i) (fun _ => some (0, (⟨#[]⟩ : ByteArray), 0, (⟨#[]⟩ : ByteArray), false)) l.length (fun i => ∀ k, 0 ≤ k → k < i → fine l i k) (fun r => r.2.2.2.2 = false) (fun n i hi => by simp only [impl_Fork.l0]; rw [if_neg (by omega)]) go 0 (Nat.zero_le _) h ⟨_, Ev.now _, rfl⟩
    exact ⟨r, h1, ⟨fun _ => h, fun _ => h2⟩⟩
  · obtain ⟨r, h1, h2⟩ := out_loop (fun n i => impl_Fork.l0 n l l l.length i) l.length (fun i => ∀ k, 0 ≤ k → k < i → fine l i k) (fun r => r.2.2.2.2 = true) go (fun i hi hp => by
      obtain ⟨r, h1, h2⟩ := out_loop (fun n k => impl_Fork.l1 n l l l.length i (l.take i) i k (el l i).f0 (el l i).f1) i (fine l i) (fun r => r.2.2.2.2 = true) (fun k r => hgo i hi k r) (hout i hi) 0 (Nat.zero_le _) hp
      exact ⟨r, hhead i hi h1, h2⟩) 0 (Nat.zero_le _) h
    exact ⟨r, h1, ⟨fun e => (by rw [h2] at e; cases e), fun h' => absurd h' h⟩⟩
theorem same (a0 : List ByteArray) (a1 : List Hd) (a2 : List S110) (a3 : List Int) (a4 : List S128) (h1 : a1.length ≤ 281474976710656) :
    ∃ b, Ev (fun k => spec_NoFork.f k a0 a1 a2 a3 a4) b ∧ Ev (fun k => impl_NoFork.f k a0 a1 a2 a3 a4) b := by
  obtain ⟨r, hr, hr'⟩ := spec a1 h1
  obtain ⟨q, hq, hq'⟩ := impl a1 h1
  have e : q.2.2.2.2 = r.2.2.2.2 := by
    cases h : r.2.2.2.2 with
    | false => exact hq'.2 (hr'.1 h)
    | true =>
      cases h' : q.2.2.2.2 with
      | true => rfl
      | false => exact absurd (hr'.2 (hq'.1 h')) (by rw [h]; simp)
  refine ⟨!r.2.2.2.2, ?_, ?_⟩
  · unfold spec_NoFork.f
    exact Ev.bind hr (Ev.now _)
  · unfold impl_NoFork.f
    refine Ev.bind hq ?_
    rw [← e]
    exact Ev.now _
theorem law (a0 : List ByteArray) (a1 : List S114) (a2 : List S121) (a3 : List Int) (a4 : List S124)
    (h0 : (∀ a ∈ a0, a.size ≤ 140737488351232) ∧ a0.length * 16 ≤ 140737488351232) (h1 : (∀ a ∈ a1, gdHead a) ∧ a1.length * 24 ≤ 140737488351232) (h2 : (∀ a ∈ a2, gdMirror a) ∧ a2.length * 112 ≤ 140737488351232) (h3 : (∀ a ∈ a3, (Lit.int .i64 a).wf = true) ∧ a3.length * 8 ≤ 140737488351232) (h4 : (∀ a ∈ a4, gdMsg a) ∧ a4.length * 80 ≤ 140737488351232) :
    ∃ k, laws_FnExactNoFork.f k a0 a1 a2 a3 a4 = some true := by
  refine Ev.rounds ?_
  unfold laws_FnExactNoFork.f
  obtain ⟨r, hr, hl⟩ := sz_World a0 a1 a2 a3 a4 h0 h1 h2 h3 h4 1048576 (by omega) (by omega)
  have ht := to_World a0 a1 a2 a3 a4 h0 h1 h2 h3 h4
  refine Ev.bind hr ?_
  by_cases hc : r < 0
  · exact Ev.pos hc (Ev.now _)
  refine Ev.neg hc (Ev.bind ht ?_)
  obtain ⟨b, hs, hi⟩ := same a0 (a1.map cvHead) (a2.map cvMirror) a3 (a4.map cvMsg) (by rw [List.length_map]; omega)
  refine Ev.bind hs (Ev.bind ht (Ev.bind hi (Ev.neg (by simp) (Ev.bind ht (Ev.bind (eq_World a0 (a1.map cvHead) (a2.map cvMirror) a3 (a4.map cvMsg) (by omega) (by rw [List.length_map]; omega) (gl_MirrorS a2 h2) (by omega) (gl_MsgS a4 h4)) (Ev.pos rfl (Ev.now _)))))))
end Go.Proofs.Ytmkdeknpphimbaa.PFnExactNoFork
