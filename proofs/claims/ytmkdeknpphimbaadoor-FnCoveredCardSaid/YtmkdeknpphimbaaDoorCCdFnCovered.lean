import Derived.Test.YtmkdeknpphimbaaDoorCCdNeedsCvd
namespace Go.Proofs.YtmkdeknpphimbaaDoor.PFnCovered
open Go Go.RowKit Go.Proofs.YtmkdeknpphimbaaDoorW.PrintWords Go.Proofs.YtmkdeknpphimbaaDoorW.PrintLast Go.Proofs.YtmkdeknpphimbaaDoorW.PrintMore Go.Proofs.YtmkdeknpphimbaaDoor.Ev Go.Proofs.YtmkdeknpphimbaaDoor.Str Go.Proofs.YtmkdeknpphimbaaDoor.Num
set_option linter.unusedVariables false
set_option linter.unusedSimpArgs false
theorem pre_ok {s : ByteArray} (h : s ∈ presD) (hne : ¬ s.toList = []) : ((strings_Split.f s ⟨#[46]⟩).bind fun t => impl_VersionOk.l0 40 t 0) = some true := by
  unfold presD at h
  simp only [List.mem_cons, List.not_mem_nil, or_false] at h
  rcases h with rfl | rfl | rfl | rfl | rfl | rfl | rfl | rfl | rfl | rfl
  · exact absurd (by decide +kernel : (⟨#[]⟩ : ByteArray).toList = []) hne
  · exact absurd (by decide +kernel : (⟨#[]⟩ : ByteArray).toList = []) hne
  · exact absurd (by decide +kernel : (⟨#[]⟩ : ByteArray).toList = []) hne
  all_goals decide +kernel
theorem okVersion (a b c : Int) (s : ByteArray) (ha : 0 ≤ a ∧ a ≤ 1000000) (hb : 0 ≤ b ∧ b ≤ 1000000) (hc : 0 ≤ c ∧ c ≤ 1000000) (hs : s ∈ presD) : Ev (fun k => impl_VersionOk.f k a b c s) true := by
  refine Ev.of (fun k => impl_VersionOk.mono a b c s k) (k := 40) ?_
  unfold impl_VersionOk.f
  rw [if_pos (by unfold impl_VersionOk.num; rw [decide_eq_true ha, decide_eq_true hb, decide_eq_true hc]; rfl)]
  by_cases e : s.toList = ([] : List UInt8)
  · rw [if_pos e]
  · rw [if_neg e]
    exact pre_ok hs e
theorem bump_ev (a b c : Int) (s : ByteArray) (h : okV a b c s) : Ev (fun k => impl_Bump.f k a b c s 2) (a, b, c + 1, ⟨#[]⟩) := by
  obtain ⟨h1, h2, h3, h4⟩ := h
  unfold impl_Bump.f
  refine Ev.neg (by decide) (Ev.neg (by decide) (Ev.pos rfl ?_))
  rw [wrapI (by omega) (by omega)]
  refine Ev.step (f := fun k => (impl_VersionOk.f k a b c s).bind fun t => if t = true then ((impl_VersionOk.f k a b (c + 1) ⟨#[]⟩).bind fun u => if u = true then some (a, b, c + 1, ⟨#[]⟩) else some (a, b, c, s)) else some (a, b, c, s)) (fun k => by simp only [impl_Bump.j0]) ?_
  exact Ev.bind (okVersion a b c s (by omega) (by omega) (by omega) h4) (Ev.pos rfl (Ev.bind (okVersion a b (c + 1) ⟨#[]⟩ (by omega) (by omega) (by omega) (by unfold presD; exact List.mem_cons_self)) (Ev.pos rfl (Ev.now _))))
theorem less_self (a b c : Int) (s : List UInt8) : less a b c s a b c s = false := by unfold less; simp
theorem leN_self (n : NeedT) : leN n n = true := by unfold leN; rw [less_self]; simp
theorem covB_self (l : List NeedT) : covB l l = true := by
  unfold covB
  rw [List.all_eq_true]
  intro n hn
  rw [List.any_eq_true]
  exact ⟨n, hn, leN_self n⟩
def bumped (n : NeedT) : NeedT := ⟨n.f0, ⟨n.f1.f0, n.f1.f1, n.f1.f2 + 1, ⟨#[]⟩⟩⟩
theorem leN_bumped (n : NeedT) : leN n (bumped n) = false := by
  have h : ¬ n.f1.f2 = n.f1.f2 + 1 := by omega
  have h2 : n.f1.f2 < n.f1.f2 + 1 := by omega
  unfold leN less bumped
  simp [h, h2]
theorem leN_back (n : NeedT) : leN (bumped n) n = true := by
  have h : ¬ n.f1.f2 + 1 = n.f1.f2 := by omega
  have h2 : ¬ n.f1.f2 + 1 < n.f1.f2 := by omega
  unfold leN less bumped
  simp only [if_neg h, if_true, decide_eq_false h2]
  simp
theorem apart_same {l : List NeedT} (h : apartN l) {i j : Nat} (hi : i < l.length) (hj : j < l.length) (e : l[i].f0.toList = l[j].f0.toList) : i = j := by
  unfold apartN at h
  rw [List.pairwise_iff_getElem] at h
  rcases Nat.lt_trichotomy i j with hlt | rfl | hgt
  · exact absurd e (h i j hi hj hlt)
  · rfl
  · exact absurd e.symm (h j i hj hi hgt)
theorem cov_up {l : List NeedT} (h : apartN l) {i : Nat} (hi : i < l.length) : covB l (l.set i (bumped l[i])) = false := by
  refine Bool.eq_false_iff.2 fun hc => ?_
  unfold covB at hc
  rw [List.all_eq_true] at hc
  have h1 := hc (bumped l[i]) (List.mem_set hi _)
  rw [List.any_eq_true] at h1
  obtain ⟨x, hx, hle⟩ := h1
  obtain ⟨j, hj, rfl⟩ := List.getElem_of_mem hx
  by_cases e : l[j].f0.toList = l[i].f0.toList
  · have := apart_same h hj hi e
    subst this
    rw [leN_bumped] at hle
    cases hle
  · unfold leN at hle
    rw [decide_eq_false (show ¬ l[j].f0.toList = (bumped l[i]).f0.toList from e)] at hle
    cases hle
theorem cov_down {l : List NeedT} {i : Nat} (hi : i < l.length) : covB (l.set i (bumped l[i])) l = true := by
  unfold covB
  rw [List.all_eq_true]
  intro n hn
  rw [List.any_eq_true]
  obtain ⟨j, hj, rfl⟩ := List.getElem_of_mem hn
  by_cases e : i = j
  · subst e
    exact ⟨bumped l[i], List.mem_set hi _, leN_back _⟩
  · refine ⟨l[j], ?_, leN_self _⟩
    have h2 : (l.set i (bumped l[i]))[j]'(by simpa using hj) = l[j] := List.getElem_set_ne e _
    rw [← h2]
    exact List.getElem_mem _
theorem drawCovers_p (b : List Int) (hb : b.length ≤ 140737488355328) : EvP (fun k => spec_DrawCovers.f k b) (fun r => (goodN r.1 ∧ r.1.length ≤ 3) ∧ shortN r.2) := by
  unfold spec_DrawCovers.f
  refine EvP.bind (l1New_p b hb) (fun c hc => ?_)
  obtain ⟨e, hc⟩ := hc
  rw [e]
  refine EvP.bind (l5Needs_p b _ _ hc) (fun l hl => EvP.bind (l1Once_p b _ _ 2 hl.2) (fun o ho => EvP.ite (fun _ => EvP.bind (l5Needs_p b _ _ ho) (fun m hm => EvP.now ⟨hl.1, hm.1.1.short (by have := hm.1.2; omega)⟩)) (fun _ => ?_)))
  have hlen := hl.1.2
  have hs := hl.1.1.short (by omega)
  refine EvP.bind (EvP.now (P := fun r => r = []) rfl) (fun y hy => ?_)
  subst hy
  refine EvP.pos (by simp only [List.length_nil]; omega) (EvP.bind (EvP.now (P := fun r => r = l.1) (List.nil_append _)) (fun y hy => ?_))
  subst hy
  refine EvP.ite (fun h => EvP.bind (l1Below_p b _ _ 4 ho) (fun a ha => EvP.pos (by omega) (EvP.now ⟨hl.1, ?_⟩))) (fun _ => EvP.now ⟨hl.1, hs⟩)
  refine ⟨fun x hx => ?_, by have := hs.2; simpa using this⟩
  rcases List.mem_or_eq_of_mem_set hx with hx | rfl
  · exact hs.1 x hx
  · exact hs.1 (rd_T36 l.1 0) (getD_mem (z := z36) (show (0 : Int).toNat < l.1.length by omega))
theorem law_ev (b : List Int) (hb : b.length ≤ 140737488351232) : Ev (fun k => laws_FnCovered.f k b) true := by
  unfold laws_FnCovered.f
  refine Ev.bind_const (show laws_big.f b = some (decide ((b.length : Int) > 1048576)) from rfl) ?_
  by_cases hbig : (b.length : Int) > 1048576
  · rw [decide_eq_true hbig]
    exact Ev.pos rfl (Ev.now _)
  rw [decide_eq_false hbig]
  refine Ev.neg (by decide) ?_
  obtain ⟨⟨l, m⟩, hdr, ⟨⟨hl, hlen⟩, hm⟩⟩ := drawCovers_p b (by omega)
  dsimp only at hl hlen hm
  have hs := hl.short (by omega)
  refine Ev.bind hdr (Ev.bind (coversI l m hs hm) (Ev.bind (coversS l m hs hm) (Ev.neg (by simp) ?_)))
  refine Ev.bind (coversI l l hs hs) ?_
  rw [covB_self]
  refine Ev.pos rfl (Ev.bind (coversI l [] hs ⟨(fun x hx => by cases hx), by simp⟩) ?_)
  have key : ∀ (d i : Nat), i + d = l.length → Ev (fun k => laws_FnCovered.l0 k l (i : Int)) true := by
    intro d
    induction d with
    | zero =>
      intro i hi
      refine Ev.step (f := fun _ => some true) (fun k => ?_) (Ev.now _)
      simp only [laws_FnCovered.l0]
      rw [if_neg (by omega)]
    | succ d ih =>
      intro i hi
      have hlx : i < l.length := by omega
      have hw := wrapS hlx (by omega)
      have hok := hl.1 _ (List.getElem_mem hlx)
      have hrd : rd_T36 l (i : Int) = l[i] := by rw [rdT, getD_lt hlx]
      have hup : shortN (l.set i (bumped l[i])) := by
        refine ⟨fun x hx => ?_, by have := hs.2; simpa using this⟩
        rcases List.mem_or_eq_of_mem_set hx with hx | rfl
        · exact hs.1 x hx
        · exact Nat.zero_le _
      refine Ev.step (f := fun k => (impl_Bump.f k l[i].f1.f0 l[i].f1.f1 l[i].f1.f2 l[i].f1.f3 2).bind fun v => (impl_Covers.f k l (l.set i ⟨l[i].f0, ⟨v.1, v.2.1, v.2.2.1, v.2.2.2⟩⟩)).bind fun t => if t = true then some false else (impl_Covers.f k (l.set i ⟨l[i].f0, ⟨v.1, v.2.1, v.2.2.1, v.2.2.2⟩⟩) l).bind fun u => if u = true then laws_FnCovered.l0 k l ((i + 1 : Nat) : Int) else some false) (fun k => ?_) ?_
      · simp only [laws_FnCovered.l0, Option.bind_some, List.nil_append, List.length_nil]
        rw [if_pos (by omega), if_pos (by omega), if_pos (by omega), if_pos (by omega), hrd, hw, Int.toNat_natCast]
      · refine Ev.bind (bump_ev _ _ _ _ hok.2) ?_
        change Ev (fun k => (impl_Covers.f k l (l.set i (bumped l[i]))).bind fun t => if t = true then some false else (impl_Covers.f k (l.set i (bumped l[i])) l).bind fun u => if u = true then laws_FnCovered.l0 k l ((i + 1 : Nat) : Int) else some false) true
        refine Ev.bind (coversI l _ hs hup) ?_
        rw [cov_up hl.2 hlx]
        refine Ev.neg (by decide) (Ev.bind (coversI _ l hup hs) ?_)
        rw [cov_down hlx]
        exact Ev.pos rfl (ih (i + 1) (by omega))
  have hrun := key l.length 0 (Nat.zero_add _)
  refine Ev.step (f := fun k => laws_FnCovered.l0 k l 0) (fun k => ?_) hrun
  simp only [laws_FnCovered.j0]
  rw [if_neg (by simp [covB])]
theorem law (l0 : List Int) (A0 : Option Addr) (c0 : Nat) (w : World) (hr0 : Kd.C (Kd.int .u8) w A0 l0.length l0) (hc0 : l0.length ≤ c0) (h0 : (∀ a ∈ l0, (Lit.int .u8 a).wf = true) ∧ l0.length * 1 ≤ 140737488351232) :
    Calls Tryd.prog 4 #[.slice A0 l0.length c0] w fun e w' => e = .returned (.bool true) ∧ Below w.heap.size w w' := by
  obtain ⟨k, h⟩ := (law_ev l0 (by omega)).rounds
  exact laws_FnCovered.calls k A0 c0 l0 true w hr0 hc0 h
end Go.Proofs.YtmkdeknpphimbaaDoor.PFnCovered
