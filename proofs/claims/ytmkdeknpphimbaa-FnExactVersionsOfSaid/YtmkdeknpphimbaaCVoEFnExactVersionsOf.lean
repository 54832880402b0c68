import Derived.Test.YtmkdeknpphimbaaCVoPFnExactVersionsOfx0
import Derived.Test.YtmkdeknpphimbaaCVoPFnExactVersionsOfx1
import Derived.Test.YtmkdeknpphimbaaCVoPFnExactVersionsOfx2
import Derived.Test.YtmkdeknpphimbaaCVoPFnExactVersionsOfx3
import Derived.Test.YtmkdeknpphimbaaCVoPFnExactVersionsOfx4
import Derived.Test.YtmkdeknpphimbaaCVoPFnExactVersionsOfx5
import Derived.Test.YtmkdeknpphimbaaCVoEv
namespace Go.Proofs.Ytmkdeknpphimbaa.PFnExactVersionsOf
open Go Go.RowKit Go.Proofs.YtmkdeknpphimbaaW.PrintWords Go.Proofs.YtmkdeknpphimbaaW.PrintLast Go.Proofs.YtmkdeknpphimbaaW.PrintMore Go.Proofs.Ytmkdeknpphimbaa.Ev
set_option linter.unusedVariables false
set_option linter.unusedSimpArgs false
def gdVersion (x : S42) : Prop := ((Lit.int .i64 x.f0).wf = true) ∧ ((Lit.int .i64 x.f1).wf = true) ∧ ((Lit.int .i64 x.f2).wf = true) ∧ (x.f3.size ≤ 140737488351232)
def cvVersion (x : S42) : S44 := ⟨x.f0, x.f1, x.f2, x.f3⟩
def gdNeed (x : S75) : Prop := (x.f0.size ≤ 140737488351232) ∧ (gdVersion x.f1)
def cvNeed (x : S75) : S78 := ⟨x.f0, cvVersion x.f1⟩
def gdEntry (x : S72) : Prop := (x.f0.size ≤ 140737488351232) ∧ (gdVersion x.f1) ∧ ((∀ a ∈ x.f2, gdNeed a) ∧ x.f2.length * 56 ≤ 140737488351232)
def cvEntry (x : S72) : S46 := ⟨x.f0, cvVersion x.f1, x.f2.map cvNeed⟩
def wtVersion (x : S42) : Nat := x.f3.size + (0)
def wtNeed (x : S75) : Nat := x.f0.size + ((x.f1.f3.size + (0)) + (0))
def wtEntry (x : S72) : Nat := x.f0.size + ((x.f1.f3.size + (0)) + ((x.f2.length + (x.f2.map wtNeed).sum) + (0)))
theorem sz_Version (a0 : Int) (a1 : Int) (a2 : Int) (a3 : ByteArray) (h3 : a3.size ≤ 140737488351232) (left : Int) (lo : 0 ≤ left) (hi : left ≤ 1099511627776) : SzW (fun k => laws_szVersion.f a0 a1 a2 a3 left) (a3.size + (0)) left := by
  unfold laws_szVersion.f
  rw [wsubW lo hi h3]
  refine SzW.cut lo (fun p4 => ?_)
  have q4 := Int.le_trans (Int.sub_le_self _ (Int.natCast_nonneg a3.size)) hi
  exact SzW.done _
theorem sz_Need (a0 : ByteArray) (a1 : Int) (a2 : Int) (a3 : Int) (a4 : ByteArray) (h0 : a0.size ≤ 140737488351232) (h4 : a4.size ≤ 140737488351232) (left : Int) (lo : 0 ≤ left) (hi : left ≤ 1099511627776) : SzW (fun k => laws_szNeed.f a0 a1 a2 a3 a4 left) (a0.size + ((a4.size + (0)) + (0))) left := by
  unfold laws_szNeed.f
  rw [wsubW lo hi h0]
  refine SzW.cut lo (fun p1 => ?_)
  have q1 := Int.le_trans (Int.sub_le_self _ (Int.natCast_nonneg a0.size)) hi
  refine SzW.seq p1 (sz_Version _ _ _ _ h4 _ p1 q1) (fun m2 p2 q2 => ?_)
  replace q2 := Int.le_trans q2 q1
  exact SzW.done _
theorem sz_NeedS (l : List S75) (h : (∀ a ∈ l, gdNeed a) ∧ l.length * 56 ≤ 140737488351232) (left : Int) (lo : 0 ≤ left) (hi : left ≤ 1099511627776) : SzW (fun k => laws_szNeedS.f k l left) (l.length + (l.map wtNeed).sum) left := by
  unfold laws_szNeedS.f
  rw [wsubW lo hi (by omega)]
  refine SzW.cut lo (fun lo' => ?_)
  have hl := szw_loop (fun k left i => laws_szNeedS.l0 k l left i) l.length (fun i => (wtNeed) (l.getD i z75)) (fun k left i hi => ?_) (fun i left V hi h0 h1 ih => ?_) _ lo' (by omega)
  · rw [sum_map_getD l z75 (wtNeed)] at hl
    exact hl
  · show laws_szNeedS.l0 (k + 1) l left i = some left
    simp only [laws_szNeedS.l0]
    rw [if_neg (by omega)]
  · have hw := wrapS hi (by omega)
    have hx := h.1 _ (getD_mem (z := z75) hi)
    refine SzW.step (f := ?f) (fun k => ?e) ?g
    case e =>
      simp only [laws_szNeedS.l0]
      rw [if_pos (by omega), if_pos (by omega), hw]
    case g => exact SzW.seq h0 (sz_Need _ _ _ _ _ hx.1 hx.2.2.2.2 _ h0 h1) (fun m m0 m1 => ih m m0 m1)
theorem sz_Entry (a0 : ByteArray) (a1 : Int) (a2 : Int) (a3 : Int) (a4 : ByteArray) (a5 : List S75) (h0 : a0.size ≤ 140737488351232) (h4 : a4.size ≤ 140737488351232) (h5 : (∀ a ∈ a5, gdNeed a) ∧ a5.length * 56 ≤ 140737488351232) (left : Int) (lo : 0 ≤ left) (hi : left ≤ 1099511627776) : SzW (fun k => laws_szEntry.f k a0 a1 a2 a3 a4 a5 left) (a0.size + ((a4.size + (0)) + ((a5.length + (a5.map wtNeed).sum) + (0)))) left := by
  unfold laws_szEntry.f
  rw [wsubW lo hi h0]
  refine SzW.cut lo (fun p1 => ?_)
  have q1 := Int.le_trans (Int.sub_le_self _ (Int.natCast_nonneg a0.size)) hi
  refine SzW.seq p1 (sz_Version _ _ _ _ h4 _ p1 q1) (fun m2 p2 q2 => ?_)
  replace q2 := Int.le_trans q2 q1
  refine SzW.seq p2 (sz_NeedS _ h5 _ p2 q2) (fun m3 p3 q3 => ?_)
  replace q3 := Int.le_trans q3 q2
  exact SzW.done _
theorem sz_EntryS (l : List S72) (h : (∀ a ∈ l, gdEntry a) ∧ l.length * 80 ≤ 140737488351232) (left : Int) (lo : 0 ≤ left) (hi : left ≤ 1099511627776) : SzW (fun k => laws_szEntryS.f k l left) (l.length + (l.map wtEntry).sum) left := by
  unfold laws_szEntryS.f
  rw [wsubW lo hi (by omega)]
  refine SzW.cut lo (fun lo' => ?_)
  have hl := szw_loop (fun k left i => laws_szEntryS.l0 k l left i) l.length (fun i => (wtEntry) (l.getD i z72)) (fun k left i hi => ?_) (fun i left V hi h0 h1 ih => ?_) _ lo' (by omega)
  · rw [sum_map_getD l z72 (wtEntry)] at hl
    exact hl
  · show laws_szEntryS.l0 (k + 1) l left i = some left
    simp only [laws_szEntryS.l0]
    rw [if_neg (by omega)]
  · have hw := wrapS hi (by omega)
    have hx := h.1 _ (getD_mem (z := z72) hi)
    refine SzW.step (f := ?f) (fun k => ?e) ?g
    case e =>
      simp only [laws_szEntryS.l0]
      rw [if_pos (by omega), if_pos (by omega), hw]
    case g => exact SzW.seq h0 (sz_Entry _ _ _ _ _ _ hx.1 hx.2.1.2.2.2 hx.2.2 _ h0 h1) (fun m m0 m1 => ih m m0 m1)
theorem to_Version (a0 : Int) (a1 : Int) (a2 : Int) (a3 : ByteArray) : laws_toVersion.f a0 a1 a2 a3 = some (a0, a1, a2, a3) := rfl
theorem to_Need (a0 : ByteArray) (a1 : Int) (a2 : Int) (a3 : Int) (a4 : ByteArray) : laws_toNeed.f a0 a1 a2 a3 a4 = some (a0, a1, a2, a3, a4) := rfl
theorem to_NeedS (l : List S75) (h : (∀ a ∈ l, gdNeed a) ∧ l.length * 56 ≤ 140737488351232) : Ev (fun k => laws_toNeedS.f k l) (l.map cvNeed) := by
  unfold laws_toNeedS.f
  refine Ev.pos (by omega) (Ev.pos (by have := h.2; omega) ?_)
  have hl := to_loop (fun k acc i => laws_toNeedS.l0 k l acc i) l.length z78 (fun i => cvNeed (l.getD i z75)) (fun k acc i hi => ?_) (fun i acc r hi hacc hk => ?_)
  · rw [map_range l z75 cvNeed] at hl
    exact hl
  · show laws_toNeedS.l0 (k + 1) l acc i = some acc
    simp only [laws_toNeedS.l0]
    rw [if_neg (by omega)]
  · have hw := wrapS hi (by have := h.2; omega)
    refine Ev.step (f := ?f) (fun k => ?e) ?g
    case e =>
      simp only [laws_toNeedS.l0]
      rw [if_pos (by omega), if_pos (by omega), hw]
    case g => exact Ev.bind_const (to_Need _ _ _ _ _ ) (Ev.pos (by omega) hk)
theorem to_Entry (a0 : ByteArray) (a1 : Int) (a2 : Int) (a3 : Int) (a4 : ByteArray) (a5 : List S75) (h5 : (∀ a ∈ a5, gdNeed a) ∧ a5.length * 56 ≤ 140737488351232) : Ev (fun k => laws_toEntry.f k a0 a1 a2 a3 a4 a5) (a0, a1, a2, a3, a4, (a5.map cvNeed)) := by
  unfold laws_toEntry.f
  refine Ev.bind_const (to_Version _ _ _ _ ) ?_
  refine Ev.bind (to_NeedS _ h5) ?_
  exact Ev.now _
theorem to_EntryS (l : List S72) (h : (∀ a ∈ l, gdEntry a) ∧ l.length * 80 ≤ 140737488351232) : Ev (fun k => laws_toEntryS.f k l) (l.map cvEntry) := by
  unfold laws_toEntryS.f
  refine Ev.pos (by omega) (Ev.pos (by have := h.2; omega) ?_)
  have hl := to_loop (fun k acc i => laws_toEntryS.l0 k l acc i) l.length z46 (fun i => cvEntry (l.getD i z72)) (fun k acc i hi => ?_) (fun i acc r hi hacc hk => ?_)
  · rw [map_range l z72 cvEntry] at hl
    exact hl
  · show laws_toEntryS.l0 (k + 1) l acc i = some acc
    simp only [laws_toEntryS.l0]
    rw [if_neg (by omega)]
  · have hw := wrapS hi (by have := h.2; omega)
    refine Ev.step (f := ?f) (fun k => ?e) ?g
    case e =>
      simp only [laws_toEntryS.l0]
      rw [if_pos (by omega), if_pos (by omega), hw]
    case g =>
      have hx := h.1 _ (getD_mem (z := z72) hi)
      exact Ev.bind (to_Entry _ _ _ _ _ _ hx.2.2) (Ev.pos (by omega) hk)
theorem eq_Version (a0 : Int) (a1 : Int) (a2 : Int) (a3 : ByteArray)  : laws_eqVersion.f a0 a1 a2 a3 a0 a1 a2 a3 = some true := by
  simp [laws_eqVersion.f]
theorem eq_Need (a0 : ByteArray) (a1 : Int) (a2 : Int) (a3 : Int) (a4 : ByteArray)  : laws_eqNeed.f a0 a1 a2 a3 a4 a0 a1 a2 a3 a4 = some true := by
  simp [eq_Version, laws_eqNeed.f]
theorem eq_NeedS (l : List S78) (h : l.length ≤ 281474976710656) : Ev (fun k => laws_eqNeedS.f k l l) true := by
  unfold laws_eqNeedS.f
  refine Ev.pos rfl (true_loop (fun k i => laws_eqNeedS.l0 k l l i) l.length (fun k i hi => ?_) (fun i r hi hk => ?_))
  · show laws_eqNeedS.l0 (k + 1) l l i = some true
    simp only [laws_eqNeedS.l0]
    rw [if_neg (by omega)]
  · have hw := wrapS hi h
    refine Ev.step (f := ?f) (fun k => ?e) ?g
    case e =>
      simp only [laws_eqNeedS.l0]
      rw [if_pos (by omega), if_pos (by omega), if_pos (by omega), hw]
    case g => exact Ev.bind_const (eq_Need _ _ _ _ _) (Ev.pos rfl hk)
theorem eq_Entry (a0 : ByteArray) (a1 : Int) (a2 : Int) (a3 : Int) (a4 : ByteArray) (a5 : List S78) (h5 : a5.length ≤ 281474976710656) : Ev (fun k => laws_eqEntry.f k a0 a1 a2 a3 a4 a5 a0 a1 a2 a3 a4 a5) true := by
  unfold laws_eqEntry.f
  exact Ev.pos rfl (Ev.bind_const (eq_Version _ _ _ _ ) (Ev.pos rfl (Ev.bind (eq_NeedS _ h5) (Ev.pos rfl (Ev.now _)))))
theorem eq_VersionS (l : List S44) (h : l.length ≤ 281474976710656) : Ev (fun k => laws_eqVersionS.f k l l) true := by
  unfold laws_eqVersionS.f
  refine Ev.pos rfl (true_loop (fun k i => laws_eqVersionS.l0 k l l i) l.length (fun k i hi => ?_) (fun i r hi hk => ?_))
  · show laws_eqVersionS.l0 (k + 1) l l i = some true
    simp only [laws_eqVersionS.l0]
    rw [if_neg (by omega)]
  · have hw := wrapS hi h
    refine Ev.step (f := ?f) (fun k => ?e) ?g
    case e =>
      simp only [laws_eqVersionS.l0]
      rw [if_pos (by omega), if_pos (by omega), if_pos (by omega), hw]
    case g => exact Ev.bind_const (eq_Version _ _ _ _) (Ev.pos rfl hk)
def glEntry (x : S46) : Prop := (x.f2.length ≤ 281474976710656)
theorem eq_EntryS (l : List S46) (h : (∀ x ∈ l, glEntry x) ∧ l.length ≤ 281474976710656) : Ev (fun k => laws_eqEntryS.f k l l) true := by
  unfold laws_eqEntryS.f
  refine Ev.pos rfl (true_loop (fun k i => laws_eqEntryS.l0 k l l i) l.length (fun k i hi => ?_) (fun i r hi hk => ?_))
  · show laws_eqEntryS.l0 (k + 1) l l i = some true
    simp only [laws_eqEntryS.l0]
    rw [if_neg (by omega)]
  · have hw := wrapS hi h.2
    refine Ev.step (f := ?f) (fun k => ?e) ?g
    case e =>
      simp only [laws_eqEntryS.l0]
      rw [if_pos (by omega), if_pos (by omega), if_pos (by omega), hw]
    case g =>
      have hx := h.1 _ (getD_mem (z := z46) hi)
      exact Ev.bind (eq_Entry _ _ _ _ _ _ hx) (Ev.pos rfl hk)
theorem markText_ends (c : Int) (h : c ≤ 4611686018427387904) : ∃ r, Ev (fun k => laws_markText.f k c) r := by
  have key : ∀ (d : Nat) (x : Int) (s : ByteArray), x.toNat ≤ d → x ≤ 4611686018427387904 → (s.size : Int) + x ≤ 4611686018427387904 → s.size ≤ 4611686018427387904 → ∃ r, Ev (fun k => laws_markText.l0 k x s) r := by
    intro d
    induction d with
    | zero =>
      intro x s hd h1 h2 h3
      refine ⟨(⟨#[109]⟩ : ByteArray) ++ s, Ev.step (f := fun _ => some ((⟨#[109]⟩ : ByteArray) ++ s)) (fun k => ?_) (Ev.now _)⟩
      simp only [laws_markText.l0]
      rw [if_neg (by omega), if_pos (by omega)]
    | succ d ih =>
      intro x s hd h1 h2 h3
      by_cases hx : x > 0
      · have e : wrap64 (Int.tdiv x 10) = x / 10 := by rw [Int.tdiv_eq_ediv_of_nonneg (by omega)]; unfold wrap64; omega
        have hsz : ∀ n : Int, (strOfNums [n] ++ s).size = 1 + s.size := fun n => by rw [ByteArray.size_append, strOfNums_size]; simp
        obtain ⟨r, hr⟩ := ih (x / 10) (strOfNums [(wrap64 (48 + (Int.tmod x 10))) % 256] ++ s) (by omega) (by omega) (by rw [hsz]; omega) (by rw [hsz]; omega)
        refine ⟨r, Ev.step (f := fun k => laws_markText.l0 k (x / 10) (strOfNums [(wrap64 (48 + (Int.tmod x 10))) % 256] ++ s)) (fun k => ?_) hr⟩
        simp only [laws_markText.l0]
        rw [if_pos hx]
        simp only [Option.bind_some]
        rw [if_pos (by rw [strOfNums_size]; simp only [List.length_singleton]; omega), e]
      · refine ⟨(⟨#[109]⟩ : ByteArray) ++ s, Ev.step (f := fun _ => some ((⟨#[109]⟩ : ByteArray) ++ s)) (fun k => ?_) (Ev.now _)⟩
        simp only [laws_markText.l0]
        rw [if_neg hx, if_pos (by omega)]
  unfold laws_markText.f
  by_cases hc : c ≤ 0
  · exact ⟨_, Ev.pos hc (Ev.now _)⟩
  · obtain ⟨r, hr⟩ := key c.toNat c (⟨#[]⟩ : ByteArray) (Nat.le_refl _) h (by simp [ByteArray.size]; omega) (by simp [ByteArray.size])
    exact ⟨r, Ev.neg hc hr⟩
open Classical in
noncomputable def mt (c : Int) : ByteArray := if h : c ≤ 4611686018427387904 then Classical.choose (markText_ends c h) else ByteArray.empty
theorem mt_ev (c : Int) (h : c ≤ 4611686018427387904) : Ev (fun k => laws_markText.f k c) (mt c) := by
  unfold mt
  rw [dif_pos h]
  exact Classical.choose_spec (markText_ends c h)
theorem w1 {c : Int} (h0 : 0 ≤ c) (h1 : c + 1 ≤ 4611686018427387904) : wrap64 (c + 1) = c + 1 := wrapI (by omega) (by omega)
noncomputable def mkVersion (c : Int) : S44 := ⟨c, (c + 1), ((c + 1) + 1), mt (((c + 1) + 1) + 1)⟩
theorem rdsVersion (xs : List S44) (v : S44) (i : Nat) (h : i < xs.length) : rd_T44 (xs.set i v) i = v := by
  unfold rd_T44
  simp [List.getD, h]
theorem markVersionS (xs : List S44) (hl : xs.length ≤ 281474976710656) (c : Int) (h0 : 0 ≤ c) (h1 : c + 4 * xs.length ≤ 4611686018427387904) : Ev (fun k => laws_markVersionS.f k xs c) (c + 4 * xs.length, (List.range xs.length).map fun (i : Nat) => mkVersion (c + 4 * i)) := by
  unfold laws_markVersionS.f
  refine mark_loop (fun k acc c i => laws_markVersionS.l0 k acc c i) xs.length 4 4611686018427387904 mkVersion (by omega) (fun k acc c i hacc hi => ?_) (fun i acc c r hi hacc h0 h1 hk => ?_) xs rfl c h0 h1
  · show laws_markVersionS.l0 (k + 1) acc c i = some (c, acc)
    simp only [laws_markVersionS.l0]
    rw [if_neg (by omega)]
  · have hw := wrapS hi hl
    have hil : i < acc.length := by omega
    have e1 : wrap64 (c + 1) = (c + 1) := wrapI (by omega) (by omega)
    have e2 : wrap64 ((c + 1) + 1) = ((c + 1) + 1) := wrapI (by omega) (by omega)
    have e3 : wrap64 (((c + 1) + 1) + 1) = (((c + 1) + 1) + 1) := wrapI (by omega) (by omega)
    have e4 : wrap64 ((((c + 1) + 1) + 1) + 1) = ((((c + 1) + 1) + 1) + 1) := wrapI (by omega) (by omega)
    refine Ev.step (f := ?f) (fun k => ?e) ?g
    case e => (simp only [laws_markVersionS.l0]; rw [if_pos (by omega)])
    case g =>
      repeat (first | (refine Ev.pos (by omega) ?_) | (refine Ev.bind (mt_ev _ (by omega)) ?_) | (simp only [Option.bind_some, e1, e2, e3, e4]))
      simp only [hw, Int.toNat_natCast, List.set_set, rdsVersion acc _ i hil]
      rw [show c + 4 = ((((c + 1) + 1) + 1) + 1) by omega] at hk
      exact hk
theorem heldVersionS (n : Nat) (hl : n ≤ 281474976710656) (c : Int) (h0 : 0 ≤ c) (h1 : c + 4 * n ≤ 4611686018427387904) : Ev (fun k => laws_heldVersionS.f k ((List.range n).map fun (i : Nat) => mkVersion (c + 4 * i)) c) (c + 4 * n) := by
  unfold laws_heldVersionS.f
  have hn : ((List.range n).map fun (i : Nat) => mkVersion (c + 4 * i)).length = n := by simp
  refine held_loop (fun k c0 i => laws_heldVersionS.l0 k ((List.range n).map fun (i : Nat) => mkVersion (c + 4 * i)) c0 i) n 4 4611686018427387904 (by omega) (fun k c0 i hi => ?_) c h0 h1 (fun i r hi h0 h1 hk => ?_)
  · show laws_heldVersionS.l0 (k + 1) _ c0 i = some c0
    simp only [laws_heldVersionS.l0]
    rw [if_neg (by omega)]
  · have hw := wrapS hi hl
    have hrd : rd_T44 ((List.range n).map fun (i : Nat) => mkVersion (c + 4 * i)) (i : Int) = mkVersion (c + 4 * i) := by
      unfold rd_T44
      simp [List.getD, hi]
    generalize c + 4 * (i : Int) = x at *
    have e1 : wrap64 (x + 1) = (x + 1) := wrapI (by omega) (by omega)
    have e2 : wrap64 ((x + 1) + 1) = ((x + 1) + 1) := wrapI (by omega) (by omega)
    have e3 : wrap64 (((x + 1) + 1) + 1) = (((x + 1) + 1) + 1) := wrapI (by omega) (by omega)
    have e4 : wrap64 ((((x + 1) + 1) + 1) + 1) = ((((x + 1) + 1) + 1) + 1) := wrapI (by omega) (by omega)
    refine Ev.step (f := ?f) (fun k => ?e) ?g
    case e => (simp only [laws_heldVersionS.l0]; rw [if_pos (by omega), hrd])
    case g =>
      simp only [mkVersion, hw, e1, e2, e3, e4]
      rw [show x + 4 = ((((x + 1) + 1) + 1) + 1) by omega] at hk
      repeat (first | exact hk | (refine Ev.pos (by first | omega | trivial | rfl) ?_) | (refine Ev.bind (mt_ev _ (by omega)) ?_))
noncomputable def mkNeed (c : Int) : S78 := ⟨mt c, ⟨(c + 1), ((c + 1) + 1), (((c + 1) + 1) + 1), mt ((((c + 1) + 1) + 1) + 1)⟩⟩
theorem rdsNeed (xs : List S78) (v : S78) (i : Nat) (h : i < xs.length) : rd_T78 (xs.set i v) i = v := by
  unfold rd_T78
  simp [List.getD, h]
theorem markNeedS (xs : List S78) (hl : xs.length ≤ 281474976710656) (c : Int) (h0 : 0 ≤ c) (h1 : c + 5 * xs.length ≤ 4611686018427387904) : Ev (fun k => laws_markNeedS.f k xs c) (c + 5 * xs.length, (List.range xs.length).map fun (i : Nat) => mkNeed (c + 5 * i)) := by
  unfold laws_markNeedS.f
  refine mark_loop (fun k acc c i => laws_markNeedS.l0 k acc c i) xs.length 5 4611686018427387904 mkNeed (by omega) (fun k acc c i hacc hi => ?_) (fun i acc c r hi hacc h0 h1 hk => ?_) xs rfl c h0 h1
  · show laws_markNeedS.l0 (k + 1) acc c i = some (c, acc)
    simp only [laws_markNeedS.l0]
    rw [if_neg (by omega)]
  · have hw := wrapS hi hl
    have hil : i < acc.length := by omega
    have e1 : wrap64 (c + 1) = (c + 1) := wrapI (by omega) (by omega)
    have e2 : wrap64 ((c + 1) + 1) = ((c + 1) + 1) := wrapI (by omega) (by omega)
    have e3 : wrap64 (((c + 1) + 1) + 1) = (((c + 1) + 1) + 1) := wrapI (by omega) (by omega)
    have e4 : wrap64 ((((c + 1) + 1) + 1) + 1) = ((((c + 1) + 1) + 1) + 1) := wrapI (by omega) (by omega)
    have e5 : wrap64 (((((c + 1) + 1) + 1) + 1) + 1) = (((((c + 1) + 1) + 1) + 1) + 1) := wrapI (by omega) (by omega)
    refine Ev.step (f := ?f) (fun k => ?e) ?g
    case e => (simp only [laws_markNeedS.l0]; rw [if_pos (by omega)])
    case g =>
      repeat (first | (refine Ev.pos (by omega) ?_) | (refine Ev.bind (mt_ev _ (by omega)) ?_) | (simp only [Option.bind_some, e1, e2, e3, e4, e5]))
      simp only [hw, Int.toNat_natCast, List.set_set, rdsNeed acc _ i hil]
      rw [show c + 5 = (((((c + 1) + 1) + 1) + 1) + 1) by omega] at hk
      exact hk
theorem gl_cvEntry (x : S72) (hx : gdEntry x) : glEntry (cvEntry x) := by
  refine ?_
  · have h := hx.2.2.2
    have e : (cvEntry x).f2.length = x.f2.length := List.length_map _
    show (cvEntry x).f2.length ≤ 281474976710656
    omega
theorem gl_EntryS (l : List S72) (h : (∀ a ∈ l, gdEntry a) ∧ l.length * 80 ≤ 140737488351232) : (∀ x ∈ (l.map cvEntry), glEntry x) ∧ (l.map cvEntry).length ≤ 281474976710656 := by
  refine ⟨fun x hx => ?_, by have := h.2; rw [List.length_map]; omega⟩
  obtain ⟨y, hy, rfl⟩ := List.mem_map.1 hx
  exact gl_cvEntry y (h.1 y hy)
end Go.Proofs.Ytmkdeknpphimbaa.PFnExactVersionsOf
