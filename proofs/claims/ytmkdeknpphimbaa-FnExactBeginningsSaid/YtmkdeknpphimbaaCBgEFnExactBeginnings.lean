import Derived.Test.YtmkdeknpphimbaaCBgPFnExactBeginningsx0
import Derived.Test.YtmkdeknpphimbaaCBgPFnExactBeginningsx1
import Derived.Test.YtmkdeknpphimbaaCBgPFnExactBeginningsx2
import Derived.Test.YtmkdeknpphimbaaCBgPFnExactBeginningsx3
import Derived.Test.YtmkdeknpphimbaaCBgPFnExactBeginningsx4
import Derived.Test.YtmkdeknpphimbaaCBgPFnExactBeginningsx5
import Derived.Test.YtmkdeknpphimbaaCBgPFnExactBeginningsx6
import Derived.Test.YtmkdeknpphimbaaCBgEv
namespace Go.Proofs.Ytmkdeknpphimbaa.PFnExactBeginnings
open Go Go.RowKit Go.Proofs.YtmkdeknpphimbaaW.PrintWords Go.Proofs.YtmkdeknpphimbaaW.PrintLast Go.Proofs.YtmkdeknpphimbaaW.PrintMore Go.Proofs.Ytmkdeknpphimbaa.Ev
set_option linter.unusedVariables false
set_option linter.unusedSimpArgs false
def gdHead (x : S114) : Prop := ((Lit.int .i64 x.f0).wf = true) ∧ (x.f1.size ≤ 140737488351232)
def cvHead (x : S114) : S91 := ⟨x.f0, x.f1⟩
def gdLog (x : S117) : Prop := ((∀ a ∈ x.f0, a.size ≤ 140737488351232) ∧ x.f0.length * 16 ≤ 140737488351232) ∧ (gdHead x.f1)
def cvLog (x : S117) : S105 := ⟨x.f0, cvHead x.f1⟩
def gdStore (x : S119) : Prop := (gdLog x.f0) ∧ ((∀ a ∈ x.f1, (Lit.int .u8 a).wf = true) ∧ x.f1.length * 1 ≤ 140737488351232) ∧ ((Lit.int .i64 x.f2).wf = true)
def cvStore (x : S119) : S108 := ⟨cvLog x.f0, x.f1, x.f2⟩
def gdMsg (x : S124) : Prop := ((Lit.int .i64 x.f0).wf = true) ∧ ((Lit.int .i64 x.f1).wf = true) ∧ ((Lit.int .i64 x.f2).wf = true) ∧ (gdHead x.f3) ∧ ((Lit.int .i64 x.f4).wf = true) ∧ ((∀ a ∈ x.f5, a.size ≤ 140737488351232) ∧ x.f5.length * 16 ≤ 140737488351232)
def cvMsg (x : S124) : S128 := ⟨x.f0, x.f1, x.f2, cvHead x.f3, x.f4, x.f5⟩
def gdMirror (x : S121) : Prop := ((Lit.int .i64 x.f0).wf = true) ∧ (gdStore x.f1) ∧ (gdHead x.f2)
def cvMirror (x : S121) : S110 := ⟨x.f0, cvStore x.f1, cvHead x.f2⟩
theorem sz_Head (a0 : Int) (a1 : ByteArray) (h1 : a1.size ≤ 140737488351232) (left : Int) (lo : 0 ≤ left) (hi : left ≤ 1099511627776) : SzE (fun k => laws_szHead.f a0 a1 left) left := by
  unfold laws_szHead.f
  exact SzE.cut (wsub lo hi h1) (fun p1 => SzE.done _) lo
theorem sz_StringS (l : List ByteArray) (h : (∀ a ∈ l, a.size ≤ 140737488351232) ∧ l.length * 16 ≤ 140737488351232) (left : Int) (lo : 0 ≤ left) (hi : left ≤ 1099511627776) : SzE (fun k => laws_szStringS.f k l left) left := by
  unfold laws_szStringS.f
  refine SzE.cut (wsub lo hi (by omega)) (fun h0' => ?_) lo
  refine sz_loop (fun k left i => laws_szStringS.l0 k l left i) l.length (fun k left i hi => ?_) (fun i left hi h0 h1 ih => ?_) _ h0' (Int.le_trans (wsub lo hi (by omega)) hi)
  · show laws_szStringS.l0 (k + 1) l left i = some left
    simp only [laws_szStringS.l0]
    rw [if_neg (by omega)]
  · have hw := wrapS hi (by omega)
    have hx := h.1 _ (getD_mem (z := ByteArray.empty) hi)
    refine SzE.step (f := ?f) (fun k => ?e) ?g
    case e =>
      simp only [laws_szStringS.l0]
      rw [if_pos (by omega), if_pos (by omega), hw]
    case g => exact SzE.cut (wsub h0 h1 hx) (fun h0' => ih _ h0' (wsub h0 h1 hx)) h0
theorem sz_Log (a0 : List ByteArray) (a1 : Int) (a2 : ByteArray) (h0 : (∀ a ∈ a0, a.size ≤ 140737488351232) ∧ a0.length * 16 ≤ 140737488351232) (h2 : a2.size ≤ 140737488351232) (left : Int) (lo : 0 ≤ left) (hi : left ≤ 1099511627776) : SzE (fun k => laws_szLog.f k a0 a1 a2 left) left := by
  unfold laws_szLog.f
  exact SzE.seq lo (sz_StringS _ h0 _ lo hi) (fun m1 p1 q1 => SzE.seq p1 (sz_Head _ _ h2 _ p1 (Int.le_trans q1 hi)) (fun m2 p2 q2 => SzE.done _))
theorem sz_ByteS (l : List Int) (h : (∀ a ∈ l, (Lit.int .u8 a).wf = true) ∧ l.length * 1 ≤ 140737488351232) (left : Int) (lo : 0 ≤ left) (hi : left ≤ 1099511627776) : SzE (fun k => laws_szByteS.f l left) left := by
  unfold laws_szByteS.f
  exact SzE.cut (wsub lo hi (by omega)) (fun _ => SzE.done _) lo
theorem sz_Store (a0 : List ByteArray) (a1 : Int) (a2 : ByteArray) (a3 : List Int) (a4 : Int) (h0 : (∀ a ∈ a0, a.size ≤ 140737488351232) ∧ a0.length * 16 ≤ 140737488351232) (h2 : a2.size ≤ 140737488351232) (h3 : (∀ a ∈ a3, (Lit.int .u8 a).wf = true) ∧ a3.length * 1 ≤ 140737488351232) (left : Int) (lo : 0 ≤ left) (hi : left ≤ 1099511627776) : SzE (fun k => laws_szStore.f k a0 a1 a2 a3 a4 left) left := by
  unfold laws_szStore.f
  exact SzE.seq lo (sz_Log _ _ _ h0 h2 _ lo hi) (fun m1 p1 q1 => SzE.seq p1 (sz_ByteS _ h3 _ p1 (Int.le_trans q1 hi)) (fun m2 p2 q2 => SzE.done _))
theorem sz_Msg (a0 : Int) (a1 : Int) (a2 : Int) (a3 : Int) (a4 : ByteArray) (a5 : Int) (a6 : List ByteArray) (h4 : a4.size ≤ 140737488351232) (h6 : (∀ a ∈ a6, a.size ≤ 140737488351232) ∧ a6.length * 16 ≤ 140737488351232) (left : Int) (lo : 0 ≤ left) (hi : left ≤ 1099511627776) : SzE (fun k => laws_szMsg.f k a0 a1 a2 a3 a4 a5 a6 left) left := by
  unfold laws_szMsg.f
  exact SzE.seq lo (sz_Head _ _ h4 _ lo hi) (fun m1 p1 q1 => SzE.seq p1 (sz_StringS _ h6 _ p1 (Int.le_trans q1 hi)) (fun m2 p2 q2 => SzE.done _))
theorem sz_Mirror (a0 : Int) (a1 : List ByteArray) (a2 : Int) (a3 : ByteArray) (a4 : List Int) (a5 : Int) (a6 : Int) (a7 : ByteArray) (h1 : (∀ a ∈ a1, a.size ≤ 140737488351232) ∧ a1.length * 16 ≤ 140737488351232) (h3 : a3.size ≤ 140737488351232) (h4 : (∀ a ∈ a4, (Lit.int .u8 a).wf = true) ∧ a4.length * 1 ≤ 140737488351232) (h7 : a7.size ≤ 140737488351232) (left : Int) (lo : 0 ≤ left) (hi : left ≤ 1099511627776) : SzE (fun k => laws_szMirror.f k a0 a1 a2 a3 a4 a5 a6 a7 left) left := by
  unfold laws_szMirror.f
  exact SzE.seq lo (sz_Store _ _ _ _ _ h1 h3 h4 _ lo hi) (fun m1 p1 q1 => SzE.seq p1 (sz_Head _ _ h7 _ p1 (Int.le_trans q1 hi)) (fun m2 p2 q2 => SzE.done _))
theorem sz_HeadS (l : List S114) (h : (∀ a ∈ l, gdHead a) ∧ l.length * 24 ≤ 140737488351232) (left : Int) (lo : 0 ≤ left) (hi : left ≤ 1099511627776) : SzE (fun k => laws_szHeadS.f k l left) left := by
  unfold laws_szHeadS.f
  refine SzE.cut (wsub lo hi (by omega)) (fun h0' => ?_) lo
  refine sz_loop (fun k left i => laws_szHeadS.l0 k l left i) l.length (fun k left i hi => ?_) (fun i left hi h0 h1 ih => ?_) _ h0' (Int.le_trans (wsub lo hi (by omega)) hi)
  · show laws_szHeadS.l0 (k + 1) l left i = some left
    simp only [laws_szHeadS.l0]
    rw [if_neg (by omega)]
  · have hw := wrapS hi (by omega)
    have hx := h.1 _ (getD_mem (z := z114) hi)
    refine SzE.step (f := ?f) (fun k => ?e) ?g
    case e =>
      simp only [laws_szHeadS.l0]
      rw [if_pos (by omega), if_pos (by omega), hw]
    case g => exact SzE.seq h0 (sz_Head _ _ hx.2 _ h0 h1) (fun m m0 m1 => ih m m0 m1)
theorem sz_MirrorS (l : List S121) (h : (∀ a ∈ l, gdMirror a) ∧ l.length * 112 ≤ 140737488351232) (left : Int) (lo : 0 ≤ left) (hi : left ≤ 1099511627776) : SzE (fun k => laws_szMirrorS.f k l left) left := by
  unfold laws_szMirrorS.f
  refine SzE.cut (wsub lo hi (by omega)) (fun h0' => ?_) lo
  refine sz_loop (fun k left i => laws_szMirrorS.l0 k l left i) l.length (fun k left i hi => ?_) (fun i left hi h0 h1 ih => ?_) _ h0' (Int.le_trans (wsub lo hi (by omega)) hi)
  · show laws_szMirrorS.l0 (k + 1) l left i = some left
    simp only [laws_szMirrorS.l0]
    rw [if_neg (by omega)]
  · have hw := wrapS hi (by omega)
    have hx := h.1 _ (getD_mem (z := z121) hi)
    refine SzE.step (f := ?f) (fun k => ?e) ?g
    case e =>
      simp only [laws_szMirrorS.l0]
      rw [if_pos (by omega), if_pos (by omega), hw]
    case g => exact SzE.seq h0 (sz_Mirror _ _ _ _ _ _ _ _ hx.2.1.1.1 hx.2.1.1.2.2 hx.2.1.2.1 hx.2.2.2 _ h0 h1) (fun m m0 m1 => ih m m0 m1)
theorem sz_IntS (l : List Int) (h : (∀ a ∈ l, (Lit.int .i64 a).wf = true) ∧ l.length * 8 ≤ 140737488351232) (left : Int) (lo : 0 ≤ left) (hi : left ≤ 1099511627776) : SzE (fun k => laws_szIntS.f l left) left := by
  unfold laws_szIntS.f
  exact SzE.cut (wsub lo hi (by omega)) (fun _ => SzE.done _) lo
theorem sz_MsgS (l : List S124) (h : (∀ a ∈ l, gdMsg a) ∧ l.length * 80 ≤ 140737488351232) (left : Int) (lo : 0 ≤ left) (hi : left ≤ 1099511627776) : SzE (fun k => laws_szMsgS.f k l left) left := by
  unfold laws_szMsgS.f
  refine SzE.cut (wsub lo hi (by omega)) (fun h0' => ?_) lo
  refine sz_loop (fun k left i => laws_szMsgS.l0 k l left i) l.length (fun k left i hi => ?_) (fun i left hi h0 h1 ih => ?_) _ h0' (Int.le_trans (wsub lo hi (by omega)) hi)
  · show laws_szMsgS.l0 (k + 1) l left i = some left
    simp only [laws_szMsgS.l0]
    rw [if_neg (by omega)]
  · have hw := wrapS hi (by omega)
    have hx := h.1 _ (getD_mem (z := z124) hi)
    refine SzE.step (f := ?f) (fun k => ?e) ?g
    case e =>
      simp only [laws_szMsgS.l0]
      rw [if_pos (by omega), if_pos (by omega), hw]
    case g => exact SzE.seq h0 (sz_Msg _ _ _ _ _ _ _ hx.2.2.2.1.2 hx.2.2.2.2.2 _ h0 h1) (fun m m0 m1 => ih m m0 m1)
theorem sz_World (a0 : List ByteArray) (a1 : List S114) (a2 : List S121) (a3 : List Int) (a4 : List S124) (h0 : (∀ a ∈ a0, a.size ≤ 140737488351232) ∧ a0.length * 16 ≤ 140737488351232) (h1 : (∀ a ∈ a1, gdHead a) ∧ a1.length * 24 ≤ 140737488351232) (h2 : (∀ a ∈ a2, gdMirror a) ∧ a2.length * 112 ≤ 140737488351232) (h3 : (∀ a ∈ a3, (Lit.int .i64 a).wf = true) ∧ a3.length * 8 ≤ 140737488351232) (h4 : (∀ a ∈ a4, gdMsg a) ∧ a4.length * 80 ≤ 140737488351232) (left : Int) (lo : 0 ≤ left) (hi : left ≤ 1099511627776) : SzE (fun k => laws_szWorld.f k a0 a1 a2 a3 a4 left) left := by
  unfold laws_szWorld.f
  exact SzE.seq lo (sz_StringS _ h0 _ lo hi) (fun m1 p1 q1 => SzE.seq p1 (sz_HeadS _ h1 _ p1 (Int.le_trans q1 hi)) (fun m2 p2 q2 => SzE.seq p2 (sz_MirrorS _ h2 _ p2 (Int.le_trans q2 (Int.le_trans q1 hi))) (fun m3 p3 q3 => SzE.seq p3 (sz_IntS _ h3 _ p3 (Int.le_trans q3 (Int.le_trans q2 (Int.le_trans q1 hi)))) (fun m4 p4 q4 => SzE.seq p4 (sz_MsgS _ h4 _ p4 (Int.le_trans q4 (Int.le_trans q3 (Int.le_trans q2 (Int.le_trans q1 hi))))) (fun m5 p5 q5 => SzE.done _)))))
theorem to_Head (a0 : Int) (a1 : ByteArray) : laws_toHead.f a0 a1 = some (a0, a1) := rfl
theorem to_StringS (l : List ByteArray) (h : (∀ a ∈ l, a.size ≤ 140737488351232) ∧ l.length * 16 ≤ 140737488351232) : Ev (fun k => laws_toStringS.f k l) l := by
  unfold laws_toStringS.f
  refine Ev.pos (by omega) (Ev.pos (by have := h.2; omega) ?_)
  have hl := to_loop (fun k acc i => laws_toStringS.l0 k l acc i) l.length (⟨#[]⟩ : ByteArray) (fun i => l.getD i (ByteArray.empty)) (fun k acc i hi => ?_) (fun i acc r hi hacc hk => ?_)
  · rw [show (List.range l.length).map (fun i => l.getD i (ByteArray.empty)) = l from (map_range l ByteArray.empty (fun x => x)).trans (List.map_id' l)] at hl
    exact hl
  · show laws_toStringS.l0 (k + 1) l acc i = some acc
    simp only [laws_toStringS.l0]
    rw [if_neg (by omega)]
  · have hw := wrapS hi (by have := h.2; omega)
    refine Ev.step (f := ?f) (fun k => ?e) ?g
    case e =>
      simp only [laws_toStringS.l0]
      rw [if_pos (by omega), if_pos (by omega), hw]
    case g => exact Ev.pos (by omega) hk
theorem to_Log (a0 : List ByteArray) (a1 : Int) (a2 : ByteArray) (h0 : (∀ a ∈ a0, a.size ≤ 140737488351232) ∧ a0.length * 16 ≤ 140737488351232) : Ev (fun k => laws_toLog.f k a0 a1 a2) (a0, a1, a2) := by
  unfold laws_toLog.f
  refine Ev.bind (to_StringS _ h0) ?_
  refine Ev.bind_const (to_Head _ _ ) ?_
  exact Ev.now _
theorem to_ByteS (l : List Int) (h : (∀ a ∈ l, (Lit.int .u8 a).wf = true) ∧ l.length * 1 ≤ 140737488351232) : Ev (fun k => laws_toByteS.f k l) l := by
  unfold laws_toByteS.f
  refine Ev.pos (by omega) (Ev.pos (by have := h.2; omega) ?_)
  have hl := to_loop (fun k acc i => laws_toByteS.l0 k l acc i) l.length 0 (fun i => l.getD i (0)) (fun k acc i hi => ?_) (fun i acc r hi hacc hk => ?_)
  · rw [show (List.range l.length).map (fun i => l.getD i (0)) = l from (map_range l 0 (fun x => x)).trans (List.map_id' l)] at hl
    exact hl
  · show laws_toByteS.l0 (k + 1) l acc i = some acc
    simp only [laws_toByteS.l0]
    rw [if_neg (by omega)]
  · have hw := wrapS hi (by have := h.2; omega)
    refine Ev.step (f := ?f) (fun k => ?e) ?g
    case e =>
      simp only [laws_toByteS.l0]
      rw [if_pos (by omega), if_pos (by omega), hw]
    case g => exact Ev.pos (by omega) hk
theorem to_Store (a0 : List ByteArray) (a1 : Int) (a2 : ByteArray) (a3 : List Int) (a4 : Int) (h0 : (∀ a ∈ a0, a.size ≤ 140737488351232) ∧ a0.length * 16 ≤ 140737488351232) (h3 : (∀ a ∈ a3, (Lit.int .u8 a).wf = true) ∧ a3.length * 1 ≤ 140737488351232) : Ev (fun k => laws_toStore.f k a0 a1 a2 a3 a4) (a0, a1, a2, a3, a4) := by
  unfold laws_toStore.f
  refine Ev.bind (to_Log _ _ _ h0) ?_
  refine Ev.bind (to_ByteS _ h3) ?_
  exact Ev.now _
theorem to_Msg (a0 : Int) (a1 : Int) (a2 : Int) (a3 : Int) (a4 : ByteArray) (a5 : Int) (a6 : List ByteArray) (h6 : (∀ a ∈ a6, a.size ≤ 140737488351232) ∧ a6.length * 16 ≤ 140737488351232) : Ev (fun k => laws_toMsg.f k a0 a1 a2 a3 a4 a5 a6) (a0, a1, a2, a3, a4, a5, a6) := by
  unfold laws_toMsg.f
  refine Ev.bind_const (to_Head _ _ ) ?_
  refine Ev.bind (to_StringS _ h6) ?_
  exact Ev.now _
theorem to_Mirror (a0 : Int) (a1 : List ByteArray) (a2 : Int) (a3 : ByteArray) (a4 : List Int) (a5 : Int) (a6 : Int) (a7 : ByteArray) (h1 : (∀ a ∈ a1, a.size ≤ 140737488351232) ∧ a1.length * 16 ≤ 140737488351232) (h4 : (∀ a ∈ a4, (Lit.int .u8 a).wf = true) ∧ a4.length * 1 ≤ 140737488351232) : Ev (fun k => laws_toMirror.f k a0 a1 a2 a3 a4 a5 a6 a7) (a0, a1, a2, a3, a4, a5, a6, a7) := by
  unfold laws_toMirror.f
  refine Ev.bind (to_Store _ _ _ _ _ h1 h4) ?_
  refine Ev.bind_const (to_Head _ _ ) ?_
  exact Ev.now _
theorem to_HeadS (l : List S114) (h : (∀ a ∈ l, gdHead a) ∧ l.length * 24 ≤ 140737488351232) : Ev (fun k => laws_toHeadS.f k l) (l.map cvHead) := by
  unfold laws_toHeadS.f
  refine Ev.pos (by omega) (Ev.pos (by have := h.2; omega) ?_)
  have hl := to_loop (fun k acc i => laws_toHeadS.l0 k l acc i) l.length z91 (fun i => cvHead (l.getD i z114)) (fun k acc i hi => ?_) (fun i acc r hi hacc hk => ?_)
  · rw [map_range l z114 cvHead] at hl
    exact hl
  · show laws_toHeadS.l0 (k + 1) l acc i = some acc
    simp only [laws_toHeadS.l0]
    rw [if_neg (by omega)]
  · have hw := wrapS hi (by have := h.2; omega)
    refine Ev.step (f := ?f) (fun k => ?e) ?g
    case e =>
      simp only [laws_toHeadS.l0]
      rw [if_pos (by omega), if_pos (by omega), hw]
    case g => exact Ev.bind_const (to_Head _ _ ) (Ev.pos (by omega) hk)
theorem to_MirrorS (l : List S121) (h : (∀ a ∈ l, gdMirror a) ∧ l.length * 112 ≤ 140737488351232) : Ev (fun k => laws_toMirrorS.f k l) (l.map cvMirror) := by
  unfold laws_toMirrorS.f
  refine Ev.pos (by omega) (Ev.pos (by have := h.2; omega) ?_)
  have hl := to_loop (fun k acc i => laws_toMirrorS.l0 k l acc i) l.length z110 (fun i => cvMirror (l.getD i z121)) (fun k acc i hi => ?_) (fun i acc r hi hacc hk => ?_)
  · rw [map_range l z121 cvMirror] at hl
    exact hl
  · show laws_toMirrorS.l0 (k + 1) l acc i = some acc
    simp only [laws_toMirrorS.l0]
    rw [if_neg (by omega)]
  · have hw := wrapS hi (by have := h.2; omega)
    refine Ev.step (f := ?f) (fun k => ?e) ?g
    case e =>
      simp only [laws_toMirrorS.l0]
      rw [if_pos (by omega), if_pos (by omega), hw]
    case g =>
      have hx := h.1 _ (getD_mem (z := z121) hi)
      exact Ev.bind (to_Mirror _ _ _ _ _ _ _ _ hx.2.1.1.1 hx.2.1.2.1) (Ev.pos (by omega) hk)
theorem to_IntS (l : List Int) (h : (∀ a ∈ l, (Lit.int .i64 a).wf = true) ∧ l.length * 8 ≤ 140737488351232) : Ev (fun k => laws_toIntS.f k l) l := by
  unfold laws_toIntS.f
  refine Ev.pos (by omega) (Ev.pos (by have := h.2; omega) ?_)
  have hl := to_loop (fun k acc i => laws_toIntS.l0 k l acc i) l.length 0 (fun i => l.getD i (0)) (fun k acc i hi => ?_) (fun i acc r hi hacc hk => ?_)
  · rw [show (List.range l.length).map (fun i => l.getD i (0)) = l from (map_range l 0 (fun x => x)).trans (List.map_id' l)] at hl
    exact hl
  · show laws_toIntS.l0 (k + 1) l acc i = some acc
    simp only [laws_toIntS.l0]
    rw [if_neg (by omega)]
  · have hw := wrapS hi (by have := h.2; omega)
    refine Ev.step (f := ?f) (fun k => ?e) ?g
    case e =>
      simp only [laws_toIntS.l0]
      rw [if_pos (by omega), if_pos (by omega), hw]
    case g => exact Ev.pos (by omega) hk
theorem to_MsgS (l : List S124) (h : (∀ a ∈ l, gdMsg a) ∧ l.length * 80 ≤ 140737488351232) : Ev (fun k => laws_toMsgS.f k l) (l.map cvMsg) := by
  unfold laws_toMsgS.f
  refine Ev.pos (by omega) (Ev.pos (by have := h.2; omega) ?_)
  have hl := to_loop (fun k acc i => laws_toMsgS.l0 k l acc i) l.length z128 (fun i => cvMsg (l.getD i z124)) (fun k acc i hi => ?_) (fun i acc r hi hacc hk => ?_)
  · rw [map_range l z124 cvMsg] at hl
    exact hl
  · show laws_toMsgS.l0 (k + 1) l acc i = some acc
    simp only [laws_toMsgS.l0]
    rw [if_neg (by omega)]
  · have hw := wrapS hi (by have := h.2; omega)
    refine Ev.step (f := ?f) (fun k => ?e) ?g
    case e =>
      simp only [laws_toMsgS.l0]
      rw [if_pos (by omega), if_pos (by omega), hw]
    case g =>
      have hx := h.1 _ (getD_mem (z := z124) hi)
      exact Ev.bind (to_Msg _ _ _ _ _ _ _ hx.2.2.2.2.2) (Ev.pos (by omega) hk)
theorem to_World (a0 : List ByteArray) (a1 : List S114) (a2 : List S121) (a3 : List Int) (a4 : List S124) (h0 : (∀ a ∈ a0, a.size ≤ 140737488351232) ∧ a0.length * 16 ≤ 140737488351232) (h1 : (∀ a ∈ a1, gdHead a) ∧ a1.length * 24 ≤ 140737488351232) (h2 : (∀ a ∈ a2, gdMirror a) ∧ a2.length * 112 ≤ 140737488351232) (h3 : (∀ a ∈ a3, (Lit.int .i64 a).wf = true) ∧ a3.length * 8 ≤ 140737488351232) (h4 : (∀ a ∈ a4, gdMsg a) ∧ a4.length * 80 ≤ 140737488351232) : Ev (fun k => laws_toWorld.f k a0 a1 a2 a3 a4) (a0, (a1.map cvHead), (a2.map cvMirror), a3, (a4.map cvMsg)) := by
  unfold laws_toWorld.f
  refine Ev.bind (to_StringS _ h0) ?_
  refine Ev.bind (to_HeadS _ h1) ?_
  refine Ev.bind (to_MirrorS _ h2) ?_
  refine Ev.bind (to_IntS _ h3) ?_
  refine Ev.bind (to_MsgS _ h4) ?_
  exact Ev.now _
theorem eq_Head (a0 : Int) (a1 : ByteArray)  : laws_eqHead.f a0 a1 a0 a1 = some true := by
  simp [laws_eqHead.f]
theorem eq_StringS (l : List ByteArray) (h : l.length ≤ 281474976710656) : Ev (fun k => laws_eqStringS.f k l l) true := by
  unfold laws_eqStringS.f
  refine Ev.pos rfl (true_loop (fun k i => laws_eqStringS.l0 k l l i) l.length (fun k i hi => ?_) (fun i r hi hk => ?_))
  · show laws_eqStringS.l0 (k + 1) l l i = some true
    simp only [laws_eqStringS.l0]
    rw [if_neg (by omega)]
  · have hw := wrapS hi h
    refine Ev.step (f := ?f) (fun k => ?e) ?g
    case e =>
      simp only [laws_eqStringS.l0]
      rw [if_pos (by omega), if_pos (by omega), if_pos (by omega), hw]
    case g => exact Ev.pos (by simp) hk
theorem eq_Log (a0 : List ByteArray) (a1 : Int) (a2 : ByteArray) (h0 : a0.length ≤ 281474976710656) : Ev (fun k => laws_eqLog.f k a0 a1 a2 a0 a1 a2) true := by
  unfold laws_eqLog.f
  exact Ev.bind (eq_StringS _ h0) (Ev.pos rfl (Ev.bind_const (eq_Head _ _ ) (Ev.pos rfl (Ev.now _))))
theorem eq_ByteS (l : List Int) (h : l.length ≤ 281474976710656) : Ev (fun k => laws_eqByteS.f k l l) true := by
  unfold laws_eqByteS.f
  refine Ev.pos rfl (true_loop (fun k i => laws_eqByteS.l0 k l l i) l.length (fun k i hi => ?_) (fun i r hi hk => ?_))
  · show laws_eqByteS.l0 (k + 1) l l i = some true
    simp only [laws_eqByteS.l0]
    rw [if_neg (by omega)]
  · have hw := wrapS hi h
    refine Ev.step (f := ?f) (fun k => ?e) ?g
    case e =>
      simp only [laws_eqByteS.l0]
      rw [if_pos (by omega), if_pos (by omega), if_pos (by omega), hw]
    case g => exact Ev.pos (by simp) hk
theorem eq_Store (a0 : List ByteArray) (a1 : Int) (a2 : ByteArray) (a3 : List Int) (a4 : Int) (h0 : a0.length ≤ 281474976710656) (h3 : a3.length ≤ 281474976710656) : Ev (fun k => laws_eqStore.f k a0 a1 a2 a3 a4 a0 a1 a2 a3 a4) true := by
  unfold laws_eqStore.f
  exact Ev.bind (eq_Log _ _ _ h0) (Ev.pos rfl (Ev.bind (eq_ByteS _ h3) (Ev.pos rfl (Ev.pos rfl (Ev.now _)))))
theorem eq_Msg (a0 : Int) (a1 : Int) (a2 : Int) (a3 : Int) (a4 : ByteArray) (a5 : Int) (a6 : List ByteArray) (h6 : a6.length ≤ 281474976710656) : Ev (fun k => laws_eqMsg.f k a0 a1 a2 a3 a4 a5 a6 a0 a1 a2 a3 a4 a5 a6) true := by
  unfold laws_eqMsg.f
  exact Ev.pos rfl (Ev.pos rfl (Ev.pos rfl (Ev.bind_const (eq_Head _ _ ) (Ev.pos rfl (Ev.pos rfl (Ev.bind (eq_StringS _ h6) (Ev.pos rfl (Ev.now _))))))))
theorem eq_Mirror (a0 : Int) (a1 : List ByteArray) (a2 : Int) (a3 : ByteArray) (a4 : List Int) (a5 : Int) (a6 : Int) (a7 : ByteArray) (h1 : a1.length ≤ 281474976710656) (h4 : a4.length ≤ 281474976710656) : Ev (fun k => laws_eqMirror.f k a0 a1 a2 a3 a4 a5 a6 a7 a0 a1 a2 a3 a4 a5 a6 a7) true := by
  unfold laws_eqMirror.f
  exact Ev.pos rfl (Ev.bind (eq_Store _ _ _ _ _ h1 h4) (Ev.pos rfl (Ev.bind_const (eq_Head _ _ ) (Ev.pos rfl (Ev.now _)))))
theorem eq_HeadS (l : List S91) (h : l.length ≤ 281474976710656) : Ev (fun k => laws_eqHeadS.f k l l) true := by
  unfold laws_eqHeadS.f
  refine Ev.pos rfl (true_loop (fun k i => laws_eqHeadS.l0 k l l i) l.length (fun k i hi => ?_) (fun i r hi hk => ?_))
  · show laws_eqHeadS.l0 (k + 1) l l i = some true
    simp only [laws_eqHeadS.l0]
    rw [if_neg (by omega)]
  · have hw := wrapS hi h
    refine Ev.step (f := ?f) (fun k => ?e) ?g
    case e =>
      simp only [laws_eqHeadS.l0]
      rw [if_pos (by omega), if_pos (by omega), if_pos (by omega), hw]
    case g => exact Ev.bind_const (eq_Head _ _) (Ev.pos rfl hk)
def glMirror (x : S110) : Prop := (x.f1.f0.f0.length ≤ 281474976710656) ∧ (x.f1.f1.length ≤ 281474976710656)
theorem eq_MirrorS (l : List S110) (h : (∀ x ∈ l, glMirror x) ∧ l.length ≤ 281474976710656) : Ev (fun k => laws_eqMirrorS.f k l l) true := by
  unfold laws_eqMirrorS.f
  refine Ev.pos rfl (true_loop (fun k i => laws_eqMirrorS.l0 k l l i) l.length (fun k i hi => ?_) (fun i r hi hk => ?_))
  · show laws_eqMirrorS.l0 (k + 1) l l i = some true
    simp only [laws_eqMirrorS.l0]
    rw [if_neg (by omega)]
  · have hw := wrapS hi h.2
    refine Ev.step (f := ?f) (fun k => ?e) ?g
    case e =>
      simp only [laws_eqMirrorS.l0]
      rw [if_pos (by omega), if_pos (by omega), if_pos (by omega), hw]
    case g =>
      have hx := h.1 _ (getD_mem (z := z110) hi)
      exact Ev.bind (eq_Mirror _ _ _ _ _ _ _ _ hx.1 hx.2) (Ev.pos rfl hk)
theorem eq_IntS (l : List Int) (h : l.length ≤ 281474976710656) : Ev (fun k => laws_eqIntS.f k l l) true := by
  unfold laws_eqIntS.f
  refine Ev.pos rfl (true_loop (fun k i => laws_eqIntS.l0 k l l i) l.length (fun k i hi => ?_) (fun i r hi hk => ?_))
  · show laws_eqIntS.l0 (k + 1) l l i = some true
    simp only [laws_eqIntS.l0]
    rw [if_neg (by omega)]
  · have hw := wrapS hi h
    refine Ev.step (f := ?f) (fun k => ?e) ?g
    case e =>
      simp only [laws_eqIntS.l0]
      rw [if_pos (by omega), if_pos (by omega), if_pos (by omega), hw]
    case g => exact Ev.pos (by simp) hk
def glMsg (x : S128) : Prop := (x.f5.length ≤ 281474976710656)
theorem eq_MsgS (l : List S128) (h : (∀ x ∈ l, glMsg x) ∧ l.length ≤ 281474976710656) : Ev (fun k => laws_eqMsgS.f k l l) true := by
  unfold laws_eqMsgS.f
  refine Ev.pos rfl (true_loop (fun k i => laws_eqMsgS.l0 k l l i) l.length (fun k i hi => ?_) (fun i r hi hk => ?_))
  · show laws_eqMsgS.l0 (k + 1) l l i = some true
    simp only [laws_eqMsgS.l0]
    rw [if_neg (by omega)]
  · have hw := wrapS hi h.2
    refine Ev.step (f := ?f) (fun k => ?e) ?g
    case e =>
      simp only [laws_eqMsgS.l0]
      rw [if_pos (by omega), if_pos (by omega), if_pos (by omega), hw]
    case g =>
      have hx := h.1 _ (getD_mem (z := z128) hi)
      exact Ev.bind (eq_Msg _ _ _ _ _ _ _ hx) (Ev.pos rfl hk)
theorem eq_World (a0 : List ByteArray) (a1 : List S91) (a2 : List S110) (a3 : List Int) (a4 : List S128) (h0 : a0.length ≤ 281474976710656) (h1 : a1.length ≤ 281474976710656) (h2 : (∀ x ∈ a2, glMirror x) ∧ a2.length ≤ 281474976710656) (h3 : a3.length ≤ 281474976710656) (h4 : (∀ x ∈ a4, glMsg x) ∧ a4.length ≤ 281474976710656) : Ev (fun k => laws_eqWorld.f k a0 a1 a2 a3 a4 a0 a1 a2 a3 a4) true := by
  unfold laws_eqWorld.f
  exact Ev.bind (eq_StringS _ h0) (Ev.pos rfl (Ev.bind (eq_HeadS _ h1) (Ev.pos rfl (Ev.bind (eq_MirrorS _ h2) (Ev.pos rfl (Ev.bind (eq_IntS _ h3) (Ev.pos rfl (Ev.bind (eq_MsgS _ h4) (Ev.pos rfl (Ev.now _))))))))))
theorem gl_cvMsg (x : S124) (hx : gdMsg x) : glMsg (cvMsg x) := by
  refine ?_
  · have h := hx.2.2.2.2.2.2
    have e : (cvMsg x).f5.length = x.f5.length := rfl
    show (cvMsg x).f5.length ≤ 281474976710656
    omega
theorem gl_MsgS (l : List S124) (h : (∀ a ∈ l, gdMsg a) ∧ l.length * 80 ≤ 140737488351232) : (∀ x ∈ (l.map cvMsg), glMsg x) ∧ (l.map cvMsg).length ≤ 281474976710656 := by
  refine ⟨fun x hx => ?_, by have := h.2; rw [List.length_map]; omega⟩
  obtain ⟨y, hy, rfl⟩ := List.mem_map.1 hx
  exact gl_cvMsg y (h.1 y hy)
theorem gl_cvMirror (x : S121) (hx : gdMirror x) : glMirror (cvMirror x) := by
  refine ⟨?_, ?_⟩
  · have h := hx.2.1.1.1.2
    have e : (cvMirror x).f1.f0.f0.length = x.f1.f0.f0.length := rfl
    show (cvMirror x).f1.f0.f0.length ≤ 281474976710656
    omega
  · have h := hx.2.1.2.1.2
    have e : (cvMirror x).f1.f1.length = x.f1.f1.length := rfl
    show (cvMirror x).f1.f1.length ≤ 281474976710656
    omega
theorem gl_MirrorS (l : List S121) (h : (∀ a ∈ l, gdMirror a) ∧ l.length * 112 ≤ 140737488351232) : (∀ x ∈ (l.map cvMirror), glMirror x) ∧ (l.map cvMirror).length ≤ 281474976710656 := by
  refine ⟨fun x hx => ?_, by have := h.2; rw [List.length_map]; omega⟩
  obtain ⟨y, hy, rfl⟩ := List.mem_map.1 hx
  exact gl_cvMirror y (h.1 y hy)
end Go.Proofs.Ytmkdeknpphimbaa.PFnExactBeginnings
