import Derived.Test.YtfpdikledfhcaaaGreatDoorCCaPFnExactClientOkx0
import Derived.Test.YtfpdikledfhcaaaGreatDoorCCaPFnExactClientOkx14
import Derived.Test.YtfpdikledfhcaaaGreatDoorCCaPFnExactClientOkx15
import Derived.Test.YtfpdikledfhcaaaGreatDoorCCaPFnExactClientOkx2
import Derived.Test.YtfpdikledfhcaaaGreatDoorCCaPFnExactClientOkx9
import Derived.Test.YtfpdikledfhcaaaGreatDoorCCaEv
namespace Go.Proofs.YtfpdikledfhcaaaGreatDoor.PFnExactClientOk
open Go Go.RowKit Go.Proofs.YtfpdikledfhcaaaGreatDoorW.PrintWords Go.Proofs.YtfpdikledfhcaaaGreatDoorW.PrintLast Go.Proofs.YtfpdikledfhcaaaGreatDoorW.PrintMore Go.Proofs.YtfpdikledfhcaaaGreatDoor.Ev
set_option linter.unusedVariables false
set_option linter.unusedSimpArgs false
def gdVersion (x:S89):Prop:=((Lit.int .i64 x.f0).wf=true) ∧ ((Lit.int .i64 x.f1).wf=true) ∧ ((Lit.int .i64 x.f2).wf=true) ∧ (x.f3.size ≤ 140737488351232)
def cvVersion (x:S89):S52:=⟨x.f0,x.f1,x.f2,x.f3⟩
def gdNeed (x:S91):Prop:=(x.f0.size ≤ 140737488351232) ∧ (gdVersion x.f1)
def cvNeed (x:S91):S58:=⟨x.f0,cvVersion x.f1⟩
def gdEntry (x:S126):Prop:=(x.f0.size ≤ 140737488351232) ∧ (gdVersion x.f1) ∧ ((∀ a ∈ x.f2,gdNeed a) ∧ x.f2.length * 56 ≤ 140737488351232)
def cvEntry (x:S126):S54:=⟨x.f0,cvVersion x.f1,x.f2.map cvNeed⟩
def wtVersion (x:S89):Nat:=x.f3.size + (0)
def wtNeed (x:S91):Nat:=x.f0.size + ((x.f1.f3.size + (0)) + (0))
def wtEntry (x:S126):Nat:=x.f0.size + ((x.f1.f3.size + (0)) + ((x.f2.length + (x.f2.map wtNeed).sum) + (0)))
theorem sz_Version (a0:Int) (a1:Int) (a2:Int) (a3:ByteArray) (h3:a3.size ≤ 140737488351232) (left:Int) (lo:0 ≤ left) (hi:left ≤ 1099511627776):SzW (fun k=>laws_szVersion.f a0 a1 a2 a3 left) (a3.size + (0)) left:=by
 unfold laws_szVersion.f
 rw [wsubW lo hi h3]
 refine SzW.cut lo (fun p4=>?_)
 have q4:=Int.le_trans (Int.sub_le_self _ (Int.natCast_nonneg a3.size)) hi
 exact SzW.done _
theorem sz_Need (a0:ByteArray) (a1:Int) (a2:Int) (a3:Int) (a4:ByteArray) (h0:a0.size ≤ 140737488351232) (h4:a4.size ≤ 140737488351232) (left:Int) (lo:0 ≤ left) (hi:left ≤ 1099511627776):SzW (fun k=>laws_szNeed.f a0 a1 a2 a3 a4 left) (a0.size + ((a4.size + (0)) + (0))) left:=by
 unfold laws_szNeed.f
 rw [wsubW lo hi h0]
 refine SzW.cut lo (fun p1=>?_)
 have q1:=Int.le_trans (Int.sub_le_self _ (Int.natCast_nonneg a0.size)) hi
 refine SzW.seq p1 (sz_Version _ _ _ _ h4 _ p1 q1) (fun m2 p2 q2=>?_)
 replace q2:=Int.le_trans q2 q1
 exact SzW.done _
theorem sz_NeedS (l:List S91) (h:(∀ a ∈ l,gdNeed a) ∧ l.length * 56 ≤ 140737488351232) (left:Int) (lo:0 ≤ left) (hi:left ≤ 1099511627776):SzW (fun k=>laws_szNeedS.f k l left) (l.length + (l.map wtNeed).sum) left:=by
 unfold laws_szNeedS.f
 rw [wsubW lo hi (by omega)]
 refine SzW.cut lo (fun lo'=>?_)
 have hl:=szw_loop (fun k left i=>laws_szNeedS.l0 k l left i) l.length (fun i=>(wtNeed) (l.getD i z91)) (fun k left i hi=>?_) (fun i left V hi h0 h1 ih=>?_) _ lo' (by omega)
 ·rw [sum_map_getD l z91 (wtNeed)] at hl
  exact hl
 ·show laws_szNeedS.l0 (k + 1) l left i=some left
  simp only [laws_szNeedS.l0]
  rw [if_neg (by omega)]
 ·have hw:=wrapS hi (by omega)
  have hx:=h.1 _ (getD_mem (z:=z91) hi)
  refine SzW.step (f:=?f) (fun k=>?e) ?g
  case e=>
   simp only [laws_szNeedS.l0]
   rw [if_pos (by omega),if_pos (by omega),hw]
  case g=>exact SzW.seq h0 (sz_Need _ _ _ _ _ hx.1 hx.2.2.2.2 _ h0 h1) (fun m m0 m1=>ih m m0 m1)
theorem sz_Entry (a0:ByteArray) (a1:Int) (a2:Int) (a3:Int) (a4:ByteArray) (a5:List S91) (h0:a0.size ≤ 140737488351232) (h4:a4.size ≤ 140737488351232) (h5:(∀ a ∈ a5,gdNeed a) ∧ a5.length * 56 ≤ 140737488351232) (left:Int) (lo:0 ≤ left) (hi:left ≤ 1099511627776):SzW (fun k=>laws_szEntry.f k a0 a1 a2 a3 a4 a5 left) (a0.size + ((a4.size + (0)) + ((a5.length + (a5.map wtNeed).sum) + (0)))) left:=by
 unfold laws_szEntry.f
 rw [wsubW lo hi h0]
 refine SzW.cut lo (fun p1=>?_)
 have q1:=Int.le_trans (Int.sub_le_self _ (Int.natCast_nonneg a0.size)) hi
 refine SzW.seq p1 (sz_Version _ _ _ _ h4 _ p1 q1) (fun m2 p2 q2=>?_)
 replace q2:=Int.le_trans q2 q1
 refine SzW.seq p2 (sz_NeedS _ h5 _ p2 q2) (fun m3 p3 q3=>?_)
 replace q3:=Int.le_trans q3 q2
 exact SzW.done _
theorem sz_Head (a0:Int) (a1:ByteArray) (h1:a1.size ≤ 140737488351232) (left:Int) (lo:0 ≤ left) (hi:left ≤ 1099511627776):SzW (fun k=>laws_szHead.f a0 a1 left) (a1.size + (0)) left:=by
 unfold laws_szHead.f
 rw [wsubW lo hi h1]
 refine SzW.cut lo (fun p2=>?_)
 have q2:=Int.le_trans (Int.sub_le_self _ (Int.natCast_nonneg a1.size)) hi
 exact SzW.done _
theorem sz_EntryS (l:List S126) (h:(∀ a ∈ l,gdEntry a) ∧ l.length * 80 ≤ 140737488351232) (left:Int) (lo:0 ≤ left) (hi:left ≤ 1099511627776):SzW (fun k=>laws_szEntryS.f k l left) (l.length + (l.map wtEntry).sum) left:=by
 unfold laws_szEntryS.f
 rw [wsubW lo hi (by omega)]
 refine SzW.cut lo (fun lo'=>?_)
 have hl:=szw_loop (fun k left i=>laws_szEntryS.l0 k l left i) l.length (fun i=>(wtEntry) (l.getD i z126)) (fun k left i hi=>?_) (fun i left V hi h0 h1 ih=>?_) _ lo' (by omega)
 ·rw [sum_map_getD l z126 (wtEntry)] at hl
  exact hl
 ·show laws_szEntryS.l0 (k + 1) l left i=some left
  simp only [laws_szEntryS.l0]
  rw [if_neg (by omega)]
 ·have hw:=wrapS hi (by omega)
  have hx:=h.1 _ (getD_mem (z:=z126) hi)
  refine SzW.step (f:=?f) (fun k=>?e) ?g
  case e=>
   simp only [laws_szEntryS.l0]
   rw [if_pos (by omega),if_pos (by omega),hw]
  case g=>exact SzW.seq h0 (sz_Entry _ _ _ _ _ _ hx.1 hx.2.1.2.2.2 hx.2.2 _ h0 h1) (fun m m0 m1=>ih m m0 m1)
theorem sz_Client (a0:Int) (a1:ByteArray) (a2:List S91) (a3:List S126) (h1:a1.size ≤ 140737488351232) (h2:(∀ a ∈ a2,gdNeed a) ∧ a2.length * 56 ≤ 140737488351232) (h3:(∀ a ∈ a3,gdEntry a) ∧ a3.length * 80 ≤ 140737488351232) (left:Int) (lo:0 ≤ left) (hi:left ≤ 1099511627776):SzW (fun k=>laws_szClient.f k a0 a1 a2 a3 left) ((a1.size + (0)) + ((a2.length + (a2.map wtNeed).sum) + ((a3.length + (a3.map wtEntry).sum) + (0)))) left:=by
 unfold laws_szClient.f
 refine SzW.seq lo (sz_Head _ _ h1 _ lo hi) (fun m1 p1 q1=>?_)
 replace q1:=Int.le_trans q1 hi
 refine SzW.seq p1 (sz_NeedS _ h2 _ p1 q1) (fun m2 p2 q2=>?_)
 replace q2:=Int.le_trans q2 q1
 refine SzW.seq p2 (sz_EntryS _ h3 _ p2 q2) (fun m3 p3 q3=>?_)
 replace q3:=Int.le_trans q3 q2
 exact SzW.done _
theorem to_Version (a0:Int) (a1:Int) (a2:Int) (a3:ByteArray):laws_toVersion.f a0 a1 a2 a3=some (a0,a1,a2,a3):=rfl
theorem to_Need (a0:ByteArray) (a1:Int) (a2:Int) (a3:Int) (a4:ByteArray):laws_toNeed.f a0 a1 a2 a3 a4=some (a0,a1,a2,a3,a4):=rfl
theorem to_NeedS (l:List S91) (h:(∀ a ∈ l,gdNeed a) ∧ l.length * 56 ≤ 140737488351232):Ev (fun k=>laws_toNeedS.f k l) (l.map cvNeed):=by
 unfold laws_toNeedS.f
 refine Ev.pos (by omega) (Ev.pos (by have:=h.2;omega) ?_)
 have hl:=to_loop (fun k acc i=>laws_toNeedS.l0 k l acc i) l.length z58 (fun i=>cvNeed (l.getD i z91)) (fun k acc i hi=>?_) (fun i acc r hi hacc hk=>?_)
 ·rw [map_range l z91 cvNeed] at hl
  exact hl
 ·show laws_toNeedS.l0 (k + 1) l acc i=some acc
  simp only [laws_toNeedS.l0]
  rw [if_neg (by omega)]
 ·have hw:=wrapS hi (by have:=h.2;omega)
  refine Ev.step (f:=?f) (fun k=>?e) ?g
  case e=>
   simp only [laws_toNeedS.l0]
   rw [if_pos (by omega),if_pos (by omega),hw]
  case g=>exact Ev.bind_const (to_Need _ _ _ _ _ ) (Ev.pos (by omega) hk)
theorem to_Entry (a0:ByteArray) (a1:Int) (a2:Int) (a3:Int) (a4:ByteArray) (a5:List S91) (h5:(∀ a ∈ a5,gdNeed a) ∧ a5.length * 56 ≤ 140737488351232):Ev (fun k=>laws_toEntry.f k a0 a1 a2 a3 a4 a5) (a0,a1,a2,a3,a4,(a5.map cvNeed)):=by
 unfold laws_toEntry.f
 refine Ev.bind_const (to_Version _ _ _ _ ) ?_
 refine Ev.bind (to_NeedS _ h5) ?_
 exact Ev.now _
theorem to_Head (a0:Int) (a1:ByteArray):laws_toHead.f a0 a1=some (a0,a1):=rfl
theorem to_EntryS (l:List S126) (h:(∀ a ∈ l,gdEntry a) ∧ l.length * 80 ≤ 140737488351232):Ev (fun k=>laws_toEntryS.f k l) (l.map cvEntry):=by
 unfold laws_toEntryS.f
 refine Ev.pos (by omega) (Ev.pos (by have:=h.2;omega) ?_)
 have hl:=to_loop (fun k acc i=>laws_toEntryS.l0 k l acc i) l.length z54 (fun i=>cvEntry (l.getD i z126)) (fun k acc i hi=>?_) (fun i acc r hi hacc hk=>?_)
 ·rw [map_range l z126 cvEntry] at hl
  exact hl
 ·show laws_toEntryS.l0 (k + 1) l acc i=some acc
  simp only [laws_toEntryS.l0]
  rw [if_neg (by omega)]
 ·have hw:=wrapS hi (by have:=h.2;omega)
  refine Ev.step (f:=?f) (fun k=>?e) ?g
  case e=>
   simp only [laws_toEntryS.l0]
   rw [if_pos (by omega),if_pos (by omega),hw]
  case g=>
   have hx:=h.1 _ (getD_mem (z:=z126) hi)
   exact Ev.bind (to_Entry _ _ _ _ _ _ hx.2.2) (Ev.pos (by omega) hk)
theorem to_Client (a0:Int) (a1:ByteArray) (a2:List S91) (a3:List S126) (h2:(∀ a ∈ a2,gdNeed a) ∧ a2.length * 56 ≤ 140737488351232) (h3:(∀ a ∈ a3,gdEntry a) ∧ a3.length * 80 ≤ 140737488351232):Ev (fun k=>laws_toClient.f k a0 a1 a2 a3) (a0,a1,(a2.map cvNeed),(a3.map cvEntry)):=by
 unfold laws_toClient.f
 refine Ev.bind_const (to_Head _ _ ) ?_
 refine Ev.bind (to_NeedS _ h2) ?_
 refine Ev.bind (to_EntryS _ h3) ?_
 exact Ev.now _
theorem eq_Version (a0:Int) (a1:Int) (a2:Int) (a3:ByteArray)  : laws_eqVersion.f a0 a1 a2 a3 a0 a1 a2 a3=some true:=by
 simp [laws_eqVersion.f]
theorem eq_Need (a0:ByteArray) (a1:Int) (a2:Int) (a3:Int) (a4:ByteArray)  : laws_eqNeed.f a0 a1 a2 a3 a4 a0 a1 a2 a3 a4=some true:=by
 simp [eq_Version,laws_eqNeed.f]
theorem eq_NeedS (l:List S58) (h:l.length ≤ 281474976710656):Ev (fun k=>laws_eqNeedS.f k l l) true:=by
 unfold laws_eqNeedS.f
 refine Ev.pos rfl (true_loop (fun k i=>laws_eqNeedS.l0 k l l i) l.length (fun k i hi=>?_) (fun i r hi hk=>?_))
 ·show laws_eqNeedS.l0 (k + 1) l l i=some true
  simp only [laws_eqNeedS.l0]
  rw [if_neg (by omega)]
 ·have hw:=wrapS hi h
  refine Ev.step (f:=?f) (fun k=>?e) ?g
  case e=>
   simp only [laws_eqNeedS.l0]
   rw [if_pos (by omega),if_pos (by omega),if_pos (by omega),hw]
  case g=>exact Ev.bind_const (eq_Need _ _ _ _ _) (Ev.pos rfl hk)
theorem eq_Entry (a0:ByteArray) (a1:Int) (a2:Int) (a3:Int) (a4:ByteArray) (a5:List S58) (h5:a5.length ≤ 281474976710656):Ev (fun k=>laws_eqEntry.f k a0 a1 a2 a3 a4 a5 a0 a1 a2 a3 a4 a5) true:=by
 unfold laws_eqEntry.f
 exact Ev.pos rfl (Ev.bind_const (eq_Version _ _ _ _ ) (Ev.pos rfl (Ev.bind (eq_NeedS _ h5) (Ev.pos rfl (Ev.now _)))))
theorem eq_Head (a0:Int) (a1:ByteArray)  : laws_eqHead.f a0 a1 a0 a1=some true:=by
 simp [laws_eqHead.f]
def glEntry (x:S54):Prop:=(x.f2.length ≤ 281474976710656)
theorem eq_EntryS (l:List S54) (h:(∀ x ∈ l,glEntry x) ∧ l.length ≤ 281474976710656):Ev (fun k=>laws_eqEntryS.f k l l) true:=by
 unfold laws_eqEntryS.f
 refine Ev.pos rfl (true_loop (fun k i=>laws_eqEntryS.l0 k l l i) l.length (fun k i hi=>?_) (fun i r hi hk=>?_))
 ·show laws_eqEntryS.l0 (k + 1) l l i=some true
  simp only [laws_eqEntryS.l0]
  rw [if_neg (by omega)]
 ·have hw:=wrapS hi h.2
  refine Ev.step (f:=?f) (fun k=>?e) ?g
  case e=>
   simp only [laws_eqEntryS.l0]
   rw [if_pos (by omega),if_pos (by omega),if_pos (by omega),hw]
  case g=>
   have hx:=h.1 _ (getD_mem (z:=z54) hi)
   exact Ev.bind (eq_Entry _ _ _ _ _ _ hx) (Ev.pos rfl hk)
theorem eq_Client (a0:Int) (a1:ByteArray) (a2:List S58) (a3:List S54) (h2:a2.length ≤ 281474976710656) (h3:(∀ x ∈ a3,glEntry x) ∧ a3.length ≤ 281474976710656):Ev (fun k=>laws_eqClient.f k a0 a1 a2 a3 a0 a1 a2 a3) true:=by
 unfold laws_eqClient.f
 exact Ev.bind_const (eq_Head _ _ ) (Ev.pos rfl (Ev.bind (eq_NeedS _ h2) (Ev.pos rfl (Ev.bind (eq_EntryS _ h3) (Ev.pos rfl (Ev.now _))))))
theorem gl_cvEntry (x:S126) (hx:gdEntry x):glEntry (cvEntry x):=by
 refine ?_
 ·have h:=hx.2.2.2
  have e:(cvEntry x).f2.length=x.f2.length:=List.length_map _
  show (cvEntry x).f2.length ≤ 281474976710656
  omega
theorem gl_EntryS (l:List S126) (h:(∀ a ∈ l,gdEntry a) ∧ l.length * 80 ≤ 140737488351232):(∀ x ∈ (l.map cvEntry),glEntry x) ∧ (l.map cvEntry).length ≤ 281474976710656:=by
 refine ⟨fun x hx=>?_,by have:=h.2;rw [List.length_map];omega⟩
 obtain ⟨y,hy,rfl⟩:=List.mem_map.1 hx
 exact gl_cvEntry y (h.1 y hy)
end Go.Proofs.YtfpdikledfhcaaaGreatDoor.PFnExactClientOk
