import Derived.Test.YtfpdikledfhcaaaGreatDoorCCaNeedCo
namespace Go.Proofs.YtfpdikledfhcaaaGreatDoor.PFnExactClientOk
open Go Go.RowKit Go.Proofs.YtfpdikledfhcaaaGreatDoorW.PrintWords Go.Proofs.YtfpdikledfhcaaaGreatDoorW.PrintLast Go.Proofs.YtfpdikledfhcaaaGreatDoorW.PrintMore Go.Proofs.YtfpdikledfhcaaaGreatDoor.Ev Go.Proofs.YtfpdikledfhcaaaGreatDoor.Str Go.Proofs.YtfpdikledfhcaaaGreatDoor.Num
set_option linter.unusedVariables false
set_option linter.unusedSimpArgs false
abbrev NedT:=S58
abbrev EnrT:=S54
abbrev zN:NedT:=z58
theorem rdN (xs:List NedT) (i:Nat):rd_T58 xs (i:Int)=xs.getD i zN:=by unfold rd_T58;rw [Int.toNat_natCast]
def shP (n:NedT):Prop:=n.f0.size ≤ 2147483648 ∧ n.f1.f3.size ≤ 2147483648
def shNs (l:List NedT):Prop:=(∀ n ∈ l,shP n) ∧ l.length ≤ 1099511627776
def shEn (e:EnrT):Prop:=shP ⟨e.f0,e.f1⟩ ∧ shNs e.f2
def shEs (l:List EnrT):Prop:=(∀ e ∈ l,shEn e) ∧ l.length ≤ 1099511627776
def nOk (n:NedT):Bool:=fitsB (dl n.f0) n.f1.f0 n.f1.f1 n.f1.f2 (dl n.f1.f3)
theorem NeedI (n:NedT) (h:shP n):Ev (fun k=>impl_NeedOk.f k n.f0 n.f1.f0 n.f1.f1 n.f1.f2 n.f1.f3) (nOk n):=Ev.bind (FitsI _ _ _ _ _ h.1 h.2) (Ev.now _)
theorem NeedS (n:NedT) (h:shP n):Ev (fun k=>spec_NeedOk.f k n.f0 n.f1.f0 n.f1.f1 n.f1.f2 n.f1.f3) (nOk n):=Ev.bind (FitsS _ _ _ _ _ h.1 h.2) (Ev.now _)
theorem lt_iff_not (a b:List UInt8):b < a ↔ ¬ a < b ∧ a ≠ b:=
 ⟨fun h=>⟨fun h2=>List.lt_irrefl _ (List.lt_trans h h2),fun e=>by subst e;exact List.lt_irrefl _ h⟩,fun h=>(List.le_iff_lt_or_eq.1 (List.not_lt.1 h.1)).elim id (fun e=>absurd e.symm h.2)⟩
def upB (l:List NedT) (i:Nat):Bool:=decide (i=0) || decide (dl (l.getD (i - 1) zN).f0 < dl (l.getD i zN).f0)
def risB (l:List NedT):Bool:=allI (fun i=>nOk (l.getD i zN) && upB l i) l.length
theorem up_zero (l:List NedT):upB l 0=true:=rfl
theorem up_pos (l:List NedT) {i:Nat} (h:0 < i):upB l i=decide (dl (l.getD (i - 1) zN).f0 < dl (l.getD i zN).f0):=by unfold upB;rw [decide_eq_false (by omega),Bool.false_or]
theorem RisS (l:List NedT) (h:shNs l):Ev (fun k=>spec_l5Rising.f k l) (risB l):=by
 have h2:=h.2
 have:=allb (fun k i=>spec_l5Rising.l0 k l i) l.length (fun i=>nOk (l.getD i zN) && upB l i) true ?_ (fun i r hi hr=>?_)
 ·rw [Bool.and_true] at this
  exact this
 ·refine Ev.step (f:=fun _=>some true) (fun k=>?_) (Ev.now _)
  simp only [spec_l5Rising.l0]
  rw [if_neg (by omega)]
 ·have hw:=wrapS hi (by omega)
  have hn:=h.1 _ (getD_mem (z:=zN) hi)
  rw [Bool.and_assoc]
  refine Ev.step (f:=fun k=>(spec_NeedOk.f k (l.getD i zN).f0 (l.getD i zN).f1.f0 (l.getD i zN).f1.f1 (l.getD i zN).f1.f2 (l.getD i zN).f1.f3).bind fun t=>if t=true then (if (i:Int) > 0 then (if 0 ≤ wrap64 ((i:Int) - 1) then (if wrap64 ((i:Int) - 1) < (l.length:Int) then (if Op.bytesLess (rd_T58 l (wrap64 ((i:Int) - 1))).f0.toList (l.getD i zN).f0.toList=true then spec_l5Rising.l0 k l ((i + 1:Nat):Int) else some false) else none) else none) else spec_l5Rising.l0 k l ((i + 1:Nat):Int)) else some false) (fun k=>?_) (Ev.bind_go (NeedS _ hn) ?_)
  ·simp only [spec_l5Rising.l0]
   rw [if_pos (by omega),if_pos (by omega),rdN,hw]
  ·by_cases h0:0 < i
   ·have hb:wrap64 ((i:Int) - 1)=((i - 1:Nat):Int):=by rw [wrapI (by omega) (by omega)];omega
    rw [up_pos l h0,hb,rdN,toList_dl,toList_dl,bytesLess_eq]
    exact Ev.pos (by omega) (Ev.pos (by omega) (Ev.pos (by omega) (Ev.if_go hr)))
   ·have e:i=0:=by omega
    subst e
    rw [up_zero,Bool.true_and]
    exact Ev.neg (by omega) hr
theorem AscI (l:List NedT) (m:Nat) (h:shNs l):Ev (fun k=>impl_ascending.f k l (m:Int)) (risB l && decide (l.length ≤ m)):=by
 have h2:=h.2
 refine allb (fun k i=>impl_ascending.l0 k l (m:Int) l (l.length:Int) i) l.length (fun i=>nOk (l.getD i zN) && upB l i) _ ?_ (fun i r hi hr=>?_)
 ·refine Ev.step (f:=fun _=>some (decide ((l.length:Int) ≤ (m:Int)))) (fun k=>?_) (Ev.const (congrArg some (decide_eq_decide.2 (by omega))))
  simp only [impl_ascending.l0]
  rw [if_neg (by omega)]
 ·have hw:=wrapS hi (by omega)
  have hn:=h.1 _ (getD_mem (z:=zN) hi)
  rw [Bool.and_assoc]
  refine Ev.step (f:=fun k=>(impl_NeedOk.f k (l.getD i zN).f0 (l.getD i zN).f1.f0 (l.getD i zN).f1.f1 (l.getD i zN).f1.f2 (l.getD i zN).f1.f3).bind fun t=>if t=true then (if (i:Int) > 0 then (if 0 ≤ wrap64 ((i:Int) - 1) then (if wrap64 ((i:Int) - 1) < (l.length:Int) then (if Op.bytesLess (l.getD i zN).f0.toList (rd_T58 l (wrap64 ((i:Int) - 1))).f0.toList=true then some false else if (l.getD i zN).f0.toList=(rd_T58 l (wrap64 ((i:Int) - 1))).f0.toList then some false else impl_ascending.l0 k l (m:Int) l (l.length:Int) ((i + 1:Nat):Int)) else none) else none) else impl_ascending.l0 k l (m:Int) l (l.length:Int) ((i + 1:Nat):Int)) else some false) (fun k=>?_) (Ev.bind_go (NeedI _ hn) ?_)
  ·simp only [impl_ascending.l0]
   rw [if_pos (by omega),if_pos (by omega),if_pos (by omega),rdN,hw]
  ·by_cases h0:0 < i
   ·have hb:wrap64 ((i:Int) - 1)=((i - 1:Nat):Int):=by rw [wrapI (by omega) (by omega)];omega
    rw [up_pos l h0,hb,rdN,toList_dl,toList_dl,bytesLess_eq]
    refine Ev.pos (by omega) (Ev.pos (by omega) (Ev.pos (by omega) ?_))
    have hx:=lt_iff_not (dl (l.getD i zN).f0) (dl (l.getD (i - 1) zN).f0)
    by_cases h1:dl (l.getD i zN).f0 < dl (l.getD (i - 1) zN).f0
    ·rw [decide_eq_false (fun h=>(hx.1 h).1 h1),Bool.false_and]
     exact Ev.pos (decide_eq_true h1) (Ev.now _)
    ·refine Ev.neg (by rw [decide_eq_true_eq];exact h1) ?_
     by_cases h3:dl (l.getD i zN).f0=dl (l.getD (i - 1) zN).f0
     ·rw [decide_eq_false (fun h=>(hx.1 h).2 h3),Bool.false_and]
      exact Ev.pos h3 (Ev.now _)
     ·rw [decide_eq_true (hx.2 ⟨h1,h3⟩),Bool.true_and]
      exact Ev.neg h3 hr
   ·have e:i=0:=by omega
    subst e
    rw [up_zero,Bool.true_and]
    exact Ev.neg (by omega) hr
def needsB (l:List NedT):Bool:=risB l && decide (l.length ≤ 20)
theorem NeedsI (l:List NedT) (h:shNs l):Ev (fun k=>impl_NeedsOk.f k l) (needsB l):=Ev.bind (AscI l 20 h) (Ev.now _)
theorem NeedsS (l:List NedT) (h:shNs l):Ev (fun k=>spec_NeedsOk.f k l) (needsB l):=by
 unfold needsB
 by_cases hl:l.length ≤ 20
 ·rw [decide_eq_true hl,Bool.and_true]
  exact Ev.pos (by omega) (Ev.bind (RisS l h) (Ev.now _))
 ·rw [decide_eq_false hl,Bool.and_false]
  exact Ev.neg (by omega) (Ev.now _)
def apartE (e:EnrT):Bool:=allI (fun i=>decide (dl (e.f2.getD i zN).f0 ≠ dl e.f0)) e.f2.length
def entB (e:EnrT):Bool:=apartE e && (fitsB (dl e.f0) e.f1.f0 e.f1.f1 e.f1.f2 (dl e.f1.f3) && (risB e.f2 && decide (e.f2.length ≤ 8)))
theorem Ev.not_go {c:Prop} [Decidable c] {g:Nat → Option Bool} {r:Bool} (h:Ev g r):Ev (fun k=>if c then some false else g k) (decide (¬ c) && r):=by
 by_cases hc:c
 ·rw [decide_eq_false (fun h=>h hc)]
  exact Ev.pos hc (Ev.now _)
 ·rw [decide_eq_true hc]
  exact Ev.neg hc h
theorem EntryI (e:EnrT) (h:shEn e):Ev (fun k=>impl_EntryOk.f k e.f0 e.f1.f0 e.f1.f1 e.f1.f2 e.f1.f3 e.f2) (entB e):=by
 have h2:=h.2.2
 refine allb (fun k i=>impl_EntryOk.l0 k e.f2 (e.f2.length:Int) i e.f0 e.f1.f0 e.f1.f1 e.f1.f2 e.f1.f3 e.f2) e.f2.length _ _ ?_ (fun i r hi hr=>?_)
 ·refine Ev.step (f:=fun k=>(impl_Fits.f k e.f0 e.f1.f0 e.f1.f1 e.f1.f2 e.f1.f3).bind fun t=>if t=true then ((impl_ascending.f k e.f2 ((8:Nat):Int)).bind fun u=>some u) else some false) (fun k=>?_) (Ev.bind_go (FitsI _ _ _ _ _ h.1.1 h.1.2) (Ev.bind (AscI _ 8 h.2) (Ev.now _)))
  simp only [impl_EntryOk.l0]
  rw [if_neg (by omega)]
  rfl
 ·have hw:=wrapS hi (by omega)
  refine Ev.step (f:=fun k=>if dl (e.f2.getD i zN).f0=dl e.f0 then some false else impl_EntryOk.l0 k e.f2 (e.f2.length:Int) ((i + 1:Nat):Int) e.f0 e.f1.f0 e.f1.f1 e.f1.f2 e.f1.f3 e.f2) (fun k=>?_) (Ev.not_go hr)
  simp only [impl_EntryOk.l0]
  rw [if_pos (by omega),if_pos (by omega),if_pos (by omega),rdN,hw,toList_dl,toList_dl]
theorem EntryS (e:EnrT) (h:shEn e):Ev (fun k=>spec_EntryOk.f k e.f0 e.f1.f0 e.f1.f1 e.f1.f2 e.f1.f3 e.f2) (entB e):=by
 have h2:=h.2.2
 refine allb (fun k i=>spec_EntryOk.l0 k i e.f0 e.f1.f0 e.f1.f1 e.f1.f2 e.f1.f3 e.f2) e.f2.length _ _ ?_ (fun i r hi hr=>?_)
 ·refine Ev.step (f:=fun k=>(spec_Fits.f k e.f0 e.f1.f0 e.f1.f1 e.f1.f2 e.f1.f3).bind fun t=>if t=true then (if (e.f2.length:Int) ≤ 8 then ((spec_l5Rising.f k e.f2).bind fun u=>some u) else some false) else some false) (fun k=>?_) (Ev.bind_go (FitsS _ _ _ _ _ h.1.1 h.1.2) ?_)
  ·simp only [spec_EntryOk.l0]
   rw [if_neg (by omega)]
  ·by_cases hl:e.f2.length ≤ 8
   ·rw [decide_eq_true hl,Bool.and_true]
    exact Ev.pos (by omega) (Ev.bind (RisS _ h.2) (Ev.now _))
   ·rw [decide_eq_false hl,Bool.and_false]
    exact Ev.neg (by omega) (Ev.now _)
 ·have hw:=wrapS hi (by omega)
  refine Ev.step (f:=fun k=>if dl (e.f2.getD i zN).f0=dl e.f0 then some false else spec_EntryOk.l0 k ((i + 1:Nat):Int) e.f0 e.f1.f0 e.f1.f1 e.f1.f2 e.f1.f3 e.f2) (fun k=>?_) (Ev.not_go hr)
  simp only [spec_EntryOk.l0]
  rw [if_pos (by omega),if_pos (by omega),rdN,hw,toList_dl,toList_dl]
end Go.Proofs.YtfpdikledfhcaaaGreatDoor.PFnExactClientOk
