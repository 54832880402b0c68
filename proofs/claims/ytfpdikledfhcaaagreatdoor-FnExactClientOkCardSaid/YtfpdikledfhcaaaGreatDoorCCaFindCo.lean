import Derived.Test.YtfpdikledfhcaaaGreatDoorCCaEntCo
namespace Go.Proofs.YtfpdikledfhcaaaGreatDoor.PFnExactClientOk
open Go Go.RowKit Go.Proofs.YtfpdikledfhcaaaGreatDoorW.PrintWords Go.Proofs.YtfpdikledfhcaaaGreatDoorW.PrintLast Go.Proofs.YtfpdikledfhcaaaGreatDoorW.PrintMore Go.Proofs.YtfpdikledfhcaaaGreatDoor.Ev
set_option linter.unusedVariables false
set_option linter.unusedSimpArgs false
abbrev en (xs:List S54) (i:Nat):S54:=xs.getD i z54
def hit (xs:List S54) (p:ByteArray) (a b c:Int) (s:ByteArray) (i:Nat):Bool:=
 decide ((en xs i).f0.toList=p.toList) && (((en xs i).f1.f0 == a && ((en xs i).f1.f1 == b && ((en xs i).f1.f2 == c && ((en xs i).f1.f3.toList == s.toList)))))
def fe (xs:List S54) (p:ByteArray) (a b c:Int) (s:ByteArray):Int:=fst (hit xs p a b c s) xs.length 0
theorem at15 (xs:List S54) (p:ByteArray) (a b c:Int) (s:ByteArray) (hl:xs.length ≤ 281474976710656):Ev (fun k=>spec_l15At.f k xs p a b c s) (fe xs p a b c s):=by
 refine find_loop (fun k i=>spec_l15At.l0 k xs p i a b c s) xs.length (hit xs p a b c s) (fun k i hi=>?_) (fun i r hi hh hk=>?_) (fun i hi hh=>?_)
 ·show spec_l15At.l0 (k + 1) xs p i a b c s=some (-1)
  simp only [spec_l15At.l0]
  rw [if_neg (by omega)]
 ·have hw:=wrapS hi hl
  refine Ev.step (f:=?f1) (fun k=>?e1) ?g1
  case e1=>(simp only [spec_l15At.l0];rw [if_pos (by omega),if_pos (by omega),hw])
  case g1=>
   by_cases h:(en xs i).f0.toList=p.toList
   ·refine Ev.pos h (Ev.neg (fun e=>?_) hk)
    rw [hit,decide_eq_true h,Bool.true_and] at hh
    exact Bool.noConfusion (e.symm.trans hh)
   ·exact Ev.neg h hk
 ·refine Ev.step (f:=?f2) (fun k=>?e2) ?g2
  case e2=>(simp only [spec_l15At.l0];rw [if_pos (by omega),if_pos (by omega)])
  case g2=>
   have h:=hh
   rw [hit,Bool.and_eq_true,decide_eq_true_eq] at h
   exact Ev.pos h.1 (Ev.pos h.2 (Ev.now _))
theorem findEntry (xs:List S54) (p:ByteArray) (a b c:Int) (s:ByteArray) (hl:xs.length ≤ 281474976710656):Ev (fun k=>impl_findEntry.f k xs p a b c s) (fe xs p a b c s):=by
 refine find_loop (fun k i=>impl_findEntry.l0 k p xs xs.length i a b c s) xs.length (hit xs p a b c s) (fun k i hi=>?_) (fun i r hi hh hk=>?_) (fun i hi hh=>?_)
 ·show impl_findEntry.l0 (k + 1) p xs xs.length i a b c s=some (-1)
  simp only [impl_findEntry.l0]
  rw [if_neg (by omega)]
 ·have hw:=wrapS hi hl
  refine Ev.step (f:=?f1) (fun k=>?e1) ?g1
  case e1=>(simp only [impl_findEntry.l0];rw [if_pos (by omega),if_pos (by omega),if_pos (by omega),hw])
  case g1=>
   by_cases h:(en xs i).f0.toList=p.toList
   ·refine Ev.pos h (Ev.neg (fun e=>?_) hk)
    rw [hit,decide_eq_true h,Bool.true_and] at hh
    exact Bool.noConfusion (e.symm.trans hh)
   ·exact Ev.neg h hk
 ·refine Ev.step (f:=?f2) (fun k=>?e2) ?g2
  case e2=>(simp only [impl_findEntry.l0];rw [if_pos (by omega),if_pos (by omega),if_pos (by omega)])
  case g2=>
   have h:=hh
   rw [hit,Bool.and_eq_true,decide_eq_true_eq] at h
   exact Ev.pos h.1 (Ev.pos h.2 (Ev.now _))
end Go.Proofs.YtfpdikledfhcaaaGreatDoor.PFnExactClientOk
