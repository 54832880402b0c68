import Derived.Test.YtmkdeknpphimbaaDoorCCeLessFc
namespace Go.Proofs.YtmkdeknpphimbaaDoor.PFnClosed
open Go Go.RowKit Go.Proofs.YtmkdeknpphimbaaDoorW.PrintWords Go.Proofs.YtmkdeknpphimbaaDoorW.PrintLast Go.Proofs.YtmkdeknpphimbaaDoorW.PrintMore Go.Proofs.YtmkdeknpphimbaaDoor.Ev Go.Proofs.YtmkdeknpphimbaaDoor.Str Go.Proofs.YtmkdeknpphimbaaDoor.Num
set_option linter.unusedVariables false
set_option linter.unusedSimpArgs false
abbrev NeedT:=S36
def leN (x n:NeedT):Bool:=decide (x.f0.toList=n.f0.toList) && !less x.f1.f0 x.f1.f1 x.f1.f2 (dl x.f1.f3) n.f1.f0 n.f1.f1 n.f1.f2 (dl n.f1.f3)
def covB (xs ns:List NeedT):Bool:=ns.all fun n=>xs.any fun x=>leN x n
def shortN (xs:List NeedT):Prop:=(∀ x ∈ xs,x.f1.f3.size ≤ 2147483648) ∧ xs.length ≤ 1099511627776
theorem rdT (xs:List NeedT) (i:Nat):rd_T36 xs (i:Int)=xs.getD i z36:=by unfold rd_T36;rw [Int.toNat_natCast]
theorem coversI1 (xs:List NeedT) (n:NeedT) (hx:shortN xs) (hn:n.f1.f3.size ≤ 2147483648) (d i:Nat) (hi:i + d=xs.length):Ev (fun k=>impl_Covers.l1 k xs n (i:Int)) ((xs.drop i).any fun x=>leN x n):=by
 induction d generalizing i with
 | zero=>
  refine Ev.step (f:=fun _=>some false) (fun k=>?_) ?_
  ·simp only [impl_Covers.l1]
   rw [if_neg (by omega)]
  ·rw [List.drop_eq_nil_of_le (show xs.length ≤ i by omega)]
   exact Ev.now _
 | succ d ih=>
  have hl:=hx.2
  have hlx:i < xs.length:=by omega
  have hw:=wrapS hlx (by omega)
  have hm:=hx.1 _ (getD_mem (z:=z36) hlx)
  rw [drop_cons (z:=z36) hlx,List.any_cons]
  refine Ev.step (f:=fun k=>if (xs.getD i z36).f0.toList=n.f0.toList then ((impl_LessVersion.f k (xs.getD i z36).f1.f0 (xs.getD i z36).f1.f1 (xs.getD i z36).f1.f2 (xs.getD i z36).f1.f3 n.f1.f0 n.f1.f1 n.f1.f2 n.f1.f3).bind fun t=>if t=true then impl_Covers.l1 k xs n ((i + 1:Nat):Int) else some true) else impl_Covers.l1 k xs n ((i + 1:Nat):Int)) (fun k=>?_) ?_
  ·simp only [impl_Covers.l1]
   rw [if_pos (by omega),if_pos (by omega),rdT,hw]
  ·unfold leN
   by_cases e:(xs.getD i z36).f0.toList=n.f0.toList
   ·refine Ev.pos e (Ev.bind (lessI_ev _ _ _ _ _ _ _ _ hm hn) ?_)
    rw [decide_eq_true e,Bool.true_and]
    cases less (xs.getD i z36).f1.f0 (xs.getD i z36).f1.f1 (xs.getD i z36).f1.f2 (dl (xs.getD i z36).f1.f3) n.f1.f0 n.f1.f1 n.f1.f2 (dl n.f1.f3) with
    | true=>exact Ev.pos rfl (by simpa [leN] using ih (i + 1) (by omega))
    | false=>exact Ev.neg (by decide) (by simpa using Ev.now true)
   ·refine Ev.neg e ?_
    rw [decide_eq_false e,Bool.false_and,Bool.false_or]
    exact ih (i + 1) (by omega)
theorem coversI (xs ns:List NeedT) (hx:shortN xs) (hn:shortN ns):Ev (fun k=>impl_Covers.f k xs ns) (covB xs ns):=by
 have key : ∀ (d i:Nat),i + d=ns.length → Ev (fun k=>impl_Covers.l0 k xs ns (i:Int)) ((ns.drop i).all fun n=>xs.any fun x=>leN x n):=by
  intro d
  induction d with
  | zero=>
   intro i hi
   refine Ev.step (f:=fun _=>some true) (fun k=>?_) ?_
   ·simp only [impl_Covers.l0]
    rw [if_neg (by omega)]
   ·rw [List.drop_eq_nil_of_le (show ns.length ≤ i by omega)]
    exact Ev.now _
  | succ d ih=>
   intro i hi
   have hl:=hn.2
   have hlx:i < ns.length:=by omega
   have hw:=wrapS hlx (by omega)
   have hm:=hn.1 _ (getD_mem (z:=z36) hlx)
   rw [drop_cons (z:=z36) hlx,List.all_cons]
   refine Ev.step (f:=fun k=>(impl_Covers.l1 k xs (ns.getD i z36) 0).bind fun t=>if t=true then impl_Covers.l0 k xs ns ((i + 1:Nat):Int) else some false) (fun k=>?_) ?_
   ·simp only [impl_Covers.l0]
    rw [if_pos (by omega),if_pos (by omega),rdT,hw]
   ·have h1:Ev (fun k=>impl_Covers.l1 k xs (ns.getD i z36) 0) (xs.any fun x=>leN x (ns.getD i z36)):=coversI1 xs (ns.getD i z36) hx hm _ 0 (Nat.zero_add _)
    refine Ev.bind h1 ?_
    clear h1
    generalize (xs.any fun x=>leN x (ns.getD i z36))=b
    cases b with
    | true=>exact Ev.pos rfl (by simpa using ih (i + 1) (by omega))
    | false=>exact Ev.neg (by decide) (by simpa using Ev.now false)
 have:=key _ 0 (Nat.zero_add _)
 simpa [impl_Covers.f,covB] using this
theorem coversS1 (xs ns:List NeedT) (hx:shortN xs) (hn:shortN ns) (i:Nat) (hi:i < ns.length) (R:Bool) (hR:Ev (fun k=>spec_Covers.l0 k xs ns ((i + 1:Nat):Int)) R) (d j:Nat) (h:Bool) (hj:j + d=xs.length) :
 Ev (fun k=>spec_Covers.l1 k xs ns (i:Int) h (j:Int)) ((h || (xs.drop j).any fun x=>leN x (ns.getD i z36)) && R):=by
 have hl:=hx.2
 have hl2:=hn.2
 have hwi:=wrapS hi (by omega)
 induction d generalizing j h with
 | zero=>
  rw [List.drop_eq_nil_of_le (show xs.length ≤ j by omega)]
  refine Ev.step (f:=fun k=>if h=true then spec_Covers.l0 k xs ns ((i + 1:Nat):Int) else some false) (fun k=>?_) ?_
  ·simp only [spec_Covers.l1]
   rw [if_neg (by omega),hwi]
  ·cases h with
   | true=>exact Ev.pos rfl (by simpa using hR)
   | false=>exact Ev.neg (by decide) (by simpa using Ev.now false)
 | succ d ih=>
  have hlx:j < xs.length:=by omega
  have hw:=wrapS hlx (by omega)
  have hm:=hx.1 _ (getD_mem (z:=z36) hlx)
  have hm2:=hn.1 _ (getD_mem (z:=z36) hi)
  rw [drop_cons (z:=z36) hlx,List.any_cons]
  cases h with
  | true=>
   refine Ev.step (f:=fun k=>spec_Covers.l1 k xs ns (i:Int) true ((j + 1:Nat):Int)) (fun k=>?_) ?_
   ·simp only [spec_Covers.l1]
    rw [if_pos (by omega),if_pos trivial,hw]
   ·simpa using ih (j + 1) true (by omega)
  | false=>
   refine Ev.step (f:=fun k=>if (xs.getD j z36).f0.toList=(ns.getD i z36).f0.toList then ((spec_LessVersion.f k (xs.getD j z36).f1.f0 (xs.getD j z36).f1.f1 (xs.getD j z36).f1.f2 (xs.getD j z36).f1.f3 (ns.getD i z36).f1.f0 (ns.getD i z36).f1.f1 (ns.getD i z36).f1.f2 (ns.getD i z36).f1.f3).bind fun t=>spec_Covers.l1 k xs ns (i:Int) (!t) ((j + 1:Nat):Int)) else spec_Covers.l1 k xs ns (i:Int) false ((j + 1:Nat):Int)) (fun k=>?_) ?_
   ·simp only [spec_Covers.l1]
    rw [if_pos (by omega),if_neg (by decide),if_pos (by omega),if_pos (by omega),if_pos (by omega),rdT,rdT,hw]
   ·by_cases e:(xs.getD j z36).f0.toList=(ns.getD i z36).f0.toList
    ·refine Ev.pos e (Ev.bind (lessS_ev _ _ _ _ _ _ _ _ hm hm2) ?_)
     have hh:=ih (j + 1) (leN (xs.getD j z36) (ns.getD i z36)) (by omega)
     rw [Bool.false_or]
     unfold leN at hh ⊢
     rw [decide_eq_true e,Bool.true_and] at hh ⊢
     exact hh
    ·refine Ev.neg e ?_
     have hh:=ih (j + 1) false (by omega)
     have e2:leN (xs.getD j z36) (ns.getD i z36)=false:=by unfold leN;rw [decide_eq_false e,Bool.false_and]
     rw [e2,Bool.false_or]
     exact hh
theorem coversS (xs ns:List NeedT) (hx:shortN xs) (hn:shortN ns):Ev (fun k=>spec_Covers.f k xs ns) (covB xs ns):=by
 have key : ∀ (d i:Nat),i + d=ns.length → Ev (fun k=>spec_Covers.l0 k xs ns (i:Int)) ((ns.drop i).all fun n=>xs.any fun x=>leN x n):=by
  intro d
  induction d with
  | zero=>
   intro i hi
   refine Ev.step (f:=fun _=>some true) (fun k=>?_) ?_
   ·simp only [spec_Covers.l0]
    rw [if_neg (by omega)]
   ·rw [List.drop_eq_nil_of_le (show ns.length ≤ i by omega)]
    exact Ev.now _
  | succ d ih=>
   intro i hi
   have hlx:i < ns.length:=by omega
   rw [drop_cons (z:=z36) hlx,List.all_cons]
   refine Ev.step (f:=fun k=>spec_Covers.l1 k xs ns (i:Int) false 0) (fun k=>?_) ?_
   ·simp only [spec_Covers.l0]
    rw [if_pos (by omega)]
   ·simpa using coversS1 xs ns hx hn i hlx _ (ih (i + 1) (by omega)) _ 0 false (Nat.zero_add _)
 have:=key _ 0 (Nat.zero_add _)
 simpa [spec_Covers.f,covB] using this
end Go.Proofs.YtmkdeknpphimbaaDoor.PFnClosed
