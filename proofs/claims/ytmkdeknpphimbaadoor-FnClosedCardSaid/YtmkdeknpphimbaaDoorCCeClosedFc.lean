import Derived.Test.YtmkdeknpphimbaaDoorCCeFindFc
namespace Go.Proofs.YtmkdeknpphimbaaDoor.PFnClosed
open Go Go.RowKit Go.Proofs.YtmkdeknpphimbaaDoorW.PrintWords Go.Proofs.YtmkdeknpphimbaaDoorW.PrintLast Go.Proofs.YtmkdeknpphimbaaDoorW.PrintMore Go.Proofs.YtmkdeknpphimbaaDoor.Ev Go.Proofs.YtmkdeknpphimbaaDoor.Str Go.Proofs.YtmkdeknpphimbaaDoor.Num
set_option linter.unusedVariables false
set_option linter.unusedSimpArgs false
abbrev EntT:=S47
def feN (xs:List EntT) (n:NeedT):Int:=fe xs n.f0 n.f1.f0 n.f1.f1 n.f1.f2 n.f1.f3
def clB (xs:List EntT) (l:List NeedT) (n:NeedT):Bool:=if feN xs n < 0 then false else covB l (xs.getD (feN xs n).toNat z47).f2
def closB (xs:List EntT) (l:List NeedT):Bool:=l.all fun n=>clB xs l n
def shortE (xs:List EntT):Prop:=(∀ x ∈ xs,shortN x.f2) ∧ xs.length ≤ 1099511627776
theorem fe_range (xs:List EntT) (n:NeedT) (h : ¬ feN xs n < 0) : ∃ i:Nat,i < xs.length ∧ feN xs n=i:=by
 unfold feN fe at h ⊢
 rcases fst_spec (hit xs n.f0 n.f1.f0 n.f1.f1 n.f1.f2 n.f1.f3) xs.length 0 with ⟨h1,_⟩ | ⟨i,_,h2,h3,_,_⟩
 ·rw [h1] at h;omega
 ·exact ⟨i,by omega,h3⟩
theorem rdE (xs:List EntT) (i:Nat):rd_T47 xs (i:Int)=xs.getD i z47:=by unfold rd_T47;rw [Int.toNat_natCast]
theorem closedI (xs:List EntT) (l:List NeedT) (hx:shortE xs) (hl:shortN l):Ev (fun k=>impl_Closed.f k xs l) (closB xs l):=by
 have key : ∀ (d i:Nat),i + d=l.length → Ev (fun k=>impl_Closed.l0 k xs l l (l.length:Int) (i:Int)) ((l.drop i).all fun n=>clB xs l n):=by
  intro d
  induction d with
  | zero=>
   intro i hi
   refine Ev.step (f:=fun _=>some true) (fun k=>?_) ?_
   ·simp only [impl_Closed.l0]
    rw [if_neg (by omega)]
   ·rw [List.drop_eq_nil_of_le (show l.length ≤ i by omega)]
    exact Ev.now _
  | succ d ih=>
   intro i hi
   have h2:=hl.2
   have h3:=hx.2
   have hlx:i < l.length:=by omega
   have hw:=wrapS hlx (by omega)
   rw [drop_cons (z:=z36) hlx,List.all_cons]
   generalize hn:l.getD i z36=n
   refine Ev.step (f:=fun k=>(impl_findEntry.f k xs n.f0 n.f1.f0 n.f1.f1 n.f1.f2 n.f1.f3).bind fun t=>if t < 0 then some false else if 0 ≤ t then (if t < (xs.length:Int) then ((impl_Covers.f k l (rd_T47 xs t).f2).bind fun u=>if u=true then impl_Closed.l0 k xs l l (l.length:Int) ((i + 1:Nat):Int) else some false) else none) else none) (fun k=>?_) ?_
   ·simp only [impl_Closed.l0]
    rw [if_pos (by omega),if_pos (by omega),if_pos (by omega),rdT,hw,hn]
   ·refine Ev.bind (findEntry xs n.f0 n.f1.f0 n.f1.f1 n.f1.f2 n.f1.f3 (by omega)) ?_
    show Ev (fun k=>if feN xs n < 0 then some false else _) _
    rw [show clB xs l n=(if feN xs n < 0 then false else covB l (xs.getD (feN xs n).toNat z47).f2) from rfl]
    by_cases hf:feN xs n < 0
    ·rw [if_pos hf,Bool.false_and]
     exact Ev.pos hf (Ev.now _)
    ·obtain ⟨j,hj,e⟩:=fe_range xs n hf
     rw [if_neg hf]
     refine Ev.neg hf ?_
     have e':fe xs n.f0 n.f1.f0 n.f1.f1 n.f1.f2 n.f1.f3=(j:Int):=e
     rw [e',e,Int.toNat_natCast]
     refine Ev.pos (by omega) (Ev.pos (by omega) ?_)
     rw [rdE]
     refine Ev.bind (coversI l _ hl (hx.1 _ (getD_mem hj))) ?_
     generalize covB l (xs.getD j z47).f2=b
     cases b with
     | true=>exact Ev.pos rfl (by simpa using ih (i + 1) (by omega))
     | false=>exact Ev.neg (by decide) (by simpa using Ev.now false)
 have:=key _ 0 (Nat.zero_add _)
 simpa [impl_Closed.f,closB] using this
theorem closedS (xs:List EntT) (l:List NeedT) (hx:shortE xs) (hl:shortN l):Ev (fun k=>spec_Closed.f k xs l) (closB xs l):=by
 have key : ∀ (d i:Nat),i + d=l.length → Ev (fun k=>spec_Closed.l0 k xs l (i:Int)) ((l.drop i).all fun n=>clB xs l n):=by
  intro d
  induction d with
  | zero=>
   intro i hi
   refine Ev.step (f:=fun _=>some true) (fun k=>?_) ?_
   ·simp only [spec_Closed.l0]
    rw [if_neg (by omega)]
   ·rw [List.drop_eq_nil_of_le (show l.length ≤ i by omega)]
    exact Ev.now _
  | succ d ih=>
   intro i hi
   have h2:=hl.2
   have h3:=hx.2
   have hlx:i < l.length:=by omega
   have hw:=wrapS hlx (by omega)
   rw [drop_cons (z:=z36) hlx,List.all_cons]
   generalize hn:l.getD i z36=n
   refine Ev.step (f:=fun k=>(spec_l15At.f k xs n.f0 n.f1.f0 n.f1.f1 n.f1.f2 n.f1.f3).bind fun t=>if t < 0 then some false else if 0 ≤ t then (if t < (xs.length:Int) then ((spec_Covers.f k l (rd_T47 xs t).f2).bind fun u=>if u=true then spec_Closed.l0 k xs l ((i + 1:Nat):Int) else some false) else none) else none) (fun k=>?_) ?_
   ·simp only [spec_Closed.l0]
    rw [if_pos (by omega),if_pos (by omega),rdT,hw,hn]
   ·refine Ev.bind (at15 xs n.f0 n.f1.f0 n.f1.f1 n.f1.f2 n.f1.f3 (by omega)) ?_
    show Ev (fun k=>if feN xs n < 0 then some false else _) _
    rw [show clB xs l n=(if feN xs n < 0 then false else covB l (xs.getD (feN xs n).toNat z47).f2) from rfl]
    by_cases hf:feN xs n < 0
    ·rw [if_pos hf,Bool.false_and]
     exact Ev.pos hf (Ev.now _)
    ·obtain ⟨j,hj,e⟩:=fe_range xs n hf
     rw [if_neg hf]
     refine Ev.neg hf ?_
     have e':fe xs n.f0 n.f1.f0 n.f1.f1 n.f1.f2 n.f1.f3=(j:Int):=e
     rw [e',e,Int.toNat_natCast]
     refine Ev.pos (by omega) (Ev.pos (by omega) ?_)
     rw [rdE]
     refine Ev.bind (coversS l _ hl (hx.1 _ (getD_mem hj))) ?_
     generalize covB l (xs.getD j z47).f2=b
     cases b with
     | true=>exact Ev.pos rfl (by simpa using ih (i + 1) (by omega))
     | false=>exact Ev.neg (by decide) (by simpa using Ev.now false)
 have:=key _ 0 (Nat.zero_add _)
 simpa [spec_Closed.f,closB] using this
end Go.Proofs.YtmkdeknpphimbaaDoor.PFnClosed
