import Derived.Test.YtfpdikledfhcaaaGreatDoorCCaTextsCo
namespace Go.Proofs.YtfpdikledfhcaaaGreatDoor.PFnExactClientOk
open Go Go.RowKit Go.Proofs.YtfpdikledfhcaaaGreatDoorW.PrintWords Go.Proofs.YtfpdikledfhcaaaGreatDoorW.PrintLast Go.Proofs.YtfpdikledfhcaaaGreatDoorW.PrintMore Go.Proofs.YtfpdikledfhcaaaGreatDoor.Ev Go.Proofs.YtfpdikledfhcaaaGreatDoor.Str Go.Proofs.YtfpdikledfhcaaaGreatDoor.Num
set_option linter.unusedVariables false
set_option linter.unusedSimpArgs false
def allI (c:Nat → Bool) (n:Nat):Bool:=(List.range n).all c
theorem allI_iff {c:Nat → Bool} {n:Nat} : allI c n=true ↔ ∀ i,i < n → c i=true:=by simp [allI]
theorem allb (l:Nat → Int → Option Bool) (n:Nat) (c:Nat → Bool) (v:Bool) (hstop:Ev (fun k=>l k (n:Int)) v) (hgo : ∀ (i:Nat) (r:Bool),i < n → Ev (fun k=>l k ((i + 1:Nat):Int)) r → Ev (fun k=>l k (i:Int)) (c i && r)):Ev (fun k=>l k 0) (allI c n && v):=by
 have key : ∀ d i:Nat,i + d=n → Ev (fun k=>l k (i:Int)) ((List.range' i d).all c && v):=by
  intro d
  induction d with
  | zero=>
   intro i hi
   have e:i=n:=by omega
   subst e
   simpa using hstop
  | succ d ih=>
   intro i hi
   rw [List.range'_succ,List.all_cons,Bool.and_assoc]
   exact hgo i _ (by omega) (ih (i + 1) (by omega))
 have:=key n 0 (Nat.zero_add _)
 rw [← List.range_eq_range'] at this
 exact this
theorem Ev.if_go {c:Bool} {g:Nat → Option Bool} {r:Bool} (h:Ev g r):Ev (fun k=>if c=true then g k else some false) (c && r):=by
 cases c with
 | true=>exact Ev.pos rfl h
 | false=>exact Ev.neg (by decide) (Ev.now _)
theorem in_all (a b c:Int):spec_l1In.f a b c=some (decide (b ≤ a ∧ a ≤ c)):=by
 unfold spec_l1In.f
 by_cases h:a ≥ b
 ·rw [if_pos h]
  exact congrArg some (decide_eq_decide.2 ⟨fun x=>⟨h,x⟩,fun x=>x.2⟩)
 ·rw [if_neg h]
  exact congrArg some (decide_eq_false (fun x=>h x.1)).symm
theorem inrange (a b c:Int):impl_inRange.f a b c=some (decide (b ≤ a ∧ a ≤ c)):=by
 unfold impl_inRange.f
 by_cases h:a ≥ b
 ·rw [if_pos h]
  exact congrArg some (decide_eq_decide.2 ⟨fun x=>⟨h,x⟩,fun x=>x.2⟩)
 ·rw [if_neg h]
  exact congrArg some (decide_eq_false (fun x=>h x.1)).symm
theorem figI (a:Int):impl_isFigure.f a=some (decide (48 ≤ a ∧ a ≤ 57)):=by
 unfold impl_isFigure.f
 by_cases h:a ≥ 48
 ·rw [if_pos h]
  exact congrArg some (decide_eq_decide.2 ⟨fun x=>⟨h,x⟩,fun x=>x.2⟩)
 ·rw [if_neg h]
  exact congrArg some (decide_eq_false (fun x=>h x.1)).symm
theorem byte_lt (l:List UInt8) (i:Nat):(l.getD i 0).toNat < 256:=UInt8.toNat_lt _
def pb (l:List UInt8) (i:Nat):Bool:=decide ((97 ≤ (l.getD i 0).toNat ∧ (l.getD i 0).toNat ≤ 122) ∨ (48 ≤ (l.getD i 0).toNat ∧ (l.getD i 0).toNat ≤ 57) ∨ (i ≠ 0 ∧ ((l.getD i 0).toNat=45 ∨ (l.getD i 0).toNat=46 ∨ (l.getD i 0).toNat=95)))
def ppB (l:List UInt8):Bool:=allI (pb l) l.length && decide (1 ≤ l.length ∧ l.length ≤ 20)
theorem pathPartI (s:ByteArray) (hs:s.size ≤ 2147483648):Ev (fun k=>impl_pathPartOk.f k s) (ppB (dl s)):=by
 have hsz:=size_dl s
 unfold ppB
 rw [← hsz]
 refine allb (fun k i=>impl_pathPartOk.l0 k s i) s.size (pb (dl s)) _ ?_ (fun i r hi hr=>?_)
 ·refine Ev.step (f:=fun _=>(impl_inRange.f (s.size:Int) 1 20).bind fun t=>some t) (fun k=>?_) (Ev.const ?_)
  ·simp only [impl_pathPartOk.l0]
   rw [if_neg (by omega)]
  ·rw [inrange]
   exact congrArg some (decide_eq_decide.2 (by omega))
 ·have hw:=wrapS hi (by omega)
  refine Ev.step (f:=fun k=>if pb (dl s) i=true then impl_pathPartOk.l0 k s ((i + 1:Nat):Int) else some false) (fun k=>?_) (Ev.if_go hr)
  simp only [impl_pathPartOk.l0]
  rw [if_pos (by omega),if_pos (by omega),hw,bt_dl s i hi]
  simp only [pb,decide_eq_true_eq,figI,Option.bind_some]
  generalize impl_pathPartOk.l0 k s ((i + 1:Nat):Int)=N
  generalize ((dl s).getD i 0).toNat=v
  repeat' split
  all_goals first | rfl | omega
theorem pathPartS (s:ByteArray) (hs:s.size ≤ 2147483648):Ev (fun k=>spec_l4Part.f k s) (ppB (dl s)):=by
 have hsz:=size_dl s
 unfold ppB
 rw [← hsz]
 refine allb (fun k i=>spec_l4Part.l0 k s i) s.size (pb (dl s)) _ ?_ (fun i r hi hr=>?_)
 ·refine Ev.step (f:=fun _=>(spec_l1In.f (s.size:Int) 1 20).bind fun t=>some t) (fun k=>?_) (Ev.const ?_)
  ·simp only [spec_l4Part.l0]
   rw [if_neg (by omega)]
  ·rw [in_all]
   exact congrArg some (decide_eq_decide.2 (by omega))
 ·have hw:=wrapS hi (by omega)
  have hb:=byte_lt (dl s) i
  refine Ev.step (f:=fun k=>if pb (dl s) i=true then spec_l4Part.l0 k s ((i + 1:Nat):Int) else some false) (fun k=>?_) (Ev.if_go hr)
  simp only [spec_l4Part.l0]
  rw [if_pos (by omega),if_pos (by omega),hw,bt_dl s i hi,wrapI (by omega) (by omega)]
  simp only [pb,decide_eq_true_eq,in_all,Option.bind_some]
  generalize spec_l4Part.l0 k s ((i + 1:Nat):Int)=N
  generalize ((dl s).getD i 0).toNat=v
  repeat' split
  all_goals first | rfl | omega
def qb (l:List UInt8) (i:Nat):Bool:=decide ((97 ≤ (l.getD i 0).toNat ∧ (l.getD i 0).toNat ≤ 122) ∨ (65 ≤ (l.getD i 0).toNat ∧ (l.getD i 0).toNat ≤ 90) ∨ (48 ≤ (l.getD i 0).toNat ∧ (l.getD i 0).toNat ≤ 57) ∨ (l.getD i 0).toNat=45)
def qpB (l:List UInt8):Bool:=allI (qb l) l.length && (decide (1 ≤ l.length ∧ l.length ≤ 8) && (!digB l || numB l))
theorem partI (s:ByteArray) (hs:s.size ≤ 2147483648):Ev (fun k=>impl_partOk.f k s) (qpB (dl s)):=by
 have hsz:=size_dl s
 unfold qpB
 rw [← hsz]
 refine allb (fun k i=>impl_partOk.l0 k s i) s.size (qb (dl s)) _ ?_ (fun i r hi hr=>?_)
 ·refine Ev.step (f:=fun k=>(impl_inRange.f (s.size:Int) 1 8).bind fun t=>if t=true then ((impl_isFigures.f k s).bind fun u=>if u=true then ((impl_isNumber.f k s).bind fun v=>some v) else some true) else some false) (fun k=>?_) ?_
  ·simp only [impl_partOk.l0]
   rw [if_neg (by omega)]
  ·refine Ev.bind_const (inrange _ _ _) ?_
   by_cases h:1 ≤ s.size ∧ s.size ≤ 8
   ·rw [decide_eq_true h,Bool.true_and]
    refine Ev.pos (decide_eq_true (by omega)) (Ev.bind (isFigures_ev s hs) ?_)
    by_cases hd:digB (dl s)=true
    ·rw [hd]
     exact Ev.pos rfl (Ev.bind (isNumber_ev s hs) (by simpa using Ev.now _))
    ·have hd':digB (dl s)=false:=by simpa using hd
     rw [hd']
     exact Ev.neg (by decide) (Ev.now _)
   ·rw [decide_eq_false h,Bool.false_and]
    exact Ev.neg (by rw [decide_eq_true_eq];omega) (Ev.now _)
 ·have hw:=wrapS hi (by omega)
  refine Ev.step (f:=fun k=>if qb (dl s) i=true then impl_partOk.l0 k s ((i + 1:Nat):Int) else some false) (fun k=>?_) (Ev.if_go hr)
  simp only [impl_partOk.l0]
  rw [if_pos (by omega),if_pos (by omega),hw,bt_dl s i hi]
  simp only [qb,decide_eq_true_eq,figI,Option.bind_some]
  generalize impl_partOk.l0 k s ((i + 1:Nat):Int)=N
  generalize ((dl s).getD i 0).toNat=v
  repeat' split
  all_goals first | rfl | omega
theorem partS (s:ByteArray) (hs:s.size ≤ 2147483648):Ev (fun k=>spec_l3Part.f k s) (qpB (dl s)):=by
 have hsz:=size_dl s
 unfold qpB
 rw [← hsz]
 refine allb (fun k i=>spec_l3Part.l0 k s i) s.size (qb (dl s)) _ ?_ (fun i r hi hr=>?_)
 ·refine Ev.step (f:=fun k=>(spec_l1In.f (s.size:Int) 1 8).bind fun t=>if t=true then ((spec_l3Digits.f k s).bind fun u=>if u=true then ((spec_l3Number.f k s).bind fun v=>some (decide (v ≥ 0))) else some true) else some false) (fun k=>?_) ?_
  ·simp only [spec_l3Part.l0]
   rw [if_neg (by omega)]
  ·refine Ev.bind_const (in_all _ _ _) ?_
   by_cases h:1 ≤ s.size ∧ s.size ≤ 8
   ·rw [decide_eq_true h,Bool.true_and]
    refine Ev.pos (decide_eq_true (by omega)) (Ev.bind (l3Digits_ev s hs) ?_)
    by_cases hd:digB (dl s)=true
    ·rw [hd]
     refine Ev.pos rfl (Ev.bind (l3Number_ev s hs) ?_)
     have e:small (dl s)=numB (dl s):=by unfold small;rw [decide_eq_true (by omega),Bool.and_true]
     rw [e]
     by_cases hn:numB (dl s)=true
     ·rw [if_pos hn,hn,decide_eq_true (by omega)]
      exact Ev.now _
     ·rw [if_neg hn,Bool.eq_false_iff.2 hn,decide_eq_false (by omega)]
      exact Ev.now _
    ·have hd':digB (dl s)=false:=by simpa using hd
     rw [hd']
     exact Ev.neg (by decide) (Ev.now _)
   ·rw [decide_eq_false h,Bool.false_and]
    exact Ev.neg (by rw [decide_eq_true_eq];omega) (Ev.now _)
 ·have hw:=wrapS hi (by omega)
  have hb:=byte_lt (dl s) i
  refine Ev.step (f:=fun k=>if qb (dl s) i=true then spec_l3Part.l0 k s ((i + 1:Nat):Int) else some false) (fun k=>?_) (Ev.if_go hr)
  simp only [spec_l3Part.l0]
  rw [if_pos (by omega),if_pos (by omega),hw,bt_dl s i hi,wrapI (by omega) (by omega)]
  simp only [qb,decide_eq_true_eq,in_all,Option.bind_some]
  generalize spec_l3Part.l0 k s ((i + 1:Nat):Int)=N
  generalize ((dl s).getD i 0).toNat=v
  repeat' split
  all_goals first | rfl | omega
theorem partsL (c:UInt8) (s:ByteArray) (hs:s.size ≤ 2147483648):(∀ x ∈ splitL c (dl s),x.length ≤ 2147483648) ∧ (splitL c (dl s)).length ≤ 4294967296:=by
 have h:=size_dl s
 refine ⟨fun x hx=>?_,?_⟩
 ·have:=splitL_mem hx;omega
 ·have:=splitL_length c (dl s);omega
theorem Ev.bind_go {c:Bool} {g h:Nat → Option Bool} {r:Bool} (e:Ev g c) (k:Ev h r):Ev (fun n=>(g n).bind fun t=>if t=true then h n else some false) (c && r):=Ev.bind e (Ev.if_go k)
def pathB (l:List UInt8):Bool:=allI (fun i=>ppB ((splitL 47 l).getD i [])) (splitL 47 l).length && decide ((splitL 47 l).length ≤ 6 ∧ l.length ≤ 60)
theorem PathI (s:ByteArray) (hs:s.size ≤ 2147483648):Ev (fun k=>impl_PathOk.f k s) (pathB (dl s)):=by
 have hp:=partsL 47 s hs
 have hsz:=size_dl s
 unfold pathB
 refine Ev.bind_const (split_impl s 47 hs) ?_
 generalize splitL 47 (dl s)=xs at hp
 refine allb (fun k i=>impl_PathOk.l0 k s (xs.map bv) (xs.map bv) ((xs.map bv).length:Int) i) xs.length _ _ ?_ (fun i r hi hr=>?_)
 ·refine Ev.step (f:=fun _=>if ((xs.map bv).length:Int) ≤ 6 then some (decide ((s.size:Int) ≤ 60)) else some false) (fun k=>?_) ?_
  ·simp only [impl_PathOk.l0]
   rw [if_neg (by rw [List.length_map];omega)]
  ·rw [List.length_map]
   by_cases h:xs.length ≤ 6
   ·refine Ev.pos (by omega) (Ev.const (congrArg some (decide_eq_decide.2 (by omega))))
   ·rw [decide_eq_false (show ¬ (xs.length ≤ 6 ∧ (dl s).length ≤ 60) from fun x=>h x.1)]
    exact Ev.neg (by omega) (Ev.now _)
 ·have h2:=hp.2
  have hw:=wrapS hi (by omega)
  have hm:=hp.1 _ (getD_mem (z:=[]) hi)
  refine Ev.step (f:=fun k=>(impl_pathPartOk.f k (bv (xs.getD i []))).bind fun t=>if t=true then impl_PathOk.l0 k s (xs.map bv) (xs.map bv) ((xs.map bv).length:Int) ((i + 1:Nat):Int) else some false) (fun k=>?_) ?_
  ·simp only [impl_PathOk.l0]
   rw [if_pos (by rw [List.length_map];omega),if_pos (by omega),if_pos (by rw [List.length_map];omega),rd_bv xs i hi,hw]
  ·have:=pathPartI (bv (xs.getD i [])) (by rw [size_bv];exact hm)
   rw [dl_bv] at this
   exact Ev.bind_go this hr
theorem PathS (s:ByteArray) (hs:s.size ≤ 2147483648):Ev (fun k=>spec_PathOk.f k s) (pathB (dl s)):=by
 have hp:=partsL 47 s hs
 have hsz:=size_dl s
 unfold pathB
 refine Ev.bind (split_spec s 47 47 rfl hs) ?_
 generalize splitL 47 (dl s)=xs at hp
 refine allb (fun k i=>spec_PathOk.l0 k s (xs.map bv) i) xs.length _ _ ?_ (fun i r hi hr=>?_)
 ·refine Ev.step (f:=fun _=>if ((xs.map bv).length:Int) ≤ 6 then some (decide ((s.size:Int) ≤ 60)) else some false) (fun k=>?_) ?_
  ·simp only [spec_PathOk.l0]
   rw [if_neg (by rw [List.length_map];omega)]
  ·rw [List.length_map]
   by_cases h:xs.length ≤ 6
   ·refine Ev.pos (by omega) (Ev.const (congrArg some (decide_eq_decide.2 (by omega))))
   ·rw [decide_eq_false (show ¬ (xs.length ≤ 6 ∧ (dl s).length ≤ 60) from fun x=>h x.1)]
    exact Ev.neg (by omega) (Ev.now _)
 ·have h2:=hp.2
  have hw:=wrapS hi (by omega)
  have hm:=hp.1 _ (getD_mem (z:=[]) hi)
  refine Ev.step (f:=fun k=>(spec_l4Part.f k (bv (xs.getD i []))).bind fun t=>if t=true then spec_PathOk.l0 k s (xs.map bv) ((i + 1:Nat):Int) else some false) (fun k=>?_) ?_
  ·simp only [spec_PathOk.l0]
   rw [if_pos (by rw [List.length_map];omega),if_pos (by omega),rd_bv xs i hi,hw]
  ·have:=pathPartS (bv (xs.getD i [])) (by rw [size_bv];exact hm)
   rw [dl_bv] at this
   exact Ev.bind_go this hr
def preB (l:List UInt8):Bool:=allI (fun i=>qpB ((splitL 46 l).getD i [])) (splitL 46 l).length && decide ((splitL 46 l).length ≤ 4)
theorem PreS (s:ByteArray) (hs:s.size ≤ 2147483648):Ev (fun k=>spec_l3Pre.f k s) (preB (dl s)):=by
 have hp:=partsL 46 s hs
 unfold preB
 refine Ev.bind (split_spec s 46 46 rfl hs) ?_
 generalize splitL 46 (dl s)=xs at hp
 refine allb (fun k i=>spec_l3Pre.l0 k (xs.map bv) i) xs.length _ _ ?_ (fun i r hi hr=>?_)
 ·refine Ev.step (f:=fun _=>some (decide (((xs.map bv).length:Int) ≤ 4))) (fun k=>?_) (Ev.const (congrArg some (decide_eq_decide.2 (by rw [List.length_map];omega))))
  simp only [spec_l3Pre.l0]
  rw [if_neg (by rw [List.length_map];omega)]
 ·have h2:=hp.2
  have hw:=wrapS hi (by omega)
  have hm:=hp.1 _ (getD_mem (z:=[]) hi)
  refine Ev.step (f:=fun k=>(spec_l3Part.f k (bv (xs.getD i []))).bind fun t=>if t=true then spec_l3Pre.l0 k (xs.map bv) ((i + 1:Nat):Int) else some false) (fun k=>?_) ?_
  ·simp only [spec_l3Pre.l0]
   rw [if_pos (by rw [List.length_map];omega),if_pos (by omega),rd_bv xs i hi,hw]
  ·have:=partS (bv (xs.getD i [])) (by rw [size_bv];exact hm)
   rw [dl_bv] at this
   exact Ev.bind_go this hr
def n6 (a:Int):Bool:=decide (0 ≤ a ∧ a ≤ 1000000)
def verB (a b c:Int) (l:List UInt8):Bool:=n6 a && (n6 b && (n6 c && (decide (l=[]) || preB l)))
theorem VersionI (a b c:Int) (s:ByteArray) (hs:s.size ≤ 2147483648):Ev (fun k=>impl_VersionOk.f k a b c s) (verB a b c (dl s)):=by
 unfold verB impl_VersionOk.f
 have e:(impl_VersionOk.num a && (impl_VersionOk.num b && impl_VersionOk.num c))=(n6 a && (n6 b && n6 c)):=rfl
 rw [e,show (n6 a && (n6 b && (n6 c && (decide (dl s=[]) || preB (dl s)))))=((n6 a && (n6 b && n6 c)) && (decide (dl s=[]) || preB (dl s))) from by simp only [Bool.and_assoc]]
 refine Ev.if_go ?_
 rw [toList_dl]
 by_cases h:dl s=[]
 ·rw [decide_eq_true h]
  exact Ev.pos h (Ev.now _)
 ·rw [decide_eq_false h,Bool.false_or]
  refine Ev.neg h ?_
  have hp:=partsL 46 s hs
  unfold preB
  refine Ev.bind_const (split_impl s 46 hs) ?_
  generalize splitL 46 (dl s)=xs at hp
  refine allb (fun k i=>impl_VersionOk.l0 k (xs.map bv) i) xs.length _ _ ?_ (fun i r hi hr=>?_)
  ·refine Ev.step (f:=fun _=>some (decide (((xs.map bv).length:Int) ≤ 4))) (fun k=>?_) (Ev.const (congrArg some (decide_eq_decide.2 (by rw [List.length_map];omega))))
   simp only [impl_VersionOk.l0]
   rw [if_neg (by rw [List.length_map];omega)]
  ·have h2:=hp.2
   have hw:=wrapS hi (by omega)
   have hm:=hp.1 _ (getD_mem (z:=[]) hi)
   refine Ev.step (f:=fun k=>(impl_partOk.f k (bv (xs.getD i []))).bind fun t=>if t=true then impl_VersionOk.l0 k (xs.map bv) ((i + 1:Nat):Int) else some false) (fun k=>?_) ?_
   ·simp only [impl_VersionOk.l0]
    rw [if_pos (by rw [List.length_map];omega),if_pos (by omega),rd_bv xs i hi,hw]
   ·have:=partI (bv (xs.getD i [])) (by rw [size_bv];exact hm)
    rw [dl_bv] at this
    exact Ev.bind_go this hr
theorem VersionS (a b c:Int) (s:ByteArray) (hs:s.size ≤ 2147483648):Ev (fun k=>spec_VersionOk.f k a b c s) (verB a b c (dl s)):=by
 unfold verB
 refine Ev.bind_const (in_all a _ _) (Ev.if_go (Ev.bind_const (in_all b _ _) (Ev.if_go (Ev.bind_const (in_all c _ _) (Ev.if_go ?_)))))
 rw [toList_dl]
 by_cases h:dl s=[]
 ·rw [decide_eq_true h]
  exact Ev.pos h (Ev.now _)
 ·rw [decide_eq_false h,Bool.false_or]
  exact Ev.neg h (Ev.bind (PreS s hs) (Ev.now _))
end Go.Proofs.YtfpdikledfhcaaaGreatDoor.PFnExactClientOk
