import Derived.Test.YtmkdeknpphimbaaDoorCCeCovFc
import Derived.Test.YtmkdeknpphimbaaDoorCCeDrawFc
namespace Go.Proofs.YtmkdeknpphimbaaDoor.PFnClosed
open Go Go.RowKit Go.Proofs.YtmkdeknpphimbaaDoorW.PrintWords Go.Proofs.YtmkdeknpphimbaaDoorW.PrintLast Go.Proofs.YtmkdeknpphimbaaDoorW.PrintMore Go.Proofs.YtmkdeknpphimbaaDoor.Ev Go.Proofs.YtmkdeknpphimbaaDoor.Str Go.Proofs.YtmkdeknpphimbaaDoor.Num
set_option linter.unusedVariables false
set_option linter.unusedSimpArgs false
theorem l1In_p (a b c:Int):EvP (fun _=>spec_l1In.f a b c) (fun r=>r=true → b ≤ a ∧ a ≤ c):=by
 unfold spec_l1In.f
 refine EvP.ite (fun h=>EvP.now (fun e=>⟨h,of_decide_eq_true e⟩)) (fun h=>EvP.now (fun e=>by cases e))
theorem l4Part_p (s:ByteArray) (hs:s.size ≤ 2147483648):EvP (fun k=>spec_l4Part.f k s) (fun _=>True):=by
 have key : ∀ (d i:Nat),i + d=s.size → EvP (fun k=>spec_l4Part.l0 k s (i:Int)) (fun _=>True):=by
  intro d
  induction d with
  | zero=>
   intro i hi
   refine EvP.step (f:=fun _=>(spec_l1In.f (s.size:Int) 1 20).bind fun t=>some t) (fun k=>?_) (EvP.bind (l1In_p _ _ _) (fun _ _=>EvP.now trivial))
   simp only [spec_l4Part.l0]
   rw [if_neg (by omega)]
  | succ d ih=>
   intro i hi
   have hw:=wrapS (i:=i) (n:=s.size) (by omega) (by omega)
   have hn:=ih (i + 1) (by omega)
   refine EvP.step (f:=fun k=>(spec_l1In.f (wrap64 (bt s (i:Int))) 97 122).bind fun t=>if t=true then spec_l4Part.l0 k s ((i + 1:Nat):Int) else (spec_l1In.f (wrap64 (bt s (i:Int))) 48 57).bind fun u=>if u=true then spec_l4Part.l0 k s ((i + 1:Nat):Int) else if (i:Int)=0 then some false else if wrap64 (bt s (i:Int))=45 then spec_l4Part.l0 k s ((i + 1:Nat):Int) else if wrap64 (bt s (i:Int))=46 then spec_l4Part.l0 k s ((i + 1:Nat):Int) else if wrap64 (bt s (i:Int))=95 then spec_l4Part.l0 k s ((i + 1:Nat):Int) else some false) (fun k=>?_) ?_
   ·simp only [spec_l4Part.l0]
    rw [if_pos (by omega),if_pos (by omega),hw]
   ·exact EvP.bind (l1In_p _ _ _) (fun _ _=>EvP.ite (fun _=>hn) (fun _=>EvP.bind (l1In_p _ _ _) (fun _ _=>EvP.ite (fun _=>hn) (fun _=>EvP.ite (fun _=>EvP.now trivial) (fun _=>EvP.ite (fun _=>hn) (fun _=>EvP.ite (fun _=>hn) (fun _=>EvP.ite (fun _=>hn) (fun _=>EvP.now trivial))))))))
 exact key s.size 0 (Nat.zero_add _)
theorem partsL (c:UInt8) (s:ByteArray) (hs:s.size ≤ 2147483648):(∀ x ∈ splitL c (dl s),x.length ≤ 2147483648) ∧ (splitL c (dl s)).length ≤ 4294967296:=by
 have h:=size_dl s
 refine ⟨fun x hx=>?_,?_⟩
 ·have:=splitL_mem hx;omega
 ·have:=splitL_length c (dl s);omega
theorem PathOk_p (s:ByteArray) (hs:s.size ≤ 2147483648):EvP (fun k=>spec_PathOk.f k s) (fun _=>True):=by
 refine EvP.bind (EvP.of (split_spec s 47 47 rfl hs) rfl) (fun xs hx=>?_)
 subst hx
 have hp:=partsL 47 s hs
 generalize splitL 47 (dl s)=xs at hp
 have key : ∀ (d i:Nat),i + d=xs.length → EvP (fun k=>spec_PathOk.l0 k s (xs.map bv) (i:Int)) (fun _=>True):=by
  intro d
  induction d with
  | zero=>
   intro i hi
   refine EvP.step (f:=fun _=>if ((xs.map bv).length:Int) ≤ 6 then some (decide ((s.size:Int) ≤ 60)) else some false) (fun k=>?_) (EvP.ite (fun _=>EvP.now trivial) (fun _=>EvP.now trivial))
   simp only [spec_PathOk.l0]
   rw [if_neg (by rw [List.length_map];omega)]
  | succ d ih=>
   intro i hi
   have h2:=hp.2
   have hlx:i < xs.length:=by omega
   have hw:=wrapS hlx (by omega)
   have hm:=hp.1 _ (getD_mem (z:=[]) hlx)
   refine EvP.step (f:=fun k=>(spec_l4Part.f k (bv (xs.getD i []))).bind fun t=>if t=true then spec_PathOk.l0 k s (xs.map bv) ((i + 1:Nat):Int) else some false) (fun k=>?_) ?_
   ·simp only [spec_PathOk.l0]
    rw [if_pos (by rw [List.length_map];omega),if_pos (by omega),rd_bv xs i hlx,hw]
   ·exact EvP.bind (l4Part_p _ (by rw [size_bv];exact hm)) (fun _ _=>EvP.ite (fun _=>ih (i + 1) (by omega)) (fun _=>EvP.now trivial))
 exact key xs.length 0 (Nat.zero_add _)
theorem l4Major_p (s:ByteArray) (hs:s.size ≤ 2147483648):EvP (fun k=>spec_l4Major.f k s) (fun r=>0 ≤ r ∧ r ≤ 1000):=by
 refine EvP.bind (EvP.of (split_spec s 47 47 rfl hs) rfl) (fun ys hy=>?_)
 have hp:=partsL 47 s hs
 have hne:=splitL_ne 47 (dl s)
 generalize splitL 47 (dl s)=xs at hp hne hy
 subst hy
 have h2:=hp.2
 have hlen:0 < xs.length:=List.length_pos_iff.2 hne
 have hw:wrap64 (((xs.map bv).length:Int) - 1)=((xs.length - 1:Nat):Int):=by rw [List.length_map,wrapI (by omega) (by omega)];omega
 have hr:=rd_bv xs (xs.length - 1) (by omega)
 have hm:=hp.1 _ (getD_mem (z:=[]) (show xs.length - 1 < xs.length by omega))
 rw [hw,hr]
 generalize xs.getD (xs.length - 1) []=last at hm
 have hz:=size_bv last
 have hj : ∀ x:Bool,(x=false → 1 ≤ (bv last).size) → EvP (fun k=>spec_l4Major.j0 k (bv last) x) (fun r=>0 ≤ r ∧ r ≤ 1000):=by
  intro x hx
  refine EvP.step (f:=fun k=>if x=true then some 0 else if 1 ≤ ((bv last).size:Int) then (spec_l3Number.f k ((bv last).extract 1 (bv last).size)).bind fun t=>(spec_l1In.f t 2 1000).bind fun u=>if u=true then some t else some 0 else none) (fun k=>by simp only [spec_l4Major.j0]) ?_
  refine EvP.ite (fun _=>EvP.now ⟨Int.le_refl _,by decide⟩) (fun h=>EvP.pos (by have:=hx (by simpa using h);omega) ?_)
  refine EvP.bind (EvP.of (l3Number_ev _ (by rw [ByteArray.size_extract];omega)) rfl) (fun t _=>EvP.bind (l1In_p t 2 1000) (fun u hu=>EvP.ite (fun e=>EvP.now (by have:=hu e;omega)) (fun _=>EvP.now ⟨Int.le_refl _,by decide⟩)))
 refine EvP.pos (by omega) (EvP.pos (by rw [List.length_map];omega) (EvP.ite (fun _=>hj true (fun e=>by cases e)) (fun _=>EvP.ite (fun _=>hj true (fun e=>by cases e)) (fun h=>?_))))
 have hpos:0 < (bv last).size:=by
  rw [toList_dl,dl_bv] at h
  rw [hz]
  exact List.length_pos_iff.2 h
 exact EvP.pos (by omega) (hj _ (fun _=>hpos))
theorem MajorOf_p (s:ByteArray) (hs:s.size ≤ 2147483648):EvP (fun k=>spec_MajorOf.f k s) (fun r=>0 ≤ r ∧ r ≤ 1000):=
 EvP.bind (PathOk_p s hs) (fun _ _=>EvP.ite (fun _=>EvP.bind (l4Major_p s hs) (fun r hr=>EvP.ite (fun _=>EvP.now ⟨by decide,by decide⟩) (fun _=>EvP.now hr))) (fun _=>EvP.now ⟨by decide,by decide⟩))
def presD:List ByteArray:=[⟨#[]⟩,⟨#[]⟩,⟨#[]⟩,⟨#[114,99,46,49]⟩,⟨#[97,108,112,104,97]⟩,⟨#[114,99,46,50]⟩,⟨#[49]⟩,⟨#[50,46,120]⟩,⟨#[98,101,116,97,45,49]⟩,⟨#[114,99]⟩]
def pathsD:List ByteArray:=[⟨#[97,46,111,114,103,47,120]⟩,⟨#[97,46,111,114,103,47,121]⟩,⟨#[98,46,105,111,47,122]⟩,⟨#[98,46,105,111,47,122,47,118,50]⟩,⟨#[99]⟩,⟨#[97,46,111,114,103,47,119]⟩]
def okV (a b c:Int) (s:ByteArray):Prop:=(0 ≤ a ∧ a ≤ 1000) ∧ (0 ≤ b ∧ b < 4) ∧ (0 ≤ c ∧ c < 3) ∧ s ∈ presD
def okD (n:NeedT):Prop:=n.f0 ∈ pathsD ∧ okV n.f1.f0 n.f1.f1 n.f1.f2 n.f1.f3
theorem pre_short {s:ByteArray} (h:s ∈ presD):s.size ≤ 6:=by
 unfold presD at h
 simp only [List.mem_cons,List.not_mem_nil,or_false] at h
 rcases h with rfl | rfl | rfl | rfl | rfl | rfl | rfl | rfl | rfl | rfl <;> decide
theorem path_short {s:ByteArray} (h:s ∈ pathsD):s.size ≤ 9:=by
 unfold pathsD at h
 simp only [List.mem_cons,List.not_mem_nil,or_false] at h
 rcases h with rfl | rfl | rfl | rfl | rfl | rfl <;> decide
theorem l4Path_p (b:List Int) (i h:Int) (c:Cur b i):EvP (fun _=>spec_l4Path.f b i h) (fun r=>r.1 ∈ pathsD ∧ Cur b r.2.1):=by
 unfold spec_l4Path.f
 exact EvP.bind (l1Str_p b i h _ (by decide) c) (fun a ha=>EvP.now ha)
theorem l3Draw_p (b:List Int) (i h:Int) (c:Cur b i):EvP (fun _=>spec_l3Draw.f b i h) (fun r=>okV r.1 r.2.1 r.2.2.1 r.2.2.2.1 ∧ Cur b r.2.2.2.2.1):=by
 unfold spec_l3Draw.f
 refine EvP.bind (l1Int_p b i h _ (by decide) c) (fun x hx=>EvP.bind (l1Below_p b _ _ 4 hx.2) (fun y hy=>EvP.bind (l1Below_p b _ _ 3 hy.2) (fun z hz=>EvP.bind (l1Str_p b _ _ _ (by decide) hz.2) (fun p hp=>EvP.now ⟨⟨?_,⟨hy.1.1,hy.1.2.2 (by decide)⟩,⟨hz.1.1,hz.1.2.2 (by decide)⟩,hp.1⟩,hp.2⟩))))
 have h:=hx.1
 simp only [List.mem_cons,List.not_mem_nil,or_false] at h
 omega
theorem l5Need_p (b:List Int) (i h:Int) (c:Cur b i):EvP (fun k=>spec_l5Need.f k b i h) (fun r=>(r.1 ∈ pathsD ∧ okV r.2.1 r.2.2.1 r.2.2.2.1 r.2.2.2.2.1) ∧ Cur b r.2.2.2.2.2.1):=by
 unfold spec_l5Need.f
 refine EvP.bind (l4Path_p b i h c) (fun p hp=>EvP.bind (l3Draw_p b _ _ hp.2) (fun v hv=>EvP.bind (MajorOf_p p.1 (by have:=path_short hp.1;omega)) (fun m hm=>EvP.ite (fun _=>EvP.bind (l1Once_p b _ _ 4 hv.2) (fun o ho=>EvP.ite (fun _=>EvP.now ?_) (fun _=>EvP.now ?_))) (fun _=>EvP.now ?_))))
 ·exact ⟨⟨hp.1,⟨Int.le_refl _,show (0:Int) ≤ 1000 by decide⟩,hv.1.2⟩,ho⟩
 ·exact ⟨⟨hp.1,hm,hv.1.2⟩,ho⟩
 ·exact ⟨⟨hp.1,hm,hv.1.2⟩,hv.2⟩
def PutIn (l:List NeedT) (n:NeedT) (r:List NeedT):Prop:=∃ a b,r=a ++ n :: b ∧ a ++ b=l.filter fun x=>decide (x.f0.toList ≠ n.f0.toList)
theorem PutIn.length {l r:List NeedT} {n:NeedT} (h:PutIn l n r):r.length ≤ l.length + 1:=by
 obtain ⟨a,b,rfl,e⟩:=h
 have:=congrArg List.length e
 have h2:=List.length_filter_le (fun x:NeedT=>decide (x.f0.toList ≠ n.f0.toList)) l
 simp only [List.length_append,List.length_cons] at this ⊢
 omega
theorem PutIn.mem {l r:List NeedT} {n x:NeedT} (h:PutIn l n r) (hx:x ∈ r):x=n ∨ x ∈ l:=by
 obtain ⟨a,b,rfl,e⟩:=h
 rw [List.mem_append,List.mem_cons] at hx
 rcases hx with hx | rfl | hx
 ·exact .inr ((List.mem_filter.1 (e ▸ List.mem_append_left _ hx)).1)
 ·exact .inl rfl
 ·exact .inr ((List.mem_filter.1 (e ▸ List.mem_append_right _ hx)).1)
def apartN (l:List NeedT):Prop:=l.Pairwise fun x y=>x.f0.toList ≠ y.f0.toList
theorem PutIn.apart {l r:List NeedT} {n:NeedT} (h:PutIn l n r) (hl:apartN l):apartN r:=by
 obtain ⟨a,b,rfl,e⟩:=h
 have h1:(a ++ b).Pairwise fun x y:NeedT=>x.f0.toList ≠ y.f0.toList:=by rw [e];exact List.Pairwise.filter _ hl
 have h2 : ∀ x ∈ a ++ b,x.f0.toList ≠ n.f0.toList:=fun x hx=>by rw [e] at hx;exact of_decide_eq_true (List.mem_filter.1 hx).2
 rw [List.pairwise_append] at h1
 unfold apartN
 rw [List.pairwise_append,List.pairwise_cons]
 refine ⟨h1.1,⟨fun x hx=>(h2 x (List.mem_append_right _ hx)).symm,h1.2.1⟩,fun x hx y hy=>?_⟩
 rcases List.mem_cons.1 hy with rfl | hy
 ·exact h2 x (List.mem_append_left _ hx)
 ·exact h1.2.2 x hx y hy
theorem l5Put_p (l:List NeedT) (n:NeedT) (hl:l.length ≤ 1000000):EvP (fun k=>spec_l5Put.f k l n.f0 n.f1.f0 n.f1.f1 n.f1.f2 n.f1.f3) (PutIn l n):=by
 have key : ∀ (d i:Nat) (out:List NeedT) (put:Bool),i + d=l.length →
  (put=false → out=(l.take i).filter fun x=>decide (x.f0.toList ≠ n.f0.toList)) → (put=true → PutIn (l.take i) n out) →
  EvP (fun k=>spec_l5Put.l0 k l out put (i:Int) n.f0 n.f1.f0 n.f1.f1 n.f1.f2 n.f1.f3) (PutIn l n):=by
  have hout : ∀ (i:Nat) (out:List NeedT) (put:Bool),i ≤ l.length → (put=false → out=(l.take i).filter fun x=>decide (x.f0.toList ≠ n.f0.toList)) → (put=true → PutIn (l.take i) n out) → out.length ≤ i + 1:=by
   intro i out put hi h1 h2
   cases put with
   | false=>
    rw [h1 rfl]
    have:=List.length_filter_le (fun x:NeedT=>decide (x.f0.toList ≠ n.f0.toList)) (l.take i)
    rw [List.length_take] at this
    omega
   | true=>
    have:=(h2 rfl).length
    rw [List.length_take] at this
    omega
  intro d
  induction d with
  | zero=>
   intro i out put hi h1 h2
   have hlen:=hout i out put (by omega) h1 h2
   have e:l.take i=l:=List.take_of_length_le (by omega)
   rw [e] at h1 h2
   refine EvP.step (f:=fun _=>if put=true then some out else if out.length < 2513169434916 then some (out ++ [n]) else none) (fun k=>?_) ?_
   ·simp only [spec_l5Put.l0]
    rw [if_neg (by omega)]
   ·refine EvP.ite (fun h=>EvP.now (h2 h)) (fun h=>EvP.pos (by omega) (EvP.now ⟨out,[],rfl,?_⟩))
    rw [List.append_nil]
    exact h1 (by simpa using h)
  | succ d ih=>
   intro i out put hi h1 h2
   have hlen:=hout i out put (by omega) h1 h2
   have hlx:i < l.length:=by omega
   have hw:=wrapS hlx (by omega)
   have ht:l.take (i + 1)=l.take i ++ [l.getD i z36]:=by rw [List.take_succ_eq_append_getElem hlx,getD_lt hlx]
   have hrd:=rdT l i
   generalize l.getD i z36=x at ht hrd
   have hyes:x.f0.toList=n.f0.toList → (l.take (i + 1)).filter (fun x=>decide (x.f0.toList ≠ n.f0.toList))=(l.take i).filter fun x=>decide (x.f0.toList ≠ n.f0.toList):=by
    intro e
    rw [ht,List.filter_append]
    simp [e]
   have hno : ¬ x.f0.toList=n.f0.toList → (l.take (i + 1)).filter (fun x=>decide (x.f0.toList ≠ n.f0.toList))=(l.take i).filter (fun x=>decide (x.f0.toList ≠ n.f0.toList)) ++ [x]:=by
    intro e
    rw [ht,List.filter_append]
    simp [e]
   have hj : ∀ c:Bool,(c=true → put=false) → EvP (fun k=>spec_l5Put.j1 k l out put (i:Int) c n.f0 n.f1.f0 n.f1.f1 n.f1.f2 n.f1.f3) (PutIn l n):=by
    intro c hc
    cases c with
    | true=>
     have hp:=hc rfl
     have ho:=h1 hp
     have hpi:PutIn (l.take i) n (out ++ [n]):=⟨out,[],by simp,by rw [List.append_nil];exact ho⟩
     refine EvP.step (f:=fun k=>if x.f0.toList=n.f0.toList then spec_l5Put.l0 k l (out ++ [n]) true ((i + 1:Nat):Int) n.f0 n.f1.f0 n.f1.f1 n.f1.f2 n.f1.f3 else spec_l5Put.l0 k l ((out ++ [n]) ++ [x]) true ((i + 1:Nat):Int) n.f0 n.f1.f0 n.f1.f1 n.f1.f2 n.f1.f3) (fun k=>?_) ?_
     ·simp only [spec_l5Put.j1,Option.bind_some]
      rw [if_pos trivial,if_pos (by omega),if_pos (by omega),if_pos (by omega),hrd,hw]
      by_cases e:x.f0.toList=n.f0.toList
      ·rw [if_pos e,if_pos e]
      ·rw [if_neg e,if_neg e,if_pos (by simp;omega)]
     ·refine EvP.ite (fun e=>ih (i + 1) _ true (by omega) (fun h=>by cases h) (fun _=>?_)) (fun e=>ih (i + 1) _ true (by omega) (fun h=>by cases h) (fun _=>?_))
      ·obtain ⟨a,b,e1,e2⟩:=hpi
       exact ⟨a,b,e1,by rw [hyes e];exact e2⟩
      ·obtain ⟨a,b,e1,e2⟩:=hpi
       exact ⟨a,b ++ [x],by rw [e1];simp,by rw [hno e,← e2,List.append_assoc]⟩
    | false=>
     refine EvP.step (f:=fun k=>if x.f0.toList=n.f0.toList then spec_l5Put.l0 k l out put ((i + 1:Nat):Int) n.f0 n.f1.f0 n.f1.f1 n.f1.f2 n.f1.f3 else spec_l5Put.l0 k l (out ++ [x]) put ((i + 1:Nat):Int) n.f0 n.f1.f0 n.f1.f1 n.f1.f2 n.f1.f3) (fun k=>?_) ?_
     ·simp only [spec_l5Put.j1]
      rw [if_neg (by decide),if_pos (by omega),if_pos (by omega),hrd,hw]
      by_cases e:x.f0.toList=n.f0.toList
      ·rw [if_pos e,if_pos e]
      ·rw [if_neg e,if_neg e,if_pos (by omega)]
     ·refine EvP.ite (fun e=>ih (i + 1) _ put (by omega) (fun h=>by rw [hyes e];exact h1 h) (fun h=>?_)) (fun e=>ih (i + 1) _ put (by omega) (fun h=>by rw [hno e,← h1 h]) (fun h=>?_))
      ·obtain ⟨a,b,e1,e2⟩:=h2 h
       exact ⟨a,b,e1,by rw [hyes e];exact e2⟩
      ·obtain ⟨a,b,e1,e2⟩:=h2 h
       exact ⟨a,b ++ [x],by rw [e1];simp,by rw [hno e,← e2,List.append_assoc]⟩
   cases put with
   | true=>
    refine EvP.step (f:=fun k=>spec_l5Put.j1 k l out true (i:Int) false n.f0 n.f1.f0 n.f1.f1 n.f1.f2 n.f1.f3) (fun k=>?_) (hj false (fun e=>by cases e))
    simp only [spec_l5Put.l0]
    rw [if_pos (by omega),if_pos trivial]
   | false=>
    refine EvP.step (f:=fun k=>spec_l5Put.j1 k l out false (i:Int) (!(Op.bytesLess (x.f0.toList) n.f0.toList)) n.f0 n.f1.f0 n.f1.f1 n.f1.f2 n.f1.f3) (fun k=>?_) (hj _ (fun _=>rfl))
    simp only [spec_l5Put.l0]
    rw [if_pos (by omega),if_neg (by decide),if_pos (by omega),hrd]
 exact key l.length 0 [] false (Nat.zero_add _) (fun _=>by simp) (fun h=>by cases h)
def goodN (l:List NeedT):Prop:=(∀ x ∈ l,okD x) ∧ apartN l
theorem goodN.put {l r:List NeedT} {n:NeedT} (h:goodN l) (hn:okD n) (hp:PutIn l n r):goodN r:=
 ⟨fun x hx=>by rcases hp.mem hx with rfl | hx;exact hn;exact h.1 x hx,hp.apart h.2⟩
theorem goodN.short {l:List NeedT} (h:goodN l) (hl:l.length ≤ 1000000):shortN l:=⟨fun x hx=>by have:=pre_short (h.1 x hx).2.2.2.2;omega,by omega⟩
theorem goodN.nil:goodN []:=⟨(fun x hx=>by cases hx),List.Pairwise.nil⟩
end Go.Proofs.YtmkdeknpphimbaaDoor.PFnClosed
