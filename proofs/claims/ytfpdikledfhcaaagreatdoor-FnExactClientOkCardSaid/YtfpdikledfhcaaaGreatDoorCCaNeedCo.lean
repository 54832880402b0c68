import Derived.Test.YtfpdikledfhcaaaGreatDoorCCaOkCo
namespace Go.Proofs.YtfpdikledfhcaaaGreatDoor.PFnExactClientOk
open Go Go.RowKit Go.Proofs.YtfpdikledfhcaaaGreatDoorW.PrintWords Go.Proofs.YtfpdikledfhcaaaGreatDoorW.PrintLast Go.Proofs.YtfpdikledfhcaaaGreatDoorW.PrintMore Go.Proofs.YtfpdikledfhcaaaGreatDoor.Ev Go.Proofs.YtfpdikledfhcaaaGreatDoor.Str Go.Proofs.YtfpdikledfhcaaaGreatDoor.Num
set_option linter.unusedVariables false
set_option linter.unusedSimpArgs false
theorem decFrom_val : ∀ (l:List UInt8) (acc:Nat),l.all isD=true → Go.Lib.decFrom acc l=some (acc * 10 ^ l.length + val l)
 | [],acc,_=>by simp [Go.Lib.decFrom,val]
 | b :: l,acc,h=>by
  rw [List.all_cons,Bool.and_eq_true] at h
  have hb:=isD_iff.1 h.1
  have e:Go.Lib.digitVal b=some (b.toNat - 48):=by unfold Go.Lib.digitVal;rw [if_pos hb]
  simp only [Go.Lib.decFrom,e]
  rw [decFrom_val l _ h.2]
  congr 1
  simp only [val,List.length_cons,Nat.pow_succ]
  rw [Nat.add_mul,Nat.mul_assoc,Nat.mul_comm 10,Nat.add_assoc]
theorem atoi_val {l:List UInt8} (h:numB l=true):Go.Lib.atoi l=some ((val l:Nat):Int):=by
 have h1:=(numB_iff.1 h).1
 cases l with
 | nil=>exact absurd rfl (numB_iff.1 h).2.1
 | cons b r=>
  have hd:=decFrom_val (b :: r) 0 h1
  rw [List.all_cons,Bool.and_eq_true] at h1
  have hb:=isD_iff.1 h1.1
  have n45:(b == 45)=false:=beq_eq_false_iff_ne.2 (fun e=>by rw [e] at hb;exact absurd hb (by decide))
  have n43:(b == 43)=false:=beq_eq_false_iff_ne.2 (fun e=>by rw [e] at hb;exact absurd hb (by decide))
  simp only [Go.Lib.atoi,n45,n43]
  rw [if_neg (by decide),if_neg (by decide)]
  unfold Go.Lib.decNat
  rw [if_neg (by simp),hd]
  simp
def numV (l:List UInt8) (m:Nat):Int × Bool:=if numB l=true ∧ l.length ≤ m then ((val l:Int),true) else (0,false)
theorem numberOf_ev (s:ByteArray) (m:Nat) (hm:m ≤ 18) (hs:s.size ≤ 2147483648):Ev (fun k=>impl_numberOf.f k s (m:Int)) (numV (dl s) m):=by
 have hsz:=size_dl s
 refine Ev.bind (isNumber_ev s hs) ?_
 unfold numV
 by_cases hn:numB (dl s)=true
 ·rw [hn]
  refine Ev.pos rfl ?_
  by_cases hl:(dl s).length ≤ m
  ·rw [if_pos (show true=true ∧ (dl s).length ≤ m from ⟨rfl,hl⟩)]
   refine Ev.neg (by omega) (Ev.bind_const (a:=((val (dl s):Int),none)) ?_ (Ev.pos rfl (Ev.now _)))
   unfold strconv_Atoi.f
   rw [if_pos (by omega),show s.data.toList=dl s from rfl,atoi_val hn]
   rfl
  ·rw [if_neg (show ¬ (true=true ∧ (dl s).length ≤ m) from fun h=>hl h.2)]
   exact Ev.pos (by omega) (Ev.now _)
 ·have hn':numB (dl s)=false:=by simpa using hn
  rw [hn',if_neg (show ¬ (false=true ∧ (dl s).length ≤ m) from fun h=>by cases h.1)]
  exact Ev.neg (by decide) (Ev.now _)
def lastI (l:List UInt8) (c:UInt8):Nat → Int
 | 0=>-1
 | n + 1=>if l.getD n 0=c then (n:Int) else lastI l c n
theorem lastI_spec (l:List UInt8) (c:UInt8) : ∀ n:Nat,(lastI l c n = -1 ∧ ∀ i,i < n → l.getD i 0 ≠ c) ∨ ∃ j:Nat,j < n ∧ lastI l c n=j ∧ l.getD j 0=c ∧ ∀ i,j < i → i < n → l.getD i 0 ≠ c
 | 0=>.inl ⟨rfl,fun i h=>by omega⟩
 | n + 1=>by
  unfold lastI
  by_cases h:l.getD n 0=c
  ·rw [if_pos h]
   exact .inr ⟨n,by omega,rfl,h,fun i h1 h2=>by omega⟩
  ·rw [if_neg h]
   rcases lastI_spec l c n with ⟨e,k⟩ | ⟨j,h1,e,h2,k⟩
   ·refine .inl ⟨e,fun i hi=>?_⟩
    rcases Nat.lt_succ_iff_lt_or_eq.1 hi with hi | rfl
    ·exact k i hi
    ·exact h
   ·refine .inr ⟨j,by omega,e,h2,fun i hi h3=>?_⟩
    rcases Nat.lt_succ_iff_lt_or_eq.1 h3 with h3 | rfl
    ·exact k i hi h3
    ·exact h
theorem last_ev (s:ByteArray) (c:UInt8) (cI:Int) (hc:(c.toNat:Int)=cI) (hs:s.size ≤ 2147483648):Ev (fun k=>strings_LastIndexByte.f k s cI) (lastI (dl s) c s.size):=by
 have key : ∀ n:Nat,n ≤ s.size → Ev (fun k=>bytealg_LastIndexByteString.l0 k s cI ((n:Int) - 1)) (lastI (dl s) c n):=by
  intro n
  induction n with
  | zero=>
   intro _
   refine Ev.step (f:=fun _=>some (-1)) (fun k=>?_) (Ev.now _)
   simp only [bytealg_LastIndexByteString.l0]
   rw [if_neg (by omega)]
  | succ n ih=>
   intro hn
   have hw:wrap64 (((n + 1:Nat):Int) - 1 - 1)=(n:Int) - 1:=by rw [wrapI (by omega) (by omega)];omega
   have e:(((n + 1:Nat):Int) - 1)=(n:Int):=by omega
   have hb:=bt_dl s n (by omega)
   refine Ev.step (f:=fun k=>if (((dl s).getD n 0).toNat:Int)=cI then some (n:Int) else bytealg_LastIndexByteString.l0 k s cI ((n:Int) - 1)) (fun k=>?_) ?_
   ·simp only [bytealg_LastIndexByteString.l0]
    rw [if_pos (by omega),if_pos (by omega),if_pos (by omega),hw,e,hb]
   ·unfold lastI
    by_cases h:(dl s).getD n 0=c
    ·rw [if_pos h]
     exact Ev.pos (by rw [h];exact hc) (Ev.now _)
    ·rw [if_neg h]
     exact Ev.neg (fun e2=>h (UInt8.toNat_inj.1 (by omega))) (ih (by omega))
 refine Ev.bind ?_ (Ev.now _)
 have hw:wrap64 ((s.size:Int) - 1)=(s.size:Int) - 1:=wrapI (by omega) (by omega)
 show Ev (fun k=>bytealg_LastIndexByteString.l0 k s cI (wrap64 ((s.size:Int) - 1))) _
 rw [hw]
 exact key s.size (Nat.le_refl _)
theorem consHead_append {b:UInt8} {x y:List (List UInt8)} (h:x ≠ []):consHead b (x ++ y)=consHead b x ++ y:=by
 cases x with
 | nil=>exact absurd rfl h
 | cons a x=>rfl
theorem splitL_append (c:UInt8) (q:List UInt8) : ∀ p:List UInt8,splitL c (p ++ c :: q)=splitL c p ++ splitL c q
 | []=>by simp [splitL]
 | b :: p=>by
  have ih:=splitL_append c q p
  simp only [List.cons_append,splitL]
  by_cases h:b=c
  ·rw [if_pos h,if_pos h,ih]
   rfl
  ·rw [if_neg h,if_neg h,ih,consHead_append (splitL_ne c p)]
def tailV (q:List UInt8):Int:=if q.getD 0 0=118 ∧ small (q.drop 1)=true ∧ 2 ≤ val (q.drop 1) ∧ val (q.drop 1) ≤ 1000 then (val (q.drop 1):Int) else 1
def majN (l:List UInt8):Int:=if (splitL 47 l).length < 2 then 1 else tailV ((splitL 47 l).getD ((splitL 47 l).length - 1) [])
def majV (l:List UInt8):Int:=if pathB l=true then majN l else 0
theorem pathB_last {l:List UInt8} (h:pathB l=true):1 ≤ ((splitL 47 l).getD ((splitL 47 l).length - 1) []).length:=by
 unfold pathB at h
 rw [Bool.and_eq_true,allI_iff] at h
 have h0:0 < (splitL 47 l).length:=List.length_pos_iff.2 (splitL_ne 47 l)
 have h1:=h.1 ((splitL 47 l).length - 1) (by omega)
 unfold ppB at h1
 rw [Bool.and_eq_true,decide_eq_true_eq] at h1
 exact h1.2.1
theorem getD_of_not_mem {c:UInt8} {l:List UInt8} (h : ∀ i,i < l.length → l.getD i 0 ≠ c):c ∉ l:=by
 intro hm
 obtain ⟨i,hi,e⟩:=List.getElem_of_mem hm
 exact h i hi (by rw [getD_lt hi];exact e)
theorem num_big {t:List UInt8} (h:numB t=true) (h4 : ¬ t.length ≤ 4):1000 < val t:=by
 have hn:=numB_iff.1 h
 cases t with
 | nil=>exact absurd rfl hn.2.1
 | cons d r=>
  rw [List.length_cons] at h4
  have hd:d ≠ 48:=by
   rcases hn.2.2 with h5 | h5
   ·rw [List.length_cons] at h5;omega
   ·exact fun e=>h5 (by rw [e];rfl)
  have h1:=hn.1
  rw [List.all_cons,Bool.and_eq_true] at h1
  have:=val_ge (l:=r) h1.1 hd
  have h3:10 ^ 4 ≤ 10 ^ r.length:=Nat.pow_le_pow_right (by decide) (by omega)
  omega
theorem small_four {t:List UInt8} (h:numB t=true) (h4:t.length ≤ 4):small t=true:=by
 unfold small
 rw [h,decide_eq_true (by omega)]
 rfl
theorem tail_num (q:List UInt8) (hq:q.getD 0 0=118):tailV q=if (numV (q.drop 1) 4).2=true ∧ 2 ≤ (numV (q.drop 1) 4).1 ∧ (numV (q.drop 1) 4).1 ≤ 1000 then (numV (q.drop 1) 4).1 else 1:=by
 unfold tailV numV
 generalize q.drop 1=t
 by_cases hn:numB t=true
 ·by_cases h4:t.length ≤ 4
  ·have hs:=small_four hn h4
   rw [if_pos (show numB t=true ∧ t.length ≤ 4 from ⟨hn,h4⟩)]
   dsimp only
   by_cases hv:2 ≤ val t ∧ val t ≤ 1000
   ·rw [if_pos ⟨hq,hs,hv⟩,if_pos ⟨rfl,by omega,by omega⟩]
   ·rw [if_neg (fun h=>hv h.2.2),if_neg (fun h=>hv (by omega))]
  ·have:=num_big hn h4
   rw [if_neg (show ¬ (numB t=true ∧ t.length ≤ 4) from fun h=>h4 h.2)]
   rw [if_neg (fun h=>by have:=h.2.2.2;omega),if_neg (fun h=>by cases h.1)]
 ·rw [if_neg (show ¬ (numB t=true ∧ t.length ≤ 4) from fun h=>hn h.1)]
  rw [if_neg (fun h=>hn (by have h2:=h.2.1;unfold small at h2;rw [Bool.and_eq_true] at h2;exact h2.1)),if_neg (fun h=>by cases h.1)]
theorem split_last {l:List UInt8} {c:UInt8} {j:Nat} (hlt:j < l.length) (hc:l.getD j 0=c) (hno : ∀ i,j < i → i < l.length → l.getD i 0 ≠ c):2 ≤ (splitL c l).length ∧ (splitL c l).getD ((splitL c l).length - 1) []=l.drop (j + 1):=by
 have hget:l[j]? = some c:=by rw [List.getElem?_eq_getElem hlt];rw [getD_lt hlt] at hc;rw [hc]
 have hcut:=cut_at hget
 have hq:c ∉ l.drop (j + 1):=by
  refine getD_of_not_mem (fun i hi=>?_)
  rw [List.length_drop] at hi
  have:=hno (j + 1 + i) (by omega) (by omega)
  rw [getD_lt (by omega)] at this
  rw [getD_lt (by rw [List.length_drop];omega),List.getElem_drop]
  exact this
 have h3:=splitL_append c (l.drop (j + 1)) (l.take j)
 rw [← hcut,splitL_none hq] at h3
 have hl2:0 < (splitL c (l.take j)).length:=List.length_pos_iff.2 (splitL_ne _ _)
 have hlen:(splitL c l).length=(splitL c (l.take j)).length + 1:=by rw [h3,List.length_append];rfl
 refine ⟨by omega,?_⟩
 rw [hlen,h3]
 simp [List.getD]
theorem cut_one (s:ByteArray) (t:Int):Ev (fun k=>impl_cutMajor.j0 k s t true) (s,1):=
 Ev.step (f:=fun _=>some (s,1)) (fun k=>by simp only [impl_cutMajor.j0];rw [if_pos trivial]) (Ev.now _)
theorem cut_tail (s:ByteArray) (hs:s.size ≤ 2147483648) (j:Nat) (hj:j + 2 ≤ s.size) (h118:((dl s).drop (j + 1)).getD 0 0=118) : ∃ p,Ev (fun k=>impl_cutMajor.j0 k s (j:Int) false) (p,tailV ((dl s).drop (j + 1))):=by
 have hsz:=size_dl s
 have hw2:wrap64 ((j:Int) + 2)=((j + 2:Nat):Int):=by rw [wrapI (by omega) (by omega)];omega
 have hx:s.extract (j + 2) s.size=bv (((dl s).drop (j + 1)).drop 1):=by
  rw [extract_dl,List.take_of_length_le (by omega),List.drop_drop]
 have hnum:=numberOf_ev (s.extract (j + 2) s.size) 4 (by decide) (by rw [ByteArray.size_extract];omega)
 rw [hx,dl_bv] at hnum
 rw [tail_num _ h118]
 generalize numV (((dl s).drop (j + 1)).drop 1) 4=v at hnum
 have hj0 : ∀ {r:ByteArray × Int},Ev (fun k=>(impl_numberOf.f k (bv (((dl s).drop (j + 1)).drop 1)) ((4:Nat):Int)).bind fun b=>if b.2=true then ((impl_inRange.f b.1 2 1000).bind fun t=>if t=true then (if 0 ≤ (j:Int) then (if (j:Int) ≤ (s.size:Int) then some (s.extract 0 j,b.1) else none) else none) else some (s,1)) else some (s,1)) r → Ev (fun k=>impl_cutMajor.j0 k s (j:Int) false) r:=by
  intro r h
  refine Ev.step (fun k=>?_) h
  simp only [impl_cutMajor.j0]
  rw [if_neg (by decide),hw2,if_pos (by omega),if_pos (by omega),Int.toNat_natCast,Int.toNat_natCast,hx]
  rfl
 by_cases hgood:v.2=true ∧ 2 ≤ v.1 ∧ v.1 ≤ 1000
 ·rw [if_pos hgood]
  exact ⟨s.extract 0 j,hj0 (Ev.bind hnum (Ev.pos hgood.1 (Ev.bind_const (inrange _ _ _) (Ev.pos (decide_eq_true hgood.2) (Ev.pos (by omega) (Ev.pos (by omega) (Ev.now _)))))))⟩
 ·rw [if_neg hgood]
  refine ⟨s,hj0 (Ev.bind hnum ?_)⟩
  by_cases hv2:v.2=true
  ·exact Ev.pos hv2 (Ev.bind_const (inrange _ _ _) (Ev.neg (by rw [decide_eq_true_eq];exact fun h=>hgood ⟨hv2,h⟩) (Ev.now _)))
  ·exact Ev.neg hv2 (Ev.now _)
theorem ne118 (b:UInt8):(((b.toNat:Nat):Int) != 118)=decide (b ≠ 118):=by
 by_cases h:b=118
 ·subst h
  rfl
 ·rw [decide_eq_true h]
  exact bne_iff_ne.2 (fun e=>h (UInt8.toNat_inj.1 (by have:(118:UInt8).toNat=118:=rfl;omega)))
theorem cut_ev (s:ByteArray) (hs:s.size ≤ 2147483648) (hp:pathB (dl s)=true) : ∃ p,Ev (fun k=>impl_cutMajor.f k s) (p,majN (dl s)):=by
 have hsz:=size_dl s
 have hlast:=pathB_last hp
 have hl:=last_ev s 47 47 rfl hs
 rcases lastI_spec (dl s) 47 s.size with ⟨e,hno⟩ | ⟨j,hj,e,hc,hno⟩
 ·have hsp:splitL 47 (dl s)=[dl s]:=splitL_none (getD_of_not_mem (fun i hi=>hno i (by omega)))
  have hm:majN (dl s)=1:=by unfold majN;rw [hsp,if_pos (by simp)]
  rw [e] at hl
  rw [hm]
  exact ⟨s,Ev.bind hl (Ev.pos (by omega) (cut_one s _))⟩
 ·obtain ⟨h2,h3⟩:=split_last (c:=47) (show j < (dl s).length by omega) hc (fun i h1 h2=>hno i h1 (by omega))
  have hm:majN (dl s)=tailV ((dl s).drop (j + 1)):=by unfold majN;rw [if_neg (by omega),h3]
  rw [h3,List.length_drop] at hlast
  rw [e] at hl
  rw [hm]
  have hw1:wrap64 ((j:Int) + 1)=((j + 1:Nat):Int):=by rw [wrapI (by omega) (by omega)];omega
  have hq0:((dl s).drop (j + 1)).getD 0 0=(dl s).getD (j + 1) 0:=by
   rw [getD_lt (by rw [List.length_drop];omega),getD_lt (by omega),List.getElem_drop]
  have hb:=bt_dl s (j + 1) (by omega)
  have key : ∀ {r:ByteArray × Int},Ev (fun k=>impl_cutMajor.j0 k s (j:Int) (decide (((dl s).drop (j + 1)).getD 0 0 ≠ 118))) r → Ev (fun k=>impl_cutMajor.f k s) r:=by
   intro r h
   refine Ev.bind hl ?_
   rw [hw1,hb,ne118,← hq0]
   exact Ev.neg (by omega) (Ev.pos (by omega) (Ev.pos (by omega) h))
  by_cases h118:((dl s).drop (j + 1)).getD 0 0=118
  ·obtain ⟨p,hq⟩:=cut_tail s hs j (by omega) h118
   refine ⟨p,key ?_⟩
   rw [decide_eq_false (fun h=>h h118)]
   exact hq
  ·have ht:tailV ((dl s).drop (j + 1))=1:=by
    unfold tailV
    rw [if_neg (fun h=>h118 h.1)]
   refine ⟨s,key ?_⟩
   rw [decide_eq_true h118,ht]
   exact cut_one s _
theorem MajorI (s:ByteArray) (hs:s.size ≤ 2147483648):Ev (fun k=>impl_MajorOf.f k s) (majV (dl s)):=by
 refine Ev.bind (PathI s hs) ?_
 unfold majV
 by_cases h:pathB (dl s)=true
 ·obtain ⟨p,hp⟩:=cut_ev s hs h
  rw [if_pos h]
  exact Ev.pos h (Ev.bind hp (Ev.now _))
 ·rw [if_neg h]
  exact Ev.neg h (Ev.now _)
theorem l4Major_ev (s:ByteArray) (hs:s.size ≤ 2147483648) (hp:pathB (dl s)=true):Ev (fun k=>spec_l4Major.f k s) (if majN (dl s)=1 then 0 else majN (dl s)):=by
 have hlast:=pathB_last hp
 have hps:=partsL 47 s hs
 refine Ev.bind (split_spec s 47 47 rfl hs) ?_
 have hne:splitL 47 (dl s) ≠ []:=splitL_ne _ _
 unfold majN
 generalize splitL 47 (dl s)=xs at hlast hps hne
 have h0:0 < xs.length:=List.length_pos_iff.2 hne
 have h2:=hps.2
 have hw:wrap64 (((xs.map bv).length:Int) - 1)=((xs.length - 1:Nat):Int):=by rw [List.length_map,wrapI (by omega) (by omega)];omega
 have hm:=hps.1 _ (getD_mem (z:=[]) (show xs.length - 1 < xs.length by omega))
 rw [hw,rd_bv xs (xs.length - 1) (by omega),List.length_map]
 generalize xs.getD (xs.length - 1) []=q at hlast hm
 have hz:=size_bv q
 have hzero:Ev (fun k=>spec_l4Major.j0 k (bv q) true) 0:=Ev.step (f:=fun _=>some 0) (fun k=>by simp only [spec_l4Major.j0];rw [if_pos trivial]) (Ev.now _)
 refine Ev.pos (by omega) (Ev.pos (by omega) ?_)
 by_cases hl:xs.length < 2
 ·rw [if_pos hl,if_pos rfl]
  exact Ev.pos (by omega) hzero
 ·rw [if_neg hl]
  refine Ev.neg (by omega) (Ev.neg (fun e=>?_) (Ev.pos (by omega) ?_))
  ·rw [toList_dl,dl_bv] at e
   rw [e] at hlast
   exact absurd hlast (by decide)
  ·have hb:bt (bv q) 0=((q.getD 0 0).toNat:Int):=by
    have:=bt_dl (bv q) 0 (by omega)
    rw [dl_bv] at this
    exact this
   rw [hb]
   by_cases h118:q.getD 0 0=118
   ·have e:((((q.getD 0 0).toNat:Nat):Int) != 118)=false:=by rw [h118];rfl
    rw [e]
    have hx:(bv q).extract 1 (bv q).size=bv (q.drop 1):=by
     rw [extract_dl,dl_bv,List.take_of_length_le (by omega)]
    have hnum:=l3Number_ev (bv (q.drop 1)) (by rw [size_bv,List.length_drop];omega)
    rw [dl_bv] at hnum
    have hj : ∀ {r:Int},Ev (fun k=>(spec_l3Number.f k (bv (q.drop 1))).bind fun t=>(spec_l1In.f t 2 1000).bind fun u=>if u=true then some t else some 0) r → Ev (fun k=>spec_l4Major.j0 k (bv q) false) r:=by
     intro r h
     refine Ev.step (fun k=>?_) h
     simp only [spec_l4Major.j0]
     rw [if_neg (by decide),if_pos (by omega),hx]
    refine hj (Ev.bind hnum (Ev.bind_const (in_all _ _ _) ?_))
    unfold tailV
    by_cases hs2:small (q.drop 1)=true
    ·rw [if_pos hs2]
     by_cases hv:2 ≤ val (q.drop 1) ∧ val (q.drop 1) ≤ 1000
     ·rw [if_pos (show (q.getD 0 0=118 ∧ small (q.drop 1)=true ∧ 2 ≤ val (q.drop 1) ∧ val (q.drop 1) ≤ 1000) from ⟨h118,hs2,hv⟩),if_neg (show ¬ ((val (q.drop 1):Int)=1) by omega)]
      exact Ev.pos (decide_eq_true (by omega)) (Ev.now _)
     ·rw [if_neg (show ¬ (q.getD 0 0=118 ∧ small (q.drop 1)=true ∧ 2 ≤ val (q.drop 1) ∧ val (q.drop 1) ≤ 1000) from fun h=>hv h.2.2),if_pos rfl]
      exact Ev.neg (by rw [decide_eq_true_eq];omega) (Ev.now _)
    ·rw [if_neg hs2,if_neg (show ¬ (q.getD 0 0=118 ∧ small (q.drop 1)=true ∧ 2 ≤ val (q.drop 1) ∧ val (q.drop 1) ≤ 1000) from fun h=>hs2 h.2.1),if_pos rfl]
     exact Ev.neg (by decide) (Ev.now _)
   ·have e:((((q.getD 0 0).toNat:Nat):Int) != 118)=true:=bne_iff_ne.2 (fun e2=>h118 (UInt8.toNat_inj.1 (by have:(118:UInt8).toNat=118:=rfl;omega)))
    rw [e]
    unfold tailV
    rw [if_neg (show ¬ (q.getD 0 0=118 ∧ small (q.drop 1)=true ∧ 2 ≤ val (q.drop 1) ∧ val (q.drop 1) ≤ 1000) from fun h=>h118 h.1),if_pos rfl]
    exact hzero
theorem tailV_pos (q:List UInt8):1 ≤ tailV q:=by
 unfold tailV
 split <;> omega
theorem majN_pos (l:List UInt8):1 ≤ majN l:=by
 unfold majN
 split
 ·omega
 ·exact tailV_pos _
theorem MajorS (s:ByteArray) (hs:s.size ≤ 2147483648):Ev (fun k=>spec_MajorOf.f k s) (majV (dl s)):=by
 refine Ev.bind (PathS s hs) ?_
 unfold majV
 have hpos:=majN_pos (dl s)
 by_cases h:pathB (dl s)=true
 ·rw [if_pos h]
  refine Ev.pos h (Ev.bind (l4Major_ev s hs h) ?_)
  by_cases h1:majN (dl s)=1
  ·rw [if_pos h1,h1]
   exact Ev.pos rfl (Ev.now _)
  ·rw [if_neg h1]
   exact Ev.neg (by omega) (Ev.now _)
 ·rw [if_neg h]
  exact Ev.neg h (Ev.now _)
def fitsB (p:List UInt8) (a b c:Int) (s:List UInt8):Bool:=decide (majV p > 0) && (verB a b c s && decide (a=majV p ∨ (a=0 ∧ majV p=1)))
theorem FitsI (p:ByteArray) (a b c:Int) (s:ByteArray) (hp:p.size ≤ 2147483648) (hs:s.size ≤ 2147483648):Ev (fun k=>impl_Fits.f k p a b c s) (fitsB (dl p) a b c (dl s)):=by
 refine Ev.bind (MajorI p hp) ?_
 unfold fitsB
 generalize majV (dl p)=m
 by_cases hm:m > 0
 ·rw [decide_eq_true hm,Bool.true_and]
  refine Ev.pos hm (Ev.bind_go (h:=fun _=>if a=m then some true else if a=0 then some (m == 1) else some false) (VersionI a b c s hs) (Ev.const ?_))
  by_cases h1:a=m
  ·rw [if_pos h1,decide_eq_true (.inl h1)]
  ·rw [if_neg h1]
   by_cases h0:a=0
   ·rw [if_pos h0]
    by_cases h2:m=1
    ·rw [beq_iff_eq.2 h2,decide_eq_true (.inr ⟨h0,h2⟩)]
    ·rw [beq_eq_false_iff_ne.2 h2,decide_eq_false (fun h=>h.elim h1 (fun h=>h2 h.2))]
   ·rw [if_neg h0,decide_eq_false (fun h=>h.elim h1 (fun h=>h0 h.1))]
 ·rw [decide_eq_false hm,Bool.false_and]
  exact Ev.neg hm (Ev.now _)
theorem FitsS (p:ByteArray) (a b c:Int) (s:ByteArray) (hp:p.size ≤ 2147483648) (hs:s.size ≤ 2147483648):Ev (fun k=>spec_Fits.f k p a b c s) (fitsB (dl p) a b c (dl s)):=by
 refine Ev.bind (MajorS p hp) ?_
 unfold fitsB
 generalize majV (dl p)=m
 by_cases hm:m > 0
 ·rw [decide_eq_true hm,Bool.true_and]
  refine Ev.pos hm (Ev.bind_go (h:=fun _=>if a=m then some true else if m=1 then some (a == 0) else some false) (VersionS a b c s hs) (Ev.const ?_))
  by_cases h1:a=m
  ·rw [if_pos h1,decide_eq_true (.inl h1)]
  ·rw [if_neg h1]
   by_cases h2:m=1
   ·rw [if_pos h2]
    by_cases h0:a=0
    ·rw [beq_iff_eq.2 h0,decide_eq_true (.inr ⟨h0,h2⟩)]
    ·rw [beq_eq_false_iff_ne.2 h0,decide_eq_false (fun h=>h.elim h1 (fun h=>h0 h.1))]
   ·rw [if_neg h2,decide_eq_false (fun h=>h.elim h1 (fun h=>h2 h.2))]
 ·rw [decide_eq_false hm,Bool.false_and]
  exact Ev.neg hm (Ev.now _)
end Go.Proofs.YtfpdikledfhcaaaGreatDoor.PFnExactClientOk
