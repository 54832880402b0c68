import Derived.Test.YtfpdikledfhcaaaGreatDoorCCaPFnExactClientOkx0
import Derived.Test.YtfpdikledfhcaaaGreatDoorCCaPFnExactClientOkx1
import Derived.Test.YtfpdikledfhcaaaGreatDoorCCaPFnExactClientOkx2
import Derived.Test.YtfpdikledfhcaaaGreatDoorCCaPFnExactClientOkx3
import Derived.Test.YtfpdikledfhcaaaGreatDoorCCaPFnExactClientOkx4
import Derived.Test.YtfpdikledfhcaaaGreatDoorCCaPFnExactClientOkx5
import Derived.Test.YtfpdikledfhcaaaGreatDoorCCaPFnExactClientOkx6
import Derived.Test.YtfpdikledfhcaaaGreatDoorCCaPFnExactClientOkx7
import Derived.Test.YtfpdikledfhcaaaGreatDoorCCaPFnExactClientOkx8
import Derived.Test.YtfpdikledfhcaaaGreatDoorCCaPFnExactClientOkx9
import Derived.Test.YtfpdikledfhcaaaGreatDoorCCaPFnExactClientOkx10
import Derived.Test.YtfpdikledfhcaaaGreatDoorCCaPFnExactClientOkx11
import Derived.Test.YtfpdikledfhcaaaGreatDoorCCaPFnExactClientOkx12
import Derived.Test.YtfpdikledfhcaaaGreatDoorCCaPFnExactClientOkx13
import Derived.Test.YtfpdikledfhcaaaGreatDoorCCaPFnExactClientOkx14
import Derived.Test.YtfpdikledfhcaaaGreatDoorCCaPFnExactClientOkx15
import Derived.Test.YtfpdikledfhcaaaGreatDoorCCaPFnExactClientOkx16
import Derived.Test.YtfpdikledfhcaaaGreatDoorCCaNum
namespace Go.Proofs.YtfpdikledfhcaaaGreatDoor.PFnExactClientOk
open Go Go.RowKit Go.Proofs.YtfpdikledfhcaaaGreatDoorW.PrintWords Go.Proofs.YtfpdikledfhcaaaGreatDoorW.PrintLast Go.Proofs.YtfpdikledfhcaaaGreatDoorW.PrintMore Go.Proofs.YtfpdikledfhcaaaGreatDoor.Ev Go.Proofs.YtfpdikledfhcaaaGreatDoor.Str Go.Proofs.YtfpdikledfhcaaaGreatDoor.Num
set_option linter.unusedVariables false
set_option linter.unusedSimpArgs false
theorem rd_map (l:List (List UInt8)) (i:Nat) (h:i < l.length):dl (rdOf ByteArray.empty (l.map bv) (i:Int))=l.getD i []:=by
 unfold rdOf
 rw [Int.toNat_natCast,getD_lt (by simpa using h),getD_lt h,List.getElem_map,dl_bv]
theorem split_spec (s:ByteArray) (c:UInt8) (cI:Int) (hc:(c.toNat:Int)=cI) (hs:s.size ≤ 2147483648):Ev (fun k=>spec_l3Split.f k s cI) ((splitL c (dl s)).map bv):=by
 have key : ∀ (d i from_:Nat) (acc:List ByteArray),i + d=s.size → from_ ≤ i → (∀ j,from_ ≤ j → j < i → (dl s).getD j 0 ≠ c) → acc.length ≤ from_ →
  Ev (fun k=>spec_l3Split.l0 k s cI acc (from_:Int) (i:Int)) (acc ++ (splitL c ((dl s).drop from_)).map bv):=by
  intro d
  have hsz:=size_dl s
  have hseg : ∀ from_ i:Nat,from_ ≤ i → i ≤ s.size → (∀ j,from_ ≤ j → j < i → (dl s).getD j 0 ≠ c) → c ∉ ((dl s).drop from_).take (i - from_):=by
   intro from_ i h1 h2 h3 hm
   obtain ⟨k,hk,e⟩:=List.getElem_of_mem hm
   rw [List.length_take,List.length_drop] at hk
   rw [List.getElem_take,List.getElem_drop] at e
   exact h3 (from_ + k) (by omega) (by omega) (by rw [getD_lt (by omega)];exact e)
  induction d with
  | zero=>
   intro i from_ acc hi hf hno hacc
   have e:i=s.size:=by omega
   subst e
   have hw:=wrapS (i:=s.size) (n:=s.size + 1) (by omega) (by omega)
   have hn:c ∉ (dl s).drop from_:=by
    have:=hseg from_ s.size hf (Nat.le_refl _) hno
    rwa [List.take_of_length_le (by rw [List.length_drop];omega)] at this
   rw [splitL_none hn]
   refine Ev.step (f:=fun k=>spec_l3Split.l0 k s cI (acc ++ [s.extract from_ s.size]) ((s.size + 1:Nat):Int) ((s.size + 1:Nat):Int)) (fun k=>?_) ?_
   ·simp only [spec_l3Split.l0]
    rw [if_pos (by omega),if_pos trivial,if_pos (by omega),if_pos (by omega),if_pos (by omega),hw]
    rfl
   ·refine Ev.step (f:=fun _=>some _) (fun k=>?_) (Ev.now _)
    simp only [spec_l3Split.l0]
    rw [if_neg (by omega),extract_dl,List.take_of_length_le (by omega)]
    rfl
  | succ d ih=>
   intro i from_ acc hi hf hno hacc
   have hw:=wrapS (i:=i) (n:=s.size) (by omega) (by omega)
   have hb:=bt_dl s i (by omega)
   by_cases hx:(dl s).getD i 0=c
   ·have hbx:bt s (i:Int)=cI:=by rw [hb,hx,hc]
    have hn:=hseg from_ i hf (by omega) hno
    have hcut:(dl s).drop from_=((dl s).drop from_).take (i - from_) ++ c :: (dl s).drop (i + 1):=by
     have h1:((dl s).drop from_)[i - from_]? = some c:=by
      rw [List.getElem?_drop,show from_ + (i - from_)=i by omega,List.getElem?_eq_getElem (by omega),← getD_lt (z:=0) (by omega),hx]
     have h2:=cut_at h1
     rwa [List.drop_drop,show from_ + (i - from_ + 1)=i + 1 by omega] at h2
    have hres:acc ++ (splitL c ((dl s).drop from_)).map bv=(acc ++ [s.extract from_ i]) ++ (splitL c ((dl s).drop (i + 1))).map bv:=by
     rw [hcut,splitL_hit hn,extract_dl]
     simp [List.drop_take]
    rw [hres]
    refine Ev.step (f:=fun k=>spec_l3Split.l0 k s cI (acc ++ [s.extract from_ i]) ((i + 1:Nat):Int) ((i + 1:Nat):Int)) (fun k=>?_) (ih (i + 1) (i + 1) _ (by omega) (Nat.le_refl _) (fun j h1 h2=>by omega) (by simp;omega))
    simp only [spec_l3Split.l0]
    rw [if_pos (by omega),if_neg (by omega),if_pos (by omega),if_pos (by omega),if_pos hbx,if_pos (by omega),if_pos (by omega),if_pos (by omega),hw]
    rfl
   ·have hbx : ¬ bt s (i:Int)=cI:=by
     rw [hb,← hc]
     intro e
     exact hx (UInt8.toNat_inj.1 (by omega))
    refine Ev.step (f:=fun k=>spec_l3Split.l0 k s cI acc (from_:Int) ((i + 1:Nat):Int)) (fun k=>?_) (ih (i + 1) from_ _ (by omega) (by omega) (fun j h1 h2=>?_) hacc)
    ·simp only [spec_l3Split.l0]
     rw [if_pos (by omega),if_neg (by omega),if_pos (by omega),if_pos (by omega),if_neg hbx,hw]
    ·rcases Nat.lt_or_ge j i with h | h
     ·exact hno j h1 h
     ·rw [show j=i by omega];exact hx
 have:=key s.size 0 0 [] (by omega) (Nat.le_refl _) (fun j h1 h2=>by omega) (Nat.le_refl _)
 simpa [spec_l3Split.f] using this
theorem split_impl (s:ByteArray) (c:UInt8) (hs:s.size ≤ 2147483648):strings_Split.f s ⟨#[c]⟩=some ((splitL c (dl s)).map bv):=by
 unfold strings_Split.f
 rw [if_pos ⟨rfl,by omega⟩,splitB_eq c s.size s (Nat.le_refl _)]
theorem drop_all (s:ByteArray) (i:Nat) (h:i < s.size):((dl s).drop i).all isD=(isD ((dl s).getD i 0) && ((dl s).drop (i + 1)).all isD):=by
 have h':i < (dl s).length:=by rw [← size_dl];exact h
 rw [List.drop_eq_getElem_cons h',List.all_cons,getD_lt h']
theorem figure (b:UInt8):impl_isFigure.f (b.toNat:Int)=some (isD b):=by
 unfold impl_isFigure.f isD
 by_cases h:48 ≤ b.toNat
 ·rw [if_pos (by omega),decide_eq_true h,Bool.true_and]
  congr 1
  by_cases h2:b.toNat ≤ 57 <;> simp [h2] <;> omega
 ·rw [if_neg (by omega),decide_eq_false h,Bool.false_and]
theorem in_fig (b:UInt8):spec_l1In.f (b.toNat:Int) 48 57=some (isD b):=by
 unfold spec_l1In.f isD
 by_cases h:48 ≤ b.toNat
 ·rw [if_pos (by omega),decide_eq_true h,Bool.true_and]
  congr 1
  by_cases h2:b.toNat ≤ 57 <;> simp [h2] <;> omega
 ·rw [if_neg (by omega),decide_eq_false h,Bool.false_and]
theorem isFigures_ev (s:ByteArray) (hs:s.size ≤ 2147483648):Ev (fun k=>impl_isFigures.f k s) (digB (dl s)):=by
 have key : ∀ (d i:Nat),i + d=s.size → Ev (fun k=>impl_isFigures.l0 k s (i:Int)) (((dl s).drop i).all isD && !(dl s).isEmpty):=by
  intro d
  induction d with
  | zero=>
   intro i hi
   refine Ev.step (f:=fun _=>some _) (fun k=>?_) (Ev.now _)
   simp only [impl_isFigures.l0]
   rw [if_neg (by omega),List.drop_eq_nil_of_le (by rw [← size_dl];omega),toList_dl,bne_nil_]
   simp
  | succ d ih=>
   intro i hi
   have hw:=wrapS (i:=i) (n:=s.size) (by omega) (by omega)
   rw [drop_all s i (by omega)]
   refine Ev.step (f:=fun k=>(some (isD ((dl s).getD i 0))).bind fun t=>if t=true then impl_isFigures.l0 k s ((i + 1:Nat):Int) else some false) (fun k=>?_) ?_
   ·simp only [impl_isFigures.l0]
    rw [if_pos (by omega),if_pos (by omega),bt_dl s i (by omega),figure,hw]
   ·refine Ev.bind_const rfl ?_
    cases isD ((dl s).getD i 0) with
    | true=>exact Ev.pos rfl (by simpa using ih (i + 1) (by omega))
    | false=>exact Ev.neg (by decide) (by simpa using Ev.now false)
 have:=key s.size 0 (by omega)
 simpa [impl_isFigures.f,digB] using this
theorem l3Digits_ev (s:ByteArray) (hs:s.size ≤ 2147483648):Ev (fun k=>spec_l3Digits.f k s) (digB (dl s)):=by
 have key : ∀ (d i:Nat),i + d=s.size → Ev (fun k=>spec_l3Digits.l0 k s (i:Int)) (((dl s).drop i).all isD && !(dl s).isEmpty):=by
  intro d
  induction d with
  | zero=>
   intro i hi
   refine Ev.step (f:=fun _=>some _) (fun k=>?_) (Ev.now _)
   simp only [spec_l3Digits.l0]
   rw [if_neg (by omega),List.drop_eq_nil_of_le (by rw [← size_dl];omega),toList_dl,bne_nil_]
   simp
  | succ d ih=>
   intro i hi
   have hw:=wrapS (i:=i) (n:=s.size) (by omega) (by omega)
   have hb:=UInt8.toNat_lt ((dl s).getD i 0)
   rw [drop_all s i (by omega)]
   refine Ev.step (f:=fun k=>(some (isD ((dl s).getD i 0))).bind fun t=>if t=true then spec_l3Digits.l0 k s ((i + 1:Nat):Int) else some false) (fun k=>?_) ?_
   ·simp only [spec_l3Digits.l0]
    rw [if_pos (by omega),if_pos (by omega),bt_dl s i (by omega),wrapI (by omega) (by omega),in_fig,hw]
   ·refine Ev.bind_const rfl ?_
    cases isD ((dl s).getD i 0) with
    | true=>exact Ev.pos rfl (by simpa using ih (i + 1) (by omega))
    | false=>exact Ev.neg (by decide) (by simpa using Ev.now false)
 have:=key s.size 0 (by omega)
 simpa [spec_l3Digits.f,digB] using this
theorem small_iff (l:List UInt8):small l=true ↔ digB l=true ∧ l.length ≤ 8 ∧ (l.length ≤ 1 ∨ l.head? ≠ some 48):=by
 unfold small
 rw [Bool.and_eq_true,numB_iff,digB_iff,decide_eq_true_eq]
 constructor
 ·rintro ⟨⟨h1,h2,h3⟩,h4⟩
  exact ⟨⟨h1,h2⟩,h4,h3⟩
 ·rintro ⟨⟨h1,h2⟩,h3,h4⟩
  exact ⟨⟨h1,h2,h4⟩,h3⟩
theorem head_getD (l:List UInt8) (h:0 < l.length):l.head? = some (l.getD 0 0):=by
 cases l with
 | nil=>simp at h
 | cons a l=>simp
theorem l3Number_ev (s:ByteArray) (hs:s.size ≤ 2147483648):Ev (fun k=>spec_l3Number.f k s) (if small (dl s)=true then (val (dl s):Int) else -1):=by
 have hsz:=size_dl s
 have hno : ¬ small (dl s)=true → Ev (fun k=>spec_l3Number.j0 k s true) (if small (dl s)=true then (val (dl s):Int) else -1):=by
  intro h
  rw [if_neg h]
  refine Ev.step (f:=fun _=>some (-1)) (fun k=>?_) (Ev.now _)
  simp only [spec_l3Number.j0]
  rw [if_pos trivial]
 refine Ev.bind (l3Digits_ev s hs) ?_
 by_cases hd:digB (dl s)=true
 ·rw [hd]
  refine Ev.pos rfl ?_
  by_cases h8:s.size ≤ 8
  ·refine Ev.neg (by omega) ?_
   have key : ∀ (d i n:Nat),i + d=s.size → n < 10 ^ i → Ev (fun k=>spec_l3Number.l0 k s (n:Int) (i:Int)) ((n * 10 ^ d + val ((dl s).drop i):Nat):Int):=by
    intro d
    induction d with
    | zero=>
     intro i n hi hn
     refine Ev.step (f:=fun _=>some (n:Int)) (fun k=>?_) ?_
     ·simp only [spec_l3Number.l0]
      rw [if_neg (by omega)]
     ·rw [List.drop_eq_nil_of_le (by omega)]
      simpa [val] using Ev.now (n:Int)
    | succ d ih=>
     intro i n hi hn
     have hw:=wrapS (i:=i) (n:=s.size) (by omega) (by omega)
     have hin:i < (dl s).length:=by omega
     have hdig:=List.all_eq_true.1 (digB_iff.1 hd).1 _ (List.getElem_mem hin)
     rw [← getD_lt (z:=0) hin] at hdig
     have hr:=isD_iff.1 hdig
     have hp:10 ^ i ≤ 10 ^ 8:=Nat.pow_le_pow_right (by omega) (by omega)
     have hp8:10 ^ 8=100000000:=rfl
     have hl:((dl s).drop (i + 1)).length=d:=by rw [List.length_drop];omega
     have e1:wrap64 ((wrap64 ((n:Int) * 10)) + (((bt s (i:Int)) - 48) % 256))=((n * 10 + (((dl s).getD i 0).toNat - 48):Nat):Int):=by
      rw [bt_dl s i (by omega),wrapI (i:=(n:Int) * 10) (by omega) (by omega)]
      rw [Int.emod_eq_of_lt (by omega) (by omega),wrapI (by omega) (by omega)]
      omega
     have e2:n * 10 ^ (d + 1) + val ((dl s).drop i)=(n * 10 + (((dl s).getD i 0).toNat - 48)) * 10 ^ d + val ((dl s).drop (i + 1)):=by
      rw [List.drop_eq_getElem_cons hin,← getD_lt (z:=0) hin,val,hl,Nat.pow_succ,Nat.add_mul,Nat.mul_comm (10 ^ d) 10,← Nat.mul_assoc]
      omega
     rw [e2]
     refine Ev.step (f:=fun k=>spec_l3Number.l0 k s ((n * 10 + (((dl s).getD i 0).toNat - 48):Nat):Int) ((i + 1:Nat):Int)) (fun k=>?_) (ih (i + 1) _ (by omega) (by rw [Nat.pow_succ];omega))
     simp only [spec_l3Number.l0]
     rw [if_pos (by omega),if_pos (by omega),e1,hw]
   have hrun:=key s.size 0 0 (by omega) (by simp)
   simp only [Nat.zero_mul,Nat.zero_add,List.drop_zero] at hrun
   have hyes:small (dl s)=true → Ev (fun k=>spec_l3Number.j0 k s false) (if small (dl s)=true then (val (dl s):Int) else -1):=by
    intro h
    rw [if_pos h]
    refine Ev.step (f:=fun k=>spec_l3Number.l0 k s 0 0) (fun k=>?_) hrun
    simp only [spec_l3Number.j0]
    rw [if_neg (by decide)]
   by_cases h1:s.size ≤ 1
   ·exact Ev.neg (by omega) (hyes ((small_iff _).2 ⟨hd,by omega,.inl (by omega)⟩))
   ·refine Ev.pos (by omega) (Ev.pos (by omega) ?_)
    have hb:=bt_dl s 0 (by omega)
    have hh:=head_getD (dl s) (by omega)
    by_cases h48:(dl s).getD 0 0=48
    ·rw [show (bt s 0 == 48)=true from by rw [show bt s 0=(48:Int) from by rw [show (0:Int)=((0:Nat):Int) from rfl,hb,h48];rfl];rfl]
     refine hno (fun h=>?_)
     rcases ((small_iff _).1 h).2.2 with h | h
     ·omega
     ·exact h (by rw [hh,h48])
    ·rw [show (bt s 0 == 48)=false from by
      rw [show (0:Int)=((0:Nat):Int) from rfl,hb]
      refine beq_eq_false_iff_ne.2 (fun e=>h48 (UInt8.toNat_inj.1 ?_))
      have:(48:UInt8).toNat=48:=rfl
      omega]
     exact hyes ((small_iff _).2 ⟨hd,by omega,.inr (fun e=>h48 (by rw [hh] at e;exact Option.some.inj e))⟩)
  ·exact Ev.pos (by omega) (hno (fun h=>by have:=((small_iff _).1 h).2.1;omega))
 ·have hd':digB (dl s)=false:=by simpa using hd
  rw [hd']
  exact Ev.neg (by decide) (hno (fun h=>hd ((small_iff _).1 h).1))
theorem isNumber_ev (s:ByteArray) (hs:s.size ≤ 2147483648):Ev (fun k=>impl_isNumber.f k s) (numB (dl s)):=by
 have hsz:=size_dl s
 refine Ev.bind (isFigures_ev s hs) ?_
 unfold numB
 by_cases hd:digB (dl s)=true
 ·rw [hd,Bool.true_and]
  refine Ev.pos rfl ?_
  have hne:=(digB_iff.1 hd).2
  have hlen:0 < (dl s).length:=List.length_pos_iff.2 hne
  by_cases h:dl s=[48]
  ·rw [toList_dl]
   exact Ev.pos h (by rw [h];exact Ev.now _)
  ·rw [toList_dl]
   refine Ev.neg h (Ev.pos (by omega) ?_)
   have hb:=bt_dl s 0 (by omega)
   have hh:=head_getD (dl s) hlen
   have e:((bt s 0) != 48)=(dl s == [48] || (dl s).head? != some 48):=by
    rw [beq_eq_false_iff_ne.2 h,Bool.false_or,hh,show (0:Int)=((0:Nat):Int) from rfl,hb]
    by_cases h48:(dl s).getD 0 0=48
    ·rw [h48];rfl
    ·have h2 : ¬ (((dl s).getD 0 0).toNat:Int)=48:=fun e=>h48 (UInt8.toNat_inj.1 (by have:(48:UInt8).toNat=48:=rfl;omega))
     rw [bne_iff_ne.2 h2,bne_iff_ne.2 (fun e=>h48 (Option.some.inj e))]
   rw [e]
   exact Ev.now _
 ·have hd':digB (dl s)=false:=by simpa using hd
  rw [hd',Bool.false_and]
  exact Ev.neg (by decide) (Ev.now _)
theorem small_of (l:List UInt8):(numB l && decide ((l.length:Int) ≤ 8))=small l:=by
 unfold small
 congr 1
 by_cases h:l.length ≤ 8
 ·rw [decide_eq_true h,decide_eq_true (by omega)]
 ·rw [decide_eq_false h,decide_eq_false (by omega)]
theorem size_bv (l:List UInt8):(bv l).size=l.length:=by rw [size_dl,dl_bv]
theorem rd_bv (l:List (List UInt8)) (i:Nat) (h:i < l.length):rdOf ByteArray.empty (l.map bv) (i:Int)=bv (l.getD i []):=by
 apply dl_inj
 rw [rd_map l i h,dl_bv]
theorem drop_cons {α:Type} {l:List α} {z:α} {i:Nat} (h:i < l.length):l.drop i=l.getD i z :: l.drop (i + 1):=by rw [List.drop_eq_getElem_cons h,getD_lt h]
end Go.Proofs.YtfpdikledfhcaaaGreatDoor.PFnExactClientOk
