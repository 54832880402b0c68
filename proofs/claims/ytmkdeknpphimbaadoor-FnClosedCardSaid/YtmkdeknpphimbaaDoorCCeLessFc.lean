import Derived.Test.YtmkdeknpphimbaaDoorCCePFnClosedx0
import Derived.Test.YtmkdeknpphimbaaDoorCCePFnClosedx1
import Derived.Test.YtmkdeknpphimbaaDoorCCePFnClosedx2
import Derived.Test.YtmkdeknpphimbaaDoorCCePFnClosedx3
import Derived.Test.YtmkdeknpphimbaaDoorCCePFnClosedx4
import Derived.Test.YtmkdeknpphimbaaDoorCCePFnClosedx5
import Derived.Test.YtmkdeknpphimbaaDoorCCePFnClosedx6
import Derived.Test.YtmkdeknpphimbaaDoorCCePFnClosedx7
import Derived.Test.YtmkdeknpphimbaaDoorCCePFnClosedx8
import Derived.Test.YtmkdeknpphimbaaDoorCCePFnClosedx9
import Derived.Test.YtmkdeknpphimbaaDoorCCePFnClosedx10
import Derived.Test.YtmkdeknpphimbaaDoorCCePFnClosedx11
import Derived.Test.YtmkdeknpphimbaaDoorCCePFnClosedx12
import Derived.Test.YtmkdeknpphimbaaDoorCCePFnClosedx13
import Derived.Test.YtmkdeknpphimbaaDoorCCePFnClosedx14
import Derived.Test.YtmkdeknpphimbaaDoorCCePFnClosedx15
import Derived.Test.YtmkdeknpphimbaaDoorCCePFnClosedx16
import Derived.Test.YtmkdeknpphimbaaDoorCCePFnClosedx17
import Derived.Test.YtmkdeknpphimbaaDoorCCePFnClosedx18
import Derived.Test.YtmkdeknpphimbaaDoorCCePFnClosedx19
import Derived.Test.YtmkdeknpphimbaaDoorCCePFnClosedx20
import Derived.Test.YtmkdeknpphimbaaDoorCCeNum
namespace Go.Proofs.YtmkdeknpphimbaaDoor.PFnClosed
open Go Go.RowKit Go.Proofs.YtmkdeknpphimbaaDoorW.PrintWords Go.Proofs.YtmkdeknpphimbaaDoorW.PrintLast Go.Proofs.YtmkdeknpphimbaaDoorW.PrintMore Go.Proofs.YtmkdeknpphimbaaDoor.Ev Go.Proofs.YtmkdeknpphimbaaDoor.Str Go.Proofs.YtmkdeknpphimbaaDoor.Num
set_option linter.unusedVariables false
set_option linter.unusedSimpArgs false
theorem rd_map (l:List (List UInt8)) (i:Nat) (h:i < l.length):dl (rdOf ByteArray.empty (l.map bv) (i:Int))=l.getD i []:=by
 unfold rdOf
 rw [Int.toNat_natCast,getD_lt (by simpa using h),getD_lt h,List.getElem_map,dl_bv]
theorem split_spec (s:ByteArray) (c:UInt8) (cI:Int) (hc:(c.toNat:Int)=cI) (hs:s.size ≤ 2147483648):Ev (fun k=>spec_l3Split.f k s cI) ((splitL c (dl s)).map bv):=by
 have key : ∀ (d i from_:Nat) (acc:List ByteArray),i + d=s.size → from_ ≤ i → (∀ j,from_ ≤ j → j < i → (dl s).getD j 0 ≠ c) → acc.length ≤ from_ →
  Ev (fun k=>spec_l3Split.l0 k s cI acc (from_:Int) (i:Int)) (acc ++ (splitL c ((dl s).drop from_)).map bv):=by
  intro d
  have hsz:=size_dl s
  have hseg : ∀ from_ i:Nat,from_ ≤ i → i ≤ s.size → (∀ j,from_ ≤ j → j < i → (dl s).getD j 0 ≠ c) → c ∉ ((dl s).drop from_).take (i - from_):=by
   intro from_ i h1 h2 h3 hm
   obtain ⟨k,hk,e⟩:=List.getElem_of_mem hm
   rw [List.length_take,List.length_drop] at hk
   rw [List.getElem_take,List.getElem_drop] at e
   exact h3 (from_ + k) (by omega) (by omega) (by rw [getD_lt (by omega)];exact e)
  induction d with
  | zero=>
   intro i from_ acc hi hf hno hacc
   have e:i=s.size:=by omega
   subst e
   have hw:=wrapS (i:=s.size) (n:=s.size + 1) (by omega) (by omega)
   have hn:c ∉ (dl s).drop from_:=by
    have:=hseg from_ s.size hf (Nat.le_refl _) hno
    rwa [List.take_of_length_le (by rw [List.length_drop];omega)] at this
   rw [splitL_none hn]
   refine Ev.step (f:=fun k=>spec_l3Split.l0 k s cI (acc ++ [s.extract from_ s.size]) ((s.size + 1:Nat):Int) ((s.size + 1:Nat):Int)) (fun k=>?_) ?_
   ·simp only [spec_l3Split.l0]
    rw [if_pos (by omega),if_pos trivial,if_pos (by omega),if_pos (by omega),if_pos (by omega),hw]
    rfl
   ·refine Ev.step (f:=fun _=>some _) (fun k=>?_) (Ev.now _)
    simp only [spec_l3Split.l0]
    rw [if_neg (by omega),extract_dl,List.take_of_length_le (by omega)]
    rfl
  | succ d ih=>
   intro i from_ acc hi hf hno hacc
   have hw:=wrapS (i:=i) (n:=s.size) (by omega) (by omega)
   have hb:=bt_dl s i (by omega)
   by_cases hx:(dl s).getD i 0=c
   ·have hbx:bt s (i:Int)=cI:=by rw [hb,hx,hc]
    have hn:=hseg from_ i hf (by omega) hno
    have hcut:(dl s).drop from_=((dl s).drop from_).take (i - from_) ++ c :: (dl s).drop (i + 1):=by
     have h1:((dl s).drop from_)[i - from_]? = some c:=by
      rw [List.getElem?_drop,show from_ + (i - from_)=i by omega,List.getElem?_eq_getElem (by omega),← getD_lt (z:=0) (by omega),hx]
     have h2:=cut_at h1
     rwa [List.drop_drop,show from_ + (i - from_ + 1)=i + 1 by omega] at h2
    have hres:acc ++ (splitL c ((dl s).drop from_)).map bv=(acc ++ [s.extract from_ i]) ++ (splitL c ((dl s).drop (i + 1))).map bv:=by
     rw [hcut,splitL_hit hn,extract_dl]
     simp [List.drop_take]
    rw [hres]
    refine Ev.step (f:=fun k=>spec_l3Split.l0 k s cI (acc ++ [s.extract from_ i]) ((i + 1:Nat):Int) ((i + 1:Nat):Int)) (fun k=>?_) (ih (i + 1) (i + 1) _ (by omega) (Nat.le_refl _) (fun j h1 h2=>by omega) (by simp;omega))
    simp only [spec_l3Split.l0]
    rw [if_pos (by omega),if_neg (by omega),if_pos (by omega),if_pos (by omega),if_pos hbx,if_pos (by omega),if_pos (by omega),if_pos (by omega),hw]
    rfl
   ·have hbx : ¬ bt s (i:Int)=cI:=by
     rw [hb,← hc]
     intro e
     exact hx (UInt8.toNat_inj.1 (by omega))
    refine Ev.step (f:=fun k=>spec_l3Split.l0 k s cI acc (from_:Int) ((i + 1:Nat):Int)) (fun k=>?_) (ih (i + 1) from_ _ (by omega) (by omega) (fun j h1 h2=>?_) hacc)
    ·simp only [spec_l3Split.l0]
     rw [if_pos (by omega),if_neg (by omega),if_pos (by omega),if_pos (by omega),if_neg hbx,hw]
    ·rcases Nat.lt_or_ge j i with h | h
     ·exact hno j h1 h
     ·rw [show j=i by omega];exact hx
 have:=key s.size 0 0 [] (by omega) (Nat.le_refl _) (fun j h1 h2=>by omega) (Nat.le_refl _)
 simpa [spec_l3Split.f] using this
theorem split_impl (s:ByteArray) (c:UInt8) (hs:s.size ≤ 2147483648):strings_Split.f s ⟨#[c]⟩=some ((splitL c (dl s)).map bv):=by
 unfold strings_Split.f
 rw [if_pos ⟨rfl,by omega⟩,splitB_eq c s.size s (Nat.le_refl _)]
theorem drop_all (s:ByteArray) (i:Nat) (h:i < s.size):((dl s).drop i).all isD=(isD ((dl s).getD i 0) && ((dl s).drop (i + 1)).all isD):=by
 have h':i < (dl s).length:=by rw [← size_dl];exact h
 rw [List.drop_eq_getElem_cons h',List.all_cons,getD_lt h']
theorem figure (b:UInt8):impl_isFigure.f (b.toNat:Int)=some (isD b):=by
 unfold impl_isFigure.f isD
 by_cases h:48 ≤ b.toNat
 ·rw [if_pos (by omega),decide_eq_true h,Bool.true_and]
  congr 1
  by_cases h2:b.toNat ≤ 57 <;> simp [h2] <;> omega
 ·rw [if_neg (by omega),decide_eq_false h,Bool.false_and]
theorem in_fig (b:UInt8):spec_l1In.f (b.toNat:Int) 48 57=some (isD b):=by
 unfold spec_l1In.f isD
 by_cases h:48 ≤ b.toNat
 ·rw [if_pos (by omega),decide_eq_true h,Bool.true_and]
  congr 1
  by_cases h2:b.toNat ≤ 57 <;> simp [h2] <;> omega
 ·rw [if_neg (by omega),decide_eq_false h,Bool.false_and]
theorem isFigures_ev (s:ByteArray) (hs:s.size ≤ 2147483648):Ev (fun k=>impl_isFigures.f k s) (digB (dl s)):=by
 have key : ∀ (d i:Nat),i + d=s.size → Ev (fun k=>impl_isFigures.l0 k s (i:Int)) (((dl s).drop i).all isD && !(dl s).isEmpty):=by
  intro d
  induction d with
  | zero=>
   intro i hi
   refine Ev.step (f:=fun _=>some _) (fun k=>?_) (Ev.now _)
   simp only [impl_isFigures.l0]
   rw [if_neg (by omega),List.drop_eq_nil_of_le (by rw [← size_dl];omega),toList_dl,bne_nil_]
   simp
  | succ d ih=>
   intro i hi
   have hw:=wrapS (i:=i) (n:=s.size) (by omega) (by omega)
   rw [drop_all s i (by omega)]
   refine Ev.step (f:=fun k=>(some (isD ((dl s).getD i 0))).bind fun t=>if t=true then impl_isFigures.l0 k s ((i + 1:Nat):Int) else some false) (fun k=>?_) ?_
   ·simp only [impl_isFigures.l0]
    rw [if_pos (by omega),if_pos (by omega),bt_dl s i (by omega),figure,hw]
   ·refine Ev.bind_const rfl ?_
    cases isD ((dl s).getD i 0) with
    | true=>exact Ev.pos rfl (by simpa using ih (i + 1) (by omega))
    | false=>exact Ev.neg (by decide) (by simpa using Ev.now false)
 have:=key s.size 0 (by omega)
 simpa [impl_isFigures.f,digB] using this
theorem l3Digits_ev (s:ByteArray) (hs:s.size ≤ 2147483648):Ev (fun k=>spec_l3Digits.f k s) (digB (dl s)):=by
 have key : ∀ (d i:Nat),i + d=s.size → Ev (fun k=>spec_l3Digits.l0 k s (i:Int)) (((dl s).drop i).all isD && !(dl s).isEmpty):=by
  intro d
  induction d with
  | zero=>
   intro i hi
   refine Ev.step (f:=fun _=>some _) (fun k=>?_) (Ev.now _)
   simp only [spec_l3Digits.l0]
   rw [if_neg (by omega),List.drop_eq_nil_of_le (by rw [← size_dl];omega),toList_dl,bne_nil_]
   simp
  | succ d ih=>
   intro i hi
   have hw:=wrapS (i:=i) (n:=s.size) (by omega) (by omega)
   have hb:=UInt8.toNat_lt ((dl s).getD i 0)
   rw [drop_all s i (by omega)]
   refine Ev.step (f:=fun k=>(some (isD ((dl s).getD i 0))).bind fun t=>if t=true then spec_l3Digits.l0 k s ((i + 1:Nat):Int) else some false) (fun k=>?_) ?_
   ·simp only [spec_l3Digits.l0]
    rw [if_pos (by omega),if_pos (by omega),bt_dl s i (by omega),wrapI (by omega) (by omega),in_fig,hw]
   ·refine Ev.bind_const rfl ?_
    cases isD ((dl s).getD i 0) with
    | true=>exact Ev.pos rfl (by simpa using ih (i + 1) (by omega))
    | false=>exact Ev.neg (by decide) (by simpa using Ev.now false)
 have:=key s.size 0 (by omega)
 simpa [spec_l3Digits.f,digB] using this
theorem small_iff (l:List UInt8):small l=true ↔ digB l=true ∧ l.length ≤ 8 ∧ (l.length ≤ 1 ∨ l.head? ≠ some 48):=by
 unfold small
 rw [Bool.and_eq_true,numB_iff,digB_iff,decide_eq_true_eq]
 constructor
 ·rintro ⟨⟨h1,h2,h3⟩,h4⟩
  exact ⟨⟨h1,h2⟩,h4,h3⟩
 ·rintro ⟨⟨h1,h2⟩,h3,h4⟩
  exact ⟨⟨h1,h2,h4⟩,h3⟩
theorem head_getD (l:List UInt8) (h:0 < l.length):l.head? = some (l.getD 0 0):=by
 cases l with
 | nil=>simp at h
 | cons a l=>simp
theorem l3Number_ev (s:ByteArray) (hs:s.size ≤ 2147483648):Ev (fun k=>spec_l3Number.f k s) (if small (dl s)=true then (val (dl s):Int) else -1):=by
 have hsz:=size_dl s
 have hno : ¬ small (dl s)=true → Ev (fun k=>spec_l3Number.j0 k s true) (if small (dl s)=true then (val (dl s):Int) else -1):=by
  intro h
  rw [if_neg h]
  refine Ev.step (f:=fun _=>some (-1)) (fun k=>?_) (Ev.now _)
  simp only [spec_l3Number.j0]
  rw [if_pos trivial]
 refine Ev.bind (l3Digits_ev s hs) ?_
 by_cases hd:digB (dl s)=true
 ·rw [hd]
  refine Ev.pos rfl ?_
  by_cases h8:s.size ≤ 8
  ·refine Ev.neg (by omega) ?_
   have key : ∀ (d i n:Nat),i + d=s.size → n < 10 ^ i → Ev (fun k=>spec_l3Number.l0 k s (n:Int) (i:Int)) ((n * 10 ^ d + val ((dl s).drop i):Nat):Int):=by
    intro d
    induction d with
    | zero=>
     intro i n hi hn
     refine Ev.step (f:=fun _=>some (n:Int)) (fun k=>?_) ?_
     ·simp only [spec_l3Number.l0]
      rw [if_neg (by omega)]
     ·rw [List.drop_eq_nil_of_le (by omega)]
      simpa [val] using Ev.now (n:Int)
    | succ d ih=>
     intro i n hi hn
     have hw:=wrapS (i:=i) (n:=s.size) (by omega) (by omega)
     have hin:i < (dl s).length:=by omega
     have hdig:=List.all_eq_true.1 (digB_iff.1 hd).1 _ (List.getElem_mem hin)
     rw [← getD_lt (z:=0) hin] at hdig
     have hr:=isD_iff.1 hdig
     have hp:10 ^ i ≤ 10 ^ 8:=Nat.pow_le_pow_right (by omega) (by omega)
     have hp8:10 ^ 8=100000000:=rfl
     have hl:((dl s).drop (i + 1)).length=d:=by rw [List.length_drop];omega
     have e1:wrap64 ((wrap64 ((n:Int) * 10)) + (((bt s (i:Int)) - 48) % 256))=((n * 10 + (((dl s).getD i 0).toNat - 48):Nat):Int):=by
      rw [bt_dl s i (by omega),wrapI (i:=(n:Int) * 10) (by omega) (by omega)]
      rw [Int.emod_eq_of_lt (by omega) (by omega),wrapI (by omega) (by omega)]
      omega
     have e2:n * 10 ^ (d + 1) + val ((dl s).drop i)=(n * 10 + (((dl s).getD i 0).toNat - 48)) * 10 ^ d + val ((dl s).drop (i + 1)):=by
      rw [List.drop_eq_getElem_cons hin,← getD_lt (z:=0) hin,val,hl,Nat.pow_succ,Nat.add_mul,Nat.mul_comm (10 ^ d) 10,← Nat.mul_assoc]
      omega
     rw [e2]
     refine Ev.step (f:=fun k=>spec_l3Number.l0 k s ((n * 10 + (((dl s).getD i 0).toNat - 48):Nat):Int) ((i + 1:Nat):Int)) (fun k=>?_) (ih (i + 1) _ (by omega) (by rw [Nat.pow_succ];omega))
     simp only [spec_l3Number.l0]
     rw [if_pos (by omega),if_pos (by omega),e1,hw]
   have hrun:=key s.size 0 0 (by omega) (by simp)
   simp only [Nat.zero_mul,Nat.zero_add,List.drop_zero] at hrun
   have hyes:small (dl s)=true → Ev (fun k=>spec_l3Number.j0 k s false) (if small (dl s)=true then (val (dl s):Int) else -1):=by
    intro h
    rw [if_pos h]
    refine Ev.step (f:=fun k=>spec_l3Number.l0 k s 0 0) (fun k=>?_) hrun
    simp only [spec_l3Number.j0]
    rw [if_neg (by decide)]
   by_cases h1:s.size ≤ 1
   ·exact Ev.neg (by omega) (hyes ((small_iff _).2 ⟨hd,by omega,.inl (by omega)⟩))
   ·refine Ev.pos (by omega) (Ev.pos (by omega) ?_)
    have hb:=bt_dl s 0 (by omega)
    have hh:=head_getD (dl s) (by omega)
    by_cases h48:(dl s).getD 0 0=48
    ·rw [show (bt s 0 == 48)=true from by rw [show bt s 0=(48:Int) from by rw [show (0:Int)=((0:Nat):Int) from rfl,hb,h48];rfl];rfl]
     refine hno (fun h=>?_)
     rcases ((small_iff _).1 h).2.2 with h | h
     ·omega
     ·exact h (by rw [hh,h48])
    ·rw [show (bt s 0 == 48)=false from by
      rw [show (0:Int)=((0:Nat):Int) from rfl,hb]
      refine beq_eq_false_iff_ne.2 (fun e=>h48 (UInt8.toNat_inj.1 ?_))
      have:(48:UInt8).toNat=48:=rfl
      omega]
     exact hyes ((small_iff _).2 ⟨hd,by omega,.inr (fun e=>h48 (by rw [hh] at e;exact Option.some.inj e))⟩)
  ·exact Ev.pos (by omega) (hno (fun h=>by have:=((small_iff _).1 h).2.1;omega))
 ·have hd':digB (dl s)=false:=by simpa using hd
  rw [hd']
  exact Ev.neg (by decide) (hno (fun h=>hd ((small_iff _).1 h).1))
theorem l3LessPart_ev (a b:ByteArray) (ha:a.size ≤ 2147483648) (hb:b.size ≤ 2147483648):Ev (fun k=>spec_l3LessPart.f k a b) (lpart (dl a) (dl b)):=by
 refine Ev.bind (l3Number_ev a ha) (Ev.bind (l3Number_ev b hb) ?_)
 unfold lpart
 by_cases h1:small (dl a)=true
 ·simp only [if_pos h1]
  refine Ev.pos (by omega) ?_
  by_cases h2:small (dl b)=true
  ·simp only [if_pos h2]
   refine Ev.step (f:=fun _=>some _) (fun k=>?_) (Ev.now _)
   simp only [spec_l3LessPart.j0]
   rw [if_pos (decide_eq_true (by omega))]
   congr 1
   simp
  ·simp only [if_neg h2]
   refine Ev.step (f:=fun _=>some _) (fun k=>?_) (Ev.now _)
   simp only [spec_l3LessPart.j0]
   rw [if_neg (by simp),if_pos (by omega)]
 ·simp only [if_neg h1]
  refine Ev.neg (by omega) ?_
  refine Ev.step (f:=fun _=>some _) (fun k=>?_) (Ev.now _)
  simp only [spec_l3LessPart.j0]
  by_cases h2:small (dl b)=true
  ·simp only [if_pos h2]
   rw [if_neg (by simp),if_neg (by omega),if_pos (by omega)]
  ·simp only [if_neg h2]
   rw [if_neg (by simp),if_neg (by omega),if_neg (by omega),toList_dl,toList_dl,bytesLess_eq]
theorem isNumber_ev (s:ByteArray) (hs:s.size ≤ 2147483648):Ev (fun k=>impl_isNumber.f k s) (numB (dl s)):=by
 have hsz:=size_dl s
 refine Ev.bind (isFigures_ev s hs) ?_
 unfold numB
 by_cases hd:digB (dl s)=true
 ·rw [hd,Bool.true_and]
  refine Ev.pos rfl ?_
  have hne:=(digB_iff.1 hd).2
  have hlen:0 < (dl s).length:=List.length_pos_iff.2 hne
  by_cases h:dl s=[48]
  ·rw [toList_dl]
   exact Ev.pos h (by rw [h];exact Ev.now _)
  ·rw [toList_dl]
   refine Ev.neg h (Ev.pos (by omega) ?_)
   have hb:=bt_dl s 0 (by omega)
   have hh:=head_getD (dl s) hlen
   have e:((bt s 0) != 48)=(dl s == [48] || (dl s).head? != some 48):=by
    rw [beq_eq_false_iff_ne.2 h,Bool.false_or,hh,show (0:Int)=((0:Nat):Int) from rfl,hb]
    by_cases h48:(dl s).getD 0 0=48
    ·rw [h48];rfl
    ·have h2 : ¬ (((dl s).getD 0 0).toNat:Int)=48:=fun e=>h48 (UInt8.toNat_inj.1 (by have:(48:UInt8).toNat=48:=rfl;omega))
     rw [bne_iff_ne.2 h2,bne_iff_ne.2 (fun e=>h48 (Option.some.inj e))]
   rw [e]
   exact Ev.now _
 ·have hd':digB (dl s)=false:=by simpa using hd
  rw [hd',Bool.false_and]
  exact Ev.neg (by decide) (Ev.now _)
theorem compare_int (a b:Int):cmp_Compare_int.f a b=some (sgn a b):=by
 unfold cmp_Compare_int.f cmp_isNaN_int.f sgn
 simp only [bne_self_eq_false,Option.bind_some]
 by_cases h:a < b
 ·simp [h]
 ·by_cases h2:a > b <;> simp [h,h2]
theorem compare_string (a b:ByteArray):cmp_Compare_string.f a b=some (cmpB (dl a) (dl b)):=by
 unfold cmp_Compare_string.f cmp_isNaN_string.f cmpB
 simp only [bne_self_eq_false,Option.bind_some,toList_dl,bytesLess_eq]
 by_cases h:dl a < dl b
 ·simp [h]
 ·by_cases h2:dl a=dl b
  ·simp [h2,Num.lt_irrefl]
  ·simp [h,h2]
theorem or_two (a b:Int):Ev (fun k=>cmp_Or_int.f k [a,b]) (orI a b):=by
 have w1:wrap64 1=1:=by unfold wrap64;omega
 have w2:wrap64 2=2:=by unfold wrap64;omega
 unfold orI
 by_cases h:a=0
 ·rw [if_pos h]
  by_cases h2:b=0
  ·refine ⟨3,fun k hk=>?_⟩
   obtain ⟨k,rfl⟩ : ∃ m,k=m + 3:=⟨k - 3,by omega⟩
   simp [cmp_Or_int.f,cmp_Or_int.l0,rd,h,h2,w1,w2]
  ·refine ⟨3,fun k hk=>?_⟩
   obtain ⟨k,rfl⟩ : ∃ m,k=m + 3:=⟨k - 3,by omega⟩
   simp [cmp_Or_int.f,cmp_Or_int.l0,rd,h,h2,w1,w2]
 ·refine ⟨3,fun k hk=>?_⟩
  obtain ⟨k,rfl⟩ : ∃ m,k=m + 3:=⟨k - 3,by omega⟩
  simp [cmp_Or_int.f,cmp_Or_int.l0,rd,h,w1,w2]
theorem or_four (a b c d:Int):Ev (fun k=>cmp_Or_int.f k [a,b,c,d]) (orI a (orI b (orI c d))):=by
 have w1:wrap64 1=1:=by unfold wrap64;omega
 have w2:wrap64 2=2:=by unfold wrap64;omega
 have w3:wrap64 3=3:=by unfold wrap64;omega
 have w4:wrap64 4=4:=by unfold wrap64;omega
 unfold orI
 refine ⟨5,fun k hk=>?_⟩
 obtain ⟨k,rfl⟩ : ∃ m,k=m + 5:=⟨k - 5,by omega⟩
 by_cases h:a=0
 ·by_cases h2:b=0
  ·by_cases h3:c=0
   ·by_cases h4:d=0 <;> simp [cmp_Or_int.f,cmp_Or_int.l0,rd,h,h2,h3,h4,w1,w2,w3,w4]
   ·simp [cmp_Or_int.f,cmp_Or_int.l0,rd,h,h2,h3,w1,w2,w3,w4]
  ·simp [cmp_Or_int.f,cmp_Or_int.l0,rd,h,h2,w1,w2,w3,w4]
 ·simp [cmp_Or_int.f,cmp_Or_int.l0,rd,h,w1,w2,w3,w4]
theorem small_of (l:List UInt8):(numB l && decide ((l.length:Int) ≤ 8))=small l:=by
 unfold small
 congr 1
 by_cases h:l.length ≤ 8
 ·rw [decide_eq_true h,decide_eq_true (by omega)]
 ·rw [decide_eq_false h,decide_eq_false (by omega)]
theorem comparePart_ev (a b:ByteArray) (ha:a.size ≤ 2147483648) (hb:b.size ≤ 2147483648):Ev (fun k=>impl_comparePart.f k a b) (cpart (dl a) (dl b)):=by
 have hj : ∀ x y:Bool,x=small (dl a) → y=small (dl b) → Ev (fun k=>impl_comparePart.j0 k a b x y) (cpart (dl a) (dl b)):=by
  intro x y hx hy
  have h1 : ∀ z:Bool,z=(x && y) → Ev (fun k=>impl_comparePart.j1 k a b x y z) (cpart (dl a) (dl b)):=by
   intro z hz
   unfold cpart
   cases x with
   | true=>
    cases y with
    | true=>
     rw [if_pos hx.symm,if_pos hy.symm]
     refine Ev.step (f:=fun k=>(some (sgn (dl a).length (dl b).length)).bind fun t=>(some (cmpB (dl a) (dl b))).bind fun u=>(cmp_Or_int.f k [t,u]).bind fun v=>some v) (fun k=>?_) ?_
     ·simp only [impl_comparePart.j1]
      rw [if_pos (show z=true from hz),compare_int,compare_string,size_dl a,size_dl b]
     ·exact Ev.bind_const rfl (Ev.bind_const rfl (Ev.bind (or_two _ _) (Ev.now _)))
    | false=>
     rw [if_pos hx.symm,if_neg (by rw [← hy];decide)]
     refine Ev.step (f:=fun _=>some (-1)) (fun k=>?_) (Ev.now _)
     simp only [impl_comparePart.j1]
     rw [if_neg (by rw [hz];decide),if_pos trivial]
   | false=>
    rw [if_neg (by rw [← hx];decide)]
    cases y with
    | true=>
     rw [if_pos hy.symm]
     refine Ev.step (f:=fun _=>some 1) (fun k=>?_) (Ev.now _)
     simp only [impl_comparePart.j1]
     rw [if_neg (by rw [hz];decide),if_neg (by decide),if_pos trivial]
    | false=>
     rw [if_neg (by rw [← hy];decide)]
     refine Ev.step (f:=fun _=>(some (cmpB (dl a) (dl b))).bind fun t=>some t) (fun k=>?_) (Ev.now _)
     simp only [impl_comparePart.j1]
     rw [if_neg (by rw [hz];decide),if_neg (by decide),if_neg (by decide),compare_string]
  cases x with
  | true=>
   refine Ev.step (f:=fun k=>impl_comparePart.j1 k a b true y y) (fun k=>?_) (h1 y (by simp))
   simp only [impl_comparePart.j0]
   rw [if_pos trivial]
  | false=>
   refine Ev.step (f:=fun k=>impl_comparePart.j1 k a b false y false) (fun k=>?_) (h1 false (by simp))
   simp only [impl_comparePart.j0]
   rw [if_neg (by decide)]
 refine Ev.bind (isNumber_ev a ha) ?_
 have sa:=small_of (dl a)
 have sb:=small_of (dl b)
 rw [← size_dl] at sa sb
 cases na:numB (dl a) with
 | true=>
  rw [na,Bool.true_and] at sa
  refine Ev.pos rfl (Ev.bind (isNumber_ev b hb) ?_)
  cases nb:numB (dl b) with
  | true=>
   rw [nb,Bool.true_and] at sb
   exact Ev.pos rfl (hj _ _ sa sb)
  | false=>
   rw [nb,Bool.false_and] at sb
   exact Ev.neg (by decide) (hj _ _ sa sb)
 | false=>
  rw [na,Bool.false_and] at sa
  refine Ev.neg (by decide) (Ev.bind (isNumber_ev b hb) ?_)
  cases nb:numB (dl b) with
  | true=>
   rw [nb,Bool.true_and] at sb
   exact Ev.pos rfl (hj _ _ sa sb)
  | false=>
   rw [nb,Bool.false_and] at sb
   exact Ev.neg (by decide) (hj _ _ sa sb)
theorem size_bv (l:List UInt8):(bv l).size=l.length:=by rw [size_dl,dl_bv]
theorem rd_bv (l:List (List UInt8)) (i:Nat) (h:i < l.length):rdOf ByteArray.empty (l.map bv) (i:Int)=bv (l.getD i []):=by
 apply dl_inj
 rw [rd_map l i h,dl_bv]
theorem drop_cons {α:Type} {l:List α} {z:α} {i:Nat} (h:i < l.length):l.drop i=l.getD i z :: l.drop (i + 1):=by rw [List.drop_eq_getElem_cons h,getD_lt h]
theorem lessPre_loop (xs ys:List (List UInt8)) (hx : ∀ x ∈ xs,x.length ≤ 2147483648) (hy : ∀ y ∈ ys,y.length ≤ 2147483648) (lx:xs.length ≤ 4294967296) (d i:Nat) (hi:i + d=xs.length) :
 Ev (fun k=>spec_l3LessPre.l0 k (xs.map bv) (ys.map bv) (i:Int)) (lpre (xs.drop i) (ys.drop i)):=by
 have hend : ∀ i:Nat,(xs.length ≤ i ∨ ys.length ≤ i) → i ≤ xs.length → Ev (fun k=>spec_l3LessPre.j1 k (xs.map bv) (ys.map bv) (i:Int) false) (lpre (xs.drop i) (ys.drop i)):=by
  intro i h h'
  refine Ev.step (f:=fun _=>some (decide (((xs.map bv).length:Int) < ((ys.map bv).length:Int)))) (fun k=>?_) ?_
  ·simp only [spec_l3LessPre.j1]
   rw [if_neg (by decide)]
  ·rw [List.length_map,List.length_map]
   by_cases hl:i < xs.length
   ·rw [drop_cons (z:=[]) hl,List.drop_eq_nil_of_le (show ys.length ≤ i by omega)]
    rw [decide_eq_false (by omega)]
    exact Ev.now _
   ·rw [List.drop_eq_nil_of_le (show xs.length ≤ i by omega)]
    by_cases hl2:i < ys.length
    ·rw [drop_cons (z:=[]) hl2,decide_eq_true (by omega)]
     exact Ev.now _
    ·rw [List.drop_eq_nil_of_le (by omega),decide_eq_false (by omega)]
     exact Ev.now _
 induction d generalizing i with
 | zero=>
  refine Ev.step (f:=fun k=>spec_l3LessPre.j1 k (xs.map bv) (ys.map bv) (i:Int) false) (fun k=>?_) (hend i (.inl (by omega)) (by omega))
  simp only [spec_l3LessPre.l0]
  rw [List.length_map,if_neg (by omega)]
 | succ d ih=>
  have hw:=wrapS (i:=i) (n:=xs.length) (by omega) (by omega)
  by_cases hl2:i < ys.length
  ·refine Ev.step (f:=fun k=>spec_l3LessPre.j1 k (xs.map bv) (ys.map bv) (i:Int) true) (fun k=>?_) ?_
   ·simp only [spec_l3LessPre.l0]
    rw [List.length_map,List.length_map,if_pos (by omega),decide_eq_true (by omega)]
   ·have hlx:i < xs.length:=by omega
    rw [drop_cons (z:=[]) hlx,drop_cons (z:=[]) hl2]
    have e1:=rd_bv xs i hlx
    have e2:=rd_bv ys i hl2
    have m1:=hx _ (getD_mem (z:=[]) hlx)
    have m2:=hy _ (getD_mem (z:=[]) hl2)
    refine Ev.step (f:=fun k=>if xs.getD i []=ys.getD i [] then spec_l3LessPre.l0 k (xs.map bv) (ys.map bv) ((i + 1:Nat):Int) else (spec_l3LessPart.f k (bv (xs.getD i [])) (bv (ys.getD i []))).bind fun t=>some t) (fun k=>?_) ?_
    ·simp only [spec_l3LessPre.j1]
     rw [if_pos trivial,if_pos (by omega),List.length_map,List.length_map,if_pos (by omega),if_pos (by omega),e1,e2,toList_dl,toList_dl,dl_bv,dl_bv,hw]
    ·simp only [lpre]
     by_cases e:xs.getD i []=ys.getD i []
     ·rw [if_pos e]
      exact Ev.pos e (ih (i + 1) (by omega))
     ·rw [if_neg e]
      refine Ev.neg e (Ev.bind (l3LessPart_ev _ _ (by rw [size_bv];exact m1) (by rw [size_bv];exact m2)) ?_)
      rw [dl_bv,dl_bv]
      exact Ev.now _
  ·refine Ev.step (f:=fun k=>spec_l3LessPre.j1 k (xs.map bv) (ys.map bv) (i:Int) false) (fun k=>?_) (hend i (.inr (by omega)) (by omega))
   simp only [spec_l3LessPre.l0]
   rw [List.length_map,List.length_map,if_pos (by omega),decide_eq_false (by omega)]
theorem parts_le (s:ByteArray) (hs:s.size ≤ 2147483648):(∀ x ∈ splitL 46 (dl s),x.length ≤ 2147483648) ∧ (splitL 46 (dl s)).length ≤ 4294967296:=by
 have h:=size_dl s
 refine ⟨fun x hx=>?_,?_⟩
 ·have:=splitL_mem hx;omega
 ·have:=splitL_length 46 (dl s);omega
theorem l3LessPre_ev (a b:ByteArray) (ha:a.size ≤ 2147483648) (hb:b.size ≤ 2147483648):Ev (fun k=>spec_l3LessPre.f k a b) (lpre (splitL 46 (dl a)) (splitL 46 (dl b))):=by
 refine Ev.bind (split_spec a 46 46 rfl ha) (Ev.bind (split_spec b 46 46 rfl hb) ?_)
 have pa:=parts_le a ha
 have pb:=parts_le b hb
 have:=lessPre_loop _ _ pa.1 pb.1 pa.2 _ 0 (Nat.zero_add _)
 simpa using this
theorem comparePre_loop (xs ys:List (List UInt8)) (hx : ∀ x ∈ xs,x.length ≤ 2147483648) (hy : ∀ y ∈ ys,y.length ≤ 2147483648) (lx:xs.length ≤ 4294967296) (m:Nat) (hm:m=min xs.length ys.length) (d i:Nat) (hi:i + d=m) :
 Ev (fun k=>impl_comparePre.l0 k (xs.map bv) (ys.map bv) (m:Int) (i:Int)) (cpre (xs.drop i) (ys.drop i)):=by
 induction d generalizing i with
 | zero=>
  refine Ev.step (f:=fun _=>(some (sgn xs.length ys.length)).bind fun t=>some t) (fun k=>?_) ?_
  ·simp only [impl_comparePre.l0]
   rw [if_neg (by omega),compare_int,List.length_map,List.length_map]
  ·refine Ev.bind_const rfl ?_
   by_cases hl:i < xs.length
   ·have h2:ys.length < xs.length:=by omega
    rw [drop_cons (z:=[]) hl,List.drop_eq_nil_of_le (show ys.length ≤ i by omega)]
    have:sgn (xs.length:Int) (ys.length:Int)=1:=by unfold sgn;rw [if_neg (by omega),if_pos (by omega)]
    rw [this]
    exact Ev.now _
   ·rw [List.drop_eq_nil_of_le (show xs.length ≤ i by omega)]
    by_cases hl2:i < ys.length
    ·rw [drop_cons (z:=[]) hl2]
     have:sgn (xs.length:Int) (ys.length:Int) = -1:=by unfold sgn;rw [if_pos (by omega)]
     rw [this]
     exact Ev.now _
    ·rw [List.drop_eq_nil_of_le (by omega)]
     have:sgn (xs.length:Int) (ys.length:Int)=0:=by unfold sgn;rw [if_neg (by omega),if_neg (by omega)]
     rw [this]
     exact Ev.now _
 | succ d ih=>
  have hw:=wrapS (i:=i) (n:=xs.length) (by omega) (by omega)
  have hlx:i < xs.length:=by omega
  have hl2:i < ys.length:=by omega
  rw [drop_cons (z:=[]) hlx,drop_cons (z:=[]) hl2]
  have e1:=rd_bv xs i hlx
  have e2:=rd_bv ys i hl2
  have m1:=hx _ (getD_mem (z:=[]) hlx)
  have m2:=hy _ (getD_mem (z:=[]) hl2)
  refine Ev.step (f:=fun k=>(impl_comparePart.f k (bv (xs.getD i [])) (bv (ys.getD i []))).bind fun t=>if t=0 then impl_comparePre.l0 k (xs.map bv) (ys.map bv) (m:Int) ((i + 1:Nat):Int) else some t) (fun k=>?_) ?_
  ·simp only [impl_comparePre.l0]
   rw [if_pos (by omega),if_pos (by omega),List.length_map,List.length_map,if_pos (by omega),if_pos (by omega),e1,e2,hw]
  ·refine Ev.bind (comparePart_ev _ _ (by rw [size_bv];exact m1) (by rw [size_bv];exact m2)) ?_
   rw [dl_bv,dl_bv]
   simp only [cpre]
   by_cases e:xs.getD i []=ys.getD i []
   ·rw [if_pos e]
    exact Ev.pos ((cpart_zero _ _).2 e) (ih (i + 1) (by omega))
   ·rw [if_neg e]
    exact Ev.neg (fun h=>e ((cpart_zero _ _).1 h)) (Ev.now _)
theorem comparePre_ev (a b:ByteArray) (ha:a.size ≤ 2147483648) (hb:b.size ≤ 2147483648):Ev (fun k=>impl_comparePre.f k a b) (pre (dl a) (dl b)):=by
 unfold impl_comparePre.f pre
 simp only [toList_dl,split_impl a 46 ha,split_impl b 46 hb,Option.bind_some]
 by_cases h1:dl a=dl b
 ·simp only [if_pos h1]
  exact Ev.now _
 ·simp only [if_neg h1]
  by_cases h2:dl a=[]
  ·simp only [if_pos h2]
   exact Ev.now _
  ·simp only [if_neg h2]
   by_cases h3:dl b=[]
   ·simp only [if_pos h3]
    exact Ev.now _
   ·simp only [if_neg h3]
    have pa:=parts_le a ha
    have pb:=parts_le b hb
    have:=comparePre_loop _ _ pa.1 pb.1 pa.2 _ rfl _ 0 (Nat.zero_add _)
    have e:mn (((splitL 46 (dl a)).map bv).length:Int) (((splitL 46 (dl b)).map bv).length:Int)=((min (splitL 46 (dl a)).length (splitL 46 (dl b)).length:Nat):Int):=by
     rw [List.length_map,List.length_map]
     unfold mn
     split <;> omega
    rw [e]
    simpa using this
theorem lessI_ev (a0 a1 a2:Int) (a3:ByteArray) (b0 b1 b2:Int) (b3:ByteArray) (ha:a3.size ≤ 2147483648) (hb:b3.size ≤ 2147483648):Ev (fun k=>impl_LessVersion.f k a0 a1 a2 a3 b0 b1 b2 b3) (less a0 a1 a2 (dl a3) b0 b1 b2 (dl b3)):=by
 rw [← less_eq]
 refine Ev.bind (Ev.bind_const (compare_int _ _) (Ev.bind_const (compare_int _ _) (Ev.bind_const (compare_int _ _) (Ev.bind (comparePre_ev a3 b3 ha hb) (Ev.bind (or_four _ _ _ _) (Ev.now _)))))) (Ev.now _)
theorem lessS_ev (a0 a1 a2:Int) (a3:ByteArray) (b0 b1 b2:Int) (b3:ByteArray) (ha:a3.size ≤ 2147483648) (hb:b3.size ≤ 2147483648):Ev (fun k=>spec_LessVersion.f k a0 a1 a2 a3 b0 b1 b2 b3) (less a0 a1 a2 (dl a3) b0 b1 b2 (dl b3)):=by
 unfold spec_LessVersion.f less
 by_cases e0:a0=b0
 ·simp only [if_pos e0]
  by_cases e1:a1=b1
  ·simp only [if_pos e1]
   by_cases e2:a2=b2
   ·simp only [if_pos e2,toList_dl]
    by_cases e3:dl a3=dl b3
    ·simp only [if_pos e3]
     refine Ev.step (f:=fun _=>some false) (fun k=>?_) (Ev.now _)
     simp only [spec_LessVersion.j0]
     rw [if_pos trivial]
    ·simp only [if_neg e3]
     by_cases e4:dl a3=[]
     ·simp only [if_pos e4]
      refine Ev.step (f:=fun _=>some false) (fun k=>?_) (Ev.now _)
      simp only [spec_LessVersion.j0]
      rw [if_pos (by rw [e4];rfl)]
     ·simp only [if_neg e4]
      have e4':(dl a3 == ([]:List UInt8))=false:=beq_eq_false_iff_ne.2 e4
      rw [e4']
      by_cases e5:dl b3=[]
      ·simp only [if_pos e5]
       refine Ev.step (f:=fun _=>some true) (fun k=>?_) (Ev.now _)
       simp only [spec_LessVersion.j0]
       rw [if_neg (by decide),toList_dl,if_pos e5]
      ·simp only [if_neg e5]
       refine Ev.step (f:=fun k=>(spec_l3LessPre.f k a3 b3).bind fun t=>some t) (fun k=>?_) (Ev.bind (l3LessPre_ev a3 b3 ha hb) (Ev.now _))
       simp only [spec_LessVersion.j0]
       rw [if_neg (by decide),toList_dl,if_neg e5]
   ·simp only [if_neg e2]
    exact Ev.now _
  ·simp only [if_neg e1]
   exact Ev.now _
 ·simp only [if_neg e0]
  exact Ev.now _
end Go.Proofs.YtmkdeknpphimbaaDoor.PFnClosed
