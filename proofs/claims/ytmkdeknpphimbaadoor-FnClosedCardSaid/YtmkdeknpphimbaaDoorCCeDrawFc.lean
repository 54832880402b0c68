import Derived.Test.YtmkdeknpphimbaaDoorCCePFnClosedx0
import Derived.Test.YtmkdeknpphimbaaDoorCCePFnClosedx1
import Derived.Test.YtmkdeknpphimbaaDoorCCePFnClosedx2
import Derived.Test.YtmkdeknpphimbaaDoorCCePFnClosedx3
import Derived.Test.YtmkdeknpphimbaaDoorCCePFnClosedx4
import Derived.Test.YtmkdeknpphimbaaDoorCCePFnClosedx5
import Derived.Test.YtmkdeknpphimbaaDoorCCePFnClosedx6
import Derived.Test.YtmkdeknpphimbaaDoorCCePFnClosedx7
import Derived.Test.YtmkdeknpphimbaaDoorCCePFnClosedx8
import Derived.Test.YtmkdeknpphimbaaDoorCCePFnClosedx9
import Derived.Test.YtmkdeknpphimbaaDoorCCePFnClosedx10
import Derived.Test.YtmkdeknpphimbaaDoorCCePFnClosedx11
import Derived.Test.YtmkdeknpphimbaaDoorCCePFnClosedx12
import Derived.Test.YtmkdeknpphimbaaDoorCCePFnClosedx13
import Derived.Test.YtmkdeknpphimbaaDoorCCePFnClosedx14
import Derived.Test.YtmkdeknpphimbaaDoorCCePFnClosedx15
import Derived.Test.YtmkdeknpphimbaaDoorCCePFnClosedx16
import Derived.Test.YtmkdeknpphimbaaDoorCCePFnClosedx17
import Derived.Test.YtmkdeknpphimbaaDoorCCePFnClosedx18
import Derived.Test.YtmkdeknpphimbaaDoorCCePFnClosedx19
import Derived.Test.YtmkdeknpphimbaaDoorCCePFnClosedx20
import Derived.Test.YtmkdeknpphimbaaDoorCCeNum
namespace Go.Proofs.YtmkdeknpphimbaaDoor.PFnClosed
open Go Go.RowKit Go.Proofs.YtmkdeknpphimbaaDoorW.PrintWords Go.Proofs.YtmkdeknpphimbaaDoorW.PrintLast Go.Proofs.YtmkdeknpphimbaaDoorW.PrintMore Go.Proofs.YtmkdeknpphimbaaDoor.Ev Go.Proofs.YtmkdeknpphimbaaDoor.Str
set_option linter.unusedVariables false
set_option linter.unusedSimpArgs false
def EvP {α:Type} (g:Nat → Option α) (P:α → Prop):Prop:=∃ r,Ev g r ∧ P r
theorem EvP.now {α:Type} {r:α} {P:α → Prop} (h:P r):EvP (fun _=>some r) P:=⟨r,Ev.now r,h⟩
theorem EvP.of {α:Type} {g:Nat → Option α} {r:α} {P:α → Prop} (e:Ev g r) (h:P r):EvP g P:=⟨r,e,h⟩
theorem EvP.mono {α:Type} {g:Nat → Option α} {P Q:α → Prop} (h:EvP g P) (k : ∀ r,P r → Q r):EvP g Q:=by
 obtain ⟨r,e,p⟩:=h
 exact ⟨r,e,k r p⟩
theorem EvP.bind {α β:Type} {g:Nat → Option α} {f:Nat → α → Option β} {P:α → Prop} {Q:β → Prop} (h:EvP g P) (k : ∀ a,P a → EvP (fun n=>f n a) Q):EvP (fun n=>(g n).bind (f n)) Q:=by
 obtain ⟨a,e,p⟩:=h
 obtain ⟨b,e2,q⟩:=k a p
 exact ⟨b,Ev.bind e e2,q⟩
theorem EvP.pos {α:Type} {c:Prop} [Decidable c] {g f:Nat → Option α} {P:α → Prop} (h:c) (k:EvP g P):EvP (fun n=>if c then g n else f n) P:=by
 obtain ⟨r,e,p⟩:=k
 exact ⟨r,Ev.pos h e,p⟩
theorem EvP.neg {α:Type} {c:Prop} [Decidable c] {g f:Nat → Option α} {P:α → Prop} (h : ¬ c) (k:EvP f P):EvP (fun n=>if c then g n else f n) P:=by
 obtain ⟨r,e,p⟩:=k
 exact ⟨r,Ev.neg h e,p⟩
theorem EvP.ite {α:Type} {c:Prop} [Decidable c] {g f:Nat → Option α} {P:α → Prop} (k:c → EvP g P) (l : ¬ c → EvP f P):EvP (fun n=>if c then g n else f n) P:=by
 by_cases h:c
 ·exact EvP.pos h (k h)
 ·exact EvP.neg h (l h)
theorem EvP.step {α:Type} {g f:Nat → Option α} {P:α → Prop} (h : ∀ k,g (k + 1)=f k) (k:EvP f P):EvP g P:=by
 obtain ⟨r,e,p⟩:=k
 exact ⟨r,Ev.step h e,p⟩
theorem and_le (a:Int) (m:Nat) (hm:m < 2147483648):0 ≤ Go.bits .and .i64 a (m:Int) ∧ Go.bits .and .i64 a (m:Int) ≤ m:=by
 have e:Go.bits .and .i64 a (m:Int)=IntKind.i64.wrap (((BitVec.ofInt 64 a) &&& (BitVec.ofInt 64 (m:Int))).toNat:Int):=rfl
 have h:((BitVec.ofInt 64 a) &&& (BitVec.ofInt 64 (m:Int))).toNat ≤ m:=by
  rw [BitVec.toNat_and]
  refine Nat.le_trans Nat.and_le_right ?_
  rw [BitVec.ofInt_natCast,BitVec.toNat_ofNat]
  exact Nat.mod_le _ _
 rw [e,IntKind.wrap_i64]
 omega
def Cur (b:List Int) (i:Int):Prop:=0 ≤ i ∧ b.length ≤ 140737488355328
theorem l1Byte_p (b:List Int) (i h:Int) (c:Cur b i):EvP (fun _=>spec_l1Byte.f b i h) (fun r=>(0 ≤ r.1 ∧ r.1 ≤ 255) ∧ Cur b r.2.1):=by
 unfold spec_l1Byte.f
 refine EvP.ite (fun h1=>EvP.pos c.1 (EvP.now ⟨and_le _ 255 (by decide),?_,c.2⟩)) (fun _=>EvP.now ⟨and_le _ 255 (by decide),c⟩)
 have:=c.1
 have:=c.2
 show 0 ≤ wrap64 (i + 1)
 rw [wrapI (by omega) (by omega)]
 omega
theorem l1Below_p (b:List Int) (i h n:Int) (c:Cur b i):EvP (fun _=>spec_l1Below.f b i h n) (fun r=>(0 ≤ r.1 ∧ (n ≤ 0 → r.1=0) ∧ (0 < n → r.1 < n)) ∧ Cur b r.2.1):=by
 unfold spec_l1Below.f
 refine EvP.ite (fun h1=>EvP.now ⟨⟨Int.le_refl _,fun _=>rfl,fun h2=>by omega⟩,c⟩) (fun h1=>EvP.ite (fun h2=>?_) (fun h2=>?_))
 ·refine EvP.bind (l1Byte_p b i h c) (fun a ha=>EvP.neg (by omega) (EvP.now ⟨⟨?_,fun h3=>by omega,fun _=>?_⟩,ha.2⟩))
  ·rw [Int.tmod_eq_emod_of_nonneg ha.1.1];exact Int.emod_nonneg _ (by omega)
  ·rw [Int.tmod_eq_emod_of_nonneg ha.1.1];exact Int.emod_lt_of_pos _ (by omega)
 ·refine EvP.bind (l1Byte_p b i h c) (fun x hx=>EvP.bind (l1Byte_p b _ _ hx.2) (fun y hy=>EvP.bind (l1Byte_p b _ _ hy.2) (fun z hz=>EvP.neg (by omega) (EvP.now ⟨⟨?_,fun h3=>by omega,fun _=>?_⟩,hz.2⟩))))
  all_goals
   have:=hx.1
   have:=hy.1
   have:=hz.1
   rw [wrapI (i:=x.1 * 65536) (by omega) (by omega),wrapI (i:=y.1 * 256) (by omega) (by omega),wrapI (i:=x.1 * 65536 + y.1 * 256) (by omega) (by omega),wrapI (by omega) (by omega),Int.tmod_eq_emod_of_nonneg (by omega)]
  ·exact Int.emod_nonneg _ (by omega)
  ·exact Int.emod_lt_of_pos _ (by omega)
theorem l1Once_p (b:List Int) (i h n:Int) (c:Cur b i):EvP (fun _=>spec_l1Once.f b i h n) (fun r=>Cur b r.2.1):=by
 unfold spec_l1Once.f
 exact EvP.bind (l1Below_p b i h n c) (fun a ha=>EvP.now ha.2)
theorem l1Str_p (b:List Int) (i h:Int) (l:List ByteArray) (hl:0 < l.length) (c:Cur b i):EvP (fun _=>spec_l1Str.f b i h l) (fun r=>r.1 ∈ l ∧ Cur b r.2.1):=by
 unfold spec_l1Str.f
 refine EvP.bind (l1Below_p b i h _ c) (fun a ha=>EvP.pos ha.1.1 (EvP.pos (ha.1.2.2 (by omega)) (EvP.now ⟨?_,ha.2⟩)))
 have:=ha.1.2.2 (by omega)
 have:=ha.1.1
 exact getD_mem (z:=ByteArray.empty) (show a.1.toNat < l.length by omega)
theorem l1Int_p (b:List Int) (i h:Int) (l:List Int) (hl:0 < l.length) (c:Cur b i):EvP (fun _=>spec_l1Int.f b i h l) (fun r=>r.1 ∈ l ∧ Cur b r.2.1):=by
 unfold spec_l1Int.f
 refine EvP.bind (l1Below_p b i h _ c) (fun a ha=>EvP.pos ha.1.1 (EvP.pos (ha.1.2.2 (by omega)) (EvP.now ⟨?_,ha.2⟩)))
 have:=ha.1.2.2 (by omega)
 have:=ha.1.1
 exact getD_mem (z:=0) (show a.1.toNat < l.length by omega)
theorem l1New_p (b:List Int) (hb:b.length ≤ 140737488355328):EvP (fun k=>spec_l1New.f k b) (fun r=>r.1=b ∧ Cur b r.2.1):=by
 have key : ∀ (d i:Nat) (h:Int),i + d=b.length → EvP (fun k=>spec_l1New.l0 k b h (i:Int)) (fun r=>r.1=b ∧ Cur b r.2.1):=by
  intro d
  induction d with
  | zero=>
   intro i h hi
   refine EvP.step (f:=fun _=>some (b,0,h)) (fun k=>?_) (EvP.now ⟨rfl,Int.le_refl _,hb⟩)
   simp only [spec_l1New.l0]
   rw [if_neg (by omega)]
  | succ d ih=>
   intro i h hi
   have hw:wrap64 ((i:Int) + 1)=((i + 1:Nat):Int):=wrapS (n:=b.length) (by omega) (by omega)
   by_cases h4:(i:Int) < 4000
   ·refine EvP.step (f:=fun k=>spec_l1New.l0 k b (Go.bits .and .i64 (wrap64 ((wrap64 ((wrap64 (h * 137)) + (wrap64 (rd b i)))) + 11)) 1073741823) ((i + 1:Nat):Int)) (fun k=>?_) (ih (i + 1) _ (by omega))
    simp only [spec_l1New.l0]
    rw [if_pos (by omega),if_pos h4,if_pos (by omega),hw]
   ·refine EvP.step (f:=fun _=>some (b,0,h)) (fun k=>?_) (EvP.now ⟨rfl,Int.le_refl _,hb⟩)
    simp only [spec_l1New.l0]
    rw [if_pos (by omega),if_neg h4]
 exact key b.length 0 _ (Nat.zero_add _)
end Go.Proofs.YtmkdeknpphimbaaDoor.PFnClosed
