import Derived.Test.YtmkdeknpphimbaaDoorCCeRootsFc
namespace Go.Proofs.YtmkdeknpphimbaaDoor.PFnClosed
open Go Go.RowKit Go.Proofs.YtmkdeknpphimbaaDoorW.PrintWords Go.Proofs.YtmkdeknpphimbaaDoorW.PrintLast Go.Proofs.YtmkdeknpphimbaaDoorW.PrintMore Go.Proofs.YtmkdeknpphimbaaDoor.Ev Go.Proofs.YtmkdeknpphimbaaDoor.Str Go.Proofs.YtmkdeknpphimbaaDoor.Num
set_option linter.unusedVariables false
set_option linter.unusedSimpArgs false
theorem copy_ev (e:EntT) (h:e.f2.length ≤ 1000000):impl_copyEntry.f e.f0 e.f1.f0 e.f1.f1 e.f1.f2 e.f1.f3 e.f2=some (e.f0,e.f1.f0,e.f1.f1,e.f1.f2,e.f1.f3,e.f2):=by
 simp only [impl_copyEntry.f,impl_Need.f,Option.bind_some,List.nil_append,List.length_nil]
 rw [if_pos (by omega)]
 rfl
theorem law_ev (b:List Int) (hb:b.length ≤ 140737488351232):Ev (fun k=>laws_FnClosed.f k b) true:=by
 unfold laws_FnClosed.f
 refine Ev.bind_const (show laws_big.f b=some (decide ((b.length:Int) > 1048576)) from rfl) ?_
 by_cases hbig:(b.length:Int) > 1048576
 ·rw [decide_eq_true hbig]
  exact Ev.pos rfl (Ev.now _)
 rw [decide_eq_false hbig]
 refine Ev.neg (by decide) ?_
 obtain ⟨⟨xs,l⟩,hdr,hx,hl⟩:=DrawClosed_p b (by omega)
 dsimp only at hx hl
 have hxs:=hx.short (by decide)
 have hls:=hl.short (by decide)
 have hxl:=hx.2
 have hll:=hl.2
 refine Ev.bind hdr (Ev.bind (closedI xs l hxs hls) (Ev.bind (closedS xs l hxs hls) (Ev.neg (by simp) ?_)))
 have key : ∀ (d i:Nat) (all:Bool),i + d=l.length → Ev (fun k=>laws_FnClosed.l0 k xs l (closB xs l) all (i:Int)) (closB xs l == (all && (l.drop i).all fun n=>clB xs l n)):=by
  intro d
  induction d with
  | zero=>
   intro i all hi
   refine Ev.step (f:=fun _=>some (closB xs l == all)) (fun k=>?_) ?_
   ·simp only [laws_FnClosed.l0]
    rw [if_neg (by omega)]
   ·rw [List.drop_eq_nil_of_le (show l.length ≤ i by omega),List.all_nil,Bool.and_true]
    exact Ev.now _
  | succ d ih=>
   intro i all hi
   have hlx:i < l.length:=by omega
   have hw:=wrapS hlx (by omega)
   rw [drop_cons (z:=z36) hlx,List.all_cons]
   generalize hn:l.getD i z36=n
   refine Ev.step (f:=fun k=>(impl_FindEntry.f k xs n.f0 n.f1.f0 n.f1.f1 n.f1.f2 n.f1.f3).bind fun t=>if all=true then (if t.2.2.2.2.2.2=true then (impl_Covers.f k l t.2.2.2.2.2.1).bind fun u=>laws_FnClosed.l0 k xs l (closB xs l) u ((i + 1:Nat):Int) else laws_FnClosed.l0 k xs l (closB xs l) false ((i + 1:Nat):Int)) else laws_FnClosed.l0 k xs l (closB xs l) false ((i + 1:Nat):Int)) (fun k=>?_) ?_
   ·simp only [laws_FnClosed.l0]
    rw [if_pos (by omega),if_pos (by omega),rdT,hw,hn]
   ·have hf1:feN xs n < 0 → Ev (fun k=>impl_FindEntry.f k xs n.f0 n.f1.f0 n.f1.f1 n.f1.f2 n.f1.f3) ((⟨#[]⟩:ByteArray),0,0,0,(⟨#[]⟩:ByteArray),[],false):=
     fun h=>Ev.bind (findEntry xs n.f0 n.f1.f0 n.f1.f1 n.f1.f2 n.f1.f3 (by omega)) (Ev.pos h (Ev.now _))
    have hf2 : ∀ j:Nat,j < xs.length → feN xs n=(j:Int) → Ev (fun k=>impl_FindEntry.f k xs n.f0 n.f1.f0 n.f1.f1 n.f1.f2 n.f1.f3) ((xs.getD j z47).f0,(xs.getD j z47).f1.f0,(xs.getD j z47).f1.f1,(xs.getD j z47).f1.f2,(xs.getD j z47).f1.f3,(xs.getD j z47).f2,true):=by
     intro j hj e
     have e':fe xs n.f0 n.f1.f0 n.f1.f1 n.f1.f2 n.f1.f3=(j:Int):=e
     have hm:=hx.1 _ (getD_mem (z:=z47) hj)
     refine Ev.bind (findEntry xs n.f0 n.f1.f0 n.f1.f1 n.f1.f2 n.f1.f3 (by omega)) ?_
     rw [e']
     refine Ev.neg (by omega) (Ev.pos (by omega) (Ev.pos (by omega) ?_))
     rw [rdE]
     exact Ev.bind_const (copy_ev _ (by have:=hm.2.2;omega)) (Ev.now _)
    rw [show clB xs l n=(if feN xs n < 0 then false else covB l (xs.getD (feN xs n).toNat z47).f2) from rfl]
    by_cases h:feN xs n < 0
    ·refine Ev.bind (hf1 h) ?_
     rw [if_pos h,Bool.false_and,Bool.and_false]
     have hi2:=ih (i + 1) false (by omega)
     rw [Bool.false_and] at hi2
     cases all with
     | false=>exact Ev.neg (by decide) hi2
     | true=>exact Ev.pos rfl (Ev.neg (by decide) hi2)
    ·obtain ⟨j,hj,e⟩:=fe_range xs n h
     refine Ev.bind (hf2 j hj e) ?_
     rw [if_neg h,e,Int.toNat_natCast]
     cases all with
     | false=>
      have hi2:=ih (i + 1) false (by omega)
      rw [Bool.false_and] at hi2 ⊢
      exact Ev.neg (by decide) hi2
     | true=>
      refine Ev.pos rfl (Ev.pos rfl (Ev.bind (coversI l _ hls (hxs.1 _ (getD_mem hj))) ?_))
      generalize covB l (xs.getD j z47).f2=u
      rw [Bool.true_and]
      exact ih (i + 1) u (by omega)
 have hrun:=key l.length 0 true (Nat.zero_add _)
 have e:(closB xs l == (true && (l.drop 0).all fun n=>clB xs l n))=true:=by simp [closB]
 rw [e] at hrun
 exact hrun
theorem law (l0:List Int) (A0:Option Addr) (c0:Nat) (w:World) (hr0:Kd.C (Kd.int .u8) w A0 l0.length l0) (hc0:l0.length ≤ c0) (h0:(∀ a ∈ l0,(Lit.int .u8 a).wf=true) ∧ l0.length * 1 ≤ 140737488351232) :
 Calls Tryd.prog 6 #[.slice A0 l0.length c0] w fun e w'=>e = .returned (.bool true) ∧ Below w.heap.size w w':=by
 obtain ⟨k,h⟩:=(law_ev l0 (by omega)).rounds
 exact laws_FnClosed.calls k A0 c0 l0 true w hr0 hc0 h
end Go.Proofs.YtmkdeknpphimbaaDoor.PFnClosed
