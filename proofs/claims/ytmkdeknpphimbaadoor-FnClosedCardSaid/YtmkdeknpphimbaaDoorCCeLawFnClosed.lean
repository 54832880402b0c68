/- FnClosed: for every input the law returns true,and each argument reads afterwards as it read before. No condition. -/
import Derived.Test.YtmkdeknpphimbaaDoorRows
import Derived.Test.YtmkdeknpphimbaaDoorCCeFnClosed
import Derived.Test.YtmkdeknpphimbaaDoorCCeOpen
import Derived.WalkKit
import Derived.ProofKit
import Derived.OpenShut
import Derived.ShutString
import Derived.ChangeOld
import Derived.Below
import Derived.SizedLaws
import Derived.Test.YtmkdeknpphimbaaDoorTie
import Derived.Test.YtmkdeknpphimbaaDoorCards
import Derived.Lay
import Derived.LaidMore
import Derived.SevenTiedAt
import Derived.Stop.Joined
namespace Go.Proofs.YtmkdeknpphimbaaDoor.fnClosed
open Go.ChangeShapes Go.WideShapes Go.ChangeAt Go.RowKit
open Go.ChangeMaps (open_string shut_string)
open Go.Proofs.YtmkdeknpphimbaaDoorW.PrintWords Go.Proofs.YtmkdeknpphimbaaDoor.Open Go.Proofs.YtmkdeknpphimbaaDoor.PFnClosed
set_option linter.unusedVariables false
theorem op_byte:Opens Tryd.prog 5 (Kd.int .u8) (fun n=>(Lit.int .u8 n).wf=true):=opens_int Tryd.underlying5 (by kernel_rfl)
theorem op_bytes:Opens Tryd.prog 28 (Kd.slice 5 (Kd.int .u8)) (fun l=>(∀ a ∈ l,(Lit.int .u8 a).wf=true) ∧ l.length * 1 ≤ 140737488351232):=opens_slice (B:=1) Tryd.underlying28 (by kernel_rfl) (by kernel_rfl) op_byte
theorem own:ownKnob Tryd.prog.godebug=none:=by kernel_rfl
theorem laidOut:laidOutB Tryd.prog=true:=by kernel_rfl
set_option maxRecDepth 100000 in
theorem lifted (os:Os) (started:os.Started) (H:Type) (enc:TypeId × Value → H) :
 ReturnsInHanded {} Tryd.checked os 6 .any (fun w args=>(Rows.fnClosedSpec.pre enc Tryd.prog Tryd.f6 Rows.fnClosedRow.domain false w args ∧ laidMetH Tryd.prog Rows.fnClosedRow.laid w) ∧ sizedMet enc Tryd.prog Tryd.f6 (OpenSpec.ofChange Rows.fnClosedSpec) false w args) (Rows.fnClosedSpec.post enc Tryd.prog Tryd.f6 false true false false):=by
 refine returnsInHanded_of_change_and (C:=Tryd.checked) (X:=fun w _=>laidMetH Tryd.prog Rows.fnClosedRow.laid w) (fun _ _ _ hh h=>h.of_heap hh) own started (by kernel_rfl) Tryd.func6
  (ChangeSpec.witness_shaped (enc:=enc) (C:=Tryd.checked) (os:=os) (X:=fun w _=>laidMetH Tryd.prog Rows.fnClosedRow.laid w) false (World.laidAll Tryd.prog os Rows.fnClosedRow.laid) #[.slice none 0 0] 8 (World.laidAll_os _ _ _)
   (World.shaped_of_ZipB (by kernel_rfl) (by kernel_rfl)) (by kernel_rfl) (by kernel_rfl) (by kernel_rfl)
   (by rw [MakeChecks.laidMetH_plain _ _ _ (by kernel_rfl)];exact laidMet_laidAll _ (by kernel_rfl) (by kernel_rfl))) ?_
 intro W base args ds gs before hval0 hW hcnd hsz0 _ _
 have hsz:(DataW.weightsEach Tryd.prog (Tryd.f6.params.toList ++ Rows.fnClosedSpec.plain.varTypes Tryd.prog) (ds ++ gs)).all (· ≤ reachBytes)=true:=hsz0
 have hval : ∀ (j:Nat) t v,Tryd.f6.params[j]? = some t → args[j]? = some v → Value.okWide Tryd.prog W .any base t v:=hval0
 have hW':=hW
 obtain ⟨p,q,hA0,hV,rfl,hfz,hnd⟩:=hW
 have hA:DataW.TrodAll enc Tryd.prog W 0 (fun _=>true) true Tryd.f6.params.toList args.toList ds p:=hA0
 rw [Tryd.params6] at hA hval hsz
 obtain ⟨v0,vs0,d0,ds0,p0,q0,hargs,rfl,rfl,h0,r0⟩:=trodAll_cons hA
 obtain ⟨rfl,rfl,rfl⟩:=trodAll_nil r0
 obtain rfl:args=#[v0]:=by cases args;simp_all
 obtain ⟨rfl,rfl⟩:=trodVars_none hV
 have k0:=h0
 have lt0 : ∀ x ∈ p0,x.block < W.heap.size:=by obtain ⟨m,hm⟩:=k0;exact DataW.trod_lt m _ _ _ hm
 obtain ⟨fuel0,hf0⟩:=h0
 obtain ⟨a0,ln0,cp0,rfl⟩:=okWide_slice Tryd.underlying28 (hval 0 28 v0 rfl rfl)
 obtain ⟨l0,hK0,b0⟩:=op_bytes.op hf0 (fun n hn=>by have:=List.all_eq_true.1 hsz n (DataW.weights_mem_each (j:=0) rfl rfl n hn);simpa using this)
 obtain ⟨A0,c0,e0,m0,g0⟩:=hK0
 obtain ⟨rfl,rfl,rfl⟩:a0=A0 ∧ ln0=l0.length ∧ cp0=c0:=by simpa [Value.cells] using e0
 clear hA0 hval0 hsz0 hsz
 refine (law l0 a0 cp0 W g0 m0 b0).mono fun e W' ⟨he,bel⟩=>?_
 subst he
 exact ⟨_,rfl,_,_,_,[],_,[],hW',trodAll_mk1 (shut_bool Tryd.underlying4 _),trodAll_cons_mk (Below.trod laidOut (by kernel_rfl) (of_decide_eq_true (by kernel_rfl)) k0 bel lt0) trodAll_mk0,rfl,bel.frame _,fun h=>by cases h⟩
theorem over:Rows.fnClosedRow.holds Tryd.pinned (OpenSpec.ofChange Rows.fnClosedSpec):=
 OpenClaim.holds_of_wide 6 Tryd.f6 rfl rfl rfl rfl rfl rfl rfl ⟨rfl,rfl,rfl,rfl,rfl⟩ rfl rfl rfl rfl rfl (by kernel_rfl) Tryd.func6 (by kernel_rfl)
  (of_decide_eq_true (by kernel_rfl)) (by unfold Func.isWrapper;first | (rw [if_pos (by decide +kernel)];kernel_rfl) | (rw [if_neg (by decide +kernel)];exact ⟨rfl,rfl⟩))
  (fun os started H enc _=>lifted os started H enc)
theorem proved:Rows.FnClosedCardSaid:=
 Claim7.holds_tied_plain_at .later [] [.data,.pinned] true (true, "e63ef1fe62f380642631eff40ef3755d5e0aeddd4824b746ddea324e835e51f5") false over (fun _ h=>by cases h) (by kernel_rfl) (fun _ h=>by cases h) fnClosed_row_tie rfl ⟨rfl,rfl⟩ (by kernel_rfl) rfl
  (fun f fn hf hfn=>by
   obtain rfl:f=6:=Option.some.inj ((show Tryd.prog.funcNamed Tryd.f6.name=some 6 by kernel_rfl).symm.trans hf) |>.symm
   obtain rfl:fn=Tryd.f6:=(Option.some.inj (Tryd.func6.symm.trans hfn)).symm
   exact ⟨by kernel_rfl,fun j t ht=>by
    rw [Tryd.params6] at ht
    have hm:t ∈ [28]:=by simpa using Array.mem_of_getElem? ht
    have hall:([28].all fun u=>!Tryd.prog.wantsStandIn u)=true:=by kernel_rfl
    exact (show Tryd.prog.wantsStandIn t=false by simpa using List.all_eq_true.1 hall t hm)⟩)
  (by kernel_rfl)
#print axioms proved
end Go.Proofs.YtmkdeknpphimbaaDoor.fnClosed
namespace Go.Proofs.YtmkdeknpphimbaaDoor
/-- The card,under a short name,for the claim. -/
theorem fnClosed_holds:Rows.FnClosedCardSaid:=fnClosed.proved
end Go.Proofs.YtmkdeknpphimbaaDoor
