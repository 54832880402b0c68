/- FnExactClientOk: for every input the law returns true,and each argument reads afterwards as it read before. No condition. -/
import Derived.Test.YtfpdikledfhcaaaGreatDoorRows
import Derived.Test.YtfpdikledfhcaaaGreatDoorCCaFnExactClientOk
import Derived.Test.YtfpdikledfhcaaaGreatDoorCCaOpen
import Derived.WalkKit
import Derived.ProofKit
import Derived.OpenShut
import Derived.ShutString
import Derived.ChangeOld
import Derived.Below
import Derived.SizedLaws
import Derived.Test.YtfpdikledfhcaaaGreatDoorTie
import Derived.Test.YtfpdikledfhcaaaGreatDoorCards
import Derived.Lay
import Derived.LaidMore
import Derived.SevenTiedAt
import Derived.Stop.Joined
namespace Go.Proofs.YtfpdikledfhcaaaGreatDoor.fnExactClientOk
open Go.ChangeShapes Go.WideShapes Go.ChangeAt Go.RowKit
open Go.ChangeMaps (open_string shut_string)
open Go.Proofs.YtfpdikledfhcaaaGreatDoorW.PrintWords Go.Proofs.YtfpdikledfhcaaaGreatDoor.Open Go.Proofs.YtfpdikledfhcaaaGreatDoor.PFnExactClientOk
set_option linter.unusedVariables false
theorem op_int:Opens Tryz.prog 3 (Kd.int .i64) (fun n=>(Lit.int .i64 n).wf=true):=opens_int Tryz.underlying3 (by kernel_rfl)
theorem op_string:Opens Tryz.prog 9 Kd.string (fun s=>s.size ≤ 140737488351232):=opens_string Tryz.underlying9 (by kernel_rfl)
theorem op_HeadF:Opens Tryz.prog 23 (Kd.iso (Kd.pair (Kd.int .i64) Kd.string) (fun x=>x)) (fun p=>((Lit.int .i64 p.1).wf=true) ∧ (p.2.size ≤ 140737488351232)):=by
 refine opens_struct (g:=fun p:(Int) × (ByteArray)=>((Lit.int .i64 p.1).wf=true) ∧ (p.2.size ≤ 140737488351232)) (fun p=>p) (fun _=>rfl) Tryz.underlying23 (by kernel_rfl) ?_
 show OpensFs _ [_,_] _ _ _
 refine (opensFs_cons op_int ?_ ?_ (opensFs_one op_string ?_ ?_)) <;> rfl
theorem op_Version:Opens Tryz.prog 89 k89 gdVersion:=by
 refine opens_struct (g:=fun p:(Int) × (Int) × (Int) × (ByteArray)=>gdVersion ⟨p.1,p.2.1,p.2.2.1,p.2.2.2⟩) (fun p=>⟨p.1,p.2.1,p.2.2.1,p.2.2.2⟩) (fun _=>rfl) Tryz.underlying89 (by kernel_rfl) ?_
 show OpensFs _ [_,_,_,_] _ _ _
 refine (opensFs_cons op_int ?_ ?_ (opensFs_cons op_int ?_ ?_ (opensFs_cons op_int ?_ ?_ (opensFs_one op_string ?_ ?_)))) <;> rfl
theorem op_Need:Opens Tryz.prog 91 k91 gdNeed:=by
 refine opens_struct (g:=fun p:(ByteArray) × (S89)=>gdNeed ⟨p.1,p.2⟩) (fun p=>⟨p.1,p.2⟩) (fun _=>rfl) Tryz.underlying91 (by kernel_rfl) ?_
 show OpensFs _ [_,_] _ _ _
 refine (opensFs_cons op_string ?_ ?_ (opensFs_one op_Version ?_ ?_)) <;> rfl
theorem op_Needs:Opens Tryz.prog 24 (Kd.slice 91 k91) (fun l=>(∀ a ∈ l,gdNeed a) ∧ l.length * 56 ≤ 140737488351232):=opens_slice (B:=56) Tryz.underlying24 (by kernel_rfl) (by kernel_rfl) op_Need
theorem op_Entry:Opens Tryz.prog 126 k126 gdEntry:=by
 refine opens_struct (g:=fun p:(ByteArray) × (S89) × (List S91)=>gdEntry ⟨p.1,p.2.1,p.2.2⟩) (fun p=>⟨p.1,p.2.1,p.2.2⟩) (fun _=>rfl) Tryz.underlying126 (by kernel_rfl) ?_
 show OpensFs _ [_,_,_] _ _ _
 refine (opensFs_cons op_string ?_ ?_ (opensFs_cons op_Version ?_ ?_ (opensFs_one op_Needs ?_ ?_))) <;> rfl
theorem op_Entrys:Opens Tryz.prog 34 (Kd.slice 126 k126) (fun l=>(∀ a ∈ l,gdEntry a) ∧ l.length * 80 ≤ 140737488351232):=opens_slice (B:=80) Tryz.underlying34 (by kernel_rfl) (by kernel_rfl) op_Entry
theorem op_ClientF:Opens Tryz.prog 36 (Kd.iso (Kd.pair (Kd.iso (Kd.pair (Kd.int .i64) Kd.string) (fun x=>x)) (Kd.pair (Kd.slice 91 k91) (Kd.slice 126 k126))) (fun x=>x)) (fun p=>(((Lit.int .i64 p.1.1).wf=true) ∧ (p.1.2.size ≤ 140737488351232)) ∧ ((∀ a ∈ p.2.1,gdNeed a) ∧ p.2.1.length * 56 ≤ 140737488351232) ∧ ((∀ a ∈ p.2.2,gdEntry a) ∧ p.2.2.length * 80 ≤ 140737488351232)):=by
 refine opens_struct (g:=fun p:((Int) × (ByteArray)) × (List S91) × (List S126)=>(((Lit.int .i64 p.1.1).wf=true) ∧ (p.1.2.size ≤ 140737488351232)) ∧ ((∀ a ∈ p.2.1,gdNeed a) ∧ p.2.1.length * 56 ≤ 140737488351232) ∧ ((∀ a ∈ p.2.2,gdEntry a) ∧ p.2.2.length * 80 ≤ 140737488351232)) (fun p=>p) (fun _=>rfl) Tryz.underlying36 (by kernel_rfl) ?_
 show OpensFs _ [_,_,_] _ _ _
 refine (opensFs_cons op_HeadF ?_ ?_ (opensFs_cons op_Needs ?_ ?_ (opensFs_one op_Entrys ?_ ?_))) <;> rfl
theorem own:ownKnob Tryz.prog.godebug=none:=by kernel_rfl
theorem laidOut:laidOutB Tryz.prog=true:=by kernel_rfl
set_option maxRecDepth 100000 in
theorem lifted (os:Os) (started:os.Started) (H:Type) (enc:TypeId × Value → H) :
 ReturnsInHanded {} Tryz.checked os 4 .any (fun w args=>(Rows.fnExactClientOkSpec.pre enc Tryz.prog Tryz.f4 Rows.fnExactClientOkRow.domain false w args ∧ laidMetH Tryz.prog Rows.fnExactClientOkRow.laid w) ∧ sizedMet enc Tryz.prog Tryz.f4 (OpenSpec.ofChange Rows.fnExactClientOkSpec) false w args) (Rows.fnExactClientOkSpec.post enc Tryz.prog Tryz.f4 false true false false):=by
 refine returnsInHanded_of_change_and (C:=Tryz.checked) (X:=fun w _=>laidMetH Tryz.prog Rows.fnExactClientOkRow.laid w) (fun _ _ _ hh h=>h.of_heap hh) own started (by kernel_rfl) Tryz.func4
  (ChangeSpec.witness_shaped (enc:=enc) (C:=Tryz.checked) (os:=os) (X:=fun w _=>laidMetH Tryz.prog Rows.fnExactClientOkRow.laid w) false (World.laidAll Tryz.prog os Rows.fnExactClientOkRow.laid) #[.agg #[.int .i64 0,.string ⟨#[]⟩,.slice none 0 0,.slice none 0 0]] 8 (World.laidAll_os _ _ _)
   (World.shaped_of_ZipB (by kernel_rfl) (by kernel_rfl)) (by kernel_rfl) (by kernel_rfl) (by kernel_rfl)
   (by rw [MakeChecks.laidMetH_plain _ _ _ (by kernel_rfl)];exact laidMet_laidAll _ (by kernel_rfl) (by kernel_rfl))) ?_
 intro W base args ds gs before hval0 hW hcnd hsz0 _ _
 have hsz:(DataW.weightsEach Tryz.prog (Tryz.f4.params.toList ++ Rows.fnExactClientOkSpec.plain.varTypes Tryz.prog) (ds ++ gs)).all (· ≤ reachBytes)=true:=hsz0
 have hval : ∀ (j:Nat) t v,Tryz.f4.params[j]? = some t → args[j]? = some v → Value.okWide Tryz.prog W .any base t v:=hval0
 have hW':=hW
 obtain ⟨p,q,hA0,hV,rfl,hfz,hnd⟩:=hW
 have hA:DataW.TrodAll enc Tryz.prog W 0 (fun _=>true) true Tryz.f4.params.toList args.toList ds p:=hA0
 rw [Tryz.params4] at hA hval hsz
 obtain ⟨v0,vs0,d0,ds0,p0,q0,hargs,rfl,rfl,h0,r0⟩:=trodAll_cons hA
 obtain ⟨rfl,rfl,rfl⟩:=trodAll_nil r0
 obtain rfl:args=#[v0]:=by cases args;simp_all
 obtain ⟨rfl,rfl⟩:=trodVars_none hV
 have k0:=h0
 have lt0 : ∀ x ∈ p0,x.block < W.heap.size:=by obtain ⟨m,hm⟩:=k0;exact DataW.trod_lt m _ _ _ hm
 obtain ⟨fuel0,hf0⟩:=h0
 obtain ⟨cs0,rfl,hcs0⟩:=okWide_struct Tryz.underlying36 (hval 0 36 v0 rfl rfl)
 obtain ⟨⟨⟨x0,y0⟩,l0r,l0g⟩,hK0,⟨bx0,b0⟩,b0r,b0g⟩:=op_ClientF.op hf0 (fun n hn=>by have:=List.all_eq_true.1 hsz n (DataW.weights_mem_each (j:=0) rfl rfl n hn);simpa using this)
 obtain ⟨_,_,e0,⟨_,_,rfl,rfl,rfl⟩,⟨_,_,rfl,⟨A0r,c0r,rfl,m0r,g0r⟩,⟨A0g,c0g,rfl,m0g,g0g⟩⟩⟩:=hK0
 obtain rfl:cs0=#[.int .i64 x0,.string y0,.slice A0r l0r.length c0r,.slice A0g l0g.length c0g]:=by cases cs0;simpa [Value.cells] using e0
 clear hA0 hval0 hsz0 hsz
 refine (law x0 y0 l0r l0g A0r A0g c0r c0g W g0r m0r g0g m0g b0 b0r b0g).mono fun e W' ⟨he,bel⟩=>?_
 subst he
 exact ⟨_,rfl,_,_,_,[],_,[],hW',trodAll_mk1 (shut_bool Tryz.underlying4 _),trodAll_cons_mk (Below.trod laidOut (by kernel_rfl) (of_decide_eq_true (by kernel_rfl)) k0 bel lt0) trodAll_mk0,rfl,bel.frame _,fun h=>by cases h⟩
theorem over:Rows.fnExactClientOkRow.holds Tryz.pinned (OpenSpec.ofChange Rows.fnExactClientOkSpec):=
 OpenClaim.holds_of_wide 4 Tryz.f4 rfl rfl rfl rfl rfl rfl rfl ⟨rfl,rfl,rfl,rfl,rfl⟩ rfl rfl rfl rfl rfl (by kernel_rfl) Tryz.func4 (by kernel_rfl)
  (of_decide_eq_true (by kernel_rfl)) (by unfold Func.isWrapper;first | (rw [if_pos (by decide +kernel)];kernel_rfl) | (rw [if_neg (by decide +kernel)];exact ⟨rfl,rfl⟩))
  (fun os started H enc _=>lifted os started H enc)
theorem proved:Rows.FnExactClientOkCardSaid:=
 Claim7.holds_tied_plain_at .later [] [.data,.data,.data,.data,.sentinel,.sentinel,.pinned] true (true, "a63e342e5869a138a45726afa8ed8d1e5ab897291d891536a59044af415b15b4") true over (fun _ h=>by cases h) (by kernel_rfl) (fun _ h=>by cases h) fnExactClientOk_row_tie rfl ⟨rfl,rfl⟩ (by kernel_rfl) rfl
  (fun f fn hf hfn=>by
   obtain rfl:f=4:=Option.some.inj ((show Tryz.prog.funcNamed Tryz.f4.name=some 4 by kernel_rfl).symm.trans hf) |>.symm
   obtain rfl:fn=Tryz.f4:=(Option.some.inj (Tryz.func4.symm.trans hfn)).symm
   exact ⟨by kernel_rfl,fun j t ht=>by
    rw [Tryz.params4] at ht
    have hm:t ∈ [36]:=by simpa using Array.mem_of_getElem? ht
    have hall:([36].all fun u=>!Tryz.prog.wantsStandIn u)=true:=by kernel_rfl
    exact (show Tryz.prog.wantsStandIn t=false by simpa using List.all_eq_true.1 hall t hm)⟩)
  (by kernel_rfl)
#print axioms proved
end Go.Proofs.YtfpdikledfhcaaaGreatDoor.fnExactClientOk
namespace Go.Proofs.YtfpdikledfhcaaaGreatDoor
/-- The card,under a short name,for the claim. -/
theorem fnExactClientOk_holds:Rows.FnExactClientOkCardSaid:=fnExactClientOk.proved
end Go.Proofs.YtfpdikledfhcaaaGreatDoor
