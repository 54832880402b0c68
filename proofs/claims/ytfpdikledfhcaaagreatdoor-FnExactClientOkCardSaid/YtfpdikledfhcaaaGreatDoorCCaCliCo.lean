import Derived.Test.YtfpdikledfhcaaaGreatDoorCCaFindCo
namespace Go.Proofs.YtfpdikledfhcaaaGreatDoor.PFnExactClientOk
open Go Go.RowKit Go.Proofs.YtfpdikledfhcaaaGreatDoorW.PrintWords Go.Proofs.YtfpdikledfhcaaaGreatDoorW.PrintLast Go.Proofs.YtfpdikledfhcaaaGreatDoorW.PrintMore Go.Proofs.YtfpdikledfhcaaaGreatDoor.Ev Go.Proofs.YtfpdikledfhcaaaGreatDoor.Str Go.Proofs.YtfpdikledfhcaaaGreatDoor.Num
set_option linter.unusedVariables false
set_option linter.unusedSimpArgs false
abbrev zE:EnrT:=z54
theorem rdE (xs:List EnrT) (i:Nat):rd_T54 xs (i:Int)=xs.getD i zE:=by unfold rd_T54;rw [Int.toNat_natCast]
def hitE (xs:List EnrT) (e:EnrT) (i:Nat):Bool:=hit xs e.f0 e.f1.f0 e.f1.f1 e.f1.f2 e.f1.f3 i
def firB (xs:List EnrT) (i:Nat):Bool:=allI (fun j=>!hitE xs (xs.getD i zE) j) i
theorem hit_self (xs:List EnrT) (i:Nat):hitE xs (xs.getD i zE) i=true:=by
 unfold hitE hit en
 simp
theorem fe_first (xs:List EnrT) (i:Nat) (hi:i < xs.length):fe xs (xs.getD i zE).f0 (xs.getD i zE).f1.f0 (xs.getD i zE).f1.f1 (xs.getD i zE).f1.f2 (xs.getD i zE).f1.f3=(i:Int) ↔ firB xs i=true:=by
 have hs:=hit_self xs i
 unfold firB
 rw [allI_iff]
 unfold fe
 unfold hitE at hs ⊢
 rcases fst_spec (hit xs (xs.getD i zE).f0 (xs.getD i zE).f1.f0 (xs.getD i zE).f1.f1 (xs.getD i zE).f1.f2 (xs.getD i zE).f1.f3) xs.length 0 with ⟨_,h2⟩ | ⟨j,_,h2,h3,h4,h5⟩
 ·rw [h2 i (Nat.zero_le _) (by omega)] at hs
  cases hs
 ·rw [h3]
  constructor
  ·intro e q hq
   have e2:j=i:=by omega
   subst e2
   rw [h5 q (Nat.zero_le _) hq]
   rfl
  ·intro h
   rcases Nat.lt_trichotomy j i with hlt | rfl | hgt
   ·have:=h j hlt
    rw [h4] at this
    cases this
   ·rfl
   ·have:=h5 i (Nat.zero_le _) hgt
    rw [hs] at this
    cases this
theorem hit_take (xs:List EnrT) (i j:Nat) (hj:j < i) (hi:i ≤ xs.length) (p:ByteArray) (a b c:Int) (s:ByteArray):hit (xs.take i) p a b c s j=hit xs p a b c s j:=by
 unfold hit en
 rw [getD_lt (show j < (xs.take i).length by rw [List.length_take];omega),getD_lt (show j < xs.length by omega),List.getElem_take]
theorem fe_take (xs:List EnrT) (i:Nat) (hi:i < xs.length):fe (xs.take i) (xs.getD i zE).f0 (xs.getD i zE).f1.f0 (xs.getD i zE).f1.f1 (xs.getD i zE).f1.f2 (xs.getD i zE).f1.f3 ≥ 0 ↔ ¬ firB xs i=true:=by
 have hl:(xs.take i).length=i:=by rw [List.length_take];omega
 unfold firB
 rw [allI_iff]
 unfold fe hitE
 rw [hl]
 rcases fst_spec (hit (xs.take i) (xs.getD i zE).f0 (xs.getD i zE).f1.f0 (xs.getD i zE).f1.f1 (xs.getD i zE).f1.f2 (xs.getD i zE).f1.f3) i 0 with ⟨h1,h2⟩ | ⟨j,_,h2,h3,h4,h5⟩
 ·rw [h1]
  refine ⟨fun h=>by omega,fun h=>absurd (fun q hq=>?_) h⟩
  have:=h2 q (Nat.zero_le _) (by omega)
  rw [hit_take xs i q hq (by omega)] at this
  rw [this]
  rfl
 ·rw [h3]
  refine ⟨fun _ h=>?_,fun _=>by omega⟩
  have:=h j (by omega)
  rw [hit_take xs i j (by omega) (by omega)] at h4
  rw [h4] at this
  cases this
def headB (a:Int) (s:ByteArray):Bool:=decide (0 ≤ a ∧ a ≤ 200) && ((s.size:Int) == 32)
theorem HeadI (a:Int) (s:ByteArray):impl_HeadOk.f a s=some (headB a s):=by
 unfold impl_HeadOk.f headB
 rw [inrange,Option.bind_some]
 cases decide (0 ≤ a ∧ a ≤ 200) <;> rfl
theorem HeadS (a:Int) (s:ByteArray):spec_HeadOk.f a s=some (headB a s):=by
 unfold spec_HeadOk.f headB
 rw [in_all,Option.bind_some]
 cases decide (0 ≤ a ∧ a ≤ 200) <;> rfl
def gotB (xs:List EnrT):Bool:=allI (fun i=>entB (xs.getD i zE) && firB xs i) xs.length
def cliB (a:Int) (s:ByteArray) (l:List NedT) (xs:List EnrT):Bool:=gotB xs && (headB a s && (needsB l && decide (xs.length ≤ 60)))
theorem ClientI (a:Int) (s:ByteArray) (l:List NedT) (xs:List EnrT) (hl:shNs l) (hx:shEs xs):Ev (fun k=>impl_ClientOk.f k a s l xs) (cliB a s l xs):=by
 have h2:=hx.2
 refine allb (fun k i=>impl_ClientOk.l0 k xs (xs.length:Int) i a s l xs) xs.length _ _ ?_ (fun i r hi hr=>?_)
 ·refine Ev.step (f:=fun k=>(impl_HeadOk.f a s).bind fun t=>if t=true then ((impl_NeedsOk.f k l).bind fun u=>if u=true then some (decide ((xs.length:Int) ≤ 60)) else some false) else some false) (fun k=>?_) (Ev.bind_const (HeadI a s) (Ev.if_go (Ev.bind_go (h:=fun _=>some (decide ((xs.length:Int) ≤ 60))) (NeedsI l hl) (Ev.const (congrArg some (decide_eq_decide.2 (by omega)))))))
  simp only [impl_ClientOk.l0]
  rw [if_neg (by omega)]
 ·have hw:=wrapS hi (by omega)
  rw [Bool.and_assoc]
  refine Ev.step (f:=fun k=>(impl_EntryOk.f k (xs.getD i zE).f0 (xs.getD i zE).f1.f0 (xs.getD i zE).f1.f1 (xs.getD i zE).f1.f2 (xs.getD i zE).f1.f3 (xs.getD i zE).f2).bind fun t=>if t=true then ((impl_findEntry.f k xs (xs.getD i zE).f0 (xs.getD i zE).f1.f0 (xs.getD i zE).f1.f1 (xs.getD i zE).f1.f2 (xs.getD i zE).f1.f3).bind fun u=>if u=(i:Int) then impl_ClientOk.l0 k xs (xs.length:Int) ((i + 1:Nat):Int) a s l xs else some false) else some false) (fun k=>?_) (Ev.bind_go (EntryI _ (hx.1 _ (getD_mem hi))) (Ev.bind (findEntry xs _ _ _ _ _ (by omega)) ?_))
  ·simp only [impl_ClientOk.l0]
   rw [if_pos (by omega),if_pos (by omega),if_pos (by omega),rdE,hw]
  ·have hf:=fe_first xs i hi
   by_cases h:firB xs i=true
   ·rw [h,Bool.true_and]
    exact Ev.pos (hf.2 h) hr
   ·rw [Bool.eq_false_iff.2 h,Bool.false_and]
    exact Ev.neg (fun e=>h (hf.1 e)) (Ev.now _)
theorem EntriesS (xs:List EnrT) (hx:shEs xs):Ev (fun k=>spec_l18Entries.f k xs) (gotB xs && decide (xs.length ≤ 60)):=by
 have h2:=hx.2
 refine allb (fun k i=>spec_l18Entries.l0 k xs i) xs.length _ _ ?_ (fun i r hi hr=>?_)
 ·refine Ev.step (f:=fun _=>some (decide ((xs.length:Int) ≤ 60))) (fun k=>?_) (Ev.const (congrArg some (decide_eq_decide.2 (by omega))))
  simp only [spec_l18Entries.l0]
  rw [if_neg (by omega)]
 ·have hw:=wrapS hi (by omega)
  rw [Bool.and_assoc]
  refine Ev.step (f:=fun k=>(spec_EntryOk.f k (xs.getD i zE).f0 (xs.getD i zE).f1.f0 (xs.getD i zE).f1.f1 (xs.getD i zE).f1.f2 (xs.getD i zE).f1.f3 (xs.getD i zE).f2).bind fun t=>if t=true then (if (i:Int) ≤ (xs.length:Int) then ((spec_l15At.f k (xs.take i) (xs.getD i zE).f0 (xs.getD i zE).f1.f0 (xs.getD i zE).f1.f1 (xs.getD i zE).f1.f2 (xs.getD i zE).f1.f3).bind fun u=>if u ≥ 0 then some false else spec_l18Entries.l0 k xs ((i + 1:Nat):Int)) else none) else some false) (fun k=>?_) (Ev.bind_go (EntryS _ (hx.1 _ (getD_mem hi))) (Ev.pos (by omega) (Ev.bind (at15 (xs.take i) _ _ _ _ _ (by rw [List.length_take];omega)) ?_)))
  ·simp only [spec_l18Entries.l0]
   rw [if_pos (by omega),if_pos (by omega),rdE,hw,Int.toNat_natCast]
  ·have hf:=fe_take xs i hi
   by_cases h:firB xs i=true
   ·rw [h,Bool.true_and]
    exact Ev.neg (fun e=>(hf.1 e) h) hr
   ·rw [Bool.eq_false_iff.2 h,Bool.false_and]
    exact Ev.pos (hf.2 h) (Ev.now _)
theorem ClientS (a:Int) (s:ByteArray) (l:List NedT) (xs:List EnrT) (hl:shNs l) (hx:shEs xs):Ev (fun k=>spec_ClientOk.f k a s l xs) (cliB a s l xs):=by
 have e:cliB a s l xs=(headB a s && (needsB l && (gotB xs && decide (xs.length ≤ 60)))):=by
  unfold cliB
  cases gotB xs <;> cases headB a s <;> cases needsB l <;> rfl
 rw [e]
 exact Ev.bind_const (HeadS a s) (Ev.if_go (Ev.bind_go (NeedsS l hl) (Ev.bind (EntriesS xs hx) (Ev.now _))))
end Go.Proofs.YtfpdikledfhcaaaGreatDoor.PFnExactClientOk
