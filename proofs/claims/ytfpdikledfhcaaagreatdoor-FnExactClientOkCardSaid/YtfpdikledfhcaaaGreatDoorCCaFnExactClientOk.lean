import Derived.Test.YtfpdikledfhcaaaGreatDoorCCaCliCo
import Derived.Test.YtfpdikledfhcaaaGreatDoorCCaEFnExactClientOk
namespace Go.Proofs.YtfpdikledfhcaaaGreatDoor.PFnExactClientOk
open Go Go.RowKit Go.Proofs.YtfpdikledfhcaaaGreatDoorW.PrintWords Go.Proofs.YtfpdikledfhcaaaGreatDoorW.PrintLast Go.Proofs.YtfpdikledfhcaaaGreatDoorW.PrintMore Go.Proofs.YtfpdikledfhcaaaGreatDoor.Ev Go.Proofs.YtfpdikledfhcaaaGreatDoor.Str Go.Proofs.YtfpdikledfhcaaaGreatDoor.Num
set_option linter.unusedVariables false
set_option linter.unusedSimpArgs false
theorem sum_ge {α:Type} (f:α → Nat) : ∀ {l:List α} {a:α},a ∈ l → f a ≤ (l.map f).sum
 | b :: l,a,h=>by
  rcases List.mem_cons.1 h with rfl | h
  ·simp only [List.map_cons,List.sum_cons];omega
  ·have:=sum_ge f h
   simp only [List.map_cons,List.sum_cons];omega
theorem shN_of (y:S91) (n:Nat) (hn:n ≤ 1048576) (h:wtNeed y ≤ n):shP (cvNeed y):=by
 have h1:y.f0.size ≤ wtNeed y:=by unfold wtNeed;omega
 have h2:y.f1.f3.size ≤ wtNeed y:=by unfold wtNeed;omega
 exact ⟨show y.f0.size ≤ _ by omega,show y.f1.f3.size ≤ _ by omega⟩
theorem shNs_of (l:List S91) (n:Nat) (hn:n ≤ 1048576) (h:l.length + (l.map wtNeed).sum ≤ n):shNs (l.map cvNeed):=by
 refine ⟨fun x hx=>?_,by rw [List.length_map];omega⟩
 obtain ⟨y,hy,rfl⟩:=List.mem_map.1 hx
 have:=sum_ge wtNeed hy
 exact shN_of y n hn (by omega)
theorem shEs_of (l:List S126) (n:Nat) (hn:n ≤ 1048576) (h:l.length + (l.map wtEntry).sum ≤ n):shEs (l.map cvEntry):=by
 refine ⟨fun x hx=>?_,by rw [List.length_map];omega⟩
 obtain ⟨y,hy,rfl⟩:=List.mem_map.1 hx
 have:=sum_ge wtEntry hy
 have h0:y.f0.size ≤ wtEntry y:=by unfold wtEntry;omega
 have h1:y.f1.f3.size ≤ wtEntry y:=by unfold wtEntry;omega
 have h2:y.f2.length + (y.f2.map wtNeed).sum ≤ wtEntry y:=by unfold wtEntry;omega
 exact ⟨⟨show y.f0.size ≤ _ by omega,show y.f1.f3.size ≤ _ by omega⟩,shNs_of y.f2 n hn (by omega)⟩
theorem law_ev (a:Int) (s:ByteArray) (l2:List S91) (l3:List S126) (h1:s.size ≤ 140737488351232) (h2:(∀ a ∈ l2,gdNeed a) ∧ l2.length * 56 ≤ 140737488351232) (h3:(∀ a ∈ l3,gdEntry a) ∧ l3.length * 80 ≤ 140737488351232):Ev (fun k=>laws_FnExactClientOk.f k a s l2 l3) true:=by
 obtain ⟨s1,q1,b1,w1⟩:=sz_Client a s l2 l3 h1 h2 h3 1048576 (by omega) (by omega)
 refine Ev.bind q1 ?_
 by_cases d1:s1 < 0
 ·exact Ev.pos d1 (Ev.now _)
 refine Ev.neg d1 ?_
 have hw1:=w1 (by omega)
 have x2:=shNs_of l2 1048576 (by omega) (by omega)
 have x3:=shEs_of l3 1048576 (by omega) (by omega)
 have t0:=to_Client a s l2 l3 h2 h3
 refine Ev.bind t0 (Ev.bind (ClientS _ _ _ _ x2 x3) (Ev.bind t0 (Ev.bind (ClientI _ _ _ _ x2 x3) (Ev.neg (by simp) (Ev.bind t0 (Ev.bind (eq_Client _ _ _ _ (show (l2.map cvNeed).length ≤ 281474976710656 by have:=x2.2;omega) (gl_EntryS l3 h3)) (Ev.pos rfl (Ev.now _))))))))
theorem law (a:Int) (s:ByteArray) (l2:List S91) (l3:List S126) (A2 A3:Option Addr) (c2 c3:Nat) (w:World) (hr2:Kd.C k91 w A2 l2.length l2) (hc2:l2.length ≤ c2) (hr3:Kd.C k126 w A3 l3.length l3) (hc3:l3.length ≤ c3)
 (h1:s.size ≤ 140737488351232) (h2:(∀ a ∈ l2,gdNeed a) ∧ l2.length * 56 ≤ 140737488351232) (h3:(∀ a ∈ l3,gdEntry a) ∧ l3.length * 80 ≤ 140737488351232) :
 Calls Tryz.prog 4 #[.agg #[.int .i64 a,.string s,.slice A2 l2.length c2,.slice A3 l3.length c3]] w fun e w'=>e = .returned (.bool true) ∧ Below w.heap.size w w':=by
 obtain ⟨k,h⟩:=(law_ev a s l2 l3 h1 h2 h3).rounds
 exact laws_FnExactClientOk.calls k a s A2 c2 l2 A3 c3 l3 true w hr2 hc2 hr3 hc3 h
end Go.Proofs.YtfpdikledfhcaaaGreatDoor.PFnExactClientOk
