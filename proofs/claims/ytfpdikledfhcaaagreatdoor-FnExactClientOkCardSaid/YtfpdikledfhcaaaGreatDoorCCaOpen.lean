import Derived.Test.YtfpdikledfhcaaaGreatDoorCCaWWords
import Derived.SizedLaws
import Derived.ChangeSlices
import Derived.ChangeArms
import Derived.Deep.Slices
import Derived.OpenShut
namespace Go.Proofs.YtfpdikledfhcaaaGreatDoor.Open
open Go Go.Deep Go.RowKit Go.ChangeShapes Go.WideShapes Go.Proofs.YtfpdikledfhcaaaGreatDoorW.PrintWords
set_option linter.unusedVariables false
set_option linter.unusedSimpArgs false
structure Opens {α:Type} (P:Program) (t:TypeId) (d:Kd α) (good:α → Prop):Prop where
 sz:P.cellsOf t=d.sz
 op : ∀ {H:Type} {enc:TypeId × Value → H} {W:World} {base:Nat} {sp:Nat → Bool} {held:Bool} {fuel:Nat} {cs:List Value} {x:DataW H × List MemPlace},
  DataW.trod enc P W base sp held fuel t cs=some x → (∀ n ∈ x.1.weights P t,n ≤ reachBytes) → ∃ a,d.K W a cs ∧ good a
theorem Opens.imp {α:Type} {P:Program} {t:TypeId} {d:Kd α} {g g':α → Prop} (h:Opens P t d g) (hg : ∀ a,g a → g' a):Opens P t d g':=
 ⟨h.sz,fun ht hw=>by obtain ⟨a,h1,h2⟩:=h.op ht hw;exact ⟨a,h1,hg a h2⟩⟩
theorem opens_int {P:Program} {t:TypeId} {k:IntKind} (ht:P.underlying t=some (.int k)) (hc:P.cellsOf t=1):Opens P t (Kd.int k) (fun n=>(Lit.int k n).wf=true):=by
 refine ⟨hc,?_⟩
 intro H enc W base sp held fuel cs x h _
 cases fuel with
 | zero=>simp [DataW.trod] at h
 | succ m=>
  unfold DataW.trod at h
  rw [ht] at h
  split at h <;> simp_all
  obtain ⟨⟨rfl,hw⟩,_⟩:=h
  exact ⟨_,rfl,hw⟩
theorem opens_string {P:Program} {t:TypeId} (ht:P.underlying t=some .string) (hc:P.cellsOf t=1):Opens P t Kd.string (fun s=>s.size ≤ 140737488351232):=by
 refine ⟨hc,?_⟩
 intro H enc W base sp held fuel cs x h hw
 cases fuel with
 | zero=>simp [DataW.trod] at h
 | succ m=>
  unfold DataW.trod at h
  rw [ht] at h
  split at h <;> simp_all
  obtain ⟨_,rfl⟩:=h
  refine ⟨_,rfl,?_⟩
  have:=hw _ (by simp only [DataW.weights];exact List.mem_singleton.2 rfl)
  simpa [reachBytes] using this
structure OpensFs {β:Type} (P:Program) (fs:List Field) (o:Nat) (d:Kd β) (good:β → Prop):Prop where
 op : ∀ {H:Type} {enc:TypeId × Value → H} {W:World} {base:Nat} {sp:Nat → Bool} {held:Bool} {n:Nat} {cs:List Value} {xs:List (DataW H × List MemPlace)},
  xs.length=fs.length → (∀ (i:Nat) (f:Field),fs[i]? = some f → DataW.trod enc P W base sp held n f.type ((cs.drop f.offset).take (P.cellsOf f.type))=xs[i]?) →
  (∀ k ∈ DataW.weightsEach P (fs.map (·.type)) (xs.map (·.1)),k ≤ reachBytes) → ∃ b,d.K W b ((cs.drop o).take d.sz) ∧ good b
theorem opensFs_one {α:Type} {P:Program} {f:Field} {d:Kd α} {g:α → Prop} {o:Nat} {t:TypeId} (h:Opens P t d g) (ht:f.type=t) (ho:o=f.offset):OpensFs P [f] o d g:=by
 subst ht
 refine ⟨?_⟩
 intro H enc W base sp held n cs xs hl hx hw
 match xs,hl with
 | [x],_=>
  have h1:=hx 0 f rfl
  rw [h.sz,← ho] at h1
  exact h.op h1 (fun k hk=>hw k (by simp [DataW.weightsEach,hk]))
theorem opensFs_cons {α β:Type} {P:Program} {f:Field} {fs:List Field} {d:Kd α} {e:Kd β} {g:α → Prop} {g':β → Prop} {o:Nat} {t:TypeId} (h:Opens P t d g) (ht:f.type=t) (ho:o=f.offset) (hs:OpensFs P fs (o + d.sz) e g') :
 OpensFs P (f :: fs) o (Kd.pair d e) (fun p=>g p.1 ∧ g' p.2):=by
 subst ht
 refine ⟨?_⟩
 intro H enc W base sp held n cs xs hl hx hw
 match xs,hl with
 | x :: xs,hl=>
  have h1:=hx 0 f rfl
  rw [h.sz,← ho] at h1
  obtain ⟨a,ha,hga⟩:=h.op h1 (fun k hk=>hw k (by simp [DataW.weightsEach,hk]))
  obtain ⟨b,hb,hgb⟩:=hs.op (enc:=enc) (W:=W) (base:=base) (sp:=sp) (held:=held) (n:=n) (cs:=cs) (xs:=xs) (by simpa using hl) (fun i f' hf=>by have:=hx (i + 1) f' (by simpa using hf);simpa using this) (fun k hk=>hw k (by simp [DataW.weightsEach,hk]))
  refine ⟨(a,b),⟨_,_,?_,ha,hb⟩,hga,hgb⟩
  show List.take (d.sz + e.sz) _=_
  rw [List.take_add,List.drop_drop]
theorem opens_struct {α β:Type} {P:Program} {t:TypeId} {fs:Array Field} {d:Kd β} {f:α → β} {g:β → Prop} (inv:β → α) (hi : ∀ b,f (inv b)=b) (ht:P.underlying t=some (.struct fs)) (hc:P.cellsOf t=d.sz) (h:OpensFs P fs.toList 0 d g) :
 Opens P t (Kd.iso d f) (fun a=>g (f a)):=by
 refine ⟨hc,?_⟩
 intro H enc W base sp held fuel cs x hx hw
 obtain ⟨xs,n,rfl,rfl,hl,hn,hall⟩:=DataW.trod_struct ht hx
 obtain ⟨b,hb,hg⟩:=h.op (enc:=enc) (W:=W) (base:=base) (sp:=sp) (held:=held) (n:=n) (cs:=cs) (xs:=xs) (by simpa using hn) (fun i f' hf=>hall i f' (by simpa using hf)) (fun k hk=>hw k (by simpa [DataW.weights,ht] using hk))
 refine ⟨inv b,?_,?_⟩
 ·show d.K W (f (inv b)) cs
  rw [hi]
  rwa [List.drop_zero,← hc,← hl,List.take_length] at hb
 ·show g (f (inv b))
  rw [hi]
  exact hg
theorem weightsAll_mem {H:Type} {P:Program} {e:TypeId} : ∀ {ds:List (DataW H)} {d:DataW H},d ∈ ds → ∀ n ∈ d.weights P e,n ∈ DataW.weightsAll P e ds
 | d0 :: ds,d,hd,n,hn=>by
  rw [DataW.weightsAll]
  rcases List.mem_cons.1 hd with rfl | hd
  ·exact List.mem_append_left _ hn
  ·exact List.mem_append_right _ (weightsAll_mem hd n hn)
theorem opens_slice {α:Type} {P:Program} {t e:TypeId} {d:Kd α} {g:α → Prop} {B:Nat} (ht:P.underlying t=some (.slice e)) (hc:P.cellsOf t=1) (hB:P.bytesOf e=B) (h:Opens P e d g) :
 Opens P t (Kd.slice e d) (fun l=>(∀ a ∈ l,g a) ∧ l.length * B ≤ 140737488351232):=by
 refine ⟨hc,?_⟩
 intro H enc W base sp held fuel cs x hx hw
 rcases open_slice ht hx with ⟨rfl,rfl⟩ | ⟨a,len,cap,m,n,D,Pl,rfl,hb,hl,hm,hmm,rfl,hall⟩
 ·exact ⟨[],⟨none,0,rfl,Nat.le_refl _,rfl,by simp,fun h0=>by simp at h0⟩,by simp,by simp⟩
 ·have hlm:len ≤ m:=by rw [hmm];split <;> omega
  have hel : ∀ i,i < len → ∃ y:α,(∃ c,W.cells? base (a.add (i * d.sz)) d.sz=some c ∧ d.K W y c) ∧ g y:=by
   intro i hi
   obtain ⟨c,h1,h2⟩:=hall i (by omega)
   rw [h.sz] at h1
   obtain ⟨y,hy,hg⟩:=h.op h2 (fun k hk=>hw k (by
    simp only [DataW.weights,ht]
    refine List.mem_cons_of_mem _ (List.mem_append_left _ (weightsAll_mem (List.mem_map.2 ⟨i,List.mem_range.2 hi,rfl⟩) k hk)))
   )
   exact ⟨y,⟨c,h1,hy⟩,hg⟩
  obtain ⟨V,hV⟩ : ∃ V:List α,V.length=len ∧ ∀ i y,V[i]? = some y → (∃ c,W.cells? base (a.add (i * d.sz)) d.sz=some c ∧ d.K W y c) ∧ g y:=by
   clear hw hall hx
   have : ∀ k,k ≤ len → ∃ V:List α,V.length=k ∧ ∀ i y,V[i]? = some y → (∃ c,W.cells? base (a.add (i * d.sz)) d.sz=some c ∧ d.K W y c) ∧ g y:=by
    intro k
    induction k with
    | zero=>exact fun _=>⟨[],rfl,fun i y h=>by simp at h⟩
    | succ k ih=>
     intro hk
     obtain ⟨V,hl',hV⟩:=ih (by omega)
     obtain ⟨y,hy⟩:=hel k (by omega)
     refine ⟨V ++ [y],by simp [hl'],fun i z hz=>?_⟩
     rcases Nat.lt_or_ge i k with hi | hi
     ·rw [List.getElem?_append_left (by omega)] at hz
      exact hV i z hz
     ·have hi':i=k:=by
       have:=(List.getElem?_eq_some_iff.1 hz).1
       rw [List.length_append,List.length_singleton,hl'] at this
       omega
      subst hi'
      have:y=z:=by simpa [hl'.symm] using hz
      subst this
      exact hy
   exact this len (Nat.le_refl _)
  obtain ⟨hVl,hV⟩:=hV
  have hlen63:len ≤ 9223372036854775807:=by unfold maxLen at hm;omega
  refine ⟨V,⟨some a,cap,by rw [hVl],by omega,rfl,by omega,fun _=>⟨a,rfl,?_⟩⟩,?_,?_⟩
  ·intro j p hp
   obtain ⟨⟨c,h1,h2⟩,_⟩:=hV j p hp
   refine ⟨c,d.K_len h2,h2,fun i u hu=>?_⟩
   obtain ⟨hbb,hcl,hcells⟩:=World.cells?_some h1
   have:=hcells i (by have:=(List.getElem?_eq_some_iff.1 hu).1;omega)
   rw [hu] at this
   rw [← this]
   rw [Addr.add_add]
  ·intro y hy
   obtain ⟨i,hi⟩:=List.getElem?_of_mem hy
   exact (hV i y hi).2
  ·have:=hw ((len + (m - len)) * P.bytesOf e) (by simp [DataW.weights,ht])
   rw [hB] at this
   rw [hVl]
   exact Nat.le_trans (Nat.mul_le_mul_right B (Nat.le_add_right len (m - len))) (by simpa [reachBytes] using this)
end Go.Proofs.YtfpdikledfhcaaaGreatDoor.Open
