import Derived.Test.YtfpdikledfhcaaaGreatDoorCCaWWords
namespace Go.Proofs.YtfpdikledfhcaaaGreatDoor.Ev
open Go Go.RowKit Go.Proofs.YtfpdikledfhcaaaGreatDoorW.PrintWords
set_option linter.unusedVariables false
set_option linter.unusedSimpArgs false
theorem wrapS {i n:Nat} (h:i < n) (hn:n ≤ 281474976710656):wrap64 ((i:Int) + 1)=((i + 1:Nat):Int):=by
 unfold wrap64
 omega
theorem wrapI {i:Int} (h : -9223372036854775808 ≤ i) (h':i ≤ 9223372036854775807):wrap64 i=i:=by
 unfold wrap64
 omega
theorem Ev.const {α:Type} {g:Option α} {r:α} (h:g=some r):Ev (fun _=>g) r:=⟨0,fun _ _=>h⟩
theorem Ev.bind_const {α β:Type} {g:Option α} {f:Nat → α → Option β} {a:α} {r:β} (h:g=some a) (k:Ev (fun n=>f n a) r):Ev (fun n=>g.bind (f n)) r:=Ev.bind (Ev.const h) k
theorem Ev.pos {α:Type} {c:Prop} [Decidable c] {g f:Nat → Option α} {r:α} (h:c) (k:Ev g r):Ev (fun n=>if c then g n else f n) r:=by
 simp only [if_pos h]
 exact k
theorem Ev.neg {α:Type} {c:Prop} [Decidable c] {g f:Nat → Option α} {r:α} (h : ¬ c) (k:Ev f r):Ev (fun n=>if c then g n else f n) r:=by
 simp only [if_neg h]
 exact k
def SzE (g:Nat → Option Int) (left:Int):Prop:=∃ r,Ev g r ∧ r ≤ left
theorem SzE.done (left:Int):SzE (fun _=>some left) left:=⟨left,Ev.now _,Int.le_refl _⟩
theorem wsub {left:Int} {n:Nat} (h0:0 ≤ left) (h1:left ≤ 1099511627776) (hn:n ≤ 140737488351232):wrap64 (left - (n:Int)) ≤ left:=by
 unfold wrap64
 omega
theorem SzE.cut {g:Nat → Option Int} {left m:Int} (hm:m ≤ left) (k:0 ≤ m → SzE g m) (h0:0 ≤ left):SzE (fun k=>if m < 0 then some (-1) else g k) left:=by
 by_cases hc:m < 0
 ·exact ⟨-1,Ev.pos hc (Ev.now _),by omega⟩
 ·obtain ⟨r,hr,hl⟩:=k (by omega)
  exact ⟨r,Ev.neg hc hr,by omega⟩
theorem SzE.seq {g:Nat → Option Int} {h:Int → Nat → Option Int} {left:Int} (h0:0 ≤ left) (hg:SzE g left) (k : ∀ m,0 ≤ m → m ≤ left → SzE (h m) m) :
 SzE (fun k=>(g k).bind fun t=>if t < 0 then some (-1) else h t k) left:=by
 obtain ⟨r,hr,hl⟩:=hg
 by_cases hc:r < 0
 ·refine ⟨-1,Ev.bind hr ?_,by omega⟩
  exact Ev.pos hc (Ev.now _)
 ·obtain ⟨q,hq,hl'⟩:=k r (by omega) hl
  refine ⟨q,Ev.bind hr ?_,by omega⟩
  exact Ev.neg hc hq
theorem SzE.step {g f:Nat → Option Int} {left:Int} (h : ∀ k,g (k + 1)=f k) (k:SzE f left):SzE g left:=by
 obtain ⟨r,hr,hl⟩:=k
 exact ⟨r,Ev.step h hr,hl⟩
theorem SzE.congr {g f:Nat → Option Int} {left:Int} (h : ∀ k,g k=f k) (k:SzE f left):SzE g left:=by
 obtain ⟨r,hr,hl⟩:=k
 exact ⟨r,Ev.congr h hr,hl⟩
theorem sz_loop (l:Nat → Int → Int → Option Int) (n:Nat)
 (hstop : ∀ k (left:Int) (i:Nat),¬ i < n → l (k + 1) left i=some left)
 (hstep : ∀ (i:Nat) (left:Int),i < n → 0 ≤ left → left ≤ 1099511627776 → (∀ m,0 ≤ m → m ≤ left → SzE (fun k=>l k m ((i + 1:Nat):Int)) m) → SzE (fun k=>l k left (i:Int)) left)
 (left:Int) (h0:0 ≤ left) (h1:left ≤ 1099511627776):SzE (fun k=>l k left 0) left:=by
 have key : ∀ (d i:Nat) (left:Int),i + d=n → 0 ≤ left → left ≤ 1099511627776 → SzE (fun k=>l k left (i:Int)) left:=by
  intro d
  induction d with
  | zero=>
   intro i left hi _ _
   exact SzE.step (f:=fun _=>some left) (fun k=>hstop k left i (by omega)) (SzE.done left)
  | succ d ih=>
   intro i left hi h0 h1
   exact hstep i left (by omega) h0 h1 (fun m hm hm'=>ih (i + 1) m (by omega) hm (by omega))
 exact key n 0 left (by omega) h0 h1
def SzW (g:Nat → Option Int) (W:Nat) (left:Int):Prop:=∃ r,Ev g r ∧ r ≤ left ∧ (0 ≤ r → (W:Int) + r ≤ left)
theorem SzW.done (left:Int):SzW (fun _=>some left) 0 left:=⟨left,Ev.now _,Int.le_refl _,fun _=>by omega⟩
theorem wsubW {left:Int} {n:Nat} (h0:0 ≤ left) (h1:left ≤ 1099511627776) (hn:n ≤ 140737488351232):wrap64 (left - (n:Int))=left - n:=by
 unfold wrap64
 omega
theorem SzW.cut {g:Nat → Option Int} {left:Int} {n W:Nat} (h0:0 ≤ left) (k:0 ≤ left - (n:Int) → SzW g W (left - n)):SzW (fun k=>if left - (n:Int) < 0 then some (-1) else g k) (n + W) left:=by
 by_cases hc:left - (n:Int) < 0
 ·exact ⟨-1,Ev.pos hc (Ev.now _),by omega,fun h=>by omega⟩
 ·obtain ⟨r,hr,hl,hw⟩:=k (by omega)
  exact ⟨r,Ev.neg hc hr,by omega,fun h=>by have:=hw h;omega⟩
theorem SzW.seq {g:Nat → Option Int} {h:Int → Nat → Option Int} {left:Int} {W V:Nat} (h0:0 ≤ left) (hg:SzW g W left) (k : ∀ m,0 ≤ m → m ≤ left → SzW (h m) V m) :
 SzW (fun k=>(g k).bind fun t=>if t < 0 then some (-1) else h t k) (W + V) left:=by
 obtain ⟨r,hr,hl,hw⟩:=hg
 by_cases hc:r < 0
 ·refine ⟨-1,Ev.bind hr ?_,by omega,fun h=>by omega⟩
  exact Ev.pos hc (Ev.now _)
 ·obtain ⟨q,hq,hl',hw'⟩:=k r (by omega) hl
  refine ⟨q,Ev.bind hr ?_,by omega,fun h=>?_⟩
  ·exact Ev.neg hc hq
  ·have:=hw (by omega)
   have:=hw' h
   omega
theorem SzW.step {g f:Nat → Option Int} {left:Int} {W:Nat} (h : ∀ k,g (k + 1)=f k) (k:SzW f W left):SzW g W left:=by
 obtain ⟨r,hr,hl⟩:=k
 exact ⟨r,Ev.step h hr,hl⟩
theorem sum_drop (f:Nat → Nat) (n i:Nat) (h:i < n):((List.range' i (n - i)).map f).sum=f i + ((List.range' (i + 1) (n - (i + 1))).map f).sum:=by
 obtain ⟨m,e⟩ : ∃ m,n - i=m + 1:=⟨n - i - 1,by omega⟩
 rw [e,List.range'_succ,show n - (i + 1)=m by omega]
 simp
theorem szw_loop (l:Nat → Int → Int → Option Int) (n:Nat) (f:Nat → Nat)
 (hstop : ∀ k (left:Int) (i:Nat),¬ i < n → l (k + 1) left i=some left)
 (hstep : ∀ (i:Nat) (left:Int) (V:Nat),i < n → 0 ≤ left → left ≤ 1099511627776 → (∀ m,0 ≤ m → m ≤ left → SzW (fun k=>l k m ((i + 1:Nat):Int)) V m) → SzW (fun k=>l k left (i:Int)) (f i + V) left)
 (left:Int) (h0:0 ≤ left) (h1:left ≤ 1099511627776):SzW (fun k=>l k left 0) ((List.range' 0 (n - 0)).map f).sum left:=by
 have key : ∀ (d i:Nat) (left:Int),i + d=n → 0 ≤ left → left ≤ 1099511627776 → SzW (fun k=>l k left (i:Int)) ((List.range' i (n - i)).map f).sum left:=by
  intro d
  induction d with
  | zero=>
   intro i left hi _ _
   rw [show n - i=0 by omega]
   exact SzW.step (f:=fun _=>some left) (fun k=>hstop k left i (by omega)) (SzW.done left)
  | succ d ih=>
   intro i left hi h0 h1
   rw [sum_drop f n i (by omega)]
   exact hstep i left _ (by omega) h0 h1 (fun m hm hm'=>ih (i + 1) m (by omega) hm (by omega))
 exact key n 0 left (by omega) h0 h1
theorem sum_map_getD {α:Type} (xs:List α) (z:α) (g:α → Nat):((List.range' 0 (xs.length - 0)).map fun i=>g (xs.getD i z)).sum=(xs.map g).sum:=by
 congr 1
 refine List.ext_getElem (by simp) fun i h1 h2=>?_
 simp at h1
 simp [List.getD,h1]
theorem to_loop {β:Type} (l:Nat → List β → Int → Option (List β)) (n:Nat) (z:β) (c:Nat → β)
 (hstop : ∀ k acc (i:Nat),¬ i < n → l (k + 1) acc i=some acc)
 (hstep : ∀ (i:Nat) acc r,i < n → acc.length=n → Ev (fun k=>l k (acc.set i (c i)) ((i + 1:Nat):Int)) r → Ev (fun k=>l k acc (i:Int)) r) :
 Ev (fun k=>l k (List.replicate n z) 0) ((List.range n).map c):=by
 have key : ∀ (d i:Nat),i + d=n → Ev (fun k=>l k ((List.range i).map c ++ List.replicate d z) (i:Int)) ((List.range n).map c):=by
  intro d
  induction d with
  | zero=>
   intro i hi
   have e:i=n:=by omega
   subst e
   refine Ev.step (f:=fun _=>some _) (fun k=>hstop k _ i (by omega)) ?_
   simp only [List.replicate_zero,List.append_nil]
   exact Ev.now _
  | succ d ih=>
   intro i hi
   refine hstep i _ _ (by omega) (by simp;omega) ?_
   have e:((List.range i).map c ++ List.replicate (d + 1) z).set i (c i)=(List.range (i + 1)).map c ++ List.replicate d z:=by
    rw [List.set_append_right _ _ (by simp),List.range_succ,List.map_append,List.append_assoc]
    simp [List.replicate_succ]
   rw [e]
   exact ih (i + 1) (by omega)
 have:=key n 0 (by omega)
 simpa using this
theorem map_range {α β:Type} (xs:List α) (z:α) (f:α → β):(List.range xs.length).map (fun i=>f (xs.getD i z))=xs.map f:=by
 refine List.ext_getElem (by simp) fun i h1 h2=>?_
 simp at h1
 simp [List.getD,h1]
theorem mark_loop {β:Type} (l:Nat → List β → Int → Int → Option (Int × List β)) (n:Nat) (m B:Int) (mk:Int → β) (hm:0 ≤ m)
 (hstop : ∀ k acc c (i:Nat),acc.length=n → ¬ i < n → l (k + 1) acc c i=some (c,acc))
 (hstep : ∀ (i:Nat) acc (c:Int) r,i < n → acc.length=n → 0 ≤ c → c + m ≤ B → Ev (fun k=>l k (acc.set i (mk c)) (c + m) ((i + 1:Nat):Int)) r → Ev (fun k=>l k acc c (i:Int)) r)
 (xs:List β) (hx:xs.length=n) (c:Int) (h0:0 ≤ c) (h1:c + m * n ≤ B):Ev (fun k=>l k xs c 0) (c + m * n,(List.range n).map fun (i:Nat)=>mk (c + m * i)):=by
 have key : ∀ (d i:Nat),i + d=n → Ev (fun k=>l k (((List.range i).map fun (j:Nat)=>mk (c + m * j)) ++ xs.drop i) (c + m * i) (i:Int)) (c + m * n,(List.range n).map fun (i:Nat)=>mk (c + m * i)):=by
  intro d
  induction d with
  | zero=>
   intro i hi
   have e:i=n:=by omega
   subst e
   refine Ev.step (f:=fun _=>some _) (fun k=>hstop k _ _ i (by rw [List.length_append,List.length_map,List.length_range,List.length_drop];omega) (by omega)) ?_
   rw [List.drop_eq_nil_of_le (by omega),List.append_nil]
   exact Ev.now _
  | succ d ih=>
   intro i hi
   have hmi:0 ≤ m * (i:Int):=Int.mul_nonneg hm (by omega)
   have hmn:m * ((i + 1:Nat):Int) ≤ m * n:=Int.mul_le_mul_of_nonneg_left (by omega) hm
   have hms:m * ((i + 1:Nat):Int)=m * i + m:=by rw [Int.natCast_add,Int.mul_add];simp
   refine hstep i _ _ _ (by omega) (by rw [List.length_append,List.length_map,List.length_range,List.length_drop];omega) (by omega) (by omega) ?_
   have e:(((List.range i).map fun (j:Nat)=>mk (c + m * j)) ++ xs.drop i).set i (mk (c + m * i))=((List.range (i + 1)).map fun (j:Nat)=>mk (c + m * j)) ++ xs.drop (i + 1):=by
    rw [List.set_append_right _ _ (by simp),List.range_succ,List.map_append,List.append_assoc]
    congr 1
    have hl:i < xs.length:=by omega
    have e1:(xs.drop i).set 0 (mk (c + m * i))=mk (c + m * i) :: xs.drop (i + 1):=by rw [List.drop_eq_getElem_cons hl];rfl
    rw [List.length_map,List.length_range,Nat.sub_self,e1]
    rfl
   rw [e,show c + m * (i:Int) + m=c + m * ((i + 1:Nat):Int) by omega]
   exact ih (i + 1) (by omega)
 have:=key n 0 (by omega)
 simpa using this
theorem held_loop (l:Nat → Int → Int → Option Int) (n:Nat) (m B:Int) (hm:0 ≤ m)
 (hstop : ∀ k c (i:Nat),¬ i < n → l (k + 1) c i=some c)
 (c:Int) (h0:0 ≤ c) (h1:c + m * n ≤ B)
 (hstep : ∀ (i:Nat) r,i < n → 0 ≤ c + m * i → c + m * i + m ≤ B → Ev (fun k=>l k (c + m * i + m) ((i + 1:Nat):Int)) r → Ev (fun k=>l k (c + m * i) (i:Int)) r):Ev (fun k=>l k c 0) (c + m * n):=by
 have key : ∀ (d i:Nat),i + d=n → Ev (fun k=>l k (c + m * i) (i:Int)) (c + m * n):=by
  intro d
  induction d with
  | zero=>
   intro i hi
   have e:i=n:=by omega
   subst e
   exact Ev.step (f:=fun _=>some _) (fun k=>hstop k _ i (by omega)) (Ev.now _)
  | succ d ih=>
   intro i hi
   have hmi:0 ≤ m * (i:Int):=Int.mul_nonneg hm (by omega)
   have hmn:m * ((i + 1:Nat):Int) ≤ m * n:=Int.mul_le_mul_of_nonneg_left (by omega) hm
   have hms:m * ((i + 1:Nat):Int)=m * i + m:=by rw [Int.natCast_add,Int.mul_add];simp
   refine hstep i _ (by omega) (by omega) (by omega) ?_
   rw [show c + m * (i:Int) + m=c + m * ((i + 1:Nat):Int) by omega]
   exact ih (i + 1) (by omega)
 have:=key n 0 (by omega)
 simpa using this
def fst (hit:Nat → Bool):Nat → Nat → Int
 | 0,_=>-1
 | d + 1,b=>if hit b=true then (b:Int) else fst hit d (b + 1)
theorem fst_spec (hit:Nat → Bool) : ∀ (d b:Nat),(fst hit d b = -1 ∧ ∀ i,b ≤ i → i < b + d → hit i=false) ∨ ∃ i:Nat,b ≤ i ∧ i < b + d ∧ fst hit d b=i ∧ hit i=true ∧ ∀ j,b ≤ j → j < i → hit j=false
 | 0,b=>.inl ⟨rfl,fun i h1 h2=>by omega⟩
 | d + 1,b=>by
  by_cases h:hit b=true
  ·exact .inr ⟨b,Nat.le_refl _,by omega,by simp [fst,h],h,fun j h1 h2=>by omega⟩
  ·have hb:hit b=false:=by simpa using h
   have e:fst hit (d + 1) b=fst hit d (b + 1):=by simp [fst,hb]
   rcases fst_spec hit d (b + 1) with ⟨h1,h2⟩ | ⟨i,h1,h2,h3,h4,h5⟩
   ·refine .inl ⟨e.trans h1,fun i h3 h4=>?_⟩
    rcases Nat.eq_or_lt_of_le h3 with e | h3
    ·exact e ▸ hb
    ·exact h2 i h3 (by omega)
   ·refine .inr ⟨i,by omega,by omega,e.trans h3,h4,fun j h6 h7=>?_⟩
    rcases Nat.eq_or_lt_of_le h6 with e | h6
    ·exact e ▸ hb
    ·exact h5 j h6 h7
theorem find_loop (l:Nat → Int → Option Int) (n:Nat) (hit:Nat → Bool)
 (hstop : ∀ k (i:Nat),¬ i < n → l (k + 1) i=some (-1))
 (hgo : ∀ (i:Nat) r,i < n → hit i=false → Ev (fun k=>l k ((i + 1:Nat):Int)) r → Ev (fun k=>l k (i:Int)) r)
 (hhit : ∀ (i:Nat),i < n → hit i=true → Ev (fun k=>l k (i:Int)) (i:Int)):Ev (fun k=>l k 0) (fst hit n 0):=by
 have key : ∀ (d b:Nat),b + d=n → Ev (fun k=>l k (b:Int)) (fst hit d b):=by
  intro d
  induction d with
  | zero=>exact fun b hb=>Ev.step (f:=fun _=>some (-1)) (fun k=>hstop k b (by omega)) (Ev.now _)
  | succ d ih=>
   intro b hb
   by_cases h:hit b=true
   ·simp only [fst,h,if_true]
    exact hhit b (by omega) h
   ·have h':hit b=false:=by simpa using h
    have e:fst hit (d + 1) b=fst hit d (b + 1):=by simp [fst,h']
    rw [e]
    exact hgo b _ (by omega) h' (ih (b + 1) (by omega))
 exact key n 0 (by omega)
theorem filter_loop {β:Type} (l:Nat → List β → Int → Option (List β)) (n:Nat) (keep:Nat → Bool) (x:Nat → β)
 (hstop : ∀ k acc (i:Nat),¬ i < n → l (k + 1) acc i=some acc)
 (hyes : ∀ (i:Nat) acc r,i < n → acc.length ≤ i → keep i=true → Ev (fun k=>l k (acc ++ [x i]) ((i + 1:Nat):Int)) r → Ev (fun k=>l k acc (i:Int)) r)
 (hno : ∀ (i:Nat) acc r,i < n → acc.length ≤ i → keep i=false → Ev (fun k=>l k acc ((i + 1:Nat):Int)) r → Ev (fun k=>l k acc (i:Int)) r) :
 Ev (fun k=>l k [] 0) (((List.range n).filter keep).map x):=by
 have key : ∀ (d i:Nat),i + d=n → Ev (fun k=>l k (((List.range i).filter keep).map x) (i:Int)) (((List.range n).filter keep).map x):=by
  intro d
  induction d with
  | zero=>
   intro i hi
   have e:i=n:=by omega
   subst e
   exact Ev.step (f:=fun _=>some _) (fun k=>hstop k _ i (by omega)) (Ev.now _)
  | succ d ih=>
   intro i hi
   have hlen:(((List.range i).filter keep).map x).length ≤ i:=by
    rw [List.length_map]
    exact Nat.le_trans (List.length_filter_le _ _) (by simp)
   have e:((List.range (i + 1)).filter keep).map x=((List.range i).filter keep).map x ++ (if keep i=true then [x i] else []):=by
    rw [List.range_succ,List.filter_append,List.map_append]
    congr 1
    by_cases h:keep i=true <;> simp [List.filter_cons,h]
   have hn:=ih (i + 1) (by omega)
   rw [e] at hn
   by_cases h:keep i=true
   ·rw [if_pos h] at hn
    exact hyes i _ _ (by omega) hlen h hn
   ·rw [if_neg h,List.append_nil] at hn
    exact hno i _ _ (by omega) hlen (by simpa using h) hn
 exact key n 0 (by omega)
theorem all_loop (l:Nat → Int → Option Bool) (n:Nat) (p:Nat → Prop)
 (hstop : ∀ k (i:Nat),¬ i < n → l (k + 1) i=some true)
 (hgo : ∀ (i:Nat) r,i < n → p i → Ev (fun k=>l k ((i + 1:Nat):Int)) r → Ev (fun k=>l k (i:Int)) r)
 (hout : ∀ (i:Nat),i < n → ¬ p i → Ev (fun k=>l k (i:Int)) false) (b:Nat) (hb:b ≤ n) [d:Decidable (∀ i,b ≤ i → i < n → p i)] :
 Ev (fun k=>l k (b:Int)) (decide (∀ i,b ≤ i → i < n → p i)):=by
 have key : ∀ (d b:Nat),b + d=n → ((∀ i,b ≤ i → i < n → p i) → Ev (fun k=>l k (b:Int)) true) ∧ (¬ (∀ i,b ≤ i → i < n → p i) → Ev (fun k=>l k (b:Int)) false):=by
  intro d
  induction d with
  | zero=>
   intro b hb
   exact ⟨fun _=>Ev.step (f:=fun _=>some true) (fun k=>hstop k b (by omega)) (Ev.now _),fun h=>absurd (fun i h1 h2=>by omega) h⟩
  | succ d ih=>
   intro b hb
   obtain ⟨ih1,ih2⟩:=ih (b + 1) (by omega)
   by_cases hp:p b
   ·refine ⟨fun h=>hgo b true (by omega) hp (ih1 fun i h1 h2=>h i (by omega) h2),fun h=>hgo b false (by omega) hp (ih2 fun h'=>h fun i h1 h2=>?_)⟩
    rcases Nat.eq_or_lt_of_le h1 with e | h1
    ·exact e ▸ hp
    ·exact h' i h1 h2
   ·exact ⟨fun h=>absurd (h b (Nat.le_refl _) (by omega)) hp,fun _=>hout b (by omega) hp⟩
 have:=key (n - b) b (by omega)
 by_cases h : ∀ i,b ≤ i → i < n → p i
 ·rw [decide_eq_true h]
  exact this.1 h
 ·rw [decide_eq_false h]
  exact this.2 h
theorem true_loop (l:Nat → Int → Option Bool) (n:Nat)
 (hstop : ∀ k (i:Nat),¬ i < n → l (k + 1) i=some true)
 (hgo : ∀ (i:Nat) r,i < n → Ev (fun k=>l k ((i + 1:Nat):Int)) r → Ev (fun k=>l k (i:Int)) r):Ev (fun k=>l k 0) true:=by
 have h:=all_loop l n (fun _=>True) hstop (fun i r h _=>hgo i r h) (fun _ _ h=>absurd trivial h) 0 (Nat.zero_le _) (d:=.isTrue fun _ _ _=>trivial)
 exact h
theorem go_loop {ρ:Type} (l:Nat → Int → Option ρ) (g:Nat → Option ρ) (n:Nat) (p:Nat → Prop) (Q:ρ → Prop)
 (hstop : ∀ k (i:Nat),¬ i < n → l (k + 1) i=g k)
 (hgo : ∀ (i:Nat) r,i < n → p i → Ev (fun k=>l k ((i + 1:Nat):Int)) r → Ev (fun k=>l k (i:Int)) r)
 (b:Nat) (hb:b ≤ n) (hall : ∀ i,b ≤ i → i < n → p i) (hg : ∃ r,Ev g r ∧ Q r) : ∃ r,Ev (fun k=>l k (b:Int)) r ∧ Q r:=by
 obtain ⟨r,hr,hq⟩:=hg
 refine ⟨r,?_,hq⟩
 have key : ∀ (d b:Nat),b + d=n → (∀ i,b ≤ i → i < n → p i) → Ev (fun k=>l k (b:Int)) r:=by
  intro d
  induction d with
  | zero=>exact fun b hb _=>Ev.step (f:=g) (fun k=>hstop k b (by omega)) hr
  | succ d ih=>exact fun b hb h=>hgo b r (by omega) (h b (Nat.le_refl _) (by omega)) (ih (b + 1) (by omega) fun i h1 h2=>h i (by omega) h2)
 exact key (n - b) b (by omega) hall
theorem out_loop {ρ:Type} (l:Nat → Int → Option ρ) (n:Nat) (p:Nat → Prop) (Q:ρ → Prop)
 (hgo : ∀ (i:Nat) r,i < n → p i → Ev (fun k=>l k ((i + 1:Nat):Int)) r → Ev (fun k=>l k (i:Int)) r)
 (hout : ∀ (i:Nat),i < n → ¬ p i → ∃ r,Ev (fun k=>l k (i:Int)) r ∧ Q r)
 (b:Nat) (hb:b ≤ n) (h : ¬ ∀ i,b ≤ i → i < n → p i) : ∃ r,Ev (fun k=>l k (b:Int)) r ∧ Q r:=by
 have key : ∀ (d b:Nat),b + d=n → (¬ ∀ i,b ≤ i → i < n → p i) → ∃ r,Ev (fun k=>l k (b:Int)) r ∧ Q r:=by
  intro d
  induction d with
  | zero=>exact fun b hb h=>absurd (fun i h1 h2=>by omega) h
  | succ d ih=>
   intro b hb h
   by_cases hp:p b
   ·obtain ⟨r,hr,hq⟩:=ih (b + 1) (by omega) (fun h'=>h fun i h1 h2=>by
     rcases Nat.eq_or_lt_of_le h1 with e | h1
     ·exact e ▸ hp
     ·exact h' i h1 h2)
    exact ⟨r,hgo b r (by omega) hp hr,hq⟩
   ·exact hout b (by omega) hp
 exact key (n - b) b (by omega) h
theorem bool_loop (l:Nat → Int → Option Bool) (g:Nat → Option Bool) (n:Nat) (p:Nat → Prop) (c:Bool)
 (hstop : ∀ k (i:Nat),¬ i < n → l (k + 1) i=g k) (hg:Ev g (!c))
 (hgo : ∀ (i:Nat) r,i < n → p i → Ev (fun k=>l k ((i + 1:Nat):Int)) r → Ev (fun k=>l k (i:Int)) r)
 (hout : ∀ (i:Nat),i < n → ¬ p i → Ev (fun k=>l k (i:Int)) c) (b:Nat) (hb:b ≤ n) :
 ((∀ i,b ≤ i → i < n → p i) → Ev (fun k=>l k (b:Int)) (!c)) ∧ ((¬ ∀ i,b ≤ i → i < n → p i) → Ev (fun k=>l k (b:Int)) c):=by
 refine ⟨fun h=>?_,fun h=>?_⟩
 ·obtain ⟨r,hr,e⟩:=go_loop l g n p (· = !c) hstop hgo b hb h ⟨_,hg,rfl⟩
  exact e ▸ hr
 ·obtain ⟨r,hr,e⟩:=out_loop l n p (· = c) hgo (fun i h1 h2=>⟨_,hout i h1 h2,rfl⟩) b hb h
  exact e ▸ hr
theorem list_eq_iff {α:Type} {x y:List α} {z:α} (h:x.length=y.length):(∀ i,0 ≤ i → i < x.length → x.getD i z=y.getD i z) ↔ x=y:=by
 refine ⟨fun hh=>List.ext_getElem h fun i h1 h2=>?_,fun e i _ _=>by rw [e]⟩
 have:=hh i (Nat.zero_le _) h1
 simpa [List.getD,h1,h2] using this
theorem toList_loop (bs:ByteArray) (d:Nat) : ∀ i r,bs.size - i=d → ByteArray.toList.loop bs i r=r.reverse ++ bs.data.toList.drop i:=by
 induction d with
 | zero=>
  intro i r h
  unfold ByteArray.toList.loop
  rw [if_neg (by omega),List.drop_eq_nil_of_le (by rw [Array.length_toList];show bs.size ≤ i;omega),List.append_nil]
 | succ d ih=>
  intro i r h
  unfold ByteArray.toList.loop
  rw [if_pos (by omega),ih (i + 1) _ (by omega)]
  have hi:i < bs.data.toList.length:=by rw [Array.length_toList];show i < bs.size;omega
  rw [List.drop_eq_getElem_cons hi]
  have hi':i < bs.data.size:=by simpa using hi
  have e:bs.data[i]! = bs.data[i]:=getElem!_pos bs.data i hi'
  simp [ByteArray.get!,e]
theorem toList_data (bs:ByteArray):bs.toList=bs.data.toList:=by
 unfold ByteArray.toList
 rw [toList_loop bs _ 0 [] rfl]
 simp
theorem arr_eq {a b:ByteArray} (h:a.toList=b.toList):a=b:=by
 rw [toList_data,toList_data] at h
 cases a
 cases b
 simp only [ByteArray.mk.injEq]
 exact Array.toList_inj.1 h
theorem getD_lt {α:Type} {xs:List α} {z:α} {i:Nat} (h:i < xs.length):xs.getD i z=xs[i]:=by simp [List.getD,h]
theorem getD_mem {α:Type} {xs:List α} {z:α} {i:Nat} (h:i < xs.length):xs.getD i z ∈ xs:=by rw [getD_lt h];exact List.getElem_mem h
end Go.Proofs.YtfpdikledfhcaaaGreatDoor.Ev
