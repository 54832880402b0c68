import Derived.Test.YtmkdeknpphimbaaDoorCCeClosedFc
import Derived.Test.YtmkdeknpphimbaaDoorCCeNeedsFc
namespace Go.Proofs.YtmkdeknpphimbaaDoor.PFnClosed
open Go Go.RowKit Go.Proofs.YtmkdeknpphimbaaDoorW.PrintWords Go.Proofs.YtmkdeknpphimbaaDoorW.PrintLast Go.Proofs.YtmkdeknpphimbaaDoorW.PrintMore Go.Proofs.YtmkdeknpphimbaaDoor.Ev Go.Proofs.YtmkdeknpphimbaaDoor.Str Go.Proofs.YtmkdeknpphimbaaDoor.Num
set_option linter.unusedVariables false
set_option linter.unusedSimpArgs false
def shN (n:NeedT):Prop:=n.f0.size ≤ 9 ∧ n.f1.f3.size ≤ 6
def shL (m:Nat) (l:List NeedT):Prop:=(∀ n ∈ l,shN n) ∧ l.length ≤ m
def okE (e:EntT):Prop:=shN ⟨e.f0,e.f1⟩ ∧ shL 3 e.f2
def okL (m:Nat) (xs:List EntT):Prop:=(∀ e ∈ xs,okE e) ∧ xs.length ≤ m
theorem shL.put {m:Nat} {l r:List NeedT} {n:NeedT} (h:shL m l) (hn:shN n) (hp:PutIn l n r):shL (m + 1) r:=
 ⟨fun x hx=>by rcases hp.mem hx with rfl | hx;exact hn;exact h.1 x hx,by have:=hp.length;have:=h.2;omega⟩
theorem shL.up {m k:Nat} {l:List NeedT} (h:shL m l) (hk:m ≤ k):shL k l:=⟨h.1,Nat.le_trans h.2 hk⟩
theorem shL.nil:shL 0 []:=⟨(fun x hx=>by cases hx),Nat.le_refl _⟩
theorem shL.snoc {m:Nat} {l:List NeedT} {n:NeedT} (h:shL m l) (hn:shN n):shL (m + 1) (l ++ [n]):=
 ⟨fun x hx=>by rcases List.mem_append.1 hx with hx | hx;exact h.1 x hx;rw [List.mem_singleton.1 hx];exact hn,by have:=h.2;rw [List.length_append];simpa using this⟩
theorem shL.short {m:Nat} {l:List NeedT} (h:shL m l) (hm:m ≤ 1000000):shortN l:=⟨fun x hx=>by have:=(h.1 x hx).2;omega,by have:=h.2;omega⟩
theorem okL.short {m:Nat} {xs:List EntT} (h:okL m xs) (hm:m ≤ 1000000):shortE xs:=⟨fun x hx=>(h.1 x hx).2.short (by decide),by have:=h.2;omega⟩
theorem okL.snoc {m:Nat} {xs:List EntT} {e:EntT} (h:okL m xs) (he:okE e):okL (m + 1) (xs ++ [e]):=
 ⟨fun x hx=>by rcases List.mem_append.1 hx with hx | hx;exact h.1 x hx;rw [List.mem_singleton.1 hx];exact he,by have:=h.2;rw [List.length_append];simpa using this⟩
theorem okL.up {m k:Nat} {xs:List EntT} (h:okL m xs) (hk:m ≤ k):okL k xs:=⟨h.1,Nat.le_trans h.2 hk⟩
theorem mem_rdE {xs:List EntT} {i:Int} (h:0 ≤ i) (h2:i < (xs.length:Int)):rd_T47 xs i ∈ xs:=getD_mem (z:=z47) (show i.toNat < xs.length by omega)
theorem mem_rdN {xs:List NeedT} {i:Int} (h:0 ≤ i) (h2:i < (xs.length:Int)):rd_T36 xs i ∈ xs:=getD_mem (z:=z36) (show i.toNat < xs.length by omega)
theorem need_sh {a:ByteArray} {x y z:Int} {s:ByteArray} (h:a ∈ pathsD ∧ okV x y z s):shN ⟨a,⟨x,y,z,s⟩⟩:=⟨path_short h.1,pre_short h.2.2.2.2⟩
theorem draw_l1 (b:List Int) (xs:List EntT) (x4:Int) (f0:ByteArray) (v0 v1 v2:Int) (v3:ByteArray) (m:Nat) (P:List EntT × Int × Int → Prop) (hm:m ≤ 1000000) (hxs:okL m xs) (hf:f0.size ≤ 9) (hv:v3.size ≤ 6)
 (K : ∀ (xs':List EntT) (c h:Int),okL (m + 1) xs' → Cur b c → EvP (fun k=>spec_l15Draw.l0 k xs' (wrap64 (x4 - 1)) b c h) P) :
 ∀ (d:Nat) (ns:List NeedT) (c h:Int),(∀ n ∈ ns,shN n) → ns.length + d ≤ 2 → Cur b c → EvP (fun k=>spec_l15Draw.l1 k xs x4 (d:Int) b c h f0 v0 v1 v2 v3 ns) P:=by
 have hlen:=hxs.2
 have app : ∀ (ns:List NeedT) (c h:Int),shL 3 ns → Cur b c → EvP (fun k=>(spec_l15At.f k xs f0 v0 v1 v2 v3).bind fun t=>if t < 0 then (if xs.length < 1759218604441 then spec_l15Draw.l0 k (xs ++ [⟨f0,⟨v0,v1,v2,v3⟩,ns⟩]) (wrap64 (x4 - 1)) b c h else none) else spec_l15Draw.l0 k xs (wrap64 (x4 - 1)) b c h) P:=by
  intro ns c h hn hc
  exact EvP.bind (EvP.of (P:=fun _=>True) (at15 xs f0 v0 v1 v2 v3 (by omega)) trivial) (fun t _=>EvP.ite (fun _=>EvP.pos (by omega) (K _ c h (hxs.snoc ⟨⟨hf,hv⟩,hn⟩) hc)) (fun _=>K xs c h (hxs.up (by omega)) hc))
 have fin : ∀ (x7:Int) (ns:List NeedT) (c h:Int),shL 2 ns → Cur b c → EvP (fun k=>spec_l15Draw.j2 k xs x4 x7 false b c h f0 v0 v1 v2 v3 ns) P:=by
  intro x7 ns c h hn hc
  refine EvP.step (f:=?f101) (fun k=>?e101) ?g101
  case e101=>(simp only [spec_l15Draw.j2];rw [if_neg (by decide)])
  case g101=>
   refine EvP.bind (l1Once_p b c h 12 hc) (fun o ho=>EvP.ite (fun _=>EvP.bind (l5Need_p b _ _ ho) (fun n hn2=>EvP.ite (fun _=>app ns _ _ (hn.up (by decide)) hn2.2) (fun _=>EvP.bind (l5Put_p ns ⟨n.1,⟨n.2.1,n.2.2.1,n.2.2.2.1,n.2.2.2.2.1⟩⟩ (by have:=hn.2;omega)) (fun t ht=>app t _ _ (hn.put (need_sh hn2.1) ht) hn2.2)))) (fun _=>app ns _ _ (hn.up (by decide)) ho))
 intro d
 induction d with
 | zero=>
  intro ns c h hn hl hc
  refine EvP.step (f:=?f102) (fun k=>?e102) ?g102
  case e102=>(simp only [spec_l15Draw.l1];rw [if_neg (by omega)])
  case g102=>exact fin _ ns c h ⟨hn,hl⟩ hc
 | succ d ih=>
  intro ns c h hn hl hc
  by_cases hp:(xs.length:Int) > 0
  ·refine EvP.step (f:=fun k=>spec_l15Draw.j2 k xs x4 ((d + 1:Nat):Int) true b c h f0 v0 v1 v2 v3 ns) (fun k=>?e103) ?g103
   case e103=>(simp only [spec_l15Draw.l1];rw [if_pos (by omega),decide_eq_true hp])
   case g103=>
    have hw:wrap64 (((d + 1:Nat):Int) - 1)=(d:Int):=by rw [wrapI (by omega) (by omega)];omega
    refine EvP.step (f:=?f104) (fun k=>?e104) ?g104
    case e104=>(simp only [spec_l15Draw.j2];rw [if_pos trivial,hw])
    case g104=>
     refine EvP.bind (l1Below_p b c h _ hc) (fun a ha=>?_)
     have h1:=ha.1.1
     have h2:=ha.1.2.2 (by omega)
     have he:=hxs.1 _ (mem_rdE h1 h2)
     refine EvP.pos h1 (EvP.pos h2 (EvP.ite (fun _=>ih ns _ _ hn (by omega) ha.2) (fun _=>EvP.bind (l5Put_p ns ⟨(rd_T47 xs a.1).f0,(rd_T47 xs a.1).f1⟩ (by omega)) (fun t ht=>ih t _ _ (fun x hx=>?_) (by have:=ht.length;omega) ha.2))))
     rcases ht.mem hx with rfl | hx
     ·exact he.1
     ·exact hn x hx
  ·refine EvP.step (f:=fun k=>spec_l15Draw.j2 k xs x4 ((d + 1:Nat):Int) false b c h f0 v0 v1 v2 v3 ns) (fun k=>?e105) ?g105
   case e105=>(simp only [spec_l15Draw.l1];rw [if_pos (by omega),decide_eq_false hp])
   case g105=>exact fin _ ns c h ⟨hn,by omega⟩ hc
theorem l15Draw_p (b:List Int) (i h:Int) (c:Cur b i):EvP (fun k=>spec_l15Draw.f k b i h) (fun r=>okL 8 r.1 ∧ Cur b r.2.1):=by
 have key : ∀ (d m:Nat) (xs:List EntT) (i h:Int),m + d ≤ 8 → okL m xs → Cur b i → EvP (fun k=>spec_l15Draw.l0 k xs (d:Int) b i h) (fun r=>okL 8 r.1 ∧ Cur b r.2.1):=by
  intro d
  induction d with
  | zero=>
   intro m xs i h hd hx hc
   refine EvP.step (f:=fun _=>some (xs,i,h)) (fun k=>?_) (EvP.now ⟨hx.up (by omega),hc⟩)
   simp only [spec_l15Draw.l0]
   rw [if_neg (by omega)]
  | succ d ih=>
   intro m xs i h hd hx hc
   have hw:wrap64 (((d + 1:Nat):Int) - 1)=(d:Int):=by rw [wrapI (by omega) (by omega)];omega
   refine EvP.step (f:=?f106) (fun k=>?e106) ?g106
   case e106=>(simp only [spec_l15Draw.l0];rw [if_pos (by omega)])
   case g106=>
    refine EvP.bind (l5Need_p b i h hc) (fun n hn=>EvP.bind (l1Below_p b _ _ 3 hn.2) (fun a ha=>?_))
    have h1:=ha.1.1
    have h2:=ha.1.2.2 (by decide)
    obtain ⟨q,hq⟩ : ∃ q:Nat,a.1=q:=⟨a.1.toNat,by omega⟩
    rw [hq]
    refine draw_l1 b xs _ _ _ _ _ _ m _ (by omega) hx (path_short hn.1.1) (by decide) (fun xs' c' h' hx' hc'=>?_) q [] _ _ (fun x hx=>by cases hx) (by rw [List.length_nil];omega) ha.2
    rw [hw]
    exact ih (m + 1) xs' c' h' (by omega) hx' hc'
 unfold spec_l15Draw.f
 refine EvP.bind (l1Below_p b i h 7 c) (fun a ha=>?_)
 have h1:=ha.1.1
 have h2:=ha.1.2.2 (by decide)
 obtain ⟨q,hq⟩ : ∃ q:Nat,a.1=q:=⟨a.1.toNat,by omega⟩
 have hw:wrap64 (2 + a.1)=((q + 2:Nat):Int):=by rw [wrapI (by omega) (by omega)];omega
 rw [hw]
 exact key (q + 2) 0 [] _ _ (by omega) ⟨(fun x hx=>by cases hx),Nat.le_refl _⟩ ha.2
theorem l15Roots_p (b:List Int) (i h:Int) (xs:List EntT) (m:Nat) (hm:m ≤ 1000000) (hx:okL m xs) (c:Cur b i):EvP (fun k=>spec_l15Roots.f k b i h xs) (fun r=>shL 3 r.1 ∧ Cur b r.2.1):=by
 have hlen:=hx.2
 have fin : ∀ (x6:Int) (ns:List NeedT) (i h:Int),shL 3 ns → Cur b i → EvP (fun k=>spec_l15Roots.j1 k xs ns x6 false b i h) (fun r=>shL 3 r.1 ∧ Cur b r.2.1):=by
  intro x6 ns i h hn hc
  refine EvP.step (f:=fun _=>some (ns,i,h)) (fun k=>?_) (EvP.now ⟨hn,hc⟩)
  simp only [spec_l15Roots.j1]
  rw [if_neg (by decide)]
 have key : ∀ (d q:Nat) (ns:List NeedT) (i h:Int),q + d ≤ 3 → shL q ns → Cur b i → EvP (fun k=>spec_l15Roots.l0 k xs ns (d:Int) b i h) (fun r=>shL 3 r.1 ∧ Cur b r.2.1):=by
  intro d
  induction d with
  | zero=>
   intro q ns i h hq hn hc
   refine EvP.step (f:=fun k=>spec_l15Roots.j1 k xs ns ((0:Nat):Int) false b i h) (fun k=>?_) (fin _ ns i h (hn.up (by omega)) hc)
   simp only [spec_l15Roots.l0]
   rw [if_neg (by omega)]
  | succ d ih=>
   intro q ns i h hq hn hc
   have hw:wrap64 (((d + 1:Nat):Int) - 1)=(d:Int):=by rw [wrapI (by omega) (by omega)];omega
   by_cases hp:(xs.length:Int) > 0
   ·refine EvP.step (f:=fun k=>spec_l15Roots.j1 k xs ns ((d + 1:Nat):Int) true b i h) (fun k=>?e107) ?g107
    case e107=>(simp only [spec_l15Roots.l0];rw [if_pos (by omega),decide_eq_true hp])
    case g107=>
     refine EvP.step (f:=?f108) (fun k=>?e108) ?g108
     case e108=>(simp only [spec_l15Roots.j1];rw [if_pos trivial,hw])
     case g108=>
      refine EvP.bind (l1Below_p b i h _ hc) (fun a ha=>?_)
      have h1:=ha.1.1
      have h2:=ha.1.2.2 (by omega)
      have he:=hx.1 _ (mem_rdE h1 h2)
      exact EvP.pos h1 (EvP.pos h2 (EvP.bind (l5Put_p ns ⟨(rd_T47 xs a.1).f0,(rd_T47 xs a.1).f1⟩ (by have:=hn.2;omega)) (fun t ht=>ih (q + 1) t _ _ (by omega) (hn.put he.1 ht) ha.2)))
   ·refine EvP.step (f:=fun k=>spec_l15Roots.j1 k xs ns ((d + 1:Nat):Int) false b i h) (fun k=>?_) (fin _ ns i h (hn.up (by omega)) hc)
    simp only [spec_l15Roots.l0]
    rw [if_pos (by omega),decide_eq_false hp]
 unfold spec_l15Roots.f
 refine EvP.bind (l1Below_p b i h 3 c) (fun a ha=>?_)
 have h1:=ha.1.1
 have h2:=ha.1.2.2 (by decide)
 obtain ⟨q,hq⟩ : ∃ q:Nat,a.1=q:=⟨a.1.toNat,by omega⟩
 have hw:wrap64 (1 + a.1)=((q + 1:Nat):Int):=by rw [wrapI (by omega) (by omega)];omega
 rw [hw]
 exact key (q + 1) 0 [] _ _ (by omega) shL.nil ha.2
theorem l3Part_p (s:ByteArray) (hs:s.size ≤ 2147483648):EvP (fun k=>spec_l3Part.f k s) (fun _=>True):=by
 have key : ∀ (d i:Nat),i + d=s.size → EvP (fun k=>spec_l3Part.l0 k s (i:Int)) (fun _=>True):=by
  intro d
  induction d with
  | zero=>
   intro i hi
   refine EvP.step (f:=?f109) (fun k=>?e109) ?g109
   case e109=>(simp only [spec_l3Part.l0];rw [if_neg (by omega)])
   case g109=>
    exact EvP.bind (l1In_p _ _ _) (fun _ _=>EvP.ite (fun _=>EvP.bind (EvP.of (P:=fun _=>True) (l3Digits_ev s hs) trivial) (fun _ _=>EvP.ite (fun _=>EvP.bind (EvP.of (P:=fun _=>True) (l3Number_ev s hs) trivial) (fun _ _=>EvP.now trivial)) (fun _=>EvP.now trivial))) (fun _=>EvP.now trivial))
  | succ d ih=>
   intro i hi
   have hw:=wrapS (i:=i) (n:=s.size) (by omega) (by omega)
   have hn:=ih (i + 1) (by omega)
   refine EvP.step (f:=?f110) (fun k=>?e110) ?g110
   case e110=>(simp only [spec_l3Part.l0];rw [if_pos (by omega),if_pos (by omega),hw])
   case g110=>
    exact EvP.bind (l1In_p _ _ _) (fun _ _=>EvP.ite (fun _=>hn) (fun _=>EvP.bind (l1In_p _ _ _) (fun _ _=>EvP.ite (fun _=>hn) (fun _=>EvP.bind (l1In_p _ _ _) (fun _ _=>EvP.ite (fun _=>hn) (fun _=>EvP.ite (fun _=>hn) (fun _=>EvP.now trivial)))))))
 exact key s.size 0 (Nat.zero_add _)
theorem l3Pre_p (s:ByteArray) (hs:s.size ≤ 2147483648):EvP (fun k=>spec_l3Pre.f k s) (fun _=>True):=by
 refine EvP.bind (EvP.of (split_spec s 46 46 rfl hs) rfl) (fun xs hx=>?_)
 subst hx
 have hp:=partsL 46 s hs
 generalize splitL 46 (dl s)=xs at hp
 have key : ∀ (d i:Nat),i + d=xs.length → EvP (fun k=>spec_l3Pre.l0 k (xs.map bv) (i:Int)) (fun _=>True):=by
  intro d
  induction d with
  | zero=>
   intro i hi
   refine EvP.step (f:=?f111) (fun k=>?e111) ?g111
   case e111=>(simp only [spec_l3Pre.l0];rw [if_neg (by rw [List.length_map];omega)])
   case g111=>exact EvP.now trivial
  | succ d ih=>
   intro i hi
   have h2:=hp.2
   have hlx:i < xs.length:=by omega
   have hw:=wrapS hlx (by omega)
   have hm:=hp.1 _ (getD_mem (z:=[]) hlx)
   refine EvP.step (f:=?f112) (fun k=>?e112) ?g112
   case e112=>(simp only [spec_l3Pre.l0];rw [if_pos (by rw [List.length_map];omega),if_pos (by omega),rd_bv xs i hlx,hw])
   case g112=>exact EvP.bind (l3Part_p _ (by rw [size_bv];exact hm)) (fun _ _=>EvP.ite (fun _=>ih (i + 1) (by omega)) (fun _=>EvP.now trivial))
 exact key xs.length 0 (Nat.zero_add _)
theorem VersionOk_p (a b c:Int) (s:ByteArray) (hs:s.size ≤ 2147483648):EvP (fun k=>spec_VersionOk.f k a b c s) (fun _=>True):=
 EvP.bind (l1In_p _ _ _) (fun _ _=>EvP.ite (fun _=>EvP.bind (l1In_p _ _ _) (fun _ _=>EvP.ite (fun _=>EvP.bind (l1In_p _ _ _) (fun _ _=>EvP.ite (fun _=>EvP.ite (fun _=>EvP.now trivial) (fun _=>EvP.bind (l3Pre_p s hs) (fun _ _=>EvP.now trivial))) (fun _=>EvP.now trivial))) (fun _=>EvP.now trivial))) (fun _=>EvP.now trivial))
theorem Fits_p (p:ByteArray) (a b c:Int) (s:ByteArray) (hp:p.size ≤ 2147483648) (hs:s.size ≤ 2147483648):EvP (fun k=>spec_Fits.f k p a b c s) (fun _=>True):=
 EvP.bind (MajorOf_p p hp) (fun _ _=>EvP.ite (fun _=>EvP.bind (VersionOk_p a b c s hs) (fun _ _=>EvP.ite (fun _=>EvP.ite (fun _=>EvP.now trivial) (fun _=>EvP.ite (fun _=>EvP.now trivial) (fun _=>EvP.now trivial))) (fun _=>EvP.now trivial))) (fun _=>EvP.now trivial))
theorem NeedOk_p (n:NeedT) (h:shN n):EvP (fun k=>spec_NeedOk.f k n.f0 n.f1.f0 n.f1.f1 n.f1.f2 n.f1.f3) (fun _=>True):=
 EvP.bind (Fits_p _ _ _ _ _ (by have:=h.1;omega) (by have:=h.2;omega)) (fun _ _=>EvP.now trivial)
theorem l5Rising_p (l:List NeedT) (m:Nat) (hm:m ≤ 1000000) (h:shL m l):EvP (fun k=>spec_l5Rising.f k l) (fun _=>True):=by
 have h2:=h.2
 have key : ∀ (d i:Nat),i + d=l.length → EvP (fun k=>spec_l5Rising.l0 k l (i:Int)) (fun _=>True):=by
  intro d
  induction d with
  | zero=>
   intro i hi
   refine EvP.step (f:=?f113) (fun k=>?e113) ?g113
   case e113=>(simp only [spec_l5Rising.l0];rw [if_neg (by omega)])
   case g113=>exact EvP.now trivial
  | succ d ih=>
   intro i hi
   have hlx:i < l.length:=by omega
   have hw:=wrapS hlx (by omega)
   have hn:=ih (i + 1) (by omega)
   refine EvP.step (f:=?f114) (fun k=>?e114) ?g114
   case e114=>(simp only [spec_l5Rising.l0];rw [if_pos (by omega),if_pos (by omega),hw])
   case g114=>
    refine EvP.bind (NeedOk_p _ (h.1 _ (mem_rdN (by omega) (by omega)))) (fun _ _=>EvP.ite (fun _=>EvP.ite (fun h0=>?_) (fun _=>hn)) (fun _=>EvP.now trivial))
    have hb:wrap64 ((i:Int) - 1)=(i:Int) - 1:=wrapI (by omega) (by omega)
    exact EvP.pos (by rw [hb];omega) (EvP.pos (by rw [hb];omega) (EvP.ite (fun _=>hn) (fun _=>EvP.now trivial)))
 exact key l.length 0 (Nat.zero_add _)
theorem NeedsOk_p (l:List NeedT) (m:Nat) (hm:m ≤ 1000000) (h:shL m l):EvP (fun k=>spec_NeedsOk.f k l) (fun _=>True):=
 EvP.ite (fun _=>EvP.bind (l5Rising_p l m hm h) (fun _ _=>EvP.now trivial)) (fun _=>EvP.now trivial)
theorem EntryOk_p (e:EntT) (h:okE e):EvP (fun k=>spec_EntryOk.f k e.f0 e.f1.f0 e.f1.f1 e.f1.f2 e.f1.f3 e.f2) (fun _=>True):=by
 have h1:e.f0.size ≤ 9:=h.1.1
 have h3:e.f1.f3.size ≤ 6:=h.1.2
 have h2:=h.2.2
 have key : ∀ (d i:Nat),i + d=e.f2.length → EvP (fun k=>spec_EntryOk.l0 k (i:Int) e.f0 e.f1.f0 e.f1.f1 e.f1.f2 e.f1.f3 e.f2) (fun _=>True):=by
  intro d
  induction d with
  | zero=>
   intro i hi
   refine EvP.step (f:=?f115) (fun k=>?e115) ?g115
   case e115=>(simp only [spec_EntryOk.l0];rw [if_neg (by omega)])
   case g115=>exact EvP.bind (Fits_p _ _ _ _ _ (by omega) (by omega)) (fun _ _=>EvP.ite (fun _=>EvP.ite (fun _=>EvP.bind (l5Rising_p e.f2 3 (by decide) h.2) (fun _ _=>EvP.now trivial)) (fun _=>EvP.now trivial)) (fun _=>EvP.now trivial))
  | succ d ih=>
   intro i hi
   have hlx:i < e.f2.length:=by omega
   have hw:=wrapS hlx (by omega)
   refine EvP.step (f:=?f116) (fun k=>?e116) ?g116
   case e116=>(simp only [spec_EntryOk.l0];rw [if_pos (by omega),if_pos (by omega),hw])
   case g116=>exact EvP.ite (fun _=>EvP.now trivial) (fun _=>ih (i + 1) (by omega))
 exact key e.f2.length 0 (Nat.zero_add _)
theorem l16Has_p (l:List NeedT) (n:NeedT) (h:l.length ≤ 1000000):EvP (fun k=>spec_l16Has.f k l n.f0 n.f1.f0 n.f1.f1 n.f1.f2 n.f1.f3) (fun _=>True):=by
 have key : ∀ (d i:Nat),i + d=l.length → EvP (fun k=>spec_l16Has.l0 k l (i:Int) n.f0 n.f1.f0 n.f1.f1 n.f1.f2 n.f1.f3) (fun _=>True):=by
  intro d
  induction d with
  | zero=>
   intro i hi
   refine EvP.step (f:=?f117) (fun k=>?e117) ?g117
   case e117=>(simp only [spec_l16Has.l0];rw [if_neg (by omega)])
   case g117=>exact EvP.now trivial
  | succ d ih=>
   intro i hi
   have hlx:i < l.length:=by omega
   have hw:=wrapS hlx (by omega)
   refine EvP.step (f:=?f118) (fun k=>?e118) ?g118
   case e118=>(simp only [spec_l16Has.l0];rw [if_pos (by omega),if_pos (by omega),hw])
   case g118=>exact EvP.ite (fun _=>EvP.now trivial) (fun _=>ih (i + 1) (by omega))
 exact key l.length 0 (Nat.zero_add _)
theorem l16Max_p (l:List NeedT) (n:NeedT) (m:Nat) (hm:m ≤ 1000000) (h:shL m l) (hn:shN n):EvP (fun k=>spec_l16Max.f k l n.f0 n.f1.f0 n.f1.f1 n.f1.f2 n.f1.f3) (shL (m + 1)):=by
 have h2:=h.2
 have hn2:=hn.2
 have key : ∀ (d i:Nat),i + d=l.length → EvP (fun k=>spec_l16Max.l0 k l (i:Int) n.f0 n.f1.f0 n.f1.f1 n.f1.f2 n.f1.f3) (shL (m + 1)):=by
  intro d
  induction d with
  | zero=>
   intro i hi
   refine EvP.step (f:=?f119) (fun k=>?e119) ?g119
   case e119=>(simp only [spec_l16Max.l0];rw [if_neg (by omega)])
   case g119=>exact EvP.bind (l5Put_p l n (by omega)) (fun t ht=>EvP.now (h.put hn ht))
  | succ d ih=>
   intro i hi
   have hlx:i < l.length:=by omega
   have hw:=wrapS hlx (by omega)
   have hx:=(h.1 _ (mem_rdN (i:=(i:Int)) (by omega) (by omega))).2
   refine EvP.step (f:=?f120) (fun k=>?e120) ?g120
   case e120=>(simp only [spec_l16Max.l0];rw [if_pos (by omega),if_pos (by omega),hw])
   case g120=>exact EvP.ite (fun _=>EvP.bind (EvP.of (P:=fun _=>True) (lessS_ev _ _ _ _ _ _ _ _ (by omega) (by omega)) trivial) (fun _ _=>EvP.ite (fun _=>ih (i + 1) (by omega)) (fun _=>EvP.now (h.up (by omega))))) (fun _=>ih (i + 1) (by omega))
 exact key l.length 0 (Nat.zero_add _)
theorem at15_p (xs:List EntT) (n:NeedT) (m:Nat) (hm:m ≤ 1000000) (hx:okL m xs):EvP (fun k=>spec_l15At.f k xs n.f0 n.f1.f0 n.f1.f1 n.f1.f2 n.f1.f3) (fun t=>t < 0 ∨ (0 ≤ t ∧ t < (xs.length:Int))):=by
 have hl:=hx.2
 refine EvP.of (at15 xs n.f0 n.f1.f0 n.f1.f1 n.f1.f2 n.f1.f3 (by omega)) ?_
 by_cases h:feN xs n < 0
 ·exact .inl h
 ·obtain ⟨i,hi,e⟩:=fe_range xs n h
  have e2:fe xs n.f0 n.f1.f0 n.f1.f1 n.f1.f2 n.f1.f3=(i:Int):=e
  rw [e2]
  exact .inr ⟨by omega,by omega⟩
theorem reach_l1 (xs:List EntT) (m:Nat) (hm:m ≤ 1000000) (hx:okL m xs) (x8:Int) (j:Nat) (hj:j < xs.length)
 (K : ∀ row:List NeedT,shL 60 row → EvP (fun k=>spec_Reach.l0 k xs [] row (wrap64 (x8 + 1))) (fun r=>shL 60 r.1)) :
 ∀ (d i:Nat) (row:List NeedT),i + d=(rd_T47 xs (j:Int)).f2.length → shL 60 row → EvP (fun k=>spec_Reach.l1 k xs [] row x8 (j:Int) (i:Int)) (fun r=>shL 60 r.1):=by
 have he:=hx.1 _ (mem_rdE (i:=(j:Int)) (by omega) (by omega))
 have h2:=he.2.2
 intro d
 induction d with
 | zero=>
  intro i row hi hr
  refine EvP.step (f:=?f121) (fun k=>?e121) ?g121
  case e121=>(simp only [spec_Reach.l1];rw [if_pos (by omega),if_pos (by omega),if_neg (by omega)])
  case g121=>exact K row hr
 | succ d ih=>
  intro i row hi hr
  have hr2:=hr.2
  have hlx:i < (rd_T47 xs (j:Int)).f2.length:=by omega
  have hw:=wrapS hlx (by omega)
  have hn:=he.2.1 _ (mem_rdN (i:=(i:Int)) (by omega) (by omega))
  refine EvP.step (f:=?f122) (fun k=>?e122) ?g122
  case e122=>(simp only [spec_Reach.l1];rw [if_pos (by omega),if_pos (by omega),if_pos (by omega),if_pos (by omega),hw])
  case g122=>
   refine EvP.bind (l16Has_p row _ (by omega)) (fun t _=>EvP.ite (fun _=>EvP.neg (by omega) (ih (i + 1) row (by omega) hr)) (fun _=>EvP.pos (by omega) (EvP.bind (EvP.now (P:=shL 61) (hr.snoc hn)) (fun y hy=>EvP.ite (fun _=>EvP.now (shL.nil.up (by decide))) (fun h=>ih (i + 1) y (by omega) ⟨hy.1,by omega⟩)))))
theorem Reach_p (xs:List EntT) (ns:List NeedT) (m:Nat) (hm:m ≤ 1000000) (hx:okL m xs) (hn:shL 60 ns):EvP (fun k=>spec_Reach.f k xs ns) (fun r=>shL 60 r.1):=by
 have hxl:=hx.2
 have key : ∀ (d i:Nat) (row:List NeedT),i + d=61 → shL 60 row → EvP (fun k=>spec_Reach.l0 k xs [] row (i:Int)) (fun r=>shL 60 r.1):=by
  intro d
  induction d with
  | zero=>
   intro i row hi hr
   have:=hr.2
   refine EvP.step (f:=?f123) (fun k=>?e123) ?g123
   case e123=>(simp only [spec_Reach.l0];rw [if_neg (by omega)])
   case g123=>exact EvP.now hr
  | succ d ih=>
   intro i row hi hr
   have hr2:=hr.2
   by_cases hlx:i < row.length
   ·have hw:wrap64 ((i:Int) + 1)=((i + 1:Nat):Int):=wrapS hlx (by omega)
    have hj : ∀ (x9:Int) (c:Bool),(c=false → 0 ≤ x9 ∧ x9 < (xs.length:Int)) → EvP (fun k=>spec_Reach.j1 k xs [] row (i:Int) x9 c) (fun r=>shL 60 r.1):=by
     intro x9 c hc
     cases c with
     | true=>
      refine EvP.step (f:=?f124) (fun k=>?e124) ?g124
      case e124=>(simp only [spec_Reach.j1];rw [if_pos trivial])
      case g124=>exact EvP.now (shL.nil.up (by decide))
     | false=>
      have hq:=hc rfl
      obtain ⟨q,rfl⟩ : ∃ q:Nat,x9=q:=⟨x9.toNat,by omega⟩
      refine EvP.step (f:=fun k=>spec_Reach.l1 k xs [] row (i:Int) (q:Int) ((0:Nat):Int)) (fun k=>?e125) ?g125
      case e125=>(simp only [spec_Reach.j1];rw [if_neg (by decide)];rfl)
      case g125=>exact reach_l1 xs m hm hx (i:Int) q (by omega) (fun row' hr'=>by rw [hw];exact ih (i + 1) row' (by omega) hr') _ 0 row (Nat.zero_add _) hr
    refine EvP.step (f:=?f126) (fun k=>?e126) ?g126
    case e126=>(simp only [spec_Reach.l0];rw [if_pos (by omega),if_pos (by omega)])
    case g126=>
     refine EvP.bind (at15_p xs _ m hm hx) (fun t ht=>?_)
     exact EvP.ite (fun h0=>hj t true (fun e=>by cases e)) (fun h0=>EvP.pos (by omega) (EvP.pos (by omega) (EvP.bind (EntryOk_p _ (hx.1 _ (mem_rdE (by omega) (by omega)))) (fun u _=>hj t _ (fun _=>⟨by omega,by omega⟩)))))
   ·refine EvP.step (f:=?f127) (fun k=>?e127) ?g127
    case e127=>(simp only [spec_Reach.l0];rw [if_neg (by omega)])
    case g127=>exact EvP.now hr
 have hn2:=hn.2
 unfold spec_Reach.f
 refine EvP.bind (EvP.now (P:=fun r=>r=[]) rfl) (fun y hy=>?_)
 subst hy
 refine EvP.bind (NeedsOk_p ns 60 (by decide) hn) (fun t _=>EvP.ite (fun _=>EvP.bind (EvP.now (P:=fun r=>r=[]) rfl) (fun z hz=>?_)) (fun _=>EvP.now (shL.nil.up (by decide))))
 subst hz
 exact EvP.pos (by rw [List.length_nil];omega) (by rw [List.nil_append];exact key 61 0 ns rfl hn)
theorem Select_p (xs:List EntT) (ns:List NeedT) (m:Nat) (hm:m ≤ 1000000) (hx:okL m xs) (hn:shL 60 ns):EvP (fun k=>spec_Select.f k xs ns) (fun r=>shL 60 r.1):=by
 unfold spec_Select.f
 refine EvP.bind (Reach_p xs ns m hm hx hn) (fun r hr=>?_)
 have hr2:=hr.2
 have key : ∀ (d i:Nat) (out:List NeedT),i + d=r.1.length → shL i out → EvP (fun k=>spec_Select.l0 k r.1 r.2 out (i:Int)) (fun r=>shL 60 r.1):=by
  intro d
  induction d with
  | zero=>
   intro i out hi ho
   refine EvP.step (f:=?f128) (fun k=>?e128) ?g128
   case e128=>(simp only [spec_Select.l0];rw [if_neg (by omega)])
   case g128=>exact EvP.now (ho.up (by omega))
  | succ d ih=>
   intro i out hi ho
   have hlx:i < r.1.length:=by omega
   have hw:=wrapS hlx (by omega)
   refine EvP.step (f:=?f129) (fun k=>?e129) ?g129
   case e129=>(simp only [spec_Select.l0];rw [if_pos (by omega),if_pos (by omega),hw])
   case g129=>exact EvP.bind (l16Max_p out _ i (by omega) ho (hr.1 _ (mem_rdN (by omega) (by omega)))) (fun t ht=>ih (i + 1) t (by omega) ht)
 exact key r.1.length 0 [] (Nat.zero_add _) shL.nil
theorem DrawClosed_p (b:List Int) (hb:b.length ≤ 140737488355328):EvP (fun k=>spec_DrawClosed.f k b) (fun r=>okL 8 r.1 ∧ shL 60 r.2):=by
 unfold spec_DrawClosed.f
 refine EvP.bind (l1New_p b hb) (fun c hc=>?_)
 obtain ⟨e,hc⟩:=hc
 rw [e]
 refine EvP.bind (l15Draw_p b _ _ hc) (fun l hl=>EvP.bind (l15Roots_p b _ _ l.1 8 (by decide) hl.1 hl.2) (fun r hr=>EvP.bind (l1Once_p b _ _ 2 hr.2) (fun o ho=>EvP.ite (fun _=>EvP.bind (Select_p l.1 r.1 8 (by decide) hl.1 (hr.1.up (by decide))) (fun s hs=>EvP.ite (fun _=>EvP.now ⟨hl.1,hs⟩) (fun _=>EvP.now ⟨hl.1,hr.1.up (by decide)⟩))) (fun _=>EvP.now ⟨hl.1,hr.1.up (by decide)⟩))))
end Go.Proofs.YtmkdeknpphimbaaDoor.PFnClosed
