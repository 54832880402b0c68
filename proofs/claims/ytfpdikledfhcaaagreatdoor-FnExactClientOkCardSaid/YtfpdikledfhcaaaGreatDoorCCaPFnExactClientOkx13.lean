import Derived.Test.YtfpdikledfhcaaaGreatDoorCCaPFnExactClientOkx0
import Derived.Test.YtfpdikledfhcaaaGreatDoorCCaPFnExactClientOkx12
namespace Go.Proofs.YtfpdikledfhcaaaGreatDoor.PFnExactClientOk
open Go.RowKit Go.Proofs.YtfpdikledfhcaaaGreatDoorW.PrintWords Go.Proofs.YtfpdikledfhcaaaGreatDoorW.PrintLast Go.Proofs.YtfpdikledfhcaaaGreatDoorW.PrintMore
attribute [local go_sem] max2_int min2_int max_two min_two max_three min_three max_four min_four
set_option linter.unusedVariables false
set_option linter.unusedSimpArgs false
def impl_ascending.l0:Nat → List (S58) → Int → List (S58) → Int → Int → Option (Bool)
 | 0,_,_,_,_,_=>none
 | k + 1,x0,x1,x7,x8,x9=>if x9 < x8 then (if 0 ≤ x9 then (if x9 < (x7.length:Int) then ((impl_NeedOk.f k ((rd_T58 x7 x9).f0) ((rd_T58 x7 x9).f1.f0) ((rd_T58 x7 x9).f1.f1) ((rd_T58 x7 x9).f1.f2) ((rd_T58 x7 x9).f1.f3)).bind fun t286=>(if t286=true then (if x9 > 0 then (if 0 ≤ (wrap64 (x9 - 1)) then (if (wrap64 (x9 - 1)) < (x0.length:Int) then (if (Op.bytesLess (((rd_T58 x7 x9).f0).toList) (((rd_T58 x0 (wrap64 (x9 - 1))).f0).toList))=true then (some false) else (if ((rd_T58 x7 x9).f0).toList=((rd_T58 x0 (wrap64 (x9 - 1))).f0).toList then (some false) else (impl_ascending.l0 k x0 x1 x7 x8 (wrap64 (x9 + 1))))) else (none)) else (none)) else (impl_ascending.l0 k x0 x1 x7 x8 (wrap64 (x9 + 1)))) else (some false))) else (none)) else (none)) else (some (decide ((x0.length:Int) ≤ x1)))
def impl_ascending.f (k:Nat) (l0:List (S58)) (a1:Int):Option (Bool):=impl_ascending.l0 k l0 a1 l0 (l0.length:Int) 0
theorem impl_ascending.mono_l : ∀ k,(∀ y0 y1 y2 y3 y4,LeO (impl_ascending.l0 k y0 y1 y2 y3 y4) (impl_ascending.l0 (k + 1) y0 y1 y2 y3 y4))
 | 0=>fun _ _ _ _ _ r h=>by simp [impl_ascending.l0] at h
 | k + 1=>by
  have ih0:=impl_ascending.mono_l k
  ·intro y0 y1 y2 y3 y4;unfold impl_ascending.l0
   repeat' first
   | (with_reducible exact ih0 _ _ _ _ _)
   | (with_reducible exact impl_NeedOk.mono _ _ _ _ _ _)
   | (with_reducible exact LeO.refl _)
   | (with_reducible refine LeO.ite ?_ ?_)
   | (with_reducible refine LeO.bind ?_ (fun _=>?_))
theorem impl_ascending.mono : ∀ a0 a1 k,LeO (impl_ascending.f k a0 a1) (impl_ascending.f (k + 1) a0 a1):=by
 intro a0 a1 k;have ih0:=impl_ascending.mono_l k;unfold impl_ascending.f
 repeat' (with_reducible exact ih0 _ _ _ _ _)
def impl_ascending.T4:Bool × List (List Nat × List Nat):=(true,[([],[]),([0],[0]),([1],[1]),([2,1],[2]),([3],[3]),([4,3],[3,4]),([5,3,3],[3,5]),([6],[6]),([7,6],[6,7]),([6],[6]),([6],[6]),([10,6],[6,10]),([9,11,6],[6,9,11]),([12,6],[6,12]),([13,6],[6,13]),([8,14,6],[6,8,14]),([6,15,3],[3,6,15]),([3,16],[3,16])])
def impl_ascending.B4:List Nat:=[0,1,3,7,15,31,63,127,255,127,127,1151,3711,7807,15999,32767,65535,131071]
theorem impl_ascending.tab4:rtab .any (opsOf Tryz.f66 4)=impl_ascending.T4:=by kernel_rfl
theorem impl_ascending.bits4:waitsOk impl_ascending.T4.2 impl_ascending.B4=true:=by kernel_rfl
set_option maxHeartbeats 8000000 in
set_option maxRecDepth 100000 in
theorem impl_ascending.calls (k:Nat) (A0:Option Addr) (c0:Nat) (l0:List (S58)) (a1:Int) (r:Bool) (w:World) (hr0:Kd.C k58 w A0 l0.length l0) (hc0:l0.length ≤ c0) (h:impl_ascending.f k l0 a1=some r) :
 Calls Tryz.prog 66 #[.slice A0 l0.length c0,.int .i64 a1] w fun e w'=>e = .returned (.bool r) ∧ Below w.heap.size w w':=by
 have hu58:=Tryz.underlying58;have HR0:=a_ hr0;have HC0:=a_ hc0;clear hr0 hc0;have HB:=a_ (Below.refl w.heap.size w);have H:(impl_ascending.l0 k l0 a1 l0 (l0.length:Int) 0)=some r:=h;clear h;have H':=a_ H;clear H
 go_enter Tryz.func66,Tryz.ntmps66
 go_wp2
 go_loopg [9] k (fun kq v9 w'=>∃ (x9_1:Int),v9 = .int .i64 x9_1 ∧ Aside0 (impl_ascending.l0 kq l0 a1 l0 (l0.length:Int) x9_1=some r) ∧ Aside0 (kq ≤ k) ∧ Aside0 (Below w.heap.size w w'))
 case atStart=>exact ⟨(0),(by rfl),H',⟨Nat.le_refl _⟩,⟨by exact HB.out⟩⟩
 case round=>
  clear H';obtain ⟨x9_1,rfl,HA,HK1,HB⟩:=hrel
  cases gk with
  | zero=>exact absurd HA.out (by simp [impl_ascending.l0])
  | succ k1=>
   have H:=HA.out;clear HA;simp only [impl_ascending.l0] at H
   by_cases c3:x9_1 < (l0.length:Int)
   ·rw [if_pos c3] at H;have c3b0:decide (x9_1 < (l0.length:Int))=true:=decide_eq_true c3;clear c3
    by_cases c4:0 ≤ x9_1
    ·rw [if_pos c4] at H;have c4b0:decide (0 ≤ x9_1)=true:=decide_eq_true c4;clear c4
     by_cases c5:x9_1 < (l0.length:Int)
     ·rw [if_pos c5] at H;have c5b0:decide (x9_1 < (l0.length:Int))=true:=decide_eq_true c5;clear c5;replace H:=Option.bind_eq_some_iff.mp H;obtain ⟨t286,A60,H⟩:=H;replace H:(if t286=true then (if x9_1 > 0 then (if 0 ≤ (wrap64 (x9_1 - 1)) then (if (wrap64 (x9_1 - 1)) < (l0.length:Int) then (if (Op.bytesLess (((rd_T58 l0 x9_1).f0).toList) (((rd_T58 l0 (wrap64 (x9_1 - 1))).f0).toList))=true then (some false) else (if ((rd_T58 l0 x9_1).f0).toList=((rd_T58 l0 (wrap64 (x9_1 - 1))).f0).toList then (some false) else (impl_ascending.l0 k1 l0 a1 l0 (l0.length:Int) (wrap64 (x9_1 + 1))))) else (none)) else (none)) else (impl_ascending.l0 k1 l0 a1 l0 (l0.length:Int) (wrap64 (x9_1 + 1)))) else (some false))=some r:=H
      have A6:=a_ A60;clear A60
      by_cases c7:t286=true
      ·subst c7;have H1:(if x9_1 > 0 then (if 0 ≤ (wrap64 (x9_1 - 1)) then (if (wrap64 (x9_1 - 1)) < (l0.length:Int) then (if (Op.bytesLess (((rd_T58 l0 x9_1).f0).toList) (((rd_T58 l0 (wrap64 (x9_1 - 1))).f0).toList))=true then (some false) else (if ((rd_T58 l0 x9_1).f0).toList=((rd_T58 l0 (wrap64 (x9_1 - 1))).f0).toList then (some false) else (impl_ascending.l0 k1 l0 a1 l0 (l0.length:Int) (wrap64 (x9_1 + 1))))) else (none)) else (none)) else (impl_ascending.l0 k1 l0 a1 l0 (l0.length:Int) (wrap64 (x9_1 + 1))))=some r:=by rw [if_pos rfl] at H;exact H
       clear H;have H:=H1;clear H1
       by_cases c8:x9_1 > 0
       ·rw [if_pos c8] at H;have c8b0:decide (0 < x9_1)=true:=decide_eq_true c8;clear c8;obtain ⟨ji9,hji9⟩ : ∃ j_:Int,(wrap64 (x9_1 - 1))=j_:=⟨_,rfl⟩;replace H:(if 0 ≤ (ji9) then (if (ji9) < (l0.length:Int) then (if (Op.bytesLess (((rd_T58 l0 x9_1).f0).toList) (((rd_T58 l0 (ji9)).f0).toList))=true then (some false) else (if ((rd_T58 l0 x9_1).f0).toList=((rd_T58 l0 (ji9)).f0).toList then (some false) else (impl_ascending.l0 k1 l0 a1 l0 (l0.length:Int) (wrap64 (x9_1 + 1))))) else (none)) else (none))=some r:=by (rw [hji9] at H;exact H)
        (skip)
        have hji9w:(IntKind.i64.wrap (x9_1 - 1))=ji9:=(i64_w _).trans hji9
        by_cases c10:0 ≤ (ji9)
        ·rw [if_pos c10] at H;have c10b0:decide (0 ≤ (ji9))=true:=decide_eq_true c10;clear c10
         by_cases c11:(ji9) < (l0.length:Int)
         ·rw [if_pos c11] at H;have c11b0:decide ((ji9) < (l0.length:Int))=true:=decide_eq_true c11;clear c11
          by_cases c12:(Op.bytesLess (((rd_T58 l0 x9_1).f0).toList) (((rd_T58 l0 (ji9)).f0).toList))=true
          ·rw [if_pos c12] at H;have c12b0:(Op.bytesLess (((rd_T58 l0 x9_1).f0).toList) (((rd_T58 l0 (ji9)).f0).toList))=true:=c12;clear c12;obtain rfl:=Option.some.inj H;have p284:0 ≤ (x9_1:Int):=of_decide_eq_true (by (with_reducible assumption));have q284:x9_1 < (l0.length:Int):=of_decide_eq_true (by (with_reducible assumption));obtain ⟨ad284,e284,hx284_0,hx284_1,hx284_2,hx284_3,hx284_4⟩:=at_T58 HR0.out x9_1 p284 q284
           cases e284;replace hx284_0:=bc_ HB hx284_0
           replace hx284_1:=bc_ HB hx284_1;replace hx284_2:=bc_ HB hx284_2;replace hx284_3:=bc_ HB hx284_3;replace hx284_4:=bc_ HB hx284_4;replace p284:=eq_true p284;replace q284:=eq_true q284
           try go_wp2_with (first | ((with_reducible refine gate_dst (N:=6) rfl ?_);refine box_event ?hg (N:=6) ?hd (cs:=#[.string (⟨#[]⟩:ByteArray),.int .i64 0,.int .i64 0,.int .i64 0,.string (⟨#[]⟩:ByteArray)]) (t:=58) ?hr ?_;(case hd=>rfl);(case hg=>rfl);(case hr=>(go_simp;done));intro gb285 hg w13 hbox hb;have n0_:=a_ (below_step HB.out hb);have n1_:=a_ (hbox);have n2_:=a_ ((by rw [hg];exact (below_size HB.out):w.heap.size ≤ gb285));have n3_:=a_ ((by rw [hg];exact (below_size HB.out):w.heap.size ≤ gb285));clear HB;have HB:=n0_;have BK285:=n1_;have GW285:=n2_;have GE285:=n3_;clear n0_ n1_ n2_ n3_;clear hb hbox hg;have hcz14_0:w13.cell? ⟨gb285,0,none⟩=some (.string (⟨#[]⟩:ByteArray)):=(blk_cell BK285.out 0).trans rfl;have hcz14_1:w13.cell? ⟨gb285,1,none⟩=some (.int .i64 0):=(blk_cell BK285.out 1).trans rfl;have hcz14_2:w13.cell? ⟨gb285,2,none⟩=some (.int .i64 0):=(blk_cell BK285.out 2).trans rfl;have hcz14_3:w13.cell? ⟨gb285,3,none⟩=some (.int .i64 0):=(blk_cell BK285.out 3).trans rfl;have hcz14_4:w13.cell? ⟨gb285,4,none⟩=some (.string (⟨#[]⟩:ByteArray)):=(blk_cell BK285.out 4).trans rfl;have hfz14_0:=blk_frozen BK285.out 0;have hfz14_1:=blk_frozen BK285.out 1;have hfz14_2:=blk_frozen BK285.out 2;have hfz14_3:=blk_frozen BK285.out 3;have hfz14_4:=blk_frozen BK285.out 4) | ((with_reducible refine gate_store (t:=58) (p:=6) rfl ?_);refine store_event (t:=58) (p:=6) (v:=?vo_w15) (w1:=(((((w13.setCell ⟨gb285,0,none⟩ (.string ((rd_T58 l0 x9_1).f0))).setCell ⟨gb285,1,none⟩ (.int .i64 ((rd_T58 l0 x9_1).f1.f0))).setCell ⟨gb285,2,none⟩ (.int .i64 ((rd_T58 l0 x9_1).f1.f1))).setCell ⟨gb285,3,none⟩ (.int .i64 ((rd_T58 l0 x9_1).f1.f2))).setCell ⟨gb285,4,none⟩ (.string ((rd_T58 l0 x9_1).f1.f3)))) ?hg ?ho ?hn ?hr ?_;(case ho=>rfl);(case hg=>rfl);(case hn=>rfl);(case hr=>(go_simp;done));intro w15 hw;have n0_:Aside0 (w15.heap[gb285]? = some (.cells #[.string ((rd_T58 l0 x9_1).f0),.int .i64 ((rd_T58 l0 x9_1).f1.f0),.int .i64 ((rd_T58 l0 x9_1).f1.f1),.int .i64 ((rd_T58 l0 x9_1).f1.f2),.string ((rd_T58 l0 x9_1).f1.f3)] 58 (0,0))):=⟨(by rw [hw];exact (by refine blk_put (cs:=#[.string ((rd_T58 l0 x9_1).f0),.int .i64 ((rd_T58 l0 x9_1).f1.f0),.int .i64 ((rd_T58 l0 x9_1).f1.f1),.int .i64 ((rd_T58 l0 x9_1).f1.f2),.string (⟨#[]⟩:ByteArray)]) ?_ 4 _ rfl;refine blk_put (cs:=#[.string ((rd_T58 l0 x9_1).f0),.int .i64 ((rd_T58 l0 x9_1).f1.f0),.int .i64 ((rd_T58 l0 x9_1).f1.f1),.int .i64 0,.string (⟨#[]⟩:ByteArray)]) ?_ 3 _ rfl;refine blk_put (cs:=#[.string ((rd_T58 l0 x9_1).f0),.int .i64 ((rd_T58 l0 x9_1).f1.f0),.int .i64 0,.int .i64 0,.string (⟨#[]⟩:ByteArray)]) ?_ 2 _ rfl;refine blk_put (cs:=#[.string ((rd_T58 l0 x9_1).f0),.int .i64 0,.int .i64 0,.int .i64 0,.string (⟨#[]⟩:ByteArray)]) ?_ 1 _ rfl;refine blk_put (cs:=#[.string (⟨#[]⟩:ByteArray),.int .i64 0,.int .i64 0,.int .i64 0,.string (⟨#[]⟩:ByteArray)]) ?_ 0 _ rfl;exact BK285.out))⟩;have n1_:Aside0 (Below w.heap.size w w15):=⟨(by rw [hw];exact (by repeat (with_reducible first | exact HB.out | refine below_set ?_ GE285.out)))⟩;clear hw;clear BK285;clear HB;have BK285:=n0_;have HB:=n1_;clear n0_ n1_))
           have n0_:=a_ (blk_drew BK285.out);have n1_:=a_ (below_drew1 HB.out);clear BK285;clear HB;have BK285:=n0_;have HB:=n1_;clear n0_ n1_;have p287:0 ≤ ((ji9):Int):=of_decide_eq_true (by (with_reducible assumption));have q287:(ji9) < (l0.length:Int):=of_decide_eq_true (by (with_reducible assumption));obtain ⟨ad287,e287,hx287_0,hx287_1,hx287_2,hx287_3,hx287_4⟩:=at_T58 HR0.out (ji9) p287 q287;have hw287_4:=hx287_4
           have hw287_3:=hx287_3;have hw287_2:=hx287_2;have hw287_1:=hx287_1;have hw287_0:=hx287_0;obtain rfl:ad284=ad287:=(by injection e287);replace hx287_0:=bc_ HB hx287_0;replace hx287_1:=bc_ HB hx287_1;replace hx287_2:=bc_ HB hx287_2;replace hx287_3:=bc_ HB hx287_3;replace hx287_4:=bc_ HB hx287_4;replace p287:=eq_true p287;replace q287:=eq_true q287;refine start_ (n:=18) (S:=fun w'=>w'.cell? ⟨gb285,0,none⟩=some (.string ((rd_T58 l0 x9_1).f0)) ∧ w'.cell? ⟨gb285,1,none⟩=some (.int .i64 ((rd_T58 l0 x9_1).f1.f0)) ∧ w'.cell? ⟨gb285,2,none⟩=some (.int .i64 ((rd_T58 l0 x9_1).f1.f1)) ∧ w'.cell? ⟨gb285,3,none⟩=some (.int .i64 ((rd_T58 l0 x9_1).f1.f2)) ∧ w'.cell? ⟨gb285,4,none⟩=some (.string ((rd_T58 l0 x9_1).f1.f3)) ∧ w'.cell? (ad284.add ((ji9).toNat * 5))=some (.string ((rd_T58 l0 (ji9)).f0)) ∧ w'.cell? ⟨(ad284.add ((ji9).toNat * 5)).block,(ad284.add ((ji9).toNat * 5)).off + 1,none⟩=some (.int .i64 ((rd_T58 l0 (ji9)).f1.f0)) ∧ w'.cell? ⟨(ad284.add ((ji9).toNat * 5)).block,(ad284.add ((ji9).toNat * 5)).off + 2,none⟩=some (.int .i64 ((rd_T58 l0 (ji9)).f1.f1)) ∧ w'.cell? ⟨(ad284.add ((ji9).toNat * 5)).block,(ad284.add ((ji9).toNat * 5)).off + 3,none⟩=some (.int .i64 ((rd_T58 l0 (ji9)).f1.f2)) ∧ w'.cell? ⟨(ad284.add ((ji9).toNat * 5)).block,(ad284.add ((ji9).toNat * 5)).off + 4,none⟩=some (.string ((rd_T58 l0 (ji9)).f1.f3))) (ds:=[]) (m_ 0 18) (by kernel_rfl) rfl rfl ⟨(blk_cell BK285.out 0).trans rfl,(blk_cell BK285.out 1).trans rfl,(blk_cell BK285.out 2).trans rfl,(blk_cell BK285.out 3).trans rfl,(blk_cell BK285.out 4).trans rfl,(bc_ HB hw287_0),(bc_ HB hw287_1),(bc_ HB hw287_2),(bc_ HB hw287_3),(bc_ HB hw287_4)⟩ (fun hHeld=>?_);refine with_tabW impl_ascending.tab4 impl_ascending.bits4 (fun HT_ HW_=>?_)
           generalize w15.drew=w16 at BK285 HB hx287_0 hx287_1 hx287_2 hx287_3 hx287_4 hHeld ⊢
           refine take_ (i:=0) (N:=some 14) (v:=?_) (a':=?_) (m_ 1 17) rfl rfl (take_ofW HT_.out HW_.out (by kernel_rfl)) (fun _ _ _ h=>h) (Or.inl ⟨by rfl,?_⟩) hHeld ?_ ?_;rotate_left
           ·rintro w' ⟨s0,s1,s2,s3,s4,s5,s6,s7,s8,s9⟩;go_simp
            with_reducible rfl
           rotate_left
           ·simp only [Act.put,s1_,s2_,s3_,i64_w,i32_w];rfl
           refine one_ (i:=1) (N:=some 15) (m_ 2 16) rfl rfl (one_of HT_.out (by kernel_rfl)) (by decide) (fun K hK=>?_);refine goes_ Tryz.func125 (by kernel_rfl) rfl #[.agg #[.string ((rd_T58 l0 x9_1).f0),.int .i64 ((rd_T58 l0 x9_1).f1.f0),.int .i64 ((rd_T58 l0 x9_1).f1.f1),.int .i64 ((rd_T58 l0 x9_1).f1.f2),.string ((rd_T58 l0 x9_1).f1.f3)]] (by rfl) rfl rfl (by (try simp only [List.map_toArray,List.map_cons,List.map_nil]);rfl) ?_
           with_reducible refine (impl_NeedOk.calls k1 ((rd_T58 l0 x9_1).f0) ((rd_T58 l0 x9_1).f1.f0) ((rd_T58 l0 x9_1).f1.f1) ((rd_T58 l0 x9_1).f1.f2) ((rd_T58 l0 x9_1).f1.f3) true _ A6.out).mono ?_
           rintro e w17 ⟨rfl,hb⟩;refine ⟨_,rfl,?_⟩;have n0_:=a_ (blk_below (g:=gb285) (o:=.cells #[.string ((rd_T58 l0 x9_1).f0),.int .i64 ((rd_T58 l0 x9_1).f1.f0),.int .i64 ((rd_T58 l0 x9_1).f1.f1),.int .i64 ((rd_T58 l0 x9_1).f1.f2),.string ((rd_T58 l0 x9_1).f1.f3)] 58 (0,0)) (by exact BK285.out) hb);have n1_:=a_ (below_step HB.out hb);clear BK285;clear HB;have BK285:=n0_;have HB:=n1_;clear n0_ n1_
           (try clear hb)
           (skip)
           (skip)
           (skip)
           refine hK.out _ _ ⟨(blk_cell BK285.out 0).trans rfl,(blk_cell BK285.out 1).trans rfl,(blk_cell BK285.out 2).trans rfl,(blk_cell BK285.out 3).trans rfl,(blk_cell BK285.out 4).trans rfl,(bc_ HB hw287_0),(bc_ HB hw287_1),(bc_ HB hw287_2),(bc_ HB hw287_3),(bc_ HB hw287_4)⟩ (fun hHeld=>?_);clear hK K;refine norm_ (a':=?_) ?_ ?_;rotate_left
           ·show Act.put _ (some 15) _=_;simp only [Act.put,s1_,s2_,s3_,i64_w,i32_w];rfl
           refine pure_ (i:=2) (N:=some 16) (v:=?_) (a':=?_) (m_ 3 15) rfl rfl (any_of HT_.out (by kernel_rfl)) (fun _ _ _ h=>h) (Or.inl ⟨by rfl,?_⟩) ?_ ?_;rotate_left
           ·intro w';go_simp
            with_reducible rfl
           rotate_left
           ·simp only [Act.put,s1_,s2_,s3_,i64_w,i32_w];rfl
           refine pure_ (i:=3) (N:=some 17) (v:=?_) (a':=?_) (m_ 4 14) rfl rfl (any_of HT_.out (by kernel_rfl)) (fun _ _ _ h=>h) (Or.inl ⟨by rfl,?_⟩) ?_ ?_;rotate_left
           ·intro w';go_simp
            with_reducible rfl
           rotate_left
           ·simp only [Act.put,s1_,s2_,s3_,i64_w,i32_w];rfl
           refine pure_ (i:=4) (N:=some 18) (v:=?_) (a':=?_) (m_ 5 13) rfl rfl (any_of HT_.out (by kernel_rfl)) (fun _ _ _ h=>h) (Or.inl ⟨by rfl,?_⟩) ?_ ?_;rotate_left
           ·intro w';go_simp
            with_reducible rfl
           rotate_left
           ·simp only [Act.put,s1_,s2_,s3_,i64_w,i32_w];rfl
           refine pure_ (i:=5) (N:=some 19) (v:=?_) (a':=?_) (m_ 6 12) rfl rfl (any_of HT_.out (by kernel_rfl)) (fun _ _ _ h=>h) (Or.inl ⟨by rfl,?_⟩) ?_ ?_;rotate_left
           ·intro w';go_simp
            with_reducible rfl
           rotate_left
           ·simp only [Act.put,s1_,s2_,s3_,i64_w,i32_w];rfl
           refine pure_ (i:=6) (N:=some 20) (v:=?_) (a':=?_) (m_ 7 11) rfl rfl (any_of HT_.out (by kernel_rfl)) (fun _ _ _ h=>h) (Or.inl ⟨by rfl,?_⟩) ?_ ?_;rotate_left
           ·intro w';go_simp
            with_reducible rfl
           rotate_left
           ·simp only [Act.put,s1_,s2_,s3_,i64_w,i32_w];rfl
           refine pure_ (i:=7) (N:=some 21) (v:=?_) (a':=?_) (m_ 8 10) rfl rfl (any_of HT_.out (by kernel_rfl)) (fun _ _ _ h=>h) (Or.inl ⟨by rfl,?_⟩) ?_ ?_;rotate_left
           ·intro w';go_simp
            with_reducible rfl
           rotate_left
           ·simp only [Act.put,s1_,s2_,s3_,i64_w,i32_w];rfl
           refine pure_ (i:=9) (N:=some 23) (v:=?_) (a':=?_) #[true,true,true,true,true,true,true,true,false,true,false,false,false,false,false,false,false,false] rfl rfl (any_of HT_.out (by kernel_rfl)) (fun _ _ _ h=>h) (Or.inl ⟨by rfl,?_⟩) ?_ ?_;rotate_left
           ·intro w';go_simp
            with_reducible rfl
           rotate_left
           ·simp only [Act.put,s1_,s2_,s3_,i64_w,i32_w];rfl
           refine pure_ (i:=10) (N:=some 24) (v:=?_) (a':=?_) #[true,true,true,true,true,true,true,true,false,true,true,false,false,false,false,false,false,false] rfl rfl (any_of HT_.out (by kernel_rfl)) (fun _ _ _ h=>h) (Or.inl ⟨by rfl,?_⟩) ?_ ?_;rotate_left
           ·intro w';go_simp
            with_reducible rfl
           rotate_left
           ·simp only [Act.put,s1_,s2_,s3_,i64_w,i32_w];rfl
           refine pure_ (i:=11) (N:=some 25) (v:=?_) (a':=?_) #[true,true,true,true,true,true,true,true,false,true,true,true,false,false,false,false,false,false] rfl rfl (any_of HT_.out (by kernel_rfl)) (fun _ _ _ h=>h) (Or.inl ⟨by rfl,?_⟩) ?_ ?_;rotate_left
           ·intro w';go_simp
            with_reducible rfl
           rotate_left
           ·simp only [Act.put,s1_,s2_,s3_,i64_w,i32_w];rfl
           refine pure_ (i:=12) (N:=some 26) (v:=?_) (a':=?_) #[true,true,true,true,true,true,true,true,false,true,true,true,true,false,false,false,false,false] rfl rfl (any_of HT_.out (by kernel_rfl)) (fun _ _ _ h=>h) (Or.inl ⟨by rfl,?_⟩) ?_ ?_;rotate_left
           ·intro w';go_simp
            with_reducible rfl
           rotate_left
           ·simp only [Act.put,s1_,s2_,s3_,i64_w,i32_w];rfl
           refine pure_ (i:=13) (N:=some 27) (v:=?_) (a':=?_) #[true,true,true,true,true,true,true,true,false,true,true,true,true,true,false,false,false,false] rfl rfl (any_of HT_.out (by kernel_rfl)) (fun _ _ _ h=>h) (Or.inl ⟨by rfl,?_⟩) ?_ ?_;rotate_left
           ·intro w';go_simp
            with_reducible rfl
           rotate_left
           ·simp only [Act.put,s1_,s2_,s3_,i64_w,i32_w];rfl
           refine take_ (i:=8) (N:=some 22) (v:=?_) (a':=?_) (m_ 14 4) rfl rfl (take_ofW HT_.out HW_.out (by kernel_rfl)) (fun _ _ _ h=>h) (Or.inl ⟨by rfl,?_⟩) hHeld ?_ ?_;rotate_left
           ·rintro w' ⟨s0,s1,s2,s3,s4,s5,s6,s7,s8,s9⟩;go_simp
            with_reducible rfl
           rotate_left
           ·simp only [Act.put,s1_,s2_,s3_,i64_w,i32_w];rfl
           refine take_ (i:=14) (N:=some 28) (v:=?_) (a':=?_) (m_ 15 3) rfl rfl (take_ofW HT_.out HW_.out (by kernel_rfl)) (fun _ _ _ h=>h) (Or.inl ⟨by rfl,?_⟩) hHeld ?_ ?_;rotate_left
           ·rintro w' ⟨s0,s1,s2,s3,s4,s5,s6,s7,s8,s9⟩;go_simp
            with_reducible rfl
           rotate_left
           ·simp only [Act.put,s1_,s2_,s3_,i64_w,i32_w];rfl
           refine pure_ (i:=15) (N:=some 29) (v:=?_) (a':=?_) (m_ 16 2) rfl rfl (any_of HT_.out (by kernel_rfl)) (fun _ _ _ h=>h) (Or.inl ⟨by rfl,?_⟩) ?_ ?_;rotate_left
           ·intro w';go_simp
            with_reducible rfl
           rotate_left
           ·simp only [Act.put,s1_,s2_,s3_,i64_w,i32_w];rfl
           refine pure_ (i:=16) (N:=some 30) (v:=?_) (a':=?_) (m_ 17 1) rfl rfl (any_of HT_.out (by kernel_rfl)) (fun _ _ _ h=>h) (Or.inl ⟨by rfl,?_⟩) ?_ ?_;rotate_left
           ·intro w';go_simp
            with_reducible rfl
           rotate_left
           ·simp only [Act.put,s1_,s2_,s3_,i64_w,i32_w];rfl
           refine pure_ (i:=17) (N:=some 31) (v:=?_) (a':=?_) (m_ 18 0) rfl rfl (any_of HT_.out (by kernel_rfl)) (fun _ _ _ h=>h) (Or.inl ⟨by rfl,?_⟩) ?_ ?_;rotate_left
           ·intro w';go_simp
            with_reducible rfl
           rotate_left
           ·simp only [Act.put,s1_,s2_,s3_,i64_w,i32_w];rfl
           refine done_ (done_of HT_.out (by kernel_rfl)) ?_
           try go_wp2
           go_ret
           exact ⟨by rfl,by exact HB.out⟩
          ·rw [if_neg c12] at H;have c12b0:(Op.bytesLess (((rd_T58 l0 x9_1).f0).toList) (((rd_T58 l0 (ji9)).f0).toList))=false:=by simpa using c12
           clear c12
           by_cases c18:((rd_T58 l0 x9_1).f0).toList=((rd_T58 l0 (ji9)).f0).toList
           ·rw [if_pos c18] at H;have c18b0:(((rd_T58 l0 x9_1).f0).toList == ((rd_T58 l0 (ji9)).f0).toList)=true:=beq_iff_eq.mpr c18;have c18b1:(((rd_T58 l0 x9_1).f0).toList != ((rd_T58 l0 (ji9)).f0).toList)=false:=bne_eq_false_iff_eq.mpr c18;clear c18;obtain rfl:=Option.some.inj H;have p284:0 ≤ (x9_1:Int):=of_decide_eq_true (by (with_reducible assumption));have q284:x9_1 < (l0.length:Int):=of_decide_eq_true (by (with_reducible assumption))
            obtain ⟨ad284,e284,hx284_0,hx284_1,hx284_2,hx284_3,hx284_4⟩:=at_T58 HR0.out x9_1 p284 q284;cases e284;replace hx284_0:=bc_ HB hx284_0;replace hx284_1:=bc_ HB hx284_1;replace hx284_2:=bc_ HB hx284_2;replace hx284_3:=bc_ HB hx284_3;replace hx284_4:=bc_ HB hx284_4;replace p284:=eq_true p284;replace q284:=eq_true q284
            try go_wp2_with (first | ((with_reducible refine gate_dst (N:=6) rfl ?_);refine box_event ?hg (N:=6) ?hd (cs:=#[.string (⟨#[]⟩:ByteArray),.int .i64 0,.int .i64 0,.int .i64 0,.string (⟨#[]⟩:ByteArray)]) (t:=58) ?hr ?_;(case hd=>rfl);(case hg=>rfl);(case hr=>(go_simp;done));intro gb285 hg w19 hbox hb;have n0_:=a_ (below_step HB.out hb);have n1_:=a_ (hbox);have n2_:=a_ ((by rw [hg];exact (below_size HB.out):w.heap.size ≤ gb285));have n3_:=a_ ((by rw [hg];exact (below_size HB.out):w.heap.size ≤ gb285));clear HB;have HB:=n0_;have BK285:=n1_;have GW285:=n2_;have GE285:=n3_;clear n0_ n1_ n2_ n3_;clear hb hbox hg;have hcz20_0:w19.cell? ⟨gb285,0,none⟩=some (.string (⟨#[]⟩:ByteArray)):=(blk_cell BK285.out 0).trans rfl;have hcz20_1:w19.cell? ⟨gb285,1,none⟩=some (.int .i64 0):=(blk_cell BK285.out 1).trans rfl;have hcz20_2:w19.cell? ⟨gb285,2,none⟩=some (.int .i64 0):=(blk_cell BK285.out 2).trans rfl;have hcz20_3:w19.cell? ⟨gb285,3,none⟩=some (.int .i64 0):=(blk_cell BK285.out 3).trans rfl;have hcz20_4:w19.cell? ⟨gb285,4,none⟩=some (.string (⟨#[]⟩:ByteArray)):=(blk_cell BK285.out 4).trans rfl;have hfz20_0:=blk_frozen BK285.out 0;have hfz20_1:=blk_frozen BK285.out 1;have hfz20_2:=blk_frozen BK285.out 2;have hfz20_3:=blk_frozen BK285.out 3;have hfz20_4:=blk_frozen BK285.out 4) | ((with_reducible refine gate_store (t:=58) (p:=6) rfl ?_);refine store_event (t:=58) (p:=6) (v:=?vo_w21) (w1:=(((((w19.setCell ⟨gb285,0,none⟩ (.string ((rd_T58 l0 x9_1).f0))).setCell ⟨gb285,1,none⟩ (.int .i64 ((rd_T58 l0 x9_1).f1.f0))).setCell ⟨gb285,2,none⟩ (.int .i64 ((rd_T58 l0 x9_1).f1.f1))).setCell ⟨gb285,3,none⟩ (.int .i64 ((rd_T58 l0 x9_1).f1.f2))).setCell ⟨gb285,4,none⟩ (.string ((rd_T58 l0 x9_1).f1.f3)))) ?hg ?ho ?hn ?hr ?_;(case ho=>rfl);(case hg=>rfl);(case hn=>rfl);(case hr=>(go_simp;done));intro w21 hw;have n0_:Aside0 (w21.heap[gb285]? = some (.cells #[.string ((rd_T58 l0 x9_1).f0),.int .i64 ((rd_T58 l0 x9_1).f1.f0),.int .i64 ((rd_T58 l0 x9_1).f1.f1),.int .i64 ((rd_T58 l0 x9_1).f1.f2),.string ((rd_T58 l0 x9_1).f1.f3)] 58 (0,0))):=⟨(by rw [hw];exact (by refine blk_put (cs:=#[.string ((rd_T58 l0 x9_1).f0),.int .i64 ((rd_T58 l0 x9_1).f1.f0),.int .i64 ((rd_T58 l0 x9_1).f1.f1),.int .i64 ((rd_T58 l0 x9_1).f1.f2),.string (⟨#[]⟩:ByteArray)]) ?_ 4 _ rfl;refine blk_put (cs:=#[.string ((rd_T58 l0 x9_1).f0),.int .i64 ((rd_T58 l0 x9_1).f1.f0),.int .i64 ((rd_T58 l0 x9_1).f1.f1),.int .i64 0,.string (⟨#[]⟩:ByteArray)]) ?_ 3 _ rfl;refine blk_put (cs:=#[.string ((rd_T58 l0 x9_1).f0),.int .i64 ((rd_T58 l0 x9_1).f1.f0),.int .i64 0,.int .i64 0,.string (⟨#[]⟩:ByteArray)]) ?_ 2 _ rfl;refine blk_put (cs:=#[.string ((rd_T58 l0 x9_1).f0),.int .i64 0,.int .i64 0,.int .i64 0,.string (⟨#[]⟩:ByteArray)]) ?_ 1 _ rfl;refine blk_put (cs:=#[.string (⟨#[]⟩:ByteArray),.int .i64 0,.int .i64 0,.int .i64 0,.string (⟨#[]⟩:ByteArray)]) ?_ 0 _ rfl;exact BK285.out))⟩;have n1_:Aside0 (Below w.heap.size w w21):=⟨(by rw [hw];exact (by repeat (with_reducible first | exact HB.out | refine below_set ?_ GE285.out)))⟩;clear hw;clear BK285;clear HB;have BK285:=n0_;have HB:=n1_;clear n0_ n1_))
            have n0_:=a_ (blk_drew BK285.out);have n1_:=a_ (below_drew1 HB.out);clear BK285;clear HB;have BK285:=n0_;have HB:=n1_;clear n0_ n1_;have p287:0 ≤ ((ji9):Int):=of_decide_eq_true (by (with_reducible assumption));have q287:(ji9) < (l0.length:Int):=of_decide_eq_true (by (with_reducible assumption));obtain ⟨ad287,e287,hx287_0,hx287_1,hx287_2,hx287_3,hx287_4⟩:=at_T58 HR0.out (ji9) p287 q287;have hw287_4:=hx287_4
            have hw287_3:=hx287_3;have hw287_2:=hx287_2;have hw287_1:=hx287_1;have hw287_0:=hx287_0;obtain rfl:ad284=ad287:=(by injection e287);replace hx287_0:=bc_ HB hx287_0;replace hx287_1:=bc_ HB hx287_1;replace hx287_2:=bc_ HB hx287_2;replace hx287_3:=bc_ HB hx287_3;replace hx287_4:=bc_ HB hx287_4;replace p287:=eq_true p287;replace q287:=eq_true q287;refine start_ (n:=18) (S:=fun w'=>w'.cell? ⟨gb285,0,none⟩=some (.string ((rd_T58 l0 x9_1).f0)) ∧ w'.cell? ⟨gb285,1,none⟩=some (.int .i64 ((rd_T58 l0 x9_1).f1.f0)) ∧ w'.cell? ⟨gb285,2,none⟩=some (.int .i64 ((rd_T58 l0 x9_1).f1.f1)) ∧ w'.cell? ⟨gb285,3,none⟩=some (.int .i64 ((rd_T58 l0 x9_1).f1.f2)) ∧ w'.cell? ⟨gb285,4,none⟩=some (.string ((rd_T58 l0 x9_1).f1.f3)) ∧ w'.cell? (ad284.add ((ji9).toNat * 5))=some (.string ((rd_T58 l0 (ji9)).f0)) ∧ w'.cell? ⟨(ad284.add ((ji9).toNat * 5)).block,(ad284.add ((ji9).toNat * 5)).off + 1,none⟩=some (.int .i64 ((rd_T58 l0 (ji9)).f1.f0)) ∧ w'.cell? ⟨(ad284.add ((ji9).toNat * 5)).block,(ad284.add ((ji9).toNat * 5)).off + 2,none⟩=some (.int .i64 ((rd_T58 l0 (ji9)).f1.f1)) ∧ w'.cell? ⟨(ad284.add ((ji9).toNat * 5)).block,(ad284.add ((ji9).toNat * 5)).off + 3,none⟩=some (.int .i64 ((rd_T58 l0 (ji9)).f1.f2)) ∧ w'.cell? ⟨(ad284.add ((ji9).toNat * 5)).block,(ad284.add ((ji9).toNat * 5)).off + 4,none⟩=some (.string ((rd_T58 l0 (ji9)).f1.f3))) (ds:=[]) (m_ 0 18) (by kernel_rfl) rfl rfl ⟨(blk_cell BK285.out 0).trans rfl,(blk_cell BK285.out 1).trans rfl,(blk_cell BK285.out 2).trans rfl,(blk_cell BK285.out 3).trans rfl,(blk_cell BK285.out 4).trans rfl,(bc_ HB hw287_0),(bc_ HB hw287_1),(bc_ HB hw287_2),(bc_ HB hw287_3),(bc_ HB hw287_4)⟩ (fun hHeld=>?_);refine with_tabW impl_ascending.tab4 impl_ascending.bits4 (fun HT_ HW_=>?_)
            generalize w21.drew=w22 at BK285 HB hx287_0 hx287_1 hx287_2 hx287_3 hx287_4 hHeld ⊢
            refine take_ (i:=0) (N:=some 14) (v:=?_) (a':=?_) (m_ 1 17) rfl rfl (take_ofW HT_.out HW_.out (by kernel_rfl)) (fun _ _ _ h=>h) (Or.inl ⟨by rfl,?_⟩) hHeld ?_ ?_;rotate_left
            ·rintro w' ⟨s0,s1,s2,s3,s4,s5,s6,s7,s8,s9⟩;go_simp
             with_reducible rfl
            rotate_left
            ·simp only [Act.put,s1_,s2_,s3_,i64_w,i32_w];rfl
            refine one_ (i:=1) (N:=some 15) (m_ 2 16) rfl rfl (one_of HT_.out (by kernel_rfl)) (by decide) (fun K hK=>?_);refine goes_ Tryz.func125 (by kernel_rfl) rfl #[.agg #[.string ((rd_T58 l0 x9_1).f0),.int .i64 ((rd_T58 l0 x9_1).f1.f0),.int .i64 ((rd_T58 l0 x9_1).f1.f1),.int .i64 ((rd_T58 l0 x9_1).f1.f2),.string ((rd_T58 l0 x9_1).f1.f3)]] (by rfl) rfl rfl (by (try simp only [List.map_toArray,List.map_cons,List.map_nil]);rfl) ?_
            with_reducible refine (impl_NeedOk.calls k1 ((rd_T58 l0 x9_1).f0) ((rd_T58 l0 x9_1).f1.f0) ((rd_T58 l0 x9_1).f1.f1) ((rd_T58 l0 x9_1).f1.f2) ((rd_T58 l0 x9_1).f1.f3) true _ A6.out).mono ?_
            rintro e w23 ⟨rfl,hb⟩;refine ⟨_,rfl,?_⟩;have n0_:=a_ (blk_below (g:=gb285) (o:=.cells #[.string ((rd_T58 l0 x9_1).f0),.int .i64 ((rd_T58 l0 x9_1).f1.f0),.int .i64 ((rd_T58 l0 x9_1).f1.f1),.int .i64 ((rd_T58 l0 x9_1).f1.f2),.string ((rd_T58 l0 x9_1).f1.f3)] 58 (0,0)) (by exact BK285.out) hb);have n1_:=a_ (below_step HB.out hb);clear BK285;clear HB;have BK285:=n0_;have HB:=n1_;clear n0_ n1_
            (try clear hb)
            (skip)
            (skip)
            (skip)
            refine hK.out _ _ ⟨(blk_cell BK285.out 0).trans rfl,(blk_cell BK285.out 1).trans rfl,(blk_cell BK285.out 2).trans rfl,(blk_cell BK285.out 3).trans rfl,(blk_cell BK285.out 4).trans rfl,(bc_ HB hw287_0),(bc_ HB hw287_1),(bc_ HB hw287_2),(bc_ HB hw287_3),(bc_ HB hw287_4)⟩ (fun hHeld=>?_);clear hK K;refine norm_ (a':=?_) ?_ ?_;rotate_left
            ·show Act.put _ (some 15) _=_;simp only [Act.put,s1_,s2_,s3_,i64_w,i32_w];rfl
            refine pure_ (i:=2) (N:=some 16) (v:=?_) (a':=?_) (m_ 3 15) rfl rfl (any_of HT_.out (by kernel_rfl)) (fun _ _ _ h=>h) (Or.inl ⟨by rfl,?_⟩) ?_ ?_;rotate_left
            ·intro w';go_simp
             with_reducible rfl
            rotate_left
            ·simp only [Act.put,s1_,s2_,s3_,i64_w,i32_w];rfl
            refine pure_ (i:=3) (N:=some 17) (v:=?_) (a':=?_) (m_ 4 14) rfl rfl (any_of HT_.out (by kernel_rfl)) (fun _ _ _ h=>h) (Or.inl ⟨by rfl,?_⟩) ?_ ?_;rotate_left
            ·intro w';go_simp
             with_reducible rfl
            rotate_left
            ·simp only [Act.put,s1_,s2_,s3_,i64_w,i32_w];rfl
            refine pure_ (i:=4) (N:=some 18) (v:=?_) (a':=?_) (m_ 5 13) rfl rfl (any_of HT_.out (by kernel_rfl)) (fun _ _ _ h=>h) (Or.inl ⟨by rfl,?_⟩) ?_ ?_;rotate_left
            ·intro w';go_simp
             with_reducible rfl
            rotate_left
            ·simp only [Act.put,s1_,s2_,s3_,i64_w,i32_w];rfl
            refine pure_ (i:=5) (N:=some 19) (v:=?_) (a':=?_) (m_ 6 12) rfl rfl (any_of HT_.out (by kernel_rfl)) (fun _ _ _ h=>h) (Or.inl ⟨by rfl,?_⟩) ?_ ?_;rotate_left
            ·intro w';go_simp
             with_reducible rfl
            rotate_left
            ·simp only [Act.put,s1_,s2_,s3_,i64_w,i32_w];rfl
            refine pure_ (i:=6) (N:=some 20) (v:=?_) (a':=?_) (m_ 7 11) rfl rfl (any_of HT_.out (by kernel_rfl)) (fun _ _ _ h=>h) (Or.inl ⟨by rfl,?_⟩) ?_ ?_;rotate_left
            ·intro w';go_simp
             with_reducible rfl
            rotate_left
            ·simp only [Act.put,s1_,s2_,s3_,i64_w,i32_w];rfl
            refine pure_ (i:=7) (N:=some 21) (v:=?_) (a':=?_) (m_ 8 10) rfl rfl (any_of HT_.out (by kernel_rfl)) (fun _ _ _ h=>h) (Or.inl ⟨by rfl,?_⟩) ?_ ?_;rotate_left
            ·intro w';go_simp
             with_reducible rfl
            rotate_left
            ·simp only [Act.put,s1_,s2_,s3_,i64_w,i32_w];rfl
            refine pure_ (i:=9) (N:=some 23) (v:=?_) (a':=?_) #[true,true,true,true,true,true,true,true,false,true,false,false,false,false,false,false,false,false] rfl rfl (any_of HT_.out (by kernel_rfl)) (fun _ _ _ h=>h) (Or.inl ⟨by rfl,?_⟩) ?_ ?_;rotate_left
            ·intro w';go_simp
             with_reducible rfl
            rotate_left
            ·simp only [Act.put,s1_,s2_,s3_,i64_w,i32_w];rfl
            refine pure_ (i:=10) (N:=some 24) (v:=?_) (a':=?_) #[true,true,true,true,true,true,true,true,false,true,true,false,false,false,false,false,false,false] rfl rfl (any_of HT_.out (by kernel_rfl)) (fun _ _ _ h=>h) (Or.inl ⟨by rfl,?_⟩) ?_ ?_;rotate_left
            ·intro w';go_simp
             with_reducible rfl
            rotate_left
            ·simp only [Act.put,s1_,s2_,s3_,i64_w,i32_w];rfl
            refine pure_ (i:=11) (N:=some 25) (v:=?_) (a':=?_) #[true,true,true,true,true,true,true,true,false,true,true,true,false,false,false,false,false,false] rfl rfl (any_of HT_.out (by kernel_rfl)) (fun _ _ _ h=>h) (Or.inl ⟨by rfl,?_⟩) ?_ ?_;rotate_left
            ·intro w';go_simp
             with_reducible rfl
            rotate_left
            ·simp only [Act.put,s1_,s2_,s3_,i64_w,i32_w];rfl
            refine pure_ (i:=12) (N:=some 26) (v:=?_) (a':=?_) #[true,true,true,true,true,true,true,true,false,true,true,true,true,false,false,false,false,false] rfl rfl (any_of HT_.out (by kernel_rfl)) (fun _ _ _ h=>h) (Or.inl ⟨by rfl,?_⟩) ?_ ?_;rotate_left
            ·intro w';go_simp
             with_reducible rfl
            rotate_left
            ·simp only [Act.put,s1_,s2_,s3_,i64_w,i32_w];rfl
            refine pure_ (i:=13) (N:=some 27) (v:=?_) (a':=?_) #[true,true,true,true,true,true,true,true,false,true,true,true,true,true,false,false,false,false] rfl rfl (any_of HT_.out (by kernel_rfl)) (fun _ _ _ h=>h) (Or.inl ⟨by rfl,?_⟩) ?_ ?_;rotate_left
            ·intro w';go_simp
             with_reducible rfl
            rotate_left
            ·simp only [Act.put,s1_,s2_,s3_,i64_w,i32_w];rfl
            refine take_ (i:=8) (N:=some 22) (v:=?_) (a':=?_) (m_ 14 4) rfl rfl (take_ofW HT_.out HW_.out (by kernel_rfl)) (fun _ _ _ h=>h) (Or.inl ⟨by rfl,?_⟩) hHeld ?_ ?_;rotate_left
            ·rintro w' ⟨s0,s1,s2,s3,s4,s5,s6,s7,s8,s9⟩;go_simp
             with_reducible rfl
            rotate_left
            ·simp only [Act.put,s1_,s2_,s3_,i64_w,i32_w];rfl
            refine take_ (i:=14) (N:=some 28) (v:=?_) (a':=?_) (m_ 15 3) rfl rfl (take_ofW HT_.out HW_.out (by kernel_rfl)) (fun _ _ _ h=>h) (Or.inl ⟨by rfl,?_⟩) hHeld ?_ ?_;rotate_left
            ·rintro w' ⟨s0,s1,s2,s3,s4,s5,s6,s7,s8,s9⟩;go_simp
             with_reducible rfl
            rotate_left
            ·simp only [Act.put,s1_,s2_,s3_,i64_w,i32_w];rfl
            refine pure_ (i:=15) (N:=some 29) (v:=?_) (a':=?_) (m_ 16 2) rfl rfl (any_of HT_.out (by kernel_rfl)) (fun _ _ _ h=>h) (Or.inl ⟨by rfl,?_⟩) ?_ ?_;rotate_left
            ·intro w';go_simp
             with_reducible rfl
            rotate_left
            ·simp only [Act.put,s1_,s2_,s3_,i64_w,i32_w];rfl
            refine pure_ (i:=16) (N:=some 30) (v:=?_) (a':=?_) (m_ 17 1) rfl rfl (any_of HT_.out (by kernel_rfl)) (fun _ _ _ h=>h) (Or.inl ⟨by rfl,?_⟩) ?_ ?_;rotate_left
            ·intro w';go_simp
             with_reducible rfl
            rotate_left
            ·simp only [Act.put,s1_,s2_,s3_,i64_w,i32_w];rfl
            refine pure_ (i:=17) (N:=some 31) (v:=?_) (a':=?_) (m_ 18 0) rfl rfl (any_of HT_.out (by kernel_rfl)) (fun _ _ _ h=>h) (Or.inl ⟨by rfl,?_⟩) ?_ ?_;rotate_left
            ·intro w';go_simp
             with_reducible rfl
            rotate_left
            ·simp only [Act.put,s1_,s2_,s3_,i64_w,i32_w];rfl
            refine done_ (done_of HT_.out (by kernel_rfl)) ?_
            try go_wp2
            go_ret
            exact ⟨by rfl,by exact HB.out⟩
           ·rw [if_neg c18] at H;have c18b0:(((rd_T58 l0 x9_1).f0).toList == ((rd_T58 l0 (ji9)).f0).toList)=false:=beq_eq_false_iff_ne.mpr c18;have c18b1:(((rd_T58 l0 x9_1).f0).toList != ((rd_T58 l0 (ji9)).f0).toList)=true:=bne_iff_ne.mpr c18;have H':=a_ H;clear H;have p284:0 ≤ (x9_1:Int):=of_decide_eq_true (by (with_reducible assumption));have q284:x9_1 < (l0.length:Int):=of_decide_eq_true (by (with_reducible assumption))
            obtain ⟨ad284,e284,hx284_0,hx284_1,hx284_2,hx284_3,hx284_4⟩:=at_T58 HR0.out x9_1 p284 q284;cases e284;replace hx284_0:=bc_ HB hx284_0;replace hx284_1:=bc_ HB hx284_1;replace hx284_2:=bc_ HB hx284_2;replace hx284_3:=bc_ HB hx284_3;replace hx284_4:=bc_ HB hx284_4;replace p284:=eq_true p284;replace q284:=eq_true q284
            try go_wp2_with (first | ((with_reducible refine gate_dst (N:=6) rfl ?_);refine box_event ?hg (N:=6) ?hd (cs:=#[.string (⟨#[]⟩:ByteArray),.int .i64 0,.int .i64 0,.int .i64 0,.string (⟨#[]⟩:ByteArray)]) (t:=58) ?hr ?_;(case hd=>rfl);(case hg=>rfl);(case hr=>(go_simp;done));intro gb285 hg w24 hbox hb;have n0_:=a_ (below_step HB.out hb);have n1_:=a_ (hbox);have n2_:=a_ ((by rw [hg];exact (below_size HB.out):w.heap.size ≤ gb285));have n3_:=a_ ((by rw [hg];exact (below_size HB.out):w.heap.size ≤ gb285));clear HB;have HB:=n0_;have BK285:=n1_;have GW285:=n2_;have GE285:=n3_;clear n0_ n1_ n2_ n3_;clear hb hbox hg;have hcz25_0:w24.cell? ⟨gb285,0,none⟩=some (.string (⟨#[]⟩:ByteArray)):=(blk_cell BK285.out 0).trans rfl;have hcz25_1:w24.cell? ⟨gb285,1,none⟩=some (.int .i64 0):=(blk_cell BK285.out 1).trans rfl;have hcz25_2:w24.cell? ⟨gb285,2,none⟩=some (.int .i64 0):=(blk_cell BK285.out 2).trans rfl;have hcz25_3:w24.cell? ⟨gb285,3,none⟩=some (.int .i64 0):=(blk_cell BK285.out 3).trans rfl;have hcz25_4:w24.cell? ⟨gb285,4,none⟩=some (.string (⟨#[]⟩:ByteArray)):=(blk_cell BK285.out 4).trans rfl;have hfz25_0:=blk_frozen BK285.out 0;have hfz25_1:=blk_frozen BK285.out 1;have hfz25_2:=blk_frozen BK285.out 2;have hfz25_3:=blk_frozen BK285.out 3;have hfz25_4:=blk_frozen BK285.out 4) | ((with_reducible refine gate_store (t:=58) (p:=6) rfl ?_);refine store_event (t:=58) (p:=6) (v:=?vo_w26) (w1:=(((((w24.setCell ⟨gb285,0,none⟩ (.string ((rd_T58 l0 x9_1).f0))).setCell ⟨gb285,1,none⟩ (.int .i64 ((rd_T58 l0 x9_1).f1.f0))).setCell ⟨gb285,2,none⟩ (.int .i64 ((rd_T58 l0 x9_1).f1.f1))).setCell ⟨gb285,3,none⟩ (.int .i64 ((rd_T58 l0 x9_1).f1.f2))).setCell ⟨gb285,4,none⟩ (.string ((rd_T58 l0 x9_1).f1.f3)))) ?hg ?ho ?hn ?hr ?_;(case ho=>rfl);(case hg=>rfl);(case hn=>rfl);(case hr=>(go_simp;done));intro w26 hw;have n0_:Aside0 (w26.heap[gb285]? = some (.cells #[.string ((rd_T58 l0 x9_1).f0),.int .i64 ((rd_T58 l0 x9_1).f1.f0),.int .i64 ((rd_T58 l0 x9_1).f1.f1),.int .i64 ((rd_T58 l0 x9_1).f1.f2),.string ((rd_T58 l0 x9_1).f1.f3)] 58 (0,0))):=⟨(by rw [hw];exact (by refine blk_put (cs:=#[.string ((rd_T58 l0 x9_1).f0),.int .i64 ((rd_T58 l0 x9_1).f1.f0),.int .i64 ((rd_T58 l0 x9_1).f1.f1),.int .i64 ((rd_T58 l0 x9_1).f1.f2),.string (⟨#[]⟩:ByteArray)]) ?_ 4 _ rfl;refine blk_put (cs:=#[.string ((rd_T58 l0 x9_1).f0),.int .i64 ((rd_T58 l0 x9_1).f1.f0),.int .i64 ((rd_T58 l0 x9_1).f1.f1),.int .i64 0,.string (⟨#[]⟩:ByteArray)]) ?_ 3 _ rfl;refine blk_put (cs:=#[.string ((rd_T58 l0 x9_1).f0),.int .i64 ((rd_T58 l0 x9_1).f1.f0),.int .i64 0,.int .i64 0,.string (⟨#[]⟩:ByteArray)]) ?_ 2 _ rfl;refine blk_put (cs:=#[.string ((rd_T58 l0 x9_1).f0),.int .i64 0,.int .i64 0,.int .i64 0,.string (⟨#[]⟩:ByteArray)]) ?_ 1 _ rfl;refine blk_put (cs:=#[.string (⟨#[]⟩:ByteArray),.int .i64 0,.int .i64 0,.int .i64 0,.string (⟨#[]⟩:ByteArray)]) ?_ 0 _ rfl;exact BK285.out))⟩;have n1_:Aside0 (Below w.heap.size w w26):=⟨(by rw [hw];exact (by repeat (with_reducible first | exact HB.out | refine below_set ?_ GE285.out)))⟩;clear hw;clear BK285;clear HB;have BK285:=n0_;have HB:=n1_;clear n0_ n1_))
            have n0_:=a_ (blk_drew BK285.out);have n1_:=a_ (below_drew1 HB.out);clear BK285;clear HB;have BK285:=n0_;have HB:=n1_;clear n0_ n1_;have p287:0 ≤ ((ji9):Int):=of_decide_eq_true (by (with_reducible assumption));have q287:(ji9) < (l0.length:Int):=of_decide_eq_true (by (with_reducible assumption));obtain ⟨ad287,e287,hx287_0,hx287_1,hx287_2,hx287_3,hx287_4⟩:=at_T58 HR0.out (ji9) p287 q287;have hw287_4:=hx287_4
            have hw287_3:=hx287_3;have hw287_2:=hx287_2;have hw287_1:=hx287_1;have hw287_0:=hx287_0;obtain rfl:ad284=ad287:=(by injection e287);replace hx287_0:=bc_ HB hx287_0;replace hx287_1:=bc_ HB hx287_1;replace hx287_2:=bc_ HB hx287_2;replace hx287_3:=bc_ HB hx287_3;replace hx287_4:=bc_ HB hx287_4;replace p287:=eq_true p287;replace q287:=eq_true q287;refine start_ (n:=18) (S:=fun w'=>w'.cell? ⟨gb285,0,none⟩=some (.string ((rd_T58 l0 x9_1).f0)) ∧ w'.cell? ⟨gb285,1,none⟩=some (.int .i64 ((rd_T58 l0 x9_1).f1.f0)) ∧ w'.cell? ⟨gb285,2,none⟩=some (.int .i64 ((rd_T58 l0 x9_1).f1.f1)) ∧ w'.cell? ⟨gb285,3,none⟩=some (.int .i64 ((rd_T58 l0 x9_1).f1.f2)) ∧ w'.cell? ⟨gb285,4,none⟩=some (.string ((rd_T58 l0 x9_1).f1.f3)) ∧ w'.cell? (ad284.add ((ji9).toNat * 5))=some (.string ((rd_T58 l0 (ji9)).f0)) ∧ w'.cell? ⟨(ad284.add ((ji9).toNat * 5)).block,(ad284.add ((ji9).toNat * 5)).off + 1,none⟩=some (.int .i64 ((rd_T58 l0 (ji9)).f1.f0)) ∧ w'.cell? ⟨(ad284.add ((ji9).toNat * 5)).block,(ad284.add ((ji9).toNat * 5)).off + 2,none⟩=some (.int .i64 ((rd_T58 l0 (ji9)).f1.f1)) ∧ w'.cell? ⟨(ad284.add ((ji9).toNat * 5)).block,(ad284.add ((ji9).toNat * 5)).off + 3,none⟩=some (.int .i64 ((rd_T58 l0 (ji9)).f1.f2)) ∧ w'.cell? ⟨(ad284.add ((ji9).toNat * 5)).block,(ad284.add ((ji9).toNat * 5)).off + 4,none⟩=some (.string ((rd_T58 l0 (ji9)).f1.f3))) (ds:=[]) (m_ 0 18) (by kernel_rfl) rfl rfl ⟨(blk_cell BK285.out 0).trans rfl,(blk_cell BK285.out 1).trans rfl,(blk_cell BK285.out 2).trans rfl,(blk_cell BK285.out 3).trans rfl,(blk_cell BK285.out 4).trans rfl,(bc_ HB hw287_0),(bc_ HB hw287_1),(bc_ HB hw287_2),(bc_ HB hw287_3),(bc_ HB hw287_4)⟩ (fun hHeld=>?_);refine with_tabW impl_ascending.tab4 impl_ascending.bits4 (fun HT_ HW_=>?_)
            generalize w26.drew=w27 at BK285 HB hx287_0 hx287_1 hx287_2 hx287_3 hx287_4 hHeld ⊢
            refine take_ (i:=0) (N:=some 14) (v:=?_) (a':=?_) (m_ 1 17) rfl rfl (take_ofW HT_.out HW_.out (by kernel_rfl)) (fun _ _ _ h=>h) (Or.inl ⟨by rfl,?_⟩) hHeld ?_ ?_;rotate_left
            ·rintro w' ⟨s0,s1,s2,s3,s4,s5,s6,s7,s8,s9⟩;go_simp
             with_reducible rfl
            rotate_left
            ·simp only [Act.put,s1_,s2_,s3_,i64_w,i32_w];rfl
            refine one_ (i:=1) (N:=some 15) (m_ 2 16) rfl rfl (one_of HT_.out (by kernel_rfl)) (by decide) (fun K hK=>?_);refine goes_ Tryz.func125 (by kernel_rfl) rfl #[.agg #[.string ((rd_T58 l0 x9_1).f0),.int .i64 ((rd_T58 l0 x9_1).f1.f0),.int .i64 ((rd_T58 l0 x9_1).f1.f1),.int .i64 ((rd_T58 l0 x9_1).f1.f2),.string ((rd_T58 l0 x9_1).f1.f3)]] (by rfl) rfl rfl (by (try simp only [List.map_toArray,List.map_cons,List.map_nil]);rfl) ?_
            with_reducible refine (impl_NeedOk.calls k1 ((rd_T58 l0 x9_1).f0) ((rd_T58 l0 x9_1).f1.f0) ((rd_T58 l0 x9_1).f1.f1) ((rd_T58 l0 x9_1).f1.f2) ((rd_T58 l0 x9_1).f1.f3) true _ A6.out).mono ?_
            rintro e w28 ⟨rfl,hb⟩;refine ⟨_,rfl,?_⟩;have n0_:=a_ (blk_below (g:=gb285) (o:=.cells #[.string ((rd_T58 l0 x9_1).f0),.int .i64 ((rd_T58 l0 x9_1).f1.f0),.int .i64 ((rd_T58 l0 x9_1).f1.f1),.int .i64 ((rd_T58 l0 x9_1).f1.f2),.string ((rd_T58 l0 x9_1).f1.f3)] 58 (0,0)) (by exact BK285.out) hb);have n1_:=a_ (below_step HB.out hb);clear BK285;clear HB;have BK285:=n0_;have HB:=n1_;clear n0_ n1_
            (try clear hb)
            (skip)
            (skip)
            (skip)
            refine hK.out _ _ ⟨(blk_cell BK285.out 0).trans rfl,(blk_cell BK285.out 1).trans rfl,(blk_cell BK285.out 2).trans rfl,(blk_cell BK285.out 3).trans rfl,(blk_cell BK285.out 4).trans rfl,(bc_ HB hw287_0),(bc_ HB hw287_1),(bc_ HB hw287_2),(bc_ HB hw287_3),(bc_ HB hw287_4)⟩ (fun hHeld=>?_);clear hK K;refine norm_ (a':=?_) ?_ ?_;rotate_left
            ·show Act.put _ (some 15) _=_;simp only [Act.put,s1_,s2_,s3_,i64_w,i32_w];rfl
            refine pure_ (i:=2) (N:=some 16) (v:=?_) (a':=?_) (m_ 3 15) rfl rfl (any_of HT_.out (by kernel_rfl)) (fun _ _ _ h=>h) (Or.inl ⟨by rfl,?_⟩) ?_ ?_;rotate_left
            ·intro w';go_simp
             with_reducible rfl
            rotate_left
            ·simp only [Act.put,s1_,s2_,s3_,i64_w,i32_w];rfl
            refine pure_ (i:=3) (N:=some 17) (v:=?_) (a':=?_) (m_ 4 14) rfl rfl (any_of HT_.out (by kernel_rfl)) (fun _ _ _ h=>h) (Or.inl ⟨by rfl,?_⟩) ?_ ?_;rotate_left
            ·intro w';go_simp
             with_reducible rfl
            rotate_left
            ·simp only [Act.put,s1_,s2_,s3_,i64_w,i32_w];rfl
            refine pure_ (i:=4) (N:=some 18) (v:=?_) (a':=?_) (m_ 5 13) rfl rfl (any_of HT_.out (by kernel_rfl)) (fun _ _ _ h=>h) (Or.inl ⟨by rfl,?_⟩) ?_ ?_;rotate_left
            ·intro w';go_simp
             with_reducible rfl
            rotate_left
            ·simp only [Act.put,s1_,s2_,s3_,i64_w,i32_w];rfl
            refine pure_ (i:=5) (N:=some 19) (v:=?_) (a':=?_) (m_ 6 12) rfl rfl (any_of HT_.out (by kernel_rfl)) (fun _ _ _ h=>h) (Or.inl ⟨by rfl,?_⟩) ?_ ?_;rotate_left
            ·intro w';go_simp
             with_reducible rfl
            rotate_left
            ·simp only [Act.put,s1_,s2_,s3_,i64_w,i32_w];rfl
            refine pure_ (i:=6) (N:=some 20) (v:=?_) (a':=?_) (m_ 7 11) rfl rfl (any_of HT_.out (by kernel_rfl)) (fun _ _ _ h=>h) (Or.inl ⟨by rfl,?_⟩) ?_ ?_;rotate_left
            ·intro w';go_simp
             with_reducible rfl
            rotate_left
            ·simp only [Act.put,s1_,s2_,s3_,i64_w,i32_w];rfl
            refine pure_ (i:=7) (N:=some 21) (v:=?_) (a':=?_) (m_ 8 10) rfl rfl (any_of HT_.out (by kernel_rfl)) (fun _ _ _ h=>h) (Or.inl ⟨by rfl,?_⟩) ?_ ?_;rotate_left
            ·intro w';go_simp
             with_reducible rfl
            rotate_left
            ·simp only [Act.put,s1_,s2_,s3_,i64_w,i32_w];rfl
            refine pure_ (i:=9) (N:=some 23) (v:=?_) (a':=?_) #[true,true,true,true,true,true,true,true,false,true,false,false,false,false,false,false,false,false] rfl rfl (any_of HT_.out (by kernel_rfl)) (fun _ _ _ h=>h) (Or.inl ⟨by rfl,?_⟩) ?_ ?_;rotate_left
            ·intro w';go_simp
             with_reducible rfl
            rotate_left
            ·simp only [Act.put,s1_,s2_,s3_,i64_w,i32_w];rfl
            refine pure_ (i:=10) (N:=some 24) (v:=?_) (a':=?_) #[true,true,true,true,true,true,true,true,false,true,true,false,false,false,false,false,false,false] rfl rfl (any_of HT_.out (by kernel_rfl)) (fun _ _ _ h=>h) (Or.inl ⟨by rfl,?_⟩) ?_ ?_;rotate_left
            ·intro w';go_simp
             with_reducible rfl
            rotate_left
            ·simp only [Act.put,s1_,s2_,s3_,i64_w,i32_w];rfl
            refine pure_ (i:=11) (N:=some 25) (v:=?_) (a':=?_) #[true,true,true,true,true,true,true,true,false,true,true,true,false,false,false,false,false,false] rfl rfl (any_of HT_.out (by kernel_rfl)) (fun _ _ _ h=>h) (Or.inl ⟨by rfl,?_⟩) ?_ ?_;rotate_left
            ·intro w';go_simp
             with_reducible rfl
            rotate_left
            ·simp only [Act.put,s1_,s2_,s3_,i64_w,i32_w];rfl
            refine pure_ (i:=12) (N:=some 26) (v:=?_) (a':=?_) #[true,true,true,true,true,true,true,true,false,true,true,true,true,false,false,false,false,false] rfl rfl (any_of HT_.out (by kernel_rfl)) (fun _ _ _ h=>h) (Or.inl ⟨by rfl,?_⟩) ?_ ?_;rotate_left
            ·intro w';go_simp
             with_reducible rfl
            rotate_left
            ·simp only [Act.put,s1_,s2_,s3_,i64_w,i32_w];rfl
            refine pure_ (i:=13) (N:=some 27) (v:=?_) (a':=?_) #[true,true,true,true,true,true,true,true,false,true,true,true,true,true,false,false,false,false] rfl rfl (any_of HT_.out (by kernel_rfl)) (fun _ _ _ h=>h) (Or.inl ⟨by rfl,?_⟩) ?_ ?_;rotate_left
            ·intro w';go_simp
             with_reducible rfl
            rotate_left
            ·simp only [Act.put,s1_,s2_,s3_,i64_w,i32_w];rfl
            refine take_ (i:=8) (N:=some 22) (v:=?_) (a':=?_) (m_ 14 4) rfl rfl (take_ofW HT_.out HW_.out (by kernel_rfl)) (fun _ _ _ h=>h) (Or.inl ⟨by rfl,?_⟩) hHeld ?_ ?_;rotate_left
            ·rintro w' ⟨s0,s1,s2,s3,s4,s5,s6,s7,s8,s9⟩;go_simp
             with_reducible rfl
            rotate_left
            ·simp only [Act.put,s1_,s2_,s3_,i64_w,i32_w];rfl
            refine take_ (i:=14) (N:=some 28) (v:=?_) (a':=?_) (m_ 15 3) rfl rfl (take_ofW HT_.out HW_.out (by kernel_rfl)) (fun _ _ _ h=>h) (Or.inl ⟨by rfl,?_⟩) hHeld ?_ ?_;rotate_left
            ·rintro w' ⟨s0,s1,s2,s3,s4,s5,s6,s7,s8,s9⟩;go_simp
             with_reducible rfl
            rotate_left
            ·simp only [Act.put,s1_,s2_,s3_,i64_w,i32_w];rfl
            refine pure_ (i:=15) (N:=some 29) (v:=?_) (a':=?_) (m_ 16 2) rfl rfl (any_of HT_.out (by kernel_rfl)) (fun _ _ _ h=>h) (Or.inl ⟨by rfl,?_⟩) ?_ ?_;rotate_left
            ·intro w';go_simp
             with_reducible rfl
            rotate_left
            ·simp only [Act.put,s1_,s2_,s3_,i64_w,i32_w];rfl
            refine pure_ (i:=16) (N:=some 30) (v:=?_) (a':=?_) (m_ 17 1) rfl rfl (any_of HT_.out (by kernel_rfl)) (fun _ _ _ h=>h) (Or.inl ⟨by rfl,?_⟩) ?_ ?_;rotate_left
            ·intro w';go_simp
             with_reducible rfl
            rotate_left
            ·simp only [Act.put,s1_,s2_,s3_,i64_w,i32_w];rfl
            refine pure_ (i:=17) (N:=some 31) (v:=?_) (a':=?_) (m_ 18 0) rfl rfl (any_of HT_.out (by kernel_rfl)) (fun _ _ _ h=>h) (Or.inl ⟨by rfl,?_⟩) ?_ ?_;rotate_left
            ·intro w';go_simp
             with_reducible rfl
            rotate_left
            ·simp only [Act.put,s1_,s2_,s3_,i64_w,i32_w];rfl
            refine done_ (done_of HT_.out (by kernel_rfl)) ?_
            try go_wp2
            go_roundg k1
            case measure=>have:=HK1.out;omega
            case rel=>exact ⟨(wrap64 (x9_1 + 1)),(by rfl),H',⟨by have:=HK1.out;omega⟩,⟨by exact HB.out⟩⟩
         ·rw [if_neg c11] at H;exact absurd H (by simp)
        ·rw [if_neg c10] at H;exact absurd H (by simp)
       ·rw [if_neg c8] at H;have c8b0:decide (0 < x9_1)=false:=decide_eq_false c8;clear c8;have H':=a_ H;clear H;have p284:0 ≤ (x9_1:Int):=of_decide_eq_true (by (with_reducible assumption));have q284:x9_1 < (l0.length:Int):=of_decide_eq_true (by (with_reducible assumption));obtain ⟨ad284,e284,hx284_0,hx284_1,hx284_2,hx284_3,hx284_4⟩:=at_T58 HR0.out x9_1 p284 q284;cases e284;replace hx284_0:=bc_ HB hx284_0
        replace hx284_1:=bc_ HB hx284_1;replace hx284_2:=bc_ HB hx284_2;replace hx284_3:=bc_ HB hx284_3;replace hx284_4:=bc_ HB hx284_4;replace p284:=eq_true p284;replace q284:=eq_true q284
        try go_wp2_with (first | ((with_reducible refine gate_dst (N:=6) rfl ?_);refine box_event ?hg (N:=6) ?hd (cs:=#[.string (⟨#[]⟩:ByteArray),.int .i64 0,.int .i64 0,.int .i64 0,.string (⟨#[]⟩:ByteArray)]) (t:=58) ?hr ?_;(case hd=>rfl);(case hg=>rfl);(case hr=>(go_simp;done));intro gb285 hg w29 hbox hb;have n0_:=a_ (below_step HB.out hb);have n1_:=a_ (hbox);have n2_:=a_ ((by rw [hg];exact (below_size HB.out):w.heap.size ≤ gb285));have n3_:=a_ ((by rw [hg];exact (below_size HB.out):w.heap.size ≤ gb285));clear HB;have HB:=n0_;have BK285:=n1_;have GW285:=n2_;have GE285:=n3_;clear n0_ n1_ n2_ n3_;clear hb hbox hg;have hcz30_0:w29.cell? ⟨gb285,0,none⟩=some (.string (⟨#[]⟩:ByteArray)):=(blk_cell BK285.out 0).trans rfl;have hcz30_1:w29.cell? ⟨gb285,1,none⟩=some (.int .i64 0):=(blk_cell BK285.out 1).trans rfl;have hcz30_2:w29.cell? ⟨gb285,2,none⟩=some (.int .i64 0):=(blk_cell BK285.out 2).trans rfl;have hcz30_3:w29.cell? ⟨gb285,3,none⟩=some (.int .i64 0):=(blk_cell BK285.out 3).trans rfl;have hcz30_4:w29.cell? ⟨gb285,4,none⟩=some (.string (⟨#[]⟩:ByteArray)):=(blk_cell BK285.out 4).trans rfl;have hfz30_0:=blk_frozen BK285.out 0;have hfz30_1:=blk_frozen BK285.out 1;have hfz30_2:=blk_frozen BK285.out 2;have hfz30_3:=blk_frozen BK285.out 3;have hfz30_4:=blk_frozen BK285.out 4) | ((with_reducible refine gate_store (t:=58) (p:=6) rfl ?_);refine store_event (t:=58) (p:=6) (v:=?vo_w31) (w1:=(((((w29.setCell ⟨gb285,0,none⟩ (.string ((rd_T58 l0 x9_1).f0))).setCell ⟨gb285,1,none⟩ (.int .i64 ((rd_T58 l0 x9_1).f1.f0))).setCell ⟨gb285,2,none⟩ (.int .i64 ((rd_T58 l0 x9_1).f1.f1))).setCell ⟨gb285,3,none⟩ (.int .i64 ((rd_T58 l0 x9_1).f1.f2))).setCell ⟨gb285,4,none⟩ (.string ((rd_T58 l0 x9_1).f1.f3)))) ?hg ?ho ?hn ?hr ?_;(case ho=>rfl);(case hg=>rfl);(case hn=>rfl);(case hr=>(go_simp;done));intro w31 hw;have n0_:Aside0 (w31.heap[gb285]? = some (.cells #[.string ((rd_T58 l0 x9_1).f0),.int .i64 ((rd_T58 l0 x9_1).f1.f0),.int .i64 ((rd_T58 l0 x9_1).f1.f1),.int .i64 ((rd_T58 l0 x9_1).f1.f2),.string ((rd_T58 l0 x9_1).f1.f3)] 58 (0,0))):=⟨(by rw [hw];exact (by refine blk_put (cs:=#[.string ((rd_T58 l0 x9_1).f0),.int .i64 ((rd_T58 l0 x9_1).f1.f0),.int .i64 ((rd_T58 l0 x9_1).f1.f1),.int .i64 ((rd_T58 l0 x9_1).f1.f2),.string (⟨#[]⟩:ByteArray)]) ?_ 4 _ rfl;refine blk_put (cs:=#[.string ((rd_T58 l0 x9_1).f0),.int .i64 ((rd_T58 l0 x9_1).f1.f0),.int .i64 ((rd_T58 l0 x9_1).f1.f1),.int .i64 0,.string (⟨#[]⟩:ByteArray)]) ?_ 3 _ rfl;refine blk_put (cs:=#[.string ((rd_T58 l0 x9_1).f0),.int .i64 ((rd_T58 l0 x9_1).f1.f0),.int .i64 0,.int .i64 0,.string (⟨#[]⟩:ByteArray)]) ?_ 2 _ rfl;refine blk_put (cs:=#[.string ((rd_T58 l0 x9_1).f0),.int .i64 0,.int .i64 0,.int .i64 0,.string (⟨#[]⟩:ByteArray)]) ?_ 1 _ rfl;refine blk_put (cs:=#[.string (⟨#[]⟩:ByteArray),.int .i64 0,.int .i64 0,.int .i64 0,.string (⟨#[]⟩:ByteArray)]) ?_ 0 _ rfl;exact BK285.out))⟩;have n1_:Aside0 (Below w.heap.size w w31):=⟨(by rw [hw];exact (by repeat (with_reducible first | exact HB.out | refine below_set ?_ GE285.out)))⟩;clear hw;clear BK285;clear HB;have BK285:=n0_;have HB:=n1_;clear n0_ n1_))
        have n0_:=a_ (blk_drew BK285.out);have n1_:=a_ (below_drew1 HB.out);clear BK285;clear HB;have BK285:=n0_;have HB:=n1_;clear n0_ n1_;refine start_ (n:=18) (S:=fun w'=>w'.cell? ⟨gb285,0,none⟩=some (.string ((rd_T58 l0 x9_1).f0)) ∧ w'.cell? ⟨gb285,1,none⟩=some (.int .i64 ((rd_T58 l0 x9_1).f1.f0)) ∧ w'.cell? ⟨gb285,2,none⟩=some (.int .i64 ((rd_T58 l0 x9_1).f1.f1)) ∧ w'.cell? ⟨gb285,3,none⟩=some (.int .i64 ((rd_T58 l0 x9_1).f1.f2)) ∧ w'.cell? ⟨gb285,4,none⟩=some (.string ((rd_T58 l0 x9_1).f1.f3))) (ds:=[]) (m_ 0 18) (by kernel_rfl) rfl rfl ⟨(blk_cell BK285.out 0).trans rfl,(blk_cell BK285.out 1).trans rfl,(blk_cell BK285.out 2).trans rfl,(blk_cell BK285.out 3).trans rfl,(blk_cell BK285.out 4).trans rfl⟩ (fun hHeld=>?_);refine with_tabW impl_ascending.tab4 impl_ascending.bits4 (fun HT_ HW_=>?_)
        generalize w31.drew=w32 at BK285 HB hHeld ⊢
        refine take_ (i:=0) (N:=some 14) (v:=?_) (a':=?_) (m_ 1 17) rfl rfl (take_ofW HT_.out HW_.out (by kernel_rfl)) (fun _ _ _ h=>h) (Or.inl ⟨by rfl,?_⟩) hHeld ?_ ?_;rotate_left
        ·rintro w' ⟨s0,s1,s2,s3,s4⟩;go_simp
         with_reducible rfl
        rotate_left
        ·simp only [Act.put,s1_,s2_,s3_,i64_w,i32_w];rfl
        refine one_ (i:=1) (N:=some 15) (m_ 2 16) rfl rfl (one_of HT_.out (by kernel_rfl)) (by decide) (fun K hK=>?_);refine goes_ Tryz.func125 (by kernel_rfl) rfl #[.agg #[.string ((rd_T58 l0 x9_1).f0),.int .i64 ((rd_T58 l0 x9_1).f1.f0),.int .i64 ((rd_T58 l0 x9_1).f1.f1),.int .i64 ((rd_T58 l0 x9_1).f1.f2),.string ((rd_T58 l0 x9_1).f1.f3)]] (by rfl) rfl rfl (by (try simp only [List.map_toArray,List.map_cons,List.map_nil]);rfl) ?_
        with_reducible refine (impl_NeedOk.calls k1 ((rd_T58 l0 x9_1).f0) ((rd_T58 l0 x9_1).f1.f0) ((rd_T58 l0 x9_1).f1.f1) ((rd_T58 l0 x9_1).f1.f2) ((rd_T58 l0 x9_1).f1.f3) true _ A6.out).mono ?_
        rintro e w33 ⟨rfl,hb⟩;refine ⟨_,rfl,?_⟩;have n0_:=a_ (blk_below (g:=gb285) (o:=.cells #[.string ((rd_T58 l0 x9_1).f0),.int .i64 ((rd_T58 l0 x9_1).f1.f0),.int .i64 ((rd_T58 l0 x9_1).f1.f1),.int .i64 ((rd_T58 l0 x9_1).f1.f2),.string ((rd_T58 l0 x9_1).f1.f3)] 58 (0,0)) (by exact BK285.out) hb);have n1_:=a_ (below_step HB.out hb);clear BK285;clear HB;have BK285:=n0_;have HB:=n1_;clear n0_ n1_
        (try clear hb)
        (skip)
        (skip)
        (skip)
        refine hK.out _ _ ⟨(blk_cell BK285.out 0).trans rfl,(blk_cell BK285.out 1).trans rfl,(blk_cell BK285.out 2).trans rfl,(blk_cell BK285.out 3).trans rfl,(blk_cell BK285.out 4).trans rfl⟩ (fun hHeld=>?_);clear hK K;refine norm_ (a':=?_) ?_ ?_;rotate_left
        ·show Act.put _ (some 15) _=_;simp only [Act.put,s1_,s2_,s3_,i64_w,i32_w];rfl
        refine pure_ (i:=2) (N:=some 16) (v:=?_) (a':=?_) (m_ 3 15) rfl rfl (any_of HT_.out (by kernel_rfl)) (fun _ _ _ h=>h) (Or.inl ⟨by rfl,?_⟩) ?_ ?_;rotate_left
        ·intro w';go_simp
         with_reducible rfl
        rotate_left
        ·simp only [Act.put,s1_,s2_,s3_,i64_w,i32_w];rfl
        refine pure_ (i:=3) (N:=some 17) (v:=?_) (a':=?_) (m_ 4 14) rfl rfl (any_of HT_.out (by kernel_rfl)) (fun _ _ _ h=>h) (Or.inl ⟨by rfl,?_⟩) ?_ ?_;rotate_left
        ·intro w';go_simp
         with_reducible rfl
        rotate_left
        ·simp only [Act.put,s1_,s2_,s3_,i64_w,i32_w];rfl
        refine pure_ (i:=4) (N:=some 18) (v:=?_) (a':=?_) (m_ 5 13) rfl rfl (any_of HT_.out (by kernel_rfl)) (fun _ _ _ h=>h) (Or.inl ⟨by rfl,?_⟩) ?_ ?_;rotate_left
        ·intro w';go_simp
         with_reducible rfl
        rotate_left
        ·simp only [Act.put,s1_,s2_,s3_,i64_w,i32_w];rfl
        refine pure_ (i:=5) (N:=some 19) (v:=?_) (a':=?_) (m_ 6 12) rfl rfl (any_of HT_.out (by kernel_rfl)) (fun _ _ _ h=>h) (Or.inl ⟨by rfl,?_⟩) ?_ ?_;rotate_left
        ·intro w';go_simp
         with_reducible rfl
        rotate_left
        ·simp only [Act.put,s1_,s2_,s3_,i64_w,i32_w];rfl
        refine pure_ (i:=6) (N:=some 20) (v:=?_) (a':=?_) (m_ 7 11) rfl rfl (any_of HT_.out (by kernel_rfl)) (fun _ _ _ h=>h) (Or.inl ⟨by rfl,?_⟩) ?_ ?_;rotate_left
        ·intro w';go_simp
         with_reducible rfl
        rotate_left
        ·simp only [Act.put,s1_,s2_,s3_,i64_w,i32_w];rfl
        refine pure_ (i:=7) (N:=some 21) (v:=undef) (a':=?_) (m_ 8 10) rfl rfl (any_of HT_.out (by kernel_rfl)) (fun _ _ _ h=>h) (Or.inr ⟨by rfl,rfl⟩) ?_ ?_;rotate_left
        ·simp only [Act.put,s1_,s2_,s3_,i64_w,i32_w];rfl
        refine pure_ (i:=8) (N:=some 22) (v:=undef) (a':=?_) (m_ 9 9) rfl rfl (any_of HT_.out (by kernel_rfl)) (fun _ _ _ h=>h) (Or.inr ⟨by rfl,rfl⟩) ?_ ?_;rotate_left
        ·simp only [Act.put,s1_,s2_,s3_,i64_w,i32_w];rfl
        refine pure_ (i:=9) (N:=some 23) (v:=undef) (a':=?_) (m_ 10 8) rfl rfl (any_of HT_.out (by kernel_rfl)) (fun _ _ _ h=>h) (Or.inr ⟨by rfl,rfl⟩) ?_ ?_;rotate_left
        ·simp only [Act.put,s1_,s2_,s3_,i64_w,i32_w];rfl
        refine pure_ (i:=10) (N:=some 24) (v:=undef) (a':=?_) (m_ 11 7) rfl rfl (any_of HT_.out (by kernel_rfl)) (fun _ _ _ h=>h) (Or.inr ⟨by rfl,rfl⟩) ?_ ?_;rotate_left
        ·simp only [Act.put,s1_,s2_,s3_,i64_w,i32_w];rfl
        refine pure_ (i:=11) (N:=some 25) (v:=undef) (a':=?_) (m_ 12 6) rfl rfl (any_of HT_.out (by kernel_rfl)) (fun _ _ _ h=>h) (Or.inr ⟨by rfl,rfl⟩) ?_ ?_;rotate_left
        ·simp only [Act.put,s1_,s2_,s3_,i64_w,i32_w];rfl
        refine pure_ (i:=12) (N:=some 26) (v:=undef) (a':=?_) (m_ 13 5) rfl rfl (any_of HT_.out (by kernel_rfl)) (fun _ _ _ h=>h) (Or.inr ⟨by rfl,rfl⟩) ?_ ?_;rotate_left
        ·simp only [Act.put,s1_,s2_,s3_,i64_w,i32_w];rfl
        refine pure_ (i:=13) (N:=some 27) (v:=undef) (a':=?_) (m_ 14 4) rfl rfl (any_of HT_.out (by kernel_rfl)) (fun _ _ _ h=>h) (Or.inr ⟨by rfl,rfl⟩) ?_ ?_;rotate_left
        ·simp only [Act.put,s1_,s2_,s3_,i64_w,i32_w];rfl
        refine pure_ (i:=14) (N:=some 28) (v:=undef) (a':=?_) (m_ 15 3) rfl rfl (any_of HT_.out (by kernel_rfl)) (fun _ _ _ h=>h) (Or.inr ⟨by rfl,rfl⟩) ?_ ?_;rotate_left
        ·simp only [Act.put,s1_,s2_,s3_,i64_w,i32_w];rfl
        refine pure_ (i:=15) (N:=some 29) (v:=undef) (a':=?_) (m_ 16 2) rfl rfl (any_of HT_.out (by kernel_rfl)) (fun _ _ _ h=>h) (Or.inr ⟨by rfl,rfl⟩) ?_ ?_;rotate_left
        ·simp only [Act.put,s1_,s2_,s3_,i64_w,i32_w];rfl
        refine pure_ (i:=16) (N:=some 30) (v:=?_) (a':=?_) (m_ 17 1) rfl rfl (any_of HT_.out (by kernel_rfl)) (fun _ _ _ h=>h) (Or.inl ⟨by rfl,?_⟩) ?_ ?_;rotate_left
        ·intro w';go_simp
         with_reducible rfl
        rotate_left
        ·simp only [Act.put,s1_,s2_,s3_,i64_w,i32_w];rfl
        refine pure_ (i:=17) (N:=some 31) (v:=?_) (a':=?_) (m_ 18 0) rfl rfl (any_of HT_.out (by kernel_rfl)) (fun _ _ _ h=>h) (Or.inl ⟨by rfl,?_⟩) ?_ ?_;rotate_left
        ·intro w';go_simp
         with_reducible rfl
        rotate_left
        ·simp only [Act.put,s1_,s2_,s3_,i64_w,i32_w];rfl
        refine done_ (done_of HT_.out (by kernel_rfl)) ?_
        try go_wp2
        go_roundg k1
        case measure=>have:=HK1.out;omega
        case rel=>exact ⟨(wrap64 (x9_1 + 1)),(by rfl),H',⟨by have:=HK1.out;omega⟩,⟨by exact HB.out⟩⟩
      ·replace c7:=Bool.eq_false_iff.mpr c7;subst c7;have H1:(some false)=some r:=by rw [if_neg (show ¬ (false=true) by decide)] at H;exact H
       clear H;have H:=H1;clear H1;obtain rfl:=Option.some.inj H;have p284:0 ≤ (x9_1:Int):=of_decide_eq_true (by (with_reducible assumption));have q284:x9_1 < (l0.length:Int):=of_decide_eq_true (by (with_reducible assumption));obtain ⟨ad284,e284,hx284_0,hx284_1,hx284_2,hx284_3,hx284_4⟩:=at_T58 HR0.out x9_1 p284 q284;cases e284;replace hx284_0:=bc_ HB hx284_0;replace hx284_1:=bc_ HB hx284_1;replace hx284_2:=bc_ HB hx284_2
       replace hx284_3:=bc_ HB hx284_3;replace hx284_4:=bc_ HB hx284_4;replace p284:=eq_true p284;replace q284:=eq_true q284
       try go_wp2_with (first | ((with_reducible refine gate_dst (N:=6) rfl ?_);refine box_event ?hg (N:=6) ?hd (cs:=#[.string (⟨#[]⟩:ByteArray),.int .i64 0,.int .i64 0,.int .i64 0,.string (⟨#[]⟩:ByteArray)]) (t:=58) ?hr ?_;(case hd=>rfl);(case hg=>rfl);(case hr=>(go_simp;done));intro gb285 hg w34 hbox hb;have n0_:=a_ (below_step HB.out hb);have n1_:=a_ (hbox);have n2_:=a_ ((by rw [hg];exact (below_size HB.out):w.heap.size ≤ gb285));have n3_:=a_ ((by rw [hg];exact (below_size HB.out):w.heap.size ≤ gb285));clear HB;have HB:=n0_;have BK285:=n1_;have GW285:=n2_;have GE285:=n3_;clear n0_ n1_ n2_ n3_;clear hb hbox hg;have hcz35_0:w34.cell? ⟨gb285,0,none⟩=some (.string (⟨#[]⟩:ByteArray)):=(blk_cell BK285.out 0).trans rfl;have hcz35_1:w34.cell? ⟨gb285,1,none⟩=some (.int .i64 0):=(blk_cell BK285.out 1).trans rfl;have hcz35_2:w34.cell? ⟨gb285,2,none⟩=some (.int .i64 0):=(blk_cell BK285.out 2).trans rfl;have hcz35_3:w34.cell? ⟨gb285,3,none⟩=some (.int .i64 0):=(blk_cell BK285.out 3).trans rfl;have hcz35_4:w34.cell? ⟨gb285,4,none⟩=some (.string (⟨#[]⟩:ByteArray)):=(blk_cell BK285.out 4).trans rfl;have hfz35_0:=blk_frozen BK285.out 0;have hfz35_1:=blk_frozen BK285.out 1;have hfz35_2:=blk_frozen BK285.out 2;have hfz35_3:=blk_frozen BK285.out 3;have hfz35_4:=blk_frozen BK285.out 4) | ((with_reducible refine gate_store (t:=58) (p:=6) rfl ?_);refine store_event (t:=58) (p:=6) (v:=?vo_w36) (w1:=(((((w34.setCell ⟨gb285,0,none⟩ (.string ((rd_T58 l0 x9_1).f0))).setCell ⟨gb285,1,none⟩ (.int .i64 ((rd_T58 l0 x9_1).f1.f0))).setCell ⟨gb285,2,none⟩ (.int .i64 ((rd_T58 l0 x9_1).f1.f1))).setCell ⟨gb285,3,none⟩ (.int .i64 ((rd_T58 l0 x9_1).f1.f2))).setCell ⟨gb285,4,none⟩ (.string ((rd_T58 l0 x9_1).f1.f3)))) ?hg ?ho ?hn ?hr ?_;(case ho=>rfl);(case hg=>rfl);(case hn=>rfl);(case hr=>(go_simp;done));intro w36 hw;have n0_:Aside0 (w36.heap[gb285]? = some (.cells #[.string ((rd_T58 l0 x9_1).f0),.int .i64 ((rd_T58 l0 x9_1).f1.f0),.int .i64 ((rd_T58 l0 x9_1).f1.f1),.int .i64 ((rd_T58 l0 x9_1).f1.f2),.string ((rd_T58 l0 x9_1).f1.f3)] 58 (0,0))):=⟨(by rw [hw];exact (by refine blk_put (cs:=#[.string ((rd_T58 l0 x9_1).f0),.int .i64 ((rd_T58 l0 x9_1).f1.f0),.int .i64 ((rd_T58 l0 x9_1).f1.f1),.int .i64 ((rd_T58 l0 x9_1).f1.f2),.string (⟨#[]⟩:ByteArray)]) ?_ 4 _ rfl;refine blk_put (cs:=#[.string ((rd_T58 l0 x9_1).f0),.int .i64 ((rd_T58 l0 x9_1).f1.f0),.int .i64 ((rd_T58 l0 x9_1).f1.f1),.int .i64 0,.string (⟨#[]⟩:ByteArray)]) ?_ 3 _ rfl;refine blk_put (cs:=#[.string ((rd_T58 l0 x9_1).f0),.int .i64 ((rd_T58 l0 x9_1).f1.f0),.int .i64 0,.int .i64 0,.string (⟨#[]⟩:ByteArray)]) ?_ 2 _ rfl;refine blk_put (cs:=#[.string ((rd_T58 l0 x9_1).f0),.int .i64 0,.int .i64 0,.int .i64 0,.string (⟨#[]⟩:ByteArray)]) ?_ 1 _ rfl;refine blk_put (cs:=#[.string (⟨#[]⟩:ByteArray),.int .i64 0,.int .i64 0,.int .i64 0,.string (⟨#[]⟩:ByteArray)]) ?_ 0 _ rfl;exact BK285.out))⟩;have n1_:Aside0 (Below w.heap.size w w36):=⟨(by rw [hw];exact (by repeat (with_reducible first | exact HB.out | refine below_set ?_ GE285.out)))⟩;clear hw;clear BK285;clear HB;have BK285:=n0_;have HB:=n1_;clear n0_ n1_))
       have n0_:=a_ (blk_drew BK285.out);have n1_:=a_ (below_drew1 HB.out);clear BK285;clear HB;have BK285:=n0_;have HB:=n1_;clear n0_ n1_;refine start_ (n:=18) (S:=fun w'=>w'.cell? ⟨gb285,0,none⟩=some (.string ((rd_T58 l0 x9_1).f0)) ∧ w'.cell? ⟨gb285,1,none⟩=some (.int .i64 ((rd_T58 l0 x9_1).f1.f0)) ∧ w'.cell? ⟨gb285,2,none⟩=some (.int .i64 ((rd_T58 l0 x9_1).f1.f1)) ∧ w'.cell? ⟨gb285,3,none⟩=some (.int .i64 ((rd_T58 l0 x9_1).f1.f2)) ∧ w'.cell? ⟨gb285,4,none⟩=some (.string ((rd_T58 l0 x9_1).f1.f3))) (ds:=[]) (m_ 0 18) (by kernel_rfl) rfl rfl ⟨(blk_cell BK285.out 0).trans rfl,(blk_cell BK285.out 1).trans rfl,(blk_cell BK285.out 2).trans rfl,(blk_cell BK285.out 3).trans rfl,(blk_cell BK285.out 4).trans rfl⟩ (fun hHeld=>?_);refine with_tabW impl_ascending.tab4 impl_ascending.bits4 (fun HT_ HW_=>?_)
       generalize w36.drew=w37 at BK285 HB hHeld ⊢
       refine take_ (i:=0) (N:=some 14) (v:=?_) (a':=?_) (m_ 1 17) rfl rfl (take_ofW HT_.out HW_.out (by kernel_rfl)) (fun _ _ _ h=>h) (Or.inl ⟨by rfl,?_⟩) hHeld ?_ ?_;rotate_left
       ·rintro w' ⟨s0,s1,s2,s3,s4⟩;go_simp
        with_reducible rfl
       rotate_left
       ·simp only [Act.put,s1_,s2_,s3_,i64_w,i32_w];rfl
       refine one_ (i:=1) (N:=some 15) (m_ 2 16) rfl rfl (one_of HT_.out (by kernel_rfl)) (by decide) (fun K hK=>?_);refine goes_ Tryz.func125 (by kernel_rfl) rfl #[.agg #[.string ((rd_T58 l0 x9_1).f0),.int .i64 ((rd_T58 l0 x9_1).f1.f0),.int .i64 ((rd_T58 l0 x9_1).f1.f1),.int .i64 ((rd_T58 l0 x9_1).f1.f2),.string ((rd_T58 l0 x9_1).f1.f3)]] (by rfl) rfl rfl (by (try simp only [List.map_toArray,List.map_cons,List.map_nil]);rfl) ?_
       with_reducible refine (impl_NeedOk.calls k1 ((rd_T58 l0 x9_1).f0) ((rd_T58 l0 x9_1).f1.f0) ((rd_T58 l0 x9_1).f1.f1) ((rd_T58 l0 x9_1).f1.f2) ((rd_T58 l0 x9_1).f1.f3) false _ A6.out).mono ?_
       rintro e w38 ⟨rfl,hb⟩;refine ⟨_,rfl,?_⟩;have n0_:=a_ (blk_below (g:=gb285) (o:=.cells #[.string ((rd_T58 l0 x9_1).f0),.int .i64 ((rd_T58 l0 x9_1).f1.f0),.int .i64 ((rd_T58 l0 x9_1).f1.f1),.int .i64 ((rd_T58 l0 x9_1).f1.f2),.string ((rd_T58 l0 x9_1).f1.f3)] 58 (0,0)) (by exact BK285.out) hb);have n1_:=a_ (below_step HB.out hb);clear BK285;clear HB;have BK285:=n0_;have HB:=n1_;clear n0_ n1_
       (try clear hb)
       (skip)
       (skip)
       (skip)
       refine hK.out _ _ ⟨(blk_cell BK285.out 0).trans rfl,(blk_cell BK285.out 1).trans rfl,(blk_cell BK285.out 2).trans rfl,(blk_cell BK285.out 3).trans rfl,(blk_cell BK285.out 4).trans rfl⟩ (fun hHeld=>?_);clear hK K;refine norm_ (a':=?_) ?_ ?_;rotate_left
       ·show Act.put _ (some 15) _=_;simp only [Act.put,s1_,s2_,s3_,i64_w,i32_w];rfl
       refine pure_ (i:=2) (N:=some 16) (v:=?_) (a':=?_) (m_ 3 15) rfl rfl (any_of HT_.out (by kernel_rfl)) (fun _ _ _ h=>h) (Or.inl ⟨by rfl,?_⟩) ?_ ?_;rotate_left
       ·intro w';go_simp
        with_reducible rfl
       rotate_left
       ·simp only [Act.put,s1_,s2_,s3_,i64_w,i32_w];rfl
       refine pure_ (i:=3) (N:=some 17) (v:=?_) (a':=?_) (m_ 4 14) rfl rfl (any_of HT_.out (by kernel_rfl)) (fun _ _ _ h=>h) (Or.inl ⟨by rfl,?_⟩) ?_ ?_;rotate_left
       ·intro w';go_simp
        with_reducible rfl
       rotate_left
       ·simp only [Act.put,s1_,s2_,s3_,i64_w,i32_w];rfl
       refine pure_ (i:=4) (N:=some 18) (v:=undef) (a':=?_) (m_ 5 13) rfl rfl (any_of HT_.out (by kernel_rfl)) (fun _ _ _ h=>h) (Or.inr ⟨by rfl,rfl⟩) ?_ ?_;rotate_left
       ·simp only [Act.put,s1_,s2_,s3_,i64_w,i32_w];rfl
       refine pure_ (i:=5) (N:=some 19) (v:=undef) (a':=?_) (m_ 6 12) rfl rfl (any_of HT_.out (by kernel_rfl)) (fun _ _ _ h=>h) (Or.inr ⟨by rfl,rfl⟩) ?_ ?_;rotate_left
       ·simp only [Act.put,s1_,s2_,s3_,i64_w,i32_w];rfl
       refine pure_ (i:=6) (N:=some 20) (v:=undef) (a':=?_) (m_ 7 11) rfl rfl (any_of HT_.out (by kernel_rfl)) (fun _ _ _ h=>h) (Or.inr ⟨by rfl,rfl⟩) ?_ ?_;rotate_left
       ·simp only [Act.put,s1_,s2_,s3_,i64_w,i32_w];rfl
       refine pure_ (i:=7) (N:=some 21) (v:=undef) (a':=?_) (m_ 8 10) rfl rfl (any_of HT_.out (by kernel_rfl)) (fun _ _ _ h=>h) (Or.inr ⟨by rfl,rfl⟩) ?_ ?_;rotate_left
       ·simp only [Act.put,s1_,s2_,s3_,i64_w,i32_w];rfl
       refine pure_ (i:=8) (N:=some 22) (v:=undef) (a':=?_) (m_ 9 9) rfl rfl (any_of HT_.out (by kernel_rfl)) (fun _ _ _ h=>h) (Or.inr ⟨by rfl,rfl⟩) ?_ ?_;rotate_left
       ·simp only [Act.put,s1_,s2_,s3_,i64_w,i32_w];rfl
       refine pure_ (i:=9) (N:=some 23) (v:=undef) (a':=?_) (m_ 10 8) rfl rfl (any_of HT_.out (by kernel_rfl)) (fun _ _ _ h=>h) (Or.inr ⟨by rfl,rfl⟩) ?_ ?_;rotate_left
       ·simp only [Act.put,s1_,s2_,s3_,i64_w,i32_w];rfl
       refine pure_ (i:=10) (N:=some 24) (v:=undef) (a':=?_) (m_ 11 7) rfl rfl (any_of HT_.out (by kernel_rfl)) (fun _ _ _ h=>h) (Or.inr ⟨by rfl,rfl⟩) ?_ ?_;rotate_left
       ·simp only [Act.put,s1_,s2_,s3_,i64_w,i32_w];rfl
       refine pure_ (i:=11) (N:=some 25) (v:=undef) (a':=?_) (m_ 12 6) rfl rfl (any_of HT_.out (by kernel_rfl)) (fun _ _ _ h=>h) (Or.inr ⟨by rfl,rfl⟩) ?_ ?_;rotate_left
       ·simp only [Act.put,s1_,s2_,s3_,i64_w,i32_w];rfl
       refine pure_ (i:=12) (N:=some 26) (v:=undef) (a':=?_) (m_ 13 5) rfl rfl (any_of HT_.out (by kernel_rfl)) (fun _ _ _ h=>h) (Or.inr ⟨by rfl,rfl⟩) ?_ ?_;rotate_left
       ·simp only [Act.put,s1_,s2_,s3_,i64_w,i32_w];rfl
       refine pure_ (i:=13) (N:=some 27) (v:=undef) (a':=?_) (m_ 14 4) rfl rfl (any_of HT_.out (by kernel_rfl)) (fun _ _ _ h=>h) (Or.inr ⟨by rfl,rfl⟩) ?_ ?_;rotate_left
       ·simp only [Act.put,s1_,s2_,s3_,i64_w,i32_w];rfl
       refine pure_ (i:=14) (N:=some 28) (v:=undef) (a':=?_) (m_ 15 3) rfl rfl (any_of HT_.out (by kernel_rfl)) (fun _ _ _ h=>h) (Or.inr ⟨by rfl,rfl⟩) ?_ ?_;rotate_left
       ·simp only [Act.put,s1_,s2_,s3_,i64_w,i32_w];rfl
       refine pure_ (i:=15) (N:=some 29) (v:=undef) (a':=?_) (m_ 16 2) rfl rfl (any_of HT_.out (by kernel_rfl)) (fun _ _ _ h=>h) (Or.inr ⟨by rfl,rfl⟩) ?_ ?_;rotate_left
       ·simp only [Act.put,s1_,s2_,s3_,i64_w,i32_w];rfl
       refine pure_ (i:=16) (N:=some 30) (v:=undef) (a':=?_) (m_ 17 1) rfl rfl (any_of HT_.out (by kernel_rfl)) (fun _ _ _ h=>h) (Or.inr ⟨by rfl,rfl⟩) ?_ ?_;rotate_left
       ·simp only [Act.put,s1_,s2_,s3_,i64_w,i32_w];rfl
       refine pure_ (i:=17) (N:=some 31) (v:=?_) (a':=?_) (m_ 18 0) rfl rfl (any_of HT_.out (by kernel_rfl)) (fun _ _ _ h=>h) (Or.inl ⟨by rfl,?_⟩) ?_ ?_;rotate_left
       ·intro w';go_simp
        with_reducible rfl
       rotate_left
       ·simp only [Act.put,s1_,s2_,s3_,i64_w,i32_w];rfl
       refine done_ (done_of HT_.out (by kernel_rfl)) ?_
       try go_wp2
       go_ret
       exact ⟨by rfl,by exact HB.out⟩
     ·rw [if_neg c5] at H;exact absurd H (by simp)
    ·rw [if_neg c4] at H;exact absurd H (by simp)
   ·rw [if_neg c3] at H;have c3b0:decide (x9_1 < (l0.length:Int))=false:=decide_eq_false c3;clear c3;obtain rfl:=Option.some.inj H
    go_wp2
    go_ret
    exact ⟨by rfl,by exact HB.out⟩
end Go.Proofs.YtfpdikledfhcaaaGreatDoor.PFnExactClientOk
