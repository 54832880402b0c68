import Derived.Test.YtmkdeknpphimbaaDoorCCePFnClosedx0
import Derived.Test.YtmkdeknpphimbaaDoorCCePFnClosedx7
import Derived.Test.YtmkdeknpphimbaaDoorCCePFnClosedx11
import Derived.Test.YtmkdeknpphimbaaDoorCCePFnClosedx17
namespace Go.Proofs.YtmkdeknpphimbaaDoor.PFnClosed
open Go.RowKit Go.Proofs.YtmkdeknpphimbaaDoorW.PrintWords Go.Proofs.YtmkdeknpphimbaaDoorW.PrintLast Go.Proofs.YtmkdeknpphimbaaDoorW.PrintMore
attribute [local go_sem] max2_int min2_int max_two min_two max_three min_three max_four min_four
set_option linter.unusedVariables false
set_option linter.unusedSimpArgs false
def spec_l16Max.l0:Nat → List (S36) → Int → ByteArray → Int → Int → Int → ByteArray → Option ((List (S36)))
 | 0,_,_,_,_,_,_,_=>none
 | k + 1,x0,x5,x416000,x416001,x416002,x416003,x416004=>if x5 < (x0.length:Int) then (if 0 ≤ x5 then (if ((rd_T36 x0 x5).f0).toList=x416000.toList then ((spec_LessVersion.f k ((rd_T36 x0 x5).f1.f0) ((rd_T36 x0 x5).f1.f1) ((rd_T36 x0 x5).f1.f2) ((rd_T36 x0 x5).f1.f3) x416001 x416002 x416003 x416004).bind fun t418=>(if t418=true then (spec_l16Max.l0 k x0 (wrap64 (x5 + 1)) x416000 x416001 x416002 x416003 x416004) else (some x0))) else (spec_l16Max.l0 k x0 (wrap64 (x5 + 1)) x416000 x416001 x416002 x416003 x416004)) else (none)) else ((spec_l5Put.f k x0 x416000 x416001 x416002 x416003 x416004).bind fun t419=>(some t419))
def spec_l16Max.f (k:Nat) (l0:List (S36)) (a1_0:ByteArray) (a1_1:Int) (a1_2:Int) (a1_3:Int) (a1_4:ByteArray):Option ((List (S36))):=spec_l16Max.l0 k l0 0 a1_0 a1_1 a1_2 a1_3 a1_4
theorem spec_l16Max.mono_l : ∀ k,(∀ y0 y1 y2 y3 y4 y5 y6,LeO (spec_l16Max.l0 k y0 y1 y2 y3 y4 y5 y6) (spec_l16Max.l0 (k + 1) y0 y1 y2 y3 y4 y5 y6))
 | 0=>fun _ _ _ _ _ _ _ r h=>by simp [spec_l16Max.l0] at h
 | k + 1=>by
  have ih0:=spec_l16Max.mono_l k
  ·intro y0 y1 y2 y3 y4 y5 y6;unfold spec_l16Max.l0
   repeat' first
   | (with_reducible exact ih0 _ _ _ _ _ _ _)
   | (with_reducible exact spec_LessVersion.mono _ _ _ _ _ _ _ _ _)
   | (with_reducible exact spec_l5Put.mono _ _ _ _ _ _ _)
   | (with_reducible exact LeO.refl _)
   | (with_reducible refine LeO.ite ?_ ?_)
   | (with_reducible refine LeO.bind ?_ (fun _=>?_))
theorem spec_l16Max.mono : ∀ a0 a1 a2 a3 a4 a5 k,LeO (spec_l16Max.f k a0 a1 a2 a3 a4 a5) (spec_l16Max.f (k + 1) a0 a1 a2 a3 a4 a5):=by
 intro a0 a1 a2 a3 a4 a5 k;have ih0:=spec_l16Max.mono_l k;unfold spec_l16Max.f
 repeat' (with_reducible exact ih0 _ _ _ _ _ _ _)
def spec_l16Max.T4:Bool × List (List Nat × List Nat):=(true,[([],[]),([],[]),([0,1],[0,1]),([2],[2]),([3],[3]),([],[]),([5],[5]),([4,6],[4,6]),([7],[7]),([8],[8]),([8],[8]),([9,10,8],[8,9,10]),([11,8],[8,11]),([12,8],[8,12]),([8],[8]),([14,8],[8,14]),([13,15,8,8],[8,13,15]),([16,8],[8,16]),([8,17],[8,17])])
def spec_l16Max.B4:List Nat:=[0,0,3,7,15,0,32,127,255,511,511,2047,4095,8191,511,16895,65535,131071,262143]
theorem spec_l16Max.tab4:rtab .any (opsOf Tryd.f56 4)=spec_l16Max.T4:=by kernel_rfl
theorem spec_l16Max.bits4:waitsOk spec_l16Max.T4.2 spec_l16Max.B4=true:=by kernel_rfl
set_option maxHeartbeats 8000000 in
set_option maxRecDepth 100000 in
theorem spec_l16Max.calls (k:Nat) (P0_:Nat → Prop) (u9000_:Value) (l0:List (S36)) (a1_0:ByteArray) (a1_1:Int) (a1_2:Int) (a1_3:Int) (a1_4:ByteArray) (r:List (S36)) (w0 w:World) (hB:Below w0.heap.size w0 w) (ho0:Kd.R k36 36 w w0.heap.size P0_ u9000_ l0) (h:spec_l16Max.f k l0 a1_0 a1_1 a1_2 a1_3 a1_4=some r) :
 Calls Tryd.prog 56 #[u9000_,.agg #[.string a1_0,.int .i64 a1_1,.int .i64 a1_2,.int .i64 a1_3,.string a1_4]] w fun e w'=>∃ v0_:Value,e = .returned (v0_) ∧ Kd.R k36 36 w' w0.heap.size (fun k_=>(P0_ k_ ∨ w.heap.size ≤ k_)) v0_ r ∧ Below w0.heap.size w0 w' ∧ Kept w w' (fun k_=>P0_ k_):=by
 have hu36:=Tryd.underlying36;have hu33:=Tryd.underlying33;have HO0:=a_ (show Kd.R k36 36 w w0.heap.size (fun k_=>(P0_ k_ ∨ w.heap.size ≤ k_)) u9000_ l0 from Kd.R_mono ho0 (fun k_ hk=>(.inl hk)));have HK:=a_ (Kept.refl w (fun k_=>P0_ k_));have HW0:=a_ hB.size;have HB:=a_ hB;clear hB;have H:(spec_l16Max.l0 k l0 0 a1_0 a1_1 a1_2 a1_3 a1_4)=some r:=h;clear h;have H':=a_ H;clear H
 go_enter Tryd.func56,Tryd.ntmps56
 go_wp2_with (((with_reducible refine gate_dst (N:=3) rfl ?_);refine box_event ?hg (N:=3) ?hd (cs:=#[.string a1_0,.int .i64 a1_1,.int .i64 a1_2,.int .i64 a1_3,.string a1_4]) (t:=36) ?hr ?_;(case hd=>rfl);(case hg=>rfl);(case hr=>(go_simp;done));intro gb415 hg w3 hbox hb;have n0_:=a_ (Kd.R_below (Kd.R_elderB (by exact HO0.out) gb415 (Nat.le_of_eq hg.symm)) hb);have n1_:=a_ (Kept.below (S:=(fun k_=>P0_ k_)) HK.out hb);have n2_:=a_ (below_step HB.out hb);have n3_:=a_ (hbox);have n4_:=a_ ((by rw [hg];exact (by exact HK.out.1):w.heap.size ≤ gb415));have n5_:=a_ ((by rw [hg];exact (below_size HB.out):w0.heap.size ≤ gb415));clear HO0;clear HK;clear HB;have HO0:=n0_;have HK:=n1_;have HB:=n2_;have BK415:=n3_;have GW415:=n4_;have GE415:=n5_;clear n0_ n1_ n2_ n3_ n4_ n5_;clear hb hbox hg))
 go_loopg [5] k (fun kq v5 w'=>∃ (x5_1:Int),v5 = .int .i64 x5_1 ∧ Aside0 (spec_l16Max.l0 kq l0 x5_1 a1_0 a1_1 a1_2 a1_3 a1_4=some r) ∧ Aside0 (kq ≤ k) ∧ Aside0 (Kd.R k36 36 w' w0.heap.size (fun k_=>(P0_ k_ ∨ w.heap.size ≤ k_) ∧ k_ ≠ gb415) u9000_ l0) ∧ Aside0 (w'.heap[gb415]? = some (.cells #[.string a1_0,.int .i64 a1_1,.int .i64 a1_2,.int .i64 a1_3,.string a1_4] 36 (0,0))) ∧ Aside0 (Kept w w' (fun k_=>P0_ k_)) ∧ Aside0 (Below w0.heap.size w0 w'))
 case atStart=>exact ⟨(0),(by rfl),H',⟨Nat.le_refl _⟩,⟨by exact HO0.out⟩,⟨by exact BK415.out⟩,⟨by exact HK.out⟩,⟨by exact HB.out⟩⟩
 case round=>
  clear H';obtain ⟨x5_1,rfl,HA,HK1,HO_0,BK415,HK,HB⟩:=hrel
  cases gk with
  | zero=>exact absurd HA.out (by simp [spec_l16Max.l0])
  | succ k1=>
   have H:=HA.out;clear HA;simp only [spec_l16Max.l0] at H
   by_cases c4:x5_1 < (l0.length:Int)
   ·rw [if_pos c4] at H;have c4b0:decide (x5_1 < (l0.length:Int))=true:=decide_eq_true c4;clear c4
    by_cases c5:0 ≤ x5_1
    ·rw [if_pos c5] at H;have c5b0:decide (0 ≤ x5_1)=true:=decide_eq_true c5;clear c5
     by_cases c6:((rd_T36 l0 x5_1).f0).toList=a1_0.toList
     ·rw [if_pos c6] at H;have c6b0:(((rd_T36 l0 x5_1).f0).toList == a1_0.toList)=true:=beq_iff_eq.mpr c6;have c6b1:(((rd_T36 l0 x5_1).f0).toList != a1_0.toList)=false:=bne_eq_false_iff_eq.mpr c6;clear c6;replace H:=Option.bind_eq_some_iff.mp H;obtain ⟨t418,A70,H⟩:=H;replace H:(if t418=true then (spec_l16Max.l0 k1 l0 (wrap64 (x5_1 + 1)) a1_0 a1_1 a1_2 a1_3 a1_4) else (some l0))=some r:=H;have A7:=a_ A70
      clear A70
      by_cases c8:t418=true
      ·subst c8;have H1:(spec_l16Max.l0 k1 l0 (wrap64 (x5_1 + 1)) a1_0 a1_1 a1_2 a1_3 a1_4)=some r:=by rw [if_pos rfl] at H;exact H
       clear H;have H:=H1;clear H1;have H':=a_ H;clear H;obtain ⟨Ao9,co9,eo9⟩:=Kd.R_slice HO_0.out;subst eo9
       try go_wp2
       have n0_:=a_ (Kd.R_drew HO_0.out);have n1_:=a_ (blk_drew BK415.out);have n2_:=a_ (Kept.drew HK.out);have n3_:=a_ (below_drew1 HB.out);clear HO_0;clear BK415;clear HK;clear HB;have HO_0:=n0_;have BK415:=n1_;have HK:=n2_;have HB:=n3_;clear n0_ n1_ n2_ n3_;have p416:0 ≤ (x5_1:Int):=of_decide_eq_true (by (with_reducible assumption));have q416:x5_1 < (l0.length:Int):=of_decide_eq_true (by (with_reducible assumption))
       obtain ⟨ad416,e416,hx416_0,hx416_1,hx416_2,hx416_3,hx416_4⟩:=at_T36 (Kd.R_reads' HO_0.out).2.2 x5_1 p416 q416;cases e416;replace p416:=eq_true p416;replace q416:=eq_true q416;have p417:0 ≤ (x5_1:Int):=of_decide_eq_true (by (with_reducible assumption));have q417:x5_1 < (l0.length:Int):=of_decide_eq_true (by (with_reducible assumption));obtain ⟨ad417,e417,hx417_0,hx417_1,hx417_2,hx417_3,hx417_4⟩:=at_T36 (Kd.R_reads' HO_0.out).2.2 x5_1 p417 q417
       obtain rfl:ad416=ad417:=(by injection e417);replace p417:=eq_true p417;replace q417:=eq_true q417;refine start_ (n:=19) (S:=fun w'=>w'.cell? ⟨gb415,0,none⟩=some (.string a1_0) ∧ w'.cell? ⟨gb415,1,none⟩=some (.int .i64 a1_1) ∧ w'.cell? ⟨gb415,2,none⟩=some (.int .i64 a1_2) ∧ w'.cell? ⟨gb415,3,none⟩=some (.int .i64 a1_3) ∧ w'.cell? ⟨gb415,4,none⟩=some (.string a1_4) ∧ w'.cell? (ad416.add ((x5_1).toNat * 5))=some (.string ((rd_T36 l0 x5_1).f0)) ∧ w'.cell? ⟨(ad416.add ((x5_1).toNat * 5)).block,(ad416.add ((x5_1).toNat * 5)).off + 1,none⟩=some (.int .i64 ((rd_T36 l0 x5_1).f1.f0)) ∧ w'.cell? ⟨(ad416.add ((x5_1).toNat * 5)).block,(ad416.add ((x5_1).toNat * 5)).off + 2,none⟩=some (.int .i64 ((rd_T36 l0 x5_1).f1.f1)) ∧ w'.cell? ⟨(ad416.add ((x5_1).toNat * 5)).block,(ad416.add ((x5_1).toNat * 5)).off + 3,none⟩=some (.int .i64 ((rd_T36 l0 x5_1).f1.f2)) ∧ w'.cell? ⟨(ad416.add ((x5_1).toNat * 5)).block,(ad416.add ((x5_1).toNat * 5)).off + 4,none⟩=some (.string ((rd_T36 l0 x5_1).f1.f3)) ∧ w'.cell? (ad416.add ((x5_1).toNat * 5))=some (.string ((rd_T36 l0 x5_1).f0)) ∧ w'.cell? ⟨(ad416.add ((x5_1).toNat * 5)).block,(ad416.add ((x5_1).toNat * 5)).off + 1,none⟩=some (.int .i64 ((rd_T36 l0 x5_1).f1.f0)) ∧ w'.cell? ⟨(ad416.add ((x5_1).toNat * 5)).block,(ad416.add ((x5_1).toNat * 5)).off + 2,none⟩=some (.int .i64 ((rd_T36 l0 x5_1).f1.f1)) ∧ w'.cell? ⟨(ad416.add ((x5_1).toNat * 5)).block,(ad416.add ((x5_1).toNat * 5)).off + 3,none⟩=some (.int .i64 ((rd_T36 l0 x5_1).f1.f2)) ∧ w'.cell? ⟨(ad416.add ((x5_1).toNat * 5)).block,(ad416.add ((x5_1).toNat * 5)).off + 4,none⟩=some (.string ((rd_T36 l0 x5_1).f1.f3))) (ds:=[]) (m_ 0 19) (by kernel_rfl) rfl rfl ⟨(blk_cell BK415.out 0).trans rfl,(blk_cell BK415.out 1).trans rfl,(blk_cell BK415.out 2).trans rfl,(blk_cell BK415.out 3).trans rfl,(blk_cell BK415.out 4).trans rfl,hx416_0,hx416_1,hx416_2,hx416_3,hx416_4,hx417_0,hx417_1,hx417_2,hx417_3,hx417_4⟩ (fun hHeld=>?_);refine with_tabW spec_l16Max.tab4 spec_l16Max.bits4 (fun HT_ HW_=>?_)
       generalize wr.drew=w10 at HO_0 BK415 HK HB hx416_0 hx416_1 hx416_2 hx416_3 hx416_4 hx417_0 hx417_1 hx417_2 hx417_3 hx417_4 hHeld ⊢
       refine pure_ (i:=0) (N:=some 12) (v:=?_) (a':=?_) (m_ 1 18) rfl rfl (any_of HT_.out (by kernel_rfl)) (fun _ _ _ h=>h) (Or.inl ⟨by rfl,?_⟩) ?_ ?_;rotate_left
       ·intro w';go_simp
        with_reducible rfl
       rotate_left
       ·simp only [Act.put,s1_,s2_,s3_,i64_w,i32_w];rfl
       refine pure_ (i:=1) (N:=some 13) (v:=?_) (a':=?_) (m_ 2 17) rfl rfl (any_of HT_.out (by kernel_rfl)) (fun _ _ _ h=>h) (Or.inl ⟨by rfl,?_⟩) ?_ ?_;rotate_left
       ·intro w';go_simp
        with_reducible rfl
       rotate_left
       ·simp only [Act.put,s1_,s2_,s3_,i64_w,i32_w];rfl
       refine pure_ (i:=2) (N:=some 14) (v:=?_) (a':=?_) (m_ 3 16) rfl rfl (any_of HT_.out (by kernel_rfl)) (fun _ _ _ h=>h) (Or.inl ⟨by rfl,?_⟩) ?_ ?_;rotate_left
       ·intro w';go_simp
        with_reducible rfl
       rotate_left
       ·simp only [Act.put,s1_,s2_,s3_,i64_w,i32_w];rfl
       refine pure_ (i:=3) (N:=some 15) (v:=?_) (a':=?_) (m_ 4 15) rfl rfl (any_of HT_.out (by kernel_rfl)) (fun _ _ _ h=>h) (Or.inl ⟨by rfl,?_⟩) ?_ ?_;rotate_left
       ·intro w';go_simp
        with_reducible rfl
       rotate_left
       ·simp only [Act.put,s1_,s2_,s3_,i64_w,i32_w];rfl
       refine pure_ (i:=5) (N:=some 17) (v:=?_) (a':=?_) #[true,true,true,true,false,true,false,false,false,false,false,false,false,false,false,false,false,false,false] rfl rfl (any_of HT_.out (by kernel_rfl)) (fun _ _ _ h=>h) (Or.inl ⟨by rfl,?_⟩) ?_ ?_;rotate_left
       ·intro w';go_simp
        with_reducible rfl
       rotate_left
       ·simp only [Act.put,s1_,s2_,s3_,i64_w,i32_w];rfl
       refine take_ (i:=4) (N:=some 16) (v:=?_) (a':=?_) (m_ 6 13) rfl rfl (take_ofW HT_.out HW_.out (by kernel_rfl)) (fun _ _ _ h=>h) (Or.inl ⟨by rfl,?_⟩) hHeld ?_ ?_;rotate_left
       ·rintro w' ⟨s0,s1,s2,s3,s4,s5,s6,s7,s8,s9,s10,s11,s12,s13,s14⟩;go_simp
        with_reducible rfl
       rotate_left
       ·simp only [Act.put,s1_,s2_,s3_,i64_w,i32_w];rfl
       refine take_ (i:=6) (N:=some 18) (v:=?_) (a':=?_) (m_ 7 12) rfl rfl (take_ofW HT_.out HW_.out (by kernel_rfl)) (fun _ _ _ h=>h) (Or.inl ⟨by rfl,?_⟩) hHeld ?_ ?_;rotate_left
       ·rintro w' ⟨s0,s1,s2,s3,s4,s5,s6,s7,s8,s9,s10,s11,s12,s13,s14⟩;go_simp
        with_reducible rfl
       rotate_left
       ·simp only [Act.put,s1_,s2_,s3_,i64_w,i32_w];rfl
       refine pure_ (i:=7) (N:=some 19) (v:=?_) (a':=?_) (m_ 8 11) rfl rfl (any_of HT_.out (by kernel_rfl)) (fun _ _ _ h=>h) (Or.inl ⟨by rfl,?_⟩) ?_ ?_;rotate_left
       ·intro w';go_simp
        with_reducible rfl
       rotate_left
       ·simp only [Act.put,s1_,s2_,s3_,i64_w,i32_w];rfl
       refine pure_ (i:=8) (N:=some 20) (v:=?_) (a':=?_) (m_ 9 10) rfl rfl (any_of HT_.out (by kernel_rfl)) (fun _ _ _ h=>h) (Or.inl ⟨by rfl,?_⟩) ?_ ?_;rotate_left
       ·intro w';go_simp
        with_reducible rfl
       rotate_left
       ·simp only [Act.put,s1_,s2_,s3_,i64_w,i32_w];rfl
       refine pure_ (i:=9) (N:=some 21) (v:=?_) (a':=?_) (m_ 10 9) rfl rfl (any_of HT_.out (by kernel_rfl)) (fun _ _ _ h=>h) (Or.inl ⟨by rfl,?_⟩) ?_ ?_;rotate_left
       ·intro w';go_simp
        with_reducible rfl
       rotate_left
       ·simp only [Act.put,s1_,s2_,s3_,i64_w,i32_w];rfl
       refine pure_ (i:=10) (N:=some 22) (v:=?_) (a':=?_) (m_ 11 8) rfl rfl (any_of HT_.out (by kernel_rfl)) (fun _ _ _ h=>h) (Or.inl ⟨by rfl,?_⟩) ?_ ?_;rotate_left
       ·intro w';go_simp
        with_reducible rfl
       rotate_left
       ·simp only [Act.put,s1_,s2_,s3_,i64_w,i32_w];rfl
       refine pure_ (i:=11) (N:=some 23) (v:=?_) (a':=?_) (m_ 12 7) rfl rfl (any_of HT_.out (by kernel_rfl)) (fun _ _ _ h=>h) (Or.inl ⟨by rfl,?_⟩) ?_ ?_;rotate_left
       ·intro w';go_simp
        with_reducible rfl
       rotate_left
       ·simp only [Act.put,s1_,s2_,s3_,i64_w,i32_w];rfl
       refine pure_ (i:=12) (N:=some 24) (v:=?_) (a':=?_) (m_ 13 6) rfl rfl (any_of HT_.out (by kernel_rfl)) (fun _ _ _ h=>h) (Or.inl ⟨by rfl,?_⟩) ?_ ?_;rotate_left
       ·intro w';go_simp
        with_reducible rfl
       rotate_left
       ·simp only [Act.put,s1_,s2_,s3_,i64_w,i32_w];rfl
       refine pure_ (i:=14) (N:=some 26) (v:=?_) (a':=?_) #[true,true,true,true,true,true,true,true,true,true,true,true,true,false,true,false,false,false,false] rfl rfl (any_of HT_.out (by kernel_rfl)) (fun _ _ _ h=>h) (Or.inl ⟨by rfl,?_⟩) ?_ ?_;rotate_left
       ·intro w';go_simp
        with_reducible rfl
       rotate_left
       ·simp only [Act.put,s1_,s2_,s3_,i64_w,i32_w];rfl
       refine take_ (i:=13) (N:=some 25) (v:=?_) (a':=?_) (m_ 15 4) rfl rfl (take_ofW HT_.out HW_.out (by kernel_rfl)) (fun _ _ _ h=>h) (Or.inl ⟨by rfl,?_⟩) hHeld ?_ ?_;rotate_left
       ·rintro w' ⟨s0,s1,s2,s3,s4,s5,s6,s7,s8,s9,s10,s11,s12,s13,s14⟩;go_simp
        with_reducible rfl
       rotate_left
       ·simp only [Act.put,s1_,s2_,s3_,i64_w,i32_w];rfl
       refine take_ (i:=15) (N:=some 27) (v:=?_) (a':=?_) (m_ 16 3) rfl rfl (take_ofW HT_.out HW_.out (by kernel_rfl)) (fun _ _ _ h=>h) (Or.inl ⟨by rfl,?_⟩) hHeld ?_ ?_;rotate_left
       ·rintro w' ⟨s0,s1,s2,s3,s4,s5,s6,s7,s8,s9,s10,s11,s12,s13,s14⟩;go_simp
        with_reducible rfl
       rotate_left
       ·simp only [Act.put,s1_,s2_,s3_,i64_w,i32_w];rfl
       refine one_ (i:=16) (N:=some 28) (m_ 17 2) rfl rfl (one_of HT_.out (by kernel_rfl)) (by decide) (fun K hK=>?_);refine goes_ Tryd.func23 (by kernel_rfl) rfl #[.agg #[.int .i64 ((rd_T36 l0 x5_1).f1.f0),.int .i64 ((rd_T36 l0 x5_1).f1.f1),.int .i64 ((rd_T36 l0 x5_1).f1.f2),.string ((rd_T36 l0 x5_1).f1.f3)],.agg #[.int .i64 a1_1,.int .i64 a1_2,.int .i64 a1_3,.string a1_4]] (by rfl) rfl rfl (by (try simp only [List.map_toArray,List.map_cons,List.map_nil]);rfl) ?_
       with_reducible refine (spec_LessVersion.calls k1 ((rd_T36 l0 x5_1).f1.f0) ((rd_T36 l0 x5_1).f1.f1) ((rd_T36 l0 x5_1).f1.f2) ((rd_T36 l0 x5_1).f1.f3) a1_1 a1_2 a1_3 a1_4 true _ A7.out).mono ?_
       rintro e w11 ⟨rfl,hb⟩;have HS5_:=(hb.cell (World.block_lt_of_cell? _ _ (hHeld.2.2.2.2.2.1))).trans (hHeld.2.2.2.2.2.1);have HS6_:=(hb.cell (World.block_lt_of_cell? _ _ (hHeld.2.2.2.2.2.2.1))).trans (hHeld.2.2.2.2.2.2.1);have HS7_:=(hb.cell (World.block_lt_of_cell? _ _ (hHeld.2.2.2.2.2.2.2.1))).trans (hHeld.2.2.2.2.2.2.2.1);have HS8_:=(hb.cell (World.block_lt_of_cell? _ _ (hHeld.2.2.2.2.2.2.2.2.1))).trans (hHeld.2.2.2.2.2.2.2.2.1)
       have HS9_:=(hb.cell (World.block_lt_of_cell? _ _ (hHeld.2.2.2.2.2.2.2.2.2.1))).trans (hHeld.2.2.2.2.2.2.2.2.2.1);have HS10_:=(hb.cell (World.block_lt_of_cell? _ _ (hHeld.2.2.2.2.2.2.2.2.2.2.1))).trans (hHeld.2.2.2.2.2.2.2.2.2.2.1);have HS11_:=(hb.cell (World.block_lt_of_cell? _ _ (hHeld.2.2.2.2.2.2.2.2.2.2.2.1))).trans (hHeld.2.2.2.2.2.2.2.2.2.2.2.1);have HS12_:=(hb.cell (World.block_lt_of_cell? _ _ (hHeld.2.2.2.2.2.2.2.2.2.2.2.2.1))).trans (hHeld.2.2.2.2.2.2.2.2.2.2.2.2.1)
       have HS13_:=(hb.cell (World.block_lt_of_cell? _ _ (hHeld.2.2.2.2.2.2.2.2.2.2.2.2.2.1))).trans (hHeld.2.2.2.2.2.2.2.2.2.2.2.2.2.1);have HS14_:=(hb.cell (World.block_lt_of_cell? _ _ (hHeld.2.2.2.2.2.2.2.2.2.2.2.2.2.2))).trans (hHeld.2.2.2.2.2.2.2.2.2.2.2.2.2.2);refine ⟨_,rfl,?_⟩;have n0_:=a_ (Kd.R_below (by exact HO_0.out) hb);have n1_:=a_ (blk_below (g:=gb415) (o:=.cells #[.string a1_0,.int .i64 a1_1,.int .i64 a1_2,.int .i64 a1_3,.string a1_4] 36 (0,0)) (by exact BK415.out) hb)
       have n2_:=a_ (Kept.below (S:=(fun k_=>P0_ k_)) HK.out hb);have n3_:=a_ (below_step HB.out hb);clear HO_0;clear BK415;clear HK;clear HB;have HO_0:=n0_;have BK415:=n1_;have HK:=n2_;have HB:=n3_;clear n0_ n1_ n2_ n3_
       (try clear hb)
       (skip)
       (skip)
       (skip)
       refine hK.out _ _ ⟨(blk_cell BK415.out 0).trans rfl,(blk_cell BK415.out 1).trans rfl,(blk_cell BK415.out 2).trans rfl,(blk_cell BK415.out 3).trans rfl,(blk_cell BK415.out 4).trans rfl,HS5_,HS6_,HS7_,HS8_,HS9_,HS10_,HS11_,HS12_,HS13_,HS14_⟩ (fun hHeld=>?_);clear hK K;refine norm_ (a':=?_) ?_ ?_;rotate_left
       ·show Act.put _ (some 28) _=_;simp only [Act.put,s1_,s2_,s3_,i64_w,i32_w];rfl
       refine pure_ (i:=17) (N:=some 29) (v:=?_) (a':=?_) (m_ 18 1) rfl rfl (any_of HT_.out (by kernel_rfl)) (fun _ _ _ h=>h) (Or.inl ⟨by rfl,?_⟩) ?_ ?_;rotate_left
       ·intro w';go_simp
        with_reducible rfl
       rotate_left
       ·simp only [Act.put,s1_,s2_,s3_,i64_w,i32_w];rfl
       refine pure_ (i:=18) (N:=some 30) (v:=?_) (a':=?_) (m_ 19 0) rfl rfl (any_of HT_.out (by kernel_rfl)) (fun _ _ _ h=>h) (Or.inl ⟨by rfl,?_⟩) ?_ ?_;rotate_left
       ·intro w';go_simp
        with_reducible rfl
       rotate_left
       ·simp only [Act.put,s1_,s2_,s3_,i64_w,i32_w];rfl
       refine done_ (done_of HT_.out (by kernel_rfl)) ?_
       try go_wp2
       go_roundg k1
       case measure=>have:=HK1.out;omega
       case rel=>exact ⟨(wrap64 (x5_1 + 1)),(by rfl),H',⟨by have:=HK1.out;omega⟩,⟨by exact HO_0.out⟩,⟨by exact BK415.out⟩,⟨by exact HK.out⟩,⟨by exact HB.out⟩⟩
      ·replace c8:=Bool.eq_false_iff.mpr c8;subst c8;have H1:(some l0)=some r:=by rw [if_neg (show ¬ (false=true) by decide)] at H;exact H
       clear H;have H:=H1;clear H1;obtain rfl:=Option.some.inj H;obtain ⟨Ao12,co12,eo12⟩:=Kd.R_slice HO_0.out;subst eo12
       try go_wp2
       have n0_:=a_ (Kd.R_drew HO_0.out);have n1_:=a_ (blk_drew BK415.out);have n2_:=a_ (Kept.drew HK.out);have n3_:=a_ (below_drew1 HB.out);clear HO_0;clear BK415;clear HK;clear HB;have HO_0:=n0_;have BK415:=n1_;have HK:=n2_;have HB:=n3_;clear n0_ n1_ n2_ n3_;have p416:0 ≤ (x5_1:Int):=of_decide_eq_true (by (with_reducible assumption));have q416:x5_1 < (l0.length:Int):=of_decide_eq_true (by (with_reducible assumption))
       obtain ⟨ad416,e416,hx416_0,hx416_1,hx416_2,hx416_3,hx416_4⟩:=at_T36 (Kd.R_reads' HO_0.out).2.2 x5_1 p416 q416;cases e416;replace p416:=eq_true p416;replace q416:=eq_true q416;have p417:0 ≤ (x5_1:Int):=of_decide_eq_true (by (with_reducible assumption));have q417:x5_1 < (l0.length:Int):=of_decide_eq_true (by (with_reducible assumption));obtain ⟨ad417,e417,hx417_0,hx417_1,hx417_2,hx417_3,hx417_4⟩:=at_T36 (Kd.R_reads' HO_0.out).2.2 x5_1 p417 q417
       obtain rfl:ad416=ad417:=(by injection e417);replace p417:=eq_true p417;replace q417:=eq_true q417;refine start_ (n:=19) (S:=fun w'=>w'.cell? ⟨gb415,0,none⟩=some (.string a1_0) ∧ w'.cell? ⟨gb415,1,none⟩=some (.int .i64 a1_1) ∧ w'.cell? ⟨gb415,2,none⟩=some (.int .i64 a1_2) ∧ w'.cell? ⟨gb415,3,none⟩=some (.int .i64 a1_3) ∧ w'.cell? ⟨gb415,4,none⟩=some (.string a1_4) ∧ w'.cell? (ad416.add ((x5_1).toNat * 5))=some (.string ((rd_T36 l0 x5_1).f0)) ∧ w'.cell? ⟨(ad416.add ((x5_1).toNat * 5)).block,(ad416.add ((x5_1).toNat * 5)).off + 1,none⟩=some (.int .i64 ((rd_T36 l0 x5_1).f1.f0)) ∧ w'.cell? ⟨(ad416.add ((x5_1).toNat * 5)).block,(ad416.add ((x5_1).toNat * 5)).off + 2,none⟩=some (.int .i64 ((rd_T36 l0 x5_1).f1.f1)) ∧ w'.cell? ⟨(ad416.add ((x5_1).toNat * 5)).block,(ad416.add ((x5_1).toNat * 5)).off + 3,none⟩=some (.int .i64 ((rd_T36 l0 x5_1).f1.f2)) ∧ w'.cell? ⟨(ad416.add ((x5_1).toNat * 5)).block,(ad416.add ((x5_1).toNat * 5)).off + 4,none⟩=some (.string ((rd_T36 l0 x5_1).f1.f3)) ∧ w'.cell? (ad416.add ((x5_1).toNat * 5))=some (.string ((rd_T36 l0 x5_1).f0)) ∧ w'.cell? ⟨(ad416.add ((x5_1).toNat * 5)).block,(ad416.add ((x5_1).toNat * 5)).off + 1,none⟩=some (.int .i64 ((rd_T36 l0 x5_1).f1.f0)) ∧ w'.cell? ⟨(ad416.add ((x5_1).toNat * 5)).block,(ad416.add ((x5_1).toNat * 5)).off + 2,none⟩=some (.int .i64 ((rd_T36 l0 x5_1).f1.f1)) ∧ w'.cell? ⟨(ad416.add ((x5_1).toNat * 5)).block,(ad416.add ((x5_1).toNat * 5)).off + 3,none⟩=some (.int .i64 ((rd_T36 l0 x5_1).f1.f2)) ∧ w'.cell? ⟨(ad416.add ((x5_1).toNat * 5)).block,(ad416.add ((x5_1).toNat * 5)).off + 4,none⟩=some (.string ((rd_T36 l0 x5_1).f1.f3))) (ds:=[]) (m_ 0 19) (by kernel_rfl) rfl rfl ⟨(blk_cell BK415.out 0).trans rfl,(blk_cell BK415.out 1).trans rfl,(blk_cell BK415.out 2).trans rfl,(blk_cell BK415.out 3).trans rfl,(blk_cell BK415.out 4).trans rfl,hx416_0,hx416_1,hx416_2,hx416_3,hx416_4,hx417_0,hx417_1,hx417_2,hx417_3,hx417_4⟩ (fun hHeld=>?_);refine with_tabW spec_l16Max.tab4 spec_l16Max.bits4 (fun HT_ HW_=>?_)
       generalize wr.drew=w13 at HO_0 BK415 HK HB hx416_0 hx416_1 hx416_2 hx416_3 hx416_4 hx417_0 hx417_1 hx417_2 hx417_3 hx417_4 hHeld ⊢
       refine pure_ (i:=0) (N:=some 12) (v:=?_) (a':=?_) (m_ 1 18) rfl rfl (any_of HT_.out (by kernel_rfl)) (fun _ _ _ h=>h) (Or.inl ⟨by rfl,?_⟩) ?_ ?_;rotate_left
       ·intro w';go_simp
        with_reducible rfl
       rotate_left
       ·simp only [Act.put,s1_,s2_,s3_,i64_w,i32_w];rfl
       refine pure_ (i:=1) (N:=some 13) (v:=?_) (a':=?_) (m_ 2 17) rfl rfl (any_of HT_.out (by kernel_rfl)) (fun _ _ _ h=>h) (Or.inl ⟨by rfl,?_⟩) ?_ ?_;rotate_left
       ·intro w';go_simp
        with_reducible rfl
       rotate_left
       ·simp only [Act.put,s1_,s2_,s3_,i64_w,i32_w];rfl
       refine pure_ (i:=2) (N:=some 14) (v:=?_) (a':=?_) (m_ 3 16) rfl rfl (any_of HT_.out (by kernel_rfl)) (fun _ _ _ h=>h) (Or.inl ⟨by rfl,?_⟩) ?_ ?_;rotate_left
       ·intro w';go_simp
        with_reducible rfl
       rotate_left
       ·simp only [Act.put,s1_,s2_,s3_,i64_w,i32_w];rfl
       refine pure_ (i:=3) (N:=some 15) (v:=?_) (a':=?_) (m_ 4 15) rfl rfl (any_of HT_.out (by kernel_rfl)) (fun _ _ _ h=>h) (Or.inl ⟨by rfl,?_⟩) ?_ ?_;rotate_left
       ·intro w';go_simp
        with_reducible rfl
       rotate_left
       ·simp only [Act.put,s1_,s2_,s3_,i64_w,i32_w];rfl
       refine pure_ (i:=5) (N:=some 17) (v:=?_) (a':=?_) #[true,true,true,true,false,true,false,false,false,false,false,false,false,false,false,false,false,false,false] rfl rfl (any_of HT_.out (by kernel_rfl)) (fun _ _ _ h=>h) (Or.inl ⟨by rfl,?_⟩) ?_ ?_;rotate_left
       ·intro w';go_simp
        with_reducible rfl
       rotate_left
       ·simp only [Act.put,s1_,s2_,s3_,i64_w,i32_w];rfl
       refine take_ (i:=4) (N:=some 16) (v:=?_) (a':=?_) (m_ 6 13) rfl rfl (take_ofW HT_.out HW_.out (by kernel_rfl)) (fun _ _ _ h=>h) (Or.inl ⟨by rfl,?_⟩) hHeld ?_ ?_;rotate_left
       ·rintro w' ⟨s0,s1,s2,s3,s4,s5,s6,s7,s8,s9,s10,s11,s12,s13,s14⟩;go_simp
        with_reducible rfl
       rotate_left
       ·simp only [Act.put,s1_,s2_,s3_,i64_w,i32_w];rfl
       refine take_ (i:=6) (N:=some 18) (v:=?_) (a':=?_) (m_ 7 12) rfl rfl (take_ofW HT_.out HW_.out (by kernel_rfl)) (fun _ _ _ h=>h) (Or.inl ⟨by rfl,?_⟩) hHeld ?_ ?_;rotate_left
       ·rintro w' ⟨s0,s1,s2,s3,s4,s5,s6,s7,s8,s9,s10,s11,s12,s13,s14⟩;go_simp
        with_reducible rfl
       rotate_left
       ·simp only [Act.put,s1_,s2_,s3_,i64_w,i32_w];rfl
       refine pure_ (i:=7) (N:=some 19) (v:=?_) (a':=?_) (m_ 8 11) rfl rfl (any_of HT_.out (by kernel_rfl)) (fun _ _ _ h=>h) (Or.inl ⟨by rfl,?_⟩) ?_ ?_;rotate_left
       ·intro w';go_simp
        with_reducible rfl
       rotate_left
       ·simp only [Act.put,s1_,s2_,s3_,i64_w,i32_w];rfl
       refine pure_ (i:=8) (N:=some 20) (v:=?_) (a':=?_) (m_ 9 10) rfl rfl (any_of HT_.out (by kernel_rfl)) (fun _ _ _ h=>h) (Or.inl ⟨by rfl,?_⟩) ?_ ?_;rotate_left
       ·intro w';go_simp
        with_reducible rfl
       rotate_left
       ·simp only [Act.put,s1_,s2_,s3_,i64_w,i32_w];rfl
       refine pure_ (i:=9) (N:=some 21) (v:=?_) (a':=?_) (m_ 10 9) rfl rfl (any_of HT_.out (by kernel_rfl)) (fun _ _ _ h=>h) (Or.inl ⟨by rfl,?_⟩) ?_ ?_;rotate_left
       ·intro w';go_simp
        with_reducible rfl
       rotate_left
       ·simp only [Act.put,s1_,s2_,s3_,i64_w,i32_w];rfl
       refine pure_ (i:=10) (N:=some 22) (v:=?_) (a':=?_) (m_ 11 8) rfl rfl (any_of HT_.out (by kernel_rfl)) (fun _ _ _ h=>h) (Or.inl ⟨by rfl,?_⟩) ?_ ?_;rotate_left
       ·intro w';go_simp
        with_reducible rfl
       rotate_left
       ·simp only [Act.put,s1_,s2_,s3_,i64_w,i32_w];rfl
       refine pure_ (i:=11) (N:=some 23) (v:=?_) (a':=?_) (m_ 12 7) rfl rfl (any_of HT_.out (by kernel_rfl)) (fun _ _ _ h=>h) (Or.inl ⟨by rfl,?_⟩) ?_ ?_;rotate_left
       ·intro w';go_simp
        with_reducible rfl
       rotate_left
       ·simp only [Act.put,s1_,s2_,s3_,i64_w,i32_w];rfl
       refine pure_ (i:=12) (N:=some 24) (v:=?_) (a':=?_) (m_ 13 6) rfl rfl (any_of HT_.out (by kernel_rfl)) (fun _ _ _ h=>h) (Or.inl ⟨by rfl,?_⟩) ?_ ?_;rotate_left
       ·intro w';go_simp
        with_reducible rfl
       rotate_left
       ·simp only [Act.put,s1_,s2_,s3_,i64_w,i32_w];rfl
       refine pure_ (i:=14) (N:=some 26) (v:=?_) (a':=?_) #[true,true,true,true,true,true,true,true,true,true,true,true,true,false,true,false,false,false,false] rfl rfl (any_of HT_.out (by kernel_rfl)) (fun _ _ _ h=>h) (Or.inl ⟨by rfl,?_⟩) ?_ ?_;rotate_left
       ·intro w';go_simp
        with_reducible rfl
       rotate_left
       ·simp only [Act.put,s1_,s2_,s3_,i64_w,i32_w];rfl
       refine take_ (i:=13) (N:=some 25) (v:=?_) (a':=?_) (m_ 15 4) rfl rfl (take_ofW HT_.out HW_.out (by kernel_rfl)) (fun _ _ _ h=>h) (Or.inl ⟨by rfl,?_⟩) hHeld ?_ ?_;rotate_left
       ·rintro w' ⟨s0,s1,s2,s3,s4,s5,s6,s7,s8,s9,s10,s11,s12,s13,s14⟩;go_simp
        with_reducible rfl
       rotate_left
       ·simp only [Act.put,s1_,s2_,s3_,i64_w,i32_w];rfl
       refine take_ (i:=15) (N:=some 27) (v:=?_) (a':=?_) (m_ 16 3) rfl rfl (take_ofW HT_.out HW_.out (by kernel_rfl)) (fun _ _ _ h=>h) (Or.inl ⟨by rfl,?_⟩) hHeld ?_ ?_;rotate_left
       ·rintro w' ⟨s0,s1,s2,s3,s4,s5,s6,s7,s8,s9,s10,s11,s12,s13,s14⟩;go_simp
        with_reducible rfl
       rotate_left
       ·simp only [Act.put,s1_,s2_,s3_,i64_w,i32_w];rfl
       refine one_ (i:=16) (N:=some 28) (m_ 17 2) rfl rfl (one_of HT_.out (by kernel_rfl)) (by decide) (fun K hK=>?_);refine goes_ Tryd.func23 (by kernel_rfl) rfl #[.agg #[.int .i64 ((rd_T36 l0 x5_1).f1.f0),.int .i64 ((rd_T36 l0 x5_1).f1.f1),.int .i64 ((rd_T36 l0 x5_1).f1.f2),.string ((rd_T36 l0 x5_1).f1.f3)],.agg #[.int .i64 a1_1,.int .i64 a1_2,.int .i64 a1_3,.string a1_4]] (by rfl) rfl rfl (by (try simp only [List.map_toArray,List.map_cons,List.map_nil]);rfl) ?_
       with_reducible refine (spec_LessVersion.calls k1 ((rd_T36 l0 x5_1).f1.f0) ((rd_T36 l0 x5_1).f1.f1) ((rd_T36 l0 x5_1).f1.f2) ((rd_T36 l0 x5_1).f1.f3) a1_1 a1_2 a1_3 a1_4 false _ A7.out).mono ?_
       rintro e w14 ⟨rfl,hb⟩;have HS5_:=(hb.cell (World.block_lt_of_cell? _ _ (hHeld.2.2.2.2.2.1))).trans (hHeld.2.2.2.2.2.1);have HS6_:=(hb.cell (World.block_lt_of_cell? _ _ (hHeld.2.2.2.2.2.2.1))).trans (hHeld.2.2.2.2.2.2.1);have HS7_:=(hb.cell (World.block_lt_of_cell? _ _ (hHeld.2.2.2.2.2.2.2.1))).trans (hHeld.2.2.2.2.2.2.2.1);have HS8_:=(hb.cell (World.block_lt_of_cell? _ _ (hHeld.2.2.2.2.2.2.2.2.1))).trans (hHeld.2.2.2.2.2.2.2.2.1)
       have HS9_:=(hb.cell (World.block_lt_of_cell? _ _ (hHeld.2.2.2.2.2.2.2.2.2.1))).trans (hHeld.2.2.2.2.2.2.2.2.2.1);have HS10_:=(hb.cell (World.block_lt_of_cell? _ _ (hHeld.2.2.2.2.2.2.2.2.2.2.1))).trans (hHeld.2.2.2.2.2.2.2.2.2.2.1);have HS11_:=(hb.cell (World.block_lt_of_cell? _ _ (hHeld.2.2.2.2.2.2.2.2.2.2.2.1))).trans (hHeld.2.2.2.2.2.2.2.2.2.2.2.1);have HS12_:=(hb.cell (World.block_lt_of_cell? _ _ (hHeld.2.2.2.2.2.2.2.2.2.2.2.2.1))).trans (hHeld.2.2.2.2.2.2.2.2.2.2.2.2.1)
       have HS13_:=(hb.cell (World.block_lt_of_cell? _ _ (hHeld.2.2.2.2.2.2.2.2.2.2.2.2.2.1))).trans (hHeld.2.2.2.2.2.2.2.2.2.2.2.2.2.1);have HS14_:=(hb.cell (World.block_lt_of_cell? _ _ (hHeld.2.2.2.2.2.2.2.2.2.2.2.2.2.2))).trans (hHeld.2.2.2.2.2.2.2.2.2.2.2.2.2.2);refine ⟨_,rfl,?_⟩;have n0_:=a_ (Kd.R_below (by exact HO_0.out) hb);have n1_:=a_ (blk_below (g:=gb415) (o:=.cells #[.string a1_0,.int .i64 a1_1,.int .i64 a1_2,.int .i64 a1_3,.string a1_4] 36 (0,0)) (by exact BK415.out) hb)
       have n2_:=a_ (Kept.below (S:=(fun k_=>P0_ k_)) HK.out hb);have n3_:=a_ (below_step HB.out hb);clear HO_0;clear BK415;clear HK;clear HB;have HO_0:=n0_;have BK415:=n1_;have HK:=n2_;have HB:=n3_;clear n0_ n1_ n2_ n3_
       (try clear hb)
       (skip)
       (skip)
       (skip)
       refine hK.out _ _ ⟨(blk_cell BK415.out 0).trans rfl,(blk_cell BK415.out 1).trans rfl,(blk_cell BK415.out 2).trans rfl,(blk_cell BK415.out 3).trans rfl,(blk_cell BK415.out 4).trans rfl,HS5_,HS6_,HS7_,HS8_,HS9_,HS10_,HS11_,HS12_,HS13_,HS14_⟩ (fun hHeld=>?_);clear hK K;refine norm_ (a':=?_) ?_ ?_;rotate_left
       ·show Act.put _ (some 28) _=_;simp only [Act.put,s1_,s2_,s3_,i64_w,i32_w];rfl
       refine pure_ (i:=17) (N:=some 29) (v:=?_) (a':=?_) (m_ 18 1) rfl rfl (any_of HT_.out (by kernel_rfl)) (fun _ _ _ h=>h) (Or.inl ⟨by rfl,?_⟩) ?_ ?_;rotate_left
       ·intro w';go_simp
        with_reducible rfl
       rotate_left
       ·simp only [Act.put,s1_,s2_,s3_,i64_w,i32_w];rfl
       refine pure_ (i:=18) (N:=some 30) (v:=?_) (a':=?_) (m_ 19 0) rfl rfl (any_of HT_.out (by kernel_rfl)) (fun _ _ _ h=>h) (Or.inl ⟨by rfl,?_⟩) ?_ ?_;rotate_left
       ·intro w';go_simp
        with_reducible rfl
       rotate_left
       ·simp only [Act.put,s1_,s2_,s3_,i64_w,i32_w];rfl
       refine done_ (done_of HT_.out (by kernel_rfl)) ?_
       try go_wp2
       go_ret
       exact ⟨_,by rfl,by exact Kd.R_mono HO_0.out (fun _ hk=>hk.1),by exact HB.out,by exact HK.out⟩
     ·rw [if_neg c6] at H;have c6b0:(((rd_T36 l0 x5_1).f0).toList == a1_0.toList)=false:=beq_eq_false_iff_ne.mpr c6;have c6b1:(((rd_T36 l0 x5_1).f0).toList != a1_0.toList)=true:=bne_iff_ne.mpr c6;have H':=a_ H;clear H;obtain ⟨Ao15,co15,eo15⟩:=Kd.R_slice HO_0.out;subst eo15
      try go_wp2
      have n0_:=a_ (Kd.R_drew HO_0.out);have n1_:=a_ (blk_drew BK415.out);have n2_:=a_ (Kept.drew HK.out);have n3_:=a_ (below_drew1 HB.out);clear HO_0;clear BK415;clear HK;clear HB;have HO_0:=n0_;have BK415:=n1_;have HK:=n2_;have HB:=n3_;clear n0_ n1_ n2_ n3_;have p416:0 ≤ (x5_1:Int):=of_decide_eq_true (by (with_reducible assumption));have q416:x5_1 < (l0.length:Int):=of_decide_eq_true (by (with_reducible assumption))
      obtain ⟨ad416,e416,hx416_0,hx416_1,hx416_2,hx416_3,hx416_4⟩:=at_T36 (Kd.R_reads' HO_0.out).2.2 x5_1 p416 q416;cases e416;replace p416:=eq_true p416;replace q416:=eq_true q416;refine start_ (n:=19) (S:=fun w'=>w'.cell? ⟨gb415,0,none⟩=some (.string a1_0) ∧ w'.cell? ⟨gb415,1,none⟩=some (.int .i64 a1_1) ∧ w'.cell? ⟨gb415,2,none⟩=some (.int .i64 a1_2) ∧ w'.cell? ⟨gb415,3,none⟩=some (.int .i64 a1_3) ∧ w'.cell? ⟨gb415,4,none⟩=some (.string a1_4) ∧ w'.cell? (ad416.add ((x5_1).toNat * 5))=some (.string ((rd_T36 l0 x5_1).f0)) ∧ w'.cell? ⟨(ad416.add ((x5_1).toNat * 5)).block,(ad416.add ((x5_1).toNat * 5)).off + 1,none⟩=some (.int .i64 ((rd_T36 l0 x5_1).f1.f0)) ∧ w'.cell? ⟨(ad416.add ((x5_1).toNat * 5)).block,(ad416.add ((x5_1).toNat * 5)).off + 2,none⟩=some (.int .i64 ((rd_T36 l0 x5_1).f1.f1)) ∧ w'.cell? ⟨(ad416.add ((x5_1).toNat * 5)).block,(ad416.add ((x5_1).toNat * 5)).off + 3,none⟩=some (.int .i64 ((rd_T36 l0 x5_1).f1.f2)) ∧ w'.cell? ⟨(ad416.add ((x5_1).toNat * 5)).block,(ad416.add ((x5_1).toNat * 5)).off + 4,none⟩=some (.string ((rd_T36 l0 x5_1).f1.f3))) (ds:=[]) (m_ 0 19) (by kernel_rfl) rfl rfl ⟨(blk_cell BK415.out 0).trans rfl,(blk_cell BK415.out 1).trans rfl,(blk_cell BK415.out 2).trans rfl,(blk_cell BK415.out 3).trans rfl,(blk_cell BK415.out 4).trans rfl,hx416_0,hx416_1,hx416_2,hx416_3,hx416_4⟩ (fun hHeld=>?_);refine with_tabW spec_l16Max.tab4 spec_l16Max.bits4 (fun HT_ HW_=>?_)
      generalize wr.drew=w16 at HO_0 BK415 HK HB hx416_0 hx416_1 hx416_2 hx416_3 hx416_4 hHeld ⊢
      refine pure_ (i:=0) (N:=some 12) (v:=?_) (a':=?_) (m_ 1 18) rfl rfl (any_of HT_.out (by kernel_rfl)) (fun _ _ _ h=>h) (Or.inl ⟨by rfl,?_⟩) ?_ ?_;rotate_left
      ·intro w';go_simp
       with_reducible rfl
      rotate_left
      ·simp only [Act.put,s1_,s2_,s3_,i64_w,i32_w];rfl
      refine pure_ (i:=1) (N:=some 13) (v:=?_) (a':=?_) (m_ 2 17) rfl rfl (any_of HT_.out (by kernel_rfl)) (fun _ _ _ h=>h) (Or.inl ⟨by rfl,?_⟩) ?_ ?_;rotate_left
      ·intro w';go_simp
       with_reducible rfl
      rotate_left
      ·simp only [Act.put,s1_,s2_,s3_,i64_w,i32_w];rfl
      refine pure_ (i:=2) (N:=some 14) (v:=?_) (a':=?_) (m_ 3 16) rfl rfl (any_of HT_.out (by kernel_rfl)) (fun _ _ _ h=>h) (Or.inl ⟨by rfl,?_⟩) ?_ ?_;rotate_left
      ·intro w';go_simp
       with_reducible rfl
      rotate_left
      ·simp only [Act.put,s1_,s2_,s3_,i64_w,i32_w];rfl
      refine pure_ (i:=3) (N:=some 15) (v:=?_) (a':=?_) (m_ 4 15) rfl rfl (any_of HT_.out (by kernel_rfl)) (fun _ _ _ h=>h) (Or.inl ⟨by rfl,?_⟩) ?_ ?_;rotate_left
      ·intro w';go_simp
       with_reducible rfl
      rotate_left
      ·simp only [Act.put,s1_,s2_,s3_,i64_w,i32_w];rfl
      refine pure_ (i:=5) (N:=some 17) (v:=?_) (a':=?_) #[true,true,true,true,false,true,false,false,false,false,false,false,false,false,false,false,false,false,false] rfl rfl (any_of HT_.out (by kernel_rfl)) (fun _ _ _ h=>h) (Or.inl ⟨by rfl,?_⟩) ?_ ?_;rotate_left
      ·intro w';go_simp
       with_reducible rfl
      rotate_left
      ·simp only [Act.put,s1_,s2_,s3_,i64_w,i32_w];rfl
      refine take_ (i:=4) (N:=some 16) (v:=?_) (a':=?_) (m_ 6 13) rfl rfl (take_ofW HT_.out HW_.out (by kernel_rfl)) (fun _ _ _ h=>h) (Or.inl ⟨by rfl,?_⟩) hHeld ?_ ?_;rotate_left
      ·rintro w' ⟨s0,s1,s2,s3,s4,s5,s6,s7,s8,s9⟩;go_simp
       with_reducible rfl
      rotate_left
      ·simp only [Act.put,s1_,s2_,s3_,i64_w,i32_w];rfl
      refine take_ (i:=6) (N:=some 18) (v:=?_) (a':=?_) (m_ 7 12) rfl rfl (take_ofW HT_.out HW_.out (by kernel_rfl)) (fun _ _ _ h=>h) (Or.inl ⟨by rfl,?_⟩) hHeld ?_ ?_;rotate_left
      ·rintro w' ⟨s0,s1,s2,s3,s4,s5,s6,s7,s8,s9⟩;go_simp
       with_reducible rfl
      rotate_left
      ·simp only [Act.put,s1_,s2_,s3_,i64_w,i32_w];rfl
      refine pure_ (i:=7) (N:=some 19) (v:=?_) (a':=?_) (m_ 8 11) rfl rfl (any_of HT_.out (by kernel_rfl)) (fun _ _ _ h=>h) (Or.inl ⟨by rfl,?_⟩) ?_ ?_;rotate_left
      ·intro w';go_simp
       with_reducible rfl
      rotate_left
      ·simp only [Act.put,s1_,s2_,s3_,i64_w,i32_w];rfl
      refine pure_ (i:=8) (N:=some 20) (v:=?_) (a':=?_) (m_ 9 10) rfl rfl (any_of HT_.out (by kernel_rfl)) (fun _ _ _ h=>h) (Or.inl ⟨by rfl,?_⟩) ?_ ?_;rotate_left
      ·intro w';go_simp
       with_reducible rfl
      rotate_left
      ·simp only [Act.put,s1_,s2_,s3_,i64_w,i32_w];rfl
      refine pure_ (i:=9) (N:=some 21) (v:=undef) (a':=?_) (m_ 10 9) rfl rfl (any_of HT_.out (by kernel_rfl)) (fun _ _ _ h=>h) (Or.inr ⟨by rfl,rfl⟩) ?_ ?_;rotate_left
      ·simp only [Act.put,s1_,s2_,s3_,i64_w,i32_w];rfl
      refine pure_ (i:=10) (N:=some 22) (v:=undef) (a':=?_) (m_ 11 8) rfl rfl (any_of HT_.out (by kernel_rfl)) (fun _ _ _ h=>h) (Or.inr ⟨by rfl,rfl⟩) ?_ ?_;rotate_left
      ·simp only [Act.put,s1_,s2_,s3_,i64_w,i32_w];rfl
      refine pure_ (i:=11) (N:=some 23) (v:=undef) (a':=?_) (m_ 12 7) rfl rfl (any_of HT_.out (by kernel_rfl)) (fun _ _ _ h=>h) (Or.inr ⟨by rfl,rfl⟩) ?_ ?_;rotate_left
      ·simp only [Act.put,s1_,s2_,s3_,i64_w,i32_w];rfl
      refine pure_ (i:=12) (N:=some 24) (v:=undef) (a':=?_) (m_ 13 6) rfl rfl (any_of HT_.out (by kernel_rfl)) (fun _ _ _ h=>h) (Or.inr ⟨by rfl,rfl⟩) ?_ ?_;rotate_left
      ·simp only [Act.put,s1_,s2_,s3_,i64_w,i32_w];rfl
      refine pure_ (i:=13) (N:=some 25) (v:=undef) (a':=?_) (m_ 14 5) rfl rfl (any_of HT_.out (by kernel_rfl)) (fun _ _ _ h=>h) (Or.inr ⟨by rfl,rfl⟩) ?_ ?_;rotate_left
      ·simp only [Act.put,s1_,s2_,s3_,i64_w,i32_w];rfl
      refine pure_ (i:=14) (N:=some 26) (v:=undef) (a':=?_) (m_ 15 4) rfl rfl (any_of HT_.out (by kernel_rfl)) (fun _ _ _ h=>h) (Or.inr ⟨by rfl,rfl⟩) ?_ ?_;rotate_left
      ·simp only [Act.put,s1_,s2_,s3_,i64_w,i32_w];rfl
      refine pure_ (i:=15) (N:=some 27) (v:=undef) (a':=?_) (m_ 16 3) rfl rfl (any_of HT_.out (by kernel_rfl)) (fun _ _ _ h=>h) (Or.inr ⟨by rfl,rfl⟩) ?_ ?_;rotate_left
      ·simp only [Act.put,s1_,s2_,s3_,i64_w,i32_w];rfl
      refine pure_ (i:=16) (N:=some 28) (v:=undef) (a':=?_) (m_ 17 2) rfl rfl (any_of HT_.out (by kernel_rfl)) (fun _ _ _ h=>h) (Or.inr ⟨by rfl,rfl⟩) ?_ ?_;rotate_left
      ·simp only [Act.put,s1_,s2_,s3_,i64_w,i32_w];rfl
      refine pure_ (i:=17) (N:=some 29) (v:=undef) (a':=?_) (m_ 18 1) rfl rfl (any_of HT_.out (by kernel_rfl)) (fun _ _ _ h=>h) (Or.inr ⟨by rfl,rfl⟩) ?_ ?_;rotate_left
      ·simp only [Act.put,s1_,s2_,s3_,i64_w,i32_w];rfl
      refine pure_ (i:=18) (N:=some 30) (v:=?_) (a':=?_) (m_ 19 0) rfl rfl (any_of HT_.out (by kernel_rfl)) (fun _ _ _ h=>h) (Or.inl ⟨by rfl,?_⟩) ?_ ?_;rotate_left
      ·intro w';go_simp
       with_reducible rfl
      rotate_left
      ·simp only [Act.put,s1_,s2_,s3_,i64_w,i32_w];rfl
      refine done_ (done_of HT_.out (by kernel_rfl)) ?_
      try go_wp2
      go_roundg k1
      case measure=>have:=HK1.out;omega
      case rel=>exact ⟨(wrap64 (x5_1 + 1)),(by rfl),H',⟨by have:=HK1.out;omega⟩,⟨by exact HO_0.out⟩,⟨by exact BK415.out⟩,⟨by exact HK.out⟩,⟨by exact HB.out⟩⟩
    ·rw [if_neg c5] at H;exact absurd H (by simp)
   ·rw [if_neg c4] at H;have c4b0:decide (x5_1 < (l0.length:Int))=false:=decide_eq_false c4;clear c4;replace H:=Option.bind_eq_some_iff.mp H;obtain ⟨t419,A170,H⟩:=H;replace H:(some t419)=some r:=H;have A17:=a_ A170;clear A170;obtain rfl:=Option.some.inj H;obtain ⟨Ao18,co18,eo18⟩:=Kd.R_slice HO_0.out;subst eo18;have hcz19_0:wr.cell? ⟨gb415,0,none⟩=some (.string a1_0):=(blk_cell BK415.out 0).trans rfl
    have hcz19_1:wr.cell? ⟨gb415,1,none⟩=some (.int .i64 a1_1):=(blk_cell BK415.out 1).trans rfl;have hcz19_2:wr.cell? ⟨gb415,2,none⟩=some (.int .i64 a1_2):=(blk_cell BK415.out 2).trans rfl;have hcz19_3:wr.cell? ⟨gb415,3,none⟩=some (.int .i64 a1_3):=(blk_cell BK415.out 3).trans rfl;have hcz19_4:wr.cell? ⟨gb415,4,none⟩=some (.string a1_4):=(blk_cell BK415.out 4).trans rfl;have hfz19_0:=blk_frozen BK415.out 0
    have hfz19_1:=blk_frozen BK415.out 1;have hfz19_2:=blk_frozen BK415.out 2;have hfz19_3:=blk_frozen BK415.out 3;have hfz19_4:=blk_frozen BK415.out 4
    go_wp2_with (((with_reducible refine gate_callee (f:=49) rfl ?_);refine goesL_ (some 34) rfl rfl Tryd.func49 (by kernel_rfl) rfl #[.slice Ao18 l0.length co18,.agg #[.string a1_0,.int .i64 a1_1,.int .i64 a1_2,.int .i64 a1_3,.string a1_4]] rfl (by (try simp only [List.map_toArray,List.map_cons,List.map_nil]);rfl) ?_;(with_reducible refine (spec_l5Put.calls k1 _ _ l0 a1_0 a1_1 a1_2 a1_3 a1_4 t419 _ ?side1 ?side2 A17.out).mono ?_);(case side1=>repeat (exact (Kd.R_reads' HO_0.out).2.2));(case side2=>exact (Kd.R_reads' HO_0.out).2.1);rintro e w20 ⟨v420,rfl,ho0,hb⟩;refine ⟨_,rfl,?_⟩;have n0_:=a_ (Kd.R_elder' (by exact HO_0.out) (Kd.R_base ho0) hb);have n1_:=a_ (Kd.R_lower (Kd.R_newB (Kd.R_new' (Kd.R_newM (M:=fun k_=>(P0_ k_ ∨ w.heap.size ≤ k_)) ho0 (by exact HK.out.1) (fun k_ h_=>.inr h_)) (Kd.R_lt (by exact HO_0.out))) (g:=gb415) (o:=.cells #[.string a1_0,.int .i64 a1_1,.int .i64 a1_2,.int .i64 a1_3,.string a1_4] 36 (0,0)) (by exact BK415.out)) (below_size HB.out));have n2_:=a_ (blk_below (g:=gb415) (o:=.cells #[.string a1_0,.int .i64 a1_1,.int .i64 a1_2,.int .i64 a1_3,.string a1_4] 36 (0,0)) (by exact BK415.out) hb);have n3_:=a_ (Kept.below (S:=(fun k_=>P0_ k_)) HK.out hb);have n4_:=a_ (below_step HB.out hb);clear HO_0;clear BK415;clear HK;clear HB;have HO_0:=n0_;have HO421:=n1_;have BK415:=n2_;have HK:=n3_;have HB:=n4_;clear n0_ n1_ n2_ n3_ n4_;(try clear hb);(try clear ho0)))
    go_ret
    exact ⟨_,by rfl,by exact Kd.R_mono HO421.out (fun _ hk=>hk.1.1.1),by exact HB.out,by exact HK.out⟩
def spec_Select.l0:Nat → List (S36) → Int → List (S36) → Int → Option ((List (S36)) × Int)
 | 0,_,_,_,_=>none
 | k + 1,x6,x7,x8,x9=>if x9 < (x6.length:Int) then (if 0 ≤ x9 then ((spec_l16Max.f k x8 ((rd_T36 x6 x9).f0) ((rd_T36 x6 x9).f1.f0) ((rd_T36 x6 x9).f1.f1) ((rd_T36 x6 x9).f1.f2) ((rd_T36 x6 x9).f1.f3)).bind fun t430=>(spec_Select.l0 k x6 x7 t430 (wrap64 (x9 + 1)))) else (none)) else (some (x8,x7))
def spec_Select.f (k:Nat) (l0:List (S47)) (l1:List (S36)):Option ((List (S36)) × Int):=(spec_Reach.f k l0 l1).bind fun bt422=>(spec_Select.l0 k bt422.1 bt422.2 (([]:List (S36))) 0)
theorem spec_Select.mono_l : ∀ k,(∀ y0 y1 y2 y3,LeO (spec_Select.l0 k y0 y1 y2 y3) (spec_Select.l0 (k + 1) y0 y1 y2 y3))
 | 0=>fun _ _ _ _ r h=>by simp [spec_Select.l0] at h
 | k + 1=>by
  have ih0:=spec_Select.mono_l k
  ·intro y0 y1 y2 y3;unfold spec_Select.l0
   repeat' first
   | (with_reducible exact ih0 _ _ _ _)
   | (with_reducible exact spec_l16Max.mono _ _ _ _ _ _ _)
   | (with_reducible exact LeO.refl _)
   | (with_reducible refine LeO.ite ?_ ?_)
   | (with_reducible refine LeO.bind ?_ (fun _=>?_))
theorem spec_Select.mono : ∀ a0 a1 k,LeO (spec_Select.f k a0 a1) (spec_Select.f (k + 1) a0 a1):=by
 intro a0 a1 k;have ih0:=spec_Select.mono_l k;unfold spec_Select.f
 repeat' first
  | (with_reducible exact ih0 _ _ _ _)
  | (with_reducible exact spec_Reach.mono _ _ _)
  | (with_reducible refine LeO.bind ?_ (fun _=>?_))
set_option maxHeartbeats 8000000 in
set_option maxRecDepth 100000 in
theorem spec_Select.calls (k:Nat) (A0:Option Addr) (c0:Nat) (l0:List (S47)) (A1:Option Addr) (c1:Nat) (l1:List (S36)) (r1:List (S36)) (r2:Int) (w:World) (hr0:Kd.C k47 w A0 l0.length l0) (hc0:l0.length ≤ c0) (hr1:Kd.C k36 w A1 l1.length l1) (hc1:l1.length ≤ c1) (h:spec_Select.f k l0 l1=some (r1,r2)) :
 Calls Tryd.prog 41 #[.slice A0 l0.length c0,.slice A1 l1.length c1] w fun e w'=>∃ v0_:Value,e = .returned (.tuple #[v0_,.int .i64 r2]) ∧ Kd.R k36 36 w' w.heap.size (fun _=>True) v0_ r1 ∧ Below w.heap.size w w':=by
 have hu36:=Tryd.underlying36;have HR0:=a_ hr0;have HC0:=a_ hc0;clear hr0 hc0;have HR1:=a_ hr1;have HC1:=a_ hc1;clear hr1 hc1;have HB:=a_ (Below.refl w.heap.size w);have H:((spec_Reach.f k l0 l1).bind fun bt422=>(spec_Select.l0 k bt422.1 bt422.2 (([]:List (S36))) 0))=some (r1,r2):=h;clear h;replace H:=Option.bind_eq_some_iff.mp H;obtain ⟨⟨t422,t423⟩,A30,H⟩:=H;replace H:(spec_Select.l0 k t422 t423 (([]:List (S36))) 0)=some (r1,r2):=H
 have A3:=a_ A30;clear A30;obtain ⟨y426,hy426⟩ : ∃ y_:List (S36),y_=(([]:List (S36))):=⟨_,rfl⟩;replace H:(spec_Select.l0 k t422 t423 y426 0)=some (r1,r2):=by (rw [hy426];with_reducible exact H)
 have Ny426:=a_ hy426;clear hy426;have H':=a_ H;clear H
 go_enter Tryd.func41,Tryd.ntmps41
 go_wp2_with (first | ((with_reducible refine gate_callee (f:=55) rfl ?_);refine goesL_ (some 13) rfl rfl Tryd.func55 (by kernel_rfl) rfl #[.slice A0 l0.length c0,.slice A1 l1.length c1] rfl (by (try simp only [List.map_toArray,List.map_cons,List.map_nil]);rfl) ?_;(with_reducible refine (spec_Reach.calls k _ _ l0 _ _ l1 t422 t423 _ ?side1 ?side2 ?side3 ?side4 A3.out).mono ?_);(case side1=>repeat (exact HR0.out));(case side2=>exact HC0.out);(case side3=>repeat (exact HR1.out));(case side4=>exact HC1.out);rintro e w4 ⟨v424,rfl,ho0,hb⟩;refine ⟨_,rfl,?_⟩;have n0_:=a_ (Kd.R_lower ho0 (below_size HB.out));have n1_:=a_ (below_step HB.out hb);clear HB;have HO425:=n0_;have HB:=n1_;clear n0_ n1_;(try clear hb);(try clear ho0)) | ((with_reducible refine gate_dst (N:=16) rfl ?_);refine Kd.R_lit k36 _ 36 ?hg (N:=16) ?hd (xs:=([]:List (S36))) (inner:=[]) (ok:=fun _=>True) (okp:=fun _=>True) ?hr ?hp (fun _ hk=>hk) trivial (Below.refl _ _) (Nat.le_refl _) (by simp) ?_;(case hd=>rfl);(case hg=>rfl);(case hr=>(go_simp;done));(case hp=>exact (Reps.none _ _));intro v427 w5 ho6 hb hg_ hnew_;clear hg_ hnew_;(rw [← Ny426.out] at ho6);have n0_:=a_ (Kd.R_elder' (by exact HO425.out) (Kd.R_base ho6) hb);have n1_:=a_ (Kd.R_lower (Kd.R_new' ho6 (Kd.R_lt (by exact HO425.out))) (below_size HB.out));have n2_:=a_ (below_step HB.out hb);clear HO425;clear HB;have HO425:=n0_;have HO428:=n1_;have HB:=n2_;clear n0_ n1_ n2_;clear hb ho6))
 go_loopg [8,9] k (fun kq v8 v9 w'=>∃ (x8_1:List (S36)) (x9_1:Int),v9 = .int .i64 x9_1 ∧ Aside0 (spec_Select.l0 kq t422 t423 x8_1 x9_1=some (r1,r2)) ∧ Aside0 (kq ≤ k) ∧ Aside0 (Kd.R k36 36 w' w.heap.size (fun k_=>some k_ ≠ (v8:Value).ownBlock) v424 t422) ∧ Aside0 (Kd.R k36 36 w' w.heap.size (fun k_=>some k_ ≠ (v424:Value).ownBlock) v8 x8_1) ∧ Aside0 (Below w.heap.size w w'))
 case atStart=>exact ⟨(y426),(0),(by rfl),H',⟨Nat.le_refl _⟩,⟨by exact Kd.R_mono HO425.out (fun _ hk=>hk.2)⟩,⟨by exact Kd.R_mono HO428.out (fun _ hk=>hk.2)⟩,⟨by exact HB.out⟩⟩
 case round=>
  clear H';obtain ⟨x8_1,x9_1,rfl,HA,HK1,HO_6,HO_8,HB⟩:=hrel
  cases gk with
  | zero=>exact absurd HA.out (by simp [spec_Select.l0])
  | succ k1=>
   have H:=HA.out;clear HA;simp only [spec_Select.l0] at H
   by_cases c7:x9_1 < (t422.length:Int)
   ·rw [if_pos c7] at H;have c7b0:decide (x9_1 < (t422.length:Int))=true:=decide_eq_true c7;clear c7
    by_cases c8:0 ≤ x9_1
    ·rw [if_pos c8] at H;have c8b0:decide (0 ≤ x9_1)=true:=decide_eq_true c8;clear c8;replace H:=Option.bind_eq_some_iff.mp H;obtain ⟨t430,A90,H⟩:=H;replace H:(spec_Select.l0 k1 t422 t423 t430 (wrap64 (x9_1 + 1)))=some (r1,r2):=H;have A9:=a_ A90;clear A90;have H':=a_ H;clear H;obtain ⟨Ao10,co10,eo10⟩:=Kd.R_slice HO_6.out;subst eo10;have p429:0 ≤ (x9_1:Int):=of_decide_eq_true (by (with_reducible assumption))
     have q429:x9_1 < (t422.length:Int):=of_decide_eq_true (by (with_reducible assumption));obtain ⟨ad429,e429,hx429_0,hx429_1,hx429_2,hx429_3,hx429_4⟩:=at_T36 (Kd.R_reads' HO_6.out).2.2 x9_1 p429 q429;cases e429;replace p429:=eq_true p429;replace q429:=eq_true q429;obtain ⟨Ao11,co11,eo11⟩:=Kd.R_slice HO_8.out;subst eo11
     go_wp2_with (((with_reducible refine gate_callee (f:=56) rfl ?_);refine goesL_ (some 28) rfl rfl Tryd.func56 (by kernel_rfl) rfl #[.slice Ao11 x8_1.length co11,.agg #[.string ((rd_T36 t422 x9_1).f0),.int .i64 ((rd_T36 t422 x9_1).f1.f0),.int .i64 ((rd_T36 t422 x9_1).f1.f1),.int .i64 ((rd_T36 t422 x9_1).f1.f2),.string ((rd_T36 t422 x9_1).f1.f3)]] rfl (by (try simp only [List.map_toArray,List.map_cons,List.map_nil]);rfl) ?_;(with_reducible refine (spec_l16Max.calls k1 (fun k_=>some k_=(.slice Ao11 x8_1.length co11:Value).ownBlock) (.slice Ao11 x8_1.length co11) x8_1 ((rd_T36 t422 x9_1).f0) ((rd_T36 t422 x9_1).f1.f0) ((rd_T36 t422 x9_1).f1.f1) ((rd_T36 t422 x9_1).f1.f2) ((rd_T36 t422 x9_1).f1.f3) t430 w _ ?side1 ?side2 A9.out).mono ?_);(case side1=>exact HB.out);(case side2=>exact Kd.R_tight rfl HO_8.out);rintro e w12 ⟨v431,rfl,ho0,hb,hkp⟩;refine ⟨_,rfl,?_⟩;have n0_:=a_ (Kd.R_mono (ok':=fun k_=>some k_ ≠ (v431:Value).ownBlock) (Kd.R_keptB (HO_6.out) hkp (fun k_ hk_ hs_=>(hk_) hs_)) (fun k_ hk_=>fun e_=>Or.elim (ho0.1 k_ e_.symm) (fun hs_=>hk_.2.1 hs_) (fun hn_=>Nat.not_le.2 hk_.2.2 hn_)));have n1_:=a_ (Kd.R_mono (ok':=fun k_=>some k_ ≠ (.slice (some ad429) t422.length co10:Value).ownBlock) ho0 (fun k_ hk_=>Or.elim hk_ (fun hs_=>fun e_=>(((HO_6.out).1 k_ e_.symm)) hs_) (fun hn_=>(Kd.fresh' (Kd.R_lt (by exact HO_6.out)) k_ hn_))));have n2_:=a_ (hb);clear HO_6;clear HB;clear HO_8;have HO_6:=n0_;have HO432:=n1_;have HB:=n2_;clear n0_ n1_ n2_;(try clear hb);(try clear hkp);(try clear ho0)))
     go_roundg k1
     case measure=>have:=HK1.out;omega
     case rel=>exact ⟨(t430),(wrap64 (x9_1 + 1)),(by rfl),H',⟨by have:=HK1.out;omega⟩,⟨by exact HO_6.out⟩,⟨by exact HO432.out⟩,⟨by exact HB.out⟩⟩
    ·rw [if_neg c8] at H;exact absurd H (by simp)
   ·rw [if_neg c7] at H;have c7b0:decide (x9_1 < (t422.length:Int))=false:=decide_eq_false c7;clear c7;simp only [Option.some.injEq,Prod.mk.injEq] at H;obtain ⟨rfl,rfl⟩:=H;obtain ⟨Ao13,co13,eo13⟩:=Kd.R_slice HO_6.out;subst eo13
    go_wp2
    go_ret2
    exact ⟨_,by rfl,by exact Kd.R_mono HO_8.out (fun _ hk=>trivial),by exact HB.out⟩
end Go.Proofs.YtmkdeknpphimbaaDoor.PFnClosed
