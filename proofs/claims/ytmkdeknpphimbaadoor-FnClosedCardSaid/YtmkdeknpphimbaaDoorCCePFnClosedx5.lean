import Derived.Test.YtmkdeknpphimbaaDoorCCePFnClosedx0
import Derived.Test.YtmkdeknpphimbaaDoorCCePFnClosedx3
import Derived.Test.YtmkdeknpphimbaaDoorCCePFnClosedx4
namespace Go.Proofs.YtmkdeknpphimbaaDoor.PFnClosed
open Go.RowKit Go.Proofs.YtmkdeknpphimbaaDoorW.PrintWords Go.Proofs.YtmkdeknpphimbaaDoorW.PrintLast Go.Proofs.YtmkdeknpphimbaaDoorW.PrintMore
attribute [local go_sem] max2_int min2_int max_two min_two max_three min_three max_four min_four
set_option linter.unusedVariables false
set_option linter.unusedSimpArgs false
def impl_compare.f (k:Nat) (a0_0:Int) (a0_1:Int) (a0_2:Int) (a0_3:ByteArray) (a1_0:Int) (a1_1:Int) (a1_2:Int) (a1_3:ByteArray):Option (Int):=(cmp_Compare_int.f a0_0 a1_0).bind fun t130=>((cmp_Compare_int.f a0_1 a1_1).bind fun t131=>((cmp_Compare_int.f a0_2 a1_2).bind fun t132=>((impl_comparePre.f k a0_3 a1_3).bind fun t133=>((cmp_Or_int.f k ([t130,t131,t132,t133]:List Int)).bind fun t137=>(some t137)))))
theorem impl_compare.mono : ∀ a0 a1 a2 a3 a4 a5 a6 a7 k,LeO (impl_compare.f k a0 a1 a2 a3 a4 a5 a6 a7) (impl_compare.f (k + 1) a0 a1 a2 a3 a4 a5 a6 a7):=by
 intro a0 a1 a2 a3 a4 a5 a6 a7 k;unfold impl_compare.f
 repeat' first
  | (with_reducible exact cmp_Or_int.mono _ _)
  | (with_reducible exact impl_comparePre.mono _ _ _)
  | (with_reducible exact LeO.refl _)
  | (with_reducible refine LeO.bind ?_ (fun _=>?_))
def impl_compare.T1:Bool × List (List Nat × List Nat):=(true,[([],[]),([0],[0]),([],[]),([2],[2]),([1,3],[1,3]),([],[]),([5],[5]),([],[]),([7],[7]),([6,8,4],[6,8]),([],[]),([10],[10]),([],[]),([12],[12]),([11,13,9],[11,13]),([],[]),([15],[15]),([],[]),([17],[17]),([16,18,14],[16,18]),([4,9,14,19],[4,9,14,19]),([20,19],[20]),([21,21,0,1,2,3,4,5,6,7,8,9,10,11,12,13,14,15,16,17,18,19,20,21],[21])])
def impl_compare.B1:List Nat:=[0,1,0,4,15,0,32,0,128,511,0,1024,0,4096,16383,0,32768,0,131072,524287,1048575,2097151,4194303]
theorem impl_compare.tab1:rtab .any (opsOf Tryd.f47 1)=impl_compare.T1:=by kernel_rfl
theorem impl_compare.bits1:waitsOk impl_compare.T1.2 impl_compare.B1=true:=by kernel_rfl
set_option maxHeartbeats 8000000 in
set_option maxRecDepth 100000 in
theorem impl_compare.calls (k:Nat) (a0_0:Int) (a0_1:Int) (a0_2:Int) (a0_3:ByteArray) (a1_0:Int) (a1_1:Int) (a1_2:Int) (a1_3:ByteArray) (r:Int) (w:World) (h:impl_compare.f k a0_0 a0_1 a0_2 a0_3 a1_0 a1_1 a1_2 a1_3=some r) :
 Calls Tryd.prog 47 #[.agg #[.int .i64 a0_0,.int .i64 a0_1,.int .i64 a0_2,.string a0_3],.agg #[.int .i64 a1_0,.int .i64 a1_1,.int .i64 a1_2,.string a1_3]] w fun e w'=>e = .returned (.int .i64 r) ∧ Below w.heap.size w w':=by
 have hu33:=Tryd.underlying33;have HB:=a_ (Below.refl w.heap.size w);have H:((cmp_Compare_int.f a0_0 a1_0).bind fun t130=>((cmp_Compare_int.f a0_1 a1_1).bind fun t131=>((cmp_Compare_int.f a0_2 a1_2).bind fun t132=>((impl_comparePre.f k a0_3 a1_3).bind fun t133=>((cmp_Or_int.f k ([t130,t131,t132,t133]:List Int)).bind fun t137=>(some t137))))))=some r:=h;clear h;replace H:=Option.bind_eq_some_iff.mp H
 obtain ⟨t130,A30,H⟩:=H;replace H:((cmp_Compare_int.f a0_1 a1_1).bind fun t131=>((cmp_Compare_int.f a0_2 a1_2).bind fun t132=>((impl_comparePre.f k a0_3 a1_3).bind fun t133=>((cmp_Or_int.f k ([t130,t131,t132,t133]:List Int)).bind fun t137=>(some t137)))))=some r:=H;have A3:=a_ A30;clear A30;replace H:=Option.bind_eq_some_iff.mp H;obtain ⟨t131,A40,H⟩:=H;replace H:((cmp_Compare_int.f a0_2 a1_2).bind fun t132=>((impl_comparePre.f k a0_3 a1_3).bind fun t133=>((cmp_Or_int.f k ([t130,t131,t132,t133]:List Int)).bind fun t137=>(some t137))))=some r:=H
 have A4:=a_ A40;clear A40;replace H:=Option.bind_eq_some_iff.mp H;obtain ⟨t132,A50,H⟩:=H;replace H:((impl_comparePre.f k a0_3 a1_3).bind fun t133=>((cmp_Or_int.f k ([t130,t131,t132,t133]:List Int)).bind fun t137=>(some t137)))=some r:=H;have A5:=a_ A50;clear A50;replace H:=Option.bind_eq_some_iff.mp H;obtain ⟨t133,A60,H⟩:=H;replace H:((cmp_Or_int.f k ([t130,t131,t132,t133]:List Int)).bind fun t137=>(some t137))=some r:=H
 have A6:=a_ A60;clear A60;obtain ⟨y134,hy134⟩ : ∃ y_:List Int,y_=([t130,t131,t132,t133]:List Int):=⟨_,rfl⟩;replace H:((cmp_Or_int.f k y134).bind fun t137=>(some t137))=some r:=by (rw [hy134];with_reducible exact H)
 have Ny134:=a_ hy134;clear hy134;replace H:=Option.bind_eq_some_iff.mp H;obtain ⟨t137,A70,H⟩:=H;replace H:(some t137)=some r:=H;have A7:=a_ A70;clear A70;obtain rfl:=Option.some.inj H
 go_enter Tryd.func47,Tryd.ntmps47
 try go_wp2_with (first | ((with_reducible refine gate_dst (N:=2) rfl ?_);refine box_event ?hg (N:=2) ?hd (cs:=#[.int .i64 a0_0,.int .i64 a0_1,.int .i64 a0_2,.string a0_3]) (t:=33) ?hr ?_;(case hd=>rfl);(case hg=>rfl);(case hr=>(go_simp;done));intro gb128 hg w8 hbox hb;have n0_:=a_ (below_step HB.out hb);have n1_:=a_ (hbox);have n2_:=a_ ((by rw [hg];exact (below_size HB.out):w.heap.size ≤ gb128));have n3_:=a_ ((by rw [hg];exact (below_size HB.out):w.heap.size ≤ gb128));clear HB;have HB:=n0_;have BK128:=n1_;have GW128:=n2_;have GE128:=n3_;clear n0_ n1_ n2_ n3_;clear hb hbox hg) | ((with_reducible refine gate_dst (N:=3) rfl ?_);refine box_event ?hg (N:=3) ?hd (cs:=#[.int .i64 a1_0,.int .i64 a1_1,.int .i64 a1_2,.string a1_3]) (t:=33) ?hr ?_;(case hd=>rfl);(case hg=>rfl);(case hr=>(go_simp;done));intro gb129 hg w9 hbox hb;have n0_:=a_ (blk_below (g:=gb128) (o:=.cells #[.int .i64 a0_0,.int .i64 a0_1,.int .i64 a0_2,.string a0_3] 33 (0,0)) (by exact BK128.out) hb);have n1_:=a_ (below_step HB.out hb);have n2_:=a_ (hbox);have n3_:=a_ ((by rw [hg];exact (below_size HB.out):w.heap.size ≤ gb129));have n4_:=a_ ((by rw [hg];exact (below_size HB.out):w.heap.size ≤ gb129));have n5_:=a_ ((by rw [hg];exact Nat.ne_of_lt (blk_lt (g:=gb128) (o:=.cells #[.int .i64 a0_0,.int .i64 a0_1,.int .i64 a0_2,.string a0_3] 33 (0,0)) (by exact BK128.out)):gb128 ≠ gb129));have n6_:=a_ ((by rw [hg];exact Nat.ne_of_gt (blk_lt (g:=gb128) (o:=.cells #[.int .i64 a0_0,.int .i64 a0_1,.int .i64 a0_2,.string a0_3] 33 (0,0)) (by exact BK128.out)):gb129 ≠ gb128));clear BK128;clear HB;have BK128:=n0_;have HB:=n1_;have BK129:=n2_;have GW129:=n3_;have GE129:=n4_;have NB128_129:=n5_;have NB129_128:=n6_;clear n0_ n1_ n2_ n3_ n4_ n5_ n6_;clear hb hbox hg))
 have n0_:=a_ (blk_drew BK128.out);have n1_:=a_ (blk_drew BK129.out);have n2_:=a_ (below_drew1 HB.out);clear BK128;clear BK129;clear HB;have BK128:=n0_;have BK129:=n1_;have HB:=n2_;clear n0_ n1_ n2_;refine start_ (n:=23) (S:=fun w'=>w'.cell? ⟨gb128,0,none⟩=some (.int .i64 a0_0) ∧ w'.cell? ⟨gb128,1,none⟩=some (.int .i64 a0_1) ∧ w'.cell? ⟨gb128,2,none⟩=some (.int .i64 a0_2) ∧ w'.cell? ⟨gb128,3,none⟩=some (.string a0_3) ∧ w'.cell? ⟨gb129,0,none⟩=some (.int .i64 a1_0) ∧ w'.cell? ⟨gb129,1,none⟩=some (.int .i64 a1_1) ∧ w'.cell? ⟨gb129,2,none⟩=some (.int .i64 a1_2) ∧ w'.cell? ⟨gb129,3,none⟩=some (.string a1_3)) (ds:=[]) (m_ 0 23) (by kernel_rfl) rfl rfl ⟨(blk_cell BK128.out 0).trans rfl,(blk_cell BK128.out 1).trans rfl,(blk_cell BK128.out 2).trans rfl,(blk_cell BK128.out 3).trans rfl,(blk_cell BK129.out 0).trans rfl,(blk_cell BK129.out 1).trans rfl,(blk_cell BK129.out 2).trans rfl,(blk_cell BK129.out 3).trans rfl⟩ (fun hHeld=>?_);refine with_tabW impl_compare.tab1 impl_compare.bits1 (fun HT_ HW_=>?_)
 generalize w9.drew=w10 at BK128 BK129 HB hHeld ⊢
 refine pure_ (i:=0) (N:=some 5) (v:=?_) (a':=?_) (m_ 1 22) rfl rfl (any_of HT_.out (by kernel_rfl)) (fun _ _ _ h=>h) (Or.inl ⟨by rfl,?_⟩) ?_ ?_;rotate_left
 ·intro w';go_simp
  with_reducible rfl
 rotate_left
 ·simp only [Act.put,s1_,s2_,s3_,i64_w,i32_w];rfl
 refine pure_ (i:=2) (N:=some 7) (v:=?_) (a':=?_) #[true,false,true,false,false,false,false,false,false,false,false,false,false,false,false,false,false,false,false,false,false,false,false] rfl rfl (any_of HT_.out (by kernel_rfl)) (fun _ _ _ h=>h) (Or.inl ⟨by rfl,?_⟩) ?_ ?_;rotate_left
 ·intro w';go_simp
  with_reducible rfl
 rotate_left
 ·simp only [Act.put,s1_,s2_,s3_,i64_w,i32_w];rfl
 refine pure_ (i:=5) (N:=some 10) (v:=?_) (a':=?_) #[true,false,true,false,false,true,false,false,false,false,false,false,false,false,false,false,false,false,false,false,false,false,false] rfl rfl (any_of HT_.out (by kernel_rfl)) (fun _ _ _ h=>h) (Or.inl ⟨by rfl,?_⟩) ?_ ?_;rotate_left
 ·intro w';go_simp
  with_reducible rfl
 rotate_left
 ·simp only [Act.put,s1_,s2_,s3_,i64_w,i32_w];rfl
 refine pure_ (i:=7) (N:=some 12) (v:=?_) (a':=?_) #[true,false,true,false,false,true,false,true,false,false,false,false,false,false,false,false,false,false,false,false,false,false,false] rfl rfl (any_of HT_.out (by kernel_rfl)) (fun _ _ _ h=>h) (Or.inl ⟨by rfl,?_⟩) ?_ ?_;rotate_left
 ·intro w';go_simp
  with_reducible rfl
 rotate_left
 ·simp only [Act.put,s1_,s2_,s3_,i64_w,i32_w];rfl
 refine pure_ (i:=10) (N:=some 15) (v:=?_) (a':=?_) #[true,false,true,false,false,true,false,true,false,false,true,false,false,false,false,false,false,false,false,false,false,false,false] rfl rfl (any_of HT_.out (by kernel_rfl)) (fun _ _ _ h=>h) (Or.inl ⟨by rfl,?_⟩) ?_ ?_;rotate_left
 ·intro w';go_simp
  with_reducible rfl
 rotate_left
 ·simp only [Act.put,s1_,s2_,s3_,i64_w,i32_w];rfl
 refine pure_ (i:=12) (N:=some 17) (v:=?_) (a':=?_) #[true,false,true,false,false,true,false,true,false,false,true,false,true,false,false,false,false,false,false,false,false,false,false] rfl rfl (any_of HT_.out (by kernel_rfl)) (fun _ _ _ h=>h) (Or.inl ⟨by rfl,?_⟩) ?_ ?_;rotate_left
 ·intro w';go_simp
  with_reducible rfl
 rotate_left
 ·simp only [Act.put,s1_,s2_,s3_,i64_w,i32_w];rfl
 refine pure_ (i:=15) (N:=some 20) (v:=?_) (a':=?_) #[true,false,true,false,false,true,false,true,false,false,true,false,true,false,false,true,false,false,false,false,false,false,false] rfl rfl (any_of HT_.out (by kernel_rfl)) (fun _ _ _ h=>h) (Or.inl ⟨by rfl,?_⟩) ?_ ?_;rotate_left
 ·intro w';go_simp
  with_reducible rfl
 rotate_left
 ·simp only [Act.put,s1_,s2_,s3_,i64_w,i32_w];rfl
 refine pure_ (i:=17) (N:=some 22) (v:=?_) (a':=?_) #[true,false,true,false,false,true,false,true,false,false,true,false,true,false,false,true,false,true,false,false,false,false,false] rfl rfl (any_of HT_.out (by kernel_rfl)) (fun _ _ _ h=>h) (Or.inl ⟨by rfl,?_⟩) ?_ ?_;rotate_left
 ·intro w';go_simp
  with_reducible rfl
 rotate_left
 ·simp only [Act.put,s1_,s2_,s3_,i64_w,i32_w];rfl
 refine take_ (i:=1) (N:=some 6) (v:=?_) (a':=?_) #[true,true,true,false,false,true,false,true,false,false,true,false,true,false,false,true,false,true,false,false,false,false,false] rfl rfl (take_ofW HT_.out HW_.out (by kernel_rfl)) (fun _ _ _ h=>h) (Or.inl ⟨by rfl,?_⟩) hHeld ?_ ?_;rotate_left
 ·rintro w' ⟨s0,s1,s2,s3,s4,s5,s6,s7⟩;go_simp
  with_reducible rfl
 rotate_left
 ·simp only [Act.put,s1_,s2_,s3_,i64_w,i32_w];rfl
 refine take_ (i:=3) (N:=some 8) (v:=?_) (a':=?_) #[true,true,true,true,false,true,false,true,false,false,true,false,true,false,false,true,false,true,false,false,false,false,false] rfl rfl (take_ofW HT_.out HW_.out (by kernel_rfl)) (fun _ _ _ h=>h) (Or.inl ⟨by rfl,?_⟩) hHeld ?_ ?_;rotate_left
 ·rintro w' ⟨s0,s1,s2,s3,s4,s5,s6,s7⟩;go_simp
  with_reducible rfl
 rotate_left
 ·simp only [Act.put,s1_,s2_,s3_,i64_w,i32_w];rfl
 refine take_ (i:=6) (N:=some 11) (v:=?_) (a':=?_) #[true,true,true,true,false,true,true,true,false,false,true,false,true,false,false,true,false,true,false,false,false,false,false] rfl rfl (take_ofW HT_.out HW_.out (by kernel_rfl)) (fun _ _ _ h=>h) (Or.inl ⟨by rfl,?_⟩) hHeld ?_ ?_;rotate_left
 ·rintro w' ⟨s0,s1,s2,s3,s4,s5,s6,s7⟩;go_simp
  with_reducible rfl
 rotate_left
 ·simp only [Act.put,s1_,s2_,s3_,i64_w,i32_w];rfl
 refine take_ (i:=8) (N:=some 13) (v:=?_) (a':=?_) #[true,true,true,true,false,true,true,true,true,false,true,false,true,false,false,true,false,true,false,false,false,false,false] rfl rfl (take_ofW HT_.out HW_.out (by kernel_rfl)) (fun _ _ _ h=>h) (Or.inl ⟨by rfl,?_⟩) hHeld ?_ ?_;rotate_left
 ·rintro w' ⟨s0,s1,s2,s3,s4,s5,s6,s7⟩;go_simp
  with_reducible rfl
 rotate_left
 ·simp only [Act.put,s1_,s2_,s3_,i64_w,i32_w];rfl
 refine take_ (i:=11) (N:=some 16) (v:=?_) (a':=?_) #[true,true,true,true,false,true,true,true,true,false,true,true,true,false,false,true,false,true,false,false,false,false,false] rfl rfl (take_ofW HT_.out HW_.out (by kernel_rfl)) (fun _ _ _ h=>h) (Or.inl ⟨by rfl,?_⟩) hHeld ?_ ?_;rotate_left
 ·rintro w' ⟨s0,s1,s2,s3,s4,s5,s6,s7⟩;go_simp
  with_reducible rfl
 rotate_left
 ·simp only [Act.put,s1_,s2_,s3_,i64_w,i32_w];rfl
 refine take_ (i:=13) (N:=some 18) (v:=?_) (a':=?_) #[true,true,true,true,false,true,true,true,true,false,true,true,true,true,false,true,false,true,false,false,false,false,false] rfl rfl (take_ofW HT_.out HW_.out (by kernel_rfl)) (fun _ _ _ h=>h) (Or.inl ⟨by rfl,?_⟩) hHeld ?_ ?_;rotate_left
 ·rintro w' ⟨s0,s1,s2,s3,s4,s5,s6,s7⟩;go_simp
  with_reducible rfl
 rotate_left
 ·simp only [Act.put,s1_,s2_,s3_,i64_w,i32_w];rfl
 refine take_ (i:=16) (N:=some 21) (v:=?_) (a':=?_) #[true,true,true,true,false,true,true,true,true,false,true,true,true,true,false,true,true,true,false,false,false,false,false] rfl rfl (take_ofW HT_.out HW_.out (by kernel_rfl)) (fun _ _ _ h=>h) (Or.inl ⟨by rfl,?_⟩) hHeld ?_ ?_;rotate_left
 ·rintro w' ⟨s0,s1,s2,s3,s4,s5,s6,s7⟩;go_simp
  with_reducible rfl
 rotate_left
 ·simp only [Act.put,s1_,s2_,s3_,i64_w,i32_w];rfl
 refine take_ (i:=18) (N:=some 23) (v:=?_) (a':=?_) #[true,true,true,true,false,true,true,true,true,false,true,true,true,true,false,true,true,true,true,false,false,false,false] rfl rfl (take_ofW HT_.out HW_.out (by kernel_rfl)) (fun _ _ _ h=>h) (Or.inl ⟨by rfl,?_⟩) hHeld ?_ ?_;rotate_left
 ·rintro w' ⟨s0,s1,s2,s3,s4,s5,s6,s7⟩;go_simp
  with_reducible rfl
 rotate_left
 ·simp only [Act.put,s1_,s2_,s3_,i64_w,i32_w];rfl
 refine one_ (i:=4) (N:=some 9) #[true,true,true,true,true,true,true,true,true,false,true,true,true,true,false,true,true,true,true,false,false,false,false] rfl rfl (one_of HT_.out (by kernel_rfl)) (by decide) (fun K hK=>?_);refine goes_ Tryd.func61 (by kernel_rfl) rfl #[.int .i64 a0_0,.int .i64 a1_0] (by rfl) rfl rfl (by (try simp only [List.map_toArray,List.map_cons,List.map_nil]);rfl) ?_
 with_reducible refine (cmp_Compare_int.calls a0_0 a1_0 t130 _ A3.out).mono ?_
 rintro e w' ⟨rfl,⟨nd,rfl⟩⟩;refine ⟨_,rfl,?_⟩;refine hK.out _ _ ⟨(blk_cell BK128.out 0).trans rfl,(blk_cell BK128.out 1).trans rfl,(blk_cell BK128.out 2).trans rfl,(blk_cell BK128.out 3).trans rfl,(blk_cell BK129.out 0).trans rfl,(blk_cell BK129.out 1).trans rfl,(blk_cell BK129.out 2).trans rfl,(blk_cell BK129.out 3).trans rfl⟩ (fun hHeld=>?_);clear hK K;refine norm_ (a':=?_) ?_ ?_;rotate_left
 ·show Act.put _ (some 9) _=_;simp only [Act.put,s1_,s2_,s3_,i64_w,i32_w];rfl
 refine one_ (i:=9) (N:=some 14) #[true,true,true,true,true,true,true,true,true,true,true,true,true,true,false,true,true,true,true,false,false,false,false] rfl rfl (one_of HT_.out (by kernel_rfl)) (by decide) (fun K hK=>?_);refine goes_ Tryd.func61 (by kernel_rfl) rfl #[.int .i64 a0_1,.int .i64 a1_1] (by rfl) rfl rfl (by (try simp only [List.map_toArray,List.map_cons,List.map_nil]);rfl) ?_
 with_reducible refine (cmp_Compare_int.calls a0_1 a1_1 t131 _ A4.out).mono ?_
 rintro e w' ⟨rfl,⟨nd,rfl⟩⟩;refine ⟨_,rfl,?_⟩;refine hK.out _ _ ⟨(blk_cell BK128.out 0).trans rfl,(blk_cell BK128.out 1).trans rfl,(blk_cell BK128.out 2).trans rfl,(blk_cell BK128.out 3).trans rfl,(blk_cell BK129.out 0).trans rfl,(blk_cell BK129.out 1).trans rfl,(blk_cell BK129.out 2).trans rfl,(blk_cell BK129.out 3).trans rfl⟩ (fun hHeld=>?_);clear hK K;refine norm_ (a':=?_) ?_ ?_;rotate_left
 ·show Act.put _ (some 14) _=_;simp only [Act.put,s1_,s2_,s3_,i64_w,i32_w];rfl
 refine one_ (i:=14) (N:=some 19) (m_ 19 4) rfl rfl (one_of HT_.out (by kernel_rfl)) (by decide) (fun K hK=>?_);refine goes_ Tryd.func61 (by kernel_rfl) rfl #[.int .i64 a0_2,.int .i64 a1_2] (by rfl) rfl rfl (by (try simp only [List.map_toArray,List.map_cons,List.map_nil]);rfl) ?_
 with_reducible refine (cmp_Compare_int.calls a0_2 a1_2 t132 _ A5.out).mono ?_
 rintro e w' ⟨rfl,⟨nd,rfl⟩⟩;refine ⟨_,rfl,?_⟩;refine hK.out _ _ ⟨(blk_cell BK128.out 0).trans rfl,(blk_cell BK128.out 1).trans rfl,(blk_cell BK128.out 2).trans rfl,(blk_cell BK128.out 3).trans rfl,(blk_cell BK129.out 0).trans rfl,(blk_cell BK129.out 1).trans rfl,(blk_cell BK129.out 2).trans rfl,(blk_cell BK129.out 3).trans rfl⟩ (fun hHeld=>?_);clear hK K;refine norm_ (a':=?_) ?_ ?_;rotate_left
 ·show Act.put _ (some 19) _=_;simp only [Act.put,s1_,s2_,s3_,i64_w,i32_w];rfl
 refine one_ (i:=19) (N:=some 24) (m_ 20 3) rfl rfl (one_of HT_.out (by kernel_rfl)) (by decide) (fun K hK=>?_);refine goes_ Tryd.func62 (by kernel_rfl) rfl #[.string a0_3,.string a1_3] (by rfl) rfl rfl (by (try simp only [List.map_toArray,List.map_cons,List.map_nil]);rfl) ?_
 with_reducible refine (impl_comparePre.calls k a0_3 a1_3 t133 _ A6.out).mono ?_
 rintro e w11 ⟨rfl,hb⟩;refine ⟨_,rfl,?_⟩;have n0_:=a_ (blk_below (g:=gb128) (o:=.cells #[.int .i64 a0_0,.int .i64 a0_1,.int .i64 a0_2,.string a0_3] 33 (0,0)) (by (with_reducible repeat (refine blk_drewN ?_ _));exact BK128.out) hb);have n1_:=a_ (blk_below (g:=gb129) (o:=.cells #[.int .i64 a1_0,.int .i64 a1_1,.int .i64 a1_2,.string a1_3] 33 (0,0)) (by (with_reducible repeat (refine blk_drewN ?_ _));exact BK129.out) hb)
 have n2_:=a_ (below_step (by repeat (with_reducible first | exact HB.out | apply pw_below_drewN)) hb);clear BK128;clear BK129;clear HB;have BK128:=n0_;have BK129:=n1_;have HB:=n2_;clear n0_ n1_ n2_
 (try clear hb)
 (skip)
 (skip)
 (skip)
 refine hK.out _ _ ⟨(blk_cell BK128.out 0).trans rfl,(blk_cell BK128.out 1).trans rfl,(blk_cell BK128.out 2).trans rfl,(blk_cell BK128.out 3).trans rfl,(blk_cell BK129.out 0).trans rfl,(blk_cell BK129.out 1).trans rfl,(blk_cell BK129.out 2).trans rfl,(blk_cell BK129.out 3).trans rfl⟩ (fun hHeld=>?_);clear hK K;refine norm_ (a':=?_) ?_ ?_;rotate_left
 ·show Act.put _ (some 24) _=_;simp only [Act.put,s1_,s2_,s3_,i64_w,i32_w];rfl
 refine one_ (i:=20) (N:=some 25) (m_ 21 2) rfl rfl (one_of HT_.out (by kernel_rfl)) (by decide) (fun K hK=>?_);refine Kd.R_lit_step (Kd.int .i64) _ 3 ?hg (N:=25) ?hd (xs:=([t130,t131,t132,t133]:List Int)) (inner:=[.int .i64 t130,.int .i64 t131,.int .i64 t132,.int .i64 t133]) (ok:=fun _=>True) (okp:=fun _=>True) ?hr ?hp (fun _ hk=>hk) trivial (Below.refl _ _) (Nat.le_refl _) (by simp) ?_;(case hd=>rfl);(case hg=>rfl);(case hr=>(go_simp;done));(case hp=>exact (Reps.one (show Kd.M (Kd.int .i64) _ _ _ t130 [.int .i64 t130] from rfl) (Reps.one (show Kd.M (Kd.int .i64) _ _ _ t131 [.int .i64 t131] from rfl) (Reps.one (show Kd.M (Kd.int .i64) _ _ _ t132 [.int .i64 t132] from rfl) (Reps.one (show Kd.M (Kd.int .i64) _ _ _ t133 [.int .i64 t133] from rfl) (Reps.none _ _))))))
 intro v135 w12 ho13 hb hg_ hnew_;clear hg_ hnew_
 (rw [← Ny134.out] at ho13)
 have n0_:=a_ (Kd.R_lower ho13 (below_size HB.out));have n1_:=a_ (blk_below (g:=gb128) (o:=.cells #[.int .i64 a0_0,.int .i64 a0_1,.int .i64 a0_2,.string a0_3] 33 (0,0)) (by exact BK128.out) hb);have n2_:=a_ (blk_below (g:=gb129) (o:=.cells #[.int .i64 a1_0,.int .i64 a1_1,.int .i64 a1_2,.string a1_3] 33 (0,0)) (by exact BK129.out) hb);have n3_:=a_ (below_step HB.out hb);clear BK128;clear BK129;clear HB
 have HO136:=n0_;have BK128:=n1_;have BK129:=n2_;have HB:=n3_;clear n0_ n1_ n2_ n3_;clear hb ho13;obtain ⟨Ao14,co14,eo14⟩:=Kd.R_slice HO136.out
 (subst eo14)
 refine hK.out _ _ ⟨(blk_cell BK128.out 0).trans rfl,(blk_cell BK128.out 1).trans rfl,(blk_cell BK128.out 2).trans rfl,(blk_cell BK128.out 3).trans rfl,(blk_cell BK129.out 0).trans rfl,(blk_cell BK129.out 1).trans rfl,(blk_cell BK129.out 2).trans rfl,(blk_cell BK129.out 3).trans rfl⟩ (fun hHeld=>?_);clear hK K;refine norm_ (a':=?_) ?_ ?_;rotate_left
 ·show Act.put _ (some 25) _=_;simp only [Act.put,s1_,s2_,s3_,i64_w,i32_w];rfl
 refine one_ (i:=21) (N:=some 26) (m_ 22 1) rfl rfl (one_of HT_.out (by kernel_rfl)) (by decide) (fun K hK=>?_);refine goes_ Tryd.func60 (by kernel_rfl) rfl #[.slice Ao14 y134.length co14] (by rfl) rfl rfl (by (try simp only [List.map_toArray,List.map_cons,List.map_nil]);rfl) ?_
 with_reducible refine (cmp_Or_int.calls k _ _ y134 t137 _ ?side1 ?side2 A7.out).mono ?_
 (case side1=>repeat (exact (Kd.R_reads' HO136.out).2.2))
 (case side2=>exact (Kd.R_reads' HO136.out).2.1)
 rintro e w' ⟨rfl,⟨nd,rfl⟩⟩;refine ⟨_,rfl,?_⟩;refine hK.out _ _ ⟨(blk_cell BK128.out 0).trans rfl,(blk_cell BK128.out 1).trans rfl,(blk_cell BK128.out 2).trans rfl,(blk_cell BK128.out 3).trans rfl,(blk_cell BK129.out 0).trans rfl,(blk_cell BK129.out 1).trans rfl,(blk_cell BK129.out 2).trans rfl,(blk_cell BK129.out 3).trans rfl⟩ (fun hHeld=>?_);clear hK K;refine norm_ (a':=?_) ?_ ?_;rotate_left
 ·show Act.put _ (some 26) _=_;simp only [Act.put,s1_,s2_,s3_,i64_w,i32_w];rfl
 refine pure_ (i:=22) (N:=some 4) (v:=?_) (a':=?_) (m_ 23 0) rfl rfl (any_of HT_.out (by kernel_rfl)) (fun _ _ _ h=>h) (Or.inl ⟨by rfl,?_⟩) ?_ ?_;rotate_left
 ·intro w';go_simp
  with_reducible rfl
 rotate_left
 ·simp only [Act.put,s1_,s2_,s3_,i64_w,i32_w];rfl
 refine done_ (done_of HT_.out (by kernel_rfl)) ?_
 try go_wp2
 go_ret
 exact ⟨by rfl,by repeat (with_reducible first | exact HB.out | apply pw_below_drewN)⟩
def impl_LessVersion.f (k:Nat) (a0_0:Int) (a0_1:Int) (a0_2:Int) (a0_3:ByteArray) (a1_0:Int) (a1_1:Int) (a1_2:Int) (a1_3:ByteArray):Option (Bool):=(impl_compare.f k a0_0 a0_1 a0_2 a0_3 a1_0 a1_1 a1_2 a1_3).bind fun t140=>(some (decide (t140 < 0)))
theorem impl_LessVersion.mono : ∀ a0 a1 a2 a3 a4 a5 a6 a7 k,LeO (impl_LessVersion.f k a0 a1 a2 a3 a4 a5 a6 a7) (impl_LessVersion.f (k + 1) a0 a1 a2 a3 a4 a5 a6 a7):=by
 intro a0 a1 a2 a3 a4 a5 a6 a7 k;unfold impl_LessVersion.f
 repeat' first
  | (with_reducible exact impl_compare.mono _ _ _ _ _ _ _ _ _)
  | (with_reducible exact LeO.refl _)
  | (with_reducible refine LeO.bind ?_ (fun _=>?_))
set_option maxHeartbeats 8000000 in
set_option maxRecDepth 100000 in
theorem impl_LessVersion.calls (k:Nat) (a0_0:Int) (a0_1:Int) (a0_2:Int) (a0_3:ByteArray) (a1_0:Int) (a1_1:Int) (a1_2:Int) (a1_3:ByteArray) (r:Bool) (w:World) (h:impl_LessVersion.f k a0_0 a0_1 a0_2 a0_3 a1_0 a1_1 a1_2 a1_3=some r) :
 Calls Tryd.prog 27 #[.agg #[.int .i64 a0_0,.int .i64 a0_1,.int .i64 a0_2,.string a0_3],.agg #[.int .i64 a1_0,.int .i64 a1_1,.int .i64 a1_2,.string a1_3]] w fun e w'=>e = .returned (.bool r) ∧ Below w.heap.size w w':=by
 have hu33:=Tryd.underlying33;have HB:=a_ (Below.refl w.heap.size w);have H:((impl_compare.f k a0_0 a0_1 a0_2 a0_3 a1_0 a1_1 a1_2 a1_3).bind fun t140=>(some (decide (t140 < 0))))=some r:=h;clear h;replace H:=Option.bind_eq_some_iff.mp H;obtain ⟨t140,A30,H⟩:=H;replace H:(some (decide (t140 < 0)))=some r:=H;have A3:=a_ A30;clear A30;obtain rfl:=Option.some.inj H
 go_enter Tryd.func27,Tryd.ntmps27
 go_wp2_with (first | ((with_reducible refine gate_dst (N:=2) rfl ?_);refine box_event ?hg (N:=2) ?hd (cs:=#[.int .i64 a0_0,.int .i64 a0_1,.int .i64 a0_2,.string a0_3]) (t:=33) ?hr ?_;(case hd=>rfl);(case hg=>rfl);(case hr=>(go_simp;done));intro gb138 hg w4 hbox hb;have n0_:=a_ (below_step HB.out hb);have n1_:=a_ (hbox);have n2_:=a_ ((by rw [hg];exact (below_size HB.out):w.heap.size ≤ gb138));have n3_:=a_ ((by rw [hg];exact (below_size HB.out):w.heap.size ≤ gb138));clear HB;have HB:=n0_;have BK138:=n1_;have GW138:=n2_;have GE138:=n3_;clear n0_ n1_ n2_ n3_;clear hb hbox hg) | ((with_reducible refine gate_dst (N:=3) rfl ?_);refine box_event ?hg (N:=3) ?hd (cs:=#[.int .i64 a1_0,.int .i64 a1_1,.int .i64 a1_2,.string a1_3]) (t:=33) ?hr ?_;(case hd=>rfl);(case hg=>rfl);(case hr=>(go_simp;done));intro gb139 hg w5 hbox hb;have n0_:=a_ (blk_below (g:=gb138) (o:=.cells #[.int .i64 a0_0,.int .i64 a0_1,.int .i64 a0_2,.string a0_3] 33 (0,0)) (by exact BK138.out) hb);have n1_:=a_ (below_step HB.out hb);have n2_:=a_ (hbox);have n3_:=a_ ((by rw [hg];exact (below_size HB.out):w.heap.size ≤ gb139));have n4_:=a_ ((by rw [hg];exact (below_size HB.out):w.heap.size ≤ gb139));have n5_:=a_ ((by rw [hg];exact Nat.ne_of_lt (blk_lt (g:=gb138) (o:=.cells #[.int .i64 a0_0,.int .i64 a0_1,.int .i64 a0_2,.string a0_3] 33 (0,0)) (by exact BK138.out)):gb138 ≠ gb139));have n6_:=a_ ((by rw [hg];exact Nat.ne_of_gt (blk_lt (g:=gb138) (o:=.cells #[.int .i64 a0_0,.int .i64 a0_1,.int .i64 a0_2,.string a0_3] 33 (0,0)) (by exact BK138.out)):gb139 ≠ gb138));clear BK138;clear HB;have BK138:=n0_;have HB:=n1_;have BK139:=n2_;have GW139:=n3_;have GE139:=n4_;have NB138_139:=n5_;have NB139_138:=n6_;clear n0_ n1_ n2_ n3_ n4_ n5_ n6_;clear hb hbox hg;have hnb6:=NB138_139.out;have hnc6:=NB139_138.out;have hcz7_0:w5.cell? ⟨gb138,0,none⟩=some (.int .i64 a0_0):=(blk_cell BK138.out 0).trans rfl;have hcz7_1:w5.cell? ⟨gb138,1,none⟩=some (.int .i64 a0_1):=(blk_cell BK138.out 1).trans rfl;have hcz7_2:w5.cell? ⟨gb138,2,none⟩=some (.int .i64 a0_2):=(blk_cell BK138.out 2).trans rfl;have hcz7_3:w5.cell? ⟨gb138,3,none⟩=some (.string a0_3):=(blk_cell BK138.out 3).trans rfl;have hfz7_0:=blk_frozen BK138.out 0;have hfz7_1:=blk_frozen BK138.out 1;have hfz7_2:=blk_frozen BK138.out 2;have hfz7_3:=blk_frozen BK138.out 3;have hcz8_0:w5.cell? ⟨gb139,0,none⟩=some (.int .i64 a1_0):=(blk_cell BK139.out 0).trans rfl;have hcz8_1:w5.cell? ⟨gb139,1,none⟩=some (.int .i64 a1_1):=(blk_cell BK139.out 1).trans rfl;have hcz8_2:w5.cell? ⟨gb139,2,none⟩=some (.int .i64 a1_2):=(blk_cell BK139.out 2).trans rfl;have hcz8_3:w5.cell? ⟨gb139,3,none⟩=some (.string a1_3):=(blk_cell BK139.out 3).trans rfl;have hfz8_0:=blk_frozen BK139.out 0;have hfz8_1:=blk_frozen BK139.out 1;have hfz8_2:=blk_frozen BK139.out 2;have hfz8_3:=blk_frozen BK139.out 3) | ((with_reducible refine gate_callee (f:=47) rfl ?_);refine goesL_ (some 7) rfl rfl Tryd.func47 (by kernel_rfl) rfl #[.agg #[.int .i64 a0_0,.int .i64 a0_1,.int .i64 a0_2,.string a0_3],.agg #[.int .i64 a1_0,.int .i64 a1_1,.int .i64 a1_2,.string a1_3]] rfl (by (try simp only [List.map_toArray,List.map_cons,List.map_nil]);rfl) ?_;(with_reducible refine (impl_compare.calls k a0_0 a0_1 a0_2 a0_3 a1_0 a1_1 a1_2 a1_3 t140 _ A3.out).mono ?_);rintro e w9 ⟨rfl,hb⟩;refine ⟨_,rfl,?_⟩;have n0_:=a_ (blk_below (g:=gb138) (o:=.cells #[.int .i64 a0_0,.int .i64 a0_1,.int .i64 a0_2,.string a0_3] 33 (0,0)) (by exact BK138.out) hb);have n1_:=a_ (blk_below (g:=gb139) (o:=.cells #[.int .i64 a1_0,.int .i64 a1_1,.int .i64 a1_2,.string a1_3] 33 (0,0)) (by exact BK139.out) hb);have n2_:=a_ (below_step HB.out hb);clear BK138;clear BK139;clear HB;have BK138:=n0_;have BK139:=n1_;have HB:=n2_;clear n0_ n1_ n2_;(try clear hb)))
 go_ret
 exact ⟨by rfl,by exact HB.out⟩
def impl_Covers.l1:Nat → List (S36) → S36 → Int → Option Bool
 | 0,_,_,_=>none
 | k + 1,xs,n,i=>if i < (xs.length:Int) then (if 0 ≤ i then (if (rd_T36 xs i).f0.toList=n.f0.toList then ((impl_LessVersion.f k (rd_T36 xs i).f1.f0 (rd_T36 xs i).f1.f1 (rd_T36 xs i).f1.f2 (rd_T36 xs i).f1.f3 n.f1.f0 n.f1.f1 n.f1.f2 n.f1.f3).bind fun t=>(if t=true then (impl_Covers.l1 k xs n (wrap64 (i + 1))) else (some true))) else (impl_Covers.l1 k xs n (wrap64 (i + 1)))) else (none)) else (some false)
def impl_Covers.l0:Nat → List (S36) → List (S36) → Int → Option Bool
 | 0,_,_,_=>none
 | k + 1,xs,ns,i=>if i < (ns.length:Int) then (if 0 ≤ i then ((impl_Covers.l1 k xs (rd_T36 ns i) 0).bind fun t=>(if t=true then (impl_Covers.l0 k xs ns (wrap64 (i + 1))) else (some false))) else (none)) else (some true)
def impl_Covers.f (k:Nat) (l0:List (S36)) (l1:List (S36)):Option (Bool):=impl_Covers.l0 k l0 l1 0
theorem impl_Covers.mono_l : ∀ k,(∀ y0 y1 y2,LeO (impl_Covers.l1 k y0 y1 y2) (impl_Covers.l1 (k + 1) y0 y1 y2)) ∧ (∀ y0 y1 y2,LeO (impl_Covers.l0 k y0 y1 y2) (impl_Covers.l0 (k + 1) y0 y1 y2))
 | 0=>⟨fun _ _ _ r h=>by simp [impl_Covers.l1] at h,fun _ _ _ r h=>by simp [impl_Covers.l0] at h⟩
 | k + 1=>by
  obtain ⟨ih0,ih1⟩:=impl_Covers.mono_l k;refine ⟨?_,?_⟩
  ·intro y0 y1 y2;unfold impl_Covers.l1
   repeat' first
   | (with_reducible exact ih0 _ _ _)
   | (with_reducible exact impl_LessVersion.mono _ _ _ _ _ _ _ _ _)
   | (with_reducible exact LeO.refl _)
   | (with_reducible refine LeO.ite ?_ ?_)
   | (with_reducible refine LeO.bind ?_ (fun _=>?_))
  ·intro y0 y1 y2;unfold impl_Covers.l0
   repeat' first
   | (with_reducible exact ih0 _ _ _)
   | (with_reducible exact ih1 _ _ _)
   | (with_reducible exact LeO.refl _)
   | (with_reducible refine LeO.ite ?_ ?_)
   | (with_reducible refine LeO.bind ?_ (fun _=>?_))
theorem impl_Covers.mono : ∀ a0 a1 k,LeO (impl_Covers.f k a0 a1) (impl_Covers.f (k + 1) a0 a1):=by
 intro a0 a1 k;obtain ⟨ih0,ih1⟩:=impl_Covers.mono_l k;unfold impl_Covers.f
 repeat' (with_reducible exact ih1 _ _ _)
set_option maxHeartbeats 2000000 in
theorem impl_Covers.closure (k:Nat) (n x:S36) (t:Bool) (g:Nat) (w:World) (h:x.f0.toList=n.f0.toList → impl_LessVersion.f k x.f1.f0 x.f1.f1 x.f1.f2 x.f1.f3 n.f1.f0 n.f1.f1 n.f1.f2 n.f1.f3=some t)
 (h0:w.cell? ⟨g,0,none⟩=some (.string n.f0)) (h1:w.cell? ⟨g,1,none⟩=some (.int .i64 n.f1.f0)) (h2:w.cell? ⟨g,2,none⟩=some (.int .i64 n.f1.f1)) (h3:w.cell? ⟨g,3,none⟩=some (.int .i64 n.f1.f2)) (h4:w.cell? ⟨g,4,none⟩=some (.string n.f1.f3)) :
 Calls Tryd.prog 26 #[.agg #[.string x.f0,.int .i64 x.f1.f0,.int .i64 x.f1.f1,.int .i64 x.f1.f2,.string x.f1.f3],.pointer (some ⟨g,0,none⟩)] w fun e w'=>e = .returned (.bool (decide (x.f0.toList=n.f0.toList) && !t)) ∧ Below w.heap.size w w':=by
 have HB:=a_ (Below.refl w.heap.size w);have hold : ∀ o v,w.cell? ⟨g,o,none⟩=some v → ∀ ob,(w.alloc ob).cell? ⟨g,o,none⟩=some v:=fun o v hv ob=>((below_alloc (Below.refl w.heap.size w) ob).cell (World.block_lt_of_cell? w _ hv)).trans hv
 have g0:=hold _ _ h0;have g1:=hold _ _ h1;have g2:=hold _ _ h2;have g3:=hold _ _ h3;have g4:=hold _ _ h4;clear h0 h1 h2 h3 h4 hold
 by_cases c:x.f0.toList=n.f0.toList
 ·have cb:(x.f0.toList == n.f0.toList)=true:=beq_iff_eq.mpr c;have HL:=a_ (h c);rw [decide_eq_true c];clear h c
  go_enter Tryd.func26,Tryd.ntmps26
  go_wp2_with (go_at_call 27;(with_reducible refine (impl_LessVersion.calls k x.f1.f0 x.f1.f1 x.f1.f2 x.f1.f3 n.f1.f0 n.f1.f1 n.f1.f2 n.f1.f3 t _ HL.out).mono ?_);rintro e w1 ⟨rfl,hb⟩;have HB1:=a_ (below_step (below_alloc HB.out _) hb);clear hb)
  go_ret
  exact ⟨by simp,HB1.out⟩
 ·have cb:(x.f0.toList == n.f0.toList)=false:=beq_eq_false_iff_ne.mpr c;rw [decide_eq_false c];clear h c
  go_enter Tryd.func26,Tryd.ntmps26
  go_wp2_with fail
  go_ret
  exact ⟨by simp,below_alloc HB.out _⟩
set_option maxHeartbeats 4000000 in
set_option maxRecDepth 100000 in
theorem impl_Covers.index (k:Nat) (A:Option Addr) (c:Nat) (xs:List (S36)) (n:S36) (r:Bool) (g:Nat) (w:World) (hr:Kd.C k36 w A xs.length xs) (h:impl_Covers.l1 k xs n 0=some r)
 (h0:w.cell? ⟨g,0,none⟩=some (.string n.f0)) (h1:w.cell? ⟨g,1,none⟩=some (.int .i64 n.f1.f0)) (h2:w.cell? ⟨g,2,none⟩=some (.int .i64 n.f1.f1)) (h3:w.cell? ⟨g,3,none⟩=some (.int .i64 n.f1.f2)) (h4:w.cell? ⟨g,4,none⟩=some (.string n.f1.f3)) :
 Calls Tryd.prog 46 #[.slice A xs.length c,.func (.func 26) #[] #[.pointer (some ⟨g,0,none⟩)]] w fun e w'=>∃ v:Int,e = .returned (.int .i64 v) ∧ decide (v ≥ 0)=r ∧ Below w.heap.size w w':=by
 have hu:=Tryd.underlying36;have HR:=a_ hr;have HB:=a_ (Below.refl w.heap.size w);have H0:=a_ h0;have H1:=a_ h1;have H2:=a_ h2;have H3:=a_ h3;have H4:=a_ h4;have H':=a_ h;clear hr h h0 h1 h2 h3 h4
 go_enter Tryd.func46,Tryd.ntmps46
 go_wp2
 go_loopg [5,8] k (fun kq v5 v8 w'=>∃ (x8_1:Int),v8 = .int .i64 x8_1 ∧ Aside0 (impl_Covers.l1 kq xs n x8_1=some r) ∧ Aside0 (kq ≤ k) ∧ Aside0 (Below w.heap.size w w'))
 case atStart=>exact ⟨0,rfl,H',⟨Nat.le_refl _⟩,HB⟩
 case round=>
  clear H' HB;obtain ⟨x8_1,rfl,HA,HK1,HB⟩:=hrel
  cases gk with
  | zero=>exact absurd HA.out (by simp [impl_Covers.l1])
  | succ k1=>
   have H:=HA.out;clear HA;simp only [impl_Covers.l1] at H
   by_cases c4:x8_1 < (xs.length:Int)
   ·rw [if_pos c4] at H;have c4b0:decide (x8_1 < (xs.length:Int))=true:=decide_eq_true c4
    by_cases c5:0 ≤ x8_1
    ·rw [if_pos c5] at H;obtain ⟨ad,e104,hx0,hx1,hx2,hx3,hx4⟩:=at_T36 HR.out x8_1 c5 c4;cases e104;replace hx0:=bc_ HB hx0;replace hx1:=bc_ HB hx1;replace hx2:=bc_ HB hx2;replace hx3:=bc_ HB hx3;replace hx4:=bc_ HB hx4;have g0:=a_ ((HB.out.cell (World.block_lt_of_cell? w _ H0.out)).trans H0.out);have g1:=a_ ((HB.out.cell (World.block_lt_of_cell? w _ H1.out)).trans H1.out);have g2:=a_ ((HB.out.cell (World.block_lt_of_cell? w _ H2.out)).trans H2.out)
     have g3:=a_ ((HB.out.cell (World.block_lt_of_cell? w _ H3.out)).trans H3.out);have g4:=a_ ((HB.out.cell (World.block_lt_of_cell? w _ H4.out)).trans H4.out);have c5k:=a_ c5;replace c4:=eq_true c4;replace c5:=eq_true c5
     obtain ⟨t,HT⟩ : ∃ t:Bool,Aside0 ((rd_T36 xs x8_1).f0.toList=n.f0.toList → impl_LessVersion.f k1 (rd_T36 xs x8_1).f1.f0 (rd_T36 xs x8_1).f1.f1 (rd_T36 xs x8_1).f1.f2 (rd_T36 xs x8_1).f1.f3 n.f1.f0 n.f1.f1 n.f1.f2 n.f1.f3=some t) ∧ Aside0 ((if (decide ((rd_T36 xs x8_1).f0.toList=n.f0.toList) && !t)=true then some true else impl_Covers.l1 k1 xs n (wrap64 (x8_1 + 1)))=some r):=by
      by_cases ce:(rd_T36 xs x8_1).f0.toList=n.f0.toList
      ·rw [if_pos ce] at H;obtain ⟨t,ht,H⟩:=Option.bind_eq_some_iff.mp H;refine ⟨t,⟨fun _=>ht⟩,⟨?_⟩⟩;rw [decide_eq_true ce,Bool.true_and];cases t
       ·simpa using H
       ·simpa using H
      ·rw [if_neg ce] at H;refine ⟨true,⟨fun e=>absurd e ce⟩,⟨?_⟩⟩
       simpa using H
     clear H;obtain ⟨HT1,HT2⟩:=HT
     go_wp2_with fail
     (with_reducible refine (impl_Covers.closure k1 n (rd_T36 xs x8_1) t g _ HT1.out g0.out g1.out g2.out g3.out g4.out).mono ?_)
     rintro e w1 ⟨rfl,hb⟩;have HB1:=a_ (below_step HB.out hb);clear hb hx0 hx1 hx2 hx3 hx4;have H2_:=HT2.out;clear HT1 HT2
     by_cases cc:(decide ((rd_T36 xs x8_1).f0.toList=n.f0.toList) && !t)=true
     ·rw [if_pos cc] at H2_;obtain rfl:=Option.some.inj H2_;rw [cc];clear cc
      go_wp2
      go_ret
      exact ⟨_,rfl,decide_eq_true c5k.out,HB1.out⟩
     ·rw [if_neg cc] at H2_;have HH:=a_ H2_;replace cc:=Bool.eq_false_iff.mpr cc;rw [cc];clear cc H2_
      go_wp2
      go_roundg k1
      case measure=>have:=HK1.out;omega
      case rel=>exact ⟨wrap64 (x8_1 + 1),by rfl,HH,⟨by have:=HK1.out;omega⟩,HB1⟩
    ·rw [if_neg c5] at H;exact absurd H (by simp)
   ·rw [if_neg c4] at H;have c4b0:decide (x8_1 < (xs.length:Int))=false:=decide_eq_false c4;clear c4;obtain rfl:=Option.some.inj H
    go_wp2
    go_ret
    exact ⟨_,rfl,by simp,HB.out⟩
set_option maxHeartbeats 4000000 in
set_option maxRecDepth 100000 in
theorem impl_Covers.contains (k:Nat) (A:Option Addr) (c:Nat) (xs:List (S36)) (n:S36) (r:Bool) (g:Nat) (w:World) (hr:Kd.C k36 w A xs.length xs) (h:impl_Covers.l1 k xs n 0=some r)
 (h0:w.cell? ⟨g,0,none⟩=some (.string n.f0)) (h1:w.cell? ⟨g,1,none⟩=some (.int .i64 n.f1.f0)) (h2:w.cell? ⟨g,2,none⟩=some (.int .i64 n.f1.f1)) (h3:w.cell? ⟨g,3,none⟩=some (.int .i64 n.f1.f2)) (h4:w.cell? ⟨g,4,none⟩=some (.string n.f1.f3)) :
 Calls Tryd.prog 25 #[.slice A xs.length c,.func (.func 26) #[] #[.pointer (some ⟨g,0,none⟩)]] w fun e w'=>e = .returned (.bool r) ∧ Below w.heap.size w w':=by
 have HC:=a_ (impl_Covers.index k A c xs n r g w hr h h0 h1 h2 h3 h4);clear hr h h0 h1 h2 h3 h4
 go_enter Tryd.func25,Tryd.ntmps25
 go_wp2_with fail
 (with_reducible refine HC.out.mono ?_)
 rintro e w1 ⟨v,rfl,hv,hb⟩;subst hv
 go_wp2
 go_ret
 exact ⟨by rfl,hb⟩
set_option maxHeartbeats 8000000 in
set_option maxRecDepth 100000 in
theorem impl_Covers.callsX (k:Nat) (A0:Option Addr) (c0:Nat) (l0:List (S36)) (A1:Option Addr) (c1:Nat) (l1:List (S36)) (r:Bool) (w:World) (hr0:Kd.C k36 w A0 l0.length l0) (hc0:l0.length ≤ c0) (hr1:Kd.C k36 w A1 l1.length l1) (hc1:l1.length ≤ c1) (h:impl_Covers.f k l0 l1=some r) :
 Calls Tryd.prog 10 #[.slice A0 l0.length c0,.slice A1 l1.length c1] w fun e w'=>e = .returned (.bool r) ∧ Below w.heap.size w w':=by
 have hu:=Tryd.underlying36;have HR0:=a_ hr0;have HR1:=a_ hr1;have HB:=a_ (Below.refl w.heap.size w);have H':Aside0 (impl_Covers.l0 k l0 l1 0=some r):=a_ h;clear hr0 hc0 hr1 hc1 h
 go_enter Tryd.func10,Tryd.ntmps10
 go_wp2
 go_loopg [6,7,10] k (fun kq v6 v7 v10 w'=>∃ (x10_1:Int),v10 = .int .i64 x10_1 ∧ Aside0 (impl_Covers.l0 kq l0 l1 x10_1=some r) ∧ Aside0 (kq ≤ k) ∧ Aside0 (Below w.heap.size w w'))
 case atStart=>exact ⟨0,rfl,H',⟨Nat.le_refl _⟩,HB⟩
 case round=>
  clear H' HB;obtain ⟨x10_1,rfl,HA,HK1,HB⟩:=hrel
  cases gk with
  | zero=>exact absurd HA.out (by simp [impl_Covers.l0])
  | succ k1=>
   have H:=HA.out;clear HA;simp only [impl_Covers.l0] at H
   by_cases c4:x10_1 < (l1.length:Int)
   ·rw [if_pos c4] at H;have c4b0:decide (x10_1 < (l1.length:Int))=true:=decide_eq_true c4
    by_cases c5:0 ≤ x10_1
    ·rw [if_pos c5] at H;replace H:=Option.bind_eq_some_iff.mp H;obtain ⟨t,ht,H⟩:=H;obtain ⟨ad,e104,hx0,hx1,hx2,hx3,hx4⟩:=at_T36 HR1.out x10_1 c5 c4;cases e104;replace hx0:=bc_ HB hx0;replace hx1:=bc_ HB hx1;replace hx2:=bc_ HB hx2;replace hx3:=bc_ HB hx3;replace hx4:=bc_ HB hx4;replace c4:=eq_true c4;replace c5:=eq_true c5;have HT:=a_ ht;have HH:=a_ H;clear ht H
     go_wp2_with fail
     have hbox:=heap_alloc_new wr (.cells #[.string (rd_T36 l1 x10_1).f0,.int .i64 (rd_T36 l1 x10_1).f1.f0,.int .i64 (rd_T36 l1 x10_1).f1.f1,.int .i64 (rd_T36 l1 x10_1).f1.f2,.string (rd_T36 l1 x10_1).f1.f3] 36)
     (with_reducible refine (impl_Covers.contains k1 A0 c0 l0 (rd_T36 l1 x10_1) t wr.heap.size _ (Kd.C_below HR0.out (below_alloc HB.out _)) HT.out ((blk_cell hbox 0).trans rfl) ((blk_cell hbox 1).trans rfl) ((blk_cell hbox 2).trans rfl) ((blk_cell hbox 3).trans rfl) ((blk_cell hbox 4).trans rfl)).mono ?_)
     rintro e w1 ⟨rfl,hb⟩;have HB1:=a_ (below_step (below_alloc HB.out _) hb);clear hb hbox hx0 hx1 hx2 hx3 hx4 HT;have H:=HH.out;clear HH
     cases t with
     | true=>
      have HH:Aside0 (impl_Covers.l0 k1 l0 l1 (wrap64 (x10_1 + 1))=some r):=⟨H⟩;clear H
      go_wp2
      go_roundg k1
      case measure=>have:=HK1.out;omega
      case rel=>exact ⟨wrap64 (x10_1 + 1),by rfl,HH,⟨by have:=HK1.out;omega⟩,HB1⟩
     | false=>
      have HH:some false=some r:=H;obtain rfl:=Option.some.inj HH;clear H HH
      go_wp2
      go_ret
      exact ⟨rfl,HB1.out⟩
    ·rw [if_neg c5] at H;exact absurd H (by simp)
   ·rw [if_neg c4] at H;have c4b0:decide (x10_1 < (l1.length:Int))=false:=decide_eq_false c4;clear c4;obtain rfl:=Option.some.inj H
    go_wp2
    go_ret
    exact ⟨rfl,HB.out⟩
set_option maxHeartbeats 8000000 in
set_option maxRecDepth 100000 in
theorem impl_Covers.calls (k:Nat) (A0:Option Addr) (c0:Nat) (l0:List (S36)) (A1:Option Addr) (c1:Nat) (l1:List (S36)) (r:Bool) (w:World) (hr0:Kd.C k36 w A0 l0.length l0) (hc0:l0.length ≤ c0) (hr1:Kd.C k36 w A1 l1.length l1) (hc1:l1.length ≤ c1) (h:impl_Covers.f k l0 l1=some r) :
 Calls Tryd.prog 10 #[.slice A0 l0.length c0,.slice A1 l1.length c1] w fun e w'=>e = .returned (.bool r) ∧ Below w.heap.size w w':=by
 exact impl_Covers.callsX k A0 c0 l0 A1 c1 l1 r w hr0 hc0 hr1 hc1 h
def laws_big.f (l0:List Int):Option (Bool):=some (decide ((l0.length:Int) > 1048576))
set_option maxHeartbeats 8000000 in
set_option maxRecDepth 100000 in
theorem laws_big.calls (A0:Option Addr) (c0:Nat) (l0:List Int) (r:Bool) (w:World) (hr0:Kd.C (Kd.int .u8) w A0 l0.length l0) (hc0:l0.length ≤ c0) (h:laws_big.f l0=some r) :
 Calls Tryd.prog 12 #[.slice A0 l0.length c0] w fun e w'=>e = .returned (.bool r) ∧ Drawn0 w w':=by
 have HR0:=a_ hr0;have HC0:=a_ hc0;clear hr0 hc0;have H:(some (decide ((l0.length:Int) > 1048576)))=some r:=h;clear h;obtain rfl:=Option.some.inj H
 go_enter Tryd.func12,Tryd.ntmps12
 go_wp2
 go_ret
 exact ⟨by rfl,by repeat (exact Drawn0.refl _)⟩
def spec_l3Split.l0:Nat → ByteArray → Int → List ByteArray → Int → Int → Option (List ByteArray)
 | 0,_,_,_,_,_=>none
 | k + 1,x0,x1,x5,x6,x7=>if x7 ≤ (x0.size:Int) then (if x7=(x0.size:Int) then (if 0 ≤ x6 then (if x6 ≤ x7 then (if x5.length < 8796093022208 then (spec_l3Split.l0 k x0 x1 (x5 ++ [x0.extract (x6:Int).toNat (x7:Int).toNat]) (wrap64 (x7 + 1)) (wrap64 (x7 + 1))) else (none)) else (none)) else (none)) else (if 0 ≤ x7 then (if x7 < (x0.size:Int) then (if (bt x0 x7)=x1 then (if 0 ≤ x6 then (if x6 ≤ x7 then (if x5.length < 8796093022208 then (spec_l3Split.l0 k x0 x1 (x5 ++ [x0.extract (x6:Int).toNat (x7:Int).toNat]) (wrap64 (x7 + 1)) (wrap64 (x7 + 1))) else (none)) else (none)) else (none)) else (spec_l3Split.l0 k x0 x1 x5 x6 (wrap64 (x7 + 1)))) else (none)) else (none))) else (some x5)
def spec_l3Split.f (k:Nat) (a0:ByteArray) (a1:Int):Option (List ByteArray):=spec_l3Split.l0 k a0 a1 ([]:List ByteArray) 0 0
theorem spec_l3Split.mono_l : ∀ k,(∀ y0 y1 y2 y3 y4,LeO (spec_l3Split.l0 k y0 y1 y2 y3 y4) (spec_l3Split.l0 (k + 1) y0 y1 y2 y3 y4))
 | 0=>fun _ _ _ _ _ r h=>by simp [spec_l3Split.l0] at h
 | k + 1=>by
  have ih0:=spec_l3Split.mono_l k
  ·intro y0 y1 y2 y3 y4;unfold spec_l3Split.l0
   repeat' first
   | (with_reducible exact ih0 _ _ _ _ _)
   | (with_reducible exact LeO.refl _)
   | (with_reducible refine LeO.ite ?_ ?_)
theorem spec_l3Split.mono : ∀ a0 a1 k,LeO (spec_l3Split.f k a0 a1) (spec_l3Split.f (k + 1) a0 a1):=by
 intro a0 a1 k;have ih0:=spec_l3Split.mono_l k;unfold spec_l3Split.f
 repeat' (with_reducible exact ih0 _ _ _ _ _)
set_option maxHeartbeats 8000000 in
set_option maxRecDepth 100000 in
theorem spec_l3Split.calls (k:Nat) (a0:ByteArray) (a1:Int) (r:List ByteArray) (w:World) (h:spec_l3Split.f k a0 a1=some r) :
 Calls Tryd.prog 58 #[.string a0,.int .u8 a1] w fun e w'=>∃ v0_:Value,e = .returned (v0_) ∧ Kd.R Kd.string 9 w' w.heap.size (fun _=>True) v0_ r ∧ Below w.heap.size w w':=by
 have HB:=a_ (Below.refl w.heap.size w);have H:(spec_l3Split.l0 k a0 a1 ([]:List ByteArray) 0 0)=some r:=h;clear h;obtain ⟨y141,hy141⟩ : ∃ y_:List ByteArray,y_=([]:List ByteArray):=⟨_,rfl⟩;replace H:(spec_l3Split.l0 k a0 a1 y141 0 0)=some r:=by (rw [hy141];with_reducible exact H)
 have Ny141:=a_ hy141;clear hy141;have H':=a_ H;clear H
 go_enter Tryd.func58,Tryd.ntmps58
 go_wp2_with (((with_reducible refine gate_dst (N:=8) rfl ?_);refine Kd.R_lit Kd.string _ 9 ?hg (N:=8) ?hd (xs:=([]:List ByteArray)) (inner:=[]) (ok:=fun _=>True) (okp:=fun _=>True) ?hr ?hp (fun _ hk=>hk) trivial (Below.refl _ _) (Nat.le_refl _) (by simp) ?_;(case hd=>rfl);(case hg=>rfl);(case hr=>(go_simp;done));(case hp=>exact (Reps.none _ _));intro v142 w3 ho4 hb hg_ hnew_;clear hg_ hnew_;(rw [← Ny141.out] at ho4);have n0_:=a_ (Kd.R_lower ho4 (below_size HB.out));have n1_:=a_ (below_step HB.out hb);clear HB;have HO143:=n0_;have HB:=n1_;clear n0_ n1_;clear hb ho4))
 go_loopg [5,6,7] k (fun kq v5 v6 v7 w'=>∃ (x5_1:List ByteArray) (x6_1:Int) (x7_1:Int),v6 = .int .i64 x6_1 ∧ v7 = .int .i64 x7_1 ∧ Aside0 (spec_l3Split.l0 kq a0 a1 x5_1 x6_1 x7_1=some r) ∧ Aside0 (kq ≤ k) ∧ Aside0 (Kd.R Kd.string 9 w' w.heap.size (fun _=>True) v5 x5_1) ∧ Aside0 (Below w.heap.size w w'))
 case atStart=>exact ⟨(y141),(0),(0),(by rfl),(by rfl),H',⟨Nat.le_refl _⟩,⟨by exact HO143.out⟩,⟨by exact HB.out⟩⟩
 case round=>
  clear H';obtain ⟨x5_1,x6_1,x7_1,rfl,rfl,HA,HK1,HO_5,HB⟩:=hrel
  cases gk with
  | zero=>exact absurd HA.out (by simp [spec_l3Split.l0])
  | succ k1=>
   have H:=HA.out;clear HA;simp only [spec_l3Split.l0] at H
   by_cases c5:x7_1 ≤ (a0.size:Int)
   ·rw [if_pos c5] at H;have c5b0:decide (x7_1 ≤ (a0.size:Int))=true:=decide_eq_true c5;clear c5
    by_cases c6:x7_1=(a0.size:Int)
    ·rw [if_pos c6] at H;have c6b0:(x7_1 == (a0.size:Int))=true:=beq_iff_eq.mpr c6;have c6b1:(x7_1 != (a0.size:Int))=false:=bne_eq_false_iff_eq.mpr c6;clear c6
     by_cases c7:0 ≤ x6_1
     ·rw [if_pos c7] at H;have c7b0:=eq_true c7;have c7b1:decide (0 ≤ x6_1)=true:=decide_eq_true c7;clear c7
      by_cases c8:x6_1 ≤ x7_1
      ·rw [if_pos c8] at H;have c8b0:=eq_true c8;have c8b1:decide (x6_1 ≤ x7_1)=true:=decide_eq_true c8;clear c8;have c9b0:=eq_true (of_decide_eq_true (by (with_reducible assumption)):x7_1 ≤ (a0.size:Int))
       by_cases c10:x5_1.length < 8796093022208
       ·rw [if_pos c10] at H;have LMc10:=a_ c10;clear c10;obtain ⟨y144,hy144⟩ : ∃ y_:List ByteArray,y_=(x5_1 ++ [a0.extract (x6_1:Int).toNat (x7_1:Int).toNat]):=⟨_,rfl⟩;replace H:(spec_l3Split.l0 k1 a0 a1 y144 (wrap64 (x7_1 + 1)) (wrap64 (x7_1 + 1)))=some r:=by (rw [hy144];with_reducible exact H)
        have Ny144:=a_ hy144;clear hy144;have H':=a_ H;clear H
        go_wp2_with (((with_reducible refine gate_builtin (b:=.append) (xs:=#[.tmp 26,.tmp 31]) rfl ?_);at_builtin;refine Kd.R_append Kd.string (w0:=w) w.heap.size rfl (.tmp 26) (.tmp 31) 88 9 (.string ⟨#[]⟩) 16 rfl Tryd.underlying88 info9 rfl (by decide) (by omega) u5 x5_1 (a0.extract (x6_1:Int).toNat (x7_1:Int).toNat) [.string (a0.extract (x6_1:Int).toNat (x7_1:Int).toNat)] (fun _=>True) (fun _=>False) rfl rfl ?aP (fun _ hk=>hk.elim) ?aF ?aO ?aB ?aS ?aL ?_;(case aP=>exact rfl);(case aB=>exact HB.out);(case aF=>exact (fun _ _=>trivial));(case aO=>exact (by exact HO_5.out));(case aS=>exact (below_size HB.out));(case aL=>have:=LMc10.out;omega);intro v145 w11 ho hb hg hat;rw [← Ny144.out] at ho;have n0_:=a_ (hb);have n1_:=a_ (ho);clear HB;clear HO_5;have HB:=n0_;have HO146:=n1_;clear n0_ n1_;clear ho hb hg hat))
        go_roundg k1
        case measure=>have:=HK1.out;omega
        case rel=>exact ⟨(y144),(wrap64 (x7_1 + 1)),(wrap64 (x7_1 + 1)),(by rfl),(by rfl),H',⟨by have:=HK1.out;omega⟩,⟨by exact HO146.out⟩,⟨by exact HB.out⟩⟩
       ·rw [if_neg c10] at H;exact absurd H (by simp)
      ·rw [if_neg c8] at H;exact absurd H (by simp)
     ·rw [if_neg c7] at H;exact absurd H (by simp)
    ·rw [if_neg c6] at H;have c6b0:(x7_1 == (a0.size:Int))=false:=beq_eq_false_iff_ne.mpr c6;have c6b1:(x7_1 != (a0.size:Int))=true:=bne_iff_ne.mpr c6
     by_cases c12:0 ≤ x7_1
     ·rw [if_pos c12] at H;have c12b0:decide (0 ≤ x7_1)=true:=decide_eq_true c12;clear c12
      by_cases c13:x7_1 < (a0.size:Int)
      ·rw [if_pos c13] at H;have c13b0:decide (x7_1 < (a0.size:Int))=true:=decide_eq_true c13;clear c13
       by_cases c15:(bt a0 x7_1)=a1
       ·rw [if_pos c15] at H;have c15b0:((bt a0 x7_1) == a1)=true:=beq_iff_eq.mpr c15;have c15b1:((bt a0 x7_1) != a1)=false:=bne_eq_false_iff_eq.mpr c15;clear c15
        by_cases c16:0 ≤ x6_1
        ·rw [if_pos c16] at H;have c16b0:=eq_true c16;have c16b1:decide (0 ≤ x6_1)=true:=decide_eq_true c16;clear c16
         by_cases c17:x6_1 ≤ x7_1
         ·rw [if_pos c17] at H;have c17b0:=eq_true c17;have c17b1:decide (x6_1 ≤ x7_1)=true:=decide_eq_true c17;clear c17;have c18b0:=eq_true (of_decide_eq_true (by (with_reducible assumption)):x7_1 ≤ (a0.size:Int))
          by_cases c19:x5_1.length < 8796093022208
          ·rw [if_pos c19] at H;have LMc19:=a_ c19;clear c19;obtain ⟨y147,hy147⟩ : ∃ y_:List ByteArray,y_=(x5_1 ++ [a0.extract (x6_1:Int).toNat (x7_1:Int).toNat]):=⟨_,rfl⟩;replace H:(spec_l3Split.l0 k1 a0 a1 y147 (wrap64 (x7_1 + 1)) (wrap64 (x7_1 + 1)))=some r:=by (rw [hy147];with_reducible exact H)
           have Ny147:=a_ hy147;clear hy147;have H':=a_ H;clear H;have p14:0 ≤ (x7_1:Int):=of_decide_eq_true (by (with_reducible assumption));have q14:x7_1 < (a0.size:Int):=of_decide_eq_true (by (with_reducible assumption));have hx14:=bt_at a0 x7_1;replace p14:=eq_true p14;replace q14:=eq_true q14
           go_wp2_with (((with_reducible refine gate_builtin (b:=.append) (xs:=#[.tmp 26,.tmp 31]) rfl ?_);at_builtin;refine Kd.R_append Kd.string (w0:=w) w.heap.size rfl (.tmp 26) (.tmp 31) 88 9 (.string ⟨#[]⟩) 16 rfl Tryd.underlying88 info9 rfl (by decide) (by omega) u5 x5_1 (a0.extract (x6_1:Int).toNat (x7_1:Int).toNat) [.string (a0.extract (x6_1:Int).toNat (x7_1:Int).toNat)] (fun _=>True) (fun _=>False) rfl rfl ?aP (fun _ hk=>hk.elim) ?aF ?aO ?aB ?aS ?aL ?_;(case aP=>exact rfl);(case aB=>exact HB.out);(case aF=>exact (fun _ _=>trivial));(case aO=>exact (by exact HO_5.out));(case aS=>exact (below_size HB.out));(case aL=>have:=LMc19.out;omega);intro v148 w20 ho hb hg hat;rw [← Ny147.out] at ho;have n0_:=a_ (hb);have n1_:=a_ (ho);clear HB;clear HO_5;have HB:=n0_;have HO149:=n1_;clear n0_ n1_;clear ho hb hg hat))
           go_roundg k1
           case measure=>have:=HK1.out;omega
           case rel=>exact ⟨(y147),(wrap64 (x7_1 + 1)),(wrap64 (x7_1 + 1)),(by rfl),(by rfl),H',⟨by have:=HK1.out;omega⟩,⟨by exact HO149.out⟩,⟨by exact HB.out⟩⟩
          ·rw [if_neg c19] at H;exact absurd H (by simp)
         ·rw [if_neg c17] at H;exact absurd H (by simp)
        ·rw [if_neg c16] at H;exact absurd H (by simp)
       ·rw [if_neg c15] at H;have c15b0:((bt a0 x7_1) == a1)=false:=beq_eq_false_iff_ne.mpr c15;have c15b1:((bt a0 x7_1) != a1)=true:=bne_iff_ne.mpr c15;have H':=a_ H;clear H;have p14:0 ≤ (x7_1:Int):=of_decide_eq_true (by (with_reducible assumption));have q14:x7_1 < (a0.size:Int):=of_decide_eq_true (by (with_reducible assumption));have hx14:=bt_at a0 x7_1;replace p14:=eq_true p14;replace q14:=eq_true q14
        go_wp2
        go_roundg k1
        case measure=>have:=HK1.out;omega
        case rel=>exact ⟨(x5_1),(x6_1),(wrap64 (x7_1 + 1)),(by rfl),(by rfl),H',⟨by have:=HK1.out;omega⟩,⟨by exact HO_5.out⟩,⟨by exact HB.out⟩⟩
      ·rw [if_neg c13] at H;exact absurd H (by simp)
     ·rw [if_neg c12] at H;exact absurd H (by simp)
   ·rw [if_neg c5] at H;have c5b0:decide (x7_1 ≤ (a0.size:Int))=false:=decide_eq_false c5;clear c5;obtain rfl:=Option.some.inj H
    go_wp2
    go_ret
    exact ⟨_,by rfl,by exact HO_5.out,by exact HB.out⟩
def spec_l1In.f (a0:Int) (a1:Int) (a2:Int):Option (Bool):=if a0 ≥ a1 then (some (decide (a0 ≤ a2))) else (some false)
set_option maxHeartbeats 8000000 in
set_option maxRecDepth 100000 in
theorem spec_l1In.calls (a0:Int) (a1:Int) (a2:Int) (r:Bool) (w:World) (h:spec_l1In.f a0 a1 a2=some r) :
 Calls Tryd.prog 88 #[.int .i64 a0,.int .i64 a1,.int .i64 a2] w fun e w'=>e = .returned (.bool r) ∧ Drawn0 w w':=by
 have H:(if a0 ≥ a1 then (some (decide (a0 ≤ a2))) else (some false))=some r:=h;clear h
 by_cases c4:a0 ≥ a1
 ·rw [if_pos c4] at H;have c4b0:decide (a1 ≤ a0)=true:=decide_eq_true c4;clear c4;obtain rfl:=Option.some.inj H
  go_enter Tryd.func88,Tryd.ntmps88
  go_wp2
  go_ret
  exact ⟨by rfl,by repeat (exact Drawn0.refl _)⟩
 ·rw [if_neg c4] at H;have c4b0:decide (a1 ≤ a0)=false:=decide_eq_false c4;clear c4;obtain rfl:=Option.some.inj H
  go_enter Tryd.func88,Tryd.ntmps88
  go_wp2
  go_ret
  exact ⟨by rfl,by repeat (exact Drawn0.refl _)⟩
end Go.Proofs.YtmkdeknpphimbaaDoor.PFnClosed
