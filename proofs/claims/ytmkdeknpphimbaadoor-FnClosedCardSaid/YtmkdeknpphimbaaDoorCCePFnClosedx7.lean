import Derived.Test.YtmkdeknpphimbaaDoorCCePFnClosedx0
import Derived.Test.YtmkdeknpphimbaaDoorCCePFnClosedx6
namespace Go.Proofs.YtmkdeknpphimbaaDoor.PFnClosed
open Go.RowKit Go.Proofs.YtmkdeknpphimbaaDoorW.PrintWords Go.Proofs.YtmkdeknpphimbaaDoorW.PrintLast Go.Proofs.YtmkdeknpphimbaaDoorW.PrintMore
attribute [local go_sem] max2_int min2_int max_two min_two max_three min_three max_four min_four
set_option linter.unusedVariables false
set_option linter.unusedSimpArgs false
def spec_LessVersion.j0:Nat → Bool → Int → Int → Int → ByteArray → Int → Int → Int → ByteArray → Option (Bool)
 | 0,_,_,_,_,_,_,_,_,_=>none
 | k + 1,x38,x166000,x166001,x166002,x166003,x167000,x167001,x167002,x167003=>if x38=true then (some false) else (if x167003.toList=([]:List UInt8) then (some true) else ((spec_l3LessPre.f k x166003 x167003).bind fun t167=>(some t167)))
def spec_LessVersion.f (k:Nat) (a0_0:Int) (a0_1:Int) (a0_2:Int) (a0_3:ByteArray) (a1_0:Int) (a1_1:Int) (a1_2:Int) (a1_3:ByteArray):Option (Bool):=if a0_0=a1_0 then (if a0_1=a1_1 then (if a0_2=a1_2 then (if a0_3.toList=a1_3.toList then (spec_LessVersion.j0 k true a0_0 a0_1 a0_2 a0_3 a1_0 a1_1 a1_2 a1_3) else (spec_LessVersion.j0 k (a0_3.toList == ([]:List UInt8)) a0_0 a0_1 a0_2 a0_3 a1_0 a1_1 a1_2 a1_3)) else (some (decide (a0_2 < a1_2)))) else (some (decide (a0_1 < a1_1)))) else (some (decide (a0_0 < a1_0)))
theorem spec_LessVersion.mono_l : ∀ k,(∀ y0 y1 y2 y3 y4 y5 y6 y7 y8,LeO (spec_LessVersion.j0 k y0 y1 y2 y3 y4 y5 y6 y7 y8) (spec_LessVersion.j0 (k + 1) y0 y1 y2 y3 y4 y5 y6 y7 y8))
 | 0=>fun _ _ _ _ _ _ _ _ _ r h=>by simp [spec_LessVersion.j0] at h
 | k + 1=>by
  have ih0:=spec_LessVersion.mono_l k
  ·intro y0 y1 y2 y3 y4 y5 y6 y7 y8;unfold spec_LessVersion.j0
   repeat' first
   | (with_reducible exact spec_l3LessPre.mono _ _ _)
   | (with_reducible exact LeO.refl _)
   | (with_reducible refine LeO.ite ?_ ?_)
   | (with_reducible refine LeO.bind ?_ (fun _=>?_))
theorem spec_LessVersion.mono : ∀ a0 a1 a2 a3 a4 a5 a6 a7 k,LeO (spec_LessVersion.f k a0 a1 a2 a3 a4 a5 a6 a7) (spec_LessVersion.f (k + 1) a0 a1 a2 a3 a4 a5 a6 a7):=by
 intro a0 a1 a2 a3 a4 a5 a6 a7 k;have ih0:=spec_LessVersion.mono_l k;unfold spec_LessVersion.f
 repeat' first
  | (with_reducible exact ih0 _ _ _ _ _ _ _ _ _)
  | (with_reducible exact LeO.refl _)
  | (with_reducible refine LeO.ite ?_ ?_)
set_option maxHeartbeats 8000000 in
set_option maxRecDepth 100000 in
theorem spec_LessVersion.calls (k:Nat) (a0_0:Int) (a0_1:Int) (a0_2:Int) (a0_3:ByteArray) (a1_0:Int) (a1_1:Int) (a1_2:Int) (a1_3:ByteArray) (r:Bool) (w:World) (h:spec_LessVersion.f k a0_0 a0_1 a0_2 a0_3 a1_0 a1_1 a1_2 a1_3=some r) :
 Calls Tryd.prog 23 #[.agg #[.int .i64 a0_0,.int .i64 a0_1,.int .i64 a0_2,.string a0_3],.agg #[.int .i64 a1_0,.int .i64 a1_1,.int .i64 a1_2,.string a1_3]] w fun e w'=>e = .returned (.bool r) ∧ Below w.heap.size w w':=by
 have hu33:=Tryd.underlying33;have HB:=a_ (Below.refl w.heap.size w);have H:(if a0_0=a1_0 then (if a0_1=a1_1 then (if a0_2=a1_2 then (if a0_3.toList=a1_3.toList then (spec_LessVersion.j0 k true a0_0 a0_1 a0_2 a0_3 a1_0 a1_1 a1_2 a1_3) else (spec_LessVersion.j0 k (a0_3.toList == ([]:List UInt8)) a0_0 a0_1 a0_2 a0_3 a1_0 a1_1 a1_2 a1_3)) else (some (decide (a0_2 < a1_2)))) else (some (decide (a0_1 < a1_1)))) else (some (decide (a0_0 < a1_0))))=some r:=h
 clear h
 by_cases c3:a0_0=a1_0
 ·rw [if_pos c3] at H;have c3b0:(a0_0 == a1_0)=true:=beq_iff_eq.mpr c3;have c3b1:(a0_0 != a1_0)=false:=bne_eq_false_iff_eq.mpr c3;clear c3
  by_cases c4:a0_1=a1_1
  ·rw [if_pos c4] at H;have c4b0:(a0_1 == a1_1)=true:=beq_iff_eq.mpr c4;have c4b1:(a0_1 != a1_1)=false:=bne_eq_false_iff_eq.mpr c4;clear c4
   by_cases c5:a0_2=a1_2
   ·rw [if_pos c5] at H;have c5b0:(a0_2 == a1_2)=true:=beq_iff_eq.mpr c5;have c5b1:(a0_2 != a1_2)=false:=bne_eq_false_iff_eq.mpr c5;clear c5;have HC6:=a_ H;clear H
    go_enter Tryd.func23,Tryd.ntmps23
    go_upto_region 7 with (first | ((with_reducible refine gate_dst (N:=2) rfl ?_);refine box_event ?hg (N:=2) ?hd (cs:=#[.int .i64 a0_0,.int .i64 a0_1,.int .i64 a0_2,.string a0_3]) (t:=33) ?hr ?_;(case hd=>rfl);(case hg=>rfl);(case hr=>(go_simp;done));intro gb165 hg w7 hbox hb;have n0_:=a_ (below_step HB.out hb);have n1_:=a_ (hbox);have n2_:=a_ ((by rw [hg];exact (below_size HB.out):w.heap.size ≤ gb165));have n3_:=a_ ((by rw [hg];exact (below_size HB.out):w.heap.size ≤ gb165));clear HB;have HB:=n0_;have BK165:=n1_;have GW165:=n2_;have GE165:=n3_;clear n0_ n1_ n2_ n3_;clear hb hbox hg) | ((with_reducible refine gate_dst (N:=3) rfl ?_);refine box_event ?hg (N:=3) ?hd (cs:=#[.int .i64 a1_0,.int .i64 a1_1,.int .i64 a1_2,.string a1_3]) (t:=33) ?hr ?_;(case hd=>rfl);(case hg=>rfl);(case hr=>(go_simp;done));intro gb166 hg w8 hbox hb;have n0_:=a_ (blk_below (g:=gb165) (o:=.cells #[.int .i64 a0_0,.int .i64 a0_1,.int .i64 a0_2,.string a0_3] 33 (0,0)) (by exact BK165.out) hb);have n1_:=a_ (below_step HB.out hb);have n2_:=a_ (hbox);have n3_:=a_ ((by rw [hg];exact (below_size HB.out):w.heap.size ≤ gb166));have n4_:=a_ ((by rw [hg];exact (below_size HB.out):w.heap.size ≤ gb166));have n5_:=a_ ((by rw [hg];exact Nat.ne_of_lt (blk_lt (g:=gb165) (o:=.cells #[.int .i64 a0_0,.int .i64 a0_1,.int .i64 a0_2,.string a0_3] 33 (0,0)) (by exact BK165.out)):gb165 ≠ gb166));have n6_:=a_ ((by rw [hg];exact Nat.ne_of_gt (blk_lt (g:=gb165) (o:=.cells #[.int .i64 a0_0,.int .i64 a0_1,.int .i64 a0_2,.string a0_3] 33 (0,0)) (by exact BK165.out)):gb166 ≠ gb165));clear BK165;clear HB;have BK165:=n0_;have HB:=n1_;have BK166:=n2_;have GW166:=n3_;have GE166:=n4_;have NB165_166:=n5_;have NB166_165:=n6_;clear n0_ n1_ n2_ n3_ n4_ n5_ n6_;clear hb hbox hg;have hnb9:=NB165_166.out;have hnc9:=NB166_165.out;have hcz10_0:w8.cell? ⟨gb165,0,none⟩=some (.int .i64 a0_0):=(blk_cell BK165.out 0).trans rfl;have hcz10_1:w8.cell? ⟨gb165,1,none⟩=some (.int .i64 a0_1):=(blk_cell BK165.out 1).trans rfl;have hcz10_2:w8.cell? ⟨gb165,2,none⟩=some (.int .i64 a0_2):=(blk_cell BK165.out 2).trans rfl;have hcz10_3:w8.cell? ⟨gb165,3,none⟩=some (.string a0_3):=(blk_cell BK165.out 3).trans rfl;have hfz10_0:=blk_frozen BK165.out 0;have hfz10_1:=blk_frozen BK165.out 1;have hfz10_2:=blk_frozen BK165.out 2;have hfz10_3:=blk_frozen BK165.out 3;have hcz11_0:w8.cell? ⟨gb166,0,none⟩=some (.int .i64 a1_0):=(blk_cell BK166.out 0).trans rfl;have hcz11_1:w8.cell? ⟨gb166,1,none⟩=some (.int .i64 a1_1):=(blk_cell BK166.out 1).trans rfl;have hcz11_2:w8.cell? ⟨gb166,2,none⟩=some (.int .i64 a1_2):=(blk_cell BK166.out 2).trans rfl;have hcz11_3:w8.cell? ⟨gb166,3,none⟩=some (.string a1_3):=(blk_cell BK166.out 3).trans rfl;have hfz11_0:=blk_frozen BK166.out 0;have hfz11_1:=blk_frozen BK166.out 1;have hfz11_2:=blk_frozen BK166.out 2;have hfz11_3:=blk_frozen BK166.out 3))
    (skip)
    go_cut [38] (fun v38 wc=>∃ (kq:Nat) (x38_5:Bool),v38 = .bool x38_5 ∧ Aside0 (spec_LessVersion.j0 kq x38_5 a0_0 a0_1 a0_2 a0_3 a1_0 a1_1 a1_2 a1_3=some r) ∧ Aside0 (kq ≤ k) ∧ Aside0 (wc.heap[gb165]? = some (.cells #[.int .i64 a0_0,.int .i64 a0_1,.int .i64 a0_2,.string a0_3] 33 (0,0))) ∧ Aside0 (wc.heap[gb166]? = some (.cells #[.int .i64 a1_0,.int .i64 a1_1,.int .i64 a1_2,.string a1_3] 33 (0,0))) ∧ Aside0 (Below w.heap.size w wc))
    case first=>
     have H:=HC6.out;clear HC6
     by_cases c12:a0_3.toList=a1_3.toList
     ·rw [if_pos c12] at H;have c12b0:(a0_3.toList == a1_3.toList)=true:=beq_iff_eq.mpr c12;have c12b1:(a0_3.toList != a1_3.toList)=false:=bne_eq_false_iff_eq.mpr c12;clear c12
      (skip)
      have H':=a_ H;clear H;have hnb13:=NB165_166.out;have hnc13:=NB166_165.out;have hcz14_0:w8.cell? ⟨gb165,0,none⟩=some (.int .i64 a0_0):=(blk_cell BK165.out 0).trans rfl;have hcz14_1:w8.cell? ⟨gb165,1,none⟩=some (.int .i64 a0_1):=(blk_cell BK165.out 1).trans rfl;have hcz14_2:w8.cell? ⟨gb165,2,none⟩=some (.int .i64 a0_2):=(blk_cell BK165.out 2).trans rfl;have hcz14_3:w8.cell? ⟨gb165,3,none⟩=some (.string a0_3):=(blk_cell BK165.out 3).trans rfl
      have hfz14_0:=blk_frozen BK165.out 0;have hfz14_1:=blk_frozen BK165.out 1;have hfz14_2:=blk_frozen BK165.out 2;have hfz14_3:=blk_frozen BK165.out 3;have hcz15_0:w8.cell? ⟨gb166,0,none⟩=some (.int .i64 a1_0):=(blk_cell BK166.out 0).trans rfl;have hcz15_1:w8.cell? ⟨gb166,1,none⟩=some (.int .i64 a1_1):=(blk_cell BK166.out 1).trans rfl;have hcz15_2:w8.cell? ⟨gb166,2,none⟩=some (.int .i64 a1_2):=(blk_cell BK166.out 2).trans rfl
      have hcz15_3:w8.cell? ⟨gb166,3,none⟩=some (.string a1_3):=(blk_cell BK166.out 3).trans rfl;have hfz15_0:=blk_frozen BK166.out 0;have hfz15_1:=blk_frozen BK166.out 1;have hfz15_2:=blk_frozen BK166.out 2;have hfz15_3:=blk_frozen BK166.out 3
      go_wp2
      go_meet
      case rel=>exact ⟨_,(true),(by rfl),H',⟨by omega⟩,⟨by exact BK165.out⟩,⟨by exact BK166.out⟩,⟨by exact HB.out⟩⟩
     ·rw [if_neg c12] at H;have c12b0:(a0_3.toList == a1_3.toList)=false:=beq_eq_false_iff_ne.mpr c12;have c12b1:(a0_3.toList != a1_3.toList)=true:=bne_iff_ne.mpr c12
      (skip)
      have H':=a_ H;clear H;have hnb16:=NB165_166.out;have hnc16:=NB166_165.out;have hcz17_0:w8.cell? ⟨gb165,0,none⟩=some (.int .i64 a0_0):=(blk_cell BK165.out 0).trans rfl;have hcz17_1:w8.cell? ⟨gb165,1,none⟩=some (.int .i64 a0_1):=(blk_cell BK165.out 1).trans rfl;have hcz17_2:w8.cell? ⟨gb165,2,none⟩=some (.int .i64 a0_2):=(blk_cell BK165.out 2).trans rfl;have hcz17_3:w8.cell? ⟨gb165,3,none⟩=some (.string a0_3):=(blk_cell BK165.out 3).trans rfl
      have hfz17_0:=blk_frozen BK165.out 0;have hfz17_1:=blk_frozen BK165.out 1;have hfz17_2:=blk_frozen BK165.out 2;have hfz17_3:=blk_frozen BK165.out 3;have hcz18_0:w8.cell? ⟨gb166,0,none⟩=some (.int .i64 a1_0):=(blk_cell BK166.out 0).trans rfl;have hcz18_1:w8.cell? ⟨gb166,1,none⟩=some (.int .i64 a1_1):=(blk_cell BK166.out 1).trans rfl;have hcz18_2:w8.cell? ⟨gb166,2,none⟩=some (.int .i64 a1_2):=(blk_cell BK166.out 2).trans rfl
      have hcz18_3:w8.cell? ⟨gb166,3,none⟩=some (.string a1_3):=(blk_cell BK166.out 3).trans rfl;have hfz18_0:=blk_frozen BK166.out 0;have hfz18_1:=blk_frozen BK166.out 1;have hfz18_2:=blk_frozen BK166.out 2;have hfz18_3:=blk_frozen BK166.out 3
      go_wp2
      go_meet
      case rel=>exact ⟨_,((a0_3.toList == ([]:List UInt8))),(by (simp;done)),H',⟨by omega⟩,⟨by exact BK165.out⟩,⟨by exact BK166.out⟩,⟨by exact HB.out⟩⟩
    case rest=>
     clear HC6
     try clear c3b0
     try clear c3b1
     try clear c4b0
     try clear c4b1
     try clear c5b0
     try clear c5b1
     try clear hcz10_0
     try clear hcz10_1
     try clear hcz10_2
     try clear hcz10_3
     try clear hcz11_0
     try clear hcz11_1
     try clear hcz11_2
     try clear hcz11_3
     try clear hfz10_0
     try clear hfz10_1
     try clear hfz10_2
     try clear hfz10_3
     try clear hfz11_0
     try clear hfz11_1
     try clear hfz11_2
     try clear hfz11_3
     obtain ⟨kq,x38_5,rfl,HA,HJ5,BK165,BK166,HB⟩:=hcut
     cases kq with
     | zero=>exact absurd HA.out (by simp [spec_LessVersion.j0])
     | succ kj5=>
      have H:=HA.out;clear HA;simp only [spec_LessVersion.j0] at H
      by_cases c19:x38_5=true
      ·subst c19;have H1:(some false)=some r:=by rw [if_pos rfl] at H;exact H
       clear H;have H:=H1;clear H1;obtain rfl:=Option.some.inj H
       go_wp2
       go_ret
       exact ⟨by rfl,by exact HB.out⟩
      ·replace c19:=Bool.eq_false_iff.mpr c19;subst c19;have H1:(if a1_3.toList=([]:List UInt8) then (some true) else ((spec_l3LessPre.f kj5 a0_3 a1_3).bind fun t167=>(some t167)))=some r:=by rw [if_neg (show ¬ (false=true) by decide)] at H;exact H
       clear H;have H:=H1;clear H1
       by_cases c20:a1_3.toList=([]:List UInt8)
       ·rw [if_pos c20] at H;have c20b0:(a1_3.toList == ([]:List UInt8))=true:=beq_iff_eq.mpr c20;have c20b1:(a1_3.toList != ([]:List UInt8))=false:=bne_eq_false_iff_eq.mpr c20;clear c20;obtain rfl:=Option.some.inj H;have hnb21:=NB166_165.out;have hnc21:=NB165_166.out;have hcz22_0:wc.cell? ⟨gb166,0,none⟩=some (.int .i64 a1_0):=(blk_cell BK166.out 0).trans rfl;have hcz22_1:wc.cell? ⟨gb166,1,none⟩=some (.int .i64 a1_1):=(blk_cell BK166.out 1).trans rfl
        have hcz22_2:wc.cell? ⟨gb166,2,none⟩=some (.int .i64 a1_2):=(blk_cell BK166.out 2).trans rfl;have hcz22_3:wc.cell? ⟨gb166,3,none⟩=some (.string a1_3):=(blk_cell BK166.out 3).trans rfl;have hfz22_0:=blk_frozen BK166.out 0;have hfz22_1:=blk_frozen BK166.out 1;have hfz22_2:=blk_frozen BK166.out 2;have hfz22_3:=blk_frozen BK166.out 3
        go_wp2
        go_ret
        exact ⟨by rfl,by exact HB.out⟩
       ·rw [if_neg c20] at H;have c20b0:(a1_3.toList == ([]:List UInt8))=false:=beq_eq_false_iff_ne.mpr c20;have c20b1:(a1_3.toList != ([]:List UInt8))=true:=bne_iff_ne.mpr c20;replace H:=Option.bind_eq_some_iff.mp H;obtain ⟨t167,A230,H⟩:=H;replace H:(some t167)=some r:=H;have A23:=a_ A230;clear A230;obtain rfl:=Option.some.inj H;have hnb24:=NB166_165.out;have hnc24:=NB165_166.out;have hcz25_0:wc.cell? ⟨gb166,0,none⟩=some (.int .i64 a1_0):=(blk_cell BK166.out 0).trans rfl
        have hcz25_1:wc.cell? ⟨gb166,1,none⟩=some (.int .i64 a1_1):=(blk_cell BK166.out 1).trans rfl;have hcz25_2:wc.cell? ⟨gb166,2,none⟩=some (.int .i64 a1_2):=(blk_cell BK166.out 2).trans rfl;have hcz25_3:wc.cell? ⟨gb166,3,none⟩=some (.string a1_3):=(blk_cell BK166.out 3).trans rfl;have hfz25_0:=blk_frozen BK166.out 0;have hfz25_1:=blk_frozen BK166.out 1;have hfz25_2:=blk_frozen BK166.out 2;have hfz25_3:=blk_frozen BK166.out 3
        have hcz26_0:wc.cell? ⟨gb165,0,none⟩=some (.int .i64 a0_0):=(blk_cell BK165.out 0).trans rfl;have hcz26_1:wc.cell? ⟨gb165,1,none⟩=some (.int .i64 a0_1):=(blk_cell BK165.out 1).trans rfl;have hcz26_2:wc.cell? ⟨gb165,2,none⟩=some (.int .i64 a0_2):=(blk_cell BK165.out 2).trans rfl;have hcz26_3:wc.cell? ⟨gb165,3,none⟩=some (.string a0_3):=(blk_cell BK165.out 3).trans rfl;have hfz26_0:=blk_frozen BK165.out 0
        have hfz26_1:=blk_frozen BK165.out 1;have hfz26_2:=blk_frozen BK165.out 2;have hfz26_3:=blk_frozen BK165.out 3
        go_wp2_with (((with_reducible refine gate_callee (f:=44) rfl ?_);refine goesL_ (some 57) rfl rfl Tryd.func44 (by kernel_rfl) rfl #[.string a0_3,.string a1_3] rfl (by (try simp only [List.map_toArray,List.map_cons,List.map_nil]);rfl) ?_;(with_reducible refine (spec_l3LessPre.calls kj5 a0_3 a1_3 t167 _ A23.out).mono ?_);rintro e w27 ⟨rfl,hb⟩;refine ⟨_,rfl,?_⟩;have n0_:=a_ (blk_below (g:=gb165) (o:=.cells #[.int .i64 a0_0,.int .i64 a0_1,.int .i64 a0_2,.string a0_3] 33 (0,0)) (by exact BK165.out) hb);have n1_:=a_ (blk_below (g:=gb166) (o:=.cells #[.int .i64 a1_0,.int .i64 a1_1,.int .i64 a1_2,.string a1_3] 33 (0,0)) (by exact BK166.out) hb);have n2_:=a_ (below_step HB.out hb);clear BK165;clear BK166;clear HB;have BK165:=n0_;have BK166:=n1_;have HB:=n2_;clear n0_ n1_ n2_;(try clear hb)))
        go_ret
        exact ⟨by rfl,by exact HB.out⟩
   ·rw [if_neg c5] at H;have c5b0:(a0_2 == a1_2)=false:=beq_eq_false_iff_ne.mpr c5;have c5b1:(a0_2 != a1_2)=true:=bne_iff_ne.mpr c5;obtain rfl:=Option.some.inj H
    go_enter Tryd.func23,Tryd.ntmps23
    go_wp2_with (first | ((with_reducible refine gate_dst (N:=2) rfl ?_);refine box_event ?hg (N:=2) ?hd (cs:=#[.int .i64 a0_0,.int .i64 a0_1,.int .i64 a0_2,.string a0_3]) (t:=33) ?hr ?_;(case hd=>rfl);(case hg=>rfl);(case hr=>(go_simp;done));intro gb165 hg w28 hbox hb;have n0_:=a_ (below_step HB.out hb);have n1_:=a_ (hbox);have n2_:=a_ ((by rw [hg];exact (below_size HB.out):w.heap.size ≤ gb165));have n3_:=a_ ((by rw [hg];exact (below_size HB.out):w.heap.size ≤ gb165));clear HB;have HB:=n0_;have BK165:=n1_;have GW165:=n2_;have GE165:=n3_;clear n0_ n1_ n2_ n3_;clear hb hbox hg) | ((with_reducible refine gate_dst (N:=3) rfl ?_);refine box_event ?hg (N:=3) ?hd (cs:=#[.int .i64 a1_0,.int .i64 a1_1,.int .i64 a1_2,.string a1_3]) (t:=33) ?hr ?_;(case hd=>rfl);(case hg=>rfl);(case hr=>(go_simp;done));intro gb166 hg w29 hbox hb;have n0_:=a_ (blk_below (g:=gb165) (o:=.cells #[.int .i64 a0_0,.int .i64 a0_1,.int .i64 a0_2,.string a0_3] 33 (0,0)) (by exact BK165.out) hb);have n1_:=a_ (below_step HB.out hb);have n2_:=a_ (hbox);have n3_:=a_ ((by rw [hg];exact (below_size HB.out):w.heap.size ≤ gb166));have n4_:=a_ ((by rw [hg];exact (below_size HB.out):w.heap.size ≤ gb166));have n5_:=a_ ((by rw [hg];exact Nat.ne_of_lt (blk_lt (g:=gb165) (o:=.cells #[.int .i64 a0_0,.int .i64 a0_1,.int .i64 a0_2,.string a0_3] 33 (0,0)) (by exact BK165.out)):gb165 ≠ gb166));have n6_:=a_ ((by rw [hg];exact Nat.ne_of_gt (blk_lt (g:=gb165) (o:=.cells #[.int .i64 a0_0,.int .i64 a0_1,.int .i64 a0_2,.string a0_3] 33 (0,0)) (by exact BK165.out)):gb166 ≠ gb165));clear BK165;clear HB;have BK165:=n0_;have HB:=n1_;have BK166:=n2_;have GW166:=n3_;have GE166:=n4_;have NB165_166:=n5_;have NB166_165:=n6_;clear n0_ n1_ n2_ n3_ n4_ n5_ n6_;clear hb hbox hg;have hnb30:=NB165_166.out;have hnc30:=NB166_165.out;have hcz31_0:w29.cell? ⟨gb165,0,none⟩=some (.int .i64 a0_0):=(blk_cell BK165.out 0).trans rfl;have hcz31_1:w29.cell? ⟨gb165,1,none⟩=some (.int .i64 a0_1):=(blk_cell BK165.out 1).trans rfl;have hcz31_2:w29.cell? ⟨gb165,2,none⟩=some (.int .i64 a0_2):=(blk_cell BK165.out 2).trans rfl;have hcz31_3:w29.cell? ⟨gb165,3,none⟩=some (.string a0_3):=(blk_cell BK165.out 3).trans rfl;have hfz31_0:=blk_frozen BK165.out 0;have hfz31_1:=blk_frozen BK165.out 1;have hfz31_2:=blk_frozen BK165.out 2;have hfz31_3:=blk_frozen BK165.out 3;have hcz32_0:w29.cell? ⟨gb166,0,none⟩=some (.int .i64 a1_0):=(blk_cell BK166.out 0).trans rfl;have hcz32_1:w29.cell? ⟨gb166,1,none⟩=some (.int .i64 a1_1):=(blk_cell BK166.out 1).trans rfl;have hcz32_2:w29.cell? ⟨gb166,2,none⟩=some (.int .i64 a1_2):=(blk_cell BK166.out 2).trans rfl;have hcz32_3:w29.cell? ⟨gb166,3,none⟩=some (.string a1_3):=(blk_cell BK166.out 3).trans rfl;have hfz32_0:=blk_frozen BK166.out 0;have hfz32_1:=blk_frozen BK166.out 1;have hfz32_2:=blk_frozen BK166.out 2;have hfz32_3:=blk_frozen BK166.out 3))
    go_ret
    exact ⟨by rfl,by exact HB.out⟩
  ·rw [if_neg c4] at H;have c4b0:(a0_1 == a1_1)=false:=beq_eq_false_iff_ne.mpr c4;have c4b1:(a0_1 != a1_1)=true:=bne_iff_ne.mpr c4;obtain rfl:=Option.some.inj H
   go_enter Tryd.func23,Tryd.ntmps23
   go_wp2_with (first | ((with_reducible refine gate_dst (N:=2) rfl ?_);refine box_event ?hg (N:=2) ?hd (cs:=#[.int .i64 a0_0,.int .i64 a0_1,.int .i64 a0_2,.string a0_3]) (t:=33) ?hr ?_;(case hd=>rfl);(case hg=>rfl);(case hr=>(go_simp;done));intro gb165 hg w33 hbox hb;have n0_:=a_ (below_step HB.out hb);have n1_:=a_ (hbox);have n2_:=a_ ((by rw [hg];exact (below_size HB.out):w.heap.size ≤ gb165));have n3_:=a_ ((by rw [hg];exact (below_size HB.out):w.heap.size ≤ gb165));clear HB;have HB:=n0_;have BK165:=n1_;have GW165:=n2_;have GE165:=n3_;clear n0_ n1_ n2_ n3_;clear hb hbox hg) | ((with_reducible refine gate_dst (N:=3) rfl ?_);refine box_event ?hg (N:=3) ?hd (cs:=#[.int .i64 a1_0,.int .i64 a1_1,.int .i64 a1_2,.string a1_3]) (t:=33) ?hr ?_;(case hd=>rfl);(case hg=>rfl);(case hr=>(go_simp;done));intro gb166 hg w34 hbox hb;have n0_:=a_ (blk_below (g:=gb165) (o:=.cells #[.int .i64 a0_0,.int .i64 a0_1,.int .i64 a0_2,.string a0_3] 33 (0,0)) (by exact BK165.out) hb);have n1_:=a_ (below_step HB.out hb);have n2_:=a_ (hbox);have n3_:=a_ ((by rw [hg];exact (below_size HB.out):w.heap.size ≤ gb166));have n4_:=a_ ((by rw [hg];exact (below_size HB.out):w.heap.size ≤ gb166));have n5_:=a_ ((by rw [hg];exact Nat.ne_of_lt (blk_lt (g:=gb165) (o:=.cells #[.int .i64 a0_0,.int .i64 a0_1,.int .i64 a0_2,.string a0_3] 33 (0,0)) (by exact BK165.out)):gb165 ≠ gb166));have n6_:=a_ ((by rw [hg];exact Nat.ne_of_gt (blk_lt (g:=gb165) (o:=.cells #[.int .i64 a0_0,.int .i64 a0_1,.int .i64 a0_2,.string a0_3] 33 (0,0)) (by exact BK165.out)):gb166 ≠ gb165));clear BK165;clear HB;have BK165:=n0_;have HB:=n1_;have BK166:=n2_;have GW166:=n3_;have GE166:=n4_;have NB165_166:=n5_;have NB166_165:=n6_;clear n0_ n1_ n2_ n3_ n4_ n5_ n6_;clear hb hbox hg;have hnb35:=NB165_166.out;have hnc35:=NB166_165.out;have hcz36_0:w34.cell? ⟨gb165,0,none⟩=some (.int .i64 a0_0):=(blk_cell BK165.out 0).trans rfl;have hcz36_1:w34.cell? ⟨gb165,1,none⟩=some (.int .i64 a0_1):=(blk_cell BK165.out 1).trans rfl;have hcz36_2:w34.cell? ⟨gb165,2,none⟩=some (.int .i64 a0_2):=(blk_cell BK165.out 2).trans rfl;have hcz36_3:w34.cell? ⟨gb165,3,none⟩=some (.string a0_3):=(blk_cell BK165.out 3).trans rfl;have hfz36_0:=blk_frozen BK165.out 0;have hfz36_1:=blk_frozen BK165.out 1;have hfz36_2:=blk_frozen BK165.out 2;have hfz36_3:=blk_frozen BK165.out 3;have hcz37_0:w34.cell? ⟨gb166,0,none⟩=some (.int .i64 a1_0):=(blk_cell BK166.out 0).trans rfl;have hcz37_1:w34.cell? ⟨gb166,1,none⟩=some (.int .i64 a1_1):=(blk_cell BK166.out 1).trans rfl;have hcz37_2:w34.cell? ⟨gb166,2,none⟩=some (.int .i64 a1_2):=(blk_cell BK166.out 2).trans rfl;have hcz37_3:w34.cell? ⟨gb166,3,none⟩=some (.string a1_3):=(blk_cell BK166.out 3).trans rfl;have hfz37_0:=blk_frozen BK166.out 0;have hfz37_1:=blk_frozen BK166.out 1;have hfz37_2:=blk_frozen BK166.out 2;have hfz37_3:=blk_frozen BK166.out 3))
   go_ret
   exact ⟨by rfl,by exact HB.out⟩
 ·rw [if_neg c3] at H;have c3b0:(a0_0 == a1_0)=false:=beq_eq_false_iff_ne.mpr c3;have c3b1:(a0_0 != a1_0)=true:=bne_iff_ne.mpr c3;obtain rfl:=Option.some.inj H
  go_enter Tryd.func23,Tryd.ntmps23
  go_wp2_with (first | ((with_reducible refine gate_dst (N:=2) rfl ?_);refine box_event ?hg (N:=2) ?hd (cs:=#[.int .i64 a0_0,.int .i64 a0_1,.int .i64 a0_2,.string a0_3]) (t:=33) ?hr ?_;(case hd=>rfl);(case hg=>rfl);(case hr=>(go_simp;done));intro gb165 hg w38 hbox hb;have n0_:=a_ (below_step HB.out hb);have n1_:=a_ (hbox);have n2_:=a_ ((by rw [hg];exact (below_size HB.out):w.heap.size ≤ gb165));have n3_:=a_ ((by rw [hg];exact (below_size HB.out):w.heap.size ≤ gb165));clear HB;have HB:=n0_;have BK165:=n1_;have GW165:=n2_;have GE165:=n3_;clear n0_ n1_ n2_ n3_;clear hb hbox hg) | ((with_reducible refine gate_dst (N:=3) rfl ?_);refine box_event ?hg (N:=3) ?hd (cs:=#[.int .i64 a1_0,.int .i64 a1_1,.int .i64 a1_2,.string a1_3]) (t:=33) ?hr ?_;(case hd=>rfl);(case hg=>rfl);(case hr=>(go_simp;done));intro gb166 hg w39 hbox hb;have n0_:=a_ (blk_below (g:=gb165) (o:=.cells #[.int .i64 a0_0,.int .i64 a0_1,.int .i64 a0_2,.string a0_3] 33 (0,0)) (by exact BK165.out) hb);have n1_:=a_ (below_step HB.out hb);have n2_:=a_ (hbox);have n3_:=a_ ((by rw [hg];exact (below_size HB.out):w.heap.size ≤ gb166));have n4_:=a_ ((by rw [hg];exact (below_size HB.out):w.heap.size ≤ gb166));have n5_:=a_ ((by rw [hg];exact Nat.ne_of_lt (blk_lt (g:=gb165) (o:=.cells #[.int .i64 a0_0,.int .i64 a0_1,.int .i64 a0_2,.string a0_3] 33 (0,0)) (by exact BK165.out)):gb165 ≠ gb166));have n6_:=a_ ((by rw [hg];exact Nat.ne_of_gt (blk_lt (g:=gb165) (o:=.cells #[.int .i64 a0_0,.int .i64 a0_1,.int .i64 a0_2,.string a0_3] 33 (0,0)) (by exact BK165.out)):gb166 ≠ gb165));clear BK165;clear HB;have BK165:=n0_;have HB:=n1_;have BK166:=n2_;have GW166:=n3_;have GE166:=n4_;have NB165_166:=n5_;have NB166_165:=n6_;clear n0_ n1_ n2_ n3_ n4_ n5_ n6_;clear hb hbox hg;have hnb40:=NB165_166.out;have hnc40:=NB166_165.out;have hcz41_0:w39.cell? ⟨gb165,0,none⟩=some (.int .i64 a0_0):=(blk_cell BK165.out 0).trans rfl;have hcz41_1:w39.cell? ⟨gb165,1,none⟩=some (.int .i64 a0_1):=(blk_cell BK165.out 1).trans rfl;have hcz41_2:w39.cell? ⟨gb165,2,none⟩=some (.int .i64 a0_2):=(blk_cell BK165.out 2).trans rfl;have hcz41_3:w39.cell? ⟨gb165,3,none⟩=some (.string a0_3):=(blk_cell BK165.out 3).trans rfl;have hfz41_0:=blk_frozen BK165.out 0;have hfz41_1:=blk_frozen BK165.out 1;have hfz41_2:=blk_frozen BK165.out 2;have hfz41_3:=blk_frozen BK165.out 3;have hcz42_0:w39.cell? ⟨gb166,0,none⟩=some (.int .i64 a1_0):=(blk_cell BK166.out 0).trans rfl;have hcz42_1:w39.cell? ⟨gb166,1,none⟩=some (.int .i64 a1_1):=(blk_cell BK166.out 1).trans rfl;have hcz42_2:w39.cell? ⟨gb166,2,none⟩=some (.int .i64 a1_2):=(blk_cell BK166.out 2).trans rfl;have hcz42_3:w39.cell? ⟨gb166,3,none⟩=some (.string a1_3):=(blk_cell BK166.out 3).trans rfl;have hfz42_0:=blk_frozen BK166.out 0;have hfz42_1:=blk_frozen BK166.out 1;have hfz42_2:=blk_frozen BK166.out 2;have hfz42_3:=blk_frozen BK166.out 3))
  go_ret
  exact ⟨by rfl,by exact HB.out⟩
end Go.Proofs.YtmkdeknpphimbaaDoor.PFnClosed
