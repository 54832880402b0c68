import Derived.Test.YtfpdikledfhcaaaGreatDoorCCaPFnExactClientOkx0
import Derived.Test.YtfpdikledfhcaaaGreatDoorCCaPFnExactClientOkx7
namespace Go.Proofs.YtfpdikledfhcaaaGreatDoor.PFnExactClientOk
open Go.RowKit Go.Proofs.YtfpdikledfhcaaaGreatDoorW.PrintWords Go.Proofs.YtfpdikledfhcaaaGreatDoorW.PrintLast Go.Proofs.YtfpdikledfhcaaaGreatDoorW.PrintMore
attribute [local go_sem] max2_int min2_int max_two min_two max_three min_three max_four min_four
set_option linter.unusedVariables false
set_option linter.unusedSimpArgs false
def spec_l18Entries.l0:Nat → List (S54) → Int → Option (Bool)
 | 0,_,_=>none
 | k + 1,x0,x3=>if x3 < (x0.length:Int) then (if 0 ≤ x3 then ((spec_EntryOk.f k ((rd_T54 x0 x3).f0) ((rd_T54 x0 x3).f1.f0) ((rd_T54 x0 x3).f1.f1) ((rd_T54 x0 x3).f1.f2) ((rd_T54 x0 x3).f1.f3) ((rd_T54 x0 x3).f2)).bind fun t179=>(if t179=true then (if x3 ≤ (x0.length:Int) then ((spec_l15At.f k (x0.take (x3:Int).toNat) ((rd_T54 x0 x3).f0) ((rd_T54 x0 x3).f1.f0) ((rd_T54 x0 x3).f1.f1) ((rd_T54 x0 x3).f1.f2) ((rd_T54 x0 x3).f1.f3)).bind fun t186=>(if t186 ≥ 0 then (some false) else (spec_l18Entries.l0 k x0 (wrap64 (x3 + 1))))) else (none)) else (some false))) else (none)) else (some (decide ((x0.length:Int) ≤ 60)))
def spec_l18Entries.f (k:Nat) (l0:List (S54)):Option (Bool):=spec_l18Entries.l0 k l0 0
theorem spec_l18Entries.mono_l : ∀ k,(∀ y0 y1,LeO (spec_l18Entries.l0 k y0 y1) (spec_l18Entries.l0 (k + 1) y0 y1))
 | 0=>fun _ _ r h=>by simp [spec_l18Entries.l0] at h
 | k + 1=>by
  have ih0:=spec_l18Entries.mono_l k
  ·intro y0 y1;unfold spec_l18Entries.l0
   repeat' first
   | (with_reducible exact ih0 _ _)
   | (with_reducible exact spec_EntryOk.mono _ _ _ _ _ _ _)
   | (with_reducible exact spec_l15At.mono _ _ _ _ _ _ _)
   | (with_reducible exact LeO.refl _)
   | (with_reducible refine LeO.ite ?_ ?_)
   | (with_reducible refine LeO.bind ?_ (fun _=>?_))
theorem spec_l18Entries.mono : ∀ a0 k,LeO (spec_l18Entries.f k a0) (spec_l18Entries.f (k + 1) a0):=by
 intro a0 k;have ih0:=spec_l18Entries.mono_l k;unfold spec_l18Entries.f
 repeat' (with_reducible exact ih0 _ _)
def spec_l18Entries.T4:Bool × List (List Nat × List Nat):=(true,[([],[]),([],[]),([0,1],[0,1]),([2],[2]),([3],[3]),([4],[4]),([5,4],[5]),([6],[6]),([6],[6]),([7,8,6],[6,7,8]),([6],[6]),([6],[6]),([10,11,6],[6,10,11]),([12,6],[6,12]),([13,6],[6,13]),([6],[6]),([6],[6]),([15,16,6],[6,15,16]),([17,6],[6,17]),([18,6],[6,18]),([9,14,19,6,6],[6,9,14,19]),([20,6],[6,20]),([6,21],[6,21])])
def spec_l18Entries.B4:List Nat:=[0,0,3,7,15,31,63,127,127,511,127,127,3199,7295,15487,127,127,98431,229503,491647,1048575,2097151,4194303]
theorem spec_l18Entries.tab4:rtab .any (opsOf Tryz.f74 4)=spec_l18Entries.T4:=by kernel_rfl
theorem spec_l18Entries.bits4:waitsOk spec_l18Entries.T4.2 spec_l18Entries.B4=true:=by kernel_rfl
set_option maxHeartbeats 8000000 in
set_option maxRecDepth 100000 in
theorem spec_l18Entries.calls (k:Nat) (A0:Option Addr) (c0:Nat) (l0:List (S54)) (r:Bool) (w:World) (hr0:Kd.C k54 w A0 l0.length l0) (hc0:l0.length ≤ c0) (h:spec_l18Entries.f k l0=some r) :
 Calls Tryz.prog 74 #[.slice A0 l0.length c0] w fun e w'=>e = .returned (.bool r) ∧ Below w.heap.size w w':=by
 have hu54:=Tryz.underlying54;have hu52:=Tryz.underlying52;have HR0:=a_ hr0;have HC0:=a_ hc0;clear hr0 hc0;have HB:=a_ (Below.refl w.heap.size w);have H:(spec_l18Entries.l0 k l0 0)=some r:=h;clear h;have H':=a_ H;clear H
 go_enter Tryz.func74,Tryz.ntmps74
 go_wp2
 go_loopg [3] k (fun kq v3 w'=>∃ (x3_1:Int),v3 = .int .i64 x3_1 ∧ Aside0 (spec_l18Entries.l0 kq l0 x3_1=some r) ∧ Aside0 (kq ≤ k) ∧ Aside0 (Below w.heap.size w w'))
 case atStart=>exact ⟨(0),(by rfl),H',⟨Nat.le_refl _⟩,⟨by exact HB.out⟩⟩
 case round=>
  clear H';obtain ⟨x3_1,rfl,HA,HK1,HB⟩:=hrel
  cases gk with
  | zero=>exact absurd HA.out (by simp [spec_l18Entries.l0])
  | succ k1=>
   have H:=HA.out;clear HA;simp only [spec_l18Entries.l0] at H
   by_cases c2:x3_1 < (l0.length:Int)
   ·rw [if_pos c2] at H;have c2b0:decide (x3_1 < (l0.length:Int))=true:=decide_eq_true c2;clear c2
    by_cases c3:0 ≤ x3_1
    ·rw [if_pos c3] at H;have c3b0:decide (0 ≤ x3_1)=true:=decide_eq_true c3;clear c3;replace H:=Option.bind_eq_some_iff.mp H;obtain ⟨t179,A40,H⟩:=H;replace H:(if t179=true then (if x3_1 ≤ (l0.length:Int) then ((spec_l15At.f k1 (l0.take (x3_1:Int).toNat) ((rd_T54 l0 x3_1).f0) ((rd_T54 l0 x3_1).f1.f0) ((rd_T54 l0 x3_1).f1.f1) ((rd_T54 l0 x3_1).f1.f2) ((rd_T54 l0 x3_1).f1.f3)).bind fun t186=>(if t186 ≥ 0 then (some false) else (spec_l18Entries.l0 k1 l0 (wrap64 (x3_1 + 1))))) else (none)) else (some false))=some r:=H
     have A4:=a_ A40;clear A40
     by_cases c5:t179=true
     ·subst c5;have H1:(if x3_1 ≤ (l0.length:Int) then ((spec_l15At.f k1 (l0.take (x3_1:Int).toNat) ((rd_T54 l0 x3_1).f0) ((rd_T54 l0 x3_1).f1.f0) ((rd_T54 l0 x3_1).f1.f1) ((rd_T54 l0 x3_1).f1.f2) ((rd_T54 l0 x3_1).f1.f3)).bind fun t186=>(if t186 ≥ 0 then (some false) else (spec_l18Entries.l0 k1 l0 (wrap64 (x3_1 + 1))))) else (none))=some r:=by rw [if_pos rfl] at H;exact H
      clear H;have H:=H1;clear H1;have c6b0:=eq_true (of_decide_eq_true (by (with_reducible assumption)):0 ≤ x3_1)
      by_cases c7:x3_1 ≤ (l0.length:Int)
      ·rw [if_pos c7] at H;have c7b0:=eq_true c7;have c7b1:decide (x3_1 ≤ (l0.length:Int))=true:=decide_eq_true c7;clear c7;obtain ⟨y180,hy180⟩ : ∃ y_:List (S54),y_=(l0.take (x3_1:Int).toNat):=⟨_,rfl⟩;replace H:((spec_l15At.f k1 y180 ((rd_T54 l0 x3_1).f0) ((rd_T54 l0 x3_1).f1.f0) ((rd_T54 l0 x3_1).f1.f1) ((rd_T54 l0 x3_1).f1.f2) ((rd_T54 l0 x3_1).f1.f3)).bind fun t186=>(if t186 ≥ 0 then (some false) else (spec_l18Entries.l0 k1 l0 (wrap64 (x3_1 + 1)))))=some r:=by (rw [hy180];with_reducible exact H)
       have Ny180:=a_ hy180;clear hy180;replace H:=Option.bind_eq_some_iff.mp H;obtain ⟨t186,A80,H⟩:=H;replace H:(if t186 ≥ 0 then (some false) else (spec_l18Entries.l0 k1 l0 (wrap64 (x3_1 + 1))))=some r:=H;have A8:=a_ A80;clear A80
       by_cases c9:t186 ≥ 0
       ·rw [if_pos c9] at H;have c9b0:decide (0 ≤ t186)=true:=decide_eq_true c9;clear c9;obtain rfl:=Option.some.inj H
        try go_wp2
        have n0_:=a_ (below_drew1 HB.out);clear HB;have HB:=n0_;clear n0_;have p178:0 ≤ (x3_1:Int):=of_decide_eq_true (by (with_reducible assumption));have q178:x3_1 < (l0.length:Int):=of_decide_eq_true (by (with_reducible assumption));obtain ⟨ad178,A178_5,c178_5,e178,hx178_0,hx178_1,hx178_2,hx178_3,hx178_4,hx178_5,hl178_5,hi178_5⟩:=at_T54 HR0.out x3_1 p178 q178;have hw178_5:=hx178_5;have hw178_4:=hx178_4
        have hw178_3:=hx178_3;have hw178_2:=hx178_2;have hw178_1:=hx178_1;have hw178_0:=hx178_0;cases e178;replace hx178_0:=bc_ HB hx178_0;replace hx178_1:=bc_ HB hx178_1;replace hx178_2:=bc_ HB hx178_2;replace hx178_3:=bc_ HB hx178_3;replace hx178_4:=bc_ HB hx178_4;replace hx178_5:=bc_ HB hx178_5;have HR178_5:=a_ hi178_5;have HC178_5:=a_ hl178_5;clear hi178_5 hl178_5;replace p178:=eq_true p178;replace q178:=eq_true q178
        have p184:0 ≤ (x3_1:Int):=of_decide_eq_true (by (with_reducible assumption));have q184:x3_1 < (l0.length:Int):=of_decide_eq_true (by (with_reducible assumption));obtain ⟨ad184,A184_5,c184_5,e184,hx184_0,hx184_1,hx184_2,hx184_3,hx184_4,hx184_5,hl184_5,hi184_5⟩:=at_T54 HR0.out x3_1 p184 q184;have hw184_5:=hx184_5;have hw184_4:=hx184_4;have hw184_3:=hx184_3;have hw184_2:=hx184_2;have hw184_1:=hx184_1
        have hw184_0:=hx184_0;obtain rfl:ad178=ad184:=(by injection e184);replace hx184_0:=bc_ HB hx184_0;replace hx184_1:=bc_ HB hx184_1;replace hx184_2:=bc_ HB hx184_2;replace hx184_3:=bc_ HB hx184_3;replace hx184_4:=bc_ HB hx184_4;replace hx184_5:=bc_ HB hx184_5;have HR184_5:=a_ hi184_5;have HC184_5:=a_ hl184_5;clear hi184_5 hl184_5;replace p184:=eq_true p184;replace q184:=eq_true q184;have p185:0 ≤ (x3_1:Int):=of_decide_eq_true (by (with_reducible assumption))
        have q185:x3_1 < (l0.length:Int):=of_decide_eq_true (by (with_reducible assumption));obtain ⟨ad185,A185_5,c185_5,e185,hx185_0,hx185_1,hx185_2,hx185_3,hx185_4,hx185_5,hl185_5,hi185_5⟩:=at_T54 HR0.out x3_1 p185 q185;have hw185_5:=hx185_5;have hw185_4:=hx185_4;have hw185_3:=hx185_3;have hw185_2:=hx185_2;have hw185_1:=hx185_1;have hw185_0:=hx185_0;obtain rfl:ad178=ad185:=(by injection e185);replace hx185_0:=bc_ HB hx185_0
        replace hx185_1:=bc_ HB hx185_1;replace hx185_2:=bc_ HB hx185_2;replace hx185_3:=bc_ HB hx185_3;replace hx185_4:=bc_ HB hx185_4;replace hx185_5:=bc_ HB hx185_5;have HR185_5:=a_ hi185_5;have HC185_5:=a_ hl185_5;clear hi185_5 hl185_5;replace p185:=eq_true p185;replace q185:=eq_true q185;have ea_:=Option.some.inj (hx184_5.symm.trans hx185_5)
        injection ea_ with ea_ en_ ec_
        subst ea_;subst ec_;clear en_;refine start_ (n:=23) (S:=fun w'=>w'.cell? (ad178.add ((x3_1).toNat * 6))=some (.string ((rd_T54 l0 x3_1).f0)) ∧ w'.cell? ⟨(ad178.add ((x3_1).toNat * 6)).block,(ad178.add ((x3_1).toNat * 6)).off + 1,none⟩=some (.int .i64 ((rd_T54 l0 x3_1).f1.f0)) ∧ w'.cell? ⟨(ad178.add ((x3_1).toNat * 6)).block,(ad178.add ((x3_1).toNat * 6)).off + 2,none⟩=some (.int .i64 ((rd_T54 l0 x3_1).f1.f1)) ∧ w'.cell? ⟨(ad178.add ((x3_1).toNat * 6)).block,(ad178.add ((x3_1).toNat * 6)).off + 3,none⟩=some (.int .i64 ((rd_T54 l0 x3_1).f1.f2)) ∧ w'.cell? ⟨(ad178.add ((x3_1).toNat * 6)).block,(ad178.add ((x3_1).toNat * 6)).off + 4,none⟩=some (.string ((rd_T54 l0 x3_1).f1.f3)) ∧ w'.cell? ⟨(ad178.add ((x3_1).toNat * 6)).block,(ad178.add ((x3_1).toNat * 6)).off + 5,none⟩=some (.slice A178_5 ((rd_T54 l0 x3_1).f2).length c178_5) ∧ w'.cell? (ad178.add ((x3_1).toNat * 6))=some (.string ((rd_T54 l0 x3_1).f0)) ∧ w'.cell? ⟨(ad178.add ((x3_1).toNat * 6)).block,(ad178.add ((x3_1).toNat * 6)).off + 1,none⟩=some (.int .i64 ((rd_T54 l0 x3_1).f1.f0)) ∧ w'.cell? ⟨(ad178.add ((x3_1).toNat * 6)).block,(ad178.add ((x3_1).toNat * 6)).off + 2,none⟩=some (.int .i64 ((rd_T54 l0 x3_1).f1.f1)) ∧ w'.cell? ⟨(ad178.add ((x3_1).toNat * 6)).block,(ad178.add ((x3_1).toNat * 6)).off + 3,none⟩=some (.int .i64 ((rd_T54 l0 x3_1).f1.f2)) ∧ w'.cell? ⟨(ad178.add ((x3_1).toNat * 6)).block,(ad178.add ((x3_1).toNat * 6)).off + 4,none⟩=some (.string ((rd_T54 l0 x3_1).f1.f3)) ∧ w'.cell? ⟨(ad178.add ((x3_1).toNat * 6)).block,(ad178.add ((x3_1).toNat * 6)).off + 5,none⟩=some (.slice A184_5 ((rd_T54 l0 x3_1).f2).length c184_5) ∧ w'.cell? (ad178.add ((x3_1).toNat * 6))=some (.string ((rd_T54 l0 x3_1).f0)) ∧ w'.cell? ⟨(ad178.add ((x3_1).toNat * 6)).block,(ad178.add ((x3_1).toNat * 6)).off + 1,none⟩=some (.int .i64 ((rd_T54 l0 x3_1).f1.f0)) ∧ w'.cell? ⟨(ad178.add ((x3_1).toNat * 6)).block,(ad178.add ((x3_1).toNat * 6)).off + 2,none⟩=some (.int .i64 ((rd_T54 l0 x3_1).f1.f1)) ∧ w'.cell? ⟨(ad178.add ((x3_1).toNat * 6)).block,(ad178.add ((x3_1).toNat * 6)).off + 3,none⟩=some (.int .i64 ((rd_T54 l0 x3_1).f1.f2)) ∧ w'.cell? ⟨(ad178.add ((x3_1).toNat * 6)).block,(ad178.add ((x3_1).toNat * 6)).off + 4,none⟩=some (.string ((rd_T54 l0 x3_1).f1.f3)) ∧ w'.cell? ⟨(ad178.add ((x3_1).toNat * 6)).block,(ad178.add ((x3_1).toNat * 6)).off + 5,none⟩=some (.slice A184_5 ((rd_T54 l0 x3_1).f2).length c184_5)) (ds:=[]) (m_ 0 23) (by kernel_rfl) rfl rfl ⟨(bc_ HB hw178_0),(bc_ HB hw178_1),(bc_ HB hw178_2),(bc_ HB hw178_3),(bc_ HB hw178_4),(bc_ HB hw178_5),(bc_ HB hw184_0),(bc_ HB hw184_1),(bc_ HB hw184_2),(bc_ HB hw184_3),(bc_ HB hw184_4),(bc_ HB hw184_5),(bc_ HB hw185_0),(bc_ HB hw185_1),(bc_ HB hw185_2),(bc_ HB hw185_3),(bc_ HB hw185_4),(bc_ HB hw185_5)⟩ (fun hHeld=>?_);refine with_tabW spec_l18Entries.tab4 spec_l18Entries.bits4 (fun HT_ HW_=>?_)
        generalize wr.drew=w10 at HB HR178_5 HR184_5 HR185_5 hx178_0 hx178_1 hx178_2 hx178_3 hx178_4 hx178_5 hx184_0 hx184_1 hx184_2 hx184_3 hx184_4 hx184_5 hx185_0 hx185_1 hx185_2 hx185_3 hx185_4 hx185_5 hHeld ⊢
        refine pure_ (i:=0) (N:=some 10) (v:=?_) (a':=?_) (m_ 1 22) rfl rfl (any_of HT_.out (by kernel_rfl)) (fun _ _ _ h=>h) (Or.inl ⟨by rfl,?_⟩) ?_ ?_;rotate_left
        ·intro w';go_simp
         with_reducible rfl
        rotate_left
        ·simp only [Act.put,s1_,s2_,s3_,i64_w,i32_w];rfl
        refine pure_ (i:=1) (N:=some 11) (v:=?_) (a':=?_) (m_ 2 21) rfl rfl (any_of HT_.out (by kernel_rfl)) (fun _ _ _ h=>h) (Or.inl ⟨by rfl,?_⟩) ?_ ?_;rotate_left
        ·intro w';go_simp
         with_reducible rfl
        rotate_left
        ·simp only [Act.put,s1_,s2_,s3_,i64_w,i32_w];rfl
        refine pure_ (i:=2) (N:=some 12) (v:=?_) (a':=?_) (m_ 3 20) rfl rfl (any_of HT_.out (by kernel_rfl)) (fun _ _ _ h=>h) (Or.inl ⟨by rfl,?_⟩) ?_ ?_;rotate_left
        ·intro w';go_simp
         with_reducible rfl
        rotate_left
        ·simp only [Act.put,s1_,s2_,s3_,i64_w,i32_w];rfl
        refine take_ (i:=3) (N:=some 13) (v:=?_) (a':=?_) (m_ 4 19) rfl rfl (take_ofW HT_.out HW_.out (by kernel_rfl)) (fun _ _ _ h=>h) (Or.inl ⟨by rfl,?_⟩) hHeld ?_ ?_;rotate_left
        ·rintro w' ⟨s0,s1,s2,s3,s4,s5,s6,s7,s8,s9,s10,s11,s12,s13,s14,s15,s16,s17⟩;go_simp
         with_reducible rfl
        rotate_left
        ·simp only [Act.put,s1_,s2_,s3_,i64_w,i32_w];rfl
        refine one_ (i:=4) (N:=some 14) (m_ 5 18) rfl rfl (one_of HT_.out (by kernel_rfl)) (by decide) (fun K hK=>?_);refine goes_ Tryz.func89 (by kernel_rfl) rfl #[.agg #[.string ((rd_T54 l0 x3_1).f0),.int .i64 ((rd_T54 l0 x3_1).f1.f0),.int .i64 ((rd_T54 l0 x3_1).f1.f1),.int .i64 ((rd_T54 l0 x3_1).f1.f2),.string ((rd_T54 l0 x3_1).f1.f3),.slice A178_5 ((rd_T54 l0 x3_1).f2).length c178_5]] (by rfl) rfl rfl (by (try simp only [List.map_toArray,List.map_cons,List.map_nil]);rfl) ?_
        with_reducible refine (spec_EntryOk.calls k1 ((rd_T54 l0 x3_1).f0) ((rd_T54 l0 x3_1).f1.f0) ((rd_T54 l0 x3_1).f1.f1) ((rd_T54 l0 x3_1).f1.f2) ((rd_T54 l0 x3_1).f1.f3) _ _ ((rd_T54 l0 x3_1).f2) true _ ?side1 ?side2 A4.out).mono ?_
        (case side1=>repeat (exact (Kd.C_below HR178_5.out HB.out)))
        (case side2=>exact HC178_5.out)
        rintro e w11 ⟨rfl,hb⟩;refine ⟨_,rfl,?_⟩;have n0_:=a_ (below_step HB.out hb);clear HB;have HB:=n0_;clear n0_
        (try clear hb)
        (skip)
        (skip)
        (skip)
        have q12:(x3_1:Int) ≤ ((l0.length:Int):Int):=of_decide_eq_true (by (with_reducible assumption));obtain ⟨i012,hi012,_,hsz12,_⟩:=info_parts info54;have hroom12:l0.length ≤ c0:=HC0.out;have hC12:Kd.C k54 _ (some ad178) l0.length l0:=HR0.out;have hcut12:=cut_to (P:=Tryz.prog) 39 54 .i64 Tryz.underlying39 hi012 (some ad178) l0.length c0 x3_1 (of_decide_eq_true (by (with_reducible assumption))) q12 hroom12
        have hr12:=Kd.C_take (m:=(x3_1:Int).toNat) hC12 (by omega);have hy12:y180.length=(x3_1:Int).toNat:=(by rw [Ny180.out,List.length_take];omega);rw [← Ny180.out] at hr12;rw [← hy12] at hcut12;have HR183:=a_ hr12;have HC183:=a_ (show y180.length ≤ c0 from by omega);clear hr12 hC12 hroom12 hi012 hsz12;have KY12:=a_ hy12;clear hy12;replace q12:=eq_true q12;refine hK.out _ _ ⟨(bc_ HB hw178_0),(bc_ HB hw178_1),(bc_ HB hw178_2),(bc_ HB hw178_3),(bc_ HB hw178_4),(bc_ HB hw178_5),(bc_ HB hw184_0),(bc_ HB hw184_1),(bc_ HB hw184_2),(bc_ HB hw184_3),(bc_ HB hw184_4),(bc_ HB hw184_5),(bc_ HB hw185_0),(bc_ HB hw185_1),(bc_ HB hw185_2),(bc_ HB hw185_3),(bc_ HB hw185_4),(bc_ HB hw185_5)⟩ (fun hHeld=>?_)
        clear hK K;refine norm_ (a':=?_) ?_ ?_;rotate_left
        ·show Act.put _ (some 14) _=_;simp only [Act.put,s1_,s2_,s3_,i64_w,i32_w];rfl
        refine pure_ (i:=5) (N:=some 15) (v:=?_) (a':=?_) (m_ 6 17) rfl rfl (any_of HT_.out (by kernel_rfl)) (fun _ _ _ h=>h) (Or.inl ⟨by rfl,?_⟩) ?_ ?_;rotate_left
        ·intro w';go_simp
         with_reducible rfl
        rotate_left
        ·simp only [Act.put,s1_,s2_,s3_,i64_w,i32_w];rfl
        refine pure_ (i:=6) (N:=some 16) (v:=?_) (a':=?_) (m_ 7 16) rfl rfl (any_of HT_.out (by kernel_rfl)) (fun _ _ _ h=>h) (Or.inl ⟨by rfl,?_⟩) ?_ ?_;rotate_left
        ·intro w';go_simp
         with_reducible rfl
        rotate_left
        ·simp only [Act.put,s1_,s2_,s3_,i64_w,i32_w];rfl
        refine pure_ (i:=7) (N:=some 17) (v:=?_) (a':=?_) (m_ 8 15) rfl rfl (any_of HT_.out (by kernel_rfl)) (fun _ _ _ h=>h) (Or.inl ⟨by rfl,?_⟩) ?_ ?_;rotate_left
        ·intro w';go_simp
         with_reducible rfl
        rotate_left
        ·simp only [Act.put,s1_,s2_,s3_,i64_w,i32_w];rfl
        refine pure_ (i:=8) (N:=some 18) (v:=?_) (a':=?_) (m_ 9 14) rfl rfl (any_of HT_.out (by kernel_rfl)) (fun _ _ _ h=>h) (Or.inl ⟨by rfl,?_⟩) ?_ ?_;rotate_left
        ·intro w';go_simp
         with_reducible rfl
        rotate_left
        ·simp only [Act.put,s1_,s2_,s3_,i64_w,i32_w];rfl
        refine pure_ (i:=9) (N:=some 19) (v:=?_) (a':=?_) (m_ 10 13) rfl rfl (any_of HT_.out (by kernel_rfl)) (fun _ _ _ h=>h) (Or.inl ⟨by rfl,?_⟩) ?_ ?_;rotate_left
        ·intro w';go_simp
         with_reducible rfl
        rotate_left
        ·simp only [Act.put,s1_,s2_,s3_,i64_w,i32_w];rfl
        refine pure_ (i:=10) (N:=some 20) (v:=?_) (a':=?_) (m_ 11 12) rfl rfl (any_of HT_.out (by kernel_rfl)) (fun _ _ _ h=>h) (Or.inl ⟨by rfl,?_⟩) ?_ ?_;rotate_left
        ·intro w';go_simp
         with_reducible rfl
        rotate_left
        ·simp only [Act.put,s1_,s2_,s3_,i64_w,i32_w];rfl
        refine pure_ (i:=11) (N:=some 21) (v:=?_) (a':=?_) (m_ 12 11) rfl rfl (any_of HT_.out (by kernel_rfl)) (fun _ _ _ h=>h) (Or.inl ⟨by rfl,?_⟩) ?_ ?_;rotate_left
        ·intro w';go_simp
         with_reducible rfl
        rotate_left
        ·simp only [Act.put,s1_,s2_,s3_,i64_w,i32_w];rfl
        refine pure_ (i:=12) (N:=some 22) (v:=?_) (a':=?_) (m_ 13 10) rfl rfl (any_of HT_.out (by kernel_rfl)) (fun _ _ _ h=>h) (Or.inl ⟨by rfl,?_⟩) ?_ ?_;rotate_left
        ·intro w';go_simp
         with_reducible rfl
        rotate_left
        ·simp only [Act.put,s1_,s2_,s3_,i64_w,i32_w];rfl
        refine pure_ (i:=13) (N:=some 23) (v:=?_) (a':=?_) (m_ 14 9) rfl rfl (any_of HT_.out (by kernel_rfl)) (fun _ _ _ h=>h) (Or.inl ⟨by rfl,?_⟩) ?_ ?_;rotate_left
        ·intro w';go_simp
         with_reducible rfl
        rotate_left
        ·simp only [Act.put,s1_,s2_,s3_,i64_w,i32_w];rfl
        refine pure_ (i:=15) (N:=some 25) (v:=?_) (a':=?_) #[true,true,true,true,true,true,true,true,true,true,true,true,true,true,false,true,false,false,false,false,false,false,false] rfl rfl (any_of HT_.out (by kernel_rfl)) (fun _ _ _ h=>h) (Or.inl ⟨by rfl,?_⟩) ?_ ?_;rotate_left
        ·intro w';go_simp
         with_reducible rfl
        rotate_left
        ·simp only [Act.put,s1_,s2_,s3_,i64_w,i32_w];rfl
        refine pure_ (i:=16) (N:=some 26) (v:=?_) (a':=?_) #[true,true,true,true,true,true,true,true,true,true,true,true,true,true,false,true,true,false,false,false,false,false,false] rfl rfl (any_of HT_.out (by kernel_rfl)) (fun _ _ _ h=>h) (Or.inl ⟨by rfl,?_⟩) ?_ ?_;rotate_left
        ·intro w';go_simp
         with_reducible rfl
        rotate_left
        ·simp only [Act.put,s1_,s2_,s3_,i64_w,i32_w];rfl
        refine pure_ (i:=17) (N:=some 27) (v:=?_) (a':=?_) #[true,true,true,true,true,true,true,true,true,true,true,true,true,true,false,true,true,true,false,false,false,false,false] rfl rfl (any_of HT_.out (by kernel_rfl)) (fun _ _ _ h=>h) (Or.inl ⟨by rfl,?_⟩) ?_ ?_;rotate_left
        ·intro w';go_simp
         with_reducible rfl
        rotate_left
        ·simp only [Act.put,s1_,s2_,s3_,i64_w,i32_w];rfl
        refine pure_ (i:=18) (N:=some 28) (v:=?_) (a':=?_) #[true,true,true,true,true,true,true,true,true,true,true,true,true,true,false,true,true,true,true,false,false,false,false] rfl rfl (any_of HT_.out (by kernel_rfl)) (fun _ _ _ h=>h) (Or.inl ⟨by rfl,?_⟩) ?_ ?_;rotate_left
        ·intro w';go_simp
         with_reducible rfl
        rotate_left
        ·simp only [Act.put,s1_,s2_,s3_,i64_w,i32_w];rfl
        refine take_ (i:=14) (N:=some 24) (v:=?_) (a':=?_) (m_ 19 4) rfl rfl (take_ofW HT_.out HW_.out (by kernel_rfl)) (fun _ _ _ h=>h) (Or.inl ⟨by rfl,?_⟩) hHeld ?_ ?_;rotate_left
        ·rintro w' ⟨s0,s1,s2,s3,s4,s5,s6,s7,s8,s9,s10,s11,s12,s13,s14,s15,s16,s17⟩;go_simp
         with_reducible rfl
        rotate_left
        ·simp only [Act.put,s1_,s2_,s3_,i64_w,i32_w];rfl
        refine take_ (i:=19) (N:=some 29) (v:=?_) (a':=?_) (m_ 20 3) rfl rfl (take_ofW HT_.out HW_.out (by kernel_rfl)) (fun _ _ _ h=>h) (Or.inl ⟨by rfl,?_⟩) hHeld ?_ ?_;rotate_left
        ·rintro w' ⟨s0,s1,s2,s3,s4,s5,s6,s7,s8,s9,s10,s11,s12,s13,s14,s15,s16,s17⟩;go_simp
         with_reducible rfl
        rotate_left
        ·simp only [Act.put,s1_,s2_,s3_,i64_w,i32_w];rfl
        refine one_ (i:=20) (N:=some 30) (m_ 21 2) rfl rfl (one_of HT_.out (by kernel_rfl)) (by decide) (fun K hK=>?_);refine goes_ Tryz.func88 (by kernel_rfl) rfl #[.slice (some ad178) y180.length c0,.string ((rd_T54 l0 x3_1).f0),.agg #[.int .i64 ((rd_T54 l0 x3_1).f1.f0),.int .i64 ((rd_T54 l0 x3_1).f1.f1),.int .i64 ((rd_T54 l0 x3_1).f1.f2),.string ((rd_T54 l0 x3_1).f1.f3)]] (by rfl) rfl rfl (by (try simp only [List.map_toArray,List.map_cons,List.map_nil]);rfl) ?_
        with_reducible refine (spec_l15At.calls k1 _ _ y180 ((rd_T54 l0 x3_1).f0) ((rd_T54 l0 x3_1).f1.f0) ((rd_T54 l0 x3_1).f1.f1) ((rd_T54 l0 x3_1).f1.f2) ((rd_T54 l0 x3_1).f1.f3) t186 _ ?side1 ?side2 A8.out).mono ?_
        (case side1=>repeat (exact (Kd.C_below HR183.out HB.out)))
        (case side2=>exact HC183.out)
        rintro e w13 ⟨rfl,hb⟩;refine ⟨_,rfl,?_⟩;have n0_:=a_ (below_step HB.out hb);clear HB;have HB:=n0_;clear n0_
        (try clear hb)
        (skip)
        (skip)
        (skip)
        refine hK.out _ _ ⟨(bc_ HB hw178_0),(bc_ HB hw178_1),(bc_ HB hw178_2),(bc_ HB hw178_3),(bc_ HB hw178_4),(bc_ HB hw178_5),(bc_ HB hw184_0),(bc_ HB hw184_1),(bc_ HB hw184_2),(bc_ HB hw184_3),(bc_ HB hw184_4),(bc_ HB hw184_5),(bc_ HB hw185_0),(bc_ HB hw185_1),(bc_ HB hw185_2),(bc_ HB hw185_3),(bc_ HB hw185_4),(bc_ HB hw185_5)⟩ (fun hHeld=>?_);clear hK K;refine norm_ (a':=?_) ?_ ?_;rotate_left
        ·show Act.put _ (some 30) _=_;simp only [Act.put,s1_,s2_,s3_,i64_w,i32_w];rfl
        refine pure_ (i:=21) (N:=some 31) (v:=?_) (a':=?_) (m_ 22 1) rfl rfl (any_of HT_.out (by kernel_rfl)) (fun _ _ _ h=>h) (Or.inl ⟨by rfl,?_⟩) ?_ ?_;rotate_left
        ·intro w';go_simp
         with_reducible rfl
        rotate_left
        ·simp only [Act.put,s1_,s2_,s3_,i64_w,i32_w];rfl
        refine pure_ (i:=22) (N:=some 32) (v:=?_) (a':=?_) (m_ 23 0) rfl rfl (any_of HT_.out (by kernel_rfl)) (fun _ _ _ h=>h) (Or.inl ⟨by rfl,?_⟩) ?_ ?_;rotate_left
        ·intro w';go_simp
         with_reducible rfl
        rotate_left
        ·simp only [Act.put,s1_,s2_,s3_,i64_w,i32_w];rfl
        refine done_ (done_of HT_.out (by kernel_rfl)) ?_
        try go_wp2
        go_ret
        exact ⟨by rfl,by exact HB.out⟩
       ·rw [if_neg c9] at H;have c9b0:decide (0 ≤ t186)=false:=decide_eq_false c9;clear c9;have H':=a_ H;clear H
        try go_wp2
        have n0_:=a_ (below_drew1 HB.out);clear HB;have HB:=n0_;clear n0_;have p178:0 ≤ (x3_1:Int):=of_decide_eq_true (by (with_reducible assumption));have q178:x3_1 < (l0.length:Int):=of_decide_eq_true (by (with_reducible assumption));obtain ⟨ad178,A178_5,c178_5,e178,hx178_0,hx178_1,hx178_2,hx178_3,hx178_4,hx178_5,hl178_5,hi178_5⟩:=at_T54 HR0.out x3_1 p178 q178;have hw178_5:=hx178_5;have hw178_4:=hx178_4
        have hw178_3:=hx178_3;have hw178_2:=hx178_2;have hw178_1:=hx178_1;have hw178_0:=hx178_0;cases e178;replace hx178_0:=bc_ HB hx178_0;replace hx178_1:=bc_ HB hx178_1;replace hx178_2:=bc_ HB hx178_2;replace hx178_3:=bc_ HB hx178_3;replace hx178_4:=bc_ HB hx178_4;replace hx178_5:=bc_ HB hx178_5;have HR178_5:=a_ hi178_5;have HC178_5:=a_ hl178_5;clear hi178_5 hl178_5;replace p178:=eq_true p178;replace q178:=eq_true q178
        have p184:0 ≤ (x3_1:Int):=of_decide_eq_true (by (with_reducible assumption));have q184:x3_1 < (l0.length:Int):=of_decide_eq_true (by (with_reducible assumption));obtain ⟨ad184,A184_5,c184_5,e184,hx184_0,hx184_1,hx184_2,hx184_3,hx184_4,hx184_5,hl184_5,hi184_5⟩:=at_T54 HR0.out x3_1 p184 q184;have hw184_5:=hx184_5;have hw184_4:=hx184_4;have hw184_3:=hx184_3;have hw184_2:=hx184_2;have hw184_1:=hx184_1
        have hw184_0:=hx184_0;obtain rfl:ad178=ad184:=(by injection e184);replace hx184_0:=bc_ HB hx184_0;replace hx184_1:=bc_ HB hx184_1;replace hx184_2:=bc_ HB hx184_2;replace hx184_3:=bc_ HB hx184_3;replace hx184_4:=bc_ HB hx184_4;replace hx184_5:=bc_ HB hx184_5;have HR184_5:=a_ hi184_5;have HC184_5:=a_ hl184_5;clear hi184_5 hl184_5;replace p184:=eq_true p184;replace q184:=eq_true q184;have p185:0 ≤ (x3_1:Int):=of_decide_eq_true (by (with_reducible assumption))
        have q185:x3_1 < (l0.length:Int):=of_decide_eq_true (by (with_reducible assumption));obtain ⟨ad185,A185_5,c185_5,e185,hx185_0,hx185_1,hx185_2,hx185_3,hx185_4,hx185_5,hl185_5,hi185_5⟩:=at_T54 HR0.out x3_1 p185 q185;have hw185_5:=hx185_5;have hw185_4:=hx185_4;have hw185_3:=hx185_3;have hw185_2:=hx185_2;have hw185_1:=hx185_1;have hw185_0:=hx185_0;obtain rfl:ad178=ad185:=(by injection e185);replace hx185_0:=bc_ HB hx185_0
        replace hx185_1:=bc_ HB hx185_1;replace hx185_2:=bc_ HB hx185_2;replace hx185_3:=bc_ HB hx185_3;replace hx185_4:=bc_ HB hx185_4;replace hx185_5:=bc_ HB hx185_5;have HR185_5:=a_ hi185_5;have HC185_5:=a_ hl185_5;clear hi185_5 hl185_5;replace p185:=eq_true p185;replace q185:=eq_true q185;have ea_:=Option.some.inj (hx184_5.symm.trans hx185_5)
        injection ea_ with ea_ en_ ec_
        subst ea_;subst ec_;clear en_;refine start_ (n:=23) (S:=fun w'=>w'.cell? (ad178.add ((x3_1).toNat * 6))=some (.string ((rd_T54 l0 x3_1).f0)) ∧ w'.cell? ⟨(ad178.add ((x3_1).toNat * 6)).block,(ad178.add ((x3_1).toNat * 6)).off + 1,none⟩=some (.int .i64 ((rd_T54 l0 x3_1).f1.f0)) ∧ w'.cell? ⟨(ad178.add ((x3_1).toNat * 6)).block,(ad178.add ((x3_1).toNat * 6)).off + 2,none⟩=some (.int .i64 ((rd_T54 l0 x3_1).f1.f1)) ∧ w'.cell? ⟨(ad178.add ((x3_1).toNat * 6)).block,(ad178.add ((x3_1).toNat * 6)).off + 3,none⟩=some (.int .i64 ((rd_T54 l0 x3_1).f1.f2)) ∧ w'.cell? ⟨(ad178.add ((x3_1).toNat * 6)).block,(ad178.add ((x3_1).toNat * 6)).off + 4,none⟩=some (.string ((rd_T54 l0 x3_1).f1.f3)) ∧ w'.cell? ⟨(ad178.add ((x3_1).toNat * 6)).block,(ad178.add ((x3_1).toNat * 6)).off + 5,none⟩=some (.slice A178_5 ((rd_T54 l0 x3_1).f2).length c178_5) ∧ w'.cell? (ad178.add ((x3_1).toNat * 6))=some (.string ((rd_T54 l0 x3_1).f0)) ∧ w'.cell? ⟨(ad178.add ((x3_1).toNat * 6)).block,(ad178.add ((x3_1).toNat * 6)).off + 1,none⟩=some (.int .i64 ((rd_T54 l0 x3_1).f1.f0)) ∧ w'.cell? ⟨(ad178.add ((x3_1).toNat * 6)).block,(ad178.add ((x3_1).toNat * 6)).off + 2,none⟩=some (.int .i64 ((rd_T54 l0 x3_1).f1.f1)) ∧ w'.cell? ⟨(ad178.add ((x3_1).toNat * 6)).block,(ad178.add ((x3_1).toNat * 6)).off + 3,none⟩=some (.int .i64 ((rd_T54 l0 x3_1).f1.f2)) ∧ w'.cell? ⟨(ad178.add ((x3_1).toNat * 6)).block,(ad178.add ((x3_1).toNat * 6)).off + 4,none⟩=some (.string ((rd_T54 l0 x3_1).f1.f3)) ∧ w'.cell? ⟨(ad178.add ((x3_1).toNat * 6)).block,(ad178.add ((x3_1).toNat * 6)).off + 5,none⟩=some (.slice A184_5 ((rd_T54 l0 x3_1).f2).length c184_5) ∧ w'.cell? (ad178.add ((x3_1).toNat * 6))=some (.string ((rd_T54 l0 x3_1).f0)) ∧ w'.cell? ⟨(ad178.add ((x3_1).toNat * 6)).block,(ad178.add ((x3_1).toNat * 6)).off + 1,none⟩=some (.int .i64 ((rd_T54 l0 x3_1).f1.f0)) ∧ w'.cell? ⟨(ad178.add ((x3_1).toNat * 6)).block,(ad178.add ((x3_1).toNat * 6)).off + 2,none⟩=some (.int .i64 ((rd_T54 l0 x3_1).f1.f1)) ∧ w'.cell? ⟨(ad178.add ((x3_1).toNat * 6)).block,(ad178.add ((x3_1).toNat * 6)).off + 3,none⟩=some (.int .i64 ((rd_T54 l0 x3_1).f1.f2)) ∧ w'.cell? ⟨(ad178.add ((x3_1).toNat * 6)).block,(ad178.add ((x3_1).toNat * 6)).off + 4,none⟩=some (.string ((rd_T54 l0 x3_1).f1.f3)) ∧ w'.cell? ⟨(ad178.add ((x3_1).toNat * 6)).block,(ad178.add ((x3_1).toNat * 6)).off + 5,none⟩=some (.slice A184_5 ((rd_T54 l0 x3_1).f2).length c184_5)) (ds:=[]) (m_ 0 23) (by kernel_rfl) rfl rfl ⟨(bc_ HB hw178_0),(bc_ HB hw178_1),(bc_ HB hw178_2),(bc_ HB hw178_3),(bc_ HB hw178_4),(bc_ HB hw178_5),(bc_ HB hw184_0),(bc_ HB hw184_1),(bc_ HB hw184_2),(bc_ HB hw184_3),(bc_ HB hw184_4),(bc_ HB hw184_5),(bc_ HB hw185_0),(bc_ HB hw185_1),(bc_ HB hw185_2),(bc_ HB hw185_3),(bc_ HB hw185_4),(bc_ HB hw185_5)⟩ (fun hHeld=>?_);refine with_tabW spec_l18Entries.tab4 spec_l18Entries.bits4 (fun HT_ HW_=>?_)
        generalize wr.drew=w14 at HB HR178_5 HR184_5 HR185_5 hx178_0 hx178_1 hx178_2 hx178_3 hx178_4 hx178_5 hx184_0 hx184_1 hx184_2 hx184_3 hx184_4 hx184_5 hx185_0 hx185_1 hx185_2 hx185_3 hx185_4 hx185_5 hHeld ⊢
        refine pure_ (i:=0) (N:=some 10) (v:=?_) (a':=?_) (m_ 1 22) rfl rfl (any_of HT_.out (by kernel_rfl)) (fun _ _ _ h=>h) (Or.inl ⟨by rfl,?_⟩) ?_ ?_;rotate_left
        ·intro w';go_simp
         with_reducible rfl
        rotate_left
        ·simp only [Act.put,s1_,s2_,s3_,i64_w,i32_w];rfl
        refine pure_ (i:=1) (N:=some 11) (v:=?_) (a':=?_) (m_ 2 21) rfl rfl (any_of HT_.out (by kernel_rfl)) (fun _ _ _ h=>h) (Or.inl ⟨by rfl,?_⟩) ?_ ?_;rotate_left
        ·intro w';go_simp
         with_reducible rfl
        rotate_left
        ·simp only [Act.put,s1_,s2_,s3_,i64_w,i32_w];rfl
        refine pure_ (i:=2) (N:=some 12) (v:=?_) (a':=?_) (m_ 3 20) rfl rfl (any_of HT_.out (by kernel_rfl)) (fun _ _ _ h=>h) (Or.inl ⟨by rfl,?_⟩) ?_ ?_;rotate_left
        ·intro w';go_simp
         with_reducible rfl
        rotate_left
        ·simp only [Act.put,s1_,s2_,s3_,i64_w,i32_w];rfl
        refine take_ (i:=3) (N:=some 13) (v:=?_) (a':=?_) (m_ 4 19) rfl rfl (take_ofW HT_.out HW_.out (by kernel_rfl)) (fun _ _ _ h=>h) (Or.inl ⟨by rfl,?_⟩) hHeld ?_ ?_;rotate_left
        ·rintro w' ⟨s0,s1,s2,s3,s4,s5,s6,s7,s8,s9,s10,s11,s12,s13,s14,s15,s16,s17⟩;go_simp
         with_reducible rfl
        rotate_left
        ·simp only [Act.put,s1_,s2_,s3_,i64_w,i32_w];rfl
        refine one_ (i:=4) (N:=some 14) (m_ 5 18) rfl rfl (one_of HT_.out (by kernel_rfl)) (by decide) (fun K hK=>?_);refine goes_ Tryz.func89 (by kernel_rfl) rfl #[.agg #[.string ((rd_T54 l0 x3_1).f0),.int .i64 ((rd_T54 l0 x3_1).f1.f0),.int .i64 ((rd_T54 l0 x3_1).f1.f1),.int .i64 ((rd_T54 l0 x3_1).f1.f2),.string ((rd_T54 l0 x3_1).f1.f3),.slice A178_5 ((rd_T54 l0 x3_1).f2).length c178_5]] (by rfl) rfl rfl (by (try simp only [List.map_toArray,List.map_cons,List.map_nil]);rfl) ?_
        with_reducible refine (spec_EntryOk.calls k1 ((rd_T54 l0 x3_1).f0) ((rd_T54 l0 x3_1).f1.f0) ((rd_T54 l0 x3_1).f1.f1) ((rd_T54 l0 x3_1).f1.f2) ((rd_T54 l0 x3_1).f1.f3) _ _ ((rd_T54 l0 x3_1).f2) true _ ?side1 ?side2 A4.out).mono ?_
        (case side1=>repeat (exact (Kd.C_below HR178_5.out HB.out)))
        (case side2=>exact HC178_5.out)
        rintro e w15 ⟨rfl,hb⟩;refine ⟨_,rfl,?_⟩;have n0_:=a_ (below_step HB.out hb);clear HB;have HB:=n0_;clear n0_
        (try clear hb)
        (skip)
        (skip)
        (skip)
        have q16:(x3_1:Int) ≤ ((l0.length:Int):Int):=of_decide_eq_true (by (with_reducible assumption));obtain ⟨i016,hi016,_,hsz16,_⟩:=info_parts info54;have hroom16:l0.length ≤ c0:=HC0.out;have hC16:Kd.C k54 _ (some ad178) l0.length l0:=HR0.out;have hcut16:=cut_to (P:=Tryz.prog) 39 54 .i64 Tryz.underlying39 hi016 (some ad178) l0.length c0 x3_1 (of_decide_eq_true (by (with_reducible assumption))) q16 hroom16
        have hr16:=Kd.C_take (m:=(x3_1:Int).toNat) hC16 (by omega);have hy16:y180.length=(x3_1:Int).toNat:=(by rw [Ny180.out,List.length_take];omega);rw [← Ny180.out] at hr16;rw [← hy16] at hcut16;have HR183:=a_ hr16;have HC183:=a_ (show y180.length ≤ c0 from by omega);clear hr16 hC16 hroom16 hi016 hsz16;have KY16:=a_ hy16;clear hy16;replace q16:=eq_true q16;refine hK.out _ _ ⟨(bc_ HB hw178_0),(bc_ HB hw178_1),(bc_ HB hw178_2),(bc_ HB hw178_3),(bc_ HB hw178_4),(bc_ HB hw178_5),(bc_ HB hw184_0),(bc_ HB hw184_1),(bc_ HB hw184_2),(bc_ HB hw184_3),(bc_ HB hw184_4),(bc_ HB hw184_5),(bc_ HB hw185_0),(bc_ HB hw185_1),(bc_ HB hw185_2),(bc_ HB hw185_3),(bc_ HB hw185_4),(bc_ HB hw185_5)⟩ (fun hHeld=>?_)
        clear hK K;refine norm_ (a':=?_) ?_ ?_;rotate_left
        ·show Act.put _ (some 14) _=_;simp only [Act.put,s1_,s2_,s3_,i64_w,i32_w];rfl
        refine pure_ (i:=5) (N:=some 15) (v:=?_) (a':=?_) (m_ 6 17) rfl rfl (any_of HT_.out (by kernel_rfl)) (fun _ _ _ h=>h) (Or.inl ⟨by rfl,?_⟩) ?_ ?_;rotate_left
        ·intro w';go_simp
         with_reducible rfl
        rotate_left
        ·simp only [Act.put,s1_,s2_,s3_,i64_w,i32_w];rfl
        refine pure_ (i:=6) (N:=some 16) (v:=?_) (a':=?_) (m_ 7 16) rfl rfl (any_of HT_.out (by kernel_rfl)) (fun _ _ _ h=>h) (Or.inl ⟨by rfl,?_⟩) ?_ ?_;rotate_left
        ·intro w';go_simp
         with_reducible rfl
        rotate_left
        ·simp only [Act.put,s1_,s2_,s3_,i64_w,i32_w];rfl
        refine pure_ (i:=7) (N:=some 17) (v:=?_) (a':=?_) (m_ 8 15) rfl rfl (any_of HT_.out (by kernel_rfl)) (fun _ _ _ h=>h) (Or.inl ⟨by rfl,?_⟩) ?_ ?_;rotate_left
        ·intro w';go_simp
         with_reducible rfl
        rotate_left
        ·simp only [Act.put,s1_,s2_,s3_,i64_w,i32_w];rfl
        refine pure_ (i:=8) (N:=some 18) (v:=?_) (a':=?_) (m_ 9 14) rfl rfl (any_of HT_.out (by kernel_rfl)) (fun _ _ _ h=>h) (Or.inl ⟨by rfl,?_⟩) ?_ ?_;rotate_left
        ·intro w';go_simp
         with_reducible rfl
        rotate_left
        ·simp only [Act.put,s1_,s2_,s3_,i64_w,i32_w];rfl
        refine pure_ (i:=9) (N:=some 19) (v:=?_) (a':=?_) (m_ 10 13) rfl rfl (any_of HT_.out (by kernel_rfl)) (fun _ _ _ h=>h) (Or.inl ⟨by rfl,?_⟩) ?_ ?_;rotate_left
        ·intro w';go_simp
         with_reducible rfl
        rotate_left
        ·simp only [Act.put,s1_,s2_,s3_,i64_w,i32_w];rfl
        refine pure_ (i:=10) (N:=some 20) (v:=?_) (a':=?_) (m_ 11 12) rfl rfl (any_of HT_.out (by kernel_rfl)) (fun _ _ _ h=>h) (Or.inl ⟨by rfl,?_⟩) ?_ ?_;rotate_left
        ·intro w';go_simp
         with_reducible rfl
        rotate_left
        ·simp only [Act.put,s1_,s2_,s3_,i64_w,i32_w];rfl
        refine pure_ (i:=11) (N:=some 21) (v:=?_) (a':=?_) (m_ 12 11) rfl rfl (any_of HT_.out (by kernel_rfl)) (fun _ _ _ h=>h) (Or.inl ⟨by rfl,?_⟩) ?_ ?_;rotate_left
        ·intro w';go_simp
         with_reducible rfl
        rotate_left
        ·simp only [Act.put,s1_,s2_,s3_,i64_w,i32_w];rfl
        refine pure_ (i:=12) (N:=some 22) (v:=?_) (a':=?_) (m_ 13 10) rfl rfl (any_of HT_.out (by kernel_rfl)) (fun _ _ _ h=>h) (Or.inl ⟨by rfl,?_⟩) ?_ ?_;rotate_left
        ·intro w';go_simp
         with_reducible rfl
        rotate_left
        ·simp only [Act.put,s1_,s2_,s3_,i64_w,i32_w];rfl
        refine pure_ (i:=13) (N:=some 23) (v:=?_) (a':=?_) (m_ 14 9) rfl rfl (any_of HT_.out (by kernel_rfl)) (fun _ _ _ h=>h) (Or.inl ⟨by rfl,?_⟩) ?_ ?_;rotate_left
        ·intro w';go_simp
         with_reducible rfl
        rotate_left
        ·simp only [Act.put,s1_,s2_,s3_,i64_w,i32_w];rfl
        refine pure_ (i:=15) (N:=some 25) (v:=?_) (a':=?_) #[true,true,true,true,true,true,true,true,true,true,true,true,true,true,false,true,false,false,false,false,false,false,false] rfl rfl (any_of HT_.out (by kernel_rfl)) (fun _ _ _ h=>h) (Or.inl ⟨by rfl,?_⟩) ?_ ?_;rotate_left
        ·intro w';go_simp
         with_reducible rfl
        rotate_left
        ·simp only [Act.put,s1_,s2_,s3_,i64_w,i32_w];rfl
        refine pure_ (i:=16) (N:=some 26) (v:=?_) (a':=?_) #[true,true,true,true,true,true,true,true,true,true,true,true,true,true,false,true,true,false,false,false,false,false,false] rfl rfl (any_of HT_.out (by kernel_rfl)) (fun _ _ _ h=>h) (Or.inl ⟨by rfl,?_⟩) ?_ ?_;rotate_left
        ·intro w';go_simp
         with_reducible rfl
        rotate_left
        ·simp only [Act.put,s1_,s2_,s3_,i64_w,i32_w];rfl
        refine pure_ (i:=17) (N:=some 27) (v:=?_) (a':=?_) #[true,true,true,true,true,true,true,true,true,true,true,true,true,true,false,true,true,true,false,false,false,false,false] rfl rfl (any_of HT_.out (by kernel_rfl)) (fun _ _ _ h=>h) (Or.inl ⟨by rfl,?_⟩) ?_ ?_;rotate_left
        ·intro w';go_simp
         with_reducible rfl
        rotate_left
        ·simp only [Act.put,s1_,s2_,s3_,i64_w,i32_w];rfl
        refine pure_ (i:=18) (N:=some 28) (v:=?_) (a':=?_) #[true,true,true,true,true,true,true,true,true,true,true,true,true,true,false,true,true,true,true,false,false,false,false] rfl rfl (any_of HT_.out (by kernel_rfl)) (fun _ _ _ h=>h) (Or.inl ⟨by rfl,?_⟩) ?_ ?_;rotate_left
        ·intro w';go_simp
         with_reducible rfl
        rotate_left
        ·simp only [Act.put,s1_,s2_,s3_,i64_w,i32_w];rfl
        refine take_ (i:=14) (N:=some 24) (v:=?_) (a':=?_) (m_ 19 4) rfl rfl (take_ofW HT_.out HW_.out (by kernel_rfl)) (fun _ _ _ h=>h) (Or.inl ⟨by rfl,?_⟩) hHeld ?_ ?_;rotate_left
        ·rintro w' ⟨s0,s1,s2,s3,s4,s5,s6,s7,s8,s9,s10,s11,s12,s13,s14,s15,s16,s17⟩;go_simp
         with_reducible rfl
        rotate_left
        ·simp only [Act.put,s1_,s2_,s3_,i64_w,i32_w];rfl
        refine take_ (i:=19) (N:=some 29) (v:=?_) (a':=?_) (m_ 20 3) rfl rfl (take_ofW HT_.out HW_.out (by kernel_rfl)) (fun _ _ _ h=>h) (Or.inl ⟨by rfl,?_⟩) hHeld ?_ ?_;rotate_left
        ·rintro w' ⟨s0,s1,s2,s3,s4,s5,s6,s7,s8,s9,s10,s11,s12,s13,s14,s15,s16,s17⟩;go_simp
         with_reducible rfl
        rotate_left
        ·simp only [Act.put,s1_,s2_,s3_,i64_w,i32_w];rfl
        refine one_ (i:=20) (N:=some 30) (m_ 21 2) rfl rfl (one_of HT_.out (by kernel_rfl)) (by decide) (fun K hK=>?_);refine goes_ Tryz.func88 (by kernel_rfl) rfl #[.slice (some ad178) y180.length c0,.string ((rd_T54 l0 x3_1).f0),.agg #[.int .i64 ((rd_T54 l0 x3_1).f1.f0),.int .i64 ((rd_T54 l0 x3_1).f1.f1),.int .i64 ((rd_T54 l0 x3_1).f1.f2),.string ((rd_T54 l0 x3_1).f1.f3)]] (by rfl) rfl rfl (by (try simp only [List.map_toArray,List.map_cons,List.map_nil]);rfl) ?_
        with_reducible refine (spec_l15At.calls k1 _ _ y180 ((rd_T54 l0 x3_1).f0) ((rd_T54 l0 x3_1).f1.f0) ((rd_T54 l0 x3_1).f1.f1) ((rd_T54 l0 x3_1).f1.f2) ((rd_T54 l0 x3_1).f1.f3) t186 _ ?side1 ?side2 A8.out).mono ?_
        (case side1=>repeat (exact (Kd.C_below HR183.out HB.out)))
        (case side2=>exact HC183.out)
        rintro e w17 ⟨rfl,hb⟩;refine ⟨_,rfl,?_⟩;have n0_:=a_ (below_step HB.out hb);clear HB;have HB:=n0_;clear n0_
        (try clear hb)
        (skip)
        (skip)
        (skip)
        refine hK.out _ _ ⟨(bc_ HB hw178_0),(bc_ HB hw178_1),(bc_ HB hw178_2),(bc_ HB hw178_3),(bc_ HB hw178_4),(bc_ HB hw178_5),(bc_ HB hw184_0),(bc_ HB hw184_1),(bc_ HB hw184_2),(bc_ HB hw184_3),(bc_ HB hw184_4),(bc_ HB hw184_5),(bc_ HB hw185_0),(bc_ HB hw185_1),(bc_ HB hw185_2),(bc_ HB hw185_3),(bc_ HB hw185_4),(bc_ HB hw185_5)⟩ (fun hHeld=>?_);clear hK K;refine norm_ (a':=?_) ?_ ?_;rotate_left
        ·show Act.put _ (some 30) _=_;simp only [Act.put,s1_,s2_,s3_,i64_w,i32_w];rfl
        refine pure_ (i:=21) (N:=some 31) (v:=?_) (a':=?_) (m_ 22 1) rfl rfl (any_of HT_.out (by kernel_rfl)) (fun _ _ _ h=>h) (Or.inl ⟨by rfl,?_⟩) ?_ ?_;rotate_left
        ·intro w';go_simp
         with_reducible rfl
        rotate_left
        ·simp only [Act.put,s1_,s2_,s3_,i64_w,i32_w];rfl
        refine pure_ (i:=22) (N:=some 32) (v:=?_) (a':=?_) (m_ 23 0) rfl rfl (any_of HT_.out (by kernel_rfl)) (fun _ _ _ h=>h) (Or.inl ⟨by rfl,?_⟩) ?_ ?_;rotate_left
        ·intro w';go_simp
         with_reducible rfl
        rotate_left
        ·simp only [Act.put,s1_,s2_,s3_,i64_w,i32_w];rfl
        refine done_ (done_of HT_.out (by kernel_rfl)) ?_
        try go_wp2
        go_roundg k1
        case measure=>have:=HK1.out;omega
        case rel=>exact ⟨(wrap64 (x3_1 + 1)),(by rfl),H',⟨by have:=HK1.out;omega⟩,⟨by exact HB.out⟩⟩
      ·rw [if_neg c7] at H;exact absurd H (by simp)
     ·replace c5:=Bool.eq_false_iff.mpr c5;subst c5;have H1:(some false)=some r:=by rw [if_neg (show ¬ (false=true) by decide)] at H;exact H
      clear H;have H:=H1;clear H1;obtain rfl:=Option.some.inj H
      try go_wp2
      have n0_:=a_ (below_drew1 HB.out);clear HB;have HB:=n0_;clear n0_;have p178:0 ≤ (x3_1:Int):=of_decide_eq_true (by (with_reducible assumption));have q178:x3_1 < (l0.length:Int):=of_decide_eq_true (by (with_reducible assumption));obtain ⟨ad178,A178_5,c178_5,e178,hx178_0,hx178_1,hx178_2,hx178_3,hx178_4,hx178_5,hl178_5,hi178_5⟩:=at_T54 HR0.out x3_1 p178 q178;have hw178_5:=hx178_5;have hw178_4:=hx178_4
      have hw178_3:=hx178_3;have hw178_2:=hx178_2;have hw178_1:=hx178_1;have hw178_0:=hx178_0;cases e178;replace hx178_0:=bc_ HB hx178_0;replace hx178_1:=bc_ HB hx178_1;replace hx178_2:=bc_ HB hx178_2;replace hx178_3:=bc_ HB hx178_3;replace hx178_4:=bc_ HB hx178_4;replace hx178_5:=bc_ HB hx178_5;have HR178_5:=a_ hi178_5;have HC178_5:=a_ hl178_5;clear hi178_5 hl178_5;replace p178:=eq_true p178;replace q178:=eq_true q178
      refine start_ (n:=23) (S:=fun w'=>w'.cell? (ad178.add ((x3_1).toNat * 6))=some (.string ((rd_T54 l0 x3_1).f0)) ∧ w'.cell? ⟨(ad178.add ((x3_1).toNat * 6)).block,(ad178.add ((x3_1).toNat * 6)).off + 1,none⟩=some (.int .i64 ((rd_T54 l0 x3_1).f1.f0)) ∧ w'.cell? ⟨(ad178.add ((x3_1).toNat * 6)).block,(ad178.add ((x3_1).toNat * 6)).off + 2,none⟩=some (.int .i64 ((rd_T54 l0 x3_1).f1.f1)) ∧ w'.cell? ⟨(ad178.add ((x3_1).toNat * 6)).block,(ad178.add ((x3_1).toNat * 6)).off + 3,none⟩=some (.int .i64 ((rd_T54 l0 x3_1).f1.f2)) ∧ w'.cell? ⟨(ad178.add ((x3_1).toNat * 6)).block,(ad178.add ((x3_1).toNat * 6)).off + 4,none⟩=some (.string ((rd_T54 l0 x3_1).f1.f3)) ∧ w'.cell? ⟨(ad178.add ((x3_1).toNat * 6)).block,(ad178.add ((x3_1).toNat * 6)).off + 5,none⟩=some (.slice A178_5 ((rd_T54 l0 x3_1).f2).length c178_5)) (ds:=[]) (m_ 0 23) (by kernel_rfl) rfl rfl ⟨(bc_ HB hw178_0),(bc_ HB hw178_1),(bc_ HB hw178_2),(bc_ HB hw178_3),(bc_ HB hw178_4),(bc_ HB hw178_5)⟩ (fun hHeld=>?_);refine with_tabW spec_l18Entries.tab4 spec_l18Entries.bits4 (fun HT_ HW_=>?_)
      generalize wr.drew=w18 at HB HR178_5 hx178_0 hx178_1 hx178_2 hx178_3 hx178_4 hx178_5 hHeld ⊢
      refine pure_ (i:=0) (N:=some 10) (v:=?_) (a':=?_) (m_ 1 22) rfl rfl (any_of HT_.out (by kernel_rfl)) (fun _ _ _ h=>h) (Or.inl ⟨by rfl,?_⟩) ?_ ?_;rotate_left
      ·intro w';go_simp
       with_reducible rfl
      rotate_left
      ·simp only [Act.put,s1_,s2_,s3_,i64_w,i32_w];rfl
      refine pure_ (i:=1) (N:=some 11) (v:=?_) (a':=?_) (m_ 2 21) rfl rfl (any_of HT_.out (by kernel_rfl)) (fun _ _ _ h=>h) (Or.inl ⟨by rfl,?_⟩) ?_ ?_;rotate_left
      ·intro w';go_simp
       with_reducible rfl
      rotate_left
      ·simp only [Act.put,s1_,s2_,s3_,i64_w,i32_w];rfl
      refine pure_ (i:=2) (N:=some 12) (v:=?_) (a':=?_) (m_ 3 20) rfl rfl (any_of HT_.out (by kernel_rfl)) (fun _ _ _ h=>h) (Or.inl ⟨by rfl,?_⟩) ?_ ?_;rotate_left
      ·intro w';go_simp
       with_reducible rfl
      rotate_left
      ·simp only [Act.put,s1_,s2_,s3_,i64_w,i32_w];rfl
      refine take_ (i:=3) (N:=some 13) (v:=?_) (a':=?_) (m_ 4 19) rfl rfl (take_ofW HT_.out HW_.out (by kernel_rfl)) (fun _ _ _ h=>h) (Or.inl ⟨by rfl,?_⟩) hHeld ?_ ?_;rotate_left
      ·rintro w' ⟨s0,s1,s2,s3,s4,s5⟩;go_simp
       with_reducible rfl
      rotate_left
      ·simp only [Act.put,s1_,s2_,s3_,i64_w,i32_w];rfl
      refine one_ (i:=4) (N:=some 14) (m_ 5 18) rfl rfl (one_of HT_.out (by kernel_rfl)) (by decide) (fun K hK=>?_);refine goes_ Tryz.func89 (by kernel_rfl) rfl #[.agg #[.string ((rd_T54 l0 x3_1).f0),.int .i64 ((rd_T54 l0 x3_1).f1.f0),.int .i64 ((rd_T54 l0 x3_1).f1.f1),.int .i64 ((rd_T54 l0 x3_1).f1.f2),.string ((rd_T54 l0 x3_1).f1.f3),.slice A178_5 ((rd_T54 l0 x3_1).f2).length c178_5]] (by rfl) rfl rfl (by (try simp only [List.map_toArray,List.map_cons,List.map_nil]);rfl) ?_
      with_reducible refine (spec_EntryOk.calls k1 ((rd_T54 l0 x3_1).f0) ((rd_T54 l0 x3_1).f1.f0) ((rd_T54 l0 x3_1).f1.f1) ((rd_T54 l0 x3_1).f1.f2) ((rd_T54 l0 x3_1).f1.f3) _ _ ((rd_T54 l0 x3_1).f2) false _ ?side1 ?side2 A4.out).mono ?_
      (case side1=>repeat (exact (Kd.C_below HR178_5.out HB.out)))
      (case side2=>exact HC178_5.out)
      rintro e w19 ⟨rfl,hb⟩;refine ⟨_,rfl,?_⟩;have n0_:=a_ (below_step HB.out hb);clear HB;have HB:=n0_;clear n0_
      (try clear hb)
      (skip)
      (skip)
      (skip)
      refine hK.out _ _ ⟨(bc_ HB hw178_0),(bc_ HB hw178_1),(bc_ HB hw178_2),(bc_ HB hw178_3),(bc_ HB hw178_4),(bc_ HB hw178_5)⟩ (fun hHeld=>?_);clear hK K;refine norm_ (a':=?_) ?_ ?_;rotate_left
      ·show Act.put _ (some 14) _=_;simp only [Act.put,s1_,s2_,s3_,i64_w,i32_w];rfl
      refine pure_ (i:=5) (N:=some 15) (v:=?_) (a':=?_) (m_ 6 17) rfl rfl (any_of HT_.out (by kernel_rfl)) (fun _ _ _ h=>h) (Or.inl ⟨by rfl,?_⟩) ?_ ?_;rotate_left
      ·intro w';go_simp
       with_reducible rfl
      rotate_left
      ·simp only [Act.put,s1_,s2_,s3_,i64_w,i32_w];rfl
      refine pure_ (i:=6) (N:=some 16) (v:=?_) (a':=?_) (m_ 7 16) rfl rfl (any_of HT_.out (by kernel_rfl)) (fun _ _ _ h=>h) (Or.inl ⟨by rfl,?_⟩) ?_ ?_;rotate_left
      ·intro w';go_simp
       with_reducible rfl
      rotate_left
      ·simp only [Act.put,s1_,s2_,s3_,i64_w,i32_w];rfl
      refine pure_ (i:=7) (N:=some 17) (v:=undef) (a':=?_) (m_ 8 15) rfl rfl (any_of HT_.out (by kernel_rfl)) (fun _ _ _ h=>h) (Or.inr ⟨by rfl,rfl⟩) ?_ ?_;rotate_left
      ·simp only [Act.put,s1_,s2_,s3_,i64_w,i32_w];rfl
      refine pure_ (i:=8) (N:=some 18) (v:=undef) (a':=?_) (m_ 9 14) rfl rfl (any_of HT_.out (by kernel_rfl)) (fun _ _ _ h=>h) (Or.inr ⟨by rfl,rfl⟩) ?_ ?_;rotate_left
      ·simp only [Act.put,s1_,s2_,s3_,i64_w,i32_w];rfl
      refine pure_ (i:=9) (N:=some 19) (v:=undef) (a':=?_) (m_ 10 13) rfl rfl (any_of HT_.out (by kernel_rfl)) (fun _ _ _ h=>h) (Or.inr ⟨by rfl,rfl⟩) ?_ ?_;rotate_left
      ·simp only [Act.put,s1_,s2_,s3_,i64_w,i32_w];rfl
      refine pure_ (i:=10) (N:=some 20) (v:=undef) (a':=?_) (m_ 11 12) rfl rfl (any_of HT_.out (by kernel_rfl)) (fun _ _ _ h=>h) (Or.inr ⟨by rfl,rfl⟩) ?_ ?_;rotate_left
      ·simp only [Act.put,s1_,s2_,s3_,i64_w,i32_w];rfl
      refine pure_ (i:=11) (N:=some 21) (v:=undef) (a':=?_) (m_ 12 11) rfl rfl (any_of HT_.out (by kernel_rfl)) (fun _ _ _ h=>h) (Or.inr ⟨by rfl,rfl⟩) ?_ ?_;rotate_left
      ·simp only [Act.put,s1_,s2_,s3_,i64_w,i32_w];rfl
      refine pure_ (i:=12) (N:=some 22) (v:=undef) (a':=?_) (m_ 13 10) rfl rfl (any_of HT_.out (by kernel_rfl)) (fun _ _ _ h=>h) (Or.inr ⟨by rfl,rfl⟩) ?_ ?_;rotate_left
      ·simp only [Act.put,s1_,s2_,s3_,i64_w,i32_w];rfl
      refine pure_ (i:=13) (N:=some 23) (v:=undef) (a':=?_) (m_ 14 9) rfl rfl (any_of HT_.out (by kernel_rfl)) (fun _ _ _ h=>h) (Or.inr ⟨by rfl,rfl⟩) ?_ ?_;rotate_left
      ·simp only [Act.put,s1_,s2_,s3_,i64_w,i32_w];rfl
      refine pure_ (i:=14) (N:=some 24) (v:=undef) (a':=?_) (m_ 15 8) rfl rfl (any_of HT_.out (by kernel_rfl)) (fun _ _ _ h=>h) (Or.inr ⟨by rfl,rfl⟩) ?_ ?_;rotate_left
      ·simp only [Act.put,s1_,s2_,s3_,i64_w,i32_w];rfl
      refine pure_ (i:=15) (N:=some 25) (v:=undef) (a':=?_) (m_ 16 7) rfl rfl (any_of HT_.out (by kernel_rfl)) (fun _ _ _ h=>h) (Or.inr ⟨by rfl,rfl⟩) ?_ ?_;rotate_left
      ·simp only [Act.put,s1_,s2_,s3_,i64_w,i32_w];rfl
      refine pure_ (i:=16) (N:=some 26) (v:=undef) (a':=?_) (m_ 17 6) rfl rfl (any_of HT_.out (by kernel_rfl)) (fun _ _ _ h=>h) (Or.inr ⟨by rfl,rfl⟩) ?_ ?_;rotate_left
      ·simp only [Act.put,s1_,s2_,s3_,i64_w,i32_w];rfl
      refine pure_ (i:=17) (N:=some 27) (v:=undef) (a':=?_) (m_ 18 5) rfl rfl (any_of HT_.out (by kernel_rfl)) (fun _ _ _ h=>h) (Or.inr ⟨by rfl,rfl⟩) ?_ ?_;rotate_left
      ·simp only [Act.put,s1_,s2_,s3_,i64_w,i32_w];rfl
      refine pure_ (i:=18) (N:=some 28) (v:=undef) (a':=?_) (m_ 19 4) rfl rfl (any_of HT_.out (by kernel_rfl)) (fun _ _ _ h=>h) (Or.inr ⟨by rfl,rfl⟩) ?_ ?_;rotate_left
      ·simp only [Act.put,s1_,s2_,s3_,i64_w,i32_w];rfl
      refine pure_ (i:=19) (N:=some 29) (v:=undef) (a':=?_) (m_ 20 3) rfl rfl (any_of HT_.out (by kernel_rfl)) (fun _ _ _ h=>h) (Or.inr ⟨by rfl,rfl⟩) ?_ ?_;rotate_left
      ·simp only [Act.put,s1_,s2_,s3_,i64_w,i32_w];rfl
      refine pure_ (i:=20) (N:=some 30) (v:=undef) (a':=?_) (m_ 21 2) rfl rfl (any_of HT_.out (by kernel_rfl)) (fun _ _ _ h=>h) (Or.inr ⟨by rfl,rfl⟩) ?_ ?_;rotate_left
      ·simp only [Act.put,s1_,s2_,s3_,i64_w,i32_w];rfl
      refine pure_ (i:=21) (N:=some 31) (v:=undef) (a':=?_) (m_ 22 1) rfl rfl (any_of HT_.out (by kernel_rfl)) (fun _ _ _ h=>h) (Or.inr ⟨by rfl,rfl⟩) ?_ ?_;rotate_left
      ·simp only [Act.put,s1_,s2_,s3_,i64_w,i32_w];rfl
      refine pure_ (i:=22) (N:=some 32) (v:=?_) (a':=?_) (m_ 23 0) rfl rfl (any_of HT_.out (by kernel_rfl)) (fun _ _ _ h=>h) (Or.inl ⟨by rfl,?_⟩) ?_ ?_;rotate_left
      ·intro w';go_simp
       with_reducible rfl
      rotate_left
      ·simp only [Act.put,s1_,s2_,s3_,i64_w,i32_w];rfl
      refine done_ (done_of HT_.out (by kernel_rfl)) ?_
      try go_wp2
      go_ret
      exact ⟨by rfl,by exact HB.out⟩
    ·rw [if_neg c3] at H;exact absurd H (by simp)
   ·rw [if_neg c2] at H;have c2b0:decide (x3_1 < (l0.length:Int))=false:=decide_eq_false c2;clear c2;obtain rfl:=Option.some.inj H
    go_wp2
    go_ret
    exact ⟨by rfl,by exact HB.out⟩
end Go.Proofs.YtfpdikledfhcaaaGreatDoor.PFnExactClientOk
