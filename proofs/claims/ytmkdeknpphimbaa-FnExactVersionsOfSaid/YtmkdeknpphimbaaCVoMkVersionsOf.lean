import Derived.Test.YtmkdeknpphimbaaCVoPFnExactVersionsOfx
import Derived.Test.YtmkdeknpphimbaaCVoEFnExactVersionsOf
namespace Go.Proofs.Ytmkdeknpphimbaa.PFnExactVersionsOf
open Go Go.RowKit Go.Proofs.YtmkdeknpphimbaaW.PrintWords Go.Proofs.YtmkdeknpphimbaaW.PrintLast Go.Proofs.YtmkdeknpphimbaaW.PrintMore Go.Proofs.Ytmkdeknpphimbaa.Ev
set_option linter.unusedVariables false
set_option linter.unusedSimpArgs false
abbrev En := S46
abbrev el (xs : List En) (i : Nat) : En := xs.getD i z46
def cnt : List En → Int
  | [] => 0
  | x :: xs => 5 + 5 * (x.f2.length : Int) + cnt xs
theorem cnt_nonneg : ∀ xs : List En, 0 ≤ cnt xs
  | [] => Int.le_refl _
  | x :: xs => by have := cnt_nonneg xs; simp only [cnt]; omega
theorem cnt_append : ∀ xs ys : List En, cnt (xs ++ ys) = cnt xs + cnt ys
  | [], ys => by simp [cnt]
  | x :: xs, ys => by simp only [List.cons_append, cnt, cnt_append xs ys]; omega
theorem cnt_take (xs : List En) (i : Nat) (h : i < xs.length) : cnt (xs.take (i + 1)) = cnt (xs.take i) + (5 + 5 * ((el xs i).f2.length : Int)) := by
  rw [List.take_succ_eq_append_getElem h, cnt_append]
  simp only [cnt, getD_lt h]
  omega
theorem cnt_take_le (xs : List En) (i : Nat) : cnt (xs.take i) ≤ cnt xs := by
  have h := cnt_append (xs.take i) (xs.drop i)
  rw [List.take_append_drop] at h
  have := cnt_nonneg (xs.drop i)
  omega
theorem el_same {xs : List En} {i : Nat} {v : En} (h : i < xs.length) : el (xs.set i v) i = v := by simp [el, List.getD, h]
section
variable {w w1 : World} {base g n cap : Nat} {ok : Nat → Prop} {xs : List En}
theorem at_entry (h : Kd.S k46 46 w base ok (.slice (some ⟨g, 0, none⟩) n cap) xs) (i : Nat) (hi : i < n) :
    ∃ v5 : Value, w.cell? ⟨g, i * 6, none⟩ = some (.string (el xs i).f0) ∧ w.cell? ⟨g, i * 6 + 1, none⟩ = some (.int .i64 (el xs i).f1.f0) ∧ w.cell? ⟨g, i * 6 + 2, none⟩ = some (.int .i64 (el xs i).f1.f1) ∧ w.cell? ⟨g, i * 6 + 3, none⟩ = some (.int .i64 (el xs i).f1.f2) ∧ w.cell? ⟨g, i * 6 + 4, none⟩ = some (.string (el xs i).f1.f3) ∧ w.cell? ⟨g, i * 6 + 5, none⟩ = some v5 ∧ ∀ j, w.frozen? ⟨g, i * 6 + j, none⟩ = false := by
  obtain ⟨oki, c, hcl, hM, hcc, hfr, _, _⟩ := Kd.S_elem h z46 (i : Int) (by omega) (by omega)
  obtain ⟨v5, rfl, _⟩ := k46_openM hM
  exact ⟨v5, hcc 0 _ rfl, hcc 1 _ rfl, hcc 2 _ rfl, hcc 3 _ rfl, hcc 4 _ rfl, hcc 5 _ rfl, hfr⟩
theorem seg1 (h : Kd.S k46 46 w base ok (.slice (some ⟨g, 0, none⟩) n cap) xs) (i : Nat) (hi : i < n) (j : Nat) (hj : j < 5) (u : Value) (x' : En)
    (hx : ∀ v5, (([.string (el xs i).f0, .int .i64 (el xs i).f1.f0, .int .i64 (el xs i).f1.f1, .int .i64 (el xs i).f1.f2, .string (el xs i).f1.f3, v5] : List Value).take j ++ [u] ++ ([.string (el xs i).f0, .int .i64 (el xs i).f1.f0, .int .i64 (el xs i).f1.f1, .int .i64 (el xs i).f1.f2, .string (el xs i).f1.f3, v5] : List Value).drop (j + 1)) = [.string x'.f0, .int .i64 x'.f1.f0, .int .i64 x'.f1.f1, .int .i64 x'.f1.f2, .string x'.f1.f3, v5]) (hf : x'.f2 = (el xs i).f2) :
    Kd.S k46 46 (w.setCell ⟨g, i * 6 + j, none⟩ u) base ok (.slice (some ⟨g, 0, none⟩) n cap) (xs.set i x') ∧ w.grownBy (w.setCell ⟨g, i * 6 + j, none⟩ u) (some g) := by
  have h' : Kd.S k46 46 w base (fun k => ok k ∧ ¬ False) (.slice (some ⟨g, 0, none⟩) n cap) xs := Kd.S_mono h (fun k hk => ⟨hk, id⟩)
  obtain ⟨oki, c, hcl, hM, hcc, hfr, hoki, hH⟩ := Kd.S_elem h' z46 (i : Int) (by omega) (by omega)
  obtain ⟨v5, rfl, g5⟩ := k46_openM hM
  have g5' : k78.R 78 w base oki v5 x'.f2 := hf ▸ g5
  exact Kd.S_seg (okg := fun _ => False) hH (by omega) (by omega) (seg := [u]) (j := j) (show j + 1 ≤ 6 by omega) (x' := x') (okp := oki) (hx v5 ▸ k46_mkM w base oki x' g5') (fun _ hk => .inl hk) (fun _ hk => hk.elim)
theorem plain4 (h : Kd.S k46 46 w base ok (.slice (some ⟨g, 0, none⟩) n cap) xs) (i : Nat) (hi : i < n) (t : ByteArray) (c1 c2 c3 : Int) :
    Kd.S k46 46 ((((w.setCell ⟨g, i * 6, none⟩ (.string t)).setCell ⟨g, i * 6 + 1, none⟩ (.int .i64 c1)).setCell ⟨g, i * 6 + 1 + 1, none⟩ (.int .i64 c2)).setCell ⟨g, i * 6 + 1 + 2, none⟩ (.int .i64 c3)) base ok (.slice (some ⟨g, 0, none⟩) n cap) (xs.set i ⟨t, ⟨c1, c2, c3, (el xs i).f1.f3⟩, (el xs i).f2⟩) := by
  have h' : Kd.S k46 46 w base (fun k => ok k ∧ ¬ False) (.slice (some ⟨g, 0, none⟩) n cap) xs := Kd.S_mono h (fun k hk => ⟨hk, id⟩)
  obtain ⟨oki, c, hcl, hM, hcc, hfr, hoki, hH⟩ := Kd.S_elem h' z46 (i : Int) (by omega) (by omega)
  obtain ⟨v5, rfl, g5⟩ := k46_openM hM
  exact (Kd.S_seg (okg := fun _ => False) hH (by omega) (by omega) (seg := [.string t, .int .i64 c1, .int .i64 c2, .int .i64 c3]) (j := 0) (show 4 ≤ 6 by omega) (x' := ⟨t, ⟨c1, c2, c3, (el xs i).f1.f3⟩, (el xs i).f2⟩) (okp := oki) (k46_mkM w base oki ⟨t, ⟨c1, c2, c3, (el xs i).f1.f3⟩, (el xs i).f2⟩ g5) (fun _ hk => .inl hk) (fun _ hk => hk.elim)).1
theorem lend (h : Kd.S k46 46 w base ok (.slice (some ⟨g, 0, none⟩) n cap) xs) (i : Nat) (hi : i < n) :
    ∃ v5 oki, w.cell? ⟨g, i * 6 + 5, none⟩ = some v5 ∧ k78.R 78 w base oki v5 (el xs i).f2 ∧ (∀ k, oki k → ok k) ∧
      ∀ {w1 : World} {ys : List S78}, w.grownBy w1 v5.ownBlock → k78.R 78 w1 base oki v5 ys → Kd.S k46 46 w1 base ok (.slice (some ⟨g, 0, none⟩) n cap) (xs.set i ⟨(el xs i).f0, (el xs i).f1, ys⟩) := by
  obtain ⟨oki, c, hcl, hM, hcc, hoki, hback⟩ := Kd.S_borrow h z46 (i : Int) (by omega) (by omega)
  obtain ⟨v5, rfl, g5⟩ := k46_openM hM
  refine ⟨v5, oki, ?_, g5, fun k hk => (hoki k hk).1, fun {w1 ys} hg h1 => ?_⟩
  · have := hcc 5 _ rfl
    rw [show (k46).sz = 6 from rfl, Addr.add, if_neg (by omega)] at this
    simpa using this
  · exact hback hg (fun k hk => g5.1 k hk) (k46_mkM w1 base oki ⟨(el xs i).f0, (el xs i).f1, ys⟩ h1)
theorem grown_of {w0 w w' : World} {row : Option Nat} (hb : Below w0.heap.size w0 w) (hb' : Below w0.heap.size w0 w') (hk : Kept w w' (fun k => some k = row)) : w.grownBy w' row :=
  ⟨hb'.os.trans hb.os.symm, hb'.tape.trans hb.tape.symm, hb'.output.trans hb.output.symm, hk.1, fun k h1 h2 => hk.2 k h1 h2⟩
end
structure Inv (P : Nat → Prop) (l : List En) (a1 : Int) (w0 w : World) (u : Value) (i : Nat) (c : Int) (wr : World) : Prop where
  xs : ∃ xs : List En, xs.length = l.length ∧ (∀ j, (el xs j).f2.length = (el l j).f2.length) ∧ Kd.S k46 46 wr w0.heap.size P u xs
  cc : c = a1 + cnt (l.take i)
  le : i ≤ l.length
  bel : Below w0.heap.size w0 wr
  kept : Kept w wr P
theorem el_set (xs : List En) (i : Nat) (x' : En) (hx : x'.f2.length = (el xs i).f2.length) (j : Nat) : (el (xs.set i x') j).f2.length = (el xs j).f2.length := by
  simp only [el, List.getD_eq_getElem?_getD, List.getElem?_set]
  by_cases h : i = j
  · subst h
    by_cases hi : i < xs.length
    · simp only [hi, if_true, Option.getD_some]
      exact hx
    · simp [hi]
  · simp [h]
theorem plain5 {w : World} {base g n cap : Nat} {ok : Nat → Prop} {xs : List En} {t : ByteArray} {c1 c2 c3 : Int} {i : Nat} (h : Kd.S k46 46 w base ok (.slice (some ⟨g, 0, none⟩) n cap) (xs.set i ⟨t, ⟨c1, c2, c3, (el xs i).f1.f3⟩, (el xs i).f2⟩)) (hi : i < n) (hx : i < xs.length) (t' : ByteArray) :
    Kd.S k46 46 (w.setCell ⟨g, i * 6 + 1 + 3, none⟩ (.string t')) base ok (.slice (some ⟨g, 0, none⟩) n cap) (xs.set i ⟨t, ⟨c1, c2, c3, t'⟩, (el xs i).f2⟩) := by
  have h := (seg1 h i hi 4 (by omega) (.string t') ⟨t, ⟨c1, c2, c3, t'⟩, (el xs i).f2⟩ (fun v5 => by rw [el_same hx]; rfl) (by rw [el_same hx])).1
  rw [List.set_set] at h
  exact h
theorem same_f2 {w : World} {base i : Nat} {ok : Nat → Prop} {v : Value} {xs : List En} {x : En} (h : i < xs.length) (hR : k78.R 78 w base ok v (el (xs.set i x) i).f2) : k78.R 78 w base ok v x.f2 := by
  rw [el_same h] at hR
  exact hR
theorem cell_other (w : World) (g i : Nat) (u : Value) : (w.setCell ⟨g, i * 6 + 1 + 3, none⟩ u).cell? ⟨g, i * 6 + 5, none⟩ = w.cell? ⟨g, i * 6 + 5, none⟩ := by
  apply World.cell?_setCell_other
  intro e
  injection e with _ e
  omega
theorem final {P oki : Nat → Prop} {l xs : List En} {a1 c c' : Int} {w0 w w3 w4 : World} {u v6 : Value} {i : Nat} {f : List S78} {ys : List S78}
    (back : w3.grownBy w4 v6.ownBlock → k78.R 78 w4 w0.heap.size oki v6 ys → Kd.S k46 46 w4 w0.heap.size P u (xs.set i ⟨(el xs i).f0, (el xs i).f1, ys⟩))
    (hxl : xs.length = l.length) (hxn : ∀ j, (el xs j).f2.length = (el l j).f2.length) (hcc : c = a1 + cnt (l.take i)) (hct : cnt (l.take (i + 1)) = cnt (l.take i) + (5 + 5 * ((el l i).f2.length : Int))) (hlt : i < l.length)
    (hB3 : Below w0.heap.size w0 w3) (hB4 : Below w0.heap.size w0 w4) (hK4 : Kept w3 w4 (fun k => some k = v6.ownBlock)) (hK3 : Kept w w3 P) (hR : k78.R 78 w3 w0.heap.size oki v6 f) (hoki : ∀ k, oki k → P k)
    (hR4 : k78.R 78 w4 w0.heap.size (fun k => some k = v6.ownBlock ∨ w3.heap.size ≤ k) v6 ys) (hys : ys.length = (el xs i).f2.length) (hc' : c' = c + 1 + 1 + 1 + 1 + 1 + 5 * ((el xs i).f2.length : Int)) : Inv P l a1 w0 w u (i + 1) c' w4 := by
  refine ⟨⟨_, by rw [List.length_set]; exact hxl, fun j => ?_, back (grown_of hB3 hB4 hK4) (Kd.R_reok rfl hR4 (fun k hk => hR.1 k hk))⟩, by rw [hc', hxn i, hct, hcc]; omega, hlt, hB4, hK3.then_ hK4 (fun k hk => .inl (hoki k (hR.1 k hk.symm)))⟩
  rw [el_set xs i _ hys j]
  exact hxn j
set_option maxHeartbeats 4000000 in
set_option maxRecDepth 100000 in
theorem markEntryS_any (P : Nat → Prop) (u : Value) (l : List En) (a1 : Int) (w0 w : World) (hB : Below w0.heap.size w0 w) (ho : Kd.S k46 46 w w0.heap.size P u l) (h0 : 0 ≤ a1) (h1 : a1 + cnt l ≤ 4611686018427387904) (hl : l.length ≤ 281474976710656) (hn : ∀ i, (el l i).f2.length ≤ 281474976710656) :
    Calls Try.prog 19 #[u, .int .i64 a1] w fun e w' => e = .returned (.int .i64 (a1 + cnt l)) ∧ Below w0.heap.size w0 w' ∧ Kept w w' P := by
  have HI := Aside0.mk (⟨⟨l, rfl, fun _ => rfl, ho⟩, by simp [cnt], Nat.zero_le _, hB, Kept.refl _ _⟩ : Inv P l a1 w0 w u 0 a1 w)
  have H1 := Aside0.mk h1
  have HN := Aside0.mk hn
  have HC := Aside0.mk (cnt_nonneg l)
  obtain ⟨A, cp, rfl⟩ := Kd.S_slice ho
  clear ho hB h1 hn
  go_enter Try.func19, Try.ntmps19
  go_wp2
  go_loopw [1, 5] (fun v1 v5 wr => ∃ (c : Int) (i : Nat), v1 = .int .i64 c ∧ v5 = .int .i64 i ∧ Aside0 (Inv P l a1 w0 w (.slice A l.length cp) i c wr)) (fun _ v5 _ => l.length - (intOf v5).toNat)
  case atStart => exact ⟨a1, 0, rfl, rfl, HI⟩
  case round =>
    obtain ⟨c, i, rfl, rfl, HV⟩ := hrel
    clear HI
    by_cases hlt : i < l.length
    · obtain ⟨⟨xs, hxl, hxn, hS⟩, hcc, hle, hb, hk⟩ := HV.out
      have hct := cnt_take l i hlt
      have hcl := cnt_take_le l (i + 1)
      have hc0 : 0 ≤ c := by have := cnt_nonneg (l.take i); omega
      have hc1 : c + (5 + 5 * ((el l i).f2.length : Int)) ≤ 4611686018427387904 := by have := H1.out; omega
      obtain ⟨g, cap, eg, hbg, hgl, _⟩ := Kd.S_form hS (by omega)
      injection eg with e1 e2 e3
      subst e1 e3
      have HS := Aside0.mk hS
      have HB := Aside0.mk hb
      have HK := Aside0.mk hk
      have HG := Aside0.mk hbg
      have HL := Aside0.mk hxl
      have HX := Aside0.mk hxn
      have HP := Aside0.mk ((Kd.S_R hS).1 g rfl)
      have HH := Aside0.mk (And.intro hcc (And.intro hct hcl))
      have hc2 : c + 5 ≤ 4611686018427387904 := by omega
      have HC1 := Aside0.mk hc1
      clear hS hb hk hbg hxl hxn hcc hct hcl hc1 e2 hgl HV
      obtain ⟨k1, hk1⟩ := (mt_ev c (by omega)).rounds
      obtain ⟨k2, hk2⟩ := (mt_ev (c + 1 + 1 + 1 + 1) (by omega)).rounds
      have K1 := Aside0.mk hk1
      have K2 := Aside0.mk hk2
      obtain ⟨k3, hk3⟩ := (markNeedS (el xs i).f2 (by rw [HX.out]; exact HN.out i) (c + 1 + 1 + 1 + 1 + 1) (by omega) (by rw [HX.out]; have := HC1.out; omega)).rounds
      obtain ⟨ys, hys⟩ : ∃ ys, ys = (List.range (el xs i).f2.length).map fun (j : Nat) => mkNeed (c + 1 + 1 + 1 + 1 + 1 + 5 * j) := ⟨_, rfl⟩
      rw [← hys] at hk3
      have K3 := Aside0.mk hk3
      have K4 := Aside0.mk (show ys.length = (el xs i).f2.length by rw [hys]; simp)
      clear hk1 hk2 hk3 hys
      go_wp2_with (go_at_call 54; (with_reducible refine (laws_markText.calls k1 c (mt c) _ K1.out).mono ?_); rintro e w1 ⟨rfl, hb1⟩; have HS1 := Aside0.mk (Kd.S_below HS.out hb1); have HB1 := Aside0.mk (below_step HB.out hb1); have HK1 := Aside0.mk (Kept.below HK.out hb1); obtain ⟨v5, hx0, hx1, hx2, hx3, hx4, hx5, hfr⟩ := at_entry HS1.out i hlt; have hf0 : w1.frozen? ⟨g, i * 6, none⟩ = false := hfr 0; have hf1 := hfr 1; have hf2 := hfr 2; have hf3 := hfr 3; clear hfr)
      (with_reducible refine (laws_markText.calls k2 (c + 1 + 1 + 1 + 1) (mt (c + 1 + 1 + 1 + 1)) _ K2.out).mono ?_)
      rintro e w2 ⟨rfl, hb2⟩
      have HS2 := Aside0.mk (Kd.S_below (plain4 HS1.out i hlt (mt c) (c + 1) (c + 1 + 1) (c + 1 + 1 + 1)) hb2)
      have HB2 := Aside0.mk (below_step (below_set (below_set (below_set (below_set HB1.out HG.out) HG.out) HG.out) HG.out) hb2)
      have HK2 := Aside0.mk (Kept.below (Kept.setCell (Kept.setCell (Kept.setCell (Kept.setCell HK1.out (.inl HP.out) _) (.inl HP.out) _) (.inl HP.out) _) (.inl HP.out) _) hb2)
      clear hx0 hx1 hx2 hx3 hx4 hx5 hf0 hf1 hf2 hf3
      obtain ⟨v7, -, -, -, -, hx4, -, hfr⟩ := at_entry HS2.out i hlt
      have hf4 := hfr 4
      clear hfr
      have HS3 := Aside0.mk (plain5 HS2.out hlt (by rw [HL.out]; exact hlt) (mt (c + 1 + 1 + 1 + 1)))
      have HB3 := Aside0.mk (below_set HB2.out HG.out : Below w0.heap.size w0 (w2.setCell ⟨g, i * 6 + 1 + 3, none⟩ (.string (mt (c + 1 + 1 + 1 + 1)))))
      have HK3 := Aside0.mk (Kept.setCell (p := ⟨g, i * 6 + 1 + 3, none⟩) HK2.out (.inl HP.out) (.string (mt (c + 1 + 1 + 1 + 1))))
      obtain ⟨v6, oki, hx5, hR, hoki, back⟩ := lend HS3.out i hlt
      rw [cell_other] at hx5
      have hR' := same_f2 (by rw [HL.out]; exact hlt) hR
      have HR' := Aside0.mk hR'
      have HR := Aside0.mk hR
      have HO := Aside0.mk hoki
      have BK := Aside0.mk (fun w1 ys => @back w1 ys)
      clear hR hR' hoki back
      go_wp2_with (fail)
      (with_reducible refine (laws_markNeedS.calls k3 (fun k => some k = v6.ownBlock) v6 (el xs i).f2 (c + 1 + 1 + 1 + 1 + 1) (c + 1 + 1 + 1 + 1 + 1 + 5 * (el xs i).f2.length) ys w0 _ HB3.out (Kd.R_tight rfl HR'.out) K3.out).mono ?_)
      rintro e w4 ⟨rfl, hR4, hB4, hK4⟩
      have HV4 := Aside0.mk (final (BK.out w4 ys) (by rw [List.length_set]; exact HL.out) (fun j => (el_set xs i ⟨mt c, ⟨c + 1, c + 1 + 1, c + 1 + 1 + 1, mt (c + 1 + 1 + 1 + 1)⟩, (el xs i).f2⟩ rfl j).trans (HX.out j)) HH.out.1 HH.out.2.1 hlt HB3.out hB4 hK4 HK3.out HR.out HO.out hR4 (by rw [K4.out, el_same (by rw [HL.out]; exact hlt)]) (by rw [el_same (by rw [HL.out]; exact hlt)]))
      clear hR4 hB4 hK4
      go_wp2_with (fail)
      go_roundw
      case rel => exact ⟨_, i + 1, by go_num, by go_num, HV4⟩
      case measure => simp [intOf]; omega
    · have hle := HV.out.le
      have e : i = l.length := by omega
      subst e
      have HF := Aside0.mk (show a1 + cnt l = c by rw [HV.out.cc, List.take_length])
      have HB := Aside0.mk HV.out.bel
      have HK := Aside0.mk HV.out.kept
      clear HV hlt hle
      go_wp2
      go_ret
      exact ⟨congrArg (fun x => Ending.returned (Value.int IntKind.i64 x)) HF.out.symm, HB.out, HK.out⟩
theorem markEntryS_to (P : Nat → Prop) (u : Value) (l : List En) (a1 : Int) (w0 w : World) (hB : Below w0.heap.size w0 w) (ho : Kd.S k46 46 w w0.heap.size P u l) {m : Int} (hm : m = a1 + cnt l) (h0 : 0 ≤ a1) (h1 : m ≤ 4611686018427387904) (hl : l.length ≤ 281474976710656) (hn : ∀ i, (el l i).f2.length ≤ 281474976710656) :
    Calls Try.prog 19 #[u, .int .i64 a1] w fun e w' => e = .returned (.int .i64 m) ∧ Below w0.heap.size w0 w' ∧ Kept w w' P := by
  subst hm
  exact markEntryS_any P u l a1 w0 w hB ho h0 h1 hl hn
end Go.Proofs.Ytmkdeknpphimbaa.PFnExactVersionsOf
