import Derived.Test.YtmkdeknpphimbaaDoorProg
import Derived.WalkLawsBesides
import Derived.Below
import Derived.Deep.Draws
import Derived.Deep.AppendLies
import Derived.Maps.AppendAt
import Derived.OwnWalk
import Derived.Laws.BytesArg
import Derived.Laws.MakeOwn
import Derived.Laws.OwnMore
import Derived.Deep.OwnRows
import Derived.Tactics
import Derived.Lib.ConvBytes
import Derived.Laws.Slices
import Derived.WalkKit
import Derived.KernelRfl
import Derived.RowKit3
import Derived.Deep.LoopGhost
import Derived.Deep.QuietTactic
import Derived.BigQuiet
import Derived.WideLaws
import Derived.Deep.DeepCutAuto
import Derived.Deep.CutBlock
import Derived.Deep.RegionHeld3
import Derived.Laws.Rows
import Derived.Lib.AppendStr
import Derived.ArgAppend
import Derived.Laws.IdiomCopy
import Derived.OrdersHeld
import Derived.Laws.BitsLemmas
import Derived.RowKit
import Derived.Shelf.Strings.Split
import Derived.Test.YtmkdeknpphimbaaDoorCCeWWords
import Derived.Test.YtmkdeknpphimbaaDoorCCeWLast
import Derived.Test.YtmkdeknpphimbaaDoorCCeWTab
import Derived.Test.YtmkdeknpphimbaaDoorCCeWApart
import Derived.Test.YtmkdeknpphimbaaDoorCCeWArr
import Derived.Test.YtmkdeknpphimbaaDoorCCeWZeros
import Derived.Test.YtmkdeknpphimbaaDoorCCeWFoot
import Derived.Test.YtmkdeknpphimbaaDoorCCeWKept
import Derived.Test.YtmkdeknpphimbaaDoorCCeWShare
import Derived.Test.YtmkdeknpphimbaaDoorCCeWN
import Derived.Test.YtmkdeknpphimbaaDoorCCeWEqStruct
import Derived.Test.YtmkdeknpphimbaaDoorCCeWRepsOne
import Derived.Test.YtmkdeknpphimbaaDoorCCeWInv
import Derived.Test.YtmkdeknpphimbaaDoorCCeWGuard
import Derived.Test.YtmkdeknpphimbaaDoorCCeWMore
namespace Go.Proofs.YtmkdeknpphimbaaDoor.PFnClosed
open Go.RowKit Go.Proofs.YtmkdeknpphimbaaDoorW.PrintWords Go.Proofs.YtmkdeknpphimbaaDoorW.PrintLast Go.Proofs.YtmkdeknpphimbaaDoorW.PrintMore
attribute [local go_sem] max2_int min2_int max_two min_two max_three min_three max_four min_four
set_option linter.unusedVariables false
set_option linter.unusedSimpArgs false
def errW:Option Int → Value
 | none=>.nilIface
 | some c=>.iface 0 (.int .i64 c)
theorem bne_nil_ (l:List UInt8):(l != []) = !l.isEmpty:=by cases l <;> rfl
theorem errW_none:errW none = .nilIface:=rfl
theorem errW_some (c:Int):errW (some c) = .iface 0 (.int .i64 c):=rfl
theorem info3:(Tryd.prog.info? 3).map (fun i=>(i.zero,i.size,i.bytes))=some (some (.int .i64 0),1,8):=by kernel_rfl
theorem info9:(Tryd.prog.info? 9).map (fun i=>(i.zero,i.size,i.bytes))=some (some (.string ⟨#[]⟩),1,16):=by kernel_rfl
theorem info36:(Tryd.prog.info? 36).map (fun i=>(i.zero,i.size,i.bytes))=some (some (.agg #[(.string ⟨#[]⟩),(.int .i64 0),(.int .i64 0),(.int .i64 0),(.string ⟨#[]⟩)]),5,56):=by kernel_rfl
theorem info47:(Tryd.prog.info? 47).map (fun i=>(i.zero,i.size,i.bytes))=some (some (.agg #[(.string ⟨#[]⟩),(.int .i64 0),(.int .i64 0),(.int .i64 0),(.string ⟨#[]⟩),(.slice none 0 0)]),6,80):=by kernel_rfl
def rd_L2 (xs:List (List ByteArray)) (i:Int):(List ByteArray):=xs.getD i.toNat ([]:List ByteArray)
theorem at_L2 {w:World} {A:Option Addr} {n:Nat} {xs:List (List ByteArray)} (h:Kd.C (Kd.slice 9 Kd.string) w A n xs) (i:Int) (h0:0 ≤ i) (h1:i < n) : ∃ ad A0 c0,A=some ad ∧ w.cell? (ad.add i.toNat)=some (.slice A0 (rd_L2 xs i).length c0) ∧ (rd_L2 xs i).length ≤ c0 ∧ Kd.string.C w A0 (rd_L2 xs i).length (rd_L2 xs i):=by
 obtain ⟨ad,c,e,_,hK,hc0⟩:=Kd.C_get h ([]:List ByteArray) i h0 h1;have hc : ∀ j u,c[j]? = some u → w.cell? (ad.add (i.toNat * 1 + j))=some u:=hc0;obtain ⟨A0,c0,rfl,l0,g0⟩:=hK;exact ⟨ad,A0,c0,e,by have hq:=hc 0 _ rfl;rwa [Nat.mul_one,Nat.add_zero] at hq,l0,g0⟩
structure S33 where
 f0:Int
 f1:Int
 f2:Int
 f3:ByteArray
def z33:S33:=⟨(0:Int),(0:Int),(0:Int),(⟨#[]⟩:ByteArray)⟩
def k33:Kd S33:=Kd.iso (Kd.pair (Kd.int .i64) (Kd.pair (Kd.int .i64) (Kd.pair (Kd.int .i64) Kd.string))) (fun x:S33=>(x.f0,x.f1,x.f2,x.f3))
theorem k33_open {w:World} {x:S33} {cs:List Value} (h:k33.K w x cs):cs=[.int .i64 x.f0,.int .i64 x.f1,.int .i64 x.f2,.string x.f3]:=by
 obtain ⟨_,_,rfl,rfl,⟨_,_,rfl,rfl,⟨_,_,rfl,rfl,rfl⟩⟩⟩:=h;exact rfl
theorem k33_openM {w:World} {base:Nat} {ok:Nat → Prop} {x:S33} {cs:List Value} (h:k33.M w base ok x cs):cs=[.int .i64 x.f0,.int .i64 x.f1,.int .i64 x.f2,.string x.f3]:=by
 obtain ⟨_,_,rfl,rfl,⟨_,_,rfl,rfl,⟨_,_,rfl,rfl,rfl⟩⟩⟩:=h;exact rfl
theorem k33_mk (w:World) (x:S33)  : k33.K w x [.int .i64 x.f0,.int .i64 x.f1,.int .i64 x.f2,.string x.f3]:=⟨[.int .i64 x.f0],[.int .i64 x.f1,.int .i64 x.f2,.string x.f3],rfl,rfl,⟨[.int .i64 x.f1],[.int .i64 x.f2,.string x.f3],rfl,rfl,⟨[.int .i64 x.f2],[.string x.f3],rfl,rfl,rfl⟩⟩⟩
theorem k33_mkM (w:World) (base:Nat) (ok:Nat → Prop) (x:S33)  : k33.M w base ok x [.int .i64 x.f0,.int .i64 x.f1,.int .i64 x.f2,.string x.f3]:=⟨[.int .i64 x.f0],[.int .i64 x.f1,.int .i64 x.f2,.string x.f3],rfl,rfl,⟨[.int .i64 x.f1],[.int .i64 x.f2,.string x.f3],rfl,rfl,⟨[.int .i64 x.f2],[.string x.f3],rfl,rfl,rfl⟩⟩⟩
def rd_T33 (xs:List S33) (i:Int):S33:=xs.getD i.toNat z33
theorem at_T33 {w:World} {A:Option Addr} {n:Nat} {xs:List S33} (h:Kd.C k33 w A n xs) (i:Int) (h0:0 ≤ i) (h1:i < n) : ∃ ad ,A=some ad ∧ w.cell? (ad.add (i.toNat * 4))=some (.int .i64 (rd_T33 xs i).f0) ∧ w.cell? ⟨(ad.add (i.toNat * 4)).block,(ad.add (i.toNat * 4)).off + 1,none⟩=some (.int .i64 (rd_T33 xs i).f1) ∧ w.cell? ⟨(ad.add (i.toNat * 4)).block,(ad.add (i.toNat * 4)).off + 2,none⟩=some (.int .i64 (rd_T33 xs i).f2) ∧ w.cell? ⟨(ad.add (i.toNat * 4)).block,(ad.add (i.toNat * 4)).off + 3,none⟩=some (.string (rd_T33 xs i).f3):=by
 obtain ⟨ad,c,e,_,hK,hc0⟩:=Kd.C_get h z33 i h0 h1;have hc : ∀ j u,c[j]? = some u → w.cell? (ad.add (i.toNat * 4 + j))=some u:=hc0;obtain rfl:=k33_open hK;exact ⟨ad,e,hc 0 _ rfl,by rw [← add_field _ _ 1 (by omega)];exact hc 1 _ rfl,by rw [← add_field _ _ 2 (by omega)];exact hc 2 _ rfl,by rw [← add_field _ _ 3 (by omega)];exact hc 3 _ rfl⟩
structure S36 where
 f0:ByteArray
 f1:S33
def z36:S36:=⟨(⟨#[]⟩:ByteArray),z33⟩
def k36:Kd S36:=Kd.iso (Kd.pair Kd.string k33) (fun x:S36=>(x.f0,x.f1))
theorem k36_open {w:World} {x:S36} {cs:List Value} (h:k36.K w x cs):cs=[.string x.f0,.int .i64 x.f1.f0,.int .i64 x.f1.f1,.int .i64 x.f1.f2,.string x.f1.f3]:=by
 obtain ⟨_,_,rfl,rfl,s1⟩:=h;obtain rfl:=k33_open s1;exact rfl
theorem k36_openM {w:World} {base:Nat} {ok:Nat → Prop} {x:S36} {cs:List Value} (h:k36.M w base ok x cs):cs=[.string x.f0,.int .i64 x.f1.f0,.int .i64 x.f1.f1,.int .i64 x.f1.f2,.string x.f1.f3]:=by
 obtain ⟨_,_,rfl,rfl,s1⟩:=h;obtain rfl:=k33_openM s1;exact rfl
theorem k36_mk (w:World) (x:S36)  : k36.K w x [.string x.f0,.int .i64 x.f1.f0,.int .i64 x.f1.f1,.int .i64 x.f1.f2,.string x.f1.f3]:=⟨[.string x.f0],[.int .i64 x.f1.f0,.int .i64 x.f1.f1,.int .i64 x.f1.f2,.string x.f1.f3],rfl,rfl,(k33_mk w x.f1 )⟩
theorem k36_mkM (w:World) (base:Nat) (ok:Nat → Prop) (x:S36)  : k36.M w base ok x [.string x.f0,.int .i64 x.f1.f0,.int .i64 x.f1.f1,.int .i64 x.f1.f2,.string x.f1.f3]:=⟨[.string x.f0],[.int .i64 x.f1.f0,.int .i64 x.f1.f1,.int .i64 x.f1.f2,.string x.f1.f3],rfl,rfl,(k33_mkM w base ok x.f1 )⟩
def rd_T36 (xs:List S36) (i:Int):S36:=xs.getD i.toNat z36
theorem at_T36 {w:World} {A:Option Addr} {n:Nat} {xs:List S36} (h:Kd.C k36 w A n xs) (i:Int) (h0:0 ≤ i) (h1:i < n) : ∃ ad ,A=some ad ∧ w.cell? (ad.add (i.toNat * 5))=some (.string (rd_T36 xs i).f0) ∧ w.cell? ⟨(ad.add (i.toNat * 5)).block,(ad.add (i.toNat * 5)).off + 1,none⟩=some (.int .i64 (rd_T36 xs i).f1.f0) ∧ w.cell? ⟨(ad.add (i.toNat * 5)).block,(ad.add (i.toNat * 5)).off + 2,none⟩=some (.int .i64 (rd_T36 xs i).f1.f1) ∧ w.cell? ⟨(ad.add (i.toNat * 5)).block,(ad.add (i.toNat * 5)).off + 3,none⟩=some (.int .i64 (rd_T36 xs i).f1.f2) ∧ w.cell? ⟨(ad.add (i.toNat * 5)).block,(ad.add (i.toNat * 5)).off + 4,none⟩=some (.string (rd_T36 xs i).f1.f3):=by
 obtain ⟨ad,c,e,_,hK,hc0⟩:=Kd.C_get h z36 i h0 h1;have hc : ∀ j u,c[j]? = some u → w.cell? (ad.add (i.toNat * 5 + j))=some u:=hc0;obtain rfl:=k36_open hK;exact ⟨ad,e,hc 0 _ rfl,by rw [← add_field _ _ 1 (by omega)];exact hc 1 _ rfl,by rw [← add_field _ _ 2 (by omega)];exact hc 2 _ rfl,by rw [← add_field _ _ 3 (by omega)];exact hc 3 _ rfl,by rw [← add_field _ _ 4 (by omega)];exact hc 4 _ rfl⟩
def rd_L5 (xs:List (List S36)) (i:Int):(List S36):=xs.getD i.toNat ([]:List S36)
theorem at_L5 {w:World} {A:Option Addr} {n:Nat} {xs:List (List S36)} (h:Kd.C (Kd.slice 36 k36) w A n xs) (i:Int) (h0:0 ≤ i) (h1:i < n) : ∃ ad A0 c0,A=some ad ∧ w.cell? (ad.add i.toNat)=some (.slice A0 (rd_L5 xs i).length c0) ∧ (rd_L5 xs i).length ≤ c0 ∧ k36.C w A0 (rd_L5 xs i).length (rd_L5 xs i):=by
 obtain ⟨ad,c,e,_,hK,hc0⟩:=Kd.C_get h ([]:List S36) i h0 h1;have hc : ∀ j u,c[j]? = some u → w.cell? (ad.add (i.toNat * 1 + j))=some u:=hc0;obtain ⟨A0,c0,rfl,l0,g0⟩:=hK;exact ⟨ad,A0,c0,e,by have hq:=hc 0 _ rfl;rwa [Nat.mul_one,Nat.add_zero] at hq,l0,g0⟩
structure S47 where
 f0:ByteArray
 f1:S33
 f2:(List S36)
def z47:S47:=⟨(⟨#[]⟩:ByteArray),z33,([]:List S36)⟩
def k47:Kd S47:=Kd.iso (Kd.pair Kd.string (Kd.pair k33 (Kd.slice 36 k36))) (fun x:S47=>(x.f0,x.f1,x.f2))
theorem k47_open {w:World} {x:S47} {cs:List Value} (h:k47.K w x cs) : ∃ A5 c5,cs=[.string x.f0,.int .i64 x.f1.f0,.int .i64 x.f1.f1,.int .i64 x.f1.f2,.string x.f1.f3,.slice A5 x.f2.length c5] ∧ x.f2.length ≤ c5 ∧ k36.C w A5 x.f2.length x.f2:=by
 obtain ⟨_,_,rfl,rfl,⟨_,_,rfl,s1,⟨A5,c5,rfl,l5,g5⟩⟩⟩:=h;obtain rfl:=k33_open s1;exact ⟨A5,c5,rfl,l5,g5⟩
theorem k47_openM {w:World} {base:Nat} {ok:Nat → Prop} {x:S47} {cs:List Value} (h:k47.M w base ok x cs) : ∃ v5,cs=[.string x.f0,.int .i64 x.f1.f0,.int .i64 x.f1.f1,.int .i64 x.f1.f2,.string x.f1.f3,v5] ∧ k36.R 36 w base ok v5 x.f2:=by
 obtain ⟨_,_,rfl,rfl,⟨_,_,rfl,s1,⟨v5,rfl,g5⟩⟩⟩:=h;obtain rfl:=k33_openM s1;exact ⟨v5,rfl,g5⟩
theorem k47_mk (w:World) (x:S47) {A5:Option Addr} {c5:Nat} (l5:x.f2.length ≤ c5) (g5:k36.C w A5 x.f2.length x.f2):k47.K w x [.string x.f0,.int .i64 x.f1.f0,.int .i64 x.f1.f1,.int .i64 x.f1.f2,.string x.f1.f3,.slice A5 x.f2.length c5]:=⟨[.string x.f0],[.int .i64 x.f1.f0,.int .i64 x.f1.f1,.int .i64 x.f1.f2,.string x.f1.f3,.slice A5 x.f2.length c5],rfl,rfl,⟨[.int .i64 x.f1.f0,.int .i64 x.f1.f1,.int .i64 x.f1.f2,.string x.f1.f3],[.slice A5 x.f2.length c5],rfl,(k33_mk w x.f1 ),⟨A5,c5,rfl,l5,g5⟩⟩⟩
theorem k47_mkM (w:World) (base:Nat) (ok:Nat → Prop) (x:S47) {v5:Value} (g5:k36.R 36 w base ok v5 x.f2):k47.M w base ok x [.string x.f0,.int .i64 x.f1.f0,.int .i64 x.f1.f1,.int .i64 x.f1.f2,.string x.f1.f3,v5]:=⟨[.string x.f0],[.int .i64 x.f1.f0,.int .i64 x.f1.f1,.int .i64 x.f1.f2,.string x.f1.f3,v5],rfl,rfl,⟨[.int .i64 x.f1.f0,.int .i64 x.f1.f1,.int .i64 x.f1.f2,.string x.f1.f3],[v5],rfl,(k33_mkM w base ok x.f1 ),⟨v5,rfl,g5⟩⟩⟩
def rd_T47 (xs:List S47) (i:Int):S47:=xs.getD i.toNat z47
theorem at_T47 {w:World} {A:Option Addr} {n:Nat} {xs:List S47} (h:Kd.C k47 w A n xs) (i:Int) (h0:0 ≤ i) (h1:i < n) : ∃ ad A5 c5,A=some ad ∧ w.cell? (ad.add (i.toNat * 6))=some (.string (rd_T47 xs i).f0) ∧ w.cell? ⟨(ad.add (i.toNat * 6)).block,(ad.add (i.toNat * 6)).off + 1,none⟩=some (.int .i64 (rd_T47 xs i).f1.f0) ∧ w.cell? ⟨(ad.add (i.toNat * 6)).block,(ad.add (i.toNat * 6)).off + 2,none⟩=some (.int .i64 (rd_T47 xs i).f1.f1) ∧ w.cell? ⟨(ad.add (i.toNat * 6)).block,(ad.add (i.toNat * 6)).off + 3,none⟩=some (.int .i64 (rd_T47 xs i).f1.f2) ∧ w.cell? ⟨(ad.add (i.toNat * 6)).block,(ad.add (i.toNat * 6)).off + 4,none⟩=some (.string (rd_T47 xs i).f1.f3) ∧ w.cell? ⟨(ad.add (i.toNat * 6)).block,(ad.add (i.toNat * 6)).off + 5,none⟩=some (.slice A5 (rd_T47 xs i).f2.length c5) ∧ (rd_T47 xs i).f2.length ≤ c5 ∧ k36.C w A5 (rd_T47 xs i).f2.length (rd_T47 xs i).f2:=by
 obtain ⟨ad,c,e,_,hK,hc0⟩:=Kd.C_get h z47 i h0 h1;have hc : ∀ j u,c[j]? = some u → w.cell? (ad.add (i.toNat * 6 + j))=some u:=hc0;obtain ⟨A5,c5,rfl,l5,g5⟩:=k47_open hK;exact ⟨ad,A5,c5,e,hc 0 _ rfl,by rw [← add_field _ _ 1 (by omega)];exact hc 1 _ rfl,by rw [← add_field _ _ 2 (by omega)];exact hc 2 _ rfl,by rw [← add_field _ _ 3 (by omega)];exact hc 3 _ rfl,by rw [← add_field _ _ 4 (by omega)];exact hc 4 _ rfl,by rw [← add_field _ _ 5 (by omega)];exact hc 5 _ rfl,l5,g5⟩
theorem bc_ {w w':World} {p v} (h:Aside0 (Below w.heap.size w w')) (e:w.cell? p=some v):w'.cell? p=some v:=(h.out.cell (World.block_lt_of_cell? w _ e)).trans e
theorem a_ {p:Prop} (h:p):Aside0 p:=⟨h⟩
theorem s1_ {α:Type _} (l:List α) (i:Nat) (a:α):l.toArray.setIfInBounds i a=(l.set i a).toArray:=List.setIfInBounds_toArray l i a
theorem s2_ {α:Type _} {x:α} {xs:List α} {a:α}:(x::xs).set 0 a=a::xs:=List.set_cons_zero
theorem s3_ {α:Type _} {x:α} {xs:List α} {i:Nat} {a:α}:(x::xs).set (i+1) a=x::xs.set i a:=List.set_cons_succ
@[reducible] def m_ (a b:Nat):Array Bool:=(List.replicate a true++List.replicate b false).toArray
end Go.Proofs.YtmkdeknpphimbaaDoor.PFnClosed
