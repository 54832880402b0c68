import Derived.Test.YtfpdikledfhcaaaGreatDoorProg
import Derived.WalkLawsBesides
import Derived.Below
import Derived.Deep.Draws
import Derived.Deep.AppendLies
import Derived.Maps.AppendAt
import Derived.OwnWalk
import Derived.Laws.BytesArg
import Derived.Laws.MakeOwn
import Derived.Laws.OwnMore
import Derived.Deep.OwnRows
import Derived.Tactics
import Derived.Lib.ConvBytes
import Derived.Laws.Slices
import Derived.WalkKit
import Derived.KernelRfl
import Derived.RowKit3
import Derived.Deep.LoopGhost
import Derived.Deep.QuietTactic
import Derived.BigQuiet
import Derived.WideLaws
import Derived.Deep.DeepCutAuto
import Derived.Deep.CutBlock
import Derived.Deep.RegionHeld3
import Derived.Laws.Rows
import Derived.Lib.AppendStr
import Derived.ArgAppend
import Derived.Laws.IdiomCopy
import Derived.OrdersHeld
import Derived.Laws.BitsLemmas
import Derived.RowKit
import Derived.Shelf.Strings.Split
import Derived.Shelf.Strconv.Atoi
import Derived.Test.YtfpdikledfhcaaaGreatDoorCCaWWords
import Derived.Test.YtfpdikledfhcaaaGreatDoorCCaWLast
import Derived.Test.YtfpdikledfhcaaaGreatDoorCCaWTab
import Derived.Test.YtfpdikledfhcaaaGreatDoorCCaWApart
import Derived.Test.YtfpdikledfhcaaaGreatDoorCCaWArr
import Derived.Test.YtfpdikledfhcaaaGreatDoorCCaWZeros
import Derived.Test.YtfpdikledfhcaaaGreatDoorCCaWFoot
import Derived.Test.YtfpdikledfhcaaaGreatDoorCCaWKept
import Derived.Test.YtfpdikledfhcaaaGreatDoorCCaWShare
import Derived.Test.YtfpdikledfhcaaaGreatDoorCCaWN
import Derived.Test.YtfpdikledfhcaaaGreatDoorCCaWEqStruct
import Derived.Test.YtfpdikledfhcaaaGreatDoorCCaWRepsOne
import Derived.Test.YtfpdikledfhcaaaGreatDoorCCaWInv
import Derived.Test.YtfpdikledfhcaaaGreatDoorCCaWGuard
import Derived.Test.YtfpdikledfhcaaaGreatDoorCCaWMore
namespace Go.Proofs.YtfpdikledfhcaaaGreatDoor.PFnExactClientOk
open Go.RowKit Go.Proofs.YtfpdikledfhcaaaGreatDoorW.PrintWords Go.Proofs.YtfpdikledfhcaaaGreatDoorW.PrintLast Go.Proofs.YtfpdikledfhcaaaGreatDoorW.PrintMore
attribute [local go_sem] max2_int min2_int max_two min_two max_three min_three max_four min_four
set_option linter.unusedVariables false
set_option linter.unusedSimpArgs false
def errW:Option Int → Value
 | none=>.nilIface
 | some c=>.iface 0 (.int .i64 c)
theorem bne_nil_ (l:List UInt8):(l != []) = !l.isEmpty:=by cases l <;> rfl
theorem errW_none:errW none = .nilIface:=rfl
theorem errW_some (c:Int):errW (some c) = .iface 0 (.int .i64 c):=rfl
theorem info9:(Tryz.prog.info? 9).map (fun i=>(i.zero,i.size,i.bytes))=some (some (.string ⟨#[]⟩),1,16):=by kernel_rfl
theorem info54:(Tryz.prog.info? 54).map (fun i=>(i.zero,i.size,i.bytes))=some (some (.agg #[(.string ⟨#[]⟩),(.int .i64 0),(.int .i64 0),(.int .i64 0),(.string ⟨#[]⟩),(.slice none 0 0)]),6,80):=by kernel_rfl
theorem info58:(Tryz.prog.info? 58).map (fun i=>(i.zero,i.size,i.bytes))=some (some (.agg #[(.string ⟨#[]⟩),(.int .i64 0),(.int .i64 0),(.int .i64 0),(.string ⟨#[]⟩)]),5,56):=by kernel_rfl
structure S89 where
 f0:Int
 f1:Int
 f2:Int
 f3:ByteArray
def z89:S89:=⟨(0:Int),(0:Int),(0:Int),(⟨#[]⟩:ByteArray)⟩
def k89:Kd S89:=Kd.iso (Kd.pair (Kd.int .i64) (Kd.pair (Kd.int .i64) (Kd.pair (Kd.int .i64) Kd.string))) (fun x:S89=>(x.f0,x.f1,x.f2,x.f3))
theorem k89_open {w:World} {x:S89} {cs:List Value} (h:k89.K w x cs):cs=[.int .i64 x.f0,.int .i64 x.f1,.int .i64 x.f2,.string x.f3]:=by
 obtain ⟨_,_,rfl,rfl,⟨_,_,rfl,rfl,⟨_,_,rfl,rfl,rfl⟩⟩⟩:=h;exact rfl
theorem k89_openM {w:World} {base:Nat} {ok:Nat → Prop} {x:S89} {cs:List Value} (h:k89.M w base ok x cs):cs=[.int .i64 x.f0,.int .i64 x.f1,.int .i64 x.f2,.string x.f3]:=by
 obtain ⟨_,_,rfl,rfl,⟨_,_,rfl,rfl,⟨_,_,rfl,rfl,rfl⟩⟩⟩:=h;exact rfl
theorem k89_mk (w:World) (x:S89)  : k89.K w x [.int .i64 x.f0,.int .i64 x.f1,.int .i64 x.f2,.string x.f3]:=⟨[.int .i64 x.f0],[.int .i64 x.f1,.int .i64 x.f2,.string x.f3],rfl,rfl,⟨[.int .i64 x.f1],[.int .i64 x.f2,.string x.f3],rfl,rfl,⟨[.int .i64 x.f2],[.string x.f3],rfl,rfl,rfl⟩⟩⟩
theorem k89_mkM (w:World) (base:Nat) (ok:Nat → Prop) (x:S89)  : k89.M w base ok x [.int .i64 x.f0,.int .i64 x.f1,.int .i64 x.f2,.string x.f3]:=⟨[.int .i64 x.f0],[.int .i64 x.f1,.int .i64 x.f2,.string x.f3],rfl,rfl,⟨[.int .i64 x.f1],[.int .i64 x.f2,.string x.f3],rfl,rfl,⟨[.int .i64 x.f2],[.string x.f3],rfl,rfl,rfl⟩⟩⟩
def rd_T89 (xs:List S89) (i:Int):S89:=xs.getD i.toNat z89
theorem at_T89 {w:World} {A:Option Addr} {n:Nat} {xs:List S89} (h:Kd.C k89 w A n xs) (i:Int) (h0:0 ≤ i) (h1:i < n) : ∃ ad ,A=some ad ∧ w.cell? (ad.add (i.toNat * 4))=some (.int .i64 (rd_T89 xs i).f0) ∧ w.cell? ⟨(ad.add (i.toNat * 4)).block,(ad.add (i.toNat * 4)).off + 1,none⟩=some (.int .i64 (rd_T89 xs i).f1) ∧ w.cell? ⟨(ad.add (i.toNat * 4)).block,(ad.add (i.toNat * 4)).off + 2,none⟩=some (.int .i64 (rd_T89 xs i).f2) ∧ w.cell? ⟨(ad.add (i.toNat * 4)).block,(ad.add (i.toNat * 4)).off + 3,none⟩=some (.string (rd_T89 xs i).f3):=by
 obtain ⟨ad,c,e,_,hK,hc0⟩:=Kd.C_get h z89 i h0 h1;have hc : ∀ j u,c[j]? = some u → w.cell? (ad.add (i.toNat * 4 + j))=some u:=hc0;obtain rfl:=k89_open hK;exact ⟨ad,e,hc 0 _ rfl,by rw [← add_field _ _ 1 (by omega)];exact hc 1 _ rfl,by rw [← add_field _ _ 2 (by omega)];exact hc 2 _ rfl,by rw [← add_field _ _ 3 (by omega)];exact hc 3 _ rfl⟩
structure S91 where
 f0:ByteArray
 f1:S89
def z91:S91:=⟨(⟨#[]⟩:ByteArray),z89⟩
def k91:Kd S91:=Kd.iso (Kd.pair Kd.string k89) (fun x:S91=>(x.f0,x.f1))
theorem k91_open {w:World} {x:S91} {cs:List Value} (h:k91.K w x cs):cs=[.string x.f0,.int .i64 x.f1.f0,.int .i64 x.f1.f1,.int .i64 x.f1.f2,.string x.f1.f3]:=by
 obtain ⟨_,_,rfl,rfl,s1⟩:=h;obtain rfl:=k89_open s1;exact rfl
theorem k91_openM {w:World} {base:Nat} {ok:Nat → Prop} {x:S91} {cs:List Value} (h:k91.M w base ok x cs):cs=[.string x.f0,.int .i64 x.f1.f0,.int .i64 x.f1.f1,.int .i64 x.f1.f2,.string x.f1.f3]:=by
 obtain ⟨_,_,rfl,rfl,s1⟩:=h;obtain rfl:=k89_openM s1;exact rfl
theorem k91_mk (w:World) (x:S91)  : k91.K w x [.string x.f0,.int .i64 x.f1.f0,.int .i64 x.f1.f1,.int .i64 x.f1.f2,.string x.f1.f3]:=⟨[.string x.f0],[.int .i64 x.f1.f0,.int .i64 x.f1.f1,.int .i64 x.f1.f2,.string x.f1.f3],rfl,rfl,(k89_mk w x.f1 )⟩
theorem k91_mkM (w:World) (base:Nat) (ok:Nat → Prop) (x:S91)  : k91.M w base ok x [.string x.f0,.int .i64 x.f1.f0,.int .i64 x.f1.f1,.int .i64 x.f1.f2,.string x.f1.f3]:=⟨[.string x.f0],[.int .i64 x.f1.f0,.int .i64 x.f1.f1,.int .i64 x.f1.f2,.string x.f1.f3],rfl,rfl,(k89_mkM w base ok x.f1 )⟩
def rd_T91 (xs:List S91) (i:Int):S91:=xs.getD i.toNat z91
theorem at_T91 {w:World} {A:Option Addr} {n:Nat} {xs:List S91} (h:Kd.C k91 w A n xs) (i:Int) (h0:0 ≤ i) (h1:i < n) : ∃ ad ,A=some ad ∧ w.cell? (ad.add (i.toNat * 5))=some (.string (rd_T91 xs i).f0) ∧ w.cell? ⟨(ad.add (i.toNat * 5)).block,(ad.add (i.toNat * 5)).off + 1,none⟩=some (.int .i64 (rd_T91 xs i).f1.f0) ∧ w.cell? ⟨(ad.add (i.toNat * 5)).block,(ad.add (i.toNat * 5)).off + 2,none⟩=some (.int .i64 (rd_T91 xs i).f1.f1) ∧ w.cell? ⟨(ad.add (i.toNat * 5)).block,(ad.add (i.toNat * 5)).off + 3,none⟩=some (.int .i64 (rd_T91 xs i).f1.f2) ∧ w.cell? ⟨(ad.add (i.toNat * 5)).block,(ad.add (i.toNat * 5)).off + 4,none⟩=some (.string (rd_T91 xs i).f1.f3):=by
 obtain ⟨ad,c,e,_,hK,hc0⟩:=Kd.C_get h z91 i h0 h1;have hc : ∀ j u,c[j]? = some u → w.cell? (ad.add (i.toNat * 5 + j))=some u:=hc0;obtain rfl:=k91_open hK;exact ⟨ad,e,hc 0 _ rfl,by rw [← add_field _ _ 1 (by omega)];exact hc 1 _ rfl,by rw [← add_field _ _ 2 (by omega)];exact hc 2 _ rfl,by rw [← add_field _ _ 3 (by omega)];exact hc 3 _ rfl,by rw [← add_field _ _ 4 (by omega)];exact hc 4 _ rfl⟩
def rd_L4 (xs:List (List S91)) (i:Int):(List S91):=xs.getD i.toNat ([]:List S91)
theorem at_L4 {w:World} {A:Option Addr} {n:Nat} {xs:List (List S91)} (h:Kd.C (Kd.slice 91 k91) w A n xs) (i:Int) (h0:0 ≤ i) (h1:i < n) : ∃ ad A0 c0,A=some ad ∧ w.cell? (ad.add i.toNat)=some (.slice A0 (rd_L4 xs i).length c0) ∧ (rd_L4 xs i).length ≤ c0 ∧ k91.C w A0 (rd_L4 xs i).length (rd_L4 xs i):=by
 obtain ⟨ad,c,e,_,hK,hc0⟩:=Kd.C_get h ([]:List S91) i h0 h1;have hc : ∀ j u,c[j]? = some u → w.cell? (ad.add (i.toNat * 1 + j))=some u:=hc0;obtain ⟨A0,c0,rfl,l0,g0⟩:=hK;exact ⟨ad,A0,c0,e,by have hq:=hc 0 _ rfl;rwa [Nat.mul_one,Nat.add_zero] at hq,l0,g0⟩
structure S126 where
 f0:ByteArray
 f1:S89
 f2:(List S91)
def z126:S126:=⟨(⟨#[]⟩:ByteArray),z89,([]:List S91)⟩
def k126:Kd S126:=Kd.iso (Kd.pair Kd.string (Kd.pair k89 (Kd.slice 91 k91))) (fun x:S126=>(x.f0,x.f1,x.f2))
theorem k126_open {w:World} {x:S126} {cs:List Value} (h:k126.K w x cs) : ∃ A5 c5,cs=[.string x.f0,.int .i64 x.f1.f0,.int .i64 x.f1.f1,.int .i64 x.f1.f2,.string x.f1.f3,.slice A5 x.f2.length c5] ∧ x.f2.length ≤ c5 ∧ k91.C w A5 x.f2.length x.f2:=by
 obtain ⟨_,_,rfl,rfl,⟨_,_,rfl,s1,⟨A5,c5,rfl,l5,g5⟩⟩⟩:=h;obtain rfl:=k89_open s1;exact ⟨A5,c5,rfl,l5,g5⟩
theorem k126_openM {w:World} {base:Nat} {ok:Nat → Prop} {x:S126} {cs:List Value} (h:k126.M w base ok x cs) : ∃ v5,cs=[.string x.f0,.int .i64 x.f1.f0,.int .i64 x.f1.f1,.int .i64 x.f1.f2,.string x.f1.f3,v5] ∧ k91.R 91 w base ok v5 x.f2:=by
 obtain ⟨_,_,rfl,rfl,⟨_,_,rfl,s1,⟨v5,rfl,g5⟩⟩⟩:=h;obtain rfl:=k89_openM s1;exact ⟨v5,rfl,g5⟩
theorem k126_mk (w:World) (x:S126) {A5:Option Addr} {c5:Nat} (l5:x.f2.length ≤ c5) (g5:k91.C w A5 x.f2.length x.f2):k126.K w x [.string x.f0,.int .i64 x.f1.f0,.int .i64 x.f1.f1,.int .i64 x.f1.f2,.string x.f1.f3,.slice A5 x.f2.length c5]:=⟨[.string x.f0],[.int .i64 x.f1.f0,.int .i64 x.f1.f1,.int .i64 x.f1.f2,.string x.f1.f3,.slice A5 x.f2.length c5],rfl,rfl,⟨[.int .i64 x.f1.f0,.int .i64 x.f1.f1,.int .i64 x.f1.f2,.string x.f1.f3],[.slice A5 x.f2.length c5],rfl,(k89_mk w x.f1 ),⟨A5,c5,rfl,l5,g5⟩⟩⟩
theorem k126_mkM (w:World) (base:Nat) (ok:Nat → Prop) (x:S126) {v5:Value} (g5:k91.R 91 w base ok v5 x.f2):k126.M w base ok x [.string x.f0,.int .i64 x.f1.f0,.int .i64 x.f1.f1,.int .i64 x.f1.f2,.string x.f1.f3,v5]:=⟨[.string x.f0],[.int .i64 x.f1.f0,.int .i64 x.f1.f1,.int .i64 x.f1.f2,.string x.f1.f3,v5],rfl,rfl,⟨[.int .i64 x.f1.f0,.int .i64 x.f1.f1,.int .i64 x.f1.f2,.string x.f1.f3],[v5],rfl,(k89_mkM w base ok x.f1 ),⟨v5,rfl,g5⟩⟩⟩
def rd_T126 (xs:List S126) (i:Int):S126:=xs.getD i.toNat z126
theorem at_T126 {w:World} {A:Option Addr} {n:Nat} {xs:List S126} (h:Kd.C k126 w A n xs) (i:Int) (h0:0 ≤ i) (h1:i < n) : ∃ ad A5 c5,A=some ad ∧ w.cell? (ad.add (i.toNat * 6))=some (.string (rd_T126 xs i).f0) ∧ w.cell? ⟨(ad.add (i.toNat * 6)).block,(ad.add (i.toNat * 6)).off + 1,none⟩=some (.int .i64 (rd_T126 xs i).f1.f0) ∧ w.cell? ⟨(ad.add (i.toNat * 6)).block,(ad.add (i.toNat * 6)).off + 2,none⟩=some (.int .i64 (rd_T126 xs i).f1.f1) ∧ w.cell? ⟨(ad.add (i.toNat * 6)).block,(ad.add (i.toNat * 6)).off + 3,none⟩=some (.int .i64 (rd_T126 xs i).f1.f2) ∧ w.cell? ⟨(ad.add (i.toNat * 6)).block,(ad.add (i.toNat * 6)).off + 4,none⟩=some (.string (rd_T126 xs i).f1.f3) ∧ w.cell? ⟨(ad.add (i.toNat * 6)).block,(ad.add (i.toNat * 6)).off + 5,none⟩=some (.slice A5 (rd_T126 xs i).f2.length c5) ∧ (rd_T126 xs i).f2.length ≤ c5 ∧ k91.C w A5 (rd_T126 xs i).f2.length (rd_T126 xs i).f2:=by
 obtain ⟨ad,c,e,_,hK,hc0⟩:=Kd.C_get h z126 i h0 h1;have hc : ∀ j u,c[j]? = some u → w.cell? (ad.add (i.toNat * 6 + j))=some u:=hc0;obtain ⟨A5,c5,rfl,l5,g5⟩:=k126_open hK;exact ⟨ad,A5,c5,e,hc 0 _ rfl,by rw [← add_field _ _ 1 (by omega)];exact hc 1 _ rfl,by rw [← add_field _ _ 2 (by omega)];exact hc 2 _ rfl,by rw [← add_field _ _ 3 (by omega)];exact hc 3 _ rfl,by rw [← add_field _ _ 4 (by omega)];exact hc 4 _ rfl,by rw [← add_field _ _ 5 (by omega)];exact hc 5 _ rfl,l5,g5⟩
structure S52 where
 f0:Int
 f1:Int
 f2:Int
 f3:ByteArray
def z52:S52:=⟨(0:Int),(0:Int),(0:Int),(⟨#[]⟩:ByteArray)⟩
def k52:Kd S52:=Kd.iso (Kd.pair (Kd.int .i64) (Kd.pair (Kd.int .i64) (Kd.pair (Kd.int .i64) Kd.string))) (fun x:S52=>(x.f0,x.f1,x.f2,x.f3))
theorem k52_open {w:World} {x:S52} {cs:List Value} (h:k52.K w x cs):cs=[.int .i64 x.f0,.int .i64 x.f1,.int .i64 x.f2,.string x.f3]:=by
 obtain ⟨_,_,rfl,rfl,⟨_,_,rfl,rfl,⟨_,_,rfl,rfl,rfl⟩⟩⟩:=h;exact rfl
theorem k52_openM {w:World} {base:Nat} {ok:Nat → Prop} {x:S52} {cs:List Value} (h:k52.M w base ok x cs):cs=[.int .i64 x.f0,.int .i64 x.f1,.int .i64 x.f2,.string x.f3]:=by
 obtain ⟨_,_,rfl,rfl,⟨_,_,rfl,rfl,⟨_,_,rfl,rfl,rfl⟩⟩⟩:=h;exact rfl
theorem k52_mk (w:World) (x:S52)  : k52.K w x [.int .i64 x.f0,.int .i64 x.f1,.int .i64 x.f2,.string x.f3]:=⟨[.int .i64 x.f0],[.int .i64 x.f1,.int .i64 x.f2,.string x.f3],rfl,rfl,⟨[.int .i64 x.f1],[.int .i64 x.f2,.string x.f3],rfl,rfl,⟨[.int .i64 x.f2],[.string x.f3],rfl,rfl,rfl⟩⟩⟩
theorem k52_mkM (w:World) (base:Nat) (ok:Nat → Prop) (x:S52)  : k52.M w base ok x [.int .i64 x.f0,.int .i64 x.f1,.int .i64 x.f2,.string x.f3]:=⟨[.int .i64 x.f0],[.int .i64 x.f1,.int .i64 x.f2,.string x.f3],rfl,rfl,⟨[.int .i64 x.f1],[.int .i64 x.f2,.string x.f3],rfl,rfl,⟨[.int .i64 x.f2],[.string x.f3],rfl,rfl,rfl⟩⟩⟩
def rd_T52 (xs:List S52) (i:Int):S52:=xs.getD i.toNat z52
theorem at_T52 {w:World} {A:Option Addr} {n:Nat} {xs:List S52} (h:Kd.C k52 w A n xs) (i:Int) (h0:0 ≤ i) (h1:i < n) : ∃ ad ,A=some ad ∧ w.cell? (ad.add (i.toNat * 4))=some (.int .i64 (rd_T52 xs i).f0) ∧ w.cell? ⟨(ad.add (i.toNat * 4)).block,(ad.add (i.toNat * 4)).off + 1,none⟩=some (.int .i64 (rd_T52 xs i).f1) ∧ w.cell? ⟨(ad.add (i.toNat * 4)).block,(ad.add (i.toNat * 4)).off + 2,none⟩=some (.int .i64 (rd_T52 xs i).f2) ∧ w.cell? ⟨(ad.add (i.toNat * 4)).block,(ad.add (i.toNat * 4)).off + 3,none⟩=some (.string (rd_T52 xs i).f3):=by
 obtain ⟨ad,c,e,_,hK,hc0⟩:=Kd.C_get h z52 i h0 h1;have hc : ∀ j u,c[j]? = some u → w.cell? (ad.add (i.toNat * 4 + j))=some u:=hc0;obtain rfl:=k52_open hK;exact ⟨ad,e,hc 0 _ rfl,by rw [← add_field _ _ 1 (by omega)];exact hc 1 _ rfl,by rw [← add_field _ _ 2 (by omega)];exact hc 2 _ rfl,by rw [← add_field _ _ 3 (by omega)];exact hc 3 _ rfl⟩
structure S58 where
 f0:ByteArray
 f1:S52
def z58:S58:=⟨(⟨#[]⟩:ByteArray),z52⟩
def k58:Kd S58:=Kd.iso (Kd.pair Kd.string k52) (fun x:S58=>(x.f0,x.f1))
theorem k58_open {w:World} {x:S58} {cs:List Value} (h:k58.K w x cs):cs=[.string x.f0,.int .i64 x.f1.f0,.int .i64 x.f1.f1,.int .i64 x.f1.f2,.string x.f1.f3]:=by
 obtain ⟨_,_,rfl,rfl,s1⟩:=h;obtain rfl:=k52_open s1;exact rfl
theorem k58_openM {w:World} {base:Nat} {ok:Nat → Prop} {x:S58} {cs:List Value} (h:k58.M w base ok x cs):cs=[.string x.f0,.int .i64 x.f1.f0,.int .i64 x.f1.f1,.int .i64 x.f1.f2,.string x.f1.f3]:=by
 obtain ⟨_,_,rfl,rfl,s1⟩:=h;obtain rfl:=k52_openM s1;exact rfl
theorem k58_mk (w:World) (x:S58)  : k58.K w x [.string x.f0,.int .i64 x.f1.f0,.int .i64 x.f1.f1,.int .i64 x.f1.f2,.string x.f1.f3]:=⟨[.string x.f0],[.int .i64 x.f1.f0,.int .i64 x.f1.f1,.int .i64 x.f1.f2,.string x.f1.f3],rfl,rfl,(k52_mk w x.f1 )⟩
theorem k58_mkM (w:World) (base:Nat) (ok:Nat → Prop) (x:S58)  : k58.M w base ok x [.string x.f0,.int .i64 x.f1.f0,.int .i64 x.f1.f1,.int .i64 x.f1.f2,.string x.f1.f3]:=⟨[.string x.f0],[.int .i64 x.f1.f0,.int .i64 x.f1.f1,.int .i64 x.f1.f2,.string x.f1.f3],rfl,rfl,(k52_mkM w base ok x.f1 )⟩
def rd_T58 (xs:List S58) (i:Int):S58:=xs.getD i.toNat z58
theorem at_T58 {w:World} {A:Option Addr} {n:Nat} {xs:List S58} (h:Kd.C k58 w A n xs) (i:Int) (h0:0 ≤ i) (h1:i < n) : ∃ ad ,A=some ad ∧ w.cell? (ad.add (i.toNat * 5))=some (.string (rd_T58 xs i).f0) ∧ w.cell? ⟨(ad.add (i.toNat * 5)).block,(ad.add (i.toNat * 5)).off + 1,none⟩=some (.int .i64 (rd_T58 xs i).f1.f0) ∧ w.cell? ⟨(ad.add (i.toNat * 5)).block,(ad.add (i.toNat * 5)).off + 2,none⟩=some (.int .i64 (rd_T58 xs i).f1.f1) ∧ w.cell? ⟨(ad.add (i.toNat * 5)).block,(ad.add (i.toNat * 5)).off + 3,none⟩=some (.int .i64 (rd_T58 xs i).f1.f2) ∧ w.cell? ⟨(ad.add (i.toNat * 5)).block,(ad.add (i.toNat * 5)).off + 4,none⟩=some (.string (rd_T58 xs i).f1.f3):=by
 obtain ⟨ad,c,e,_,hK,hc0⟩:=Kd.C_get h z58 i h0 h1;have hc : ∀ j u,c[j]? = some u → w.cell? (ad.add (i.toNat * 5 + j))=some u:=hc0;obtain rfl:=k58_open hK;exact ⟨ad,e,hc 0 _ rfl,by rw [← add_field _ _ 1 (by omega)];exact hc 1 _ rfl,by rw [← add_field _ _ 2 (by omega)];exact hc 2 _ rfl,by rw [← add_field _ _ 3 (by omega)];exact hc 3 _ rfl,by rw [← add_field _ _ 4 (by omega)];exact hc 4 _ rfl⟩
def rd_L8 (xs:List (List S58)) (i:Int):(List S58):=xs.getD i.toNat ([]:List S58)
theorem at_L8 {w:World} {A:Option Addr} {n:Nat} {xs:List (List S58)} (h:Kd.C (Kd.slice 58 k58) w A n xs) (i:Int) (h0:0 ≤ i) (h1:i < n) : ∃ ad A0 c0,A=some ad ∧ w.cell? (ad.add i.toNat)=some (.slice A0 (rd_L8 xs i).length c0) ∧ (rd_L8 xs i).length ≤ c0 ∧ k58.C w A0 (rd_L8 xs i).length (rd_L8 xs i):=by
 obtain ⟨ad,c,e,_,hK,hc0⟩:=Kd.C_get h ([]:List S58) i h0 h1;have hc : ∀ j u,c[j]? = some u → w.cell? (ad.add (i.toNat * 1 + j))=some u:=hc0;obtain ⟨A0,c0,rfl,l0,g0⟩:=hK;exact ⟨ad,A0,c0,e,by have hq:=hc 0 _ rfl;rwa [Nat.mul_one,Nat.add_zero] at hq,l0,g0⟩
structure S54 where
 f0:ByteArray
 f1:S52
 f2:(List S58)
def z54:S54:=⟨(⟨#[]⟩:ByteArray),z52,([]:List S58)⟩
def k54:Kd S54:=Kd.iso (Kd.pair Kd.string (Kd.pair k52 (Kd.slice 58 k58))) (fun x:S54=>(x.f0,x.f1,x.f2))
theorem k54_open {w:World} {x:S54} {cs:List Value} (h:k54.K w x cs) : ∃ A5 c5,cs=[.string x.f0,.int .i64 x.f1.f0,.int .i64 x.f1.f1,.int .i64 x.f1.f2,.string x.f1.f3,.slice A5 x.f2.length c5] ∧ x.f2.length ≤ c5 ∧ k58.C w A5 x.f2.length x.f2:=by
 obtain ⟨_,_,rfl,rfl,⟨_,_,rfl,s1,⟨A5,c5,rfl,l5,g5⟩⟩⟩:=h;obtain rfl:=k52_open s1;exact ⟨A5,c5,rfl,l5,g5⟩
theorem k54_openM {w:World} {base:Nat} {ok:Nat → Prop} {x:S54} {cs:List Value} (h:k54.M w base ok x cs) : ∃ v5,cs=[.string x.f0,.int .i64 x.f1.f0,.int .i64 x.f1.f1,.int .i64 x.f1.f2,.string x.f1.f3,v5] ∧ k58.R 58 w base ok v5 x.f2:=by
 obtain ⟨_,_,rfl,rfl,⟨_,_,rfl,s1,⟨v5,rfl,g5⟩⟩⟩:=h;obtain rfl:=k52_openM s1;exact ⟨v5,rfl,g5⟩
theorem k54_mk (w:World) (x:S54) {A5:Option Addr} {c5:Nat} (l5:x.f2.length ≤ c5) (g5:k58.C w A5 x.f2.length x.f2):k54.K w x [.string x.f0,.int .i64 x.f1.f0,.int .i64 x.f1.f1,.int .i64 x.f1.f2,.string x.f1.f3,.slice A5 x.f2.length c5]:=⟨[.string x.f0],[.int .i64 x.f1.f0,.int .i64 x.f1.f1,.int .i64 x.f1.f2,.string x.f1.f3,.slice A5 x.f2.length c5],rfl,rfl,⟨[.int .i64 x.f1.f0,.int .i64 x.f1.f1,.int .i64 x.f1.f2,.string x.f1.f3],[.slice A5 x.f2.length c5],rfl,(k52_mk w x.f1 ),⟨A5,c5,rfl,l5,g5⟩⟩⟩
theorem k54_mkM (w:World) (base:Nat) (ok:Nat → Prop) (x:S54) {v5:Value} (g5:k58.R 58 w base ok v5 x.f2):k54.M w base ok x [.string x.f0,.int .i64 x.f1.f0,.int .i64 x.f1.f1,.int .i64 x.f1.f2,.string x.f1.f3,v5]:=⟨[.string x.f0],[.int .i64 x.f1.f0,.int .i64 x.f1.f1,.int .i64 x.f1.f2,.string x.f1.f3,v5],rfl,rfl,⟨[.int .i64 x.f1.f0,.int .i64 x.f1.f1,.int .i64 x.f1.f2,.string x.f1.f3],[v5],rfl,(k52_mkM w base ok x.f1 ),⟨v5,rfl,g5⟩⟩⟩
def rd_T54 (xs:List S54) (i:Int):S54:=xs.getD i.toNat z54
theorem at_T54 {w:World} {A:Option Addr} {n:Nat} {xs:List S54} (h:Kd.C k54 w A n xs) (i:Int) (h0:0 ≤ i) (h1:i < n) : ∃ ad A5 c5,A=some ad ∧ w.cell? (ad.add (i.toNat * 6))=some (.string (rd_T54 xs i).f0) ∧ w.cell? ⟨(ad.add (i.toNat * 6)).block,(ad.add (i.toNat * 6)).off + 1,none⟩=some (.int .i64 (rd_T54 xs i).f1.f0) ∧ w.cell? ⟨(ad.add (i.toNat * 6)).block,(ad.add (i.toNat * 6)).off + 2,none⟩=some (.int .i64 (rd_T54 xs i).f1.f1) ∧ w.cell? ⟨(ad.add (i.toNat * 6)).block,(ad.add (i.toNat * 6)).off + 3,none⟩=some (.int .i64 (rd_T54 xs i).f1.f2) ∧ w.cell? ⟨(ad.add (i.toNat * 6)).block,(ad.add (i.toNat * 6)).off + 4,none⟩=some (.string (rd_T54 xs i).f1.f3) ∧ w.cell? ⟨(ad.add (i.toNat * 6)).block,(ad.add (i.toNat * 6)).off + 5,none⟩=some (.slice A5 (rd_T54 xs i).f2.length c5) ∧ (rd_T54 xs i).f2.length ≤ c5 ∧ k58.C w A5 (rd_T54 xs i).f2.length (rd_T54 xs i).f2:=by
 obtain ⟨ad,c,e,_,hK,hc0⟩:=Kd.C_get h z54 i h0 h1;have hc : ∀ j u,c[j]? = some u → w.cell? (ad.add (i.toNat * 6 + j))=some u:=hc0;obtain ⟨A5,c5,rfl,l5,g5⟩:=k54_open hK;exact ⟨ad,A5,c5,e,hc 0 _ rfl,by rw [← add_field _ _ 1 (by omega)];exact hc 1 _ rfl,by rw [← add_field _ _ 2 (by omega)];exact hc 2 _ rfl,by rw [← add_field _ _ 3 (by omega)];exact hc 3 _ rfl,by rw [← add_field _ _ 4 (by omega)];exact hc 4 _ rfl,by rw [← add_field _ _ 5 (by omega)];exact hc 5 _ rfl,l5,g5⟩
def rd_L10 (xs:List (List ByteArray)) (i:Int):(List ByteArray):=xs.getD i.toNat ([]:List ByteArray)
theorem at_L10 {w:World} {A:Option Addr} {n:Nat} {xs:List (List ByteArray)} (h:Kd.C (Kd.slice 9 Kd.string) w A n xs) (i:Int) (h0:0 ≤ i) (h1:i < n) : ∃ ad A0 c0,A=some ad ∧ w.cell? (ad.add i.toNat)=some (.slice A0 (rd_L10 xs i).length c0) ∧ (rd_L10 xs i).length ≤ c0 ∧ Kd.string.C w A0 (rd_L10 xs i).length (rd_L10 xs i):=by
 obtain ⟨ad,c,e,_,hK,hc0⟩:=Kd.C_get h ([]:List ByteArray) i h0 h1;have hc : ∀ j u,c[j]? = some u → w.cell? (ad.add (i.toNat * 1 + j))=some u:=hc0;obtain ⟨A0,c0,rfl,l0,g0⟩:=hK;exact ⟨ad,A0,c0,e,by have hq:=hc 0 _ rfl;rwa [Nat.mul_one,Nat.add_zero] at hq,l0,g0⟩
theorem bc_ {w w':World} {p v} (h:Aside0 (Below w.heap.size w w')) (e:w.cell? p=some v):w'.cell? p=some v:=(h.out.cell (World.block_lt_of_cell? w _ e)).trans e
theorem a_ {p:Prop} (h:p):Aside0 p:=⟨h⟩
theorem s1_ {α:Type _} (l:List α) (i:Nat) (a:α):l.toArray.setIfInBounds i a=(l.set i a).toArray:=List.setIfInBounds_toArray l i a
theorem s2_ {α:Type _} {x:α} {xs:List α} {a:α}:(x::xs).set 0 a=a::xs:=List.set_cons_zero
theorem s3_ {α:Type _} {x:α} {xs:List α} {i:Nat} {a:α}:(x::xs).set (i+1) a=x::xs.set i a:=List.set_cons_succ
@[reducible] def m_ (a b:Nat):Array Bool:=(List.replicate a true++List.replicate b false).toArray
end Go.Proofs.YtfpdikledfhcaaaGreatDoor.PFnExactClientOk
