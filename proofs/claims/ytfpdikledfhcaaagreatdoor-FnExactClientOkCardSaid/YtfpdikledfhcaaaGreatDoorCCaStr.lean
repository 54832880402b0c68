import Derived.Test.YtfpdikledfhcaaaGreatDoorCCaEv
import Derived.Lib.SplitLaws
import Derived.Lib.IndexLaws
import Derived.Lib.CutLaws
import Derived.Lib.IndexBytes
namespace Go.Proofs.YtfpdikledfhcaaaGreatDoor.Str
open Go Go.RowKit Go.Proofs.YtfpdikledfhcaaaGreatDoorW.PrintWords Go.Proofs.YtfpdikledfhcaaaGreatDoor.Ev
set_option linter.unusedVariables false
set_option linter.unusedSimpArgs false
def dl (s:ByteArray):List UInt8:=s.data.toList
def bv (l:List UInt8):ByteArray:=⟨l.toArray⟩
theorem toList_dl (s:ByteArray):s.toList=dl s:=toList_data s
theorem dl_bv (l:List UInt8):dl (bv l)=l:=by simp [dl,bv]
theorem bv_dl (s:ByteArray):bv (dl s)=s:=by cases s;simp [dl,bv]
theorem size_dl (s:ByteArray):s.size=(dl s).length:=by cases s;simp [dl,ByteArray.size]
theorem dl_inj {a b:ByteArray} (h:dl a=dl b):a=b:=by rw [← bv_dl a,← bv_dl b,h]
theorem bt_dl (s:ByteArray) (i:Nat) (h:i < s.size):bt s (i:Int)=(((dl s).getD i 0).toNat:Int):=by
 have h':i < (dl s).length:=by rw [← size_dl];exact h
 rw [getD_lt h']
 unfold bt
 rw [dif_pos (show (i:Int).toNat < s.size by simpa using h)]
 rfl
theorem extract_dl (s:ByteArray) (a b:Nat):s.extract a b=bv (((dl s).take b).drop a):=by
 apply dl_inj
 rw [dl_bv]
 simp [dl,ByteArray.data_extract,Array.toList_extract,List.drop_take]
def consHead (b:UInt8):List (List UInt8) → List (List UInt8)
 | []=>[[b]]
 | p :: ps=>(b :: p) :: ps
def splitL (c:UInt8):List UInt8 → List (List UInt8)
 | []=>[[]]
 | b :: l=>if b=c then [] :: splitL c l else consHead b (splitL c l)
theorem splitL_none {c:UInt8} : ∀ {l:List UInt8},c ∉ l → splitL c l=[l]
 | [],_=>rfl
 | b :: l,h=>by
  have h1:b ≠ c:=fun e=>h (by rw [e];exact List.mem_cons_self)
  have h2:c ∉ l:=fun m=>h (List.mem_cons_of_mem _ m)
  simp only [splitL,if_neg h1,splitL_none h2,consHead]
theorem splitL_hit {c:UInt8} {q:List UInt8} : ∀ {p:List UInt8},c ∉ p → splitL c (p ++ c :: q)=p :: splitL c q
 | [],_=>by simp [splitL]
 | b :: p,h=>by
  have h1:b ≠ c:=fun e=>h (by rw [e];exact List.mem_cons_self)
  have h2:c ∉ p:=fun m=>h (List.mem_cons_of_mem _ m)
  simp only [List.cons_append,splitL,if_neg h1,splitL_hit h2,consHead]
theorem splitL_length (c:UInt8) : ∀ l:List UInt8,(splitL c l).length ≤ l.length + 1
 | []=>by simp [splitL]
 | b :: l=>by
  have:=splitL_length c l
  unfold splitL
  split
  ·simp only [List.length_cons];omega
  ·cases h:splitL c l with
   | nil=>simp [consHead]
   | cons p ps=>rw [h] at this;simp only [consHead,List.length_cons] at this ⊢;omega
theorem splitL_ne (c:UInt8) (l:List UInt8):splitL c l ≠ []:=by
 cases l with
 | nil=>simp [splitL]
 | cons b l=>
  unfold splitL
  split
  ·simp
  ·cases splitL c l <;> simp [consHead]
theorem splitL_mem {c:UInt8} : ∀ {l p:List UInt8},p ∈ splitL c l → p.length ≤ l.length
 | [],p,h=>by simp [splitL] at h;simp [h]
 | b :: l,p,h=>by
  unfold splitL at h
  split at h
  ·rcases List.mem_cons.1 h with rfl | h
   ·simp
   ·have:=splitL_mem h;simp only [List.length_cons];omega
  ·cases e:splitL c l with
   | nil=>exact absurd e (splitL_ne c l)
   | cons q ps=>
    rw [e] at h
    rcases List.mem_cons.1 h with rfl | h
    ·have:=splitL_mem (c:=c) (l:=l) (p:=q) (by rw [e];exact List.mem_cons_self);simp only [List.length_cons];omega
    ·have:=splitL_mem (c:=c) (l:=l) (p:=p) (by rw [e];exact List.mem_cons_of_mem _ h);simp only [List.length_cons];omega
theorem cut_at {c:UInt8} {l:List UInt8} {i:Nat} (h:l[i]? = some c):l=l.take i ++ c :: l.drop (i + 1):=by
 obtain ⟨hi,e⟩:=List.getElem?_eq_some_iff.1 h
 rw [← e,← List.drop_eq_getElem_cons hi,List.take_append_drop]
theorem splitB_eq (c:UInt8) : ∀ (n:Nat) (s:ByteArray),s.size ≤ n → Go.Lib.splitB ⟨#[c]⟩ 0 (Go.Lib.countB s ⟨#[c]⟩) s=(splitL c (dl s)).map bv:=by
 intro n
 have h1:1 ≤ (⟨#[c]⟩:ByteArray).size:=Nat.le_refl 1
 have hI : ∀ s,Go.Lib.indexB s ⟨#[c]⟩=Go.Lib.indexByte (dl s) c:=fun s=>Go.Lib.index_one _ _
 induction n with
 | zero=>
  intro s hs
  have he:dl s=[]:=by apply List.eq_nil_of_length_eq_zero;rw [← size_dl];omega
  have hm:Go.Lib.indexB s ⟨#[c]⟩ = -1:=by rw [hI,he];rfl
  rw [Go.Lib.splitB_miss _ _ _ _ hm,he]
  simp [splitL,← he,bv_dl]
 | succ n ih=>
  intro s hs
  rcases Go.Lib.indexB_cases s ⟨#[c]⟩ with hm | ⟨i,hi,hr⟩
  ·rw [Go.Lib.splitB_miss _ _ _ _ hm]
   rw [hI] at hm
   have hn:c ∉ dl s:=fun h=>by
    obtain ⟨k,hk,e⟩:=List.getElem_of_mem h
    exact Go.Lib.indexByte_none hm k (by rw [List.getElem?_eq_getElem hk,e])
   rw [splitL_none hn]
   simp [bv_dl]
  ·have hc:=Go.Lib.countB_hit s ⟨#[c]⟩ i h1 hi
   have e2:(s.extract (i + 1) s.size)=bv ((dl s).drop (i + 1)):=by
    rw [extract_dl,List.take_of_length_le (by rw [size_dl];exact Nat.le_refl _)]
   have hsz:(s.extract (i + 1) s.size).size ≤ n:=by rw [ByteArray.size_extract];omega
   have h3:=ih _ hsz
   rw [hc,Nat.add_comm]
   rw [Go.Lib.splitB_hit _ _ _ _ i hi]
   rw [hI] at hi
   obtain ⟨ha,hb⟩:=Go.Lib.indexByte_some hi
   have hn:c ∉ (dl s).take i:=fun h=>by
    obtain ⟨k,hk,e⟩:=List.getElem_of_mem h
    rw [List.length_take] at hk
    rw [List.getElem_take] at e
    exact hb k (by omega) (by rw [List.getElem?_eq_getElem (by omega),e])
   have h4:splitL c (dl s)=(dl s).take i :: splitL c ((dl s).drop (i + 1)):=by
    have e4:=cut_at ha
    rw [e4,splitL_hit hn,← e4]
   have h5:s.extract 0 (i + 0)=bv ((dl s).take i):=by rw [extract_dl];simp
   have h6:(⟨#[c]⟩:ByteArray).size=1:=rfl
   rw [h6,h3,h4,h5,e2,dl_bv]
   rfl
end Go.Proofs.YtfpdikledfhcaaaGreatDoor.Str
