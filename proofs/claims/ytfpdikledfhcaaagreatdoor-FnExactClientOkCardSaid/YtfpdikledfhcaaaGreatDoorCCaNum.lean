import Derived.Test.YtfpdikledfhcaaaGreatDoorCCaStr
import Derived.Sort.Walk0
namespace Go.Proofs.YtfpdikledfhcaaaGreatDoor.Num
open Go Go.RowKit Go.Proofs.YtfpdikledfhcaaaGreatDoorW.PrintWords Go.Proofs.YtfpdikledfhcaaaGreatDoor.Ev Go.Proofs.YtfpdikledfhcaaaGreatDoor.Str
set_option linter.unusedVariables false
set_option linter.unusedSimpArgs false
def isD (b:UInt8):Bool:=decide (48 ≤ b.toNat) && decide (b.toNat ≤ 57)
def digB (l:List UInt8):Bool:=l.all isD && !l.isEmpty
def numB (l:List UInt8):Bool:=digB l && (l == [48] || l.head? != some 48)
def small (l:List UInt8):Bool:=numB l && decide (l.length ≤ 8)
def val:List UInt8 → Nat
 | []=>0
 | d :: l=>(d.toNat - 48) * 10 ^ l.length + val l
theorem isD_iff {b:UInt8} : isD b=true ↔ 48 ≤ b.toNat ∧ b.toNat ≤ 57:=by simp [isD]
theorem val_lt : ∀ {l:List UInt8},l.all isD=true → val l < 10 ^ l.length
 | [],_=>by simp [val]
 | d :: l,h=>by
  simp only [List.all_cons,Bool.and_eq_true] at h
  have h1:=isD_iff.1 h.1
  have h2:=val_lt h.2
  have h3:(d.toNat - 48) * 10 ^ l.length ≤ 9 * 10 ^ l.length:=Nat.mul_le_mul_right _ (by omega)
  simp only [val,List.length_cons,Nat.pow_succ]
  omega
theorem val_ge {d:UInt8} {l:List UInt8} (h:isD d=true) (h0:d ≠ 48):10 ^ l.length ≤ val (d :: l):=by
 have h1:=isD_iff.1 h
 have h2:d.toNat ≠ 48:=fun e=>h0 (UInt8.toNat_inj.1 e)
 have h3:1 * 10 ^ l.length ≤ (d.toNat - 48) * 10 ^ l.length:=Nat.mul_le_mul_right _ (by omega)
 simp only [val]
 omega
theorem lt_iff (a b:UInt8):a < b ↔ a.toNat < b.toNat:=UInt8.lt_iff_toNat_lt
theorem val_lex : ∀ {a b:List UInt8},a.all isD=true → b.all isD=true → a.length=b.length → (val a < val b ↔ a < b)
 | [],[],_,_,_=>by simp [val]
 | [],_ :: _,_,_,h=>by simp at h
 | _ :: _,[],_,_,h=>by simp at h
 | x :: a,y :: b,ha,hb,h=>by
  simp only [List.all_cons,Bool.and_eq_true] at ha hb
  have hl:a.length=b.length:=by simpa using h
  have ih:=val_lex ha.2 hb.2 hl
  have x1:=isD_iff.1 ha.1
  have y1:=isD_iff.1 hb.1
  have va:=val_lt ha.2
  have vb:=val_lt hb.2
  simp only [val,List.cons_lt_cons_iff,hl]
  rw [hl] at va
  by_cases e:x=y
  ·subst e
   rw [← ih]
   have : ¬ x < x:=fun h=>by rw [lt_iff] at h;omega
   simp only [this,false_or,true_and]
   omega
  ·have hne:x.toNat ≠ y.toNat:=fun h=>e (UInt8.toNat_inj.1 h)
   by_cases hlt:x.toNat < y.toNat
   ·have h3:(x.toNat - 48 + 1) * 10 ^ b.length ≤ (y.toNat - 48) * 10 ^ b.length:=Nat.mul_le_mul_right _ (by omega)
    rw [Nat.add_mul] at h3
    have:x < y:=(lt_iff _ _).2 hlt
    simp only [this,true_or,iff_true]
    omega
   ·have h3:(y.toNat - 48 + 1) * 10 ^ b.length ≤ (x.toNat - 48) * 10 ^ b.length:=Nat.mul_le_mul_right _ (by omega)
    rw [Nat.add_mul] at h3
    have h4 : ¬ x < y:=fun h=>hlt ((lt_iff _ _).1 h)
    simp only [h4,e,false_and,or_self,iff_false]
    omega
theorem digB_iff {l:List UInt8} : digB l=true ↔ l.all isD=true ∧ l ≠ []:=by cases l <;> simp [digB]
theorem numB_iff {l:List UInt8} : numB l=true ↔ l.all isD=true ∧ l ≠ [] ∧ (l.length ≤ 1 ∨ l.head? ≠ some 48):=by
 unfold numB
 rw [Bool.and_eq_true,digB_iff]
 cases l with
 | nil=>simp
 | cons d l=>
  cases l with
  | nil=>by_cases h:d=48 <;> simp [h]
  | cons e l=>simp
theorem num_len {a b:List UInt8} (ha:numB a=true) (hb:numB b=true) (h:a.length < b.length):val a < val b:=by
 obtain ⟨a1,a2,a3⟩:=numB_iff.1 ha
 obtain ⟨b1,b2,b3⟩:=numB_iff.1 hb
 have va:=val_lt a1
 cases b with
 | nil=>simp at h
 | cons d b=>
  have hn:a.length ≠ 0:=fun e=>a2 (List.eq_nil_of_length_eq_zero e)
  have hd:d ≠ 48:=by
   rcases b3 with b3 | b3
   ·simp only [List.length_cons] at b3 h;omega
   ·intro e;apply b3;simp [e]
  simp only [List.all_cons,Bool.and_eq_true] at b1
  have vb:=val_ge (l:=b) b1.1 hd
  have hp:10 ^ a.length ≤ 10 ^ b.length:=Nat.pow_le_pow_right (by omega) (by simp only [List.length_cons] at h;omega)
  omega
def sgn (a b:Int):Int:=if a < b then -1 else if a > b then 1 else 0
def cmpB (a b:List UInt8):Int:=if a < b then -1 else if a=b then 0 else 1
def orI (a b:Int):Int:=if a=0 then b else a
def cpart (a b:List UInt8):Int:=
 if small a=true then (if small b=true then orI (sgn a.length b.length) (cmpB a b) else -1) else if small b=true then 1 else cmpB a b
def lpart (a b:List UInt8):Bool:=
 if small a=true then (if small b=true then decide (val a < val b) else true) else if small b=true then false else decide (a < b)
theorem lt_irrefl (a:List UInt8) : ¬ a < a:=List.lt_irrefl a
theorem cmpB_neg (a b:List UInt8):cmpB a b < 0 ↔ a < b:=by
 unfold cmpB
 by_cases h:a < b
 ·simp [h]
 ·by_cases e:a=b
  ·subst e;simp [lt_irrefl]
  ·simp [h,e]
theorem cmpB_zero (a b:List UInt8):cmpB a b=0 ↔ a=b:=by
 unfold cmpB
 by_cases e:a=b
 ·subst e;simp
 ·by_cases h:a < b <;> simp [h,e]
theorem small_num {a:List UInt8} (h:small a=true):numB a=true:=by
 unfold small at h
 rw [Bool.and_eq_true] at h
 exact h.1
theorem cpart_zero (a b:List UInt8):cpart a b=0 ↔ a=b:=by
 unfold cpart
 by_cases h1:small a=true
 ·by_cases h2:small b=true
  ·rw [if_pos h1,if_pos h2]
   unfold orI sgn
   by_cases e:a.length=b.length
   ·simp [e,cmpB_zero]
   ·have hne:a ≠ b:=fun h=>e (by rw [h])
    by_cases hl:a.length < b.length
    ·simp [hl,hne]
    ·have:b.length < a.length:=by omega
     simp [hl,this,hne]
  ·have hne:a ≠ b:=fun h=>h2 (h ▸ h1)
   rw [if_pos h1,if_neg h2]
   simp [hne]
 ·by_cases h2:small b=true
  ·have hne:a ≠ b:=fun h=>h1 (h ▸ h2)
   rw [if_neg h1,if_pos h2]
   simp [hne]
  ·rw [if_neg h1,if_neg h2]
   exact cmpB_zero a b
theorem cpart_neg (a b:List UInt8):cpart a b < 0 ↔ lpart a b=true:=by
 unfold cpart lpart
 by_cases h1:small a=true
 ·by_cases h2:small b=true
  ·simp only [if_pos h1,if_pos h2,decide_eq_true_eq]
   have n1:=small_num h1
   have n2:=small_num h2
   unfold orI sgn
   by_cases hl:a.length < b.length
   ·have:=num_len n1 n2 hl
    simp [hl,this]
   ·by_cases hg:b.length < a.length
    ·have:=num_len n2 n1 hg
     have h3 : ¬ val a < val b:=by omega
     simp [hl,hg,h3]
    ·have e:a.length=b.length:=by omega
     rw [val_lex (numB_iff.1 n1).1 (numB_iff.1 n2).1 e]
     simp [e,cmpB_neg]
  ·simp only [if_pos h1,if_neg h2]
   simp
 ·by_cases h2:small b=true
  ·simp only [if_neg h1,if_pos h2]
   simp
  ·simp only [if_neg h1,if_neg h2,decide_eq_true_eq]
   exact cmpB_neg a b
def lpre:List (List UInt8) → List (List UInt8) → Bool
 | [],ys=>!ys.isEmpty
 | _ :: _,[]=>false
 | x :: xs,y :: ys=>if x=y then lpre xs ys else lpart x y
def cpre:List (List UInt8) → List (List UInt8) → Int
 | [],[]=>0
 | [],_ :: _=>-1
 | _ :: _,[]=>1
 | x :: xs,y :: ys=>if x=y then cpre xs ys else cpart x y
theorem cpre_neg : ∀ xs ys:List (List UInt8),cpre xs ys < 0 ↔ lpre xs ys=true
 | [],[]=>by simp [cpre,lpre]
 | [],_ :: _=>by simp [cpre,lpre]
 | _ :: _,[]=>by simp [cpre,lpre]
 | x :: xs,y :: ys=>by
  by_cases e:x=y
  ·simp only [cpre,lpre,if_pos e]
   exact cpre_neg xs ys
  ·simp only [cpre,lpre,if_neg e]
   exact cpart_neg x y
def pre (a b:List UInt8):Int:=if a=b then 0 else if a=[] then 1 else if b=[] then -1 else cpre (splitL 46 a) (splitL 46 b)
def less (a0 a1 a2:Int) (a3:List UInt8) (b0 b1 b2:Int) (b3:List UInt8):Bool:=
 if a0=b0 then (if a1=b1 then (if a2=b2 then (if a3=b3 then false else if a3=[] then false else if b3=[] then true else lpre (splitL 46 a3) (splitL 46 b3)) else decide (a2 < b2)) else decide (a1 < b1)) else decide (a0 < b0)
theorem sgn_zero (a b:Int):sgn a b=0 ↔ a=b:=by unfold sgn;split <;> (try split) <;> omega
theorem sgn_neg (a b:Int):sgn a b < 0 ↔ a < b:=by unfold sgn;split <;> (try split) <;> omega
theorem less_eq (a0 a1 a2:Int) (a3:List UInt8) (b0 b1 b2:Int) (b3:List UInt8) :
 decide (orI (sgn a0 b0) (orI (sgn a1 b1) (orI (sgn a2 b2) (pre a3 b3))) < 0)=less a0 a1 a2 a3 b0 b1 b2 b3:=by
 rw [Bool.eq_iff_iff,decide_eq_true_eq]
 unfold less orI
 by_cases e0:a0=b0
 ·rw [if_pos ((sgn_zero a0 b0).2 e0),if_pos e0]
  by_cases e1:a1=b1
  ·rw [if_pos ((sgn_zero a1 b1).2 e1),if_pos e1]
   by_cases e2:a2=b2
   ·rw [if_pos ((sgn_zero a2 b2).2 e2),if_pos e2]
    unfold pre
    by_cases e3:a3=b3
    ·simp [e3]
    ·by_cases e4:a3=[]
     ·have e6:b3 ≠ []:=fun h=>e3 (by rw [e4,h])
      simp [e4,e6,Ne.symm e6]
     ·by_cases e5:b3=[]
      ·simp [e3,e4,e5]
      ·simp only [if_neg e3,if_neg e4,if_neg e5]
       exact cpre_neg _ _
   ·rw [if_neg (fun h=>e2 ((sgn_zero a2 b2).1 h)),if_neg e2,decide_eq_true_eq]
    exact sgn_neg _ _
  ·rw [if_neg (fun h=>e1 ((sgn_zero a1 b1).1 h)),if_neg e1,decide_eq_true_eq]
   exact sgn_neg _ _
 ·rw [if_neg (fun h=>e0 ((sgn_zero a0 b0).1 h)),if_neg e0,decide_eq_true_eq]
  exact sgn_neg _ _
end Go.Proofs.YtfpdikledfhcaaaGreatDoor.Num
