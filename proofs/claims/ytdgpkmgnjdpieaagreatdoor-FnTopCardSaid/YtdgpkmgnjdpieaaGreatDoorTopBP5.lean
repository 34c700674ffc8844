/- TopBP: plain lemmas,.. -/
import Derived.Test.YtdgpkmgnjdpieaaGreatDoorTopBP4
set_option linter.unusedSimpArgs false
set_option linter.unusedVariables false
namespace Go.Proofs.YtdgpkmgnjdpieaaGreatDoor
open Go
open Enc (rd ow)
open Arg (argv)
open Ret (retv)
open Wf (wf)
def tR (l:List UInt8):ByteArray:=⟨l.toArray⟩
theorem YP (s:ByteArray):s.data.toList.length=s.size:=Array.length_toList
def cut (b:UInt8):List UInt8→List UInt8×List (List UInt8)
 | []=>([],[])
 | c::l=>if c=b then ([],(cut b l).1::(cut b l).2) else (c::(cut b l).1,(cut b l).2)
def sK (b:UInt8) (l:List UInt8):List (List UInt8):=(cut b l).1::(cut b l).2
def HM (b:UInt8) (s:ByteArray):List ByteArray:=(sK b s.data.toList).map tR
theorem kA {b:UInt8}:∀ {w:List UInt8} (r:List UInt8),b∉w→cut b (w++r)=(w++(cut b r).1,(cut b r).2)
 | [],r,_=>rfl
 | c::w,r,h=>by
  have A:c≠b:=λe=>h (by simp [e])
  show cut b (c::(w++r))=_
  rw [cut,if_neg A,kA r λe=>h (List.mem_cons_of_mem _ e)]
  rfl
theorem kj (b:UInt8) (r:List UInt8):cut b (b::r)=([],(cut b r).1::(cut b r).2):=by rw [cut,if_pos rfl]
theorem iq (b:UInt8):∀ (l:List UInt8),l=(cut b l).1++((cut b l).2.map λx=>b::x).flatten
 | []=>rfl
 | c::l=>by
  have A:=iq b l
  rw [cut]
  split
  · rename_i h
    rw [h]
    show b::l=[]++(b::(cut b l).1)++_
    simp only [List.nil_append,List.cons_append]
    rw [← A]
  · show c::l=c::((cut b l).1++_)
    rw [← A]
theorem oF (b:UInt8):∀ (l:List UInt8),(cut b l).2.length≤l.length
 | []=>Nat.le_refl _
 | c::l=>by
  have A:=oF b l
  rw [cut]
  split <;> simp only [List.length_cons] <;> omega
theorem pS (b:UInt8):∀ (l:List UInt8),(cut b l).1.length≤l.length∧∀ x∈(cut b l).2,x.length≤l.length
 | []=>⟨by simp [cut],by simp [cut]⟩
 | c::l=>by
  have D:=pS b l
  rw [cut]
  split
  · exact ⟨AD,λx A=>by
      simp only [List.length_cons]
      rcases List.mem_cons.1 A with e | e
      · rw [e]; omega
      · have:=D.2 x e; omega⟩
  · exact ⟨by simp only [List.length_cons]; omega,λx A=>by
      have:=D.2 x A
      simp only [List.length_cons]; omega⟩
theorem J0 (b:UInt8) (s:ByteArray):1≤(HM b s).length∧(HM b s).length≤s.size+1:=by
 have:=oF b s.data.toList
 rw [YP] at this
 unfold HM sK
 simp only [List.length_map,List.length_cons]
 omega
theorem K2 {b:UInt8} {s x:ByteArray} (h:x∈HM b s):x.size≤s.size:=by
 obtain ⟨l,hl,rfl⟩:=List.mem_map.1 h
 have:=pS b s.data.toList
 rw [YP] at this
 show l.toArray.size≤_
 rw [List.size_toArray]
 rcases List.mem_cons.1 hl with rfl | e
 · exact this.1
 · exact this.2 l e
theorem kc {s:ByteArray} {pre A l:List UInt8} (h:s.data.toList=pre++(A++l)):tM s (pre.length:Int) ((pre.length:Int)+(A.length:Int))=some (tR A):=by
 have D:=YP s
 rw [h] at D
 simp only [List.length_append] at D
 unfold tM
 rw [if_pos AC]
 congr 1
 apply ByteArray.ext
 apply Array.ext'
 rw [show ((pre.length:Int)+(A.length:Int)).toNat=pre.length+A.length by omega,Int.toNat_natCast,ByteArray.data_extract,Array.toList_extract,h]
 show _=A
 rw [List.extract_eq_take_drop,Nat.add_sub_cancel_left,List.drop_left,List.take_left]
theorem uG {x:ByteArray} {out:List ByteArray} (h:out.length≤2000000):BE 16 out [x]=some (out++[x]):=by
 unfold BE
 rw [if_pos (by simp only [List.length_singleton]; omega)]
theorem hP {fu:Nat} {s:ByteArray} {b:UInt8} (J:s.size≤1048576):∀ (l pre A:List UInt8) (out:List ByteArray) (k:Nat),s.data.toList=pre++(A++l)→l.length<k→out.length+l.length≤1048576 →
    JL fu s (b.toNat:Int) k out (pre.length:Int) ((pre.length:Int)+(A.length:Int))=some (out++tR (A++(cut b l).1)::(cut b l).2.map tR)
 | [],pre,A,out,k,h,hk,ho=>by
  obtain ⟨k,rfl⟩:∃ j,k=j+1:=⟨k - 1,AC⟩
  have D:=YP s
  rw [h] at D
  simp only [List.length_append,List.length_nil] at D
  rw [JL.eq_2]
  unfold UK
  rw [AM AJ,show (s.size:Int)=(pre.length:Int)+(A.length:Int) by omega,kc h,AB,uG AC,AB]
  simp [cut]
 | c::l,pre,A,out,k,h,hk,ho=>by
  obtain ⟨k,rfl⟩:∃ j,k=j+1:=⟨k - 1,AC⟩
  have D:=YP s
  rw [h] at D
  simp only [List.length_append,List.length_cons] at D ho
  have L:sx s ((pre.length:Int)+(A.length:Int))=some (c.toNat:Int):=by
   have:=ra (s:=s) (pre:=pre++A) (l:=l) (b:=c) (by rw [h]; simp)
   rw [← this]; simp
  rw [JL.eq_2]
  unfold UK SB
  rw [AX AJ,L,AB,AU AC AC]
  by_cases E:c=b
  · subst E
    rw [AX AD,kc h,AB,uG AC,AB]
    have:=hP (fu:=fu) (b:=c) J l (pre++(A++[c])) [] (out++[tR A]) k (by rw [h]; simp) (by simp at hk; omega) AJ
    rw [show ((pre.length:Int)+(A.length:Int)+1)=(((pre++(A++[c])).length:Nat):Int)+(([]:List UInt8).length:Int) by simp; omega]
    rw [show ((((pre++(A++[c])).length:Nat):Int)+(([]:List UInt8).length:Int))=(((pre++(A++[c])).length:Nat):Int) by simp] at this ⊢
    rw [this,kj]
    simp
  · rw [AM (by simpa using λe=>E (UInt8.toNat_inj.1 AC))]
    have:=hP (fu:=fu) (b:=b) J l pre (A++[c]) out k (by rw [h]; simp) (by simp at hk; omega) AC
    rw [show ((pre.length:Int)+(A.length:Int)+1)=(pre.length:Int)+(((A++[c]).length:Nat):Int) by simp; omega,this,cut,if_neg E]
    simp
theorem eH {s:ByteArray} {b:UInt8} (A:s.size≤1048576):L8 2097153 s (b.toNat:Int)=some (HM b s):=by
 unfold L8
 have D:=YP s
 exact hP (b:=b) A s.data.toList [] [] [] 2097153 rfl AC AJ
theorem gP {fu:Nat} {s:ByteArray} {b:UInt8} (J:s.size≤1048576):∀ (l pre A:List UInt8) (out:List ByteArray) (k:Nat),s.data.toList=pre++(A++l)→l.length+1<k→out.length+l.length≤1048576 →
    HQ fu s (b.toNat:Int) k out (pre.length:Int) ((pre.length:Int)+(A.length:Int))=some (out++tR (A++(cut b l).1)::(cut b l).2.map tR)
 | [],pre,A,out,k,h,hk,ho=>by
  obtain ⟨k,rfl⟩:∃ j,k=j+2:=⟨k - 2,by simp at hk; omega⟩
  have D:=YP s
  rw [h] at D
  simp only [List.length_append,List.length_nil] at D
  rw [HQ.eq_2]
  unfold NS KL
  rw [AX AJ,AX AJ,kc h,AB,uG AC,AB,AU AC AC,HQ.eq_2]
  unfold NS
  rw [AM AJ]
  simp [cut]
 | c::l,pre,A,out,k,h,hk,ho=>by
  obtain ⟨k,rfl⟩:∃ j,k=j+1:=⟨k - 1,AC⟩
  have D:=YP s
  rw [h] at D
  simp only [List.length_append,List.length_cons] at D ho
  have L:sx s ((pre.length:Int)+(A.length:Int))=some (c.toNat:Int):=by
   have:=ra (s:=s) (pre:=pre++A) (l:=l) (b:=c) (by rw [h]; simp)
   rw [← this]; simp
  rw [HQ.eq_2]
  unfold NS KL
  rw [AX AJ,AM AJ,L,AB,AU AC AC]
  by_cases E:c=b
  · subst E
    rw [AX AD,kc h,AB,uG AC,AB]
    have:=gP (fu:=fu) (b:=c) J l (pre++(A++[c])) [] (out++[tR A]) k (by rw [h]; simp) (by simp at hk; omega) AJ
    rw [show ((pre.length:Int)+(A.length:Int)+1)=(((pre++(A++[c])).length:Nat):Int)+(([]:List UInt8).length:Int) by simp; omega]
    rw [show ((((pre++(A++[c])).length:Nat):Int)+(([]:List UInt8).length:Int))=(((pre++(A++[c])).length:Nat):Int) by simp] at this ⊢
    rw [this,kj]
    simp
  · rw [AM (by simpa using λe=>E (UInt8.toNat_inj.1 AC))]
    have:=gP (fu:=fu) (b:=b) J l pre (A++[c]) out k (by rw [h]; simp) (by simp at hk; omega) AC
    rw [show ((pre.length:Int)+(A.length:Int)+1)=(pre.length:Int)+(((A++[c]).length:Nat):Int) by simp; omega,this,cut,if_neg E]
    simp
theorem eU {s:ByteArray} {b:UInt8} (A:s.size≤1048576):LY 2097153 s (b.toNat:Int)=some (HM b s):=by
 unfold LY
 have D:=YP s
 exact gP (b:=b) A s.data.toList [] [] [] 2097153 rfl AC AJ
def jc (x:ByteArray):Int×Bool:=(K0 2097153 x).getD (0,false)
theorem oA {x:ByteArray} (h:x.size≤1048576):K0 2097153 x=some (jc x):=by
 obtain ⟨r,A,_⟩:=pL (fu:=2097153) h
 unfold jc
 rw [A]; rfl
theorem vI {x:ByteArray} (h:x.size≤1048576):MR 2097153 x=some (jc x):=by rw [zB h,oA h]
theorem wP {x:ByteArray} (h:x.size≤1048576) (D:(jc x).2=true):x=KU (jc x).1∧0≤(jc x).1∧(jc x).1≤999999:=by
 obtain ⟨r,A,E⟩:=pL (fu:=2097153) h
 rw [oA h] at A
 rw [Option.some.inj A] at D ⊢
 rcases E with ⟨u,J,e,rfl⟩ | ⟨_,rfl⟩
 · exact ⟨e,by simp only; omega,by simp only; omega⟩
 · simp at D
theorem ug {n:Int} (h:0≤n∧n≤999999):jc (KU n)=(n,true):=by
 have D:(KU n).size≤1048576:=Nat.le_trans (Yv h) AC
 obtain ⟨r,A,E⟩:=pL (fu:=2097153) D
 obtain ⟨u,rfl⟩:∃ u:Nat,n=u:=⟨n.toNat,AC⟩
 rw [oA D] at A
 rw [Option.some.inj A]
 rcases E with ⟨v,N,e,rfl⟩ | ⟨M,_⟩
 · have L:(KU (u:Int)).data.toList=Lib.decDigits u:=by rw [ZX]
   have J:(KU (v:Int)).data.toList=Lib.decDigits v:=by rw [ZX]
   have:=km u
   rw [← L,e,J,km v] at this
   rw [Option.some.inj this]
 · exact absurd rfl (M u AC)
def aB:List ByteArray→Option (List Int)
 | []=>some []
 | x::xs=>if (jc x).2=true then (aB xs).map ((jc x).1::·) else none
def gy (o:List Int):Option (List Int)→List Int×Bool
 | some ns=>(o++ns,true)
 | none=>([],false)
def Xb (w:ByteArray) (k:Nat) (A:ByteArray):Option (List Int) :=
 match HM 32 A with
 | []=>none
 | p::ps=>if p=w∧ps.length=k then aB ps else none
theorem sP {fu k:Nat} {A:List ByteArray} (D:∀ x∈A,x.size≤1048576) (hl:A.length≤1048577) (U:A.length<k):HA 2097153 A k [] 0=some (gy [] (aB A)):=by
 have E:=XB A (λn (o:List Int) i=>HA 2097153 A n o i) (λA o=>some (gy o (aB A))) (λA o=>(∀ x∈A,x.size≤1048576)∧o.length+A.length≤1048577) AC ?_ ?_ k [] ⟨D,by simpa using hl⟩ AC
 · exact E
 · intro n o i x A D J L N
   obtain ⟨M,O⟩:=L
   simp only [List.length_cons] at O
   simp only [HA.eq_2]
   unfold Q0
   rw [J,cond_true,D,AB,oA (M x AD),AB,aB]
   cases T:(jc x).2 with
   | false=>rfl
   | true =>
    rw [if_pos rfl,Bool.not_true,cond_false]
    have:BE 8 o [(jc x).1]=some (o++[(jc x).1]):=by
     unfold BE
     rw [if_pos (by simp only [List.length_singleton]; omega)]
    rw [this,AB,N _ ⟨λy Q=>M y (by simp [Q]),by simp only [List.length_append,List.length_singleton]; omega⟩]
    cases aB A with
    | none=>rfl
    | some ns=>simp [gy]
 · intro n o i J L
   simp only [HA.eq_2]
   unfold Q0
   rw [J,cond_false]
   simp [aB,gy]
theorem mC {y:ByteArray}:∀ (A pre:List ByteArray) (o:List Int) (k:Nat),(∀ x∈A,x.size≤1048576)→(o.length+A.length≤2000000∧pre.length+A.length≤2000000)→A.length<k→J4 2097153 (y::(pre++A)) k o ((pre.length:Int)+1)=some (gy o (aB A))
 | [],pre,o,k,hx,hl,hk=>by
  obtain ⟨k,rfl⟩:∃ j,k=j+1:=⟨k - 1,AC⟩
  rw [J4.eq_2]
  unfold Tj
  rw [AM AD]
  simp [aB,gy]
 | x::A,pre,o,k,hx,hl,hk=>by
  obtain ⟨k,rfl⟩:∃ j,k=j+1:=⟨k - 1,AC⟩
  simp only [List.length_cons] at hl hk
  rw [J4.eq_2]
  unfold Tj
  have hi:ix (y::(pre++x::A)) ((pre.length:Int)+1)=some x:=by
   rw [show ((pre.length:Int)+1)=((pre.length+1:Nat):Int) by omega,EG]; simp
  rw [AX AJ,hi,AB,vI (hx x AD),AB,aB]
  cases J:(jc x).2 with
  | false=>rfl
  | true =>
   rw [if_pos rfl,Bool.not_true,cond_false]
   have:BE 8 o [(jc x).1]=some (o++[(jc x).1]):=by
    unfold BE
    rw [if_pos (by simp only [List.length_singleton]; omega)]
   have E:=mC (y:=y) A (pre++[x]) (o++[(jc x).1]) k (λy D=>hx y (by simp [D])) (by simp only [List.length_append,List.length_singleton]; omega) AC
   rw [this,AB,AU AC AC,show ((pre.length:Int)+1+1)=(((pre++[x]).length:Nat):Int)+1 by simp]
   rw [show y::(pre++x::A)=y::((pre++[x])++A) by simp,E]
   cases aB A with
   | none=>rfl
   | some ns=>simp [gy]
theorem nO {A w:ByteArray} {k:Nat} (h:A.size≤1048576) (N:k≤1048576):B6 2097153 A w (k:Int)=some (gy [] (Xb w k A)):=by
 unfold B6 Xb
 have e:=eH (b:=32) h
 have hl:=(J0 32 A).2
 have M:=λx E=>Nat.le_trans (K2 (b:=32) (s:=A) (x:=x) E) h
 rw [show ((32:UInt8).toNat:Int)=32 from rfl] at e
 rw [e,AB]
 cases L:HM 32 A with
 | nil=>have:=(J0 32 A).1; rw [L] at this; simp at this
 | cons p ps =>
  rw [L] at hl M
  simp only [List.length_cons] at hl
  rw [show ix (p::ps) 0=some p from rfl,AB,Xf,AU AC AC]
  simp only
  by_cases D:p=w
  · rw [decide_eq_true D,Bool.not_true,cond_false]
    by_cases J:ps.length=k
    · rw [if_pos ⟨D,J⟩,AM AJ]
      unfold T9
      have:RA (p::ps) 1 (((p::ps).length:Nat):Int)=some ps:=by
       unfold RA
       rw [if_pos (by simp only [List.length_cons]; omega),show (1:Int).toNat=1 from rfl,Int.toNat_natCast]
       simp
      rw [this,AB,sP (fu:=0) (λx E=>M x (by simp [E])) AC AC]
    · rw [if_neg (λe=>J e.2),AX AJ]; rfl
  · rw [decide_eq_false D,if_neg (λe=>D e.1)]; rfl
theorem wR {A w:ByteArray} {k:Nat} (h:A.size≤1048576) (N:k≤1048576):RL 2097153 A w (k:Int)=some (gy [] (Xb w k A)):=by
 unfold RL Xb
 have e:=eU (b:=32) h
 have hl:=(J0 32 A).2
 have M:=λx E=>Nat.le_trans (K2 (b:=32) (s:=A) (x:=x) E) h
 rw [show ((32:UInt8).toNat:Int)=32 from rfl] at e
 rw [e,AB]
 cases L:HM 32 A with
 | nil=>have:=(J0 32 A).1; rw [L] at this; simp at this
 | cons p ps =>
  rw [L] at hl M
  simp only [List.length_cons] at hl
  rw [show ix (p::ps) 0=some p from rfl,AB,Xf,AU AC AC]
  simp only
  by_cases D:p=w
  · rw [decide_eq_true D,Bool.not_true,cond_false]
    by_cases J:ps.length=k
    · rw [if_pos ⟨D,J⟩,AM AJ]
      unfold V2
      exact mC (y:=p) ps [] [] 2097153 (λx E=>M x (by simp [E])) AJ AC
    · rw [if_neg (λe=>J e.2),AX AJ]; rfl
  · rw [decide_eq_false D,if_neg (λe=>D e.1)]; rfl
theorem aY:∀ {D:List ByteArray} {ns:List Int},(∀ x∈D,x.size≤1048576)→aB D=some ns→D=ns.map KU∧∀ n∈ns,0≤n∧n≤999999
 | [],ns,_,h=>by obtain rfl:=Option.some.inj h; simp
 | x::D,ns,hx,h=>by
  rw [aB] at h
  split at h
  · rename_i L
    cases A:aB D with
    | none=>rw [A] at h; simp at h
    | some M =>
     rw [A] at h
     obtain rfl:=Option.some.inj h
     have:=aY (λy J=>hx y (by simp [J])) A
     have E:=wP (hx x AD) L
     exact ⟨by rw [List.map_cons,← this.1,← E.1],λn A=>by
      rcases List.mem_cons.1 A with rfl | A
      · exact E.2
      · exact this.2 n A⟩
  · simp at h
theorem p4:∀ {ns:List Int},(∀ n∈ns,0≤n∧n≤999999)→aB (ns.map KU)=some ns
 | [],_=>rfl
 | n::ns,h=>by
  rw [List.map_cons,aB,ug (h n AD),p4 λm A=>h m (by simp [A])]
  rfl
theorem JR {w A:ByteArray} {k:Nat} {ns:List Int} (J:A.size≤1048576) (h:Xb w k A=some ns):ns.length=k∧(∀ n∈ns,0≤n∧n≤999999)∧HM 32 A=w::ns.map KU:=by
 unfold Xb at h
 split at h
 · simp at h
 · rename_i p ps E
   split at h
   · rename_i D
     have:=aY (λx L=>Nat.le_trans (K2 (b:=32) (s:=A) (by rw [E]; simp [L])) J) h
     refine ⟨?_,this.2,by rw [E,D.1,← this.1]⟩
     rw [← D.2,this.1,List.length_map]
   · simp at h
theorem SQ {w v A:ByteArray} {k j:Nat} {ns:List Int} (D:A.size≤1048576) (h:Xb w k A=some ns) (E:v≠w):Xb v j A=none:=by
 have:=(JR D h).2.2
 unfold Xb
 rw [this]
 exact if_neg λe=>E e.1.symm
def wT:ByteArray:=⟨#[119,97,121,32,102,105,114,115,116]⟩
def rr:ByteArray:=⟨#[119,97,121,32,110,101,120,116]⟩
def Zj:ByteArray:=⟨#[112,97,108,108,101,116]⟩
def Z3:ByteArray:=⟨#[99,108,97,115,115,101,115]⟩
def YB:ByteArray:=⟨#[119,105,116,104]⟩
def Yn:ByteArray:=⟨#[116,121,112,101]⟩
def Zs:ByteArray:=⟨#[109,97,115,116,101,114]⟩
def Yo:ByteArray:=⟨#[105,116,101,109]⟩
def eN:ByteArray:=⟨#[]⟩
def R0:Request:=⟨0,⟨0,0,0,0⟩,0,[],[],0,[]⟩
def zQ:List Int→Int
 | [a]=>a
 | _=>0
def zh:List Int→Pallet
 | [a,b,c,d]=>⟨a,b,c,d⟩
 | _=>⟨0,0,0,0⟩
def vO:List Int→Pair
 | [a,b]=>⟨a,b⟩
 | _=>⟨0,0⟩
def yP:List Int→Typ
 | [a,b,c,d,e,f,g]=>⟨a,b,c,d,e,f,g⟩
 | _=>⟨0,0,0,0,0,0,0⟩
def yV:List Int→Item
 | [a,b,c,d,e,f,g]=>⟨a,b,c,d,e,f,g⟩
 | _=>⟨0,0,0,0,0,0,0⟩
theorem ur {l:List Int} (h:l.length=1):∃ a,l=[a]:=List.length_eq_one_iff.1 h
theorem zt {l:List Int} (h:l.length=2):∃ a b,l=[a,b]:=by
 match l,h with
 | [a,b],_=>exact ⟨a,b,rfl⟩
theorem zd {l:List Int} (h:l.length=4):∃ a b c d,l=[a,b,c,d]:=by
 match l,h with
 | [a,b,c,d],_=>exact ⟨a,b,c,d,rfl⟩
theorem uE {l:List Int} (h:l.length=7):∃ a b c d e f g,l=[a,b,c,d,e,f,g]:=by
 match l,h with
 | [a,b,c,d,e,f,g],_=>exact ⟨a,b,c,d,e,f,g,rfl⟩
def Yq (r:Request) (l:ByteArray):Int×Request :=
 if l=wT then (0,⟨0,r.fJ,r.fR,r.fT,r.fG,r.fP,r.fU⟩) else
 if l=rr then (0,⟨1,r.fJ,r.fR,r.fT,r.fG,r.fP,r.fU⟩) else
 match Xb Zj 4 l with
 | some n=>(1,⟨r.fc,zh n,r.fR,r.fT,r.fG,r.fP,r.fU⟩)
 | none=>match Xb Z3 1 l with
  | some n=>(2,⟨r.fc,r.fJ,zQ n,r.fT,r.fG,r.fP,r.fU⟩)
  | none=>match Xb YB 2 l with
   | some n=>(3,⟨r.fc,r.fJ,r.fR,r.fT++[vO n],r.fG,r.fP,r.fU⟩)
   | none=>match Xb Yn 7 l with
    | some n=>(4,⟨r.fc,r.fJ,r.fR,r.fT,r.fG++[yP n],r.fP,r.fU⟩)
    | none=>match Xb Zs 1 l with
     | some n=>(5,⟨r.fc,r.fJ,r.fR,r.fT,r.fG,zQ n,r.fU⟩)
     | none=>match Xb Yo 7 l with
      | some n=>(6,⟨r.fc,r.fJ,r.fR,r.fT,r.fG,r.fP,r.fU++[yV n]⟩)
      | none=>(-1,r)
theorem qJ {A w:ByteArray} {k:Nat} {kk:Int} (h:A.size≤1048576) (D:k≤1048576) (e:(k:Int)=kk):B6 2097153 A w kk=some (gy [] (Xb w k A)):=e ▸ nO h D
theorem xP {β:Type} (k:List Int×Bool→Option β):AA (some (gy [] none)) k=k ([],false):=rfl
theorem obS {β:Type} (n:List Int) (k:List Int×Bool→Option β):AA (some (gy [] (some n))) k=k (n,true):=rfl
theorem tu {α:Type} (a b:α):(bif (gy [] none).2 then a else b)=b:=rfl
theorem tn {α:Type} (a b:α):(bif !(gy [] none).2 then a else b)=a:=rfl
theorem rZ {α:Type} (n:List Int) (a b:α):(bif !(gy [] (some n)).2 then a else b)=b:=rfl
theorem xX {r:Request} {l:ByteArray} (hl:l.size≤1048576) (Q:r.fT.length≤1000) (T:r.fG.length≤1000) (hi:r.fU.length≤1000):UI 2097153 r l=some (Yq r l):=by
 unfold Yq
 show (bif (l.toList==wT.toList) then _ else bif (l.toList==rr.toList) then _ else AA (B6 2097153 l Zj 4) _)=_
 rw [Xf,Xf]
 by_cases A:l=wT
 · rw [decide_eq_true A,if_pos A]; rfl
 rw [decide_eq_false A,if_neg A,cond_false]
 by_cases D:l=rr
 · rw [decide_eq_true D,if_pos D]; rfl
 rw [decide_eq_false D,if_neg D,cond_false,qJ (k:=4) (kk:=4) hl AC rfl]
 cases J:Xb Zj 4 l with
 | some n =>
  obtain ⟨a,b,c,d,rfl⟩:=zd (JR hl J).1
  rfl
 | none =>
 rw [xP,AM rfl]
 show AA (B6 2097153 l Z3 1) _=_
 rw [qJ (k:=1) (kk:=1) hl AC rfl]
 cases N:Xb Z3 1 l with
 | some n =>
  obtain ⟨a,rfl⟩:=ur (JR hl N).1
  rfl
 | none =>
 rw [xP,AM rfl]
 show AA (B6 2097153 l YB 2) _=_
 rw [qJ (k:=2) (kk:=2) hl AC rfl]
 cases M:Xb YB 2 l with
 | some n =>
  obtain ⟨a,b,rfl⟩:=zt (JR hl M).1
  show AA (BE 16 r.fT [(⟨a,b⟩:Pair)]) _=_
  rw [KO (by simp only [List.length_singleton]; omega)]
  rfl
 | none =>
 rw [xP,AM rfl]
 show AA (B6 2097153 l Yn 7) _=_
 rw [qJ (k:=7) (kk:=7) hl AC rfl]
 cases L:Xb Yn 7 l with
 | some n =>
  obtain ⟨a,b,c,d,e,f,g,rfl⟩:=uE (JR hl L).1
  show AA (BE 56 r.fG [(⟨a,b,c,d,e,f,g⟩:Typ)]) _=_
  rw [KO (by simp only [List.length_singleton]; omega)]
  rfl
 | none =>
 rw [xP,AM rfl]
 show AA (B6 2097153 l Zs 1) _=_
 rw [qJ (k:=1) (kk:=1) hl AC rfl]
 cases O:Xb Zs 1 l with
 | some n =>
  obtain ⟨a,rfl⟩:=ur (JR hl O).1
  rfl
 | none =>
 rw [xP,AM rfl]
 show AA (B6 2097153 l Yo 7) _=_
 rw [qJ (k:=7) (kk:=7) hl AC rfl]
 cases E:Xb Yo 7 l with
 | some n =>
  obtain ⟨a,b,c,d,e,f,g,rfl⟩:=uE (JR hl E).1
  show AA (BE 56 r.fU [(⟨a,b,c,d,e,f,g⟩:Item)]) _=_
  rw [KO (by simp only [List.length_singleton]; omega)]
  rfl
 | none=>rfl
def mf (A k:Int):Bool :=
 if k=0 then A==-1 else if k=1 then A==0 else if k=2 then A==1 else if k=3 then A==2||A==3 else if k=4 then CW A 2 4 else if k=5 then CW A 2 4 else if k=6 then A==5||A==6 else false
theorem XA (r:Request) (l:ByteArray):((Yq r l).1=0∧(l=wT∨l=rr))∨((Yq r l).1=1∧∃ n,Xb Zj 4 l=some n)∨((Yq r l).1=2∧∃ n,Xb Z3 1 l=some n)∨((Yq r l).1=3∧∃ n,Xb YB 2 l=some n) ∨
    ((Yq r l).1=4∧∃ n,Xb Yn 7 l=some n)∨((Yq r l).1=5∧∃ n,Xb Zs 1 l=some n)∨((Yq r l).1=6∧∃ n,Xb Yo 7 l=some n)∨(Yq r l).1=-1:=by
 unfold Yq
 split
 · rename_i h; exact .inl ⟨rfl,.inl h⟩
 split
 · rename_i h; exact .inl ⟨rfl,.inr h⟩
 split
 · rename_i h; exact .inr (.inl ⟨rfl,_,h⟩)
 split
 · rename_i h; exact .inr (.inr (.inl ⟨rfl,_,h⟩))
 split
 · rename_i h; exact .inr (.inr (.inr (.inl ⟨rfl,_,h⟩)))
 split
 · rename_i h; exact .inr (.inr (.inr (.inr (.inl ⟨rfl,_,h⟩))))
 split
 · rename_i h; exact .inr (.inr (.inr (.inr (.inr (.inl ⟨rfl,_,h⟩)))))
 split
 · rename_i h; exact .inr (.inr (.inr (.inr (.inr (.inr (.inl ⟨rfl,_,h⟩))))))
 exact .inr (.inr (.inr (.inr (.inr (.inr (.inr rfl))))))
theorem xK {A k:Int} (h:-1≤k∧k≤6):PE 2097153 A k=some (mf A k):=by
 have:k=-1∨k=0∨k=1∨k=2∨k=3∨k=4∨k=5∨k=6:=AC
 unfold PE JM
 simp only [Yy,AB]
 rcases this with rfl | rfl | rfl | rfl | rfl | rfl | rfl | rfl
 · rfl
 · rfl
 · rfl
 · rfl
 · show (bif (A==2) then some true else some (A==3))=some (A==2||A==3)
   cases A==2 <;> rfl
 · rfl
 · rfl
 · show (bif (A==5) then some true else some (A==6))=some (A==5||A==6)
   cases A==5 <;> rfl
theorem p2 (r:Request) (l:ByteArray):(Yq r l).2.fT.length≤r.fT.length+1∧(Yq r l).2.fG.length≤r.fG.length+1∧(Yq r l).2.fU.length≤r.fU.length+1:=by
 unfold Yq
 repeat' split
 all_goals simp
theorem uF (r:Request) (l:ByteArray):-1≤(Yq r l).1∧(Yq r l).1≤6:=by
 have:=XA r l
 omega
def Uf (z:ByteArray):List ByteArray→Int→Request→Int→Request×Int
 | [],last,r,i=>if last<5 then (R0,i) else if z=eN then (r,-1) else (R0,i)
 | l::ls,last,r,i=>bif mf last (Yq r l).1 then Uf z ls (Yq r l).1 (Yq r l).2 (i+1) else (R0,i)
def bp (s:ByteArray):Request×Int :=
 if 61<(HM 10 s).length then (R0,60) else Uf ((HM 10 s).getLastD eN) (HM 10 s).dropLast (-1) R0 0
theorem Zg (b:UInt8) (s:ByteArray):∃ ls z,HM b s=ls++[z]∧(HM b s).dropLast=ls∧(HM b s).getLastD eN=z:=by
 have h:=(J0 b s).1
 have A:HM b s≠[]:=λe=>by rw [e] at h; simp at h
 refine ⟨_,(HM b s).getLast A,(List.dropLast_concat_getLast A).symm,rfl,?_⟩
 rw [List.getLastD_eq_getLast?,List.getLast?_eq_some_getLast A]; rfl
theorem rA {α:Type} {ls:List α} {z:α}:RA (ls++[z]) 0 (ls.length:Int)=some ls:=by
 rw [N6 AJ]
 simp
theorem ot {α:Type} {ls:List α} {z:α}:ix (ls++[z]) (ls.length:Int)=some z:=by
 rw [EG]; simp
theorem li {s:ByteArray} (U:s.size≤1048576):H5 2097153 s=some (bp s):=by
 unfold H5 bp
 have e:=eH (b:=10) U
 rw [show ((10:UInt8).toNat:Int)=10 from rfl] at e
 rw [e,AB]
 obtain ⟨ls,z,h1,h2,h3⟩:=Zg 10 s
 have A:=λx M=>Nat.le_trans (K2 (b:=10) (s:=s) (x:=x) M) U
 have V:=(J0 10 s).2
 rw [h2,h3]
 rw [h1] at A V ⊢
 simp only [List.length_append,List.length_singleton] at V ⊢
 rw [AU AC AC,show ((ls.length+1:Nat):Int) - 1=ls.length by omega]
 by_cases D:61<ls.length+1
 · rw [AX AJ,if_pos D]; rfl
 rw [AM AJ,if_neg D,rA,AB]
 have N:=hU ls (λn (o:Request×Int) i=>HE 2097153 (ls++[z]) ls n o.1.fc o.1.fJ.fW o.1.fJ.fD o.1.fJ.fH o.1.fJ.fQ o.1.fR o.1.fT o.1.fG o.1.fP o.1.fU o.2 i) (λpre L o=>some (Uf z L o.2 o.1 (pre.length:Int))) (λpre L o=>o.1.fT.length≤pre.length∧o.1.fG.length≤pre.length∧o.1.fU.length≤pre.length) AC ?_ ?_ 2097153 (R0,-1) ⟨by simp [R0],by simp [R0],by simp [R0]⟩ AC
 · exact N
 · intro n o pre x L e M O h Z
   have Y:pre.length<ls.length:=by rw [e]; simp
   have Q:x.size≤1048576:=A x (by rw [e]; simp)
   simp only [HE.eq_2]
   unfold M2
   rw [O,cond_true,M,AB]
   show AA (UI 2097153 o.1 x) _=_
   rw [xX Q AC AC AC,AB,xK (uF _ _),AB]
   cases T:mf o.2 (Yq o.1 x).1 with
   | false =>
    rw [Bool.not_false,cond_true,Uf,T]; rfl
   | true =>
    rw [Bool.not_true,cond_false]
    have hl:=p2 o.1 x
    have:=Z ((Yq o.1 x).2,(Yq o.1 x).1) ⟨AJ,AJ,AJ⟩
    rw [Uf,T,cond_true]
    simp only at this
    rw [this]
    simp
 · intro n o O h
   simp only [HE.eq_2]
   unfold M2
   rw [O,cond_false,Uf]
   simp only [List.length_append,List.length_singleton]
   rw [AU AC AC,show ((ls.length+1:Nat):Int) - 1=ls.length by omega,ot,AB]
   by_cases J:o.2<5
   · rw [AX (by simpa using J),if_pos J]; rfl
   rw [AM (by simpa using J),if_neg J]
   show (bif (!(z.toList==eN.toList)) then _ else _)=_
   rw [Xf]
   by_cases E:z=eN
   · rw [decide_eq_true E,if_pos E]; rfl
   · rw [decide_eq_false E,if_neg E]; rfl
theorem z8 {A w:ByteArray} {k:Nat} {kk:Int} (h:A.size≤1048576) (D:k≤1048576) (e:(k:Int)=kk):RL 2097153 A w kk=some (gy [] (Xb w k A)):=e ▸ wR h D
def nx (w:ByteArray) (k:Nat):List ByteArray→Option (List Int)
 | []=>none
 | l::_=>Xb w k l
theorem iI {pre rest:List ByteArray} {z w:ByteArray} {k:Nat} {kk at_:Int} (A:∀ x∈rest,x.size≤1048576) (hl:pre.length+rest.length≤1000) (E:k≤1000) (e:(k:Int)=kk) (D:(pre.length:Int)=at_):BV 2097153 (pre++(rest++[z])) at_ w kk=some (gy [] (nx w k rest)):=by
 subst D
 unfold BV
 simp only [List.length_append,List.length_singleton]
 rw [AU AC AC]
 cases rest with
 | nil=>rw [AX AD]; rfl
 | cons l ls =>
  rw [AM AJ,EG]
  have:(pre++(l::ls++[z]))[pre.length]? = some l:=AD
  rw [this,AB,z8 (k:=k) (A l AD) AC e,AB]
  rfl
theorem uz {l:ByteArray} {n:List Int} (hl:l.size≤1048576) (h:Xb Yo 7 l=some n) (r:Request):Yq r l=(6,⟨r.fc,r.fJ,r.fR,r.fT,r.fG,r.fP,r.fU++[yV n]⟩):=by
 have A:=(JR hl h).2.2
 unfold Yq
 rw [if_neg (λe=>by rw [e] at A; revert A; exact λA=>absurd (List.cons.inj A).1 A1),if_neg (λe=>by rw [e] at A; exact absurd (List.cons.inj A).1 A1),SQ hl h (v:=Zj) A1,SQ hl h (v:=Z3) A1,SQ hl h (v:=YB) A1,SQ hl h (v:=Yn) A1,SQ hl h (v:=Zs) A1,h]
theorem uV {l:ByteArray} {n:List Int} (hl:l.size≤1048576) (h:Xb Zs 1 l=some n) (r:Request):Yq r l=(5,⟨r.fc,r.fJ,r.fR,r.fT,r.fG,zQ n,r.fU⟩):=by
 have A:=(JR hl h).2.2
 unfold Yq
 rw [if_neg (λe=>by rw [e] at A; exact absurd (List.cons.inj A).1 A1),if_neg (λe=>by rw [e] at A; exact absurd (List.cons.inj A).1 A1),SQ hl h (v:=Zj) A1,SQ hl h (v:=Z3) A1,SQ hl h (v:=YB) A1,SQ hl h (v:=Yn) A1,h]
theorem vh {l:ByteArray} {n:List Int} (hl:l.size≤1048576) (h:Xb Yn 7 l=some n) (r:Request):Yq r l=(4,⟨r.fc,r.fJ,r.fR,r.fT,r.fG++[yP n],r.fP,r.fU⟩):=by
 have A:=(JR hl h).2.2
 unfold Yq
 rw [if_neg (λe=>by rw [e] at A; exact absurd (List.cons.inj A).1 A1),if_neg (λe=>by rw [e] at A; exact absurd (List.cons.inj A).1 A1),SQ hl h (v:=Zj) A1,SQ hl h (v:=Z3) A1,SQ hl h (v:=YB) A1,h]
theorem va {l:ByteArray} {n:List Int} (hl:l.size≤1048576) (h:Xb YB 2 l=some n) (r:Request):Yq r l=(3,⟨r.fc,r.fJ,r.fR,r.fT++[vO n],r.fG,r.fP,r.fU⟩):=by
 have A:=(JR hl h).2.2
 unfold Yq
 rw [if_neg (λe=>by rw [e] at A; exact absurd (List.cons.inj A).1 A1),if_neg (λe=>by rw [e] at A; exact absurd (List.cons.inj A).1 A1),SQ hl h (v:=Zj) A1,SQ hl h (v:=Z3) A1,h]
theorem u0 {l:ByteArray} {n:List Int} (hl:l.size≤1048576) (h:Xb Z3 1 l=some n) (r:Request):Yq r l=(2,⟨r.fc,r.fJ,zQ n,r.fT,r.fG,r.fP,r.fU⟩):=by
 have A:=(JR hl h).2.2
 unfold Yq
 rw [if_neg (λe=>by rw [e] at A; exact absurd (List.cons.inj A).1 A1),if_neg (λe=>by rw [e] at A; exact absurd (List.cons.inj A).1 A1),SQ hl h (v:=Zj) A1,h]
theorem uA {l:ByteArray} {n:List Int} (hl:l.size≤1048576) (h:Xb Zj 4 l=some n) (r:Request):Yq r l=(1,⟨r.fc,zh n,r.fR,r.fT,r.fG,r.fP,r.fU⟩):=by
 have A:=(JR hl h).2.2
 unfold Yq
 rw [if_neg (λe=>by rw [e] at A; exact absurd (List.cons.inj A).1 A1),if_neg (λe=>by rw [e] at A; exact absurd (List.cons.inj A).1 A1),h]
theorem bN {z l:ByteArray} {ls:List ByteArray} {A i:Int} {r:Request} (h:mf A (Yq r l).1=false):Uf z (l::ls) A r i=(R0,i):=by
 rw [Uf,h]; rfl
theorem WI {z l:ByteArray} {ls:List ByteArray} {A i k:Int} {r q:Request} (h:Yq r l=(k,q)) (D:mf A k=true):Uf z (l::ls) A r i=Uf z ls k q (i+1):=by
 rw [Uf,h,D]; rfl
theorem y8 {z:ByteArray} {w a b c d N m:Int} {P:List Pair} {T:List Typ}:∀ (rest pre:List ByteArray) (D:List Item) (k:Nat) (A:Int),(∀ x∈rest,x.size≤1048576)→pre.length+rest.length≤1000→D.length≤pre.length→rest.length<k→(A=5∨A=6) →
    HD 2097153 (pre++(rest++[z])) w a b c d N P T m k D (pre.length:Int) (gy [] (nx Yo 7 rest)).1 (gy [] (nx Yo 7 rest)).2=some (Uf z rest A ⟨w,⟨a,b,c,d⟩,N,P,T,m,D⟩ (pre.length:Int))
 | [],pre,D,k,A,hs,hl,hi,hk,h5=>by
  obtain ⟨k,rfl⟩:∃ j,k=j+1:=⟨k - 1,AC⟩
  simp only [List.length_nil] at hl
  rw [HD.eq_2]
  unfold M7
  rw [show nx Yo 7 []=none from rfl,tu]
  simp only [List.nil_append,List.length_append,List.length_singleton]
  rw [AU AC AC,AM AD,show ((pre.length+1:Nat):Int) - 1=pre.length by omega,ot,AB]
  show (bif (!(z.toList==eN.toList)) then _ else _)=_
  rw [Xf,Uf,if_neg (show ¬ A<5 by omega)]
  by_cases J:z=eN
  · rw [decide_eq_true J,if_pos J]; try rfl
  · rw [decide_eq_false J,if_neg J]; try rfl
 | l::ls,pre,D,k,A,hs,hl,hi,hk,h5=>by
  obtain ⟨k,rfl⟩:∃ j,k=j+1:=⟨k - 1,AC⟩
  simp only [List.length_cons] at hl hk
  rw [HD.eq_2]
  unfold M7
  have E:=hs l AD
  rw [show nx Yo 7 (l::ls)=Xb Yo 7 l from rfl]
  cases M:Xb Yo 7 l with
  | none =>
   rw [tu]
   simp only [List.length_append,List.length_singleton,List.length_cons,List.length_nil]
   rw [AU AC AC,AX AJ,bN ?_]; · rfl
   have O:=XA ⟨w,⟨a,b,c,d⟩,N,P,T,m,D⟩ l
   rw [M] at O
   rcases O with ⟨e,_⟩ | ⟨e,_⟩ | ⟨e,_⟩ | ⟨e,_⟩ | ⟨e,_⟩ | ⟨e,_⟩ | ⟨_,_,e⟩ | e
   all_goals first | (rw [e]; rcases h5 with rfl | rfl <;> rfl) | exact absurd e AD
  | some n =>
   obtain ⟨U,x2,h,Q,Z,x6,V,rfl⟩:=uE (JR E M).1
   rw [WI (uz E M _) (by rcases h5 with rfl | rfl <;> rfl)]
   show AA (BE 56 D [(⟨U,x2,h,Q,Z,x6,V⟩:Item)]) _=_
   rw [KO (by simp only [List.length_singleton]; omega),AB,AU AC AC]
   have e:pre++(l::ls++[z])=(pre++[l])++(ls++[z]):=AD
   have Y:(pre.length:Int)+1=(((pre++[l]).length:Nat):Int):=AD
   rw [e,Y]
   show AA (BV 2097153 ((pre++[l])++(ls++[z])) (((pre++[l]).length:Nat):Int) Yo 7) _=_
   rw [iI (k:=7) (kk:=7) (λx L=>hs x (by simp [L])) AJ AC rfl rfl,AB]
   exact y8 ls (pre++[l]) _ k 6 (λx L=>hs x (by simp [L])) AJ AJ AC (.inr rfl)
theorem zi {z:ByteArray} {w a b c d Q:Int} {P:List Pair}:∀ (rest pre:List ByteArray) (E:List Typ) (k:Nat) (A:Int),(∀ x∈rest,x.size≤1048576)→pre.length+rest.length≤1000→E.length≤pre.length→rest.length<k→(A=4∨(A=2∨A=3)∧nx YB 2 rest=none) →
    HB 2097153 (pre++(rest++[z])) w a b c d Q P k E (pre.length:Int) (gy [] (nx Yn 7 rest)).1 (gy [] (nx Yn 7 rest)).2=some (Uf z rest A ⟨w,⟨a,b,c,d⟩,Q,P,E,0,[]⟩ (pre.length:Int))
 | [],pre,E,k,A,hs,hl,hi,hk,h5=>by
  obtain ⟨k,rfl⟩:∃ j,k=j+1:=⟨k - 1,AC⟩
  rw [HB.eq_2]
  unfold MV
  rw [show nx Yn 7 []=none from rfl,tu]
  show AA (BV 2097153 (pre++([]++[z])) (pre.length:Int) Zs 1) _=_
  rw [iI (k:=1) (kk:=1) hs hl AC rfl rfl,AB,Uf,if_pos AC]
  rfl
 | l::ls,pre,E,k,A,hs,hl,hi,hk,h5=>by
  obtain ⟨k,rfl⟩:∃ j,k=j+1:=⟨k - 1,AC⟩
  have M:=hl
  simp only [List.length_cons] at hl hk
  rw [HB.eq_2]
  unfold MV
  have D:=hs l AD
  have e:pre++(l::ls++[z])=(pre++[l])++(ls++[z]):=AD
  have V:(pre.length:Int)+1=(((pre++[l]).length:Nat):Int):=AD
  rw [show nx Yn 7 (l::ls)=Xb Yn 7 l from rfl]
  cases O:Xb Yn 7 l with
  | none =>
   rw [tu]
   show AA (BV 2097153 (pre++(l::ls++[z])) (pre.length:Int) Zs 1) _=_
   rw [iI (k:=1) (kk:=1) hs M AC rfl rfl,AB]
   rw [show nx Zs 1 (l::ls)=Xb Zs 1 l from rfl]
   cases N:Xb Zs 1 l with
   | none =>
    rw [tn,bN ?_]; · rfl
    have T:=XA ⟨w,⟨a,b,c,d⟩,Q,P,E,0,[]⟩ l
    rw [O,N] at T
    have L:A=4∨(A=2∨A=3)∧Xb YB 2 l=none:=h5
    rcases T with ⟨e,_⟩ | ⟨e,_⟩ | ⟨e,_⟩ | ⟨e,_,Y⟩ | ⟨_,_,e⟩ | ⟨_,_,e⟩ | ⟨e,_⟩ | e
    all_goals first | exact absurd e AD | (rw [e]; rcases L with rfl | ⟨rfl | rfl,h6⟩ <;> first | rfl | (rw [h6] at Y; exact absurd Y AD))
   | some n =>
    obtain ⟨U,rfl⟩:=ur (JR D N).1
    rw [rZ,WI (uV D N _) (by rcases h5 with rfl | ⟨rfl | rfl,_⟩ <;> rfl)]
    show AA (BV 2097153 (pre++(l::ls++[z])) (AK ((pre.length:Int)+1)) Yo 7) _=_
    rw [AU AC AC,e,V,iI (k:=7) (kk:=7) (λx J=>hs x (by simp [J])) AJ AC rfl rfl,AB]
    exact y8 ls (pre++[l]) [] 2097153 5 (λx J=>hs x (by simp [J])) AJ AD AC (.inl rfl)
  | some n =>
   obtain ⟨U,x2,x3,Z,x5,x6,h,rfl⟩:=uE (JR D O).1
   rw [WI (vh D O _) (by rcases h5 with rfl | ⟨rfl | rfl,_⟩ <;> rfl)]
   show AA (BE 56 E [(⟨U,x2,x3,Z,x5,x6,h⟩:Typ)]) _=_
   rw [KO (by simp only [List.length_singleton]; omega),AB,AU AC AC,e,V]
   show AA (BV 2097153 ((pre++[l])++(ls++[z])) (((pre++[l]).length:Nat):Int) Yn 7) _=_
   rw [iI (k:=7) (kk:=7) (λx J=>hs x (by simp [J])) AJ AC rfl rfl,AB]
   exact zi ls (pre++[l]) _ k 4 (λx J=>hs x (by simp [J])) AJ AJ AC (.inl rfl)
theorem x9 {z:ByteArray} {w a b c d M:Int}:∀ (rest pre:List ByteArray) (ps:List Pair) (k:Nat) (A:Int),(∀ x∈rest,x.size≤1048576)→pre.length+rest.length≤1000→ps.length≤pre.length→rest.length<k→(A=2∨A=3) →
    JO 2097153 (pre++(rest++[z])) w a b c d M k ps (pre.length:Int) (gy [] (nx YB 2 rest)).1 (gy [] (nx YB 2 rest)).2=some (Uf z rest A ⟨w,⟨a,b,c,d⟩,M,ps,[],0,[]⟩ (pre.length:Int))
 | rest,pre,ps,k,A,hs,hl,hi,hk,h5=>by
  obtain ⟨k,rfl⟩:∃ j,k=j+1:=⟨k - 1,AC⟩
  rw [JO.eq_2]
  unfold VD
  cases L:nx YB 2 rest with
  | none =>
   rw [tu]
   show AA (BV 2097153 (pre++(rest++[z])) (pre.length:Int) Yn 7) _=_
   rw [iI (k:=7) (kk:=7) hs hl AC rfl rfl,AB]
   exact zi rest pre [] 2097153 A hs hl AD AC (.inr ⟨h5,L⟩)
  | some n =>
   cases rest with
   | nil=>exact absurd L (by simp [nx])
   | cons l ls =>
    have E:=hs l AD
    have e:pre++(l::ls++[z])=(pre++[l])++(ls++[z]):=AD
    have O:(pre.length:Int)+1=(((pre++[l]).length:Nat):Int):=AD
    simp only [List.length_cons] at hl hk
    have D:Xb YB 2 l=some n:=L
    obtain ⟨N,Q,rfl⟩:=zt (JR E D).1
    rw [WI (va E D _) (by rcases h5 with rfl | rfl <;> rfl)]
    show AA (BE 16 ps [(⟨N,Q⟩:Pair)]) _=_
    rw [KO (by simp only [List.length_singleton]; omega),AB,AU AC AC,e,O]
    show AA (BV 2097153 ((pre++[l])++(ls++[z])) (((pre++[l]).length:Nat):Int) YB 2) _=_
    rw [iI (k:=2) (kk:=2) (λx J=>hs x (by simp [J])) AJ AC rfl rfl,AB]
    exact x9 ls (pre++[l]) _ k 3 (λx J=>hs x (by simp [J])) AJ AJ AC (.inr rfl)
 termination_by rest=>rest.length
theorem yj {z D:ByteArray} {w:Int} {rest:List ByteArray} (L:∀ x∈rest,x.size≤1048576) (hl:rest.length≤900):FI 2097153 ([D]++(rest++[z])) w=some (Uf z rest 0 ⟨w,⟨0,0,0,0⟩,0,[],[],0,[]⟩ 1):=by
 unfold FI
 show AA (BV 2097153 ([D]++(rest++[z])) 1 Zj 4) _=_
 rw [iI (k:=4) (kk:=4) (at_:=1) (pre:=[D]) L AJ AC rfl rfl,AB]
 cases rest with
 | nil=>rfl
 | cons A ls =>
  have O:=L A AD
  simp only [List.length_cons] at hl
  rw [show nx Zj 4 (A::ls)=Xb Zj 4 A from rfl]
  cases J:Xb Zj 4 A with
  | none =>
   rw [tn,bN ?_]; · rfl
   have M:=XA ⟨w,⟨0,0,0,0⟩,0,[],[],0,[]⟩ A
   rw [J] at M
   rcases M with ⟨e,_⟩ | ⟨_,_,e⟩ | ⟨e,_⟩ | ⟨e,_⟩ | ⟨e,_⟩ | ⟨e,_⟩ | ⟨e,_⟩ | e
   all_goals first | exact absurd e AD | (rw [e]; rfl)
  | some n =>
   obtain ⟨a,b,c,d,rfl⟩:=zd (JR O J).1
   rw [rZ,WI (uA O J _) rfl]
   show AA (BV 2097153 ([D,A]++(ls++[z])) 2 Z3 1) _=some (Uf z ls 1 ⟨w,⟨a,b,c,d⟩,0,[],[],0,[]⟩ 2)
   rw [iI (k:=1) (kk:=1) (at_:=2) (pre:=[D,A]) (λx N=>L x (by simp [N])) AJ AC rfl rfl,AB]
   cases ls with
   | nil=>rfl
   | cons E ls =>
    have Q:=L E AD
    simp only [List.length_cons] at hl
    rw [show nx Z3 1 (E::ls)=Xb Z3 1 E from rfl]
    cases J:Xb Z3 1 E with
    | none =>
     rw [tn,bN ?_]; · rfl
     have M:=XA ⟨w,⟨a,b,c,d⟩,0,[],[],0,[]⟩ E
     rw [J] at M
     rcases M with ⟨e,_⟩ | ⟨e,_⟩ | ⟨_,_,e⟩ | ⟨e,_⟩ | ⟨e,_⟩ | ⟨e,_⟩ | ⟨e,_⟩ | e
     all_goals first | exact absurd e AD | (rw [e]; rfl)
    | some n =>
     obtain ⟨T,rfl⟩:=ur (JR Q J).1
     rw [rZ,WI (u0 Q J _) rfl]
     show AA (BV 2097153 ([D,A,E]++(ls++[z])) 3 YB 2) _=some (Uf z ls 2 ⟨w,⟨a,b,c,d⟩,T,[],[],0,[]⟩ 3)
     rw [iI (k:=2) (kk:=2) (at_:=3) (pre:=[D,A,E]) (λx N=>L x (by simp [N])) AJ AC rfl rfl,AB]
     exact x9 ls [D,A,E] [] 2097153 2 (λx N=>L x (by simp [N])) AJ AD AC (.inl rfl)
theorem nC {s:ByteArray} (Q:s.size≤1048576):J8 2097153 s=some (bp s):=by
 unfold J8 bp
 have e:=eU (b:=10) Q
 rw [show ((10:UInt8).toNat:Int)=10 from rfl] at e
 rw [e,AB]
 obtain ⟨ls,z,Y,h2,V⟩:=Zg 10 s
 have J:=λx M=>Nat.le_trans (K2 (b:=10) (s:=s) (x:=x) M) Q
 have T:=(J0 10 s).2
 rw [h2,V]
 rw [Y] at J T ⊢
 simp only [List.length_append,List.length_singleton] at T ⊢
 rw [AU AC AC,show ((ls.length+1:Nat):Int) - 1=ls.length by omega]
 by_cases D:61<ls.length+1
 · rw [AX AJ,if_pos D]; rfl
 rw [AM AJ,if_neg D]
 cases ls with
 | nil=>rfl
 | cons A ls =>
  rw [AM AJ]
  have N:∀ x∈ls,x.size≤1048576:=λx M=>J x (by simp [M])
  simp only [List.length_cons] at D
  rw [show ix (A::ls++[z]) 0=some A from rfl,AB]
  show (bif (!(A.toList==wT.toList)) then (bif (!(A.toList==rr.toList)) then _ else _) else _)=_
  have O:∀ (k:Int),(A=rr→k=1)→(A≠rr→k=0)→JN 2097153 (A::ls++[z])=some (Uf z ls 0 ⟨k,⟨0,0,0,0⟩,0,[],[],0,[]⟩ 1):=λk Z h=>by
   unfold JN
   rw [show ix (A::ls++[z]) 0=some A from rfl,AB]
   show (bif (A.toList==rr.toList) then FI 2097153 ([A]++(ls++[z])) 1 else FI 2097153 ([A]++(ls++[z])) 0)=_
   rw [Xf,yj N AC,yj N AC]
   by_cases hl:A=rr
   · rw [decide_eq_true hl,Z hl]; rfl
   · rw [decide_eq_false hl,h hl]; rfl
  rw [Xf,Xf]
  by_cases E:A=wT
  · rw [decide_eq_true E,Bool.not_true,cond_false,O 0 (λe=>absurd (e.symm.trans E) A1) λ_=>rfl,WI (k:=0) (q:=⟨0,⟨0,0,0,0⟩,0,[],[],0,[]⟩) ?_ rfl]; · rfl
    unfold Yq
    rw [if_pos E]; rfl
  · rw [decide_eq_false E,Bool.not_false,cond_true]
    by_cases L:A=rr
    · rw [decide_eq_true L,Bool.not_true,cond_false,O 1 (λ_=>rfl) (λe=>absurd L e),WI (k:=0) (q:=⟨1,⟨0,0,0,0⟩,0,[],[],0,[]⟩) ?_ rfl]; · rfl
      unfold Yq
      rw [if_neg E,if_pos L]; rfl
    · rw [decide_eq_false L,Bool.not_false,cond_true,bN ?_]; · rfl
      have U:=XA R0 A
      rcases U with ⟨_,e⟩ | ⟨e,_⟩ | ⟨e,_⟩ | ⟨e,_⟩ | ⟨e,_⟩ | ⟨e,_⟩ | ⟨e,_⟩ | e
      · rcases e with e | e
        · exact absurd e E
        · exact absurd e L
      all_goals (rw [e]; rfl)
theorem nP (z:ByteArray):∀ (ls:List ByteArray) (A:Int) (r:Request) (i:Int) (n:Nat),r.fT.length≤n∧r.fG.length≤n∧r.fU.length≤n→(Uf z ls A r i).1.fT.length≤n+ls.length∧(Uf z ls A r i).1.fG.length≤n+ls.length∧(Uf z ls A r i).1.fU.length≤n+ls.length
 | [],A,r,i,n,h=>by
  rw [Uf]
  split
  · simp [R0]
  split
  · simpa using h
  · simp [R0]
 | l::ls,A,r,i,n,h=>by
  rw [Uf]
  cases mf A (Yq r l).1
  · simp [R0]
  · have:=p2 r l
    have:=nP z ls (Yq r l).1 (Yq r l).2 (i+1) (n+1) AC
    simp only [cond_true,List.length_cons]
    omega
theorem aK (s:ByteArray):Sm 2097153 (bp s).1:=by
 unfold bp
 split
 · exact ⟨AC,by simp [R0],by simp [R0],by simp [R0]⟩
 · rename_i h
   have:=nP ((HM 10 s).getLastD eN) (HM 10 s).dropLast (-1) R0 0 0 (by simp [R0])
   have A:(HM 10 s).dropLast.length≤61:=by rw [List.length_dropLast]; omega
   exact ⟨AC,AC,AC,AC⟩
def Y7 (s:ByteArray):Int:=bif decide ((bp s).2≥0) then 1 else B9 (bp s).1
theorem rG {s:ByteArray} (A:s.size≤1048576):LD 2097153 s=some (Y7 s):=by
 unfold LD Y7
 rw [li A,AB]
 cases decide ((bp s).2≥0)
 · rw [cond_false,cond_false,wq (aK s),AB]
 · rfl
theorem wg {s:ByteArray} (A:s.size≤1048576):OB 2097153 s=some (Y7 s):=by
 unfold OB Y7
 rw [nC A,AB]
 cases decide ((bp s).2≥0)
 · rw [cond_false,cond_false,Zz (aK s),AB]
 · rfl
def jb (s:ByteArray):ByteArray×Int:=bif Y7 s != 0 then (eN,Y7 s) else (Z0 (WR (bp s).1).1,0)
theorem zE {s:ByteArray} (A:s.size≤1048576):X7 2097153 s=some (jb s):=by
 unfold X7 jb
 rw [rG A,AB]
 cases Y7 s != 0
 · rw [cond_false,cond_false,li A,AB,xx (aK s),AB,tG (s0 _) AC,AB]
 · rfl
theorem vN {s:ByteArray} (A:s.size≤1048576):WJ 2097153 s=some (jb s):=by
 unfold WJ jb
 rw [wg A,AB]
 cases Y7 s != 0
 · rw [cond_false,cond_false,nC A,AB,tj (aK s),AB,tB (s0 _) AC,AB]
 · rfl
def C0:Carton:=⟨0,0,[]⟩
def T0:Spot:=⟨0,0,0,0⟩
def mZ:List Int→Carton×Spot
 | a::b::c::d::e::f::u=>(⟨a,b,u⟩,⟨c,d,e,f⟩)
 | _=>(C0,T0)
theorem xf {l:List Int} (h:¬ l.length<6):∃ a b c d e f u,l=a::b::c::d::e::f::u:=by
 match l,h with
 | [],h=>exact absurd AD h
 | [_],h=>exact absurd AD h
 | [_,_],h=>exact absurd AD h
 | [_,_,_],h=>exact absurd AD h
 | [_,_,_,_],h=>exact absurd AD h
 | [_,_,_,_,_],h=>exact absurd AD h
 | a::b::c::d::e::f::u,_=>exact ⟨a,b,c,d,e,f,u,rfl⟩
def gj (p:Carton×Spot):Bool:=aw p.1&&la p.2
def mY (w:ByteArray) (o:Option (List Int)):Carton×Spot×Bool :=
 match o with
 | none=>(C0,T0,false)
 | some n=>if n.length<6 then (C0,T0,false) else if w=NW∧gj (mZ n)=true then ((mZ n).1,(mZ n).2,true) else (C0,T0,false)
def Xz (s:ByteArray):Carton×Spot×Bool :=
 match HM 32 s with
 | []=>(C0,T0,false)
 | p::ps=>mY p (aB ps)
theorem zr (c:Carton) (t:Spot):RQ ⟨[c],[t]⟩=gj (c,t):=by
 unfold RQ gj
 simp
theorem zF {c:Carton} {t:Spot} (h:c.fK.length≤1048576):Sp ⟨[c],[t]⟩:=⟨AD,λd A=>by rw [List.mem_singleton.1 A]; exact h,by simpa [Xd] using h,AD⟩
theorem vX {a b c d e f:Int} {u:List Int} (h:u.length≤2000000):RA (a::b::c::d::e::f::u) 6 (((a::b::c::d::e::f::u).length:Nat):Int)=some u:=by
 rw [N6 (by simp only [List.length_cons]; omega),Int.toNat_natCast,show (6:Int).toNat=6 from rfl]
 simp
theorem k8:∀ {A:List ByteArray} {n:List Int},aB A=some n→n.length=A.length
 | [],n,h=>by rw [← Option.some.inj h]; rfl
 | x::A,n,h=>by
  rw [aB] at h
  split at h
  · cases D:aB A with
    | none=>rw [D] at h; simp at h
    | some E =>
     rw [D] at h
     rw [← Option.some.inj h,List.length_cons,List.length_cons,k8 D]
  · simp at h
theorem zw {α:Type} (a b:α):(bif !(([],false):List Int×Bool).2 then a else b)=a:=rfl
theorem zp {α:Type} (n:List Int) (a b:α):(bif !((n,true):List Int×Bool).2 then a else b)=b:=rfl
theorem xU {s:ByteArray} (L:s.size≤1048576):Wk 2097153 s=some (Xz s):=by
 unfold Wk Xz
 have e:=eH (b:=32) L
 have hl:=(J0 32 s).2
 rw [show ((32:UInt8).toNat:Int)=32 from rfl] at e
 rw [e,AB]
 cases J:HM 32 s with
 | nil=>have:=(J0 32 s).1; rw [J] at this; simp at this
 | cons p ps =>
  rw [J] at hl
  simp only [List.length_cons] at hl ⊢
  have O:AK (((ps.length+1:Nat):Int) - 1)=ps.length:=by rw [AU AC AC]; omega
  simp only [O]
  show AA (B6 2097153 s NW (ps.length:Int)) _=_
  rw [nO L AC]
  have N:Xb NW ps.length s=if p=NW then aB ps else none:=by
   unfold Xb
   rw [J]
   simp
  rw [N]
  unfold mY
  by_cases A:p=NW
  · rw [if_pos A]
    cases M:aB ps with
    | none=>rfl
    | some n =>
     have D:=k8 M
     simp only
     rw [obS,zp]
     by_cases E:n.length<6
     · rw [AX AJ,if_pos E]; rfl
     rw [AM AJ,if_neg E]
     unfold VK V3
     obtain ⟨a,b,c,d,e,f,u,rfl⟩:=xf E
     simp only [List.length_cons] at D
     show AA (RA (a::b::c::d::e::f::u) 6 (((a::b::c::d::e::f::u).length:Nat):Int)) _=_
     rw [vX AC,AB]
     show AA (KY 2097153 ⟨[⟨a,b,u⟩],[⟨c,d,e,f⟩]⟩) _=_
     rw [r6 (zF AJ) AC,AB,zr]
     show (bif !gj (⟨a,b,u⟩,⟨c,d,e,f⟩) then _ else _)=some (if p=NW∧gj (⟨a,b,u⟩,⟨c,d,e,f⟩)=true then _ else _)
     cases Q:gj (⟨a,b,u⟩,⟨c,d,e,f⟩)
     · rw [if_neg AD]; rfl
     · rw [if_pos ⟨A,rfl⟩]; rfl
  · rw [if_neg A,xP,zw]
    cases M:aB ps with
    | none=>rfl
    | some n =>
     simp only
     split
     · rfl
     rw [if_neg (λh=>A h.1)]; rfl
theorem xO {a b:ByteArray} (h:a.data.toList=b.data.toList):a=b:=ByteArray.ext (Array.ext' h)
theorem pZ (a b:ByteArray):(a++b).data.toList=a.data.toList++b.data.toList:=by rw [ByteArray.data_append]; simp
theorem YA:∀ (l:List Int) (o:ByteArray),(HV o l).data.toList=o.data.toList++(l.map λn=>32::(KU n).data.toList).flatten
 | [],o=>by simp [HV]
 | n::l,o=>by
  show (HV (o++(n8++KU n)) l).data.toList=_
  rw [YA l,pZ,pZ]
  simp [n8]
theorem gM {s p:ByteArray} {n:List Int} (h:HM 32 s=p::n.map KU):HV p n=s:=by
 apply xO
 rw [YA]
 have A:=iq 32 s.data.toList
 unfold HM sK at h
 simp only [List.map_cons,List.cons.injEq] at h
 have J:(cut 32 s.data.toList).1=p.data.toList:=by rw [← h.1]; rfl
 have D:(cut 32 s.data.toList).2=n.map λn=>(KU n).data.toList:=by
  have:=congrArg (List.map λx:ByteArray=>x.data.toList) h.2
  rw [List.map_map,List.map_map] at this
  have E:((λx:ByteArray=>x.data.toList) ∘ tR)=id:=by funext x; rfl
  rw [E,List.map_id] at this
  exact this
 rw [J,D,List.map_map] at A
 exact A.symm
theorem tx {p:ByteArray} {n:List Int} (h:HV NW n=HV p n):NW=p:=by
 have:=congrArg (λx:ByteArray=>x.data.toList) h
 simp only [YA] at this
 exact xO (List.append_cancel_right this)
theorem mp (n:List Int) (h:¬ n.length<6):GE (mZ n).1 (mZ n).2=n:=by
 obtain ⟨a,b,c,d,e,f,u,rfl⟩:=xf h
 rfl
def xc (s:ByteArray) (n:List Int):Option (Carton×Spot×Bool) :=
 bif (decide ((n.length:Int)<6)) then some (C0,T0,false) else AA (ix n 0) λa=>AA (ix n 1) λb=>AA (RA n 6 (n.length:Int)) λu=>AA (BE 8 [] u) λv=>PI 2097153 s n a b v
theorem q7 {s y:ByteArray}:∀ (A pre:List ByteArray) (o:List Int) (k:Nat),(∀ x∈A,x.size≤1048576)→(o.length+A.length≤2000000∧pre.length+A.length≤2000000)→A.length<k→J6 2097153 s (y::(pre++A)) k o ((pre.length:Int)+1)=match aB A with | none=>some (C0,T0,false) | some n=>xc s (o++n)
 | [],pre,o,k,hx,hl,hk=>by
  obtain ⟨k,rfl⟩:∃ j,k=j+1:=⟨k - 1,AC⟩
  rw [J6.eq_2]
  unfold TG
  rw [AM AD]
  show _=xc s (o++[])
  rw [List.append_nil]
  rfl
 | x::A,pre,o,k,hx,hl,hk=>by
  obtain ⟨k,rfl⟩:∃ j,k=j+1:=⟨k - 1,AC⟩
  simp only [List.length_cons] at hl hk
  rw [J6.eq_2]
  unfold TG
  have hi:ix (y::(pre++x::A)) ((pre.length:Int)+1)=some x:=by
   rw [show ((pre.length:Int)+1)=((pre.length+1:Nat):Int) by omega,EG]; simp
  rw [AX AJ,hi,AB,vI (hx x AD),AB,aB]
  cases J:(jc x).2 with
  | false=>rfl
  | true =>
   rw [if_pos rfl,Bool.not_true,cond_false]
   have:BE 8 o [(jc x).1]=some (o++[(jc x).1]):=by
    unfold BE
    rw [if_pos (by simp only [List.length_singleton]; omega)]
   have E:=q7 (s:=s) (y:=y) A (pre++[x]) (o++[(jc x).1]) k (λy D=>hx y (by simp [D])) (by simp only [List.length_append,List.length_singleton]; omega) AC
   rw [this,AB,AU AC AC,show ((pre.length:Int)+1+1)=(((pre++[x]).length:Nat):Int)+1 by simp]
   rw [show y::(pre++x::A)=y::((pre++[x])++A) by simp,E]
   cases aB A with
   | none=>rfl
   | some ns=>simp
theorem xS {s:ByteArray} (T:s.size≤1048576):Wo 2097153 s=some (Xz s):=by
 unfold Wo Xz
 have e:=eU (b:=32) T
 have hl:=(J0 32 s).2
 have J:=λx D=>Nat.le_trans (K2 (b:=32) (s:=s) (x:=x) D) T
 rw [show ((32:UInt8).toNat:Int)=32 from rfl] at e
 rw [e,AB]
 cases Q:HM 32 s with
 | nil=>have:=(J0 32 s).1; rw [Q] at this; simp at this
 | cons p ps =>
  rw [Q] at hl J
  simp only [List.length_cons] at hl
  have D:∀ x∈ps,x.size≤1048576:=λx D=>J x (by simp [D])
  have:=q7 (s:=s) (y:=p) ps [] [] 2097153 D AJ AC
  rw [show ((([]:List ByteArray).length:Int)+1)=1 from rfl,List.nil_append] at this
  rw [this]
  show _=some (mY p (aB ps))
  unfold mY
  cases U:aB ps with
  | none=>rfl
  | some n =>
   have N:=k8 U
   have O:=aY D U
   simp only [List.nil_append]
   unfold xc
   by_cases M:n.length<6
   · rw [AX AJ,if_pos M]
   rw [AM AJ,if_neg M]
   have V:=mp n M
   have E:=gM (n:=n) (by rw [Q,← O.1])
   obtain ⟨a,b,c,d,e,f,u,rfl⟩:=xf M
   simp only [List.length_cons] at N
   show AA (RA (a::b::c::d::e::f::u) 6 (((a::b::c::d::e::f::u).length:Nat):Int)) _=_
   rw [vX AC,AB,KO AJ,AB,List.nil_append]
   unfold PI VW
   show AA (IQ 2097153 ⟨[⟨a,b,u⟩],[⟨c,d,e,f⟩]⟩) _=_
   rw [pm (zF AJ) AC,AB,zr]
   show (bif !gj (⟨a,b,u⟩,⟨c,d,e,f⟩) then _ else AA (LB 2097153 ⟨a,b,u⟩ ⟨c,d,e,f⟩) _)=some (if p=NW∧gj (⟨a,b,u⟩,⟨c,d,e,f⟩)=true then _ else _)
   cases Y:gj (⟨a,b,u⟩,⟨c,d,e,f⟩)
   · rw [if_neg AD]; rfl
   · have A:=Y
     unfold gj at A
     rw [Bool.and_eq_true] at A
     rw [Bool.not_true,cond_false,tA AC (bI A.1 A.2),AB,Xf]
     have Z:GE ⟨a,b,u⟩ ⟨c,d,e,f⟩=a::b::c::d::e::f::u:=rfl
     rw [Z]
     by_cases L:p=NW
     · rw [if_pos ⟨L,rfl⟩,decide_eq_true (by rw [← E,L])]; rfl
     · rw [if_neg (λh=>L h.1),decide_eq_false (λh=>L (by
         rw [← E] at h
         exact (tx h).symm))]; rfl
def Yr:List ByteArray→Option (List (Carton×Spot))
 | []=>some []
 | l::ls=>if (Xz l).2.2=true then (Yr ls).map (((Xz l).1,(Xz l).2.1)::·) else none
def P0:Plan:=⟨[],[]⟩
def s7 (l:List (Carton×Spot)):Plan:=⟨l.map (·.1),l.map (·.2)⟩
def XW (s:ByteArray):Plan×Bool :=
 if (HM 10 s).getLastD eN=eN∧(HM 10 s).length≤101 then
  match Yr (HM 10 s).dropLast with
  | some l=>(s7 l,true)
  | none=>(P0,false)
 else (P0,false)
theorem kd {s:ByteArray} (h:(Xz s).2.2=true):gj ((Xz s).1,(Xz s).2.1)=true∧∃ n,HM 32 s=NW::n∧∃ m,aB n=some m∧¬ m.length<6∧mZ m=((Xz s).1,(Xz s).2.1):=by
 unfold Xz at h ⊢
 cases J:HM 32 s with
 | nil=>rw [J] at h; simp at h
 | cons p ps =>
  rw [J] at h
  simp only at h ⊢
  unfold mY at h ⊢
  cases D:aB ps with
  | none=>rw [D] at h; simp at h
  | some n =>
   rw [D] at h
   simp only at h ⊢
   split at h
   · simp at h
   · rename_i E
     rw [if_neg E]
     split at h
     · rename_i A
       rw [if_pos A]
       exact ⟨A.2,ps,by rw [A.1],n,D,E,rfl⟩
     · simp at h
theorem j9:∀ {ls:List ByteArray} {l:List (Carton×Spot)},Yr ls=some l→l.length=ls.length∧∀ p∈l,gj p=true
 | [],l,h=>by rw [← Option.some.inj h]; simp
 | x::ls,l,h=>by
  rw [Yr] at h
  split at h
  · rename_i D
    cases hl:Yr ls with
    | none=>rw [hl] at h; simp at h
    | some m =>
     rw [hl] at h
     rw [← Option.some.inj h]
     have:=j9 hl
     exact ⟨by simp [this.1],λp A=>by
      rcases List.mem_cons.1 A with rfl | A
      · exact (kd D).1
      · exact this.2 p A⟩
  · simp at h
theorem o3 {c:Carton} (h:aw c=true):c.fK.length≤100:=by
 unfold aw l9 at h
 simp only [Bool.and_eq_true,decide_eq_true_eq] at h
 omega
theorem cw (b:Nat):∀ (l:List Carton),(∀ c∈l,c.fK.length≤b)→Xd l≤b*l.length
 | [],_=>by simp [Xd]
 | c::l,h=>by
  have E:=cw b l λd A=>h d (by simp [A])
  have D:=h c AD
  simp only [Xd,List.length_cons,Nat.mul_add]; omega
theorem vD {s:ByteArray} (O:s.size≤1048576):MB 2097153 s=some (XW s):=by
 unfold MB XW
 have e:=eH (b:=10) O
 rw [show ((10:UInt8).toNat:Int)=10 from rfl] at e
 rw [e,AB]
 obtain ⟨ls,z,Z,h2,Y⟩:=Zg 10 s
 have E:=λx D=>Nat.le_trans (K2 (b:=10) (s:=s) (x:=x) D) O
 have Q:=(J0 10 s).2
 rw [h2,Y]
 rw [Z] at E Q ⊢
 simp only [List.length_append,List.length_singleton] at Q ⊢
 rw [AU AC AC,show ((ls.length+1:Nat):Int) - 1=ls.length by omega,ot,AB]
 show (bif (!(z.toList==eN.toList)) then _ else _)=_
 rw [Xf]
 by_cases J:z=eN
 rotate_left
 · rw [decide_eq_false J,if_neg (λh=>J h.1)]; rfl
 rw [decide_eq_true J,Bool.not_true,cond_false]
 by_cases hc:ls.length≤100
 rotate_left
 · rw [AX AJ,if_neg AC]; rfl
 rw [AM AJ,if_pos ⟨J,AC⟩]
 unfold S7
 simp only [List.length_append,List.length_singleton]
 rw [AU AC AC,show ((ls.length+1:Nat):Int) - 1=ls.length by omega,rA,AB]
 have L:=XB ls (λn (o:List Carton×List Spot) i=>H4 2097153 ls n o.1 o.2 i) (λA o=>match Yr A with | none=>some (P0,false) | some l=>some (⟨o.1++l.map (·.1),o.2++l.map (·.2)⟩,true)) (λA o=>(∀ x∈A,x.size≤1048576)∧o.1.length+A.length≤1000∧o.2.length+A.length≤1000) AC ?_ ?_ 2097153 ([],[]) ⟨λx D=>E x (by simp [D]),AJ,AJ⟩ AC
 · rw [L]
   cases Yr ls <;> rfl
 · intro n o i x A D M V T
   obtain ⟨N,U,i3⟩:=V
   simp only [List.length_cons] at U i3
   simp only [H4.eq_2]
   unfold Oj
   rw [M,cond_true,D,AB,xU (N x AD),AB,Yr]
   cases hv:(Xz x).2.2 with
   | false=>rfl
   | true =>
    rw [if_pos rfl,Bool.not_true,cond_false,KO (by simp only [List.length_singleton]; omega),AB,KO (by simp only [List.length_singleton]; omega),AB]
    have:=T (o.1++[(Xz x).1],o.2++[(Xz x).2.1]) ⟨λy hy=>N y (by simp [hy]),by simp only [List.length_append,List.length_singleton]; omega,by simp only [List.length_append,List.length_singleton]; omega⟩
    rw [this]
    cases Yr A with
    | none=>rfl
    | some l=>simp
 · intro n o i M _
   simp only [H4.eq_2]
   unfold Oj
   rw [M,cond_false]
   simp [Yr]
theorem tz {z:ByteArray}:∀ (A pre:List ByteArray) (cs:List Carton) (D:List Spot) (k:Nat),(∀ x∈A,x.size≤1048576)→(cs.length=pre.length∧D.length=pre.length∧pre.length+A.length≤1048576∧∀ p∈cs.zip D,gj p=true)→A.length<k →
    H6 2097153 (pre++(A++[z])) k cs D (pre.length:Int)=match Yr A with | none=>some (P0,false) | some l=>if z=eN∧pre.length+A.length≤100 then some (⟨cs++l.map (·.1),D++l.map (·.2)⟩,true) else some (P0,false)
 | [],pre,cs,D,k,hx,hI,hk=>by
  obtain ⟨k,rfl⟩:∃ j,k=j+1:=⟨k - 1,AC⟩
  obtain ⟨Y,V,O,L⟩:=hI
  rw [H6.eq_2]
  unfold O1
  simp only [List.nil_append,List.length_append,List.length_singleton,List.length_nil,Nat.add_zero] at O ⊢
  rw [AU AC AC,show ((pre.length+1:Nat):Int) - 1=pre.length by omega,AM AD,ot,AB]
  show (bif (!(z.toList==eN.toList)) then _ else _)=_
  rw [Xf]
  simp only [Yr,List.map_nil,List.append_nil]
  by_cases M:z=eN
  rotate_left
  · rw [decide_eq_false M,if_neg (λh=>M h.1)]; rfl
  rw [decide_eq_true M,Bool.not_true,cond_false]
  by_cases Q:pre.length≤100
  · rw [if_pos ⟨M,Q⟩]
    have T:∀ c∈cs,c.fK.length≤100:=λc J=>by
     obtain ⟨i,hi,rfl⟩:=List.getElem_of_mem J
     have h2:i<D.length:=AC
     have:=L (cs[i],D[i]) (List.mem_iff_getElem.2 ⟨i,AJ,AD⟩)
     unfold gj at this
     rw [Bool.and_eq_true] at this
     exact o3 this.1
    have N:Sp ⟨cs,D⟩:=⟨by show cs.length≤_; omega,λc J=>by have:=T c J; omega,by
     have:=cw 100 cs T
     show Xd cs≤_
     have h3:100*cs.length≤100*100:=Nat.mul_le_mul_left _ AC
     omega,by show D.length≤_; omega⟩
    rw [pm N AC,AB]
    have:RQ ⟨cs,D⟩=true:=by
     unfold RQ
     simp only [Bool.and_eq_true,beq_iff_eq,decide_eq_true_eq,List.all_eq_true]
     refine ⟨AC,AC,λp E=>?_⟩
     have:=L p E
     unfold gj at this
     rwa [Bool.and_eq_true] at this
    rw [this]; rfl
  · rw [if_neg (λh=>Q h.2)]
    unfold IQ
    show AA (bif (((cs.length:Int)) != ((D.length:Int))) then _ else bif (decide ((cs.length:Int)>100)) then _ else _) _=_
    rw [AM AJ,AX AJ,AB]
    rfl
 | x::A,pre,cs,D,k,hx,hI,hk=>by
  obtain ⟨k,rfl⟩:∃ j,k=j+1:=⟨k - 1,AC⟩
  obtain ⟨Y,V,O,L⟩:=hI
  simp only [List.length_cons] at hk O
  rw [H6.eq_2]
  unfold O1
  have hi:ix (pre++(x::A++[z])) (pre.length:Int)=some x:=by
   rw [EG]; simp
  simp only [List.length_append,List.length_singleton,List.length_cons,List.length_nil]
  rw [AU AC AC,AX AJ,hi,AB,xS (hx x AD),AB,Yr]
  cases Z:(Xz x).2.2 with
  | false=>rfl
  | true =>
   rw [if_pos rfl,Bool.not_true,cond_false,KO (by simp only [List.length_singleton]; omega),AB,KO (by simp only [List.length_singleton]; omega),AB,AU AC AC]
   have U:=tz (z:=z) A (pre++[x]) (cs++[(Xz x).1]) (D++[(Xz x).2.1]) k (λy e=>hx y (by simp [e])) ⟨AJ,AJ,AJ,λp E=>by
    rw [List.zip_append AC] at E
    rcases List.mem_append.1 E with E | E
    · exact L p E
    · rw [List.mem_singleton.1 E]; exact (kd Z).1⟩ AC
   rw [show pre++(x::A++[z])=(pre++[x])++(A++[z]) by simp,show ((pre.length:Int)+1)=(((pre++[x]).length:Nat):Int) by simp,U]
   cases Yr A with
   | none=>rfl
   | some l =>
    simp only [Option.map_some,List.length_append,List.length_singleton,List.map_cons,List.append_assoc,List.singleton_append]
    rw [show pre.length+1+A.length=pre.length+(A.length+1) by omega]
theorem zn {s:ByteArray} (E:s.size≤1048576):SD 2097153 s=some (XW s):=by
 unfold SD XW
 have e:=eU (b:=10) E
 rw [show ((10:UInt8).toNat:Int)=10 from rfl] at e
 rw [e,AB]
 obtain ⟨ls,z,M,L,N⟩:=Zg 10 s
 have A:=λx D=>Nat.le_trans (K2 (b:=10) (s:=s) (x:=x) D) E
 have J:=(J0 10 s).2
 rw [L,N]
 rw [M] at A J ⊢
 simp only [List.length_append,List.length_singleton] at J ⊢
 have:=tz (z:=z) ls [] [] [] 2097153 (λx D=>A x (by simp [D])) ⟨rfl,rfl,AJ,AD⟩ AC
 rw [List.nil_append,show ((([]:List ByteArray).length:Nat):Int)=0 from rfl] at this
 rw [this]
 simp only [List.length_nil,Nat.zero_add,List.nil_append]
 cases Yr ls with
 | none =>
  simp only
  split <;> rfl
 | some l =>
  simp only
  by_cases h:z=eN∧ls.length≤100
  · rw [if_pos h,if_pos ⟨h.1,AC⟩]; rfl
  · rw [if_neg h,if_neg (λg=>h ⟨g.1,AC⟩)]
theorem kr (s:ByteArray):Sp (XW s).1:=by
 have E:Sp P0:=⟨by simp [P0],by simp [P0],by simp [P0,Xd],by simp [P0]⟩
 unfold XW
 split
 · rename_i h
   split
   · rename_i l hl
     have:=j9 hl
     rw [List.length_dropLast] at this
     have A:∀ c∈l.map (·.1),c.fK.length≤100:=λc A=>by
      obtain ⟨p,J,rfl⟩:=List.mem_map.1 A
      have:=this.2 p J
      unfold gj at this
      rw [Bool.and_eq_true] at this
      exact o3 this.1
     have L:=cw 100 _ A
     rw [List.length_map] at L
     exact ⟨by simp [s7]; omega,λc D=>by have:=A c D; omega,by show Xd (l.map (·.1))≤_; omega,by simp [s7]; omega⟩
   · exact E
 · exact E
def iJ (s l:ByteArray):Int×Int:=bif Y7 s != 0 then (Y7 s,1) else bif !(XW l).2 then (0,2) else (0,d0 (bp s).1 (XW l).1)
theorem vM {s l:ByteArray} (A:s.size≤1048576) (hl:l.size≤1048576):RR 2097153 s l=some (iJ s l):=by
 unfold RR iJ
 rw [rG A,AB]
 cases Y7 s != 0
 · rw [cond_false,cond_false,li A,AB,vD hl,AB]
   cases (XW l).2
   · rfl
   · rw [Bool.not_true,cond_false,cond_false,pA (aK s) (kr l),AB]
 · rfl
theorem yB {s l:ByteArray} (A:s.size≤1048576) (hl:l.size≤1048576):Wv 2097153 s l=some (iJ s l):=by
 unfold Wv iJ
 rw [wg A,AB]
 cases Y7 s != 0
 · rw [cond_false,cond_false,nC A,AB,zn hl,AB]
   cases (XW l).2
   · rfl
   · rw [Bool.not_true,cond_false,cond_false,tZ (aK s) (kr l),AB]
 · rfl
theorem lK {b:UInt8} {w:List UInt8} (r:List UInt8) (h:b∉w):sK b (w++b::r)=w::sK b r:=by
 unfold sK
 rw [kA _ h,kj]
 simp
theorem uX {b:UInt8} {w:List UInt8} (h:b∉w):sK b w=[w]:=by
 have:=kA [] h
 rw [List.append_nil] at this
 unfold sK
 rw [this]
 simp [cut]
theorem jI:∀ (l:List (List UInt8)) (w:List UInt8),32∉w→(∀ x∈l,(32:UInt8)∉x)→sK 32 (w++(l.map λx=>32::x).flatten)=w::l
 | [],w,hw,_=>by simpa using uX hw
 | x::l,w,hw,h=>by
  rw [List.map_cons,List.flatten_cons,List.cons_append,lK _ hw,jI l x (h x AD) λy A=>h y (by simp [A])]
theorem jp:∀ (l:List (List UInt8)),(∀ x∈l,(10:UInt8)∉x)→sK 10 (l.map λx=>x++[10]).flatten=l++[[]]
 | [],_=>rfl
 | x::l,h=>by
  have:((x::l).map λx=>x++[10]).flatten=x++10::(l.map λx=>x++[10]).flatten:=AD
  rw [this,lK _ (h x AD),jp l λy A=>h y (by simp [A])]
  rfl
theorem jA {n:Int} (h:0≤n):(32:UInt8)∉(KU n).data.toList∧(10:UInt8)∉(KU n).data.toList:=by
 obtain ⟨u,rfl⟩:∃ u:Nat,n=u:=⟨n.toNat,AC⟩
 have e:(KU (u:Int)).data.toList=Lib.decDigits u:=by rw [ZX]
 rw [e]
 have:=rm u
 exact ⟨λA=>absurd (this _ A).1 A1,λA=>absurd (this _ A).1 A1⟩
theorem sr {p:ByteArray} {n:List Int} (A:(32:UInt8)∉p.data.toList) (h:∀ x∈n,0≤x):HM 32 (HV p n)=p::n.map KU:=by
 unfold HM
 have e:(HV p n).data.toList=p.data.toList++((n.map λn=>(KU n).data.toList).map λx=>32::x).flatten:=by
  rw [YA,List.map_map]; rfl
 rw [e,jI _ _ A λx D=>by
  obtain ⟨m,E,rfl⟩:=List.mem_map.1 D
  exact (jA (h m E)).1]
 rw [List.map_cons,List.map_map]
 rfl
theorem qb {n:List Int} (h:∀ x∈n,0≤x):(10:UInt8)∉(HV NW n).data.toList:=by
 rw [YA]
 intro A
 rcases List.mem_append.1 A with A | A
 · revert A; decide
 · obtain ⟨l,hl,A⟩:=List.mem_flatten.1 A
   obtain ⟨m,D,rfl⟩:=List.mem_map.1 hl
   rcases List.mem_cons.1 A with e | e
   · exact absurd e A1
   · exact (jA (h m D)).2 e
theorem lr {p:Carton×Spot} (h:gj p=true):(∀ n∈GE p.1 p.2,0≤n∧n≤999999)∧(GE p.1 p.2).length≤106:=by
 unfold gj at h
 rw [Bool.and_eq_true] at h
 exact bI h.1 h.2
theorem sD {p:Carton×Spot} (h:gj p=true):Xz (HV NW (GE p.1 p.2))=(p.1,p.2,true):=by
 have A:=lr h
 unfold Xz
 rw [sr A1 λx E=>(A.1 x E).1]
 show mY NW (aB _)=_
 rw [p4 A.1]
 unfold mY
 have e:mZ (GE p.1 p.2)=p:=rfl
 have D:¬ (GE p.1 p.2).length<6:=by simp [GE]
 simp only
 rw [if_neg D,e,if_pos (by simpa using h)]
theorem fl:∀ {l:List (Carton×Spot)},(∀ p∈l,gj p=true)→Yr (l.map λp=>HV NW (GE p.1 p.2))=some l
 | [],_=>rfl
 | p::l,h=>by
  have A:=sD (h p AD)
  rw [List.map_cons,Yr,A,if_pos rfl,fl λq D=>h q (by simp [D])]
  rfl
theorem lT:∀ (l:List (Carton×Spot)) (o:ByteArray),(l.foldl kS o).data.toList=o.data.toList++(l.map λp=>(HV NW (GE p.1 p.2)).data.toList++[10]).flatten
 | [],o=>by simp
 | p::l,o=>by
  rw [List.foldl_cons,lT l]
  unfold kS
  rw [pZ,pZ]
  simp [iG]
theorem pE {x:Plan} (h:RQ x=true):x.fE.length=x.fV.length∧x.fV.length≤100∧∀ p∈x.fV.zip x.fE,gj p=true:=by
 unfold RQ at h
 simp only [Bool.and_eq_true,beq_iff_eq,decide_eq_true_eq,List.all_eq_true] at h
 obtain ⟨A,_,E⟩:=h
 refine ⟨A,AC,λp D=>?_⟩
 unfold gj
 rw [Bool.and_eq_true]
 exact E p D
theorem me {x:Plan} (h:RQ x=true):(Z0 x).data.toList=((x.fV.zip x.fE).map λp=>(HV NW (GE p.1 p.2)).data.toList++[10]).flatten:=by
 unfold Z0
 rw [h,cond_true,lT]
 rfl
theorem qa {x:Plan} (h:RQ x=true):HM 10 (Z0 x)=((x.fV.zip x.fE).map λp=>HV NW (GE p.1 p.2))++[eN]:=by
 have E:=(pE h).2.2
 unfold HM
 have e:(Z0 x).data.toList=(((x.fV.zip x.fE).map λp=>(HV NW (GE p.1 p.2)).data.toList).map λx=>x++[10]).flatten:=by
  rw [me h,List.map_map]; rfl
 rw [e,jp _ λy A=>by
  obtain ⟨p,D,rfl⟩:=List.mem_map.1 A
  exact qb λz J=>((lr (E p D)).1 z J).1]
 rw [List.map_append,List.map_map]
 rfl
theorem uD {x:Plan} (h:x.fE.length=x.fV.length):s7 (x.fV.zip x.fE)=x:=by
 unfold s7
 rw [List.map_fst_zip AC,List.map_snd_zip AC]
theorem vz {x:Plan} (h:RQ x=true):XW (Z0 x)=(x,true):=by
 obtain ⟨A,_,D⟩:=pE h
 unfold XW
 rw [qa h]
 have E:(x.fV.zip x.fE).length=x.fV.length:=AJ
 rw [if_pos ⟨AD,AJ⟩,List.dropLast_concat,fl D]
 simp only
 rw [uD A]
theorem rY {s:ByteArray} (E:s.size≤1048576) (h:(Xz s).2.2=true):HV NW (GE (Xz s).1 (Xz s).2.1)=s:=by
 obtain ⟨_,n,D,m,N,J,L⟩:=kd h
 have A:=λx (A:x∈n)=>Nat.le_trans (K2 (b:=32) (s:=s) (x:=x) (by rw [D]; simp [A])) E
 have M:=aY A N
 have e:=mp m J
 rw [L] at e
 rw [e]
 exact gM (by rw [D,← M.1])
theorem jL:∀ {ls:List ByteArray} {l:List (Carton×Spot)},(∀ x∈ls,x.size≤1048576)→Yr ls=some l→l.map (λp=>HV NW (GE p.1 p.2))=ls
 | [],l,_,h=>by rw [← Option.some.inj h]; rfl
 | x::ls,l,hx,h=>by
  rw [Yr] at h
  split at h
  · rename_i D
    cases hl:Yr ls with
    | none=>rw [hl] at h; simp at h
    | some m =>
     rw [hl] at h
     rw [← Option.some.inj h,List.map_cons,jL (λy A=>hx y (by simp [A])) hl,rY (hx x AD) D]
  · simp at h
theorem m3 (s:ByteArray) {ls:List ByteArray} (h:HM 10 s=ls++[eN]):s.data.toList=(ls.map λx=>x.data.toList++[10]).flatten:=by
 have J:=iq 10 s.data.toList
 unfold HM sK at h
 have A:=congrArg (List.map λx:ByteArray=>x.data.toList) h
 rw [List.map_map,List.map_append] at A
 have L:((λx:ByteArray=>x.data.toList) ∘ tR)=id:=by funext x; rfl
 rw [L,List.map_id] at A
 rw [J]
 have D:∀ (ls:List (List UInt8)) (a:List UInt8) (r:List (List UInt8)),a::r=ls++[[]]→a++(r.map λx=>10::x).flatten=(ls.map λx=>x++[10]).flatten:=by
  intro ls
  induction ls with
  | nil =>
   intro a r e
   simp only [List.nil_append,List.cons.injEq] at e
   rw [e.1,e.2]; rfl
  | cons l ls E =>
   intro a r e
   simp only [List.cons_append,List.cons.injEq] at e
   cases r with
   | nil=>have:=congrArg List.length e.2; simp at this
   | cons b r =>
    rw [e.1]
    have:=E b r e.2
    simp only [List.map_cons,List.flatten_cons,List.cons_append]
    rw [← this]
    simp
 have:=D (ls.map λx=>x.data.toList) _ _ A
 rw [this,List.map_map]
 rfl
theorem u4 {s:ByteArray} (T:s.size≤1048576) (h:(XW s).2=true):Z0 (XW s).1=s∧RQ (XW s).1=true:=by
 obtain ⟨ls,z,E,Q,O⟩:=Zg 10 s
 have M:=λx J=>Nat.le_trans (K2 (b:=10) (s:=s) (x:=x) J) T
 unfold XW at h ⊢
 rw [Q,O] at h ⊢
 split at h
 · rename_i L
   rw [if_pos L]
   cases hl:Yr ls with
   | none=>rw [hl] at h; simp at h
   | some l =>
    simp only
    have U:=j9 hl
    have N:ls.length+1≤101:=by have:=L.2; rw [E] at this; simpa using this
    have A:(s7 l).fV.zip (s7 l).fE=l:=by
     unfold s7
     simp only
     exact (List.zip_of_prod rfl rfl).symm
    have D:RQ (s7 l)=true:=by
     unfold RQ
     rw [A]
     simp only [Bool.and_eq_true,beq_iff_eq,decide_eq_true_eq,List.all_eq_true]
     refine ⟨by simp [s7],by simp [s7]; omega,λp D=>?_⟩
     have:=U.2 p D
     unfold gj at this
     rwa [Bool.and_eq_true] at this
    refine ⟨xO ?_,D⟩
    rw [me D,A,m3 s (ls:=ls) (by rw [E,L.1]),← jL (λx J=>M x (by rw [E]; simp [J])) hl,List.map_map]
    rfl
 · simp at h
def Tot {α:Type} (o:Option α) (Q:α→Prop):Prop:=∃ x,o=some x∧Q x
theorem Tot.mk {α:Type} {x:α} {Q:α→Prop} (h:Q x):Tot (some x) Q:=⟨x,rfl,h⟩
theorem Tot.of {α:Type} {o:Option α} {x:α} {Q:α→Prop} (e:o=some x) (h:Q x):Tot o Q:=⟨x,e,h⟩
theorem Tot.bind {α β:Type} {m:Option α} {k:α→Option β} {R:α→Prop} {Q:β→Prop} (h:Tot m R) (D:∀ x,R x→Tot (k x) Q):Tot (AA m k) Q:=by
 obtain ⟨x,rfl,A⟩:=h
 exact D x A
theorem Tot.bif {α:Type} {c:Bool} {a b:Option α} {Q:α→Prop} (D:c=true→Tot a Q) (A:c=false→Tot b Q):Tot (bif c then a else b) Q:=by
 cases c
 · exact A rfl
 · exact D rfl
theorem Tot.imp {α:Type} {o:Option α} {Q R:α→Prop} (h:Tot o Q) (hi:∀ x,Q x→R x):Tot o R:=by
 obtain ⟨x,e,A⟩:=h
 exact ⟨x,e,hi x A⟩
theorem Tot.ap {α β:Type} {A:Nat} {D ys:List α} {k:List α→Option β} {Q:β→Prop} (h:(D.length+ys.length)*A≤140737488355328) (E:Tot (k (D++ys)) Q):Tot (AA (BE A D ys) k) Q:=by
 rw [KO h]; exact E
theorem Tot.ix {α β:Type} {l:List α} {i:Int} {k:α→Option β} {Q:β→Prop} (h:0≤i∧i<l.length) (A:∀ x,x∈l→Tot (k x) Q):Tot (AA (ix l i) k) Q:=by
 have e:=Xi (l:=l) (i:=i.toNat) AC
 rw [show ((i.toNat:Nat):Int)=i by omega] at e
 rw [e]
 exact A _ (List.getElem_mem _)
theorem xQ {σ β:Type} (b:Int) (L:Nat→σ→Int→Option β) (Q:β→Prop) (I:Int→σ→Prop) (T:b≤1099511627776)
    (hs:∀ n s (i:Int),0≤i→i<b→I i s→(∀ A,I (i+1) A→Tot (L n A (AK (i+1))) Q)→Tot (L (n+1) s i) Q)
    (he:∀ n s (i:Int),0≤i→b≤i→I i s→Tot (L (n+1) s i) Q):∀ (m:Nat) n s (a:Int),0≤a→(b - a).toNat=m→m<n→I a s→Tot (L n s a) Q:=by
 intro m
 induction m with
 | zero =>
  intro n s a E N O D
  obtain ⟨n,rfl⟩:∃ k,n=k+1:=⟨n - 1,AC⟩
  exact he n s a E AC D
 | succ m M =>
  intro n s a E N O D
  obtain ⟨n,rfl⟩:∃ k,n=k+1:=⟨n - 1,AC⟩
  refine hs n s a E AC D λA J=>?_
  rw [AU AC AC]
  exact M n A (a+1) AC AC AC J
def CO (b:List U8) (c:Cur):Prop:=c.fb=b∧0≤c.fi∧b.length≤1048576
theorem CO.re {b:List U8} {c A:Cur} (h:CO b c) (D:CO b A):CO b ⟨c.fb,A.fi,A.fh⟩:=⟨h.1,D.2⟩
theorem CO.re' {b:List U8} {A:Cur} (D:CO b A):CO b ⟨b,A.fi,A.fh⟩:=⟨rfl,D.2⟩
theorem rl (x:Int):0≤IntKind.wrap .i64 (((BitVec.ofInt (IntKind.bits .i64) x &&& BitVec.ofInt (IntKind.bits .i64) 255).toNat:Nat):Int)∧IntKind.wrap .i64 (((BitVec.ofInt (IntKind.bits .i64) x &&& BitVec.ofInt (IntKind.bits .i64) 255).toNat:Nat):Int)≤255:=by
 have h:(BitVec.ofInt (IntKind.bits .i64) x &&& BitVec.ofInt (IntKind.bits .i64) 255).toNat≤255:=by
  rw [BitVec.toNat_and]
  have A:(BitVec.ofInt (IntKind.bits .i64) 255).toNat=255:=A1
  rw [A]
  exact Nat.and_le_right
 have e:=AU (n:=(((BitVec.ofInt (IntKind.bits .i64) x &&& BitVec.ofInt (IntKind.bits .i64) 255).toNat:Nat):Int)) AC AC
 unfold AK at e
 rw [e]
 omega
theorem bH {fu:Nat} {b:List U8} {c:Cur} (h:CO b c):Tot (JW fu c) λx=>(0≤x.1∧x.1≤255)∧CO b x.2:=by
 obtain ⟨D,E,L⟩:=h
 unfold JW
 refine Tot.bif (λJ=>?_) λJ=>?_
 · have A:=of_decide_eq_true J
   refine Tot.ix ⟨E,A⟩ λx _=>Tot.mk ⟨rl _,D,?_,L⟩
   show 0≤AK (c.fi+1)
   rw [D] at A
   rw [AU AC AC]; omega
 · exact Tot.mk ⟨rl _,D,E,L⟩
theorem CC {fu:Nat} {b:List U8} {c:Cur} (h:CO b c) (n:Int):Tot (AY fu c n) λx=>(0≤x.1∧(0<n→x.1<n))∧CO b x.2:=by
 unfold AY
 refine Tot.bif (λA=>?_) λA=>?_
 · have N:=of_decide_eq_true A
   exact Tot.mk ⟨⟨Int.le_refl _,λh=>by omega⟩,h⟩
 · have M:0<n:=by simpa using A
   refine Tot.bif (λA=>?_) λA=>?_
   · refine Tot.bind (bH h) λx D=>?_
     rw [oM AC,AB]
     exact Tot.mk ⟨⟨Int.tmod_nonneg _ D.1.1,λ_=>Int.tmod_lt_of_pos _ M⟩,h.re D.2⟩
   · refine Tot.bind (bH h) λx D=>Tot.bind (bH (h.re D.2)) λy L=>Tot.bind (bH (h.re L.2)) λz J=>Tot.bind (bH (h.re J.2)) λq O=>?_
     rw [oM AC,AB]
     obtain ⟨⟨_,_⟩,_⟩:=D
     obtain ⟨⟨_,_⟩,_⟩:=L
     obtain ⟨⟨_,_⟩,_⟩:=J
     obtain ⟨⟨_,_⟩,E⟩:=O
     refine Tot.mk ⟨⟨?_,λ_=>Int.tmod_lt_of_pos _ M⟩,h.re E⟩
     apply Int.tmod_nonneg
     simp only [AU (n:=x.1*16777216) AC AC,AU (n:=y.1*65536) AC AC,AU (n:=z.1*256) AC AC]
     rw [AU (n:=x.1*16777216+y.1*65536) AC AC,AU (n:=x.1*16777216+y.1*65536+z.1*256) AC AC,AU AC AC]
     omega
theorem bY {fu:Nat} {b:List U8} {c:Cur} (h:CO b c) (n:Int):Tot (JX fu c n) λx=>CO b x.2:=by
 unfold JX
 exact Tot.bind (CC h n) λx A=>Tot.mk (h.re A.2)
theorem R3 {fu:Nat} {b:List U8} {c:Cur} (h:CO b c) (l:List Int) (hl:0<l.length):Tot (CA fu c l) λx=>x.1∈l∧CO b x.2:=by
 unfold CA
 exact Tot.bind (CC h _) λx A=>Tot.ix ⟨A.1.1,A.1.2 AC⟩ λy D=>Tot.mk ⟨D,h.re A.2⟩
theorem kW {fu:Nat} {b:List U8} (E:b.length≤1048576) (M:1048577≤fu):Tot (L6 fu b) (CO b):=by
 unfold L6
 refine xQ (b.length:Int) (λn s i=>JJ fu b n s i) (CO b) (λ_ _=>True) AC ?_ ?_ b.length fu _ 0 AC AC AC trivial
 · intro n s i D A _ J
   simp only [JJ.eq_2]
   unfold UU W9
   rw [AX (by simpa using A)]
   refine Tot.bif (λL=>?_) λL=>?_
   · exact Tot.ix ⟨D,A⟩ λx _=>J _ trivial
   · exact Tot.mk ⟨rfl,AD,E⟩
 · intro n s i D A _
   simp only [JJ.eq_2]
   unfold UU
   rw [AM AJ]
   exact Tot.mk ⟨rfl,AD,E⟩
end Go.Proofs.YtdgpkmgnjdpieaaGreatDoor
