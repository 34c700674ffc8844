/- TopBP: plain lemmas,.. -/
import Derived.Test.YtdgpkmgnjdpieaaGreatDoorTopBP4
set_option linter.unusedSimpArgs false
set_option linter.unusedVariables false
namespace Go.Proofs.YtdgpkmgnjdpieaaGreatDoor
open Go
open Enc (rd ow)
open Arg (argv)
open Ret (retv)
open Wf (wf)
def tA (l:List UInt8):ByteArray:=⟨l.toArray⟩
theorem YG (s:ByteArray):s.data.toList.length=s.size:=Array.length_toList
def cut (b:UInt8):List UInt8→List UInt8×List (List UInt8)
 | []=>([],[])
 | c::l=>if c=b then ([],(cut b l).1::(cut b l).2) else (c::(cut b l).1,(cut b l).2)
def rH (b:UInt8) (l:List UInt8):List (List UInt8):=(cut b l).1::(cut b l).2
def HQ (b:UInt8) (s:ByteArray):List ByteArray:=(rH b s.data.toList).map tA
theorem jY {b:UInt8}:∀ {w:List UInt8} (r:List UInt8),b∉w→cut b (w++r)=(w++(cut b r).1,(cut b r).2)
 | [],r,_=>rfl
 | c::w,r,h=>by
  have A:c≠b:=λe=>h (by simp [e])
  show cut b (c::(w++r))=_
  rw [cut,if_neg A,jY r λe=>h (List.mem_cons_of_mem _ e)]
  rfl
theorem kB (b:UInt8) (r:List UInt8):cut b (b::r)=([],(cut b r).1::(cut b r).2):=by rw [cut,if_pos rfl]
theorem g0 (b:UInt8):∀ (l:List UInt8),l=(cut b l).1++((cut b l).2.map λx=>b::x).flatten
 | []=>rfl
 | c::l=>by
  have A:=g0 b l
  rw [cut]
  split
  · rename_i h
    rw [h]
    show b::l=[]++(b::(cut b l).1)++_
    simp only [List.nil_append,List.cons_append]
    rw [← A]
  · show c::l=c::((cut b l).1++_)
    rw [← A]
theorem pH (b:UInt8):∀ (l:List UInt8),(cut b l).2.length≤l.length
 | []=>Nat.le_refl _
 | c::l=>by
  have A:=pH b l
  rw [cut]
  split <;> simp only [List.length_cons] <;> omega
theorem ot (b:UInt8):∀ (l:List UInt8),(cut b l).1.length≤l.length∧∀ x∈(cut b l).2,x.length≤l.length
 | []=>⟨by simp [cut],by simp [cut]⟩
 | c::l=>by
  have D:=ot b l
  rw [cut]
  split
  · exact ⟨AD,λx A=>by
      simp only [List.length_cons]
      rcases List.mem_cons.1 A with e | e
      · rw [e]; omega
      · have:=D.2 x e; omega⟩
  · exact ⟨by simp only [List.length_cons]; omega,λx A=>by
      have:=D.2 x A
      simp only [List.length_cons]; omega⟩
theorem J2 (b:UInt8) (s:ByteArray):1≤(HQ b s).length∧(HQ b s).length≤s.size+1:=by
 have:=pH b s.data.toList
 rw [YG] at this
 unfold HQ rH
 simp only [List.length_map,List.length_cons]
 omega
theorem K4 {b:UInt8} {s x:ByteArray} (h:x∈HQ b s):x.size≤s.size:=by
 obtain ⟨l,hl,rfl⟩:=List.mem_map.1 h
 have:=ot b s.data.toList
 rw [YG] at this
 show l.toArray.size≤_
 rw [List.size_toArray]
 rcases List.mem_cons.1 hl with rfl | e
 · exact this.1
 · exact this.2 l e
theorem kT {s:ByteArray} {pre A l:List UInt8} (h:s.data.toList=pre++(A++l)):tB s (pre.length:Int) ((pre.length:Int)+(A.length:Int))=some (tA A):=by
 have D:=YG s
 rw [h] at D
 simp only [List.length_append] at D
 unfold tB
 rw [if_pos AC]
 congr 1
 apply ByteArray.ext
 apply Array.ext'
 rw [show ((pre.length:Int)+(A.length:Int)).toNat=pre.length+A.length by omega,Int.toNat_natCast,ByteArray.data_extract,Array.toList_extract,h]
 show _=A
 rw [List.extract_eq_take_drop,Nat.add_sub_cancel_left,List.drop_left,List.take_left]
theorem ub {x:ByteArray} {out:List ByteArray} (h:out.length≤2000000):BE 16 out [x]=some (out++[x]):=by
 unfold BE
 rw [if_pos (by simp only [List.length_singleton]; omega)]
theorem gj {fu:Nat} {s:ByteArray} {b:UInt8} (J:s.size≤1048576):∀ (l pre A:List UInt8) (out:List ByteArray) (k:Nat),s.data.toList=pre++(A++l)→l.length<k→out.length+l.length≤1048576 →
    JF fu s (b.toNat:Int) k out (pre.length:Int) ((pre.length:Int)+(A.length:Int))=some (out++tA (A++(cut b l).1)::(cut b l).2.map tA)
 | [],pre,A,out,k,h,hk,ho=>by
  obtain ⟨k,rfl⟩:∃ j,k=j+1:=⟨k - 1,AC⟩
  have D:=YG s
  rw [h] at D
  simp only [List.length_append,List.length_nil] at D
  rw [JF.eq_2]
  unfold UB
  rw [AM AJ,show (s.size:Int)=(pre.length:Int)+(A.length:Int) by omega,kT h,AB,ub AC,AB]
  simp [cut]
 | c::l,pre,A,out,k,h,hk,ho=>by
  obtain ⟨k,rfl⟩:∃ j,k=j+1:=⟨k - 1,AC⟩
  have D:=YG s
  rw [h] at D
  simp only [List.length_append,List.length_cons] at D ho
  have L:sx s ((pre.length:Int)+(A.length:Int))=some (c.toNat:Int):=by
   have:=qK (s:=s) (pre:=pre++A) (l:=l) (b:=c) (by rw [h]; simp)
   rw [← this]; simp
  rw [JF.eq_2]
  unfold UB R3
  rw [AX AJ,L,AB,AU AC AC]
  by_cases E:c=b
  · subst E
    rw [AX AD,kT h,AB,ub AC,AB]
    have:=gj (fu:=fu) (b:=c) J l (pre++(A++[c])) [] (out++[tA A]) k (by rw [h]; simp) (by simp at hk; omega) AJ
    rw [show ((pre.length:Int)+(A.length:Int)+1)=(((pre++(A++[c])).length:Nat):Int)+(([]:List UInt8).length:Int) by simp; omega]
    rw [show ((((pre++(A++[c])).length:Nat):Int)+(([]:List UInt8).length:Int))=(((pre++(A++[c])).length:Nat):Int) by simp] at this ⊢
    rw [this,kB]
    simp
  · rw [AM (by simpa using λe=>E (UInt8.toNat_inj.1 AC))]
    have:=gj (fu:=fu) (b:=b) J l pre (A++[c]) out k (by rw [h]; simp) (by simp at hk; omega) AC
    rw [show ((pre.length:Int)+(A.length:Int)+1)=(pre.length:Int)+(((A++[c]).length:Nat):Int) by simp; omega,this,cut,if_neg E]
    simp
theorem ej {s:ByteArray} {b:UInt8} (A:s.size≤1048576):Mr 2097153 s (b.toNat:Int)=some (HQ b s):=by
 unfold Mr
 have D:=YG s
 exact gj (b:=b) A s.data.toList [] [] [] 2097153 rfl AC AJ
theorem gy {fu:Nat} {s:ByteArray} {b:UInt8} (J:s.size≤1048576):∀ (l pre A:List UInt8) (out:List ByteArray) (k:Nat),s.data.toList=pre++(A++l)→l.length+1<k→out.length+l.length≤1048576 →
    HS fu s (b.toNat:Int) k out (pre.length:Int) ((pre.length:Int)+(A.length:Int))=some (out++tA (A++(cut b l).1)::(cut b l).2.map tA)
 | [],pre,A,out,k,h,hk,ho=>by
  obtain ⟨k,rfl⟩:∃ j,k=j+2:=⟨k - 2,by simp at hk; omega⟩
  have D:=YG s
  rw [h] at D
  simp only [List.length_append,List.length_nil] at D
  rw [HS.eq_2]
  unfold NH KM
  rw [AX AJ,AX AJ,kT h,AB,ub AC,AB,AU AC AC,HS.eq_2]
  unfold NH
  rw [AM AJ]
  simp [cut]
 | c::l,pre,A,out,k,h,hk,ho=>by
  obtain ⟨k,rfl⟩:∃ j,k=j+1:=⟨k - 1,AC⟩
  have D:=YG s
  rw [h] at D
  simp only [List.length_append,List.length_cons] at D ho
  have L:sx s ((pre.length:Int)+(A.length:Int))=some (c.toNat:Int):=by
   have:=qK (s:=s) (pre:=pre++A) (l:=l) (b:=c) (by rw [h]; simp)
   rw [← this]; simp
  rw [HS.eq_2]
  unfold NH KM
  rw [AX AJ,AM AJ,L,AB,AU AC AC]
  by_cases E:c=b
  · subst E
    rw [AX AD,kT h,AB,ub AC,AB]
    have:=gy (fu:=fu) (b:=c) J l (pre++(A++[c])) [] (out++[tA A]) k (by rw [h]; simp) (by simp at hk; omega) AJ
    rw [show ((pre.length:Int)+(A.length:Int)+1)=(((pre++(A++[c])).length:Nat):Int)+(([]:List UInt8).length:Int) by simp; omega]
    rw [show ((((pre++(A++[c])).length:Nat):Int)+(([]:List UInt8).length:Int))=(((pre++(A++[c])).length:Nat):Int) by simp] at this ⊢
    rw [this,kB]
    simp
  · rw [AM (by simpa using λe=>E (UInt8.toNat_inj.1 AC))]
    have:=gy (fu:=fu) (b:=b) J l pre (A++[c]) out k (by rw [h]; simp) (by simp at hk; omega) AC
    rw [show ((pre.length:Int)+(A.length:Int)+1)=(pre.length:Int)+(((A++[c]).length:Nat):Int) by simp; omega,this,cut,if_neg E]
    simp
theorem ee {s:ByteArray} {b:UInt8} (A:s.size≤1048576):L5 2097153 s (b.toNat:Int)=some (HQ b s):=by
 unfold L5
 have D:=YG s
 exact gy (b:=b) A s.data.toList [] [] [] 2097153 rfl AC AJ
def iT (x:ByteArray):Int×Bool:=(K5 2097153 x).getD (0,false)
theorem pe {x:ByteArray} (h:x.size≤1048576):K5 2097153 x=some (iT x):=by
 obtain ⟨r,A,_⟩:=pz (fu:=2097153) h
 unfold iT
 rw [A]; rfl
theorem vu {x:ByteArray} (h:x.size≤1048576):MQ 2097153 x=some (iT x):=by rw [zk h,pe h]
theorem wu {x:ByteArray} (h:x.size≤1048576) (A:(iT x).2=true):x=KX (iT x).1∧0≤(iT x).1∧(iT x).1≤999999:=by
 obtain ⟨r,D,E⟩:=pz (fu:=2097153) h
 rw [pe h] at D
 rw [Option.some.inj D] at A ⊢
 rcases E with ⟨u,J,e,rfl⟩ | ⟨_,rfl⟩
 · exact ⟨e,by simp only; omega,by simp only; omega⟩
 · simp at A
theorem uW {n:Int} (h:0≤n∧n≤999999):iT (KX n)=(n,true):=by
 have A:(KX n).size≤1048576:=Nat.le_trans (Yp h) AC
 obtain ⟨r,D,E⟩:=pz (fu:=2097153) A
 obtain ⟨u,rfl⟩:∃ u:Nat,n=u:=⟨n.toNat,AC⟩
 rw [pe A] at D
 rw [Option.some.inj D]
 rcases E with ⟨v,N,e,rfl⟩ | ⟨M,_⟩
 · have J:(KX (u:Int)).data.toList=Lib.decDigits u:=by rw [ZD]
   have L:(KX (v:Int)).data.toList=Lib.decDigits v:=by rw [ZD]
   have:=kI u
   rw [← J,e,L,kI v] at this
   rw [Option.some.inj this]
 · exact absurd rfl (M u AC)
def au:List ByteArray→Option (List Int)
 | []=>some []
 | x::xs=>if (iT x).2=true then (au xs).map ((iT x).1::·) else none
def fy (o:List Int):Option (List Int)→List Int×Bool
 | some ns=>(o++ns,true)
 | none=>([],false)
def W0 (w:ByteArray) (k:Nat) (A:ByteArray):Option (List Int) :=
 match HQ 32 A with
 | []=>none
 | p::ps=>if p=w∧ps.length=k then au ps else none
theorem rf {fu k:Nat} {A:List ByteArray} (E:∀ x∈A,x.size≤1048576) (hl:A.length≤1048577) (U:A.length<k):GR 2097153 A k [] 0=some (fy [] (au A)):=by
 have D:=XD A (λn (o:List Int) i=>GR 2097153 A n o i) (λA o=>some (fy o (au A))) (λA o=>(∀ x∈A,x.size≤1048576)∧o.length+A.length≤1048577) AC ?_ ?_ k [] ⟨E,by simpa using hl⟩ AC
 · exact D
 · intro n o i x A E J L O
   obtain ⟨M,Q⟩:=L
   simp only [List.length_cons] at Q
   simp only [GR.eq_2]
   unfold QV
   rw [J,cond_true,E,AB,pe (M x AD),AB,au]
   cases T:(iT x).2 with
   | false=>rfl
   | true =>
    rw [if_pos rfl,Bool.not_true,cond_false]
    have:BE 8 o [(iT x).1]=some (o++[(iT x).1]):=by
     unfold BE
     rw [if_pos (by simp only [List.length_singleton]; omega)]
    rw [this,AB,O _ ⟨λy N=>M y (by simp [N]),by simp only [List.length_append,List.length_singleton]; omega⟩]
    cases au A with
    | none=>rfl
    | some ns=>simp [fy]
 · intro n o i J L
   simp only [GR.eq_2]
   unfold QV
   rw [J,cond_false]
   simp [au,fy]
theorem mD {y:ByteArray}:∀ (A pre:List ByteArray) (o:List Int) (k:Nat),(∀ x∈A,x.size≤1048576)→(o.length+A.length≤2000000∧pre.length+A.length≤2000000)→A.length<k→J9 2097153 (y::(pre++A)) k o ((pre.length:Int)+1)=some (fy o (au A))
 | [],pre,o,k,hx,hl,hk=>by
  obtain ⟨k,rfl⟩:∃ j,k=j+1:=⟨k - 1,AC⟩
  rw [J9.eq_2]
  unfold S6
  rw [AM AD]
  simp [au,fy]
 | x::A,pre,o,k,hx,hl,hk=>by
  obtain ⟨k,rfl⟩:∃ j,k=j+1:=⟨k - 1,AC⟩
  simp only [List.length_cons] at hl hk
  rw [J9.eq_2]
  unfold S6
  have hi:ix (y::(pre++x::A)) ((pre.length:Int)+1)=some x:=by
   rw [show ((pre.length:Int)+1)=((pre.length+1:Nat):Int) by omega,EG]; simp
  rw [AX AJ,hi,AB,vu (hx x AD),AB,au]
  cases J:(iT x).2 with
  | false=>rfl
  | true =>
   rw [if_pos rfl,Bool.not_true,cond_false]
   have:BE 8 o [(iT x).1]=some (o++[(iT x).1]):=by
    unfold BE
    rw [if_pos (by simp only [List.length_singleton]; omega)]
   have E:=mD (y:=y) A (pre++[x]) (o++[(iT x).1]) k (λy D=>hx y (by simp [D])) (by simp only [List.length_append,List.length_singleton]; omega) AC
   rw [this,AB,AU AC AC,show ((pre.length:Int)+1+1)=(((pre++[x]).length:Nat):Int)+1 by simp]
   rw [show y::(pre++x::A)=y::((pre++[x])++A) by simp,E]
   cases au A with
   | none=>rfl
   | some ns=>simp [fy]
theorem oF {A w:ByteArray} {k:Nat} (h:A.size≤1048576) (N:k≤1048576):B6 2097153 A w (k:Int)=some (fy [] (W0 w k A)):=by
 unfold B6 W0
 have e:=ej (b:=32) h
 have hl:=(J2 32 A).2
 have M:=λx E=>Nat.le_trans (K4 (b:=32) (s:=A) (x:=x) E) h
 rw [show ((32:UInt8).toNat:Int)=32 from rfl] at e
 rw [e,AB]
 cases L:HQ 32 A with
 | nil=>have:=(J2 32 A).1; rw [L] at this; simp at this
 | cons p ps =>
  rw [L] at hl M
  simp only [List.length_cons] at hl
  rw [show ix (p::ps) 0=some p from rfl,AB,WZ,AU AC AC]
  simp only
  by_cases D:p=w
  · rw [decide_eq_true D,Bool.not_true,cond_false]
    by_cases J:ps.length=k
    · rw [if_pos ⟨D,J⟩,AM AJ]
      unfold TY
      have:RA (p::ps) 1 (((p::ps).length:Nat):Int)=some ps:=by
       unfold RA
       rw [if_pos (by simp only [List.length_cons]; omega),show (1:Int).toNat=1 from rfl,Int.toNat_natCast]
       simp
      rw [this,AB,rf (fu:=0) (λx E=>M x (by simp [E])) AC AC]
    · rw [if_neg (λe=>J e.2),AX AJ]; rfl
  · rw [decide_eq_false D,if_neg (λe=>D e.1)]; rfl
theorem xh {A w:ByteArray} {k:Nat} (h:A.size≤1048576) (N:k≤1048576):RE 2097153 A w (k:Int)=some (fy [] (W0 w k A)):=by
 unfold RE W0
 have e:=ee (b:=32) h
 have hl:=(J2 32 A).2
 have M:=λx E=>Nat.le_trans (K4 (b:=32) (s:=A) (x:=x) E) h
 rw [show ((32:UInt8).toNat:Int)=32 from rfl] at e
 rw [e,AB]
 cases L:HQ 32 A with
 | nil=>have:=(J2 32 A).1; rw [L] at this; simp at this
 | cons p ps =>
  rw [L] at hl M
  simp only [List.length_cons] at hl
  rw [show ix (p::ps) 0=some p from rfl,AB,WZ,AU AC AC]
  simp only
  by_cases D:p=w
  · rw [decide_eq_true D,Bool.not_true,cond_false]
    by_cases J:ps.length=k
    · rw [if_pos ⟨D,J⟩,AM AJ]
      unfold VQ
      exact mD (y:=p) ps [] [] 2097153 (λx E=>M x (by simp [E])) AJ AC
    · rw [if_neg (λe=>J e.2),AX AJ]; rfl
  · rw [decide_eq_false D,if_neg (λe=>D e.1)]; rfl
theorem aK:∀ {D:List ByteArray} {ns:List Int},(∀ x∈D,x.size≤1048576)→au D=some ns→D=ns.map KX∧∀ n∈ns,0≤n∧n≤999999
 | [],ns,_,h=>by obtain rfl:=Option.some.inj h; simp
 | x::D,ns,hx,h=>by
  rw [au] at h
  split at h
  · rename_i L
    cases A:au D with
    | none=>rw [A] at h; simp at h
    | some M =>
     rw [A] at h
     obtain rfl:=Option.some.inj h
     have:=aK (λy J=>hx y (by simp [J])) A
     have E:=wu (hx x AD) L
     exact ⟨by rw [List.map_cons,← this.1,← E.1],λn A=>by
      rcases List.mem_cons.1 A with rfl | A
      · exact E.2
      · exact this.2 n A⟩
  · simp at h
theorem nD:∀ {ns:List Int},(∀ n∈ns,0≤n∧n≤999999)→au (ns.map KX)=some ns
 | [],_=>rfl
 | n::ns,h=>by
  rw [List.map_cons,au,uW (h n AD),nD λm A=>h m (by simp [A])]
  rfl
theorem JT {w A:ByteArray} {k:Nat} {ns:List Int} (L:A.size≤1048576) (h:W0 w k A=some ns):ns.length=k∧(∀ n∈ns,0≤n∧n≤999999)∧HQ 32 A=w::ns.map KX:=by
 unfold W0 at h
 split at h
 · simp at h
 · rename_i p ps D
   split at h
   · rename_i E
     have:=aK (λx J=>Nat.le_trans (K4 (b:=32) (s:=A) (by rw [D]; simp [J])) L) h
     refine ⟨?_,this.2,by rw [D,E.1,← this.1]⟩
     rw [← E.2,this.1,List.length_map]
   · simp at h
theorem S1 {w v A:ByteArray} {k j:Nat} {ns:List Int} (E:A.size≤1048576) (h:W0 w k A=some ns) (D:v≠w):W0 v j A=none:=by
 have:=(JT E h).2.2
 unfold W0
 rw [this]
 exact if_neg λe=>D e.1.symm
def wK:ByteArray:=⟨#[119,97,121,32,102,105,114,115,116]⟩
def qS:ByteArray:=⟨#[119,97,121,32,110,101,120,116]⟩
def Y5:ByteArray:=⟨#[112,97,108,108,101,116]⟩
def ZV:ByteArray:=⟨#[99,108,97,115,115,101,115]⟩
def Yu:ByteArray:=⟨#[119,105,116,104]⟩
def Yf:ByteArray:=⟨#[116,121,112,101]⟩
def Zp:ByteArray:=⟨#[109,97,115,116,101,114]⟩
def Ye:ByteArray:=⟨#[105,116,101,109]⟩
def ea:ByteArray:=⟨#[]⟩
def R0:Request:=⟨0,⟨0,0,0,0⟩,0,[],[],0,[]⟩
def zF:List Int→Int
 | [a]=>a
 | _=>0
def yn:List Int→Pallet
 | [a,b,c,d]=>⟨a,b,c,d⟩
 | _=>⟨0,0,0,0⟩
def vr:List Int→Pair
 | [a,b]=>⟨a,b⟩
 | _=>⟨0,0⟩
def zf:List Int→Typ
 | [a,b,c,d,e,f,g]=>⟨a,b,c,d,e,f,g⟩
 | _=>⟨0,0,0,0,0,0,0⟩
def zd:List Int→Item
 | [a,b,c,d,e,f,g]=>⟨a,b,c,d,e,f,g⟩
 | _=>⟨0,0,0,0,0,0,0⟩
theorem uV {l:List Int} (h:l.length=1):∃ a,l=[a]:=List.length_eq_one_iff.1 h
theorem yG {l:List Int} (h:l.length=2):∃ a b,l=[a,b]:=by
 match l,h with
 | [a,b],_=>exact ⟨a,b,rfl⟩
theorem yB {l:List Int} (h:l.length=4):∃ a b c d,l=[a,b,c,d]:=by
 match l,h with
 | [a,b,c,d],_=>exact ⟨a,b,c,d,rfl⟩
theorem tO {l:List Int} (h:l.length=7):∃ a b c d e f g,l=[a,b,c,d,e,f,g]:=by
 match l,h with
 | [a,b,c,d,e,f,g],_=>exact ⟨a,b,c,d,e,f,g,rfl⟩
def X6 (r:Request) (l:ByteArray):Int×Request :=
 if l=wK then (0,⟨0,r.fJ,r.fR,r.fT,r.fG,r.fP,r.fU⟩) else
 if l=qS then (0,⟨1,r.fJ,r.fR,r.fT,r.fG,r.fP,r.fU⟩) else
 match W0 Y5 4 l with
 | some n=>(1,⟨r.fc,yn n,r.fR,r.fT,r.fG,r.fP,r.fU⟩)
 | none=>match W0 ZV 1 l with
  | some n=>(2,⟨r.fc,r.fJ,zF n,r.fT,r.fG,r.fP,r.fU⟩)
  | none=>match W0 Yu 2 l with
   | some n=>(3,⟨r.fc,r.fJ,r.fR,r.fT++[vr n],r.fG,r.fP,r.fU⟩)
   | none=>match W0 Yf 7 l with
    | some n=>(4,⟨r.fc,r.fJ,r.fR,r.fT,r.fG++[zf n],r.fP,r.fU⟩)
    | none=>match W0 Zp 1 l with
     | some n=>(5,⟨r.fc,r.fJ,r.fR,r.fT,r.fG,zF n,r.fU⟩)
     | none=>match W0 Ye 7 l with
      | some n=>(6,⟨r.fc,r.fJ,r.fR,r.fT,r.fG,r.fP,r.fU++[zd n]⟩)
      | none=>(-1,r)
theorem qp {A w:ByteArray} {k:Nat} {kk:Int} (h:A.size≤1048576) (D:k≤1048576) (e:(k:Int)=kk):B6 2097153 A w kk=some (fy [] (W0 w k A)):=e ▸ oF h D
theorem xF {β:Type} (k:List Int×Bool→Option β):AA (some (fy [] none)) k=k ([],false):=rfl
theorem obS {β:Type} (n:List Int) (k:List Int×Bool→Option β):AA (some (fy [] (some n))) k=k (n,true):=rfl
theorem sI {α:Type} (a b:α):(bif (fy [] none).2 then a else b)=b:=rfl
theorem rJ {α:Type} (a b:α):(bif !(fy [] none).2 then a else b)=a:=rfl
theorem tu {α:Type} (n:List Int) (a b:α):(bif !(fy [] (some n)).2 then a else b)=b:=rfl
theorem zj {r:Request} {l:ByteArray} (hl:l.size≤1048576) (Q:r.fT.length≤1000) (T:r.fG.length≤1000) (hi:r.fU.length≤1000):UG 2097153 r l=some (X6 r l):=by
 unfold X6
 show (bif (l.toList==wK.toList) then _ else bif (l.toList==qS.toList) then _ else AA (B6 2097153 l Y5 4) _)=_
 rw [WZ,WZ]
 by_cases A:l=wK
 · rw [decide_eq_true A,if_pos A]; rfl
 rw [decide_eq_false A,if_neg A,cond_false]
 by_cases D:l=qS
 · rw [decide_eq_true D,if_pos D]; rfl
 rw [decide_eq_false D,if_neg D,cond_false,qp (k:=4) (kk:=4) hl AC rfl]
 cases O:W0 Y5 4 l with
 | some n =>
  obtain ⟨a,b,c,d,rfl⟩:=yB (JT hl O).1
  rfl
 | none =>
 rw [xF,AM rfl]
 show AA (B6 2097153 l ZV 1) _=_
 rw [qp (k:=1) (kk:=1) hl AC rfl]
 cases E:W0 ZV 1 l with
 | some n =>
  obtain ⟨a,rfl⟩:=uV (JT hl E).1
  rfl
 | none =>
 rw [xF,AM rfl]
 show AA (B6 2097153 l Yu 2) _=_
 rw [qp (k:=2) (kk:=2) hl AC rfl]
 cases L:W0 Yu 2 l with
 | some n =>
  obtain ⟨a,b,rfl⟩:=yG (JT hl L).1
  show AA (BE 16 r.fT [(⟨a,b⟩:Pair)]) _=_
  rw [KU (by simp only [List.length_singleton]; omega)]
  rfl
 | none =>
 rw [xF,AM rfl]
 show AA (B6 2097153 l Yf 7) _=_
 rw [qp (k:=7) (kk:=7) hl AC rfl]
 cases J:W0 Yf 7 l with
 | some n =>
  obtain ⟨a,b,c,d,e,f,g,rfl⟩:=tO (JT hl J).1
  show AA (BE 56 r.fG [(⟨a,b,c,d,e,f,g⟩:Typ)]) _=_
  rw [KU (by simp only [List.length_singleton]; omega)]
  rfl
 | none =>
 rw [xF,AM rfl]
 show AA (B6 2097153 l Zp 1) _=_
 rw [qp (k:=1) (kk:=1) hl AC rfl]
 cases N:W0 Zp 1 l with
 | some n =>
  obtain ⟨a,rfl⟩:=uV (JT hl N).1
  rfl
 | none =>
 rw [xF,AM rfl]
 show AA (B6 2097153 l Ye 7) _=_
 rw [qp (k:=7) (kk:=7) hl AC rfl]
 cases M:W0 Ye 7 l with
 | some n =>
  obtain ⟨a,b,c,d,e,f,g,rfl⟩:=tO (JT hl M).1
  show AA (BE 56 r.fU [(⟨a,b,c,d,e,f,g⟩:Item)]) _=_
  rw [KU (by simp only [List.length_singleton]; omega)]
  rfl
 | none=>rfl
def mf (A k:Int):Bool :=
 if k=0 then A==-1 else if k=1 then A==0 else if k=2 then A==1 else if k=3 then A==2||A==3 else if k=4 then CW A 2 4 else if k=5 then CW A 2 4 else if k=6 then A==5||A==6 else false
theorem Xp (r:Request) (l:ByteArray):((X6 r l).1=0∧(l=wK∨l=qS))∨((X6 r l).1=1∧∃ n,W0 Y5 4 l=some n)∨((X6 r l).1=2∧∃ n,W0 ZV 1 l=some n)∨((X6 r l).1=3∧∃ n,W0 Yu 2 l=some n) ∨
    ((X6 r l).1=4∧∃ n,W0 Yf 7 l=some n)∨((X6 r l).1=5∧∃ n,W0 Zp 1 l=some n)∨((X6 r l).1=6∧∃ n,W0 Ye 7 l=some n)∨(X6 r l).1=-1:=by
 unfold X6
 split
 · rename_i h; exact .inl ⟨rfl,.inl h⟩
 split
 · rename_i h; exact .inl ⟨rfl,.inr h⟩
 split
 · rename_i h; exact .inr (.inl ⟨rfl,_,h⟩)
 split
 · rename_i h; exact .inr (.inr (.inl ⟨rfl,_,h⟩))
 split
 · rename_i h; exact .inr (.inr (.inr (.inl ⟨rfl,_,h⟩)))
 split
 · rename_i h; exact .inr (.inr (.inr (.inr (.inl ⟨rfl,_,h⟩))))
 split
 · rename_i h; exact .inr (.inr (.inr (.inr (.inr (.inl ⟨rfl,_,h⟩)))))
 split
 · rename_i h; exact .inr (.inr (.inr (.inr (.inr (.inr (.inl ⟨rfl,_,h⟩))))))
 exact .inr (.inr (.inr (.inr (.inr (.inr (.inr rfl))))))
theorem wW {A k:Int} (h:-1≤k∧k≤6):PI 2097153 A k=some (mf A k):=by
 have:k=-1∨k=0∨k=1∨k=2∨k=3∨k=4∨k=5∨k=6:=AC
 unfold PI JP
 simp only [Ys,AB]
 rcases this with rfl | rfl | rfl | rfl | rfl | rfl | rfl | rfl
 · rfl
 · rfl
 · rfl
 · rfl
 · show (bif (A==2) then some true else some (A==3))=some (A==2||A==3)
   cases A==2 <;> rfl
 · rfl
 · rfl
 · show (bif (A==5) then some true else some (A==6))=some (A==5||A==6)
   cases A==5 <;> rfl
theorem nV (r:Request) (l:ByteArray):(X6 r l).2.fT.length≤r.fT.length+1∧(X6 r l).2.fG.length≤r.fG.length+1∧(X6 r l).2.fU.length≤r.fU.length+1:=by
 unfold X6
 repeat' split
 all_goals simp
theorem uH (r:Request) (l:ByteArray):-1≤(X6 r l).1∧(X6 r l).1≤6:=by
 have:=Xp r l
 omega
def T5 (z:ByteArray):List ByteArray→Int→Request→Int→Request×Int
 | [],last,r,i=>if last<5 then (R0,i) else if z=ea then (r,-1) else (R0,i)
 | l::ls,last,r,i=>bif mf last (X6 r l).1 then T5 z ls (X6 r l).1 (X6 r l).2 (i+1) else (R0,i)
def bf (s:ByteArray):Request×Int :=
 if 61<(HQ 10 s).length then (R0,60) else T5 ((HQ 10 s).getLastD ea) (HQ 10 s).dropLast (-1) R0 0
theorem Zx (b:UInt8) (s:ByteArray):∃ ls z,HQ b s=ls++[z]∧(HQ b s).dropLast=ls∧(HQ b s).getLastD ea=z:=by
 have h:=(J2 b s).1
 have A:HQ b s≠[]:=λe=>by rw [e] at h; simp at h
 refine ⟨_,(HQ b s).getLast A,(List.dropLast_concat_getLast A).symm,rfl,?_⟩
 rw [List.getLastD_eq_getLast?,List.getLast?_eq_some_getLast A]; rfl
theorem rM {α:Type} {ls:List α} {z:α}:RA (ls++[z]) 0 (ls.length:Int)=some ls:=by
 rw [OP AJ]
 simp
theorem om {α:Type} {ls:List α} {z:α}:ix (ls++[z]) (ls.length:Int)=some z:=by
 rw [EG]; simp
theorem kK {s:ByteArray} (U:s.size≤1048576):IA 2097153 s=some (bf s):=by
 unfold IA bf
 have e:=ej (b:=10) U
 rw [show ((10:UInt8).toNat:Int)=10 from rfl] at e
 rw [e,AB]
 obtain ⟨ls,z,h,h2,h3⟩:=Zx 10 s
 have D:=λx N=>Nat.le_trans (K4 (b:=10) (s:=s) (x:=x) N) U
 have T:=(J2 10 s).2
 rw [h2,h3]
 rw [h] at D T ⊢
 simp only [List.length_append,List.length_singleton] at T ⊢
 rw [AU AC AC,show ((ls.length+1:Nat):Int) - 1=ls.length by omega]
 by_cases A:61<ls.length+1
 · rw [AX AJ,if_pos A]; rfl
 rw [AM AJ,if_neg A,rM,AB]
 have L:=eZ ls (λn (o:Request×Int) i=>HD 2097153 (ls++[z]) ls n o.1.fc o.1.fJ.fW o.1.fJ.fD o.1.fJ.fH o.1.fJ.fQ o.1.fR o.1.fT o.1.fG o.1.fP o.1.fU o.2 i) (λpre M o=>some (T5 z M o.2 o.1 (pre.length:Int))) (λpre M o=>o.1.fT.length≤pre.length∧o.1.fG.length≤pre.length∧o.1.fU.length≤pre.length) AC ?_ ?_ 2097153 (R0,-1) ⟨by simp [R0],by simp [R0],by simp [R0]⟩ AC
 · exact L
 · intro n o pre x M e N O hI Z
   have Y:pre.length<ls.length:=by rw [e]; simp
   have Q:x.size≤1048576:=D x (by rw [e]; simp)
   simp only [HD.eq_2]
   unfold M6
   rw [O,cond_true,N,AB]
   show AA (UG 2097153 o.1 x) _=_
   rw [zj Q AC AC AC,AB,wW (uH _ _),AB]
   cases V:mf o.2 (X6 o.1 x).1 with
   | false =>
    rw [Bool.not_false,cond_true,T5,V]; rfl
   | true =>
    rw [Bool.not_true,cond_false]
    have hl:=nV o.1 x
    have:=Z ((X6 o.1 x).2,(X6 o.1 x).1) ⟨AJ,AJ,AJ⟩
    rw [T5,V,cond_true]
    simp only at this
    rw [this]
    simp
 · intro n o O hI
   simp only [HD.eq_2]
   unfold M6
   rw [O,cond_false,T5]
   simp only [List.length_append,List.length_singleton]
   rw [AU AC AC,show ((ls.length+1:Nat):Int) - 1=ls.length by omega,om,AB]
   by_cases E:o.2<5
   · rw [AX (by simpa using E),if_pos E]; rfl
   rw [AM (by simpa using E),if_neg E]
   show (bif (!(z.toList==ea.toList)) then _ else _)=_
   rw [WZ]
   by_cases J:z=ea
   · rw [decide_eq_true J,if_pos J]; rfl
   · rw [decide_eq_false J,if_neg J]; rfl
theorem zG {A w:ByteArray} {k:Nat} {kk:Int} (h:A.size≤1048576) (D:k≤1048576) (e:(k:Int)=kk):RE 2097153 A w kk=some (fy [] (W0 w k A)):=e ▸ xh h D
def nx (w:ByteArray) (k:Nat):List ByteArray→Option (List Int)
 | []=>none
 | l::_=>W0 w k l
theorem iI {pre rest:List ByteArray} {z w:ByteArray} {k:Nat} {kk at_:Int} (D:∀ x∈rest,x.size≤1048576) (hl:pre.length+rest.length≤1000) (E:k≤1000) (e:(k:Int)=kk) (A:(pre.length:Int)=at_):BV 2097153 (pre++(rest++[z])) at_ w kk=some (fy [] (nx w k rest)):=by
 subst A
 unfold BV
 simp only [List.length_append,List.length_singleton]
 rw [AU AC AC]
 cases rest with
 | nil=>rw [AX AD]; rfl
 | cons l ls =>
  rw [AM AJ,EG]
  have:(pre++(l::ls++[z]))[pre.length]? = some l:=AD
  rw [this,AB,zG (k:=k) (D l AD) AC e,AB]
  rfl
theorem vm {l:ByteArray} {n:List Int} (hl:l.size≤1048576) (h:W0 Ye 7 l=some n) (r:Request):X6 r l=(6,⟨r.fc,r.fJ,r.fR,r.fT,r.fG,r.fP,r.fU++[zd n]⟩):=by
 have A:=(JT hl h).2.2
 unfold X6
 rw [if_neg (λe=>by rw [e] at A; revert A; exact λA=>absurd (List.cons.inj A).1 A1),if_neg (λe=>by rw [e] at A; exact absurd (List.cons.inj A).1 A1),S1 hl h (v:=Y5) A1,S1 hl h (v:=ZV) A1,S1 hl h (v:=Yu) A1,S1 hl h (v:=Yf) A1,S1 hl h (v:=Zp) A1,h]
theorem uT {l:ByteArray} {n:List Int} (hl:l.size≤1048576) (h:W0 Zp 1 l=some n) (r:Request):X6 r l=(5,⟨r.fc,r.fJ,r.fR,r.fT,r.fG,zF n,r.fU⟩):=by
 have A:=(JT hl h).2.2
 unfold X6
 rw [if_neg (λe=>by rw [e] at A; exact absurd (List.cons.inj A).1 A1),if_neg (λe=>by rw [e] at A; exact absurd (List.cons.inj A).1 A1),S1 hl h (v:=Y5) A1,S1 hl h (v:=ZV) A1,S1 hl h (v:=Yu) A1,S1 hl h (v:=Yf) A1,h]
theorem ve {l:ByteArray} {n:List Int} (hl:l.size≤1048576) (h:W0 Yf 7 l=some n) (r:Request):X6 r l=(4,⟨r.fc,r.fJ,r.fR,r.fT,r.fG++[zf n],r.fP,r.fU⟩):=by
 have A:=(JT hl h).2.2
 unfold X6
 rw [if_neg (λe=>by rw [e] at A; exact absurd (List.cons.inj A).1 A1),if_neg (λe=>by rw [e] at A; exact absurd (List.cons.inj A).1 A1),S1 hl h (v:=Y5) A1,S1 hl h (v:=ZV) A1,S1 hl h (v:=Yu) A1,h]
theorem uP {l:ByteArray} {n:List Int} (hl:l.size≤1048576) (h:W0 Yu 2 l=some n) (r:Request):X6 r l=(3,⟨r.fc,r.fJ,r.fR,r.fT++[vr n],r.fG,r.fP,r.fU⟩):=by
 have A:=(JT hl h).2.2
 unfold X6
 rw [if_neg (λe=>by rw [e] at A; exact absurd (List.cons.inj A).1 A1),if_neg (λe=>by rw [e] at A; exact absurd (List.cons.inj A).1 A1),S1 hl h (v:=Y5) A1,S1 hl h (v:=ZV) A1,h]
theorem tU {l:ByteArray} {n:List Int} (hl:l.size≤1048576) (h:W0 ZV 1 l=some n) (r:Request):X6 r l=(2,⟨r.fc,r.fJ,zF n,r.fT,r.fG,r.fP,r.fU⟩):=by
 have A:=(JT hl h).2.2
 unfold X6
 rw [if_neg (λe=>by rw [e] at A; exact absurd (List.cons.inj A).1 A1),if_neg (λe=>by rw [e] at A; exact absurd (List.cons.inj A).1 A1),S1 hl h (v:=Y5) A1,h]
theorem uU {l:ByteArray} {n:List Int} (hl:l.size≤1048576) (h:W0 Y5 4 l=some n) (r:Request):X6 r l=(1,⟨r.fc,yn n,r.fR,r.fT,r.fG,r.fP,r.fU⟩):=by
 have A:=(JT hl h).2.2
 unfold X6
 rw [if_neg (λe=>by rw [e] at A; exact absurd (List.cons.inj A).1 A1),if_neg (λe=>by rw [e] at A; exact absurd (List.cons.inj A).1 A1),h]
theorem bl {z l:ByteArray} {ls:List ByteArray} {A i:Int} {r:Request} (h:mf A (X6 r l).1=false):T5 z (l::ls) A r i=(R0,i):=by
 rw [T5,h]; rfl
theorem Wq {z l:ByteArray} {ls:List ByteArray} {A i k:Int} {r q:Request} (h:X6 r l=(k,q)) (D:mf A k=true):T5 z (l::ls) A r i=T5 z ls k q (i+1):=by
 rw [T5,h,D]; rfl
theorem yp {z:ByteArray} {w a b c d M m:Int} {P:List Pair} {T:List Typ}:∀ (rest pre:List ByteArray) (D:List Item) (k:Nat) (A:Int),(∀ x∈rest,x.size≤1048576)→pre.length+rest.length≤1000→D.length≤pre.length→rest.length<k→(A=5∨A=6) →
    HJ 2097153 (pre++(rest++[z])) w a b c d M P T m k D (pre.length:Int) (fy [] (nx Ye 7 rest)).1 (fy [] (nx Ye 7 rest)).2=some (T5 z rest A ⟨w,⟨a,b,c,d⟩,M,P,T,m,D⟩ (pre.length:Int))
 | [],pre,D,k,A,hs,hl,hi,hk,h5=>by
  obtain ⟨k,rfl⟩:∃ j,k=j+1:=⟨k - 1,AC⟩
  simp only [List.length_nil] at hl
  rw [HJ.eq_2]
  unfold M9
  rw [show nx Ye 7 []=none from rfl,sI]
  simp only [List.nil_append,List.length_append,List.length_singleton]
  rw [AU AC AC,AM AD,show ((pre.length+1:Nat):Int) - 1=pre.length by omega,om,AB]
  show (bif (!(z.toList==ea.toList)) then _ else _)=_
  rw [WZ,T5,if_neg (show ¬ A<5 by omega)]
  by_cases J:z=ea
  · rw [decide_eq_true J,if_pos J]; try rfl
  · rw [decide_eq_false J,if_neg J]; try rfl
 | l::ls,pre,D,k,A,hs,hl,hi,hk,h5=>by
  obtain ⟨k,rfl⟩:∃ j,k=j+1:=⟨k - 1,AC⟩
  simp only [List.length_cons] at hl hk
  rw [HJ.eq_2]
  unfold M9
  have E:=hs l AD
  rw [show nx Ye 7 (l::ls)=W0 Ye 7 l from rfl]
  cases N:W0 Ye 7 l with
  | none =>
   rw [sI]
   simp only [List.length_append,List.length_singleton,List.length_cons,List.length_nil]
   rw [AU AC AC,AX AJ,bl ?_]; · rfl
   have O:=Xp ⟨w,⟨a,b,c,d⟩,M,P,T,m,D⟩ l
   rw [N] at O
   rcases O with ⟨e,_⟩ | ⟨e,_⟩ | ⟨e,_⟩ | ⟨e,_⟩ | ⟨e,_⟩ | ⟨e,_⟩ | ⟨_,_,e⟩ | e
   all_goals first | (rw [e]; rcases h5 with rfl | rfl <;> rfl) | exact absurd e AD
  | some n =>
   obtain ⟨U,h,x3,V,Z,x6,Y,rfl⟩:=tO (JT E N).1
   rw [Wq (vm E N _) (by rcases h5 with rfl | rfl <;> rfl)]
   show AA (BE 56 D [(⟨U,h,x3,V,Z,x6,Y⟩:Item)]) _=_
   rw [KU (by simp only [List.length_singleton]; omega),AB,AU AC AC]
   have e:pre++(l::ls++[z])=(pre++[l])++(ls++[z]):=AD
   have Q:(pre.length:Int)+1=(((pre++[l]).length:Nat):Int):=AD
   rw [e,Q]
   show AA (BV 2097153 ((pre++[l])++(ls++[z])) (((pre++[l]).length:Nat):Int) Ye 7) _=_
   rw [iI (k:=7) (kk:=7) (λx L=>hs x (by simp [L])) AJ AC rfl rfl,AB]
   exact yp ls (pre++[l]) _ k 6 (λx L=>hs x (by simp [L])) AJ AJ AC (.inr rfl)
theorem xU {z:ByteArray} {w a b c d N:Int} {P:List Pair}:∀ (rest pre:List ByteArray) (J:List Typ) (k:Nat) (A:Int),(∀ x∈rest,x.size≤1048576)→pre.length+rest.length≤1000→J.length≤pre.length→rest.length<k→(A=4∨(A=2∨A=3)∧nx Yu 2 rest=none) →
    HF 2097153 (pre++(rest++[z])) w a b c d N P k J (pre.length:Int) (fy [] (nx Yf 7 rest)).1 (fy [] (nx Yf 7 rest)).2=some (T5 z rest A ⟨w,⟨a,b,c,d⟩,N,P,J,0,[]⟩ (pre.length:Int))
 | [],pre,J,k,A,hs,hl,hi,hk,h5=>by
  obtain ⟨k,rfl⟩:∃ j,k=j+1:=⟨k - 1,AC⟩
  rw [HF.eq_2]
  unfold M1
  rw [show nx Yf 7 []=none from rfl,sI]
  show AA (BV 2097153 (pre++([]++[z])) (pre.length:Int) Zp 1) _=_
  rw [iI (k:=1) (kk:=1) hs hl AC rfl rfl,AB,T5,if_pos AC]
  rfl
 | l::ls,pre,J,k,A,hs,hl,hi,hk,h5=>by
  obtain ⟨k,rfl⟩:∃ j,k=j+1:=⟨k - 1,AC⟩
  have M:=hl
  simp only [List.length_cons] at hl hk
  rw [HF.eq_2]
  unfold M1
  have D:=hs l AD
  have e:pre++(l::ls++[z])=(pre++[l])++(ls++[z]):=AD
  have T:(pre.length:Int)+1=(((pre++[l]).length:Nat):Int):=AD
  rw [show nx Yf 7 (l::ls)=W0 Yf 7 l from rfl]
  cases O:W0 Yf 7 l with
  | none =>
   rw [sI]
   show AA (BV 2097153 (pre++(l::ls++[z])) (pre.length:Int) Zp 1) _=_
   rw [iI (k:=1) (kk:=1) hs M AC rfl rfl,AB]
   rw [show nx Zp 1 (l::ls)=W0 Zp 1 l from rfl]
   cases Q:W0 Zp 1 l with
   | none =>
    rw [rJ,bl ?_]; · rfl
    have Y:=Xp ⟨w,⟨a,b,c,d⟩,N,P,J,0,[]⟩ l
    rw [O,Q] at Y
    have L:A=4∨(A=2∨A=3)∧W0 Yu 2 l=none:=h5
    rcases Y with ⟨e,_⟩ | ⟨e,_⟩ | ⟨e,_⟩ | ⟨e,_,V⟩ | ⟨_,_,e⟩ | ⟨_,_,e⟩ | ⟨e,_⟩ | e
    all_goals first | exact absurd e AD | (rw [e]; rcases L with rfl | ⟨rfl | rfl,h6⟩ <;> first | rfl | (rw [h6] at V; exact absurd V AD))
   | some n =>
    obtain ⟨U,rfl⟩:=uV (JT D Q).1
    rw [tu,Wq (uT D Q _) (by rcases h5 with rfl | ⟨rfl | rfl,_⟩ <;> rfl)]
    show AA (BV 2097153 (pre++(l::ls++[z])) (AK ((pre.length:Int)+1)) Ye 7) _=_
    rw [AU AC AC,e,T,iI (k:=7) (kk:=7) (λx E=>hs x (by simp [E])) AJ AC rfl rfl,AB]
    exact yp ls (pre++[l]) [] 2097153 5 (λx E=>hs x (by simp [E])) AJ AD AC (.inl rfl)
  | some n =>
   obtain ⟨U,x2,x3,Z,x5,x6,h,rfl⟩:=tO (JT D O).1
   rw [Wq (ve D O _) (by rcases h5 with rfl | ⟨rfl | rfl,_⟩ <;> rfl)]
   show AA (BE 56 J [(⟨U,x2,x3,Z,x5,x6,h⟩:Typ)]) _=_
   rw [KU (by simp only [List.length_singleton]; omega),AB,AU AC AC,e,T]
   show AA (BV 2097153 ((pre++[l])++(ls++[z])) (((pre++[l]).length:Nat):Int) Yf 7) _=_
   rw [iI (k:=7) (kk:=7) (λx E=>hs x (by simp [E])) AJ AC rfl rfl,AB]
   exact xU ls (pre++[l]) _ k 4 (λx E=>hs x (by simp [E])) AJ AJ AC (.inl rfl)
theorem yb {z:ByteArray} {w a b c d M:Int}:∀ (rest pre:List ByteArray) (ps:List Pair) (k:Nat) (A:Int),(∀ x∈rest,x.size≤1048576)→pre.length+rest.length≤1000→ps.length≤pre.length→rest.length<k→(A=2∨A=3) →
    JR 2097153 (pre++(rest++[z])) w a b c d M k ps (pre.length:Int) (fy [] (nx Yu 2 rest)).1 (fy [] (nx Yu 2 rest)).2=some (T5 z rest A ⟨w,⟨a,b,c,d⟩,M,ps,[],0,[]⟩ (pre.length:Int))
 | rest,pre,ps,k,A,hs,hl,hi,hk,h5=>by
  obtain ⟨k,rfl⟩:∃ j,k=j+1:=⟨k - 1,AC⟩
  rw [JR.eq_2]
  unfold Vq
  cases L:nx Yu 2 rest with
  | none =>
   rw [sI]
   show AA (BV 2097153 (pre++(rest++[z])) (pre.length:Int) Yf 7) _=_
   rw [iI (k:=7) (kk:=7) hs hl AC rfl rfl,AB]
   exact xU rest pre [] 2097153 A hs hl AD AC (.inr ⟨h5,L⟩)
  | some n =>
   cases rest with
   | nil=>exact absurd L (by simp [nx])
   | cons l ls =>
    have D:=hs l AD
    have e:pre++(l::ls++[z])=(pre++[l])++(ls++[z]):=AD
    have N:(pre.length:Int)+1=(((pre++[l]).length:Nat):Int):=AD
    simp only [List.length_cons] at hl hk
    have E:W0 Yu 2 l=some n:=L
    obtain ⟨O,Q,rfl⟩:=yG (JT D E).1
    rw [Wq (uP D E _) (by rcases h5 with rfl | rfl <;> rfl)]
    show AA (BE 16 ps [(⟨O,Q⟩:Pair)]) _=_
    rw [KU (by simp only [List.length_singleton]; omega),AB,AU AC AC,e,N]
    show AA (BV 2097153 ((pre++[l])++(ls++[z])) (((pre++[l]).length:Nat):Int) Yu 2) _=_
    rw [iI (k:=2) (kk:=2) (λx J=>hs x (by simp [J])) AJ AC rfl rfl,AB]
    exact yb ls (pre++[l]) _ k 3 (λx J=>hs x (by simp [J])) AJ AJ AC (.inr rfl)
 termination_by rest=>rest.length
theorem xO {z E:ByteArray} {w:Int} {rest:List ByteArray} (L:∀ x∈rest,x.size≤1048576) (hl:rest.length≤900):FI 2097153 ([E]++(rest++[z])) w=some (T5 z rest 0 ⟨w,⟨0,0,0,0⟩,0,[],[],0,[]⟩ 1):=by
 unfold FI
 show AA (BV 2097153 ([E]++(rest++[z])) 1 Y5 4) _=_
 rw [iI (k:=4) (kk:=4) (at_:=1) (pre:=[E]) L AJ AC rfl rfl,AB]
 cases rest with
 | nil=>rfl
 | cons A ls =>
  have O:=L A AD
  simp only [List.length_cons] at hl
  rw [show nx Y5 4 (A::ls)=W0 Y5 4 A from rfl]
  cases J:W0 Y5 4 A with
  | none =>
   rw [rJ,bl ?_]; · rfl
   have N:=Xp ⟨w,⟨0,0,0,0⟩,0,[],[],0,[]⟩ A
   rw [J] at N
   rcases N with ⟨e,_⟩ | ⟨_,_,e⟩ | ⟨e,_⟩ | ⟨e,_⟩ | ⟨e,_⟩ | ⟨e,_⟩ | ⟨e,_⟩ | e
   all_goals first | exact absurd e AD | (rw [e]; rfl)
  | some n =>
   obtain ⟨a,b,c,d,rfl⟩:=yB (JT O J).1
   rw [tu,Wq (uU O J _) rfl]
   show AA (BV 2097153 ([E,A]++(ls++[z])) 2 ZV 1) _=some (T5 z ls 1 ⟨w,⟨a,b,c,d⟩,0,[],[],0,[]⟩ 2)
   rw [iI (k:=1) (kk:=1) (at_:=2) (pre:=[E,A]) (λx M=>L x (by simp [M])) AJ AC rfl rfl,AB]
   cases ls with
   | nil=>rfl
   | cons D ls =>
    have Q:=L D AD
    simp only [List.length_cons] at hl
    rw [show nx ZV 1 (D::ls)=W0 ZV 1 D from rfl]
    cases J:W0 ZV 1 D with
    | none =>
     rw [rJ,bl ?_]; · rfl
     have N:=Xp ⟨w,⟨a,b,c,d⟩,0,[],[],0,[]⟩ D
     rw [J] at N
     rcases N with ⟨e,_⟩ | ⟨e,_⟩ | ⟨_,_,e⟩ | ⟨e,_⟩ | ⟨e,_⟩ | ⟨e,_⟩ | ⟨e,_⟩ | e
     all_goals first | exact absurd e AD | (rw [e]; rfl)
    | some n =>
     obtain ⟨T,rfl⟩:=uV (JT Q J).1
     rw [tu,Wq (tU Q J _) rfl]
     show AA (BV 2097153 ([E,A,D]++(ls++[z])) 3 Yu 2) _=some (T5 z ls 2 ⟨w,⟨a,b,c,d⟩,T,[],[],0,[]⟩ 3)
     rw [iI (k:=2) (kk:=2) (at_:=3) (pre:=[E,A,D]) (λx M=>L x (by simp [M])) AJ AC rfl rfl,AB]
     exact yb ls [E,A,D] [] 2097153 2 (λx M=>L x (by simp [M])) AJ AD AC (.inl rfl)
theorem m1 {s:ByteArray} (T:s.size≤1048576):J6 2097153 s=some (bf s):=by
 unfold J6 bf
 have e:=ee (b:=10) T
 rw [show ((10:UInt8).toNat:Int)=10 from rfl] at e
 rw [e,AB]
 obtain ⟨ls,z,V,Y,h3⟩:=Zx 10 s
 have J:=λx M=>Nat.le_trans (K4 (b:=10) (s:=s) (x:=x) M) T
 have N:=(J2 10 s).2
 rw [Y,h3]
 rw [V] at J N ⊢
 simp only [List.length_append,List.length_singleton] at N ⊢
 rw [AU AC AC,show ((ls.length+1:Nat):Int) - 1=ls.length by omega]
 by_cases D:61<ls.length+1
 · rw [AX AJ,if_pos D]; rfl
 rw [AM AJ,if_neg D]
 cases ls with
 | nil=>rfl
 | cons A ls =>
  rw [AM AJ]
  have Q:∀ x∈ls,x.size≤1048576:=λx M=>J x (by simp [M])
  simp only [List.length_cons] at D
  rw [show ix (A::ls++[z]) 0=some A from rfl,AB]
  show (bif (!(A.toList==wK.toList)) then (bif (!(A.toList==qS.toList)) then _ else _) else _)=_
  have O:∀ (k:Int),(A=qS→k=1)→(A≠qS→k=0)→JQ 2097153 (A::ls++[z])=some (T5 z ls 0 ⟨k,⟨0,0,0,0⟩,0,[],[],0,[]⟩ 1):=λk Z U=>by
   unfold JQ
   rw [show ix (A::ls++[z]) 0=some A from rfl,AB]
   show (bif (A.toList==qS.toList) then FI 2097153 ([A]++(ls++[z])) 1 else FI 2097153 ([A]++(ls++[z])) 0)=_
   rw [WZ,xO Q AC,xO Q AC]
   by_cases hl:A=qS
   · rw [decide_eq_true hl,Z hl]; rfl
   · rw [decide_eq_false hl,U hl]; rfl
  rw [WZ,WZ]
  by_cases E:A=wK
  · rw [decide_eq_true E,Bool.not_true,cond_false,O 0 (λe=>absurd (e.symm.trans E) A1) λ_=>rfl,Wq (k:=0) (q:=⟨0,⟨0,0,0,0⟩,0,[],[],0,[]⟩) ?_ rfl]; · rfl
    unfold X6
    rw [if_pos E]; rfl
  · rw [decide_eq_false E,Bool.not_false,cond_true]
    by_cases L:A=qS
    · rw [decide_eq_true L,Bool.not_true,cond_false,O 1 (λ_=>rfl) (λe=>absurd L e),Wq (k:=0) (q:=⟨1,⟨0,0,0,0⟩,0,[],[],0,[]⟩) ?_ rfl]; · rfl
      unfold X6
      rw [if_neg E,if_pos L]; rfl
    · rw [decide_eq_false L,Bool.not_false,cond_true,bl ?_]; · rfl
      have h:=Xp R0 A
      rcases h with ⟨_,e⟩ | ⟨e,_⟩ | ⟨e,_⟩ | ⟨e,_⟩ | ⟨e,_⟩ | ⟨e,_⟩ | ⟨e,_⟩ | e
      · rcases e with e | e
        · exact absurd e E
        · exact absurd e L
      all_goals (rw [e]; rfl)
theorem pO (z:ByteArray):∀ (ls:List ByteArray) (A:Int) (r:Request) (i:Int) (n:Nat),r.fT.length≤n∧r.fG.length≤n∧r.fU.length≤n→(T5 z ls A r i).1.fT.length≤n+ls.length∧(T5 z ls A r i).1.fG.length≤n+ls.length∧(T5 z ls A r i).1.fU.length≤n+ls.length
 | [],A,r,i,n,h=>by
  rw [T5]
  split
  · simp [R0]
  split
  · simpa using h
  · simp [R0]
 | l::ls,A,r,i,n,h=>by
  rw [T5]
  cases mf A (X6 r l).1
  · simp [R0]
  · have:=nV r l
    have:=pO z ls (X6 r l).1 (X6 r l).2 (i+1) (n+1) AC
    simp only [cond_true,List.length_cons]
    omega
theorem aj (s:ByteArray):Sm 2097153 (bf s).1:=by
 unfold bf
 split
 · exact ⟨AC,by simp [R0],by simp [R0],by simp [R0]⟩
 · rename_i h
   have:=pO ((HQ 10 s).getLastD ea) (HQ 10 s).dropLast (-1) R0 0 0 (by simp [R0])
   have A:(HQ 10 s).dropLast.length≤61:=by rw [List.length_dropLast]; omega
   exact ⟨AC,AC,AC,AC⟩
def YW (s:ByteArray):Int:=bif decide ((bf s).2≥0) then 1 else CA (bf s).1
theorem q0 {s:ByteArray} (A:s.size≤1048576):LJ 2097153 s=some (YW s):=by
 unfold LJ YW
 rw [kK A,AB]
 cases decide ((bf s).2≥0)
 · rw [cond_false,cond_false,vW (aj s),AB]
 · rfl
theorem vK {s:ByteArray} (A:s.size≤1048576):N9 2097153 s=some (YW s):=by
 unfold N9 YW
 rw [m1 A,AB]
 cases decide ((bf s).2≥0)
 · rw [cond_false,cond_false,Zg (aj s),AB]
 · rfl
def ir (s:ByteArray):ByteArray×Int:=bif YW s != 0 then (ea,YW s) else (ZX (WP (bf s).1).1,0)
theorem za {s:ByteArray} (A:s.size≤1048576):XU 2097153 s=some (ir s):=by
 unfold XU ir
 rw [q0 A,AB]
 cases YW s != 0
 · rw [cond_false,cond_false,kK A,AB,wi (aj s),AB,sE (tk _) AC,AB]
 · rfl
theorem vA {s:ByteArray} (A:s.size≤1048576):Ww 2097153 s=some (ir s):=by
 unfold Ww ir
 rw [vK A,AB]
 cases YW s != 0
 · rw [cond_false,cond_false,m1 A,AB,st (aj s),AB,qV (tk _) AC,AB]
 · rfl
def C0:Carton:=⟨0,0,[]⟩
def T0:Spot:=⟨0,0,0,0⟩
def m5:List Int→Carton×Spot
 | a::b::c::d::e::f::u=>(⟨a,b,u⟩,⟨c,d,e,f⟩)
 | _=>(C0,T0)
theorem ww {l:List Int} (h:¬ l.length<6):∃ a b c d e f u,l=a::b::c::d::e::f::u:=by
 match l,h with
 | [],h=>exact absurd AD h
 | [_],h=>exact absurd AD h
 | [_,_],h=>exact absurd AD h
 | [_,_,_],h=>exact absurd AD h
 | [_,_,_,_],h=>exact absurd AD h
 | [_,_,_,_,_],h=>exact absurd AD h
 | a::b::c::d::e::f::u,_=>exact ⟨a,b,c,d,e,f,u,rfl⟩
def gF (p:Carton×Spot):Bool:=aw p.1&&j6 p.2
def mQ (w:ByteArray) (o:Option (List Int)):Carton×Spot×Bool :=
 match o with
 | none=>(C0,T0,false)
 | some n=>if n.length<6 then (C0,T0,false) else if w=NX∧gF (m5 n)=true then ((m5 n).1,(m5 n).2,true) else (C0,T0,false)
def Xh (s:ByteArray):Carton×Spot×Bool :=
 match HQ 32 s with
 | []=>(C0,T0,false)
 | p::ps=>mQ p (au ps)
theorem xN (c:Carton) (t:Spot):RO ⟨[c],[t]⟩=gF (c,t):=by
 unfold RO gF
 simp
theorem yE {c:Carton} {t:Spot} (h:c.fK.length≤1048576):Sp ⟨[c],[t]⟩:=⟨AD,λd A=>by rw [List.mem_singleton.1 A]; exact h,by simpa [W2] using h,AD⟩
theorem vJ {a b c d e f:Int} {u:List Int} (h:u.length≤2000000):RA (a::b::c::d::e::f::u) 6 (((a::b::c::d::e::f::u).length:Nat):Int)=some u:=by
 rw [OP (by simp only [List.length_cons]; omega),Int.toNat_natCast,show (6:Int).toNat=6 from rfl]
 simp
theorem ku:∀ {A:List ByteArray} {n:List Int},au A=some n→n.length=A.length
 | [],n,h=>by rw [← Option.some.inj h]; rfl
 | x::A,n,h=>by
  rw [au] at h
  split at h
  · cases D:au A with
    | none=>rw [D] at h; simp at h
    | some E =>
     rw [D] at h
     rw [← Option.some.inj h,List.length_cons,List.length_cons,ku D]
  · simp at h
theorem y0 {α:Type} (a b:α):(bif !(([],false):List Int×Bool).2 then a else b)=a:=rfl
theorem yc {α:Type} (n:List Int) (a b:α):(bif !((n,true):List Int×Bool).2 then a else b)=b:=rfl
theorem yK {s:ByteArray} (M:s.size≤1048576):Wj 2097153 s=some (Xh s):=by
 unfold Wj Xh
 have e:=ej (b:=32) M
 have hl:=(J2 32 s).2
 rw [show ((32:UInt8).toNat:Int)=32 from rfl] at e
 rw [e,AB]
 cases D:HQ 32 s with
 | nil=>have:=(J2 32 s).1; rw [D] at this; simp at this
 | cons p ps =>
  rw [D] at hl
  simp only [List.length_cons] at hl ⊢
  have N:AK (((ps.length+1:Nat):Int) - 1)=ps.length:=by rw [AU AC AC]; omega
  simp only [N]
  show AA (B6 2097153 s NX (ps.length:Int)) _=_
  rw [oF M AC]
  have O:W0 NX ps.length s=if p=NX then au ps else none:=by
   unfold W0
   rw [D]
   simp
  rw [O]
  unfold mQ
  by_cases A:p=NX
  · rw [if_pos A]
    cases L:au ps with
    | none=>rfl
    | some n =>
     have J:=ku L
     simp only
     rw [obS,yc]
     by_cases E:n.length<6
     · rw [AX AJ,if_pos E]; rfl
     rw [AM AJ,if_neg E]
     unfold VW VG
     obtain ⟨a,b,c,d,e,f,u,rfl⟩:=ww E
     simp only [List.length_cons] at J
     show AA (RA (a::b::c::d::e::f::u) 6 (((a::b::c::d::e::f::u).length:Nat):Int)) _=_
     rw [vJ AC,AB]
     show AA (K6 2097153 ⟨[⟨a,b,u⟩],[⟨c,d,e,f⟩]⟩) _=_
     rw [rl (yE AJ) AC,AB,xN]
     show (bif !gF (⟨a,b,u⟩,⟨c,d,e,f⟩) then _ else _)=some (if p=NX∧gF (⟨a,b,u⟩,⟨c,d,e,f⟩)=true then _ else _)
     cases Q:gF (⟨a,b,u⟩,⟨c,d,e,f⟩)
     · rw [if_neg AD]; rfl
     · rw [if_pos ⟨A,rfl⟩]; rfl
  · rw [if_neg A,xF,y0]
    cases L:au ps with
    | none=>rfl
    | some n =>
     simp only
     split
     · rfl
     rw [if_neg (λh=>A h.1)]; rfl
theorem wz {a b:ByteArray} (h:a.data.toList=b.data.toList):a=b:=ByteArray.ext (Array.ext' h)
theorem oO (a b:ByteArray):(a++b).data.toList=a.data.toList++b.data.toList:=by rw [ByteArray.data_append]; simp
theorem Yj:∀ (l:List Int) (o:ByteArray),(HW o l).data.toList=o.data.toList++(l.map λn=>32::(KX n).data.toList).flatten
 | [],o=>by simp [HW]
 | n::l,o=>by
  show (HW (o++(pI++KX n)) l).data.toList=_
  rw [Yj l,oO,oO]
  simp [pI]
theorem gn {s p:ByteArray} {n:List Int} (h:HQ 32 s=p::n.map KX):HW p n=s:=by
 apply wz
 rw [Yj]
 have A:=g0 32 s.data.toList
 unfold HQ rH at h
 simp only [List.map_cons,List.cons.injEq] at h
 have D:(cut 32 s.data.toList).1=p.data.toList:=by rw [← h.1]; rfl
 have J:(cut 32 s.data.toList).2=n.map λn=>(KX n).data.toList:=by
  have:=congrArg (List.map λx:ByteArray=>x.data.toList) h.2
  rw [List.map_map,List.map_map] at this
  have E:((λx:ByteArray=>x.data.toList) ∘ tA)=id:=by funext x; rfl
  rw [E,List.map_id] at this
  exact this
 rw [D,J,List.map_map] at A
 exact A.symm
theorem rY {p:ByteArray} {n:List Int} (h:HW NX n=HW p n):NX=p:=by
 have:=congrArg (λx:ByteArray=>x.data.toList) h
 simp only [Yj] at this
 exact wz (List.append_cancel_right this)
theorem mn (n:List Int) (h:¬ n.length<6):GE (m5 n).1 (m5 n).2=n:=by
 obtain ⟨a,b,c,d,e,f,u,rfl⟩:=ww h
 rfl
def wh (s:ByteArray) (n:List Int):Option (Carton×Spot×Bool) :=
 bif (decide ((n.length:Int)<6)) then some (C0,T0,false) else AA (ix n 0) λa=>AA (ix n 1) λb=>AA (RA n 6 (n.length:Int)) λu=>AA (BE 8 [] u) λv=>PK 2097153 s n a b v
theorem rq {s y:ByteArray}:∀ (A pre:List ByteArray) (o:List Int) (k:Nat),(∀ x∈A,x.size≤1048576)→(o.length+A.length≤2000000∧pre.length+A.length≤2000000)→A.length<k→J5 2097153 s (y::(pre++A)) k o ((pre.length:Int)+1)=match au A with | none=>some (C0,T0,false) | some n=>wh s (o++n)
 | [],pre,o,k,hx,hl,hk=>by
  obtain ⟨k,rfl⟩:∃ j,k=j+1:=⟨k - 1,AC⟩
  rw [J5.eq_2]
  unfold SN
  rw [AM AD]
  show _=wh s (o++[])
  rw [List.append_nil]
  rfl
 | x::A,pre,o,k,hx,hl,hk=>by
  obtain ⟨k,rfl⟩:∃ j,k=j+1:=⟨k - 1,AC⟩
  simp only [List.length_cons] at hl hk
  rw [J5.eq_2]
  unfold SN
  have hi:ix (y::(pre++x::A)) ((pre.length:Int)+1)=some x:=by
   rw [show ((pre.length:Int)+1)=((pre.length+1:Nat):Int) by omega,EG]; simp
  rw [AX AJ,hi,AB,vu (hx x AD),AB,au]
  cases J:(iT x).2 with
  | false=>rfl
  | true =>
   rw [if_pos rfl,Bool.not_true,cond_false]
   have:BE 8 o [(iT x).1]=some (o++[(iT x).1]):=by
    unfold BE
    rw [if_pos (by simp only [List.length_singleton]; omega)]
   have E:=rq (s:=s) (y:=y) A (pre++[x]) (o++[(iT x).1]) k (λy D=>hx y (by simp [D])) (by simp only [List.length_append,List.length_singleton]; omega) AC
   rw [this,AB,AU AC AC,show ((pre.length:Int)+1+1)=(((pre++[x]).length:Nat):Int)+1 by simp]
   rw [show y::(pre++x::A)=y::((pre++[x])++A) by simp,E]
   cases au A with
   | none=>rfl
   | some ns=>simp
theorem zp {s:ByteArray} (V:s.size≤1048576):V5 2097153 s=some (Xh s):=by
 unfold V5 Xh
 have e:=ee (b:=32) V
 have hl:=(J2 32 s).2
 have J:=λx D=>Nat.le_trans (K4 (b:=32) (s:=s) (x:=x) D) V
 rw [show ((32:UInt8).toNat:Int)=32 from rfl] at e
 rw [e,AB]
 cases N:HQ 32 s with
 | nil=>have:=(J2 32 s).1; rw [N] at this; simp at this
 | cons p ps =>
  rw [N] at hl J
  simp only [List.length_cons] at hl
  have D:∀ x∈ps,x.size≤1048576:=λx D=>J x (by simp [D])
  have:=rq (s:=s) (y:=p) ps [] [] 2097153 D AJ AC
  rw [show ((([]:List ByteArray).length:Int)+1)=1 from rfl,List.nil_append] at this
  rw [this]
  show _=some (mQ p (au ps))
  unfold mQ
  cases T:au ps with
  | none=>rfl
  | some n =>
   have O:=ku T
   have Q:=aK D T
   simp only [List.nil_append]
   unfold wh
   by_cases L:n.length<6
   · rw [AX AJ,if_pos L]
   rw [AM AJ,if_neg L]
   have U:=mn n L
   have E:=gn (n:=n) (by rw [N,← Q.1])
   obtain ⟨a,b,c,d,e,f,u,rfl⟩:=ww L
   simp only [List.length_cons] at O
   show AA (RA (a::b::c::d::e::f::u) 6 (((a::b::c::d::e::f::u).length:Nat):Int)) _=_
   rw [vJ AC,AB,KU AJ,AB,List.nil_append]
   unfold PK VC
   show AA (IU 2097153 ⟨[⟨a,b,u⟩],[⟨c,d,e,f⟩]⟩) _=_
   rw [nC (yE AJ) AC,AB,xN]
   show (bif !gF (⟨a,b,u⟩,⟨c,d,e,f⟩) then _ else AA (LA 2097153 ⟨a,b,u⟩ ⟨c,d,e,f⟩) _)=some (if p=NX∧gF (⟨a,b,u⟩,⟨c,d,e,f⟩)=true then _ else _)
   cases Z:gF (⟨a,b,u⟩,⟨c,d,e,f⟩)
   · rw [if_neg AD]; rfl
   · have A:=Z
     unfold gF at A
     rw [Bool.and_eq_true] at A
     rw [Bool.not_true,cond_false,r9 AC (bC A.1 A.2),AB,WZ]
     have Y:GE ⟨a,b,u⟩ ⟨c,d,e,f⟩=a::b::c::d::e::f::u:=rfl
     rw [Y]
     by_cases M:p=NX
     · rw [if_pos ⟨M,rfl⟩,decide_eq_true (by rw [← E,M])]; rfl
     · rw [if_neg (λh=>M h.1),decide_eq_false (λh=>M (by
         rw [← E] at h
         exact (rY h).symm))]; rfl
def Yg:List ByteArray→Option (List (Carton×Spot))
 | []=>some []
 | l::ls=>if (Xh l).2.2=true then (Yg ls).map (((Xh l).1,(Xh l).2.1)::·) else none
def P0:Plan:=⟨[],[]⟩
def r8 (l:List (Carton×Spot)):Plan:=⟨l.map (·.1),l.map (·.2)⟩
def XB (s:ByteArray):Plan×Bool :=
 if (HQ 10 s).getLastD ea=ea∧(HQ 10 s).length≤101 then
  match Yg (HQ 10 s).dropLast with
  | some l=>(r8 l,true)
  | none=>(P0,false)
 else (P0,false)
theorem kH {s:ByteArray} (h:(Xh s).2.2=true):gF ((Xh s).1,(Xh s).2.1)=true∧∃ n,HQ 32 s=NX::n∧∃ m,au n=some m∧¬ m.length<6∧m5 m=((Xh s).1,(Xh s).2.1):=by
 unfold Xh at h ⊢
 cases E:HQ 32 s with
 | nil=>rw [E] at h; simp at h
 | cons p ps =>
  rw [E] at h
  simp only at h ⊢
  unfold mQ at h ⊢
  cases D:au ps with
  | none=>rw [D] at h; simp at h
  | some n =>
   rw [D] at h
   simp only at h ⊢
   split at h
   · simp at h
   · rename_i J
     rw [if_neg J]
     split at h
     · rename_i A
       rw [if_pos A]
       exact ⟨A.2,ps,by rw [A.1],n,D,J,rfl⟩
     · simp at h
theorem kP:∀ {ls:List ByteArray} {l:List (Carton×Spot)},Yg ls=some l→l.length=ls.length∧∀ p∈l,gF p=true
 | [],l,h=>by rw [← Option.some.inj h]; simp
 | x::ls,l,h=>by
  rw [Yg] at h
  split at h
  · rename_i D
    cases hl:Yg ls with
    | none=>rw [hl] at h; simp at h
    | some m =>
     rw [hl] at h
     rw [← Option.some.inj h]
     have:=kP hl
     exact ⟨by simp [this.1],λp A=>by
      rcases List.mem_cons.1 A with rfl | A
      · exact (kH D).1
      · exact this.2 p A⟩
  · simp at h
theorem nL {c:Carton} (h:aw c=true):c.fK.length≤100:=by
 unfold aw lY at h
 simp only [Bool.and_eq_true,decide_eq_true_eq] at h
 omega
theorem bX (b:Nat):∀ (l:List Carton),(∀ c∈l,c.fK.length≤b)→W2 l≤b*l.length
 | [],_=>by simp [W2]
 | c::l,h=>by
  have E:=bX b l λd A=>h d (by simp [A])
  have D:=h c AD
  simp only [W2,List.length_cons,Nat.mul_add]; omega
theorem vY {s:ByteArray} (O:s.size≤1048576):MB 2097153 s=some (XB s):=by
 unfold MB XB
 have e:=ej (b:=10) O
 rw [show ((10:UInt8).toNat:Int)=10 from rfl] at e
 rw [e,AB]
 obtain ⟨ls,z,V,Y,h3⟩:=Zx 10 s
 have D:=λx E=>Nat.le_trans (K4 (b:=10) (s:=s) (x:=x) E) O
 have N:=(J2 10 s).2
 rw [Y,h3]
 rw [V] at D N ⊢
 simp only [List.length_append,List.length_singleton] at N ⊢
 rw [AU AC AC,show ((ls.length+1:Nat):Int) - 1=ls.length by omega,om,AB]
 show (bif (!(z.toList==ea.toList)) then _ else _)=_
 rw [WZ]
 by_cases J:z=ea
 rotate_left
 · rw [decide_eq_false J,if_neg (λh=>J h.1)]; rfl
 rw [decide_eq_true J,Bool.not_true,cond_false]
 by_cases hc:ls.length≤100
 rotate_left
 · rw [AX AJ,if_neg AC]; rfl
 rw [AM AJ,if_pos ⟨J,AC⟩]
 unfold Tk
 simp only [List.length_append,List.length_singleton]
 rw [AU AC AC,show ((ls.length+1:Nat):Int) - 1=ls.length by omega,rM,AB]
 have L:=XD ls (λn (o:List Carton×List Spot) i=>IJ 2097153 ls n o.1 o.2 i) (λA o=>match Yg A with | none=>some (P0,false) | some l=>some (⟨o.1++l.map (·.1),o.2++l.map (·.2)⟩,true)) (λA o=>(∀ x∈A,x.size≤1048576)∧o.1.length+A.length≤1000∧o.2.length+A.length≤1000) AC ?_ ?_ 2097153 ([],[]) ⟨λx E=>D x (by simp [E]),AJ,AJ⟩ AC
 · rw [L]
   cases Yg ls <;> rfl
 · intro n o i x A E M Z U
   obtain ⟨Q,i2,i3⟩:=Z
   simp only [List.length_cons] at i2 i3
   simp only [IJ.eq_2]
   unfold N1
   rw [M,cond_true,E,AB,yK (Q x AD),AB,Yg]
   cases hv:(Xh x).2.2 with
   | false=>rfl
   | true =>
    rw [if_pos rfl,Bool.not_true,cond_false,KU (by simp only [List.length_singleton]; omega),AB,KU (by simp only [List.length_singleton]; omega),AB]
    have:=U (o.1++[(Xh x).1],o.2++[(Xh x).2.1]) ⟨λy T=>Q y (by simp [T]),by simp only [List.length_append,List.length_singleton]; omega,by simp only [List.length_append,List.length_singleton]; omega⟩
    rw [this]
    cases Yg A with
    | none=>rfl
    | some l=>simp
 · intro n o i M _
   simp only [IJ.eq_2]
   unfold N1
   rw [M,cond_false]
   simp [Yg]
theorem sy {z:ByteArray}:∀ (A pre:List ByteArray) (cs:List Carton) (D:List Spot) (k:Nat),(∀ x∈A,x.size≤1048576)→(cs.length=pre.length∧D.length=pre.length∧pre.length+A.length≤1048576∧∀ p∈cs.zip D,gF p=true)→A.length<k →
    IG 2097153 (pre++(A++[z])) k cs D (pre.length:Int)=match Yg A with | none=>some (P0,false) | some l=>if z=ea∧pre.length+A.length≤100 then some (⟨cs++l.map (·.1),D++l.map (·.2)⟩,true) else some (P0,false)
 | [],pre,cs,D,k,hx,hI,hk=>by
  obtain ⟨k,rfl⟩:∃ j,k=j+1:=⟨k - 1,AC⟩
  obtain ⟨Z,e,O,M⟩:=hI
  rw [IG.eq_2]
  unfold OS
  simp only [List.nil_append,List.length_append,List.length_singleton,List.length_nil,Nat.add_zero] at O ⊢
  rw [AU AC AC,show ((pre.length+1:Nat):Int) - 1=pre.length by omega,AM AD,om,AB]
  show (bif (!(z.toList==ea.toList)) then _ else _)=_
  rw [WZ]
  simp only [Yg,List.map_nil,List.append_nil]
  by_cases L:z=ea
  rotate_left
  · rw [decide_eq_false L,if_neg (λh=>L h.1)]; rfl
  rw [decide_eq_true L,Bool.not_true,cond_false]
  by_cases T:pre.length≤100
  · rw [if_pos ⟨L,T⟩]
    have Q:∀ c∈cs,c.fK.length≤100:=λc J=>by
     obtain ⟨i,hi,rfl⟩:=List.getElem_of_mem J
     have h2:i<D.length:=AC
     have:=M (cs[i],D[i]) (List.mem_iff_getElem.2 ⟨i,AJ,AD⟩)
     unfold gF at this
     rw [Bool.and_eq_true] at this
     exact nL this.1
    have N:Sp ⟨cs,D⟩:=⟨by show cs.length≤_; omega,λc J=>by have:=Q c J; omega,by
     have:=bX 100 cs Q
     show W2 cs≤_
     have h3:100*cs.length≤100*100:=Nat.mul_le_mul_left _ AC
     omega,by show D.length≤_; omega⟩
    rw [nC N AC,AB]
    have:RO ⟨cs,D⟩=true:=by
     unfold RO
     simp only [Bool.and_eq_true,beq_iff_eq,decide_eq_true_eq,List.all_eq_true]
     refine ⟨AC,AC,λp E=>?_⟩
     have:=M p E
     unfold gF at this
     rwa [Bool.and_eq_true] at this
    rw [this]; rfl
  · rw [if_neg (λh=>T h.2)]
    unfold IU
    show AA (bif (((cs.length:Int)) != ((D.length:Int))) then _ else bif (decide ((cs.length:Int)>100)) then _ else _) _=_
    rw [AM AJ,AX AJ,AB]
    rfl
 | x::A,pre,cs,D,k,hx,hI,hk=>by
  obtain ⟨k,rfl⟩:∃ j,k=j+1:=⟨k - 1,AC⟩
  obtain ⟨Z,e,O,M⟩:=hI
  simp only [List.length_cons] at hk O
  rw [IG.eq_2]
  unfold OS
  have hi:ix (pre++(x::A++[z])) (pre.length:Int)=some x:=by
   rw [EG]; simp
  simp only [List.length_append,List.length_singleton,List.length_cons,List.length_nil]
  rw [AU AC AC,AX AJ,hi,AB,zp (hx x AD),AB,Yg]
  cases V:(Xh x).2.2 with
  | false=>rfl
  | true =>
   rw [if_pos rfl,Bool.not_true,cond_false,KU (by simp only [List.length_singleton]; omega),AB,KU (by simp only [List.length_singleton]; omega),AB,AU AC AC]
   have Y:=sy (z:=z) A (pre++[x]) (cs++[(Xh x).1]) (D++[(Xh x).2.1]) k (λy U=>hx y (by simp [U])) ⟨AJ,AJ,AJ,λp E=>by
    rw [List.zip_append AC] at E
    rcases List.mem_append.1 E with E | E
    · exact M p E
    · rw [List.mem_singleton.1 E]; exact (kH V).1⟩ AC
   rw [show pre++(x::A++[z])=(pre++[x])++(A++[z]) by simp,show ((pre.length:Int)+1)=(((pre++[x]).length:Nat):Int) by simp,Y]
   cases Yg A with
   | none=>rfl
   | some l =>
    simp only [Option.map_some,List.length_append,List.length_singleton,List.map_cons,List.append_assoc,List.singleton_append]
    rw [show pre.length+1+A.length=pre.length+(A.length+1) by omega]
theorem zb {s:ByteArray} (E:s.size≤1048576):SE 2097153 s=some (XB s):=by
 unfold SE XB
 have e:=ee (b:=10) E
 rw [show ((10:UInt8).toNat:Int)=10 from rfl] at e
 rw [e,AB]
 obtain ⟨ls,z,N,L,M⟩:=Zx 10 s
 have A:=λx D=>Nat.le_trans (K4 (b:=10) (s:=s) (x:=x) D) E
 have J:=(J2 10 s).2
 rw [L,M]
 rw [N] at A J ⊢
 simp only [List.length_append,List.length_singleton] at J ⊢
 have:=sy (z:=z) ls [] [] [] 2097153 (λx D=>A x (by simp [D])) ⟨rfl,rfl,AJ,AD⟩ AC
 rw [List.nil_append,show ((([]:List ByteArray).length:Nat):Int)=0 from rfl] at this
 rw [this]
 simp only [List.length_nil,Nat.zero_add,List.nil_append]
 cases Yg ls with
 | none =>
  simp only
  split <;> rfl
 | some l =>
  simp only
  by_cases h:z=ea∧ls.length≤100
  · rw [if_pos h,if_pos ⟨h.1,AC⟩]; rfl
  · rw [if_neg h,if_neg (λg=>h ⟨g.1,AC⟩)]
theorem k7 (s:ByteArray):Sp (XB s).1:=by
 have E:Sp P0:=⟨by simp [P0],by simp [P0],by simp [P0,W2],by simp [P0]⟩
 unfold XB
 split
 · rename_i h
   split
   · rename_i l hl
     have:=kP hl
     rw [List.length_dropLast] at this
     have A:∀ c∈l.map (·.1),c.fK.length≤100:=λc A=>by
      obtain ⟨p,L,rfl⟩:=List.mem_map.1 A
      have:=this.2 p L
      unfold gF at this
      rw [Bool.and_eq_true] at this
      exact nL this.1
     have J:=bX 100 _ A
     rw [List.length_map] at J
     exact ⟨by simp [r8]; omega,λc D=>by have:=A c D; omega,by show W2 (l.map (·.1))≤_; omega,by simp [r8]; omega⟩
   · exact E
 · exact E
def i7 (s l:ByteArray):Int×Int:=bif YW s != 0 then (YW s,1) else bif !(XB l).2 then (0,2) else (0,dv (bf s).1 (XB l).1)
theorem vC {s l:ByteArray} (A:s.size≤1048576) (hl:l.size≤1048576):RI 2097153 s l=some (i7 s l):=by
 unfold RI i7
 rw [q0 A,AB]
 cases YW s != 0
 · rw [cond_false,cond_false,kK A,AB,vY hl,AB]
   cases (XB l).2
   · rfl
   · rw [Bool.not_true,cond_false,cond_false,ny (aj s) (k7 l),AB]
 · rfl
theorem yR {s l:ByteArray} (A:s.size≤1048576) (hl:l.size≤1048576):Wd 2097153 s l=some (i7 s l):=by
 unfold Wd i7
 rw [vK A,AB]
 cases YW s != 0
 · rw [cond_false,cond_false,m1 A,AB,zb hl,AB]
   cases (XB l).2
   · rfl
   · rw [Bool.not_true,cond_false,cond_false,ux (aj s) (k7 l),AB]
 · rfl
theorem me {b:UInt8} {w:List UInt8} (r:List UInt8) (h:b∉w):rH b (w++b::r)=w::rH b r:=by
 unfold rH
 rw [jY _ h,kB]
 simp
theorem uu {b:UInt8} {w:List UInt8} (h:b∉w):rH b w=[w]:=by
 have:=jY [] h
 rw [List.append_nil] at this
 unfold rH
 rw [this]
 simp [cut]
theorem ju:∀ (l:List (List UInt8)) (w:List UInt8),32∉w→(∀ x∈l,(32:UInt8)∉x)→rH 32 (w++(l.map λx=>32::x).flatten)=w::l
 | [],w,hw,_=>by simpa using uu hw
 | x::l,w,hw,h=>by
  rw [List.map_cons,List.flatten_cons,List.cons_append,me _ hw,ju l x (h x AD) λy A=>h y (by simp [A])]
theorem jN:∀ (l:List (List UInt8)),(∀ x∈l,(10:UInt8)∉x)→rH 10 (l.map λx=>x++[10]).flatten=l++[[]]
 | [],_=>rfl
 | x::l,h=>by
  have:((x::l).map λx=>x++[10]).flatten=x++10::(l.map λx=>x++[10]).flatten:=AD
  rw [this,me _ (h x AD),jN l λy A=>h y (by simp [A])]
  rfl
theorem jH {n:Int} (h:0≤n):(32:UInt8)∉(KX n).data.toList∧(10:UInt8)∉(KX n).data.toList:=by
 obtain ⟨u,rfl⟩:∃ u:Nat,n=u:=⟨n.toNat,AC⟩
 have e:(KX (u:Int)).data.toList=Lib.decDigits u:=by rw [ZD]
 rw [e]
 have:=rG u
 exact ⟨λA=>absurd (this _ A).1 A1,λA=>absurd (this _ A).1 A1⟩
theorem rS {p:ByteArray} {n:List Int} (A:(32:UInt8)∉p.data.toList) (h:∀ x∈n,0≤x):HQ 32 (HW p n)=p::n.map KX:=by
 unfold HQ
 have e:(HW p n).data.toList=p.data.toList++((n.map λn=>(KX n).data.toList).map λx=>32::x).flatten:=by
  rw [Yj,List.map_map]; rfl
 rw [e,ju _ _ A λx E=>by
  obtain ⟨m,D,rfl⟩:=List.mem_map.1 E
  exact (jH (h m D)).1]
 rw [List.map_cons,List.map_map]
 rfl
theorem p6 {n:List Int} (h:∀ x∈n,0≤x):(10:UInt8)∉(HW NX n).data.toList:=by
 rw [Yj]
 intro A
 rcases List.mem_append.1 A with A | A
 · revert A; decide
 · obtain ⟨l,hl,A⟩:=List.mem_flatten.1 A
   obtain ⟨m,D,rfl⟩:=List.mem_map.1 hl
   rcases List.mem_cons.1 A with e | e
   · exact absurd e A1
   · exact (jH (h m D)).2 e
theorem lA {p:Carton×Spot} (h:gF p=true):(∀ n∈GE p.1 p.2,0≤n∧n≤999999)∧(GE p.1 p.2).length≤106:=by
 unfold gF at h
 rw [Bool.and_eq_true] at h
 exact bC h.1 h.2
theorem ry {p:Carton×Spot} (h:gF p=true):Xh (HW NX (GE p.1 p.2))=(p.1,p.2,true):=by
 have A:=lA h
 unfold Xh
 rw [rS A1 λx E=>(A.1 x E).1]
 show mQ NX (au _)=_
 rw [nD A.1]
 unfold mQ
 have e:m5 (GE p.1 p.2)=p:=rfl
 have D:¬ (GE p.1 p.2).length<6:=by simp [GE]
 simp only
 rw [if_neg D,e,if_pos (by simpa using h)]
theorem gI:∀ {l:List (Carton×Spot)},(∀ p∈l,gF p=true)→Yg (l.map λp=>HW NX (GE p.1 p.2))=some l
 | [],_=>rfl
 | p::l,h=>by
  have D:=ry (h p AD)
  rw [List.map_cons,Yg,D,if_pos rfl,gI λq A=>h q (by simp [A])]
  rfl
theorem mg:∀ (l:List (Carton×Spot)) (o:ByteArray),(l.foldl kz o).data.toList=o.data.toList++(l.map λp=>(HW NX (GE p.1 p.2)).data.toList++[10]).flatten
 | [],o=>by simp
 | p::l,o=>by
  rw [List.foldl_cons,mg l]
  unfold kz
  rw [oO,oO]
  simp [iq]
theorem n4 {x:Plan} (h:RO x=true):x.fE.length=x.fV.length∧x.fV.length≤100∧∀ p∈x.fV.zip x.fE,gF p=true:=by
 unfold RO at h
 simp only [Bool.and_eq_true,beq_iff_eq,decide_eq_true_eq,List.all_eq_true] at h
 obtain ⟨E,_,A⟩:=h
 refine ⟨E,AC,λp D=>?_⟩
 unfold gF
 rw [Bool.and_eq_true]
 exact A p D
theorem lN {x:Plan} (h:RO x=true):(ZX x).data.toList=((x.fV.zip x.fE).map λp=>(HW NX (GE p.1 p.2)).data.toList++[10]).flatten:=by
 unfold ZX
 rw [h,cond_true,mg]
 rfl
theorem qA {x:Plan} (h:RO x=true):HQ 10 (ZX x)=((x.fV.zip x.fE).map λp=>HW NX (GE p.1 p.2))++[ea]:=by
 have J:=(n4 h).2.2
 unfold HQ
 have e:(ZX x).data.toList=(((x.fV.zip x.fE).map λp=>(HW NX (GE p.1 p.2)).data.toList).map λx=>x++[10]).flatten:=by
  rw [lN h,List.map_map]; rfl
 rw [e,jN _ λy A=>by
  obtain ⟨p,E,rfl⟩:=List.mem_map.1 A
  exact p6 λz D=>((lA (J p E)).1 z D).1]
 rw [List.map_append,List.map_map]
 rfl
theorem uo {x:Plan} (h:x.fE.length=x.fV.length):r8 (x.fV.zip x.fE)=x:=by
 unfold r8
 rw [List.map_fst_zip AC,List.map_snd_zip AC]
theorem um {x:Plan} (h:RO x=true):XB (ZX x)=(x,true):=by
 obtain ⟨D,_,A⟩:=n4 h
 unfold XB
 rw [qA h]
 have E:(x.fV.zip x.fE).length=x.fV.length:=AJ
 rw [if_pos ⟨AD,AJ⟩,List.dropLast_concat,gI A]
 simp only
 rw [uo D]
theorem rF {s:ByteArray} (E:s.size≤1048576) (h:(Xh s).2.2=true):HW NX (GE (Xh s).1 (Xh s).2.1)=s:=by
 obtain ⟨_,n,D,m,N,M,J⟩:=kH h
 have A:=λx (A:x∈n)=>Nat.le_trans (K4 (b:=32) (s:=s) (x:=x) (by rw [D]; simp [A])) E
 have L:=aK A N
 have e:=mn m M
 rw [J] at e
 rw [e]
 exact gn (by rw [D,← L.1])
theorem jn:∀ {ls:List ByteArray} {l:List (Carton×Spot)},(∀ x∈ls,x.size≤1048576)→Yg ls=some l→l.map (λp=>HW NX (GE p.1 p.2))=ls
 | [],l,_,h=>by rw [← Option.some.inj h]; rfl
 | x::ls,l,hx,h=>by
  rw [Yg] at h
  split at h
  · rename_i D
    cases hl:Yg ls with
    | none=>rw [hl] at h; simp at h
    | some m =>
     rw [hl] at h
     rw [← Option.some.inj h,List.map_cons,jn (λy A=>hx y (by simp [A])) hl,rF (hx x AD) D]
  · simp at h
theorem nf (s:ByteArray) {ls:List ByteArray} (h:HQ 10 s=ls++[ea]):s.data.toList=(ls.map λx=>x.data.toList++[10]).flatten:=by
 have L:=g0 10 s.data.toList
 unfold HQ rH at h
 have A:=congrArg (List.map λx:ByteArray=>x.data.toList) h
 rw [List.map_map,List.map_append] at A
 have E:((λx:ByteArray=>x.data.toList) ∘ tA)=id:=by funext x; rfl
 rw [E,List.map_id] at A
 rw [L]
 have D:∀ (ls:List (List UInt8)) (a:List UInt8) (r:List (List UInt8)),a::r=ls++[[]]→a++(r.map λx=>10::x).flatten=(ls.map λx=>x++[10]).flatten:=by
  intro ls
  induction ls with
  | nil =>
   intro a r e
   simp only [List.nil_append,List.cons.injEq] at e
   rw [e.1,e.2]; rfl
  | cons l ls J =>
   intro a r e
   simp only [List.cons_append,List.cons.injEq] at e
   cases r with
   | nil=>have:=congrArg List.length e.2; simp at this
   | cons b r =>
    rw [e.1]
    have:=J b r e.2
    simp only [List.map_cons,List.flatten_cons,List.cons_append]
    rw [← this]
    simp
 have:=D (ls.map λx=>x.data.toList) _ _ A
 rw [this,List.map_map]
 rfl
theorem uO {s:ByteArray} (T:s.size≤1048576) (h:(XB s).2=true):ZX (XB s).1=s∧RO (XB s).1=true:=by
 obtain ⟨ls,z,L,O,U⟩:=Zx 10 s
 have E:=λx J=>Nat.le_trans (K4 (b:=10) (s:=s) (x:=x) J) T
 unfold XB at h ⊢
 rw [O,U] at h ⊢
 split at h
 · rename_i M
   rw [if_pos M]
   cases hl:Yg ls with
   | none=>rw [hl] at h; simp at h
   | some l =>
    simp only
    have Q:=kP hl
    have N:ls.length+1≤101:=by have:=M.2; rw [L] at this; simpa using this
    have A:(r8 l).fV.zip (r8 l).fE=l:=by
     unfold r8
     simp only
     exact (List.zip_of_prod rfl rfl).symm
    have D:RO (r8 l)=true:=by
     unfold RO
     rw [A]
     simp only [Bool.and_eq_true,beq_iff_eq,decide_eq_true_eq,List.all_eq_true]
     refine ⟨by simp [r8],by simp [r8]; omega,λp D=>?_⟩
     have:=Q.2 p D
     unfold gF at this
     rwa [Bool.and_eq_true] at this
    refine ⟨wz ?_,D⟩
    rw [lN D,A,nf s (ls:=ls) (by rw [L,M.1]),← jn (λx J=>E x (by rw [L]; simp [J])) hl,List.map_map]
    rfl
 · simp at h
def Tot {α:Type} (o:Option α) (Q:α→Prop):Prop:=∃ x,o=some x∧Q x
theorem Tot.mk {α:Type} {x:α} {Q:α→Prop} (h:Q x):Tot (some x) Q:=⟨x,rfl,h⟩
theorem Tot.of {α:Type} {o:Option α} {x:α} {Q:α→Prop} (e:o=some x) (h:Q x):Tot o Q:=⟨x,e,h⟩
theorem Tot.bind {α β:Type} {m:Option α} {k:α→Option β} {R:α→Prop} {Q:β→Prop} (h:Tot m R) (A:∀ x,R x→Tot (k x) Q):Tot (AA m k) Q:=by
 obtain ⟨x,rfl,D⟩:=h
 exact A x D
theorem Tot.bif {α:Type} {c:Bool} {a b:Option α} {Q:α→Prop} (D:c=true→Tot a Q) (A:c=false→Tot b Q):Tot (bif c then a else b) Q:=by
 cases c
 · exact A rfl
 · exact D rfl
theorem Tot.imp {α:Type} {o:Option α} {Q R:α→Prop} (h:Tot o Q) (hi:∀ x,Q x→R x):Tot o R:=by
 obtain ⟨x,e,A⟩:=h
 exact ⟨x,e,hi x A⟩
theorem Tot.ap {α β:Type} {A:Nat} {D ys:List α} {k:List α→Option β} {Q:β→Prop} (h:(D.length+ys.length)*A≤140737488355328) (E:Tot (k (D++ys)) Q):Tot (AA (BE A D ys) k) Q:=by
 rw [KU h]; exact E
theorem Tot.ix {α β:Type} {l:List α} {i:Int} {k:α→Option β} {Q:β→Prop} (h:0≤i∧i<l.length) (A:∀ x,x∈l→Tot (k x) Q):Tot (AA (ix l i) k) Q:=by
 have e:=W8 (l:=l) (i:=i.toNat) AC
 rw [show ((i.toNat:Nat):Int)=i by omega] at e
 rw [e]
 exact A _ (List.getElem_mem _)
theorem xE {σ β:Type} (b:Int) (L:Nat→σ→Int→Option β) (Q:β→Prop) (I:Int→σ→Prop) (T:b≤1099511627776)
    (hs:∀ n s (i:Int),0≤i→i<b→I i s→(∀ A,I (i+1) A→Tot (L n A (AK (i+1))) Q)→Tot (L (n+1) s i) Q)
    (he:∀ n s (i:Int),0≤i→b≤i→I i s→Tot (L (n+1) s i) Q):∀ (m:Nat) n s (a:Int),0≤a→(b - a).toNat=m→m<n→I a s→Tot (L n s a) Q:=by
 intro m
 induction m with
 | zero =>
  intro n s a D O M E
  obtain ⟨n,rfl⟩:∃ k,n=k+1:=⟨n - 1,AC⟩
  exact he n s a D AC E
 | succ m N =>
  intro n s a D O M E
  obtain ⟨n,rfl⟩:∃ k,n=k+1:=⟨n - 1,AC⟩
  refine hs n s a D AC E λA J=>?_
  rw [AU AC AC]
  exact N n A (a+1) AC AC AC J
def CO (b:List U8) (c:Cur):Prop:=c.fb=b∧0≤c.fi∧b.length≤1048576
theorem CO.re {b:List U8} {c A:Cur} (h:CO b c) (D:CO b A):CO b ⟨c.fb,A.fi,A.fh⟩:=⟨h.1,D.2⟩
theorem CO.re' {b:List U8} {A:Cur} (D:CO b A):CO b ⟨b,A.fi,A.fh⟩:=⟨rfl,D.2⟩
theorem so (x:Int):0≤IntKind.wrap .i64 (((BitVec.ofInt (IntKind.bits .i64) x &&& BitVec.ofInt (IntKind.bits .i64) 255).toNat:Nat):Int)∧IntKind.wrap .i64 (((BitVec.ofInt (IntKind.bits .i64) x &&& BitVec.ofInt (IntKind.bits .i64) 255).toNat:Nat):Int)≤255:=by
 have h:(BitVec.ofInt (IntKind.bits .i64) x &&& BitVec.ofInt (IntKind.bits .i64) 255).toNat≤255:=by
  rw [BitVec.toNat_and]
  have A:(BitVec.ofInt (IntKind.bits .i64) 255).toNat=255:=A1
  rw [A]
  exact Nat.and_le_right
 have e:=AU (n:=(((BitVec.ofInt (IntKind.bits .i64) x &&& BitVec.ofInt (IntKind.bits .i64) 255).toNat:Nat):Int)) AC AC
 unfold AK at e
 rw [e]
 omega
theorem bO {fu:Nat} {b:List U8} {c:Cur} (h:CO b c):Tot (JZ fu c) λx=>(0≤x.1∧x.1≤255)∧CO b x.2:=by
 obtain ⟨D,E,L⟩:=h
 unfold JZ
 refine Tot.bif (λJ=>?_) λJ=>?_
 · have A:=of_decide_eq_true J
   refine Tot.ix ⟨E,A⟩ λx _=>Tot.mk ⟨so _,D,?_,L⟩
   show 0≤AK (c.fi+1)
   rw [D] at A
   rw [AU AC AC]; omega
 · exact Tot.mk ⟨so _,D,E,L⟩
theorem CC {fu:Nat} {b:List U8} {c:Cur} (h:CO b c) (n:Int):Tot (AY fu c n) λx=>(0≤x.1∧(0<n→x.1<n))∧CO b x.2:=by
 unfold AY
 refine Tot.bif (λD=>?_) λD=>?_
 · have O:=of_decide_eq_true D
   exact Tot.mk ⟨⟨Int.le_refl _,λh=>by omega⟩,h⟩
 · have L:0<n:=by simpa using D
   refine Tot.bif (λD=>?_) λD=>?_
   · refine Tot.bind (bO h) λx A=>?_
     rw [nO AC,AB]
     exact Tot.mk ⟨⟨Int.tmod_nonneg _ A.1.1,λ_=>Int.tmod_lt_of_pos _ L⟩,h.re A.2⟩
   · refine Tot.bind (bO h) λx A=>Tot.bind (bO (h.re A.2)) λy J=>Tot.bind (bO (h.re J.2)) λz M=>Tot.bind (bO (h.re M.2)) λq N=>?_
     rw [nO AC,AB]
     obtain ⟨⟨_,_⟩,_⟩:=A
     obtain ⟨⟨_,_⟩,_⟩:=J
     obtain ⟨⟨_,_⟩,_⟩:=M
     obtain ⟨⟨_,_⟩,E⟩:=N
     refine Tot.mk ⟨⟨?_,λ_=>Int.tmod_lt_of_pos _ L⟩,h.re E⟩
     apply Int.tmod_nonneg
     simp only [AU (n:=x.1*16777216) AC AC,AU (n:=y.1*65536) AC AC,AU (n:=z.1*256) AC AC]
     rw [AU (n:=x.1*16777216+y.1*65536) AC AC,AU (n:=x.1*16777216+y.1*65536+z.1*256) AC AC,AU AC AC]
     omega
theorem aR {fu:Nat} {b:List U8} {c:Cur} (h:CO b c) (n:Int):Tot (J0 fu c n) λx=>CO b x.2:=by
 unfold J0
 exact Tot.bind (CC h n) λx A=>Tot.mk (h.re A.2)
theorem Sk {fu:Nat} {b:List U8} {c:Cur} (h:CO b c) (l:List Int) (hl:0<l.length):Tot (B9 fu c l) λx=>x.1∈l∧CO b x.2:=by
 unfold B9
 exact Tot.bind (CC h _) λx A=>Tot.ix ⟨A.1.1,A.1.2 AC⟩ λy D=>Tot.mk ⟨D,h.re A.2⟩
theorem jU {fu:Nat} {b:List U8} (E:b.length≤1048576) (M:1048577≤fu):Tot (LT fu b) (CO b):=by
 unfold LT
 refine xE (b.length:Int) (λn s i=>JJ fu b n s i) (CO b) (λ_ _=>True) AC ?_ ?_ b.length fu _ 0 AC AC AC trivial
 · intro n s i D A _ L
   simp only [JJ.eq_2]
   unfold Vb WY
   rw [AX (by simpa using A)]
   refine Tot.bif (λJ=>?_) λJ=>?_
   · exact Tot.ix ⟨D,A⟩ λx _=>L _ trivial
   · exact Tot.mk ⟨rfl,AD,E⟩
 · intro n s i D A _
   simp only [JJ.eq_2]
   unfold Vb
   rw [AM AJ]
   exact Tot.mk ⟨rfl,AD,E⟩
end Go.Proofs.YtdgpkmgnjdpieaaGreatDoor
