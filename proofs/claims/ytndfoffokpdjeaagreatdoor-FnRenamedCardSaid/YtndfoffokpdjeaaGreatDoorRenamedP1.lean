/- RenamedP: plain lemm.. -/
import Derived.Test.YtndfoffokpdjeaaGreatDoorRenamedD
import Derived.Test.YtndfoffokpdjeaaGreatDoorRenamedBP5
set_option linter.unusedSimpArgs false
set_option linter.unusedVariables false
namespace Go.Proofs.YtndfoffokpdjeaaGreatDoor
open Go
open Enc (rd ow)
open Arg (argv)
open Ret (retv)
open Wf (wf)
theorem Q6p {r:Request} (h1:Qx8 r=true) (h2:Q2w r=true) (h3:Q9u r.fT r.fU=true) (h4:∀ x∈r.fV,Qub x (Qsv r)=true) (h5:∀ t∈r.fG,Q39 r.fJ t=false):Qgq r=0:=by
 have e4:(r.fV.all λx=>Qub x (Qsv r))=true:=List.all_eq_true.2 h4
 have e5:r.fG.any (Q39 r.fJ)=false:=List.any_eq_false.2 λt ht=>by simp [h5 t ht]
 unfold Qgq
 rw [h1,h2,h3,e4,e5]; rfl
theorem Q6f {r:Request} (h:Qx8 r=true):inb r.fO 0 1=true∧Qtn r.fJ=true∧inb r.fU 1 4=true∧r.fT.length≤16∧(∀ p∈r.fT,prB p=true)∧r.fG.length≤5∧inb r.fR 0 999=true:=by
 simp only [Qx8,Bool.and_eq_true,List.all_eq_true,decide_eq_true_eq] at h
 obtain ⟨⟨⟨⟨⟨⟨⟨⟨⟨a1,a2⟩,a3⟩,a4⟩,a5⟩,a6⟩,a7⟩,a8⟩,a9⟩,_⟩:=h
 have:=Qcd.1 a6
 exact ⟨a1,a2,a3,a4,a5,by omega,a8⟩
theorem nOk {n a b:Int} (h:inb n a b=true) (ha:0≤a) (hb:b≤999999):inb n 0 999999=true:=by
 have:=Qcd.1 h
 exact Qcd.2 (by omega)
theorem Q7p {r:Request} (h:Qx8 r=true):∀ p∈Qqq r,Qid p.2=true:=by
 obtain ⟨a1,a2,a3,a4,a5,a6,a7⟩:=Q6f h
 have ht:=Qsa h
 have hi:=(Qof h).1
 intro p hp
 unfold Qqq at hp
 simp only [List.mem_append,List.mem_cons,List.not_mem_nil,or_false,List.mem_map] at hp
 rcases hp with (rfl | rfl) | ⟨q,hq,rfl⟩ | ⟨t,htm,rfl⟩ | rfl | ⟨x,hx,rfl⟩
 · unfold Qtn at a2
   simp only [Bool.and_eq_true] at a2
   obtain ⟨b1,b2,b3,b4⟩:=a2
   simp only [Qid,Q5t,List.all_cons,List.all_nil,Bool.and_eq_true,Bool.and_true]
   exact ⟨nOk b1 (by omega) (by omega),nOk b2 (by omega) (by omega),nOk b3 (by omega) (by omega),nOk b4 (by omega) (by omega)⟩
 · simp only [Qid,List.all_cons,List.all_nil,Bool.and_true]
   exact nOk a3 (by omega) (by omega)
 · have:=a5 q hq
   unfold prB at this
   simp only [Bool.and_eq_true] at this
   simp only [Qid,List.all_cons,List.all_nil,Bool.and_eq_true,Bool.and_true]
   exact ⟨nOk this.1 (by omega) (by omega),nOk this.2 (by omega) (by omega)⟩
 · have:=ht t htm
   unfold Qxs at this
   simp only [Bool.and_eq_true] at this
   obtain ⟨b1,b2,b3,b4,b5,b6,b7⟩:=this
   simp only [Qid,Qy5,List.all_cons,List.all_nil,Bool.and_eq_true,Bool.and_true]
   exact ⟨nOk b1 (by omega) (by omega),nOk b2 (by omega) (by omega),nOk b3 (by omega) (by omega),nOk b4 (by omega) (by omega),nOk b5 (by omega) (by omega),nOk b6 (by omega) (by omega),nOk b7 (by omega) (by omega)⟩
 · simp only [Qid,List.all_cons,List.all_nil,Bool.and_true]
   exact nOk a7 (by omega) (by omega)
 · have:=hi x hx
   unfold Quf at this
   simp only [Bool.and_eq_true] at this
   obtain ⟨b1,b2,b3,b4,b5,b6,b7⟩:=this
   simp only [Qid,Qvp,List.all_cons,List.all_nil,Bool.and_eq_true,Bool.and_true]
   exact ⟨nOk b1 (by omega) (by omega),nOk b2 (by omega) (by omega),nOk b3 (by omega) (by omega),nOk b4 (by omega) (by omega),nOk b5 (by omega) (by omega),nOk b6 (by omega) (by omega),nOk b7 (by omega) (by omega)⟩
theorem Q9h {q:Request} (h:Qgq q=0):Qel 2097153 q=some (Q6c q)∧Qkx 2097153 (Q6c q)=some (Jin (Qx9 q).1,0):=by
 have hb:=(Qec h).1
 obtain ⟨a1,_,_,a4,_,a6,_⟩:=Q6f hb
 have hi:=(Qof hb).2.2
 have hr:=Je3 a1 (Q7p hb) (by omega)
 have hl:=Jat (r:=q) (by omega) (by omega) (by omega)
 have hz:=Q4q (Qqq q) (Q8t q.fO) hl.2
 have hw:(Q8t q.fO).size≤20:=by unfold Q8t; split <;> decide
 have hs:(Q6c q).size≤1048576:=by
  unfold Q6c
  rw [a1,cond_true]
  omega
 refine ⟨Jiw a1 (Q7p hb) (by omega),?_⟩
 rw [Jjk hs]
 have hc:Jcz (Q6c q)=0:=by
  unfold Jcz
  rw [hr]
  exact h
 unfold Jj9
 rw [hc,hr]; rfl
def idF:Int→List Item→List Item
 | _,[]=>[]
 | i,x::xs=>⟨900 - 7*i,x.fW,x.fH,x.fD,x.fQ,x.fL,x.fM⟩::idF (i+1) xs
theorem Q26:∀ (l:List Item) (i:Int),(idF i l).length=l.length
 | [],_=>rfl
 | x::l,i=>by rw [idF,List.length_cons,List.length_cons,Q26 l]
theorem Jc1:∀ (l:List Item) (i:Int),(idF i l).map itN=l.map itN
 | [],_=>rfl
 | x::l,i=>by rw [idF,List.map_cons,List.map_cons,Jc1 l]; rfl
theorem Q3i:∀ {l:List Item} {i:Int} {y:Item},y∈idF i l→∃ x∈l,itN y=itN x∧900 - 7*(i+l.length)<y.f0∧y.f0≤900 - 7*i
 | [],_,_,h=>by simp [idF] at h
 | x::l,i,y,h=>by
  rw [idF] at h
  simp only [List.length_cons]
  rcases List.mem_cons.1 h with rfl | h
  · exact ⟨x,by simp,rfl,by simp only; omega,by simp only; omega⟩
  · obtain ⟨z,hz,h1,h2,h3⟩:=Q3i h
    exact ⟨z,by simp [hz],h1,by omega,by omega⟩
theorem Q7f (c:Int):∀ (l:List Item) (i:Int) (pre:List Item),(∀ x∈l,decide (x.fL≥c)=false)→(∀ y∈pre,900 - 7*i<y.f0)→Q4a c pre (idF i l)=true
 | [],_,_,_,_=>rfl
 | x::l,i,pre,h,hp=>by
  rw [idF,Q4a]
  have h1:=h x (by simp)
  have h2:(pre.any λy=>y.f0==900 - 7*i)=false:=List.any_eq_false.2 λy hy=>by
   have:=hp y hy
   simp only [beq_iff_eq]
   omega
  have h3:=Q7f c l (i+1) (pre++[⟨900 - 7*i,x.fW,x.fH,x.fD,x.fQ,x.fL,x.fM⟩]) (λy hy=>h y (by simp [hy])) λy hy=>by
   rcases List.mem_append.1 hy with hy | hy
   · have:=hp y hy; omega
   · rw [List.mem_singleton.1 hy]
     show 900 - 7*(i+1)<900 - 7*i
     omega
  simp only [h1,h2,h3,Bool.not_false,Bool.and_self]
theorem Q4e {c:Int}:∀ {l pre:List Item},Q4a c pre l=true→∀ x∈l,decide (x.fL≥c)=false
 | [],_,_,x,hx=>by simp at hx
 | y::l,pre,h,x,hx=>by
  rw [Q4a] at h
  simp only [Bool.and_eq_true,Bool.not_eq_true'] at h
  rcases List.mem_cons.1 hx with rfl | hx
  · exact h.1.1
  · exact Q4e h.2 x hx
def qId (r:Request):Request:=⟨r.fO,r.fJ,r.fU,r.fT,r.fG,r.fR,idF 0 r.fV⟩
theorem Q82 {r:Request} (h:Qgq r=0):Qgq (qId r)=0:=by
 obtain ⟨h1,h2,h3,h4,h5⟩:=Qec h
 have hi:=Qof h1
 have em:Qsv (qId r)=Qsv r:=rfl
 have ei:∀ y∈idF 0 r.fV,Quf y=true:=λy hy=>by
  obtain ⟨x,hx,e,a1,a2⟩:=Q3i hy
  have:=hi.1 x hx
  unfold Quf at this ⊢
  simp only [Bool.and_eq_true] at this ⊢
  obtain ⟨_,b2,b3,b4,b5,b6,b7⟩:=this
  have c2:y.fW=x.fW:=show (itN y).fW=(itN x).fW by rw [e]
  have c3:y.fH=x.fH:=show (itN y).fH=(itN x).fH by rw [e]
  have c4:y.fD=x.fD:=show (itN y).fD=(itN x).fD by rw [e]
  have c5:y.fQ=x.fQ:=show (itN y).fQ=(itN x).fQ by rw [e]
  have c6:y.fL=x.fL:=show (itN y).fL=(itN x).fL by rw [e]
  have c7:y.fM=x.fM:=show (itN y).fM=(itN x).fM by rw [e]
  rw [c2,c3,c4,c5,c6,c7]
  exact ⟨Qcd.2 (by omega),b2,b3,b4,b5,b6,b7⟩
 have ec:(idF 0 r.fV).map (·.fM)=r.fV.map (·.fM):=by
  have:=congrArg (List.map (·.fM)) (Jc1 r.fV 0)
  rw [List.map_map,List.map_map] at this
  exact this
 refine Q6p ?_ ?_ h3 ?_ h5
 · unfold Qx8 at h1 ⊢
   simp only [Bool.and_eq_true,List.all_eq_true,decide_eq_true_eq] at h1 ⊢
   show (_∧(idF 0 r.fV).length≤8)∧(∀ x∈idF 0 r.fV,Quf x=true)∧Qvo ((idF 0 r.fV).map (·.fM))≤12
   rw [Q26,ec]
   exact ⟨h1.1,ei,h1.2.2⟩
 · unfold Q2w at h2 ⊢
   simp only [Bool.and_eq_true] at h2 ⊢
   exact ⟨⟨⟨h2.1.1.1,Q7f _ _ _ _ (Q4e h2.1.1.2) (by simp)⟩,h2.1.2⟩,h2.2⟩
 · intro y hy
   obtain ⟨x,hx,e,_,_⟩:=Q3i hy
   have c:∀ z t,Qub z t=Qub (itN z) t:=λ_ _=>rfl
   rw [em,c,e,← c]
   exact h4 x hx
theorem Jek {r:Request} (h:Qgq r=0):Ren 0 r (qId r):=by
 refine ⟨rfl,rfl,rfl,rfl,rfl,?_,Jc1 _ _,h,Q82 h⟩
 have e:shT 0=id:=by
  funext t
  unfold shT
  rw [Int.add_zero]; rfl
 rw [e,List.map_id]; rfl
def qUp (r:Request):Request:=⟨r.fO,r.fJ,r.fU,r.fT,r.fG.map (shT 1),r.fR,r.fV⟩
theorem Q7g (n:Int):∀ (l pre:List Typ),Q2g Typ.f0 (pre.map (shT n)) (l.map (shT n))=Q2g Typ.f0 pre l
 | [],_=>rfl
 | t::l,pre=>by
  have ih:=Q7g n l (pre++[t])
  rw [List.map_append,List.map_cons,List.map_nil] at ih
  rw [List.map_cons,Q2g,Q2g,ih,List.any_map]
  rfl
theorem Jbj (r:Request) (id:Int):Qrc (qUp r) id=(Qrc r id).map (shT 1):=by
 unfold Qrc qUp
 simp only
 rw [List.find?_map]
 rfl
theorem Q87 {r:Request} (h:Qgq r=0) (hc:CT r.fG):Qgq (qUp r)=0:=by
 obtain ⟨h1,h2,h3,h4,h5⟩:=Qec h
 have ht:=Qsa h1
 have et:∀ t∈r.fG.map (shT 1),Qxs t=true:=λt htm=>by
  obtain ⟨x,hx,rfl⟩:=List.mem_map.1 htm
  have:=ht x hx
  have hcx:=hc x hx
  unfold Qxs at this ⊢
  simp only [Bool.and_eq_true] at this ⊢
  obtain ⟨b1,b2,b3,b4,b5,b6,b7⟩:=this
  have:=Qcd.1 b7
  exact ⟨b1,b2,b3,b4,b5,b6,Qcd.2 (by show 0≤x.fE+1∧x.fE+1≤100000; omega)⟩
 have hn:=h2
 unfold Q2w at hn
 simp only [Bool.and_eq_true] at hn
 have em:Qsv (qUp r)=shT 1 (Qsv r):=by
  unfold Qsv
  rw [Jbj]
  have hs:=hn.1.2
  show (Qwc ((Qrc r r.fR).map (shT 1))).1=_
  cases e:Qrc r r.fR with
  | none=>rw [e] at hs; simp at hs
  | some t=>rfl
 refine Q6p ?_ ?_ h3 ?_ ?_
 · unfold Qx8 at h1 ⊢
   simp only [Bool.and_eq_true,List.all_eq_true,decide_eq_true_eq] at h1 ⊢
   obtain ⟨⟨⟨⟨⟨⟨⟨⟨⟨a1,a2⟩,a3⟩,a4⟩,a5⟩,a6⟩,a7⟩,a8⟩,a9⟩,a10⟩:=h1
   refine ⟨⟨⟨⟨⟨⟨⟨⟨⟨a1,a2⟩,a3⟩,a4⟩,a5⟩,?_⟩,et⟩,a8⟩,a9⟩,a10⟩
   show inb (((r.fG.map (shT 1)).length:Nat):Int) 1 5=true
   rw [List.length_map]; exact a6
 · unfold Q2w
   simp only [Bool.and_eq_true]
   refine ⟨⟨⟨?_,hn.1.1.2⟩,?_⟩,hn.2⟩
   · have:=Q7g 1 r.fG []
     rw [List.map_nil] at this
     show Q2g Typ.f0 [] (r.fG.map (shT 1))=true
     rw [this]; exact hn.1.1.1
   · rw [Jbj]
     show ((Qrc r r.fR).map (shT 1)).isSome=true
     rw [Option.isSome_map]; exact hn.1.2
 · intro x hx
   rw [em]
   exact h4 x hx
 · intro t htm
   obtain ⟨x,hx,rfl⟩:=List.mem_map.1 htm
   exact h5 x hx
theorem Jd1 {r:Request} (h:Qgq r=0) (hc:CT r.fG):Ren 1 r (qUp r):=⟨rfl,rfl,rfl,rfl,rfl,rfl,rfl,h,Q87 h hc⟩
theorem Jbv {r:Request} {x34:Plan×Bool} {f:List Item} (hc:∀ t∈r.fG,0≤t.fE∧t.fE≤1000):∀ (rest pre:List Typ) (k:Nat),pre.length+rest.length≤1000→rest.length<k→(∀ t∈rest,0≤t.fE∧t.fE≤1000) →
    Qdw 2097153 r x34 f k (pre++rest) (pre.length:Int)=Qdw 2097153 r x34 f (k - rest.length) (pre++rest.map (shT 1)) ((pre.length+rest.length:Nat):Int)
 | [],pre,k,hl,hk,_=>by simp
 | t::rest,pre,k,hl,hk,ht=>by
  obtain ⟨k,rfl⟩:∃ j,k=j+1:=⟨k - 1,by omega⟩
  simp only [List.length_cons] at hl hk
  have hx:ix (pre++t::rest) (pre.length:Int)=some t:=by rw [Qlf]; simp
  have h1:=ht t (by simp)
  rw [Qdw.eq_2]
  unfold Qic
  rw [Qa2 (by simp; omega),hx,Qaa,Qaa,Qay (n:=t.fE+1) (by omega) (by omega),Qay (by omega) (by omega)]
  have e:Qim (pre++t::rest) (pre.length:Int) ({ t with fE:=t.fE+1 })=(pre++[shT 1 t])++rest:=by
   unfold Qim
   rw [Int.toNat_natCast]
   simp [shT]
  rw [e,show ((pre.length:Int)+1)=(((pre++[shT 1 t]).length:Nat):Int) by simp,Jbv hc rest (pre++[shT 1 t]) k (by simp; omega) (by omega) λy hy=>ht y (by simp [hy])]
  simp only [List.length_append,List.length_singleton,List.length_cons,List.length_nil,List.map_cons,List.append_assoc,List.singleton_append,Nat.zero_add]
  rw [show k+1 - (rest.length+1)=k - rest.length by omega,show pre.length+1+rest.length=pre.length+(rest.length+1) by omega]
theorem Jce {r:Request} {x34:Plan×Bool}:∀ (rest pre:List Item) (k:Nat),pre.length+rest.length≤1000→rest.length<k →
    Qdy 2097153 r x34 k (pre++rest) (pre.length:Int)=Qdy 2097153 r x34 (k - rest.length) (pre++idF pre.length rest) ((pre.length+rest.length:Nat):Int)
 | [],pre,k,hl,hk=>by simp [idF]
 | t::rest,pre,k,hl,hk=>by
  obtain ⟨k,rfl⟩:∃ j,k=j+1:=⟨k - 1,by omega⟩
  simp only [List.length_cons] at hl hk
  have hx:ix (pre++t::rest) (pre.length:Int)=some t:=by rw [Qlf]; simp
  rw [Qdy.eq_2]
  unfold Qia
  rw [Qa2 (by simp; omega),hx,Qaa,Qay (n:=7*(pre.length:Int)) (by omega) (by omega),Qay (n:=900 - _) (by omega) (by omega),Qay (by omega) (by omega)]
  have e:Qim (pre++t::rest) (pre.length:Int) ({ t with f0:=900 - 7*(pre.length:Int) })=(pre++[⟨900 - 7*(pre.length:Int),t.fW,t.fH,t.fD,t.fQ,t.fL,t.fM⟩])++rest:=by
   unfold Qim
   rw [Int.toNat_natCast]
   simp
  rw [e,show ((pre.length:Int)+1)=(((pre++[(⟨900 - 7*(pre.length:Int),t.fW,t.fH,t.fD,t.fQ,t.fL,t.fM⟩:Item)]).length:Nat):Int) by simp,Jce rest _ k (by simp; omega) (by omega)]
  simp only [List.length_append,List.length_singleton,List.length_cons,List.length_nil,List.append_assoc,List.singleton_append,Nat.zero_add]
  rw [show k+1 - (rest.length+1)=k - rest.length by omega,show pre.length+1+rest.length=pre.length+(rest.length+1) by omega,idF]
  rw [show (((pre.length+1:Nat):Int))=(pre.length:Int)+1 by omega]
theorem Qzf (b:List U8) (_:wf b):∃ fu,Qpi fu b=some true:=by
 refine ⟨2097153,?_⟩
 unfold Qpi
 rw [Jiu,Qaa]
 by_cases hb:(b.length:Int)>1048576
 · rw [Qa2 (by simpa using hb)]
 rw [Qah (by simpa using hb)]
 obtain ⟨r,hy,hr,hct⟩:=Q85 (fu:=2097153) (b:=b) (by omega) (by omega)
 have hs:=hr.sm (fu:=2097153) (by omega)
 unfold Qnd
 rw [hy,Qaa,Qaa,Jbh hs,Qaa,Jg8 hs,Qaa,Qah (by simp)]
 by_cases hc:Qgq r=0
 rotate_left
 · have e:Qx9 r=(⟨[],[]⟩,false):=by
     unfold Qx9
     rw [show (Qgq r==0)=false by simpa using hc]; rfl
   rw [e]; rfl
 have e1:(Qx9 r).2=true:=by
  unfold Qx9
  rw [show (Qgq r==0)=true by simpa using hc]; rfl
 have h3:=hr.2.2
 have h2:=hr.2.1
 rw [e1,Bool.not_true,cond_false,ap1 (by simp; omega),Qaa,List.nil_append]
 have hcost:∀ t∈r.fG,0≤t.fE∧t.fE≤1000:=λt ht=>by
  have:=Qsa (Qec hc).1 t ht
  unfold Qxs at this
  simp only [Bool.and_eq_true] at this
  have h7:=Qcd.1 this.2.2.2.2.2.2
  exact ⟨h7.1,hct t ht⟩
 have hL2:=Jce (r:=r) (x34:=Qx9 r) r.fV [] 2097153 (by simp; omega) (by omega)
 rw [List.nil_append,show ((([]:List Item).length:Nat):Int)=0 from rfl] at hL2
 rw [hL2]
 obtain ⟨k,hk⟩:∃ j,2097153 - r.fV.length=j+1:=⟨2097153 - r.fV.length - 1,by omega⟩
 rw [hk,Qdy.eq_2]
 unfold Qia
 rw [Qah (by simp [Q26]),ap1 (by simp; omega),Qaa,List.nil_append]
 have hL1:=Jbv (r:=r) (x34:=Qx9 r) (f:=[]++idF 0 r.fV) hcost r.fG [] 2097153 (by simp; omega) (by omega) hcost
 rw [List.nil_append,List.nil_append,show ((([]:List Typ).length:Nat):Int)=0 from rfl] at hL1
 rw [List.nil_append,hL1]
 obtain ⟨j,hj⟩:∃ j,2097153 - r.fG.length=j+1:=⟨2097153 - r.fG.length - 1,by omega⟩
 rw [hj,Qdw.eq_2]
 unfold Qic
 obtain ⟨p1,p2⟩:=Q9h (Q82 hc)
 obtain ⟨p3,p4⟩:=Q9h (Q87 hc hct)
 rw [Q6a (Jek hc)] at p2
 rw [Q6a (Jd1 hc hct)] at p4
 rw [Qah (by simp)]
 show (Qab (Qel 2097153 (qId r)) λx191=>Qab (Qkx 2097153 x191) λx195=>Qab (Qel 2097153 (qUp r)) λx199=>Qab (Qkx 2097153 x199) λx203=>bif (x195.2==0) then bif (x203.2==0) then Qab (Qhf 2097153 (Qx9 r).1) λx209=>bif (x195.1.toList==x209.toList) then some (x203.1.toList==x195.1.toList) else some (false) else some (false) else some (false))=some true
 rw [p1,Qaa,p2,Qaa,p3,Qaa,p4,Qaa]
 simp only
 rw [Qa2 (by decide),Qa2 (by decide),Jb6 (Jbs r) (by omega),Qaa,Qa2 (by simp)]
 simp
end Go.Proofs.YtndfoffokpdjeaaGreatDoor
