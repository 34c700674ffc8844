/- TopBP: plain lemmas,.. -/
import Derived.Test.YtdgpkmgnjdpieaaGreatDoorTopBP6
set_option linter.unusedSimpArgs false
set_option linter.unusedVariables false
namespace Go.Proofs.YtdgpkmgnjdpieaaGreatDoor
open Go
open Enc (rd ow)
open Arg (argv)
open Ret (retv)
open Wf (wf)
def Gc (r:Request) (c:List Int):Prop:=c≠[]∧XS r c (Vn r)=true∧cq r c=true
theorem rC {r:Request} {u:Int} (h:0≤u∧u<(CP r).length):KQ r.fT (j8 r u) (j8 r u)=true:=by
 have Q:=g8 h
 have L:=D2 Q
 have M:=aJ h
 have J:=L.2.2.1
 have E:=L.2.1
 have N:(LL r u).fO<r.fR:=by
  unfold du at E
  simp only [Bool.and_eq_true] at E
  have D:∀ (l pre:List Item),dq r.fR pre l=true→∀ x∈l,x.fO<r.fR:=by
   intro l
   induction l with
   | nil=>intro _ _ x A; simp at A
   | cons y l O =>
    intro pre h x A
    simp only [dq,Bool.and_eq_true,Bool.not_eq_true',decide_eq_false_iff_not] at h
    rcases List.mem_cons.1 A with rfl | A
    · omega
    · exact O _ h.2 x A
  exact D r.fU [] E.1.1.2 _ M
 have hi:=(PY L.1).1 _ M
 simp only [VP,Bool.and_eq_true,BS] at hi
 unfold i8 at J
 simp only [Bool.and_eq_true] at J
 have:=List.all_eq_true.1 J.2 (LL r u).fO (CE.2 ⟨AC,AC⟩)
 simp only [Bool.and_eq_true] at this
 exact this.1
theorem tS (r:Request):∀ g∈CD r,∀ x∈g,∀ y∈g,x≠y→VU r.fT x y=true:=by
 have N:∀ (l:List Int) (out:List (List Int)),(∀ g∈out,∀ x∈g,∀ y∈g,x≠y→VU r.fT x y=true)→∀ g∈l.foldl (ZT r.fT) out,∀ x∈g,∀ y∈g,x≠y→VU r.fT x y=true:=by
  intro l
  induction l with
  | nil=>intro out h; exact h
  | cons c l O =>
   intro out h
   rw [List.foldl_cons]
   refine O _ ?_
   unfold ZT
   cases Q:TO (λg=>g.all (VU r.fT c)) out with
   | some k =>
    obtain ⟨T,M,D⟩:=Xl Q
    have D:=List.all_eq_true.1 D
    have U:=List.mem_of_getElem? M
    simp only [M,Option.getD_some]
    intro g L x J y E A
    rcases List.mem_or_eq_of_mem_set L with L | rfl
    · exact h g L x J y E A
    · rcases List.mem_append.1 J with J | J <;> rcases List.mem_append.1 E with E | E
      · exact h T U x J y E A
      · rw [List.mem_singleton.1 E,qw]; exact D x J
      · rw [List.mem_singleton.1 J]; exact D y E
      · rw [List.mem_singleton.1 J,List.mem_singleton.1 E] at A; exact absurd rfl A
   | none =>
    intro g L x J y E A
    rcases List.mem_append.1 L with L | L
    · exact h g L x J y E A
    · rw [List.mem_singleton.1 L] at J E
      rw [List.mem_singleton.1 J,List.mem_singleton.1 E] at A; exact absurd rfl A
 exact N (Xs r) [] AD
theorem XX {r:Request} {k u:Int} (h:u∈QZ r k):(0≤u∧u<(CP r).length)∧∃ g,ix (CD r) k=some g∧j8 r u∈g:=by
 unfold QZ at h
 cases D:ix (CD r) k with
 | none=>rw [D] at h; simp at h
 | some g =>
  rw [D] at h
  obtain ⟨j,i,x,A,E,M,L⟩:=(kM r g (CP r) 0 u).1 h
  have O:=(List.getElem?_eq_some_iff.1 A).1
  have J:0≤u∧u<(CP r).length:=AC
  refine ⟨J,g,rfl,?_⟩
  have N:XO r u=some x:=by
   unfold XO
   rw [E,Int.zero_add,EG,A,AB,M]
  unfold j8 LL
  rw [N]
  simpa using L
theorem kU (r:Request) (k:Int):OI r (QZ r k)=QZ r k:=by
 unfold OI
 refine List.filter_eq_self.2 λu A=>?_
 have:=(XX A).1
 rw [BS]; omega
theorem th {r:Request} {k:Int} {l:List Int} (h:∀ u∈l,u∈QZ r k):cq r l=true:=by
 unfold cq
 refine List.all_eq_true.2 λx N=>List.all_eq_true.2 λy M=>?_
 obtain ⟨J,g,L,D⟩:=XX (h x N)
 obtain ⟨_,_,A,E⟩:=XX (h y M)
 rw [L] at A
 cases A
 by_cases e:j8 r x=j8 r y
 · rw [← e]; exact rC J
 · have:=tS r g (DA L) _ D _ E e
   unfold VU at this
   rw [Bool.and_eq_true] at this
   exact this.1
theorem qU {r:Request} {a b:List Int} (h:a.Perm b) (D:cq r b=true):cq r a=true:=by
 unfold cq at *
 exact List.all_eq_true.2 λx E=>List.all_eq_true.2 λy A=>List.all_eq_true.1 (List.all_eq_true.1 D x (h.mem_iff.1 E)) y (h.mem_iff.1 A)
theorem xx {r:Request} {c:Carton} (h:c∈O1 r):Gc r c.fK∧(0≤c.fF∧c.fF<(CD r).length)∧∀ u∈c.fK,u∈QZ r c.fF:=by
 obtain ⟨k,L,l,hl,rfl⟩:=Zh.1 h
 have N:=CE.1 L
 obtain ⟨J,A,M⟩:=rK l hl
 rw [kU] at A
 have D:=VE l
 refine ⟨⟨λe=>J ?_,?_,?_⟩,by simp only [ai]; omega,λu E=>A u (D.mem_iff.1 E)⟩
 · have:(cf l).length=0:=by rw [show cf l=[] from e]; rfl
   rw [ml] at this
   exact List.eq_nil_of_length_eq_zero this
 · show XS r (cf l) (Vn r)=true
   rw [l4 D]; exact M
 · exact qU D (th A)
theorem sP (r:Request) (g:List Int):∀ (us:List Int) (u:Int),(b7 r g u us).Pairwise (·<·)∧∀ x∈b7 r g u us,u≤x
 | [],_=>by simp [b7]
 | i::us,u=>by
  obtain ⟨L,D⟩:=sP r g us (u+1)
  have J:(b7 r g (u+1) us).Pairwise (·<·)∧∀ x∈b7 r g (u+1) us,u≤x:=⟨L,λx A=>by have:=D x A; omega⟩
  have E:(u::b7 r g (u+1) us).Pairwise (·<·)∧∀ x∈u::b7 r g (u+1) us,u≤x:=by
   refine ⟨List.pairwise_cons.2 ⟨λx A=>by have:=D x A; omega,L⟩,λx A=>?_⟩
   rcases List.mem_cons.1 A with rfl | A
   · omega
   · have:=D x A; omega
  rw [b7]
  cases ix r.fU i with
  | none=>exact J
  | some x =>
   simp only
   cases g.contains x.fO
   · exact J
   · exact E
theorem jE (r:Request) (k:Int):(QZ r k).Nodup:=by
 unfold QZ
 split
 · exact ((sP r _ (CP r) 0).1).imp λh=>by omega
 · simp
theorem jA (r:Request):∀ (ks:List Int),((WI r ks).map (·.fK)).flatten.Perm (ks.map (QZ r)).flatten
 | []=>by simp [WI]
 | k::ks=>by
  have J:=jA r ks
  have E:((Yb r k).map (·.fK)).flatten.Perm (QZ r k):=by
   have D:=nP r (QZ r k)
   rw [kU] at D
   refine List.Perm.trans ?_ D
   unfold Yb
   generalize ja r (QZ r k)=L
   induction L with
   | nil=>simp
   | cons l L A=>simp only [List.map_cons,List.flatten_cons]; exact (VE l).append A
  rw [WI,List.map_append,List.flatten_append,List.map_cons,List.flatten_cons]
  exact E.append J
theorem u3 (r:Request):((BW 0 (CD r).length).map (QZ r)).flatten.Perm (BW 0 (CP r).length):=by
 refine (List.perm_ext_iff_of_nodup ?_ (OA _ _)).2 λu=>?_
 · refine List.pairwise_flatten.2 ⟨λl hl=>?_,?_⟩
   · obtain ⟨k,_,rfl⟩:=List.mem_map.1 hl
     exact jE r k
   · refine List.pairwise_map.2 ((W7 0 (CD r).length).imp_of_mem fun {a b} T U Q=>?_)
     intro x O y N e
     subst e
     obtain ⟨_,g,D,J⟩:=XX O
     obtain ⟨_,_,A,L⟩:=XX N
     have:=cV (AG D).2.2 (AG A).2.2 J L
     have V:=(AG D).1
     have Y:=(AG A).1
     omega
 · constructor
   · intro h
     obtain ⟨l,hl,M⟩:=List.mem_flatten.1 h
     obtain ⟨k,_,rfl⟩:=List.mem_map.1 hl
     have:=(XX M).1
     exact CE.2 AC
   · intro h
     have M:=CE.1 h
     have hi:=XW (r:=r) (u:=u) AC
     obtain ⟨i,g,D,E,_⟩:=n5 (oV hi)
     refine List.mem_flatten.2 ⟨QZ r i,List.mem_map.2 ⟨i,CE.2 ⟨AC,by have:=(List.getElem?_eq_some_iff.1 D).1; omega⟩,rfl⟩,?_⟩
     have A:ix (CD r) (i:Int)=some g:=by rw [EG,D]
     have:=tV A u
     unfold zT at this
     rw [hi] at this
     have e:g.contains (LL r u).fO=true:=by simpa using E
     simp only [e] at this
     simpa using this
structure FeaI (r:Request) (x:Plan):Prop where
 c:CA r=0
 pok:RO x=true
 emp:l2 x=false
 once:df r x=true
 ch:x.fV.all (iZ r)=true
 cg:x.fV.all (m0 r)=true
 cc:x.fV.all (mI r)=true
 ins:(cs x).all (iM r)=true
 apr:aQ r [] (cs x)=true
 pl:(BW 0 (TN x.fE).toNat).all (lW r x)=true
theorem ud {r:Request} {x:Plan}:p2 r x=true↔FeaI r x:=by
 unfold p2 dv
 constructor
 · intro h
   have e:∀ (b:Bool) (n:Int) (m:Int),n≠0→((bif b then n else m)==0)=true→b=false∧(m==0)=true:=by
    intro b n m V J
    cases b
    · exact ⟨rfl,J⟩
    · simp at J; exact absurd J V
   obtain ⟨M,h⟩:=e _ _ _ A1 h
   obtain ⟨N,h⟩:=e _ _ _ A1 h
   obtain ⟨U,h⟩:=e _ _ _ A1 h
   obtain ⟨D,h⟩:=e _ _ _ A1 h
   obtain ⟨O,h⟩:=e _ _ _ A1 h
   obtain ⟨L,h⟩:=e _ _ _ A1 h
   obtain ⟨T,h⟩:=e _ _ _ A1 h
   obtain ⟨Q,h⟩:=e _ _ _ A1 h
   obtain ⟨E,h⟩:=e _ _ _ A1 h
   obtain ⟨A,h⟩:=e _ _ _ A1 h
   exact ⟨by simpa using M,by simpa using N,U,by simpa using D,by simpa using O,by simpa using L,by simpa using T,by simpa using Q,by simpa using E,by simpa using A⟩
 · rintro ⟨M,N,U,D,O,L,T,Q,E,A⟩
   rw [M,N,U,D,O,L,T,Q,E,A]; rfl
theorem pw {r:Request}:∀ (l pre:List (Carton×Spot)),(pre++l).Pairwise (λa c=>wc r c a=false)→aQ r pre l=true
 | [],_,_=>rfl
 | p::l,pre,h=>by
  unfold aQ
  rw [Bool.and_eq_true]
  refine ⟨List.all_eq_true.2 λq A=>?_,pw l (pre++[p]) (by simpa using h)⟩
  rw [(List.pairwise_append.1 h).2.2 q A p AD]; rfl
def p0 (n:Int) (t:Spot):Spot:=⟨t.fJ+n,t.fX,t.fY,t.fZ⟩
structure Acc (r:Request) (C:List Carton) (S:List Spot) (n:Int):Prop where
 len:S.length=C.length
 ins:∀ q∈C.zip S,(0≤q.2.fJ∧q.2.fJ<n)∧(0≤q.2.fX∧q.2.fX+(H5 r q.1).fW≤r.fJ.fW)∧(0≤q.2.fY∧q.2.fY+(H5 r q.1).fD≤r.fJ.fD)∧(0≤q.2.fZ∧q.2.fZ+(H5 r q.1).fH≤r.fJ.fH)
 apr:(C.zip S).Pairwise λa c=>Apt (H5 r a.1) a.2 (H5 r c.1) c.2
 occ:∀ k,0≤k→k<n→∃ q∈C.zip S,q.2.fJ=k
 grp:∀ a∈C.zip S,∀ c∈C.zip S,a.2.fJ=c.2.fJ→a.1.fF=c.1.fF
 grm:∀ k,IM (((C.zip S).filter λq=>q.2.fJ==k).map λq=>(H5 r q.1).fQ)≤r.fJ.fQ
 nn:0≤n∧n≤C.length
theorem uD {r:Request} (A:CA r=0):Acc r [] [] 0:=by
 have D:QH r.fJ=true:=by
  have:=(D2 A).1
  unfold YX at this
  simp only [Bool.and_eq_true] at this
  simp_all
 have:=WJ D
 exact ⟨rfl,AD,AD,λk _ _=>by omega,AD,λk=>by simp; omega,AD⟩
theorem sY {r:Request} (hc:CA r=0) {C:List Carton} {S:List Spot} {n:Int} (A:Acc r C S n) {k:Int} (hk:0≤k∧k<(CD r).length):Acc r (C++Yb r k) (S++(ag r.fJ (Vi r k)).map (p0 n)) (n+TN (ag r.fJ (Vi r k))):=by
 have g:=xd (gD hc hk)
 have Aa:=uz g (by have:=kn r k; omega)
 rw [Aa]
 generalize ((jg r.fJ (bc r.fJ (YJ r.fJ (Vi r k)))).length:Int)=N at g
 rw [b4 hk] at g
 generalize hT:ag r.fJ (Vi r k)=T
 rw [show ag r.fJ ((Yb r k).map (H5 r))=T by rw [← b4 hk,hT]] at g
 have hD:∀ c∈Yb r k,c.fF=k:=λc hc=>by
  unfold Yb at hc
  obtain ⟨l,_,rfl⟩:=List.mem_map.1 hc
  rfl
 generalize Yb r k=D at g hD
 have Q:T.length=D.length:=by have:=g.len; simpa using this
 have hN:=g.nn
 rw [List.length_map] at hN
 have hA:=A.nn
 have Z:(C++D).zip (S++T.map (p0 n))=C.zip S++(D.zip T).map (Prod.map id (p0 n)):=by rw [List.zip_append A.len.symm,List.zip_map_right]
 have V:(D.map (H5 r)).zip T=(D.zip T).map (Prod.map (H5 r) id):=List.zip_map_left ..
 have U:∀ q∈D.zip T,_:=λq J=>g.ins (Prod.map (H5 r) id q) (by rw [V]; exact List.mem_map.2 ⟨q,J,rfl⟩)
 have ga:=g.apr
 have gg:=g.grm
 have go:=g.occ
 rw [V] at ga gg go
 refine ⟨by simp [A.len,Q],λq J=>?_,?_,λj j0 _=>?_,λa L c E e=>?_,λj=>?_,AJ⟩
 · rw [Z] at J
   rcases List.mem_append.1 J with J | J
   · obtain ⟨Y,M⟩:=A.ins q J
     exact ⟨AC,M⟩
   · obtain ⟨a,L,rfl⟩:=List.mem_map.1 J
     obtain ⟨Y,M⟩:=U a L
     exact ⟨by simp only [Prod.map,p0,id] at Y ⊢; omega,M⟩
 · rw [Z]
   refine List.pairwise_append.2 ⟨A.apr,List.pairwise_map.2 ((List.pairwise_map.1 ga).imp fun {a c} h=>?_),λa L c E=>?_⟩
   · simp only [Apt,Prod.map,p0,id] at h ⊢
     omega
   · obtain ⟨d,O,rfl⟩:=List.mem_map.1 E
     have Y:=(A.ins a L).1
     have M:=(U d O).1
     refine .inl ?_
     simp only [Prod.map,p0,id] at M ⊢
     omega
 · rw [Z]
   by_cases h:j<n
   · obtain ⟨q,J,e⟩:=A.occ j j0 h
     exact ⟨q,List.mem_append_left _ J,e⟩
   · obtain ⟨q,J,e⟩:=go (j - n) AC AC
     obtain ⟨d,O,rfl⟩:=List.mem_map.1 J
     refine ⟨_,List.mem_append_right _ (List.mem_map.2 ⟨d,O,rfl⟩),?_⟩
     simp only [Prod.map,p0,id] at e ⊢
     omega
 · rw [Z] at L E
   rcases List.mem_append.1 L with L | L <;> rcases List.mem_append.1 E with E | E
   · exact A.grp a L c E e
   · obtain ⟨d,O,rfl⟩:=List.mem_map.1 E
     have Y:=(A.ins a L).1
     have M:=(U d O).1
     simp only [Prod.map,p0,id] at e M
     omega
   · obtain ⟨d,O,rfl⟩:=List.mem_map.1 L
     have Y:=(A.ins c E).1
     have M:=(U d O).1
     simp only [Prod.map,p0,id] at e M
     omega
   · obtain ⟨d,O,rfl⟩:=List.mem_map.1 L
     obtain ⟨_,Ab,rfl⟩:=List.mem_map.1 E
     simp only [Prod.map,id,hD _ (List.of_mem_zip O).1,hD _ (List.of_mem_zip Ab).1]
 · rw [Z,List.filter_append,List.map_append,LO]
   have hp:(0:Int)≤r.fJ.fQ:=by have:=(WJ (ZG (gD hc hk))).2.2.2; omega
   by_cases h:j<n
   · have e:((D.zip T).map (Prod.map id (p0 n))).filter (λq=>q.2.fJ==j)=[]:=List.filter_eq_nil_iff.2 λq J=>by
       obtain ⟨d,O,rfl⟩:=List.mem_map.1 J
       have M:=(U d O).1
       simp only [Prod.map,p0,id,beq_iff_eq] at M ⊢
       omega
     rw [e]
     have:=A.grm j
     simpa using this
   · have e:(C.zip S).filter (λq=>q.2.fJ==j)=[]:=List.filter_eq_nil_iff.2 λq J=>by
       have M:=(A.ins q J).1
       simp only [beq_iff_eq]
       omega
     have h3:=gg (j - n)
     rw [List.filter_map,List.map_map] at h3
     rw [e,List.filter_map,List.map_map,List.map_nil,Xu,Int.zero_add]
     have e2:((λq:Carton×Spot=>q.2.fJ==j) ∘ Prod.map id (p0 n))=((λq:Box×Spot=>q.2.fJ==j - n) ∘ Prod.map (H5 r) id):=by
      funext q
      simp only [Function.comp,Prod.map,p0,id]
      rw [Bool.eq_iff_iff,beq_iff_eq,beq_iff_eq]
      omega
     rw [e2]
     exact h3
theorem nr {r:Request} (D:CA r=0):∀ (ks:List Int) (C:List Carton) (s:List Spot×Int),(∀ k∈ks,0≤k∧k<(CD r).length)→Acc r C s.1 s.2→Acc r (C++WI r ks) (ks.foldl (mv r) s).1 (ks.foldl (mv r) s).2
 | [],C,s,_,A=>by simpa [WI] using A
 | k::ks,C,s,h,A=>by
  rw [List.foldl_cons,WI,← List.append_assoc]
  exact nr D ks _ _ (λj E=>h j (by simp [E])) (sY D A (h k AD))
theorem uy {r:Request} (A:CA r=0):∃ n,Acc r (WP r).1.fV (WP r).1.fE n:=by
 unfold WP
 rw [show (CA r==0)=true by simp [A],cond_true]
 exact ⟨_,nr A (BW 0 (CD r).length) [] ([],0) (λk D=>by have:=CE.1 D; omega) (uD A)⟩
theorem nK:∀ (l pre:List Int),(pre++l).Pairwise (·<·)→(∀ x∈l,0≤x∧x≤999)→dK pre l=true
 | [],_,_,_=>rfl
 | x::l,pre,hp,hb=>by
  unfold dK
  rw [Bool.and_eq_true,Bool.and_eq_true,BS]
  refine ⟨hb x AD,?_,nK l (pre++[x]) (by simpa using hp) λy A=>hb y (by simp [A])⟩
  cases D:pre.getLast? with
  | none=>rfl
  | some y =>
   have A:=List.mem_of_getLast? D
   have:=(List.pairwise_append.1 hp).2.2 y A x AD
   simpa using this
theorem tW {l:List Int} (h:l.Nodup):(cf l).Pairwise (·<·):=by
 have D:=PH l
 have A:(cf l).Nodup:=(VE l).nodup_iff.2 h
 exact (List.Pairwise.and D A).imp λh=>by have:=h.1; have:=h.2; omega
theorem tc {r:Request} {k:Int} {l:List Int} (hl:l∈ja r (QZ r k)):l.Nodup:=by
 have h:=nP r (QZ r k)
 rw [kU] at h
 have:=h.nodup_iff.2 (jE r k)
 exact (List.pairwise_flatten.1 this).1 l hl
theorem tx {r:Request} {a b:List Int} (h:a.Perm b):Qk r a=Qk r b:=by
 unfold Qk
 have e:nA r a=nA r b:=by
  funext s t
  unfold nA
  rw [lP h]
 rw [e]
theorem ur {r:Request} (A:CA r=0):(WP r).1.fV=O1 r:=by
 unfold WP
 rw [show (CA r==0)=true by simp [A],cond_true]
theorem eI {r:Request} {c:Carton} (h:c∈O1 r):aw c=true∧iZ r c=true∧m0 r c=true∧mI r c=true∧c.fK≠[]:=by
 have D:=xx h
 obtain ⟨k,Y,l,hl,rfl⟩:=Zh.1 h
 have Aa:=CE.1 Y
 have M:=rK l hl
 obtain ⟨hc,T,h3,N,U⟩:=mM M
 have hz:=D2 hc
 have Z:=ZE hz.1 _ h3
 simp only [Yo,Bool.and_eq_true,BS] at Z
 have O:=(SA r).1
 have J:=VE l
 have Ab:=Yr r
 obtain ⟨g1,_,E⟩:=D
 refine ⟨?_,?_,?_,?_,g1.1⟩
 · unfold aw lY
   simp only [Bool.and_eq_true,BS,decide_eq_true_eq]
   refine ⟨by simp only [ai]; omega,by simp only [ai]; omega,nK _ _ (tW (tc hl)) λx Q=>?_,?_⟩
   · have:=(XX (E x Q)).1
     omega
   · have:=ZK h
     omega
 · unfold iZ
   show (match Ky r (Qk r l).1.fe with | some t=>Wv r (cf l) t | none=>false)=true
   rw [U]
   simp only [lP J,N]
 · unfold m0
   refine List.all_eq_true.2 λu V=>?_
   obtain ⟨_,g,L,A⟩:=XX (E u V)
   have e:=rI (AG L).2.2 A
   have:=(AG L).1
   unfold j8 at e
   rw [e,beq_iff_eq]
   omega
 · unfold mI
   show ((Qk r (cf l)).2&&(Qk r (cf l)).1.fe==(Qk r l).1.fe)=true
   rw [tx J,T]; simp
theorem wx {x:Plan} (E:x.fE.length=x.fV.length) (k:Int) (f:Carton→Int):(YF x k).map (λi=>f (Wx x i))=((cs x).filter λq=>q.2.fJ==k).map λq=>f q.1:=by
 have A:∀ (C:List Carton) (S:List Spot) (pre:List Carton),x.fV=pre++C→S.length=C.length→(k9 k pre.length S).map (λi=>f (Wx x i))=((C.zip S).filter λq=>q.2.fJ==k).map λq=>f q.1:=by
  intro C
  induction C with
  | nil=>intro S pre _ h; rw [show S=[] from List.eq_nil_of_length_eq_zero (by simpa using h)]; rfl
  | cons c C N =>
   intro S pre J h
   match S,h with
   | s::S,h =>
    have D:=N S (pre++[c]) (by simp [J]) (by simpa using h)
    have M:(((pre++[c]).length:Nat):Int)=(pre.length:Int)+1:=AD
    rw [M] at D
    have L:Wx x (pre.length:Int)=c:=by unfold Wx; rw [EG,J]; simp
    rw [List.zip_cons_cons,List.filter_cons]
    unfold k9
    cases s.fJ==k
    · simpa using D
    · simp [D,L]
 unfold YF cs
 rw [show (x.fE.length==x.fV.length)=true by simp [E],cond_true]
 exact A x.fV x.fE [] rfl E
theorem sw {r:Request} (E:CA r=0) {c:Carton} (h:c∈O1 r):(1≤(H5 r c).fW∧1≤(H5 r c).fD∧1≤(H5 r c).fH)∧(H5 r c).fQ=bt r c:=by
 obtain ⟨k,_,l,hl,rfl⟩:=Zh.1 h
 have A:=(ov (rK l hl) k).2
 obtain ⟨_,_,_,_,D⟩:=mM (rK l hl)
 simp only [iP,Bool.and_eq_true,BS] at A
 refine ⟨⟨A.1.1,A.2.1.1,A.2.2.1.1⟩,?_⟩
 unfold H5 bt ai
 simp only [D,show (CA r==0)=true by simp [E],cond_true]
theorem uL {r:Request} (T:CA r=0):FeaI r (WP r).1:=by
 obtain ⟨n,A⟩:=uy T
 obtain ⟨Z,_,_⟩:=jS r
 have D:=ur T
 have hp:QH r.fJ=true:=by
  have:=(D2 T).1
  unfold YX at this
  simp only [Bool.and_eq_true] at this
  simp_all
 obtain ⟨_,_,_,_⟩:=WJ hp
 have hn:=A.nn
 generalize WP r=X at *
 obtain ⟨x,b⟩:=X
 simp only at *
 have V:TN x.fE=n:=by
  refine ti ⟨hn.1,AC⟩ (λs hs=>?_) λk k0 k1=>?_
  · obtain ⟨q,E,rfl⟩:=od Z hs
    exact (A.ins q E).1
  · obtain ⟨q,E,e⟩:=A.occ k k0 k1
    exact ⟨q.2,(List.of_mem_zip E).2,e⟩
 have O:∀ q∈cs x,q.1∈O1 r:=λq E=>by rw [← D]; exact (List.of_mem_zip E).1
 have M:∀ q∈cs x,((0≤q.2.fJ∧q.2.fJ<2000)∧(0≤q.2.fX∧q.2.fX+(H5 r q.1).fW≤r.fJ.fW)∧(0≤q.2.fY∧q.2.fY+(H5 r q.1).fD≤r.fJ.fD)∧(0≤q.2.fZ∧q.2.fZ+(H5 r q.1).fH≤r.fJ.fH))∧(1≤(H5 r q.1).fW∧1≤(H5 r q.1).fD∧1≤(H5 r q.1).fH):=λq E=>by
  obtain ⟨J,L⟩:=A.ins q E
  exact ⟨⟨AC,L⟩,(sw T (O q E)).1⟩
 refine ⟨T,?_,?_,?_,?_,?_,?_,?_,?_,?_⟩
 · unfold RO
   rw [Bool.and_eq_true,Bool.and_eq_true,beq_iff_eq,decide_eq_true_eq]
   refine ⟨Z,AC,List.all_eq_true.2 λq E=>?_⟩
   rw [Bool.and_eq_true]
   refine ⟨(eI (O q E)).1,?_⟩
   obtain ⟨J,L⟩:=M q E
   unfold j6
   simp only [Bool.and_eq_true,BS]
   omega
 · unfold l2
   rw [D]
   refine List.any_eq_false.2 λc Q=>?_
   have:=(eI Q).2.2.2.2
   have:=List.length_pos_iff.2 this
   simp only [beq_iff_eq]
   omega
 · rw [hB,D]
   exact (jA r _).trans (u3 r)
 · rw [D]; exact List.all_eq_true.2 λc h=>(eI h).2.1
 · rw [D]; exact List.all_eq_true.2 λc h=>(eI h).2.2.1
 · rw [D]; exact List.all_eq_true.2 λc h=>(eI h).2.2.2.1
 · refine List.all_eq_true.2 λq E=>?_
   obtain ⟨J,L⟩:=M q E
   unfold iM lc ay
   simp only [Bool.and_eq_true,BS,decide_eq_true_eq]
   rw [AU AC AC,AU AC AC,AU AC AC]
   omega
 · refine pw _ _ ?_
   rw [List.nil_append]
   refine A.apr.imp_of_mem fun {a c} ha Q hs=>?_
   obtain ⟨J,L⟩:=M a ha
   obtain ⟨k1,_⟩:=M c Q
   rw [← Bool.not_eq_true]
   intro ho
   unfold wc mw dZ ay at ho
   simp only [Bool.and_eq_true,BS,decide_eq_true_eq,beq_iff_eq] at ho
   obtain ⟨_,_,_,⟨o4,o5⟩,⟨o6,o7⟩,o8,o9⟩:=ho
   rw [AU AC AC] at o4 o5 o6 o7 o8 o9
   unfold Apt at hs
   omega
 · rw [V]
   refine List.all_eq_true.2 λk hk=>?_
   have hk:=CE.1 hk
   have U:=wx Z k
   have Y:YF x k≠[]:=λe=>by
    obtain ⟨q,E,e1⟩:=A.occ k AC AC
    have J:=U λ_=>0
    rw [e] at J
    have L:q∈(cs x).filter λq=>q.2.fJ==k:=List.mem_filter.2 ⟨E,by simp [e1]⟩
    have h3:=List.map_eq_nil_iff.1 J.symm
    rw [h3] at L
    simp at L
   have Ad:=List.length_pos_iff.2 Y
   have h0:(((YF x k).length:Int)==0)=false:=by simp; exact Y
   obtain ⟨i0,_,e1,_,rest,e3⟩:=kg h0
   unfold lW
   rw [h0,Bool.not_false,Bool.true_and,Bool.and_eq_true]
   constructor
   · have e:uA r x k=IM (((cs x).filter λq=>q.2.fJ==k).map λq=>(H5 r q.1).fQ):=by
       unfold uA
       rw [U]
       congr 1
       exact List.map_congr_left λq E=>((sw T (O q ((List.mem_filter.1 E).1))).2).symm
     have:=A.grm k
     rw [e]
     simp only [Bool.not_eq_true',decide_eq_false_iff_not]
     exact Int.not_lt.2 this
   · have N:∀ i∈YF x k,∃ q∈cs x,q.2.fJ=k∧q.1=Wx x i:=λi hi=>by
       obtain ⟨c,s,J,L,h3⟩:=ZH hi
       exact ⟨(c,s),List.mem_iff_getElem?.2 ⟨i.toNat,List.getElem?_zip_eq_some.2 ⟨(AG J).2.2,(AG L).2.2⟩⟩,h3,by unfold Wx; rw [J]; rfl⟩
     refine List.all_eq_true.2 λi hi=>?_
     obtain ⟨q,E,q1,q2⟩:=N i hi
     rw [e1]
     obtain ⟨q',Ab,Ac,Aa⟩:=N i0 (by rw [e3]; simp)
     rw [Option.getD_some,← q2,← Aa,beq_iff_eq]
     exact A.grp q E q' Ab (by rw [q1,Ac])
end Go.Proofs.YtdgpkmgnjdpieaaGreatDoor
