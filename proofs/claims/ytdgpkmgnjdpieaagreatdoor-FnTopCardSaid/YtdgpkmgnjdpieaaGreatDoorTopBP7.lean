/- TopBP: plain lemmas,.. -/
import Derived.Test.YtdgpkmgnjdpieaaGreatDoorTopBP6
set_option linter.unusedSimpArgs false
set_option linter.unusedVariables false
namespace Go.Proofs.YtdgpkmgnjdpieaaGreatDoor
open Go
open Enc (rd ow)
open Arg (argv)
open Ret (retv)
open Wf (wf)
def Gc (r:Request) (c:List Int):Prop:=c≠[]∧X3 r c (VB r)=true∧cZ r c=true
theorem r2 {r:Request} {u:Int} (h:0≤u∧u<(CP r).length):KW r.fT (ke r u) (ke r u)=true:=by
 have O:=g5 h
 have D:=D4 O
 have M:=bc h
 have J:=D.2.2.1
 have L:=D.2.1
 have Q:(LJ r u).fO<r.fR:=by
  unfold dS at L
  simp only [Bool.and_eq_true] at L
  have E:∀ (l pre:List Item),dO r.fR pre l=true→∀ x∈l,x.fO<r.fR:=by
   intro l
   induction l with
   | nil=>intro _ _ x A; simp at A
   | cons y l N =>
    intro pre h x A
    simp only [dO,Bool.and_eq_true,Bool.not_eq_true',decide_eq_false_iff_not] at h
    rcases List.mem_cons.1 A with rfl | A
    · omega
    · exact N _ h.2 x A
  exact E r.fU [] L.1.1.2 _ M
 have hi:=(PT D.1).1 _ M
 simp only [VV,Bool.and_eq_true,BS] at hi
 unfold i8 at J
 simp only [Bool.and_eq_true] at J
 have:=List.all_eq_true.1 J.2 (LJ r u).fO (CF.2 ⟨AC,AC⟩)
 simp only [Bool.and_eq_true] at this
 exact this.1
theorem vd (r:Request):∀ g∈CD r,∀ x∈g,∀ y∈g,x≠y→VN r.fT x y=true:=by
 have N:∀ (l:List Int) (out:List (List Int)),(∀ g∈out,∀ x∈g,∀ y∈g,x≠y→VN r.fT x y=true)→∀ g∈l.foldl (Z2 r.fT) out,∀ x∈g,∀ y∈g,x≠y→VN r.fT x y=true:=by
  intro l
  induction l with
  | nil=>intro out h; exact h
  | cons c l O =>
   intro out h
   rw [List.foldl_cons]
   refine O _ ?_
   unfold Z2
   cases T:TU (λg=>g.all (VN r.fT c)) out with
   | some k =>
    obtain ⟨Q,M,D⟩:=Xv T
    have D:=List.all_eq_true.1 D
    have U:=List.mem_of_getElem? M
    simp only [M,Option.getD_some]
    intro g L x E y J A
    rcases List.mem_or_eq_of_mem_set L with L | rfl
    · exact h g L x E y J A
    · rcases List.mem_append.1 E with E | E <;> rcases List.mem_append.1 J with J | J
      · exact h Q U x E y J A
      · rw [List.mem_singleton.1 J,qn]; exact D x E
      · rw [List.mem_singleton.1 E]; exact D y J
      · rw [List.mem_singleton.1 E,List.mem_singleton.1 J] at A; exact absurd rfl A
   | none =>
    intro g L x E y J A
    rcases List.mem_append.1 L with L | L
    · exact h g L x E y J A
    · rw [List.mem_singleton.1 L] at E J
      rw [List.mem_singleton.1 E,List.mem_singleton.1 J] at A; exact absurd rfl A
 exact N (XU r) [] AD
theorem X6 {r:Request} {k u:Int} (h:u∈QV r k):(0≤u∧u<(CP r).length)∧∃ g,ix (CD r) k=some g∧ke r u∈g:=by
 unfold QV at h
 cases D:ix (CD r) k with
 | none=>rw [D] at h; simp at h
 | some g =>
  rw [D] at h
  obtain ⟨j,i,x,A,E,N,J⟩:=(kl r g (CP r) 0 u).1 h
  have O:=(List.getElem?_eq_some_iff.1 A).1
  have M:0≤u∧u<(CP r).length:=AC
  refine ⟨M,g,rfl,?_⟩
  have L:XR r u=some x:=by
   unfold XR
   rw [E,Int.zero_add,EG,A,AB,N]
  unfold ke LJ
  rw [L]
  simpa using J
theorem kZ (r:Request) (k:Int):On r (QV r k)=QV r k:=by
 unfold On
 refine List.filter_eq_self.2 λu A=>?_
 have:=(X6 A).1
 rw [BS]; omega
theorem sS {r:Request} {k:Int} {l:List Int} (h:∀ u∈l,u∈QV r k):cZ r l=true:=by
 unfold cZ
 refine List.all_eq_true.2 λx N=>List.all_eq_true.2 λy M=>?_
 obtain ⟨D,g,L,E⟩:=X6 (h x N)
 obtain ⟨_,_,A,J⟩:=X6 (h y M)
 rw [L] at A
 cases A
 by_cases e:ke r x=ke r y
 · rw [← e]; exact r2 D
 · have:=vd r g (C8 L) _ E _ J e
   unfold VN at this
   rw [Bool.and_eq_true] at this
   exact this.1
theorem rn {r:Request} {a b:List Int} (h:a.Perm b) (E:cZ r b=true):cZ r a=true:=by
 unfold cZ at *
 exact List.all_eq_true.2 λx D=>List.all_eq_true.2 λy A=>List.all_eq_true.1 (List.all_eq_true.1 E x (h.mem_iff.1 D)) y (h.mem_iff.1 A)
theorem wK {r:Request} {c:Carton} (h:c∈O7 r):Gc r c.fK∧(0≤c.fF∧c.fF<(CD r).length)∧∀ u∈c.fK,u∈QV r c.fF:=by
 obtain ⟨k,M,l,hl,rfl⟩:=Zc.1 h
 have J:=CF.1 M
 obtain ⟨N,D,E⟩:=ru l hl
 rw [kZ] at D
 have A:=VY l
 refine ⟨⟨λe=>N ?_,?_,?_⟩,by simp only [aD]; omega,λu L=>D u (A.mem_iff.1 L)⟩
 · have:(cp l).length=0:=by rw [show cp l=[] from e]; rfl
   rw [mr] at this
   exact List.eq_nil_of_length_eq_zero this
 · show X3 r (cp l) (VB r)=true
   rw [lD A]; exact E
 · exact rn A (sS D)
theorem tq (r:Request) (g:List Int):∀ (us:List Int) (u:Int),(cx r g u us).Pairwise (·<·)∧∀ x∈cx r g u us,u≤x
 | [],_=>by simp [cx]
 | i::us,u=>by
  obtain ⟨J,D⟩:=tq r g us (u+1)
  have L:(cx r g (u+1) us).Pairwise (·<·)∧∀ x∈cx r g (u+1) us,u≤x:=⟨J,λx A=>by have:=D x A; omega⟩
  have E:(u::cx r g (u+1) us).Pairwise (·<·)∧∀ x∈u::cx r g (u+1) us,u≤x:=by
   refine ⟨List.pairwise_cons.2 ⟨λx A=>by have:=D x A; omega,J⟩,λx A=>?_⟩
   rcases List.mem_cons.1 A with rfl | A
   · omega
   · have:=D x A; omega
  rw [cx]
  cases ix r.fU i with
  | none=>exact L
  | some x =>
   simp only
   cases g.contains x.fO
   · exact L
   · exact E
theorem jW (r:Request) (k:Int):(QV r k).Nodup:=by
 unfold QV
 split
 · exact ((tq r _ (CP r) 0).1).imp λh=>by omega
 · simp
theorem jq (r:Request):∀ (ks:List Int),((W3 r ks).map (·.fK)).flatten.Perm (ks.map (QV r)).flatten
 | []=>by simp [W3]
 | k::ks=>by
  have J:=jq r ks
  have E:((Yk r k).map (·.fK)).flatten.Perm (QV r k):=by
   have D:=nU r (QV r k)
   rw [kZ] at D
   refine List.Perm.trans ?_ D
   unfold Yk
   generalize jd r (QV r k)=L
   induction L with
   | nil=>simp
   | cons l L A=>simp only [List.map_cons,List.flatten_cons]; exact (VY l).append A
  rw [W3,List.map_append,List.flatten_append,List.map_cons,List.flatten_cons]
  exact E.append J
theorem vg (r:Request):((BW 0 (CD r).length).map (QV r)).flatten.Perm (BW 0 (CP r).length):=by
 refine (List.perm_ext_iff_of_nodup ?_ (O2 _ _)).2 λu=>?_
 · refine List.pairwise_flatten.2 ⟨λl hl=>?_,?_⟩
   · obtain ⟨k,_,rfl⟩:=List.mem_map.1 hl
     exact jW r k
   · refine List.pairwise_map.2 ((Xx 0 (CD r).length).imp_of_mem fun {a b} Y U Q=>?_)
     intro x N y O e
     subst e
     obtain ⟨_,g,D,L⟩:=X6 N
     obtain ⟨_,_,A,J⟩:=X6 O
     have:=dd (AG D).2.2 (AG A).2.2 L J
     have T:=(AG D).1
     have V:=(AG A).1
     omega
 · constructor
   · intro h
     obtain ⟨l,hl,M⟩:=List.mem_flatten.1 h
     obtain ⟨k,_,rfl⟩:=List.mem_map.1 hl
     have:=(X6 M).1
     exact CF.2 AC
   · intro h
     have M:=CF.1 h
     have hi:=Yd (r:=r) (u:=u) AC
     obtain ⟨i,g,D,E,_⟩:=nN (ov hi)
     refine List.mem_flatten.2 ⟨QV r i,List.mem_map.2 ⟨i,CF.2 ⟨AC,by have:=(List.getElem?_eq_some_iff.1 D).1; omega⟩,rfl⟩,?_⟩
     have A:ix (CD r) (i:Int)=some g:=by rw [EG,D]
     have:=uv A u
     unfold zS at this
     rw [hi] at this
     have e:g.contains (LJ r u).fO=true:=by simpa using E
     simp only [e] at this
     simpa using this
structure FeaI (r:Request) (x:Plan):Prop where
 c:B9 r=0
 pok:RQ x=true
 emp:l8 x=false
 once:dy r x=true
 ch:x.fV.all (jh r)=true
 cg:x.fV.all (nA r)=true
 cc:x.fV.all (mU r)=true
 ins:(cs x).all (jl r)=true
 apr:bW r [] (cs x)=true
 pl:(BW 0 (TT x.fE).toNat).all (lC r x)=true
theorem ui {r:Request} {x:Plan}:qp r x=true↔FeaI r x:=by
 unfold qp d0
 constructor
 · intro h
   have e:∀ (b:Bool) (n:Int) (m:Int),n≠0→((bif b then n else m)==0)=true→b=false∧(m==0)=true:=by
    intro b n m V L
    cases b
    · exact ⟨rfl,L⟩
    · simp at L; exact absurd L V
   obtain ⟨J,h⟩:=e _ _ _ A1 h
   obtain ⟨N,h⟩:=e _ _ _ A1 h
   obtain ⟨E,h⟩:=e _ _ _ A1 h
   obtain ⟨T,h⟩:=e _ _ _ A1 h
   obtain ⟨Q,h⟩:=e _ _ _ A1 h
   obtain ⟨O,h⟩:=e _ _ _ A1 h
   obtain ⟨U,h⟩:=e _ _ _ A1 h
   obtain ⟨D,h⟩:=e _ _ _ A1 h
   obtain ⟨M,h⟩:=e _ _ _ A1 h
   obtain ⟨A,h⟩:=e _ _ _ A1 h
   exact ⟨by simpa using J,by simpa using N,E,by simpa using T,by simpa using Q,by simpa using O,by simpa using U,by simpa using D,by simpa using M,by simpa using A⟩
 · rintro ⟨J,N,E,T,Q,O,U,D,M,A⟩
   rw [J,N,E,T,Q,O,U,D,M,A]; rfl
theorem pp {r:Request}:∀ (l pre:List (Carton×Spot)),(pre++l).Pairwise (λa c=>wO r c a=false)→bW r pre l=true
 | [],_,_=>rfl
 | p::l,pre,h=>by
  unfold bW
  rw [Bool.and_eq_true]
  refine ⟨List.all_eq_true.2 λq A=>?_,pp l (pre++[p]) (by simpa using h)⟩
  rw [(List.pairwise_append.1 h).2.2 q A p AD]; rfl
def qw (n:Int) (t:Spot):Spot:=⟨t.fJ+n,t.fX,t.fY,t.fZ⟩
structure Acc (r:Request) (C:List Carton) (S:List Spot) (n:Int):Prop where
 len:S.length=C.length
 ins:∀ q∈C.zip S,(0≤q.2.fJ∧q.2.fJ<n)∧(0≤q.2.fX∧q.2.fX+(HZ r q.1).fW≤r.fJ.fW)∧(0≤q.2.fY∧q.2.fY+(HZ r q.1).fD≤r.fJ.fD)∧(0≤q.2.fZ∧q.2.fZ+(HZ r q.1).fH≤r.fJ.fH)
 apr:(C.zip S).Pairwise λa c=>Apt (HZ r a.1) a.2 (HZ r c.1) c.2
 occ:∀ k,0≤k→k<n→∃ q∈C.zip S,q.2.fJ=k
 grp:∀ a∈C.zip S,∀ c∈C.zip S,a.2.fJ=c.2.fJ→a.1.fF=c.1.fF
 grm:∀ k,HW (((C.zip S).filter λq=>q.2.fJ==k).map λq=>(HZ r q.1).fQ)≤r.fJ.fQ
 nn:0≤n∧n≤C.length
theorem vb {r:Request} (D:B9 r=0):Acc r [] [] 0:=by
 have A:Rc r.fJ=true:=by
  have:=(D4 D).1
  unfold Y6 at this
  simp only [Bool.and_eq_true] at this
  simp_all
 have:=W8 A
 exact ⟨rfl,AD,AD,λk _ _=>by omega,AD,λk=>by simp; omega,AD⟩
theorem sy {r:Request} (Q:B9 r=0) {C:List Carton} {S:List Spot} {n:Int} (A:Acc r C S n) {k:Int} (hk:0≤k∧k<(CD r).length):Acc r (C++Yk r k) (S++(aF r.fJ (VA r k)).map (qw n)) (n+TT (aF r.fJ (VA r k))):=by
 have g:=w3 (gq Q hk)
 have Aa:=vo g (by have:=lg r k; omega)
 rw [Aa]
 generalize ((jo r.fJ (bl r.fJ (YV r.fJ (VA r k)))).length:Int)=N at g
 rw [da hk] at g
 generalize hT:aF r.fJ (VA r k)=T
 rw [show aF r.fJ ((Yk r k).map (HZ r))=T by rw [← da hk,hT]] at g
 have hD:∀ c∈Yk r k,c.fF=k:=λc Q=>by
  unfold Yk at Q
  obtain ⟨l,_,rfl⟩:=List.mem_map.1 Q
  rfl
 generalize Yk r k=D at g hD
 have Ab:T.length=D.length:=by have:=g.len; simpa using this
 have hN:=g.nn
 rw [List.length_map] at hN
 have hA:=A.nn
 have V:(C++D).zip (S++T.map (qw n))=C.zip S++(D.zip T).map (Prod.map id (qw n)):=by rw [List.zip_append A.len.symm,List.zip_map_right]
 have Y:(D.map (HZ r)).zip T=(D.zip T).map (Prod.map (HZ r) id):=List.zip_map_left ..
 have Z:∀ q∈D.zip T,_:=λq J=>g.ins (Prod.map (HZ r) id q) (by rw [Y]; exact List.mem_map.2 ⟨q,J,rfl⟩)
 have ga:=g.apr
 have gg:=g.grm
 have go:=g.occ
 rw [Y] at ga gg go
 refine ⟨by simp [A.len,Ab],λq J=>?_,?_,λj j0 _=>?_,λa M c E e=>?_,λj=>?_,AJ⟩
 · rw [V] at J
   rcases List.mem_append.1 J with J | J
   · obtain ⟨U,L⟩:=A.ins q J
     exact ⟨AC,L⟩
   · obtain ⟨a,M,rfl⟩:=List.mem_map.1 J
     obtain ⟨U,L⟩:=Z a M
     exact ⟨by simp only [Prod.map,qw,id] at U ⊢; omega,L⟩
 · rw [V]
   refine List.pairwise_append.2 ⟨A.apr,List.pairwise_map.2 ((List.pairwise_map.1 ga).imp fun {a c} h=>?_),λa M c E=>?_⟩
   · simp only [Apt,Prod.map,qw,id] at h ⊢
     omega
   · obtain ⟨d,O,rfl⟩:=List.mem_map.1 E
     have U:=(A.ins a M).1
     have L:=(Z d O).1
     refine .inl ?_
     simp only [Prod.map,qw,id] at L ⊢
     omega
 · rw [V]
   by_cases h:j<n
   · obtain ⟨q,J,e⟩:=A.occ j j0 h
     exact ⟨q,List.mem_append_left _ J,e⟩
   · obtain ⟨q,J,e⟩:=go (j - n) AC AC
     obtain ⟨d,O,rfl⟩:=List.mem_map.1 J
     refine ⟨_,List.mem_append_right _ (List.mem_map.2 ⟨d,O,rfl⟩),?_⟩
     simp only [Prod.map,qw,id] at e ⊢
     omega
 · rw [V] at M E
   rcases List.mem_append.1 M with M | M <;> rcases List.mem_append.1 E with E | E
   · exact A.grp a M c E e
   · obtain ⟨d,O,rfl⟩:=List.mem_map.1 E
     have U:=(A.ins a M).1
     have L:=(Z d O).1
     simp only [Prod.map,qw,id] at e L
     omega
   · obtain ⟨d,O,rfl⟩:=List.mem_map.1 M
     have U:=(A.ins c E).1
     have L:=(Z d O).1
     simp only [Prod.map,qw,id] at e L
     omega
   · obtain ⟨d,O,rfl⟩:=List.mem_map.1 M
     obtain ⟨_,Ac,rfl⟩:=List.mem_map.1 E
     simp only [Prod.map,id,hD _ (List.of_mem_zip O).1,hD _ (List.of_mem_zip Ac).1]
 · rw [V,List.filter_append,List.map_append,LL]
   have hp:(0:Int)≤r.fJ.fQ:=by have:=(W8 (ZY (gq Q hk))).2.2.2; omega
   by_cases h:j<n
   · have e:((D.zip T).map (Prod.map id (qw n))).filter (λq=>q.2.fJ==j)=[]:=List.filter_eq_nil_iff.2 λq J=>by
       obtain ⟨d,O,rfl⟩:=List.mem_map.1 J
       have L:=(Z d O).1
       simp only [Prod.map,qw,id,beq_iff_eq] at L ⊢
       omega
     rw [e]
     have:=A.grm j
     simpa using this
   · have e:(C.zip S).filter (λq=>q.2.fJ==j)=[]:=List.filter_eq_nil_iff.2 λq J=>by
       have L:=(A.ins q J).1
       simp only [beq_iff_eq]
       omega
     have h3:=gg (j - n)
     rw [List.filter_map,List.map_map] at h3
     rw [e,List.filter_map,List.map_map,List.map_nil,XQ,Int.zero_add]
     have e2:((λq:Carton×Spot=>q.2.fJ==j) ∘ Prod.map id (qw n))=((λq:Box×Spot=>q.2.fJ==j - n) ∘ Prod.map (HZ r) id):=by
      funext q
      simp only [Function.comp,Prod.map,qw,id]
      rw [Bool.eq_iff_iff,beq_iff_eq,beq_iff_eq]
      omega
     rw [e2]
     exact h3
theorem pH {r:Request} (D:B9 r=0):∀ (ks:List Int) (C:List Carton) (s:List Spot×Int),(∀ k∈ks,0≤k∧k<(CD r).length)→Acc r C s.1 s.2→Acc r (C++W3 r ks) (ks.foldl (mz r) s).1 (ks.foldl (mz r) s).2
 | [],C,s,_,A=>by simpa [W3] using A
 | k::ks,C,s,h,A=>by
  rw [List.foldl_cons,W3,← List.append_assoc]
  exact pH D ks _ _ (λj E=>h j (by simp [E])) (sy D A (h k AD))
theorem uN {r:Request} (A:B9 r=0):∃ n,Acc r (WR r).1.fV (WR r).1.fE n:=by
 unfold WR
 rw [show (B9 r==0)=true by simp [A],cond_true]
 exact ⟨_,pH A (BW 0 (CD r).length) [] ([],0) (λk D=>by have:=CF.1 D; omega) (vb A)⟩
theorem nH:∀ (l pre:List Int),(pre++l).Pairwise (·<·)→(∀ x∈l,0≤x∧x≤999)→dC pre l=true
 | [],_,_,_=>rfl
 | x::l,pre,hp,hb=>by
  unfold dC
  rw [Bool.and_eq_true,Bool.and_eq_true,BS]
  refine ⟨hb x AD,?_,nH l (pre++[x]) (by simpa using hp) λy A=>hb y (by simp [A])⟩
  cases D:pre.getLast? with
  | none=>rfl
  | some y =>
   have A:=List.mem_of_getLast? D
   have:=(List.pairwise_append.1 hp).2.2 y A x AD
   simpa using this
theorem u5 {l:List Int} (h:l.Nodup):(cp l).Pairwise (·<·):=by
 have D:=PP l
 have A:(cp l).Nodup:=(VY l).nodup_iff.2 h
 exact (List.Pairwise.and D A).imp λh=>by have:=h.1; have:=h.2; omega
theorem rT {r:Request} {k:Int} {l:List Int} (hl:l∈jd r (QV r k)):l.Nodup:=by
 have h:=nU r (QV r k)
 rw [kZ] at h
 have:=h.nodup_iff.2 (jW r k)
 exact (List.pairwise_flatten.1 this).1 l hl
theorem r3 {r:Request} {a b:List Int} (h:a.Perm b):QJ r a=QJ r b:=by
 unfold QJ
 have e:pP r a=pP r b:=by
  funext s t
  unfold pP
  rw [lw h]
 rw [e]
theorem u7 {r:Request} (A:B9 r=0):(WR r).1.fV=O7 r:=by
 unfold WR
 rw [show (B9 r==0)=true by simp [A],cond_true]
theorem gI {r:Request} {c:Carton} (h:c∈O7 r):aw c=true∧jh r c=true∧nA r c=true∧mU r c=true∧c.fK≠[]:=by
 have A:=wK h
 obtain ⟨k,hk,l,hl,rfl⟩:=Zc.1 h
 have Z:=CF.1 hk
 have hq:=ru l hl
 obtain ⟨M,Y,N,h4,h5⟩:=mV hq
 have V:=D4 M
 have ht:=ZH V.1 _ N
 simp only [Yu,Bool.and_eq_true,BS] at ht
 have Q:=(R5 r).1
 have L:=VY l
 have O:=YD r
 obtain ⟨g1,_,E⟩:=A
 refine ⟨?_,?_,?_,?_,g1.1⟩
 · unfold aw l9
   simp only [Bool.and_eq_true,BS,decide_eq_true_eq]
   refine ⟨by simp only [aD]; omega,by simp only [aD]; omega,nH _ _ (u5 (rT hl)) λx T=>?_,?_⟩
   · have:=(X6 (E x T)).1
     omega
   · have:=ZW h
     omega
 · unfold jh
   show (match KB r (QJ r l).1.fe with | some t=>WL r (cp l) t | none=>false)=true
   rw [h5]
   simp only [lw L,h4]
 · unfold nA
   refine List.all_eq_true.2 λu U=>?_
   obtain ⟨_,g,J,D⟩:=X6 (E u U)
   have e:=tv (AG J).2.2 D
   have:=(AG J).1
   unfold ke at e
   rw [e,beq_iff_eq]
   omega
 · unfold mU
   show ((QJ r (cp l)).2&&(QJ r (cp l)).1.fe==(QJ r l).1.fe)=true
   rw [r3 L,Y]; simp
theorem wy {x:Plan} (E:x.fE.length=x.fV.length) (k:Int) (f:Carton→Int):(YR x k).map (λi=>f (WC x i))=((cs x).filter λq=>q.2.fJ==k).map λq=>f q.1:=by
 have D:∀ (C:List Carton) (S:List Spot) (pre:List Carton),x.fV=pre++C→S.length=C.length→(ln k pre.length S).map (λi=>f (WC x i))=((C.zip S).filter λq=>q.2.fJ==k).map λq=>f q.1:=by
  intro C
  induction C with
  | nil=>intro S pre _ h; rw [show S=[] from List.eq_nil_of_length_eq_zero (by simpa using h)]; rfl
  | cons c C M =>
   intro S pre J h
   match S,h with
   | s::S,h =>
    have A:=M S (pre++[c]) (by simp [J]) (by simpa using h)
    have N:(((pre++[c]).length:Nat):Int)=(pre.length:Int)+1:=AD
    rw [N] at A
    have L:WC x (pre.length:Int)=c:=by unfold WC; rw [EG,J]; simp
    rw [List.zip_cons_cons,List.filter_cons]
    unfold ln
    cases s.fJ==k
    · simpa using A
    · simp [A,L]
 unfold YR cs
 rw [show (x.fE.length==x.fV.length)=true by simp [E],cond_true]
 exact D x.fV x.fE [] rfl E
theorem rR {r:Request} (D:B9 r=0) {c:Carton} (h:c∈O7 r):(1≤(HZ r c).fW∧1≤(HZ r c).fD∧1≤(HZ r c).fH)∧(HZ r c).fQ=bQ r c:=by
 obtain ⟨k,_,l,hl,rfl⟩:=Zc.1 h
 have A:=(pg (ru l hl) k).2
 obtain ⟨_,_,_,_,E⟩:=mV (ru l hl)
 simp only [jn,Bool.and_eq_true,BS] at A
 refine ⟨⟨A.1.1,A.2.1.1,A.2.2.1.1⟩,?_⟩
 unfold HZ bQ aD
 simp only [E,show (B9 r==0)=true by simp [D],cond_true]
theorem vC {r:Request} (T:B9 r=0):FeaI r (WR r).1:=by
 obtain ⟨n,A⟩:=uN T
 obtain ⟨l1,_,_⟩:=j4 r
 have D:=u7 T
 have hp:Rc r.fJ=true:=by
  have:=(D4 T).1
  unfold Y6 at this
  simp only [Bool.and_eq_true] at this
  simp_all
 obtain ⟨_,_,_,_⟩:=W8 hp
 have hn:=A.nn
 generalize WR r=X at *
 obtain ⟨x,b⟩:=X
 simp only at *
 have V:TT x.fE=n:=by
  refine rV ⟨hn.1,AC⟩ (λs hs=>?_) λk k0 k1=>?_
  · obtain ⟨q,E,rfl⟩:=oz l1 hs
    exact (A.ins q E).1
  · obtain ⟨q,E,e⟩:=A.occ k k0 k1
    exact ⟨q.2,(List.of_mem_zip E).2,e⟩
 have O:∀ q∈cs x,q.1∈O7 r:=λq E=>by rw [← D]; exact (List.of_mem_zip E).1
 have L:∀ q∈cs x,((0≤q.2.fJ∧q.2.fJ<2000)∧(0≤q.2.fX∧q.2.fX+(HZ r q.1).fW≤r.fJ.fW)∧(0≤q.2.fY∧q.2.fY+(HZ r q.1).fD≤r.fJ.fD)∧(0≤q.2.fZ∧q.2.fZ+(HZ r q.1).fH≤r.fJ.fH))∧(1≤(HZ r q.1).fW∧1≤(HZ r q.1).fD∧1≤(HZ r q.1).fH):=λq E=>by
  obtain ⟨J,M⟩:=A.ins q E
  exact ⟨⟨AC,M⟩,(rR T (O q E)).1⟩
 refine ⟨T,?_,?_,?_,?_,?_,?_,?_,?_,?_⟩
 · unfold RQ
   rw [Bool.and_eq_true,Bool.and_eq_true,beq_iff_eq,decide_eq_true_eq]
   refine ⟨l1,AC,List.all_eq_true.2 λq E=>?_⟩
   rw [Bool.and_eq_true]
   refine ⟨(gI (O q E)).1,?_⟩
   obtain ⟨J,M⟩:=L q E
   unfold la
   simp only [Bool.and_eq_true,BS]
   omega
 · unfold l8
   rw [D]
   refine List.any_eq_false.2 λc Q=>?_
   have:=(gI Q).2.2.2.2
   have:=List.length_pos_iff.2 this
   simp only [beq_iff_eq]
   omega
 · rw [ib,D]
   exact (jq r _).trans (vg r)
 · rw [D]; exact List.all_eq_true.2 λc h=>(gI h).2.1
 · rw [D]; exact List.all_eq_true.2 λc h=>(gI h).2.2.1
 · rw [D]; exact List.all_eq_true.2 λc h=>(gI h).2.2.2.1
 · refine List.all_eq_true.2 λq E=>?_
   obtain ⟨J,M⟩:=L q E
   unfold jl md av
   simp only [Bool.and_eq_true,BS,decide_eq_true_eq]
   rw [AU AC AC,AU AC AC,AU AC AC]
   omega
 · refine pp _ _ ?_
   rw [List.nil_append]
   refine A.apr.imp_of_mem fun {a c} ha Q hs=>?_
   obtain ⟨J,M⟩:=L a ha
   obtain ⟨k1,_⟩:=L c Q
   rw [← Bool.not_eq_true]
   intro ho
   unfold wO mx dU av at ho
   simp only [Bool.and_eq_true,BS,decide_eq_true_eq,beq_iff_eq] at ho
   obtain ⟨_,_,_,⟨o4,o5⟩,⟨o6,o7⟩,o8,o9⟩:=ho
   rw [AU AC AC] at o4 o5 o6 o7 o8 o9
   unfold Apt at hs
   omega
 · rw [V]
   refine List.all_eq_true.2 λk hk=>?_
   have hk:=CF.1 hk
   have U:=wy l1 k
   have Y:YR x k≠[]:=λe=>by
    obtain ⟨q,E,e1⟩:=A.occ k AC AC
    have J:=U λ_=>0
    rw [e] at J
    have M:q∈(cs x).filter λq=>q.2.fJ==k:=List.mem_filter.2 ⟨E,by simp [e1]⟩
    have h3:=List.map_eq_nil_iff.1 J.symm
    rw [h3] at M
    simp at M
   have Ac:=List.length_pos_iff.2 Y
   have h0:(((YR x k).length:Int)==0)=false:=by simp; exact Y
   obtain ⟨i0,_,e1,_,rest,e3⟩:=kM h0
   unfold lC
   rw [h0,Bool.not_false,Bool.true_and,Bool.and_eq_true]
   constructor
   · have e:uP r x k=HW (((cs x).filter λq=>q.2.fJ==k).map λq=>(HZ r q.1).fQ):=by
       unfold uP
       rw [U]
       congr 1
       exact List.map_congr_left λq E=>((rR T (O q ((List.mem_filter.1 E).1))).2).symm
     have:=A.grm k
     rw [e]
     simp only [Bool.not_eq_true',decide_eq_false_iff_not]
     exact Int.not_lt.2 this
   · have N:∀ i∈YR x k,∃ q∈cs x,q.2.fJ=k∧q.1=WC x i:=λi hi=>by
       obtain ⟨c,s,J,M,h3⟩:=ZI hi
       exact ⟨(c,s),List.mem_iff_getElem?.2 ⟨i.toNat,List.getElem?_zip_eq_some.2 ⟨(AG J).2.2,(AG M).2.2⟩⟩,h3,by unfold WC; rw [J]; rfl⟩
     refine List.all_eq_true.2 λi hi=>?_
     obtain ⟨q,E,q1,q2⟩:=N i hi
     rw [e1]
     obtain ⟨q',Aa,Z,Ab⟩:=N i0 (by rw [e3]; simp)
     rw [Option.getD_some,← q2,← Ab,beq_iff_eq]
     exact A.grp q E q' Aa (by rw [q1,Z])
end Go.Proofs.YtdgpkmgnjdpieaaGreatDoor
