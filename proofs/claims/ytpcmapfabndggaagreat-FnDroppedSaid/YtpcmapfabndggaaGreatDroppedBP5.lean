import Derived.Test.YtpcmapfabndggaaGreatDroppedBP4
set_option linter.unusedSimpArgs false
set_option linter.unusedVariables false
/- The plan of an order, by spec. -/
namespace Go.Proofs.YtpcmapfabndggaaGreat
open Go
open Enc (rd ow)
open Arg (argv)
open Ret (retv)
open Wf (wf)
theorem Q8f {a b:List Int} (h:a.Perm b):Qwp a = Qwp b:=by
 induction h with
 | nil=>rfl
 | cons x _ ih=>simp [ih]
 | swap x y l=>simp; omega
 | trans _ _ h1 h2=>rw [h1,h2]
theorem Jbl {r:Request} {a b:List Int} (h:a.Perm b):(Qxv r a).Perm (Qxv r b):=h.filterMap _
theorem Jb5 {r:Request} {a b:List Int} (h:a.Perm b):Qv6 r a = Qv6 r b:=Q8f ((Jbl h).map _)
theorem Q55 {f:Typ → Int}:∀ (xs pre:List Typ) (t:Typ),Q7e f pre xs = true → t ∈ xs → (∀ y ∈ pre,f y ≠ f t) ∧ xs.find? (λy=>f y == f t) = some t
 | [],_,_,_,h=>by simp at h
 | x :: xs,pre,t,hn,h=>by
  simp only [Q7e,Bool.and_eq_true,Bool.not_eq_true'] at hn
  have hx:=List.any_eq_false.1 hn.1
  rcases List.mem_cons.1 h with rfl | h
  · exact ⟨λy hy e=>hx y hy (by simp [e]),by simp⟩
  · have ih:=Q55 xs (pre ++ [x]) t hn.2 h
    refine ⟨λy hy=>ih.1 y (by simp [hy]),?_⟩
    have:=ih.1 x (by simp)
    have e:(f x == f t) = false:=by simpa using this
    rw [List.find?_cons,e]
    exact ih.2
theorem Jbz {r:Request} (hc:Qh9 r = 0) {t:Typ} (ht:t ∈ r.fT):Qtn r t.f8 = some t:=by
 have h:=(Qfv hc).2.1
 unfold Jac at h
 simp only [Bool.and_eq_true] at h
 exact (Q55 r.fT [] t h.1.1.1 ht).2
theorem Q6f (r:Request) (us:List Int):∀ (l:List Typ) (s:Typ × Bool),(∀ t ∈ l,t ∈ r.fT) → (s.2 = true → s.1 ∈ r.fT ∧ Qz7 r us s.1 = true) → (l.foldl (chp r us) s).2 = true → (l.foldl (chp r us) s).1 ∈ r.fT ∧ Qz7 r us (l.foldl (chp r us) s).1 = true
 | [],s,_,h,h2=>h h2
 | t :: l,s,hl,h,h2=>by
  rw [List.foldl_cons] at h2 ⊢
  refine Q6f r us l _ (λx hx=>hl x (by simp [hx])) (λh3=>?_) h2
  unfold chp at h3 ⊢
  cases hh:Qz7 r us t && (!s.2 || (decide (t.fK < s.1.fK) || (t.fK == s.1.fK && decide (t.f8 < s.1.f8))))
  · rw [hh,cond_false] at h3
    rw [cond_false]
    exact h h3
  · rw [Bool.and_eq_true] at hh
    rw [cond_true]
    exact ⟨hl t (by simp),hh.1⟩
theorem Jb8 {r:Request} {us l:List Int} (h:Qc r (Qwq r us) l):Qz7 r l (Qyl r) = true:=by
 obtain ⟨h1,h2,h3⟩:=h
 obtain ⟨u,hu⟩:=List.exists_mem_of_ne_nil _ h1
 have hc:=Q5j (Qzv (h2 u hu))
 have hz:=Qfv hc
 unfold Qz7
 rw [show (Qh9 r == 0) = true by simp [hc],Bool.true_and,h3,Bool.and_true,List.all_eq_true]
 intro v hv
 have hv':=Qzv (h2 v hv)
 unfold uOk
 rw [Qvv hv',Bool.and_eq_true]
 exact ⟨rfl,hz.2.2.2.1 _ (Q21 hv')⟩
theorem Jgu {r:Request} {us l:List Int} (h:Qc r (Qwq r us) l):Qh9 r = 0 ∧ (Qxf r l).2 = true ∧ (Qxf r l).1 ∈ r.fT ∧ Qz7 r l (Qxf r l).1 = true ∧ Qtn r (Qxf r l).1.f8 = some (Qxf r l).1:=by
 obtain ⟨u,hu⟩:=List.exists_mem_of_ne_nil _ h.1
 have hc:=Q5j (Qzv (h.2.1 u hu))
 have h2:=Q6h (Q9k hc).2.1 (Jb8 h)
 have h3:=Q6f r l r.fT (Jgp,false) (λ_ h=>h) (by simp) h2
 exact ⟨hc,h2,h3.1,h3.2,Jbz hc h3.1⟩
theorem Je8 {r:Request} {us l:List Int} (h:Qc r (Qwq r us) l):1 ≤ Qv6 r l:=by
 obtain ⟨h1,h2,_⟩:=h
 match l,h1 with
 | u :: l,_ =>
  have hu:=Qzv (h2 u (by simp))
  have hc:=Q5j hu
  have:=(Qs1 (Qfv hc).1).1 _ (Q21 hu)
  simp only [Qxh,Bool.and_eq_true,Qdz] at this
  have h3:=(Q4j r l).1
  rw [Q6m]
  omega
theorem Jel {r:Request} {us l:List Int} (h:Qc r (Qwq r us) l) (k:Int):Qub r (Jca r k l) = ⟨(Qxf r l).1.fW,(Qxf r l).1.fD,(Qxf r l).1.fH,(Qxf r l).1.f7 + Qv6 r l⟩ ∧ Je5 r.fJ (Qub r (Jca r k l)) = true:=by
 obtain ⟨hc,_,ht,hh,hf⟩:=Jgu h
 have hz:=Qfv hc
 have e:Qub r (Jca r k l) = ⟨(Qxf r l).1.fW,(Qxf r l).1.fD,(Qxf r l).1.fH,(Qxf r l).1.f7 + Qv6 r l⟩:=by
  unfold Qub Jca
  simp only [hf,show (Qh9 r == 0) = true by simp [hc],cond_true,Jb5 (Qy4 l)]
 refine ⟨e,?_⟩
 have ht1:=Qyv hz.1 _ ht
 have ht2:=hz.2.2.2.2 _ ht
 simp only [Q15,Bool.and_eq_true,Qdz] at ht1
 simp only [Q7f,Bool.or_eq_false_iff,decide_eq_false_iff_not] at ht2
 rw [Qbp (by omega) (by omega)] at ht2
 have hg:=Je8 h
 unfold Qz7 at hh
 simp only [Bool.and_eq_true] at hh
 have hw:=hh.2.2
 unfold Q4s at hw
 simp only [Bool.and_eq_true,decide_eq_true_eq] at hw
 rw [e]
 simp only [Je5,Bool.and_eq_true,Qdz]
 omega
def Q4g (r:Request) (k:Int):List Box:=((Q1p r).filter λc=>c.fE == k).map (Qub r)
def plS (r:Request) (s:List Spot × Int) (k:Int):List Spot × Int:=(s.1 ++ (spM r.fJ (Q4g r k)).map (λt=>⟨t.fJ + s.2,t.fX,t.fY,t.fZ⟩),s.2 + Qxw (spM r.fJ (Q4g r k)))
def Jcz (r:Request):Plan × Bool:=bif Qh9 r == 0 then (⟨Q1p r,((Qkd 0 (Qnj r).length).foldl (plS r) ([],0)).1⟩,true) else (⟨[],[]⟩,false)
theorem Qzo (r:Request) (k:Int):∀ (ks:List Int),ks.Nodup → ((Q4b r ks).filter λc=>c.fE == k) = bif ks.contains k then Q6r r k else []
 | [],_=>rfl
 | j :: ks,hn=>by
  obtain ⟨h1,h2⟩:=List.nodup_cons.1 hn
  have ih:=Qzo r k ks h2
  rw [Q4b,List.filter_append,ih]
  have hj:∀ c ∈ Q6r r j,c.fE = j:=by
   intro c hc
   unfold Q6r at hc
   obtain ⟨l,_,rfl⟩:=List.mem_map.1 hc
   rfl
  by_cases e:k = j
  · subst e
    have e1:(Q6r r k).filter (λc=>c.fE == k) = Q6r r k:=List.filter_eq_self.2 λc hc=>by simp [hj c hc]
    have e2:ks.contains k = false:=by simpa using h1
    rw [e1,e2]
    simp
  · have e1:(Q6r r j).filter (λc=>c.fE == k) = []:=List.filter_eq_nil_iff.2 λc hc=>by simp [hj c hc]; omega
    rw [e1]
    have e2:(j :: ks).contains k = ks.contains k:=by simp [e]
    rw [e2]; rfl
theorem Q7m {r:Request} {k:Int} (h:0 ≤ k ∧ k < (Qnj r).length):Q4g r k = (Q6r r k).map (Qub r):=by
 unfold Q4g Q1p
 rw [Qzo r k _ (Qwt _ _)]
 rw [show (Qkd 0 (Qnj r).length).contains k = true by rw [List.contains_iff_mem,Ql6]; omega]
 rfl
theorem Jc1 {r:Request} (hc:Qh9 r = 0) {k:Int} (h:0 ≤ k ∧ k < (Qnj r).length):Q3a r.fJ (Q4g r k) = true:=by
 have hb:=(Qfv hc).1
 unfold Q30 at hb
 simp only [Bool.and_eq_true] at hb
 unfold Q3a
 rw [Q7m h,Bool.and_eq_true]
 refine ⟨hb.1.1.1.1.1.1.1.1.2,List.all_eq_true.2 λb hb=>?_⟩
 unfold Q6r at hb
 rw [List.map_map] at hb
 obtain ⟨l,hl,rfl⟩:=List.mem_map.1 hb
 exact (Jel (Jj8 l hl) k).2
theorem Jeu (r:Request) (k:Int):(Q4g r k).length ≤ 48:=by
 have h1:=List.length_filter_le (λc:Carton=>c.fE == k) (Q1p r)
 have h2:=Q2i r
 unfold Q4g
 rw [List.length_map]
 omega
theorem Jc4 {r:Request} (hc:Qh9 r = 0):∀ (ks:List Int) (s:List Spot × Int),(∀ k ∈ ks,0 ≤ k ∧ k < (Qnj r).length) → (ks.foldl (plS r) s).1.length = s.1.length + (Q4b r ks).length
 | [],s,_=>by simp [Q4b]
 | k :: ks,s,h=>by
  rw [List.foldl_cons,Jc4 hc ks _ λj hj=>h j (by simp [hj])]
  have hk:=h k (by simp)
  have h1:=Q9z (Jc1 hc hk)
  rw [Q7m hk,List.length_map] at h1
  simp only [plS,Q4b,List.length_append,List.length_map,Q7m hk,h1]
  omega
theorem Je9 (r:Request):(Jcz r).1.fU.length = (Jcz r).1.fQ.length ∧ (Jcz r).1.fQ.length ≤ 48 ∧ ∀ c ∈ (Jcz r).1.fQ,c.fM.length ≤ 12:=by
 unfold Jcz
 cases hc:Qh9 r == 0
 · exact ⟨rfl,by simp,by simp⟩
 · rw [cond_true]
   have:=Jc4 (r:=r) (by simpa using hc) (Qkd 0 (Qnj r).length) ([],0) λk hk=>by have:=Ql6.1 hk; omega
   exact ⟨by rw [this]; simp [Q1p],Q2i r,λc hc=>Q3y hc⟩
theorem Jfq {fu:Nat} {r:Request} (h:Sm fu r):Qr0 fu r = some (Jcz r):=by
 have hfu:=h.fu
 have hg:=(Qur r).1
 have hcl:=Q2i r
 unfold Qr0 Jcz
 rw [Q03 h,Qab]
 cases hc:Qh9 r == 0
 · rw [show (Qh9 r != 0) = true by simp only [bne,hc]; rfl]; rfl
 · have hz:Qh9 r = 0:=by simpa using hc
   rw [show (Qh9 r != 0) = false by simp [hz],cond_false,cond_true,Jio h,Qab,Jcn h,Qab]
   have L3:=Q9w ((Qnj r).length:Int) (λn (s:List Spot × Int) k=>Qcb fu r (Q1p r) (Qnj r) n s.1 s.2 k) (λks s=>some ((⟨Q1p r,(ks.foldl (plS r) s).1⟩:Plan),true)) (λks s=>(∀ k ∈ ks,0 ≤ k ∧ k < (Qnj r).length) ∧ s.1.length + 48 * ks.length ≤ 1000 ∧ 0 ≤ s.2 ∧ s.2 + 1000000 * ks.length ≤ 10000000) (by omega) ?_ ?_ (Qnj r).length fu ([],0) 0 (by omega) (by omega) (by omega) ⟨λk hk=>by have:=Ql6.1 hk; omega,by simp [Qen]; omega,by simp,by simp [Qen]; omega⟩
   · exact L3
   · intro n ⟨sp,base⟩ k ks k0 k1 hd hI ih
     obtain ⟨i1,i2,i3,i4⟩:(∀ j ∈ k :: ks,0 ≤ j ∧ j < (Qnj r).length) ∧ sp.length + 48 * (k :: ks).length ≤ 1000 ∧ 0 ≤ base ∧ base + 1000000 * ((k :: ks).length:Int) ≤ 10000000:=hI
     simp only [List.length_cons] at i2 i4
     simp only [Qcb.eq_2]
     unfold Qne
     rw [hd,cond_true]
     have L2:=lpI (Q1p r) (λm (bs:List Box) i=>Qf4 fu (Qcb fu r (Q1p r) (Qnj r) n) r (Q1p r) sp base k m bs i) (λcs bs=>Qac (Qm1 fu r.fJ (bs ++ (cs.filter λc=>c.fE == k).map (Qub r))) λx=>Qf5 fu (Qcb fu r (Q1p r) (Qnj r) n) base k x fu sp 0) (λcs bs=>bs.length + cs.length ≤ 48 ∧ ∀ c ∈ cs,c.fM.length ≤ 12) (by omega) ?_ ?_ fu [] ⟨by simpa using hcl,λc hc=>Q3y hc⟩ (by omega)
     · refine L2.trans ?_
       have hbl:=Jeu r k
       rw [List.nil_append,show ((Q1p r).filter λc=>c.fE == k).map (Qub r) = Q4g r k from rfl,Jdw hfu _ _ (by omega),Qab]
       have hsl:=Q9z (Jc1 hz ⟨k0,k1⟩)
       have hpb:=Q4y (spM r.fJ (Q4g r k))
       have hps:∀ s ∈ spM r.fJ (Q4g r k),s ∈ spM r.fJ (Q4g r k):=λ_ h=>h
       have ih':=ih (plS r (sp,base) k) ⟨λj hj=>i1 j (by simp [hj]),by simp [plS]; omega,by simp [plS]; omega,by simp [plS]; omega⟩
       rw [List.foldl_cons,← ih']
       have hS:=Jcr (fu:=fu) (l:=spM r.fJ (Q4g r k)) (by omega) (by omega)
       have hwf:∀ s ∈ spM r.fJ (Q4g r k),w64 (s.fJ + base) = s.fJ + base:=by
        intro s hs
        have:=Jgk (p:=r.fJ) (l:=Q4g r k) (by omega) s hs
        exact Qbp (by omega) (by omega)
       generalize hSP:spM r.fJ (Q4g r k) = S at hsl hpb hS hwf ⊢
       have L1:=lpI S (λm (o:List Spot) i=>Qf5 fu (Qcb fu r (Q1p r) (Qnj r) n) base k S m o i) (λxs o=>Qcb fu r (Q1p r) (Qnj r) n (o ++ xs.map (λt=>⟨t.fJ + base,t.fX,t.fY,t.fZ⟩)) (base + Qxw S) (w64 (k + 1))) (λxs o=>o.length + xs.length ≤ 1000 ∧ ∀ s ∈ xs,w64 (s.fJ + base) = s.fJ + base) (by omega) ?_ ?_ fu sp ⟨by omega,hwf⟩ (by omega)
       · refine L1.trans ?_
         simp only [plS,hSP]
       · intro m o i x xs hx hd hI ih
         obtain ⟨j1,j2⟩:=hI
         simp only [List.length_cons] at j1
         simp only [Qf5.eq_2]
         unfold Qnh
         rw [hd,cond_true,hx,Qab,j2 x (by simp),ap1 (by simp; omega),Qab,ih _ ⟨by simp; omega,λs hs=>j2 s (by simp [hs])⟩]
         simp
       · intro m o i hd hI
         simp only [Qf5.eq_2]
         unfold Qnh
         rw [hd,cond_false,hS,Qab,Qbp (n:=base + _) (by omega) (by omega)]
         simp
     · intro m bs i c cs hx hd hI ih
       obtain ⟨j1,j2⟩:=hI
       simp only [List.length_cons] at j1
       have hcu:=j2 c (by simp)
       simp only [Qf4.eq_2]
       unfold Qnw Qmn
       rw [hd,cond_true,hx,Qab,Qab,Q3v h c (by omega),Qab,ap1 (by simp; omega),Qab,ih _ ⟨by simp; omega,λc hc=>j2 c (by simp [hc])⟩,ih _ ⟨by omega,λc hc=>j2 c (by simp [hc])⟩,List.filter_cons]
       cases c.fE == k <;> simp
     · intro m bs i hd _
       simp only [Qf4.eq_2]
       unfold Qnw
       rw [hd,cond_false]; simp
   · intro n ⟨sp,base⟩ k hd _
     simp only [Qcb.eq_2]
     unfold Qne
     rw [hd,cond_false]; rfl
end Go.Proofs.YtpcmapfabndggaaGreat
/- Plans that are drawn are there, and small. -/
namespace Go.Proofs.YtpcmapfabndggaaGreat
open Go
open Enc (rd ow)
open Arg (argv)
open Ret (retv)
open Wf (wf)
def SmP (x:Plan):Prop:=x.fQ.length ≤ 60 ∧ x.fU.length ≤ 60 ∧ ∀ c ∈ x.fQ,c.fM.length ≤ 20
theorem Q57 (b:Nat):∀ (l:List Carton),(∀ c ∈ l,c.fM.length ≤ b) → Q60 l ≤ b * l.length
 | [],_=>by simp [Q60]
 | c :: l,h=>by
  have h1:=Q57 b l λd hd=>h d (by simp [hd])
  have h2:=h c (by simp)
  simp only [Q60,List.length_cons,Nat.mul_add]; omega
theorem SmP.sp {x:Plan} (h:SmP x):Sp x:=by
 have:=Q57 20 x.fQ h.2.2
 have:=h.1
 have:=h.2.1
 exact ⟨by omega,λc hc=>by have:=h.2.2 c hc; omega,by omega,by omega⟩
theorem Jho {l:List Carton} {i:Int} {y:Carton} (h:∀ c ∈ l,c.fM.length ≤ 20) (hy:y.fM.length ≤ 20):∀ c ∈ Qge l i y,c.fM.length ≤ 20:=by
 intro c hc
 unfold Qge at hc
 rcases List.mem_or_eq_of_mem_set hc with hc | rfl
 · exact h c hc
 · exact hy
theorem Jhg {fu:Nat} {b:List U8} (hb:b.length ≤ 1048576) (hf:2097153 ≤ fu):Tot (Qqd fu b) λx=>SmR x.1 ∧ SmP x.2:=by
 unfold Qqd Qca
 refine Tot.bind (Jb4 hb hf) λr hr=>?_
 rw [Jfq (hr.sm hf),Qab]
 obtain ⟨p1,p2,p3⟩:=Je9 r
 generalize Jcz r = P at p1 p2 p3 ⊢
 have q3:∀ c ∈ P.1.fQ,c.fM.length ≤ 20:=λc hc=>by have:=p3 c hc; omega
 refine Tot.bind (Q8m hb (by omega)) λc hc=>?_
 refine Tot.bif (λ_=>Tot.mk ⟨hr,by simp; omega,by simp; omega,q3⟩) λhne=>?_
 have hpos:0 < P.1.fQ.length:=by
  simp only [beq_eq_false_iff_ne] at hne
  omega
 refine Tot.bind (Qcz hc.re' _) λi hi=>?_
 have hi0:=hi.1.1
 have hi1:=hi.1.2 (by omega)
 refine Tot.bind (Qcz hi.2.re' _) λk hk=>?_
 refine Tot.bif (λ_=>?_) λ_=>?_
 · exact Tot.ix ⟨hi0,by omega⟩ λs hs=>Tot.ix ⟨hi0,by omega⟩ λs hs=>Tot.mk ⟨hr,by simp; omega,by simp [Qt4]; omega,q3⟩
 refine Tot.bif (λ_=>?_) λ_=>?_
 · exact Tot.bind (Qcz hk.2.re' _) λv hv=>Tot.ix ⟨hi0,by omega⟩ λs hs=>Tot.mk ⟨hr,by simp; omega,by simp [Qt4]; omega,q3⟩
 refine Tot.bif (λ_=>?_) λ_=>?_
 · exact Tot.bind (Qs5 hk.2.re' _ (by simp)) λv hv=>Tot.ix ⟨hi0,by omega⟩ λs hs=>Tot.mk ⟨hr,by simp [Qt4]; omega,by simp; omega,Jho q3 (q3 s hs)⟩
 refine Tot.bif (λ_=>?_) λ_=>?_
 · refine Tot.ix ⟨hi0,by omega⟩ λs hs=>Tot.bind (Qcz hk.2.re' _) λv hv=>Tot.ap (by have:=p3 s hs; simp; omega) (Tot.ix ⟨hi0,by omega⟩ λt ht=>Tot.mk ⟨hr,by simp [Qt4]; omega,by simp; omega,Jho q3 (by have:=p3 s hs; simp; omega)⟩)
 refine Tot.bif (λ_=>?_) λ_=>?_
 · exact Tot.ix ⟨hi0,by omega⟩ λs hs=>Tot.mk ⟨hr,by simp [Qt4]; omega,by simp; omega,Jho q3 (by simp)⟩
 refine Tot.bif (λ_=>?_) λ_=>?_
 · rw [Q3t (by omega),Qab]
   exact Tot.mk ⟨hr,by simp; omega,by simp; omega,q3⟩
 refine Tot.bif (λ_=>?_) λ_=>?_
 · exact Tot.bind (Qcz hk.2.re' _) λv hv=>Tot.ix ⟨hi0,by omega⟩ λs hs=>Tot.mk ⟨hr,by simp [Qt4]; omega,by simp; omega,Jho q3 (q3 s hs)⟩
 refine Tot.bif (λ_=>?_) λ_=>?_
 · refine Tot.ix ⟨hi0,by omega⟩ λs hs=>?_
   have:=p3 s hs
   unfold Qj7
   rw [ap1 (by simp; omega),Qab,Qab]
   refine Tot.ap (by simp; omega) (Tot.ap (by simp; omega) (Tot.mk ⟨hr,by simp; omega,by simp; omega,λc hc=>?_⟩))
   rcases List.mem_append.1 hc with hc | hc
   · exact q3 c hc
   · rw [List.mem_singleton.1 hc]; simp; omega
 refine Tot.bif (λ_=>?_) λ_=>?_
 · exact Tot.bind (Qs5 hk.2.re' _ (by simp)) λv hv=>Tot.ix ⟨hi0,by omega⟩ λs hs=>Tot.mk ⟨hr,by simp; omega,by simp [Qt4]; omega,q3⟩
 · exact Tot.mk ⟨hr,by simp; omega,by simp; omega,q3⟩
end Go.Proofs.YtpcmapfabndggaaGreat
/- Plans of which one carton is raised; a plan is as itself. -/
namespace Go.Proofs.YtpcmapfabndggaaGreat
open Go
open Enc (rd ow)
open Arg (argv)
open Ret (retv)
open Wf (wf)
theorem Q84 {fu:Nat} {b:List U8} (hb:b.length ≤ 1048576) (hf:2097153 ≤ fu):Tot (Qmq fu b) λx=>SmR x.1 ∧ SmP x.2:=by
 unfold Qmq Qe2
 refine Tot.bind (Jhg hb hf) λx hx=>Tot.bind (Q8m hb (by omega)) λc hc=>?_
 obtain ⟨hr,p1,p2,p3⟩:=hx
 refine Tot.bif (λh0=>?_) λ_=>Tot.mk ⟨hr,p1,p2,p3⟩
 have h0:(x.2.fU.length:Int) > 0:=by simpa using h0
 refine Tot.bif (λ_=>?_) λ_=>Tot.mk ⟨hr,p1,p2,p3⟩
 refine Tot.bind (Q2l hc.re' _) λy hy=>Tot.bif (λ_=>?_) λ_=>Tot.mk ⟨hr,p1,p2,p3⟩
 have e:w64 ((x.2.fU.length:Int) - 1) = (x.2.fU.length:Int) - 1:=Qbp (by omega) (by omega)
 rw [e]
 exact Tot.ix ⟨by omega,by omega⟩ λs _=>Tot.bind (Qcz hy.re' _) λv hv=>Tot.ix ⟨by omega,by omega⟩ λt _=>Tot.mk ⟨hr,p1,by simp [Qge]; omega,p3⟩
theorem Jba {fu:Nat} (l:List Int) (hl:l.length ≤ 1048576) (hf:l.length < fu):Qre fu l l = some true:=by
 unfold Qre
 rw [Qbb (by simp)]
 refine lp l (λn (_:Unit) i=>Qhc fu l l n i) (λ_ _=>some true) (by omega) ?_ ?_ fu () hf
 · intro n s i x xs hx hd ih
   simp only [Qhc.eq_2]
   unfold Qnd
   rw [hd,cond_true,hx,Qab,Qab,Qbb (by simp),ih ()]
 · intro n s i hd
   simp only [Qhc.eq_2]
   unfold Qnd
   rw [hd,cond_false]
theorem Q8b {fu:Nat} {x:Plan} (h:Sp x) (hf:1048577 ≤ fu):Qgw fu x x = some true:=by
 unfold Qgw Qn0
 rw [Qbb (by simp),Qbb (by simp)]
 have hL1:Qeo fu x x fu 0 = some true:=by
  refine lp x.fU (λn (_:Unit) i=>Qeo fu x x n i) (λ_ _=>some true) (by have:=h.spots; omega) ?_ ?_ fu () (by have:=h.spots; omega)
  · intro n s i y xs hx hd ih
    simp only [Qeo.eq_2]
    unfold Qjq
    rw [hd,cond_true,hx,Qab,Qab,Qbb (by simp),ih ()]
  · intro n s i hd
    simp only [Qeo.eq_2]
    unfold Qjq
    rw [hd,cond_false]
 refine lp x.fQ (λn (_:Unit) i=>Qer fu x x n i) (λ_ _=>some true) (by have:=h.cars; omega) ?_ ?_ fu () (by have:=h.cars; omega)
 · intro n s i y xs hx hd ih
   have hu:=h.units y (Qd5 hx)
   simp only [Qer.eq_2]
   unfold Qjc Qnc
   rw [hd,cond_true]
   simp only [hx,Qab,bne_self_eq_false,cond_false,Jba (fu:=fu) y.fM hu (by omega),Bool.not_true]
   exact ih ()
 · intro n s i hd
   simp only [Qer.eq_2]
   unfold Qjc
   rw [hd,cond_false]; exact hL1
end Go.Proofs.YtpcmapfabndggaaGreat
