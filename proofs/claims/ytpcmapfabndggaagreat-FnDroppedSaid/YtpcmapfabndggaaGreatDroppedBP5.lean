import Derived.Test.YtpcmapfabndggaaGreatDroppedBP4
set_option linter.unusedSimpArgs false
set_option linter.unusedVariables false
/- The plan of an order, by spec. -/
namespace Go.Proofs.YtpcmapfabndggaaGreat
open Go
open Enc (rd ow)
open Arg (argv)
open Ret (retv)
open Wf (wf)
theorem Q7y {a b:List Int} (h:a.Perm b):Qwr a = Qwr b:=by
 induction h with
 | nil=>rfl
 | cons x _ ih=>simp [ih]
 | swap x y l=>simp; omega
 | trans _ _ h1 h2=>rw [h1,h2]
theorem Jbb {r:Request} {a b:List Int} (h:a.Perm b):(Qxg r a).Perm (Qxg r b):=h.filterMap _
theorem Jba {r:Request} {a b:List Int} (h:a.Perm b):Qv9 r a = Qv9 r b:=Q7y ((Jbb h).map _)
theorem Q51 {f:Typ → Int}:∀ (xs pre:List Typ) (t:Typ),Q7g f pre xs = true → t ∈ xs → (∀ y ∈ pre,f y ≠ f t) ∧ xs.find? (λy=>f y == f t) = some t
 | [],_,_,_,h=>by simp at h
 | x :: xs,pre,t,hn,h=>by
  simp only [Q7g,Bool.and_eq_true,Bool.not_eq_true'] at hn
  have hx:=List.any_eq_false.1 hn.1
  rcases List.mem_cons.1 h with rfl | h
  · exact ⟨λy hy e=>hx y hy (by simp [e]),by simp⟩
  · have ih:=Q51 xs (pre ++ [x]) t hn.2 h
    refine ⟨λy hy=>ih.1 y (by simp [hy]),?_⟩
    have:=ih.1 x (by simp)
    have e:(f x == f t) = false:=by simpa using this
    rw [List.find?_cons,e]
    exact ih.2
theorem Jce {r:Request} (hc:Qh3 r = 0) {t:Typ} (ht:t ∈ r.fT):Qtn r t.f8 = some t:=by
 have h:=(Qfq hc).2.1
 unfold Q7n at h
 simp only [Bool.and_eq_true] at h
 exact (Q51 r.fT [] t h.1.1.1 ht).2
theorem Q6o (r:Request) (us:List Int):∀ (l:List Typ) (s:Typ × Bool),(∀ t ∈ l,t ∈ r.fT) → (s.2 = true → s.1 ∈ r.fT ∧ Qz8 r us s.1 = true) → (l.foldl (chp r us) s).2 = true → (l.foldl (chp r us) s).1 ∈ r.fT ∧ Qz8 r us (l.foldl (chp r us) s).1 = true
 | [],s,_,h,h2=>h h2
 | t :: l,s,hl,h,h2=>by
  rw [List.foldl_cons] at h2 ⊢
  refine Q6o r us l _ (λx hx=>hl x (by simp [hx])) (λh3=>?_) h2
  unfold chp at h3 ⊢
  cases hh:Qz8 r us t && (!s.2 || (decide (t.fK < s.1.fK) || (t.fK == s.1.fK && decide (t.f8 < s.1.f8))))
  · rw [hh,cond_false] at h3
    rw [cond_false]
    exact h h3
  · rw [Bool.and_eq_true] at hh
    rw [cond_true]
    exact ⟨hl t (by simp),hh.1⟩
theorem Jb0 {r:Request} {us l:List Int} (h:Qc r (Qwp r us) l):Qz8 r l (Qyg r) = true:=by
 obtain ⟨h1,h2,h3⟩:=h
 obtain ⟨u,hu⟩:=List.exists_mem_of_ne_nil _ h1
 have hc:=Q6a (Qzi (h2 u hu))
 have hz:=Qfq hc
 unfold Qz8
 rw [show (Qh3 r == 0) = true by simp [hc],Bool.true_and,h3,Bool.and_true,List.all_eq_true]
 intro v hv
 have hv':=Qzi (h2 v hv)
 unfold uOk
 rw [Qvm hv',Bool.and_eq_true]
 exact ⟨rfl,hz.2.2.2.1 _ (Q2k hv')⟩
theorem Jg5 {r:Request} {us l:List Int} (h:Qc r (Qwp r us) l):Qh3 r = 0 ∧ (Qxk r l).2 = true ∧ (Qxk r l).1 ∈ r.fT ∧ Qz8 r l (Qxk r l).1 = true ∧ Qtn r (Qxk r l).1.f8 = some (Qxk r l).1:=by
 obtain ⟨u,hu⟩:=List.exists_mem_of_ne_nil _ h.1
 have hc:=Q6a (Qzi (h.2.1 u hu))
 have h2:=Q5h (Q7k hc).2.1 (Jb0 h)
 have h3:=Q6o r l r.fT (Jfs,false) (λ_ h=>h) (by simp) h2
 exact ⟨hc,h2,h3.1,h3.2,Jce hc h3.1⟩
theorem Jdu {r:Request} {us l:List Int} (h:Qc r (Qwp r us) l):1 ≤ Qv9 r l:=by
 obtain ⟨h1,h2,_⟩:=h
 match l,h1 with
 | u :: l,_ =>
  have hu:=Qzi (h2 u (by simp))
  have hc:=Q6a hu
  have:=(Qsu (Qfq hc).1).1 _ (Q2k hu)
  simp only [Qxl,Bool.and_eq_true,Qd3] at this
  have h3:=(Q45 r l).1
  rw [Q6g]
  omega
theorem Jd3 {r:Request} {us l:List Int} (h:Qc r (Qwp r us) l) (k:Int):Qua r (Jcd r k l) = ⟨(Qxk r l).1.fW,(Qxk r l).1.fD,(Qxk r l).1.fH,(Qxk r l).1.f7 + Qv9 r l⟩ ∧ Jep r.fJ (Qua r (Jcd r k l)) = true:=by
 obtain ⟨hc,_,ht,hh,hf⟩:=Jg5 h
 have hz:=Qfq hc
 have e:Qua r (Jcd r k l) = ⟨(Qxk r l).1.fW,(Qxk r l).1.fD,(Qxk r l).1.fH,(Qxk r l).1.f7 + Qv9 r l⟩:=by
  unfold Qua Jcd
  simp only [hf,show (Qh3 r == 0) = true by simp [hc],cond_true,Jba (Qzh l)]
 refine ⟨e,?_⟩
 have ht1:=Qzm hz.1 _ ht
 have ht2:=hz.2.2.2.2 _ ht
 simp only [Q14,Bool.and_eq_true,Qd3] at ht1
 simp only [Q7e,Bool.or_eq_false_iff,decide_eq_false_iff_not] at ht2
 rw [Qbp (by omega) (by omega)] at ht2
 have hg:=Jdu h
 unfold Qz8 at hh
 simp only [Bool.and_eq_true] at hh
 have hw:=hh.2.2
 unfold Q4y at hw
 simp only [Bool.and_eq_true,decide_eq_true_eq] at hw
 rw [e]
 simp only [Jep,Bool.and_eq_true,Qd3]
 omega
def Q4n (r:Request) (k:Int):List Box:=((Q18 r).filter λc=>c.fE == k).map (Qua r)
def plS (r:Request) (s:List Spot × Int) (k:Int):List Spot × Int:=(s.1 ++ (spM r.fJ (Q4n r k)).map (λt=>⟨t.fJ + s.2,t.fX,t.fY,t.fZ⟩),s.2 + Qx0 (spM r.fJ (Q4n r k)))
def Jcz (r:Request):Plan × Bool:=bif Qh3 r == 0 then (⟨Q18 r,((Qj3 0 (Qn2 r).length).foldl (plS r) ([],0)).1⟩,true) else (⟨[],[]⟩,false)
theorem Qyq (r:Request) (k:Int):∀ (ks:List Int),ks.Nodup → ((Q4b r ks).filter λc=>c.fE == k) = bif ks.contains k then Q6v r k else []
 | [],_=>rfl
 | j :: ks,hn=>by
  obtain ⟨h1,h2⟩:=List.nodup_cons.1 hn
  have ih:=Qyq r k ks h2
  rw [Q4b,List.filter_append,ih]
  have hj:∀ c ∈ Q6v r j,c.fE = j:=by
   intro c hc
   unfold Q6v at hc
   obtain ⟨l,_,rfl⟩:=List.mem_map.1 hc
   rfl
  by_cases e:k = j
  · subst e
    have e1:(Q6v r k).filter (λc=>c.fE == k) = Q6v r k:=List.filter_eq_self.2 λc hc=>by simp [hj c hc]
    have e2:ks.contains k = false:=by simpa using h1
    rw [e1,e2]
    simp
  · have e1:(Q6v r j).filter (λc=>c.fE == k) = []:=List.filter_eq_nil_iff.2 λc hc=>by simp [hj c hc]; omega
    rw [e1]
    have e2:(j :: ks).contains k = ks.contains k:=by simp [e]
    rw [e2]; rfl
theorem Q8q {r:Request} {k:Int} (h:0 ≤ k ∧ k < (Qn2 r).length):Q4n r k = (Q6v r k).map (Qua r):=by
 unfold Q4n Q18
 rw [Qyq r k _ (Qww _ _)]
 rw [show (Qj3 0 (Qn2 r).length).contains k = true by rw [List.contains_iff_mem,Qmb]; omega]
 rfl
theorem Jdc {r:Request} (hc:Qh3 r = 0) {k:Int} (h:0 ≤ k ∧ k < (Qn2 r).length):Q29 r.fJ (Q4n r k) = true:=by
 have hb:=(Qfq hc).1
 unfold Q3y at hb
 simp only [Bool.and_eq_true] at hb
 unfold Q29
 rw [Q8q h,Bool.and_eq_true]
 refine ⟨hb.1.1.1.1.1.1.1.1.2,List.all_eq_true.2 λb hb=>?_⟩
 unfold Q6v at hb
 rw [List.map_map] at hb
 obtain ⟨l,hl,rfl⟩:=List.mem_map.1 hb
 exact (Jd3 (Jj0 l hl) k).2
theorem Jej (r:Request) (k:Int):(Q4n r k).length ≤ 48:=by
 have h1:=List.length_filter_le (λc:Carton=>c.fE == k) (Q18 r)
 have h2:=Q23 r
 unfold Q4n
 rw [List.length_map]
 omega
theorem Jdf {r:Request} (hc:Qh3 r = 0):∀ (ks:List Int) (s:List Spot × Int),(∀ k ∈ ks,0 ≤ k ∧ k < (Qn2 r).length) → (ks.foldl (plS r) s).1.length = s.1.length + (Q4b r ks).length
 | [],s,_=>by simp [Q4b]
 | k :: ks,s,h=>by
  rw [List.foldl_cons,Jdf hc ks _ λj hj=>h j (by simp [hj])]
  have hk:=h k (by simp)
  have h1:=Q9o (Jdc hc hk)
  rw [Q8q hk,List.length_map] at h1
  simp only [plS,Q4b,List.length_append,List.length_map,Q8q hk,h1]
  omega
theorem Jdj (r:Request):(Jcz r).1.fU.length = (Jcz r).1.fQ.length ∧ (Jcz r).1.fQ.length ≤ 48 ∧ ∀ c ∈ (Jcz r).1.fQ,c.fM.length ≤ 12:=by
 unfold Jcz
 cases hc:Qh3 r == 0
 · exact ⟨rfl,by simp,by simp⟩
 · rw [cond_true]
   have:=Jdf (r:=r) (by simpa using hc) (Qj3 0 (Qn2 r).length) ([],0) λk hk=>by have:=Qmb.1 hk; omega
   exact ⟨by rw [this]; simp [Q18],Q23 r,λc hc=>Q3d hc⟩
theorem Jgs {fu:Nat} {r:Request} (h:Sm fu r):Qrp fu r = some (Jcz r):=by
 have hfu:=h.fu
 have hg:=(Quz r).1
 have hcl:=Q23 r
 unfold Qrp Jcz
 rw [Q0q h,Qab]
 cases hc:Qh3 r == 0
 · rw [show (Qh3 r != 0) = true by simp only [bne,hc]; rfl]; rfl
 · have hz:Qh3 r = 0:=by simpa using hc
   rw [show (Qh3 r != 0) = false by simp [hz],cond_false,cond_true,Jjb h,Qab,Jb7 h,Qab]
   have L3:=Jai ((Qn2 r).length:Int) (λn (s:List Spot × Int) k=>Qcb fu r (Q18 r) (Qn2 r) n s.1 s.2 k) (λks s=>some ((⟨Q18 r,(ks.foldl (plS r) s).1⟩:Plan),true)) (λks s=>(∀ k ∈ ks,0 ≤ k ∧ k < (Qn2 r).length) ∧ s.1.length + 48 * ks.length ≤ 1000 ∧ 0 ≤ s.2 ∧ s.2 + 1000000 * ks.length ≤ 10000000) (by omega) ?_ ?_ (Qn2 r).length fu ([],0) 0 (by omega) (by omega) (by omega) ⟨λk hk=>by have:=Qmb.1 hk; omega,by simp [Qer]; omega,by simp,by simp [Qer]; omega⟩
   · exact L3
   · intro n ⟨sp,base⟩ k ks k0 k1 hd hI ih
     obtain ⟨i1,i2,i3,i4⟩:(∀ j ∈ k :: ks,0 ≤ j ∧ j < (Qn2 r).length) ∧ sp.length + 48 * (k :: ks).length ≤ 1000 ∧ 0 ≤ base ∧ base + 1000000 * ((k :: ks).length:Int) ≤ 10000000:=hI
     simp only [List.length_cons] at i2 i4
     simp only [Qcb.eq_2]
     unfold Qnz
     rw [hd,cond_true]
     have L2:=lpI (Q18 r) (λm (bs:List Box) i=>Qf5 fu (Qcb fu r (Q18 r) (Qn2 r) n) r (Q18 r) sp base k m bs i) (λcs bs=>Qac (Qm4 fu r.fJ (bs ++ (cs.filter λc=>c.fE == k).map (Qua r))) λx=>Qf7 fu (Qcb fu r (Q18 r) (Qn2 r) n) base k x fu sp 0) (λcs bs=>bs.length + cs.length ≤ 48 ∧ ∀ c ∈ cs,c.fM.length ≤ 12) (by omega) ?_ ?_ fu [] ⟨by simpa using hcl,λc hc=>Q3d hc⟩ (by omega)
     · refine L2.trans ?_
       have hbl:=Jej r k
       rw [List.nil_append,show ((Q18 r).filter λc=>c.fE == k).map (Qua r) = Q4n r k from rfl,Jef hfu _ _ (by omega),Qab]
       have hsl:=Q9o (Jdc hz ⟨k0,k1⟩)
       have hpb:=Q48 (spM r.fJ (Q4n r k))
       have hps:∀ s ∈ spM r.fJ (Q4n r k),s ∈ spM r.fJ (Q4n r k):=λ_ h=>h
       have ih':=ih (plS r (sp,base) k) ⟨λj hj=>i1 j (by simp [hj]),by simp [plS]; omega,by simp [plS]; omega,by simp [plS]; omega⟩
       rw [List.foldl_cons,← ih']
       have hS:=Jcp (fu:=fu) (l:=spM r.fJ (Q4n r k)) (by omega) (by omega)
       have hwf:∀ s ∈ spM r.fJ (Q4n r k),w64 (s.fJ + base) = s.fJ + base:=by
        intro s hs
        have:=Jfu (p:=r.fJ) (l:=Q4n r k) (by omega) s hs
        exact Qbp (by omega) (by omega)
       generalize hSP:spM r.fJ (Q4n r k) = S at hsl hpb hS hwf ⊢
       have L1:=lpI S (λm (o:List Spot) i=>Qf7 fu (Qcb fu r (Q18 r) (Qn2 r) n) base k S m o i) (λxs o=>Qcb fu r (Q18 r) (Qn2 r) n (o ++ xs.map (λt=>⟨t.fJ + base,t.fX,t.fY,t.fZ⟩)) (base + Qx0 S) (w64 (k + 1))) (λxs o=>o.length + xs.length ≤ 1000 ∧ ∀ s ∈ xs,w64 (s.fJ + base) = s.fJ + base) (by omega) ?_ ?_ fu sp ⟨by omega,hwf⟩ (by omega)
       · refine L1.trans ?_
         simp only [plS,hSP]
       · intro m o i x xs hx hd hI ih
         obtain ⟨j1,j2⟩:=hI
         simp only [List.length_cons] at j1
         simp only [Qf7.eq_2]
         unfold Qnt
         rw [hd,cond_true,hx,Qab,j2 x (by simp),ap1 (by simp; omega),Qab,ih _ ⟨by simp; omega,λs hs=>j2 s (by simp [hs])⟩]
         simp
       · intro m o i hd hI
         simp only [Qf7.eq_2]
         unfold Qnt
         rw [hd,cond_false,hS,Qab,Qbp (n:=base + _) (by omega) (by omega)]
         simp
     · intro m bs i c cs hx hd hI ih
       obtain ⟨j1,j2⟩:=hI
       simp only [List.length_cons] at j1
       have hcu:=j2 c (by simp)
       simp only [Qf5.eq_2]
       unfold Qns Qmn
       rw [hd,cond_true,hx,Qab,Qab,Q3x h c (by omega),Qab,ap1 (by simp; omega),Qab,ih _ ⟨by simp; omega,λc hc=>j2 c (by simp [hc])⟩,ih _ ⟨by omega,λc hc=>j2 c (by simp [hc])⟩,List.filter_cons]
       cases c.fE == k <;> simp
     · intro m bs i hd _
       simp only [Qf5.eq_2]
       unfold Qns
       rw [hd,cond_false]; simp
   · intro n ⟨sp,base⟩ k hd _
     simp only [Qcb.eq_2]
     unfold Qnz
     rw [hd,cond_false]; rfl
end Go.Proofs.YtpcmapfabndggaaGreat
/- Plans that are drawn are there, and small. -/
namespace Go.Proofs.YtpcmapfabndggaaGreat
open Go
open Enc (rd ow)
open Arg (argv)
open Ret (retv)
open Wf (wf)
def SmP (x:Plan):Prop:=x.fQ.length ≤ 60 ∧ x.fU.length ≤ 60 ∧ ∀ c ∈ x.fQ,c.fM.length ≤ 20
theorem Q56 (b:Nat):∀ (l:List Carton),(∀ c ∈ l,c.fM.length ≤ b) → Q6z l ≤ b * l.length
 | [],_=>by simp [Q6z]
 | c :: l,h=>by
  have h1:=Q56 b l λd hd=>h d (by simp [hd])
  have h2:=h c (by simp)
  simp only [Q6z,List.length_cons,Nat.mul_add]; omega
theorem SmP.sp {x:Plan} (h:SmP x):Sp x:=by
 have:=Q56 20 x.fQ h.2.2
 have:=h.1
 have:=h.2.1
 exact ⟨by omega,λc hc=>by have:=h.2.2 c hc; omega,by omega,by omega⟩
theorem Jhl {l:List Carton} {i:Int} {y:Carton} (h:∀ c ∈ l,c.fM.length ≤ 20) (hy:y.fM.length ≤ 20):∀ c ∈ Qge l i y,c.fM.length ≤ 20:=by
 intro c hc
 unfold Qge at hc
 rcases List.mem_or_eq_of_mem_set hc with hc | rfl
 · exact h c hc
 · exact hy
theorem Jgj {fu:Nat} {b:List U8} (hb:b.length ≤ 1048576) (hf:2097153 ≤ fu):Tot (Qqf fu b) λx=>SmR x.1 ∧ SmP x.2:=by
 unfold Qqf Qca
 refine Tot.bind (Jbs hb hf) λr hr=>?_
 rw [Jgs (hr.sm hf),Qab]
 obtain ⟨p1,p2,p3⟩:=Jdj r
 generalize Jcz r = P at p1 p2 p3 ⊢
 have q3:∀ c ∈ P.1.fQ,c.fM.length ≤ 20:=λc hc=>by have:=p3 c hc; omega
 refine Tot.bind (Q9b hb (by omega)) λc hc=>?_
 refine Tot.bif (λ_=>Tot.mk ⟨hr,by simp; omega,by simp; omega,q3⟩) λhne=>?_
 have hpos:0 < P.1.fQ.length:=by
  simp only [beq_eq_false_iff_ne] at hne
  omega
 refine Tot.bind (Qcz hc.re' _) λi hi=>?_
 have hi0:=hi.1.1
 have hi1:=hi.1.2 (by omega)
 refine Tot.bind (Qcz hi.2.re' _) λk hk=>?_
 refine Tot.bif (λ_=>?_) λ_=>?_
 · exact Tot.ix ⟨hi0,by omega⟩ λs hs=>Tot.ix ⟨hi0,by omega⟩ λs hs=>Tot.mk ⟨hr,by simp; omega,by simp [Qt7]; omega,q3⟩
 refine Tot.bif (λ_=>?_) λ_=>?_
 · exact Tot.bind (Qcz hk.2.re' _) λv hv=>Tot.ix ⟨hi0,by omega⟩ λs hs=>Tot.mk ⟨hr,by simp; omega,by simp [Qt7]; omega,q3⟩
 refine Tot.bif (λ_=>?_) λ_=>?_
 · exact Tot.bind (Qs5 hk.2.re' _ (by simp)) λv hv=>Tot.ix ⟨hi0,by omega⟩ λs hs=>Tot.mk ⟨hr,by simp [Qt7]; omega,by simp; omega,Jhl q3 (q3 s hs)⟩
 refine Tot.bif (λ_=>?_) λ_=>?_
 · refine Tot.ix ⟨hi0,by omega⟩ λs hs=>Tot.bind (Qcz hk.2.re' _) λv hv=>Tot.ap (by have:=p3 s hs; simp; omega) (Tot.ix ⟨hi0,by omega⟩ λt ht=>Tot.mk ⟨hr,by simp [Qt7]; omega,by simp; omega,Jhl q3 (by have:=p3 s hs; simp; omega)⟩)
 refine Tot.bif (λ_=>?_) λ_=>?_
 · exact Tot.ix ⟨hi0,by omega⟩ λs hs=>Tot.mk ⟨hr,by simp [Qt7]; omega,by simp; omega,Jhl q3 (by simp)⟩
 refine Tot.bif (λ_=>?_) λ_=>?_
 · rw [Q3n (by omega),Qab]
   exact Tot.mk ⟨hr,by simp; omega,by simp; omega,q3⟩
 refine Tot.bif (λ_=>?_) λ_=>?_
 · exact Tot.bind (Qcz hk.2.re' _) λv hv=>Tot.ix ⟨hi0,by omega⟩ λs hs=>Tot.mk ⟨hr,by simp [Qt7]; omega,by simp; omega,Jhl q3 (q3 s hs)⟩
 refine Tot.bif (λ_=>?_) λ_=>?_
 · refine Tot.ix ⟨hi0,by omega⟩ λs hs=>?_
   have:=p3 s hs
   unfold Qkg
   rw [ap1 (by simp; omega),Qab,Qab]
   refine Tot.ap (by simp; omega) (Tot.ap (by simp; omega) (Tot.mk ⟨hr,by simp; omega,by simp; omega,λc hc=>?_⟩))
   rcases List.mem_append.1 hc with hc | hc
   · exact q3 c hc
   · rw [List.mem_singleton.1 hc]; simp; omega
 refine Tot.bif (λ_=>?_) λ_=>?_
 · exact Tot.bind (Qs5 hk.2.re' _ (by simp)) λv hv=>Tot.ix ⟨hi0,by omega⟩ λs hs=>Tot.mk ⟨hr,by simp; omega,by simp [Qt7]; omega,q3⟩
 · exact Tot.mk ⟨hr,by simp; omega,by simp; omega,q3⟩
end Go.Proofs.YtpcmapfabndggaaGreat
/- Plans of which one carton is raised; a plan is as itself. -/
namespace Go.Proofs.YtpcmapfabndggaaGreat
open Go
open Enc (rd ow)
open Arg (argv)
open Ret (retv)
open Wf (wf)
theorem Jaj {fu:Nat} {b:List U8} (hb:b.length ≤ 1048576) (hf:2097153 ≤ fu):Tot (Qmz fu b) λx=>SmR x.1 ∧ SmP x.2:=by
 unfold Qmz Qe2
 refine Tot.bind (Jgj hb hf) λx hx=>Tot.bind (Q9b hb (by omega)) λc hc=>?_
 obtain ⟨hr,p1,p2,p3⟩:=hx
 refine Tot.bif (λh0=>?_) λ_=>Tot.mk ⟨hr,p1,p2,p3⟩
 have h0:(x.2.fU.length:Int) > 0:=by simpa using h0
 refine Tot.bif (λ_=>?_) λ_=>Tot.mk ⟨hr,p1,p2,p3⟩
 refine Tot.bind (Q1p hc.re' _) λy hy=>Tot.bif (λ_=>?_) λ_=>Tot.mk ⟨hr,p1,p2,p3⟩
 have e:w64 ((x.2.fU.length:Int) - 1) = (x.2.fU.length:Int) - 1:=Qbp (by omega) (by omega)
 rw [e]
 exact Tot.ix ⟨by omega,by omega⟩ λs _=>Tot.bind (Qcz hy.re' _) λv hv=>Tot.ix ⟨by omega,by omega⟩ λt _=>Tot.mk ⟨hr,p1,by simp [Qge]; omega,p3⟩
theorem Jca {fu:Nat} (l:List Int) (hl:l.length ≤ 1048576) (hf:l.length < fu):Qrd fu l l = some true:=by
 unfold Qrd
 rw [Qbb (by simp)]
 refine lp l (λn (_:Unit) i=>Qhd fu l l n i) (λ_ _=>some true) (by omega) ?_ ?_ fu () hf
 · intro n s i x xs hx hd ih
   simp only [Qhd.eq_2]
   unfold Qnp
   rw [hd,cond_true,hx,Qab,Qab,Qbb (by simp),ih ()]
 · intro n s i hd
   simp only [Qhd.eq_2]
   unfold Qnp
   rw [hd,cond_false]
theorem Q8y {fu:Nat} {x:Plan} (h:Sp x) (hf:1048577 ≤ fu):Qg1 fu x x = some true:=by
 unfold Qg1 Qn6
 rw [Qbb (by simp),Qbb (by simp)]
 have hL1:Qeo fu x x fu 0 = some true:=by
  refine lp x.fU (λn (_:Unit) i=>Qeo fu x x n i) (λ_ _=>some true) (by have:=h.spots; omega) ?_ ?_ fu () (by have:=h.spots; omega)
  · intro n s i y xs hx hd ih
    simp only [Qeo.eq_2]
    unfold Qja
    rw [hd,cond_true,hx,Qab,Qab,Qbb (by simp),ih ()]
  · intro n s i hd
    simp only [Qeo.eq_2]
    unfold Qja
    rw [hd,cond_false]
 refine lp x.fQ (λn (_:Unit) i=>Qek fu x x n i) (λ_ _=>some true) (by have:=h.cars; omega) ?_ ?_ fu () (by have:=h.cars; omega)
 · intro n s i y xs hx hd ih
   have hu:=h.units y (Qd5 hx)
   simp only [Qek.eq_2]
   unfold Qjz Qnh
   rw [hd,cond_true]
   simp only [hx,Qab,bne_self_eq_false,cond_false,Jca (fu:=fu) y.fM hu (by omega),Bool.not_true]
   exact ih ()
 · intro n s i hd
   simp only [Qek.eq_2]
   unfold Qjz
   rw [hd,cond_false]; exact hL1
end Go.Proofs.YtpcmapfabndggaaGreat
