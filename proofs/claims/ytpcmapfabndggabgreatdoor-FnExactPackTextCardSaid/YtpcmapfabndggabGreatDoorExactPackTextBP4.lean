/- ExactPackTextBP: pla.. -/
import Derived.Test.YtpcmapfabndggabGreatDoorExactPackTextBP3
set_option linter.unusedSimpArgs false
set_option linter.unusedVariables false
namespace Go.Proofs.YtpcmapfabndggabGreatDoor
open Go
open Enc (rd ow)
open Arg (argv)
open Ret (retv)
open Wf (wf)
theorem Jbc {fu:Nat} {k7:List Load→Int→Option (List Load)} {i:Int} {b:Layer} {o:List Load} {j:Nat} {s:Load} (hs:o[j]? = some s) (hl:s.fK.length≤1000000)
    (h1:-1000000000≤s.fH+b.fH∧s.fH+b.fH≤1000000000) (h2:-1000000000≤s.fQ+b.fQ∧s.fQ+b.fQ≤1000000000):Qdl fu k7 i b o (j:Int)=k7 (o.set j (Qs8 s i b)) (w64 (i+1)):=by
 unfold Qdl Qn2
 rw [Qlf,hs,Qab,ap1 (by simp; omega),Qab]
 simp only [Qab,Q1z,List.set_set,Jc7]
 rw [Qa1 (n:=s.fH+b.fH) (by omega) (by omega),Qa1 (n:=s.fQ+b.fQ) (by omega) (by omega)]
 rfl
theorem Qwt (fu:Nat) (l:List Layer) (f:Layer→Option Bool) (g:Layer→Bool) (hg:∀ b,f b=some (g b)) (h:l.length≤1048576) (hf:l.length<fu) :
    Qbj fu l f=some (l.any g):=by
 unfold Qbj Qcm
 have key:∀ (m i n:Nat),l.length - i=m→i≤l.length→m<n→∃ r,Qar fu l f n i=some r∧decide (r≥0)=(l.drop i).any g:=by
  intro m
  induction m with
  | zero =>
   intro i n hm hi hn
   obtain ⟨n,rfl⟩:∃ k,n=k+1:=⟨n - 1,by omega⟩
   rw [Qar.eq_2]
   unfold Qb2
   rw [Qam (by simp; omega),List.drop_eq_nil_of_le (by omega)]
   exact ⟨_,rfl,rfl⟩
  | succ m ih =>
   intro i n hm hi hn
   obtain ⟨n,rfl⟩:∃ k,n=k+1:=⟨n - 1,by omega⟩
   have hlt:i<l.length:=by omega
   rw [Qar.eq_2]
   unfold Qb2
   rw [Qa0 (by simpa using hlt),Jcc (Jcr (List.getElem?_eq_getElem hlt)),hg,Qab,List.drop_eq_getElem_cons hlt,List.any_cons]
   cases hgx:g l[i]
   · rw [Qam rfl,Qa1 (by omega) (by omega),Bool.false_or]
     have:=ih (i+1) n (by omega) (by omega) (by omega)
     simpa using this
   · rw [Qa0 rfl]
     exact ⟨_,rfl,by simp⟩
 obtain ⟨r,h1,h2⟩:=key l.length 0 fu (by omega) (by omega) hf
 have h1':Qar fu l f fu 0=some r:=h1
 rw [h1',Qab,h2]
 rfl
theorem Jhh {fu:Nat} (p:Pallet) (l:List Layer) (hl:l.length≤1048576) (hf:l.length<fu):Qm4 fu p l=some (Qu0 p&&l.all λs=>okL p s.fD s.fH s.fQ):=by
 unfold Qm4
 have e:∀ a b c:Int,inB a b c=inb a b c:=λa b c=>Bool.eq_iff_iff.2 (by rw [Q3o,Qdc])
 have ep:Qs4 p=Qu0 p:=by unfold Qs4 Qu0; simp only [e]
 rw [Qr2,Qab,ep,Qwt fu l _ (λs=>!okL p s.fD s.fH s.fQ) (λs=>by
  unfold Qoj okL
  simp only [Jak,Qab,e]
  cases inb s.fD 1 p.fD <;> cases inb s.fH 1 p.fH <;> rfl) hl hf,Qab]
 cases Qu0 p
 · rfl
 · rw [cond_true,Bool.true_and]
   congr 1
   rw [Bool.eq_iff_iff]
   simp
theorem Jc9 {fu:Nat} (hfu:2097153≤fu) {p:Pallet} (hp:Qu0 p=true) {l:List Layer} (hb:OkY p l) (hl:l.length≤1000):Qo1 fu p l=some (ldM p l):=by
 unfold Qo1 ldM
 rw [Jhh p l (by omega) (by omega),hp,Jd3 hb,Qab,Bool.and_self,Bool.not_true,cond_false]
 obtain ⟨p1,p2,p3,p4⟩:=Qwk hp
 refine Q54 (l.length:Int) (λn (o:List Load) i=>Qch fu p l n o i) (λxs o=>some (xs.foldl (ldS p l) o)) (λxs o=>(∀ s∈o,LdI p l.length s)∧((o.map (·.fK)).flatten).length+xs.length≤1000∧o.length+xs.length≤1000) (by omega) ?_ ?_ l.length fu [] 0 (by omega) (by omega) (by omega) ⟨by simp,by simp [Qcn]; omega,by simp [Qcn]; omega⟩
 · intro n o i xs x0 x1 hd hI ih
   obtain ⟨i2,i3,i4⟩:=hI
   simp only [List.length_cons] at i3 i4
   obtain ⟨hbx,b1,b2,b3,_⟩:=Q2u hb ⟨x0,x1⟩
   have hflat:((ldS p l o i).map (·.fK)).flatten=(o.map (·.fK)).flatten++[i]:=Qrt (λs=>rfl) rfl
   have hlen:(ldS p l o i).length≤o.length+1:=Qs7 _ _ _ _
   have ih':=ih (ldS p l o i) ⟨Q3w hb ⟨x0,x1⟩ i2,by rw [hflat,List.length_append,List.length_singleton]; omega,by omega⟩
   simp only [Qch.eq_2]
   unfold Qla
   rw [hd,cond_true,hbx,Qab,List.foldl_cons,← ih']
   have hnew:∀ o':List Load,o'.length≤1000→Qdl fu (λo i=>Qch fu p l n o i) i (lyA l i) (o'++[zLd]) ((o'.length:Nat):Int)=Qch fu p l n (o'++[Qs8 zLd i (lyA l i)]) (w64 (i+1)):=λo' ho'=>by
    rw [Jbc (s:=zLd) (by simp) (by simp [zLd]) (by simp [zLd]; omega) (by simp [zLd]; omega)]
    simp
   by_cases he:o=[]
   · subst he
     rw [Qa0 (by decide),ap1 (by simp),Qab]
     exact hnew [] (by simp)
   · obtain ⟨s,e1,e2⟩:=Qt7 he
     have hp:=List.length_pos_iff.2 he
     have hsm':=List.mem_of_getLast? e1
     have hs:=i2 s hsm'
     have hsl':=Qq3 (λs:Load=>s.fK) o s hsm'
     have eS:ldS p l o i=bif Q6b p (lyA l i) s then o.set (o.length - 1) (Qs8 s i (lyA l i)) else o++[Qs8 zLd i (lyA l i)]:=Qt9 e1
     have e3:w64 ((o.length:Int) - 1)=((o.length - 1:Nat):Int):=by rw [Qa1 (by omega) (by omega)]; omega
     have e4:w64 (((o.length - 1:Nat):Int)+1)=((o.length:Nat):Int):=by rw [Qa1 (by omega) (by omega)]; omega
     have e5:o[o.length - 1]? = some s:=by rw [← List.getLast?_eq_getElem?]; exact e1
     obtain ⟨s1,s2,s4,s5⟩:=hs
     rw [e3,e4,Qam (by simp),Qlf,e5,Qab,Qa1 (n:=s.fH+_) (by omega) (by omega),Qa1 (n:=s.fQ+_) (by omega) (by omega),ap1 (by simp; omega),Qab,eS]
     unfold Q6b
     have c1:decide (s.fH+(lyA l i).fH>p.fH)=!decide (s.fH+(lyA l i).fH≤p.fH):=by
      by_cases h:s.fH+(lyA l i).fH≤p.fH <;> simp [h] <;> omega
     have c2:decide (s.fQ+(lyA l i).fQ>p.fQ)=!decide (s.fQ+(lyA l i).fQ≤p.fQ):=by
      by_cases h:s.fQ+(lyA l i).fQ≤p.fQ <;> simp [h] <;> omega
     rw [c1,c2,Qab]
     have h1:=hnew o (by omega)
     have h2:Qdl fu (λo i=>Qch fu p l n o i) i (lyA l i) o ((o.length - 1:Nat):Int)=Qch fu p l n (o.set (o.length - 1) (Qs8 s i (lyA l i))) (w64 (i+1)):=Jbc e5 (by omega) (by omega) (by omega)
     cases decide (s.fH+(lyA l i).fH≤p.fH)
     · exact h1
     · cases decide (s.fQ+(lyA l i).fQ≤p.fQ)
       · exact h1
       · exact h2
 · intro n o i hd _
   simp only [Qch.eq_2]
   unfold Qla
   rw [hd,cond_false]; rfl
theorem Q7l {fu:Nat} (hfu:2097153≤fu) (p:Pallet) (l:List Box) (hl:l.length<20):Ql0 fu p l=some (spM p l):=by
 unfold Ql0 spM
 rw [Qui fu p l (by omega) (by omega),Qab,Jbk]
 cases hb:Qy0 p l
 · rfl
 · obtain ⟨a1,a2,a3⟩:=Q0z hb
   have hS:=Q88 hb
   obtain ⟨y1,y2,y3⟩:=Q02 hS
   have hY:=Q78 hS
   obtain ⟨d1,d2,d3⟩:=Q35 hY
   have hpb:=Q00 hb
   obtain ⟨q1,q2,q3,q4⟩:=Qwk hpb
   rw [Bool.not_true,cond_false,cond_true,Q7i hfu p l hl,Qab,Q9y hfu hpb hS (by omega),Qab,Q7m (by omega),Qab,Jc9 hfu hpb hY (by omega),Qab]
   have f1:∀ s∈shM p l,s.f0.length≤1000:=λs hs=>by
    have:=Qq3 (λs:Shelf=>s.f0) _ s hs
    rw [a2,Qsw] at this; omega
   have f2:∀ s∈lyM p (shM p l),s.fP.length≤1000:=λs hs=>by
    have:=Qq3 (λs:Layer=>s.fP) _ s hs
    rw [y2,Qcn] at this; omega
   have f3:∀ s∈ldM p (lyM p (shM p l)),s.fK.length≤1000:=λs hs=>by
    have:=Qq3 (λs:Load=>s.fK) _ s hs
    rw [d2,Qcn] at this; omega
   generalize ldM p (lyM p (shM p l))=ld at d1 d3 f3 ⊢
   generalize lyM p (shM p l)=ly at y1 y3 hY d1 d3 f2 ⊢
   generalize shM p l=sh at a1 a3 hS y1 y3 f1 ⊢
   have L4:=Q54 (ld.length:Int) (λn (out:List Spot) o=>Qbp fu l sh ly ld n out o) (λos out=>some (spO l sh ly ld os out)) (λos out=>out.length=l.length) (by omega) ?_ ?_ ld.length fu (List.replicate l.length zSp) 0 (by omega) (by omega) (by omega) (by simp)
   · exact L4
   · intro n out o os o0 o1 hd hI ih
     obtain ⟨x,hx⟩:=Q31 (l:=ld) o0 o1
     have ex:ldA ld o=x:=by unfold ldA; rw [hx]; rfl
     have hxm:=d1 x (Qml hx)
     have hxl:=f3 x (Qml hx)
     simp only [Qbp.eq_2]
     unfold Qj7
     rw [hd,cond_true,hx,Qab]
     have L3:=lpI x.fK (λm (s:List Spot×Int) i=>Qcf fu (Qbp fu l sh ly ld n) l sh ly o x m s.1 s.2 i) (λis s=>Qbp fu l sh ly ld n (spY l sh ly o is s).1 (w64 (o+1))) (λis s=>s.1.length=l.length∧(∀ i∈is,0≤i∧i<ly.length)∧0≤s.2∧s.2+2000*is.length≤2000000) (by omega) ?_ ?_ fu (out,0) ⟨hI,hxm.inn,by simp,by simp; omega⟩ (by omega)
     · refine L3.trans ?_
       rw [ih _ (by rw [Q17]; exact hI)]
       simp only [spO,List.foldl_cons,ex]
     · intro m ⟨out,z⟩ i j is hj hd hI ih
       obtain ⟨i1,i2,i3,i4⟩:out.length=l.length∧(∀ i∈j::is,0≤i∧i<ly.length)∧0≤z∧z+2000*((j::is).length:Int)≤2000000:=hI
       simp only [List.length_cons] at i4
       obtain ⟨hly,t1,t2,t3,hmem⟩:=Q2u hY (i2 j (by simp))
       have hyi:=y1 _ hmem
       have hyl:=f2 _ hmem
       simp only [Qcf.eq_2]
       unfold Qks
       rw [hd,cond_true,hj,Qab,hly,Qab]
       have L2:=lpI (lyA ly j).fP (λq (s:List Spot×Int) k=>Qdi fu (Qcf fu (Qbp fu l sh ly ld n) l sh ly o x m) l sh ly o z i j (lyA ly j) q s.1 s.2 k) (λks s=>Qcf fu (Qbp fu l sh ly ld n) l sh ly o x m (spS l sh o z ks s).1 (w64 (z+(lyA ly j).fH)) (w64 (i+1))) (λks s=>s.1.length=l.length∧(∀ i∈ks,0≤i∧i<sh.length)∧0≤s.2∧s.2+2000*ks.length≤2000000) (by omega) ?_ ?_ fu (out,0) ⟨i1,hyi.inn,by simp,by simp; omega⟩ (by omega)
       · refine L2.trans ?_
         rw [Qa1 (n:=z+_) (by omega) (by omega)]
         exact ih ((spS l sh o z (lyA ly j).fP (out,0)).1,z+(lyA ly j).fH) ⟨by rw [Q18]; exact i1,λi hi=>i2 i (by simp [hi]),by simp; omega,by simp; omega⟩
       · intro q ⟨out,y⟩ k b ks hb2 hd hI ih
         obtain ⟨i1,i2,i3,i4⟩:out.length=l.length∧(∀ i∈b::ks,0≤i∧i<sh.length)∧0≤y∧y+2000*((b::ks).length:Int)≤2000000:=hI
         simp only [List.length_cons] at i4
         obtain ⟨hsh,u1,u2,u3,hmem2⟩:=Q26 hS (i2 b (by simp))
         have hsi:=a1 _ hmem2
         have hsl:=f1 _ hmem2
         simp only [Qdi.eq_2]
         unfold Qj4
         rw [hd,cond_true,hb2,Qab,hsh,Qab]
         have L1:=lpI (shA sh b).f0 (λq' (s:List Spot×Int) k'=>Qgd fu (Qdi fu (Qcf fu (Qbp fu l sh ly ld n) l sh ly o x m) l sh ly o z i j (lyA ly j) q) l sh o z y k b (shA sh b) q' s.1 s.2 k') (λbs s=>Qdi fu (Qcf fu (Qbp fu l sh ly ld n) l sh ly o x m) l sh ly o z i j (lyA ly j) q (spB l o y z bs s).1 (w64 (y+(shA sh b).fD)) (w64 (k+1))) (λbs s=>s.1.length=l.length∧(∀ i∈bs,0≤i∧i<l.length)∧0≤s.2∧s.2+2000*bs.length≤2000000) (by omega) ?_ ?_ fu (out,0) ⟨i1,hsi.inn,by simp,by simp; omega⟩ (by omega)
         · refine L1.trans ?_
           rw [Qa1 (n:=y+_) (by omega) (by omega)]
           exact ih ((spB l o y z (shA sh b).f0 (out,0)).1,y+(shA sh b).fD) ⟨by rw [Q1p]; exact i1,λi hi=>i2 i (by simp [hi]),by simp; omega,by simp; omega⟩
         · intro q' ⟨out,x'⟩ k' c bs hc hd hI ih
           obtain ⟨i1,i2,i3,i4⟩:out.length=l.length∧(∀ i∈c::bs,0≤i∧i<l.length)∧0≤x'∧x'+2000*((c::bs).length:Int)≤2000000:=hI
           simp only [List.length_cons] at i4
           have hcr:=i2 c (by simp)
           obtain ⟨hbx,v1,v2,v3,v4⟩:=Q29 hb hcr
           obtain ⟨sp,hsp⟩:=Q31 (l:=out) hcr.1 (by omega)
           simp only [Qgd.eq_2]
           unfold Qlc
           rw [hd,cond_true,hc,Qab,hsp,Qab,hbx,Qab,Qa1 (n:=x'+_) (by omega) (by omega)]
           exact ih (Qhs out c ⟨o,x',y,z⟩,x'+(bxA l c).fW) ⟨by rw [Qyr]; exact i1,λi hi=>i2 i (by simp [hi]),by simp; omega,by simp; omega⟩
         · intro q' ⟨out,x'⟩ k' hd _
           simp only [Qgd.eq_2]
           unfold Qlc
           rw [hd,cond_false,hsh,Qab]; rfl
       · intro q ⟨out,y⟩ k hd _
         simp only [Qdi.eq_2]
         unfold Qj4
         rw [hd,cond_false,hly,Qab]; rfl
     · intro m ⟨out,z⟩ i hd _
       simp only [Qcf.eq_2]
       unfold Qks
       rw [hd,cond_false]; rfl
   · intro n out o hd _
     simp only [Qbp.eq_2]
     unfold Qj7
     rw [hd,cond_false]; rfl
theorem Jbq {r:Request} {k:Int} (h:0≤k∧k<(Qns r).length):(Qxl r k).length≤12:=by
 rw [Q5q h,List.length_map]
 exact Q4a k
theorem Jfs {fu:Nat} {r:Request} (h:Sm fu r):Qqo fu r=some (Q7c r):=by
 have hfu:=h.fu
 have hg:=(Qtq r).1
 have hcl:=Qxj r
 unfold Qqo Q7c
 rw [Qt2 h,Qab]
 cases hc:Qhu r==0
 · rfl
 · have hz:Qhu r=0:=by simpa using hc
   rw [Bool.not_true,cond_false,cond_true,Jha h,Qab,Jc1 h,Qab]
   have L3:=Q54 ((Qns r).length:Int) (λn (s:List Spot×Int) k=>Qcj fu r (Qu3 r) (Qns r) n s.1 s.2 k) (λks s=>some ((⟨Qu3 r,(ks.foldl (plS r) s).1⟩:Plan),true)) (λks s=>(∀ k∈ks,0≤k∧k<(Qns r).length)∧s.1.length+48*ks.length≤1000∧0≤s.2∧s.2+1000000*ks.length≤10000000) (by omega) ?_ ?_ (Qns r).length fu ([],0) 0 (by omega) (by omega) (by omega) ⟨λk hk=>by have:=Qh1.1 hk; omega,by simp [Qcn]; omega,by simp,by simp [Qcn]; omega⟩
   · exact L3
   · intro n ⟨sp,base⟩ k ks k0 k1 hd hI ih
     obtain ⟨i1,i2,i3,i4⟩:(∀ j∈k::ks,0≤j∧j<(Qns r).length)∧sp.length+48*(k::ks).length≤1000∧0≤base∧base+1000000*((k::ks).length:Int)≤10000000:=hI
     simp only [List.length_cons] at i2 i4
     simp only [Qcj.eq_2]
     unfold Qmv
     rw [hd,cond_true]
     have L2:=lpI (Qu3 r) (λm (bs:List Box) i=>Qf5 fu (Qcj fu r (Qu3 r) (Qns r) n) r (Qu3 r) sp base k m bs i) (λcs bs=>Qac (Ql0 fu r.fJ (bs++(cs.filter λc=>c.f9==k).map (Q4p r))) λx=>Qac (Ql4 fu x) λy=>Qf3 fu (Qcj fu r (Qu3 r) (Qns r) n) base k x y fu sp 0) (λcs bs=>bs.length+cs.length≤48∧∀ c∈cs,c.f8.length≤12) (by omega) ?_ ?_ fu [] ⟨by simpa using hcl,λc hc=>Qyu hc⟩ (by omega)
     · refine L2.trans ?_
       have hbl:=Q7y r k
       have hbf:=Jbq (r:=r) (k:=k) ⟨k0,k1⟩
       rw [List.nil_append,show ((Qu3 r).filter λc=>c.f9==k).map (Q4p r)=Qxl r k from rfl,Q7l hfu _ _ (by omega),Qab]
       have hsl:=Q3x (Q61 hz ⟨k0,k1⟩)
       have hpb:=Q6t (spM r.fJ (Qxl r k))
       have hps:∀ s∈spM r.fJ (Qxl r k),s∈spM r.fJ (Qxl r k):=λ_ h=>h
       have ih':=ih (plS r (sp,base) k) ⟨λj hj=>i1 j (by simp [hj]),by simp [plS]; omega,by simp [plS]; omega,by simp [plS]; omega⟩
       rw [List.foldl_cons,← ih']
       have hS:=Jej (fu:=fu) (l:=spM r.fJ (Qxl r k)) (by omega) (by omega)
       have hwf:∀ s∈spM r.fJ (Qxl r k),w64 (s.fJ+base)=s.fJ+base:=by
        intro s hs
        have:=Jbf (p:=r.fJ) (l:=Qxl r k) (by omega) s hs
        exact Qa1 (by omega) (by omega)
       generalize hSP:spM r.fJ (Qxl r k)=S at hsl hpb hS hwf ⊢
       rw [hS,Qab]
       have L1:=lpI S (λm (o:List Spot) i=>Qf3 fu (Qcj fu r (Qu3 r) (Qns r) n) base k S (Jax S) m o i) (λxs o=>Qcj fu r (Qu3 r) (Qns r) n (o++xs.map (λt=>⟨t.fJ+base,t.fX,t.fY,t.fZ⟩)) (base+Jax S) (w64 (k+1))) (λxs o=>o.length+xs.length≤1000∧∀ s∈xs,w64 (s.fJ+base)=s.fJ+base) (by omega) ?_ ?_ fu sp ⟨by omega,hwf⟩ (by omega)
       · refine L1.trans ?_
         simp only [plS,hSP]
       · intro m o i x xs hx hd hI ih
         obtain ⟨j1,j2⟩:=hI
         simp only [List.length_cons] at j1
         simp only [Qf3.eq_2]
         unfold Qmo
         rw [hd,cond_true,hx,Qab,j2 x (by simp),ap1 (by simp; omega),Qab,ih _ ⟨by simp; omega,λs hs=>j2 s (by simp [hs])⟩]
         simp
       · intro m o i hd hI
         simp only [Qf3.eq_2]
         unfold Qmo
         rw [hd,cond_false,Qa1 (n:=base+_) (by omega) (by omega)]
         simp
     · intro m bs i c cs hx hd hI ih
       obtain ⟨j1,j2⟩:=hI
       simp only [List.length_cons] at j1
       have hcu:=j2 c (by simp)
       simp only [Qf5.eq_2]
       unfold Qmm Qll
       rw [hd,cond_true,hx,Qab,Jfh h c (by omega),Qab,ap1 (by simp; omega),Qab,ih _ ⟨by simp; omega,λc hc=>j2 c (by simp [hc])⟩,ih _ ⟨by omega,λc hc=>j2 c (by simp [hc])⟩,List.filter_cons]
       cases c.f9==k <;> simp
     · intro m bs i hd _
       simp only [Qf5.eq_2]
       unfold Qmm
       rw [hd,cond_false]; simp
   · intro n ⟨sp,base⟩ k hd _
     simp only [Qcj.eq_2]
     unfold Qmv
     rw [hd,cond_false]; rfl
theorem Ja5 (r:Request):Sp (Q7c r).1:=by
 obtain ⟨l1,l2,l3⟩:=Jcm r
 refine ⟨by omega,λc hc=>by have:=l3 c hc; omega,?_,by omega⟩
 have key:∀ l:List Carton,(∀ c∈l,c.f8.length≤12)→Q7u l≤12*l.length:=by
  intro l
  induction l with
  | nil=>intro _; simp [Q7u]
  | cons c l ih =>
   intro h
   have h1:=ih λd hd=>h d (by simp [hd])
   have h2:=h c (by simp)
   simp only [Q7u,List.length_cons]
   omega
 have:=key _ l3
 omega
def Qu2 (n:Int):ByteArray:=⟨(Lib.itoa n).toArray⟩
theorem Qye {n:Int} (h:0≤n∧n≤999999):(Qu2 n).size≤21:=by
 have:=Lib.itoa_length_le n (by omega) (by omega)
 unfold Qu2 ByteArray.size
 simpa using this
theorem Qqx {x y:ByteArray} (h:x.size+y.size≤1000000000):Qu4 x y=some (x++y):=by
 unfold Qu4
 rw [if_pos (by omega)]
theorem Q1l (fu:Nat) {n:Int} (h:0≤n∧n≤999999):Qnx fu n=some (Qu2 n):=by
 unfold Qnx Qsp Jai
 rw [if_pos (by omega)]; rfl
theorem Jho {n:Int} (h:0≤n∧n≤255):w8 n=n:=by
 unfold w8
 simp only [IntKind.wrap_u8]
 omega
theorem Q9u {n:Int} (h:0≤n∧n≤255):Jf1 [(⟨n⟩:U8)]=some ⟨[UInt8.ofNat n.toNat].toArray⟩:=by
 unfold Jf1
 rw [if_pos (λb hb=>by rw [List.mem_singleton.1 hb]; exact h)]
 rfl
theorem Q9t {u:Nat} (out:ByteArray):(⟨[UInt8.ofNat (48+u % 10)].toArray⟩:ByteArray)++out=⟨([UInt8.ofNat (48+u % 10)]++out.data.toList).toArray⟩:=by
 apply ByteArray.ext
 rw [ByteArray.data_append]
 apply Array.ext'
 simp
theorem Jf3 {fu:Nat} {n1:Int} (h1:0≤n1):∀ (u:Nat) (k:Nat) (out:ByteArray),u≤999999→u+2≤k→out.size+u≤2000000→0<u→Qfx fu n1 k (u:Int) out=some ⟨(Lib.decDigits u++out.data.toList).toArray⟩:=by
 intro u
 induction u using Nat.strongRecOn with
 | _ u ih =>
  intro k out hu hk ho h0
  obtain ⟨k,rfl⟩:∃ j,k=j+1:=⟨k - 1,by omega⟩
  have em:Int.tmod (u:Int) 10=((u % 10:Nat):Int):=by
   rw [Int.tmod_eq_emod_of_nonneg (by omega)]; omega
  have ed:w64 (Int.tdiv (u:Int) 10)=((u / 10:Nat):Int):=by
   rw [Int.tdiv_eq_ediv_of_nonneg (by omega),Qa1 (by omega) (by omega)]; omega
  rw [Qfx.eq_2]
  unfold Qmi Qlp
  rw [Qa0 (bne_iff_ne.2 (by omega)),em,Qam (decide_eq_false (by omega)),Qa1 (n:=48+_) (by omega) (by omega),Jho (by omega),Q9u (by omega),Qab,show ((48:Int)+((u % 10:Nat):Int)).toNat=48+u % 10 by omega]
  have hs1:(⟨[UInt8.ofNat (48+u % 10)].toArray⟩:ByteArray).size=1:=rfl
  rw [Qqx (by rw [hs1]; omega),Qab,ed,Q9t]
  by_cases hlt:u<10
  · have e0:u / 10=0:=by omega
    rw [e0]
    obtain ⟨k,rfl⟩:∃ j,k=j+1:=⟨k - 1,by omega⟩
    rw [Qfx.eq_2]
    unfold Qmi
    rw [Qam (by decide),Qam (decide_eq_false (by omega)),Lib.decDigits,dif_pos hlt,Nat.mod_eq_of_lt hlt]
  · have:=ih (u / 10) (by omega) k (⟨([UInt8.ofNat (48+u % 10)]++out.data.toList).toArray⟩:ByteArray) (by omega) (by omega) (by
      show ([UInt8.ofNat (48+u % 10)]++out.data.toList).toArray.size+_≤_
      have e:out.data.toList.length=out.size:=Array.length_toList
      simp only [List.size_toArray,List.length_append,List.length_singleton,e]
      omega) (by omega)
    rw [this]
    conv=>rhs; rw [Lib.decDigits,dif_neg hlt]
    simp
theorem Q4d {fu:Nat} (hfu:2097153≤fu) {n:Int} (h:0≤n∧n≤999999):Qkp fu n=some (Qu2 n):=by
 unfold Qkp Qu2
 by_cases h0:n=0
 · subst h0
   rw [Qa0 (by simp)]
   have:Lib.itoa 0=[48]:=by
    unfold Lib.itoa
    rw [if_neg (by omega),Lib.decDigits,dif_pos (by decide)]; rfl
   rw [this]
 · rw [Qam (by simpa using h0)]
   obtain ⟨u,rfl⟩:∃ u:Nat,n=u:=⟨n.toNat,by omega⟩
   have:=Jf3 (fu:=fu) (n1:=(u:Int)) (by omega) u fu ⟨#[]⟩ (by omega) (by omega) (by
    show 0+u≤_
    omega) (by omega)
   rw [this]
   have e:Lib.itoa (u:Int)=Lib.decDigits u:=by
    unfold Lib.itoa
    rw [if_neg (by omega),Int.toNat_natCast]
   rw [e]; simp
def sp1:ByteArray:=⟨#[32]⟩
def nl1:ByteArray:=⟨#[10]⟩
def Qw2 (o:ByteArray) (l:List Int):ByteArray:=l.foldl (λo n=>o++(sp1++Qu2 n)) o
theorem Q2x:∀ (l:List Int) (o:ByteArray),(∀ n∈l,0≤n∧n≤999999)→(Qw2 o l).size≤o.size+22*l.length
 | [],o,_=>by simp [Qw2]
 | n::l,o,h=>by
  have h1:=Qye (h n (by simp))
  have h2:=Q2x l (o++(sp1++Qu2 n)) λm hm=>h m (by simp [hm])
  have e:(o++(sp1++Qu2 n)).size=o.size+(1+(Qu2 n).size):=by
   rw [ByteArray.size_append,ByteArray.size_append]; rfl
  rw [e] at h2
  show (Qw2 (o++(sp1++Qu2 n)) l).size≤_
  simp only [List.length_cons]
  omega
theorem Jfq {fu:Nat} {l:List Int} (o:ByteArray) (hl:l.length≤1000) (hf:l.length<fu) (ho:o.size≤1000000) (h:∀ n∈l,0≤n∧n≤999999):Qi5 fu o l=some (Qw2 o l++nl1,true):=by
 unfold Qi5
 have key:=lpI l (λn (o:ByteArray) i=>Qeg fu l n o i) (λxs o=>some (Qw2 o xs++nl1,true)) (λxs o=>(∀ n∈xs,0≤n∧n≤999999)∧o.size+22*xs.length≤2000000) (by omega) ?_ ?_ fu o ⟨h,by omega⟩ (by omega)
 · exact key
 · intro n o i x xs hx hd hI ih
   obtain ⟨i1,i2⟩:=hI
   simp only [List.length_cons] at i2
   have hxb:=i1 x (by simp)
   have hs:=Qye hxb
   have e:(o++(sp1++Qu2 x)).size=o.size+(1+(Qu2 x).size):=by
    rw [ByteArray.size_append,ByteArray.size_append]; rfl
   have hsz:sp1.size=1:=rfl
   simp only [Qeg.eq_2]
   unfold Qi0
   rw [hd,cond_true,hx,Qab,Q0l,Qab,show inb x 0 999999=true from Qdc.2 hxb,Bool.not_true,cond_false,Q1l fu hxb,Qab]
   show (Qac (Qu4 sp1 (Qu2 x)) λsv58=>Qac (Qu4 o sv58) λsv60=>Qeg fu l n sv60 (w64 (i+1)))=_
   rw [Qqx (by omega),Qab,Qqx (by rw [ByteArray.size_append,hsz]; omega),Qab,ih _ ⟨λm hm=>i1 m (by simp [hm]),by omega⟩]
   rfl
 · intro n o i hd hI
   have i2:=hI.2
   simp only [Qeg.eq_2]
   unfold Qi0
   rw [hd,cond_false]
   show (Qac (Qu4 o nl1) λsv62=>some (sv62,true))=_
   rw [Qqx (by rw [show nl1.size=1 from rfl]; simp at i2; omega)]
   rfl
def Q58:ByteArray:=⟨#[99,97,114,116,111,110]⟩
def Qru (c:Carton) (s:Spot):List Int:=[c.fc,c.f9,s.fJ,s.fX,s.fY,s.fZ]++c.f8
theorem Jbl:∀ (l pre:List Int),Q9h pre l=true→∀ n∈l,0≤n∧n≤999
 | [],_,_,n,hn=>by simp at hn
 | x::l,pre,h,n,hn=>by
  unfold Q9h at h
  simp only [Bool.and_eq_true,Qdc] at h
  rcases List.mem_cons.1 hn with rfl | hn
  · exact h.1
  · exact Jbl l _ h.2.2 n hn
theorem Q7b {c:Carton} {s:Spot} (hc:Q9m c=true) (hs:Jbw s=true):(∀ n∈Qru c s,0≤n∧n≤999999)∧(Qru c s).length≤106:=by
 unfold Q9m Jdy at hc
 unfold Jbw at hs
 simp only [Bool.and_eq_true,Qdc,decide_eq_true_eq] at hc hs
 obtain ⟨h1,h2,h3,h4⟩:=hc
 refine ⟨λn hn=>?_,by simp [Qru]; omega⟩
 unfold Qru at hn
 rcases List.mem_append.1 hn with hn | hn
 · simp only [List.mem_cons,List.not_mem_nil,or_false] at hn
   omega
 · have:=Jbl _ _ h3 n hn
   omega
theorem Jem {fu:Nat} (hfu:2097153≤fu) {c:Carton} {s:Spot} (h:(∀ n∈Qru c s,0≤n∧n≤999999)∧(Qru c s).length≤106):Qo4 fu c s=some (Qw2 Q58 (Qru c s)):=by
 obtain ⟨h1,h2⟩:=h
 unfold Qo4
 have hlen:[c.fc,c.f9,s.fJ,s.fX,s.fY,s.fZ].length+c.f8.length≤106:=by
  have:=h2
  unfold Qru at this
  rwa [List.length_append] at this
 rw [ap1 (by omega),Qab]
 show Qeb fu (Qru c s) fu Q58 0=_
 generalize Qru c s=l at h1 h2
 refine lpI l (λn (o:ByteArray) i=>Qeb fu l n o i) (λxs o=>some (Qw2 o xs)) (λxs o=>(∀ n∈xs,0≤n∧n≤999999)∧o.size+22*xs.length≤2000000) (by omega) ?_ ?_ fu Q58 ⟨h1,by rw [show Q58.size=6 from rfl]; omega⟩ (by omega)
 · intro n o i x xs hx hd hI ih
   obtain ⟨i1,i2⟩:=hI
   simp only [List.length_cons] at i2
   have hxb:=i1 x (by simp)
   have hs:=Qye hxb
   have e:(o++(sp1++Qu2 x)).size=o.size+(1+(Qu2 x).size):=by
    rw [ByteArray.size_append,ByteArray.size_append]; rfl
   have hsz:sp1.size=1:=rfl
   simp only [Qeb.eq_2]
   unfold Qkt
   rw [hd,cond_true]
   show (Qac (Qu4 o sp1) λsv56=>Qac (ix l i) λx58=>Qac (Qkp fu x58) λx60=>Qac (Qu4 sv56 x60) λsv64=>Qeb fu l n sv64 (w64 (i+1)))=_
   rw [Qqx (by omega),Qab,hx,Qab,Q4d hfu hxb,Qab,Qqx (by rw [ByteArray.size_append,hsz]; omega),Qab,ByteArray.append_assoc,ih _ ⟨λm hm=>i1 m (by simp [hm]),by omega⟩]
   rfl
 · intro n o i hd _
   simp only [Qeb.eq_2]
   unfold Qkt
   rw [hd,cond_false]; rfl
def Jib (o:ByteArray) (p:Carton×Spot):ByteArray:=o++(Qw2 Q58 (Qru p.1 p.2)++nl1)
def Jff (x:Plan):ByteArray:=bif Q9z x then (x.fE.zip x.fa).foldl Jib ⟨#[]⟩ else ⟨#[]⟩
theorem Q8n {c:Carton} {s:Spot} (h:(∀ n∈Qru c s,0≤n∧n≤999999)∧(Qru c s).length≤106):(Qw2 Q58 (Qru c s)).size≤2400∧(Qw2 Q58 (Qru c s)++nl1).size≤2401:=by
 have:=Q2x (Qru c s) Q58 h.1
 rw [show Q58.size=6 from rfl] at this
 refine ⟨by omega,?_⟩
 rw [ByteArray.size_append,show nl1.size=1 from rfl]
 omega
theorem Je5 {fu:Nat} {x:Plan} (h:Sp x) (hf:2097153≤fu):Qnb fu x=some (Jff x):=by
 unfold Qnb Jff
 rw [Jhj h (by omega),Qab]
 cases hp:Q9z x
 · rfl
 · rw [Bool.not_true,cond_false,cond_true]
   have hpp:=hp
   unfold Q9z at hpp
   simp only [Bool.and_eq_true,decide_eq_true_eq,beq_iff_eq] at hpp
   obtain ⟨p1,p2,p3⟩:=hpp
   have hz:(x.fE.zip x.fa).length=x.fE.length:=by simp; omega
   have key:=Jb5 (x.fE.zip x.fa) (λn (o:ByteArray) i=>Qdu fu x n o i) (λ_ xs o=>some (xs.foldl Jib o)) (λ_ xs o=>(∀ p∈xs,(∀ n∈Qru p.1 p.2,0≤n∧n≤999999)∧(Qru p.1 p.2).length≤106)∧o.size+2401*xs.length≤1000000) (by omega) ?_ ?_ fu ⟨#[]⟩ ⟨λp hp=>by
    have:=List.all_eq_true.1 p3 p hp
    rw [Bool.and_eq_true] at this
    exact Q7b this.1 this.2,by rw [hz]; show 0+_≤_; omega⟩ (by omega)
   · exact key
   · intro n o pre p xs e hq hd hI ih
     obtain ⟨i1,i2⟩:=hI
     simp only [List.length_cons] at i2
     obtain ⟨e1,e2⟩:=Q4m hq
     rw [hz] at hd
     have hn:=i1 p (by simp)
     have hsz:=Q8n hn
     have hlen:[p.1.fc,p.1.f9,p.2.fJ,p.2.fX,p.2.fY,p.2.fZ].length+p.1.f8.length≤106:=by
      have:=hn.2
      unfold Qru at this
      rwa [List.length_append] at this
     simp only [Qdu.eq_2]
     unfold Qit
     rw [hd,cond_true,e1,Qab,e2,Qab,ap1 (by omega),Qab]
     show (Qac (Qi5 fu Q58 (Qru p.1 p.2)) λx141=>Qac (Qu4 o x141.1) λsv145=>Qdu fu x n sv145 (w64 ((pre.length:Int)+1)))=_
     rw [Jfq Q58 (by omega) (by omega) (by decide) hn.1,Qab]
     show (Qac (Qu4 o (Qw2 Q58 (Qru p.1 p.2)++nl1)) λsv145=>Qdu fu x n sv145 (w64 ((pre.length:Int)+1)))=_
     rw [Qqx (by omega),Qab]
     exact ih _ ⟨λq hq=>i1 q (by simp [hq]),by rw [ByteArray.size_append]; omega⟩
   · intro n o hd _
     rw [hz] at hd ⊢
     simp only [Qdu.eq_2]
     unfold Qit
     rw [hd,cond_false]; rfl
theorem Jd9 {fu:Nat} {x:Plan} (h:Sp x) (hf:2097153≤fu):Qnh fu x=some (Jff x):=by
 unfold Qnh Jff
 rw [Jig h (by omega),Qab]
 cases hp:Q9z x
 · rfl
 · rw [Bool.not_true,cond_false,cond_true]
   have hpp:=hp
   unfold Q9z at hpp
   simp only [Bool.and_eq_true,decide_eq_true_eq,beq_iff_eq] at hpp
   obtain ⟨p1,p2,p3⟩:=hpp
   have hz:(x.fE.zip x.fa).length=x.fE.length:=by simp; omega
   have key:=Jb5 (x.fE.zip x.fa) (λn (o:ByteArray) i=>Qeh fu x n o i) (λ_ xs o=>some (xs.foldl Jib o)) (λ_ xs o=>(∀ p∈xs,(∀ n∈Qru p.1 p.2,0≤n∧n≤999999)∧(Qru p.1 p.2).length≤106)∧o.size+2401*xs.length≤1000000) (by omega) ?_ ?_ fu ⟨#[]⟩ ⟨λp hp=>by
    have:=List.all_eq_true.1 p3 p hp
    rw [Bool.and_eq_true] at this
    exact Q7b this.1 this.2,by rw [hz]; show 0+_≤_; omega⟩ (by omega)
   · exact key
   · intro n o pre p xs e hq hd hI ih
     obtain ⟨i1,i2⟩:=hI
     simp only [List.length_cons] at i2
     obtain ⟨e1,e2⟩:=Q4m hq
     rw [hz] at hd
     have hn:=i1 p (by simp)
     have hsz:=Q8n hn
     simp only [Qeh.eq_2]
     unfold Qiw
     rw [hd,cond_true,e1,Qab,e2,Qab,Jem hf hn,Qab,Qqx (by omega),Qab]
     show (Qac (Qu4 (o++Qw2 Q58 (Qru p.1 p.2)) nl1) λsv91=>Qeh fu x n sv91 (w64 ((pre.length:Int)+1)))=_
     rw [Qqx (by rw [ByteArray.size_append,show nl1.size=1 from rfl]; omega),Qab,ByteArray.append_assoc]
     exact ih _ ⟨λq hq=>i1 q (by simp [hq]),by rw [ByteArray.size_append]; omega⟩
   · intro n o hd _
     rw [hz] at hd ⊢
     simp only [Qeh.eq_2]
     unfold Qiw
     rw [hd,cond_false]; rfl
theorem Jc2 (b:ByteArray):∀ (m i:Nat) (r:List UInt8),b.size - i=m→ByteArray.toList.loop b i r=r.reverse++b.data.toList.drop i:=by
 intro m
 induction m with
 | zero =>
  intro i r h
  rw [ByteArray.toList.loop,if_neg (by omega)]
  have:b.data.toList.length≤i:=by have:b.size=b.data.size:=rfl; simp; omega
  rw [List.drop_of_length_le this]; simp
 | succ m ih =>
  intro i r h
  rw [ByteArray.toList.loop,if_pos (by omega),ih (i+1) _ (by omega)]
  have hs:b.size=b.data.size:=rfl
  have hi:i<b.data.toList.length:=by simp; omega
  rw [List.drop_eq_getElem_cons hi]
  have:b.get! i=b.data.toList[i]:=by
   unfold ByteArray.get!
   simp [Array.getElem!_eq_getD,Array.getD]
   rw [dif_pos (by omega)]
  rw [this]; simp
theorem Q6r (b:ByteArray):b.toList=b.data.toList:=by
 unfold ByteArray.toList
 rw [Jc2 b _ 0 [] rfl]; simp
theorem Qw0 (a b:ByteArray):(a.toList==b.toList)=decide (a=b):=by
 rw [Q6r,Q6r]
 by_cases h:a=b
 · subst h; simp
 · rw [decide_eq_false h]
   have:a.data.toList≠b.data.toList:=λe=>h (ByteArray.ext (Array.ext' e))
   simpa using this
theorem Jf2:∀ (u:Nat),∀ b∈Lib.decDigits u,48≤b.toNat∧b.toNat≤57:=by
 intro u
 induction u using Nat.strongRecOn with
 | _ u ih =>
  intro b hb
  have one:∀ d:Nat,d<10→48≤(UInt8.ofNat (48+d)).toNat∧(UInt8.ofNat (48+d)).toNat≤57:=λd hd=>by
   rw [UInt8.toNat_ofNat']; omega
  rw [Lib.decDigits] at hb
  split at hb
  · rename_i h
    rw [List.mem_singleton.1 hb]
    exact one u h
  · rename_i h
    rcases List.mem_append.1 hb with hb | hb
    · exact ih (u / 10) (by omega) b hb
    · rw [List.mem_singleton.1 hb]
      exact one _ (by omega)
theorem Qyt:∀ (l r:List UInt8) (acc:Nat),Lib.decFrom acc (l++r)=(Lib.decFrom acc l).bind λn=>Lib.decFrom n r
 | [],r,acc=>rfl
 | b::l,r,acc=>by
  simp only [List.cons_append,Lib.decFrom]
  cases Lib.digitVal b with
  | none=>rfl
  | some d=>exact Qyt l r _
theorem Jbe:∀ (u:Nat),Lib.decFrom 0 (Lib.decDigits u)=some u:=by
 intro u
 induction u using Nat.strongRecOn with
 | _ u ih =>
  have one:∀ d:Nat,d<10→Lib.digitVal (UInt8.ofNat (48+d))=some d:=λd hd=>by
   unfold Lib.digitVal
   have:(UInt8.ofNat (48+d)).toNat=48+d:=by rw [UInt8.toNat_ofNat']; omega
   rw [this,if_pos (by omega)]
   congr 1; omega
  rw [Lib.decDigits]
  split
  · rename_i h
    simp only [Lib.decFrom,one u h]
    congr 1; omega
  · rename_i h
    rw [Qyt,ih (u / 10) (by omega)]
    simp only [Option.bind_some,Lib.decFrom,one (u % 10) (by omega)]
    congr 1; omega
theorem Q7p:∀ (k u:Nat),u<10 ^ (k+1)→1≤(Lib.decDigits u).length∧(Lib.decDigits u).length≤k+1
 | 0,u,h=>by
  rw [Lib.decDigits,dif_pos (by omega)]; simp
 | k+1,u,h=>by
  rw [Lib.decDigits]
  split
  · simp
  · have:=Q7p k (u / 10) (by
      rw [Nat.pow_succ] at h
      omega)
    simp only [List.length_append,List.length_singleton]
    omega
theorem Jc0 {u:Nat} (h:u≤999999):Lib.atoiAll (Lib.decDigits u)=.ok (u:Int):=by
 have hl:=Q7p 5 u (by omega)
 rw [Lib.atoiAll_short _ (by omega)]
 have hv:=Jbe u
 have hd:=Jf2 u
 cases hc:Lib.decDigits u with
 | nil=>rw [hc] at hl; simp at hl
 | cons b r =>
  rw [hc] at hv hd
  have hb:=hd b (by simp)
  have n1:¬ (b==45)=true:=λe=>by rw [beq_iff_eq.1 e] at hb; exact absurd hb (by decide)
  have n2:¬ (b==43)=true:=λe=>by rw [beq_iff_eq.1 e] at hb; exact absurd hb (by decide)
  unfold Lib.atoi
  show Lib.NumEnd.ofOption (if (b==45)=true then _ else if (b==43)=true then _ else Option.map _ (Lib.decNat (b::r)))=_
  rw [if_neg n1,if_neg n2]
  unfold Lib.decNat
  rw [if_neg (by simp),hv]
  rfl
theorem Q33 {u:Nat}:Qu2 (u:Int)=⟨(Lib.decDigits u).toArray⟩:=by
 unfold Qu2 Lib.itoa
 rw [if_neg (by omega),Int.toNat_natCast]
theorem Jda {fu:Nat} {s:ByteArray} (hs:s.size≤1048576):∃ r,Qh5 fu s=some r∧((∃ u:Nat,u≤999999∧s=Qu2 u∧r=((u:Int),true))∨((∀ u:Nat,u≤999999→s≠Qu2 u)∧r=(0,false))):=by
 unfold Qh5 Qsr Jao Qpj
 rw [if_pos hs,Qab]
 by_cases he:∃ u:Nat,u≤999999∧s=Qu2 u
 · obtain ⟨u,hu,rfl⟩:=he
   have e:(Qu2 (u:Int)).data.toList=Lib.decDigits u:=by rw [Q33]
   rw [e,Jc0 hu]
   simp only [cond_false,Q0l,Qab,show inb (u:Int) 0 999999=true from Qdc.2 (by omega),Bool.not_true]
   rw [Q1l fu (by omega),Qab,Qw0,decide_eq_true rfl]
   exact ⟨_,rfl,.inl ⟨u,hu,rfl,rfl⟩⟩
 · have hne:∀ u:Nat,u≤999999→s≠Qu2 u:=λu hu e=>he ⟨u,hu,e⟩
   refine ⟨(0,false),?_,.inr ⟨hne,rfl⟩⟩
   cases ha:Lib.atoiAll s.data.toList with
   | «syntax»=>rfl
   | range=>rfl
   | ok v =>
    simp only [cond_false,Q0l,Qab]
    cases hv:inb v 0 999999
    · rfl
    · have hv':=Qdc.1 hv
      rw [Bool.not_true,cond_false,Q1l fu hv',Qab,Qw0,decide_eq_false (λe=>by
       obtain ⟨u,rfl⟩:∃ u:Nat,v=u:=⟨v.toNat,by omega⟩
       exact hne u (by omega) e.symm)]
      rfl
theorem Jb9 {s:ByteArray} {pre l:List UInt8} {b:UInt8} (h:s.data.toList=pre++b::l):sx s (pre.length:Int)=some (b.toNat:Int):=by
 have hl:s.data.toList[pre.length]? = some b:=by rw [h]; simp
 have hs:s.data.toList.length=s.size:=Array.length_toList
 have hi:pre.length<s.size:=by rw [← hs,h]; simp
 unfold sx
 rw [if_pos (by omega),Int.toNat_natCast,getElem?_pos s pre.length hi]
 have e:s[pre.length]=b:=by
  have:s.data.toList[pre.length]? = some s[pre.length]:=by
   rw [Array.getElem?_toList]
   exact Array.getElem?_eq_getElem hi
  rw [hl] at this
  exact (Option.some.inj this).symm
 rw [e]; rfl
theorem Jbj {s:ByteArray}:∀ (l pre:List UInt8) (n k:Nat),s.data.toList=pre++l→s.size≤6→l.length<k→n<10 ^ pre.length →
    Qer 2097153 s k (n:Int) (pre.length:Int)=match Lib.decFrom n l with | none=>some (0,false) | some m=>bif decide (Qu2 (m:Int)=s) then some ((m:Int),true) else some (0,false)
 | [],pre,n,k,h,hs,hk,hn=>by
  obtain ⟨k,rfl⟩:∃ j,k=j+1:=⟨k - 1,by omega⟩
  have hsz:s.size=pre.length:=by
   have:s.data.toList.length=s.size:=Array.length_toList
   rw [← this,h]; simp
  have hn6:n<10 ^ 6:=Nat.lt_of_lt_of_le hn (Nat.pow_le_pow_right (by omega) (by omega))
  rw [Qer.eq_2]
  unfold Qmf
  rw [Qam (by simp; omega),Q4d (by omega) (by omega),Qab,Qw0]
  simp only [Lib.decFrom]
  cases decide (Qu2 (n:Int)=s) <;> rfl
 | b::l,pre,n,k,h,hs,hk,hn=>by
  obtain ⟨k,rfl⟩:∃ j,k=j+1:=⟨k - 1,by omega⟩
  have hsz:s.size=pre.length+(l.length+1):=by
   have:s.data.toList.length=s.size:=Array.length_toList
   rw [← this,h]; simp
  have hp:10 ^ pre.length≤10 ^ 5:=Nat.pow_le_pow_right (by omega) (by omega)
  have hb:b.toNat<256:=b.toNat_lt
  have hx:=Jb9 h
  rw [Qer.eq_2]
  unfold Qmf Qpv Qpm
  rw [Qa0 (by simp; omega)]
  simp only [hx,Qab]
  unfold Lib.decFrom Lib.digitVal
  by_cases h1:b.toNat<48
  · rw [Qa0 (by simp; omega),if_neg (by omega)]
  · rw [Qam (by simp; omega)]
    by_cases h2:b.toNat>57
    · rw [Qa0 (by simp; omega),if_neg (by omega)]
    · rw [Qam (by simp; omega),if_pos (by omega)]
      have e:w64 (w64 (w64 (10*(n:Int))+w64 (b.toNat:Int)) - 48)=((n*10+(b.toNat - 48):Nat):Int):=by
       rw [Qa1 (n:=10*(n:Int)) (by omega) (by omega),Qa1 (n:=(b.toNat:Int)) (by omega) (by omega),Qa1 (n:=_+(b.toNat:Int)) (by omega) (by omega),Qa1 (by omega) (by omega)]
       omega
      have e2:w64 ((pre.length:Int)+1)=(((pre++[b]).length:Nat):Int):=by
       rw [Qa1 (by omega) (by omega)]; simp
      rw [e,e2]
      exact Jbj l (pre++[b]) _ k (by simp [h]) hs (by simp at hk; omega) (by
       rw [List.length_append,List.length_singleton,Nat.pow_succ]
       omega)
theorem Jg9 {s:ByteArray} (hs:s.size≤1048576):Qoh 2097153 s=Qh5 2097153 s:=by
 obtain ⟨r,h1,h2⟩:=Jda (fu:=2097153) hs
 rw [h1]
 unfold Qoh Qpo
 have hlen:s.data.toList.length=s.size:=Array.length_toList
 have hB:∀ u:Nat,u≤999999→1≤(Qu2 (u:Int)).size∧(Qu2 (u:Int)).size≤6:=λu hu=>by
  have:=Q7p 5 u (by omega)
  rw [Q33]
  exact this
 by_cases l1:(s.size:Int)<1
 · rw [Qa0 (by simpa using l1)]
   rcases h2 with ⟨u,hu,rfl,_⟩ | ⟨_,rfl⟩
   · have:=hB u hu; omega
   · rfl
 · rw [Qam (by simpa using l1)]
   by_cases l2:(s.size:Int)>6
   · rw [Qa0 (by simpa using l2)]
     rcases h2 with ⟨u,hu,rfl,_⟩ | ⟨_,rfl⟩
     · have:=hB u hu; omega
     · rfl
   · rw [Qam (by simpa using l2)]
     have:=Jbj (s:=s) s.data.toList [] 0 2097153 rfl (by omega) (by omega) (by simp)
     rw [show ((([]:List UInt8).length:Nat):Int)=0 from rfl,show (((0:Nat):Nat):Int)=0 from rfl] at this
     rw [this]
     rcases h2 with ⟨u,hu,rfl,rfl⟩ | ⟨hne,rfl⟩
     · have e:(Qu2 (u:Int)).data.toList=Lib.decDigits u:=by rw [Q33]
       rw [e,Jbe u]
       simp
     · cases hd:Lib.decFrom 0 s.data.toList with
       | none=>rfl
       | some m =>
        have hm:=Lib.decFrom_lt _ _ _ hd
        have hp:10 ^ s.data.toList.length≤10 ^ 6:=Nat.pow_le_pow_right (by omega) (by omega)
        simp only
        rw [decide_eq_false (λe=>hne m (by omega) e.symm)]
        rfl
def ofL (l:List UInt8):ByteArray:=⟨l.toArray⟩
theorem Qve (s:ByteArray):s.data.toList.length=s.size:=Array.length_toList
def cut (b:UInt8):List UInt8→List UInt8×List (List UInt8)
 | []=>([],[])
 | c::l=>if c=b then ([],(cut b l).1::(cut b l).2) else (c::(cut b l).1,(cut b l).2)
def pts (b:UInt8) (l:List UInt8):List (List UInt8):=(cut b l).1::(cut b l).2
def Qsi (b:UInt8) (s:ByteArray):List ByteArray:=(pts b s.data.toList).map ofL
theorem Q8c (b:UInt8) (r:List UInt8):cut b (b::r)=([],(cut b r).1::(cut b r).2):=by rw [cut,if_pos rfl]
theorem Q6m (b:UInt8):∀ (l:List UInt8),(cut b l).2.length≤l.length
 | []=>Nat.le_refl _
 | c::l=>by
  have ih:=Q6m b l
  rw [cut]
  split <;> simp only [List.length_cons] <;> omega
theorem Q8m (b:UInt8):∀ (l:List UInt8),(cut b l).1.length≤l.length∧∀ x∈(cut b l).2,x.length≤l.length
 | []=>⟨by simp [cut],by simp [cut]⟩
 | c::l=>by
  have ih:=Q8m b l
  rw [cut]
  split
  · exact ⟨by simp,λx hx=>by
      simp only [List.length_cons]
      rcases List.mem_cons.1 hx with e | e
      · rw [e]; omega
      · have:=ih.2 x e; omega⟩
  · exact ⟨by simp only [List.length_cons]; omega,λx hx=>by
      have:=ih.2 x hx
      simp only [List.length_cons]; omega⟩
theorem Qr8 (b:UInt8) (s:ByteArray):1≤(Qsi b s).length∧(Qsi b s).length≤s.size+1:=by
 have:=Q6m b s.data.toList
 rw [Qve] at this
 unfold Qsi pts
 simp only [List.length_map,List.length_cons]
 omega
theorem Qsy {b:UInt8} {s x:ByteArray} (h:x∈Qsi b s):x.size≤s.size:=by
 obtain ⟨l,hl,rfl⟩:=List.mem_map.1 h
 have:=Q8m b s.data.toList
 rw [Qve] at this
 show l.toArray.size≤_
 rw [List.size_toArray]
 rcases List.mem_cons.1 hl with rfl | e
 · exact this.1
 · exact this.2 l e
theorem Q5e {s:ByteArray} {pre acc l:List UInt8} (h:s.data.toList=pre++(acc++l)):ssl s (pre.length:Int) ((pre.length:Int)+(acc.length:Int))=some (ofL acc):=by
 have hs:=Qve s
 rw [h] at hs
 simp only [List.length_append] at hs
 unfold ssl
 rw [if_pos (by omega)]
 congr 1
 apply ByteArray.ext
 apply Array.ext'
 rw [show ((pre.length:Int)+(acc.length:Int)).toNat=pre.length+acc.length by omega,Int.toNat_natCast,ByteArray.data_extract,Array.toList_extract,h]
 show _=acc
 rw [List.extract_eq_take_drop,Nat.add_sub_cancel_left,List.drop_left,List.take_left]
theorem Jga {x:ByteArray} {out:List ByteArray} (h:out.length≤2000000):Qfh 16 out [x]=some (out++[x]):=by
 unfold Qfh
 rw [if_pos (by simp only [List.length_singleton]; omega)]
theorem Q1u {fu:Nat} {s:ByteArray} {b:UInt8} (hs:s.size≤1048576):∀ (l pre acc:List UInt8) (out:List ByteArray) (k:Nat),s.data.toList=pre++(acc++l)→l.length<k→out.length+l.length≤1048576 →
    Qgx fu s (b.toNat:Int) k out (pre.length:Int) ((pre.length:Int)+(acc.length:Int))=some (out++ofL (acc++(cut b l).1)::(cut b l).2.map ofL)
 | [],pre,acc,out,k,h,hk,ho=>by
  obtain ⟨k,rfl⟩:∃ j,k=j+1:=⟨k - 1,by omega⟩
  have hz:=Qve s
  rw [h] at hz
  simp only [List.length_append,List.length_nil] at hz
  rw [Qgx.eq_2]
  unfold Qnv
  rw [Qam (by simp; omega),show (s.size:Int)=(pre.length:Int)+(acc.length:Int) by omega,Q5e h,Qab,Jga (by omega),Qab]
  simp [cut]
 | c::l,pre,acc,out,k,h,hk,ho=>by
  obtain ⟨k,rfl⟩:∃ j,k=j+1:=⟨k - 1,by omega⟩
  have hz:=Qve s
  rw [h] at hz
  simp only [List.length_append,List.length_cons] at hz ho
  have hx:sx s ((pre.length:Int)+(acc.length:Int))=some (c.toNat:Int):=by
   have:=Jb9 (s:=s) (pre:=pre++acc) (l:=l) (b:=c) (by rw [h]; simp)
   rw [← this]; simp
  rw [Qgx.eq_2]
  unfold Qnv Qnk
  rw [Qa0 (by simp; omega),hx,Qab,Qa1 (by omega) (by omega)]
  by_cases hc:c=b
  · subst hc
    rw [Qa0 (by simp),Q5e h,Qab,Jga (by omega),Qab]
    have:=Q1u (fu:=fu) (b:=c) hs l (pre++(acc++[c])) [] (out++[ofL acc]) k (by rw [h]; simp) (by simp at hk; omega) (by simp; omega)
    rw [show ((pre.length:Int)+(acc.length:Int)+1)=(((pre++(acc++[c])).length:Nat):Int)+(([]:List UInt8).length:Int) by simp; omega]
    rw [show ((((pre++(acc++[c])).length:Nat):Int)+(([]:List UInt8).length:Int))=(((pre++(acc++[c])).length:Nat):Int) by simp] at this ⊢
    rw [this,Q8c]
    simp
  · rw [Qam (by simpa using λe=>hc (UInt8.toNat_inj.1 (by omega)))]
    have:=Q1u (fu:=fu) (b:=b) hs l pre (acc++[c]) out k (by rw [h]; simp) (by simp at hk; omega) (by omega)
    rw [show ((pre.length:Int)+(acc.length:Int)+1)=(pre.length:Int)+(((acc++[c]).length:Nat):Int) by simp; omega,this,cut,if_neg hc]
    simp
theorem Q7q {s:ByteArray} {b:UInt8} (hs:s.size≤1048576):Qp1 2097153 s (b.toNat:Int)=some (Qsi b s):=by
 unfold Qp1
 have hz:=Qve s
 exact Q1u (b:=b) hs s.data.toList [] [] [] 2097153 rfl (by omega) (by simp; omega)
theorem Q11 {fu:Nat} {s:ByteArray} {b:UInt8} (hs:s.size≤1048576):∀ (l pre acc:List UInt8) (out:List ByteArray) (k:Nat),s.data.toList=pre++(acc++l)→l.length+1<k→out.length+l.length≤1048576 →
    Qfo fu s (b.toNat:Int) k out (pre.length:Int) ((pre.length:Int)+(acc.length:Int))=some (out++ofL (acc++(cut b l).1)::(cut b l).2.map ofL)
 | [],pre,acc,out,k,h,hk,ho=>by
  obtain ⟨k,rfl⟩:∃ j,k=j+2:=⟨k - 2,by simp at hk; omega⟩
  have hz:=Qve s
  rw [h] at hz
  simp only [List.length_append,List.length_nil] at hz
  rw [Qfo.eq_2]
  unfold Qi6 Qhd
  rw [Qa0 (by simp; omega),Qa0 (by simp; omega),Q5e h,Qab,Jga (by omega),Qab,Qa1 (by omega) (by omega),Qfo.eq_2]
  unfold Qi6
  rw [Qam (by simp; omega)]
  simp [cut]
 | c::l,pre,acc,out,k,h,hk,ho=>by
  obtain ⟨k,rfl⟩:∃ j,k=j+1:=⟨k - 1,by omega⟩
  have hz:=Qve s
  rw [h] at hz
  simp only [List.length_append,List.length_cons] at hz ho
  have hx:sx s ((pre.length:Int)+(acc.length:Int))=some (c.toNat:Int):=by
   have:=Jb9 (s:=s) (pre:=pre++acc) (l:=l) (b:=c) (by rw [h]; simp)
   rw [← this]; simp
  rw [Qfo.eq_2]
  unfold Qi6 Qhd
  rw [Qa0 (by simp; omega),Qam (by simp; omega),hx,Qab,Qa1 (by omega) (by omega)]
  by_cases hc:c=b
  · subst hc
    rw [Qa0 (by simp),Q5e h,Qab,Jga (by omega),Qab]
    have:=Q11 (fu:=fu) (b:=c) hs l (pre++(acc++[c])) [] (out++[ofL acc]) k (by rw [h]; simp) (by simp at hk; omega) (by simp; omega)
    rw [show ((pre.length:Int)+(acc.length:Int)+1)=(((pre++(acc++[c])).length:Nat):Int)+(([]:List UInt8).length:Int) by simp; omega]
    rw [show ((((pre++(acc++[c])).length:Nat):Int)+(([]:List UInt8).length:Int))=(((pre++(acc++[c])).length:Nat):Int) by simp] at this ⊢
    rw [this,Q8c]
    simp
  · rw [Qam (by simpa using λe=>hc (UInt8.toNat_inj.1 (by omega)))]
    have:=Q11 (fu:=fu) (b:=b) hs l pre (acc++[c]) out k (by rw [h]; simp) (by simp at hk; omega) (by omega)
    rw [show ((pre.length:Int)+(acc.length:Int)+1)=(pre.length:Int)+(((acc++[c]).length:Nat):Int) by simp; omega,this,cut,if_neg hc]
    simp
theorem Q68 {s:ByteArray} {b:UInt8} (hs:s.size≤1048576):Qp0 2097153 s (b.toNat:Int)=some (Qsi b s):=by
 unfold Qp0
 have hz:=Qve s
 exact Q11 (b:=b) hs s.data.toList [] [] [] 2097153 rfl (by omega) (by simp; omega)
def nmv (x:ByteArray):Int×Bool:=(Qh5 2097153 x).getD (0,false)
theorem Jde {x:ByteArray} (h:x.size≤1048576):Qh5 2097153 x=some (nmv x):=by
 obtain ⟨r,h1,_⟩:=Jda (fu:=2097153) h
 unfold nmv
 rw [h1]; rfl
theorem Jgz {x:ByteArray} (h:x.size≤1048576):Qoh 2097153 x=some (nmv x):=by rw [Jg9 h,Jde h]
theorem Jed {x:ByteArray} (h:x.size≤1048576) (ht:(nmv x).2=true):x=Qu2 (nmv x).1∧0≤(nmv x).1∧(nmv x).1≤999999:=by
 obtain ⟨r,h1,h2⟩:=Jda (fu:=2097153) h
 rw [Jde h] at h1
 rw [Option.some.inj h1] at ht ⊢
 rcases h2 with ⟨u,hu,e,rfl⟩ | ⟨_,rfl⟩
 · exact ⟨e,by simp only; omega,by simp only; omega⟩
 · simp at ht
def nms:List ByteArray→Option (List Int)
 | []=>some []
 | x::xs=>if (nmv x).2=true then (nms xs).map ((nmv x).1::·) else none
def rsL (o:List Int):Option (List Int)→List Int×Bool
 | some ns=>(o++ns,true)
 | none=>([],false)
def wrd (w:ByteArray) (k:Nat) (line:ByteArray):Option (List Int) :=
 match Qsi 32 line with
 | []=>none
 | p::ps=>if p=w∧ps.length=k then nms ps else none
theorem Q97 {fu k:Nat} {xs:List ByteArray} (hx:∀ x∈xs,x.size≤1048576) (hl:xs.length≤1048577) (hk:xs.length<k):Qe6 2097153 xs k [] 0=some (rsL [] (nms xs)):=by
 have key:=lpI xs (λn (o:List Int) i=>Qe6 2097153 xs n o i) (λxs o=>some (rsL o (nms xs))) (λxs o=>(∀ x∈xs,x.size≤1048576)∧o.length+xs.length≤1048577) (by omega) ?_ ?_ k [] ⟨hx,by simpa using hl⟩ (by omega)
 · exact key
 · intro n o i x xs hx hd hI ih
   obtain ⟨i1,i2⟩:=hI
   simp only [List.length_cons] at i2
   simp only [Qe6.eq_2]
   unfold Qkn
   rw [hd,cond_true,hx,Qab,Jde (i1 x (by simp)),Qab,nms]
   cases hv:(nmv x).2 with
   | false=>rfl
   | true =>
    rw [if_pos rfl,Bool.not_true,cond_false]
    have:Qfh 8 o [(nmv x).1]=some (o++[(nmv x).1]):=by
     unfold Qfh
     rw [if_pos (by simp only [List.length_singleton]; omega)]
    rw [this,Qab,ih _ ⟨λy hy=>i1 y (by simp [hy]),by simp only [List.length_append,List.length_singleton]; omega⟩]
    cases nms xs with
    | none=>rfl
    | some ns=>simp [rsL]
 · intro n o i hd hI
   simp only [Qe6.eq_2]
   unfold Qkn
   rw [hd,cond_false]
   simp [nms,rsL]
theorem Q4s {y:ByteArray}:∀ (xs pre:List ByteArray) (o:List Int) (k:Nat),(∀ x∈xs,x.size≤1048576)→(o.length+xs.length≤2000000∧pre.length+xs.length≤2000000)→xs.length<k→Qg0 2097153 (y::(pre++xs)) k o ((pre.length:Int)+1)=some (rsL o (nms xs))
 | [],pre,o,k,hx,hl,hk=>by
  obtain ⟨k,rfl⟩:∃ j,k=j+1:=⟨k - 1,by omega⟩
  rw [Qg0.eq_2]
  unfold Qmg
  rw [Qam (by simp)]
  simp [nms,rsL]
 | x::xs,pre,o,k,hx,hl,hk=>by
  obtain ⟨k,rfl⟩:∃ j,k=j+1:=⟨k - 1,by omega⟩
  simp only [List.length_cons] at hl hk
  rw [Qg0.eq_2]
  unfold Qmg
  have hi:ix (y::(pre++x::xs)) ((pre.length:Int)+1)=some x:=by
   rw [show ((pre.length:Int)+1)=((pre.length+1:Nat):Int) by omega,Qlf]; simp
  rw [Qa0 (by simp; omega),hi,Qab,Jgz (hx x (by simp)),Qab,nms]
  cases hv:(nmv x).2 with
  | false=>rfl
  | true =>
   rw [if_pos rfl,Bool.not_true,cond_false]
   have:Qfh 8 o [(nmv x).1]=some (o++[(nmv x).1]):=by
    unfold Qfh
    rw [if_pos (by simp only [List.length_singleton]; omega)]
   have ih:=Q4s (y:=y) xs (pre++[x]) (o++[(nmv x).1]) k (λy hy=>hx y (by simp [hy])) (by simp only [List.length_append,List.length_singleton]; omega) (by omega)
   rw [this,Qab,Qa1 (by omega) (by omega),show ((pre.length:Int)+1+1)=(((pre++[x]).length:Nat):Int)+1 by simp]
   rw [show y::(pre++x::xs)=y::((pre++[x])++xs) by simp,ih]
   cases nms xs with
   | none=>rfl
   | some ns=>simp [rsL]
theorem Jbz {line w:ByteArray} {k:Nat} (h:line.size≤1048576) (hk:k≤1048576):Qcd 2097153 line w (k:Int)=some (rsL [] (wrd w k line)):=by
 unfold Qcd wrd
 have e:=Q7q (b:=32) h
 have hl:=(Qr8 32 line).2
 have hs:=λx hx=>Nat.le_trans (Qsy (b:=32) (s:=line) (x:=x) hx) h
 rw [show ((32:UInt8).toNat:Int)=32 from rfl] at e
 rw [e,Qab]
 cases hp:Qsi 32 line with
 | nil=>have:=(Qr8 32 line).1; rw [hp] at this; simp at this
 | cons p ps =>
  rw [hp] at hl hs
  simp only [List.length_cons] at hl
  rw [show ix (p::ps) 0=some p from rfl,Qab,Qw0,Qa1 (by omega) (by omega)]
  simp only
  by_cases h1:p=w
  · rw [decide_eq_true h1,Bool.not_true,cond_false]
    by_cases h2:ps.length=k
    · rw [if_pos ⟨h1,h2⟩,Qam (by simp; omega)]
      unfold Qob
      have:sls (p::ps) 1 (((p::ps).length:Nat):Int)=some ps:=by
       unfold sls
       rw [if_pos (by simp only [List.length_cons]; omega),show (1:Int).toNat=1 from rfl,Int.toNat_natCast]
       simp
      rw [this,Qab,Q97 (fu:=0) (λx hx=>hs x (by simp [hx])) (by omega) (by omega)]
    · rw [if_neg (λe=>h2 e.2),Qa0 (by simp; omega)]; rfl
  · rw [decide_eq_false h1,if_neg (λe=>h1 e.1)]; rfl
theorem Je4 {line w:ByteArray} {k:Nat} (h:line.size≤1048576) (hk:k≤1048576):Qod 2097153 line w (k:Int)=some (rsL [] (wrd w k line)):=by
 unfold Qod wrd
 have e:=Q68 (b:=32) h
 have hl:=(Qr8 32 line).2
 have hs:=λx hx=>Nat.le_trans (Qsy (b:=32) (s:=line) (x:=x) hx) h
 rw [show ((32:UInt8).toNat:Int)=32 from rfl] at e
 rw [e,Qab]
 cases hp:Qsi 32 line with
 | nil=>have:=(Qr8 32 line).1; rw [hp] at this; simp at this
 | cons p ps =>
  rw [hp] at hl hs
  simp only [List.length_cons] at hl
  rw [show ix (p::ps) 0=some p from rfl,Qab,Qw0,Qa1 (by omega) (by omega)]
  simp only
  by_cases h1:p=w
  · rw [decide_eq_true h1,Bool.not_true,cond_false]
    by_cases h2:ps.length=k
    · rw [if_pos ⟨h1,h2⟩,Qam (by simp; omega)]
      unfold Qpx
      exact Q4s (y:=p) ps [] [] 2097153 (λx hx=>hs x (by simp [hx])) (by simp; omega) (by omega)
    · rw [if_neg (λe=>h2 e.2),Qa0 (by simp; omega)]; rfl
  · rw [decide_eq_false h1,if_neg (λe=>h1 e.1)]; rfl
theorem Q4z:∀ {xs:List ByteArray} {ns:List Int},(∀ x∈xs,x.size≤1048576)→nms xs=some ns→xs=ns.map Qu2∧∀ n∈ns,0≤n∧n≤999999
 | [],ns,_,h=>by obtain rfl:=Option.some.inj h; simp
 | x::xs,ns,hx,h=>by
  rw [nms] at h
  split at h
  · rename_i hv
    cases hn:nms xs with
    | none=>rw [hn] at h; simp at h
    | some ms =>
     rw [hn] at h
     obtain rfl:=Option.some.inj h
     have:=Q4z (λy hy=>hx y (by simp [hy])) hn
     have h1:=Jed (hx x (by simp)) hv
     exact ⟨by rw [List.map_cons,← this.1,← h1.1],λn hn=>by
      rcases List.mem_cons.1 hn with rfl | hn
      · exact h1.2
      · exact this.2 n hn⟩
  · simp at h
theorem Qkr {w line:ByteArray} {k:Nat} {ns:List Int} (hs:line.size≤1048576) (h:wrd w k line=some ns):ns.length=k∧(∀ n∈ns,0≤n∧n≤999999)∧Qsi 32 line=w::ns.map Qu2:=by
 unfold wrd at h
 split at h
 · simp at h
 · rename_i p ps hp
   split at h
   · rename_i h1
     have:=Q4z (λx hx=>Nat.le_trans (Qsy (b:=32) (s:=line) (by rw [hp]; simp [hx])) hs) h
     refine ⟨?_,this.2,by rw [hp,h1.1,← this.1]⟩
     rw [← h1.2,this.1,List.length_map]
   · simp at h
theorem Qse {w v line:ByteArray} {k j:Nat} {ns:List Int} (hs:line.size≤1048576) (h:wrd w k line=some ns) (hv:v≠w):wrd v j line=none:=by
 have:=(Qkr hs h).2.2
 unfold wrd
 rw [this]
 exact if_neg λe=>hv e.1.symm
def wWF:ByteArray:=⟨#[119,97,121,32,102,105,114,115,116]⟩
def wWN:ByteArray:=⟨#[119,97,121,32,110,101,120,116]⟩
def Q5k:ByteArray:=⟨#[112,97,108,108,101,116]⟩
def Q57:ByteArray:=⟨#[99,108,97,115,115,101,115]⟩
def Q3b:ByteArray:=⟨#[119,105,116,104]⟩
def Q3l:ByteArray:=⟨#[116,121,112,101]⟩
def Q7s:ByteArray:=⟨#[109,97,115,116,101,114]⟩
def Q50:ByteArray:=⟨#[105,116,101,109]⟩
def emB:ByteArray:=⟨#[]⟩
def R0:Request:=⟨0,⟨0,0,0,0⟩,0,[],[],0,[]⟩
def nt1:List Int→Int
 | [a]=>a
 | _=>0
def Jip:List Int→Pallet
 | [a,b,c,d]=>⟨a,b,c,d⟩
 | _=>⟨0,0,0,0⟩
def Jfm:List Int→Pair
 | [a,b]=>⟨a,b⟩
 | _=>⟨0,0⟩
def Jin:List Int→Typ
 | [a,b,c,d,e,f,g]=>⟨a,b,c,d,e,f,g⟩
 | _=>⟨0,0,0,0,0,0,0⟩
def Jiq:List Int→Item
 | [a,b,c,d,e,f,g]=>⟨a,b,c,d,e,f,g⟩
 | _=>⟨0,0,0,0,0,0,0⟩
theorem Jf6 {l:List Int} (h:l.length=1):∃ a,l=[a]:=List.length_eq_one_iff.1 h
theorem Jii {l:List Int} (h:l.length=2):∃ a b,l=[a,b]:=by
 match l,h with
 | [a,b],_=>exact ⟨a,b,rfl⟩
theorem Ji1 {l:List Int} (h:l.length=4):∃ a b c d,l=[a,b,c,d]:=by
 match l,h with
 | [a,b,c,d],_=>exact ⟨a,b,c,d,rfl⟩
theorem Jgb {l:List Int} (h:l.length=7):∃ a b c d e f g,l=[a,b,c,d,e,f,g]:=by
 match l,h with
 | [a,b,c,d,e,f,g],_=>exact ⟨a,b,c,d,e,f,g,rfl⟩
def ptl (r:Request) (l:ByteArray):Int×Request :=
 if l=wWF then (0,⟨0,r.fJ,r.fU,r.fR,r.fG,r.fT,r.fV⟩) else
 if l=wWN then (0,⟨1,r.fJ,r.fU,r.fR,r.fG,r.fT,r.fV⟩) else
 match wrd Q5k 4 l with
 | some n=>(1,⟨r.fe,Jip n,r.fU,r.fR,r.fG,r.fT,r.fV⟩)
 | none=>match wrd Q57 1 l with
  | some n=>(2,⟨r.fe,r.fJ,nt1 n,r.fR,r.fG,r.fT,r.fV⟩)
  | none=>match wrd Q3b 2 l with
   | some n=>(3,⟨r.fe,r.fJ,r.fU,r.fR++[Jfm n],r.fG,r.fT,r.fV⟩)
   | none=>match wrd Q3l 7 l with
    | some n=>(4,⟨r.fe,r.fJ,r.fU,r.fR,r.fG++[Jin n],r.fT,r.fV⟩)
    | none=>match wrd Q7s 1 l with
     | some n=>(5,⟨r.fe,r.fJ,r.fU,r.fR,r.fG,nt1 n,r.fV⟩)
     | none=>match wrd Q50 7 l with
      | some n=>(6,⟨r.fe,r.fJ,r.fU,r.fR,r.fG,r.fT,r.fV++[Jiq n]⟩)
      | none=>(-1,r)
theorem Jdu {line w:ByteArray} {k:Nat} {kk:Int} (h:line.size≤1048576) (hk:k≤1048576) (e:(k:Int)=kk):Qcd 2097153 line w kk=some (rsL [] (wrd w k line)):=e ▸ Jbz h hk
theorem obR {β:Type} (k:List Int×Bool→Option β):Qac (some (rsL [] none)) k=k ([],false):=rfl
theorem Jel {α:Type} (a b:α):(bif (rsL [] none).2 then a else b)=b:=rfl
theorem Jcg {α:Type} (a b:α):(bif !(rsL [] none).2 then a else b)=a:=rfl
theorem Jdf {α:Type} (n:List Int) (a b:α):(bif !(rsL [] (some n)).2 then a else b)=b:=rfl
theorem Jgq {r:Request} {l:ByteArray} (hl:l.size≤1048576) (hp:r.fR.length≤1000) (ht:r.fG.length≤1000) (hi:r.fV.length≤1000):Qpc 2097153 r l=some (ptl r l):=by
 unfold ptl
 show (bif (l.toList==wWF.toList) then _ else bif (l.toList==wWN.toList) then _ else Qac (Qcd 2097153 l Q5k 4) _)=_
 rw [Qw0,Qw0]
 by_cases h1:l=wWF
 · rw [decide_eq_true h1,if_pos h1]; rfl
 rw [decide_eq_false h1,if_neg h1,cond_false]
 by_cases h2:l=wWN
 · rw [decide_eq_true h2,if_pos h2]; rfl
 rw [decide_eq_false h2,if_neg h2,cond_false,Jdu (k:=4) (kk:=4) hl (by omega) rfl]
 cases h3:wrd Q5k 4 l with
 | some n =>
  obtain ⟨a,b,c,d,rfl⟩:=Ji1 (Qkr hl h3).1
  rfl
 | none =>
 rw [obR,Qam rfl]
 show Qac (Qcd 2097153 l Q57 1) _=_
 rw [Jdu (k:=1) (kk:=1) hl (by omega) rfl]
 cases h4:wrd Q57 1 l with
 | some n =>
  obtain ⟨a,rfl⟩:=Jf6 (Qkr hl h4).1
  rfl
 | none =>
 rw [obR,Qam rfl]
 show Qac (Qcd 2097153 l Q3b 2) _=_
 rw [Jdu (k:=2) (kk:=2) hl (by omega) rfl]
 cases h5:wrd Q3b 2 l with
 | some n =>
  obtain ⟨a,b,rfl⟩:=Jii (Qkr hl h5).1
  show Qac (Qfh 16 r.fR [(⟨a,b⟩:Pair)]) _=_
  rw [ap1 (by simp only [List.length_singleton]; omega)]
  rfl
 | none =>
 rw [obR,Qam rfl]
 show Qac (Qcd 2097153 l Q3l 7) _=_
 rw [Jdu (k:=7) (kk:=7) hl (by omega) rfl]
 cases h6:wrd Q3l 7 l with
 | some n =>
  obtain ⟨a,b,c,d,e,f,g,rfl⟩:=Jgb (Qkr hl h6).1
  show Qac (Qfh 56 r.fG [(⟨a,b,c,d,e,f,g⟩:Typ)]) _=_
  rw [ap1 (by simp only [List.length_singleton]; omega)]
  rfl
 | none =>
 rw [obR,Qam rfl]
 show Qac (Qcd 2097153 l Q7s 1) _=_
 rw [Jdu (k:=1) (kk:=1) hl (by omega) rfl]
 cases h7:wrd Q7s 1 l with
 | some n =>
  obtain ⟨a,rfl⟩:=Jf6 (Qkr hl h7).1
  rfl
 | none =>
 rw [obR,Qam rfl]
 show Qac (Qcd 2097153 l Q50 7) _=_
 rw [Jdu (k:=7) (kk:=7) hl (by omega) rfl]
 cases h8:wrd Q50 7 l with
 | some n =>
  obtain ⟨a,b,c,d,e,f,g,rfl⟩:=Jgb (Qkr hl h8).1
  show Qac (Qfh 56 r.fV [(⟨a,b,c,d,e,f,g⟩:Item)]) _=_
  rw [ap1 (by simp only [List.length_singleton]; omega)]
  rfl
 | none=>rfl
def mf (last k:Int):Bool :=
 if k=0 then last==-1 else if k=1 then last==0 else if k=2 then last==1 else if k=3 then last==2||last==3 else if k=4 then inb last 2 4 else if k=5 then inb last 2 4 else if k=6 then last==5||last==6 else false
theorem Qsz (r:Request) (l:ByteArray):((ptl r l).1=0∧(l=wWF∨l=wWN))∨((ptl r l).1=1∧∃ n,wrd Q5k 4 l=some n)∨((ptl r l).1=2∧∃ n,wrd Q57 1 l=some n)∨((ptl r l).1=3∧∃ n,wrd Q3b 2 l=some n) ∨
    ((ptl r l).1=4∧∃ n,wrd Q3l 7 l=some n)∨((ptl r l).1=5∧∃ n,wrd Q7s 1 l=some n)∨((ptl r l).1=6∧∃ n,wrd Q50 7 l=some n)∨(ptl r l).1=-1:=by
 unfold ptl
 split
 · rename_i h; exact .inl ⟨rfl,.inl h⟩
 split
 · rename_i h; exact .inl ⟨rfl,.inr h⟩
 split
 · rename_i h; exact .inr (.inl ⟨rfl,_,h⟩)
 split
 · rename_i h; exact .inr (.inr (.inl ⟨rfl,_,h⟩))
 split
 · rename_i h; exact .inr (.inr (.inr (.inl ⟨rfl,_,h⟩)))
 split
 · rename_i h; exact .inr (.inr (.inr (.inr (.inl ⟨rfl,_,h⟩))))
 split
 · rename_i h; exact .inr (.inr (.inr (.inr (.inr (.inl ⟨rfl,_,h⟩)))))
 split
 · rename_i h; exact .inr (.inr (.inr (.inr (.inr (.inr (.inl ⟨rfl,_,h⟩))))))
 exact .inr (.inr (.inr (.inr (.inr (.inr (.inr rfl))))))
theorem Jeu {last k:Int} (h:-1≤k∧k≤6):Qlo 2097153 last k=some (mf last k):=by
 have:k=-1∨k=0∨k=1∨k=2∨k=3∨k=4∨k=5∨k=6:=by omega
 unfold Qlo Qgo
 simp only [Q0l,Qab]
 rcases this with rfl | rfl | rfl | rfl | rfl | rfl | rfl | rfl
 · rfl
 · rfl
 · rfl
 · rfl
 · show (bif (last==2) then some true else some (last==3))=some (last==2||last==3)
   cases last==2 <;> rfl
 · rfl
 · rfl
 · show (bif (last==5) then some true else some (last==6))=some (last==5||last==6)
   cases last==5 <;> rfl
theorem Q7d (r:Request) (l:ByteArray):(ptl r l).2.fR.length≤r.fR.length+1∧(ptl r l).2.fG.length≤r.fG.length+1∧(ptl r l).2.fV.length≤r.fV.length+1:=by
 unfold ptl
 repeat' split
 all_goals simp
theorem Jc8 (r:Request) (l:ByteArray):-1≤(ptl r l).1∧(ptl r l).1≤6:=by
 have:=Qsz r l
 omega
def Qwv (z:ByteArray):List ByteArray→Int→Request→Int→Request×Int
 | [],last,r,i=>if last<5 then (R0,i) else if z=emB then (r,-1) else (R0,i)
 | l::ls,last,r,i=>bif mf last (ptl r l).1 then Qwv z ls (ptl r l).1 (ptl r l).2 (i+1) else (R0,i)
def rdM (s:ByteArray):Request×Int :=
 if 61<(Qsi 10 s).length then (R0,60) else Qwv ((Qsi 10 s).getLastD emB) (Qsi 10 s).dropLast (-1) R0 0
theorem Q4e (b:UInt8) (s:ByteArray):∃ ls z,Qsi b s=ls++[z]∧(Qsi b s).dropLast=ls∧(Qsi b s).getLastD emB=z:=by
 have h:=(Qr8 b s).1
 have hn:Qsi b s≠[]:=λe=>by rw [e] at h; simp at h
 refine ⟨_,(Qsi b s).getLast hn,(List.dropLast_concat_getLast hn).symm,rfl,?_⟩
 rw [List.getLastD_eq_getLast?,List.getLast?_eq_some_getLast hn]; rfl
theorem Jfe {α:Type} {ls:List α} {z:α}:sls (ls++[z]) 0 (ls.length:Int)=some ls:=by
 rw [Qtb (by simp; omega)]
 simp
theorem Jev {α:Type} {ls:List α} {z:α}:ix (ls++[z]) (ls.length:Int)=some z:=by
 rw [Qlf]; simp
theorem Jbm {s:ByteArray} (hs:s.size≤1048576):Qhx 2097153 s=some (rdM s):=by
 unfold Qhx rdM
 have e:=Q7q (b:=10) hs
 rw [show ((10:UInt8).toNat:Int)=10 from rfl] at e
 rw [e,Qab]
 obtain ⟨ls,z,h1,h2,h3⟩:=Q4e 10 s
 have hsz:=λx hx=>Nat.le_trans (Qsy (b:=10) (s:=s) (x:=x) hx) hs
 have hn:=(Qr8 10 s).2
 rw [h2,h3]
 rw [h1] at hsz hn ⊢
 simp only [List.length_append,List.length_singleton] at hn ⊢
 rw [Qa1 (by omega) (by omega),show ((ls.length+1:Nat):Int) - 1=ls.length by omega]
 by_cases h61:61<ls.length+1
 · rw [Qa0 (by simp; omega),if_pos h61]; rfl
 rw [Qam (by simp; omega),if_neg h61,Jfe,Qab]
 have key:=Jb5 ls (λn (o:Request×Int) i=>Qey 2097153 (ls++[z]) ls n o.1.fe o.1.fJ.fW o.1.fJ.fD o.1.fJ.fH o.1.fJ.fQ o.1.fU o.1.fR o.1.fG o.1.fT o.1.fV o.2 i) (λpre xs o=>some (Qwv z xs o.2 o.1 (pre.length:Int))) (λpre xs o=>o.1.fR.length≤pre.length∧o.1.fG.length≤pre.length∧o.1.fV.length≤pre.length) (by omega) ?_ ?_ 2097153 (R0,-1) ⟨by simp [R0],by simp [R0],by simp [R0]⟩ (by omega)
 · exact key
 · intro n o pre x xs e hx hd hI ih
   have hpl:pre.length<ls.length:=by rw [e]; simp
   have hxs:x.size≤1048576:=hsz x (by rw [e]; simp)
   simp only [Qey.eq_2]
   unfold Qh9
   rw [hd,cond_true,hx,Qab]
   show Qac (Qpc 2097153 o.1 x) _=_
   rw [Jgq hxs (by omega) (by omega) (by omega),Qab,Jeu (Jc8 _ _),Qab]
   cases hm:mf o.2 (ptl o.1 x).1 with
   | false =>
    rw [Bool.not_false,cond_true,Qwv,hm]; rfl
   | true =>
    rw [Bool.not_true,cond_false]
    have hl:=Q7d o.1 x
    have:=ih ((ptl o.1 x).2,(ptl o.1 x).1) ⟨by simp; omega,by simp; omega,by simp; omega⟩
    rw [Qwv,hm,cond_true]
    simp only at this
    rw [this]
    simp
 · intro n o hd hI
   simp only [Qey.eq_2]
   unfold Qh9
   rw [hd,cond_false,Qwv]
   simp only [List.length_append,List.length_singleton]
   rw [Qa1 (by omega) (by omega),show ((ls.length+1:Nat):Int) - 1=ls.length by omega,Jev,Qab]
   by_cases h5:o.2<5
   · rw [Qa0 (by simpa using h5),if_pos h5]; rfl
   rw [Qam (by simpa using h5),if_neg h5]
   show (bif (!(z.toList==emB.toList)) then _ else _)=_
   rw [Qw0]
   by_cases hz:z=emB
   · rw [decide_eq_true hz,if_pos hz]; rfl
   · rw [decide_eq_false hz,if_neg hz]; rfl
theorem Ji2 {line w:ByteArray} {k:Nat} {kk:Int} (h:line.size≤1048576) (hk:k≤1048576) (e:(k:Int)=kk):Qod 2097153 line w kk=some (rsL [] (wrd w k line)):=e ▸ Je4 h hk
def nx (w:ByteArray) (k:Nat):List ByteArray→Option (List Int)
 | []=>none
 | l::_=>wrd w k l
theorem Q9c {pre rest:List ByteArray} {z w:ByteArray} {k:Nat} {kk at_:Int} (hs:∀ x∈rest,x.size≤1048576) (hl:pre.length+rest.length≤1000) (hk:k≤1000) (e:(k:Int)=kk) (ea:(pre.length:Int)=at_):Qbk 2097153 (pre++(rest++[z])) at_ w kk=some (rsL [] (nx w k rest)):=by
 subst ea
 unfold Qbk
 simp only [List.length_append,List.length_singleton]
 rw [Qa1 (by omega) (by omega)]
 cases rest with
 | nil=>rw [Qa0 (by simp)]; rfl
 | cons l ls =>
  rw [Qam (by simp; omega),Qlf]
  have:(pre++(l::ls++[z]))[pre.length]? = some l:=by simp
  rw [this,Qab,Ji2 (k:=k) (hs l (by simp)) (by omega) e,Qab]
  rfl
theorem Jb1 {l:ByteArray} {n:List Int} (hl:l.size≤1048576) (h:wrd Q50 7 l=some n) (r:Request):ptl r l=(6,⟨r.fe,r.fJ,r.fU,r.fR,r.fG,r.fT,r.fV++[Jiq n]⟩):=by
 have hp:=(Qkr hl h).2.2
 unfold ptl
 rw [if_neg (λe=>by rw [e] at hp; revert hp; exact λhp=>absurd (List.cons.inj hp).1 (by decide)),if_neg (λe=>by rw [e] at hp; exact absurd (List.cons.inj hp).1 (by decide)),Qse hl h (v:=Q5k) (by decide),Qse hl h (v:=Q57) (by decide),Qse hl h (v:=Q3b) (by decide),Qse hl h (v:=Q3l) (by decide),Qse hl h (v:=Q7s) (by decide),h]
theorem Jdd {l:ByteArray} {n:List Int} (hl:l.size≤1048576) (h:wrd Q7s 1 l=some n) (r:Request):ptl r l=(5,⟨r.fe,r.fJ,r.fU,r.fR,r.fG,nt1 n,r.fV⟩):=by
 have hp:=(Qkr hl h).2.2
 unfold ptl
 rw [if_neg (λe=>by rw [e] at hp; exact absurd (List.cons.inj hp).1 (by decide)),if_neg (λe=>by rw [e] at hp; exact absurd (List.cons.inj hp).1 (by decide)),Qse hl h (v:=Q5k) (by decide),Qse hl h (v:=Q57) (by decide),Qse hl h (v:=Q3b) (by decide),Qse hl h (v:=Q3l) (by decide),h]
theorem Jbr {l:ByteArray} {n:List Int} (hl:l.size≤1048576) (h:wrd Q3l 7 l=some n) (r:Request):ptl r l=(4,⟨r.fe,r.fJ,r.fU,r.fR,r.fG++[Jin n],r.fT,r.fV⟩):=by
 have hp:=(Qkr hl h).2.2
 unfold ptl
 rw [if_neg (λe=>by rw [e] at hp; exact absurd (List.cons.inj hp).1 (by decide)),if_neg (λe=>by rw [e] at hp; exact absurd (List.cons.inj hp).1 (by decide)),Qse hl h (v:=Q5k) (by decide),Qse hl h (v:=Q57) (by decide),Qse hl h (v:=Q3b) (by decide),h]
theorem Jcz {l:ByteArray} {n:List Int} (hl:l.size≤1048576) (h:wrd Q3b 2 l=some n) (r:Request):ptl r l=(3,⟨r.fe,r.fJ,r.fU,r.fR++[Jfm n],r.fG,r.fT,r.fV⟩):=by
 have hp:=(Qkr hl h).2.2
 unfold ptl
 rw [if_neg (λe=>by rw [e] at hp; exact absurd (List.cons.inj hp).1 (by decide)),if_neg (λe=>by rw [e] at hp; exact absurd (List.cons.inj hp).1 (by decide)),Qse hl h (v:=Q5k) (by decide),Qse hl h (v:=Q57) (by decide),h]
theorem Jc5 {l:ByteArray} {n:List Int} (hl:l.size≤1048576) (h:wrd Q57 1 l=some n) (r:Request):ptl r l=(2,⟨r.fe,r.fJ,nt1 n,r.fR,r.fG,r.fT,r.fV⟩):=by
 have hp:=(Qkr hl h).2.2
 unfold ptl
 rw [if_neg (λe=>by rw [e] at hp; exact absurd (List.cons.inj hp).1 (by decide)),if_neg (λe=>by rw [e] at hp; exact absurd (List.cons.inj hp).1 (by decide)),Qse hl h (v:=Q5k) (by decide),h]
theorem Jco {l:ByteArray} {n:List Int} (hl:l.size≤1048576) (h:wrd Q5k 4 l=some n) (r:Request):ptl r l=(1,⟨r.fe,Jip n,r.fU,r.fR,r.fG,r.fT,r.fV⟩):=by
 have hp:=(Qkr hl h).2.2
 unfold ptl
 rw [if_neg (λe=>by rw [e] at hp; exact absurd (List.cons.inj hp).1 (by decide)),if_neg (λe=>by rw [e] at hp; exact absurd (List.cons.inj hp).1 (by decide)),h]
theorem Qyb {z l:ByteArray} {ls:List ByteArray} {last i:Int} {r:Request} (h:mf last (ptl r l).1=false):Qwv z (l::ls) last r i=(R0,i):=by
 rw [Qwv,h]; rfl
theorem Qsl {z l:ByteArray} {ls:List ByteArray} {last i k:Int} {r q:Request} (h:ptl r l=(k,q)) (hm:mf last k=true):Qwv z (l::ls) last r i=Qwv z ls k q (i+1):=by
 rw [Qwv,h,hm]; rfl
theorem Jiv {z:ByteArray} {w a b c d cl m:Int} {P:List Pair} {T:List Typ}:∀ (rest pre:List ByteArray) (its:List Item) (k:Nat) (last:Int),(∀ x∈rest,x.size≤1048576)→pre.length+rest.length≤1000→its.length≤pre.length→rest.length<k→(last=5∨last=6) →
    Qev 2097153 (pre++(rest++[z])) w a b c d cl P T m k its (pre.length:Int) (rsL [] (nx Q50 7 rest)).1 (rsL [] (nx Q50 7 rest)).2=some (Qwv z rest last ⟨w,⟨a,b,c,d⟩,cl,P,T,m,its⟩ (pre.length:Int))
 | [],pre,its,k,last,hs,hl,hi,hk,h5=>by
  obtain ⟨k,rfl⟩:∃ j,k=j+1:=⟨k - 1,by omega⟩
  simp only [List.length_nil] at hl
  rw [Qev.eq_2]
  unfold Qh0
  rw [show nx Q50 7 []=none from rfl,Jel]
  simp only [List.nil_append,List.length_append,List.length_singleton]
  rw [Qa1 (by omega) (by omega),Qam (by simp),show ((pre.length+1:Nat):Int) - 1=pre.length by omega,Jev,Qab]
  show (bif (!(z.toList==emB.toList)) then _ else _)=_
  rw [Qw0,Qwv,if_neg (show ¬ last<5 by omega)]
  by_cases hz:z=emB
  · rw [decide_eq_true hz,if_pos hz]; try rfl
  · rw [decide_eq_false hz,if_neg hz]; try rfl
 | l::ls,pre,its,k,last,hs,hl,hi,hk,h5=>by
  obtain ⟨k,rfl⟩:∃ j,k=j+1:=⟨k - 1,by omega⟩
  simp only [List.length_cons] at hl hk
  rw [Qev.eq_2]
  unfold Qh0
  have hsl:=hs l (by simp)
  rw [show nx Q50 7 (l::ls)=wrd Q50 7 l from rfl]
  cases hw:wrd Q50 7 l with
  | none =>
   rw [Jel]
   simp only [List.length_append,List.length_singleton,List.length_cons,List.length_nil]
   rw [Qa1 (by omega) (by omega),Qa0 (by simp; omega),Qyb ?_]; · rfl
   have hc:=Qsz ⟨w,⟨a,b,c,d⟩,cl,P,T,m,its⟩ l
   rw [hw] at hc
   rcases hc with ⟨e,_⟩ | ⟨e,_⟩ | ⟨e,_⟩ | ⟨e,_⟩ | ⟨e,_⟩ | ⟨e,_⟩ | ⟨_,_,e⟩ | e
   all_goals first | (rw [e]; rcases h5 with rfl | rfl <;> rfl) | exact absurd e (by simp)
  | some n =>
   obtain ⟨x1,x2,x3,x4,x5,x6,x7,rfl⟩:=Jgb (Qkr hsl hw).1
   rw [Qsl (Jb1 hsl hw _) (by rcases h5 with rfl | rfl <;> rfl)]
   show Qac (Qfh 56 its [(⟨x1,x2,x3,x4,x5,x6,x7⟩:Item)]) _=_
   rw [ap1 (by simp only [List.length_singleton]; omega),Qab,Qa1 (by omega) (by omega)]
   have e:pre++(l::ls++[z])=(pre++[l])++(ls++[z]):=by simp
   have ea:(pre.length:Int)+1=(((pre++[l]).length:Nat):Int):=by simp
   rw [e,ea]
   show Qac (Qbk 2097153 ((pre++[l])++(ls++[z])) (((pre++[l]).length:Nat):Int) Q50 7) _=_
   rw [Q9c (k:=7) (kk:=7) (λx hx=>hs x (by simp [hx])) (by simp; omega) (by omega) rfl rfl,Qab]
   exact Jiv ls (pre++[l]) _ k 6 (λx hx=>hs x (by simp [hx])) (by simp; omega) (by simp; omega) (by omega) (.inr rfl)
theorem Jir {z:ByteArray} {w a b c d cl:Int} {P:List Pair}:∀ (rest pre:List ByteArray) (ts:List Typ) (k:Nat) (last:Int),(∀ x∈rest,x.size≤1048576)→pre.length+rest.length≤1000→ts.length≤pre.length→rest.length<k→(last=4∨(last=2∨last=3)∧nx Q3b 2 rest=none) →
    Qew 2097153 (pre++(rest++[z])) w a b c d cl P k ts (pre.length:Int) (rsL [] (nx Q3l 7 rest)).1 (rsL [] (nx Q3l 7 rest)).2=some (Qwv z rest last ⟨w,⟨a,b,c,d⟩,cl,P,ts,0,[]⟩ (pre.length:Int))
 | [],pre,ts,k,last,hs,hl,hi,hk,h5=>by
  obtain ⟨k,rfl⟩:∃ j,k=j+1:=⟨k - 1,by omega⟩
  rw [Qew.eq_2]
  unfold Qia
  rw [show nx Q3l 7 []=none from rfl,Jel]
  show Qac (Qbk 2097153 (pre++([]++[z])) (pre.length:Int) Q7s 1) _=_
  rw [Q9c (k:=1) (kk:=1) hs hl (by omega) rfl rfl,Qab,Qwv,if_pos (by omega)]
  rfl
 | l::ls,pre,ts,k,last,hs,hl,hi,hk,h5=>by
  obtain ⟨k,rfl⟩:∃ j,k=j+1:=⟨k - 1,by omega⟩
  have hl0:=hl
  simp only [List.length_cons] at hl hk
  rw [Qew.eq_2]
  unfold Qia
  have hsl:=hs l (by simp)
  have e:pre++(l::ls++[z])=(pre++[l])++(ls++[z]):=by simp
  have ea:(pre.length:Int)+1=(((pre++[l]).length:Nat):Int):=by simp
  rw [show nx Q3l 7 (l::ls)=wrd Q3l 7 l from rfl]
  cases hw:wrd Q3l 7 l with
  | none =>
   rw [Jel]
   show Qac (Qbk 2097153 (pre++(l::ls++[z])) (pre.length:Int) Q7s 1) _=_
   rw [Q9c (k:=1) (kk:=1) hs hl0 (by omega) rfl rfl,Qab]
   rw [show nx Q7s 1 (l::ls)=wrd Q7s 1 l from rfl]
   cases hm:wrd Q7s 1 l with
   | none =>
    rw [Jcg,Qyb ?_]; · rfl
    have hc:=Qsz ⟨w,⟨a,b,c,d⟩,cl,P,ts,0,[]⟩ l
    rw [hw,hm] at hc
    have h5':last=4∨(last=2∨last=3)∧wrd Q3b 2 l=none:=h5
    rcases hc with ⟨e,_⟩ | ⟨e,_⟩ | ⟨e,_⟩ | ⟨e,_,e'⟩ | ⟨_,_,e⟩ | ⟨_,_,e⟩ | ⟨e,_⟩ | e
    all_goals first | exact absurd e (by simp) | (rw [e]; rcases h5' with rfl | ⟨rfl | rfl,h6⟩ <;> first | rfl | (rw [h6] at e'; exact absurd e' (by simp)))
   | some n =>
    obtain ⟨x1,rfl⟩:=Jf6 (Qkr hsl hm).1
    rw [Jdf,Qsl (Jdd hsl hm _) (by rcases h5 with rfl | ⟨rfl | rfl,_⟩ <;> rfl)]
    show Qac (Qbk 2097153 (pre++(l::ls++[z])) (w64 ((pre.length:Int)+1)) Q50 7) _=_
    rw [Qa1 (by omega) (by omega),e,ea,Q9c (k:=7) (kk:=7) (λx hx=>hs x (by simp [hx])) (by simp; omega) (by omega) rfl rfl,Qab]
    exact Jiv ls (pre++[l]) [] 2097153 5 (λx hx=>hs x (by simp [hx])) (by simp; omega) (by simp) (by omega) (.inl rfl)
  | some n =>
   obtain ⟨x1,x2,x3,x4,x5,x6,x7,rfl⟩:=Jgb (Qkr hsl hw).1
   rw [Qsl (Jbr hsl hw _) (by rcases h5 with rfl | ⟨rfl | rfl,_⟩ <;> rfl)]
   show Qac (Qfh 56 ts [(⟨x1,x2,x3,x4,x5,x6,x7⟩:Typ)]) _=_
   rw [ap1 (by simp only [List.length_singleton]; omega),Qab,Qa1 (by omega) (by omega),e,ea]
   show Qac (Qbk 2097153 ((pre++[l])++(ls++[z])) (((pre++[l]).length:Nat):Int) Q3l 7) _=_
   rw [Q9c (k:=7) (kk:=7) (λx hx=>hs x (by simp [hx])) (by simp; omega) (by omega) rfl rfl,Qab]
   exact Jir ls (pre++[l]) _ k 4 (λx hx=>hs x (by simp [hx])) (by simp; omega) (by simp; omega) (by omega) (.inl rfl)
theorem Jiz {z:ByteArray} {w a b c d cl:Int}:∀ (rest pre:List ByteArray) (ps:List Pair) (k:Nat) (last:Int),(∀ x∈rest,x.size≤1048576)→pre.length+rest.length≤1000→ps.length≤pre.length→rest.length<k→(last=2∨last=3) →
    Qge 2097153 (pre++(rest++[z])) w a b c d cl k ps (pre.length:Int) (rsL [] (nx Q3b 2 rest)).1 (rsL [] (nx Q3b 2 rest)).2=some (Qwv z rest last ⟨w,⟨a,b,c,d⟩,cl,ps,[],0,[]⟩ (pre.length:Int))
 | rest,pre,ps,k,last,hs,hl,hi,hk,h5=>by
  obtain ⟨k,rfl⟩:∃ j,k=j+1:=⟨k - 1,by omega⟩
  rw [Qge.eq_2]
  unfold Qnc
  cases hw:nx Q3b 2 rest with
  | none =>
   rw [Jel]
   show Qac (Qbk 2097153 (pre++(rest++[z])) (pre.length:Int) Q3l 7) _=_
   rw [Q9c (k:=7) (kk:=7) hs hl (by omega) rfl rfl,Qab]
   exact Jir rest pre [] 2097153 last hs hl (by simp) (by omega) (.inr ⟨h5,hw⟩)
  | some n =>
   cases rest with
   | nil=>exact absurd hw (by simp [nx])
   | cons l ls =>
    have hsl:=hs l (by simp)
    have e:pre++(l::ls++[z])=(pre++[l])++(ls++[z]):=by simp
    have ea:(pre.length:Int)+1=(((pre++[l]).length:Nat):Int):=by simp
    simp only [List.length_cons] at hl hk
    have hw':wrd Q3b 2 l=some n:=hw
    obtain ⟨x1,x2,rfl⟩:=Jii (Qkr hsl hw').1
    rw [Qsl (Jcz hsl hw' _) (by rcases h5 with rfl | rfl <;> rfl)]
    show Qac (Qfh 16 ps [(⟨x1,x2⟩:Pair)]) _=_
    rw [ap1 (by simp only [List.length_singleton]; omega),Qab,Qa1 (by omega) (by omega),e,ea]
    show Qac (Qbk 2097153 ((pre++[l])++(ls++[z])) (((pre++[l]).length:Nat):Int) Q3b 2) _=_
    rw [Q9c (k:=2) (kk:=2) (λx hx=>hs x (by simp [hx])) (by simp; omega) (by omega) rfl rfl,Qab]
    exact Jiz ls (pre++[l]) _ k 3 (λx hx=>hs x (by simp [hx])) (by simp; omega) (by simp; omega) (by omega) (.inr rfl)
 termination_by rest=>rest.length
theorem Jis {z l0:ByteArray} {w:Int} {rest:List ByteArray} (hs:∀ x∈rest,x.size≤1048576) (hl:rest.length≤900):Qd2 2097153 ([l0]++(rest++[z])) w=some (Qwv z rest 0 ⟨w,⟨0,0,0,0⟩,0,[],[],0,[]⟩ 1):=by
 unfold Qd2
 show Qac (Qbk 2097153 ([l0]++(rest++[z])) 1 Q5k 4) _=_
 rw [Q9c (k:=4) (kk:=4) (at_:=1) (pre:=[l0]) hs (by simp; omega) (by omega) rfl rfl,Qab]
 cases rest with
 | nil=>rfl
 | cons l1 ls =>
  have h1:=hs l1 (by simp)
  simp only [List.length_cons] at hl
  rw [show nx Q5k 4 (l1::ls)=wrd Q5k 4 l1 from rfl]
  cases hw:wrd Q5k 4 l1 with
  | none =>
   rw [Jcg,Qyb ?_]; · rfl
   have hc:=Qsz ⟨w,⟨0,0,0,0⟩,0,[],[],0,[]⟩ l1
   rw [hw] at hc
   rcases hc with ⟨e,_⟩ | ⟨_,_,e⟩ | ⟨e,_⟩ | ⟨e,_⟩ | ⟨e,_⟩ | ⟨e,_⟩ | ⟨e,_⟩ | e
   all_goals first | exact absurd e (by simp) | (rw [e]; rfl)
  | some n =>
   obtain ⟨a,b,c,d,rfl⟩:=Ji1 (Qkr h1 hw).1
   rw [Jdf,Qsl (Jco h1 hw _) rfl]
   show Qac (Qbk 2097153 ([l0,l1]++(ls++[z])) 2 Q57 1) _=some (Qwv z ls 1 ⟨w,⟨a,b,c,d⟩,0,[],[],0,[]⟩ 2)
   rw [Q9c (k:=1) (kk:=1) (at_:=2) (pre:=[l0,l1]) (λx hx=>hs x (by simp [hx])) (by simp; omega) (by omega) rfl rfl,Qab]
   cases ls with
   | nil=>rfl
   | cons l2 ls =>
    have h2:=hs l2 (by simp)
    simp only [List.length_cons] at hl
    rw [show nx Q57 1 (l2::ls)=wrd Q57 1 l2 from rfl]
    cases hw:wrd Q57 1 l2 with
    | none =>
     rw [Jcg,Qyb ?_]; · rfl
     have hc:=Qsz ⟨w,⟨a,b,c,d⟩,0,[],[],0,[]⟩ l2
     rw [hw] at hc
     rcases hc with ⟨e,_⟩ | ⟨e,_⟩ | ⟨_,_,e⟩ | ⟨e,_⟩ | ⟨e,_⟩ | ⟨e,_⟩ | ⟨e,_⟩ | e
     all_goals first | exact absurd e (by simp) | (rw [e]; rfl)
    | some n =>
     obtain ⟨cl,rfl⟩:=Jf6 (Qkr h2 hw).1
     rw [Jdf,Qsl (Jc5 h2 hw _) rfl]
     show Qac (Qbk 2097153 ([l0,l1,l2]++(ls++[z])) 3 Q3b 2) _=some (Qwv z ls 2 ⟨w,⟨a,b,c,d⟩,cl,[],[],0,[]⟩ 3)
     rw [Q9c (k:=2) (kk:=2) (at_:=3) (pre:=[l0,l1,l2]) (λx hx=>hs x (by simp [hx])) (by simp; omega) (by omega) rfl rfl,Qab]
     exact Jiz ls [l0,l1,l2] [] 2097153 2 (λx hx=>hs x (by simp [hx])) (by simp; omega) (by simp) (by omega) (.inl rfl)
theorem Ja3 {s:ByteArray} (hs:s.size≤1048576):Qhv 2097153 s=some (rdM s):=by
 unfold Qhv rdM
 have e:=Q68 (b:=10) hs
 rw [show ((10:UInt8).toNat:Int)=10 from rfl] at e
 rw [e,Qab]
 obtain ⟨ls,z,h1,h2,h3⟩:=Q4e 10 s
 have hsz:=λx hx=>Nat.le_trans (Qsy (b:=10) (s:=s) (x:=x) hx) hs
 have hn:=(Qr8 10 s).2
 rw [h2,h3]
 rw [h1] at hsz hn ⊢
 simp only [List.length_append,List.length_singleton] at hn ⊢
 rw [Qa1 (by omega) (by omega),show ((ls.length+1:Nat):Int) - 1=ls.length by omega]
 by_cases h61:61<ls.length+1
 · rw [Qa0 (by simp; omega),if_pos h61]; rfl
 rw [Qam (by simp; omega),if_neg h61]
 cases ls with
 | nil=>rfl
 | cons l0 ls =>
  rw [Qam (by simp; omega)]
  have hr:∀ x∈ls,x.size≤1048576:=λx hx=>hsz x (by simp [hx])
  simp only [List.length_cons] at h61
  rw [show ix (l0::ls++[z]) 0=some l0 from rfl,Qab]
  show (bif (!(l0.toList==wWF.toList)) then (bif (!(l0.toList==wWN.toList)) then _ else _) else _)=_
  have j2:∀ (k:Int),(l0=wWN→k=1)→(l0≠wWN→k=0)→Qgi 2097153 (l0::ls++[z])=some (Qwv z ls 0 ⟨k,⟨0,0,0,0⟩,0,[],[],0,[]⟩ 1):=λk k1 k0=>by
   unfold Qgi
   rw [show ix (l0::ls++[z]) 0=some l0 from rfl,Qab]
   show (bif (l0.toList==wWN.toList) then Qd2 2097153 ([l0]++(ls++[z])) 1 else Qd2 2097153 ([l0]++(ls++[z])) 0)=_
   rw [Qw0,Jis hr (by omega),Jis hr (by omega)]
   by_cases hl:l0=wWN
   · rw [decide_eq_true hl,k1 hl]; rfl
   · rw [decide_eq_false hl,k0 hl]; rfl
  rw [Qw0,Qw0]
  by_cases hF:l0=wWF
  · rw [decide_eq_true hF,Bool.not_true,cond_false,j2 0 (λe=>absurd (e.symm.trans hF) (by decide)) λ_=>rfl,Qsl (k:=0) (q:=⟨0,⟨0,0,0,0⟩,0,[],[],0,[]⟩) ?_ rfl]; · rfl
    unfold ptl
    rw [if_pos hF]; rfl
  · rw [decide_eq_false hF,Bool.not_false,cond_true]
    by_cases hN:l0=wWN
    · rw [decide_eq_true hN,Bool.not_true,cond_false,j2 1 (λ_=>rfl) (λe=>absurd hN e),Qsl (k:=0) (q:=⟨1,⟨0,0,0,0⟩,0,[],[],0,[]⟩) ?_ rfl]; · rfl
      unfold ptl
      rw [if_neg hF,if_pos hN]; rfl
    · rw [decide_eq_false hN,Bool.not_false,cond_true,Qyb ?_]; · rfl
      have hc:=Qsz R0 l0
      rcases hc with ⟨_,e⟩ | ⟨e,_⟩ | ⟨e,_⟩ | ⟨e,_⟩ | ⟨e,_⟩ | ⟨e,_⟩ | ⟨e,_⟩ | e
      · rcases e with e | e
        · exact absurd e hF
        · exact absurd e hN
      all_goals (rw [e]; rfl)
end Go.Proofs.YtpcmapfabndggabGreatDoor
