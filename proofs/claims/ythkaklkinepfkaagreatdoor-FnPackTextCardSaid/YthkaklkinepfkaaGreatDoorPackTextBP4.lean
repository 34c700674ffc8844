/- PackTextBP: plain le.. -/
import Derived.Test.YthkaklkinepfkaaGreatDoorPackTextBP3
set_option linter.unusedSimpArgs false
set_option linter.unusedVariables false
namespace Go.Proofs.YthkaklkinepfkaaGreatDoor
open Go
open Enc (rd ow)
open Arg (argv)
open Ret (retv)
open Wf (wf)
theorem Jez {fu:Nat} {k7:List Load→Int→Option (List Load)} {i:Int} {b:Layer} {o:List Load} {j:Nat} {s:Load} (hs:o[j]? = some s) (hl:s.fL.length≤1000000)
    (h1:-1000000000≤s.fH+b.fH∧s.fH+b.fH≤1000000000) (h2:-1000000000≤s.fQ+b.fQ∧s.fQ+b.fQ≤1000000000):Qdd fu k7 i b o (j:Int)=k7 (o.set j (Qug s i b)) (w64 (i+1)):=by
 unfold Qdd Qpy
 rw [Qh3,hs,Qaa,ap1 (by simp; omega),Qaa]
 simp only [Qaa,Q3g,List.set_set,Jgu]
 rw [Qam (n:=s.fH+b.fH) (by omega) (by omega),Qam (n:=s.fQ+b.fQ) (by omega) (by omega)]
 rfl
theorem Qx7 (fu:Nat) (l:List Layer) (f:Layer→Option Bool) (g:Layer→Bool) (hg:∀ b,f b=some (g b)) (h:l.length≤1048576) (hf:l.length<fu) :
    Qbq fu l f=some (l.any g):=by
 unfold Qbq Qc2
 have key:∀ (m i n:Nat),l.length - i=m→i≤l.length→m<n→∃ r,Qas fu l f n i=some r∧decide (r≥0)=(l.drop i).any g:=by
  intro m
  induction m with
  | zero =>
   intro i n hm hi hn
   obtain ⟨n,rfl⟩:∃ k,n=k+1:=⟨n - 1,by omega⟩
   rw [Qas.eq_2]
   unfold Qcd
   rw [Qaf (by simp; omega),List.drop_eq_nil_of_le (by omega)]
   exact ⟨_,rfl,rfl⟩
  | succ m ih =>
   intro i n hm hi hn
   obtain ⟨n,rfl⟩:∃ k,n=k+1:=⟨n - 1,by omega⟩
   have hlt:i<l.length:=by omega
   rw [Qas.eq_2]
   unfold Qcd
   rw [Qao (by simpa using hlt),Je7 (Jfh (List.getElem?_eq_getElem hlt)),hg,Qaa,List.drop_eq_getElem_cons hlt,List.any_cons]
   cases hgx:g l[i]
   · rw [Qaf rfl,Qam (by omega) (by omega),Bool.false_or]
     have:=ih (i+1) n (by omega) (by omega) (by omega)
     simpa using this
   · rw [Qao rfl]
     exact ⟨_,rfl,by simp⟩
 obtain ⟨r,h1,h2⟩:=key l.length 0 fu (by omega) (by omega) hf
 have h1':Qas fu l f fu 0=some r:=h1
 rw [h1',Qaa,h2]
 rfl
theorem Jmu {fu:Nat} (p:Pallet) (l:List Layer) (hl:l.length≤1048576) (hf:l.length<fu):Qnw fu p l=some (Qvu p&&l.all λs=>okL p s.fD s.fH s.fQ):=by
 unfold Qnw
 have e:∀ a b c:Int,inB a b c=inb a b c:=λa b c=>Bool.eq_iff_iff.2 (by rw [Q5f,Qcb])
 have ep:Qt9 p=Qvu p:=by unfold Qt9 Qvu; simp only [e]
 rw [Qs3,Qaa,ep,Qx7 fu l _ (λs=>!okL p s.fD s.fH s.fQ) (λs=>by
  unfold Qpw okL
  simp only [Jdo,Qaa,e]
  cases inb s.fD 1 p.fD <;> cases inb s.fH 1 p.fH <;> rfl) hl hf,Qaa]
 cases Qvu p
 · rfl
 · rw [cond_true,Bool.true_and]
   congr 1
   rw [Bool.eq_iff_iff]
   simp
theorem Jge {fu:Nat} (hfu:2097153≤fu) {p:Pallet} (hp:Qvu p=true) {l:List Layer} (hb:OkY p l) (hl:l.length≤1000):Qqi fu p l=some (ldM p l):=by
 unfold Qqi ldM
 rw [Jmu p l (by omega) (by omega),hp,Jkh hb,Qaa,Bool.and_self,Bool.not_true,cond_false]
 obtain ⟨p1,p2,p3,p4⟩:=Qxh hp
 refine Q8g (l.length:Int) (λn (o:List Load) i=>Qbz fu p l n o i) (λxs o=>some (xs.foldl (ldS p l) o)) (λxs o=>(∀ s∈o,LdI p l.length s)∧((o.map (·.fL)).flatten).length+xs.length≤1000∧o.length+xs.length≤1000) (by omega) ?_ ?_ l.length fu [] 0 (by omega) (by omega) (by omega) ⟨by simp,by simp [Qbx]; omega,by simp [Qbx]; omega⟩
 · intro n o i xs x0 x1 hd hI ih
   obtain ⟨i2,i3,i4⟩:=hI
   simp only [List.length_cons] at i3 i4
   obtain ⟨hbx,b1,b2,b3,_⟩:=Q4o hb ⟨x0,x1⟩
   have hflat:((ldS p l o i).map (·.fL)).flatten=(o.map (·.fL)).flatten++[i]:=Qrz (λs=>rfl) rfl
   have hlen:(ldS p l o i).length≤o.length+1:=Qui _ _ _ _
   have ih':=ih (ldS p l o i) ⟨Q5o hb ⟨x0,x1⟩ i2,by rw [hflat,List.length_append,List.length_singleton]; omega,by omega⟩
   simp only [Qbz.eq_2]
   unfold Qmd
   rw [hd,cond_true,hbx,Qaa,List.foldl_cons,← ih']
   have hnew:∀ o':List Load,o'.length≤1000→Qdd fu (λo i=>Qbz fu p l n o i) i (lyA l i) (o'++[zLd]) ((o'.length:Nat):Int)=Qbz fu p l n (o'++[Qug zLd i (lyA l i)]) (w64 (i+1)):=λo' ho'=>by
    rw [Jez (s:=zLd) (by simp) (by simp [zLd]) (by simp [zLd]; omega) (by simp [zLd]; omega)]
    simp
   by_cases he:o=[]
   · subst he
     rw [Qao (by decide),ap1 (by simp),Qaa]
     exact hnew [] (by simp)
   · obtain ⟨s,e1,e2⟩:=Qu4 he
     have hp:=List.length_pos_iff.2 he
     have hsm':=List.mem_of_getLast? e1
     have hs:=i2 s hsm'
     have hsl':=Qpt (λs:Load=>s.fL) o s hsm'
     have eS:ldS p l o i=bif Q76 p (lyA l i) s then o.set (o.length - 1) (Qug s i (lyA l i)) else o++[Qug zLd i (lyA l i)]:=Qvb e1
     have e3:w64 ((o.length:Int) - 1)=((o.length - 1:Nat):Int):=by rw [Qam (by omega) (by omega)]; omega
     have e4:w64 (((o.length - 1:Nat):Int)+1)=((o.length:Nat):Int):=by rw [Qam (by omega) (by omega)]; omega
     have e5:o[o.length - 1]? = some s:=by rw [← List.getLast?_eq_getElem?]; exact e1
     obtain ⟨s1,s2,s4,s5⟩:=hs
     rw [e3,e4,Qaf (by simp),Qh3,e5,Qaa,Qam (n:=s.fH+_) (by omega) (by omega),Qam (n:=s.fQ+_) (by omega) (by omega),ap1 (by simp; omega),Qaa,eS]
     unfold Q76
     have c1:decide (s.fH+(lyA l i).fH>p.fH)=!decide (s.fH+(lyA l i).fH≤p.fH):=by
      by_cases h:s.fH+(lyA l i).fH≤p.fH <;> simp [h] <;> omega
     have c2:decide (s.fQ+(lyA l i).fQ>p.fQ)=!decide (s.fQ+(lyA l i).fQ≤p.fQ):=by
      by_cases h:s.fQ+(lyA l i).fQ≤p.fQ <;> simp [h] <;> omega
     rw [c1,c2,Qaa]
     have h1:=hnew o (by omega)
     have h2:Qdd fu (λo i=>Qbz fu p l n o i) i (lyA l i) o ((o.length - 1:Nat):Int)=Qbz fu p l n (o.set (o.length - 1) (Qug s i (lyA l i))) (w64 (i+1)):=Jez e5 (by omega) (by omega) (by omega)
     cases decide (s.fH+(lyA l i).fH≤p.fH)
     · exact h1
     · cases decide (s.fQ+(lyA l i).fQ≤p.fQ)
       · exact h1
       · exact h2
 · intro n o i hd _
   simp only [Qbz.eq_2]
   unfold Qmd
   rw [hd,cond_false]; rfl
theorem Jby {fu:Nat} (hfu:2097153≤fu) (p:Pallet) (l:List Box) (hl:l.length<20):Qle fu p l=some (spM p l):=by
 unfold Qle spM
 rw [Qvl fu p l (by omega) (by omega),Qaa,Jej]
 cases hb:Q0a p l
 · rfl
 · obtain ⟨a1,a2,a3⟩:=Q23 hb
   have hS:=Q8x hb
   obtain ⟨y1,y2,y3⟩:=Q3b hS
   have hY:=Q87 hS
   obtain ⟨d1,d2,d3⟩:=Q5b hY
   have hpb:=Q20 hb
   obtain ⟨q1,q2,q3,q4⟩:=Qxh hpb
   rw [Bool.not_true,cond_false,cond_true,Q88 hfu p l hl,Qaa,Jdy hfu hpb hS (by omega),Qaa,Ja4 (by omega),Qaa,Jge hfu hpb hY (by omega),Qaa]
   have f1:∀ s∈shM p l,s.fM.length≤1000:=λs hs=>by
    have:=Qpt (λs:Shelf=>s.fM) _ s hs
    rw [a2,Qtu] at this; omega
   have f2:∀ s∈lyM p (shM p l),s.fP.length≤1000:=λs hs=>by
    have:=Qpt (λs:Layer=>s.fP) _ s hs
    rw [y2,Qbx] at this; omega
   have f3:∀ s∈ldM p (lyM p (shM p l)),s.fL.length≤1000:=λs hs=>by
    have:=Qpt (λs:Load=>s.fL) _ s hs
    rw [d2,Qbx] at this; omega
   generalize ldM p (lyM p (shM p l))=ld at d1 d3 f3 ⊢
   generalize lyM p (shM p l)=ly at y1 y3 hY d1 d3 f2 ⊢
   generalize shM p l=sh at a1 a3 hS y1 y3 f1 ⊢
   have L4:=Q8g (ld.length:Int) (λn (out:List Spot) o=>Qbg fu l sh ly ld n out o) (λos out=>some (spO l sh ly ld os out)) (λos out=>out.length=l.length) (by omega) ?_ ?_ ld.length fu (List.replicate l.length zSp) 0 (by omega) (by omega) (by omega) (by simp)
   · exact L4
   · intro n out o os o0 o1 hd hI ih
     obtain ⟨x,hx⟩:=Q5w (l:=ld) o0 o1
     have ex:ldA ld o=x:=by unfold ldA; rw [hx]; rfl
     have hxm:=d1 x (Qi2 hx)
     have hxl:=f3 x (Qi2 hx)
     simp only [Qbg.eq_2]
     unfold Qmb
     rw [hd,cond_true,hx,Qaa]
     have L3:=lpI x.fL (λm (s:List Spot×Int) i=>Qb1 fu (Qbg fu l sh ly ld n) l sh ly o x m s.1 s.2 i) (λis s=>Qbg fu l sh ly ld n (spY l sh ly o is s).1 (w64 (o+1))) (λis s=>s.1.length=l.length∧(∀ i∈is,0≤i∧i<ly.length)∧0≤s.2∧s.2+2000*is.length≤2000000) (by omega) ?_ ?_ fu (out,0) ⟨hI,hxm.inn,by simp,by simp; omega⟩ (by omega)
     · refine L3.trans ?_
       rw [ih _ (by rw [Q18]; exact hI)]
       simp only [spO,List.foldl_cons,ex]
     · intro m ⟨out,z⟩ i j is hj hd hI ih
       obtain ⟨i1,i2,i3,i4⟩:out.length=l.length∧(∀ i∈j::is,0≤i∧i<ly.length)∧0≤z∧z+2000*((j::is).length:Int)≤2000000:=hI
       simp only [List.length_cons] at i4
       obtain ⟨hly,t1,t2,t3,hmem⟩:=Q4o hY (i2 j (by simp))
       have hyi:=y1 _ hmem
       have hyl:=f2 _ hmem
       simp only [Qb1.eq_2]
       unfold Ql8
       rw [hd,cond_true,hj,Qaa,hly,Qaa]
       have L2:=lpI (lyA ly j).fP (λq (s:List Spot×Int) k=>Qdi fu (Qb1 fu (Qbg fu l sh ly ld n) l sh ly o x m) l sh ly o z i j (lyA ly j) q s.1 s.2 k) (λks s=>Qb1 fu (Qbg fu l sh ly ld n) l sh ly o x m (spS l sh o z ks s).1 (w64 (z+(lyA ly j).fH)) (w64 (i+1))) (λks s=>s.1.length=l.length∧(∀ i∈ks,0≤i∧i<sh.length)∧0≤s.2∧s.2+2000*ks.length≤2000000) (by omega) ?_ ?_ fu (out,0) ⟨i1,hyi.inn,by simp,by simp; omega⟩ (by omega)
       · refine L2.trans ?_
         rw [Qam (n:=z+_) (by omega) (by omega)]
         exact ih ((spS l sh o z (lyA ly j).fP (out,0)).1,z+(lyA ly j).fH) ⟨by rw [Q15]; exact i1,λi hi=>i2 i (by simp [hi]),by simp; omega,by simp; omega⟩
       · intro q ⟨out,y⟩ k b ks hb2 hd hI ih
         obtain ⟨i1,i2,i3,i4⟩:out.length=l.length∧(∀ i∈b::ks,0≤i∧i<sh.length)∧0≤y∧y+2000*((b::ks).length:Int)≤2000000:=hI
         simp only [List.length_cons] at i4
         obtain ⟨hsh,u1,u2,u3,hmem2⟩:=Q4b hS (i2 b (by simp))
         have hsi:=a1 _ hmem2
         have hsl:=f1 _ hmem2
         simp only [Qdi.eq_2]
         unfold Qnc
         rw [hd,cond_true,hb2,Qaa,hsh,Qaa]
         have L1:=lpI (shA sh b).fM (λq' (s:List Spot×Int) k'=>Qgs fu (Qdi fu (Qb1 fu (Qbg fu l sh ly ld n) l sh ly o x m) l sh ly o z i j (lyA ly j) q) l sh o z y k b (shA sh b) q' s.1 s.2 k') (λbs s=>Qdi fu (Qb1 fu (Qbg fu l sh ly ld n) l sh ly o x m) l sh ly o z i j (lyA ly j) q (spB l o y z bs s).1 (w64 (y+(shA sh b).fD)) (w64 (k+1))) (λbs s=>s.1.length=l.length∧(∀ i∈bs,0≤i∧i<l.length)∧0≤s.2∧s.2+2000*bs.length≤2000000) (by omega) ?_ ?_ fu (out,0) ⟨i1,hsi.inn,by simp,by simp; omega⟩ (by omega)
         · refine L1.trans ?_
           rw [Qam (n:=y+_) (by omega) (by omega)]
           exact ih ((spB l o y z (shA sh b).fM (out,0)).1,y+(shA sh b).fD) ⟨by rw [Q3i]; exact i1,λi hi=>i2 i (by simp [hi]),by simp; omega,by simp; omega⟩
         · intro q' ⟨out,x'⟩ k' c bs hc hd hI ih
           obtain ⟨i1,i2,i3,i4⟩:out.length=l.length∧(∀ i∈c::bs,0≤i∧i<l.length)∧0≤x'∧x'+2000*((c::bs).length:Int)≤2000000:=hI
           simp only [List.length_cons] at i4
           have hcr:=i2 c (by simp)
           obtain ⟨hbx,v1,v2,v3,v4⟩:=Q45 hb hcr
           obtain ⟨sp,hsp⟩:=Q5w (l:=out) hcr.1 (by omega)
           simp only [Qgs.eq_2]
           unfold Qmg
           rw [hd,cond_true,hc,Qaa,hsp,Qaa,hbx,Qaa,Qam (n:=x'+_) (by omega) (by omega)]
           exact ih (Qi0 out c ⟨o,x',y,z⟩,x'+(bxA l c).fW) ⟨by rw [Qy9]; exact i1,λi hi=>i2 i (by simp [hi]),by simp; omega,by simp; omega⟩
         · intro q' ⟨out,x'⟩ k' hd _
           simp only [Qgs.eq_2]
           unfold Qmg
           rw [hd,cond_false,hsh,Qaa]; rfl
       · intro q ⟨out,y⟩ k hd _
         simp only [Qdi.eq_2]
         unfold Qnc
         rw [hd,cond_false,hly,Qaa]; rfl
     · intro m ⟨out,z⟩ i hd _
       simp only [Qb1.eq_2]
       unfold Ql8
       rw [hd,cond_false]; rfl
   · intro n out o hd _
     simp only [Qbg.eq_2]
     unfold Qmb
     rw [hd,cond_false]; rfl
theorem Jgv {r:Request} {k:Int} (h:0≤k∧k<(Qju r).length):(Qyj r k).length≤12:=by
 rw [Q63 h,List.length_map]
 exact Q7p k
theorem Jky {fu:Nat} {r:Request} (h:Sm fu r):Qrx fu r=some (Q8d r):=by
 have hfu:=h.fu
 have hg:=(Quw r).1
 have hcl:=Qyk r
 unfold Qrx Q8d
 rw [Qu8 h,Qaa]
 cases hc:Qhg r==0
 · rfl
 · have hz:Qhg r=0:=by simpa using hc
   rw [Bool.not_true,cond_false,cond_true,Jmb h,Qaa,Jf1 h,Qaa]
   have L3:=Q8g ((Qju r).length:Int) (λn (s:List Spot×Int) k=>Qb0 fu r (Qvz r) (Qju r) n s.1 s.2 k) (λks s=>some ((⟨Qvz r,(ks.foldl (plS r) s).1⟩:Plan),true)) (λks s=>(∀ k∈ks,0≤k∧k<(Qju r).length)∧s.1.length+48*ks.length≤1000∧0≤s.2∧s.2+1000000*ks.length≤10000000) (by omega) ?_ ?_ (Qju r).length fu ([],0) 0 (by omega) (by omega) (by omega) ⟨λk hk=>by have:=Qhn.1 hk; omega,by simp [Qbx]; omega,by simp,by simp [Qbx]; omega⟩
   · exact L3
   · intro n ⟨sp,base⟩ k ks k0 k1 hd hI ih
     obtain ⟨i1,i2,i3,i4⟩:(∀ j∈k::ks,0≤j∧j<(Qju r).length)∧sp.length+48*(k::ks).length≤1000∧0≤base∧base+1000000*((k::ks).length:Int)≤10000000:=hI
     simp only [List.length_cons] at i2 i4
     simp only [Qb0.eq_2]
     unfold Qpa
     rw [hd,cond_true]
     have L2:=lpI (Qvz r) (λm (bs:List Box) i=>Qf2 fu (Qb0 fu r (Qvz r) (Qju r) n) r (Qvz r) sp base k m bs i) (λcs bs=>Qab (Qle fu r.fJ (bs++(cs.filter λc=>c.qJ==k).map (Q64 r))) λx=>Qab (Qlg fu x) λy=>Qf8 fu (Qb0 fu r (Qvz r) (Qju r) n) base k x y fu sp 0) (λcs bs=>bs.length+cs.length≤48∧∀ c∈cs,c.fO.length≤12) (by omega) ?_ ?_ fu [] ⟨by simpa using hcl,λc hc=>Qyy hc⟩ (by omega)
     · refine L2.trans ?_
       have hbl:=Jbi r k
       have hbf:=Jgv (r:=r) (k:=k) ⟨k0,k1⟩
       rw [List.nil_append,show ((Qvz r).filter λc=>c.qJ==k).map (Q64 r)=Qyj r k from rfl,Jby hfu _ _ (by omega),Qaa]
       have hsl:=Q5m (Q8y hz ⟨k0,k1⟩)
       have hpb:=Jb0 (spM r.fJ (Qyj r k))
       have hps:∀ s∈spM r.fJ (Qyj r k),s∈spM r.fJ (Qyj r k):=λ_ h=>h
       have ih':=ih (plS r (sp,base) k) ⟨λj hj=>i1 j (by simp [hj]),by simp [plS]; omega,by simp [plS]; omega,by simp [plS]; omega⟩
       rw [List.foldl_cons,← ih']
       have hS:=Jjg (fu:=fu) (l:=spM r.fJ (Qyj r k)) (by omega) (by omega)
       have hwf:∀ s∈spM r.fJ (Qyj r k),w64 (s.fJ+base)=s.fJ+base:=by
        intro s hs
        have:=Jem (p:=r.fJ) (l:=Qyj r k) (by omega) s hs
        exact Qam (by omega) (by omega)
       generalize hSP:spM r.fJ (Qyj r k)=S at hsl hpb hS hwf ⊢
       rw [hS,Qaa]
       have L1:=lpI S (λm (o:List Spot) i=>Qf8 fu (Qb0 fu r (Qvz r) (Qju r) n) base k S (Jef S) m o i) (λxs o=>Qb0 fu r (Qvz r) (Qju r) n (o++xs.map (λt=>⟨t.fJ+base,t.fX,t.fY,t.fZ⟩)) (base+Jef S) (w64 (k+1))) (λxs o=>o.length+xs.length≤1000∧∀ s∈xs,w64 (s.fJ+base)=s.fJ+base) (by omega) ?_ ?_ fu sp ⟨by omega,hwf⟩ (by omega)
       · refine L1.trans ?_
         simp only [plS,hSP]
       · intro m o i x xs hx hd hI ih
         obtain ⟨j1,j2⟩:=hI
         simp only [List.length_cons] at j1
         simp only [Qf8.eq_2]
         unfold Qom
         rw [hd,cond_true,hx,Qaa,j2 x (by simp),ap1 (by simp; omega),Qaa,ih _ ⟨by simp; omega,λs hs=>j2 s (by simp [hs])⟩]
         simp
       · intro m o i hd hI
         simp only [Qf8.eq_2]
         unfold Qom
         rw [hd,cond_false,Qam (n:=base+_) (by omega) (by omega)]
         simp
     · intro m bs i c cs hx hd hI ih
       obtain ⟨j1,j2⟩:=hI
       simp only [List.length_cons] at j1
       have hcu:=j2 c (by simp)
       simp only [Qf2.eq_2]
       unfold Qnx Qls
       rw [hd,cond_true,hx,Qaa,Jk5 h c (by omega),Qaa,ap1 (by simp; omega),Qaa,ih _ ⟨by simp; omega,λc hc=>j2 c (by simp [hc])⟩,ih _ ⟨by omega,λc hc=>j2 c (by simp [hc])⟩,List.filter_cons]
       cases c.qJ==k <;> simp
     · intro m bs i hd _
       simp only [Qf2.eq_2]
       unfold Qnx
       rw [hd,cond_false]; simp
   · intro n ⟨sp,base⟩ k hd _
     simp only [Qb0.eq_2]
     unfold Qpa
     rw [hd,cond_false]; rfl
theorem Jd3 (r:Request):Sp (Q8d r).1:=by
 obtain ⟨l1,l2,l3⟩:=Jgq r
 refine ⟨by omega,λc hc=>by have:=l3 c hc; omega,?_,by omega⟩
 have key:∀ l:List Carton,(∀ c∈l,c.fO.length≤12)→Q71 l≤12*l.length:=by
  intro l
  induction l with
  | nil=>intro _; simp [Q71]
  | cons c l ih =>
   intro h
   have h1:=ih λd hd=>h d (by simp [hd])
   have h2:=h c (by simp)
   simp only [Q71,List.length_cons]
   omega
 have:=key _ l3
 omega
def Qt0 (n:Int):ByteArray:=⟨(Lib.itoa n).toArray⟩
theorem Qux {n:Int} (h:0≤n∧n≤999999):(Qt0 n).size≤21:=by
 have:=Lib.itoa_length_le n (by omega) (by omega)
 unfold Qt0 ByteArray.size
 simpa using this
theorem Qh9 {x y:ByteArray} (h:x.size+y.size≤1000000000):Qs5 x y=some (x++y):=by
 unfold Qs5
 rw [if_pos (by omega)]
theorem Q2p (fu:Nat) {n:Int} (h:0≤n∧n≤999999):Qn1 fu n=some (Qt0 n):=by
 unfold Qn1 Qtl Jcw
 rw [if_pos (by omega)]; rfl
theorem Jnr {n:Int} (h:0≤n∧n≤255):w8 n=n:=by
 unfold w8
 simp only [IntKind.wrap_u8]
 omega
theorem Jc9 {n:Int} (h:0≤n∧n≤255):Q8o [(⟨n⟩:U8)]=some ⟨[UInt8.ofNat n.toNat].toArray⟩:=by
 unfold Q8o
 rw [if_pos (λb hb=>by rw [List.mem_singleton.1 hb]; exact h)]
 rfl
theorem Jd1 {u:Nat} (out:ByteArray):(⟨[UInt8.ofNat (48+u % 10)].toArray⟩:ByteArray)++out=⟨([UInt8.ofNat (48+u % 10)]++out.data.toList).toArray⟩:=by
 apply ByteArray.ext
 rw [ByteArray.data_append]
 apply Array.ext'
 simp
theorem Jjh {fu:Nat} {n1:Int} (h1:0≤n1):∀ (u:Nat) (k:Nat) (out:ByteArray),u≤999999→u+2≤k→out.size+u≤2000000→0<u→Qf1 fu n1 k (u:Int) out=some ⟨(Lib.decDigits u++out.data.toList).toArray⟩:=by
 intro u
 induction u using Nat.strongRecOn with
 | _ u ih =>
  intro k out hu hk ho h0
  obtain ⟨k,rfl⟩:∃ j,k=j+1:=⟨k - 1,by omega⟩
  have em:Int.tmod (u:Int) 10=((u % 10:Nat):Int):=by
   rw [Int.tmod_eq_emod_of_nonneg (by omega)]; omega
  have ed:w64 (Int.tdiv (u:Int) 10)=((u / 10:Nat):Int):=by
   rw [Int.tdiv_eq_ediv_of_nonneg (by omega),Qam (by omega) (by omega)]; omega
  rw [Qf1.eq_2]
  unfold Qn8 Ql1
  rw [Qao (bne_iff_ne.2 (by omega)),em,Qaf (decide_eq_false (by omega)),Qam (n:=48+_) (by omega) (by omega),Jnr (by omega),Jc9 (by omega),Qaa,show ((48:Int)+((u % 10:Nat):Int)).toNat=48+u % 10 by omega]
  have hs1:(⟨[UInt8.ofNat (48+u % 10)].toArray⟩:ByteArray).size=1:=rfl
  rw [Qh9 (by rw [hs1]; omega),Qaa,ed,Jd1]
  by_cases hlt:u<10
  · have e0:u / 10=0:=by omega
    rw [e0]
    obtain ⟨k,rfl⟩:∃ j,k=j+1:=⟨k - 1,by omega⟩
    rw [Qf1.eq_2]
    unfold Qn8
    rw [Qaf (by decide),Qaf (decide_eq_false (by omega)),Lib.decDigits,dif_pos hlt,Nat.mod_eq_of_lt hlt]
  · have:=ih (u / 10) (by omega) k (⟨([UInt8.ofNat (48+u % 10)]++out.data.toList).toArray⟩:ByteArray) (by omega) (by omega) (by
      show ([UInt8.ofNat (48+u % 10)]++out.data.toList).toArray.size+_≤_
      have e:out.data.toList.length=out.size:=Array.length_toList
      simp only [List.size_toArray,List.length_append,List.length_singleton,e]
      omega) (by omega)
    rw [this]
    conv=>rhs; rw [Lib.decDigits,dif_neg hlt]
    simp
theorem Q2k {fu:Nat} (hfu:2097153≤fu) {n:Int} (h:0≤n∧n≤999999):Qil fu n=some (Qt0 n):=by
 unfold Qil Qt0
 by_cases h0:n=0
 · subst h0
   rw [Qao (by simp)]
   have:Lib.itoa 0=[48]:=by
    unfold Lib.itoa
    rw [if_neg (by omega),Lib.decDigits,dif_pos (by decide)]; rfl
   rw [this]
 · rw [Qaf (by simpa using h0)]
   obtain ⟨u,rfl⟩:∃ u:Nat,n=u:=⟨n.toNat,by omega⟩
   have:=Jjh (fu:=fu) (n1:=(u:Int)) (by omega) u fu ⟨#[]⟩ (by omega) (by omega) (by
    show 0+u≤_
    omega) (by omega)
   rw [this]
   have e:Lib.itoa (u:Int)=Lib.decDigits u:=by
    unfold Lib.itoa
    rw [if_neg (by omega),Int.toNat_natCast]
   rw [e]; simp
def sp1:ByteArray:=⟨#[32]⟩
def nl1:ByteArray:=⟨#[10]⟩
def Qll (o:ByteArray) (l:List Int):ByteArray:=l.foldl (λo n=>o++(sp1++Qt0 n)) o
theorem Qzr:∀ (l:List Int) (o:ByteArray),(∀ n∈l,0≤n∧n≤999999)→(Qll o l).size≤o.size+22*l.length
 | [],o,_=>by simp [Qll]
 | n::l,o,h=>by
  have h1:=Qux (h n (by simp))
  have h2:=Qzr l (o++(sp1++Qt0 n)) λm hm=>h m (by simp [hm])
  have e:(o++(sp1++Qt0 n)).size=o.size+(1+(Qt0 n).size):=by
   rw [ByteArray.size_append,ByteArray.size_append]; rfl
  rw [e] at h2
  show (Qll (o++(sp1++Qt0 n)) l).size≤_
  simp only [List.length_cons]
  omega
theorem Jiz {fu:Nat} {l:List Int} (o:ByteArray) (hl:l.length≤1000) (hf:l.length<fu) (ho:o.size≤1000000) (h:∀ n∈l,0≤n∧n≤999999):Qji fu o l=some (Qll o l++nl1,true):=by
 unfold Qji
 have key:=lpI l (λn (o:ByteArray) i=>Qeh fu l n o i) (λxs o=>some (Qll o xs++nl1,true)) (λxs o=>(∀ n∈xs,0≤n∧n≤999999)∧o.size+22*xs.length≤2000000) (by omega) ?_ ?_ fu o ⟨h,by omega⟩ (by omega)
 · exact key
 · intro n o i x xs hx hd hI ih
   obtain ⟨i1,i2⟩:=hI
   simp only [List.length_cons] at i2
   have hxb:=i1 x (by simp)
   have hs:=Qux hxb
   have e:(o++(sp1++Qt0 x)).size=o.size+(1+(Qt0 x).size):=by
    rw [ByteArray.size_append,ByteArray.size_append]; rfl
   have hsz:sp1.size=1:=rfl
   simp only [Qeh.eq_2]
   unfold Qk3
   rw [hd,cond_true,hx,Qaa,Q1u,Qaa,show inb x 0 999999=true from Qcb.2 hxb,Bool.not_true,cond_false,Q2p fu hxb,Qaa]
   show (Qab (Qs5 sp1 (Qt0 x)) λsv58=>Qab (Qs5 o sv58) λsv60=>Qeh fu l n sv60 (w64 (i+1)))=_
   rw [Qh9 (by omega),Qaa,Qh9 (by rw [ByteArray.size_append,hsz]; omega),Qaa,ih _ ⟨λm hm=>i1 m (by simp [hm]),by omega⟩]
   rfl
 · intro n o i hd hI
   have i2:=hI.2
   simp only [Qeh.eq_2]
   unfold Qk3
   rw [hd,cond_false]
   show (Qab (Qs5 o nl1) λsv62=>some (sv62,true))=_
   rw [Qh9 (by rw [show nl1.size=1 from rfl]; simp at i2; omega)]
   rfl
def Qv0:ByteArray:=⟨#[99,97,114,116,111,110]⟩
def Qiw (c:Carton) (s:Spot):List Int:=[c.qY,c.qJ,s.fJ,s.fX,s.fY,s.fZ]++c.fO
theorem Jd9:∀ (l pre:List Int),Jca pre l=true→∀ n∈l,0≤n∧n≤999
 | [],_,_,n,hn=>by simp at hn
 | x::l,pre,h,n,hn=>by
  unfold Jca at h
  simp only [Bool.and_eq_true,Qcb] at h
  rcases List.mem_cons.1 hn with rfl | hn
  · exact h.1
  · exact Jd9 l _ h.2.2 n hn
theorem Q3d {c:Carton} {s:Spot} (hc:Jcc c=true) (hs:Jer s=true):(∀ n∈Qiw c s,0≤n∧n≤999999)∧(Qiw c s).length≤106:=by
 unfold Jcc Jh4 at hc
 unfold Jer at hs
 simp only [Bool.and_eq_true,Qcb,decide_eq_true_eq] at hc hs
 obtain ⟨h1,h2,h3,h4⟩:=hc
 refine ⟨λn hn=>?_,by simp [Qiw]; omega⟩
 unfold Qiw at hn
 rcases List.mem_append.1 hn with hn | hn
 · simp only [List.mem_cons,List.not_mem_nil,or_false] at hn
   omega
 · have:=Jd9 _ _ h3 n hn
   omega
theorem Jj7 {fu:Nat} (hfu:2097153≤fu) {c:Carton} {s:Spot} (h:(∀ n∈Qiw c s,0≤n∧n≤999999)∧(Qiw c s).length≤106):Qqw fu c s=some (Qll Qv0 (Qiw c s)):=by
 obtain ⟨h1,h2⟩:=h
 unfold Qqw
 have hlen:[c.qY,c.qJ,s.fJ,s.fX,s.fY,s.fZ].length+c.fO.length≤106:=by
  have:=h2
  unfold Qiw at this
  rwa [List.length_append] at this
 rw [ap1 (by omega),Qaa]
 show Qd7 fu (Qiw c s) fu Qv0 0=_
 generalize Qiw c s=l at h1 h2
 refine lpI l (λn (o:ByteArray) i=>Qd7 fu l n o i) (λxs o=>some (Qll o xs)) (λxs o=>(∀ n∈xs,0≤n∧n≤999999)∧o.size+22*xs.length≤2000000) (by omega) ?_ ?_ fu Qv0 ⟨h1,by rw [show Qv0.size=6 from rfl]; omega⟩ (by omega)
 · intro n o i x xs hx hd hI ih
   obtain ⟨i1,i2⟩:=hI
   simp only [List.length_cons] at i2
   have hxb:=i1 x (by simp)
   have hs:=Qux hxb
   have e:(o++(sp1++Qt0 x)).size=o.size+(1+(Qt0 x).size):=by
    rw [ByteArray.size_append,ByteArray.size_append]; rfl
   have hsz:sp1.size=1:=rfl
   simp only [Qd7.eq_2]
   unfold Qmj
   rw [hd,cond_true]
   show (Qab (Qs5 o sp1) λsv56=>Qab (ix l i) λx58=>Qab (Qil fu x58) λx60=>Qab (Qs5 sv56 x60) λsv64=>Qd7 fu l n sv64 (w64 (i+1)))=_
   rw [Qh9 (by omega),Qaa,hx,Qaa,Q2k hfu hxb,Qaa,Qh9 (by rw [ByteArray.size_append,hsz]; omega),Qaa,ByteArray.append_assoc,ih _ ⟨λm hm=>i1 m (by simp [hm]),by omega⟩]
   rfl
 · intro n o i hd _
   simp only [Qd7.eq_2]
   unfold Qmj
   rw [hd,cond_false]; rfl
def Jdx (o:ByteArray) (p:Carton×Spot):ByteArray:=o++(Qll Qv0 (Qiw p.1 p.2)++nl1)
def Q4k (x:Plan):ByteArray:=bif Q1k x then (x.fE.zip x.f9).foldl Jdx ⟨#[]⟩ else ⟨#[]⟩
theorem Q53 {c:Carton} {s:Spot} (h:(∀ n∈Qiw c s,0≤n∧n≤999999)∧(Qiw c s).length≤106):(Qll Qv0 (Qiw c s)).size≤2400∧(Qll Qv0 (Qiw c s)++nl1).size≤2401:=by
 have:=Qzr (Qiw c s) Qv0 h.1
 rw [show Qv0.size=6 from rfl] at this
 refine ⟨by omega,?_⟩
 rw [ByteArray.size_append,show nl1.size=1 from rfl]
 omega
theorem Jkg {fu:Nat} {x:Plan} (h:Sp x) (hf:2097153≤fu):Qop fu x=some (Q4k x):=by
 unfold Qop Q4k
 rw [Jit h (by omega),Qaa]
 cases hp:Q1k x
 · rfl
 · rw [Bool.not_true,cond_false,cond_true]
   have hpp:=hp
   unfold Q1k at hpp
   simp only [Bool.and_eq_true,decide_eq_true_eq,beq_iff_eq] at hpp
   obtain ⟨p1,p2,p3⟩:=hpp
   have hz:(x.fE.zip x.f9).length=x.fE.length:=by simp; omega
   have key:=Jei (x.fE.zip x.f9) (λn (o:ByteArray) i=>Qdr fu x n o i) (λ_ xs o=>some (xs.foldl Jdx o)) (λ_ xs o=>(∀ p∈xs,(∀ n∈Qiw p.1 p.2,0≤n∧n≤999999)∧(Qiw p.1 p.2).length≤106)∧o.size+2401*xs.length≤1000000) (by omega) ?_ ?_ fu ⟨#[]⟩ ⟨λp hp=>by
    have:=List.all_eq_true.1 p3 p hp
    rw [Bool.and_eq_true] at this
    exact Q3d this.1 this.2,by rw [hz]; show 0+_≤_; omega⟩ (by omega)
   · exact key
   · intro n o pre p xs e hq hd hI ih
     obtain ⟨i1,i2⟩:=hI
     simp only [List.length_cons] at i2
     obtain ⟨e1,e2⟩:=Q7t hq
     rw [hz] at hd
     have hn:=i1 p (by simp)
     have hsz:=Q53 hn
     have hlen:[p.1.qY,p.1.qJ,p.2.fJ,p.2.fX,p.2.fY,p.2.fZ].length+p.1.fO.length≤106:=by
      have:=hn.2
      unfold Qiw at this
      rwa [List.length_append] at this
     simp only [Qdr.eq_2]
     unfold Qkt
     rw [hd,cond_true,e1,Qaa,e2,Qaa,ap1 (by omega),Qaa]
     show (Qab (Qji fu Qv0 (Qiw p.1 p.2)) λx141=>Qab (Qs5 o x141.1) λsv145=>Qdr fu x n sv145 (w64 ((pre.length:Int)+1)))=_
     rw [Jiz Qv0 (by omega) (by omega) (by decide) hn.1,Qaa]
     show (Qab (Qs5 o (Qll Qv0 (Qiw p.1 p.2)++nl1)) λsv145=>Qdr fu x n sv145 (w64 ((pre.length:Int)+1)))=_
     rw [Qh9 (by omega),Qaa]
     exact ih _ ⟨λq hq=>i1 q (by simp [hq]),by rw [ByteArray.size_append]; omega⟩
   · intro n o hd _
     rw [hz] at hd ⊢
     simp only [Qdr.eq_2]
     unfold Qkt
     rw [hd,cond_false]; rfl
theorem Jkc {fu:Nat} {x:Plan} (h:Sp x) (hf:2097153≤fu):Qo6 fu x=some (Q4k x):=by
 unfold Qo6 Q4k
 rw [Jm3 h (by omega),Qaa]
 cases hp:Q1k x
 · rfl
 · rw [Bool.not_true,cond_false,cond_true]
   have hpp:=hp
   unfold Q1k at hpp
   simp only [Bool.and_eq_true,decide_eq_true_eq,beq_iff_eq] at hpp
   obtain ⟨p1,p2,p3⟩:=hpp
   have hz:(x.fE.zip x.f9).length=x.fE.length:=by simp; omega
   have key:=Jei (x.fE.zip x.f9) (λn (o:ByteArray) i=>Qef fu x n o i) (λ_ xs o=>some (xs.foldl Jdx o)) (λ_ xs o=>(∀ p∈xs,(∀ n∈Qiw p.1 p.2,0≤n∧n≤999999)∧(Qiw p.1 p.2).length≤106)∧o.size+2401*xs.length≤1000000) (by omega) ?_ ?_ fu ⟨#[]⟩ ⟨λp hp=>by
    have:=List.all_eq_true.1 p3 p hp
    rw [Bool.and_eq_true] at this
    exact Q3d this.1 this.2,by rw [hz]; show 0+_≤_; omega⟩ (by omega)
   · exact key
   · intro n o pre p xs e hq hd hI ih
     obtain ⟨i1,i2⟩:=hI
     simp only [List.length_cons] at i2
     obtain ⟨e1,e2⟩:=Q7t hq
     rw [hz] at hd
     have hn:=i1 p (by simp)
     have hsz:=Q53 hn
     simp only [Qef.eq_2]
     unfold Qkq
     rw [hd,cond_true,e1,Qaa,e2,Qaa,Jj7 hf hn,Qaa,Qh9 (by omega),Qaa]
     show (Qab (Qs5 (o++Qll Qv0 (Qiw p.1 p.2)) nl1) λsv91=>Qef fu x n sv91 (w64 ((pre.length:Int)+1)))=_
     rw [Qh9 (by rw [ByteArray.size_append,show nl1.size=1 from rfl]; omega),Qaa,ByteArray.append_assoc]
     exact ih _ ⟨λq hq=>i1 q (by simp [hq]),by rw [ByteArray.size_append]; omega⟩
   · intro n o hd _
     rw [hz] at hd ⊢
     simp only [Qef.eq_2]
     unfold Qkq
     rw [hd,cond_false]; rfl
theorem Jfm (b:ByteArray):∀ (m i:Nat) (r:List UInt8),b.size - i=m→ByteArray.toList.loop b i r=r.reverse++b.data.toList.drop i:=by
 intro m
 induction m with
 | zero =>
  intro i r h
  rw [ByteArray.toList.loop,if_neg (by omega)]
  have:b.data.toList.length≤i:=by have:b.size=b.data.size:=rfl; simp; omega
  rw [List.drop_of_length_le this]; simp
 | succ m ih =>
  intro i r h
  rw [ByteArray.toList.loop,if_pos (by omega),ih (i+1) _ (by omega)]
  have hs:b.size=b.data.size:=rfl
  have hi:i<b.data.toList.length:=by simp; omega
  rw [List.drop_eq_getElem_cons hi]
  have:b.get! i=b.data.toList[i]:=by
   unfold ByteArray.get!
   simp [Array.getElem!_eq_getD,Array.getD]
   rw [dif_pos (by omega)]
  rw [this]; simp
theorem Jbn (b:ByteArray):b.toList=b.data.toList:=by
 unfold ByteArray.toList
 rw [Jfm b _ 0 [] rfl]; simp
theorem Qwo (a b:ByteArray):(a.toList==b.toList)=decide (a=b):=by
 rw [Jbn,Jbn]
 by_cases h:a=b
 · subst h; simp
 · rw [decide_eq_false h]
   have:a.data.toList≠b.data.toList:=λe=>h (ByteArray.ext (Array.ext' e))
   simpa using this
theorem Jet:∀ (u:Nat),∀ b∈Lib.decDigits u,48≤b.toNat∧b.toNat≤57:=by
 intro u
 induction u using Nat.strongRecOn with
 | _ u ih =>
  intro b hb
  have one:∀ d:Nat,d<10→48≤(UInt8.ofNat (48+d)).toNat∧(UInt8.ofNat (48+d)).toNat≤57:=λd hd=>by
   rw [UInt8.toNat_ofNat']; omega
  rw [Lib.decDigits] at hb
  split at hb
  · rename_i h
    rw [List.mem_singleton.1 hb]
    exact one u h
  · rename_i h
    rcases List.mem_append.1 hb with hb | hb
    · exact ih (u / 10) (by omega) b hb
    · rw [List.mem_singleton.1 hb]
      exact one _ (by omega)
theorem Qzc:∀ (l r:List UInt8) (acc:Nat),Lib.decFrom acc (l++r)=(Lib.decFrom acc l).bind λn=>Lib.decFrom n r
 | [],r,acc=>rfl
 | b::l,r,acc=>by
  simp only [List.cons_append,Lib.decFrom]
  cases Lib.digitVal b with
  | none=>rfl
  | some d=>exact Qzc l r _
theorem Q7l:∀ (u:Nat),Lib.decFrom 0 (Lib.decDigits u)=some u:=by
 intro u
 induction u using Nat.strongRecOn with
 | _ u ih =>
  have one:∀ d:Nat,d<10→Lib.digitVal (UInt8.ofNat (48+d))=some d:=λd hd=>by
   unfold Lib.digitVal
   have:(UInt8.ofNat (48+d)).toNat=48+d:=by rw [UInt8.toNat_ofNat']; omega
   rw [this,if_pos (by omega)]
   congr 1; omega
  rw [Lib.decDigits]
  split
  · rename_i h
    simp only [Lib.decFrom,one u h]
    congr 1; omega
  · rename_i h
    rw [Qzc,ih (u / 10) (by omega)]
    simp only [Option.bind_some,Lib.decFrom,one (u % 10) (by omega)]
    congr 1; omega
theorem Ja2:∀ (k u:Nat),u<10 ^ (k+1)→1≤(Lib.decDigits u).length∧(Lib.decDigits u).length≤k+1
 | 0,u,h=>by
  rw [Lib.decDigits,dif_pos (by omega)]; simp
 | k+1,u,h=>by
  rw [Lib.decDigits]
  split
  · simp
  · have:=Ja2 k (u / 10) (by
      rw [Nat.pow_succ] at h
      omega)
    simp only [List.length_append,List.length_singleton]
    omega
theorem Jgf {u:Nat} (h:u≤999999):Lib.atoiAll (Lib.decDigits u)=.ok (u:Int):=by
 have hl:=Ja2 5 u (by omega)
 rw [Lib.atoiAll_short _ (by omega)]
 have hv:=Q7l u
 have hd:=Jet u
 cases hc:Lib.decDigits u with
 | nil=>rw [hc] at hl; simp at hl
 | cons b r =>
  rw [hc] at hv hd
  have hb:=hd b (by simp)
  have n1:¬ (b==45)=true:=λe=>by rw [beq_iff_eq.1 e] at hb; exact absurd hb (by decide)
  have n2:¬ (b==43)=true:=λe=>by rw [beq_iff_eq.1 e] at hb; exact absurd hb (by decide)
  unfold Lib.atoi
  show Lib.NumEnd.ofOption (if (b==45)=true then _ else if (b==43)=true then _ else Option.map _ (Lib.decNat (b::r)))=_
  rw [if_neg n1,if_neg n2]
  unfold Lib.decNat
  rw [if_neg (by simp),hv]
  rfl
theorem Qw8 {u:Nat}:Qt0 (u:Int)=⟨(Lib.decDigits u).toArray⟩:=by
 unfold Qt0 Lib.itoa
 rw [if_neg (by omega),Int.toNat_natCast]
theorem Jdn {fu:Nat} {s:ByteArray} (hs:s.size≤1048576):∃ r,Qik fu s=some r∧((∃ u:Nat,u≤999999∧s=Qt0 u∧r=((u:Int),true))∨((∀ u:Nat,u≤999999→s≠Qt0 u)∧r=(0,false))):=by
 unfold Qik Qtt Jdj Qrs
 rw [if_pos hs,Qaa]
 by_cases he:∃ u:Nat,u≤999999∧s=Qt0 u
 · obtain ⟨u,hu,rfl⟩:=he
   have e:(Qt0 (u:Int)).data.toList=Lib.decDigits u:=by rw [Qw8]
   rw [e,Jgf hu]
   simp only [cond_false,Q1u,Qaa,show inb (u:Int) 0 999999=true from Qcb.2 (by omega),Bool.not_true]
   rw [Q2p fu (by omega),Qaa,Qwo,decide_eq_true rfl]
   exact ⟨_,rfl,.inl ⟨u,hu,rfl,rfl⟩⟩
 · have hne:∀ u:Nat,u≤999999→s≠Qt0 u:=λu hu e=>he ⟨u,hu,e⟩
   refine ⟨(0,false),?_,.inr ⟨hne,rfl⟩⟩
   cases ha:Lib.atoiAll s.data.toList
   case ok v =>
    simp only [cond_false,Q1u,Qaa]
    cases hv:inb v 0 999999
    · rfl
    · have hv':=Qcb.1 hv
      rw [Bool.not_true,cond_false,Q2p fu hv',Qaa,Qwo,decide_eq_false (λe=>by
       obtain ⟨u,rfl⟩:∃ u:Nat,v=u:=⟨v.toNat,by omega⟩
       exact hne u (by omega) e.symm)]
      rfl
   all_goals rfl
theorem Jgr {s:ByteArray} {pre l:List UInt8} {b:UInt8} (h:s.data.toList=pre++b::l):sx s (pre.length:Int)=some (b.toNat:Int):=by
 have hl:s.data.toList[pre.length]? = some b:=by rw [h]; simp
 have hs:s.data.toList.length=s.size:=Array.length_toList
 have hi:pre.length<s.size:=by rw [← hs,h]; simp
 unfold sx
 rw [if_pos (by omega),Int.toNat_natCast,getElem?_pos s pre.length hi]
 have e:s[pre.length]=b:=by
  have:s.data.toList[pre.length]? = some s[pre.length]:=by
   rw [Array.getElem?_toList]
   exact Array.getElem?_eq_getElem hi
  rw [hl] at this
  exact (Option.some.inj this).symm
 rw [e]; rfl
theorem Jev {s:ByteArray}:∀ (l pre:List UInt8) (n k:Nat),s.data.toList=pre++l→s.size≤6→l.length<k→n<10 ^ pre.length →
    Qen 2097153 s k (n:Int) (pre.length:Int)=match Lib.decFrom n l with | none=>some (0,false) | some m=>bif decide (Qt0 (m:Int)=s) then some ((m:Int),true) else some (0,false)
 | [],pre,n,k,h,hs,hk,hn=>by
  obtain ⟨k,rfl⟩:∃ j,k=j+1:=⟨k - 1,by omega⟩
  have hsz:s.size=pre.length:=by
   have:s.data.toList.length=s.size:=Array.length_toList
   rw [← this,h]; simp
  have hn6:n<10 ^ 6:=Nat.lt_of_lt_of_le hn (Nat.pow_le_pow_right (by omega) (by omega))
  rw [Qen.eq_2]
  unfold Qph
  rw [Qaf (by simp; omega),Q2k (by omega) (by omega),Qaa,Qwo]
  simp only [Lib.decFrom]
  cases decide (Qt0 (n:Int)=s) <;> rfl
 | b::l,pre,n,k,h,hs,hk,hn=>by
  obtain ⟨k,rfl⟩:∃ j,k=j+1:=⟨k - 1,by omega⟩
  have hsz:s.size=pre.length+(l.length+1):=by
   have:s.data.toList.length=s.size:=Array.length_toList
   rw [← this,h]; simp
  have hp:10 ^ pre.length≤10 ^ 5:=Nat.pow_le_pow_right (by omega) (by omega)
  have hb:b.toNat<256:=b.toNat_lt
  have hx:=Jgr h
  rw [Qen.eq_2]
  unfold Qph Qrd Qrq
  rw [Qao (by simp; omega)]
  simp only [hx,Qaa]
  unfold Lib.decFrom Lib.digitVal
  by_cases h1:b.toNat<48
  · rw [Qao (by simp; omega),if_neg (by omega)]
  · rw [Qaf (by simp; omega)]
    by_cases h2:b.toNat>57
    · rw [Qao (by simp; omega),if_neg (by omega)]
    · rw [Qaf (by simp; omega),if_pos (by omega)]
      have e:w64 (w64 (w64 (10*(n:Int))+w64 (b.toNat:Int)) - 48)=((n*10+(b.toNat - 48):Nat):Int):=by
       rw [Qam (n:=10*(n:Int)) (by omega) (by omega),Qam (n:=(b.toNat:Int)) (by omega) (by omega),Qam (n:=_+(b.toNat:Int)) (by omega) (by omega),Qam (by omega) (by omega)]
       omega
      have e2:w64 ((pre.length:Int)+1)=(((pre++[b]).length:Nat):Int):=by
       rw [Qam (by omega) (by omega)]; simp
      rw [e,e2]
      exact Jev l (pre++[b]) _ k (by simp [h]) hs (by simp at hk; omega) (by
       rw [List.length_append,List.length_singleton,Nat.pow_succ]
       omega)
theorem Jnt {s:ByteArray} (hs:s.size≤1048576):Qod 2097153 s=Qik 2097153 s:=by
 obtain ⟨r,h1,h2⟩:=Jdn (fu:=2097153) hs
 rw [h1]
 unfold Qod Qrm
 have hlen:s.data.toList.length=s.size:=Array.length_toList
 have hB:∀ u:Nat,u≤999999→1≤(Qt0 (u:Int)).size∧(Qt0 (u:Int)).size≤6:=λu hu=>by
  have:=Ja2 5 u (by omega)
  rw [Qw8]
  exact this
 by_cases l1:(s.size:Int)<1
 · rw [Qao (by simpa using l1)]
   rcases h2 with ⟨u,hu,rfl,_⟩ | ⟨_,rfl⟩
   · have:=hB u hu; omega
   · rfl
 · rw [Qaf (by simpa using l1)]
   by_cases l2:(s.size:Int)>6
   · rw [Qao (by simpa using l2)]
     rcases h2 with ⟨u,hu,rfl,_⟩ | ⟨_,rfl⟩
     · have:=hB u hu; omega
     · rfl
   · rw [Qaf (by simpa using l2)]
     have:=Jev (s:=s) s.data.toList [] 0 2097153 rfl (by omega) (by omega) (by simp)
     rw [show ((([]:List UInt8).length:Nat):Int)=0 from rfl,show (((0:Nat):Nat):Int)=0 from rfl] at this
     rw [this]
     rcases h2 with ⟨u,hu,rfl,rfl⟩ | ⟨hne,rfl⟩
     · have e:(Qt0 (u:Int)).data.toList=Lib.decDigits u:=by rw [Qw8]
       rw [e,Q7l u]
       simp
     · cases hd:Lib.decFrom 0 s.data.toList with
       | none=>rfl
       | some m =>
        have hm:=Lib.decFrom_lt _ _ _ hd
        have hp:10 ^ s.data.toList.length≤10 ^ 6:=Nat.pow_le_pow_right (by omega) (by omega)
        simp only
        rw [decide_eq_false (λe=>hne m (by omega) e.symm)]
        rfl
def ofL (l:List UInt8):ByteArray:=⟨l.toArray⟩
theorem Qwd (s:ByteArray):s.data.toList.length=s.size:=Array.length_toList
def cut (b:UInt8):List UInt8→List UInt8×List (List UInt8)
 | []=>([],[])
 | c::l=>if c=b then ([],(cut b l).1::(cut b l).2) else (c::(cut b l).1,(cut b l).2)
def pts (b:UInt8) (l:List UInt8):List (List UInt8):=(cut b l).1::(cut b l).2
def Qiz (b:UInt8) (s:ByteArray):List ByteArray:=(pts b s.data.toList).map ofL
theorem Q5j {b:UInt8}:∀ {w:List UInt8} (r:List UInt8),b∉w→cut b (w++r)=(w++(cut b r).1,(cut b r).2)
 | [],r,_=>rfl
 | c::w,r,h=>by
  have h1:c≠b:=λe=>h (by simp [e])
  show cut b (c::(w++r))=_
  rw [cut,if_neg h1,Q5j r λe=>h (List.mem_cons_of_mem _ e)]
  rfl
theorem Q5u (b:UInt8) (r:List UInt8):cut b (b::r)=([],(cut b r).1::(cut b r).2):=by rw [cut,if_pos rfl]
theorem Q89 (b:UInt8):∀ (l:List UInt8),(cut b l).2.length≤l.length
 | []=>Nat.le_refl _
 | c::l=>by
  have ih:=Q89 b l
  rw [cut]
  split <;> simp only [List.length_cons] <;> omega
theorem Ja5 (b:UInt8):∀ (l:List UInt8),(cut b l).1.length≤l.length∧∀ x∈(cut b l).2,x.length≤l.length
 | []=>⟨by simp [cut],by simp [cut]⟩
 | c::l=>by
  have ih:=Ja5 b l
  rw [cut]
  split
  · exact ⟨by simp,λx hx=>by
      simp only [List.length_cons]
      rcases List.mem_cons.1 hx with e | e
      · rw [e]; omega
      · have:=ih.2 x e; omega⟩
  · exact ⟨by simp only [List.length_cons]; omega,λx hx=>by
      have:=ih.2 x hx
      simp only [List.length_cons]; omega⟩
theorem Qlk (b:UInt8) (s:ByteArray):1≤(Qiz b s).length∧(Qiz b s).length≤s.size+1:=by
 have:=Q89 b s.data.toList
 rw [Qwd] at this
 unfold Qiz pts
 simp only [List.length_map,List.length_cons]
 omega
theorem Qsh {b:UInt8} {s x:ByteArray} (h:x∈Qiz b s):x.size≤s.size:=by
 obtain ⟨l,hl,rfl⟩:=List.mem_map.1 h
 have:=Ja5 b s.data.toList
 rw [Qwd] at this
 show l.toArray.size≤_
 rw [List.size_toArray]
 rcases List.mem_cons.1 hl with rfl | e
 · exact this.1
 · exact this.2 l e
theorem Q6b {s:ByteArray} {pre acc l:List UInt8} (h:s.data.toList=pre++(acc++l)):ssl s (pre.length:Int) ((pre.length:Int)+(acc.length:Int))=some (ofL acc):=by
 have hs:=Qwd s
 rw [h] at hs
 simp only [List.length_append] at hs
 unfold ssl
 rw [if_pos (by omega)]
 congr 1
 apply ByteArray.ext
 apply Array.ext'
 rw [show ((pre.length:Int)+(acc.length:Int)).toNat=pre.length+acc.length by omega,Int.toNat_natCast,ByteArray.data_extract,Array.toList_extract,h]
 show _=acc
 rw [List.extract_eq_take_drop,Nat.add_sub_cancel_left,List.drop_left,List.take_left]
theorem Jlf {x:ByteArray} {out:List ByteArray} (h:out.length≤2000000):Qc7 16 out [x]=some (out++[x]):=by
 unfold Qc7
 rw [if_pos (by simp only [List.length_singleton]; omega)]
theorem Q3r {fu:Nat} {s:ByteArray} {b:UInt8} (hs:s.size≤1048576):∀ (l pre acc:List UInt8) (out:List ByteArray) (k:Nat),s.data.toList=pre++(acc++l)→l.length<k→out.length+l.length≤1048576 →
    Qg9 fu s (b.toNat:Int) k out (pre.length:Int) ((pre.length:Int)+(acc.length:Int))=some (out++ofL (acc++(cut b l).1)::(cut b l).2.map ofL)
 | [],pre,acc,out,k,h,hk,ho=>by
  obtain ⟨k,rfl⟩:∃ j,k=j+1:=⟨k - 1,by omega⟩
  have hz:=Qwd s
  rw [h] at hz
  simp only [List.length_append,List.length_nil] at hz
  rw [Qg9.eq_2]
  unfold Qpr
  rw [Qaf (by simp; omega),show (s.size:Int)=(pre.length:Int)+(acc.length:Int) by omega,Q6b h,Qaa,Jlf (by omega),Qaa]
  simp [cut]
 | c::l,pre,acc,out,k,h,hk,ho=>by
  obtain ⟨k,rfl⟩:∃ j,k=j+1:=⟨k - 1,by omega⟩
  have hz:=Qwd s
  rw [h] at hz
  simp only [List.length_append,List.length_cons] at hz ho
  have hx:sx s ((pre.length:Int)+(acc.length:Int))=some (c.toNat:Int):=by
   have:=Jgr (s:=s) (pre:=pre++acc) (l:=l) (b:=c) (by rw [h]; simp)
   rw [← this]; simp
  rw [Qg9.eq_2]
  unfold Qpr Qn7
  rw [Qao (by simp; omega),hx,Qaa,Qam (by omega) (by omega)]
  by_cases hc:c=b
  · subst hc
    rw [Qao (by simp),Q6b h,Qaa,Jlf (by omega),Qaa]
    have:=Q3r (fu:=fu) (b:=c) hs l (pre++(acc++[c])) [] (out++[ofL acc]) k (by rw [h]; simp) (by simp at hk; omega) (by simp; omega)
    rw [show ((pre.length:Int)+(acc.length:Int)+1)=(((pre++(acc++[c])).length:Nat):Int)+(([]:List UInt8).length:Int) by simp; omega]
    rw [show ((((pre++(acc++[c])).length:Nat):Int)+(([]:List UInt8).length:Int))=(((pre++(acc++[c])).length:Nat):Int) by simp] at this ⊢
    rw [this,Q5u]
    simp
  · rw [Qaf (by simpa using λe=>hc (UInt8.toNat_inj.1 (by omega)))]
    have:=Q3r (fu:=fu) (b:=b) hs l pre (acc++[c]) out k (by rw [h]; simp) (by simp at hk; omega) (by omega)
    rw [show ((pre.length:Int)+(acc.length:Int)+1)=(pre.length:Int)+(((acc++[c]).length:Nat):Int) by simp; omega,this,cut,if_neg hc]
    simp
theorem Q3p {s:ByteArray} {b:UInt8} (hs:s.size≤1048576):Qjd 2097153 s (b.toNat:Int)=some (Qiz b s):=by
 unfold Qjd
 have hz:=Qwd s
 exact Q3r (b:=b) hs s.data.toList [] [] [] 2097153 rfl (by omega) (by simp; omega)
theorem Q2j {fu:Nat} {s:ByteArray} {b:UInt8} (hs:s.size≤1048576):∀ (l pre acc:List UInt8) (out:List ByteArray) (k:Nat),s.data.toList=pre++(acc++l)→l.length+1<k→out.length+l.length≤1048576 →
    Qfo fu s (b.toNat:Int) k out (pre.length:Int) ((pre.length:Int)+(acc.length:Int))=some (out++ofL (acc++(cut b l).1)::(cut b l).2.map ofL)
 | [],pre,acc,out,k,h,hk,ho=>by
  obtain ⟨k,rfl⟩:∃ j,k=j+2:=⟨k - 2,by simp at hk; omega⟩
  have hz:=Qwd s
  rw [h] at hz
  simp only [List.length_append,List.length_nil] at hz
  rw [Qfo.eq_2]
  unfold Qj8 Qic
  rw [Qao (by simp; omega),Qao (by simp; omega),Q6b h,Qaa,Jlf (by omega),Qaa,Qam (by omega) (by omega),Qfo.eq_2]
  unfold Qj8
  rw [Qaf (by simp; omega)]
  simp [cut]
 | c::l,pre,acc,out,k,h,hk,ho=>by
  obtain ⟨k,rfl⟩:∃ j,k=j+1:=⟨k - 1,by omega⟩
  have hz:=Qwd s
  rw [h] at hz
  simp only [List.length_append,List.length_cons] at hz ho
  have hx:sx s ((pre.length:Int)+(acc.length:Int))=some (c.toNat:Int):=by
   have:=Jgr (s:=s) (pre:=pre++acc) (l:=l) (b:=c) (by rw [h]; simp)
   rw [← this]; simp
  rw [Qfo.eq_2]
  unfold Qj8 Qic
  rw [Qao (by simp; omega),Qaf (by simp; omega),hx,Qaa,Qam (by omega) (by omega)]
  by_cases hc:c=b
  · subst hc
    rw [Qao (by simp),Q6b h,Qaa,Jlf (by omega),Qaa]
    have:=Q2j (fu:=fu) (b:=c) hs l (pre++(acc++[c])) [] (out++[ofL acc]) k (by rw [h]; simp) (by simp at hk; omega) (by simp; omega)
    rw [show ((pre.length:Int)+(acc.length:Int)+1)=(((pre++(acc++[c])).length:Nat):Int)+(([]:List UInt8).length:Int) by simp; omega]
    rw [show ((((pre++(acc++[c])).length:Nat):Int)+(([]:List UInt8).length:Int))=(((pre++(acc++[c])).length:Nat):Int) by simp] at this ⊢
    rw [this,Q5u]
    simp
  · rw [Qaf (by simpa using λe=>hc (UInt8.toNat_inj.1 (by omega)))]
    have:=Q2j (fu:=fu) (b:=b) hs l pre (acc++[c]) out k (by rw [h]; simp) (by simp at hk; omega) (by omega)
    rw [show ((pre.length:Int)+(acc.length:Int)+1)=(pre.length:Int)+(((acc++[c]).length:Nat):Int) by simp; omega,this,cut,if_neg hc]
    simp
theorem Q93 {s:ByteArray} {b:UInt8} (hs:s.size≤1048576):Qq1 2097153 s (b.toNat:Int)=some (Qiz b s):=by
 unfold Qq1
 have hz:=Qwd s
 exact Q2j (b:=b) hs s.data.toList [] [] [] 2097153 rfl (by omega) (by simp; omega)
def nmv (x:ByteArray):Int×Bool:=(Qik 2097153 x).getD (0,false)
theorem Jdv {x:ByteArray} (h:x.size≤1048576):Qik 2097153 x=some (nmv x):=by
 obtain ⟨r,h1,_⟩:=Jdn (fu:=2097153) h
 unfold nmv
 rw [h1]; rfl
theorem Jnh {x:ByteArray} (h:x.size≤1048576):Qod 2097153 x=some (nmv x):=by rw [Jnt h,Jdv h]
theorem Jku {x:ByteArray} (h:x.size≤1048576) (ht:(nmv x).2=true):x=Qt0 (nmv x).1∧0≤(nmv x).1∧(nmv x).1≤999999:=by
 obtain ⟨r,h1,h2⟩:=Jdn (fu:=2097153) h
 rw [Jdv h] at h1
 rw [Option.some.inj h1] at ht ⊢
 rcases h2 with ⟨u,hu,e,rfl⟩ | ⟨_,rfl⟩
 · exact ⟨e,by simp only; omega,by simp only; omega⟩
 · simp at ht
theorem Jhe {n:Int} (h:0≤n∧n≤999999):nmv (Qt0 n)=(n,true):=by
 have hs:(Qt0 n).size≤1048576:=Nat.le_trans (Qux h) (by omega)
 obtain ⟨r,h1,h2⟩:=Jdn (fu:=2097153) hs
 obtain ⟨u,rfl⟩:∃ u:Nat,n=u:=⟨n.toNat,by omega⟩
 rw [Jdv hs] at h1
 rw [Option.some.inj h1]
 rcases h2 with ⟨v,hv,e,rfl⟩ | ⟨h3,_⟩
 · have e1:(Qt0 (u:Int)).data.toList=Lib.decDigits u:=by rw [Qw8]
   have e2:(Qt0 (v:Int)).data.toList=Lib.decDigits v:=by rw [Qw8]
   have:=Q7l u
   rw [← e1,e,e2,Q7l v] at this
   rw [Option.some.inj this]
 · exact absurd rfl (h3 u (by omega))
def nms:List ByteArray→Option (List Int)
 | []=>some []
 | x::xs=>if (nmv x).2=true then (nms xs).map ((nmv x).1::·) else none
def rsL (o:List Int):Option (List Int)→List Int×Bool
 | some ns=>(o++ns,true)
 | none=>([],false)
def wrd (w:ByteArray) (k:Nat) (line:ByteArray):Option (List Int) :=
 match Qiz 32 line with
 | []=>none
 | p::ps=>if p=w∧ps.length=k then nms ps else none
theorem Jcf {fu k:Nat} {xs:List ByteArray} (hx:∀ x∈xs,x.size≤1048576) (hl:xs.length≤1048577) (hk:xs.length<k):Qfg 2097153 xs k [] 0=some (rsL [] (nms xs)):=by
 have key:=lpI xs (λn (o:List Int) i=>Qfg 2097153 xs n o i) (λxs o=>some (rsL o (nms xs))) (λxs o=>(∀ x∈xs,x.size≤1048576)∧o.length+xs.length≤1048577) (by omega) ?_ ?_ k [] ⟨hx,by simpa using hl⟩ (by omega)
 · exact key
 · intro n o i x xs hx hd hI ih
   obtain ⟨i1,i2⟩:=hI
   simp only [List.length_cons] at i2
   simp only [Qfg.eq_2]
   unfold Qnj
   rw [hd,cond_true,hx,Qaa,Jdv (i1 x (by simp)),Qaa,nms]
   cases hv:(nmv x).2 with
   | false=>rfl
   | true =>
    rw [if_pos rfl,Bool.not_true,cond_false]
    have:Qc7 8 o [(nmv x).1]=some (o++[(nmv x).1]):=by
     unfold Qc7
     rw [if_pos (by simp only [List.length_singleton]; omega)]
    rw [this,Qaa,ih _ ⟨λy hy=>i1 y (by simp [hy]),by simp only [List.length_append,List.length_singleton]; omega⟩]
    cases nms xs with
    | none=>rfl
    | some ns=>simp [rsL]
 · intro n o i hd hI
   simp only [Qfg.eq_2]
   unfold Qnj
   rw [hd,cond_false]
   simp [nms,rsL]
theorem Q6l {y:ByteArray}:∀ (xs pre:List ByteArray) (o:List Int) (k:Nat),(∀ x∈xs,x.size≤1048576)→(o.length+xs.length≤2000000∧pre.length+xs.length≤2000000)→xs.length<k→Qhk 2097153 (y::(pre++xs)) k o ((pre.length:Int)+1)=some (rsL o (nms xs))
 | [],pre,o,k,hx,hl,hk=>by
  obtain ⟨k,rfl⟩:∃ j,k=j+1:=⟨k - 1,by omega⟩
  rw [Qhk.eq_2]
  unfold Qoh
  rw [Qaf (by simp)]
  simp [nms,rsL]
 | x::xs,pre,o,k,hx,hl,hk=>by
  obtain ⟨k,rfl⟩:∃ j,k=j+1:=⟨k - 1,by omega⟩
  simp only [List.length_cons] at hl hk
  rw [Qhk.eq_2]
  unfold Qoh
  have hi:ix (y::(pre++x::xs)) ((pre.length:Int)+1)=some x:=by
   rw [show ((pre.length:Int)+1)=((pre.length+1:Nat):Int) by omega,Qh3]; simp
  rw [Qao (by simp; omega),hi,Qaa,Jnh (hx x (by simp)),Qaa,nms]
  cases hv:(nmv x).2 with
  | false=>rfl
  | true =>
   rw [if_pos rfl,Bool.not_true,cond_false]
   have:Qc7 8 o [(nmv x).1]=some (o++[(nmv x).1]):=by
    unfold Qc7
    rw [if_pos (by simp only [List.length_singleton]; omega)]
   have ih:=Q6l (y:=y) xs (pre++[x]) (o++[(nmv x).1]) k (λy hy=>hx y (by simp [hy])) (by simp only [List.length_append,List.length_singleton]; omega) (by omega)
   rw [this,Qaa,Qam (by omega) (by omega),show ((pre.length:Int)+1+1)=(((pre++[x]).length:Nat):Int)+1 by simp]
   rw [show y::(pre++x::xs)=y::((pre++[x])++xs) by simp,ih]
   cases nms xs with
   | none=>rfl
   | some ns=>simp [rsL]
theorem Jay {line w:ByteArray} {k:Nat} (h:line.size≤1048576) (hk:k≤1048576):Qbo 2097153 line w (k:Int)=some (rsL [] (wrd w k line)):=by
 unfold Qbo wrd
 have e:=Q3p (b:=32) h
 have hl:=(Qlk 32 line).2
 have hs:=λx hx=>Nat.le_trans (Qsh (b:=32) (s:=line) (x:=x) hx) h
 rw [show ((32:UInt8).toNat:Int)=32 from rfl] at e
 rw [e,Qaa]
 cases hp:Qiz 32 line with
 | nil=>have:=(Qlk 32 line).1; rw [hp] at this; simp at this
 | cons p ps =>
  rw [hp] at hl hs
  simp only [List.length_cons] at hl
  rw [show ix (p::ps) 0=some p from rfl,Qaa,Qwo,Qam (by omega) (by omega)]
  simp only
  by_cases h1:p=w
  · rw [decide_eq_true h1,Bool.not_true,cond_false]
    by_cases h2:ps.length=k
    · rw [if_pos ⟨h1,h2⟩,Qaf (by simp; omega)]
      unfold Qp9
      have:sls (p::ps) 1 (((p::ps).length:Nat):Int)=some ps:=by
       unfold sls
       rw [if_pos (by simp only [List.length_cons]; omega),show (1:Int).toNat=1 from rfl,Int.toNat_natCast]
       simp
      rw [this,Qaa,Jcf (fu:=0) (λx hx=>hs x (by simp [hx])) (by omega) (by omega)]
    · rw [if_neg (λe=>h2 e.2),Qao (by simp; omega)]; rfl
  · rw [decide_eq_false h1,if_neg (λe=>h1 e.1)]; rfl
theorem Jkj {line w:ByteArray} {k:Nat} (h:line.size≤1048576) (hk:k≤1048576):Qog 2097153 line w (k:Int)=some (rsL [] (wrd w k line)):=by
 unfold Qog wrd
 have e:=Q93 (b:=32) h
 have hl:=(Qlk 32 line).2
 have hs:=λx hx=>Nat.le_trans (Qsh (b:=32) (s:=line) (x:=x) hx) h
 rw [show ((32:UInt8).toNat:Int)=32 from rfl] at e
 rw [e,Qaa]
 cases hp:Qiz 32 line with
 | nil=>have:=(Qlk 32 line).1; rw [hp] at this; simp at this
 | cons p ps =>
  rw [hp] at hl hs
  simp only [List.length_cons] at hl
  rw [show ix (p::ps) 0=some p from rfl,Qaa,Qwo,Qam (by omega) (by omega)]
  simp only
  by_cases h1:p=w
  · rw [decide_eq_true h1,Bool.not_true,cond_false]
    by_cases h2:ps.length=k
    · rw [if_pos ⟨h1,h2⟩,Qaf (by simp; omega)]
      unfold Qrn
      exact Q6l (y:=p) ps [] [] 2097153 (λx hx=>hs x (by simp [hx])) (by simp; omega) (by omega)
    · rw [if_neg (λe=>h2 e.2),Qao (by simp; omega)]; rfl
  · rw [decide_eq_false h1,if_neg (λe=>h1 e.1)]; rfl
theorem Q6j:∀ {xs:List ByteArray} {ns:List Int},(∀ x∈xs,x.size≤1048576)→nms xs=some ns→xs=ns.map Qt0∧∀ n∈ns,0≤n∧n≤999999
 | [],ns,_,h=>by obtain rfl:=Option.some.inj h; simp
 | x::xs,ns,hx,h=>by
  rw [nms] at h
  split at h
  · rename_i hv
    cases hn:nms xs with
    | none=>rw [hn] at h; simp at h
    | some ms =>
     rw [hn] at h
     obtain rfl:=Option.some.inj h
     have:=Q6j (λy hy=>hx y (by simp [hy])) hn
     have h1:=Jku (hx x (by simp)) hv
     exact ⟨by rw [List.map_cons,← this.1,← h1.1],λn hn=>by
      rcases List.mem_cons.1 hn with rfl | hn
      · exact h1.2
      · exact this.2 n hn⟩
  · simp at h
theorem Jal:∀ {ns:List Int},(∀ n∈ns,0≤n∧n≤999999)→nms (ns.map Qt0)=some ns
 | [],_=>rfl
 | n::ns,h=>by
  rw [List.map_cons,nms,Jhe (h n (by simp)),Jal λm hm=>h m (by simp [hm])]
  rfl
theorem Qii {w line:ByteArray} {k:Nat} {ns:List Int} (hs:line.size≤1048576) (h:wrd w k line=some ns):ns.length=k∧(∀ n∈ns,0≤n∧n≤999999)∧Qiz 32 line=w::ns.map Qt0:=by
 unfold wrd at h
 split at h
 · simp at h
 · rename_i p ps hp
   split at h
   · rename_i h1
     have:=Q6j (λx hx=>Nat.le_trans (Qsh (b:=32) (s:=line) (by rw [hp]; simp [hx])) hs) h
     refine ⟨?_,this.2,by rw [hp,h1.1,← this.1]⟩
     rw [← h1.2,this.1,List.length_map]
   · simp at h
theorem Qsv {w v line:ByteArray} {k j:Nat} {ns:List Int} (hs:line.size≤1048576) (h:wrd w k line=some ns) (hv:v≠w):wrd v j line=none:=by
 have:=(Qii hs h).2.2
 unfold wrd
 rw [this]
 exact if_neg λe=>hv e.1.symm
def wWF:ByteArray:=⟨#[119,97,121,32,102,105,114,115,116]⟩
def wWN:ByteArray:=⟨#[119,97,121,32,110,101,120,116]⟩
def Q4q:ByteArray:=⟨#[112,97,108,108,101,116]⟩
def Q49:ByteArray:=⟨#[99,108,97,115,115,101,115]⟩
def Q1z:ByteArray:=⟨#[119,105,116,104]⟩
def Q1d:ByteArray:=⟨#[116,121,112,101]⟩
def Q4y:ByteArray:=⟨#[109,97,115,116,101,114]⟩
def Q1g:ByteArray:=⟨#[105,116,101,109]⟩
def emB:ByteArray:=⟨#[]⟩
def R0:Request:=⟨0,⟨0,0,0,0⟩,0,[],[],0,[]⟩
def nt1:List Int→Int
 | [a]=>a
 | _=>0
def Jod:List Int→Pallet
 | [a,b,c,d]=>⟨a,b,c,d⟩
 | _=>⟨0,0,0,0⟩
def Ji5:List Int→Pair
 | [a,b]=>⟨a,b⟩
 | _=>⟨0,0⟩
def Jn9:List Int→Typ
 | [a,b,c,d,e,f,g]=>⟨a,b,c,d,e,f,g⟩
 | _=>⟨0,0,0,0,0,0,0⟩
def Jn2:List Int→Item
 | [a,b,c,d,e,f,g]=>⟨a,b,c,d,e,f,g⟩
 | _=>⟨0,0,0,0,0,0,0⟩
theorem Jli {l:List Int} (h:l.length=1):∃ a,l=[a]:=List.length_eq_one_iff.1 h
theorem Jn4 {l:List Int} (h:l.length=2):∃ a b,l=[a,b]:=by
 match l,h with
 | [a,b],_=>exact ⟨a,b,rfl⟩
theorem Jnw {l:List Int} (h:l.length=4):∃ a b c d,l=[a,b,c,d]:=by
 match l,h with
 | [a,b,c,d],_=>exact ⟨a,b,c,d,rfl⟩
theorem Jll {l:List Int} (h:l.length=7):∃ a b c d e f g,l=[a,b,c,d,e,f,g]:=by
 match l,h with
 | [a,b,c,d,e,f,g],_=>exact ⟨a,b,c,d,e,f,g,rfl⟩
def ptl (r:Request) (l:ByteArray):Int×Request :=
 if l=wWF then (0,⟨0,r.fJ,r.fG,r.fR,r.fU,r.fT,r.fV⟩) else
 if l=wWN then (0,⟨1,r.fJ,r.fG,r.fR,r.fU,r.fT,r.fV⟩) else
 match wrd Q4q 4 l with
 | some n=>(1,⟨r.f0,Jod n,r.fG,r.fR,r.fU,r.fT,r.fV⟩)
 | none=>match wrd Q49 1 l with
  | some n=>(2,⟨r.f0,r.fJ,nt1 n,r.fR,r.fU,r.fT,r.fV⟩)
  | none=>match wrd Q1z 2 l with
   | some n=>(3,⟨r.f0,r.fJ,r.fG,r.fR++[Ji5 n],r.fU,r.fT,r.fV⟩)
   | none=>match wrd Q1d 7 l with
    | some n=>(4,⟨r.f0,r.fJ,r.fG,r.fR,r.fU++[Jn9 n],r.fT,r.fV⟩)
    | none=>match wrd Q4y 1 l with
     | some n=>(5,⟨r.f0,r.fJ,r.fG,r.fR,r.fU,nt1 n,r.fV⟩)
     | none=>match wrd Q1g 7 l with
      | some n=>(6,⟨r.f0,r.fJ,r.fG,r.fR,r.fU,r.fT,r.fV++[Jn2 n]⟩)
      | none=>(-1,r)
theorem Jh2 {line w:ByteArray} {k:Nat} {kk:Int} (h:line.size≤1048576) (hk:k≤1048576) (e:(k:Int)=kk):Qbo 2097153 line w kk=some (rsL [] (wrd w k line)):=e ▸ Jay h hk
theorem obR {β:Type} (k:List Int×Bool→Option β):Qab (some (rsL [] none)) k=k ([],false):=rfl
theorem obS {β:Type} (n:List Int) (k:List Int×Bool→Option β):Qab (some (rsL [] (some n))) k=k (n,true):=rfl
theorem Jjr {α:Type} (a b:α):(bif (rsL [] none).2 then a else b)=b:=rfl
theorem Jgb {α:Type} (a b:α):(bif !(rsL [] none).2 then a else b)=a:=rfl
theorem Jgj {α:Type} (n:List Int) (a b:α):(bif !(rsL [] (some n)).2 then a else b)=b:=rfl
theorem Jne {r:Request} {l:ByteArray} (hl:l.size≤1048576) (hp:r.fR.length≤1000) (ht:r.fU.length≤1000) (hi:r.fV.length≤1000):Qqh 2097153 r l=some (ptl r l):=by
 unfold ptl
 show (bif (l.toList==wWF.toList) then _ else bif (l.toList==wWN.toList) then _ else Qab (Qbo 2097153 l Q4q 4) _)=_
 rw [Qwo,Qwo]
 by_cases h1:l=wWF
 · rw [decide_eq_true h1,if_pos h1]; rfl
 rw [decide_eq_false h1,if_neg h1,cond_false]
 by_cases h2:l=wWN
 · rw [decide_eq_true h2,if_pos h2]; rfl
 rw [decide_eq_false h2,if_neg h2,cond_false,Jh2 (k:=4) (kk:=4) hl (by omega) rfl]
 cases h3:wrd Q4q 4 l with
 | some n =>
  obtain ⟨a,b,c,d,rfl⟩:=Jnw (Qii hl h3).1
  rfl
 | none =>
 rw [obR,Qaf rfl]
 show Qab (Qbo 2097153 l Q49 1) _=_
 rw [Jh2 (k:=1) (kk:=1) hl (by omega) rfl]
 cases h4:wrd Q49 1 l with
 | some n =>
  obtain ⟨a,rfl⟩:=Jli (Qii hl h4).1
  rfl
 | none =>
 rw [obR,Qaf rfl]
 show Qab (Qbo 2097153 l Q1z 2) _=_
 rw [Jh2 (k:=2) (kk:=2) hl (by omega) rfl]
 cases h5:wrd Q1z 2 l with
 | some n =>
  obtain ⟨a,b,rfl⟩:=Jn4 (Qii hl h5).1
  show Qab (Qc7 16 r.fR [(⟨a,b⟩:Pair)]) _=_
  rw [ap1 (by simp only [List.length_singleton]; omega)]
  rfl
 | none =>
 rw [obR,Qaf rfl]
 show Qab (Qbo 2097153 l Q1d 7) _=_
 rw [Jh2 (k:=7) (kk:=7) hl (by omega) rfl]
 cases h6:wrd Q1d 7 l with
 | some n =>
  obtain ⟨a,b,c,d,e,f,g,rfl⟩:=Jll (Qii hl h6).1
  show Qab (Qc7 56 r.fU [(⟨a,b,c,d,e,f,g⟩:Typ)]) _=_
  rw [ap1 (by simp only [List.length_singleton]; omega)]
  rfl
 | none =>
 rw [obR,Qaf rfl]
 show Qab (Qbo 2097153 l Q4y 1) _=_
 rw [Jh2 (k:=1) (kk:=1) hl (by omega) rfl]
 cases h7:wrd Q4y 1 l with
 | some n =>
  obtain ⟨a,rfl⟩:=Jli (Qii hl h7).1
  rfl
 | none =>
 rw [obR,Qaf rfl]
 show Qab (Qbo 2097153 l Q1g 7) _=_
 rw [Jh2 (k:=7) (kk:=7) hl (by omega) rfl]
 cases h8:wrd Q1g 7 l with
 | some n =>
  obtain ⟨a,b,c,d,e,f,g,rfl⟩:=Jll (Qii hl h8).1
  show Qab (Qc7 56 r.fV [(⟨a,b,c,d,e,f,g⟩:Item)]) _=_
  rw [ap1 (by simp only [List.length_singleton]; omega)]
  rfl
 | none=>rfl
def mf (last k:Int):Bool :=
 if k=0 then last==-1 else if k=1 then last==0 else if k=2 then last==1 else if k=3 then last==2||last==3 else if k=4 then inb last 2 4 else if k=5 then inb last 2 4 else if k=6 then last==5||last==6 else false
theorem Qt5 (r:Request) (l:ByteArray):((ptl r l).1=0∧(l=wWF∨l=wWN))∨((ptl r l).1=1∧∃ n,wrd Q4q 4 l=some n)∨((ptl r l).1=2∧∃ n,wrd Q49 1 l=some n)∨((ptl r l).1=3∧∃ n,wrd Q1z 2 l=some n) ∨
    ((ptl r l).1=4∧∃ n,wrd Q1d 7 l=some n)∨((ptl r l).1=5∧∃ n,wrd Q4y 1 l=some n)∨((ptl r l).1=6∧∃ n,wrd Q1g 7 l=some n)∨(ptl r l).1=-1:=by
 unfold ptl
 split
 · rename_i h; exact .inl ⟨rfl,.inl h⟩
 split
 · rename_i h; exact .inl ⟨rfl,.inr h⟩
 split
 · rename_i h; exact .inr (.inl ⟨rfl,_,h⟩)
 split
 · rename_i h; exact .inr (.inr (.inl ⟨rfl,_,h⟩))
 split
 · rename_i h; exact .inr (.inr (.inr (.inl ⟨rfl,_,h⟩)))
 split
 · rename_i h; exact .inr (.inr (.inr (.inr (.inl ⟨rfl,_,h⟩))))
 split
 · rename_i h; exact .inr (.inr (.inr (.inr (.inr (.inl ⟨rfl,_,h⟩)))))
 split
 · rename_i h; exact .inr (.inr (.inr (.inr (.inr (.inr (.inl ⟨rfl,_,h⟩))))))
 exact .inr (.inr (.inr (.inr (.inr (.inr (.inr rfl))))))
theorem Jje {last k:Int} (h:-1≤k∧k≤6):Ql2 2097153 last k=some (mf last k):=by
 have:k=-1∨k=0∨k=1∨k=2∨k=3∨k=4∨k=5∨k=6:=by omega
 unfold Ql2 Qg7
 simp only [Q1u,Qaa]
 rcases this with rfl | rfl | rfl | rfl | rfl | rfl | rfl | rfl
 · rfl
 · rfl
 · rfl
 · rfl
 · show (bif (last==2) then some true else some (last==3))=some (last==2||last==3)
   cases last==2 <;> rfl
 · rfl
 · rfl
 · show (bif (last==5) then some true else some (last==6))=some (last==5||last==6)
   cases last==5 <;> rfl
theorem Jax (r:Request) (l:ByteArray):(ptl r l).2.fR.length≤r.fR.length+1∧(ptl r l).2.fU.length≤r.fU.length+1∧(ptl r l).2.fV.length≤r.fV.length+1:=by
 unfold ptl
 repeat' split
 all_goals simp
theorem Jha (r:Request) (l:ByteArray):-1≤(ptl r l).1∧(ptl r l).1≤6:=by
 have:=Qt5 r l
 omega
def Qx1 (z:ByteArray):List ByteArray→Int→Request→Int→Request×Int
 | [],last,r,i=>if last<5 then (R0,i) else if z=emB then (r,-1) else (R0,i)
 | l::ls,last,r,i=>bif mf last (ptl r l).1 then Qx1 z ls (ptl r l).1 (ptl r l).2 (i+1) else (R0,i)
def rdM (s:ByteArray):Request×Int :=
 if 61<(Qiz 10 s).length then (R0,60) else Qx1 ((Qiz 10 s).getLastD emB) (Qiz 10 s).dropLast (-1) R0 0
theorem Q3n (b:UInt8) (s:ByteArray):∃ ls z,Qiz b s=ls++[z]∧(Qiz b s).dropLast=ls∧(Qiz b s).getLastD emB=z:=by
 have h:=(Qlk b s).1
 have hn:Qiz b s≠[]:=λe=>by rw [e] at h; simp at h
 refine ⟨_,(Qiz b s).getLast hn,(List.dropLast_concat_getLast hn).symm,rfl,?_⟩
 rw [List.getLastD_eq_getLast?,List.getLast?_eq_some_getLast hn]; rfl
theorem Je2 {α:Type} {ls:List α} {z:α}:sls (ls++[z]) 0 (ls.length:Int)=some ls:=by
 rw [Qor (by simp; omega)]
 simp
theorem Jf9 {α:Type} {ls:List α} {z:α}:ix (ls++[z]) (ls.length:Int)=some z:=by
 rw [Qh3]; simp
theorem Je1 {s:ByteArray} (hs:s.size≤1048576):Qis 2097153 s=some (rdM s):=by
 unfold Qis rdM
 have e:=Q3p (b:=10) hs
 rw [show ((10:UInt8).toNat:Int)=10 from rfl] at e
 rw [e,Qaa]
 obtain ⟨ls,z,h1,h2,h3⟩:=Q3n 10 s
 have hsz:=λx hx=>Nat.le_trans (Qsh (b:=10) (s:=s) (x:=x) hx) hs
 have hn:=(Qlk 10 s).2
 rw [h2,h3]
 rw [h1] at hsz hn ⊢
 simp only [List.length_append,List.length_singleton] at hn ⊢
 rw [Qam (by omega) (by omega),show ((ls.length+1:Nat):Int) - 1=ls.length by omega]
 by_cases h61:61<ls.length+1
 · rw [Qao (by simp; omega),if_pos h61]; rfl
 rw [Qaf (by simp; omega),if_neg h61,Je2,Qaa]
 have key:=Jei ls (λn (o:Request×Int) i=>Qe9 2097153 (ls++[z]) ls n o.1.f0 o.1.fJ.fW o.1.fJ.fD o.1.fJ.fH o.1.fJ.fQ o.1.fG o.1.fR o.1.fU o.1.fT o.1.fV o.2 i) (λpre xs o=>some (Qx1 z xs o.2 o.1 (pre.length:Int))) (λpre xs o=>o.1.fR.length≤pre.length∧o.1.fU.length≤pre.length∧o.1.fV.length≤pre.length) (by omega) ?_ ?_ 2097153 (R0,-1) ⟨by simp [R0],by simp [R0],by simp [R0]⟩ (by omega)
 · exact key
 · intro n o pre x xs e hx hd hI ih
   have hpl:pre.length<ls.length:=by rw [e]; simp
   have hxs:x.size≤1048576:=hsz x (by rw [e]; simp)
   simp only [Qe9.eq_2]
   unfold Qjj
   rw [hd,cond_true,hx,Qaa]
   show Qab (Qqh 2097153 o.1 x) _=_
   rw [Jne hxs (by omega) (by omega) (by omega),Qaa,Jje (Jha _ _),Qaa]
   cases hm:mf o.2 (ptl o.1 x).1 with
   | false =>
    rw [Bool.not_false,cond_true,Qx1,hm]; rfl
   | true =>
    rw [Bool.not_true,cond_false]
    have hl:=Jax o.1 x
    have:=ih ((ptl o.1 x).2,(ptl o.1 x).1) ⟨by simp; omega,by simp; omega,by simp; omega⟩
    rw [Qx1,hm,cond_true]
    simp only at this
    rw [this]
    simp
 · intro n o hd hI
   simp only [Qe9.eq_2]
   unfold Qjj
   rw [hd,cond_false,Qx1]
   simp only [List.length_append,List.length_singleton]
   rw [Qam (by omega) (by omega),show ((ls.length+1:Nat):Int) - 1=ls.length by omega,Jf9,Qaa]
   by_cases h5:o.2<5
   · rw [Qao (by simpa using h5),if_pos h5]; rfl
   rw [Qaf (by simpa using h5),if_neg h5]
   show (bif (!(z.toList==emB.toList)) then _ else _)=_
   rw [Qwo]
   by_cases hz:z=emB
   · rw [decide_eq_true hz,if_pos hz]; rfl
   · rw [decide_eq_false hz,if_neg hz]; rfl
theorem Jog {line w:ByteArray} {k:Nat} {kk:Int} (h:line.size≤1048576) (hk:k≤1048576) (e:(k:Int)=kk):Qog 2097153 line w kk=some (rsL [] (wrd w k line)):=e ▸ Jkj h hk
def nx (w:ByteArray) (k:Nat):List ByteArray→Option (List Int)
 | []=>none
 | l::_=>wrd w k l
theorem Jb8 {pre rest:List ByteArray} {z w:ByteArray} {k:Nat} {kk at_:Int} (hs:∀ x∈rest,x.size≤1048576) (hl:pre.length+rest.length≤1000) (hk:k≤1000) (e:(k:Int)=kk) (ea:(pre.length:Int)=at_):Qbc 2097153 (pre++(rest++[z])) at_ w kk=some (rsL [] (nx w k rest)):=by
 subst ea
 unfold Qbc
 simp only [List.length_append,List.length_singleton]
 rw [Qam (by omega) (by omega)]
 cases rest with
 | nil=>rw [Qao (by simp)]; rfl
 | cons l ls =>
  rw [Qaf (by simp; omega),Qh3]
  have:(pre++(l::ls++[z]))[pre.length]? = some l:=by simp
  rw [this,Qaa,Jog (k:=k) (hs l (by simp)) (by omega) e,Qaa]
  rfl
theorem Jf5 {l:ByteArray} {n:List Int} (hl:l.size≤1048576) (h:wrd Q1g 7 l=some n) (r:Request):ptl r l=(6,⟨r.f0,r.fJ,r.fG,r.fR,r.fU,r.fT,r.fV++[Jn2 n]⟩):=by
 have hp:=(Qii hl h).2.2
 unfold ptl
 rw [if_neg (λe=>by rw [e] at hp; revert hp; exact λhp=>absurd (List.cons.inj hp).1 (by decide)),if_neg (λe=>by rw [e] at hp; exact absurd (List.cons.inj hp).1 (by decide)),Qsv hl h (v:=Q4q) (by decide),Qsv hl h (v:=Q49) (by decide),Qsv hl h (v:=Q1z) (by decide),Qsv hl h (v:=Q1d) (by decide),Qsv hl h (v:=Q4y) (by decide),h]
theorem Jfe {l:ByteArray} {n:List Int} (hl:l.size≤1048576) (h:wrd Q4y 1 l=some n) (r:Request):ptl r l=(5,⟨r.f0,r.fJ,r.fG,r.fR,r.fU,nt1 n,r.fV⟩):=by
 have hp:=(Qii hl h).2.2
 unfold ptl
 rw [if_neg (λe=>by rw [e] at hp; exact absurd (List.cons.inj hp).1 (by decide)),if_neg (λe=>by rw [e] at hp; exact absurd (List.cons.inj hp).1 (by decide)),Qsv hl h (v:=Q4q) (by decide),Qsv hl h (v:=Q49) (by decide),Qsv hl h (v:=Q1z) (by decide),Qsv hl h (v:=Q1d) (by decide),h]
theorem Jhg {l:ByteArray} {n:List Int} (hl:l.size≤1048576) (h:wrd Q1d 7 l=some n) (r:Request):ptl r l=(4,⟨r.f0,r.fJ,r.fG,r.fR,r.fU++[Jn9 n],r.fT,r.fV⟩):=by
 have hp:=(Qii hl h).2.2
 unfold ptl
 rw [if_neg (λe=>by rw [e] at hp; exact absurd (List.cons.inj hp).1 (by decide)),if_neg (λe=>by rw [e] at hp; exact absurd (List.cons.inj hp).1 (by decide)),Qsv hl h (v:=Q4q) (by decide),Qsv hl h (v:=Q49) (by decide),Qsv hl h (v:=Q1z) (by decide),h]
theorem Jfn {l:ByteArray} {n:List Int} (hl:l.size≤1048576) (h:wrd Q1z 2 l=some n) (r:Request):ptl r l=(3,⟨r.f0,r.fJ,r.fG,r.fR++[Ji5 n],r.fU,r.fT,r.fV⟩):=by
 have hp:=(Qii hl h).2.2
 unfold ptl
 rw [if_neg (λe=>by rw [e] at hp; exact absurd (List.cons.inj hp).1 (by decide)),if_neg (λe=>by rw [e] at hp; exact absurd (List.cons.inj hp).1 (by decide)),Qsv hl h (v:=Q4q) (by decide),Qsv hl h (v:=Q49) (by decide),h]
theorem Jfi {l:ByteArray} {n:List Int} (hl:l.size≤1048576) (h:wrd Q49 1 l=some n) (r:Request):ptl r l=(2,⟨r.f0,r.fJ,nt1 n,r.fR,r.fU,r.fT,r.fV⟩):=by
 have hp:=(Qii hl h).2.2
 unfold ptl
 rw [if_neg (λe=>by rw [e] at hp; exact absurd (List.cons.inj hp).1 (by decide)),if_neg (λe=>by rw [e] at hp; exact absurd (List.cons.inj hp).1 (by decide)),Qsv hl h (v:=Q4q) (by decide),h]
theorem Jg4 {l:ByteArray} {n:List Int} (hl:l.size≤1048576) (h:wrd Q4q 4 l=some n) (r:Request):ptl r l=(1,⟨r.f0,Jod n,r.fG,r.fR,r.fU,r.fT,r.fV⟩):=by
 have hp:=(Qii hl h).2.2
 unfold ptl
 rw [if_neg (λe=>by rw [e] at hp; exact absurd (List.cons.inj hp).1 (by decide)),if_neg (λe=>by rw [e] at hp; exact absurd (List.cons.inj hp).1 (by decide)),h]
theorem Qzt {z l:ByteArray} {ls:List ByteArray} {last i:Int} {r:Request} (h:mf last (ptl r l).1=false):Qx1 z (l::ls) last r i=(R0,i):=by
 rw [Qx1,h]; rfl
theorem Qtc {z l:ByteArray} {ls:List ByteArray} {last i k:Int} {r q:Request} (h:ptl r l=(k,q)) (hm:mf last k=true):Qx1 z (l::ls) last r i=Qx1 z ls k q (i+1):=by
 rw [Qx1,h,hm]; rfl
theorem Jn1 {z:ByteArray} {w a b c d cl m:Int} {P:List Pair} {T:List Typ}:∀ (rest pre:List ByteArray) (its:List Item) (k:Nat) (last:Int),(∀ x∈rest,x.size≤1048576)→pre.length+rest.length≤1000→its.length≤pre.length→rest.length<k→(last=5∨last=6) →
    Qe7 2097153 (pre++(rest++[z])) w a b c d cl P T m k its (pre.length:Int) (rsL [] (nx Q1g 7 rest)).1 (rsL [] (nx Q1g 7 rest)).2=some (Qx1 z rest last ⟨w,⟨a,b,c,d⟩,cl,P,T,m,its⟩ (pre.length:Int))
 | [],pre,its,k,last,hs,hl,hi,hk,h5=>by
  obtain ⟨k,rfl⟩:∃ j,k=j+1:=⟨k - 1,by omega⟩
  simp only [List.length_nil] at hl
  rw [Qe7.eq_2]
  unfold Qjq
  rw [show nx Q1g 7 []=none from rfl,Jjr]
  simp only [List.nil_append,List.length_append,List.length_singleton]
  rw [Qam (by omega) (by omega),Qaf (by simp),show ((pre.length+1:Nat):Int) - 1=pre.length by omega,Jf9,Qaa]
  show (bif (!(z.toList==emB.toList)) then _ else _)=_
  rw [Qwo,Qx1,if_neg (show ¬ last<5 by omega)]
  by_cases hz:z=emB
  · rw [decide_eq_true hz,if_pos hz]; try rfl
  · rw [decide_eq_false hz,if_neg hz]; try rfl
 | l::ls,pre,its,k,last,hs,hl,hi,hk,h5=>by
  obtain ⟨k,rfl⟩:∃ j,k=j+1:=⟨k - 1,by omega⟩
  simp only [List.length_cons] at hl hk
  rw [Qe7.eq_2]
  unfold Qjq
  have hsl:=hs l (by simp)
  rw [show nx Q1g 7 (l::ls)=wrd Q1g 7 l from rfl]
  cases hw:wrd Q1g 7 l with
  | none =>
   rw [Jjr]
   simp only [List.length_append,List.length_singleton,List.length_cons,List.length_nil]
   rw [Qam (by omega) (by omega),Qao (by simp; omega),Qzt ?_]; · rfl
   have hc:=Qt5 ⟨w,⟨a,b,c,d⟩,cl,P,T,m,its⟩ l
   rw [hw] at hc
   rcases hc with ⟨e,_⟩ | ⟨e,_⟩ | ⟨e,_⟩ | ⟨e,_⟩ | ⟨e,_⟩ | ⟨e,_⟩ | ⟨_,_,e⟩ | e
   all_goals first | (rw [e]; rcases h5 with rfl | rfl <;> rfl) | exact absurd e (by simp)
  | some n =>
   obtain ⟨x1,x2,x3,x4,x5,x6,x7,rfl⟩:=Jll (Qii hsl hw).1
   rw [Qtc (Jf5 hsl hw _) (by rcases h5 with rfl | rfl <;> rfl)]
   show Qab (Qc7 56 its [(⟨x1,x2,x3,x4,x5,x6,x7⟩:Item)]) _=_
   rw [ap1 (by simp only [List.length_singleton]; omega),Qaa,Qam (by omega) (by omega)]
   have e:pre++(l::ls++[z])=(pre++[l])++(ls++[z]):=by simp
   have ea:(pre.length:Int)+1=(((pre++[l]).length:Nat):Int):=by simp
   rw [e,ea]
   show Qab (Qbc 2097153 ((pre++[l])++(ls++[z])) (((pre++[l]).length:Nat):Int) Q1g 7) _=_
   rw [Jb8 (k:=7) (kk:=7) (λx hx=>hs x (by simp [hx])) (by simp; omega) (by omega) rfl rfl,Qaa]
   exact Jn1 ls (pre++[l]) _ k 6 (λx hx=>hs x (by simp [hx])) (by simp; omega) (by simp; omega) (by omega) (.inr rfl)
theorem Jn0 {z:ByteArray} {w a b c d cl:Int} {P:List Pair}:∀ (rest pre:List ByteArray) (ts:List Typ) (k:Nat) (last:Int),(∀ x∈rest,x.size≤1048576)→pre.length+rest.length≤1000→ts.length≤pre.length→rest.length<k→(last=4∨(last=2∨last=3)∧nx Q1z 2 rest=none) →
    Qe2 2097153 (pre++(rest++[z])) w a b c d cl P k ts (pre.length:Int) (rsL [] (nx Q1d 7 rest)).1 (rsL [] (nx Q1d 7 rest)).2=some (Qx1 z rest last ⟨w,⟨a,b,c,d⟩,cl,P,ts,0,[]⟩ (pre.length:Int))
 | [],pre,ts,k,last,hs,hl,hi,hk,h5=>by
  obtain ⟨k,rfl⟩:∃ j,k=j+1:=⟨k - 1,by omega⟩
  rw [Qe2.eq_2]
  unfold Qje
  rw [show nx Q1d 7 []=none from rfl,Jjr]
  show Qab (Qbc 2097153 (pre++([]++[z])) (pre.length:Int) Q4y 1) _=_
  rw [Jb8 (k:=1) (kk:=1) hs hl (by omega) rfl rfl,Qaa,Qx1,if_pos (by omega)]
  rfl
 | l::ls,pre,ts,k,last,hs,hl,hi,hk,h5=>by
  obtain ⟨k,rfl⟩:∃ j,k=j+1:=⟨k - 1,by omega⟩
  have hl0:=hl
  simp only [List.length_cons] at hl hk
  rw [Qe2.eq_2]
  unfold Qje
  have hsl:=hs l (by simp)
  have e:pre++(l::ls++[z])=(pre++[l])++(ls++[z]):=by simp
  have ea:(pre.length:Int)+1=(((pre++[l]).length:Nat):Int):=by simp
  rw [show nx Q1d 7 (l::ls)=wrd Q1d 7 l from rfl]
  cases hw:wrd Q1d 7 l with
  | none =>
   rw [Jjr]
   show Qab (Qbc 2097153 (pre++(l::ls++[z])) (pre.length:Int) Q4y 1) _=_
   rw [Jb8 (k:=1) (kk:=1) hs hl0 (by omega) rfl rfl,Qaa]
   rw [show nx Q4y 1 (l::ls)=wrd Q4y 1 l from rfl]
   cases hm:wrd Q4y 1 l with
   | none =>
    rw [Jgb,Qzt ?_]; · rfl
    have hc:=Qt5 ⟨w,⟨a,b,c,d⟩,cl,P,ts,0,[]⟩ l
    rw [hw,hm] at hc
    have h5':last=4∨(last=2∨last=3)∧wrd Q1z 2 l=none:=h5
    rcases hc with ⟨e,_⟩ | ⟨e,_⟩ | ⟨e,_⟩ | ⟨e,_,e'⟩ | ⟨_,_,e⟩ | ⟨_,_,e⟩ | ⟨e,_⟩ | e
    all_goals first | exact absurd e (by simp) | (rw [e]; rcases h5' with rfl | ⟨rfl | rfl,h6⟩ <;> first | rfl | (rw [h6] at e'; exact absurd e' (by simp)))
   | some n =>
    obtain ⟨x1,rfl⟩:=Jli (Qii hsl hm).1
    rw [Jgj,Qtc (Jfe hsl hm _) (by rcases h5 with rfl | ⟨rfl | rfl,_⟩ <;> rfl)]
    show Qab (Qbc 2097153 (pre++(l::ls++[z])) (w64 ((pre.length:Int)+1)) Q1g 7) _=_
    rw [Qam (by omega) (by omega),e,ea,Jb8 (k:=7) (kk:=7) (λx hx=>hs x (by simp [hx])) (by simp; omega) (by omega) rfl rfl,Qaa]
    exact Jn1 ls (pre++[l]) [] 2097153 5 (λx hx=>hs x (by simp [hx])) (by simp; omega) (by simp) (by omega) (.inl rfl)
  | some n =>
   obtain ⟨x1,x2,x3,x4,x5,x6,x7,rfl⟩:=Jll (Qii hsl hw).1
   rw [Qtc (Jhg hsl hw _) (by rcases h5 with rfl | ⟨rfl | rfl,_⟩ <;> rfl)]
   show Qab (Qc7 56 ts [(⟨x1,x2,x3,x4,x5,x6,x7⟩:Typ)]) _=_
   rw [ap1 (by simp only [List.length_singleton]; omega),Qaa,Qam (by omega) (by omega),e,ea]
   show Qab (Qbc 2097153 ((pre++[l])++(ls++[z])) (((pre++[l]).length:Nat):Int) Q1d 7) _=_
   rw [Jb8 (k:=7) (kk:=7) (λx hx=>hs x (by simp [hx])) (by simp; omega) (by omega) rfl rfl,Qaa]
   exact Jn0 ls (pre++[l]) _ k 4 (λx hx=>hs x (by simp [hx])) (by simp; omega) (by simp; omega) (by omega) (.inl rfl)
theorem Jn6 {z:ByteArray} {w a b c d cl:Int}:∀ (rest pre:List ByteArray) (ps:List Pair) (k:Nat) (last:Int),(∀ x∈rest,x.size≤1048576)→pre.length+rest.length≤1000→ps.length≤pre.length→rest.length<k→(last=2∨last=3) →
    Qha 2097153 (pre++(rest++[z])) w a b c d cl k ps (pre.length:Int) (rsL [] (nx Q1z 2 rest)).1 (rsL [] (nx Q1z 2 rest)).2=some (Qx1 z rest last ⟨w,⟨a,b,c,d⟩,cl,ps,[],0,[]⟩ (pre.length:Int))
 | rest,pre,ps,k,last,hs,hl,hi,hk,h5=>by
  obtain ⟨k,rfl⟩:∃ j,k=j+1:=⟨k - 1,by omega⟩
  rw [Qha.eq_2]
  unfold Qq4
  cases hw:nx Q1z 2 rest with
  | none =>
   rw [Jjr]
   show Qab (Qbc 2097153 (pre++(rest++[z])) (pre.length:Int) Q1d 7) _=_
   rw [Jb8 (k:=7) (kk:=7) hs hl (by omega) rfl rfl,Qaa]
   exact Jn0 rest pre [] 2097153 last hs hl (by simp) (by omega) (.inr ⟨h5,hw⟩)
  | some n =>
   cases rest with
   | nil=>exact absurd hw (by simp [nx])
   | cons l ls =>
    have hsl:=hs l (by simp)
    have e:pre++(l::ls++[z])=(pre++[l])++(ls++[z]):=by simp
    have ea:(pre.length:Int)+1=(((pre++[l]).length:Nat):Int):=by simp
    simp only [List.length_cons] at hl hk
    have hw':wrd Q1z 2 l=some n:=hw
    obtain ⟨x1,x2,rfl⟩:=Jn4 (Qii hsl hw').1
    rw [Qtc (Jfn hsl hw' _) (by rcases h5 with rfl | rfl <;> rfl)]
    show Qab (Qc7 16 ps [(⟨x1,x2⟩:Pair)]) _=_
    rw [ap1 (by simp only [List.length_singleton]; omega),Qaa,Qam (by omega) (by omega),e,ea]
    show Qab (Qbc 2097153 ((pre++[l])++(ls++[z])) (((pre++[l]).length:Nat):Int) Q1z 2) _=_
    rw [Jb8 (k:=2) (kk:=2) (λx hx=>hs x (by simp [hx])) (by simp; omega) (by omega) rfl rfl,Qaa]
    exact Jn6 ls (pre++[l]) _ k 3 (λx hx=>hs x (by simp [hx])) (by simp; omega) (by simp; omega) (by omega) (.inr rfl)
 termination_by rest=>rest.length
theorem Jnx {z l0:ByteArray} {w:Int} {rest:List ByteArray} (hs:∀ x∈rest,x.size≤1048576) (hl:rest.length≤900):Qd3 2097153 ([l0]++(rest++[z])) w=some (Qx1 z rest 0 ⟨w,⟨0,0,0,0⟩,0,[],[],0,[]⟩ 1):=by
 unfold Qd3
 show Qab (Qbc 2097153 ([l0]++(rest++[z])) 1 Q4q 4) _=_
 rw [Jb8 (k:=4) (kk:=4) (at_:=1) (pre:=[l0]) hs (by simp; omega) (by omega) rfl rfl,Qaa]
 cases rest with
 | nil=>rfl
 | cons l1 ls =>
  have h1:=hs l1 (by simp)
  simp only [List.length_cons] at hl
  rw [show nx Q4q 4 (l1::ls)=wrd Q4q 4 l1 from rfl]
  cases hw:wrd Q4q 4 l1 with
  | none =>
   rw [Jgb,Qzt ?_]; · rfl
   have hc:=Qt5 ⟨w,⟨0,0,0,0⟩,0,[],[],0,[]⟩ l1
   rw [hw] at hc
   rcases hc with ⟨e,_⟩ | ⟨_,_,e⟩ | ⟨e,_⟩ | ⟨e,_⟩ | ⟨e,_⟩ | ⟨e,_⟩ | ⟨e,_⟩ | e
   all_goals first | exact absurd e (by simp) | (rw [e]; rfl)
  | some n =>
   obtain ⟨a,b,c,d,rfl⟩:=Jnw (Qii h1 hw).1
   rw [Jgj,Qtc (Jg4 h1 hw _) rfl]
   show Qab (Qbc 2097153 ([l0,l1]++(ls++[z])) 2 Q49 1) _=some (Qx1 z ls 1 ⟨w,⟨a,b,c,d⟩,0,[],[],0,[]⟩ 2)
   rw [Jb8 (k:=1) (kk:=1) (at_:=2) (pre:=[l0,l1]) (λx hx=>hs x (by simp [hx])) (by simp; omega) (by omega) rfl rfl,Qaa]
   cases ls with
   | nil=>rfl
   | cons l2 ls =>
    have h2:=hs l2 (by simp)
    simp only [List.length_cons] at hl
    rw [show nx Q49 1 (l2::ls)=wrd Q49 1 l2 from rfl]
    cases hw:wrd Q49 1 l2 with
    | none =>
     rw [Jgb,Qzt ?_]; · rfl
     have hc:=Qt5 ⟨w,⟨a,b,c,d⟩,0,[],[],0,[]⟩ l2
     rw [hw] at hc
     rcases hc with ⟨e,_⟩ | ⟨e,_⟩ | ⟨_,_,e⟩ | ⟨e,_⟩ | ⟨e,_⟩ | ⟨e,_⟩ | ⟨e,_⟩ | e
     all_goals first | exact absurd e (by simp) | (rw [e]; rfl)
    | some n =>
     obtain ⟨cl,rfl⟩:=Jli (Qii h2 hw).1
     rw [Jgj,Qtc (Jfi h2 hw _) rfl]
     show Qab (Qbc 2097153 ([l0,l1,l2]++(ls++[z])) 3 Q1z 2) _=some (Qx1 z ls 2 ⟨w,⟨a,b,c,d⟩,cl,[],[],0,[]⟩ 3)
     rw [Jb8 (k:=2) (kk:=2) (at_:=3) (pre:=[l0,l1,l2]) (λx hx=>hs x (by simp [hx])) (by simp; omega) (by omega) rfl rfl,Qaa]
     exact Jn6 ls [l0,l1,l2] [] 2097153 2 (λx hx=>hs x (by simp [hx])) (by simp; omega) (by simp) (by omega) (.inl rfl)
theorem Jex {s:ByteArray} (hs:s.size≤1048576):Qir 2097153 s=some (rdM s):=by
 unfold Qir rdM
 have e:=Q93 (b:=10) hs
 rw [show ((10:UInt8).toNat:Int)=10 from rfl] at e
 rw [e,Qaa]
 obtain ⟨ls,z,h1,h2,h3⟩:=Q3n 10 s
 have hsz:=λx hx=>Nat.le_trans (Qsh (b:=10) (s:=s) (x:=x) hx) hs
 have hn:=(Qlk 10 s).2
 rw [h2,h3]
 rw [h1] at hsz hn ⊢
 simp only [List.length_append,List.length_singleton] at hn ⊢
 rw [Qam (by omega) (by omega),show ((ls.length+1:Nat):Int) - 1=ls.length by omega]
 by_cases h61:61<ls.length+1
 · rw [Qao (by simp; omega),if_pos h61]; rfl
 rw [Qaf (by simp; omega),if_neg h61]
 cases ls with
 | nil=>rfl
 | cons l0 ls =>
  rw [Qaf (by simp; omega)]
  have hr:∀ x∈ls,x.size≤1048576:=λx hx=>hsz x (by simp [hx])
  simp only [List.length_cons] at h61
  rw [show ix (l0::ls++[z]) 0=some l0 from rfl,Qaa]
  show (bif (!(l0.toList==wWF.toList)) then (bif (!(l0.toList==wWN.toList)) then _ else _) else _)=_
  have j2:∀ (k:Int),(l0=wWN→k=1)→(l0≠wWN→k=0)→Qg1 2097153 (l0::ls++[z])=some (Qx1 z ls 0 ⟨k,⟨0,0,0,0⟩,0,[],[],0,[]⟩ 1):=λk k1 k0=>by
   unfold Qg1
   rw [show ix (l0::ls++[z]) 0=some l0 from rfl,Qaa]
   show (bif (l0.toList==wWN.toList) then Qd3 2097153 ([l0]++(ls++[z])) 1 else Qd3 2097153 ([l0]++(ls++[z])) 0)=_
   rw [Qwo,Jnx hr (by omega),Jnx hr (by omega)]
   by_cases hl:l0=wWN
   · rw [decide_eq_true hl,k1 hl]; rfl
   · rw [decide_eq_false hl,k0 hl]; rfl
  rw [Qwo,Qwo]
  by_cases hF:l0=wWF
  · rw [decide_eq_true hF,Bool.not_true,cond_false,j2 0 (λe=>absurd (e.symm.trans hF) (by decide)) λ_=>rfl,Qtc (k:=0) (q:=⟨0,⟨0,0,0,0⟩,0,[],[],0,[]⟩) ?_ rfl]; · rfl
    unfold ptl
    rw [if_pos hF]; rfl
  · rw [decide_eq_false hF,Bool.not_false,cond_true]
    by_cases hN:l0=wWN
    · rw [decide_eq_true hN,Bool.not_true,cond_false,j2 1 (λ_=>rfl) (λe=>absurd hN e),Qtc (k:=0) (q:=⟨1,⟨0,0,0,0⟩,0,[],[],0,[]⟩) ?_ rfl]; · rfl
      unfold ptl
      rw [if_neg hF,if_pos hN]; rfl
    · rw [decide_eq_false hN,Bool.not_false,cond_true,Qzt ?_]; · rfl
      have hc:=Qt5 R0 l0
      rcases hc with ⟨_,e⟩ | ⟨e,_⟩ | ⟨e,_⟩ | ⟨e,_⟩ | ⟨e,_⟩ | ⟨e,_⟩ | ⟨e,_⟩ | e
      · rcases e with e | e
        · exact absurd e hF
        · exact absurd e hN
      all_goals (rw [e]; rfl)
end Go.Proofs.YthkaklkinepfkaaGreatDoor
