/- ExactPackBP: plain l.. -/
import Derived.Test.YtpcmapfabndggaaGreatDoorExactPackBP3
set_option linter.unusedSimpArgs false
set_option linter.unusedVariables false
namespace Go.Proofs.YtpcmapfabndggaaGreatDoor
open Go
open Enc (rd ow)
open Arg (argv)
open Ret (retv)
open Wf (wf)
theorem Jay {fu:Nat} {k7:List Load→Int→Option (List Load)} {i:Int} {b:Layer} {o:List Load} {j:Nat} {s:Load} (hs:o[j]? = some s) (hl:s.fK.length≤1000000)
    (h1:-1000000000≤s.fH+b.fH∧s.fH+b.fH≤1000000000) (h2:-1000000000≤s.fQ+b.fQ∧s.fQ+b.fQ≤1000000000):Qdf fu k7 i b o (j:Int)=k7 (o.set j (Qs2 s i b)) (w64 (i+1)):=by
 unfold Qdf Qno
 rw [Qlg,hs,Qab,ap1 (by simp; omega),Qab]
 simp only [Qab,Q06,List.set_set,Jbt]
 rw [Qa1 (n:=s.fH+b.fH) (by omega) (by omega),Qa1 (n:=s.fQ+b.fQ) (by omega) (by omega)]
 rfl
theorem Qwn (fu:Nat) (l:List Layer) (f:Layer→Option Bool) (g:Layer→Bool) (hg:∀ b,f b=some (g b)) (h:l.length≤1048576) (hf:l.length<fu) :
    Qbl fu l f=some (l.any g):=by
 unfold Qbl Qcl
 have key:∀ (m i n:Nat),l.length - i=m→i≤l.length→m<n→∃ r,Qar fu l f n i=some r∧decide (r≥0)=(l.drop i).any g:=by
  intro m
  induction m with
  | zero =>
   intro i n hm hi hn
   obtain ⟨n,rfl⟩:∃ k,n=k+1:=⟨n - 1,by omega⟩
   rw [Qar.eq_2]
   unfold Qbz
   rw [Qam (by simp; omega),List.drop_eq_nil_of_le (by omega)]
   exact ⟨_,rfl,rfl⟩
  | succ m ih =>
   intro i n hm hi hn
   obtain ⟨n,rfl⟩:∃ k,n=k+1:=⟨n - 1,by omega⟩
   have hlt:i<l.length:=by omega
   rw [Qar.eq_2]
   unfold Qbz
   rw [Qa0 (by simpa using hlt),Jci (Jc5 (List.getElem?_eq_getElem hlt)),hg,Qab,List.drop_eq_getElem_cons hlt,List.any_cons]
   cases hgx:g l[i]
   · rw [Qam rfl,Qa1 (by omega) (by omega),Bool.false_or]
     have:=ih (i+1) n (by omega) (by omega) (by omega)
     simpa using this
   · rw [Qa0 rfl]
     exact ⟨_,rfl,by simp⟩
 obtain ⟨r,h1,h2⟩:=key l.length 0 fu (by omega) (by omega) hf
 have h1':Qar fu l f fu 0=some r:=h1
 rw [h1',Qab,h2]
 rfl
theorem Jhu {fu:Nat} (p:Pallet) (l:List Layer) (hl:l.length≤1048576) (hf:l.length<fu):Qnj fu p l=some (Quj p&&l.all λs=>okL p s.fD s.fH s.fQ):=by
 unfold Qnj
 have e:∀ a b c:Int,inB a b c=inb a b c:=λa b c=>Bool.eq_iff_iff.2 (by rw [Q3k,Qdx])
 have ep:Qs6 p=Quj p:=by unfold Qs6 Quj; simp only [e]
 rw [Qrx,Qab,ep,Qwn fu l _ (λs=>!okL p s.fD s.fH s.fQ) (λs=>by
  unfold Qn7 okL
  simp only [Q9g,Qab,e]
  cases inb s.fD 1 p.fD <;> cases inb s.fH 1 p.fH <;> rfl) hl hf,Qab]
 cases Quj p
 · rfl
 · rw [cond_true,Bool.true_and]
   congr 1
   rw [Bool.eq_iff_iff]
   simp
theorem Jct {fu:Nat} (hfu:2097153≤fu) {p:Pallet} (hp:Quj p=true) {l:List Layer} (hb:OkY p l) (hl:l.length≤1000):Qow fu p l=some (ldM p l):=by
 unfold Qow ldM
 rw [Jhu p l (by omega) (by omega),hp,Je4 hb,Qab,Bool.and_self,Bool.not_true,cond_false]
 obtain ⟨p1,p2,p3,p4⟩:=Qwg hp
 refine Q5o (l.length:Int) (λn (o:List Load) i=>Qch fu p l n o i) (λxs o=>some (xs.foldl (ldS p l) o)) (λxs o=>(∀ s∈o,LdI p l.length s)∧((o.map (·.fK)).flatten).length+xs.length≤1000∧o.length+xs.length≤1000) (by omega) ?_ ?_ l.length fu [] 0 (by omega) (by omega) (by omega) ⟨by simp,by simp [Qcn]; omega,by simp [Qcn]; omega⟩
 · intro n o i xs x0 x1 hd hI ih
   obtain ⟨i2,i3,i4⟩:=hI
   simp only [List.length_cons] at i3 i4
   obtain ⟨hbx,b1,b2,b3,_⟩:=Q2d hb ⟨x0,x1⟩
   have hflat:((ldS p l o i).map (·.fK)).flatten=(o.map (·.fK)).flatten++[i]:=Qrq (λs=>rfl) rfl
   have hlen:(ldS p l o i).length≤o.length+1:=Qs4 _ _ _ _
   have ih':=ih (ldS p l o i) ⟨Q3p hb ⟨x0,x1⟩ i2,by rw [hflat,List.length_append,List.length_singleton]; omega,by omega⟩
   simp only [Qch.eq_2]
   unfold Qjx
   rw [hd,cond_true,hbx,Qab,List.foldl_cons,← ih']
   have hnew:∀ o':List Load,o'.length≤1000→Qdf fu (λo i=>Qch fu p l n o i) i (lyA l i) (o'++[zLd]) ((o'.length:Nat):Int)=Qch fu p l n (o'++[Qs2 zLd i (lyA l i)]) (w64 (i+1)):=λo' ho'=>by
    rw [Jay (s:=zLd) (by simp) (by simp [zLd]) (by simp [zLd]; omega) (by simp [zLd]; omega)]
    simp
   by_cases he:o=[]
   · subst he
     rw [Qa0 (by decide),ap1 (by simp),Qab]
     exact hnew [] (by simp)
   · obtain ⟨s,e1,e2⟩:=Qtr he
     have hp:=List.length_pos_iff.2 he
     have hsm':=List.mem_of_getLast? e1
     have hs:=i2 s hsm'
     have hsl':=Qq0 (λs:Load=>s.fK) o s hsm'
     have eS:ldS p l o i=bif Q5r p (lyA l i) s then o.set (o.length - 1) (Qs2 s i (lyA l i)) else o++[Qs2 zLd i (lyA l i)]:=Qt3 e1
     have e3:w64 ((o.length:Int) - 1)=((o.length - 1:Nat):Int):=by rw [Qa1 (by omega) (by omega)]; omega
     have e4:w64 (((o.length - 1:Nat):Int)+1)=((o.length:Nat):Int):=by rw [Qa1 (by omega) (by omega)]; omega
     have e5:o[o.length - 1]? = some s:=by rw [← List.getLast?_eq_getElem?]; exact e1
     obtain ⟨s1,s2,s4,s5⟩:=hs
     rw [e3,e4,Qam (by simp),Qlg,e5,Qab,Qa1 (n:=s.fH+_) (by omega) (by omega),Qa1 (n:=s.fQ+_) (by omega) (by omega),ap1 (by simp; omega),Qab,eS]
     unfold Q5r
     have c1:decide (s.fH+(lyA l i).fH>p.fH)=!decide (s.fH+(lyA l i).fH≤p.fH):=by
      by_cases h:s.fH+(lyA l i).fH≤p.fH <;> simp [h] <;> omega
     have c2:decide (s.fQ+(lyA l i).fQ>p.fQ)=!decide (s.fQ+(lyA l i).fQ≤p.fQ):=by
      by_cases h:s.fQ+(lyA l i).fQ≤p.fQ <;> simp [h] <;> omega
     rw [c1,c2,Qab]
     have h1:=hnew o (by omega)
     have h2:Qdf fu (λo i=>Qch fu p l n o i) i (lyA l i) o ((o.length - 1:Nat):Int)=Qch fu p l n (o.set (o.length - 1) (Qs2 s i (lyA l i))) (w64 (i+1)):=Jay e5 (by omega) (by omega) (by omega)
     cases decide (s.fH+(lyA l i).fH≤p.fH)
     · exact h1
     · cases decide (s.fQ+(lyA l i).fQ≤p.fQ)
       · exact h1
       · exact h2
 · intro n o i hd _
   simp only [Qch.eq_2]
   unfold Qjx
   rw [hd,cond_false]; rfl
theorem Q8p {fu:Nat} (hfu:2097153≤fu) (p:Pallet) (l:List Box) (hl:l.length<20):Qly fu p l=some (spM p l):=by
 unfold Qly spM
 rw [Qua fu p l (by omega) (by omega),Qab,Jah]
 cases hb:Qyu p l
 · rfl
 · obtain ⟨a1,a2,a3⟩:=Q1t hb
   have hS:=Q69 hb
   obtain ⟨y1,y2,y3⟩:=Q1e hS
   have hY:=Q6o hS
   obtain ⟨d1,d2,d3⟩:=Q3l hY
   have hpb:=Q0q hb
   obtain ⟨q1,q2,q3,q4⟩:=Qwg hpb
   rw [Bool.not_true,cond_false,cond_true,Q7y hfu p l hl,Qab,Q86 hfu hpb hS (by omega),Qab,Q6x (by omega),Qab,Jct hfu hpb hY (by omega),Qab]
   have f1:∀ s∈shM p l,s.f0.length≤1000:=λs hs=>by
    have:=Qq0 (λs:Shelf=>s.f0) _ s hs
    rw [a2,Qsj] at this; omega
   have f2:∀ s∈lyM p (shM p l),s.fP.length≤1000:=λs hs=>by
    have:=Qq0 (λs:Layer=>s.fP) _ s hs
    rw [y2,Qcn] at this; omega
   have f3:∀ s∈ldM p (lyM p (shM p l)),s.fK.length≤1000:=λs hs=>by
    have:=Qq0 (λs:Load=>s.fK) _ s hs
    rw [d2,Qcn] at this; omega
   generalize ldM p (lyM p (shM p l))=ld at d1 d3 f3 ⊢
   generalize lyM p (shM p l)=ly at y1 y3 hY d1 d3 f2 ⊢
   generalize shM p l=sh at a1 a3 hS y1 y3 f1 ⊢
   have L4:=Q5o (ld.length:Int) (λn (out:List Spot) o=>Qbp fu l sh ly ld n out o) (λos out=>some (spO l sh ly ld os out)) (λos out=>out.length=l.length) (by omega) ?_ ?_ ld.length fu (List.replicate l.length zSp) 0 (by omega) (by omega) (by omega) (by simp)
   · exact L4
   · intro n out o os o0 o1 hd hI ih
     obtain ⟨x,hx⟩:=Q3o (l:=ld) o0 o1
     have ex:ldA ld o=x:=by unfold ldA; rw [hx]; rfl
     have hxm:=d1 x (Qmc hx)
     have hxl:=f3 x (Qmc hx)
     simp only [Qbp.eq_2]
     unfold Qj6
     rw [hd,cond_true,hx,Qab]
     have L3:=lpI x.fK (λm (s:List Spot×Int) i=>Qcg fu (Qbp fu l sh ly ld n) l sh ly o x m s.1 s.2 i) (λis s=>Qbp fu l sh ly ld n (spY l sh ly o is s).1 (w64 (o+1))) (λis s=>s.1.length=l.length∧(∀ i∈is,0≤i∧i<ly.length)∧0≤s.2∧s.2+2000*is.length≤2000000) (by omega) ?_ ?_ fu (out,0) ⟨hI,hxm.inn,by simp,by simp; omega⟩ (by omega)
     · refine L3.trans ?_
       rw [ih _ (by rw [Q1r]; exact hI)]
       simp only [spO,List.foldl_cons,ex]
     · intro m ⟨out,z⟩ i j is hj hd hI ih
       obtain ⟨i1,i2,i3,i4⟩:out.length=l.length∧(∀ i∈j::is,0≤i∧i<ly.length)∧0≤z∧z+2000*((j::is).length:Int)≤2000000:=hI
       simp only [List.length_cons] at i4
       obtain ⟨hly,t1,t2,t3,hmem⟩:=Q2d hY (i2 j (by simp))
       have hyi:=y1 _ hmem
       have hyl:=f2 _ hmem
       simp only [Qcg.eq_2]
       unfold Qkl
       rw [hd,cond_true,hj,Qab,hly,Qab]
       have L2:=lpI (lyA ly j).fP (λq (s:List Spot×Int) k=>Qdg fu (Qcg fu (Qbp fu l sh ly ld n) l sh ly o x m) l sh ly o z i j (lyA ly j) q s.1 s.2 k) (λks s=>Qcg fu (Qbp fu l sh ly ld n) l sh ly o x m (spS l sh o z ks s).1 (w64 (z+(lyA ly j).fH)) (w64 (i+1))) (λks s=>s.1.length=l.length∧(∀ i∈ks,0≤i∧i<sh.length)∧0≤s.2∧s.2+2000*ks.length≤2000000) (by omega) ?_ ?_ fu (out,0) ⟨i1,hyi.inn,by simp,by simp; omega⟩ (by omega)
       · refine L2.trans ?_
         rw [Qa1 (n:=z+_) (by omega) (by omega)]
         exact ih ((spS l sh o z (lyA ly j).fP (out,0)).1,z+(lyA ly j).fH) ⟨by rw [Q03]; exact i1,λi hi=>i2 i (by simp [hi]),by simp; omega,by simp; omega⟩
       · intro q ⟨out,y⟩ k b ks hb2 hd hI ih
         obtain ⟨i1,i2,i3,i4⟩:out.length=l.length∧(∀ i∈b::ks,0≤i∧i<sh.length)∧0≤y∧y+2000*((b::ks).length:Int)≤2000000:=hI
         simp only [List.length_cons] at i4
         obtain ⟨hsh,u1,u2,u3,hmem2⟩:=Q2o hS (i2 b (by simp))
         have hsi:=a1 _ hmem2
         have hsl:=f1 _ hmem2
         simp only [Qdg.eq_2]
         unfold Qld
         rw [hd,cond_true,hb2,Qab,hsh,Qab]
         have L1:=lpI (shA sh b).f0 (λq' (s:List Spot×Int) k'=>Qgc fu (Qdg fu (Qcg fu (Qbp fu l sh ly ld n) l sh ly o x m) l sh ly o z i j (lyA ly j) q) l sh o z y k b (shA sh b) q' s.1 s.2 k') (λbs s=>Qdg fu (Qcg fu (Qbp fu l sh ly ld n) l sh ly o x m) l sh ly o z i j (lyA ly j) q (spB l o y z bs s).1 (w64 (y+(shA sh b).fD)) (w64 (k+1))) (λbs s=>s.1.length=l.length∧(∀ i∈bs,0≤i∧i<l.length)∧0≤s.2∧s.2+2000*bs.length≤2000000) (by omega) ?_ ?_ fu (out,0) ⟨i1,hsi.inn,by simp,by simp; omega⟩ (by omega)
         · refine L1.trans ?_
           rw [Qa1 (n:=y+_) (by omega) (by omega)]
           exact ih ((spB l o y z (shA sh b).f0 (out,0)).1,y+(shA sh b).fD) ⟨by rw [Q1b]; exact i1,λi hi=>i2 i (by simp [hi]),by simp; omega,by simp; omega⟩
         · intro q' ⟨out,x'⟩ k' c bs hc hd hI ih
           obtain ⟨i1,i2,i3,i4⟩:out.length=l.length∧(∀ i∈c::bs,0≤i∧i<l.length)∧0≤x'∧x'+2000*((c::bs).length:Int)≤2000000:=hI
           simp only [List.length_cons] at i4
           have hcr:=i2 c (by simp)
           obtain ⟨hbx,v1,v2,v3,v4⟩:=Q2e hb hcr
           obtain ⟨sp,hsp⟩:=Q3o (l:=out) hcr.1 (by omega)
           simp only [Qgc.eq_2]
           unfold Qkd
           rw [hd,cond_true,hc,Qab,hsp,Qab,hbx,Qab,Qa1 (n:=x'+_) (by omega) (by omega)]
           exact ih (Qhn out c ⟨o,x',y,z⟩,x'+(bxA l c).fW) ⟨by rw [Qx2]; exact i1,λi hi=>i2 i (by simp [hi]),by simp; omega,by simp; omega⟩
         · intro q' ⟨out,x'⟩ k' hd _
           simp only [Qgc.eq_2]
           unfold Qkd
           rw [hd,cond_false,hsh,Qab]; rfl
       · intro q ⟨out,y⟩ k hd _
         simp only [Qdg.eq_2]
         unfold Qld
         rw [hd,cond_false,hly,Qab]; rfl
     · intro m ⟨out,z⟩ i hd _
       simp only [Qcg.eq_2]
       unfold Qkl
       rw [hd,cond_false]; rfl
   · intro n out o hd _
     simp only [Qbp.eq_2]
     unfold Qj6
     rw [hd,cond_false]; rfl
theorem Jcb {r:Request} {k:Int} (h:0≤k∧k<(Qnu r).length):(Qxg r k).length≤12:=by
 rw [Q5f h,List.length_map]
 exact Q4f k
theorem Jfu {fu:Nat} {r:Request} (h:Sm fu r):Qp1 fu r=some (Q6q r):=by
 have hfu:=h.fu
 have hg:=(Qtk r).1
 have hcl:=Qxf r
 unfold Qp1 Q6q
 rw [Qt0 h,Qab]
 cases hc:Qht r==0
 · rfl
 · have hz:Qht r=0:=by simpa using hc
   rw [Bool.not_true,cond_false,cond_true,Jhs h,Qab,Jbd h,Qab]
   have L3:=Q5o ((Qnu r).length:Int) (λn (s:List Spot×Int) k=>Qci fu r (Quv r) (Qnu r) n s.1 s.2 k) (λks s=>some ((⟨Quv r,(ks.foldl (plS r) s).1⟩:Plan),true)) (λks s=>(∀ k∈ks,0≤k∧k<(Qnu r).length)∧s.1.length+48*ks.length≤1000∧0≤s.2∧s.2+1000000*ks.length≤10000000) (by omega) ?_ ?_ (Qnu r).length fu ([],0) 0 (by omega) (by omega) (by omega) ⟨λk hk=>by have:=Qie.1 hk; omega,by simp [Qcn]; omega,by simp,by simp [Qcn]; omega⟩
   · exact L3
   · intro n ⟨sp,base⟩ k ks k0 k1 hd hI ih
     obtain ⟨i1,i2,i3,i4⟩:(∀ j∈k::ks,0≤j∧j<(Qnu r).length)∧sp.length+48*(k::ks).length≤1000∧0≤base∧base+1000000*((k::ks).length:Int)≤10000000:=hI
     simp only [List.length_cons] at i2 i4
     simp only [Qci.eq_2]
     unfold Qma
     rw [hd,cond_true]
     have L2:=lpI (Quv r) (λm (bs:List Box) i=>Qf4 fu (Qci fu r (Quv r) (Qnu r) n) r (Quv r) sp base k m bs i) (λcs bs=>Qac (Qly fu r.fJ (bs++(cs.filter λc=>c.fa==k).map (Q48 r))) λx=>Qac (Qlx fu x) λy=>Qfy fu (Qci fu r (Quv r) (Qnu r) n) base k x y fu sp 0) (λcs bs=>bs.length+cs.length≤48∧∀ c∈cs,c.f9.length≤12) (by omega) ?_ ?_ fu [] ⟨by simpa using hcl,λc hc=>Qxv hc⟩ (by omega)
     · refine L2.trans ?_
       have hbl:=Q57 r k
       have hbf:=Jcb (r:=r) (k:=k) ⟨k0,k1⟩
       rw [List.nil_append,show ((Quv r).filter λc=>c.fa==k).map (Q48 r)=Qxg r k from rfl,Q8p hfu _ _ (by omega),Qab]
       have hsl:=Q3d (Q79 hz ⟨k0,k1⟩)
       have hpb:=Q7d (spM r.fJ (Qxg r k))
       have hps:∀ s∈spM r.fJ (Qxg r k),s∈spM r.fJ (Qxg r k):=λ_ h=>h
       have ih':=ih (plS r (sp,base) k) ⟨λj hj=>i1 j (by simp [hj]),by simp [plS]; omega,by simp [plS]; omega,by simp [plS]; omega⟩
       rw [List.foldl_cons,← ih']
       have hS:=Jeg (fu:=fu) (l:=spM r.fJ (Qxg r k)) (by omega) (by omega)
       have hwf:∀ s∈spM r.fJ (Qxg r k),w64 (s.fJ+base)=s.fJ+base:=by
        intro s hs
        have:=Ja7 (p:=r.fJ) (l:=Qxg r k) (by omega) s hs
        exact Qa1 (by omega) (by omega)
       generalize hSP:spM r.fJ (Qxg r k)=S at hsl hpb hS hwf ⊢
       rw [hS,Qab]
       have L1:=lpI S (λm (o:List Spot) i=>Qfy fu (Qci fu r (Quv r) (Qnu r) n) base k S (Jap S) m o i) (λxs o=>Qci fu r (Quv r) (Qnu r) n (o++xs.map (λt=>⟨t.fJ+base,t.fX,t.fY,t.fZ⟩)) (base+Jap S) (w64 (k+1))) (λxs o=>o.length+xs.length≤1000∧∀ s∈xs,w64 (s.fJ+base)=s.fJ+base) (by omega) ?_ ?_ fu sp ⟨by omega,hwf⟩ (by omega)
       · refine L1.trans ?_
         simp only [plS,hSP]
       · intro m o i x xs hx hd hI ih
         obtain ⟨j1,j2⟩:=hI
         simp only [List.length_cons] at j1
         simp only [Qfy.eq_2]
         unfold Qmv
         rw [hd,cond_true,hx,Qab,j2 x (by simp),ap1 (by simp; omega),Qab,ih _ ⟨by simp; omega,λs hs=>j2 s (by simp [hs])⟩]
         simp
       · intro m o i hd hI
         simp only [Qfy.eq_2]
         unfold Qmv
         rw [hd,cond_false,Qa1 (n:=base+_) (by omega) (by omega)]
         simp
     · intro m bs i c cs hx hd hI ih
       obtain ⟨j1,j2⟩:=hI
       simp only [List.length_cons] at j1
       have hcu:=j2 c (by simp)
       simp only [Qf4.eq_2]
       unfold Qmm Qlq
       rw [hd,cond_true,hx,Qab,Jeq h c (by omega),Qab,ap1 (by simp; omega),Qab,ih _ ⟨by simp; omega,λc hc=>j2 c (by simp [hc])⟩,ih _ ⟨by omega,λc hc=>j2 c (by simp [hc])⟩,List.filter_cons]
       cases c.fa==k <;> simp
     · intro m bs i hd _
       simp only [Qf4.eq_2]
       unfold Qmm
       rw [hd,cond_false]; simp
   · intro n ⟨sp,base⟩ k hd _
     simp only [Qci.eq_2]
     unfold Qma
     rw [hd,cond_false]; rfl
theorem Jaq (r:Request):Sp (Q6q r).1:=by
 obtain ⟨l1,l2,l3⟩:=Jb6 r
 refine ⟨by omega,λc hc=>by have:=l3 c hc; omega,?_,by omega⟩
 have key:∀ l:List Carton,(∀ c∈l,c.f9.length≤12)→Q60 l≤12*l.length:=by
  intro l
  induction l with
  | nil=>intro _; simp [Q60]
  | cons c l ih =>
   intro h
   have h1:=ih λd hd=>h d (by simp [hd])
   have h2:=h c (by simp)
   simp only [Q60,List.length_cons]
   omega
 have:=key _ l3
 omega
def Quu (n:Int):ByteArray:=⟨(Lib.itoa n).toArray⟩
theorem Qyi {n:Int} (h:0≤n∧n≤999999):(Quu n).size≤21:=by
 have:=Lib.itoa_length_le n (by omega) (by omega)
 unfold Quu ByteArray.size
 simpa using this
theorem Qs5 {x y:ByteArray} (h:x.size+y.size≤1000000000):Qyv x y=some (x++y):=by
 unfold Qyv
 rw [if_pos (by omega)]
theorem Q1j (fu:Nat) {n:Int} (h:0≤n∧n≤999999):Qnw fu n=some (Quu n):=by
 unfold Qnw Qsh Q91
 rw [if_pos (by omega)]; rfl
theorem Jf9 {n:Int} (h:0≤n∧n≤255):w8 n=n:=by
 unfold w8
 simp only [IntKind.wrap_u8]
 omega
theorem Q9z {n:Int} (h:0≤n∧n≤255):Jet [(⟨n⟩:U8)]=some ⟨[UInt8.ofNat n.toNat].toArray⟩:=by
 unfold Jet
 rw [if_pos (λb hb=>by rw [List.mem_singleton.1 hb]; exact h)]
 rfl
theorem Q9m {u:Nat} (out:ByteArray):(⟨[UInt8.ofNat (48+u % 10)].toArray⟩:ByteArray)++out=⟨([UInt8.ofNat (48+u % 10)]++out.data.toList).toArray⟩:=by
 apply ByteArray.ext
 rw [ByteArray.data_append]
 apply Array.ext'
 simp
theorem Jej {fu:Nat} {n1:Int} (h1:0≤n1):∀ (u:Nat) (k:Nat) (out:ByteArray),u≤999999→u+2≤k→out.size+u≤2000000→0<u→Qf3 fu n1 k (u:Int) out=some ⟨(Lib.decDigits u++out.data.toList).toArray⟩:=by
 intro u
 induction u using Nat.strongRecOn with
 | _ u ih =>
  intro k out hu hk ho h0
  obtain ⟨k,rfl⟩:∃ j,k=j+1:=⟨k - 1,by omega⟩
  have em:Int.tmod (u:Int) 10=((u % 10:Nat):Int):=by
   rw [Int.tmod_eq_emod_of_nonneg (by omega)]; omega
  have ed:w64 (Int.tdiv (u:Int) 10)=((u / 10:Nat):Int):=by
   rw [Int.tdiv_eq_ediv_of_nonneg (by omega),Qa1 (by omega) (by omega)]; omega
  rw [Qf3.eq_2]
  unfold Qmq Qlp
  rw [Qa0 (bne_iff_ne.2 (by omega)),em,Qam (decide_eq_false (by omega)),Qa1 (n:=48+_) (by omega) (by omega),Jf9 (by omega),Q9z (by omega),Qab,show ((48:Int)+((u % 10:Nat):Int)).toNat=48+u % 10 by omega]
  have hs1:(⟨[UInt8.ofNat (48+u % 10)].toArray⟩:ByteArray).size=1:=rfl
  rw [Qs5 (by rw [hs1]; omega),Qab,ed,Q9m]
  by_cases hlt:u<10
  · have e0:u / 10=0:=by omega
    rw [e0]
    obtain ⟨k,rfl⟩:∃ j,k=j+1:=⟨k - 1,by omega⟩
    rw [Qf3.eq_2]
    unfold Qmq
    rw [Qam (by decide),Qam (decide_eq_false (by omega)),Lib.decDigits,dif_pos hlt,Nat.mod_eq_of_lt hlt]
  · have:=ih (u / 10) (by omega) k (⟨([UInt8.ofNat (48+u % 10)]++out.data.toList).toArray⟩:ByteArray) (by omega) (by omega) (by
      show ([UInt8.ofNat (48+u % 10)]++out.data.toList).toArray.size+_≤_
      have e:out.data.toList.length=out.size:=Array.length_toList
      simp only [List.size_toArray,List.length_append,List.length_singleton,e]
      omega) (by omega)
    rw [this]
    conv=>rhs; rw [Lib.decDigits,dif_neg hlt]
    simp
theorem Q5e {fu:Nat} (hfu:2097153≤fu) {n:Int} (h:0≤n∧n≤999999):Qlb fu n=some (Quu n):=by
 unfold Qlb Quu
 by_cases h0:n=0
 · subst h0
   rw [Qa0 (by simp)]
   have:Lib.itoa 0=[48]:=by
    unfold Lib.itoa
    rw [if_neg (by omega),Lib.decDigits,dif_pos (by decide)]; rfl
   rw [this]
 · rw [Qam (by simpa using h0)]
   obtain ⟨u,rfl⟩:∃ u:Nat,n=u:=⟨n.toNat,by omega⟩
   have:=Jej (fu:=fu) (n1:=(u:Int)) (by omega) u fu ⟨#[]⟩ (by omega) (by omega) (by
    show 0+u≤_
    omega) (by omega)
   rw [this]
   have e:Lib.itoa (u:Int)=Lib.decDigits u:=by
    unfold Lib.itoa
    rw [if_neg (by omega),Int.toNat_natCast]
   rw [e]; simp
def sp1:ByteArray:=⟨#[32]⟩
def nl1:ByteArray:=⟨#[10]⟩
def Qwo (o:ByteArray) (l:List Int):ByteArray:=l.foldl (λo n=>o++(sp1++Quu n)) o
theorem Q2b:∀ (l:List Int) (o:ByteArray),(∀ n∈l,0≤n∧n≤999999)→(Qwo o l).size≤o.size+22*l.length
 | [],o,_=>by simp [Qwo]
 | n::l,o,h=>by
  have h1:=Qyi (h n (by simp))
  have h2:=Q2b l (o++(sp1++Quu n)) λm hm=>h m (by simp [hm])
  have e:(o++(sp1++Quu n)).size=o.size+(1+(Quu n).size):=by
   rw [ByteArray.size_append,ByteArray.size_append]; rfl
  rw [e] at h2
  show (Qwo (o++(sp1++Quu n)) l).size≤_
  simp only [List.length_cons]
  omega
theorem Jey {fu:Nat} {l:List Int} (o:ByteArray) (hl:l.length≤1000) (hf:l.length<fu) (ho:o.size≤1000000) (h:∀ n∈l,0≤n∧n≤999999):Qi8 fu o l=some (Qwo o l++nl1,true):=by
 unfold Qi8
 have key:=lpI l (λn (o:ByteArray) i=>Qek fu l n o i) (λxs o=>some (Qwo o xs++nl1,true)) (λxs o=>(∀ n∈xs,0≤n∧n≤999999)∧o.size+22*xs.length≤2000000) (by omega) ?_ ?_ fu o ⟨h,by omega⟩ (by omega)
 · exact key
 · intro n o i x xs hx hd hI ih
   obtain ⟨i1,i2⟩:=hI
   simp only [List.length_cons] at i2
   have hxb:=i1 x (by simp)
   have hs:=Qyi hxb
   have e:(o++(sp1++Quu x)).size=o.size+(1+(Quu x).size):=by
    rw [ByteArray.size_append,ByteArray.size_append]; rfl
   have hsz:sp1.size=1:=rfl
   simp only [Qek.eq_2]
   unfold Qiq
   rw [hd,cond_true,hx,Qab,Q0g,Qab,show inb x 0 999999=true from Qdx.2 hxb,Bool.not_true,cond_false,Q1j fu hxb,Qab]
   show (Qac (Qyv sp1 (Quu x)) λsv58=>Qac (Qyv o sv58) λsv60=>Qek fu l n sv60 (w64 (i+1)))=_
   rw [Qs5 (by omega),Qab,Qs5 (by rw [ByteArray.size_append,hsz]; omega),Qab,ih _ ⟨λm hm=>i1 m (by simp [hm]),by omega⟩]
   rfl
 · intro n o i hd hI
   have i2:=hI.2
   simp only [Qek.eq_2]
   unfold Qiq
   rw [hd,cond_false]
   show (Qac (Qyv o nl1) λsv62=>some (sv62,true))=_
   rw [Qs5 (by rw [show nl1.size=1 from rfl]; simp at i2; omega)]
   rfl
def Q5q:ByteArray:=⟨#[99,97,114,116,111,110]⟩
def Qrt (c:Carton) (s:Spot):List Int:=[c.fe,c.fa,s.fJ,s.fX,s.fY,s.fZ]++c.f9
theorem Jar:∀ (l pre:List Int),Q84 pre l=true→∀ n∈l,0≤n∧n≤999
 | [],_,_,n,hn=>by simp at hn
 | x::l,pre,h,n,hn=>by
  unfold Q84 at h
  simp only [Bool.and_eq_true,Qdx] at h
  rcases List.mem_cons.1 hn with rfl | hn
  · exact h.1
  · exact Jar l _ h.2.2 n hn
theorem Q6a {c:Carton} {s:Spot} (hc:Q94 c=true) (hs:Jbw s=true):(∀ n∈Qrt c s,0≤n∧n≤999999)∧(Qrt c s).length≤106:=by
 unfold Q94 Jdp at hc
 unfold Jbw at hs
 simp only [Bool.and_eq_true,Qdx,decide_eq_true_eq] at hc hs
 obtain ⟨h1,h2,h3,h4⟩:=hc
 refine ⟨λn hn=>?_,by simp [Qrt]; omega⟩
 unfold Qrt at hn
 rcases List.mem_append.1 hn with hn | hn
 · simp only [List.mem_cons,List.not_mem_nil,or_false] at hn
   omega
 · have:=Jar _ _ h3 n hn
   omega
theorem Jd6 {fu:Nat} (hfu:2097153≤fu) {c:Carton} {s:Spot} (h:(∀ n∈Qrt c s,0≤n∧n≤999999)∧(Qrt c s).length≤106):Qo3 fu c s=some (Qwo Q5q (Qrt c s)):=by
 obtain ⟨h1,h2⟩:=h
 unfold Qo3
 have hlen:[c.fe,c.fa,s.fJ,s.fX,s.fY,s.fZ].length+c.f9.length≤106:=by
  have:=h2
  unfold Qrt at this
  rwa [List.length_append] at this
 rw [ap1 (by omega),Qab]
 show Qd6 fu (Qrt c s) fu Q5q 0=_
 generalize Qrt c s=l at h1 h2
 refine lpI l (λn (o:ByteArray) i=>Qd6 fu l n o i) (λxs o=>some (Qwo o xs)) (λxs o=>(∀ n∈xs,0≤n∧n≤999999)∧o.size+22*xs.length≤2000000) (by omega) ?_ ?_ fu Q5q ⟨h1,by rw [show Q5q.size=6 from rfl]; omega⟩ (by omega)
 · intro n o i x xs hx hd hI ih
   obtain ⟨i1,i2⟩:=hI
   simp only [List.length_cons] at i2
   have hxb:=i1 x (by simp)
   have hs:=Qyi hxb
   have e:(o++(sp1++Quu x)).size=o.size+(1+(Quu x).size):=by
    rw [ByteArray.size_append,ByteArray.size_append]; rfl
   have hsz:sp1.size=1:=rfl
   simp only [Qd6.eq_2]
   unfold Qkf
   rw [hd,cond_true]
   show (Qac (Qyv o sp1) λsv56=>Qac (ix l i) λx58=>Qac (Qlb fu x58) λx60=>Qac (Qyv sv56 x60) λsv64=>Qd6 fu l n sv64 (w64 (i+1)))=_
   rw [Qs5 (by omega),Qab,hx,Qab,Q5e hfu hxb,Qab,Qs5 (by rw [ByteArray.size_append,hsz]; omega),Qab,ByteArray.append_assoc,ih _ ⟨λm hm=>i1 m (by simp [hm]),by omega⟩]
   rfl
 · intro n o i hd _
   simp only [Qd6.eq_2]
   unfold Qkf
   rw [hd,cond_false]; rfl
def Jhi (o:ByteArray) (p:Carton×Spot):ByteArray:=o++(Qwo Q5q (Qrt p.1 p.2)++nl1)
def Jdu (x:Plan):ByteArray:=bif Q93 x then (x.fE.zip x.fc).foldl Jhi ⟨#[]⟩ else ⟨#[]⟩
theorem Q6f {c:Carton} {s:Spot} (h:(∀ n∈Qrt c s,0≤n∧n≤999999)∧(Qrt c s).length≤106):(Qwo Q5q (Qrt c s)).size≤2400∧(Qwo Q5q (Qrt c s)++nl1).size≤2401:=by
 have:=Q2b (Qrt c s) Q5q h.1
 rw [show Q5q.size=6 from rfl] at this
 refine ⟨by omega,?_⟩
 rw [ByteArray.size_append,show nl1.size=1 from rfl]
 omega
theorem Jec {fu:Nat} {x:Plan} (h:Sp x) (hf:2097153≤fu):Qng fu x=some (Jdu x):=by
 unfold Qng Jdu
 rw [Jgu h (by omega),Qab]
 cases hp:Q93 x
 · rfl
 · rw [Bool.not_true,cond_false,cond_true]
   have hpp:=hp
   unfold Q93 at hpp
   simp only [Bool.and_eq_true,decide_eq_true_eq,beq_iff_eq] at hpp
   obtain ⟨p1,p2,p3⟩:=hpp
   have hz:(x.fE.zip x.fc).length=x.fE.length:=by simp; omega
   have key:=Jcw (x.fE.zip x.fc) (λn (o:ByteArray) i=>Qdq fu x n o i) (λ_ xs o=>some (xs.foldl Jhi o)) (λ_ xs o=>(∀ p∈xs,(∀ n∈Qrt p.1 p.2,0≤n∧n≤999999)∧(Qrt p.1 p.2).length≤106)∧o.size+2401*xs.length≤1000000) (by omega) ?_ ?_ fu ⟨#[]⟩ ⟨λp hp=>by
    have:=List.all_eq_true.1 p3 p hp
    rw [Bool.and_eq_true] at this
    exact Q6a this.1 this.2,by rw [hz]; show 0+_≤_; omega⟩ (by omega)
   · exact key
   · intro n o pre p xs e hq hd hI ih
     obtain ⟨i1,i2⟩:=hI
     simp only [List.length_cons] at i2
     obtain ⟨e1,e2⟩:=Q5g hq
     rw [hz] at hd
     have hn:=i1 p (by simp)
     have hsz:=Q6f hn
     have hlen:[p.1.fe,p.1.fa,p.2.fJ,p.2.fX,p.2.fY,p.2.fZ].length+p.1.f9.length≤106:=by
      have:=hn.2
      unfold Qrt at this
      rwa [List.length_append] at this
     simp only [Qdq.eq_2]
     unfold Qio
     rw [hd,cond_true,e1,Qab,e2,Qab,ap1 (by omega),Qab]
     show (Qac (Qi8 fu Q5q (Qrt p.1 p.2)) λx141=>Qac (Qyv o x141.1) λsv145=>Qdq fu x n sv145 (w64 ((pre.length:Int)+1)))=_
     rw [Jey Q5q (by omega) (by omega) (by decide) hn.1,Qab]
     show (Qac (Qyv o (Qwo Q5q (Qrt p.1 p.2)++nl1)) λsv145=>Qdq fu x n sv145 (w64 ((pre.length:Int)+1)))=_
     rw [Qs5 (by omega),Qab]
     exact ih _ ⟨λq hq=>i1 q (by simp [hq]),by rw [ByteArray.size_append]; omega⟩
   · intro n o hd _
     rw [hz] at hd ⊢
     simp only [Qdq.eq_2]
     unfold Qio
     rw [hd,cond_false]; rfl
theorem Jfa {fu:Nat} {x:Plan} (h:Sp x) (hf:2097153≤fu):Qnb fu x=some (Jdu x):=by
 unfold Qnb Jdu
 rw [Jgc h (by omega),Qab]
 cases hp:Q93 x
 · rfl
 · rw [Bool.not_true,cond_false,cond_true]
   have hpp:=hp
   unfold Q93 at hpp
   simp only [Bool.and_eq_true,decide_eq_true_eq,beq_iff_eq] at hpp
   obtain ⟨p1,p2,p3⟩:=hpp
   have hz:(x.fE.zip x.fc).length=x.fE.length:=by simp; omega
   have key:=Jcw (x.fE.zip x.fc) (λn (o:ByteArray) i=>Qeg fu x n o i) (λ_ xs o=>some (xs.foldl Jhi o)) (λ_ xs o=>(∀ p∈xs,(∀ n∈Qrt p.1 p.2,0≤n∧n≤999999)∧(Qrt p.1 p.2).length≤106)∧o.size+2401*xs.length≤1000000) (by omega) ?_ ?_ fu ⟨#[]⟩ ⟨λp hp=>by
    have:=List.all_eq_true.1 p3 p hp
    rw [Bool.and_eq_true] at this
    exact Q6a this.1 this.2,by rw [hz]; show 0+_≤_; omega⟩ (by omega)
   · exact key
   · intro n o pre p xs e hq hd hI ih
     obtain ⟨i1,i2⟩:=hI
     simp only [List.length_cons] at i2
     obtain ⟨e1,e2⟩:=Q5g hq
     rw [hz] at hd
     have hn:=i1 p (by simp)
     have hsz:=Q6f hn
     simp only [Qeg.eq_2]
     unfold Qi1
     rw [hd,cond_true,e1,Qab,e2,Qab,Jd6 hf hn,Qab,Qs5 (by omega),Qab]
     show (Qac (Qyv (o++Qwo Q5q (Qrt p.1 p.2)) nl1) λsv91=>Qeg fu x n sv91 (w64 ((pre.length:Int)+1)))=_
     rw [Qs5 (by rw [ByteArray.size_append,show nl1.size=1 from rfl]; omega),Qab,ByteArray.append_assoc]
     exact ih _ ⟨λq hq=>i1 q (by simp [hq]),by rw [ByteArray.size_append]; omega⟩
   · intro n o hd _
     rw [hz] at hd ⊢
     simp only [Qeg.eq_2]
     unfold Qi1
     rw [hd,cond_false]; rfl
theorem Jc0 (b:ByteArray):∀ (m i:Nat) (r:List UInt8),b.size - i=m→ByteArray.toList.loop b i r=r.reverse++b.data.toList.drop i:=by
 intro m
 induction m with
 | zero =>
  intro i r h
  rw [ByteArray.toList.loop,if_neg (by omega)]
  have:b.data.toList.length≤i:=by have:b.size=b.data.size:=rfl; simp; omega
  rw [List.drop_of_length_le this]; simp
 | succ m ih =>
  intro i r h
  rw [ByteArray.toList.loop,if_pos (by omega),ih (i+1) _ (by omega)]
  have hs:b.size=b.data.size:=rfl
  have hi:i<b.data.toList.length:=by simp; omega
  rw [List.drop_eq_getElem_cons hi]
  have:b.get! i=b.data.toList[i]:=by
   unfold ByteArray.get!
   simp [Array.getElem!_eq_getD,Array.getD]
   rw [dif_pos (by omega)]
  rw [this]; simp
theorem Q8f (b:ByteArray):b.toList=b.data.toList:=by
 unfold ByteArray.toList
 rw [Jc0 b _ 0 [] rfl]; simp
theorem Qwz (a b:ByteArray):(a.toList==b.toList)=decide (a=b):=by
 rw [Q8f,Q8f]
 by_cases h:a=b
 · subst h; simp
 · rw [decide_eq_false h]
   have:a.data.toList≠b.data.toList:=λe=>h (ByteArray.ext (Array.ext' e))
   simpa using this
theorem Jex:∀ (u:Nat),∀ b∈Lib.decDigits u,48≤b.toNat∧b.toNat≤57:=by
 intro u
 induction u using Nat.strongRecOn with
 | _ u ih =>
  intro b hb
  have one:∀ d:Nat,d<10→48≤(UInt8.ofNat (48+d)).toNat∧(UInt8.ofNat (48+d)).toNat≤57:=λd hd=>by
   rw [UInt8.toNat_ofNat']; omega
  rw [Lib.decDigits] at hb
  split at hb
  · rename_i h
    rw [List.mem_singleton.1 hb]
    exact one u h
  · rename_i h
    rcases List.mem_append.1 hb with hb | hb
    · exact ih (u / 10) (by omega) b hb
    · rw [List.mem_singleton.1 hb]
      exact one _ (by omega)
theorem Qyq:∀ (l r:List UInt8) (acc:Nat),Lib.decFrom acc (l++r)=(Lib.decFrom acc l).bind λn=>Lib.decFrom n r
 | [],r,acc=>rfl
 | b::l,r,acc=>by
  simp only [List.cons_append,Lib.decFrom]
  cases Lib.digitVal b with
  | none=>rfl
  | some d=>exact Qyq l r _
theorem Jaw:∀ (u:Nat),Lib.decFrom 0 (Lib.decDigits u)=some u:=by
 intro u
 induction u using Nat.strongRecOn with
 | _ u ih =>
  have one:∀ d:Nat,d<10→Lib.digitVal (UInt8.ofNat (48+d))=some d:=λd hd=>by
   unfold Lib.digitVal
   have:(UInt8.ofNat (48+d)).toNat=48+d:=by rw [UInt8.toNat_ofNat']; omega
   rw [this,if_pos (by omega)]
   congr 1; omega
  rw [Lib.decDigits]
  split
  · rename_i h
    simp only [Lib.decFrom,one u h]
    congr 1; omega
  · rename_i h
    rw [Qyq,ih (u / 10) (by omega)]
    simp only [Option.bind_some,Lib.decFrom,one (u % 10) (by omega)]
    congr 1; omega
theorem Q68:∀ (k u:Nat),u<10 ^ (k+1)→1≤(Lib.decDigits u).length∧(Lib.decDigits u).length≤k+1
 | 0,u,h=>by
  rw [Lib.decDigits,dif_pos (by omega)]; simp
 | k+1,u,h=>by
  rw [Lib.decDigits]
  split
  · simp
  · have:=Q68 k (u / 10) (by
      rw [Nat.pow_succ] at h
      omega)
    simp only [List.length_append,List.length_singleton]
    omega
theorem Jcr {u:Nat} (h:u≤999999):Lib.atoiAll (Lib.decDigits u)=.ok (u:Int):=by
 have hl:=Q68 5 u (by omega)
 rw [Lib.atoiAll_short _ (by omega)]
 have hv:=Jaw u
 have hd:=Jex u
 cases hc:Lib.decDigits u with
 | nil=>rw [hc] at hl; simp at hl
 | cons b r =>
  rw [hc] at hv hd
  have hb:=hd b (by simp)
  have n1:¬ (b==45)=true:=λe=>by rw [beq_iff_eq.1 e] at hb; exact absurd hb (by decide)
  have n2:¬ (b==43)=true:=λe=>by rw [beq_iff_eq.1 e] at hb; exact absurd hb (by decide)
  unfold Lib.atoi
  show Lib.NumEnd.ofOption (if (b==45)=true then _ else if (b==43)=true then _ else Option.map _ (Lib.decNat (b::r)))=_
  rw [if_neg n1,if_neg n2]
  unfold Lib.decNat
  rw [if_neg (by simp),hv]
  rfl
theorem Q3x {u:Nat}:Quu (u:Int)=⟨(Lib.decDigits u).toArray⟩:=by
 unfold Quu Lib.itoa
 rw [if_neg (by omega),Int.toNat_natCast]
theorem Jc9 {fu:Nat} {s:ByteArray} (hs:s.size≤1048576):∃ r,Qic fu s=some r∧((∃ u:Nat,u≤999999∧s=Quu u∧r=((u:Int),true))∨((∀ u:Nat,u≤999999→s≠Quu u)∧r=(0,false))):=by
 unfold Qic Qsp Q87 Qpb
 rw [if_pos hs,Qab]
 by_cases he:∃ u:Nat,u≤999999∧s=Quu u
 · obtain ⟨u,hu,rfl⟩:=he
   have e:(Quu (u:Int)).data.toList=Lib.decDigits u:=by rw [Q3x]
   rw [e,Jcr hu]
   simp only [cond_false,Q0g,Qab,show inb (u:Int) 0 999999=true from Qdx.2 (by omega),Bool.not_true]
   rw [Q1j fu (by omega),Qab,Qwz,decide_eq_true rfl]
   exact ⟨_,rfl,.inl ⟨u,hu,rfl,rfl⟩⟩
 · have hne:∀ u:Nat,u≤999999→s≠Quu u:=λu hu e=>he ⟨u,hu,e⟩
   refine ⟨(0,false),?_,.inr ⟨hne,rfl⟩⟩
   cases ha:Lib.atoiAll s.data.toList with
   | «syntax»=>rfl
   | range=>rfl
   | ok v =>
    simp only [cond_false,Q0g,Qab]
    cases hv:inb v 0 999999
    · rfl
    · have hv':=Qdx.1 hv
      rw [Bool.not_true,cond_false,Q1j fu hv',Qab,Qwz,decide_eq_false (λe=>by
       obtain ⟨u,rfl⟩:∃ u:Nat,v=u:=⟨v.toNat,by omega⟩
       exact hne u (by omega) e.symm)]
      rfl
theorem Jc3 {s:ByteArray} {pre l:List UInt8} {b:UInt8} (h:s.data.toList=pre++b::l):sx s (pre.length:Int)=some (b.toNat:Int):=by
 have hl:s.data.toList[pre.length]? = some b:=by rw [h]; simp
 have hs:s.data.toList.length=s.size:=Array.length_toList
 have hi:pre.length<s.size:=by rw [← hs,h]; simp
 unfold sx
 rw [if_pos (by omega),Int.toNat_natCast,getElem?_pos s pre.length hi]
 have e:s[pre.length]=b:=by
  have:s.data.toList[pre.length]? = some s[pre.length]:=by
   rw [Array.getElem?_toList]
   exact Array.getElem?_eq_getElem hi
  rw [hl] at this
  exact (Option.some.inj this).symm
 rw [e]; rfl
theorem Ja6 {s:ByteArray}:∀ (l pre:List UInt8) (n k:Nat),s.data.toList=pre++l→s.size≤6→l.length<k→n<10 ^ pre.length →
    Qes 2097153 s k (n:Int) (pre.length:Int)=match Lib.decFrom n l with | none=>some (0,false) | some m=>bif decide (Quu (m:Int)=s) then some ((m:Int),true) else some (0,false)
 | [],pre,n,k,h,hs,hk,hn=>by
  obtain ⟨k,rfl⟩:∃ j,k=j+1:=⟨k - 1,by omega⟩
  have hsz:s.size=pre.length:=by
   have:s.data.toList.length=s.size:=Array.length_toList
   rw [← this,h]; simp
  have hn6:n<10 ^ 6:=Nat.lt_of_lt_of_le hn (Nat.pow_le_pow_right (by omega) (by omega))
  rw [Qes.eq_2]
  unfold Ql9
  rw [Qam (by simp; omega),Q5e (by omega) (by omega),Qab,Qwz]
  simp only [Lib.decFrom]
  cases decide (Quu (n:Int)=s) <;> rfl
 | b::l,pre,n,k,h,hs,hk,hn=>by
  obtain ⟨k,rfl⟩:∃ j,k=j+1:=⟨k - 1,by omega⟩
  have hsz:s.size=pre.length+(l.length+1):=by
   have:s.data.toList.length=s.size:=Array.length_toList
   rw [← this,h]; simp
  have hp:10 ^ pre.length≤10 ^ 5:=Nat.pow_le_pow_right (by omega) (by omega)
  have hb:b.toNat<256:=b.toNat_lt
  have hx:=Jc3 h
  rw [Qes.eq_2]
  unfold Ql9 Qps Qpo
  rw [Qa0 (by simp; omega)]
  simp only [hx,Qab]
  unfold Lib.decFrom Lib.digitVal
  by_cases h1:b.toNat<48
  · rw [Qa0 (by simp; omega),if_neg (by omega)]
  · rw [Qam (by simp; omega)]
    by_cases h2:b.toNat>57
    · rw [Qa0 (by simp; omega),if_neg (by omega)]
    · rw [Qam (by simp; omega),if_pos (by omega)]
      have e:w64 (w64 (w64 (10*(n:Int))+w64 (b.toNat:Int)) - 48)=((n*10+(b.toNat - 48):Nat):Int):=by
       rw [Qa1 (n:=10*(n:Int)) (by omega) (by omega),Qa1 (n:=(b.toNat:Int)) (by omega) (by omega),Qa1 (n:=_+(b.toNat:Int)) (by omega) (by omega),Qa1 (by omega) (by omega)]
       omega
      have e2:w64 ((pre.length:Int)+1)=(((pre++[b]).length:Nat):Int):=by
       rw [Qa1 (by omega) (by omega)]; simp
      rw [e,e2]
      exact Ja6 l (pre++[b]) _ k (by simp [h]) hs (by simp at hk; omega) (by
       rw [List.length_append,List.length_singleton,Nat.pow_succ]
       omega)
theorem Jgo {s:ByteArray} (hs:s.size≤1048576):Qnx 2097153 s=Qic 2097153 s:=by
 obtain ⟨r,h1,h2⟩:=Jc9 (fu:=2097153) hs
 rw [h1]
 unfold Qnx Qpg
 have hlen:s.data.toList.length=s.size:=Array.length_toList
 have hB:∀ u:Nat,u≤999999→1≤(Quu (u:Int)).size∧(Quu (u:Int)).size≤6:=λu hu=>by
  have:=Q68 5 u (by omega)
  rw [Q3x]
  exact this
 by_cases l1:(s.size:Int)<1
 · rw [Qa0 (by simpa using l1)]
   rcases h2 with ⟨u,hu,rfl,_⟩ | ⟨_,rfl⟩
   · have:=hB u hu; omega
   · rfl
 · rw [Qam (by simpa using l1)]
   by_cases l2:(s.size:Int)>6
   · rw [Qa0 (by simpa using l2)]
     rcases h2 with ⟨u,hu,rfl,_⟩ | ⟨_,rfl⟩
     · have:=hB u hu; omega
     · rfl
   · rw [Qam (by simpa using l2)]
     have:=Ja6 (s:=s) s.data.toList [] 0 2097153 rfl (by omega) (by omega) (by simp)
     rw [show ((([]:List UInt8).length:Nat):Int)=0 from rfl,show (((0:Nat):Nat):Int)=0 from rfl] at this
     rw [this]
     rcases h2 with ⟨u,hu,rfl,rfl⟩ | ⟨hne,rfl⟩
     · have e:(Quu (u:Int)).data.toList=Lib.decDigits u:=by rw [Q3x]
       rw [e,Jaw u]
       simp
     · cases hd:Lib.decFrom 0 s.data.toList with
       | none=>rfl
       | some m =>
        have hm:=Lib.decFrom_lt _ _ _ hd
        have hp:10 ^ s.data.toList.length≤10 ^ 6:=Nat.pow_le_pow_right (by omega) (by omega)
        simp only
        rw [decide_eq_false (λe=>hne m (by omega) e.symm)]
        rfl
def ofL (l:List UInt8):ByteArray:=⟨l.toArray⟩
theorem Qu2 (s:ByteArray):s.data.toList.length=s.size:=Array.length_toList
def cut (b:UInt8):List UInt8→List UInt8×List (List UInt8)
 | []=>([],[])
 | c::l=>if c=b then ([],(cut b l).1::(cut b l).2) else (c::(cut b l).1,(cut b l).2)
def pts (b:UInt8) (l:List UInt8):List (List UInt8):=(cut b l).1::(cut b l).2
def Qsb (b:UInt8) (s:ByteArray):List ByteArray:=(pts b s.data.toList).map ofL
theorem Q7u (b:UInt8) (r:List UInt8):cut b (b::r)=([],(cut b r).1::(cut b r).2):=by rw [cut,if_pos rfl]
theorem Q8q (b:UInt8):∀ (l:List UInt8),(cut b l).2.length≤l.length
 | []=>Nat.le_refl _
 | c::l=>by
  have ih:=Q8q b l
  rw [cut]
  split <;> simp only [List.length_cons] <;> omega
theorem Q56 (b:UInt8):∀ (l:List UInt8),(cut b l).1.length≤l.length∧∀ x∈(cut b l).2,x.length≤l.length
 | []=>⟨by simp [cut],by simp [cut]⟩
 | c::l=>by
  have ih:=Q56 b l
  rw [cut]
  split
  · exact ⟨by simp,λx hx=>by
      simp only [List.length_cons]
      rcases List.mem_cons.1 hx with e | e
      · rw [e]; omega
      · have:=ih.2 x e; omega⟩
  · exact ⟨by simp only [List.length_cons]; omega,λx hx=>by
      have:=ih.2 x hx
      simp only [List.length_cons]; omega⟩
theorem Qsa (b:UInt8) (s:ByteArray):1≤(Qsb b s).length∧(Qsb b s).length≤s.size+1:=by
 have:=Q8q b s.data.toList
 rw [Qu2] at this
 unfold Qsb pts
 simp only [List.length_map,List.length_cons]
 omega
theorem Qsr {b:UInt8} {s x:ByteArray} (h:x∈Qsb b s):x.size≤s.size:=by
 obtain ⟨l,hl,rfl⟩:=List.mem_map.1 h
 have:=Q56 b s.data.toList
 rw [Qu2] at this
 show l.toArray.size≤_
 rw [List.size_toArray]
 rcases List.mem_cons.1 hl with rfl | e
 · exact this.1
 · exact this.2 l e
theorem Q43 {s:ByteArray} {pre acc l:List UInt8} (h:s.data.toList=pre++(acc++l)):ssl s (pre.length:Int) ((pre.length:Int)+(acc.length:Int))=some (ofL acc):=by
 have hs:=Qu2 s
 rw [h] at hs
 simp only [List.length_append] at hs
 unfold ssl
 rw [if_pos (by omega)]
 congr 1
 apply ByteArray.ext
 apply Array.ext'
 rw [show ((pre.length:Int)+(acc.length:Int)).toNat=pre.length+acc.length by omega,Int.toNat_natCast,ByteArray.data_extract,Array.toList_extract,h]
 show _=acc
 rw [List.extract_eq_take_drop,Nat.add_sub_cancel_left,List.drop_left,List.take_left]
theorem Jfy {x:ByteArray} {out:List ByteArray} (h:out.length≤2000000):Qfi 16 out [x]=some (out++[x]):=by
 unfold Qfi
 rw [if_pos (by simp only [List.length_singleton]; omega)]
theorem Q1w {fu:Nat} {s:ByteArray} {b:UInt8} (hs:s.size≤1048576):∀ (l pre acc:List UInt8) (out:List ByteArray) (k:Nat),s.data.toList=pre++(acc++l)→l.length<k→out.length+l.length≤1048576 →
    Qgv fu s (b.toNat:Int) k out (pre.length:Int) ((pre.length:Int)+(acc.length:Int))=some (out++ofL (acc++(cut b l).1)::(cut b l).2.map ofL)
 | [],pre,acc,out,k,h,hk,ho=>by
  obtain ⟨k,rfl⟩:∃ j,k=j+1:=⟨k - 1,by omega⟩
  have hz:=Qu2 s
  rw [h] at hz
  simp only [List.length_append,List.length_nil] at hz
  rw [Qgv.eq_2]
  unfold Qnl
  rw [Qam (by simp; omega),show (s.size:Int)=(pre.length:Int)+(acc.length:Int) by omega,Q43 h,Qab,Jfy (by omega),Qab]
  simp [cut]
 | c::l,pre,acc,out,k,h,hk,ho=>by
  obtain ⟨k,rfl⟩:∃ j,k=j+1:=⟨k - 1,by omega⟩
  have hz:=Qu2 s
  rw [h] at hz
  simp only [List.length_append,List.length_cons] at hz ho
  have hx:sx s ((pre.length:Int)+(acc.length:Int))=some (c.toNat:Int):=by
   have:=Jc3 (s:=s) (pre:=pre++acc) (l:=l) (b:=c) (by rw [h]; simp)
   rw [← this]; simp
  rw [Qgv.eq_2]
  unfold Qnl Qnd
  rw [Qa0 (by simp; omega),hx,Qab,Qa1 (by omega) (by omega)]
  by_cases hc:c=b
  · subst hc
    rw [Qa0 (by simp),Q43 h,Qab,Jfy (by omega),Qab]
    have:=Q1w (fu:=fu) (b:=c) hs l (pre++(acc++[c])) [] (out++[ofL acc]) k (by rw [h]; simp) (by simp at hk; omega) (by simp; omega)
    rw [show ((pre.length:Int)+(acc.length:Int)+1)=(((pre++(acc++[c])).length:Nat):Int)+(([]:List UInt8).length:Int) by simp; omega]
    rw [show ((((pre++(acc++[c])).length:Nat):Int)+(([]:List UInt8).length:Int))=(((pre++(acc++[c])).length:Nat):Int) by simp] at this ⊢
    rw [this,Q7u]
    simp
  · rw [Qam (by simpa using λe=>hc (UInt8.toNat_inj.1 (by omega)))]
    have:=Q1w (fu:=fu) (b:=b) hs l pre (acc++[c]) out k (by rw [h]; simp) (by simp at hk; omega) (by omega)
    rw [show ((pre.length:Int)+(acc.length:Int)+1)=(pre.length:Int)+(((acc++[c]).length:Nat):Int) by simp; omega,this,cut,if_neg hc]
    simp
theorem Q8b {s:ByteArray} {b:UInt8} (hs:s.size≤1048576):Qpz 2097153 s (b.toNat:Int)=some (Qsb b s):=by
 unfold Qpz
 have hz:=Qu2 s
 exact Q1w (b:=b) hs s.data.toList [] [] [] 2097153 rfl (by omega) (by simp; omega)
theorem Q0k {fu:Nat} {s:ByteArray} {b:UInt8} (hs:s.size≤1048576):∀ (l pre acc:List UInt8) (out:List ByteArray) (k:Nat),s.data.toList=pre++(acc++l)→l.length+1<k→out.length+l.length≤1048576 →
    Qft fu s (b.toNat:Int) k out (pre.length:Int) ((pre.length:Int)+(acc.length:Int))=some (out++ofL (acc++(cut b l).1)::(cut b l).2.map ofL)
 | [],pre,acc,out,k,h,hk,ho=>by
  obtain ⟨k,rfl⟩:∃ j,k=j+2:=⟨k - 2,by simp at hk; omega⟩
  have hz:=Qu2 s
  rw [h] at hz
  simp only [List.length_append,List.length_nil] at hz
  rw [Qft.eq_2]
  unfold Qjr Qhd
  rw [Qa0 (by simp; omega),Qa0 (by simp; omega),Q43 h,Qab,Jfy (by omega),Qab,Qa1 (by omega) (by omega),Qft.eq_2]
  unfold Qjr
  rw [Qam (by simp; omega)]
  simp [cut]
 | c::l,pre,acc,out,k,h,hk,ho=>by
  obtain ⟨k,rfl⟩:∃ j,k=j+1:=⟨k - 1,by omega⟩
  have hz:=Qu2 s
  rw [h] at hz
  simp only [List.length_append,List.length_cons] at hz ho
  have hx:sx s ((pre.length:Int)+(acc.length:Int))=some (c.toNat:Int):=by
   have:=Jc3 (s:=s) (pre:=pre++acc) (l:=l) (b:=c) (by rw [h]; simp)
   rw [← this]; simp
  rw [Qft.eq_2]
  unfold Qjr Qhd
  rw [Qa0 (by simp; omega),Qam (by simp; omega),hx,Qab,Qa1 (by omega) (by omega)]
  by_cases hc:c=b
  · subst hc
    rw [Qa0 (by simp),Q43 h,Qab,Jfy (by omega),Qab]
    have:=Q0k (fu:=fu) (b:=c) hs l (pre++(acc++[c])) [] (out++[ofL acc]) k (by rw [h]; simp) (by simp at hk; omega) (by simp; omega)
    rw [show ((pre.length:Int)+(acc.length:Int)+1)=(((pre++(acc++[c])).length:Nat):Int)+(([]:List UInt8).length:Int) by simp; omega]
    rw [show ((((pre++(acc++[c])).length:Nat):Int)+(([]:List UInt8).length:Int))=(((pre++(acc++[c])).length:Nat):Int) by simp] at this ⊢
    rw [this,Q7u]
    simp
  · rw [Qam (by simpa using λe=>hc (UInt8.toNat_inj.1 (by omega)))]
    have:=Q0k (fu:=fu) (b:=b) hs l pre (acc++[c]) out k (by rw [h]; simp) (by simp at hk; omega) (by omega)
    rw [show ((pre.length:Int)+(acc.length:Int)+1)=(pre.length:Int)+(((acc++[c]).length:Nat):Int) by simp; omega,this,cut,if_neg hc]
    simp
theorem Q58 {s:ByteArray} {b:UInt8} (hs:s.size≤1048576):Qpv 2097153 s (b.toNat:Int)=some (Qsb b s):=by
 unfold Qpv
 have hz:=Qu2 s
 exact Q0k (b:=b) hs s.data.toList [] [] [] 2097153 rfl (by omega) (by simp; omega)
def nmv (x:ByteArray):Int×Bool:=(Qic 2097153 x).getD (0,false)
theorem Jbl {x:ByteArray} (h:x.size≤1048576):Qic 2097153 x=some (nmv x):=by
 obtain ⟨r,h1,_⟩:=Jc9 (fu:=2097153) h
 unfold nmv
 rw [h1]; rfl
theorem Jhx {x:ByteArray} (h:x.size≤1048576):Qnx 2097153 x=some (nmv x):=by rw [Jgo h,Jbl h]
theorem Jen {x:ByteArray} (h:x.size≤1048576) (ht:(nmv x).2=true):x=Quu (nmv x).1∧0≤(nmv x).1∧(nmv x).1≤999999:=by
 obtain ⟨r,h1,h2⟩:=Jc9 (fu:=2097153) h
 rw [Jbl h] at h1
 rw [Option.some.inj h1] at ht ⊢
 rcases h2 with ⟨u,hu,e,rfl⟩ | ⟨_,rfl⟩
 · exact ⟨e,by simp only; omega,by simp only; omega⟩
 · simp at ht
def nms:List ByteArray→Option (List Int)
 | []=>some []
 | x::xs=>if (nmv x).2=true then (nms xs).map ((nmv x).1::·) else none
def rsL (o:List Int):Option (List Int)→List Int×Bool
 | some ns=>(o++ns,true)
 | none=>([],false)
def wrd (w:ByteArray) (k:Nat) (line:ByteArray):Option (List Int) :=
 match Qsb 32 line with
 | []=>none
 | p::ps=>if p=w∧ps.length=k then nms ps else none
theorem Q98 {fu k:Nat} {xs:List ByteArray} (hx:∀ x∈xs,x.size≤1048576) (hl:xs.length≤1048577) (hk:xs.length<k):Qe9 2097153 xs k [] 0=some (rsL [] (nms xs)):=by
 have key:=lpI xs (λn (o:List Int) i=>Qe9 2097153 xs n o i) (λxs o=>some (rsL o (nms xs))) (λxs o=>(∀ x∈xs,x.size≤1048576)∧o.length+xs.length≤1048577) (by omega) ?_ ?_ k [] ⟨hx,by simpa using hl⟩ (by omega)
 · exact key
 · intro n o i x xs hx hd hI ih
   obtain ⟨i1,i2⟩:=hI
   simp only [List.length_cons] at i2
   simp only [Qe9.eq_2]
   unfold Qjy
   rw [hd,cond_true,hx,Qab,Jbl (i1 x (by simp)),Qab,nms]
   cases hv:(nmv x).2 with
   | false=>rfl
   | true =>
    rw [if_pos rfl,Bool.not_true,cond_false]
    have:Qfi 8 o [(nmv x).1]=some (o++[(nmv x).1]):=by
     unfold Qfi
     rw [if_pos (by simp only [List.length_singleton]; omega)]
    rw [this,Qab,ih _ ⟨λy hy=>i1 y (by simp [hy]),by simp only [List.length_append,List.length_singleton]; omega⟩]
    cases nms xs with
    | none=>rfl
    | some ns=>simp [rsL]
 · intro n o i hd hI
   simp only [Qe9.eq_2]
   unfold Qjy
   rw [hd,cond_false]
   simp [nms,rsL]
theorem Q46 {y:ByteArray}:∀ (xs pre:List ByteArray) (o:List Int) (k:Nat),(∀ x∈xs,x.size≤1048576)→(o.length+xs.length≤2000000∧pre.length+xs.length≤2000000)→xs.length<k→Qg1 2097153 (y::(pre++xs)) k o ((pre.length:Int)+1)=some (rsL o (nms xs))
 | [],pre,o,k,hx,hl,hk=>by
  obtain ⟨k,rfl⟩:∃ j,k=j+1:=⟨k - 1,by omega⟩
  rw [Qg1.eq_2]
  unfold Qmp
  rw [Qam (by simp)]
  simp [nms,rsL]
 | x::xs,pre,o,k,hx,hl,hk=>by
  obtain ⟨k,rfl⟩:∃ j,k=j+1:=⟨k - 1,by omega⟩
  simp only [List.length_cons] at hl hk
  rw [Qg1.eq_2]
  unfold Qmp
  have hi:ix (y::(pre++x::xs)) ((pre.length:Int)+1)=some x:=by
   rw [show ((pre.length:Int)+1)=((pre.length+1:Nat):Int) by omega,Qlg]; simp
  rw [Qa0 (by simp; omega),hi,Qab,Jhx (hx x (by simp)),Qab,nms]
  cases hv:(nmv x).2 with
  | false=>rfl
  | true =>
   rw [if_pos rfl,Bool.not_true,cond_false]
   have:Qfi 8 o [(nmv x).1]=some (o++[(nmv x).1]):=by
    unfold Qfi
    rw [if_pos (by simp only [List.length_singleton]; omega)]
   have ih:=Q46 (y:=y) xs (pre++[x]) (o++[(nmv x).1]) k (λy hy=>hx y (by simp [hy])) (by simp only [List.length_append,List.length_singleton]; omega) (by omega)
   rw [this,Qab,Qa1 (by omega) (by omega),show ((pre.length:Int)+1+1)=(((pre++[x]).length:Nat):Int)+1 by simp]
   rw [show y::(pre++x::xs)=y::((pre++[x])++xs) by simp,ih]
   cases nms xs with
   | none=>rfl
   | some ns=>simp [rsL]
theorem Jb7 {line w:ByteArray} {k:Nat} (h:line.size≤1048576) (hk:k≤1048576):Qcd 2097153 line w (k:Int)=some (rsL [] (wrd w k line)):=by
 unfold Qcd wrd
 have e:=Q8b (b:=32) h
 have hl:=(Qsa 32 line).2
 have hs:=λx hx=>Nat.le_trans (Qsr (b:=32) (s:=line) (x:=x) hx) h
 rw [show ((32:UInt8).toNat:Int)=32 from rfl] at e
 rw [e,Qab]
 cases hp:Qsb 32 line with
 | nil=>have:=(Qsa 32 line).1; rw [hp] at this; simp at this
 | cons p ps =>
  rw [hp] at hl hs
  simp only [List.length_cons] at hl
  rw [show ix (p::ps) 0=some p from rfl,Qab,Qwz,Qa1 (by omega) (by omega)]
  simp only
  by_cases h1:p=w
  · rw [decide_eq_true h1,Bool.not_true,cond_false]
    by_cases h2:ps.length=k
    · rw [if_pos ⟨h1,h2⟩,Qam (by simp; omega)]
      unfold Qof
      have:sls (p::ps) 1 (((p::ps).length:Nat):Int)=some ps:=by
       unfold sls
       rw [if_pos (by simp only [List.length_cons]; omega),show (1:Int).toNat=1 from rfl,Int.toNat_natCast]
       simp
      rw [this,Qab,Q98 (fu:=0) (λx hx=>hs x (by simp [hx])) (by omega) (by omega)]
    · rw [if_neg (λe=>h2 e.2),Qa0 (by simp; omega)]; rfl
  · rw [decide_eq_false h1,if_neg (λe=>h1 e.1)]; rfl
theorem Jfd {line w:ByteArray} {k:Nat} (h:line.size≤1048576) (hk:k≤1048576):Qnq 2097153 line w (k:Int)=some (rsL [] (wrd w k line)):=by
 unfold Qnq wrd
 have e:=Q58 (b:=32) h
 have hl:=(Qsa 32 line).2
 have hs:=λx hx=>Nat.le_trans (Qsr (b:=32) (s:=line) (x:=x) hx) h
 rw [show ((32:UInt8).toNat:Int)=32 from rfl] at e
 rw [e,Qab]
 cases hp:Qsb 32 line with
 | nil=>have:=(Qsa 32 line).1; rw [hp] at this; simp at this
 | cons p ps =>
  rw [hp] at hl hs
  simp only [List.length_cons] at hl
  rw [show ix (p::ps) 0=some p from rfl,Qab,Qwz,Qa1 (by omega) (by omega)]
  simp only
  by_cases h1:p=w
  · rw [decide_eq_true h1,Bool.not_true,cond_false]
    by_cases h2:ps.length=k
    · rw [if_pos ⟨h1,h2⟩,Qam (by simp; omega)]
      unfold Qpq
      exact Q46 (y:=p) ps [] [] 2097153 (λx hx=>hs x (by simp [hx])) (by simp; omega) (by omega)
    · rw [if_neg (λe=>h2 e.2),Qa0 (by simp; omega)]; rfl
  · rw [decide_eq_false h1,if_neg (λe=>h1 e.1)]; rfl
theorem Q3y:∀ {xs:List ByteArray} {ns:List Int},(∀ x∈xs,x.size≤1048576)→nms xs=some ns→xs=ns.map Quu∧∀ n∈ns,0≤n∧n≤999999
 | [],ns,_,h=>by obtain rfl:=Option.some.inj h; simp
 | x::xs,ns,hx,h=>by
  rw [nms] at h
  split at h
  · rename_i hv
    cases hn:nms xs with
    | none=>rw [hn] at h; simp at h
    | some ms =>
     rw [hn] at h
     obtain rfl:=Option.some.inj h
     have:=Q3y (λy hy=>hx y (by simp [hy])) hn
     have h1:=Jen (hx x (by simp)) hv
     exact ⟨by rw [List.map_cons,← this.1,← h1.1],λn hn=>by
      rcases List.mem_cons.1 hn with rfl | hn
      · exact h1.2
      · exact this.2 n hn⟩
  · simp at h
theorem Qke {w line:ByteArray} {k:Nat} {ns:List Int} (hs:line.size≤1048576) (h:wrd w k line=some ns):ns.length=k∧(∀ n∈ns,0≤n∧n≤999999)∧Qsb 32 line=w::ns.map Quu:=by
 unfold wrd at h
 split at h
 · simp at h
 · rename_i p ps hp
   split at h
   · rename_i h1
     have:=Q3y (λx hx=>Nat.le_trans (Qsr (b:=32) (s:=line) (by rw [hp]; simp [hx])) hs) h
     refine ⟨?_,this.2,by rw [hp,h1.1,← this.1]⟩
     rw [← h1.2,this.1,List.length_map]
   · simp at h
theorem Qrw {w v line:ByteArray} {k j:Nat} {ns:List Int} (hs:line.size≤1048576) (h:wrd w k line=some ns) (hv:v≠w):wrd v j line=none:=by
 have:=(Qke hs h).2.2
 unfold wrd
 rw [this]
 exact if_neg λe=>hv e.1.symm
def wWF:ByteArray:=⟨#[119,97,121,32,102,105,114,115,116]⟩
def wWN:ByteArray:=⟨#[119,97,121,32,110,101,120,116]⟩
def Q39:ByteArray:=⟨#[112,97,108,108,101,116]⟩
def Q5w:ByteArray:=⟨#[99,108,97,115,115,101,115]⟩
def Q22:ByteArray:=⟨#[119,105,116,104]⟩
def Q3c:ByteArray:=⟨#[116,121,112,101]⟩
def Q8h:ByteArray:=⟨#[109,97,115,116,101,114]⟩
def Q5p:ByteArray:=⟨#[105,116,101,109]⟩
def emB:ByteArray:=⟨#[]⟩
def R0:Request:=⟨0,⟨0,0,0,0⟩,0,[],[],0,[]⟩
def nt1:List Int→Int
 | [a]=>a
 | _=>0
def Jh8:List Int→Pallet
 | [a,b,c,d]=>⟨a,b,c,d⟩
 | _=>⟨0,0,0,0⟩
def Jev:List Int→Pair
 | [a,b]=>⟨a,b⟩
 | _=>⟨0,0⟩
def Jh3:List Int→Typ
 | [a,b,c,d,e,f,g]=>⟨a,b,c,d,e,f,g⟩
 | _=>⟨0,0,0,0,0,0,0⟩
def Jh2:List Int→Item
 | [a,b,c,d,e,f,g]=>⟨a,b,c,d,e,f,g⟩
 | _=>⟨0,0,0,0,0,0,0⟩
theorem Jfz {l:List Int} (h:l.length=1):∃ a,l=[a]:=List.length_eq_one_iff.1 h
theorem Jh7 {l:List Int} (h:l.length=2):∃ a b,l=[a,b]:=by
 match l,h with
 | [a,b],_=>exact ⟨a,b,rfl⟩
theorem Jh6 {l:List Int} (h:l.length=4):∃ a b c d,l=[a,b,c,d]:=by
 match l,h with
 | [a,b,c,d],_=>exact ⟨a,b,c,d,rfl⟩
theorem Jfx {l:List Int} (h:l.length=7):∃ a b c d e f g,l=[a,b,c,d,e,f,g]:=by
 match l,h with
 | [a,b,c,d,e,f,g],_=>exact ⟨a,b,c,d,e,f,g,rfl⟩
def ptl (r:Request) (l:ByteArray):Int×Request :=
 if l=wWF then (0,⟨0,r.fJ,r.fU,r.fR,r.fG,r.fT,r.fV⟩) else
 if l=wWN then (0,⟨1,r.fJ,r.fU,r.fR,r.fG,r.fT,r.fV⟩) else
 match wrd Q39 4 l with
 | some n=>(1,⟨r.ff,Jh8 n,r.fU,r.fR,r.fG,r.fT,r.fV⟩)
 | none=>match wrd Q5w 1 l with
  | some n=>(2,⟨r.ff,r.fJ,nt1 n,r.fR,r.fG,r.fT,r.fV⟩)
  | none=>match wrd Q22 2 l with
   | some n=>(3,⟨r.ff,r.fJ,r.fU,r.fR++[Jev n],r.fG,r.fT,r.fV⟩)
   | none=>match wrd Q3c 7 l with
    | some n=>(4,⟨r.ff,r.fJ,r.fU,r.fR,r.fG++[Jh3 n],r.fT,r.fV⟩)
    | none=>match wrd Q8h 1 l with
     | some n=>(5,⟨r.ff,r.fJ,r.fU,r.fR,r.fG,nt1 n,r.fV⟩)
     | none=>match wrd Q5p 7 l with
      | some n=>(6,⟨r.ff,r.fJ,r.fU,r.fR,r.fG,r.fT,r.fV++[Jh2 n]⟩)
      | none=>(-1,r)
theorem Jdn {line w:ByteArray} {k:Nat} {kk:Int} (h:line.size≤1048576) (hk:k≤1048576) (e:(k:Int)=kk):Qcd 2097153 line w kk=some (rsL [] (wrd w k line)):=e ▸ Jb7 h hk
theorem obR {β:Type} (k:List Int×Bool→Option β):Qac (some (rsL [] none)) k=k ([],false):=rfl
theorem Jfk {α:Type} (a b:α):(bif (rsL [] none).2 then a else b)=b:=rfl
theorem Jbp {α:Type} (a b:α):(bif !(rsL [] none).2 then a else b)=a:=rfl
theorem Jbq {α:Type} (n:List Int) (a b:α):(bif !(rsL [] (some n)).2 then a else b)=b:=rfl
theorem Jhb {r:Request} {l:ByteArray} (hl:l.size≤1048576) (hp:r.fR.length≤1000) (ht:r.fG.length≤1000) (hi:r.fV.length≤1000):Qov 2097153 r l=some (ptl r l):=by
 unfold ptl
 show (bif (l.toList==wWF.toList) then _ else bif (l.toList==wWN.toList) then _ else Qac (Qcd 2097153 l Q39 4) _)=_
 rw [Qwz,Qwz]
 by_cases h1:l=wWF
 · rw [decide_eq_true h1,if_pos h1]; rfl
 rw [decide_eq_false h1,if_neg h1,cond_false]
 by_cases h2:l=wWN
 · rw [decide_eq_true h2,if_pos h2]; rfl
 rw [decide_eq_false h2,if_neg h2,cond_false,Jdn (k:=4) (kk:=4) hl (by omega) rfl]
 cases h3:wrd Q39 4 l with
 | some n =>
  obtain ⟨a,b,c,d,rfl⟩:=Jh6 (Qke hl h3).1
  rfl
 | none =>
 rw [obR,Qam rfl]
 show Qac (Qcd 2097153 l Q5w 1) _=_
 rw [Jdn (k:=1) (kk:=1) hl (by omega) rfl]
 cases h4:wrd Q5w 1 l with
 | some n =>
  obtain ⟨a,rfl⟩:=Jfz (Qke hl h4).1
  rfl
 | none =>
 rw [obR,Qam rfl]
 show Qac (Qcd 2097153 l Q22 2) _=_
 rw [Jdn (k:=2) (kk:=2) hl (by omega) rfl]
 cases h5:wrd Q22 2 l with
 | some n =>
  obtain ⟨a,b,rfl⟩:=Jh7 (Qke hl h5).1
  show Qac (Qfi 16 r.fR [(⟨a,b⟩:Pair)]) _=_
  rw [ap1 (by simp only [List.length_singleton]; omega)]
  rfl
 | none =>
 rw [obR,Qam rfl]
 show Qac (Qcd 2097153 l Q3c 7) _=_
 rw [Jdn (k:=7) (kk:=7) hl (by omega) rfl]
 cases h6:wrd Q3c 7 l with
 | some n =>
  obtain ⟨a,b,c,d,e,f,g,rfl⟩:=Jfx (Qke hl h6).1
  show Qac (Qfi 56 r.fG [(⟨a,b,c,d,e,f,g⟩:Typ)]) _=_
  rw [ap1 (by simp only [List.length_singleton]; omega)]
  rfl
 | none =>
 rw [obR,Qam rfl]
 show Qac (Qcd 2097153 l Q8h 1) _=_
 rw [Jdn (k:=1) (kk:=1) hl (by omega) rfl]
 cases h7:wrd Q8h 1 l with
 | some n =>
  obtain ⟨a,rfl⟩:=Jfz (Qke hl h7).1
  rfl
 | none =>
 rw [obR,Qam rfl]
 show Qac (Qcd 2097153 l Q5p 7) _=_
 rw [Jdn (k:=7) (kk:=7) hl (by omega) rfl]
 cases h8:wrd Q5p 7 l with
 | some n =>
  obtain ⟨a,b,c,d,e,f,g,rfl⟩:=Jfx (Qke hl h8).1
  show Qac (Qfi 56 r.fV [(⟨a,b,c,d,e,f,g⟩:Item)]) _=_
  rw [ap1 (by simp only [List.length_singleton]; omega)]
  rfl
 | none=>rfl
def mf (last k:Int):Bool :=
 if k=0 then last==-1 else if k=1 then last==0 else if k=2 then last==1 else if k=3 then last==2||last==3 else if k=4 then inb last 2 4 else if k=5 then inb last 2 4 else if k=6 then last==5||last==6 else false
theorem Qst (r:Request) (l:ByteArray):((ptl r l).1=0∧(l=wWF∨l=wWN))∨((ptl r l).1=1∧∃ n,wrd Q39 4 l=some n)∨((ptl r l).1=2∧∃ n,wrd Q5w 1 l=some n)∨((ptl r l).1=3∧∃ n,wrd Q22 2 l=some n) ∨
    ((ptl r l).1=4∧∃ n,wrd Q3c 7 l=some n)∨((ptl r l).1=5∧∃ n,wrd Q8h 1 l=some n)∨((ptl r l).1=6∧∃ n,wrd Q5p 7 l=some n)∨(ptl r l).1=-1:=by
 unfold ptl
 split
 · rename_i h; exact .inl ⟨rfl,.inl h⟩
 split
 · rename_i h; exact .inl ⟨rfl,.inr h⟩
 split
 · rename_i h; exact .inr (.inl ⟨rfl,_,h⟩)
 split
 · rename_i h; exact .inr (.inr (.inl ⟨rfl,_,h⟩))
 split
 · rename_i h; exact .inr (.inr (.inr (.inl ⟨rfl,_,h⟩)))
 split
 · rename_i h; exact .inr (.inr (.inr (.inr (.inl ⟨rfl,_,h⟩))))
 split
 · rename_i h; exact .inr (.inr (.inr (.inr (.inr (.inl ⟨rfl,_,h⟩)))))
 split
 · rename_i h; exact .inr (.inr (.inr (.inr (.inr (.inr (.inl ⟨rfl,_,h⟩))))))
 exact .inr (.inr (.inr (.inr (.inr (.inr (.inr rfl))))))
theorem Jdq {last k:Int} (h:-1≤k∧k≤6):Qlr 2097153 last k=some (mf last k):=by
 have:k=-1∨k=0∨k=1∨k=2∨k=3∨k=4∨k=5∨k=6:=by omega
 unfold Qlr Qge
 simp only [Q0g,Qab]
 rcases this with rfl | rfl | rfl | rfl | rfl | rfl | rfl | rfl
 · rfl
 · rfl
 · rfl
 · rfl
 · show (bif (last==2) then some true else some (last==3))=some (last==2||last==3)
   cases last==2 <;> rfl
 · rfl
 · rfl
 · show (bif (last==5) then some true else some (last==6))=some (last==5||last==6)
   cases last==5 <;> rfl
theorem Q65 (r:Request) (l:ByteArray):(ptl r l).2.fR.length≤r.fR.length+1∧(ptl r l).2.fG.length≤r.fG.length+1∧(ptl r l).2.fV.length≤r.fV.length+1:=by
 unfold ptl
 repeat' split
 all_goals simp
theorem Jcg (r:Request) (l:ByteArray):-1≤(ptl r l).1∧(ptl r l).1≤6:=by
 have:=Qst r l
 omega
def Qw0 (z:ByteArray):List ByteArray→Int→Request→Int→Request×Int
 | [],last,r,i=>if last<5 then (R0,i) else if z=emB then (r,-1) else (R0,i)
 | l::ls,last,r,i=>bif mf last (ptl r l).1 then Qw0 z ls (ptl r l).1 (ptl r l).2 (i+1) else (R0,i)
def rdM (s:ByteArray):Request×Int :=
 if 61<(Qsb 10 s).length then (R0,60) else Qw0 ((Qsb 10 s).getLastD emB) (Qsb 10 s).dropLast (-1) R0 0
theorem Q4x (b:UInt8) (s:ByteArray):∃ ls z,Qsb b s=ls++[z]∧(Qsb b s).dropLast=ls∧(Qsb b s).getLastD emB=z:=by
 have h:=(Qsa b s).1
 have hn:Qsb b s≠[]:=λe=>by rw [e] at h; simp at h
 refine ⟨_,(Qsb b s).getLast hn,(List.dropLast_concat_getLast hn).symm,rfl,?_⟩
 rw [List.getLastD_eq_getLast?,List.getLast?_eq_some_getLast hn]; rfl
theorem Jfn {α:Type} {ls:List α} {z:α}:sls (ls++[z]) 0 (ls.length:Int)=some ls:=by
 rw [Qs0 (by simp; omega)]
 simp
theorem Jd1 {α:Type} {ls:List α} {z:α}:ix (ls++[z]) (ls.length:Int)=some z:=by
 rw [Qlg]; simp
theorem Ja3 {s:ByteArray} (hs:s.size≤1048576):Qhu 2097153 s=some (rdM s):=by
 unfold Qhu rdM
 have e:=Q8b (b:=10) hs
 rw [show ((10:UInt8).toNat:Int)=10 from rfl] at e
 rw [e,Qab]
 obtain ⟨ls,z,h1,h2,h3⟩:=Q4x 10 s
 have hsz:=λx hx=>Nat.le_trans (Qsr (b:=10) (s:=s) (x:=x) hx) hs
 have hn:=(Qsa 10 s).2
 rw [h2,h3]
 rw [h1] at hsz hn ⊢
 simp only [List.length_append,List.length_singleton] at hn ⊢
 rw [Qa1 (by omega) (by omega),show ((ls.length+1:Nat):Int) - 1=ls.length by omega]
 by_cases h61:61<ls.length+1
 · rw [Qa0 (by simp; omega),if_pos h61]; rfl
 rw [Qam (by simp; omega),if_neg h61,Jfn,Qab]
 have key:=Jcw ls (λn (o:Request×Int) i=>Qez 2097153 (ls++[z]) ls n o.1.ff o.1.fJ.fW o.1.fJ.fD o.1.fJ.fH o.1.fJ.fQ o.1.fU o.1.fR o.1.fG o.1.fT o.1.fV o.2 i) (λpre xs o=>some (Qw0 z xs o.2 o.1 (pre.length:Int))) (λpre xs o=>o.1.fR.length≤pre.length∧o.1.fG.length≤pre.length∧o.1.fV.length≤pre.length) (by omega) ?_ ?_ 2097153 (R0,-1) ⟨by simp [R0],by simp [R0],by simp [R0]⟩ (by omega)
 · exact key
 · intro n o pre x xs e hx hd hI ih
   have hpl:pre.length<ls.length:=by rw [e]; simp
   have hxs:x.size≤1048576:=hsz x (by rw [e]; simp)
   simp only [Qez.eq_2]
   unfold Qh8
   rw [hd,cond_true,hx,Qab]
   show Qac (Qov 2097153 o.1 x) _=_
   rw [Jhb hxs (by omega) (by omega) (by omega),Qab,Jdq (Jcg _ _),Qab]
   cases hm:mf o.2 (ptl o.1 x).1 with
   | false =>
    rw [Bool.not_false,cond_true,Qw0,hm]; rfl
   | true =>
    rw [Bool.not_true,cond_false]
    have hl:=Q65 o.1 x
    have:=ih ((ptl o.1 x).2,(ptl o.1 x).1) ⟨by simp; omega,by simp; omega,by simp; omega⟩
    rw [Qw0,hm,cond_true]
    simp only at this
    rw [this]
    simp
 · intro n o hd hI
   simp only [Qez.eq_2]
   unfold Qh8
   rw [hd,cond_false,Qw0]
   simp only [List.length_append,List.length_singleton]
   rw [Qa1 (by omega) (by omega),show ((ls.length+1:Nat):Int) - 1=ls.length by omega,Jd1,Qab]
   by_cases h5:o.2<5
   · rw [Qa0 (by simpa using h5),if_pos h5]; rfl
   rw [Qam (by simpa using h5),if_neg h5]
   show (bif (!(z.toList==emB.toList)) then _ else _)=_
   rw [Qwz]
   by_cases hz:z=emB
   · rw [decide_eq_true hz,if_pos hz]; rfl
   · rw [decide_eq_false hz,if_neg hz]; rfl
theorem Jio {line w:ByteArray} {k:Nat} {kk:Int} (h:line.size≤1048576) (hk:k≤1048576) (e:(k:Int)=kk):Qnq 2097153 line w kk=some (rsL [] (wrd w k line)):=e ▸ Jfd h hk
def nx (w:ByteArray) (k:Nat):List ByteArray→Option (List Int)
 | []=>none
 | l::_=>wrd w k l
theorem Q83 {pre rest:List ByteArray} {z w:ByteArray} {k:Nat} {kk at_:Int} (hs:∀ x∈rest,x.size≤1048576) (hl:pre.length+rest.length≤1000) (hk:k≤1000) (e:(k:Int)=kk) (ea:(pre.length:Int)=at_):Qbk 2097153 (pre++(rest++[z])) at_ w kk=some (rsL [] (nx w k rest)):=by
 subst ea
 unfold Qbk
 simp only [List.length_append,List.length_singleton]
 rw [Qa1 (by omega) (by omega)]
 cases rest with
 | nil=>rw [Qa0 (by simp)]; rfl
 | cons l ls =>
  rw [Qam (by simp; omega),Qlg]
  have:(pre++(l::ls++[z]))[pre.length]? = some l:=by simp
  rw [this,Qab,Jio (k:=k) (hs l (by simp)) (by omega) e,Qab]
  rfl
theorem Jco {l:ByteArray} {n:List Int} (hl:l.size≤1048576) (h:wrd Q5p 7 l=some n) (r:Request):ptl r l=(6,⟨r.ff,r.fJ,r.fU,r.fR,r.fG,r.fT,r.fV++[Jh2 n]⟩):=by
 have hp:=(Qke hl h).2.2
 unfold ptl
 rw [if_neg (λe=>by rw [e] at hp; revert hp; exact λhp=>absurd (List.cons.inj hp).1 (by decide)),if_neg (λe=>by rw [e] at hp; exact absurd (List.cons.inj hp).1 (by decide)),Qrw hl h (v:=Q39) (by decide),Qrw hl h (v:=Q5w) (by decide),Qrw hl h (v:=Q22) (by decide),Qrw hl h (v:=Q3c) (by decide),Qrw hl h (v:=Q8h) (by decide),h]
theorem Jcq {l:ByteArray} {n:List Int} (hl:l.size≤1048576) (h:wrd Q8h 1 l=some n) (r:Request):ptl r l=(5,⟨r.ff,r.fJ,r.fU,r.fR,r.fG,nt1 n,r.fV⟩):=by
 have hp:=(Qke hl h).2.2
 unfold ptl
 rw [if_neg (λe=>by rw [e] at hp; exact absurd (List.cons.inj hp).1 (by decide)),if_neg (λe=>by rw [e] at hp; exact absurd (List.cons.inj hp).1 (by decide)),Qrw hl h (v:=Q39) (by decide),Qrw hl h (v:=Q5w) (by decide),Qrw hl h (v:=Q22) (by decide),Qrw hl h (v:=Q3c) (by decide),h]
theorem Jbk {l:ByteArray} {n:List Int} (hl:l.size≤1048576) (h:wrd Q3c 7 l=some n) (r:Request):ptl r l=(4,⟨r.ff,r.fJ,r.fU,r.fR,r.fG++[Jh3 n],r.fT,r.fV⟩):=by
 have hp:=(Qke hl h).2.2
 unfold ptl
 rw [if_neg (λe=>by rw [e] at hp; exact absurd (List.cons.inj hp).1 (by decide)),if_neg (λe=>by rw [e] at hp; exact absurd (List.cons.inj hp).1 (by decide)),Qrw hl h (v:=Q39) (by decide),Qrw hl h (v:=Q5w) (by decide),Qrw hl h (v:=Q22) (by decide),h]
theorem Jc6 {l:ByteArray} {n:List Int} (hl:l.size≤1048576) (h:wrd Q22 2 l=some n) (r:Request):ptl r l=(3,⟨r.ff,r.fJ,r.fU,r.fR++[Jev n],r.fG,r.fT,r.fV⟩):=by
 have hp:=(Qke hl h).2.2
 unfold ptl
 rw [if_neg (λe=>by rw [e] at hp; exact absurd (List.cons.inj hp).1 (by decide)),if_neg (λe=>by rw [e] at hp; exact absurd (List.cons.inj hp).1 (by decide)),Qrw hl h (v:=Q39) (by decide),Qrw hl h (v:=Q5w) (by decide),h]
theorem Jcs {l:ByteArray} {n:List Int} (hl:l.size≤1048576) (h:wrd Q5w 1 l=some n) (r:Request):ptl r l=(2,⟨r.ff,r.fJ,nt1 n,r.fR,r.fG,r.fT,r.fV⟩):=by
 have hp:=(Qke hl h).2.2
 unfold ptl
 rw [if_neg (λe=>by rw [e] at hp; exact absurd (List.cons.inj hp).1 (by decide)),if_neg (λe=>by rw [e] at hp; exact absurd (List.cons.inj hp).1 (by decide)),Qrw hl h (v:=Q39) (by decide),h]
theorem Jcf {l:ByteArray} {n:List Int} (hl:l.size≤1048576) (h:wrd Q39 4 l=some n) (r:Request):ptl r l=(1,⟨r.ff,Jh8 n,r.fU,r.fR,r.fG,r.fT,r.fV⟩):=by
 have hp:=(Qke hl h).2.2
 unfold ptl
 rw [if_neg (λe=>by rw [e] at hp; exact absurd (List.cons.inj hp).1 (by decide)),if_neg (λe=>by rw [e] at hp; exact absurd (List.cons.inj hp).1 (by decide)),h]
theorem Qxp {z l:ByteArray} {ls:List ByteArray} {last i:Int} {r:Request} (h:mf last (ptl r l).1=false):Qw0 z (l::ls) last r i=(R0,i):=by
 rw [Qw0,h]; rfl
theorem Qsg {z l:ByteArray} {ls:List ByteArray} {last i k:Int} {r q:Request} (h:ptl r l=(k,q)) (hm:mf last k=true):Qw0 z (l::ls) last r i=Qw0 z ls k q (i+1):=by
 rw [Qw0,h,hm]; rfl
theorem Jib {z:ByteArray} {w a b c d cl m:Int} {P:List Pair} {T:List Typ}:∀ (rest pre:List ByteArray) (its:List Item) (k:Nat) (last:Int),(∀ x∈rest,x.size≤1048576)→pre.length+rest.length≤1000→its.length≤pre.length→rest.length<k→(last=5∨last=6) →
    Qew 2097153 (pre++(rest++[z])) w a b c d cl P T m k its (pre.length:Int) (rsL [] (nx Q5p 7 rest)).1 (rsL [] (nx Q5p 7 rest)).2=some (Qw0 z rest last ⟨w,⟨a,b,c,d⟩,cl,P,T,m,its⟩ (pre.length:Int))
 | [],pre,its,k,last,hs,hl,hi,hk,h5=>by
  obtain ⟨k,rfl⟩:∃ j,k=j+1:=⟨k - 1,by omega⟩
  simp only [List.length_nil] at hl
  rw [Qew.eq_2]
  unfold Qh3
  rw [show nx Q5p 7 []=none from rfl,Jfk]
  simp only [List.nil_append,List.length_append,List.length_singleton]
  rw [Qa1 (by omega) (by omega),Qam (by simp),show ((pre.length+1:Nat):Int) - 1=pre.length by omega,Jd1,Qab]
  show (bif (!(z.toList==emB.toList)) then _ else _)=_
  rw [Qwz,Qw0,if_neg (show ¬ last<5 by omega)]
  by_cases hz:z=emB
  · rw [decide_eq_true hz,if_pos hz]; try rfl
  · rw [decide_eq_false hz,if_neg hz]; try rfl
 | l::ls,pre,its,k,last,hs,hl,hi,hk,h5=>by
  obtain ⟨k,rfl⟩:∃ j,k=j+1:=⟨k - 1,by omega⟩
  simp only [List.length_cons] at hl hk
  rw [Qew.eq_2]
  unfold Qh3
  have hsl:=hs l (by simp)
  rw [show nx Q5p 7 (l::ls)=wrd Q5p 7 l from rfl]
  cases hw:wrd Q5p 7 l with
  | none =>
   rw [Jfk]
   simp only [List.length_append,List.length_singleton,List.length_cons,List.length_nil]
   rw [Qa1 (by omega) (by omega),Qa0 (by simp; omega),Qxp ?_]; · rfl
   have hc:=Qst ⟨w,⟨a,b,c,d⟩,cl,P,T,m,its⟩ l
   rw [hw] at hc
   rcases hc with ⟨e,_⟩ | ⟨e,_⟩ | ⟨e,_⟩ | ⟨e,_⟩ | ⟨e,_⟩ | ⟨e,_⟩ | ⟨_,_,e⟩ | e
   all_goals first | (rw [e]; rcases h5 with rfl | rfl <;> rfl) | exact absurd e (by simp)
  | some n =>
   obtain ⟨x1,x2,x3,x4,x5,x6,x7,rfl⟩:=Jfx (Qke hsl hw).1
   rw [Qsg (Jco hsl hw _) (by rcases h5 with rfl | rfl <;> rfl)]
   show Qac (Qfi 56 its [(⟨x1,x2,x3,x4,x5,x6,x7⟩:Item)]) _=_
   rw [ap1 (by simp only [List.length_singleton]; omega),Qab,Qa1 (by omega) (by omega)]
   have e:pre++(l::ls++[z])=(pre++[l])++(ls++[z]):=by simp
   have ea:(pre.length:Int)+1=(((pre++[l]).length:Nat):Int):=by simp
   rw [e,ea]
   show Qac (Qbk 2097153 ((pre++[l])++(ls++[z])) (((pre++[l]).length:Nat):Int) Q5p 7) _=_
   rw [Q83 (k:=7) (kk:=7) (λx hx=>hs x (by simp [hx])) (by simp; omega) (by omega) rfl rfl,Qab]
   exact Jib ls (pre++[l]) _ k 6 (λx hx=>hs x (by simp [hx])) (by simp; omega) (by simp; omega) (by omega) (.inr rfl)
theorem Jh1 {z:ByteArray} {w a b c d cl:Int} {P:List Pair}:∀ (rest pre:List ByteArray) (ts:List Typ) (k:Nat) (last:Int),(∀ x∈rest,x.size≤1048576)→pre.length+rest.length≤1000→ts.length≤pre.length→rest.length<k→(last=4∨(last=2∨last=3)∧nx Q22 2 rest=none) →
    Qe0 2097153 (pre++(rest++[z])) w a b c d cl P k ts (pre.length:Int) (rsL [] (nx Q3c 7 rest)).1 (rsL [] (nx Q3c 7 rest)).2=some (Qw0 z rest last ⟨w,⟨a,b,c,d⟩,cl,P,ts,0,[]⟩ (pre.length:Int))
 | [],pre,ts,k,last,hs,hl,hi,hk,h5=>by
  obtain ⟨k,rfl⟩:∃ j,k=j+1:=⟨k - 1,by omega⟩
  rw [Qe0.eq_2]
  unfold Qia
  rw [show nx Q3c 7 []=none from rfl,Jfk]
  show Qac (Qbk 2097153 (pre++([]++[z])) (pre.length:Int) Q8h 1) _=_
  rw [Q83 (k:=1) (kk:=1) hs hl (by omega) rfl rfl,Qab,Qw0,if_pos (by omega)]
  rfl
 | l::ls,pre,ts,k,last,hs,hl,hi,hk,h5=>by
  obtain ⟨k,rfl⟩:∃ j,k=j+1:=⟨k - 1,by omega⟩
  have hl0:=hl
  simp only [List.length_cons] at hl hk
  rw [Qe0.eq_2]
  unfold Qia
  have hsl:=hs l (by simp)
  have e:pre++(l::ls++[z])=(pre++[l])++(ls++[z]):=by simp
  have ea:(pre.length:Int)+1=(((pre++[l]).length:Nat):Int):=by simp
  rw [show nx Q3c 7 (l::ls)=wrd Q3c 7 l from rfl]
  cases hw:wrd Q3c 7 l with
  | none =>
   rw [Jfk]
   show Qac (Qbk 2097153 (pre++(l::ls++[z])) (pre.length:Int) Q8h 1) _=_
   rw [Q83 (k:=1) (kk:=1) hs hl0 (by omega) rfl rfl,Qab]
   rw [show nx Q8h 1 (l::ls)=wrd Q8h 1 l from rfl]
   cases hm:wrd Q8h 1 l with
   | none =>
    rw [Jbp,Qxp ?_]; · rfl
    have hc:=Qst ⟨w,⟨a,b,c,d⟩,cl,P,ts,0,[]⟩ l
    rw [hw,hm] at hc
    have h5':last=4∨(last=2∨last=3)∧wrd Q22 2 l=none:=h5
    rcases hc with ⟨e,_⟩ | ⟨e,_⟩ | ⟨e,_⟩ | ⟨e,_,e'⟩ | ⟨_,_,e⟩ | ⟨_,_,e⟩ | ⟨e,_⟩ | e
    all_goals first | exact absurd e (by simp) | (rw [e]; rcases h5' with rfl | ⟨rfl | rfl,h6⟩ <;> first | rfl | (rw [h6] at e'; exact absurd e' (by simp)))
   | some n =>
    obtain ⟨x1,rfl⟩:=Jfz (Qke hsl hm).1
    rw [Jbq,Qsg (Jcq hsl hm _) (by rcases h5 with rfl | ⟨rfl | rfl,_⟩ <;> rfl)]
    show Qac (Qbk 2097153 (pre++(l::ls++[z])) (w64 ((pre.length:Int)+1)) Q5p 7) _=_
    rw [Qa1 (by omega) (by omega),e,ea,Q83 (k:=7) (kk:=7) (λx hx=>hs x (by simp [hx])) (by simp; omega) (by omega) rfl rfl,Qab]
    exact Jib ls (pre++[l]) [] 2097153 5 (λx hx=>hs x (by simp [hx])) (by simp; omega) (by simp) (by omega) (.inl rfl)
  | some n =>
   obtain ⟨x1,x2,x3,x4,x5,x6,x7,rfl⟩:=Jfx (Qke hsl hw).1
   rw [Qsg (Jbk hsl hw _) (by rcases h5 with rfl | ⟨rfl | rfl,_⟩ <;> rfl)]
   show Qac (Qfi 56 ts [(⟨x1,x2,x3,x4,x5,x6,x7⟩:Typ)]) _=_
   rw [ap1 (by simp only [List.length_singleton]; omega),Qab,Qa1 (by omega) (by omega),e,ea]
   show Qac (Qbk 2097153 ((pre++[l])++(ls++[z])) (((pre++[l]).length:Nat):Int) Q3c 7) _=_
   rw [Q83 (k:=7) (kk:=7) (λx hx=>hs x (by simp [hx])) (by simp; omega) (by omega) rfl rfl,Qab]
   exact Jh1 ls (pre++[l]) _ k 4 (λx hx=>hs x (by simp [hx])) (by simp; omega) (by simp; omega) (by omega) (.inl rfl)
theorem Jih {z:ByteArray} {w a b c d cl:Int}:∀ (rest pre:List ByteArray) (ps:List Pair) (k:Nat) (last:Int),(∀ x∈rest,x.size≤1048576)→pre.length+rest.length≤1000→ps.length≤pre.length→rest.length<k→(last=2∨last=3) →
    Qgj 2097153 (pre++(rest++[z])) w a b c d cl k ps (pre.length:Int) (rsL [] (nx Q22 2 rest)).1 (rsL [] (nx Q22 2 rest)).2=some (Qw0 z rest last ⟨w,⟨a,b,c,d⟩,cl,ps,[],0,[]⟩ (pre.length:Int))
 | rest,pre,ps,k,last,hs,hl,hi,hk,h5=>by
  obtain ⟨k,rfl⟩:∃ j,k=j+1:=⟨k - 1,by omega⟩
  rw [Qgj.eq_2]
  unfold Qnc
  cases hw:nx Q22 2 rest with
  | none =>
   rw [Jfk]
   show Qac (Qbk 2097153 (pre++(rest++[z])) (pre.length:Int) Q3c 7) _=_
   rw [Q83 (k:=7) (kk:=7) hs hl (by omega) rfl rfl,Qab]
   exact Jh1 rest pre [] 2097153 last hs hl (by simp) (by omega) (.inr ⟨h5,hw⟩)
  | some n =>
   cases rest with
   | nil=>exact absurd hw (by simp [nx])
   | cons l ls =>
    have hsl:=hs l (by simp)
    have e:pre++(l::ls++[z])=(pre++[l])++(ls++[z]):=by simp
    have ea:(pre.length:Int)+1=(((pre++[l]).length:Nat):Int):=by simp
    simp only [List.length_cons] at hl hk
    have hw':wrd Q22 2 l=some n:=hw
    obtain ⟨x1,x2,rfl⟩:=Jh7 (Qke hsl hw').1
    rw [Qsg (Jc6 hsl hw' _) (by rcases h5 with rfl | rfl <;> rfl)]
    show Qac (Qfi 16 ps [(⟨x1,x2⟩:Pair)]) _=_
    rw [ap1 (by simp only [List.length_singleton]; omega),Qab,Qa1 (by omega) (by omega),e,ea]
    show Qac (Qbk 2097153 ((pre++[l])++(ls++[z])) (((pre++[l]).length:Nat):Int) Q22 2) _=_
    rw [Q83 (k:=2) (kk:=2) (λx hx=>hs x (by simp [hx])) (by simp; omega) (by omega) rfl rfl,Qab]
    exact Jih ls (pre++[l]) _ k 3 (λx hx=>hs x (by simp [hx])) (by simp; omega) (by simp; omega) (by omega) (.inr rfl)
 termination_by rest=>rest.length
theorem Jic {z l0:ByteArray} {w:Int} {rest:List ByteArray} (hs:∀ x∈rest,x.size≤1048576) (hl:rest.length≤900):Qd1 2097153 ([l0]++(rest++[z])) w=some (Qw0 z rest 0 ⟨w,⟨0,0,0,0⟩,0,[],[],0,[]⟩ 1):=by
 unfold Qd1
 show Qac (Qbk 2097153 ([l0]++(rest++[z])) 1 Q39 4) _=_
 rw [Q83 (k:=4) (kk:=4) (at_:=1) (pre:=[l0]) hs (by simp; omega) (by omega) rfl rfl,Qab]
 cases rest with
 | nil=>rfl
 | cons l1 ls =>
  have h1:=hs l1 (by simp)
  simp only [List.length_cons] at hl
  rw [show nx Q39 4 (l1::ls)=wrd Q39 4 l1 from rfl]
  cases hw:wrd Q39 4 l1 with
  | none =>
   rw [Jbp,Qxp ?_]; · rfl
   have hc:=Qst ⟨w,⟨0,0,0,0⟩,0,[],[],0,[]⟩ l1
   rw [hw] at hc
   rcases hc with ⟨e,_⟩ | ⟨_,_,e⟩ | ⟨e,_⟩ | ⟨e,_⟩ | ⟨e,_⟩ | ⟨e,_⟩ | ⟨e,_⟩ | e
   all_goals first | exact absurd e (by simp) | (rw [e]; rfl)
  | some n =>
   obtain ⟨a,b,c,d,rfl⟩:=Jh6 (Qke h1 hw).1
   rw [Jbq,Qsg (Jcf h1 hw _) rfl]
   show Qac (Qbk 2097153 ([l0,l1]++(ls++[z])) 2 Q5w 1) _=some (Qw0 z ls 1 ⟨w,⟨a,b,c,d⟩,0,[],[],0,[]⟩ 2)
   rw [Q83 (k:=1) (kk:=1) (at_:=2) (pre:=[l0,l1]) (λx hx=>hs x (by simp [hx])) (by simp; omega) (by omega) rfl rfl,Qab]
   cases ls with
   | nil=>rfl
   | cons l2 ls =>
    have h2:=hs l2 (by simp)
    simp only [List.length_cons] at hl
    rw [show nx Q5w 1 (l2::ls)=wrd Q5w 1 l2 from rfl]
    cases hw:wrd Q5w 1 l2 with
    | none =>
     rw [Jbp,Qxp ?_]; · rfl
     have hc:=Qst ⟨w,⟨a,b,c,d⟩,0,[],[],0,[]⟩ l2
     rw [hw] at hc
     rcases hc with ⟨e,_⟩ | ⟨e,_⟩ | ⟨_,_,e⟩ | ⟨e,_⟩ | ⟨e,_⟩ | ⟨e,_⟩ | ⟨e,_⟩ | e
     all_goals first | exact absurd e (by simp) | (rw [e]; rfl)
    | some n =>
     obtain ⟨cl,rfl⟩:=Jfz (Qke h2 hw).1
     rw [Jbq,Qsg (Jcs h2 hw _) rfl]
     show Qac (Qbk 2097153 ([l0,l1,l2]++(ls++[z])) 3 Q22 2) _=some (Qw0 z ls 2 ⟨w,⟨a,b,c,d⟩,cl,[],[],0,[]⟩ 3)
     rw [Q83 (k:=2) (kk:=2) (at_:=3) (pre:=[l0,l1,l2]) (λx hx=>hs x (by simp [hx])) (by simp; omega) (by omega) rfl rfl,Qab]
     exact Jih ls [l0,l1,l2] [] 2097153 2 (λx hx=>hs x (by simp [hx])) (by simp; omega) (by simp) (by omega) (.inl rfl)
theorem Jan {s:ByteArray} (hs:s.size≤1048576):Qhw 2097153 s=some (rdM s):=by
 unfold Qhw rdM
 have e:=Q58 (b:=10) hs
 rw [show ((10:UInt8).toNat:Int)=10 from rfl] at e
 rw [e,Qab]
 obtain ⟨ls,z,h1,h2,h3⟩:=Q4x 10 s
 have hsz:=λx hx=>Nat.le_trans (Qsr (b:=10) (s:=s) (x:=x) hx) hs
 have hn:=(Qsa 10 s).2
 rw [h2,h3]
 rw [h1] at hsz hn ⊢
 simp only [List.length_append,List.length_singleton] at hn ⊢
 rw [Qa1 (by omega) (by omega),show ((ls.length+1:Nat):Int) - 1=ls.length by omega]
 by_cases h61:61<ls.length+1
 · rw [Qa0 (by simp; omega),if_pos h61]; rfl
 rw [Qam (by simp; omega),if_neg h61]
 cases ls with
 | nil=>rfl
 | cons l0 ls =>
  rw [Qam (by simp; omega)]
  have hr:∀ x∈ls,x.size≤1048576:=λx hx=>hsz x (by simp [hx])
  simp only [List.length_cons] at h61
  rw [show ix (l0::ls++[z]) 0=some l0 from rfl,Qab]
  show (bif (!(l0.toList==wWF.toList)) then (bif (!(l0.toList==wWN.toList)) then _ else _) else _)=_
  have j2:∀ (k:Int),(l0=wWN→k=1)→(l0≠wWN→k=0)→Qgf 2097153 (l0::ls++[z])=some (Qw0 z ls 0 ⟨k,⟨0,0,0,0⟩,0,[],[],0,[]⟩ 1):=λk k1 k0=>by
   unfold Qgf
   rw [show ix (l0::ls++[z]) 0=some l0 from rfl,Qab]
   show (bif (l0.toList==wWN.toList) then Qd1 2097153 ([l0]++(ls++[z])) 1 else Qd1 2097153 ([l0]++(ls++[z])) 0)=_
   rw [Qwz,Jic hr (by omega),Jic hr (by omega)]
   by_cases hl:l0=wWN
   · rw [decide_eq_true hl,k1 hl]; rfl
   · rw [decide_eq_false hl,k0 hl]; rfl
  rw [Qwz,Qwz]
  by_cases hF:l0=wWF
  · rw [decide_eq_true hF,Bool.not_true,cond_false,j2 0 (λe=>absurd (e.symm.trans hF) (by decide)) λ_=>rfl,Qsg (k:=0) (q:=⟨0,⟨0,0,0,0⟩,0,[],[],0,[]⟩) ?_ rfl]; · rfl
    unfold ptl
    rw [if_pos hF]; rfl
  · rw [decide_eq_false hF,Bool.not_false,cond_true]
    by_cases hN:l0=wWN
    · rw [decide_eq_true hN,Bool.not_true,cond_false,j2 1 (λ_=>rfl) (λe=>absurd hN e),Qsg (k:=0) (q:=⟨1,⟨0,0,0,0⟩,0,[],[],0,[]⟩) ?_ rfl]; · rfl
      unfold ptl
      rw [if_neg hF,if_pos hN]; rfl
    · rw [decide_eq_false hN,Bool.not_false,cond_true,Qxp ?_]; · rfl
      have hc:=Qst R0 l0
      rcases hc with ⟨_,e⟩ | ⟨e,_⟩ | ⟨e,_⟩ | ⟨e,_⟩ | ⟨e,_⟩ | ⟨e,_⟩ | ⟨e,_⟩ | e
      · rcases e with e | e
        · exact absurd e hF
        · exact absurd e hN
      all_goals (rw [e]; rfl)
end Go.Proofs.YtpcmapfabndggaaGreatDoor
