/- RenamedBP: plain lem.. -/
import Derived.Test.YtndfoffokpdjeaaGreatDoorRenamedBP2
set_option linter.unusedSimpArgs false
set_option linter.unusedVariables false
namespace Go.Proofs.YtndfoffokpdjeaaGreatDoor
open Go
open Enc (rd ow)
open Arg (argv)
open Ret (retv)
open Wf (wf)
def zSp:Spot:=⟨0,0,0,0⟩
def ldA (l:List Load) (i:Int):Load:=(ix l i).getD zLd
def spB (l:List Box) (o y z:Int) (is:List Int) (s:List Spot×Int):List Spot×Int:=is.foldl (λs b=>(Qim s.1 b ⟨o,s.2,y,z⟩,s.2+(bxA l b).fW)) s
def spS (l:List Box) (sh:List Shelf) (o z:Int) (js:List Int) (s:List Spot×Int):List Spot×Int:=js.foldl (λs j=>((spB l o s.2 z (shA sh j).f9 (s.1,0)).1,s.2+(shA sh j).fD)) s
def spY (l:List Box) (sh:List Shelf) (ly:List Layer) (o:Int) (is:List Int) (s:List Spot×Int):List Spot×Int:=is.foldl (λs i=>((spS l sh o s.2 (lyA ly i).fP (s.1,0)).1,s.2+(lyA ly i).fH)) s
def spO (l:List Box) (sh:List Shelf) (ly:List Layer) (ld:List Load) (os:List Int) (out:List Spot):List Spot:=os.foldl (λout o=>(spY l sh ly o (ldA ld o).f8 (out,0)).1) out
def spM (p:Pallet) (l:List Box):List Spot:=bif Qya p l then spO l (shM p l) (lyM p (shM p l)) (ldM p (lyM p (shM p l))) (Qnf 0 (ldM p (lyM p (shM p l))).length) (List.replicate l.length zSp) else []
theorem Qx0 {α:Type} (l:List α) (i:Int) (y:α):(Qim l i y).length=l.length:=by simp [Qim]
theorem Q0v (l:List Box) (o y z:Int):∀ (is:List Int) (s:List Spot×Int),(spB l o y z is s).1.length=s.1.length
 | [],_=>rfl
 | i::is,s=>by
  have:=Q0v l o y z is (Qim s.1 i ⟨o,s.2,y,z⟩,s.2+(bxA l i).fW)
  rw [Qx0] at this
  exact this
theorem Q00 (l:List Box) (sh:List Shelf) (o z:Int):∀ (is:List Int) (s:List Spot×Int),(spS l sh o z is s).1.length=s.1.length
 | [],_=>rfl
 | i::is,s=>by
  have:=Q00 l sh o z is ((spB l o s.2 z (shA sh i).f9 (s.1,0)).1,s.2+(shA sh i).fD)
  rw [Q0v] at this
  exact this
theorem Q1i (l:List Box) (sh:List Shelf) (ly:List Layer) (o:Int):∀ (is:List Int) (s:List Spot×Int),(spY l sh ly o is s).1.length=s.1.length
 | [],_=>rfl
 | i::is,s=>by
  have:=Q1i l sh ly o is ((spS l sh o s.2 (lyA ly i).fP (s.1,0)).1,s.2+(lyA ly i).fH)
  rw [Q00] at this
  exact this
theorem Q89 (l:List Box) (sh:List Shelf) (ly:List Layer) (ld:List Load):∀ (os:List Int) (out:List Spot),(spO l sh ly ld os out).length=out.length
 | [],_=>rfl
 | o::os,out=>by
  have:=Q89 l sh ly ld os (spY l sh ly o (ldA ld o).f8 (out,0)).1
  rw [Q1i] at this
  exact this
theorem Q3v {p:Pallet} {l:List Box} (h:Qya p l=true):(spM p l).length=l.length:=by
 unfold spM
 rw [h,cond_true,Q89,List.length_replicate]
theorem Q6s {p:Pallet} {l:List Box} (h:Qya p l=true):OkS p (shM p l):=λs hs=>by
 have:=(Q1l h).1 s hs
 exact ⟨this.d,this.h,this.g⟩
theorem Q74 {p:Pallet} {l:List Shelf} (h:OkS p l):OkY p (lyM p l):=λs hs=>by
 have:=(Q0c h).1 s hs
 exact ⟨this.d,this.h,this.g⟩
theorem Jc2 {fu:Nat} (hfu:2097153≤fu) (p:Pallet) (l:List Box) (hl:l.length≤1000):Ql1 fu p l=some (spM p l):=by
 unfold Ql1 spM
 rw [Q8k (by omega),Qaa,Jgj p l (by omega) (by omega),Qaa]
 cases hb:Qya p l
 · rfl
 · obtain ⟨a1,a2,a3⟩:=Q1l hb
   have hS:=Q6s hb
   obtain ⟨y1,y2,y3⟩:=Q0c hS
   have hY:=Q74 hS
   obtain ⟨d1,d2,d3⟩:=Q3s hY
   have hpb:=Q0a hb
   obtain ⟨q1,q2,q3,q4⟩:=Qvw hpb
   rw [Bool.not_true,cond_false,cond_true,Q8c hfu p l hl,Qaa,Q96 hfu hpb hS (by omega),Qaa,Jc9 hfu hpb hY (by omega),Qaa]
   have f1:∀ s∈shM p l,s.f9.length≤1000:=λs hs=>by
    have:=Qqn (λs:Shelf=>s.f9) _ s hs
    rw [a2,Qr4] at this; omega
   have f2:∀ s∈lyM p (shM p l),s.fP.length≤1000:=λs hs=>by
    have:=Qqn (λs:Layer=>s.fP) _ s hs
    rw [y2,Qcf] at this; omega
   have f3:∀ s∈ldM p (lyM p (shM p l)),s.f8.length≤1000:=λs hs=>by
    have:=Qqn (λs:Load=>s.f8) _ s hs
    rw [d2,Qcf] at this; omega
   generalize ldM p (lyM p (shM p l))=ld at d1 d3 f3 ⊢
   generalize lyM p (shM p l)=ly at y1 y3 hY d1 d3 f2 ⊢
   generalize shM p l=sh at a1 a3 hS y1 y3 f1 ⊢
   have L4:=Q5i (ld.length:Int) (λn (out:List Spot) o=>Qbg fu l sh ly ld n out o) (λos out=>some (spO l sh ly ld os out)) (λos out=>out.length=l.length) (by omega) ?_ ?_ ld.length fu (List.replicate l.length zSp) 0 (by omega) (by omega) (by omega) (by simp)
   · exact L4
   · intro n out o os o0 o1 hd hI ih
     obtain ⟨x,hx⟩:=Q3b (l:=ld) o0 o1
     have ex:ldA ld o=x:=by unfold ldA; rw [hx]; rfl
     have hxm:=d1 x (Qm0 hx)
     have hxl:=f3 x (Qm0 hx)
     simp only [Qbg.eq_2]
     unfold Qkq
     rw [hd,cond_true]
     have L3:=lpI x.f8 (λm (s:List Spot×Int) i=>Qb7 fu (Qbg fu l sh ly ld n) l sh ly ld o m s.1 s.2 i) (λis s=>Qbg fu l sh ly ld n (spY l sh ly o is s).1 (w64 (o+1))) (λis s=>s.1.length=l.length∧(∀ i∈is,0≤i∧i<ly.length)∧0≤s.2∧s.2+2000*is.length≤2000000) (by omega) ?_ ?_ fu (out,0) ⟨hI,hxm.inn,by simp,by simp; omega⟩ (by omega)
     · refine L3.trans ?_
       rw [ih _ (by rw [Q1i]; exact hI)]
       simp only [spO,List.foldl_cons,ex]
     · intro m ⟨out,z⟩ i j is hj hd hI ih
       obtain ⟨i1,i2,i3,i4⟩:out.length=l.length∧(∀ i∈j::is,0≤i∧i<ly.length)∧0≤z∧z+2000*((j::is).length:Int)≤2000000:=hI
       simp only [List.length_cons] at i4
       obtain ⟨hly,t1,t2,t3,hmem⟩:=Q1u hY (i2 j (by simp))
       have hyi:=y1 _ hmem
       have hyl:=f2 _ hmem
       simp only [Qb7.eq_2]
       unfold Qlb
       rw [hx,Qaa,hd,cond_true,Qaa,hj,Qaa,hly,Qaa]
       have L2:=lpI (lyA ly j).fP (λq (s:List Spot×Int) k=>Qdh fu (Qb7 fu (Qbg fu l sh ly ld n) l sh ly ld o m) l sh o z i (lyA ly j) q s.1 s.2 k) (λks s=>Qb7 fu (Qbg fu l sh ly ld n) l sh ly ld o m (spS l sh o z ks s).1 (w64 (z+(lyA ly j).fH)) (w64 (i+1))) (λks s=>s.1.length=l.length∧(∀ i∈ks,0≤i∧i<sh.length)∧0≤s.2∧s.2+2000*ks.length≤2000000) (by omega) ?_ ?_ fu (out,0) ⟨i1,hyi.inn,by simp,by simp; omega⟩ (by omega)
       · refine L2.trans ?_
         rw [Qay (n:=z+_) (by omega) (by omega)]
         exact ih ((spS l sh o z (lyA ly j).fP (out,0)).1,z+(lyA ly j).fH) ⟨by rw [Q00]; exact i1,λi hi=>i2 i (by simp [hi]),by simp; omega,by simp; omega⟩
       · intro q ⟨out,y⟩ k b ks hb2 hd hI ih
         obtain ⟨i1,i2,i3,i4⟩:out.length=l.length∧(∀ i∈b::ks,0≤i∧i<sh.length)∧0≤y∧y+2000*((b::ks).length:Int)≤2000000:=hI
         simp only [List.length_cons] at i4
         obtain ⟨hsh,u1,u2,u3,hmem2⟩:=Q1v hS (i2 b (by simp))
         have hsi:=a1 _ hmem2
         have hsl:=f1 _ hmem2
         simp only [Qdh.eq_2]
         unfold Qjx
         rw [hd,cond_true,hb2,Qaa,hsh,Qaa]
         have L1:=lpI (shA sh b).f9 (λq' (s:List Spot×Int) k'=>Qgb fu (Qdh fu (Qb7 fu (Qbg fu l sh ly ld n) l sh ly ld o m) l sh o z i (lyA ly j) q) l o z y k (shA sh b) q' s.1 s.2 k') (λbs s=>Qdh fu (Qb7 fu (Qbg fu l sh ly ld n) l sh ly ld o m) l sh o z i (lyA ly j) q (spB l o y z bs s).1 (w64 (y+(shA sh b).fD)) (w64 (k+1))) (λbs s=>s.1.length=l.length∧(∀ i∈bs,0≤i∧i<l.length)∧0≤s.2∧s.2+2000*bs.length≤2000000) (by omega) ?_ ?_ fu (out,0) ⟨i1,hsi.inn,by simp,by simp; omega⟩ (by omega)
         · refine L1.trans ?_
           rw [Qay (n:=y+_) (by omega) (by omega)]
           exact ih ((spB l o y z (shA sh b).f9 (out,0)).1,y+(shA sh b).fD) ⟨by rw [Q0v]; exact i1,λi hi=>i2 i (by simp [hi]),by simp; omega,by simp; omega⟩
         · intro q' ⟨out,x'⟩ k' c bs hc hd hI ih
           obtain ⟨i1,i2,i3,i4⟩:out.length=l.length∧(∀ i∈c::bs,0≤i∧i<l.length)∧0≤x'∧x'+2000*((c::bs).length:Int)≤2000000:=hI
           simp only [List.length_cons] at i4
           have hcr:=i2 c (by simp)
           obtain ⟨hbx,v1,v2,v3,v4⟩:=Q1x hb hcr
           obtain ⟨sp,hsp⟩:=Q3b (l:=out) hcr.1 (by omega)
           simp only [Qgb.eq_2]
           unfold Qkj
           rw [hd,cond_true,hc,Qaa,hsp,Qaa,Qaa,hbx,Qaa,Qay (n:=x'+_) (by omega) (by omega)]
           exact ih (Qim out c ⟨o,x',y,z⟩,x'+(bxA l c).fW) ⟨by rw [Qx0]; exact i1,λi hi=>i2 i (by simp [hi]),by simp; omega,by simp; omega⟩
         · intro q' ⟨out,x'⟩ k' hd _
           simp only [Qgb.eq_2]
           unfold Qkj
           rw [hd,cond_false]; rfl
       · intro q ⟨out,y⟩ k hd _
         simp only [Qdh.eq_2]
         unfold Qjx
         rw [hd,cond_false]; rfl
     · intro m ⟨out,z⟩ i hd _
       simp only [Qb7.eq_2]
       unfold Qlb
       rw [hx,Qaa,hd,cond_false]; rfl
   · intro n out o hd _
     simp only [Qbg.eq_2]
     unfold Qkq
     rw [hd,cond_false]; rfl
def Q9p (n:Int) (out:List Spot):Prop:=∀ s∈out,0≤s.fJ∧s.fJ≤n
theorem Q93 {n:Int} {out:List Spot} {i:Int} {s:Spot} (h:Q9p n out) (hs:0≤s.fJ∧s.fJ≤n):Q9p n (Qim out i s):=by
 intro t ht
 unfold Qim at ht
 rcases List.mem_or_eq_of_mem_set ht with ht | rfl
 · exact h t ht
 · exact hs
theorem Q8b {n:Int} (l:List Box) (o y z:Int) (ho:0≤o∧o≤n):∀ (is:List Int) (s:List Spot×Int),Q9p n s.1→Q9p n (spB l o y z is s).1
 | [],_,h=>h
 | i::is,s,h=>Q8b l o y z ho is (Qim s.1 i ⟨o,s.2,y,z⟩,s.2+(bxA l i).fW) (Q93 h ho)
theorem Q7x {n:Int} (l:List Box) (sh:List Shelf) (o z:Int) (ho:0≤o∧o≤n):∀ (is:List Int) (s:List Spot×Int),Q9p n s.1→Q9p n (spS l sh o z is s).1
 | [],_,h=>h
 | i::is,s,h=>Q7x l sh o z ho is ((spB l o s.2 z (shA sh i).f9 (s.1,0)).1,s.2+(shA sh i).fD) (Q8b l o s.2 z ho _ (s.1,0) h)
theorem Q9j {n:Int} (l:List Box) (sh:List Shelf) (ly:List Layer) (o:Int) (ho:0≤o∧o≤n):∀ (is:List Int) (s:List Spot×Int),Q9p n s.1→Q9p n (spY l sh ly o is s).1
 | [],_,h=>h
 | i::is,s,h=>Q9j l sh ly o ho is ((spS l sh o s.2 (lyA ly i).fP (s.1,0)).1,s.2+(lyA ly i).fH) (Q7x l sh o s.2 ho _ (s.1,0) h)
theorem Q81 {n:Int} (l:List Box) (sh:List Shelf) (ly:List Layer) (ld:List Load):∀ (os:List Int) (out:List Spot),(∀ o∈os,0≤o∧o≤n)→Q9p n out→Q9p n (spO l sh ly ld os out)
 | [],_,_,h=>h
 | o::os,out,ho,h=>Q81 l sh ly ld os (spY l sh ly o (ldA ld o).f8 (out,0)).1 (λq hq=>ho q (by simp [hq])) (Q9j l sh ly o (ho o (by simp)) _ (out,0) h)
theorem Jbq {p:Pallet} {l:List Box} (hl:l.length≤1000):∀ s∈spM p l,0≤s.fJ∧s.fJ≤1000:=by
 unfold spM
 cases hb:Qya p l
 · simp
 · have a3:=(Q1l hb).2.2
   have hS:=Q6s hb
   have y3:=(Q0c hS).2.2
   have d3:=(Q3s (Q74 hS)).2.2
   rw [cond_true]
   refine Q81 l _ _ _ _ _ (λo ho=>?_) λs hs=>?_
   · have:=Qhy.1 ho; omega
   · rw [(List.mem_replicate.1 hs).2]; simp [zSp]
def Jk7 (r:Request) (k:Int):Bool:=inb k 0 (((Qmt r).length:Int) - 1)
theorem Qzj {r:Request} {k:Int} (h:Jk7 r k=true):Qgq r=0:=by
 unfold Jk7 at h
 rw [Qcd] at h
 by_cases hc:Qgq r=0
 · exact hc
 · have:Qmt r=[]:=by
     unfold Qmt Q1r
     rw [show (Qgq r==0)=false by simp [hc]]
     rfl
   rw [this] at h
   simp at h
   omega
theorem Q4x (r:Request) (g:List Int) (u i:Int) (us:List Int) {x:Item} (hx:ix r.fV i=some x):ofG r g u (i::us)=bif g.contains x.fL then u::ofG r g (u+1) us else ofG r g (u+1) us:=by
 rw [ofG,hx]
theorem Jj5 {fu:Nat} {r:Request} (h:Sm fu r) (k:Int):Qow fu r k=some (Q1o r k):=by
 have hfu:=h.fu
 unfold Qow Q1o
 rw [Jct h,Qaa,Q9g,Q2x,Qaa]
 cases hg:inb k 0 (((Qmt r).length:Int) - 1)
 · rw [Bool.not_false,cond_true]
   have:ix (Qmt r) k=none:=by
    have hk:¬ (0≤k∧k≤((Qmt r).length:Int) - 1):=by intro hk; rw [(Qcd).2 hk] at hg; cases hg
    unfold ix
    by_cases h0:0≤k
    · rw [if_pos h0,List.getElem?_eq_none (by omega)]
    · rw [if_neg h0]
   rw [this]
 · have hc:=Qzj hg
   rw [Qcd] at hg
   obtain ⟨j,rfl⟩:∃ j:Nat,k=j:=⟨k.toNat,by omega⟩
   have hj:j<(Qmt r).length:=by omega
   have hgl:=(Qs5 r).2 _ (List.getElem_mem hj)
   rw [Bool.not_true,cond_false,Ji9 h (Qec hc).1,Qaa,Qx6 hj]
   have e:Qlr r=l6M r:=by unfold Qlr; rw [show (Qgq r==0)=true by simp [hc],cond_true]
   simp only [e]
   have hlen:(l6M r).length≤12:=Q7a (Qec hc).1
   have:=Jfn (l6M r) (λn out i=>Qe1 fu r (j:Int) (Qmt r) (l6M r) n out i) (λpre xs out=>some (out++ofG r (Qmt r)[j] (pre.length:Int) xs)) (λpre xs out=>out.length+xs.length≤12) (by omega) ?_ ?_ fu [] (by simpa using hlen) (by omega)
   · simpa using this
   · intro n out pre i xs hl hx hd hI ih
     simp only [List.length_cons] at hI
     have hi:i∈Qlr r:=by rw [e,hl]; simp
     have hi2:=Q1m hi
     obtain ⟨q,rfl⟩:∃ q:Nat,i=q:=⟨i.toNat,by omega⟩
     have hq:q<r.fV.length:=by omega
     simp only [Qe1.eq_2]
     unfold Qkv Qi9
     simp only [hd,cond_true,hx,Qaa,Qx6 hj,Qx6 hq,Jhl (show (Qmt r)[j].length≤1048576 by omega) (show (Qmt r)[j].length<fu by omega)]
     rw [Q4x r _ _ _ _ (Qx6 hq)]
     cases (Qmt r)[j].contains r.fV[q].fL
     · rw [cond_false,cond_false,ih _ (by omega)]
       simp
     · rw [cond_true,cond_true,ap1 (by simp; omega),Qaa,ih _ (by simp; omega)]
       simp
   · intro n out hd hI
     simp only [Qe1.eq_2]
     unfold Qkv
     simp only [hd,cond_false]
     simp [ofG]
theorem Jjc {fu:Nat} {r:Request} (h:Sm fu r) (k:Int):Qou fu r k=some (Q1o r k):=by
 have hfu:=h.fu
 unfold Qou Q1o
 rw [Jer h,Qaa,Q9g,Qyd,Qaa]
 cases hg:inb k 0 (((Qmt r).length:Int) - 1)
 · rw [Bool.not_false,cond_true]
   have:ix (Qmt r) k=none:=by
    have hk:¬ (0≤k∧k≤((Qmt r).length:Int) - 1):=by intro hk; rw [(Qcd).2 hk] at hg; cases hg
    unfold ix
    by_cases h0:0≤k
    · rw [if_pos h0,List.getElem?_eq_none (by omega)]
    · rw [if_neg h0]
   rw [this]
 · have hc:=Qzj hg
   rw [Qcd] at hg
   obtain ⟨j,rfl⟩:∃ j:Nat,k=j:=⟨k.toNat,by omega⟩
   have hj:j<(Qmt r).length:=by omega
   have hgl:=(Qs5 r).2 _ (List.getElem_mem hj)
   rw [Bool.not_true,cond_false,Jc3 h,Qaa,Qx6 hj]
   have hlen:=Q0r r
   have:=Jfn (Qlr r) (λn out i=>Qe3 fu r (j:Int) (Qmt r) (Qlr r) n out i) (λpre xs out=>some (out++ofG r (Qmt r)[j] (pre.length:Int) xs)) (λpre xs out=>out.length+xs.length≤12) (by omega) ?_ ?_ fu [] (by simpa using hlen) (by omega)
   · simpa using this
   · intro n out pre i xs hl hx hd hI ih
     simp only [List.length_cons] at hI
     have hi:i∈Qlr r:=by rw [hl]; simp
     have hi2:=Q1m hi
     obtain ⟨q,rfl⟩:∃ q:Nat,i=q:=⟨i.toNat,by omega⟩
     have hq:q<r.fV.length:=by omega
     simp only [Qe3.eq_2]
     unfold Qj5 Qja
     simp only [hd,cond_true,hx,Qaa,Qx6 hj,Qx6 hq,Jjx (show (Qmt r)[j].length≤1048576 by omega) (show (Qmt r)[j].length<fu by omega)]
     rw [Q4x r _ _ _ _ (Qx6 hq)]
     cases (Qmt r)[j].contains r.fV[q].fL
     · rw [cond_false,cond_false,ih _ (by omega)]
       simp
     · rw [cond_true,cond_true,ap1 (by simp; omega),Qaa,ih _ (by simp; omega)]
       simp
   · intro n out hd hI
     simp only [Qe3.eq_2]
     unfold Qj5
     simp only [hd,cond_false]
     simp [ofG]
def Jgv (l:List Int):List Int:=l.mergeSort λx y=>decide (x≤y)
theorem Qxg (l:List Int):(Jgv l).Perm l:=List.mergeSort_perm l _
theorem Jay (l:List Int):(Jgv l).length=l.length:=(Qxg l).length_eq
def Q4u (r:Request) (k:Int) (l:List Int):Carton:=⟨(Qx2 r l).1.f0,k,Jgv l⟩
def Q2p (r:Request) (k:Int):List Carton:=(pwM r (Q1o r k)).map (Q4u r k)
def Qxo (r:Request):List Int→List Carton
 | []=>[]
 | k::ks=>Q2p r k++Qxo r ks
def Qtl (r:Request):List Carton:=Qxo r (Qnf 0 (Qmt r).length)
theorem Q7l (l:List Int):(Qnf 0 l.length).map (λp=>(ix l p).getD 0)=l:=by
 have key:∀ (xs pre:List Int),l=pre++xs→(Qnf pre.length xs.length).map (λp=>(ix l p).getD 0)=xs:=by
  intro xs
  induction xs with
  | nil=>intro pre _; rfl
  | cons x xs ih =>
   intro pre he
   have h1:=ih (pre++[x]) (by simp [he])
   simp only [List.length_append,List.length_singleton] at h1
   simp only [List.length_cons,Qnf,List.map_cons]
   rw [show ((pre.length:Int)+1)=((pre.length+1:Nat):Int) by omega,h1]
   congr 1
   rw [Qlf,he]
   simp
 exact key l [] rfl
theorem Je5 (l:List Int):(srt (kf l) l.length).map (λp=>(ix l p).getD 0)=Jgv l:=by
 refine Jey ?_ ?_ (Qs8 l)
 · refine ((Qtj _ _).map _).trans ?_
   rw [Q7l]
   exact (Qxg l).symm
 · refine List.pairwise_map.2 ((Qu0 (kf l) l.length).imp fun {p q} h=>?_)
   unfold lx kf at h
   omega
theorem Q4s {r:Request} (k:Int):(Q2p r k).length≤12:=by
 have:=(Q41 (r:=r) (Qwl r k)).1
 simp [Q2p]; omega
theorem Ji4 {fu:Nat} {r:Request} (h:Sm fu r):Qli fu r=some (Qtl r):=by
 have hfu:=h.fu
 have hg:=(Qs5 r).1
 unfold Qli Qtl
 rw [Jer h,Qaa]
 have:=Q5i ((Qmt r).length:Int) (λn out i=>Qcm fu r (Qmt r) n out i) (λxs out=>some (out++Qxo r xs)) (λxs out=>out.length+12*xs.length≤48) (by omega) ?_ ?_ (Qmt r).length fu [] 0 (by omega) (by omega) (by omega) (by simp [Qcf]; omega)
 · simpa using this
 · intro n out k ks h0 h1 hd hI ih
   simp only [List.length_cons] at hI
   have hul:=Qwl r k
   have hpo:=Q41 (r:=r) hul
   simp only [Qcm.eq_2]
   unfold Qhw
   rw [hd,cond_true,Jjc h,Qaa,Ji3 h _ (by omega),Qaa]
   have key:=lpI (pwM r (Q1o r k)) (λm o i=>Qet fu (Qcm fu r (Qmt r) n) r k (pwM r (Q1o r k)) m o i) (λxs o=>Qcm fu r (Qmt r) n (o++xs.map (Q4u r k)) (w64 (k+1))) (λxs o=>o.length+xs.length≤48∧∀ l∈xs,l.length≤12) (by have:=hpo.1; omega) ?_ ?_ fu out ⟨by have:=hpo.1; omega,hpo.2⟩ (by have:=hpo.1; omega)
   · rw [key,ih _ (by have:=hpo.1; simp; omega)]
     simp [Qxo,Q2p]
   · intro m o i l xs hx hd hI ih
     obtain ⟨h2,h3⟩:=hI
     simp only [List.length_cons] at h2
     have hl:=h3 l (by simp)
     simp only [Qet.eq_2]
     unfold Qh9
     rw [hd,cond_true,hx,Qaa,Jea h l (by omega),Qaa,show Qc2 fu l=some (Jgv l) from Q5l (by omega),Qaa,ap1 (by simp; omega),Qaa,ih _ ⟨by simp; omega,λy hy=>h3 y (by simp [hy])⟩]
     simp [Q4u]
   · intro m o i hd _
     simp only [Qet.eq_2]
     unfold Qh9
     rw [hd,cond_false]; simp
 · intro n out k hd _
   simp only [Qcm.eq_2]
   unfold Qhw
   rw [hd,cond_false]; simp [Qxo]
theorem Jjz {fu:Nat} {r:Request} (h:Sm fu r):Qlh fu r=some (Qtl r):=by
 have hfu:=h.fu
 have hg:=(Qs5 r).1
 unfold Qlh Qtl
 rw [Jct h,Qaa]
 have:=Q5i ((Qmt r).length:Int) (λn out i=>Qa4 fu r (Qmt r) n out i) (λxs out=>some (out++Qxo r xs)) (λxs out=>out.length+12*xs.length≤48) (by omega) ?_ ?_ (Qmt r).length fu [] 0 (by omega) (by omega) (by omega) (by simp [Qcf]; omega)
 · simpa using this
 · intro n out k ks h0 h1 hd hI ih
   simp only [List.length_cons] at hI
   have hul:=Qwl r k
   have hpo:=Q41 (r:=r) hul
   simp only [Qa4.eq_2]
   unfold Qh2
   rw [hd,cond_true,Jj5 h,Qaa,Jjw h _ (by omega),Qaa]
   have key:=lpI (pwM r (Q1o r k)) (λm o i=>Qbz fu (Qa4 fu r (Qmt r) n) r k (pwM r (Q1o r k)) m o i) (λxs o=>Qa4 fu r (Qmt r) n (o++xs.map (Q4u r k)) (w64 (k+1))) (λxs o=>o.length+xs.length≤48∧∀ l∈xs,l.length≤12) (by have:=hpo.1; omega) ?_ ?_ fu out ⟨by have:=hpo.1; omega,hpo.2⟩ (by have:=hpo.1; omega)
   · rw [key,ih _ (by have:=hpo.1; simp; omega)]
     simp [Qxo,Q2p]
   · intro m o i l xs hx hd hI ih
     obtain ⟨h2,h3⟩:=hI
     simp only [List.length_cons] at h2
     have hl:=h3 l (by simp)
     simp only [Qbz.eq_2]
     unfold Qib Qkp
     rw [hd,cond_true,hx,Qaa,Jcn h l (by omega),Qaa,Qaa,Jk5 hfu (by omega),Qaa]
     have hsl:=Qr4 (kf l) l.length
     have hsm:=λx=>Qu4 (k:=kf l) (n:=l.length) (x:=x)
     have hsg:=Je5 l
     generalize srt (kf l) l.length=S at hsl hsm hsg ⊢
     have k1:=lpI S (λm' us j=>Qer fu (Qbz fu (Qa4 fu r (Qmt r) n) r k (pwM r (Q1o r k)) m) k (pwM r (Q1o r k)) o i (Qx2 r l).1 S m' us j)
      (λxs us=>Qab (Qfd 40 o [(⟨(Qx2 r l).1.f0,k,us++xs.map λp=>(ix l p).getD 0⟩:Carton)]) λx=>Qhg fu (Qbz fu (Qa4 fu r (Qmt r) n) r k (pwM r (Q1o r k)) m) i x) (λxs us=>us.length+xs.length≤12∧∀ p∈xs,0≤p∧p<l.length) (by omega) ?_ ?_ fu [] ⟨by simp; omega,λp hp=>(hsm p).1 hp⟩ (by omega)
     · rw [k1,List.nil_append,hsg,ap1 (by simp; omega),Qaa]
       unfold Qhg
       rw [ih _ ⟨by simp; omega,λy hy=>h3 y (by simp [hy])⟩]
       simp [Q4u]
     · intro m' us j p ps hp hd hI ih
       obtain ⟨h4,h5⟩:=hI
       simp only [List.length_cons] at h4
       simp only [Qer.eq_2]
       unfold Qh1
       rw [hd,cond_true,hx,Qaa,hp,Qaa,Q5z (h5 p (by simp)),Qaa,ap1 (by simp; omega),Qaa,ih _ ⟨by simp; omega,λy hy=>h5 y (by simp [hy])⟩]
       simp
     · intro m' us j hd _
       simp only [Qer.eq_2]
       unfold Qh1
       rw [hd,cond_false]; simp
   · intro m o i hd _
     simp only [Qbz.eq_2]
     unfold Qib Qkd
     rw [hd,cond_false]; simp
 · intro n out k hd _
   simp only [Qa4.eq_2]
   unfold Qh2
   rw [hd,cond_false]; simp [Qxo]
theorem Q45 (r:Request):∀ (ks:List Int),(Qxo r ks).length≤12*ks.length
 | []=>by simp [Qxo]
 | k::ks=>by
  have:=Q45 r ks
  have:=Q4s (r:=r) k
  simp [Qxo]; omega
theorem Qwr (r:Request):(Qtl r).length≤48:=by
 have:=Q45 r (Qnf 0 (Qmt r).length)
 have hg:=(Qs5 r).1
 rw [Qcf] at this
 unfold Qtl
 omega
theorem Q31 {r:Request} {c:Carton}:∀ {ks:List Int},c∈Qxo r ks↔∃ k∈ks,∃ l∈pwM r (Q1o r k),c=Q4u r k l
 | []=>by simp [Qxo]
 | k::ks=>by
  simp only [Qxo,List.mem_append,Q31 (ks:=ks),List.mem_cons,Q2p,List.mem_map]
  constructor
  · rintro (⟨l,hl,rfl⟩ | ⟨k',hk,l,hl,e⟩)
    · exact ⟨k,.inl rfl,l,hl,rfl⟩
    · exact ⟨k',.inr hk,l,hl,e⟩
  · rintro ⟨k',rfl | hk,l,hl,rfl⟩
    · exact .inl ⟨l,hl,rfl⟩
    · exact .inr ⟨k',hk,l,hl,rfl⟩
theorem Qw1 {r:Request} {c:Carton} (h:c∈Qtl r):c.qQ.length≤12:=by
 obtain ⟨k,_,l,hl,rfl⟩:=Q31.1 h
 have:=(Q41 (r:=r) (Qwl r k)).2 l hl
 simp only [Q4u,Jay]
 omega
def Je7:List Int→Int
 | []=>1
 | x::xs=>x*Je7 xs
theorem Q9y {a b:List Int} (h:a.Perm b):Je7 a=Je7 b:=by
 induction h with
 | nil=>rfl
 | cons x _ ih=>simp only [Je7,ih]
 | swap x y l=>simp only [Je7,← Int.mul_assoc]; rw [Int.mul_comm x y]
 | trans _ _ h1 h2=>rw [h1,h2]
theorem Q6n (a b c:Int):(sid a b c).1*((sid a b c).2.1*(sid a b c).2.2)=a*b*c:=by
 have h:=Q8g a b c
 unfold Q1b at h
 simp only [List.length_cons,List.length_nil] at h
 rw [if_pos (by omega)] at h
 have hp:=List.mergeSort_perm [a,b,c] λx y=>decide (x≤y)
 rw [Option.some.inj h] at hp
 have:=Q9y hp
 simp only [Je7,Int.mul_one] at this
 rw [this,Int.mul_assoc]
theorem Jgh {a b c m:Int} (ha:m≤a) (hb:m≤b) (hc:m≤c):m≤(sid a b c).1:=by
 unfold sid
 simp only
 split <;> split <;> omega
theorem Jcw {x:Item} {t:Typ} (hx:Quf x=true) (ht:Qxs t=true) (h:Qub x t=true):Q5p x≤Q9t t∧x.fQ≤t.fQ:=by
 simp only [Quf,Bool.and_eq_true,Qcd] at hx
 simp only [Qxs,Bool.and_eq_true,Qcd] at ht
 simp only [Qub,Bool.and_eq_true,decide_eq_true_eq] at h
 obtain ⟨⟨⟨h1,h2⟩,h3⟩,h4⟩:=h
 refine ⟨?_,h4⟩
 have e1:Q5p x=x.fW*x.fH*x.fD:=by
  unfold Q5p Q5u
  rw [show (inb x.fW 0 2000&&(inb x.fH 0 2000&&inb x.fD 0 2000))=true by simp; omega,cond_true]
 have e2:Q9t t=t.fW*t.fH*t.fD:=by
  unfold Q9t Q5u
  rw [show (inb t.fW 0 2000&&(inb t.fH 0 2000&&inb t.fD 0 2000))=true by simp; omega,cond_true]
 rw [e1,e2,← Q6n x.fW x.fH x.fD,← Q6n t.fW t.fH t.fD]
 have p1:1≤(sid x.fW x.fH x.fD).1:=Jgh (by omega) (by omega) (by omega)
 have s1:=Qzq x.fW x.fH x.fD
 have s2:=Qzq t.fW t.fH t.fD
 refine Int.mul_le_mul h1 ?_ (Int.mul_nonneg (by omega) (by omega)) (by omega)
 exact Int.mul_le_mul h2 h3 (by omega) (by omega)
theorem Q0i {r:Request} {u:Int} (h:0≤u∧u<(Qlr r).length):Quk r u∈r.fV:=(Q8x (Qu2 h)).2
theorem Q4c {r:Request} {u:Int} (h:0≤u∧u<(Qlr r).length):Qgq r=0:=(Q8x (Qu2 h)).1
theorem Q7y {r:Request} (hc:Qgq r=0):Qrc r r.fR=some (Qsv r)∧Qsv r∈r.fG∧Qxs (Qsv r)=true:=by
 have h:=(Qec hc).2.1
 unfold Q2w at h
 simp only [Bool.and_eq_true] at h
 obtain ⟨t,ht⟩:=Option.isSome_iff_exists.1 h.1.2
 have e:Qsv r=t:=by unfold Qsv; rw [ht]; rfl
 have hm:t∈r.fG:=List.mem_of_find?_eq_some ht
 rw [e]
 exact ⟨ht,hm,Qsa (Qec hc).1 t hm⟩
theorem Q7u {r:Request} {u:Int} (h:0≤u∧u<(Qlr r).length):Quo r [u]=Q5p (Quk r u)∧Qtw r [u]=(Quk r u).fQ:=by
 unfold Quo Qtw Qtm
 simp [List.filterMap_cons,Qu2 h]
theorem Q8n {r:Request} {u:Int} (h:0≤u∧u<(Qlr r).length):Qzp r [u] (Qsv r)=true:=by
 have hc:=Q4c h
 have hz:=Qec hc
 have hm:=Q0i h
 obtain ⟨h1,h2⟩:=Jcw ((Qof hz.1).1 _ hm) (Q7y hc).2.2 (hz.2.2.2.1 _ hm)
 unfold Qzp
 rw [(Q7u h).1,(Q7u h).2,Bool.and_eq_true,decide_eq_true_iff,decide_eq_true_iff]
 exact ⟨h1,h2⟩
def Qc (r:Request) (us:List Int) (l:List Int):Prop:=l≠[]∧(∀ u∈l,u∈us)∧Qzp r l (Qsv r)=true
theorem Jf9 {r:Request} {us:List Int} {out:List (List Int)} {u:Int} (h:∀ l∈out,Qc r us l) (hu:u∈us) (hr:0≤u∧u<(Qlr r).length):∀ l∈Q98 r out u,Qc r us l:=by
 have hn:Qc r us [u]:=⟨by simp,λv hv=>by rw [List.mem_singleton.1 hv]; exact hu,Q8n hr⟩
 intro l hl
 unfold Q98 Jfe at hl
 split at hl
 · rename_i i hi
   obtain ⟨x,hx,hg⟩:=Qww hi
   rw [hx] at hl
   rcases List.mem_or_eq_of_mem_set hl with hl | rfl
   · exact h l hl
   · have hq:=h x (List.mem_of_getElem? hx)
     refine ⟨by simp,λv hv=>?_,hg⟩
     rcases List.mem_append.1 hv with hv | hv
     · exact hq.2.1 v hv
     · rw [List.mem_singleton.1 hv]; exact hu
 · rcases List.mem_append.1 hl with hl | hl
   · exact h l hl
   · rw [List.mem_singleton.1 hl]; exact hn
theorem Jg5 {r:Request} {us:List Int} {out:List (List Int)} {u:Int} (h:∀ l∈out,Qc r us l) (hu:u∈us) (hr:0≤u∧u<(Qlr r).length):∀ l∈Q3m r out u,Qc r us l:=by
 have hn:Qc r us [u]:=⟨by simp,λv hv=>by rw [List.mem_singleton.1 hv]; exact hu,Q8n hr⟩
 intro l hl
 cases hlast:out.getLast? with
 | none =>
  unfold Q3m at hl
  rw [hlast] at hl
  rw [List.mem_singleton.1 hl]; exact hn
 | some x =>
  rw [Qxm u hlast] at hl
  have hq:=h x (List.mem_of_getLast? hlast)
  cases hg:Qwz r u x
  · rw [hg,cond_false] at hl
    rcases List.mem_append.1 hl with hl | hl
    · exact h l hl
    · rw [List.mem_singleton.1 hl]; exact hn
  · rw [hg,cond_true] at hl
    rcases List.mem_or_eq_of_mem_set hl with hl | rfl
    · exact h l hl
    · refine ⟨by simp,λv hv=>?_,hg⟩
      rcases List.mem_append.1 hv with hv | hv
      · exact hq.2.1 v hv
      · rw [List.mem_singleton.1 hv]; exact hu
theorem Q8o {r:Request} {us:List Int} {F:List (List Int)→Int→List (List Int)} (hF:∀ out u,(∀ l∈out,Qc r us l)→u∈us→(0≤u∧u<(Qlr r).length)→∀ l∈F out u,Qc r us l):∀ (vs:List Int) (out:List (List Int)),(∀ u∈vs,u∈us∧0≤u∧u<(Qlr r).length)→(∀ l∈out,Qc r us l)→∀ l∈vs.foldl F out,Qc r us l
 | [],out,_,h=>h
 | v::vs,out,hv,h=>by
  rw [List.foldl_cons]
  have h1:=hv v (by simp)
  exact Q8o hF vs _ (λu hu=>hv u (by simp [hu])) (hF out v h h1.1 h1.2)
theorem Q9f (r:Request) (us:List Int):(Q6x r us).Perm us:=by
 unfold Q6x
 refine ((Qtj _ _).map _).trans ?_
 have key:∀ (xs pre:List Int),us=pre++xs→(Qnf pre.length xs.length).map (λp=>(ix us p).getD 0)=xs:=by
  intro xs
  induction xs with
  | nil=>intro pre _; rfl
  | cons x xs ih =>
   intro pre he
   have h1:=ih (pre++[x]) (by simp [he])
   simp only [List.length_append,List.length_singleton] at h1
   simp only [List.length_cons,Qnf,List.map_cons]
   rw [show ((pre.length:Int)+1)=((pre.length+1:Nat):Int) by omega,h1]
   congr 1
   rw [Qlf,he]
   simp
 have:=key us [] rfl
 simp only [List.length_nil] at this
 exact List.Perm.of_eq this
theorem Jlr {r:Request} {us:List Int}:∀ l∈pwM r us,Qc r (Qtk r us) l:=by
 unfold pwM nfM ffM
 have ht:∀ u∈Qtk r us,u∈Qtk r us∧0≤u∧u<(Qlr r).length:=λu hu=>⟨hu,Qw6 hu⟩
 cases r.fO==1
 · rw [cond_false]
   exact Q8o (λout u h hu hr=>Jf9 h hu hr) _ [] (λu hu=>ht u ((Q9f r _).mem_iff.1 hu)) (by simp)
 · rw [cond_true]
   exact Q8o (λout u h hu hr=>Jg5 h hu hr) _ [] ht (by simp)
def Q8q:List Carton→Nat
 | []=>0
 | x::xs=>x.qQ.length+Q8q xs
structure Sp (x:Plan):Prop where
 cars:x.fK.length≤1048576
 units:∀ c∈x.fK,c.qQ.length≤1048576
 all:Q8q x.fK≤1048576
 spots:x.qY.length≤1048576
def Jd3:List Int→List Int→Bool
 | _,[]=>true
 | pre,x::xs=>inb x 0 999&&((match pre.getLast? with | none=>true | some y=>decide (y<x))&&Jd3 (pre++[x]) xs)
def Jih (l:List Int):Bool:=Jd3 [] l&&decide ((l.length:Int)≤100)
def Jii (c:Carton):Bool:=inb c.qJ 0 999&&(inb c.ft 0 3&&Jih c.qQ)
def Jh3 (s:Spot):Bool:=inb s.fJ 0 2000&&(inb s.fX 0 2000&&(inb s.fY 0 2000&&inb s.fZ 0 2000))
def Jgr (x:Plan):Bool:=x.qY.length==x.fK.length&&(decide ((x.fK.length:Int)≤100)&&(x.fK.zip x.qY).all λp=>Jii p.1&&Jh3 p.2)
theorem Jdg {pre:List Int} {x:Int} {xs l:List Int} (hl:l.length≤1048576) (e:l=pre++x::xs):(pre.getLast? = none∧pre.length=0)∨∃ y,pre.getLast? = some y∧0<pre.length∧ix l (w64 ((pre.length:Int) - 1))=some y:=by
 cases hp:pre.getLast? with
 | none=>exact .inl ⟨rfl,by simpa using List.getLast?_eq_none_iff.1 hp⟩
 | some y =>
  have hne:pre≠[]:=λe=>by subst e; simp at hp
  have hpos:0<pre.length:=List.length_pos_iff.2 hne
  refine .inr ⟨y,rfl,hpos,?_⟩
  have h1:w64 ((pre.length:Int) - 1)=((pre.length - 1:Nat):Int):=by
   have:pre.length≤l.length:=by rw [e]; simp
   rw [Qay (by omega) (by omega)]; omega
  rw [h1,Qlf,e,List.getElem?_append_left (by omega),← List.getLast?_eq_getElem?,hp]
theorem Ji2 {fu:Nat} {l:List Int} (hl:l.length≤1048576) (hf:l.length<fu):Qjg fu l=some (Jih l):=by
 unfold Qjg Jih
 have key:=lpP l (λn (_:Unit) i=>Qdj fu l n i) (λpre xs _=>some (Jd3 pre xs&&decide ((l.length:Int)≤100))) (by omega) ?_ ?_ fu () hf
 · exact key
 · intro n _ pre x xs e hx hd ih
   have ih:=ih ()
   simp only [Qdj.eq_2]
   unfold Qhn Qgw Jd3
   rw [hd,cond_true,hx,Qaa,Qyd,Qaa]
   cases inb x 0 999
   · rfl
   · rw [Bool.not_true,cond_false,Bool.true_and]
     rcases Jdg (hl:=hl) e with ⟨h1,h2⟩ | ⟨y,h1,h2,h3⟩
     · rw [h1,show decide ((pre.length:Int)>0)=false from decide_eq_false (by omega),cond_false,ih]
       simp
     · rw [h1,show decide ((pre.length:Int)>0)=true from decide_eq_true (by omega),cond_true,h3,Qaa,ih]
       by_cases hy:y<x
       · rw [show decide (y≥x)=false by simp; omega,cond_false]; simp [hy]
       · rw [show decide (y≥x)=true by simp; omega,cond_true]; simp [hy]
 · intro n _ hd
   simp only [Qdj.eq_2]
   unfold Qhn
   rw [hd,cond_false]
   simp [Jd3]
theorem Jcb {α β:Type} {a:List α} {b:List β} {i:Int} {p:α×β} (h:ix (a.zip b) i=some p):ix a i=some p.1∧ix b i=some p.2:=by
 obtain ⟨h0,_,h1⟩:=Qaf h
 have:=List.getElem?_zip_eq_some.1 h1
 unfold ix
 rw [if_pos h0,if_pos h0]
 exact this
theorem Jjm {fu:Nat} {x:Plan} (h:Sp x) (hf:1048577≤fu):Qqd fu x=some (Jgr x):=by
 have hs:=h.spots
 have hc:=h.cars
 unfold Qqd Jgr
 cases he:x.qY.length==x.fK.length
 · have:((x.qY.length:Int) != (x.fK.length:Int))=true:=by simp at he ⊢; omega
   rw [this]; rfl
 · have el:x.qY.length=x.fK.length:=by simpa using he
   have:((x.qY.length:Int) != (x.fK.length:Int))=false:=by simp; omega
   rw [this,cond_false,Bool.true_and]
   by_cases h1:(x.fK.length:Int)≤100
   · rw [show decide ((x.fK.length:Int)>100)=false by simp; omega,cond_false,show decide ((x.fK.length:Int)≤100)=true by simpa using h1,Bool.true_and]
     unfold Qpc
     have hz:(x.fK.zip x.qY).length=x.fK.length:=by simp; omega
     have key:=lp (x.fK.zip x.qY) (λn (_:Unit) i=>Qfy fu x n i) (λl _=>some (l.all λp=>Jii p.1&&Jh3 p.2)) (by omega) ?_ ?_ fu () (by omega)
     · exact key
     · intro n _ i p xs hx hd ih
       have ih:=ih ()
       obtain ⟨e1,e2⟩:=Jcb hx
       have hu:=h.units p.1 (Qm0 e1)
       rw [hz] at hd
       simp only [Qfy.eq_2]
       unfold Qmf Qo9
       simp only [hd,cond_true,e1,e2,Qaa,Qyd,Ji2 hu (show p.1.qQ.length<fu by omega),Jeq,ih,List.all_cons]
       unfold Jii Jh3
       cases inb p.1.qJ 0 999 <;> cases inb p.1.ft 0 3 <;> cases Jih p.1.qQ <;> cases inb p.2.fJ 0 2000 <;> cases inb p.2.fX 0 2000 <;> cases inb p.2.fY 0 2000 <;> cases inb p.2.fZ 0 2000 <;> rfl
     · intro n _ i hd
       rw [hz] at hd
       simp only [Qfy.eq_2]
       unfold Qmf
       simp [hd]
   · rw [show decide ((x.fK.length:Int)>100)=true by simp; omega,cond_true,show decide ((x.fK.length:Int)≤100)=false by simpa using h1,Bool.false_and]
def cs (x:Plan):List (Carton×Spot):=x.fK.zip x.qY
theorem Q7s (r:Request) (us:List Int):∀ (l:List Typ) (s:Typ×Bool),(l.foldl (chp r us) s).2=(s.2||l.any (Qyq r us))
 | [],s=>by simp
 | t::l,s=>by
  rw [List.foldl_cons,Q7s r us l,List.any_cons]
  unfold chp
  obtain ⟨b,f⟩:=s
  cases Qyq r us t <;> cases f <;> simp
  cases (decide (t.fE<b.fE)||t.fE==b.fE&&decide (t.f0<b.f0)) <;> simp
theorem Jai {r:Request} {us:List Int} {t:Typ} (ht:t∈r.fG) (h:Qyq r us t=true):(Qx2 r us).2=true:=by
 unfold Qx2
 rw [Q7s]
 simp only [Bool.false_or]
 exact List.any_eq_true.2 ⟨t,ht,h⟩
theorem Q8a {a b:List Int} (h:a.Perm b):Qvo a=Qvo b:=by
 induction h with
 | nil=>rfl
 | cons x _ ih=>simp [ih]
 | swap x y l=>simp; omega
 | trans _ _ h1 h2=>rw [h1,h2]
theorem Jag {r:Request} {a b:List Int} (h:a.Perm b):(Qtm r a).Perm (Qtm r b):=h.filterMap _
theorem Q97 {r:Request} {a b:List Int} (h:a.Perm b):Qtw r a=Qtw r b:=Q8a ((Jag h).map _)
theorem Q46 {f:Typ→Int}:∀ (xs pre:List Typ) (t:Typ),Q2g f pre xs=true→t∈xs→(∀ y∈pre,f y≠f t)∧xs.find? (λy=>f y==f t)=some t
 | [],_,_,_,h=>by simp at h
 | x::xs,pre,t,hn,h=>by
  simp only [Q2g,Bool.and_eq_true,Bool.not_eq_true'] at hn
  have hx:=List.any_eq_false.1 hn.1
  rcases List.mem_cons.1 h with rfl | h
  · exact ⟨λy hy e=>hx y hy (by simp [e]),by simp⟩
  · have ih:=Q46 xs (pre++[x]) t hn.2 h
    refine ⟨λy hy=>ih.1 y (by simp [hy]),?_⟩
    have:=ih.1 x (by simp)
    have e:(f x==f t)=false:=by simpa using this
    rw [List.find?_cons,e]
    exact ih.2
theorem Jac {r:Request} (hc:Qgq r=0) {t:Typ} (ht:t∈r.fG):Qrc r t.f0=some t:=by
 have h:=(Qec hc).2.1
 unfold Q2w at h
 simp only [Bool.and_eq_true] at h
 exact (Q46 r.fG [] t h.1.1.1 ht).2
theorem Q5a (r:Request) (us:List Int):∀ (l:List Typ) (s:Typ×Bool),(∀ t∈l,t∈r.fG)→(s.2=true→s.1∈r.fG∧Qyq r us s.1=true)→(l.foldl (chp r us) s).2=true→(l.foldl (chp r us) s).1∈r.fG∧Qyq r us (l.foldl (chp r us) s).1=true
 | [],s,_,h,h2=>h h2
 | t::l,s,hl,h,h2=>by
  rw [List.foldl_cons] at h2 ⊢
  refine Q5a r us l _ (λx hx=>hl x (by simp [hx])) (λh3=>?_) h2
  unfold chp at h3 ⊢
  cases hh:Qyq r us t&&(!s.2||(decide (t.fE<s.1.fE)||(t.fE==s.1.fE&&decide (t.f0<s.1.f0))))
  · rw [hh,cond_false] at h3
    rw [cond_false]
    exact h h3
  · rw [Bool.and_eq_true] at hh
    rw [cond_true]
    exact ⟨hl t (by simp),hh.1⟩
theorem Jau {r:Request} {us l:List Int} (h:Qc r (Qtk r us) l):Qyq r l (Qsv r)=true:=by
 obtain ⟨h1,h2,h3⟩:=h
 obtain ⟨u,hu⟩:=List.exists_mem_of_ne_nil _ h1
 have hc:=Q4c (Qw6 (h2 u hu))
 have hz:=Qec hc
 unfold Qyq
 rw [show (Qgq r==0)=true by simp [hc],Bool.true_and,h3,Bool.and_true,List.all_eq_true]
 intro v hv
 have hv':=Qw6 (h2 v hv)
 unfold uOk
 rw [Qu2 hv',Bool.and_eq_true]
 exact ⟨rfl,hz.2.2.2.1 _ (Q0i hv')⟩
theorem Jie {r:Request} {us l:List Int} (h:Qc r (Qtk r us) l):Qgq r=0∧(Qx2 r l).2=true∧(Qx2 r l).1∈r.fG∧Qyq r l (Qx2 r l).1=true∧Qrc r (Qx2 r l).1.f0=some (Qx2 r l).1:=by
 obtain ⟨u,hu⟩:=List.exists_mem_of_ne_nil _ h.1
 have hc:=Q4c (Qw6 (h.2.1 u hu))
 have h2:=Jai (Q7y hc).2.1 (Jau h)
 have h3:=Q5a r l r.fG (Jff,false) (λ_ h=>h) (by simp) h2
 exact ⟨hc,h2,h3.1,h3.2,Jac hc h3.1⟩
theorem Jdw {r:Request} {us l:List Int} (h:Qc r (Qtk r us) l):1≤Qtw r l:=by
 obtain ⟨h1,h2,_⟩:=h
 match l,h1 with
 | u::l,_ =>
  have hu:=Qw6 (h2 u (by simp))
  have hc:=Q4c hu
  have:=(Qof (Qec hc).1).1 _ (Q0i hu)
  simp only [Quf,Bool.and_eq_true,Qcd] at this
  have h3:=(Q6o r l).1
  rw [Q33]
  omega
theorem Jee {r:Request} {us l:List Int} (h:Qc r (Qtk r us) l) (k:Int):Qz9 r (Q4u r k l)=⟨(Qx2 r l).1.fW,(Qx2 r l).1.fD,(Qx2 r l).1.fH,(Qx2 r l).1.fF+Qtw r l⟩∧Jah r.fJ (Qz9 r (Q4u r k l))=true:=by
 obtain ⟨hc,_,ht,hh,hf⟩:=Jie h
 have hz:=Qec hc
 have e:Qz9 r (Q4u r k l)=⟨(Qx2 r l).1.fW,(Qx2 r l).1.fD,(Qx2 r l).1.fH,(Qx2 r l).1.fF+Qtw r l⟩:=by
  unfold Qz9 Q4u
  simp only [hf,show (Qgq r==0)=true by simp [hc],cond_true,Q97 (Qxg l)]
 refine ⟨e,?_⟩
 have ht1:=Qsa hz.1 _ ht
 have ht2:=hz.2.2.2.2 _ ht
 simp only [Qxs,Bool.and_eq_true,Qcd] at ht1
 simp only [Q39,Bool.or_eq_false_iff,decide_eq_false_iff_not] at ht2
 rw [Qay (by omega) (by omega)] at ht2
 have hg:=Jdw h
 unfold Qyq at hh
 simp only [Bool.and_eq_true] at hh
 have hw:=hh.2.2
 unfold Qzp at hw
 simp only [Bool.and_eq_true,decide_eq_true_eq] at hw
 rw [e]
 simp only [Jah,Bool.and_eq_true,Qcd]
 omega
def Qvl (r:Request) (k:Int):List Box:=((Qtl r).filter λc=>c.ft==k).map (Qz9 r)
def plS (r:Request) (s:List Spot×Int) (k:Int):List Spot×Int:=(s.1++(spM r.fJ (Qvl r k)).map (λt=>⟨t.fJ+s.2,t.fX,t.fY,t.fZ⟩),s.2+Jcg (spM r.fJ (Qvl r k)))
def Qx9 (r:Request):Plan×Bool:=bif Qgq r==0 then (⟨Qtl r,((Qnf 0 (Qmt r).length).foldl (plS r) ([],0)).1⟩,true) else (⟨[],[]⟩,false)
theorem Qwu (r:Request) (k:Int):∀ (ks:List Int),ks.Nodup→((Qxo r ks).filter λc=>c.ft==k)=bif ks.contains k then Q2p r k else []
 | [],_=>rfl
 | j::ks,hn=>by
  obtain ⟨h1,h2⟩:=List.nodup_cons.1 hn
  have ih:=Qwu r k ks h2
  rw [Qxo,List.filter_append,ih]
  have hj:∀ c∈Q2p r j,c.ft=j:=by
   intro c hc
   unfold Q2p at hc
   obtain ⟨l,_,rfl⟩:=List.mem_map.1 hc
   rfl
  by_cases e:k=j
  · subst e
    have e1:(Q2p r k).filter (λc=>c.ft==k)=Q2p r k:=List.filter_eq_self.2 λc hc=>by simp [hj c hc]
    have e2:ks.contains k=false:=by simpa using h1
    rw [e1,e2]
    simp
  · have e1:(Q2p r j).filter (λc=>c.ft==k)=[]:=List.filter_eq_nil_iff.2 λc hc=>by simp [hj c hc]; omega
    rw [e1]
    have e2:(j::ks).contains k=ks.contains k:=by simp [e]
    rw [e2]; rfl
theorem Q4b {r:Request} {k:Int} (h:0≤k∧k<(Qmt r).length):Qvl r k=(Q2p r k).map (Qz9 r):=by
 unfold Qvl Qtl
 rw [Qwu r k _ (Q5m _ _)]
 rw [show (Qnf 0 (Qmt r).length).contains k=true by rw [List.contains_iff_mem,Qhy]; omega]
 rfl
theorem Q6e {r:Request} (hc:Qgq r=0) {k:Int} (h:0≤k∧k<(Qmt r).length):Qya r.fJ (Qvl r k)=true:=by
 have hb:=(Qec hc).1
 unfold Qx8 at hb
 simp only [Bool.and_eq_true] at hb
 unfold Qya
 rw [Q4b h,Bool.and_eq_true]
 refine ⟨hb.1.1.1.1.1.1.1.1.2,List.all_eq_true.2 λb hb=>?_⟩
 unfold Q2p at hb
 rw [List.map_map] at hb
 obtain ⟨l,hl,rfl⟩:=List.mem_map.1 hb
 exact (Jee (Jlr l hl) k).2
theorem Q9c (r:Request) (k:Int):(Qvl r k).length≤48:=by
 have h1:=List.length_filter_le (λc:Carton=>c.ft==k) (Qtl r)
 have h2:=Qwr r
 unfold Qvl
 rw [List.length_map]
 omega
theorem Jbz {r:Request} (hc:Qgq r=0):∀ (ks:List Int) (s:List Spot×Int),(∀ k∈ks,0≤k∧k<(Qmt r).length)→(ks.foldl (plS r) s).1.length=s.1.length+(Qxo r ks).length
 | [],s,_=>by simp [Qxo]
 | k::ks,s,h=>by
  rw [List.foldl_cons,Jbz hc ks _ λj hj=>h j (by simp [hj])]
  have hk:=h k (by simp)
  have h1:=Q3v (Q6e hc hk)
  rw [Q4b hk,List.length_map] at h1
  simp only [plS,Qxo,List.length_append,List.length_map,Q4b hk,h1]
  omega
theorem Jcs (r:Request):(Qx9 r).1.qY.length=(Qx9 r).1.fK.length∧(Qx9 r).1.fK.length≤48∧∀ c∈(Qx9 r).1.fK,c.qQ.length≤12:=by
 unfold Qx9
 cases hc:Qgq r==0
 · exact ⟨rfl,by simp,by simp⟩
 · rw [cond_true]
   have:=Jbz (r:=r) (by simpa using hc) (Qnf 0 (Qmt r).length) ([],0) λk hk=>by have:=Qhy.1 hk; omega
   exact ⟨by rw [this]; simp [Qtl],Qwr r,λc hc=>Qw1 hc⟩
theorem Jg8 {fu:Nat} {r:Request} (h:Sm fu r):Qp9 fu r=some (Qx9 r):=by
 have hfu:=h.fu
 have hg:=(Qs5 r).1
 have hcl:=Qwr r
 unfold Qp9 Qx9
 rw [Q01 h,Qaa]
 cases hc:Qgq r==0
 · rw [show (Qgq r != 0)=true by simp only [bne,hc]; rfl]; rfl
 · have hz:Qgq r=0:=by simpa using hc
   rw [show (Qgq r != 0)=false by simp [hz],cond_false,cond_true,Jjz h,Qaa,Jct h,Qaa]
   have L3:=Q5i ((Qmt r).length:Int) (λn (s:List Spot×Int) k=>Qcb fu r (Qtl r) (Qmt r) n s.1 s.2 k) (λks s=>some ((⟨Qtl r,(ks.foldl (plS r) s).1⟩:Plan),true)) (λks s=>(∀ k∈ks,0≤k∧k<(Qmt r).length)∧s.1.length+48*ks.length≤1000∧0≤s.2∧s.2+1000000*ks.length≤10000000) (by omega) ?_ ?_ (Qmt r).length fu ([],0) 0 (by omega) (by omega) (by omega) ⟨λk hk=>by have:=Qhy.1 hk; omega,by simp [Qcf]; omega,by simp,by simp [Qcf]; omega⟩
   · exact L3
   · intro n ⟨sp,base⟩ k ks k0 k1 hd hI ih
     obtain ⟨i1,i2,i3,i4⟩:(∀ j∈k::ks,0≤j∧j<(Qmt r).length)∧sp.length+48*(k::ks).length≤1000∧0≤base∧base+1000000*((k::ks).length:Int)≤10000000:=hI
     simp only [List.length_cons] at i2 i4
     simp only [Qcb.eq_2]
     unfold Qmm
     rw [hd,cond_true]
     have L2:=lpI (Qtl r) (λm (bs:List Box) i=>Qfx fu (Qcb fu r (Qtl r) (Qmt r) n) r (Qtl r) sp base k m bs i) (λcs bs=>Qab (Ql1 fu r.fJ (bs++(cs.filter λc=>c.ft==k).map (Qz9 r))) λx=>Qfu fu (Qcb fu r (Qtl r) (Qmt r) n) base k x fu sp 0) (λcs bs=>bs.length+cs.length≤48∧∀ c∈cs,c.qQ.length≤12) (by omega) ?_ ?_ fu [] ⟨by simpa using hcl,λc hc=>Qw1 hc⟩ (by omega)
     · refine L2.trans ?_
       have hbl:=Q9c r k
       rw [List.nil_append,show ((Qtl r).filter λc=>c.ft==k).map (Qz9 r)=Qvl r k from rfl,Jc2 hfu _ _ (by omega),Qaa]
       have hsl:=Q3v (Q6e hz ⟨k0,k1⟩)
       have hpb:=Q60 (spM r.fJ (Qvl r k))
       have hps:∀ s∈spM r.fJ (Qvl r k),s∈spM r.fJ (Qvl r k):=λ_ h=>h
       have ih':=ih (plS r (sp,base) k) ⟨λj hj=>i1 j (by simp [hj]),by simp [plS]; omega,by simp [plS]; omega,by simp [plS]; omega⟩
       rw [List.foldl_cons,← ih']
       have hS:=Jgo (fu:=fu) (l:=spM r.fJ (Qvl r k)) (by omega) (by omega)
       have hwf:∀ s∈spM r.fJ (Qvl r k),w64 (s.fJ+base)=s.fJ+base:=by
        intro s hs
        have:=Jbq (p:=r.fJ) (l:=Qvl r k) (by omega) s hs
        exact Qay (by omega) (by omega)
       generalize hSP:spM r.fJ (Qvl r k)=S at hsl hpb hS hwf ⊢
       have L1:=lpI S (λm (o:List Spot) i=>Qfu fu (Qcb fu r (Qtl r) (Qmt r) n) base k S m o i) (λxs o=>Qcb fu r (Qtl r) (Qmt r) n (o++xs.map (λt=>⟨t.fJ+base,t.fX,t.fY,t.fZ⟩)) (base+Jcg S) (w64 (k+1))) (λxs o=>o.length+xs.length≤1000∧∀ s∈xs,w64 (s.fJ+base)=s.fJ+base) (by omega) ?_ ?_ fu sp ⟨by omega,hwf⟩ (by omega)
       · refine L1.trans ?_
         simp only [plS,hSP]
       · intro m o i x xs hx hd hI ih
         obtain ⟨j1,j2⟩:=hI
         simp only [List.length_cons] at j1
         simp only [Qfu.eq_2]
         unfold Ql5
         rw [hd,cond_true,hx,Qaa,j2 x (by simp),ap1 (by simp; omega),Qaa,ih _ ⟨by simp; omega,λs hs=>j2 s (by simp [hs])⟩]
         simp
       · intro m o i hd hI
         simp only [Qfu.eq_2]
         unfold Ql5
         rw [hd,cond_false,hS,Qaa,Qay (n:=base+_) (by omega) (by omega)]
         simp
     · intro m bs i c cs hx hd hI ih
       obtain ⟨j1,j2⟩:=hI
       simp only [List.length_cons] at j1
       have hcu:=j2 c (by simp)
       simp only [Qfx.eq_2]
       unfold Qmd Qlk
       rw [hd,cond_true,hx,Qaa,Qaa,Jhn h c (by omega),Qaa,ap1 (by simp; omega),Qaa,ih _ ⟨by simp; omega,λc hc=>j2 c (by simp [hc])⟩,ih _ ⟨by omega,λc hc=>j2 c (by simp [hc])⟩,List.filter_cons]
       cases c.ft==k <;> simp
     · intro m bs i hd _
       simp only [Qfx.eq_2]
       unfold Qmd
       rw [hd,cond_false]; simp
   · intro n ⟨sp,base⟩ k hd _
     simp only [Qcb.eq_2]
     unfold Qmm
     rw [hd,cond_false]; rfl
def itN (x:Item):Item:=⟨0,x.fW,x.fH,x.fD,x.fQ,x.fL,x.fM⟩
def shT (n:Int) (t:Typ):Typ:=⟨t.f0,t.fW,t.fH,t.fD,t.fF,t.fQ,t.fE+n⟩
structure Ren (n:Int) (r q:Request):Prop where
 way:q.fO=r.fO
 pal:q.fJ=r.fJ
 cl:q.fU=r.fU
 prs:q.fT=r.fT
 mas:q.fR=r.fR
 typ:q.fG=r.fG.map (shT n)
 itm:q.fV.map itN=r.fV.map itN
 z:Qgq r=0
 y:Qgq q=0
theorem Jge {α β:Type} (f:α→β) (l:List α) (i:Int):ix (l.map f) i=(ix l i).map f:=by
 unfold ix
 split <;> simp
theorem Q8y (l:List Item):∀ (i:Int),Q2k i (l.map itN)=Q2k i l:=by
 induction l with
 | nil=>intro i; rfl
 | cons x l ih=>intro i; rw [List.map_cons,Q2k,Q2k,ih]; rfl
section
variable {n:Int} {r q:Request}
theorem Jcf (h:Ren n r q) (i:Int):(ix q.fV i).map itN=(ix r.fV i).map itN:=by rw [← Jge,← Jge,h.itm]
theorem Q3u (h:Ren n r q):Qlr q=Qlr r:=by
 unfold Qlr
 rw [h.z,h.y]
 unfold l6M
 rw [← Q8y q.fV,← Q8y r.fV,h.itm]
theorem Q9b (h:Ren n r q) (u:Int):(Qwi q u).map itN=(Qwi r u).map itN:=by
 unfold Qwi
 rw [Q3u h]
 cases ix (Qlr r) u with
 | none=>rfl
 | some i=>exact Jcf h i
theorem Q53 (h:Ren n r q) (us:List Int):(Qtm q us).map itN=(Qtm r us).map itN:=by
 unfold Qtm
 rw [List.map_filterMap,List.map_filterMap]
 congr 1
 funext u
 exact Q9b h u
theorem Q80 (h:Ren n r q) (us:List Int):Quo q us=Quo r us:=by
 have e:∀ l:List Item,l.map Q5p=(l.map itN).map Q5p:=λl=>by rw [List.map_map]; rfl
 unfold Quo
 rw [e (Qtm q us),e (Qtm r us),Q53 h]
theorem Q6z (h:Ren n r q) (us:List Int):Qtw q us=Qtw r us:=by
 have e:∀ l:List Item,l.map (·.fQ)=(l.map itN).map (·.fQ):=λl=>by rw [List.map_map]; rfl
 unfold Qtw
 rw [e (Qtm q us),e (Qtm r us),Q53 h]
theorem Q8d (h:Ren n r q) (us:List Int) (t:Typ):Qzp q us (shT n t)=Qzp r us t:=by
 unfold Qzp
 rw [Q80 h,Q6z h]
 rfl
theorem Jc6 (h:Ren n r q) (t:Typ) (u:Int):uOk q (shT n t) u=uOk r t u:=by
 have e:=Q9b h u
 have e1:(Qwi q u).isSome=(Qwi r u).isSome:=by
  have:=congrArg Option.isSome e
  simpa using this
 unfold uOk Quk
 rw [e1]
 cases h1:Qwi q u <;> cases h2:Qwi r u
 · rfl
 · rw [h1,h2] at e; simp at e
 · rw [h1,h2] at e; simp at e
 · rename_i x y
   rw [h1,h2] at e
   have e2:itN x=itN y:=Option.some.inj e
   have e3:∀ z:Item,Qub z (shT n t)=Qub (itN z) t:=λ_=>rfl
   have e4:Qub y t=Qub (itN y) t:=rfl
   simp only [Option.getD_some]
   rw [e3,e4,e2]
theorem Jdm (h:Ren n r q) (us:List Int) (t:Typ):Qyq q us (shT n t)=Qyq r us t:=by
 have e:uOk q (shT n t)=uOk r t:=funext λu=>Jc6 h t u
 unfold Qyq
 rw [h.z,h.y,e,Q8d h]
def shO (n:Int) (s:Typ×Bool):Typ×Bool:=if s.2=true then (shT n s.1,true) else s
theorem Jdb (h:Ren n r q) (us:List Int):Qx2 q us=shO n (Qx2 r us):=by
 have key:∀ (l:List Typ) (s:Typ×Bool),(l.map (shT n)).foldl (chp q us) (shO n s)=shO n (l.foldl (chp r us) s):=by
  intro l
  induction l with
  | nil=>intro s; rfl
  | cons t l ih =>
   intro s
   rw [List.map_cons,List.foldl_cons,List.foldl_cons,← ih]
   congr 1
   unfold chp
   rw [Jdm h]
   cases Qyq r us t
   · rfl
   · simp only [Bool.true_and]
     obtain ⟨s1,s2⟩:=s
     cases s2
     · rfl
     · show (bif (!true||(decide ((shT n t).fE<(shT n s1).fE)||((shT n t).fE==(shT n s1).fE&&decide (t.f0<s1.f0)))) then (shT n t,true) else (shT n s1,true))=shO n (bif (!true||(decide (t.fE<s1.fE)||(t.fE==s1.fE&&decide (t.f0<s1.f0)))) then (t,true) else (s1,true))
       have e1:decide ((shT n t).fE<(shT n s1).fE)=decide (t.fE<s1.fE):=by
        apply decide_eq_decide.2
        show t.fE+n<s1.fE+n↔_
        omega
       have e2:((shT n t).fE==(shT n s1).fE)=(t.fE==s1.fE):=by
        rw [Bool.eq_iff_iff,beq_iff_eq,beq_iff_eq]
        show t.fE+n=s1.fE+n↔_
        omega
       rw [e1,e2]
       cases (!true||(decide (t.fE<s1.fE)||(t.fE==s1.fE&&decide (t.f0<s1.f0)))) <;> rfl
 unfold Qx2
 rw [h.typ]
 exact key r.fG (Jff,false)
theorem Jh7 (s:Typ×Bool):(shO n s).1.f0=s.1.f0:=by
 unfold shO
 split <;> rfl
theorem Q84 (h:Ren n r q) (id:Int):Qrc q id=(Qrc r id).map (shT n):=by
 unfold Qrc
 rw [h.typ,List.find?_map]
 rfl
theorem Jdx (h:Ren n r q):Qsv q=shT n (Qsv r):=by
 have hn:=(Qec h.z).2.1
 unfold Q2w at hn
 simp only [Bool.and_eq_true] at hn
 have hs:=hn.1.2
 unfold Qsv
 rw [h.mas,Q84 h]
 cases ht:Qrc r r.fR with
 | none=>rw [ht] at hs; simp at hs
 | some t=>rfl
theorem Jex (h:Ren n r q) (u:Int) (l:List Int):Qwz q u l=Qwz r u l:=by
 unfold Qwz
 rw [Jdx h,Q8d h]
theorem Q3e (h:Ren n r q):Qmt q=Qmt r:=by
 have e:∀ (l:List Item) (c:Int),(l.any λx=>x.fL==c)=(l.map itN).any λx=>x.fL==c:=λl c=>by rw [List.any_map]; rfl
 unfold Qmt Q1r
 rw [h.z,h.y,h.prs]
 simp only [e q.fV,e r.fV,h.itm]
theorem Q73 (h:Ren n r q) (g:List Int):∀ (us:List Int) (u:Int),ofG q g u us=ofG r g u us
 | [],_=>rfl
 | i::us,u=>by
  unfold ofG
  rw [Q73 h g us]
  have:=Jcf h i
  cases h1:ix q.fV i <;> cases h2:ix r.fV i
  · rfl
  · rw [h1,h2] at this; simp at this
  · rw [h1,h2] at this; simp at this
  · rename_i x y
    rw [h1,h2] at this
    have e2:(itN x).fL=(itN y).fL:=congrArg Item.fL (Option.some.inj this)
    have e3:x.fL=y.fL:=e2
    simp only [e3]
theorem Jd2 (h:Ren n r q) (k:Int):Q1o q k=Q1o r k:=by
 unfold Q1o
 rw [Q3e h,Q3u h]
 cases ix (Qmt r) k with
 | none=>rfl
 | some g=>exact Q73 h g _ _
theorem Jg9 (h:Ren n r q) (us:List Int):pwM q us=pwM r us:=by
 have et:Qtk q us=Qtk r us:=by unfold Qtk; rw [Q3u h]
 have er:∀ u,Qwz q u=Qwz r u:=λu=>funext λl=>Jex h u l
 have en:Q3m q=Q3m r:=by funext o u; unfold Q3m; rw [er]
 have ef:Q98 q=Q98 r:=by funext o u; unfold Q98; rw [er]
 have eo:∀ l,Q6x q l=Q6x r l:=λl=>by unfold Q6x; simp only [Q80 h]
 unfold pwM nfM ffM
 rw [h.way,et,en,ef,eo]
theorem Q6d (h:Ren n r q):Qtl q=Qtl r:=by
 have e1:∀ k l,Q4u q k l=Q4u r k l:=λk l=>by unfold Q4u; rw [Jdb h,Jh7]
 have e2:∀ k,Q2p q k=Q2p r k:=λk=>by
  unfold Q2p
  rw [Jd2 h,Jg9 h]
  exact List.map_congr_left λl _=>e1 k l
 have e3:∀ ks,Qxo q ks=Qxo r ks:=by
  intro ks
  induction ks with
  | nil=>rfl
  | cons k ks ih=>rw [Qxo,Qxo,ih,e2]
 unfold Qtl
 rw [Q3e h,e3]
theorem Jd4 (h:Ren n r q) (c:Carton):Qz9 q c=Qz9 r c:=by
 unfold Qz9
 rw [Q84 h,h.z,h.y,Q6z h]
 cases Qrc r c.qJ <;> rfl
theorem Q6a (h:Ren n r q):Qx9 q=Qx9 r:=by
 have eb:Qz9 q=Qz9 r:=funext λc=>Jd4 h c
 have e1:∀ k,Qvl q k=Qvl r k:=λk=>by unfold Qvl; rw [Q6d h,eb]
 have e2:plS q=plS r:=by funext s k; unfold plS; rw [e1,h.pal]
 unfold Qx9
 rw [h.z,h.y,Q6d h,Q3e h,e2]
end
def Tot {α:Type} (o:Option α) (Q:α→Prop):Prop:=∃ x,o=some x∧Q x
theorem Tot.mk {α:Type} {x:α} {Q:α→Prop} (h:Q x):Tot (some x) Q:=⟨x,rfl,h⟩
theorem Tot.of {α:Type} {o:Option α} {x:α} {Q:α→Prop} (e:o=some x) (h:Q x):Tot o Q:=⟨x,e,h⟩
theorem Tot.bind {α β:Type} {m:Option α} {k:α→Option β} {R:α→Prop} {Q:β→Prop} (h:Tot m R) (hk:∀ x,R x→Tot (k x) Q):Tot (Qab m k) Q:=by
 obtain ⟨x,rfl,hx⟩:=h
 exact hk x hx
theorem Tot.bif {α:Type} {c:Bool} {a b:Option α} {Q:α→Prop} (h1:c=true→Tot a Q) (h2:c=false→Tot b Q):Tot (bif c then a else b) Q:=by
 cases c
 · exact h2 rfl
 · exact h1 rfl
theorem Tot.imp {α:Type} {o:Option α} {Q R:α→Prop} (h:Tot o Q) (hi:∀ x,Q x→R x):Tot o R:=by
 obtain ⟨x,e,hx⟩:=h
 exact ⟨x,e,hi x hx⟩
theorem Tot.ap {α β:Type} {bytes:Nat} {xs ys:List α} {k:List α→Option β} {Q:β→Prop} (h:(xs.length+ys.length)*bytes≤140737488355328) (hk:Tot (k (xs++ys)) Q):Tot (Qab (Qfd bytes xs ys) k) Q:=by
 rw [ap1 h]; exact hk
theorem Tot.ix {α β:Type} {l:List α} {i:Int} {k:α→Option β} {Q:β→Prop} (h:0≤i∧i<l.length) (hk:∀ x,x∈l→Tot (k x) Q):Tot (Qab (ix l i) k) Q:=by
 have e:=Qx6 (l:=l) (i:=i.toNat) (by omega)
 rw [show ((i.toNat:Nat):Int)=i by omega] at e
 rw [e]
 exact hk _ (List.getElem_mem _)
theorem lpT {σ β:Type} (b:Int) (L:Nat→σ→Int→Option β) (Q:β→Prop) (I:Int→σ→Prop) (hb:b≤1099511627776)
    (hs:∀ n s (i:Int),0≤i→i<b→I i s→(∀ s',I (i+1) s'→Tot (L n s' (w64 (i+1))) Q)→Tot (L (n+1) s i) Q)
    (he:∀ n s (i:Int),0≤i→b≤i→I i s→Tot (L (n+1) s i) Q):∀ (m:Nat) n s (a:Int),0≤a→(b - a).toNat=m→m<n→I a s→Tot (L n s a) Q:=by
 intro m
 induction m with
 | zero =>
  intro n s a ha hm hn hI
  obtain ⟨n,rfl⟩:∃ k,n=k+1:=⟨n - 1,by omega⟩
  exact he n s a ha (by omega) hI
 | succ m ih =>
  intro n s a ha hm hn hI
  obtain ⟨n,rfl⟩:∃ k,n=k+1:=⟨n - 1,by omega⟩
  refine hs n s a ha (by omega) hI λs' hI'=>?_
  rw [Qay (by omega) (by omega)]
  exact ih n s' (a+1) (by omega) (by omega) (by omega) hI'
def CO (b:List U8) (c:Cur):Prop:=c.fb=b∧0≤c.fi∧b.length≤1048576
theorem CO.re {b:List U8} {c c':Cur} (h:CO b c) (h':CO b c'):CO b ⟨c.fb,c'.fi,c'.fh⟩:=⟨h.1,h'.2⟩
theorem CO.re' {b:List U8} {c':Cur} (h':CO b c'):CO b ⟨b,c'.fi,c'.fh⟩:=⟨rfl,h'.2⟩
theorem Jb4 (x:Int):0≤IntKind.wrap .i64 (((BitVec.ofInt (IntKind.bits .i64) x &&& BitVec.ofInt (IntKind.bits .i64) 255).toNat:Nat):Int)∧IntKind.wrap .i64 (((BitVec.ofInt (IntKind.bits .i64) x &&& BitVec.ofInt (IntKind.bits .i64) 255).toNat:Nat):Int)≤255:=by
 have h:(BitVec.ofInt (IntKind.bits .i64) x &&& BitVec.ofInt (IntKind.bits .i64) 255).toNat≤255:=by
  rw [BitVec.toNat_and]
  have h2:(BitVec.ofInt (IntKind.bits .i64) 255).toNat=255:=by decide
  rw [h2]
  exact Nat.and_le_right
 have e:=Qay (n:=(((BitVec.ofInt (IntKind.bits .i64) x &&& BitVec.ofInt (IntKind.bits .i64) 255).toNat:Nat):Int)) (by omega) (by omega)
 unfold w64 at e
 rw [e]
 omega
theorem Qw4 {fu:Nat} {b:List U8} {c:Cur} (h:CO b c):Tot (Qgz fu c) λx=>(0≤x.1∧x.1≤255)∧CO b x.2:=by
 obtain ⟨h1,h2,h3⟩:=h
 unfold Qgz
 refine Tot.bif (λhc=>?_) λhc=>?_
 · have hlt:=of_decide_eq_true hc
   refine Tot.ix ⟨h2,hlt⟩ λx _=>Tot.mk ⟨Jb4 _,h1,?_,h3⟩
   show 0≤w64 (c.fi+1)
   rw [h1] at hlt
   rw [Qay (by omega) (by omega)]; omega
 · exact Tot.mk ⟨Jb4 _,h1,h2,h3⟩
theorem Qeh {fu:Nat} {b:List U8} {c:Cur} (h:CO b c) (n:Int):Tot (Qan fu c n) λx=>(0≤x.1∧(0<n→x.1<n))∧CO b x.2:=by
 unfold Qan
 refine Tot.bif (λhc=>?_) λhc=>?_
 · have hlt:=of_decide_eq_true hc
   exact Tot.mk ⟨⟨Int.le_refl _,λh=>by omega⟩,h⟩
 · have hn:0<n:=by simpa using hc
   refine Tot.bif (λhc=>?_) λhc=>?_
   · refine Tot.bind (Qw4 h) λx hx=>?_
     rw [Q6h (by omega),Qaa]
     exact Tot.mk ⟨⟨Int.tmod_nonneg _ hx.1.1,λ_=>Int.tmod_lt_of_pos _ hn⟩,h.re hx.2⟩
   · refine Tot.bind (Qw4 h) λx hx=>Tot.bind (Qw4 (h.re hx.2)) λy hy=>Tot.bind (Qw4 (h.re hy.2)) λz hz=>Tot.bind (Qw4 (h.re hz.2)) λq hq=>?_
     rw [Q6h (by omega),Qaa]
     obtain ⟨⟨x0,x1⟩,_⟩:=hx
     obtain ⟨⟨y0,y1⟩,_⟩:=hy
     obtain ⟨⟨z0,z1⟩,_⟩:=hz
     obtain ⟨⟨q0,q1⟩,hq2⟩:=hq
     refine Tot.mk ⟨⟨?_,λ_=>Int.tmod_lt_of_pos _ hn⟩,h.re hq2⟩
     apply Int.tmod_nonneg
     simp only [Qay (n:=x.1*16777216) (by omega) (by omega),Qay (n:=y.1*65536) (by omega) (by omega),Qay (n:=z.1*256) (by omega) (by omega)]
     rw [Qay (n:=x.1*16777216+y.1*65536) (by omega) (by omega),Qay (n:=x.1*16777216+y.1*65536+z.1*256) (by omega) (by omega),Qay (by omega) (by omega)]
     omega
theorem Q3r {fu:Nat} {b:List U8} {c:Cur} (h:CO b c) (n:Int):Tot (Qld fu c n) λx=>CO b x.2:=by
 unfold Qld
 exact Tot.bind (Qeh h n) λx hx=>Tot.mk (h.re hx.2)
theorem Qr5 {fu:Nat} {b:List U8} {c:Cur} (h:CO b c) (l:List Int) (hl:0<l.length):Tot (Qb9 fu c l) λx=>x.1∈l∧CO b x.2:=by
 unfold Qb9
 exact Tot.bind (Qeh h _) λx hx=>Tot.ix ⟨hx.1.1,hx.1.2 (by omega)⟩ λy hy=>Tot.mk ⟨hy,h.re hx.2⟩
theorem Jg3 {fu:Nat} {b:List U8} (hb:b.length≤1048576) (hf:1048577≤fu):Tot (Qq6 fu b) (CO b):=by
 unfold Qq6
 refine lpT (b.length:Int) (λn s i=>Qgn fu b n s i) (CO b) (λ_ _=>True) (by omega) ?_ ?_ b.length fu _ 0 (by omega) (by omega) (by omega) trivial
 · intro n s i h0 h1 _ ih
   simp only [Qgn.eq_2]
   unfold Qng Qpv
   rw [Qa2 (by simpa using h1)]
   refine Tot.bif (λhc=>?_) λhc=>?_
   · exact Tot.ix ⟨h0,h1⟩ λx _=>ih _ trivial
   · exact Tot.mk ⟨rfl,by simp,hb⟩
 · intro n s i h0 h1 _
   simp only [Qgn.eq_2]
   unfold Qng
   rw [Qah (by simp; omega)]
   exact Tot.mk ⟨rfl,by simp,hb⟩
def SmR (r:Request):Prop:=r.fT.length≤64∧r.fG.length≤64∧r.fV.length≤64
theorem SmR.sm {r:Request} (h:SmR r) {fu:Nat} (hf:2097153≤fu):Sm fu r:=⟨hf,by have:=h.1; omega,by have:=h.2.1; omega,by have:=h.2.2; omega⟩
theorem Qxq {α:Type} (l:List α) (i:Int) (y:α):(Qim l i y).length=l.length:=by simp [Qim]
theorem Q6y {α:Type} {l:List α} (h:0<l.length):sls l 1 (l.length:Int)=some (l.drop 1):=by
 rw [Qry (by omega)]
 congr 1
 exact List.take_of_length_le (by simp)
theorem Jiu (fu:Nat) (b:List U8):Qth fu b=some (decide ((b.length:Int)>1048576)):=rfl
end Go.Proofs.YtndfoffokpdjeaaGreatDoor
