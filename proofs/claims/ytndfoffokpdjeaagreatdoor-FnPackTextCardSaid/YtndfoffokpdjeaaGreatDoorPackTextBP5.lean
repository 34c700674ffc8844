/- PackTextBP: plain le.. -/
import Derived.Test.YtndfoffokpdjeaaGreatDoorPackTextBP4
set_option linter.unusedSimpArgs false
set_option linter.unusedVariables false
namespace Go.Proofs.YtndfoffokpdjeaaGreatDoor
open Go
open Enc (rd ow)
open Arg (argv)
open Ret (retv)
open Wf (wf)
theorem Jb0 (z:ByteArray):∀ (ls:List ByteArray) (last:Int) (r:Request) (i:Int) (n:Nat),r.fT.length≤n∧r.fG.length≤n∧r.fV.length≤n→(Qya z ls last r i).1.fT.length≤n+ls.length∧(Qya z ls last r i).1.fG.length≤n+ls.length∧(Qya z ls last r i).1.fV.length≤n+ls.length
 | [],last,r,i,n,h=>by
  rw [Qya]
  split
  · simp [R0]
  split
  · simpa using h
  · simp [R0]
 | l::ls,last,r,i,n,h=>by
  rw [Qya]
  cases mf last (ptl r l).1
  · simp [R0]
  · have:=Jba r l
    have:=Jb0 z ls (ptl r l).1 (ptl r l).2 (i+1) (n+1) (by omega)
    simp only [cond_true,List.length_cons]
    omega
theorem Q7w (s:ByteArray):Sm 2097153 (rdM s).1:=by
 unfold rdM
 split
 · exact ⟨by omega,by simp [R0],by simp [R0],by simp [R0]⟩
 · rename_i h
   have:=Jb0 ((Qix 10 s).getLastD emB) (Qix 10 s).dropLast (-1) R0 0 0 (by simp [R0])
   have h2:(Qix 10 s).dropLast.length≤61:=by rw [List.length_dropLast]; omega
   exact ⟨by omega,by omega,by omega,by omega⟩
def Q4r (s:ByteArray):Int:=bif decide ((rdM s).2≥0) then 1 else Qhh (rdM s).1
theorem Jmy {s:ByteArray} (hs:s.size≤1048576):Qqq 2097153 s=some (Q4r s):=by
 unfold Qqq Q4r
 rw [Jec hs,Qaa]
 cases decide ((rdM s).2≥0)
 · rw [cond_false,cond_false,Jjy (Q7w s),Qaa]
 · rfl
theorem Jlz {s:ByteArray} (hs:s.size≤1048576):Qqm 2097153 s=some (Q4r s):=by
 unfold Qqm Q4r
 rw [Jel hs,Qaa]
 cases decide ((rdM s).2≥0)
 · rw [cond_false,cond_false,Q0f (Q7w s),Qaa]
 · rfl
def Q1q (s:ByteArray):ByteArray×Int:=bif Q4r s != 0 then (emB,Q4r s) else (Q39 (Q75 (rdM s).1).1,0)
theorem Jjh {s:ByteArray} (hs:s.size≤1048576):Qst 2097153 s=some (Q1q s):=by
 unfold Qst Q1q
 rw [Jmy hs,Qaa]
 cases Q4r s != 0
 · rw [cond_false,cond_false,Jec hs,Qaa,Jkv (Q7w s),Qaa,Jjx (Jey _) (by omega),Qaa]
 · rfl
theorem Jl4 {s:ByteArray} (hs:s.size≤1048576):Qud 2097153 s=some (Q1q s):=by
 unfold Qud Q1q
 rw [Jlz hs,Qaa]
 cases Q4r s != 0
 · rw [cond_false,cond_false,Jel hs,Qaa,Jj9 (Q7w s),Qaa,Jko (Jey _) (by omega),Qaa]
 · rfl
def Jng:List ByteArray:=[⟨#[111,107]⟩,⟨#[116,101,120,116]⟩,⟨#[98,111,117,110,100,115]⟩,⟨#[110,97,109,101,115]⟩,⟨#[116,97,98,108,101]⟩,⟨#[117,110,105,116]⟩,⟨#[112,97,108,108,101,116]⟩]
def Qyq (k:Int):ByteArray:=bif inb k 0 6 then (ix Jng k).getD emB else emB
theorem Jjl (fu:Nat) (k:Int):Qln fu k=some (Qyq k):=by
 unfold Qln Qyq
 rw [Q0a,Qaa]
 show (bif !inb k 0 6 then _ else Qab (ix Jng k) _)=_
 cases hb:inb k 0 6
 · rfl
 · have h:=Qcb.1 hb
   rw [Bool.not_true,cond_false,cond_true]
   obtain ⟨u,rfl⟩:∃ u:Nat,k=u:=⟨k.toNat,by omega⟩
   rw [Qy1 (l:=Jng) (by show u<7; omega)]
   rfl
theorem Jjg (fu:Nat) (k:Int):Ql2 fu k=some (Qyq k):=Jjl fu k
theorem Qyh (k:Int):(Qyq k).size≤6:=by
 unfold Qyq
 cases hb:inb k 0 6
 · show (0:Nat)≤6; omega
 · have h:=Qcb.1 hb
   have:k=0∨k=1∨k=2∨k=3∨k=4∨k=5∨k=6:=by omega
   rcases this with rfl | rfl | rfl | rfl | rfl | rfl | rfl <;> decide
def Q7a:ByteArray:=⟨#[33,32]⟩
def Jb7 (s:ByteArray):ByteArray:=bif (Q1q s).2 != 0 then Q7a++Qyq (Q1q s).2++nl1 else (Q1q s).1
theorem Jmt {s:ByteArray} (hs:s.size≤1048576):Qok 2097153 s=some (Jb7 s):=by
 unfold Qok Jb7
 rw [Jl4 hs,Qaa]
 cases (Q1q s).2 != 0
 · rfl
 · have h:=Qyh (Q1q s).2
   rw [cond_true,cond_true,Jjl,Qaa]
   show Qab (Qs5 Q7a (Qyq (Q1q s).2)) (λx=>Qab (Qs5 x nl1) λy=>some y)=_
   rw [Qh8 (by show 2+_≤_; omega),Qaa,Qh8 (by rw [ByteArray.size_append]; show 2+_+1≤_; omega),Qaa]
theorem Jnk {s:ByteArray} (hs:s.size≤1048576):Qos 2097153 s=some (Jb7 s):=by
 unfold Qos Jb7 Qtl
 rw [Jjh hs,Qaa]
 cases (Q1q s).2 != 0
 · rfl
 · have h:=Qyh (Q1q s).2
   rw [cond_true,cond_true,Jjg,Qaa]
   show Qab (Qab (Qs5 Q7a (Qyq (Q1q s).2)) λx=>some x) (λx=>Qab (Qs5 x nl1) λy=>some y)=_
   rw [Qh8 (by show 2+_≤_; omega),Qaa,Qaa,Qh8 (by rw [ByteArray.size_append]; show 2+_+1≤_; omega),Qaa]
def Tot {α:Type} (o:Option α) (Q:α→Prop):Prop:=∃ x,o=some x∧Q x
theorem Tot.mk {α:Type} {x:α} {Q:α→Prop} (h:Q x):Tot (some x) Q:=⟨x,rfl,h⟩
theorem Tot.of {α:Type} {o:Option α} {x:α} {Q:α→Prop} (e:o=some x) (h:Q x):Tot o Q:=⟨x,e,h⟩
theorem Tot.bind {α β:Type} {m:Option α} {k:α→Option β} {R:α→Prop} {Q:β→Prop} (h:Tot m R) (hk:∀ x,R x→Tot (k x) Q):Tot (Qab m k) Q:=by
 obtain ⟨x,rfl,hx⟩:=h
 exact hk x hx
theorem Tot.bif {α:Type} {c:Bool} {a b:Option α} {Q:α→Prop} (h1:c=true→Tot a Q) (h2:c=false→Tot b Q):Tot (bif c then a else b) Q:=by
 cases c
 · exact h2 rfl
 · exact h1 rfl
theorem Tot.imp {α:Type} {o:Option α} {Q R:α→Prop} (h:Tot o Q) (hi:∀ x,Q x→R x):Tot o R:=by
 obtain ⟨x,e,hx⟩:=h
 exact ⟨x,e,hi x hx⟩
theorem Tot.ap {α β:Type} {bytes:Nat} {xs ys:List α} {k:List α→Option β} {Q:β→Prop} (h:(xs.length+ys.length)*bytes≤140737488355328) (hk:Tot (k (xs++ys)) Q):Tot (Qab (Qc7 bytes xs ys) k) Q:=by
 rw [ap1 h]; exact hk
theorem Tot.ix {α β:Type} {l:List α} {i:Int} {k:α→Option β} {Q:β→Prop} (h:0≤i∧i<l.length) (hk:∀ x,x∈l→Tot (k x) Q):Tot (Qab (ix l i) k) Q:=by
 have e:=Qy1 (l:=l) (i:=i.toNat) (by omega)
 rw [show ((i.toNat:Nat):Int)=i by omega] at e
 rw [e]
 exact hk _ (List.getElem_mem _)
theorem lpT {σ β:Type} (b:Int) (L:Nat→σ→Int→Option β) (Q:β→Prop) (I:Int→σ→Prop) (hb:b≤1099511627776)
    (hs:∀ n s (i:Int),0≤i→i<b→I i s→(∀ s',I (i+1) s'→Tot (L n s' (w64 (i+1))) Q)→Tot (L (n+1) s i) Q)
    (he:∀ n s (i:Int),0≤i→b≤i→I i s→Tot (L (n+1) s i) Q):∀ (m:Nat) n s (a:Int),0≤a→(b - a).toNat=m→m<n→I a s→Tot (L n s a) Q:=by
 intro m
 induction m with
 | zero =>
  intro n s a ha hm hn hI
  obtain ⟨n,rfl⟩:∃ k,n=k+1:=⟨n - 1,by omega⟩
  exact he n s a ha (by omega) hI
 | succ m ih =>
  intro n s a ha hm hn hI
  obtain ⟨n,rfl⟩:∃ k,n=k+1:=⟨n - 1,by omega⟩
  refine hs n s a ha (by omega) hI λs' hI'=>?_
  rw [Qam (by omega) (by omega)]
  exact ih n s' (a+1) (by omega) (by omega) (by omega) hI'
def CO (b:List U8) (c:Cur):Prop:=c.fb=b∧0≤c.fi∧b.length≤1048576
theorem CO.re {b:List U8} {c c':Cur} (h:CO b c) (h':CO b c'):CO b ⟨c.fb,c'.fi,c'.fh⟩:=⟨h.1,h'.2⟩
theorem CO.re' {b:List U8} {c':Cur} (h':CO b c'):CO b ⟨b,c'.fi,c'.fh⟩:=⟨rfl,h'.2⟩
theorem Jeq (x:Int):0≤IntKind.wrap .i64 (((BitVec.ofInt (IntKind.bits .i64) x &&& BitVec.ofInt (IntKind.bits .i64) 255).toNat:Nat):Int)∧IntKind.wrap .i64 (((BitVec.ofInt (IntKind.bits .i64) x &&& BitVec.ofInt (IntKind.bits .i64) 255).toNat:Nat):Int)≤255:=by
 have h:(BitVec.ofInt (IntKind.bits .i64) x &&& BitVec.ofInt (IntKind.bits .i64) 255).toNat≤255:=by
  rw [BitVec.toNat_and]
  have h2:(BitVec.ofInt (IntKind.bits .i64) 255).toNat=255:=by decide
  rw [h2]
  exact Nat.and_le_right
 have e:=Qam (n:=(((BitVec.ofInt (IntKind.bits .i64) x &&& BitVec.ofInt (IntKind.bits .i64) 255).toNat:Nat):Int)) (by omega) (by omega)
 unfold w64 at e
 rw [e]
 omega
theorem Qzh {fu:Nat} {b:List U8} {c:Cur} (h:CO b c):Tot (Qhq fu c) λx=>(0≤x.1∧x.1≤255)∧CO b x.2:=by
 obtain ⟨h1,h2,h3⟩:=h
 unfold Qhq
 refine Tot.bif (λhc=>?_) λhc=>?_
 · have hlt:=of_decide_eq_true hc
   refine Tot.ix ⟨h2,hlt⟩ λx _=>Tot.mk ⟨Jeq _,h1,?_,h3⟩
   show 0≤w64 (c.fi+1)
   rw [h1] at hlt
   rw [Qam (by omega) (by omega)]; omega
 · exact Tot.mk ⟨Jeq _,h1,h2,h3⟩
theorem Qcy {fu:Nat} {b:List U8} {c:Cur} (h:CO b c) (n:Int):Tot (Qal fu c n) λx=>(0≤x.1∧(0<n→x.1<n))∧CO b x.2:=by
 unfold Qal
 refine Tot.bif (λhc=>?_) λhc=>?_
 · have hlt:=of_decide_eq_true hc
   exact Tot.mk ⟨⟨Int.le_refl _,λh=>by omega⟩,h⟩
 · have hn:0<n:=by simpa using hc
   refine Tot.bif (λhc=>?_) λhc=>?_
   · refine Tot.bind (Qzh h) λx hx=>?_
     rw [Jar (by omega),Qaa]
     exact Tot.mk ⟨⟨Int.tmod_nonneg _ hx.1.1,λ_=>Int.tmod_lt_of_pos _ hn⟩,h.re hx.2⟩
   · refine Tot.bind (Qzh h) λx hx=>Tot.bind (Qzh (h.re hx.2)) λy hy=>Tot.bind (Qzh (h.re hy.2)) λz hz=>Tot.bind (Qzh (h.re hz.2)) λq hq=>?_
     rw [Jar (by omega),Qaa]
     obtain ⟨⟨x0,x1⟩,_⟩:=hx
     obtain ⟨⟨y0,y1⟩,_⟩:=hy
     obtain ⟨⟨z0,z1⟩,_⟩:=hz
     obtain ⟨⟨q0,q1⟩,hq2⟩:=hq
     refine Tot.mk ⟨⟨?_,λ_=>Int.tmod_lt_of_pos _ hn⟩,h.re hq2⟩
     apply Int.tmod_nonneg
     simp only [Qam (n:=x.1*16777216) (by omega) (by omega),Qam (n:=y.1*65536) (by omega) (by omega),Qam (n:=z.1*256) (by omega) (by omega)]
     rw [Qam (n:=x.1*16777216+y.1*65536) (by omega) (by omega),Qam (n:=x.1*16777216+y.1*65536+z.1*256) (by omega) (by omega),Qam (by omega) (by omega)]
     omega
theorem Q5s {fu:Nat} {b:List U8} {c:Cur} (h:CO b c) (n:Int):Tot (Qj6 fu c n) λx=>CO b x.2:=by
 unfold Qj6
 exact Tot.bind (Qcy h n) λx hx=>Tot.mk (h.re hx.2)
theorem Qtp {fu:Nat} {b:List U8} {c:Cur} (h:CO b c) (l:List Int) (hl:0<l.length):Tot (Qb2 fu c l) λx=>x.1∈l∧CO b x.2:=by
 unfold Qb2
 exact Tot.bind (Qcy h _) λx hx=>Tot.ix ⟨hx.1.1,hx.1.2 (by omega)⟩ λy hy=>Tot.mk ⟨hy,h.re hx.2⟩
theorem Jkp {fu:Nat} {b:List U8} (hb:b.length≤1048576) (hf:1048577≤fu):Tot (Qtg fu b) (CO b):=by
 unfold Qtg
 refine lpT (b.length:Int) (λn s i=>Qg8 fu b n s i) (CO b) (λ_ _=>True) (by omega) ?_ ?_ b.length fu _ 0 (by omega) (by omega) (by omega) trivial
 · intro n s i h0 h1 _ ih
   simp only [Qg8.eq_2]
   unfold Qpq Qsl
   rw [Qao (by simpa using h1)]
   refine Tot.bif (λhc=>?_) λhc=>?_
   · exact Tot.ix ⟨h0,h1⟩ λx _=>ih _ trivial
   · exact Tot.mk ⟨rfl,by simp,hb⟩
 · intro n s i h0 h1 _
   simp only [Qg8.eq_2]
   unfold Qpq
   rw [Qaf (by simp; omega)]
   exact Tot.mk ⟨rfl,by simp,hb⟩
def SmR (r:Request):Prop:=r.fT.length≤64∧r.fG.length≤64∧r.fV.length≤64
theorem SmR.sm {r:Request} (h:SmR r) {fu:Nat} (hf:2097153≤fu):Sm fu r:=⟨hf,by have:=h.1; omega,by have:=h.2.1; omega,by have:=h.2.2; omega⟩
theorem Q7n {fu:Nat} {b:List U8} {c:Cur} (h:CO b c) (hf:1048577≤fu):Tot (Qlg fu c) λx=>(x.1.fT.length≤40∧(1≤x.1.fG.length∧x.1.fG.length≤8)∧x.1.fV.length≤8)∧CO b x.2:=by
 unfold Qlg
 refine Tot.bind (Qcy h _) λx1 h1=>Tot.bind (Qtp (h.re h1.2) _ (by simp)) λx2 h2=>Tot.bind (Qtp (h.re h2.2) _ (by simp)) λx3 h3=>Tot.bind (Qtp (h.re h3.2) _ (by simp)) λx4 h4=>Tot.bind (Qtp (h.re h4.2) _ (by simp)) λx5 h5=>Tot.bind (Qcy (h.re h5.2) _) λx6 h6=>?_
 have hb:=h.2.2
 have hcb:=h.1
 obtain ⟨c0,c1⟩:=h6.1
 have c1:=c1 (by omega)
 have ew:w64 (1+x6.1)=1+x6.1:=Qam (by omega) (by omega)
 have L4:=lpT (1+x6.1) (λn (s:Int×Int×List Pair) i=>Qdd fu c x1 x2 x3 x4 x5 x6 n s.1 s.2.1 s.2.2 i) (λx:Request×Cur=>(x.1.fT.length≤40∧(1≤x.1.fG.length∧x.1.fG.length≤8)∧x.1.fV.length≤8)∧CO b x.2)
  (λi s=>0≤s.1∧(s.2.2.length:Int)≤8*i∧i≤4) (by omega) ?_ ?_ (1+x6.1 - 0).toNat fu (x6.2.fi,x6.2.fh,[]) 0 (by omega) rfl (by omega) ⟨h6.2.2.1,by simp,by omega⟩
 · exact L4
 · intro n ⟨f1,f2,ps⟩ a ha0 ha1 hI ih
   obtain ⟨i1,i2,i3⟩:0≤f1∧(ps.length:Int)≤8*a∧a≤4:=hI
   simp only [Qdd.eq_2]
   unfold Qmh
   rw [ew,Qao (by simpa using ha1)]
   have L1:=lpT (a+1) (λm (s:Int×Int×List Pair) i=>Qeu fu (Qdd fu c x1 x2 x3 x4 x5 x6 n) c a m s.1 s.2.1 s.2.2 i) (λx:Request×Cur=>(x.1.fT.length≤40∧(1≤x.1.fG.length∧x.1.fG.length≤8)∧x.1.fV.length≤8)∧CO b x.2)
    (λi s=>0≤s.1∧(s.2.2.length:Int)≤8*a+2*i∧i≤a+1) (by omega) ?_ ?_ (a+1 - 0).toNat fu (f1,f2,ps) 0 (by omega) rfl (by omega) ⟨i1,by simp; omega,by omega⟩
   · exact L1
   · intro m ⟨g1,g2,qs⟩ i hi0 hi1 hI ih2
     obtain ⟨j1,j2,j3⟩:0≤g1∧(qs.length:Int)≤8*a+2*i∧i≤a+1:=hI
     simp only [Qeu.eq_2]
     unfold Qma
     rw [Qao (by simp; omega)]
     unfold Qh0
     refine Tot.bif (λhc=>?_) λhc=>?_
     · refine Tot.ap (by simp; omega) ?_
       exact ih2 (g1,g2,_) ⟨j1,by simp; omega,by omega⟩
     · refine Tot.bind (Q5s (b:=b) (c:=⟨c.fb,g1,g2⟩) ⟨hcb,j1,hb⟩ 2) λy hy=>?_
       refine Tot.bif (λhc=>?_) λhc=>?_
       · refine Tot.ap (by simp; omega) ?_
         exact ih2 (y.2.fi,y.2.fh,_) ⟨hy.2.1,by simp; omega,by omega⟩
       · exact ih2 (y.2.fi,y.2.fh,_) ⟨hy.2.1,by simp; omega,by omega⟩
   · intro m ⟨g1,g2,qs⟩ i hi0 hi1 hI
     obtain ⟨j1,j2,j3⟩:0≤g1∧(qs.length:Int)≤8*a+2*i∧i≤a+1:=hI
     simp only [Qeu.eq_2]
     unfold Qma
     rw [Qaf (by simp; omega)]
     have:i=a+1:=by omega
     exact ih (g1,g2,qs) ⟨j1,by simp; omega,by omega⟩
 · intro n ⟨f1,f2,ps⟩ a ha0 ha1 hI
   obtain ⟨i1,i2,i3⟩:0≤f1∧(ps.length:Int)≤8*a∧a≤4:=hI
   simp only [Qdd.eq_2]
   unfold Qmh
   rw [ew,Qaf (by simpa using ha1)]
   refine Tot.bind (Qcy (b:=b) (c:=⟨c.fb,f1,f2⟩) ⟨hcb,i1,hb⟩ _) λy1 g1=>Tot.bind (Qtp (h.re g1.2) _ (by simp)) λy2 g2=>Tot.bind (Qtp (h.re g2.2) _ (by simp)) λy3 g3=>Tot.ap (by simp) ?_
   unfold Qpt
   refine Tot.bind (Qcy (h.re g3.2) _) λy4 g4=>?_
   obtain ⟨e0,e1⟩:=g4.1
   have e1:=e1 (by omega)
   have L3:=lpT y4.1 (λm (s':Int×Int×List Typ) i=>Qgx fu c x1 x2 x3 x4 x5 x6 ps y4 m s'.1 s'.2.1 s'.2.2 i) (λx:Request×Cur=>(x.1.fT.length≤40∧(1≤x.1.fG.length∧x.1.fG.length≤8)∧x.1.fV.length≤8)∧CO b x.2)
    (λi s=>0≤s.1∧(s.2.2.length:Int)=1+i∧i≤y4.1) (by omega) ?_ ?_ (y4.1 - 0).toNat fu (y4.2.fi,y4.2.fh,([]:List Typ)++[(⟨7,12,10,11,y1.1,y2.1,y3.1⟩:Typ)]) 0 (by omega) rfl (by omega) ⟨g4.2.2.1,by simp,by omega⟩
   · exact L3
   · intro m ⟨g1,g2,ts⟩ i hi0 hi1 hI ih2
     obtain ⟨j1,j2,j3⟩:0≤g1∧(ts.length:Int)=1+i∧i≤y4.1:=hI
     simp only [Qgx.eq_2]
     unfold Qnm
     rw [Qao (by simp; omega)]
     refine Tot.bind (Qcy (b:=b) (c:=⟨c.fb,g1,g2⟩) ⟨hcb,j1,hb⟩ _) λz1 f1=>Tot.bind (Qcy (h.re f1.2) _) λz2 f2=>Tot.bind (Qcy (h.re f2.2) _) λz3 f3=>Tot.bind (Qcy (h.re f3.2) _) λz4 f4=>Tot.bind (Qcy (h.re f4.2) _) λz5 f5=>Tot.bind (Qcy (h.re f5.2) _) λz6 f6=>Tot.ap (by simp; omega) ?_
     exact ih2 (z6.2.fi,z6.2.fh,_) ⟨f6.2.2.1,by simp; omega,by omega⟩
   · intro m ⟨g1,g2,ts⟩ i hi0 hi1 hI
     obtain ⟨j1,j2,j3⟩:0≤g1∧(ts.length:Int)=1+i∧i≤y4.1:=hI
     simp only [Qgx.eq_2]
     unfold Qnm
     rw [Qaf (by simp; omega)]
     refine Tot.bind (Qcy (b:=b) (c:=⟨c.fb,g1,g2⟩) ⟨hcb,j1,hb⟩ _) λz f=>?_
     obtain ⟨q0,q1⟩:=f.1
     have q1:=q1 (by omega)
     have L2:=lpT z.1 (λm (t:Int×Int×List Item×Int) i=>Qcs fu c x1 x2 x3 x4 x5 x6 ps ts z m t.1 t.2.1 t.2.2.1 t.2.2.2 i) (λx:Request×Cur=>(x.1.fT.length≤40∧(1≤x.1.fG.length∧x.1.fG.length≤8)∧x.1.fV.length≤8)∧CO b x.2)
      (λi t=>0≤t.1∧(t.2.2.1.length:Int)≤i∧i≤z.1) (by omega) ?_ ?_ (z.1 - 0).toNat fu (z.2.fi,z.2.fh,[],0) 0 (by omega) rfl (by omega) ⟨f.2.2.1,by simp,by omega⟩
     · exact L2
     · intro m' ⟨k4,k5,is,un⟩ i' hi0 hi1 hI ih2
       obtain ⟨k1,k2,k3⟩:0≤k4∧(is.length:Int)≤i'∧i'≤z.1:=hI
       simp only [Qcs.eq_2]
       unfold Qnl
       rw [Qao (by simp; omega)]
       refine Tot.bind (Qcy (b:=b) (c:=⟨c.fb,k4,k5⟩) ⟨hcb,k1,hb⟩ _) λw1 v1=>Tot.bind (Qcy (h.re v1.2) _) λw2 v2=>Tot.bind (Qcy (h.re v2.2) _) λw3 v3=>Tot.bind (Qcy (h.re v3.2) _) λw4 v4=>Tot.bind (Qcy (h.re v4.2) _) λw5 v5=>Tot.bind (Qcy (h.re v5.2) _) λw6 v6=>?_
       unfold Qpr
       have J3:∀ (p q:Int) (x:Item),0≤p→Tot (Qhz fu (Qcs fu c x1 x2 x3 x4 x5 x6 ps ts z m') is un i' p q x) (λx:Request×Cur=>(x.1.fT.length≤40∧(1≤x.1.fG.length∧x.1.fG.length≤8)∧x.1.fV.length≤8)∧CO b x.2):=by
        intro p q x hp
        unfold Qhz Qkh
        refine Tot.bif (λhc=>?_) λhc=>?_
        · refine Tot.ap (by simp; omega) ?_
          exact ih2 (p,q,_,_) ⟨hp,by simp; omega,by omega⟩
        · exact ih2 (p,q,_,_) ⟨hp,by simp; omega,by omega⟩
       refine Tot.bind (Q5s (h.re v6.2) _) λw7 v7=>?_
       refine Tot.bif (λhc=>?_) λhc=>?_
       · refine Tot.bind (Qcy (h.re v7) _) λw8 v8=>?_
         exact J3 _ _ _ v8.2.2.1
       · exact J3 _ _ _ v7.2.1
     · intro m' ⟨k4,k5,is,un⟩ i' hi0 hi1 hI
       obtain ⟨k1,k2,k3⟩:0≤k4∧(is.length:Int)≤i'∧i'≤z.1:=hI
       simp only [Qcs.eq_2]
       unfold Qnl
       rw [Qaf (by simp; omega)]
       exact Tot.mk ⟨⟨by simp; omega,by simp; omega,by simp; omega⟩,hcb,k1,hb⟩
theorem Jgm {fu:Nat} {b:List U8} {c:Cur} (h:CO b c) (hf:2097153≤fu):Tot (Qse fu c) λx=>SmR x.1∧CO b x.2:=by
 unfold Qse
 refine Tot.bind (Q7n h (by omega)) λx hx=>?_
 obtain ⟨⟨a1,a2,a3⟩,hc⟩:=hx
 have hs:SmR x.1:=⟨by omega,by omega,by omega⟩
 rw [Q0f (hs.sm hf),Qaa]
 refine Tot.bif (λ_=>?_) λ_=>Tot.mk ⟨hs,h.re hc⟩
 have hs2:Sm fu (⟨x.1.f9,(⟨30,25,24,400⟩:Pallet),x.1.fU,x.1.fT,x.1.fG,x.1.fR,x.1.fV⟩:Request):=⟨hf,by simp; omega,by simp; omega,by simp; omega⟩
 rw [Q9b hs2,Qaa]
 generalize Qyf _=t
 refine lpT (x.1.fV.length:Int) (λn s i=>Qf1 fu c x t n s i) _ (λi s=>(s.length:Int)≤i∧i≤x.1.fV.length) (by omega) ?_ ?_ _ fu [] 0 (by omega) rfl (by omega) ⟨by simp,by omega⟩
 · intro n s i h0 h1 hI ih
   simp only [Qf1.eq_2]
   unfold Qpe Qlp
   rw [Qao (by simpa using h1)]
   refine Tot.ix ⟨h0,h1⟩ λy hy=>?_
   rw [Jgr hf,Qaa]
   refine Tot.bif (λ_=>?_) λ_=>ih _ ⟨by omega,by omega⟩
   refine Tot.ix ⟨h0,h1⟩ λy hy=>Tot.ap (by simp; omega) ?_
   exact ih _ ⟨by simp; omega,by omega⟩
 · intro n s i h0 h1 hI
   simp only [Qf1.eq_2]
   unfold Qpe
   rw [Qaf (by simp; omega)]
   exact Tot.mk ⟨⟨by simp; omega,by simp; omega,by simp; omega⟩,h.re hc⟩
theorem Qyr {α:Type} (l:List α) (i:Int) (y:α):(Qi1 l i y).length=l.length:=by simp [Qi1]
theorem Jam {α:Type} {l:List α} (h:0<l.length):sls l 1 (l.length:Int)=some (l.drop 1):=by
 rw [Qn6 (by omega)]
 congr 1
 exact List.take_of_length_le (by simp)
theorem Jg3 {fu:Nat} {b:List U8} {c:Cur} (h:CO b c) (hf:2097153≤fu):Tot (Qrz fu c) λx=>SmR x.1∧CO b x.2:=by
 unfold Qrz
 refine Tot.bind (Q7n h (by omega)) λx hx=>?_
 obtain ⟨⟨a1,a2,a3⟩,hc⟩:=hx
 obtain ⟨c1,c2,c3⟩:=h
 have h:CO b c:=⟨c1,c2,c3⟩
 refine Tot.bind (Qtp (h.re hc) _ (by simp)) λy hy=>Tot.bind (Qcy (h.re hy.2) _) λz hz=>?_
 have J:∀ (f264 f265 f266 f267:Int) (f268:List Pair) (f273:List Typ) (f278:Int) (f279:List Item) (f286 f287:Int),f268.length≤64→f273.length≤64→f279.length≤64→0≤f286→Tot (Qa8 fu c x f264 f265 f266 f267 f268 f273 f278 f279 f286 f287) λx=>SmR x.1∧CO b x.2:=by
  intro f264 f265 f266 f267 f268 f273 f278 f279 f286 f287 q1 q2 q3 q4
  exact Tot.mk ⟨⟨q1,q2,q3⟩,c1,q4,c3⟩
 have hz0:=hz.2.2.1
 refine Tot.bif (λ_=>?_) λ_=>?_
 · exact Tot.bind (Qtp (h.re hz.2) _ (by simp)) λy hy=>J _ _ _ _ _ _ _ _ _ _ (by omega) (by omega) (by omega) hy.2.2.1
 refine Tot.bif (λ_=>?_) λ_=>?_
 · exact J _ _ _ _ _ _ _ _ _ _ (by omega) (by omega) (by omega) hz0
 refine Tot.bif (λ_=>?_) λ_=>?_
 · exact J _ _ _ _ _ _ _ _ _ _ (by omega) (by omega) (by omega) hz0
 refine Tot.bif (λ_=>?_) λ_=>?_
 · exact Tot.bind (Qtp (h.re hz.2) _ (by simp)) λy hy=>J _ _ _ _ _ _ _ _ _ _ (by omega) (by omega) (by omega) hy.2.2.1
 refine Tot.bif (λ_=>?_) λ_=>?_
 · exact Tot.bind (Qcy (h.re hz.2) _) λy hy=>Tot.bind (Qcy (h.re hy.2) _) λv hv=>Tot.ap (by simp; omega) (J _ _ _ _ _ _ _ _ _ _ (by simp; omega) (by omega) (by omega) hv.2.2.1)
 refine Tot.bif (λ_=>?_) λ_=>?_
 · exact Tot.ix (by omega) λy hy=>J _ _ _ _ _ _ _ _ _ _ (by omega) (by rw [Qyr]; omega) (by omega) hz0
 refine Tot.bif (λ_=>?_) λ_=>?_
 · exact Tot.bind (Qcy (h.re hz.2) _) λy hy=>Tot.ix ⟨hy.1.1,hy.1.2 (by omega)⟩ λv hv=>J _ _ _ _ _ _ _ _ _ _ (by omega) (by rw [Qyr]; omega) (by omega) hy.2.2.1
 refine Tot.bif (λ_=>?_) λ_=>?_
 · exact Tot.bind (Qtp (h.re hz.2) _ (by simp)) λy hy=>J _ _ _ _ _ _ _ _ _ _ (by omega) (by omega) (by omega) hy.2.2.1
 refine Tot.bif (λ_=>?_) λ_=>?_
 · exact Tot.bind (Qcy (h.re hz.2) _) λy hy=>Tot.bind (Qcy (h.re hy.2) _) λv hv=>Tot.ap (by simp; omega) (J _ _ _ _ _ _ _ _ _ _ (by omega) (by omega) (by simp; omega) hv.2.2.1)
 refine Tot.bif (λ_=>?_) λ_=>?_
 · refine Tot.bif (λhc=>?_) λ_=>?_
   · have:=of_decide_eq_true hc
     exact Tot.ix (by omega) λy hy=>J _ _ _ _ _ _ _ _ _ _ (by omega) (by omega) (by rw [Qyr]; omega) hz0
   · exact J _ _ _ _ _ _ _ _ _ _ (by omega) (by omega) (by omega) hz0
 refine Tot.bif (λ_=>?_) λ_=>?_
 · refine Tot.bif (λhc=>?_) λ_=>?_
   · have:=of_decide_eq_true hc
     rw [Jam (by omega),Qaa]
     exact J _ _ _ _ _ _ _ _ _ _ (by simp; omega) (by omega) (by omega) hz0
   · exact J _ _ _ _ _ _ _ _ _ _ (by omega) (by omega) (by omega) hz0
 refine Tot.bif (λ_=>?_) λ_=>?_
 · exact Tot.ix (by omega) λy hy=>Tot.ap (by simp; omega) (J _ _ _ _ _ _ _ _ _ _ (by omega) (by simp; omega) (by omega) hz0)
 refine Tot.bif (λ_=>?_) λ_=>?_
 · exact J _ _ _ _ _ _ _ _ _ _ (by omega) (by simp) (by omega) hz0
 · exact J _ _ _ _ _ _ _ _ _ _ (by omega) (by omega) (by omega) hz0
theorem Jmq (fu:Nat) (b:List U8):Qwp fu b=some (decide ((b.length:Int)>1048576)):=rfl
def Je5 (s:ByteArray):List U8:=s.data.toList.map λb=>(⟨(b.toNat:Int)⟩:U8)
theorem Q5e (s:ByteArray):(Je5 s).length=s.size:=by unfold Je5; rw [List.length_map]; exact Array.length_toList
theorem Jcf {s:ByteArray} (h:s.size≤1000000000):Jki s=some (Je5 s):=by unfold Jki Je5; rw [if_pos h]
theorem Q9f {s:ByteArray} {x:U8} (h:x∈Je5 s):0≤x.n∧x.n≤255:=by
 obtain ⟨b,_,rfl⟩:=List.mem_map.1 h
 have:=b.toNat_lt
 exact ⟨by simp only; omega,by simp only; omega⟩
theorem Qy3 {l:List U8} (h:∀ x∈l,0≤x.n∧x.n≤255):Tot (Q8m l) λr=>r.size=l.length:=by
 unfold Q8m
 rw [if_pos h]
 exact Tot.mk (by show (List.map _ _).toArray.size=_; simp)
theorem Q6m {fu:Nat} {b:List U8} {c:Cur} (h:CO b c) (l:List ByteArray) (hl:0<l.length):Tot (Qom fu c l) λx=>x.1∈l∧CO b x.2:=by
 unfold Qom
 exact Tot.bind (Qcy h _) λx hx=>Tot.ix ⟨hx.1.1,hx.1.2 (by omega)⟩ λy hy=>Tot.mk ⟨hy,h.re hx.2⟩
theorem Ja1 {s:ByteArray} {i:Int} (h:0≤i∧i≤s.size):Tot (sls (Je5 s) 0 i) λl=>(∀ x∈l,0≤x.n∧x.n≤255)∧l.length≤s.size:=by
 have hl:=Q5e s
 rw [Qn6 ⟨by omega,h.1,by omega⟩]
 refine Tot.mk ⟨λx hx=>Q9f (List.mem_of_mem_drop (List.mem_of_mem_take hx)),?_⟩
 simp only [List.length_take,List.length_drop]
 omega
theorem Q7h {s:ByteArray} {i:Int} (h:0≤i∧i≤s.size):Tot (sls (Je5 s) i ((Je5 s).length:Int)) λl=>(∀ x∈l,0≤x.n∧x.n≤255)∧l.length≤s.size:=by
 have hl:=Q5e s
 rw [Qn6 ⟨h.1,by omega,by omega⟩]
 refine Tot.mk ⟨λx hx=>Q9f (List.mem_of_mem_drop (List.mem_of_mem_take hx)),?_⟩
 simp only [List.length_take,List.length_drop]
 omega
theorem Tot.sc {β:Type} {x y:ByteArray} {k:ByteArray→Option β} {Q:β→Prop} (h:x.size+y.size≤1000000000) (hk:∀ z,z.size=x.size+y.size→Tot (k z) Q):Tot (Qab (Qs5 x y) k) Q:=by
 rw [Qh8 h]; exact hk _ (ByteArray.size_append)
theorem Jdg {x:Plan}:(Q39 x).size≤240200:=by
 have key:∀ (l:List (Carton×Spot)) (o:ByteArray),(∀ p∈l,(Qla Qvz (Qiw p.1 p.2)++nl1).size≤2401)→(l.foldl Jc7 o).size≤o.size+2401*l.length:=by
  intro l
  induction l with
  | nil=>intro o _; simp
  | cons p l ih =>
   intro o h
   have h1:=h p (by simp)
   have h2:=ih (Jc7 o p) λq hq=>h q (by simp [hq])
   have e:(Jc7 o p).size=o.size+(Qla Qvz (Qiw p.1 p.2)++nl1).size:=by unfold Jc7; rw [ByteArray.size_append]
   rw [List.foldl_cons,List.length_cons]
   omega
 unfold Q39
 cases hp:Q1x x
 · show (0:Nat)≤_; omega
 · rw [cond_true]
   unfold Q1x at hp
   simp only [Bool.and_eq_true,decide_eq_true_eq,beq_iff_eq] at hp
   obtain ⟨p1,p2,p3⟩:=hp
   have:=key (x.fE.zip x.ft) ⟨#[]⟩ λp hp=>by
    have:=List.all_eq_true.1 p3 p hp
    rw [Bool.and_eq_true] at this
    exact (Q5c (Q3o this.1 this.2)).2
   have hz:(x.fE.zip x.ft).length=x.fE.length:=by simp; omega
   rw [hz] at this
   have e0:(⟨#[]⟩:ByteArray).size=0:=rfl
   omega
def C0:Carton:=⟨0,0,[]⟩
def T0:Spot:=⟨0,0,0,0⟩
def Jlb:List Int→Carton×Spot
 | a::b::c::d::e::f::u=>(⟨a,b,u⟩,⟨c,d,e,f⟩)
 | _=>(C0,T0)
theorem Jop {l:List Int} (h:¬ l.length<6):∃ a b c d e f u,l=a::b::c::d::e::f::u:=by
 match l,h with
 | [],h=>exact absurd (by simp) h
 | [_],h=>exact absurd (by simp) h
 | [_,_],h=>exact absurd (by simp) h
 | [_,_,_],h=>exact absurd (by simp) h
 | [_,_,_,_],h=>exact absurd (by simp) h
 | [_,_,_,_,_],h=>exact absurd (by simp) h
 | a::b::c::d::e::f::u,_=>exact ⟨a,b,c,d,e,f,u,rfl⟩
def okO (p:Carton×Spot):Bool:=Jb9 p.1&&Jen p.2
def Jh2 (w:ByteArray) (o:Option (List Int)):Carton×Spot×Bool :=
 match o with
 | none=>(C0,T0,false)
 | some n=>if n.length<6 then (C0,T0,false) else if w=Qvz∧okO (Jlb n)=true then ((Jlb n).1,(Jlb n).2,true) else (C0,T0,false)
def Q8k (s:ByteArray):Carton×Spot×Bool :=
 match Qix 32 s with
 | []=>(C0,T0,false)
 | p::ps=>Jh2 p (nms ps)
theorem Joo (c:Carton) (t:Spot):Q1x ⟨[c],[t]⟩=okO (c,t):=by
 unfold Q1x okO
 simp
theorem Jom {c:Carton} {t:Spot} (h:c.fl.length≤1048576):Sp ⟨[c],[t]⟩:=⟨by simp,λd hd=>by rw [List.mem_singleton.1 hd]; exact h,by simpa [Q71] using h,by simp⟩
theorem Jlo {a b c d e f:Int} {u:List Int} (h:u.length≤2000000):sls (a::b::c::d::e::f::u) 6 (((a::b::c::d::e::f::u).length:Nat):Int)=some u:=by
 rw [Qn6 (by simp only [List.length_cons]; omega),Int.toNat_natCast,show (6:Int).toNat=6 from rfl]
 simp
theorem Q8z:∀ {xs:List ByteArray} {n:List Int},nms xs=some n→n.length=xs.length
 | [],n,h=>by rw [← Option.some.inj h]; rfl
 | x::xs,n,h=>by
  rw [nms] at h
  split at h
  · cases hn:nms xs with
    | none=>rw [hn] at h; simp at h
    | some ms =>
     rw [hn] at h
     rw [← Option.some.inj h,List.length_cons,List.length_cons,Q8z hn]
  · simp at h
theorem Jmu {α:Type} (a b:α):(bif !(([],false):List Int×Bool).2 then a else b)=a:=rfl
theorem Jnc {α:Type} (n:List Int) (a b:α):(bif !((n,true):List Int×Bool).2 then a else b)=b:=rfl
theorem Jlu {s:ByteArray} (hs:s.size≤1048576):Qsc 2097153 s=some (Q8k s):=by
 unfold Qsc Q8k
 have e:=Q3v (b:=32) hs
 have hl:=(Qk8 32 s).2
 rw [show ((32:UInt8).toNat:Int)=32 from rfl] at e
 rw [e,Qaa]
 cases hp:Qix 32 s with
 | nil=>have:=(Qk8 32 s).1; rw [hp] at this; simp at this
 | cons p ps =>
  rw [hp] at hl
  simp only [List.length_cons] at hl ⊢
  have e2:w64 (((ps.length+1:Nat):Int) - 1)=ps.length:=by rw [Qam (by omega) (by omega)]; omega
  simp only [e2]
  show Qab (Qbo 2097153 s Qvz (ps.length:Int)) _=_
  rw [Jad hs (by omega)]
  have hw:wrd Qvz ps.length s=if p=Qvz then nms ps else none:=by
   unfold wrd
   rw [hp]
   simp
  rw [hw]
  unfold Jh2
  by_cases hc:p=Qvz
  · rw [if_pos hc]
    cases hn:nms ps with
    | none=>rfl
    | some n =>
     have hnl:=Q8z hn
     simp only
     rw [obS,Jnc]
     by_cases h6:n.length<6
     · rw [Qao (by simp; omega),if_pos h6]; rfl
     rw [Qaf (by simp; omega),if_neg h6]
     unfold Qra Qrq
     obtain ⟨a,b,c,d,e,f,u,rfl⟩:=Jop h6
     simp only [List.length_cons] at hnl
     show Qab (sls (a::b::c::d::e::f::u) 6 (((a::b::c::d::e::f::u).length:Nat):Int)) _=_
     rw [Jlo (by omega),Qaa]
     show Qab (Qjz 2097153 ⟨[⟨a,b,u⟩],[⟨c,d,e,f⟩]⟩) _=_
     rw [Jii (Jom (by simp; omega)) (by omega),Qaa,Joo]
     show (bif !okO (⟨a,b,u⟩,⟨c,d,e,f⟩) then _ else _)=some (if p=Qvz∧okO (⟨a,b,u⟩,⟨c,d,e,f⟩)=true then _ else _)
     cases hk:okO (⟨a,b,u⟩,⟨c,d,e,f⟩)
     · rw [if_neg (by simp)]; rfl
     · rw [if_pos ⟨hc,rfl⟩]; rfl
  · rw [if_neg hc,obR,Jmu]
    cases hn:nms ps with
    | none=>rfl
    | some n =>
     simp only
     split
     · rfl
     rw [if_neg (λh=>hc h.1)]; rfl
theorem Q5b (a b:ByteArray):(a++b).data.toList=a.data.toList++b.data.toList:=by rw [ByteArray.data_append]; simp
theorem Qze:∀ (l:List Int) (o:ByteArray),(Qla o l).data.toList=o.data.toList++(l.map λn=>32::(Qtz n).data.toList).flatten
 | [],o=>by simp [Qla]
 | n::l,o=>by
  show (Qla (o++(sp1++Qtz n)) l).data.toList=_
  rw [Qze l,Q5b,Q5b]
  simp [sp1]
def Q91:List ByteArray→Option (List (Carton×Spot))
 | []=>some []
 | l::ls=>if (Q8k l).2.2=true then (Q91 ls).map (((Q8k l).1,(Q8k l).2.1)::·) else none
def P0:Plan:=⟨[],[]⟩
def plO (l:List (Carton×Spot)):Plan:=⟨l.map (·.1),l.map (·.2)⟩
def Jdd (s:ByteArray):Plan×Bool :=
 if (Qix 10 s).getLastD emB=emB∧(Qix 10 s).length≤101 then
  match Q91 (Qix 10 s).dropLast with
  | some l=>(plO l,true)
  | none=>(P0,false)
 else (P0,false)
theorem Jmp {s:ByteArray} (hs:s.size≤1048576):Qo2 2097153 s=some (Jdd s):=by
 unfold Qo2 Jdd
 have e:=Q3v (b:=10) hs
 rw [show ((10:UInt8).toNat:Int)=10 from rfl] at e
 rw [e,Qaa]
 obtain ⟨ls,z,h1,h2,h3⟩:=Q3q 10 s
 have hsz:=λx hx=>Nat.le_trans (Qsh (b:=10) (s:=s) (x:=x) hx) hs
 have hn:=(Qk8 10 s).2
 rw [h2,h3]
 rw [h1] at hsz hn ⊢
 simp only [List.length_append,List.length_singleton] at hn ⊢
 rw [Qam (by omega) (by omega),show ((ls.length+1:Nat):Int) - 1=ls.length by omega,Jgk,Qaa]
 show (bif (!(z.toList==emB.toList)) then _ else _)=_
 rw [Qwx]
 by_cases hz:z=emB
 rotate_left
 · rw [decide_eq_false hz,if_neg (λh=>hz h.1)]; rfl
 rw [decide_eq_true hz,Bool.not_true,cond_false]
 by_cases hc:ls.length≤100
 rotate_left
 · rw [Qao (by simp; omega),if_neg (by omega)]; rfl
 rw [Qaf (by simp; omega),if_pos ⟨hz,by omega⟩]
 unfold Qnz
 simp only [List.length_append,List.length_singleton]
 rw [Qam (by omega) (by omega),show ((ls.length+1:Nat):Int) - 1=ls.length by omega,Jeb,Qaa]
 have key:=lpI ls (λn (o:List Carton×List Spot) i=>Qfu 2097153 ls n o.1 o.2 i) (λxs o=>match Q91 xs with | none=>some (P0,false) | some l=>some (⟨o.1++l.map (·.1),o.2++l.map (·.2)⟩,true)) (λxs o=>(∀ x∈xs,x.size≤1048576)∧o.1.length+xs.length≤1000∧o.2.length+xs.length≤1000) (by omega) ?_ ?_ 2097153 ([],[]) ⟨λx hx=>hsz x (by simp [hx]),by simp; omega,by simp; omega⟩ (by omega)
 · rw [key]
   cases Q91 ls <;> rfl
 · intro n o i x xs hx hd hI ih
   obtain ⟨i1,i2,i3⟩:=hI
   simp only [List.length_cons] at i2 i3
   simp only [Qfu.eq_2]
   unfold Qky
   rw [hd,cond_true,hx,Qaa,Jlu (i1 x (by simp)),Qaa,Q91]
   cases hv:(Q8k x).2.2 with
   | false=>rfl
   | true =>
    rw [if_pos rfl,Bool.not_true,cond_false,ap1 (by simp only [List.length_singleton]; omega),Qaa,ap1 (by simp only [List.length_singleton]; omega),Qaa]
    have:=ih (o.1++[(Q8k x).1],o.2++[(Q8k x).2.1]) ⟨λy hy=>i1 y (by simp [hy]),by simp only [List.length_append,List.length_singleton]; omega,by simp only [List.length_append,List.length_singleton]; omega⟩
    rw [this]
    cases Q91 xs with
    | none=>rfl
    | some l=>simp
 · intro n o i hd _
   simp only [Qfu.eq_2]
   unfold Qky
   rw [hd,cond_false]
   simp [Q91]
def Jlx (p:Pallet):List Int:=[p.fW,p.fD,p.fH,p.fQ]
def Jh4 (t:Typ):List Int:=[t.f8,t.fW,t.fH,t.fD,t.fK,t.fQ,t.fL]
def Jed (x:Item):List Int:=[x.f8,x.fW,x.fH,x.fD,x.fQ,x.fM,x.fF]
def Q1d (r:Request):List (ByteArray×List Int) :=
 [(Q38,Jlx r.fJ),(Q47,[r.fU])]++(r.fT.map (λp=>(Q1t,[p.fA,p.fB]))++(r.fG.map (λt=>(Q0y,Jh4 t))++((Q31,[r.fR])::r.fV.map λx=>(Q0h,Jed x))))
def Q4j (l:List Int):Bool:=l.all λn=>inb n 0 999999
def Jgz:List (ByteArray×List Int)→ByteArray→ByteArray
 | [],o=>o
 | p::ps,o=>if Q4j p.2=true then Jgz ps (o++(Qla p.1 p.2++nl1)) else emB
def Jeo (w:Int):ByteArray:=(if w=0 then wWF else wWN)++nl1
def Jhs (r:Request):ByteArray:=bif inb r.f9 0 1 then Jgz (Q1d r) (Jeo r.f9) else emB
theorem Jdc {r:Request} (h1:r.fT.length≤64) (h2:r.fG.length≤64) (h3:r.fV.length≤64):(Q1d r).length≤200∧∀ p∈Q1d r,p.1.size≤7∧p.2.length≤7:=by
 refine ⟨by simp [Q1d]; omega,λp hp=>?_⟩
 unfold Q1d at hp
 simp only [List.mem_append,List.mem_cons,List.not_mem_nil,or_false,List.mem_map] at hp
 rcases hp with (rfl | rfl) | ⟨_,_,rfl⟩ | ⟨_,_,rfl⟩ | rfl | ⟨_,_,rfl⟩
 · exact ⟨(by decide:Q38.size≤7),by simp [Jlx]⟩
 · exact ⟨(by decide:Q47.size≤7),by simp⟩
 · exact ⟨(by decide:Q1t.size≤7),by simp⟩
 · exact ⟨(by decide:Q0y.size≤7),by simp [Jh4]⟩
 · exact ⟨(by decide:Q31.size≤7),by simp⟩
 · exact ⟨(by decide:Q0h.size≤7),by simp [Jed]⟩
theorem Jjk {fu:Nat} (hf:2097153≤fu) {r:Request} (h1:r.fT.length≤64) (h2:r.fG.length≤64) (h3:r.fV.length≤64):Qr8 fu r=some ((Q1d r).map (·.1),(Q1d r).map (·.2)):=by
 unfold Qr8
 have k1:∀ (w:List ByteArray) (n:List (List Int)),w.length≤200→n.length≤200→Qf3 fu r fu w n 0=some (w++r.fV.map (λ_=>Q0h),n++r.fV.map Jed):=λw n hw hn=>by
  have key:=lpI r.fV (λk (s:List ByteArray×List (List Int)) i=>Qf3 fu r k s.1 s.2 i) (λxs s=>some (s.1++xs.map (λ_=>Q0h),s.2++xs.map Jed)) (λxs s=>s.1.length+xs.length≤1000∧s.2.length+xs.length≤1000) (by omega) ?_ ?_ fu (w,n) ⟨by simp; omega,by simp; omega⟩ (by omega)
  · exact key
  · intro k s i x xs hx hd hI ih
    obtain ⟨i1,i2⟩:=hI
    simp only [List.length_cons] at i1 i2
    simp only [Qf3.eq_2]
    unfold Qod
    rw [hd,cond_true,hx,Qaa,ap1 (by simp; omega),Qaa,ap1 (by simp; omega),Qaa]
    have:=ih (s.1++[Q0h],s.2++[Jed x]) ⟨by simp; omega,by simp; omega⟩
    rw [List.append_assoc,List.append_assoc] at this
    exact this
  · intro k s i hd _
    simp only [Qf3.eq_2]
    unfold Qod
    rw [hd,cond_false]; simp
 have k2:∀ (w:List ByteArray) (n:List (List Int)),w.length≤100→n.length≤100→Qf4 fu r fu w n 0=some (w++(r.fG.map (λ_=>Q0y)++(Q31::r.fV.map (λ_=>Q0h))),n++(r.fG.map Jh4++([r.fR]::r.fV.map Jed))):=λw n hw hn=>by
  have key:=lpI r.fG (λk (s:List ByteArray×List (List Int)) i=>Qf4 fu r k s.1 s.2 i) (λxs s=>some (s.1++(xs.map (λ_=>Q0y)++(Q31::r.fV.map (λ_=>Q0h))),s.2++(xs.map Jh4++([r.fR]::r.fV.map Jed)))) (λxs s=>s.1.length+xs.length≤170∧s.2.length+xs.length≤170) (by omega) ?_ ?_ fu (w,n) ⟨by simp; omega,by simp; omega⟩ (by omega)
  · exact key
  · intro k s i x xs hx hd hI ih
    obtain ⟨i1,i2⟩:=hI
    simp only [List.length_cons] at i1 i2
    simp only [Qf4.eq_2]
    unfold Qo6
    rw [hd,cond_true,hx,Qaa,ap1 (by simp; omega),Qaa,ap1 (by simp; omega),Qaa]
    have:=ih (s.1++[Q0y],s.2++[Jh4 x]) ⟨by simp; omega,by simp; omega⟩
    rw [List.append_assoc,List.append_assoc] at this
    exact this
  · intro k s i hd hI
    obtain ⟨i1,i2⟩:=hI
    simp only [List.length_nil,Nat.add_zero] at i1 i2
    simp only [Qf4.eq_2]
    unfold Qo6
    rw [hd,cond_false,ap1 (by simp; omega),Qaa,ap1 (by simp; omega),Qaa]
    have:=k1 (s.1++[Q31]) (s.2++[[r.fR]]) (by simp; omega) (by simp; omega)
    rw [List.append_assoc,List.append_assoc] at this
    exact this
 have key:=lpI r.fT (λk (s:List ByteArray×List (List Int)) i=>Qhi fu r k s.1 s.2 i) (λxs s=>some (s.1++(xs.map (λ_=>Q1t)++(r.fG.map (λ_=>Q0y)++(Q31::r.fV.map (λ_=>Q0h)))),s.2++(xs.map (λp=>[p.fA,p.fB])++(r.fG.map Jh4++([r.fR]::r.fV.map Jed))))) (λxs s=>s.1.length+xs.length≤70∧s.2.length+xs.length≤70) (by omega) ?_ ?_ fu ([Q38,Q47],[Jlx r.fJ,[r.fU]]) ⟨by simp; omega,by simp; omega⟩ (by omega)
 · refine key.trans ?_
   simp only [Q1d,List.map_append,List.map_cons,List.map_nil,List.map_map]
   rfl
 · intro k s i x xs hx hd hI ih
   obtain ⟨i1,i2⟩:=hI
   simp only [List.length_cons] at i1 i2
   simp only [Qhi.eq_2]
   unfold Qoi
   simp only [hd,cond_true,hx,Qaa]
   rw [ap1 (by simp; omega),Qaa,ap1 (by simp; omega),Qaa]
   have:=ih (s.1++[Q1t],s.2++[[x.fA,x.fB]]) ⟨by simp; omega,by simp; omega⟩
   rw [List.append_assoc,List.append_assoc] at this
   exact this
 · intro k s i hd hI
   obtain ⟨i1,i2⟩:=hI
   simp only [List.length_nil,Nat.add_zero] at i1 i2
   simp only [Qhi.eq_2]
   unfold Qoi
   rw [hd,cond_false]
   exact k2 s.1 s.2 (by omega) (by omega)
theorem Jjc {fu:Nat} (hf:2097153≤fu) {w:ByteArray} {l:List Int} (hw:w.size≤100) (hl:l.length≤100):Qtf fu w l=some (if Q4j l=true then (Qla w l++nl1,true) else (emB,false)):=by
 unfold Qtf
 have key:=lpI l (λn (o:ByteArray) i=>Qhw fu l n o i) (λxs o=>some (if Q4j xs=true then (Qla o xs++nl1,true) else (emB,false))) (λxs o=>o.size+30*xs.length≤10000) (by omega) ?_ ?_ fu w (by omega) (by omega)
 · exact key
 · intro n o i x xs hx hd hI ih
   simp only [List.length_cons] at hI
   simp only [Qhw.eq_2]
   unfold Qpj
   rw [hd,cond_true,hx,Qaa,Q0a,Qaa]
   have eo:Q4j (x::xs)=(inb x 0 999999&&Q4j xs):=rfl
   cases hb:inb x 0 999999 with
   | false=>rw [eo,hb,if_neg (by simp)]; rfl
   | true =>
    have hxb:=Qcb.1 hb
    have hs:=Qu0 hxb
    have hz:sp1.size=1:=rfl
    rw [Bool.not_true,cond_false,eo,hb,Bool.true_and]
    show Qab (Qs5 o sp1) _=_
    rw [Qh8 (by omega),Qaa,Qaa,Q27 hf hxb,Qaa,Qh8 (by rw [ByteArray.size_append]; omega),Qaa,ByteArray.append_assoc,ih _ (by rw [ByteArray.size_append,ByteArray.size_append]; omega)]
    rfl
 · intro n o i hd hI
   simp only [List.length_nil] at hI
   simp only [Qhw.eq_2]
   unfold Qpj
   rw [hd,cond_false]
   show Qab (Qs5 o nl1) _=_
   rw [Qh8 (by show _+1≤_; omega)]
   rfl
theorem Ja9 {l:List Int} (h:Q4j l=true):∀ n∈l,0≤n∧n≤999999:=λn hn=>Qcb.1 (List.all_eq_true.1 h n hn)
theorem Q7r {w:ByteArray} {l:List Int} (h:Q4j l=true) (hw:w.size≤7) (hl:l.length≤7):(Qla w l++nl1).size≤165:=by
 have:=Qys l w (Ja9 h)
 rw [ByteArray.size_append,show nl1.size=1 from rfl]
 omega
theorem Q7u:∀ (ps:List (ByteArray×List Int)) (o:ByteArray),(∀ p∈ps,p.1.size≤7∧p.2.length≤7)→(Jgz ps o).size≤o.size+165*ps.length
 | [],o,_=>by simp [Jgz]
 | p::ps,o,h=>by
  unfold Jgz
  have hp:=h p (by simp)
  split
  · rename_i hk
    have h1:=Q7r hk hp.1 hp.2
    have h2:=Q7u ps (o++(Qla p.1 p.2++nl1)) λq hq=>h q (by simp [hq])
    rw [ByteArray.size_append] at h2
    simp only [List.length_cons]
    omega
  · show 0≤_; omega
theorem Ji6 {fu:Nat} (hf:2097153≤fu) {r:Request} (h1:r.fT.length≤64) (h2:r.fG.length≤64) (h3:r.fV.length≤64):Qit fu r=some (Jhs r)∧(Jhs r).size≤34000:=by
 obtain ⟨hl,hm⟩:=Jdc h1 h2 h3
 have hsz:(Jhs r).size≤34000:=by
  unfold Jhs
  cases inb r.f9 0 1
  · show 0≤_; omega
  · have:=Q7u (Q1d r) (Jeo r.f9) hm
    have hw:(Jeo r.f9).size≤20:=by unfold Jeo; split <;> decide
    rw [cond_true]
    omega
 refine ⟨?_,hsz⟩
 unfold Qit Jhs
 rw [Q0a,Qaa]
 cases hb:inb r.f9 0 1 with
 | false=>rfl
 | true =>
  have hw:=Qcb.1 hb
  rw [Bool.not_true,cond_false,cond_true]
  have e0:ix (([(⟨#[119,97,121,32,102,105,114,115,116,10]⟩:ByteArray),(⟨#[119,97,121,32,110,101,120,116,10]⟩:ByteArray)]:List ByteArray)) r.f9=some (Jeo r.f9):=by
   have:r.f9=0∨r.f9=1:=by omega
   rcases this with e | e <;> rw [e] <;> rfl
  rw [e0,Qaa,Jjk hf h1 h2 h3,Qaa]
  generalize Q1d r=R at hl hm
  have key:=Jd7 R (λn (o:ByteArray) i=>Qfc fu (R.map (·.1),R.map (·.2)) n o i) (λ_ xs o=>some (Jgz xs o)) (λ_ xs o=>(∀ p∈xs,p.1.size≤7∧p.2.length≤7)∧o.size+165*xs.length≤40000) (by omega) ?_ ?_ fu (Jeo r.f9) ⟨hm,by
   have hw:(Jeo r.f9).size≤20:=by unfold Jeo; split <;> decide
   omega⟩ (by omega)
  · exact key
  · intro n o pre p xs e hq hd hI ih
    obtain ⟨i1,i2⟩:=hI
    simp only [List.length_cons] at i2
    have hp:=i1 p (by simp)
    have a1:ix (R.map (·.1)) (pre.length:Int)=some p.1:=by rw [Qh2,e]; simp
    have a2:ix (R.map (·.2)) (pre.length:Int)=some p.2:=by rw [Qh2,e]; simp
    simp only [Qfc.eq_2]
    unfold Qja
    simp only [List.length_map]
    rw [hd,cond_true,a1,Qaa,a2,Qaa,Jjc hf (by omega) (by omega),Qaa,Jgz]
    cases hk:Q4j p.2 with
    | false=>rfl
    | true =>
     have hs:=Q7r hk hp.1 hp.2
     rw [if_pos rfl,if_pos rfl]
     show Qab (Qs5 o (Qla p.1 p.2++nl1)) _=_
     rw [Qh8 (by omega),Qaa,ih _ ⟨λq hq=>i1 q (by simp [hq]),by rw [ByteArray.size_append]; omega⟩]
  · intro n o hd _
    simp only [Qfc.eq_2]
    unfold Qja
    simp only [List.length_map]
    rw [hd,cond_false]; rfl
theorem Jgf {fu:Nat} {b:List U8} {c:Cur} (h:CO b c) (hf:2097153≤fu):Tot (Qrw fu c) λx=>x.1.size≤80000∧CO b x.2:=by
 unfold Qrw
 refine Tot.bind (Jg3 h hf) λx hx=>?_
 obtain ⟨e1,hs⟩:=Ji6 (r:=x.1) hf hx.1.1 hx.1.2.1 hx.1.2.2
 rw [e1,Qaa]
 generalize Jhs x.1=s at hs ⊢
 have hl:=Q5e s
 rw [Jcf (by omega),Qaa]
 refine Tot.bind (Qcy (h.re hx.2) _) λi hi=>?_
 have hi0:=hi.1.1
 have hi1:=hi.1.2 (by rw [Qam (by omega) (by omega)]; omega)
 rw [Qam (by omega) (by omega)] at hi1
 refine Tot.bind (Qcy (h.re hi.2) _) λk hk=>?_
 refine Tot.bif (λ_=>?_) λ_=>?_
 · exact Tot.bind (Ja1 ⟨hi0,by omega⟩) λl h1=>Tot.bind (Qy3 h1.1) λr hr=>Tot.mk ⟨by simp only; omega,h.re hk.2⟩
 refine Tot.bif (λ_=>?_) λ_=>?_
 · exact Tot.bind (Ja1 ⟨hi0,by omega⟩) λl h1=>Tot.bind (Qy3 h1.1) λr hr=>Tot.bind (Q7h ⟨hi0,by omega⟩) λl2 h2=>Tot.bind (Qy3 h2.1) λr2 hr2 =>
     Tot.bind (Q6m (h.re hk.2) _ (by simp)) λp hp=>by
      have hps:p.1.size≤19:=by
       have:=hp.1
       simp only [List.mem_cons,List.not_mem_nil,or_false] at this
       rcases this with e | e | e | e | e | e <;> rw [e] <;> decide
      exact Tot.sc (by omega) λx hx=>Tot.sc (by omega) λy hy=>Tot.mk ⟨by simp only; omega,h.re hp.2⟩
 refine Tot.bif (λ_=>?_) λ_=>?_
 · refine Tot.bif (λhc=>?_) λ_=>?_
   · have hlt:=of_decide_eq_true hc
     refine Tot.bind (Ja1 ⟨hi0,by omega⟩) λl h1=>Tot.bind (Qy3 h1.1) λr hr=>?_
     rw [Qam (n:=i.1+1) (by omega) (by omega)]
     exact Tot.bind (Q7h ⟨by omega,by omega⟩) λl2 h2=>Tot.bind (Qy3 h2.1) λr2 hr2=>Tot.sc (by omega) λy hy=>Tot.mk ⟨by simp only; omega,h.re hk.2⟩
   · exact Tot.mk ⟨by simp only; omega,h.re hk.2⟩
 refine Tot.bif (λ_=>?_) λ_=>?_
 · refine Tot.bind (Q6m (h.re hk.2) _ (by simp)) λp hp=>Tot.mk ⟨?_,h.re hp.2⟩
   have:=hp.1
   simp only [List.mem_cons,List.not_mem_nil,or_false] at this
   rcases this with e | e | e | e | e | e <;> simp only [e] <;> decide
 · exact Tot.mk ⟨by simp only; omega,h.re hk.2⟩
theorem Jf5 {b:List U8} (hb:b.length≤1048576):Tot (Qo9 2097153 b) λs=>s.size≤1048576:=by
 unfold Qo9
 refine Tot.bind (Jkp hb (by omega)) λc hc=>Tot.bind (Q5s hc.re' _) λy hy=>?_
 refine Tot.bif (λ_=>?_) λ_=>?_
 · exact Tot.bind (Jgf hy.re' (by omega)) λt ht=>Tot.mk (by omega)
 · refine Tot.bind (Jgm hy.re' (by omega)) λx hx=>?_
   obtain ⟨e1,hs⟩:=Ji6 (r:=x.1) (fu:=2097153) (by omega) hx.1.1 hx.1.2.1 hx.1.2.2
   rw [e1,Qaa]
   exact Tot.mk (by omega)
theorem Qyi {b:UInt8} {w:List UInt8} (r:List UInt8) (h:b∉w):pts b (w++b::r)=w::pts b r:=by
 unfold pts
 rw [Q5h _ h,Q5w]
 simp
theorem Jf7 {b:UInt8} {w:List UInt8} (h:b∉w):pts b w=[w]:=by
 have:=Q5h [] h
 rw [List.append_nil] at this
 unfold pts
 rw [this]
 simp [cut]
theorem Q46:∀ (l:List (List UInt8)) (w:List UInt8),32∉w→(∀ x∈l,(32:UInt8)∉x)→pts 32 (w++(l.map λx=>32::x).flatten)=w::l
 | [],w,hw,_=>by simpa using Jf7 hw
 | x::l,w,hw,h=>by
  rw [List.map_cons,List.flatten_cons,List.cons_append,Qyi _ hw,Q46 l x (h x (by simp)) λy hy=>h y (by simp [hy])]
theorem Q36:∀ (l:List (List UInt8)),(∀ x∈l,(10:UInt8)∉x)→pts 10 (l.map λx=>x++[10]).flatten=l++[[]]
 | [],_=>rfl
 | x::l,h=>by
  have:((x::l).map λx=>x++[10]).flatten=x++10::(l.map λx=>x++[10]).flatten:=by simp
  rw [this,Qyi _ (h x (by simp)),Q36 l λy hy=>h y (by simp [hy])]
  rfl
theorem Q33 {n:Int} (h:0≤n):(32:UInt8)∉(Qtz n).data.toList∧(10:UInt8)∉(Qtz n).data.toList:=by
 obtain ⟨u,rfl⟩:∃ u:Nat,n=u:=⟨n.toNat,by omega⟩
 have e:(Qtz (u:Int)).data.toList=Lib.decDigits u:=by rw [Qwz]
 rw [e]
 have:=Jef u
 exact ⟨λhm=>absurd (this _ hm).1 (by decide),λhm=>absurd (this _ hm).1 (by decide)⟩
theorem Jdf {p:ByteArray} {n:List Int} (hp:(32:UInt8)∉p.data.toList) (h:∀ x∈n,0≤x):Qix 32 (Qla p n)=p::n.map Qtz:=by
 unfold Qix
 have e:(Qla p n).data.toList=p.data.toList++((n.map λn=>(Qtz n).data.toList).map λx=>32::x).flatten:=by
  rw [Qze,List.map_map]; rfl
 rw [e,Q46 _ _ hp λx hx=>by
  obtain ⟨m,hm,rfl⟩:=List.mem_map.1 hx
  exact (Q33 (h m hm)).1]
 rw [List.map_cons,List.map_map]
 rfl
theorem Q87 {n:List Int} (h:∀ x∈n,0≤x):(10:UInt8)∉(Qla Qvz n).data.toList:=by
 rw [Qze]
 intro hm
 rcases List.mem_append.1 hm with hm | hm
 · revert hm; decide
 · obtain ⟨l,hl,hm⟩:=List.mem_flatten.1 hm
   obtain ⟨m,hmm,rfl⟩:=List.mem_map.1 hl
   rcases List.mem_cons.1 hm with e | e
   · exact absurd e (by decide)
   · exact (Q33 (h m hmm)).2 e
theorem Q65 {p:Carton×Spot} (h:okO p=true):(∀ n∈Qiw p.1 p.2,0≤n∧n≤999999)∧(Qiw p.1 p.2).length≤106:=by
 unfold okO at h
 rw [Bool.and_eq_true] at h
 exact Q3o h.1 h.2
theorem Jct {p:Carton×Spot} (h:okO p=true):Q8k (Qla Qvz (Qiw p.1 p.2))=(p.1,p.2,true):=by
 have hn:=Q65 h
 unfold Q8k
 rw [Jdf (by decide) λx hx=>(hn.1 x hx).1]
 show Jh2 Qvz (nms _)=_
 rw [Jas hn.1]
 unfold Jh2
 have e:Jlb (Qiw p.1 p.2)=p:=rfl
 have h6:¬ (Qiw p.1 p.2).length<6:=by simp [Qiw]
 simp only
 rw [if_neg h6,e,if_pos (by simpa using h)]
theorem Q1w:∀ {l:List (Carton×Spot)},(∀ p∈l,okO p=true)→Q91 (l.map λp=>Qla Qvz (Qiw p.1 p.2))=some l
 | [],_=>rfl
 | p::l,h=>by
  have hp:=Jct (h p (by simp))
  rw [List.map_cons,Q91,hp,if_pos rfl,Q1w λq hq=>h q (by simp [hq])]
  rfl
theorem Q7f:∀ (l:List (Carton×Spot)) (o:ByteArray),(l.foldl Jc7 o).data.toList=o.data.toList++(l.map λp=>(Qla Qvz (Qiw p.1 p.2)).data.toList++[10]).flatten
 | [],o=>by simp
 | p::l,o=>by
  rw [List.foldl_cons,Q7f l]
  unfold Jc7
  rw [Q5b,Q5b]
  simp [nl1]
theorem Q8x {x:Plan} (h:Q1x x=true):x.ft.length=x.fE.length∧x.fE.length≤100∧∀ p∈x.fE.zip x.ft,okO p=true:=by
 unfold Q1x at h
 simp only [Bool.and_eq_true,beq_iff_eq,decide_eq_true_eq,List.all_eq_true] at h
 obtain ⟨h1,h2,h3⟩:=h
 refine ⟨h1,by omega,λp hp=>?_⟩
 unfold okO
 rw [Bool.and_eq_true]
 exact h3 p hp
theorem Jc9 {x:Plan} (h:Q1x x=true):(Q39 x).data.toList=((x.fE.zip x.ft).map λp=>(Qla Qvz (Qiw p.1 p.2)).data.toList++[10]).flatten:=by
 unfold Q39
 rw [h,cond_true,Q7f]
 rfl
theorem Q9v {x:Plan} (h:Q1x x=true):Qix 10 (Q39 x)=((x.fE.zip x.ft).map λp=>Qla Qvz (Qiw p.1 p.2))++[emB]:=by
 have ha:=(Q8x h).2.2
 unfold Qix
 have e:(Q39 x).data.toList=(((x.fE.zip x.ft).map λp=>(Qla Qvz (Qiw p.1 p.2)).data.toList).map λx=>x++[10]).flatten:=by
  rw [Jc9 h,List.map_map]; rfl
 rw [e,Q36 _ λy hy=>by
  obtain ⟨p,hp,rfl⟩:=List.mem_map.1 hy
  exact Q87 λz hz=>((Q65 (ha p hp)).1 z hz).1]
 rw [List.map_append,List.map_map]
 rfl
theorem Jgx {x:Plan} (h:x.ft.length=x.fE.length):plO (x.fE.zip x.ft)=x:=by
 unfold plO
 rw [List.map_fst_zip (by omega),List.map_snd_zip (by omega)]
theorem Jhh {x:Plan} (h:Q1x x=true):Jdd (Q39 x)=(x,true):=by
 obtain ⟨h1,h2,h3⟩:=Q8x h
 unfold Jdd
 rw [Q9v h]
 have hz:(x.fE.zip x.ft).length=x.fE.length:=by simp; omega
 rw [if_pos ⟨by simp,by simp; omega⟩,List.dropLast_concat,Q1w h3]
 simp only
 rw [Jgx h1]
theorem Jfw:Jdd emB=(P0,true):=by
 unfold Jdd
 have:Qix 10 emB=[emB]:=rfl
 rw [this,if_pos ⟨rfl,by simp⟩]
 rfl
theorem Jjv {x:Plan} (h:Q1x x=false):Q39 x=emB:=by
 unfold Q39
 rw [h]; rfl
end Go.Proofs.YtndfoffokpdjeaaGreatDoor
