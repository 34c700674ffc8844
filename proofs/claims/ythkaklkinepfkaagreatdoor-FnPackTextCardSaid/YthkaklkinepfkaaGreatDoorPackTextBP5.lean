/- PackTextBP: plain le.. -/
import Derived.Test.YthkaklkinepfkaaGreatDoorPackTextBP4
set_option linter.unusedSimpArgs false
set_option linter.unusedVariables false
namespace Go.Proofs.YthkaklkinepfkaaGreatDoor
open Go
open Enc (rd ow)
open Arg (argv)
open Ret (retv)
open Wf (wf)
theorem Jbp (z:ByteArray):∀ (ls:List ByteArray) (last:Int) (r:Request) (i:Int) (n:Nat),r.fR.length≤n∧r.fU.length≤n∧r.fV.length≤n→(Qx1 z ls last r i).1.fR.length≤n+ls.length∧(Qx1 z ls last r i).1.fU.length≤n+ls.length∧(Qx1 z ls last r i).1.fV.length≤n+ls.length
 | [],last,r,i,n,h=>by
  rw [Qx1]
  split
  · simp [R0]
  split
  · simpa using h
  · simp [R0]
 | l::ls,last,r,i,n,h=>by
  rw [Qx1]
  cases mf last (ptl r l).1
  · simp [R0]
  · have:=Jax r l
    have:=Jbp z ls (ptl r l).1 (ptl r l).2 (i+1) (n+1) (by omega)
    simp only [cond_true,List.length_cons]
    omega
theorem Q7z (s:ByteArray):Sm 2097153 (rdM s).1:=by
 unfold rdM
 split
 · exact ⟨by omega,by simp [R0],by simp [R0],by simp [R0]⟩
 · rename_i h
   have:=Jbp ((Qiz 10 s).getLastD emB) (Qiz 10 s).dropLast (-1) R0 0 0 (by simp [R0])
   have h2:(Qiz 10 s).dropLast.length≤61:=by rw [List.length_dropLast]; omega
   exact ⟨by omega,by omega,by omega,by omega⟩
def Q41 (s:ByteArray):Int:=bif decide ((rdM s).2≥0) then 1 else Qhg (rdM s).1
theorem Jmg {s:ByteArray} (hs:s.size≤1048576):Qqj 2097153 s=some (Q41 s):=by
 unfold Qqj Q41
 rw [Je1 hs,Qaa]
 cases decide ((rdM s).2≥0)
 · rw [cond_false,cond_false,Jk7 (Q7z s),Qaa]
 · rfl
theorem Jl8 {s:ByteArray} (hs:s.size≤1048576):Qqc 2097153 s=some (Q41 s):=by
 unfold Qqc Q41
 rw [Jex hs,Qaa]
 cases decide ((rdM s).2≥0)
 · rw [cond_false,cond_false,Q01 (Q7z s),Qaa]
 · rfl
def Q1o (s:ByteArray):ByteArray×Int:=bif Q41 s != 0 then (emB,Q41 s) else (Q4k (Q8d (rdM s).1).1,0)
theorem Jji {s:ByteArray} (hs:s.size≤1048576):Qs2 2097153 s=some (Q1o s):=by
 unfold Qs2 Q1o
 rw [Jmg hs,Qaa]
 cases Q41 s != 0
 · rw [cond_false,cond_false,Je1 hs,Qaa,Jky (Q7z s),Qaa,Jkg (Jd3 _) (by omega),Qaa]
 · rfl
theorem Jmk {s:ByteArray} (hs:s.size≤1048576):Quf 2097153 s=some (Q1o s):=by
 unfold Quf Q1o
 rw [Jl8 hs,Qaa]
 cases Q41 s != 0
 · rw [cond_false,cond_false,Jex hs,Qaa,Jig (Q7z s),Qaa,Jkc (Jd3 _) (by omega),Qaa]
 · rfl
def Jly:List ByteArray:=[⟨#[111,107]⟩,⟨#[116,101,120,116]⟩,⟨#[98,111,117,110,100,115]⟩,⟨#[110,97,109,101,115]⟩,⟨#[116,97,98,108,101]⟩,⟨#[117,110,105,116]⟩,⟨#[112,97,108,108,101,116]⟩]
def Qyq (k:Int):ByteArray:=bif inb k 0 6 then (ix Jly k).getD emB else emB
theorem Jis (fu:Nat) (k:Int):Qlm fu k=some (Qyq k):=by
 unfold Qlm Qyq
 rw [Q0b,Qaa]
 show (bif !inb k 0 6 then _ else Qab (ix Jly k) _)=_
 cases hb:inb k 0 6
 · rfl
 · have h:=Qcb.1 hb
   rw [Bool.not_true,cond_false,cond_true]
   obtain ⟨u,rfl⟩:∃ u:Nat,k=u:=⟨k.toNat,by omega⟩
   rw [Qz2 (l:=Jly) (by show u<7; omega)]
   rfl
theorem Jko (fu:Nat) (k:Int):Ql3 fu k=some (Qyq k):=Jis fu k
theorem Qyo (k:Int):(Qyq k).size≤6:=by
 unfold Qyq
 cases hb:inb k 0 6
 · show (0:Nat)≤6; omega
 · have h:=Qcb.1 hb
   have:k=0∨k=1∨k=2∨k=3∨k=4∨k=5∨k=6:=by omega
   rcases this with rfl | rfl | rfl | rfl | rfl | rfl | rfl <;> decide
def Q7h:ByteArray:=⟨#[33,32]⟩
def Jce (s:ByteArray):ByteArray:=bif (Q1o s).2 != 0 then Q7h++Qyq (Q1o s).2++nl1 else (Q1o s).1
theorem Jl5 {s:ByteArray} (hs:s.size≤1048576):Qo9 2097153 s=some (Jce s):=by
 unfold Qo9 Jce
 rw [Jmk hs,Qaa]
 cases (Q1o s).2 != 0
 · rfl
 · have h:=Qyo (Q1o s).2
   rw [cond_true,cond_true,Jis,Qaa]
   show Qab (Qs5 Q7h (Qyq (Q1o s).2)) (λx=>Qab (Qs5 x nl1) λy=>some y)=_
   rw [Qh9 (by show 2+_≤_; omega),Qaa,Qh9 (by rw [ByteArray.size_append]; show 2+_+1≤_; omega),Qaa]
theorem Jnb {s:ByteArray} (hs:s.size≤1048576):Qoo 2097153 s=some (Jce s):=by
 unfold Qoo Jce Qtp
 rw [Jji hs,Qaa]
 cases (Q1o s).2 != 0
 · rfl
 · have h:=Qyo (Q1o s).2
   rw [cond_true,cond_true,Jko,Qaa]
   show Qab (Qab (Qs5 Q7h (Qyq (Q1o s).2)) λx=>some x) (λx=>Qab (Qs5 x nl1) λy=>some y)=_
   rw [Qh9 (by show 2+_≤_; omega),Qaa,Qaa,Qh9 (by rw [ByteArray.size_append]; show 2+_+1≤_; omega),Qaa]
def Tot {α:Type} (o:Option α) (Q:α→Prop):Prop:=∃ x,o=some x∧Q x
theorem Tot.mk {α:Type} {x:α} {Q:α→Prop} (h:Q x):Tot (some x) Q:=⟨x,rfl,h⟩
theorem Tot.of {α:Type} {o:Option α} {x:α} {Q:α→Prop} (e:o=some x) (h:Q x):Tot o Q:=⟨x,e,h⟩
theorem Tot.bind {α β:Type} {m:Option α} {k:α→Option β} {R:α→Prop} {Q:β→Prop} (h:Tot m R) (hk:∀ x,R x→Tot (k x) Q):Tot (Qab m k) Q:=by
 obtain ⟨x,rfl,hx⟩:=h
 exact hk x hx
theorem Tot.bif {α:Type} {c:Bool} {a b:Option α} {Q:α→Prop} (h1:c=true→Tot a Q) (h2:c=false→Tot b Q):Tot (bif c then a else b) Q:=by
 cases c
 · exact h2 rfl
 · exact h1 rfl
theorem Tot.imp {α:Type} {o:Option α} {Q R:α→Prop} (h:Tot o Q) (hi:∀ x,Q x→R x):Tot o R:=by
 obtain ⟨x,e,hx⟩:=h
 exact ⟨x,e,hi x hx⟩
theorem Tot.ap {α β:Type} {bytes:Nat} {xs ys:List α} {k:List α→Option β} {Q:β→Prop} (h:(xs.length+ys.length)*bytes≤140737488355328) (hk:Tot (k (xs++ys)) Q):Tot (Qab (Qc7 bytes xs ys) k) Q:=by
 rw [ap1 h]; exact hk
theorem Tot.ix {α β:Type} {l:List α} {i:Int} {k:α→Option β} {Q:β→Prop} (h:0≤i∧i<l.length) (hk:∀ x,x∈l→Tot (k x) Q):Tot (Qab (ix l i) k) Q:=by
 have e:=Qz2 (l:=l) (i:=i.toNat) (by omega)
 rw [show ((i.toNat:Nat):Int)=i by omega] at e
 rw [e]
 exact hk _ (List.getElem_mem _)
theorem lpT {σ β:Type} (b:Int) (L:Nat→σ→Int→Option β) (Q:β→Prop) (I:Int→σ→Prop) (hb:b≤1099511627776)
    (hs:∀ n s (i:Int),0≤i→i<b→I i s→(∀ s',I (i+1) s'→Tot (L n s' (w64 (i+1))) Q)→Tot (L (n+1) s i) Q)
    (he:∀ n s (i:Int),0≤i→b≤i→I i s→Tot (L (n+1) s i) Q):∀ (m:Nat) n s (a:Int),0≤a→(b - a).toNat=m→m<n→I a s→Tot (L n s a) Q:=by
 intro m
 induction m with
 | zero =>
  intro n s a ha hm hn hI
  obtain ⟨n,rfl⟩:∃ k,n=k+1:=⟨n - 1,by omega⟩
  exact he n s a ha (by omega) hI
 | succ m ih =>
  intro n s a ha hm hn hI
  obtain ⟨n,rfl⟩:∃ k,n=k+1:=⟨n - 1,by omega⟩
  refine hs n s a ha (by omega) hI λs' hI'=>?_
  rw [Qam (by omega) (by omega)]
  exact ih n s' (a+1) (by omega) (by omega) (by omega) hI'
def CO (b:List U8) (c:Cur):Prop:=c.fb=b∧0≤c.fi∧b.length≤1048576
theorem CO.re {b:List U8} {c c':Cur} (h:CO b c) (h':CO b c'):CO b ⟨c.fb,c'.fi,c'.fh⟩:=⟨h.1,h'.2⟩
theorem CO.re' {b:List U8} {c':Cur} (h':CO b c'):CO b ⟨b,c'.fi,c'.fh⟩:=⟨rfl,h'.2⟩
theorem Je0 (x:Int):0≤IntKind.wrap .i64 (((BitVec.ofInt (IntKind.bits .i64) x &&& BitVec.ofInt (IntKind.bits .i64) 255).toNat:Nat):Int)∧IntKind.wrap .i64 (((BitVec.ofInt (IntKind.bits .i64) x &&& BitVec.ofInt (IntKind.bits .i64) 255).toNat:Nat):Int)≤255:=by
 have h:(BitVec.ofInt (IntKind.bits .i64) x &&& BitVec.ofInt (IntKind.bits .i64) 255).toNat≤255:=by
  rw [BitVec.toNat_and]
  have h2:(BitVec.ofInt (IntKind.bits .i64) 255).toNat=255:=by decide
  rw [h2]
  exact Nat.and_le_right
 have e:=Qam (n:=(((BitVec.ofInt (IntKind.bits .i64) x &&& BitVec.ofInt (IntKind.bits .i64) 255).toNat:Nat):Int)) (by omega) (by omega)
 unfold w64 at e
 rw [e]
 omega
theorem Qzk {fu:Nat} {b:List U8} {c:Cur} (h:CO b c):Tot (Qho fu c) λx=>(0≤x.1∧x.1≤255)∧CO b x.2:=by
 obtain ⟨h1,h2,h3⟩:=h
 unfold Qho
 refine Tot.bif (λhc=>?_) λhc=>?_
 · have hlt:=of_decide_eq_true hc
   refine Tot.ix ⟨h2,hlt⟩ λx _=>Tot.mk ⟨Je0 _,h1,?_,h3⟩
   show 0≤w64 (c.fi+1)
   rw [h1] at hlt
   rw [Qam (by omega) (by omega)]; omega
 · exact Tot.mk ⟨Je0 _,h1,h2,h3⟩
theorem Qc1 {fu:Nat} {b:List U8} {c:Cur} (h:CO b c) (n:Int):Tot (Qal fu c n) λx=>(0≤x.1∧(0<n→x.1<n))∧CO b x.2:=by
 unfold Qal
 refine Tot.bif (λhc=>?_) λhc=>?_
 · have hlt:=of_decide_eq_true hc
   exact Tot.mk ⟨⟨Int.le_refl _,λh=>by omega⟩,h⟩
 · have hn:0<n:=by simpa using hc
   refine Tot.bif (λhc=>?_) λhc=>?_
   · refine Tot.bind (Qzk h) λx hx=>?_
     rw [Q95 (by omega),Qaa]
     exact Tot.mk ⟨⟨Int.tmod_nonneg _ hx.1.1,λ_=>Int.tmod_lt_of_pos _ hn⟩,h.re hx.2⟩
   · refine Tot.bind (Qzk h) λx hx=>Tot.bind (Qzk (h.re hx.2)) λy hy=>Tot.bind (Qzk (h.re hy.2)) λz hz=>Tot.bind (Qzk (h.re hz.2)) λq hq=>?_
     rw [Q95 (by omega),Qaa]
     obtain ⟨⟨x0,x1⟩,_⟩:=hx
     obtain ⟨⟨y0,y1⟩,_⟩:=hy
     obtain ⟨⟨z0,z1⟩,_⟩:=hz
     obtain ⟨⟨q0,q1⟩,hq2⟩:=hq
     refine Tot.mk ⟨⟨?_,λ_=>Int.tmod_lt_of_pos _ hn⟩,h.re hq2⟩
     apply Int.tmod_nonneg
     simp only [Qam (n:=x.1*16777216) (by omega) (by omega),Qam (n:=y.1*65536) (by omega) (by omega),Qam (n:=z.1*256) (by omega) (by omega)]
     rw [Qam (n:=x.1*16777216+y.1*65536) (by omega) (by omega),Qam (n:=x.1*16777216+y.1*65536+z.1*256) (by omega) (by omega),Qam (by omega) (by omega)]
     omega
theorem Q5x {fu:Nat} {b:List U8} {c:Cur} (h:CO b c) (n:Int):Tot (Qkj fu c n) λx=>CO b x.2:=by
 unfold Qkj
 exact Tot.bind (Qc1 h n) λx hx=>Tot.mk (h.re hx.2)
theorem Qtk {fu:Nat} {b:List U8} {c:Cur} (h:CO b c) (l:List Int) (hl:0<l.length):Tot (Qb4 fu c l) λx=>x.1∈l∧CO b x.2:=by
 unfold Qb4
 exact Tot.bind (Qc1 h _) λx hx=>Tot.ix ⟨hx.1.1,hx.1.2 (by omega)⟩ λy hy=>Tot.mk ⟨hy,h.re hx.2⟩
theorem Ji4 {fu:Nat} {b:List U8} (hb:b.length≤1048576) (hf:1048577≤fu):Tot (Qs6 fu b) (CO b):=by
 unfold Qs6
 refine lpT (b.length:Int) (λn s i=>Qg5 fu b n s i) (CO b) (λ_ _=>True) (by omega) ?_ ?_ b.length fu _ 0 (by omega) (by omega) (by omega) trivial
 · intro n s i h0 h1 _ ih
   simp only [Qg5.eq_2]
   unfold Qp4 Qst
   rw [Qao (by simpa using h1)]
   refine Tot.bif (λhc=>?_) λhc=>?_
   · exact Tot.ix ⟨h0,h1⟩ λx _=>ih _ trivial
   · exact Tot.mk ⟨rfl,by simp,hb⟩
 · intro n s i h0 h1 _
   simp only [Qg5.eq_2]
   unfold Qp4
   rw [Qaf (by simp; omega)]
   exact Tot.mk ⟨rfl,by simp,hb⟩
def SmR (r:Request):Prop:=r.fR.length≤64∧r.fU.length≤64∧r.fV.length≤64
theorem SmR.sm {r:Request} (h:SmR r) {fu:Nat} (hf:2097153≤fu):Sm fu r:=⟨hf,by have:=h.1; omega,by have:=h.2.1; omega,by have:=h.2.2; omega⟩
theorem Q6d {fu:Nat} {b:List U8} {c:Cur} (h:CO b c) (hf:1048577≤fu):Tot (Qlh fu c) λx=>(x.1.fR.length≤40∧(1≤x.1.fU.length∧x.1.fU.length≤8)∧x.1.fV.length≤8)∧CO b x.2:=by
 unfold Qlh
 refine Tot.bind (Qc1 h _) λx1 h1=>Tot.bind (Qtk (h.re h1.2) _ (by simp)) λx2 h2=>Tot.bind (Qtk (h.re h2.2) _ (by simp)) λx3 h3=>Tot.bind (Qtk (h.re h3.2) _ (by simp)) λx4 h4=>Tot.bind (Qtk (h.re h4.2) _ (by simp)) λx5 h5=>Tot.bind (Qc1 (h.re h5.2) _) λx6 h6=>?_
 have hb:=h.2.2
 have hcb:=h.1
 obtain ⟨c0,c1⟩:=h6.1
 have c1:=c1 (by omega)
 have ew:w64 (1+x6.1)=1+x6.1:=Qam (by omega) (by omega)
 have L4:=lpT (1+x6.1) (λn (s:Int×Int×List Pair) i=>Qdj fu c x1 x2 x3 x4 x5 x6 n s.1 s.2.1 s.2.2 i) (λx:Request×Cur=>(x.1.fR.length≤40∧(1≤x.1.fU.length∧x.1.fU.length≤8)∧x.1.fV.length≤8)∧CO b x.2)
  (λi s=>0≤s.1∧(s.2.2.length:Int)≤8*i∧i≤4) (by omega) ?_ ?_ (1+x6.1 - 0).toNat fu (x6.2.fi,x6.2.fh,[]) 0 (by omega) rfl (by omega) ⟨h6.2.2.1,by simp,by omega⟩
 · exact L4
 · intro n ⟨f1,f2,ps⟩ a ha0 ha1 hI ih
   obtain ⟨i1,i2,i3⟩:0≤f1∧(ps.length:Int)≤8*a∧a≤4:=hI
   simp only [Qdj.eq_2]
   unfold Qnb
   rw [ew,Qao (by simpa using ha1)]
   have L1:=lpT (a+1) (λm (s:Int×Int×List Pair) i=>Qex fu (Qdj fu c x1 x2 x3 x4 x5 x6 n) c a m s.1 s.2.1 s.2.2 i) (λx:Request×Cur=>(x.1.fR.length≤40∧(1≤x.1.fU.length∧x.1.fU.length≤8)∧x.1.fV.length≤8)∧CO b x.2)
    (λi s=>0≤s.1∧(s.2.2.length:Int)≤8*a+2*i∧i≤a+1) (by omega) ?_ ?_ (a+1 - 0).toNat fu (f1,f2,ps) 0 (by omega) rfl (by omega) ⟨i1,by simp; omega,by omega⟩
   · exact L1
   · intro m ⟨g1,g2,qs⟩ i hi0 hi1 hI ih2
     obtain ⟨j1,j2,j3⟩:0≤g1∧(qs.length:Int)≤8*a+2*i∧i≤a+1:=hI
     simp only [Qex.eq_2]
     unfold Ql9
     rw [Qao (by simp; omega)]
     unfold Qib
     refine Tot.bif (λhc=>?_) λhc=>?_
     · refine Tot.ap (by simp; omega) ?_
       exact ih2 (g1,g2,_) ⟨j1,by simp; omega,by omega⟩
     · refine Tot.bind (Q5x (b:=b) (c:=⟨c.fb,g1,g2⟩) ⟨hcb,j1,hb⟩ 2) λy hy=>?_
       refine Tot.bif (λhc=>?_) λhc=>?_
       · refine Tot.ap (by simp; omega) ?_
         exact ih2 (y.2.fi,y.2.fh,_) ⟨hy.2.1,by simp; omega,by omega⟩
       · exact ih2 (y.2.fi,y.2.fh,_) ⟨hy.2.1,by simp; omega,by omega⟩
   · intro m ⟨g1,g2,qs⟩ i hi0 hi1 hI
     obtain ⟨j1,j2,j3⟩:0≤g1∧(qs.length:Int)≤8*a+2*i∧i≤a+1:=hI
     simp only [Qex.eq_2]
     unfold Ql9
     rw [Qaf (by simp; omega)]
     have:i=a+1:=by omega
     exact ih (g1,g2,qs) ⟨j1,by simp; omega,by omega⟩
 · intro n ⟨f1,f2,ps⟩ a ha0 ha1 hI
   obtain ⟨i1,i2,i3⟩:0≤f1∧(ps.length:Int)≤8*a∧a≤4:=hI
   simp only [Qdj.eq_2]
   unfold Qnb
   rw [ew,Qaf (by simpa using ha1)]
   refine Tot.bind (Qc1 (b:=b) (c:=⟨c.fb,f1,f2⟩) ⟨hcb,i1,hb⟩ _) λy1 g1=>Tot.bind (Qtk (h.re g1.2) _ (by simp)) λy2 g2=>Tot.bind (Qtk (h.re g2.2) _ (by simp)) λy3 g3=>Tot.ap (by simp) ?_
   unfold Qp6
   refine Tot.bind (Qc1 (h.re g3.2) _) λy4 g4=>?_
   obtain ⟨e0,e1⟩:=g4.1
   have e1:=e1 (by omega)
   have L3:=lpT y4.1 (λm (s':Int×Int×List Typ) i=>Qgv fu c x1 x2 x3 x4 x5 x6 ps y4 m s'.1 s'.2.1 s'.2.2 i) (λx:Request×Cur=>(x.1.fR.length≤40∧(1≤x.1.fU.length∧x.1.fU.length≤8)∧x.1.fV.length≤8)∧CO b x.2)
    (λi s=>0≤s.1∧(s.2.2.length:Int)=1+i∧i≤y4.1) (by omega) ?_ ?_ (y4.1 - 0).toNat fu (y4.2.fi,y4.2.fh,([]:List Typ)++[(⟨7,12,10,11,y1.1,y2.1,y3.1⟩:Typ)]) 0 (by omega) rfl (by omega) ⟨g4.2.2.1,by simp,by omega⟩
   · exact L3
   · intro m ⟨g1,g2,ts⟩ i hi0 hi1 hI ih2
     obtain ⟨j1,j2,j3⟩:0≤g1∧(ts.length:Int)=1+i∧i≤y4.1:=hI
     simp only [Qgv.eq_2]
     unfold Qm9
     rw [Qao (by simp; omega)]
     refine Tot.bind (Qc1 (b:=b) (c:=⟨c.fb,g1,g2⟩) ⟨hcb,j1,hb⟩ _) λz1 f1=>Tot.bind (Qc1 (h.re f1.2) _) λz2 f2=>Tot.bind (Qc1 (h.re f2.2) _) λz3 f3=>Tot.bind (Qc1 (h.re f3.2) _) λz4 f4=>Tot.bind (Qc1 (h.re f4.2) _) λz5 f5=>Tot.bind (Qc1 (h.re f5.2) _) λz6 f6=>Tot.ap (by simp; omega) ?_
     exact ih2 (z6.2.fi,z6.2.fh,_) ⟨f6.2.2.1,by simp; omega,by omega⟩
   · intro m ⟨g1,g2,ts⟩ i hi0 hi1 hI
     obtain ⟨j1,j2,j3⟩:0≤g1∧(ts.length:Int)=1+i∧i≤y4.1:=hI
     simp only [Qgv.eq_2]
     unfold Qm9
     rw [Qaf (by simp; omega)]
     refine Tot.bind (Qc1 (b:=b) (c:=⟨c.fb,g1,g2⟩) ⟨hcb,j1,hb⟩ _) λz f=>?_
     obtain ⟨q0,q1⟩:=f.1
     have q1:=q1 (by omega)
     have L2:=lpT z.1 (λm (t:Int×Int×List Item×Int) i=>Qcr fu c x1 x2 x3 x4 x5 x6 ps ts z m t.1 t.2.1 t.2.2.1 t.2.2.2 i) (λx:Request×Cur=>(x.1.fR.length≤40∧(1≤x.1.fU.length∧x.1.fU.length≤8)∧x.1.fV.length≤8)∧CO b x.2)
      (λi t=>0≤t.1∧(t.2.2.1.length:Int)≤i∧i≤z.1) (by omega) ?_ ?_ (z.1 - 0).toNat fu (z.2.fi,z.2.fh,[],0) 0 (by omega) rfl (by omega) ⟨f.2.2.1,by simp,by omega⟩
     · exact L2
     · intro m' ⟨k4,k5,is,un⟩ i' hi0 hi1 hI ih2
       obtain ⟨k1,k2,k3⟩:0≤k4∧(is.length:Int)≤i'∧i'≤z.1:=hI
       simp only [Qcr.eq_2]
       unfold Qma
       rw [Qao (by simp; omega)]
       refine Tot.bind (Qc1 (b:=b) (c:=⟨c.fb,k4,k5⟩) ⟨hcb,k1,hb⟩ _) λw1 v1=>Tot.bind (Qc1 (h.re v1.2) _) λw2 v2=>Tot.bind (Qc1 (h.re v2.2) _) λw3 v3=>Tot.bind (Qc1 (h.re v3.2) _) λw4 v4=>Tot.bind (Qc1 (h.re v4.2) _) λw5 v5=>Tot.bind (Qc1 (h.re v5.2) _) λw6 v6=>?_
       unfold Qpx
       have J3:∀ (p q:Int) (x:Item),0≤p→Tot (Qhy fu (Qcr fu c x1 x2 x3 x4 x5 x6 ps ts z m') is un i' p q x) (λx:Request×Cur=>(x.1.fR.length≤40∧(1≤x.1.fU.length∧x.1.fU.length≤8)∧x.1.fV.length≤8)∧CO b x.2):=by
        intro p q x hp
        unfold Qhy Qj4
        refine Tot.bif (λhc=>?_) λhc=>?_
        · refine Tot.ap (by simp; omega) ?_
          exact ih2 (p,q,_,_) ⟨hp,by simp; omega,by omega⟩
        · exact ih2 (p,q,_,_) ⟨hp,by simp; omega,by omega⟩
       refine Tot.bind (Q5x (h.re v6.2) _) λw7 v7=>?_
       refine Tot.bif (λhc=>?_) λhc=>?_
       · refine Tot.bind (Qc1 (h.re v7) _) λw8 v8=>?_
         exact J3 _ _ _ v8.2.2.1
       · exact J3 _ _ _ v7.2.1
     · intro m' ⟨k4,k5,is,un⟩ i' hi0 hi1 hI
       obtain ⟨k1,k2,k3⟩:0≤k4∧(is.length:Int)≤i'∧i'≤z.1:=hI
       simp only [Qcr.eq_2]
       unfold Qma
       rw [Qaf (by simp; omega)]
       exact Tot.mk ⟨⟨by simp; omega,by simp; omega,by simp; omega⟩,hcb,k1,hb⟩
theorem Jga {fu:Nat} {b:List U8} {c:Cur} (h:CO b c) (hf:2097153≤fu):Tot (Qrw fu c) λx=>SmR x.1∧CO b x.2:=by
 unfold Qrw
 refine Tot.bind (Q6d h (by omega)) λx hx=>?_
 obtain ⟨⟨a1,a2,a3⟩,hc⟩:=hx
 have hs:SmR x.1:=⟨by omega,by omega,by omega⟩
 rw [Q01 (hs.sm hf),Qaa]
 refine Tot.bif (λ_=>?_) λ_=>Tot.mk ⟨hs,h.re hc⟩
 have hs2:Sm fu (⟨x.1.f0,(⟨30,25,24,400⟩:Pallet),x.1.fG,x.1.fR,x.1.fU,x.1.fT,x.1.fV⟩:Request):=⟨hf,by simp; omega,by simp; omega,by simp; omega⟩
 rw [Q84 hs2,Qaa]
 generalize Qyi _=t
 refine lpT (x.1.fV.length:Int) (λn s i=>Qga fu c x t n s i) _ (λi s=>(s.length:Int)≤i∧i≤x.1.fV.length) (by omega) ?_ ?_ _ fu [] 0 (by omega) rfl (by omega) ⟨by simp,by omega⟩
 · intro n s i h0 h1 hI ih
   simp only [Qga.eq_2]
   unfold Qoj Qlu
   rw [Qao (by simpa using h1)]
   refine Tot.ix ⟨h0,h1⟩ λy hy=>?_
   rw [Jfg hf,Qaa]
   refine Tot.bif (λ_=>?_) λ_=>ih _ ⟨by omega,by omega⟩
   refine Tot.ix ⟨h0,h1⟩ λy hy=>Tot.ap (by simp; omega) ?_
   exact ih _ ⟨by simp; omega,by omega⟩
 · intro n s i h0 h1 hI
   simp only [Qga.eq_2]
   unfold Qoj
   rw [Qaf (by simp; omega)]
   exact Tot.mk ⟨⟨by simp; omega,by simp; omega,by simp; omega⟩,h.re hc⟩
theorem Qz3 {α:Type} (l:List α) (i:Int) (y:α):(Qi0 l i y).length=l.length:=by simp [Qi0]
theorem Ja7 {α:Type} {l:List α} (h:0<l.length):sls l 1 (l.length:Int)=some (l.drop 1):=by
 rw [Qor (by omega)]
 congr 1
 exact List.take_of_length_le (by simp)
theorem Jfl {fu:Nat} {b:List U8} {c:Cur} (h:CO b c) (hf:2097153≤fu):Tot (Qsc fu c) λx=>SmR x.1∧CO b x.2:=by
 unfold Qsc
 refine Tot.bind (Q6d h (by omega)) λx hx=>?_
 obtain ⟨⟨a1,a2,a3⟩,hc⟩:=hx
 obtain ⟨c1,c2,c3⟩:=h
 have h:CO b c:=⟨c1,c2,c3⟩
 refine Tot.bind (Qtk (h.re hc) _ (by simp)) λy hy=>Tot.bind (Qc1 (h.re hy.2) _) λz hz=>?_
 have J:∀ (f264 f265 f266 f267:Int) (f268:List Pair) (f273:List Typ) (f278:Int) (f279:List Item) (f286 f287:Int),f268.length≤64→f273.length≤64→f279.length≤64→0≤f286→Tot (Qa8 fu c x f264 f265 f266 f267 f268 f273 f278 f279 f286 f287) λx=>SmR x.1∧CO b x.2:=by
  intro f264 f265 f266 f267 f268 f273 f278 f279 f286 f287 q1 q2 q3 q4
  exact Tot.mk ⟨⟨q1,q2,q3⟩,c1,q4,c3⟩
 have hz0:=hz.2.2.1
 refine Tot.bif (λ_=>?_) λ_=>?_
 · exact Tot.bind (Qtk (h.re hz.2) _ (by simp)) λy hy=>J _ _ _ _ _ _ _ _ _ _ (by omega) (by omega) (by omega) hy.2.2.1
 refine Tot.bif (λ_=>?_) λ_=>?_
 · exact J _ _ _ _ _ _ _ _ _ _ (by omega) (by omega) (by omega) hz0
 refine Tot.bif (λ_=>?_) λ_=>?_
 · exact J _ _ _ _ _ _ _ _ _ _ (by omega) (by omega) (by omega) hz0
 refine Tot.bif (λ_=>?_) λ_=>?_
 · exact Tot.bind (Qtk (h.re hz.2) _ (by simp)) λy hy=>J _ _ _ _ _ _ _ _ _ _ (by omega) (by omega) (by omega) hy.2.2.1
 refine Tot.bif (λ_=>?_) λ_=>?_
 · exact Tot.bind (Qc1 (h.re hz.2) _) λy hy=>Tot.bind (Qc1 (h.re hy.2) _) λv hv=>Tot.ap (by simp; omega) (J _ _ _ _ _ _ _ _ _ _ (by simp; omega) (by omega) (by omega) hv.2.2.1)
 refine Tot.bif (λ_=>?_) λ_=>?_
 · exact Tot.ix (by omega) λy hy=>J _ _ _ _ _ _ _ _ _ _ (by omega) (by rw [Qz3]; omega) (by omega) hz0
 refine Tot.bif (λ_=>?_) λ_=>?_
 · exact Tot.bind (Qc1 (h.re hz.2) _) λy hy=>Tot.ix ⟨hy.1.1,hy.1.2 (by omega)⟩ λv hv=>J _ _ _ _ _ _ _ _ _ _ (by omega) (by rw [Qz3]; omega) (by omega) hy.2.2.1
 refine Tot.bif (λ_=>?_) λ_=>?_
 · exact Tot.bind (Qtk (h.re hz.2) _ (by simp)) λy hy=>J _ _ _ _ _ _ _ _ _ _ (by omega) (by omega) (by omega) hy.2.2.1
 refine Tot.bif (λ_=>?_) λ_=>?_
 · exact Tot.bind (Qc1 (h.re hz.2) _) λy hy=>Tot.bind (Qc1 (h.re hy.2) _) λv hv=>Tot.ap (by simp; omega) (J _ _ _ _ _ _ _ _ _ _ (by omega) (by omega) (by simp; omega) hv.2.2.1)
 refine Tot.bif (λ_=>?_) λ_=>?_
 · refine Tot.bif (λhc=>?_) λ_=>?_
   · have:=of_decide_eq_true hc
     exact Tot.ix (by omega) λy hy=>J _ _ _ _ _ _ _ _ _ _ (by omega) (by omega) (by rw [Qz3]; omega) hz0
   · exact J _ _ _ _ _ _ _ _ _ _ (by omega) (by omega) (by omega) hz0
 refine Tot.bif (λ_=>?_) λ_=>?_
 · refine Tot.bif (λhc=>?_) λ_=>?_
   · have:=of_decide_eq_true hc
     rw [Ja7 (by omega),Qaa]
     exact J _ _ _ _ _ _ _ _ _ _ (by simp; omega) (by omega) (by omega) hz0
   · exact J _ _ _ _ _ _ _ _ _ _ (by omega) (by omega) (by omega) hz0
 refine Tot.bif (λ_=>?_) λ_=>?_
 · exact Tot.ix (by omega) λy hy=>Tot.ap (by simp; omega) (J _ _ _ _ _ _ _ _ _ _ (by omega) (by simp; omega) (by omega) hz0)
 refine Tot.bif (λ_=>?_) λ_=>?_
 · exact J _ _ _ _ _ _ _ _ _ _ (by omega) (by simp) (by omega) hz0
 · exact J _ _ _ _ _ _ _ _ _ _ (by omega) (by omega) (by omega) hz0
theorem Jma (fu:Nat) (b:List U8):Qw9 fu b=some (decide ((b.length:Int)>1048576)):=rfl
def Jeo (s:ByteArray):List U8:=s.data.toList.map λb=>(⟨(b.toNat:Int)⟩:U8)
theorem Q54 (s:ByteArray):(Jeo s).length=s.size:=by unfold Jeo; rw [List.length_map]; exact Array.length_toList
theorem Jde {s:ByteArray} (h:s.size≤1000000000):Ji6 s=some (Jeo s):=by unfold Ji6 Jeo; rw [if_pos h]
theorem Q9d {s:ByteArray} {x:U8} (h:x∈Jeo s):0≤x.n∧x.n≤255:=by
 obtain ⟨b,_,rfl⟩:=List.mem_map.1 h
 have:=b.toNat_lt
 exact ⟨by simp only; omega,by simp only; omega⟩
theorem Qzq {l:List U8} (h:∀ x∈l,0≤x.n∧x.n≤255):Tot (Q8o l) λr=>r.size=l.length:=by
 unfold Q8o
 rw [if_pos h]
 exact Tot.mk (by show (List.map _ _).toArray.size=_; simp)
theorem Q6f {fu:Nat} {b:List U8} {c:Cur} (h:CO b c) (l:List ByteArray) (hl:0<l.length):Tot (Qpb fu c l) λx=>x.1∈l∧CO b x.2:=by
 unfold Qpb
 exact Tot.bind (Qc1 h _) λx hx=>Tot.ix ⟨hx.1.1,hx.1.2 (by omega)⟩ λy hy=>Tot.mk ⟨hy,h.re hx.2⟩
theorem Q91 {s:ByteArray} {i:Int} (h:0≤i∧i≤s.size):Tot (sls (Jeo s) 0 i) λl=>(∀ x∈l,0≤x.n∧x.n≤255)∧l.length≤s.size:=by
 have hl:=Q54 s
 rw [Qor ⟨by omega,h.1,by omega⟩]
 refine Tot.mk ⟨λx hx=>Q9d (List.mem_of_mem_drop (List.mem_of_mem_take hx)),?_⟩
 simp only [List.length_take,List.length_drop]
 omega
theorem Q6k {s:ByteArray} {i:Int} (h:0≤i∧i≤s.size):Tot (sls (Jeo s) i ((Jeo s).length:Int)) λl=>(∀ x∈l,0≤x.n∧x.n≤255)∧l.length≤s.size:=by
 have hl:=Q54 s
 rw [Qor ⟨h.1,by omega,by omega⟩]
 refine Tot.mk ⟨λx hx=>Q9d (List.mem_of_mem_drop (List.mem_of_mem_take hx)),?_⟩
 simp only [List.length_take,List.length_drop]
 omega
theorem Tot.sc {β:Type} {x y:ByteArray} {k:ByteArray→Option β} {Q:β→Prop} (h:x.size+y.size≤1000000000) (hk:∀ z,z.size=x.size+y.size→Tot (k z) Q):Tot (Qab (Qs5 x y) k) Q:=by
 rw [Qh9 h]; exact hk _ (ByteArray.size_append)
theorem Jct {x:Plan}:(Q4k x).size≤240200:=by
 have key:∀ (l:List (Carton×Spot)) (o:ByteArray),(∀ p∈l,(Qll Qv0 (Qiw p.1 p.2)++nl1).size≤2401)→(l.foldl Jdx o).size≤o.size+2401*l.length:=by
  intro l
  induction l with
  | nil=>intro o _; simp
  | cons p l ih =>
   intro o h
   have h1:=h p (by simp)
   have h2:=ih (Jdx o p) λq hq=>h q (by simp [hq])
   have e:(Jdx o p).size=o.size+(Qll Qv0 (Qiw p.1 p.2)++nl1).size:=by unfold Jdx; rw [ByteArray.size_append]
   rw [List.foldl_cons,List.length_cons]
   omega
 unfold Q4k
 cases hp:Q1k x
 · show (0:Nat)≤_; omega
 · rw [cond_true]
   unfold Q1k at hp
   simp only [Bool.and_eq_true,decide_eq_true_eq,beq_iff_eq] at hp
   obtain ⟨p1,p2,p3⟩:=hp
   have:=key (x.fE.zip x.f9) ⟨#[]⟩ λp hp=>by
    have:=List.all_eq_true.1 p3 p hp
    rw [Bool.and_eq_true] at this
    exact (Q53 (Q3d this.1 this.2)).2
   have hz:(x.fE.zip x.f9).length=x.fE.length:=by simp; omega
   rw [hz] at this
   have e0:(⟨#[]⟩:ByteArray).size=0:=rfl
   omega
def C0:Carton:=⟨0,0,[]⟩
def T0:Spot:=⟨0,0,0,0⟩
def Jlg:List Int→Carton×Spot
 | a::b::c::d::e::f::u=>(⟨a,b,u⟩,⟨c,d,e,f⟩)
 | _=>(C0,T0)
theorem Joq {l:List Int} (h:¬ l.length<6):∃ a b c d e f u,l=a::b::c::d::e::f::u:=by
 match l,h with
 | [],h=>exact absurd (by simp) h
 | [_],h=>exact absurd (by simp) h
 | [_,_],h=>exact absurd (by simp) h
 | [_,_,_],h=>exact absurd (by simp) h
 | [_,_,_,_],h=>exact absurd (by simp) h
 | [_,_,_,_,_],h=>exact absurd (by simp) h
 | a::b::c::d::e::f::u,_=>exact ⟨a,b,c,d,e,f,u,rfl⟩
def okO (p:Carton×Spot):Bool:=Jcc p.1&&Jer p.2
def Jhp (w:ByteArray) (o:Option (List Int)):Carton×Spot×Bool :=
 match o with
 | none=>(C0,T0,false)
 | some n=>if n.length<6 then (C0,T0,false) else if w=Qv0∧okO (Jlg n)=true then ((Jlg n).1,(Jlg n).2,true) else (C0,T0,false)
def Q8m (s:ByteArray):Carton×Spot×Bool :=
 match Qiz 32 s with
 | []=>(C0,T0,false)
 | p::ps=>Jhp p (nms ps)
theorem Jom (c:Carton) (t:Spot):Q1k ⟨[c],[t]⟩=okO (c,t):=by
 unfold Q1k okO
 simp
theorem Joi {c:Carton} {t:Spot} (h:c.fO.length≤1048576):Sp ⟨[c],[t]⟩:=⟨by simp,λd hd=>by rw [List.mem_singleton.1 hd]; exact h,by simpa [Q71] using h,by simp⟩
theorem Jlz {a b c d e f:Int} {u:List Int} (h:u.length≤2000000):sls (a::b::c::d::e::f::u) 6 (((a::b::c::d::e::f::u).length:Nat):Int)=some u:=by
 rw [Qor (by simp only [List.length_cons]; omega),Int.toNat_natCast,show (6:Int).toNat=6 from rfl]
 simp
theorem Q9l:∀ {xs:List ByteArray} {n:List Int},nms xs=some n→n.length=xs.length
 | [],n,h=>by rw [← Option.some.inj h]; rfl
 | x::xs,n,h=>by
  rw [nms] at h
  split at h
  · cases hn:nms xs with
    | none=>rw [hn] at h; simp at h
    | some ms =>
     rw [hn] at h
     rw [← Option.some.inj h,List.length_cons,List.length_cons,Q9l hn]
  · simp at h
theorem Jlx {α:Type} (a b:α):(bif !(([],false):List Int×Bool).2 then a else b)=a:=rfl
theorem Jl3 {α:Type} (n:List Int) (a b:α):(bif !((n,true):List Int×Bool).2 then a else b)=b:=rfl
theorem Jna {s:ByteArray} (hs:s.size≤1048576):Qr9 2097153 s=some (Q8m s):=by
 unfold Qr9 Q8m
 have e:=Q3p (b:=32) hs
 have hl:=(Qlk 32 s).2
 rw [show ((32:UInt8).toNat:Int)=32 from rfl] at e
 rw [e,Qaa]
 cases hp:Qiz 32 s with
 | nil=>have:=(Qlk 32 s).1; rw [hp] at this; simp at this
 | cons p ps =>
  rw [hp] at hl
  simp only [List.length_cons] at hl ⊢
  have e2:w64 (((ps.length+1:Nat):Int) - 1)=ps.length:=by rw [Qam (by omega) (by omega)]; omega
  simp only [e2]
  show Qab (Qbo 2097153 s Qv0 (ps.length:Int)) _=_
  rw [Jay hs (by omega)]
  have hw:wrd Qv0 ps.length s=if p=Qv0 then nms ps else none:=by
   unfold wrd
   rw [hp]
   simp
  rw [hw]
  unfold Jhp
  by_cases hc:p=Qv0
  · rw [if_pos hc]
    cases hn:nms ps with
    | none=>rfl
    | some n =>
     have hnl:=Q9l hn
     simp only
     rw [obS,Jl3]
     by_cases h6:n.length<6
     · rw [Qao (by simp; omega),if_pos h6]; rfl
     rw [Qaf (by simp; omega),if_neg h6]
     unfold Qrg Qq9
     obtain ⟨a,b,c,d,e,f,u,rfl⟩:=Joq h6
     simp only [List.length_cons] at hnl
     show Qab (sls (a::b::c::d::e::f::u) 6 (((a::b::c::d::e::f::u).length:Nat):Int)) _=_
     rw [Jlz (by omega),Qaa]
     show Qab (Qjz 2097153 ⟨[⟨a,b,u⟩],[⟨c,d,e,f⟩]⟩) _=_
     rw [Jit (Joi (by simp; omega)) (by omega),Qaa,Jom]
     show (bif !okO (⟨a,b,u⟩,⟨c,d,e,f⟩) then _ else _)=some (if p=Qv0∧okO (⟨a,b,u⟩,⟨c,d,e,f⟩)=true then _ else _)
     cases hk:okO (⟨a,b,u⟩,⟨c,d,e,f⟩)
     · rw [if_neg (by simp)]; rfl
     · rw [if_pos ⟨hc,rfl⟩]; rfl
  · rw [if_neg hc,obR,Jlx]
    cases hn:nms ps with
    | none=>rfl
    | some n =>
     simp only
     split
     · rfl
     rw [if_neg (λh=>hc h.1)]; rfl
theorem Q5l (a b:ByteArray):(a++b).data.toList=a.data.toList++b.data.toList:=by rw [ByteArray.data_append]; simp
theorem Qzi:∀ (l:List Int) (o:ByteArray),(Qll o l).data.toList=o.data.toList++(l.map λn=>32::(Qt0 n).data.toList).flatten
 | [],o=>by simp [Qll]
 | n::l,o=>by
  show (Qll (o++(sp1++Qt0 n)) l).data.toList=_
  rw [Qzi l,Q5l,Q5l]
  simp [sp1]
def Jaz:List ByteArray→Option (List (Carton×Spot))
 | []=>some []
 | l::ls=>if (Q8m l).2.2=true then (Jaz ls).map (((Q8m l).1,(Q8m l).2.1)::·) else none
def P0:Plan:=⟨[],[]⟩
def plO (l:List (Carton×Spot)):Plan:=⟨l.map (·.1),l.map (·.2)⟩
def Jdk (s:ByteArray):Plan×Bool :=
 if (Qiz 10 s).getLastD emB=emB∧(Qiz 10 s).length≤101 then
  match Jaz (Qiz 10 s).dropLast with
  | some l=>(plO l,true)
  | none=>(P0,false)
 else (P0,false)
theorem Jlt {s:ByteArray} (hs:s.size≤1048576):Qoi 2097153 s=some (Jdk s):=by
 unfold Qoi Jdk
 have e:=Q3p (b:=10) hs
 rw [show ((10:UInt8).toNat:Int)=10 from rfl] at e
 rw [e,Qaa]
 obtain ⟨ls,z,h1,h2,h3⟩:=Q3n 10 s
 have hsz:=λx hx=>Nat.le_trans (Qsh (b:=10) (s:=s) (x:=x) hx) hs
 have hn:=(Qlk 10 s).2
 rw [h2,h3]
 rw [h1] at hsz hn ⊢
 simp only [List.length_append,List.length_singleton] at hn ⊢
 rw [Qam (by omega) (by omega),show ((ls.length+1:Nat):Int) - 1=ls.length by omega,Jf9,Qaa]
 show (bif (!(z.toList==emB.toList)) then _ else _)=_
 rw [Qwo]
 by_cases hz:z=emB
 rotate_left
 · rw [decide_eq_false hz,if_neg (λh=>hz h.1)]; rfl
 rw [decide_eq_true hz,Bool.not_true,cond_false]
 by_cases hc:ls.length≤100
 rotate_left
 · rw [Qao (by simp; omega),if_neg (by omega)]; rfl
 rw [Qaf (by simp; omega),if_pos ⟨hz,by omega⟩]
 unfold Qnt
 simp only [List.length_append,List.length_singleton]
 rw [Qam (by omega) (by omega),show ((ls.length+1:Nat):Int) - 1=ls.length by omega,Je2,Qaa]
 have key:=lpI ls (λn (o:List Carton×List Spot) i=>Qfs 2097153 ls n o.1 o.2 i) (λxs o=>match Jaz xs with | none=>some (P0,false) | some l=>some (⟨o.1++l.map (·.1),o.2++l.map (·.2)⟩,true)) (λxs o=>(∀ x∈xs,x.size≤1048576)∧o.1.length+xs.length≤1000∧o.2.length+xs.length≤1000) (by omega) ?_ ?_ 2097153 ([],[]) ⟨λx hx=>hsz x (by simp [hx]),by simp; omega,by simp; omega⟩ (by omega)
 · rw [key]
   cases Jaz ls <;> rfl
 · intro n o i x xs hx hd hI ih
   obtain ⟨i1,i2,i3⟩:=hI
   simp only [List.length_cons] at i2 i3
   simp only [Qfs.eq_2]
   unfold Qkv
   rw [hd,cond_true,hx,Qaa,Jna (i1 x (by simp)),Qaa,Jaz]
   cases hv:(Q8m x).2.2 with
   | false=>rfl
   | true =>
    rw [if_pos rfl,Bool.not_true,cond_false,ap1 (by simp only [List.length_singleton]; omega),Qaa,ap1 (by simp only [List.length_singleton]; omega),Qaa]
    have:=ih (o.1++[(Q8m x).1],o.2++[(Q8m x).2.1]) ⟨λy hy=>i1 y (by simp [hy]),by simp only [List.length_append,List.length_singleton]; omega,by simp only [List.length_append,List.length_singleton]; omega⟩
    rw [this]
    cases Jaz xs with
    | none=>rfl
    | some l=>simp
 · intro n o i hd _
   simp only [Qfs.eq_2]
   unfold Qkv
   rw [hd,cond_false]
   simp [Jaz]
def Jmv (p:Pallet):List Int:=[p.fW,p.fD,p.fH,p.fQ]
def Jh1 (t:Typ):List Int:=[t.ft,t.fW,t.fH,t.fD,t.qQ,t.fQ,t.fl]
def Je5 (x:Item):List Int:=[x.ft,x.fW,x.fH,x.fD,x.fQ,x.fK,x.fF]
def Q0j (r:Request):List (ByteArray×List Int) :=
 [(Q4q,Jmv r.fJ),(Q49,[r.fG])]++(r.fR.map (λp=>(Q1z,[p.fA,p.fB]))++(r.fU.map (λt=>(Q1d,Jh1 t))++((Q4y,[r.fT])::r.fV.map λx=>(Q1g,Je5 x))))
def Q42 (l:List Int):Bool:=l.all λn=>inb n 0 999999
def Jfz:List (ByteArray×List Int)→ByteArray→ByteArray
 | [],o=>o
 | p::ps,o=>if Q42 p.2=true then Jfz ps (o++(Qll p.1 p.2++nl1)) else emB
def Jd7 (w:Int):ByteArray:=(if w=0 then wWF else wWN)++nl1
def Jh5 (r:Request):ByteArray:=bif inb r.f0 0 1 then Jfz (Q0j r) (Jd7 r.f0) else emB
theorem Jda {r:Request} (h1:r.fR.length≤64) (h2:r.fU.length≤64) (h3:r.fV.length≤64):(Q0j r).length≤200∧∀ p∈Q0j r,p.1.size≤7∧p.2.length≤7:=by
 refine ⟨by simp [Q0j]; omega,λp hp=>?_⟩
 unfold Q0j at hp
 simp only [List.mem_append,List.mem_cons,List.not_mem_nil,or_false,List.mem_map] at hp
 rcases hp with (rfl | rfl) | ⟨_,_,rfl⟩ | ⟨_,_,rfl⟩ | rfl | ⟨_,_,rfl⟩
 · exact ⟨(by decide:Q4q.size≤7),by simp [Jmv]⟩
 · exact ⟨(by decide:Q49.size≤7),by simp⟩
 · exact ⟨(by decide:Q1z.size≤7),by simp⟩
 · exact ⟨(by decide:Q1d.size≤7),by simp [Jh1]⟩
 · exact ⟨(by decide:Q4y.size≤7),by simp⟩
 · exact ⟨(by decide:Q1g.size≤7),by simp [Je5]⟩
theorem Jjb {fu:Nat} (hf:2097153≤fu) {r:Request} (h1:r.fR.length≤64) (h2:r.fU.length≤64) (h3:r.fV.length≤64):Qsf fu r=some ((Q0j r).map (·.1),(Q0j r).map (·.2)):=by
 unfold Qsf
 have k1:∀ (w:List ByteArray) (n:List (List Int)),w.length≤200→n.length≤200→Qf6 fu r fu w n 0=some (w++r.fV.map (λ_=>Q1g),n++r.fV.map Je5):=λw n hw hn=>by
  have key:=lpI r.fV (λk (s:List ByteArray×List (List Int)) i=>Qf6 fu r k s.1 s.2 i) (λxs s=>some (s.1++xs.map (λ_=>Q1g),s.2++xs.map Je5)) (λxs s=>s.1.length+xs.length≤1000∧s.2.length+xs.length≤1000) (by omega) ?_ ?_ fu (w,n) ⟨by simp; omega,by simp; omega⟩ (by omega)
  · exact key
  · intro k s i x xs hx hd hI ih
    obtain ⟨i1,i2⟩:=hI
    simp only [List.length_cons] at i1 i2
    simp only [Qf6.eq_2]
    unfold Qns
    rw [hd,cond_true,hx,Qaa,ap1 (by simp; omega),Qaa,ap1 (by simp; omega),Qaa]
    have:=ih (s.1++[Q1g],s.2++[Je5 x]) ⟨by simp; omega,by simp; omega⟩
    rw [List.append_assoc,List.append_assoc] at this
    exact this
  · intro k s i hd _
    simp only [Qf6.eq_2]
    unfold Qns
    rw [hd,cond_false]; simp
 have k2:∀ (w:List ByteArray) (n:List (List Int)),w.length≤100→n.length≤100→Qf3 fu r fu w n 0=some (w++(r.fU.map (λ_=>Q1d)++(Q4y::r.fV.map (λ_=>Q1g))),n++(r.fU.map Jh1++([r.fT]::r.fV.map Je5))):=λw n hw hn=>by
  have key:=lpI r.fU (λk (s:List ByteArray×List (List Int)) i=>Qf3 fu r k s.1 s.2 i) (λxs s=>some (s.1++(xs.map (λ_=>Q1d)++(Q4y::r.fV.map (λ_=>Q1g))),s.2++(xs.map Jh1++([r.fT]::r.fV.map Je5)))) (λxs s=>s.1.length+xs.length≤170∧s.2.length+xs.length≤170) (by omega) ?_ ?_ fu (w,n) ⟨by simp; omega,by simp; omega⟩ (by omega)
  · exact key
  · intro k s i x xs hx hd hI ih
    obtain ⟨i1,i2⟩:=hI
    simp only [List.length_cons] at i1 i2
    simp only [Qf3.eq_2]
    unfold Qo0
    rw [hd,cond_true,hx,Qaa,ap1 (by simp; omega),Qaa,ap1 (by simp; omega),Qaa]
    have:=ih (s.1++[Q1d],s.2++[Jh1 x]) ⟨by simp; omega,by simp; omega⟩
    rw [List.append_assoc,List.append_assoc] at this
    exact this
  · intro k s i hd hI
    obtain ⟨i1,i2⟩:=hI
    simp only [List.length_nil,Nat.add_zero] at i1 i2
    simp only [Qf3.eq_2]
    unfold Qo0
    rw [hd,cond_false,ap1 (by simp; omega),Qaa,ap1 (by simp; omega),Qaa]
    have:=k1 (s.1++[Q4y]) (s.2++[[r.fT]]) (by simp; omega) (by simp; omega)
    rw [List.append_assoc,List.append_assoc] at this
    exact this
 have key:=lpI r.fR (λk (s:List ByteArray×List (List Int)) i=>Qhl fu r k s.1 s.2 i) (λxs s=>some (s.1++(xs.map (λ_=>Q1z)++(r.fU.map (λ_=>Q1d)++(Q4y::r.fV.map (λ_=>Q1g)))),s.2++(xs.map (λp=>[p.fA,p.fB])++(r.fU.map Jh1++([r.fT]::r.fV.map Je5))))) (λxs s=>s.1.length+xs.length≤70∧s.2.length+xs.length≤70) (by omega) ?_ ?_ fu ([Q4q,Q49],[Jmv r.fJ,[r.fG]]) ⟨by simp; omega,by simp; omega⟩ (by omega)
 · refine key.trans ?_
   simp only [Q0j,List.map_append,List.map_cons,List.map_nil,List.map_map]
   rfl
 · intro k s i x xs hx hd hI ih
   obtain ⟨i1,i2⟩:=hI
   simp only [List.length_cons] at i1 i2
   simp only [Qhl.eq_2]
   unfold Qoc
   simp only [hd,cond_true,hx,Qaa]
   rw [ap1 (by simp; omega),Qaa,ap1 (by simp; omega),Qaa]
   have:=ih (s.1++[Q1z],s.2++[[x.fA,x.fB]]) ⟨by simp; omega,by simp; omega⟩
   rw [List.append_assoc,List.append_assoc] at this
   exact this
 · intro k s i hd hI
   obtain ⟨i1,i2⟩:=hI
   simp only [List.length_nil,Nat.add_zero] at i1 i2
   simp only [Qhl.eq_2]
   unfold Qoc
   rw [hd,cond_false]
   exact k2 s.1 s.2 (by omega) (by omega)
theorem Jif {fu:Nat} (hf:2097153≤fu) {w:ByteArray} {l:List Int} (hw:w.size≤100) (hl:l.length≤100):Qte fu w l=some (if Q42 l=true then (Qll w l++nl1,true) else (emB,false)):=by
 unfold Qte
 have key:=lpI l (λn (o:ByteArray) i=>Qh4 fu l n o i) (λxs o=>some (if Q42 xs=true then (Qll o xs++nl1,true) else (emB,false))) (λxs o=>o.size+30*xs.length≤10000) (by omega) ?_ ?_ fu w (by omega) (by omega)
 · exact key
 · intro n o i x xs hx hd hI ih
   simp only [List.length_cons] at hI
   simp only [Qh4.eq_2]
   unfold Qp0
   rw [hd,cond_true,hx,Qaa,Q0b,Qaa]
   have eo:Q42 (x::xs)=(inb x 0 999999&&Q42 xs):=rfl
   cases hb:inb x 0 999999 with
   | false=>rw [eo,hb,if_neg (by simp)]; rfl
   | true =>
    have hxb:=Qcb.1 hb
    have hs:=Qux hxb
    have hz:sp1.size=1:=rfl
    rw [Bool.not_true,cond_false,eo,hb,Bool.true_and]
    show Qab (Qs5 o sp1) _=_
    rw [Qh9 (by omega),Qaa,Qaa,Q2k hf hxb,Qaa,Qh9 (by rw [ByteArray.size_append]; omega),Qaa,ByteArray.append_assoc,ih _ (by rw [ByteArray.size_append,ByteArray.size_append]; omega)]
    rfl
 · intro n o i hd hI
   simp only [List.length_nil] at hI
   simp only [Qh4.eq_2]
   unfold Qp0
   rw [hd,cond_false]
   show Qab (Qs5 o nl1) _=_
   rw [Qh9 (by show _+1≤_; omega)]
   rfl
theorem Jaf {l:List Int} (h:Q42 l=true):∀ n∈l,0≤n∧n≤999999:=λn hn=>Qcb.1 (List.all_eq_true.1 h n hn)
theorem Q6g {w:ByteArray} {l:List Int} (h:Q42 l=true) (hw:w.size≤7) (hl:l.length≤7):(Qll w l++nl1).size≤165:=by
 have:=Qzr l w (Jaf h)
 rw [ByteArray.size_append,show nl1.size=1 from rfl]
 omega
theorem Q66:∀ (ps:List (ByteArray×List Int)) (o:ByteArray),(∀ p∈ps,p.1.size≤7∧p.2.length≤7)→(Jfz ps o).size≤o.size+165*ps.length
 | [],o,_=>by simp [Jfz]
 | p::ps,o,h=>by
  unfold Jfz
  have hp:=h p (by simp)
  split
  · rename_i hk
    have h1:=Q6g hk hp.1 hp.2
    have h2:=Q66 ps (o++(Qll p.1 p.2++nl1)) λq hq=>h q (by simp [hq])
    rw [ByteArray.size_append] at h2
    simp only [List.length_cons]
    omega
  · show 0≤_; omega
theorem Jid {fu:Nat} (hf:2097153≤fu) {r:Request} (h1:r.fR.length≤64) (h2:r.fU.length≤64) (h3:r.fV.length≤64):Qiq fu r=some (Jh5 r)∧(Jh5 r).size≤34000:=by
 obtain ⟨hl,hm⟩:=Jda h1 h2 h3
 have hsz:(Jh5 r).size≤34000:=by
  unfold Jh5
  cases inb r.f0 0 1
  · show 0≤_; omega
  · have:=Q66 (Q0j r) (Jd7 r.f0) hm
    have hw:(Jd7 r.f0).size≤20:=by unfold Jd7; split <;> decide
    rw [cond_true]
    omega
 refine ⟨?_,hsz⟩
 unfold Qiq Jh5
 rw [Q0b,Qaa]
 cases hb:inb r.f0 0 1 with
 | false=>rfl
 | true =>
  have hw:=Qcb.1 hb
  rw [Bool.not_true,cond_false,cond_true]
  have e0:ix (([(⟨#[119,97,121,32,102,105,114,115,116,10]⟩:ByteArray),(⟨#[119,97,121,32,110,101,120,116,10]⟩:ByteArray)]:List ByteArray)) r.f0=some (Jd7 r.f0):=by
   have:r.f0=0∨r.f0=1:=by omega
   rcases this with e | e <;> rw [e] <;> rfl
  rw [e0,Qaa,Jjb hf h1 h2 h3,Qaa]
  generalize Q0j r=R at hl hm
  have key:=Jei R (λn (o:ByteArray) i=>Qfh fu (R.map (·.1),R.map (·.2)) n o i) (λ_ xs o=>some (Jfz xs o)) (λ_ xs o=>(∀ p∈xs,p.1.size≤7∧p.2.length≤7)∧o.size+165*xs.length≤40000) (by omega) ?_ ?_ fu (Jd7 r.f0) ⟨hm,by
   have hw:(Jd7 r.f0).size≤20:=by unfold Jd7; split <;> decide
   omega⟩ (by omega)
  · exact key
  · intro n o pre p xs e hq hd hI ih
    obtain ⟨i1,i2⟩:=hI
    simp only [List.length_cons] at i2
    have hp:=i1 p (by simp)
    have a1:ix (R.map (·.1)) (pre.length:Int)=some p.1:=by rw [Qh3,e]; simp
    have a2:ix (R.map (·.2)) (pre.length:Int)=some p.2:=by rw [Qh3,e]; simp
    simp only [Qfh.eq_2]
    unfold Qjn
    simp only [List.length_map]
    rw [hd,cond_true,a1,Qaa,a2,Qaa,Jif hf (by omega) (by omega),Qaa,Jfz]
    cases hk:Q42 p.2 with
    | false=>rfl
    | true =>
     have hs:=Q6g hk hp.1 hp.2
     rw [if_pos rfl,if_pos rfl]
     show Qab (Qs5 o (Qll p.1 p.2++nl1)) _=_
     rw [Qh9 (by omega),Qaa,ih _ ⟨λq hq=>i1 q (by simp [hq]),by rw [ByteArray.size_append]; omega⟩]
  · intro n o hd _
    simp only [Qfh.eq_2]
    unfold Qjn
    simp only [List.length_map]
    rw [hd,cond_false]; rfl
theorem Jgi {fu:Nat} {b:List U8} {c:Cur} (h:CO b c) (hf:2097153≤fu):Tot (Qr0 fu c) λx=>x.1.size≤80000∧CO b x.2:=by
 unfold Qr0
 refine Tot.bind (Jfl h hf) λx hx=>?_
 obtain ⟨e1,hs⟩:=Jid (r:=x.1) hf hx.1.1 hx.1.2.1 hx.1.2.2
 rw [e1,Qaa]
 generalize Jh5 x.1=s at hs ⊢
 have hl:=Q54 s
 rw [Jde (by omega),Qaa]
 refine Tot.bind (Qc1 (h.re hx.2) _) λi hi=>?_
 have hi0:=hi.1.1
 have hi1:=hi.1.2 (by rw [Qam (by omega) (by omega)]; omega)
 rw [Qam (by omega) (by omega)] at hi1
 refine Tot.bind (Qc1 (h.re hi.2) _) λk hk=>?_
 refine Tot.bif (λ_=>?_) λ_=>?_
 · exact Tot.bind (Q91 ⟨hi0,by omega⟩) λl h1=>Tot.bind (Qzq h1.1) λr hr=>Tot.mk ⟨by simp only; omega,h.re hk.2⟩
 refine Tot.bif (λ_=>?_) λ_=>?_
 · exact Tot.bind (Q91 ⟨hi0,by omega⟩) λl h1=>Tot.bind (Qzq h1.1) λr hr=>Tot.bind (Q6k ⟨hi0,by omega⟩) λl2 h2=>Tot.bind (Qzq h2.1) λr2 hr2 =>
     Tot.bind (Q6f (h.re hk.2) _ (by simp)) λp hp=>by
      have hps:p.1.size≤19:=by
       have:=hp.1
       simp only [List.mem_cons,List.not_mem_nil,or_false] at this
       rcases this with e | e | e | e | e | e <;> rw [e] <;> decide
      exact Tot.sc (by omega) λx hx=>Tot.sc (by omega) λy hy=>Tot.mk ⟨by simp only; omega,h.re hp.2⟩
 refine Tot.bif (λ_=>?_) λ_=>?_
 · refine Tot.bif (λhc=>?_) λ_=>?_
   · have hlt:=of_decide_eq_true hc
     refine Tot.bind (Q91 ⟨hi0,by omega⟩) λl h1=>Tot.bind (Qzq h1.1) λr hr=>?_
     rw [Qam (n:=i.1+1) (by omega) (by omega)]
     exact Tot.bind (Q6k ⟨by omega,by omega⟩) λl2 h2=>Tot.bind (Qzq h2.1) λr2 hr2=>Tot.sc (by omega) λy hy=>Tot.mk ⟨by simp only; omega,h.re hk.2⟩
   · exact Tot.mk ⟨by simp only; omega,h.re hk.2⟩
 refine Tot.bif (λ_=>?_) λ_=>?_
 · refine Tot.bind (Q6f (h.re hk.2) _ (by simp)) λp hp=>Tot.mk ⟨?_,h.re hp.2⟩
   have:=hp.1
   simp only [List.mem_cons,List.not_mem_nil,or_false] at this
   rcases this with e | e | e | e | e | e <;> simp only [e] <;> decide
 · exact Tot.mk ⟨by simp only; omega,h.re hk.2⟩
theorem Jfu {b:List U8} (hb:b.length≤1048576):Tot (Qpg 2097153 b) λs=>s.size≤1048576:=by
 unfold Qpg
 refine Tot.bind (Ji4 hb (by omega)) λc hc=>Tot.bind (Q5x hc.re' _) λy hy=>?_
 refine Tot.bif (λ_=>?_) λ_=>?_
 · exact Tot.bind (Jgi hy.re' (by omega)) λt ht=>Tot.mk (by omega)
 · refine Tot.bind (Jga hy.re' (by omega)) λx hx=>?_
   obtain ⟨e1,hs⟩:=Jid (r:=x.1) (fu:=2097153) (by omega) hx.1.1 hx.1.2.1 hx.1.2.2
   rw [e1,Qaa]
   exact Tot.mk (by omega)
theorem Qyd {b:UInt8} {w:List UInt8} (r:List UInt8) (h:b∉w):pts b (w++b::r)=w::pts b r:=by
 unfold pts
 rw [Q5j _ h,Q5u]
 simp
theorem Jhh {b:UInt8} {w:List UInt8} (h:b∉w):pts b w=[w]:=by
 have:=Q5j [] h
 rw [List.append_nil] at this
 unfold pts
 rw [this]
 simp [cut]
theorem Q4d:∀ (l:List (List UInt8)) (w:List UInt8),32∉w→(∀ x∈l,(32:UInt8)∉x)→pts 32 (w++(l.map λx=>32::x).flatten)=w::l
 | [],w,hw,_=>by simpa using Jhh hw
 | x::l,w,hw,h=>by
  rw [List.map_cons,List.flatten_cons,List.cons_append,Qyd _ hw,Q4d l x (h x (by simp)) λy hy=>h y (by simp [hy])]
theorem Q4c:∀ (l:List (List UInt8)),(∀ x∈l,(10:UInt8)∉x)→pts 10 (l.map λx=>x++[10]).flatten=l++[[]]
 | [],_=>rfl
 | x::l,h=>by
  have:((x::l).map λx=>x++[10]).flatten=x++10::(l.map λx=>x++[10]).flatten:=by simp
  rw [this,Qyd _ (h x (by simp)),Q4c l λy hy=>h y (by simp [hy])]
  rfl
theorem Q4i {n:Int} (h:0≤n):(32:UInt8)∉(Qt0 n).data.toList∧(10:UInt8)∉(Qt0 n).data.toList:=by
 obtain ⟨u,rfl⟩:∃ u:Nat,n=u:=⟨n.toNat,by omega⟩
 have e:(Qt0 (u:Int)).data.toList=Lib.decDigits u:=by rw [Qw8]
 rw [e]
 have:=Jet u
 exact ⟨λhm=>absurd (this _ hm).1 (by decide),λhm=>absurd (this _ hm).1 (by decide)⟩
theorem Jcr {p:ByteArray} {n:List Int} (hp:(32:UInt8)∉p.data.toList) (h:∀ x∈n,0≤x):Qiz 32 (Qll p n)=p::n.map Qt0:=by
 unfold Qiz
 have e:(Qll p n).data.toList=p.data.toList++((n.map λn=>(Qt0 n).data.toList).map λx=>32::x).flatten:=by
  rw [Qzi,List.map_map]; rfl
 rw [e,Q4d _ _ hp λx hx=>by
  obtain ⟨m,hm,rfl⟩:=List.mem_map.1 hx
  exact (Q4i (h m hm)).1]
 rw [List.map_cons,List.map_map]
 rfl
theorem Q8t {n:List Int} (h:∀ x∈n,0≤x):(10:UInt8)∉(Qll Qv0 n).data.toList:=by
 rw [Qzi]
 intro hm
 rcases List.mem_append.1 hm with hm | hm
 · revert hm; decide
 · obtain ⟨l,hl,hm⟩:=List.mem_flatten.1 hm
   obtain ⟨m,hmm,rfl⟩:=List.mem_map.1 hl
   rcases List.mem_cons.1 hm with e | e
   · exact absurd e (by decide)
   · exact (Q4i (h m hmm)).2 e
theorem Q7e {p:Carton×Spot} (h:okO p=true):(∀ n∈Qiw p.1 p.2,0≤n∧n≤999999)∧(Qiw p.1 p.2).length≤106:=by
 unfold okO at h
 rw [Bool.and_eq_true] at h
 exact Q3d h.1 h.2
theorem Jdf {p:Carton×Spot} (h:okO p=true):Q8m (Qll Qv0 (Qiw p.1 p.2))=(p.1,p.2,true):=by
 have hn:=Q7e h
 unfold Q8m
 rw [Jcr (by decide) λx hx=>(hn.1 x hx).1]
 show Jhp Qv0 (nms _)=_
 rw [Jal hn.1]
 unfold Jhp
 have e:Jlg (Qiw p.1 p.2)=p:=rfl
 have h6:¬ (Qiw p.1 p.2).length<6:=by simp [Qiw]
 simp only
 rw [if_neg h6,e,if_pos (by simpa using h)]
theorem Q1j:∀ {l:List (Carton×Spot)},(∀ p∈l,okO p=true)→Jaz (l.map λp=>Qll Qv0 (Qiw p.1 p.2))=some l
 | [],_=>rfl
 | p::l,h=>by
  have hp:=Jdf (h p (by simp))
  rw [List.map_cons,Jaz,hp,if_pos rfl,Q1j λq hq=>h q (by simp [hq])]
  rfl
theorem Q6h:∀ (l:List (Carton×Spot)) (o:ByteArray),(l.foldl Jdx o).data.toList=o.data.toList++(l.map λp=>(Qll Qv0 (Qiw p.1 p.2)).data.toList++[10]).flatten
 | [],o=>by simp
 | p::l,o=>by
  rw [List.foldl_cons,Q6h l]
  unfold Jdx
  rw [Q5l,Q5l]
  simp [nl1]
theorem Jac {x:Plan} (h:Q1k x=true):x.f9.length=x.fE.length∧x.fE.length≤100∧∀ p∈x.fE.zip x.f9,okO p=true:=by
 unfold Q1k at h
 simp only [Bool.and_eq_true,beq_iff_eq,decide_eq_true_eq,List.all_eq_true] at h
 obtain ⟨h1,h2,h3⟩:=h
 refine ⟨h1,by omega,λp hp=>?_⟩
 unfold okO
 rw [Bool.and_eq_true]
 exact h3 p hp
theorem Jcj {x:Plan} (h:Q1k x=true):(Q4k x).data.toList=((x.fE.zip x.f9).map λp=>(Qll Qv0 (Qiw p.1 p.2)).data.toList++[10]).flatten:=by
 unfold Q4k
 rw [h,cond_true,Q6h]
 rfl
theorem Jap {x:Plan} (h:Q1k x=true):Qiz 10 (Q4k x)=((x.fE.zip x.f9).map λp=>Qll Qv0 (Qiw p.1 p.2))++[emB]:=by
 have ha:=(Jac h).2.2
 unfold Qiz
 have e:(Q4k x).data.toList=(((x.fE.zip x.f9).map λp=>(Qll Qv0 (Qiw p.1 p.2)).data.toList).map λx=>x++[10]).flatten:=by
  rw [Jcj h,List.map_map]; rfl
 rw [e,Q4c _ λy hy=>by
  obtain ⟨p,hp,rfl⟩:=List.mem_map.1 hy
  exact Q8t λz hz=>((Q7e (ha p hp)).1 z hz).1]
 rw [List.map_append,List.map_map]
 rfl
theorem Jg2 {x:Plan} (h:x.f9.length=x.fE.length):plO (x.fE.zip x.f9)=x:=by
 unfold plO
 rw [List.map_fst_zip (by omega),List.map_snd_zip (by omega)]
theorem Jf3 {x:Plan} (h:Q1k x=true):Jdk (Q4k x)=(x,true):=by
 obtain ⟨h1,h2,h3⟩:=Jac h
 unfold Jdk
 rw [Jap h]
 have hz:(x.fE.zip x.f9).length=x.fE.length:=by simp; omega
 rw [if_pos ⟨by simp,by simp; omega⟩,List.dropLast_concat,Q1j h3]
 simp only
 rw [Jg2 h1]
theorem Jg6:Jdk emB=(P0,true):=by
 unfold Jdk
 have:Qiz 10 emB=[emB]:=rfl
 rw [this,if_pos ⟨rfl,by simp⟩]
 rfl
theorem Ji8 {x:Plan} (h:Q1k x=false):Q4k x=emB:=by
 unfold Q4k
 rw [h]; rfl
end Go.Proofs.YthkaklkinepfkaaGreatDoor
