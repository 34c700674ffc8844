/- RenamedBP: plain lem.. -/
import Derived.Test.YtndfoffokpdjeaaGreatDoorRenamedBP3
set_option linter.unusedSimpArgs false
set_option linter.unusedVariables false
namespace Go.Proofs.YtndfoffokpdjeaaGreatDoor
open Go
open Enc (rd ow)
open Arg (argv)
open Ret (retv)
open Wf (wf)
def CT (l:List Typ):Prop:=∀ t∈l,t.fE≤1000
theorem CT.app {l:List Typ} {y:Typ} (h:CT l) (hy:y.fE≤1000):CT (l++[y]):=λt ht=>by
 rcases List.mem_append.1 ht with ht | ht
 · exact h t ht
 · rw [List.mem_singleton.1 ht]; exact hy
theorem CT.set {l:List Typ} {i:Int} {y:Typ} (h:CT l) (hy:y.fE≤1000):CT (Qim l i y):=λt ht=>by
 unfold Qim at ht
 rcases List.mem_or_eq_of_mem_set ht with ht | rfl
 · exact h t ht
 · exact hy
theorem Q2e {fu:Nat} {b:List U8} {c:Cur} (h:CO b c) (hf:1048577≤fu):Tot (Ql0 fu c) λx=>(x.1.fT.length≤40∧(1≤x.1.fG.length∧x.1.fG.length≤8)∧x.1.fV.length≤8)∧CO b x.2∧CT x.1.fG:=by
 unfold Ql0
 refine Tot.bind (Qeh h _) λx1 h1=>Tot.bind (Qr5 (h.re h1.2) _ (by simp)) λx2 h2=>Tot.bind (Qr5 (h.re h2.2) _ (by simp)) λx3 h3=>Tot.bind (Qr5 (h.re h3.2) _ (by simp)) λx4 h4=>Tot.bind (Qr5 (h.re h4.2) _ (by simp)) λx5 h5=>Tot.bind (Qeh (h.re h5.2) _) λx6 h6=>?_
 have hb:=h.2.2
 have hcb:=h.1
 obtain ⟨c0,c1⟩:=h6.1
 have c1:=c1 (by omega)
 have ew:w64 (1+x6.1)=1+x6.1:=Qay (by omega) (by omega)
 have L4:=lpT (1+x6.1) (λn (s:Int×Int×List Pair) i=>Qde fu c x1 x2 x3 x4 x5 x6 n s.1 s.2.1 s.2.2 i) (λx:Request×Cur=>(x.1.fT.length≤40∧(1≤x.1.fG.length∧x.1.fG.length≤8)∧x.1.fV.length≤8)∧CO b x.2∧CT x.1.fG)
  (λi s=>0≤s.1∧(s.2.2.length:Int)≤8*i∧i≤4) (by omega) ?_ ?_ (1+x6.1 - 0).toNat fu (x6.2.fi,x6.2.fh,[]) 0 (by omega) rfl (by omega) ⟨h6.2.2.1,by simp,by omega⟩
 · exact L4
 · intro n ⟨f1,f2,ps⟩ a ha0 ha1 hI ih
   obtain ⟨i1,i2,i3⟩:0≤f1∧(ps.length:Int)≤8*a∧a≤4:=hI
   simp only [Qde.eq_2]
   unfold Qju
   rw [ew,Qa2 (by simpa using ha1)]
   have L1:=lpT (a+1) (λm (s:Int×Int×List Pair) i=>Qez fu (Qde fu c x1 x2 x3 x4 x5 x6 n) c a m s.1 s.2.1 s.2.2 i) (λx:Request×Cur=>(x.1.fT.length≤40∧(1≤x.1.fG.length∧x.1.fG.length≤8)∧x.1.fV.length≤8)∧CO b x.2∧CT x.1.fG)
    (λi s=>0≤s.1∧(s.2.2.length:Int)≤8*a+2*i∧i≤a+1) (by omega) ?_ ?_ (a+1 - 0).toNat fu (f1,f2,ps) 0 (by omega) rfl (by omega) ⟨i1,by simp; omega,by omega⟩
   · exact L1
   · intro m ⟨g1,g2,qs⟩ i hi0 hi1 hI ih2
     obtain ⟨j1,j2,j3⟩:0≤g1∧(qs.length:Int)≤8*a+2*i∧i≤a+1:=hI
     simp only [Qez.eq_2]
     unfold Qkm
     rw [Qa2 (by simp; omega)]
     unfold Qg8
     refine Tot.bif (λhc=>?_) λhc=>?_
     · refine Tot.ap (by simp; omega) ?_
       exact ih2 (g1,g2,_) ⟨j1,by simp; omega,by omega⟩
     · refine Tot.bind (Q3r (b:=b) (c:=⟨c.fb,g1,g2⟩) ⟨hcb,j1,hb⟩ 2) λy hy=>?_
       refine Tot.bif (λhc=>?_) λhc=>?_
       · refine Tot.ap (by simp; omega) ?_
         exact ih2 (y.2.fi,y.2.fh,_) ⟨hy.2.1,by simp; omega,by omega⟩
       · exact ih2 (y.2.fi,y.2.fh,_) ⟨hy.2.1,by simp; omega,by omega⟩
   · intro m ⟨g1,g2,qs⟩ i hi0 hi1 hI
     obtain ⟨j1,j2,j3⟩:0≤g1∧(qs.length:Int)≤8*a+2*i∧i≤a+1:=hI
     simp only [Qez.eq_2]
     unfold Qkm
     rw [Qah (by simp; omega)]
     have:i=a+1:=by omega
     exact ih (g1,g2,qs) ⟨j1,by simp; omega,by omega⟩
 · intro n ⟨f1,f2,ps⟩ a ha0 ha1 hI
   obtain ⟨i1,i2,i3⟩:0≤f1∧(ps.length:Int)≤8*a∧a≤4:=hI
   simp only [Qde.eq_2]
   unfold Qju
   rw [ew,Qah (by simpa using ha1)]
   refine Tot.bind (Qeh (b:=b) (c:=⟨c.fb,f1,f2⟩) ⟨hcb,i1,hb⟩ _) λy1 g1=>Tot.bind (Qr5 (h.re g1.2) _ (by simp)) λy2 g2=>Tot.bind (Qr5 (h.re g2.2) _ (by simp)) λy3 g3=>Tot.ap (by simp) ?_
   unfold Qn9
   refine Tot.bind (Qeh (h.re g3.2) _) λy4 g4=>?_
   obtain ⟨e0,e1⟩:=g4.1
   have e1:=e1 (by omega)
   have L3:=lpT y4.1 (λm (s':Int×Int×List Typ) i=>Qf7 fu c x1 x2 x3 x4 x5 x6 ps y4 m s'.1 s'.2.1 s'.2.2 i) (λx:Request×Cur=>(x.1.fT.length≤40∧(1≤x.1.fG.length∧x.1.fG.length≤8)∧x.1.fV.length≤8)∧CO b x.2∧CT x.1.fG)
    (λi s=>0≤s.1∧(s.2.2.length:Int)=1+i∧i≤y4.1∧CT s.2.2) (by omega) ?_ ?_ (y4.1 - 0).toNat fu (y4.2.fi,y4.2.fh,([]:List Typ)++[(⟨7,12,10,11,y1.1,y2.1,y3.1⟩:Typ)]) 0 (by omega) rfl (by omega) ⟨g4.2.2.1,by simp,by omega,λt ht=>by
    have hc3:=g3.1
    simp only [List.mem_cons,List.not_mem_nil,or_false] at hc3
    simp only [List.nil_append,List.mem_singleton] at ht
    rw [ht]
    show y3.1≤1000
    omega⟩
   · exact L3
   · intro m ⟨g1,g2,ts⟩ i hi0 hi1 hI ih2
     obtain ⟨j1,j2,j3,j4⟩:0≤g1∧(ts.length:Int)=1+i∧i≤y4.1∧CT ts:=hI
     simp only [Qf7.eq_2]
     unfold Qkk
     rw [Qa2 (by simp; omega)]
     refine Tot.bind (Qeh (b:=b) (c:=⟨c.fb,g1,g2⟩) ⟨hcb,j1,hb⟩ _) λz1 f1=>Tot.bind (Qeh (h.re f1.2) _) λz2 f2=>Tot.bind (Qeh (h.re f2.2) _) λz3 f3=>Tot.bind (Qeh (h.re f3.2) _) λz4 f4=>Tot.bind (Qeh (h.re f4.2) _) λz5 f5=>Tot.bind (Qeh (h.re f5.2) _) λz6 f6=>Tot.ap (by simp; omega) ?_
     have hc6:=f6.1.2 (by omega)
     have hc60:=f6.1.1
     exact ih2 (z6.2.fi,z6.2.fh,_) ⟨f6.2.2.1,by simp; omega,by omega,λt ht=>by
      rcases List.mem_append.1 ht with ht | ht
      · exact j4 t ht
      · rw [List.mem_singleton.1 ht]
        show w64 (1+z6.1)≤1000
        rw [Qay (by omega) (by omega)]
        omega⟩
   · intro m ⟨g1,g2,ts⟩ i hi0 hi1 hI
     obtain ⟨j1,j2,j3,j4⟩:0≤g1∧(ts.length:Int)=1+i∧i≤y4.1∧CT ts:=hI
     simp only [Qf7.eq_2]
     unfold Qkk
     rw [Qah (by simp; omega)]
     refine Tot.bind (Qeh (b:=b) (c:=⟨c.fb,g1,g2⟩) ⟨hcb,j1,hb⟩ _) λz f=>?_
     obtain ⟨q0,q1⟩:=f.1
     have q1:=q1 (by omega)
     have L2:=lpT z.1 (λm (t:Int×Int×List Item×Int) i=>Qcu fu c x1 x2 x3 x4 x5 x6 ps ts z m t.1 t.2.1 t.2.2.1 t.2.2.2 i) (λx:Request×Cur=>(x.1.fT.length≤40∧(1≤x.1.fG.length∧x.1.fG.length≤8)∧x.1.fV.length≤8)∧CO b x.2∧CT x.1.fG)
      (λi t=>0≤t.1∧(t.2.2.1.length:Int)≤i∧i≤z.1) (by omega) ?_ ?_ (z.1 - 0).toNat fu (z.2.fi,z.2.fh,[],0) 0 (by omega) rfl (by omega) ⟨f.2.2.1,by simp,by omega⟩
     · exact L2
     · intro m' ⟨k4,k5,is,un⟩ i' hi0 hi1 hI ih2
       obtain ⟨k1,k2,k3⟩:0≤k4∧(is.length:Int)≤i'∧i'≤z.1:=hI
       simp only [Qcu.eq_2]
       unfold Qj0
       rw [Qa2 (by simp; omega)]
       refine Tot.bind (Qeh (b:=b) (c:=⟨c.fb,k4,k5⟩) ⟨hcb,k1,hb⟩ _) λw1 v1=>Tot.bind (Qeh (h.re v1.2) _) λw2 v2=>Tot.bind (Qeh (h.re v2.2) _) λw3 v3=>Tot.bind (Qeh (h.re v3.2) _) λw4 v4=>Tot.bind (Qeh (h.re v4.2) _) λw5 v5=>Tot.bind (Qeh (h.re v5.2) _) λw6 v6=>?_
       unfold Qnw
       have J3:∀ (p q:Int) (x:Item),0≤p→Tot (Qha fu (Qcu fu c x1 x2 x3 x4 x5 x6 ps ts z m') is un i' p q x) (λx:Request×Cur=>(x.1.fT.length≤40∧(1≤x.1.fG.length∧x.1.fG.length≤8)∧x.1.fV.length≤8)∧CO b x.2∧CT x.1.fG):=by
        intro p q x hp
        unfold Qha Qjb
        refine Tot.bif (λhc=>?_) λhc=>?_
        · refine Tot.ap (by simp; omega) ?_
          exact ih2 (p,q,_,_) ⟨hp,by simp; omega,by omega⟩
        · exact ih2 (p,q,_,_) ⟨hp,by simp; omega,by omega⟩
       refine Tot.bind (Q3r (h.re v6.2) _) λw7 v7=>?_
       refine Tot.bif (λhc=>?_) λhc=>?_
       · refine Tot.bind (Qeh (h.re v7) _) λw8 v8=>?_
         exact J3 _ _ _ v8.2.2.1
       · exact J3 _ _ _ v7.2.1
     · intro m' ⟨k4,k5,is,un⟩ i' hi0 hi1 hI
       obtain ⟨k1,k2,k3⟩:0≤k4∧(is.length:Int)≤i'∧i'≤z.1:=hI
       simp only [Qcu.eq_2]
       unfold Qj0
       rw [Qah (by simp; omega)]
       exact Tot.mk ⟨⟨by simp; omega,by simp; omega,by simp; omega⟩,⟨hcb,k1,hb⟩,j4⟩
theorem Jaz {fu:Nat} {b:List U8} {c:Cur} (h:CO b c) (hf:2097153≤fu):Tot (Qqi fu c) λx=>SmR x.1∧CT x.1.fG∧CO b x.2:=by
 unfold Qqi
 refine Tot.bind (Q2e h (by omega)) λx hx=>?_
 obtain ⟨⟨a1,a2,a3⟩,hc,ht⟩:=hx
 have hs:SmR x.1:=⟨by omega,by omega,by omega⟩
 rw [Q01 (hs.sm hf),Qaa]
 refine Tot.bif (λ_=>?_) λ_=>Tot.mk ⟨hs,ht,h.re hc⟩
 have hs2:Sm fu (⟨x.1.fO,(⟨30,25,24,400⟩:Pallet),x.1.fU,x.1.fT,x.1.fG,x.1.fR,x.1.fV⟩:Request):=⟨hf,by simp; omega,by simp; omega,by simp; omega⟩
 rw [Q6l hs2,Qaa]
 generalize Qwc _=t
 refine lpT (x.1.fV.length:Int) (λn s i=>Qfw fu c x t n s i) _ (λi s=>(s.length:Int)≤i∧i≤x.1.fV.length) (by omega) ?_ ?_ _ fu [] 0 (by omega) rfl (by omega) ⟨by simp,by omega⟩
 · intro n s i h0 h1 hI ih
   simp only [Qfw.eq_2]
   unfold Qmo Qlj
   rw [Qa2 (by simpa using h1)]
   refine Tot.ix ⟨h0,h1⟩ λy hy=>?_
   rw [Jd7 hf,Qaa]
   refine Tot.bif (λ_=>?_) λ_=>ih _ ⟨by omega,by omega⟩
   refine Tot.ix ⟨h0,h1⟩ λy hy=>Tot.ap (by simp; omega) ?_
   exact ih _ ⟨by simp; omega,by omega⟩
 · intro n s i h0 h1 hI
   simp only [Qfw.eq_2]
   unfold Qmo
   rw [Qah (by simp; omega)]
   exact Tot.mk ⟨⟨by simp; omega,by simp; omega,by simp; omega⟩,ht,h.re hc⟩
theorem Ja6 {fu:Nat} {b:List U8} {c:Cur} (h:CO b c) (hf:2097153≤fu):Tot (Qqa fu c) λx=>SmR x.1∧CT x.1.fG∧CO b x.2:=by
 unfold Qqa
 refine Tot.bind (Q2e h (by omega)) λx hx=>?_
 obtain ⟨⟨a1,a2,a3⟩,hc,ht⟩:=hx
 obtain ⟨c1,c2,c3⟩:=h
 have h:CO b c:=⟨c1,c2,c3⟩
 refine Tot.bind (Qr5 (h.re hc) _ (by simp)) λy hy=>Tot.bind (Qeh (h.re hy.2) _) λz hz=>?_
 have J:∀ (f264 f265 f266 f267:Int) (f268:List Pair) (f273:List Typ) (f278:Int) (f279:List Item) (f286 f287:Int),f268.length≤64→(f273.length≤64∧CT f273)→f279.length≤64→0≤f286→Tot (Qa7 fu c x f264 f265 f266 f267 f268 f273 f278 f279 f286 f287) λx=>SmR x.1∧CT x.1.fG∧CO b x.2:=by
  intro f264 f265 f266 f267 f268 f273 f278 f279 f286 f287 q1 q2 q3 q4
  exact Tot.mk ⟨⟨q1,q2.1,q3⟩,q2.2,c1,q4,c3⟩
 have hz0:=hz.2.2.1
 refine Tot.bif (λ_=>?_) λ_=>?_
 · exact Tot.bind (Qr5 (h.re hz.2) _ (by simp)) λy hy=>J _ _ _ _ _ _ _ _ _ _ (by omega) ⟨by omega,ht⟩ (by omega) hy.2.2.1
 refine Tot.bif (λ_=>?_) λ_=>?_
 · exact J _ _ _ _ _ _ _ _ _ _ (by omega) ⟨by omega,ht⟩ (by omega) hz0
 refine Tot.bif (λ_=>?_) λ_=>?_
 · exact J _ _ _ _ _ _ _ _ _ _ (by omega) ⟨by omega,ht⟩ (by omega) hz0
 refine Tot.bif (λ_=>?_) λ_=>?_
 · exact Tot.bind (Qr5 (h.re hz.2) _ (by simp)) λy hy=>J _ _ _ _ _ _ _ _ _ _ (by omega) ⟨by omega,ht⟩ (by omega) hy.2.2.1
 refine Tot.bif (λ_=>?_) λ_=>?_
 · exact Tot.bind (Qeh (h.re hz.2) _) λy hy=>Tot.bind (Qeh (h.re hy.2) _) λv hv=>Tot.ap (by simp; omega) (J _ _ _ _ _ _ _ _ _ _ (by simp; omega) ⟨by omega,ht⟩ (by omega) hv.2.2.1)
 refine Tot.bif (λ_=>?_) λ_=>?_
 · exact Tot.ix (by omega) λy hy=>J _ _ _ _ _ _ _ _ _ _ (by omega) ⟨by rw [Qxq]; omega,CT.set ht (ht y hy)⟩ (by omega) hz0
 refine Tot.bif (λ_=>?_) λ_=>?_
 · exact Tot.bind (Qeh (h.re hz.2) _) λy hy=>Tot.ix ⟨hy.1.1,hy.1.2 (by omega)⟩ λv hv=>J _ _ _ _ _ _ _ _ _ _ (by omega) ⟨by rw [Qxq]; omega,CT.set ht (ht v hv)⟩ (by omega) hy.2.2.1
 refine Tot.bif (λ_=>?_) λ_=>?_
 · exact Tot.bind (Qr5 (h.re hz.2) _ (by simp)) λy hy=>J _ _ _ _ _ _ _ _ _ _ (by omega) ⟨by omega,ht⟩ (by omega) hy.2.2.1
 refine Tot.bif (λ_=>?_) λ_=>?_
 · exact Tot.bind (Qeh (h.re hz.2) _) λy hy=>Tot.bind (Qeh (h.re hy.2) _) λv hv=>Tot.ap (by simp; omega) (J _ _ _ _ _ _ _ _ _ _ (by omega) ⟨by omega,ht⟩ (by simp; omega) hv.2.2.1)
 refine Tot.bif (λ_=>?_) λ_=>?_
 · refine Tot.bif (λhc=>?_) λ_=>?_
   · have:=of_decide_eq_true hc
     exact Tot.ix (by omega) λy hy=>J _ _ _ _ _ _ _ _ _ _ (by omega) ⟨by omega,ht⟩ (by rw [Qxq]; omega) hz0
   · exact J _ _ _ _ _ _ _ _ _ _ (by omega) ⟨by omega,ht⟩ (by omega) hz0
 refine Tot.bif (λ_=>?_) λ_=>?_
 · refine Tot.bif (λhc=>?_) λ_=>?_
   · have:=of_decide_eq_true hc
     rw [Q6y (by omega),Qaa]
     exact J _ _ _ _ _ _ _ _ _ _ (by simp; omega) ⟨by omega,ht⟩ (by omega) hz0
   · exact J _ _ _ _ _ _ _ _ _ _ (by omega) ⟨by omega,ht⟩ (by omega) hz0
 refine Tot.bif (λ_=>?_) λ_=>?_
 · exact Tot.ix (by omega) λy hy=>Tot.ap (by simp; omega) (J _ _ _ _ _ _ _ _ _ _ (by omega) ⟨by simp; omega,CT.app ht (ht y hy)⟩ (by omega) hz0)
 refine Tot.bif (λ_=>?_) λ_=>?_
 · exact J _ _ _ _ _ _ _ _ _ _ (by omega) ⟨by simp,by intro t h; simp at h⟩ (by omega) hz0
 · exact J _ _ _ _ _ _ _ _ _ _ (by omega) ⟨by omega,ht⟩ (by omega) hz0
theorem Q85 {fu:Nat} {b:List U8} (hb:b.length≤1048576) (hf:2097153≤fu):Tot (Qle fu b) λr=>SmR r∧CT r.fG:=by
 unfold Qle
 refine Tot.bind (Jg3 hb (by omega)) λx hx=>Tot.bind (Q3r hx.re' _) λy hy=>?_
 refine Tot.bif (λ_=>?_) λ_=>?_
 · exact Tot.bind (Jaz hy.re' hf) λz hz=>Tot.mk ⟨hz.1,hz.2.1⟩
 · exact Tot.bind (Ja6 hy.re' hf) λz hz=>Tot.mk ⟨hz.1,hz.2.1⟩
def Qsw (n:Int):ByteArray:=⟨(Lib.itoa n).toArray⟩
theorem Qxb {n:Int} (h:0≤n∧n≤999999):(Qsw n).size≤21:=by
 have:=Lib.itoa_length_le n (by omega) (by omega)
 unfold Qsw ByteArray.size
 simpa using this
theorem Q05 {x y:ByteArray} (h:x.size+y.size≤1000000000):Q5d x y=some (x++y):=by
 unfold Q5d
 rw [if_pos (by omega)]
theorem Q1a (fu:Nat) {n:Int} (h:0≤n∧n≤999999):Qn6 fu n=some (Qsw n):=by
 unfold Qn6 Qr0 Q90
 rw [if_pos (by omega)]; rfl
def sp1:ByteArray:=⟨#[32]⟩
def nl1:ByteArray:=⟨#[10]⟩
def Qro (o:ByteArray) (l:List Int):ByteArray:=l.foldl (λo n=>o++(sp1++Qsw n)) o
theorem Qus:∀ (l:List Int) (o:ByteArray),(∀ n∈l,0≤n∧n≤999999)→(Qro o l).size≤o.size+22*l.length
 | [],o,_=>by simp [Qro]
 | n::l,o,h=>by
  have h1:=Qxb (h n (by simp))
  have h2:=Qus l (o++(sp1++Qsw n)) λm hm=>h m (by simp [hm])
  have e:(o++(sp1++Qsw n)).size=o.size+(1+(Qsw n).size):=by
   rw [ByteArray.size_append,ByteArray.size_append]; rfl
  rw [e] at h2
  show (Qro (o++(sp1++Qsw n)) l).size≤_
  simp only [List.length_cons]
  omega
theorem Jbt {fu:Nat} {l:List Int} (o:ByteArray) (hl:l.length≤1000) (hf:l.length<fu) (ho:o.size≤1000000) (h:∀ n∈l,0≤n∧n≤999999):Qhb fu o l=some (Qro o l++nl1,true):=by
 unfold Qhb
 have key:=lpI l (λn (o:ByteArray) i=>Qee fu l n o i) (λxs o=>some (Qro o xs++nl1,true)) (λxs o=>(∀ n∈xs,0≤n∧n≤999999)∧o.size+22*xs.length≤2000000) (by omega) ?_ ?_ fu o ⟨h,by omega⟩ (by omega)
 · exact key
 · intro n o i x xs hx hd hI ih
   obtain ⟨i1,i2⟩:=hI
   simp only [List.length_cons] at i2
   have hxb:=i1 x (by simp)
   have hs:=Qxb hxb
   have e:(o++(sp1++Qsw x)).size=o.size+(1+(Qsw x).size):=by
    rw [ByteArray.size_append,ByteArray.size_append]; rfl
   have hsz:sp1.size=1:=rfl
   simp only [Qee.eq_2]
   unfold Qix
   rw [hd,cond_true,hx,Qaa,Qyd,Qaa,show inb x 0 999999=true from Qcd.2 hxb,Bool.not_true,cond_false,Q1a fu hxb,Qaa]
   show (Qab (Q5d sp1 (Qsw x)) λsv58=>Qab (Q5d o sv58) λsv60=>Qee fu l n sv60 (w64 (i+1)))=_
   rw [Q05 (by omega),Qaa,Q05 (by rw [ByteArray.size_append,hsz]; omega),Qaa,ih _ ⟨λm hm=>i1 m (by simp [hm]),by omega⟩]
   rfl
 · intro n o i hd hI
   have i2:=hI.2
   simp only [Qee.eq_2]
   unfold Qix
   rw [hd,cond_false]
   show (Qab (Q5d o nl1) λsv62=>some (sv62,true))=_
   rw [Q05 (by rw [show nl1.size=1 from rfl]; simp at i2; omega)]
   rfl
def Jbf:ByteArray:=⟨#[99,97,114,116,111,110]⟩
def Qt3 (c:Carton) (s:Spot):List Int:=[c.qJ,c.ft,s.fJ,s.fX,s.fY,s.fZ]++c.qQ
theorem Jbk:∀ (l pre:List Int),Jd3 pre l=true→∀ n∈l,0≤n∧n≤999
 | [],_,_,n,hn=>by simp at hn
 | x::l,pre,h,n,hn=>by
  unfold Jd3 at h
  simp only [Bool.and_eq_true,Qcd] at h
  rcases List.mem_cons.1 hn with rfl | hn
  · exact h.1
  · exact Jbk l _ h.2.2 n hn
theorem Jdl {c:Carton} {s:Spot} (hc:Jii c=true) (hs:Jh3 s=true):(∀ n∈Qt3 c s,0≤n∧n≤999999)∧(Qt3 c s).length≤106:=by
 unfold Jii Jih at hc
 unfold Jh3 at hs
 simp only [Bool.and_eq_true,Qcd,decide_eq_true_eq] at hc hs
 obtain ⟨h1,h2,h3,h4⟩:=hc
 refine ⟨λn hn=>?_,by simp [Qt3]; omega⟩
 unfold Qt3 at hn
 rcases List.mem_append.1 hn with hn | hn
 · simp only [List.mem_cons,List.not_mem_nil,or_false] at hn
   omega
 · have:=Jbk _ _ h3 n hn
   omega
def Jkt (o:ByteArray) (p:Carton×Spot):ByteArray:=o++(Qro Jbf (Qt3 p.1 p.2)++nl1)
def Jin (x:Plan):ByteArray:=bif Jgr x then (x.fK.zip x.qY).foldl Jkt ⟨#[]⟩ else ⟨#[]⟩
theorem Jdv {c:Carton} {s:Spot} (h:(∀ n∈Qt3 c s,0≤n∧n≤999999)∧(Qt3 c s).length≤106):(Qro Jbf (Qt3 c s)).size≤2400∧(Qro Jbf (Qt3 c s)++nl1).size≤2401:=by
 have:=Qus (Qt3 c s) Jbf h.1
 rw [show Jbf.size=6 from rfl] at this
 refine ⟨by omega,?_⟩
 rw [ByteArray.size_append,show nl1.size=1 from rfl]
 omega
theorem Jb6 {fu:Nat} {x:Plan} (h:Sp x) (hf:2097153≤fu):Qhf fu x=some (Jin x):=by
 unfold Qhf Jin
 rw [Jjm h (by omega),Qaa]
 cases hp:Jgr x
 · rfl
 · rw [Bool.not_true,cond_false,cond_true]
   have hpp:=hp
   unfold Jgr at hpp
   simp only [Bool.and_eq_true,decide_eq_true_eq,beq_iff_eq] at hpp
   obtain ⟨p1,p2,p3⟩:=hpp
   have hz:(x.fK.zip x.qY).length=x.fK.length:=by simp; omega
   have key:=Jfn (x.fK.zip x.qY) (λn (o:ByteArray) i=>Qdn fu x n o i) (λ_ xs o=>some (xs.foldl Jkt o)) (λ_ xs o=>(∀ p∈xs,(∀ n∈Qt3 p.1 p.2,0≤n∧n≤999999)∧(Qt3 p.1 p.2).length≤106)∧o.size+2401*xs.length≤1000000) (by omega) ?_ ?_ fu ⟨#[]⟩ ⟨λp hp=>by
    have:=List.all_eq_true.1 p3 p hp
    rw [Bool.and_eq_true] at this
    exact Jdl this.1 this.2,by rw [hz]; show 0+_≤_; omega⟩ (by omega)
   · exact key
   · intro n o pre p xs e hq hd hI ih
     obtain ⟨i1,i2⟩:=hI
     simp only [List.length_cons] at i2
     obtain ⟨e1,e2⟩:=Jcb hq
     rw [hz] at hd
     have hn:=i1 p (by simp)
     have hsz:=Jdv hn
     have hlen:[p.1.qJ,p.1.ft,p.2.fJ,p.2.fX,p.2.fY,p.2.fZ].length+p.1.qQ.length≤106:=by
      have:=hn.2
      unfold Qt3 at this
      rwa [List.length_append] at this
     simp only [Qdn.eq_2]
     unfold Qio
     rw [hd,cond_true,e1,Qaa,e2,Qaa,ap1 (by omega),Qaa]
     show (Qab (Qhb fu Jbf (Qt3 p.1 p.2)) λx141=>Qab (Q5d o x141.1) λsv145=>Qdn fu x n sv145 (w64 ((pre.length:Int)+1)))=_
     rw [Jbt Jbf (by omega) (by omega) (by decide) hn.1,Qaa]
     show (Qab (Q5d o (Qro Jbf (Qt3 p.1 p.2)++nl1)) λsv145=>Qdn fu x n sv145 (w64 ((pre.length:Int)+1)))=_
     rw [Q05 (by omega),Qaa]
     exact ih _ ⟨λq hq=>i1 q (by simp [hq]),by rw [ByteArray.size_append]; omega⟩
   · intro n o hd _
     rw [hz] at hd ⊢
     simp only [Qdn.eq_2]
     unfold Qio
     rw [hd,cond_false]; rfl
theorem Jdj (b:ByteArray):∀ (m i:Nat) (r:List UInt8),b.size - i=m→ByteArray.toList.loop b i r=r.reverse++b.data.toList.drop i:=by
 intro m
 induction m with
 | zero =>
  intro i r h
  rw [ByteArray.toList.loop,if_neg (by omega)]
  have:b.data.toList.length≤i:=by have:b.size=b.data.size:=rfl; simp; omega
  rw [List.drop_of_length_le this]; simp
 | succ m ih =>
  intro i r h
  rw [ByteArray.toList.loop,if_pos (by omega),ih (i+1) _ (by omega)]
  have hs:b.size=b.data.size:=rfl
  have hi:i<b.data.toList.length:=by simp; omega
  rw [List.drop_eq_getElem_cons hi]
  have:b.get! i=b.data.toList[i]:=by
   unfold ByteArray.get!
   simp [Array.getElem!_eq_getD,Array.getD]
   rw [dif_pos (by omega)]
  rw [this]; simp
theorem Q6t (b:ByteArray):b.toList=b.data.toList:=by
 unfold ByteArray.toList
 rw [Jdj b _ 0 [] rfl]; simp
theorem Q5r (a b:ByteArray):(a.toList==b.toList)=decide (a=b):=by
 rw [Q6t,Q6t]
 by_cases h:a=b
 · subst h; simp
 · rw [decide_eq_false h]
   have:a.data.toList≠b.data.toList:=λe=>h (ByteArray.ext (Array.ext' e))
   simpa using this
theorem Jb0:∀ (u:Nat),∀ b∈Lib.decDigits u,48≤b.toNat∧b.toNat≤57:=by
 intro u
 induction u using Nat.strongRecOn with
 | _ u ih =>
  intro b hb
  have one:∀ d:Nat,d<10→48≤(UInt8.ofNat (48+d)).toNat∧(UInt8.ofNat (48+d)).toNat≤57:=λd hd=>by
   rw [UInt8.toNat_ofNat']; omega
  rw [Lib.decDigits] at hb
  split at hb
  · rename_i h
    rw [List.mem_singleton.1 hb]
    exact one u h
  · rename_i h
    rcases List.mem_append.1 hb with hb | hb
    · exact ih (u / 10) (by omega) b hb
    · rw [List.mem_singleton.1 hb]
      exact one _ (by omega)
theorem Qwv:∀ (l r:List UInt8) (acc:Nat),Lib.decFrom acc (l++r)=(Lib.decFrom acc l).bind λn=>Lib.decFrom n r
 | [],r,acc=>rfl
 | b::l,r,acc=>by
  simp only [List.cons_append,Lib.decFrom]
  cases Lib.digitVal b with
  | none=>rfl
  | some d=>exact Qwv l r _
theorem Q55:∀ (u:Nat),Lib.decFrom 0 (Lib.decDigits u)=some u:=by
 intro u
 induction u using Nat.strongRecOn with
 | _ u ih =>
  have one:∀ d:Nat,d<10→Lib.digitVal (UInt8.ofNat (48+d))=some d:=λd hd=>by
   unfold Lib.digitVal
   have:(UInt8.ofNat (48+d)).toNat=48+d:=by rw [UInt8.toNat_ofNat']; omega
   rw [this,if_pos (by omega)]
   congr 1; omega
  rw [Lib.decDigits]
  split
  · rename_i h
    simp only [Lib.decFrom,one u h]
    congr 1; omega
  · rename_i h
    rw [Qwv,ih (u / 10) (by omega)]
    simp only [Option.bind_some,Lib.decFrom,one (u % 10) (by omega)]
    congr 1; omega
theorem Jbo:∀ (k u:Nat),u<10 ^ (k+1)→1≤(Lib.decDigits u).length∧(Lib.decDigits u).length≤k+1
 | 0,u,h=>by
  rw [Lib.decDigits,dif_pos (by omega)]; simp
 | k+1,u,h=>by
  rw [Lib.decDigits]
  split
  · simp
  · have:=Jbo k (u / 10) (by
      rw [Nat.pow_succ] at h
      omega)
    simp only [List.length_append,List.length_singleton]
    omega
theorem Jem {u:Nat} (h:u≤999999):Lib.atoiAll (Lib.decDigits u)=.ok (u:Int):=by
 have hl:=Jbo 5 u (by omega)
 rw [Lib.atoiAll_short _ (by omega)]
 have hv:=Q55 u
 have hd:=Jb0 u
 cases hc:Lib.decDigits u with
 | nil=>rw [hc] at hl; simp at hl
 | cons b r =>
  rw [hc] at hv hd
  have hb:=hd b (by simp)
  have n1:¬ (b==45)=true:=λe=>by rw [beq_iff_eq.1 e] at hb; exact absurd hb (by decide)
  have n2:¬ (b==43)=true:=λe=>by rw [beq_iff_eq.1 e] at hb; exact absurd hb (by decide)
  unfold Lib.atoi
  show Lib.NumEnd.ofOption (if (b==45)=true then _ else if (b==43)=true then _ else Option.map _ (Lib.decNat (b::r)))=_
  rw [if_neg n1,if_neg n2]
  unfold Lib.decNat
  rw [if_neg (by simp),hv]
  rfl
theorem Q0p {u:Nat}:Qsw (u:Int)=⟨(Lib.decDigits u).toArray⟩:=by
 unfold Qsw Lib.itoa
 rw [if_neg (by omega),Int.toNat_natCast]
theorem Jdq {fu:Nat} {s:ByteArray} (hs:s.size≤1048576):∃ r,Qkl fu s=some r∧((∃ u:Nat,u≤999999∧s=Qsw u∧r=((u:Int),true))∨((∀ u:Nat,u≤999999→s≠Qsw u)∧r=(0,false))):=by
 unfold Qkl Qr2 Ja8 Qpb
 rw [if_pos hs,Qaa]
 by_cases he:∃ u:Nat,u≤999999∧s=Qsw u
 · obtain ⟨u,hu,rfl⟩:=he
   have e:(Qsw (u:Int)).data.toList=Lib.decDigits u:=by rw [Q0p]
   rw [e,Jem hu]
   simp only [cond_false,Qyd,Qaa,show inb (u:Int) 0 999999=true from Qcd.2 (by omega),Bool.not_true]
   rw [Q1a fu (by omega),Qaa,Q5r,decide_eq_true rfl]
   exact ⟨_,rfl,.inl ⟨u,hu,rfl,rfl⟩⟩
 · have hne:∀ u:Nat,u≤999999→s≠Qsw u:=λu hu e=>he ⟨u,hu,e⟩
   refine ⟨(0,false),?_,.inr ⟨hne,rfl⟩⟩
   cases ha:Lib.atoiAll s.data.toList with
   | «syntax»=>rfl
   | range=>rfl
   | ok v =>
    simp only [cond_false,Qyd,Qaa]
    cases hv:inb v 0 999999
    · rfl
    · have hv':=Qcd.1 hv
      rw [Bool.not_true,cond_false,Q1a fu hv',Qaa,Q5r,decide_eq_false (λe=>by
       obtain ⟨u,rfl⟩:∃ u:Nat,v=u:=⟨v.toNat,by omega⟩
       exact hne u (by omega) e.symm)]
      rfl
theorem Jko {s:ByteArray} {pre l:List UInt8} {b:UInt8} (h:s.data.toList=pre++b::l):sx s (pre.length:Int)=some (b.toNat:Int):=by
 have hl:s.data.toList[pre.length]? = some b:=by rw [h]; simp
 have hs:s.data.toList.length=s.size:=Array.length_toList
 have hi:pre.length<s.size:=by rw [← hs,h]; simp
 unfold sx
 rw [if_pos (by omega),Int.toNat_natCast,getElem?_pos s pre.length hi]
 have e:s[pre.length]=b:=by
  have:s.data.toList[pre.length]? = some s[pre.length]:=by
   rw [Array.getElem?_toList]
   exact Array.getElem?_eq_getElem hi
  rw [hl] at this
  exact (Option.some.inj this).symm
 rw [e]; rfl
def ofL (l:List UInt8):ByteArray:=⟨l.toArray⟩
theorem Jbc (l:List UInt8):(ofL l).data.toList=l:=rfl
theorem Qxr (s:ByteArray):s.data.toList.length=s.size:=Array.length_toList
def cut (b:UInt8):List UInt8→List UInt8×List (List UInt8)
 | []=>([],[])
 | c::l=>if c=b then ([],(cut b l).1::(cut b l).2) else (c::(cut b l).1,(cut b l).2)
def pts (b:UInt8) (l:List UInt8):List (List UInt8):=(cut b l).1::(cut b l).2
def Qrf (b:UInt8) (s:ByteArray):List ByteArray:=(pts b s.data.toList).map ofL
theorem Q3f {b:UInt8}:∀ {w:List UInt8} (r:List UInt8),b∉w→cut b (w++r)=(w++(cut b r).1,(cut b r).2)
 | [],r,_=>rfl
 | c::w,r,h=>by
  have h1:c≠b:=λe=>h (by simp [e])
  show cut b (c::(w++r))=_
  rw [cut,if_neg h1,Q3f r λe=>h (List.mem_cons_of_mem _ e)]
  rfl
theorem Q63 (b:UInt8) (r:List UInt8):cut b (b::r)=([],(cut b r).1::(cut b r).2):=by rw [cut,if_pos rfl]
theorem Q7o (b:UInt8):∀ (l:List UInt8),(cut b l).2.length≤l.length
 | []=>Nat.le_refl _
 | c::l=>by
  have ih:=Q7o b l
  rw [cut]
  split <;> simp only [List.length_cons] <;> omega
theorem Q9a (b:UInt8):∀ (l:List UInt8),(cut b l).1.length≤l.length∧∀ x∈(cut b l).2,x.length≤l.length
 | []=>⟨by simp [cut],by simp [cut]⟩
 | c::l=>by
  have ih:=Q9a b l
  rw [cut]
  split
  · exact ⟨by simp,λx hx=>by
      simp only [List.length_cons]
      rcases List.mem_cons.1 hx with e | e
      · rw [e]; omega
      · have:=ih.2 x e; omega⟩
  · exact ⟨by simp only [List.length_cons]; omega,λx hx=>by
      have:=ih.2 x hx
      simp only [List.length_cons]; omega⟩
theorem Quj (b:UInt8) (s:ByteArray):1≤(Qrf b s).length∧(Qrf b s).length≤s.size+1:=by
 have:=Q7o b s.data.toList
 rw [Qxr] at this
 unfold Qrf pts
 simp only [List.length_map,List.length_cons]
 omega
theorem Qvj {b:UInt8} {s x:ByteArray} (h:x∈Qrf b s):x.size≤s.size:=by
 obtain ⟨l,hl,rfl⟩:=List.mem_map.1 h
 have:=Q9a b s.data.toList
 rw [Qxr] at this
 show l.toArray.size≤_
 rw [List.size_toArray]
 rcases List.mem_cons.1 hl with rfl | e
 · exact this.1
 · exact this.2 l e
theorem Jbx {s:ByteArray} {pre acc l:List UInt8} (h:s.data.toList=pre++(acc++l)):ssl s (pre.length:Int) ((pre.length:Int)+(acc.length:Int))=some (ofL acc):=by
 have hs:=Qxr s
 rw [h] at hs
 simp only [List.length_append] at hs
 unfold ssl
 rw [if_pos (by omega)]
 congr 1
 apply ByteArray.ext
 apply Array.ext'
 rw [show ((pre.length:Int)+(acc.length:Int)).toNat=pre.length+acc.length by omega,Int.toNat_natCast,ByteArray.data_extract,Array.toList_extract,h]
 show _=acc
 rw [List.extract_eq_take_drop,Nat.add_sub_cancel_left,List.drop_left,List.take_left]
theorem Jk3 {x:ByteArray} {out:List ByteArray} (h:out.length≤2000000):Qfd 16 out [x]=some (out++[x]):=by
 unfold Qfd
 rw [if_pos (by simp only [List.length_singleton]; omega)]
theorem Q07 {fu:Nat} {s:ByteArray} {b:UInt8} (hs:s.size≤1048576):∀ (l pre acc:List UInt8) (out:List ByteArray) (k:Nat),s.data.toList=pre++(acc++l)→l.length<k→out.length+l.length≤1048576 →
    Qgj fu s (b.toNat:Int) k out (pre.length:Int) ((pre.length:Int)+(acc.length:Int))=some (out++ofL (acc++(cut b l).1)::(cut b l).2.map ofL)
 | [],pre,acc,out,k,h,hk,ho=>by
  obtain ⟨k,rfl⟩:∃ j,k=j+1:=⟨k - 1,by omega⟩
  have hz:=Qxr s
  rw [h] at hz
  simp only [List.length_append,List.length_nil] at hz
  rw [Qgj.eq_2]
  unfold Qns
  rw [Qah (by simp; omega),show (s.size:Int)=(pre.length:Int)+(acc.length:Int) by omega,Jbx h,Qaa,Jk3 (by omega),Qaa]
  simp [cut]
 | c::l,pre,acc,out,k,h,hk,ho=>by
  obtain ⟨k,rfl⟩:∃ j,k=j+1:=⟨k - 1,by omega⟩
  have hz:=Qxr s
  rw [h] at hz
  simp only [List.length_append,List.length_cons] at hz ho
  have hx:sx s ((pre.length:Int)+(acc.length:Int))=some (c.toNat:Int):=by
   have:=Jko (s:=s) (pre:=pre++acc) (l:=l) (b:=c) (by rw [h]; simp)
   rw [← this]; simp
  rw [Qgj.eq_2]
  unfold Qns Qmy
  rw [Qa2 (by simp; omega),hx,Qaa,Qay (by omega) (by omega)]
  by_cases hc:c=b
  · subst hc
    rw [Qa2 (by simp),Jbx h,Qaa,Jk3 (by omega),Qaa]
    have:=Q07 (fu:=fu) (b:=c) hs l (pre++(acc++[c])) [] (out++[ofL acc]) k (by rw [h]; simp) (by simp at hk; omega) (by simp; omega)
    rw [show ((pre.length:Int)+(acc.length:Int)+1)=(((pre++(acc++[c])).length:Nat):Int)+(([]:List UInt8).length:Int) by simp; omega]
    rw [show ((((pre++(acc++[c])).length:Nat):Int)+(([]:List UInt8).length:Int))=(((pre++(acc++[c])).length:Nat):Int) by simp] at this ⊢
    rw [this,Q63]
    simp
  · rw [Qah (by simpa using λe=>hc (UInt8.toNat_inj.1 (by omega)))]
    have:=Q07 (fu:=fu) (b:=b) hs l pre (acc++[c]) out k (by rw [h]; simp) (by simp at hk; omega) (by omega)
    rw [show ((pre.length:Int)+(acc.length:Int)+1)=(pre.length:Int)+(((acc++[c]).length:Nat):Int) by simp; omega,this,cut,if_neg hc]
    simp
theorem Q52 {s:ByteArray} {b:UInt8} (hs:s.size≤1048576):Qpr 2097153 s (b.toNat:Int)=some (Qrf b s):=by
 unfold Qpr
 have hz:=Qxr s
 exact Q07 (b:=b) hs s.data.toList [] [] [] 2097153 rfl (by omega) (by simp; omega)
def nmv (x:ByteArray):Int×Bool:=(Qkl 2097153 x).getD (0,false)
theorem Jdp {x:ByteArray} (h:x.size≤1048576):Qkl 2097153 x=some (nmv x):=by
 obtain ⟨r,h1,_⟩:=Jdq (fu:=2097153) h
 unfold nmv
 rw [h1]; rfl
theorem Jfs {x:ByteArray} (h:x.size≤1048576) (ht:(nmv x).2=true):x=Qsw (nmv x).1∧0≤(nmv x).1∧(nmv x).1≤999999:=by
 obtain ⟨r,h1,h2⟩:=Jdq (fu:=2097153) h
 rw [Jdp h] at h1
 rw [Option.some.inj h1] at ht ⊢
 rcases h2 with ⟨u,hu,e,rfl⟩ | ⟨_,rfl⟩
 · exact ⟨e,by simp only; omega,by simp only; omega⟩
 · simp at ht
theorem Jde {n:Int} (h:0≤n∧n≤999999):nmv (Qsw n)=(n,true):=by
 have hs:(Qsw n).size≤1048576:=Nat.le_trans (Qxb h) (by omega)
 obtain ⟨r,h1,h2⟩:=Jdq (fu:=2097153) hs
 obtain ⟨u,rfl⟩:∃ u:Nat,n=u:=⟨n.toNat,by omega⟩
 rw [Jdp hs] at h1
 rw [Option.some.inj h1]
 rcases h2 with ⟨v,hv,e,rfl⟩ | ⟨h3,_⟩
 · have e1:(Qsw (u:Int)).data.toList=Lib.decDigits u:=by rw [Q0p]
   have e2:(Qsw (v:Int)).data.toList=Lib.decDigits v:=by rw [Q0p]
   have:=Q55 u
   rw [← e1,e,e2,Q55 v] at this
   rw [Option.some.inj this]
 · exact absurd rfl (h3 u (by omega))
def nms:List ByteArray→Option (List Int)
 | []=>some []
 | x::xs=>if (nmv x).2=true then (nms xs).map ((nmv x).1::·) else none
def rsL (o:List Int):Option (List Int)→List Int×Bool
 | some ns=>(o++ns,true)
 | none=>([],false)
def wrd (w:ByteArray) (k:Nat) (line:ByteArray):Option (List Int) :=
 match Qrf 32 line with
 | []=>none
 | p::ps=>if p=w∧ps.length=k then nms ps else none
theorem Q99 {fu k:Nat} {xs:List ByteArray} (hx:∀ x∈xs,x.size≤1048576) (hl:xs.length≤1048577) (hk:xs.length<k):Qe9 2097153 xs k [] 0=some (rsL [] (nms xs)):=by
 have key:=lpI xs (λn (o:List Int) i=>Qe9 2097153 xs n o i) (λxs o=>some (rsL o (nms xs))) (λxs o=>(∀ x∈xs,x.size≤1048576)∧o.length+xs.length≤1048577) (by omega) ?_ ?_ k [] ⟨hx,by simpa using hl⟩ (by omega)
 · exact key
 · intro n o i x xs hx hd hI ih
   obtain ⟨i1,i2⟩:=hI
   simp only [List.length_cons] at i2
   simp only [Qe9.eq_2]
   unfold Qku
   rw [hd,cond_true,hx,Qaa,Jdp (i1 x (by simp)),Qaa,nms]
   cases hv:(nmv x).2 with
   | false=>rfl
   | true =>
    rw [if_pos rfl,Bool.not_true,cond_false]
    have:Qfd 8 o [(nmv x).1]=some (o++[(nmv x).1]):=by
     unfold Qfd
     rw [if_pos (by simp only [List.length_singleton]; omega)]
    rw [this,Qaa,ih _ ⟨λy hy=>i1 y (by simp [hy]),by simp only [List.length_append,List.length_singleton]; omega⟩]
    cases nms xs with
    | none=>rfl
    | some ns=>simp [rsL]
 · intro n o i hd hI
   simp only [Qe9.eq_2]
   unfold Qku
   rw [hd,cond_false]
   simp [nms,rsL]
theorem Jel {line w:ByteArray} {k:Nat} (h:line.size≤1048576) (hk:k≤1048576):Qb5 2097153 line w (k:Int)=some (rsL [] (wrd w k line)):=by
 unfold Qb5 wrd
 have e:=Q52 (b:=32) h
 have hl:=(Quj 32 line).2
 have hs:=λx hx=>Nat.le_trans (Qvj (b:=32) (s:=line) (x:=x) hx) h
 rw [show ((32:UInt8).toNat:Int)=32 from rfl] at e
 rw [e,Qaa]
 cases hp:Qrf 32 line with
 | nil=>have:=(Quj 32 line).1; rw [hp] at this; simp at this
 | cons p ps =>
  rw [hp] at hl hs
  simp only [List.length_cons] at hl
  rw [show ix (p::ps) 0=some p from rfl,Qaa,Q5r,Qay (by omega) (by omega)]
  simp only
  by_cases h1:p=w
  · rw [decide_eq_true h1,Bool.not_true,cond_false]
    by_cases h2:ps.length=k
    · rw [if_pos ⟨h1,h2⟩,Qah (by simp; omega)]
      unfold Qnn
      have:sls (p::ps) 1 (((p::ps).length:Nat):Int)=some ps:=by
       unfold sls
       rw [if_pos (by simp only [List.length_cons]; omega),show (1:Int).toNat=1 from rfl,Int.toNat_natCast]
       simp
      rw [this,Qaa,Q99 (fu:=0) (λx hx=>hs x (by simp [hx])) (by omega) (by omega)]
    · rw [if_neg (λe=>h2 e.2),Qa2 (by simp; omega)]; rfl
  · rw [decide_eq_false h1,if_neg (λe=>h1 e.1)]; rfl
theorem Q4w:∀ {xs:List ByteArray} {ns:List Int},(∀ x∈xs,x.size≤1048576)→nms xs=some ns→xs=ns.map Qsw∧∀ n∈ns,0≤n∧n≤999999
 | [],ns,_,h=>by obtain rfl:=Option.some.inj h; simp
 | x::xs,ns,hx,h=>by
  rw [nms] at h
  split at h
  · rename_i hv
    cases hn:nms xs with
    | none=>rw [hn] at h; simp at h
    | some ms =>
     rw [hn] at h
     obtain rfl:=Option.some.inj h
     have:=Q4w (λy hy=>hx y (by simp [hy])) hn
     have h1:=Jfs (hx x (by simp)) hv
     exact ⟨by rw [List.map_cons,← this.1,← h1.1],λn hn=>by
      rcases List.mem_cons.1 hn with rfl | hn
      · exact h1.2
      · exact this.2 n hn⟩
  · simp at h
theorem Q7n:∀ {ns:List Int},(∀ n∈ns,0≤n∧n≤999999)→nms (ns.map Qsw)=some ns
 | [],_=>rfl
 | n::ns,h=>by
  rw [List.map_cons,nms,Jde (h n (by simp)),Q7n λm hm=>h m (by simp [hm])]
  rfl
theorem Qqt {w line:ByteArray} {k:Nat} {ns:List Int} (hs:line.size≤1048576) (h:wrd w k line=some ns):ns.length=k∧(∀ n∈ns,0≤n∧n≤999999)∧Qrf 32 line=w::ns.map Qsw:=by
 unfold wrd at h
 split at h
 · simp at h
 · rename_i p ps hp
   split at h
   · rename_i h1
     have:=Q4w (λx hx=>Nat.le_trans (Qvj (b:=32) (s:=line) (by rw [hp]; simp [hx])) hs) h
     refine ⟨?_,this.2,by rw [hp,h1.1,← this.1]⟩
     rw [← h1.2,this.1,List.length_map]
   · simp at h
theorem Jh0 {w line:ByteArray} {ns:List Int} (h:∀ n∈ns,0≤n∧n≤999999) (hp:Qrf 32 line=w::ns.map Qsw):wrd w ns.length line=some ns:=by
 unfold wrd
 rw [hp]
 show (if w=w∧(ns.map Qsw).length=ns.length then nms (ns.map Qsw) else none)=_
 rw [if_pos ⟨rfl,by rw [List.length_map]⟩,Q7n h]
theorem Qrr {w v line:ByteArray} {k j:Nat} {ns:List Int} (hs:line.size≤1048576) (h:wrd w k line=some ns) (hv:v≠w):wrd v j line=none:=by
 have:=(Qqt hs h).2.2
 unfold wrd
 rw [this]
 exact if_neg λe=>hv e.1.symm
def wWF:ByteArray:=⟨#[119,97,121,32,102,105,114,115,116]⟩
def wWN:ByteArray:=⟨#[119,97,121,32,110,101,120,116]⟩
def Qzk:ByteArray:=⟨#[112,97,108,108,101,116]⟩
def Q1p:ByteArray:=⟨#[99,108,97,115,115,101,115]⟩
def Q0n:ByteArray:=⟨#[119,105,116,104]⟩
def Qyc:ByteArray:=⟨#[116,121,112,101]⟩
def Qzx:ByteArray:=⟨#[109,97,115,116,101,114]⟩
def Qx7:ByteArray:=⟨#[105,116,101,109]⟩
def emB:ByteArray:=⟨#[]⟩
def R0:Request:=⟨0,⟨0,0,0,0⟩,0,[],[],0,[]⟩
def nt1:List Int→Int
 | [a]=>a
 | _=>0
def Jkx:List Int→Pallet
 | [a,b,c,d]=>⟨a,b,c,d⟩
 | _=>⟨0,0,0,0⟩
def Jfq:List Int→Pair
 | [a,b]=>⟨a,b⟩
 | _=>⟨0,0⟩
def Jla:List Int→Typ
 | [a,b,c,d,e,f,g]=>⟨a,b,c,d,e,f,g⟩
 | _=>⟨0,0,0,0,0,0,0⟩
def Jk8:List Int→Item
 | [a,b,c,d,e,f,g]=>⟨a,b,c,d,e,f,g⟩
 | _=>⟨0,0,0,0,0,0,0⟩
theorem Jkz {l:List Int} (h:l.length=1):∃ a,l=[a]:=List.length_eq_one_iff.1 h
theorem Jlm {l:List Int} (h:l.length=2):∃ a b,l=[a,b]:=by
 match l,h with
 | [a,b],_=>exact ⟨a,b,rfl⟩
theorem Jlt {l:List Int} (h:l.length=4):∃ a b c d,l=[a,b,c,d]:=by
 match l,h with
 | [a,b,c,d],_=>exact ⟨a,b,c,d,rfl⟩
theorem Jku {l:List Int} (h:l.length=7):∃ a b c d e f g,l=[a,b,c,d,e,f,g]:=by
 match l,h with
 | [a,b,c,d,e,f,g],_=>exact ⟨a,b,c,d,e,f,g,rfl⟩
def ptl (r:Request) (l:ByteArray):Int×Request :=
 if l=wWF then (0,⟨0,r.fJ,r.fU,r.fT,r.fG,r.fR,r.fV⟩) else
 if l=wWN then (0,⟨1,r.fJ,r.fU,r.fT,r.fG,r.fR,r.fV⟩) else
 match wrd Qzk 4 l with
 | some n=>(1,⟨r.fO,Jkx n,r.fU,r.fT,r.fG,r.fR,r.fV⟩)
 | none=>match wrd Q1p 1 l with
  | some n=>(2,⟨r.fO,r.fJ,nt1 n,r.fT,r.fG,r.fR,r.fV⟩)
  | none=>match wrd Q0n 2 l with
   | some n=>(3,⟨r.fO,r.fJ,r.fU,r.fT++[Jfq n],r.fG,r.fR,r.fV⟩)
   | none=>match wrd Qyc 7 l with
    | some n=>(4,⟨r.fO,r.fJ,r.fU,r.fT,r.fG++[Jla n],r.fR,r.fV⟩)
    | none=>match wrd Qzx 1 l with
     | some n=>(5,⟨r.fO,r.fJ,r.fU,r.fT,r.fG,nt1 n,r.fV⟩)
     | none=>match wrd Qx7 7 l with
      | some n=>(6,⟨r.fO,r.fJ,r.fU,r.fT,r.fG,r.fR,r.fV++[Jk8 n]⟩)
      | none=>(-1,r)
theorem Je8 {line w:ByteArray} {k:Nat} {kk:Int} (h:line.size≤1048576) (hk:k≤1048576) (e:(k:Int)=kk):Qb5 2097153 line w kk=some (rsL [] (wrd w k line)):=e ▸ Jel h hk
theorem obR {β:Type} (k:List Int×Bool→Option β):Qab (some (rsL [] none)) k=k ([],false):=rfl
theorem Jkg {r:Request} {l:ByteArray} (hl:l.size≤1048576) (hp:r.fT.length≤1000) (ht:r.fG.length≤1000) (hi:r.fV.length≤1000):Qoe 2097153 r l=some (ptl r l):=by
 unfold ptl
 show (bif (l.toList==wWF.toList) then _ else bif (l.toList==wWN.toList) then _ else Qab (Qb5 2097153 l Qzk 4) _)=_
 rw [Q5r,Q5r]
 by_cases h1:l=wWF
 · rw [decide_eq_true h1,if_pos h1]; rfl
 rw [decide_eq_false h1,if_neg h1,cond_false]
 by_cases h2:l=wWN
 · rw [decide_eq_true h2,if_pos h2]; rfl
 rw [decide_eq_false h2,if_neg h2,cond_false,Je8 (k:=4) (kk:=4) hl (by omega) rfl]
 cases h3:wrd Qzk 4 l with
 | some n =>
  obtain ⟨a,b,c,d,rfl⟩:=Jlt (Qqt hl h3).1
  rfl
 | none =>
 rw [obR,Qah rfl]
 show Qab (Qb5 2097153 l Q1p 1) _=_
 rw [Je8 (k:=1) (kk:=1) hl (by omega) rfl]
 cases h4:wrd Q1p 1 l with
 | some n =>
  obtain ⟨a,rfl⟩:=Jkz (Qqt hl h4).1
  rfl
 | none =>
 rw [obR,Qah rfl]
 show Qab (Qb5 2097153 l Q0n 2) _=_
 rw [Je8 (k:=2) (kk:=2) hl (by omega) rfl]
 cases h5:wrd Q0n 2 l with
 | some n =>
  obtain ⟨a,b,rfl⟩:=Jlm (Qqt hl h5).1
  show Qab (Qfd 16 r.fT [(⟨a,b⟩:Pair)]) _=_
  rw [ap1 (by simp only [List.length_singleton]; omega)]
  rfl
 | none =>
 rw [obR,Qah rfl]
 show Qab (Qb5 2097153 l Qyc 7) _=_
 rw [Je8 (k:=7) (kk:=7) hl (by omega) rfl]
 cases h6:wrd Qyc 7 l with
 | some n =>
  obtain ⟨a,b,c,d,e,f,g,rfl⟩:=Jku (Qqt hl h6).1
  show Qab (Qfd 56 r.fG [(⟨a,b,c,d,e,f,g⟩:Typ)]) _=_
  rw [ap1 (by simp only [List.length_singleton]; omega)]
  rfl
 | none =>
 rw [obR,Qah rfl]
 show Qab (Qb5 2097153 l Qzx 1) _=_
 rw [Je8 (k:=1) (kk:=1) hl (by omega) rfl]
 cases h7:wrd Qzx 1 l with
 | some n =>
  obtain ⟨a,rfl⟩:=Jkz (Qqt hl h7).1
  rfl
 | none =>
 rw [obR,Qah rfl]
 show Qab (Qb5 2097153 l Qx7 7) _=_
 rw [Je8 (k:=7) (kk:=7) hl (by omega) rfl]
 cases h8:wrd Qx7 7 l with
 | some n =>
  obtain ⟨a,b,c,d,e,f,g,rfl⟩:=Jku (Qqt hl h8).1
  show Qab (Qfd 56 r.fV [(⟨a,b,c,d,e,f,g⟩:Item)]) _=_
  rw [ap1 (by simp only [List.length_singleton]; omega)]
  rfl
 | none=>rfl
def mf (last k:Int):Bool :=
 if k=0 then last==-1 else if k=1 then last==0 else if k=2 then last==1 else if k=3 then last==2||last==3 else if k=4 then inb last 2 4 else if k=5 then inb last 2 4 else if k=6 then last==5||last==6 else false
theorem Q6r (r:Request) (l:ByteArray):((ptl r l).1=0∧(l=wWF∨l=wWN))∨((ptl r l).1=1∧∃ n,wrd Qzk 4 l=some n)∨((ptl r l).1=2∧∃ n,wrd Q1p 1 l=some n)∨((ptl r l).1=3∧∃ n,wrd Q0n 2 l=some n) ∨
    ((ptl r l).1=4∧∃ n,wrd Qyc 7 l=some n)∨((ptl r l).1=5∧∃ n,wrd Qzx 1 l=some n)∨((ptl r l).1=6∧∃ n,wrd Qx7 7 l=some n)∨(ptl r l).1=-1:=by
 unfold ptl
 split
 · rename_i h; exact .inl ⟨rfl,.inl h⟩
 split
 · rename_i h; exact .inl ⟨rfl,.inr h⟩
 split
 · rename_i h; exact .inr (.inl ⟨rfl,_,h⟩)
 split
 · rename_i h; exact .inr (.inr (.inl ⟨rfl,_,h⟩))
 split
 · rename_i h; exact .inr (.inr (.inr (.inl ⟨rfl,_,h⟩)))
 split
 · rename_i h; exact .inr (.inr (.inr (.inr (.inl ⟨rfl,_,h⟩))))
 split
 · rename_i h; exact .inr (.inr (.inr (.inr (.inr (.inl ⟨rfl,_,h⟩)))))
 split
 · rename_i h; exact .inr (.inr (.inr (.inr (.inr (.inr (.inl ⟨rfl,_,h⟩))))))
 exact .inr (.inr (.inr (.inr (.inr (.inr (.inr rfl))))))
theorem Jhi {last k:Int} (h:-1≤k∧k≤6):Qln 2097153 last k=some (mf last k):=by
 have:k=-1∨k=0∨k=1∨k=2∨k=3∨k=4∨k=5∨k=6:=by omega
 unfold Qln Qf6
 simp only [Qyd,Qaa]
 rcases this with rfl | rfl | rfl | rfl | rfl | rfl | rfl | rfl
 · rfl
 · rfl
 · rfl
 · rfl
 · show (bif (last==2) then some true else some (last==3))=some (last==2||last==3)
   cases last==2 <;> rfl
 · rfl
 · rfl
 · show (bif (last==5) then some true else some (last==6))=some (last==5||last==6)
   cases last==5 <;> rfl
theorem Q75 (r:Request) (l:ByteArray):(ptl r l).2.fT.length≤r.fT.length+1∧(ptl r l).2.fG.length≤r.fG.length+1∧(ptl r l).2.fV.length≤r.fV.length+1:=by
 unfold ptl
 repeat' split
 all_goals simp
theorem Jdc (r:Request) (l:ByteArray):-1≤(ptl r l).1∧(ptl r l).1≤6:=by
 have:=Q6r r l
 omega
def Q1q (z:ByteArray):List ByteArray→Int→Request→Int→Request×Int
 | [],last,r,i=>if last<5 then (R0,i) else if z=emB then (r,-1) else (R0,i)
 | l::ls,last,r,i=>bif mf last (ptl r l).1 then Q1q z ls (ptl r l).1 (ptl r l).2 (i+1) else (R0,i)
def rdM (s:ByteArray):Request×Int :=
 if 61<(Qrf 10 s).length then (R0,60) else Q1q ((Qrf 10 s).getLastD emB) (Qrf 10 s).dropLast (-1) R0 0
theorem Jae (b:UInt8) (s:ByteArray):∃ ls z,Qrf b s=ls++[z]∧(Qrf b s).dropLast=ls∧(Qrf b s).getLastD emB=z:=by
 have h:=(Quj b s).1
 have hn:Qrf b s≠[]:=λe=>by rw [e] at h; simp at h
 refine ⟨_,(Qrf b s).getLast hn,(List.dropLast_concat_getLast hn).symm,rfl,?_⟩
 rw [List.getLastD_eq_getLast?,List.getLast?_eq_some_getLast hn]; rfl
theorem Jf5 {α:Type} {ls:List α} {z:α}:sls (ls++[z]) 0 (ls.length:Int)=some ls:=by
 rw [Qry (by simp; omega)]
 simp
theorem Jki {α:Type} {ls:List α} {z:α}:ix (ls++[z]) (ls.length:Int)=some z:=by
 rw [Qlf]; simp
theorem Jb5 {s:ByteArray} (hs:s.size≤1048576):Qht 2097153 s=some (rdM s):=by
 unfold Qht rdM
 have e:=Q52 (b:=10) hs
 rw [show ((10:UInt8).toNat:Int)=10 from rfl] at e
 rw [e,Qaa]
 obtain ⟨ls,z,h1,h2,h3⟩:=Jae 10 s
 have hsz:=λx hx=>Nat.le_trans (Qvj (b:=10) (s:=s) (x:=x) hx) hs
 have hn:=(Quj 10 s).2
 rw [h2,h3]
 rw [h1] at hsz hn ⊢
 simp only [List.length_append,List.length_singleton] at hn ⊢
 rw [Qay (by omega) (by omega),show ((ls.length+1:Nat):Int) - 1=ls.length by omega]
 by_cases h61:61<ls.length+1
 · rw [Qa2 (by simp; omega),if_pos h61]; rfl
 rw [Qah (by simp; omega),if_neg h61,Jf5,Qaa]
 have key:=Jfn ls (λn (o:Request×Int) i=>Qeu 2097153 (ls++[z]) ls n o.1.fO o.1.fJ.fW o.1.fJ.fD o.1.fJ.fH o.1.fJ.fQ o.1.fU o.1.fT o.1.fG o.1.fR o.1.fV o.2 i) (λpre xs o=>some (Q1q z xs o.2 o.1 (pre.length:Int))) (λpre xs o=>o.1.fT.length≤pre.length∧o.1.fG.length≤pre.length∧o.1.fV.length≤pre.length) (by omega) ?_ ?_ 2097153 (R0,-1) ⟨by simp [R0],by simp [R0],by simp [R0]⟩ (by omega)
 · exact key
 · intro n o pre x xs e hx hd hI ih
   have hpl:pre.length<ls.length:=by rw [e]; simp
   have hxs:x.size≤1048576:=hsz x (by rw [e]; simp)
   simp only [Qeu.eq_2]
   unfold Qh7
   rw [hd,cond_true,hx,Qaa]
   show Qab (Qoe 2097153 o.1 x) _=_
   rw [Jkg hxs (by omega) (by omega) (by omega),Qaa,Jhi (Jdc _ _),Qaa]
   cases hm:mf o.2 (ptl o.1 x).1 with
   | false =>
    rw [Bool.not_false,cond_true,Q1q,hm]; rfl
   | true =>
    rw [Bool.not_true,cond_false]
    have hl:=Q75 o.1 x
    have:=ih ((ptl o.1 x).2,(ptl o.1 x).1) ⟨by simp; omega,by simp; omega,by simp; omega⟩
    rw [Q1q,hm,cond_true]
    simp only at this
    rw [this]
    simp
 · intro n o hd hI
   simp only [Qeu.eq_2]
   unfold Qh7
   rw [hd,cond_false,Q1q]
   simp only [List.length_append,List.length_singleton]
   rw [Qay (by omega) (by omega),show ((ls.length+1:Nat):Int) - 1=ls.length by omega,Jki,Qaa]
   by_cases h5:o.2<5
   · rw [Qa2 (by simpa using h5),if_pos h5]; rfl
   rw [Qah (by simpa using h5),if_neg h5]
   show (bif (!(z.toList==emB.toList)) then _ else _)=_
   rw [Q5r]
   by_cases hz:z=emB
   · rw [decide_eq_true hz,if_pos hz]; rfl
   · rw [decide_eq_false hz,if_neg hz]; rfl
theorem Jec {l:ByteArray} {n:List Int} (hl:l.size≤1048576) (h:wrd Qx7 7 l=some n) (r:Request):ptl r l=(6,⟨r.fO,r.fJ,r.fU,r.fT,r.fG,r.fR,r.fV++[Jk8 n]⟩):=by
 have hp:=(Qqt hl h).2.2
 unfold ptl
 rw [if_neg (λe=>by rw [e] at hp; revert hp; exact λhp=>absurd (List.cons.inj hp).1 (by decide)),if_neg (λe=>by rw [e] at hp; exact absurd (List.cons.inj hp).1 (by decide)),Qrr hl h (v:=Qzk) (by decide),Qrr hl h (v:=Q1p) (by decide),Qrr hl h (v:=Q0n) (by decide),Qrr hl h (v:=Qyc) (by decide),Qrr hl h (v:=Qzx) (by decide),h]
theorem Jda {l:ByteArray} {n:List Int} (hl:l.size≤1048576) (h:wrd Qzx 1 l=some n) (r:Request):ptl r l=(5,⟨r.fO,r.fJ,r.fU,r.fT,r.fG,nt1 n,r.fV⟩):=by
 have hp:=(Qqt hl h).2.2
 unfold ptl
 rw [if_neg (λe=>by rw [e] at hp; exact absurd (List.cons.inj hp).1 (by decide)),if_neg (λe=>by rw [e] at hp; exact absurd (List.cons.inj hp).1 (by decide)),Qrr hl h (v:=Qzk) (by decide),Qrr hl h (v:=Q1p) (by decide),Qrr hl h (v:=Q0n) (by decide),Qrr hl h (v:=Qyc) (by decide),h]
theorem Jcv {l:ByteArray} {n:List Int} (hl:l.size≤1048576) (h:wrd Qyc 7 l=some n) (r:Request):ptl r l=(4,⟨r.fO,r.fJ,r.fU,r.fT,r.fG++[Jla n],r.fR,r.fV⟩):=by
 have hp:=(Qqt hl h).2.2
 unfold ptl
 rw [if_neg (λe=>by rw [e] at hp; exact absurd (List.cons.inj hp).1 (by decide)),if_neg (λe=>by rw [e] at hp; exact absurd (List.cons.inj hp).1 (by decide)),Qrr hl h (v:=Qzk) (by decide),Qrr hl h (v:=Q1p) (by decide),Qrr hl h (v:=Q0n) (by decide),h]
theorem Jdd {l:ByteArray} {n:List Int} (hl:l.size≤1048576) (h:wrd Q0n 2 l=some n) (r:Request):ptl r l=(3,⟨r.fO,r.fJ,r.fU,r.fT++[Jfq n],r.fG,r.fR,r.fV⟩):=by
 have hp:=(Qqt hl h).2.2
 unfold ptl
 rw [if_neg (λe=>by rw [e] at hp; exact absurd (List.cons.inj hp).1 (by decide)),if_neg (λe=>by rw [e] at hp; exact absurd (List.cons.inj hp).1 (by decide)),Qrr hl h (v:=Qzk) (by decide),Qrr hl h (v:=Q1p) (by decide),h]
theorem Jcu {l:ByteArray} {n:List Int} (hl:l.size≤1048576) (h:wrd Q1p 1 l=some n) (r:Request):ptl r l=(2,⟨r.fO,r.fJ,nt1 n,r.fT,r.fG,r.fR,r.fV⟩):=by
 have hp:=(Qqt hl h).2.2
 unfold ptl
 rw [if_neg (λe=>by rw [e] at hp; exact absurd (List.cons.inj hp).1 (by decide)),if_neg (λe=>by rw [e] at hp; exact absurd (List.cons.inj hp).1 (by decide)),Qrr hl h (v:=Qzk) (by decide),h]
theorem Jc4 {l:ByteArray} {n:List Int} (hl:l.size≤1048576) (h:wrd Qzk 4 l=some n) (r:Request):ptl r l=(1,⟨r.fO,Jkx n,r.fU,r.fT,r.fG,r.fR,r.fV⟩):=by
 have hp:=(Qqt hl h).2.2
 unfold ptl
 rw [if_neg (λe=>by rw [e] at hp; exact absurd (List.cons.inj hp).1 (by decide)),if_neg (λe=>by rw [e] at hp; exact absurd (List.cons.inj hp).1 (by decide)),h]
theorem Qsi {z l:ByteArray} {ls:List ByteArray} {last i k:Int} {r q:Request} (h:ptl r l=(k,q)) (hm:mf last k=true):Q1q z (l::ls) last r i=Q1q z ls k q (i+1):=by
 rw [Q1q,h,hm]; rfl
theorem Jln {a b:ByteArray} (h:a.data.toList=b.data.toList):a=b:=ByteArray.ext (Array.ext' h)
theorem Q91 (a b:ByteArray):(a++b).data.toList=a.data.toList++b.data.toList:=by rw [ByteArray.data_append]; simp
theorem Qxw:∀ (l:List Int) (o:ByteArray),(Qro o l).data.toList=o.data.toList++(l.map λn=>32::(Qsw n).data.toList).flatten
 | [],o=>by simp [Qro]
 | n::l,o=>by
  show (Qro (o++(sp1++Qsw n)) l).data.toList=_
  rw [Qxw l,Q91,Q91]
  simp [sp1]
def Q5t (p:Pallet):List Int:=[p.fW,p.fD,p.fH,p.fQ]
def Qy5 (t:Typ):List Int:=[t.f0,t.fW,t.fH,t.fD,t.fF,t.fQ,t.fE]
def Qvp (x:Item):List Int:=[x.f0,x.fW,x.fH,x.fD,x.fQ,x.fL,x.fM]
def Qqq (r:Request):List (ByteArray×List Int) :=
 [(Qzk,Q5t r.fJ),(Q1p,[r.fU])]++(r.fT.map (λp=>(Q0n,[p.fA,p.fB]))++(r.fG.map (λt=>(Qyc,Qy5 t))++((Qzx,[r.fR])::r.fV.map λx=>(Qx7,Qvp x))))
def Qid (l:List Int):Bool:=l.all λn=>inb n 0 999999
def Jcd:List (ByteArray×List Int)→ByteArray→ByteArray
 | [],o=>o
 | p::ps,o=>if Qid p.2=true then Jcd ps (o++(Qro p.1 p.2++nl1)) else emB
def Q8t (w:Int):ByteArray:=(if w=0 then wWF else wWN)++nl1
def Q6c (r:Request):ByteArray:=bif inb r.fO 0 1 then Jcd (Qqq r) (Q8t r.fO) else emB
theorem Jat {r:Request} (h1:r.fT.length≤64) (h2:r.fG.length≤64) (h3:r.fV.length≤64):(Qqq r).length≤200∧∀ p∈Qqq r,p.1.size≤7∧p.2.length≤7:=by
 refine ⟨by simp [Qqq]; omega,λp hp=>?_⟩
 unfold Qqq at hp
 simp only [List.mem_append,List.mem_cons,List.not_mem_nil,or_false,List.mem_map] at hp
 rcases hp with (rfl | rfl) | ⟨_,_,rfl⟩ | ⟨_,_,rfl⟩ | rfl | ⟨_,_,rfl⟩
 · exact ⟨(by decide:Qzk.size≤7),by simp [Q5t]⟩
 · exact ⟨(by decide:Q1p.size≤7),by simp⟩
 · exact ⟨(by decide:Q0n.size≤7),by simp⟩
 · exact ⟨(by decide:Qyc.size≤7),by simp [Qy5]⟩
 · exact ⟨(by decide:Qzx.size≤7),by simp⟩
 · exact ⟨(by decide:Qx7.size≤7),by simp [Qvp]⟩
theorem Qse {l:List Int} (h:Qid l=true):∀ n∈l,0≤n∧n≤999999:=λn hn=>Qcd.1 (List.all_eq_true.1 h n hn)
theorem Qsp {w:ByteArray} {l:List Int} (h:Qid l=true) (hw:w.size≤7) (hl:l.length≤7):(Qro w l++nl1).size≤165:=by
 have:=Qus l w (Qse h)
 rw [ByteArray.size_append,show nl1.size=1 from rfl]
 omega
theorem Q4q:∀ (ps:List (ByteArray×List Int)) (o:ByteArray),(∀ p∈ps,p.1.size≤7∧p.2.length≤7)→(Jcd ps o).size≤o.size+165*ps.length
 | [],o,_=>by simp [Jcd]
 | p::ps,o,h=>by
  unfold Jcd
  have hp:=h p (by simp)
  split
  · rename_i hk
    have h1:=Qsp hk hp.1 hp.2
    have h2:=Q4q ps (o++(Qro p.1 p.2++nl1)) λq hq=>h q (by simp [hq])
    rw [ByteArray.size_append] at h2
    simp only [List.length_cons]
    omega
  · show 0≤_; omega
theorem Q49 {b:UInt8} {w:List UInt8} (r:List UInt8) (h:b∉w):pts b (w++b::r)=w::pts b r:=by
 unfold pts
 rw [Q3f _ h,Q63]
 simp
theorem Jcq {b:UInt8} {w:List UInt8} (h:b∉w):pts b w=[w]:=by
 have:=Q3f [] h
 rw [List.append_nil] at this
 unfold pts
 rw [this]
 simp [cut]
theorem Q15:∀ (l:List (List UInt8)) (w:List UInt8),32∉w→(∀ x∈l,(32:UInt8)∉x)→pts 32 (w++(l.map λx=>32::x).flatten)=w::l
 | [],w,hw,_=>by simpa using Jcq hw
 | x::l,w,hw,h=>by
  rw [List.map_cons,List.flatten_cons,List.cons_append,Q49 _ hw,Q15 l x (h x (by simp)) λy hy=>h y (by simp [hy])]
theorem Q2a:∀ (l:List (List UInt8)),(∀ x∈l,(10:UInt8)∉x)→pts 10 (l.map λx=>x++[10]).flatten=l++[[]]
 | [],_=>rfl
 | x::l,h=>by
  have:((x::l).map λx=>x++[10]).flatten=x++10::(l.map λx=>x++[10]).flatten:=by simp
  rw [this,Q49 _ (h x (by simp)),Q2a l λy hy=>h y (by simp [hy])]
  rfl
theorem Q2d {n:Int} (h:0≤n):(32:UInt8)∉(Qsw n).data.toList∧(10:UInt8)∉(Qsw n).data.toList:=by
 obtain ⟨u,rfl⟩:∃ u:Nat,n=u:=⟨n.toNat,by omega⟩
 have e:(Qsw (u:Int)).data.toList=Lib.decDigits u:=by rw [Q0p]
 rw [e]
 have:=Jb0 u
 exact ⟨λhm=>absurd (this _ hm).1 (by decide),λhm=>absurd (this _ hm).1 (by decide)⟩
theorem Jaf {p:ByteArray} {n:List Int} (hp:(32:UInt8)∉p.data.toList) (h:∀ x∈n,0≤x):Qrf 32 (Qro p n)=p::n.map Qsw:=by
 unfold Qrf
 have e:(Qro p n).data.toList=p.data.toList++((n.map λn=>(Qsw n).data.toList).map λx=>32::x).flatten:=by
  rw [Qxw,List.map_map]; rfl
 rw [e,Q15 _ _ hp λx hx=>by
  obtain ⟨m,hm,rfl⟩:=List.mem_map.1 hx
  exact (Q2d (h m hm)).1]
 rw [List.map_cons,List.map_map]
 rfl
end Go.Proofs.YtndfoffokpdjeaaGreatDoor
