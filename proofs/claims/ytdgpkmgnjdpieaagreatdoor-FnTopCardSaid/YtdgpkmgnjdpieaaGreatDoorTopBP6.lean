/- TopBP: plain lemmas,.. -/
import Derived.Test.YtdgpkmgnjdpieaaGreatDoorTopBP5
set_option linter.unusedSimpArgs false
set_option linter.unusedVariables false
namespace Go.Proofs.YtdgpkmgnjdpieaaGreatDoor
open Go
open Enc (rd ow)
open Arg (argv)
open Ret (retv)
open Wf (wf)
def SmR (r:Request):Prop:=r.fT.length≤64∧r.fG.length≤64∧r.fU.length≤64
theorem SmR.sm {r:Request} (h:SmR r) {fu:Nat} (A:2097153≤fu):Sm fu r:=⟨A,by have:=h.1; omega,by have:=h.2.1; omega,by have:=h.2.2; omega⟩
theorem lK {fu:Nat} {b:List U8} {c:Cur} (h:CO b c) (hf:1048577≤fu):Tot (O4 fu c) λx=>(x.1.fT.length≤40∧(1≤x.1.fG.length∧x.1.fG.length≤8)∧x.1.fU.length≤8)∧CO b x.2:=by
 unfold O4
 refine Tot.bind (CC h _) λx1 h1=>Tot.bind (Sk (h.re h1.2) _ AD) λx2 h2=>Tot.bind (Sk (h.re h2.2) _ AD) λx3 h3=>Tot.bind (Sk (h.re h3.2) _ AD) λx4 h4=>Tot.bind (Sk (h.re h4.2) _ AD) λx5 h5=>Tot.bind (CC (h.re h5.2) _) λL h6=>?_
 have Z:=h.2.2
 have J:=h.1
 obtain ⟨_,c1⟩:=h6.1
 have c1:=c1 AC
 have ew:AK (1+L.1)=1+L.1:=AU AC AC
 have L4:=xE (1+L.1) (λn (s:Int×Int×List Pair) i=>EL fu c x1 x2 x3 x4 x5 L n s.1 s.2.1 s.2.2 i) (λx:Request×Cur=>(x.1.fT.length≤40∧(1≤x.1.fG.length∧x.1.fG.length≤8)∧x.1.fU.length≤8)∧CO b x.2)
  (λi s=>0≤s.1∧(s.2.2.length:Int)≤8*i∧i≤4) AC ?_ ?_ (1+L.1 - 0).toNat fu (L.2.fi,L.2.fh,[]) 0 AC rfl AC ⟨h6.2.2.1,AD,AC⟩
 · exact L4
 · intro n ⟨V,f2,ps⟩ a Aa U D ih
   obtain ⟨i1,i2,i3⟩:0≤V∧(ps.length:Int)≤8*a∧a≤4:=D
   simp only [EL.eq_2]
   unfold Qe
   rw [ew,AX (by simpa using U)]
   have L1:=xE (a+1) (λm (s:Int×Int×List Pair) i=>GZ fu (EL fu c x1 x2 x3 x4 x5 L n) c a m s.1 s.2.1 s.2.2 i) (λx:Request×Cur=>(x.1.fT.length≤40∧(1≤x.1.fG.length∧x.1.fG.length≤8)∧x.1.fU.length≤8)∧CO b x.2)
    (λi s=>0≤s.1∧(s.2.2.length:Int)≤8*a+2*i∧i≤a+1) AC ?_ ?_ (a+1 - 0).toNat fu (V,f2,ps) 0 AC rfl AC ⟨i1,AJ,AC⟩
   · exact L1
   · intro m ⟨E,O,qs⟩ i M N D A
     obtain ⟨Q,j2,j3⟩:0≤E∧(qs.length:Int)≤8*a+2*i∧i≤a+1:=D
     simp only [GZ.eq_2]
     unfold Q4
     rw [AX AJ]
     unfold KR
     refine Tot.bif (λY=>?_) λY=>?_
     · refine Tot.ap AJ ?_
       exact A (E,O,_) ⟨Q,AJ,AC⟩
     · refine Tot.bind (aR (b:=b) (c:=⟨c.fb,E,O⟩) ⟨J,Q,Z⟩ 2) λy hy=>?_
       refine Tot.bif (λY=>?_) λY=>?_
       · refine Tot.ap AJ ?_
         exact A (y.2.fi,y.2.fh,_) ⟨hy.2.1,AJ,AC⟩
       · exact A (y.2.fi,y.2.fh,_) ⟨hy.2.1,AJ,AC⟩
   · intro m ⟨E,O,qs⟩ i M N D
     obtain ⟨Q,j2,j3⟩:0≤E∧(qs.length:Int)≤8*a+2*i∧i≤a+1:=D
     simp only [GZ.eq_2]
     unfold Q4
     rw [AM AJ]
     have:i=a+1:=AC
     exact ih (E,O,qs) ⟨Q,AJ,AC⟩
 · intro n ⟨V,f2,ps⟩ a Aa U D
   obtain ⟨i1,i2,i3⟩:0≤V∧(ps.length:Int)≤8*a∧a≤4:=D
   simp only [EL.eq_2]
   unfold Qe
   rw [ew,AM (by simpa using U)]
   refine Tot.bind (CC (b:=b) (c:=⟨c.fb,V,f2⟩) ⟨J,i1,Z⟩ _) λy1 E=>Tot.bind (Sk (h.re E.2) _ AD) λy2 O=>Tot.bind (Sk (h.re O.2) _ AD) λy3 g3=>Tot.ap AD ?_
   unfold UZ
   refine Tot.bind (CC (h.re g3.2) _) λT g4=>?_
   obtain ⟨_,e1⟩:=g4.1
   have e1:=e1 AC
   have L3:=xE T.1 (λm (s':Int×Int×List Typ) i=>I9 fu c x1 x2 x3 x4 x5 L ps T m s'.1 s'.2.1 s'.2.2 i) (λx:Request×Cur=>(x.1.fT.length≤40∧(1≤x.1.fG.length∧x.1.fG.length≤8)∧x.1.fU.length≤8)∧CO b x.2)
    (λi s=>0≤s.1∧(s.2.2.length:Int)=1+i∧i≤T.1) AC ?_ ?_ (T.1 - 0).toNat fu (T.2.fi,T.2.fh,([]:List Typ)++[(⟨7,12,10,11,y1.1,y2.1,y3.1⟩:Typ)]) 0 AC rfl AC ⟨g4.2.2.1,AD,AC⟩
   · exact L3
   · intro m ⟨E,O,ts⟩ i M N D A
     obtain ⟨Q,j2,j3⟩:0≤E∧(ts.length:Int)=1+i∧i≤T.1:=D
     simp only [I9.eq_2]
     unfold Rc
     rw [AX AJ]
     refine Tot.bind (CC (b:=b) (c:=⟨c.fb,E,O⟩) ⟨J,Q,Z⟩ _) λ_ V=>Tot.bind (CC (h.re V.2) _) λ_ f2=>Tot.bind (CC (h.re f2.2) _) λ_ f3=>Tot.bind (CC (h.re f3.2) _) λ_ f4=>Tot.bind (CC (h.re f4.2) _) λ_ f5=>Tot.bind (CC (h.re f5.2) _) λz6 f6=>Tot.ap AJ ?_
     exact A (z6.2.fi,z6.2.fh,_) ⟨f6.2.2.1,AJ,AC⟩
   · intro m ⟨E,O,ts⟩ i M N D
     obtain ⟨Q,j2,j3⟩:0≤E∧(ts.length:Int)=1+i∧i≤T.1:=D
     simp only [I9.eq_2]
     unfold Rc
     rw [AM AJ]
     refine Tot.bind (CC (b:=b) (c:=⟨c.fb,E,O⟩) ⟨J,Q,Z⟩ _) λz f=>?_
     obtain ⟨_,q1⟩:=f.1
     have q1:=q1 AC
     have L2:=xE z.1 (λm (t:Int×Int×List Item×Int) i=>DX fu c x1 x2 x3 x4 x5 L ps ts z m t.1 t.2.1 t.2.2.1 t.2.2.2 i) (λx:Request×Cur=>(x.1.fT.length≤40∧(1≤x.1.fG.length∧x.1.fG.length≤8)∧x.1.fU.length≤8)∧CO b x.2)
      (λi t=>0≤t.1∧(t.2.2.1.length:Int)≤i∧i≤z.1) AC ?_ ?_ (z.1 - 0).toNat fu (z.2.fi,z.2.fh,[],0) 0 AC rfl AC ⟨f.2.2.1,AD,AC⟩
     · exact L2
     · intro m' ⟨k4,k5,is,un⟩ e M N D A
       obtain ⟨k1,k2,k3⟩:0≤k4∧(is.length:Int)≤e∧e≤z.1:=D
       simp only [DX.eq_2]
       unfold Q0
       rw [AX AJ]
       refine Tot.bind (CC (b:=b) (c:=⟨c.fb,k4,k5⟩) ⟨J,k1,Z⟩ _) λ_ v1=>Tot.bind (CC (h.re v1.2) _) λ_ v2=>Tot.bind (CC (h.re v2.2) _) λ_ v3=>Tot.bind (CC (h.re v3.2) _) λ_ v4=>Tot.bind (CC (h.re v4.2) _) λ_ v5=>Tot.bind (CC (h.re v5.2) _) λ_ v6=>?_
       unfold UL
       have J3:∀ (p q:Int) (x:Item),0≤p→Tot (KV fu (DX fu c x1 x2 x3 x4 x5 L ps ts z m') is un e p q x) (λx:Request×Cur=>(x.1.fT.length≤40∧(1≤x.1.fG.length∧x.1.fG.length≤8)∧x.1.fU.length≤8)∧CO b x.2):=by
        intro p q x hp
        unfold KV NJ
        refine Tot.bif (λY=>?_) λY=>?_
        · refine Tot.ap AJ ?_
          exact A (p,q,_,_) ⟨hp,AJ,AC⟩
        · exact A (p,q,_,_) ⟨hp,AJ,AC⟩
       refine Tot.bind (aR (h.re v6.2) _) λ_ v7=>?_
       refine Tot.bif (λY=>?_) λY=>?_
       · refine Tot.bind (CC (h.re v7) _) λw8 v8=>?_
         exact J3 _ _ _ v8.2.2.1
       · exact J3 _ _ _ v7.2.1
     · intro m' ⟨k4,k5,is,un⟩ e M N D
       obtain ⟨k1,k2,k3⟩:0≤k4∧(is.length:Int)≤e∧e≤z.1:=D
       simp only [DX.eq_2]
       unfold Q0
       rw [AM AJ]
       exact Tot.mk ⟨⟨AJ,AJ,AJ⟩,J,k1,Z⟩
theorem nX {fu:Nat} {b:List U8} {c:Cur} (h:CO b c) (E:2097153≤fu):Tot (RQ fu c) λx=>SmR x.1∧CO b x.2:=by
 unfold RQ
 refine Tot.bind (lK h AC) λx Q=>?_
 obtain ⟨⟨_,_,_⟩,N⟩:=Q
 have M:SmR x.1:=⟨AC,AC,AC⟩
 rw [Zg (M.sm E),AB]
 refine Tot.bif (λ_=>?_) λ_=>Tot.mk ⟨M,h.re N⟩
 have D:Sm fu (⟨x.1.fc,(⟨30,25,24,400⟩:Pallet),x.1.fR,x.1.fT,x.1.fG,x.1.fP,x.1.fU⟩:Request):=⟨E,AJ,AJ,AJ⟩
 rw [mC D,AB]
 generalize Wz _=t
 refine xE (x.1.fU.length:Int) (λn s i=>H1 fu c x t n s i) _ (λi s=>(s.length:Int)≤i∧i≤x.1.fU.length) AC ?_ ?_ _ fu [] 0 AC rfl AC ⟨AD,AC⟩
 · intro n s i J A T L
   simp only [H1.eq_2]
   unfold SY PW
   rw [AX (by simpa using A)]
   refine Tot.ix ⟨J,A⟩ λy O=>?_
   rw [si E,AB]
   refine Tot.bif (λ_=>?_) λ_=>L _ ⟨AC,AC⟩
   refine Tot.ix ⟨J,A⟩ λy O=>Tot.ap AJ ?_
   exact L _ ⟨AJ,AC⟩
 · intro n s i J A T
   simp only [H1.eq_2]
   unfold SY
   rw [AM AJ]
   exact Tot.mk ⟨⟨AJ,AJ,AJ⟩,h.re N⟩
theorem bW {α:Type} (l:List α) (i:Int) (y:α):(DB l i y).length=l.length:=by simp [DB]
theorem jl {α:Type} {l:List α} (h:0<l.length):RA l 1 (l.length:Int)=some (l.drop 1):=by
 rw [OP AC]
 congr 1
 exact List.take_of_length_le AD
theorem nY {fu:Nat} {b:List U8} {c:Cur} (h:CO b c) (hf:2097153≤fu):Tot (RU fu c) λx=>SmR x.1∧CO b x.2:=by
 unfold RU
 refine Tot.bind (lK h AC) λx hx=>?_
 obtain ⟨⟨_,_,_⟩,e⟩:=hx
 obtain ⟨c1,c2,c3⟩:=h
 have h:CO b c:=⟨c1,c2,c3⟩
 refine Tot.bind (Sk (h.re e) _ AD) λy D=>Tot.bind (CC (h.re D.2) _) λz Z=>?_
 have J:∀ (V Q O T:Int) (E:List Pair) (M:List Typ) (U:Int) (N:List Item) (L Y:Int),E.length≤64→M.length≤64→N.length≤64→0≤L→Tot (BR fu c x V Q O T E M U N L Y) λx=>SmR x.1∧CO b x.2:=by
  intro V Q O T E M U N L Y q1 q2 q3 q4
  exact Tot.mk ⟨⟨q1,q2,q3⟩,c1,q4,c3⟩
 have A:=Z.2.2.1
 refine Tot.bif (λ_=>?_) λ_=>?_
 · exact Tot.bind (Sk (h.re Z.2) _ AD) λy D=>J _ _ _ _ _ _ _ _ _ _ AC AC AC D.2.2.1
 refine Tot.bif (λ_=>?_) λ_=>?_
 · exact J _ _ _ _ _ _ _ _ _ _ AC AC AC A
 refine Tot.bif (λ_=>?_) λ_=>?_
 · exact J _ _ _ _ _ _ _ _ _ _ AC AC AC A
 refine Tot.bif (λ_=>?_) λ_=>?_
 · exact Tot.bind (Sk (h.re Z.2) _ AD) λy D=>J _ _ _ _ _ _ _ _ _ _ AC AC AC D.2.2.1
 refine Tot.bif (λ_=>?_) λ_=>?_
 · exact Tot.bind (CC (h.re Z.2) _) λy D=>Tot.bind (CC (h.re D.2) _) λv hv=>Tot.ap AJ (J _ _ _ _ _ _ _ _ _ _ AJ AC AC hv.2.2.1)
 refine Tot.bif (λ_=>?_) λ_=>?_
 · exact Tot.ix AC λy D=>J _ _ _ _ _ _ _ _ _ _ AC (by rw [bW]; omega) AC A
 refine Tot.bif (λ_=>?_) λ_=>?_
 · exact Tot.bind (CC (h.re Z.2) _) λy D=>Tot.ix ⟨D.1.1,D.1.2 AC⟩ λv hv=>J _ _ _ _ _ _ _ _ _ _ AC (by rw [bW]; omega) AC D.2.2.1
 refine Tot.bif (λ_=>?_) λ_=>?_
 · exact Tot.bind (Sk (h.re Z.2) _ AD) λy D=>J _ _ _ _ _ _ _ _ _ _ AC AC AC D.2.2.1
 refine Tot.bif (λ_=>?_) λ_=>?_
 · exact Tot.bind (CC (h.re Z.2) _) λy D=>Tot.bind (CC (h.re D.2) _) λv hv=>Tot.ap AJ (J _ _ _ _ _ _ _ _ _ _ AC AC AJ hv.2.2.1)
 refine Tot.bif (λ_=>?_) λ_=>?_
 · refine Tot.bif (λe=>?_) λ_=>?_
   · have:=of_decide_eq_true e
     exact Tot.ix AC λy D=>J _ _ _ _ _ _ _ _ _ _ AC AC (by rw [bW]; omega) A
   · exact J _ _ _ _ _ _ _ _ _ _ AC AC AC A
 refine Tot.bif (λ_=>?_) λ_=>?_
 · refine Tot.bif (λe=>?_) λ_=>?_
   · have:=of_decide_eq_true e
     rw [jl AC,AB]
     exact J _ _ _ _ _ _ _ _ _ _ AJ AC AC A
   · exact J _ _ _ _ _ _ _ _ _ _ AC AC AC A
 refine Tot.bif (λ_=>?_) λ_=>?_
 · exact Tot.ix AC λy D=>Tot.ap AJ (J _ _ _ _ _ _ _ _ _ _ AC AJ AC A)
 refine Tot.bif (λ_=>?_) λ_=>?_
 · exact J _ _ _ _ _ _ _ _ _ _ AC AD AC A
 · exact J _ _ _ _ _ _ _ _ _ _ AC AC AC A
theorem sK {fu:Nat} {b:List U8} (J:b.length≤1048576) (E:2097153≤fu):Tot (PE fu b) SmR:=by
 unfold PE
 refine Tot.bind (jU J AC) λx L=>Tot.bind (aR L.re' _) λy D=>?_
 refine Tot.bif (λ_=>?_) λ_=>?_
 · exact Tot.bind (nX D.re' E) λz A=>Tot.mk A.1
 · exact Tot.bind (nY D.re' E) λz A=>Tot.mk A.1
theorem xY (fu:Nat) (b:List U8):aC fu b=some (decide ((b.length:Int)>1048576)):=rfl
def lC (s:ByteArray):List U8:=s.data.toList.map λb=>(⟨(b.toNat:Int)⟩:U8)
theorem ed (s:ByteArray):(lC s).length=s.size:=by unfold lC; rw [List.length_map]; exact Array.length_toList
theorem li {s:ByteArray} (h:s.size≤1000000000):qh s=some (lC s):=by unfold qh lC; rw [if_pos h]
theorem oC {s:ByteArray} {x:U8} (h:x∈lC s):0≤x.n∧x.n≤255:=by
 obtain ⟨b,_,rfl⟩:=List.mem_map.1 h
 have:=b.toNat_lt
 exact ⟨by simp only; omega,by simp only; omega⟩
theorem V2 {l:List U8} (h:∀ x∈l,0≤x.n∧x.n≤255):Tot (Ze l) λr=>r.size=l.length:=by
 unfold Ze
 rw [if_pos h]
 exact Tot.mk (by show (List.map _ _).toArray.size=_; simp)
theorem gx {fu:Nat} {b:List U8} {c:Cur} (h:CO b c) (l:List ByteArray) (hl:0<l.length):Tot (MO fu c l) λx=>x.1∈l∧CO b x.2:=by
 unfold MO
 exact Tot.bind (CC h _) λx A=>Tot.ix ⟨A.1.1,A.1.2 AC⟩ λy D=>Tot.mk ⟨D,h.re A.2⟩
theorem cU {s:ByteArray} {i:Int} (h:0≤i∧i≤s.size):Tot (RA (lC s) 0 i) λl=>(∀ x∈l,0≤x.n∧x.n≤255)∧l.length≤s.size:=by
 have hl:=ed s
 rw [OP ⟨AC,h.1,AC⟩]
 refine Tot.mk ⟨λx A=>oC (List.mem_of_mem_drop (List.mem_of_mem_take A)),?_⟩
 simp only [List.length_take,List.length_drop]
 omega
theorem a8 {s:ByteArray} {i:Int} (h:0≤i∧i≤s.size):Tot (RA (lC s) i ((lC s).length:Int)) λl=>(∀ x∈l,0≤x.n∧x.n≤255)∧l.length≤s.size:=by
 have hl:=ed s
 rw [OP ⟨h.1,AC,AC⟩]
 refine Tot.mk ⟨λx A=>oC (List.mem_of_mem_drop (List.mem_of_mem_take A)),?_⟩
 simp only [List.length_take,List.length_drop]
 omega
theorem Tot.sc {β:Type} {x y:ByteArray} {k:ByteArray→Option β} {Q:β→Prop} (h:x.size+y.size≤1000000000) (A:∀ z,z.size=x.size+y.size→Tot (k z) Q):Tot (AA (NY x y) k) Q:=by
 rw [NE h]; exact A _ (ByteArray.size_append)
theorem uM {fu:Nat} {b:List U8} {c:Cur} (h:CO b c) {s:ByteArray} (hs:s.size≤400000):Tot (UT fu c s) λx=>x.1.size≤800010∧CO b x.2:=by
 have hl:=ed s
 unfold UT
 rw [li AC,AB]
 refine Tot.bind (CC h _) λi hi=>?_
 have A:=hi.1.1
 have M:=hi.1.2 (by rw [AU AC AC]; omega)
 rw [AU AC AC] at M
 refine Tot.bind (CC (h.re hi.2) _) λk E=>?_
 refine Tot.bif (λ_=>?_) λ_=>?_
 · exact Tot.bind (cU ⟨A,AC⟩) λl D=>Tot.bind (V2 D.1) λr O=>Tot.mk ⟨by simp only; omega,h.re E.2⟩
 refine Tot.bif (λ_=>?_) λ_=>?_
 · exact Tot.bind (cU ⟨A,AC⟩) λl D=>Tot.bind (V2 D.1) λr O=>Tot.bind (a8 ⟨A,AC⟩) λT L=>Tot.bind (V2 L.1) λY J =>
     Tot.bind (gx (h.re E.2) _ AD) λp N=>by
      have V:p.1.size≤2:=by
       have:=N.1
       simp only [List.mem_cons,List.not_mem_nil,or_false] at this
       rcases this with e | e | e | e | e | e <;> rw [e] <;> decide
      exact Tot.sc AC λx _=>Tot.sc AC λy Q=>Tot.mk ⟨by simp only; omega,h.re N.2⟩
 refine Tot.bif (λ_=>?_) λ_=>?_
 · refine Tot.bif (λZ=>?_) λ_=>?_
   · have U:=of_decide_eq_true Z
     refine Tot.bind (cU ⟨A,AC⟩) λl D=>Tot.bind (V2 D.1) λr O=>?_
     rw [AU (n:=i.1+1) AC AC]
     exact Tot.bind (a8 ⟨AC,AC⟩) λT L=>Tot.bind (V2 L.1) λY J=>Tot.sc AC λy Q=>Tot.mk ⟨by simp only; omega,h.re E.2⟩
   · exact Tot.mk ⟨by simp only; omega,h.re E.2⟩
 · exact Tot.mk ⟨by simp only; omega,h.re E.2⟩
theorem fz {x:Plan}:(ZX x).size≤240200:=by
 have D:∀ (l:List (Carton×Spot)) (o:ByteArray),(∀ p∈l,(HW NX (GE p.1 p.2)++iq).size≤2401)→(l.foldl kz o).size≤o.size+2401*l.length:=by
  intro l
  induction l with
  | nil=>intro o _; simp
  | cons p l L =>
   intro o h
   have N:=h p AD
   have Q:=L (kz o p) λq E=>h q (by simp [E])
   have e:(kz o p).size=o.size+(HW NX (GE p.1 p.2)++iq).size:=by unfold kz; rw [ByteArray.size_append]
   rw [List.foldl_cons,List.length_cons]
   omega
 unfold ZX
 cases A:RO x
 · show (0:Nat)≤_; omega
 · rw [cond_true]
   unfold RO at A
   simp only [Bool.and_eq_true,decide_eq_true_eq,beq_iff_eq] at A
   obtain ⟨_,_,J⟩:=A
   have:=D (x.fV.zip x.fE) ⟨#[]⟩ λp A=>by
    have:=List.all_eq_true.1 J p A
    rw [Bool.and_eq_true] at this
    exact (jW (bC this.1 this.2)).2
   have M:(x.fV.zip x.fE).length=x.fV.length:=AJ
   rw [M] at this
   have O:(⟨#[]⟩:ByteArray).size=0:=rfl
   omega
def wy (p:Pallet):List Int:=[p.fW,p.fD,p.fH,p.fQ]
def qq (t:Typ):List Int:=[t.fe,t.fW,t.fH,t.fD,t.ff,t.fQ,t.fd]
def mx (x:Item):List Int:=[x.fe,x.fW,x.fH,x.fD,x.fQ,x.fO,x.f9]
def Z2 (r:Request):List (ByteArray×List Int) :=
 [(Y5,wy r.fJ),(ZV,[r.fR])]++(r.fT.map (λp=>(Yu,[p.fA,p.fB]))++(r.fG.map (λt=>(Yf,qq t))++((Zp,[r.fP])::r.fU.map λx=>(Ye,mx x))))
def dj (l:List Int):Bool:=l.all λn=>CW n 0 999999
def mS:List (ByteArray×List Int)→ByteArray→ByteArray
 | [],o=>o
 | p::ps,o=>if dj p.2=true then mS ps (o++(HW p.1 p.2++iq)) else ea
def mc (w:Int):ByteArray:=(if w=0 then wK else qS)++iq
def qD (r:Request):ByteArray:=bif CW r.fc 0 1 then mS (Z2 r) (mc r.fc) else ea
theorem sF {r:Request} (J:r.fT.length≤64) (D:r.fG.length≤64) (E:r.fU.length≤64):(Z2 r).length≤200∧∀ p∈Z2 r,p.1.size≤7∧p.2.length≤7:=by
 refine ⟨by simp [Z2]; omega,λp A=>?_⟩
 unfold Z2 at A
 simp only [List.mem_append,List.mem_cons,List.not_mem_nil,or_false,List.mem_map] at A
 rcases A with (rfl | rfl) | ⟨_,_,rfl⟩ | ⟨_,_,rfl⟩ | rfl | ⟨_,_,rfl⟩
 · exact ⟨(by decide:Y5.size≤7),by simp [wy]⟩
 · exact ⟨(by decide:ZV.size≤7),AD⟩
 · exact ⟨(by decide:Yu.size≤7),AD⟩
 · exact ⟨(by decide:Yf.size≤7),by simp [qq]⟩
 · exact ⟨(by decide:Zp.size≤7),AD⟩
 · exact ⟨(by decide:Ye.size≤7),by simp [mx]⟩
theorem wo {fu:Nat} (h:2097153≤fu) {r:Request} (Y:r.fT.length≤64) (Z:r.fG.length≤64) (e:r.fU.length≤64):VY fu r=some ((Z2 r).map (·.1),(Z2 r).map (·.2)):=by
 unfold VY
 have U:∀ (w:List ByteArray) (n:List (List Int)),w.length≤200→n.length≤200→HZ fu r fu w n 0=some (w++r.fU.map (λ_=>Ye),n++r.fU.map mx):=λw n V Q=>by
  have D:=XD r.fU (λk (s:List ByteArray×List (List Int)) i=>HZ fu r k s.1 s.2 i) (λA s=>some (s.1++A.map (λ_=>Ye),s.2++A.map mx)) (λA s=>s.1.length+A.length≤1000∧s.2.length+A.length≤1000) AC ?_ ?_ fu (w,n) ⟨AJ,AJ⟩ AC
  · exact D
  · intro k s i x A O E J N
    obtain ⟨L,M⟩:=J
    simp only [List.length_cons] at L M
    simp only [HZ.eq_2]
    unfold Tf
    rw [E,cond_true,O,AB,KU AJ,AB,KU AJ,AB]
    have:=N (s.1++[Ye],s.2++[mx x]) ⟨AJ,AJ⟩
    rw [List.append_assoc,List.append_assoc] at this
    exact this
  · intro k s i E _
    simp only [HZ.eq_2]
    unfold Tf
    rw [E,cond_false]; simp
 have T:∀ (w:List ByteArray) (n:List (List Int)),w.length≤100→n.length≤100→IL fu r fu w n 0=some (w++(r.fG.map (λ_=>Yf)++(Zp::r.fU.map (λ_=>Ye))),n++(r.fG.map qq++([r.fP]::r.fU.map mx))):=λw n V Q=>by
  have D:=XD r.fG (λk (s:List ByteArray×List (List Int)) i=>IL fu r k s.1 s.2 i) (λA s=>some (s.1++(A.map (λ_=>Yf)++(Zp::r.fU.map (λ_=>Ye))),s.2++(A.map qq++([r.fP]::r.fU.map mx)))) (λA s=>s.1.length+A.length≤170∧s.2.length+A.length≤170) AC ?_ ?_ fu (w,n) ⟨AJ,AJ⟩ AC
  · exact D
  · intro k s i x A O E J N
    obtain ⟨L,M⟩:=J
    simp only [List.length_cons] at L M
    simp only [IL.eq_2]
    unfold SL
    rw [E,cond_true,O,AB,KU AJ,AB,KU AJ,AB]
    have:=N (s.1++[Yf],s.2++[qq x]) ⟨AJ,AJ⟩
    rw [List.append_assoc,List.append_assoc] at this
    exact this
  · intro k s i E J
    obtain ⟨L,M⟩:=J
    simp only [List.length_nil,Nat.add_zero] at L M
    simp only [IL.eq_2]
    unfold SL
    rw [E,cond_false,KU AJ,AB,KU AJ,AB]
    have:=U (s.1++[Zp]) (s.2++[[r.fP]]) AJ AJ
    rw [List.append_assoc,List.append_assoc] at this
    exact this
 have D:=XD r.fT (λk (s:List ByteArray×List (List Int)) i=>Ko fu r k s.1 s.2 i) (λA s=>some (s.1++(A.map (λ_=>Yu)++(r.fG.map (λ_=>Yf)++(Zp::r.fU.map (λ_=>Ye)))),s.2++(A.map (λp=>[p.fA,p.fB])++(r.fG.map qq++([r.fP]::r.fU.map mx))))) (λA s=>s.1.length+A.length≤70∧s.2.length+A.length≤70) AC ?_ ?_ fu ([Y5,ZV],[wy r.fJ,[r.fR]]) ⟨AJ,AJ⟩ AC
 · refine D.trans ?_
   simp only [Z2,List.map_append,List.map_cons,List.map_nil,List.map_map]
   rfl
 · intro k s i x A O E J N
   obtain ⟨L,M⟩:=J
   simp only [List.length_cons] at L M
   simp only [Ko.eq_2]
   unfold TH
   simp only [E,cond_true,O,AB]
   rw [KU AJ,AB,KU AJ,AB]
   have:=N (s.1++[Yu],s.2++[[x.fA,x.fB]]) ⟨AJ,AJ⟩
   rw [List.append_assoc,List.append_assoc] at this
   exact this
 · intro k s i E J
   obtain ⟨L,M⟩:=J
   simp only [List.length_nil,Nat.add_zero] at L M
   simp only [Ko.eq_2]
   unfold TH
   rw [E,cond_false]
   exact T s.1 s.2 AC AC
theorem xa {fu:Nat} (T:2097153≤fu) {w:ByteArray} {l:List Int} (Y:w.size≤100) (hl:l.length≤100):Xn fu w l=some (if dj l=true then (HW w l++iq,true) else (ea,false)):=by
 unfold Xn
 have E:=XD l (λn (o:ByteArray) i=>KO fu l n o i) (λA o=>some (if dj A=true then (HW o A++iq,true) else (ea,false))) (λA o=>o.size+30*A.length≤10000) AC ?_ ?_ fu w AC AC
 · exact E
 · intro n o i x A Q L M O
   simp only [List.length_cons] at M
   simp only [KO.eq_2]
   unfold UM
   rw [L,cond_true,Q,AB,XT,AB]
   have N:dj (x::A)=(CW x 0 999999&&dj A):=rfl
   cases J:CW x 0 999999 with
   | false=>rw [N,J,if_neg AD]; rfl
   | true =>
    have D:=BS.1 J
    have V:=Yp D
    have U:pI.size=1:=rfl
    rw [Bool.not_true,cond_false,N,J,Bool.true_and]
    show AA (NY o pI) _=_
    rw [NE AC,AB,AB,ig T D,AB,NE (by rw [ByteArray.size_append]; omega),AB,ByteArray.append_assoc,O _ (by rw [ByteArray.size_append,ByteArray.size_append]; omega)]
    rfl
 · intro n o i L M
   simp only [List.length_nil] at M
   simp only [KO.eq_2]
   unfold UM
   rw [L,cond_false]
   show AA (NY o iq) _=_
   rw [NE (by show _+1≤_; omega)]
   rfl
theorem qt {l:List Int} (h:dj l=true):∀ n∈l,0≤n∧n≤999999:=λn A=>BS.1 (List.all_eq_true.1 h n A)
theorem lB {w:ByteArray} {l:List Int} (h:dj l=true) (A:w.size≤7) (hl:l.length≤7):(HW w l++iq).size≤165:=by
 have:=cb l w (qt h)
 rw [ByteArray.size_append,show iq.size=1 from rfl]
 omega
theorem lQ:∀ (ps:List (ByteArray×List Int)) (o:ByteArray),(∀ p∈ps,p.1.size≤7∧p.2.length≤7)→(mS ps o).size≤o.size+165*ps.length
 | [],o,_=>by simp [mS]
 | p::ps,o,h=>by
  unfold mS
  have A:=h p AD
  split
  · rename_i J
    have L:=lB J A.1 A.2
    have E:=lQ ps (o++(HW p.1 p.2++iq)) λq D=>h q (by simp [D])
    rw [ByteArray.size_append] at E
    simp only [List.length_cons]
    omega
  · show 0≤_; omega
theorem rU {fu:Nat} (T:2097153≤fu) {r:Request} (O:r.fT.length≤64) (Q:r.fG.length≤64) (Y:r.fU.length≤64):J7 fu r=some (qD r)∧(qD r).size≤34000:=by
 obtain ⟨hl,L⟩:=sF O Q Y
 have E:(qD r).size≤34000:=by
  unfold qD
  cases CW r.fc 0 1
  · show 0≤_; omega
  · have:=lQ (Z2 r) (mc r.fc) L
    have U:(mc r.fc).size≤20:=by unfold mc; split <;> decide
    rw [cond_true]
    omega
 refine ⟨?_,E⟩
 unfold J7 qD
 rw [XT,AB]
 cases h:CW r.fc 0 1 with
 | false=>rfl
 | true =>
  have U:=BS.1 h
  rw [Bool.not_true,cond_false,cond_true]
  have e0:ix (([(⟨#[119,97,121,32,102,105,114,115,116,10]⟩:ByteArray),(⟨#[119,97,121,32,110,101,120,116,10]⟩:ByteArray)]:List ByteArray)) r.fc=some (mc r.fc):=by
   have:r.fc=0∨r.fc=1:=AC
   rcases this with e | e <;> rw [e] <;> rfl
  rw [e0,AB,wo T O Q Y,AB]
  generalize Z2 r=R at hl L
  have D:=eZ R (λn (o:ByteArray) i=>HK fu (R.map (·.1),R.map (·.2)) n o i) (λ_ A o=>some (mS A o)) (λ_ A o=>(∀ p∈A,p.1.size≤7∧p.2.length≤7)∧o.size+165*A.length≤40000) AC ?_ ?_ fu (mc r.fc) ⟨L,by
   have U:(mc r.fc).size≤20:=by unfold mc; split <;> decide
   omega⟩ AC
  · exact D
  · intro n o pre p A e M J hI ih
    obtain ⟨V,i2⟩:=hI
    simp only [List.length_cons] at i2
    have N:=V p AD
    have Z:ix (R.map (·.1)) (pre.length:Int)=some p.1:=by rw [EG,e]; simp
    have a2:ix (R.map (·.2)) (pre.length:Int)=some p.2:=by rw [EG,e]; simp
    simp only [HK.eq_2]
    unfold M2
    simp only [List.length_map]
    rw [J,cond_true,Z,AB,a2,AB,xa T AC AC,AB,mS]
    cases hk:dj p.2 with
    | false=>rfl
    | true =>
     have hs:=lB hk N.1 N.2
     rw [if_pos rfl,if_pos rfl]
     show AA (NY o (HW p.1 p.2++iq)) _=_
     rw [NE AC,AB,ih _ ⟨λq M=>V q (by simp [M]),by rw [ByteArray.size_append]; omega⟩]
  · intro n o J _
    simp only [HK.eq_2]
    unfold M2
    simp only [List.length_map]
    rw [J,cond_false]; rfl
theorem vk {fu:Nat} {b:List U8} {c:Cur} (h:CO b c) (T:2097153≤fu):Tot (Wg fu c) λx=>x.1.size≤80000∧CO b x.2:=by
 unfold Wg
 refine Tot.bind (nY h T) λx J=>?_
 obtain ⟨Y,hs⟩:=rU (r:=x.1) T J.1.1 J.1.2.1 J.1.2.2
 rw [Y,AB]
 generalize qD x.1=s at hs ⊢
 have hl:=ed s
 rw [li AC,AB]
 refine Tot.bind (CC (h.re J.2) _) λi hi=>?_
 have A:=hi.1.1
 have O:=hi.1.2 (by rw [AU AC AC]; omega)
 rw [AU AC AC] at O
 refine Tot.bind (CC (h.re hi.2) _) λk D=>?_
 refine Tot.bif (λ_=>?_) λ_=>?_
 · exact Tot.bind (cU ⟨A,AC⟩) λl L=>Tot.bind (V2 L.1) λr Q=>Tot.mk ⟨by simp only; omega,h.re D.2⟩
 refine Tot.bif (λ_=>?_) λ_=>?_
 · exact Tot.bind (cU ⟨A,AC⟩) λl L=>Tot.bind (V2 L.1) λr Q=>Tot.bind (a8 ⟨A,AC⟩) λV N=>Tot.bind (V2 N.1) λr2 M =>
     Tot.bind (gx (h.re D.2) _ AD) λp E=>by
      have Aa:p.1.size≤19:=by
       have:=E.1
       simp only [List.mem_cons,List.not_mem_nil,or_false] at this
       rcases this with e | e | e | e | e | e <;> rw [e] <;> decide
      exact Tot.sc AC λx J=>Tot.sc AC λy U=>Tot.mk ⟨by simp only; omega,h.re E.2⟩
 refine Tot.bif (λ_=>?_) λ_=>?_
 · refine Tot.bif (λhc=>?_) λ_=>?_
   · have Z:=of_decide_eq_true hc
     refine Tot.bind (cU ⟨A,AC⟩) λl L=>Tot.bind (V2 L.1) λr Q=>?_
     rw [AU (n:=i.1+1) AC AC]
     exact Tot.bind (a8 ⟨AC,AC⟩) λV N=>Tot.bind (V2 N.1) λr2 M=>Tot.sc AC λy U=>Tot.mk ⟨by simp only; omega,h.re D.2⟩
   · exact Tot.mk ⟨by simp only; omega,h.re D.2⟩
 refine Tot.bif (λ_=>?_) λ_=>?_
 · refine Tot.bind (gx (h.re D.2) _ AD) λp E=>Tot.mk ⟨?_,h.re E.2⟩
   have:=E.1
   simp only [List.mem_cons,List.not_mem_nil,or_false] at this
   rcases this with e | e | e | e | e | e <;> simp only [e] <;> decide
 · exact Tot.mk ⟨by simp only; omega,h.re D.2⟩
theorem vl {b:List U8} (L:b.length≤1048576):Tot (R4 2097153 b) λs=>s.size≤1048576:=by
 unfold R4
 refine Tot.bind (jU L AC) λc J=>Tot.bind (aR J.re' _) λy D=>?_
 refine Tot.bif (λ_=>?_) λ_=>?_
 · exact Tot.bind (vk D.re' AC) λt _=>Tot.mk AC
 · refine Tot.bind (nX D.re' AC) λx A=>?_
   obtain ⟨E,_⟩:=rU (r:=x.1) (fu:=2097153) AC A.1.1 A.1.2.1 A.1.2.2
   rw [E,AB]
   exact Tot.mk AC
def SmP (x:Plan):Prop:=x.fV.length≤60∧x.fE.length≤60∧∀ c∈x.fV,c.fK.length≤20
theorem lw (b:Nat):∀ (l:List Carton),(∀ c∈l,c.fK.length≤b)→W2 l≤b*l.length
 | [],_=>by simp [W2]
 | c::l,h=>by
  have E:=lw b l λd A=>h d (by simp [A])
  have D:=h c AD
  simp only [W2,List.length_cons,Nat.mul_add]; omega
theorem SmP.sp {x:Plan} (h:SmP x):Sp x:=by
 have:=lw 20 x.fV h.2.2
 have:=h.1
 have:=h.2.1
 exact ⟨AC,λc A=>by have:=h.2.2 c A; omega,AC,AC⟩
theorem tQ {l:List Carton} {i:Int} {y:Carton} (h:∀ c∈l,c.fK.length≤20) (D:y.fK.length≤20):∀ c∈DB l i y,c.fK.length≤20:=by
 intro c A
 unfold DB at A
 rcases List.mem_or_eq_of_mem_set A with A | rfl
 · exact h c A
 · exact D
theorem xv {fu:Nat} {b:List U8} (T:b.length≤1048576) (U:2097153≤fu):Tot (Uy fu b) λx=>SmR x.1∧SmP x.2:=by
 unfold Uy C5
 refine Tot.bind (sK T U) λr J=>?_
 rw [st (J.sm U),AB]
 obtain ⟨Y,h,M⟩:=jS r
 generalize WP r=P at Y h M ⊢
 have D:∀ c∈P.1.fV,c.fK.length≤20:=λc L=>by have:=M c L; omega
 refine Tot.bind (jU T AC) λc L=>?_
 refine Tot.bif (λ_=>Tot.mk ⟨J,AJ,AJ,D⟩) λQ=>?_
 have V:0<P.1.fV.length:=by
  simp only [beq_eq_false_iff_ne] at Q
  omega
 refine Tot.bind (CC L.re' _) λi hi=>?_
 have A:=hi.1.1
 have Z:=hi.1.2 AC
 refine Tot.bind (CC hi.2.re' _) λk N=>?_
 refine Tot.bif (λ_=>?_) λ_=>?_
 · exact Tot.ix ⟨A,AC⟩ λs E=>Tot.ix ⟨A,AC⟩ λs E=>Tot.mk ⟨J,AJ,by simp [Xy]; omega,D⟩
 refine Tot.bif (λ_=>?_) λ_=>?_
 · exact Tot.bind (CC N.2.re' _) λv O=>Tot.ix ⟨A,AC⟩ λs E=>Tot.mk ⟨J,AJ,by simp [Xy]; omega,D⟩
 refine Tot.bif (λ_=>?_) λ_=>?_
 · exact Tot.bind (Sk N.2.re' _ AD) λv O=>Tot.ix ⟨A,AC⟩ λs E=>Tot.mk ⟨J,by simp [Xy]; omega,AJ,tQ D (D s E)⟩
 refine Tot.bif (λ_=>?_) λ_=>?_
 · refine Tot.ix ⟨A,AC⟩ λs E=>Tot.bind (CC N.2.re' _) λv O=>Tot.ap (by have:=M s E; simp; omega) (Tot.ix ⟨A,AC⟩ λt _=>Tot.mk ⟨J,by simp [Xy]; omega,AJ,tQ D (by have:=M s E; simp; omega)⟩)
 refine Tot.bif (λ_=>?_) λ_=>?_
 · exact Tot.ix ⟨A,AC⟩ λs E=>Tot.mk ⟨J,by simp [Xy]; omega,AJ,tQ D AD⟩
 refine Tot.bif (λ_=>?_) λ_=>?_
 · rw [jl AC,AB]
   exact Tot.mk ⟨J,AJ,AJ,D⟩
 refine Tot.bif (λ_=>?_) λ_=>?_
 · exact Tot.bind (CC N.2.re' _) λv O=>Tot.ix ⟨A,AC⟩ λs E=>Tot.mk ⟨J,by simp [Xy]; omega,AJ,tQ D (D s E)⟩
 refine Tot.bif (λ_=>?_) λ_=>?_
 · refine Tot.ix ⟨A,AC⟩ λs E=>?_
   have:=M s E
   unfold WQ
   rw [KU AJ,AB,AB]
   refine Tot.ap AJ (Tot.ap AJ (Tot.mk ⟨J,AJ,AJ,λc L=>?_⟩))
   rcases List.mem_append.1 L with L | L
   · exact D c L
   · rw [List.mem_singleton.1 L]; simp; omega
 refine Tot.bif (λ_=>?_) λ_=>?_
 · exact Tot.bind (Sk N.2.re' _ AD) λv O=>Tot.ix ⟨A,AC⟩ λs E=>Tot.mk ⟨J,AJ,by simp [Xy]; omega,D⟩
 · exact Tot.mk ⟨J,AJ,AJ,D⟩
def tG (l:List Box) (o y z:Int):List Int→Int→List (Int×Spot)
 | [],_=>[]
 | b::bs,x=>(b,⟨o,x,y,z⟩)::tG l o y z bs (x+(KZ l b).fW)
def se (l:List Box) (sh:List Shelf) (o z:Int):List Int→Int→List (Int×Spot)
 | [],_=>[]
 | j::js,y=>tG l o y z (LQ sh j).f7 0++se l sh o z js (y+(LQ sh j).fD)
def mX (l:List Box) (sh:List Shelf) (ly:List Layer) (o:Int):List Int→Int→List (Int×Spot)
 | [],_=>[]
 | i::is,z=>se l sh o z (My ly i).fM 0++mX l sh ly o is (z+(My ly i).fH)
def la (l:List Box) (sh:List Shelf) (ly:List Layer) (ld:List Load):List Int→List (Int×Spot)
 | []=>[]
 | o::os=>mX l sh ly o (nh ld o).f0 0++la l sh ly ld os
def lm (out:List Spot) (p:Int×Spot):List Spot:=DB out p.1 p.2
theorem rV (l:List Box) (o y z:Int):∀ (is:List Int) (s:List Spot×Int),(qJ l o y z is s).1=(tG l o y z is s.2).foldl lm s.1
 | [],s=>rfl
 | b::is,s=>by
  show (qJ l o y z is (DB s.1 b ⟨o,s.2,y,z⟩,s.2+(KZ l b).fW)).1=_
  rw [rV l o y z is]; rfl
theorem qN (l:List Box) (sh:List Shelf) (o z:Int):∀ (A:List Int) (s:List Spot×Int),(qF l sh o z A s).1=(se l sh o z A s.2).foldl lm s.1
 | [],s=>rfl
 | j::A,s=>by
  show (qF l sh o z A ((qJ l o s.2 z (LQ sh j).f7 (s.1,0)).1,s.2+(LQ sh j).fD)).1=_
  rw [qN l sh o z A,rV,se,List.foldl_append]
theorem r4 (l:List Box) (sh:List Shelf) (ly:List Layer) (o:Int):∀ (is:List Int) (s:List Spot×Int),(tF l sh ly o is s).1=(mX l sh ly o is s.2).foldl lm s.1
 | [],s=>rfl
 | i::is,s=>by
  show (tF l sh ly o is ((qF l sh o s.2 (My ly i).fM (s.1,0)).1,s.2+(My ly i).fH)).1=_
  rw [r4 l sh ly o is,qN,mX,List.foldl_append]
theorem s2 (l:List Box) (sh:List Shelf) (ly:List Layer) (ld:List Load):∀ (os:List Int) (out:List Spot),t7 l sh ly ld os out=(la l sh ly ld os).foldl lm out
 | [],out=>rfl
 | o::os,out=>by
  show t7 l sh ly ld os (tF l sh ly o (nh ld o).f0 (out,0)).1=_
  rw [s2 l sh ly ld os,r4,la,List.foldl_append]
theorem ob (l:List Box) (o y z:Int):∀ (is:List Int) (x:Int),(tG l o y z is x).map (·.1)=is
 | [],_=>rfl
 | b::is,x=>by rw [tG,List.map_cons,ob l o y z is]
theorem nU (l:List Box) (sh:List Shelf) (o z:Int):∀ (A:List Int) (y:Int),(se l sh o z A y).map (·.1)=(A.map λj=>(LQ sh j).f7).flatten
 | [],_=>rfl
 | j::A,y=>by rw [se,List.map_append,ob,nU l sh o z A,List.map_cons,List.flatten_cons]
theorem ei (l:List Box) (sh:List Shelf) (ly:List Layer) (o:Int):∀ (is:List Int) (z:Int),(mX l sh ly o is z).map (·.1)=(((is.map λi=>(My ly i).fM).flatten).map λj=>(LQ sh j).f7).flatten
 | [],_=>rfl
 | i::is,z=>by rw [mX,List.map_append,nU,ei l sh ly o is,List.map_cons,List.flatten_cons,List.map_append,List.flatten_append]
theorem nv (l:List Box) (sh:List Shelf) (ly:List Layer) (ld:List Load):∀ (os:List Int),(la l sh ly ld os).map (·.1)=(((((os.map λo=>(nh ld o).f0).flatten).map λi=>(My ly i).fM).flatten).map λj=>(LQ sh j).f7).flatten
 | []=>rfl
 | o::os=>by rw [la,List.map_append,ei,nv l sh ly ld os,List.map_cons,List.flatten_cons,List.map_append,List.flatten_append,List.map_append,List.flatten_append]
theorem bb {α β:Type} (l:List α) (d:α) (f:α→β):(BW 0 l.length).map (λp=>f ((ix l p).getD d))=l.map f:=by
 have D:∀ (A pre:List α),l=pre++A→(BW pre.length A.length).map (λp=>f ((ix l p).getD d))=A.map f:=by
  intro A
  induction A with
  | nil=>intro pre _; rfl
  | cons x A N =>
   intro pre E
   have J:=N (pre++[x]) (by simp [E])
   have L:ix l (pre.length:Int)=some x:=by rw [EG,E]; simp
   rw [List.length_cons]
   unfold BW
   rw [List.map_cons,List.map_cons,L]
   have M:(((pre++[x]).length:Nat):Int)=(pre.length:Int)+1:=AD
   rw [M] at J
   rw [J]; rfl
 exact D l [] rfl
structure ShQ (l:List Box) (s:Shelf):Prop where
 w:s.fW=IM (s.f7.map λi=>(KZ l i).fW)
 m:∀ i∈s.f7,(KZ l i).fD≤s.fD∧(KZ l i).fH≤s.fH
 g:s.fQ=IM (s.f7.map λi=>(KZ l i).fQ)
theorem oA (p:Pallet) (l:List Box):∀ (is:List Int) (out:List Shelf),(∀ s∈out,ShQ l s)→∀ s∈is.foldl (jP p l) out,ShQ l s
 | [],_,h=>h
 | i::is,out,h=>by
  rw [List.foldl_cons]
  refine oA p l is _ (ZR h (λs D _=>?_) ?_)
  · have E:=WG s.fD (KZ l i).fD
    have J:=WG s.fH (KZ l i).fH
    refine ⟨?_,λj A=>?_,?_⟩
    · simp only [KE,List.map_append,LO,D.w,List.map_cons,List.map_nil,ED,Xu]; omega
    · simp only [KE,List.mem_append,List.mem_singleton] at A ⊢
      rcases A with A | rfl
      · have:=D.m j A; omega
      · omega
    · simp only [KE,List.map_append,LO,D.g,List.map_cons,List.map_nil,ED,Xu]; omega
  · have E:=WG 0 (KZ l i).fD
    have J:=WG 0 (KZ l i).fH
    refine ⟨by simp [KE,bQ],λj A=>?_,by simp [KE,bQ]⟩
    simp only [KE,bQ,List.nil_append,List.mem_singleton] at A ⊢
    subst A; omega
structure LyQ (sh:List Shelf) (x:Layer):Prop where
 d:x.fD=IM (x.fM.map λj=>(LQ sh j).fD)
 m:∀ j∈x.fM,(LQ sh j).fH≤x.fH
 g:x.fQ=IM (x.fM.map λj=>(LQ sh j).fQ)
theorem pn (p:Pallet) (l:List Shelf):∀ (is:List Int) (out:List Layer),(∀ s∈out,LyQ l s)→∀ s∈is.foldl (kX p l) out,LyQ l s
 | [],_,h=>h
 | i::is,out,h=>by
  rw [List.foldl_cons]
  refine pn p l is _ (ZR h (λs D _=>?_) ?_)
  · have E:=WG s.fH (LQ l i).fH
    refine ⟨?_,λj A=>?_,?_⟩
    · simp only [LD,List.map_append,LO,D.d,List.map_cons,List.map_nil,ED,Xu]; omega
    · simp only [LD,List.mem_append,List.mem_singleton] at A ⊢
      rcases A with A | rfl
      · have:=D.m j A; omega
      · omega
    · simp only [LD,List.map_append,LO,D.g,List.map_cons,List.map_nil,ED,Xu]; omega
  · have E:=WG 0 (LQ l i).fH
    refine ⟨by simp [LD,ah],λj A=>?_,by simp [LD,ah]⟩
    simp only [LD,ah,List.nil_append,List.mem_singleton] at A ⊢
    subst A; omega
structure LdQ (ly:List Layer) (x:Load):Prop where
 h:x.fH=IM (x.f0.map λj=>(My ly j).fH)
 g:x.fQ=IM (x.f0.map λj=>(My ly j).fQ)
theorem oQ (p:Pallet) (l:List Layer):∀ (is:List Int) (out:List Load),(∀ s∈out,LdQ l s)→∀ s∈is.foldl (jZ p l) out,LdQ l s
 | [],_,h=>h
 | i::is,out,h=>by
  rw [List.foldl_cons]
  refine oQ p l is _ (ZR h (λs A _=>?_) ⟨by simp [O3,aP],by simp [O3,aP]⟩)
  refine ⟨?_,?_⟩
  · simp only [O3,List.map_append,LO,A.h,List.map_cons,List.map_nil,ED,Xu]; omega
  · simp only [O3,List.map_append,LO,A.g,List.map_cons,List.map_nil,ED,Xu]; omega
def Apt (b:Box) (s:Spot) (c:Box) (t:Spot):Prop:=s.fJ≠t.fJ∨(s.fX+b.fW≤t.fX∨t.fX+c.fW≤s.fX)∨(s.fY+b.fD≤t.fY∨t.fY+c.fD≤s.fY)∨(s.fZ+b.fH≤t.fZ∨t.fZ+c.fH≤s.fZ)
theorem Apt.symm {b c:Box} {s t:Spot} (h:Apt b s c t):Apt c t b s:=by unfold Apt at h ⊢; omega
structure Geo (p:Pallet) (l:List Box) (sh:List Shelf) (ly:List Layer) (ld:List Load):Prop where
 b:∀ j∈BW 0 sh.length,ShQ l (LQ sh j)∧ShI p l.length (LQ sh j)
 s:∀ i∈BW 0 ly.length,LyQ sh (My ly i)∧LyI p sh.length (My ly i)
 y:∀ o∈BW 0 ld.length,LdQ ly (nh ld o)∧LdI p ly.length (nh ld o)
 ok:W9 p l=true
section
variable {p:Pallet} {l:List Box} {sh:List Shelf} {ly:List Layer} {ld:List Load}
theorem jV (o y z:Int):∀ (is:List Int) (x:Int),(∀ i∈is,1≤(KZ l i).fW)→∀ q∈tG l o y z is x,q.1∈is∧q.2.fJ=o∧q.2.fY=y∧q.2.fZ=z∧x≤q.2.fX∧q.2.fX+(KZ l q.1).fW≤x+IM (is.map λi=>(KZ l i).fW)
 | [],_,_,q,A=>by simp [tG] at A
 | b::is,x,h,q,A=>by
  have N:=h b AD
  have M:0≤IM (is.map λi=>(KZ l i).fW):=bz _ _ λi hi=>by have:=h i (by simp [hi]); omega
  rw [List.map_cons,ED]
  rw [tG] at A
  rcases List.mem_cons.1 A with rfl | A
  · exact ⟨AD,rfl,rfl,rfl,Int.le_refl _,by show x+(KZ l b).fW≤_; omega⟩
  · obtain ⟨L,D,J,E,_,_⟩:=jV o y z is _ (λi hi=>h i (by simp [hi])) q A
    exact ⟨by simp [L],D,J,E,AC,AC⟩
def l9 (l:List Box) (a c:Int×Spot):Prop:=Apt (KZ l a.1) a.2 (KZ l c.1) c.2
theorem rO (o y z:Int):∀ (is:List Int) (x:Int),(∀ i∈is,1≤(KZ l i).fW)→(tG l o y z is x).Pairwise (l9 l)
 | [],_,_=>List.Pairwise.nil
 | b::is,x,h=>by
  rw [tG]
  refine List.Pairwise.cons (λq A=>?_) (rO o y z is _ λi hi=>h i (by simp [hi]))
  obtain ⟨_,_,_,_,D,_⟩:=jV o y z is _ (λi hi=>h i (by simp [hi])) q A
  exact .inr (.inl (.inl D))
theorem kv (E:Geo p l sh ly ld) (o z H:Int):∀ (D:List Int) (y:Int),(∀ j∈D,j∈BW 0 sh.length∧(LQ sh j).fH≤H)→∀ q∈se l sh o z D y,q.2.fJ=o∧q.2.fZ=z∧(KZ l q.1).fH≤H∧0≤q.2.fX∧q.2.fX+(KZ l q.1).fW≤p.fW∧y≤q.2.fY∧q.2.fY+(KZ l q.1).fD≤y+IM (D.map λj=>(LQ sh j).fD)
 | [],_,_,q,A=>by simp [se] at A
 | j::D,y,h,q,A=>by
  obtain ⟨Y,_⟩:=h j AD
  obtain ⟨Q,O⟩:=E.b j Y
  have h0:0≤IM (D.map λj=>(LQ sh j).fD):=bz _ _ λi hi=>by have:=(E.b i (h i (by simp [hi])).1).2.d; omega
  have e:=O.d
  rw [List.map_cons,ED]
  rw [se] at A
  rcases List.mem_append.1 A with A | A
  · obtain ⟨L,M,T,J,N,U⟩:=jV o y z _ 0 (λi hi=>(YY E.ok (O.inn i hi)).2.1.1) q A
    have V:=Q.m _ L
    have h8:=Q.w
    have Z:=O.w
    exact ⟨M,J,AC,N,AC,AC,AC⟩
  · obtain ⟨L,M,T,J,N,U,V⟩:=kv E o z H D _ (λi hi=>h i (by simp [hi])) q A
    exact ⟨L,M,T,J,N,AC,AC⟩
theorem rk (D:Geo p l sh ly ld) (o z H:Int):∀ (A:List Int) (y:Int),(∀ j∈A,j∈BW 0 sh.length∧(LQ sh j).fH≤H)→(se l sh o z A y).Pairwise (l9 l)
 | [],_,_=>List.Pairwise.nil
 | j::A,y,h=>by
  obtain ⟨O,_⟩:=h j AD
  obtain ⟨J,E⟩:=D.b j O
  rw [se]
  refine List.pairwise_append.2 ⟨rO o y z _ _ λi hi=>(YY D.ok (E.inn i hi)).2.1.1,rk D o z H A _ λi hi=>h i (by simp [hi]),λa L c N=>?_⟩
  obtain ⟨M,_,_,_,_,_⟩:=jV o y z _ 0 (λi hi=>(YY D.ok (E.inn i hi)).2.1.1) a L
  obtain ⟨_,_,_,_,_,_,_⟩:=kv D o z H A _ (λi hi=>h i (by simp [hi])) c N
  have Q:=J.m _ M
  exact .inr (.inr (.inl (.inl AC)))
theorem an (D:Geo p l sh ly ld) (o:Int):∀ (is:List Int) (z:Int),(∀ i∈is,i∈BW 0 ly.length)→∀ q∈mX l sh ly o is z,q.2.fJ=o∧(0≤q.2.fX∧q.2.fX+(KZ l q.1).fW≤p.fW)∧(0≤q.2.fY∧q.2.fY+(KZ l q.1).fD≤p.fD)∧z≤q.2.fZ∧q.2.fZ+(KZ l q.1).fH≤z+IM (is.map λi=>(My ly i).fH)
 | [],_,_,q,A=>by simp [mX] at A
 | i::is,z,h,q,A=>by
  obtain ⟨M,J⟩:=D.s i (h i AD)
  have h0:0≤IM (is.map λi=>(My ly i).fH):=bz _ _ λk L=>by have:=(D.s k (h k (by simp [L]))).2.h; omega
  have Z:=J.h
  rw [List.map_cons,ED]
  rw [mX] at A
  rcases List.mem_append.1 A with A | A
  · obtain ⟨E,O,T,N,Q,V,_⟩:=kv D o z _ _ 0 (λj U=>⟨CE.2 (by have:=J.inn j U; omega),M.m j U⟩) q A
    have e:=M.d
    have Y:=J.d
    exact ⟨E,⟨N,Q⟩,⟨V,AC⟩,AC,AC⟩
  · obtain ⟨E,O,T,N,Q⟩:=an D o is _ (λk L=>h k (by simp [L])) q A
    exact ⟨E,O,T,AC,AC⟩
theorem ru (D:Geo p l sh ly ld) (o:Int):∀ (is:List Int) (z:Int),(∀ i∈is,i∈BW 0 ly.length)→(mX l sh ly o is z).Pairwise (l9 l)
 | [],_,_=>List.Pairwise.nil
 | i::is,z,h=>by
  obtain ⟨J,M⟩:=D.s i (h i AD)
  have A:∀ j∈(My ly i).fM,j∈BW 0 sh.length∧(LQ sh j).fH≤(My ly i).fH:=λj E=>⟨CE.2 (by have:=M.inn j E; omega),J.m j E⟩
  rw [mX]
  refine List.pairwise_append.2 ⟨rk D o z _ _ 0 A,ru D o is _ λk A=>h k (by simp [A]),λa L c N=>?_⟩
  obtain ⟨_,_,_,_⟩:=kv D o z _ _ 0 A a L
  obtain ⟨_,_,_,_,_⟩:=an D o is _ (λk A=>h k (by simp [A])) c N
  exact .inr (.inr (.inr (.inl AC)))
theorem g7 (D:Geo p l sh ly ld) {o:Int} (A:o∈BW 0 ld.length):∀ i∈(nh ld o).f0,i∈BW 0 ly.length:=λi hi=>CE.2 (by have:=(D.y o A).2.inn i hi; omega)
theorem jQ (D:Geo p l sh ly ld):∀ (os:List Int),(∀ o∈os,o∈BW 0 ld.length)→∀ q∈la l sh ly ld os,q.2.fJ∈os∧(0≤q.2.fX∧q.2.fX+(KZ l q.1).fW≤p.fW)∧(0≤q.2.fY∧q.2.fY+(KZ l q.1).fD≤p.fD)∧(0≤q.2.fZ∧q.2.fZ+(KZ l q.1).fH≤p.fH)
 | [],_,q,A=>by simp [la] at A
 | o::os,h,q,A=>by
  rw [la] at A
  rcases List.mem_append.1 A with A | A
  · have L:=h o AD
    obtain ⟨J,E,T,M,_⟩:=an D o _ 0 (g7 D L) q A
    obtain ⟨O,N⟩:=D.y o L
    have V:=O.h
    have U:=N.h
    exact ⟨by simp [J],E,T,M,AC⟩
  · obtain ⟨J,E⟩:=jQ D os (λk Q=>h k (by simp [Q])) q A
    exact ⟨by simp [J],E⟩
theorem sS (A:Geo p l sh ly ld):∀ (os:List Int),os.Nodup→(∀ o∈os,o∈BW 0 ld.length)→(la l sh ly ld os).Pairwise (l9 l)
 | [],_,_=>List.Pairwise.nil
 | o::os,hn,h=>by
  obtain ⟨n1,L⟩:=List.nodup_cons.1 hn
  have E:=h o AD
  rw [la]
  refine List.pairwise_append.2 ⟨ru A o _ 0 (g7 A E),sS A os L λk D=>h k (by simp [D]),λa M c J=>?_⟩
  obtain ⟨O,_⟩:=an A o _ 0 (g7 A E) a M
  obtain ⟨N,_⟩:=jQ A os (λk D=>h k (by simp [D])) c J
  exact .inl λe=>n1 (by rw [← O,e]; exact N)
theorem jD (L:List (List Int)):IM L.flatten=IM (L.map IM):=by
 induction L with
 | nil=>rfl
 | cons x L A=>rw [List.flatten_cons,LO,A,List.map_cons,ED]
theorem xP (A:Geo p l sh ly ld) (o z:Int) (is:List Int) (h:∀ i∈is,i∈BW 0 ly.length):IM ((mX l sh ly o is z).map λq=>(KZ l q.1).fQ)=IM (is.map λi=>(My ly i).fQ):=by
 have e:(mX l sh ly o is z).map (λq=>(KZ l q.1).fQ)=((mX l sh ly o is z).map (·.1)).map λi=>(KZ l i).fQ:=by rw [List.map_map]; rfl
 rw [e,ei,List.map_flatten,jD,List.map_map,List.map_map,List.map_flatten,jD,List.map_map,List.map_map]
 congr 1
 refine List.map_congr_left λi hi=>?_
 obtain ⟨J,E⟩:=A.s i (h i hi)
 rw [J.g]
 show IM _=_
 congr 1
 refine List.map_congr_left λj L=>?_
 obtain ⟨D,_⟩:=A.b j (CE.2 (by have:=E.inn j L; omega))
 rw [D.g]; rfl
theorem vX (A:Geo p l sh ly ld) (k:Int):∀ (os:List Int),os.Nodup→(∀ o∈os,o∈BW 0 ld.length)→IM (((la l sh ly ld os).filter λq=>q.2.fJ==k).map λq=>(KZ l q.1).fQ)≤p.fQ
 | [],_,_=>by
  have:=WJ (ZG A.ok)
  simp [la]; omega
 | o::os,hn,h=>by
  obtain ⟨n1,L⟩:=List.nodup_cons.1 hn
  have E:=h o AD
  rw [la,List.filter_append]
  by_cases e:o=k
  · subst e
    rw [List.filter_eq_self.2 λq D=>by simp [(an A o _ 0 (g7 A E) q D).1],List.filter_eq_nil_iff.2 λq D=>by
     have:=(jQ A os (λk J=>h k (by simp [J])) q D).1
     intro e
     rw [beq_iff_eq] at e
     exact n1 (e ▸ this),List.append_nil,xP A _ _ _ (g7 A E),← (A.y o E).1.g]
    exact (A.y o E).2.g.2
  · rw [List.filter_eq_nil_iff.2 λq D=>by simp [(an A o _ 0 (g7 A E) q D).1,e],List.nil_append]
    exact vX A k os L λk J=>h k (by simp [J])
theorem oK (A:Geo p l sh ly ld):∀ (os:List Int),(∀ o∈os,o∈BW 0 ld.length)→∀ o∈os,∃ q∈la l sh ly ld os,q.2.fJ=o
 | [],_,o,E=>by simp at E
 | a::os,h,o,E=>by
  rw [la]
  rcases List.mem_cons.1 E with rfl | E
  · obtain ⟨_,O⟩:=A.y o (h o AD)
    obtain ⟨i,hi⟩:=List.exists_mem_of_ne_nil _ O.ne
    have D:=g7 A (h o AD)
    obtain ⟨_,L⟩:=A.s i (D i hi)
    obtain ⟨j,M⟩:=List.exists_mem_of_ne_nil _ L.ne
    obtain ⟨_,T⟩:=A.b j (CE.2 (by have:=L.inn j M; omega))
    obtain ⟨b,N⟩:=List.exists_mem_of_ne_nil _ T.ne
    have:b∈(mX l sh ly o (nh ld o).f0 0).map (·.1):=by
     rw [ei]
     exact List.mem_flatten.2 ⟨_,List.mem_map.2 ⟨j,List.mem_flatten.2 ⟨_,List.mem_map.2 ⟨i,hi,rfl⟩,M⟩,rfl⟩,N⟩
    obtain ⟨q,J,_⟩:=List.mem_map.1 this
    exact ⟨q,List.mem_append_left _ J,(an A o _ 0 D q J).1⟩
  · obtain ⟨q,J,e⟩:=oK A os (λk Q=>h k (by simp [Q])) o E
    exact ⟨q,List.mem_append_right _ J,e⟩
end
theorem qe {α:Type} (l:List α) {i j:Int} (y:α) (h:i≠j) (D:0≤i):ix (DB l i y) j=ix l j:=by
 unfold ix DB
 by_cases A:0≤j
 · rw [if_pos A,if_pos A,List.getElem?_set_ne AC]
 · rw [if_neg A,if_neg A]
theorem jJ:∀ (P:List (Int×Spot)) (out:List Spot) (i:Int),(∀ q∈P,q.1≠i∧0≤q.1)→ix (P.foldl lm out) i=ix out i
 | [],_,_,_=>rfl
 | q::P,out,i,h=>by
  rw [List.foldl_cons,jJ P _ i λr A=>h r (by simp [A])]
  exact qe _ _ (h q AD).1 (h q AD).2
theorem pq:∀ (P:List (Int×Spot)) (out:List Spot),(P.map (·.1)).Nodup→(∀ q∈P,0≤q.1∧q.1<out.length)→∀ q∈P,ix (P.foldl lm out) q.1=some q.2
 | [],_,_,_,q,A=>by simp at A
 | a::P,out,hn,h,q,A=>by
  rw [List.map_cons] at hn
  obtain ⟨n1,E⟩:=List.nodup_cons.1 hn
  rw [List.foldl_cons]
  rcases List.mem_cons.1 A with rfl | A
  · rw [jJ P _ q.1 λr D=>⟨λe=>n1 (List.mem_map.2 ⟨r,D,e⟩),(h r (by simp [D])).1⟩]
    obtain ⟨x,J⟩:=aU (l:=out) (h q AD).1 (h q AD).2
    exact DH _ J
  · exact pq P _ E (λr D=>by
      have:=h r (by simp [D])
      rw [show (lm out a).length=out.length from ZC _ _ _]; exact this) q A
structure SpI (p:Pallet) (l:List Box) (S:List Spot) (N:Int):Prop where
 len:S.length=l.length
 ins:∀ q∈l.zip S,(0≤q.2.fJ∧q.2.fJ<N)∧(0≤q.2.fX∧q.2.fX+q.1.fW≤p.fW)∧(0≤q.2.fY∧q.2.fY+q.1.fD≤p.fD)∧(0≤q.2.fZ∧q.2.fZ+q.1.fH≤p.fH)
 apr:(l.zip S).Pairwise λa c=>Apt a.1 a.2 c.1 c.2
 occ:∀ k,0≤k→k<N→∃ q∈l.zip S,q.2.fJ=k
 grm:∀ k,IM (((l.zip S).filter λq=>q.2.fJ==k).map (·.1.fQ))≤p.fQ
 nn:0≤N∧N≤l.length
theorem mT {a b:List Int} (h:a.Perm b):IM a=IM b:=by
 induction h with
 | nil=>rfl
 | cons x _ D=>simp [D]
 | swap x y l=>simp only [ED]; omega
 | trans _ _ E A=>exact E.trans A
theorem tj {α:Type} {R:α→α→Prop} (L:∀ x y,R x y→R y x) (J:∀ x,R x x):∀ (P:List α),P.Pairwise R→∀ x∈P,∀ y∈P,R x y
 | [],_,x,hx,_,_=>by simp at hx
 | a::P,h,x,hx,y,hy=>by
  obtain ⟨M,N⟩:=List.pairwise_cons.1 h
  rcases List.mem_cons.1 hx with ex | D
  · rcases List.mem_cons.1 hy with E | A
    · rw [ex,E]; exact J _
    · rw [ex]; exact M y A
  · rcases List.mem_cons.1 hy with E | A
    · rw [E]; exact L _ _ (M x D)
    · exact tj L J P N x D y A
theorem xd {p:Pallet} {l:List Box} (h:W9 p l=true):SpI p l (ag p l) (jg p (bc p (YJ p l))).length:=by
 have hS:=kD h
 have hY:=j1 hS
 obtain ⟨a1,a2,_⟩:=bN h
 obtain ⟨b1,b2,_⟩:=aZ hS
 obtain ⟨c1,c2,_⟩:=es hY
 have q1:∀ s∈YJ p l,ShQ l s:=by
  unfold YJ
  rw [h,cond_true]
  exact oA p l _ _ AD
 have q2:∀ s∈bc p (YJ p l),LyQ (YJ p l) s:=pn p _ _ _ AD
 have q3:∀ s∈jg p (bc p (YJ p l)),LdQ (bc p (YJ p l)) s:=oQ p _ _ _ AD
 have e:ag p l=(la l (YJ p l) (bc p (YJ p l)) (jg p (bc p (YJ p l))) (BW 0 (jg p (bc p (YJ p l))).length)).foldl lm (List.replicate l.length s9):=by
  unfold ag
  rw [h,cond_true,s2]
 have M:=eG h
 generalize Aj:YJ p l=sh at *
 generalize Ag:bc p sh=ly at *
 generalize Ai:jg p ly=ld at *
 have A:∀ {α:Type} (L:List α) (d:α) (j:Int),j∈BW 0 L.length→(ix L j).getD d∈L:=λL d j E=>by
  have E:=CE.1 E
  obtain ⟨x,U⟩:=aU (l:=L) (i:=j) E.1 AC
  rw [U]; exact DA U
 have V:Geo p l sh ly ld:=⟨λj E=>⟨q1 _ (A sh bQ j E),a1 _ (A sh bQ j E)⟩,λj E=>⟨q2 _ (A ly ah j E),b1 _ (A ly ah j E)⟩,λj E=>⟨q3 _ (A ld aP j E),c1 _ (A ld aP j E)⟩,h⟩
 have hf:(la l sh ly ld (BW 0 ld.length)).map (·.1)=jM (bR (l.map (·.fD))) l.length:=by
  rw [nv]
  have Q:(BW 0 ld.length).map (λo=>(nh ld o).f0)=ld.map (·.f0):=bb ld aP (·.f0)
  have Z:(BW 0 ly.length).map (λo=>(My ly o).fM)=ly.map (·.fM):=bb ly ah (·.fM)
  have e3:(BW 0 sh.length).map (λo=>(LQ sh o).f7)=sh.map (·.f7):=bb sh bQ (·.f7)
  rw [Q,c2,Z,b2,e3,a2]
 have Ab:=jQ V (BW 0 ld.length) λ_ h=>h
 have Ad:=sS V (BW 0 ld.length) (OA _ _) λ_ h=>h
 have Af:=λk=>vX V k (BW 0 ld.length) (OA _ _) λ_ h=>h
 have Aa:=oK V (BW 0 ld.length) λ_ h=>h
 generalize la l sh ly ld (BW 0 ld.length)=P at *
 have D:(P.map (·.1)).Perm (BW 0 l.length):=by rw [hf]; exact Xr _ _
 have Ac:∀ q∈P,0≤q.1∧q.1<l.length:=λq N=>by
  have:=CE.1 (D.mem_iff.1 (List.mem_map.2 ⟨q,N,rfl⟩))
  omega
 have J:∀ q∈P,ix (ag p l) q.1=some q.2:=by
  rw [e]
  exact pq P _ (D.nodup_iff.2 (OA _ _)) (by simpa using Ac)
 generalize Ah:ag p l=S at *
 have hz:l.zip S=(BW 0 l.length).map λi=>(KZ l i,(ix S i).getD s9):=by
  have Q:(BW 0 l.length).map (λi=>KZ l i)=l:=by
   have:=bb l zY (λx=>x)
   rwa [List.map_id'] at this
  have Z:(BW 0 l.length).map (λi=>(ix S i).getD s9)=S:=by
   have:=bb S s9 (λx=>x)
   rwa [List.map_id',M] at this
  have:((BW 0 l.length).map (λi=>KZ l i)).zip ((BW 0 l.length).map λi=>(ix S i).getD s9)=(BW 0 l.length).map λi=>(KZ l i,(ix S i).getD s9):=by
   rw [List.zip_map']
  rw [← this,Q,Z]
 have hP:(l.zip S).Perm (P.map λq=>(KZ l q.1,q.2)):=by
  have Q:P.map (λq=>(KZ l q.1,q.2))=(P.map (·.1)).map λi=>(KZ l i,(ix S i).getD s9):=by
   rw [List.map_map]
   exact List.map_congr_left λq N=>by simp [J q N]
  rw [hz,Q]
  exact (D.map _).symm
 refine ⟨M,λq N=>?_,?_,λk _ _=>?_,λk=>?_,AC,AC⟩
 · obtain ⟨a,T,rfl⟩:=List.mem_map.1 (hP.mem_iff.1 N)
   obtain ⟨h1,h2⟩:=Ab a T
   have:=CE.1 h1
   exact ⟨by show 0≤a.2.fJ∧a.2.fJ<_; omega,h2⟩
 · rw [hz]
   refine List.pairwise_map.2 ((OA 0 l.length).imp_of_mem fun {i j} hi E Ae=>?_)
   obtain ⟨a,T,rfl⟩:=List.mem_map.1 (D.mem_iff.2 hi)
   obtain ⟨c,hc,rfl⟩:=List.mem_map.1 (D.mem_iff.2 E)
   rw [J a T,J c hc]
   have Y:∀ {x y:Int×Spot},x∈P→y∈P→x.1≠y.1→l9 l x y:=by
    have hs:P.Pairwise λx y=>x.1≠y.1→l9 l x y:=Ad.imp (S:=λx y=>x.1≠y.1→l9 l x y) λh _=>h
    intro x y U hy
    exact tj (R:=λx y=>x.1≠y.1→l9 l x y) (λx y h O=>(h λe=>O e.symm).symm) (λx O=>absurd rfl O) P hs x U y hy
   exact Y T hc Ae
 · obtain ⟨q,N,e⟩:=Aa k (CE.2 AC)
   exact ⟨(KZ l q.1,q.2),hP.mem_iff.2 (List.mem_map.2 ⟨q,N,rfl⟩),e⟩
 · have h1:=((hP.filter λq=>q.2.fJ==k).map (·.1.fQ))
   rw [mT h1,List.filter_map,List.map_map]
   exact Af k
theorem n6 {N:Int} (D:N≤1000000):∀ (l:List Spot) (n:Int),0≤n→n≤N→(∀ s∈l,0≤s.fJ∧s.fJ<N)→n≤l.foldl Yy n∧l.foldl Yy n≤N∧∀ s∈l,s.fJ+1≤l.foldl Yy n
 | [],n,_,h,_=>⟨Int.le_refl _,h,AD⟩
 | s::l,n,h0,h1,h=>by
  have J:=h s AD
  have e:Yy n s=if s.fJ+1>n then s.fJ+1 else n:=by
   unfold Yy
   rw [show CW s.fJ 0 999999=true from BS.2 AC,cond_true]
  have E:n≤Yy n s∧Yy n s≤N∧s.fJ+1≤Yy n s:=by rw [e]; split <;> omega
  rw [List.foldl_cons]
  obtain ⟨a,b,c⟩:=n6 D l (Yy n s) AC E.2.1 λt A=>h t (by simp [A])
  refine ⟨AC,b,λt A=>?_⟩
  rcases List.mem_cons.1 A with rfl | A
  · omega
  · exact c t A
theorem ti {S:List Spot} {N:Int} (A:0≤N∧N≤1000000) (h:∀ s∈S,0≤s.fJ∧s.fJ<N) (D:∀ k,0≤k→k<N→∃ s∈S,s.fJ=k):TN S=N:=by
 obtain ⟨a,b,c⟩:=n6 A.2 S 0 (Int.le_refl _) A.1 h
 unfold TN
 by_cases J:N=0
 · omega
 · obtain ⟨s,E,e⟩:=D (N - 1) AC AC
   have:=c s E
   omega
theorem od {α β:Type} {a:List α} {b:List β} (h:b.length=a.length) {y:β} (A:y∈b):∃ q∈a.zip b,q.2=y:=by
 obtain ⟨i,hi⟩:=List.mem_iff_getElem?.1 A
 have D:=(List.getElem?_eq_some_iff.1 hi).1
 exact ⟨(a[i]'(by omega),y),List.mem_iff_getElem?.2 ⟨i,List.getElem?_zip_eq_some.2 ⟨List.getElem?_eq_getElem _,hi⟩⟩,rfl⟩
theorem uz {p:Pallet} {l:List Box} {S:List Spot} {N:Int} (g:SpI p l S N) (hl:l.length≤1000):TN S=N:=by
 have h:=g.nn
 refine ti ⟨h.1,AC⟩ (λs J=>?_) λk D E=>?_
 · obtain ⟨q,A,rfl⟩:=od g.len J
   exact (g.ins q A).1
 · obtain ⟨q,A,e⟩:=g.occ k D E
   exact ⟨q.2,(List.of_mem_zip A).2,e⟩
def z1 (r:Request) (cs:List (List Int)):Prop:=∀ c∈cs,∀ y∈c,0≤y∧y<(CP r).length
theorem lX {c:List Int} {cs:List (List Int)} (h:c∈cs):c.length≤cs.flatten.length:=by
 induction cs with
 | nil=>simp at h
 | cons x D A =>
  rw [List.flatten_cons,List.length_append]
  rcases List.mem_cons.1 h with e | h
  · subst e; omega
  · have:=A h; omega
theorem qd {out:List (List Int)} {j u:Int} {c:List Int} (h:ix out j=some c):(DB out j (c++[u])).flatten.Perm (out.flatten++[u]):=by
 obtain ⟨_,_,A⟩:=AG h
 exact Zk A
structure Ez (r:Request) (k:Int) (c0:List Int) (T:List Int) (us:List Int) (out:List (List Int)):Prop where
 src:ix out k=some c0
 all:(out.flatten++us).Perm (T++c0)
 inn:z1 r out
 inu:∀ u∈us,0≤u∧u<(CP r).length
 len:out.length≤12
 tot:(T++c0).length≤24
theorem Ez.step {r:Request} {k:Int} {J T us:List Int} {out:List (List Int)} {u j:Int} {c:List Int} (h:Ez r k J T (u::us) out) (E:ix out j=some c) (O:j≠k):Ez r k J T us (DB out j (c++[u])):=by
 obtain ⟨_,_,_⟩:=AG E
 obtain ⟨L,_,N⟩:=AG h.src
 refine ⟨?_,?_,?_,λv M=>h.inu v (by simp [M]),by unfold DB; simp; exact h.len,h.tot⟩
 · unfold ix DB
   rw [if_pos L,List.getElem?_set,if_neg AC]
   exact N
 · refine ((qd (u:=u) E).append_right us).trans ?_
   simpa using h.all
 · intro d D y A
   unfold DB at D
   rcases List.mem_or_eq_of_mem_set D with D | rfl
   · exact h.inn d D y A
   · rcases List.mem_append.1 A with A | A
     · exact h.inn c (DA E) y A
     · rw [List.mem_singleton.1 A]; exact h.inu u AD
structure Rz (r:Request) (cs:List (List Int)):Prop where
 len:cs.length≤12
 tot:cs.flatten.length≤12
 inn:z1 r cs
theorem Rz.ez {r:Request} {cs:List (List Int)} (h:Rz r cs) {k:Int} {c:List Int} (A:ix cs k=some c):Ez r k c cs.flatten c cs :=
 ⟨A,List.Perm.refl _,h.inn,h.inn c (DA A),h.len,by have:=lX (DA A); have:=h.tot; rw [List.length_append]; omega⟩
end Go.Proofs.YtdgpkmgnjdpieaaGreatDoor
