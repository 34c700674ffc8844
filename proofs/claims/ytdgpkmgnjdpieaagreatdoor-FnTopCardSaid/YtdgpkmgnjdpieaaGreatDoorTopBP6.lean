/- TopBP: plain lemmas,.. -/
import Derived.Test.YtdgpkmgnjdpieaaGreatDoorTopBP5
set_option linter.unusedSimpArgs false
set_option linter.unusedVariables false
namespace Go.Proofs.YtdgpkmgnjdpieaaGreatDoor
open Go
open Enc (rd ow)
open Arg (argv)
open Ret (retv)
open Wf (wf)
def SmR (r:Request):Prop:=r.fT.length≤64∧r.fG.length≤64∧r.fU.length≤64
theorem SmR.sm {r:Request} (h:SmR r) {fu:Nat} (A:2097153≤fu):Sm fu r:=⟨A,by have:=h.1; omega,by have:=h.2.1; omega,by have:=h.2.2; omega⟩
theorem ma {fu:Nat} {b:List U8} {c:Cur} (h:CO b c) (hf:1048577≤fu):Tot (O9 fu c) λx=>(x.1.fT.length≤40∧(1≤x.1.fG.length∧x.1.fG.length≤8)∧x.1.fU.length≤8)∧CO b x.2:=by
 unfold O9
 refine Tot.bind (CC h _) λx1 h1=>Tot.bind (R3 (h.re h1.2) _ AD) λx2 h2=>Tot.bind (R3 (h.re h2.2) _ AD) λx3 h3=>Tot.bind (R3 (h.re h3.2) _ AD) λx4 h4=>Tot.bind (R3 (h.re h4.2) _ AD) λx5 h5=>Tot.bind (CC (h.re h5.2) _) λN h6=>?_
 have e:=h.2.2
 have J:=h.1
 obtain ⟨_,c1⟩:=h6.1
 have c1:=c1 AC
 have ew:AK (1+N.1)=1+N.1:=AU AC AC
 have L4:=xQ (1+N.1) (λn (s:Int×Int×List Pair) i=>ET fu c x1 x2 x3 x4 x5 N n s.1 s.2.1 s.2.2 i) (λx:Request×Cur=>(x.1.fT.length≤40∧(1≤x.1.fG.length∧x.1.fG.length≤8)∧x.1.fU.length≤8)∧CO b x.2)
  (λi s=>0≤s.1∧(s.2.2.length:Int)≤8*i∧i≤4) AC ?_ ?_ (1+N.1 - 0).toNat fu (N.2.fi,N.2.fh,[]) 0 AC rfl AC ⟨h6.2.2.1,AD,AC⟩
 · exact L4
 · intro n ⟨Y,f2,ps⟩ a Aa V D ih
   obtain ⟨i1,i2,i3⟩:0≤Y∧(ps.length:Int)≤8*a∧a≤4:=D
   simp only [ET.eq_2]
   unfold QR
   rw [ew,AX (by simpa using V)]
   have L1:=xQ (a+1) (λm (s:Int×Int×List Pair) i=>GY fu (ET fu c x1 x2 x3 x4 x5 N n) c a m s.1 s.2.1 s.2.2 i) (λx:Request×Cur=>(x.1.fT.length≤40∧(1≤x.1.fG.length∧x.1.fG.length≤8)∧x.1.fU.length≤8)∧CO b x.2)
    (λi s=>0≤s.1∧(s.2.2.length:Int)≤8*a+2*i∧i≤a+1) AC ?_ ?_ (a+1 - 0).toNat fu (Y,f2,ps) 0 AC rfl AC ⟨i1,AJ,AC⟩
   · exact L1
   · intro m ⟨E,O,qs⟩ i M L D A
     obtain ⟨T,j2,j3⟩:0≤E∧(qs.length:Int)≤8*a+2*i∧i≤a+1:=D
     simp only [GY.eq_2]
     unfold Rn
     rw [AX AJ]
     unfold KR
     refine Tot.bif (λU=>?_) λU=>?_
     · refine Tot.ap AJ ?_
       exact A (E,O,_) ⟨T,AJ,AC⟩
     · refine Tot.bind (bY (b:=b) (c:=⟨c.fb,E,O⟩) ⟨J,T,e⟩ 2) λy hy=>?_
       refine Tot.bif (λU=>?_) λU=>?_
       · refine Tot.ap AJ ?_
         exact A (y.2.fi,y.2.fh,_) ⟨hy.2.1,AJ,AC⟩
       · exact A (y.2.fi,y.2.fh,_) ⟨hy.2.1,AJ,AC⟩
   · intro m ⟨E,O,qs⟩ i M L D
     obtain ⟨T,j2,j3⟩:0≤E∧(qs.length:Int)≤8*a+2*i∧i≤a+1:=D
     simp only [GY.eq_2]
     unfold Rn
     rw [AM AJ]
     have:i=a+1:=AC
     exact ih (E,O,qs) ⟨T,AJ,AC⟩
 · intro n ⟨Y,f2,ps⟩ a Aa V D
   obtain ⟨i1,i2,i3⟩:0≤Y∧(ps.length:Int)≤8*a∧a≤4:=D
   simp only [ET.eq_2]
   unfold QR
   rw [ew,AM (by simpa using V)]
   refine Tot.bind (CC (b:=b) (c:=⟨c.fb,Y,f2⟩) ⟨J,i1,e⟩ _) λy1 E=>Tot.bind (R3 (h.re E.2) _ AD) λy2 O=>Tot.bind (R3 (h.re O.2) _ AD) λy3 g3=>Tot.ap AD ?_
   unfold UT
   refine Tot.bind (CC (h.re g3.2) _) λQ g4=>?_
   obtain ⟨_,e1⟩:=g4.1
   have e1:=e1 AC
   have L3:=xQ Q.1 (λm (s':Int×Int×List Typ) i=>I6 fu c x1 x2 x3 x4 x5 N ps Q m s'.1 s'.2.1 s'.2.2 i) (λx:Request×Cur=>(x.1.fT.length≤40∧(1≤x.1.fG.length∧x.1.fG.length≤8)∧x.1.fU.length≤8)∧CO b x.2)
    (λi s=>0≤s.1∧(s.2.2.length:Int)=1+i∧i≤Q.1) AC ?_ ?_ (Q.1 - 0).toNat fu (Q.2.fi,Q.2.fh,([]:List Typ)++[(⟨7,12,10,11,y1.1,y2.1,y3.1⟩:Typ)]) 0 AC rfl AC ⟨g4.2.2.1,AD,AC⟩
   · exact L3
   · intro m ⟨E,O,ts⟩ i M L D A
     obtain ⟨T,j2,j3⟩:0≤E∧(ts.length:Int)=1+i∧i≤Q.1:=D
     simp only [I6.eq_2]
     unfold Q6
     rw [AX AJ]
     refine Tot.bind (CC (b:=b) (c:=⟨c.fb,E,O⟩) ⟨J,T,e⟩ _) λ_ Y=>Tot.bind (CC (h.re Y.2) _) λ_ f2=>Tot.bind (CC (h.re f2.2) _) λ_ f3=>Tot.bind (CC (h.re f3.2) _) λ_ f4=>Tot.bind (CC (h.re f4.2) _) λ_ f5=>Tot.bind (CC (h.re f5.2) _) λz6 f6=>Tot.ap AJ ?_
     exact A (z6.2.fi,z6.2.fh,_) ⟨f6.2.2.1,AJ,AC⟩
   · intro m ⟨E,O,ts⟩ i M L D
     obtain ⟨T,j2,j3⟩:0≤E∧(ts.length:Int)=1+i∧i≤Q.1:=D
     simp only [I6.eq_2]
     unfold Q6
     rw [AM AJ]
     refine Tot.bind (CC (b:=b) (c:=⟨c.fb,E,O⟩) ⟨J,T,e⟩ _) λz f=>?_
     obtain ⟨_,q1⟩:=f.1
     have q1:=q1 AC
     have L2:=xQ z.1 (λm (t:Int×Int×List Item×Int) i=>DX fu c x1 x2 x3 x4 x5 N ps ts z m t.1 t.2.1 t.2.2.1 t.2.2.2 i) (λx:Request×Cur=>(x.1.fT.length≤40∧(1≤x.1.fG.length∧x.1.fG.length≤8)∧x.1.fU.length≤8)∧CO b x.2)
      (λi t=>0≤t.1∧(t.2.2.1.length:Int)≤i∧i≤z.1) AC ?_ ?_ (z.1 - 0).toNat fu (z.2.fi,z.2.fh,[],0) 0 AC rfl AC ⟨f.2.2.1,AD,AC⟩
     · exact L2
     · intro m' ⟨k4,k5,is,un⟩ Z M L D A
       obtain ⟨k1,k2,k3⟩:0≤k4∧(is.length:Int)≤Z∧Z≤z.1:=D
       simp only [DX.eq_2]
       unfold QK
       rw [AX AJ]
       refine Tot.bind (CC (b:=b) (c:=⟨c.fb,k4,k5⟩) ⟨J,k1,e⟩ _) λ_ v1=>Tot.bind (CC (h.re v1.2) _) λ_ v2=>Tot.bind (CC (h.re v2.2) _) λ_ v3=>Tot.bind (CC (h.re v3.2) _) λ_ v4=>Tot.bind (CC (h.re v4.2) _) λ_ v5=>Tot.bind (CC (h.re v5.2) _) λ_ v6=>?_
       unfold UC
       have J3:∀ (p q:Int) (x:Item),0≤p→Tot (KP fu (DX fu c x1 x2 x3 x4 x5 N ps ts z m') is un Z p q x) (λx:Request×Cur=>(x.1.fT.length≤40∧(1≤x.1.fG.length∧x.1.fG.length≤8)∧x.1.fU.length≤8)∧CO b x.2):=by
        intro p q x hp
        unfold KP NE
        refine Tot.bif (λU=>?_) λU=>?_
        · refine Tot.ap AJ ?_
          exact A (p,q,_,_) ⟨hp,AJ,AC⟩
        · exact A (p,q,_,_) ⟨hp,AJ,AC⟩
       refine Tot.bind (bY (h.re v6.2) _) λ_ v7=>?_
       refine Tot.bif (λU=>?_) λU=>?_
       · refine Tot.bind (CC (h.re v7) _) λw8 v8=>?_
         exact J3 _ _ _ v8.2.2.1
       · exact J3 _ _ _ v7.2.1
     · intro m' ⟨k4,k5,is,un⟩ Z M L D
       obtain ⟨k1,k2,k3⟩:0≤k4∧(is.length:Int)≤Z∧Z≤z.1:=D
       simp only [DX.eq_2]
       unfold QK
       rw [AM AJ]
       exact Tot.mk ⟨⟨AJ,AJ,AJ⟩,J,k1,e⟩
theorem n7 {fu:Nat} {b:List U8} {c:Cur} (h:CO b c) (E:2097153≤fu):Tot (RU fu c) λx=>SmR x.1∧CO b x.2:=by
 unfold RU
 refine Tot.bind (ma h AC) λx Q=>?_
 obtain ⟨⟨_,_,_⟩,M⟩:=Q
 have N:SmR x.1:=⟨AC,AC,AC⟩
 rw [Zz (N.sm E),AB]
 refine Tot.bif (λ_=>?_) λ_=>Tot.mk ⟨N,h.re M⟩
 have D:Sm fu (⟨x.1.fc,(⟨30,25,24,400⟩:Pallet),x.1.fR,x.1.fT,x.1.fG,x.1.fP,x.1.fU⟩:Request):=⟨E,AJ,AJ,AJ⟩
 rw [lS D,AB]
 generalize WK _=t
 refine xQ (x.1.fU.length:Int) (λn s i=>HY fu c x t n s i) _ (λi s=>(s.length:Int)≤i∧i≤x.1.fU.length) AC ?_ ?_ _ fu [] 0 AC rfl AC ⟨AD,AC⟩
 · intro n s i J A O L
   simp only [HY.eq_2]
   unfold S5 PO
   rw [AX (by simpa using A)]
   refine Tot.ix ⟨J,A⟩ λy T=>?_
   rw [su E,AB]
   refine Tot.bif (λ_=>?_) λ_=>L _ ⟨AC,AC⟩
   refine Tot.ix ⟨J,A⟩ λy T=>Tot.ap AJ ?_
   exact L _ ⟨AJ,AC⟩
 · intro n s i J A O
   simp only [HY.eq_2]
   unfold S5
   rw [AM AJ]
   exact Tot.mk ⟨⟨AJ,AJ,AJ⟩,h.re M⟩
theorem cq {α:Type} (l:List α) (i:Int) (y:α):(DB l i y).length=l.length:=by simp [DB]
theorem jF {α:Type} {l:List α} (h:0<l.length):RA l 1 (l.length:Int)=some (l.drop 1):=by
 rw [N6 AC]
 congr 1
 exact List.take_of_length_le AD
theorem p5 {fu:Nat} {b:List U8} {c:Cur} (h:CO b c) (hf:2097153≤fu):Tot (RT fu c) λx=>SmR x.1∧CO b x.2:=by
 unfold RT
 refine Tot.bind (ma h AC) λx hx=>?_
 obtain ⟨⟨_,_,_⟩,e⟩:=hx
 obtain ⟨c1,c2,c3⟩:=h
 have h:CO b c:=⟨c1,c2,c3⟩
 refine Tot.bind (R3 (h.re e) _ AD) λy D=>Tot.bind (CC (h.re D.2) _) λz Z=>?_
 have J:∀ (T V Y Q:Int) (E:List Pair) (L:List Typ) (O:Int) (N:List Item) (M U:Int),E.length≤64→L.length≤64→N.length≤64→0≤M→Tot (BR fu c x T V Y Q E L O N M U) λx=>SmR x.1∧CO b x.2:=by
  intro T V Y Q E L O N M U q1 q2 q3 q4
  exact Tot.mk ⟨⟨q1,q2,q3⟩,c1,q4,c3⟩
 have A:=Z.2.2.1
 refine Tot.bif (λ_=>?_) λ_=>?_
 · exact Tot.bind (R3 (h.re Z.2) _ AD) λy D=>J _ _ _ _ _ _ _ _ _ _ AC AC AC D.2.2.1
 refine Tot.bif (λ_=>?_) λ_=>?_
 · exact J _ _ _ _ _ _ _ _ _ _ AC AC AC A
 refine Tot.bif (λ_=>?_) λ_=>?_
 · exact J _ _ _ _ _ _ _ _ _ _ AC AC AC A
 refine Tot.bif (λ_=>?_) λ_=>?_
 · exact Tot.bind (R3 (h.re Z.2) _ AD) λy D=>J _ _ _ _ _ _ _ _ _ _ AC AC AC D.2.2.1
 refine Tot.bif (λ_=>?_) λ_=>?_
 · exact Tot.bind (CC (h.re Z.2) _) λy D=>Tot.bind (CC (h.re D.2) _) λv hv=>Tot.ap AJ (J _ _ _ _ _ _ _ _ _ _ AJ AC AC hv.2.2.1)
 refine Tot.bif (λ_=>?_) λ_=>?_
 · exact Tot.ix AC λy D=>J _ _ _ _ _ _ _ _ _ _ AC (by rw [cq]; omega) AC A
 refine Tot.bif (λ_=>?_) λ_=>?_
 · exact Tot.bind (CC (h.re Z.2) _) λy D=>Tot.ix ⟨D.1.1,D.1.2 AC⟩ λv hv=>J _ _ _ _ _ _ _ _ _ _ AC (by rw [cq]; omega) AC D.2.2.1
 refine Tot.bif (λ_=>?_) λ_=>?_
 · exact Tot.bind (R3 (h.re Z.2) _ AD) λy D=>J _ _ _ _ _ _ _ _ _ _ AC AC AC D.2.2.1
 refine Tot.bif (λ_=>?_) λ_=>?_
 · exact Tot.bind (CC (h.re Z.2) _) λy D=>Tot.bind (CC (h.re D.2) _) λv hv=>Tot.ap AJ (J _ _ _ _ _ _ _ _ _ _ AC AC AJ hv.2.2.1)
 refine Tot.bif (λ_=>?_) λ_=>?_
 · refine Tot.bif (λe=>?_) λ_=>?_
   · have:=of_decide_eq_true e
     exact Tot.ix AC λy D=>J _ _ _ _ _ _ _ _ _ _ AC AC (by rw [cq]; omega) A
   · exact J _ _ _ _ _ _ _ _ _ _ AC AC AC A
 refine Tot.bif (λ_=>?_) λ_=>?_
 · refine Tot.bif (λe=>?_) λ_=>?_
   · have:=of_decide_eq_true e
     rw [jF AC,AB]
     exact J _ _ _ _ _ _ _ _ _ _ AJ AC AC A
   · exact J _ _ _ _ _ _ _ _ _ _ AC AC AC A
 refine Tot.bif (λ_=>?_) λ_=>?_
 · exact Tot.ix AC λy D=>Tot.ap AJ (J _ _ _ _ _ _ _ _ _ _ AC AJ AC A)
 refine Tot.bif (λ_=>?_) λ_=>?_
 · exact J _ _ _ _ _ _ _ _ _ _ AC AD AC A
 · exact J _ _ _ _ _ _ _ _ _ _ AC AC AC A
theorem sZ {fu:Nat} {b:List U8} (L:b.length≤1048576) (E:2097153≤fu):Tot (Pm fu b) SmR:=by
 unfold Pm
 refine Tot.bind (kW L AC) λx J=>Tot.bind (bY J.re' _) λy D=>?_
 refine Tot.bif (λ_=>?_) λ_=>?_
 · exact Tot.bind (n7 D.re' E) λz A=>Tot.mk A.1
 · exact Tot.bind (p5 D.re' E) λz A=>Tot.mk A.1
theorem xZ (fu:Nat) (b:List U8):ay fu b=some (decide ((b.length:Int)>1048576)):=rfl
def mK (s:ByteArray):List U8:=s.data.toList.map λb=>(⟨(b.toNat:Int)⟩:U8)
theorem eI (s:ByteArray):(mK s).length=s.size:=by unfold mK; rw [List.length_map]; exact Array.length_toList
theorem l4 {s:ByteArray} (h:s.size≤1000000000):qy s=some (mK s):=by unfold qy mK; rw [if_pos h]
theorem oO {s:ByteArray} {x:U8} (h:x∈mK s):0≤x.n∧x.n≤255:=by
 obtain ⟨b,_,rfl⟩:=List.mem_map.1 h
 have:=b.toNat_lt
 exact ⟨by simp only; omega,by simp only; omega⟩
theorem Wj {l:List U8} (h:∀ x∈l,0≤x.n∧x.n≤255):Tot (Zp l) λr=>r.size=l.length:=by
 unfold Zp
 rw [if_pos h]
 exact Tot.mk (by show (List.map _ _).toArray.size=_; simp)
theorem gU {fu:Nat} {b:List U8} {c:Cur} (h:CO b c) (l:List ByteArray) (hl:0<l.length):Tot (MS fu c l) λx=>x.1∈l∧CO b x.2:=by
 unfold MS
 exact Tot.bind (CC h _) λx A=>Tot.ix ⟨A.1.1,A.1.2 AC⟩ λy D=>Tot.mk ⟨D,h.re A.2⟩
theorem cb {s:ByteArray} {i:Int} (h:0≤i∧i≤s.size):Tot (RA (mK s) 0 i) λl=>(∀ x∈l,0≤x.n∧x.n≤255)∧l.length≤s.size:=by
 have hl:=eI s
 rw [N6 ⟨AC,h.1,AC⟩]
 refine Tot.mk ⟨λx A=>oO (List.mem_of_mem_drop (List.mem_of_mem_take A)),?_⟩
 simp only [List.length_take,List.length_drop]
 omega
theorem bt {s:ByteArray} {i:Int} (h:0≤i∧i≤s.size):Tot (RA (mK s) i ((mK s).length:Int)) λl=>(∀ x∈l,0≤x.n∧x.n≤255)∧l.length≤s.size:=by
 have hl:=eI s
 rw [N6 ⟨h.1,AC,AC⟩]
 refine Tot.mk ⟨λx A=>oO (List.mem_of_mem_drop (List.mem_of_mem_take A)),?_⟩
 simp only [List.length_take,List.length_drop]
 omega
theorem Tot.sc {β:Type} {x y:ByteArray} {k:ByteArray→Option β} {Q:β→Prop} (h:x.size+y.size≤1000000000) (A:∀ z,z.size=x.size+y.size→Tot (k z) Q):Tot (AA (NY x y) k) Q:=by
 rw [NR h]; exact A _ (ByteArray.size_append)
theorem uQ {fu:Nat} {b:List U8} {c:Cur} (h:CO b c) {s:ByteArray} (hs:s.size≤400000):Tot (U4 fu c s) λx=>x.1.size≤800010∧CO b x.2:=by
 have hl:=eI s
 unfold U4
 rw [l4 AC,AB]
 refine Tot.bind (CC h _) λi hi=>?_
 have A:=hi.1.1
 have J:=hi.1.2 (by rw [AU AC AC]; omega)
 rw [AU AC AC] at J
 refine Tot.bind (CC (h.re hi.2) _) λk E=>?_
 refine Tot.bif (λ_=>?_) λ_=>?_
 · exact Tot.bind (cb ⟨A,AC⟩) λl D=>Tot.bind (Wj D.1) λr N=>Tot.mk ⟨by simp only; omega,h.re E.2⟩
 refine Tot.bif (λ_=>?_) λ_=>?_
 · exact Tot.bind (cb ⟨A,AC⟩) λl D=>Tot.bind (Wj D.1) λr N=>Tot.bind (bt ⟨A,AC⟩) λY M=>Tot.bind (Wj M.1) λU L =>
     Tot.bind (gU (h.re E.2) _ AD) λp O=>by
      have Q:p.1.size≤2:=by
       have:=O.1
       simp only [List.mem_cons,List.not_mem_nil,or_false] at this
       rcases this with e | e | e | e | e | e <;> rw [e] <;> decide
      exact Tot.sc AC λx _=>Tot.sc AC λy V=>Tot.mk ⟨by simp only; omega,h.re O.2⟩
 refine Tot.bif (λ_=>?_) λ_=>?_
 · refine Tot.bif (λT=>?_) λ_=>?_
   · have Z:=of_decide_eq_true T
     refine Tot.bind (cb ⟨A,AC⟩) λl D=>Tot.bind (Wj D.1) λr N=>?_
     rw [AU (n:=i.1+1) AC AC]
     exact Tot.bind (bt ⟨AC,AC⟩) λY M=>Tot.bind (Wj M.1) λU L=>Tot.sc AC λy V=>Tot.mk ⟨by simp only; omega,h.re E.2⟩
   · exact Tot.mk ⟨by simp only; omega,h.re E.2⟩
 · exact Tot.mk ⟨by simp only; omega,h.re E.2⟩
theorem gB {x:Plan}:(Z0 x).size≤240200:=by
 have D:∀ (l:List (Carton×Spot)) (o:ByteArray),(∀ p∈l,(HV NW (GE p.1 p.2)++iG).size≤2401)→(l.foldl kS o).size≤o.size+2401*l.length:=by
  intro l
  induction l with
  | nil=>intro o _; simp
  | cons p l E =>
   intro o h
   have N:=h p AD
   have O:=E (kS o p) λq M=>h q (by simp [M])
   have e:(kS o p).size=o.size+(HV NW (GE p.1 p.2)++iG).size:=by unfold kS; rw [ByteArray.size_append]
   rw [List.foldl_cons,List.length_cons]
   omega
 unfold Z0
 cases A:RQ x
 · show (0:Nat)≤_; omega
 · rw [cond_true]
   unfold RQ at A
   simp only [Bool.and_eq_true,decide_eq_true_eq,beq_iff_eq] at A
   obtain ⟨_,_,L⟩:=A
   have:=D (x.fV.zip x.fE) ⟨#[]⟩ λp A=>by
    have:=List.all_eq_true.1 L p A
    rw [Bool.and_eq_true] at this
    exact (kD (bI this.1 this.2)).2
   have J:(x.fV.zip x.fE).length=x.fV.length:=AJ
   rw [J] at this
   have Q:(⟨#[]⟩:ByteArray).size=0:=rfl
   omega
def xH (p:Pallet):List Int:=[p.fW,p.fD,p.fH,p.fQ]
def qQ (t:Typ):List Int:=[t.fe,t.fW,t.fH,t.fD,t.ff,t.fQ,t.fd]
def mM (x:Item):List Int:=[x.fe,x.fW,x.fH,x.fD,x.fQ,x.fO,x.f9]
def Z9 (r:Request):List (ByteArray×List Int) :=
 [(Zj,xH r.fJ),(Z3,[r.fR])]++(r.fT.map (λp=>(YB,[p.fA,p.fB]))++(r.fG.map (λt=>(Yn,qQ t))++((Zs,[r.fP])::r.fU.map λx=>(Yo,mM x))))
def dB (l:List Int):Bool:=l.all λn=>CW n 0 999999
def nc:List (ByteArray×List Int)→ByteArray→ByteArray
 | [],o=>o
 | p::ps,o=>if dB p.2=true then nc ps (o++(HV p.1 p.2++iG)) else eN
def lR (w:Int):ByteArray:=(if w=0 then wT else rr)++iG
def qf (r:Request):ByteArray:=bif CW r.fc 0 1 then nc (Z9 r) (lR r.fc) else eN
theorem st {r:Request} (E:r.fT.length≤64) (D:r.fG.length≤64) (J:r.fU.length≤64):(Z9 r).length≤200∧∀ p∈Z9 r,p.1.size≤7∧p.2.length≤7:=by
 refine ⟨by simp [Z9]; omega,λp A=>?_⟩
 unfold Z9 at A
 simp only [List.mem_append,List.mem_cons,List.not_mem_nil,or_false,List.mem_map] at A
 rcases A with (rfl | rfl) | ⟨_,_,rfl⟩ | ⟨_,_,rfl⟩ | rfl | ⟨_,_,rfl⟩
 · exact ⟨(by decide:Zj.size≤7),by simp [xH]⟩
 · exact ⟨(by decide:Z3.size≤7),AD⟩
 · exact ⟨(by decide:YB.size≤7),AD⟩
 · exact ⟨(by decide:Yn.size≤7),by simp [qQ]⟩
 · exact ⟨(by decide:Zs.size≤7),AD⟩
 · exact ⟨(by decide:Yo.size≤7),by simp [mM]⟩
theorem xD {fu:Nat} (h:2097153≤fu) {r:Request} (Z:r.fT.length≤64) (e:r.fG.length≤64) (Y:r.fU.length≤64):Wd fu r=some ((Z9 r).map (·.1),(Z9 r).map (·.2)):=by
 unfold Wd
 have Q:∀ (w:List ByteArray) (n:List (List Int)),w.length≤200→n.length≤200→IL fu r fu w n 0=some (w++r.fU.map (λ_=>Yo),n++r.fU.map mM):=λw n T V=>by
  have D:=XB r.fU (λk (s:List ByteArray×List (List Int)) i=>IL fu r k s.1 s.2 i) (λA s=>some (s.1++A.map (λ_=>Yo),s.2++A.map mM)) (λA s=>s.1.length+A.length≤1000∧s.2.length+A.length≤1000) AC ?_ ?_ fu (w,n) ⟨AJ,AJ⟩ AC
  · exact D
  · intro k s i x A O E L N
    obtain ⟨M,J⟩:=L
    simp only [List.length_cons] at M J
    simp only [IL.eq_2]
    unfold SW
    rw [E,cond_true,O,AB,KO AJ,AB,KO AJ,AB]
    have:=N (s.1++[Yo],s.2++[mM x]) ⟨AJ,AJ⟩
    rw [List.append_assoc,List.append_assoc] at this
    exact this
  · intro k s i E _
    simp only [IL.eq_2]
    unfold SW
    rw [E,cond_false]; simp
 have U:∀ (w:List ByteArray) (n:List (List Int)),w.length≤100→n.length≤100→IG fu r fu w n 0=some (w++(r.fG.map (λ_=>Yn)++(Zs::r.fU.map (λ_=>Yo))),n++(r.fG.map qQ++([r.fP]::r.fU.map mM))):=λw n T V=>by
  have D:=XB r.fG (λk (s:List ByteArray×List (List Int)) i=>IG fu r k s.1 s.2 i) (λA s=>some (s.1++(A.map (λ_=>Yn)++(Zs::r.fU.map (λ_=>Yo))),s.2++(A.map qQ++([r.fP]::r.fU.map mM)))) (λA s=>s.1.length+A.length≤170∧s.2.length+A.length≤170) AC ?_ ?_ fu (w,n) ⟨AJ,AJ⟩ AC
  · exact D
  · intro k s i x A O E L N
    obtain ⟨M,J⟩:=L
    simp only [List.length_cons] at M J
    simp only [IG.eq_2]
    unfold Tq
    rw [E,cond_true,O,AB,KO AJ,AB,KO AJ,AB]
    have:=N (s.1++[Yn],s.2++[qQ x]) ⟨AJ,AJ⟩
    rw [List.append_assoc,List.append_assoc] at this
    exact this
  · intro k s i E L
    obtain ⟨M,J⟩:=L
    simp only [List.length_nil,Nat.add_zero] at M J
    simp only [IG.eq_2]
    unfold Tq
    rw [E,cond_false,KO AJ,AB,KO AJ,AB]
    have:=Q (s.1++[Zs]) (s.2++[[r.fP]]) AJ AJ
    rw [List.append_assoc,List.append_assoc] at this
    exact this
 have D:=XB r.fT (λk (s:List ByteArray×List (List Int)) i=>J1 fu r k s.1 s.2 i) (λA s=>some (s.1++(A.map (λ_=>YB)++(r.fG.map (λ_=>Yn)++(Zs::r.fU.map (λ_=>Yo)))),s.2++(A.map (λp=>[p.fA,p.fB])++(r.fG.map qQ++([r.fP]::r.fU.map mM))))) (λA s=>s.1.length+A.length≤70∧s.2.length+A.length≤70) AC ?_ ?_ fu ([Zj,Z3],[xH r.fJ,[r.fR]]) ⟨AJ,AJ⟩ AC
 · refine D.trans ?_
   simp only [Z9,List.map_append,List.map_cons,List.map_nil,List.map_map]
   rfl
 · intro k s i x A O E L N
   obtain ⟨M,J⟩:=L
   simp only [List.length_cons] at M J
   simp only [J1.eq_2]
   unfold S0
   simp only [E,cond_true,O,AB]
   rw [KO AJ,AB,KO AJ,AB]
   have:=N (s.1++[YB],s.2++[[x.fA,x.fB]]) ⟨AJ,AJ⟩
   rw [List.append_assoc,List.append_assoc] at this
   exact this
 · intro k s i E L
   obtain ⟨M,J⟩:=L
   simp only [List.length_nil,Nat.add_zero] at M J
   simp only [J1.eq_2]
   unfold S0
   rw [E,cond_false]
   exact U s.1 s.2 AC AC
theorem xr {fu:Nat} (Q:2097153≤fu) {w:ByteArray} {l:List Int} (V:w.size≤100) (hl:l.length≤100):Xq fu w l=some (if dB l=true then (HV w l++iG,true) else (eN,false)):=by
 unfold Xq
 have L:=XB l (λn (o:ByteArray) i=>KK fu l n o i) (λA o=>some (if dB A=true then (HV o A++iG,true) else (eN,false))) (λA o=>o.size+30*A.length≤10000) AC ?_ ?_ fu w AC AC
 · exact L
 · intro n o i x A T M E O
   simp only [List.length_cons] at E
   simp only [KK.eq_2]
   unfold UD
   rw [M,cond_true,T,AB,X2,AB]
   have N:dB (x::A)=(CW x 0 999999&&dB A):=rfl
   cases J:CW x 0 999999 with
   | false=>rw [N,J,if_neg AD]; rfl
   | true =>
    have D:=BS.1 J
    have Y:=Yv D
    have U:n8.size=1:=rfl
    rw [Bool.not_true,cond_false,N,J,Bool.true_and]
    show AA (NY o n8) _=_
    rw [NR AC,AB,AB,g7 Q D,AB,NR (by rw [ByteArray.size_append]; omega),AB,ByteArray.append_assoc,O _ (by rw [ByteArray.size_append,ByteArray.size_append]; omega)]
    rfl
 · intro n o i M E
   simp only [List.length_nil] at E
   simp only [KK.eq_2]
   unfold UD
   rw [M,cond_false]
   show AA (NY o iG) _=_
   rw [NR (by show _+1≤_; omega)]
   rfl
theorem qk {l:List Int} (h:dB l=true):∀ n∈l,0≤n∧n≤999999:=λn A=>BS.1 (List.all_eq_true.1 h n A)
theorem lI {w:ByteArray} {l:List Int} (h:dB l=true) (A:w.size≤7) (hl:l.length≤7):(HV w l++iG).size≤165:=by
 have:=de l w (qk h)
 rw [ByteArray.size_append,show iG.size=1 from rfl]
 omega
theorem lB:∀ (ps:List (ByteArray×List Int)) (o:ByteArray),(∀ p∈ps,p.1.size≤7∧p.2.length≤7)→(nc ps o).size≤o.size+165*ps.length
 | [],o,_=>by simp [nc]
 | p::ps,o,h=>by
  unfold nc
  have A:=h p AD
  split
  · rename_i J
    have L:=lI J A.1 A.2
    have D:=lB ps (o++(HV p.1 p.2++iG)) λq E=>h q (by simp [E])
    rw [ByteArray.size_append] at D
    simp only [List.length_cons]
    omega
  · show 0≤_; omega
theorem sR {fu:Nat} (Q:2097153≤fu) {r:Request} (O:r.fT.length≤64) (T:r.fG.length≤64) (M:r.fU.length≤64):J7 fu r=some (qf r)∧(qf r).size≤34000:=by
 obtain ⟨hl,D⟩:=st O T M
 have L:(qf r).size≤34000:=by
  unfold qf
  cases CW r.fc 0 1
  · show 0≤_; omega
  · have:=lB (Z9 r) (lR r.fc) D
    have U:(lR r.fc).size≤20:=by unfold lR; split <;> decide
    rw [cond_true]
    omega
 refine ⟨?_,L⟩
 unfold J7 qf
 rw [X2,AB]
 cases hb:CW r.fc 0 1 with
 | false=>rfl
 | true =>
  have U:=BS.1 hb
  rw [Bool.not_true,cond_false,cond_true]
  have e0:ix (([(⟨#[119,97,121,32,102,105,114,115,116,10]⟩:ByteArray),(⟨#[119,97,121,32,110,101,120,116,10]⟩:ByteArray)]:List ByteArray)) r.fc=some (lR r.fc):=by
   have:r.fc=0∨r.fc=1:=AC
   rcases this with e | e <;> rw [e] <;> rfl
  rw [e0,AB,xD Q O T M,AB]
  generalize Z9 r=R at hl D
  have E:=hU R (λn (o:ByteArray) i=>HF fu (R.map (·.1),R.map (·.2)) n o i) (λ_ A o=>some (nc A o)) (λ_ A o=>(∀ p∈A,p.1.size≤7∧p.2.length≤7)∧o.size+165*A.length≤40000) AC ?_ ?_ fu (lR r.fc) ⟨D,by
   have U:(lR r.fc).size≤20:=by unfold lR; split <;> decide
   omega⟩ AC
  · exact E
  · intro n o pre p A e Y J hI Z
    obtain ⟨N,h⟩:=hI
    simp only [List.length_cons] at h
    have V:=N p AD
    have a1:ix (R.map (·.1)) (pre.length:Int)=some p.1:=by rw [EG,e]; simp
    have a2:ix (R.map (·.2)) (pre.length:Int)=some p.2:=by rw [EG,e]; simp
    simp only [HF.eq_2]
    unfold Nb
    simp only [List.length_map]
    rw [J,cond_true,a1,AB,a2,AB,xr Q AC AC,AB,nc]
    cases hk:dB p.2 with
    | false=>rfl
    | true =>
     have hs:=lI hk V.1 V.2
     rw [if_pos rfl,if_pos rfl]
     show AA (NY o (HV p.1 p.2++iG)) _=_
     rw [NR AC,AB,Z _ ⟨λq Y=>N q (by simp [Y]),by rw [ByteArray.size_append]; omega⟩]
  · intro n o J _
    simp only [HF.eq_2]
    unfold Nb
    simp only [List.length_map]
    rw [J,cond_false]; rfl
theorem vp {fu:Nat} {b:List U8} {c:Cur} (h:CO b c) (T:2097153≤fu):Tot (V8 fu c) λx=>x.1.size≤80000∧CO b x.2:=by
 unfold V8
 refine Tot.bind (p5 h T) λx J=>?_
 obtain ⟨e1,hs⟩:=sR (r:=x.1) T J.1.1 J.1.2.1 J.1.2.2
 rw [e1,AB]
 generalize qf x.1=s at hs ⊢
 have hl:=eI s
 rw [l4 AC,AB]
 refine Tot.bind (CC (h.re J.2) _) λi hi=>?_
 have A:=hi.1.1
 have M:=hi.1.2 (by rw [AU AC AC]; omega)
 rw [AU AC AC] at M
 refine Tot.bind (CC (h.re hi.2) _) λk D=>?_
 refine Tot.bif (λ_=>?_) λ_=>?_
 · exact Tot.bind (cb ⟨A,AC⟩) λl E=>Tot.bind (Wj E.1) λr Q=>Tot.mk ⟨by simp only; omega,h.re D.2⟩
 refine Tot.bif (λ_=>?_) λ_=>?_
 · exact Tot.bind (cb ⟨A,AC⟩) λl E=>Tot.bind (Wj E.1) λr Q=>Tot.bind (bt ⟨A,AC⟩) λl2 O=>Tot.bind (Wj O.1) λY N =>
     Tot.bind (gU (h.re D.2) _ AD) λp L=>by
      have U:p.1.size≤19:=by
       have:=L.1
       simp only [List.mem_cons,List.not_mem_nil,or_false] at this
       rcases this with e | e | e | e | e | e <;> rw [e] <;> decide
      exact Tot.sc AC λx J=>Tot.sc AC λy Z=>Tot.mk ⟨by simp only; omega,h.re L.2⟩
 refine Tot.bif (λ_=>?_) λ_=>?_
 · refine Tot.bif (λV=>?_) λ_=>?_
   · have Aa:=of_decide_eq_true V
     refine Tot.bind (cb ⟨A,AC⟩) λl E=>Tot.bind (Wj E.1) λr Q=>?_
     rw [AU (n:=i.1+1) AC AC]
     exact Tot.bind (bt ⟨AC,AC⟩) λl2 O=>Tot.bind (Wj O.1) λY N=>Tot.sc AC λy Z=>Tot.mk ⟨by simp only; omega,h.re D.2⟩
   · exact Tot.mk ⟨by simp only; omega,h.re D.2⟩
 refine Tot.bif (λ_=>?_) λ_=>?_
 · refine Tot.bind (gU (h.re D.2) _ AD) λp L=>Tot.mk ⟨?_,h.re L.2⟩
   have:=L.1
   simp only [List.mem_cons,List.not_mem_nil,or_false] at this
   rcases this with e | e | e | e | e | e <;> simp only [e] <;> decide
 · exact Tot.mk ⟨by simp only; omega,h.re D.2⟩
theorem vn {b:List U8} (J:b.length≤1048576):Tot (Sn 2097153 b) λs=>s.size≤1048576:=by
 unfold Sn
 refine Tot.bind (kW J AC) λc E=>Tot.bind (bY E.re' _) λy D=>?_
 refine Tot.bif (λ_=>?_) λ_=>?_
 · exact Tot.bind (vp D.re' AC) λt _=>Tot.mk AC
 · refine Tot.bind (n7 D.re' AC) λx A=>?_
   obtain ⟨L,_⟩:=sR (r:=x.1) (fu:=2097153) AC A.1.1 A.1.2.1 A.1.2.2
   rw [L,AB]
   exact Tot.mk AC
def SmP (x:Plan):Prop:=x.fV.length≤60∧x.fE.length≤60∧∀ c∈x.fV,c.fK.length≤20
theorem mi (b:Nat):∀ (l:List Carton),(∀ c∈l,c.fK.length≤b)→Xd l≤b*l.length
 | [],_=>by simp [Xd]
 | c::l,h=>by
  have E:=mi b l λd A=>h d (by simp [A])
  have D:=h c AD
  simp only [Xd,List.length_cons,Nat.mul_add]; omega
theorem SmP.sp {x:Plan} (h:SmP x):Sp x:=by
 have:=mi 20 x.fV h.2.2
 have:=h.1
 have:=h.2.1
 exact ⟨AC,λc A=>by have:=h.2.2 c A; omega,AC,AC⟩
theorem uT {l:List Carton} {i:Int} {y:Carton} (h:∀ c∈l,c.fK.length≤20) (D:y.fK.length≤20):∀ c∈DB l i y,c.fK.length≤20:=by
 intro c A
 unfold DB at A
 rcases List.mem_or_eq_of_mem_set A with A | rfl
 · exact h c A
 · exact D
theorem wz {fu:Nat} {b:List U8} (U:b.length≤1048576) (T:2097153≤fu):Tot (T4 fu b) λx=>SmR x.1∧SmP x.2:=by
 unfold T4 C3
 refine Tot.bind (sZ U T) λr J=>?_
 rw [tj (J.sm T),AB]
 obtain ⟨h,Z,N⟩:=j4 r
 generalize WR r=P at h Z N ⊢
 have D:∀ c∈P.1.fV,c.fK.length≤20:=λc L=>by have:=N c L; omega
 refine Tot.bind (kW U AC) λc L=>?_
 refine Tot.bif (λ_=>Tot.mk ⟨J,AJ,AJ,D⟩) λQ=>?_
 have V:0<P.1.fV.length:=by
  simp only [beq_eq_false_iff_ne] at Q
  omega
 refine Tot.bind (CC L.re' _) λi hi=>?_
 have A:=hi.1.1
 have Y:=hi.1.2 AC
 refine Tot.bind (CC hi.2.re' _) λk M=>?_
 refine Tot.bif (λ_=>?_) λ_=>?_
 · exact Tot.ix ⟨A,AC⟩ λs E=>Tot.ix ⟨A,AC⟩ λs E=>Tot.mk ⟨J,AJ,by simp [XT]; omega,D⟩
 refine Tot.bif (λ_=>?_) λ_=>?_
 · exact Tot.bind (CC M.2.re' _) λv O=>Tot.ix ⟨A,AC⟩ λs E=>Tot.mk ⟨J,AJ,by simp [XT]; omega,D⟩
 refine Tot.bif (λ_=>?_) λ_=>?_
 · exact Tot.bind (R3 M.2.re' _ AD) λv O=>Tot.ix ⟨A,AC⟩ λs E=>Tot.mk ⟨J,by simp [XT]; omega,AJ,uT D (D s E)⟩
 refine Tot.bif (λ_=>?_) λ_=>?_
 · refine Tot.ix ⟨A,AC⟩ λs E=>Tot.bind (CC M.2.re' _) λv O=>Tot.ap (by have:=N s E; simp; omega) (Tot.ix ⟨A,AC⟩ λt _=>Tot.mk ⟨J,by simp [XT]; omega,AJ,uT D (by have:=N s E; simp; omega)⟩)
 refine Tot.bif (λ_=>?_) λ_=>?_
 · exact Tot.ix ⟨A,AC⟩ λs E=>Tot.mk ⟨J,by simp [XT]; omega,AJ,uT D AD⟩
 refine Tot.bif (λ_=>?_) λ_=>?_
 · rw [jF AC,AB]
   exact Tot.mk ⟨J,AJ,AJ,D⟩
 refine Tot.bif (λ_=>?_) λ_=>?_
 · exact Tot.bind (CC M.2.re' _) λv O=>Tot.ix ⟨A,AC⟩ λs E=>Tot.mk ⟨J,by simp [XT]; omega,AJ,uT D (D s E)⟩
 refine Tot.bif (λ_=>?_) λ_=>?_
 · refine Tot.ix ⟨A,AC⟩ λs E=>?_
   have:=N s E
   unfold WO
   rw [KO AJ,AB,AB]
   refine Tot.ap AJ (Tot.ap AJ (Tot.mk ⟨J,AJ,AJ,λc L=>?_⟩))
   rcases List.mem_append.1 L with L | L
   · exact D c L
   · rw [List.mem_singleton.1 L]; simp; omega
 refine Tot.bif (λ_=>?_) λ_=>?_
 · exact Tot.bind (R3 M.2.re' _ AD) λv O=>Tot.ix ⟨A,AC⟩ λs E=>Tot.mk ⟨J,AJ,by simp [XT]; omega,D⟩
 · exact Tot.mk ⟨J,AJ,AJ,D⟩
def tS (l:List Box) (o y z:Int):List Int→Int→List (Int×Spot)
 | [],_=>[]
 | b::bs,x=>(b,⟨o,x,y,z⟩)::tS l o y z bs (x+(KX l b).fW)
def tm (l:List Box) (sh:List Shelf) (o z:Int):List Int→Int→List (Int×Spot)
 | [],_=>[]
 | j::js,y=>tS l o y z (LM sh j).f7 0++tm l sh o z js (y+(LM sh j).fD)
def ng (l:List Box) (sh:List Shelf) (ly:List Layer) (o:Int):List Int→Int→List (Int×Spot)
 | [],_=>[]
 | i::is,z=>tm l sh o z (MA ly i).fM 0++ng l sh ly o is (z+(MA ly i).fH)
def lm (l:List Box) (sh:List Shelf) (ly:List Layer) (ld:List Load):List Int→List (Int×Spot)
 | []=>[]
 | o::os=>ng l sh ly o (na ld o).f0 0++lm l sh ly ld os
def mc (out:List Spot) (p:Int×Spot):List Spot:=DB out p.1 p.2
theorem sY (l:List Box) (o y z:Int):∀ (is:List Int) (s:List Spot×Int),(qY l o y z is s).1=(tS l o y z is s.2).foldl mc s.1
 | [],s=>rfl
 | b::is,s=>by
  show (qY l o y z is (DB s.1 b ⟨o,s.2,y,z⟩,s.2+(KX l b).fW)).1=_
  rw [sY l o y z is]; rfl
theorem sO (l:List Box) (sh:List Shelf) (o z:Int):∀ (A:List Int) (s:List Spot×Int),(qW l sh o z A s).1=(tm l sh o z A s.2).foldl mc s.1
 | [],s=>rfl
 | j::A,s=>by
  show (qW l sh o z A ((qY l o s.2 z (LM sh j).f7 (s.1,0)).1,s.2+(LM sh j).fD)).1=_
  rw [sO l sh o z A,sY,tm,List.foldl_append]
theorem sX (l:List Box) (sh:List Shelf) (ly:List Layer) (o:Int):∀ (is:List Int) (s:List Spot×Int),(tO l sh ly o is s).1=(ng l sh ly o is s.2).foldl mc s.1
 | [],s=>rfl
 | i::is,s=>by
  show (tO l sh ly o is ((qW l sh o s.2 (MA ly i).fM (s.1,0)).1,s.2+(MA ly i).fH)).1=_
  rw [sX l sh ly o is,sO,ng,List.foldl_append]
theorem s4 (l:List Box) (sh:List Shelf) (ly:List Layer) (ld:List Load):∀ (os:List Int) (out:List Spot),tT l sh ly ld os out=(lm l sh ly ld os).foldl mc out
 | [],out=>rfl
 | o::os,out=>by
  show tT l sh ly ld os (tO l sh ly o (na ld o).f0 (out,0)).1=_
  rw [s4 l sh ly ld os,sX,lm,List.foldl_append]
theorem ou (l:List Box) (o y z:Int):∀ (is:List Int) (x:Int),(tS l o y z is x).map (·.1)=is
 | [],_=>rfl
 | b::is,x=>by rw [tS,List.map_cons,ou l o y z is]
theorem nW (l:List Box) (sh:List Shelf) (o z:Int):∀ (A:List Int) (y:Int),(tm l sh o z A y).map (·.1)=(A.map λj=>(LM sh j).f7).flatten
 | [],_=>rfl
 | j::A,y=>by rw [tm,List.map_append,ou,nW l sh o z A,List.map_cons,List.flatten_cons]
theorem ep (l:List Box) (sh:List Shelf) (ly:List Layer) (o:Int):∀ (is:List Int) (z:Int),(ng l sh ly o is z).map (·.1)=(((is.map λi=>(MA ly i).fM).flatten).map λj=>(LM sh j).f7).flatten
 | [],_=>rfl
 | i::is,z=>by rw [ng,List.map_append,nW,ep l sh ly o is,List.map_cons,List.flatten_cons,List.map_append,List.flatten_append]
theorem n2 (l:List Box) (sh:List Shelf) (ly:List Layer) (ld:List Load):∀ (os:List Int),(lm l sh ly ld os).map (·.1)=(((((os.map λo=>(na ld o).f0).flatten).map λi=>(MA ly i).fM).flatten).map λj=>(LM sh j).f7).flatten
 | []=>rfl
 | o::os=>by rw [lm,List.map_append,ep,n2 l sh ly ld os,List.map_cons,List.flatten_cons,List.map_append,List.flatten_append,List.map_append,List.flatten_append]
theorem bD {α β:Type} (l:List α) (d:α) (f:α→β):(BW 0 l.length).map (λp=>f ((ix l p).getD d))=l.map f:=by
 have D:∀ (A pre:List α),l=pre++A→(BW pre.length A.length).map (λp=>f ((ix l p).getD d))=A.map f:=by
  intro A
  induction A with
  | nil=>intro pre _; rfl
  | cons x A M =>
   intro pre J
   have E:=M (pre++[x]) (by simp [J])
   have L:ix l (pre.length:Int)=some x:=by rw [EG,J]; simp
   rw [List.length_cons]
   unfold BW
   rw [List.map_cons,List.map_cons,L]
   have N:(((pre++[x]).length:Nat):Int)=(pre.length:Int)+1:=AD
   rw [N] at E
   rw [E]; rfl
 exact D l [] rfl
structure ShQ (l:List Box) (s:Shelf):Prop where
 w:s.fW=HW (s.f7.map λi=>(KX l i).fW)
 m:∀ i∈s.f7,(KX l i).fD≤s.fD∧(KX l i).fH≤s.fH
 g:s.fQ=HW (s.f7.map λi=>(KX l i).fQ)
theorem n9 (p:Pallet) (l:List Box):∀ (is:List Int) (out:List Shelf),(∀ s∈out,ShQ l s)→∀ s∈is.foldl (j1 p l) out,ShQ l s
 | [],_,h=>h
 | i::is,out,h=>by
  rw [List.foldl_cons]
  refine n9 p l is _ (ZU h (λs D _=>?_) ?_)
  · have J:=W6 s.fD (KX l i).fD
    have E:=W6 s.fH (KX l i).fH
    refine ⟨?_,λj A=>?_,?_⟩
    · simp only [KA,List.map_append,LL,D.w,List.map_cons,List.map_nil,ED,XQ]; omega
    · simp only [KA,List.mem_append,List.mem_singleton] at A ⊢
      rcases A with A | rfl
      · have:=D.m j A; omega
      · omega
    · simp only [KA,List.map_append,LL,D.g,List.map_cons,List.map_nil,ED,XQ]; omega
  · have J:=W6 0 (KX l i).fD
    have E:=W6 0 (KX l i).fH
    refine ⟨by simp [KA,b9],λj A=>?_,by simp [KA,b9]⟩
    simp only [KA,b9,List.nil_append,List.mem_singleton] at A ⊢
    subst A; omega
structure LyQ (sh:List Shelf) (x:Layer):Prop where
 d:x.fD=HW (x.fM.map λj=>(LM sh j).fD)
 m:∀ j∈x.fM,(LM sh j).fH≤x.fH
 g:x.fQ=HW (x.fM.map λj=>(LM sh j).fQ)
theorem n4 (p:Pallet) (l:List Shelf):∀ (is:List Int) (out:List Layer),(∀ s∈out,LyQ l s)→∀ s∈is.foldl (j5 p l) out,LyQ l s
 | [],_,h=>h
 | i::is,out,h=>by
  rw [List.foldl_cons]
  refine n4 p l is _ (ZU h (λs D _=>?_) ?_)
  · have E:=W6 s.fH (LM l i).fH
    refine ⟨?_,λj A=>?_,?_⟩
    · simp only [Lq,List.map_append,LL,D.d,List.map_cons,List.map_nil,ED,XQ]; omega
    · simp only [Lq,List.mem_append,List.mem_singleton] at A ⊢
      rcases A with A | rfl
      · have:=D.m j A; omega
      · omega
    · simp only [Lq,List.map_append,LL,D.g,List.map_cons,List.map_nil,ED,XQ]; omega
  · have E:=W6 0 (LM l i).fH
    refine ⟨by simp [Lq,aG],λj A=>?_,by simp [Lq,aG]⟩
    simp only [Lq,aG,List.nil_append,List.mem_singleton] at A ⊢
    subst A; omega
structure LdQ (ly:List Layer) (x:Load):Prop where
 h:x.fH=HW (x.f0.map λj=>(MA ly j).fH)
 g:x.fQ=HW (x.f0.map λj=>(MA ly j).fQ)
theorem oa (p:Pallet) (l:List Layer):∀ (is:List Int) (out:List Load),(∀ s∈out,LdQ l s)→∀ s∈is.foldl (kR p l) out,LdQ l s
 | [],_,h=>h
 | i::is,out,h=>by
  rw [List.foldl_cons]
  refine oa p l is _ (ZU h (λs A _=>?_) ⟨by simp [OO,aS],by simp [OO,aS]⟩)
  refine ⟨?_,?_⟩
  · simp only [OO,List.map_append,LL,A.h,List.map_cons,List.map_nil,ED,XQ]; omega
  · simp only [OO,List.map_append,LL,A.g,List.map_cons,List.map_nil,ED,XQ]; omega
def Apt (b:Box) (s:Spot) (c:Box) (t:Spot):Prop:=s.fJ≠t.fJ∨(s.fX+b.fW≤t.fX∨t.fX+c.fW≤s.fX)∨(s.fY+b.fD≤t.fY∨t.fY+c.fD≤s.fY)∨(s.fZ+b.fH≤t.fZ∨t.fZ+c.fH≤s.fZ)
theorem Apt.symm {b c:Box} {s t:Spot} (h:Apt b s c t):Apt c t b s:=by unfold Apt at h ⊢; omega
structure Geo (p:Pallet) (l:List Box) (sh:List Shelf) (ly:List Layer) (ld:List Load):Prop where
 b:∀ j∈BW 0 sh.length,ShQ l (LM sh j)∧ShI p l.length (LM sh j)
 s:∀ i∈BW 0 ly.length,LyQ sh (MA ly i)∧LyI p sh.length (MA ly i)
 y:∀ o∈BW 0 ld.length,LdQ ly (na ld o)∧LdI p ly.length (na ld o)
 ok:Xn p l=true
section
variable {p:Pallet} {l:List Box} {sh:List Shelf} {ly:List Layer} {ld:List Load}
theorem kh (o y z:Int):∀ (is:List Int) (x:Int),(∀ i∈is,1≤(KX l i).fW)→∀ q∈tS l o y z is x,q.1∈is∧q.2.fJ=o∧q.2.fY=y∧q.2.fZ=z∧x≤q.2.fX∧q.2.fX+(KX l q.1).fW≤x+HW (is.map λi=>(KX l i).fW)
 | [],_,_,q,A=>by simp [tS] at A
 | b::is,x,h,q,A=>by
  have N:=h b AD
  have M:0≤HW (is.map λi=>(KX l i).fW):=aW _ _ λi hi=>by have:=h i (by simp [hi]); omega
  rw [List.map_cons,ED]
  rw [tS] at A
  rcases List.mem_cons.1 A with rfl | A
  · exact ⟨AD,rfl,rfl,rfl,Int.le_refl _,by show x+(KX l b).fW≤_; omega⟩
  · obtain ⟨E,D,L,J,_,_⟩:=kh o y z is _ (λi hi=>h i (by simp [hi])) q A
    exact ⟨by simp [E],D,L,J,AC,AC⟩
def lu (l:List Box) (a c:Int×Spot):Prop:=Apt (KX l a.1) a.2 (KX l c.1) c.2
theorem rK (o y z:Int):∀ (is:List Int) (x:Int),(∀ i∈is,1≤(KX l i).fW)→(tS l o y z is x).Pairwise (lu l)
 | [],_,_=>List.Pairwise.nil
 | b::is,x,h=>by
  rw [tS]
  refine List.Pairwise.cons (λq A=>?_) (rK o y z is _ λi hi=>h i (by simp [hi]))
  obtain ⟨_,_,_,_,D,_⟩:=kh o y z is _ (λi hi=>h i (by simp [hi])) q A
  exact .inr (.inl (.inl D))
theorem lh (E:Geo p l sh ly ld) (o z H:Int):∀ (D:List Int) (y:Int),(∀ j∈D,j∈BW 0 sh.length∧(LM sh j).fH≤H)→∀ q∈tm l sh o z D y,q.2.fJ=o∧q.2.fZ=z∧(KX l q.1).fH≤H∧0≤q.2.fX∧q.2.fX+(KX l q.1).fW≤p.fW∧y≤q.2.fY∧q.2.fY+(KX l q.1).fD≤y+HW (D.map λj=>(LM sh j).fD)
 | [],_,_,q,A=>by simp [tm] at A
 | j::D,y,h,q,A=>by
  obtain ⟨U,_⟩:=h j AD
  obtain ⟨T,L⟩:=E.b j U
  have h0:0≤HW (D.map λj=>(LM sh j).fD):=aW _ _ λi hi=>by have:=(E.b i (h i (by simp [hi])).1).2.d; omega
  have hD:=L.d
  rw [List.map_cons,ED]
  rw [tm] at A
  rcases List.mem_append.1 A with A | A
  · obtain ⟨J,M,Q,O,N,V⟩:=kh o y z _ 0 (λi hi=>(Zl E.ok (L.inn i hi)).2.1.1) q A
    have Y:=T.m _ J
    have Z:=T.w
    have e:=L.w
    exact ⟨M,O,AC,N,AC,AC,AC⟩
  · obtain ⟨J,M,Q,O,N,V,Y⟩:=lh E o z H D _ (λi hi=>h i (by simp [hi])) q A
    exact ⟨J,M,Q,O,N,AC,AC⟩
theorem rQ (D:Geo p l sh ly ld) (o z H:Int):∀ (A:List Int) (y:Int),(∀ j∈A,j∈BW 0 sh.length∧(LM sh j).fH≤H)→(tm l sh o z A y).Pairwise (lu l)
 | [],_,_=>List.Pairwise.nil
 | j::A,y,h=>by
  obtain ⟨N,_⟩:=h j AD
  obtain ⟨M,E⟩:=D.b j N
  rw [tm]
  refine List.pairwise_append.2 ⟨rK o y z _ _ λi hi=>(Zl D.ok (E.inn i hi)).2.1.1,rQ D o z H A _ λi hi=>h i (by simp [hi]),λa O c J=>?_⟩
  obtain ⟨L,_,_,_,_,_⟩:=kh o y z _ 0 (λi hi=>(Zl D.ok (E.inn i hi)).2.1.1) a O
  obtain ⟨_,_,_,_,_,_,_⟩:=lh D o z H A _ (λi hi=>h i (by simp [hi])) c J
  have Q:=M.m _ L
  exact .inr (.inr (.inl (.inl AC)))
theorem aJ (D:Geo p l sh ly ld) (o:Int):∀ (is:List Int) (z:Int),(∀ i∈is,i∈BW 0 ly.length)→∀ q∈ng l sh ly o is z,q.2.fJ=o∧(0≤q.2.fX∧q.2.fX+(KX l q.1).fW≤p.fW)∧(0≤q.2.fY∧q.2.fY+(KX l q.1).fD≤p.fD)∧z≤q.2.fZ∧q.2.fZ+(KX l q.1).fH≤z+HW (is.map λi=>(MA ly i).fH)
 | [],_,_,q,A=>by simp [ng] at A
 | i::is,z,h,q,A=>by
  obtain ⟨N,J⟩:=D.s i (h i AD)
  have e:0≤HW (is.map λi=>(MA ly i).fH):=aW _ _ λk L=>by have:=(D.s k (h k (by simp [L]))).2.h; omega
  have hD:=J.h
  rw [List.map_cons,ED]
  rw [ng] at A
  rcases List.mem_append.1 A with A | A
  · obtain ⟨E,O,M,U,T,V,_⟩:=lh D o z _ _ 0 (λj Q=>⟨CF.2 (by have:=J.inn j Q; omega),N.m j Q⟩) q A
    have Y:=N.d
    have Z:=J.d
    exact ⟨E,⟨U,T⟩,⟨V,AC⟩,AC,AC⟩
  · obtain ⟨E,O,M,U,T⟩:=aJ D o is _ (λk L=>h k (by simp [L])) q A
    exact ⟨E,O,M,AC,AC⟩
theorem sE (D:Geo p l sh ly ld) (o:Int):∀ (is:List Int) (z:Int),(∀ i∈is,i∈BW 0 ly.length)→(ng l sh ly o is z).Pairwise (lu l)
 | [],_,_=>List.Pairwise.nil
 | i::is,z,h=>by
  obtain ⟨M,L⟩:=D.s i (h i AD)
  have A:∀ j∈(MA ly i).fM,j∈BW 0 sh.length∧(LM sh j).fH≤(MA ly i).fH:=λj E=>⟨CF.2 (by have:=L.inn j E; omega),M.m j E⟩
  rw [ng]
  refine List.pairwise_append.2 ⟨rQ D o z _ _ 0 A,sE D o is _ λk A=>h k (by simp [A]),λa N c J=>?_⟩
  obtain ⟨_,_,_,_⟩:=lh D o z _ _ 0 A a N
  obtain ⟨_,_,_,_,_⟩:=aJ D o is _ (λk A=>h k (by simp [A])) c J
  exact .inr (.inr (.inr (.inl AC)))
theorem fy (A:Geo p l sh ly ld) {o:Int} (D:o∈BW 0 ld.length):∀ i∈(na ld o).f0,i∈BW 0 ly.length:=λi hi=>CF.2 (by have:=(A.y o D).2.inn i hi; omega)
theorem kg (D:Geo p l sh ly ld):∀ (os:List Int),(∀ o∈os,o∈BW 0 ld.length)→∀ q∈lm l sh ly ld os,q.2.fJ∈os∧(0≤q.2.fX∧q.2.fX+(KX l q.1).fW≤p.fW)∧(0≤q.2.fY∧q.2.fY+(KX l q.1).fD≤p.fD)∧(0≤q.2.fZ∧q.2.fZ+(KX l q.1).fH≤p.fH)
 | [],_,q,A=>by simp [lm] at A
 | o::os,h,q,A=>by
  rw [lm] at A
  rcases List.mem_append.1 A with A | A
  · have L:=h o AD
    obtain ⟨J,E,T,M,_⟩:=aJ D o _ 0 (fy D L) q A
    obtain ⟨N,Q⟩:=D.y o L
    have U:=N.h
    have V:=Q.h
    exact ⟨by simp [J],E,T,M,AC⟩
  · obtain ⟨J,E⟩:=kg D os (λk O=>h k (by simp [O])) q A
    exact ⟨by simp [J],E⟩
theorem td (A:Geo p l sh ly ld):∀ (os:List Int),os.Nodup→(∀ o∈os,o∈BW 0 ld.length)→(lm l sh ly ld os).Pairwise (lu l)
 | [],_,_=>List.Pairwise.nil
 | o::os,hn,h=>by
  obtain ⟨n1,L⟩:=List.nodup_cons.1 hn
  have E:=h o AD
  rw [lm]
  refine List.pairwise_append.2 ⟨sE A o _ 0 (fy A E),td A os L λk D=>h k (by simp [D]),λa M c N=>?_⟩
  obtain ⟨J,_⟩:=aJ A o _ 0 (fy A E) a M
  obtain ⟨O,_⟩:=kg A os (λk D=>h k (by simp [D])) c N
  exact .inl λe=>n1 (by rw [← J,e]; exact O)
theorem jG (L:List (List Int)):HW L.flatten=HW (L.map HW):=by
 induction L with
 | nil=>rfl
 | cons x L A=>rw [List.flatten_cons,LL,A,List.map_cons,ED]
theorem zq (A:Geo p l sh ly ld) (o z:Int) (is:List Int) (h:∀ i∈is,i∈BW 0 ly.length):HW ((ng l sh ly o is z).map λq=>(KX l q.1).fQ)=HW (is.map λi=>(MA ly i).fQ):=by
 have e:(ng l sh ly o is z).map (λq=>(KX l q.1).fQ)=((ng l sh ly o is z).map (·.1)).map λi=>(KX l i).fQ:=by rw [List.map_map]; rfl
 rw [e,ep,List.map_flatten,jG,List.map_map,List.map_map,List.map_flatten,jG,List.map_map,List.map_map]
 congr 1
 refine List.map_congr_left λi hi=>?_
 obtain ⟨L,J⟩:=A.s i (h i hi)
 rw [L.g]
 show HW _=_
 congr 1
 refine List.map_congr_left λj D=>?_
 obtain ⟨E,_⟩:=A.b j (CF.2 (by have:=J.inn j D; omega))
 rw [E.g]; rfl
theorem wb (A:Geo p l sh ly ld) (k:Int):∀ (os:List Int),os.Nodup→(∀ o∈os,o∈BW 0 ld.length)→HW (((lm l sh ly ld os).filter λq=>q.2.fJ==k).map λq=>(KX l q.1).fQ)≤p.fQ
 | [],_,_=>by
  have:=W8 (ZY A.ok)
  simp [lm]; omega
 | o::os,hn,h=>by
  obtain ⟨n1,L⟩:=List.nodup_cons.1 hn
  have D:=h o AD
  rw [lm,List.filter_append]
  by_cases e:o=k
  · subst e
    rw [List.filter_eq_self.2 λq E=>by simp [(aJ A o _ 0 (fy A D) q E).1],List.filter_eq_nil_iff.2 λq E=>by
     have:=(kg A os (λk J=>h k (by simp [J])) q E).1
     intro e
     rw [beq_iff_eq] at e
     exact n1 (e ▸ this),List.append_nil,zq A _ _ _ (fy A D),← (A.y o D).1.g]
    exact (A.y o D).2.g.2
  · rw [List.filter_eq_nil_iff.2 λq E=>by simp [(aJ A o _ 0 (fy A D) q E).1,e],List.nil_append]
    exact wb A k os L λk J=>h k (by simp [J])
theorem oK (A:Geo p l sh ly ld):∀ (os:List Int),(∀ o∈os,o∈BW 0 ld.length)→∀ o∈os,∃ q∈lm l sh ly ld os,q.2.fJ=o
 | [],_,o,D=>by simp at D
 | a::os,h,o,D=>by
  rw [lm]
  rcases List.mem_cons.1 D with rfl | D
  · obtain ⟨_,Q⟩:=A.y o (h o AD)
    obtain ⟨i,hi⟩:=List.exists_mem_of_ne_nil _ Q.ne
    have E:=fy A (h o AD)
    obtain ⟨_,L⟩:=A.s i (E i hi)
    obtain ⟨j,M⟩:=List.exists_mem_of_ne_nil _ L.ne
    obtain ⟨_,N⟩:=A.b j (CF.2 (by have:=L.inn j M; omega))
    obtain ⟨b,O⟩:=List.exists_mem_of_ne_nil _ N.ne
    have:b∈(ng l sh ly o (na ld o).f0 0).map (·.1):=by
     rw [ep]
     exact List.mem_flatten.2 ⟨_,List.mem_map.2 ⟨j,List.mem_flatten.2 ⟨_,List.mem_map.2 ⟨i,hi,rfl⟩,M⟩,rfl⟩,O⟩
    obtain ⟨q,J,_⟩:=List.mem_map.1 this
    exact ⟨q,List.mem_append_left _ J,(aJ A o _ 0 E q J).1⟩
  · obtain ⟨q,J,e⟩:=oK A os (λk T=>h k (by simp [T])) o D
    exact ⟨q,List.mem_append_right _ J,e⟩
end
theorem qe {α:Type} (l:List α) {i j:Int} (y:α) (h:i≠j) (D:0≤i):ix (DB l i y) j=ix l j:=by
 unfold ix DB
 by_cases A:0≤j
 · rw [if_pos A,if_pos A,List.getElem?_set_ne AC]
 · rw [if_neg A,if_neg A]
theorem jv:∀ (P:List (Int×Spot)) (out:List Spot) (i:Int),(∀ q∈P,q.1≠i∧0≤q.1)→ix (P.foldl mc out) i=ix out i
 | [],_,_,_=>rfl
 | q::P,out,i,h=>by
  rw [List.foldl_cons,jv P _ i λr A=>h r (by simp [A])]
  exact qe _ _ (h q AD).1 (h q AD).2
theorem po:∀ (P:List (Int×Spot)) (out:List Spot),(P.map (·.1)).Nodup→(∀ q∈P,0≤q.1∧q.1<out.length)→∀ q∈P,ix (P.foldl mc out) q.1=some q.2
 | [],_,_,_,q,A=>by simp at A
 | a::P,out,hn,h,q,A=>by
  rw [List.map_cons] at hn
  obtain ⟨n1,E⟩:=List.nodup_cons.1 hn
  rw [List.foldl_cons]
  rcases List.mem_cons.1 A with rfl | A
  · rw [jv P _ q.1 λr D=>⟨λe=>n1 (List.mem_map.2 ⟨r,D,e⟩),(h r (by simp [D])).1⟩]
    obtain ⟨x,J⟩:=bh (l:=out) (h q AD).1 (h q AD).2
    exact DI _ J
  · exact po P _ E (λr D=>by
      have:=h r (by simp [D])
      rw [show (mc out a).length=out.length from ZS _ _ _]; exact this) q A
structure SpI (p:Pallet) (l:List Box) (S:List Spot) (N:Int):Prop where
 len:S.length=l.length
 ins:∀ q∈l.zip S,(0≤q.2.fJ∧q.2.fJ<N)∧(0≤q.2.fX∧q.2.fX+q.1.fW≤p.fW)∧(0≤q.2.fY∧q.2.fY+q.1.fD≤p.fD)∧(0≤q.2.fZ∧q.2.fZ+q.1.fH≤p.fH)
 apr:(l.zip S).Pairwise λa c=>Apt a.1 a.2 c.1 c.2
 occ:∀ k,0≤k→k<N→∃ q∈l.zip S,q.2.fJ=k
 grm:∀ k,HW (((l.zip S).filter λq=>q.2.fJ==k).map (·.1.fQ))≤p.fQ
 nn:0≤N∧N≤l.length
theorem nB {a b:List Int} (h:a.Perm b):HW a=HW b:=by
 induction h with
 | nil=>rfl
 | cons x _ E=>simp [E]
 | swap x y l=>simp only [ED]; omega
 | trans _ _ D A=>exact D.trans A
theorem s5 {α:Type} {R:α→α→Prop} (L:∀ x y,R x y→R y x) (M:∀ x,R x x):∀ (P:List α),P.Pairwise R→∀ x∈P,∀ y∈P,R x y
 | [],_,x,hx,_,_=>by simp at hx
 | a::P,h,x,hx,y,hy=>by
  obtain ⟨J,N⟩:=List.pairwise_cons.1 h
  rcases List.mem_cons.1 hx with ex | D
  · rcases List.mem_cons.1 hy with E | A
    · rw [ex,E]; exact M _
    · rw [ex]; exact J y A
  · rcases List.mem_cons.1 hy with E | A
    · rw [E]; exact L _ _ (J x D)
    · exact s5 L M P N x D y A
theorem w3 {p:Pallet} {l:List Box} (h:Xn p l=true):SpI p l (aF p l) (jo p (bl p (YV p l))).length:=by
 have hS:=ll h
 have hY:=kp hS
 obtain ⟨a1,a2,_⟩:=be h
 obtain ⟨b1,b2,_⟩:=bi hS
 obtain ⟨c1,c2,_⟩:=es hY
 have q1:∀ s∈YV p l,ShQ l s:=by
  unfold YV
  rw [h,cond_true]
  exact n9 p l _ _ AD
 have q2:∀ s∈bl p (YV p l),LyQ (YV p l) s:=n4 p _ _ _ AD
 have q3:∀ s∈jo p (bl p (YV p l)),LdQ (bl p (YV p l)) s:=oa p _ _ _ AD
 have e:aF p l=(lm l (YV p l) (bl p (YV p l)) (jo p (bl p (YV p l))) (BW 0 (jo p (bl p (YV p l))).length)).foldl mc (List.replicate l.length ry):=by
  unfold aF
  rw [h,cond_true,s4]
 have M:=eP h
 generalize Aj:YV p l=sh at *
 generalize Ag:bl p sh=ly at *
 generalize Ah:jo p ly=ld at *
 have A:∀ {α:Type} (L:List α) (d:α) (j:Int),j∈BW 0 L.length→(ix L j).getD d∈L:=λL d j E=>by
  have E:=CF.1 E
  obtain ⟨x,T⟩:=bh (l:=L) (i:=j) E.1 AC
  rw [T]; exact C8 T
 have U:Geo p l sh ly ld:=⟨λj E=>⟨q1 _ (A sh b9 j E),a1 _ (A sh b9 j E)⟩,λj E=>⟨q2 _ (A ly aG j E),b1 _ (A ly aG j E)⟩,λj E=>⟨q3 _ (A ld aS j E),c1 _ (A ld aS j E)⟩,h⟩
 have hf:(lm l sh ly ld (BW 0 ld.length)).map (·.1)=jt (ca (l.map (·.fD))) l.length:=by
  rw [n2]
  have Q:(BW 0 ld.length).map (λo=>(na ld o).f0)=ld.map (·.f0):=bD ld aS (·.f0)
  have e2:(BW 0 ly.length).map (λo=>(MA ly o).fM)=ly.map (·.fM):=bD ly aG (·.fM)
  have e3:(BW 0 sh.length).map (λo=>(LM sh o).f7)=sh.map (·.f7):=bD sh b9 (·.f7)
  rw [Q,c2,e2,b2,e3,a2]
 have Af:=kg U (BW 0 ld.length) λ_ h=>h
 have Aa:=td U (BW 0 ld.length) (O2 _ _) λ_ h=>h
 have Ae:=λk=>wb U k (BW 0 ld.length) (O2 _ _) λ_ h=>h
 have Ac:=oK U (BW 0 ld.length) λ_ h=>h
 generalize lm l sh ly ld (BW 0 ld.length)=P at *
 have D:(P.map (·.1)).Perm (BW 0 l.length):=by rw [hf]; exact XZ _ _
 have Ab:∀ q∈P,0≤q.1∧q.1<l.length:=λq N=>by
  have:=CF.1 (D.mem_iff.1 (List.mem_map.2 ⟨q,N,rfl⟩))
  omega
 have J:∀ q∈P,ix (aF p l) q.1=some q.2:=by
  rw [e]
  exact po P _ (D.nodup_iff.2 (O2 _ _)) (by simpa using Ab)
 generalize Ai:aF p l=S at *
 have hz:l.zip S=(BW 0 l.length).map λi=>(KX l i,(ix S i).getD ry):=by
  have Q:(BW 0 l.length).map (λi=>KX l i)=l:=by
   have:=bD l zBx (λx=>x)
   rwa [List.map_id'] at this
  have e2:(BW 0 l.length).map (λi=>(ix S i).getD ry)=S:=by
   have:=bD S ry (λx=>x)
   rwa [List.map_id',M] at this
  have:((BW 0 l.length).map (λi=>KX l i)).zip ((BW 0 l.length).map λi=>(ix S i).getD ry)=(BW 0 l.length).map λi=>(KX l i,(ix S i).getD ry):=by
   rw [List.zip_map']
  rw [← this,Q,e2]
 have Y:(l.zip S).Perm (P.map λq=>(KX l q.1,q.2)):=by
  have Q:P.map (λq=>(KX l q.1,q.2))=(P.map (·.1)).map λi=>(KX l i,(ix S i).getD ry):=by
   rw [List.map_map]
   exact List.map_congr_left λq N=>by simp [J q N]
  rw [hz,Q]
  exact (D.map _).symm
 refine ⟨M,λq N=>?_,?_,λk _ _=>?_,λk=>?_,AC,AC⟩
 · obtain ⟨a,V,rfl⟩:=List.mem_map.1 (Y.mem_iff.1 N)
   obtain ⟨h1,h2⟩:=Af a V
   have:=CF.1 h1
   exact ⟨by show 0≤a.2.fJ∧a.2.fJ<_; omega,h2⟩
 · rw [hz]
   refine List.pairwise_map.2 ((O2 0 l.length).imp_of_mem fun {i j} hi E Z=>?_)
   obtain ⟨a,V,rfl⟩:=List.mem_map.1 (D.mem_iff.2 hi)
   obtain ⟨c,hc,rfl⟩:=List.mem_map.1 (D.mem_iff.2 E)
   rw [J a V,J c hc]
   have Ad:∀ {x y:Int×Spot},x∈P→y∈P→x.1≠y.1→lu l x y:=by
    have hs:P.Pairwise λx y=>x.1≠y.1→lu l x y:=Aa.imp (S:=λx y=>x.1≠y.1→lu l x y) λh _=>h
    intro x y T hy
    exact s5 (R:=λx y=>x.1≠y.1→lu l x y) (λx y h O=>(h λe=>O e.symm).symm) (λx O=>absurd rfl O) P hs x T y hy
   exact Ad V hc Z
 · obtain ⟨q,N,e⟩:=Ac k (CF.2 AC)
   exact ⟨(KX l q.1,q.2),Y.mem_iff.2 (List.mem_map.2 ⟨q,N,rfl⟩),e⟩
 · have h1:=((Y.filter λq=>q.2.fJ==k).map (·.1.fQ))
   rw [nB h1,List.filter_map,List.map_map]
   exact Ae k
theorem pf {N:Int} (D:N≤1000000):∀ (l:List Spot) (n:Int),0≤n→n≤N→(∀ s∈l,0≤s.fJ∧s.fJ<N)→n≤l.foldl YH n∧l.foldl YH n≤N∧∀ s∈l,s.fJ+1≤l.foldl YH n
 | [],n,_,h,_=>⟨Int.le_refl _,h,AD⟩
 | s::l,n,h0,h1,h=>by
  have J:=h s AD
  have e:YH n s=if s.fJ+1>n then s.fJ+1 else n:=by
   unfold YH
   rw [show CW s.fJ 0 999999=true from BS.2 AC,cond_true]
  have E:n≤YH n s∧YH n s≤N∧s.fJ+1≤YH n s:=by rw [e]; split <;> omega
  rw [List.foldl_cons]
  obtain ⟨a,b,c⟩:=pf D l (YH n s) AC E.2.1 λt A=>h t (by simp [A])
  refine ⟨AC,b,λt A=>?_⟩
  rcases List.mem_cons.1 A with rfl | A
  · omega
  · exact c t A
theorem rV {S:List Spot} {N:Int} (A:0≤N∧N≤1000000) (h:∀ s∈S,0≤s.fJ∧s.fJ<N) (E:∀ k,0≤k→k<N→∃ s∈S,s.fJ=k):TT S=N:=by
 obtain ⟨a,b,c⟩:=pf A.2 S 0 (Int.le_refl _) A.1 h
 unfold TT
 by_cases J:N=0
 · omega
 · obtain ⟨s,D,e⟩:=E (N - 1) AC AC
   have:=c s D
   omega
theorem oz {α β:Type} {a:List α} {b:List β} (h:b.length=a.length) {y:β} (A:y∈b):∃ q∈a.zip b,q.2=y:=by
 obtain ⟨i,hi⟩:=List.mem_iff_getElem?.1 A
 have D:=(List.getElem?_eq_some_iff.1 hi).1
 exact ⟨(a[i]'(by omega),y),List.mem_iff_getElem?.2 ⟨i,List.getElem?_zip_eq_some.2 ⟨List.getElem?_eq_getElem _,hi⟩⟩,rfl⟩
theorem vo {p:Pallet} {l:List Box} {S:List Spot} {N:Int} (g:SpI p l S N) (hl:l.length≤1000):TT S=N:=by
 have h:=g.nn
 refine rV ⟨h.1,AC⟩ (λs D=>?_) λk J E=>?_
 · obtain ⟨q,A,rfl⟩:=oz g.len D
   exact (g.ins q A).1
 · obtain ⟨q,A,e⟩:=g.occ k J E
   exact ⟨q.2,(List.of_mem_zip A).2,e⟩
def inU (r:Request) (cs:List (List Int)):Prop:=∀ c∈cs,∀ y∈c,0≤y∧y<(CP r).length
theorem lN {c:List Int} {cs:List (List Int)} (h:c∈cs):c.length≤cs.flatten.length:=by
 induction cs with
 | nil=>simp at h
 | cons x D A =>
  rw [List.flatten_cons,List.length_append]
  rcases List.mem_cons.1 h with e | h
  · subst e; omega
  · have:=A h; omega
theorem qD {out:List (List Int)} {j u:Int} {c:List Int} (h:ix out j=some c):(DB out j (c++[u])).flatten.Perm (out.flatten++[u]):=by
 obtain ⟨_,_,A⟩:=AG h
 exact ZG A
structure Ez (r:Request) (k:Int) (c0:List Int) (T:List Int) (us:List Int) (out:List (List Int)):Prop where
 src:ix out k=some c0
 all:(out.flatten++us).Perm (T++c0)
 inn:inU r out
 inu:∀ u∈us,0≤u∧u<(CP r).length
 len:out.length≤12
 tot:(T++c0).length≤24
theorem Ez.step {r:Request} {k:Int} {J T us:List Int} {out:List (List Int)} {u j:Int} {c:List Int} (h:Ez r k J T (u::us) out) (E:ix out j=some c) (L:j≠k):Ez r k J T us (DB out j (c++[u])):=by
 obtain ⟨_,_,_⟩:=AG E
 obtain ⟨N,_,O⟩:=AG h.src
 refine ⟨?_,?_,?_,λv M=>h.inu v (by simp [M]),by unfold DB; simp; exact h.len,h.tot⟩
 · unfold ix DB
   rw [if_pos N,List.getElem?_set,if_neg AC]
   exact O
 · refine ((qD (u:=u) E).append_right us).trans ?_
   simpa using h.all
 · intro d D y A
   unfold DB at D
   rcases List.mem_or_eq_of_mem_set D with D | rfl
   · exact h.inn d D y A
   · rcases List.mem_append.1 A with A | A
     · exact h.inn c (C8 E) y A
     · rw [List.mem_singleton.1 A]; exact h.inu u AD
structure Rz (r:Request) (cs:List (List Int)):Prop where
 len:cs.length≤12
 tot:cs.flatten.length≤12
 inn:inU r cs
theorem Rz.ez {r:Request} {cs:List (List Int)} (h:Rz r cs) {k:Int} {c:List Int} (A:ix cs k=some c):Ez r k c cs.flatten c cs :=
 ⟨A,List.Perm.refl _,h.inn,h.inn c (C8 A),h.len,by have:=lN (C8 A); have:=h.tot; rw [List.length_append]; omega⟩
end Go.Proofs.YtdgpkmgnjdpieaaGreatDoor
