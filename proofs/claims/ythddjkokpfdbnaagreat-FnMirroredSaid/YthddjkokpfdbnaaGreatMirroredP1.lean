import Derived.Test.YthddjkokpfdbnaaGreatMirroredD
import Derived.Test.YthddjkokpfdbnaaGreatMirroredBP4
set_option linter.unusedSimpArgs false
set_option linter.unusedVariables false
/- The plain law of FnMirrored. -/
namespace Go.Proofs.YthddjkokpfdbnaaGreat
open Go
open Enc (rd ow)
open Arg (argv)
open Ret (retv)
open Wf (wf)
theorem Q83 {fu:Nat} {b:List U8} (hb:b.length ≤ 1048576) (hf:2097153 ≤ fu):Tot (Qmb fu b) fun x=>SmR x.1 ∧ SmP x.2:=by
 unfold Qmb Qey
 refine Tot.bind (Jfm hb hf) fun x hx=>Tot.bind (Q91 hb (by omega)) fun c hc=>?_
 obtain ⟨hr,p1,p2,p3⟩:=hx
 refine Tot.bif (fun h0=>?_) fun _=>Tot.mk ⟨hr,p1,p2,p3⟩
 have h0:(x.2.fU.length:Int) > 0:=by simpa using h0
 refine Tot.bif (fun _=>?_) fun _=>Tot.mk ⟨hr,p1,p2,p3⟩
 refine Tot.bind (Q1c hc.re' _) fun y hy=>Tot.bif (fun _=>?_) fun _=>Tot.mk ⟨hr,p1,p2,p3⟩
 have e:w64 ((x.2.fU.length:Int) - 1) = (x.2.fU.length:Int) - 1:=Qa8 (by omega) (by omega)
 rw [e]
 exact Tot.ix ⟨by omega,by omega⟩ fun s _=>Tot.bind (Qc0 hy.re' _) fun v hv=>Tot.ix ⟨by omega,by omega⟩ fun t _=>Tot.mk ⟨hr,p1,by simp [Qhx]; omega,p3⟩
theorem Jal {fu:Nat} (l:List Int) (hl:l.length ≤ 1048576) (hf:l.length < fu):Qq0 fu l l = some true:=by
 unfold Qq0
 rw [Qbe (by simp)]
 refine lp l (fun n (_:Unit) i=>Qgy fu l l n i) (fun _ _=>some true) (by omega) ?_ ?_ fu () hf
 · intro n s i x xs hx hd ih
   simp only [Qgy.eq_2]
   unfold Qnc
   rw [hd,cond_true,hx,Qab,Qab,Qbe (by simp),ih ()]
 · intro n s i hd
   simp only [Qgy.eq_2]
   unfold Qnc
   rw [hd,cond_false]
theorem Q3n {fu:Nat} {x:Plan} (h:Sp x) (hf:1048577 ≤ fu):Qdx fu x x = some true:=by
 unfold Qdx Qnd
 rw [Qbe (by simp),Qbe (by simp)]
 have hL1:Qeh fu x x fu 0 = some true:=by
  refine lp x.fU (fun n (_:Unit) i=>Qeh fu x x n i) (fun _ _=>some true) (by have:=h.spots; omega) ?_ ?_ fu () (by have:=h.spots; omega)
  · intro n s i y xs hx hd ih
    simp only [Qeh.eq_2]
    unfold Qi9
    rw [hd,cond_true,hx,Qab,Qab,Qbe (by simp),ih ()]
  · intro n s i hd
    simp only [Qeh.eq_2]
    unfold Qi9
    rw [hd,cond_false]
 refine lp x.fJ (fun n (_:Unit) i=>Qem fu x x n i) (fun _ _=>some true) (by have:=h.cars; omega) ?_ ?_ fu () (by have:=h.cars; omega)
 · intro n s i y xs hx hd ih
   have hu:=h.units y (Qeg hx)
   simp only [Qem.eq_2]
   unfold Qjc Qne
   rw [hd,cond_true]
   simp only [hx,Qab,bne_self_eq_false,cond_false,Jal (fu:=fu) y.fM hu (by omega),Bool.not_true]
   exact ih ()
 · intro n s i hd
   simp only [Qem.eq_2]
   unfold Qjc
   rw [hd,cond_false]; exact hL1
theorem Qw8 {r:Request} {p:Carton × Spot} (h:Q2f r p = true):(0 < (Qjb r p.1).fW ∧ 0 < (Qjb r p.1).fD ∧ 0 < (Qjb r p.1).fH) ∧ ((Qjb r p.1).fW ≤ 2000 ∧ (Qjb r p.1).fD ≤ 2000 ∧ (Qjb r p.1).fH ≤ 2000) ∧ (0 ≤ p.2.fX ∧ 0 ≤ p.2.fY ∧ 0 ≤ p.2.fZ) ∧ (p.2.fX ≤ 2000 ∧ p.2.fY ≤ 2000 ∧ p.2.fZ ≤ 2000) ∧ p.2.fX + (Qjb r p.1).fW ≤ r.fQ.fW ∧ p.2.fY + (Qjb r p.1).fD ≤ r.fQ.fD ∧ p.2.fZ + (Qjb r p.1).fH ≤ r.fQ.fH:=by
 unfold Q2f Q99 Q2w at h
 simp only [Bool.and_eq_true,Qc7,decide_eq_true_eq] at h
 obtain ⟨⟨k1,k2,k3,k4,k5,k6⟩,h1,h2,h3,h4,h5,h6⟩:=h
 rw [Qa8 (by omega) (by omega)] at h4 h5 h6
 omega
theorem Jb6 {r:Request} {x:Plan} (hf:Qz1 r x = true):(Qz1 r (Qns r x (Qzt r)) = true ∧ cs (Qns r x (Qzt r)) = (cs x).map fun p=>(p.1,Qzt r (Qjb r p.1) p.2)) ∧ (Qz1 r (Qns r x (Q0p r)) = true ∧ cs (Qns r x (Q0p r)) = (cs x).map fun p=>(p.1,Q0p r (Qjb r p.1) p.2)):=by
 have hp:Qx4 r.fQ = true:=by
  have:=(Qfb (Qzj.1 hf).c).1
  unfold Q2x at this
  simp only [Bool.and_eq_true] at this
  simp_all
 simp only [Qx4,Bool.and_eq_true,Qc7] at hp
 obtain ⟨w1,w2,w3,_⟩:=hp
 constructor
 · refine Q5y hf (Qzt r) (fun b s=>rfl) (fun p hp hi hs=>?_) fun p hp q hq hi hj ho=>?_
   · obtain ⟨a1,a2,a3,a4,a5,a6,a7⟩:=Qw8 hi
     have e:w64 (w64 (r.fQ.fW - p.2.fX) - (Qjb r p.1).fW) = r.fQ.fW - p.2.fX - (Qjb r p.1).fW:=by rw [Qa8 (n:=r.fQ.fW - p.2.fX) (by omega) (by omega),Qa8 (by omega) (by omega)]
     unfold Qzt
     rw [e]
     constructor
     · unfold Q97 at hs ⊢
       simp only [Bool.and_eq_true,Qc7] at hs ⊢
       omega
     · unfold Q2f Q99 Q2w
       simp only [Bool.and_eq_true,Qc7,decide_eq_true_eq]
       rw [Qa8 (by omega) (by omega),Qa8 (by omega) (by omega),Qa8 (by omega) (by omega)]
       omega
   · obtain ⟨a1,a2,a3,a4,a5,a6,a7⟩:=Qw8 hi
     obtain ⟨b1,b2,b3,b4,b5,b6,b7⟩:=Qw8 hj
     have e:w64 (w64 (r.fQ.fW - p.2.fX) - (Qjb r p.1).fW) = r.fQ.fW - p.2.fX - (Qjb r p.1).fW:=by rw [Qa8 (n:=r.fQ.fW - p.2.fX) (by omega) (by omega),Qa8 (by omega) (by omega)]
     have e':w64 (w64 (r.fQ.fW - q.2.fX) - (Qjb r q.1).fW) = r.fQ.fW - q.2.fX - (Qjb r q.1).fW:=by rw [Qa8 (n:=r.fQ.fW - q.2.fX) (by omega) (by omega),Qa8 (by omega) (by omega)]
     rw [← Bool.not_eq_true] at ho ⊢
     intro h
     apply ho
     unfold Qzt at h
     rw [e,e'] at h
     unfold ovP Ja6 Q61 Q2w at h ⊢
     simp only [Bool.and_eq_true,Qc7,decide_eq_true_eq] at h ⊢
     obtain ⟨h1,h2,h3,⟨h4,h5⟩,h6,h7⟩:=h
     rw [Qa8 (by omega) (by omega)] at h4 h5
     refine ⟨by omega,by omega,h3,⟨?_,?_⟩,h6,h7⟩
     · rw [Qa8 (by omega) (by omega)]; omega
     · rw [Qa8 (by omega) (by omega)]; omega
 · refine Q5y hf (Q0p r) (fun b s=>rfl) (fun p hp hi hs=>?_) fun p hp q hq hi hj ho=>?_
   · obtain ⟨a1,a2,a3,a4,a5,a6,a7⟩:=Qw8 hi
     have e:w64 (w64 (r.fQ.fD - p.2.fY) - (Qjb r p.1).fD) = r.fQ.fD - p.2.fY - (Qjb r p.1).fD:=by rw [Qa8 (n:=r.fQ.fD - p.2.fY) (by omega) (by omega),Qa8 (by omega) (by omega)]
     unfold Q0p
     rw [e]
     constructor
     · unfold Q97 at hs ⊢
       simp only [Bool.and_eq_true,Qc7] at hs ⊢
       omega
     · unfold Q2f Q99 Q2w
       simp only [Bool.and_eq_true,Qc7,decide_eq_true_eq]
       rw [Qa8 (by omega) (by omega),Qa8 (by omega) (by omega),Qa8 (by omega) (by omega)]
       omega
   · obtain ⟨a1,a2,a3,a4,a5,a6,a7⟩:=Qw8 hi
     obtain ⟨b1,b2,b3,b4,b5,b6,b7⟩:=Qw8 hj
     have e:w64 (w64 (r.fQ.fD - p.2.fY) - (Qjb r p.1).fD) = r.fQ.fD - p.2.fY - (Qjb r p.1).fD:=by rw [Qa8 (n:=r.fQ.fD - p.2.fY) (by omega) (by omega),Qa8 (by omega) (by omega)]
     have e':w64 (w64 (r.fQ.fD - q.2.fY) - (Qjb r q.1).fD) = r.fQ.fD - q.2.fY - (Qjb r q.1).fD:=by rw [Qa8 (n:=r.fQ.fD - q.2.fY) (by omega) (by omega),Qa8 (by omega) (by omega)]
     rw [← Bool.not_eq_true] at ho ⊢
     intro h
     apply ho
     unfold Q0p at h
     rw [e,e'] at h
     unfold ovP Ja6 Q61 Q2w at h ⊢
     simp only [Bool.and_eq_true,Qc7,decide_eq_true_eq] at h ⊢
     obtain ⟨h1,h2,h3,h6,⟨h4,h5⟩,h7⟩:=h
     rw [Qa8 (by omega) (by omega)] at h4 h5
     refine ⟨by omega,by omega,h3,h6,⟨?_,?_⟩,h7⟩
     · rw [Qa8 (by omega) (by omega)]; omega
     · rw [Qa8 (by omega) (by omega)]; omega
theorem Qt7 {r:Request} {x:Plan} {f:Box → Spot → Spot} (hf:Qz1 r x = true):Qns r x f = ⟨x.fJ,(cs x).map fun p=>f (Qjb r p.1) p.2⟩:=by unfold Qns; rw [hf]; rfl
theorem Jae {r:Request} {x:Plan} (hf:Qz1 r x = true):Qns r (Qns r x (Qzt r)) (Qzt r) = x ∧ Qns r (Qns r x (Q0p r)) (Q0p r) = x ∧ Qns r (Qns r x (Qzt r)) (Q0p r) = Qns r (Qns r x (Q0p r)) (Qzt r):=by
 obtain ⟨⟨m1,m2⟩,f1,f2⟩:=Jb6 hf
 have el:=Qut hf
 have hins:∀ p ∈ cs x,Q2f r p = true:=fun p hp=>List.all_eq_true.1 (Qzj.1 hf).ins p hp
 have hp:Qx4 r.fQ = true:=by
  have:=(Qfb (Qzj.1 hf).c).1
  unfold Q2x at this
  simp only [Bool.and_eq_true] at this
  simp_all
 simp only [Qx4,Bool.and_eq_true,Qc7] at hp
 refine ⟨?_,?_,?_⟩
 · rw [Qt7 m1,m2,List.map_map]
   have e:(cs x).map ((fun p=>Qzt r (Qjb r p.1) p.2) ∘ fun p=>(p.1,Qzt r (Qjb r p.1) p.2)) = (cs x).map (·.2):=List.map_congr_left fun p hpm=>by
    obtain ⟨a1,a2,a3,a4,a5,a6,a7⟩:=Qw8 (hins p hpm)
    show Qzt r (Qjb r p.1) (Qzt r (Qjb r p.1) p.2) = p.2
    unfold Qzt
    rw [Qa8 (n:=r.fQ.fW - p.2.fX) (by omega) (by omega),Qa8 (n:=r.fQ.fW - p.2.fX - _) (by omega) (by omega)]
    simp only
    rw [Qa8 (n:=r.fQ.fW - _) (by omega) (by omega),Qa8 (by omega) (by omega)]
    rw [show r.fQ.fW - (r.fQ.fW - p.2.fX - (Qjb r p.1).fW) - (Qjb r p.1).fW = p.2.fX by omega]
   rw [e,Quy el,Qt7 hf]
 · rw [Qt7 f1,f2,List.map_map]
   have e:(cs x).map ((fun p=>Q0p r (Qjb r p.1) p.2) ∘ fun p=>(p.1,Q0p r (Qjb r p.1) p.2)) = (cs x).map (·.2):=List.map_congr_left fun p hpm=>by
    obtain ⟨a1,a2,a3,a4,a5,a6,a7⟩:=Qw8 (hins p hpm)
    show Q0p r (Qjb r p.1) (Q0p r (Qjb r p.1) p.2) = p.2
    unfold Q0p
    rw [Qa8 (n:=r.fQ.fD - p.2.fY) (by omega) (by omega),Qa8 (n:=r.fQ.fD - p.2.fY - _) (by omega) (by omega)]
    simp only
    rw [Qa8 (n:=r.fQ.fD - _) (by omega) (by omega),Qa8 (by omega) (by omega)]
    rw [show r.fQ.fD - (r.fQ.fD - p.2.fY - (Qjb r p.1).fD) - (Qjb r p.1).fD = p.2.fY by omega]
   rw [e,Quy el,Qt7 hf]
 · rw [Qt7 m1,Qt7 f1,m2,f2,List.map_map,List.map_map,Qt7 hf,Qt7 hf]
   rfl
theorem Qzl (b:List U8) (_:wf b):∃ fu,Qos fu b = some true:=by
 refine ⟨2097153,?_⟩
 unfold Qos
 rw [Jhv,Qab]
 by_cases hb:(b.length:Int) > 1048576
 · rw [Qcl (by simpa using hb)]
 rw [Qbe (by simpa using hb)]
 obtain ⟨y,hy,hr,hx⟩:=Q83 (fu:=2097153) (b:=b) (by omega) (by omega)
 obtain ⟨r,x⟩:=y
 have hr:SmR r:=hr
 have hx:SmP x:=hx
 have hs:=hr.sm (fu:=2097153) (by omega)
 have hp:=hx.sp
 have ha:=Q1x (r:=r) hp (Qzt r)
 have hb':=Q1x (r:=r) hp (Q0p r)
 unfold Qlc Qjo
 rw [hy,Qab,Qab]
 simp only [Jcm hs hp,Jct hs hp,Jgd hs hp,Jhg hs hp,Qab,Q3n (fu:=2097153) ha (by omega),Q3n (fu:=2097153) hb' (by omega),Bool.not_true,cond_false,Q73 hs hp]
 cases hf:Qz1 r x
 · have e1:Qns r x (Qzt r) = x:=by unfold Qns; rw [hf]; rfl
   have e2:Qns r x (Q0p r) = x:=by unfold Qns; rw [hf]; rfl
   rw [e1,e2,Bool.not_false,cond_true,Q3n (fu:=2097153) hp (by omega)]; rfl
 · obtain ⟨⟨m1,m2⟩,f1,f2⟩:=Jb6 hf
   obtain ⟨k1,k2,k3⟩:=Jae hf
   have hc:=Q1x (r:=r) hb' (Qzt r)
   simp only [Bool.not_true,cond_false,Q87 hs ha,Q87 hs hb',m1,f1,Qab,cond_true,Jcm hs ha,Jct hs hb',Jct hs ha,Jcm hs hb',k1,k2,k3,Q3n (fu:=2097153) hp (by omega),Q3n (fu:=2097153) hc (by omega)]
end Go.Proofs.YthddjkokpfdbnaaGreat
