import Derived.Test.YtkkfmjpbiimkbaaGreatCkdLawD
import Derived.Test.YtkkfmjpbiimkbaaGreatCkdLawBP4
set_option linter.unusedSimpArgs false
set_option linter.unusedVariables false
/- The plain law of FnChecked: what the checker lets pass is right. -/
namespace Go.Proofs.YtkkfmjpbiimkbaaGreat
open Go
open Enc (rd ow)
open Arg (argv)
open Ret (retv)
open Wf (wf)
theorem Jbo (r:Request) (x:Plan):Qz4 r x = 0 ∨ Qz4 r x = 1 ∨ Qz4 r x = 2 ∨ Qz4 r x = 3 ∨ Qz4 r x = 4 ∨ Qz4 r x = 5 ∨ Qz4 r x = 6 ∨ Qz4 r x = 7 ∨ Qz4 r x = 8 ∨ Qz4 r x = 9:=by
 unfold Qz4
 cases Qhm r == 0
 · simp
 cases Q38 x
 · simp
 cases Q9p x <;> cases Qzd r x <;> cases x.fCartons.all (chB r) <;> cases x.fCartons.all (cgB r) <;> cases x.fCartons.all (ccB r) <;> cases (cs x).all (Q65 r) <;> cases Q2t r [] (cs x) <;> cases (Qka 0 (Qv4 x.fSpots).toNat).all (plB r x) <;> simp
theorem Jd5 {r:Request} {x:Plan} (h:Qz4 r x = 0):Qhm r = 0 ∧ Q38 x = true ∧ Q9p x = false ∧ Qzd r x = true ∧ x.fCartons.all (chB r) = true ∧ x.fCartons.all (cgB r) = true ∧ x.fCartons.all (ccB r) = true ∧ (cs x).all (Q65 r) = true ∧ Q2t r [] (cs x) = true ∧ (Qka 0 (Qv4 x.fSpots).toNat).all (plB r x) = true:=by
 unfold Qz4 at h
 cases h1:Qhm r == 0
 · rw [h1] at h; simp at h
 cases h2:Q38 x
 · rw [h1,h2] at h; simp at h
 cases h3:Q9p x <;> cases h4:Qzd r x <;> cases h5:x.fCartons.all (chB r) <;> cases h6:x.fCartons.all (cgB r) <;> cases h7:x.fCartons.all (ccB r) <;> cases h8:(cs x).all (Q65 r) <;> cases h9:Q2t r [] (cs x) <;> cases h10:(Qka 0 (Qv4 x.fSpots).toNat).all (plB r x) <;> rw [h1,h2,h3,h4,h5,h6,h7,h8,h9,h10] at h <;> first | (exact ⟨by simpa using h1,rfl,rfl,rfl,rfl,rfl,rfl,rfl,rfl,rfl⟩) | (simp at h)
theorem Jay {r:Request}:∀ (l pre:List (Carton × Spot)),Q2t r pre l = true → ∀ (i:Nat) (p:Carton × Spot),l[i]? = some p → ∀ q ∈ pre ++ l.take i,ovP r p q = false
 | [],_,_,i,p,h,_,_=>by simp at h
 | y :: l,pre,ha,i,p,h,q,hq=>by
  simp only [Q2t,Bool.and_eq_true] at ha
  cases i with
  | zero =>
   simp only [List.getElem?_cons_zero,Option.some.injEq] at h
   subst h
   have:=List.all_eq_true.1 ha.1 q (by simpa using hq)
   simpa using this
  | succ i =>
   refine Jay l (pre ++ [y]) ha.2 i p (by simpa using h) q ?_
   simpa using hq
theorem Jd0 {x:Plan} (el:x.fSpots.length = x.fCartons.length) {i:Int} (h:0 ≤ i ∧ i < x.fCartons.length):∃ c s,ix x.fCartons i = some c ∧ ix x.fSpots i = some s ∧ (cs x)[i.toNat]? = some (c,s) ∧ c ∈ x.fCartons ∧ (c,s) ∈ cs x:=by
 obtain ⟨c,hc⟩:=Q3p (l:=x.fCartons) h.1 h.2
 obtain ⟨s,hs⟩:=Q3p (l:=x.fSpots) h.1 (by omega)
 have h1:=(Qas hc).2.2
 have h2:=(Qas hs).2.2
 have h3:(cs x)[i.toNat]? = some (c,s):=by
  unfold cs
  rw [List.getElem?_zip_eq_some]
  exact ⟨h1,h2⟩
 exact ⟨c,s,hc,hs,h3,Qe2 hc,List.mem_of_getElem? h3⟩
theorem Jbl (fu:Nat) {k:Int} (h:k = 1 ∨ k = 2 ∨ k = 3 ∨ k = 4 ∨ k = 5 ∨ k = 6 ∨ k = 7 ∨ k = 8 ∨ k = 9):∃ t:ByteArray,Qh5 fu k = some t ∧ (t.toList == (⟨#[]⟩:ByteArray).toList) = false ∧ (t.toList == (⟨#[111,107]⟩:ByteArray).toList) = false:=by
 unfold Qh5
 rw [Q2q,Qab]
 rcases h with rfl | rfl | rfl | rfl | rfl | rfl | rfl | rfl | rfl
 all_goals exact ⟨_,rfl,by rw [Q1c,Q1c]; rfl,by rw [Q1c,Q1c]; rfl⟩
theorem Qzm (b:List U8) (_:wf b):∃ fu,Qpy fu b = some true:=by
 refine ⟨2097153,?_⟩
 unfold Qpy
 rw [Jf0,Qab]
 by_cases hb:(b.length:Int) > 1048576
 · rw [Qcm (by simpa using hb)]
 rw [Qbj (by simpa using hb)]
 obtain ⟨y,hy,hr,hp⟩:=Jei (fu:=2097153) (b:=b) (by omega) (by omega)
 obtain ⟨r,x⟩:=y
 have hr:SmR r:=hr
 have hp:SmP x:=hp
 have hs:=hr.sm (fu:=2097153) (by omega)
 have hx:=hp.sp
 obtain ⟨l1,l2,l3⟩:=hp
 unfold Qpw Qlr
 rw [hy,Qab,Qab]
 simp only [Q6k hs hx,Jbs hs hx,Qab,Jea hs hx,Je0]
 rw [Qbj (by simp),Qbj (by simp)]
 by_cases h0:Qz4 r x = 0
 rotate_left
 · obtain ⟨t,ht,t1,t2⟩:=Jbl 2097153 (k:=Qz4 r x) (by rcases Jbo r x with h | h <;> first | exact absurd h h0 | exact h)
   rw [Qcm (by simpa using h0),ht,Qab,t1,Qab,t2]; rfl
 obtain ⟨k1,k2,k3,k4,k5,k6,k7,k8,k9,k10⟩:=Jd5 h0
 have el:=Q0v k2
 rw [Qbj (by simp [h0])]
 have J2:Qhr 2097153 (r,x) = some true:=by
  unfold Qhr
  have hpb:=Q0m x.fSpots
  have L1:=Q82 (Qv4 x.fSpots) (fun n (_:Unit) k=>Qdx 2097153 (r,x) n k) (fun _ _=>some true) (fun ks _=>∀ k ∈ ks,plB r x k = true) (by omega) ?_ ?_ (Qv4 x.fSpots).toNat 2097153 () 0 (by omega) (by omega) (by omega) (fun k hk=>List.all_eq_true.1 k10 k hk)
  · exact L1
  · intro n s k ks q0 q1 hd hI ih
    have hk:=hI k (by simp)
    unfold plB at hk
    simp only [Bool.and_eq_true,Bool.not_eq_true'] at hk
    simp only [Qdx.eq_2]
    unfold Qig Qlh
    rw [Q64 (l:=x.fSpots) (by omega) (by omega),Qab,hd,cond_true,Jgw hs hx k,Qab,hk.2.1,cond_false,Jfc hx.spots (by omega),Qab,hk.1,cond_false]
    exact ih () fun j hj=>hI j (by simp [hj])
  · intro n s k hd _
    simp only [Qdx.eq_2]
    unfold Qig
    rw [Q64 (l:=x.fSpots) (by omega) (by omega),Qab,hd,cond_false,Jdo hs hx,Qab]
    have:Jen r x = []:=by
     unfold Jen
     refine List.filter_eq_nil_iff.2 fun u hu=>?_
     have:=(Q1l.1 k4).mem_iff.2 hu
     simp [this]
    rw [this]; rfl
 have L3:=lpN (x.fCartons.length:Int) (fun n (_:Unit) i=>Qb2 2097153 (r,x) n i) (fun _ _=>some true) (by omega) ?_ ?_ x.fCartons.length 2097153 () 0 (by omega) (by omega) (by omega)
 · exact L3
 · intro n s i is i0 i1 hd ih
   obtain ⟨c,sp,hc,hsp,hcs,hcm,hpm⟩:=Jd0 el ⟨i0,i1⟩
   have hcu:=l3 c hcm
   have hch:=List.all_eq_true.1 k5 c hcm
   have hin:=List.all_eq_true.1 k8 (c,sp) hpm
   unfold chB at hch
   simp only [Qb2.eq_2]
   unfold Qie
   rw [hd,cond_true,hc,Qab,Qt8 hs,Qab]
   cases ht:Qsh r c.fType with
   | none=>rw [ht] at hch; cases hch
   | some t =>
    rw [ht] at hch
    have hch:Qxm r c.fUnits t = true:=hch
    have e:Qwd (some t) = (t,true):=rfl
    rw [e]
    unfold Qks Qln
    rw [Bool.not_true,cond_false,hc,Qab,Q3i hs c.fUnits t (by omega),Qab,hch,Bool.not_true,cond_false,Qab,hsp,Qab,Q3u hs c (by omega),Qab,Jej,Qab]
    rw [show Jao r.fPallet (Qug r c) sp = true from hin,Bool.not_true,cond_false]
    have L2:=lpN i (fun m (_:Unit) k=>Qew 2097153 (Qb2 2097153 (r,x) n) (r,x) i m k) (fun _ _=>some true) (by omega) ?_ ?_ i.toNat 2097153 () 0 (by omega) (by omega) (by omega)
    · exact L2
    · intro m s k ks k0 k1 hd ih2
      obtain ⟨c',sp',hc',hsp',hcs',hcm',hpm'⟩:=Jd0 el (i:=k) ⟨k0,by omega⟩
      have hcu':=l3 c' hcm'
      have hov:=Jay (cs x) [] k9 i.toNat (c,sp) hcs (c',sp') (by
       rw [List.nil_append]
       have:((cs x).take i.toNat)[k.toNat]? = some (c',sp'):=by rw [List.getElem?_take,if_pos (by omega)]; exact hcs'
       exact List.mem_of_getElem? this)
      simp only [Qew.eq_2]
      unfold Qic
      rw [hd,cond_true,hc,Qab,hsp,Qab,hc',Qab,hsp',Qab,Q3u hs c (by omega),Qab,Q3u hs c' (by omega),Qab,Jc6,Qab]
      rw [show Jaf (Qug r c) sp (Qug r c') sp' = false from hov,cond_false]
      exact ih2 ()
    · intro m s k hd
      simp only [Qew.eq_2]
      unfold Qic Ql0
      rw [hd,cond_false]
      exact ih ()
 · intro n s i hd
   simp only [Qb2.eq_2]
   unfold Qie
   rw [hd,cond_false]
   exact J2
end Go.Proofs.YtkkfmjpbiimkbaaGreat
