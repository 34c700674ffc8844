/- TopBP: plain lemmas,.. -/
import Derived.Test.YtdgpkmgnjdpieaaGreatDoorTopBP2
set_option linter.unusedSimpArgs false
set_option linter.unusedVariables false
namespace Go.Proofs.YtdgpkmgnjdpieaaGreatDoor
open Go
open Enc (rd ow)
open Arg (argv)
open Ret (retv)
open Wf (wf)
def jz (p:Pallet) (d h g:Int):Bool:=CW d 1 p.fD&&(CW h 1 p.fH&&CW g 1 p.fQ)
theorem wb (fu:Nat) (p:Pallet) (d h g:Int):T4 fu p d h g=some (jz p d h g):=by
 unfold T4 jz
 simp only [XT,AB]
 cases CW d 1 p.fD <;> cases CW h 1 p.fH <;> rfl
theorem yS {fu:Nat} (p:Pallet) (l:List Shelf) (hl:l.length≤1048576) (E:l.length<fu):PQ fu p l=some (QH p&&l.all λs=>jz p s.fD s.fH s.fQ):=by
 unfold PQ
 rw [oh,AB]
 cases QH p
 · rfl
 · rw [Bool.not_true,cond_false,Bool.true_and]
   have:=tl l (λn i=>HH fu p l n i) (λs=>jz p s.fD s.fH s.fQ) (some true) AC ?_ ?_ fu E
   · rw [this]
     cases l.all λs=>jz p s.fD s.fH s.fQ <;> rfl
   · intro n i x D A
     simp only [HH.eq_2]
     unfold MY
     simp only [A,cond_true,D,AB,wb]
     cases jz p x.fD x.fH x.fQ <;> rfl
   · intro n i A
     simp only [HH.eq_2]
     unfold MY
     rw [A,cond_false]
theorem y6 {fu:Nat} (p:Pallet) (l:List Layer) (hl:l.length≤1048576) (E:l.length<fu):Sa fu p l=some (QH p&&l.all λs=>jz p s.fD s.fH s.fQ):=by
 unfold Sa
 rw [oh,AB]
 cases QH p
 · rfl
 · rw [Bool.not_true,cond_false,Bool.true_and]
   have:=tl l (λn i=>HY fu p l n i) (λs=>jz p s.fD s.fH s.fQ) (some true) AC ?_ ?_ fu E
   · rw [this]
     cases l.all λs=>jz p s.fD s.fH s.fQ <;> rfl
   · intro n i x D A
     simp only [HY.eq_2]
     unfold OV
     simp only [A,cond_true,D,AB,wb]
     cases jz p x.fD x.fH x.fQ <;> rfl
   · intro n i A
     simp only [HY.eq_2]
     unfold OV
     rw [A,cond_false]
def LQ (l:List Shelf) (i:Int):Shelf:=(ix l i).getD bQ
def ah:Layer:=⟨[],0,0,0⟩
def LD (x:Layer) (i:Int) (s:Shelf):Layer:=⟨x.fM++[i],x.fD+s.fD,tD x.fH s.fH,x.fQ+s.fQ⟩
def jC (p:Pallet) (s:Shelf) (x:Layer):Bool:=decide (x.fD+s.fD≤p.fD)&&decide (x.fQ+s.fQ≤p.fQ)
def kX (p:Pallet) (l:List Shelf) (out:List Layer) (i:Int):List Layer:=rA (jC p (LQ l i)) (λs=>LD s i (LQ l i)) ah out
def bc (p:Pallet) (l:List Shelf):List Layer:=(BW 0 l.length).foldl (kX p l) []
structure LyI (p:Pallet) (n:Nat) (s:Layer):Prop where
 ne:s.fM≠[]
 inn:∀ i∈s.fM,0≤i∧i<n
 d:1≤s.fD∧s.fD≤p.fD
 h:1≤s.fH∧s.fH≤p.fH
 g:1≤s.fQ∧s.fQ≤p.fQ
def tK (p:Pallet) (l:List Shelf):Prop:=∀ s∈l,(1≤s.fD∧s.fD≤p.fD)∧(1≤s.fH∧s.fH≤p.fH)∧(1≤s.fQ∧s.fQ≤p.fQ)
theorem eY {p:Pallet} {l:List Shelf} (h:tK p l) {i:Int} (hi:0≤i∧i<l.length):ix l i=some (LQ l i)∧(1≤(LQ l i).fD∧(LQ l i).fD≤p.fD)∧(1≤(LQ l i).fH∧(LQ l i).fH≤p.fH)∧(1≤(LQ l i).fQ∧(LQ l i).fQ≤p.fQ)∧LQ l i∈l:=by
 obtain ⟨x,A⟩:=aU (l:=l) hi.1 hi.2
 have e:LQ l i=x:=by unfold LQ; rw [A]; rfl
 rw [e]
 exact ⟨A,(h x (DA A)).1,(h x (DA A)).2.1,(h x (DA A)).2.2,DA A⟩
theorem kY {p:Pallet} {l:List Shelf} (E:tK p l) {out:List Layer} {i:Int} (hi:0≤i∧i<l.length) (h:∀ s∈out,LyI p l.length s):∀ s∈kX p l out i,LyI p l.length s:=by
 obtain ⟨_,_,_,_,_⟩:=eY E hi
 refine ZR h (λs L D=>?_) ⟨by simp [LD],λj A=>?_,?_,?_,?_⟩
 · unfold jC at D
   simp only [Bool.and_eq_true,decide_eq_true_eq] at D
   obtain ⟨s1,J,_,_,_⟩:=L
   have M:=WG s.fH (LQ l i).fH
   refine ⟨by simp [LD],λj A=>?_,?_,?_,?_⟩
   · simp only [LD,List.mem_append,List.mem_singleton] at A
     rcases A with A | rfl
     · exact J j A
     · exact hi
   · simp only [LD]; omega
   · simp only [LD]; omega
   · simp only [LD]; omega
 · simp only [LD,ah,List.nil_append,List.mem_singleton] at A
   rw [A]; exact hi
 · simp only [LD,ah]; omega
 · have:=WG 0 (LQ l i).fH
   simp only [LD,ah]; omega
 · simp only [LD,ah]; omega
theorem oM {p:Pallet} {l:List Shelf} (A:tK p l):∀ (is:List Int) (out:List Layer),(∀ i∈is,0≤i∧i<l.length)→(∀ s∈out,LyI p l.length s)→(∀ s∈is.foldl (kX p l) out,LyI p l.length s)∧((is.foldl (kX p l) out).map (·.fM)).flatten=(out.map (·.fM)).flatten++is∧(is.foldl (kX p l) out).length≤out.length+is.length
 | [],out,_,h=>⟨h,AD,AD⟩
 | i::is,out,hi,h=>by
  rw [List.foldl_cons]
  obtain ⟨L,D,_⟩:=oM A is (kX p l out i) (λj J=>hi j (by simp [J])) (kY A (hi i AD) h)
  have E:((kX p l out i).map (·.fM)).flatten=(out.map (·.fM)).flatten++[i]:=U0 (λs=>rfl) rfl
  have M:(kX p l out i).length≤out.length+1:=Xg _ _ _ _
  refine ⟨L,by rw [D,E]; simp,AJ⟩
theorem aZ {p:Pallet} {l:List Shelf} (E:tK p l):(∀ s∈bc p l,LyI p l.length s)∧((bc p l).map (·.fM)).flatten=BW 0 l.length∧(bc p l).length≤l.length:=by
 unfold bc
 obtain ⟨J,D,A⟩:=oM E (BW 0 l.length) [] (λi hi=>by have:=CE.1 hi; omega) AD
 refine ⟨J,by simpa using D,?_⟩
 rw [B5] at A
 simpa using A
theorem vB {p:Pallet} {l:List Shelf} (h:tK p l):(l.all λs=>jz p s.fD s.fH s.fQ)=true:=by
 refine List.all_eq_true.2 λs A=>?_
 unfold jz
 simp only [Bool.and_eq_true,BS]
 exact ⟨(h s A).1,(h s A).2.1,(h s A).2.2⟩
theorem rg {fu:Nat} (Ac:2097153≤fu) {p:Pallet} (hp:QH p=true) {l:List Shelf} (U:tK p l) (hl:l.length≤1000):R5 fu p l=some (bc p l):=by
 unfold R5 bc
 rw [yS p l AC AC,hp,vB U,AB,Bool.and_self,Bool.not_true,cond_false]
 obtain ⟨_,_,_,_⟩:=WJ hp
 have L1:=cp (l.length:Int) (λn (o:List Layer) i=>B1 fu p l n o i) (λM o=>some (M.foldl (kX p l) o)) (λM o=>(∀ s∈o,LyI p l.length s)∧((o.map (·.fM)).flatten).length+M.length≤1000∧o.length+M.length≤1000) AC ?_ ?_ l.length fu [] 0 AC AC AC ⟨AD,by simp [B5]; omega,by simp [B5]; omega⟩
 · exact L1
 · intro n o i M x0 x1 O hI ih
   obtain ⟨i2,i3,h⟩:=hI
   simp only [List.length_cons] at i3 h
   obtain ⟨T,_,_,_,_⟩:=eY U ⟨x0,x1⟩
   have E:((kX p l o i).map (·.fM)).flatten=(o.map (·.fM)).flatten++[i]:=U0 (λs=>rfl) rfl
   have e:(kX p l o i).length≤o.length+1:=Xg _ _ _ _
   have V:=ih (kX p l o i) ⟨kY U ⟨x0,x1⟩ i2,by rw [E,List.length_append,List.length_singleton]; omega,AC⟩
   have J:∀ (A:List Layer) (x:Layer),A.length≤1000→(x.fM.length≤1000)→(0≤x.fD∧x.fD≤2000)→(0≤x.fQ∧x.fQ≤100000)→D9 fu (B1 fu p l n) i (LQ l i) (A++[x]) ((A.length:Int)+1)=B1 fu p l n (A++[LD x i (LQ l i)]) (AK (i+1)):=by
    intro A x Y h2 h3 h4
    unfold D9 Tu
    have L:AK ((A.length:Int)+1 - 1)=(A.length:Int):=by rw [AU AC AC]; omega
    have Q:ix (A++[x]) (A.length:Int)=some x:=by rw [EG]; simp
    rw [L,Q,AB,KU AJ,AB,KU AJ,AB,pi,AB,AB,AU (n:=x.fD+_) AC AC,AU (n:=x.fQ+_) AC AC]
    have Z:∀ y:Layer,DB (A++[x]) (A.length:Int) y=A++[y]:=by intro y; simp [DB]
    rw [Z]
    rfl
   simp only [B1.eq_2]
   unfold O7
   rw [O,cond_true,T,AB,List.foldl_cons,← V]
   by_cases N:o=[]
   · subst N
     rw [AX AD,KU AD,AB]
     have:=J [] ah AD (by simp [ah]) (by simp [ah]) (by simp [ah])
     rw [AU AD AD]
     exact this
   · obtain ⟨s,L,Q⟩:=XY N
     have Ab:=List.length_pos_iff.2 N
     have D:=List.mem_of_getLast? L
     have hs:=i2 s D
     have Aa:=PZ (λs:Layer=>s.fM) o s D
     obtain ⟨s1,_,_,_,_⟩:=hs
     have eS:kX p l o i=bif jC p (LQ l i) s then o.set (o.length - 1) (LD s i (LQ l i)) else o++[LD ah i (LQ l i)]:=Yt L
     have eo:o=o.dropLast++[s]:=by
      have Y:=List.dropLast_concat_getLast N
      rw [List.getLast?_eq_some_getLast N] at L
      rw [Option.some.inj L] at Y
      exact Y.symm
     have Z:D9 fu (B1 fu p l n) i (LQ l i) o (o.length:Int)=B1 fu p l n (o.set (o.length - 1) (LD s i (LQ l i))) (AK (i+1)):=by
      obtain ⟨d,O⟩:∃ d,o=d++[s]:=⟨_,eo⟩
      rw [O] at h ⊢
      simp only [List.length_append,List.length_singleton] at h
      have:=J d s AC AC AC AC
      rw [show (((d++[s]).length:Nat):Int)=(d.length:Int)+1 by simp,this]
      congr 1
      simp
     have e4:D9 fu (B1 fu p l n) i (LQ l i) (o++[ah]) (AK ((o.length:Int)+1))=B1 fu p l n (o++[LD ah i (LQ l i)]) (AK (i+1)):=by
      rw [AU AC AC]
      exact J o ah AC (by simp [ah]) (by simp [ah]) (by simp [ah])
     rw [AU (n:=(o.length:Int) - 1) AC AC,Q,AB,AM AJ,AB,AU (n:=s.fD+_) AC AC,AU (n:=s.fQ+_) AC AC,KU AJ,AB,Z]
     rw [show (⟨[],0,0,0⟩:Layer)=ah from rfl,e4,eS]
     unfold jC
     by_cases c1:s.fD+(LQ l i).fD≤p.fD
     · rw [AM (c:=decide (s.fD+(LQ l i).fD>p.fD)) AJ,decide_eq_true c1]
       by_cases c2:s.fQ+(LQ l i).fQ≤p.fQ
       · rw [AM (c:=decide (s.fQ+(LQ l i).fQ>p.fQ)) AJ,decide_eq_true c2]; rfl
       · rw [AX (c:=decide (s.fQ+(LQ l i).fQ>p.fQ)) AJ,decide_eq_false c2]; rfl
     · rw [AX (c:=decide (s.fD+(LQ l i).fD>p.fD)) AJ,decide_eq_false c1]; rfl
 · intro n o i O _
   simp only [B1.eq_2]
   unfold O7
   rw [O,cond_false]; rfl
def My (l:List Layer) (i:Int):Layer:=(ix l i).getD ah
def aP:Load:=⟨[],0,0⟩
def O3 (x:Load) (i:Int) (s:Layer):Load:=⟨x.f0++[i],x.fH+s.fH,x.fQ+s.fQ⟩
def jv (p:Pallet) (s:Layer) (x:Load):Bool:=decide (x.fH+s.fH≤p.fH)&&decide (x.fQ+s.fQ≤p.fQ)
def jZ (p:Pallet) (l:List Layer) (out:List Load) (i:Int):List Load:=rA (jv p (My l i)) (λs=>O3 s i (My l i)) aP out
def jg (p:Pallet) (l:List Layer):List Load:=(BW 0 l.length).foldl (jZ p l) []
structure LdI (p:Pallet) (n:Nat) (s:Load):Prop where
 ne:s.f0≠[]
 inn:∀ i∈s.f0,0≤i∧i<n
 h:1≤s.fH∧s.fH≤p.fH
 g:1≤s.fQ∧s.fQ≤p.fQ
def vE (p:Pallet) (l:List Layer):Prop:=∀ s∈l,(1≤s.fD∧s.fD≤p.fD)∧(1≤s.fH∧s.fH≤p.fH)∧(1≤s.fQ∧s.fQ≤p.fQ)
theorem eK {p:Pallet} {l:List Layer} (h:vE p l) {i:Int} (hi:0≤i∧i<l.length):ix l i=some (My l i)∧(1≤(My l i).fD∧(My l i).fD≤p.fD)∧(1≤(My l i).fH∧(My l i).fH≤p.fH)∧(1≤(My l i).fQ∧(My l i).fQ≤p.fQ)∧My l i∈l:=by
 obtain ⟨x,A⟩:=aU (l:=l) hi.1 hi.2
 have e:My l i=x:=by unfold My; rw [A]; rfl
 rw [e]
 exact ⟨A,(h x (DA A)).1,(h x (DA A)).2.1,(h x (DA A)).2.2,DA A⟩
theorem kV {p:Pallet} {l:List Layer} (E:vE p l) {out:List Load} {i:Int} (hi:0≤i∧i<l.length) (h:∀ s∈out,LdI p l.length s):∀ s∈jZ p l out i,LdI p l.length s:=by
 obtain ⟨_,_,_,_,_⟩:=eK E hi
 refine ZR h (λs L D=>?_) ⟨by simp [O3],λj A=>?_,?_,?_⟩
 · unfold jv at D
   simp only [Bool.and_eq_true,decide_eq_true_eq] at D
   obtain ⟨s1,J,_,_⟩:=L
   refine ⟨by simp [O3],λj A=>?_,?_,?_⟩
   · simp only [O3,List.mem_append,List.mem_singleton] at A
     rcases A with A | rfl
     · exact J j A
     · exact hi
   · simp only [O3]; omega
   · simp only [O3]; omega
 · simp only [O3,aP,List.nil_append,List.mem_singleton] at A
   rw [A]; exact hi
 · simp only [O3,aP]; omega
 · simp only [O3,aP]; omega
theorem oi {p:Pallet} {l:List Layer} (A:vE p l):∀ (is:List Int) (out:List Load),(∀ i∈is,0≤i∧i<l.length)→(∀ s∈out,LdI p l.length s)→(∀ s∈is.foldl (jZ p l) out,LdI p l.length s)∧((is.foldl (jZ p l) out).map (·.f0)).flatten=(out.map (·.f0)).flatten++is∧(is.foldl (jZ p l) out).length≤out.length+is.length
 | [],out,_,h=>⟨h,AD,AD⟩
 | i::is,out,hi,h=>by
  rw [List.foldl_cons]
  obtain ⟨L,D,_⟩:=oi A is (jZ p l out i) (λj J=>hi j (by simp [J])) (kV A (hi i AD) h)
  have E:((jZ p l out i).map (·.f0)).flatten=(out.map (·.f0)).flatten++[i]:=U0 (λs=>rfl) rfl
  have M:(jZ p l out i).length≤out.length+1:=Xg _ _ _ _
  refine ⟨L,by rw [D,E]; simp,AJ⟩
theorem es {p:Pallet} {l:List Layer} (E:vE p l):(∀ s∈jg p l,LdI p l.length s)∧((jg p l).map (·.f0)).flatten=BW 0 l.length∧(jg p l).length≤l.length:=by
 unfold jg
 obtain ⟨J,D,A⟩:=oi E (BW 0 l.length) [] (λi hi=>by have:=CE.1 hi; omega) AD
 refine ⟨J,by simpa using D,?_⟩
 rw [B5] at A
 simpa using A
theorem vF {p:Pallet} {l:List Layer} (h:vE p l):(l.all λs=>jz p s.fD s.fH s.fQ)=true:=by
 refine List.all_eq_true.2 λs A=>?_
 unfold jz
 simp only [Bool.and_eq_true,BS]
 exact ⟨(h s A).1,(h s A).2.1,(h s A).2.2⟩
theorem tN {fu:Nat} (Ac:2097153≤fu) {p:Pallet} (hp:QH p=true) {l:List Layer} (U:vE p l) (hl:l.length≤1000):Ue fu p l=some (jg p l):=by
 unfold Ue jg
 rw [y6 p l AC AC,hp,vF U,AB,Bool.and_self,Bool.not_true,cond_false]
 obtain ⟨_,_,_,_⟩:=WJ hp
 have L1:=cp (l.length:Int) (λn (o:List Load) i=>B7 fu p l n o i) (λM o=>some (M.foldl (jZ p l) o)) (λM o=>(∀ s∈o,LdI p l.length s)∧((o.map (·.f0)).flatten).length+M.length≤1000∧o.length+M.length≤1000) AC ?_ ?_ l.length fu [] 0 AC AC AC ⟨AD,by simp [B5]; omega,by simp [B5]; omega⟩
 · exact L1
 · intro n o i M x0 x1 O hI ih
   obtain ⟨i2,i3,h⟩:=hI
   simp only [List.length_cons] at i3 h
   obtain ⟨T,_,_,_,_⟩:=eK U ⟨x0,x1⟩
   have E:((jZ p l o i).map (·.f0)).flatten=(o.map (·.f0)).flatten++[i]:=U0 (λs=>rfl) rfl
   have e:(jZ p l o i).length≤o.length+1:=Xg _ _ _ _
   have V:=ih (jZ p l o i) ⟨kV U ⟨x0,x1⟩ i2,by rw [E,List.length_append,List.length_singleton]; omega,AC⟩
   have J:∀ (A:List Load) (x:Load),A.length≤1000→(x.f0.length≤1000)→(0≤x.fH∧x.fH≤2000)→(0≤x.fQ∧x.fQ≤100000)→EV fu (B7 fu p l n) i (My l i) (A++[x]) ((A.length:Int)+1)=B7 fu p l n (A++[O3 x i (My l i)]) (AK (i+1)):=by
    intro A x Y h2 h3 h4
    unfold EV T7
    have L:AK ((A.length:Int)+1 - 1)=(A.length:Int):=by rw [AU AC AC]; omega
    have Q:ix (A++[x]) (A.length:Int)=some x:=by rw [EG]; simp
    rw [L,Q,AB,KU AJ,AB,KU AJ,AB,AB,AU (n:=x.fH+_) AC AC,AU (n:=x.fQ+_) AC AC]
    have Z:∀ y:Load,DB (A++[x]) (A.length:Int) y=A++[y]:=by intro y; simp [DB]
    rw [Z]
    rfl
   simp only [B7.eq_2]
   unfold QY
   rw [O,cond_true,T,AB,List.foldl_cons,← V]
   by_cases N:o=[]
   · subst N
     rw [AX AD,KU AD,AB]
     have:=J [] aP AD (by simp [aP]) (by simp [aP]) (by simp [aP])
     rw [AU AD AD]
     exact this
   · obtain ⟨s,L,Q⟩:=XY N
     have Ab:=List.length_pos_iff.2 N
     have D:=List.mem_of_getLast? L
     have hs:=i2 s D
     have Aa:=PZ (λs:Load=>s.f0) o s D
     obtain ⟨s1,_,_,_⟩:=hs
     have eS:jZ p l o i=bif jv p (My l i) s then o.set (o.length - 1) (O3 s i (My l i)) else o++[O3 aP i (My l i)]:=Yt L
     have eo:o=o.dropLast++[s]:=by
      have Y:=List.dropLast_concat_getLast N
      rw [List.getLast?_eq_some_getLast N] at L
      rw [Option.some.inj L] at Y
      exact Y.symm
     have Z:EV fu (B7 fu p l n) i (My l i) o (o.length:Int)=B7 fu p l n (o.set (o.length - 1) (O3 s i (My l i))) (AK (i+1)):=by
      obtain ⟨d,O⟩:∃ d,o=d++[s]:=⟨_,eo⟩
      rw [O] at h ⊢
      simp only [List.length_append,List.length_singleton] at h
      have:=J d s AC AC AC AC
      rw [show (((d++[s]).length:Nat):Int)=(d.length:Int)+1 by simp,this]
      congr 1
      simp
     have e4:EV fu (B7 fu p l n) i (My l i) (o++[aP]) (AK ((o.length:Int)+1))=B7 fu p l n (o++[O3 aP i (My l i)]) (AK (i+1)):=by
      rw [AU AC AC]
      exact J o aP AC (by simp [aP]) (by simp [aP]) (by simp [aP])
     rw [AU (n:=(o.length:Int) - 1) AC AC,Q,AB,AM AJ,AB,AU (n:=s.fH+_) AC AC,AU (n:=s.fQ+_) AC AC,KU AJ,AB,Z]
     rw [show (⟨[],0,0⟩:Load)=aP from rfl,e4,eS]
     unfold jv
     by_cases c1:s.fH+(My l i).fH≤p.fH
     · rw [AM (c:=decide (s.fH+(My l i).fH>p.fH)) AJ,decide_eq_true c1]
       by_cases c2:s.fQ+(My l i).fQ≤p.fQ
       · rw [AM (c:=decide (s.fQ+(My l i).fQ>p.fQ)) AJ,decide_eq_true c2]; rfl
       · rw [AX (c:=decide (s.fQ+(My l i).fQ>p.fQ)) AJ,decide_eq_false c2]; rfl
     · rw [AX (c:=decide (s.fH+(My l i).fH>p.fH)) AJ,decide_eq_false c1]; rfl
 · intro n o i O _
   simp only [B7.eq_2]
   unfold QY
   rw [O,cond_false]; rfl
def ip (n lo hi:Int):Bool:=decide (lo≤n∧n≤hi)
theorem ki {n lo hi:Int}:ip n lo hi=true↔lo≤n∧n≤hi:=by simp [ip]
theorem uk (fu:Nat) (n lo hi:Int):A2 fu n lo hi=some (ip n lo hi):=by
 unfold A2 ip
 by_cases h:n≥lo
 · rw [AX (by simpa using h)]
   have:lo≤n:=h
   simp [this]
 · rw [AM (by simpa using h)]
   have:¬ lo≤n:=h
   simp [this]
theorem n7 (fu:Nat) (n lo hi:Int):A8 fu n lo hi=some (ip n lo hi):=uk fu n lo hi
def W5 (p:Pallet):Bool:=ip p.fW 1 2000&&(ip p.fD 1 2000&&(ip p.fH 1 2000&&ip p.fQ 1 100000))
def qb (p:Pallet) (b:Box):Bool:=ip b.fW 1 p.fW&&(ip b.fD 1 p.fD&&(ip b.fH 1 p.fH&&ip b.fQ 1 p.fQ))
def kw (p:Pallet) (l:List Box):Bool:=W5 p&&l.all (qb p)
theorem WV (fu:Nat) (p:Pallet):FY fu p=some (W5 p):=by
 unfold FY DF W5
 simp only [n7,AB]
 cases ip p.fW 1 2000 <;> cases ip p.fD 1 2000 <;> cases ip p.fH 1 2000 <;> rfl
theorem lT (fu:Nat) (b:Box) (p:Pallet):PN fu b p=some (!qb p b):=by
 unfold PN qb
 simp only [n7,AB]
 cases ip b.fW 1 p.fW <;> cases ip b.fD 1 p.fD <;> cases ip b.fH 1 p.fH <;> rfl
theorem eL (fu:Nat) (l:List Box) (f:Box→Option Bool) (g:Box→Bool) (T:∀ b,f b=some (g b)) (h:l.length≤1048576) (Q:l.length<fu) :
    DI fu l f=some (l.any g):=by
 unfold DI FJ
 have D:∀ (m i n:Nat),l.length - i=m→i≤l.length→m<n→∃ r,BJ fu l f n i=some r∧decide (r≥0)=(l.drop i).any g:=by
  intro m
  induction m with
  | zero =>
   intro i n U hi L
   obtain ⟨n,rfl⟩:∃ k,n=k+1:=⟨n - 1,AC⟩
   rw [BJ.eq_2]
   unfold EB
   rw [AM AJ,List.drop_eq_nil_of_le AC]
   exact ⟨_,rfl,rfl⟩
  | succ m M =>
   intro i n U hi L
   obtain ⟨n,rfl⟩:∃ k,n=k+1:=⟨n - 1,AC⟩
   have A:i<l.length:=AC
   rw [BJ.eq_2]
   unfold EB
   rw [AX (by simpa using A),tf (mi (List.getElem?_eq_getElem A)),T,AB,List.drop_eq_getElem_cons A,List.any_cons]
   cases J:g l[i]
   · rw [AM rfl,AU AC AC,Bool.false_or]
     have:=M (i+1) n AC AC AC
     simpa using this
   · rw [AX rfl]
     exact ⟨_,rfl,AD⟩
 obtain ⟨r,N,O⟩:=D l.length 0 fu AC AC Q
 have E:BJ fu l f fu 0=some r:=N
 rw [E,AB,O]
 rfl
theorem Y8 (fu:Nat) (p:Pallet) (l:List Box) (h:l.length≤1048576) (A:l.length<fu):OG fu p l=some (kw p l):=by
 unfold OG kw
 rw [WV,AB]
 cases W5 p
 · rfl
 rw [AX rfl,eL fu l _ (λb=>!qb p b) (λb=>lT fu b p) h A,AB,Bool.true_and]
 congr 1
 induction l with
 | nil=>rfl
 | cons x E D =>
  simp only [List.any_cons,List.all_cons,Bool.not_or,Bool.not_not]
  rw [D (by simp at h; omega) (by simp at A; omega)]
theorem sD (p:Pallet) (l:List Box):kw p l=W9 p l:=by
 have e:∀ a b c:Int,ip a b c=CW a b c:=λa b c=>Bool.eq_iff_iff.2 (by rw [ki,BS])
 have A:qb p=iP p:=by funext b; unfold qb iP; simp only [e]
 unfold kw W9 W5 QH
 simp only [e,A]
theorem rZ (a b:Int):(if b>a then b else a)=tD a b:=by unfold tD; split <;> split <;> omega
theorem eR {α:Type} (l:List α) (j:Nat) (a:α):DB l (j:Int) a=l.set j a:=by simp [DB]
theorem rx {fu:Nat} {A:List Shelf→Int→Option (List Shelf)} {x i:Int} {b:Box} {o:List Shelf} {j:Nat} {s:Shelf} (D:o[j]? = some s) (hl:s.f7.length≤1000000)
    (h1:-1000000000≤s.fW+b.fW∧s.fW+b.fW≤1000000000) (h2:-1000000000≤s.fQ+b.fQ∧s.fQ+b.fQ≤1000000000):EO fu A x i b o (j:Int)=A (o.set j (KE s i b)) (AK (x+1)):=by
 unfold EO UD
 rw [EG,D,AB,KU AJ,AB]
 simp only [AB,eR,List.set_set,rZ]
 rw [AU (n:=s.fW+b.fW) AC AC,AU (n:=s.fQ+b.fQ) AC AC]
 rfl
theorem qf {fu:Nat} (V:2097153≤fu) (p:Pallet) (l:List Box) (hl:l.length<20):UE fu p l=some (YJ p l):=by
 unfold UE YJ
 rw [Y8 fu p l AC AC,AB,sD]
 cases Z:W9 p l
 · rfl
 · rw [Bool.not_true,cond_false,cond_true]
   have Q:=XD l (λn (o:List Int) i=>I5 fu p l n o i) (λA o=>AA (JG fu (o++A.map (·.fD))) λx=>CK fu p l x fu [] 0) (λA o=>o.length+A.length≤1000) AC ?_ ?_ fu [] AJ AC
   · rw [Q,List.nil_append,su V AJ,AB,List.length_map]
     have e:=VZ (bR (l.map (·.fD))) l.length
     have M:=λx=>ZA (k:=bR (l.map (·.fD))) (n:=l.length) (x:=x)
     generalize jM (bR (l.map (·.fD))) l.length=S at e M ⊢
     refine XD S (λn (o:List Shelf) i=>CK fu p l S n o i) (λA o=>some (A.foldl (jP p l) o)) (λA o=>(∀ i∈A,0≤i∧i<l.length)∧(∀ s∈o,ShI p l.length s)∧((o.map (·.f7)).flatten).length+A.length≤1000∧o.length+A.length≤1000) AC ?_ ?_ fu [] ⟨λi hi=>(M i).1 hi,AD,AJ,AJ⟩ AC
     · intro n o i x A hx L hI ih
       obtain ⟨i1,i2,i3,i4⟩:=hI
       simp only [List.length_cons] at i3 i4
       have N:=i1 x AD
       obtain ⟨U,_,_,_,_⟩:=YY Z N
       obtain ⟨_,_,_,_⟩:=WJ (ZG Z)
       have J:((jP p l o x).map (·.f7)).flatten=(o.map (·.f7)).flatten++[x]:=U0 (λs=>rfl) rfl
       have Aa:(jP p l o x).length≤o.length+1:=Xg _ _ _ _
       have Y:=ih (jP p l o x) ⟨λj hj=>i1 j (by simp [hj]),ke Z N i2,by rw [J,List.length_append,List.length_singleton]; omega,AC⟩
       simp only [CK.eq_2]
       unfold Q2
       rw [L,cond_true,hx,AB,U,AB,List.foldl_cons,← Y]
       have E:∀ O:List Shelf,O.length≤1000→EO fu (λo i=>CK fu p l S n o i) i x (KZ l x) (O++[bQ]) ((O.length:Nat):Int)=CK fu p l S n (O++[KE bQ x (KZ l x)]) (AK (i+1)):=λO _=>by
        rw [rx (s:=bQ) AD (by simp [bQ]) (by simp [bQ]; omega) (by simp [bQ]; omega)]
        simp
       by_cases he:o=[]
       · subst he
         rw [AX A1,KU AD,AB]
         exact E [] AD
       · obtain ⟨s,T,_⟩:=XY he
         have hp:=List.length_pos_iff.2 he
         have D:=List.mem_of_getLast? T
         have hs:=i2 s D
         have Ab:=PZ (λs:Shelf=>s.f7) o s D
         have eS:jP p l o x=bif jB p (KZ l x) s then o.set (o.length - 1) (KE s x (KZ l x)) else o++[KE bQ x (KZ l x)]:=Yt T
         have e3:AK ((o.length:Int) - 1)=((o.length - 1:Nat):Int):=by rw [AU AC AC]; omega
         have e4:AK (((o.length - 1:Nat):Int)+1)=((o.length:Nat):Int):=by rw [AU AC AC]; omega
         have e5:o[o.length - 1]? = some s:=by rw [← List.getLast?_eq_getElem?]; exact T
         obtain ⟨s1,_,_,_,_,_⟩:=hs
         rw [e3,e4,AM AD,EG,e5,AB,AU (n:=s.fW+_) AC AC,AU (n:=s.fQ+_) AC AC,KU AJ,AB,eS]
         unfold jB
         have c1:decide (s.fW+(KZ l x).fW>p.fW)=!decide (s.fW+(KZ l x).fW≤p.fW):=by
          by_cases h:s.fW+(KZ l x).fW≤p.fW <;> simp [h] <;> omega
         have c2:decide (s.fQ+(KZ l x).fQ>p.fQ)=!decide (s.fQ+(KZ l x).fQ≤p.fQ):=by
          by_cases h:s.fQ+(KZ l x).fQ≤p.fQ <;> simp [h] <;> omega
         rw [c1,c2,AB]
         have h1:=E o AC
         have h2:EO fu (λo i=>CK fu p l S n o i) i x (KZ l x) o ((o.length - 1:Nat):Int)=CK fu p l S n (o.set (o.length - 1) (KE s x (KZ l x))) (AK (i+1)):=rx e5 AC AC AC
         cases decide (s.fW+(KZ l x).fW≤p.fW)
         · exact h1
         · cases decide (s.fQ+(KZ l x).fQ≤p.fQ)
           · exact h1
           · exact h2
     · intro n o i L _
       simp only [CK.eq_2]
       unfold Q2
       rw [L,cond_false]; rfl
   · intro n o i x A hx L hI ih
     simp only [List.length_cons] at hI
     simp only [I5.eq_2]
     unfold QS
     rw [L,cond_true,hx,AB,KU AJ,AB,ih _ AJ]
     simp
   · intro n o i L _
     simp only [I5.eq_2]
     unfold QS
     rw [L,cond_false]; simp
theorem rD {fu:Nat} {A:List Layer→Int→Option (List Layer)} {i:Int} {b:Shelf} {o:List Layer} {j:Nat} {s:Layer} (D:o[j]? = some s) (hl:s.fM.length≤1000000)
    (h1:-1000000000≤s.fD+b.fD∧s.fD+b.fD≤1000000000) (h2:-1000000000≤s.fQ+b.fQ∧s.fQ+b.fQ≤1000000000):D6 fu A i b o (j:Int)=A (o.set j (LD s i b)) (AK (i+1)):=by
 unfold D6 S7
 rw [EG,D,AB,KU AJ,AB]
 simp only [AB,eR,List.set_set,rZ]
 rw [AU (n:=s.fD+b.fD) AC AC,AU (n:=s.fQ+b.fQ) AC AC]
 rfl
theorem bZ (fu:Nat) (l:List Shelf) (f:Shelf→Option Bool) (g:Shelf→Bool) (T:∀ b,f b=some (g b)) (h:l.length≤1048576) (Q:l.length<fu) :
    CQ fu l f=some (l.any g):=by
 unfold CQ EH
 have D:∀ (m i n:Nat),l.length - i=m→i≤l.length→m<n→∃ r,BB fu l f n i=some r∧decide (r≥0)=(l.drop i).any g:=by
  intro m
  induction m with
  | zero =>
   intro i n U hi L
   obtain ⟨n,rfl⟩:∃ k,n=k+1:=⟨n - 1,AC⟩
   rw [BB.eq_2]
   unfold DS
   rw [AM AJ,List.drop_eq_nil_of_le AC]
   exact ⟨_,rfl,rfl⟩
  | succ m M =>
   intro i n U hi L
   obtain ⟨n,rfl⟩:∃ k,n=k+1:=⟨n - 1,AC⟩
   have A:i<l.length:=AC
   rw [BB.eq_2]
   unfold DS
   rw [AX (by simpa using A),tf (mi (List.getElem?_eq_getElem A)),T,AB,List.drop_eq_getElem_cons A,List.any_cons]
   cases J:g l[i]
   · rw [AM rfl,AU AC AC,Bool.false_or]
     have:=M (i+1) n AC AC AC
     simpa using this
   · rw [AX rfl]
     exact ⟨_,rfl,AD⟩
 obtain ⟨r,N,O⟩:=D l.length 0 fu AC AC Q
 have E:BB fu l f fu 0=some r:=N
 rw [E,AB,O]
 rfl
theorem yd {fu:Nat} (p:Pallet) (l:List Shelf) (hl:l.length≤1048576) (D:l.length<fu):PJ fu p l=some (QH p&&l.all λs=>jz p s.fD s.fH s.fQ):=by
 unfold PJ
 have e:∀ a b c:Int,ip a b c=CW a b c:=λa b c=>Bool.eq_iff_iff.2 (by rw [ki,BS])
 have A:W5 p=QH p:=by unfold W5 QH; simp only [e]
 rw [WV,AB,A,bZ fu l _ (λs=>!jz p s.fD s.fH s.fQ) (λs=>by
  unfold TF jz
  simp only [n7,AB,e]
  cases CW s.fD 1 p.fD <;> cases CW s.fH 1 p.fH <;> rfl) hl D,AB]
 cases QH p
 · rfl
 · rw [cond_true,Bool.true_and]
   congr 1
   rw [Bool.eq_iff_iff]
   simp
theorem sn {fu:Nat} (Aa:2097153≤fu) {p:Pallet} (T:QH p=true) {l:List Shelf} (O:tK p l) (hl:l.length≤1000):RY fu p l=some (bc p l):=by
 unfold RY bc
 rw [yd p l AC AC,T,vB O,AB,Bool.and_self,Bool.not_true,cond_false]
 obtain ⟨_,_,_,_⟩:=WJ T
 refine cp (l.length:Int) (λn (o:List Layer) i=>CN fu p l n o i) (λJ o=>some (J.foldl (kX p l) o)) (λJ o=>(∀ s∈o,LyI p l.length s)∧((o.map (·.fM)).flatten).length+J.length≤1000∧o.length+J.length≤1000) AC ?_ ?_ l.length fu [] 0 AC AC AC ⟨AD,by simp [B5]; omega,by simp [B5]; omega⟩
 · intro n o i J x0 Z V hI ih
   obtain ⟨i2,i3,i4⟩:=hI
   simp only [List.length_cons] at i3 i4
   obtain ⟨N,_,_,_,_⟩:=eY O ⟨x0,Z⟩
   have E:((kX p l o i).map (·.fM)).flatten=(o.map (·.fM)).flatten++[i]:=U0 (λs=>rfl) rfl
   have Y:(kX p l o i).length≤o.length+1:=Xg _ _ _ _
   have Q:=ih (kX p l o i) ⟨kY O ⟨x0,Z⟩ i2,by rw [E,List.length_append,List.length_singleton]; omega,AC⟩
   simp only [CN.eq_2]
   unfold N5
   rw [V,cond_true,N,AB,List.foldl_cons,← Q]
   have D:∀ L:List Layer,L.length≤1000→D6 fu (λo i=>CN fu p l n o i) i (LQ l i) (L++[ah]) ((L.length:Nat):Int)=CN fu p l n (L++[LD ah i (LQ l i)]) (AK (i+1)):=λL _=>by
    rw [rD (s:=ah) AD (by simp [ah]) (by simp [ah]; omega) (by simp [ah]; omega)]
    simp
   by_cases U:o=[]
   · subst U
     rw [AX A1,KU AD,AB]
     exact D [] AD
   · obtain ⟨s,M,_⟩:=XY U
     have T:=List.length_pos_iff.2 U
     have A:=List.mem_of_getLast? M
     have hs:=i2 s A
     have e:=PZ (λs:Layer=>s.fM) o s A
     have eS:kX p l o i=bif jC p (LQ l i) s then o.set (o.length - 1) (LD s i (LQ l i)) else o++[LD ah i (LQ l i)]:=Yt M
     have e3:AK ((o.length:Int) - 1)=((o.length - 1:Nat):Int):=by rw [AU AC AC]; omega
     have e4:AK (((o.length - 1:Nat):Int)+1)=((o.length:Nat):Int):=by rw [AU AC AC]; omega
     have e5:o[o.length - 1]? = some s:=by rw [← List.getLast?_eq_getElem?]; exact M
     obtain ⟨s1,_,_,_,_⟩:=hs
     rw [e3,e4,AM AD,EG,e5,AB,AU (n:=s.fD+_) AC AC,AU (n:=s.fQ+_) AC AC,KU AJ,AB,eS]
     unfold jC
     have c1:decide (s.fD+(LQ l i).fD>p.fD)=!decide (s.fD+(LQ l i).fD≤p.fD):=by
      by_cases h:s.fD+(LQ l i).fD≤p.fD <;> simp [h] <;> omega
     have c2:decide (s.fQ+(LQ l i).fQ>p.fQ)=!decide (s.fQ+(LQ l i).fQ≤p.fQ):=by
      by_cases h:s.fQ+(LQ l i).fQ≤p.fQ <;> simp [h] <;> omega
     rw [c1,c2,AB]
     have h1:=D o AC
     have h2:D6 fu (λo i=>CN fu p l n o i) i (LQ l i) o ((o.length - 1:Nat):Int)=CN fu p l n (o.set (o.length - 1) (LD s i (LQ l i))) (AK (i+1)):=rD e5 AC AC AC
     cases decide (s.fD+(LQ l i).fD≤p.fD)
     · exact h1
     · cases decide (s.fQ+(LQ l i).fQ≤p.fQ)
       · exact h1
       · exact h2
 · intro n o i V _
   simp only [CN.eq_2]
   unfold N5
   rw [V,cond_false]; rfl
def s9:Spot:=⟨0,0,0,0⟩
def nh (l:List Load) (i:Int):Load:=(ix l i).getD aP
def qJ (l:List Box) (o y z:Int) (is:List Int) (s:List Spot×Int):List Spot×Int:=is.foldl (λs b=>(DB s.1 b ⟨o,s.2,y,z⟩,s.2+(KZ l b).fW)) s
def qF (l:List Box) (A:List Shelf) (o z:Int) (D:List Int) (s:List Spot×Int):List Spot×Int:=D.foldl (λs j=>((qJ l o s.2 z (LQ A j).f7 (s.1,0)).1,s.2+(LQ A j).fD)) s
def tF (l:List Box) (D:List Shelf) (A:List Layer) (o:Int) (is:List Int) (s:List Spot×Int):List Spot×Int:=is.foldl (λs i=>((qF l D o s.2 (My A i).fM (s.1,0)).1,s.2+(My A i).fH)) s
def t7 (l:List Box) (A:List Shelf) (E:List Layer) (D:List Load) (os:List Int) (out:List Spot):List Spot:=os.foldl (λout o=>(tF l A E o (nh D o).f0 (out,0)).1) out
def ag (p:Pallet) (l:List Box):List Spot:=bif W9 p l then t7 l (YJ p l) (bc p (YJ p l)) (jg p (bc p (YJ p l))) (BW 0 (jg p (bc p (YJ p l))).length) (List.replicate l.length s9) else []
theorem ZC {α:Type} (l:List α) (i:Int) (y:α):(DB l i y).length=l.length:=by simp [DB]
theorem em (l:List Box) (o y z:Int):∀ (is:List Int) (s:List Spot×Int),(qJ l o y z is s).1.length=s.1.length
 | [],_=>rfl
 | i::is,s=>by
  have:=em l o y z is (DB s.1 i ⟨o,s.2,y,z⟩,s.2+(KZ l i).fW)
  rw [ZC] at this
  exact this
theorem eD (l:List Box) (A:List Shelf) (o z:Int):∀ (is:List Int) (s:List Spot×Int),(qF l A o z is s).1.length=s.1.length
 | [],_=>rfl
 | i::is,s=>by
  have:=eD l A o z is ((qJ l o s.2 z (LQ A i).f7 (s.1,0)).1,s.2+(LQ A i).fD)
  rw [em] at this
  exact this
theorem ec (l:List Box) (D:List Shelf) (A:List Layer) (o:Int):∀ (is:List Int) (s:List Spot×Int),(tF l D A o is s).1.length=s.1.length
 | [],_=>rfl
 | i::is,s=>by
  have:=ec l D A o is ((qF l D o s.2 (My A i).fM (s.1,0)).1,s.2+(My A i).fH)
  rw [eD] at this
  exact this
theorem pP (l:List Box) (A:List Shelf) (E:List Layer) (D:List Load):∀ (os:List Int) (out:List Spot),(t7 l A E D os out).length=out.length
 | [],_=>rfl
 | o::os,out=>by
  have:=pP l A E D os (tF l A E o (nh D o).f0 (out,0)).1
  rw [ec] at this
  exact this
theorem eG {p:Pallet} {l:List Box} (h:W9 p l=true):(ag p l).length=l.length:=by
 unfold ag
 rw [h,cond_true,pP,List.length_replicate]
theorem kD {p:Pallet} {l:List Box} (h:W9 p l=true):tK p (YJ p l):=λs A=>by
 have:=(bN h).1 s A
 exact ⟨this.d,this.h,this.g⟩
theorem j1 {p:Pallet} {l:List Shelf} (h:tK p l):vE p (bc p l):=λs A=>by
 have:=(aZ h).1 s A
 exact ⟨this.d,this.h,this.g⟩
theorem tT {fu:Nat} (N:2097153≤fu) (p:Pallet) (l:List Box) (hl:l.length≤1000):O6 fu p l=some (ag p l):=by
 unfold O6 ag
 rw [nW AC,AB,vO p l AC AC,AB]
 cases hb:W9 p l
 · rfl
 · obtain ⟨a1,a2,a3⟩:=bN hb
   have Y:=kD hb
   obtain ⟨y1,y2,y3⟩:=aZ Y
   have hY:=j1 Y
   obtain ⟨d1,d2,d3⟩:=es hY
   have O:=ZG hb
   obtain ⟨_,_,_,_⟩:=WJ O
   rw [Bool.not_true,cond_false,cond_true,qn N p l hl,AB,rg N O Y AC,AB,tN N O hY AC,AB]
   have f1:∀ s∈YJ p l,s.f7.length≤1000:=λs h=>by
    have:=PZ (λs:Shelf=>s.f7) _ s h
    rw [a2,VZ] at this; omega
   have f2:∀ s∈bc p (YJ p l),s.fM.length≤1000:=λs h=>by
    have:=PZ (λs:Layer=>s.fM) _ s h
    rw [y2,B5] at this; omega
   have f3:∀ s∈jg p (bc p (YJ p l)),s.f0.length≤1000:=λs h=>by
    have:=PZ (λs:Load=>s.f0) _ s h
    rw [d2,B5] at this; omega
   generalize jg p (bc p (YJ p l))=ld at d1 d3 f3 ⊢
   generalize bc p (YJ p l)=ly at y1 y3 hY d1 d3 f2 ⊢
   generalize YJ p l=sh at a1 a3 Y y1 y3 f1 ⊢
   have L4:=cp (ld.length:Int) (λn (out:List Spot) o=>B3 fu l sh ly ld n out o) (λos out=>some (t7 l sh ly ld os out)) (λos out=>out.length=l.length) AC ?_ ?_ ld.length fu (List.replicate l.length s9) 0 AC AC AC AD
   · exact L4
   · intro n out o os o0 o1 A L Q
     obtain ⟨x,V⟩:=aU (l:=ld) o0 o1
     have ex:nh ld o=x:=by unfold nh; rw [V]; rfl
     have Af:=d1 x (DA V)
     have Aj:=f3 x (DA V)
     simp only [B3.eq_2]
     unfold Q1
     rw [A,cond_true]
     have L3:=XD x.f0 (λm (s:List Spot×Int) i=>C2 fu (B3 fu l sh ly ld n) l sh ly ld o m s.1 s.2 i) (λis s=>B3 fu l sh ly ld n (tF l sh ly o is s).1 (AK (o+1))) (λis s=>s.1.length=l.length∧(∀ i∈is,0≤i∧i<ly.length)∧0≤s.2∧s.2+2000*is.length≤2000000) AC ?_ ?_ fu (out,0) ⟨L,Af.inn,AD,AJ⟩ AC
     · refine L3.trans ?_
       rw [Q _ (by rw [ec]; exact L)]
       simp only [t7,List.foldl_cons,ex]
     · intro m ⟨out,z⟩ i j is hj A L Q
       obtain ⟨T,E,i3,Z⟩:out.length=l.length∧(∀ i∈j::is,0≤i∧i<ly.length)∧0≤z∧z+2000*((j::is).length:Int)≤2000000:=L
       simp only [List.length_cons] at Z
       obtain ⟨Ah,_,_,_,J⟩:=eK hY (E j AD)
       have Ad:=y1 _ J
       have Ak:=f2 _ J
       simp only [C2.eq_2]
       unfold Qb
       rw [V,AB,A,cond_true,AB,hj,AB,Ah,AB]
       have L2:=XD (My ly j).fM (λq (s:List Spot×Int) k=>EM fu (C2 fu (B3 fu l sh ly ld n) l sh ly ld o m) l sh o z i (My ly j) q s.1 s.2 k) (λks s=>C2 fu (B3 fu l sh ly ld n) l sh ly ld o m (qF l sh o z ks s).1 (AK (z+(My ly j).fH)) (AK (i+1))) (λks s=>s.1.length=l.length∧(∀ i∈ks,0≤i∧i<sh.length)∧0≤s.2∧s.2+2000*ks.length≤2000000) AC ?_ ?_ fu (out,0) ⟨T,Ad.inn,AD,AJ⟩ AC
       · refine L2.trans ?_
         rw [AU (n:=z+_) AC AC]
         exact Q ((qF l sh o z (My ly j).fM (out,0)).1,z+(My ly j).fH) ⟨by rw [eD]; exact T,λi hi=>E i (by simp [hi]),AJ,AJ⟩
       · intro q ⟨out,y⟩ k b ks Ag A L Q
         obtain ⟨T,E,i3,Z⟩:out.length=l.length∧(∀ i∈b::ks,0≤i∧i<sh.length)∧0≤y∧y+2000*((b::ks).length:Int)≤2000000:=L
         simp only [List.length_cons] at Z
         obtain ⟨Ae,_,_,_,D⟩:=eY Y (E b AD)
         have Ac:=a1 _ D
         have Ai:=f1 _ D
         simp only [EM.eq_2]
         unfold Qf
         rw [A,cond_true,Ag,AB,Ae,AB]
         have L1:=XD (LQ sh b).f7 (λq' (s:List Spot×Int) k'=>JD fu (EM fu (C2 fu (B3 fu l sh ly ld n) l sh ly ld o m) l sh o z i (My ly j) q) l o z y k (LQ sh b) q' s.1 s.2 k') (λM s=>EM fu (C2 fu (B3 fu l sh ly ld n) l sh ly ld o m) l sh o z i (My ly j) q (qJ l o y z M s).1 (AK (y+(LQ sh b).fD)) (AK (k+1))) (λM s=>s.1.length=l.length∧(∀ i∈M,0≤i∧i<l.length)∧0≤s.2∧s.2+2000*M.length≤2000000) AC ?_ ?_ fu (out,0) ⟨T,Ac.inn,AD,AJ⟩ AC
         · refine L1.trans ?_
           rw [AU (n:=y+_) AC AC]
           exact Q ((qJ l o y z (LQ sh b).f7 (out,0)).1,y+(LQ sh b).fD) ⟨by rw [em]; exact T,λi hi=>E i (by simp [hi]),AJ,AJ⟩
         · intro q' ⟨out,U⟩ k' c M hc A L Q
           obtain ⟨T,E,i3,Z⟩:out.length=l.length∧(∀ i∈c::M,0≤i∧i<l.length)∧0≤U∧U+2000*((c::M).length:Int)≤2000000:=L
           simp only [List.length_cons] at Z
           have e:=E c AD
           obtain ⟨Ab,_,_,_,_⟩:=YY hb e
           obtain ⟨_,Aa⟩:=aU (l:=out) e.1 AC
           simp only [JD.eq_2]
           unfold Ql
           rw [A,cond_true,hc,AB,Aa,AB,AB,Ab,AB,AU (n:=U+_) AC AC]
           exact Q (DB out c ⟨o,U,y,z⟩,U+(KZ l c).fW) ⟨by rw [ZC]; exact T,λi hi=>E i (by simp [hi]),AJ,AJ⟩
         · intro q' ⟨out,U⟩ k' A _
           simp only [JD.eq_2]
           unfold Ql
           rw [A,cond_false]; rfl
       · intro q ⟨out,y⟩ k A _
         simp only [EM.eq_2]
         unfold Qf
         rw [A,cond_false]; rfl
     · intro m ⟨out,z⟩ i A _
       simp only [C2.eq_2]
       unfold Qb
       rw [V,AB,A,cond_false]; rfl
   · intro n out o A _
     simp only [B3.eq_2]
     unfold Q1
     rw [A,cond_false]; rfl
def iC (n:Int) (out:List Spot):Prop:=∀ s∈out,0≤s.fJ∧s.fJ≤n
theorem rv {n:Int} {out:List Spot} {i:Int} {s:Spot} (h:iC n out) (D:0≤s.fJ∧s.fJ≤n):iC n (DB out i s):=by
 intro t A
 unfold DB at A
 rcases List.mem_or_eq_of_mem_set A with A | rfl
 · exact h t A
 · exact D
theorem pg {n:Int} (l:List Box) (o y z:Int) (A:0≤o∧o≤n):∀ (is:List Int) (s:List Spot×Int),iC n s.1→iC n (qJ l o y z is s).1
 | [],_,h=>h
 | i::is,s,h=>pg l o y z A is (DB s.1 i ⟨o,s.2,y,z⟩,s.2+(KZ l i).fW) (rv h A)
theorem oR {n:Int} (l:List Box) (A:List Shelf) (o z:Int) (D:0≤o∧o≤n):∀ (is:List Int) (s:List Spot×Int),iC n s.1→iC n (qF l A o z is s).1
 | [],_,h=>h
 | i::is,s,h=>oR l A o z D is ((qJ l o s.2 z (LQ A i).f7 (s.1,0)).1,s.2+(LQ A i).fD) (pg l o s.2 z D _ (s.1,0) h)
theorem oX {n:Int} (l:List Box) (A:List Shelf) (D:List Layer) (o:Int) (E:0≤o∧o≤n):∀ (is:List Int) (s:List Spot×Int),iC n s.1→iC n (tF l A D o is s).1
 | [],_,h=>h
 | i::is,s,h=>oX l A D o E is ((qF l A o s.2 (My D i).fM (s.1,0)).1,s.2+(My D i).fH) (oR l A o s.2 E _ (s.1,0) h)
theorem oH {n:Int} (l:List Box) (A:List Shelf) (D:List Layer) (E:List Load):∀ (os:List Int) (out:List Spot),(∀ o∈os,0≤o∧o≤n)→iC n out→iC n (t7 l A D E os out)
 | [],_,_,h=>h
 | o::os,out,ho,h=>oH l A D E os (tF l A D o (nh E o).f0 (out,0)).1 (λq J=>ho q (by simp [J])) (oX l A D o (ho o AD) _ (out,0) h)
theorem sr {p:Pallet} {l:List Box} (hl:l.length≤1000):∀ s∈ag p l,0≤s.fJ∧s.fJ≤1000:=by
 unfold ag
 cases D:W9 p l
 · simp
 · have N:=(bN D).2.2
   have A:=kD D
   have L:=(aZ A).2.2
   have M:=(es (j1 A)).2.2
   rw [cond_true]
   refine oH l _ _ _ _ _ (λo E=>?_) λs J=>?_
   · have:=CE.1 E; omega
   · rw [(List.mem_replicate.1 J).2]; simp [s9]
def yr (r:Request) (k:Int):Bool:=CW k 0 (((CD r).length:Int) - 1)
theorem gz {r:Request} {k:Int} (h:yr r k=true):CA r=0:=by
 unfold yr at h
 rw [BS] at h
 by_cases A:CA r=0
 · exact A
 · have:CD r=[]:=by
     unfold CD Xs
     rw [show (CA r==0)=false by simp [A]]
     rfl
   rw [this] at h
   simp at h
   omega
theorem lz (r:Request) (g:List Int) (u i:Int) (us:List Int) {x:Item} (A:ix r.fU i=some x):b7 r g u (i::us)=bif g.contains x.fO then u::b7 r g (u+1) us else b7 r g (u+1) us:=by
 rw [b7,A]
theorem yh {fu:Nat} {r:Request} (h:Sm fu r) (k:Int):UX fu r k=some (QZ r k):=by
 have V:=h.fu
 unfold UX QZ
 rw [oI h,AB,oy,XT,AB]
 cases E:CW k 0 (((CD r).length:Int) - 1)
 · rw [Bool.not_false,cond_true]
   have:ix (CD r) k=none:=by
    have T:¬ (0≤k∧k≤((CD r).length:Int) - 1):=by intro T; rw [(BS).2 T] at E; cases E
    unfold ix
    by_cases U:0≤k
    · rw [if_pos U,List.getElem?_eq_none AC]
    · rw [if_neg U]
   rw [this]
 · have L:=gz E
   rw [BS] at E
   obtain ⟨j,rfl⟩:∃ j:Nat,k=j:=⟨k.toNat,AC⟩
   have M:j<(CD r).length:=AC
   have Aa:=(SA r).2 _ (List.getElem_mem M)
   rw [Bool.not_true,cond_false,xj h (D2 L).1,AB,W8 M]
   have e:CP r=tH r:=by unfold CP; rw [show (CA r==0)=true by simp [L],cond_true]
   simp only [e]
   have A:(tH r).length≤12:=nE (D2 L).1
   have:=eZ (tH r) (λn out i=>HC fu r (j:Int) (CD r) (tH r) n out i) (λpre D out=>some (out++b7 r (CD r)[j] (pre.length:Int) D)) (λpre D out=>out.length+D.length≤12) AC ?_ ?_ fu [] (by simpa using A) AC
   · simpa using this
   · intro n out pre i D hl Y J Q O
     simp only [List.length_cons] at Q
     have hi:i∈CP r:=by rw [e,hl]; simp
     have Z:=gW hi
     obtain ⟨q,rfl⟩:∃ q:Nat,i=q:=⟨i.toNat,AC⟩
     have N:q<r.fU.length:=AC
     simp only [HC.eq_2]
     unfold Ra NL
     simp only [J,cond_true,Y,AB,W8 M,W8 N,r7 (show (CD r)[j].length≤1048576 by omega) (show (CD r)[j].length<fu by omega)]
     rw [lz r _ _ _ _ (W8 N)]
     cases (CD r)[j].contains r.fU[q].fO
     · rw [cond_false,cond_false,O _ AC]
       simp
     · rw [cond_true,cond_true,KU AJ,AB,O _ AJ]
       simp
   · intro n out J Q
     simp only [HC.eq_2]
     unfold Ra
     simp only [J,cond_false]
     simp [b7]
theorem yH {fu:Nat} {r:Request} (h:Sm fu r) (k:Int):T8 fu r k=some (QZ r k):=by
 have U:=h.fu
 unfold T8 QZ
 rw [nM h,AB,oy,Ys,AB]
 cases E:CW k 0 (((CD r).length:Int) - 1)
 · rw [Bool.not_false,cond_true]
   have:ix (CD r) k=none:=by
    have Q:¬ (0≤k∧k≤((CD r).length:Int) - 1):=by intro Q; rw [(BS).2 Q] at E; cases E
    unfold ix
    by_cases T:0≤k
    · rw [if_pos T,List.getElem?_eq_none AC]
    · rw [if_neg T]
   rw [this]
 · have e:=gz E
   rw [BS] at E
   obtain ⟨j,rfl⟩:∃ j:Nat,k=j:=⟨k.toNat,AC⟩
   have L:j<(CD r).length:=AC
   have Z:=(SA r).2 _ (List.getElem_mem L)
   rw [Bool.not_true,cond_false,nF h,AB,W8 L]
   have A:=Yr r
   have:=eZ (CP r) (λn out i=>HB fu r (j:Int) (CD r) (CP r) n out i) (λpre D out=>some (out++b7 r (CD r)[j] (pre.length:Int) D)) (λpre D out=>out.length+D.length≤12) AC ?_ ?_ fu [] (by simpa using A) AC
   · simpa using this
   · intro n out pre i D hl V J O N
     simp only [List.length_cons] at O
     have hi:i∈CP r:=by rw [hl]; simp
     have Y:=gW hi
     obtain ⟨q,rfl⟩:∃ q:Nat,i=q:=⟨i.toNat,AC⟩
     have M:q<r.fU.length:=AC
     simp only [HB.eq_2]
     unfold Ro NS
     simp only [J,cond_true,V,AB,W8 L,W8 M,vw (show (CD r)[j].length≤1048576 by omega) (show (CD r)[j].length<fu by omega)]
     rw [lz r _ _ _ _ (W8 M)]
     cases (CD r)[j].contains r.fU[q].fO
     · rw [cond_false,cond_false,N _ AC]
       simp
     · rw [cond_true,cond_true,KU AJ,AB,N _ AJ]
       simp
   · intro n out J O
     simp only [HB.eq_2]
     unfold Ro
     simp only [J,cond_false]
     simp [b7]
def cf (l:List Int):List Int:=l.mergeSort λx y=>decide (x≤y)
theorem VE (l:List Int):(cf l).Perm l:=List.mergeSort_perm l _
theorem ml (l:List Int):(cf l).length=l.length:=(VE l).length_eq
def ai (r:Request) (k:Int) (l:List Int):Carton:=⟨(Qk r l).1.fe,k,cf l⟩
def Yb (r:Request) (k:Int):List Carton:=(ja r (QZ r k)).map (ai r k)
def WI (r:Request):List Int→List Carton
 | []=>[]
 | k::ks=>Yb r k++WI r ks
def O1 (r:Request):List Carton:=WI r (BW 0 (CD r).length)
theorem p9 (l:List Int):(BW 0 l.length).map (λp=>(ix l p).getD 0)=l:=by
 have D:∀ (A pre:List Int),l=pre++A→(BW pre.length A.length).map (λp=>(ix l p).getD 0)=A:=by
  intro A
  induction A with
  | nil=>intro pre _; rfl
  | cons x A L =>
   intro pre E
   have J:=L (pre++[x]) (by simp [E])
   simp only [List.length_append,List.length_singleton] at J
   simp only [List.length_cons,BW,List.map_cons]
   rw [show ((pre.length:Int)+1)=((pre.length+1:Nat):Int) by omega,J]
   congr 1
   rw [EG,E]
   simp
 exact D l [] rfl
theorem vc (l:List Int):(jM (kf l) l.length).map (λp=>(ix l p).getD 0)=cf l:=by
 refine oz ?_ ?_ (PH l)
 · refine ((Xr _ _).map _).trans ?_
   rw [p9]
   exact (VE l).symm
 · refine List.pairwise_map.2 ((aA (kf l) l.length).imp fun {p q} h=>?_)
   unfold lx kf at h
   omega
theorem lg {r:Request} (k:Int):(Yb r k).length≤12:=by
 have:=(j9 (r:=r) (aY r k)).1
 simp [Yb]; omega
theorem zl {fu:Nat} {r:Request} (h:Sm fu r):PO fu r=some (O1 r):=by
 have T:=h.fu
 have e:=(SA r).1
 unfold PO O1
 rw [nM h,AB]
 have:=cp ((CD r).length:Int) (λn out i=>DU fu r (CD r) n out i) (λD out=>some (out++WI r D)) (λD out=>out.length+12*D.length≤48) AC ?_ ?_ (CD r).length fu [] 0 AC AC AC (by simp [B5]; omega)
 · simpa using this
 · intro n out k ks Z Y E M L
   simp only [List.length_cons] at M
   have N:=aY r k
   have A:=j9 (r:=r) N
   simp only [DU.eq_2]
   unfold MW
   rw [E,cond_true,yH h,AB,yC h _ AC,AB]
   have J:=XD (ja r (QZ r k)) (λm o i=>HE fu (DU fu r (CD r) n) r k (ja r (QZ r k)) m o i) (λD o=>DU fu r (CD r) n (o++D.map (ai r k)) (AK (k+1))) (λD o=>o.length+D.length≤48∧∀ l∈D,l.length≤12) (by have:=A.1; omega) ?_ ?_ fu out ⟨by have:=A.1; omega,A.2⟩ (by have:=A.1; omega)
   · rw [J,L _ (by have:=A.1; simp; omega)]
     simp [WI,Yb]
   · intro m o i l D U E M L
     obtain ⟨V,O⟩:=M
     simp only [List.length_cons] at V
     have hl:=O l AD
     simp only [HE.eq_2]
     unfold MS
     rw [E,cond_true,U,AB,oJ h l AC,AB,show CL fu l=some (cf l) from e8 AC,AB,KU AJ,AB,L _ ⟨AJ,λy Q=>O y (by simp [Q])⟩]
     simp [ai]
   · intro m o i E _
     simp only [HE.eq_2]
     unfold MS
     rw [E,cond_false]; simp
 · intro n out k E _
   simp only [DU.eq_2]
   unfold MW
   rw [E,cond_false]; simp [WI]
theorem xV {fu:Nat} {r:Request} (h:Sm fu r):PX fu r=some (O1 r):=by
 have T:=h.fu
 have hg:=(SA r).1
 unfold PX O1
 rw [oI h,AB]
 have:=cp ((CD r).length:Int) (λn out i=>BQ fu r (CD r) n out i) (λA out=>some (out++WI r A)) (λA out=>out.length+12*A.length≤48) AC ?_ ?_ (CD r).length fu [] 0 AC AC AC (by simp [B5]; omega)
 · simpa using this
 · intro n out k ks h0 h1 D M L
   simp only [List.length_cons] at M
   have Z:=aY r k
   have E:=j9 (r:=r) Z
   simp only [BQ.eq_2]
   unfold M0
   rw [D,cond_true,yh h,AB,zr h _ AC,AB]
   have O:=XD (ja r (QZ r k)) (λm o i=>CT fu (BQ fu r (CD r) n) r k (ja r (QZ r k)) m o i) (λA o=>BQ fu r (CD r) n (o++A.map (ai r k)) (AK (k+1))) (λA o=>o.length+A.length≤48∧∀ l∈A,l.length≤12) (by have:=E.1; omega) ?_ ?_ fu out ⟨by have:=E.1; omega,E.2⟩ (by have:=E.1; omega)
   · rw [O,L _ (by have:=E.1; simp; omega)]
     simp [WI,Yb]
   · intro m o i l A e D M L
     obtain ⟨h2,h3⟩:=M
     simp only [List.length_cons] at h2
     have hl:=h3 l AD
     simp only [CT.eq_2]
     unfold Nc Qs
     rw [D,cond_true,e,AB,oZ h l AC,AB,AB,zc T AC,AB]
     have V:=VZ (kf l) l.length
     have J:=λx=>ZA (k:=kf l) (n:=l.length) (x:=x)
     have N:=vc l
     generalize jM (kf l) l.length=S at V J N ⊢
     have k1:=XD S (λY us j=>HL fu (CT fu (BQ fu r (CD r) n) r k (ja r (QZ r k)) m) k (ja r (QZ r k)) o i (Qk r l).1 S Y us j)
      (λA us=>AA (BE 40 o [(⟨(Qk r l).1.fe,k,us++A.map λp=>(ix l p).getD 0⟩:Carton)]) λx=>Lm fu (CT fu (BQ fu r (CD r) n) r k (ja r (QZ r k)) m) i x) (λA us=>us.length+A.length≤12∧∀ p∈A,0≤p∧p<l.length) AC ?_ ?_ fu [] ⟨AJ,λp U=>(J p).1 U⟩ AC
     · rw [k1,List.nil_append,N,KU AJ,AB]
       unfold Lm
       rw [L _ ⟨AJ,λy Q=>h3 y (by simp [Q])⟩]
       simp [ai]
     · intro Y us j p ps U D M L
       obtain ⟨h4,h5⟩:=M
       simp only [List.length_cons] at h4
       simp only [HL.eq_2]
       unfold MT
       rw [D,cond_true,e,AB,U,AB,mR (h5 p AD),AB,KU AJ,AB,L _ ⟨AJ,λy Q=>h5 y (by simp [Q])⟩]
       simp
     · intro Y us j D _
       simp only [HL.eq_2]
       unfold MT
       rw [D,cond_false]; simp
   · intro m o i D _
     simp only [CT.eq_2]
     unfold Nc QA
     rw [D,cond_false]; simp
 · intro n out k D _
   simp only [BQ.eq_2]
   unfold M0
   rw [D,cond_false]; simp [WI]
theorem lu (r:Request):∀ (ks:List Int),(WI r ks).length≤12*ks.length
 | []=>by simp [WI]
 | k::ks=>by
  have:=lu r ks
  have:=lg (r:=r) k
  simp [WI]; omega
theorem bH (r:Request):(O1 r).length≤48:=by
 have:=lu r (BW 0 (CD r).length)
 have A:=(SA r).1
 rw [B5] at this
 unfold O1
 omega
theorem Zh {r:Request} {c:Carton}:∀ {ks:List Int},c∈WI r ks↔∃ k∈ks,∃ l∈ja r (QZ r k),c=ai r k l
 | []=>by simp [WI]
 | k::ks=>by
  simp only [WI,List.mem_append,Zh (ks:=ks),List.mem_cons,Yb,List.mem_map]
  constructor
  · rintro (⟨l,hl,rfl⟩ | ⟨A,D,l,hl,e⟩)
    · exact ⟨k,.inl rfl,l,hl,rfl⟩
    · exact ⟨A,.inr D,l,hl,e⟩
  · rintro ⟨A,rfl | D,l,hl,rfl⟩
    · exact .inl ⟨l,hl,rfl⟩
    · exact .inr ⟨A,D,l,hl,rfl⟩
theorem ZK {r:Request} {c:Carton} (h:c∈O1 r):c.fK.length≤12:=by
 obtain ⟨k,_,l,hl,rfl⟩:=Zh.1 h
 have:=(j9 (r:=r) (aY r k)).2 l hl
 simp only [ai,ml]
 omega
def pY:List Int→Int
 | []=>1
 | x::xs=>x*pY xs
theorem rc {a b:List Int} (h:a.Perm b):pY a=pY b:=by
 induction h with
 | nil=>rfl
 | cons x _ D=>simp only [pY,D]
 | swap x y l=>simp only [pY,← Int.mul_assoc]; rw [Int.mul_comm x y]
 | trans _ _ E A=>rw [E,A]
theorem oo (a b c:Int):(YU a b c).1*((YU a b c).2.1*(YU a b c).2.2)=a*b*c:=by
 have h:=mU a b c
 unfold aL at h
 simp only [List.length_cons,List.length_nil] at h
 rw [if_pos AC] at h
 have A:=List.mergeSort_perm [a,b,c] λx y=>decide (x≤y)
 rw [Option.some.inj h] at A
 have:=rc A
 simp only [pY,Int.mul_one] at this
 rw [this,Int.mul_assoc]
theorem xe {a b c m:Int} (E:m≤a) (D:m≤b) (A:m≤c):m≤(YU a b c).1:=by
 unfold YU
 simp only
 split <;> split <;> omega
theorem tL {x:Item} {t:Typ} (N:VP x=true) (J:Yo t=true) (h:X8 x t=true):gL x≤iU t∧x.fQ≤t.fQ:=by
 simp only [VP,Bool.and_eq_true,BS] at N
 simp only [Yo,Bool.and_eq_true,BS] at J
 simp only [X8,Bool.and_eq_true,decide_eq_true_eq] at h
 obtain ⟨⟨⟨O,A⟩,M⟩,D⟩:=h
 refine ⟨?_,D⟩
 have E:gL x=x.fW*x.fH*x.fD:=by
  unfold gL bV
  rw [show (CW x.fW 0 2000&&(CW x.fH 0 2000&&CW x.fD 0 2000))=true by simp; omega,cond_true]
 have L:iU t=t.fW*t.fH*t.fD:=by
  unfold iU bV
  rw [show (CW t.fW 0 2000&&(CW t.fH 0 2000&&CW t.fD 0 2000))=true by simp; omega,cond_true]
 rw [E,L,← oo x.fW x.fH x.fD,← oo t.fW t.fH t.fD]
 have T:1≤(YU x.fW x.fH x.fD).1:=xe AC AC AC
 have s1:=eU x.fW x.fH x.fD
 have Q:=eU t.fW t.fH t.fD
 refine Int.mul_le_mul O ?_ (Int.mul_nonneg AC AC) AC
 exact Int.mul_le_mul A M AC AC
theorem aJ {r:Request} {u:Int} (h:0≤u∧u<(CP r).length):LL r u∈r.fU:=(k8 (XW h)).2
theorem g8 {r:Request} {u:Int} (h:0≤u∧u<(CP r).length):CA r=0:=(k8 (XW h)).1
theorem pk {r:Request} (D:CA r=0):Ky r r.fP=some (Vn r)∧Vn r∈r.fG∧Yo (Vn r)=true:=by
 have h:=(D2 D).2.1
 unfold du at h
 simp only [Bool.and_eq_true] at h
 obtain ⟨t,A⟩:=Option.isSome_iff_exists.1 h.1.2
 have e:Vn r=t:=by unfold Vn; rw [A]; rfl
 have E:t∈r.fG:=List.mem_of_find?_eq_some A
 rw [e]
 exact ⟨A,E,ZE (D2 D).1 t E⟩
theorem n0 {r:Request} {u:Int} (h:0≤u∧u<(CP r).length):Vo r [u]=gL (LL r u)∧UO r [u]=(LL r u).fQ:=by
 unfold Vo UO Wu
 simp [List.filterMap_cons,XW h]
theorem pG {r:Request} {u:Int} (h:0≤u∧u<(CP r).length):XS r [u] (Vn r)=true:=by
 have A:=g8 h
 have D:=D2 A
 have E:=aJ h
 obtain ⟨L,J⟩:=tL ((PY D.1).1 _ E) (pk A).2.2 (D.2.2.2.1 _ E)
 unfold XS
 rw [(n0 h).1,(n0 h).2,Bool.and_eq_true,decide_eq_true_iff,decide_eq_true_iff]
 exact ⟨L,J⟩
def Qc (r:Request) (us:List Int) (l:List Int):Prop:=l≠[]∧(∀ u∈l,u∈us)∧XS r l (Vn r)=true
theorem wm {r:Request} {us:List Int} {out:List (List Int)} {u:Int} (h:∀ l∈out,Qc r us l) (E:u∈us) (M:0≤u∧u<(CP r).length):∀ l∈p8 r out u,Qc r us l:=by
 have J:Qc r us [u]:=⟨AD,λv A=>by rw [List.mem_singleton.1 A]; exact E,pG M⟩
 intro l hl
 unfold p8 lR at hl
 split at hl
 · rename_i i hi
   obtain ⟨x,D,N⟩:=Xl hi
   rw [D] at hl
   rcases List.mem_or_eq_of_mem_set hl with hl | rfl
   · exact h l hl
   · have L:=h x (List.mem_of_getElem? D)
     refine ⟨AD,λv A=>?_,N⟩
     rcases List.mem_append.1 A with A | A
     · exact L.2.1 v A
     · rw [List.mem_singleton.1 A]; exact E
 · rcases List.mem_append.1 hl with hl | hl
   · exact h l hl
   · rw [List.mem_singleton.1 hl]; exact J
theorem wV {r:Request} {us:List Int} {out:List (List Int)} {u:Int} (h:∀ l∈out,Qc r us l) (J:u∈us) (N:0≤u∧u<(CP r).length):∀ l∈bI r out u,Qc r us l:=by
 have L:Qc r us [u]:=⟨AD,λv D=>by rw [List.mem_singleton.1 D]; exact J,pG N⟩
 intro l hl
 cases A:out.getLast? with
 | none =>
  unfold bI at hl
  rw [A] at hl
  rw [List.mem_singleton.1 hl]; exact L
 | some x =>
  rw [ZN u A] at hl
  have M:=h x (List.mem_of_getLast? A)
  cases E:YB r u x
  · rw [E,cond_false] at hl
    rcases List.mem_append.1 hl with hl | hl
    · exact h l hl
    · rw [List.mem_singleton.1 hl]; exact L
  · rw [E,cond_true] at hl
    rcases List.mem_or_eq_of_mem_set hl with hl | rfl
    · exact h l hl
    · refine ⟨AD,λv D=>?_,E⟩
      rcases List.mem_append.1 D with D | D
      · exact M.2.1 v D
      · rw [List.mem_singleton.1 D]; exact J
theorem m9 {r:Request} {us:List Int} {F:List (List Int)→Int→List (List Int)} (A:∀ out u,(∀ l∈out,Qc r us l)→u∈us→(0≤u∧u<(CP r).length)→∀ l∈F out u,Qc r us l):∀ (vs:List Int) (out:List (List Int)),(∀ u∈vs,u∈us∧0≤u∧u<(CP r).length)→(∀ l∈out,Qc r us l)→∀ l∈vs.foldl F out,Qc r us l
 | [],out,_,h=>h
 | v::vs,out,hv,h=>by
  rw [List.foldl_cons]
  have D:=hv v AD
  exact m9 A vs _ (λu E=>hv u (by simp [E])) (A out v h D.1 D.2)
theorem jL (r:Request) (us:List Int):(mz r us).Perm us:=by
 unfold mz
 refine ((Xr _ _).map _).trans ?_
 have D:∀ (A pre:List Int),us=pre++A→(BW pre.length A.length).map (λp=>(ix us p).getD 0)=A:=by
  intro A
  induction A with
  | nil=>intro pre _; rfl
  | cons x A L =>
   intro pre E
   have J:=L (pre++[x]) (by simp [E])
   simp only [List.length_append,List.length_singleton] at J
   simp only [List.length_cons,BW,List.map_cons]
   rw [show ((pre.length:Int)+1)=((pre.length+1:Nat):Int) by omega,J]
   congr 1
   rw [EG,E]
   simp
 have:=D us [] rfl
 simp only [List.length_nil] at this
 exact List.Perm.of_eq this
theorem rK {r:Request} {us:List Int}:∀ l∈ja r us,Qc r (OI r us) l:=by
 unfold ja vR vD
 have E:∀ u∈OI r us,u∈OI r us∧0≤u∧u<(CP r).length:=λu A=>⟨A,bE A⟩
 cases r.fc==1
 · rw [cond_false]
   exact m9 (λout u h A D=>wm h A D) _ [] (λu A=>E u ((jL r _).mem_iff.1 A)) AD
 · rw [cond_true]
   exact m9 (λout u h A D=>wV h A D) _ [] E AD
theorem qk (g:List Int→Bool) (out:List (List Int)) (u:Int):(lR g out u).flatten.Perm (out.flatten++[u]):=by
 unfold lR
 split
 · rename_i i hi
   obtain ⟨x,A,_⟩:=Xl hi
   rw [A]
   exact Zk A
 · simp
theorem qx (r:Request) (out:List (List Int)) (u:Int):(bI r out u).flatten.Perm (out.flatten++[u]):=by
 cases A:out.getLast? with
 | none =>
  have:out=[]:=List.getLast?_eq_none_iff.1 A
  subst this
  unfold bI
  simp
 | some x =>
  rw [ZN u A]
  cases YB r u x
  · simp
  · rw [cond_true]
    rw [List.getLast?_eq_getElem?] at A
    exact Zk A
theorem cM {F:List (List Int)→Int→List (List Int)} (A:∀ out u,(F out u).flatten.Perm (out.flatten++[u])):∀ (vs:List Int) (out:List (List Int)),(vs.foldl F out).flatten.Perm (out.flatten++vs)
 | [],out=>by simp
 | v::vs,out=>by
  rw [List.foldl_cons]
  refine (cM A vs _).trans (((A out v).append_right vs).trans ?_)
  simp
theorem nP (r:Request) (us:List Int):(ja r us).flatten.Perm (OI r us):=by
 unfold ja vR vD
 cases r.fc==1
 · rw [cond_false]
   refine (cM (λout u=>qk _ out u) _ []).trans ?_
   simpa using jL r (OI r us)
 · rw [cond_true]
   refine (cM (λout u=>qx r out u) _ []).trans ?_
   simp
theorem Xy {α:Type} (A:List α) (n:Int) (y:α):(DB A n y).length=A.length:=by simp [DB]
def W2:List Carton→Nat
 | []=>0
 | x::xs=>x.fK.length+W2 xs
structure Sp (x:Plan):Prop where
 cars:x.fV.length≤1048576
 units:∀ c∈x.fV,c.fK.length≤1048576
 all:W2 x.fV≤1048576
 spots:x.fE.length≤1048576
def dK:List Int→List Int→Bool
 | _,[]=>true
 | pre,x::xs=>CW x 0 999&&((match pre.getLast? with | none=>true | some y=>decide (y<x))&&dK (pre++[x]) xs)
def lY (l:List Int):Bool:=dK [] l&&decide ((l.length:Int)≤100)
def aw (c:Carton):Bool:=CW c.f8 0 999&&(CW c.fF 0 3&&lY c.fK)
def j6 (s:Spot):Bool:=CW s.fJ 0 2000&&(CW s.fX 0 2000&&(CW s.fY 0 2000&&CW s.fZ 0 2000))
def RO (x:Plan):Bool:=x.fE.length==x.fV.length&&(decide ((x.fV.length:Int)≤100)&&(x.fV.zip x.fE).all λp=>aw p.1&&j6 p.2)
theorem pJ {pre:List Int} {x:Int} {J l:List Int} (hl:l.length≤1048576) (e:l=pre++x::J):(pre.getLast? = none∧pre.length=0)∨∃ y,pre.getLast? = some y∧0<pre.length∧ix l (AK ((pre.length:Int) - 1))=some y:=by
 cases D:pre.getLast? with
 | none=>exact .inl ⟨rfl,by simpa using List.getLast?_eq_none_iff.1 D⟩
 | some y =>
  have E:pre≠[]:=λe=>by subst e; simp at D
  have A:0<pre.length:=List.length_pos_iff.2 E
  refine .inr ⟨y,rfl,A,?_⟩
  have L:AK ((pre.length:Int) - 1)=((pre.length - 1:Nat):Int):=by
   have:pre.length≤l.length:=by rw [e]; simp
   rw [AU AC AC]; omega
  rw [L,EG,e,List.getElem?_append_left AC,← List.getLast?_eq_getElem?,D]
theorem yF {fu:Nat} {l:List Int} (hl:l.length≤1048576) (Q:l.length<fu):NM fu l=some (lY l):=by
 unfold NM lY
 have D:=vM l (λn (_:Unit) i=>E5 fu l n i) (λpre M _=>some (dK pre M&&decide ((l.length:Int)≤100))) AC ?_ ?_ fu () Q
 · exact D
 · intro n _ pre x M e N J A
   have A:=A ()
   simp only [E5.eq_2]
   unfold LR KT dK
   rw [J,cond_true,N,AB,Ys,AB]
   cases CW x 0 999
   · rfl
   · rw [Bool.not_true,cond_false,Bool.true_and]
     rcases pJ (hl:=hl) e with ⟨E,O⟩ | ⟨y,E,O,T⟩
     · rw [E,show decide ((pre.length:Int)>0)=false from decide_eq_false AC,cond_false,A]
       simp
     · rw [E,show decide ((pre.length:Int)>0)=true from decide_eq_true AC,cond_true,T,AB,A]
       by_cases L:y<x
       · rw [show decide (y≥x)=false by simp; omega,cond_false]; simp [L]
       · rw [show decide (y≥x)=true by simp; omega,cond_true]; simp [L]
 · intro n _ J
   simp only [E5.eq_2]
   unfold LR
   rw [J,cond_false]
   simp [dK]
theorem xK {fu:Nat} {c:Carton} (hl:c.fK.length≤1048576) (Q:c.fK.length<fu):PP fu c=some (aw c):=by
 unfold PP aw
 rw [uY,AB,XT,AB]
 cases CW c.f8 0 999
 · rfl
 · rw [Bool.not_true,cond_false]
   cases CW c.fF 0 3
   · rfl
   · rw [Bool.not_true,cond_false,Bool.true_and,Bool.true_and]
     unfold lY
     by_cases A:(c.fK.length:Int)≤100
     · rw [show decide ((c.fK.length:Int)>100)=false by simp; omega,cond_false,show decide ((c.fK.length:Int)≤100)=true by simpa using A,Bool.and_true]
       unfold QD
       have E:=vM c.fK (λn (_:Unit) i=>FK fu c n i) (λpre M _=>some (dK pre M)) AC ?_ ?_ fu () Q
       · exact E
       · intro n _ pre x M e N J D
         have D:=D ()
         simp only [FK.eq_2]
         unfold M3 Ll dK
         rw [J,cond_true,N,AB,XT,AB]
         cases CW x 0 999
         · rfl
         · rw [Bool.not_true,cond_false,Bool.true_and]
           rcases pJ (hl:=hl) e with ⟨A,O⟩ | ⟨y,A,O,T⟩
           · rw [A,show decide ((pre.length:Int)>0)=false from decide_eq_false AC,cond_false,D]
             simp
           · rw [A,show decide ((pre.length:Int)>0)=true from decide_eq_true AC,cond_true,AB,T,AB,D]
             by_cases L:y<x
             · rw [show decide (x≤y)=false by simp; omega,cond_false]; simp [L]
             · rw [show decide (x≤y)=true by simp; omega,cond_true]; simp [L]
       · intro n _ J
         simp only [FK.eq_2]
         unfold M3
         rw [J,cond_false]
         simp [dK]
     · rw [show decide ((c.fK.length:Int)>100)=true by simp; omega,cond_true,show decide ((c.fK.length:Int)≤100)=false by simpa using A,Bool.and_false]
theorem Ya {α β:Type} {a:List α} {b:List β} {i:Int} {p:α×β} (h:ix (a.zip b) i=some p):ix a i=some p.1∧ix b i=some p.2:=by
 obtain ⟨A,_,D⟩:=AG h
 have:=List.getElem?_zip_eq_some.1 D
 unfold ix
 rw [if_pos A,if_pos A]
 exact this
theorem rl {fu:Nat} {x:Plan} (h:Sp x) (Z:1048577≤fu):K6 fu x=some (RO x):=by
 have Y:=h.spots
 have e:=h.cars
 unfold K6 RO
 cases L:x.fE.length==x.fV.length
 · have:((x.fE.length:Int) != (x.fV.length:Int))=true:=by simp at L ⊢; omega
   rw [this]; rfl
 · have U:x.fE.length=x.fV.length:=by simpa using L
   have:((x.fE.length:Int) != (x.fV.length:Int))=false:=AJ
   rw [this,cond_false,Bool.true_and]
   by_cases M:(x.fV.length:Int)≤100
   · rw [show decide ((x.fV.length:Int)>100)=false by simp; omega,cond_false,show decide ((x.fV.length:Int)≤100)=true by simpa using M,Bool.true_and]
     unfold VL
     have N:(x.fV.zip x.fE).length=x.fV.length:=AJ
     have D:=lp (x.fV.zip x.fE) (λn (_:Unit) i=>IF fu x n i) (λl _=>some (l.all λp=>aw p.1&&j6 p.2)) AC ?_ ?_ fu () AC
     · exact D
     · intro n _ i p V Q A E
       have E:=E ()
       obtain ⟨J,O⟩:=Ya Q
       have T:=h.units p.1 (DA J)
       rw [N] at A
       simp only [IF.eq_2]
       unfold SK VO
       simp only [A,cond_true,J,O,AB,Ys,yF T (show p.1.fK.length<fu by omega),kq,E,List.all_cons]
       unfold aw j6
       cases CW p.1.f8 0 999 <;> cases CW p.1.fF 0 3 <;> cases lY p.1.fK <;> cases CW p.2.fJ 0 2000 <;> cases CW p.2.fX 0 2000 <;> cases CW p.2.fY 0 2000 <;> cases CW p.2.fZ 0 2000 <;> rfl
     · intro n _ i A
       rw [N] at A
       simp only [IF.eq_2]
       unfold SK
       simp [A]
   · rw [show decide ((x.fV.length:Int)>100)=true by simp; omega,cond_true,show decide ((x.fV.length:Int)≤100)=false by simpa using M,Bool.false_and]
theorem nC {fu:Nat} {x:Plan} (h:Sp x) (Z:1048577≤fu):IU fu x=some (RO x):=by
 have Y:=h.spots
 have e:=h.cars
 unfold IU RO
 cases L:x.fE.length==x.fV.length
 · have:((x.fV.length:Int) != (x.fE.length:Int))=true:=by simp at L ⊢; omega
   rw [this]; rfl
 · have U:x.fE.length=x.fV.length:=by simpa using L
   have:((x.fV.length:Int) != (x.fE.length:Int))=false:=AJ
   rw [this,cond_false,Bool.true_and]
   by_cases M:(x.fV.length:Int)≤100
   · rw [show decide ((x.fV.length:Int)>100)=false by simp; omega,cond_false,show decide ((x.fV.length:Int)≤100)=true by simpa using M,Bool.true_and]
     unfold VT
     have N:(x.fV.zip x.fE).length=x.fV.length:=AJ
     have D:=lp (x.fV.zip x.fE) (λn (_:Unit) i=>H9 fu x n i) (λl _=>some (l.all λp=>aw p.1&&j6 p.2)) AC ?_ ?_ fu () AC
     · exact D
     · intro n _ i p V Q A E
       have E:=E ()
       obtain ⟨J,O⟩:=Ya Q
       have T:=h.units p.1 (DA J)
       rw [N] at A
       simp only [H9.eq_2]
       unfold SV Vu
       simp only [A,cond_true,J,O,AB,XT,xK T (show p.1.fK.length<fu by omega),E,List.all_cons]
       unfold j6
       cases aw p.1 <;> cases CW p.2.fJ 0 2000 <;> cases CW p.2.fX 0 2000 <;> cases CW p.2.fY 0 2000 <;> cases CW p.2.fZ 0 2000 <;> rfl
     · intro n _ i A
       rw [N] at A
       simp only [H9.eq_2]
       unfold SV
       simp [A]
   · rw [show decide ((x.fV.length:Int)>100)=true by simp; omega,cond_true,show decide ((x.fV.length:Int)≤100)=false by simpa using M,Bool.false_and]
def k9 (k:Int):Int→List Spot→List Int
 | _,[]=>[]
 | i,s::l=>bif s.fJ==k then i::k9 k (i+1) l else k9 k (i+1) l
def YF (x:Plan) (k:Int):List Int:=bif x.fE.length==x.fV.length then k9 k 0 x.fE else []
theorem nJ (k:Int):∀ (l:List Spot) (a i:Int),i∈k9 k a l↔∃ (j:Nat) (s:Spot),l[j]? = some s∧i=a+j∧s.fJ=k
 | [],a,i=>by simp [k9]
 | s::l,a,i=>by
  have J:=nJ k l (a+1) i
  constructor
  · intro h
    unfold k9 at h
    cases E:s.fJ==k
    · rw [E,cond_false] at h
      obtain ⟨j,t,A,L,D⟩:=J.1 h
      exact ⟨j+1,t,by simpa using A,AC,D⟩
    · rw [E,cond_true,List.mem_cons] at h
      rcases h with rfl | h
      · exact ⟨0,s,rfl,AC,by simpa using E⟩
      · obtain ⟨j,t,A,L,D⟩:=J.1 h
        exact ⟨j+1,t,by simpa using A,AC,D⟩
  · rintro ⟨j,t,A,L,D⟩
    unfold k9
    cases j with
    | zero =>
     simp only [List.getElem?_cons_zero,Option.some.injEq] at A
     subst A
     rw [show (s.fJ==k)=true by simpa using D,cond_true]
     simp; omega
    | succ j =>
     have:i∈k9 k (a+1) l:=J.2 ⟨j,t,by simpa using A,AC,D⟩
     cases s.fJ==k <;> simp [this]
theorem pC (k:Int):∀ (l:List Spot) (a:Int),(k9 k a l).length≤l.length
 | [],_=>Nat.le_refl _
 | s::l,a=>by
  have:=pC k l (a+1)
  unfold k9
  cases s.fJ==k <;> simp <;> omega
theorem eH (x:Plan) (k:Int):(YF x k).length≤x.fE.length:=by
 unfold YF
 cases x.fE.length==x.fV.length
 · simp
 · exact pC k _ 0
theorem ZH {x:Plan} {k i:Int} (h:i∈YF x k):∃ c s,ix x.fV i=some c∧ix x.fE i=some s∧s.fJ=k:=by
 unfold YF at h
 cases A:x.fE.length==x.fV.length
 · rw [A] at h; simp at h
 · rw [A,cond_true] at h
   obtain ⟨j,s,D,_,E⟩:=(nJ k _ 0 i).1 h
   have J:=(List.getElem?_eq_some_iff.1 D).1
   have hl:x.fE.length=x.fV.length:=by simpa using A
   have e:i=(j:Int):=AC
   subst e
   exact ⟨_,s,W8 AC,mi D,E⟩
theorem y9 {fu:Nat} {x:Plan} (hl:x.fE.length≤1048576) (O:x.fE.length<fu) (k:Int):ME fu x k=some (YF x k):=by
 unfold ME YF
 cases L:x.fE.length==x.fV.length
 · have:((x.fE.length:Int) != (x.fV.length:Int))=true:=by simp at L ⊢; omega
   rw [this]; rfl
 · have:((x.fE.length:Int) != (x.fV.length:Int))=false:=by simp at L ⊢; omega
   rw [this,cond_false,cond_true]
   have D:=eZ x.fE (λn (o:List Int) i=>GA fu x k n o i) (λpre A o=>some (o++k9 k pre.length A)) (λpre A o=>o.length+A.length≤1048576) AC ?_ ?_ fu [] AJ O
   · simpa using D
   · intro n o pre s A e M E N J
     simp only [List.length_cons] at N
     simp only [GA.eq_2]
     unfold Pu L8 k9
     rw [E,cond_true,M,AB]
     cases s.fJ==k
     · rw [cond_false,cond_false,J _ AC]; simp
     · rw [cond_true,cond_true,KU AJ,AB,J _ AJ]; simp
   · intro n o E _
     simp only [GA.eq_2]
     unfold Pu
     rw [E,cond_false]; simp [k9]
theorem y8 {fu:Nat} {x:Plan} (hl:x.fE.length≤1048576) (V:x.fV.length≤1048576) (T:x.fE.length<fu) (Q:x.fV.length<fu) (k:Int):MN fu x k=some (YF x k):=by
 unfold MN YF
 cases M:x.fE.length==x.fV.length
 · have e:((x.fV.length:Int)==(x.fE.length:Int))=false:=by simp at M ⊢; omega
   obtain ⟨m,rfl⟩:∃ m,fu=m+1:=⟨fu - 1,AC⟩
   rw [D7.eq_2]
   unfold KY
   rw [e]
   cases decide ((0:Int)<(x.fV.length:Int)) <;> rfl
 · have J:x.fE.length=x.fV.length:=by simpa using M
   have e:((x.fV.length:Int)==(x.fE.length:Int))=true:=AJ
   rw [cond_true]
   have E:=eZ x.fE (λn (o:List Int) i=>D7 fu x k n o i) (λpre A o=>some (o++k9 k pre.length A)) (λpre A o=>o.length+A.length≤1048576) AC ?_ ?_ fu [] AJ T
   · simpa using E
   · intro n o pre s A U N D O L
     simp only [List.length_cons] at O
     simp only [D7.eq_2]
     unfold KY SP LS k9
     rw [J] at D
     rw [D,cond_true,e,cond_true,N,AB]
     cases s.fJ==k
     · rw [cond_false,cond_false,L _ AC]; simp
     · rw [cond_true,cond_true,KU AJ,AB,L _ AJ]; simp
   · intro n o D _
     simp only [D7.eq_2]
     unfold KY
     rw [← J,D,cond_false]; simp [k9]
def zU:Carton:=⟨0,0,[]⟩
def Wx (x:Plan) (i:Int):Carton:=(ix x.fV i).getD zU
def uA (r:Request) (x:Plan) (k:Int):Int:=IM ((YF x k).map λi=>bt r (Wx x i))
theorem sJ (r:Request) (c:Carton) (hl:c.fK.length≤1048576):0≤bt r c∧bt r c≤104857700000:=by
 unfold bt
 cases D:Ky r c.f8 with
 | none=>simp
 | some t =>
  cases A:CA r==0
  · simp
  · have J:=pd (by simpa using A) D
    have E:=jO r c.fK
    simp only [cond_true]
    omega
theorem zI {fu:Nat} {r:Request} (h:Sm fu r) {x:Plan} (N:Sp x) (k:Int):NQ fu r x k=some (uA r x k):=by
 have O:=h.fu
 have T:=N.spots
 have Y:=eH x k
 unfold NQ uA
 rw [y9 T AC,AB]
 have E:=XD (YF x k) (λn (s:Int) i=>GH fu r x (YF x k) n s i) (λl s=>some (s+IM (l.map λi=>bt r (Wx x i)))) (λl s=>0≤s∧s+104857700000*l.length≤104857700000*1048576∧∀ i∈l,∃ c,ix x.fV i=some c) AC ?_ ?_ fu 0 ⟨AC,AC,λi hi=>?_⟩ AC
 · simpa using E
 · intro n s i j V U J L Q
   obtain ⟨c,D⟩:=L.2.2 j AD
   have A:=N.units c (DA D)
   have Z:=sJ r c A
   have M:=L.2.1
   simp only [List.length_cons] at M
   simp only [GH.eq_2]
   unfold LW
   rw [J,cond_true,U,AB,D,AB,np h c A,AB,AU AC AC,Q _ ⟨AC,AC,λi hi=>L.2.2 i (by simp [hi])⟩]
   simp only [List.map_cons,ED,Wx,D,Option.getD_some]
   congr 1
   omega
 · intro n s i J _
   simp only [GH.eq_2]
   unfold LW
   rw [J,cond_false]; simp
 · obtain ⟨c,_,D,_⟩:=ZH hi
   exact ⟨c,D⟩
theorem zN {fu:Nat} {r:Request} (h:Sm fu r) {x:Plan} (J:Sp x) (k:Int):NW fu r x k=some (uA r x k):=by
 have O:=h.fu
 have T:=J.spots
 have U:=J.cars
 have Z:=eH x k
 unfold NW uA
 rw [y8 T U AC AC,AB]
 have E:=XD (YF x k) (λn (s:Int) i=>GF fu r x (YF x k) n s i) (λl s=>some (s+IM (l.map λi=>bt r (Wx x i)))) (λl s=>0≤s∧s+104857700000*l.length≤104857700000*1048576∧∀ i∈l,∃ c,ix x.fV i=some c) AC ?_ ?_ fu 0 ⟨AC,AC,λi hi=>?_⟩ AC
 · simpa using E
 · intro n s i j Y V L M Q
   obtain ⟨c,D⟩:=M.2.2 j AD
   have A:=J.units c (DA D)
   have e:=sJ r c A
   have N:=M.2.1
   simp only [List.length_cons] at N
   simp only [GF.eq_2]
   unfold Ml
   rw [L,cond_true,V,AB,D,AB,oB h c A,AB,AU AC AC,Q _ ⟨AC,AC,λi hi=>M.2.2 i (by simp [hi])⟩]
   simp only [List.map_cons,ED,Wx,D,Option.getD_some]
   congr 1
   omega
 · intro n s i L _
   simp only [GF.eq_2]
   unfold Ml
   rw [L,cond_false]; simp
 · obtain ⟨c,_,D,_⟩:=ZH hi
   exact ⟨c,D⟩
def LK (l:List Carton):List Int:=(l.map (·.fK)).flatten
theorem ZJ (l:List Carton):(LK l).length=W2 l:=by
 induction l with
 | nil=>rfl
 | cons c l A =>
  have e:LK (c::l)=c.fK++LK l:=rfl
  rw [e,List.length_append,A]; rfl
theorem wP {fu:Nat} {x:Plan} (h:Sp x) (O:1048577≤fu):U4 fu x=some (LK x.fV):=by
 have M:=h.cars
 have hl:=ZJ x.fV
 have N:=h.all
 unfold U4
 have:=XD x.fV (λn out i=>JB fu x n out i) (λA out=>some (out++LK A)) (λA out=>out.length+(LK A).length≤1048576) AC ?_ ?_ fu [] AJ AC
 · simpa using this
 · intro n out i c A L D E J
   have e:LK (c::A)=c.fK++LK A:=rfl
   rw [e,List.length_append] at E
   simp only [JB.eq_2]
   unfold QT
   rw [D,cond_true,L,AB,KU AC,AB,J _ AJ,e]
   simp
 · intro n out i D E
   simp only [JB.eq_2]
   unfold QT
   simp only [D,cond_false]
   simp [LK]
theorem wS {fu:Nat} {x:Plan} (h:Sp x) (O:1048577≤fu):Ss fu x=some (LK x.fV):=by
 have M:=h.cars
 have hl:=ZJ x.fV
 have N:=h.all
 unfold Ss
 have:=XD x.fV (λn out i=>ID fu x n out i) (λA out=>some (out++LK A)) (λA out=>out.length+(LK A).length≤1048576) AC ?_ ?_ fu [] AJ AC
 · simpa using this
 · intro n out i c A L D E J
   have e:LK (c::A)=c.fK++LK A:=rfl
   rw [e,List.length_append] at E
   simp only [ID.eq_2]
   unfold ON
   rw [D,cond_true,L,AB,KU AC,AB,J _ AJ,e]
   simp
 · intro n out i D E
   simp only [ID.eq_2]
   unfold ON
   simp only [D,cond_false]
   simp [LK]
end Go.Proofs.YtdgpkmgnjdpieaaGreatDoor
