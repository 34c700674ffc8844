/- TopBP: plain lemmas,.. -/
import Derived.Test.YtdgpkmgnjdpieaaGreatDoorTopBP2
set_option linter.unusedSimpArgs false
set_option linter.unusedVariables false
namespace Go.Proofs.YtdgpkmgnjdpieaaGreatDoor
open Go
open Enc (rd ow)
open Arg (argv)
open Ret (retv)
open Wf (wf)
def jO (p:Pallet) (d h g:Int):Bool:=CW d 1 p.fD&&(CW h 1 p.fH&&CW g 1 p.fQ)
theorem wi (fu:Nat) (p:Pallet) (d h g:Int):UY fu p d h g=some (jO p d h g):=by
 unfold UY jO
 simp only [X2,AB]
 cases CW d 1 p.fD <;> cases CW h 1 p.fH <;> rfl
theorem zI {fu:Nat} (p:Pallet) (l:List Shelf) (hl:l.length≤1048576) (D:l.length<fu):Ps fu p l=some (Rc p&&l.all λs=>jO p s.fD s.fH s.fQ):=by
 unfold Ps
 rw [pW,AB]
 cases Rc p
 · rfl
 · rw [Bool.not_true,cond_false,Bool.true_and]
   have:=sF l (λn i=>HK fu p l n i) (λs=>jO p s.fD s.fH s.fQ) (some true) AC ?_ ?_ fu D
   · rw [this]
     cases l.all λs=>jO p s.fD s.fH s.fQ <;> rfl
   · intro n i x E A
     simp only [HK.eq_2]
     unfold M0
     simp only [A,cond_true,E,AB,wi]
     cases jO p x.fD x.fH x.fQ <;> rfl
   · intro n i A
     simp only [HK.eq_2]
     unfold M0
     rw [A,cond_false]
theorem yg {fu:Nat} (p:Pallet) (l:List Layer) (hl:l.length≤1048576) (D:l.length<fu):R2 fu p l=some (Rc p&&l.all λs=>jO p s.fD s.fH s.fQ):=by
 unfold R2
 rw [pW,AB]
 cases Rc p
 · rfl
 · rw [Bool.not_true,cond_false,Bool.true_and]
   have:=sF l (λn i=>H8 fu p l n i) (λs=>jO p s.fD s.fH s.fQ) (some true) AC ?_ ?_ fu D
   · rw [this]
     cases l.all λs=>jO p s.fD s.fH s.fQ <;> rfl
   · intro n i x E A
     simp only [H8.eq_2]
     unfold OW
     simp only [A,cond_true,E,AB,wi]
     cases jO p x.fD x.fH x.fQ <;> rfl
   · intro n i A
     simp only [H8.eq_2]
     unfold OW
     rw [A,cond_false]
def LM (l:List Shelf) (i:Int):Shelf:=(ix l i).getD b9
def aG:Layer:=⟨[],0,0,0⟩
def Lq (x:Layer) (i:Int) (s:Shelf):Layer:=⟨x.fM++[i],x.fD+s.fD,tQ x.fH s.fH,x.fQ+s.fQ⟩
def jH (p:Pallet) (s:Shelf) (x:Layer):Bool:=decide (x.fD+s.fD≤p.fD)&&decide (x.fQ+s.fQ≤p.fQ)
def j5 (p:Pallet) (l:List Shelf) (out:List Layer) (i:Int):List Layer:=sf (jH p (LM l i)) (λs=>Lq s i (LM l i)) aG out
def bl (p:Pallet) (l:List Shelf):List Layer:=(BW 0 l.length).foldl (j5 p l) []
structure LyI (p:Pallet) (n:Nat) (s:Layer):Prop where
 ne:s.fM≠[]
 inn:∀ i∈s.fM,0≤i∧i<n
 d:1≤s.fD∧s.fD≤p.fD
 h:1≤s.fH∧s.fH≤p.fH
 g:1≤s.fQ∧s.fQ≤p.fQ
def tU (p:Pallet) (l:List Shelf):Prop:=∀ s∈l,(1≤s.fD∧s.fD≤p.fD)∧(1≤s.fH∧s.fH≤p.fH)∧(1≤s.fQ∧s.fQ≤p.fQ)
theorem e9 {p:Pallet} {l:List Shelf} (h:tU p l) {i:Int} (hi:0≤i∧i<l.length):ix l i=some (LM l i)∧(1≤(LM l i).fD∧(LM l i).fD≤p.fD)∧(1≤(LM l i).fH∧(LM l i).fH≤p.fH)∧(1≤(LM l i).fQ∧(LM l i).fQ≤p.fQ)∧LM l i∈l:=by
 obtain ⟨x,A⟩:=bh (l:=l) hi.1 hi.2
 have e:LM l i=x:=by unfold LM; rw [A]; rfl
 rw [e]
 exact ⟨A,(h x (C8 A)).1,(h x (C8 A)).2.1,(h x (C8 A)).2.2,C8 A⟩
theorem kY {p:Pallet} {l:List Shelf} (J:tU p l) {out:List Layer} {i:Int} (hi:0≤i∧i<l.length) (h:∀ s∈out,LyI p l.length s):∀ s∈j5 p l out i,LyI p l.length s:=by
 obtain ⟨_,_,_,_,_⟩:=e9 J hi
 refine ZU h (λs L D=>?_) ⟨by simp [Lq],λj A=>?_,?_,?_,?_⟩
 · unfold jH at D
   simp only [Bool.and_eq_true,decide_eq_true_eq] at D
   obtain ⟨s1,E,_,_,_⟩:=L
   have M:=W6 s.fH (LM l i).fH
   refine ⟨by simp [Lq],λj A=>?_,?_,?_,?_⟩
   · simp only [Lq,List.mem_append,List.mem_singleton] at A
     rcases A with A | rfl
     · exact E j A
     · exact hi
   · simp only [Lq]; omega
   · simp only [Lq]; omega
   · simp only [Lq]; omega
 · simp only [Lq,aG,List.nil_append,List.mem_singleton] at A
   rw [A]; exact hi
 · simp only [Lq,aG]; omega
 · have:=W6 0 (LM l i).fH
   simp only [Lq,aG]; omega
 · simp only [Lq,aG]; omega
theorem pV {p:Pallet} {l:List Shelf} (A:tU p l):∀ (is:List Int) (out:List Layer),(∀ i∈is,0≤i∧i<l.length)→(∀ s∈out,LyI p l.length s)→(∀ s∈is.foldl (j5 p l) out,LyI p l.length s)∧((is.foldl (j5 p l) out).map (·.fM)).flatten=(out.map (·.fM)).flatten++is∧(is.foldl (j5 p l) out).length≤out.length+is.length
 | [],out,_,h=>⟨h,AD,AD⟩
 | i::is,out,hi,h=>by
  rw [List.foldl_cons]
  obtain ⟨E,D,_⟩:=pV A is (j5 p l out i) (λj L=>hi j (by simp [L])) (kY A (hi i AD) h)
  have J:((j5 p l out i).map (·.fM)).flatten=(out.map (·.fM)).flatten++[i]:=Vd (λs=>rfl) rfl
  have M:(j5 p l out i).length≤out.length+1:=Xk _ _ _ _
  refine ⟨E,by rw [D,J]; simp,AJ⟩
theorem bi {p:Pallet} {l:List Shelf} (J:tU p l):(∀ s∈bl p l,LyI p l.length s)∧((bl p l).map (·.fM)).flatten=BW 0 l.length∧(bl p l).length≤l.length:=by
 unfold bl
 obtain ⟨E,D,A⟩:=pV J (BW 0 l.length) [] (λi hi=>by have:=CF.1 hi; omega) AD
 refine ⟨E,by simpa using D,?_⟩
 rw [B5] at A
 simpa using A
theorem vF {p:Pallet} {l:List Shelf} (h:tU p l):(l.all λs=>jO p s.fD s.fH s.fQ)=true:=by
 refine List.all_eq_true.2 λs A=>?_
 unfold jO
 simp only [Bool.and_eq_true,BS]
 exact ⟨(h s A).1,(h s A).2.1,(h s A).2.2⟩
theorem rM {fu:Nat} (Ac:2097153≤fu) {p:Pallet} (hp:Rc p=true) {l:List Shelf} (Y:tU p l) (hl:l.length≤1000):R1 fu p l=some (bl p l):=by
 unfold R1 bl
 rw [zI p l AC AC,hp,vF Y,AB,Bool.and_self,Bool.not_true,cond_false]
 obtain ⟨_,_,_,_⟩:=W8 hp
 have L1:=cD (l.length:Int) (λn (o:List Layer) i=>B2 fu p l n o i) (λM o=>some (M.foldl (j5 p l) o)) (λM o=>(∀ s∈o,LyI p l.length s)∧((o.map (·.fM)).flatten).length+M.length≤1000∧o.length+M.length≤1000) AC ?_ ?_ l.length fu [] 0 AC AC AC ⟨AD,by simp [B5]; omega,by simp [B5]; omega⟩
 · exact L1
 · intro n o i M x0 x1 O hI ih
   obtain ⟨i2,i3,V⟩:=hI
   simp only [List.length_cons] at i3 V
   obtain ⟨Z,_,_,_,_⟩:=e9 Y ⟨x0,x1⟩
   have E:((j5 p l o i).map (·.fM)).flatten=(o.map (·.fM)).flatten++[i]:=Vd (λs=>rfl) rfl
   have Aa:(j5 p l o i).length≤o.length+1:=Xk _ _ _ _
   have T:=ih (j5 p l o i) ⟨kY Y ⟨x0,x1⟩ i2,by rw [E,List.length_append,List.length_singleton]; omega,AC⟩
   have J:∀ (A:List Layer) (x:Layer),A.length≤1000→(x.fM.length≤1000)→(0≤x.fD∧x.fD≤2000)→(0≤x.fQ∧x.fQ≤100000)→D8 fu (B2 fu p l n) i (LM l i) (A++[x]) ((A.length:Int)+1)=B2 fu p l n (A++[Lq x i (LM l i)]) (AK (i+1)):=by
    intro A x U h2 h3 h4
    unfold D8 S1
    have L:AK ((A.length:Int)+1 - 1)=(A.length:Int):=by rw [AU AC AC]; omega
    have h:ix (A++[x]) (A.length:Int)=some x:=by rw [EG]; simp
    rw [L,h,AB,KO AJ,AB,KO AJ,AB,pT,AB,AB,AU (n:=x.fD+_) AC AC,AU (n:=x.fQ+_) AC AC]
    have Q:∀ y:Layer,DB (A++[x]) (A.length:Int) y=A++[y]:=by intro y; simp [DB]
    rw [Q]
    rfl
   simp only [B2.eq_2]
   unfold OX
   rw [O,cond_true,Z,AB,List.foldl_cons,← T]
   by_cases N:o=[]
   · subst N
     rw [AX AD,KO AD,AB]
     have:=J [] aG AD (by simp [aG]) (by simp [aG]) (by simp [aG])
     rw [AU AD AD]
     exact this
   · obtain ⟨s,L,h⟩:=X9 N
     have Ab:=List.length_pos_iff.2 N
     have D:=List.mem_of_getLast? L
     have hs:=i2 s D
     have e:=PS (λs:Layer=>s.fM) o s D
     obtain ⟨s1,_,_,_,_⟩:=hs
     have eS:j5 p l o i=bif jH p (LM l i) s then o.set (o.length - 1) (Lq s i (LM l i)) else o++[Lq aG i (LM l i)]:=Yz L
     have eo:o=o.dropLast++[s]:=by
      have U:=List.dropLast_concat_getLast N
      rw [List.getLast?_eq_some_getLast N] at L
      rw [Option.some.inj L] at U
      exact U.symm
     have Q:D8 fu (B2 fu p l n) i (LM l i) o (o.length:Int)=B2 fu p l n (o.set (o.length - 1) (Lq s i (LM l i))) (AK (i+1)):=by
      obtain ⟨d,O⟩:∃ d,o=d++[s]:=⟨_,eo⟩
      rw [O] at V ⊢
      simp only [List.length_append,List.length_singleton] at V
      have:=J d s AC AC AC AC
      rw [show (((d++[s]).length:Nat):Int)=(d.length:Int)+1 by simp,this]
      congr 1
      simp
     have e4:D8 fu (B2 fu p l n) i (LM l i) (o++[aG]) (AK ((o.length:Int)+1))=B2 fu p l n (o++[Lq aG i (LM l i)]) (AK (i+1)):=by
      rw [AU AC AC]
      exact J o aG AC (by simp [aG]) (by simp [aG]) (by simp [aG])
     rw [AU (n:=(o.length:Int) - 1) AC AC,h,AB,AM AJ,AB,AU (n:=s.fD+_) AC AC,AU (n:=s.fQ+_) AC AC,KO AJ,AB,Q]
     rw [show (⟨[],0,0,0⟩:Layer)=aG from rfl,e4,eS]
     unfold jH
     by_cases c1:s.fD+(LM l i).fD≤p.fD
     · rw [AM (c:=decide (s.fD+(LM l i).fD>p.fD)) AJ,decide_eq_true c1]
       by_cases c2:s.fQ+(LM l i).fQ≤p.fQ
       · rw [AM (c:=decide (s.fQ+(LM l i).fQ>p.fQ)) AJ,decide_eq_true c2]; rfl
       · rw [AX (c:=decide (s.fQ+(LM l i).fQ>p.fQ)) AJ,decide_eq_false c2]; rfl
     · rw [AX (c:=decide (s.fD+(LM l i).fD>p.fD)) AJ,decide_eq_false c1]; rfl
 · intro n o i O _
   simp only [B2.eq_2]
   unfold OX
   rw [O,cond_false]; rfl
def MA (l:List Layer) (i:Int):Layer:=(ix l i).getD aG
def aS:Load:=⟨[],0,0⟩
def OO (x:Load) (i:Int) (s:Layer):Load:=⟨x.f0++[i],x.fH+s.fH,x.fQ+s.fQ⟩
def jR (p:Pallet) (s:Layer) (x:Load):Bool:=decide (x.fH+s.fH≤p.fH)&&decide (x.fQ+s.fQ≤p.fQ)
def kR (p:Pallet) (l:List Layer) (out:List Load) (i:Int):List Load:=sf (jR p (MA l i)) (λs=>OO s i (MA l i)) aS out
def jo (p:Pallet) (l:List Layer):List Load:=(BW 0 l.length).foldl (kR p l) []
structure LdI (p:Pallet) (n:Nat) (s:Load):Prop where
 ne:s.f0≠[]
 inn:∀ i∈s.f0,0≤i∧i<n
 h:1≤s.fH∧s.fH≤p.fH
 g:1≤s.fQ∧s.fQ≤p.fQ
def vJ (p:Pallet) (l:List Layer):Prop:=∀ s∈l,(1≤s.fD∧s.fD≤p.fD)∧(1≤s.fH∧s.fH≤p.fH)∧(1≤s.fQ∧s.fQ≤p.fQ)
theorem hC {p:Pallet} {l:List Layer} (h:vJ p l) {i:Int} (hi:0≤i∧i<l.length):ix l i=some (MA l i)∧(1≤(MA l i).fD∧(MA l i).fD≤p.fD)∧(1≤(MA l i).fH∧(MA l i).fH≤p.fH)∧(1≤(MA l i).fQ∧(MA l i).fQ≤p.fQ)∧MA l i∈l:=by
 obtain ⟨x,A⟩:=bh (l:=l) hi.1 hi.2
 have e:MA l i=x:=by unfold MA; rw [A]; rfl
 rw [e]
 exact ⟨A,(h x (C8 A)).1,(h x (C8 A)).2.1,(h x (C8 A)).2.2,C8 A⟩
theorem kE {p:Pallet} {l:List Layer} (J:vJ p l) {out:List Load} {i:Int} (hi:0≤i∧i<l.length) (h:∀ s∈out,LdI p l.length s):∀ s∈kR p l out i,LdI p l.length s:=by
 obtain ⟨_,_,_,_,_⟩:=hC J hi
 refine ZU h (λs L D=>?_) ⟨by simp [OO],λj A=>?_,?_,?_⟩
 · unfold jR at D
   simp only [Bool.and_eq_true,decide_eq_true_eq] at D
   obtain ⟨s1,E,_,_⟩:=L
   refine ⟨by simp [OO],λj A=>?_,?_,?_⟩
   · simp only [OO,List.mem_append,List.mem_singleton] at A
     rcases A with A | rfl
     · exact E j A
     · exact hi
   · simp only [OO]; omega
   · simp only [OO]; omega
 · simp only [OO,aS,List.nil_append,List.mem_singleton] at A
   rw [A]; exact hi
 · simp only [OO,aS]; omega
 · simp only [OO,aS]; omega
theorem nK {p:Pallet} {l:List Layer} (A:vJ p l):∀ (is:List Int) (out:List Load),(∀ i∈is,0≤i∧i<l.length)→(∀ s∈out,LdI p l.length s)→(∀ s∈is.foldl (kR p l) out,LdI p l.length s)∧((is.foldl (kR p l) out).map (·.f0)).flatten=(out.map (·.f0)).flatten++is∧(is.foldl (kR p l) out).length≤out.length+is.length
 | [],out,_,h=>⟨h,AD,AD⟩
 | i::is,out,hi,h=>by
  rw [List.foldl_cons]
  obtain ⟨E,D,_⟩:=nK A is (kR p l out i) (λj L=>hi j (by simp [L])) (kE A (hi i AD) h)
  have J:((kR p l out i).map (·.f0)).flatten=(out.map (·.f0)).flatten++[i]:=Vd (λs=>rfl) rfl
  have M:(kR p l out i).length≤out.length+1:=Xk _ _ _ _
  refine ⟨E,by rw [D,J]; simp,AJ⟩
theorem es {p:Pallet} {l:List Layer} (J:vJ p l):(∀ s∈jo p l,LdI p l.length s)∧((jo p l).map (·.f0)).flatten=BW 0 l.length∧(jo p l).length≤l.length:=by
 unfold jo
 obtain ⟨E,D,A⟩:=nK J (BW 0 l.length) [] (λi hi=>by have:=CF.1 hi; omega) AD
 refine ⟨E,by simpa using D,?_⟩
 rw [B5] at A
 simpa using A
theorem vY {p:Pallet} {l:List Layer} (h:vJ p l):(l.all λs=>jO p s.fD s.fH s.fQ)=true:=by
 refine List.all_eq_true.2 λs A=>?_
 unfold jO
 simp only [Bool.and_eq_true,BS]
 exact ⟨(h s A).1,(h s A).2.1,(h s A).2.2⟩
theorem ud {fu:Nat} (Ac:2097153≤fu) {p:Pallet} (hp:Rc p=true) {l:List Layer} (Y:vJ p l) (hl:l.length≤1000):U2 fu p l=some (jo p l):=by
 unfold U2 jo
 rw [yg p l AC AC,hp,vY Y,AB,Bool.and_self,Bool.not_true,cond_false]
 obtain ⟨_,_,_,_⟩:=W8 hp
 have L1:=cD (l.length:Int) (λn (o:List Load) i=>B8 fu p l n o i) (λM o=>some (M.foldl (kR p l) o)) (λM o=>(∀ s∈o,LdI p l.length s)∧((o.map (·.f0)).flatten).length+M.length≤1000∧o.length+M.length≤1000) AC ?_ ?_ l.length fu [] 0 AC AC AC ⟨AD,by simp [B5]; omega,by simp [B5]; omega⟩
 · exact L1
 · intro n o i M x0 x1 O hI ih
   obtain ⟨i2,i3,V⟩:=hI
   simp only [List.length_cons] at i3 V
   obtain ⟨Z,_,_,_,_⟩:=hC Y ⟨x0,x1⟩
   have E:((kR p l o i).map (·.f0)).flatten=(o.map (·.f0)).flatten++[i]:=Vd (λs=>rfl) rfl
   have Aa:(kR p l o i).length≤o.length+1:=Xk _ _ _ _
   have T:=ih (kR p l o i) ⟨kE Y ⟨x0,x1⟩ i2,by rw [E,List.length_append,List.length_singleton]; omega,AC⟩
   have J:∀ (A:List Load) (x:Load),A.length≤1000→(x.f0.length≤1000)→(0≤x.fH∧x.fH≤2000)→(0≤x.fQ∧x.fQ≤100000)→EM fu (B8 fu p l n) i (MA l i) (A++[x]) ((A.length:Int)+1)=B8 fu p l n (A++[OO x i (MA l i)]) (AK (i+1)):=by
    intro A x U h2 h3 h4
    unfold EM TX
    have L:AK ((A.length:Int)+1 - 1)=(A.length:Int):=by rw [AU AC AC]; omega
    have h:ix (A++[x]) (A.length:Int)=some x:=by rw [EG]; simp
    rw [L,h,AB,KO AJ,AB,KO AJ,AB,AB,AU (n:=x.fH+_) AC AC,AU (n:=x.fQ+_) AC AC]
    have Q:∀ y:Load,DB (A++[x]) (A.length:Int) y=A++[y]:=by intro y; simp [DB]
    rw [Q]
    rfl
   simp only [B8.eq_2]
   unfold P4
   rw [O,cond_true,Z,AB,List.foldl_cons,← T]
   by_cases N:o=[]
   · subst N
     rw [AX AD,KO AD,AB]
     have:=J [] aS AD (by simp [aS]) (by simp [aS]) (by simp [aS])
     rw [AU AD AD]
     exact this
   · obtain ⟨s,L,h⟩:=X9 N
     have Ab:=List.length_pos_iff.2 N
     have D:=List.mem_of_getLast? L
     have hs:=i2 s D
     have e:=PS (λs:Load=>s.f0) o s D
     obtain ⟨s1,_,_,_⟩:=hs
     have eS:kR p l o i=bif jR p (MA l i) s then o.set (o.length - 1) (OO s i (MA l i)) else o++[OO aS i (MA l i)]:=Yz L
     have eo:o=o.dropLast++[s]:=by
      have U:=List.dropLast_concat_getLast N
      rw [List.getLast?_eq_some_getLast N] at L
      rw [Option.some.inj L] at U
      exact U.symm
     have Q:EM fu (B8 fu p l n) i (MA l i) o (o.length:Int)=B8 fu p l n (o.set (o.length - 1) (OO s i (MA l i))) (AK (i+1)):=by
      obtain ⟨d,O⟩:∃ d,o=d++[s]:=⟨_,eo⟩
      rw [O] at V ⊢
      simp only [List.length_append,List.length_singleton] at V
      have:=J d s AC AC AC AC
      rw [show (((d++[s]).length:Nat):Int)=(d.length:Int)+1 by simp,this]
      congr 1
      simp
     have e4:EM fu (B8 fu p l n) i (MA l i) (o++[aS]) (AK ((o.length:Int)+1))=B8 fu p l n (o++[OO aS i (MA l i)]) (AK (i+1)):=by
      rw [AU AC AC]
      exact J o aS AC (by simp [aS]) (by simp [aS]) (by simp [aS])
     rw [AU (n:=(o.length:Int) - 1) AC AC,h,AB,AM AJ,AB,AU (n:=s.fH+_) AC AC,AU (n:=s.fQ+_) AC AC,KO AJ,AB,Q]
     rw [show (⟨[],0,0⟩:Load)=aS from rfl,e4,eS]
     unfold jR
     by_cases c1:s.fH+(MA l i).fH≤p.fH
     · rw [AM (c:=decide (s.fH+(MA l i).fH>p.fH)) AJ,decide_eq_true c1]
       by_cases c2:s.fQ+(MA l i).fQ≤p.fQ
       · rw [AM (c:=decide (s.fQ+(MA l i).fQ>p.fQ)) AJ,decide_eq_true c2]; rfl
       · rw [AX (c:=decide (s.fQ+(MA l i).fQ>p.fQ)) AJ,decide_eq_false c2]; rfl
     · rw [AX (c:=decide (s.fH+(MA l i).fH>p.fH)) AJ,decide_eq_false c1]; rfl
 · intro n o i O _
   simp only [B8.eq_2]
   unfold P4
   rw [O,cond_false]; rfl
def iE (n lo hi:Int):Bool:=decide (lo≤n∧n≤hi)
theorem kH {n lo hi:Int}:iE n lo hi=true↔lo≤n∧n≤hi:=by simp [iE]
theorem vi (fu:Nat) (n lo hi:Int):A2 fu n lo hi=some (iE n lo hi):=by
 unfold A2 iE
 by_cases h:n≥lo
 · rw [AX (by simpa using h)]
   have:lo≤n:=h
   simp [this]
 · rw [AM (by simpa using h)]
   have:¬ lo≤n:=h
   simp [this]
theorem pd (fu:Nat) (n lo hi:Int):A8 fu n lo hi=some (iE n lo hi):=vi fu n lo hi
def Xr (p:Pallet):Bool:=iE p.fW 1 2000&&(iE p.fD 1 2000&&(iE p.fH 1 2000&&iE p.fQ 1 100000))
def qg (p:Pallet) (b:Box):Bool:=iE b.fW 1 p.fW&&(iE b.fD 1 p.fD&&(iE b.fH 1 p.fH&&iE b.fQ 1 p.fQ))
def k9 (p:Pallet) (l:List Box):Bool:=Xr p&&l.all (qg p)
theorem Xa (fu:Nat) (p:Pallet):F5 fu p=some (Xr p):=by
 unfold F5 DF Xr
 simp only [pd,AB]
 cases iE p.fW 1 2000 <;> cases iE p.fD 1 2000 <;> cases iE p.fH 1 2000 <;> rfl
theorem lQ (fu:Nat) (b:Box) (p:Pallet):PR fu b p=some (!qg p b):=by
 unfold PR qg
 simp only [pd,AB]
 cases iE b.fW 1 p.fW <;> cases iE b.fD 1 p.fD <;> cases iE b.fH 1 p.fH <;> rfl
theorem fw (fu:Nat) (l:List Box) (f:Box→Option Bool) (g:Box→Bool) (T:∀ b,f b=some (g b)) (h:l.length≤1048576) (N:l.length<fu) :
    DH fu l f=some (l.any g):=by
 unfold DH FL
 have E:∀ (m i n:Nat),l.length - i=m→i≤l.length→m<n→∃ r,BJ fu l f n i=some r∧decide (r≥0)=(l.drop i).any g:=by
  intro m
  induction m with
  | zero =>
   intro i n O hi U
   obtain ⟨n,rfl⟩:∃ k,n=k+1:=⟨n - 1,AC⟩
   rw [BJ.eq_2]
   unfold EA
   rw [AM AJ,List.drop_eq_nil_of_le AC]
   exact ⟨_,rfl,rfl⟩
  | succ m J =>
   intro i n O hi U
   obtain ⟨n,rfl⟩:∃ k,n=k+1:=⟨n - 1,AC⟩
   have A:i<l.length:=AC
   rw [BJ.eq_2]
   unfold EA
   rw [AX (by simpa using A),tg (mv (List.getElem?_eq_getElem A)),T,AB,List.drop_eq_getElem_cons A,List.any_cons]
   cases M:g l[i]
   · rw [AM rfl,AU AC AC,Bool.false_or]
     have:=J (i+1) n AC AC AC
     simpa using this
   · rw [AX rfl]
     exact ⟨_,rfl,AD⟩
 obtain ⟨r,L,Q⟩:=E l.length 0 fu AC AC N
 have D:BJ fu l f fu 0=some r:=L
 rw [D,AB,Q]
 rfl
theorem ZF (fu:Nat) (p:Pallet) (l:List Box) (h:l.length≤1048576) (A:l.length<fu):OD fu p l=some (k9 p l):=by
 unfold OD k9
 rw [Xa,AB]
 cases Xr p
 · rfl
 rw [AX rfl,fw fu l _ (λb=>!qg p b) (λb=>lQ fu b p) h A,AB,Bool.true_and]
 congr 1
 induction l with
 | nil=>rfl
 | cons x E D =>
  simp only [List.any_cons,List.all_cons,Bool.not_or,Bool.not_not]
  rw [D (by simp at h; omega) (by simp at A; omega)]
theorem rX (p:Pallet) (l:List Box):k9 p l=Xn p l:=by
 have e:∀ a b c:Int,iE a b c=CW a b c:=λa b c=>Bool.eq_iff_iff.2 (by rw [kH,BS])
 have A:qg p=jn p:=by funext b; unfold qg jn; simp only [e]
 unfold k9 Xn Xr Rc
 simp only [e,A]
theorem so (a b:Int):(if b>a then b else a)=tQ a b:=by unfold tQ; split <;> split <;> omega
theorem iv {α:Type} (l:List α) (j:Nat) (a:α):DB l (j:Int) a=l.set j a:=by simp [DB]
theorem rj {fu:Nat} {A:List Shelf→Int→Option (List Shelf)} {x i:Int} {b:Box} {o:List Shelf} {j:Nat} {s:Shelf} (D:o[j]? = some s) (hl:s.f7.length≤1000000)
    (h1:-1000000000≤s.fW+b.fW∧s.fW+b.fW≤1000000000) (h2:-1000000000≤s.fQ+b.fQ∧s.fQ+b.fQ≤1000000000):EL fu A x i b o (j:Int)=A (o.set j (KA s i b)) (AK (x+1)):=by
 unfold EL UL
 rw [EG,D,AB,KO AJ,AB]
 simp only [AB,iv,List.set_set,so]
 rw [AU (n:=s.fW+b.fW) AC AC,AU (n:=s.fQ+b.fQ) AC AC]
 rfl
theorem qh {fu:Nat} (Ab:2097153≤fu) (p:Pallet) (l:List Box) (hl:l.length<20):UH fu p l=some (YV p l):=by
 unfold UH YV
 rw [ZF fu p l AC AC,AB,rX]
 cases Y:Xn p l
 · rfl
 · rw [Bool.not_true,cond_false,cond_true]
   have e:=XB l (λn (o:List Int) i=>JB fu p l n o i) (λA o=>AA (JD fu (o++A.map (·.fD))) λx=>CJ fu p l x fu [] 0) (λA o=>o.length+A.length≤1000) AC ?_ ?_ fu [] AJ AC
   · rw [e,List.nil_append,sW Ab AJ,AB,List.length_map]
     have Ac:=V7 (ca (l.map (·.fD))) l.length
     have O:=λx=>ZN (k:=ca (l.map (·.fD))) (n:=l.length) (x:=x)
     generalize jt (ca (l.map (·.fD))) l.length=S at Ac O ⊢
     refine XB S (λn (o:List Shelf) i=>CJ fu p l S n o i) (λA o=>some (A.foldl (j1 p l) o)) (λA o=>(∀ i∈A,0≤i∧i<l.length)∧(∀ s∈o,ShI p l.length s)∧((o.map (·.f7)).flatten).length+A.length≤1000∧o.length+A.length≤1000) AC ?_ ?_ fu [] ⟨λi hi=>(O i).1 hi,AD,AJ,AJ⟩ AC
     · intro n o i x A V J T Q
       obtain ⟨i1,i2,i3,i4⟩:=T
       simp only [List.length_cons] at i3 i4
       have N:=i1 x AD
       obtain ⟨Aa,_,_,_,_⟩:=Zl Y N
       obtain ⟨_,_,_,_⟩:=W8 (ZY Y)
       have L:((j1 p l o x).map (·.f7)).flatten=(o.map (·.f7)).flatten++[x]:=Vd (λs=>rfl) rfl
       have Ae:(j1 p l o x).length≤o.length+1:=Xk _ _ _ _
       have U:=Q (j1 p l o x) ⟨λj hj=>i1 j (by simp [hj]),kw Y N i2,by rw [L,List.length_append,List.length_singleton]; omega,AC⟩
       simp only [CJ.eq_2]
       unfold Q8
       rw [J,cond_true,V,AB,Aa,AB,List.foldl_cons,← U]
       have D:∀ M:List Shelf,M.length≤1000→EL fu (λo i=>CJ fu p l S n o i) i x (KX l x) (M++[b9]) ((M.length:Nat):Int)=CJ fu p l S n (M++[KA b9 x (KX l x)]) (AK (i+1)):=λM _=>by
        rw [rj (s:=b9) AD (by simp [b9]) (by simp [b9]; omega) (by simp [b9]; omega)]
        simp
       by_cases Z:o=[]
       · subst Z
         rw [AX A1,KO AD,AB]
         exact D [] AD
       · obtain ⟨s,e1,_⟩:=X9 Z
         have hp:=List.length_pos_iff.2 Z
         have E:=List.mem_of_getLast? e1
         have hs:=i2 s E
         have Ad:=PS (λs:Shelf=>s.f7) o s E
         have eS:j1 p l o x=bif jP p (KX l x) s then o.set (o.length - 1) (KA s x (KX l x)) else o++[KA b9 x (KX l x)]:=Yz e1
         have e3:AK ((o.length:Int) - 1)=((o.length - 1:Nat):Int):=by rw [AU AC AC]; omega
         have e4:AK (((o.length - 1:Nat):Int)+1)=((o.length:Nat):Int):=by rw [AU AC AC]; omega
         have e5:o[o.length - 1]? = some s:=by rw [← List.getLast?_eq_getElem?]; exact e1
         obtain ⟨s1,_,_,_,_,_⟩:=hs
         rw [e3,e4,AM AD,EG,e5,AB,AU (n:=s.fW+_) AC AC,AU (n:=s.fQ+_) AC AC,KO AJ,AB,eS]
         unfold jP
         have c1:decide (s.fW+(KX l x).fW>p.fW)=!decide (s.fW+(KX l x).fW≤p.fW):=by
          by_cases h:s.fW+(KX l x).fW≤p.fW <;> simp [h] <;> omega
         have c2:decide (s.fQ+(KX l x).fQ>p.fQ)=!decide (s.fQ+(KX l x).fQ≤p.fQ):=by
          by_cases h:s.fQ+(KX l x).fQ≤p.fQ <;> simp [h] <;> omega
         rw [c1,c2,AB]
         have h1:=D o AC
         have h2:EL fu (λo i=>CJ fu p l S n o i) i x (KX l x) o ((o.length - 1:Nat):Int)=CJ fu p l S n (o.set (o.length - 1) (KA s x (KX l x))) (AK (i+1)):=rj e5 AC AC AC
         cases decide (s.fW+(KX l x).fW≤p.fW)
         · exact h1
         · cases decide (s.fQ+(KX l x).fQ≤p.fQ)
           · exact h1
           · exact h2
     · intro n o i J _
       simp only [CJ.eq_2]
       unfold Q8
       rw [J,cond_false]; rfl
   · intro n o i x A V J T Q
     simp only [List.length_cons] at T
     simp only [JB.eq_2]
     unfold QX
     rw [J,cond_true,V,AB,KO AJ,AB,Q _ AJ]
     simp
   · intro n o i J _
     simp only [JB.eq_2]
     unfold QX
     rw [J,cond_false]; simp
theorem sg {fu:Nat} {A:List Layer→Int→Option (List Layer)} {i:Int} {b:Shelf} {o:List Layer} {j:Nat} {s:Layer} (D:o[j]? = some s) (hl:s.fM.length≤1000000)
    (h1:-1000000000≤s.fD+b.fD∧s.fD+b.fD≤1000000000) (h2:-1000000000≤s.fQ+b.fQ∧s.fQ+b.fQ≤1000000000):D5 fu A i b o (j:Int)=A (o.set j (Lq s i b)) (AK (i+1)):=by
 unfold D5 TI
 rw [EG,D,AB,KO AJ,AB]
 simp only [AB,iv,List.set_set,so]
 rw [AU (n:=s.fD+b.fD) AC AC,AU (n:=s.fQ+b.fQ) AC AC]
 rfl
theorem cO (fu:Nat) (l:List Shelf) (f:Shelf→Option Bool) (g:Shelf→Bool) (T:∀ b,f b=some (g b)) (h:l.length≤1048576) (N:l.length<fu) :
    CR fu l f=some (l.any g):=by
 unfold CR EI
 have E:∀ (m i n:Nat),l.length - i=m→i≤l.length→m<n→∃ r,BC fu l f n i=some r∧decide (r≥0)=(l.drop i).any g:=by
  intro m
  induction m with
  | zero =>
   intro i n O hi U
   obtain ⟨n,rfl⟩:∃ k,n=k+1:=⟨n - 1,AC⟩
   rw [BC.eq_2]
   unfold DT
   rw [AM AJ,List.drop_eq_nil_of_le AC]
   exact ⟨_,rfl,rfl⟩
  | succ m J =>
   intro i n O hi U
   obtain ⟨n,rfl⟩:∃ k,n=k+1:=⟨n - 1,AC⟩
   have A:i<l.length:=AC
   rw [BC.eq_2]
   unfold DT
   rw [AX (by simpa using A),tg (mv (List.getElem?_eq_getElem A)),T,AB,List.drop_eq_getElem_cons A,List.any_cons]
   cases M:g l[i]
   · rw [AM rfl,AU AC AC,Bool.false_or]
     have:=J (i+1) n AC AC AC
     simpa using this
   · rw [AX rfl]
     exact ⟨_,rfl,AD⟩
 obtain ⟨r,L,Q⟩:=E l.length 0 fu AC AC N
 have D:BC fu l f fu 0=some r:=L
 rw [D,AB,Q]
 rfl
theorem zo {fu:Nat} (p:Pallet) (l:List Shelf) (hl:l.length≤1048576) (D:l.length<fu):PF fu p l=some (Rc p&&l.all λs=>jO p s.fD s.fH s.fQ):=by
 unfold PF
 have e:∀ a b c:Int,iE a b c=CW a b c:=λa b c=>Bool.eq_iff_iff.2 (by rw [kH,BS])
 have A:Xr p=Rc p:=by unfold Xr Rc; simp only [e]
 rw [Xa,AB,A,cO fu l _ (λs=>!jO p s.fD s.fH s.fQ) (λs=>by
  unfold S8 jO
  simp only [pd,AB,e]
  cases CW s.fD 1 p.fD <;> cases CW s.fH 1 p.fH <;> rfl) hl D,AB]
 cases Rc p
 · rfl
 · rw [cond_true,Bool.true_and]
   congr 1
   rw [Bool.eq_iff_iff]
   simp
theorem rv {fu:Nat} (Ab:2097153≤fu) {p:Pallet} (V:Rc p=true) {l:List Shelf} (N:tU p l) (hl:l.length≤1000):R8 fu p l=some (bl p l):=by
 unfold R8 bl
 rw [zo p l AC AC,V,vF N,AB,Bool.and_self,Bool.not_true,cond_false]
 obtain ⟨_,_,_,_⟩:=W8 V
 refine cD (l.length:Int) (λn (o:List Layer) i=>CM fu p l n o i) (λJ o=>some (J.foldl (j5 p l) o)) (λJ o=>(∀ s∈o,LyI p l.length s)∧((o.map (·.fM)).flatten).length+J.length≤1000∧o.length+J.length≤1000) AC ?_ ?_ l.length fu [] 0 AC AC AC ⟨AD,by simp [B5]; omega,by simp [B5]; omega⟩
 · intro n o i J x0 x1 Q hI ih
   obtain ⟨Z,i3,i4⟩:=hI
   simp only [List.length_cons] at i3 i4
   obtain ⟨T,_,_,_,_⟩:=e9 N ⟨x0,x1⟩
   have E:((j5 p l o i).map (·.fM)).flatten=(o.map (·.fM)).flatten++[i]:=Vd (λs=>rfl) rfl
   have Aa:(j5 p l o i).length≤o.length+1:=Xk _ _ _ _
   have M:=ih (j5 p l o i) ⟨kY N ⟨x0,x1⟩ Z,by rw [E,List.length_append,List.length_singleton]; omega,AC⟩
   simp only [CM.eq_2]
   unfold Oz
   rw [Q,cond_true,T,AB,List.foldl_cons,← M]
   have A:∀ L:List Layer,L.length≤1000→D5 fu (λo i=>CM fu p l n o i) i (LM l i) (L++[aG]) ((L.length:Nat):Int)=CM fu p l n (L++[Lq aG i (LM l i)]) (AK (i+1)):=λL _=>by
    rw [sg (s:=aG) AD (by simp [aG]) (by simp [aG]; omega) (by simp [aG]; omega)]
    simp
   by_cases O:o=[]
   · subst O
     rw [AX A1,KO AD,AB]
     exact A [] AD
   · obtain ⟨s,U,_⟩:=X9 O
     have V:=List.length_pos_iff.2 O
     have D:=List.mem_of_getLast? U
     have hs:=Z s D
     have Y:=PS (λs:Layer=>s.fM) o s D
     have eS:j5 p l o i=bif jH p (LM l i) s then o.set (o.length - 1) (Lq s i (LM l i)) else o++[Lq aG i (LM l i)]:=Yz U
     have e3:AK ((o.length:Int) - 1)=((o.length - 1:Nat):Int):=by rw [AU AC AC]; omega
     have e4:AK (((o.length - 1:Nat):Int)+1)=((o.length:Nat):Int):=by rw [AU AC AC]; omega
     have e:o[o.length - 1]? = some s:=by rw [← List.getLast?_eq_getElem?]; exact U
     obtain ⟨s1,_,_,_,_⟩:=hs
     rw [e3,e4,AM AD,EG,e,AB,AU (n:=s.fD+_) AC AC,AU (n:=s.fQ+_) AC AC,KO AJ,AB,eS]
     unfold jH
     have c1:decide (s.fD+(LM l i).fD>p.fD)=!decide (s.fD+(LM l i).fD≤p.fD):=by
      by_cases h:s.fD+(LM l i).fD≤p.fD <;> simp [h] <;> omega
     have c2:decide (s.fQ+(LM l i).fQ>p.fQ)=!decide (s.fQ+(LM l i).fQ≤p.fQ):=by
      by_cases h:s.fQ+(LM l i).fQ≤p.fQ <;> simp [h] <;> omega
     rw [c1,c2,AB]
     have h1:=A o AC
     have h2:D5 fu (λo i=>CM fu p l n o i) i (LM l i) o ((o.length - 1:Nat):Int)=CM fu p l n (o.set (o.length - 1) (Lq s i (LM l i))) (AK (i+1)):=sg e AC AC AC
     cases decide (s.fD+(LM l i).fD≤p.fD)
     · exact h1
     · cases decide (s.fQ+(LM l i).fQ≤p.fQ)
       · exact h1
       · exact h2
 · intro n o i Q _
   simp only [CM.eq_2]
   unfold Oz
   rw [Q,cond_false]; rfl
def ry:Spot:=⟨0,0,0,0⟩
def na (l:List Load) (i:Int):Load:=(ix l i).getD aS
def qY (l:List Box) (o y z:Int) (is:List Int) (s:List Spot×Int):List Spot×Int:=is.foldl (λs b=>(DB s.1 b ⟨o,s.2,y,z⟩,s.2+(KX l b).fW)) s
def qW (l:List Box) (A:List Shelf) (o z:Int) (D:List Int) (s:List Spot×Int):List Spot×Int:=D.foldl (λs j=>((qY l o s.2 z (LM A j).f7 (s.1,0)).1,s.2+(LM A j).fD)) s
def tO (l:List Box) (D:List Shelf) (A:List Layer) (o:Int) (is:List Int) (s:List Spot×Int):List Spot×Int:=is.foldl (λs i=>((qW l D o s.2 (MA A i).fM (s.1,0)).1,s.2+(MA A i).fH)) s
def tT (l:List Box) (D:List Shelf) (A:List Layer) (E:List Load) (os:List Int) (out:List Spot):List Spot:=os.foldl (λout o=>(tO l D A o (na E o).f0 (out,0)).1) out
def aF (p:Pallet) (l:List Box):List Spot:=bif Xn p l then tT l (YV p l) (bl p (YV p l)) (jo p (bl p (YV p l))) (BW 0 (jo p (bl p (YV p l))).length) (List.replicate l.length ry) else []
theorem ZS {α:Type} (l:List α) (i:Int) (y:α):(DB l i y).length=l.length:=by simp [DB]
theorem er (l:List Box) (o y z:Int):∀ (is:List Int) (s:List Spot×Int),(qY l o y z is s).1.length=s.1.length
 | [],_=>rfl
 | i::is,s=>by
  have:=er l o y z is (DB s.1 i ⟨o,s.2,y,z⟩,s.2+(KX l i).fW)
  rw [ZS] at this
  exact this
theorem eG (l:List Box) (A:List Shelf) (o z:Int):∀ (is:List Int) (s:List Spot×Int),(qW l A o z is s).1.length=s.1.length
 | [],_=>rfl
 | i::is,s=>by
  have:=eG l A o z is ((qY l o s.2 z (LM A i).f7 (s.1,0)).1,s.2+(LM A i).fD)
  rw [er] at this
  exact this
theorem eD (l:List Box) (D:List Shelf) (A:List Layer) (o:Int):∀ (is:List Int) (s:List Spot×Int),(tO l D A o is s).1.length=s.1.length
 | [],_=>rfl
 | i::is,s=>by
  have:=eD l D A o is ((qW l D o s.2 (MA A i).fM (s.1,0)).1,s.2+(MA A i).fH)
  rw [eG] at this
  exact this
theorem ph (l:List Box) (D:List Shelf) (A:List Layer) (E:List Load):∀ (os:List Int) (out:List Spot),(tT l D A E os out).length=out.length
 | [],_=>rfl
 | o::os,out=>by
  have:=ph l D A E os (tO l D A o (na E o).f0 (out,0)).1
  rw [eD] at this
  exact this
theorem eP {p:Pallet} {l:List Box} (h:Xn p l=true):(aF p l).length=l.length:=by
 unfold aF
 rw [h,cond_true,ph,List.length_replicate]
theorem ll {p:Pallet} {l:List Box} (h:Xn p l=true):tU p (YV p l):=λs A=>by
 have:=(be h).1 s A
 exact ⟨this.d,this.h,this.g⟩
theorem kp {p:Pallet} {l:List Shelf} (h:tU p l):vJ p (bl p l):=λs A=>by
 have:=(bi h).1 s A
 exact ⟨this.d,this.h,this.g⟩
theorem um {fu:Nat} (N:2097153≤fu) (p:Pallet) (l:List Box) (hl:l.length≤1000):N1 fu p l=some (aF p l):=by
 unfold N1 aF
 rw [pq AC,AB,vR p l AC AC,AB]
 cases hb:Xn p l
 · rfl
 · obtain ⟨a1,a2,a3⟩:=be hb
   have h:=ll hb
   obtain ⟨y1,y2,y3⟩:=bi h
   have hY:=kp h
   obtain ⟨d1,d2,d3⟩:=es hY
   have T:=ZY hb
   obtain ⟨_,_,_,_⟩:=W8 T
   rw [Bool.not_true,cond_false,cond_true,qd N p l hl,AB,rM N T h AC,AB,ud N T hY AC,AB]
   have f1:∀ s∈YV p l,s.f7.length≤1000:=λs Z=>by
    have:=PS (λs:Shelf=>s.f7) _ s Z
    rw [a2,V7] at this; omega
   have f2:∀ s∈bl p (YV p l),s.fM.length≤1000:=λs Z=>by
    have:=PS (λs:Layer=>s.fM) _ s Z
    rw [y2,B5] at this; omega
   have f3:∀ s∈jo p (bl p (YV p l)),s.f0.length≤1000:=λs Z=>by
    have:=PS (λs:Load=>s.f0) _ s Z
    rw [d2,B5] at this; omega
   generalize jo p (bl p (YV p l))=ld at d1 d3 f3 ⊢
   generalize bl p (YV p l)=ly at y1 y3 hY d1 d3 f2 ⊢
   generalize YV p l=sh at a1 a3 h y1 y3 f1 ⊢
   have L4:=cD (ld.length:Int) (λn (out:List Spot) o=>B3 fu l sh ly ld n out o) (λos out=>some (tT l sh ly ld os out)) (λos out=>out.length=l.length) AC ?_ ?_ ld.length fu (List.replicate l.length ry) 0 AC AC AC AD
   · exact L4
   · intro n out o os o0 o1 A E O
     obtain ⟨x,e⟩:=bh (l:=ld) o0 o1
     have ex:na ld o=x:=by unfold na; rw [e]; rfl
     have Ah:=d1 x (C8 e)
     have Ai:=f3 x (C8 e)
     simp only [B3.eq_2]
     unfold Qk
     rw [A,cond_true]
     have L3:=XB x.f0 (λm (s:List Spot×Int) i=>C6 fu (B3 fu l sh ly ld n) l sh ly ld o m s.1 s.2 i) (λis s=>B3 fu l sh ly ld n (tO l sh ly o is s).1 (AK (o+1))) (λis s=>s.1.length=l.length∧(∀ i∈is,0≤i∧i<ly.length)∧0≤s.2∧s.2+2000*is.length≤2000000) AC ?_ ?_ fu (out,0) ⟨E,Ah.inn,AD,AJ⟩ AC
     · refine L3.trans ?_
       rw [O _ (by rw [eD]; exact E)]
       simp only [tT,List.foldl_cons,ex]
     · intro m ⟨out,z⟩ i j is hj A E O
       obtain ⟨Q,L,i3,V⟩:out.length=l.length∧(∀ i∈j::is,0≤i∧i<ly.length)∧0≤z∧z+2000*((j::is).length:Int)≤2000000:=E
       simp only [List.length_cons] at V
       obtain ⟨Aa,_,_,_,J⟩:=hC hY (L j AD)
       have Ac:=y1 _ J
       have Ak:=f2 _ J
       simp only [C6.eq_2]
       unfold P8
       rw [e,AB,A,cond_true,AB,hj,AB,Aa,AB]
       have L2:=XB (MA ly j).fM (λq (s:List Spot×Int) k=>EP fu (C6 fu (B3 fu l sh ly ld n) l sh ly ld o m) l sh o z i (MA ly j) q s.1 s.2 k) (λks s=>C6 fu (B3 fu l sh ly ld n) l sh ly ld o m (qW l sh o z ks s).1 (AK (z+(MA ly j).fH)) (AK (i+1))) (λks s=>s.1.length=l.length∧(∀ i∈ks,0≤i∧i<sh.length)∧0≤s.2∧s.2+2000*ks.length≤2000000) AC ?_ ?_ fu (out,0) ⟨Q,Ac.inn,AD,AJ⟩ AC
       · refine L2.trans ?_
         rw [AU (n:=z+_) AC AC]
         exact O ((qW l sh o z (MA ly j).fM (out,0)).1,z+(MA ly j).fH) ⟨by rw [eG]; exact Q,λi hi=>L i (by simp [hi]),AJ,AJ⟩
       · intro q ⟨out,y⟩ k b ks Ae A E O
         obtain ⟨Q,L,i3,V⟩:out.length=l.length∧(∀ i∈b::ks,0≤i∧i<sh.length)∧0≤y∧y+2000*((b::ks).length:Int)≤2000000:=E
         simp only [List.length_cons] at V
         obtain ⟨Ab,_,_,_,D⟩:=e9 h (L b AD)
         have Af:=a1 _ D
         have Aj:=f1 _ D
         simp only [EP.eq_2]
         unfold QY
         rw [A,cond_true,Ae,AB,Ab,AB]
         have L1:=XB (LM sh b).f7 (λq' (s:List Spot×Int) k'=>I9 fu (EP fu (C6 fu (B3 fu l sh ly ld n) l sh ly ld o m) l sh o z i (MA ly j) q) l o z y k (LM sh b) q' s.1 s.2 k') (λM s=>EP fu (C6 fu (B3 fu l sh ly ld n) l sh ly ld o m) l sh o z i (MA ly j) q (qY l o y z M s).1 (AK (y+(LM sh b).fD)) (AK (k+1))) (λM s=>s.1.length=l.length∧(∀ i∈M,0≤i∧i<l.length)∧0≤s.2∧s.2+2000*M.length≤2000000) AC ?_ ?_ fu (out,0) ⟨Q,Af.inn,AD,AJ⟩ AC
         · refine L1.trans ?_
           rw [AU (n:=y+_) AC AC]
           exact O ((qY l o y z (LM sh b).f7 (out,0)).1,y+(LM sh b).fD) ⟨by rw [er]; exact Q,λi hi=>L i (by simp [hi]),AJ,AJ⟩
         · intro q' ⟨out,U⟩ k' c M hc A E O
           obtain ⟨Q,L,i3,V⟩:out.length=l.length∧(∀ i∈c::M,0≤i∧i<l.length)∧0≤U∧U+2000*((c::M).length:Int)≤2000000:=E
           simp only [List.length_cons] at V
           have Y:=L c AD
           obtain ⟨Ag,_,_,_,_⟩:=Zl hb Y
           obtain ⟨_,Ad⟩:=bh (l:=out) Y.1 AC
           simp only [I9.eq_2]
           unfold P6
           rw [A,cond_true,hc,AB,Ad,AB,AB,Ag,AB,AU (n:=U+_) AC AC]
           exact O (DB out c ⟨o,U,y,z⟩,U+(KX l c).fW) ⟨by rw [ZS]; exact Q,λi hi=>L i (by simp [hi]),AJ,AJ⟩
         · intro q' ⟨out,U⟩ k' A _
           simp only [I9.eq_2]
           unfold P6
           rw [A,cond_false]; rfl
       · intro q ⟨out,y⟩ k A _
         simp only [EP.eq_2]
         unfold QY
         rw [A,cond_false]; rfl
     · intro m ⟨out,z⟩ i A _
       simp only [C6.eq_2]
       unfold P8
       rw [e,AB,A,cond_false]; rfl
   · intro n out o A _
     simp only [B3.eq_2]
     unfold Qk
     rw [A,cond_false]; rfl
def ja (n:Int) (out:List Spot):Prop:=∀ s∈out,0≤s.fJ∧s.fJ≤n
theorem rP {n:Int} {out:List Spot} {i:Int} {s:Spot} (h:ja n out) (D:0≤s.fJ∧s.fJ≤n):ja n (DB out i s):=by
 intro t A
 unfold DB at A
 rcases List.mem_or_eq_of_mem_set A with A | rfl
 · exact h t A
 · exact D
theorem pD {n:Int} (l:List Box) (o y z:Int) (A:0≤o∧o≤n):∀ (is:List Int) (s:List Spot×Int),ja n s.1→ja n (qY l o y z is s).1
 | [],_,h=>h
 | i::is,s,h=>pD l o y z A is (DB s.1 i ⟨o,s.2,y,z⟩,s.2+(KX l i).fW) (rP h A)
theorem nY {n:Int} (l:List Box) (A:List Shelf) (o z:Int) (D:0≤o∧o≤n):∀ (is:List Int) (s:List Spot×Int),ja n s.1→ja n (qW l A o z is s).1
 | [],_,h=>h
 | i::is,s,h=>nY l A o z D is ((qY l o s.2 z (LM A i).f7 (s.1,0)).1,s.2+(LM A i).fD) (pD l o s.2 z D _ (s.1,0) h)
theorem pR {n:Int} (l:List Box) (D:List Shelf) (A:List Layer) (o:Int) (E:0≤o∧o≤n):∀ (is:List Int) (s:List Spot×Int),ja n s.1→ja n (tO l D A o is s).1
 | [],_,h=>h
 | i::is,s,h=>pR l D A o E is ((qW l D o s.2 (MA A i).fM (s.1,0)).1,s.2+(MA A i).fH) (nY l D o s.2 E _ (s.1,0) h)
theorem pb {n:Int} (l:List Box) (D:List Shelf) (A:List Layer) (E:List Load):∀ (os:List Int) (out:List Spot),(∀ o∈os,0≤o∧o≤n)→ja n out→ja n (tT l D A E os out)
 | [],_,_,h=>h
 | o::os,out,ho,h=>pb l D A E os (tO l D A o (na E o).f0 (out,0)).1 (λq J=>ho q (by simp [J])) (pR l D A o (ho o AD) _ (out,0) h)
theorem rf {p:Pallet} {l:List Box} (hl:l.length≤1000):∀ s∈aF p l,0≤s.fJ∧s.fJ≤1000:=by
 unfold aF
 cases D:Xn p l
 · simp
 · have L:=(be D).2.2
   have A:=ll D
   have M:=(bi A).2.2
   have N:=(es (kp A)).2.2
   rw [cond_true]
   refine pb l _ _ _ _ _ (λo J=>?_) λs E=>?_
   · have:=CF.1 J; omega
   · rw [(List.mem_replicate.1 E).2]; simp [ry]
def zG (r:Request) (k:Int):Bool:=CW k 0 (((CD r).length:Int) - 1)
theorem hZ {r:Request} {k:Int} (h:zG r k=true):B9 r=0:=by
 unfold zG at h
 rw [BS] at h
 by_cases A:B9 r=0
 · exact A
 · have:CD r=[]:=by
     unfold CD XU
     rw [show (B9 r==0)=false by simp [A]]
     rfl
   rw [this] at h
   simp at h
   omega
theorem lz (r:Request) (g:List Int) (u i:Int) (us:List Int) {x:Item} (A:ix r.fU i=some x):cx r g u (i::us)=bif g.contains x.fO then u::cx r g (u+1) us else cx r g (u+1) us:=by
 rw [cx,A]
theorem xW {fu:Nat} {r:Request} (h:Sm fu r) (k:Int):UQ fu r k=some (QV r k):=by
 have Aa:=h.fu
 unfold UQ QV
 rw [oG h,AB,oQ,X2,AB]
 cases E:CW k 0 (((CD r).length:Int) - 1)
 · rw [Bool.not_false,cond_true]
   have:ix (CD r) k=none:=by
    have T:¬ (0≤k∧k≤((CD r).length:Int) - 1):=by intro T; rw [(BS).2 T] at E; cases E
    unfold ix
    by_cases Q:0≤k
    · rw [if_pos Q,List.getElem?_eq_none AC]
    · rw [if_neg Q]
   rw [this]
 · have J:=hZ E
   rw [BS] at E
   obtain ⟨j,rfl⟩:∃ j:Nat,k=j:=⟨k.toNat,AC⟩
   have M:j<(CD r).length:=AC
   have V:=(R5 r).2 _ (List.getElem_mem M)
   rw [Bool.not_true,cond_false,wS h (D4 J).1,AB,Xi M]
   have e:CP r=tN r:=by unfold CP; rw [show (B9 r==0)=true by simp [J],cond_true]
   simp only [e]
   have A:(tN r).length≤12:=nJ (D4 J).1
   have:=hU (tN r) (λn out i=>G3 fu r (j:Int) (CD r) (tN r) n out i) (λpre D out=>some (out++cx r (CD r)[j] (pre.length:Int) D)) (λpre D out=>out.length+D.length≤12) AC ?_ ?_ fu [] (by simpa using A) AC
   · simpa using this
   · intro n out pre i D hl Y L O N
     simp only [List.length_cons] at O
     have hi:i∈CP r:=by rw [e,hl]; simp
     have Z:=gz hi
     obtain ⟨q,rfl⟩:∃ q:Nat,i=q:=⟨i.toNat,AC⟩
     have U:q<r.fU.length:=AC
     simp only [G3.eq_2]
     unfold PX NI
     simp only [L,cond_true,Y,AB,Xi M,Xi U,s3 (show (CD r)[j].length≤1048576 by omega) (show (CD r)[j].length<fu by omega)]
     rw [lz r _ _ _ _ (Xi U)]
     cases (CD r)[j].contains r.fU[q].fO
     · rw [cond_false,cond_false,N _ AC]
       simp
     · rw [cond_true,cond_true,KO AJ,AB,N _ AJ]
       simp
   · intro n out L O
     simp only [G3.eq_2]
     unfold PX
     simp only [L,cond_false]
     simp [cx]
theorem yG {fu:Nat} {r:Request} (h:Sm fu r) (k:Int):Uk fu r k=some (QV r k):=by
 have Z:=h.fu
 unfold Uk QV
 rw [pe h,AB,oQ,Yy,AB]
 cases E:CW k 0 (((CD r).length:Int) - 1)
 · rw [Bool.not_false,cond_true]
   have:ix (CD r) k=none:=by
    have Q:¬ (0≤k∧k≤((CD r).length:Int) - 1):=by intro Q; rw [(BS).2 Q] at E; cases E
    unfold ix
    by_cases O:0≤k
    · rw [if_pos O,List.getElem?_eq_none AC]
    · rw [if_neg O]
   rw [this]
 · have e:=hZ E
   rw [BS] at E
   obtain ⟨j,rfl⟩:∃ j:Nat,k=j:=⟨k.toNat,AC⟩
   have L:j<(CD r).length:=AC
   have U:=(R5 r).2 _ (List.getElem_mem L)
   rw [Bool.not_true,cond_false,oh h,AB,Xi L]
   have A:=YD r
   have:=hU (CP r) (λn out i=>G4 fu r (j:Int) (CD r) (CP r) n out i) (λpre D out=>some (out++cx r (CD r)[j] (pre.length:Int) D)) (λpre D out=>out.length+D.length≤12) AC ?_ ?_ fu [] (by simpa using A) AC
   · simpa using this
   · intro n out pre i D hl V J N M
     simp only [List.length_cons] at N
     have hi:i∈CP r:=by rw [hl]; simp
     have Y:=gz hi
     obtain ⟨q,rfl⟩:∃ q:Nat,i=q:=⟨i.toNat,AC⟩
     have T:q<r.fU.length:=AC
     simp only [G4.eq_2]
     unfold QC NQ
     simp only [J,cond_true,V,AB,Xi L,Xi T,wj (show (CD r)[j].length≤1048576 by omega) (show (CD r)[j].length<fu by omega)]
     rw [lz r _ _ _ _ (Xi T)]
     cases (CD r)[j].contains r.fU[q].fO
     · rw [cond_false,cond_false,M _ AC]
       simp
     · rw [cond_true,cond_true,KO AJ,AB,M _ AJ]
       simp
   · intro n out J N
     simp only [G4.eq_2]
     unfold QC
     simp only [J,cond_false]
     simp [cx]
def cp (l:List Int):List Int:=l.mergeSort λx y=>decide (x≤y)
theorem VY (l:List Int):(cp l).Perm l:=List.mergeSort_perm l _
theorem mr (l:List Int):(cp l).length=l.length:=(VY l).length_eq
def aD (r:Request) (k:Int) (l:List Int):Carton:=⟨(QJ r l).1.fe,k,cp l⟩
def Yk (r:Request) (k:Int):List Carton:=(jd r (QV r k)).map (aD r k)
def W3 (r:Request):List Int→List Carton
 | []=>[]
 | k::ks=>Yk r k++W3 r ks
def O7 (r:Request):List Carton:=W3 r (BW 0 (CD r).length)
theorem qU (l:List Int):(BW 0 l.length).map (λp=>(ix l p).getD 0)=l:=by
 have D:∀ (A pre:List Int),l=pre++A→(BW pre.length A.length).map (λp=>(ix l p).getD 0)=A:=by
  intro A
  induction A with
  | nil=>intro pre _; rfl
  | cons x A L =>
   intro pre J
   have E:=L (pre++[x]) (by simp [J])
   simp only [List.length_append,List.length_singleton] at E
   simp only [List.length_cons,BW,List.map_cons]
   rw [show ((pre.length:Int)+1)=((pre.length+1:Nat):Int) by omega,E]
   congr 1
   rw [EG,J]
   simp
 exact D l [] rfl
theorem uk (l:List Int):(jt (kf l) l.length).map (λp=>(ix l p).getD 0)=cp l:=by
 refine oL ?_ ?_ (PP l)
 · refine ((XZ _ _).map _).trans ?_
   rw [qU]
   exact (VY l).symm
 · refine List.pairwise_map.2 ((aA (kf l) l.length).imp fun {p q} h=>?_)
   unfold lx kf at h
   omega
theorem lq {r:Request} (k:Int):(Yk r k).length≤12:=by
 have:=(jY (r:=r) (a7 r k)).1
 simp [Yk]; omega
theorem zL {fu:Nat} {r:Request} (h:Sm fu r):Pk fu r=some (O7 r):=by
 have V:=h.fu
 have e:=(R5 r).1
 unfold Pk O7
 rw [pe h,AB]
 have:=cD ((CD r).length:Int) (λn out i=>DU fu r (CD r) n out i) (λD out=>some (out++W3 r D)) (λD out=>out.length+12*D.length≤48) AC ?_ ?_ (CD r).length fu [] 0 AC AC AC (by simp [B5]; omega)
 · simpa using this
 · intro n out k ks Z Y E L J
   simp only [List.length_cons] at L
   have N:=a7 r k
   have A:=jY (r:=r) N
   simp only [DU.eq_2]
   unfold Nn
   rw [E,cond_true,yG h,AB,yN h _ AC,AB]
   have M:=XB (jd r (QV r k)) (λm o i=>HJ fu (DU fu r (CD r) n) r k (jd r (QV r k)) m o i) (λD o=>DU fu r (CD r) n (o++D.map (aD r k)) (AK (k+1))) (λD o=>o.length+D.length≤48∧∀ l∈D,l.length≤12) (by have:=A.1; omega) ?_ ?_ fu out ⟨by have:=A.1; omega,A.2⟩ (by have:=A.1; omega)
   · rw [M,J _ (by have:=A.1; simp; omega)]
     simp [W3,Yk]
   · intro m o i l D Q E L J
     obtain ⟨T,O⟩:=L
     simp only [List.length_cons] at T
     have hl:=O l AD
     simp only [HJ.eq_2]
     unfold MW
     rw [E,cond_true,Q,AB,oe h l AC,AB,show CL fu l=some (cp l) from gS AC,AB,KO AJ,AB,J _ ⟨AJ,λy U=>O y (by simp [U])⟩]
     simp [aD]
   · intro m o i E _
     simp only [HJ.eq_2]
     unfold MW
     rw [E,cond_false]; simp
 · intro n out k E _
   simp only [DU.eq_2]
   unfold Nn
   rw [E,cond_false]; simp [W3]
theorem yd {fu:Nat} {r:Request} (h:Sm fu r):PK fu r=some (O7 r):=by
 have U:=h.fu
 have hg:=(R5 r).1
 unfold PK O7
 rw [oG h,AB]
 have:=cD ((CD r).length:Int) (λn out i=>BQ fu r (CD r) n out i) (λA out=>some (out++W3 r A)) (λA out=>out.length+12*A.length≤48) AC ?_ ?_ (CD r).length fu [] 0 AC AC AC (by simp [B5]; omega)
 · simpa using this
 · intro n out k ks h0 h1 D L J
   simp only [List.length_cons] at L
   have T:=a7 r k
   have E:=jY (r:=r) T
   simp only [BQ.eq_2]
   unfold M6
   rw [D,cond_true,xW h,AB,ym h _ AC,AB]
   have O:=XB (jd r (QV r k)) (λm o i=>CT fu (BQ fu r (CD r) n) r k (jd r (QV r k)) m o i) (λA o=>BQ fu r (CD r) n (o++A.map (aD r k)) (AK (k+1))) (λA o=>o.length+A.length≤48∧∀ l∈A,l.length≤12) (by have:=E.1; omega) ?_ ?_ fu out ⟨by have:=E.1; omega,E.2⟩ (by have:=E.1; omega)
   · rw [O,J _ (by have:=E.1; simp; omega)]
     simp [W3,Yk]
   · intro m o i l A hx D L J
     obtain ⟨h2,e⟩:=L
     simp only [List.length_cons] at h2
     have hl:=e l AD
     simp only [CT.eq_2]
     unfold Nq QA
     rw [D,cond_true,hx,AB,pk h l AC,AB,AB,yx U AC,AB]
     have Z:=V7 (kf l) l.length
     have M:=λx=>ZN (k:=kf l) (n:=l.length) (x:=x)
     have N:=uk l
     generalize jt (kf l) l.length=S at Z M N ⊢
     have k1:=XB S (λV us j=>HH fu (CT fu (BQ fu r (CD r) n) r k (jd r (QV r k)) m) k (jd r (QV r k)) o i (QJ r l).1 S V us j)
      (λA us=>AA (BE 40 o [(⟨(QJ r l).1.fe,k,us++A.map λp=>(ix l p).getD 0⟩:Carton)]) λx=>K8 fu (CT fu (BQ fu r (CD r) n) r k (jd r (QV r k)) m) i x) (λA us=>us.length+A.length≤12∧∀ p∈A,0≤p∧p<l.length) AC ?_ ?_ fu [] ⟨AJ,λp Y=>(M p).1 Y⟩ AC
     · rw [k1,List.nil_append,N,KO AJ,AB]
       unfold K8
       rw [J _ ⟨AJ,λy Q=>e y (by simp [Q])⟩]
       simp [aD]
     · intro V us j p ps Y D L J
       obtain ⟨h4,h5⟩:=L
       simp only [List.length_cons] at h4
       simp only [HH.eq_2]
       unfold M9
       rw [D,cond_true,hx,AB,Y,AB,nu (h5 p AD),AB,KO AJ,AB,J _ ⟨AJ,λy Q=>h5 y (by simp [Q])⟩]
       simp
     · intro V us j D _
       simp only [HH.eq_2]
       unfold M9
       rw [D,cond_false]; simp
   · intro m o i D _
     simp only [CT.eq_2]
     unfold Nq QQ
     rw [D,cond_false]; simp
 · intro n out k D _
   simp only [BQ.eq_2]
   unfold M6
   rw [D,cond_false]; simp [W3]
theorem mE (r:Request):∀ (ks:List Int),(W3 r ks).length≤12*ks.length
 | []=>by simp [W3]
 | k::ks=>by
  have:=mE r ks
  have:=lq (r:=r) k
  simp [W3]; omega
theorem a6 (r:Request):(O7 r).length≤48:=by
 have:=mE r (BW 0 (CD r).length)
 have A:=(R5 r).1
 rw [B5] at this
 unfold O7
 omega
theorem Zc {r:Request} {c:Carton}:∀ {ks:List Int},c∈W3 r ks↔∃ k∈ks,∃ l∈jd r (QV r k),c=aD r k l
 | []=>by simp [W3]
 | k::ks=>by
  simp only [W3,List.mem_append,Zc (ks:=ks),List.mem_cons,Yk,List.mem_map]
  constructor
  · rintro (⟨l,hl,rfl⟩ | ⟨A,D,l,hl,e⟩)
    · exact ⟨k,.inl rfl,l,hl,rfl⟩
    · exact ⟨A,.inr D,l,hl,e⟩
  · rintro ⟨A,rfl | D,l,hl,rfl⟩
    · exact .inl ⟨l,hl,rfl⟩
    · exact .inr ⟨A,D,l,hl,rfl⟩
theorem ZW {r:Request} {c:Carton} (h:c∈O7 r):c.fK.length≤12:=by
 obtain ⟨k,_,l,hl,rfl⟩:=Zc.1 h
 have:=(jY (r:=r) (a7 r k)).2 l hl
 simp only [aD,mr]
 omega
def qE:List Int→Int
 | []=>1
 | x::xs=>x*qE xs
theorem s9 {a b:List Int} (h:a.Perm b):qE a=qE b:=by
 induction h with
 | nil=>rfl
 | cons x _ E=>simp only [qE,E]
 | swap x y l=>simp only [qE,← Int.mul_assoc]; rw [Int.mul_comm x y]
 | trans _ _ D A=>rw [D,A]
theorem pK (a b c:Int):(Y4 a b c).1*((Y4 a b c).2.1*(Y4 a b c).2.2)=a*b*c:=by
 have h:=nl a b c
 unfold bU at h
 simp only [List.length_cons,List.length_nil] at h
 rw [if_pos AC] at h
 have A:=List.mergeSort_perm [a,b,c] λx y=>decide (x≤y)
 rw [Option.some.inj h] at A
 have:=s9 A
 simp only [qE,Int.mul_one] at this
 rw [this,Int.mul_assoc]
theorem wL {a b c m:Int} (D:m≤a) (E:m≤b) (A:m≤c):m≤(Y4 a b c).1:=by
 unfold Y4
 simp only
 split <;> split <;> omega
theorem vq {x:Item} {t:Typ} (M:VV x=true) (J:Yu t=true) (h:Yf x t=true):iz x≤iS t∧x.fQ≤t.fQ:=by
 simp only [VV,Bool.and_eq_true,BS] at M
 simp only [Yu,Bool.and_eq_true,BS] at J
 simp only [Yf,Bool.and_eq_true,decide_eq_true_eq] at h
 obtain ⟨⟨⟨D,A⟩,O⟩,E⟩:=h
 refine ⟨?_,E⟩
 have N:iz x=x.fW*x.fH*x.fD:=by
  unfold iz cY
  rw [show (CW x.fW 0 2000&&(CW x.fH 0 2000&&CW x.fD 0 2000))=true by simp; omega,cond_true]
 have L:iS t=t.fW*t.fH*t.fD:=by
  unfold iS cY
  rw [show (CW t.fW 0 2000&&(CW t.fH 0 2000&&CW t.fD 0 2000))=true by simp; omega,cond_true]
 rw [N,L,← pK x.fW x.fH x.fD,← pK t.fW t.fH t.fD]
 have T:1≤(Y4 x.fW x.fH x.fD).1:=wL AC AC AC
 have s1:=eX x.fW x.fH x.fD
 have Q:=eX t.fW t.fH t.fD
 refine Int.mul_le_mul D ?_ (Int.mul_nonneg AC AC) AC
 exact Int.mul_le_mul A O AC AC
theorem bc {r:Request} {u:Int} (h:0≤u∧u<(CP r).length):LJ r u∈r.fU:=(jZ (Yd h)).2
theorem g5 {r:Request} {u:Int} (h:0≤u∧u<(CP r).length):B9 r=0:=(jZ (Yd h)).1
theorem pw {r:Request} (D:B9 r=0):KB r r.fP=some (VB r)∧VB r∈r.fG∧Yu (VB r)=true:=by
 have h:=(D4 D).2.1
 unfold dS at h
 simp only [Bool.and_eq_true] at h
 obtain ⟨t,A⟩:=Option.isSome_iff_exists.1 h.1.2
 have e:VB r=t:=by unfold VB; rw [A]; rfl
 have E:t∈r.fG:=List.mem_of_find?_eq_some A
 rw [e]
 exact ⟨A,E,ZH (D4 D).1 t E⟩
theorem oZ {r:Request} {u:Int} (h:0≤u∧u<(CP r).length):Vx r [u]=iz (LJ r u)∧Vg r [u]=(LJ r u).fQ:=by
 unfold Vx Vg WH
 simp [List.filterMap_cons,Yd h]
theorem pJ {r:Request} {u:Int} (h:0≤u∧u<(CP r).length):X3 r [u] (VB r)=true:=by
 have A:=g5 h
 have E:=D4 A
 have D:=bc h
 obtain ⟨L,J⟩:=vq ((PT E.1).1 _ D) (pw A).2.2 (E.2.2.2.1 _ D)
 unfold X3
 rw [(oZ h).1,(oZ h).2,Bool.and_eq_true,decide_eq_true_iff,decide_eq_true_iff]
 exact ⟨L,J⟩
def Qc (r:Request) (us:List Int) (l:List Int):Prop:=l≠[]∧(∀ u∈l,u∈us)∧X3 r l (VB r)=true
theorem wJ {r:Request} {us:List Int} {out:List (List Int)} {u:Int} (h:∀ l∈out,Qc r us l) (E:u∈us) (J:0≤u∧u<(CP r).length):∀ l∈qz r out u,Qc r us l:=by
 have N:Qc r us [u]:=⟨AD,λv A=>by rw [List.mem_singleton.1 A]; exact E,pJ J⟩
 intro l hl
 unfold qz lE at hl
 split at hl
 · rename_i i hi
   obtain ⟨x,D,L⟩:=Xv hi
   rw [D] at hl
   rcases List.mem_or_eq_of_mem_set hl with hl | rfl
   · exact h l hl
   · have M:=h x (List.mem_of_getElem? D)
     refine ⟨AD,λv A=>?_,L⟩
     rcases List.mem_append.1 A with A | A
     · exact M.2.1 v A
     · rw [List.mem_singleton.1 A]; exact E
 · rcases List.mem_append.1 hl with hl | hl
   · exact h l hl
   · rw [List.mem_singleton.1 hl]; exact N
theorem xI {r:Request} {us:List Int} {out:List (List Int)} {u:Int} (h:∀ l∈out,Qc r us l) (L:u∈us) (M:0≤u∧u<(CP r).length):∀ l∈bm r out u,Qc r us l:=by
 have J:Qc r us [u]:=⟨AD,λv D=>by rw [List.mem_singleton.1 D]; exact L,pJ M⟩
 intro l hl
 cases A:out.getLast? with
 | none =>
  unfold bm at hl
  rw [A] at hl
  rw [List.mem_singleton.1 hl]; exact J
 | some x =>
  rw [ZK u A] at hl
  have N:=h x (List.mem_of_getLast? A)
  cases E:YL r u x
  · rw [E,cond_false] at hl
    rcases List.mem_append.1 hl with hl | hl
    · exact h l hl
    · rw [List.mem_singleton.1 hl]; exact J
  · rw [E,cond_true] at hl
    rcases List.mem_or_eq_of_mem_set hl with hl | rfl
    · exact h l hl
    · refine ⟨AD,λv D=>?_,E⟩
      rcases List.mem_append.1 D with D | D
      · exact N.2.1 v D
      · rw [List.mem_singleton.1 D]; exact L
theorem ny {r:Request} {us:List Int} {F:List (List Int)→Int→List (List Int)} (D:∀ out u,(∀ l∈out,Qc r us l)→u∈us→(0≤u∧u<(CP r).length)→∀ l∈F out u,Qc r us l):∀ (vs:List Int) (out:List (List Int)),(∀ u∈vs,u∈us∧0≤u∧u<(CP r).length)→(∀ l∈out,Qc r us l)→∀ l∈vs.foldl F out,Qc r us l
 | [],out,_,h=>h
 | v::vs,out,hv,h=>by
  rw [List.foldl_cons]
  have A:=hv v AD
  exact ny D vs _ (λu E=>hv u (by simp [E])) (D out v h A.1 A.2)
theorem jC (r:Request) (us:List Int):(ml r us).Perm us:=by
 unfold ml
 refine ((XZ _ _).map _).trans ?_
 have D:∀ (A pre:List Int),us=pre++A→(BW pre.length A.length).map (λp=>(ix us p).getD 0)=A:=by
  intro A
  induction A with
  | nil=>intro pre _; rfl
  | cons x A L =>
   intro pre J
   have E:=L (pre++[x]) (by simp [J])
   simp only [List.length_append,List.length_singleton] at E
   simp only [List.length_cons,BW,List.map_cons]
   rw [show ((pre.length:Int)+1)=((pre.length+1:Nat):Int) by omega,E]
   congr 1
   rw [EG,J]
   simp
 have:=D us [] rfl
 simp only [List.length_nil] at this
 exact List.Perm.of_eq this
theorem ru {r:Request} {us:List Int}:∀ l∈jd r us,Qc r (On r us) l:=by
 unfold jd vS vL
 have E:∀ u∈On r us,u∈On r us∧0≤u∧u<(CP r).length:=λu A=>⟨A,bo A⟩
 cases r.fc==1
 · rw [cond_false]
   exact ny (λout u h A D=>wJ h A D) _ [] (λu A=>E u ((jC r _).mem_iff.1 A)) AD
 · rw [cond_true]
   exact ny (λout u h A D=>xI h A D) _ [] E AD
theorem p7 (g:List Int→Bool) (out:List (List Int)) (u:Int):(lE g out u).flatten.Perm (out.flatten++[u]):=by
 unfold lE
 split
 · rename_i i hi
   obtain ⟨x,A,_⟩:=Xv hi
   rw [A]
   exact ZG A
 · simp
theorem qx (r:Request) (out:List (List Int)) (u:Int):(bm r out u).flatten.Perm (out.flatten++[u]):=by
 cases A:out.getLast? with
 | none =>
  have:out=[]:=List.getLast?_eq_none_iff.1 A
  subst this
  unfold bm
  simp
 | some x =>
  rw [ZK u A]
  cases YL r u x
  · simp
  · rw [cond_true]
    rw [List.getLast?_eq_getElem?] at A
    exact ZG A
theorem cV {F:List (List Int)→Int→List (List Int)} (A:∀ out u,(F out u).flatten.Perm (out.flatten++[u])):∀ (vs:List Int) (out:List (List Int)),(vs.foldl F out).flatten.Perm (out.flatten++vs)
 | [],out=>by simp
 | v::vs,out=>by
  rw [List.foldl_cons]
  refine (cV A vs _).trans (((A out v).append_right vs).trans ?_)
  simp
theorem nU (r:Request) (us:List Int):(jd r us).flatten.Perm (On r us):=by
 unfold jd vS vL
 cases r.fc==1
 · rw [cond_false]
   refine (cV (λout u=>p7 _ out u) _ []).trans ?_
   simpa using jC r (On r us)
 · rw [cond_true]
   refine (cV (λout u=>qx r out u) _ []).trans ?_
   simp
theorem XT {α:Type} (A:List α) (n:Int) (y:α):(DB A n y).length=A.length:=by simp [DB]
def Xd:List Carton→Nat
 | []=>0
 | x::xs=>x.fK.length+Xd xs
structure Sp (x:Plan):Prop where
 cars:x.fV.length≤1048576
 units:∀ c∈x.fV,c.fK.length≤1048576
 all:Xd x.fV≤1048576
 spots:x.fE.length≤1048576
def dC:List Int→List Int→Bool
 | _,[]=>true
 | pre,x::xs=>CW x 0 999&&((match pre.getLast? with | none=>true | some y=>decide (y<x))&&dC (pre++[x]) xs)
def l9 (l:List Int):Bool:=dC [] l&&decide ((l.length:Int)≤100)
def aw (c:Carton):Bool:=CW c.f8 0 999&&(CW c.fF 0 3&&l9 c.fK)
def la (s:Spot):Bool:=CW s.fJ 0 2000&&(CW s.fX 0 2000&&(CW s.fY 0 2000&&CW s.fZ 0 2000))
def RQ (x:Plan):Bool:=x.fE.length==x.fV.length&&(decide ((x.fV.length:Int)≤100)&&(x.fV.zip x.fE).all λp=>aw p.1&&la p.2)
theorem p0 {pre:List Int} {x:Int} {L l:List Int} (hl:l.length≤1048576) (e:l=pre++x::L):(pre.getLast? = none∧pre.length=0)∨∃ y,pre.getLast? = some y∧0<pre.length∧ix l (AK ((pre.length:Int) - 1))=some y:=by
 cases D:pre.getLast? with
 | none=>exact .inl ⟨rfl,by simpa using List.getLast?_eq_none_iff.1 D⟩
 | some y =>
  have E:pre≠[]:=λe=>by subst e; simp at D
  have A:0<pre.length:=List.length_pos_iff.2 E
  refine .inr ⟨y,rfl,A,?_⟩
  have J:AK ((pre.length:Int) - 1)=((pre.length - 1:Nat):Int):=by
   have:pre.length≤l.length:=by rw [e]; simp
   rw [AU AC AC]; omega
  rw [J,EG,e,List.getElem?_append_left AC,← List.getLast?_eq_getElem?,D]
theorem yt {fu:Nat} {l:List Int} (hl:l.length≤1048576) (O:l.length<fu):NV fu l=some (l9 l):=by
 unfold NV l9
 have E:=vU l (λn (_:Unit) i=>EX fu l n i) (λpre L _=>some (dC pre L&&decide ((l.length:Int)≤100))) AC ?_ ?_ fu () O
 · exact E
 · intro n _ pre x L e Q J A
   have A:=A ()
   simp only [EX.eq_2]
   unfold LP KQ dC
   rw [J,cond_true,Q,AB,Yy,AB]
   cases CW x 0 999
   · rfl
   · rw [Bool.not_true,cond_false,Bool.true_and]
     rcases p0 (hl:=hl) e with ⟨D,T⟩ | ⟨y,D,T,N⟩
     · rw [D,show decide ((pre.length:Int)>0)=false from decide_eq_false AC,cond_false,A]
       simp
     · rw [D,show decide ((pre.length:Int)>0)=true from decide_eq_true AC,cond_true,N,AB,A]
       by_cases M:y<x
       · rw [show decide (y≥x)=false by simp; omega,cond_false]; simp [M]
       · rw [show decide (y≥x)=true by simp; omega,cond_true]; simp [M]
 · intro n _ J
   simp only [EX.eq_2]
   unfold LP
   rw [J,cond_false]
   simp [dC]
theorem yZ {fu:Nat} {c:Carton} (hl:c.fK.length≤1048576) (O:c.fK.length<fu):PD fu c=some (aw c):=by
 unfold PD aw
 rw [uO,AB,X2,AB]
 cases CW c.f8 0 999
 · rfl
 · rw [Bool.not_true,cond_false]
   cases CW c.fF 0 3
   · rfl
   · rw [Bool.not_true,cond_false,Bool.true_and,Bool.true_and]
     unfold l9
     by_cases A:(c.fK.length:Int)≤100
     · rw [show decide ((c.fK.length:Int)>100)=false by simp; omega,cond_false,show decide ((c.fK.length:Int)≤100)=true by simpa using A,Bool.and_true]
       unfold PZ
       have E:=vU c.fK (λn (_:Unit) i=>FK fu c n i) (λpre L _=>some (dC pre L)) AC ?_ ?_ fu () O
       · exact E
       · intro n _ pre x L e Q J D
         have D:=D ()
         simp only [FK.eq_2]
         unfold MZ K9 dC
         rw [J,cond_true,Q,AB,X2,AB]
         cases CW x 0 999
         · rfl
         · rw [Bool.not_true,cond_false,Bool.true_and]
           rcases p0 (hl:=hl) e with ⟨A,T⟩ | ⟨y,A,T,N⟩
           · rw [A,show decide ((pre.length:Int)>0)=false from decide_eq_false AC,cond_false,D]
             simp
           · rw [A,show decide ((pre.length:Int)>0)=true from decide_eq_true AC,cond_true,AB,N,AB,D]
             by_cases M:y<x
             · rw [show decide (x≤y)=false by simp; omega,cond_false]; simp [M]
             · rw [show decide (x≤y)=true by simp; omega,cond_true]; simp [M]
       · intro n _ J
         simp only [FK.eq_2]
         unfold MZ
         rw [J,cond_false]
         simp [dC]
     · rw [show decide ((c.fK.length:Int)>100)=true by simp; omega,cond_true,show decide ((c.fK.length:Int)≤100)=false by simpa using A,Bool.and_false]
theorem Yh {α β:Type} {a:List α} {b:List β} {i:Int} {p:α×β} (h:ix (a.zip b) i=some p):ix a i=some p.1∧ix b i=some p.2:=by
 obtain ⟨A,_,D⟩:=AG h
 have:=List.getElem?_zip_eq_some.1 D
 unfold ix
 rw [if_pos A,if_pos A]
 exact this
theorem r6 {fu:Nat} {x:Plan} (h:Sp x) (Y:1048577≤fu):KY fu x=some (RQ x):=by
 have e:=h.spots
 have U:=h.cars
 unfold KY RQ
 cases L:x.fE.length==x.fV.length
 · have:((x.fE.length:Int) != (x.fV.length:Int))=true:=by simp at L ⊢; omega
   rw [this]; rfl
 · have Z:x.fE.length=x.fV.length:=by simpa using L
   have:((x.fE.length:Int) != (x.fV.length:Int))=false:=AJ
   rw [this,cond_false,Bool.true_and]
   by_cases J:(x.fV.length:Int)≤100
   · rw [show decide ((x.fV.length:Int)>100)=false by simp; omega,cond_false,show decide ((x.fV.length:Int)≤100)=true by simpa using J,Bool.true_and]
     unfold V5
     have M:(x.fV.zip x.fE).length=x.fV.length:=AJ
     have E:=lp (x.fV.zip x.fE) (λn (_:Unit) i=>HX fu x n i) (λl _=>some (l.all λp=>aw p.1&&la p.2)) AC ?_ ?_ fu () AC
     · exact E
     · intro n _ i p V O A D
       have D:=D ()
       obtain ⟨N,T⟩:=Yh O
       have Q:=h.units p.1 (C8 N)
       rw [M] at A
       simp only [HX.eq_2]
       unfold TF VE
       simp only [A,cond_true,N,T,AB,Yy,yt Q (show p.1.fK.length<fu by omega),ki,D,List.all_cons]
       unfold aw la
       cases CW p.1.f8 0 999 <;> cases CW p.1.fF 0 3 <;> cases l9 p.1.fK <;> cases CW p.2.fJ 0 2000 <;> cases CW p.2.fX 0 2000 <;> cases CW p.2.fY 0 2000 <;> cases CW p.2.fZ 0 2000 <;> rfl
     · intro n _ i A
       rw [M] at A
       simp only [HX.eq_2]
       unfold TF
       simp [A]
   · rw [show decide ((x.fV.length:Int)>100)=true by simp; omega,cond_true,show decide ((x.fV.length:Int)≤100)=false by simpa using J,Bool.false_and]
theorem pm {fu:Nat} {x:Plan} (h:Sp x) (Y:1048577≤fu):IQ fu x=some (RQ x):=by
 have e:=h.spots
 have U:=h.cars
 unfold IQ RQ
 cases L:x.fE.length==x.fV.length
 · have:((x.fV.length:Int) != (x.fE.length:Int))=true:=by simp at L ⊢; omega
   rw [this]; rfl
 · have Z:x.fE.length=x.fV.length:=by simpa using L
   have:((x.fV.length:Int) != (x.fE.length:Int))=false:=AJ
   rw [this,cond_false,Bool.true_and]
   by_cases J:(x.fV.length:Int)≤100
   · rw [show decide ((x.fV.length:Int)>100)=false by simp; omega,cond_false,show decide ((x.fV.length:Int)≤100)=true by simpa using J,Bool.true_and]
     unfold V4
     have M:(x.fV.zip x.fE).length=x.fV.length:=AJ
     have E:=lp (x.fV.zip x.fE) (λn (_:Unit) i=>II fu x n i) (λl _=>some (l.all λp=>aw p.1&&la p.2)) AC ?_ ?_ fu () AC
     · exact E
     · intro n _ i p V O A D
       have D:=D ()
       obtain ⟨N,T⟩:=Yh O
       have Q:=h.units p.1 (C8 N)
       rw [M] at A
       simp only [II.eq_2]
       unfold ST VJ
       simp only [A,cond_true,N,T,AB,X2,yZ Q (show p.1.fK.length<fu by omega),D,List.all_cons]
       unfold la
       cases aw p.1 <;> cases CW p.2.fJ 0 2000 <;> cases CW p.2.fX 0 2000 <;> cases CW p.2.fY 0 2000 <;> cases CW p.2.fZ 0 2000 <;> rfl
     · intro n _ i A
       rw [M] at A
       simp only [II.eq_2]
       unfold ST
       simp [A]
   · rw [show decide ((x.fV.length:Int)>100)=true by simp; omega,cond_true,show decide ((x.fV.length:Int)≤100)=false by simpa using J,Bool.false_and]
def ln (k:Int):Int→List Spot→List Int
 | _,[]=>[]
 | i,s::l=>bif s.fJ==k then i::ln k (i+1) l else ln k (i+1) l
def YR (x:Plan) (k:Int):List Int:=bif x.fE.length==x.fV.length then ln k 0 x.fE else []
theorem oT (k:Int):∀ (l:List Spot) (a i:Int),i∈ln k a l↔∃ (j:Nat) (s:Spot),l[j]? = some s∧i=a+j∧s.fJ=k
 | [],a,i=>by simp [ln]
 | s::l,a,i=>by
  have E:=oT k l (a+1) i
  constructor
  · intro h
    unfold ln at h
    cases J:s.fJ==k
    · rw [J,cond_false] at h
      obtain ⟨j,t,A,L,D⟩:=E.1 h
      exact ⟨j+1,t,by simpa using A,AC,D⟩
    · rw [J,cond_true,List.mem_cons] at h
      rcases h with rfl | h
      · exact ⟨0,s,rfl,AC,by simpa using J⟩
      · obtain ⟨j,t,A,L,D⟩:=E.1 h
        exact ⟨j+1,t,by simpa using A,AC,D⟩
  · rintro ⟨j,t,A,L,D⟩
    unfold ln
    cases j with
    | zero =>
     simp only [List.getElem?_cons_zero,Option.some.injEq] at A
     subst A
     rw [show (s.fJ==k)=true by simpa using D,cond_true]
     simp; omega
    | succ j =>
     have:i∈ln k (a+1) l:=E.2 ⟨j,t,by simpa using A,AC,D⟩
     cases s.fJ==k <;> simp [this]
theorem pz (k:Int):∀ (l:List Spot) (a:Int),(ln k a l).length≤l.length
 | [],_=>Nat.le_refl _
 | s::l,a=>by
  have:=pz k l (a+1)
  unfold ln
  cases s.fJ==k <;> simp <;> omega
theorem eC (x:Plan) (k:Int):(YR x k).length≤x.fE.length:=by
 unfold YR
 cases x.fE.length==x.fV.length
 · simp
 · exact pz k _ 0
theorem ZI {x:Plan} {k i:Int} (h:i∈YR x k):∃ c s,ix x.fV i=some c∧ix x.fE i=some s∧s.fJ=k:=by
 unfold YR at h
 cases A:x.fE.length==x.fV.length
 · rw [A] at h; simp at h
 · rw [A,cond_true] at h
   obtain ⟨j,s,D,_,E⟩:=(oT k _ 0 i).1 h
   have J:=(List.getElem?_eq_some_iff.1 D).1
   have hl:x.fE.length=x.fV.length:=by simpa using A
   have e:i=(j:Int):=AC
   subst e
   exact ⟨_,s,Xi AC,mv D,E⟩
theorem xY {fu:Nat} {x:Plan} (hl:x.fE.length≤1048576) (N:x.fE.length<fu) (k:Int):MO fu x k=some (YR x k):=by
 unfold MO YR
 cases L:x.fE.length==x.fV.length
 · have:((x.fE.length:Int) != (x.fV.length:Int))=true:=by simp at L ⊢; omega
   rw [this]; rfl
 · have:((x.fE.length:Int) != (x.fV.length:Int))=false:=by simp at L ⊢; omega
   rw [this,cond_false,cond_true]
   have D:=hU x.fE (λn (o:List Int) i=>F8 fu x k n o i) (λpre A o=>some (o++ln k pre.length A)) (λpre A o=>o.length+A.length≤1048576) AC ?_ ?_ fu [] AJ N
   · simpa using D
   · intro n o pre s A e O E M J
     simp only [List.length_cons] at M
     simp only [F8.eq_2]
     unfold OV LQ ln
     rw [E,cond_true,O,AB]
     cases s.fJ==k
     · rw [cond_false,cond_false,J _ AC]; simp
     · rw [cond_true,cond_true,KO AJ,AB,J _ AJ]; simp
   · intro n o E _
     simp only [F8.eq_2]
     unfold OV
     rw [E,cond_false]; simp [ln]
theorem yR {fu:Nat} {x:Plan} (hl:x.fE.length≤1048576) (U:x.fV.length≤1048576) (Q:x.fE.length<fu) (N:x.fV.length<fu) (k:Int):MH fu x k=some (YR x k):=by
 unfold MH YR
 cases M:x.fE.length==x.fV.length
 · have e:((x.fV.length:Int)==(x.fE.length:Int))=false:=by simp at M ⊢; omega
   obtain ⟨m,rfl⟩:∃ m,fu=m+1:=⟨fu - 1,AC⟩
   rw [D7.eq_2]
   unfold KN
   rw [e]
   cases decide ((0:Int)<(x.fV.length:Int)) <;> rfl
 · have L:x.fE.length=x.fV.length:=by simpa using M
   have e:((x.fV.length:Int)==(x.fE.length:Int))=true:=AJ
   rw [cond_true]
   have E:=hU x.fE (λn (o:List Int) i=>D7 fu x k n o i) (λpre A o=>some (o++ln k pre.length A)) (λpre A o=>o.length+A.length≤1048576) AC ?_ ?_ fu [] AJ Q
   · simpa using E
   · intro n o pre s A V T D O J
     simp only [List.length_cons] at O
     simp only [D7.eq_2]
     unfold KN SZ LR ln
     rw [L] at D
     rw [D,cond_true,e,cond_true,T,AB]
     cases s.fJ==k
     · rw [cond_false,cond_false,J _ AC]; simp
     · rw [cond_true,cond_true,KO AJ,AB,J _ AJ]; simp
   · intro n o D _
     simp only [D7.eq_2]
     unfold KN
     rw [← L,D,cond_false]; simp [ln]
def z7:Carton:=⟨0,0,[]⟩
def WC (x:Plan) (i:Int):Carton:=(ix x.fV i).getD z7
def uP (r:Request) (x:Plan) (k:Int):Int:=HW ((YR x k).map λi=>bQ r (WC x i))
theorem r4 (r:Request) (c:Carton) (hl:c.fK.length≤1048576):0≤bQ r c∧bQ r c≤104857700000:=by
 unfold bQ
 cases D:KB r c.f8 with
 | none=>simp
 | some t =>
  cases A:B9 r==0
  · simp
  · have J:=oq (by simpa using A) D
    have E:=kJ r c.fK
    simp only [cond_true]
    omega
theorem Qac {fu:Nat} {r:Request} (h:Sm fu r) {x:Plan} (N:Sp x) (k:Int):NG fu r x k=some (uP r x k):=by
 have U:=h.fu
 have Q:=N.spots
 have Y:=eC x k
 unfold NG uP
 rw [xY Q AC,AB]
 have L:=XB (YR x k) (λn (s:Int) i=>GL fu r x (YR x k) n s i) (λl s=>some (s+HW (l.map λi=>bQ r (WC x i)))) (λl s=>0≤s∧s+104857700000*l.length≤104857700000*1048576∧∀ i∈l,∃ c,ix x.fV i=some c) AC ?_ ?_ fu 0 ⟨AC,AC,λi hi=>?_⟩ AC
 · simpa using L
 · intro n s i j V T M E O
   obtain ⟨c,A⟩:=E.2.2 j AD
   have D:=N.units c (C8 A)
   have Z:=r4 r c D
   have J:=E.2.1
   simp only [List.length_cons] at J
   simp only [GL.eq_2]
   unfold LT
   rw [M,cond_true,T,AB,A,AB,oD h c D,AB,AU AC AC,O _ ⟨AC,AC,λi hi=>E.2.2 i (by simp [hi])⟩]
   simp only [List.map_cons,ED,WC,A,Option.getD_some]
   congr 1
   omega
 · intro n s i M _
   simp only [GL.eq_2]
   unfold LT
   rw [M,cond_false]; simp
 · obtain ⟨c,_,A,_⟩:=ZI hi
   exact ⟨c,A⟩
theorem zX {fu:Nat} {r:Request} (h:Sm fu r) {x:Plan} (L:Sp x) (k:Int):NF fu r x k=some (uP r x k):=by
 have V:=h.fu
 have Q:=L.spots
 have T:=L.cars
 have Z:=eC x k
 unfold NF uP
 rw [yR Q T AC AC,AB]
 have M:=XB (YR x k) (λn (s:Int) i=>GH fu r x (YR x k) n s i) (λl s=>some (s+HW (l.map λi=>bQ r (WC x i)))) (λl s=>0≤s∧s+104857700000*l.length≤104857700000*1048576∧∀ i∈l,∃ c,ix x.fV i=some c) AC ?_ ?_ fu 0 ⟨AC,AC,λi hi=>?_⟩ AC
 · simpa using M
 · intro n s i j Y U N E O
   obtain ⟨c,A⟩:=E.2.2 j AD
   have D:=L.units c (C8 A)
   have e:=r4 r c D
   have J:=E.2.1
   simp only [List.length_cons] at J
   simp only [GH.eq_2]
   unfold LZ
   rw [N,cond_true,U,AB,A,AB,oi h c D,AB,AU AC AC,O _ ⟨AC,AC,λi hi=>E.2.2 i (by simp [hi])⟩]
   simp only [List.map_cons,ED,WC,A,Option.getD_some]
   congr 1
   omega
 · intro n s i N _
   simp only [GH.eq_2]
   unfold LZ
   rw [N,cond_false]; simp
 · obtain ⟨c,_,A,_⟩:=ZI hi
   exact ⟨c,A⟩
def Lt (l:List Carton):List Int:=(l.map (·.fK)).flatten
theorem ZM (l:List Carton):(Lt l).length=Xd l:=by
 induction l with
 | nil=>rfl
 | cons c l A =>
  have e:Lt (c::l)=c.fK++Lt l:=rfl
  rw [e,List.length_append,A]; rfl
theorem xn {fu:Nat} {x:Plan} (h:Sp x) (O:1048577≤fu):Vi fu x=some (Lt x.fV):=by
 have M:=h.cars
 have hl:=ZM x.fV
 have N:=h.all
 unfold Vi
 have:=XB x.fV (λn out i=>JA fu x n out i) (λA out=>some (out++Lt A)) (λA out=>out.length+(Lt A).length≤1048576) AC ?_ ?_ fu [] AJ AC
 · simpa using this
 · intro n out i c A L D E J
   have e:Lt (c::A)=c.fK++Lt A:=rfl
   rw [e,List.length_append] at E
   simp only [JA.eq_2]
   unfold QG
   rw [D,cond_true,L,AB,KO AC,AB,J _ AJ,e]
   simp
 · intro n out i D E
   simp only [JA.eq_2]
   unfold QG
   simp only [D,cond_false]
   simp [Lt]
theorem wV {fu:Nat} {x:Plan} (h:Sp x) (O:1048577≤fu):Sk fu x=some (Lt x.fV):=by
 have M:=h.cars
 have hl:=ZM x.fV
 have N:=h.all
 unfold Sk
 have:=XB x.fV (λn out i=>IJ fu x n out i) (λA out=>some (out++Lt A)) (λA out=>out.length+(Lt A).length≤1048576) AC ?_ ?_ fu [] AJ AC
 · simpa using this
 · intro n out i c A L D E J
   have e:Lt (c::A)=c.fK++Lt A:=rfl
   rw [e,List.length_append] at E
   simp only [IJ.eq_2]
   unfold OM
   rw [D,cond_true,L,AB,KO AC,AB,J _ AJ,e]
   simp
 · intro n out i D E
   simp only [IJ.eq_2]
   unfold OM
   simp only [D,cond_false]
   simp [Lt]
end Go.Proofs.YtdgpkmgnjdpieaaGreatDoor
