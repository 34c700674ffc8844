/- PlannedBP: plain lem.. -/
import Derived.Test.YtpcmapfabndggaaGreatDoorPlannedBP2
set_option linter.unusedSimpArgs false
set_option linter.unusedVariables false
namespace Go.Proofs.YtpcmapfabndggaaGreatDoor
open Go
open Enc (rd ow)
open Arg (argv)
open Ret (retv)
open Wf (wf)
def okL (p:Pallet) (d h g:Int):Bool:=inb d 1 p.fD&&(inb h 1 p.fH&&inb g 1 p.fQ)
theorem Jjc (fu:Nat) (p:Pallet) (d h g:Int):Qq8 fu p d h g=some (okL p d h g):=by
 unfold Qq8 okL
 simp only [Q32,Qab]
 cases inb d 1 p.fD <;> cases inb h 1 p.fH <;> rfl
theorem Jkv {fu:Nat} (p:Pallet) (l:List Shelf) (hl:l.length≤1048576) (hf:l.length<fu):Qm8 fu p l=some (Qv8 p&&l.all λs=>okL p s.fD s.fH s.fQ):=by
 unfold Qm8
 rw [Jd7,Qab]
 cases Qv8 p
 · rfl
 · rw [Bool.not_true,cond_false,Bool.true_and]
   have:=Jfx l (λn i=>Qfi fu p l n i) (λs=>okL p s.fD s.fH s.fQ) (some true) (by omega) ?_ ?_ fu hf
   · rw [this]
     cases l.all λs=>okL p s.fD s.fH s.fQ <;> rfl
   · intro n i x hx hd
     simp only [Qfi.eq_2]
     unfold Qi5
     simp only [hd,cond_true,hx,Qab,Jjc]
     cases okL p x.fD x.fH x.fQ <;> rfl
   · intro n i hd
     simp only [Qfi.eq_2]
     unfold Qi5
     rw [hd,cond_false]
theorem Jjw {fu:Nat} (p:Pallet) (l:List Layer) (hl:l.length≤1048576) (hf:l.length<fu):Qoe fu p l=some (Qv8 p&&l.all λs=>okL p s.fD s.fH s.fQ):=by
 unfold Qoe
 rw [Jd7,Qab]
 cases Qv8 p
 · rfl
 · rw [Bool.not_true,cond_false,Bool.true_and]
   have:=Jfx l (λn i=>Qgd fu p l n i) (λs=>okL p s.fD s.fH s.fQ) (some true) (by omega) ?_ ?_ fu hf
   · rw [this]
     cases l.all λs=>okL p s.fD s.fH s.fQ <;> rfl
   · intro n i x hx hd
     simp only [Qgd.eq_2]
     unfold Qjz
     simp only [hd,cond_true,hx,Qab,Jjc]
     cases okL p x.fD x.fH x.fQ <;> rfl
   · intro n i hd
     simp only [Qgd.eq_2]
     unfold Qjz
     rw [hd,cond_false]
def shA (l:List Shelf) (i:Int):Shelf:=(ix l i).getD zSh
def zLy:Layer:=⟨[],0,0,0⟩
def Qsf (x:Layer) (i:Int) (s:Shelf):Layer:=⟨x.fE++[i],x.fD+s.fD,mxI x.fH s.fH,x.fQ+s.fQ⟩
def Q8q (p:Pallet) (s:Shelf) (x:Layer):Bool:=decide (x.fD+s.fD≤p.fD)&&decide (x.fQ+s.fQ≤p.fQ)
def lyS (p:Pallet) (l:List Shelf) (out:List Layer) (i:Int):List Layer:=nxG (Q8q p (shA l i)) (λs=>Qsf s i (shA l i)) zLy out
def lyM (p:Pallet) (l:List Shelf):List Layer:=(Qf5 0 l.length).foldl (lyS p l) []
structure LyI (p:Pallet) (n:Nat) (s:Layer):Prop where
 ne:s.fE≠[]
 inn:∀ i∈s.fE,0≤i∧i<n
 d:1≤s.fD∧s.fD≤p.fD
 h:1≤s.fH∧s.fH≤p.fH
 g:1≤s.fQ∧s.fQ≤p.fQ
def OkS (p:Pallet) (l:List Shelf):Prop:=∀ s∈l,(1≤s.fD∧s.fD≤p.fD)∧(1≤s.fH∧s.fH≤p.fH)∧(1≤s.fQ∧s.fQ≤p.fQ)
theorem Q4x {p:Pallet} {l:List Shelf} (h:OkS p l) {i:Int} (hi:0≤i∧i<l.length):ix l i=some (shA l i)∧(1≤(shA l i).fD∧(shA l i).fD≤p.fD)∧(1≤(shA l i).fH∧(shA l i).fH≤p.fH)∧(1≤(shA l i).fQ∧(shA l i).fQ≤p.fQ)∧shA l i∈l:=by
 obtain ⟨x,hx⟩:=Q3k (l:=l) hi.1 hi.2
 have e:shA l i=x:=by unfold shA; rw [hx]; rfl
 rw [e]
 exact ⟨hx,(h x (Qf7 hx)).1,(h x (Qf7 hx)).2.1,(h x (Qf7 hx)).2.2,Qf7 hx⟩
theorem Q51 {p:Pallet} {l:List Shelf} (hb:OkS p l) {out:List Layer} {i:Int} (hi:0≤i∧i<l.length) (h:∀ s∈out,LyI p l.length s):∀ s∈lyS p l out i,LyI p l.length s:=by
 obtain ⟨_,b1,b2,b3,_⟩:=Q4x hb hi
 refine Qx2 h (λs hs hf=>?_) ⟨by simp [Qsf],λj hj=>?_,?_,?_,?_⟩
 · unfold Q8q at hf
   simp only [Bool.and_eq_true,decide_eq_true_eq] at hf
   obtain ⟨s1,s2,s4,s5,s6⟩:=hs
   have m2:=Qu1 s.fH (shA l i).fH
   refine ⟨by simp [Qsf],λj hj=>?_,?_,?_,?_⟩
   · simp only [Qsf,List.mem_append,List.mem_singleton] at hj
     rcases hj with hj | rfl
     · exact s2 j hj
     · exact hi
   · simp only [Qsf]; omega
   · simp only [Qsf]; omega
   · simp only [Qsf]; omega
 · simp only [Qsf,zLy,List.nil_append,List.mem_singleton] at hj
   rw [hj]; exact hi
 · simp only [Qsf,zLy]; omega
 · have:=Qu1 0 (shA l i).fH
   simp only [Qsf,zLy]; omega
 · simp only [Qsf,zLy]; omega
theorem Jcf {p:Pallet} {l:List Shelf} (hb:OkS p l):∀ (is:List Int) (out:List Layer),(∀ i∈is,0≤i∧i<l.length)→(∀ s∈out,LyI p l.length s)→(∀ s∈is.foldl (lyS p l) out,LyI p l.length s)∧((is.foldl (lyS p l) out).map (·.fE)).flatten=(out.map (·.fE)).flatten++is∧(is.foldl (lyS p l) out).length≤out.length+is.length
 | [],out,_,h=>⟨h,by simp,by simp⟩
 | i::is,out,hi,h=>by
  rw [List.foldl_cons]
  obtain ⟨h1,h2,h3⟩:=Jcf hb is (lyS p l out i) (λj hj=>hi j (by simp [hj])) (Q51 hb (hi i (by simp)) h)
  have h4:((lyS p l out i).map (·.fE)).flatten=(out.map (·.fE)).flatten++[i]:=Qtd (λs=>rfl) rfl
  have h5:(lyS p l out i).length≤out.length+1:=Quk _ _ _ _
  refine ⟨h1,by rw [h2,h4]; simp,by simp; omega⟩
theorem Q0v {p:Pallet} {l:List Shelf} (hb:OkS p l):(∀ s∈lyM p l,LyI p l.length s)∧((lyM p l).map (·.fE)).flatten=Qf5 0 l.length∧(lyM p l).length≤l.length:=by
 unfold lyM
 obtain ⟨h1,h2,h3⟩:=Jcf hb (Qf5 0 l.length) [] (λi hi=>by have:=Qc5.1 hi; omega) (by simp)
 refine ⟨h1,by simpa using h2,?_⟩
 rw [Qcs] at h3
 simpa using h3
theorem Jij {p:Pallet} {l:List Shelf} (h:OkS p l):(l.all λs=>okL p s.fD s.fH s.fQ)=true:=by
 refine List.all_eq_true.2 λs hs=>?_
 unfold okL
 simp only [Bool.and_eq_true,Qcu]
 exact ⟨(h s hs).1,(h s hs).2.1,(h s hs).2.2⟩
theorem Jc7 {fu:Nat} (hfu:2097153≤fu) {p:Pallet} (hp:Qv8 p=true) {l:List Shelf} (hb:OkS p l) (hl:l.length≤1000):Qov fu p l=some (lyM p l):=by
 unfold Qov lyM
 rw [Jkv p l (by omega) (by omega),hp,Jij hb,Qab,Bool.and_self,Bool.not_true,cond_false]
 obtain ⟨p1,p2,p3,p4⟩:=Qu5 hp
 have L1:=Q8j (l.length:Int) (λn (o:List Layer) i=>Qbs fu p l n o i) (λxs o=>some (xs.foldl (lyS p l) o)) (λxs o=>(∀ s∈o,LyI p l.length s)∧((o.map (·.fE)).flatten).length+xs.length≤1000∧o.length+xs.length≤1000) (by omega) ?_ ?_ l.length fu [] 0 (by omega) (by omega) (by omega) ⟨by simp,by simp [Qcs]; omega,by simp [Qcs]; omega⟩
 · exact L1
 · intro n o i xs x0 x1 hd hI ih
   obtain ⟨i2,i3,i4⟩:=hI
   simp only [List.length_cons] at i3 i4
   obtain ⟨hbx,b1,b2,b3,_⟩:=Q4x hb ⟨x0,x1⟩
   have hflat:((lyS p l o i).map (·.fE)).flatten=(o.map (·.fE)).flatten++[i]:=Qtd (λs=>rfl) rfl
   have hlen:(lyS p l o i).length≤o.length+1:=Quk _ _ _ _
   have ih':=ih (lyS p l o i) ⟨Q51 hb ⟨x0,x1⟩ i2,by rw [hflat,List.length_append,List.length_singleton]; omega,by omega⟩
   have J:∀ (o':List Layer) (x:Layer),o'.length≤1000→(x.fE.length≤1000)→(0≤x.fD∧x.fD≤2000)→(0≤x.fQ∧x.fQ≤100000)→Qdn fu (Qbs fu p l n) i (shA l i) (o'++[x]) ((o'.length:Int)+1)=Qbs fu p l n (o'++[Qsf x i (shA l i)]) (w64 (i+1)):=by
    intro o' x h1 h2 h3 h4
    unfold Qdn Qnp
    have e1:w64 ((o'.length:Int)+1 - 1)=(o'.length:Int):=by rw [Qbe (by omega) (by omega)]; omega
    have e2:ix (o'++[x]) (o'.length:Int)=some x:=by rw [Qi4]; simp
    rw [e1,e2,Qab,ap1 (by simp; omega),Qab,ap1 (by simp; omega),Qab,Jc8,Qab,Qab,Qbe (n:=x.fD+_) (by omega) (by omega),Qbe (n:=x.fQ+_) (by omega) (by omega)]
    have e3:∀ y:Layer,Qhe (o'++[x]) (o'.length:Int) y=o'++[y]:=by intro y; simp [Qhe]
    rw [e3]
    rfl
   simp only [Qbs.eq_2]
   unfold Qj6
   rw [hd,cond_true,hbx,Qab,List.foldl_cons,← ih']
   by_cases he:o=[]
   · subst he
     rw [Qbj (by simp),ap1 (by simp),Qab]
     have:=J [] zLy (by simp) (by simp [zLy]) (by simp [zLy]) (by simp [zLy])
     rw [Qbe (by simp) (by simp)]
     exact this
   · obtain ⟨s,e1,e2⟩:=Qvm he
     have hpl:=List.length_pos_iff.2 he
     have hsm':=List.mem_of_getLast? e1
     have hs:=i2 s hsm'
     have hsl':=Qsh (λs:Layer=>s.fE) o s hsm'
     obtain ⟨s1,s2,s4,s5,s6⟩:=hs
     have eS:lyS p l o i=bif Q8q p (shA l i) s then o.set (o.length - 1) (Qsf s i (shA l i)) else o++[Qsf zLy i (shA l i)]:=Qv3 e1
     have eo:o=o.dropLast++[s]:=by
      have h1:=List.dropLast_concat_getLast he
      rw [List.getLast?_eq_some_getLast he] at e1
      rw [Option.some.inj e1] at h1
      exact h1.symm
     have e3:Qdn fu (Qbs fu p l n) i (shA l i) o (o.length:Int)=Qbs fu p l n (o.set (o.length - 1) (Qsf s i (shA l i))) (w64 (i+1)):=by
      obtain ⟨d,hd⟩:∃ d,o=d++[s]:=⟨_,eo⟩
      rw [hd] at i4 ⊢
      simp only [List.length_append,List.length_singleton] at i4
      have:=J d s (by omega) (by omega) (by omega) (by omega)
      rw [show (((d++[s]).length:Nat):Int)=(d.length:Int)+1 by simp,this]
      congr 1
      simp
     have e4:Qdn fu (Qbs fu p l n) i (shA l i) (o++[zLy]) (w64 ((o.length:Int)+1))=Qbs fu p l n (o++[Qsf zLy i (shA l i)]) (w64 (i+1)):=by
      rw [Qbe (by omega) (by omega)]
      exact J o zLy (by omega) (by simp [zLy]) (by simp [zLy]) (by simp [zLy])
     rw [Qbe (n:=(o.length:Int) - 1) (by omega) (by omega),e2,Qab,Qau (by simp; omega),Qab,Qbe (n:=s.fD+_) (by omega) (by omega),Qbe (n:=s.fQ+_) (by omega) (by omega),ap1 (by simp; omega),Qab,e3]
     rw [show (⟨[],0,0,0⟩:Layer)=zLy from rfl,e4,eS]
     unfold Q8q
     by_cases c1:s.fD+(shA l i).fD≤p.fD
     · rw [Qau (c:=decide (s.fD+(shA l i).fD>p.fD)) (by simp; omega),decide_eq_true c1]
       by_cases c2:s.fQ+(shA l i).fQ≤p.fQ
       · rw [Qau (c:=decide (s.fQ+(shA l i).fQ>p.fQ)) (by simp; omega),decide_eq_true c2]; rfl
       · rw [Qbj (c:=decide (s.fQ+(shA l i).fQ>p.fQ)) (by simp; omega),decide_eq_false c2]; rfl
     · rw [Qbj (c:=decide (s.fD+(shA l i).fD>p.fD)) (by simp; omega),decide_eq_false c1]; rfl
 · intro n o i hd _
   simp only [Qbs.eq_2]
   unfold Qj6
   rw [hd,cond_false]; rfl
def lyA (l:List Layer) (i:Int):Layer:=(ix l i).getD zLy
def zLd:Load:=⟨[],0,0⟩
def Qtv (x:Load) (i:Int) (s:Layer):Load:=⟨x.f8++[i],x.fH+s.fH,x.fQ+s.fQ⟩
def Q82 (p:Pallet) (s:Layer) (x:Load):Bool:=decide (x.fH+s.fH≤p.fH)&&decide (x.fQ+s.fQ≤p.fQ)
def ldS (p:Pallet) (l:List Layer) (out:List Load) (i:Int):List Load:=nxG (Q82 p (lyA l i)) (λs=>Qtv s i (lyA l i)) zLd out
def ldM (p:Pallet) (l:List Layer):List Load:=(Qf5 0 l.length).foldl (ldS p l) []
structure LdI (p:Pallet) (n:Nat) (s:Load):Prop where
 ne:s.f8≠[]
 inn:∀ i∈s.f8,0≤i∧i<n
 h:1≤s.fH∧s.fH≤p.fH
 g:1≤s.fQ∧s.fQ≤p.fQ
def OkY (p:Pallet) (l:List Layer):Prop:=∀ s∈l,(1≤s.fD∧s.fD≤p.fD)∧(1≤s.fH∧s.fH≤p.fH)∧(1≤s.fQ∧s.fQ≤p.fQ)
theorem Q5v {p:Pallet} {l:List Layer} (h:OkY p l) {i:Int} (hi:0≤i∧i<l.length):ix l i=some (lyA l i)∧(1≤(lyA l i).fD∧(lyA l i).fD≤p.fD)∧(1≤(lyA l i).fH∧(lyA l i).fH≤p.fH)∧(1≤(lyA l i).fQ∧(lyA l i).fQ≤p.fQ)∧lyA l i∈l:=by
 obtain ⟨x,hx⟩:=Q3k (l:=l) hi.1 hi.2
 have e:lyA l i=x:=by unfold lyA; rw [hx]; rfl
 rw [e]
 exact ⟨hx,(h x (Qf7 hx)).1,(h x (Qf7 hx)).2.1,(h x (Qf7 hx)).2.2,Qf7 hx⟩
theorem Q6n {p:Pallet} {l:List Layer} (hb:OkY p l) {out:List Load} {i:Int} (hi:0≤i∧i<l.length) (h:∀ s∈out,LdI p l.length s):∀ s∈ldS p l out i,LdI p l.length s:=by
 obtain ⟨_,b1,b2,b3,_⟩:=Q5v hb hi
 refine Qx2 h (λs hs hf=>?_) ⟨by simp [Qtv],λj hj=>?_,?_,?_⟩
 · unfold Q82 at hf
   simp only [Bool.and_eq_true,decide_eq_true_eq] at hf
   obtain ⟨s1,s2,s5,s6⟩:=hs
   refine ⟨by simp [Qtv],λj hj=>?_,?_,?_⟩
   · simp only [Qtv,List.mem_append,List.mem_singleton] at hj
     rcases hj with hj | rfl
     · exact s2 j hj
     · exact hi
   · simp only [Qtv]; omega
   · simp only [Qtv]; omega
 · simp only [Qtv,zLd,List.nil_append,List.mem_singleton] at hj
   rw [hj]; exact hi
 · simp only [Qtv,zLd]; omega
 · simp only [Qtv,zLd]; omega
theorem Jal {p:Pallet} {l:List Layer} (hb:OkY p l):∀ (is:List Int) (out:List Load),(∀ i∈is,0≤i∧i<l.length)→(∀ s∈out,LdI p l.length s)→(∀ s∈is.foldl (ldS p l) out,LdI p l.length s)∧((is.foldl (ldS p l) out).map (·.f8)).flatten=(out.map (·.f8)).flatten++is∧(is.foldl (ldS p l) out).length≤out.length+is.length
 | [],out,_,h=>⟨h,by simp,by simp⟩
 | i::is,out,hi,h=>by
  rw [List.foldl_cons]
  obtain ⟨h1,h2,h3⟩:=Jal hb is (ldS p l out i) (λj hj=>hi j (by simp [hj])) (Q6n hb (hi i (by simp)) h)
  have h4:((ldS p l out i).map (·.f8)).flatten=(out.map (·.f8)).flatten++[i]:=Qtd (λs=>rfl) rfl
  have h5:(ldS p l out i).length≤out.length+1:=Quk _ _ _ _
  refine ⟨h1,by rw [h2,h4]; simp,by simp; omega⟩
theorem Q4i {p:Pallet} {l:List Layer} (hb:OkY p l):(∀ s∈ldM p l,LdI p l.length s)∧((ldM p l).map (·.f8)).flatten=Qf5 0 l.length∧(ldM p l).length≤l.length:=by
 unfold ldM
 obtain ⟨h1,h2,h3⟩:=Jal hb (Qf5 0 l.length) [] (λi hi=>by have:=Qc5.1 hi; omega) (by simp)
 refine ⟨h1,by simpa using h2,?_⟩
 rw [Qcs] at h3
 simpa using h3
theorem Jhy {p:Pallet} {l:List Layer} (h:OkY p l):(l.all λs=>okL p s.fD s.fH s.fQ)=true:=by
 refine List.all_eq_true.2 λs hs=>?_
 unfold okL
 simp only [Bool.and_eq_true,Qcu]
 exact ⟨(h s hs).1,(h s hs).2.1,(h s hs).2.2⟩
theorem Jfp {fu:Nat} (hfu:2097153≤fu) {p:Pallet} (hp:Qv8 p=true) {l:List Layer} (hb:OkY p l) (hl:l.length≤1000):Qp1 fu p l=some (ldM p l):=by
 unfold Qp1 ldM
 rw [Jjw p l (by omega) (by omega),hp,Jhy hb,Qab,Bool.and_self,Bool.not_true,cond_false]
 obtain ⟨p1,p2,p3,p4⟩:=Qu5 hp
 have L1:=Q8j (l.length:Int) (λn (o:List Load) i=>Qb1 fu p l n o i) (λxs o=>some (xs.foldl (ldS p l) o)) (λxs o=>(∀ s∈o,LdI p l.length s)∧((o.map (·.f8)).flatten).length+xs.length≤1000∧o.length+xs.length≤1000) (by omega) ?_ ?_ l.length fu [] 0 (by omega) (by omega) (by omega) ⟨by simp,by simp [Qcs]; omega,by simp [Qcs]; omega⟩
 · exact L1
 · intro n o i xs x0 x1 hd hI ih
   obtain ⟨i2,i3,i4⟩:=hI
   simp only [List.length_cons] at i3 i4
   obtain ⟨hbx,b1,b2,b3,_⟩:=Q5v hb ⟨x0,x1⟩
   have hflat:((ldS p l o i).map (·.f8)).flatten=(o.map (·.f8)).flatten++[i]:=Qtd (λs=>rfl) rfl
   have hlen:(ldS p l o i).length≤o.length+1:=Quk _ _ _ _
   have ih':=ih (ldS p l o i) ⟨Q6n hb ⟨x0,x1⟩ i2,by rw [hflat,List.length_append,List.length_singleton]; omega,by omega⟩
   have J:∀ (o':List Load) (x:Load),o'.length≤1000→(x.f8.length≤1000)→(0≤x.fH∧x.fH≤2000)→(0≤x.fQ∧x.fQ≤100000)→Qd7 fu (Qb1 fu p l n) i (lyA l i) (o'++[x]) ((o'.length:Int)+1)=Qb1 fu p l n (o'++[Qtv x i (lyA l i)]) (w64 (i+1)):=by
    intro o' x h1 h2 h3 h4
    unfold Qd7 Qo5
    have e1:w64 ((o'.length:Int)+1 - 1)=(o'.length:Int):=by rw [Qbe (by omega) (by omega)]; omega
    have e2:ix (o'++[x]) (o'.length:Int)=some x:=by rw [Qi4]; simp
    rw [e1,e2,Qab,ap1 (by simp; omega),Qab,ap1 (by simp; omega),Qab,Qab,Qbe (n:=x.fH+_) (by omega) (by omega),Qbe (n:=x.fQ+_) (by omega) (by omega)]
    have e3:∀ y:Load,Qhe (o'++[x]) (o'.length:Int) y=o'++[y]:=by intro y; simp [Qhe]
    rw [e3]
    rfl
   simp only [Qb1.eq_2]
   unfold Qml
   rw [hd,cond_true,hbx,Qab,List.foldl_cons,← ih']
   by_cases he:o=[]
   · subst he
     rw [Qbj (by simp),ap1 (by simp),Qab]
     have:=J [] zLd (by simp) (by simp [zLd]) (by simp [zLd]) (by simp [zLd])
     rw [Qbe (by simp) (by simp)]
     exact this
   · obtain ⟨s,e1,e2⟩:=Qvm he
     have hpl:=List.length_pos_iff.2 he
     have hsm':=List.mem_of_getLast? e1
     have hs:=i2 s hsm'
     have hsl':=Qsh (λs:Load=>s.f8) o s hsm'
     obtain ⟨s1,s2,s5,s6⟩:=hs
     have eS:ldS p l o i=bif Q82 p (lyA l i) s then o.set (o.length - 1) (Qtv s i (lyA l i)) else o++[Qtv zLd i (lyA l i)]:=Qv3 e1
     have eo:o=o.dropLast++[s]:=by
      have h1:=List.dropLast_concat_getLast he
      rw [List.getLast?_eq_some_getLast he] at e1
      rw [Option.some.inj e1] at h1
      exact h1.symm
     have e3:Qd7 fu (Qb1 fu p l n) i (lyA l i) o (o.length:Int)=Qb1 fu p l n (o.set (o.length - 1) (Qtv s i (lyA l i))) (w64 (i+1)):=by
      obtain ⟨d,hd⟩:∃ d,o=d++[s]:=⟨_,eo⟩
      rw [hd] at i4 ⊢
      simp only [List.length_append,List.length_singleton] at i4
      have:=J d s (by omega) (by omega) (by omega) (by omega)
      rw [show (((d++[s]).length:Nat):Int)=(d.length:Int)+1 by simp,this]
      congr 1
      simp
     have e4:Qd7 fu (Qb1 fu p l n) i (lyA l i) (o++[zLd]) (w64 ((o.length:Int)+1))=Qb1 fu p l n (o++[Qtv zLd i (lyA l i)]) (w64 (i+1)):=by
      rw [Qbe (by omega) (by omega)]
      exact J o zLd (by omega) (by simp [zLd]) (by simp [zLd]) (by simp [zLd])
     rw [Qbe (n:=(o.length:Int) - 1) (by omega) (by omega),e2,Qab,Qau (by simp; omega),Qab,Qbe (n:=s.fH+_) (by omega) (by omega),Qbe (n:=s.fQ+_) (by omega) (by omega),ap1 (by simp; omega),Qab,e3]
     rw [show (⟨[],0,0⟩:Load)=zLd from rfl,e4,eS]
     unfold Q82
     by_cases c1:s.fH+(lyA l i).fH≤p.fH
     · rw [Qau (c:=decide (s.fH+(lyA l i).fH>p.fH)) (by simp; omega),decide_eq_true c1]
       by_cases c2:s.fQ+(lyA l i).fQ≤p.fQ
       · rw [Qau (c:=decide (s.fQ+(lyA l i).fQ>p.fQ)) (by simp; omega),decide_eq_true c2]; rfl
       · rw [Qbj (c:=decide (s.fQ+(lyA l i).fQ>p.fQ)) (by simp; omega),decide_eq_false c2]; rfl
     · rw [Qbj (c:=decide (s.fH+(lyA l i).fH>p.fH)) (by simp; omega),decide_eq_false c1]; rfl
 · intro n o i hd _
   simp only [Qb1.eq_2]
   unfold Qml
   rw [hd,cond_false]; rfl
def zSp:Spot:=⟨0,0,0,0⟩
def ldA (l:List Load) (i:Int):Load:=(ix l i).getD zLd
def spB (l:List Box) (o y z:Int) (is:List Int) (s:List Spot×Int):List Spot×Int:=is.foldl (λs b=>(Qhe s.1 b ⟨o,s.2,y,z⟩,s.2+(bxA l b).fW)) s
def spS (l:List Box) (sh:List Shelf) (o z:Int) (js:List Int) (s:List Spot×Int):List Spot×Int:=js.foldl (λs j=>((spB l o s.2 z (shA sh j).f9 (s.1,0)).1,s.2+(shA sh j).fD)) s
def spY (l:List Box) (sh:List Shelf) (ly:List Layer) (o:Int) (is:List Int) (s:List Spot×Int):List Spot×Int:=is.foldl (λs i=>((spS l sh o s.2 (lyA ly i).fE (s.1,0)).1,s.2+(lyA ly i).fH)) s
def spO (l:List Box) (sh:List Shelf) (ly:List Layer) (ld:List Load) (os:List Int) (out:List Spot):List Spot:=os.foldl (λout o=>(spY l sh ly o (ldA ld o).f8 (out,0)).1) out
def spM (p:Pallet) (l:List Box):List Spot:=bif Qzt p l then spO l (shM p l) (lyM p (shM p l)) (ldM p (lyM p (shM p l))) (Qf5 0 (ldM p (lyM p (shM p l))).length) (List.replicate l.length zSp) else []
theorem Qxh {α:Type} (l:List α) (i:Int) (y:α):(Qhe l i y).length=l.length:=by simp [Qhe]
theorem Q26 (l:List Box) (o y z:Int):∀ (is:List Int) (s:List Spot×Int),(spB l o y z is s).1.length=s.1.length
 | [],_=>rfl
 | i::is,s=>by
  have:=Q26 l o y z is (Qhe s.1 i ⟨o,s.2,y,z⟩,s.2+(bxA l i).fW)
  rw [Qxh] at this
  exact this
theorem Q4a (l:List Box) (sh:List Shelf) (o z:Int):∀ (is:List Int) (s:List Spot×Int),(spS l sh o z is s).1.length=s.1.length
 | [],_=>rfl
 | i::is,s=>by
  have:=Q4a l sh o z is ((spB l o s.2 z (shA sh i).f9 (s.1,0)).1,s.2+(shA sh i).fD)
  rw [Q26] at this
  exact this
theorem Q4k (l:List Box) (sh:List Shelf) (ly:List Layer) (o:Int):∀ (is:List Int) (s:List Spot×Int),(spY l sh ly o is s).1.length=s.1.length
 | [],_=>rfl
 | i::is,s=>by
  have:=Q4k l sh ly o is ((spS l sh o s.2 (lyA ly i).fE (s.1,0)).1,s.2+(lyA ly i).fH)
  rw [Q4a] at this
  exact this
theorem Jb0 (l:List Box) (sh:List Shelf) (ly:List Layer) (ld:List Load):∀ (os:List Int) (out:List Spot),(spO l sh ly ld os out).length=out.length
 | [],_=>rfl
 | o::os,out=>by
  have:=Jb0 l sh ly ld os (spY l sh ly o (ldA ld o).f8 (out,0)).1
  rw [Q4k] at this
  exact this
theorem Q3y {p:Pallet} {l:List Box} (h:Qzt p l=true):(spM p l).length=l.length:=by
 unfold spM
 rw [h,cond_true,Jb0,List.length_replicate]
theorem Q8a {p:Pallet} {l:List Box} (h:Qzt p l=true):OkS p (shM p l):=λs hs=>by
 have:=(Qz4 h).1 s hs
 exact ⟨this.d,this.h,this.g⟩
theorem Q61 {p:Pallet} {l:List Shelf} (h:OkS p l):OkY p (lyM p l):=λs hs=>by
 have:=(Q0v h).1 s hs
 exact ⟨this.d,this.h,this.g⟩
theorem Jg2 {fu:Nat} (hfu:2097153≤fu) (p:Pallet) (l:List Box) (hl:l.length≤1000):Qnc fu p l=some (spM p l):=by
 unfold Qnc spM
 rw [Ja5 (by omega),Qab,Ji7 p l (by omega) (by omega),Qab]
 cases hb:Qzt p l
 · rfl
 · obtain ⟨a1,a2,a3⟩:=Qz4 hb
   have hS:=Q8a hb
   obtain ⟨y1,y2,y3⟩:=Q0v hS
   have hY:=Q61 hS
   obtain ⟨d1,d2,d3⟩:=Q4i hY
   have hpb:=Qyf hb
   obtain ⟨q1,q2,q3,q4⟩:=Qu5 hpb
   rw [Bool.not_true,cond_false,cond_true,Q9e hfu p l hl,Qab,Jc7 hfu hpb hS (by omega),Qab,Jfp hfu hpb hY (by omega),Qab]
   have f1:∀ s∈shM p l,s.f9.length≤1000:=λs hs=>by
    have:=Qsh (λs:Shelf=>s.f9) _ s hs
    rw [a2,Qt6] at this; omega
   have f2:∀ s∈lyM p (shM p l),s.fE.length≤1000:=λs hs=>by
    have:=Qsh (λs:Layer=>s.fE) _ s hs
    rw [y2,Qcs] at this; omega
   have f3:∀ s∈ldM p (lyM p (shM p l)),s.f8.length≤1000:=λs hs=>by
    have:=Qsh (λs:Load=>s.f8) _ s hs
    rw [d2,Qcs] at this; omega
   generalize ldM p (lyM p (shM p l))=ld at d1 d3 f3 ⊢
   generalize lyM p (shM p l)=ly at y1 y3 hY d1 d3 f2 ⊢
   generalize shM p l=sh at a1 a3 hS y1 y3 f1 ⊢
   have L4:=Q8j (ld.length:Int) (λn (out:List Spot) o=>Qbt fu l sh ly ld n out o) (λos out=>some (spO l sh ly ld os out)) (λos out=>out.length=l.length) (by omega) ?_ ?_ ld.length fu (List.replicate l.length zSp) 0 (by omega) (by omega) (by omega) (by simp)
   · exact L4
   · intro n out o os o0 o1 hd hI ih
     obtain ⟨x,hx⟩:=Q3k (l:=ld) o0 o1
     have ex:ldA ld o=x:=by unfold ldA; rw [hx]; rfl
     have hxm:=d1 x (Qf7 hx)
     have hxl:=f3 x (Qf7 hx)
     simp only [Qbt.eq_2]
     unfold Qmi
     rw [hd,cond_true]
     have L3:=lpI x.f8 (λm (s:List Spot×Int) i=>Qco fu (Qbt fu l sh ly ld n) l sh ly ld o m s.1 s.2 i) (λis s=>Qbt fu l sh ly ld n (spY l sh ly o is s).1 (w64 (o+1))) (λis s=>s.1.length=l.length∧(∀ i∈is,0≤i∧i<ly.length)∧0≤s.2∧s.2+2000*is.length≤2000000) (by omega) ?_ ?_ fu (out,0) ⟨hI,hxm.inn,by simp,by simp; omega⟩ (by omega)
     · refine L3.trans ?_
       rw [ih _ (by rw [Q4k]; exact hI)]
       simp only [spO,List.foldl_cons,ex]
     · intro m ⟨out,z⟩ i j is hj hd hI ih
       obtain ⟨i1,i2,i3,i4⟩:out.length=l.length∧(∀ i∈j::is,0≤i∧i<ly.length)∧0≤z∧z+2000*((j::is).length:Int)≤2000000:=hI
       simp only [List.length_cons] at i4
       obtain ⟨hly,t1,t2,t3,hmem⟩:=Q5v hY (i2 j (by simp))
       have hyi:=y1 _ hmem
       have hyl:=f2 _ hmem
       simp only [Qco.eq_2]
       unfold Qk7
       rw [hx,Qab,hd,cond_true,Qab,hj,Qab,hly,Qab]
       have L2:=lpI (lyA ly j).fE (λq (s:List Spot×Int) k=>Qd0 fu (Qco fu (Qbt fu l sh ly ld n) l sh ly ld o m) l sh o z i (lyA ly j) q s.1 s.2 k) (λks s=>Qco fu (Qbt fu l sh ly ld n) l sh ly ld o m (spS l sh o z ks s).1 (w64 (z+(lyA ly j).fH)) (w64 (i+1))) (λks s=>s.1.length=l.length∧(∀ i∈ks,0≤i∧i<sh.length)∧0≤s.2∧s.2+2000*ks.length≤2000000) (by omega) ?_ ?_ fu (out,0) ⟨i1,hyi.inn,by simp,by simp; omega⟩ (by omega)
       · refine L2.trans ?_
         rw [Qbe (n:=z+_) (by omega) (by omega)]
         exact ih ((spS l sh o z (lyA ly j).fE (out,0)).1,z+(lyA ly j).fH) ⟨by rw [Q4a]; exact i1,λi hi=>i2 i (by simp [hi]),by simp; omega,by simp; omega⟩
       · intro q ⟨out,y⟩ k b ks hb2 hd hI ih
         obtain ⟨i1,i2,i3,i4⟩:out.length=l.length∧(∀ i∈b::ks,0≤i∧i<sh.length)∧0≤y∧y+2000*((b::ks).length:Int)≤2000000:=hI
         simp only [List.length_cons] at i4
         obtain ⟨hsh,u1,u2,u3,hmem2⟩:=Q4x hS (i2 b (by simp))
         have hsi:=a1 _ hmem2
         have hsl:=f1 _ hmem2
         simp only [Qd0.eq_2]
         unfold Qlp
         rw [hd,cond_true,hb2,Qab,hsh,Qab]
         have L1:=lpI (shA sh b).f9 (λq' (s:List Spot×Int) k'=>Qhc fu (Qd0 fu (Qco fu (Qbt fu l sh ly ld n) l sh ly ld o m) l sh o z i (lyA ly j) q) l o z y k (shA sh b) q' s.1 s.2 k') (λbs s=>Qd0 fu (Qco fu (Qbt fu l sh ly ld n) l sh ly ld o m) l sh o z i (lyA ly j) q (spB l o y z bs s).1 (w64 (y+(shA sh b).fD)) (w64 (k+1))) (λbs s=>s.1.length=l.length∧(∀ i∈bs,0≤i∧i<l.length)∧0≤s.2∧s.2+2000*bs.length≤2000000) (by omega) ?_ ?_ fu (out,0) ⟨i1,hsi.inn,by simp,by simp; omega⟩ (by omega)
         · refine L1.trans ?_
           rw [Qbe (n:=y+_) (by omega) (by omega)]
           exact ih ((spB l o y z (shA sh b).f9 (out,0)).1,y+(shA sh b).fD) ⟨by rw [Q26]; exact i1,λi hi=>i2 i (by simp [hi]),by simp; omega,by simp; omega⟩
         · intro q' ⟨out,x'⟩ k' c bs hc hd hI ih
           obtain ⟨i1,i2,i3,i4⟩:out.length=l.length∧(∀ i∈c::bs,0≤i∧i<l.length)∧0≤x'∧x'+2000*((c::bs).length:Int)≤2000000:=hI
           simp only [List.length_cons] at i4
           have hcr:=i2 c (by simp)
           obtain ⟨hbx,v1,v2,v3,v4⟩:=Qyy hb hcr
           obtain ⟨sp,hsp⟩:=Q3k (l:=out) hcr.1 (by omega)
           simp only [Qhc.eq_2]
           unfold Qk6
           rw [hd,cond_true,hc,Qab,hsp,Qab,Qab,hbx,Qab,Qbe (n:=x'+_) (by omega) (by omega)]
           exact ih (Qhe out c ⟨o,x',y,z⟩,x'+(bxA l c).fW) ⟨by rw [Qxh]; exact i1,λi hi=>i2 i (by simp [hi]),by simp; omega,by simp; omega⟩
         · intro q' ⟨out,x'⟩ k' hd _
           simp only [Qhc.eq_2]
           unfold Qk6
           rw [hd,cond_false]; rfl
       · intro q ⟨out,y⟩ k hd _
         simp only [Qd0.eq_2]
         unfold Qlp
         rw [hd,cond_false]; rfl
     · intro m ⟨out,z⟩ i hd _
       simp only [Qco.eq_2]
       unfold Qk7
       rw [hx,Qab,hd,cond_false]; rfl
   · intro n out o hd _
     simp only [Qbt.eq_2]
     unfold Qmi
     rw [hd,cond_false]; rfl
def Jcr (n:Int) (out:List Spot):Prop:=∀ s∈out,0≤s.fJ∧s.fJ≤n
theorem Jd1 {n:Int} {out:List Spot} {i:Int} {s:Spot} (h:Jcr n out) (hs:0≤s.fJ∧s.fJ≤n):Jcr n (Qhe out i s):=by
 intro t ht
 unfold Qhe at ht
 rcases List.mem_or_eq_of_mem_set ht with ht | rfl
 · exact h t ht
 · exact hs
theorem Jbm {n:Int} (l:List Box) (o y z:Int) (ho:0≤o∧o≤n):∀ (is:List Int) (s:List Spot×Int),Jcr n s.1→Jcr n (spB l o y z is s).1
 | [],_,h=>h
 | i::is,s,h=>Jbm l o y z ho is (Qhe s.1 i ⟨o,s.2,y,z⟩,s.2+(bxA l i).fW) (Jd1 h ho)
theorem Jai {n:Int} (l:List Box) (sh:List Shelf) (o z:Int) (ho:0≤o∧o≤n):∀ (is:List Int) (s:List Spot×Int),Jcr n s.1→Jcr n (spS l sh o z is s).1
 | [],_,h=>h
 | i::is,s,h=>Jai l sh o z ho is ((spB l o s.2 z (shA sh i).f9 (s.1,0)).1,s.2+(shA sh i).fD) (Jbm l o s.2 z ho _ (s.1,0) h)
theorem Jbw {n:Int} (l:List Box) (sh:List Shelf) (ly:List Layer) (o:Int) (ho:0≤o∧o≤n):∀ (is:List Int) (s:List Spot×Int),Jcr n s.1→Jcr n (spY l sh ly o is s).1
 | [],_,h=>h
 | i::is,s,h=>Jbw l sh ly o ho is ((spS l sh o s.2 (lyA ly i).fE (s.1,0)).1,s.2+(lyA ly i).fH) (Jai l sh o s.2 ho _ (s.1,0) h)
theorem Jbp {n:Int} (l:List Box) (sh:List Shelf) (ly:List Layer) (ld:List Load):∀ (os:List Int) (out:List Spot),(∀ o∈os,0≤o∧o≤n)→Jcr n out→Jcr n (spO l sh ly ld os out)
 | [],_,_,h=>h
 | o::os,out,ho,h=>Jbp l sh ly ld os (spY l sh ly o (ldA ld o).f8 (out,0)).1 (λq hq=>ho q (by simp [hq])) (Jbw l sh ly o (ho o (by simp)) _ (out,0) h)
theorem Je9 {p:Pallet} {l:List Box} (hl:l.length≤1000):∀ s∈spM p l,0≤s.fJ∧s.fJ≤1000:=by
 unfold spM
 cases hb:Qzt p l
 · simp
 · have a3:=(Qz4 hb).2.2
   have hS:=Q8a hb
   have y3:=(Q0v hS).2.2
   have d3:=(Q4i (Q61 hS)).2.2
   rw [cond_true]
   refine Jbp l _ _ _ _ _ (λo ho=>?_) λs hs=>?_
   · have:=Qc5.1 ho; omega
   · rw [(List.mem_replicate.1 hs).2]; simp [zSp]
def Jlp (r:Request) (k:Int):Bool:=inb k 0 (((Qhv r).length:Int) - 1)
theorem Q2p {r:Request} {k:Int} (h:Jlp r k=true):Qhg r=0:=by
 unfold Jlp at h
 rw [Qcu] at h
 by_cases hc:Qhg r=0
 · exact hc
 · have:Qhv r=[]:=by
     unfold Qhv Q0c
     rw [show (Qhg r==0)=false by simp [hc]]
     rfl
   rw [this] at h
   simp at h
   omega
theorem Q7p (r:Request) (g:List Int) (u i:Int) (us:List Int) {x:Item} (hx:ix r.fU i=some x):ofG r g u (i::us)=bif g.contains x.fL then u::ofG r g (u+1) us else ofG r g (u+1) us:=by
 rw [ofG,hx]
theorem Jk8 {fu:Nat} {r:Request} (h:Sm fu r) (k:Int):Qqd fu r k=some (Qv6 r k):=by
 have hfu:=h.fu
 unfold Qqd Qv6
 rw [Jfw h,Qab,Jbf,Q32,Qab]
 cases hg:inb k 0 (((Qhv r).length:Int) - 1)
 · rw [Bool.not_false,cond_true]
   have:ix (Qhv r) k=none:=by
    have hk:¬ (0≤k∧k≤((Qhv r).length:Int) - 1):=by intro hk; rw [(Qcu).2 hk] at hg; cases hg
    unfold ix
    by_cases h0:0≤k
    · rw [if_pos h0,List.getElem?_eq_none (by omega)]
    · rw [if_neg h0]
   rw [this]
 · have hc:=Q2p hg
   rw [Qcu] at hg
   obtain ⟨j,rfl⟩:∃ j:Nat,k=j:=⟨k.toNat,by omega⟩
   have hj:j<(Qhv r).length:=by omega
   have hgl:=(Qt5 r).2 _ (List.getElem_mem hj)
   rw [Bool.not_true,cond_false,Jki h (Qez hc).1,Qab,Qzw hj]
   have e:Qja r=l6M r:=by unfold Qja; rw [show (Qhg r==0)=true by simp [hc],cond_true]
   simp only [e]
   have hlen:(l6M r).length≤12:=Jbh (Qez hc).1
   have:=Jek (l6M r) (λn out i=>Qfn fu r (j:Int) (Qhv r) (l6M r) n out i) (λpre xs out=>some (out++ofG r (Qhv r)[j] (pre.length:Int) xs)) (λpre xs out=>out.length+xs.length≤12) (by omega) ?_ ?_ fu [] (by simpa using hlen) (by omega)
   · simpa using this
   · intro n out pre i xs hl hx hd hI ih
     simp only [List.length_cons] at hI
     have hi:i∈Qja r:=by rw [e,hl]; simp
     have hi2:=Q30 hi
     obtain ⟨q,rfl⟩:∃ q:Nat,i=q:=⟨i.toNat,by omega⟩
     have hq:q<r.fU.length:=by omega
     simp only [Qfn.eq_2]
     unfold Qlw Qkb
     simp only [hd,cond_true,hx,Qab,Qzw hj,Qzw hq,Jh7 (show (Qhv r)[j].length≤1048576 by omega) (show (Qhv r)[j].length<fu by omega)]
     rw [Q7p r _ _ _ _ (Qzw hq)]
     cases (Qhv r)[j].contains r.fU[q].fL
     · rw [cond_false,cond_false,ih _ (by omega)]
       simp
     · rw [cond_true,cond_true,ap1 (by simp; omega),Qab,ih _ (by simp; omega)]
       simp
   · intro n out hd hI
     simp only [Qfn.eq_2]
     unfold Qlw
     simp only [hd,cond_false]
     simp [ofG]
theorem Jkx {fu:Nat} {r:Request} (h:Sm fu r) (k:Int):Qp0 fu r k=some (Qv6 r k):=by
 have hfu:=h.fu
 unfold Qp0 Qv6
 rw [Jdk h,Qab,Jbf,Q42,Qab]
 cases hg:inb k 0 (((Qhv r).length:Int) - 1)
 · rw [Bool.not_false,cond_true]
   have:ix (Qhv r) k=none:=by
    have hk:¬ (0≤k∧k≤((Qhv r).length:Int) - 1):=by intro hk; rw [(Qcu).2 hk] at hg; cases hg
    unfold ix
    by_cases h0:0≤k
    · rw [if_pos h0,List.getElem?_eq_none (by omega)]
    · rw [if_neg h0]
   rw [this]
 · have hc:=Q2p hg
   rw [Qcu] at hg
   obtain ⟨j,rfl⟩:∃ j:Nat,k=j:=⟨k.toNat,by omega⟩
   have hj:j<(Qhv r).length:=by omega
   have hgl:=(Qt5 r).2 _ (List.getElem_mem hj)
   rw [Bool.not_true,cond_false,Ja6 h,Qab,Qzw hj]
   have hlen:=Qv1 r
   have:=Jek (Qja r) (λn out i=>Qf4 fu r (j:Int) (Qhv r) (Qja r) n out i) (λpre xs out=>some (out++ofG r (Qhv r)[j] (pre.length:Int) xs)) (λpre xs out=>out.length+xs.length≤12) (by omega) ?_ ?_ fu [] (by simpa using hlen) (by omega)
   · simpa using this
   · intro n out pre i xs hl hx hd hI ih
     simp only [List.length_cons] at hI
     have hi:i∈Qja r:=by rw [hl]; simp
     have hi2:=Q30 hi
     obtain ⟨q,rfl⟩:∃ q:Nat,i=q:=⟨i.toNat,by omega⟩
     have hq:q<r.fU.length:=by omega
     simp only [Qf4.eq_2]
     unfold Qk8 Qka
     simp only [hd,cond_true,hx,Qab,Qzw hj,Qzw hq,Jfn (show (Qhv r)[j].length≤1048576 by omega) (show (Qhv r)[j].length<fu by omega)]
     rw [Q7p r _ _ _ _ (Qzw hq)]
     cases (Qhv r)[j].contains r.fU[q].fL
     · rw [cond_false,cond_false,ih _ (by omega)]
       simp
     · rw [cond_true,cond_true,ap1 (by simp; omega),Qab,ih _ (by simp; omega)]
       simp
   · intro n out hd hI
     simp only [Qf4.eq_2]
     unfold Qk8
     simp only [hd,cond_false]
     simp [ofG]
def Q80 (l:List Int):List Int:=l.mergeSort λx y=>decide (x≤y)
theorem Qtp (l:List Int):(Q80 l).Perm l:=List.mergeSort_perm l _
theorem Q74 (l:List Int):(Q80 l).length=l.length:=(Qtp l).length_eq
def Q6w (r:Request) (k:Int) (l:List Int):Carton:=⟨(Qwy r l).1.qQ,k,Q80 l⟩
def Q1w (r:Request) (k:Int):List Carton:=(pwM r (Qv6 r k)).map (Q6w r k)
def Qzm (r:Request):List Int→List Carton
 | []=>[]
 | k::ks=>Q1w r k++Qzm r ks
def Qvs (r:Request):List Carton:=Qzm r (Qf5 0 (Qhv r).length)
theorem Ja2 (l:List Int):(Qf5 0 l.length).map (λp=>(ix l p).getD 0)=l:=by
 have key:∀ (xs pre:List Int),l=pre++xs→(Qf5 pre.length xs.length).map (λp=>(ix l p).getD 0)=xs:=by
  intro xs
  induction xs with
  | nil=>intro pre _; rfl
  | cons x xs ih =>
   intro pre he
   have h1:=ih (pre++[x]) (by simp [he])
   simp only [List.length_append,List.length_singleton] at h1
   simp only [List.length_cons,Qf5,List.map_cons]
   rw [show ((pre.length:Int)+1)=((pre.length+1:Nat):Int) by omega,h1]
   congr 1
   rw [Qi4,he]
   simp
 exact key l [] rfl
theorem Jgw (l:List Int):(srt (kf l) l.length).map (λp=>(ix l p).getD 0)=Q80 l:=by
 refine Q9v ?_ ?_ (Qq7 l)
 · refine ((Qur _ _).map _).trans ?_
   rw [Ja2]
   exact (Qtp l).symm
 · refine List.pairwise_map.2 ((Qx4 (kf l) l.length).imp fun {p q} h=>?_)
   unfold lx kf at h
   omega
theorem Q7h {r:Request} (k:Int):(Q1w r k).length≤12:=by
 have:=(Q79 (r:=r) (Qzv r k)).1
 simp [Q1w]; omega
theorem Jle {fu:Nat} {r:Request} (h:Sm fu r):Qms fu r=some (Qvs r):=by
 have hfu:=h.fu
 have hg:=(Qt5 r).1
 unfold Qms Qvs
 rw [Jdk h,Qab]
 have:=Q8j ((Qhv r).length:Int) (λn out i=>Qc9 fu r (Qhv r) n out i) (λxs out=>some (out++Qzm r xs)) (λxs out=>out.length+12*xs.length≤48) (by omega) ?_ ?_ (Qhv r).length fu [] 0 (by omega) (by omega) (by omega) (by simp [Qcs]; omega)
 · simpa using this
 · intro n out k ks h0 h1 hd hI ih
   simp only [List.length_cons] at hI
   have hul:=Qzv r k
   have hpo:=Q79 (r:=r) hul
   simp only [Qc9.eq_2]
   unfold Qi2
   rw [hd,cond_true,Jkx h,Qab,Jlb h _ (by omega),Qab]
   have key:=lpI (pwM r (Qv6 r k)) (λm o i=>Qfj fu (Qc9 fu r (Qhv r) n) r k (pwM r (Qv6 r k)) m o i) (λxs o=>Qc9 fu r (Qhv r) n (o++xs.map (Q6w r k)) (w64 (k+1))) (λxs o=>o.length+xs.length≤48∧∀ l∈xs,l.length≤12) (by have:=hpo.1; omega) ?_ ?_ fu out ⟨by have:=hpo.1; omega,hpo.2⟩ (by have:=hpo.1; omega)
   · rw [key,ih _ (by have:=hpo.1; simp; omega)]
     simp [Qzm,Q1w]
   · intro m o i l xs hx hd hI ih
     obtain ⟨h2,h3⟩:=hI
     simp only [List.length_cons] at h2
     have hl:=h3 l (by simp)
     simp only [Qfj.eq_2]
     unfold Qi3
     rw [hd,cond_true,hx,Qab,Jax h l (by omega),Qab,show Qcl fu l=some (Q80 l) from Q2t (by omega),Qab,ap1 (by simp; omega),Qab,ih _ ⟨by simp; omega,λy hy=>h3 y (by simp [hy])⟩]
     simp [Q6w]
   · intro m o i hd _
     simp only [Qfj.eq_2]
     unfold Qi3
     rw [hd,cond_false]; simp
 · intro n out k hd _
   simp only [Qc9.eq_2]
   unfold Qi2
   rw [hd,cond_false]; simp [Qzm]
theorem Jkt {fu:Nat} {r:Request} (h:Sm fu r):Qm0 fu r=some (Qvs r):=by
 have hfu:=h.fu
 have hg:=(Qt5 r).1
 unfold Qm0 Qvs
 rw [Jfw h,Qab]
 have:=Q8j ((Qhv r).length:Int) (λn out i=>Qbi fu r (Qhv r) n out i) (λxs out=>some (out++Qzm r xs)) (λxs out=>out.length+12*xs.length≤48) (by omega) ?_ ?_ (Qhv r).length fu [] 0 (by omega) (by omega) (by omega) (by simp [Qcs]; omega)
 · simpa using this
 · intro n out k ks h0 h1 hd hI ih
   simp only [List.length_cons] at hI
   have hul:=Qzv r k
   have hpo:=Q79 (r:=r) hul
   simp only [Qbi.eq_2]
   unfold Qi0
   rw [hd,cond_true,Jk8 h,Qab,Jkj h _ (by omega),Qab]
   have key:=lpI (pwM r (Qv6 r k)) (λm o i=>Qce fu (Qbi fu r (Qhv r) n) r k (pwM r (Qv6 r k)) m o i) (λxs o=>Qbi fu r (Qhv r) n (o++xs.map (Q6w r k)) (w64 (k+1))) (λxs o=>o.length+xs.length≤48∧∀ l∈xs,l.length≤12) (by have:=hpo.1; omega) ?_ ?_ fu out ⟨by have:=hpo.1; omega,hpo.2⟩ (by have:=hpo.1; omega)
   · rw [key,ih _ (by have:=hpo.1; simp; omega)]
     simp [Qzm,Q1w]
   · intro m o i l xs hx hd hI ih
     obtain ⟨h2,h3⟩:=hI
     simp only [List.length_cons] at h2
     have hl:=h3 l (by simp)
     simp only [Qce.eq_2]
     unfold Qjf Qlt
     rw [hd,cond_true,hx,Qab,Jfs h l (by omega),Qab,Qab,Jlv hfu (by omega),Qab]
     have hsl:=Qt6 (kf l) l.length
     have hsm:=λx=>Qyj (k:=kf l) (n:=l.length) (x:=x)
     have hsg:=Jgw l
     generalize srt (kf l) l.length=S at hsl hsm hsg ⊢
     have k1:=lpI S (λm' us j=>Qfm fu (Qce fu (Qbi fu r (Qhv r) n) r k (pwM r (Qv6 r k)) m) k (pwM r (Qv6 r k)) o i (Qwy r l).1 S m' us j)
      (λxs us=>Qac (Qg4 40 o [(⟨(Qwy r l).1.qQ,k,us++xs.map λp=>(ix l p).getD 0⟩:Carton)]) λx=>Qig fu (Qce fu (Qbi fu r (Qhv r) n) r k (pwM r (Qv6 r k)) m) i x) (λxs us=>us.length+xs.length≤12∧∀ p∈xs,0≤p∧p<l.length) (by omega) ?_ ?_ fu [] ⟨by simp; omega,λp hp=>(hsm p).1 hp⟩ (by omega)
     · rw [k1,List.nil_append,hsg,ap1 (by simp; omega),Qab]
       unfold Qig
       rw [ih _ ⟨by simp; omega,λy hy=>h3 y (by simp [hy])⟩]
       simp [Q6w]
     · intro m' us j p ps hp hd hI ih
       obtain ⟨h4,h5⟩:=hI
       simp only [List.length_cons] at h4
       simp only [Qfm.eq_2]
       unfold Qjd
       rw [hd,cond_true,hx,Qab,hp,Qab,Q99 (h5 p (by simp)),Qab,ap1 (by simp; omega),Qab,ih _ ⟨by simp; omega,λy hy=>h5 y (by simp [hy])⟩]
       simp
     · intro m' us j hd _
       simp only [Qfm.eq_2]
       unfold Qjd
       rw [hd,cond_false]; simp
   · intro m o i hd _
     simp only [Qce.eq_2]
     unfold Qjf Qmr
     rw [hd,cond_false]; simp
 · intro n out k hd _
   simp only [Qbi.eq_2]
   unfold Qi0
   rw [hd,cond_false]; simp [Qzm]
theorem Q8b (r:Request):∀ (ks:List Int),(Qzm r ks).length≤12*ks.length
 | []=>by simp [Qzm]
 | k::ks=>by
  have:=Q8b r ks
  have:=Q7h (r:=r) k
  simp [Qzm]; omega
theorem Qzr (r:Request):(Qvs r).length≤48:=by
 have:=Q8b r (Qf5 0 (Qhv r).length)
 have hg:=(Qt5 r).1
 rw [Qcs] at this
 unfold Qvs
 omega
theorem Qxl {r:Request} {c:Carton}:∀ {ks:List Int},c∈Qzm r ks↔∃ k∈ks,∃ l∈pwM r (Qv6 r k),c=Q6w r k l
 | []=>by simp [Qzm]
 | k::ks=>by
  simp only [Qzm,List.mem_append,Qxl (ks:=ks),List.mem_cons,Q1w,List.mem_map]
  constructor
  · rintro (⟨l,hl,rfl⟩ | ⟨k',hk,l,hl,e⟩)
    · exact ⟨k,.inl rfl,l,hl,rfl⟩
    · exact ⟨k',.inr hk,l,hl,e⟩
  · rintro ⟨k',rfl | hk,l,hl,rfl⟩
    · exact .inl ⟨l,hl,rfl⟩
    · exact .inr ⟨k',hk,l,hl,rfl⟩
theorem Qxd {r:Request} {c:Carton} (h:c∈Qvs r):c.fO.length≤12:=by
 obtain ⟨k,_,l,hl,rfl⟩:=Qxl.1 h
 have:=(Q79 (r:=r) (Qzv r k)).2 l hl
 simp only [Q6w,Q74]
 omega
def Jhc:List Int→Int
 | []=>1
 | x::xs=>x*Jhc xs
theorem Jdo {a b:List Int} (h:a.Perm b):Jhc a=Jhc b:=by
 induction h with
 | nil=>rfl
 | cons x _ ih=>simp only [Jhc,ih]
 | swap x y l=>simp only [Jhc,← Int.mul_assoc]; rw [Int.mul_comm x y]
 | trans _ _ h1 h2=>rw [h1,h2]
theorem Jbs (a b c:Int):(sid a b c).1*((sid a b c).2.1*(sid a b c).2.2)=a*b*c:=by
 have h:=Jah a b c
 unfold Q3i at h
 simp only [List.length_cons,List.length_nil] at h
 rw [if_pos (by omega)] at h
 have hp:=List.mergeSort_perm [a,b,c] λx y=>decide (x≤y)
 rw [Option.some.inj h] at hp
 have:=Jdo hp
 simp only [Jhc,Int.mul_one] at this
 rw [this,Int.mul_assoc]
theorem Ji4 {a b c m:Int} (ha:m≤a) (hb:m≤b) (hc:m≤c):m≤(sid a b c).1:=by
 unfold sid
 simp only
 split <;> split <;> omega
theorem Jf3 {x:Item} {t:Typ} (hx:Qyk x=true) (ht:Q2w t=true) (h:Q17 x t=true):Jat x≤Jcn t∧x.fQ≤t.fQ:=by
 simp only [Qyk,Bool.and_eq_true,Qcu] at hx
 simp only [Q2w,Bool.and_eq_true,Qcu] at ht
 simp only [Q17,Bool.and_eq_true,decide_eq_true_eq] at h
 obtain ⟨⟨⟨h1,h2⟩,h3⟩,h4⟩:=h
 refine ⟨?_,h4⟩
 have e1:Jat x=x.fW*x.fH*x.fD:=by
  unfold Jat Q8t
  rw [show (inb x.fW 0 2000&&(inb x.fH 0 2000&&inb x.fD 0 2000))=true by simp; omega,cond_true]
 have e2:Jcn t=t.fW*t.fH*t.fD:=by
  unfold Jcn Q8t
  rw [show (inb t.fW 0 2000&&(inb t.fH 0 2000&&inb t.fD 0 2000))=true by simp; omega,cond_true]
 rw [e1,e2,← Jbs x.fW x.fH x.fD,← Jbs t.fW t.fH t.fD]
 have p1:1≤(sid x.fW x.fH x.fD).1:=Ji4 (by omega) (by omega) (by omega)
 have s1:=Q2y x.fW x.fH x.fD
 have s2:=Q2y t.fW t.fH t.fD
 refine Int.mul_le_mul h1 ?_ (Int.mul_nonneg (by omega) (by omega)) (by omega)
 exact Int.mul_le_mul h2 h3 (by omega) (by omega)
theorem Qzx {r:Request} {u:Int} (h:0≤u∧u<(Qja r).length):Qu0 r u∈r.fU:=(Q6y (Qvc h)).2
theorem Q4r {r:Request} {u:Int} (h:0≤u∧u<(Qja r).length):Qhg r=0:=(Q6y (Qvc h)).1
theorem Q9n {r:Request} (hc:Qhg r=0):Qty r r.fP=some (Qxv r)∧Qxv r∈r.fR∧Q2w (Qxv r)=true:=by
 have h:=(Qez hc).2.1
 unfold Q84 at h
 simp only [Bool.and_eq_true] at h
 obtain ⟨t,ht⟩:=Option.isSome_iff_exists.1 h.1.2
 have e:Qxv r=t:=by unfold Qxv; rw [ht]; rfl
 have hm:t∈r.fR:=List.mem_of_find?_eq_some ht
 rw [e]
 exact ⟨ht,hm,Qw1 (Qez hc).1 t hm⟩
theorem Q9a {r:Request} {u:Int} (h:0≤u∧u<(Qja r).length):Qxw r [u]=Jat (Qu0 r u)∧Qxr r [u]=(Qu0 r u).fQ:=by
 unfold Qxw Qxr Qyz
 simp [List.filterMap_cons,Qvc h]
theorem Q89 {r:Request} {u:Int} (h:0≤u∧u<(Qja r).length):Q1h r [u] (Qxv r)=true:=by
 have hc:=Q4r h
 have hz:=Qez hc
 have hm:=Qzx h
 obtain ⟨h1,h2⟩:=Jf3 ((Qr2 hz.1).1 _ hm) (Q9n hc).2.2 (hz.2.2.2.1 _ hm)
 unfold Q1h
 rw [(Q9a h).1,(Q9a h).2,Bool.and_eq_true,decide_eq_true_iff,decide_eq_true_iff]
 exact ⟨h1,h2⟩
def Qc (r:Request) (us:List Int) (l:List Int):Prop:=l≠[]∧(∀ u∈l,u∈us)∧Q1h r l (Qxv r)=true
theorem Jix {r:Request} {us:List Int} {out:List (List Int)} {u:Int} (h:∀ l∈out,Qc r us l) (hu:u∈us) (hr:0≤u∧u<(Qja r).length):∀ l∈Jg8 r out u,Qc r us l:=by
 have hn:Qc r us [u]:=⟨by simp,λv hv=>by rw [List.mem_singleton.1 hv]; exact hu,Q89 hr⟩
 intro l hl
 unfold Jg8 Jei at hl
 split at hl
 · rename_i i hi
   obtain ⟨x,hx,hg⟩:=Quv hi
   rw [hx] at hl
   rcases List.mem_or_eq_of_mem_set hl with hl | rfl
   · exact h l hl
   · have hq:=h x (List.mem_of_getElem? hx)
     refine ⟨by simp,λv hv=>?_,hg⟩
     rcases List.mem_append.1 hv with hv | hv
     · exact hq.2.1 v hv
     · rw [List.mem_singleton.1 hv]; exact hu
 · rcases List.mem_append.1 hl with hl | hl
   · exact h l hl
   · rw [List.mem_singleton.1 hl]; exact hn
theorem Jih {r:Request} {us:List Int} {out:List (List Int)} {u:Int} (h:∀ l∈out,Qc r us l) (hu:u∈us) (hr:0≤u∧u<(Qja r).length):∀ l∈Q68 r out u,Qc r us l:=by
 have hn:Qc r us [u]:=⟨by simp,λv hv=>by rw [List.mem_singleton.1 hv]; exact hu,Q89 hr⟩
 intro l hl
 cases hlast:out.getLast? with
 | none =>
  unfold Q68 at hl
  rw [hlast] at hl
  rw [List.mem_singleton.1 hl]; exact hn
 | some x =>
  rw [Qw9 u hlast] at hl
  have hq:=h x (List.mem_of_getLast? hlast)
  cases hg:Q36 r u x
  · rw [hg,cond_false] at hl
    rcases List.mem_append.1 hl with hl | hl
    · exact h l hl
    · rw [List.mem_singleton.1 hl]; exact hn
  · rw [hg,cond_true] at hl
    rcases List.mem_or_eq_of_mem_set hl with hl | rfl
    · exact h l hl
    · refine ⟨by simp,λv hv=>?_,hg⟩
      rcases List.mem_append.1 hv with hv | hv
      · exact hq.2.1 v hv
      · rw [List.mem_singleton.1 hv]; exact hu
theorem Q9u {r:Request} {us:List Int} {F:List (List Int)→Int→List (List Int)} (hF:∀ out u,(∀ l∈out,Qc r us l)→u∈us→(0≤u∧u<(Qja r).length)→∀ l∈F out u,Qc r us l):∀ (vs:List Int) (out:List (List Int)),(∀ u∈vs,u∈us∧0≤u∧u<(Qja r).length)→(∀ l∈out,Qc r us l)→∀ l∈vs.foldl F out,Qc r us l
 | [],out,_,h=>h
 | v::vs,out,hv,h=>by
  rw [List.foldl_cons]
  have h1:=hv v (by simp)
  exact Q9u hF vs _ (λu hu=>hv u (by simp [hu])) (hF out v h h1.1 h1.2)
theorem Q5r (r:Request) (us:List Int):(Jed r us).Perm us:=by
 unfold Jed
 refine ((Qur _ _).map _).trans ?_
 have key:∀ (xs pre:List Int),us=pre++xs→(Qf5 pre.length xs.length).map (λp=>(ix us p).getD 0)=xs:=by
  intro xs
  induction xs with
  | nil=>intro pre _; rfl
  | cons x xs ih =>
   intro pre he
   have h1:=ih (pre++[x]) (by simp [he])
   simp only [List.length_append,List.length_singleton] at h1
   simp only [List.length_cons,Qf5,List.map_cons]
   rw [show ((pre.length:Int)+1)=((pre.length+1:Nat):Int) by omega,h1]
   congr 1
   rw [Qi4,he]
   simp
 have:=key us [] rfl
 simp only [List.length_nil] at this
 exact List.Perm.of_eq this
theorem Jik {r:Request} {us:List Int}:∀ l∈pwM r us,Qc r (Qvp r us) l:=by
 unfold pwM nfM ffM
 have ht:∀ u∈Qvp r us,u∈Qvp r us∧0≤u∧u<(Qja r).length:=λu hu=>⟨hu,Q1d hu⟩
 cases r.qY==1
 · rw [cond_false]
   exact Q9u (λout u h hu hr=>Jix h hu hr) _ [] (λu hu=>ht u ((Q5r r _).mem_iff.1 hu)) (by simp)
 · rw [cond_true]
   exact Q9u (λout u h hu hr=>Jih h hu hr) _ [] ht (by simp)
theorem Jb2 (g:List Int→Bool) (out:List (List Int)) (u:Int):(Jei g out u).flatten.Perm (out.flatten++[u]):=by
 unfold Jei
 split
 · rename_i i hi
   obtain ⟨x,hx,_⟩:=Quv hi
   rw [hx]
   exact Qw2 hx
 · simp
theorem Jcj (r:Request) (out:List (List Int)) (u:Int):(Q68 r out u).flatten.Perm (out.flatten++[u]):=by
 cases hlast:out.getLast? with
 | none =>
  have:out=[]:=List.getLast?_eq_none_iff.1 hlast
  subst this
  unfold Q68
  simp
 | some x =>
  rw [Qw9 u hlast]
  cases Q36 r u x
  · simp
  · rw [cond_true]
    rw [List.getLast?_eq_getElem?] at hlast
    exact Qw2 hlast
theorem Qz8 {F:List (List Int)→Int→List (List Int)} (hF:∀ out u,(F out u).flatten.Perm (out.flatten++[u])):∀ (vs:List Int) (out:List (List Int)),(vs.foldl F out).flatten.Perm (out.flatten++vs)
 | [],out=>by simp
 | v::vs,out=>by
  rw [List.foldl_cons]
  refine (Qz8 hF vs _).trans (((hF out v).append_right vs).trans ?_)
  simp
theorem Q9z (r:Request) (us:List Int):(pwM r us).flatten.Perm (Qvp r us):=by
 unfold pwM nfM ffM
 cases r.qY==1
 · rw [cond_false]
   refine (Qz8 (λout u=>Jb2 _ out u) _ []).trans ?_
   simpa using Q5r r (Qvp r us)
 · rw [cond_true]
   refine (Qz8 (λout u=>Jcj r out u) _ []).trans ?_
   simp
def Q8s:List Carton→Nat
 | []=>0
 | x::xs=>x.fO.length+Q8s xs
structure Sp (x:Plan):Prop where
 cars:x.fV.length≤1048576
 units:∀ c∈x.fV,c.fO.length≤1048576
 all:Q8s x.fV≤1048576
 spots:x.fF.length≤1048576
def Q88:List Int→List Int→Bool
 | _,[]=>true
 | pre,x::xs=>inb x 0 999&&((match pre.getLast? with | none=>true | some y=>decide (y<x))&&Q88 (pre++[x]) xs)
def Jf2 (l:List Int):Bool:=Q88 [] l&&decide ((l.length:Int)≤100)
def Q83 (c:Carton):Bool:=inb c.qJ 0 999&&(inb c.fM 0 3&&Jf2 c.fO)
def Jem (s:Spot):Bool:=inb s.fJ 0 2000&&(inb s.fX 0 2000&&(inb s.fY 0 2000&&inb s.fZ 0 2000))
def Q41 (x:Plan):Bool:=x.fF.length==x.fV.length&&(decide ((x.fV.length:Int)≤100)&&(x.fV.zip x.fF).all λp=>Q83 p.1&&Jem p.2)
theorem Jaa {pre:List Int} {x:Int} {xs l:List Int} (hl:l.length≤1048576) (e:l=pre++x::xs):(pre.getLast? = none∧pre.length=0)∨∃ y,pre.getLast? = some y∧0<pre.length∧ix l (w64 ((pre.length:Int) - 1))=some y:=by
 cases hp:pre.getLast? with
 | none=>exact .inl ⟨rfl,by simpa using List.getLast?_eq_none_iff.1 hp⟩
 | some y =>
  have hne:pre≠[]:=λe=>by subst e; simp at hp
  have hpos:0<pre.length:=List.length_pos_iff.2 hne
  refine .inr ⟨y,rfl,hpos,?_⟩
  have h1:w64 ((pre.length:Int) - 1)=((pre.length - 1:Nat):Int):=by
   have:pre.length≤l.length:=by rw [e]; simp
   rw [Qbe (by omega) (by omega)]; omega
  rw [h1,Qi4,e,List.getElem?_append_left (by omega),← List.getLast?_eq_getElem?,hp]
theorem Jky {fu:Nat} {l:List Int} (hl:l.length≤1048576) (hf:l.length<fu):Qkv fu l=some (Jf2 l):=by
 unfold Qkv Jf2
 have key:=lpP l (λn (_:Unit) i=>Qd8 fu l n i) (λpre xs _=>some (Q88 pre xs&&decide ((l.length:Int)≤100))) (by omega) ?_ ?_ fu () hf
 · exact key
 · intro n _ pre x xs e hx hd ih
   have ih:=ih ()
   simp only [Qd8.eq_2]
   unfold Qip Qhz Q88
   rw [hd,cond_true,hx,Qab,Q42,Qab]
   cases inb x 0 999
   · rfl
   · rw [Bool.not_true,cond_false,Bool.true_and]
     rcases Jaa (hl:=hl) e with ⟨h1,h2⟩ | ⟨y,h1,h2,h3⟩
     · rw [h1,show decide ((pre.length:Int)>0)=false from decide_eq_false (by omega),cond_false,ih]
       simp
     · rw [h1,show decide ((pre.length:Int)>0)=true from decide_eq_true (by omega),cond_true,h3,Qab,ih]
       by_cases hy:y<x
       · rw [show decide (y≥x)=false by simp; omega,cond_false]; simp [hy]
       · rw [show decide (y≥x)=true by simp; omega,cond_true]; simp [hy]
 · intro n _ hd
   simp only [Qd8.eq_2]
   unfold Qip
   rw [hd,cond_false]
   simp [Q88]
theorem Jju {fu:Nat} {c:Carton} (hl:c.fO.length≤1048576) (hf:c.fO.length<fu):Qm6 fu c=some (Q83 c):=by
 unfold Qm6 Q83
 rw [Jjo,Qab,Q32,Qab]
 cases inb c.qJ 0 999
 · rfl
 · rw [Bool.not_true,cond_false]
   cases inb c.fM 0 3
   · rfl
   · rw [Bool.not_true,cond_false,Bool.true_and,Bool.true_and]
     unfold Jf2
     by_cases h1:(c.fO.length:Int)≤100
     · rw [show decide ((c.fO.length:Int)>100)=false by simp; omega,cond_false,show decide ((c.fO.length:Int)≤100)=true by simpa using h1,Bool.and_true]
       unfold Qk2
       have key:=lpP c.fO (λn (_:Unit) i=>Qej fu c n i) (λpre xs _=>some (Q88 pre xs)) (by omega) ?_ ?_ fu () hf
       · exact key
       · intro n _ pre x xs e hx hd ih
         have ih:=ih ()
         simp only [Qej.eq_2]
         unfold Qjg Qii Q88
         rw [hd,cond_true,hx,Qab,Q32,Qab]
         cases inb x 0 999
         · rfl
         · rw [Bool.not_true,cond_false,Bool.true_and]
           rcases Jaa (hl:=hl) e with ⟨h1,h2⟩ | ⟨y,h1,h2,h3⟩
           · rw [h1,show decide ((pre.length:Int)>0)=false from decide_eq_false (by omega),cond_false,ih]
             simp
           · rw [h1,show decide ((pre.length:Int)>0)=true from decide_eq_true (by omega),cond_true,Qab,h3,Qab,ih]
             by_cases hy:y<x
             · rw [show decide (x≤y)=false by simp; omega,cond_false]; simp [hy]
             · rw [show decide (x≤y)=true by simp; omega,cond_true]; simp [hy]
       · intro n _ hd
         simp only [Qej.eq_2]
         unfold Qjg
         rw [hd,cond_false]
         simp [Q88]
     · rw [show decide ((c.fO.length:Int)>100)=true by simp; omega,cond_true,show decide ((c.fO.length:Int)≤100)=false by simpa using h1,Bool.and_false]
theorem Q00 {α β:Type} {a:List α} {b:List β} {i:Int} {p:α×β} (h:ix (a.zip b) i=some p):ix a i=some p.1∧ix b i=some p.2:=by
 obtain ⟨h0,_,h1⟩:=Qal h
 have:=List.getElem?_zip_eq_some.1 h1
 unfold ix
 rw [if_pos h0,if_pos h0]
 exact this
theorem Jgo {fu:Nat} {x:Plan} (h:Sp x) (hf:1048577≤fu):Qla fu x=some (Q41 x):=by
 have hs:=h.spots
 have hc:=h.cars
 unfold Qla Q41
 cases he:x.fF.length==x.fV.length
 · have:((x.fF.length:Int) != (x.fV.length:Int))=true:=by simp at he ⊢; omega
   rw [this]; rfl
 · have el:x.fF.length=x.fV.length:=by simpa using he
   have:((x.fF.length:Int) != (x.fV.length:Int))=false:=by simp; omega
   rw [this,cond_false,Bool.true_and]
   by_cases h1:(x.fV.length:Int)≤100
   · rw [show decide ((x.fV.length:Int)>100)=false by simp; omega,cond_false,show decide ((x.fV.length:Int)≤100)=true by simpa using h1,Bool.true_and]
     unfold Qq0
     have hz:(x.fV.zip x.fF).length=x.fV.length:=by simp; omega
     have key:=lp (x.fV.zip x.fF) (λn (_:Unit) i=>Qgr fu x n i) (λl _=>some (l.all λp=>Q83 p.1&&Jem p.2)) (by omega) ?_ ?_ fu () (by omega)
     · exact key
     · intro n _ i p xs hx hd ih
       have ih:=ih ()
       obtain ⟨e1,e2⟩:=Q00 hx
       have hu:=h.units p.1 (Qf7 e1)
       rw [hz] at hd
       simp only [Qgr.eq_2]
       unfold Qnx Qq2
       simp only [hd,cond_true,e1,e2,Qab,Q42,Jky hu (show p.1.fO.length<fu by omega),Q55,ih,List.all_cons]
       unfold Q83 Jem
       cases inb p.1.qJ 0 999 <;> cases inb p.1.fM 0 3 <;> cases Jf2 p.1.fO <;> cases inb p.2.fJ 0 2000 <;> cases inb p.2.fX 0 2000 <;> cases inb p.2.fY 0 2000 <;> cases inb p.2.fZ 0 2000 <;> rfl
     · intro n _ i hd
       rw [hz] at hd
       simp only [Qgr.eq_2]
       unfold Qnx
       simp [hd]
   · rw [show decide ((x.fV.length:Int)>100)=true by simp; omega,cond_true,show decide ((x.fV.length:Int)≤100)=false by simpa using h1,Bool.false_and]
theorem Jku {fu:Nat} {x:Plan} (h:Sp x) (hf:1048577≤fu):Qrj fu x=some (Q41 x):=by
 have hs:=h.spots
 have hc:=h.cars
 unfold Qrj Q41
 cases he:x.fF.length==x.fV.length
 · have:((x.fV.length:Int) != (x.fF.length:Int))=true:=by simp at he ⊢; omega
   rw [this]; rfl
 · have el:x.fF.length=x.fV.length:=by simpa using he
   have:((x.fV.length:Int) != (x.fF.length:Int))=false:=by simp; omega
   rw [this,cond_false,Bool.true_and]
   by_cases h1:(x.fV.length:Int)≤100
   · rw [show decide ((x.fV.length:Int)>100)=false by simp; omega,cond_false,show decide ((x.fV.length:Int)≤100)=true by simpa using h1,Bool.true_and]
     unfold Qqs
     have hz:(x.fV.zip x.fF).length=x.fV.length:=by simp; omega
     have key:=lp (x.fV.zip x.fF) (λn (_:Unit) i=>Qgp fu x n i) (λl _=>some (l.all λp=>Q83 p.1&&Jem p.2)) (by omega) ?_ ?_ fu () (by omega)
     · exact key
     · intro n _ i p xs hx hd ih
       have ih:=ih ()
       obtain ⟨e1,e2⟩:=Q00 hx
       have hu:=h.units p.1 (Qf7 e1)
       rw [hz] at hd
       simp only [Qgp.eq_2]
       unfold Qnm Qqr
       simp only [hd,cond_true,e1,e2,Qab,Q32,Jju hu (show p.1.fO.length<fu by omega),ih,List.all_cons]
       unfold Jem
       cases Q83 p.1 <;> cases inb p.2.fJ 0 2000 <;> cases inb p.2.fX 0 2000 <;> cases inb p.2.fY 0 2000 <;> cases inb p.2.fZ 0 2000 <;> rfl
     · intro n _ i hd
       rw [hz] at hd
       simp only [Qgp.eq_2]
       unfold Qnm
       simp [hd]
   · rw [show decide ((x.fV.length:Int)>100)=true by simp; omega,cond_true,show decide ((x.fV.length:Int)≤100)=false by simpa using h1,Bool.false_and]
def onL (k:Int):Int→List Spot→List Int
 | _,[]=>[]
 | i,s::l=>bif s.fJ==k then i::onL k (i+1) l else onL k (i+1) l
def onM (x:Plan) (k:Int):List Int:=bif x.fF.length==x.fV.length then onL k 0 x.fF else []
theorem Jay (k:Int):∀ (l:List Spot) (a i:Int),i∈onL k a l↔∃ (j:Nat) (s:Spot),l[j]? = some s∧i=a+j∧s.fJ=k
 | [],a,i=>by simp [onL]
 | s::l,a,i=>by
  have ih:=Jay k l (a+1) i
  constructor
  · intro h
    unfold onL at h
    cases hk:s.fJ==k
    · rw [hk,cond_false] at h
      obtain ⟨j,t,h1,h2,h3⟩:=ih.1 h
      exact ⟨j+1,t,by simpa using h1,by omega,h3⟩
    · rw [hk,cond_true,List.mem_cons] at h
      rcases h with rfl | h
      · exact ⟨0,s,rfl,by omega,by simpa using hk⟩
      · obtain ⟨j,t,h1,h2,h3⟩:=ih.1 h
        exact ⟨j+1,t,by simpa using h1,by omega,h3⟩
  · rintro ⟨j,t,h1,h2,h3⟩
    unfold onL
    cases j with
    | zero =>
     simp only [List.getElem?_cons_zero,Option.some.injEq] at h1
     subst h1
     rw [show (s.fJ==k)=true by simpa using h3,cond_true]
     simp; omega
    | succ j =>
     have:i∈onL k (a+1) l:=ih.2 ⟨j,t,by simpa using h1,by omega,h3⟩
     cases s.fJ==k <;> simp [this]
theorem Jag (k:Int):∀ (l:List Spot) (a:Int),(onL k a l).length≤l.length
 | [],_=>Nat.le_refl _
 | s::l,a=>by
  have:=Jag k l (a+1)
  unfold onL
  cases s.fJ==k <;> simp <;> omega
theorem Jbt (x:Plan) (k:Int):(onM x k).length≤x.fF.length:=by
 unfold onM
 cases x.fF.length==x.fV.length
 · simp
 · exact Jag k _ 0
theorem Q3s {x:Plan} {k i:Int} (h:i∈onM x k):∃ c s,ix x.fV i=some c∧ix x.fF i=some s∧s.fJ=k:=by
 unfold onM at h
 cases he:x.fF.length==x.fV.length
 · rw [he] at h; simp at h
 · rw [he,cond_true] at h
   obtain ⟨j,s,h1,h2,h3⟩:=(Jay k _ 0 i).1 h
   have hj:=(List.getElem?_eq_some_iff.1 h1).1
   have hl:x.fF.length=x.fV.length:=by simpa using he
   have e:i=(j:Int):=by omega
   subst e
   exact ⟨_,s,Qzw (by omega),Jck h1,h3⟩
theorem Jlr {fu:Nat} {x:Plan} (hl:x.fF.length≤1048576) (hf:x.fF.length<fu) (k:Int):Qj9 fu x k=some (onM x k):=by
 unfold Qj9 onM
 cases he:x.fF.length==x.fV.length
 · have:((x.fF.length:Int) != (x.fV.length:Int))=true:=by simp at he ⊢; omega
   rw [this]; rfl
 · have:((x.fF.length:Int) != (x.fV.length:Int))=false:=by simp at he ⊢; omega
   rw [this,cond_false,cond_true]
   have key:=Jek x.fF (λn (o:List Int) i=>Qe8 fu x k n o i) (λpre xs o=>some (o++onL k pre.length xs)) (λpre xs o=>o.length+xs.length≤1048576) (by omega) ?_ ?_ fu [] (by simp; omega) hf
   · simpa using key
   · intro n o pre s xs e hx hd hI ih
     simp only [List.length_cons] at hI
     simp only [Qe8.eq_2]
     unfold Qj2 Qiz onL
     rw [hd,cond_true,hx,Qab]
     cases s.fJ==k
     · rw [cond_false,cond_false,ih _ (by omega)]; simp
     · rw [cond_true,cond_true,ap1 (by simp; omega),Qab,ih _ (by simp; omega)]; simp
   · intro n o hd _
     simp only [Qe8.eq_2]
     unfold Qj2
     rw [hd,cond_false]; simp [onL]
def Jlz:Carton:=⟨0,0,[]⟩
def Q21 (x:Plan) (i:Int):Carton:=(ix x.fV i).getD Jlz
def pgM (r:Request) (x:Plan) (k:Int):Int:=Qsp ((onM x k).map λi=>Q8w r (Q21 x i))
theorem Jh2 (r:Request) (c:Carton) (hl:c.fO.length≤1048576):0≤Q8w r c∧Q8w r c≤104857700000:=by
 unfold Q8w
 cases ht:Qty r c.qJ with
 | none=>simp
 | some t =>
  cases hc:Qhg r==0
  · simp
  · have h1:=Jb1 (by simpa using hc) ht
    have h2:=Q53 r c.fO
    simp only [cond_true]
    omega
theorem Jl0 {fu:Nat} {r:Request} (h:Sm fu r) {x:Plan} (hx:Sp x) (k:Int):Qkd fu r x k=some (pgM r x k):=by
 have hfu:=h.fu
 have h1:=hx.spots
 have h2:=Jbt x k
 unfold Qkd pgM
 rw [Jlr h1 (by omega),Qab]
 have key:=lpI (onM x k) (λn (s:Int) i=>Qe0 fu r x (onM x k) n s i) (λl s=>some (s+Qsp (l.map λi=>Q8w r (Q21 x i)))) (λl s=>0≤s∧s+104857700000*l.length≤104857700000*1048576∧∀ i∈l,∃ c,ix x.fV i=some c) (by omega) ?_ ?_ fu 0 ⟨by omega,by omega,λi hi=>?_⟩ (by omega)
 · simpa using key
 · intro n s i j xs hj hd hI ih
   obtain ⟨c,hc⟩:=hI.2.2 j (by simp)
   have hcu:=hx.units c (Qf7 hc)
   have hg:=Jh2 r c hcu
   have hI2:=hI.2.1
   simp only [List.length_cons] at hI2
   simp only [Qe0.eq_2]
   unfold Qin
   rw [hd,cond_true,hj,Qab,hc,Qab,Jbb h c hcu,Qab,Qbe (by omega) (by omega),ih _ ⟨by omega,by omega,λi hi=>hI.2.2 i (by simp [hi])⟩]
   simp only [List.map_cons,Qf0,Q21,hc,Option.getD_some]
   congr 1
   omega
 · intro n s i hd _
   simp only [Qe0.eq_2]
   unfold Qin
   rw [hd,cond_false]; simp
 · obtain ⟨c,_,hc,_⟩:=Q3s hi
   exact ⟨c,hc⟩
def Qww (l:List Carton):List Int:=(l.map (·.fO)).flatten
theorem Qz2 (l:List Carton):(Qww l).length=Q8s l:=by
 induction l with
 | nil=>rfl
 | cons c l ih =>
  have e:Qww (c::l)=c.fO++Qww l:=rfl
  rw [e,List.length_append,ih]; rfl
theorem Je3 {fu:Nat} {x:Plan} (h:Sp x) (hf:1048577≤fu):Qkh fu x=some (Qww x.fV):=by
 have hc:=h.cars
 have hl:=Qz2 x.fV
 have ha:=h.all
 unfold Qkh
 have:=lpI x.fV (λn out i=>Qgc fu x n out i) (λxs out=>some (out++Qww xs)) (λxs out=>out.length+(Qww xs).length≤1048576) (by omega) ?_ ?_ fu [] (by simp; omega) (by omega)
 · simpa using this
 · intro n out i c xs hx hd hI ih
   have e:Qww (c::xs)=c.fO++Qww xs:=rfl
   rw [e,List.length_append] at hI
   simp only [Qgc.eq_2]
   unfold Qj7
   rw [hd,cond_true,hx,Qab,ap1 (by omega),Qab,ih _ (by simp; omega),e]
   simp
 · intro n out i hd hI
   simp only [Qgc.eq_2]
   unfold Qj7
   simp only [hd,cond_false]
   simp [Qww]
def Jjl (r:Request) (x:Plan):List Int:=(Qf5 0 (Qja r).length).filter λu=>!(Qww x.fV).contains u
theorem Jiu {fu:Nat} {r:Request} (h:Sm fu r) {x:Plan} (hx:Sp x):Qts fu r x=some (Jjl r x):=by
 have hfu:=h.fu
 have hul:=Qv1 r
 have hfl:=Qz2 x.fV
 have ha:=hx.all
 unfold Qts Jjl
 rw [Je3 hx (by omega),Qab,Ja6 h,Qab,Q4l _ (by omega) (by omega),Qab,Jhr (λy=>Qro fu y (Qww x.fV)) (λu=>(Qww x.fV).contains u) (λu _=>by unfold Qro; rw [Jfn (by omega) (by omega)]; rfl) (by rw [Qcs]; omega) (by rw [Qcs]; omega),Qab]
theorem Jd2 {fu:Nat} {l:List Carton} (f:Carton→Option Bool) (g:Carton→Bool) (hg:∀ x∈l,f x=some (g x)) (hl:l.length≤1048576) (hf:l.length<fu):Qbx fu l f=some (Qyi g l 0):=by
 unfold Qbx
 refine Qt2 l (λn i=>Qa0 fu l f n i) g (by omega) ?_ ?_ fu hf
 · intro n i x hx hd
   simp only [Qa0.eq_2]
   unfold Qb2
   simp only [hd,cond_true,hx,Qab,hg x (Qf7 hx)]
 · intro n i hd
   simp only [Qa0.eq_2]
   unfold Qb2
   simp only [hd,cond_false]
theorem Jc9 {fu:Nat} {l:List Carton} (f:Carton→Option Bool) (g:Carton→Bool) (hg:∀ x∈l,f x=some (g x)) (hl:l.length≤1048576) (hf:l.length<fu):Qbm fu l f=some (l.any g):=by
 unfold Qbm
 rw [Jd2 f g hg hl hf,Qab,Qt0 g l 0 (by omega)]
def Jie (x:Plan):Bool:=x.fV.any λc=>(c.fO.length:Int)==0
def Q8u (r:Request) (x:Plan):Bool:=Jjk (Qww x.fV) (Qf5 0 (Qja r).length)
theorem Q7z {r:Request} {x:Plan}:Q8u r x=true↔(Qww x.fV).Perm (Qf5 0 (Qja r).length):=Jdm
theorem Q6i (a:Int) (n:Nat):(Qf5 a n).mergeSort (λx y=>decide (x≤y))=Qf5 a n :=
 List.mergeSort_of_pairwise ((Qun a n).imp λh=>by simpa using (show _≤_ by omega))
def chB (r:Request) (c:Carton):Bool:=match Qty r c.qJ with | some t=>Qzj r c.fO t | none=>false
def cgB (r:Request) (c:Carton):Bool:=c.fO.all λu=>Ji6 (Qhv r) (Qu0 r u).fL==c.fM
def ccB (r:Request) (c:Carton):Bool:=(Qwy r c.fO).2&&(Qwy r c.fO).1.qQ==c.qJ
def cs (x:Plan):List (Carton×Spot):=x.fV.zip x.fF
def Jg7 (r:Request) (p:Carton×Spot):Bool:=Jh8 r.fJ (Qs5 r p.1) p.2
def ovP (r:Request) (p q:Carton×Spot):Bool:=Jis (Qs5 r p.1) p.2 (Qs5 r q.1) q.2
def Jcu (r:Request):List (Carton×Spot)→List (Carton×Spot)→Bool
 | _,[]=>true
 | pre,p::l=>pre.all (λq=>!ovP r p q)&&Jcu r (pre++[p]) l
theorem Jif {x:Plan} (el:x.fF.length=x.fV.length):(cs x).length=x.fV.length:=by simp [cs]; omega
def plB (r:Request) (x:Plan) (k:Int):Bool :=
 !(((onM x k).length:Int)==0)&&(!(decide (pgM r x k>r.fJ.fQ))&&(onM x k).all λi=>(Q21 x i).fM==(Q21 x (ix (onM x k) 0 |>.getD 0)).fM)
theorem Jae {x:Plan} {k:Int} (hne:(((onM x k).length:Int)==0)=false):∃ i0 c0,ix (onM x k) 0=some i0∧ix x.fV i0=some c0∧∃ rest,onM x k=i0::rest:=by
 cases hl:onM x k with
 | nil=>simp [hl] at hne
 | cons i0 rest =>
  obtain ⟨c0,_,h1,_⟩:=Q3s (show i0∈onM x k by rw [hl]; simp)
  exact ⟨i0,c0,rfl,h1,rest,rfl⟩
def Jg4 (r:Request) (x:Plan):Int :=
 bif !(Qhg r==0) then 1 else bif !(Q41 x) then 2 else bif Jie x then 2 else bif !(Q8u r x) then 3 else bif !(x.fV.all (chB r)) then 4 else
 bif !(x.fV.all (cgB r)) then 5 else bif !(x.fV.all (ccB r)) then 6 else bif !((cs x).all (Jg7 r)) then 7 else bif !(Jcu r [] (cs x)) then 8 else
 bif !((Qf5 0 (Qzp x.fF).toNat).all (plB r x)) then 9 else 0
theorem Jci {x:Plan} (h:Q41 x=true):x.fF.length=x.fV.length:=by
 unfold Q41 at h
 simp only [Bool.and_eq_true] at h
 simpa using h.1
theorem Jfo {r:Request} {id:Int} {t:Typ} (h:Qty r id=some t):t∈r.fR:=List.mem_of_find?_eq_some h
theorem Q9j (r:Request) (us:List Int):∀ (l:List Typ) (s:Typ×Bool),(l.foldl (chp r us) s).2=(s.2||l.any (Qzj r us))
 | [],s=>by simp
 | t::l,s=>by
  rw [List.foldl_cons,Q9j r us l,List.any_cons]
  unfold chp
  obtain ⟨b,f⟩:=s
  cases Qzj r us t <;> cases f <;> simp
  cases (decide (t.fK<b.fK)||t.fK==b.fK&&decide (t.qQ<b.qQ)) <;> simp
theorem Q7v {r:Request} {us:List Int} {t:Typ} (ht:t∈r.fR) (h:Qzj r us t=true):(Qwy r us).2=true:=by
 unfold Qwy
 rw [Q9j]
 simp only [Bool.false_or]
 exact List.any_eq_true.2 ⟨t,ht,h⟩
theorem Jj6 {r:Request} {c:Carton} (h:chB r c=true):∀ u∈c.fO,0≤u∧u<(Qja r).length:=by
 unfold chB at h
 intro u hu
 split at h
 · simp only [Qzj,Bool.and_eq_true] at h
   have:=List.all_eq_true.1 h.2.1 u hu
   simp only [uOk,Bool.and_eq_true] at this
   exact Qxz.1 this.1
 · cases h
theorem Ja0 {r:Request} {u:Int} (hu:0≤u∧u<(Qja r).length) {g:Int} (hg:0≤g) :
    (Ji6 (Qhv r) (Qu0 r u).fL==g)=(match ix (Qhv r) g with | some l=>l.contains (Qu0 r u).fL | none=>false):=by
 have hi:=Qvc hu
 obtain ⟨i,l,h1,h2,h3⟩:=Jbj (Jac hi)
 rw [h3]
 apply Bool.eq_iff_iff.2
 constructor
 · intro h
   have e:(i:Int)=g:=by simpa using h
   rw [← e,Jck h1]
   simpa using h2
 · intro h
   cases hx:ix (Qhv r) g with
   | none=>rw [hx] at h; cases h
   | some m =>
    rw [hx] at h
    obtain ⟨g0,g1,g2⟩:=Qal hx
    have:=Q07 h1 g2 h2 (by simpa using h)
    simp; omega
theorem Jfj {fu:Nat} {r:Request} (h:Sm fu r) {x:Plan} (hx:Sp x) (hg:∀ c∈x.fV,0≤c.fM):Qjh fu r x =
    some (bif !(x.fV.all (chB r)) then 4 else bif !(x.fV.all (cgB r)) then 5 else bif !(x.fV.all (ccB r)) then 6 else 0):=by
 have hfu:=h.fu
 have hc:=hx.cars
 unfold Qjh
 have key:=lpI x.fV (λn (_:Unit) i=>Qdp fu r x n i) (λl _=>some (bif !(l.all (chB r)) then 4 else bif !(x.fV.all (cgB r)) then 5 else bif !(x.fV.all (ccB r)) then 6 else 0))
  (λl _=>l.all (chB r)=true→x.fV.all (chB r)=true) (by omega) ?_ ?_ fu () (λh=>h) (by omega)
 · exact key
 · intro n _ i c xs e hd hI ih
   have hu:=hx.units c (Qf7 e)
   simp only [Qdp.eq_2]
   unfold Qh3 Qix
   rw [hd,cond_true,e,Qab,Qw7 h,Qab,List.all_cons]
   rw [List.all_cons] at hI
   cases ht:Qty r c.qJ with
   | none=>rw [show chB r c=false by unfold chB; rw [ht]]; rfl
   | some t =>
    simp only [Qzh,Bool.not_true,cond_false]
    rw [Jak h _ t hu,Qab]
    have e1:chB r c=Qzj r c.fO t:=by unfold chB; rw [ht]
    rw [e1] at hI ⊢
    cases hh:Qzj r c.fO t
    · rfl
    · rw [hh,Bool.true_and] at hI
      rw [Bool.not_true,cond_false,ih () hI,Bool.true_and]
 · intro n _ i hd hI
   have hA:=hI rfl
   simp only [Qdp.eq_2]
   unfold Qh3
   rw [hd,cond_false,Jdk h,Qab]
   show _=some (bif !(x.fV.all (cgB r)) then 5 else bif !(x.fV.all (ccB r)) then 6 else 0)
   have key2:=lp x.fV (λn (_:Unit) i=>Qel fu r x (Qhv r) n i) (λl _=>some (bif !(l.all (cgB r)) then 5 else bif !(x.fV.all (ccB r)) then 6 else 0)) (by omega) ?_ ?_ fu () (by omega)
   · exact key2
   · intro n _ i c xs e hd ih
     have ih:=ih ()
     have hu:=hx.units c (Qf7 e)
     have hin:=Jj6 (List.all_eq_true.1 hA c (Qf7 e))
     have hil:=Qxk r c.fO
     simp only [Qel.eq_2]
     unfold Qh2
     rw [hd,cond_true,e,Qab,Q3a h _ hu (by omega),Qab,Q25 hin]
     rw [Qxf _ (λy=>!(match ix (Qhv r) c.fM with | some l=>l.contains y.fL | none=>false)) ?_ (by simp; omega) (by simp; omega),Qab,List.any_map,List.all_cons]
     · have e1:cgB r c=!(c.fO.any ((λy=>!(match ix (Qhv r) c.fM with | some l=>l.contains y.fL | none=>false)) ∘ Qu0 r)):=by
         unfold cgB
         rw [List.not_any_eq_all_not]
         apply Q3w
         intro u hu'
         rw [Ja0 (hin u hu') (hg c (Qf7 e))]
         simp only [Function.comp,Bool.not_not]
       rw [e1,ih]
       cases c.fO.any ((λy=>!(match ix (Qhv r) c.fM with | some l=>l.contains y.fL | none=>false)) ∘ Qu0 r) <;> simp
     · intro y _
       unfold Qjo
       have hg0:=hg c (Qf7 e)
       by_cases hgl:c.fM≥(Qhv r).length
       · have e0:ix (Qhv r) c.fM=none:=by
           cases hq:ix (Qhv r) c.fM with
           | none=>rfl
           | some l=>have:=(Qal hq).2.1; omega
         rw [e0,decide_eq_true hgl,cond_true]; rfl
       · have hlt:c.fM.toNat<(Qhv r).length:=by omega
         have e0:ix (Qhv r) c.fM=some (Qhv r)[c.fM.toNat]:=by
          have:=Qzw hlt
          rwa [show ((c.fM.toNat:Nat):Int)=c.fM by omega] at this
         have hgl':=(Qt5 r).2 _ (List.getElem_mem hlt)
         rw [e0,decide_eq_false hgl,cond_false,Qab,Jfn (by omega) (by omega),Qab]
   · intro n _ i hd
     simp only [Qel.eq_2]
     unfold Qh2
     rw [hd,cond_false]
     show _=some (bif !(x.fV.all (ccB r)) then 6 else 0)
     have key3:=lpI x.fV (λn (_:Unit) i=>Qek fu r x n i) (λl _=>some (bif !(l.all (ccB r)) then 6 else 0)) (λl _=>l.all (chB r)=true) (by omega) ?_ ?_ fu () hA (by omega)
     · exact key3
     · intro n _ i c xs e hd hI ih
       have hu:=hx.units c (Qf7 e)
       rw [List.all_cons,Bool.and_eq_true] at hI
       have hch:=hI.1
       have h2:(Qwy r c.fO).2=true:=by
        unfold chB at hch
        split at hch
        · rename_i t ht
          exact Q7v (Jfo ht) hch
        · cases hch
       simp only [Qek.eq_2]
       unfold Qh0
       rw [hd,cond_true,e,Qab,Jax h _ hu,Qab,ih () hI.2,List.all_cons,ccB,h2,Bool.true_and]
       simp only [bne]
       cases (Qwy r c.fO).1.qQ==c.qJ <;> rfl
     · intro n _ i hd _
       simp only [Qek.eq_2]
       unfold Qh0
       rw [hd,cond_false]; rfl
theorem Jgh {fu:Nat} {r:Request} (h:Sm fu r) {x:Plan} (hx:Sp x) (el:x.fF.length=x.fV.length):Qm1 fu r x =
    some (bif !((cs x).all (Jg7 r)) then 7 else bif !(Jcu r [] (cs x)) then 8 else bif !((Qf5 0 (Qzp x.fF).toNat).all (plB r x)) then 9 else 0):=by
 have hfu:=h.fu
 have hc:=hx.cars
 have hs:=hx.spots
 have hz:=Jif el
 have hb:=Q6m x.fF
 have bx_len:(((cs x).map λp=>Qs5 r p.1).length:Int)=x.fV.length:=by simp [hz]
 unfold Qm1
 have key:=Jek (cs x) (λn (o:List Box) i=>Qfk fu r x n o i) (λ_ l _=>some (bif !(l.all (Jg7 r)) then 7 else bif !(Jcu r [] (cs x)) then 8 else bif !((Qf5 0 (Qzp x.fF).toNat).all (plB r x)) then 9 else 0))
  (λpre l o=>o=pre.map λp=>Qs5 r p.1) (by omega) ?_ ?_ fu [] rfl (by omega)
 · exact key
 · intro n o pre p xs e0 e hd hI ih
   obtain ⟨e1,e2⟩:=Q00 e
   have hu:=hx.units p.1 (Qf7 e1)
   have hpl:pre.length≤(cs x).length:=by rw [e0]; simp
   rw [hz] at hd
   simp only [Qfk.eq_2]
   unfold Qi9
   rw [hd,cond_true,e1,Qab,Je4 h _ hu,Qab,e2,Qab,Jj1,Qab,List.all_cons,Jg7]
   cases Jh8 r.fJ (Qs5 r p.1) p.2
   · rfl
   · subst hI
     rw [Bool.not_true,cond_false,ap1 (by simp; omega),Qab,ih _ (by simp),Bool.true_and]
 · intro n o hd hI
   rw [hz] at hd ⊢
   simp only [Qfk.eq_2]
   unfold Qi9
   rw [hd,cond_false]
   show _=some (bif !(Jcu r [] (cs x)) then 8 else bif !((Qf5 0 (Qzp x.fF).toNat).all (plB r x)) then 9 else 0)
   subst hI
   have key2:=lpP (cs x) (λn (_:Unit) i=>Qds fu r x ((cs x).map λp=>Qs5 r p.1) n i) (λpre l _=>some (bif !(Jcu r pre l) then 8 else bif !((Qf5 0 (Qzp x.fF).toNat).all (plB r x)) then 9 else 0)) (by omega) ?_ ?_ fu () (by omega)
   · exact key2
   · intro n _ pre p xs e0 e hd ih
     have ih:=ih ()
     obtain ⟨e1,e2⟩:=Q00 e
     have hu:=hx.units p.1 (Qf7 e1)
     have hpl:pre.length≤(cs x).length:=by rw [e0]; simp
     have b1:ix ((cs x).map λp=>Qs5 r p.1) (pre.length:Int)=some (Qs5 r p.1):=by
      rw [Qi4,List.getElem?_map]
      rw [Qi4] at e
      rw [e]; rfl
     simp only [Qds.eq_2]
     unfold Qi8
     rw [bx_len,← hz,hd,cond_true]
     have key3:=lp pre (λm (_:Unit) j=>Qfg fu (Qds fu r x ((cs x).map λp=>Qs5 r p.1) n) x ((cs x).map λp=>Qs5 r p.1) (pre.length:Int) m j) (λl _=>some (bif !(l.all (λq=>!ovP r p q)&&Jcu r (pre++[p]) xs) then 8 else bif !((Qf5 0 (Qzp x.fF).toNat).all (plB r x)) then 9 else 0)) (by omega) ?_ ?_ fu () (by omega)
     · rw [key3]; rfl
     · intro m _ j q qs f hd2 ih2
       have ih2:=ih2 ()
       have f':ix (cs x) j=some q:=by rw [e0]; exact Jb5 f
       obtain ⟨f1,f2⟩:=Q00 f'
       obtain ⟨j0,j1,j2⟩:=Qal f'
       have b2:ix ((cs x).map λp=>Qs5 r p.1) j=some (Qs5 r q.1):=by
        unfold ix
        rw [if_pos j0,List.getElem?_map,j2]; rfl
       simp only [Qfg.eq_2]
       unfold Qi6
       simp only [hd2,cond_true,b1,e2,b2,f2,Qab,Jk0,ih2,List.all_cons,ovP]
       cases Jis (Qs5 r p.1) p.2 (Qs5 r q.1) q.2 <;> rfl
     · intro m _ j hd2
       simp only [Qfg.eq_2]
       unfold Qi6
       rw [hd2,cond_false,ih]; rfl
   · intro n _ hd
     simp only [Qds.eq_2]
     unfold Qi8
     rw [bx_len,← hz,hd,cond_false,Jex hs (by omega),Qab]
     show _=some (bif !((Qf5 0 (Qzp x.fF).toNat).all (plB r x)) then 9 else 0)
     have key4:=lpN (Qzp x.fF) (λn (_:Unit) i=>Qdr fu r x (Qzp x.fF) n i) (λl _=>some (bif !(l.all (plB r x)) then 9 else 0)) (by omega) ?_ ?_ (Qzp x.fF).toNat fu () 0 (by omega) (by omega) (by omega)
     · exact key4
     · intro n _ k xs h0 h1 hd ih
       have ih:=ih ()
       have hol:=Jbt x k
       simp only [Qdr.eq_2]
       unfold Qi7
       rw [hd,cond_true,Jlr hs (by omega),Qab,List.all_cons]
       generalize xs.all (plB r x)=A at ih ⊢
       unfold plB
       cases hne:((onM x k).length:Int)==0
       · rw [cond_false,Jl0 h hx,Qab,Bool.not_false,Bool.true_and]
         cases decide (pgM r x k>r.fJ.fQ)
         · obtain ⟨i0,c0,g1,g2,rest,g3⟩:=Jae hne
           unfold Qk3 Qle
           rw [cond_false,g1,Option.getD_some,Bool.not_false,Bool.true_and]
           have e0:Q21 x i0=c0:=by unfold Q21; rw [g2]; rfl
           rw [e0,Q7c _ (λi=>!((Q21 x i).fM==c0.fM)) ?_ (by omega) (by omega),Qab,ih]
           · rw [show (onM x k).all (λi=>(Q21 x i).fM==c0.fM)=!((onM x k).any λi=>!((Q21 x i).fM==c0.fM)) by rw [List.not_any_eq_all_not]; simp]
             cases (onM x k).any λi=>!((Q21 x i).fM==c0.fM) <;> simp
           · intro i hi
             obtain ⟨c,_,hci,_⟩:=Q3s hi
             unfold Qn6
             rw [hci,Qab,g1,Qab,g2,Qab,show Q21 x i=c by unfold Q21; rw [hci]; rfl]
             rfl
         · rfl
       · rfl
     · intro n _ i hd
       simp only [Qdr.eq_2]
       unfold Qi7
       rw [hd,cond_false]; rfl
theorem Ja3 {x:Plan} (h:Q41 x=true):∀ c∈x.fV,0≤c.fM∧c.fM≤3:=by
 have el:=Jci h
 unfold Q41 at h
 simp only [Bool.and_eq_true] at h
 intro c hc
 obtain ⟨i,hi⟩:=List.mem_iff_getElem?.1 hc
 have hlt:=(List.getElem?_eq_some_iff.1 hi).1
 have hz:(c,x.fF[i]'(by omega))∈x.fV.zip x.fF:=by
  apply List.mem_iff_getElem?.2
  refine ⟨i,List.getElem?_zip_eq_some.2 ⟨hi,List.getElem?_eq_getElem _⟩⟩
 have:=List.all_eq_true.1 h.2.2 _ hz
 simp only [Q83,Bool.and_eq_true,Qcu] at this
 omega
theorem Jcb {fu:Nat} {r:Request} (h:Sm fu r) {x:Plan} (hx:Sp x):Qol fu r x=some (Jg4 r x):=by
 have hfu:=h.fu
 have hc:=hx.cars
 have hfl:=Qz2 x.fV
 have ha:=hx.all
 have hul:=Qv1 r
 unfold Qol Jg4
 rw [Qux h,Qab]
 cases hz:Qhg r==0
 · rfl
 · rw [Bool.not_true,cond_false,Jgo hx (by omega),Qab]
   cases hp:Q41 x
   · rfl
   · have el:=Jci hp
     rw [Bool.not_true,cond_false,Jc9 (l:=x.fV) (λy=>Qsn fu y) (λc=>(c.fO.length:Int)==0) (λc _=>rfl) hc (by omega),Qab]
     show (bif Jie x then _ else _)=_
     cases Jie x
     · rw [cond_false]
       unfold Qrf Qcl
       rw [Je3 hx (by omega),Qab,Q2t (by omega),Qab,Ja6 h,Qab,Q4l _ (by omega) (by omega),Qab,Jfg _ _ (by simp; omega) (by simp; omega),Qab,Jfj h hx (λc hc=>(Ja3 hp c hc).1),Qab,Jgh h hx el,Qab]
       have e1:decide ((Qww x.fV).mergeSort (λx y=>decide (x≤y))=Qf5 0 (Qja r).length)=Q8u r x:=by
        unfold Q8u Jjk
        rw [Q6i]
       rw [e1]
       cases Q8u r x
       · rfl
       · cases x.fV.all (chB r)
         · rfl
         · cases x.fV.all (cgB r)
           · rfl
           · cases x.fV.all (ccB r) <;> rfl
     · rfl
end Go.Proofs.YtpcmapfabndggaaGreatDoor
