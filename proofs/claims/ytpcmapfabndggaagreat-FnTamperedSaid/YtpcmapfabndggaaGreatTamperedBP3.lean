import Derived.Test.YtpcmapfabndggaaGreatTamperedBP2
set_option linter.unusedSimpArgs false
set_option linter.unusedVariables false
/- Layers and loads of spec. -/
namespace Go.Proofs.YtpcmapfabndggaaGreat
open Go
open Enc (rd ow)
open Arg (argv)
open Ret (retv)
open Wf (wf)
def okL (p:Pallet) (d h g:Int):Bool:=inb d 1 p.fD&&(inb h 1 p.fH&&inb g 1 p.fQ)
theorem Jgs (fu:Nat) (p:Pallet) (d h g:Int):Qqq fu p d h g=some (okL p d h g):=by
 unfold Qqq okL
 simp only [Q42,Qab]
 cases inb d 1 p.fD <;> cases inb h 1 p.fH <;> rfl
theorem Jjw {fu:Nat} (p:Pallet) (l:List Shelf) (hl:l.length≤1048576) (hf:l.length<fu):Qmr fu p l=some (Qur p&&l.all λs=>okL p s.fD s.fH s.fQ):=by
 unfold Qmr
 rw [Jct,Qab]
 cases Qur p
 · rfl
 · rw [Bool.not_true,cond_false,Bool.true_and]
   have:=Jf3 l (λn i=>Qfh fu p l n i) (λs=>okL p s.fD s.fH s.fQ) (some true) (by omega) ?_ ?_ fu hf
   · rw [this]
     cases l.all λs=>okL p s.fD s.fH s.fQ <;> rfl
   · intro n i x hx hd
     simp only [Qfh.eq_2]
     unfold Qiw
     simp only [hd,cond_true,hx,Qab,Jgs]
     cases okL p x.fD x.fH x.fQ <;> rfl
   · intro n i hd
     simp only [Qfh.eq_2]
     unfold Qiw
     rw [hd,cond_false]
theorem Ji8 {fu:Nat} (p:Pallet) (l:List Layer) (hl:l.length≤1048576) (hf:l.length<fu):Qoc fu p l=some (Qur p&&l.all λs=>okL p s.fD s.fH s.fQ):=by
 unfold Qoc
 rw [Jct,Qab]
 cases Qur p
 · rfl
 · rw [Bool.not_true,cond_false,Bool.true_and]
   have:=Jf3 l (λn i=>Qf4 fu p l n i) (λs=>okL p s.fD s.fH s.fQ) (some true) (by omega) ?_ ?_ fu hf
   · rw [this]
     cases l.all λs=>okL p s.fD s.fH s.fQ <;> rfl
   · intro n i x hx hd
     simp only [Qf4.eq_2]
     unfold Qjk
     simp only [hd,cond_true,hx,Qab,Jgs]
     cases okL p x.fD x.fH x.fQ <;> rfl
   · intro n i hd
     simp only [Qf4.eq_2]
     unfold Qjk
     rw [hd,cond_false]
def shA (l:List Shelf) (i:Int):Shelf:=(ix l i).getD zSh
def zLy:Layer:=⟨[],0,0,0⟩
def Qry (x:Layer) (i:Int) (s:Shelf):Layer:=⟨x.fE++[i],x.fD+s.fD,mxI x.fH s.fH,x.fQ+s.fQ⟩
def Q78 (p:Pallet) (s:Shelf) (x:Layer):Bool:=decide (x.fD+s.fD≤p.fD)&&decide (x.fQ+s.fQ≤p.fQ)
def lyS (p:Pallet) (l:List Shelf) (out:List Layer) (i:Int):List Layer:=nxG (Q78 p (shA l i)) (λs=>Qry s i (shA l i)) zLy out
def lyM (p:Pallet) (l:List Shelf):List Layer:=(Qf2 0 l.length).foldl (lyS p l) []
structure LyI (p:Pallet) (n:Nat) (s:Layer):Prop where
 ne:s.fE≠[]
 inn:∀ i∈s.fE,0≤i∧i<n
 d:1≤s.fD∧s.fD≤p.fD
 h:1≤s.fH∧s.fH≤p.fH
 g:1≤s.fQ∧s.fQ≤p.fQ
def OkS (p:Pallet) (l:List Shelf):Prop:=∀ s∈l,(1≤s.fD∧s.fD≤p.fD)∧(1≤s.fH∧s.fH≤p.fH)∧(1≤s.fQ∧s.fQ≤p.fQ)
theorem Q4h {p:Pallet} {l:List Shelf} (h:OkS p l) {i:Int} (hi:0≤i∧i<l.length):ix l i=some (shA l i)∧(1≤(shA l i).fD∧(shA l i).fD≤p.fD)∧(1≤(shA l i).fH∧(shA l i).fH≤p.fH)∧(1≤(shA l i).fQ∧(shA l i).fQ≤p.fQ)∧shA l i∈l:=by
 obtain ⟨x,hx⟩:=Q0e (l:=l) hi.1 hi.2
 have e:shA l i=x:=by unfold shA; rw [hx]; rfl
 rw [e]
 exact ⟨hx,(h x (Qfe hx)).1,(h x (Qfe hx)).2.1,(h x (Qfe hx)).2.2,Qfe hx⟩
theorem Q46 {p:Pallet} {l:List Shelf} (hb:OkS p l) {out:List Layer} {i:Int} (hi:0≤i∧i<l.length) (h:∀ s∈out,LyI p l.length s):∀ s∈lyS p l out i,LyI p l.length s:=by
 obtain ⟨_,b1,b2,b3,_⟩:=Q4h hb hi
 refine Qxd h (λs hs hf=>?_) ⟨by simp [Qry],λj hj=>?_,?_,?_,?_⟩
 · unfold Q78 at hf
   simp only [Bool.and_eq_true,decide_eq_true_eq] at hf
   obtain ⟨s1,s2,s4,s5,s6⟩:=hs
   have m2:=Qt9 s.fH (shA l i).fH
   refine ⟨by simp [Qry],λj hj=>?_,?_,?_,?_⟩
   · simp only [Qry,List.mem_append,List.mem_singleton] at hj
     rcases hj with hj | rfl
     · exact s2 j hj
     · exact hi
   · simp only [Qry]; omega
   · simp only [Qry]; omega
   · simp only [Qry]; omega
 · simp only [Qry,zLy,List.nil_append,List.mem_singleton] at hj
   rw [hj]; exact hi
 · simp only [Qry,zLy]; omega
 · have:=Qt9 0 (shA l i).fH
   simp only [Qry,zLy]; omega
 · simp only [Qry,zLy]; omega
theorem Ja9 {p:Pallet} {l:List Shelf} (hb:OkS p l):∀ (is:List Int) (out:List Layer),(∀ i∈is,0≤i∧i<l.length)→(∀ s∈out,LyI p l.length s)→(∀ s∈is.foldl (lyS p l) out,LyI p l.length s)∧((is.foldl (lyS p l) out).map (·.fE)).flatten=(out.map (·.fE)).flatten++is∧(is.foldl (lyS p l) out).length≤out.length+is.length
 | [],out,_,h=>⟨h,by simp,by simp⟩
 | i::is,out,hi,h=>by
  rw [List.foldl_cons]
  obtain ⟨h1,h2,h3⟩:=Ja9 hb is (lyS p l out i) (λj hj=>hi j (by simp [hj])) (Q46 hb (hi i (by simp)) h)
  have h4:((lyS p l out i).map (·.fE)).flatten=(out.map (·.fE)).flatten++[i]:=Qsw (λs=>rfl) rfl
  have h5:(lyS p l out i).length≤out.length+1:=Qty _ _ _ _
  refine ⟨h1,by rw [h2,h4]; simp,by simp; omega⟩
theorem Qzl {p:Pallet} {l:List Shelf} (hb:OkS p l):(∀ s∈lyM p l,LyI p l.length s)∧((lyM p l).map (·.fE)).flatten=Qf2 0 l.length∧(lyM p l).length≤l.length:=by
 unfold lyM
 obtain ⟨h1,h2,h3⟩:=Ja9 hb (Qf2 0 l.length) [] (λi hi=>by have:=Qc3.1 hi; omega) (by simp)
 refine ⟨h1,by simpa using h2,?_⟩
 rw [Qcy] at h3
 simpa using h3
theorem Jho {p:Pallet} {l:List Shelf} (h:OkS p l):(l.all λs=>okL p s.fD s.fH s.fQ)=true:=by
 refine List.all_eq_true.2 λs hs=>?_
 unfold okL
 simp only [Bool.and_eq_true,Qco]
 exact ⟨(h s hs).1,(h s hs).2.1,(h s hs).2.2⟩
theorem Jcm {fu:Nat} (hfu:2097153≤fu) {p:Pallet} (hp:Qur p=true) {l:List Shelf} (hb:OkS p l) (hl:l.length≤1000):Qn6 fu p l=some (lyM p l):=by
 unfold Qn6 lyM
 rw [Jjw p l (by omega) (by omega),hp,Jho hb,Qab,Bool.and_self,Bool.not_true,cond_false]
 obtain ⟨p1,p2,p3,p4⟩:=Qt8 hp
 have L1:=Q70 (l.length:Int) (λn (o:List Layer) i=>Qbr fu p l n o i) (λxs o=>some (xs.foldl (lyS p l) o)) (λxs o=>(∀ s∈o,LyI p l.length s)∧((o.map (·.fE)).flatten).length+xs.length≤1000∧o.length+xs.length≤1000) (by omega) ?_ ?_ l.length fu [] 0 (by omega) (by omega) (by omega) ⟨by simp,by simp [Qcy]; omega,by simp [Qcy]; omega⟩
 · exact L1
 · intro n o i xs x0 x1 hd hI ih
   obtain ⟨i2,i3,i4⟩:=hI
   simp only [List.length_cons] at i3 i4
   obtain ⟨hbx,b1,b2,b3,_⟩:=Q4h hb ⟨x0,x1⟩
   have hflat:((lyS p l o i).map (·.fE)).flatten=(o.map (·.fE)).flatten++[i]:=Qsw (λs=>rfl) rfl
   have hlen:(lyS p l o i).length≤o.length+1:=Qty _ _ _ _
   have ih':=ih (lyS p l o i) ⟨Q46 hb ⟨x0,x1⟩ i2,by rw [hflat,List.length_append,List.length_singleton]; omega,by omega⟩
   have J:∀ (o':List Layer) (x:Layer),o'.length≤1000→(x.fE.length≤1000)→(0≤x.fD∧x.fD≤2000)→(0≤x.fQ∧x.fQ≤100000)→Qdj fu (Qbr fu p l n) i (shA l i) (o'++[x]) ((o'.length:Int)+1)=Qbr fu p l n (o'++[Qry x i (shA l i)]) (w64 (i+1)):=by
    intro o' x h1 h2 h3 h4
    unfold Qdj Qnk
    have e1:w64 ((o'.length:Int)+1 - 1)=(o'.length:Int):=by rw [Qa4 (by omega) (by omega)]; omega
    have e2:ix (o'++[x]) (o'.length:Int)=some x:=by rw [Qix]; simp
    rw [e1,e2,Qab,ap1 (by simp; omega),Qab,ap1 (by simp; omega),Qab,Jc8,Qab,Qab,Qa4 (n:=x.fD+_) (by omega) (by omega),Qa4 (n:=x.fQ+_) (by omega) (by omega)]
    have e3:∀ y:Layer,Qe5 (o'++[x]) (o'.length:Int) y=o'++[y]:=by intro y; simp [Qe5]
    rw [e3]
    rfl
   simp only [Qbr.eq_2]
   unfold Qjo
   rw [hd,cond_true,hbx,Qab,List.foldl_cons,← ih']
   by_cases he:o=[]
   · subst he
     rw [Qbj (by simp),ap1 (by simp),Qab]
     have:=J [] zLy (by simp) (by simp [zLy]) (by simp [zLy]) (by simp [zLy])
     rw [Qa4 (by simp) (by simp)]
     exact this
   · obtain ⟨s,e1,e2⟩:=Qul he
     have hpl:=List.length_pos_iff.2 he
     have hsm':=List.mem_of_getLast? e1
     have hs:=i2 s hsm'
     have hsl':=Qr4 (λs:Layer=>s.fE) o s hsm'
     obtain ⟨s1,s2,s4,s5,s6⟩:=hs
     have eS:lyS p l o i=bif Q78 p (shA l i) s then o.set (o.length - 1) (Qry s i (shA l i)) else o++[Qry zLy i (shA l i)]:=Qvb e1
     have eo:o=o.dropLast++[s]:=by
      have h1:=List.dropLast_concat_getLast he
      rw [List.getLast?_eq_some_getLast he] at e1
      rw [Option.some.inj e1] at h1
      exact h1.symm
     have e3:Qdj fu (Qbr fu p l n) i (shA l i) o (o.length:Int)=Qbr fu p l n (o.set (o.length - 1) (Qry s i (shA l i))) (w64 (i+1)):=by
      obtain ⟨d,hd⟩:∃ d,o=d++[s]:=⟨_,eo⟩
      rw [hd] at i4 ⊢
      simp only [List.length_append,List.length_singleton] at i4
      have:=J d s (by omega) (by omega) (by omega) (by omega)
      rw [show (((d++[s]).length:Nat):Int)=(d.length:Int)+1 by simp,this]
      congr 1
      simp
     have e4:Qdj fu (Qbr fu p l n) i (shA l i) (o++[zLy]) (w64 ((o.length:Int)+1))=Qbr fu p l n (o++[Qry zLy i (shA l i)]) (w64 (i+1)):=by
      rw [Qa4 (by omega) (by omega)]
      exact J o zLy (by omega) (by simp [zLy]) (by simp [zLy]) (by simp [zLy])
     rw [Qa4 (n:=(o.length:Int) - 1) (by omega) (by omega),e2,Qab,Qay (by simp; omega),Qab,Qa4 (n:=s.fD+_) (by omega) (by omega),Qa4 (n:=s.fQ+_) (by omega) (by omega),ap1 (by simp; omega),Qab,e3]
     rw [show (⟨[],0,0,0⟩:Layer)=zLy from rfl,e4,eS]
     unfold Q78
     by_cases c1:s.fD+(shA l i).fD≤p.fD
     · rw [Qay (c:=decide (s.fD+(shA l i).fD>p.fD)) (by simp; omega),decide_eq_true c1]
       by_cases c2:s.fQ+(shA l i).fQ≤p.fQ
       · rw [Qay (c:=decide (s.fQ+(shA l i).fQ>p.fQ)) (by simp; omega),decide_eq_true c2]; rfl
       · rw [Qbj (c:=decide (s.fQ+(shA l i).fQ>p.fQ)) (by simp; omega),decide_eq_false c2]; rfl
     · rw [Qbj (c:=decide (s.fD+(shA l i).fD>p.fD)) (by simp; omega),decide_eq_false c1]; rfl
 · intro n o i hd _
   simp only [Qbr.eq_2]
   unfold Qjo
   rw [hd,cond_false]; rfl
def lyA (l:List Layer) (i:Int):Layer:=(ix l i).getD zLy
def zLd:Load:=⟨[],0,0⟩
def Qs8 (x:Load) (i:Int) (s:Layer):Load:=⟨x.f8++[i],x.fH+s.fH,x.fQ+s.fQ⟩
def Q7w (p:Pallet) (s:Layer) (x:Load):Bool:=decide (x.fH+s.fH≤p.fH)&&decide (x.fQ+s.fQ≤p.fQ)
def ldS (p:Pallet) (l:List Layer) (out:List Load) (i:Int):List Load:=nxG (Q7w p (lyA l i)) (λs=>Qs8 s i (lyA l i)) zLd out
def ldM (p:Pallet) (l:List Layer):List Load:=(Qf2 0 l.length).foldl (ldS p l) []
structure LdI (p:Pallet) (n:Nat) (s:Load):Prop where
 ne:s.f8≠[]
 inn:∀ i∈s.f8,0≤i∧i<n
 h:1≤s.fH∧s.fH≤p.fH
 g:1≤s.fQ∧s.fQ≤p.fQ
def OkY (p:Pallet) (l:List Layer):Prop:=∀ s∈l,(1≤s.fD∧s.fD≤p.fD)∧(1≤s.fH∧s.fH≤p.fH)∧(1≤s.fQ∧s.fQ≤p.fQ)
theorem Q4y {p:Pallet} {l:List Layer} (h:OkY p l) {i:Int} (hi:0≤i∧i<l.length):ix l i=some (lyA l i)∧(1≤(lyA l i).fD∧(lyA l i).fD≤p.fD)∧(1≤(lyA l i).fH∧(lyA l i).fH≤p.fH)∧(1≤(lyA l i).fQ∧(lyA l i).fQ≤p.fQ)∧lyA l i∈l:=by
 obtain ⟨x,hx⟩:=Q0e (l:=l) hi.1 hi.2
 have e:lyA l i=x:=by unfold lyA; rw [hx]; rfl
 rw [e]
 exact ⟨hx,(h x (Qfe hx)).1,(h x (Qfe hx)).2.1,(h x (Qfe hx)).2.2,Qfe hx⟩
theorem Q5g {p:Pallet} {l:List Layer} (hb:OkY p l) {out:List Load} {i:Int} (hi:0≤i∧i<l.length) (h:∀ s∈out,LdI p l.length s):∀ s∈ldS p l out i,LdI p l.length s:=by
 obtain ⟨_,b1,b2,b3,_⟩:=Q4y hb hi
 refine Qxd h (λs hs hf=>?_) ⟨by simp [Qs8],λj hj=>?_,?_,?_⟩
 · unfold Q7w at hf
   simp only [Bool.and_eq_true,decide_eq_true_eq] at hf
   obtain ⟨s1,s2,s5,s6⟩:=hs
   refine ⟨by simp [Qs8],λj hj=>?_,?_,?_⟩
   · simp only [Qs8,List.mem_append,List.mem_singleton] at hj
     rcases hj with hj | rfl
     · exact s2 j hj
     · exact hi
   · simp only [Qs8]; omega
   · simp only [Qs8]; omega
 · simp only [Qs8,zLd,List.nil_append,List.mem_singleton] at hj
   rw [hj]; exact hi
 · simp only [Qs8,zLd]; omega
 · simp only [Qs8,zLd]; omega
theorem Jar {p:Pallet} {l:List Layer} (hb:OkY p l):∀ (is:List Int) (out:List Load),(∀ i∈is,0≤i∧i<l.length)→(∀ s∈out,LdI p l.length s)→(∀ s∈is.foldl (ldS p l) out,LdI p l.length s)∧((is.foldl (ldS p l) out).map (·.f8)).flatten=(out.map (·.f8)).flatten++is∧(is.foldl (ldS p l) out).length≤out.length+is.length
 | [],out,_,h=>⟨h,by simp,by simp⟩
 | i::is,out,hi,h=>by
  rw [List.foldl_cons]
  obtain ⟨h1,h2,h3⟩:=Jar hb is (ldS p l out i) (λj hj=>hi j (by simp [hj])) (Q5g hb (hi i (by simp)) h)
  have h4:((ldS p l out i).map (·.f8)).flatten=(out.map (·.f8)).flatten++[i]:=Qsw (λs=>rfl) rfl
  have h5:(ldS p l out i).length≤out.length+1:=Qty _ _ _ _
  refine ⟨h1,by rw [h2,h4]; simp,by simp; omega⟩
theorem Q2f {p:Pallet} {l:List Layer} (hb:OkY p l):(∀ s∈ldM p l,LdI p l.length s)∧((ldM p l).map (·.f8)).flatten=Qf2 0 l.length∧(ldM p l).length≤l.length:=by
 unfold ldM
 obtain ⟨h1,h2,h3⟩:=Jar hb (Qf2 0 l.length) [] (λi hi=>by have:=Qc3.1 hi; omega) (by simp)
 refine ⟨h1,by simpa using h2,?_⟩
 rw [Qcy] at h3
 simpa using h3
theorem Jic {p:Pallet} {l:List Layer} (h:OkY p l):(l.all λs=>okL p s.fD s.fH s.fQ)=true:=by
 refine List.all_eq_true.2 λs hs=>?_
 unfold okL
 simp only [Bool.and_eq_true,Qco]
 exact ⟨(h s hs).1,(h s hs).2.1,(h s hs).2.2⟩
theorem Jfk {fu:Nat} (hfu:2097153≤fu) {p:Pallet} (hp:Qur p=true) {l:List Layer} (hb:OkY p l) (hl:l.length≤1000):Qpm fu p l=some (ldM p l):=by
 unfold Qpm ldM
 rw [Ji8 p l (by omega) (by omega),hp,Jic hb,Qab,Bool.and_self,Bool.not_true,cond_false]
 obtain ⟨p1,p2,p3,p4⟩:=Qt8 hp
 have L1:=Q70 (l.length:Int) (λn (o:List Load) i=>Qb0 fu p l n o i) (λxs o=>some (xs.foldl (ldS p l) o)) (λxs o=>(∀ s∈o,LdI p l.length s)∧((o.map (·.f8)).flatten).length+xs.length≤1000∧o.length+xs.length≤1000) (by omega) ?_ ?_ l.length fu [] 0 (by omega) (by omega) (by omega) ⟨by simp,by simp [Qcy]; omega,by simp [Qcy]; omega⟩
 · exact L1
 · intro n o i xs x0 x1 hd hI ih
   obtain ⟨i2,i3,i4⟩:=hI
   simp only [List.length_cons] at i3 i4
   obtain ⟨hbx,b1,b2,b3,_⟩:=Q4y hb ⟨x0,x1⟩
   have hflat:((ldS p l o i).map (·.f8)).flatten=(o.map (·.f8)).flatten++[i]:=Qsw (λs=>rfl) rfl
   have hlen:(ldS p l o i).length≤o.length+1:=Qty _ _ _ _
   have ih':=ih (ldS p l o i) ⟨Q5g hb ⟨x0,x1⟩ i2,by rw [hflat,List.length_append,List.length_singleton]; omega,by omega⟩
   have J:∀ (o':List Load) (x:Load),o'.length≤1000→(x.f8.length≤1000)→(0≤x.fH∧x.fH≤2000)→(0≤x.fQ∧x.fQ≤100000)→Qdv fu (Qb0 fu p l n) i (lyA l i) (o'++[x]) ((o'.length:Int)+1)=Qb0 fu p l n (o'++[Qs8 x i (lyA l i)]) (w64 (i+1)):=by
    intro o' x h1 h2 h3 h4
    unfold Qdv Qoq
    have e1:w64 ((o'.length:Int)+1 - 1)=(o'.length:Int):=by rw [Qa4 (by omega) (by omega)]; omega
    have e2:ix (o'++[x]) (o'.length:Int)=some x:=by rw [Qix]; simp
    rw [e1,e2,Qab,ap1 (by simp; omega),Qab,ap1 (by simp; omega),Qab,Qab,Qa4 (n:=x.fH+_) (by omega) (by omega),Qa4 (n:=x.fQ+_) (by omega) (by omega)]
    have e3:∀ y:Load,Qe5 (o'++[x]) (o'.length:Int) y=o'++[y]:=by intro y; simp [Qe5]
    rw [e3]
    rfl
   simp only [Qb0.eq_2]
   unfold Qlm
   rw [hd,cond_true,hbx,Qab,List.foldl_cons,← ih']
   by_cases he:o=[]
   · subst he
     rw [Qbj (by simp),ap1 (by simp),Qab]
     have:=J [] zLd (by simp) (by simp [zLd]) (by simp [zLd]) (by simp [zLd])
     rw [Qa4 (by simp) (by simp)]
     exact this
   · obtain ⟨s,e1,e2⟩:=Qul he
     have hpl:=List.length_pos_iff.2 he
     have hsm':=List.mem_of_getLast? e1
     have hs:=i2 s hsm'
     have hsl':=Qr4 (λs:Load=>s.f8) o s hsm'
     obtain ⟨s1,s2,s5,s6⟩:=hs
     have eS:ldS p l o i=bif Q7w p (lyA l i) s then o.set (o.length - 1) (Qs8 s i (lyA l i)) else o++[Qs8 zLd i (lyA l i)]:=Qvb e1
     have eo:o=o.dropLast++[s]:=by
      have h1:=List.dropLast_concat_getLast he
      rw [List.getLast?_eq_some_getLast he] at e1
      rw [Option.some.inj e1] at h1
      exact h1.symm
     have e3:Qdv fu (Qb0 fu p l n) i (lyA l i) o (o.length:Int)=Qb0 fu p l n (o.set (o.length - 1) (Qs8 s i (lyA l i))) (w64 (i+1)):=by
      obtain ⟨d,hd⟩:∃ d,o=d++[s]:=⟨_,eo⟩
      rw [hd] at i4 ⊢
      simp only [List.length_append,List.length_singleton] at i4
      have:=J d s (by omega) (by omega) (by omega) (by omega)
      rw [show (((d++[s]).length:Nat):Int)=(d.length:Int)+1 by simp,this]
      congr 1
      simp
     have e4:Qdv fu (Qb0 fu p l n) i (lyA l i) (o++[zLd]) (w64 ((o.length:Int)+1))=Qb0 fu p l n (o++[Qs8 zLd i (lyA l i)]) (w64 (i+1)):=by
      rw [Qa4 (by omega) (by omega)]
      exact J o zLd (by omega) (by simp [zLd]) (by simp [zLd]) (by simp [zLd])
     rw [Qa4 (n:=(o.length:Int) - 1) (by omega) (by omega),e2,Qab,Qay (by simp; omega),Qab,Qa4 (n:=s.fH+_) (by omega) (by omega),Qa4 (n:=s.fQ+_) (by omega) (by omega),ap1 (by simp; omega),Qab,e3]
     rw [show (⟨[],0,0⟩:Load)=zLd from rfl,e4,eS]
     unfold Q7w
     by_cases c1:s.fH+(lyA l i).fH≤p.fH
     · rw [Qay (c:=decide (s.fH+(lyA l i).fH>p.fH)) (by simp; omega),decide_eq_true c1]
       by_cases c2:s.fQ+(lyA l i).fQ≤p.fQ
       · rw [Qay (c:=decide (s.fQ+(lyA l i).fQ>p.fQ)) (by simp; omega),decide_eq_true c2]; rfl
       · rw [Qbj (c:=decide (s.fQ+(lyA l i).fQ>p.fQ)) (by simp; omega),decide_eq_false c2]; rfl
     · rw [Qbj (c:=decide (s.fH+(lyA l i).fH>p.fH)) (by simp; omega),decide_eq_false c1]; rfl
 · intro n o i hd _
   simp only [Qb0.eq_2]
   unfold Qlm
   rw [hd,cond_false]; rfl
end Go.Proofs.YtpcmapfabndggaaGreat
/- The spots of boxes, by spec. -/
namespace Go.Proofs.YtpcmapfabndggaaGreat
open Go
open Enc (rd ow)
open Arg (argv)
open Ret (retv)
open Wf (wf)
def zSp:Spot:=⟨0,0,0,0⟩
def ldA (l:List Load) (i:Int):Load:=(ix l i).getD zLd
def spB (l:List Box) (o y z:Int) (is:List Int) (s:List Spot×Int):List Spot×Int:=is.foldl (λs b=>(Qe5 s.1 b ⟨o,s.2,y,z⟩,s.2+(bxA l b).fW)) s
def spS (l:List Box) (sh:List Shelf) (o z:Int) (js:List Int) (s:List Spot×Int):List Spot×Int:=js.foldl (λs j=>((spB l o s.2 z (shA sh j).f9 (s.1,0)).1,s.2+(shA sh j).fD)) s
def spY (l:List Box) (sh:List Shelf) (ly:List Layer) (o:Int) (is:List Int) (s:List Spot×Int):List Spot×Int:=is.foldl (λs i=>((spS l sh o s.2 (lyA ly i).fE (s.1,0)).1,s.2+(lyA ly i).fH)) s
def spO (l:List Box) (sh:List Shelf) (ly:List Layer) (ld:List Load) (os:List Int) (out:List Spot):List Spot:=os.foldl (λout o=>(spY l sh ly o (ldA ld o).f8 (out,0)).1) out
def spM (p:Pallet) (l:List Box):List Spot:=bif Qyz p l then spO l (shM p l) (lyM p (shM p l)) (ldM p (lyM p (shM p l))) (Qf2 0 (ldM p (lyM p (shM p l))).length) (List.replicate l.length zSp) else []
theorem Qwe {α:Type} (l:List α) (i:Int) (y:α):(Qe5 l i y).length=l.length:=by simp [Qe5]
theorem Q2q (l:List Box) (o y z:Int):∀ (is:List Int) (s:List Spot×Int),(spB l o y z is s).1.length=s.1.length
 | [],_=>rfl
 | i::is,s=>by
  have:=Q2q l o y z is (Qe5 s.1 i ⟨o,s.2,y,z⟩,s.2+(bxA l i).fW)
  rw [Qwe] at this
  exact this
theorem Q29 (l:List Box) (sh:List Shelf) (o z:Int):∀ (is:List Int) (s:List Spot×Int),(spS l sh o z is s).1.length=s.1.length
 | [],_=>rfl
 | i::is,s=>by
  have:=Q29 l sh o z is ((spB l o s.2 z (shA sh i).f9 (s.1,0)).1,s.2+(shA sh i).fD)
  rw [Q2q] at this
  exact this
theorem Q3d (l:List Box) (sh:List Shelf) (ly:List Layer) (o:Int):∀ (is:List Int) (s:List Spot×Int),(spY l sh ly o is s).1.length=s.1.length
 | [],_=>rfl
 | i::is,s=>by
  have:=Q3d l sh ly o is ((spS l sh o s.2 (lyA ly i).fE (s.1,0)).1,s.2+(lyA ly i).fH)
  rw [Q29] at this
  exact this
theorem Ja7 (l:List Box) (sh:List Shelf) (ly:List Layer) (ld:List Load):∀ (os:List Int) (out:List Spot),(spO l sh ly ld os out).length=out.length
 | [],_=>rfl
 | o::os,out=>by
  have:=Ja7 l sh ly ld os (spY l sh ly o (ldA ld o).f8 (out,0)).1
  rw [Q3d] at this
  exact this
theorem Q2h {p:Pallet} {l:List Box} (h:Qyz p l=true):(spM p l).length=l.length:=by
 unfold spM
 rw [h,cond_true,Ja7,List.length_replicate]
theorem Q6g {p:Pallet} {l:List Box} (h:Qyz p l=true):OkS p (shM p l):=λs hs=>by
 have:=(Qzi h).1 s hs
 exact ⟨this.d,this.h,this.g⟩
theorem Q59 {p:Pallet} {l:List Shelf} (h:OkS p l):OkY p (lyM p l):=λs hs=>by
 have:=(Qzl h).1 s hs
 exact ⟨this.d,this.h,this.g⟩
theorem Jfl {fu:Nat} (hfu:2097153≤fu) (p:Pallet) (l:List Box) (hl:l.length≤1000):Qm1 fu p l=some (spM p l):=by
 unfold Qm1 spM
 rw [Jbe (by omega),Qab,Jg7 p l (by omega) (by omega),Qab]
 cases hb:Qyz p l
 · rfl
 · obtain ⟨a1,a2,a3⟩:=Qzi hb
   have hS:=Q6g hb
   obtain ⟨y1,y2,y3⟩:=Qzl hS
   have hY:=Q59 hS
   obtain ⟨d1,d2,d3⟩:=Q2f hY
   have hpb:=Qxp hb
   obtain ⟨q1,q2,q3,q4⟩:=Qt8 hpb
   rw [Bool.not_true,cond_false,cond_true,Q90 hfu p l hl,Qab,Jcm hfu hpb hS (by omega),Qab,Jfk hfu hpb hY (by omega),Qab]
   have f1:∀ s∈shM p l,s.f9.length≤1000:=λs hs=>by
    have:=Qr4 (λs:Shelf=>s.f9) _ s hs
    rw [a2,Qtn] at this; omega
   have f2:∀ s∈lyM p (shM p l),s.fE.length≤1000:=λs hs=>by
    have:=Qr4 (λs:Layer=>s.fE) _ s hs
    rw [y2,Qcy] at this; omega
   have f3:∀ s∈ldM p (lyM p (shM p l)),s.f8.length≤1000:=λs hs=>by
    have:=Qr4 (λs:Load=>s.f8) _ s hs
    rw [d2,Qcy] at this; omega
   generalize ldM p (lyM p (shM p l))=ld at d1 d3 f3 ⊢
   generalize lyM p (shM p l)=ly at y1 y3 hY d1 d3 f2 ⊢
   generalize shM p l=sh at a1 a3 hS y1 y3 f1 ⊢
   have L4:=Q70 (ld.length:Int) (λn (out:List Spot) o=>Qbv fu l sh ly ld n out o) (λos out=>some (spO l sh ly ld os out)) (λos out=>out.length=l.length) (by omega) ?_ ?_ ld.length fu (List.replicate l.length zSp) 0 (by omega) (by omega) (by omega) (by simp)
   · exact L4
   · intro n out o os o0 o1 hd hI ih
     obtain ⟨x,hx⟩:=Q0e (l:=ld) o0 o1
     have ex:ldA ld o=x:=by unfold ldA; rw [hx]; rfl
     have hxm:=d1 x (Qfe hx)
     have hxl:=f3 x (Qfe hx)
     simp only [Qbv.eq_2]
     unfold Qlh
     rw [hd,cond_true]
     have L3:=lpI x.f8 (λm (s:List Spot×Int) i=>Qcm fu (Qbv fu l sh ly ld n) l sh ly ld o m s.1 s.2 i) (λis s=>Qbv fu l sh ly ld n (spY l sh ly o is s).1 (w64 (o+1))) (λis s=>s.1.length=l.length∧(∀ i∈is,0≤i∧i<ly.length)∧0≤s.2∧s.2+2000*is.length≤2000000) (by omega) ?_ ?_ fu (out,0) ⟨hI,hxm.inn,by simp,by simp; omega⟩ (by omega)
     · refine L3.trans ?_
       rw [ih _ (by rw [Q3d]; exact hI)]
       simp only [spO,List.foldl_cons,ex]
     · intro m ⟨out,z⟩ i j is hj hd hI ih
       obtain ⟨i1,i2,i3,i4⟩:out.length=l.length∧(∀ i∈j::is,0≤i∧i<ly.length)∧0≤z∧z+2000*((j::is).length:Int)≤2000000:=hI
       simp only [List.length_cons] at i4
       obtain ⟨hly,t1,t2,t3,hmem⟩:=Q4y hY (i2 j (by simp))
       have hyi:=y1 _ hmem
       have hyl:=f2 _ hmem
       simp only [Qcm.eq_2]
       unfold Qlr
       rw [hx,Qab,hd,cond_true,Qab,hj,Qab,hly,Qab]
       have L2:=lpI (lyA ly j).fE (λq (s:List Spot×Int) k=>Qdy fu (Qcm fu (Qbv fu l sh ly ld n) l sh ly ld o m) l sh o z i (lyA ly j) q s.1 s.2 k) (λks s=>Qcm fu (Qbv fu l sh ly ld n) l sh ly ld o m (spS l sh o z ks s).1 (w64 (z+(lyA ly j).fH)) (w64 (i+1))) (λks s=>s.1.length=l.length∧(∀ i∈ks,0≤i∧i<sh.length)∧0≤s.2∧s.2+2000*ks.length≤2000000) (by omega) ?_ ?_ fu (out,0) ⟨i1,hyi.inn,by simp,by simp; omega⟩ (by omega)
       · refine L2.trans ?_
         rw [Qa4 (n:=z+_) (by omega) (by omega)]
         exact ih ((spS l sh o z (lyA ly j).fE (out,0)).1,z+(lyA ly j).fH) ⟨by rw [Q29]; exact i1,λi hi=>i2 i (by simp [hi]),by simp; omega,by simp; omega⟩
       · intro q ⟨out,y⟩ k b ks hb2 hd hI ih
         obtain ⟨i1,i2,i3,i4⟩:out.length=l.length∧(∀ i∈b::ks,0≤i∧i<sh.length)∧0≤y∧y+2000*((b::ks).length:Int)≤2000000:=hI
         simp only [List.length_cons] at i4
         obtain ⟨hsh,u1,u2,u3,hmem2⟩:=Q4h hS (i2 b (by simp))
         have hsi:=a1 _ hmem2
         have hsl:=f1 _ hmem2
         simp only [Qdy.eq_2]
         unfold Qls
         rw [hd,cond_true,hb2,Qab,hsh,Qab]
         have L1:=lpI (shA sh b).f9 (λq' (s:List Spot×Int) k'=>Qha fu (Qdy fu (Qcm fu (Qbv fu l sh ly ld n) l sh ly ld o m) l sh o z i (lyA ly j) q) l o z y k (shA sh b) q' s.1 s.2 k') (λbs s=>Qdy fu (Qcm fu (Qbv fu l sh ly ld n) l sh ly ld o m) l sh o z i (lyA ly j) q (spB l o y z bs s).1 (w64 (y+(shA sh b).fD)) (w64 (k+1))) (λbs s=>s.1.length=l.length∧(∀ i∈bs,0≤i∧i<l.length)∧0≤s.2∧s.2+2000*bs.length≤2000000) (by omega) ?_ ?_ fu (out,0) ⟨i1,hsi.inn,by simp,by simp; omega⟩ (by omega)
         · refine L1.trans ?_
           rw [Qa4 (n:=y+_) (by omega) (by omega)]
           exact ih ((spB l o y z (shA sh b).f9 (out,0)).1,y+(shA sh b).fD) ⟨by rw [Q2q]; exact i1,λi hi=>i2 i (by simp [hi]),by simp; omega,by simp; omega⟩
         · intro q' ⟨out,x'⟩ k' c bs hc hd hI ih
           obtain ⟨i1,i2,i3,i4⟩:out.length=l.length∧(∀ i∈c::bs,0≤i∧i<l.length)∧0≤x'∧x'+2000*((c::bs).length:Int)≤2000000:=hI
           simp only [List.length_cons] at i4
           have hcr:=i2 c (by simp)
           obtain ⟨hbx,v1,v2,v3,v4⟩:=Qx9 hb hcr
           obtain ⟨sp,hsp⟩:=Q0e (l:=out) hcr.1 (by omega)
           simp only [Qha.eq_2]
           unfold Qmi
           rw [hd,cond_true,hc,Qab,hsp,Qab,Qab,hbx,Qab,Qa4 (n:=x'+_) (by omega) (by omega)]
           exact ih (Qe5 out c ⟨o,x',y,z⟩,x'+(bxA l c).fW) ⟨by rw [Qwe]; exact i1,λi hi=>i2 i (by simp [hi]),by simp; omega,by simp; omega⟩
         · intro q' ⟨out,x'⟩ k' hd _
           simp only [Qha.eq_2]
           unfold Qmi
           rw [hd,cond_false]; rfl
       · intro q ⟨out,y⟩ k hd _
         simp only [Qdy.eq_2]
         unfold Qls
         rw [hd,cond_false]; rfl
     · intro m ⟨out,z⟩ i hd _
       simp only [Qcm.eq_2]
       unfold Qlr
       rw [hx,Qab,hd,cond_false]; rfl
   · intro n out o hd _
     simp only [Qbv.eq_2]
     unfold Qlh
     rw [hd,cond_false]; rfl
def Jbt (n:Int) (out:List Spot):Prop:=∀ s∈out,0≤s.fJ∧s.fJ≤n
theorem Jca {n:Int} {out:List Spot} {i:Int} {s:Spot} (h:Jbt n out) (hs:0≤s.fJ∧s.fJ≤n):Jbt n (Qe5 out i s):=by
 intro t ht
 unfold Qe5 at ht
 rcases List.mem_or_eq_of_mem_set ht with ht | rfl
 · exact h t ht
 · exact hs
theorem Q92 {n:Int} (l:List Box) (o y z:Int) (ho:0≤o∧o≤n):∀ (is:List Int) (s:List Spot×Int),Jbt n s.1→Jbt n (spB l o y z is s).1
 | [],_,h=>h
 | i::is,s,h=>Q92 l o y z ho is (Qe5 s.1 i ⟨o,s.2,y,z⟩,s.2+(bxA l i).fW) (Jca h ho)
theorem Jax {n:Int} (l:List Box) (sh:List Shelf) (o z:Int) (ho:0≤o∧o≤n):∀ (is:List Int) (s:List Spot×Int),Jbt n s.1→Jbt n (spS l sh o z is s).1
 | [],_,h=>h
 | i::is,s,h=>Jax l sh o z ho is ((spB l o s.2 z (shA sh i).f9 (s.1,0)).1,s.2+(shA sh i).fD) (Q92 l o s.2 z ho _ (s.1,0) h)
theorem Q89 {n:Int} (l:List Box) (sh:List Shelf) (ly:List Layer) (o:Int) (ho:0≤o∧o≤n):∀ (is:List Int) (s:List Spot×Int),Jbt n s.1→Jbt n (spY l sh ly o is s).1
 | [],_,h=>h
 | i::is,s,h=>Q89 l sh ly o ho is ((spS l sh o s.2 (lyA ly i).fE (s.1,0)).1,s.2+(lyA ly i).fH) (Jax l sh o s.2 ho _ (s.1,0) h)
theorem Q9q {n:Int} (l:List Box) (sh:List Shelf) (ly:List Layer) (ld:List Load):∀ (os:List Int) (out:List Spot),(∀ o∈os,0≤o∧o≤n)→Jbt n out→Jbt n (spO l sh ly ld os out)
 | [],_,_,h=>h
 | o::os,out,ho,h=>Q9q l sh ly ld os (spY l sh ly o (ldA ld o).f8 (out,0)).1 (λq hq=>ho q (by simp [hq])) (Q89 l sh ly o (ho o (by simp)) _ (out,0) h)
theorem Jd6 {p:Pallet} {l:List Box} (hl:l.length≤1000):∀ s∈spM p l,0≤s.fJ∧s.fJ≤1000:=by
 unfold spM
 cases hb:Qyz p l
 · simp
 · have a3:=(Qzi hb).2.2
   have hS:=Q6g hb
   have y3:=(Qzl hS).2.2
   have d3:=(Q2f (Q59 hS)).2.2
   rw [cond_true]
   refine Q9q l _ _ _ _ _ (λo ho=>?_) λs hs=>?_
   · have:=Qc3.1 ho; omega
   · rw [(List.mem_replicate.1 hs).2]; simp [zSp]
end Go.Proofs.YtpcmapfabndggaaGreat
/- The units of a group, by spec and by impl. -/
namespace Go.Proofs.YtpcmapfabndggaaGreat
open Go
open Enc (rd ow)
open Arg (argv)
open Ret (retv)
open Wf (wf)
def Jkh (r:Request) (k:Int):Bool:=inb k 0 (((Qhr r).length:Int) - 1)
theorem Q11 {r:Request} {k:Int} (h:Jkh r k=true):Qhd r=0:=by
 unfold Jkh at h
 rw [Qco] at h
 by_cases hc:Qhd r=0
 · exact hc
 · have:Qhr r=[]:=by
     unfold Qhr Qz6
     rw [show (Qhd r==0)=false by simp [hc]]
     rfl
   rw [this] at h
   simp at h
   omega
theorem Q6z (r:Request) (g:List Int) (u i:Int) (us:List Int) {x:Item} (hx:ix r.fU i=some x):ofG r g u (i::us)=bif g.contains x.fM then u::ofG r g (u+1) us else ofG r g (u+1) us:=by
 rw [ofG,hx]
theorem Jjs {fu:Nat} {r:Request} (h:Sm fu r) (k:Int):Qp8 fu r k=some (Qve r k):=by
 have hfu:=h.fu
 unfold Qp8 Qve
 rw [Jfd h,Qab,Q9d,Q42,Qab]
 cases hg:inb k 0 (((Qhr r).length:Int) - 1)
 · rw [Bool.not_false,cond_true]
   have:ix (Qhr r) k=none:=by
    have hk:¬ (0≤k∧k≤((Qhr r).length:Int) - 1):=by intro hk; rw [(Qco).2 hk] at hg; cases hg
    unfold ix
    by_cases h0:0≤k
    · rw [if_pos h0,List.getElem?_eq_none (by omega)]
    · rw [if_neg h0]
   rw [this]
 · have hc:=Q11 hg
   rw [Qco] at hg
   obtain ⟨j,rfl⟩:∃ j:Nat,k=j:=⟨k.toNat,by omega⟩
   have hj:j<(Qhr r).length:=by omega
   have hgl:=(Qtk r).2 _ (List.getElem_mem hj)
   rw [Bool.not_true,cond_false,Jjv h (Qei hc).1,Qab,Qy2 hj]
   have e:Qje r=l6M r:=by unfold Qje; rw [show (Qhd r==0)=true by simp [hc],cond_true]
   simp only [e]
   have hlen:(l6M r).length≤12:=Q9o (Qei hc).1
   have:=Jge (l6M r) (λn out i=>Qf0 fu r (j:Int) (Qhr r) (l6M r) n out i) (λpre xs out=>some (out++ofG r (Qhr r)[j] (pre.length:Int) xs)) (λpre xs out=>out.length+xs.length≤12) (by omega) ?_ ?_ fu [] (by simpa using hlen) (by omega)
   · simpa using this
   · intro n out pre i xs hl hx hd hI ih
     simp only [List.length_cons] at hI
     have hi:i∈Qje r:=by rw [e,hl]; simp
     have hi2:=Q3i hi
     obtain ⟨q,rfl⟩:∃ q:Nat,i=q:=⟨i.toNat,by omega⟩
     have hq:q<r.fU.length:=by omega
     simp only [Qf0.eq_2]
     unfold Ql2 Qkl
     simp only [hd,cond_true,hx,Qab,Qy2 hj,Qy2 hq,Jh0 (show (Qhr r)[j].length≤1048576 by omega) (show (Qhr r)[j].length<fu by omega)]
     rw [Q6z r _ _ _ _ (Qy2 hq)]
     cases (Qhr r)[j].contains r.fU[q].fM
     · rw [cond_false,cond_false,ih _ (by omega)]
       simp
     · rw [cond_true,cond_true,ap1 (by simp; omega),Qab,ih _ (by simp; omega)]
       simp
   · intro n out hd hI
     simp only [Qf0.eq_2]
     unfold Ql2
     simp only [hd,cond_false]
     simp [ofG]
theorem Jiw {fu:Nat} {r:Request} (h:Sm fu r) (k:Int):Qp2 fu r k=some (Qve r k):=by
 have hfu:=h.fu
 unfold Qp2 Qve
 rw [Jcy h,Qab,Q9d,Q43,Qab]
 cases hg:inb k 0 (((Qhr r).length:Int) - 1)
 · rw [Bool.not_false,cond_true]
   have:ix (Qhr r) k=none:=by
    have hk:¬ (0≤k∧k≤((Qhr r).length:Int) - 1):=by intro hk; rw [(Qco).2 hk] at hg; cases hg
    unfold ix
    by_cases h0:0≤k
    · rw [if_pos h0,List.getElem?_eq_none (by omega)]
    · rw [if_neg h0]
   rw [this]
 · have hc:=Q11 hg
   rw [Qco] at hg
   obtain ⟨j,rfl⟩:∃ j:Nat,k=j:=⟨k.toNat,by omega⟩
   have hj:j<(Qhr r).length:=by omega
   have hgl:=(Qtk r).2 _ (List.getElem_mem hj)
   rw [Bool.not_true,cond_false,Jcs h,Qab,Qy2 hj]
   have hlen:=Qws r
   have:=Jge (Qje r) (λn out i=>Qfm fu r (j:Int) (Qhr r) (Qje r) n out i) (λpre xs out=>some (out++ofG r (Qhr r)[j] (pre.length:Int) xs)) (λpre xs out=>out.length+xs.length≤12) (by omega) ?_ ?_ fu [] (by simpa using hlen) (by omega)
   · simpa using this
   · intro n out pre i xs hl hx hd hI ih
     simp only [List.length_cons] at hI
     have hi:i∈Qje r:=by rw [hl]; simp
     have hi2:=Q3i hi
     obtain ⟨q,rfl⟩:∃ q:Nat,i=q:=⟨i.toNat,by omega⟩
     have hq:q<r.fU.length:=by omega
     simp only [Qfm.eq_2]
     unfold Qmd Qj8
     simp only [hd,cond_true,hx,Qab,Qy2 hj,Qy2 hq,Jib (show (Qhr r)[j].length≤1048576 by omega) (show (Qhr r)[j].length<fu by omega)]
     rw [Q6z r _ _ _ _ (Qy2 hq)]
     cases (Qhr r)[j].contains r.fU[q].fM
     · rw [cond_false,cond_false,ih _ (by omega)]
       simp
     · rw [cond_true,cond_true,ap1 (by simp; omega),Qab,ih _ (by simp; omega)]
       simp
   · intro n out hd hI
     simp only [Qfm.eq_2]
     unfold Qmd
     simp only [hd,cond_false]
     simp [ofG]
end Go.Proofs.YtpcmapfabndggaaGreat
/- CartonsOf of spec and of impl. -/
namespace Go.Proofs.YtpcmapfabndggaaGreat
open Go
open Enc (rd ow)
open Arg (argv)
open Ret (retv)
open Wf (wf)
def Q73 (l:List Int):List Int:=l.mergeSort λx y=>decide (x≤y)
theorem Qs9 (l:List Int):(Q73 l).Perm l:=List.mergeSort_perm l _
theorem Q7n (l:List Int):(Q73 l).length=l.length:=(Qs9 l).length_eq
def Q5p (r:Request) (k:Int) (l:List Int):Carton:=⟨(Qvs r l).1.qQ,k,Q73 l⟩
def Q1d (r:Request) (k:Int):List Carton:=(pwM r (Qve r k)).map (Q5p r k)
def Qyi (r:Request):List Int→List Carton
 | []=>[]
 | k::ks=>Q1d r k++Qyi r ks
def Quv (r:Request):List Carton:=Qyi r (Qf2 0 (Qhr r).length)
theorem Q8m (l:List Int):(Qf2 0 l.length).map (λp=>(ix l p).getD 0)=l:=by
 have key:∀ (xs pre:List Int),l=pre++xs→(Qf2 pre.length xs.length).map (λp=>(ix l p).getD 0)=xs:=by
  intro xs
  induction xs with
  | nil=>intro pre _; rfl
  | cons x xs ih =>
   intro pre he
   have h1:=ih (pre++[x]) (by simp [he])
   simp only [List.length_append,List.length_singleton] at h1
   simp only [List.length_cons,Qf2,List.map_cons]
   rw [show ((pre.length:Int)+1)=((pre.length+1:Nat):Int) by omega,h1]
   congr 1
   rw [Qix,he]
   simp
 exact key l [] rfl
theorem Jf4 (l:List Int):(srt (kf l) l.length).map (λp=>(ix l p).getD 0)=Q73 l:=by
 refine Jag ?_ ?_ (Qqs l)
 · refine ((Qt4 _ _).map _).trans ?_
   rw [Q8m]
   exact (Qs9 l).symm
 · refine List.pairwise_map.2 ((Qw6 (kf l) l.length).imp fun {p q} h=>?_)
   unfold lx kf at h
   omega
theorem Q7q {r:Request} (k:Int):(Q1d r k).length≤12:=by
 have:=(Q69 (r:=r) (Qy5 r k)).1
 simp [Q1d]; omega
theorem Jjl {fu:Nat} {r:Request} (h:Sm fu r):Qmq fu r=some (Quv r):=by
 have hfu:=h.fu
 have hg:=(Qtk r).1
 unfold Qmq Quv
 rw [Jcy h,Qab]
 have:=Q70 ((Qhr r).length:Int) (λn out i=>Qc7 fu r (Qhr r) n out i) (λxs out=>some (out++Qyi r xs)) (λxs out=>out.length+12*xs.length≤48) (by omega) ?_ ?_ (Qhr r).length fu [] 0 (by omega) (by omega) (by omega) (by simp [Qcy]; omega)
 · simpa using this
 · intro n out k ks h0 h1 hd hI ih
   simp only [List.length_cons] at hI
   have hul:=Qy5 r k
   have hpo:=Q69 (r:=r) hul
   simp only [Qc7.eq_2]
   unfold Qjb
   rw [hd,cond_true,Jiw h,Qab,Jj0 h _ (by omega),Qab]
   have key:=lpI (pwM r (Qve r k)) (λm o i=>Qfg fu (Qc7 fu r (Qhr r) n) r k (pwM r (Qve r k)) m o i) (λxs o=>Qc7 fu r (Qhr r) n (o++xs.map (Q5p r k)) (w64 (k+1))) (λxs o=>o.length+xs.length≤48∧∀ l∈xs,l.length≤12) (by have:=hpo.1; omega) ?_ ?_ fu out ⟨by have:=hpo.1; omega,hpo.2⟩ (by have:=hpo.1; omega)
   · rw [key,ih _ (by have:=hpo.1; simp; omega)]
     simp [Qyi,Q1d]
   · intro m o i l xs hx hd hI ih
     obtain ⟨h2,h3⟩:=hI
     simp only [List.length_cons] at h2
     have hl:=h3 l (by simp)
     simp only [Qfg.eq_2]
     unfold Qi9
     rw [hd,cond_true,hx,Qab,Jan h l (by omega),Qab,show Qck fu l=some (Q73 l) from Q16 (by omega),Qab,ap1 (by simp; omega),Qab,ih _ ⟨by simp; omega,λy hy=>h3 y (by simp [hy])⟩]
     simp [Q5p]
   · intro m o i hd _
     simp only [Qfg.eq_2]
     unfold Qi9
     rw [hd,cond_false]; simp
 · intro n out k hd _
   simp only [Qc7.eq_2]
   unfold Qjb
   rw [hd,cond_false]; simp [Qyi]
theorem Jiq {fu:Nat} {r:Request} (h:Sm fu r):Qmo fu r=some (Quv r):=by
 have hfu:=h.fu
 have hg:=(Qtk r).1
 unfold Qmo Quv
 rw [Jfd h,Qab]
 have:=Q70 ((Qhr r).length:Int) (λn out i=>Qbg fu r (Qhr r) n out i) (λxs out=>some (out++Qyi r xs)) (λxs out=>out.length+12*xs.length≤48) (by omega) ?_ ?_ (Qhr r).length fu [] 0 (by omega) (by omega) (by omega) (by simp [Qcy]; omega)
 · simpa using this
 · intro n out k ks h0 h1 hd hI ih
   simp only [List.length_cons] at hI
   have hul:=Qy5 r k
   have hpo:=Q69 (r:=r) hul
   simp only [Qbg.eq_2]
   unfold Qiy
   rw [hd,cond_true,Jjs h,Qab,Jj8 h _ (by omega),Qab]
   have key:=lpI (pwM r (Qve r k)) (λm o i=>Qcg fu (Qbg fu r (Qhr r) n) r k (pwM r (Qve r k)) m o i) (λxs o=>Qbg fu r (Qhr r) n (o++xs.map (Q5p r k)) (w64 (k+1))) (λxs o=>o.length+xs.length≤48∧∀ l∈xs,l.length≤12) (by have:=hpo.1; omega) ?_ ?_ fu out ⟨by have:=hpo.1; omega,hpo.2⟩ (by have:=hpo.1; omega)
   · rw [key,ih _ (by have:=hpo.1; simp; omega)]
     simp [Qyi,Q1d]
   · intro m o i l xs hx hd hI ih
     obtain ⟨h2,h3⟩:=hI
     simp only [List.length_cons] at h2
     have hl:=h3 l (by simp)
     simp only [Qcg.eq_2]
     unfold Qi7 Qk2
     rw [hd,cond_true,hx,Qab,Jem h l (by omega),Qab,Qab,Jkn hfu (by omega),Qab]
     have hsl:=Qtn (kf l) l.length
     have hsm:=λx=>Qxn (k:=kf l) (n:=l.length) (x:=x)
     have hsg:=Jf4 l
     generalize srt (kf l) l.length=S at hsl hsm hsg ⊢
     have k1:=lpI S (λm' us j=>Qff fu (Qcg fu (Qbg fu r (Qhr r) n) r k (pwM r (Qve r k)) m) k (pwM r (Qve r k)) o i (Qvs r l).1 S m' us j)
      (λxs us=>Qac (Qgz 40 o [(⟨(Qvs r l).1.qQ,k,us++xs.map λp=>(ix l p).getD 0⟩:Carton)]) λx=>Qik fu (Qcg fu (Qbg fu r (Qhr r) n) r k (pwM r (Qve r k)) m) i x) (λxs us=>us.length+xs.length≤12∧∀ p∈xs,0≤p∧p<l.length) (by omega) ?_ ?_ fu [] ⟨by simp; omega,λp hp=>(hsm p).1 hp⟩ (by omega)
     · rw [k1,List.nil_append,hsg,ap1 (by simp; omega),Qab]
       unfold Qik
       rw [ih _ ⟨by simp; omega,λy hy=>h3 y (by simp [hy])⟩]
       simp [Q5p]
     · intro m' us j p ps hp hd hI ih
       obtain ⟨h4,h5⟩:=hI
       simp only [List.length_cons] at h4
       simp only [Qff.eq_2]
       unfold Qi2
       rw [hd,cond_true,hx,Qab,hp,Qab,Jae (h5 p (by simp)),Qab,ap1 (by simp; omega),Qab,ih _ ⟨by simp; omega,λy hy=>h5 y (by simp [hy])⟩]
       simp
     · intro m' us j hd _
       simp only [Qff.eq_2]
       unfold Qi2
       rw [hd,cond_false]; simp
   · intro m o i hd _
     simp only [Qcg.eq_2]
     unfold Qi7 Qmk
     rw [hd,cond_false]; simp
 · intro n out k hd _
   simp only [Qbg.eq_2]
   unfold Qiy
   rw [hd,cond_false]; simp [Qyi]
theorem Q7j (r:Request):∀ (ks:List Int),(Qyi r ks).length≤12*ks.length
 | []=>by simp [Qyi]
 | k::ks=>by
  have:=Q7j r ks
  have:=Q7q (r:=r) k
  simp [Qyi]; omega
theorem Qy3 (r:Request):(Quv r).length≤48:=by
 have:=Q7j r (Qf2 0 (Qhr r).length)
 have hg:=(Qtk r).1
 rw [Qcy] at this
 unfold Quv
 omega
theorem Qwo {r:Request} {c:Carton}:∀ {ks:List Int},c∈Qyi r ks↔∃ k∈ks,∃ l∈pwM r (Qve r k),c=Q5p r k l
 | []=>by simp [Qyi]
 | k::ks=>by
  simp only [Qyi,List.mem_append,Qwo (ks:=ks),List.mem_cons,Q1d,List.mem_map]
  constructor
  · rintro (⟨l,hl,rfl⟩ | ⟨k',hk,l,hl,e⟩)
    · exact ⟨k,.inl rfl,l,hl,rfl⟩
    · exact ⟨k',.inr hk,l,hl,e⟩
  · rintro ⟨k',rfl | hk,l,hl,rfl⟩
    · exact .inl ⟨l,hl,rfl⟩
    · exact .inr ⟨k',hk,l,hl,rfl⟩
theorem Qwl {r:Request} {c:Carton} (h:c∈Quv r):c.f0.length≤12:=by
 obtain ⟨k,_,l,hl,rfl⟩:=Qwo.1 h
 have:=(Q69 (r:=r) (Qy5 r k)).2 l hl
 simp only [Q5p,Q7n]
 omega
end Go.Proofs.YtpcmapfabndggaaGreat
/- What the ways of packing keep: every unit once, every carton within the master's. -/
namespace Go.Proofs.YtpcmapfabndggaaGreat
open Go
open Enc (rd ow)
open Arg (argv)
open Ret (retv)
open Wf (wf)
def Jgk:List Int→Int
 | []=>1
 | x::xs=>x*Jgk xs
theorem Jc6 {a b:List Int} (h:a.Perm b):Jgk a=Jgk b:=by
 induction h with
 | nil=>rfl
 | cons x _ ih=>simp only [Jgk,ih]
 | swap x y l=>simp only [Jgk,← Int.mul_assoc]; rw [Int.mul_comm x y]
 | trans _ _ h1 h2=>rw [h1,h2]
theorem Jap (a b c:Int):(sid a b c).1*((sid a b c).2.1*(sid a b c).2.2)=a*b*c:=by
 have h:=Q9w a b c
 unfold Q3s at h
 simp only [List.length_cons,List.length_nil] at h
 rw [if_pos (by omega)] at h
 have hp:=List.mergeSort_perm [a,b,c] λx y=>decide (x≤y)
 rw [Option.some.inj h] at hp
 have:=Jc6 hp
 simp only [Jgk,Int.mul_one] at this
 rw [this,Int.mul_assoc]
theorem Jh2 {a b c m:Int} (ha:m≤a) (hb:m≤b) (hc:m≤c):m≤(sid a b c).1:=by
 unfold sid
 simp only
 split <;> split <;> omega
theorem Jez {x:Item} {t:Typ} (hx:Qxr x=true) (ht:Q13 t=true) (h:Q07 x t=true):Jbd x≤Jbu t∧x.fQ≤t.fQ:=by
 simp only [Qxr,Bool.and_eq_true,Qco] at hx
 simp only [Q13,Bool.and_eq_true,Qco] at ht
 simp only [Q07,Bool.and_eq_true,decide_eq_true_eq] at h
 obtain ⟨⟨⟨h1,h2⟩,h3⟩,h4⟩:=h
 refine ⟨?_,h4⟩
 have e1:Jbd x=x.fW*x.fH*x.fD:=by
  unfold Jbd Q7r
  rw [show (inb x.fW 0 2000&&(inb x.fH 0 2000&&inb x.fD 0 2000))=true by simp; omega,cond_true]
 have e2:Jbu t=t.fW*t.fH*t.fD:=by
  unfold Jbu Q7r
  rw [show (inb t.fW 0 2000&&(inb t.fH 0 2000&&inb t.fD 0 2000))=true by simp; omega,cond_true]
 rw [e1,e2,← Jap x.fW x.fH x.fD,← Jap t.fW t.fH t.fD]
 have p1:1≤(sid x.fW x.fH x.fD).1:=Jh2 (by omega) (by omega) (by omega)
 have s1:=Q19 x.fW x.fH x.fD
 have s2:=Q19 t.fW t.fH t.fD
 refine Int.mul_le_mul h1 ?_ (Int.mul_nonneg (by omega) (by omega)) (by omega)
 exact Int.mul_le_mul h2 h3 (by omega) (by omega)
theorem Qy4 {r:Request} {u:Int} (h:0≤u∧u<(Qje r).length):Qua r u∈r.fU:=(Q5d (Quo h)).2
theorem Q4d {r:Request} {u:Int} (h:0≤u∧u<(Qje r).length):Qhd r=0:=(Q5d (Quo h)).1
theorem Q8s {r:Request} (hc:Qhd r=0):Qtc r r.fL=some (Qw0 r)∧Qw0 r∈r.fR∧Q13 (Qw0 r)=true:=by
 have h:=(Qei hc).2.1
 unfold Q8h at h
 simp only [Bool.and_eq_true] at h
 obtain ⟨t,ht⟩:=Option.isSome_iff_exists.1 h.1.2
 have e:Qw0 r=t:=by unfold Qw0; rw [ht]; rfl
 have hm:t∈r.fR:=List.mem_of_find?_eq_some ht
 rw [e]
 exact ⟨ht,hm,Qwy (Qei hc).1 t hm⟩
theorem Jbf {r:Request} {u:Int} (h:0≤u∧u<(Qje r).length):Qwz r [u]=Jbd (Qua r u)∧Qwa r [u]=(Qua r u).fQ:=by
 unfold Qwz Qwa Qyb
 simp [List.filterMap_cons,Quo h]
theorem Jab {r:Request} {u:Int} (h:0≤u∧u<(Qje r).length):Q0p r [u] (Qw0 r)=true:=by
 have hc:=Q4d h
 have hz:=Qei hc
 have hm:=Qy4 h
 obtain ⟨h1,h2⟩:=Jez ((Qrt hz.1).1 _ hm) (Q8s hc).2.2 (hz.2.2.2.1 _ hm)
 unfold Q0p
 rw [(Jbf h).1,(Jbf h).2,Bool.and_eq_true,decide_eq_true_iff,decide_eq_true_iff]
 exact ⟨h1,h2⟩
def Qc (r:Request) (us:List Int) (l:List Int):Prop:=l≠[]∧(∀ u∈l,u∈us)∧Q0p r l (Qw0 r)=true
theorem Jid {r:Request} {us:List Int} {out:List (List Int)} {u:Int} (h:∀ l∈out,Qc r us l) (hu:u∈us) (hr:0≤u∧u<(Qje r).length):∀ l∈Jgf r out u,Qc r us l:=by
 have hn:Qc r us [u]:=⟨by simp,λv hv=>by rw [List.mem_singleton.1 hv]; exact hu,Jab hr⟩
 intro l hl
 unfold Jgf Jdo at hl
 split at hl
 · rename_i i hi
   obtain ⟨x,hx,hg⟩:=Qtz hi
   rw [hx] at hl
   rcases List.mem_or_eq_of_mem_set hl with hl | rfl
   · exact h l hl
   · have hq:=h x (List.mem_of_getElem? hx)
     refine ⟨by simp,λv hv=>?_,hg⟩
     rcases List.mem_append.1 hv with hv | hv
     · exact hq.2.1 v hv
     · rw [List.mem_singleton.1 hv]; exact hu
 · rcases List.mem_append.1 hl with hl | hl
   · exact h l hl
   · rw [List.mem_singleton.1 hl]; exact hn
theorem Jh9 {r:Request} {us:List Int} {out:List (List Int)} {u:Int} (h:∀ l∈out,Qc r us l) (hu:u∈us) (hr:0≤u∧u<(Qje r).length):∀ l∈Q6u r out u,Qc r us l:=by
 have hn:Qc r us [u]:=⟨by simp,λv hv=>by rw [List.mem_singleton.1 hv]; exact hu,Jab hr⟩
 intro l hl
 cases hlast:out.getLast? with
 | none =>
  unfold Q6u at hl
  rw [hlast] at hl
  rw [List.mem_singleton.1 hl]; exact hn
 | some x =>
  rw [Qwx u hlast] at hl
  have hq:=h x (List.mem_of_getLast? hlast)
  cases hg:Q2i r u x
  · rw [hg,cond_false] at hl
    rcases List.mem_append.1 hl with hl | hl
    · exact h l hl
    · rw [List.mem_singleton.1 hl]; exact hn
  · rw [hg,cond_true] at hl
    rcases List.mem_or_eq_of_mem_set hl with hl | rfl
    · exact h l hl
    · refine ⟨by simp,λv hv=>?_,hg⟩
      rcases List.mem_append.1 hv with hv | hv
      · exact hq.2.1 v hv
      · rw [List.mem_singleton.1 hv]; exact hu
theorem Ja2 {r:Request} {us:List Int} {F:List (List Int)→Int→List (List Int)} (hF:∀ out u,(∀ l∈out,Qc r us l)→u∈us→(0≤u∧u<(Qje r).length)→∀ l∈F out u,Qc r us l):∀ (vs:List Int) (out:List (List Int)),(∀ u∈vs,u∈us∧0≤u∧u<(Qje r).length)→(∀ l∈out,Qc r us l)→∀ l∈vs.foldl F out,Qc r us l
 | [],out,_,h=>h
 | v::vs,out,hv,h=>by
  rw [List.foldl_cons]
  have h1:=hv v (by simp)
  exact Ja2 hF vs _ (λu hu=>hv u (by simp [hu])) (hF out v h h1.1 h1.2)
theorem Q39 (r:Request) (us:List Int):(Jdv r us).Perm us:=by
 unfold Jdv
 refine ((Qt4 _ _).map _).trans ?_
 have key:∀ (xs pre:List Int),us=pre++xs→(Qf2 pre.length xs.length).map (λp=>(ix us p).getD 0)=xs:=by
  intro xs
  induction xs with
  | nil=>intro pre _; rfl
  | cons x xs ih =>
   intro pre he
   have h1:=ih (pre++[x]) (by simp [he])
   simp only [List.length_append,List.length_singleton] at h1
   simp only [List.length_cons,Qf2,List.map_cons]
   rw [show ((pre.length:Int)+1)=((pre.length+1:Nat):Int) by omega,h1]
   congr 1
   rw [Qix,he]
   simp
 have:=key us [] rfl
 simp only [List.length_nil] at this
 exact List.Perm.of_eq this
theorem Jgv {r:Request} {us:List Int}:∀ l∈pwM r us,Qc r (Quk r us) l:=by
 unfold pwM nfM ffM
 have ht:∀ u∈Quk r us,u∈Quk r us∧0≤u∧u<(Qje r).length:=λu hu=>⟨hu,Qzz hu⟩
 cases r.qY==1
 · rw [cond_false]
   exact Ja2 (λout u h hu hr=>Jid h hu hr) _ [] (λu hu=>ht u ((Q39 r _).mem_iff.1 hu)) (by simp)
 · rw [cond_true]
   exact Ja2 (λout u h hu hr=>Jh9 h hu hr) _ [] ht (by simp)
theorem Q9c (g:List Int→Bool) (out:List (List Int)) (u:Int):(Jdo g out u).flatten.Perm (out.flatten++[u]):=by
 unfold Jdo
 split
 · rename_i i hi
   obtain ⟨x,hx,_⟩:=Qtz hi
   rw [hx]
   exact Qwg hx
 · simp
theorem Jbl (r:Request) (out:List (List Int)) (u:Int):(Q6u r out u).flatten.Perm (out.flatten++[u]):=by
 cases hlast:out.getLast? with
 | none =>
  have:out=[]:=List.getLast?_eq_none_iff.1 hlast
  subst this
  unfold Q6u
  simp
 | some x =>
  rw [Qwx u hlast]
  cases Q2i r u x
  · simp
  · rw [cond_true]
    rw [List.getLast?_eq_getElem?] at hlast
    exact Qwg hlast
theorem Q0h {F:List (List Int)→Int→List (List Int)} (hF:∀ out u,(F out u).flatten.Perm (out.flatten++[u])):∀ (vs:List Int) (out:List (List Int)),(vs.foldl F out).flatten.Perm (out.flatten++vs)
 | [],out=>by simp
 | v::vs,out=>by
  rw [List.foldl_cons]
  refine (Q0h hF vs _).trans (((hF out v).append_right vs).trans ?_)
  simp
theorem Q9n (r:Request) (us:List Int):(pwM r us).flatten.Perm (Quk r us):=by
 unfold pwM nfM ffM
 cases r.qY==1
 · rw [cond_false]
   refine (Q0h (λout u=>Q9c _ out u) _ []).trans ?_
   simpa using Q39 r (Quk r us)
 · rw [cond_true]
   refine (Q0h (λout u=>Jbl r out u) _ []).trans ?_
   simp
end Go.Proofs.YtpcmapfabndggaaGreat
/- What is marked: orders, lists of numbers, lists of lists. -/
namespace Go.Proofs.YtpcmapfabndggaaGreat
open Go
open Enc (rd ow)
open Arg (argv)
open Ret (retv)
open Wf (wf)
end Go.Proofs.YtpcmapfabndggaaGreat
/- Lists of cartons in the laws: their size, copies, equality, marks. -/
namespace Go.Proofs.YtpcmapfabndggaaGreat
open Go
open Enc (rd ow)
open Arg (argv)
open Ret (retv)
open Wf (wf)
def Q2b:List Carton→Nat
 | []=>0
 | x::xs=>x.f0.length+Q2b xs
end Go.Proofs.YtpcmapfabndggaaGreat
/- Plans in the laws: their size, copies, equality, marks. -/
namespace Go.Proofs.YtpcmapfabndggaaGreat
open Go
open Enc (rd ow)
open Arg (argv)
open Ret (retv)
open Wf (wf)
structure Sp (x:Plan):Prop where
 cars:x.fV.length≤1048576
 units:∀ c∈x.fV,c.f0.length≤1048576
 all:Q2b x.fV≤1048576
 spots:x.fT.length≤1048576
end Go.Proofs.YtpcmapfabndggaaGreat
/- PlanOk, by spec and by impl. -/
namespace Go.Proofs.YtpcmapfabndggaaGreat
open Go
open Enc (rd ow)
open Arg (argv)
open Ret (retv)
open Wf (wf)
def Jeu:List Int→List Int→Bool
 | _,[]=>true
 | pre,x::xs=>inb x 0 999&&((match pre.getLast? with | none=>true | some y=>decide (y<x))&&Jeu (pre++[x]) xs)
def Jht (l:List Int):Bool:=Jeu [] l&&decide ((l.length:Int)≤100)
def Jgg (c:Carton):Bool:=inb c.qJ 0 999&&(inb c.fF 0 3&&Jht c.f0)
def Jgm (s:Spot):Bool:=inb s.fJ 0 2000&&(inb s.fX 0 2000&&(inb s.fY 0 2000&&inb s.fZ 0 2000))
def Q7z (x:Plan):Bool:=x.fT.length==x.fV.length&&(decide ((x.fV.length:Int)≤100)&&(x.fV.zip x.fT).all λp=>Jgg p.1&&Jgm p.2)
theorem Jen {pre:List Int} {x:Int} {xs l:List Int} (hl:l.length≤1048576) (e:l=pre++x::xs):(pre.getLast? = none∧pre.length=0)∨∃ y,pre.getLast? = some y∧0<pre.length∧ix l (w64 ((pre.length:Int) - 1))=some y:=by
 cases hp:pre.getLast? with
 | none=>exact .inl ⟨rfl,by simpa using List.getLast?_eq_none_iff.1 hp⟩
 | some y =>
  have hne:pre≠[]:=λe=>by subst e; simp at hp
  have hpos:0<pre.length:=List.length_pos_iff.2 hne
  refine .inr ⟨y,rfl,hpos,?_⟩
  have h1:w64 ((pre.length:Int) - 1)=((pre.length - 1:Nat):Int):=by
   have:pre.length≤l.length:=by rw [e]; simp
   rw [Qa4 (by omega) (by omega)]; omega
  rw [h1,Qix,e,List.getElem?_append_left (by omega),← List.getLast?_eq_getElem?,hp]
theorem Jkb {fu:Nat} {l:List Int} (hl:l.length≤1048576) (hf:l.length<fu):Qks fu l=some (Jht l):=by
 unfold Qks Jht
 have key:=lpP l (λn (_:Unit) i=>Qd7 fu l n i) (λpre xs _=>some (Jeu pre xs&&decide ((l.length:Int)≤100))) (by omega) ?_ ?_ fu () hf
 · exact key
 · intro n _ pre x xs e hx hd ih
   have ih:=ih ()
   simp only [Qd7.eq_2]
   unfold Qip Qhv Jeu
   rw [hd,cond_true,hx,Qab,Q43,Qab]
   cases inb x 0 999
   · rfl
   · rw [Bool.not_true,cond_false,Bool.true_and]
     rcases Jen (hl:=hl) e with ⟨h1,h2⟩ | ⟨y,h1,h2,h3⟩
     · rw [h1,show decide ((pre.length:Int)>0)=false from decide_eq_false (by omega),cond_false,ih]
       simp
     · rw [h1,show decide ((pre.length:Int)>0)=true from decide_eq_true (by omega),cond_true,h3,Qab,ih]
       by_cases hy:y<x
       · rw [show decide (y≥x)=false by simp; omega,cond_false]; simp [hy]
       · rw [show decide (y≥x)=true by simp; omega,cond_true]; simp [hy]
 · intro n _ hd
   simp only [Qd7.eq_2]
   unfold Qip
   rw [hd,cond_false]
   simp [Jeu]
theorem Q6m {α β:Type} {a:List α} {b:List β} {i:Int} {p:α×β} (h:ix (a.zip b) i=some p):ix a i=some p.1∧ix b i=some p.2:=by
 obtain ⟨h0,_,h1⟩:=Qaj h
 have:=List.getElem?_zip_eq_some.1 h1
 unfold ix
 rw [if_pos h0,if_pos h0]
 exact this
theorem Ji6 {fu:Nat} {x:Plan} (h:Sp x) (hf:1048577≤fu):Qqy fu x=some (Q7z x):=by
 have hs:=h.spots
 have hc:=h.cars
 unfold Qqy Q7z
 cases he:x.fT.length==x.fV.length
 · have:((x.fT.length:Int) != (x.fV.length:Int))=true:=by simp at he ⊢; omega
   rw [this]; rfl
 · have el:x.fT.length=x.fV.length:=by simpa using he
   have:((x.fT.length:Int) != (x.fV.length:Int))=false:=by simp; omega
   rw [this,cond_false,Bool.true_and]
   by_cases h1:(x.fV.length:Int)≤100
   · rw [show decide ((x.fV.length:Int)>100)=false by simp; omega,cond_false,show decide ((x.fV.length:Int)≤100)=true by simpa using h1,Bool.true_and]
     unfold Qqf
     have hz:(x.fV.zip x.fT).length=x.fV.length:=by simp; omega
     have key:=lp (x.fV.zip x.fT) (λn (_:Unit) i=>Qgp fu x n i) (λl _=>some (l.all λp=>Jgg p.1&&Jgm p.2)) (by omega) ?_ ?_ fu () (by omega)
     · exact key
     · intro n _ i p xs hx hd ih
       have ih:=ih ()
       obtain ⟨e1,e2⟩:=Q6m hx
       have hu:=h.units p.1 (Qfe e1)
       rw [hz] at hd
       simp only [Qgp.eq_2]
       unfold Qni Qqg
       simp only [hd,cond_true,e1,e2,Qab,Q43,Jkb hu (show p.1.f0.length<fu by omega),Q5f,ih,List.all_cons]
       unfold Jgg Jgm
       cases inb p.1.qJ 0 999 <;> cases inb p.1.fF 0 3 <;> cases Jht p.1.f0 <;> cases inb p.2.fJ 0 2000 <;> cases inb p.2.fX 0 2000 <;> cases inb p.2.fY 0 2000 <;> cases inb p.2.fZ 0 2000 <;> rfl
     · intro n _ i hd
       rw [hz] at hd
       simp only [Qgp.eq_2]
       unfold Qni
       simp [hd]
   · rw [show decide ((x.fV.length:Int)>100)=true by simp; omega,cond_true,show decide ((x.fV.length:Int)≤100)=false by simpa using h1,Bool.false_and]
end Go.Proofs.YtpcmapfabndggaaGreat
/- OnPallet and PalletGram, by spec and by impl. -/
namespace Go.Proofs.YtpcmapfabndggaaGreat
open Go
open Enc (rd ow)
open Arg (argv)
open Ret (retv)
open Wf (wf)
def onL (k:Int):Int→List Spot→List Int
 | _,[]=>[]
 | i,s::l=>bif s.fJ==k then i::onL k (i+1) l else onL k (i+1) l
def onM (x:Plan) (k:Int):List Int:=bif x.fT.length==x.fV.length then onL k 0 x.fT else []
theorem Q8u (k:Int):∀ (l:List Spot) (a i:Int),i∈onL k a l↔∃ (j:Nat) (s:Spot),l[j]? = some s∧i=a+j∧s.fJ=k
 | [],a,i=>by simp [onL]
 | s::l,a,i=>by
  have ih:=Q8u k l (a+1) i
  constructor
  · intro h
    unfold onL at h
    cases hk:s.fJ==k
    · rw [hk,cond_false] at h
      obtain ⟨j,t,h1,h2,h3⟩:=ih.1 h
      exact ⟨j+1,t,by simpa using h1,by omega,h3⟩
    · rw [hk,cond_true,List.mem_cons] at h
      rcases h with rfl | h
      · exact ⟨0,s,rfl,by omega,by simpa using hk⟩
      · obtain ⟨j,t,h1,h2,h3⟩:=ih.1 h
        exact ⟨j+1,t,by simpa using h1,by omega,h3⟩
  · rintro ⟨j,t,h1,h2,h3⟩
    unfold onL
    cases j with
    | zero =>
     simp only [List.getElem?_cons_zero,Option.some.injEq] at h1
     subst h1
     rw [show (s.fJ==k)=true by simpa using h3,cond_true]
     simp; omega
    | succ j =>
     have:i∈onL k (a+1) l:=ih.2 ⟨j,t,by simpa using h1,by omega,h3⟩
     cases s.fJ==k <;> simp [this]
theorem Q9b (k:Int):∀ (l:List Spot) (a:Int),(onL k a l).length≤l.length
 | [],_=>Nat.le_refl _
 | s::l,a=>by
  have:=Q9b k l (a+1)
  unfold onL
  cases s.fJ==k <;> simp <;> omega
theorem Q91 (x:Plan) (k:Int):(onM x k).length≤x.fT.length:=by
 unfold onM
 cases x.fT.length==x.fV.length
 · simp
 · exact Q9b k _ 0
theorem Q3f {x:Plan} {k i:Int} (h:i∈onM x k):∃ c s,ix x.fV i=some c∧ix x.fT i=some s∧s.fJ=k:=by
 unfold onM at h
 cases he:x.fT.length==x.fV.length
 · rw [he] at h; simp at h
 · rw [he,cond_true] at h
   obtain ⟨j,s,h1,h2,h3⟩:=(Q8u k _ 0 i).1 h
   have hj:=(List.getElem?_eq_some_iff.1 h1).1
   have hl:x.fT.length=x.fV.length:=by simpa using he
   have e:i=(j:Int):=by omega
   subst e
   exact ⟨_,s,Qy2 (by omega),Ja0 h1,h3⟩
theorem Jkd {fu:Nat} {x:Plan} (hl:x.fT.length≤1048576) (hf:x.fT.length<fu) (k:Int):Qko fu x k=some (onM x k):=by
 unfold Qko onM
 cases he:x.fT.length==x.fV.length
 · have:((x.fT.length:Int) != (x.fV.length:Int))=true:=by simp at he ⊢; omega
   rw [this]; rfl
 · have:((x.fT.length:Int) != (x.fV.length:Int))=false:=by simp at he ⊢; omega
   rw [this,cond_false,cond_true]
   have key:=Jge x.fT (λn (o:List Int) i=>Qez fu x k n o i) (λpre xs o=>some (o++onL k pre.length xs)) (λpre xs o=>o.length+xs.length≤1048576) (by omega) ?_ ?_ fu [] (by simp; omega) hf
   · simpa using key
   · intro n o pre s xs e hx hd hI ih
     simp only [List.length_cons] at hI
     simp only [Qez.eq_2]
     unfold Qjl Qiz onL
     rw [hd,cond_true,hx,Qab]
     cases s.fJ==k
     · rw [cond_false,cond_false,ih _ (by omega)]; simp
     · rw [cond_true,cond_true,ap1 (by simp; omega),Qab,ih _ (by simp; omega)]; simp
   · intro n o hd _
     simp only [Qez.eq_2]
     unfold Qjl
     rw [hd,cond_false]; simp [onL]
def Jkq:Carton:=⟨0,0,[]⟩
def Q2r (x:Plan) (i:Int):Carton:=(ix x.fV i).getD Jkq
def pgM (r:Request) (x:Plan) (k:Int):Int:=Qsb ((onM x k).map λi=>Q8a r (Q2r x i))
theorem Jgo (r:Request) (c:Carton) (hl:c.f0.length≤1048576):0≤Q8a r c∧Q8a r c≤104857700000:=by
 unfold Q8a
 cases ht:Qtc r c.qJ with
 | none=>simp
 | some t =>
  cases hc:Qhd r==0
  · simp
  · have h1:=Q9i (by simpa using hc) ht
    have h2:=Q5t r c.f0
    simp only [cond_true]
    omega
theorem Jkt {fu:Nat} {r:Request} (h:Sm fu r) {x:Plan} (hx:Sp x) (k:Int):Qj6 fu r x k=some (pgM r x k):=by
 have hfu:=h.fu
 have h1:=hx.spots
 have h2:=Q91 x k
 unfold Qj6 pgM
 rw [Jkd h1 (by omega),Qab]
 have key:=lpI (onM x k) (λn (s:Int) i=>Qey fu r x (onM x k) n s i) (λl s=>some (s+Qsb (l.map λi=>Q8a r (Q2r x i)))) (λl s=>0≤s∧s+104857700000*l.length≤104857700000*1048576∧∀ i∈l,∃ c,ix x.fV i=some c) (by omega) ?_ ?_ fu 0 ⟨by omega,by omega,λi hi=>?_⟩ (by omega)
 · simpa using key
 · intro n s i j xs hj hd hI ih
   obtain ⟨c,hc⟩:=hI.2.2 j (by simp)
   have hcu:=hx.units c (Qfe hc)
   have hg:=Jgo r c hcu
   have hI2:=hI.2.1
   simp only [List.length_cons] at hI2
   simp only [Qey.eq_2]
   unfold Qim
   rw [hd,cond_true,hj,Qab,hc,Qab,Q9r h c hcu,Qab,Qa4 (by omega) (by omega),ih _ ⟨by omega,by omega,λi hi=>hI.2.2 i (by simp [hi])⟩]
   simp only [List.map_cons,Qfr,Q2r,hc,Option.getD_some]
   congr 1
   omega
 · intro n s i hd _
   simp only [Qey.eq_2]
   unfold Qim
   rw [hd,cond_false]; simp
 · obtain ⟨c,_,hc,_⟩:=Q3f hi
   exact ⟨c,hc⟩
end Go.Proofs.YtpcmapfabndggaaGreat
/- Lost of spec and of impl. -/
namespace Go.Proofs.YtpcmapfabndggaaGreat
open Go
open Enc (rd ow)
open Arg (argv)
open Ret (retv)
open Wf (wf)
def Qtd (l:List Carton):List Int:=(l.map (·.f0)).flatten
theorem Q4i (l:List Carton):(Qtd l).length=Q2b l:=by
 induction l with
 | nil=>rfl
 | cons c l ih =>
  have e:Qtd (c::l)=c.f0++Qtd l:=rfl
  rw [e,List.length_append,ih]; rfl
theorem Jha {fu:Nat} {x:Plan} (h:Sp x) (hf:1048577≤fu):Qof fu x=some (Qtd x.fV):=by
 have hc:=h.cars
 have hl:=Q4i x.fV
 have ha:=h.all
 unfold Qof
 have:=lpI x.fV (λn out i=>Qgf fu x n out i) (λxs out=>some (out++Qtd xs)) (λxs out=>out.length+(Qtd xs).length≤1048576) (by omega) ?_ ?_ fu [] (by simp; omega) (by omega)
 · simpa using this
 · intro n out i c xs hx hd hI ih
   have e:Qtd (c::xs)=c.f0++Qtd xs:=rfl
   rw [e,List.length_append] at hI
   simp only [Qgf.eq_2]
   unfold Qjv
   rw [hd,cond_true,hx,Qab,ap1 (by omega),Qab,ih _ (by simp; omega),e]
   simp
 · intro n out i hd hI
   simp only [Qgf.eq_2]
   unfold Qjv
   simp only [hd,cond_false]
   simp [Qtd]
end Go.Proofs.YtpcmapfabndggaaGreat
/- Mixes of spec and of impl. -/
namespace Go.Proofs.YtpcmapfabndggaaGreat
open Go
open Enc (rd ow)
open Arg (argv)
open Ret (retv)
open Wf (wf)
end Go.Proofs.YtpcmapfabndggaaGreat
/- Check, by spec and by impl. -/
namespace Go.Proofs.YtpcmapfabndggaaGreat
open Go
open Enc (rd ow)
open Arg (argv)
open Ret (retv)
open Wf (wf)
theorem Jcz {fu:Nat} {l:List Carton} (f:Carton→Option Bool) (g:Carton→Bool) (hg:∀ x∈l,f x=some (g x)) (hl:l.length≤1048576) (hf:l.length<fu):Qbx fu l f=some (Qxj g l 0):=by
 unfold Qbx
 refine Qth l (λn i=>Qax fu l f n i) g (by omega) ?_ ?_ fu hf
 · intro n i x hx hd
   simp only [Qax.eq_2]
   unfold Qb2
   simp only [hd,cond_true,hx,Qab,hg x (Qfe hx)]
 · intro n i hd
   simp only [Qax.eq_2]
   unfold Qb2
   simp only [hd,cond_false]
theorem Jb0 {fu:Nat} {l:List Carton} (f:Carton→Option Bool) (g:Carton→Bool) (hg:∀ x∈l,f x=some (g x)) (hl:l.length≤1048576) (hf:l.length<fu):Qbl fu l f=some (l.any g):=by
 unfold Qbl
 rw [Jcz f g hg hl hf,Qab,Qti g l 0 (by omega)]
def Jfy (x:Plan):Bool:=x.fV.any λc=>(c.f0.length:Int)==0
def Q5i (r:Request) (x:Plan):Bool:=Jii (Qtd x.fV) (Qf2 0 (Qje r).length)
theorem Q3a {r:Request} {x:Plan}:Q5i r x=true↔(Qtd x.fV).Perm (Qf2 0 (Qje r).length):=Jb9
theorem Q5h (a:Int) (n:Nat):(Qf2 a n).mergeSort (λx y=>decide (x≤y))=Qf2 a n :=
 List.mergeSort_of_pairwise ((Qt5 a n).imp λh=>by simpa using (show _≤_ by omega))
def chB (r:Request) (c:Carton):Bool:=match Qtc r c.qJ with | some t=>Qyx r c.f0 t | none=>false
def cgB (r:Request) (c:Carton):Bool:=c.f0.all λu=>Jh1 (Qhr r) (Qua r u).fM==c.fF
def ccB (r:Request) (c:Carton):Bool:=(Qvs r c.f0).2&&(Qvs r c.f0).1.qQ==c.qJ
def cs (x:Plan):List (Carton×Spot):=x.fV.zip x.fT
def Q8e (r:Request) (p:Carton×Spot):Bool:=Jdh r.fJ (Qse r p.1) p.2
def ovP (r:Request) (p q:Carton×Spot):Bool:=Jgb (Qse r p.1) p.2 (Qse r q.1) q.2
def Q8d (r:Request):List (Carton×Spot)→List (Carton×Spot)→Bool
 | _,[]=>true
 | pre,p::l=>pre.all (λq=>!ovP r p q)&&Q8d r (pre++[p]) l
theorem Jh4 {x:Plan} (el:x.fT.length=x.fV.length):(cs x).length=x.fV.length:=by simp [cs]; omega
def plB (r:Request) (x:Plan) (k:Int):Bool :=
 !(((onM x k).length:Int)==0)&&(!(decide (pgM r x k>r.fJ.fQ))&&(onM x k).all λi=>(Q2r x i).fF==(Q2r x (ix (onM x k) 0 |>.getD 0)).fF)
theorem Ja5 {x:Plan} {k:Int} (hne:(((onM x k).length:Int)==0)=false):∃ i0 c0,ix (onM x k) 0=some i0∧ix x.fV i0=some c0∧∃ rest,onM x k=i0::rest:=by
 cases hl:onM x k with
 | nil=>simp [hl] at hne
 | cons i0 rest =>
  obtain ⟨c0,_,h1,_⟩:=Q3f (show i0∈onM x k by rw [hl]; simp)
  exact ⟨i0,c0,rfl,h1,rest,rfl⟩
def Jdn (r:Request) (x:Plan):Int :=
 bif !(Qhd r==0) then 1 else bif !(Q7z x) then 2 else bif Jfy x then 2 else bif !(Q5i r x) then 3 else bif !(x.fV.all (chB r)) then 4 else
 bif !(x.fV.all (cgB r)) then 5 else bif !(x.fV.all (ccB r)) then 6 else bif !((cs x).all (Q8e r)) then 7 else bif !(Q8d r [] (cs x)) then 8 else
 bif !((Qf2 0 (Qxk x.fT).toNat).all (plB r x)) then 9 else 0
theorem Q5s {x:Plan} (h:Q7z x=true):x.fT.length=x.fV.length:=by
 unfold Q7z at h
 simp only [Bool.and_eq_true] at h
 simpa using h.1
end Go.Proofs.YtpcmapfabndggaaGreat
/- Check, by impl. -/
namespace Go.Proofs.YtpcmapfabndggaaGreat
open Go
open Enc (rd ow)
open Arg (argv)
open Ret (retv)
open Wf (wf)
theorem Jf6 {r:Request} {id:Int} {t:Typ} (h:Qtc r id=some t):t∈r.fR:=List.mem_of_find?_eq_some h
theorem Q87 (r:Request) (us:List Int):∀ (l:List Typ) (s:Typ×Bool),(l.foldl (chp r us) s).2=(s.2||l.any (Qyx r us))
 | [],s=>by simp
 | t::l,s=>by
  rw [List.foldl_cons,Q87 r us l,List.any_cons]
  unfold chp
  obtain ⟨b,f⟩:=s
  cases Qyx r us t <;> cases f <;> simp
  cases (decide (t.fK<b.fK)||t.fK==b.fK&&decide (t.qQ<b.qQ)) <;> simp
theorem Q58 {r:Request} {us:List Int} {t:Typ} (ht:t∈r.fR) (h:Qyx r us t=true):(Qvs r us).2=true:=by
 unfold Qvs
 rw [Q87]
 simp only [Bool.false_or]
 exact List.any_eq_true.2 ⟨t,ht,h⟩
theorem Jjd {r:Request} {c:Carton} (h:chB r c=true):∀ u∈c.f0,0≤u∧u<(Qje r).length:=by
 unfold chB at h
 intro u hu
 split at h
 · simp only [Qyx,Bool.and_eq_true] at h
   have:=List.all_eq_true.1 h.2.1 u hu
   simp only [uOk,Bool.and_eq_true] at this
   exact Qxi.1 this.1
 · cases h
theorem Q83 {r:Request} {u:Int} (hu:0≤u∧u<(Qje r).length) {g:Int} (hg:0≤g) :
    (Jh1 (Qhr r) (Qua r u).fM==g)=(match ix (Qhr r) g with | some l=>l.contains (Qua r u).fM | none=>false):=by
 have hi:=Quo hu
 obtain ⟨i,l,h1,h2,h3⟩:=Jbc (Ja1 hi)
 rw [h3]
 apply Bool.eq_iff_iff.2
 constructor
 · intro h
   have e:(i:Int)=g:=by simpa using h
   rw [← e,Ja0 h1]
   simpa using h2
 · intro h
   cases hx:ix (Qhr r) g with
   | none=>rw [hx] at h; cases h
   | some m =>
    rw [hx] at h
    obtain ⟨g0,g1,g2⟩:=Qaj hx
    have:=Qzr h1 g2 h2 (by simpa using h)
    simp; omega
theorem Jf7 {fu:Nat} {r:Request} (h:Sm fu r) {x:Plan} (hx:Sp x) (hg:∀ c∈x.fV,0≤c.fF):Qja fu r x =
    some (bif !(x.fV.all (chB r)) then 4 else bif !(x.fV.all (cgB r)) then 5 else bif !(x.fV.all (ccB r)) then 6 else 0):=by
 have hfu:=h.fu
 have hc:=hx.cars
 unfold Qja
 have key:=lpI x.fV (λn (_:Unit) i=>Qdm fu r x n i) (λl _=>some (bif !(l.all (chB r)) then 4 else bif !(x.fV.all (cgB r)) then 5 else bif !(x.fV.all (ccB r)) then 6 else 0))
  (λl _=>l.all (chB r)=true→x.fV.all (chB r)=true) (by omega) ?_ ?_ fu () (λh=>h) (by omega)
 · exact key
 · intro n _ i c xs e hd hI ih
   have hu:=hx.units c (Qfe e)
   simp only [Qdm.eq_2]
   unfold Qhy Qi6
   rw [hd,cond_true,e,Qab,Qwi h,Qab,List.all_cons]
   rw [List.all_cons] at hI
   cases ht:Qtc r c.qJ with
   | none=>rw [show chB r c=false by unfold chB; rw [ht]]; rfl
   | some t =>
    simp only [Qyf,Bool.not_true,cond_false]
    rw [Jau h _ t hu,Qab]
    have e1:chB r c=Qyx r c.f0 t:=by unfold chB; rw [ht]
    rw [e1] at hI ⊢
    cases hh:Qyx r c.f0 t
    · rfl
    · rw [hh,Bool.true_and] at hI
      rw [Bool.not_true,cond_false,ih () hI,Bool.true_and]
 · intro n _ i hd hI
   have hA:=hI rfl
   simp only [Qdm.eq_2]
   unfold Qhy
   rw [hd,cond_false,Jcy h,Qab]
   show _=some (bif !(x.fV.all (cgB r)) then 5 else bif !(x.fV.all (ccB r)) then 6 else 0)
   have key2:=lp x.fV (λn (_:Unit) i=>Qek fu r x (Qhr r) n i) (λl _=>some (bif !(l.all (cgB r)) then 5 else bif !(x.fV.all (ccB r)) then 6 else 0)) (by omega) ?_ ?_ fu () (by omega)
   · exact key2
   · intro n _ i c xs e hd ih
     have ih:=ih ()
     have hu:=hx.units c (Qfe e)
     have hin:=Jjd (List.all_eq_true.1 hA c (Qfe e))
     have hil:=Qwk r c.f0
     simp only [Qek.eq_2]
     unfold Qhx
     rw [hd,cond_true,e,Qab,Q3e h _ hu (by omega),Qab,Q3o hin]
     rw [Qwh _ (λy=>!(match ix (Qhr r) c.fF with | some l=>l.contains y.fM | none=>false)) ?_ (by simp; omega) (by simp; omega),Qab,List.any_map,List.all_cons]
     · have e1:cgB r c=!(c.f0.any ((λy=>!(match ix (Qhr r) c.fF with | some l=>l.contains y.fM | none=>false)) ∘ Qua r)):=by
         unfold cgB
         rw [List.not_any_eq_all_not]
         apply Q20
         intro u hu'
         rw [Q83 (hin u hu') (hg c (Qfe e))]
         simp only [Function.comp,Bool.not_not]
       rw [e1,ih]
       cases c.f0.any ((λy=>!(match ix (Qhr r) c.fF with | some l=>l.contains y.fM | none=>false)) ∘ Qua r) <;> simp
     · intro y _
       unfold Qj5
       have hg0:=hg c (Qfe e)
       by_cases hgl:c.fF≥(Qhr r).length
       · have e0:ix (Qhr r) c.fF=none:=by
           cases hq:ix (Qhr r) c.fF with
           | none=>rfl
           | some l=>have:=(Qaj hq).2.1; omega
         rw [e0,decide_eq_true hgl,cond_true]; rfl
       · have hlt:c.fF.toNat<(Qhr r).length:=by omega
         have e0:ix (Qhr r) c.fF=some (Qhr r)[c.fF.toNat]:=by
          have:=Qy2 hlt
          rwa [show ((c.fF.toNat:Nat):Int)=c.fF by omega] at this
         have hgl':=(Qtk r).2 _ (List.getElem_mem hlt)
         rw [e0,decide_eq_false hgl,cond_false,Qab,Jib (by omega) (by omega),Qab]
   · intro n _ i hd
     simp only [Qek.eq_2]
     unfold Qhx
     rw [hd,cond_false]
     show _=some (bif !(x.fV.all (ccB r)) then 6 else 0)
     have key3:=lpI x.fV (λn (_:Unit) i=>Qeh fu r x n i) (λl _=>some (bif !(l.all (ccB r)) then 6 else 0)) (λl _=>l.all (chB r)=true) (by omega) ?_ ?_ fu () hA (by omega)
     · exact key3
     · intro n _ i c xs e hd hI ih
       have hu:=hx.units c (Qfe e)
       rw [List.all_cons,Bool.and_eq_true] at hI
       have hch:=hI.1
       have h2:(Qvs r c.f0).2=true:=by
        unfold chB at hch
        split at hch
        · rename_i t ht
          exact Q58 (Jf6 ht) hch
        · cases hch
       simp only [Qeh.eq_2]
       unfold Qh4
       rw [hd,cond_true,e,Qab,Jan h _ hu,Qab,ih () hI.2,List.all_cons,ccB,h2,Bool.true_and]
       simp only [bne]
       cases (Qvs r c.f0).1.qQ==c.qJ <;> rfl
     · intro n _ i hd _
       simp only [Qeh.eq_2]
       unfold Qh4
       rw [hd,cond_false]; rfl
theorem Jet {fu:Nat} {r:Request} (h:Sm fu r) {x:Plan} (hx:Sp x) (el:x.fT.length=x.fV.length):Qmp fu r x =
    some (bif !((cs x).all (Q8e r)) then 7 else bif !(Q8d r [] (cs x)) then 8 else bif !((Qf2 0 (Qxk x.fT).toNat).all (plB r x)) then 9 else 0):=by
 have hfu:=h.fu
 have hc:=hx.cars
 have hs:=hx.spots
 have hz:=Jh4 el
 have hb:=Q5a x.fT
 have bx_len:(((cs x).map λp=>Qse r p.1).length:Int)=x.fV.length:=by simp [hz]
 unfold Qmp
 have key:=Jge (cs x) (λn (o:List Box) i=>Qfk fu r x n o i) (λ_ l _=>some (bif !(l.all (Q8e r)) then 7 else bif !(Q8d r [] (cs x)) then 8 else bif !((Qf2 0 (Qxk x.fT).toNat).all (plB r x)) then 9 else 0))
  (λpre l o=>o=pre.map λp=>Qse r p.1) (by omega) ?_ ?_ fu [] rfl (by omega)
 · exact key
 · intro n o pre p xs e0 e hd hI ih
   obtain ⟨e1,e2⟩:=Q6m e
   have hu:=hx.units p.1 (Qfe e1)
   have hpl:pre.length≤(cs x).length:=by rw [e0]; simp
   rw [hz] at hd
   simp only [Qfk.eq_2]
   unfold Qi0
   rw [hd,cond_true,e1,Qab,Jdb h _ hu,Qab,e2,Qab,Jj2,Qab,List.all_cons,Q8e]
   cases Jdh r.fJ (Qse r p.1) p.2
   · rfl
   · subst hI
     rw [Bool.not_true,cond_false,ap1 (by simp; omega),Qab,ih _ (by simp),Bool.true_and]
 · intro n o hd hI
   rw [hz] at hd ⊢
   simp only [Qfk.eq_2]
   unfold Qi0
   rw [hd,cond_false]
   show _=some (bif !(Q8d r [] (cs x)) then 8 else bif !((Qf2 0 (Qxk x.fT).toNat).all (plB r x)) then 9 else 0)
   subst hI
   have key2:=lpP (cs x) (λn (_:Unit) i=>Qdq fu r x ((cs x).map λp=>Qse r p.1) n i) (λpre l _=>some (bif !(Q8d r pre l) then 8 else bif !((Qf2 0 (Qxk x.fT).toNat).all (plB r x)) then 9 else 0)) (by omega) ?_ ?_ fu () (by omega)
   · exact key2
   · intro n _ pre p xs e0 e hd ih
     have ih:=ih ()
     obtain ⟨e1,e2⟩:=Q6m e
     have hu:=hx.units p.1 (Qfe e1)
     have hpl:pre.length≤(cs x).length:=by rw [e0]; simp
     have b1:ix ((cs x).map λp=>Qse r p.1) (pre.length:Int)=some (Qse r p.1):=by
      rw [Qix,List.getElem?_map]
      rw [Qix] at e
      rw [e]; rfl
     simp only [Qdq.eq_2]
     unfold Qi5
     rw [bx_len,← hz,hd,cond_true]
     have key3:=lp pre (λm (_:Unit) j=>Qfi fu (Qdq fu r x ((cs x).map λp=>Qse r p.1) n) x ((cs x).map λp=>Qse r p.1) (pre.length:Int) m j) (λl _=>some (bif !(l.all (λq=>!ovP r p q)&&Q8d r (pre++[p]) xs) then 8 else bif !((Qf2 0 (Qxk x.fT).toNat).all (plB r x)) then 9 else 0)) (by omega) ?_ ?_ fu () (by omega)
     · rw [key3]; rfl
     · intro m _ j q qs f hd2 ih2
       have ih2:=ih2 ()
       have f':ix (cs x) j=some q:=by rw [e0]; exact Q99 f
       obtain ⟨f1,f2⟩:=Q6m f'
       obtain ⟨j0,j1,j2⟩:=Qaj f'
       have b2:ix ((cs x).map λp=>Qse r p.1) j=some (Qse r q.1):=by
        unfold ix
        rw [if_pos j0,List.getElem?_map,j2]; rfl
       simp only [Qfi.eq_2]
       unfold Qi3
       simp only [hd2,cond_true,b1,e2,b2,f2,Qab,Jje,ih2,List.all_cons,ovP]
       cases Jgb (Qse r p.1) p.2 (Qse r q.1) q.2 <;> rfl
     · intro m _ j hd2
       simp only [Qfi.eq_2]
       unfold Qi3
       rw [hd2,cond_false,ih]; rfl
   · intro n _ hd
     simp only [Qdq.eq_2]
     unfold Qi5
     rw [bx_len,← hz,hd,cond_false,Q9j hs (by omega),Qab]
     show _=some (bif !((Qf2 0 (Qxk x.fT).toNat).all (plB r x)) then 9 else 0)
     have key4:=lpN (Qxk x.fT) (λn (_:Unit) i=>Qdp fu r x (Qxk x.fT) n i) (λl _=>some (bif !(l.all (plB r x)) then 9 else 0)) (by omega) ?_ ?_ (Qxk x.fT).toNat fu () 0 (by omega) (by omega) (by omega)
     · exact key4
     · intro n _ k xs h0 h1 hd ih
       have ih:=ih ()
       have hol:=Q91 x k
       simp only [Qdp.eq_2]
       unfold Qi1
       rw [hd,cond_true,Jkd hs (by omega),Qab,List.all_cons]
       generalize xs.all (plB r x)=A at ih ⊢
       unfold plB
       cases hne:((onM x k).length:Int)==0
       · rw [cond_false,Jkt h hx,Qab,Bool.not_false,Bool.true_and]
         cases decide (pgM r x k>r.fJ.fQ)
         · obtain ⟨i0,c0,g1,g2,rest,g3⟩:=Ja5 hne
           unfold Ql1 Qlk
           rw [cond_false,g1,Option.getD_some,Bool.not_false,Bool.true_and]
           have e0:Q2r x i0=c0:=by unfold Q2r; rw [g2]; rfl
           rw [e0,Q7a _ (λi=>!((Q2r x i).fF==c0.fF)) ?_ (by omega) (by omega),Qab,ih]
           · rw [show (onM x k).all (λi=>(Q2r x i).fF==c0.fF)=!((onM x k).any λi=>!((Q2r x i).fF==c0.fF)) by rw [List.not_any_eq_all_not]; simp]
             cases (onM x k).any λi=>!((Q2r x i).fF==c0.fF) <;> simp
           · intro i hi
             obtain ⟨c,_,hci,_⟩:=Q3f hi
             unfold Qm7
             rw [hci,Qab,g1,Qab,g2,Qab,show Q2r x i=c by unfold Q2r; rw [hci]; rfl]
             rfl
         · rfl
       · rfl
     · intro n _ i hd
       simp only [Qdp.eq_2]
       unfold Qi1
       rw [hd,cond_false]; rfl
theorem Jbi {x:Plan} (h:Q7z x=true):∀ c∈x.fV,0≤c.fF∧c.fF≤3:=by
 have el:=Q5s h
 unfold Q7z at h
 simp only [Bool.and_eq_true] at h
 intro c hc
 obtain ⟨i,hi⟩:=List.mem_iff_getElem?.1 hc
 have hlt:=(List.getElem?_eq_some_iff.1 hi).1
 have hz:(c,x.fT[i]'(by omega))∈x.fV.zip x.fT:=by
  apply List.mem_iff_getElem?.2
  refine ⟨i,List.getElem?_zip_eq_some.2 ⟨hi,List.getElem?_eq_getElem _⟩⟩
 have:=List.all_eq_true.1 h.2.2 _ hz
 simp only [Jgg,Bool.and_eq_true,Qco] at this
 omega
theorem Jai {fu:Nat} {r:Request} (h:Sm fu r) {x:Plan} (hx:Sp x):Qqt fu r x=some (Jdn r x):=by
 have hfu:=h.fu
 have hc:=hx.cars
 have hfl:=Q4i x.fV
 have ha:=hx.all
 have hul:=Qws r
 unfold Qqt Jdn
 rw [Qtw h,Qab]
 cases hz:Qhd r==0
 · rfl
 · rw [Bool.not_true,cond_false,Ji6 hx (by omega),Qab]
   cases hp:Q7z x
   · rfl
   · have el:=Q5s hp
     rw [Bool.not_true,cond_false,Jb0 (l:=x.fV) (λy=>Qsc fu y) (λc=>(c.f0.length:Int)==0) (λc _=>rfl) hc (by omega),Qab]
     show (bif Jfy x then _ else _)=_
     cases Jfy x
     · rw [cond_false]
       unfold Qq4 Qck
       rw [Jha hx (by omega),Qab,Q16 (by omega),Qab,Jcs h,Qab,Q6x _ (by omega) (by omega),Qab,Je0 _ _ (by simp; omega) (by simp; omega),Qab,Jf7 h hx (λc hc=>(Jbi hp c hc).1),Qab,Jet h hx el,Qab]
       have e1:decide ((Qtd x.fV).mergeSort (λx y=>decide (x≤y))=Qf2 0 (Qje r).length)=Q5i r x:=by
        unfold Q5i Jii
        rw [Q5h]
       rw [e1]
       cases Q5i r x
       · rfl
       · cases x.fV.all (chB r)
         · rfl
         · cases x.fV.all (cgB r)
           · rfl
           · cases x.fV.all (ccB r) <;> rfl
     · rfl
end Go.Proofs.YtpcmapfabndggaaGreat
