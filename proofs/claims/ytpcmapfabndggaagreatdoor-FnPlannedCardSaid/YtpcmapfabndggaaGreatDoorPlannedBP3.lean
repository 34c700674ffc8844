/- PlannedBP: plain lem.. -/
import Derived.Test.YtpcmapfabndggaaGreatDoorPlannedBP2
set_option linter.unusedSimpArgs false
set_option linter.unusedVariables false
namespace Go.Proofs.YtpcmapfabndggaaGreatDoor
open Go
open Enc (rd ow)
open Arg (argv)
open Ret (retv)
open Wf (wf)
def okL (p:Pallet) (d h g:Int):Bool:=inb d 1 p.fD&&(inb h 1 p.fH&&inb g 1 p.fQ)
theorem Ji5 (fu:Nat) (p:Pallet) (d h g:Int):Qrd fu p d h g=some (okL p d h g):=by
 unfold Qrd okL
 simp only [Q3r,Qab]
 cases inb d 1 p.fD <;> cases inb h 1 p.fH <;> rfl
theorem Jkb {fu:Nat} (p:Pallet) (l:List Shelf) (hl:l.length≤1048576) (hf:l.length<fu):Qm1 fu p l=some (Qv7 p&&l.all λs=>okL p s.fD s.fH s.fQ):=by
 unfold Qm1
 rw [Jdi,Qab]
 cases Qv7 p
 · rfl
 · rw [Bool.not_true,cond_false,Bool.true_and]
   have:=Jgc l (λn i=>Qfl fu p l n i) (λs=>okL p s.fD s.fH s.fQ) (some true) (by omega) ?_ ?_ fu hf
   · rw [this]
     cases l.all λs=>okL p s.fD s.fH s.fQ <;> rfl
   · intro n i x hx hd
     simp only [Qfl.eq_2]
     unfold Qjg
     simp only [hd,cond_true,hx,Qab,Ji5]
     cases okL p x.fD x.fH x.fQ <;> rfl
   · intro n i hd
     simp only [Qfl.eq_2]
     unfold Qjg
     rw [hd,cond_false]
theorem Jkl {fu:Nat} (p:Pallet) (l:List Layer) (hl:l.length≤1048576) (hf:l.length<fu):Qox fu p l=some (Qv7 p&&l.all λs=>okL p s.fD s.fH s.fQ):=by
 unfold Qox
 rw [Jdi,Qab]
 cases Qv7 p
 · rfl
 · rw [Bool.not_true,cond_false,Bool.true_and]
   have:=Jgc l (λn i=>Qgh fu p l n i) (λs=>okL p s.fD s.fH s.fQ) (some true) (by omega) ?_ ?_ fu hf
   · rw [this]
     cases l.all λs=>okL p s.fD s.fH s.fQ <;> rfl
   · intro n i x hx hd
     simp only [Qgh.eq_2]
     unfold Qjt
     simp only [hd,cond_true,hx,Qab,Ji5]
     cases okL p x.fD x.fH x.fQ <;> rfl
   · intro n i hd
     simp only [Qgh.eq_2]
     unfold Qjt
     rw [hd,cond_false]
def shA (l:List Shelf) (i:Int):Shelf:=(ix l i).getD zSh
def zLy:Layer:=⟨[],0,0,0⟩
def Qsm (x:Layer) (i:Int) (s:Shelf):Layer:=⟨x.fE++[i],x.fD+s.fD,mxI x.fH s.fH,x.fQ+s.fQ⟩
def Q8p (p:Pallet) (s:Shelf) (x:Layer):Bool:=decide (x.fD+s.fD≤p.fD)&&decide (x.fQ+s.fQ≤p.fQ)
def lyS (p:Pallet) (l:List Shelf) (out:List Layer) (i:Int):List Layer:=nxG (Q8p p (shA l i)) (λs=>Qsm s i (shA l i)) zLy out
def lyM (p:Pallet) (l:List Shelf):List Layer:=(Qf5 0 l.length).foldl (lyS p l) []
structure LyI (p:Pallet) (n:Nat) (s:Layer):Prop where
 ne:s.fE≠[]
 inn:∀ i∈s.fE,0≤i∧i<n
 d:1≤s.fD∧s.fD≤p.fD
 h:1≤s.fH∧s.fH≤p.fH
 g:1≤s.fQ∧s.fQ≤p.fQ
def OkS (p:Pallet) (l:List Shelf):Prop:=∀ s∈l,(1≤s.fD∧s.fD≤p.fD)∧(1≤s.fH∧s.fH≤p.fH)∧(1≤s.fQ∧s.fQ≤p.fQ)
theorem Q5j {p:Pallet} {l:List Shelf} (h:OkS p l) {i:Int} (hi:0≤i∧i<l.length):ix l i=some (shA l i)∧(1≤(shA l i).fD∧(shA l i).fD≤p.fD)∧(1≤(shA l i).fH∧(shA l i).fH≤p.fH)∧(1≤(shA l i).fQ∧(shA l i).fQ≤p.fQ)∧shA l i∈l:=by
 obtain ⟨x,hx⟩:=Q39 (l:=l) hi.1 hi.2
 have e:shA l i=x:=by unfold shA; rw [hx]; rfl
 rw [e]
 exact ⟨hx,(h x (Qgb hx)).1,(h x (Qgb hx)).2.1,(h x (Qgb hx)).2.2,Qgb hx⟩
theorem Q6l {p:Pallet} {l:List Shelf} (hb:OkS p l) {out:List Layer} {i:Int} (hi:0≤i∧i<l.length) (h:∀ s∈out,LyI p l.length s):∀ s∈lyS p l out i,LyI p l.length s:=by
 obtain ⟨_,b1,b2,b3,_⟩:=Q5j hb hi
 refine Qx9 h (λs hs hf=>?_) ⟨by simp [Qsm],λj hj=>?_,?_,?_,?_⟩
 · unfold Q8p at hf
   simp only [Bool.and_eq_true,decide_eq_true_eq] at hf
   obtain ⟨s1,s2,s4,s5,s6⟩:=hs
   have m2:=Qu2 s.fH (shA l i).fH
   refine ⟨by simp [Qsm],λj hj=>?_,?_,?_,?_⟩
   · simp only [Qsm,List.mem_append,List.mem_singleton] at hj
     rcases hj with hj | rfl
     · exact s2 j hj
     · exact hi
   · simp only [Qsm]; omega
   · simp only [Qsm]; omega
   · simp only [Qsm]; omega
 · simp only [Qsm,zLy,List.nil_append,List.mem_singleton] at hj
   rw [hj]; exact hi
 · simp only [Qsm,zLy]; omega
 · have:=Qu2 0 (shA l i).fH
   simp only [Qsm,zLy]; omega
 · simp only [Qsm,zLy]; omega
theorem Ja7 {p:Pallet} {l:List Shelf} (hb:OkS p l):∀ (is:List Int) (out:List Layer),(∀ i∈is,0≤i∧i<l.length)→(∀ s∈out,LyI p l.length s)→(∀ s∈is.foldl (lyS p l) out,LyI p l.length s)∧((is.foldl (lyS p l) out).map (·.fE)).flatten=(out.map (·.fE)).flatten++is∧(is.foldl (lyS p l) out).length≤out.length+is.length
 | [],out,_,h=>⟨h,by simp,by simp⟩
 | i::is,out,hi,h=>by
  rw [List.foldl_cons]
  obtain ⟨h1,h2,h3⟩:=Ja7 hb is (lyS p l out i) (λj hj=>hi j (by simp [hj])) (Q6l hb (hi i (by simp)) h)
  have h4:((lyS p l out i).map (·.fE)).flatten=(out.map (·.fE)).flatten++[i]:=Qtd (λs=>rfl) rfl
  have h5:(lyS p l out i).length≤out.length+1:=Quv _ _ _ _
  refine ⟨h1,by rw [h2,h4]; simp,by simp; omega⟩
theorem Qz6 {p:Pallet} {l:List Shelf} (hb:OkS p l):(∀ s∈lyM p l,LyI p l.length s)∧((lyM p l).map (·.fE)).flatten=Qf5 0 l.length∧(lyM p l).length≤l.length:=by
 unfold lyM
 obtain ⟨h1,h2,h3⟩:=Ja7 hb (Qf5 0 l.length) [] (λi hi=>by have:=Qc6.1 hi; omega) (by simp)
 refine ⟨h1,by simpa using h2,?_⟩
 rw [Qcq] at h3
 simpa using h3
theorem Jio {p:Pallet} {l:List Shelf} (h:OkS p l):(l.all λs=>okL p s.fD s.fH s.fQ)=true:=by
 refine List.all_eq_true.2 λs hs=>?_
 unfold okL
 simp only [Bool.and_eq_true,Qcu]
 exact ⟨(h s hs).1,(h s hs).2.1,(h s hs).2.2⟩
theorem Jd6 {fu:Nat} (hfu:2097153≤fu) {p:Pallet} (hp:Qv7 p=true) {l:List Shelf} (hb:OkS p l) (hl:l.length≤1000):Qor fu p l=some (lyM p l):=by
 unfold Qor lyM
 rw [Jkb p l (by omega) (by omega),hp,Jio hb,Qab,Bool.and_self,Bool.not_true,cond_false]
 obtain ⟨p1,p2,p3,p4⟩:=Qu0 hp
 have L1:=Q81 (l.length:Int) (λn (o:List Layer) i=>Qbr fu p l n o i) (λxs o=>some (xs.foldl (lyS p l) o)) (λxs o=>(∀ s∈o,LyI p l.length s)∧((o.map (·.fE)).flatten).length+xs.length≤1000∧o.length+xs.length≤1000) (by omega) ?_ ?_ l.length fu [] 0 (by omega) (by omega) (by omega) ⟨by simp,by simp [Qcq]; omega,by simp [Qcq]; omega⟩
 · exact L1
 · intro n o i xs x0 x1 hd hI ih
   obtain ⟨i2,i3,i4⟩:=hI
   simp only [List.length_cons] at i3 i4
   obtain ⟨hbx,b1,b2,b3,_⟩:=Q5j hb ⟨x0,x1⟩
   have hflat:((lyS p l o i).map (·.fE)).flatten=(o.map (·.fE)).flatten++[i]:=Qtd (λs=>rfl) rfl
   have hlen:(lyS p l o i).length≤o.length+1:=Quv _ _ _ _
   have ih':=ih (lyS p l o i) ⟨Q6l hb ⟨x0,x1⟩ i2,by rw [hflat,List.length_append,List.length_singleton]; omega,by omega⟩
   have J:∀ (o':List Layer) (x:Layer),o'.length≤1000→(x.fE.length≤1000)→(0≤x.fD∧x.fD≤2000)→(0≤x.fQ∧x.fQ≤100000)→Qdn fu (Qbr fu p l n) i (shA l i) (o'++[x]) ((o'.length:Int)+1)=Qbr fu p l n (o'++[Qsm x i (shA l i)]) (w64 (i+1)):=by
    intro o' x h1 h2 h3 h4
    unfold Qdn Qnv
    have e1:w64 ((o'.length:Int)+1 - 1)=(o'.length:Int):=by rw [Qbe (by omega) (by omega)]; omega
    have e2:ix (o'++[x]) (o'.length:Int)=some x:=by rw [Qi5]; simp
    rw [e1,e2,Qab,ap1 (by simp; omega),Qab,ap1 (by simp; omega),Qab,Jc4,Qab,Qab,Qbe (n:=x.fD+_) (by omega) (by omega),Qbe (n:=x.fQ+_) (by omega) (by omega)]
    have e3:∀ y:Layer,Qg2 (o'++[x]) (o'.length:Int) y=o'++[y]:=by intro y; simp [Qg2]
    rw [e3]
    rfl
   simp only [Qbr.eq_2]
   unfold Qjv
   rw [hd,cond_true,hbx,Qab,List.foldl_cons,← ih']
   by_cases he:o=[]
   · subst he
     rw [Qbj (by simp),ap1 (by simp),Qab]
     have:=J [] zLy (by simp) (by simp [zLy]) (by simp [zLy]) (by simp [zLy])
     rw [Qbe (by simp) (by simp)]
     exact this
   · obtain ⟨s,e1,e2⟩:=Qvi he
     have hpl:=List.length_pos_iff.2 he
     have hsm':=List.mem_of_getLast? e1
     have hs:=i2 s hsm'
     have hsl':=Qsi (λs:Layer=>s.fE) o s hsm'
     obtain ⟨s1,s2,s4,s5,s6⟩:=hs
     have eS:lyS p l o i=bif Q8p p (shA l i) s then o.set (o.length - 1) (Qsm s i (shA l i)) else o++[Qsm zLy i (shA l i)]:=Qv4 e1
     have eo:o=o.dropLast++[s]:=by
      have h1:=List.dropLast_concat_getLast he
      rw [List.getLast?_eq_some_getLast he] at e1
      rw [Option.some.inj e1] at h1
      exact h1.symm
     have e3:Qdn fu (Qbr fu p l n) i (shA l i) o (o.length:Int)=Qbr fu p l n (o.set (o.length - 1) (Qsm s i (shA l i))) (w64 (i+1)):=by
      obtain ⟨d,hd⟩:∃ d,o=d++[s]:=⟨_,eo⟩
      rw [hd] at i4 ⊢
      simp only [List.length_append,List.length_singleton] at i4
      have:=J d s (by omega) (by omega) (by omega) (by omega)
      rw [show (((d++[s]).length:Nat):Int)=(d.length:Int)+1 by simp,this]
      congr 1
      simp
     have e4:Qdn fu (Qbr fu p l n) i (shA l i) (o++[zLy]) (w64 ((o.length:Int)+1))=Qbr fu p l n (o++[Qsm zLy i (shA l i)]) (w64 (i+1)):=by
      rw [Qbe (by omega) (by omega)]
      exact J o zLy (by omega) (by simp [zLy]) (by simp [zLy]) (by simp [zLy])
     rw [Qbe (n:=(o.length:Int) - 1) (by omega) (by omega),e2,Qab,Qaw (by simp; omega),Qab,Qbe (n:=s.fD+_) (by omega) (by omega),Qbe (n:=s.fQ+_) (by omega) (by omega),ap1 (by simp; omega),Qab,e3]
     rw [show (⟨[],0,0,0⟩:Layer)=zLy from rfl,e4,eS]
     unfold Q8p
     by_cases c1:s.fD+(shA l i).fD≤p.fD
     · rw [Qaw (c:=decide (s.fD+(shA l i).fD>p.fD)) (by simp; omega),decide_eq_true c1]
       by_cases c2:s.fQ+(shA l i).fQ≤p.fQ
       · rw [Qaw (c:=decide (s.fQ+(shA l i).fQ>p.fQ)) (by simp; omega),decide_eq_true c2]; rfl
       · rw [Qbj (c:=decide (s.fQ+(shA l i).fQ>p.fQ)) (by simp; omega),decide_eq_false c2]; rfl
     · rw [Qbj (c:=decide (s.fD+(shA l i).fD>p.fD)) (by simp; omega),decide_eq_false c1]; rfl
 · intro n o i hd _
   simp only [Qbr.eq_2]
   unfold Qjv
   rw [hd,cond_false]; rfl
def lyA (l:List Layer) (i:Int):Layer:=(ix l i).getD zLy
def zLd:Load:=⟨[],0,0⟩
def Qtx (x:Load) (i:Int) (s:Layer):Load:=⟨x.f8++[i],x.fH+s.fH,x.fQ+s.fQ⟩
def Q8o (p:Pallet) (s:Layer) (x:Load):Bool:=decide (x.fH+s.fH≤p.fH)&&decide (x.fQ+s.fQ≤p.fQ)
def ldS (p:Pallet) (l:List Layer) (out:List Load) (i:Int):List Load:=nxG (Q8o p (lyA l i)) (λs=>Qtx s i (lyA l i)) zLd out
def ldM (p:Pallet) (l:List Layer):List Load:=(Qf5 0 l.length).foldl (ldS p l) []
structure LdI (p:Pallet) (n:Nat) (s:Load):Prop where
 ne:s.f8≠[]
 inn:∀ i∈s.f8,0≤i∧i<n
 h:1≤s.fH∧s.fH≤p.fH
 g:1≤s.fQ∧s.fQ≤p.fQ
def OkY (p:Pallet) (l:List Layer):Prop:=∀ s∈l,(1≤s.fD∧s.fD≤p.fD)∧(1≤s.fH∧s.fH≤p.fH)∧(1≤s.fQ∧s.fQ≤p.fQ)
theorem Q5m {p:Pallet} {l:List Layer} (h:OkY p l) {i:Int} (hi:0≤i∧i<l.length):ix l i=some (lyA l i)∧(1≤(lyA l i).fD∧(lyA l i).fD≤p.fD)∧(1≤(lyA l i).fH∧(lyA l i).fH≤p.fH)∧(1≤(lyA l i).fQ∧(lyA l i).fQ≤p.fQ)∧lyA l i∈l:=by
 obtain ⟨x,hx⟩:=Q39 (l:=l) hi.1 hi.2
 have e:lyA l i=x:=by unfold lyA; rw [hx]; rfl
 rw [e]
 exact ⟨hx,(h x (Qgb hx)).1,(h x (Qgb hx)).2.1,(h x (Qgb hx)).2.2,Qgb hx⟩
theorem Q6a {p:Pallet} {l:List Layer} (hb:OkY p l) {out:List Load} {i:Int} (hi:0≤i∧i<l.length) (h:∀ s∈out,LdI p l.length s):∀ s∈ldS p l out i,LdI p l.length s:=by
 obtain ⟨_,b1,b2,b3,_⟩:=Q5m hb hi
 refine Qx9 h (λs hs hf=>?_) ⟨by simp [Qtx],λj hj=>?_,?_,?_⟩
 · unfold Q8o at hf
   simp only [Bool.and_eq_true,decide_eq_true_eq] at hf
   obtain ⟨s1,s2,s5,s6⟩:=hs
   refine ⟨by simp [Qtx],λj hj=>?_,?_,?_⟩
   · simp only [Qtx,List.mem_append,List.mem_singleton] at hj
     rcases hj with hj | rfl
     · exact s2 j hj
     · exact hi
   · simp only [Qtx]; omega
   · simp only [Qtx]; omega
 · simp only [Qtx,zLd,List.nil_append,List.mem_singleton] at hj
   rw [hj]; exact hi
 · simp only [Qtx,zLd]; omega
 · simp only [Qtx,zLd]; omega
theorem Ja3 {p:Pallet} {l:List Layer} (hb:OkY p l):∀ (is:List Int) (out:List Load),(∀ i∈is,0≤i∧i<l.length)→(∀ s∈out,LdI p l.length s)→(∀ s∈is.foldl (ldS p l) out,LdI p l.length s)∧((is.foldl (ldS p l) out).map (·.f8)).flatten=(out.map (·.f8)).flatten++is∧(is.foldl (ldS p l) out).length≤out.length+is.length
 | [],out,_,h=>⟨h,by simp,by simp⟩
 | i::is,out,hi,h=>by
  rw [List.foldl_cons]
  obtain ⟨h1,h2,h3⟩:=Ja3 hb is (ldS p l out i) (λj hj=>hi j (by simp [hj])) (Q6a hb (hi i (by simp)) h)
  have h4:((ldS p l out i).map (·.f8)).flatten=(out.map (·.f8)).flatten++[i]:=Qtd (λs=>rfl) rfl
  have h5:(ldS p l out i).length≤out.length+1:=Quv _ _ _ _
  refine ⟨h1,by rw [h2,h4]; simp,by simp; omega⟩
theorem Q4f {p:Pallet} {l:List Layer} (hb:OkY p l):(∀ s∈ldM p l,LdI p l.length s)∧((ldM p l).map (·.f8)).flatten=Qf5 0 l.length∧(ldM p l).length≤l.length:=by
 unfold ldM
 obtain ⟨h1,h2,h3⟩:=Ja3 hb (Qf5 0 l.length) [] (λi hi=>by have:=Qc6.1 hi; omega) (by simp)
 refine ⟨h1,by simpa using h2,?_⟩
 rw [Qcq] at h3
 simpa using h3
theorem Jhz {p:Pallet} {l:List Layer} (h:OkY p l):(l.all λs=>okL p s.fD s.fH s.fQ)=true:=by
 refine List.all_eq_true.2 λs hs=>?_
 unfold okL
 simp only [Bool.and_eq_true,Qcu]
 exact ⟨(h s hs).1,(h s hs).2.1,(h s hs).2.2⟩
theorem Jg0 {fu:Nat} (hfu:2097153≤fu) {p:Pallet} (hp:Qv7 p=true) {l:List Layer} (hb:OkY p l) (hl:l.length≤1000):Qqh fu p l=some (ldM p l):=by
 unfold Qqh ldM
 rw [Jkl p l (by omega) (by omega),hp,Jhz hb,Qab,Bool.and_self,Bool.not_true,cond_false]
 obtain ⟨p1,p2,p3,p4⟩:=Qu0 hp
 have L1:=Q81 (l.length:Int) (λn (o:List Load) i=>Qb0 fu p l n o i) (λxs o=>some (xs.foldl (ldS p l) o)) (λxs o=>(∀ s∈o,LdI p l.length s)∧((o.map (·.f8)).flatten).length+xs.length≤1000∧o.length+xs.length≤1000) (by omega) ?_ ?_ l.length fu [] 0 (by omega) (by omega) (by omega) ⟨by simp,by simp [Qcq]; omega,by simp [Qcq]; omega⟩
 · exact L1
 · intro n o i xs x0 x1 hd hI ih
   obtain ⟨i2,i3,i4⟩:=hI
   simp only [List.length_cons] at i3 i4
   obtain ⟨hbx,b1,b2,b3,_⟩:=Q5m hb ⟨x0,x1⟩
   have hflat:((ldS p l o i).map (·.f8)).flatten=(o.map (·.f8)).flatten++[i]:=Qtd (λs=>rfl) rfl
   have hlen:(ldS p l o i).length≤o.length+1:=Quv _ _ _ _
   have ih':=ih (ldS p l o i) ⟨Q6a hb ⟨x0,x1⟩ i2,by rw [hflat,List.length_append,List.length_singleton]; omega,by omega⟩
   have J:∀ (o':List Load) (x:Load),o'.length≤1000→(x.f8.length≤1000)→(0≤x.fH∧x.fH≤2000)→(0≤x.fQ∧x.fQ≤100000)→Qdx fu (Qb0 fu p l n) i (lyA l i) (o'++[x]) ((o'.length:Int)+1)=Qb0 fu p l n (o'++[Qtx x i (lyA l i)]) (w64 (i+1)):=by
    intro o' x h1 h2 h3 h4
    unfold Qdx Qo1
    have e1:w64 ((o'.length:Int)+1 - 1)=(o'.length:Int):=by rw [Qbe (by omega) (by omega)]; omega
    have e2:ix (o'++[x]) (o'.length:Int)=some x:=by rw [Qi5]; simp
    rw [e1,e2,Qab,ap1 (by simp; omega),Qab,ap1 (by simp; omega),Qab,Qab,Qbe (n:=x.fH+_) (by omega) (by omega),Qbe (n:=x.fQ+_) (by omega) (by omega)]
    have e3:∀ y:Load,Qg2 (o'++[x]) (o'.length:Int) y=o'++[y]:=by intro y; simp [Qg2]
    rw [e3]
    rfl
   simp only [Qb0.eq_2]
   unfold Qlz
   rw [hd,cond_true,hbx,Qab,List.foldl_cons,← ih']
   by_cases he:o=[]
   · subst he
     rw [Qbj (by simp),ap1 (by simp),Qab]
     have:=J [] zLd (by simp) (by simp [zLd]) (by simp [zLd]) (by simp [zLd])
     rw [Qbe (by simp) (by simp)]
     exact this
   · obtain ⟨s,e1,e2⟩:=Qvi he
     have hpl:=List.length_pos_iff.2 he
     have hsm':=List.mem_of_getLast? e1
     have hs:=i2 s hsm'
     have hsl':=Qsi (λs:Load=>s.f8) o s hsm'
     obtain ⟨s1,s2,s5,s6⟩:=hs
     have eS:ldS p l o i=bif Q8o p (lyA l i) s then o.set (o.length - 1) (Qtx s i (lyA l i)) else o++[Qtx zLd i (lyA l i)]:=Qv4 e1
     have eo:o=o.dropLast++[s]:=by
      have h1:=List.dropLast_concat_getLast he
      rw [List.getLast?_eq_some_getLast he] at e1
      rw [Option.some.inj e1] at h1
      exact h1.symm
     have e3:Qdx fu (Qb0 fu p l n) i (lyA l i) o (o.length:Int)=Qb0 fu p l n (o.set (o.length - 1) (Qtx s i (lyA l i))) (w64 (i+1)):=by
      obtain ⟨d,hd⟩:∃ d,o=d++[s]:=⟨_,eo⟩
      rw [hd] at i4 ⊢
      simp only [List.length_append,List.length_singleton] at i4
      have:=J d s (by omega) (by omega) (by omega) (by omega)
      rw [show (((d++[s]).length:Nat):Int)=(d.length:Int)+1 by simp,this]
      congr 1
      simp
     have e4:Qdx fu (Qb0 fu p l n) i (lyA l i) (o++[zLd]) (w64 ((o.length:Int)+1))=Qb0 fu p l n (o++[Qtx zLd i (lyA l i)]) (w64 (i+1)):=by
      rw [Qbe (by omega) (by omega)]
      exact J o zLd (by omega) (by simp [zLd]) (by simp [zLd]) (by simp [zLd])
     rw [Qbe (n:=(o.length:Int) - 1) (by omega) (by omega),e2,Qab,Qaw (by simp; omega),Qab,Qbe (n:=s.fH+_) (by omega) (by omega),Qbe (n:=s.fQ+_) (by omega) (by omega),ap1 (by simp; omega),Qab,e3]
     rw [show (⟨[],0,0⟩:Load)=zLd from rfl,e4,eS]
     unfold Q8o
     by_cases c1:s.fH+(lyA l i).fH≤p.fH
     · rw [Qaw (c:=decide (s.fH+(lyA l i).fH>p.fH)) (by simp; omega),decide_eq_true c1]
       by_cases c2:s.fQ+(lyA l i).fQ≤p.fQ
       · rw [Qaw (c:=decide (s.fQ+(lyA l i).fQ>p.fQ)) (by simp; omega),decide_eq_true c2]; rfl
       · rw [Qbj (c:=decide (s.fQ+(lyA l i).fQ>p.fQ)) (by simp; omega),decide_eq_false c2]; rfl
     · rw [Qbj (c:=decide (s.fH+(lyA l i).fH>p.fH)) (by simp; omega),decide_eq_false c1]; rfl
 · intro n o i hd _
   simp only [Qb0.eq_2]
   unfold Qlz
   rw [hd,cond_false]; rfl
def zSp:Spot:=⟨0,0,0,0⟩
def ldA (l:List Load) (i:Int):Load:=(ix l i).getD zLd
def spB (l:List Box) (o y z:Int) (is:List Int) (s:List Spot×Int):List Spot×Int:=is.foldl (λs b=>(Qg2 s.1 b ⟨o,s.2,y,z⟩,s.2+(bxA l b).fW)) s
def spS (l:List Box) (sh:List Shelf) (o z:Int) (js:List Int) (s:List Spot×Int):List Spot×Int:=js.foldl (λs j=>((spB l o s.2 z (shA sh j).f9 (s.1,0)).1,s.2+(shA sh j).fD)) s
def spY (l:List Box) (sh:List Shelf) (ly:List Layer) (o:Int) (is:List Int) (s:List Spot×Int):List Spot×Int:=is.foldl (λs i=>((spS l sh o s.2 (lyA ly i).fE (s.1,0)).1,s.2+(lyA ly i).fH)) s
def spO (l:List Box) (sh:List Shelf) (ly:List Layer) (ld:List Load) (os:List Int) (out:List Spot):List Spot:=os.foldl (λout o=>(spY l sh ly o (ldA ld o).f8 (out,0)).1) out
def spM (p:Pallet) (l:List Box):List Spot:=bif Qzy p l then spO l (shM p l) (lyM p (shM p l)) (ldM p (lyM p (shM p l))) (Qf5 0 (ldM p (lyM p (shM p l))).length) (List.replicate l.length zSp) else []
theorem Qw4 {α:Type} (l:List α) (i:Int) (y:α):(Qg2 l i y).length=l.length:=by simp [Qg2]
theorem Q27 (l:List Box) (o y z:Int):∀ (is:List Int) (s:List Spot×Int),(spB l o y z is s).1.length=s.1.length
 | [],_=>rfl
 | i::is,s=>by
  have:=Q27 l o y z is (Qg2 s.1 i ⟨o,s.2,y,z⟩,s.2+(bxA l i).fW)
  rw [Qw4] at this
  exact this
theorem Q4l (l:List Box) (sh:List Shelf) (o z:Int):∀ (is:List Int) (s:List Spot×Int),(spS l sh o z is s).1.length=s.1.length
 | [],_=>rfl
 | i::is,s=>by
  have:=Q4l l sh o z is ((spB l o s.2 z (shA sh i).f9 (s.1,0)).1,s.2+(shA sh i).fD)
  rw [Q27] at this
  exact this
theorem Q4k (l:List Box) (sh:List Shelf) (ly:List Layer) (o:Int):∀ (is:List Int) (s:List Spot×Int),(spY l sh ly o is s).1.length=s.1.length
 | [],_=>rfl
 | i::is,s=>by
  have:=Q4k l sh ly o is ((spS l sh o s.2 (lyA ly i).fE (s.1,0)).1,s.2+(lyA ly i).fH)
  rw [Q4l] at this
  exact this
theorem Jbv (l:List Box) (sh:List Shelf) (ly:List Layer) (ld:List Load):∀ (os:List Int) (out:List Spot),(spO l sh ly ld os out).length=out.length
 | [],_=>rfl
 | o::os,out=>by
  have:=Jbv l sh ly ld os (spY l sh ly o (ldA ld o).f8 (out,0)).1
  rw [Q4k] at this
  exact this
theorem Q24 {p:Pallet} {l:List Box} (h:Qzy p l=true):(spM p l).length=l.length:=by
 unfold spM
 rw [h,cond_true,Jbv,List.length_replicate]
theorem Q7u {p:Pallet} {l:List Box} (h:Qzy p l=true):OkS p (shM p l):=λs hs=>by
 have:=(Q0k h).1 s hs
 exact ⟨this.d,this.h,this.g⟩
theorem Q8d {p:Pallet} {l:List Shelf} (h:OkS p l):OkY p (lyM p l):=λs hs=>by
 have:=(Qz6 h).1 s hs
 exact ⟨this.d,this.h,this.g⟩
theorem Jgs {fu:Nat} (hfu:2097153≤fu) (p:Pallet) (l:List Box) (hl:l.length≤1000):Qnb fu p l=some (spM p l):=by
 unfold Qnb spM
 rw [Jcd (by omega),Qab,Jjf p l (by omega) (by omega),Qab]
 cases hb:Qzy p l
 · rfl
 · obtain ⟨a1,a2,a3⟩:=Q0k hb
   have hS:=Q7u hb
   obtain ⟨y1,y2,y3⟩:=Qz6 hS
   have hY:=Q8d hS
   obtain ⟨d1,d2,d3⟩:=Q4f hY
   have hpb:=Qyn hb
   obtain ⟨q1,q2,q3,q4⟩:=Qu0 hpb
   rw [Bool.not_true,cond_false,cond_true,Ja9 hfu p l hl,Qab,Jd6 hfu hpb hS (by omega),Qab,Jg0 hfu hpb hY (by omega),Qab]
   have f1:∀ s∈shM p l,s.f9.length≤1000:=λs hs=>by
    have:=Qsi (λs:Shelf=>s.f9) _ s hs
    rw [a2,Qt5] at this; omega
   have f2:∀ s∈lyM p (shM p l),s.fE.length≤1000:=λs hs=>by
    have:=Qsi (λs:Layer=>s.fE) _ s hs
    rw [y2,Qcq] at this; omega
   have f3:∀ s∈ldM p (lyM p (shM p l)),s.f8.length≤1000:=λs hs=>by
    have:=Qsi (λs:Load=>s.f8) _ s hs
    rw [d2,Qcq] at this; omega
   generalize ldM p (lyM p (shM p l))=ld at d1 d3 f3 ⊢
   generalize lyM p (shM p l)=ly at y1 y3 hY d1 d3 f2 ⊢
   generalize shM p l=sh at a1 a3 hS y1 y3 f1 ⊢
   have L4:=Q81 (ld.length:Int) (λn (out:List Spot) o=>Qbu fu l sh ly ld n out o) (λos out=>some (spO l sh ly ld os out)) (λos out=>out.length=l.length) (by omega) ?_ ?_ ld.length fu (List.replicate l.length zSp) 0 (by omega) (by omega) (by omega) (by simp)
   · exact L4
   · intro n out o os o0 o1 hd hI ih
     obtain ⟨x,hx⟩:=Q39 (l:=ld) o0 o1
     have ex:ldA ld o=x:=by unfold ldA; rw [hx]; rfl
     have hxm:=d1 x (Qgb hx)
     have hxl:=f3 x (Qgb hx)
     simp only [Qbu.eq_2]
     unfold Qk2
     rw [hd,cond_true]
     have L3:=lpI x.f8 (λm (s:List Spot×Int) i=>Qcn fu (Qbu fu l sh ly ld n) l sh ly ld o m s.1 s.2 i) (λis s=>Qbu fu l sh ly ld n (spY l sh ly o is s).1 (w64 (o+1))) (λis s=>s.1.length=l.length∧(∀ i∈is,0≤i∧i<ly.length)∧0≤s.2∧s.2+2000*is.length≤2000000) (by omega) ?_ ?_ fu (out,0) ⟨hI,hxm.inn,by simp,by simp; omega⟩ (by omega)
     · refine L3.trans ?_
       rw [ih _ (by rw [Q4k]; exact hI)]
       simp only [spO,List.foldl_cons,ex]
     · intro m ⟨out,z⟩ i j is hj hd hI ih
       obtain ⟨i1,i2,i3,i4⟩:out.length=l.length∧(∀ i∈j::is,0≤i∧i<ly.length)∧0≤z∧z+2000*((j::is).length:Int)≤2000000:=hI
       simp only [List.length_cons] at i4
       obtain ⟨hly,t1,t2,t3,hmem⟩:=Q5m hY (i2 j (by simp))
       have hyi:=y1 _ hmem
       have hyl:=f2 _ hmem
       simp only [Qcn.eq_2]
       unfold Qls
       rw [hx,Qab,hd,cond_true,Qab,hj,Qab,hly,Qab]
       have L2:=lpI (lyA ly j).fE (λq (s:List Spot×Int) k=>Qd4 fu (Qcn fu (Qbu fu l sh ly ld n) l sh ly ld o m) l sh o z i (lyA ly j) q s.1 s.2 k) (λks s=>Qcn fu (Qbu fu l sh ly ld n) l sh ly ld o m (spS l sh o z ks s).1 (w64 (z+(lyA ly j).fH)) (w64 (i+1))) (λks s=>s.1.length=l.length∧(∀ i∈ks,0≤i∧i<sh.length)∧0≤s.2∧s.2+2000*ks.length≤2000000) (by omega) ?_ ?_ fu (out,0) ⟨i1,hyi.inn,by simp,by simp; omega⟩ (by omega)
       · refine L2.trans ?_
         rw [Qbe (n:=z+_) (by omega) (by omega)]
         exact ih ((spS l sh o z (lyA ly j).fE (out,0)).1,z+(lyA ly j).fH) ⟨by rw [Q4l]; exact i1,λi hi=>i2 i (by simp [hi]),by simp; omega,by simp; omega⟩
       · intro q ⟨out,y⟩ k b ks hb2 hd hI ih
         obtain ⟨i1,i2,i3,i4⟩:out.length=l.length∧(∀ i∈b::ks,0≤i∧i<sh.length)∧0≤y∧y+2000*((b::ks).length:Int)≤2000000:=hI
         simp only [List.length_cons] at i4
         obtain ⟨hsh,u1,u2,u3,hmem2⟩:=Q5j hS (i2 b (by simp))
         have hsi:=a1 _ hmem2
         have hsl:=f1 _ hmem2
         simp only [Qd4.eq_2]
         unfold Ql8
         rw [hd,cond_true,hb2,Qab,hsh,Qab]
         have L1:=lpI (shA sh b).f9 (λq' (s:List Spot×Int) k'=>Qg3 fu (Qd4 fu (Qcn fu (Qbu fu l sh ly ld n) l sh ly ld o m) l sh o z i (lyA ly j) q) l o z y k (shA sh b) q' s.1 s.2 k') (λbs s=>Qd4 fu (Qcn fu (Qbu fu l sh ly ld n) l sh ly ld o m) l sh o z i (lyA ly j) q (spB l o y z bs s).1 (w64 (y+(shA sh b).fD)) (w64 (k+1))) (λbs s=>s.1.length=l.length∧(∀ i∈bs,0≤i∧i<l.length)∧0≤s.2∧s.2+2000*bs.length≤2000000) (by omega) ?_ ?_ fu (out,0) ⟨i1,hsi.inn,by simp,by simp; omega⟩ (by omega)
         · refine L1.trans ?_
           rw [Qbe (n:=y+_) (by omega) (by omega)]
           exact ih ((spB l o y z (shA sh b).f9 (out,0)).1,y+(shA sh b).fD) ⟨by rw [Q27]; exact i1,λi hi=>i2 i (by simp [hi]),by simp; omega,by simp; omega⟩
         · intro q' ⟨out,x'⟩ k' c bs hc hd hI ih
           obtain ⟨i1,i2,i3,i4⟩:out.length=l.length∧(∀ i∈c::bs,0≤i∧i<l.length)∧0≤x'∧x'+2000*((c::bs).length:Int)≤2000000:=hI
           simp only [List.length_cons] at i4
           have hcr:=i2 c (by simp)
           obtain ⟨hbx,v1,v2,v3,v4⟩:=Qyu hb hcr
           obtain ⟨sp,hsp⟩:=Q39 (l:=out) hcr.1 (by omega)
           simp only [Qg3.eq_2]
           unfold Qlc
           rw [hd,cond_true,hc,Qab,hsp,Qab,Qab,hbx,Qab,Qbe (n:=x'+_) (by omega) (by omega)]
           exact ih (Qg2 out c ⟨o,x',y,z⟩,x'+(bxA l c).fW) ⟨by rw [Qw4]; exact i1,λi hi=>i2 i (by simp [hi]),by simp; omega,by simp; omega⟩
         · intro q' ⟨out,x'⟩ k' hd _
           simp only [Qg3.eq_2]
           unfold Qlc
           rw [hd,cond_false]; rfl
       · intro q ⟨out,y⟩ k hd _
         simp only [Qd4.eq_2]
         unfold Ql8
         rw [hd,cond_false]; rfl
     · intro m ⟨out,z⟩ i hd _
       simp only [Qcn.eq_2]
       unfold Qls
       rw [hx,Qab,hd,cond_false]; rfl
   · intro n out o hd _
     simp only [Qbu.eq_2]
     unfold Qk2
     rw [hd,cond_false]; rfl
def Jct (n:Int) (out:List Spot):Prop:=∀ s∈out,0≤s.fJ∧s.fJ≤n
theorem Jdh {n:Int} {out:List Spot} {i:Int} {s:Spot} (h:Jct n out) (hs:0≤s.fJ∧s.fJ≤n):Jct n (Qg2 out i s):=by
 intro t ht
 unfold Qg2 at ht
 rcases List.mem_or_eq_of_mem_set ht with ht | rfl
 · exact h t ht
 · exact hs
theorem Jbn {n:Int} (l:List Box) (o y z:Int) (ho:0≤o∧o≤n):∀ (is:List Int) (s:List Spot×Int),Jct n s.1→Jct n (spB l o y z is s).1
 | [],_,h=>h
 | i::is,s,h=>Jbn l o y z ho is (Qg2 s.1 i ⟨o,s.2,y,z⟩,s.2+(bxA l i).fW) (Jdh h ho)
theorem Jae {n:Int} (l:List Box) (sh:List Shelf) (o z:Int) (ho:0≤o∧o≤n):∀ (is:List Int) (s:List Spot×Int),Jct n s.1→Jct n (spS l sh o z is s).1
 | [],_,h=>h
 | i::is,s,h=>Jae l sh o z ho is ((spB l o s.2 z (shA sh i).f9 (s.1,0)).1,s.2+(shA sh i).fD) (Jbn l o s.2 z ho _ (s.1,0) h)
theorem Jam {n:Int} (l:List Box) (sh:List Shelf) (ly:List Layer) (o:Int) (ho:0≤o∧o≤n):∀ (is:List Int) (s:List Spot×Int),Jct n s.1→Jct n (spY l sh ly o is s).1
 | [],_,h=>h
 | i::is,s,h=>Jam l sh ly o ho is ((spS l sh o s.2 (lyA ly i).fE (s.1,0)).1,s.2+(lyA ly i).fH) (Jae l sh o s.2 ho _ (s.1,0) h)
theorem Jcl {n:Int} (l:List Box) (sh:List Shelf) (ly:List Layer) (ld:List Load):∀ (os:List Int) (out:List Spot),(∀ o∈os,0≤o∧o≤n)→Jct n out→Jct n (spO l sh ly ld os out)
 | [],_,_,h=>h
 | o::os,out,ho,h=>Jcl l sh ly ld os (spY l sh ly o (ldA ld o).f8 (out,0)).1 (λq hq=>ho q (by simp [hq])) (Jam l sh ly o (ho o (by simp)) _ (out,0) h)
theorem Jev {p:Pallet} {l:List Box} (hl:l.length≤1000):∀ s∈spM p l,0≤s.fJ∧s.fJ≤1000:=by
 unfold spM
 cases hb:Qzy p l
 · simp
 · have a3:=(Q0k hb).2.2
   have hS:=Q7u hb
   have y3:=(Qz6 hS).2.2
   have d3:=(Q4f (Q8d hS)).2.2
   rw [cond_true]
   refine Jcl l _ _ _ _ _ (λo ho=>?_) λs hs=>?_
   · have:=Qc6.1 ho; omega
   · rw [(List.mem_replicate.1 hs).2]; simp [zSp]
def Jlo (r:Request) (k:Int):Bool:=inb k 0 (((Qhs r).length:Int) - 1)
theorem Q2w {r:Request} {k:Int} (h:Jlo r k=true):Qhg r=0:=by
 unfold Jlo at h
 rw [Qcu] at h
 by_cases hc:Qhg r=0
 · exact hc
 · have:Qhs r=[]:=by
     unfold Qhs Q04
     rw [show (Qhg r==0)=false by simp [hc]]
     rfl
   rw [this] at h
   simp at h
   omega
theorem Q7t (r:Request) (g:List Int) (u i:Int) (us:List Int) {x:Item} (hx:ix r.fU i=some x):ofG r g u (i::us)=bif g.contains x.fL then u::ofG r g (u+1) us else ofG r g (u+1) us:=by
 rw [ofG,hx]
theorem Jka {fu:Nat} {r:Request} (h:Sm fu r) (k:Int):Qpw fu r k=some (Qv6 r k):=by
 have hfu:=h.fu
 unfold Qpw Qv6
 rw [Jfu h,Qab,Jch,Q3r,Qab]
 cases hg:inb k 0 (((Qhs r).length:Int) - 1)
 · rw [Bool.not_false,cond_true]
   have:ix (Qhs r) k=none:=by
    have hk:¬ (0≤k∧k≤((Qhs r).length:Int) - 1):=by intro hk; rw [(Qcu).2 hk] at hg; cases hg
    unfold ix
    by_cases h0:0≤k
    · rw [if_pos h0,List.getElem?_eq_none (by omega)]
    · rw [if_neg h0]
   rw [this]
 · have hc:=Q2w hg
   rw [Qcu] at hg
   obtain ⟨j,rfl⟩:∃ j:Nat,k=j:=⟨k.toNat,by omega⟩
   have hj:j<(Qhs r).length:=by omega
   have hgl:=(Qt7 r).2 _ (List.getElem_mem hj)
   rw [Bool.not_true,cond_false,Jkw h (Qez hc).1,Qab,Qzs hj]
   have e:Qi4 r=l6M r:=by unfold Qi4; rw [show (Qhg r==0)=true by simp [hc],cond_true]
   simp only [e]
   have hlen:(l6M r).length≤12:=Q99 (Qez hc).1
   have:=Jd9 (l6M r) (λn out i=>Qfz fu r (j:Int) (Qhs r) (l6M r) n out i) (λpre xs out=>some (out++ofG r (Qhs r)[j] (pre.length:Int) xs)) (λpre xs out=>out.length+xs.length≤12) (by omega) ?_ ?_ fu [] (by simpa using hlen) (by omega)
   · simpa using this
   · intro n out pre i xs hl hx hd hI ih
     simp only [List.length_cons] at hI
     have hi:i∈Qi4 r:=by rw [e,hl]; simp
     have hi2:=Q3h hi
     obtain ⟨q,rfl⟩:∃ q:Nat,i=q:=⟨i.toNat,by omega⟩
     have hq:q<r.fU.length:=by omega
     simp only [Qfz.eq_2]
     unfold Qlo Qkb
     simp only [hd,cond_true,hx,Qab,Qzs hj,Qzs hq,Jh9 (show (Qhs r)[j].length≤1048576 by omega) (show (Qhs r)[j].length<fu by omega)]
     rw [Q7t r _ _ _ _ (Qzs hq)]
     cases (Qhs r)[j].contains r.fU[q].fL
     · rw [cond_false,cond_false,ih _ (by omega)]
       simp
     · rw [cond_true,cond_true,ap1 (by simp; omega),Qab,ih _ (by simp; omega)]
       simp
   · intro n out hd hI
     simp only [Qfz.eq_2]
     unfold Qlo
     simp only [hd,cond_false]
     simp [ofG]
theorem Jkx {fu:Nat} {r:Request} (h:Sm fu r) (k:Int):Qqd fu r k=some (Qv6 r k):=by
 have hfu:=h.fu
 unfold Qqd Qv6
 rw [Jc5 h,Qab,Jch,Q5d,Qab]
 cases hg:inb k 0 (((Qhs r).length:Int) - 1)
 · rw [Bool.not_false,cond_true]
   have:ix (Qhs r) k=none:=by
    have hk:¬ (0≤k∧k≤((Qhs r).length:Int) - 1):=by intro hk; rw [(Qcu).2 hk] at hg; cases hg
    unfold ix
    by_cases h0:0≤k
    · rw [if_pos h0,List.getElem?_eq_none (by omega)]
    · rw [if_neg h0]
   rw [this]
 · have hc:=Q2w hg
   rw [Qcu] at hg
   obtain ⟨j,rfl⟩:∃ j:Nat,k=j:=⟨k.toNat,by omega⟩
   have hj:j<(Qhs r).length:=by omega
   have hgl:=(Qt7 r).2 _ (List.getElem_mem hj)
   rw [Bool.not_true,cond_false,Jcf h,Qab,Qzs hj]
   have hlen:=Qv1 r
   have:=Jd9 (Qi4 r) (λn out i=>Qfx fu r (j:Int) (Qhs r) (Qi4 r) n out i) (λpre xs out=>some (out++ofG r (Qhs r)[j] (pre.length:Int) xs)) (λpre xs out=>out.length+xs.length≤12) (by omega) ?_ ?_ fu [] (by simpa using hlen) (by omega)
   · simpa using this
   · intro n out pre i xs hl hx hd hI ih
     simp only [List.length_cons] at hI
     have hi:i∈Qi4 r:=by rw [hl]; simp
     have hi2:=Q3h hi
     obtain ⟨q,rfl⟩:∃ q:Nat,i=q:=⟨i.toNat,by omega⟩
     have hq:q<r.fU.length:=by omega
     simp only [Qfx.eq_2]
     unfold Ql4 Qku
     simp only [hd,cond_true,hx,Qab,Qzs hj,Qzs hq,Jfn (show (Qhs r)[j].length≤1048576 by omega) (show (Qhs r)[j].length<fu by omega)]
     rw [Q7t r _ _ _ _ (Qzs hq)]
     cases (Qhs r)[j].contains r.fU[q].fL
     · rw [cond_false,cond_false,ih _ (by omega)]
       simp
     · rw [cond_true,cond_true,ap1 (by simp; omega),Qab,ih _ (by simp; omega)]
       simp
   · intro n out hd hI
     simp only [Qfx.eq_2]
     unfold Ql4
     simp only [hd,cond_false]
     simp [ofG]
def Q82 (l:List Int):List Int:=l.mergeSort λx y=>decide (x≤y)
theorem Qtq (l:List Int):(Q82 l).Perm l:=List.mergeSort_perm l _
theorem Q7b (l:List Int):(Q82 l).length=l.length:=(Qtq l).length_eq
def Q6u (r:Request) (k:Int) (l:List Int):Carton:=⟨(Qwy r l).1.qQ,k,Q82 l⟩
def Q1s (r:Request) (k:Int):List Carton:=(pwM r (Qv6 r k)).map (Q6u r k)
def Qy1 (r:Request):List Int→List Carton
 | []=>[]
 | k::ks=>Q1s r k++Qy1 r ks
def Qvs (r:Request):List Carton:=Qy1 r (Qf5 0 (Qhs r).length)
theorem Q9f (l:List Int):(Qf5 0 l.length).map (λp=>(ix l p).getD 0)=l:=by
 have key:∀ (xs pre:List Int),l=pre++xs→(Qf5 pre.length xs.length).map (λp=>(ix l p).getD 0)=xs:=by
  intro xs
  induction xs with
  | nil=>intro pre _; rfl
  | cons x xs ih =>
   intro pre he
   have h1:=ih (pre++[x]) (by simp [he])
   simp only [List.length_append,List.length_singleton] at h1
   simp only [List.length_cons,Qf5,List.map_cons]
   rw [show ((pre.length:Int)+1)=((pre.length+1:Nat):Int) by omega,h1]
   congr 1
   rw [Qi5,he]
   simp
 exact key l [] rfl
theorem Jf8 (l:List Int):(srt (kf l) l.length).map (λp=>(ix l p).getD 0)=Q82 l:=by
 refine Q94 ?_ ?_ (Qq7 l)
 · refine ((Qut _ _).map _).trans ?_
   rw [Q9f]
   exact (Qtq l).symm
 · refine List.pairwise_map.2 ((Qx2 (kf l) l.length).imp fun {p q} h=>?_)
   unfold lx kf at h
   omega
theorem Q8e {r:Request} (k:Int):(Q1s r k).length≤12:=by
 have:=(Q8f (r:=r) (Qzu r k)).1
 simp [Q1s]; omega
theorem Jj0 {fu:Nat} {r:Request} (h:Sm fu r):Qmy fu r=some (Qvs r):=by
 have hfu:=h.fu
 have hg:=(Qt7 r).1
 unfold Qmy Qvs
 rw [Jc5 h,Qab]
 have:=Q81 ((Qhs r).length:Int) (λn out i=>Qc8 fu r (Qhs r) n out i) (λxs out=>some (out++Qy1 r xs)) (λxs out=>out.length+12*xs.length≤48) (by omega) ?_ ?_ (Qhs r).length fu [] 0 (by omega) (by omega) (by omega) (by simp [Qcq]; omega)
 · simpa using this
 · intro n out k ks h0 h1 hd hI ih
   simp only [List.length_cons] at hI
   have hul:=Qzu r k
   have hpo:=Q8f (r:=r) hul
   simp only [Qc8.eq_2]
   unfold Qi9
   rw [hd,cond_true,Jkx h,Qab,Jkj h _ (by omega),Qab]
   have key:=lpI (pwM r (Qv6 r k)) (λm o i=>Qfi fu (Qc8 fu r (Qhs r) n) r k (pwM r (Qv6 r k)) m o i) (λxs o=>Qc8 fu r (Qhs r) n (o++xs.map (Q6u r k)) (w64 (k+1))) (λxs o=>o.length+xs.length≤48∧∀ l∈xs,l.length≤12) (by have:=hpo.1; omega) ?_ ?_ fu out ⟨by have:=hpo.1; omega,hpo.2⟩ (by have:=hpo.1; omega)
   · rw [key,ih _ (by have:=hpo.1; simp; omega)]
     simp [Qy1,Q1s]
   · intro m o i l xs hx hd hI ih
     obtain ⟨h2,h3⟩:=hI
     simp only [List.length_cons] at h2
     have hl:=h3 l (by simp)
     simp only [Qfi.eq_2]
     unfold Qi1
     rw [hd,cond_true,hx,Qab,Jag h l (by omega),Qab,show Qcl fu l=some (Q82 l) from Q2l (by omega),Qab,ap1 (by simp; omega),Qab,ih _ ⟨by simp; omega,λy hy=>h3 y (by simp [hy])⟩]
     simp [Q6u]
   · intro m o i hd _
     simp only [Qfi.eq_2]
     unfold Qi1
     rw [hd,cond_false]; simp
 · intro n out k hd _
   simp only [Qc8.eq_2]
   unfold Qi9
   rw [hd,cond_false]; simp [Qy1]
theorem Jju {fu:Nat} {r:Request} (h:Sm fu r):Qmt fu r=some (Qvs r):=by
 have hfu:=h.fu
 have hg:=(Qt7 r).1
 unfold Qmt Qvs
 rw [Jfu h,Qab]
 have:=Q81 ((Qhs r).length:Int) (λn out i=>Qbh fu r (Qhs r) n out i) (λxs out=>some (out++Qy1 r xs)) (λxs out=>out.length+12*xs.length≤48) (by omega) ?_ ?_ (Qhs r).length fu [] 0 (by omega) (by omega) (by omega) (by simp [Qcq]; omega)
 · simpa using this
 · intro n out k ks h0 h1 hd hI ih
   simp only [List.length_cons] at hI
   have hul:=Qzu r k
   have hpo:=Q8f (r:=r) hul
   simp only [Qbh.eq_2]
   unfold Qjc
   rw [hd,cond_true,Jka h,Qab,Jk5 h _ (by omega),Qab]
   have key:=lpI (pwM r (Qv6 r k)) (λm o i=>Qcf fu (Qbh fu r (Qhs r) n) r k (pwM r (Qv6 r k)) m o i) (λxs o=>Qbh fu r (Qhs r) n (o++xs.map (Q6u r k)) (w64 (k+1))) (λxs o=>o.length+xs.length≤48∧∀ l∈xs,l.length≤12) (by have:=hpo.1; omega) ?_ ?_ fu out ⟨by have:=hpo.1; omega,hpo.2⟩ (by have:=hpo.1; omega)
   · rw [key,ih _ (by have:=hpo.1; simp; omega)]
     simp [Qy1,Q1s]
   · intro m o i l xs hx hd hI ih
     obtain ⟨h2,h3⟩:=hI
     simp only [List.length_cons] at h2
     have hl:=h3 l (by simp)
     simp only [Qcf.eq_2]
     unfold Qjb Ql0
     rw [hd,cond_true,hx,Qab,Jfl h l (by omega),Qab,Qab,Jlm hfu (by omega),Qab]
     have hsl:=Qt5 (kf l) l.length
     have hsm:=λx=>Qx1 (k:=kf l) (n:=l.length) (x:=x)
     have hsg:=Jf8 l
     generalize srt (kf l) l.length=S at hsl hsm hsg ⊢
     have k1:=lpI S (λm' us j=>Qfm fu (Qcf fu (Qbh fu r (Qhs r) n) r k (pwM r (Qv6 r k)) m) k (pwM r (Qv6 r k)) o i (Qwy r l).1 S m' us j)
      (λxs us=>Qac (Qg8 40 o [(⟨(Qwy r l).1.qQ,k,us++xs.map λp=>(ix l p).getD 0⟩:Carton)]) λx=>Qif fu (Qcf fu (Qbh fu r (Qhs r) n) r k (pwM r (Qv6 r k)) m) i x) (λxs us=>us.length+xs.length≤12∧∀ p∈xs,0≤p∧p<l.length) (by omega) ?_ ?_ fu [] ⟨by simp; omega,λp hp=>(hsm p).1 hp⟩ (by omega)
     · rw [k1,List.nil_append,hsg,ap1 (by simp; omega),Qab]
       unfold Qif
       rw [ih _ ⟨by simp; omega,λy hy=>h3 y (by simp [hy])⟩]
       simp [Q6u]
     · intro m' us j p ps hp hd hI ih
       obtain ⟨h4,h5⟩:=hI
       simp only [List.length_cons] at h4
       simp only [Qfm.eq_2]
       unfold Qjd
       rw [hd,cond_true,hx,Qab,hp,Qab,Jbh (h5 p (by simp)),Qab,ap1 (by simp; omega),Qab,ih _ ⟨by simp; omega,λy hy=>h5 y (by simp [hy])⟩]
       simp
     · intro m' us j hd _
       simp only [Qfm.eq_2]
       unfold Qjd
       rw [hd,cond_false]; simp
   · intro m o i hd _
     simp only [Qcf.eq_2]
     unfold Qjb Qk9
     rw [hd,cond_false]; simp
 · intro n out k hd _
   simp only [Qbh.eq_2]
   unfold Qjc
   rw [hd,cond_false]; simp [Qy1]
theorem Q7s (r:Request):∀ (ks:List Int),(Qy1 r ks).length≤12*ks.length
 | []=>by simp [Qy1]
 | k::ks=>by
  have:=Q7s r ks
  have:=Q8e (r:=r) k
  simp [Qy1]; omega
theorem Qzv (r:Request):(Qvs r).length≤48:=by
 have:=Q7s r (Qf5 0 (Qhs r).length)
 have hg:=(Qt7 r).1
 rw [Qcq] at this
 unfold Qvs
 omega
theorem Qxs {r:Request} {c:Carton}:∀ {ks:List Int},c∈Qy1 r ks↔∃ k∈ks,∃ l∈pwM r (Qv6 r k),c=Q6u r k l
 | []=>by simp [Qy1]
 | k::ks=>by
  simp only [Qy1,List.mem_append,Qxs (ks:=ks),List.mem_cons,Q1s,List.mem_map]
  constructor
  · rintro (⟨l,hl,rfl⟩ | ⟨k',hk,l,hl,e⟩)
    · exact ⟨k,.inl rfl,l,hl,rfl⟩
    · exact ⟨k',.inr hk,l,hl,e⟩
  · rintro ⟨k',rfl | hk,l,hl,rfl⟩
    · exact .inl ⟨l,hl,rfl⟩
    · exact .inr ⟨k',hk,l,hl,rfl⟩
theorem Qxl {r:Request} {c:Carton} (h:c∈Qvs r):c.fO.length≤12:=by
 obtain ⟨k,_,l,hl,rfl⟩:=Qxs.1 h
 have:=(Q8f (r:=r) (Qzu r k)).2 l hl
 simp only [Q6u,Q7b]
 omega
def Jg5:List Int→Int
 | []=>1
 | x::xs=>x*Jg5 xs
theorem Jcv {a b:List Int} (h:a.Perm b):Jg5 a=Jg5 b:=by
 induction h with
 | nil=>rfl
 | cons x _ ih=>simp only [Jg5,ih]
 | swap x y l=>simp only [Jg5,← Int.mul_assoc]; rw [Int.mul_comm x y]
 | trans _ _ h1 h2=>rw [h1,h2]
theorem Jaq (a b c:Int):(sid a b c).1*((sid a b c).2.1*(sid a b c).2.2)=a*b*c:=by
 have h:=Jbc a b c
 unfold Q3p at h
 simp only [List.length_cons,List.length_nil] at h
 rw [if_pos (by omega)] at h
 have hp:=List.mergeSort_perm [a,b,c] λx y=>decide (x≤y)
 rw [Option.some.inj h] at hp
 have:=Jcv hp
 simp only [Jg5,Int.mul_one] at this
 rw [this,Int.mul_assoc]
theorem Ji3 {a b c m:Int} (ha:m≤a) (hb:m≤b) (hc:m≤c):m≤(sid a b c).1:=by
 unfold sid
 simp only
 split <;> split <;> omega
theorem Jfw {x:Item} {t:Typ} (hx:Qyc x=true) (ht:Q2z t=true) (h:Q13 x t=true):Jca x≤Jcs t∧x.fQ≤t.fQ:=by
 simp only [Qyc,Bool.and_eq_true,Qcu] at hx
 simp only [Q2z,Bool.and_eq_true,Qcu] at ht
 simp only [Q13,Bool.and_eq_true,decide_eq_true_eq] at h
 obtain ⟨⟨⟨h1,h2⟩,h3⟩,h4⟩:=h
 refine ⟨?_,h4⟩
 have e1:Jca x=x.fW*x.fH*x.fD:=by
  unfold Jca Q8w
  rw [show (inb x.fW 0 2000&&(inb x.fH 0 2000&&inb x.fD 0 2000))=true by simp; omega,cond_true]
 have e2:Jcs t=t.fW*t.fH*t.fD:=by
  unfold Jcs Q8w
  rw [show (inb t.fW 0 2000&&(inb t.fH 0 2000&&inb t.fD 0 2000))=true by simp; omega,cond_true]
 rw [e1,e2,← Jaq x.fW x.fH x.fD,← Jaq t.fW t.fH t.fD]
 have p1:1≤(sid x.fW x.fH x.fD).1:=Ji3 (by omega) (by omega) (by omega)
 have s1:=Q2u x.fW x.fH x.fD
 have s2:=Q2u t.fW t.fH t.fD
 refine Int.mul_le_mul h1 ?_ (Int.mul_nonneg (by omega) (by omega)) (by omega)
 exact Int.mul_le_mul h2 h3 (by omega) (by omega)
theorem Qzr {r:Request} {u:Int} (h:0≤u∧u<(Qi4 r).length):Qu4 r u∈r.fU:=(Q51 (Qvk h)).2
theorem Q5f {r:Request} {u:Int} (h:0≤u∧u<(Qi4 r).length):Qhg r=0:=(Q51 (Qvk h)).1
theorem Q9y {r:Request} (hc:Qhg r=0):Qty r r.fP=some (Qxx r)∧Qxx r∈r.fR∧Q2z (Qxx r)=true:=by
 have h:=(Qez hc).2.1
 unfold Q84 at h
 simp only [Bool.and_eq_true] at h
 obtain ⟨t,ht⟩:=Option.isSome_iff_exists.1 h.1.2
 have e:Qxx r=t:=by unfold Qxx; rw [ht]; rfl
 have hm:t∈r.fR:=List.mem_of_find?_eq_some ht
 rw [e]
 exact ⟨ht,hm,Qxt (Qez hc).1 t hm⟩
theorem Jat {r:Request} {u:Int} (h:0≤u∧u<(Qi4 r).length):Qxv r [u]=Jca (Qu4 r u)∧Qw8 r [u]=(Qu4 r u).fQ:=by
 unfold Qxv Qw8 Qyw
 simp [List.filterMap_cons,Qvk h]
theorem Jcg {r:Request} {u:Int} (h:0≤u∧u<(Qi4 r).length):Q1g r [u] (Qxx r)=true:=by
 have hc:=Q5f h
 have hz:=Qez hc
 have hm:=Qzr h
 obtain ⟨h1,h2⟩:=Jfw ((Qr7 hz.1).1 _ hm) (Q9y hc).2.2 (hz.2.2.2.1 _ hm)
 unfold Q1g
 rw [(Jat h).1,(Jat h).2,Bool.and_eq_true,decide_eq_true_iff,decide_eq_true_iff]
 exact ⟨h1,h2⟩
def Qc (r:Request) (us:List Int) (l:List Int):Prop:=l≠[]∧(∀ u∈l,u∈us)∧Q1g r l (Qxx r)=true
theorem Jh3 {r:Request} {us:List Int} {out:List (List Int)} {u:Int} (h:∀ l∈out,Qc r us l) (hu:u∈us) (hr:0≤u∧u<(Qi4 r).length):∀ l∈Jg8 r out u,Qc r us l:=by
 have hn:Qc r us [u]:=⟨by simp,λv hv=>by rw [List.mem_singleton.1 hv]; exact hu,Jcg hr⟩
 intro l hl
 unfold Jg8 Jee at hl
 split at hl
 · rename_i i hi
   obtain ⟨x,hx,hg⟩:=Qum hi
   rw [hx] at hl
   rcases List.mem_or_eq_of_mem_set hl with hl | rfl
   · exact h l hl
   · have hq:=h x (List.mem_of_getElem? hx)
     refine ⟨by simp,λv hv=>?_,hg⟩
     rcases List.mem_append.1 hv with hv | hv
     · exact hq.2.1 v hv
     · rw [List.mem_singleton.1 hv]; exact hu
 · rcases List.mem_append.1 hl with hl | hl
   · exact h l hl
   · rw [List.mem_singleton.1 hl]; exact hn
theorem Jhk {r:Request} {us:List Int} {out:List (List Int)} {u:Int} (h:∀ l∈out,Qc r us l) (hu:u∈us) (hr:0≤u∧u<(Qi4 r).length):∀ l∈Q7x r out u,Qc r us l:=by
 have hn:Qc r us [u]:=⟨by simp,λv hv=>by rw [List.mem_singleton.1 hv]; exact hu,Jcg hr⟩
 intro l hl
 cases hlast:out.getLast? with
 | none =>
  unfold Q7x at hl
  rw [hlast] at hl
  rw [List.mem_singleton.1 hl]; exact hn
 | some x =>
  rw [Qxj u hlast] at hl
  have hq:=h x (List.mem_of_getLast? hlast)
  cases hg:Q22 r u x
  · rw [hg,cond_false] at hl
    rcases List.mem_append.1 hl with hl | hl
    · exact h l hl
    · rw [List.mem_singleton.1 hl]; exact hn
  · rw [hg,cond_true] at hl
    rcases List.mem_or_eq_of_mem_set hl with hl | rfl
    · exact h l hl
    · refine ⟨by simp,λv hv=>?_,hg⟩
      rcases List.mem_append.1 hv with hv | hv
      · exact hq.2.1 v hv
      · rw [List.mem_singleton.1 hv]; exact hu
theorem Q9z {r:Request} {us:List Int} {F:List (List Int)→Int→List (List Int)} (hF:∀ out u,(∀ l∈out,Qc r us l)→u∈us→(0≤u∧u<(Qi4 r).length)→∀ l∈F out u,Qc r us l):∀ (vs:List Int) (out:List (List Int)),(∀ u∈vs,u∈us∧0≤u∧u<(Qi4 r).length)→(∀ l∈out,Qc r us l)→∀ l∈vs.foldl F out,Qc r us l
 | [],out,_,h=>h
 | v::vs,out,hv,h=>by
  rw [List.foldl_cons]
  have h1:=hv v (by simp)
  exact Q9z hF vs _ (λu hu=>hv u (by simp [hu])) (hF out v h h1.1 h1.2)
theorem Q46 (r:Request) (us:List Int):(Je6 r us).Perm us:=by
 unfold Je6
 refine ((Qut _ _).map _).trans ?_
 have key:∀ (xs pre:List Int),us=pre++xs→(Qf5 pre.length xs.length).map (λp=>(ix us p).getD 0)=xs:=by
  intro xs
  induction xs with
  | nil=>intro pre _; rfl
  | cons x xs ih =>
   intro pre he
   have h1:=ih (pre++[x]) (by simp [he])
   simp only [List.length_append,List.length_singleton] at h1
   simp only [List.length_cons,Qf5,List.map_cons]
   rw [show ((pre.length:Int)+1)=((pre.length+1:Nat):Int) by omega,h1]
   congr 1
   rw [Qi5,he]
   simp
 have:=key us [] rfl
 simp only [List.length_nil] at this
 exact List.Perm.of_eq this
theorem Jig {r:Request} {us:List Int}:∀ l∈pwM r us,Qc r (Qvb r us) l:=by
 unfold pwM nfM ffM
 have ht:∀ u∈Qvb r us,u∈Qvb r us∧0≤u∧u<(Qi4 r).length:=λu hu=>⟨hu,Qz7 hu⟩
 cases r.qY==1
 · rw [cond_false]
   exact Q9z (λout u h hu hr=>Jh3 h hu hr) _ [] (λu hu=>ht u ((Q46 r _).mem_iff.1 hu)) (by simp)
 · rw [cond_true]
   exact Q9z (λout u h hu hr=>Jhk h hu hr) _ [] ht (by simp)
theorem Ja0 (g:List Int→Bool) (out:List (List Int)) (u:Int):(Jee g out u).flatten.Perm (out.flatten++[u]):=by
 unfold Jee
 split
 · rename_i i hi
   obtain ⟨x,hx,_⟩:=Qum hi
   rw [hx]
   exact Qw1 hx
 · simp
theorem Ja1 (r:Request) (out:List (List Int)) (u:Int):(Q7x r out u).flatten.Perm (out.flatten++[u]):=by
 cases hlast:out.getLast? with
 | none =>
  have:out=[]:=List.getLast?_eq_none_iff.1 hlast
  subst this
  unfold Q7x
  simp
 | some x =>
  rw [Qxj u hlast]
  cases Q22 r u x
  · simp
  · rw [cond_true]
    rw [List.getLast?_eq_getElem?] at hlast
    exact Qw1 hlast
theorem Q0l {F:List (List Int)→Int→List (List Int)} (hF:∀ out u,(F out u).flatten.Perm (out.flatten++[u])):∀ (vs:List Int) (out:List (List Int)),(vs.foldl F out).flatten.Perm (out.flatten++vs)
 | [],out=>by simp
 | v::vs,out=>by
  rw [List.foldl_cons]
  refine (Q0l hF vs _).trans (((hF out v).append_right vs).trans ?_)
  simp
theorem Ja8 (r:Request) (us:List Int):(pwM r us).flatten.Perm (Qvb r us):=by
 unfold pwM nfM ffM
 cases r.qY==1
 · rw [cond_false]
   refine (Q0l (λout u=>Ja0 _ out u) _ []).trans ?_
   simpa using Q46 r (Qvb r us)
 · rw [cond_true]
   refine (Q0l (λout u=>Ja1 r out u) _ []).trans ?_
   simp
def Q8q:List Carton→Nat
 | []=>0
 | x::xs=>x.fO.length+Q8q xs
structure Sp (x:Plan):Prop where
 cars:x.fV.length≤1048576
 units:∀ c∈x.fV,c.fO.length≤1048576
 all:Q8q x.fV≤1048576
 spots:x.fF.length≤1048576
def Q88:List Int→List Int→Bool
 | _,[]=>true
 | pre,x::xs=>inb x 0 999&&((match pre.getLast? with | none=>true | some y=>decide (y<x))&&Q88 (pre++[x]) xs)
def Jfy (l:List Int):Bool:=Q88 [] l&&decide ((l.length:Int)≤100)
def Q87 (c:Carton):Bool:=inb c.qJ 0 999&&(inb c.fM 0 3&&Jfy c.fO)
def Je7 (s:Spot):Bool:=inb s.fJ 0 2000&&(inb s.fX 0 2000&&(inb s.fY 0 2000&&inb s.fZ 0 2000))
def Q4x (x:Plan):Bool:=x.fF.length==x.fV.length&&(decide ((x.fV.length:Int)≤100)&&(x.fV.zip x.fF).all λp=>Q87 p.1&&Je7 p.2)
theorem Q93 {pre:List Int} {x:Int} {xs l:List Int} (hl:l.length≤1048576) (e:l=pre++x::xs):(pre.getLast? = none∧pre.length=0)∨∃ y,pre.getLast? = some y∧0<pre.length∧ix l (w64 ((pre.length:Int) - 1))=some y:=by
 cases hp:pre.getLast? with
 | none=>exact .inl ⟨rfl,by simpa using List.getLast?_eq_none_iff.1 hp⟩
 | some y =>
  have hne:pre≠[]:=λe=>by subst e; simp at hp
  have hpos:0<pre.length:=List.length_pos_iff.2 hne
  refine .inr ⟨y,rfl,hpos,?_⟩
  have h1:w64 ((pre.length:Int) - 1)=((pre.length - 1:Nat):Int):=by
   have:pre.length≤l.length:=by rw [e]; simp
   rw [Qbe (by omega) (by omega)]; omega
  rw [h1,Qi5,e,List.getElem?_append_left (by omega),← List.getLast?_eq_getElem?,hp]
theorem Jkf {fu:Nat} {l:List Int} (hl:l.length≤1048576) (hf:l.length<fu):Qkq fu l=some (Jfy l):=by
 unfold Qkq Jfy
 have key:=lpP l (λn (_:Unit) i=>Qd8 fu l n i) (λpre xs _=>some (Q88 pre xs&&decide ((l.length:Int)≤100))) (by omega) ?_ ?_ fu () hf
 · exact key
 · intro n _ pre x xs e hx hd ih
   have ih:=ih ()
   simp only [Qd8.eq_2]
   unfold Qio Qhz Q88
   rw [hd,cond_true,hx,Qab,Q5d,Qab]
   cases inb x 0 999
   · rfl
   · rw [Bool.not_true,cond_false,Bool.true_and]
     rcases Q93 (hl:=hl) e with ⟨h1,h2⟩ | ⟨y,h1,h2,h3⟩
     · rw [h1,show decide ((pre.length:Int)>0)=false from decide_eq_false (by omega),cond_false,ih]
       simp
     · rw [h1,show decide ((pre.length:Int)>0)=true from decide_eq_true (by omega),cond_true,h3,Qab,ih]
       by_cases hy:y<x
       · rw [show decide (y≥x)=false by simp; omega,cond_false]; simp [hy]
       · rw [show decide (y≥x)=true by simp; omega,cond_true]; simp [hy]
 · intro n _ hd
   simp only [Qd8.eq_2]
   unfold Qio
   rw [hd,cond_false]
   simp [Q88]
theorem Jjw {fu:Nat} {c:Carton} (hl:c.fO.length≤1048576) (hf:c.fO.length<fu):Qm9 fu c=some (Q87 c):=by
 unfold Qm9 Q87
 rw [Jjk,Qab,Q3r,Qab]
 cases inb c.qJ 0 999
 · rfl
 · rw [Bool.not_true,cond_false]
   cases inb c.fM 0 3
   · rfl
   · rw [Bool.not_true,cond_false,Bool.true_and,Bool.true_and]
     unfold Jfy
     by_cases h1:(c.fO.length:Int)≤100
     · rw [show decide ((c.fO.length:Int)>100)=false by simp; omega,cond_false,show decide ((c.fO.length:Int)≤100)=true by simpa using h1,Bool.and_true]
       unfold Qml
       have key:=lpP c.fO (λn (_:Unit) i=>Qel fu c n i) (λpre xs _=>some (Q88 pre xs)) (by omega) ?_ ?_ fu () hf
       · exact key
       · intro n _ pre x xs e hx hd ih
         have ih:=ih ()
         simp only [Qel.eq_2]
         unfold Qi7 Qie Q88
         rw [hd,cond_true,hx,Qab,Q3r,Qab]
         cases inb x 0 999
         · rfl
         · rw [Bool.not_true,cond_false,Bool.true_and]
           rcases Q93 (hl:=hl) e with ⟨h1,h2⟩ | ⟨y,h1,h2,h3⟩
           · rw [h1,show decide ((pre.length:Int)>0)=false from decide_eq_false (by omega),cond_false,ih]
             simp
           · rw [h1,show decide ((pre.length:Int)>0)=true from decide_eq_true (by omega),cond_true,Qab,h3,Qab,ih]
             by_cases hy:y<x
             · rw [show decide (x≤y)=false by simp; omega,cond_false]; simp [hy]
             · rw [show decide (x≤y)=true by simp; omega,cond_true]; simp [hy]
       · intro n _ hd
         simp only [Qel.eq_2]
         unfold Qi7
         rw [hd,cond_false]
         simp [Q88]
     · rw [show decide ((c.fO.length:Int)>100)=true by simp; omega,cond_true,show decide ((c.fO.length:Int)≤100)=false by simpa using h1,Bool.and_false]
theorem Q00 {α β:Type} {a:List α} {b:List β} {i:Int} {p:α×β} (h:ix (a.zip b) i=some p):ix a i=some p.1∧ix b i=some p.2:=by
 obtain ⟨h0,_,h1⟩:=Qal h
 have:=List.getElem?_zip_eq_some.1 h1
 unfold ix
 rw [if_pos h0,if_pos h0]
 exact this
theorem Jgy {fu:Nat} {x:Plan} (h:Sp x) (hf:1048577≤fu):Qlj fu x=some (Q4x x):=by
 have hs:=h.spots
 have hc:=h.cars
 unfold Qlj Q4x
 cases he:x.fF.length==x.fV.length
 · have:((x.fF.length:Int) != (x.fV.length:Int))=true:=by simp at he ⊢; omega
   rw [this]; rfl
 · have el:x.fF.length=x.fV.length:=by simpa using he
   have:((x.fF.length:Int) != (x.fV.length:Int))=false:=by simp; omega
   rw [this,cond_false,Bool.true_and]
   by_cases h1:(x.fV.length:Int)≤100
   · rw [show decide ((x.fV.length:Int)>100)=false by simp; omega,cond_false,show decide ((x.fV.length:Int)≤100)=true by simpa using h1,Bool.true_and]
     unfold Qqy
     have hz:(x.fV.zip x.fF).length=x.fV.length:=by simp; omega
     have key:=lp (x.fV.zip x.fF) (λn (_:Unit) i=>Qgt fu x n i) (λl _=>some (l.all λp=>Q87 p.1&&Je7 p.2)) (by omega) ?_ ?_ fu () (by omega)
     · exact key
     · intro n _ i p xs hx hd ih
       have ih:=ih ()
       obtain ⟨e1,e2⟩:=Q00 hx
       have hu:=h.units p.1 (Qgb e1)
       rw [hz] at hd
       simp only [Qgt.eq_2]
       unfold Qn9 Qqv
       simp only [hd,cond_true,e1,e2,Qab,Q5d,Jkf hu (show p.1.fO.length<fu by omega),Q6o,ih,List.all_cons]
       unfold Q87 Je7
       cases inb p.1.qJ 0 999 <;> cases inb p.1.fM 0 3 <;> cases Jfy p.1.fO <;> cases inb p.2.fJ 0 2000 <;> cases inb p.2.fX 0 2000 <;> cases inb p.2.fY 0 2000 <;> cases inb p.2.fZ 0 2000 <;> rfl
     · intro n _ i hd
       rw [hz] at hd
       simp only [Qgt.eq_2]
       unfold Qn9
       simp [hd]
   · rw [show decide ((x.fV.length:Int)>100)=true by simp; omega,cond_true,show decide ((x.fV.length:Int)≤100)=false by simpa using h1,Bool.false_and]
theorem Jjz {fu:Nat} {x:Plan} (h:Sp x) (hf:1048577≤fu):Qrj fu x=some (Q4x x):=by
 have hs:=h.spots
 have hc:=h.cars
 unfold Qrj Q4x
 cases he:x.fF.length==x.fV.length
 · have:((x.fV.length:Int) != (x.fF.length:Int))=true:=by simp at he ⊢; omega
   rw [this]; rfl
 · have el:x.fF.length=x.fV.length:=by simpa using he
   have:((x.fV.length:Int) != (x.fF.length:Int))=false:=by simp; omega
   rw [this,cond_false,Bool.true_and]
   by_cases h1:(x.fV.length:Int)≤100
   · rw [show decide ((x.fV.length:Int)>100)=false by simp; omega,cond_false,show decide ((x.fV.length:Int)≤100)=true by simpa using h1,Bool.true_and]
     unfold Qqo
     have hz:(x.fV.zip x.fF).length=x.fV.length:=by simp; omega
     have key:=lp (x.fV.zip x.fF) (λn (_:Unit) i=>Qgs fu x n i) (λl _=>some (l.all λp=>Q87 p.1&&Je7 p.2)) (by omega) ?_ ?_ fu () (by omega)
     · exact key
     · intro n _ i p xs hx hd ih
       have ih:=ih ()
       obtain ⟨e1,e2⟩:=Q00 hx
       have hu:=h.units p.1 (Qgb e1)
       rw [hz] at hd
       simp only [Qgs.eq_2]
       unfold Qnq Qqs
       simp only [hd,cond_true,e1,e2,Qab,Q3r,Jjw hu (show p.1.fO.length<fu by omega),ih,List.all_cons]
       unfold Je7
       cases Q87 p.1 <;> cases inb p.2.fJ 0 2000 <;> cases inb p.2.fX 0 2000 <;> cases inb p.2.fY 0 2000 <;> cases inb p.2.fZ 0 2000 <;> rfl
     · intro n _ i hd
       rw [hz] at hd
       simp only [Qgs.eq_2]
       unfold Qnq
       simp [hd]
   · rw [show decide ((x.fV.length:Int)>100)=true by simp; omega,cond_true,show decide ((x.fV.length:Int)≤100)=false by simpa using h1,Bool.false_and]
def onL (k:Int):Int→List Spot→List Int
 | _,[]=>[]
 | i,s::l=>bif s.fJ==k then i::onL k (i+1) l else onL k (i+1) l
def onM (x:Plan) (k:Int):List Int:=bif x.fF.length==x.fV.length then onL k 0 x.fF else []
theorem Q9h (k:Int):∀ (l:List Spot) (a i:Int),i∈onL k a l↔∃ (j:Nat) (s:Spot),l[j]? = some s∧i=a+j∧s.fJ=k
 | [],a,i=>by simp [onL]
 | s::l,a,i=>by
  have ih:=Q9h k l (a+1) i
  constructor
  · intro h
    unfold onL at h
    cases hk:s.fJ==k
    · rw [hk,cond_false] at h
      obtain ⟨j,t,h1,h2,h3⟩:=ih.1 h
      exact ⟨j+1,t,by simpa using h1,by omega,h3⟩
    · rw [hk,cond_true,List.mem_cons] at h
      rcases h with rfl | h
      · exact ⟨0,s,rfl,by omega,by simpa using hk⟩
      · obtain ⟨j,t,h1,h2,h3⟩:=ih.1 h
        exact ⟨j+1,t,by simpa using h1,by omega,h3⟩
  · rintro ⟨j,t,h1,h2,h3⟩
    unfold onL
    cases j with
    | zero =>
     simp only [List.getElem?_cons_zero,Option.some.injEq] at h1
     subst h1
     rw [show (s.fJ==k)=true by simpa using h3,cond_true]
     simp; omega
    | succ j =>
     have:i∈onL k (a+1) l:=ih.2 ⟨j,t,by simpa using h1,by omega,h3⟩
     cases s.fJ==k <;> simp [this]
theorem Q9j (k:Int):∀ (l:List Spot) (a:Int),(onL k a l).length≤l.length
 | [],_=>Nat.le_refl _
 | s::l,a=>by
  have:=Q9j k l (a+1)
  unfold onL
  cases s.fJ==k <;> simp <;> omega
theorem Jb3 (x:Plan) (k:Int):(onM x k).length≤x.fF.length:=by
 unfold onM
 cases x.fF.length==x.fV.length
 · simp
 · exact Q9j k _ 0
theorem Q3x {x:Plan} {k i:Int} (h:i∈onM x k):∃ c s,ix x.fV i=some c∧ix x.fF i=some s∧s.fJ=k:=by
 unfold onM at h
 cases he:x.fF.length==x.fV.length
 · rw [he] at h; simp at h
 · rw [he,cond_true] at h
   obtain ⟨j,s,h1,h2,h3⟩:=(Q9h k _ 0 i).1 h
   have hj:=(List.getElem?_eq_some_iff.1 h1).1
   have hl:x.fF.length=x.fV.length:=by simpa using he
   have e:i=(j:Int):=by omega
   subst e
   exact ⟨_,s,Qzs (by omega),Jai h1,h3⟩
theorem Jli {fu:Nat} {x:Plan} (hl:x.fF.length≤1048576) (hf:x.fF.length<fu) (k:Int):Qj9 fu x k=some (onM x k):=by
 unfold Qj9 onM
 cases he:x.fF.length==x.fV.length
 · have:((x.fF.length:Int) != (x.fV.length:Int))=true:=by simp at he ⊢; omega
   rw [this]; rfl
 · have:((x.fF.length:Int) != (x.fV.length:Int))=false:=by simp at he ⊢; omega
   rw [this,cond_false,cond_true]
   have key:=Jd9 x.fF (λn (o:List Int) i=>Qe4 fu x k n o i) (λpre xs o=>some (o++onL k pre.length xs)) (λpre xs o=>o.length+xs.length≤1048576) (by omega) ?_ ?_ fu [] (by simp; omega) hf
   · simpa using key
   · intro n o pre s xs e hx hd hI ih
     simp only [List.length_cons] at hI
     simp only [Qe4.eq_2]
     unfold Qj0 Qjh onL
     rw [hd,cond_true,hx,Qab]
     cases s.fJ==k
     · rw [cond_false,cond_false,ih _ (by omega)]; simp
     · rw [cond_true,cond_true,ap1 (by simp; omega),Qab,ih _ (by simp; omega)]; simp
   · intro n o hd _
     simp only [Qe4.eq_2]
     unfold Qj0
     rw [hd,cond_false]; simp [onL]
def Jl4:Carton:=⟨0,0,[]⟩
def Q3n (x:Plan) (i:Int):Carton:=(ix x.fV i).getD Jl4
def pgM (r:Request) (x:Plan) (k:Int):Int:=Qsr ((onM x k).map λi=>Q8l r (Q3n x i))
theorem Jir (r:Request) (c:Carton) (hl:c.fO.length≤1048576):0≤Q8l r c∧Q8l r c≤104857700000:=by
 unfold Q8l
 cases ht:Qty r c.qJ with
 | none=>simp
 | some t =>
  cases hc:Qhg r==0
  · simp
  · have h1:=Jbd (by simpa using hc) ht
    have h2:=Q6e r c.fO
    simp only [cond_true]
    omega
theorem Jlw {fu:Nat} {r:Request} (h:Sm fu r) {x:Plan} (hx:Sp x) (k:Int):Qka fu r x k=some (pgM r x k):=by
 have hfu:=h.fu
 have h1:=hx.spots
 have h2:=Jb3 x k
 unfold Qka pgM
 rw [Jli h1 (by omega),Qab]
 have key:=lpI (onM x k) (λn (s:Int) i=>Qe0 fu r x (onM x k) n s i) (λl s=>some (s+Qsr (l.map λi=>Q8l r (Q3n x i)))) (λl s=>0≤s∧s+104857700000*l.length≤104857700000*1048576∧∀ i∈l,∃ c,ix x.fV i=some c) (by omega) ?_ ?_ fu 0 ⟨by omega,by omega,λi hi=>?_⟩ (by omega)
 · simpa using key
 · intro n s i j xs hj hd hI ih
   obtain ⟨c,hc⟩:=hI.2.2 j (by simp)
   have hcu:=hx.units c (Qgb hc)
   have hg:=Jir r c hcu
   have hI2:=hI.2.1
   simp only [List.length_cons] at hI2
   simp only [Qe0.eq_2]
   unfold Qin
   rw [hd,cond_true,hj,Qab,hc,Qab,Q9b h c hcu,Qab,Qbe (by omega) (by omega),ih _ ⟨by omega,by omega,λi hi=>hI.2.2 i (by simp [hi])⟩]
   simp only [List.map_cons,Qfy,Q3n,hc,Option.getD_some]
   congr 1
   omega
 · intro n s i hd _
   simp only [Qe0.eq_2]
   unfold Qin
   rw [hd,cond_false]; simp
 · obtain ⟨c,_,hc,_⟩:=Q3x hi
   exact ⟨c,hc⟩
def Qwv (l:List Carton):List Int:=(l.map (·.fO)).flatten
theorem Q0c (l:List Carton):(Qwv l).length=Q8q l:=by
 induction l with
 | nil=>rfl
 | cons c l ih =>
  have e:Qwv (c::l)=c.fO++Qwv l:=rfl
  rw [e,List.length_append,ih]; rfl
theorem Jex {fu:Nat} {x:Plan} (h:Sp x) (hf:1048577≤fu):Qkv fu x=some (Qwv x.fV):=by
 have hc:=h.cars
 have hl:=Q0c x.fV
 have ha:=h.all
 unfold Qkv
 have:=lpI x.fV (λn out i=>Qgj fu x n out i) (λxs out=>some (out++Qwv xs)) (λxs out=>out.length+(Qwv xs).length≤1048576) (by omega) ?_ ?_ fu [] (by simp; omega) (by omega)
 · simpa using this
 · intro n out i c xs hx hd hI ih
   have e:Qwv (c::xs)=c.fO++Qwv xs:=rfl
   rw [e,List.length_append] at hI
   simp only [Qgj.eq_2]
   unfold Qj5
   rw [hd,cond_true,hx,Qab,ap1 (by omega),Qab,ih _ (by simp; omega),e]
   simp
 · intro n out i hd hI
   simp only [Qgj.eq_2]
   unfold Qj5
   simp only [hd,cond_false]
   simp [Qwv]
def Jji (r:Request) (x:Plan):List Int:=(Qf5 0 (Qi4 r).length).filter λu=>!(Qwv x.fV).contains u
theorem Jjb {fu:Nat} {r:Request} (h:Sm fu r) {x:Plan} (hx:Sp x):Qto fu r x=some (Jji r x):=by
 have hfu:=h.fu
 have hul:=Qv1 r
 have hfl:=Q0c x.fV
 have ha:=hx.all
 unfold Qto Jji
 rw [Jex hx (by omega),Qab,Jcf h,Qab,Q4i _ (by omega) (by omega),Qab,Jh6 (λy=>Qrz fu y (Qwv x.fV)) (λu=>(Qwv x.fV).contains u) (λu _=>by unfold Qrz; rw [Jfn (by omega) (by omega)]; rfl) (by rw [Qcq]; omega) (by rw [Qcq]; omega),Qab]
theorem Jdr {fu:Nat} {l:List Carton} (f:Carton→Option Bool) (g:Carton→Bool) (hg:∀ x∈l,f x=some (g x)) (hl:l.length≤1048576) (hf:l.length<fu):Qbx fu l f=some (Qyk g l 0):=by
 unfold Qbx
 refine Qt2 l (λn i=>Qa0 fu l f n i) g (by omega) ?_ ?_ fu hf
 · intro n i x hx hd
   simp only [Qa0.eq_2]
   unfold Qb2
   simp only [hd,cond_true,hx,Qab,hg x (Qgb hx)]
 · intro n i hd
   simp only [Qa0.eq_2]
   unfold Qb2
   simp only [hd,cond_false]
theorem Jdf {fu:Nat} {l:List Carton} (f:Carton→Option Bool) (g:Carton→Bool) (hg:∀ x∈l,f x=some (g x)) (hl:l.length≤1048576) (hf:l.length<fu):Qbm fu l f=some (l.any g):=by
 unfold Qbm
 rw [Jdr f g hg hl hf,Qab,Qt0 g l 0 (by omega)]
def Jja (x:Plan):Bool:=x.fV.any λc=>(c.fO.length:Int)==0
def Q8n (r:Request) (x:Plan):Bool:=Jjn (Qwv x.fV) (Qf5 0 (Qi4 r).length)
theorem Q7r {r:Request} {x:Plan}:Q8n r x=true↔(Qwv x.fV).Perm (Qf5 0 (Qi4 r).length):=Jdk
theorem Q6v (a:Int) (n:Nat):(Qf5 a n).mergeSort (λx y=>decide (x≤y))=Qf5 a n :=
 List.mergeSort_of_pairwise ((Qup a n).imp λh=>by simpa using (show _≤_ by omega))
def chB (r:Request) (c:Carton):Bool:=match Qty r c.qJ with | some t=>Qzd r c.fO t | none=>false
def cgB (r:Request) (c:Carton):Bool:=c.fO.all λu=>Jhv (Qhs r) (Qu4 r u).fL==c.fM
def ccB (r:Request) (c:Carton):Bool:=(Qwy r c.fO).2&&(Qwy r c.fO).1.qQ==c.qJ
def cs (x:Plan):List (Carton×Spot):=x.fV.zip x.fF
def Jha (r:Request) (p:Carton×Spot):Bool:=Jil r.fJ (Qs6 r p.1) p.2
def ovP (r:Request) (p q:Carton×Spot):Bool:=Jie (Qs6 r p.1) p.2 (Qs6 r q.1) q.2
def Jcr (r:Request):List (Carton×Spot)→List (Carton×Spot)→Bool
 | _,[]=>true
 | pre,p::l=>pre.all (λq=>!ovP r p q)&&Jcr r (pre++[p]) l
theorem Jh0 {x:Plan} (el:x.fF.length=x.fV.length):(cs x).length=x.fV.length:=by simp [cs]; omega
def plB (r:Request) (x:Plan) (k:Int):Bool :=
 !(((onM x k).length:Int)==0)&&(!(decide (pgM r x k>r.fJ.fQ))&&(onM x k).all λi=>(Q3n x i).fM==(Q3n x (ix (onM x k) 0 |>.getD 0)).fM)
theorem Q9q {x:Plan} {k:Int} (hne:(((onM x k).length:Int)==0)=false):∃ i0 c0,ix (onM x k) 0=some i0∧ix x.fV i0=some c0∧∃ rest,onM x k=i0::rest:=by
 cases hl:onM x k with
 | nil=>simp [hl] at hne
 | cons i0 rest =>
  obtain ⟨c0,_,h1,_⟩:=Q3x (show i0∈onM x k by rw [hl]; simp)
  exact ⟨i0,c0,rfl,h1,rest,rfl⟩
def Jg3 (r:Request) (x:Plan):Int :=
 bif !(Qhg r==0) then 1 else bif !(Q4x x) then 2 else bif Jja x then 2 else bif !(Q8n r x) then 3 else bif !(x.fV.all (chB r)) then 4 else
 bif !(x.fV.all (cgB r)) then 5 else bif !(x.fV.all (ccB r)) then 6 else bif !((cs x).all (Jha r)) then 7 else bif !(Jcr r [] (cs x)) then 8 else
 bif !((Qf5 0 (Qzp x.fF).toNat).all (plB r x)) then 9 else 0
theorem Jbz {x:Plan} (h:Q4x x=true):x.fF.length=x.fV.length:=by
 unfold Q4x at h
 simp only [Bool.and_eq_true] at h
 simpa using h.1
theorem Jfg {r:Request} {id:Int} {t:Typ} (h:Qty r id=some t):t∈r.fR:=List.mem_of_find?_eq_some h
theorem Jac (r:Request) (us:List Int):∀ (l:List Typ) (s:Typ×Bool),(l.foldl (chp r us) s).2=(s.2||l.any (Qzd r us))
 | [],s=>by simp
 | t::l,s=>by
  rw [List.foldl_cons,Jac r us l,List.any_cons]
  unfold chp
  obtain ⟨b,f⟩:=s
  cases Qzd r us t <;> cases f <;> simp
  cases (decide (t.fK<b.fK)||t.fK==b.fK&&decide (t.qQ<b.qQ)) <;> simp
theorem Q8i {r:Request} {us:List Int} {t:Typ} (ht:t∈r.fR) (h:Qzd r us t=true):(Qwy r us).2=true:=by
 unfold Qwy
 rw [Jac]
 simp only [Bool.false_or]
 exact List.any_eq_true.2 ⟨t,ht,h⟩
theorem Jj1 {r:Request} {c:Carton} (h:chB r c=true):∀ u∈c.fO,0≤u∧u<(Qi4 r).length:=by
 unfold chB at h
 intro u hu
 split at h
 · simp only [Qzd,Bool.and_eq_true] at h
   have:=List.all_eq_true.1 h.2.1 u hu
   simp only [uOk,Bool.and_eq_true] at this
   exact Qyf.1 this.1
 · cases h
theorem Jas {r:Request} {u:Int} (hu:0≤u∧u<(Qi4 r).length) {g:Int} (hg:0≤g) :
    (Jhv (Qhs r) (Qu4 r u).fL==g)=(match ix (Qhs r) g with | some l=>l.contains (Qu4 r u).fL | none=>false):=by
 have hi:=Qvk hu
 obtain ⟨i,l,h1,h2,h3⟩:=Jaj (Jba hi)
 rw [h3]
 apply Bool.eq_iff_iff.2
 constructor
 · intro h
   have e:(i:Int)=g:=by simpa using h
   rw [← e,Jai h1]
   simpa using h2
 · intro h
   cases hx:ix (Qhs r) g with
   | none=>rw [hx] at h; cases h
   | some m =>
    rw [hx] at h
    obtain ⟨g0,g1,g2⟩:=Qal hx
    have:=Q1c h1 g2 h2 (by simpa using h)
    simp; omega
theorem Jf2 {fu:Nat} {r:Request} (h:Sm fu r) {x:Plan} (hx:Sp x) (hg:∀ c∈x.fV,0≤c.fM):Qi8 fu r x =
    some (bif !(x.fV.all (chB r)) then 4 else bif !(x.fV.all (cgB r)) then 5 else bif !(x.fV.all (ccB r)) then 6 else 0):=by
 have hfu:=h.fu
 have hc:=hx.cars
 unfold Qi8
 have key:=lpI x.fV (λn (_:Unit) i=>Qdp fu r x n i) (λl _=>some (bif !(l.all (chB r)) then 4 else bif !(x.fV.all (cgB r)) then 5 else bif !(x.fV.all (ccB r)) then 6 else 0))
  (λl _=>l.all (chB r)=true→x.fV.all (chB r)=true) (by omega) ?_ ?_ fu () (λh=>h) (by omega)
 · exact key
 · intro n _ i c xs e hd hI ih
   have hu:=hx.units c (Qgb e)
   simp only [Qdp.eq_2]
   unfold Qh1 Qi0
   rw [hd,cond_true,e,Qab,Qxp h,Qab,List.all_cons]
   rw [List.all_cons] at hI
   cases ht:Qty r c.qJ with
   | none=>rw [show chB r c=false by unfold chB; rw [ht]]; rfl
   | some t =>
    simp only [Qzi,Bool.not_true,cond_false]
    rw [Jbf h _ t hu,Qab]
    have e1:chB r c=Qzd r c.fO t:=by unfold chB; rw [ht]
    rw [e1] at hI ⊢
    cases hh:Qzd r c.fO t
    · rfl
    · rw [hh,Bool.true_and] at hI
      rw [Bool.not_true,cond_false,ih () hI,Bool.true_and]
 · intro n _ i hd hI
   have hA:=hI rfl
   simp only [Qdp.eq_2]
   unfold Qh1
   rw [hd,cond_false,Jc5 h,Qab]
   show _=some (bif !(x.fV.all (cgB r)) then 5 else bif !(x.fV.all (ccB r)) then 6 else 0)
   have key2:=lp x.fV (λn (_:Unit) i=>Qek fu r x (Qhs r) n i) (λl _=>some (bif !(l.all (cgB r)) then 5 else bif !(x.fV.all (ccB r)) then 6 else 0)) (by omega) ?_ ?_ fu () (by omega)
   · exact key2
   · intro n _ i c xs e hd ih
     have ih:=ih ()
     have hu:=hx.units c (Qgb e)
     have hin:=Jj1 (List.all_eq_true.1 hA c (Qgb e))
     have hil:=Qw2 r c.fO
     simp only [Qek.eq_2]
     unfold Qh6
     rw [hd,cond_true,e,Qab,Q4d h _ hu (by omega),Qab,Q3s hin]
     rw [Qxr _ (λy=>!(match ix (Qhs r) c.fM with | some l=>l.contains y.fL | none=>false)) ?_ (by simp; omega) (by simp; omega),Qab,List.any_map,List.all_cons]
     · have e1:cgB r c=!(c.fO.any ((λy=>!(match ix (Qhs r) c.fM with | some l=>l.contains y.fL | none=>false)) ∘ Qu4 r)):=by
         unfold cgB
         rw [List.not_any_eq_all_not]
         apply Q36
         intro u hu'
         rw [Jas (hin u hu') (hg c (Qgb e))]
         simp only [Function.comp,Bool.not_not]
       rw [e1,ih]
       cases c.fO.any ((λy=>!(match ix (Qhs r) c.fM with | some l=>l.contains y.fL | none=>false)) ∘ Qu4 r) <;> simp
     · intro y _
       unfold Qj2
       have hg0:=hg c (Qgb e)
       by_cases hgl:c.fM≥(Qhs r).length
       · have e0:ix (Qhs r) c.fM=none:=by
           cases hq:ix (Qhs r) c.fM with
           | none=>rfl
           | some l=>have:=(Qal hq).2.1; omega
         rw [e0,decide_eq_true hgl,cond_true]; rfl
       · have hlt:c.fM.toNat<(Qhs r).length:=by omega
         have e0:ix (Qhs r) c.fM=some (Qhs r)[c.fM.toNat]:=by
          have:=Qzs hlt
          rwa [show ((c.fM.toNat:Nat):Int)=c.fM by omega] at this
         have hgl':=(Qt7 r).2 _ (List.getElem_mem hlt)
         rw [e0,decide_eq_false hgl,cond_false,Qab,Jfn (by omega) (by omega),Qab]
   · intro n _ i hd
     simp only [Qek.eq_2]
     unfold Qh6
     rw [hd,cond_false]
     show _=some (bif !(x.fV.all (ccB r)) then 6 else 0)
     have key3:=lpI x.fV (λn (_:Unit) i=>Qej fu r x n i) (λl _=>some (bif !(l.all (ccB r)) then 6 else 0)) (λl _=>l.all (chB r)=true) (by omega) ?_ ?_ fu () hA (by omega)
     · exact key3
     · intro n _ i c xs e hd hI ih
       have hu:=hx.units c (Qgb e)
       rw [List.all_cons,Bool.and_eq_true] at hI
       have hch:=hI.1
       have h2:(Qwy r c.fO).2=true:=by
        unfold chB at hch
        split at hch
        · rename_i t ht
          exact Q8i (Jfg ht) hch
        · cases hch
       simp only [Qej.eq_2]
       unfold Qh2
       rw [hd,cond_true,e,Qab,Jag h _ hu,Qab,ih () hI.2,List.all_cons,ccB,h2,Bool.true_and]
       simp only [bne]
       cases (Qwy r c.fO).1.qQ==c.qJ <;> rfl
     · intro n _ i hd _
       simp only [Qej.eq_2]
       unfold Qh2
       rw [hd,cond_false]; rfl
theorem Jfo {fu:Nat} {r:Request} (h:Sm fu r) {x:Plan} (hx:Sp x) (el:x.fF.length=x.fV.length):Qna fu r x =
    some (bif !((cs x).all (Jha r)) then 7 else bif !(Jcr r [] (cs x)) then 8 else bif !((Qf5 0 (Qzp x.fF).toNat).all (plB r x)) then 9 else 0):=by
 have hfu:=h.fu
 have hc:=hx.cars
 have hs:=hx.spots
 have hz:=Jh0 el
 have hb:=Q6g x.fF
 have bx_len:(((cs x).map λp=>Qs6 r p.1).length:Int)=x.fV.length:=by simp [hz]
 unfold Qna
 have key:=Jd9 (cs x) (λn (o:List Box) i=>Qfh fu r x n o i) (λ_ l _=>some (bif !(l.all (Jha r)) then 7 else bif !(Jcr r [] (cs x)) then 8 else bif !((Qf5 0 (Qzp x.fF).toNat).all (plB r x)) then 9 else 0))
  (λpre l o=>o=pre.map λp=>Qs6 r p.1) (by omega) ?_ ?_ fu [] rfl (by omega)
 · exact key
 · intro n o pre p xs e0 e hd hI ih
   obtain ⟨e1,e2⟩:=Q00 e
   have hu:=hx.units p.1 (Qgb e1)
   have hpl:pre.length≤(cs x).length:=by rw [e0]; simp
   rw [hz] at hd
   simp only [Qfh.eq_2]
   unfold Qi2
   rw [hd,cond_true,e1,Qab,Jem h _ hu,Qab,e2,Qab,Jkr,Qab,List.all_cons,Jha]
   cases Jil r.fJ (Qs6 r p.1) p.2
   · rfl
   · subst hI
     rw [Bool.not_true,cond_false,ap1 (by simp; omega),Qab,ih _ (by simp),Bool.true_and]
 · intro n o hd hI
   rw [hz] at hd ⊢
   simp only [Qfh.eq_2]
   unfold Qi2
   rw [hd,cond_false]
   show _=some (bif !(Jcr r [] (cs x)) then 8 else bif !((Qf5 0 (Qzp x.fF).toNat).all (plB r x)) then 9 else 0)
   subst hI
   have key2:=lpP (cs x) (λn (_:Unit) i=>Qds fu r x ((cs x).map λp=>Qs6 r p.1) n i) (λpre l _=>some (bif !(Jcr r pre l) then 8 else bif !((Qf5 0 (Qzp x.fF).toNat).all (plB r x)) then 9 else 0)) (by omega) ?_ ?_ fu () (by omega)
   · exact key2
   · intro n _ pre p xs e0 e hd ih
     have ih:=ih ()
     obtain ⟨e1,e2⟩:=Q00 e
     have hu:=hx.units p.1 (Qgb e1)
     have hpl:pre.length≤(cs x).length:=by rw [e0]; simp
     have b1:ix ((cs x).map λp=>Qs6 r p.1) (pre.length:Int)=some (Qs6 r p.1):=by
      rw [Qi5,List.getElem?_map]
      rw [Qi5] at e
      rw [e]; rfl
     simp only [Qds.eq_2]
     unfold Qja
     rw [bx_len,← hz,hd,cond_true]
     have key3:=lp pre (λm (_:Unit) j=>Qfj fu (Qds fu r x ((cs x).map λp=>Qs6 r p.1) n) x ((cs x).map λp=>Qs6 r p.1) (pre.length:Int) m j) (λl _=>some (bif !(l.all (λq=>!ovP r p q)&&Jcr r (pre++[p]) xs) then 8 else bif !((Qf5 0 (Qzp x.fF).toNat).all (plB r x)) then 9 else 0)) (by omega) ?_ ?_ fu () (by omega)
     · rw [key3]; rfl
     · intro m _ j q qs f hd2 ih2
       have ih2:=ih2 ()
       have f':ix (cs x) j=some q:=by rw [e0]; exact Jaf f
       obtain ⟨f1,f2⟩:=Q00 f'
       obtain ⟨j0,j1,j2⟩:=Qal f'
       have b2:ix ((cs x).map λp=>Qs6 r p.1) j=some (Qs6 r q.1):=by
        unfold ix
        rw [if_pos j0,List.getElem?_map,j2]; rfl
       simp only [Qfj.eq_2]
       unfold Qiz
       simp only [hd2,cond_true,b1,e2,b2,f2,Qab,Jk7,ih2,List.all_cons,ovP]
       cases Jie (Qs6 r p.1) p.2 (Qs6 r q.1) q.2 <;> rfl
     · intro m _ j hd2
       simp only [Qfj.eq_2]
       unfold Qiz
       rw [hd2,cond_false,ih]; rfl
   · intro n _ hd
     simp only [Qds.eq_2]
     unfold Qja
     rw [bx_len,← hz,hd,cond_false,Jd7 hs (by omega),Qab]
     show _=some (bif !((Qf5 0 (Qzp x.fF).toNat).all (plB r x)) then 9 else 0)
     have key4:=lpN (Qzp x.fF) (λn (_:Unit) i=>Qdr fu r x (Qzp x.fF) n i) (λl _=>some (bif !(l.all (plB r x)) then 9 else 0)) (by omega) ?_ ?_ (Qzp x.fF).toNat fu () 0 (by omega) (by omega) (by omega)
     · exact key4
     · intro n _ k xs h0 h1 hd ih
       have ih:=ih ()
       have hol:=Jb3 x k
       simp only [Qdr.eq_2]
       unfold Qjf
       rw [hd,cond_true,Jli hs (by omega),Qab,List.all_cons]
       generalize xs.all (plB r x)=A at ih ⊢
       unfold plB
       cases hne:((onM x k).length:Int)==0
       · rw [cond_false,Jlw h hx,Qab,Bool.not_false,Bool.true_and]
         cases decide (pgM r x k>r.fJ.fQ)
         · obtain ⟨i0,c0,g1,g2,rest,g3⟩:=Q9q hne
           unfold Qlg Qk5
           rw [cond_false,g1,Option.getD_some,Bool.not_false,Bool.true_and]
           have e0:Q3n x i0=c0:=by unfold Q3n; rw [g2]; rfl
           rw [e0,Q7m _ (λi=>!((Q3n x i).fM==c0.fM)) ?_ (by omega) (by omega),Qab,ih]
           · rw [show (onM x k).all (λi=>(Q3n x i).fM==c0.fM)=!((onM x k).any λi=>!((Q3n x i).fM==c0.fM)) by rw [List.not_any_eq_all_not]; simp]
             cases (onM x k).any λi=>!((Q3n x i).fM==c0.fM) <;> simp
           · intro i hi
             obtain ⟨c,_,hci,_⟩:=Q3x hi
             unfold Qnp
             rw [hci,Qab,g1,Qab,g2,Qab,show Q3n x i=c by unfold Q3n; rw [hci]; rfl]
             rfl
         · rfl
       · rfl
     · intro n _ i hd
       simp only [Qdr.eq_2]
       unfold Qjf
       rw [hd,cond_false]; rfl
theorem Jbg {x:Plan} (h:Q4x x=true):∀ c∈x.fV,0≤c.fM∧c.fM≤3:=by
 have el:=Jbz h
 unfold Q4x at h
 simp only [Bool.and_eq_true] at h
 intro c hc
 obtain ⟨i,hi⟩:=List.mem_iff_getElem?.1 hc
 have hlt:=(List.getElem?_eq_some_iff.1 hi).1
 have hz:(c,x.fF[i]'(by omega))∈x.fV.zip x.fF:=by
  apply List.mem_iff_getElem?.2
  refine ⟨i,List.getElem?_zip_eq_some.2 ⟨hi,List.getElem?_eq_getElem _⟩⟩
 have:=List.all_eq_true.1 h.2.2 _ hz
 simp only [Q87,Bool.and_eq_true,Qcu] at this
 omega
theorem Jax {fu:Nat} {r:Request} (h:Sm fu r) {x:Plan} (hx:Sp x):Qoh fu r x=some (Jg3 r x):=by
 have hfu:=h.fu
 have hc:=hx.cars
 have hfl:=Q0c x.fV
 have ha:=hx.all
 have hul:=Qv1 r
 unfold Qoh Jg3
 rw [Qul h,Qab]
 cases hz:Qhg r==0
 · rfl
 · rw [Bool.not_true,cond_false,Jgy hx (by omega),Qab]
   cases hp:Q4x x
   · rfl
   · have el:=Jbz hp
     rw [Bool.not_true,cond_false,Jdf (l:=x.fV) (λy=>Qsq fu y) (λc=>(c.fO.length:Int)==0) (λc _=>rfl) hc (by omega),Qab]
     show (bif Jja x then _ else _)=_
     cases Jja x
     · rw [cond_false]
       unfold Qr5 Qcl
       rw [Jex hx (by omega),Qab,Q2l (by omega),Qab,Jcf h,Qab,Q4i _ (by omega) (by omega),Qab,Jfr _ _ (by simp; omega) (by simp; omega),Qab,Jf2 h hx (λc hc=>(Jbg hp c hc).1),Qab,Jfo h hx el,Qab]
       have e1:decide ((Qwv x.fV).mergeSort (λx y=>decide (x≤y))=Qf5 0 (Qi4 r).length)=Q8n r x:=by
        unfold Q8n Jjn
        rw [Q6v]
       rw [e1]
       cases Q8n r x
       · rfl
       · cases x.fV.all (chB r)
         · rfl
         · cases x.fV.all (cgB r)
           · rfl
           · cases x.fV.all (ccB r) <;> rfl
     · rfl
end Go.Proofs.YtpcmapfabndggaaGreatDoor
