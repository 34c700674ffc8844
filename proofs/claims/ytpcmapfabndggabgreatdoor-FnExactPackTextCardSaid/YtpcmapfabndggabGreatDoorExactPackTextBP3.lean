/- ExactPackTextBP: pla.. -/
import Derived.Test.YtpcmapfabndggabGreatDoorExactPackTextBP2
set_option linter.unusedSimpArgs false
set_option linter.unusedVariables false
namespace Go.Proofs.YtpcmapfabndggabGreatDoor
open Go
open Enc (rd ow)
open Arg (argv)
open Ret (retv)
open Wf (wf)
def inB (n lo hi:Int):Bool:=decide (lo≤n∧n≤hi)
theorem Q3o {n lo hi:Int}:inB n lo hi=true↔lo≤n∧n≤hi:=by simp [inB]
theorem Jdc (fu:Nat) (n lo hi:Int):Qat fu n lo hi=some (inB n lo hi):=by
 unfold Qat inB
 by_cases h:n≥lo
 · rw [Qa0 (by simpa using h)]
   have:lo≤n:=h
   simp [this]
 · rw [Qam (by simpa using h)]
   have:¬ lo≤n:=h
   simp [this]
theorem Jak (fu:Nat) (n lo hi:Int):Qay fu n lo hi=some (inB n lo hi):=Jdc fu n lo hi
def Qs4 (p:Pallet):Bool:=inB p.fW 1 2000&&(inB p.fD 1 2000&&(inB p.fH 1 2000&&inB p.fQ 1 100000))
def Jdn (p:Pallet) (b:Box):Bool:=inB b.fW 1 p.fW&&(inB b.fD 1 p.fD&&(inB b.fH 1 p.fH&&inB b.fQ 1 p.fQ))
def Q4q (p:Pallet) (l:List Box):Bool:=Qs4 p&&l.all (Jdn p)
theorem Qr2 (fu:Nat) (p:Pallet):Qel fu p=some (Qs4 p):=by
 unfold Qel Qds Qs4
 simp only [Jak,Qab]
 cases inB p.fW 1 2000 <;> cases inB p.fD 1 2000 <;> cases inB p.fH 1 2000 <;> rfl
theorem Q3k (fu:Nat) (b:Box) (p:Pallet):Qln fu b p=some (!Jdn p b):=by
 unfold Qln Jdn
 simp only [Jak,Qab]
 cases inB b.fW 1 p.fW <;> cases inB b.fD 1 p.fD <;> cases inB b.fH 1 p.fH <;> rfl
theorem Qzz (fu:Nat) (l:List Box) (f:Box→Option Bool) (g:Box→Bool) (hg:∀ b,f b=some (g b)) (h:l.length≤1048576) (hf:l.length<fu) :
    Qbx fu l f=some (l.any g):=by
 unfold Qbx Qc2
 have key:∀ (m i n:Nat),l.length - i=m→i≤l.length→m<n→∃ r,Qaw fu l f n i=some r∧decide (r≥0)=(l.drop i).any g:=by
  intro m
  induction m with
  | zero =>
   intro i n hm hi hn
   obtain ⟨n,rfl⟩:∃ k,n=k+1:=⟨n - 1,by omega⟩
   rw [Qaw.eq_2]
   unfold Qck
   rw [Qam (by simp; omega),List.drop_eq_nil_of_le (by omega)]
   exact ⟨_,rfl,rfl⟩
  | succ m ih =>
   intro i n hm hi hn
   obtain ⟨n,rfl⟩:∃ k,n=k+1:=⟨n - 1,by omega⟩
   have hlt:i<l.length:=by omega
   rw [Qaw.eq_2]
   unfold Qck
   rw [Qa0 (by simpa using hlt),Jcc (Jcr (List.getElem?_eq_getElem hlt)),hg,Qab,List.drop_eq_getElem_cons hlt,List.any_cons]
   cases hgx:g l[i]
   · rw [Qam rfl,Qa1 (by omega) (by omega),Bool.false_or]
     have:=ih (i+1) n (by omega) (by omega) (by omega)
     simpa using this
   · rw [Qa0 rfl]
     exact ⟨_,rfl,by simp⟩
 obtain ⟨r,h1,h2⟩:=key l.length 0 fu (by omega) (by omega) hf
 have h1':Qaw fu l f fu 0=some r:=h1
 rw [h1',Qab,h2]
 rfl
theorem Qui (fu:Nat) (p:Pallet) (l:List Box) (h:l.length≤1048576) (hf:l.length<fu):Qlx fu p l=some (Q4q p l):=by
 unfold Qlx Q4q
 rw [Qr2,Qab]
 cases Qs4 p
 · rfl
 rw [Qa0 rfl,Qzz fu l _ (λb=>!Jdn p b) (λb=>Q3k fu b p) h hf,Qab,Bool.true_and]
 congr 1
 induction l with
 | nil=>rfl
 | cons x xs ih =>
  simp only [List.any_cons,List.all_cons,Bool.not_or,Bool.not_not]
  rw [ih (by simp at h; omega) (by simp at hf; omega)]
theorem Jbk (p:Pallet) (l:List Box):Q4q p l=Qy0 p l:=by
 have e:∀ a b c:Int,inB a b c=inb a b c:=λa b c=>Bool.eq_iff_iff.2 (by rw [Q3o,Qdc])
 have e2:Jdn p=Q99 p:=by funext b; unfold Jdn Q99; simp only [e]
 unfold Q4q Qy0 Qs4 Qu0
 simp only [e,e2]
theorem Jc7 (a b:Int):(if b>a then b else a)=mxI a b:=by unfold mxI; split <;> split <;> omega
theorem Q1z {α:Type} (l:List α) (j:Nat) (a:α):Qhs l (j:Int) a=l.set j a:=by simp [Qhs]
theorem Ja8 {fu:Nat} {k8:List Shelf→Int→Option (List Shelf)} {x i:Int} {b:Box} {o:List Shelf} {j:Nat} {s:Shelf} (hs:o[j]? = some s) (hl:s.f0.length≤1000000)
    (h1:-1000000000≤s.fW+b.fW∧s.fW+b.fW≤1000000000) (h2:-1000000000≤s.fQ+b.fQ∧s.fQ+b.fQ≤1000000000):Qdf fu k8 x i b o (j:Int)=k8 (o.set j (Qrn s i b)) (w64 (x+1)):=by
 unfold Qdf Qoa
 rw [Qlf,hs,Qab,ap1 (by simp; omega),Qab]
 simp only [Qab,Q1z,List.set_set,Jc7]
 rw [Qa1 (n:=s.fW+b.fW) (by omega) (by omega),Qa1 (n:=s.fQ+b.fQ) (by omega) (by omega)]
 rfl
theorem Q7i {fu:Nat} (hfu:2097153≤fu) (p:Pallet) (l:List Box) (hl:l.length<20):Qpa fu p l=some (shM p l):=by
 unfold Qpa shM
 rw [Qui fu p l (by omega) (by omega),Qab,Jbk]
 cases hb:Qy0 p l
 · rfl
 · rw [Bool.not_true,cond_false,cond_true]
   have key:=lpI l (λn (o:List Int) i=>Qgf fu p l n o i) (λxs o=>Qac (Qgy fu (o++xs.map (·.fD))) λx=>Qb4 fu p l x fu [] 0) (λxs o=>o.length+xs.length≤1000) (by omega) ?_ ?_ fu [] (by simp; omega) (by omega)
   · rw [key,List.nil_append,Ja0 hfu (by simp; omega),Qab,List.length_map]
     have hsl:=Qsw (dnk (l.map (·.fD))) l.length
     have hsm:=λx=>Qv3 (k:=dnk (l.map (·.fD))) (n:=l.length) (x:=x)
     generalize srt (dnk (l.map (·.fD))) l.length=S at hsl hsm ⊢
     refine lpI S (λn (o:List Shelf) i=>Qb4 fu p l S n o i) (λxs o=>some (xs.foldl (shS p l) o)) (λxs o=>(∀ i∈xs,0≤i∧i<l.length)∧(∀ s∈o,ShI p l.length s)∧((o.map (·.f0)).flatten).length+xs.length≤1000∧o.length+xs.length≤1000) (by omega) ?_ ?_ fu [] ⟨λi hi=>(hsm i).1 hi,by simp,by simp; omega,by simp; omega⟩ (by omega)
     · intro n o i x xs hx hd hI ih
       obtain ⟨i1,i2,i3,i4⟩:=hI
       simp only [List.length_cons] at i3 i4
       have hxi:=i1 x (by simp)
       obtain ⟨hbx,b1,b2,b3,b4⟩:=Q29 hb hxi
       obtain ⟨p1,p2,p3,p4⟩:=Qwk (Q00 hb)
       have hflat:((shS p l o x).map (·.f0)).flatten=(o.map (·.f0)).flatten++[x]:=Qrt (λs=>rfl) rfl
       have hlen:(shS p l o x).length≤o.length+1:=Qs7 _ _ _ _
       have ih':=ih (shS p l o x) ⟨λj hj=>i1 j (by simp [hj]),Q3g hb hxi i2,by rw [hflat,List.length_append,List.length_singleton]; omega,by omega⟩
       simp only [Qb4.eq_2]
       unfold Qj3
       rw [hd,cond_true,hx,Qab,hbx,Qab,List.foldl_cons,← ih']
       have hnew:∀ o':List Shelf,o'.length≤1000→Qdf fu (λo i=>Qb4 fu p l S n o i) i x (bxA l x) (o'++[zSh]) ((o'.length:Nat):Int)=Qb4 fu p l S n (o'++[Qrn zSh x (bxA l x)]) (w64 (i+1)):=λo' ho'=>by
        rw [Ja8 (s:=zSh) (by simp) (by simp [zSh]) (by simp [zSh]; omega) (by simp [zSh]; omega)]
        simp
       by_cases he:o=[]
       · subst he
         rw [Qa0 (by decide),ap1 (by simp),Qab]
         exact hnew [] (by simp)
       · obtain ⟨s,e1,e2⟩:=Qt7 he
         have hp:=List.length_pos_iff.2 he
         have hsm':=List.mem_of_getLast? e1
         have hs:=i2 s hsm'
         have hsl':=Qq3 (λs:Shelf=>s.f0) o s hsm'
         have eS:shS p l o x=bif Q51 p (bxA l x) s then o.set (o.length - 1) (Qrn s x (bxA l x)) else o++[Qrn zSh x (bxA l x)]:=Qt9 e1
         have e3:w64 ((o.length:Int) - 1)=((o.length - 1:Nat):Int):=by rw [Qa1 (by omega) (by omega)]; omega
         have e4:w64 (((o.length - 1:Nat):Int)+1)=((o.length:Nat):Int):=by rw [Qa1 (by omega) (by omega)]; omega
         have e5:o[o.length - 1]? = some s:=by rw [← List.getLast?_eq_getElem?]; exact e1
         obtain ⟨s1,s2,s3,s4,s5,s6⟩:=hs
         rw [e3,e4,Qam (by simp),Qlf,e5,Qab,Qa1 (n:=s.fW+_) (by omega) (by omega),Qa1 (n:=s.fQ+_) (by omega) (by omega),ap1 (by simp; omega),Qab,eS]
         unfold Q51
         have c1:decide (s.fW+(bxA l x).fW>p.fW)=!decide (s.fW+(bxA l x).fW≤p.fW):=by
          by_cases h:s.fW+(bxA l x).fW≤p.fW <;> simp [h] <;> omega
         have c2:decide (s.fQ+(bxA l x).fQ>p.fQ)=!decide (s.fQ+(bxA l x).fQ≤p.fQ):=by
          by_cases h:s.fQ+(bxA l x).fQ≤p.fQ <;> simp [h] <;> omega
         rw [c1,c2,Qab]
         have h1:=hnew o (by omega)
         have h2:Qdf fu (λo i=>Qb4 fu p l S n o i) i x (bxA l x) o ((o.length - 1:Nat):Int)=Qb4 fu p l S n (o.set (o.length - 1) (Qrn s x (bxA l x))) (w64 (i+1)):=Ja8 e5 (by omega) (by omega) (by omega)
         cases decide (s.fW+(bxA l x).fW≤p.fW)
         · exact h1
         · cases decide (s.fQ+(bxA l x).fQ≤p.fQ)
           · exact h1
           · exact h2
     · intro n o i hd _
       simp only [Qb4.eq_2]
       unfold Qj3
       rw [hd,cond_false]; rfl
   · intro n o i x xs hx hd hI ih
     simp only [List.length_cons] at hI
     simp only [Qgf.eq_2]
     unfold Qkw
     rw [hd,cond_true,hx,Qab,ap1 (by simp; omega),Qab,ih _ (by simp; omega)]
     simp
   · intro n o i hd _
     simp only [Qgf.eq_2]
     unfold Qkw
     rw [hd,cond_false]; simp
theorem Jbh {fu:Nat} {k7:List Layer→Int→Option (List Layer)} {i:Int} {b:Shelf} {o:List Layer} {j:Nat} {s:Layer} (hs:o[j]? = some s) (hl:s.fP.length≤1000000)
    (h1:-1000000000≤s.fD+b.fD∧s.fD+b.fD≤1000000000) (h2:-1000000000≤s.fQ+b.fQ∧s.fQ+b.fQ≤1000000000):Qc6 fu k7 i b o (j:Int)=k7 (o.set j (Qsv s i b)) (w64 (i+1)):=by
 unfold Qc6 Qmp
 rw [Qlf,hs,Qab,ap1 (by simp; omega),Qab]
 simp only [Qab,Q1z,List.set_set,Jc7]
 rw [Qa1 (n:=s.fD+b.fD) (by omega) (by omega),Qa1 (n:=s.fQ+b.fQ) (by omega) (by omega)]
 rfl
theorem Qwx (fu:Nat) (l:List Shelf) (f:Shelf→Option Bool) (g:Shelf→Bool) (hg:∀ b,f b=some (g b)) (h:l.length≤1048576) (hf:l.length<fu) :
    Qbl fu l f=some (l.any g):=by
 unfold Qbl Qcl
 have key:∀ (m i n:Nat),l.length - i=m→i≤l.length→m<n→∃ r,Qas fu l f n i=some r∧decide (r≥0)=(l.drop i).any g:=by
  intro m
  induction m with
  | zero =>
   intro i n hm hi hn
   obtain ⟨n,rfl⟩:∃ k,n=k+1:=⟨n - 1,by omega⟩
   rw [Qas.eq_2]
   unfold Qb0
   rw [Qam (by simp; omega),List.drop_eq_nil_of_le (by omega)]
   exact ⟨_,rfl,rfl⟩
  | succ m ih =>
   intro i n hm hi hn
   obtain ⟨n,rfl⟩:∃ k,n=k+1:=⟨n - 1,by omega⟩
   have hlt:i<l.length:=by omega
   rw [Qas.eq_2]
   unfold Qb0
   rw [Qa0 (by simpa using hlt),Jcc (Jcr (List.getElem?_eq_getElem hlt)),hg,Qab,List.drop_eq_getElem_cons hlt,List.any_cons]
   cases hgx:g l[i]
   · rw [Qam rfl,Qa1 (by omega) (by omega),Bool.false_or]
     have:=ih (i+1) n (by omega) (by omega) (by omega)
     simpa using this
   · rw [Qa0 rfl]
     exact ⟨_,rfl,by simp⟩
 obtain ⟨r,h1,h2⟩:=key l.length 0 fu (by omega) (by omega) hf
 have h1':Qas fu l f fu 0=some r:=h1
 rw [h1',Qab,h2]
 rfl
theorem Jhz {fu:Nat} (p:Pallet) (l:List Shelf) (hl:l.length≤1048576) (hf:l.length<fu):Qlu fu p l=some (Qu0 p&&l.all λs=>okL p s.fD s.fH s.fQ):=by
 unfold Qlu
 have e:∀ a b c:Int,inB a b c=inb a b c:=λa b c=>Bool.eq_iff_iff.2 (by rw [Q3o,Qdc])
 have ep:Qs4 p=Qu0 p:=by unfold Qs4 Qu0; simp only [e]
 rw [Qr2,Qab,ep,Qwx fu l _ (λs=>!okL p s.fD s.fH s.fQ) (λs=>by
  unfold Qmw okL
  simp only [Jak,Qab,e]
  cases inb s.fD 1 p.fD <;> cases inb s.fH 1 p.fH <;> rfl) hl hf,Qab]
 cases Qu0 p
 · rfl
 · rw [cond_true,Bool.true_and]
   congr 1
   rw [Bool.eq_iff_iff]
   simp
theorem Q9y {fu:Nat} (hfu:2097153≤fu) {p:Pallet} (hp:Qu0 p=true) {l:List Shelf} (hb:OkS p l) (hl:l.length≤1000):Qm7 fu p l=some (lyM p l):=by
 unfold Qm7 lyM
 rw [Jhz p l (by omega) (by omega),hp,Je8 hb,Qab,Bool.and_self,Bool.not_true,cond_false]
 obtain ⟨p1,p2,p3,p4⟩:=Qwk hp
 refine Q54 (l.length:Int) (λn (o:List Layer) i=>Qb3 fu p l n o i) (λxs o=>some (xs.foldl (lyS p l) o)) (λxs o=>(∀ s∈o,LyI p l.length s)∧((o.map (·.fP)).flatten).length+xs.length≤1000∧o.length+xs.length≤1000) (by omega) ?_ ?_ l.length fu [] 0 (by omega) (by omega) (by omega) ⟨by simp,by simp [Qcn]; omega,by simp [Qcn]; omega⟩
 · intro n o i xs x0 x1 hd hI ih
   obtain ⟨i2,i3,i4⟩:=hI
   simp only [List.length_cons] at i3 i4
   obtain ⟨hbx,b1,b2,b3,_⟩:=Q26 hb ⟨x0,x1⟩
   have hflat:((lyS p l o i).map (·.fP)).flatten=(o.map (·.fP)).flatten++[i]:=Qrt (λs=>rfl) rfl
   have hlen:(lyS p l o i).length≤o.length+1:=Qs7 _ _ _ _
   have ih':=ih (lyS p l o i) ⟨Q32 hb ⟨x0,x1⟩ i2,by rw [hflat,List.length_append,List.length_singleton]; omega,by omega⟩
   simp only [Qb3.eq_2]
   unfold Qiu
   rw [hd,cond_true,hbx,Qab,List.foldl_cons,← ih']
   have hnew:∀ o':List Layer,o'.length≤1000→Qc6 fu (λo i=>Qb3 fu p l n o i) i (shA l i) (o'++[zLy]) ((o'.length:Nat):Int)=Qb3 fu p l n (o'++[Qsv zLy i (shA l i)]) (w64 (i+1)):=λo' ho'=>by
    rw [Jbh (s:=zLy) (by simp) (by simp [zLy]) (by simp [zLy]; omega) (by simp [zLy]; omega)]
    simp
   by_cases he:o=[]
   · subst he
     rw [Qa0 (by decide),ap1 (by simp),Qab]
     exact hnew [] (by simp)
   · obtain ⟨s,e1,e2⟩:=Qt7 he
     have hp:=List.length_pos_iff.2 he
     have hsm':=List.mem_of_getLast? e1
     have hs:=i2 s hsm'
     have hsl':=Qq3 (λs:Layer=>s.fP) o s hsm'
     have eS:lyS p l o i=bif Q56 p (shA l i) s then o.set (o.length - 1) (Qsv s i (shA l i)) else o++[Qsv zLy i (shA l i)]:=Qt9 e1
     have e3:w64 ((o.length:Int) - 1)=((o.length - 1:Nat):Int):=by rw [Qa1 (by omega) (by omega)]; omega
     have e4:w64 (((o.length - 1:Nat):Int)+1)=((o.length:Nat):Int):=by rw [Qa1 (by omega) (by omega)]; omega
     have e5:o[o.length - 1]? = some s:=by rw [← List.getLast?_eq_getElem?]; exact e1
     obtain ⟨s1,s2,s4,s5,s6⟩:=hs
     rw [e3,e4,Qam (by simp),Qlf,e5,Qab,Qa1 (n:=s.fD+_) (by omega) (by omega),Qa1 (n:=s.fQ+_) (by omega) (by omega),ap1 (by simp; omega),Qab,eS]
     unfold Q56
     have c1:decide (s.fD+(shA l i).fD>p.fD)=!decide (s.fD+(shA l i).fD≤p.fD):=by
      by_cases h:s.fD+(shA l i).fD≤p.fD <;> simp [h] <;> omega
     have c2:decide (s.fQ+(shA l i).fQ>p.fQ)=!decide (s.fQ+(shA l i).fQ≤p.fQ):=by
      by_cases h:s.fQ+(shA l i).fQ≤p.fQ <;> simp [h] <;> omega
     rw [c1,c2,Qab]
     have h1:=hnew o (by omega)
     have h2:Qc6 fu (λo i=>Qb3 fu p l n o i) i (shA l i) o ((o.length - 1:Nat):Int)=Qb3 fu p l n (o.set (o.length - 1) (Qsv s i (shA l i))) (w64 (i+1)):=Jbh e5 (by omega) (by omega) (by omega)
     cases decide (s.fD+(shA l i).fD≤p.fD)
     · exact h1
     · cases decide (s.fQ+(shA l i).fQ≤p.fQ)
       · exact h1
       · exact h2
 · intro n o i hd _
   simp only [Qb3.eq_2]
   unfold Qiu
   rw [hd,cond_false]; rfl
def zSp:Spot:=⟨0,0,0,0⟩
def ldA (l:List Load) (i:Int):Load:=(ix l i).getD zLd
def spB (l:List Box) (o y z:Int) (is:List Int) (s:List Spot×Int):List Spot×Int:=is.foldl (λs b=>(Qhs s.1 b ⟨o,s.2,y,z⟩,s.2+(bxA l b).fW)) s
def spS (l:List Box) (sh:List Shelf) (o z:Int) (js:List Int) (s:List Spot×Int):List Spot×Int:=js.foldl (λs j=>((spB l o s.2 z (shA sh j).f0 (s.1,0)).1,s.2+(shA sh j).fD)) s
def spY (l:List Box) (sh:List Shelf) (ly:List Layer) (o:Int) (is:List Int) (s:List Spot×Int):List Spot×Int:=is.foldl (λs i=>((spS l sh o s.2 (lyA ly i).fP (s.1,0)).1,s.2+(lyA ly i).fH)) s
def spO (l:List Box) (sh:List Shelf) (ly:List Layer) (ld:List Load) (os:List Int) (out:List Spot):List Spot:=os.foldl (λout o=>(spY l sh ly o (ldA ld o).fK (out,0)).1) out
def spM (p:Pallet) (l:List Box):List Spot:=bif Qy0 p l then spO l (shM p l) (lyM p (shM p l)) (ldM p (lyM p (shM p l))) (Qnw 0 (ldM p (lyM p (shM p l))).length) (List.replicate l.length zSp) else []
theorem Qyr {α:Type} (l:List α) (i:Int) (y:α):(Qhs l i y).length=l.length:=by simp [Qhs]
theorem Q1p (l:List Box) (o y z:Int):∀ (is:List Int) (s:List Spot×Int),(spB l o y z is s).1.length=s.1.length
 | [],_=>rfl
 | i::is,s=>by
  have:=Q1p l o y z is (Qhs s.1 i ⟨o,s.2,y,z⟩,s.2+(bxA l i).fW)
  rw [Qyr] at this
  exact this
theorem Q18 (l:List Box) (sh:List Shelf) (o z:Int):∀ (is:List Int) (s:List Spot×Int),(spS l sh o z is s).1.length=s.1.length
 | [],_=>rfl
 | i::is,s=>by
  have:=Q18 l sh o z is ((spB l o s.2 z (shA sh i).f0 (s.1,0)).1,s.2+(shA sh i).fD)
  rw [Q1p] at this
  exact this
theorem Q17 (l:List Box) (sh:List Shelf) (ly:List Layer) (o:Int):∀ (is:List Int) (s:List Spot×Int),(spY l sh ly o is s).1.length=s.1.length
 | [],_=>rfl
 | i::is,s=>by
  have:=Q17 l sh ly o is ((spS l sh o s.2 (lyA ly i).fP (s.1,0)).1,s.2+(lyA ly i).fH)
  rw [Q18] at this
  exact this
theorem Q8b (l:List Box) (sh:List Shelf) (ly:List Layer) (ld:List Load):∀ (os:List Int) (out:List Spot),(spO l sh ly ld os out).length=out.length
 | [],_=>rfl
 | o::os,out=>by
  have:=Q8b l sh ly ld os (spY l sh ly o (ldA ld o).fK (out,0)).1
  rw [Q17] at this
  exact this
theorem Q3x {p:Pallet} {l:List Box} (h:Qy0 p l=true):(spM p l).length=l.length:=by
 unfold spM
 rw [h,cond_true,Q8b,List.length_replicate]
theorem Q88 {p:Pallet} {l:List Box} (h:Qy0 p l=true):OkS p (shM p l):=λs hs=>by
 have:=(Q0z h).1 s hs
 exact ⟨this.d,this.h,this.g⟩
theorem Q78 {p:Pallet} {l:List Shelf} (h:OkS p l):OkY p (lyM p l):=λs hs=>by
 have:=(Q02 h).1 s hs
 exact ⟨this.d,this.h,this.g⟩
theorem Jcd {fu:Nat} (hfu:2097153≤fu) (p:Pallet) (l:List Box) (hl:l.length≤1000):Ql1 fu p l=some (spM p l):=by
 unfold Ql1 spM
 rw [Q7m (by omega),Qab,Jfb p l (by omega) (by omega),Qab]
 cases hb:Qy0 p l
 · rfl
 · obtain ⟨a1,a2,a3⟩:=Q0z hb
   have hS:=Q88 hb
   obtain ⟨y1,y2,y3⟩:=Q02 hS
   have hY:=Q78 hS
   obtain ⟨d1,d2,d3⟩:=Q35 hY
   have hpb:=Q00 hb
   obtain ⟨q1,q2,q3,q4⟩:=Qwk hpb
   rw [Bool.not_true,cond_false,cond_true,Q6y hfu p l hl,Qab,Q9l hfu hpb hS (by omega),Qab,Jcf hfu hpb hY (by omega),Qab]
   have f1:∀ s∈shM p l,s.f0.length≤1000:=λs hs=>by
    have:=Qq3 (λs:Shelf=>s.f0) _ s hs
    rw [a2,Qsw] at this; omega
   have f2:∀ s∈lyM p (shM p l),s.fP.length≤1000:=λs hs=>by
    have:=Qq3 (λs:Layer=>s.fP) _ s hs
    rw [y2,Qcn] at this; omega
   have f3:∀ s∈ldM p (lyM p (shM p l)),s.fK.length≤1000:=λs hs=>by
    have:=Qq3 (λs:Load=>s.fK) _ s hs
    rw [d2,Qcn] at this; omega
   generalize ldM p (lyM p (shM p l))=ld at d1 d3 f3 ⊢
   generalize lyM p (shM p l)=ly at y1 y3 hY d1 d3 f2 ⊢
   generalize shM p l=sh at a1 a3 hS y1 y3 f1 ⊢
   have L4:=Q54 (ld.length:Int) (λn (out:List Spot) o=>Qbo fu l sh ly ld n out o) (λos out=>some (spO l sh ly ld os out)) (λos out=>out.length=l.length) (by omega) ?_ ?_ ld.length fu (List.replicate l.length zSp) 0 (by omega) (by omega) (by omega) (by simp)
   · exact L4
   · intro n out o os o0 o1 hd hI ih
     obtain ⟨x,hx⟩:=Q31 (l:=ld) o0 o1
     have ex:ldA ld o=x:=by unfold ldA; rw [hx]; rfl
     have hxm:=d1 x (Qml hx)
     have hxl:=f3 x (Qml hx)
     simp only [Qbo.eq_2]
     unfold Qlb
     rw [hd,cond_true]
     have L3:=lpI x.fK (λm (s:List Spot×Int) i=>Qcg fu (Qbo fu l sh ly ld n) l sh ly ld o m s.1 s.2 i) (λis s=>Qbo fu l sh ly ld n (spY l sh ly o is s).1 (w64 (o+1))) (λis s=>s.1.length=l.length∧(∀ i∈is,0≤i∧i<ly.length)∧0≤s.2∧s.2+2000*is.length≤2000000) (by omega) ?_ ?_ fu (out,0) ⟨hI,hxm.inn,by simp,by simp; omega⟩ (by omega)
     · refine L3.trans ?_
       rw [ih _ (by rw [Q17]; exact hI)]
       simp only [spO,List.foldl_cons,ex]
     · intro m ⟨out,z⟩ i j is hj hd hI ih
       obtain ⟨i1,i2,i3,i4⟩:out.length=l.length∧(∀ i∈j::is,0≤i∧i<ly.length)∧0≤z∧z+2000*((j::is).length:Int)≤2000000:=hI
       simp only [List.length_cons] at i4
       obtain ⟨hly,t1,t2,t3,hmem⟩:=Q2u hY (i2 j (by simp))
       have hyi:=y1 _ hmem
       have hyl:=f2 _ hmem
       simp only [Qcg.eq_2]
       unfold Qkz
       rw [hx,Qab,hd,cond_true,Qab,hj,Qab,hly,Qab]
       have L2:=lpI (lyA ly j).fP (λq (s:List Spot×Int) k=>Qdg fu (Qcg fu (Qbo fu l sh ly ld n) l sh ly ld o m) l sh o z i (lyA ly j) q s.1 s.2 k) (λks s=>Qcg fu (Qbo fu l sh ly ld n) l sh ly ld o m (spS l sh o z ks s).1 (w64 (z+(lyA ly j).fH)) (w64 (i+1))) (λks s=>s.1.length=l.length∧(∀ i∈ks,0≤i∧i<sh.length)∧0≤s.2∧s.2+2000*ks.length≤2000000) (by omega) ?_ ?_ fu (out,0) ⟨i1,hyi.inn,by simp,by simp; omega⟩ (by omega)
       · refine L2.trans ?_
         rw [Qa1 (n:=z+_) (by omega) (by omega)]
         exact ih ((spS l sh o z (lyA ly j).fP (out,0)).1,z+(lyA ly j).fH) ⟨by rw [Q18]; exact i1,λi hi=>i2 i (by simp [hi]),by simp; omega,by simp; omega⟩
       · intro q ⟨out,y⟩ k b ks hb2 hd hI ih
         obtain ⟨i1,i2,i3,i4⟩:out.length=l.length∧(∀ i∈b::ks,0≤i∧i<sh.length)∧0≤y∧y+2000*((b::ks).length:Int)≤2000000:=hI
         simp only [List.length_cons] at i4
         obtain ⟨hsh,u1,u2,u3,hmem2⟩:=Q26 hS (i2 b (by simp))
         have hsi:=a1 _ hmem2
         have hsl:=f1 _ hmem2
         simp only [Qdg.eq_2]
         unfold Qkf
         rw [hd,cond_true,hb2,Qab,hsh,Qab]
         have L1:=lpI (shA sh b).f0 (λq' (s:List Spot×Int) k'=>Qgc fu (Qdg fu (Qcg fu (Qbo fu l sh ly ld n) l sh ly ld o m) l sh o z i (lyA ly j) q) l o z y k (shA sh b) q' s.1 s.2 k') (λbs s=>Qdg fu (Qcg fu (Qbo fu l sh ly ld n) l sh ly ld o m) l sh o z i (lyA ly j) q (spB l o y z bs s).1 (w64 (y+(shA sh b).fD)) (w64 (k+1))) (λbs s=>s.1.length=l.length∧(∀ i∈bs,0≤i∧i<l.length)∧0≤s.2∧s.2+2000*bs.length≤2000000) (by omega) ?_ ?_ fu (out,0) ⟨i1,hsi.inn,by simp,by simp; omega⟩ (by omega)
         · refine L1.trans ?_
           rw [Qa1 (n:=y+_) (by omega) (by omega)]
           exact ih ((spB l o y z (shA sh b).f0 (out,0)).1,y+(shA sh b).fD) ⟨by rw [Q1p]; exact i1,λi hi=>i2 i (by simp [hi]),by simp; omega,by simp; omega⟩
         · intro q' ⟨out,x'⟩ k' c bs hc hd hI ih
           obtain ⟨i1,i2,i3,i4⟩:out.length=l.length∧(∀ i∈c::bs,0≤i∧i<l.length)∧0≤x'∧x'+2000*((c::bs).length:Int)≤2000000:=hI
           simp only [List.length_cons] at i4
           have hcr:=i2 c (by simp)
           obtain ⟨hbx,v1,v2,v3,v4⟩:=Q29 hb hcr
           obtain ⟨sp,hsp⟩:=Q31 (l:=out) hcr.1 (by omega)
           simp only [Qgc.eq_2]
           unfold Qku
           rw [hd,cond_true,hc,Qab,hsp,Qab,Qab,hbx,Qab,Qa1 (n:=x'+_) (by omega) (by omega)]
           exact ih (Qhs out c ⟨o,x',y,z⟩,x'+(bxA l c).fW) ⟨by rw [Qyr]; exact i1,λi hi=>i2 i (by simp [hi]),by simp; omega,by simp; omega⟩
         · intro q' ⟨out,x'⟩ k' hd _
           simp only [Qgc.eq_2]
           unfold Qku
           rw [hd,cond_false]; rfl
       · intro q ⟨out,y⟩ k hd _
         simp only [Qdg.eq_2]
         unfold Qkf
         rw [hd,cond_false]; rfl
     · intro m ⟨out,z⟩ i hd _
       simp only [Qcg.eq_2]
       unfold Qkz
       rw [hx,Qab,hd,cond_false]; rfl
   · intro n out o hd _
     simp only [Qbo.eq_2]
     unfold Qlb
     rw [hd,cond_false]; rfl
def Q9g (n:Int) (out:List Spot):Prop:=∀ s∈out,0≤s.fJ∧s.fJ≤n
theorem Q9n {n:Int} {out:List Spot} {i:Int} {s:Spot} (h:Q9g n out) (hs:0≤s.fJ∧s.fJ≤n):Q9g n (Qhs out i s):=by
 intro t ht
 unfold Qhs at ht
 rcases List.mem_or_eq_of_mem_set ht with ht | rfl
 · exact h t ht
 · exact hs
theorem Q7g {n:Int} (l:List Box) (o y z:Int) (ho:0≤o∧o≤n):∀ (is:List Int) (s:List Spot×Int),Q9g n s.1→Q9g n (spB l o y z is s).1
 | [],_,h=>h
 | i::is,s,h=>Q7g l o y z ho is (Qhs s.1 i ⟨o,s.2,y,z⟩,s.2+(bxA l i).fW) (Q9n h ho)
theorem Q7k {n:Int} (l:List Box) (sh:List Shelf) (o z:Int) (ho:0≤o∧o≤n):∀ (is:List Int) (s:List Spot×Int),Q9g n s.1→Q9g n (spS l sh o z is s).1
 | [],_,h=>h
 | i::is,s,h=>Q7k l sh o z ho is ((spB l o s.2 z (shA sh i).f0 (s.1,0)).1,s.2+(shA sh i).fD) (Q7g l o s.2 z ho _ (s.1,0) h)
theorem Q6l {n:Int} (l:List Box) (sh:List Shelf) (ly:List Layer) (o:Int) (ho:0≤o∧o≤n):∀ (is:List Int) (s:List Spot×Int),Q9g n s.1→Q9g n (spY l sh ly o is s).1
 | [],_,h=>h
 | i::is,s,h=>Q6l l sh ly o ho is ((spS l sh o s.2 (lyA ly i).fP (s.1,0)).1,s.2+(lyA ly i).fH) (Q7k l sh o s.2 ho _ (s.1,0) h)
theorem Q6w {n:Int} (l:List Box) (sh:List Shelf) (ly:List Layer) (ld:List Load):∀ (os:List Int) (out:List Spot),(∀ o∈os,0≤o∧o≤n)→Q9g n out→Q9g n (spO l sh ly ld os out)
 | [],_,_,h=>h
 | o::os,out,ho,h=>Q6w l sh ly ld os (spY l sh ly o (ldA ld o).fK (out,0)).1 (λq hq=>ho q (by simp [hq])) (Q6l l sh ly o (ho o (by simp)) _ (out,0) h)
theorem Jbf {p:Pallet} {l:List Box} (hl:l.length≤1000):∀ s∈spM p l,0≤s.fJ∧s.fJ≤1000:=by
 unfold spM
 cases hb:Qy0 p l
 · simp
 · have a3:=(Q0z hb).2.2
   have hS:=Q88 hb
   have y3:=(Q02 hS).2.2
   have d3:=(Q35 (Q78 hS)).2.2
   rw [cond_true]
   refine Q6w l _ _ _ _ _ (λo ho=>?_) λs hs=>?_
   · have:=Qh1.1 ho; omega
   · rw [(List.mem_replicate.1 hs).2]; simp [zSp]
def Jio (r:Request) (k:Int):Bool:=inb k 0 (((Qns r).length:Int) - 1)
theorem Q0i {r:Request} {k:Int} (h:Jio r k=true):Qhu r=0:=by
 unfold Jio at h
 rw [Qdc] at h
 by_cases hc:Qhu r=0
 · exact hc
 · have:Qns r=[]:=by
     unfold Qns Q2p
     rw [show (Qhu r==0)=false by simp [hc]]
     rfl
   rw [this] at h
   simp at h
   omega
theorem Q4h (r:Request) (g:List Int) (u i:Int) (us:List Int) {x:Item} (hx:ix r.fV i=some x):ofG r g u (i::us)=bif g.contains x.fM then u::ofG r g (u+1) us else ofG r g (u+1) us:=by
 rw [ofG,hx]
theorem Jhw {fu:Nat} {r:Request} (h:Sm fu r) (k:Int):Qpb fu r k=some (Q3t r k):=by
 have hfu:=h.fu
 unfold Qpb Q3t
 rw [Jcx h,Qab,Q87,Q0h,Qab]
 cases hg:inb k 0 (((Qns r).length:Int) - 1)
 · rw [Bool.not_false,cond_true]
   have:ix (Qns r) k=none:=by
    have hk:¬ (0≤k∧k≤((Qns r).length:Int) - 1):=by intro hk; rw [(Qdc).2 hk] at hg; cases hg
    unfold ix
    by_cases h0:0≤k
    · rw [if_pos h0,List.getElem?_eq_none (by omega)]
    · rw [if_neg h0]
   rw [this]
 · have hc:=Q0i hg
   rw [Qdc] at hg
   obtain ⟨j,rfl⟩:∃ j:Nat,k=j:=⟨k.toNat,by omega⟩
   have hj:j<(Qns r).length:=by omega
   have hgl:=(Qtq r).2 _ (List.getElem_mem hj)
   rw [Bool.not_true,cond_false,Jgg h (Qgv hc).1,Qab,Qy1 hj]
   have e:Qmz r=l6M r:=by unfold Qmz; rw [show (Qhu r==0)=true by simp [hc],cond_true]
   simp only [e]
   have hlen:(l6M r).length≤12:=Q86 (Qgv hc).1
   have:=Jb5 (l6M r) (λn out i=>Qfe fu r (j:Int) (Qns r) (l6M r) n out i) (λpre xs out=>some (out++ofG r (Qns r)[j] (pre.length:Int) xs)) (λpre xs out=>out.length+xs.length≤12) (by omega) ?_ ?_ fu [] (by simpa using hlen) (by omega)
   · simpa using this
   · intro n out pre i xs hl hx hd hI ih
     simp only [List.length_cons] at hI
     have hi:i∈Qmz r:=by rw [e,hl]; simp
     have hi2:=Q0y hi
     obtain ⟨q,rfl⟩:∃ q:Nat,i=q:=⟨i.toNat,by omega⟩
     have hq:q<r.fV.length:=by omega
     simp only [Qfe.eq_2]
     unfold Qki Qi9
     simp only [hd,cond_true,hx,Qab,Qy1 hj,Qy1 hq,Jd2 (show (Qns r)[j].length≤1048576 by omega) (show (Qns r)[j].length<fu by omega)]
     rw [Q4h r _ _ _ _ (Qy1 hq)]
     cases (Qns r)[j].contains r.fV[q].fM
     · rw [cond_false,cond_false,ih _ (by omega)]
       simp
     · rw [cond_true,cond_true,ap1 (by simp; omega),Qab,ih _ (by simp; omega)]
       simp
   · intro n out hd hI
     simp only [Qfe.eq_2]
     unfold Qki
     simp only [hd,cond_false]
     simp [ofG]
theorem Jgv {fu:Nat} {r:Request} (h:Sm fu r) (k:Int):Qpd fu r k=some (Q3t r k):=by
 have hfu:=h.fu
 unfold Qpd Q3t
 rw [Jc1 h,Qab,Q87,Q0l,Qab]
 cases hg:inb k 0 (((Qns r).length:Int) - 1)
 · rw [Bool.not_false,cond_true]
   have:ix (Qns r) k=none:=by
    have hk:¬ (0≤k∧k≤((Qns r).length:Int) - 1):=by intro hk; rw [(Qdc).2 hk] at hg; cases hg
    unfold ix
    by_cases h0:0≤k
    · rw [if_pos h0,List.getElem?_eq_none (by omega)]
    · rw [if_neg h0]
   rw [this]
 · have hc:=Q0i hg
   rw [Qdc] at hg
   obtain ⟨j,rfl⟩:∃ j:Nat,k=j:=⟨k.toNat,by omega⟩
   have hj:j<(Qns r).length:=by omega
   have hgl:=(Qtq r).2 _ (List.getElem_mem hj)
   rw [Bool.not_true,cond_false,Jbx h,Qab,Qy1 hj]
   have hlen:=Q1v r
   have:=Jb5 (Qmz r) (λn out i=>Qff fu r (j:Int) (Qns r) (Qmz r) n out i) (λpre xs out=>some (out++ofG r (Qns r)[j] (pre.length:Int) xs)) (λpre xs out=>out.length+xs.length≤12) (by omega) ?_ ?_ fu [] (by simpa using hlen) (by omega)
   · simpa using this
   · intro n out pre i xs hl hx hd hI ih
     simp only [List.length_cons] at hI
     have hi:i∈Qmz r:=by rw [hl]; simp
     have hi2:=Q0y hi
     obtain ⟨q,rfl⟩:∃ q:Nat,i=q:=⟨i.toNat,by omega⟩
     have hq:q<r.fV.length:=by omega
     simp only [Qff.eq_2]
     unfold Qk1 Qjk
     simp only [hd,cond_true,hx,Qab,Qy1 hj,Qy1 hq,Jh5 (show (Qns r)[j].length≤1048576 by omega) (show (Qns r)[j].length<fu by omega)]
     rw [Q4h r _ _ _ _ (Qy1 hq)]
     cases (Qns r)[j].contains r.fV[q].fM
     · rw [cond_false,cond_false,ih _ (by omega)]
       simp
     · rw [cond_true,cond_true,ap1 (by simp; omega),Qab,ih _ (by simp; omega)]
       simp
   · intro n out hd hI
     simp only [Qff.eq_2]
     unfold Qk1
     simp only [hd,cond_false]
     simp [ofG]
def Jfu (l:List Int):List Int:=l.mergeSort λx y=>decide (x≤y)
theorem Qx6 (l:List Int):(Jfu l).Perm l:=List.mergeSort_perm l _
theorem Q9r (l:List Int):(Jfu l).length=l.length:=(Qx6 l).length_eq
def Q69 (r:Request) (k:Int) (l:List Int):Carton:=⟨(Q0b r l).1.f4,k,Jfu l⟩
def Q5n (r:Request) (k:Int):List Carton:=(pwM r (Q3t r k)).map (Q69 r k)
def Q1h (r:Request):List Int→List Carton
 | []=>[]
 | k::ks=>Q5n r k++Q1h r ks
def Qu3 (r:Request):List Carton:=Q1h r (Qnw 0 (Qns r).length)
theorem Q66 (l:List Int):(Qnw 0 l.length).map (λp=>(ix l p).getD 0)=l:=by
 have key:∀ (xs pre:List Int),l=pre++xs→(Qnw pre.length xs.length).map (λp=>(ix l p).getD 0)=xs:=by
  intro xs
  induction xs with
  | nil=>intro pre _; rfl
  | cons x xs ih =>
   intro pre he
   have h1:=ih (pre++[x]) (by simp [he])
   simp only [List.length_append,List.length_singleton] at h1
   simp only [List.length_cons,Qnw,List.map_cons]
   rw [show ((pre.length:Int)+1)=((pre.length+1:Nat):Int) by omega,h1]
   congr 1
   rw [Qlf,he]
   simp
 exact key l [] rfl
theorem Jc3 (l:List Int):(srt (kf l) l.length).map (λp=>(ix l p).getD 0)=Jfu l:=by
 refine Jcj ?_ ?_ (Qtx l)
 · refine ((Qub _ _).map _).trans ?_
   rw [Q66]
   exact (Qx6 l).symm
 · refine List.pairwise_map.2 ((Qvt (kf l) l.length).imp fun {p q} h=>?_)
   unfold lx kf at h
   omega
theorem Q4a {r:Request} (k:Int):(Q5n r k).length≤12:=by
 have:=(Q44 (r:=r) (Qxi r k)).1
 simp [Q5n]; omega
theorem Jha {fu:Nat} {r:Request} (h:Sm fu r):Qlt fu r=some (Qu3 r):=by
 have hfu:=h.fu
 have hg:=(Qtq r).1
 unfold Qlt Qu3
 rw [Jc1 h,Qab]
 have:=Q54 ((Qns r).length:Int) (λn out i=>Qct fu r (Qns r) n out i) (λxs out=>some (out++Q1h r xs)) (λxs out=>out.length+12*xs.length≤48) (by omega) ?_ ?_ (Qns r).length fu [] 0 (by omega) (by omega) (by omega) (by simp [Qcn]; omega)
 · simpa using this
 · intro n out k ks h0 h1 hd hI ih
   simp only [List.length_cons] at hI
   have hul:=Qxi r k
   have hpo:=Q44 (r:=r) hul
   simp only [Qct.eq_2]
   unfold Qh3
   rw [hd,cond_true,Jgv h,Qab,Jgt h _ (by omega),Qab]
   have key:=lpI (pwM r (Q3t r k)) (λm o i=>Qe0 fu (Qct fu r (Qns r) n) r k (pwM r (Q3t r k)) m o i) (λxs o=>Qct fu r (Qns r) n (o++xs.map (Q69 r k)) (w64 (k+1))) (λxs o=>o.length+xs.length≤48∧∀ l∈xs,l.length≤12) (by have:=hpo.1; omega) ?_ ?_ fu out ⟨by have:=hpo.1; omega,hpo.2⟩ (by have:=hpo.1; omega)
   · rw [key,ih _ (by have:=hpo.1; simp; omega)]
     simp [Q1h,Q5n]
   · intro m o i l xs hx hd hI ih
     obtain ⟨h2,h3⟩:=hI
     simp only [List.length_cons] at h2
     have hl:=h3 l (by simp)
     simp only [Qe0.eq_2]
     unfold Qib
     rw [hd,cond_true,hx,Qab,Jct h l (by omega),Qab,show Qc8 fu l=some (Jfu l) from Q5v (by omega),Qab,ap1 (by simp; omega),Qab,ih _ ⟨by simp; omega,λy hy=>h3 y (by simp [hy])⟩]
     simp [Q69]
   · intro m o i hd _
     simp only [Qe0.eq_2]
     unfold Qib
     rw [hd,cond_false]; simp
 · intro n out k hd _
   simp only [Qct.eq_2]
   unfold Qh3
   rw [hd,cond_false]; simp [Q1h]
theorem Jgi {fu:Nat} {r:Request} (h:Sm fu r):Qlj fu r=some (Qu3 r):=by
 have hfu:=h.fu
 have hg:=(Qtq r).1
 unfold Qlj Qu3
 rw [Jcx h,Qab]
 have:=Q54 ((Qns r).length:Int) (λn out i=>Qbf fu r (Qns r) n out i) (λxs out=>some (out++Q1h r xs)) (λxs out=>out.length+12*xs.length≤48) (by omega) ?_ ?_ (Qns r).length fu [] 0 (by omega) (by omega) (by omega) (by simp [Qcn]; omega)
 · simpa using this
 · intro n out k ks h0 h1 hd hI ih
   simp only [List.length_cons] at hI
   have hul:=Qxi r k
   have hpo:=Q44 (r:=r) hul
   simp only [Qbf.eq_2]
   unfold Qh4
   rw [hd,cond_true,Jhw h,Qab,Jhn h _ (by omega),Qab]
   have key:=lpI (pwM r (Q3t r k)) (λm o i=>Qb7 fu (Qbf fu r (Qns r) n) r k (pwM r (Q3t r k)) m o i) (λxs o=>Qbf fu r (Qns r) n (o++xs.map (Q69 r k)) (w64 (k+1))) (λxs o=>o.length+xs.length≤48∧∀ l∈xs,l.length≤12) (by have:=hpo.1; omega) ?_ ?_ fu out ⟨by have:=hpo.1; omega,hpo.2⟩ (by have:=hpo.1; omega)
   · rw [key,ih _ (by have:=hpo.1; simp; omega)]
     simp [Q1h,Q5n]
   · intro m o i l xs hx hd hI ih
     obtain ⟨h2,h3⟩:=hI
     simp only [List.length_cons] at h2
     have hl:=h3 l (by simp)
     simp only [Qb7.eq_2]
     unfold Qh6 Qkx
     rw [hd,cond_true,hx,Qab,Jcs h l (by omega),Qab,Qab,Jiw hfu (by omega),Qab]
     have hsl:=Qsw (kf l) l.length
     have hsm:=λx=>Qv3 (k:=kf l) (n:=l.length) (x:=x)
     have hsg:=Jc3 l
     generalize srt (kf l) l.length=S at hsl hsm hsg ⊢
     have k1:=lpI S (λm' us j=>Qex fu (Qb7 fu (Qbf fu r (Qns r) n) r k (pwM r (Q3t r k)) m) k (pwM r (Q3t r k)) o i (Q0b r l).1 S m' us j)
      (λxs us=>Qac (Qfh 40 o [(⟨(Q0b r l).1.f4,k,us++xs.map λp=>(ix l p).getD 0⟩:Carton)]) λx=>Qhm fu (Qb7 fu (Qbf fu r (Qns r) n) r k (pwM r (Q3t r k)) m) i x) (λxs us=>us.length+xs.length≤12∧∀ p∈xs,0≤p∧p<l.length) (by omega) ?_ ?_ fu [] ⟨by simp; omega,λp hp=>(hsm p).1 hp⟩ (by omega)
     · rw [k1,List.nil_append,hsg,ap1 (by simp; omega),Qab]
       unfold Qhm
       rw [ih _ ⟨by simp; omega,λy hy=>h3 y (by simp [hy])⟩]
       simp [Q69]
     · intro m' us j p ps hp hd hI ih
       obtain ⟨h4,h5⟩:=hI
       simp only [List.length_cons] at h4
       simp only [Qex.eq_2]
       unfold Qic
       rw [hd,cond_true,hx,Qab,hp,Qab,Q6k (h5 p (by simp)),Qab,ap1 (by simp; omega),Qab,ih _ ⟨by simp; omega,λy hy=>h5 y (by simp [hy])⟩]
       simp
     · intro m' us j hd _
       simp only [Qex.eq_2]
       unfold Qic
       rw [hd,cond_false]; simp
   · intro m o i hd _
     simp only [Qb7.eq_2]
     unfold Qh6 Qky
     rw [hd,cond_false]; simp
 · intro n out k hd _
   simp only [Qbf.eq_2]
   unfold Qh4
   rw [hd,cond_false]; simp [Q1h]
theorem Q45 (r:Request):∀ (ks:List Int),(Q1h r ks).length≤12*ks.length
 | []=>by simp [Q1h]
 | k::ks=>by
  have:=Q45 r ks
  have:=Q4a (r:=r) k
  simp [Q1h]; omega
theorem Qxj (r:Request):(Qu3 r).length≤48:=by
 have:=Q45 r (Qnw 0 (Qns r).length)
 have hg:=(Qtq r).1
 rw [Qcn] at this
 unfold Qu3
 omega
theorem Q41 {r:Request} {c:Carton}:∀ {ks:List Int},c∈Q1h r ks↔∃ k∈ks,∃ l∈pwM r (Q3t r k),c=Q69 r k l
 | []=>by simp [Q1h]
 | k::ks=>by
  simp only [Q1h,List.mem_append,Q41 (ks:=ks),List.mem_cons,Q5n,List.mem_map]
  constructor
  · rintro (⟨l,hl,rfl⟩ | ⟨k',hk,l,hl,e⟩)
    · exact ⟨k,.inl rfl,l,hl,rfl⟩
    · exact ⟨k',.inr hk,l,hl,e⟩
  · rintro ⟨k',rfl | hk,l,hl,rfl⟩
    · exact .inl ⟨l,hl,rfl⟩
    · exact .inr ⟨k',hk,l,hl,rfl⟩
theorem Qyu {r:Request} {c:Carton} (h:c∈Qu3 r):c.f8.length≤12:=by
 obtain ⟨k,_,l,hl,rfl⟩:=Q41.1 h
 have:=(Q44 (r:=r) (Qxi r k)).2 l hl
 simp only [Q69,Q9r]
 omega
def Jdq:List Int→Int
 | []=>1
 | x::xs=>x*Jdq xs
theorem Q9i {a b:List Int} (h:a.Perm b):Jdq a=Jdq b:=by
 induction h with
 | nil=>rfl
 | cons x _ ih=>simp only [Jdq,ih]
 | swap x y l=>simp only [Jdq,← Int.mul_assoc]; rw [Int.mul_comm x y]
 | trans _ _ h1 h2=>rw [h1,h2]
theorem Q62 (a b c:Int):(sid a b c).1*((sid a b c).2.1*(sid a b c).2.2)=a*b*c:=by
 have h:=Q8p a b c
 unfold Q13 at h
 simp only [List.length_cons,List.length_nil] at h
 rw [if_pos (by omega)] at h
 have hp:=List.mergeSort_perm [a,b,c] λx y=>decide (x≤y)
 rw [Option.some.inj h] at hp
 have:=Q9i hp
 simp only [Jdq,Int.mul_one] at this
 rw [this,Int.mul_assoc]
theorem Jef {a b c m:Int} (ha:m≤a) (hb:m≤b) (hc:m≤c):m≤(sid a b c).1:=by
 unfold sid
 simp only
 split <;> split <;> omega
theorem Jcv {x:Item} {t:Typ} (hx:Qxe x=true) (ht:Q1d t=true) (h:Qzd x t=true):Q63 x≤Q9f t∧x.fQ≤t.fQ:=by
 simp only [Qxe,Bool.and_eq_true,Qdc] at hx
 simp only [Q1d,Bool.and_eq_true,Qdc] at ht
 simp only [Qzd,Bool.and_eq_true,decide_eq_true_eq] at h
 obtain ⟨⟨⟨h1,h2⟩,h3⟩,h4⟩:=h
 refine ⟨?_,h4⟩
 have e1:Q63 x=x.fW*x.fH*x.fD:=by
  unfold Q63 Q5x
  rw [show (inb x.fW 0 2000&&(inb x.fH 0 2000&&inb x.fD 0 2000))=true by simp; omega,cond_true]
 have e2:Q9f t=t.fW*t.fH*t.fD:=by
  unfold Q9f Q5x
  rw [show (inb t.fW 0 2000&&(inb t.fH 0 2000&&inb t.fD 0 2000))=true by simp; omega,cond_true]
 rw [e1,e2,← Q62 x.fW x.fH x.fD,← Q62 t.fW t.fH t.fD]
 have p1:1≤(sid x.fW x.fH x.fD).1:=Jef (by omega) (by omega) (by omega)
 have s1:=Qz5 x.fW x.fH x.fD
 have s2:=Qz5 t.fW t.fH t.fD
 refine Int.mul_le_mul h1 ?_ (Int.mul_nonneg (by omega) (by omega)) (by omega)
 exact Int.mul_le_mul h2 h3 (by omega) (by omega)
theorem Q1a {r:Request} {u:Int} (h:0≤u∧u<(Qmz r).length):Qvo r u∈r.fV:=(Q8o (Qvv h)).2
theorem Q4j {r:Request} {u:Int} (h:0≤u∧u<(Qmz r).length):Qhu r=0:=(Q8o (Qvv h)).1
theorem Q73 {r:Request} (hc:Qhu r=0):Qs0 r r.fT=some (Qwb r)∧Qwb r∈r.fG∧Q1d (Qwb r)=true:=by
 have h:=(Qgv hc).2.1
 unfold Q81 at h
 simp only [Bool.and_eq_true] at h
 obtain ⟨t,ht⟩:=Option.isSome_iff_exists.1 h.1.2
 have e:Qwb r=t:=by unfold Qwb; rw [ht]; rfl
 have hm:t∈r.fG:=List.mem_of_find?_eq_some ht
 rw [e]
 exact ⟨ht,hm,Qxu (Qgv hc).1 t hm⟩
theorem Q7v {r:Request} {u:Int} (h:0≤u∧u<(Qmz r).length):Qwp r [u]=Q63 (Qvo r u)∧Qvd r [u]=(Qvo r u).fQ:=by
 unfold Qwp Qvd Qwj
 simp [List.filterMap_cons,Qvv h]
theorem Q7w {r:Request} {u:Int} (h:0≤u∧u<(Qmz r).length):Q27 r [u] (Qwb r)=true:=by
 have hc:=Q4j h
 have hz:=Qgv hc
 have hm:=Q1a h
 obtain ⟨h1,h2⟩:=Jcv ((Qr3 hz.1).1 _ hm) (Q73 hc).2.2 (hz.2.2.2.1 _ hm)
 unfold Q27
 rw [(Q7v h).1,(Q7v h).2,Bool.and_eq_true,decide_eq_true_iff,decide_eq_true_iff]
 exact ⟨h1,h2⟩
def Qc (r:Request) (us:List Int) (l:List Int):Prop:=l≠[]∧(∀ u∈l,u∈us)∧Q27 r l (Qwb r)=true
theorem Jfc {r:Request} {us:List Int} {out:List (List Int)} {u:Int} (h:∀ l∈out,Qc r us l) (hu:u∈us) (hr:0≤u∧u<(Qmz r).length):∀ l∈Jdt r out u,Qc r us l:=by
 have hn:Qc r us [u]:=⟨by simp,λv hv=>by rw [List.mem_singleton.1 hv]; exact hu,Q7w hr⟩
 intro l hl
 unfold Jdt Jdv at hl
 split at hl
 · rename_i i hi
   obtain ⟨x,hx,hg⟩:=Qx0 hi
   rw [hx] at hl
   rcases List.mem_or_eq_of_mem_set hl with hl | rfl
   · exact h l hl
   · have hq:=h x (List.mem_of_getElem? hx)
     refine ⟨by simp,λv hv=>?_,hg⟩
     rcases List.mem_append.1 hv with hv | hv
     · exact hq.2.1 v hv
     · rw [List.mem_singleton.1 hv]; exact hu
 · rcases List.mem_append.1 hl with hl | hl
   · exact h l hl
   · rw [List.mem_singleton.1 hl]; exact hn
theorem Jex {r:Request} {us:List Int} {out:List (List Int)} {u:Int} (h:∀ l∈out,Qc r us l) (hu:u∈us) (hr:0≤u∧u<(Qmz r).length):∀ l∈Q6g r out u,Qc r us l:=by
 have hn:Qc r us [u]:=⟨by simp,λv hv=>by rw [List.mem_singleton.1 hv]; exact hu,Q7w hr⟩
 intro l hl
 cases hlast:out.getLast? with
 | none =>
  unfold Q6g at hl
  rw [hlast] at hl
  rw [List.mem_singleton.1 hl]; exact hn
 | some x =>
  rw [Qyi u hlast] at hl
  have hq:=h x (List.mem_of_getLast? hlast)
  cases hg:Q2a r u x
  · rw [hg,cond_false] at hl
    rcases List.mem_append.1 hl with hl | hl
    · exact h l hl
    · rw [List.mem_singleton.1 hl]; exact hn
  · rw [hg,cond_true] at hl
    rcases List.mem_or_eq_of_mem_set hl with hl | rfl
    · exact h l hl
    · refine ⟨by simp,λv hv=>?_,hg⟩
      rcases List.mem_append.1 hv with hv | hv
      · exact hq.2.1 v hv
      · rw [List.mem_singleton.1 hv]; exact hu
theorem Q84 {r:Request} {us:List Int} {F:List (List Int)→Int→List (List Int)} (hF:∀ out u,(∀ l∈out,Qc r us l)→u∈us→(0≤u∧u<(Qmz r).length)→∀ l∈F out u,Qc r us l):∀ (vs:List Int) (out:List (List Int)),(∀ u∈vs,u∈us∧0≤u∧u<(Qmz r).length)→(∀ l∈out,Qc r us l)→∀ l∈vs.foldl F out,Qc r us l
 | [],out,_,h=>h
 | v::vs,out,hv,h=>by
  rw [List.foldl_cons]
  have h1:=hv v (by simp)
  exact Q84 hF vs _ (λu hu=>hv u (by simp [hu])) (hF out v h h1.1 h1.2)
theorem Q8a (r:Request) (us:List Int):(Jbi r us).Perm us:=by
 unfold Jbi
 refine ((Qub _ _).map _).trans ?_
 have key:∀ (xs pre:List Int),us=pre++xs→(Qnw pre.length xs.length).map (λp=>(ix us p).getD 0)=xs:=by
  intro xs
  induction xs with
  | nil=>intro pre _; rfl
  | cons x xs ih =>
   intro pre he
   have h1:=ih (pre++[x]) (by simp [he])
   simp only [List.length_append,List.length_singleton] at h1
   simp only [List.length_cons,Qnw,List.map_cons]
   rw [show ((pre.length:Int)+1)=((pre.length+1:Nat):Int) by omega,h1]
   congr 1
   rw [Qlf,he]
   simp
 have:=key us [] rfl
 simp only [List.length_nil] at this
 exact List.Perm.of_eq this
theorem Ji3 {r:Request} {us:List Int}:∀ l∈pwM r us,Qc r (Qux r us) l:=by
 unfold pwM nfM ffM
 have ht:∀ u∈Qux r us,u∈Qux r us∧0≤u∧u<(Qmz r).length:=λu hu=>⟨hu,Qyd hu⟩
 cases r.fe==1
 · rw [cond_false]
   exact Q84 (λout u h hu hr=>Jfc h hu hr) _ [] (λu hu=>ht u ((Q8a r _).mem_iff.1 hu)) (by simp)
 · rw [cond_true]
   exact Q84 (λout u h hu hr=>Jex h hu hr) _ [] ht (by simp)
def Q7u:List Carton→Nat
 | []=>0
 | x::xs=>x.f8.length+Q7u xs
structure Sp (x:Plan):Prop where
 cars:x.fE.length≤1048576
 units:∀ c∈x.fE,c.f8.length≤1048576
 all:Q7u x.fE≤1048576
 spots:x.fa.length≤1048576
def Q9h:List Int→List Int→Bool
 | _,[]=>true
 | pre,x::xs=>inb x 0 999&&((match pre.getLast? with | none=>true | some y=>decide (y<x))&&Q9h (pre++[x]) xs)
def Jdy (l:List Int):Bool:=Q9h [] l&&decide ((l.length:Int)≤100)
def Q9m (c:Carton):Bool:=inb c.fc 0 999&&(inb c.f9 0 3&&Jdy c.f8)
def Jbw (s:Spot):Bool:=inb s.fJ 0 2000&&(inb s.fX 0 2000&&(inb s.fY 0 2000&&inb s.fZ 0 2000))
def Q9z (x:Plan):Bool:=x.fa.length==x.fE.length&&(decide ((x.fE.length:Int)≤100)&&(x.fE.zip x.fa).all λp=>Q9m p.1&&Jbw p.2)
theorem Q82 {pre:List Int} {x:Int} {xs l:List Int} (hl:l.length≤1048576) (e:l=pre++x::xs):(pre.getLast? = none∧pre.length=0)∨∃ y,pre.getLast? = some y∧0<pre.length∧ix l (w64 ((pre.length:Int) - 1))=some y:=by
 cases hp:pre.getLast? with
 | none=>exact .inl ⟨rfl,by simpa using List.getLast?_eq_none_iff.1 hp⟩
 | some y =>
  have hne:pre≠[]:=λe=>by subst e; simp at hp
  have hpos:0<pre.length:=List.length_pos_iff.2 hne
  refine .inr ⟨y,rfl,hpos,?_⟩
  have h1:w64 ((pre.length:Int) - 1)=((pre.length - 1:Nat):Int):=by
   have:pre.length≤l.length:=by rw [e]; simp
   rw [Qa1 (by omega) (by omega)]; omega
  rw [h1,Qlf,e,List.getElem?_append_left (by omega),← List.getLast?_eq_getElem?,hp]
theorem Jg5 {fu:Nat} {l:List Int} (hl:l.length≤1048576) (hf:l.length<fu):Qjn fu l=some (Jdy l):=by
 unfold Qjn Jdy
 have key:=lpP l (λn (_:Unit) i=>Qdn fu l n i) (λpre xs _=>some (Q9h pre xs&&decide ((l.length:Int)≤100))) (by omega) ?_ ?_ fu () hf
 · exact key
 · intro n _ pre x xs e hx hd ih
   have ih:=ih ()
   simp only [Qdn.eq_2]
   unfold Qho Qg4 Q9h
   rw [hd,cond_true,hx,Qab,Q0l,Qab]
   cases inb x 0 999
   · rfl
   · rw [Bool.not_true,cond_false,Bool.true_and]
     rcases Q82 (hl:=hl) e with ⟨h1,h2⟩ | ⟨y,h1,h2,h3⟩
     · rw [h1,show decide ((pre.length:Int)>0)=false from decide_eq_false (by omega),cond_false,ih]
       simp
     · rw [h1,show decide ((pre.length:Int)>0)=true from decide_eq_true (by omega),cond_true,h3,Qab,ih]
       by_cases hy:y<x
       · rw [show decide (y≥x)=false by simp; omega,cond_false]; simp [hy]
       · rw [show decide (y≥x)=true by simp; omega,cond_true]; simp [hy]
 · intro n _ hd
   simp only [Qdn.eq_2]
   unfold Qho
   rw [hd,cond_false]
   simp [Q9h]
theorem Jhp {fu:Nat} {c:Carton} (hl:c.f8.length≤1048576) (hf:c.f8.length<fu):Qlk fu c=some (Q9m c):=by
 unfold Qlk Q9m
 rw [Jge,Qab,Q0h,Qab]
 cases inb c.fc 0 999
 · rfl
 · rw [Bool.not_true,cond_false]
   cases inb c.f9 0 3
   · rfl
   · rw [Bool.not_true,cond_false,Bool.true_and,Bool.true_and]
     unfold Jdy
     by_cases h1:(c.f8.length:Int)≤100
     · rw [show decide ((c.f8.length:Int)>100)=false by simp; omega,cond_false,show decide ((c.f8.length:Int)≤100)=true by simpa using h1,Bool.and_true]
       unfold Qkj
       have key:=lpP c.f8 (λn (_:Unit) i=>Qd3 fu c n i) (λpre xs _=>some (Q9h pre xs)) (by omega) ?_ ?_ fu () hf
       · exact key
       · intro n _ pre x xs e hx hd ih
         have ih:=ih ()
         simp only [Qd3.eq_2]
         unfold Qig Qhg Q9h
         rw [hd,cond_true,hx,Qab,Q0h,Qab]
         cases inb x 0 999
         · rfl
         · rw [Bool.not_true,cond_false,Bool.true_and]
           rcases Q82 (hl:=hl) e with ⟨h1,h2⟩ | ⟨y,h1,h2,h3⟩
           · rw [h1,show decide ((pre.length:Int)>0)=false from decide_eq_false (by omega),cond_false,ih]
             simp
           · rw [h1,show decide ((pre.length:Int)>0)=true from decide_eq_true (by omega),cond_true,Qab,h3,Qab,ih]
             by_cases hy:y<x
             · rw [show decide (x≤y)=false by simp; omega,cond_false]; simp [hy]
             · rw [show decide (x≤y)=true by simp; omega,cond_true]; simp [hy]
       · intro n _ hd
         simp only [Qd3.eq_2]
         unfold Qig
         rw [hd,cond_false]
         simp [Q9h]
     · rw [show decide ((c.f8.length:Int)>100)=true by simp; omega,cond_true,show decide ((c.f8.length:Int)≤100)=false by simpa using h1,Bool.and_false]
theorem Q4m {α β:Type} {a:List α} {b:List β} {i:Int} {p:α×β} (h:ix (a.zip b) i=some p):ix a i=some p.1∧ix b i=some p.2:=by
 obtain ⟨h0,_,h1⟩:=Qan h
 have:=List.getElem?_zip_eq_some.1 h1
 unfold ix
 rw [if_pos h0,if_pos h0]
 exact this
theorem Jhj {fu:Nat} {x:Plan} (h:Sp x) (hf:1048577≤fu):Qp6 fu x=some (Q9z x):=by
 have hs:=h.spots
 have hc:=h.cars
 unfold Qp6 Q9z
 cases he:x.fa.length==x.fE.length
 · have:((x.fa.length:Int) != (x.fE.length:Int))=true:=by simp at he ⊢; omega
   rw [this]; rfl
 · have el:x.fa.length=x.fE.length:=by simpa using he
   have:((x.fa.length:Int) != (x.fE.length:Int))=false:=by simp; omega
   rw [this,cond_false,Bool.true_and]
   by_cases h1:(x.fE.length:Int)≤100
   · rw [show decide ((x.fE.length:Int)>100)=false by simp; omega,cond_false,show decide ((x.fE.length:Int)≤100)=true by simpa using h1,Bool.true_and]
     unfold Qpw
     have hz:(x.fE.zip x.fa).length=x.fE.length:=by simp; omega
     have key:=lp (x.fE.zip x.fa) (λn (_:Unit) i=>Qf1 fu x n i) (λl _=>some (l.all λp=>Q9m p.1&&Jbw p.2)) (by omega) ?_ ?_ fu () (by omega)
     · exact key
     · intro n _ i p xs hx hd ih
       have ih:=ih ()
       obtain ⟨e1,e2⟩:=Q4m hx
       have hu:=h.units p.1 (Qml e1)
       rw [hz] at hd
       simp only [Qf1.eq_2]
       unfold Ql8 Qpk
       simp only [hd,cond_true,e1,e2,Qab,Q0l,Jg5 hu (show p.1.f8.length<fu by omega),Jb7,ih,List.all_cons]
       unfold Q9m Jbw
       cases inb p.1.fc 0 999 <;> cases inb p.1.f9 0 3 <;> cases Jdy p.1.f8 <;> cases inb p.2.fJ 0 2000 <;> cases inb p.2.fX 0 2000 <;> cases inb p.2.fY 0 2000 <;> cases inb p.2.fZ 0 2000 <;> rfl
     · intro n _ i hd
       rw [hz] at hd
       simp only [Qf1.eq_2]
       unfold Ql8
       simp [hd]
   · rw [show decide ((x.fE.length:Int)>100)=true by simp; omega,cond_true,show decide ((x.fE.length:Int)≤100)=false by simpa using h1,Bool.false_and]
theorem Jig {fu:Nat} {x:Plan} (h:Sp x) (hf:1048577≤fu):Qqq fu x=some (Q9z x):=by
 have hs:=h.spots
 have hc:=h.cars
 unfold Qqq Q9z
 cases he:x.fa.length==x.fE.length
 · have:((x.fE.length:Int) != (x.fa.length:Int))=true:=by simp at he ⊢; omega
   rw [this]; rfl
 · have el:x.fa.length=x.fE.length:=by simpa using he
   have:((x.fE.length:Int) != (x.fa.length:Int))=false:=by simp; omega
   rw [this,cond_false,Bool.true_and]
   by_cases h1:(x.fE.length:Int)≤100
   · rw [show decide ((x.fE.length:Int)>100)=false by simp; omega,cond_false,show decide ((x.fE.length:Int)≤100)=true by simpa using h1,Bool.true_and]
     unfold Qpf
     have hz:(x.fE.zip x.fa).length=x.fE.length:=by simp; omega
     have key:=lp (x.fE.zip x.fa) (λn (_:Unit) i=>Qfy fu x n i) (λl _=>some (l.all λp=>Q9m p.1&&Jbw p.2)) (by omega) ?_ ?_ fu () (by omega)
     · exact key
     · intro n _ i p xs hx hd ih
       have ih:=ih ()
       obtain ⟨e1,e2⟩:=Q4m hx
       have hu:=h.units p.1 (Qml e1)
       rw [hz] at hd
       simp only [Qfy.eq_2]
       unfold Qmd Qpn
       simp only [hd,cond_true,e1,e2,Qab,Q0h,Jhp hu (show p.1.f8.length<fu by omega),ih,List.all_cons]
       unfold Jbw
       cases Q9m p.1 <;> cases inb p.2.fJ 0 2000 <;> cases inb p.2.fX 0 2000 <;> cases inb p.2.fY 0 2000 <;> cases inb p.2.fZ 0 2000 <;> rfl
     · intro n _ i hd
       rw [hz] at hd
       simp only [Qfy.eq_2]
       unfold Qmd
       simp [hd]
   · rw [show decide ((x.fE.length:Int)>100)=true by simp; omega,cond_true,show decide ((x.fE.length:Int)≤100)=false by simpa using h1,Bool.false_and]
def cs (x:Plan):List (Carton×Spot):=x.fE.zip x.fa
theorem Q65 (r:Request) (us:List Int):∀ (l:List Typ) (s:Typ×Bool),(l.foldl (chp r us) s).2=(s.2||l.any (Q2s r us))
 | [],s=>by simp
 | t::l,s=>by
  rw [List.foldl_cons,Q65 r us l,List.any_cons]
  unfold chp
  obtain ⟨b,f⟩:=s
  cases Q2s r us t <;> cases f <;> simp
  cases (decide (t.fL<b.fL)||t.fL==b.fL&&decide (t.f4<b.f4)) <;> simp
theorem Jag {r:Request} {us:List Int} {t:Typ} (ht:t∈r.fG) (h:Q2s r us t=true):(Q0b r us).2=true:=by
 unfold Q0b
 rw [Q65]
 simp only [Bool.false_or]
 exact List.any_eq_true.2 ⟨t,ht,h⟩
theorem Q8t {a b:List Int} (h:a.Perm b):Qw1 a=Qw1 b:=by
 induction h with
 | nil=>rfl
 | cons x _ ih=>simp [ih]
 | swap x y l=>simp; omega
 | trans _ _ h1 h2=>rw [h1,h2]
theorem Q9o {r:Request} {a b:List Int} (h:a.Perm b):(Qwj r a).Perm (Qwj r b):=h.filterMap _
theorem Jal {r:Request} {a b:List Int} (h:a.Perm b):Qvd r a=Qvd r b:=Q8t ((Q9o h).map _)
theorem Q4o {f:Typ→Int}:∀ (xs pre:List Typ) (t:Typ),Q6e f pre xs=true→t∈xs→(∀ y∈pre,f y≠f t)∧xs.find? (λy=>f y==f t)=some t
 | [],_,_,_,h=>by simp at h
 | x::xs,pre,t,hn,h=>by
  simp only [Q6e,Bool.and_eq_true,Bool.not_eq_true'] at hn
  have hx:=List.any_eq_false.1 hn.1
  rcases List.mem_cons.1 h with rfl | h
  · exact ⟨λy hy e=>hx y hy (by simp [e]),by simp⟩
  · have ih:=Q4o xs (pre++[x]) t hn.2 h
    refine ⟨λy hy=>ih.1 y (by simp [hy]),?_⟩
    have:=ih.1 x (by simp)
    have e:(f x==f t)=false:=by simpa using this
    rw [List.find?_cons,e]
    exact ih.2
theorem Jam {r:Request} (hc:Qhu r=0) {t:Typ} (ht:t∈r.fG):Qs0 r t.f4=some t:=by
 have h:=(Qgv hc).2.1
 unfold Q81 at h
 simp only [Bool.and_eq_true] at h
 exact (Q4o r.fG [] t h.1.1.1 ht).2
theorem Q5j (r:Request) (us:List Int):∀ (l:List Typ) (s:Typ×Bool),(∀ t∈l,t∈r.fG)→(s.2=true→s.1∈r.fG∧Q2s r us s.1=true)→(l.foldl (chp r us) s).2=true→(l.foldl (chp r us) s).1∈r.fG∧Q2s r us (l.foldl (chp r us) s).1=true
 | [],s,_,h,h2=>h h2
 | t::l,s,hl,h,h2=>by
  rw [List.foldl_cons] at h2 ⊢
  refine Q5j r us l _ (λx hx=>hl x (by simp [hx])) (λh3=>?_) h2
  unfold chp at h3 ⊢
  cases hh:Q2s r us t&&(!s.2||(decide (t.fL<s.1.fL)||(t.fL==s.1.fL&&decide (t.f4<s.1.f4))))
  · rw [hh,cond_false] at h3
    rw [cond_false]
    exact h h3
  · rw [Bool.and_eq_true] at hh
    rw [cond_true]
    exact ⟨hl t (by simp),hh.1⟩
theorem Q92 {r:Request} {us l:List Int} (h:Qc r (Qux r us) l):Q2s r l (Qwb r)=true:=by
 obtain ⟨h1,h2,h3⟩:=h
 obtain ⟨u,hu⟩:=List.exists_mem_of_ne_nil _ h1
 have hc:=Q4j (Qyd (h2 u hu))
 have hz:=Qgv hc
 unfold Q2s
 rw [show (Qhu r==0)=true by simp [hc],Bool.true_and,h3,Bool.and_true,List.all_eq_true]
 intro v hv
 have hv':=Qyd (h2 v hv)
 unfold uOk
 rw [Qvv hv',Bool.and_eq_true]
 exact ⟨rfl,hz.2.2.2.1 _ (Q1a hv')⟩
theorem Jfx {r:Request} {us l:List Int} (h:Qc r (Qux r us) l):Qhu r=0∧(Q0b r l).2=true∧(Q0b r l).1∈r.fG∧Q2s r l (Q0b r l).1=true∧Qs0 r (Q0b r l).1.f4=some (Q0b r l).1:=by
 obtain ⟨u,hu⟩:=List.exists_mem_of_ne_nil _ h.1
 have hc:=Q4j (Qyd (h.2.1 u hu))
 have h2:=Jag (Q73 hc).2.1 (Q92 h)
 have h3:=Q5j r l r.fG (Jfn,false) (λ_ h=>h) (by simp) h2
 exact ⟨hc,h2,h3.1,h3.2,Jam hc h3.1⟩
theorem Jcy {r:Request} {us l:List Int} (h:Qc r (Qux r us) l):1≤Qvd r l:=by
 obtain ⟨h1,h2,_⟩:=h
 match l,h1 with
 | u::l,_ =>
  have hu:=Qyd (h2 u (by simp))
  have hc:=Q4j hu
  have:=(Qr3 (Qgv hc).1).1 _ (Q1a hu)
  simp only [Qxe,Bool.and_eq_true,Qdc] at this
  have h3:=(Q74 r l).1
  rw [Q48]
  omega
theorem Jdj {r:Request} {us l:List Int} (h:Qc r (Qux r us) l) (k:Int):Q4p r (Q69 r k l)=⟨(Q0b r l).1.fW,(Q0b r l).1.fD,(Q0b r l).1.fH,(Q0b r l).1.fO+Qvd r l⟩∧Q99 r.fJ (Q4p r (Q69 r k l))=true:=by
 obtain ⟨hc,_,ht,hh,hf⟩:=Jfx h
 have hz:=Qgv hc
 have e:Q4p r (Q69 r k l)=⟨(Q0b r l).1.fW,(Q0b r l).1.fD,(Q0b r l).1.fH,(Q0b r l).1.fO+Qvd r l⟩:=by
  unfold Q4p Q69
  simp only [hf,show (Qhu r==0)=true by simp [hc],cond_true,Jal (Qx6 l)]
 refine ⟨e,?_⟩
 have ht1:=Qxu hz.1 _ ht
 have ht2:=hz.2.2.2.2 _ ht
 simp only [Q1d,Bool.and_eq_true,Qdc] at ht1
 simp only [Q6h,Bool.or_eq_false_iff,decide_eq_false_iff_not] at ht2
 rw [Qa1 (by omega) (by omega)] at ht2
 have hg:=Jcy h
 unfold Q2s at hh
 simp only [Bool.and_eq_true] at hh
 have hw:=hh.2.2
 unfold Q27 at hw
 simp only [Bool.and_eq_true,decide_eq_true_eq] at hw
 rw [e]
 simp only [Q99,Bool.and_eq_true,Qdc]
 omega
def Qxl (r:Request) (k:Int):List Box:=((Qu3 r).filter λc=>c.f9==k).map (Q4p r)
def plS (r:Request) (s:List Spot×Int) (k:Int):List Spot×Int:=(s.1++(spM r.fJ (Qxl r k)).map (λt=>⟨t.fJ+s.2,t.fX,t.fY,t.fZ⟩),s.2+Jax (spM r.fJ (Qxl r k)))
def Q7c (r:Request):Plan×Bool:=bif Qhu r==0 then (⟨Qu3 r,((Qnw 0 (Qns r).length).foldl (plS r) ([],0)).1⟩,true) else (⟨[],[]⟩,false)
theorem Qxw (r:Request) (k:Int):∀ (ks:List Int),ks.Nodup→((Q1h r ks).filter λc=>c.f9==k)=bif ks.contains k then Q5n r k else []
 | [],_=>rfl
 | j::ks,hn=>by
  obtain ⟨h1,h2⟩:=List.nodup_cons.1 hn
  have ih:=Qxw r k ks h2
  rw [Q1h,List.filter_append,ih]
  have hj:∀ c∈Q5n r j,c.f9=j:=by
   intro c hc
   unfold Q5n at hc
   obtain ⟨l,_,rfl⟩:=List.mem_map.1 hc
   rfl
  by_cases e:k=j
  · subst e
    have e1:(Q5n r k).filter (λc=>c.f9==k)=Q5n r k:=List.filter_eq_self.2 λc hc=>by simp [hj c hc]
    have e2:ks.contains k=false:=by simpa using h1
    rw [e1,e2]
    simp
  · have e1:(Q5n r j).filter (λc=>c.f9==k)=[]:=List.filter_eq_nil_iff.2 λc hc=>by simp [hj c hc]; omega
    rw [e1]
    have e2:(j::ks).contains k=ks.contains k:=by simp [e]
    rw [e2]; rfl
theorem Q5q {r:Request} {k:Int} (h:0≤k∧k<(Qns r).length):Qxl r k=(Q5n r k).map (Q4p r):=by
 unfold Qxl Qu3
 rw [Qxw r k _ (Q59 _ _)]
 rw [show (Qnw 0 (Qns r).length).contains k=true by rw [List.contains_iff_mem,Qh1]; omega]
 rfl
theorem Q61 {r:Request} (hc:Qhu r=0) {k:Int} (h:0≤k∧k<(Qns r).length):Qy0 r.fJ (Qxl r k)=true:=by
 have hb:=(Qgv hc).1
 unfold Q3d at hb
 simp only [Bool.and_eq_true] at hb
 unfold Qy0
 rw [Q5q h,Bool.and_eq_true]
 refine ⟨hb.1.1.1.1.1.1.1.1.2,List.all_eq_true.2 λb hb=>?_⟩
 unfold Q5n at hb
 rw [List.map_map] at hb
 obtain ⟨l,hl,rfl⟩:=List.mem_map.1 hb
 exact (Jdj (Ji3 l hl) k).2
theorem Q7y (r:Request) (k:Int):(Qxl r k).length≤48:=by
 have h1:=List.length_filter_le (λc:Carton=>c.f9==k) (Qu3 r)
 have h2:=Qxj r
 unfold Qxl
 rw [List.length_map]
 omega
theorem Jbb {r:Request} (hc:Qhu r=0):∀ (ks:List Int) (s:List Spot×Int),(∀ k∈ks,0≤k∧k<(Qns r).length)→(ks.foldl (plS r) s).1.length=s.1.length+(Q1h r ks).length
 | [],s,_=>by simp [Q1h]
 | k::ks,s,h=>by
  rw [List.foldl_cons,Jbb hc ks _ λj hj=>h j (by simp [hj])]
  have hk:=h k (by simp)
  have h1:=Q3x (Q61 hc hk)
  rw [Q5q hk,List.length_map] at h1
  simp only [plS,Q1h,List.length_append,List.length_map,Q5q hk,h1]
  omega
theorem Jcm (r:Request):(Q7c r).1.fa.length=(Q7c r).1.fE.length∧(Q7c r).1.fE.length≤48∧∀ c∈(Q7c r).1.fE,c.f8.length≤12:=by
 unfold Q7c
 cases hc:Qhu r==0
 · exact ⟨rfl,by simp,by simp⟩
 · rw [cond_true]
   have:=Jbb (r:=r) (by simpa using hc) (Qnw 0 (Qns r).length) ([],0) λk hk=>by have:=Qh1.1 hk; omega
   exact ⟨by rw [this]; simp [Qu3],Qxj r,λc hc=>Qyu hc⟩
theorem Jeq {fu:Nat} {r:Request} (h:Sm fu r):Qqg fu r=some (Q7c r):=by
 have hfu:=h.fu
 have hg:=(Qtq r).1
 have hcl:=Qxj r
 unfold Qqg Q7c
 rw [Q16 h,Qab]
 cases hc:Qhu r==0
 · rw [show (Qhu r != 0)=true by simp only [bne,hc]; rfl]; rfl
 · have hz:Qhu r=0:=by simpa using hc
   rw [show (Qhu r != 0)=false by simp [hz],cond_false,cond_true,Jgi h,Qab,Jcx h,Qab]
   have L3:=Q54 ((Qns r).length:Int) (λn (s:List Spot×Int) k=>Qci fu r (Qu3 r) (Qns r) n s.1 s.2 k) (λks s=>some ((⟨Qu3 r,(ks.foldl (plS r) s).1⟩:Plan),true)) (λks s=>(∀ k∈ks,0≤k∧k<(Qns r).length)∧s.1.length+48*ks.length≤1000∧0≤s.2∧s.2+1000000*ks.length≤10000000) (by omega) ?_ ?_ (Qns r).length fu ([],0) 0 (by omega) (by omega) (by omega) ⟨λk hk=>by have:=Qh1.1 hk; omega,by simp [Qcn]; omega,by simp,by simp [Qcn]; omega⟩
   · exact L3
   · intro n ⟨sp,base⟩ k ks k0 k1 hd hI ih
     obtain ⟨i1,i2,i3,i4⟩:(∀ j∈k::ks,0≤j∧j<(Qns r).length)∧sp.length+48*(k::ks).length≤1000∧0≤base∧base+1000000*((k::ks).length:Int)≤10000000:=hI
     simp only [List.length_cons] at i2 i4
     simp only [Qci.eq_2]
     unfold Ql6
     rw [hd,cond_true]
     have L2:=lpI (Qu3 r) (λm (bs:List Box) i=>Qf0 fu (Qci fu r (Qu3 r) (Qns r) n) r (Qu3 r) sp base k m bs i) (λcs bs=>Qac (Ql1 fu r.fJ (bs++(cs.filter λc=>c.f9==k).map (Q4p r))) λx=>Qf2 fu (Qci fu r (Qu3 r) (Qns r) n) base k x fu sp 0) (λcs bs=>bs.length+cs.length≤48∧∀ c∈cs,c.f8.length≤12) (by omega) ?_ ?_ fu [] ⟨by simpa using hcl,λc hc=>Qyu hc⟩ (by omega)
     · refine L2.trans ?_
       have hbl:=Q7y r k
       rw [List.nil_append,show ((Qu3 r).filter λc=>c.f9==k).map (Q4p r)=Qxl r k from rfl,Jcd hfu _ _ (by omega),Qab]
       have hsl:=Q3x (Q61 hz ⟨k0,k1⟩)
       have hpb:=Q6t (spM r.fJ (Qxl r k))
       have hps:∀ s∈spM r.fJ (Qxl r k),s∈spM r.fJ (Qxl r k):=λ_ h=>h
       have ih':=ih (plS r (sp,base) k) ⟨λj hj=>i1 j (by simp [hj]),by simp [plS]; omega,by simp [plS]; omega,by simp [plS]; omega⟩
       rw [List.foldl_cons,← ih']
       have hS:=Jfv (fu:=fu) (l:=spM r.fJ (Qxl r k)) (by omega) (by omega)
       have hwf:∀ s∈spM r.fJ (Qxl r k),w64 (s.fJ+base)=s.fJ+base:=by
        intro s hs
        have:=Jbf (p:=r.fJ) (l:=Qxl r k) (by omega) s hs
        exact Qa1 (by omega) (by omega)
       generalize hSP:spM r.fJ (Qxl r k)=S at hsl hpb hS hwf ⊢
       have L1:=lpI S (λm (o:List Spot) i=>Qf2 fu (Qci fu r (Qu3 r) (Qns r) n) base k S m o i) (λxs o=>Qci fu r (Qu3 r) (Qns r) n (o++xs.map (λt=>⟨t.fJ+base,t.fX,t.fY,t.fZ⟩)) (base+Jax S) (w64 (k+1))) (λxs o=>o.length+xs.length≤1000∧∀ s∈xs,w64 (s.fJ+base)=s.fJ+base) (by omega) ?_ ?_ fu sp ⟨by omega,hwf⟩ (by omega)
       · refine L1.trans ?_
         simp only [plS,hSP]
       · intro m o i x xs hx hd hI ih
         obtain ⟨j1,j2⟩:=hI
         simp only [List.length_cons] at j1
         simp only [Qf2.eq_2]
         unfold Ql5
         rw [hd,cond_true,hx,Qab,j2 x (by simp),ap1 (by simp; omega),Qab,ih _ ⟨by simp; omega,λs hs=>j2 s (by simp [hs])⟩]
         simp
       · intro m o i hd hI
         simp only [Qf2.eq_2]
         unfold Ql5
         rw [hd,cond_false,hS,Qab,Qa1 (n:=base+_) (by omega) (by omega)]
         simp
     · intro m bs i c cs hx hd hI ih
       obtain ⟨j1,j2⟩:=hI
       simp only [List.length_cons] at j1
       have hcu:=j2 c (by simp)
       simp only [Qf0.eq_2]
       unfold Qmu Qls
       rw [hd,cond_true,hx,Qab,Qab,Jfz h c (by omega),Qab,ap1 (by simp; omega),Qab,ih _ ⟨by simp; omega,λc hc=>j2 c (by simp [hc])⟩,ih _ ⟨by omega,λc hc=>j2 c (by simp [hc])⟩,List.filter_cons]
       cases c.f9==k <;> simp
     · intro m bs i hd _
       simp only [Qf0.eq_2]
       unfold Qmu
       rw [hd,cond_false]; simp
   · intro n ⟨sp,base⟩ k hd _
     simp only [Qci.eq_2]
     unfold Ql6
     rw [hd,cond_false]; rfl
end Go.Proofs.YtpcmapfabndggabGreatDoor
