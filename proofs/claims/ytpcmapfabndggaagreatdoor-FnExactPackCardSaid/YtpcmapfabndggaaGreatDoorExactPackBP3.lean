/- ExactPackBP: plain l.. -/
import Derived.Test.YtpcmapfabndggaaGreatDoorExactPackBP2
set_option linter.unusedSimpArgs false
set_option linter.unusedVariables false
namespace Go.Proofs.YtpcmapfabndggaaGreatDoor
open Go
open Enc (rd ow)
open Arg (argv)
open Ret (retv)
open Wf (wf)
def inB (n lo hi:Int):Bool:=decide (lo≤n∧n≤hi)
theorem Q3k {n lo hi:Int}:inB n lo hi=true↔lo≤n∧n≤hi:=by simp [inB]
theorem Jbe (fu:Nat) (n lo hi:Int):Qau fu n lo hi=some (inB n lo hi):=by
 unfold Qau inB
 by_cases h:n≥lo
 · rw [Qa0 (by simpa using h)]
   have:lo≤n:=h
   simp [this]
 · rw [Qam (by simpa using h)]
   have:¬ lo≤n:=h
   simp [this]
theorem Q9g (fu:Nat) (n lo hi:Int):Qaz fu n lo hi=some (inB n lo hi):=Jbe fu n lo hi
def Qs6 (p:Pallet):Bool:=inB p.fW 1 2000&&(inB p.fD 1 2000&&(inB p.fH 1 2000&&inB p.fQ 1 100000))
def Jdh (p:Pallet) (b:Box):Bool:=inB b.fW 1 p.fW&&(inB b.fD 1 p.fD&&(inB b.fH 1 p.fH&&inB b.fQ 1 p.fQ))
def Q3z (p:Pallet) (l:List Box):Bool:=Qs6 p&&l.all (Jdh p)
theorem Qrx (fu:Nat) (p:Pallet):Qem fu p=some (Qs6 p):=by
 unfold Qem Qdu Qs6
 simp only [Q9g,Qab]
 cases inB p.fW 1 2000 <;> cases inB p.fD 1 2000 <;> cases inB p.fH 1 2000 <;> rfl
theorem Q3j (fu:Nat) (b:Box) (p:Pallet):Qlk fu b p=some (!Jdh p b):=by
 unfold Qlk Jdh
 simp only [Q9g,Qab]
 cases inB b.fW 1 p.fW <;> cases inB b.fD 1 p.fD <;> cases inB b.fH 1 p.fH <;> rfl
theorem Qy8 (fu:Nat) (l:List Box) (f:Box→Option Bool) (g:Box→Bool) (hg:∀ b,f b=some (g b)) (h:l.length≤1048576) (hf:l.length<fu) :
    Qbx fu l f=some (l.any g):=by
 unfold Qbx Qc2
 have key:∀ (m i n:Nat),l.length - i=m→i≤l.length→m<n→∃ r,Qax fu l f n i=some r∧decide (r≥0)=(l.drop i).any g:=by
  intro m
  induction m with
  | zero =>
   intro i n hm hi hn
   obtain ⟨n,rfl⟩:∃ k,n=k+1:=⟨n - 1,by omega⟩
   rw [Qax.eq_2]
   unfold Qck
   rw [Qam (by simp; omega),List.drop_eq_nil_of_le (by omega)]
   exact ⟨_,rfl,rfl⟩
  | succ m ih =>
   intro i n hm hi hn
   obtain ⟨n,rfl⟩:∃ k,n=k+1:=⟨n - 1,by omega⟩
   have hlt:i<l.length:=by omega
   rw [Qax.eq_2]
   unfold Qck
   rw [Qa0 (by simpa using hlt),Jci (Jc5 (List.getElem?_eq_getElem hlt)),hg,Qab,List.drop_eq_getElem_cons hlt,List.any_cons]
   cases hgx:g l[i]
   · rw [Qam rfl,Qa1 (by omega) (by omega),Bool.false_or]
     have:=ih (i+1) n (by omega) (by omega) (by omega)
     simpa using this
   · rw [Qa0 rfl]
     exact ⟨_,rfl,by simp⟩
 obtain ⟨r,h1,h2⟩:=key l.length 0 fu (by omega) (by omega) hf
 have h1':Qax fu l f fu 0=some r:=h1
 rw [h1',Qab,h2]
 rfl
theorem Qua (fu:Nat) (p:Pallet) (l:List Box) (h:l.length≤1048576) (hf:l.length<fu):Ql1 fu p l=some (Q3z p l):=by
 unfold Ql1 Q3z
 rw [Qrx,Qab]
 cases Qs6 p
 · rfl
 rw [Qa0 rfl,Qy8 fu l _ (λb=>!Jdh p b) (λb=>Q3j fu b p) h hf,Qab,Bool.true_and]
 congr 1
 induction l with
 | nil=>rfl
 | cons x xs ih =>
  simp only [List.any_cons,List.all_cons,Bool.not_or,Bool.not_not]
  rw [ih (by simp at h; omega) (by simp at hf; omega)]
theorem Jah (p:Pallet) (l:List Box):Q3z p l=Qyu p l:=by
 have e:∀ a b c:Int,inB a b c=inb a b c:=λa b c=>Bool.eq_iff_iff.2 (by rw [Q3k,Qdx])
 have e2:Jdh p=Q88 p:=by funext b; unfold Jdh Q88; simp only [e]
 unfold Q3z Qyu Qs6 Quj
 simp only [e,e2]
theorem Jbt (a b:Int):(if b>a then b else a)=mxI a b:=by unfold mxI; split <;> split <;> omega
theorem Q06 {α:Type} (l:List α) (j:Nat) (a:α):Qhn l (j:Int) a=l.set j a:=by simp [Qhn]
theorem Jak {fu:Nat} {k8:List Shelf→Int→Option (List Shelf)} {x i:Int} {b:Box} {o:List Shelf} {j:Nat} {s:Shelf} (hs:o[j]? = some s) (hl:s.f0.length≤1000000)
    (h1:-1000000000≤s.fW+b.fW∧s.fW+b.fW≤1000000000) (h2:-1000000000≤s.fQ+b.fQ∧s.fQ+b.fQ≤1000000000):Qdh fu k8 x i b o (j:Int)=k8 (o.set j (Qrh s i b)) (w64 (x+1)):=by
 unfold Qdh Qn8
 rw [Qlg,hs,Qab,ap1 (by simp; omega),Qab]
 simp only [Qab,Q06,List.set_set,Jbt]
 rw [Qa1 (n:=s.fW+b.fW) (by omega) (by omega),Qa1 (n:=s.fQ+b.fQ) (by omega) (by omega)]
 rfl
theorem Q7y {fu:Nat} (hfu:2097153≤fu) (p:Pallet) (l:List Box) (hl:l.length<20):Qok fu p l=some (shM p l):=by
 unfold Qok shM
 rw [Qua fu p l (by omega) (by omega),Qab,Jah]
 cases hb:Qyu p l
 · rfl
 · rw [Bool.not_true,cond_false,cond_true]
   have key:=lpI l (λn (o:List Int) i=>Qgm fu p l n o i) (λxs o=>Qac (Qgw fu (o++xs.map (·.fD))) λx=>Qb0 fu p l x fu [] 0) (λxs o=>o.length+xs.length≤1000) (by omega) ?_ ?_ fu [] (by simp; omega) (by omega)
   · rw [key,List.nil_append,Ja8 hfu (by simp; omega),Qab,List.length_map]
     have hsl:=Qsj (dnk (l.map (·.fD))) l.length
     have hsm:=λx=>Qvq (k:=dnk (l.map (·.fD))) (n:=l.length) (x:=x)
     generalize srt (dnk (l.map (·.fD))) l.length=S at hsl hsm ⊢
     refine lpI S (λn (o:List Shelf) i=>Qb0 fu p l S n o i) (λxs o=>some (xs.foldl (shS p l) o)) (λxs o=>(∀ i∈xs,0≤i∧i<l.length)∧(∀ s∈o,ShI p l.length s)∧((o.map (·.f0)).flatten).length+xs.length≤1000∧o.length+xs.length≤1000) (by omega) ?_ ?_ fu [] ⟨λi hi=>(hsm i).1 hi,by simp,by simp; omega,by simp; omega⟩ (by omega)
     · intro n o i x xs hx hd hI ih
       obtain ⟨i1,i2,i3,i4⟩:=hI
       simp only [List.length_cons] at i3 i4
       have hxi:=i1 x (by simp)
       obtain ⟨hbx,b1,b2,b3,b4⟩:=Q2e hb hxi
       obtain ⟨p1,p2,p3,p4⟩:=Qwg (Q0q hb)
       have hflat:((shS p l o x).map (·.f0)).flatten=(o.map (·.f0)).flatten++[x]:=Qrq (λs=>rfl) rfl
       have hlen:(shS p l o x).length≤o.length+1:=Qs4 _ _ _ _
       have ih':=ih (shS p l o x) ⟨λj hj=>i1 j (by simp [hj]),Q3t hb hxi i2,by rw [hflat,List.length_append,List.length_singleton]; omega,by omega⟩
       simp only [Qb0.eq_2]
       unfold Qjw
       rw [hd,cond_true,hx,Qab,hbx,Qab,List.foldl_cons,← ih']
       have hnew:∀ o':List Shelf,o'.length≤1000→Qdh fu (λo i=>Qb0 fu p l S n o i) i x (bxA l x) (o'++[zSh]) ((o'.length:Nat):Int)=Qb0 fu p l S n (o'++[Qrh zSh x (bxA l x)]) (w64 (i+1)):=λo' ho'=>by
        rw [Jak (s:=zSh) (by simp) (by simp [zSh]) (by simp [zSh]; omega) (by simp [zSh]; omega)]
        simp
       by_cases he:o=[]
       · subst he
         rw [Qa0 (by decide),ap1 (by simp),Qab]
         exact hnew [] (by simp)
       · obtain ⟨s,e1,e2⟩:=Qtr he
         have hp:=List.length_pos_iff.2 he
         have hsm':=List.mem_of_getLast? e1
         have hs:=i2 s hsm'
         have hsl':=Qq0 (λs:Shelf=>s.f0) o s hsm'
         have eS:shS p l o x=bif Q5x p (bxA l x) s then o.set (o.length - 1) (Qrh s x (bxA l x)) else o++[Qrh zSh x (bxA l x)]:=Qt3 e1
         have e3:w64 ((o.length:Int) - 1)=((o.length - 1:Nat):Int):=by rw [Qa1 (by omega) (by omega)]; omega
         have e4:w64 (((o.length - 1:Nat):Int)+1)=((o.length:Nat):Int):=by rw [Qa1 (by omega) (by omega)]; omega
         have e5:o[o.length - 1]? = some s:=by rw [← List.getLast?_eq_getElem?]; exact e1
         obtain ⟨s1,s2,s3,s4,s5,s6⟩:=hs
         rw [e3,e4,Qam (by simp),Qlg,e5,Qab,Qa1 (n:=s.fW+_) (by omega) (by omega),Qa1 (n:=s.fQ+_) (by omega) (by omega),ap1 (by simp; omega),Qab,eS]
         unfold Q5x
         have c1:decide (s.fW+(bxA l x).fW>p.fW)=!decide (s.fW+(bxA l x).fW≤p.fW):=by
          by_cases h:s.fW+(bxA l x).fW≤p.fW <;> simp [h] <;> omega
         have c2:decide (s.fQ+(bxA l x).fQ>p.fQ)=!decide (s.fQ+(bxA l x).fQ≤p.fQ):=by
          by_cases h:s.fQ+(bxA l x).fQ≤p.fQ <;> simp [h] <;> omega
         rw [c1,c2,Qab]
         have h1:=hnew o (by omega)
         have h2:Qdh fu (λo i=>Qb0 fu p l S n o i) i x (bxA l x) o ((o.length - 1:Nat):Int)=Qb0 fu p l S n (o.set (o.length - 1) (Qrh s x (bxA l x))) (w64 (i+1)):=Jak e5 (by omega) (by omega) (by omega)
         cases decide (s.fW+(bxA l x).fW≤p.fW)
         · exact h1
         · cases decide (s.fQ+(bxA l x).fQ≤p.fQ)
           · exact h1
           · exact h2
     · intro n o i hd _
       simp only [Qb0.eq_2]
       unfold Qjw
       rw [hd,cond_false]; rfl
   · intro n o i x xs hx hd hI ih
     simp only [List.length_cons] at hI
     simp only [Qgm.eq_2]
     unfold Qkz
     rw [hd,cond_true,hx,Qab,ap1 (by simp; omega),Qab,ih _ (by simp; omega)]
     simp
   · intro n o i hd _
     simp only [Qgm.eq_2]
     unfold Qkz
     rw [hd,cond_false]; simp
theorem Jaj {fu:Nat} {k7:List Layer→Int→Option (List Layer)} {i:Int} {b:Shelf} {o:List Layer} {j:Nat} {s:Layer} (hs:o[j]? = some s) (hl:s.fP.length≤1000000)
    (h1:-1000000000≤s.fD+b.fD∧s.fD+b.fD≤1000000000) (h2:-1000000000≤s.fQ+b.fQ∧s.fQ+b.fQ≤1000000000):Qc3 fu k7 i b o (j:Int)=k7 (o.set j (Qso s i b)) (w64 (i+1)):=by
 unfold Qc3 Qmh
 rw [Qlg,hs,Qab,ap1 (by simp; omega),Qab]
 simp only [Qab,Q06,List.set_set,Jbt]
 rw [Qa1 (n:=s.fD+b.fD) (by omega) (by omega),Qa1 (n:=s.fQ+b.fQ) (by omega) (by omega)]
 rfl
theorem Qwp (fu:Nat) (l:List Shelf) (f:Shelf→Option Bool) (g:Shelf→Bool) (hg:∀ b,f b=some (g b)) (h:l.length≤1048576) (hf:l.length<fu) :
    Qbm fu l f=some (l.any g):=by
 unfold Qbm Qcm
 have key:∀ (m i n:Nat),l.length - i=m→i≤l.length→m<n→∃ r,Qaq fu l f n i=some r∧decide (r≥0)=(l.drop i).any g:=by
  intro m
  induction m with
  | zero =>
   intro i n hm hi hn
   obtain ⟨n,rfl⟩:∃ k,n=k+1:=⟨n - 1,by omega⟩
   rw [Qaq.eq_2]
   unfold Qb1
   rw [Qam (by simp; omega),List.drop_eq_nil_of_le (by omega)]
   exact ⟨_,rfl,rfl⟩
  | succ m ih =>
   intro i n hm hi hn
   obtain ⟨n,rfl⟩:∃ k,n=k+1:=⟨n - 1,by omega⟩
   have hlt:i<l.length:=by omega
   rw [Qaq.eq_2]
   unfold Qb1
   rw [Qa0 (by simpa using hlt),Jci (Jc5 (List.getElem?_eq_getElem hlt)),hg,Qab,List.drop_eq_getElem_cons hlt,List.any_cons]
   cases hgx:g l[i]
   · rw [Qam rfl,Qa1 (by omega) (by omega),Bool.false_or]
     have:=ih (i+1) n (by omega) (by omega) (by omega)
     simpa using this
   · rw [Qa0 rfl]
     exact ⟨_,rfl,by simp⟩
 obtain ⟨r,h1,h2⟩:=key l.length 0 fu (by omega) (by omega) hf
 have h1':Qaq fu l f fu 0=some r:=h1
 rw [h1',Qab,h2]
 rfl
theorem Jhj {fu:Nat} (p:Pallet) (l:List Shelf) (hl:l.length≤1048576) (hf:l.length<fu):Qlj fu p l=some (Quj p&&l.all λs=>okL p s.fD s.fH s.fQ):=by
 unfold Qlj
 have e:∀ a b c:Int,inB a b c=inb a b c:=λa b c=>Bool.eq_iff_iff.2 (by rw [Q3k,Qdx])
 have ep:Qs6 p=Quj p:=by unfold Qs6 Quj; simp only [e]
 rw [Qrx,Qab,ep,Qwp fu l _ (λs=>!okL p s.fD s.fH s.fQ) (λs=>by
  unfold Qml okL
  simp only [Q9g,Qab,e]
  cases inb s.fD 1 p.fD <;> cases inb s.fH 1 p.fH <;> rfl) hl hf,Qab]
 cases Quj p
 · rfl
 · rw [cond_true,Bool.true_and]
   congr 1
   rw [Bool.eq_iff_iff]
   simp
theorem Q86 {fu:Nat} (hfu:2097153≤fu) {p:Pallet} (hp:Quj p=true) {l:List Shelf} (hb:OkS p l) (hl:l.length≤1000):Qnh fu p l=some (lyM p l):=by
 unfold Qnh lyM
 rw [Jhj p l (by omega) (by omega),hp,Jdz hb,Qab,Bool.and_self,Bool.not_true,cond_false]
 obtain ⟨p1,p2,p3,p4⟩:=Qwg hp
 refine Q5o (l.length:Int) (λn (o:List Layer) i=>Qb2 fu p l n o i) (λxs o=>some (xs.foldl (lyS p l) o)) (λxs o=>(∀ s∈o,LyI p l.length s)∧((o.map (·.fP)).flatten).length+xs.length≤1000∧o.length+xs.length≤1000) (by omega) ?_ ?_ l.length fu [] 0 (by omega) (by omega) (by omega) ⟨by simp,by simp [Qcn]; omega,by simp [Qcn]; omega⟩
 · intro n o i xs x0 x1 hd hI ih
   obtain ⟨i2,i3,i4⟩:=hI
   simp only [List.length_cons] at i3 i4
   obtain ⟨hbx,b1,b2,b3,_⟩:=Q2o hb ⟨x0,x1⟩
   have hflat:((lyS p l o i).map (·.fP)).flatten=(o.map (·.fP)).flatten++[i]:=Qrq (λs=>rfl) rfl
   have hlen:(lyS p l o i).length≤o.length+1:=Qs4 _ _ _ _
   have ih':=ih (lyS p l o i) ⟨Q3r hb ⟨x0,x1⟩ i2,by rw [hflat,List.length_append,List.length_singleton]; omega,by omega⟩
   simp only [Qb2.eq_2]
   unfold Qiz
   rw [hd,cond_true,hbx,Qab,List.foldl_cons,← ih']
   have hnew:∀ o':List Layer,o'.length≤1000→Qc3 fu (λo i=>Qb2 fu p l n o i) i (shA l i) (o'++[zLy]) ((o'.length:Nat):Int)=Qb2 fu p l n (o'++[Qso zLy i (shA l i)]) (w64 (i+1)):=λo' ho'=>by
    rw [Jaj (s:=zLy) (by simp) (by simp [zLy]) (by simp [zLy]; omega) (by simp [zLy]; omega)]
    simp
   by_cases he:o=[]
   · subst he
     rw [Qa0 (by decide),ap1 (by simp),Qab]
     exact hnew [] (by simp)
   · obtain ⟨s,e1,e2⟩:=Qtr he
     have hp:=List.length_pos_iff.2 he
     have hsm':=List.mem_of_getLast? e1
     have hs:=i2 s hsm'
     have hsl':=Qq0 (λs:Layer=>s.fP) o s hsm'
     have eS:lyS p l o i=bif Q5y p (shA l i) s then o.set (o.length - 1) (Qso s i (shA l i)) else o++[Qso zLy i (shA l i)]:=Qt3 e1
     have e3:w64 ((o.length:Int) - 1)=((o.length - 1:Nat):Int):=by rw [Qa1 (by omega) (by omega)]; omega
     have e4:w64 (((o.length - 1:Nat):Int)+1)=((o.length:Nat):Int):=by rw [Qa1 (by omega) (by omega)]; omega
     have e5:o[o.length - 1]? = some s:=by rw [← List.getLast?_eq_getElem?]; exact e1
     obtain ⟨s1,s2,s4,s5,s6⟩:=hs
     rw [e3,e4,Qam (by simp),Qlg,e5,Qab,Qa1 (n:=s.fD+_) (by omega) (by omega),Qa1 (n:=s.fQ+_) (by omega) (by omega),ap1 (by simp; omega),Qab,eS]
     unfold Q5y
     have c1:decide (s.fD+(shA l i).fD>p.fD)=!decide (s.fD+(shA l i).fD≤p.fD):=by
      by_cases h:s.fD+(shA l i).fD≤p.fD <;> simp [h] <;> omega
     have c2:decide (s.fQ+(shA l i).fQ>p.fQ)=!decide (s.fQ+(shA l i).fQ≤p.fQ):=by
      by_cases h:s.fQ+(shA l i).fQ≤p.fQ <;> simp [h] <;> omega
     rw [c1,c2,Qab]
     have h1:=hnew o (by omega)
     have h2:Qc3 fu (λo i=>Qb2 fu p l n o i) i (shA l i) o ((o.length - 1:Nat):Int)=Qb2 fu p l n (o.set (o.length - 1) (Qso s i (shA l i))) (w64 (i+1)):=Jaj e5 (by omega) (by omega) (by omega)
     cases decide (s.fD+(shA l i).fD≤p.fD)
     · exact h1
     · cases decide (s.fQ+(shA l i).fQ≤p.fQ)
       · exact h1
       · exact h2
 · intro n o i hd _
   simp only [Qb2.eq_2]
   unfold Qiz
   rw [hd,cond_false]; rfl
def zSp:Spot:=⟨0,0,0,0⟩
def ldA (l:List Load) (i:Int):Load:=(ix l i).getD zLd
def spB (l:List Box) (o y z:Int) (is:List Int) (s:List Spot×Int):List Spot×Int:=is.foldl (λs b=>(Qhn s.1 b ⟨o,s.2,y,z⟩,s.2+(bxA l b).fW)) s
def spS (l:List Box) (sh:List Shelf) (o z:Int) (js:List Int) (s:List Spot×Int):List Spot×Int:=js.foldl (λs j=>((spB l o s.2 z (shA sh j).f0 (s.1,0)).1,s.2+(shA sh j).fD)) s
def spY (l:List Box) (sh:List Shelf) (ly:List Layer) (o:Int) (is:List Int) (s:List Spot×Int):List Spot×Int:=is.foldl (λs i=>((spS l sh o s.2 (lyA ly i).fP (s.1,0)).1,s.2+(lyA ly i).fH)) s
def spO (l:List Box) (sh:List Shelf) (ly:List Layer) (ld:List Load) (os:List Int) (out:List Spot):List Spot:=os.foldl (λout o=>(spY l sh ly o (ldA ld o).fK (out,0)).1) out
def spM (p:Pallet) (l:List Box):List Spot:=bif Qyu p l then spO l (shM p l) (lyM p (shM p l)) (ldM p (lyM p (shM p l))) (Qnm 0 (ldM p (lyM p (shM p l))).length) (List.replicate l.length zSp) else []
theorem Qx2 {α:Type} (l:List α) (i:Int) (y:α):(Qhn l i y).length=l.length:=by simp [Qhn]
theorem Q1b (l:List Box) (o y z:Int):∀ (is:List Int) (s:List Spot×Int),(spB l o y z is s).1.length=s.1.length
 | [],_=>rfl
 | i::is,s=>by
  have:=Q1b l o y z is (Qhn s.1 i ⟨o,s.2,y,z⟩,s.2+(bxA l i).fW)
  rw [Qx2] at this
  exact this
theorem Q03 (l:List Box) (sh:List Shelf) (o z:Int):∀ (is:List Int) (s:List Spot×Int),(spS l sh o z is s).1.length=s.1.length
 | [],_=>rfl
 | i::is,s=>by
  have:=Q03 l sh o z is ((spB l o s.2 z (shA sh i).f0 (s.1,0)).1,s.2+(shA sh i).fD)
  rw [Q1b] at this
  exact this
theorem Q1r (l:List Box) (sh:List Shelf) (ly:List Layer) (o:Int):∀ (is:List Int) (s:List Spot×Int),(spY l sh ly o is s).1.length=s.1.length
 | [],_=>rfl
 | i::is,s=>by
  have:=Q1r l sh ly o is ((spS l sh o s.2 (lyA ly i).fP (s.1,0)).1,s.2+(lyA ly i).fH)
  rw [Q03] at this
  exact this
theorem Q8o (l:List Box) (sh:List Shelf) (ly:List Layer) (ld:List Load):∀ (os:List Int) (out:List Spot),(spO l sh ly ld os out).length=out.length
 | [],_=>rfl
 | o::os,out=>by
  have:=Q8o l sh ly ld os (spY l sh ly o (ldA ld o).fK (out,0)).1
  rw [Q1r] at this
  exact this
theorem Q3d {p:Pallet} {l:List Box} (h:Qyu p l=true):(spM p l).length=l.length:=by
 unfold spM
 rw [h,cond_true,Q8o,List.length_replicate]
theorem Q69 {p:Pallet} {l:List Box} (h:Qyu p l=true):OkS p (shM p l):=λs hs=>by
 have:=(Q1t h).1 s hs
 exact ⟨this.d,this.h,this.g⟩
theorem Q6o {p:Pallet} {l:List Shelf} (h:OkS p l):OkY p (lyM p l):=λs hs=>by
 have:=(Q1e h).1 s hs
 exact ⟨this.d,this.h,this.g⟩
theorem Jbm {fu:Nat} (hfu:2097153≤fu) (p:Pallet) (l:List Box) (hl:l.length≤1000):Qlt fu p l=some (spM p l):=by
 unfold Qlt spM
 rw [Q6x (by omega),Qab,Je9 p l (by omega) (by omega),Qab]
 cases hb:Qyu p l
 · rfl
 · obtain ⟨a1,a2,a3⟩:=Q1t hb
   have hS:=Q69 hb
   obtain ⟨y1,y2,y3⟩:=Q1e hS
   have hY:=Q6o hS
   obtain ⟨d1,d2,d3⟩:=Q3l hY
   have hpb:=Q0q hb
   obtain ⟨q1,q2,q3,q4⟩:=Qwg hpb
   rw [Bool.not_true,cond_false,cond_true,Q7b hfu p l hl,Qab,Q99 hfu hpb hS (by omega),Qab,Jbv hfu hpb hY (by omega),Qab]
   have f1:∀ s∈shM p l,s.f0.length≤1000:=λs hs=>by
    have:=Qq0 (λs:Shelf=>s.f0) _ s hs
    rw [a2,Qsj] at this; omega
   have f2:∀ s∈lyM p (shM p l),s.fP.length≤1000:=λs hs=>by
    have:=Qq0 (λs:Layer=>s.fP) _ s hs
    rw [y2,Qcn] at this; omega
   have f3:∀ s∈ldM p (lyM p (shM p l)),s.fK.length≤1000:=λs hs=>by
    have:=Qq0 (λs:Load=>s.fK) _ s hs
    rw [d2,Qcn] at this; omega
   generalize ldM p (lyM p (shM p l))=ld at d1 d3 f3 ⊢
   generalize lyM p (shM p l)=ly at y1 y3 hY d1 d3 f2 ⊢
   generalize shM p l=sh at a1 a3 hS y1 y3 f1 ⊢
   have L4:=Q5o (ld.length:Int) (λn (out:List Spot) o=>Qbo fu l sh ly ld n out o) (λos out=>some (spO l sh ly ld os out)) (λos out=>out.length=l.length) (by omega) ?_ ?_ ld.length fu (List.replicate l.length zSp) 0 (by omega) (by omega) (by omega) (by simp)
   · exact L4
   · intro n out o os o0 o1 hd hI ih
     obtain ⟨x,hx⟩:=Q3o (l:=ld) o0 o1
     have ex:ldA ld o=x:=by unfold ldA; rw [hx]; rfl
     have hxm:=d1 x (Qmc hx)
     have hxl:=f3 x (Qmc hx)
     simp only [Qbo.eq_2]
     unfold Qkw
     rw [hd,cond_true]
     have L3:=lpI x.fK (λm (s:List Spot×Int) i=>Qcf fu (Qbo fu l sh ly ld n) l sh ly ld o m s.1 s.2 i) (λis s=>Qbo fu l sh ly ld n (spY l sh ly o is s).1 (w64 (o+1))) (λis s=>s.1.length=l.length∧(∀ i∈is,0≤i∧i<ly.length)∧0≤s.2∧s.2+2000*is.length≤2000000) (by omega) ?_ ?_ fu (out,0) ⟨hI,hxm.inn,by simp,by simp; omega⟩ (by omega)
     · refine L3.trans ?_
       rw [ih _ (by rw [Q1r]; exact hI)]
       simp only [spO,List.foldl_cons,ex]
     · intro m ⟨out,z⟩ i j is hj hd hI ih
       obtain ⟨i1,i2,i3,i4⟩:out.length=l.length∧(∀ i∈j::is,0≤i∧i<ly.length)∧0≤z∧z+2000*((j::is).length:Int)≤2000000:=hI
       simp only [List.length_cons] at i4
       obtain ⟨hly,t1,t2,t3,hmem⟩:=Q2d hY (i2 j (by simp))
       have hyi:=y1 _ hmem
       have hyl:=f2 _ hmem
       simp only [Qcf.eq_2]
       unfold Qj3
       rw [hx,Qab,hd,cond_true,Qab,hj,Qab,hly,Qab]
       have L2:=lpI (lyA ly j).fP (λq (s:List Spot×Int) k=>Qdk fu (Qcf fu (Qbo fu l sh ly ld n) l sh ly ld o m) l sh o z i (lyA ly j) q s.1 s.2 k) (λks s=>Qcf fu (Qbo fu l sh ly ld n) l sh ly ld o m (spS l sh o z ks s).1 (w64 (z+(lyA ly j).fH)) (w64 (i+1))) (λks s=>s.1.length=l.length∧(∀ i∈ks,0≤i∧i<sh.length)∧0≤s.2∧s.2+2000*ks.length≤2000000) (by omega) ?_ ?_ fu (out,0) ⟨i1,hyi.inn,by simp,by simp; omega⟩ (by omega)
       · refine L2.trans ?_
         rw [Qa1 (n:=z+_) (by omega) (by omega)]
         exact ih ((spS l sh o z (lyA ly j).fP (out,0)).1,z+(lyA ly j).fH) ⟨by rw [Q03]; exact i1,λi hi=>i2 i (by simp [hi]),by simp; omega,by simp; omega⟩
       · intro q ⟨out,y⟩ k b ks hb2 hd hI ih
         obtain ⟨i1,i2,i3,i4⟩:out.length=l.length∧(∀ i∈b::ks,0≤i∧i<sh.length)∧0≤y∧y+2000*((b::ks).length:Int)≤2000000:=hI
         simp only [List.length_cons] at i4
         obtain ⟨hsh,u1,u2,u3,hmem2⟩:=Q2o hS (i2 b (by simp))
         have hsi:=a1 _ hmem2
         have hsl:=f1 _ hmem2
         simp only [Qdk.eq_2]
         unfold Qlc
         rw [hd,cond_true,hb2,Qab,hsh,Qab]
         have L1:=lpI (shA sh b).f0 (λq' (s:List Spot×Int) k'=>Qgd fu (Qdk fu (Qcf fu (Qbo fu l sh ly ld n) l sh ly ld o m) l sh o z i (lyA ly j) q) l o z y k (shA sh b) q' s.1 s.2 k') (λbs s=>Qdk fu (Qcf fu (Qbo fu l sh ly ld n) l sh ly ld o m) l sh o z i (lyA ly j) q (spB l o y z bs s).1 (w64 (y+(shA sh b).fD)) (w64 (k+1))) (λbs s=>s.1.length=l.length∧(∀ i∈bs,0≤i∧i<l.length)∧0≤s.2∧s.2+2000*bs.length≤2000000) (by omega) ?_ ?_ fu (out,0) ⟨i1,hsi.inn,by simp,by simp; omega⟩ (by omega)
         · refine L1.trans ?_
           rw [Qa1 (n:=y+_) (by omega) (by omega)]
           exact ih ((spB l o y z (shA sh b).f0 (out,0)).1,y+(shA sh b).fD) ⟨by rw [Q1b]; exact i1,λi hi=>i2 i (by simp [hi]),by simp; omega,by simp; omega⟩
         · intro q' ⟨out,x'⟩ k' c bs hc hd hI ih
           obtain ⟨i1,i2,i3,i4⟩:out.length=l.length∧(∀ i∈c::bs,0≤i∧i<l.length)∧0≤x'∧x'+2000*((c::bs).length:Int)≤2000000:=hI
           simp only [List.length_cons] at i4
           have hcr:=i2 c (by simp)
           obtain ⟨hbx,v1,v2,v3,v4⟩:=Q2e hb hcr
           obtain ⟨sp,hsp⟩:=Q3o (l:=out) hcr.1 (by omega)
           simp only [Qgd.eq_2]
           unfold Qkx
           rw [hd,cond_true,hc,Qab,hsp,Qab,Qab,hbx,Qab,Qa1 (n:=x'+_) (by omega) (by omega)]
           exact ih (Qhn out c ⟨o,x',y,z⟩,x'+(bxA l c).fW) ⟨by rw [Qx2]; exact i1,λi hi=>i2 i (by simp [hi]),by simp; omega,by simp; omega⟩
         · intro q' ⟨out,x'⟩ k' hd _
           simp only [Qgd.eq_2]
           unfold Qkx
           rw [hd,cond_false]; rfl
       · intro q ⟨out,y⟩ k hd _
         simp only [Qdk.eq_2]
         unfold Qlc
         rw [hd,cond_false]; rfl
     · intro m ⟨out,z⟩ i hd _
       simp only [Qcf.eq_2]
       unfold Qj3
       rw [hx,Qab,hd,cond_false]; rfl
   · intro n out o hd _
     simp only [Qbo.eq_2]
     unfold Qkw
     rw [hd,cond_false]; rfl
def Q82 (n:Int) (out:List Spot):Prop:=∀ s∈out,0≤s.fJ∧s.fJ≤n
theorem Q9b {n:Int} {out:List Spot} {i:Int} {s:Spot} (h:Q82 n out) (hs:0≤s.fJ∧s.fJ≤n):Q82 n (Qhn out i s):=by
 intro t ht
 unfold Qhn at ht
 rcases List.mem_or_eq_of_mem_set ht with ht | rfl
 · exact h t ht
 · exact hs
theorem Q7n {n:Int} (l:List Box) (o y z:Int) (ho:0≤o∧o≤n):∀ (is:List Int) (s:List Spot×Int),Q82 n s.1→Q82 n (spB l o y z is s).1
 | [],_,h=>h
 | i::is,s,h=>Q7n l o y z ho is (Qhn s.1 i ⟨o,s.2,y,z⟩,s.2+(bxA l i).fW) (Q9b h ho)
theorem Q8w {n:Int} (l:List Box) (sh:List Shelf) (o z:Int) (ho:0≤o∧o≤n):∀ (is:List Int) (s:List Spot×Int),Q82 n s.1→Q82 n (spS l sh o z is s).1
 | [],_,h=>h
 | i::is,s,h=>Q8w l sh o z ho is ((spB l o s.2 z (shA sh i).f0 (s.1,0)).1,s.2+(shA sh i).fD) (Q7n l o s.2 z ho _ (s.1,0) h)
theorem Q8l {n:Int} (l:List Box) (sh:List Shelf) (ly:List Layer) (o:Int) (ho:0≤o∧o≤n):∀ (is:List Int) (s:List Spot×Int),Q82 n s.1→Q82 n (spY l sh ly o is s).1
 | [],_,h=>h
 | i::is,s,h=>Q8l l sh ly o ho is ((spS l sh o s.2 (lyA ly i).fP (s.1,0)).1,s.2+(lyA ly i).fH) (Q8w l sh o s.2 ho _ (s.1,0) h)
theorem Q61 {n:Int} (l:List Box) (sh:List Shelf) (ly:List Layer) (ld:List Load):∀ (os:List Int) (out:List Spot),(∀ o∈os,0≤o∧o≤n)→Q82 n out→Q82 n (spO l sh ly ld os out)
 | [],_,_,h=>h
 | o::os,out,ho,h=>Q61 l sh ly ld os (spY l sh ly o (ldA ld o).fK (out,0)).1 (λq hq=>ho q (by simp [hq])) (Q8l l sh ly o (ho o (by simp)) _ (out,0) h)
theorem Ja7 {p:Pallet} {l:List Box} (hl:l.length≤1000):∀ s∈spM p l,0≤s.fJ∧s.fJ≤1000:=by
 unfold spM
 cases hb:Qyu p l
 · simp
 · have a3:=(Q1t hb).2.2
   have hS:=Q69 hb
   have y3:=(Q1e hS).2.2
   have d3:=(Q3l (Q6o hS)).2.2
   rw [cond_true]
   refine Q61 l _ _ _ _ _ (λo ho=>?_) λs hs=>?_
   · have:=Qie.1 ho; omega
   · rw [(List.mem_replicate.1 hs).2]; simp [zSp]
def Jif (r:Request) (k:Int):Bool:=inb k 0 (((Qnu r).length:Int) - 1)
theorem Q0f {r:Request} {k:Int} (h:Jif r k=true):Qht r=0:=by
 unfold Jif at h
 rw [Qdx] at h
 by_cases hc:Qht r=0
 · exact hc
 · have:Qnu r=[]:=by
     unfold Qnu Q2s
     rw [show (Qht r==0)=false by simp [hc]]
     rfl
   rw [this] at h
   simp at h
   omega
theorem Q5b (r:Request) (g:List Int) (u i:Int) (us:List Int) {x:Item} (hx:ix r.fV i=some x):ofG r g u (i::us)=bif g.contains x.fM then u::ofG r g (u+1) us else ofG r g (u+1) us:=by
 rw [ofG,hx]
theorem Jgg {fu:Nat} {r:Request} (h:Sm fu r) (k:Int):Qop fu r k=some (Q28 r k):=by
 have hfu:=h.fu
 unfold Qop Q28
 rw [Jbu h,Qab,Q6m,Q08,Qab]
 cases hg:inb k 0 (((Qnu r).length:Int) - 1)
 · rw [Bool.not_false,cond_true]
   have:ix (Qnu r) k=none:=by
    have hk:¬ (0≤k∧k≤((Qnu r).length:Int) - 1):=by intro hk; rw [(Qdx).2 hk] at hg; cases hg
    unfold ix
    by_cases h0:0≤k
    · rw [if_pos h0,List.getElem?_eq_none (by omega)]
    · rw [if_neg h0]
   rw [this]
 · have hc:=Q0f hg
   rw [Qdx] at hg
   obtain ⟨j,rfl⟩:∃ j:Nat,k=j:=⟨k.toNat,by omega⟩
   have hj:j<(Qnu r).length:=by omega
   have hgl:=(Qtk r).2 _ (List.getElem_mem hj)
   rw [Bool.not_true,cond_false,Jf6 h (Qgy hc).1,Qab,Qzu hj]
   have e:Qm0 r=l6M r:=by unfold Qm0; rw [show (Qht r==0)=true by simp [hc],cond_true]
   simp only [e]
   have hlen:(l6M r).length≤12:=Q8u (Qgy hc).1
   have:=Jcw (l6M r) (λn out i=>Qfe fu r (j:Int) (Qnu r) (l6M r) n out i) (λpre xs out=>some (out++ofG r (Qnu r)[j] (pre.length:Int) xs)) (λpre xs out=>out.length+xs.length≤12) (by omega) ?_ ?_ fu [] (by simpa using hlen) (by omega)
   · simpa using this
   · intro n out pre i xs hl hx hd hI ih
     simp only [List.length_cons] at hI
     have hi:i∈Qm0 r:=by rw [e,hl]; simp
     have hi2:=Q04 hi
     obtain ⟨q,rfl⟩:∃ q:Nat,i=q:=⟨i.toNat,by omega⟩
     have hq:q<r.fV.length:=by omega
     simp only [Qfe.eq_2]
     unfold Qkv Qi2
     simp only [hd,cond_true,hx,Qab,Qzu hj,Qzu hq,Jem (show (Qnu r)[j].length≤1048576 by omega) (show (Qnu r)[j].length<fu by omega)]
     rw [Q5b r _ _ _ _ (Qzu hq)]
     cases (Qnu r)[j].contains r.fV[q].fM
     · rw [cond_false,cond_false,ih _ (by omega)]
       simp
     · rw [cond_true,cond_true,ap1 (by simp; omega),Qab,ih _ (by simp; omega)]
       simp
   · intro n out hd hI
     simp only [Qfe.eq_2]
     unfold Qkv
     simp only [hd,cond_false]
     simp [ofG]
theorem Jf8 {fu:Nat} {r:Request} (h:Sm fu r) (k:Int):Qos fu r k=some (Q28 r k):=by
 have hfu:=h.fu
 unfold Qos Q28
 rw [Jbd h,Qab,Q6m,Q0g,Qab]
 cases hg:inb k 0 (((Qnu r).length:Int) - 1)
 · rw [Bool.not_false,cond_true]
   have:ix (Qnu r) k=none:=by
    have hk:¬ (0≤k∧k≤((Qnu r).length:Int) - 1):=by intro hk; rw [(Qdx).2 hk] at hg; cases hg
    unfold ix
    by_cases h0:0≤k
    · rw [if_pos h0,List.getElem?_eq_none (by omega)]
    · rw [if_neg h0]
   rw [this]
 · have hc:=Q0f hg
   rw [Qdx] at hg
   obtain ⟨j,rfl⟩:∃ j:Nat,k=j:=⟨k.toNat,by omega⟩
   have hj:j<(Qnu r).length:=by omega
   have hgl:=(Qtk r).2 _ (List.getElem_mem hj)
   rw [Bool.not_true,cond_false,Jcz h,Qab,Qzu hj]
   have hlen:=Q0t r
   have:=Jcw (Qm0 r) (λn out i=>Qfa fu r (j:Int) (Qnu r) (Qm0 r) n out i) (λpre xs out=>some (out++ofG r (Qnu r)[j] (pre.length:Int) xs)) (λpre xs out=>out.length+xs.length≤12) (by omega) ?_ ?_ fu [] (by simpa using hlen) (by omega)
   · simpa using this
   · intro n out pre i xs hl hx hd hI ih
     simp only [List.length_cons] at hI
     have hi:i∈Qm0 r:=by rw [hl]; simp
     have hi2:=Q04 hi
     obtain ⟨q,rfl⟩:∃ q:Nat,i=q:=⟨i.toNat,by omega⟩
     have hq:q<r.fV.length:=by omega
     simp only [Qfa.eq_2]
     unfold Qk5 Qje
     simp only [hd,cond_true,hx,Qab,Qzu hj,Qzu hq,Jgf (show (Qnu r)[j].length≤1048576 by omega) (show (Qnu r)[j].length<fu by omega)]
     rw [Q5b r _ _ _ _ (Qzu hq)]
     cases (Qnu r)[j].contains r.fV[q].fM
     · rw [cond_false,cond_false,ih _ (by omega)]
       simp
     · rw [cond_true,cond_true,ap1 (by simp; omega),Qab,ih _ (by simp; omega)]
       simp
   · intro n out hd hI
     simp only [Qfa.eq_2]
     unfold Qk5
     simp only [hd,cond_false]
     simp [ofG]
def Jee (l:List Int):List Int:=l.mergeSort λx y=>decide (x≤y)
theorem Qxw (l:List Int):(Jee l).Perm l:=List.mergeSort_perm l _
theorem Q90 (l:List Int):(Jee l).length=l.length:=(Qxw l).length_eq
def Q8s (r:Request) (k:Int) (l:List Int):Carton:=⟨(Qz2 r l).1.f8,k,Jee l⟩
def Q49 (r:Request) (k:Int):List Carton:=(pwM r (Q28 r k)).map (Q8s r k)
def Q1g (r:Request):List Int→List Carton
 | []=>[]
 | k::ks=>Q49 r k++Q1g r ks
def Quv (r:Request):List Carton:=Q1g r (Qnm 0 (Qnu r).length)
theorem Q8m (l:List Int):(Qnm 0 l.length).map (λp=>(ix l p).getD 0)=l:=by
 have key:∀ (xs pre:List Int),l=pre++xs→(Qnm pre.length xs.length).map (λp=>(ix l p).getD 0)=xs:=by
  intro xs
  induction xs with
  | nil=>intro pre _; rfl
  | cons x xs ih =>
   intro pre he
   have h1:=ih (pre++[x]) (by simp [he])
   simp only [List.length_append,List.length_singleton] at h1
   simp only [List.length_cons,Qnm,List.map_cons]
   rw [show ((pre.length:Int)+1)=((pre.length+1:Nat):Int) by omega,h1]
   congr 1
   rw [Qlg,he]
   simp
 exact key l [] rfl
theorem Jbc (l:List Int):(srt (kf l) l.length).map (λp=>(ix l p).getD 0)=Jee l:=by
 refine Jbn ?_ ?_ (Qtj l)
 · refine ((Qt5 _ _).map _).trans ?_
   rw [Q8m]
   exact (Qxw l).symm
 · refine List.pairwise_map.2 ((Qvi (kf l) l.length).imp fun {p q} h=>?_)
   unfold lx kf at h
   omega
theorem Q4f {r:Request} (k:Int):(Q49 r k).length≤12:=by
 have:=(Q5a (r:=r) (Qxh r k)).1
 simp [Q49]; omega
theorem Jhs {fu:Nat} {r:Request} (h:Sm fu r):Qll fu r=some (Quv r):=by
 have hfu:=h.fu
 have hg:=(Qtk r).1
 unfold Qll Quv
 rw [Jbd h,Qab]
 have:=Q5o ((Qnu r).length:Int) (λn out i=>Qct fu r (Qnu r) n out i) (λxs out=>some (out++Q1g r xs)) (λxs out=>out.length+12*xs.length≤48) (by omega) ?_ ?_ (Qnu r).length fu [] 0 (by omega) (by omega) (by omega) (by simp [Qcn]; omega)
 · simpa using this
 · intro n out k ks h0 h1 hd hI ih
   simp only [List.length_cons] at hI
   have hul:=Qxh r k
   have hpo:=Q5a (r:=r) hul
   simp only [Qct.eq_2]
   unfold Qh7
   rw [hd,cond_true,Jf8 h,Qab,Jgs h _ (by omega),Qab]
   have key:=lpI (pwM r (Q28 r k)) (λm o i=>Qev fu (Qct fu r (Qnu r) n) r k (pwM r (Q28 r k)) m o i) (λxs o=>Qct fu r (Qnu r) n (o++xs.map (Q8s r k)) (w64 (k+1))) (λxs o=>o.length+xs.length≤48∧∀ l∈xs,l.length≤12) (by have:=hpo.1; omega) ?_ ?_ fu out ⟨by have:=hpo.1; omega,hpo.2⟩ (by have:=hpo.1; omega)
   · rw [key,ih _ (by have:=hpo.1; simp; omega)]
     simp [Q1g,Q49]
   · intro m o i l xs hx hd hI ih
     obtain ⟨h2,h3⟩:=hI
     simp only [List.length_cons] at h2
     have hl:=h3 l (by simp)
     simp only [Qev.eq_2]
     unfold Qh0
     rw [hd,cond_true,hx,Qab,Jcp h l (by omega),Qab,show Qc7 fu l=some (Jee l) from Q5n (by omega),Qab,ap1 (by simp; omega),Qab,ih _ ⟨by simp; omega,λy hy=>h3 y (by simp [hy])⟩]
     simp [Q8s]
   · intro m o i hd _
     simp only [Qev.eq_2]
     unfold Qh0
     rw [hd,cond_false]; simp
 · intro n out k hd _
   simp only [Qct.eq_2]
   unfold Qh7
   rw [hd,cond_false]; simp [Q1g]
theorem Jhh {fu:Nat} {r:Request} (h:Sm fu r):Qle fu r=some (Quv r):=by
 have hfu:=h.fu
 have hg:=(Qtk r).1
 unfold Qle Quv
 rw [Jbu h,Qab]
 have:=Q5o ((Qnu r).length:Int) (λn out i=>Qbe fu r (Qnu r) n out i) (λxs out=>some (out++Q1g r xs)) (λxs out=>out.length+12*xs.length≤48) (by omega) ?_ ?_ (Qnu r).length fu [] 0 (by omega) (by omega) (by omega) (by simp [Qcn]; omega)
 · simpa using this
 · intro n out k ks h0 h1 hd hI ih
   simp only [List.length_cons] at hI
   have hul:=Qxh r k
   have hpo:=Q5a (r:=r) hul
   simp only [Qbe.eq_2]
   unfold Qif
   rw [hd,cond_true,Jgg h,Qab,Jgy h _ (by omega),Qab]
   have key:=lpI (pwM r (Q28 r k)) (λm o i=>Qb6 fu (Qbe fu r (Qnu r) n) r k (pwM r (Q28 r k)) m o i) (λxs o=>Qbe fu r (Qnu r) n (o++xs.map (Q8s r k)) (w64 (k+1))) (λxs o=>o.length+xs.length≤48∧∀ l∈xs,l.length≤12) (by have:=hpo.1; omega) ?_ ?_ fu out ⟨by have:=hpo.1; omega,hpo.2⟩ (by have:=hpo.1; omega)
   · rw [key,ih _ (by have:=hpo.1; simp; omega)]
     simp [Q1g,Q49]
   · intro m o i l xs hx hd hI ih
     obtain ⟨h2,h3⟩:=hI
     simp only [List.length_cons] at h2
     have hl:=h3 l (by simp)
     simp only [Qb6.eq_2]
     unfold Qib Qku
     rw [hd,cond_true,hx,Qab,Jby h l (by omega),Qab,Qab,Jia hfu (by omega),Qab]
     have hsl:=Qsj (kf l) l.length
     have hsm:=λx=>Qvq (k:=kf l) (n:=l.length) (x:=x)
     have hsg:=Jbc l
     generalize srt (kf l) l.length=S at hsl hsm hsg ⊢
     have k1:=lpI S (λm' us j=>Qex fu (Qb6 fu (Qbe fu r (Qnu r) n) r k (pwM r (Q28 r k)) m) k (pwM r (Q28 r k)) o i (Qz2 r l).1 S m' us j)
      (λxs us=>Qac (Qfi 40 o [(⟨(Qz2 r l).1.f8,k,us++xs.map λp=>(ix l p).getD 0⟩:Carton)]) λx=>Qhi fu (Qb6 fu (Qbe fu r (Qnu r) n) r k (pwM r (Q28 r k)) m) i x) (λxs us=>us.length+xs.length≤12∧∀ p∈xs,0≤p∧p<l.length) (by omega) ?_ ?_ fu [] ⟨by simp; omega,λp hp=>(hsm p).1 hp⟩ (by omega)
     · rw [k1,List.nil_append,hsg,ap1 (by simp; omega),Qab]
       unfold Qhi
       rw [ih _ ⟨by simp; omega,λy hy=>h3 y (by simp [hy])⟩]
       simp [Q8s]
     · intro m' us j p ps hp hd hI ih
       obtain ⟨h4,h5⟩:=hI
       simp only [List.length_cons] at h4
       simp only [Qex.eq_2]
       unfold Qh6
       rw [hd,cond_true,hx,Qab,hp,Qab,Q6b (h5 p (by simp)),Qab,ap1 (by simp; omega),Qab,ih _ ⟨by simp; omega,λy hy=>h5 y (by simp [hy])⟩]
       simp
     · intro m' us j hd _
       simp only [Qex.eq_2]
       unfold Qh6
       rw [hd,cond_false]; simp
   · intro m o i hd _
     simp only [Qb6.eq_2]
     unfold Qib Qj1
     rw [hd,cond_false]; simp
 · intro n out k hd _
   simp only [Qbe.eq_2]
   unfold Qif
   rw [hd,cond_false]; simp [Q1g]
theorem Q45 (r:Request):∀ (ks:List Int),(Q1g r ks).length≤12*ks.length
 | []=>by simp [Q1g]
 | k::ks=>by
  have:=Q45 r ks
  have:=Q4f (r:=r) k
  simp [Q1g]; omega
theorem Qxf (r:Request):(Quv r).length≤48:=by
 have:=Q45 r (Qnm 0 (Qnu r).length)
 have hg:=(Qtk r).1
 rw [Qcn] at this
 unfold Quv
 omega
theorem Q4a {r:Request} {c:Carton}:∀ {ks:List Int},c∈Q1g r ks↔∃ k∈ks,∃ l∈pwM r (Q28 r k),c=Q8s r k l
 | []=>by simp [Q1g]
 | k::ks=>by
  simp only [Q1g,List.mem_append,Q4a (ks:=ks),List.mem_cons,Q49,List.mem_map]
  constructor
  · rintro (⟨l,hl,rfl⟩ | ⟨k',hk,l,hl,e⟩)
    · exact ⟨k,.inl rfl,l,hl,rfl⟩
    · exact ⟨k',.inr hk,l,hl,e⟩
  · rintro ⟨k',rfl | hk,l,hl,rfl⟩
    · exact .inl ⟨l,hl,rfl⟩
    · exact .inr ⟨k',hk,l,hl,rfl⟩
theorem Qxv {r:Request} {c:Carton} (h:c∈Quv r):c.f9.length≤12:=by
 obtain ⟨k,_,l,hl,rfl⟩:=Q4a.1 h
 have:=(Q5a (r:=r) (Qxh r k)).2 l hl
 simp only [Q8s,Q90]
 omega
def Jdl:List Int→Int
 | []=>1
 | x::xs=>x*Jdl xs
theorem Q9k {a b:List Int} (h:a.Perm b):Jdl a=Jdl b:=by
 induction h with
 | nil=>rfl
 | cons x _ ih=>simp only [Jdl,ih]
 | swap x y l=>simp only [Jdl,← Int.mul_assoc]; rw [Int.mul_comm x y]
 | trans _ _ h1 h2=>rw [h1,h2]
theorem Q6g (a b c:Int):(sid a b c).1*((sid a b c).2.1*(sid a b c).2.2)=a*b*c:=by
 have h:=Q7i a b c
 unfold Q1c at h
 simp only [List.length_cons,List.length_nil] at h
 rw [if_pos (by omega)] at h
 have hp:=List.mergeSort_perm [a,b,c] λx y=>decide (x≤y)
 rw [Option.some.inj h] at hp
 have:=Q9k hp
 simp only [Jdl,Int.mul_one] at this
 rw [this,Int.mul_assoc]
theorem Jew {a b c m:Int} (ha:m≤a) (hb:m≤b) (hc:m≤c):m≤(sid a b c).1:=by
 unfold sid
 simp only
 split <;> split <;> omega
theorem Jc8 {x:Item} {t:Typ} (hx:Qw8 x=true) (ht:Q1i t=true) (h:Qzq x t=true):Q59 x≤Q8z t∧x.fQ≤t.fQ:=by
 simp only [Qw8,Bool.and_eq_true,Qdx] at hx
 simp only [Q1i,Bool.and_eq_true,Qdx] at ht
 simp only [Qzq,Bool.and_eq_true,decide_eq_true_eq] at h
 obtain ⟨⟨⟨h1,h2⟩,h3⟩,h4⟩:=h
 refine ⟨?_,h4⟩
 have e1:Q59 x=x.fW*x.fH*x.fD:=by
  unfold Q59 Q51
  rw [show (inb x.fW 0 2000&&(inb x.fH 0 2000&&inb x.fD 0 2000))=true by simp; omega,cond_true]
 have e2:Q8z t=t.fW*t.fH*t.fD:=by
  unfold Q8z Q51
  rw [show (inb t.fW 0 2000&&(inb t.fH 0 2000&&inb t.fD 0 2000))=true by simp; omega,cond_true]
 rw [e1,e2,← Q6g x.fW x.fH x.fD,← Q6g t.fW t.fH t.fD]
 have p1:1≤(sid x.fW x.fH x.fD).1:=Jew (by omega) (by omega) (by omega)
 have s1:=Qz5 x.fW x.fH x.fD
 have s2:=Qz5 t.fW t.fH t.fD
 refine Int.mul_le_mul h1 ?_ (Int.mul_nonneg (by omega) (by omega)) (by omega)
 exact Int.mul_le_mul h2 h3 (by omega) (by omega)
theorem Q0v {r:Request} {u:Int} (h:0≤u∧u<(Qm0 r).length):Qvf r u∈r.fV:=(Q8g (Qvt h)).2
theorem Q4h {r:Request} {u:Int} (h:0≤u∧u<(Qm0 r).length):Qht r=0:=(Q8g (Qvt h)).1
theorem Q7m {r:Request} (hc:Qht r=0):Qsw r r.fT=some (Qv6 r)∧Qv6 r∈r.fG∧Q1i (Qv6 r)=true:=by
 have h:=(Qgy hc).2.1
 unfold Q75 at h
 simp only [Bool.and_eq_true] at h
 obtain ⟨t,ht⟩:=Option.isSome_iff_exists.1 h.1.2
 have e:Qv6 r=t:=by unfold Qv6; rw [ht]; rfl
 have hm:t∈r.fG:=List.mem_of_find?_eq_some ht
 rw [e]
 exact ⟨ht,hm,Qyp (Qgy hc).1 t hm⟩
theorem Q7v {r:Request} {u:Int} (h:0≤u∧u<(Qm0 r).length):Qwk r [u]=Q59 (Qvf r u)∧Qu6 r [u]=(Qvf r u).fQ:=by
 unfold Qwk Qu6 Qwc
 simp [List.filterMap_cons,Qvt h]
theorem Q7f {r:Request} {u:Int} (h:0≤u∧u<(Qm0 r).length):Q18 r [u] (Qv6 r)=true:=by
 have hc:=Q4h h
 have hz:=Qgy hc
 have hm:=Q0v h
 obtain ⟨h1,h2⟩:=Jc8 ((Qrz hz.1).1 _ hm) (Q7m hc).2.2 (hz.2.2.2.1 _ hm)
 unfold Q18
 rw [(Q7v h).1,(Q7v h).2,Bool.and_eq_true,decide_eq_true_iff,decide_eq_true_iff]
 exact ⟨h1,h2⟩
def Qc (r:Request) (us:List Int) (l:List Int):Prop:=l≠[]∧(∀ u∈l,u∈us)∧Q18 r l (Qv6 r)=true
theorem Jei {r:Request} {us:List Int} {out:List (List Int)} {u:Int} (h:∀ l∈out,Qc r us l) (hu:u∈us) (hr:0≤u∧u<(Qm0 r).length):∀ l∈Jdk r out u,Qc r us l:=by
 have hn:Qc r us [u]:=⟨by simp,λv hv=>by rw [List.mem_singleton.1 hv]; exact hu,Q7f hr⟩
 intro l hl
 unfold Jdk Jde at hl
 split at hl
 · rename_i i hi
   obtain ⟨x,hx,hg⟩:=Qx6 hi
   rw [hx] at hl
   rcases List.mem_or_eq_of_mem_set hl with hl | rfl
   · exact h l hl
   · have hq:=h x (List.mem_of_getElem? hx)
     refine ⟨by simp,λv hv=>?_,hg⟩
     rcases List.mem_append.1 hv with hv | hv
     · exact hq.2.1 v hv
     · rw [List.mem_singleton.1 hv]; exact hu
 · rcases List.mem_append.1 hl with hl | hl
   · exact h l hl
   · rw [List.mem_singleton.1 hl]; exact hn
theorem Jdv {r:Request} {us:List Int} {out:List (List Int)} {u:Int} (h:∀ l∈out,Qc r us l) (hu:u∈us) (hr:0≤u∧u<(Qm0 r).length):∀ l∈Q55 r out u,Qc r us l:=by
 have hn:Qc r us [u]:=⟨by simp,λv hv=>by rw [List.mem_singleton.1 hv]; exact hu,Q7f hr⟩
 intro l hl
 cases hlast:out.getLast? with
 | none =>
  unfold Q55 at hl
  rw [hlast] at hl
  rw [List.mem_singleton.1 hl]; exact hn
 | some x =>
  rw [Qyr u hlast] at hl
  have hq:=h x (List.mem_of_getLast? hlast)
  cases hg:Q13 r u x
  · rw [hg,cond_false] at hl
    rcases List.mem_append.1 hl with hl | hl
    · exact h l hl
    · rw [List.mem_singleton.1 hl]; exact hn
  · rw [hg,cond_true] at hl
    rcases List.mem_or_eq_of_mem_set hl with hl | rfl
    · exact h l hl
    · refine ⟨by simp,λv hv=>?_,hg⟩
      rcases List.mem_append.1 hv with hv | hv
      · exact hq.2.1 v hv
      · rw [List.mem_singleton.1 hv]; exact hu
theorem Q8r {r:Request} {us:List Int} {F:List (List Int)→Int→List (List Int)} (hF:∀ out u,(∀ l∈out,Qc r us l)→u∈us→(0≤u∧u<(Qm0 r).length)→∀ l∈F out u,Qc r us l):∀ (vs:List Int) (out:List (List Int)),(∀ u∈vs,u∈us∧0≤u∧u<(Qm0 r).length)→(∀ l∈out,Qc r us l)→∀ l∈vs.foldl F out,Qc r us l
 | [],out,_,h=>h
 | v::vs,out,hv,h=>by
  rw [List.foldl_cons]
  have h1:=hv v (by simp)
  exact Q8r hF vs _ (λu hu=>hv u (by simp [hu])) (hF out v h h1.1 h1.2)
theorem Q6k (r:Request) (us:List Int):(Jai r us).Perm us:=by
 unfold Jai
 refine ((Qt5 _ _).map _).trans ?_
 have key:∀ (xs pre:List Int),us=pre++xs→(Qnm pre.length xs.length).map (λp=>(ix us p).getD 0)=xs:=by
  intro xs
  induction xs with
  | nil=>intro pre _; rfl
  | cons x xs ih =>
   intro pre he
   have h1:=ih (pre++[x]) (by simp [he])
   simp only [List.length_append,List.length_singleton] at h1
   simp only [List.length_cons,Qnm,List.map_cons]
   rw [show ((pre.length:Int)+1)=((pre.length+1:Nat):Int) by omega,h1]
   congr 1
   rw [Qlg,he]
   simp
 have:=key us [] rfl
 simp only [List.length_nil] at this
 exact List.Perm.of_eq this
theorem Jip {r:Request} {us:List Int}:∀ l∈pwM r us,Qc r (Qut r us) l:=by
 unfold pwM nfM ffM
 have ht:∀ u∈Qut r us,u∈Qut r us∧0≤u∧u<(Qm0 r).length:=λu hu=>⟨hu,Qx5 hu⟩
 cases r.ff==1
 · rw [cond_false]
   exact Q8r (λout u h hu hr=>Jei h hu hr) _ [] (λu hu=>ht u ((Q6k r _).mem_iff.1 hu)) (by simp)
 · rw [cond_true]
   exact Q8r (λout u h hu hr=>Jdv h hu hr) _ [] ht (by simp)
def Q60:List Carton→Nat
 | []=>0
 | x::xs=>x.f9.length+Q60 xs
structure Sp (x:Plan):Prop where
 cars:x.fE.length≤1048576
 units:∀ c∈x.fE,c.f9.length≤1048576
 all:Q60 x.fE≤1048576
 spots:x.fc.length≤1048576
def Q84:List Int→List Int→Bool
 | _,[]=>true
 | pre,x::xs=>inb x 0 999&&((match pre.getLast? with | none=>true | some y=>decide (y<x))&&Q84 (pre++[x]) xs)
def Jdp (l:List Int):Bool:=Q84 [] l&&decide ((l.length:Int)≤100)
def Q94 (c:Carton):Bool:=inb c.fe 0 999&&(inb c.fa 0 3&&Jdp c.f9)
def Jbw (s:Spot):Bool:=inb s.fJ 0 2000&&(inb s.fX 0 2000&&(inb s.fY 0 2000&&inb s.fZ 0 2000))
def Q93 (x:Plan):Bool:=x.fc.length==x.fE.length&&(decide ((x.fE.length:Int)≤100)&&(x.fE.zip x.fc).all λp=>Q94 p.1&&Jbw p.2)
theorem Q8c {pre:List Int} {x:Int} {xs l:List Int} (hl:l.length≤1048576) (e:l=pre++x::xs):(pre.getLast? = none∧pre.length=0)∨∃ y,pre.getLast? = some y∧0<pre.length∧ix l (w64 ((pre.length:Int) - 1))=some y:=by
 cases hp:pre.getLast? with
 | none=>exact .inl ⟨rfl,by simpa using List.getLast?_eq_none_iff.1 hp⟩
 | some y =>
  have hne:pre≠[]:=λe=>by subst e; simp at hp
  have hpos:0<pre.length:=List.length_pos_iff.2 hne
  refine .inr ⟨y,rfl,hpos,?_⟩
  have h1:w64 ((pre.length:Int) - 1)=((pre.length - 1:Nat):Int):=by
   have:pre.length≤l.length:=by rw [e]; simp
   rw [Qa1 (by omega) (by omega)]; omega
  rw [h1,Qlg,e,List.getElem?_append_left (by omega),← List.getLast?_eq_getElem?,hp]
theorem Jgq {fu:Nat} {l:List Int} (hl:l.length≤1048576) (hf:l.length<fu):Qjj fu l=some (Jdp l):=by
 unfold Qjj Jdp
 have key:=lpP l (λn (_:Unit) i=>Qdm fu l n i) (λpre xs _=>some (Q84 pre xs&&decide ((l.length:Int)≤100))) (by omega) ?_ ?_ fu () hf
 · exact key
 · intro n _ pre x xs e hx hd ih
   have ih:=ih ()
   simp only [Qdm.eq_2]
   unfold Qhp Qg4 Q84
   rw [hd,cond_true,hx,Qab,Q0g,Qab]
   cases inb x 0 999
   · rfl
   · rw [Bool.not_true,cond_false,Bool.true_and]
     rcases Q8c (hl:=hl) e with ⟨h1,h2⟩ | ⟨y,h1,h2,h3⟩
     · rw [h1,show decide ((pre.length:Int)>0)=false from decide_eq_false (by omega),cond_false,ih]
       simp
     · rw [h1,show decide ((pre.length:Int)>0)=true from decide_eq_true (by omega),cond_true,h3,Qab,ih]
       by_cases hy:y<x
       · rw [show decide (y≥x)=false by simp; omega,cond_false]; simp [hy]
       · rw [show decide (y≥x)=true by simp; omega,cond_true]; simp [hy]
 · intro n _ hd
   simp only [Qdm.eq_2]
   unfold Qhp
   rw [hd,cond_false]
   simp [Q84]
theorem Jhm {fu:Nat} {c:Carton} (hl:c.f9.length≤1048576) (hf:c.f9.length<fu):Qlh fu c=some (Q94 c):=by
 unfold Qlh Q94
 rw [Jfv,Qab,Q08,Qab]
 cases inb c.fe 0 999
 · rfl
 · rw [Bool.not_true,cond_false]
   cases inb c.fa 0 3
   · rfl
   · rw [Bool.not_true,cond_false,Bool.true_and,Bool.true_and]
     unfold Jdp
     by_cases h1:(c.f9.length:Int)≤100
     · rw [show decide ((c.f9.length:Int)>100)=false by simp; omega,cond_false,show decide ((c.f9.length:Int)≤100)=true by simpa using h1,Bool.and_true]
       unfold Qka
       have key:=lpP c.f9 (λn (_:Unit) i=>Qd3 fu c n i) (λpre xs _=>some (Q84 pre xs)) (by omega) ?_ ?_ fu () hf
       · exact key
       · intro n _ pre x xs e hx hd ih
         have ih:=ih ()
         simp only [Qd3.eq_2]
         unfold Qh2 Qhf Q84
         rw [hd,cond_true,hx,Qab,Q08,Qab]
         cases inb x 0 999
         · rfl
         · rw [Bool.not_true,cond_false,Bool.true_and]
           rcases Q8c (hl:=hl) e with ⟨h1,h2⟩ | ⟨y,h1,h2,h3⟩
           · rw [h1,show decide ((pre.length:Int)>0)=false from decide_eq_false (by omega),cond_false,ih]
             simp
           · rw [h1,show decide ((pre.length:Int)>0)=true from decide_eq_true (by omega),cond_true,Qab,h3,Qab,ih]
             by_cases hy:y<x
             · rw [show decide (x≤y)=false by simp; omega,cond_false]; simp [hy]
             · rw [show decide (x≤y)=true by simp; omega,cond_true]; simp [hy]
       · intro n _ hd
         simp only [Qd3.eq_2]
         unfold Qh2
         rw [hd,cond_false]
         simp [Q84]
     · rw [show decide ((c.f9.length:Int)>100)=true by simp; omega,cond_true,show decide ((c.f9.length:Int)≤100)=false by simpa using h1,Bool.and_false]
theorem Q5g {α β:Type} {a:List α} {b:List β} {i:Int} {p:α×β} (h:ix (a.zip b) i=some p):ix a i=some p.1∧ix b i=some p.2:=by
 obtain ⟨h0,_,h1⟩:=Qan h
 have:=List.getElem?_zip_eq_some.1 h1
 unfold ix
 rw [if_pos h0,if_pos h0]
 exact this
theorem Jgu {fu:Nat} {x:Plan} (h:Sp x) (hf:1048577≤fu):Qqc fu x=some (Q93 x):=by
 have hs:=h.spots
 have hc:=h.cars
 unfold Qqc Q93
 cases he:x.fc.length==x.fE.length
 · have:((x.fc.length:Int) != (x.fE.length:Int))=true:=by simp at he ⊢; omega
   rw [this]; rfl
 · have el:x.fc.length=x.fE.length:=by simpa using he
   have:((x.fc.length:Int) != (x.fE.length:Int))=false:=by simp; omega
   rw [this,cond_false,Bool.true_and]
   by_cases h1:(x.fE.length:Int)≤100
   · rw [show decide ((x.fE.length:Int)>100)=false by simp; omega,cond_false,show decide ((x.fE.length:Int)≤100)=true by simpa using h1,Bool.true_and]
     unfold Qpn
     have hz:(x.fE.zip x.fc).length=x.fE.length:=by simp; omega
     have key:=lp (x.fE.zip x.fc) (λn (_:Unit) i=>Qf5 fu x n i) (λl _=>some (l.all λp=>Q94 p.1&&Jbw p.2)) (by omega) ?_ ?_ fu () (by omega)
     · exact key
     · intro n _ i p xs hx hd ih
       have ih:=ih ()
       obtain ⟨e1,e2⟩:=Q5g hx
       have hu:=h.units p.1 (Qmc e1)
       rw [hz] at hd
       simp only [Qf5.eq_2]
       unfold Qmo Qpi
       simp only [hd,cond_true,e1,e2,Qab,Q0g,Jgq hu (show p.1.f9.length<fu by omega),Jbr,ih,List.all_cons]
       unfold Q94 Jbw
       cases inb p.1.fe 0 999 <;> cases inb p.1.fa 0 3 <;> cases Jdp p.1.f9 <;> cases inb p.2.fJ 0 2000 <;> cases inb p.2.fX 0 2000 <;> cases inb p.2.fY 0 2000 <;> cases inb p.2.fZ 0 2000 <;> rfl
     · intro n _ i hd
       rw [hz] at hd
       simp only [Qf5.eq_2]
       unfold Qmo
       simp [hd]
   · rw [show decide ((x.fE.length:Int)>100)=true by simp; omega,cond_true,show decide ((x.fE.length:Int)≤100)=false by simpa using h1,Bool.false_and]
theorem Jgc {fu:Nat} {x:Plan} (h:Sp x) (hf:1048577≤fu):Qql fu x=some (Q93 x):=by
 have hs:=h.spots
 have hc:=h.cars
 unfold Qql Q93
 cases he:x.fc.length==x.fE.length
 · have:((x.fE.length:Int) != (x.fc.length:Int))=true:=by simp at he ⊢; omega
   rw [this]; rfl
 · have el:x.fc.length=x.fE.length:=by simpa using he
   have:((x.fE.length:Int) != (x.fc.length:Int))=false:=by simp; omega
   rw [this,cond_false,Bool.true_and]
   by_cases h1:(x.fE.length:Int)≤100
   · rw [show decide ((x.fE.length:Int)>100)=false by simp; omega,cond_false,show decide ((x.fE.length:Int)≤100)=true by simpa using h1,Bool.true_and]
     unfold Qpm
     have hz:(x.fE.zip x.fc).length=x.fE.length:=by simp; omega
     have key:=lp (x.fE.zip x.fc) (λn (_:Unit) i=>Qfz fu x n i) (λl _=>some (l.all λp=>Q94 p.1&&Jbw p.2)) (by omega) ?_ ?_ fu () (by omega)
     · exact key
     · intro n _ i p xs hx hd ih
       have ih:=ih ()
       obtain ⟨e1,e2⟩:=Q5g hx
       have hu:=h.units p.1 (Qmc e1)
       rw [hz] at hd
       simp only [Qfz.eq_2]
       unfold Qmt Qpr
       simp only [hd,cond_true,e1,e2,Qab,Q08,Jhm hu (show p.1.f9.length<fu by omega),ih,List.all_cons]
       unfold Jbw
       cases Q94 p.1 <;> cases inb p.2.fJ 0 2000 <;> cases inb p.2.fX 0 2000 <;> cases inb p.2.fY 0 2000 <;> cases inb p.2.fZ 0 2000 <;> rfl
     · intro n _ i hd
       rw [hz] at hd
       simp only [Qfz.eq_2]
       unfold Qmt
       simp [hd]
   · rw [show decide ((x.fE.length:Int)>100)=true by simp; omega,cond_true,show decide ((x.fE.length:Int)≤100)=false by simpa using h1,Bool.false_and]
def cs (x:Plan):List (Carton×Spot):=x.fE.zip x.fc
theorem Q71 (r:Request) (us:List Int):∀ (l:List Typ) (s:Typ×Bool),(l.foldl (chp r us) s).2=(s.2||l.any (Q2x r us))
 | [],s=>by simp
 | t::l,s=>by
  rw [List.foldl_cons,Q71 r us l,List.any_cons]
  unfold chp
  obtain ⟨b,f⟩:=s
  cases Q2x r us t <;> cases f <;> simp
  cases (decide (t.fL<b.fL)||t.fL==b.fL&&decide (t.f8<b.f8)) <;> simp
theorem Q9w {r:Request} {us:List Int} {t:Typ} (ht:t∈r.fG) (h:Q2x r us t=true):(Qz2 r us).2=true:=by
 unfold Qz2
 rw [Q71]
 simp only [Bool.false_or]
 exact List.any_eq_true.2 ⟨t,ht,h⟩
theorem Q7q {a b:List Int} (h:a.Perm b):Qw1 a=Qw1 b:=by
 induction h with
 | nil=>rfl
 | cons x _ ih=>simp [ih]
 | swap x y l=>simp; omega
 | trans _ _ h1 h2=>rw [h1,h2]
theorem Q9n {r:Request} {a b:List Int} (h:a.Perm b):(Qwc r a).Perm (Qwc r b):=h.filterMap _
theorem Q9s {r:Request} {a b:List Int} (h:a.Perm b):Qu6 r a=Qu6 r b:=Q7q ((Q9n h).map _)
theorem Q4m {f:Typ→Int}:∀ (xs pre:List Typ) (t:Typ),Q54 f pre xs=true→t∈xs→(∀ y∈pre,f y≠f t)∧xs.find? (λy=>f y==f t)=some t
 | [],_,_,_,h=>by simp at h
 | x::xs,pre,t,hn,h=>by
  simp only [Q54,Bool.and_eq_true,Bool.not_eq_true'] at hn
  have hx:=List.any_eq_false.1 hn.1
  rcases List.mem_cons.1 h with rfl | h
  · exact ⟨λy hy e=>hx y hy (by simp [e]),by simp⟩
  · have ih:=Q4m xs (pre++[x]) t hn.2 h
    refine ⟨λy hy=>ih.1 y (by simp [hy]),?_⟩
    have:=ih.1 x (by simp)
    have e:(f x==f t)=false:=by simpa using this
    rw [List.find?_cons,e]
    exact ih.2
theorem Jae {r:Request} (hc:Qht r=0) {t:Typ} (ht:t∈r.fG):Qsw r t.f8=some t:=by
 have h:=(Qgy hc).2.1
 unfold Q75 at h
 simp only [Bool.and_eq_true] at h
 exact (Q4m r.fG [] t h.1.1.1 ht).2
theorem Q4w (r:Request) (us:List Int):∀ (l:List Typ) (s:Typ×Bool),(∀ t∈l,t∈r.fG)→(s.2=true→s.1∈r.fG∧Q2x r us s.1=true)→(l.foldl (chp r us) s).2=true→(l.foldl (chp r us) s).1∈r.fG∧Q2x r us (l.foldl (chp r us) s).1=true
 | [],s,_,h,h2=>h h2
 | t::l,s,hl,h,h2=>by
  rw [List.foldl_cons] at h2 ⊢
  refine Q4w r us l _ (λx hx=>hl x (by simp [hx])) (λh3=>?_) h2
  unfold chp at h3 ⊢
  cases hh:Q2x r us t&&(!s.2||(decide (t.fL<s.1.fL)||(t.fL==s.1.fL&&decide (t.f8<s.1.f8))))
  · rw [hh,cond_false] at h3
    rw [cond_false]
    exact h h3
  · rw [Bool.and_eq_true] at hh
    rw [cond_true]
    exact ⟨hl t (by simp),hh.1⟩
theorem Q95 {r:Request} {us l:List Int} (h:Qc r (Qut r us) l):Q2x r l (Qv6 r)=true:=by
 obtain ⟨h1,h2,h3⟩:=h
 obtain ⟨u,hu⟩:=List.exists_mem_of_ne_nil _ h1
 have hc:=Q4h (Qx5 (h2 u hu))
 have hz:=Qgy hc
 unfold Q2x
 rw [show (Qht r==0)=true by simp [hc],Bool.true_and,h3,Bool.and_true,List.all_eq_true]
 intro v hv
 have hv':=Qx5 (h2 v hv)
 unfold uOk
 rw [Qvt hv',Bool.and_eq_true]
 exact ⟨rfl,hz.2.2.2.1 _ (Q0v hv')⟩
theorem Je1 {r:Request} {us l:List Int} (h:Qc r (Qut r us) l):Qht r=0∧(Qz2 r l).2=true∧(Qz2 r l).1∈r.fG∧Q2x r l (Qz2 r l).1=true∧Qsw r (Qz2 r l).1.f8=some (Qz2 r l).1:=by
 obtain ⟨u,hu⟩:=List.exists_mem_of_ne_nil _ h.1
 have hc:=Q4h (Qx5 (h.2.1 u hu))
 have h2:=Q9w (Q7m hc).2.1 (Q95 h)
 have h3:=Q4w r l r.fG (Jez,false) (λ_ h=>h) (by simp) h2
 exact ⟨hc,h2,h3.1,h3.2,Jae hc h3.1⟩
theorem Jb1 {r:Request} {us l:List Int} (h:Qc r (Qut r us) l):1≤Qu6 r l:=by
 obtain ⟨h1,h2,_⟩:=h
 match l,h1 with
 | u::l,_ =>
  have hu:=Qx5 (h2 u (by simp))
  have hc:=Q4h hu
  have:=(Qrz (Qgy hc).1).1 _ (Q0v hu)
  simp only [Qw8,Bool.and_eq_true,Qdx] at this
  have h3:=(Q6u r l).1
  rw [Q32]
  omega
theorem Jdb {r:Request} {us l:List Int} (h:Qc r (Qut r us) l) (k:Int):Q48 r (Q8s r k l)=⟨(Qz2 r l).1.fW,(Qz2 r l).1.fD,(Qz2 r l).1.fH,(Qz2 r l).1.fO+Qu6 r l⟩∧Q88 r.fJ (Q48 r (Q8s r k l))=true:=by
 obtain ⟨hc,_,ht,hh,hf⟩:=Je1 h
 have hz:=Qgy hc
 have e:Q48 r (Q8s r k l)=⟨(Qz2 r l).1.fW,(Qz2 r l).1.fD,(Qz2 r l).1.fH,(Qz2 r l).1.fO+Qu6 r l⟩:=by
  unfold Q48 Q8s
  simp only [hf,show (Qht r==0)=true by simp [hc],cond_true,Q9s (Qxw l)]
 refine ⟨e,?_⟩
 have ht1:=Qyp hz.1 _ ht
 have ht2:=hz.2.2.2.2 _ ht
 simp only [Q1i,Bool.and_eq_true,Qdx] at ht1
 simp only [Q53,Bool.or_eq_false_iff,decide_eq_false_iff_not] at ht2
 rw [Qa1 (by omega) (by omega)] at ht2
 have hg:=Jb1 h
 unfold Q2x at hh
 simp only [Bool.and_eq_true] at hh
 have hw:=hh.2.2
 unfold Q18 at hw
 simp only [Bool.and_eq_true,decide_eq_true_eq] at hw
 rw [e]
 simp only [Q88,Bool.and_eq_true,Qdx]
 omega
def Qxg (r:Request) (k:Int):List Box:=((Quv r).filter λc=>c.fa==k).map (Q48 r)
def plS (r:Request) (s:List Spot×Int) (k:Int):List Spot×Int:=(s.1++(spM r.fJ (Qxg r k)).map (λt=>⟨t.fJ+s.2,t.fX,t.fY,t.fZ⟩),s.2+Jap (spM r.fJ (Qxg r k)))
def Q6q (r:Request):Plan×Bool:=bif Qht r==0 then (⟨Quv r,((Qnm 0 (Qnu r).length).foldl (plS r) ([],0)).1⟩,true) else (⟨[],[]⟩,false)
theorem Qxy (r:Request) (k:Int):∀ (ks:List Int),ks.Nodup→((Q1g r ks).filter λc=>c.fa==k)=bif ks.contains k then Q49 r k else []
 | [],_=>rfl
 | j::ks,hn=>by
  obtain ⟨h1,h2⟩:=List.nodup_cons.1 hn
  have ih:=Qxy r k ks h2
  rw [Q1g,List.filter_append,ih]
  have hj:∀ c∈Q49 r j,c.fa=j:=by
   intro c hc
   unfold Q49 at hc
   obtain ⟨l,_,rfl⟩:=List.mem_map.1 hc
   rfl
  by_cases e:k=j
  · subst e
    have e1:(Q49 r k).filter (λc=>c.fa==k)=Q49 r k:=List.filter_eq_self.2 λc hc=>by simp [hj c hc]
    have e2:ks.contains k=false:=by simpa using h1
    rw [e1,e2]
    simp
  · have e1:(Q49 r j).filter (λc=>c.fa==k)=[]:=List.filter_eq_nil_iff.2 λc hc=>by simp [hj c hc]; omega
    rw [e1]
    have e2:(j::ks).contains k=ks.contains k:=by simp [e]
    rw [e2]; rfl
theorem Q5f {r:Request} {k:Int} (h:0≤k∧k<(Qnu r).length):Qxg r k=(Q49 r k).map (Q48 r):=by
 unfold Qxg Quv
 rw [Qxy r k _ (Q52 _ _)]
 rw [show (Qnm 0 (Qnu r).length).contains k=true by rw [List.contains_iff_mem,Qie]; omega]
 rfl
theorem Q79 {r:Request} (hc:Qht r=0) {k:Int} (h:0≤k∧k<(Qnu r).length):Qyu r.fJ (Qxg r k)=true:=by
 have hb:=(Qgy hc).1
 unfold Q20 at hb
 simp only [Bool.and_eq_true] at hb
 unfold Qyu
 rw [Q5f h,Bool.and_eq_true]
 refine ⟨hb.1.1.1.1.1.1.1.1.2,List.all_eq_true.2 λb hb=>?_⟩
 unfold Q49 at hb
 rw [List.map_map] at hb
 obtain ⟨l,hl,rfl⟩:=List.mem_map.1 hb
 exact (Jdb (Jip l hl) k).2
theorem Q57 (r:Request) (k:Int):(Qxg r k).length≤48:=by
 have h1:=List.length_filter_le (λc:Carton=>c.fa==k) (Quv r)
 have h2:=Qxf r
 unfold Qxg
 rw [List.length_map]
 omega
theorem Ja0 {r:Request} (hc:Qht r=0):∀ (ks:List Int) (s:List Spot×Int),(∀ k∈ks,0≤k∧k<(Qnu r).length)→(ks.foldl (plS r) s).1.length=s.1.length+(Q1g r ks).length
 | [],s,_=>by simp [Q1g]
 | k::ks,s,h=>by
  rw [List.foldl_cons,Ja0 hc ks _ λj hj=>h j (by simp [hj])]
  have hk:=h k (by simp)
  have h1:=Q3d (Q79 hc hk)
  rw [Q5f hk,List.length_map] at h1
  simp only [plS,Q1g,List.length_append,List.length_map,Q5f hk,h1]
  omega
theorem Jb6 (r:Request):(Q6q r).1.fc.length=(Q6q r).1.fE.length∧(Q6q r).1.fE.length≤48∧∀ c∈(Q6q r).1.fE,c.f9.length≤12:=by
 unfold Q6q
 cases hc:Qht r==0
 · exact ⟨rfl,by simp,by simp⟩
 · rw [cond_true]
   have:=Ja0 (r:=r) (by simpa using hc) (Qnm 0 (Qnu r).length) ([],0) λk hk=>by have:=Qie.1 hk; omega
   exact ⟨by rw [this]; simp [Quv],Qxf r,λc hc=>Qxv hc⟩
theorem Jd9 {fu:Nat} {r:Request} (h:Sm fu r):Qp2 fu r=some (Q6q r):=by
 have hfu:=h.fu
 have hg:=(Qtk r).1
 have hcl:=Qxf r
 unfold Qp2 Q6q
 rw [Q0p h,Qab]
 cases hc:Qht r==0
 · rw [show (Qht r != 0)=true by simp only [bne,hc]; rfl]; rfl
 · have hz:Qht r=0:=by simpa using hc
   rw [show (Qht r != 0)=false by simp [hz],cond_false,cond_true,Jhh h,Qab,Jbu h,Qab]
   have L3:=Q5o ((Qnu r).length:Int) (λn (s:List Spot×Int) k=>Qcj fu r (Quv r) (Qnu r) n s.1 s.2 k) (λks s=>some ((⟨Quv r,(ks.foldl (plS r) s).1⟩:Plan),true)) (λks s=>(∀ k∈ks,0≤k∧k<(Qnu r).length)∧s.1.length+48*ks.length≤1000∧0≤s.2∧s.2+1000000*ks.length≤10000000) (by omega) ?_ ?_ (Qnu r).length fu ([],0) 0 (by omega) (by omega) (by omega) ⟨λk hk=>by have:=Qie.1 hk; omega,by simp [Qcn]; omega,by simp,by simp [Qcn]; omega⟩
   · exact L3
   · intro n ⟨sp,base⟩ k ks k0 k1 hd hI ih
     obtain ⟨i1,i2,i3,i4⟩:(∀ j∈k::ks,0≤j∧j<(Qnu r).length)∧sp.length+48*(k::ks).length≤1000∧0≤base∧base+1000000*((k::ks).length:Int)≤10000000:=hI
     simp only [List.length_cons] at i2 i4
     simp only [Qcj.eq_2]
     unfold Ql8
     rw [hd,cond_true]
     have L2:=lpI (Quv r) (λm (bs:List Box) i=>Qf1 fu (Qcj fu r (Quv r) (Qnu r) n) r (Quv r) sp base k m bs i) (λcs bs=>Qac (Qlt fu r.fJ (bs++(cs.filter λc=>c.fa==k).map (Q48 r))) λx=>Qfx fu (Qcj fu r (Quv r) (Qnu r) n) base k x fu sp 0) (λcs bs=>bs.length+cs.length≤48∧∀ c∈cs,c.f9.length≤12) (by omega) ?_ ?_ fu [] ⟨by simpa using hcl,λc hc=>Qxv hc⟩ (by omega)
     · refine L2.trans ?_
       have hbl:=Q57 r k
       rw [List.nil_append,show ((Quv r).filter λc=>c.fa==k).map (Q48 r)=Qxg r k from rfl,Jbm hfu _ _ (by omega),Qab]
       have hsl:=Q3d (Q79 hz ⟨k0,k1⟩)
       have hpb:=Q7d (spM r.fJ (Qxg r k))
       have hps:∀ s∈spM r.fJ (Qxg r k),s∈spM r.fJ (Qxg r k):=λ_ h=>h
       have ih':=ih (plS r (sp,base) k) ⟨λj hj=>i1 j (by simp [hj]),by simp [plS]; omega,by simp [plS]; omega,by simp [plS]; omega⟩
       rw [List.foldl_cons,← ih']
       have hS:=Jfm (fu:=fu) (l:=spM r.fJ (Qxg r k)) (by omega) (by omega)
       have hwf:∀ s∈spM r.fJ (Qxg r k),w64 (s.fJ+base)=s.fJ+base:=by
        intro s hs
        have:=Ja7 (p:=r.fJ) (l:=Qxg r k) (by omega) s hs
        exact Qa1 (by omega) (by omega)
       generalize hSP:spM r.fJ (Qxg r k)=S at hsl hpb hS hwf ⊢
       have L1:=lpI S (λm (o:List Spot) i=>Qfx fu (Qcj fu r (Quv r) (Qnu r) n) base k S m o i) (λxs o=>Qcj fu r (Quv r) (Qnu r) n (o++xs.map (λt=>⟨t.fJ+base,t.fX,t.fY,t.fZ⟩)) (base+Jap S) (w64 (k+1))) (λxs o=>o.length+xs.length≤1000∧∀ s∈xs,w64 (s.fJ+base)=s.fJ+base) (by omega) ?_ ?_ fu sp ⟨by omega,hwf⟩ (by omega)
       · refine L1.trans ?_
         simp only [plS,hSP]
       · intro m o i x xs hx hd hI ih
         obtain ⟨j1,j2⟩:=hI
         simp only [List.length_cons] at j1
         simp only [Qfx.eq_2]
         unfold Ql3
         rw [hd,cond_true,hx,Qab,j2 x (by simp),ap1 (by simp; omega),Qab,ih _ ⟨by simp; omega,λs hs=>j2 s (by simp [hs])⟩]
         simp
       · intro m o i hd hI
         simp only [Qfx.eq_2]
         unfold Ql3
         rw [hd,cond_false,hS,Qab,Qa1 (n:=base+_) (by omega) (by omega)]
         simp
     · intro m bs i c cs hx hd hI ih
       obtain ⟨j1,j2⟩:=hI
       simp only [List.length_cons] at j1
       have hcu:=j2 c (by simp)
       simp only [Qf1.eq_2]
       unfold Ql4 Qli
       rw [hd,cond_true,hx,Qab,Qab,Jfo h c (by omega),Qab,ap1 (by simp; omega),Qab,ih _ ⟨by simp; omega,λc hc=>j2 c (by simp [hc])⟩,ih _ ⟨by omega,λc hc=>j2 c (by simp [hc])⟩,List.filter_cons]
       cases c.fa==k <;> simp
     · intro m bs i hd _
       simp only [Qf1.eq_2]
       unfold Ql4
       rw [hd,cond_false]; simp
   · intro n ⟨sp,base⟩ k hd _
     simp only [Qcj.eq_2]
     unfold Ql8
     rw [hd,cond_false]; rfl
end Go.Proofs.YtpcmapfabndggaaGreatDoor
