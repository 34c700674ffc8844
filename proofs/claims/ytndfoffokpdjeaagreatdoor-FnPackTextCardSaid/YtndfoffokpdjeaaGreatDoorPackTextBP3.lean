/- PackTextBP: plain le.. -/
import Derived.Test.YtndfoffokpdjeaaGreatDoorPackTextBP2
set_option linter.unusedSimpArgs false
set_option linter.unusedVariables false
namespace Go.Proofs.YtndfoffokpdjeaaGreatDoor
open Go
open Enc (rd ow)
open Arg (argv)
open Ret (retv)
open Wf (wf)
def inB (n lo hi:Int):Bool:=decide (lo≤n∧n≤hi)
theorem Q5g {n lo hi:Int}:inB n lo hi=true↔lo≤n∧n≤hi:=by simp [inB]
theorem Jg0 (fu:Nat) (n lo hi:Int):Qan fu n lo hi=some (inB n lo hi):=by
 unfold Qan inB
 by_cases h:n≥lo
 · rw [Qao (by simpa using h)]
   have:lo≤n:=h
   simp [this]
 · rw [Qaf (by simpa using h)]
   have:¬ lo≤n:=h
   simp [this]
theorem Jdv (fu:Nat) (n lo hi:Int):Qau fu n lo hi=some (inB n lo hi):=Jg0 fu n lo hi
def Qub (p:Pallet):Bool:=inB p.fW 1 2000&&(inB p.fD 1 2000&&(inB p.fH 1 2000&&inB p.fQ 1 100000))
def Jht (p:Pallet) (b:Box):Bool:=inB b.fW 1 p.fW&&(inB b.fD 1 p.fD&&(inB b.fH 1 p.fH&&inB b.fQ 1 p.fQ))
def Q6s (p:Pallet) (l:List Box):Bool:=Qub p&&l.all (Jht p)
theorem Qsj (fu:Nat) (p:Pallet):Qek fu p=some (Qub p):=by
 unfold Qek Qde Qub
 simp only [Jdv,Qaa]
 cases inB p.fW 1 2000 <;> cases inB p.fD 1 2000 <;> cases inB p.fH 1 2000 <;> rfl
theorem Q50 (fu:Nat) (b:Box) (p:Pallet):Qlu fu b p=some (!Jht p b):=by
 unfold Qlu Jht
 simp only [Jdv,Qaa]
 cases inB b.fW 1 p.fW <;> cases inB b.fD 1 p.fD <;> cases inB b.fH 1 p.fH <;> rfl
theorem Q1c (fu:Nat) (l:List Box) (f:Box→Option Bool) (g:Box→Bool) (hg:∀ b,f b=some (g b)) (h:l.length≤1048576) (hf:l.length<fu) :
    Qb7 fu l f=some (l.any g):=by
 unfold Qb7 Qdu
 have key:∀ (m i n:Nat),l.length - i=m→i≤l.length→m<n→∃ r,Qay fu l f n i=some r∧decide (r≥0)=(l.drop i).any g:=by
  intro m
  induction m with
  | zero =>
   intro i n hm hi hn
   obtain ⟨n,rfl⟩:∃ k,n=k+1:=⟨n - 1,by omega⟩
   rw [Qay.eq_2]
   unfold Qcw
   rw [Qaf (by simp; omega),List.drop_eq_nil_of_le (by omega)]
   exact ⟨_,rfl,rfl⟩
  | succ m ih =>
   intro i n hm hi hn
   obtain ⟨n,rfl⟩:∃ k,n=k+1:=⟨n - 1,by omega⟩
   have hlt:i<l.length:=by omega
   rw [Qay.eq_2]
   unfold Qcw
   rw [Qao (by simpa using hlt),Jfy (Jgq (List.getElem?_eq_getElem hlt)),hg,Qaa,List.drop_eq_getElem_cons hlt,List.any_cons]
   cases hgx:g l[i]
   · rw [Qaf rfl,Qam (by omega) (by omega),Bool.false_or]
     have:=ih (i+1) n (by omega) (by omega) (by omega)
     simpa using this
   · rw [Qao rfl]
     exact ⟨_,rfl,by simp⟩
 obtain ⟨r,h1,h2⟩:=key l.length 0 fu (by omega) (by omega) hf
 have h1':Qay fu l f fu 0=some r:=h1
 rw [h1',Qaa,h2]
 rfl
theorem Qvk (fu:Nat) (p:Pallet) (l:List Box) (h:l.length≤1048576) (hf:l.length<fu):Qlb fu p l=some (Q6s p l):=by
 unfold Qlb Q6s
 rw [Qsj,Qaa]
 cases Qub p
 · rfl
 rw [Qao rfl,Q1c fu l _ (λb=>!Jht p b) (λb=>Q50 fu b p) h hf,Qaa,Bool.true_and]
 congr 1
 induction l with
 | nil=>rfl
 | cons x xs ih =>
  simp only [List.any_cons,List.all_cons,Bool.not_or,Bool.not_not]
  rw [ih (by simp at h; omega) (by simp at hf; omega)]
theorem Jd8 (p:Pallet) (l:List Box):Q6s p l=Q0b p l:=by
 have e:∀ a b c:Int,inB a b c=inb a b c:=λa b c=>Bool.eq_iff_iff.2 (by rw [Q5g,Qcb])
 have e2:Jht p=Jdh p:=by funext b; unfold Jht Jdh; simp only [e]
 unfold Q6s Q0b Qub Qvw
 simp only [e,e2]
theorem Jfg (a b:Int):(if b>a then b else a)=mxI a b:=by unfold mxI; split <;> split <;> omega
theorem Q2a {α:Type} (l:List α) (j:Nat) (a:α):Qi1 l (j:Int) a=l.set j a:=by simp [Qi1]
theorem Jem {fu:Nat} {k8:List Shelf→Int→Option (List Shelf)} {x i:Int} {b:Box} {o:List Shelf} {j:Nat} {s:Shelf} (hs:o[j]? = some s) (hl:s.f0.length≤1000000)
    (h1:-1000000000≤s.fW+b.fW∧s.fW+b.fW≤1000000000) (h2:-1000000000≤s.fQ+b.fQ∧s.fQ+b.fQ≤1000000000):Qdg fu k8 x i b o (j:Int)=k8 (o.set j (Qrt s i b)) (w64 (x+1)):=by
 unfold Qdg Qp2
 rw [Qh2,hs,Qaa,ap1 (by simp; omega),Qaa]
 simp only [Qaa,Q2a,List.set_set,Jfg]
 rw [Qam (n:=s.fW+b.fW) (by omega) (by omega),Qam (n:=s.fQ+b.fQ) (by omega) (by omega)]
 rfl
theorem Jbp {fu:Nat} (hfu:2097153≤fu) (p:Pallet) (l:List Box) (hl:l.length<20):Qqj fu p l=some (shM p l):=by
 unfold Qqj shM
 rw [Qvk fu p l (by omega) (by omega),Qaa,Jd8]
 cases hb:Q0b p l
 · rfl
 · rw [Bool.not_true,cond_false,cond_true]
   have key:=lpI l (λn (o:List Int) i=>Qgq fu p l n o i) (λxs o=>Qab (Qg9 fu (o++xs.map (·.fD))) λx=>Qbs fu p l x fu [] 0) (λxs o=>o.length+xs.length≤1000) (by omega) ?_ ?_ fu [] (by simp; omega) (by omega)
   · rw [key,List.nil_append,Je4 hfu (by simp; omega),Qaa,List.length_map]
     have hsl:=Qtm (dnk (l.map (·.fD))) l.length
     have hsm:=λx=>Qw3 (k:=dnk (l.map (·.fD))) (n:=l.length) (x:=x)
     generalize srt (dnk (l.map (·.fD))) l.length=S at hsl hsm ⊢
     refine lpI S (λn (o:List Shelf) i=>Qbs fu p l S n o i) (λxs o=>some (xs.foldl (shS p l) o)) (λxs o=>(∀ i∈xs,0≤i∧i<l.length)∧(∀ s∈o,ShI p l.length s)∧((o.map (·.f0)).flatten).length+xs.length≤1000∧o.length+xs.length≤1000) (by omega) ?_ ?_ fu [] ⟨λi hi=>(hsm i).1 hi,by simp,by simp; omega,by simp; omega⟩ (by omega)
     · intro n o i x xs hx hd hI ih
       obtain ⟨i1,i2,i3,i4⟩:=hI
       simp only [List.length_cons] at i3 i4
       have hxi:=i1 x (by simp)
       obtain ⟨hbx,b1,b2,b3,b4⟩:=Q4y hb hxi
       obtain ⟨p1,p2,p3,p4⟩:=Qxi (Q2l hb)
       have hflat:((shS p l o x).map (·.f0)).flatten=(o.map (·.f0)).flatten++[x]:=Qsf (λs=>rfl) rfl
       have hlen:(shS p l o x).length≤o.length+1:=Que _ _ _ _
       have ih':=ih (shS p l o x) ⟨λj hj=>i1 j (by simp [hj]),Q55 hb hxi i2,by rw [hflat,List.length_append,List.length_singleton]; omega,by omega⟩
       simp only [Qbs.eq_2]
       unfold Qms
       rw [hd,cond_true,hx,Qaa,hbx,Qaa,List.foldl_cons,← ih']
       have hnew:∀ o':List Shelf,o'.length≤1000→Qdg fu (λo i=>Qbs fu p l S n o i) i x (bxA l x) (o'++[zSh]) ((o'.length:Nat):Int)=Qbs fu p l S n (o'++[Qrt zSh x (bxA l x)]) (w64 (i+1)):=λo' ho'=>by
        rw [Jem (s:=zSh) (by simp) (by simp [zSh]) (by simp [zSh]; omega) (by simp [zSh]; omega)]
        simp
       by_cases he:o=[]
       · subst he
         rw [Qao (by decide),ap1 (by simp),Qaa]
         exact hnew [] (by simp)
       · obtain ⟨s,e1,e2⟩:=Qus he
         have hp:=List.length_pos_iff.2 he
         have hsm':=List.mem_of_getLast? e1
         have hs:=i2 s hsm'
         have hsl':=Qpp (λs:Shelf=>s.f0) o s hsm'
         have eS:shS p l o x=bif Q78 p (bxA l x) s then o.set (o.length - 1) (Qrt s x (bxA l x)) else o++[Qrt zSh x (bxA l x)]:=Qvc e1
         have e3:w64 ((o.length:Int) - 1)=((o.length - 1:Nat):Int):=by rw [Qam (by omega) (by omega)]; omega
         have e4:w64 (((o.length - 1:Nat):Int)+1)=((o.length:Nat):Int):=by rw [Qam (by omega) (by omega)]; omega
         have e5:o[o.length - 1]? = some s:=by rw [← List.getLast?_eq_getElem?]; exact e1
         obtain ⟨s1,s2,s3,s4,s5,s6⟩:=hs
         rw [e3,e4,Qaf (by simp),Qh2,e5,Qaa,Qam (n:=s.fW+_) (by omega) (by omega),Qam (n:=s.fQ+_) (by omega) (by omega),ap1 (by simp; omega),Qaa,eS]
         unfold Q78
         have c1:decide (s.fW+(bxA l x).fW>p.fW)=!decide (s.fW+(bxA l x).fW≤p.fW):=by
          by_cases h:s.fW+(bxA l x).fW≤p.fW <;> simp [h] <;> omega
         have c2:decide (s.fQ+(bxA l x).fQ>p.fQ)=!decide (s.fQ+(bxA l x).fQ≤p.fQ):=by
          by_cases h:s.fQ+(bxA l x).fQ≤p.fQ <;> simp [h] <;> omega
         rw [c1,c2,Qaa]
         have h1:=hnew o (by omega)
         have h2:Qdg fu (λo i=>Qbs fu p l S n o i) i x (bxA l x) o ((o.length - 1:Nat):Int)=Qbs fu p l S n (o.set (o.length - 1) (Qrt s x (bxA l x))) (w64 (i+1)):=Jem e5 (by omega) (by omega) (by omega)
         cases decide (s.fW+(bxA l x).fW≤p.fW)
         · exact h1
         · cases decide (s.fQ+(bxA l x).fQ≤p.fQ)
           · exact h1
           · exact h2
     · intro n o i hd _
       simp only [Qbs.eq_2]
       unfold Qms
       rw [hd,cond_false]; rfl
   · intro n o i x xs hx hd hI ih
     simp only [List.length_cons] at hI
     simp only [Qgq.eq_2]
     unfold Qmg
     rw [hd,cond_true,hx,Qaa,ap1 (by simp; omega),Qaa,ih _ (by simp; omega)]
     simp
   · intro n o i hd _
     simp only [Qgq.eq_2]
     unfold Qmg
     rw [hd,cond_false]; simp
theorem Je2 {fu:Nat} {k7:List Layer→Int→Option (List Layer)} {i:Int} {b:Shelf} {o:List Layer} {j:Nat} {s:Layer} (hs:o[j]? = some s) (hl:s.fP.length≤1000000)
    (h1:-1000000000≤s.fD+b.fD∧s.fD+b.fD≤1000000000) (h2:-1000000000≤s.fQ+b.fQ∧s.fQ+b.fQ≤1000000000):Qc1 fu k7 i b o (j:Int)=k7 (o.set j (Qtv s i b)) (w64 (i+1)):=by
 unfold Qc1 Qnr
 rw [Qh2,hs,Qaa,ap1 (by simp; omega),Qaa]
 simp only [Qaa,Q2a,List.set_set,Jfg]
 rw [Qam (n:=s.fD+b.fD) (by omega) (by omega),Qam (n:=s.fQ+b.fQ) (by omega) (by omega)]
 rfl
theorem Qx3 (fu:Nat) (l:List Shelf) (f:Shelf→Option Bool) (g:Shelf→Bool) (hg:∀ b,f b=some (g b)) (h:l.length≤1048576) (hf:l.length<fu) :
    Qbq fu l f=some (l.any g):=by
 unfold Qbq Qc3
 have key:∀ (m i n:Nat),l.length - i=m→i≤l.length→m<n→∃ r,Qas fu l f n i=some r∧decide (r≥0)=(l.drop i).any g:=by
  intro m
  induction m with
  | zero =>
   intro i n hm hi hn
   obtain ⟨n,rfl⟩:∃ k,n=k+1:=⟨n - 1,by omega⟩
   rw [Qas.eq_2]
   unfold Qcd
   rw [Qaf (by simp; omega),List.drop_eq_nil_of_le (by omega)]
   exact ⟨_,rfl,rfl⟩
  | succ m ih =>
   intro i n hm hi hn
   obtain ⟨n,rfl⟩:∃ k,n=k+1:=⟨n - 1,by omega⟩
   have hlt:i<l.length:=by omega
   rw [Qas.eq_2]
   unfold Qcd
   rw [Qao (by simpa using hlt),Jfy (Jgq (List.getElem?_eq_getElem hlt)),hg,Qaa,List.drop_eq_getElem_cons hlt,List.any_cons]
   cases hgx:g l[i]
   · rw [Qaf rfl,Qam (by omega) (by omega),Bool.false_or]
     have:=ih (i+1) n (by omega) (by omega) (by omega)
     simpa using this
   · rw [Qao rfl]
     exact ⟨_,rfl,by simp⟩
 obtain ⟨r,h1,h2⟩:=key l.length 0 fu (by omega) (by omega) hf
 have h1':Qas fu l f fu 0=some r:=h1
 rw [h1',Qaa,h2]
 rfl
theorem Jmk {fu:Nat} (p:Pallet) (l:List Shelf) (hl:l.length≤1048576) (hf:l.length<fu):Qlz fu p l=some (Qvw p&&l.all λs=>okL p s.fD s.fH s.fQ):=by
 unfold Qlz
 have e:∀ a b c:Int,inB a b c=inb a b c:=λa b c=>Bool.eq_iff_iff.2 (by rw [Q5g,Qcb])
 have ep:Qub p=Qvw p:=by unfold Qub Qvw; simp only [e]
 rw [Qsj,Qaa,ep,Qx3 fu l _ (λs=>!okL p s.fD s.fH s.fQ) (λs=>by
  unfold Qol okL
  simp only [Jdv,Qaa,e]
  cases inb s.fD 1 p.fD <;> cases inb s.fH 1 p.fH <;> rfl) hl hf,Qaa]
 cases Qvw p
 · rfl
 · rw [cond_true,Bool.true_and]
   congr 1
   rw [Bool.eq_iff_iff]
   simp
theorem Jdu {fu:Nat} (hfu:2097153≤fu) {p:Pallet} (hp:Qvw p=true) {l:List Shelf} (hb:OkS p l) (hl:l.length≤1000):Qpg fu p l=some (lyM p l):=by
 unfold Qpg lyM
 rw [Jmk p l (by omega) (by omega),hp,Jiv hb,Qaa,Bool.and_self,Bool.not_true,cond_false]
 obtain ⟨p1,p2,p3,p4⟩:=Qxi hp
 refine Q8h (l.length:Int) (λn (o:List Layer) i=>Qbt fu p l n o i) (λxs o=>some (xs.foldl (lyS p l) o)) (λxs o=>(∀ s∈o,LyI p l.length s)∧((o.map (·.fP)).flatten).length+xs.length≤1000∧o.length+xs.length≤1000) (by omega) ?_ ?_ l.length fu [] 0 (by omega) (by omega) (by omega) ⟨by simp,by simp [Qbx]; omega,by simp [Qbx]; omega⟩
 · intro n o i xs x0 x1 hd hI ih
   obtain ⟨i2,i3,i4⟩:=hI
   simp only [List.length_cons] at i3 i4
   obtain ⟨hbx,b1,b2,b3,_⟩:=Q4u hb ⟨x0,x1⟩
   have hflat:((lyS p l o i).map (·.fP)).flatten=(o.map (·.fP)).flatten++[i]:=Qsf (λs=>rfl) rfl
   have hlen:(lyS p l o i).length≤o.length+1:=Que _ _ _ _
   have ih':=ih (lyS p l o i) ⟨Q5o hb ⟨x0,x1⟩ i2,by rw [hflat,List.length_append,List.length_singleton]; omega,by omega⟩
   simp only [Qbt.eq_2]
   unfold Qk4
   rw [hd,cond_true,hbx,Qaa,List.foldl_cons,← ih']
   have hnew:∀ o':List Layer,o'.length≤1000→Qc1 fu (λo i=>Qbt fu p l n o i) i (shA l i) (o'++[zLy]) ((o'.length:Nat):Int)=Qbt fu p l n (o'++[Qtv zLy i (shA l i)]) (w64 (i+1)):=λo' ho'=>by
    rw [Je2 (s:=zLy) (by simp) (by simp [zLy]) (by simp [zLy]; omega) (by simp [zLy]; omega)]
    simp
   by_cases he:o=[]
   · subst he
     rw [Qao (by decide),ap1 (by simp),Qaa]
     exact hnew [] (by simp)
   · obtain ⟨s,e1,e2⟩:=Qus he
     have hp:=List.length_pos_iff.2 he
     have hsm':=List.mem_of_getLast? e1
     have hs:=i2 s hsm'
     have hsl':=Qpp (λs:Layer=>s.fP) o s hsm'
     have eS:lyS p l o i=bif Q8b p (shA l i) s then o.set (o.length - 1) (Qtv s i (shA l i)) else o++[Qtv zLy i (shA l i)]:=Qvc e1
     have e3:w64 ((o.length:Int) - 1)=((o.length - 1:Nat):Int):=by rw [Qam (by omega) (by omega)]; omega
     have e4:w64 (((o.length - 1:Nat):Int)+1)=((o.length:Nat):Int):=by rw [Qam (by omega) (by omega)]; omega
     have e5:o[o.length - 1]? = some s:=by rw [← List.getLast?_eq_getElem?]; exact e1
     obtain ⟨s1,s2,s4,s5,s6⟩:=hs
     rw [e3,e4,Qaf (by simp),Qh2,e5,Qaa,Qam (n:=s.fD+_) (by omega) (by omega),Qam (n:=s.fQ+_) (by omega) (by omega),ap1 (by simp; omega),Qaa,eS]
     unfold Q8b
     have c1:decide (s.fD+(shA l i).fD>p.fD)=!decide (s.fD+(shA l i).fD≤p.fD):=by
      by_cases h:s.fD+(shA l i).fD≤p.fD <;> simp [h] <;> omega
     have c2:decide (s.fQ+(shA l i).fQ>p.fQ)=!decide (s.fQ+(shA l i).fQ≤p.fQ):=by
      by_cases h:s.fQ+(shA l i).fQ≤p.fQ <;> simp [h] <;> omega
     rw [c1,c2,Qaa]
     have h1:=hnew o (by omega)
     have h2:Qc1 fu (λo i=>Qbt fu p l n o i) i (shA l i) o ((o.length - 1:Nat):Int)=Qbt fu p l n (o.set (o.length - 1) (Qtv s i (shA l i))) (w64 (i+1)):=Je2 e5 (by omega) (by omega) (by omega)
     cases decide (s.fD+(shA l i).fD≤p.fD)
     · exact h1
     · cases decide (s.fQ+(shA l i).fQ≤p.fQ)
       · exact h1
       · exact h2
 · intro n o i hd _
   simp only [Qbt.eq_2]
   unfold Qk4
   rw [hd,cond_false]; rfl
def zSp:Spot:=⟨0,0,0,0⟩
def ldA (l:List Load) (i:Int):Load:=(ix l i).getD zLd
def spB (l:List Box) (o y z:Int) (is:List Int) (s:List Spot×Int):List Spot×Int:=is.foldl (λs b=>(Qi1 s.1 b ⟨o,s.2,y,z⟩,s.2+(bxA l b).fW)) s
def spS (l:List Box) (sh:List Shelf) (o z:Int) (js:List Int) (s:List Spot×Int):List Spot×Int:=js.foldl (λs j=>((spB l o s.2 z (shA sh j).f0 (s.1,0)).1,s.2+(shA sh j).fD)) s
def spY (l:List Box) (sh:List Shelf) (ly:List Layer) (o:Int) (is:List Int) (s:List Spot×Int):List Spot×Int:=is.foldl (λs i=>((spS l sh o s.2 (lyA ly i).fP (s.1,0)).1,s.2+(lyA ly i).fH)) s
def spO (l:List Box) (sh:List Shelf) (ly:List Layer) (ld:List Load) (os:List Int) (out:List Spot):List Spot:=os.foldl (λout o=>(spY l sh ly o (ldA ld o).fO (out,0)).1) out
def spM (p:Pallet) (l:List Box):List Spot:=bif Q0b p l then spO l (shM p l) (lyM p (shM p l)) (ldM p (lyM p (shM p l))) (Qj5 0 (ldM p (lyM p (shM p l))).length) (List.replicate l.length zSp) else []
theorem Qy5 {α:Type} (l:List α) (i:Int) (y:α):(Qi1 l i y).length=l.length:=by simp [Qi1]
theorem Q29 (l:List Box) (o y z:Int):∀ (is:List Int) (s:List Spot×Int),(spB l o y z is s).1.length=s.1.length
 | [],_=>rfl
 | i::is,s=>by
  have:=Q29 l o y z is (Qi1 s.1 i ⟨o,s.2,y,z⟩,s.2+(bxA l i).fW)
  rw [Qy5] at this
  exact this
theorem Q25 (l:List Box) (sh:List Shelf) (o z:Int):∀ (is:List Int) (s:List Spot×Int),(spS l sh o z is s).1.length=s.1.length
 | [],_=>rfl
 | i::is,s=>by
  have:=Q25 l sh o z is ((spB l o s.2 z (shA sh i).f0 (s.1,0)).1,s.2+(shA sh i).fD)
  rw [Q29] at this
  exact this
theorem Q18 (l:List Box) (sh:List Shelf) (ly:List Layer) (o:Int):∀ (is:List Int) (s:List Spot×Int),(spY l sh ly o is s).1.length=s.1.length
 | [],_=>rfl
 | i::is,s=>by
  have:=Q18 l sh ly o is ((spS l sh o s.2 (lyA ly i).fP (s.1,0)).1,s.2+(lyA ly i).fH)
  rw [Q25] at this
  exact this
theorem Q97 (l:List Box) (sh:List Shelf) (ly:List Layer) (ld:List Load):∀ (os:List Int) (out:List Spot),(spO l sh ly ld os out).length=out.length
 | [],_=>rfl
 | o::os,out=>by
  have:=Q97 l sh ly ld os (spY l sh ly o (ldA ld o).fO (out,0)).1
  rw [Q18] at this
  exact this
theorem Q5v {p:Pallet} {l:List Box} (h:Q0b p l=true):(spM p l).length=l.length:=by
 unfold spM
 rw [h,cond_true,Q97,List.length_replicate]
theorem Jbn {p:Pallet} {l:List Box} (h:Q0b p l=true):OkS p (shM p l):=λs hs=>by
 have:=(Q3p h).1 s hs
 exact ⟨this.d,this.h,this.g⟩
theorem Jaq {p:Pallet} {l:List Shelf} (h:OkS p l):OkY p (lyM p l):=λs hs=>by
 have:=(Q2h h).1 s hs
 exact ⟨this.d,this.h,this.g⟩
theorem Jgd {fu:Nat} (hfu:2097153≤fu) (p:Pallet) (l:List Box) (hl:l.length≤1000):Qle fu p l=some (spM p l):=by
 unfold Qle spM
 rw [Jae (by omega),Qaa,Jkm p l (by omega) (by omega),Qaa]
 cases hb:Q0b p l
 · rfl
 · obtain ⟨a1,a2,a3⟩:=Q3p hb
   have hS:=Jbn hb
   obtain ⟨y1,y2,y3⟩:=Q2h hS
   have hY:=Jaq hS
   obtain ⟨d1,d2,d3⟩:=Q54 hY
   have hpb:=Q2l hb
   obtain ⟨q1,q2,q3,q4⟩:=Qxi hpb
   rw [Bool.not_true,cond_false,cond_true,Jbq hfu p l hl,Qaa,Jdo hfu hpb hS (by omega),Qaa,Jfv hfu hpb hY (by omega),Qaa]
   have f1:∀ s∈shM p l,s.f0.length≤1000:=λs hs=>by
    have:=Qpp (λs:Shelf=>s.f0) _ s hs
    rw [a2,Qtm] at this; omega
   have f2:∀ s∈lyM p (shM p l),s.fP.length≤1000:=λs hs=>by
    have:=Qpp (λs:Layer=>s.fP) _ s hs
    rw [y2,Qbx] at this; omega
   have f3:∀ s∈ldM p (lyM p (shM p l)),s.fO.length≤1000:=λs hs=>by
    have:=Qpp (λs:Load=>s.fO) _ s hs
    rw [d2,Qbx] at this; omega
   generalize ldM p (lyM p (shM p l))=ld at d1 d3 f3 ⊢
   generalize lyM p (shM p l)=ly at y1 y3 hY d1 d3 f2 ⊢
   generalize shM p l=sh at a1 a3 hS y1 y3 f1 ⊢
   have L4:=Q8h (ld.length:Int) (λn (out:List Spot) o=>Qbg fu l sh ly ld n out o) (λos out=>some (spO l sh ly ld os out)) (λos out=>out.length=l.length) (by omega) ?_ ?_ ld.length fu (List.replicate l.length zSp) 0 (by omega) (by omega) (by omega) (by simp)
   · exact L4
   · intro n out o os o0 o1 hd hI ih
     obtain ⟨x,hx⟩:=Q51 (l:=ld) o0 o1
     have ex:ldA ld o=x:=by unfold ldA; rw [hx]; rfl
     have hxm:=d1 x (Qi3 hx)
     have hxl:=f3 x (Qi3 hx)
     simp only [Qbg.eq_2]
     unfold Qmb
     rw [hd,cond_true]
     have L3:=lpI x.fO (λm (s:List Spot×Int) i=>Qb0 fu (Qbg fu l sh ly ld n) l sh ly ld o m s.1 s.2 i) (λis s=>Qbg fu l sh ly ld n (spY l sh ly o is s).1 (w64 (o+1))) (λis s=>s.1.length=l.length∧(∀ i∈is,0≤i∧i<ly.length)∧0≤s.2∧s.2+2000*is.length≤2000000) (by omega) ?_ ?_ fu (out,0) ⟨hI,hxm.inn,by simp,by simp; omega⟩ (by omega)
     · refine L3.trans ?_
       rw [ih _ (by rw [Q18]; exact hI)]
       simp only [spO,List.foldl_cons,ex]
     · intro m ⟨out,z⟩ i j is hj hd hI ih
       obtain ⟨i1,i2,i3,i4⟩:out.length=l.length∧(∀ i∈j::is,0≤i∧i<ly.length)∧0≤z∧z+2000*((j::is).length:Int)≤2000000:=hI
       simp only [List.length_cons] at i4
       obtain ⟨hly,t1,t2,t3,hmem⟩:=Q4g hY (i2 j (by simp))
       have hyi:=y1 _ hmem
       have hyl:=f2 _ hmem
       simp only [Qb0.eq_2]
       unfold Qm8
       rw [hx,Qaa,hd,cond_true,Qaa,hj,Qaa,hly,Qaa]
       have L2:=lpI (lyA ly j).fP (λq (s:List Spot×Int) k=>Qc9 fu (Qb0 fu (Qbg fu l sh ly ld n) l sh ly ld o m) l sh o z i (lyA ly j) q s.1 s.2 k) (λks s=>Qb0 fu (Qbg fu l sh ly ld n) l sh ly ld o m (spS l sh o z ks s).1 (w64 (z+(lyA ly j).fH)) (w64 (i+1))) (λks s=>s.1.length=l.length∧(∀ i∈ks,0≤i∧i<sh.length)∧0≤s.2∧s.2+2000*ks.length≤2000000) (by omega) ?_ ?_ fu (out,0) ⟨i1,hyi.inn,by simp,by simp; omega⟩ (by omega)
       · refine L2.trans ?_
         rw [Qam (n:=z+_) (by omega) (by omega)]
         exact ih ((spS l sh o z (lyA ly j).fP (out,0)).1,z+(lyA ly j).fH) ⟨by rw [Q25]; exact i1,λi hi=>i2 i (by simp [hi]),by simp; omega,by simp; omega⟩
       · intro q ⟨out,y⟩ k b ks hb2 hd hI ih
         obtain ⟨i1,i2,i3,i4⟩:out.length=l.length∧(∀ i∈b::ks,0≤i∧i<sh.length)∧0≤y∧y+2000*((b::ks).length:Int)≤2000000:=hI
         simp only [List.length_cons] at i4
         obtain ⟨hsh,u1,u2,u3,hmem2⟩:=Q4u hS (i2 b (by simp))
         have hsi:=a1 _ hmem2
         have hsl:=f1 _ hmem2
         simp only [Qc9.eq_2]
         unfold Qmm
         rw [hd,cond_true,hb2,Qaa,hsh,Qaa]
         have L1:=lpI (shA sh b).f0 (λq' (s:List Spot×Int) k'=>Qgr fu (Qc9 fu (Qb0 fu (Qbg fu l sh ly ld n) l sh ly ld o m) l sh o z i (lyA ly j) q) l o z y k (shA sh b) q' s.1 s.2 k') (λbs s=>Qc9 fu (Qb0 fu (Qbg fu l sh ly ld n) l sh ly ld o m) l sh o z i (lyA ly j) q (spB l o y z bs s).1 (w64 (y+(shA sh b).fD)) (w64 (k+1))) (λbs s=>s.1.length=l.length∧(∀ i∈bs,0≤i∧i<l.length)∧0≤s.2∧s.2+2000*bs.length≤2000000) (by omega) ?_ ?_ fu (out,0) ⟨i1,hsi.inn,by simp,by simp; omega⟩ (by omega)
         · refine L1.trans ?_
           rw [Qam (n:=y+_) (by omega) (by omega)]
           exact ih ((spB l o y z (shA sh b).f0 (out,0)).1,y+(shA sh b).fD) ⟨by rw [Q29]; exact i1,λi hi=>i2 i (by simp [hi]),by simp; omega,by simp; omega⟩
         · intro q' ⟨out,x'⟩ k' c bs hc hd hI ih
           obtain ⟨i1,i2,i3,i4⟩:out.length=l.length∧(∀ i∈c::bs,0≤i∧i<l.length)∧0≤x'∧x'+2000*((c::bs).length:Int)≤2000000:=hI
           simp only [List.length_cons] at i4
           have hcr:=i2 c (by simp)
           obtain ⟨hbx,v1,v2,v3,v4⟩:=Q4y hb hcr
           obtain ⟨sp,hsp⟩:=Q51 (l:=out) hcr.1 (by omega)
           simp only [Qgr.eq_2]
           unfold Qmw
           rw [hd,cond_true,hc,Qaa,hsp,Qaa,Qaa,hbx,Qaa,Qam (n:=x'+_) (by omega) (by omega)]
           exact ih (Qi1 out c ⟨o,x',y,z⟩,x'+(bxA l c).fW) ⟨by rw [Qy5]; exact i1,λi hi=>i2 i (by simp [hi]),by simp; omega,by simp; omega⟩
         · intro q' ⟨out,x'⟩ k' hd _
           simp only [Qgr.eq_2]
           unfold Qmw
           rw [hd,cond_false]; rfl
       · intro q ⟨out,y⟩ k hd _
         simp only [Qc9.eq_2]
         unfold Qmm
         rw [hd,cond_false]; rfl
     · intro m ⟨out,z⟩ i hd _
       simp only [Qb0.eq_2]
       unfold Qm8
       rw [hx,Qaa,hd,cond_false]; rfl
   · intro n out o hd _
     simp only [Qbg.eq_2]
     unfold Qmb
     rw [hd,cond_false]; rfl
def Jb6 (n:Int) (out:List Spot):Prop:=∀ s∈out,0≤s.fJ∧s.fJ≤n
theorem Jdr {n:Int} {out:List Spot} {i:Int} {s:Spot} (h:Jb6 n out) (hs:0≤s.fJ∧s.fJ≤n):Jb6 n (Qi1 out i s):=by
 intro t ht
 unfold Qi1 at ht
 rcases List.mem_or_eq_of_mem_set ht with ht | rfl
 · exact h t ht
 · exact hs
theorem Jbx {n:Int} (l:List Box) (o y z:Int) (ho:0≤o∧o≤n):∀ (is:List Int) (s:List Spot×Int),Jb6 n s.1→Jb6 n (spB l o y z is s).1
 | [],_,h=>h
 | i::is,s,h=>Jbx l o y z ho is (Qi1 s.1 i ⟨o,s.2,y,z⟩,s.2+(bxA l i).fW) (Jdr h ho)
theorem Q95 {n:Int} (l:List Box) (sh:List Shelf) (o z:Int) (ho:0≤o∧o≤n):∀ (is:List Int) (s:List Spot×Int),Jb6 n s.1→Jb6 n (spS l sh o z is s).1
 | [],_,h=>h
 | i::is,s,h=>Q95 l sh o z ho is ((spB l o s.2 z (shA sh i).f0 (s.1,0)).1,s.2+(shA sh i).fD) (Jbx l o s.2 z ho _ (s.1,0) h)
theorem Jbj {n:Int} (l:List Box) (sh:List Shelf) (ly:List Layer) (o:Int) (ho:0≤o∧o≤n):∀ (is:List Int) (s:List Spot×Int),Jb6 n s.1→Jb6 n (spY l sh ly o is s).1
 | [],_,h=>h
 | i::is,s,h=>Jbj l sh ly o ho is ((spS l sh o s.2 (lyA ly i).fP (s.1,0)).1,s.2+(lyA ly i).fH) (Q95 l sh o s.2 ho _ (s.1,0) h)
theorem Q8p {n:Int} (l:List Box) (sh:List Shelf) (ly:List Layer) (ld:List Load):∀ (os:List Int) (out:List Spot),(∀ o∈os,0≤o∧o≤n)→Jb6 n out→Jb6 n (spO l sh ly ld os out)
 | [],_,_,h=>h
 | o::os,out,ho,h=>Q8p l sh ly ld os (spY l sh ly o (ldA ld o).fO (out,0)).1 (λq hq=>ho q (by simp [hq])) (Jbj l sh ly o (ho o (by simp)) _ (out,0) h)
theorem Jd3 {p:Pallet} {l:List Box} (hl:l.length≤1000):∀ s∈spM p l,0≤s.fJ∧s.fJ≤1000:=by
 unfold spM
 cases hb:Q0b p l
 · simp
 · have a3:=(Q3p hb).2.2
   have hS:=Jbn hb
   have y3:=(Q2h hS).2.2
   have d3:=(Q54 (Jaq hS)).2.2
   rw [cond_true]
   refine Q8p l _ _ _ _ _ (λo ho=>?_) λs hs=>?_
   · have:=Qho.1 ho; omega
   · rw [(List.mem_replicate.1 hs).2]; simp [zSp]
def Jn1 (r:Request) (k:Int):Bool:=inb k 0 (((Qj1 r).length:Int) - 1)
theorem Q10 {r:Request} {k:Int} (h:Jn1 r k=true):Qhh r=0:=by
 unfold Jn1 at h
 rw [Qcb] at h
 by_cases hc:Qhh r=0
 · exact hc
 · have:Qj1 r=[]:=by
     unfold Qj1 Q40
     rw [show (Qhh r==0)=false by simp [hc]]
     rfl
   rw [this] at h
   simp at h
   omega
theorem Q64 (r:Request) (g:List Int) (u i:Int) (us:List Int) {x:Item} (hx:ix r.fV i=some x):ofG r g u (i::us)=bif g.contains x.fM then u::ofG r g (u+1) us else ofG r g (u+1) us:=by
 rw [ofG,hx]
theorem Jl7 {fu:Nat} {r:Request} (h:Sm fu r) (k:Int):Qqo fu r k=some (Q5f r k):=by
 have hfu:=h.fu
 unfold Qqo Q5f
 rw [Jgc h,Qaa,Q89,Q0a,Qaa]
 cases hg:inb k 0 (((Qj1 r).length:Int) - 1)
 · rw [Bool.not_false,cond_true]
   have:ix (Qj1 r) k=none:=by
    have hk:¬ (0≤k∧k≤((Qj1 r).length:Int) - 1):=by intro hk; rw [(Qcb).2 hk] at hg; cases hg
    unfold ix
    by_cases h0:0≤k
    · rw [if_pos h0,List.getElem?_eq_none (by omega)]
    · rw [if_neg h0]
   rw [this]
 · have hc:=Q10 hg
   rw [Qcb] at hg
   obtain ⟨j,rfl⟩:∃ j:Nat,k=j:=⟨k.toNat,by omega⟩
   have hj:j<(Qj1 r).length:=by omega
   have hgl:=(Qu3 r).2 _ (List.getElem_mem hj)
   rw [Bool.not_true,cond_false,Jly h (Qfn hc).1,Qaa,Qy1 hj]
   have e:Qi4 r=l6M r:=by unfold Qi4; rw [show (Qhh r==0)=true by simp [hc],cond_true]
   simp only [e]
   have hlen:(l6M r).length≤12:=Q9p (Qfn hc).1
   have:=Jd7 (l6M r) (λn out i=>Qe9 fu r (j:Int) (Qj1 r) (l6M r) n out i) (λpre xs out=>some (out++ofG r (Qj1 r)[j] (pre.length:Int) xs)) (λpre xs out=>out.length+xs.length≤12) (by omega) ?_ ?_ fu [] (by simpa using hlen) (by omega)
   · simpa using this
   · intro n out pre i xs hl hx hd hI ih
     simp only [List.length_cons] at hI
     have hi:i∈Qi4 r:=by rw [e,hl]; simp
     have hi2:=Q22 hi
     obtain ⟨q,rfl⟩:∃ q:Nat,i=q:=⟨i.toNat,by omega⟩
     have hq:q<r.fV.length:=by omega
     simp only [Qe9.eq_2]
     unfold Qmo Qkf
     simp only [hd,cond_true,hx,Qaa,Qy1 hj,Qy1 hq,Jic (show (Qj1 r)[j].length≤1048576 by omega) (show (Qj1 r)[j].length<fu by omega)]
     rw [Q64 r _ _ _ _ (Qy1 hq)]
     cases (Qj1 r)[j].contains r.fV[q].fM
     · rw [cond_false,cond_false,ih _ (by omega)]
       simp
     · rw [cond_true,cond_true,ap1 (by simp; omega),Qaa,ih _ (by simp; omega)]
       simp
   · intro n out hd hI
     simp only [Qe9.eq_2]
     unfold Qmo
     simp only [hd,cond_false]
     simp [ofG]
theorem Jna {fu:Nat} {r:Request} (h:Sm fu r) (k:Int):Qqi fu r k=some (Q5f r k):=by
 have hfu:=h.fu
 unfold Qqi Q5f
 rw [Jfn h,Qaa,Q89,Q1z,Qaa]
 cases hg:inb k 0 (((Qj1 r).length:Int) - 1)
 · rw [Bool.not_false,cond_true]
   have:ix (Qj1 r) k=none:=by
    have hk:¬ (0≤k∧k≤((Qj1 r).length:Int) - 1):=by intro hk; rw [(Qcb).2 hk] at hg; cases hg
    unfold ix
    by_cases h0:0≤k
    · rw [if_pos h0,List.getElem?_eq_none (by omega)]
    · rw [if_neg h0]
   rw [this]
 · have hc:=Q10 hg
   rw [Qcb] at hg
   obtain ⟨j,rfl⟩:∃ j:Nat,k=j:=⟨k.toNat,by omega⟩
   have hj:j<(Qj1 r).length:=by omega
   have hgl:=(Qu3 r).2 _ (List.getElem_mem hj)
   rw [Bool.not_true,cond_false,Jfr h,Qaa,Qy1 hj]
   have hlen:=Q21 r
   have:=Jd7 (Qi4 r) (λn out i=>Qe8 fu r (j:Int) (Qj1 r) (Qi4 r) n out i) (λpre xs out=>some (out++ofG r (Qj1 r)[j] (pre.length:Int) xs)) (λpre xs out=>out.length+xs.length≤12) (by omega) ?_ ?_ fu [] (by simpa using hlen) (by omega)
   · simpa using this
   · intro n out pre i xs hl hx hd hI ih
     simp only [List.length_cons] at hI
     have hi:i∈Qi4 r:=by rw [hl]; simp
     have hi2:=Q22 hi
     obtain ⟨q,rfl⟩:∃ q:Nat,i=q:=⟨i.toNat,by omega⟩
     have hq:q<r.fV.length:=by omega
     simp only [Qe8.eq_2]
     unfold Ql8 Qj9
     simp only [hd,cond_true,hx,Qaa,Qy1 hj,Qy1 hq,Jlv (show (Qj1 r)[j].length≤1048576 by omega) (show (Qj1 r)[j].length<fu by omega)]
     rw [Q64 r _ _ _ _ (Qy1 hq)]
     cases (Qj1 r)[j].contains r.fV[q].fM
     · rw [cond_false,cond_false,ih _ (by omega)]
       simp
     · rw [cond_true,cond_true,ap1 (by simp; omega),Qaa,ih _ (by simp; omega)]
       simp
   · intro n out hd hI
     simp only [Qe8.eq_2]
     unfold Ql8
     simp only [hd,cond_false]
     simp [ofG]
def Jij (l:List Int):List Int:=l.mergeSort λx y=>decide (x≤y)
theorem Qzg (l:List Int):(Jij l).Perm l:=List.mergeSort_perm l _
theorem Jcm (l:List Int):(Jij l).length=l.length:=(Qzg l).length_eq
def Q9e (r:Request) (k:Int) (l:List Int):Carton:=⟨(Q1r r l).1.f8,k,Jij l⟩
def Q6g (r:Request) (k:Int):List Carton:=(pwM r (Q5f r k)).map (Q9e r k)
def Q3j (r:Request):List Int→List Carton
 | []=>[]
 | k::ks=>Q6g r k++Q3j r ks
def Qv0 (r:Request):List Carton:=Q3j r (Qj5 0 (Qj1 r).length)
theorem Jbk (l:List Int):(Qj5 0 l.length).map (λp=>(ix l p).getD 0)=l:=by
 have key:∀ (xs pre:List Int),l=pre++xs→(Qj5 pre.length xs.length).map (λp=>(ix l p).getD 0)=xs:=by
  intro xs
  induction xs with
  | nil=>intro pre _; rfl
  | cons x xs ih =>
   intro pre he
   have h1:=ih (pre++[x]) (by simp [he])
   simp only [List.length_append,List.length_singleton] at h1
   simp only [List.length_cons,Qj5,List.map_cons]
   rw [show ((pre.length:Int)+1)=((pre.length+1:Nat):Int) by omega,h1]
   congr 1
   rw [Qh2,he]
   simp
 exact key l [] rfl
theorem Jgy (l:List Int):(srt (kf l) l.length).map (λp=>(ix l p).getD 0)=Jij l:=by
 refine Jg9 ?_ ?_ (Qu7 l)
 · refine ((Qvb _ _).map _).trans ?_
   rw [Jbk]
   exact (Qzg l).symm
 · refine List.pairwise_map.2 ((Qxa (kf l) l.length).imp fun {p q} h=>?_)
   unfold lx kf at h
   omega
theorem Q7m {r:Request} (k:Int):(Q6g r k).length≤12:=by
 have:=(Q7s (r:=r) (Qyj r k)).1
 simp [Q6g]; omega
theorem Jmd {fu:Nat} {r:Request} (h:Sm fu r):Qlo fu r=some (Qv0 r):=by
 have hfu:=h.fu
 have hg:=(Qu3 r).1
 unfold Qlo Qv0
 rw [Jfn h,Qaa]
 have:=Q8h ((Qj1 r).length:Int) (λn out i=>Qcp fu r (Qj1 r) n out i) (λxs out=>some (out++Q3j r xs)) (λxs out=>out.length+12*xs.length≤48) (by omega) ?_ ?_ (Qj1 r).length fu [] 0 (by omega) (by omega) (by omega) (by simp [Qbx]; omega)
 · simpa using this
 · intro n out k ks h0 h1 hd hI ih
   simp only [List.length_cons] at hI
   have hul:=Qyj r k
   have hpo:=Q7s (r:=r) hul
   simp only [Qcp.eq_2]
   unfold Qjp
   rw [hd,cond_true,Jna h,Qaa,Jm6 h _ (by omega),Qaa]
   have key:=lpI (pwM r (Q5f r k)) (λm o i=>Qew fu (Qcp fu r (Qj1 r) n) r k (pwM r (Q5f r k)) m o i) (λxs o=>Qcp fu r (Qj1 r) n (o++xs.map (Q9e r k)) (w64 (k+1))) (λxs o=>o.length+xs.length≤48∧∀ l∈xs,l.length≤12) (by have:=hpo.1; omega) ?_ ?_ fu out ⟨by have:=hpo.1; omega,hpo.2⟩ (by have:=hpo.1; omega)
   · rw [key,ih _ (by have:=hpo.1; simp; omega)]
     simp [Q3j,Q6g]
   · intro m o i l xs hx hd hI ih
     obtain ⟨h2,h3⟩:=hI
     simp only [List.length_cons] at h2
     have hl:=h3 l (by simp)
     simp only [Qew.eq_2]
     unfold Qjn
     rw [hd,cond_true,hx,Qaa,Jg8 h l (by omega),Qaa,show Qcl fu l=some (Jij l) from Q8g (by omega),Qaa,ap1 (by simp; omega),Qaa,ih _ ⟨by simp; omega,λy hy=>h3 y (by simp [hy])⟩]
     simp [Q9e]
   · intro m o i hd _
     simp only [Qew.eq_2]
     unfold Qjn
     rw [hd,cond_false]; simp
 · intro n out k hd _
   simp only [Qcp.eq_2]
   unfold Qjp
   rw [hd,cond_false]; simp [Q3j]
theorem Jnf {fu:Nat} {r:Request} (h:Sm fu r):Qlv fu r=some (Qv0 r):=by
 have hfu:=h.fu
 have hg:=(Qu3 r).1
 unfold Qlv Qv0
 rw [Jgc h,Qaa]
 have:=Q8h ((Qj1 r).length:Int) (λn out i=>Qa7 fu r (Qj1 r) n out i) (λxs out=>some (out++Q3j r xs)) (λxs out=>out.length+12*xs.length≤48) (by omega) ?_ ?_ (Qj1 r).length fu [] 0 (by omega) (by omega) (by omega) (by simp [Qbx]; omega)
 · simpa using this
 · intro n out k ks h0 h1 hd hI ih
   simp only [List.length_cons] at hI
   have hul:=Qyj r k
   have hpo:=Q7s (r:=r) hul
   simp only [Qa7.eq_2]
   unfold Qi8
   rw [hd,cond_true,Jl7 h,Qaa,Jni h _ (by omega),Qaa]
   have key:=lpI (pwM r (Q5f r k)) (λm o i=>Qbu fu (Qa7 fu r (Qj1 r) n) r k (pwM r (Q5f r k)) m o i) (λxs o=>Qa7 fu r (Qj1 r) n (o++xs.map (Q9e r k)) (w64 (k+1))) (λxs o=>o.length+xs.length≤48∧∀ l∈xs,l.length≤12) (by have:=hpo.1; omega) ?_ ?_ fu out ⟨by have:=hpo.1; omega,hpo.2⟩ (by have:=hpo.1; omega)
   · rw [key,ih _ (by have:=hpo.1; simp; omega)]
     simp [Q3j,Q6g]
   · intro m o i l xs hx hd hI ih
     obtain ⟨h2,h3⟩:=hI
     simp only [List.length_cons] at h2
     have hl:=h3 l (by simp)
     simp only [Qbu.eq_2]
     unfold Qjb Qnh
     rw [hd,cond_true,hx,Qaa,Je9 h l (by omega),Qaa,Qaa,Joc hfu (by omega),Qaa]
     have hsl:=Qtm (kf l) l.length
     have hsm:=λx=>Qw3 (k:=kf l) (n:=l.length) (x:=x)
     have hsg:=Jgy l
     generalize srt (kf l) l.length=S at hsl hsm hsg ⊢
     have k1:=lpI S (λm' us j=>Qfb fu (Qbu fu (Qa7 fu r (Qj1 r) n) r k (pwM r (Q5f r k)) m) k (pwM r (Q5f r k)) o i (Q1r r l).1 S m' us j)
      (λxs us=>Qab (Qc7 40 o [(⟨(Q1r r l).1.f8,k,us++xs.map λp=>(ix l p).getD 0⟩:Carton)]) λx=>Qik fu (Qbu fu (Qa7 fu r (Qj1 r) n) r k (pwM r (Q5f r k)) m) i x) (λxs us=>us.length+xs.length≤12∧∀ p∈xs,0≤p∧p<l.length) (by omega) ?_ ?_ fu [] ⟨by simp; omega,λp hp=>(hsm p).1 hp⟩ (by omega)
     · rw [k1,List.nil_append,hsg,ap1 (by simp; omega),Qaa]
       unfold Qik
       rw [ih _ ⟨by simp; omega,λy hy=>h3 y (by simp [hy])⟩]
       simp [Q9e]
     · intro m' us j p ps hp hd hI ih
       obtain ⟨h4,h5⟩:=hI
       simp only [List.length_cons] at h4
       simp only [Qfb.eq_2]
       unfold Qjg
       rw [hd,cond_true,hx,Qaa,hp,Qaa,Ja6 (h5 p (by simp)),Qaa,ap1 (by simp; omega),Qaa,ih _ ⟨by simp; omega,λy hy=>h5 y (by simp [hy])⟩]
       simp
     · intro m' us j hd _
       simp only [Qfb.eq_2]
       unfold Qjg
       rw [hd,cond_false]; simp
   · intro m o i hd _
     simp only [Qbu.eq_2]
     unfold Qjb Qmp
     rw [hd,cond_false]; simp
 · intro n out k hd _
   simp only [Qa7.eq_2]
   unfold Qi8
   rw [hd,cond_false]; simp [Q3j]
theorem Q6c (r:Request):∀ (ks:List Int),(Q3j r ks).length≤12*ks.length
 | []=>by simp [Q3j]
 | k::ks=>by
  have:=Q6c r ks
  have:=Q7m (r:=r) k
  simp [Q3j]; omega
theorem Qye (r:Request):(Qv0 r).length≤48:=by
 have:=Q6c r (Qj5 0 (Qj1 r).length)
 have hg:=(Qu3 r).1
 rw [Qbx] at this
 unfold Qv0
 omega
theorem Q66 {r:Request} {c:Carton}:∀ {ks:List Int},c∈Q3j r ks↔∃ k∈ks,∃ l∈pwM r (Q5f r k),c=Q9e r k l
 | []=>by simp [Q3j]
 | k::ks=>by
  simp only [Q3j,List.mem_append,Q66 (ks:=ks),List.mem_cons,Q6g,List.mem_map]
  constructor
  · rintro (⟨l,hl,rfl⟩ | ⟨k',hk,l,hl,e⟩)
    · exact ⟨k,.inl rfl,l,hl,rfl⟩
    · exact ⟨k',.inr hk,l,hl,e⟩
  · rintro ⟨k',rfl | hk,l,hl,rfl⟩
    · exact .inl ⟨l,hl,rfl⟩
    · exact .inr ⟨k',hk,l,hl,rfl⟩
theorem Qy4 {r:Request} {c:Carton} (h:c∈Qv0 r):c.fl.length≤12:=by
 obtain ⟨k,_,l,hl,rfl⟩:=Q66.1 h
 have:=(Q7s (r:=r) (Qyj r k)).2 l hl
 simp only [Q9e,Jcm]
 omega
def Jh1:List Int→Int
 | []=>1
 | x::xs=>x*Jh1 xs
theorem Jc5 {a b:List Int} (h:a.Perm b):Jh1 a=Jh1 b:=by
 induction h with
 | nil=>rfl
 | cons x _ ih=>simp only [Jh1,ih]
 | swap x y l=>simp only [Jh1,← Int.mul_assoc]; rw [Int.mul_comm x y]
 | trans _ _ h1 h2=>rw [h1,h2]
theorem Jay (a b c:Int):(sid a b c).1*((sid a b c).2.1*(sid a b c).2.2)=a*b*c:=by
 have h:=Q80 a b c
 unfold Q28 at h
 simp only [List.length_cons,List.length_nil] at h
 rw [if_pos (by omega)] at h
 have hp:=List.mergeSort_perm [a,b,c] λx y=>decide (x≤y)
 rw [Option.some.inj h] at hp
 have:=Jc5 hp
 simp only [Jh1,Int.mul_one] at this
 rw [this,Int.mul_assoc]
theorem Jj7 {a b c m:Int} (ha:m≤a) (hb:m≤b) (hc:m≤c):m≤(sid a b c).1:=by
 unfold sid
 simp only
 split <;> split <;> omega
theorem Jg2 {x:Item} {t:Typ} (hx:Qyb x=true) (ht:Q2s t=true) (h:Q0d x t=true):Jbv x≤Jca t∧x.fQ≤t.fQ:=by
 simp only [Qyb,Bool.and_eq_true,Qcb] at hx
 simp only [Q2s,Bool.and_eq_true,Qcb] at ht
 simp only [Q0d,Bool.and_eq_true,decide_eq_true_eq] at h
 obtain ⟨⟨⟨h1,h2⟩,h3⟩,h4⟩:=h
 refine ⟨?_,h4⟩
 have e1:Jbv x=x.fW*x.fH*x.fD:=by
  unfold Jbv Q8c
  rw [show (inb x.fW 0 2000&&(inb x.fH 0 2000&&inb x.fD 0 2000))=true by simp; omega,cond_true]
 have e2:Jca t=t.fW*t.fH*t.fD:=by
  unfold Jca Q8c
  rw [show (inb t.fW 0 2000&&(inb t.fH 0 2000&&inb t.fD 0 2000))=true by simp; omega,cond_true]
 rw [e1,e2,← Jay x.fW x.fH x.fD,← Jay t.fW t.fH t.fD]
 have p1:1≤(sid x.fW x.fH x.fD).1:=Jj7 (by omega) (by omega) (by omega)
 have s1:=Q1n x.fW x.fH x.fD
 have s2:=Q1n t.fW t.fH t.fD
 refine Int.mul_le_mul h1 ?_ (Int.mul_nonneg (by omega) (by omega)) (by omega)
 exact Int.mul_le_mul h2 h3 (by omega) (by omega)
theorem Q2r {r:Request} {u:Int} (h:0≤u∧u<(Qi4 r).length):Qwm r u∈r.fV:=(Q82 (Qw1 h)).2
theorem Q7z {r:Request} {u:Int} (h:0≤u∧u<(Qi4 r).length):Qhh r=0:=(Q82 (Qw1 h)).1
theorem Q9t {r:Request} (hc:Qhh r=0):Qt6 r r.fR=some (Qxl r)∧Qxl r∈r.fG∧Q2s (Qxl r)=true:=by
 have h:=(Qfn hc).2.1
 unfold Q96 at h
 simp only [Bool.and_eq_true] at h
 obtain ⟨t,ht⟩:=Option.isSome_iff_exists.1 h.1.2
 have e:Qxl r=t:=by unfold Qxl; rw [ht]; rfl
 have hm:t∈r.fG:=List.mem_of_find?_eq_some ht
 rw [e]
 exact ⟨ht,hm,Qzv (Qfn hc).1 t hm⟩
theorem Jbw {r:Request} {u:Int} (h:0≤u∧u<(Qi4 r).length):Qxo r [u]=Jbv (Qwm r u)∧Qwg r [u]=(Qwm r u).fQ:=by
 unfold Qxo Qwg Qxn
 simp [List.filterMap_cons,Qw1 h]
theorem Jaj {r:Request} {u:Int} (h:0≤u∧u<(Qi4 r).length):Q41 r [u] (Qxl r)=true:=by
 have hc:=Q7z h
 have hz:=Qfn hc
 have hm:=Q2r h
 obtain ⟨h1,h2⟩:=Jg2 ((Qsp hz.1).1 _ hm) (Q9t hc).2.2 (hz.2.2.2.1 _ hm)
 unfold Q41
 rw [(Jbw h).1,(Jbw h).2,Bool.and_eq_true,decide_eq_true_iff,decide_eq_true_iff]
 exact ⟨h1,h2⟩
def Qc (r:Request) (us:List Int) (l:List Int):Prop:=l≠[]∧(∀ u∈l,u∈us)∧Q41 r l (Qxl r)=true
theorem Jjd {r:Request} {us:List Int} {out:List (List Int)} {u:Int} (h:∀ l∈out,Qc r us l) (hu:u∈us) (hr:0≤u∧u<(Qi4 r).length):∀ l∈Jh5 r out u,Qc r us l:=by
 have hn:Qc r us [u]:=⟨by simp,λv hv=>by rw [List.mem_singleton.1 hv]; exact hu,Jaj hr⟩
 intro l hl
 unfold Jh5 Jhl at hl
 split at hl
 · rename_i i hi
   obtain ⟨x,hx,hg⟩:=Qzm hi
   rw [hx] at hl
   rcases List.mem_or_eq_of_mem_set hl with hl | rfl
   · exact h l hl
   · have hq:=h x (List.mem_of_getElem? hx)
     refine ⟨by simp,λv hv=>?_,hg⟩
     rcases List.mem_append.1 hv with hv | hv
     · exact hq.2.1 v hv
     · rw [List.mem_singleton.1 hv]; exact hu
 · rcases List.mem_append.1 hl with hl | hl
   · exact h l hl
   · rw [List.mem_singleton.1 hl]; exact hn
theorem Jjm {r:Request} {us:List Int} {out:List (List Int)} {u:Int} (h:∀ l∈out,Qc r us l) (hu:u∈us) (hr:0≤u∧u<(Qi4 r).length):∀ l∈Q8n r out u,Qc r us l:=by
 have hn:Qc r us [u]:=⟨by simp,λv hv=>by rw [List.mem_singleton.1 hv]; exact hu,Jaj hr⟩
 intro l hl
 cases hlast:out.getLast? with
 | none =>
  unfold Q8n at hl
  rw [hlast] at hl
  rw [List.mem_singleton.1 hl]; exact hn
 | some x =>
  rw [Qz9 u hlast] at hl
  have hq:=h x (List.mem_of_getLast? hlast)
  cases hg:Q3y r u x
  · rw [hg,cond_false] at hl
    rcases List.mem_append.1 hl with hl | hl
    · exact h l hl
    · rw [List.mem_singleton.1 hl]; exact hn
  · rw [hg,cond_true] at hl
    rcases List.mem_or_eq_of_mem_set hl with hl | rfl
    · exact h l hl
    · refine ⟨by simp,λv hv=>?_,hg⟩
      rcases List.mem_append.1 hv with hv | hv
      · exact hq.2.1 v hv
      · rw [List.mem_singleton.1 hv]; exact hu
theorem Q9c {r:Request} {us:List Int} {F:List (List Int)→Int→List (List Int)} (hF:∀ out u,(∀ l∈out,Qc r us l)→u∈us→(0≤u∧u<(Qi4 r).length)→∀ l∈F out u,Qc r us l):∀ (vs:List Int) (out:List (List Int)),(∀ u∈vs,u∈us∧0≤u∧u<(Qi4 r).length)→(∀ l∈out,Qc r us l)→∀ l∈vs.foldl F out,Qc r us l
 | [],out,_,h=>h
 | v::vs,out,hv,h=>by
  rw [List.foldl_cons]
  have h1:=hv v (by simp)
  exact Q9c hF vs _ (λu hu=>hv u (by simp [hu])) (hF out v h h1.1 h1.2)
theorem Jat (r:Request) (us:List Int):(Jee r us).Perm us:=by
 unfold Jee
 refine ((Qvb _ _).map _).trans ?_
 have key:∀ (xs pre:List Int),us=pre++xs→(Qj5 pre.length xs.length).map (λp=>(ix us p).getD 0)=xs:=by
  intro xs
  induction xs with
  | nil=>intro pre _; rfl
  | cons x xs ih =>
   intro pre he
   have h1:=ih (pre++[x]) (by simp [he])
   simp only [List.length_append,List.length_singleton] at h1
   simp only [List.length_cons,Qj5,List.map_cons]
   rw [show ((pre.length:Int)+1)=((pre.length+1:Nat):Int) by omega,h1]
   congr 1
   rw [Qh2,he]
   simp
 have:=key us [] rfl
 simp only [List.length_nil] at this
 exact List.Perm.of_eq this
theorem Jot {r:Request} {us:List Int}:∀ l∈pwM r us,Qc r (Qvu r us) l:=by
 unfold pwM nfM ffM
 have ht:∀ u∈Qvu r us,u∈Qvu r us∧0≤u∧u<(Qi4 r).length:=λu hu=>⟨hu,Qyu hu⟩
 cases r.f9==1
 · rw [cond_false]
   exact Q9c (λout u h hu hr=>Jjd h hu hr) _ [] (λu hu=>ht u ((Jat r _).mem_iff.1 hu)) (by simp)
 · rw [cond_true]
   exact Q9c (λout u h hu hr=>Jjm h hu hr) _ [] ht (by simp)
def Q71:List Carton→Nat
 | []=>0
 | x::xs=>x.fl.length+Q71 xs
structure Sp (x:Plan):Prop where
 cars:x.fE.length≤1048576
 units:∀ c∈x.fE,c.fl.length≤1048576
 all:Q71 x.fE≤1048576
 spots:x.ft.length≤1048576
def Jcd:List Int→List Int→Bool
 | _,[]=>true
 | pre,x::xs=>inb x 0 999&&((match pre.getLast? with | none=>true | some y=>decide (y<x))&&Jcd (pre++[x]) xs)
def Jhp (l:List Int):Bool:=Jcd [] l&&decide ((l.length:Int)≤100)
def Jb9 (c:Carton):Bool:=inb c.qQ 0 999&&(inb c.fk 0 3&&Jhp c.fl)
def Jen (s:Spot):Bool:=inb s.fJ 0 2000&&(inb s.fX 0 2000&&(inb s.fY 0 2000&&inb s.fZ 0 2000))
def Q1x (x:Plan):Bool:=x.ft.length==x.fE.length&&(decide ((x.fE.length:Int)≤100)&&(x.fE.zip x.ft).all λp=>Jb9 p.1&&Jen p.2)
theorem Jav {pre:List Int} {x:Int} {xs l:List Int} (hl:l.length≤1048576) (e:l=pre++x::xs):(pre.getLast? = none∧pre.length=0)∨∃ y,pre.getLast? = some y∧0<pre.length∧ix l (w64 ((pre.length:Int) - 1))=some y:=by
 cases hp:pre.getLast? with
 | none=>exact .inl ⟨rfl,by simpa using List.getLast?_eq_none_iff.1 hp⟩
 | some y =>
  have hne:pre≠[]:=λe=>by subst e; simp at hp
  have hpos:0<pre.length:=List.length_pos_iff.2 hne
  refine .inr ⟨y,rfl,hpos,?_⟩
  have h1:w64 ((pre.length:Int) - 1)=((pre.length - 1:Nat):Int):=by
   have:pre.length≤l.length:=by rw [e]; simp
   rw [Qam (by omega) (by omega)]; omega
  rw [h1,Qh2,e,List.getElem?_append_left (by omega),← List.getLast?_eq_getElem?,hp]
theorem Jnl {fu:Nat} {l:List Int} (hl:l.length≤1048576) (hf:l.length<fu):Qjx fu l=some (Jhp l):=by
 unfold Qjx Jhp
 have key:=lpP l (λn (_:Unit) i=>Qdm fu l n i) (λpre xs _=>some (Jcd pre xs&&decide ((l.length:Int)≤100))) (by omega) ?_ ?_ fu () hf
 · exact key
 · intro n _ pre x xs e hx hd ih
   have ih:=ih ()
   simp only [Qdm.eq_2]
   unfold Qiz Qhv Jcd
   rw [hd,cond_true,hx,Qaa,Q1z,Qaa]
   cases inb x 0 999
   · rfl
   · rw [Bool.not_true,cond_false,Bool.true_and]
     rcases Jav (hl:=hl) e with ⟨h1,h2⟩ | ⟨y,h1,h2,h3⟩
     · rw [h1,show decide ((pre.length:Int)>0)=false from decide_eq_false (by omega),cond_false,ih]
       simp
     · rw [h1,show decide ((pre.length:Int)>0)=true from decide_eq_true (by omega),cond_true,h3,Qaa,ih]
       by_cases hy:y<x
       · rw [show decide (y≥x)=false by simp; omega,cond_false]; simp [hy]
       · rw [show decide (y≥x)=true by simp; omega,cond_true]; simp [hy]
 · intro n _ hd
   simp only [Qdm.eq_2]
   unfold Qiz
   rw [hd,cond_false]
   simp [Jcd]
theorem Jml {fu:Nat} {c:Carton} (hl:c.fl.length≤1048576) (hf:c.fl.length<fu):Ql3 fu c=some (Jb9 c):=by
 unfold Ql3 Jb9
 rw [Jk7,Qaa,Q0a,Qaa]
 cases inb c.qQ 0 999
 · rfl
 · rw [Bool.not_true,cond_false]
   cases inb c.fk 0 3
   · rfl
   · rw [Bool.not_true,cond_false,Bool.true_and,Bool.true_and]
     unfold Jhp
     by_cases h1:(c.fl.length:Int)≤100
     · rw [show decide ((c.fl.length:Int)>100)=false by simp; omega,cond_false,show decide ((c.fl.length:Int)≤100)=true by simpa using h1,Bool.and_true]
       unfold Qne
       have key:=lpP c.fl (λn (_:Unit) i=>Qd3 fu c n i) (λpre xs _=>some (Jcd pre xs)) (by omega) ?_ ?_ fu () hf
       · exact key
       · intro n _ pre x xs e hx hd ih
         have ih:=ih ()
         simp only [Qd3.eq_2]
         unfold Qi9 Qin Jcd
         rw [hd,cond_true,hx,Qaa,Q0a,Qaa]
         cases inb x 0 999
         · rfl
         · rw [Bool.not_true,cond_false,Bool.true_and]
           rcases Jav (hl:=hl) e with ⟨h1,h2⟩ | ⟨y,h1,h2,h3⟩
           · rw [h1,show decide ((pre.length:Int)>0)=false from decide_eq_false (by omega),cond_false,ih]
             simp
           · rw [h1,show decide ((pre.length:Int)>0)=true from decide_eq_true (by omega),cond_true,Qaa,h3,Qaa,ih]
             by_cases hy:y<x
             · rw [show decide (x≤y)=false by simp; omega,cond_false]; simp [hy]
             · rw [show decide (x≤y)=true by simp; omega,cond_true]; simp [hy]
       · intro n _ hd
         simp only [Qd3.eq_2]
         unfold Qi9
         rw [hd,cond_false]
         simp [Jcd]
     · rw [show decide ((c.fl.length:Int)>100)=true by simp; omega,cond_true,show decide ((c.fl.length:Int)≤100)=false by simpa using h1,Bool.and_false]
theorem Q61 {α β:Type} {a:List α} {b:List β} {i:Int} {p:α×β} (h:ix (a.zip b) i=some p):ix a i=some p.1∧ix b i=some p.2:=by
 obtain ⟨h0,_,h1⟩:=Qah h
 have:=List.getElem?_zip_eq_some.1 h1
 unfold ix
 rw [if_pos h0,if_pos h0]
 exact this
theorem Jii {fu:Nat} {x:Plan} (h:Sp x) (hf:1048577≤fu):Qjz fu x=some (Q1x x):=by
 have hs:=h.spots
 have hc:=h.cars
 unfold Qjz Q1x
 cases he:x.ft.length==x.fE.length
 · have:((x.ft.length:Int) != (x.fE.length:Int))=true:=by simp at he ⊢; omega
   rw [this]; rfl
 · have el:x.ft.length=x.fE.length:=by simpa using he
   have:((x.ft.length:Int) != (x.fE.length:Int))=false:=by simp; omega
   rw [this,cond_false,Bool.true_and]
   by_cases h1:(x.fE.length:Int)≤100
   · rw [show decide ((x.fE.length:Int)>100)=false by simp; omega,cond_false,show decide ((x.fE.length:Int)≤100)=true by simpa using h1,Bool.true_and]
     unfold Qrg
     have hz:(x.fE.zip x.ft).length=x.fE.length:=by simp; omega
     have key:=lp (x.fE.zip x.ft) (λn (_:Unit) i=>Qf8 fu x n i) (λl _=>some (l.all λp=>Jb9 p.1&&Jen p.2)) (by omega) ?_ ?_ fu () (by omega)
     · exact key
     · intro n _ i p xs hx hd ih
       have ih:=ih ()
       obtain ⟨e1,e2⟩:=Q61 hx
       have hu:=h.units p.1 (Qi3 e1)
       rw [hz] at hd
       simp only [Qf8.eq_2]
       unfold Qn1 Qrc
       simp only [hd,cond_true,e1,e2,Qaa,Q1z,Jnl hu (show p.1.fl.length<fu by omega),Jgu,ih,List.all_cons]
       unfold Jb9 Jen
       cases inb p.1.qQ 0 999 <;> cases inb p.1.fk 0 3 <;> cases Jhp p.1.fl <;> cases inb p.2.fJ 0 2000 <;> cases inb p.2.fX 0 2000 <;> cases inb p.2.fY 0 2000 <;> cases inb p.2.fZ 0 2000 <;> rfl
     · intro n _ i hd
       rw [hz] at hd
       simp only [Qf8.eq_2]
       unfold Qn1
       simp [hd]
   · rw [show decide ((x.fE.length:Int)>100)=true by simp; omega,cond_true,show decide ((x.fE.length:Int)≤100)=false by simpa using h1,Bool.false_and]
theorem Jmo {fu:Nat} {x:Plan} (h:Sp x) (hf:1048577≤fu):Qry fu x=some (Q1x x):=by
 have hs:=h.spots
 have hc:=h.cars
 unfold Qry Q1x
 cases he:x.ft.length==x.fE.length
 · have:((x.fE.length:Int) != (x.ft.length:Int))=true:=by simp at he ⊢; omega
   rw [this]; rfl
 · have el:x.ft.length=x.fE.length:=by simpa using he
   have:((x.fE.length:Int) != (x.ft.length:Int))=false:=by simp; omega
   rw [this,cond_false,Bool.true_and]
   by_cases h1:(x.fE.length:Int)≤100
   · rw [show decide ((x.fE.length:Int)>100)=false by simp; omega,cond_false,show decide ((x.fE.length:Int)≤100)=true by simpa using h1,Bool.true_and]
     unfold Qrd
     have hz:(x.fE.zip x.ft).length=x.fE.length:=by simp; omega
     have key:=lp (x.fE.zip x.ft) (λn (_:Unit) i=>Qgc fu x n i) (λl _=>some (l.all λp=>Jb9 p.1&&Jen p.2)) (by omega) ?_ ?_ fu () (by omega)
     · exact key
     · intro n _ i p xs hx hd ih
       have ih:=ih ()
       obtain ⟨e1,e2⟩:=Q61 hx
       have hu:=h.units p.1 (Qi3 e1)
       rw [hz] at hd
       simp only [Qgc.eq_2]
       unfold Qnt Qq9
       simp only [hd,cond_true,e1,e2,Qaa,Q0a,Jml hu (show p.1.fl.length<fu by omega),ih,List.all_cons]
       unfold Jen
       cases Jb9 p.1 <;> cases inb p.2.fJ 0 2000 <;> cases inb p.2.fX 0 2000 <;> cases inb p.2.fY 0 2000 <;> cases inb p.2.fZ 0 2000 <;> rfl
     · intro n _ i hd
       rw [hz] at hd
       simp only [Qgc.eq_2]
       unfold Qnt
       simp [hd]
   · rw [show decide ((x.fE.length:Int)>100)=true by simp; omega,cond_true,show decide ((x.fE.length:Int)≤100)=false by simpa using h1,Bool.false_and]
def cs (x:Plan):List (Carton×Spot):=x.fE.zip x.ft
theorem Jaw (r:Request) (us:List Int):∀ (l:List Typ) (s:Typ×Bool),(l.foldl (chp r us) s).2=(s.2||l.any (Q4t r us))
 | [],s=>by simp
 | t::l,s=>by
  rw [List.foldl_cons,Jaw r us l,List.any_cons]
  unfold chp
  obtain ⟨b,f⟩:=s
  cases Q4t r us t <;> cases f <;> simp
  cases (decide (t.fL<b.fL)||t.fL==b.fL&&decide (t.f8<b.f8)) <;> simp
theorem Jdj {r:Request} {us:List Int} {t:Typ} (ht:t∈r.fG) (h:Q4t r us t=true):(Q1r r us).2=true:=by
 unfold Q1r
 rw [Jaw]
 simp only [Bool.false_or]
 exact List.any_eq_true.2 ⟨t,ht,h⟩
theorem Jaa {a b:List Int} (h:a.Perm b):Qxt a=Qxt b:=by
 induction h with
 | nil=>rfl
 | cons x _ ih=>simp [ih]
 | swap x y l=>simp; omega
 | trans _ _ h1 h2=>rw [h1,h2]
theorem Jdy {r:Request} {a b:List Int} (h:a.Perm b):(Qxn r a).Perm (Qxn r b):=h.filterMap _
theorem Jdn {r:Request} {a b:List Int} (h:a.Perm b):Qwg r a=Qwg r b:=Jaa ((Jdy h).map _)
theorem Q6d {f:Typ→Int}:∀ (xs pre:List Typ) (t:Typ),Q8j f pre xs=true→t∈xs→(∀ y∈pre,f y≠f t)∧xs.find? (λy=>f y==f t)=some t
 | [],_,_,_,h=>by simp at h
 | x::xs,pre,t,hn,h=>by
  simp only [Q8j,Bool.and_eq_true,Bool.not_eq_true'] at hn
  have hx:=List.any_eq_false.1 hn.1
  rcases List.mem_cons.1 h with rfl | h
  · exact ⟨λy hy e=>hx y hy (by simp [e]),by simp⟩
  · have ih:=Q6d xs (pre++[x]) t hn.2 h
    refine ⟨λy hy=>ih.1 y (by simp [hy]),?_⟩
    have:=ih.1 x (by simp)
    have e:(f x==f t)=false:=by simpa using this
    rw [List.find?_cons,e]
    exact ih.2
theorem Jds {r:Request} (hc:Qhh r=0) {t:Typ} (ht:t∈r.fG):Qt6 r t.f8=some t:=by
 have h:=(Qfn hc).2.1
 unfold Q96 at h
 simp only [Bool.and_eq_true] at h
 exact (Q6d r.fG [] t h.1.1.1 ht).2
theorem Q68 (r:Request) (us:List Int):∀ (l:List Typ) (s:Typ×Bool),(∀ t∈l,t∈r.fG)→(s.2=true→s.1∈r.fG∧Q4t r us s.1=true)→(l.foldl (chp r us) s).2=true→(l.foldl (chp r us) s).1∈r.fG∧Q4t r us (l.foldl (chp r us) s).1=true
 | [],s,_,h,h2=>h h2
 | t::l,s,hl,h,h2=>by
  rw [List.foldl_cons] at h2 ⊢
  refine Q68 r us l _ (λx hx=>hl x (by simp [hx])) (λh3=>?_) h2
  unfold chp at h3 ⊢
  cases hh:Q4t r us t&&(!s.2||(decide (t.fL<s.1.fL)||(t.fL==s.1.fL&&decide (t.f8<s.1.f8))))
  · rw [hh,cond_false] at h3
    rw [cond_false]
    exact h h3
  · rw [Bool.and_eq_true] at hh
    rw [cond_true]
    exact ⟨hl t (by simp),hh.1⟩
theorem Jdk {r:Request} {us l:List Int} (h:Qc r (Qvu r us) l):Q4t r l (Qxl r)=true:=by
 obtain ⟨h1,h2,h3⟩:=h
 obtain ⟨u,hu⟩:=List.exists_mem_of_ne_nil _ h1
 have hc:=Q7z (Qyu (h2 u hu))
 have hz:=Qfn hc
 unfold Q4t
 rw [show (Qhh r==0)=true by simp [hc],Bool.true_and,h3,Bool.and_true,List.all_eq_true]
 intro v hv
 have hv':=Qyu (h2 v hv)
 unfold uOk
 rw [Qw1 hv',Bool.and_eq_true]
 exact ⟨rfl,hz.2.2.2.1 _ (Q2r hv')⟩
theorem Jkl {r:Request} {us l:List Int} (h:Qc r (Qvu r us) l):Qhh r=0∧(Q1r r l).2=true∧(Q1r r l).1∈r.fG∧Q4t r l (Q1r r l).1=true∧Qt6 r (Q1r r l).1.f8=some (Q1r r l).1:=by
 obtain ⟨u,hu⟩:=List.exists_mem_of_ne_nil _ h.1
 have hc:=Q7z (Qyu (h.2.1 u hu))
 have h2:=Jdj (Q9t hc).2.1 (Jdk h)
 have h3:=Q68 r l r.fG (Jj5,false) (λ_ h=>h) (by simp) h2
 exact ⟨hc,h2,h3.1,h3.2,Jds hc h3.1⟩
theorem Jft {r:Request} {us l:List Int} (h:Qc r (Qvu r us) l):1≤Qwg r l:=by
 obtain ⟨h1,h2,_⟩:=h
 match l,h1 with
 | u::l,_ =>
  have hu:=Qyu (h2 u (by simp))
  have hc:=Q7z hu
  have:=(Qsp (Qfn hc).1).1 _ (Q2r hu)
  simp only [Qyb,Bool.and_eq_true,Qcb] at this
  have h3:=(Q84 r l).1
  rw [Q6i]
  omega
theorem Jgi {r:Request} {us l:List Int} (h:Qc r (Qvu r us) l) (k:Int):Q69 r (Q9e r k l)=⟨(Q1r r l).1.fW,(Q1r r l).1.fD,(Q1r r l).1.fH,(Q1r r l).1.fK+Qwg r l⟩∧Jdh r.fJ (Q69 r (Q9e r k l))=true:=by
 obtain ⟨hc,_,ht,hh,hf⟩:=Jkl h
 have hz:=Qfn hc
 have e:Q69 r (Q9e r k l)=⟨(Q1r r l).1.fW,(Q1r r l).1.fD,(Q1r r l).1.fH,(Q1r r l).1.fK+Qwg r l⟩:=by
  unfold Q69 Q9e
  simp only [hf,show (Qhh r==0)=true by simp [hc],cond_true,Jdn (Qzg l)]
 refine ⟨e,?_⟩
 have ht1:=Qzv hz.1 _ ht
 have ht2:=hz.2.2.2.2 _ ht
 simp only [Q2s,Bool.and_eq_true,Qcb] at ht1
 simp only [Q8l,Bool.or_eq_false_iff,decide_eq_false_iff_not] at ht2
 rw [Qam (by omega) (by omega)] at ht2
 have hg:=Jft h
 unfold Q4t at hh
 simp only [Bool.and_eq_true] at hh
 have hw:=hh.2.2
 unfold Q41 at hw
 simp only [Bool.and_eq_true,decide_eq_true_eq] at hw
 rw [e]
 simp only [Jdh,Bool.and_eq_true,Qcb]
 omega
def Qyd (r:Request) (k:Int):List Box:=((Qv0 r).filter λc=>c.fk==k).map (Q69 r)
def plS (r:Request) (s:List Spot×Int) (k:Int):List Spot×Int:=(s.1++(spM r.fJ (Qyd r k)).map (λt=>⟨t.fJ+s.2,t.fX,t.fY,t.fZ⟩),s.2+Jea (spM r.fJ (Qyd r k)))
def Q75 (r:Request):Plan×Bool:=bif Qhh r==0 then (⟨Qv0 r,((Qj5 0 (Qj1 r).length).foldl (plS r) ([],0)).1⟩,true) else (⟨[],[]⟩,false)
theorem Qzs (r:Request) (k:Int):∀ (ks:List Int),ks.Nodup→((Q3j r ks).filter λc=>c.fk==k)=bif ks.contains k then Q6g r k else []
 | [],_=>rfl
 | j::ks,hn=>by
  obtain ⟨h1,h2⟩:=List.nodup_cons.1 hn
  have ih:=Qzs r k ks h2
  rw [Q3j,List.filter_append,ih]
  have hj:∀ c∈Q6g r j,c.fk=j:=by
   intro c hc
   unfold Q6g at hc
   obtain ⟨l,_,rfl⟩:=List.mem_map.1 hc
   rfl
  by_cases e:k=j
  · subst e
    have e1:(Q6g r k).filter (λc=>c.fk==k)=Q6g r k:=List.filter_eq_self.2 λc hc=>by simp [hj c hc]
    have e2:ks.contains k=false:=by simpa using h1
    rw [e1,e2]
    simp
  · have e1:(Q6g r j).filter (λc=>c.fk==k)=[]:=List.filter_eq_nil_iff.2 λc hc=>by simp [hj c hc]; omega
    rw [e1]
    have e2:(j::ks).contains k=ks.contains k:=by simp [e]
    rw [e2]; rfl
theorem Q6t {r:Request} {k:Int} (h:0≤k∧k<(Qj1 r).length):Qyd r k=(Q6g r k).map (Q69 r):=by
 unfold Qyd Qv0
 rw [Qzs r k _ (Q8d _ _)]
 rw [show (Qj5 0 (Qj1 r).length).contains k=true by rw [List.contains_iff_mem,Qho]; omega]
 rfl
theorem Jah {r:Request} (hc:Qhh r=0) {k:Int} (h:0≤k∧k<(Qj1 r).length):Q0b r.fJ (Qyd r k)=true:=by
 have hb:=(Qfn hc).1
 unfold Q5a at hb
 simp only [Bool.and_eq_true] at hb
 unfold Q0b
 rw [Q6t h,Bool.and_eq_true]
 refine ⟨hb.1.1.1.1.1.1.1.1.2,List.all_eq_true.2 λb hb=>?_⟩
 unfold Q6g at hb
 rw [List.map_map] at hb
 obtain ⟨l,hl,rfl⟩:=List.mem_map.1 hb
 exact (Jgi (Jot l hl) k).2
theorem Jbr (r:Request) (k:Int):(Qyd r k).length≤48:=by
 have h1:=List.length_filter_le (λc:Carton=>c.fk==k) (Qv0 r)
 have h2:=Qye r
 unfold Qyd
 rw [List.length_map]
 omega
theorem Jd5 {r:Request} (hc:Qhh r=0):∀ (ks:List Int) (s:List Spot×Int),(∀ k∈ks,0≤k∧k<(Qj1 r).length)→(ks.foldl (plS r) s).1.length=s.1.length+(Q3j r ks).length
 | [],s,_=>by simp [Q3j]
 | k::ks,s,h=>by
  rw [List.foldl_cons,Jd5 hc ks _ λj hj=>h j (by simp [hj])]
  have hk:=h k (by simp)
  have h1:=Q5v (Jah hc hk)
  rw [Q6t hk,List.length_map] at h1
  simp only [plS,Q3j,List.length_append,List.length_map,Q6t hk,h1]
  omega
theorem Jgt (r:Request):(Q75 r).1.ft.length=(Q75 r).1.fE.length∧(Q75 r).1.fE.length≤48∧∀ c∈(Q75 r).1.fE,c.fl.length≤12:=by
 unfold Q75
 cases hc:Qhh r==0
 · exact ⟨rfl,by simp,by simp⟩
 · rw [cond_true]
   have:=Jd5 (r:=r) (by simpa using hc) (Qj5 0 (Qj1 r).length) ([],0) λk hk=>by have:=Qho.1 hk; omega
   exact ⟨by rw [this]; simp [Qv0],Qye r,λc hc=>Qy4 hc⟩
theorem Jj9 {fu:Nat} {r:Request} (h:Sm fu r):Qr5 fu r=some (Q75 r):=by
 have hfu:=h.fu
 have hg:=(Qu3 r).1
 have hcl:=Qye r
 unfold Qr5 Q75
 rw [Q0f h,Qaa]
 cases hc:Qhh r==0
 · rw [show (Qhh r != 0)=true by simp only [bne,hc]; rfl]; rfl
 · have hz:Qhh r=0:=by simpa using hc
   rw [show (Qhh r != 0)=false by simp [hz],cond_false,cond_true,Jnf h,Qaa,Jgc h,Qaa]
   have L3:=Q8h ((Qj1 r).length:Int) (λn (s:List Spot×Int) k=>Qbz fu r (Qv0 r) (Qj1 r) n s.1 s.2 k) (λks s=>some ((⟨Qv0 r,(ks.foldl (plS r) s).1⟩:Plan),true)) (λks s=>(∀ k∈ks,0≤k∧k<(Qj1 r).length)∧s.1.length+48*ks.length≤1000∧0≤s.2∧s.2+1000000*ks.length≤10000000) (by omega) ?_ ?_ (Qj1 r).length fu ([],0) 0 (by omega) (by omega) (by omega) ⟨λk hk=>by have:=Qho.1 hk; omega,by simp [Qbx]; omega,by simp,by simp [Qbx]; omega⟩
   · exact L3
   · intro n ⟨sp,base⟩ k ks k0 k1 hd hI ih
     obtain ⟨i1,i2,i3,i4⟩:(∀ j∈k::ks,0≤j∧j<(Qj1 r).length)∧sp.length+48*(k::ks).length≤1000∧0≤base∧base+1000000*((k::ks).length:Int)≤10000000:=hI
     simp only [List.length_cons] at i2 i4
     simp only [Qbz.eq_2]
     unfold Qnx
     rw [hd,cond_true]
     have L2:=lpI (Qv0 r) (λm (bs:List Box) i=>Qf2 fu (Qbz fu r (Qv0 r) (Qj1 r) n) r (Qv0 r) sp base k m bs i) (λcs bs=>Qab (Qle fu r.fJ (bs++(cs.filter λc=>c.fk==k).map (Q69 r))) λx=>Qgd fu (Qbz fu r (Qv0 r) (Qj1 r) n) base k x fu sp 0) (λcs bs=>bs.length+cs.length≤48∧∀ c∈cs,c.fl.length≤12) (by omega) ?_ ?_ fu [] ⟨by simpa using hcl,λc hc=>Qy4 hc⟩ (by omega)
     · refine L2.trans ?_
       have hbl:=Jbr r k
       rw [List.nil_append,show ((Qv0 r).filter λc=>c.fk==k).map (Q69 r)=Qyd r k from rfl,Jgd hfu _ _ (by omega),Qaa]
       have hsl:=Q5v (Jah hz ⟨k0,k1⟩)
       have hpb:=Q9r (spM r.fJ (Qyd r k))
       have hps:∀ s∈spM r.fJ (Qyd r k),s∈spM r.fJ (Qyd r k):=λ_ h=>h
       have ih':=ih (plS r (sp,base) k) ⟨λj hj=>i1 j (by simp [hj]),by simp [plS]; omega,by simp [plS]; omega,by simp [plS]; omega⟩
       rw [List.foldl_cons,← ih']
       have hS:=Jka (fu:=fu) (l:=spM r.fJ (Qyd r k)) (by omega) (by omega)
       have hwf:∀ s∈spM r.fJ (Qyd r k),w64 (s.fJ+base)=s.fJ+base:=by
        intro s hs
        have:=Jd3 (p:=r.fJ) (l:=Qyd r k) (by omega) s hs
        exact Qam (by omega) (by omega)
       generalize hSP:spM r.fJ (Qyd r k)=S at hsl hpb hS hwf ⊢
       have L1:=lpI S (λm (o:List Spot) i=>Qgd fu (Qbz fu r (Qv0 r) (Qj1 r) n) base k S m o i) (λxs o=>Qbz fu r (Qv0 r) (Qj1 r) n (o++xs.map (λt=>⟨t.fJ+base,t.fX,t.fY,t.fZ⟩)) (base+Jea S) (w64 (k+1))) (λxs o=>o.length+xs.length≤1000∧∀ s∈xs,w64 (s.fJ+base)=s.fJ+base) (by omega) ?_ ?_ fu sp ⟨by omega,hwf⟩ (by omega)
       · refine L1.trans ?_
         simp only [plS,hSP]
       · intro m o i x xs hx hd hI ih
         obtain ⟨j1,j2⟩:=hI
         simp only [List.length_cons] at j1
         simp only [Qgd.eq_2]
         unfold Qoa
         rw [hd,cond_true,hx,Qaa,j2 x (by simp),ap1 (by simp; omega),Qaa,ih _ ⟨by simp; omega,λs hs=>j2 s (by simp [hs])⟩]
         simp
       · intro m o i hd hI
         simp only [Qgd.eq_2]
         unfold Qoa
         rw [hd,cond_false,hS,Qaa,Qam (n:=base+_) (by omega) (by omega)]
         simp
     · intro m bs i c cs hx hd hI ih
       obtain ⟨j1,j2⟩:=hI
       simp only [List.length_cons] at j1
       have hcu:=j2 c (by simp)
       simp only [Qf2.eq_2]
       unfold Qor Ql1
       rw [hd,cond_true,hx,Qaa,Qaa,Ji5 h c (by omega),Qaa,ap1 (by simp; omega),Qaa,ih _ ⟨by simp; omega,λc hc=>j2 c (by simp [hc])⟩,ih _ ⟨by omega,λc hc=>j2 c (by simp [hc])⟩,List.filter_cons]
       cases c.fk==k <;> simp
     · intro m bs i hd _
       simp only [Qf2.eq_2]
       unfold Qor
       rw [hd,cond_false]; simp
   · intro n ⟨sp,base⟩ k hd _
     simp only [Qbz.eq_2]
     unfold Qnx
     rw [hd,cond_false]; rfl
end Go.Proofs.YtndfoffokpdjeaaGreatDoor
