/- PackTextBP: plain le.. -/
import Derived.Test.YthkaklkinepfkaaGreatDoorPackTextBP2
set_option linter.unusedSimpArgs false
set_option linter.unusedVariables false
namespace Go.Proofs.YthkaklkinepfkaaGreatDoor
open Go
open Enc (rd ow)
open Arg (argv)
open Ret (retv)
open Wf (wf)
def inB (n lo hi:Int):Bool:=decide (lo≤n∧n≤hi)
theorem Q5f {n lo hi:Int}:inB n lo hi=true↔lo≤n∧n≤hi:=by simp [inB]
theorem Jfq (fu:Nat) (n lo hi:Int):Qan fu n lo hi=some (inB n lo hi):=by
 unfold Qan inB
 by_cases h:n≥lo
 · rw [Qao (by simpa using h)]
   have:lo≤n:=h
   simp [this]
 · rw [Qaf (by simpa using h)]
   have:¬ lo≤n:=h
   simp [this]
theorem Jdo (fu:Nat) (n lo hi:Int):Qat fu n lo hi=some (inB n lo hi):=Jfq fu n lo hi
def Qt9 (p:Pallet):Bool:=inB p.fW 1 2000&&(inB p.fD 1 2000&&(inB p.fH 1 2000&&inB p.fQ 1 100000))
def Jh0 (p:Pallet) (b:Box):Bool:=inB b.fW 1 p.fW&&(inB b.fD 1 p.fD&&(inB b.fH 1 p.fH&&inB b.fQ 1 p.fQ))
def Q58 (p:Pallet) (l:List Box):Bool:=Qt9 p&&l.all (Jh0 p)
theorem Qs3 (fu:Nat) (p:Pallet):Qel fu p=some (Qt9 p):=by
 unfold Qel Qc8 Qt9
 simp only [Jdo,Qaa]
 cases inB p.fW 1 2000 <;> cases inB p.fD 1 2000 <;> cases inB p.fH 1 2000 <;> rfl
theorem Q5t (fu:Nat) (b:Box) (p:Pallet):Qlt fu b p=some (!Jh0 p b):=by
 unfold Qlt Jh0
 simp only [Jdo,Qaa]
 cases inB b.fW 1 p.fW <;> cases inB b.fD 1 p.fD <;> cases inB b.fH 1 p.fH <;> rfl
theorem Q05 (fu:Nat) (l:List Box) (f:Box→Option Bool) (g:Box→Bool) (hg:∀ b,f b=some (g b)) (h:l.length≤1048576) (hf:l.length<fu) :
    Qb6 fu l f=some (l.any g):=by
 unfold Qb6 Qdv
 have key:∀ (m i n:Nat),l.length - i=m→i≤l.length→m<n→∃ r,Qay fu l f n i=some r∧decide (r≥0)=(l.drop i).any g:=by
  intro m
  induction m with
  | zero =>
   intro i n hm hi hn
   obtain ⟨n,rfl⟩:∃ k,n=k+1:=⟨n - 1,by omega⟩
   rw [Qay.eq_2]
   unfold Qcx
   rw [Qaf (by simp; omega),List.drop_eq_nil_of_le (by omega)]
   exact ⟨_,rfl,rfl⟩
  | succ m ih =>
   intro i n hm hi hn
   obtain ⟨n,rfl⟩:∃ k,n=k+1:=⟨n - 1,by omega⟩
   have hlt:i<l.length:=by omega
   rw [Qay.eq_2]
   unfold Qcx
   rw [Qao (by simpa using hlt),Je7 (Jfh (List.getElem?_eq_getElem hlt)),hg,Qaa,List.drop_eq_getElem_cons hlt,List.any_cons]
   cases hgx:g l[i]
   · rw [Qaf rfl,Qam (by omega) (by omega),Bool.false_or]
     have:=ih (i+1) n (by omega) (by omega) (by omega)
     simpa using this
   · rw [Qao rfl]
     exact ⟨_,rfl,by simp⟩
 obtain ⟨r,h1,h2⟩:=key l.length 0 fu (by omega) (by omega) hf
 have h1':Qay fu l f fu 0=some r:=h1
 rw [h1',Qaa,h2]
 rfl
theorem Qvl (fu:Nat) (p:Pallet) (l:List Box) (h:l.length≤1048576) (hf:l.length<fu):Qli fu p l=some (Q58 p l):=by
 unfold Qli Q58
 rw [Qs3,Qaa]
 cases Qt9 p
 · rfl
 rw [Qao rfl,Q05 fu l _ (λb=>!Jh0 p b) (λb=>Q5t fu b p) h hf,Qaa,Bool.true_and]
 congr 1
 induction l with
 | nil=>rfl
 | cons x xs ih =>
  simp only [List.any_cons,List.all_cons,Bool.not_or,Bool.not_not]
  rw [ih (by simp at h; omega) (by simp at hf; omega)]
theorem Jej (p:Pallet) (l:List Box):Q58 p l=Q0a p l:=by
 have e:∀ a b c:Int,inB a b c=inb a b c:=λa b c=>Bool.eq_iff_iff.2 (by rw [Q5f,Qcb])
 have e2:Jh0 p=Jdg p:=by funext b; unfold Jh0 Jdg; simp only [e]
 unfold Q58 Q0a Qt9 Qvu
 simp only [e,e2]
theorem Jgu (a b:Int):(if b>a then b else a)=mxI a b:=by unfold mxI; split <;> split <;> omega
theorem Q3g {α:Type} (l:List α) (j:Nat) (a:α):Qi0 l (j:Int) a=l.set j a:=by simp [Qi0]
theorem Jes {fu:Nat} {k8:List Shelf→Int→Option (List Shelf)} {x i:Int} {b:Box} {o:List Shelf} {j:Nat} {s:Shelf} (hs:o[j]? = some s) (hl:s.fM.length≤1000000)
    (h1:-1000000000≤s.fW+b.fW∧s.fW+b.fW≤1000000000) (h2:-1000000000≤s.fQ+b.fQ∧s.fQ+b.fQ≤1000000000):Qc9 fu k8 x i b o (j:Int)=k8 (o.set j (Qri s i b)) (w64 (x+1)):=by
 unfold Qc9 Qpl
 rw [Qh3,hs,Qaa,ap1 (by simp; omega),Qaa]
 simp only [Qaa,Q3g,List.set_set,Jgu]
 rw [Qam (n:=s.fW+b.fW) (by omega) (by omega),Qam (n:=s.fQ+b.fQ) (by omega) (by omega)]
 rfl
theorem Q88 {fu:Nat} (hfu:2097153≤fu) (p:Pallet) (l:List Box) (hl:l.length<20):Qqu fu p l=some (shM p l):=by
 unfold Qqu shM
 rw [Qvl fu p l (by omega) (by omega),Qaa,Jej]
 cases hb:Q0a p l
 · rfl
 · rw [Bool.not_true,cond_false,cond_true]
   have key:=lpI l (λn (o:List Int) i=>Qgw fu p l n o i) (λxs o=>Qab (Qg4 fu (o++xs.map (·.fD))) λx=>Qbs fu p l x fu [] 0) (λxs o=>o.length+xs.length≤1000) (by omega) ?_ ?_ fu [] (by simp; omega) (by omega)
   · rw [key,List.nil_append,Jd8 hfu (by simp; omega),Qaa,List.length_map]
     have hsl:=Qtu (dnk (l.map (·.fD))) l.length
     have hsm:=λx=>Qxd (k:=dnk (l.map (·.fD))) (n:=l.length) (x:=x)
     generalize srt (dnk (l.map (·.fD))) l.length=S at hsl hsm ⊢
     refine lpI S (λn (o:List Shelf) i=>Qbs fu p l S n o i) (λxs o=>some (xs.foldl (shS p l) o)) (λxs o=>(∀ i∈xs,0≤i∧i<l.length)∧(∀ s∈o,ShI p l.length s)∧((o.map (·.fM)).flatten).length+xs.length≤1000∧o.length+xs.length≤1000) (by omega) ?_ ?_ fu [] ⟨λi hi=>(hsm i).1 hi,by simp,by simp; omega,by simp; omega⟩ (by omega)
     · intro n o i x xs hx hd hI ih
       obtain ⟨i1,i2,i3,i4⟩:=hI
       simp only [List.length_cons] at i3 i4
       have hxi:=i1 x (by simp)
       obtain ⟨hbx,b1,b2,b3,b4⟩:=Q45 hb hxi
       obtain ⟨p1,p2,p3,p4⟩:=Qxh (Q20 hb)
       have hflat:((shS p l o x).map (·.fM)).flatten=(o.map (·.fM)).flatten++[x]:=Qrz (λs=>rfl) rfl
       have hlen:(shS p l o x).length≤o.length+1:=Qui _ _ _ _
       have ih':=ih (shS p l o x) ⟨λj hj=>i1 j (by simp [hj]),Q5q hb hxi i2,by rw [hflat,List.length_append,List.length_singleton]; omega,by omega⟩
       simp only [Qbs.eq_2]
       unfold Qnl
       rw [hd,cond_true,hx,Qaa,hbx,Qaa,List.foldl_cons,← ih']
       have hnew:∀ o':List Shelf,o'.length≤1000→Qc9 fu (λo i=>Qbs fu p l S n o i) i x (bxA l x) (o'++[zSh]) ((o'.length:Nat):Int)=Qbs fu p l S n (o'++[Qri zSh x (bxA l x)]) (w64 (i+1)):=λo' ho'=>by
        rw [Jes (s:=zSh) (by simp) (by simp [zSh]) (by simp [zSh]; omega) (by simp [zSh]; omega)]
        simp
       by_cases he:o=[]
       · subst he
         rw [Qao (by decide),ap1 (by simp),Qaa]
         exact hnew [] (by simp)
       · obtain ⟨s,e1,e2⟩:=Qu4 he
         have hp:=List.length_pos_iff.2 he
         have hsm':=List.mem_of_getLast? e1
         have hs:=i2 s hsm'
         have hsl':=Qpt (λs:Shelf=>s.fM) o s hsm'
         have eS:shS p l o x=bif Q74 p (bxA l x) s then o.set (o.length - 1) (Qri s x (bxA l x)) else o++[Qri zSh x (bxA l x)]:=Qvb e1
         have e3:w64 ((o.length:Int) - 1)=((o.length - 1:Nat):Int):=by rw [Qam (by omega) (by omega)]; omega
         have e4:w64 (((o.length - 1:Nat):Int)+1)=((o.length:Nat):Int):=by rw [Qam (by omega) (by omega)]; omega
         have e5:o[o.length - 1]? = some s:=by rw [← List.getLast?_eq_getElem?]; exact e1
         obtain ⟨s1,s2,s3,s4,s5,s6⟩:=hs
         rw [e3,e4,Qaf (by simp),Qh3,e5,Qaa,Qam (n:=s.fW+_) (by omega) (by omega),Qam (n:=s.fQ+_) (by omega) (by omega),ap1 (by simp; omega),Qaa,eS]
         unfold Q74
         have c1:decide (s.fW+(bxA l x).fW>p.fW)=!decide (s.fW+(bxA l x).fW≤p.fW):=by
          by_cases h:s.fW+(bxA l x).fW≤p.fW <;> simp [h] <;> omega
         have c2:decide (s.fQ+(bxA l x).fQ>p.fQ)=!decide (s.fQ+(bxA l x).fQ≤p.fQ):=by
          by_cases h:s.fQ+(bxA l x).fQ≤p.fQ <;> simp [h] <;> omega
         rw [c1,c2,Qaa]
         have h1:=hnew o (by omega)
         have h2:Qc9 fu (λo i=>Qbs fu p l S n o i) i x (bxA l x) o ((o.length - 1:Nat):Int)=Qbs fu p l S n (o.set (o.length - 1) (Qri s x (bxA l x))) (w64 (i+1)):=Jes e5 (by omega) (by omega) (by omega)
         cases decide (s.fW+(bxA l x).fW≤p.fW)
         · exact h1
         · cases decide (s.fQ+(bxA l x).fQ≤p.fQ)
           · exact h1
           · exact h2
     · intro n o i hd _
       simp only [Qbs.eq_2]
       unfold Qnl
       rw [hd,cond_false]; rfl
   · intro n o i x xs hx hd hI ih
     simp only [List.length_cons] at hI
     simp only [Qgw.eq_2]
     unfold Qnm
     rw [hd,cond_true,hx,Qaa,ap1 (by simp; omega),Qaa,ih _ (by simp; omega)]
     simp
   · intro n o i hd _
     simp only [Qgw.eq_2]
     unfold Qnm
     rw [hd,cond_false]; simp
theorem Jd4 {fu:Nat} {k7:List Layer→Int→Option (List Layer)} {i:Int} {b:Shelf} {o:List Layer} {j:Nat} {s:Layer} (hs:o[j]? = some s) (hl:s.fP.length≤1000000)
    (h1:-1000000000≤s.fD+b.fD∧s.fD+b.fD≤1000000000) (h2:-1000000000≤s.fQ+b.fQ∧s.fQ+b.fQ≤1000000000):Qc0 fu k7 i b o (j:Int)=k7 (o.set j (Qtv s i b)) (w64 (i+1)):=by
 unfold Qc0 Qn3
 rw [Qh3,hs,Qaa,ap1 (by simp; omega),Qaa]
 simp only [Qaa,Q3g,List.set_set,Jgu]
 rw [Qam (n:=s.fD+b.fD) (by omega) (by omega),Qam (n:=s.fQ+b.fQ) (by omega) (by omega)]
 rfl
theorem Qxs (fu:Nat) (l:List Shelf) (f:Shelf→Option Bool) (g:Shelf→Bool) (hg:∀ b,f b=some (g b)) (h:l.length≤1048576) (hf:l.length<fu) :
    Qbr fu l f=some (l.any g):=by
 unfold Qbr Qc3
 have key:∀ (m i n:Nat),l.length - i=m→i≤l.length→m<n→∃ r,Qar fu l f n i=some r∧decide (r≥0)=(l.drop i).any g:=by
  intro m
  induction m with
  | zero =>
   intro i n hm hi hn
   obtain ⟨n,rfl⟩:∃ k,n=k+1:=⟨n - 1,by omega⟩
   rw [Qar.eq_2]
   unfold Qcf
   rw [Qaf (by simp; omega),List.drop_eq_nil_of_le (by omega)]
   exact ⟨_,rfl,rfl⟩
  | succ m ih =>
   intro i n hm hi hn
   obtain ⟨n,rfl⟩:∃ k,n=k+1:=⟨n - 1,by omega⟩
   have hlt:i<l.length:=by omega
   rw [Qar.eq_2]
   unfold Qcf
   rw [Qao (by simpa using hlt),Je7 (Jfh (List.getElem?_eq_getElem hlt)),hg,Qaa,List.drop_eq_getElem_cons hlt,List.any_cons]
   cases hgx:g l[i]
   · rw [Qaf rfl,Qam (by omega) (by omega),Bool.false_or]
     have:=ih (i+1) n (by omega) (by omega) (by omega)
     simpa using this
   · rw [Qao rfl]
     exact ⟨_,rfl,by simp⟩
 obtain ⟨r,h1,h2⟩:=key l.length 0 fu (by omega) (by omega) hf
 have h1':Qar fu l f fu 0=some r:=h1
 rw [h1',Qaa,h2]
 rfl
theorem Jmo {fu:Nat} (p:Pallet) (l:List Shelf) (hl:l.length≤1048576) (hf:l.length<fu):Qlx fu p l=some (Qvu p&&l.all λs=>okL p s.fD s.fH s.fQ):=by
 unfold Qlx
 have e:∀ a b c:Int,inB a b c=inb a b c:=λa b c=>Bool.eq_iff_iff.2 (by rw [Q5f,Qcb])
 have ep:Qt9 p=Qvu p:=by unfold Qt9 Qvu; simp only [e]
 rw [Qs3,Qaa,ep,Qxs fu l _ (λs=>!okL p s.fD s.fH s.fQ) (λs=>by
  unfold Qn2 okL
  simp only [Jdo,Qaa,e]
  cases inb s.fD 1 p.fD <;> cases inb s.fH 1 p.fH <;> rfl) hl hf,Qaa]
 cases Qvu p
 · rfl
 · rw [cond_true,Bool.true_and]
   congr 1
   rw [Bool.eq_iff_iff]
   simp
theorem Jdy {fu:Nat} (hfu:2097153≤fu) {p:Pallet} (hp:Qvu p=true) {l:List Shelf} (hb:OkS p l) (hl:l.length≤1000):Qn6 fu p l=some (lyM p l):=by
 unfold Qn6 lyM
 rw [Jmo p l (by omega) (by omega),hp,Jkq hb,Qaa,Bool.and_self,Bool.not_true,cond_false]
 obtain ⟨p1,p2,p3,p4⟩:=Qxh hp
 refine Q8g (l.length:Int) (λn (o:List Layer) i=>Qbt fu p l n o i) (λxs o=>some (xs.foldl (lyS p l) o)) (λxs o=>(∀ s∈o,LyI p l.length s)∧((o.map (·.fP)).flatten).length+xs.length≤1000∧o.length+xs.length≤1000) (by omega) ?_ ?_ l.length fu [] 0 (by omega) (by omega) (by omega) ⟨by simp,by simp [Qbx]; omega,by simp [Qbx]; omega⟩
 · intro n o i xs x0 x1 hd hI ih
   obtain ⟨i2,i3,i4⟩:=hI
   simp only [List.length_cons] at i3 i4
   obtain ⟨hbx,b1,b2,b3,_⟩:=Q4b hb ⟨x0,x1⟩
   have hflat:((lyS p l o i).map (·.fP)).flatten=(o.map (·.fP)).flatten++[i]:=Qrz (λs=>rfl) rfl
   have hlen:(lyS p l o i).length≤o.length+1:=Qui _ _ _ _
   have ih':=ih (lyS p l o i) ⟨Q5k hb ⟨x0,x1⟩ i2,by rw [hflat,List.length_append,List.length_singleton]; omega,by omega⟩
   simp only [Qbt.eq_2]
   unfold Qk5
   rw [hd,cond_true,hbx,Qaa,List.foldl_cons,← ih']
   have hnew:∀ o':List Layer,o'.length≤1000→Qc0 fu (λo i=>Qbt fu p l n o i) i (shA l i) (o'++[zLy]) ((o'.length:Nat):Int)=Qbt fu p l n (o'++[Qtv zLy i (shA l i)]) (w64 (i+1)):=λo' ho'=>by
    rw [Jd4 (s:=zLy) (by simp) (by simp [zLy]) (by simp [zLy]; omega) (by simp [zLy]; omega)]
    simp
   by_cases he:o=[]
   · subst he
     rw [Qao (by decide),ap1 (by simp),Qaa]
     exact hnew [] (by simp)
   · obtain ⟨s,e1,e2⟩:=Qu4 he
     have hp:=List.length_pos_iff.2 he
     have hsm':=List.mem_of_getLast? e1
     have hs:=i2 s hsm'
     have hsl':=Qpt (λs:Layer=>s.fP) o s hsm'
     have eS:lyS p l o i=bif Q79 p (shA l i) s then o.set (o.length - 1) (Qtv s i (shA l i)) else o++[Qtv zLy i (shA l i)]:=Qvb e1
     have e3:w64 ((o.length:Int) - 1)=((o.length - 1:Nat):Int):=by rw [Qam (by omega) (by omega)]; omega
     have e4:w64 (((o.length - 1:Nat):Int)+1)=((o.length:Nat):Int):=by rw [Qam (by omega) (by omega)]; omega
     have e5:o[o.length - 1]? = some s:=by rw [← List.getLast?_eq_getElem?]; exact e1
     obtain ⟨s1,s2,s4,s5,s6⟩:=hs
     rw [e3,e4,Qaf (by simp),Qh3,e5,Qaa,Qam (n:=s.fD+_) (by omega) (by omega),Qam (n:=s.fQ+_) (by omega) (by omega),ap1 (by simp; omega),Qaa,eS]
     unfold Q79
     have c1:decide (s.fD+(shA l i).fD>p.fD)=!decide (s.fD+(shA l i).fD≤p.fD):=by
      by_cases h:s.fD+(shA l i).fD≤p.fD <;> simp [h] <;> omega
     have c2:decide (s.fQ+(shA l i).fQ>p.fQ)=!decide (s.fQ+(shA l i).fQ≤p.fQ):=by
      by_cases h:s.fQ+(shA l i).fQ≤p.fQ <;> simp [h] <;> omega
     rw [c1,c2,Qaa]
     have h1:=hnew o (by omega)
     have h2:Qc0 fu (λo i=>Qbt fu p l n o i) i (shA l i) o ((o.length - 1:Nat):Int)=Qbt fu p l n (o.set (o.length - 1) (Qtv s i (shA l i))) (w64 (i+1)):=Jd4 e5 (by omega) (by omega) (by omega)
     cases decide (s.fD+(shA l i).fD≤p.fD)
     · exact h1
     · cases decide (s.fQ+(shA l i).fQ≤p.fQ)
       · exact h1
       · exact h2
 · intro n o i hd _
   simp only [Qbt.eq_2]
   unfold Qk5
   rw [hd,cond_false]; rfl
def zSp:Spot:=⟨0,0,0,0⟩
def ldA (l:List Load) (i:Int):Load:=(ix l i).getD zLd
def spB (l:List Box) (o y z:Int) (is:List Int) (s:List Spot×Int):List Spot×Int:=is.foldl (λs b=>(Qi0 s.1 b ⟨o,s.2,y,z⟩,s.2+(bxA l b).fW)) s
def spS (l:List Box) (sh:List Shelf) (o z:Int) (js:List Int) (s:List Spot×Int):List Spot×Int:=js.foldl (λs j=>((spB l o s.2 z (shA sh j).fM (s.1,0)).1,s.2+(shA sh j).fD)) s
def spY (l:List Box) (sh:List Shelf) (ly:List Layer) (o:Int) (is:List Int) (s:List Spot×Int):List Spot×Int:=is.foldl (λs i=>((spS l sh o s.2 (lyA ly i).fP (s.1,0)).1,s.2+(lyA ly i).fH)) s
def spO (l:List Box) (sh:List Shelf) (ly:List Layer) (ld:List Load) (os:List Int) (out:List Spot):List Spot:=os.foldl (λout o=>(spY l sh ly o (ldA ld o).fL (out,0)).1) out
def spM (p:Pallet) (l:List Box):List Spot:=bif Q0a p l then spO l (shM p l) (lyM p (shM p l)) (ldM p (lyM p (shM p l))) (Qjw 0 (ldM p (lyM p (shM p l))).length) (List.replicate l.length zSp) else []
theorem Qy9 {α:Type} (l:List α) (i:Int) (y:α):(Qi0 l i y).length=l.length:=by simp [Qi0]
theorem Q3i (l:List Box) (o y z:Int):∀ (is:List Int) (s:List Spot×Int),(spB l o y z is s).1.length=s.1.length
 | [],_=>rfl
 | i::is,s=>by
  have:=Q3i l o y z is (Qi0 s.1 i ⟨o,s.2,y,z⟩,s.2+(bxA l i).fW)
  rw [Qy9] at this
  exact this
theorem Q15 (l:List Box) (sh:List Shelf) (o z:Int):∀ (is:List Int) (s:List Spot×Int),(spS l sh o z is s).1.length=s.1.length
 | [],_=>rfl
 | i::is,s=>by
  have:=Q15 l sh o z is ((spB l o s.2 z (shA sh i).fM (s.1,0)).1,s.2+(shA sh i).fD)
  rw [Q3i] at this
  exact this
theorem Q18 (l:List Box) (sh:List Shelf) (ly:List Layer) (o:Int):∀ (is:List Int) (s:List Spot×Int),(spY l sh ly o is s).1.length=s.1.length
 | [],_=>rfl
 | i::is,s=>by
  have:=Q18 l sh ly o is ((spS l sh o s.2 (lyA ly i).fP (s.1,0)).1,s.2+(lyA ly i).fH)
  rw [Q15] at this
  exact this
theorem Jbw (l:List Box) (sh:List Shelf) (ly:List Layer) (ld:List Load):∀ (os:List Int) (out:List Spot),(spO l sh ly ld os out).length=out.length
 | [],_=>rfl
 | o::os,out=>by
  have:=Jbw l sh ly ld os (spY l sh ly o (ldA ld o).fL (out,0)).1
  rw [Q18] at this
  exact this
theorem Q5m {p:Pallet} {l:List Box} (h:Q0a p l=true):(spM p l).length=l.length:=by
 unfold spM
 rw [h,cond_true,Jbw,List.length_replicate]
theorem Q8x {p:Pallet} {l:List Box} (h:Q0a p l=true):OkS p (shM p l):=λs hs=>by
 have:=(Q23 h).1 s hs
 exact ⟨this.d,this.h,this.g⟩
theorem Q87 {p:Pallet} {l:List Shelf} (h:OkS p l):OkY p (lyM p l):=λs hs=>by
 have:=(Q3b h).1 s hs
 exact ⟨this.d,this.h,this.g⟩
theorem Jg1 {fu:Nat} (hfu:2097153≤fu) (p:Pallet) (l:List Box) (hl:l.length≤1000):Qla fu p l=some (spM p l):=by
 unfold Qla spM
 rw [Ja4 (by omega),Qaa,Jjc p l (by omega) (by omega),Qaa]
 cases hb:Q0a p l
 · rfl
 · obtain ⟨a1,a2,a3⟩:=Q23 hb
   have hS:=Q8x hb
   obtain ⟨y1,y2,y3⟩:=Q3b hS
   have hY:=Q87 hS
   obtain ⟨d1,d2,d3⟩:=Q5b hY
   have hpb:=Q20 hb
   obtain ⟨q1,q2,q3,q4⟩:=Qxh hpb
   rw [Bool.not_true,cond_false,cond_true,Jbc hfu p l hl,Qaa,Jcx hfu hpb hS (by omega),Qaa,Jf0 hfu hpb hY (by omega),Qaa]
   have f1:∀ s∈shM p l,s.fM.length≤1000:=λs hs=>by
    have:=Qpt (λs:Shelf=>s.fM) _ s hs
    rw [a2,Qtu] at this; omega
   have f2:∀ s∈lyM p (shM p l),s.fP.length≤1000:=λs hs=>by
    have:=Qpt (λs:Layer=>s.fP) _ s hs
    rw [y2,Qbx] at this; omega
   have f3:∀ s∈ldM p (lyM p (shM p l)),s.fL.length≤1000:=λs hs=>by
    have:=Qpt (λs:Load=>s.fL) _ s hs
    rw [d2,Qbx] at this; omega
   generalize ldM p (lyM p (shM p l))=ld at d1 d3 f3 ⊢
   generalize lyM p (shM p l)=ly at y1 y3 hY d1 d3 f2 ⊢
   generalize shM p l=sh at a1 a3 hS y1 y3 f1 ⊢
   have L4:=Q8g (ld.length:Int) (λn (out:List Spot) o=>Qbh fu l sh ly ld n out o) (λos out=>some (spO l sh ly ld os out)) (λos out=>out.length=l.length) (by omega) ?_ ?_ ld.length fu (List.replicate l.length zSp) 0 (by omega) (by omega) (by omega) (by simp)
   · exact L4
   · intro n out o os o0 o1 hd hI ih
     obtain ⟨x,hx⟩:=Q5w (l:=ld) o0 o1
     have ex:ldA ld o=x:=by unfold ldA; rw [hx]; rfl
     have hxm:=d1 x (Qi2 hx)
     have hxl:=f3 x (Qi2 hx)
     simp only [Qbh.eq_2]
     unfold Qm6
     rw [hd,cond_true]
     have L3:=lpI x.fL (λm (s:List Spot×Int) i=>Qb3 fu (Qbh fu l sh ly ld n) l sh ly ld o m s.1 s.2 i) (λis s=>Qbh fu l sh ly ld n (spY l sh ly o is s).1 (w64 (o+1))) (λis s=>s.1.length=l.length∧(∀ i∈is,0≤i∧i<ly.length)∧0≤s.2∧s.2+2000*is.length≤2000000) (by omega) ?_ ?_ fu (out,0) ⟨hI,hxm.inn,by simp,by simp; omega⟩ (by omega)
     · refine L3.trans ?_
       rw [ih _ (by rw [Q18]; exact hI)]
       simp only [spO,List.foldl_cons,ex]
     · intro m ⟨out,z⟩ i j is hj hd hI ih
       obtain ⟨i1,i2,i3,i4⟩:out.length=l.length∧(∀ i∈j::is,0≤i∧i<ly.length)∧0≤z∧z+2000*((j::is).length:Int)≤2000000:=hI
       simp only [List.length_cons] at i4
       obtain ⟨hly,t1,t2,t3,hmem⟩:=Q4o hY (i2 j (by simp))
       have hyi:=y1 _ hmem
       have hyl:=f2 _ hmem
       simp only [Qb3.eq_2]
       unfold Qm1
       rw [hx,Qaa,hd,cond_true,Qaa,hj,Qaa,hly,Qaa]
       have L2:=lpI (lyA ly j).fP (λq (s:List Spot×Int) k=>Qde fu (Qb3 fu (Qbh fu l sh ly ld n) l sh ly ld o m) l sh o z i (lyA ly j) q s.1 s.2 k) (λks s=>Qb3 fu (Qbh fu l sh ly ld n) l sh ly ld o m (spS l sh o z ks s).1 (w64 (z+(lyA ly j).fH)) (w64 (i+1))) (λks s=>s.1.length=l.length∧(∀ i∈ks,0≤i∧i<sh.length)∧0≤s.2∧s.2+2000*ks.length≤2000000) (by omega) ?_ ?_ fu (out,0) ⟨i1,hyi.inn,by simp,by simp; omega⟩ (by omega)
       · refine L2.trans ?_
         rw [Qam (n:=z+_) (by omega) (by omega)]
         exact ih ((spS l sh o z (lyA ly j).fP (out,0)).1,z+(lyA ly j).fH) ⟨by rw [Q15]; exact i1,λi hi=>i2 i (by simp [hi]),by simp; omega,by simp; omega⟩
       · intro q ⟨out,y⟩ k b ks hb2 hd hI ih
         obtain ⟨i1,i2,i3,i4⟩:out.length=l.length∧(∀ i∈b::ks,0≤i∧i<sh.length)∧0≤y∧y+2000*((b::ks).length:Int)≤2000000:=hI
         simp only [List.length_cons] at i4
         obtain ⟨hsh,u1,u2,u3,hmem2⟩:=Q4b hS (i2 b (by simp))
         have hsi:=a1 _ hmem2
         have hsl:=f1 _ hmem2
         simp only [Qde.eq_2]
         unfold Qna
         rw [hd,cond_true,hb2,Qaa,hsh,Qaa]
         have L1:=lpI (shA sh b).fM (λq' (s:List Spot×Int) k'=>Qgt fu (Qde fu (Qb3 fu (Qbh fu l sh ly ld n) l sh ly ld o m) l sh o z i (lyA ly j) q) l o z y k (shA sh b) q' s.1 s.2 k') (λbs s=>Qde fu (Qb3 fu (Qbh fu l sh ly ld n) l sh ly ld o m) l sh o z i (lyA ly j) q (spB l o y z bs s).1 (w64 (y+(shA sh b).fD)) (w64 (k+1))) (λbs s=>s.1.length=l.length∧(∀ i∈bs,0≤i∧i<l.length)∧0≤s.2∧s.2+2000*bs.length≤2000000) (by omega) ?_ ?_ fu (out,0) ⟨i1,hsi.inn,by simp,by simp; omega⟩ (by omega)
         · refine L1.trans ?_
           rw [Qam (n:=y+_) (by omega) (by omega)]
           exact ih ((spB l o y z (shA sh b).fM (out,0)).1,y+(shA sh b).fD) ⟨by rw [Q3i]; exact i1,λi hi=>i2 i (by simp [hi]),by simp; omega,by simp; omega⟩
         · intro q' ⟨out,x'⟩ k' c bs hc hd hI ih
           obtain ⟨i1,i2,i3,i4⟩:out.length=l.length∧(∀ i∈c::bs,0≤i∧i<l.length)∧0≤x'∧x'+2000*((c::bs).length:Int)≤2000000:=hI
           simp only [List.length_cons] at i4
           have hcr:=i2 c (by simp)
           obtain ⟨hbx,v1,v2,v3,v4⟩:=Q45 hb hcr
           obtain ⟨sp,hsp⟩:=Q5w (l:=out) hcr.1 (by omega)
           simp only [Qgt.eq_2]
           unfold Qmn
           rw [hd,cond_true,hc,Qaa,hsp,Qaa,Qaa,hbx,Qaa,Qam (n:=x'+_) (by omega) (by omega)]
           exact ih (Qi0 out c ⟨o,x',y,z⟩,x'+(bxA l c).fW) ⟨by rw [Qy9]; exact i1,λi hi=>i2 i (by simp [hi]),by simp; omega,by simp; omega⟩
         · intro q' ⟨out,x'⟩ k' hd _
           simp only [Qgt.eq_2]
           unfold Qmn
           rw [hd,cond_false]; rfl
       · intro q ⟨out,y⟩ k hd _
         simp only [Qde.eq_2]
         unfold Qna
         rw [hd,cond_false]; rfl
     · intro m ⟨out,z⟩ i hd _
       simp only [Qb3.eq_2]
       unfold Qm1
       rw [hx,Qaa,hd,cond_false]; rfl
   · intro n out o hd _
     simp only [Qbh.eq_2]
     unfold Qm6
     rw [hd,cond_false]; rfl
def Jb6 (n:Int) (out:List Spot):Prop:=∀ s∈out,0≤s.fJ∧s.fJ≤n
theorem Jc1 {n:Int} {out:List Spot} {i:Int} {s:Spot} (h:Jb6 n out) (hs:0≤s.fJ∧s.fJ≤n):Jb6 n (Qi0 out i s):=by
 intro t ht
 unfold Qi0 at ht
 rcases List.mem_or_eq_of_mem_set ht with ht | rfl
 · exact h t ht
 · exact hs
theorem Q9q {n:Int} (l:List Box) (o y z:Int) (ho:0≤o∧o≤n):∀ (is:List Int) (s:List Spot×Int),Jb6 n s.1→Jb6 n (spB l o y z is s).1
 | [],_,h=>h
 | i::is,s,h=>Q9q l o y z ho is (Qi0 s.1 i ⟨o,s.2,y,z⟩,s.2+(bxA l i).fW) (Jc1 h ho)
theorem Jam {n:Int} (l:List Box) (sh:List Shelf) (o z:Int) (ho:0≤o∧o≤n):∀ (is:List Int) (s:List Spot×Int),Jb6 n s.1→Jb6 n (spS l sh o z is s).1
 | [],_,h=>h
 | i::is,s,h=>Jam l sh o z ho is ((spB l o s.2 z (shA sh i).fM (s.1,0)).1,s.2+(shA sh i).fD) (Q9q l o s.2 z ho _ (s.1,0) h)
theorem Jbb {n:Int} (l:List Box) (sh:List Shelf) (ly:List Layer) (o:Int) (ho:0≤o∧o≤n):∀ (is:List Int) (s:List Spot×Int),Jb6 n s.1→Jb6 n (spY l sh ly o is s).1
 | [],_,h=>h
 | i::is,s,h=>Jbb l sh ly o ho is ((spS l sh o s.2 (lyA ly i).fP (s.1,0)).1,s.2+(lyA ly i).fH) (Jam l sh o s.2 ho _ (s.1,0) h)
theorem Jb5 {n:Int} (l:List Box) (sh:List Shelf) (ly:List Layer) (ld:List Load):∀ (os:List Int) (out:List Spot),(∀ o∈os,0≤o∧o≤n)→Jb6 n out→Jb6 n (spO l sh ly ld os out)
 | [],_,_,h=>h
 | o::os,out,ho,h=>Jb5 l sh ly ld os (spY l sh ly o (ldA ld o).fL (out,0)).1 (λq hq=>ho q (by simp [hq])) (Jbb l sh ly o (ho o (by simp)) _ (out,0) h)
theorem Jem {p:Pallet} {l:List Box} (hl:l.length≤1000):∀ s∈spM p l,0≤s.fJ∧s.fJ≤1000:=by
 unfold spM
 cases hb:Q0a p l
 · simp
 · have a3:=(Q23 hb).2.2
   have hS:=Q8x hb
   have y3:=(Q3b hS).2.2
   have d3:=(Q5b (Q87 hS)).2.2
   rw [cond_true]
   refine Jb5 l _ _ _ _ _ (λo ho=>?_) λs hs=>?_
   · have:=Qhn.1 ho; omega
   · rw [(List.mem_replicate.1 hs).2]; simp [zSp]
def Jnv (r:Request) (k:Int):Bool:=inb k 0 (((Qju r).length:Int) - 1)
theorem Q1p {r:Request} {k:Int} (h:Jnv r k=true):Qhg r=0:=by
 unfold Jnv at h
 rw [Qcb] at h
 by_cases hc:Qhg r=0
 · exact hc
 · have:Qju r=[]:=by
     unfold Qju Q4p
     rw [show (Qhg r==0)=false by simp [hc]]
     rfl
   rw [this] at h
   simp at h
   omega
theorem Q6i (r:Request) (g:List Int) (u i:Int) (us:List Int) {x:Item} (hx:ix r.fV i=some x):ofG r g u (i::us)=bif g.contains x.fK then u::ofG r g (u+1) us else ofG r g (u+1) us:=by
 rw [ofG,hx]
theorem Jl1 {fu:Nat} {r:Request} (h:Sm fu r) (k:Int):Qql fu r k=some (Q5i r k):=by
 have hfu:=h.fu
 unfold Qql Q5i
 rw [Jhn h,Qaa,Jaa,Q0b,Qaa]
 cases hg:inb k 0 (((Qju r).length:Int) - 1)
 · rw [Bool.not_false,cond_true]
   have:ix (Qju r) k=none:=by
    have hk:¬ (0≤k∧k≤((Qju r).length:Int) - 1):=by intro hk; rw [(Qcb).2 hk] at hg; cases hg
    unfold ix
    by_cases h0:0≤k
    · rw [if_pos h0,List.getElem?_eq_none (by omega)]
    · rw [if_neg h0]
   rw [this]
 · have hc:=Q1p hg
   rw [Qcb] at hg
   obtain ⟨j,rfl⟩:∃ j:Nat,k=j:=⟨k.toNat,by omega⟩
   have hj:j<(Qju r).length:=by omega
   have hgl:=(Quw r).2 _ (List.getElem_mem hj)
   rw [Bool.not_true,cond_false,Jl6 h (Qfn hc).1,Qaa,Qz2 hj]
   have e:Qi6 r=l6M r:=by unfold Qi6; rw [show (Qhg r==0)=true by simp [hc],cond_true]
   simp only [e]
   have hlen:(l6M r).length≤12:=Jbe (Qfn hc).1
   have:=Jei (l6M r) (λn out i=>Qff fu r (j:Int) (Qju r) (l6M r) n out i) (λpre xs out=>some (out++ofG r (Qju r)[j] (pre.length:Int) xs)) (λpre xs out=>out.length+xs.length≤12) (by omega) ?_ ?_ fu [] (by simpa using hlen) (by omega)
   · simpa using this
   · intro n out pre i xs hl hx hd hI ih
     simp only [List.length_cons] at hI
     have hi:i∈Qi6 r:=by rw [e,hl]; simp
     have hi2:=Q29 hi
     obtain ⟨q,rfl⟩:∃ q:Nat,i=q:=⟨i.toNat,by omega⟩
     have hq:q<r.fV.length:=by omega
     simp only [Qff.eq_2]
     unfold Qni Qkg
     simp only [hd,cond_true,hx,Qaa,Qz2 hj,Qz2 hq,Jkm (show (Qju r)[j].length≤1048576 by omega) (show (Qju r)[j].length<fu by omega)]
     rw [Q6i r _ _ _ _ (Qz2 hq)]
     cases (Qju r)[j].contains r.fV[q].fK
     · rw [cond_false,cond_false,ih _ (by omega)]
       simp
     · rw [cond_true,cond_true,ap1 (by simp; omega),Qaa,ih _ (by simp; omega)]
       simp
   · intro n out hd hI
     simp only [Qff.eq_2]
     unfold Qni
     simp only [hd,cond_false]
     simp [ofG]
theorem Jmy {fu:Nat} {r:Request} (h:Sm fu r) (k:Int):Qqn fu r k=some (Q5i r k):=by
 have hfu:=h.fu
 unfold Qqn Q5i
 rw [Jf1 h,Qaa,Jaa,Q1u,Qaa]
 cases hg:inb k 0 (((Qju r).length:Int) - 1)
 · rw [Bool.not_false,cond_true]
   have:ix (Qju r) k=none:=by
    have hk:¬ (0≤k∧k≤((Qju r).length:Int) - 1):=by intro hk; rw [(Qcb).2 hk] at hg; cases hg
    unfold ix
    by_cases h0:0≤k
    · rw [if_pos h0,List.getElem?_eq_none (by omega)]
    · rw [if_neg h0]
   rw [this]
 · have hc:=Q1p hg
   rw [Qcb] at hg
   obtain ⟨j,rfl⟩:∃ j:Nat,k=j:=⟨k.toNat,by omega⟩
   have hj:j<(Qju r).length:=by omega
   have hgl:=(Quw r).2 _ (List.getElem_mem hj)
   rw [Bool.not_true,cond_false,Jfo h,Qaa,Qz2 hj]
   have hlen:=Q3u r
   have:=Jei (Qi6 r) (λn out i=>Qe4 fu r (j:Int) (Qju r) (Qi6 r) n out i) (λpre xs out=>some (out++ofG r (Qju r)[j] (pre.length:Int) xs)) (λpre xs out=>out.length+xs.length≤12) (by omega) ?_ ?_ fu [] (by simpa using hlen) (by omega)
   · simpa using this
   · intro n out pre i xs hl hx hd hI ih
     simp only [List.length_cons] at hI
     have hi:i∈Qi6 r:=by rw [hl]; simp
     have hi2:=Q29 hi
     obtain ⟨q,rfl⟩:∃ q:Nat,i=q:=⟨i.toNat,by omega⟩
     have hq:q<r.fV.length:=by omega
     simp only [Qe4.eq_2]
     unfold Qmq Qkd
     simp only [hd,cond_true,hx,Qaa,Qz2 hj,Qz2 hq,Jlu (show (Qju r)[j].length≤1048576 by omega) (show (Qju r)[j].length<fu by omega)]
     rw [Q6i r _ _ _ _ (Qz2 hq)]
     cases (Qju r)[j].contains r.fV[q].fK
     · rw [cond_false,cond_false,ih _ (by omega)]
       simp
     · rw [cond_true,cond_true,ap1 (by simp; omega),Qaa,ih _ (by simp; omega)]
       simp
   · intro n out hd hI
     simp only [Qe4.eq_2]
     unfold Qmq
     simp only [hd,cond_false]
     simp [ofG]
def Jia (l:List Int):List Int:=l.mergeSort λx y=>decide (x≤y)
theorem Qzz (l:List Int):(Jia l).Perm l:=List.mergeSort_perm l _
theorem Jcv (l:List Int):(Jia l).length=l.length:=(Qzz l).length_eq
def Q8z (r:Request) (k:Int) (l:List Int):Carton:=⟨(Q11 r l).1.ft,k,Jia l⟩
def Q7a (r:Request) (k:Int):List Carton:=(pwM r (Q5i r k)).map (Q8z r k)
def Q3s (r:Request):List Int→List Carton
 | []=>[]
 | k::ks=>Q7a r k++Q3s r ks
def Qvz (r:Request):List Carton:=Q3s r (Qjw 0 (Qju r).length)
theorem Jan (l:List Int):(Qjw 0 l.length).map (λp=>(ix l p).getD 0)=l:=by
 have key:∀ (xs pre:List Int),l=pre++xs→(Qjw pre.length xs.length).map (λp=>(ix l p).getD 0)=xs:=by
  intro xs
  induction xs with
  | nil=>intro pre _; rfl
  | cons x xs ih =>
   intro pre he
   have h1:=ih (pre++[x]) (by simp [he])
   simp only [List.length_append,List.length_singleton] at h1
   simp only [List.length_cons,Qjw,List.map_cons]
   rw [show ((pre.length:Int)+1)=((pre.length+1:Nat):Int) by omega,h1]
   congr 1
   rw [Qh3,he]
   simp
 exact key l [] rfl
theorem Jgd (l:List Int):(srt (kf l) l.length).map (λp=>(ix l p).getD 0)=Jia l:=by
 refine Jfk ?_ ?_ (Qu3 l)
 · refine ((Qvd _ _).map _).trans ?_
   rw [Jan]
   exact (Qzz l).symm
 · refine List.pairwise_map.2 ((Qwy (kf l) l.length).imp fun {p q} h=>?_)
   unfold lx kf at h
   omega
theorem Q7p {r:Request} (k:Int):(Q7a r k).length≤12:=by
 have:=(Q7x (r:=r) (Qye r k)).1
 simp [Q7a]; omega
theorem Jmb {fu:Nat} {r:Request} (h:Sm fu r):Qlp fu r=some (Qvz r):=by
 have hfu:=h.fu
 have hg:=(Quw r).1
 unfold Qlp Qvz
 rw [Jf1 h,Qaa]
 have:=Q8g ((Qju r).length:Int) (λn out i=>Qcp fu r (Qju r) n out i) (λxs out=>some (out++Q3s r xs)) (λxs out=>out.length+12*xs.length≤48) (by omega) ?_ ?_ (Qju r).length fu [] 0 (by omega) (by omega) (by omega) (by simp [Qbx]; omega)
 · simpa using this
 · intro n out k ks h0 h1 hd hI ih
   simp only [List.length_cons] at hI
   have hul:=Qye r k
   have hpo:=Q7x (r:=r) hul
   simp only [Qcp.eq_2]
   unfold Qjs
   rw [hd,cond_true,Jmy h,Qaa,Jm9 h _ (by omega),Qaa]
   have key:=lpI (pwM r (Q5i r k)) (λm o i=>Qfd fu (Qcp fu r (Qju r) n) r k (pwM r (Q5i r k)) m o i) (λxs o=>Qcp fu r (Qju r) n (o++xs.map (Q8z r k)) (w64 (k+1))) (λxs o=>o.length+xs.length≤48∧∀ l∈xs,l.length≤12) (by have:=hpo.1; omega) ?_ ?_ fu out ⟨by have:=hpo.1; omega,hpo.2⟩ (by have:=hpo.1; omega)
   · rw [key,ih _ (by have:=hpo.1; simp; omega)]
     simp [Q3s,Q7a]
   · intro m o i l xs hx hd hI ih
     obtain ⟨h2,h3⟩:=hI
     simp only [List.length_cons] at h2
     have hl:=h3 l (by simp)
     simp only [Qfd.eq_2]
     unfold Qjk
     rw [hd,cond_true,hx,Qaa,Jg5 h l (by omega),Qaa,show Qcl fu l=some (Jia l) from Q8f (by omega),Qaa,ap1 (by simp; omega),Qaa,ih _ ⟨by simp; omega,λy hy=>h3 y (by simp [hy])⟩]
     simp [Q8z]
   · intro m o i hd _
     simp only [Qfd.eq_2]
     unfold Qjk
     rw [hd,cond_false]; simp
 · intro n out k hd _
   simp only [Qcp.eq_2]
   unfold Qjs
   rw [hd,cond_false]; simp [Q3s]
theorem Jmz {fu:Nat} {r:Request} (h:Sm fu r):Qlv fu r=some (Qvz r):=by
 have hfu:=h.fu
 have hg:=(Quw r).1
 unfold Qlv Qvz
 rw [Jhn h,Qaa]
 have:=Q8g ((Qju r).length:Int) (λn out i=>Qa7 fu r (Qju r) n out i) (λxs out=>some (out++Q3s r xs)) (λxs out=>out.length+12*xs.length≤48) (by omega) ?_ ?_ (Qju r).length fu [] 0 (by omega) (by omega) (by omega) (by simp [Qbx]; omega)
 · simpa using this
 · intro n out k ks h0 h1 hd hI ih
   simp only [List.length_cons] at hI
   have hul:=Qye r k
   have hpo:=Q7x (r:=r) hul
   simp only [Qa7.eq_2]
   unfold Qjg
   rw [hd,cond_true,Jl1 h,Qaa,Jlv h _ (by omega),Qaa]
   have key:=lpI (pwM r (Q5i r k)) (λm o i=>Qbu fu (Qa7 fu r (Qju r) n) r k (pwM r (Q5i r k)) m o i) (λxs o=>Qa7 fu r (Qju r) n (o++xs.map (Q8z r k)) (w64 (k+1))) (λxs o=>o.length+xs.length≤48∧∀ l∈xs,l.length≤12) (by have:=hpo.1; omega) ?_ ?_ fu out ⟨by have:=hpo.1; omega,hpo.2⟩ (by have:=hpo.1; omega)
   · rw [key,ih _ (by have:=hpo.1; simp; omega)]
     simp [Q3s,Q7a]
   · intro m o i l xs hx hd hI ih
     obtain ⟨h2,h3⟩:=hI
     simp only [List.length_cons] at h2
     have hl:=h3 l (by simp)
     simp only [Qbu.eq_2]
     unfold Qjc Qmc
     rw [hd,cond_true,hx,Qaa,Jfa h l (by omega),Qaa,Qaa,Jn3 hfu (by omega),Qaa]
     have hsl:=Qtu (kf l) l.length
     have hsm:=λx=>Qxd (k:=kf l) (n:=l.length) (x:=x)
     have hsg:=Jgd l
     generalize srt (kf l) l.length=S at hsl hsm hsg ⊢
     have k1:=lpI S (λm' us j=>Qfe fu (Qbu fu (Qa7 fu r (Qju r) n) r k (pwM r (Q5i r k)) m) k (pwM r (Q5i r k)) o i (Q11 r l).1 S m' us j)
      (λxs us=>Qab (Qc7 40 o [(⟨(Q11 r l).1.ft,k,us++xs.map λp=>(ix l p).getD 0⟩:Carton)]) λx=>Qig fu (Qbu fu (Qa7 fu r (Qju r) n) r k (pwM r (Q5i r k)) m) i x) (λxs us=>us.length+xs.length≤12∧∀ p∈xs,0≤p∧p<l.length) (by omega) ?_ ?_ fu [] ⟨by simp; omega,λp hp=>(hsm p).1 hp⟩ (by omega)
     · rw [k1,List.nil_append,hsg,ap1 (by simp; omega),Qaa]
       unfold Qig
       rw [ih _ ⟨by simp; omega,λy hy=>h3 y (by simp [hy])⟩]
       simp [Q8z]
     · intro m' us j p ps hp hd hI ih
       obtain ⟨h4,h5⟩:=hI
       simp only [List.length_cons] at h4
       simp only [Qfe.eq_2]
       unfold Qi8
       rw [hd,cond_true,hx,Qaa,hp,Qaa,Q9f (h5 p (by simp)),Qaa,ap1 (by simp; omega),Qaa,ih _ ⟨by simp; omega,λy hy=>h5 y (by simp [hy])⟩]
       simp
     · intro m' us j hd _
       simp only [Qfe.eq_2]
       unfold Qi8
       rw [hd,cond_false]; simp
   · intro m o i hd _
     simp only [Qbu.eq_2]
     unfold Qjc Qmi
     rw [hd,cond_false]; simp
 · intro n out k hd _
   simp only [Qa7.eq_2]
   unfold Qjg
   rw [hd,cond_false]; simp [Q3s]
theorem Q6r (r:Request):∀ (ks:List Int),(Q3s r ks).length≤12*ks.length
 | []=>by simp [Q3s]
 | k::ks=>by
  have:=Q6r r ks
  have:=Q7p (r:=r) k
  simp [Q3s]; omega
theorem Qyk (r:Request):(Qvz r).length≤48:=by
 have:=Q6r r (Qjw 0 (Qju r).length)
 have hg:=(Quw r).1
 rw [Qbx] at this
 unfold Qvz
 omega
theorem Q7w {r:Request} {c:Carton}:∀ {ks:List Int},c∈Q3s r ks↔∃ k∈ks,∃ l∈pwM r (Q5i r k),c=Q8z r k l
 | []=>by simp [Q3s]
 | k::ks=>by
  simp only [Q3s,List.mem_append,Q7w (ks:=ks),List.mem_cons,Q7a,List.mem_map]
  constructor
  · rintro (⟨l,hl,rfl⟩ | ⟨k',hk,l,hl,e⟩)
    · exact ⟨k,.inl rfl,l,hl,rfl⟩
    · exact ⟨k',.inr hk,l,hl,e⟩
  · rintro ⟨k',rfl | hk,l,hl,rfl⟩
    · exact .inl ⟨l,hl,rfl⟩
    · exact .inr ⟨k',hk,l,hl,rfl⟩
theorem Qyy {r:Request} {c:Carton} (h:c∈Qvz r):c.fO.length≤12:=by
 obtain ⟨k,_,l,hl,rfl⟩:=Q7w.1 h
 have:=(Q7x (r:=r) (Qye r k)).2 l hl
 simp only [Q8z,Jcv]
 omega
def Jh9:List Int→Int
 | []=>1
 | x::xs=>x*Jh9 xs
theorem Jcs {a b:List Int} (h:a.Perm b):Jh9 a=Jh9 b:=by
 induction h with
 | nil=>rfl
 | cons x _ ih=>simp only [Jh9,ih]
 | swap x y l=>simp only [Jh9,← Int.mul_assoc]; rw [Int.mul_comm x y]
 | trans _ _ h1 h2=>rw [h1,h2]
theorem Q9z (a b c:Int):(sid a b c).1*((sid a b c).2.1*(sid a b c).2.2)=a*b*c:=by
 have h:=Jaw a b c
 unfold Q2n at h
 simp only [List.length_cons,List.length_nil] at h
 rw [if_pos (by omega)] at h
 have hp:=List.mergeSort_perm [a,b,c] λx y=>decide (x≤y)
 rw [Option.some.inj h] at hp
 have:=Jcs hp
 simp only [Jh9,Int.mul_one] at this
 rw [this,Int.mul_assoc]
theorem Jjl {a b c m:Int} (ha:m≤a) (hb:m≤b) (hc:m≤c):m≤(sid a b c).1:=by
 unfold sid
 simp only
 split <;> split <;> omega
theorem Jfs {x:Item} {t:Typ} (hx:Qx0 x=true) (ht:Q2w t=true) (h:Q1c x t=true):Jbg x≤Jcd t∧x.fQ≤t.fQ:=by
 simp only [Qx0,Bool.and_eq_true,Qcb] at hx
 simp only [Q2w,Bool.and_eq_true,Qcb] at ht
 simp only [Q1c,Bool.and_eq_true,decide_eq_true_eq] at h
 obtain ⟨⟨⟨h1,h2⟩,h3⟩,h4⟩:=h
 refine ⟨?_,h4⟩
 have e1:Jbg x=x.fW*x.fH*x.fD:=by
  unfold Jbg Q72
  rw [show (inb x.fW 0 2000&&(inb x.fH 0 2000&&inb x.fD 0 2000))=true by simp; omega,cond_true]
 have e2:Jcd t=t.fW*t.fH*t.fD:=by
  unfold Jcd Q72
  rw [show (inb t.fW 0 2000&&(inb t.fH 0 2000&&inb t.fD 0 2000))=true by simp; omega,cond_true]
 rw [e1,e2,← Q9z x.fW x.fH x.fD,← Q9z t.fW t.fH t.fD]
 have p1:1≤(sid x.fW x.fH x.fD).1:=Jjl (by omega) (by omega) (by omega)
 have s1:=Q1r x.fW x.fH x.fD
 have s2:=Q1r t.fW t.fH t.fD
 refine Int.mul_le_mul h1 ?_ (Int.mul_nonneg (by omega) (by omega)) (by omega)
 exact Int.mul_le_mul h2 h3 (by omega) (by omega)
theorem Q2d {r:Request} {u:Int} (h:0≤u∧u<(Qi6 r).length):Qwm r u∈r.fV:=(Q86 (Qwr h)).2
theorem Q7j {r:Request} {u:Int} (h:0≤u∧u<(Qi6 r).length):Qhg r=0:=(Q86 (Qwr h)).1
theorem Ja3 {r:Request} (hc:Qhg r=0):Qt1 r r.fT=some (Qxp r)∧Qxp r∈r.fU∧Q2w (Qxp r)=true:=by
 have h:=(Qfn hc).2.1
 unfold Jae at h
 simp only [Bool.and_eq_true] at h
 obtain ⟨t,ht⟩:=Option.isSome_iff_exists.1 h.1.2
 have e:Qxp r=t:=by unfold Qxp; rw [ht]; rfl
 have hm:t∈r.fU:=List.mem_of_find?_eq_some ht
 rw [e]
 exact ⟨ht,hm,Qy8 (Qfn hc).1 t hm⟩
theorem Q9u {r:Request} {u:Int} (h:0≤u∧u<(Qi6 r).length):Qxk r [u]=Jbg (Qwm r u)∧Qwj r [u]=(Qwm r u).fQ:=by
 unfold Qxk Qwj Qxn
 simp [List.filterMap_cons,Qwr h]
theorem Q9w {r:Request} {u:Int} (h:0≤u∧u<(Qi6 r).length):Q4h r [u] (Qxp r)=true:=by
 have hc:=Q7j h
 have hz:=Qfn hc
 have hm:=Q2d h
 obtain ⟨h1,h2⟩:=Jfs ((Qsz hz.1).1 _ hm) (Ja3 hc).2.2 (hz.2.2.2.1 _ hm)
 unfold Q4h
 rw [(Q9u h).1,(Q9u h).2,Bool.and_eq_true,decide_eq_true_iff,decide_eq_true_iff]
 exact ⟨h1,h2⟩
def Qc (r:Request) (us:List Int) (l:List Int):Prop:=l≠[]∧(∀ u∈l,u∈us)∧Q4h r l (Qxp r)=true
theorem Jih {r:Request} {us:List Int} {out:List (List Int)} {u:Int} (h:∀ l∈out,Qc r us l) (hu:u∈us) (hr:0≤u∧u<(Qi6 r).length):∀ l∈Jhv r out u,Qc r us l:=by
 have hn:Qc r us [u]:=⟨by simp,λv hv=>by rw [List.mem_singleton.1 hv]; exact hu,Q9w hr⟩
 intro l hl
 unfold Jhv Jhw at hl
 split at hl
 · rename_i i hi
   obtain ⟨x,hx,hg⟩:=Qzu hi
   rw [hx] at hl
   rcases List.mem_or_eq_of_mem_set hl with hl | rfl
   · exact h l hl
   · have hq:=h x (List.mem_of_getElem? hx)
     refine ⟨by simp,λv hv=>?_,hg⟩
     rcases List.mem_append.1 hv with hv | hv
     · exact hq.2.1 v hv
     · rw [List.mem_singleton.1 hv]; exact hu
 · rcases List.mem_append.1 hl with hl | hl
   · exact h l hl
   · rw [List.mem_singleton.1 hl]; exact hn
theorem Jjm {r:Request} {us:List Int} {out:List (List Int)} {u:Int} (h:∀ l∈out,Qc r us l) (hu:u∈us) (hr:0≤u∧u<(Qi6 r).length):∀ l∈Q8l r out u,Qc r us l:=by
 have hn:Qc r us [u]:=⟨by simp,λv hv=>by rw [List.mem_singleton.1 hv]; exact hu,Q9w hr⟩
 intro l hl
 cases hlast:out.getLast? with
 | none =>
  unfold Q8l at hl
  rw [hlast] at hl
  rw [List.mem_singleton.1 hl]; exact hn
 | some x =>
  rw [Qzl u hlast] at hl
  have hq:=h x (List.mem_of_getLast? hlast)
  cases hg:Q3x r u x
  · rw [hg,cond_false] at hl
    rcases List.mem_append.1 hl with hl | hl
    · exact h l hl
    · rw [List.mem_singleton.1 hl]; exact hn
  · rw [hg,cond_true] at hl
    rcases List.mem_or_eq_of_mem_set hl with hl | rfl
    · exact h l hl
    · refine ⟨by simp,λv hv=>?_,hg⟩
      rcases List.mem_append.1 hv with hv | hv
      · exact hq.2.1 v hv
      · rw [List.mem_singleton.1 hv]; exact hu
theorem Q9g {r:Request} {us:List Int} {F:List (List Int)→Int→List (List Int)} (hF:∀ out u,(∀ l∈out,Qc r us l)→u∈us→(0≤u∧u<(Qi6 r).length)→∀ l∈F out u,Qc r us l):∀ (vs:List Int) (out:List (List Int)),(∀ u∈vs,u∈us∧0≤u∧u<(Qi6 r).length)→(∀ l∈out,Qc r us l)→∀ l∈vs.foldl F out,Qc r us l
 | [],out,_,h=>h
 | v::vs,out,hv,h=>by
  rw [List.foldl_cons]
  have h1:=hv v (by simp)
  exact Q9g hF vs _ (λu hu=>hv u (by simp [hu])) (hF out v h h1.1 h1.2)
theorem Q9i (r:Request) (us:List Int):(Jeu r us).Perm us:=by
 unfold Jeu
 refine ((Qvd _ _).map _).trans ?_
 have key:∀ (xs pre:List Int),us=pre++xs→(Qjw pre.length xs.length).map (λp=>(ix us p).getD 0)=xs:=by
  intro xs
  induction xs with
  | nil=>intro pre _; rfl
  | cons x xs ih =>
   intro pre he
   have h1:=ih (pre++[x]) (by simp [he])
   simp only [List.length_append,List.length_singleton] at h1
   simp only [List.length_cons,Qjw,List.map_cons]
   rw [show ((pre.length:Int)+1)=((pre.length+1:Nat):Int) by omega,h1]
   congr 1
   rw [Qh3,he]
   simp
 have:=key us [] rfl
 simp only [List.length_nil] at this
 exact List.Perm.of_eq this
theorem Jon {r:Request} {us:List Int}:∀ l∈pwM r us,Qc r (Qvs r us) l:=by
 unfold pwM nfM ffM
 have ht:∀ u∈Qvs r us,u∈Qvs r us∧0≤u∧u<(Qi6 r).length:=λu hu=>⟨hu,Qyu hu⟩
 cases r.f0==1
 · rw [cond_false]
   exact Q9g (λout u h hu hr=>Jih h hu hr) _ [] (λu hu=>ht u ((Q9i r _).mem_iff.1 hu)) (by simp)
 · rw [cond_true]
   exact Q9g (λout u h hu hr=>Jjm h hu hr) _ [] ht (by simp)
def Q71:List Carton→Nat
 | []=>0
 | x::xs=>x.fO.length+Q71 xs
structure Sp (x:Plan):Prop where
 cars:x.fE.length≤1048576
 units:∀ c∈x.fE,c.fO.length≤1048576
 all:Q71 x.fE≤1048576
 spots:x.f9.length≤1048576
def Jca:List Int→List Int→Bool
 | _,[]=>true
 | pre,x::xs=>inb x 0 999&&((match pre.getLast? with | none=>true | some y=>decide (y<x))&&Jca (pre++[x]) xs)
def Jh4 (l:List Int):Bool:=Jca [] l&&decide ((l.length:Int)≤100)
def Jcc (c:Carton):Bool:=inb c.qY 0 999&&(inb c.qJ 0 3&&Jh4 c.fO)
def Jer (s:Spot):Bool:=inb s.fJ 0 2000&&(inb s.fX 0 2000&&(inb s.fY 0 2000&&inb s.fZ 0 2000))
def Q1k (x:Plan):Bool:=x.f9.length==x.fE.length&&(decide ((x.fE.length:Int)≤100)&&(x.fE.zip x.f9).all λp=>Jcc p.1&&Jer p.2)
theorem Q94 {pre:List Int} {x:Int} {xs l:List Int} (hl:l.length≤1048576) (e:l=pre++x::xs):(pre.getLast? = none∧pre.length=0)∨∃ y,pre.getLast? = some y∧0<pre.length∧ix l (w64 ((pre.length:Int) - 1))=some y:=by
 cases hp:pre.getLast? with
 | none=>exact .inl ⟨rfl,by simpa using List.getLast?_eq_none_iff.1 hp⟩
 | some y =>
  have hne:pre≠[]:=λe=>by subst e; simp at hp
  have hpos:0<pre.length:=List.length_pos_iff.2 hne
  refine .inr ⟨y,rfl,hpos,?_⟩
  have h1:w64 ((pre.length:Int) - 1)=((pre.length - 1:Nat):Int):=by
   have:pre.length≤l.length:=by rw [e]; simp
   rw [Qam (by omega) (by omega)]; omega
  rw [h1,Qh3,e,List.getElem?_append_left (by omega),← List.getLast?_eq_getElem?,hp]
theorem Jls {fu:Nat} {l:List Int} (hl:l.length≤1048576) (hf:l.length<fu):Qkb fu l=some (Jh4 l):=by
 unfold Qkb Jh4
 have key:=lpP l (λn (_:Unit) i=>Qdm fu l n i) (λpre xs _=>some (Jca pre xs&&decide ((l.length:Int)≤100))) (by omega) ?_ ?_ fu () hf
 · exact key
 · intro n _ pre x xs e hx hd ih
   have ih:=ih ()
   simp only [Qdm.eq_2]
   unfold Qix Qhv Jca
   rw [hd,cond_true,hx,Qaa,Q1u,Qaa]
   cases inb x 0 999
   · rfl
   · rw [Bool.not_true,cond_false,Bool.true_and]
     rcases Q94 (hl:=hl) e with ⟨h1,h2⟩ | ⟨y,h1,h2,h3⟩
     · rw [h1,show decide ((pre.length:Int)>0)=false from decide_eq_false (by omega),cond_false,ih]
       simp
     · rw [h1,show decide ((pre.length:Int)>0)=true from decide_eq_true (by omega),cond_true,h3,Qaa,ih]
       by_cases hy:y<x
       · rw [show decide (y≥x)=false by simp; omega,cond_false]; simp [hy]
       · rw [show decide (y≥x)=true by simp; omega,cond_true]; simp [hy]
 · intro n _ hd
   simp only [Qdm.eq_2]
   unfold Qix
   rw [hd,cond_false]
   simp [Jca]
theorem Jlw {fu:Nat} {c:Carton} (hl:c.fO.length≤1048576) (hf:c.fO.length<fu):Qlr fu c=some (Jcc c):=by
 unfold Qlr Jcc
 rw [Jlc,Qaa,Q0b,Qaa]
 cases inb c.qY 0 999
 · rfl
 · rw [Bool.not_true,cond_false]
   cases inb c.qJ 0 3
   · rfl
   · rw [Bool.not_true,cond_false,Bool.true_and,Bool.true_and]
     unfold Jh4
     by_cases h1:(c.fO.length:Int)≤100
     · rw [show decide ((c.fO.length:Int)>100)=false by simp; omega,cond_false,show decide ((c.fO.length:Int)≤100)=true by simpa using h1,Bool.and_true]
       unfold Qnn
       have key:=lpP c.fO (λn (_:Unit) i=>Qd2 fu c n i) (λpre xs _=>some (Jca pre xs)) (by omega) ?_ ?_ fu () hf
       · exact key
       · intro n _ pre x xs e hx hd ih
         have ih:=ih ()
         simp only [Qd2.eq_2]
         unfold Qi9 Qij Jca
         rw [hd,cond_true,hx,Qaa,Q0b,Qaa]
         cases inb x 0 999
         · rfl
         · rw [Bool.not_true,cond_false,Bool.true_and]
           rcases Q94 (hl:=hl) e with ⟨h1,h2⟩ | ⟨y,h1,h2,h3⟩
           · rw [h1,show decide ((pre.length:Int)>0)=false from decide_eq_false (by omega),cond_false,ih]
             simp
           · rw [h1,show decide ((pre.length:Int)>0)=true from decide_eq_true (by omega),cond_true,Qaa,h3,Qaa,ih]
             by_cases hy:y<x
             · rw [show decide (x≤y)=false by simp; omega,cond_false]; simp [hy]
             · rw [show decide (x≤y)=true by simp; omega,cond_true]; simp [hy]
       · intro n _ hd
         simp only [Qd2.eq_2]
         unfold Qi9
         rw [hd,cond_false]
         simp [Jca]
     · rw [show decide ((c.fO.length:Int)>100)=true by simp; omega,cond_true,show decide ((c.fO.length:Int)≤100)=false by simpa using h1,Bool.and_false]
theorem Q7t {α β:Type} {a:List α} {b:List β} {i:Int} {p:α×β} (h:ix (a.zip b) i=some p):ix a i=some p.1∧ix b i=some p.2:=by
 obtain ⟨h0,_,h1⟩:=Qah h
 have:=List.getElem?_zip_eq_some.1 h1
 unfold ix
 rw [if_pos h0,if_pos h0]
 exact this
theorem Jit {fu:Nat} {x:Plan} (h:Sp x) (hf:1048577≤fu):Qjz fu x=some (Q1k x):=by
 have hs:=h.spots
 have hc:=h.cars
 unfold Qjz Q1k
 cases he:x.f9.length==x.fE.length
 · have:((x.f9.length:Int) != (x.fE.length:Int))=true:=by simp at he ⊢; omega
   rw [this]; rfl
 · have el:x.f9.length=x.fE.length:=by simpa using he
   have:((x.f9.length:Int) != (x.fE.length:Int))=false:=by simp; omega
   rw [this,cond_false,Bool.true_and]
   by_cases h1:(x.fE.length:Int)≤100
   · rw [show decide ((x.fE.length:Int)>100)=false by simp; omega,cond_false,show decide ((x.fE.length:Int)≤100)=true by simpa using h1,Bool.true_and]
     unfold Qrc
     have hz:(x.fE.zip x.f9).length=x.fE.length:=by simp; omega
     have key:=lp (x.fE.zip x.f9) (λn (_:Unit) i=>Qf0 fu x n i) (λl _=>some (l.all λp=>Jcc p.1&&Jer p.2)) (by omega) ?_ ?_ fu () (by omega)
     · exact key
     · intro n _ i p xs hx hd ih
       have ih:=ih ()
       obtain ⟨e1,e2⟩:=Q7t hx
       have hu:=h.units p.1 (Qi2 e1)
       rw [hz] at hd
       simp only [Qf0.eq_2]
       unfold Qnv Qra
       simp only [hd,cond_true,e1,e2,Qaa,Q1u,Jls hu (show p.1.fO.length<fu by omega),Jfv,ih,List.all_cons]
       unfold Jcc Jer
       cases inb p.1.qY 0 999 <;> cases inb p.1.qJ 0 3 <;> cases Jh4 p.1.fO <;> cases inb p.2.fJ 0 2000 <;> cases inb p.2.fX 0 2000 <;> cases inb p.2.fY 0 2000 <;> cases inb p.2.fZ 0 2000 <;> rfl
     · intro n _ i hd
       rw [hz] at hd
       simp only [Qf0.eq_2]
       unfold Qnv
       simp [hd]
   · rw [show decide ((x.fE.length:Int)>100)=true by simp; omega,cond_true,show decide ((x.fE.length:Int)≤100)=false by simpa using h1,Bool.false_and]
theorem Jm3 {fu:Nat} {x:Plan} (h:Sp x) (hf:1048577≤fu):Qse fu x=some (Q1k x):=by
 have hs:=h.spots
 have hc:=h.cars
 unfold Qse Q1k
 cases he:x.f9.length==x.fE.length
 · have:((x.fE.length:Int) != (x.f9.length:Int))=true:=by simp at he ⊢; omega
   rw [this]; rfl
 · have el:x.f9.length=x.fE.length:=by simpa using he
   have:((x.fE.length:Int) != (x.f9.length:Int))=false:=by simp; omega
   rw [this,cond_false,Bool.true_and]
   by_cases h1:(x.fE.length:Int)≤100
   · rw [show decide ((x.fE.length:Int)>100)=false by simp; omega,cond_false,show decide ((x.fE.length:Int)≤100)=true by simpa using h1,Bool.true_and]
     unfold Qrl
     have hz:(x.fE.zip x.f9).length=x.fE.length:=by simp; omega
     have key:=lp (x.fE.zip x.f9) (λn (_:Unit) i=>Qf4 fu x n i) (λl _=>some (l.all λp=>Jcc p.1&&Jer p.2)) (by omega) ?_ ?_ fu () (by omega)
     · exact key
     · intro n _ i p xs hx hd ih
       have ih:=ih ()
       obtain ⟨e1,e2⟩:=Q7t hx
       have hu:=h.units p.1 (Qi2 e1)
       rw [hz] at hd
       simp only [Qf4.eq_2]
       unfold Qo7 Qro
       simp only [hd,cond_true,e1,e2,Qaa,Q0b,Jlw hu (show p.1.fO.length<fu by omega),ih,List.all_cons]
       unfold Jer
       cases Jcc p.1 <;> cases inb p.2.fJ 0 2000 <;> cases inb p.2.fX 0 2000 <;> cases inb p.2.fY 0 2000 <;> cases inb p.2.fZ 0 2000 <;> rfl
     · intro n _ i hd
       rw [hz] at hd
       simp only [Qf4.eq_2]
       unfold Qo7
       simp [hd]
   · rw [show decide ((x.fE.length:Int)>100)=true by simp; omega,cond_true,show decide ((x.fE.length:Int)≤100)=false by simpa using h1,Bool.false_and]
def cs (x:Plan):List (Carton×Spot):=x.fE.zip x.f9
theorem Jat (r:Request) (us:List Int):∀ (l:List Typ) (s:Typ×Bool),(l.foldl (chp r us) s).2=(s.2||l.any (Q4l r us))
 | [],s=>by simp
 | t::l,s=>by
  rw [List.foldl_cons,Jat r us l,List.any_cons]
  unfold chp
  obtain ⟨b,f⟩:=s
  cases Q4l r us t <;> cases f <;> simp
  cases (decide (t.fl<b.fl)||t.fl==b.fl&&decide (t.ft<b.ft)) <;> simp
theorem Jdd {r:Request} {us:List Int} {t:Typ} (ht:t∈r.fU) (h:Q4l r us t=true):(Q11 r us).2=true:=by
 unfold Q11
 rw [Jat]
 simp only [Bool.false_or]
 exact List.any_eq_true.2 ⟨t,ht,h⟩
theorem Jak {a b:List Int} (h:a.Perm b):Qx8 a=Qx8 b:=by
 induction h with
 | nil=>rfl
 | cons x _ ih=>simp [ih]
 | swap x y l=>simp; omega
 | trans _ _ h1 h2=>rw [h1,h2]
theorem Jdr {r:Request} {a b:List Int} (h:a.Perm b):(Qxn r a).Perm (Qxn r b):=h.filterMap _
theorem Jco {r:Request} {a b:List Int} (h:a.Perm b):Qwj r a=Qwj r b:=Jak ((Jdr h).map _)
theorem Q7o {f:Typ→Int}:∀ (xs pre:List Typ) (t:Typ),Q8n f pre xs=true→t∈xs→(∀ y∈pre,f y≠f t)∧xs.find? (λy=>f y==f t)=some t
 | [],_,_,_,h=>by simp at h
 | x::xs,pre,t,hn,h=>by
  simp only [Q8n,Bool.and_eq_true,Bool.not_eq_true'] at hn
  have hx:=List.any_eq_false.1 hn.1
  rcases List.mem_cons.1 h with rfl | h
  · exact ⟨λy hy e=>hx y hy (by simp [e]),by simp⟩
  · have ih:=Q7o xs (pre++[x]) t hn.2 h
    refine ⟨λy hy=>ih.1 y (by simp [hy]),?_⟩
    have:=ih.1 x (by simp)
    have e:(f x==f t)=false:=by simpa using this
    rw [List.find?_cons,e]
    exact ih.2
theorem Jdc {r:Request} (hc:Qhg r=0) {t:Typ} (ht:t∈r.fU):Qt1 r t.ft=some t:=by
 have h:=(Qfn hc).2.1
 unfold Jae at h
 simp only [Bool.and_eq_true] at h
 exact (Q7o r.fU [] t h.1.1.1 ht).2
theorem Q7s (r:Request) (us:List Int):∀ (l:List Typ) (s:Typ×Bool),(∀ t∈l,t∈r.fU)→(s.2=true→s.1∈r.fU∧Q4l r us s.1=true)→(l.foldl (chp r us) s).2=true→(l.foldl (chp r us) s).1∈r.fU∧Q4l r us (l.foldl (chp r us) s).1=true
 | [],s,_,h,h2=>h h2
 | t::l,s,hl,h,h2=>by
  rw [List.foldl_cons] at h2 ⊢
  refine Q7s r us l _ (λx hx=>hl x (by simp [hx])) (λh3=>?_) h2
  unfold chp at h3 ⊢
  cases hh:Q4l r us t&&(!s.2||(decide (t.fl<s.1.fl)||(t.fl==s.1.fl&&decide (t.ft<s.1.ft))))
  · rw [hh,cond_false] at h3
    rw [cond_false]
    exact h h3
  · rw [Bool.and_eq_true] at hh
    rw [cond_true]
    exact ⟨hl t (by simp),hh.1⟩
theorem Jdw {r:Request} {us l:List Int} (h:Qc r (Qvs r us) l):Q4l r l (Qxp r)=true:=by
 obtain ⟨h1,h2,h3⟩:=h
 obtain ⟨u,hu⟩:=List.exists_mem_of_ne_nil _ h1
 have hc:=Q7j (Qyu (h2 u hu))
 have hz:=Qfn hc
 unfold Q4l
 rw [show (Qhg r==0)=true by simp [hc],Bool.true_and,h3,Bool.and_true,List.all_eq_true]
 intro v hv
 have hv':=Qyu (h2 v hv)
 unfold uOk
 rw [Qwr hv',Bool.and_eq_true]
 exact ⟨rfl,hz.2.2.2.1 _ (Q2d hv')⟩
theorem Ji2 {r:Request} {us l:List Int} (h:Qc r (Qvs r us) l):Qhg r=0∧(Q11 r l).2=true∧(Q11 r l).1∈r.fU∧Q4l r l (Q11 r l).1=true∧Qt1 r (Q11 r l).1.ft=some (Q11 r l).1:=by
 obtain ⟨u,hu⟩:=List.exists_mem_of_ne_nil _ h.1
 have hc:=Q7j (Qyu (h.2.1 u hu))
 have h2:=Jdd (Ja3 hc).2.1 (Jdw h)
 have h3:=Q7s r l r.fU (Jil,false) (λ_ h=>h) (by simp) h2
 exact ⟨hc,h2,h3.1,h3.2,Jdc hc h3.1⟩
theorem Jgm {r:Request} {us l:List Int} (h:Qc r (Qvs r us) l):1≤Qwj r l:=by
 obtain ⟨h1,h2,_⟩:=h
 match l,h1 with
 | u::l,_ =>
  have hu:=Qyu (h2 u (by simp))
  have hc:=Q7j hu
  have:=(Qsz (Qfn hc).1).1 _ (Q2d hu)
  simp only [Qx0,Bool.and_eq_true,Qcb] at this
  have h3:=(Jai r l).1
  rw [Q6p]
  omega
theorem Jgl {r:Request} {us l:List Int} (h:Qc r (Qvs r us) l) (k:Int):Q64 r (Q8z r k l)=⟨(Q11 r l).1.fW,(Q11 r l).1.fD,(Q11 r l).1.fH,(Q11 r l).1.qQ+Qwj r l⟩∧Jdg r.fJ (Q64 r (Q8z r k l))=true:=by
 obtain ⟨hc,_,ht,hh,hf⟩:=Ji2 h
 have hz:=Qfn hc
 have e:Q64 r (Q8z r k l)=⟨(Q11 r l).1.fW,(Q11 r l).1.fD,(Q11 r l).1.fH,(Q11 r l).1.qQ+Qwj r l⟩:=by
  unfold Q64 Q8z
  simp only [hf,show (Qhg r==0)=true by simp [hc],cond_true,Jco (Qzz l)]
 refine ⟨e,?_⟩
 have ht1:=Qy8 hz.1 _ ht
 have ht2:=hz.2.2.2.2 _ ht
 simp only [Q2w,Bool.and_eq_true,Qcb] at ht1
 simp only [Q8i,Bool.or_eq_false_iff,decide_eq_false_iff_not] at ht2
 rw [Qam (by omega) (by omega)] at ht2
 have hg:=Jgm h
 unfold Q4l at hh
 simp only [Bool.and_eq_true] at hh
 have hw:=hh.2.2
 unfold Q4h at hw
 simp only [Bool.and_eq_true,decide_eq_true_eq] at hw
 rw [e]
 simp only [Jdg,Bool.and_eq_true,Qcb]
 omega
def Qyj (r:Request) (k:Int):List Box:=((Qvz r).filter λc=>c.qJ==k).map (Q64 r)
def plS (r:Request) (s:List Spot×Int) (k:Int):List Spot×Int:=(s.1++(spM r.fJ (Qyj r k)).map (λt=>⟨t.fJ+s.2,t.fX,t.fY,t.fZ⟩),s.2+Jef (spM r.fJ (Qyj r k)))
def Q8d (r:Request):Plan×Bool:=bif Qhg r==0 then (⟨Qvz r,((Qjw 0 (Qju r).length).foldl (plS r) ([],0)).1⟩,true) else (⟨[],[]⟩,false)
theorem Qy6 (r:Request) (k:Int):∀ (ks:List Int),ks.Nodup→((Q3s r ks).filter λc=>c.qJ==k)=bif ks.contains k then Q7a r k else []
 | [],_=>rfl
 | j::ks,hn=>by
  obtain ⟨h1,h2⟩:=List.nodup_cons.1 hn
  have ih:=Qy6 r k ks h2
  rw [Q3s,List.filter_append,ih]
  have hj:∀ c∈Q7a r j,c.qJ=j:=by
   intro c hc
   unfold Q7a at hc
   obtain ⟨l,_,rfl⟩:=List.mem_map.1 hc
   rfl
  by_cases e:k=j
  · subst e
    have e1:(Q7a r k).filter (λc=>c.qJ==k)=Q7a r k:=List.filter_eq_self.2 λc hc=>by simp [hj c hc]
    have e2:ks.contains k=false:=by simpa using h1
    rw [e1,e2]
    simp
  · have e1:(Q7a r j).filter (λc=>c.qJ==k)=[]:=List.filter_eq_nil_iff.2 λc hc=>by simp [hj c hc]; omega
    rw [e1]
    have e2:(j::ks).contains k=ks.contains k:=by simp [e]
    rw [e2]; rfl
theorem Q63 {r:Request} {k:Int} (h:0≤k∧k<(Qju r).length):Qyj r k=(Q7a r k).map (Q64 r):=by
 unfold Qyj Qvz
 rw [Qy6 r k _ (Q73 _ _)]
 rw [show (Qjw 0 (Qju r).length).contains k=true by rw [List.contains_iff_mem,Qhn]; omega]
 rfl
theorem Q8y {r:Request} (hc:Qhg r=0) {k:Int} (h:0≤k∧k<(Qju r).length):Q0a r.fJ (Qyj r k)=true:=by
 have hb:=(Qfn hc).1
 unfold Q5a at hb
 simp only [Bool.and_eq_true] at hb
 unfold Q0a
 rw [Q63 h,Bool.and_eq_true]
 refine ⟨hb.1.1.1.1.1.1.1.1.2,List.all_eq_true.2 λb hb=>?_⟩
 unfold Q7a at hb
 rw [List.map_map] at hb
 obtain ⟨l,hl,rfl⟩:=List.mem_map.1 hb
 exact (Jgl (Jon l hl) k).2
theorem Jbi (r:Request) (k:Int):(Qyj r k).length≤48:=by
 have h1:=List.length_filter_le (λc:Carton=>c.qJ==k) (Qvz r)
 have h2:=Qyk r
 unfold Qyj
 rw [List.length_map]
 omega
theorem Jd6 {r:Request} (hc:Qhg r=0):∀ (ks:List Int) (s:List Spot×Int),(∀ k∈ks,0≤k∧k<(Qju r).length)→(ks.foldl (plS r) s).1.length=s.1.length+(Q3s r ks).length
 | [],s,_=>by simp [Q3s]
 | k::ks,s,h=>by
  rw [List.foldl_cons,Jd6 hc ks _ λj hj=>h j (by simp [hj])]
  have hk:=h k (by simp)
  have h1:=Q5m (Q8y hc hk)
  rw [Q63 hk,List.length_map] at h1
  simp only [plS,Q3s,List.length_append,List.length_map,Q63 hk,h1]
  omega
theorem Jgq (r:Request):(Q8d r).1.f9.length=(Q8d r).1.fE.length∧(Q8d r).1.fE.length≤48∧∀ c∈(Q8d r).1.fE,c.fO.length≤12:=by
 unfold Q8d
 cases hc:Qhg r==0
 · exact ⟨rfl,by simp,by simp⟩
 · rw [cond_true]
   have:=Jd6 (r:=r) (by simpa using hc) (Qjw 0 (Qju r).length) ([],0) λk hk=>by have:=Qhn.1 hk; omega
   exact ⟨by rw [this]; simp [Qvz],Qyk r,λc hc=>Qyy hc⟩
theorem Jig {fu:Nat} {r:Request} (h:Sm fu r):Qr6 fu r=some (Q8d r):=by
 have hfu:=h.fu
 have hg:=(Quw r).1
 have hcl:=Qyk r
 unfold Qr6 Q8d
 rw [Q01 h,Qaa]
 cases hc:Qhg r==0
 · rw [show (Qhg r != 0)=true by simp only [bne,hc]; rfl]; rfl
 · have hz:Qhg r=0:=by simpa using hc
   rw [show (Qhg r != 0)=false by simp [hz],cond_false,cond_true,Jmz h,Qaa,Jhn h,Qaa]
   have L3:=Q8g ((Qju r).length:Int) (λn (s:List Spot×Int) k=>Qby fu r (Qvz r) (Qju r) n s.1 s.2 k) (λks s=>some ((⟨Qvz r,(ks.foldl (plS r) s).1⟩:Plan),true)) (λks s=>(∀ k∈ks,0≤k∧k<(Qju r).length)∧s.1.length+48*ks.length≤1000∧0≤s.2∧s.2+1000000*ks.length≤10000000) (by omega) ?_ ?_ (Qju r).length fu ([],0) 0 (by omega) (by omega) (by omega) ⟨λk hk=>by have:=Qhn.1 hk; omega,by simp [Qbx]; omega,by simp,by simp [Qbx]; omega⟩
   · exact L3
   · intro n ⟨sp,base⟩ k ks k0 k1 hd hI ih
     obtain ⟨i1,i2,i3,i4⟩:(∀ j∈k::ks,0≤j∧j<(Qju r).length)∧sp.length+48*(k::ks).length≤1000∧0≤base∧base+1000000*((k::ks).length:Int)≤10000000:=hI
     simp only [List.length_cons] at i2 i4
     simp only [Qby.eq_2]
     unfold Qo2
     rw [hd,cond_true]
     have L2:=lpI (Qvz r) (λm (bs:List Box) i=>Qgd fu (Qby fu r (Qvz r) (Qju r) n) r (Qvz r) sp base k m bs i) (λcs bs=>Qab (Qla fu r.fJ (bs++(cs.filter λc=>c.qJ==k).map (Q64 r))) λx=>Qf5 fu (Qby fu r (Qvz r) (Qju r) n) base k x fu sp 0) (λcs bs=>bs.length+cs.length≤48∧∀ c∈cs,c.fO.length≤12) (by omega) ?_ ?_ fu [] ⟨by simpa using hcl,λc hc=>Qyy hc⟩ (by omega)
     · refine L2.trans ?_
       have hbl:=Jbi r k
       rw [List.nil_append,show ((Qvz r).filter λc=>c.qJ==k).map (Q64 r)=Qyj r k from rfl,Jg1 hfu _ _ (by omega),Qaa]
       have hsl:=Q5m (Q8y hz ⟨k0,k1⟩)
       have hpb:=Jb0 (spM r.fJ (Qyj r k))
       have hps:∀ s∈spM r.fJ (Qyj r k),s∈spM r.fJ (Qyj r k):=λ_ h=>h
       have ih':=ih (plS r (sp,base) k) ⟨λj hj=>i1 j (by simp [hj]),by simp [plS]; omega,by simp [plS]; omega,by simp [plS]; omega⟩
       rw [List.foldl_cons,← ih']
       have hS:=Jim (fu:=fu) (l:=spM r.fJ (Qyj r k)) (by omega) (by omega)
       have hwf:∀ s∈spM r.fJ (Qyj r k),w64 (s.fJ+base)=s.fJ+base:=by
        intro s hs
        have:=Jem (p:=r.fJ) (l:=Qyj r k) (by omega) s hs
        exact Qam (by omega) (by omega)
       generalize hSP:spM r.fJ (Qyj r k)=S at hsl hpb hS hwf ⊢
       have L1:=lpI S (λm (o:List Spot) i=>Qf5 fu (Qby fu r (Qvz r) (Qju r) n) base k S m o i) (λxs o=>Qby fu r (Qvz r) (Qju r) n (o++xs.map (λt=>⟨t.fJ+base,t.fX,t.fY,t.fZ⟩)) (base+Jef S) (w64 (k+1))) (λxs o=>o.length+xs.length≤1000∧∀ s∈xs,w64 (s.fJ+base)=s.fJ+base) (by omega) ?_ ?_ fu sp ⟨by omega,hwf⟩ (by omega)
       · refine L1.trans ?_
         simp only [plS,hSP]
       · intro m o i x xs hx hd hI ih
         obtain ⟨j1,j2⟩:=hI
         simp only [List.length_cons] at j1
         simp only [Qf5.eq_2]
         unfold Qo8
         rw [hd,cond_true,hx,Qaa,j2 x (by simp),ap1 (by simp; omega),Qaa,ih _ ⟨by simp; omega,λs hs=>j2 s (by simp [hs])⟩]
         simp
       · intro m o i hd hI
         simp only [Qf5.eq_2]
         unfold Qo8
         rw [hd,cond_false,hS,Qaa,Qam (n:=base+_) (by omega) (by omega)]
         simp
     · intro m bs i c cs hx hd hI ih
       obtain ⟨j1,j2⟩:=hI
       simp only [List.length_cons] at j1
       have hcu:=j2 c (by simp)
       simp only [Qgd.eq_2]
       unfold Qn5 Qlq
       rw [hd,cond_true,hx,Qaa,Qaa,Jjn h c (by omega),Qaa,ap1 (by simp; omega),Qaa,ih _ ⟨by simp; omega,λc hc=>j2 c (by simp [hc])⟩,ih _ ⟨by omega,λc hc=>j2 c (by simp [hc])⟩,List.filter_cons]
       cases c.qJ==k <;> simp
     · intro m bs i hd _
       simp only [Qgd.eq_2]
       unfold Qn5
       rw [hd,cond_false]; simp
   · intro n ⟨sp,base⟩ k hd _
     simp only [Qby.eq_2]
     unfold Qo2
     rw [hd,cond_false]; rfl
end Go.Proofs.YthkaklkinepfkaaGreatDoor
