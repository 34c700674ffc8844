import Derived.Test.YtkkfmjpbiimkbaaGreatCkdLawBP2
set_option linter.unusedSimpArgs false
set_option linter.unusedVariables false
/- Shelves, layers, loads, spots of spec: what they compute, and what holds of them. -/
namespace Go.Proofs.YtkkfmjpbiimkbaaGreat
open Go
open Enc (rd ow)
open Arg (argv)
open Ret (retv)
open Wf (wf)
def Ja8 (p:Pallet) (b:Box):Bool:=inb b.fW 1 p.fW && (inb b.fD 1 p.fD && (inb b.fH 1 p.fH && inb b.fGram 1 p.fGram))
def Q1w (p:Pallet) (l:List Box):Bool:=Qzz p && l.all (Ja8 p)
theorem Jds {fu:Nat} (p:Pallet) (l:List Box) (hl:l.length ≤ 1048576) (hf:l.length < fu):Qme fu p l = some (Q1w p l):=by
 unfold Qme Q1w
 rw [Q9c,Qab]
 cases Qzz p
 · rfl
 · rw [Bool.not_true,cond_false,Bool.true_and]
   have:=Ja6 l (fun n i=>Qe1 fu p l n i) (Ja8 p) (some true) (by omega) ?_ ?_ fu hf
   · rw [this]
     cases l.all (Ja8 p) <;> rfl
   · intro n i x hx hd
     simp only [Qe1.eq_2]
     unfold Qls Qok Ja8
     simp only [hd,cond_true,hx,Qab,Qzv]
     cases inb x.fW 1 p.fW <;> cases inb x.fD 1 p.fD <;> cases inb x.fH 1 p.fH <;> cases inb x.fGram 1 p.fGram <;> rfl
   · intro n i hd
     simp only [Qe1.eq_2]
     unfold Qls
     rw [hd,cond_false]
def nxG {σ:Type} (fits:σ → Bool) (add:σ → σ) (z:σ) (out:List σ):List σ:=match out.getLast? with
 | some s=>bif fits s then out.set (out.length - 1) (add s) else out ++ [add z]
 | none=>[add z]
theorem Q0y {σ:Type} {fits:σ → Bool} {add:σ → σ} {z:σ} {out:List σ} {s:σ} (h:out.getLast? = some s):nxG fits add z out = bif fits s then out.set (out.length - 1) (add s) else out ++ [add z]:=by unfold nxG; rw [h]
theorem Qv7 {σ:Type} (fits:σ → Bool) (add:σ → σ) (z:σ) (out:List σ):(nxG fits add z out).length ≤ out.length + 1:=by
 unfold nxG
 split
 · cases fits _ <;> simp
 · simp
theorem Q3q {σ:Type} {fits:σ → Bool} {add:σ → σ} {z:σ} {out:List σ} {I:σ → Prop} (h:∀ s ∈ out,I s) (ha:∀ s,I s → fits s = true → I (add s)) (hz:I (add z)):∀ s ∈ nxG fits add z out,I s:=by
 intro s hs
 unfold nxG at hs
 split at hs
 · rename_i x hx
   have hm:=List.mem_of_getLast? hx
   cases hf:fits x
   · rw [hf,cond_false] at hs
     rcases List.mem_append.1 hs with hs | hs
     · exact h s hs
     · rw [List.mem_singleton.1 hs]; exact hz
   · rw [hf,cond_true] at hs
     rcases List.mem_or_eq_of_mem_set hs with hs | rfl
     · exact h s hs
     · exact ha x (h x hm) hf
 · rw [List.mem_singleton.1 hs]; exact hz
theorem Qua {σ:Type} {fits:σ → Bool} {add:σ → σ} {z:σ} {out:List σ} {f:σ → List Int} {i:Int} (ha:∀ s,f (add s) = f s ++ [i]) (hz:f z = []):((nxG fits add z out).map f).flatten = (out.map f).flatten ++ [i]:=by
 unfold nxG
 split
 · rename_i x hx
   cases fits x
   · rw [cond_false,List.map_append,List.flatten_append]
     simp [ha,hz]
   · rw [cond_true]
     have hne:out ≠ []:=by intro e; rw [e] at hx; simp at hx
     have e:out = out.dropLast ++ [x]:=by
      have h1:=List.dropLast_concat_getLast hne
      rw [List.getLast?_eq_some_getLast hne] at hx
      rw [Option.some.inj hx] at h1
      exact h1.symm
     obtain ⟨d,hd⟩:∃ d,out = d ++ [x]:=⟨_,e⟩
     rw [hd]
     simp [ha]
 · rename_i hx
   have:out = []:=List.getLast?_eq_none_iff.1 hx
   subst this
   simp [ha,hz]
def mxI (a b:Int):Int:=if a > b then a else b
theorem Qzu (a b:Int):a ≤ mxI a b ∧ b ≤ mxI a b ∧ (mxI a b = a ∨ mxI a b = b):=by unfold mxI; split <;> omega
def zBx:Box:=⟨0,0,0,0⟩
def bxA (l:List Box) (i:Int):Box:=(ix l i).getD zBx
def zSh:Shelf:=⟨[],0,0,0,0⟩
def Qs2 (s:Shelf) (i:Int) (b:Box):Shelf:=⟨s.fList ++ [i],s.fW + b.fW,mxI s.fD b.fD,mxI s.fH b.fH,s.fGram + b.fGram⟩
def Q9t (p:Pallet) (b:Box) (s:Shelf):Bool:=decide (s.fW + b.fW ≤ p.fW) && decide (s.fGram + b.fGram ≤ p.fGram)
def shS (p:Pallet) (l:List Box) (out:List Shelf) (i:Int):List Shelf:=nxG (Q9t p (bxA l i)) (fun s=>Qs2 s i (bxA l i)) zSh out
def shM (p:Pallet) (l:List Box):List Shelf:=bif Q1w p l then (srt (dnk (l.map (·.fD))) l.length).foldl (shS p l) [] else []
structure ShI (p:Pallet) (n:Nat) (s:Shelf):Prop where
 ne:s.fList ≠ []
 inn:∀ i ∈ s.fList,0 ≤ i ∧ i < n
 w:1 ≤ s.fW ∧ s.fW ≤ p.fW
 d:1 ≤ s.fD ∧ s.fD ≤ p.fD
 h:1 ≤ s.fH ∧ s.fH ≤ p.fH
 g:1 ≤ s.fGram ∧ s.fGram ≤ p.fGram
theorem Q79 {p:Pallet} {l:List Box} (h:Q1w p l = true) {i:Int} (hi:0 ≤ i ∧ i < l.length):ix l i = some (bxA l i) ∧ (1 ≤ (bxA l i).fW ∧ (bxA l i).fW ≤ p.fW) ∧ (1 ≤ (bxA l i).fD ∧ (bxA l i).fD ≤ p.fD) ∧ (1 ≤ (bxA l i).fH ∧ (bxA l i).fH ≤ p.fH) ∧ (1 ≤ (bxA l i).fGram ∧ (bxA l i).fGram ≤ p.fGram):=by
 obtain ⟨x,hx⟩:=Q3p (l:=l) hi.1 hi.2
 have e:bxA l i = x:=by unfold bxA; rw [hx]; rfl
 unfold Q1w at h
 simp only [Bool.and_eq_true] at h
 have:=List.all_eq_true.1 h.2 x (Qe2 hx)
 simp only [Ja8,Bool.and_eq_true,Qfu] at this
 rw [e]
 exact ⟨hx,this.1,this.2.1,this.2.2.1,this.2.2.2⟩
theorem Q3x {p:Pallet} (h:Qzz p = true):(1 ≤ p.fW ∧ p.fW ≤ 2000) ∧ (1 ≤ p.fD ∧ p.fD ≤ 2000) ∧ (1 ≤ p.fH ∧ p.fH ≤ 2000) ∧ (1 ≤ p.fGram ∧ p.fGram ≤ 100000):=by
 simp only [Qzz,Bool.and_eq_true,Qfu] at h
 exact ⟨h.1,h.2.1,h.2.2.1,h.2.2.2⟩
theorem Q52 {p:Pallet} {l:List Box} (h:Q1w p l = true):Qzz p = true:=by
 unfold Q1w at h
 simp only [Bool.and_eq_true] at h
 exact h.1
theorem Q7y {p:Pallet} {l:List Box} (hb:Q1w p l = true) {out:List Shelf} {i:Int} (hi:0 ≤ i ∧ i < l.length) (h:∀ s ∈ out,ShI p l.length s):∀ s ∈ shS p l out i,ShI p l.length s:=by
 obtain ⟨_,b1,b2,b3,b4⟩:=Q79 hb hi
 refine Q3q h (fun s hs hf=>?_) ⟨by simp [Qs2],fun j hj=>?_,?_,?_,?_,?_⟩
 · unfold Q9t at hf
   simp only [Bool.and_eq_true,decide_eq_true_eq] at hf
   obtain ⟨s1,s2,s3,s4,s5,s6⟩:=hs
   have m1:=Qzu s.fD (bxA l i).fD
   have m2:=Qzu s.fH (bxA l i).fH
   refine ⟨by simp [Qs2],fun j hj=>?_,?_,?_,?_,?_⟩
   · simp only [Qs2,List.mem_append,List.mem_singleton] at hj
     rcases hj with hj | rfl
     · exact s2 j hj
     · exact hi
   · simp only [Qs2]; omega
   · simp only [Qs2]; omega
   · simp only [Qs2]; omega
   · simp only [Qs2]; omega
 · simp only [Qs2,zSh,List.nil_append,List.mem_singleton] at hj
   rw [hj]; exact hi
 · simp only [Qs2,zSh]; omega
 · have:=Qzu 0 (bxA l i).fD
   simp only [Qs2,zSh]; omega
 · have:=Qzu 0 (bxA l i).fH
   simp only [Qs2,zSh]; omega
 · simp only [Qs2,zSh]; omega
theorem Q6c {p:Pallet} {l:List Box} (hb:Q1w p l = true):∀ (is:List Int) (out:List Shelf),(∀ i ∈ is,0 ≤ i ∧ i < l.length) → (∀ s ∈ out,ShI p l.length s) → (∀ s ∈ is.foldl (shS p l) out,ShI p l.length s) ∧ ((is.foldl (shS p l) out).map (·.fList)).flatten = (out.map (·.fList)).flatten ++ is ∧ (is.foldl (shS p l) out).length ≤ out.length + is.length
 | [],out,_,h=>⟨h,by simp,by simp⟩
 | i :: is,out,hi,h=>by
  rw [List.foldl_cons]
  obtain ⟨h1,h2,h3⟩:=Q6c hb is (shS p l out i) (fun j hj=>hi j (by simp [hj])) (Q7y hb (hi i (by simp)) h)
  have h4:((shS p l out i).map (·.fList)).flatten = (out.map (·.fList)).flatten ++ [i]:=Qua (fun s=>rfl) rfl
  have h5:(shS p l out i).length ≤ out.length + 1:=Qv7 _ _ _ _
  refine ⟨h1,by rw [h2,h4]; simp,by simp; omega⟩
theorem Q2y {p:Pallet} {l:List Box} (hb:Q1w p l = true):(∀ s ∈ shM p l,ShI p l.length s) ∧ ((shM p l).map (·.fList)).flatten = srt (dnk (l.map (·.fD))) l.length ∧ (shM p l).length ≤ l.length:=by
 unfold shM
 rw [hb,cond_true]
 obtain ⟨h1,h2,h3⟩:=Q6c hb (srt (dnk (l.map (·.fD))) l.length) [] (fun i hi=>Q0c.1 hi) (by simp)
 refine ⟨h1,by simpa using h2,?_⟩
 rw [Qu0] at h3
 simpa using h3
theorem Jd7 {fu:Nat} (s:Shelf) (i:Int) (b:Box) (hl:s.fList.length ≤ 1000000) (h1:-1000000000 ≤ s.fW + b.fW ∧ s.fW + b.fW ≤ 1000000000) (h2:-1000000000 ≤ s.fGram + b.fGram ∧ s.fGram + b.fGram ≤ 1000000000):Qgk fu s i b = some (Qs2 s i b):=by
 unfold Qgk
 rw [ap1 (by simp; omega),Qab,ap1 (by simp; omega),Qab,Q9j,Qab,Q9j,Qab,Qcj (by omega) (by omega),Qcj (by omega) (by omega)]
 rfl
theorem Qu8 {σ:Type} (f:σ → List Int):∀ (l:List σ) (s:σ),s ∈ l → (f s).length ≤ ((l.map f).flatten).length
 | [],_,h=>by simp at h
 | x :: l,s,h=>by
  simp only [List.map_cons,List.flatten_cons,List.length_append]
  rcases List.mem_cons.1 h with rfl | h
  · omega
  · have:=Qu8 f l s h; omega
theorem Q51 {fu:Nat} (hfu:2097153 ≤ fu) (p:Pallet) (l:List Box) (hl:l.length ≤ 1000):Qpd fu p l = some (shM p l):=by
 unfold Qpd shM
 rw [Jds p l (by omega) (by omega),Qab]
 cases hb:Q1w p l
 · rfl
 · rw [Bool.not_true,cond_false,cond_true]
   have key:=lpI l (fun n (o:List Int) i=>Qgi fu p l n o i) (fun xs o=>Qad (Qgo fu (o ++ xs.map (·.fD))) fun x=>Qd5 fu p l x fu [] 0) (fun xs o=>o.length + xs.length ≤ 1000) (by omega) ?_ ?_ fu [] (by simp; omega) (by omega)
   · rw [key,List.nil_append,Jae hfu (by simp; omega),Qab,List.length_map]
     have hsl:=Qu0 (dnk (l.map (·.fD))) l.length
     have hsm:=fun x=>Q0c (k:=dnk (l.map (·.fD))) (n:=l.length) (x:=x)
     generalize srt (dnk (l.map (·.fD))) l.length = S at hsl hsm ⊢
     have L1:=lpI S (fun n (o:List Shelf) i=>Qd5 fu p l S n o i) (fun xs o=>some (xs.foldl (shS p l) o)) (fun xs o=>(∀ i ∈ xs,0 ≤ i ∧ i < l.length) ∧ (∀ s ∈ o,ShI p l.length s) ∧ ((o.map (·.fList)).flatten).length + xs.length ≤ 1000 ∧ o.length + xs.length ≤ 1000) (by omega) ?_ ?_ fu [] ⟨fun i hi=>(hsm i).1 hi,by simp,by simp; omega,by simp; omega⟩ (by omega)
     · exact L1
     · intro n o i x xs hx hd hI ih
       obtain ⟨i1,i2,i3,i4⟩:=hI
       simp only [List.length_cons] at i3 i4
       have hxi:=i1 x (by simp)
       obtain ⟨hbx,b1,b2,b3,b4⟩:=Q79 hb hxi
       obtain ⟨p1,p2,p3,p4⟩:=Q3x (Q52 hb)
       have hn:Qgk fu zSh x (bxA l x) = some (Qs2 zSh x (bxA l x)):=Jd7 zSh x _ (by simp [zSh]) (by simp [zSh]; omega) (by simp [zSh]; omega)
       have hn':Qgk fu (⟨[],0,0,0,0⟩:Shelf) x (bxA l x) = some (Qs2 zSh x (bxA l x)):=hn
       have hflat:((shS p l o x).map (·.fList)).flatten = (o.map (·.fList)).flatten ++ [x]:=Qua (fun s=>rfl) rfl
       have hlen:(shS p l o x).length ≤ o.length + 1:=Qv7 _ _ _ _
       have ih':=ih (shS p l o x) ⟨fun j hj=>i1 j (by simp [hj]),Q7y hb hxi i2,by rw [hflat,List.length_append,List.length_singleton]; omega,by omega⟩
       simp only [Qd5.eq_2]
       unfold Qli Qgd
       rw [hd,cond_true,hx,Qab,hbx,Qab,List.foldl_cons,← ih',hn',Qab]
       by_cases he:o = []
       · subst he
         rw [Qbj (by simp),Qab,ap1 (by simp),Qab]; rfl
       · obtain ⟨s,e1,e2⟩:=Q1b he
         have hp:=List.length_pos_iff.2 he
         have hsm':=List.mem_of_getLast? e1
         have hs:=i2 s hsm'
         have hsl':=Qu8 (fun s:Shelf=>s.fList) o s hsm'
         rw [Qcj (n:=(o.length:Int) - 1) (by omega) (by omega),e2,Qab,Qcm (by simp; omega)]
         obtain ⟨s1,s2,s3,s4,s5,s6⟩:=hs
         rw [Qcj (n:=s.fW + _) (by omega) (by omega),Qcj (n:=s.fGram + _) (by omega) (by omega),Qab,Qab,Qab,Jd7 (fu:=fu) s x (bxA l x) (by omega) (by omega) (by omega)]
         simp only [Qab]
         rw [ap1 (by simp; omega),Qab]
         have eS:shS p l o x = bif Q9t p (bxA l x) s then o.set (o.length - 1) (Qs2 s x (bxA l x)) else o ++ [Qs2 zSh x (bxA l x)]:=Q0y e1
         rw [eS]
         unfold Q9t
         rw [show Qjp o ((o.length:Int) - 1) (Qs2 s x (bxA l x)) = o.set (o.length - 1) (Qs2 s x (bxA l x)) by unfold Qjp; congr 1; omega]
         cases decide (s.fW + (bxA l x).fW ≤ p.fW) <;> cases decide (s.fGram + (bxA l x).fGram ≤ p.fGram) <;> rfl
     · intro n o i hd _
       simp only [Qd5.eq_2]
       unfold Qli
       rw [hd,cond_false]; rfl
   · intro n o i x xs hx hd hI ih
     simp only [List.length_cons] at hI
     simp only [Qgi.eq_2]
     unfold Qkk
     rw [hd,cond_true,hx,Qab,ap1 (by simp; omega),Qab,ih _ (by simp; omega)]
     simp
   · intro n o i hd _
     simp only [Qgi.eq_2]
     unfold Qkk
     rw [hd,cond_false]; simp
end Go.Proofs.YtkkfmjpbiimkbaaGreat
/- Layers and loads of spec. -/
namespace Go.Proofs.YtkkfmjpbiimkbaaGreat
open Go
open Enc (rd ow)
open Arg (argv)
open Ret (retv)
open Wf (wf)
def okL (p:Pallet) (d h g:Int):Bool:=inb d 1 p.fD && (inb h 1 p.fH && inb g 1 p.fGram)
theorem Jdw (fu:Nat) (p:Pallet) (d h g:Int):Qp7 fu p d h g = some (okL p d h g):=by
 unfold Qp7 okL
 simp only [Qzv,Qab]
 cases inb d 1 p.fD <;> cases inb h 1 p.fH <;> rfl
theorem Jex {fu:Nat} (p:Pallet) (l:List Shelf) (hl:l.length ≤ 1048576) (hf:l.length < fu):Ql9 fu p l = some (Qzz p && l.all fun s=>okL p s.fD s.fH s.fGram):=by
 unfold Ql9
 rw [Q9c,Qab]
 cases Qzz p
 · rfl
 · rw [Bool.not_true,cond_false,Bool.true_and]
   have:=Ja6 l (fun n i=>Qev fu p l n i) (fun s=>okL p s.fD s.fH s.fGram) (some true) (by omega) ?_ ?_ fu hf
   · rw [this]
     cases l.all fun s=>okL p s.fD s.fH s.fGram <;> rfl
   · intro n i x hx hd
     simp only [Qev.eq_2]
     unfold Qij
     simp only [hd,cond_true,hx,Qab,Jdw]
     cases okL p x.fD x.fH x.fGram <;> rfl
   · intro n i hd
     simp only [Qev.eq_2]
     unfold Qij
     rw [hd,cond_false]
theorem Jfi {fu:Nat} (p:Pallet) (l:List Layer) (hl:l.length ≤ 1048576) (hf:l.length < fu):Qnw fu p l = some (Qzz p && l.all fun s=>okL p s.fD s.fH s.fGram):=by
 unfold Qnw
 rw [Q9c,Qab]
 cases Qzz p
 · rfl
 · rw [Bool.not_true,cond_false,Bool.true_and]
   have:=Ja6 l (fun n i=>Qfs fu p l n i) (fun s=>okL p s.fD s.fH s.fGram) (some true) (by omega) ?_ ?_ fu hf
   · rw [this]
     cases l.all fun s=>okL p s.fD s.fH s.fGram <;> rfl
   · intro n i x hx hd
     simp only [Qfs.eq_2]
     unfold Qja
     simp only [hd,cond_true,hx,Qab,Jdw]
     cases okL p x.fD x.fH x.fGram <;> rfl
   · intro n i hd
     simp only [Qfs.eq_2]
     unfold Qja
     rw [hd,cond_false]
def shA (l:List Shelf) (i:Int):Shelf:=(ix l i).getD zSh
def zLy:Layer:=⟨[],0,0,0⟩
def Quf (x:Layer) (i:Int) (s:Shelf):Layer:=⟨x.fShelves ++ [i],x.fD + s.fD,mxI x.fH s.fH,x.fGram + s.fGram⟩
def Q9l (p:Pallet) (s:Shelf) (x:Layer):Bool:=decide (x.fD + s.fD ≤ p.fD) && decide (x.fGram + s.fGram ≤ p.fGram)
def lyS (p:Pallet) (l:List Shelf) (out:List Layer) (i:Int):List Layer:=nxG (Q9l p (shA l i)) (fun s=>Quf s i (shA l i)) zLy out
def lyM (p:Pallet) (l:List Shelf):List Layer:=(Qka 0 l.length).foldl (lyS p l) []
structure LyI (p:Pallet) (n:Nat) (s:Layer):Prop where
 ne:s.fShelves ≠ []
 inn:∀ i ∈ s.fShelves,0 ≤ i ∧ i < n
 d:1 ≤ s.fD ∧ s.fD ≤ p.fD
 h:1 ≤ s.fH ∧ s.fH ≤ p.fH
 g:1 ≤ s.fGram ∧ s.fGram ≤ p.fGram
def OkS (p:Pallet) (l:List Shelf):Prop:=∀ s ∈ l,(1 ≤ s.fD ∧ s.fD ≤ p.fD) ∧ (1 ≤ s.fH ∧ s.fH ≤ p.fH) ∧ (1 ≤ s.fGram ∧ s.fGram ≤ p.fGram)
theorem Q55 {p:Pallet} {l:List Shelf} (h:OkS p l) {i:Int} (hi:0 ≤ i ∧ i < l.length):ix l i = some (shA l i) ∧ (1 ≤ (shA l i).fD ∧ (shA l i).fD ≤ p.fD) ∧ (1 ≤ (shA l i).fH ∧ (shA l i).fH ≤ p.fH) ∧ (1 ≤ (shA l i).fGram ∧ (shA l i).fGram ≤ p.fGram) ∧ shA l i ∈ l:=by
 obtain ⟨x,hx⟩:=Q3p (l:=l) hi.1 hi.2
 have e:shA l i = x:=by unfold shA; rw [hx]; rfl
 rw [e]
 exact ⟨hx,(h x (Qe2 hx)).1,(h x (Qe2 hx)).2.1,(h x (Qe2 hx)).2.2,Qe2 hx⟩
theorem Q8l {p:Pallet} {l:List Shelf} (hb:OkS p l) {out:List Layer} {i:Int} (hi:0 ≤ i ∧ i < l.length) (h:∀ s ∈ out,LyI p l.length s):∀ s ∈ lyS p l out i,LyI p l.length s:=by
 obtain ⟨_,b1,b2,b3,_⟩:=Q55 hb hi
 refine Q3q h (fun s hs hf=>?_) ⟨by simp [Quf],fun j hj=>?_,?_,?_,?_⟩
 · unfold Q9l at hf
   simp only [Bool.and_eq_true,decide_eq_true_eq] at hf
   obtain ⟨s1,s2,s4,s5,s6⟩:=hs
   have m2:=Qzu s.fH (shA l i).fH
   refine ⟨by simp [Quf],fun j hj=>?_,?_,?_,?_⟩
   · simp only [Quf,List.mem_append,List.mem_singleton] at hj
     rcases hj with hj | rfl
     · exact s2 j hj
     · exact hi
   · simp only [Quf]; omega
   · simp only [Quf]; omega
   · simp only [Quf]; omega
 · simp only [Quf,zLy,List.nil_append,List.mem_singleton] at hj
   rw [hj]; exact hi
 · simp only [Quf,zLy]; omega
 · have:=Qzu 0 (shA l i).fH
   simp only [Quf,zLy]; omega
 · simp only [Quf,zLy]; omega
theorem Q7q {p:Pallet} {l:List Shelf} (hb:OkS p l):∀ (is:List Int) (out:List Layer),(∀ i ∈ is,0 ≤ i ∧ i < l.length) → (∀ s ∈ out,LyI p l.length s) → (∀ s ∈ is.foldl (lyS p l) out,LyI p l.length s) ∧ ((is.foldl (lyS p l) out).map (·.fShelves)).flatten = (out.map (·.fShelves)).flatten ++ is ∧ (is.foldl (lyS p l) out).length ≤ out.length + is.length
 | [],out,_,h=>⟨h,by simp,by simp⟩
 | i :: is,out,hi,h=>by
  rw [List.foldl_cons]
  obtain ⟨h1,h2,h3⟩:=Q7q hb is (lyS p l out i) (fun j hj=>hi j (by simp [hj])) (Q8l hb (hi i (by simp)) h)
  have h4:((lyS p l out i).map (·.fShelves)).flatten = (out.map (·.fShelves)).flatten ++ [i]:=Qua (fun s=>rfl) rfl
  have h5:(lyS p l out i).length ≤ out.length + 1:=Qv7 _ _ _ _
  refine ⟨h1,by rw [h2,h4]; simp,by simp; omega⟩
theorem Q3r {p:Pallet} {l:List Shelf} (hb:OkS p l):(∀ s ∈ lyM p l,LyI p l.length s) ∧ ((lyM p l).map (·.fShelves)).flatten = Qka 0 l.length ∧ (lyM p l).length ≤ l.length:=by
 unfold lyM
 obtain ⟨h1,h2,h3⟩:=Q7q hb (Qka 0 l.length) [] (fun i hi=>by have:=Qk2.1 hi; omega) (by simp)
 refine ⟨h1,by simpa using h2,?_⟩
 rw [Qei] at h3
 simpa using h3
theorem Jgm {p:Pallet} {l:List Shelf} (h:OkS p l):(l.all fun s=>okL p s.fD s.fH s.fGram) = true:=by
 refine List.all_eq_true.2 fun s hs=>?_
 unfold okL
 simp only [Bool.and_eq_true,Qfu]
 exact ⟨(h s hs).1,(h s hs).2.1,(h s hs).2.2⟩
theorem Q9y {fu:Nat} (hfu:2097153 ≤ fu) {p:Pallet} (hp:Qzz p = true) {l:List Shelf} (hb:OkS p l) (hl:l.length ≤ 1000):Qnj fu p l = some (lyM p l):=by
 unfold Qnj lyM
 rw [Jex p l (by omega) (by omega),hp,Jgm hb,Qab,Bool.and_self,Bool.not_true,cond_false]
 obtain ⟨p1,p2,p3,p4⟩:=Q3x hp
 have L1:=Q82 (l.length:Int) (fun n (o:List Layer) i=>Qbm fu p l n o i) (fun xs o=>some (xs.foldl (lyS p l) o)) (fun xs o=>(∀ s ∈ o,LyI p l.length s) ∧ ((o.map (·.fShelves)).flatten).length + xs.length ≤ 1000 ∧ o.length + xs.length ≤ 1000) (by omega) ?_ ?_ l.length fu [] 0 (by omega) (by omega) (by omega) ⟨by simp,by simp [Qei]; omega,by simp [Qei]; omega⟩
 · exact L1
 · intro n o i xs x0 x1 hd hI ih
   obtain ⟨i2,i3,i4⟩:=hI
   simp only [List.length_cons] at i3 i4
   obtain ⟨hbx,b1,b2,b3,_⟩:=Q55 hb ⟨x0,x1⟩
   have hflat:((lyS p l o i).map (·.fShelves)).flatten = (o.map (·.fShelves)).flatten ++ [i]:=Qua (fun s=>rfl) rfl
   have hlen:(lyS p l o i).length ≤ o.length + 1:=Qv7 _ _ _ _
   have ih':=ih (lyS p l o i) ⟨Q8l hb ⟨x0,x1⟩ i2,by rw [hflat,List.length_append,List.length_singleton]; omega,by omega⟩
   have J:∀ (o':List Layer) (x:Layer),o'.length ≤ 1000 → (x.fShelves.length ≤ 1000) → (0 ≤ x.fD ∧ x.fD ≤ 2000) → (0 ≤ x.fGram ∧ x.fGram ≤ 100000) → Qc2 fu (Qbm fu p l n) i (shA l i) (o' ++ [x]) ((o'.length:Int) + 1) = Qbm fu p l n (o' ++ [Quf x i (shA l i)]) (w64 (i + 1)):=by
    intro o' x h1 h2 h3 h4
    unfold Qc2 Qm8
    have e1:w64 ((o'.length:Int) + 1 - 1) = (o'.length:Int):=by rw [Qcj (by omega) (by omega)]; omega
    have e2:ix (o' ++ [x]) (o'.length:Int) = some x:=by rw [Qrh]; simp
    rw [e1,e2,Qab,ap1 (by simp; omega),Qab,ap1 (by simp; omega),Qab,Q9j,Qab,Qab,Qcj (n:=x.fD + _) (by omega) (by omega),Qcj (n:=x.fGram + _) (by omega) (by omega)]
    have e3:∀ y:Layer,Qjp (o' ++ [x]) (o'.length:Int) y = o' ++ [y]:=by intro y; simp [Qjp]
    rw [e3]
    rfl
   simp only [Qbm.eq_2]
   unfold Qi6
   rw [hd,cond_true,hbx,Qab,List.foldl_cons,← ih']
   by_cases he:o = []
   · subst he
     rw [Qcm (by simp),ap1 (by simp),Qab]
     have:=J [] zLy (by simp) (by simp [zLy]) (by simp [zLy]) (by simp [zLy])
     rw [Qcj (by simp) (by simp)]
     exact this
   · obtain ⟨s,e1,e2⟩:=Q1b he
     have hpl:=List.length_pos_iff.2 he
     have hsm':=List.mem_of_getLast? e1
     have hs:=i2 s hsm'
     have hsl':=Qu8 (fun s:Layer=>s.fShelves) o s hsm'
     obtain ⟨s1,s2,s4,s5,s6⟩:=hs
     have eS:lyS p l o i = bif Q9l p (shA l i) s then o.set (o.length - 1) (Quf s i (shA l i)) else o ++ [Quf zLy i (shA l i)]:=Q0y e1
     have eo:o = o.dropLast ++ [s]:=by
      have h1:=List.dropLast_concat_getLast he
      rw [List.getLast?_eq_some_getLast he] at e1
      rw [Option.some.inj e1] at h1
      exact h1.symm
     have e3:Qc2 fu (Qbm fu p l n) i (shA l i) o (o.length:Int) = Qbm fu p l n (o.set (o.length - 1) (Quf s i (shA l i))) (w64 (i + 1)):=by
      obtain ⟨d,hd⟩:∃ d,o = d ++ [s]:=⟨_,eo⟩
      rw [hd] at i4 ⊢
      simp only [List.length_append,List.length_singleton] at i4
      have:=J d s (by omega) (by omega) (by omega) (by omega)
      rw [show (((d ++ [s]).length:Nat):Int) = (d.length:Int) + 1 by simp,this]
      congr 1
      simp
     have e4:Qc2 fu (Qbm fu p l n) i (shA l i) (o ++ [zLy]) (w64 ((o.length:Int) + 1)) = Qbm fu p l n (o ++ [Quf zLy i (shA l i)]) (w64 (i + 1)):=by
      rw [Qcj (by omega) (by omega)]
      exact J o zLy (by omega) (by simp [zLy]) (by simp [zLy]) (by simp [zLy])
     rw [Qcj (n:=(o.length:Int) - 1) (by omega) (by omega),e2,Qab,Qbj (by simp; omega),Qab,Qcj (n:=s.fD + _) (by omega) (by omega),Qcj (n:=s.fGram + _) (by omega) (by omega),ap1 (by simp; omega),Qab,e3]
     rw [show (⟨[],0,0,0⟩:Layer) = zLy from rfl,e4,eS]
     unfold Q9l
     by_cases c1:s.fD + (shA l i).fD ≤ p.fD
     · rw [Qbj (c:=decide (s.fD + (shA l i).fD > p.fD)) (by simp; omega),decide_eq_true c1]
       by_cases c2:s.fGram + (shA l i).fGram ≤ p.fGram
       · rw [Qbj (c:=decide (s.fGram + (shA l i).fGram > p.fGram)) (by simp; omega),decide_eq_true c2]; rfl
       · rw [Qcm (c:=decide (s.fGram + (shA l i).fGram > p.fGram)) (by simp; omega),decide_eq_false c2]; rfl
     · rw [Qcm (c:=decide (s.fD + (shA l i).fD > p.fD)) (by simp; omega),decide_eq_false c1]; rfl
 · intro n o i hd _
   simp only [Qbm.eq_2]
   unfold Qi6
   rw [hd,cond_false]; rfl
def lyA (l:List Layer) (i:Int):Layer:=(ix l i).getD zLy
def zLd:Load:=⟨[],0,0⟩
def Qvu (x:Load) (i:Int) (s:Layer):Load:=⟨x.fLayers ++ [i],x.fH + s.fH,x.fGram + s.fGram⟩
def Q9r (p:Pallet) (s:Layer) (x:Load):Bool:=decide (x.fH + s.fH ≤ p.fH) && decide (x.fGram + s.fGram ≤ p.fGram)
def ldS (p:Pallet) (l:List Layer) (out:List Load) (i:Int):List Load:=nxG (Q9r p (lyA l i)) (fun s=>Qvu s i (lyA l i)) zLd out
def ldM (p:Pallet) (l:List Layer):List Load:=(Qka 0 l.length).foldl (ldS p l) []
structure LdI (p:Pallet) (n:Nat) (s:Load):Prop where
 ne:s.fLayers ≠ []
 inn:∀ i ∈ s.fLayers,0 ≤ i ∧ i < n
 h:1 ≤ s.fH ∧ s.fH ≤ p.fH
 g:1 ≤ s.fGram ∧ s.fGram ≤ p.fGram
def OkY (p:Pallet) (l:List Layer):Prop:=∀ s ∈ l,(1 ≤ s.fD ∧ s.fD ≤ p.fD) ∧ (1 ≤ s.fH ∧ s.fH ≤ p.fH) ∧ (1 ≤ s.fGram ∧ s.fGram ≤ p.fGram)
theorem Q8c {p:Pallet} {l:List Layer} (h:OkY p l) {i:Int} (hi:0 ≤ i ∧ i < l.length):ix l i = some (lyA l i) ∧ (1 ≤ (lyA l i).fD ∧ (lyA l i).fD ≤ p.fD) ∧ (1 ≤ (lyA l i).fH ∧ (lyA l i).fH ≤ p.fH) ∧ (1 ≤ (lyA l i).fGram ∧ (lyA l i).fGram ≤ p.fGram) ∧ lyA l i ∈ l:=by
 obtain ⟨x,hx⟩:=Q3p (l:=l) hi.1 hi.2
 have e:lyA l i = x:=by unfold lyA; rw [hx]; rfl
 rw [e]
 exact ⟨hx,(h x (Qe2 hx)).1,(h x (Qe2 hx)).2.1,(h x (Qe2 hx)).2.2,Qe2 hx⟩
theorem Q77 {p:Pallet} {l:List Layer} (hb:OkY p l) {out:List Load} {i:Int} (hi:0 ≤ i ∧ i < l.length) (h:∀ s ∈ out,LdI p l.length s):∀ s ∈ ldS p l out i,LdI p l.length s:=by
 obtain ⟨_,b1,b2,b3,_⟩:=Q8c hb hi
 refine Q3q h (fun s hs hf=>?_) ⟨by simp [Qvu],fun j hj=>?_,?_,?_⟩
 · unfold Q9r at hf
   simp only [Bool.and_eq_true,decide_eq_true_eq] at hf
   obtain ⟨s1,s2,s5,s6⟩:=hs
   refine ⟨by simp [Qvu],fun j hj=>?_,?_,?_⟩
   · simp only [Qvu,List.mem_append,List.mem_singleton] at hj
     rcases hj with hj | rfl
     · exact s2 j hj
     · exact hi
   · simp only [Qvu]; omega
   · simp only [Qvu]; omega
 · simp only [Qvu,zLd,List.nil_append,List.mem_singleton] at hj
   rw [hj]; exact hi
 · simp only [Qvu,zLd]; omega
 · simp only [Qvu,zLd]; omega
theorem Q8e {p:Pallet} {l:List Layer} (hb:OkY p l):∀ (is:List Int) (out:List Load),(∀ i ∈ is,0 ≤ i ∧ i < l.length) → (∀ s ∈ out,LdI p l.length s) → (∀ s ∈ is.foldl (ldS p l) out,LdI p l.length s) ∧ ((is.foldl (ldS p l) out).map (·.fLayers)).flatten = (out.map (·.fLayers)).flatten ++ is ∧ (is.foldl (ldS p l) out).length ≤ out.length + is.length
 | [],out,_,h=>⟨h,by simp,by simp⟩
 | i :: is,out,hi,h=>by
  rw [List.foldl_cons]
  obtain ⟨h1,h2,h3⟩:=Q8e hb is (ldS p l out i) (fun j hj=>hi j (by simp [hj])) (Q77 hb (hi i (by simp)) h)
  have h4:((ldS p l out i).map (·.fLayers)).flatten = (out.map (·.fLayers)).flatten ++ [i]:=Qua (fun s=>rfl) rfl
  have h5:(ldS p l out i).length ≤ out.length + 1:=Qv7 _ _ _ _
  refine ⟨h1,by rw [h2,h4]; simp,by simp; omega⟩
theorem Q7b {p:Pallet} {l:List Layer} (hb:OkY p l):(∀ s ∈ ldM p l,LdI p l.length s) ∧ ((ldM p l).map (·.fLayers)).flatten = Qka 0 l.length ∧ (ldM p l).length ≤ l.length:=by
 unfold ldM
 obtain ⟨h1,h2,h3⟩:=Q8e hb (Qka 0 l.length) [] (fun i hi=>by have:=Qk2.1 hi; omega) (by simp)
 refine ⟨h1,by simpa using h2,?_⟩
 rw [Qei] at h3
 simpa using h3
theorem Jf3 {p:Pallet} {l:List Layer} (h:OkY p l):(l.all fun s=>okL p s.fD s.fH s.fGram) = true:=by
 refine List.all_eq_true.2 fun s hs=>?_
 unfold okL
 simp only [Bool.and_eq_true,Qfu]
 exact ⟨(h s hs).1,(h s hs).2.1,(h s hs).2.2⟩
theorem Jbq {fu:Nat} (hfu:2097153 ≤ fu) {p:Pallet} (hp:Qzz p = true) {l:List Layer} (hb:OkY p l) (hl:l.length ≤ 1000):Qo1 fu p l = some (ldM p l):=by
 unfold Qo1 ldM
 rw [Jfi p l (by omega) (by omega),hp,Jf3 hb,Qab,Bool.and_self,Bool.not_true,cond_false]
 obtain ⟨p1,p2,p3,p4⟩:=Q3x hp
 have L1:=Q82 (l.length:Int) (fun n (o:List Load) i=>Qbv fu p l n o i) (fun xs o=>some (xs.foldl (ldS p l) o)) (fun xs o=>(∀ s ∈ o,LdI p l.length s) ∧ ((o.map (·.fLayers)).flatten).length + xs.length ≤ 1000 ∧ o.length + xs.length ≤ 1000) (by omega) ?_ ?_ l.length fu [] 0 (by omega) (by omega) (by omega) ⟨by simp,by simp [Qei]; omega,by simp [Qei]; omega⟩
 · exact L1
 · intro n o i xs x0 x1 hd hI ih
   obtain ⟨i2,i3,i4⟩:=hI
   simp only [List.length_cons] at i3 i4
   obtain ⟨hbx,b1,b2,b3,_⟩:=Q8c hb ⟨x0,x1⟩
   have hflat:((ldS p l o i).map (·.fLayers)).flatten = (o.map (·.fLayers)).flatten ++ [i]:=Qua (fun s=>rfl) rfl
   have hlen:(ldS p l o i).length ≤ o.length + 1:=Qv7 _ _ _ _
   have ih':=ih (ldS p l o i) ⟨Q77 hb ⟨x0,x1⟩ i2,by rw [hflat,List.length_append,List.length_singleton]; omega,by omega⟩
   have J:∀ (o':List Load) (x:Load),o'.length ≤ 1000 → (x.fLayers.length ≤ 1000) → (0 ≤ x.fH ∧ x.fH ≤ 2000) → (0 ≤ x.fGram ∧ x.fGram ≤ 100000) → Qdc fu (Qbv fu p l n) i (lyA l i) (o' ++ [x]) ((o'.length:Int) + 1) = Qbv fu p l n (o' ++ [Qvu x i (lyA l i)]) (w64 (i + 1)):=by
    intro o' x h1 h2 h3 h4
    unfold Qdc Qop
    have e1:w64 ((o'.length:Int) + 1 - 1) = (o'.length:Int):=by rw [Qcj (by omega) (by omega)]; omega
    have e2:ix (o' ++ [x]) (o'.length:Int) = some x:=by rw [Qrh]; simp
    rw [e1,e2,Qab,ap1 (by simp; omega),Qab,ap1 (by simp; omega),Qab,Qab,Qcj (n:=x.fH + _) (by omega) (by omega),Qcj (n:=x.fGram + _) (by omega) (by omega)]
    have e3:∀ y:Load,Qjp (o' ++ [x]) (o'.length:Int) y = o' ++ [y]:=by intro y; simp [Qjp]
    rw [e3]
    rfl
   simp only [Qbv.eq_2]
   unfold Qkm
   rw [hd,cond_true,hbx,Qab,List.foldl_cons,← ih']
   by_cases he:o = []
   · subst he
     rw [Qcm (by simp),ap1 (by simp),Qab]
     have:=J [] zLd (by simp) (by simp [zLd]) (by simp [zLd]) (by simp [zLd])
     rw [Qcj (by simp) (by simp)]
     exact this
   · obtain ⟨s,e1,e2⟩:=Q1b he
     have hpl:=List.length_pos_iff.2 he
     have hsm':=List.mem_of_getLast? e1
     have hs:=i2 s hsm'
     have hsl':=Qu8 (fun s:Load=>s.fLayers) o s hsm'
     obtain ⟨s1,s2,s5,s6⟩:=hs
     have eS:ldS p l o i = bif Q9r p (lyA l i) s then o.set (o.length - 1) (Qvu s i (lyA l i)) else o ++ [Qvu zLd i (lyA l i)]:=Q0y e1
     have eo:o = o.dropLast ++ [s]:=by
      have h1:=List.dropLast_concat_getLast he
      rw [List.getLast?_eq_some_getLast he] at e1
      rw [Option.some.inj e1] at h1
      exact h1.symm
     have e3:Qdc fu (Qbv fu p l n) i (lyA l i) o (o.length:Int) = Qbv fu p l n (o.set (o.length - 1) (Qvu s i (lyA l i))) (w64 (i + 1)):=by
      obtain ⟨d,hd⟩:∃ d,o = d ++ [s]:=⟨_,eo⟩
      rw [hd] at i4 ⊢
      simp only [List.length_append,List.length_singleton] at i4
      have:=J d s (by omega) (by omega) (by omega) (by omega)
      rw [show (((d ++ [s]).length:Nat):Int) = (d.length:Int) + 1 by simp,this]
      congr 1
      simp
     have e4:Qdc fu (Qbv fu p l n) i (lyA l i) (o ++ [zLd]) (w64 ((o.length:Int) + 1)) = Qbv fu p l n (o ++ [Qvu zLd i (lyA l i)]) (w64 (i + 1)):=by
      rw [Qcj (by omega) (by omega)]
      exact J o zLd (by omega) (by simp [zLd]) (by simp [zLd]) (by simp [zLd])
     rw [Qcj (n:=(o.length:Int) - 1) (by omega) (by omega),e2,Qab,Qbj (by simp; omega),Qab,Qcj (n:=s.fH + _) (by omega) (by omega),Qcj (n:=s.fGram + _) (by omega) (by omega),ap1 (by simp; omega),Qab,e3]
     rw [show (⟨[],0,0⟩:Load) = zLd from rfl,e4,eS]
     unfold Q9r
     by_cases c1:s.fH + (lyA l i).fH ≤ p.fH
     · rw [Qbj (c:=decide (s.fH + (lyA l i).fH > p.fH)) (by simp; omega),decide_eq_true c1]
       by_cases c2:s.fGram + (lyA l i).fGram ≤ p.fGram
       · rw [Qbj (c:=decide (s.fGram + (lyA l i).fGram > p.fGram)) (by simp; omega),decide_eq_true c2]; rfl
       · rw [Qcm (c:=decide (s.fGram + (lyA l i).fGram > p.fGram)) (by simp; omega),decide_eq_false c2]; rfl
     · rw [Qcm (c:=decide (s.fH + (lyA l i).fH > p.fH)) (by simp; omega),decide_eq_false c1]; rfl
 · intro n o i hd _
   simp only [Qbv.eq_2]
   unfold Qkm
   rw [hd,cond_false]; rfl
end Go.Proofs.YtkkfmjpbiimkbaaGreat
/- The spots of boxes, by spec. -/
namespace Go.Proofs.YtkkfmjpbiimkbaaGreat
open Go
open Enc (rd ow)
open Arg (argv)
open Ret (retv)
open Wf (wf)
def zSp:Spot:=⟨0,0,0,0⟩
def ldA (l:List Load) (i:Int):Load:=(ix l i).getD zLd
def spB (l:List Box) (o y z:Int) (is:List Int) (s:List Spot × Int):List Spot × Int:=is.foldl (fun s b=>(Qjp s.1 b ⟨o,s.2,y,z⟩,s.2 + (bxA l b).fW)) s
def spS (l:List Box) (sh:List Shelf) (o z:Int) (js:List Int) (s:List Spot × Int):List Spot × Int:=js.foldl (fun s j=>((spB l o s.2 z (shA sh j).fList (s.1,0)).1,s.2 + (shA sh j).fD)) s
def spY (l:List Box) (sh:List Shelf) (ly:List Layer) (o:Int) (is:List Int) (s:List Spot × Int):List Spot × Int:=is.foldl (fun s i=>((spS l sh o s.2 (lyA ly i).fShelves (s.1,0)).1,s.2 + (lyA ly i).fH)) s
def spO (l:List Box) (sh:List Shelf) (ly:List Layer) (ld:List Load) (os:List Int) (out:List Spot):List Spot:=os.foldl (fun out o=>(spY l sh ly o (ldA ld o).fLayers (out,0)).1) out
def spM (p:Pallet) (l:List Box):List Spot:=bif Q1w p l then spO l (shM p l) (lyM p (shM p l)) (ldM p (lyM p (shM p l))) (Qka 0 (ldM p (lyM p (shM p l))).length) (List.replicate l.length zSp) else []
theorem Q1y {α:Type} (l:List α) (i:Int) (y:α):(Qjp l i y).length = l.length:=by simp [Qjp]
theorem Q3k (l:List Box) (o y z:Int):∀ (is:List Int) (s:List Spot × Int),(spB l o y z is s).1.length = s.1.length
 | [],_=>rfl
 | i :: is,s=>by
  have:=Q3k l o y z is (Qjp s.1 i ⟨o,s.2,y,z⟩,s.2 + (bxA l i).fW)
  rw [Q1y] at this
  exact this
theorem Q21 (l:List Box) (sh:List Shelf) (o z:Int):∀ (is:List Int) (s:List Spot × Int),(spS l sh o z is s).1.length = s.1.length
 | [],_=>rfl
 | i :: is,s=>by
  have:=Q21 l sh o z is ((spB l o s.2 z (shA sh i).fList (s.1,0)).1,s.2 + (shA sh i).fD)
  rw [Q3k] at this
  exact this
theorem Q2x (l:List Box) (sh:List Shelf) (ly:List Layer) (o:Int):∀ (is:List Int) (s:List Spot × Int),(spY l sh ly o is s).1.length = s.1.length
 | [],_=>rfl
 | i :: is,s=>by
  have:=Q2x l sh ly o is ((spS l sh o s.2 (lyA ly i).fShelves (s.1,0)).1,s.2 + (lyA ly i).fH)
  rw [Q21] at this
  exact this
theorem Q5y (l:List Box) (sh:List Shelf) (ly:List Layer) (ld:List Load):∀ (os:List Int) (out:List Spot),(spO l sh ly ld os out).length = out.length
 | [],_=>rfl
 | o :: os,out=>by
  have:=Q5y l sh ly ld os (spY l sh ly o (ldA ld o).fLayers (out,0)).1
  rw [Q2x] at this
  exact this
theorem Q6x {p:Pallet} {l:List Box} (h:Q1w p l = true):(spM p l).length = l.length:=by
 unfold spM
 rw [h,cond_true,Q5y,List.length_replicate]
theorem Jam {p:Pallet} {l:List Box} (h:Q1w p l = true):OkS p (shM p l):=fun s hs=>by
 have:=(Q2y h).1 s hs
 exact ⟨this.d,this.h,this.g⟩
theorem Jat {p:Pallet} {l:List Shelf} (h:OkS p l):OkY p (lyM p l):=fun s hs=>by
 have:=(Q3r h).1 s hs
 exact ⟨this.d,this.h,this.g⟩
theorem Jb1 {fu:Nat} (hfu:2097153 ≤ fu) (p:Pallet) (l:List Box) (hl:l.length ≤ 1000):Qmk fu p l = some (spM p l):=by
 unfold Qmk spM
 rw [Jbm (by omega),Qab,Jds p l (by omega) (by omega),Qab]
 cases hb:Q1w p l
 · rfl
 · obtain ⟨a1,a2,a3⟩:=Q2y hb
   have hS:=Jam hb
   obtain ⟨y1,y2,y3⟩:=Q3r hS
   have hY:=Jat hS
   obtain ⟨d1,d2,d3⟩:=Q7b hY
   have hpb:=Q52 hb
   obtain ⟨q1,q2,q3,q4⟩:=Q3x hpb
   rw [Bool.not_true,cond_false,cond_true,Q51 hfu p l hl,Qab,Q9y hfu hpb hS (by omega),Qab,Jbq hfu hpb hY (by omega),Qab]
   have f1:∀ s ∈ shM p l,s.fList.length ≤ 1000:=fun s hs=>by
    have:=Qu8 (fun s:Shelf=>s.fList) _ s hs
    rw [a2,Qu0] at this; omega
   have f2:∀ s ∈ lyM p (shM p l),s.fShelves.length ≤ 1000:=fun s hs=>by
    have:=Qu8 (fun s:Layer=>s.fShelves) _ s hs
    rw [y2,Qei] at this; omega
   have f3:∀ s ∈ ldM p (lyM p (shM p l)),s.fLayers.length ≤ 1000:=fun s hs=>by
    have:=Qu8 (fun s:Load=>s.fLayers) _ s hs
    rw [d2,Qei] at this; omega
   generalize ldM p (lyM p (shM p l)) = ld at d1 d3 f3 ⊢
   generalize lyM p (shM p l) = ly at y1 y3 hY d1 d3 f2 ⊢
   generalize shM p l = sh at a1 a3 hS y1 y3 f1 ⊢
   have L4:=Q82 (ld.length:Int) (fun n (out:List Spot) o=>Qbn fu l sh ly ld n out o) (fun os out=>some (spO l sh ly ld os out)) (fun os out=>out.length = l.length) (by omega) ?_ ?_ ld.length fu (List.replicate l.length zSp) 0 (by omega) (by omega) (by omega) (by simp)
   · exact L4
   · intro n out o os o0 o1 hd hI ih
     obtain ⟨x,hx⟩:=Q3p (l:=ld) o0 o1
     have ex:ldA ld o = x:=by unfold ldA; rw [hx]; rfl
     have hxm:=d1 x (Qe2 hx)
     have hxl:=f3 x (Qe2 hx)
     simp only [Qbn.eq_2]
     unfold Qkt
     rw [hd,cond_true]
     have L3:=lpI x.fLayers (fun m (s:List Spot × Int) i=>Qcc fu (Qbn fu l sh ly ld n) l sh ly ld o m s.1 s.2 i) (fun is s=>Qbn fu l sh ly ld n (spY l sh ly o is s).1 (w64 (o + 1))) (fun is s=>s.1.length = l.length ∧ (∀ i ∈ is,0 ≤ i ∧ i < ly.length) ∧ 0 ≤ s.2 ∧ s.2 + 2000 * is.length ≤ 2000000) (by omega) ?_ ?_ fu (out,0) ⟨hI,hxm.inn,by simp,by simp; omega⟩ (by omega)
     · refine L3.trans ?_
       rw [ih _ (by rw [Q2x]; exact hI)]
       simp only [spO,List.foldl_cons,ex]
     · intro m ⟨out,z⟩ i j is hj hd hI ih
       obtain ⟨i1,i2,i3,i4⟩:out.length = l.length ∧ (∀ i ∈ j :: is,0 ≤ i ∧ i < ly.length) ∧ 0 ≤ z ∧ z + 2000 * ((j :: is).length:Int) ≤ 2000000:=hI
       simp only [List.length_cons] at i4
       obtain ⟨hly,t1,t2,t3,hmem⟩:=Q8c hY (i2 j (by simp))
       have hyi:=y1 _ hmem
       have hyl:=f2 _ hmem
       simp only [Qcc.eq_2]
       unfold Qkq
       rw [hx,Qab,hd,cond_true,Qab,hj,Qab,hly,Qab]
       have L2:=lpI (lyA ly j).fShelves (fun q (s:List Spot × Int) k=>Qdd fu (Qcc fu (Qbn fu l sh ly ld n) l sh ly ld o m) l sh o z i (lyA ly j) q s.1 s.2 k) (fun ks s=>Qcc fu (Qbn fu l sh ly ld n) l sh ly ld o m (spS l sh o z ks s).1 (w64 (z + (lyA ly j).fH)) (w64 (i + 1))) (fun ks s=>s.1.length = l.length ∧ (∀ i ∈ ks,0 ≤ i ∧ i < sh.length) ∧ 0 ≤ s.2 ∧ s.2 + 2000 * ks.length ≤ 2000000) (by omega) ?_ ?_ fu (out,0) ⟨i1,hyi.inn,by simp,by simp; omega⟩ (by omega)
       · refine L2.trans ?_
         rw [Qcj (n:=z + _) (by omega) (by omega)]
         exact ih ((spS l sh o z (lyA ly j).fShelves (out,0)).1,z + (lyA ly j).fH) ⟨by rw [Q21]; exact i1,fun i hi=>i2 i (by simp [hi]),by simp; omega,by simp; omega⟩
       · intro q ⟨out,y⟩ k b ks hb2 hd hI ih
         obtain ⟨i1,i2,i3,i4⟩:out.length = l.length ∧ (∀ i ∈ b :: ks,0 ≤ i ∧ i < sh.length) ∧ 0 ≤ y ∧ y + 2000 * ((b :: ks).length:Int) ≤ 2000000:=hI
         simp only [List.length_cons] at i4
         obtain ⟨hsh,u1,u2,u3,hmem2⟩:=Q55 hS (i2 b (by simp))
         have hsi:=a1 _ hmem2
         have hsl:=f1 _ hmem2
         simp only [Qdd.eq_2]
         unfold Qk9
         rw [hd,cond_true,hb2,Qab,hsh,Qab]
         have L1:=lpI (shA sh b).fList (fun q' (s:List Spot × Int) k'=>Qge fu (Qdd fu (Qcc fu (Qbn fu l sh ly ld n) l sh ly ld o m) l sh o z i (lyA ly j) q) l o z y k (shA sh b) q' s.1 s.2 k') (fun bs s=>Qdd fu (Qcc fu (Qbn fu l sh ly ld n) l sh ly ld o m) l sh o z i (lyA ly j) q (spB l o y z bs s).1 (w64 (y + (shA sh b).fD)) (w64 (k + 1))) (fun bs s=>s.1.length = l.length ∧ (∀ i ∈ bs,0 ≤ i ∧ i < l.length) ∧ 0 ≤ s.2 ∧ s.2 + 2000 * bs.length ≤ 2000000) (by omega) ?_ ?_ fu (out,0) ⟨i1,hsi.inn,by simp,by simp; omega⟩ (by omega)
         · refine L1.trans ?_
           rw [Qcj (n:=y + _) (by omega) (by omega)]
           exact ih ((spB l o y z (shA sh b).fList (out,0)).1,y + (shA sh b).fD) ⟨by rw [Q3k]; exact i1,fun i hi=>i2 i (by simp [hi]),by simp; omega,by simp; omega⟩
         · intro q' ⟨out,x'⟩ k' c bs hc hd hI ih
           obtain ⟨i1,i2,i3,i4⟩:out.length = l.length ∧ (∀ i ∈ c :: bs,0 ≤ i ∧ i < l.length) ∧ 0 ≤ x' ∧ x' + 2000 * ((c :: bs).length:Int) ≤ 2000000:=hI
           simp only [List.length_cons] at i4
           have hcr:=i2 c (by simp)
           obtain ⟨hbx,v1,v2,v3,v4⟩:=Q79 hb hcr
           obtain ⟨sp,hsp⟩:=Q3p (l:=out) hcr.1 (by omega)
           simp only [Qge.eq_2]
           unfold Qkj
           rw [hd,cond_true,hc,Qab,hsp,Qab,Qab,hbx,Qab,Qcj (n:=x' + _) (by omega) (by omega)]
           exact ih (Qjp out c ⟨o,x',y,z⟩,x' + (bxA l c).fW) ⟨by rw [Q1y]; exact i1,fun i hi=>i2 i (by simp [hi]),by simp; omega,by simp; omega⟩
         · intro q' ⟨out,x'⟩ k' hd _
           simp only [Qge.eq_2]
           unfold Qkj
           rw [hd,cond_false]; rfl
       · intro q ⟨out,y⟩ k hd _
         simp only [Qdd.eq_2]
         unfold Qk9
         rw [hd,cond_false]; rfl
     · intro m ⟨out,z⟩ i hd _
       simp only [Qcc.eq_2]
       unfold Qkq
       rw [hx,Qab,hd,cond_false]; rfl
   · intro n out o hd _
     simp only [Qbn.eq_2]
     unfold Qkt
     rw [hd,cond_false]; rfl
def Q8y (n:Int) (out:List Spot):Prop:=∀ s ∈ out,0 ≤ s.fPallet ∧ s.fPallet ≤ n
theorem Q95 {n:Int} {out:List Spot} {i:Int} {s:Spot} (h:Q8y n out) (hs:0 ≤ s.fPallet ∧ s.fPallet ≤ n):Q8y n (Qjp out i s):=by
 intro t ht
 unfold Qjp at ht
 rcases List.mem_or_eq_of_mem_set ht with ht | rfl
 · exact h t ht
 · exact hs
theorem Q7w {n:Int} (l:List Box) (o y z:Int) (ho:0 ≤ o ∧ o ≤ n):∀ (is:List Int) (s:List Spot × Int),Q8y n s.1 → Q8y n (spB l o y z is s).1
 | [],_,h=>h
 | i :: is,s,h=>Q7w l o y z ho is (Qjp s.1 i ⟨o,s.2,y,z⟩,s.2 + (bxA l i).fW) (Q95 h ho)
theorem Q6s {n:Int} (l:List Box) (sh:List Shelf) (o z:Int) (ho:0 ≤ o ∧ o ≤ n):∀ (is:List Int) (s:List Spot × Int),Q8y n s.1 → Q8y n (spS l sh o z is s).1
 | [],_,h=>h
 | i :: is,s,h=>Q6s l sh o z ho is ((spB l o s.2 z (shA sh i).fList (s.1,0)).1,s.2 + (shA sh i).fD) (Q7w l o s.2 z ho _ (s.1,0) h)
theorem Q59 {n:Int} (l:List Box) (sh:List Shelf) (ly:List Layer) (o:Int) (ho:0 ≤ o ∧ o ≤ n):∀ (is:List Int) (s:List Spot × Int),Q8y n s.1 → Q8y n (spY l sh ly o is s).1
 | [],_,h=>h
 | i :: is,s,h=>Q59 l sh ly o ho is ((spS l sh o s.2 (lyA ly i).fShelves (s.1,0)).1,s.2 + (lyA ly i).fH) (Q6s l sh o s.2 ho _ (s.1,0) h)
theorem Q8d {n:Int} (l:List Box) (sh:List Shelf) (ly:List Layer) (ld:List Load):∀ (os:List Int) (out:List Spot),(∀ o ∈ os,0 ≤ o ∧ o ≤ n) → Q8y n out → Q8y n (spO l sh ly ld os out)
 | [],_,_,h=>h
 | o :: os,out,ho,h=>Q8d l sh ly ld os (spY l sh ly o (ldA ld o).fLayers (out,0)).1 (fun q hq=>ho q (by simp [hq])) (Q59 l sh ly o (ho o (by simp)) _ (out,0) h)
theorem Jdy {p:Pallet} {l:List Box} (hl:l.length ≤ 1000):∀ s ∈ spM p l,0 ≤ s.fPallet ∧ s.fPallet ≤ 1000:=by
 unfold spM
 cases hb:Q1w p l
 · simp
 · have a3:=(Q2y hb).2.2
   have hS:=Jam hb
   have y3:=(Q3r hS).2.2
   have d3:=(Q7b (Jat hS)).2.2
   rw [cond_true]
   refine Q8d l _ _ _ _ _ (fun o ho=>?_) fun s hs=>?_
   · have:=Qk2.1 ho; omega
   · rw [(List.mem_replicate.1 hs).2]; simp [zSp]
end Go.Proofs.YtkkfmjpbiimkbaaGreat
/- What the ways of packing keep: every unit once, every carton within the master's. -/
namespace Go.Proofs.YtkkfmjpbiimkbaaGreat
open Go
open Enc (rd ow)
open Arg (argv)
open Ret (retv)
open Wf (wf)
def Jcu:List Int → Int
 | []=>1
 | x :: xs=>x * Jcu xs
theorem Q9x {a b:List Int} (h:a.Perm b):Jcu a = Jcu b:=by
 induction h with
 | nil=>rfl
 | cons x _ ih=>simp only [Jcu,ih]
 | swap x y l=>simp only [Jcu,← Int.mul_assoc]; rw [Int.mul_comm x y]
 | trans _ _ h1 h2=>rw [h1,h2]
theorem Q58 (a b c:Int):(sid a b c).1 * ((sid a b c).2.1 * (sid a b c).2.2) = a * b * c:=by
 have h:=Q8a a b c
 unfold Q0z at h
 simp only [List.length_cons,List.length_nil] at h
 rw [if_pos (by omega)] at h
 have hp:=List.mergeSort_perm [a,b,c] fun x y=>decide (x ≤ y)
 rw [Option.some.inj h] at hp
 have:=Q9x hp
 simp only [Jcu,Int.mul_one] at this
 rw [this,Int.mul_assoc]
theorem Jd3 {a b c m:Int} (ha:m ≤ a) (hb:m ≤ b) (hc:m ≤ c):m ≤ (sid a b c).1:=by
 unfold sid
 simp only
 split <;> split <;> omega
theorem Jci {x:Item} {t:Typ} (hx:Qwt x = true) (ht:Q0n t = true) (h:Qzn x t = true):Q6w x ≤ Q8x t ∧ x.fGram ≤ t.fGram:=by
 simp only [Qwt,Bool.and_eq_true,Qfu] at hx
 simp only [Q0n,Bool.and_eq_true,Qfu] at ht
 simp only [Qzn,Bool.and_eq_true,decide_eq_true_eq] at h
 obtain ⟨⟨⟨h1,h2⟩,h3⟩,h4⟩:=h
 refine ⟨?_,h4⟩
 have e1:Q6w x = x.fW * x.fH * x.fD:=by
  unfold Q6w Q5m
  rw [show (inb x.fW 0 2000 && (inb x.fH 0 2000 && inb x.fD 0 2000)) = true by simp; omega,cond_true]
 have e2:Q8x t = t.fW * t.fH * t.fD:=by
  unfold Q8x Q5m
  rw [show (inb t.fW 0 2000 && (inb t.fH 0 2000 && inb t.fD 0 2000)) = true by simp; omega,cond_true]
 rw [e1,e2,← Q58 x.fW x.fH x.fD,← Q58 t.fW t.fH t.fD]
 have p1:1 ≤ (sid x.fW x.fH x.fD).1:=Jd3 (by omega) (by omega) (by omega)
 have s1:=Q0a x.fW x.fH x.fD
 have s2:=Q0a t.fW t.fH t.fD
 refine Int.mul_le_mul h1 ?_ (Int.mul_nonneg (by omega) (by omega)) (by omega)
 exact Int.mul_le_mul h2 h3 (by omega) (by omega)
theorem Q0r {r:Request} {u:Int} (h:0 ≤ u ∧ u < (Qh8 r).length):Qtp r u ∈ r.fItems:=(Q3e (Quv h)).2
theorem Q3z {r:Request} {u:Int} (h:0 ≤ u ∧ u < (Qh8 r).length):Qhm r = 0:=(Q3e (Quv h)).1
theorem Q8n {r:Request} (hc:Qhm r = 0):Qsh r r.fMaster = some (Qxg r) ∧ Qxg r ∈ r.fTypes ∧ Q0n (Qxg r) = true:=by
 have h:=(Qf7 hc).2.1
 unfold Q6y at h
 simp only [Bool.and_eq_true] at h
 obtain ⟨t,ht⟩:=Option.isSome_iff_exists.1 h.1.2
 have e:Qxg r = t:=by unfold Qxg; rw [ht]; rfl
 have hm:t ∈ r.fTypes:=List.mem_of_find?_eq_some ht
 rw [e]
 exact ⟨ht,hm,Qx3 (Qf7 hc).1 t hm⟩
theorem Q74 {r:Request} {u:Int} (h:0 ≤ u ∧ u < (Qh8 r).length):Qyv r [u] = Q6w (Qtp r u) ∧ Qvl r [u] = (Qtp r u).fGram:=by
 unfold Qyv Qvl Qwq
 simp [List.filterMap_cons,Quv h]
theorem Q6r {r:Request} {u:Int} (h:0 ≤ u ∧ u < (Qh8 r).length):Q3a r [u] (Qxg r) = true:=by
 have hc:=Q3z h
 have hz:=Qf7 hc
 have hm:=Q0r h
 obtain ⟨h1,h2⟩:=Jci ((Qr1 hz.1).1 _ hm) (Q8n hc).2.2 (hz.2.2.2.1 _ hm)
 unfold Q3a
 rw [(Q74 h).1,(Q74 h).2,Bool.and_eq_true,decide_eq_true_iff,decide_eq_true_iff]
 exact ⟨h1,h2⟩
def Qc (r:Request) (us:List Int) (l:List Int):Prop:=l ≠ [] ∧ (∀ u ∈ l,u ∈ us) ∧ Q3a r l (Qxg r) = true
theorem Jem {r:Request} {us:List Int} {out:List (List Int)} {u:Int} (h:∀ l ∈ out,Qc r us l) (hu:u ∈ us) (hr:0 ≤ u ∧ u < (Qh8 r).length):∀ l ∈ Jdd r out u,Qc r us l:=by
 have hn:Qc r us [u]:=⟨by simp,fun v hv=>by rw [List.mem_singleton.1 hv]; exact hu,Q6r hr⟩
 intro l hl
 unfold Jdd Jcv at hl
 split at hl
 · rename_i i hi
   obtain ⟨x,hx,hg⟩:=Qu7 hi
   rw [hx] at hl
   rcases List.mem_or_eq_of_mem_set hl with hl | rfl
   · exact h l hl
   · have hq:=h x (List.mem_of_getElem? hx)
     refine ⟨by simp,fun v hv=>?_,hg⟩
     rcases List.mem_append.1 hv with hv | hv
     · exact hq.2.1 v hv
     · rw [List.mem_singleton.1 hv]; exact hu
 · rcases List.mem_append.1 hl with hl | hl
   · exact h l hl
   · rw [List.mem_singleton.1 hl]; exact hn
theorem Jc7 {r:Request} {us:List Int} {out:List (List Int)} {u:Int} (h:∀ l ∈ out,Qc r us l) (hu:u ∈ us) (hr:0 ≤ u ∧ u < (Qh8 r).length):∀ l ∈ Q8t r out u,Qc r us l:=by
 have hn:Qc r us [u]:=⟨by simp,fun v hv=>by rw [List.mem_singleton.1 hv]; exact hu,Q6r hr⟩
 intro l hl
 cases hlast:out.getLast? with
 | none =>
  unfold Q8t at hl
  rw [hlast] at hl
  rw [List.mem_singleton.1 hl]; exact hn
 | some x =>
  rw [Q2m u hlast] at hl
  have hq:=h x (List.mem_of_getLast? hlast)
  cases hg:Q5v r u x
  · rw [hg,cond_false] at hl
    rcases List.mem_append.1 hl with hl | hl
    · exact h l hl
    · rw [List.mem_singleton.1 hl]; exact hn
  · rw [hg,cond_true] at hl
    rcases List.mem_or_eq_of_mem_set hl with hl | rfl
    · exact h l hl
    · refine ⟨by simp,fun v hv=>?_,hg⟩
      rcases List.mem_append.1 hv with hv | hv
      · exact hq.2.1 v hv
      · rw [List.mem_singleton.1 hv]; exact hu
theorem Q7v {r:Request} {us:List Int} {F:List (List Int) → Int → List (List Int)} (hF:∀ out u,(∀ l ∈ out,Qc r us l) → u ∈ us → (0 ≤ u ∧ u < (Qh8 r).length) → ∀ l ∈ F out u,Qc r us l):∀ (vs:List Int) (out:List (List Int)),(∀ u ∈ vs,u ∈ us ∧ 0 ≤ u ∧ u < (Qh8 r).length) → (∀ l ∈ out,Qc r us l) → ∀ l ∈ vs.foldl F out,Qc r us l
 | [],out,_,h=>h
 | v :: vs,out,hv,h=>by
  rw [List.foldl_cons]
  have h1:=hv v (by simp)
  exact Q7v hF vs _ (fun u hu=>hv u (by simp [hu])) (hF out v h h1.1 h1.2)
theorem Q7l (r:Request) (us:List Int):(Jcf r us).Perm us:=by
 unfold Jcf
 refine ((Quc _ _).map _).trans ?_
 have key:∀ (xs pre:List Int),us = pre ++ xs → (Qka pre.length xs.length).map (fun p=>(ix us p).getD 0) = xs:=by
  intro xs
  induction xs with
  | nil=>intro pre _; rfl
  | cons x xs ih =>
   intro pre he
   have h1:=ih (pre ++ [x]) (by simp [he])
   simp only [List.length_append,List.length_singleton] at h1
   simp only [List.length_cons,Qka,List.map_cons]
   rw [show ((pre.length:Int) + 1) = ((pre.length + 1:Nat):Int) by omega,h1]
   congr 1
   rw [Qrh,he]
   simp
 have:=key us [] rfl
 simp only [List.length_nil] at this
 exact List.Perm.of_eq this
theorem Jg5 {r:Request} {us:List Int}:∀ l ∈ pwM r us,Qc r (Qvw r us) l:=by
 unfold pwM nfM ffM
 have ht:∀ u ∈ Qvw r us,u ∈ Qvw r us ∧ 0 ≤ u ∧ u < (Qh8 r).length:=fun u hu=>⟨hu,Qx9 hu⟩
 cases r.fWay == 1
 · rw [cond_false]
   exact Q7v (fun out u h hu hr=>Jem h hu hr) _ [] (fun u hu=>ht u ((Q7l r _).mem_iff.1 hu)) (by simp)
 · rw [cond_true]
   exact Q7v (fun out u h hu hr=>Jc7 h hu hr) _ [] ht (by simp)
end Go.Proofs.YtkkfmjpbiimkbaaGreat
/- What is marked: orders, lists of numbers, lists of lists. -/
namespace Go.Proofs.YtkkfmjpbiimkbaaGreat
open Go
open Enc (rd ow)
open Arg (argv)
open Ret (retv)
open Wf (wf)
theorem Qtd {α:Type} (xs:List α) (n:Int) (y:α):(Qjp xs n y).length = xs.length:=by simp [Qjp]
end Go.Proofs.YtkkfmjpbiimkbaaGreat
/- Lists of cartons in the laws: their size, copies, equality, marks. -/
namespace Go.Proofs.YtkkfmjpbiimkbaaGreat
open Go
open Enc (rd ow)
open Arg (argv)
open Ret (retv)
open Wf (wf)
def Q46:List Carton → Nat
 | []=>0
 | x :: xs=>x.fUnits.length + Q46 xs
end Go.Proofs.YtkkfmjpbiimkbaaGreat
/- Plans in the laws: their size, copies, equality, marks. -/
namespace Go.Proofs.YtkkfmjpbiimkbaaGreat
open Go
open Enc (rd ow)
open Arg (argv)
open Ret (retv)
open Wf (wf)
structure Sp (x:Plan):Prop where
 cars:x.fCartons.length ≤ 1048576
 units:∀ c ∈ x.fCartons,c.fUnits.length ≤ 1048576
 all:Q46 x.fCartons ≤ 1048576
 spots:x.fSpots.length ≤ 1048576
end Go.Proofs.YtkkfmjpbiimkbaaGreat
/- PlanOk, by spec and by impl. -/
namespace Go.Proofs.YtkkfmjpbiimkbaaGreat
open Go
open Enc (rd ow)
open Arg (argv)
open Ret (retv)
open Wf (wf)
def Ja1:List Int → List Int → Bool
 | _,[]=>true
 | pre,x :: xs=>inb x 0 999 && ((match pre.getLast? with | none=>true | some y=>decide (y < x)) && Ja1 (pre ++ [x]) xs)
def Jdl (l:List Int):Bool:=Ja1 [] l && decide ((l.length:Int) ≤ 100)
def Jau (c:Carton):Bool:=inb c.fType 0 999 && (inb c.fGroup 0 3 && Jdl c.fUnits)
def Jc4 (s:Spot):Bool:=inb s.fPallet 0 2000 && (inb s.fX 0 2000 && (inb s.fY 0 2000 && inb s.fZ 0 2000))
def Q38 (x:Plan):Bool:=x.fSpots.length == x.fCartons.length && (decide ((x.fCartons.length:Int) ≤ 100) && (x.fCartons.zip x.fSpots).all fun p=>Jau p.1 && Jc4 p.2)
theorem Q7e {pre:List Int} {x:Int} {xs l:List Int} (hl:l.length ≤ 1048576) (e:l = pre ++ x :: xs):(pre.getLast? = none ∧ pre.length = 0) ∨ ∃ y,pre.getLast? = some y ∧ 0 < pre.length ∧ ix l (w64 ((pre.length:Int) - 1)) = some y:=by
 cases hp:pre.getLast? with
 | none=>exact .inl ⟨rfl,by simpa using List.getLast?_eq_none_iff.1 hp⟩
 | some y =>
  have hne:pre ≠ []:=fun e=>by subst e; simp at hp
  have hpos:0 < pre.length:=List.length_pos_iff.2 hne
  refine .inr ⟨y,rfl,hpos,?_⟩
  have h1:w64 ((pre.length:Int) - 1) = ((pre.length - 1:Nat):Int):=by
   have:pre.length ≤ l.length:=by rw [e]; simp
   rw [Qcj (by omega) (by omega)]; omega
  rw [h1,Qrh,e,List.getElem?_append_left (by omega),← List.getLast?_eq_getElem?,hp]
theorem Jfj {fu:Nat} {l:List Int} (hl:l.length ≤ 1048576) (hf:l.length < fu):Qj2 fu l = some (Jdl l):=by
 unfold Qj2 Jdl
 have key:=lpP l (fun n (_:Unit) i=>Qdk fu l n i) (fun pre xs _=>some (Ja1 pre xs && decide ((l.length:Int) ≤ 100))) (by omega) ?_ ?_ fu () hf
 · exact key
 · intro n _ pre x xs e hx hd ih
   have ih:=ih ()
   simp only [Qdk.eq_2]
   unfold Qht Qgy Ja1
   rw [hd,cond_true,hx,Qab,Q2q,Qab]
   cases inb x 0 999
   · rfl
   · rw [Bool.not_true,cond_false,Bool.true_and]
     rcases Q7e (hl:=hl) e with ⟨h1,h2⟩ | ⟨y,h1,h2,h3⟩
     · rw [h1,show decide ((pre.length:Int) > 0) = false from decide_eq_false (by omega),cond_false,ih]
       simp
     · rw [h1,show decide ((pre.length:Int) > 0) = true from decide_eq_true (by omega),cond_true,h3,Qab,ih]
       by_cases hy:y < x
       · rw [show decide (y ≥ x) = false by simp; omega,cond_false]; simp [hy]
       · rw [show decide (y ≥ x) = true by simp; omega,cond_true]; simp [hy]
 · intro n _ hd
   simp only [Qdk.eq_2]
   unfold Qht
   rw [hd,cond_false]
   simp [Ja1]
theorem Jf5 {fu:Nat} {c:Carton} (hl:c.fUnits.length ≤ 1048576) (hf:c.fUnits.length < fu):Ql7 fu c = some (Jau c):=by
 unfold Ql7 Jau
 rw [Jeu,Qab,Qzv,Qab]
 cases inb c.fType 0 999
 · rfl
 · rw [Bool.not_true,cond_false]
   cases inb c.fGroup 0 3
   · rfl
   · rw [Bool.not_true,cond_false,Bool.true_and,Bool.true_and]
     unfold Jdl
     by_cases h1:(c.fUnits.length:Int) ≤ 100
     · rw [show decide ((c.fUnits.length:Int) > 100) = false by simp; omega,cond_false,show decide ((c.fUnits.length:Int) ≤ 100) = true by simpa using h1,Bool.and_true]
       unfold Qk8
       have key:=lpP c.fUnits (fun n (_:Unit) i=>Qd2 fu c n i) (fun pre xs _=>some (Ja1 pre xs)) (by omega) ?_ ?_ fu () hf
       · exact key
       · intro n _ pre x xs e hx hd ih
         have ih:=ih ()
         simp only [Qd2.eq_2]
         unfold Qio Qhk Ja1
         rw [hd,cond_true,hx,Qab,Qzv,Qab]
         cases inb x 0 999
         · rfl
         · rw [Bool.not_true,cond_false,Bool.true_and]
           rcases Q7e (hl:=hl) e with ⟨h1,h2⟩ | ⟨y,h1,h2,h3⟩
           · rw [h1,show decide ((pre.length:Int) > 0) = false from decide_eq_false (by omega),cond_false,ih]
             simp
           · rw [h1,show decide ((pre.length:Int) > 0) = true from decide_eq_true (by omega),cond_true,Qab,h3,Qab,ih]
             by_cases hy:y < x
             · rw [show decide (x ≤ y) = false by simp; omega,cond_false]; simp [hy]
             · rw [show decide (x ≤ y) = true by simp; omega,cond_true]; simp [hy]
       · intro n _ hd
         simp only [Qd2.eq_2]
         unfold Qio
         rw [hd,cond_false]
         simp [Ja1]
     · rw [show decide ((c.fUnits.length:Int) > 100) = true by simp; omega,cond_true,show decide ((c.fUnits.length:Int) ≤ 100) = false by simpa using h1,Bool.and_false]
theorem Qwo {α β:Type} {a:List α} {b:List β} {i:Int} {p:α × β} (h:ix (a.zip b) i = some p):ix a i = some p.1 ∧ ix b i = some p.2:=by
 obtain ⟨h0,_,h1⟩:=Qas h
 have:=List.getElem?_zip_eq_some.1 h1
 unfold ix
 rw [if_pos h0,if_pos h0]
 exact this
theorem Jff {fu:Nat} {x:Plan} (h:Sp x) (hf:1048577 ≤ fu):Qqv fu x = some (Q38 x):=by
 have hs:=h.spots
 have hc:=h.cars
 unfold Qqv Q38
 cases he:x.fSpots.length == x.fCartons.length
 · have:((x.fSpots.length:Int) != (x.fCartons.length:Int)) = true:=by simp at he ⊢; omega
   rw [this]; rfl
 · have el:x.fSpots.length = x.fCartons.length:=by simpa using he
   have:((x.fSpots.length:Int) != (x.fCartons.length:Int)) = false:=by simp; omega
   rw [this,cond_false,Bool.true_and]
   by_cases h1:(x.fCartons.length:Int) ≤ 100
   · rw [show decide ((x.fCartons.length:Int) > 100) = false by simp; omega,cond_false,show decide ((x.fCartons.length:Int) ≤ 100) = true by simpa using h1,Bool.true_and]
     unfold Qpr
     have hz:(x.fCartons.zip x.fSpots).length = x.fCartons.length:=by simp; omega
     have key:=lp (x.fCartons.zip x.fSpots) (fun n (_:Unit) i=>Qf1 fu x n i) (fun l _=>some (l.all fun p=>Jau p.1 && Jc4 p.2)) (by omega) ?_ ?_ fu () (by omega)
     · exact key
     · intro n _ i p xs hx hd ih
       have ih:=ih ()
       obtain ⟨e1,e2⟩:=Qwo hx
       have hu:=h.units p.1 (Qe2 e1)
       rw [hz] at hd
       simp only [Qf1.eq_2]
       unfold Qnd Qpp
       simp only [hd,cond_true,e1,e2,Qab,Q2q,Jfj hu (show p.1.fUnits.length < fu by omega),Q3l,ih,List.all_cons]
       unfold Jau Jc4
       cases inb p.1.fType 0 999 <;> cases inb p.1.fGroup 0 3 <;> cases Jdl p.1.fUnits <;> cases inb p.2.fPallet 0 2000 <;> cases inb p.2.fX 0 2000 <;> cases inb p.2.fY 0 2000 <;> cases inb p.2.fZ 0 2000 <;> rfl
     · intro n _ i hd
       rw [hz] at hd
       simp only [Qf1.eq_2]
       unfold Qnd
       simp [hd]
   · rw [show decide ((x.fCartons.length:Int) > 100) = true by simp; omega,cond_true,show decide ((x.fCartons.length:Int) ≤ 100) = false by simpa using h1,Bool.false_and]
theorem Jgf {fu:Nat} {x:Plan} (h:Sp x) (hf:1048577 ≤ fu):Qq8 fu x = some (Q38 x):=by
 have hs:=h.spots
 have hc:=h.cars
 unfold Qq8 Q38
 cases he:x.fSpots.length == x.fCartons.length
 · have:((x.fCartons.length:Int) != (x.fSpots.length:Int)) = true:=by simp at he ⊢; omega
   rw [this]; rfl
 · have el:x.fSpots.length = x.fCartons.length:=by simpa using he
   have:((x.fCartons.length:Int) != (x.fSpots.length:Int)) = false:=by simp; omega
   rw [this,cond_false,Bool.true_and]
   by_cases h1:(x.fCartons.length:Int) ≤ 100
   · rw [show decide ((x.fCartons.length:Int) > 100) = false by simp; omega,cond_false,show decide ((x.fCartons.length:Int) ≤ 100) = true by simpa using h1,Bool.true_and]
     unfold Qps
     have hz:(x.fCartons.zip x.fSpots).length = x.fCartons.length:=by simp; omega
     have key:=lp (x.fCartons.zip x.fSpots) (fun n (_:Unit) i=>Qfw fu x n i) (fun l _=>some (l.all fun p=>Jau p.1 && Jc4 p.2)) (by omega) ?_ ?_ fu () (by omega)
     · exact key
     · intro n _ i p xs hx hd ih
       have ih:=ih ()
       obtain ⟨e1,e2⟩:=Qwo hx
       have hu:=h.units p.1 (Qe2 e1)
       rw [hz] at hd
       simp only [Qfw.eq_2]
       unfold Qmv Qp3
       simp only [hd,cond_true,e1,e2,Qab,Qzv,Jf5 hu (show p.1.fUnits.length < fu by omega),ih,List.all_cons]
       unfold Jc4
       cases Jau p.1 <;> cases inb p.2.fPallet 0 2000 <;> cases inb p.2.fX 0 2000 <;> cases inb p.2.fY 0 2000 <;> cases inb p.2.fZ 0 2000 <;> rfl
     · intro n _ i hd
       rw [hz] at hd
       simp only [Qfw.eq_2]
       unfold Qmv
       simp [hd]
   · rw [show decide ((x.fCartons.length:Int) > 100) = true by simp; omega,cond_true,show decide ((x.fCartons.length:Int) ≤ 100) = false by simpa using h1,Bool.false_and]
end Go.Proofs.YtkkfmjpbiimkbaaGreat
/- OnPallet and PalletGram, by spec and by impl. -/
namespace Go.Proofs.YtkkfmjpbiimkbaaGreat
open Go
open Enc (rd ow)
open Arg (argv)
open Ret (retv)
open Wf (wf)
def onL (k:Int):Int → List Spot → List Int
 | _,[]=>[]
 | i,s :: l=>bif s.fPallet == k then i :: onL k (i + 1) l else onL k (i + 1) l
def onM (x:Plan) (k:Int):List Int:=bif x.fSpots.length == x.fCartons.length then onL k 0 x.fSpots else []
theorem Q8h (k:Int):∀ (l:List Spot) (a i:Int),i ∈ onL k a l ↔ ∃ (j:Nat) (s:Spot),l[j]? = some s ∧ i = a + j ∧ s.fPallet = k
 | [],a,i=>by simp [onL]
 | s :: l,a,i=>by
  have ih:=Q8h k l (a + 1) i
  constructor
  · intro h
    unfold onL at h
    cases hk:s.fPallet == k
    · rw [hk,cond_false] at h
      obtain ⟨j,t,h1,h2,h3⟩:=ih.1 h
      exact ⟨j + 1,t,by simpa using h1,by omega,h3⟩
    · rw [hk,cond_true,List.mem_cons] at h
      rcases h with rfl | h
      · exact ⟨0,s,rfl,by omega,by simpa using hk⟩
      · obtain ⟨j,t,h1,h2,h3⟩:=ih.1 h
        exact ⟨j + 1,t,by simpa using h1,by omega,h3⟩
  · rintro ⟨j,t,h1,h2,h3⟩
    unfold onL
    cases j with
    | zero =>
     simp only [List.getElem?_cons_zero,Option.some.injEq] at h1
     subst h1
     rw [show (s.fPallet == k) = true by simpa using h3,cond_true]
     simp; omega
    | succ j =>
     have:i ∈ onL k (a + 1) l:=ih.2 ⟨j,t,by simpa using h1,by omega,h3⟩
     cases s.fPallet == k <;> simp [this]
theorem Q7s (k:Int):∀ (l:List Spot) (a:Int),(onL k a l).length ≤ l.length
 | [],_=>Nat.le_refl _
 | s :: l,a=>by
  have:=Q7s k l (a + 1)
  unfold onL
  cases s.fPallet == k <;> simp <;> omega
theorem Q0p (x:Plan) (k:Int):(onM x k).length ≤ x.fSpots.length:=by
 unfold onM
 cases x.fSpots.length == x.fCartons.length
 · simp
 · exact Q7s k _ 0
theorem Qyb {x:Plan} {k i:Int} (h:i ∈ onM x k):∃ c s,ix x.fCartons i = some c ∧ ix x.fSpots i = some s ∧ s.fPallet = k:=by
 unfold onM at h
 cases he:x.fSpots.length == x.fCartons.length
 · rw [he] at h; simp at h
 · rw [he,cond_true] at h
   obtain ⟨j,s,h1,h2,h3⟩:=(Q8h k _ 0 i).1 h
   have hj:=(List.getElem?_eq_some_iff.1 h1).1
   have hl:x.fSpots.length = x.fCartons.length:=by simpa using he
   have e:i = (j:Int):=by omega
   subst e
   exact ⟨_,s,Qz2 (by omega),Jdb h1,h3⟩
theorem Jfc {fu:Nat} {x:Plan} (hl:x.fSpots.length ≤ 1048576) (hf:x.fSpots.length < fu) (k:Int):Qhg fu x k = some (onM x k):=by
 unfold Qhg onM
 cases he:x.fSpots.length == x.fCartons.length
 · have:((x.fSpots.length:Int) != (x.fCartons.length:Int)) = true:=by simp at he ⊢; omega
   rw [this]; rfl
 · have:((x.fSpots.length:Int) != (x.fCartons.length:Int)) = false:=by simp at he ⊢; omega
   rw [this,cond_false,cond_true]
   have key:=Jcm x.fSpots (fun n (o:List Int) i=>Qel fu x k n o i) (fun pre xs o=>some (o ++ onL k pre.length xs)) (fun pre xs o=>o.length + xs.length ≤ 1048576) (by omega) ?_ ?_ fu [] (by simp; omega) hf
   · simpa using key
   · intro n o pre s xs e hx hd hI ih
     simp only [List.length_cons] at hI
     simp only [Qel.eq_2]
     unfold Qi8 Qir onL
     rw [hd,cond_true,hx,Qab]
     cases s.fPallet == k
     · rw [cond_false,cond_false,ih _ (by omega)]; simp
     · rw [cond_true,cond_true,ap1 (by simp; omega),Qab,ih _ (by simp; omega)]; simp
   · intro n o hd _
     simp only [Qel.eq_2]
     unfold Qi8
     rw [hd,cond_false]; simp [onL]
theorem Jgp {fu:Nat} {x:Plan} (hl:x.fSpots.length ≤ 1048576) (hc:x.fCartons.length ≤ 1048576) (hf:x.fSpots.length < fu) (hf':x.fCartons.length < fu) (k:Int):Qj8 fu x k = some (onM x k):=by
 unfold Qj8 onM
 cases he:x.fSpots.length == x.fCartons.length
 · have e:((x.fCartons.length:Int) == (x.fSpots.length:Int)) = false:=by simp at he ⊢; omega
   obtain ⟨m,rfl⟩:∃ m,fu = m + 1:=⟨fu - 1,by omega⟩
   rw [Qc1.eq_2]
   unfold Qgz
   rw [e]
   cases decide ((0:Int) < (x.fCartons.length:Int)) <;> rfl
 · have el:x.fSpots.length = x.fCartons.length:=by simpa using he
   have e:((x.fCartons.length:Int) == (x.fSpots.length:Int)) = true:=by simp; omega
   rw [cond_true]
   have key:=Jcm x.fSpots (fun n (o:List Int) i=>Qc1 fu x k n o i) (fun pre xs o=>some (o ++ onL k pre.length xs)) (fun pre xs o=>o.length + xs.length ≤ 1048576) (by omega) ?_ ?_ fu [] (by simp; omega) hf
   · simpa using key
   · intro n o pre s xs e1 hx hd hI ih
     simp only [List.length_cons] at hI
     simp only [Qc1.eq_2]
     unfold Qgz Qm7 Qin onL
     rw [el] at hd
     rw [hd,cond_true,e,cond_true,hx,Qab]
     cases s.fPallet == k
     · rw [cond_false,cond_false,ih _ (by omega)]; simp
     · rw [cond_true,cond_true,ap1 (by simp; omega),Qab,ih _ (by simp; omega)]; simp
   · intro n o hd _
     simp only [Qc1.eq_2]
     unfold Qgz
     rw [← el,hd,cond_false]; simp [onL]
def Jg8:Carton:=⟨0,0,[]⟩
def Qzx (x:Plan) (i:Int):Carton:=(ix x.fCartons i).getD Jg8
def pgM (r:Request) (x:Plan) (k:Int):Int:=Qvx ((onM x k).map fun i=>Q5u r (Qzx x i))
theorem Jav (r:Request) (c:Carton) (hl:c.fUnits.length ≤ 1048576):0 ≤ Q5u r c ∧ Q5u r c ≤ 104857700000:=by
 unfold Q5u
 cases ht:Qsh r c.fType with
 | none=>simp
 | some t =>
  cases hc:Qhm r == 0
  · simp
  · have h1:=Q7u (by simpa using hc) ht
    have h2:=Q2z r c.fUnits
    simp only [cond_true]
    omega
theorem Jgw {fu:Nat} {r:Request} (h:Sm fu r) {x:Plan} (hx:Sp x) (k:Int):Qhe fu r x k = some (pgM r x k):=by
 have hfu:=h.fu
 have h1:=hx.spots
 have h2:=Q0p x k
 unfold Qhe pgM
 rw [Jfc h1 (by omega),Qab]
 have key:=lpI (onM x k) (fun n (s:Int) i=>Qed fu r x (onM x k) n s i) (fun l s=>some (s + Qvx (l.map fun i=>Q5u r (Qzx x i)))) (fun l s=>0 ≤ s ∧ s + 104857700000 * l.length ≤ 104857700000 * 1048576 ∧ ∀ i ∈ l,∃ c,ix x.fCartons i = some c) (by omega) ?_ ?_ fu 0 ⟨by omega,by omega,fun i hi=>?_⟩ (by omega)
 · simpa using key
 · intro n s i j xs hj hd hI ih
   obtain ⟨c,hc⟩:=hI.2.2 j (by simp)
   have hcu:=hx.units c (Qe2 hc)
   have hg:=Jav r c hcu
   have hI2:=hI.2.1
   simp only [List.length_cons] at hI2
   simp only [Qed.eq_2]
   unfold Qhu
   rw [hd,cond_true,hj,Qab,hc,Qab,Q6z h c hcu,Qab,Qcj (by omega) (by omega),ih _ ⟨by omega,by omega,fun i hi=>hI.2.2 i (by simp [hi])⟩]
   simp only [List.map_cons,Qpa,Qzx,hc,Option.getD_some]
   congr 1
   omega
 · intro n s i hd _
   simp only [Qed.eq_2]
   unfold Qhu
   rw [hd,cond_false]; simp
 · obtain ⟨c,_,hc,_⟩:=Qyb hi
   exact ⟨c,hc⟩
theorem Jg7 {fu:Nat} {r:Request} (h:Sm fu r) {x:Plan} (hx:Sp x) (k:Int):Qjo fu r x k = some (pgM r x k):=by
 have hfu:=h.fu
 have h1:=hx.spots
 have h0:=hx.cars
 have h2:=Q0p x k
 unfold Qjo pgM
 rw [Jgp h1 h0 (by omega) (by omega),Qab]
 have key:=lpI (onM x k) (fun n (s:Int) i=>Qef fu r x (onM x k) n s i) (fun l s=>some (s + Qvx (l.map fun i=>Q5u r (Qzx x i)))) (fun l s=>0 ≤ s ∧ s + 104857700000 * l.length ≤ 104857700000 * 1048576 ∧ ∀ i ∈ l,∃ c,ix x.fCartons i = some c) (by omega) ?_ ?_ fu 0 ⟨by omega,by omega,fun i hi=>?_⟩ (by omega)
 · simpa using key
 · intro n s i j xs hj hd hI ih
   obtain ⟨c,hc⟩:=hI.2.2 j (by simp)
   have hcu:=hx.units c (Qe2 hc)
   have hg:=Jav r c hcu
   have hI2:=hI.2.1
   simp only [List.length_cons] at hI2
   simp only [Qef.eq_2]
   unfold Qhv
   rw [hd,cond_true,hj,Qab,hc,Qab,Q75 h c hcu,Qab,Qcj (by omega) (by omega),ih _ ⟨by omega,by omega,fun i hi=>hI.2.2 i (by simp [hi])⟩]
   simp only [List.map_cons,Qpa,Qzx,hc,Option.getD_some]
   congr 1
   omega
 · intro n s i hd _
   simp only [Qef.eq_2]
   unfold Qhv
   rw [hd,cond_false]; simp
 · obtain ⟨c,_,hc,_⟩:=Qyb hi
   exact ⟨c,hc⟩
end Go.Proofs.YtkkfmjpbiimkbaaGreat
/- Lost of spec and of impl. -/
namespace Go.Proofs.YtkkfmjpbiimkbaaGreat
open Go
open Enc (rd ow)
open Arg (argv)
open Ret (retv)
open Wf (wf)
def Qqf (l:List Carton):List Int:=(l.map (·.fUnits)).flatten
theorem Qtq (l:List Carton):(Qqf l).length = Q46 l:=by
 induction l with
 | nil=>rfl
 | cons c l ih =>
  have e:Qqf (c :: l) = c.fUnits ++ Qqf l:=rfl
  rw [e,List.length_append,ih]; rfl
theorem Jdt {fu:Nat} {x:Plan} (h:Sp x) (hf:1048577 ≤ fu):Qo0 fu x = some (Qqf x.fCartons):=by
 have hc:=h.cars
 have hl:=Qtq x.fCartons
 have ha:=h.all
 unfold Qo0
 have:=lpI x.fCartons (fun n out i=>Qgj fu x n out i) (fun xs out=>some (out ++ Qqf xs)) (fun xs out=>out.length + (Qqf xs).length ≤ 1048576) (by omega) ?_ ?_ fu [] (by simp; omega) (by omega)
 · simpa using this
 · intro n out i c xs hx hd hI ih
   have e:Qqf (c :: xs) = c.fUnits ++ Qqf xs:=rfl
   rw [e,List.length_append] at hI
   simp only [Qgj.eq_2]
   unfold Qkz
   rw [hd,cond_true,hx,Qab,ap1 (by omega),Qab,ih _ (by simp; omega),e]
   simp
 · intro n out i hd hI
   simp only [Qgj.eq_2]
   unfold Qkz
   simp only [hd,cond_false]
   simp [Qqf]
theorem Jaz {fu:Nat} {x:Plan} (h:Sp x) (hf:1048577 ≤ fu):Qjt fu x = some (Qqf x.fCartons):=by
 have hc:=h.cars
 have hl:=Qtq x.fCartons
 have ha:=h.all
 unfold Qjt
 have:=lpI x.fCartons (fun n out i=>Qfi fu x n out i) (fun xs out=>some (out ++ Qqf xs)) (fun xs out=>out.length + (Qqf xs).length ≤ 1048576) (by omega) ?_ ?_ fu [] (by simp; omega) (by omega)
 · simpa using this
 · intro n out i c xs hx hd hI ih
   have e:Qqf (c :: xs) = c.fUnits ++ Qqf xs:=rfl
   rw [e,List.length_append] at hI
   simp only [Qfi.eq_2]
   unfold Qjj
   rw [hd,cond_true,hx,Qab,ap1 (by omega),Qab,ih _ (by simp; omega),e]
   simp
 · intro n out i hd hI
   simp only [Qfi.eq_2]
   unfold Qjj
   simp only [hd,cond_false]
   simp [Qqf]
def Jen (r:Request) (x:Plan):List Int:=(Qka 0 (Qh8 r).length).filter fun u=>!(Qqf x.fCartons).contains u
theorem Jdo {fu:Nat} {r:Request} (h:Sm fu r) {x:Plan} (hx:Sp x):Qse fu r x = some (Jen r x):=by
 have hfu:=h.fu
 have hul:=Qva r
 have hfl:=Qtq x.fCartons
 have ha:=hx.all
 unfold Qse Jen
 rw [Jaz hx (by omega),Qab,Q9a h,Qab,Q4w _ (by omega) (by omega),Qab,Jde (fun y=>Qqk fu y (Qqf x.fCartons)) (fun u=>(Qqf x.fCartons).contains u) (fun u _=>by unfold Qqk; rw [Jda (by omega) (by omega)]; rfl) (by rw [Qei]; omega) (by rw [Qei]; omega),Qab]
end Go.Proofs.YtkkfmjpbiimkbaaGreat
/- Mixes of spec and of impl. -/
namespace Go.Proofs.YtkkfmjpbiimkbaaGreat
open Go
open Enc (rd ow)
open Arg (argv)
open Ret (retv)
open Wf (wf)
theorem Jfb {fu:Nat} {gs:List (List Int)} (hl:gs.length ≤ 4) (hm:∀ g ∈ gs,g.length ≤ 4) (hfu:100 ≤ fu) (c:Int):Qow fu gs c = some (Q9w gs c):=by
 unfold Qow
 have:=Qr9 gs (fun n i=>Qgg fu gs c n i) (fun g=>g.contains c) (by omega) (by
  intro n i x hx hd
  have:=hm x (Qe2 hx)
  simp only [Qgg.eq_2]
  unfold Qk6
  simp only [hd,cond_true,hx,Qab,Jbh (show x.length ≤ 1048576 by omega) (show x.length < fu by omega)]) (by
  intro n i hd
  simp only [Qgg.eq_2]
  unfold Qk6
  simp only [hd,cond_false]) fu (by omega)
 rw [this,Q0f]
 unfold Q9w
 cases Qvv (fun g=>g.contains c) gs <;> simp
end Go.Proofs.YtkkfmjpbiimkbaaGreat
