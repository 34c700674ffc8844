import Derived.Test.YthddjkokpfdbnaaGreatMirroredBP3
set_option linter.unusedSimpArgs false
set_option linter.unusedVariables false
/- Layers and loads of spec. -/
namespace Go.Proofs.YthddjkokpfdbnaaGreat
open Go
open Enc (rd ow)
open Arg (argv)
open Ret (retv)
open Wf (wf)
def okL (p:Pallet) (d h g:Int):Bool:=inb d 1 p.fD && (inb h 1 p.fH && inb g 1 p.fV)
theorem Jfg (fu:Nat) (p:Pallet) (d h g:Int):Qqp fu p d h g = some (okL p d h g):=by
 unfold Qqp okL
 simp only [Q1a,Qab]
 cases inb d 1 p.fD <;> cases inb h 1 p.fH <;> rfl
theorem Jhx {fu:Nat} (p:Pallet) (l:List Shelf) (hl:l.length ≤ 1048576) (hf:l.length < fu):Qmh fu p l = some (Qx4 p && l.all fun s=>okL p s.fD s.fH s.fV):=by
 unfold Qmh
 rw [Jam,Qab]
 cases Qx4 p
 · rfl
 · rw [Bool.not_true,cond_false,Bool.true_and]
   have:=Jds l (fun n i=>Qew fu p l n i) (fun s=>okL p s.fD s.fH s.fV) (some true) (by omega) ?_ ?_ fu hf
   · rw [this]
     cases l.all fun s=>okL p s.fD s.fH s.fV <;> rfl
   · intro n i x hx hd
     simp only [Qew.eq_2]
     unfold Qip
     simp only [hd,cond_true,hx,Qab,Jfg]
     cases okL p x.fD x.fH x.fV <;> rfl
   · intro n i hd
     simp only [Qew.eq_2]
     unfold Qip
     rw [hd,cond_false]
theorem Jhk {fu:Nat} (p:Pallet) (l:List Layer) (hl:l.length ≤ 1048576) (hf:l.length < fu):Qnv fu p l = some (Qx4 p && l.all fun s=>okL p s.fD s.fH s.fV):=by
 unfold Qnv
 rw [Jam,Qab]
 cases Qx4 p
 · rfl
 · rw [Bool.not_true,cond_false,Bool.true_and]
   have:=Jds l (fun n i=>Qfs fu p l n i) (fun s=>okL p s.fD s.fH s.fV) (some true) (by omega) ?_ ?_ fu hf
   · rw [this]
     cases l.all fun s=>okL p s.fD s.fH s.fV <;> rfl
   · intro n i x hx hd
     simp only [Qfs.eq_2]
     unfold Qi3
     simp only [hd,cond_true,hx,Qab,Jfg]
     cases okL p x.fD x.fH x.fV <;> rfl
   · intro n i hd
     simp only [Qfs.eq_2]
     unfold Qi3
     rw [hd,cond_false]
def shA (l:List Shelf) (i:Int):Shelf:=(ix l i).getD zSh
def zLy:Layer:=⟨[],0,0,0⟩
def Qu1 (x:Layer) (i:Int) (s:Shelf):Layer:=⟨x.ft ++ [i],x.fD + s.fD,mxI x.fH s.fH,x.fV + s.fV⟩
def Jbi (p:Pallet) (s:Shelf) (x:Layer):Bool:=decide (x.fD + s.fD ≤ p.fD) && decide (x.fV + s.fV ≤ p.fV)
def lyS (p:Pallet) (l:List Shelf) (out:List Layer) (i:Int):List Layer:=nxG (Jbi p (shA l i)) (fun s=>Qu1 s i (shA l i)) zLy out
def lyM (p:Pallet) (l:List Shelf):List Layer:=(Qlq 0 l.length).foldl (lyS p l) []
structure LyI (p:Pallet) (n:Nat) (s:Layer):Prop where
 ne:s.ft ≠ []
 inn:∀ i ∈ s.ft,0 ≤ i ∧ i < n
 d:1 ≤ s.fD ∧ s.fD ≤ p.fD
 h:1 ≤ s.fH ∧ s.fH ≤ p.fH
 g:1 ≤ s.fV ∧ s.fV ≤ p.fV
def OkS (p:Pallet) (l:List Shelf):Prop:=∀ s ∈ l,(1 ≤ s.fD ∧ s.fD ≤ p.fD) ∧ (1 ≤ s.fH ∧ s.fH ≤ p.fH) ∧ (1 ≤ s.fV ∧ s.fV ≤ p.fV)
theorem Q7a {p:Pallet} {l:List Shelf} (h:OkS p l) {i:Int} (hi:0 ≤ i ∧ i < l.length):ix l i = some (shA l i) ∧ (1 ≤ (shA l i).fD ∧ (shA l i).fD ≤ p.fD) ∧ (1 ≤ (shA l i).fH ∧ (shA l i).fH ≤ p.fH) ∧ (1 ≤ (shA l i).fV ∧ (shA l i).fV ≤ p.fV) ∧ shA l i ∈ l:=by
 obtain ⟨x,hx⟩:=Q9f (l:=l) hi.1 hi.2
 have e:shA l i = x:=by unfold shA; rw [hx]; rfl
 rw [e]
 exact ⟨hx,(h x (Qeg hx)).1,(h x (Qeg hx)).2.1,(h x (Qeg hx)).2.2,Qeg hx⟩
theorem Q7b {p:Pallet} {l:List Shelf} (hb:OkS p l) {out:List Layer} {i:Int} (hi:0 ≤ i ∧ i < l.length) (h:∀ s ∈ out,LyI p l.length s):∀ s ∈ lyS p l out i,LyI p l.length s:=by
 obtain ⟨_,b1,b2,b3,_⟩:=Q7a hb hi
 refine Q4n h (fun s hs hf=>?_) ⟨by simp [Qu1],fun j hj=>?_,?_,?_,?_⟩
 · unfold Jbi at hf
   simp only [Bool.and_eq_true,decide_eq_true_eq] at hf
   obtain ⟨s1,s2,s4,s5,s6⟩:=hs
   have m2:=Q00 s.fH (shA l i).fH
   refine ⟨by simp [Qu1],fun j hj=>?_,?_,?_,?_⟩
   · simp only [Qu1,List.mem_append,List.mem_singleton] at hj
     rcases hj with hj | rfl
     · exact s2 j hj
     · exact hi
   · simp only [Qu1]; omega
   · simp only [Qu1]; omega
   · simp only [Qu1]; omega
 · simp only [Qu1,zLy,List.nil_append,List.mem_singleton] at hj
   rw [hj]; exact hi
 · simp only [Qu1,zLy]; omega
 · have:=Q00 0 (shA l i).fH
   simp only [Qu1,zLy]; omega
 · simp only [Qu1,zLy]; omega
theorem Q9u {p:Pallet} {l:List Shelf} (hb:OkS p l):∀ (is:List Int) (out:List Layer),(∀ i ∈ is,0 ≤ i ∧ i < l.length) → (∀ s ∈ out,LyI p l.length s) → (∀ s ∈ is.foldl (lyS p l) out,LyI p l.length s) ∧ ((is.foldl (lyS p l) out).map (·.ft)).flatten = (out.map (·.ft)).flatten ++ is ∧ (is.foldl (lyS p l) out).length ≤ out.length + is.length
 | [],out,_,h=>⟨h,by simp,by simp⟩
 | i :: is,out,hi,h=>by
  rw [List.foldl_cons]
  obtain ⟨h1,h2,h3⟩:=Q9u hb is (lyS p l out i) (fun j hj=>hi j (by simp [hj])) (Q7b hb (hi i (by simp)) h)
  have h4:((lyS p l out i).map (·.ft)).flatten = (out.map (·.ft)).flatten ++ [i]:=Quv (fun s=>rfl) rfl
  have h5:(lyS p l out i).length ≤ out.length + 1:=Qwf _ _ _ _
  refine ⟨h1,by rw [h2,h4]; simp,by simp; omega⟩
theorem Q4j {p:Pallet} {l:List Shelf} (hb:OkS p l):(∀ s ∈ lyM p l,LyI p l.length s) ∧ ((lyM p l).map (·.ft)).flatten = Qlq 0 l.length ∧ (lyM p l).length ≤ l.length:=by
 unfold lyM
 obtain ⟨h1,h2,h3⟩:=Q9u hb (Qlq 0 l.length) [] (fun i hi=>by have:=Qky.1 hi; omega) (by simp)
 refine ⟨h1,by simpa using h2,?_⟩
 rw [Qfd] at h3
 simpa using h3
theorem Jhq {p:Pallet} {l:List Shelf} (h:OkS p l):(l.all fun s=>okL p s.fD s.fH s.fV) = true:=by
 refine List.all_eq_true.2 fun s hs=>?_
 unfold okL
 simp only [Bool.and_eq_true,Qc7]
 exact ⟨(h s hs).1,(h s hs).2.1,(h s hs).2.2⟩
theorem Ja0 {fu:Nat} (hfu:2097153 ≤ fu) {p:Pallet} (hp:Qx4 p = true) {l:List Shelf} (hb:OkS p l) (hl:l.length ≤ 1000):Qnx fu p l = some (lyM p l):=by
 unfold Qnx lyM
 rw [Jhx p l (by omega) (by omega),hp,Jhq hb,Qab,Bool.and_self,Bool.not_true,cond_false]
 obtain ⟨p1,p2,p3,p4⟩:=Q44 hp
 have L1:=Jbu (l.length:Int) (fun n (o:List Layer) i=>Qbi fu p l n o i) (fun xs o=>some (xs.foldl (lyS p l) o)) (fun xs o=>(∀ s ∈ o,LyI p l.length s) ∧ ((o.map (·.ft)).flatten).length + xs.length ≤ 1000 ∧ o.length + xs.length ≤ 1000) (by omega) ?_ ?_ l.length fu [] 0 (by omega) (by omega) (by omega) ⟨by simp,by simp [Qfd]; omega,by simp [Qfd]; omega⟩
 · exact L1
 · intro n o i xs x0 x1 hd hI ih
   obtain ⟨i2,i3,i4⟩:=hI
   simp only [List.length_cons] at i3 i4
   obtain ⟨hbx,b1,b2,b3,_⟩:=Q7a hb ⟨x0,x1⟩
   have hflat:((lyS p l o i).map (·.ft)).flatten = (o.map (·.ft)).flatten ++ [i]:=Quv (fun s=>rfl) rfl
   have hlen:(lyS p l o i).length ≤ o.length + 1:=Qwf _ _ _ _
   have ih':=ih (lyS p l o i) ⟨Q7b hb ⟨x0,x1⟩ i2,by rw [hflat,List.length_append,List.length_singleton]; omega,by omega⟩
   have J:∀ (o':List Layer) (x:Layer),o'.length ≤ 1000 → (x.ft.length ≤ 1000) → (0 ≤ x.fD ∧ x.fD ≤ 2000) → (0 ≤ x.fV ∧ x.fV ≤ 100000) → Qcz fu (Qbi fu p l n) i (shA l i) (o' ++ [x]) ((o'.length:Int) + 1) = Qbi fu p l n (o' ++ [Qu1 x i (shA l i)]) (w64 (i + 1)):=by
    intro o' x h1 h2 h3 h4
    unfold Qcz Qmz
    have e1:w64 ((o'.length:Int) + 1 - 1) = (o'.length:Int):=by rw [Qa8 (by omega) (by omega)]; omega
    have e2:ix (o' ++ [x]) (o'.length:Int) = some x:=by rw [Qq8]; simp
    rw [e1,e2,Qab,ap1 (by simp; omega),Qab,ap1 (by simp; omega),Qab,Jbo,Qab,Qab,Qa8 (n:=x.fD + _) (by omega) (by omega),Qa8 (n:=x.fV + _) (by omega) (by omega)]
    have e3:∀ y:Layer,Qhx (o' ++ [x]) (o'.length:Int) y = o' ++ [y]:=by intro y; simp [Qhx]
    rw [e3]
    rfl
   simp only [Qbi.eq_2]
   unfold Qjl
   rw [hd,cond_true,hbx,Qab,List.foldl_cons,← ih']
   by_cases he:o = []
   · subst he
     rw [Qcl (by simp),ap1 (by simp),Qab]
     have:=J [] zLy (by simp) (by simp [zLy]) (by simp [zLy]) (by simp [zLy])
     rw [Qa8 (by simp) (by simp)]
     exact this
   · obtain ⟨s,e1,e2⟩:=Q19 he
     have hpl:=List.length_pos_iff.2 he
     have hsm':=List.mem_of_getLast? e1
     have hs:=i2 s hsm'
     have hsl':=Qvo (fun s:Layer=>s.ft) o s hsm'
     obtain ⟨s1,s2,s4,s5,s6⟩:=hs
     have eS:lyS p l o i = bif Jbi p (shA l i) s then o.set (o.length - 1) (Qu1 s i (shA l i)) else o ++ [Qu1 zLy i (shA l i)]:=Q13 e1
     have eo:o = o.dropLast ++ [s]:=by
      have h1:=List.dropLast_concat_getLast he
      rw [List.getLast?_eq_some_getLast he] at e1
      rw [Option.some.inj e1] at h1
      exact h1.symm
     have e3:Qcz fu (Qbi fu p l n) i (shA l i) o (o.length:Int) = Qbi fu p l n (o.set (o.length - 1) (Qu1 s i (shA l i))) (w64 (i + 1)):=by
      obtain ⟨d,hd⟩:∃ d,o = d ++ [s]:=⟨_,eo⟩
      rw [hd] at i4 ⊢
      simp only [List.length_append,List.length_singleton] at i4
      have:=J d s (by omega) (by omega) (by omega) (by omega)
      rw [show (((d ++ [s]).length:Nat):Int) = (d.length:Int) + 1 by simp,this]
      congr 1
      simp
     have e4:Qcz fu (Qbi fu p l n) i (shA l i) (o ++ [zLy]) (w64 ((o.length:Int) + 1)) = Qbi fu p l n (o ++ [Qu1 zLy i (shA l i)]) (w64 (i + 1)):=by
      rw [Qa8 (by omega) (by omega)]
      exact J o zLy (by omega) (by simp [zLy]) (by simp [zLy]) (by simp [zLy])
     rw [Qa8 (n:=(o.length:Int) - 1) (by omega) (by omega),e2,Qab,Qbe (by simp; omega),Qab,Qa8 (n:=s.fD + _) (by omega) (by omega),Qa8 (n:=s.fV + _) (by omega) (by omega),ap1 (by simp; omega),Qab,e3]
     rw [show (⟨[],0,0,0⟩:Layer) = zLy from rfl,e4,eS]
     unfold Jbi
     by_cases c1:s.fD + (shA l i).fD ≤ p.fD
     · rw [Qbe (c:=decide (s.fD + (shA l i).fD > p.fD)) (by simp; omega),decide_eq_true c1]
       by_cases c2:s.fV + (shA l i).fV ≤ p.fV
       · rw [Qbe (c:=decide (s.fV + (shA l i).fV > p.fV)) (by simp; omega),decide_eq_true c2]; rfl
       · rw [Qcl (c:=decide (s.fV + (shA l i).fV > p.fV)) (by simp; omega),decide_eq_false c2]; rfl
     · rw [Qcl (c:=decide (s.fD + (shA l i).fD > p.fD)) (by simp; omega),decide_eq_false c1]; rfl
 · intro n o i hd _
   simp only [Qbi.eq_2]
   unfold Qjl
   rw [hd,cond_false]; rfl
def lyA (l:List Layer) (i:Int):Layer:=(ix l i).getD zLy
def zLd:Load:=⟨[],0,0⟩
def Qv5 (x:Load) (i:Int) (s:Layer):Load:=⟨x.qQ ++ [i],x.fH + s.fH,x.fV + s.fV⟩
def Jag (p:Pallet) (s:Layer) (x:Load):Bool:=decide (x.fH + s.fH ≤ p.fH) && decide (x.fV + s.fV ≤ p.fV)
def ldS (p:Pallet) (l:List Layer) (out:List Load) (i:Int):List Load:=nxG (Jag p (lyA l i)) (fun s=>Qv5 s i (lyA l i)) zLd out
def ldM (p:Pallet) (l:List Layer):List Load:=(Qlq 0 l.length).foldl (ldS p l) []
structure LdI (p:Pallet) (n:Nat) (s:Load):Prop where
 ne:s.qQ ≠ []
 inn:∀ i ∈ s.qQ,0 ≤ i ∧ i < n
 h:1 ≤ s.fH ∧ s.fH ≤ p.fH
 g:1 ≤ s.fV ∧ s.fV ≤ p.fV
def OkY (p:Pallet) (l:List Layer):Prop:=∀ s ∈ l,(1 ≤ s.fD ∧ s.fD ≤ p.fD) ∧ (1 ≤ s.fH ∧ s.fH ≤ p.fH) ∧ (1 ≤ s.fV ∧ s.fV ≤ p.fV)
theorem Q75 {p:Pallet} {l:List Layer} (h:OkY p l) {i:Int} (hi:0 ≤ i ∧ i < l.length):ix l i = some (lyA l i) ∧ (1 ≤ (lyA l i).fD ∧ (lyA l i).fD ≤ p.fD) ∧ (1 ≤ (lyA l i).fH ∧ (lyA l i).fH ≤ p.fH) ∧ (1 ≤ (lyA l i).fV ∧ (lyA l i).fV ≤ p.fV) ∧ lyA l i ∈ l:=by
 obtain ⟨x,hx⟩:=Q9f (l:=l) hi.1 hi.2
 have e:lyA l i = x:=by unfold lyA; rw [hx]; rfl
 rw [e]
 exact ⟨hx,(h x (Qeg hx)).1,(h x (Qeg hx)).2.1,(h x (Qeg hx)).2.2,Qeg hx⟩
theorem Q93 {p:Pallet} {l:List Layer} (hb:OkY p l) {out:List Load} {i:Int} (hi:0 ≤ i ∧ i < l.length) (h:∀ s ∈ out,LdI p l.length s):∀ s ∈ ldS p l out i,LdI p l.length s:=by
 obtain ⟨_,b1,b2,b3,_⟩:=Q75 hb hi
 refine Q4n h (fun s hs hf=>?_) ⟨by simp [Qv5],fun j hj=>?_,?_,?_⟩
 · unfold Jag at hf
   simp only [Bool.and_eq_true,decide_eq_true_eq] at hf
   obtain ⟨s1,s2,s5,s6⟩:=hs
   refine ⟨by simp [Qv5],fun j hj=>?_,?_,?_⟩
   · simp only [Qv5,List.mem_append,List.mem_singleton] at hj
     rcases hj with hj | rfl
     · exact s2 j hj
     · exact hi
   · simp only [Qv5]; omega
   · simp only [Qv5]; omega
 · simp only [Qv5,zLd,List.nil_append,List.mem_singleton] at hj
   rw [hj]; exact hi
 · simp only [Qv5,zLd]; omega
 · simp only [Qv5,zLd]; omega
theorem Q8t {p:Pallet} {l:List Layer} (hb:OkY p l):∀ (is:List Int) (out:List Load),(∀ i ∈ is,0 ≤ i ∧ i < l.length) → (∀ s ∈ out,LdI p l.length s) → (∀ s ∈ is.foldl (ldS p l) out,LdI p l.length s) ∧ ((is.foldl (ldS p l) out).map (·.qQ)).flatten = (out.map (·.qQ)).flatten ++ is ∧ (is.foldl (ldS p l) out).length ≤ out.length + is.length
 | [],out,_,h=>⟨h,by simp,by simp⟩
 | i :: is,out,hi,h=>by
  rw [List.foldl_cons]
  obtain ⟨h1,h2,h3⟩:=Q8t hb is (ldS p l out i) (fun j hj=>hi j (by simp [hj])) (Q93 hb (hi i (by simp)) h)
  have h4:((ldS p l out i).map (·.qQ)).flatten = (out.map (·.qQ)).flatten ++ [i]:=Quv (fun s=>rfl) rfl
  have h5:(ldS p l out i).length ≤ out.length + 1:=Qwf _ _ _ _
  refine ⟨h1,by rw [h2,h4]; simp,by simp; omega⟩
theorem Q9i {p:Pallet} {l:List Layer} (hb:OkY p l):(∀ s ∈ ldM p l,LdI p l.length s) ∧ ((ldM p l).map (·.qQ)).flatten = Qlq 0 l.length ∧ (ldM p l).length ≤ l.length:=by
 unfold ldM
 obtain ⟨h1,h2,h3⟩:=Q8t hb (Qlq 0 l.length) [] (fun i hi=>by have:=Qky.1 hi; omega) (by simp)
 refine ⟨h1,by simpa using h2,?_⟩
 rw [Qfd] at h3
 simpa using h3
theorem Jf8 {p:Pallet} {l:List Layer} (h:OkY p l):(l.all fun s=>okL p s.fD s.fH s.fV) = true:=by
 refine List.all_eq_true.2 fun s hs=>?_
 unfold okL
 simp only [Bool.and_eq_true,Qc7]
 exact ⟨(h s hs).1,(h s hs).2.1,(h s hs).2.2⟩
theorem Jc7 {fu:Nat} (hfu:2097153 ≤ fu) {p:Pallet} (hp:Qx4 p = true) {l:List Layer} (hb:OkY p l) (hl:l.length ≤ 1000):Qpq fu p l = some (ldM p l):=by
 unfold Qpq ldM
 rw [Jhk p l (by omega) (by omega),hp,Jf8 hb,Qab,Bool.and_self,Bool.not_true,cond_false]
 obtain ⟨p1,p2,p3,p4⟩:=Q44 hp
 have L1:=Jbu (l.length:Int) (fun n (o:List Load) i=>Qbr fu p l n o i) (fun xs o=>some (xs.foldl (ldS p l) o)) (fun xs o=>(∀ s ∈ o,LdI p l.length s) ∧ ((o.map (·.qQ)).flatten).length + xs.length ≤ 1000 ∧ o.length + xs.length ≤ 1000) (by omega) ?_ ?_ l.length fu [] 0 (by omega) (by omega) (by omega) ⟨by simp,by simp [Qfd]; omega,by simp [Qfd]; omega⟩
 · exact L1
 · intro n o i xs x0 x1 hd hI ih
   obtain ⟨i2,i3,i4⟩:=hI
   simp only [List.length_cons] at i3 i4
   obtain ⟨hbx,b1,b2,b3,_⟩:=Q75 hb ⟨x0,x1⟩
   have hflat:((ldS p l o i).map (·.qQ)).flatten = (o.map (·.qQ)).flatten ++ [i]:=Quv (fun s=>rfl) rfl
   have hlen:(ldS p l o i).length ≤ o.length + 1:=Qwf _ _ _ _
   have ih':=ih (ldS p l o i) ⟨Q93 hb ⟨x0,x1⟩ i2,by rw [hflat,List.length_append,List.length_singleton]; omega,by omega⟩
   have J:∀ (o':List Load) (x:Load),o'.length ≤ 1000 → (x.qQ.length ≤ 1000) → (0 ≤ x.fH ∧ x.fH ≤ 2000) → (0 ≤ x.fV ∧ x.fV ≤ 100000) → Qde fu (Qbr fu p l n) i (lyA l i) (o' ++ [x]) ((o'.length:Int) + 1) = Qbr fu p l n (o' ++ [Qv5 x i (lyA l i)]) (w64 (i + 1)):=by
    intro o' x h1 h2 h3 h4
    unfold Qde Qpb
    have e1:w64 ((o'.length:Int) + 1 - 1) = (o'.length:Int):=by rw [Qa8 (by omega) (by omega)]; omega
    have e2:ix (o' ++ [x]) (o'.length:Int) = some x:=by rw [Qq8]; simp
    rw [e1,e2,Qab,ap1 (by simp; omega),Qab,ap1 (by simp; omega),Qab,Qab,Qa8 (n:=x.fH + _) (by omega) (by omega),Qa8 (n:=x.fV + _) (by omega) (by omega)]
    have e3:∀ y:Load,Qhx (o' ++ [x]) (o'.length:Int) y = o' ++ [y]:=by intro y; simp [Qhx]
    rw [e3]
    rfl
   simp only [Qbr.eq_2]
   unfold Qk5
   rw [hd,cond_true,hbx,Qab,List.foldl_cons,← ih']
   by_cases he:o = []
   · subst he
     rw [Qcl (by simp),ap1 (by simp),Qab]
     have:=J [] zLd (by simp) (by simp [zLd]) (by simp [zLd]) (by simp [zLd])
     rw [Qa8 (by simp) (by simp)]
     exact this
   · obtain ⟨s,e1,e2⟩:=Q19 he
     have hpl:=List.length_pos_iff.2 he
     have hsm':=List.mem_of_getLast? e1
     have hs:=i2 s hsm'
     have hsl':=Qvo (fun s:Load=>s.qQ) o s hsm'
     obtain ⟨s1,s2,s5,s6⟩:=hs
     have eS:ldS p l o i = bif Jag p (lyA l i) s then o.set (o.length - 1) (Qv5 s i (lyA l i)) else o ++ [Qv5 zLd i (lyA l i)]:=Q13 e1
     have eo:o = o.dropLast ++ [s]:=by
      have h1:=List.dropLast_concat_getLast he
      rw [List.getLast?_eq_some_getLast he] at e1
      rw [Option.some.inj e1] at h1
      exact h1.symm
     have e3:Qde fu (Qbr fu p l n) i (lyA l i) o (o.length:Int) = Qbr fu p l n (o.set (o.length - 1) (Qv5 s i (lyA l i))) (w64 (i + 1)):=by
      obtain ⟨d,hd⟩:∃ d,o = d ++ [s]:=⟨_,eo⟩
      rw [hd] at i4 ⊢
      simp only [List.length_append,List.length_singleton] at i4
      have:=J d s (by omega) (by omega) (by omega) (by omega)
      rw [show (((d ++ [s]).length:Nat):Int) = (d.length:Int) + 1 by simp,this]
      congr 1
      simp
     have e4:Qde fu (Qbr fu p l n) i (lyA l i) (o ++ [zLd]) (w64 ((o.length:Int) + 1)) = Qbr fu p l n (o ++ [Qv5 zLd i (lyA l i)]) (w64 (i + 1)):=by
      rw [Qa8 (by omega) (by omega)]
      exact J o zLd (by omega) (by simp [zLd]) (by simp [zLd]) (by simp [zLd])
     rw [Qa8 (n:=(o.length:Int) - 1) (by omega) (by omega),e2,Qab,Qbe (by simp; omega),Qab,Qa8 (n:=s.fH + _) (by omega) (by omega),Qa8 (n:=s.fV + _) (by omega) (by omega),ap1 (by simp; omega),Qab,e3]
     rw [show (⟨[],0,0⟩:Load) = zLd from rfl,e4,eS]
     unfold Jag
     by_cases c1:s.fH + (lyA l i).fH ≤ p.fH
     · rw [Qbe (c:=decide (s.fH + (lyA l i).fH > p.fH)) (by simp; omega),decide_eq_true c1]
       by_cases c2:s.fV + (lyA l i).fV ≤ p.fV
       · rw [Qbe (c:=decide (s.fV + (lyA l i).fV > p.fV)) (by simp; omega),decide_eq_true c2]; rfl
       · rw [Qcl (c:=decide (s.fV + (lyA l i).fV > p.fV)) (by simp; omega),decide_eq_false c2]; rfl
     · rw [Qcl (c:=decide (s.fH + (lyA l i).fH > p.fH)) (by simp; omega),decide_eq_false c1]; rfl
 · intro n o i hd _
   simp only [Qbr.eq_2]
   unfold Qk5
   rw [hd,cond_false]; rfl
end Go.Proofs.YthddjkokpfdbnaaGreat
/- The spots of boxes, by spec. -/
namespace Go.Proofs.YthddjkokpfdbnaaGreat
open Go
open Enc (rd ow)
open Arg (argv)
open Ret (retv)
open Wf (wf)
def zSp:Spot:=⟨0,0,0,0⟩
def ldA (l:List Load) (i:Int):Load:=(ix l i).getD zLd
def spB (l:List Box) (o y z:Int) (is:List Int) (s:List Spot × Int):List Spot × Int:=is.foldl (fun s b=>(Qhx s.1 b ⟨o,s.2,y,z⟩,s.2 + (bxA l b).fW)) s
def spS (l:List Box) (sh:List Shelf) (o z:Int) (js:List Int) (s:List Spot × Int):List Spot × Int:=js.foldl (fun s j=>((spB l o s.2 z (shA sh j).qY (s.1,0)).1,s.2 + (shA sh j).fD)) s
def spY (l:List Box) (sh:List Shelf) (ly:List Layer) (o:Int) (is:List Int) (s:List Spot × Int):List Spot × Int:=is.foldl (fun s i=>((spS l sh o s.2 (lyA ly i).ft (s.1,0)).1,s.2 + (lyA ly i).fH)) s
def spO (l:List Box) (sh:List Shelf) (ly:List Layer) (ld:List Load) (os:List Int) (out:List Spot):List Spot:=os.foldl (fun out o=>(spY l sh ly o (ldA ld o).qQ (out,0)).1) out
def spM (p:Pallet) (l:List Box):List Spot:=bif Q2v p l then spO l (shM p l) (lyM p (shM p l)) (ldM p (lyM p (shM p l))) (Qlq 0 (ldM p (lyM p (shM p l))).length) (List.replicate l.length zSp) else []
theorem Q3m {α:Type} (l:List α) (i:Int) (y:α):(Qhx l i y).length = l.length:=by simp [Qhx]
theorem Q4k (l:List Box) (o y z:Int):∀ (is:List Int) (s:List Spot × Int),(spB l o y z is s).1.length = s.1.length
 | [],_=>rfl
 | i :: is,s=>by
  have:=Q4k l o y z is (Qhx s.1 i ⟨o,s.2,y,z⟩,s.2 + (bxA l i).fW)
  rw [Q3m] at this
  exact this
theorem Q36 (l:List Box) (sh:List Shelf) (o z:Int):∀ (is:List Int) (s:List Spot × Int),(spS l sh o z is s).1.length = s.1.length
 | [],_=>rfl
 | i :: is,s=>by
  have:=Q36 l sh o z is ((spB l o s.2 z (shA sh i).qY (s.1,0)).1,s.2 + (shA sh i).fD)
  rw [Q4k] at this
  exact this
theorem Q4y (l:List Box) (sh:List Shelf) (ly:List Layer) (o:Int):∀ (is:List Int) (s:List Spot × Int),(spY l sh ly o is s).1.length = s.1.length
 | [],_=>rfl
 | i :: is,s=>by
  have:=Q4y l sh ly o is ((spS l sh o s.2 (lyA ly i).ft (s.1,0)).1,s.2 + (lyA ly i).fH)
  rw [Q36] at this
  exact this
theorem Q7t (l:List Box) (sh:List Shelf) (ly:List Layer) (ld:List Load):∀ (os:List Int) (out:List Spot),(spO l sh ly ld os out).length = out.length
 | [],_=>rfl
 | o :: os,out=>by
  have:=Q7t l sh ly ld os (spY l sh ly o (ldA ld o).qQ (out,0)).1
  rw [Q4y] at this
  exact this
theorem Q7d {p:Pallet} {l:List Box} (h:Q2v p l = true):(spM p l).length = l.length:=by
 unfold spM
 rw [h,cond_true,Q7t,List.length_replicate]
theorem Jb2 {p:Pallet} {l:List Box} (h:Q2v p l = true):OkS p (shM p l):=fun s hs=>by
 have:=(Q31 h).1 s hs
 exact ⟨this.d,this.h,this.g⟩
theorem Jca {p:Pallet} {l:List Shelf} (h:OkS p l):OkY p (lyM p l):=fun s hs=>by
 have:=(Q4j h).1 s hs
 exact ⟨this.d,this.h,this.g⟩
theorem Jch {fu:Nat} (hfu:2097153 ≤ fu) (p:Pallet) (l:List Box) (hl:l.length ≤ 1000):Qml fu p l = some (spM p l):=by
 unfold Qml spM
 rw [Jcv (by omega),Qab,Jfv p l (by omega) (by omega),Qab]
 cases hb:Q2v p l
 · rfl
 · obtain ⟨a1,a2,a3⟩:=Q31 hb
   have hS:=Jb2 hb
   obtain ⟨y1,y2,y3⟩:=Q4j hS
   have hY:=Jca hS
   obtain ⟨d1,d2,d3⟩:=Q9i hY
   have hpb:=Q78 hb
   obtain ⟨q1,q2,q3,q4⟩:=Q44 hpb
   rw [Bool.not_true,cond_false,cond_true,Q8z hfu p l hl,Qab,Ja0 hfu hpb hS (by omega),Qab,Jc7 hfu hpb hY (by omega),Qab]
   have f1:∀ s ∈ shM p l,s.qY.length ≤ 1000:=fun s hs=>by
    have:=Qvo (fun s:Shelf=>s.qY) _ s hs
    rw [a2,Qvl] at this; omega
   have f2:∀ s ∈ lyM p (shM p l),s.ft.length ≤ 1000:=fun s hs=>by
    have:=Qvo (fun s:Layer=>s.ft) _ s hs
    rw [y2,Qfd] at this; omega
   have f3:∀ s ∈ ldM p (lyM p (shM p l)),s.qQ.length ≤ 1000:=fun s hs=>by
    have:=Qvo (fun s:Load=>s.qQ) _ s hs
    rw [d2,Qfd] at this; omega
   generalize ldM p (lyM p (shM p l)) = ld at d1 d3 f3 ⊢
   generalize lyM p (shM p l) = ly at y1 y3 hY d1 d3 f2 ⊢
   generalize shM p l = sh at a1 a3 hS y1 y3 f1 ⊢
   have L4:=Jbu (ld.length:Int) (fun n (out:List Spot) o=>Qbk fu l sh ly ld n out o) (fun os out=>some (spO l sh ly ld os out)) (fun os out=>out.length = l.length) (by omega) ?_ ?_ ld.length fu (List.replicate l.length zSp) 0 (by omega) (by omega) (by omega) (by simp)
   · exact L4
   · intro n out o os o0 o1 hd hI ih
     obtain ⟨x,hx⟩:=Q9f (l:=ld) o0 o1
     have ex:ldA ld o = x:=by unfold ldA; rw [hx]; rfl
     have hxm:=d1 x (Qeg hx)
     have hxl:=f3 x (Qeg hx)
     simp only [Qbk.eq_2]
     unfold Qlw
     rw [hd,cond_true]
     have L3:=lpI x.qQ (fun m (s:List Spot × Int) i=>Qb7 fu (Qbk fu l sh ly ld n) l sh ly ld o m s.1 s.2 i) (fun is s=>Qbk fu l sh ly ld n (spY l sh ly o is s).1 (w64 (o + 1))) (fun is s=>s.1.length = l.length ∧ (∀ i ∈ is,0 ≤ i ∧ i < ly.length) ∧ 0 ≤ s.2 ∧ s.2 + 2000 * is.length ≤ 2000000) (by omega) ?_ ?_ fu (out,0) ⟨hI,hxm.inn,by simp,by simp; omega⟩ (by omega)
     · refine L3.trans ?_
       rw [ih _ (by rw [Q4y]; exact hI)]
       simp only [spO,List.foldl_cons,ex]
     · intro m ⟨out,z⟩ i j is hj hd hI ih
       obtain ⟨i1,i2,i3,i4⟩:out.length = l.length ∧ (∀ i ∈ j :: is,0 ≤ i ∧ i < ly.length) ∧ 0 ≤ z ∧ z + 2000 * ((j :: is).length:Int) ≤ 2000000:=hI
       simp only [List.length_cons] at i4
       obtain ⟨hly,t1,t2,t3,hmem⟩:=Q75 hY (i2 j (by simp))
       have hyi:=y1 _ hmem
       have hyl:=f2 _ hmem
       simp only [Qb7.eq_2]
       unfold Qk0
       rw [hx,Qab,hd,cond_true,Qab,hj,Qab,hly,Qab]
       have L2:=lpI (lyA ly j).ft (fun q (s:List Spot × Int) k=>Qdb fu (Qb7 fu (Qbk fu l sh ly ld n) l sh ly ld o m) l sh o z i (lyA ly j) q s.1 s.2 k) (fun ks s=>Qb7 fu (Qbk fu l sh ly ld n) l sh ly ld o m (spS l sh o z ks s).1 (w64 (z + (lyA ly j).fH)) (w64 (i + 1))) (fun ks s=>s.1.length = l.length ∧ (∀ i ∈ ks,0 ≤ i ∧ i < sh.length) ∧ 0 ≤ s.2 ∧ s.2 + 2000 * ks.length ≤ 2000000) (by omega) ?_ ?_ fu (out,0) ⟨i1,hyi.inn,by simp,by simp; omega⟩ (by omega)
       · refine L2.trans ?_
         rw [Qa8 (n:=z + _) (by omega) (by omega)]
         exact ih ((spS l sh o z (lyA ly j).ft (out,0)).1,z + (lyA ly j).fH) ⟨by rw [Q36]; exact i1,fun i hi=>i2 i (by simp [hi]),by simp; omega,by simp; omega⟩
       · intro q ⟨out,y⟩ k b ks hb2 hd hI ih
         obtain ⟨i1,i2,i3,i4⟩:out.length = l.length ∧ (∀ i ∈ b :: ks,0 ≤ i ∧ i < sh.length) ∧ 0 ≤ y ∧ y + 2000 * ((b :: ks).length:Int) ≤ 2000000:=hI
         simp only [List.length_cons] at i4
         obtain ⟨hsh,u1,u2,u3,hmem2⟩:=Q7a hS (i2 b (by simp))
         have hsi:=a1 _ hmem2
         have hsl:=f1 _ hmem2
         simp only [Qdb.eq_2]
         unfold Qly
         rw [hd,cond_true,hb2,Qab,hsh,Qab]
         have L1:=lpI (shA sh b).qY (fun q' (s:List Spot × Int) k'=>Qgb fu (Qdb fu (Qb7 fu (Qbk fu l sh ly ld n) l sh ly ld o m) l sh o z i (lyA ly j) q) l o z y k (shA sh b) q' s.1 s.2 k') (fun bs s=>Qdb fu (Qb7 fu (Qbk fu l sh ly ld n) l sh ly ld o m) l sh o z i (lyA ly j) q (spB l o y z bs s).1 (w64 (y + (shA sh b).fD)) (w64 (k + 1))) (fun bs s=>s.1.length = l.length ∧ (∀ i ∈ bs,0 ≤ i ∧ i < l.length) ∧ 0 ≤ s.2 ∧ s.2 + 2000 * bs.length ≤ 2000000) (by omega) ?_ ?_ fu (out,0) ⟨i1,hsi.inn,by simp,by simp; omega⟩ (by omega)
         · refine L1.trans ?_
           rw [Qa8 (n:=y + _) (by omega) (by omega)]
           exact ih ((spB l o y z (shA sh b).qY (out,0)).1,y + (shA sh b).fD) ⟨by rw [Q4k]; exact i1,fun i hi=>i2 i (by simp [hi]),by simp; omega,by simp; omega⟩
         · intro q' ⟨out,x'⟩ k' c bs hc hd hI ih
           obtain ⟨i1,i2,i3,i4⟩:out.length = l.length ∧ (∀ i ∈ c :: bs,0 ≤ i ∧ i < l.length) ∧ 0 ≤ x' ∧ x' + 2000 * ((c :: bs).length:Int) ≤ 2000000:=hI
           simp only [List.length_cons] at i4
           have hcr:=i2 c (by simp)
           obtain ⟨hbx,v1,v2,v3,v4⟩:=Q8c hb hcr
           obtain ⟨sp,hsp⟩:=Q9f (l:=out) hcr.1 (by omega)
           simp only [Qgb.eq_2]
           unfold Qkn
           rw [hd,cond_true,hc,Qab,hsp,Qab,Qab,hbx,Qab,Qa8 (n:=x' + _) (by omega) (by omega)]
           exact ih (Qhx out c ⟨o,x',y,z⟩,x' + (bxA l c).fW) ⟨by rw [Q3m]; exact i1,fun i hi=>i2 i (by simp [hi]),by simp; omega,by simp; omega⟩
         · intro q' ⟨out,x'⟩ k' hd _
           simp only [Qgb.eq_2]
           unfold Qkn
           rw [hd,cond_false]; rfl
       · intro q ⟨out,y⟩ k hd _
         simp only [Qdb.eq_2]
         unfold Qly
         rw [hd,cond_false]; rfl
     · intro m ⟨out,z⟩ i hd _
       simp only [Qb7.eq_2]
       unfold Qk0
       rw [hx,Qab,hd,cond_false]; rfl
   · intro n out o hd _
     simp only [Qbk.eq_2]
     unfold Qlw
     rw [hd,cond_false]; rfl
def Q96 (n:Int) (out:List Spot):Prop:=∀ s ∈ out,0 ≤ s.fQ ∧ s.fQ ≤ n
theorem Ja2 {n:Int} {out:List Spot} {i:Int} {s:Spot} (h:Q96 n out) (hs:0 ≤ s.fQ ∧ s.fQ ≤ n):Q96 n (Qhx out i s):=by
 intro t ht
 unfold Qhx at ht
 rcases List.mem_or_eq_of_mem_set ht with ht | rfl
 · exact h t ht
 · exact hs
theorem Q8l {n:Int} (l:List Box) (o y z:Int) (ho:0 ≤ o ∧ o ≤ n):∀ (is:List Int) (s:List Spot × Int),Q96 n s.1 → Q96 n (spB l o y z is s).1
 | [],_,h=>h
 | i :: is,s,h=>Q8l l o y z ho is (Qhx s.1 i ⟨o,s.2,y,z⟩,s.2 + (bxA l i).fW) (Ja2 h ho)
theorem Q76 {n:Int} (l:List Box) (sh:List Shelf) (o z:Int) (ho:0 ≤ o ∧ o ≤ n):∀ (is:List Int) (s:List Spot × Int),Q96 n s.1 → Q96 n (spS l sh o z is s).1
 | [],_,h=>h
 | i :: is,s,h=>Q76 l sh o z ho is ((spB l o s.2 z (shA sh i).qY (s.1,0)).1,s.2 + (shA sh i).fD) (Q8l l o s.2 z ho _ (s.1,0) h)
theorem Q7w {n:Int} (l:List Box) (sh:List Shelf) (ly:List Layer) (o:Int) (ho:0 ≤ o ∧ o ≤ n):∀ (is:List Int) (s:List Spot × Int),Q96 n s.1 → Q96 n (spY l sh ly o is s).1
 | [],_,h=>h
 | i :: is,s,h=>Q7w l sh ly o ho is ((spS l sh o s.2 (lyA ly i).ft (s.1,0)).1,s.2 + (lyA ly i).fH) (Q76 l sh o s.2 ho _ (s.1,0) h)
theorem Q8p {n:Int} (l:List Box) (sh:List Shelf) (ly:List Layer) (ld:List Load):∀ (os:List Int) (out:List Spot),(∀ o ∈ os,0 ≤ o ∧ o ≤ n) → Q96 n out → Q96 n (spO l sh ly ld os out)
 | [],_,_,h=>h
 | o :: os,out,ho,h=>Q8p l sh ly ld os (spY l sh ly o (ldA ld o).qQ (out,0)).1 (fun q hq=>ho q (by simp [hq])) (Q7w l sh ly o (ho o (by simp)) _ (out,0) h)
theorem Jfx {p:Pallet} {l:List Box} (hl:l.length ≤ 1000):∀ s ∈ spM p l,0 ≤ s.fQ ∧ s.fQ ≤ 1000:=by
 unfold spM
 cases hb:Q2v p l
 · simp
 · have a3:=(Q31 hb).2.2
   have hS:=Jb2 hb
   have y3:=(Q4j hS).2.2
   have d3:=(Q9i (Jca hS)).2.2
   rw [cond_true]
   refine Q8p l _ _ _ _ _ (fun o ho=>?_) fun s hs=>?_
   · have:=Qky.1 ho; omega
   · rw [(List.mem_replicate.1 hs).2]; simp [zSp]
end Go.Proofs.YthddjkokpfdbnaaGreat
/- What the ways of packing keep: every unit once, every carton within the master's. -/
namespace Go.Proofs.YthddjkokpfdbnaaGreat
open Go
open Enc (rd ow)
open Arg (argv)
open Ret (retv)
open Wf (wf)
def Jeb:List Int → Int
 | []=>1
 | x :: xs=>x * Jeb xs
theorem Jaw {a b:List Int} (h:a.Perm b):Jeb a = Jeb b:=by
 induction h with
 | nil=>rfl
 | cons x _ ih=>simp only [Jeb,ih]
 | swap x y l=>simp only [Jeb,← Int.mul_assoc]; rw [Int.mul_comm x y]
 | trans _ _ h1 h2=>rw [h1,h2]
theorem Q8o (a b c:Int):(sid a b c).1 * ((sid a b c).2.1 * (sid a b c).2.2) = a * b * c:=by
 have h:=Q77 a b c
 unfold Q2m at h
 simp only [List.length_cons,List.length_nil] at h
 rw [if_pos (by omega)] at h
 have hp:=List.mergeSort_perm [a,b,c] fun x y=>decide (x ≤ y)
 rw [Option.some.inj h] at hp
 have:=Jaw hp
 simp only [Jeb,Int.mul_one] at this
 rw [this,Int.mul_assoc]
theorem Je8 {a b c m:Int} (ha:m ≤ a) (hb:m ≤ b) (hc:m ≤ c):m ≤ (sid a b c).1:=by
 unfold sid
 simp only
 split <;> split <;> omega
theorem Jcu {x:Item} {t:Typ} (hx:Qxa x = true) (ht:Q1q t = true) (h:Q0l x t = true):Q84 x ≤ Jaa t ∧ x.fV ≤ t.fV:=by
 simp only [Qxa,Bool.and_eq_true,Qc7] at hx
 simp only [Q1q,Bool.and_eq_true,Qc7] at ht
 simp only [Q0l,Bool.and_eq_true,decide_eq_true_eq] at h
 obtain ⟨⟨⟨h1,h2⟩,h3⟩,h4⟩:=h
 refine ⟨?_,h4⟩
 have e1:Q84 x = x.fW * x.fH * x.fD:=by
  unfold Q84 Q6n
  rw [show (inb x.fW 0 2000 && (inb x.fH 0 2000 && inb x.fD 0 2000)) = true by simp; omega,cond_true]
 have e2:Jaa t = t.fW * t.fH * t.fD:=by
  unfold Jaa Q6n
  rw [show (inb t.fW 0 2000 && (inb t.fH 0 2000 && inb t.fD 0 2000)) = true by simp; omega,cond_true]
 rw [e1,e2,← Q8o x.fW x.fH x.fD,← Q8o t.fW t.fH t.fD]
 have p1:1 ≤ (sid x.fW x.fH x.fD).1:=Je8 (by omega) (by omega) (by omega)
 have s1:=Q0v x.fW x.fH x.fD
 have s2:=Q0v t.fW t.fH t.fD
 refine Int.mul_le_mul h1 ?_ (Int.mul_nonneg (by omega) (by omega)) (by omega)
 exact Int.mul_le_mul h2 h3 (by omega) (by omega)
theorem Q1f {r:Request} {u:Int} (h:0 ≤ u ∧ u < (Qil r).length):Qur r u ∈ r.fG:=(Q4u (Qvj h)).2
theorem Q49 {r:Request} {u:Int} (h:0 ≤ u ∧ u < (Qil r).length):Qh7 r = 0:=(Q4u (Qvj h)).1
theorem Q7g {r:Request} (hc:Qh7 r = 0):Qtf r r.fP = some (Qx3 r) ∧ Qx3 r ∈ r.fT ∧ Q1q (Qx3 r) = true:=by
 have h:=(Qfb hc).2.1
 unfold Q74 at h
 simp only [Bool.and_eq_true] at h
 obtain ⟨t,ht⟩:=Option.isSome_iff_exists.1 h.1.2
 have e:Qx3 r = t:=by unfold Qx3; rw [ht]; rfl
 have hm:t ∈ r.fT:=List.mem_of_find?_eq_some ht
 rw [e]
 exact ⟨ht,hm,Qys (Qfb hc).1 t hm⟩
theorem Q85 {r:Request} {u:Int} (h:0 ≤ u ∧ u < (Qil r).length):Qzu r [u] = Q84 (Qur r u) ∧ Qvw r [u] = (Qur r u).fV:=by
 unfold Qzu Qvw Qw2
 simp [List.filterMap_cons,Qvj h]
theorem Q66 {r:Request} {u:Int} (h:0 ≤ u ∧ u < (Qil r).length):Q39 r [u] (Qx3 r) = true:=by
 have hc:=Q49 h
 have hz:=Qfb hc
 have hm:=Q1f h
 obtain ⟨h1,h2⟩:=Jcu ((Qsi hz.1).1 _ hm) (Q7g hc).2.2 (hz.2.2.2.1 _ hm)
 unfold Q39
 rw [(Q85 h).1,(Q85 h).2,Bool.and_eq_true,decide_eq_true_iff,decide_eq_true_iff]
 exact ⟨h1,h2⟩
def Qc (r:Request) (us:List Int) (l:List Int):Prop:=l ≠ [] ∧ (∀ u ∈ l,u ∈ us) ∧ Q39 r l (Qx3 r) = true
theorem Je9 {r:Request} {us:List Int} {out:List (List Int)} {u:Int} (h:∀ l ∈ out,Qc r us l) (hu:u ∈ us) (hr:0 ≤ u ∧ u < (Qil r).length):∀ l ∈ Je4 r out u,Qc r us l:=by
 have hn:Qc r us [u]:=⟨by simp,fun v hv=>by rw [List.mem_singleton.1 hv]; exact hu,Q66 hr⟩
 intro l hl
 unfold Je4 Jec at hl
 split at hl
 · rename_i i hi
   obtain ⟨x,hx,hg⟩:=Qvk hi
   rw [hx] at hl
   rcases List.mem_or_eq_of_mem_set hl with hl | rfl
   · exact h l hl
   · have hq:=h x (List.mem_of_getElem? hx)
     refine ⟨by simp,fun v hv=>?_,hg⟩
     rcases List.mem_append.1 hv with hv | hv
     · exact hq.2.1 v hv
     · rw [List.mem_singleton.1 hv]; exact hu
 · rcases List.mem_append.1 hl with hl | hl
   · exact h l hl
   · rw [List.mem_singleton.1 hl]; exact hn
theorem Jet {r:Request} {us:List Int} {out:List (List Int)} {u:Int} (h:∀ l ∈ out,Qc r us l) (hu:u ∈ us) (hr:0 ≤ u ∧ u < (Qil r).length):∀ l ∈ Q94 r out u,Qc r us l:=by
 have hn:Qc r us [u]:=⟨by simp,fun v hv=>by rw [List.mem_singleton.1 hv]; exact hu,Q66 hr⟩
 intro l hl
 cases hlast:out.getLast? with
 | none =>
  unfold Q94 at hl
  rw [hlast] at hl
  rw [List.mem_singleton.1 hl]; exact hn
 | some x =>
  rw [Q27 u hlast] at hl
  have hq:=h x (List.mem_of_getLast? hlast)
  cases hg:Q6y r u x
  · rw [hg,cond_false] at hl
    rcases List.mem_append.1 hl with hl | hl
    · exact h l hl
    · rw [List.mem_singleton.1 hl]; exact hn
  · rw [hg,cond_true] at hl
    rcases List.mem_or_eq_of_mem_set hl with hl | rfl
    · exact h l hl
    · refine ⟨by simp,fun v hv=>?_,hg⟩
      rcases List.mem_append.1 hv with hv | hv
      · exact hq.2.1 v hv
      · rw [List.mem_singleton.1 hv]; exact hu
theorem Q88 {r:Request} {us:List Int} {F:List (List Int) → Int → List (List Int)} (hF:∀ out u,(∀ l ∈ out,Qc r us l) → u ∈ us → (0 ≤ u ∧ u < (Qil r).length) → ∀ l ∈ F out u,Qc r us l):∀ (vs:List Int) (out:List (List Int)),(∀ u ∈ vs,u ∈ us ∧ 0 ≤ u ∧ u < (Qil r).length) → (∀ l ∈ out,Qc r us l) → ∀ l ∈ vs.foldl F out,Qc r us l
 | [],out,_,h=>h
 | v :: vs,out,hv,h=>by
  rw [List.foldl_cons]
  have h1:=hv v (by simp)
  exact Q88 hF vs _ (fun u hu=>hv u (by simp [hu])) (hF out v h h1.1 h1.2)
theorem Q64 (r:Request) (us:List Int):(Jdh r us).Perm us:=by
 unfold Jdh
 refine ((Qux _ _).map _).trans ?_
 have key:∀ (xs pre:List Int),us = pre ++ xs → (Qlq pre.length xs.length).map (fun p=>(ix us p).getD 0) = xs:=by
  intro xs
  induction xs with
  | nil=>intro pre _; rfl
  | cons x xs ih =>
   intro pre he
   have h1:=ih (pre ++ [x]) (by simp [he])
   simp only [List.length_append,List.length_singleton] at h1
   simp only [List.length_cons,Qlq,List.map_cons]
   rw [show ((pre.length:Int) + 1) = ((pre.length + 1:Nat):Int) by omega,h1]
   congr 1
   rw [Qq8,he]
   simp
 have:=key us [] rfl
 simp only [List.length_nil] at this
 exact List.Perm.of_eq this
theorem Jiv {r:Request} {us:List Int}:∀ l ∈ pwM r us,Qc r (Qwb r us) l:=by
 unfold pwM nfM ffM
 have ht:∀ u ∈ Qwb r us,u ∈ Qwb r us ∧ 0 ≤ u ∧ u < (Qil r).length:=fun u hu=>⟨hu,Qym hu⟩
 cases r.qJ == 1
 · rw [cond_false]
   exact Q88 (fun out u h hu hr=>Je9 h hu hr) _ [] (fun u hu=>ht u ((Q64 r _).mem_iff.1 hu)) (by simp)
 · rw [cond_true]
   exact Q88 (fun out u h hu hr=>Jet h hu hr) _ [] ht (by simp)
end Go.Proofs.YthddjkokpfdbnaaGreat
/- The plan of an order, by spec. -/
namespace Go.Proofs.YthddjkokpfdbnaaGreat
open Go
open Enc (rd ow)
open Arg (argv)
open Ret (retv)
open Wf (wf)
theorem Q9j {a b:List Int} (h:a.Perm b):Qwd a = Qwd b:=by
 induction h with
 | nil=>rfl
 | cons x _ ih=>simp [ih]
 | swap x y l=>simp; omega
 | trans _ _ h1 h2=>rw [h1,h2]
theorem Jaj {r:Request} {a b:List Int} (h:a.Perm b):(Qw2 r a).Perm (Qw2 r b):=h.filterMap _
theorem Jav {r:Request} {a b:List Int} (h:a.Perm b):Qvw r a = Qvw r b:=Q9j ((Jaj h).map _)
theorem Q5f {f:Typ → Int}:∀ (xs pre:List Typ) (t:Typ),Q6z f pre xs = true → t ∈ xs → (∀ y ∈ pre,f y ≠ f t) ∧ xs.find? (fun y=>f y == f t) = some t
 | [],_,_,_,h=>by simp at h
 | x :: xs,pre,t,hn,h=>by
  simp only [Q6z,Bool.and_eq_true,Bool.not_eq_true'] at hn
  have hx:=List.any_eq_false.1 hn.1
  rcases List.mem_cons.1 h with rfl | h
  · exact ⟨fun y hy e=>hx y hy (by simp [e]),by simp⟩
  · have ih:=Q5f xs (pre ++ [x]) t hn.2 h
    refine ⟨fun y hy=>ih.1 y (by simp [hy]),?_⟩
    have:=ih.1 x (by simp)
    have e:(f x == f t) = false:=by simpa using this
    rw [List.find?_cons,e]
    exact ih.2
theorem Jbe {r:Request} (hc:Qh7 r = 0) {t:Typ} (ht:t ∈ r.fT):Qtf r t.f8 = some t:=by
 have h:=(Qfb hc).2.1
 unfold Q74 at h
 simp only [Bool.and_eq_true] at h
 exact (Q5f r.fT [] t h.1.1.1 ht).2
theorem Q47 (r:Request) (us:List Int):∀ (l:List Typ) (s:Typ × Bool),(∀ t ∈ l,t ∈ r.fT) → (s.2 = true → s.1 ∈ r.fT ∧ Qzq r us s.1 = true) → (l.foldl (chp r us) s).2 = true → (l.foldl (chp r us) s).1 ∈ r.fT ∧ Qzq r us (l.foldl (chp r us) s).1 = true
 | [],s,_,h,h2=>h h2
 | t :: l,s,hl,h,h2=>by
  rw [List.foldl_cons] at h2 ⊢
  refine Q47 r us l _ (fun x hx=>hl x (by simp [hx])) (fun h3=>?_) h2
  unfold chp at h3 ⊢
  cases hh:Qzq r us t && (!s.2 || (decide (t.fK < s.1.fK) || (t.fK == s.1.fK && decide (t.f8 < s.1.f8))))
  · rw [hh,cond_false] at h3
    rw [cond_false]
    exact h h3
  · rw [Bool.and_eq_true] at hh
    rw [cond_true]
    exact ⟨hl t (by simp),hh.1⟩
theorem Jar {r:Request} {us l:List Int} (h:Qc r (Qwb r us) l):Qzq r l (Qx3 r) = true:=by
 obtain ⟨h1,h2,h3⟩:=h
 obtain ⟨u,hu⟩:=List.exists_mem_of_ne_nil _ h1
 have hc:=Q49 (Qym (h2 u hu))
 have hz:=Qfb hc
 unfold Qzq
 rw [show (Qh7 r == 0) = true by simp [hc],Bool.true_and,h3,Bool.and_true,List.all_eq_true]
 intro v hv
 have hv':=Qym (h2 v hv)
 unfold uOk
 rw [Qvj hv',Bool.and_eq_true]
 exact ⟨rfl,hz.2.2.2.1 _ (Q1f hv')⟩
theorem Jfu {r:Request} {us l:List Int} (h:Qc r (Qwb r us) l):Qh7 r = 0 ∧ (Qxe r l).2 = true ∧ (Qxe r l).1 ∈ r.fT ∧ Qzq r l (Qxe r l).1 = true ∧ Qtf r (Qxe r l).1.f8 = some (Qxe r l).1:=by
 obtain ⟨u,hu⟩:=List.exists_mem_of_ne_nil _ h.1
 have hc:=Q49 (Qym (h.2.1 u hu))
 have h2:=Q5g (Q7g hc).2.1 (Jar h)
 have h3:=Q47 r l r.fT (Jfc,false) (fun _ h=>h) (by simp) h2
 exact ⟨hc,h2,h3.1,h3.2,Jbe hc h3.1⟩
theorem Jcq {r:Request} {us l:List Int} (h:Qc r (Qwb r us) l):1 ≤ Qvw r l:=by
 obtain ⟨h1,h2,_⟩:=h
 match l,h1 with
 | u :: l,_ =>
  have hu:=Qym (h2 u (by simp))
  have hc:=Q49 hu
  have:=(Qsi (Qfb hc).1).1 _ (Q1f hu)
  simp only [Qxa,Bool.and_eq_true,Qc7] at this
  have h3:=(Q4c r l).1
  rw [Q5r]
  omega
theorem Jcr {r:Request} {us l:List Int} (h:Qc r (Qwb r us) l) (k:Int):Qjb r (Jbb r k l) = ⟨(Qxe r l).1.fW,(Qxe r l).1.fD,(Qxe r l).1.fH,(Qxe r l).1.f7 + Qvw r l⟩ ∧ Jck r.fQ (Qjb r (Jbb r k l)) = true:=by
 obtain ⟨hc,_,ht,hh,hf⟩:=Jfu h
 have hz:=Qfb hc
 have e:Qjb r (Jbb r k l) = ⟨(Qxe r l).1.fW,(Qxe r l).1.fD,(Qxe r l).1.fH,(Qxe r l).1.f7 + Qvw r l⟩:=by
  unfold Qjb Jbb
  simp only [hf,show (Qh7 r == 0) = true by simp [hc],cond_true,Jav (Qyi l)]
 refine ⟨e,?_⟩
 have ht1:=Qys hz.1 _ ht
 have ht2:=hz.2.2.2.2 _ ht
 simp only [Q1q,Bool.and_eq_true,Qc7] at ht1
 simp only [Q60,Bool.or_eq_false_iff,decide_eq_false_iff_not] at ht2
 rw [Qa8 (by omega) (by omega)] at ht2
 have hg:=Jcq h
 unfold Qzq at hh
 simp only [Bool.and_eq_true] at hh
 have hw:=hh.2.2
 unfold Q39 at hw
 simp only [Bool.and_eq_true,decide_eq_true_eq] at hw
 rw [e]
 simp only [Jck,Bool.and_eq_true,Qc7]
 omega
def Q4b (r:Request) (k:Int):List Box:=((Q18 r).filter fun c=>c.fE == k).map (Qjb r)
def plS (r:Request) (s:List Spot × Int) (k:Int):List Spot × Int:=(s.1 ++ (spM r.fQ (Q4b r k)).map (fun t=>⟨t.fQ + s.2,t.fX,t.fY,t.fZ⟩),s.2 + Qxw (spM r.fQ (Q4b r k)))
def Jbv (r:Request):Plan × Bool:=bif Qh7 r == 0 then (⟨Q18 r,((Qlq 0 (Qnr r).length).foldl (plS r) ([],0)).1⟩,true) else (⟨[],[]⟩,false)
theorem Qy4 (r:Request) (k:Int):∀ (ks:List Int),ks.Nodup → ((Q30 r ks).filter fun c=>c.fE == k) = bif ks.contains k then Q6c r k else []
 | [],_=>rfl
 | j :: ks,hn=>by
  obtain ⟨h1,h2⟩:=List.nodup_cons.1 hn
  have ih:=Qy4 r k ks h2
  rw [Q30,List.filter_append,ih]
  have hj:∀ c ∈ Q6c r j,c.fE = j:=by
   intro c hc
   unfold Q6c at hc
   obtain ⟨l,_,rfl⟩:=List.mem_map.1 hc
   rfl
  by_cases e:k = j
  · subst e
    have e1:(Q6c r k).filter (fun c=>c.fE == k) = Q6c r k:=List.filter_eq_self.2 fun c hc=>by simp [hj c hc]
    have e2:ks.contains k = false:=by simpa using h1
    rw [e1,e2]
    simp
  · have e1:(Q6c r j).filter (fun c=>c.fE == k) = []:=List.filter_eq_nil_iff.2 fun c hc=>by simp [hj c hc]; omega
    rw [e1]
    have e2:(j :: ks).contains k = ks.contains k:=by simp [e]
    rw [e2]; rfl
theorem Q8b {r:Request} {k:Int} (h:0 ≤ k ∧ k < (Qnr r).length):Q4b r k = (Q6c r k).map (Qjb r):=by
 unfold Q4b Q18
 rw [Qy4 r k _ (Qws _ _)]
 rw [show (Qlq 0 (Qnr r).length).contains k = true by rw [List.contains_iff_mem,Qky]; omega]
 rfl
theorem Jb0 {r:Request} (hc:Qh7 r = 0) {k:Int} (h:0 ≤ k ∧ k < (Qnr r).length):Q2v r.fQ (Q4b r k) = true:=by
 have hb:=(Qfb hc).1
 unfold Q2x at hb
 simp only [Bool.and_eq_true] at hb
 unfold Q2v
 rw [Q8b h,Bool.and_eq_true]
 refine ⟨hb.1.1.1.1.1.1.1.1.2,List.all_eq_true.2 fun b hb=>?_⟩
 unfold Q6c at hb
 rw [List.map_map] at hb
 obtain ⟨l,hl,rfl⟩:=List.mem_map.1 hb
 exact (Jcr (Jiv l hl) k).2
theorem Jc0 (r:Request) (k:Int):(Q4b r k).length ≤ 48:=by
 have h1:=List.length_filter_le (fun c:Carton=>c.fE == k) (Q18 r)
 have h2:=Q1u r
 unfold Q4b
 rw [List.length_map]
 omega
theorem Jb1 {r:Request} (hc:Qh7 r = 0):∀ (ks:List Int) (s:List Spot × Int),(∀ k ∈ ks,0 ≤ k ∧ k < (Qnr r).length) → (ks.foldl (plS r) s).1.length = s.1.length + (Q30 r ks).length
 | [],s,_=>by simp [Q30]
 | k :: ks,s,h=>by
  rw [List.foldl_cons,Jb1 hc ks _ fun j hj=>h j (by simp [hj])]
  have hk:=h k (by simp)
  have h1:=Q7d (Jb0 hc hk)
  rw [Q8b hk,List.length_map] at h1
  simp only [plS,Q30,List.length_append,List.length_map,Q8b hk,h1]
  omega
theorem Jdv (r:Request):(Jbv r).1.fU.length = (Jbv r).1.fJ.length ∧ (Jbv r).1.fJ.length ≤ 48 ∧ ∀ c ∈ (Jbv r).1.fJ,c.fM.length ≤ 12:=by
 unfold Jbv
 cases hc:Qh7 r == 0
 · exact ⟨rfl,by simp,by simp⟩
 · rw [cond_true]
   have:=Jb1 (r:=r) (by simpa using hc) (Qlq 0 (Qnr r).length) ([],0) fun k hk=>by have:=Qky.1 hk; omega
   exact ⟨by rw [this]; simp [Q18],Q1u r,fun c hc=>Q3a hc⟩
theorem Jen {fu:Nat} {r:Request} (h:Sm fu r):Qq6 fu r = some (Jbv r):=by
 have hfu:=h.fu
 have hg:=(Qt6 r).1
 have hcl:=Q1u r
 unfold Qq6 Jbv
 rw [Q0h h,Qab]
 cases hc:Qh7 r == 0
 · rw [show (Qh7 r != 0) = true by simp only [bne,hc]; rfl]; rfl
 · have hz:Qh7 r = 0:=by simpa using hc
   rw [show (Qh7 r != 0) = false by simp [hz],cond_false,cond_true,Jgf h,Qab,Jas h,Qab]
   have L3:=Jbu ((Qnr r).length:Int) (fun n (s:List Spot × Int) k=>Qca fu r (Q18 r) (Qnr r) n s.1 s.2 k) (fun ks s=>some ((⟨Q18 r,(ks.foldl (plS r) s).1⟩:Plan),true)) (fun ks s=>(∀ k ∈ ks,0 ≤ k ∧ k < (Qnr r).length) ∧ s.1.length + 48 * ks.length ≤ 1000 ∧ 0 ≤ s.2 ∧ s.2 + 1000000 * ks.length ≤ 10000000) (by omega) ?_ ?_ (Qnr r).length fu ([],0) 0 (by omega) (by omega) (by omega) ⟨fun k hk=>by have:=Qky.1 hk; omega,by simp [Qfd]; omega,by simp,by simp [Qfd]; omega⟩
   · exact L3
   · intro n ⟨sp,base⟩ k ks k0 k1 hd hI ih
     obtain ⟨i1,i2,i3,i4⟩:(∀ j ∈ k :: ks,0 ≤ j ∧ j < (Qnr r).length) ∧ sp.length + 48 * (k :: ks).length ≤ 1000 ∧ 0 ≤ base ∧ base + 1000000 * ((k :: ks).length:Int) ≤ 10000000:=hI
     simp only [List.length_cons] at i2 i4
     simp only [Qca.eq_2]
     unfold Qm2
     rw [hd,cond_true]
     have L2:=lpI (Q18 r) (fun m (bs:List Box) i=>Qf0 fu (Qca fu r (Q18 r) (Qnr r) n) r (Q18 r) sp base k m bs i) (fun cs bs=>Qac (Qml fu r.fQ (bs ++ (cs.filter fun c=>c.fE == k).map (Qjb r))) fun x=>Qf3 fu (Qca fu r (Q18 r) (Qnr r) n) base k x fu sp 0) (fun cs bs=>bs.length + cs.length ≤ 48 ∧ ∀ c ∈ cs,c.fM.length ≤ 12) (by omega) ?_ ?_ fu [] ⟨by simpa using hcl,fun c hc=>Q3a hc⟩ (by omega)
     · refine L2.trans ?_
       have hbl:=Jc0 r k
       rw [List.nil_append,show ((Q18 r).filter fun c=>c.fE == k).map (Qjb r) = Q4b r k from rfl,Jch hfu _ _ (by omega),Qab]
       have hsl:=Q7d (Jb0 hz ⟨k0,k1⟩)
       have hpb:=Q4g (spM r.fQ (Q4b r k))
       have hps:∀ s ∈ spM r.fQ (Q4b r k),s ∈ spM r.fQ (Q4b r k):=fun _ h=>h
       have ih':=ih (plS r (sp,base) k) ⟨fun j hj=>i1 j (by simp [hj]),by simp [plS]; omega,by simp [plS]; omega,by simp [plS]; omega⟩
       rw [List.foldl_cons,← ih']
       have hS:=Jby (fu:=fu) (l:=spM r.fQ (Q4b r k)) (by omega) (by omega)
       have hwf:∀ s ∈ spM r.fQ (Q4b r k),w64 (s.fQ + base) = s.fQ + base:=by
        intro s hs
        have:=Jfx (p:=r.fQ) (l:=Q4b r k) (by omega) s hs
        exact Qa8 (by omega) (by omega)
       generalize hSP:spM r.fQ (Q4b r k) = S at hsl hpb hS hwf ⊢
       have L1:=lpI S (fun m (o:List Spot) i=>Qf3 fu (Qca fu r (Q18 r) (Qnr r) n) base k S m o i) (fun xs o=>Qca fu r (Q18 r) (Qnr r) n (o ++ xs.map (fun t=>⟨t.fQ + base,t.fX,t.fY,t.fZ⟩)) (base + Qxw S) (w64 (k + 1))) (fun xs o=>o.length + xs.length ≤ 1000 ∧ ∀ s ∈ xs,w64 (s.fQ + base) = s.fQ + base) (by omega) ?_ ?_ fu sp ⟨by omega,hwf⟩ (by omega)
       · refine L1.trans ?_
         simp only [plS,hSP]
       · intro m o i x xs hx hd hI ih
         obtain ⟨j1,j2⟩:=hI
         simp only [List.length_cons] at j1
         simp only [Qf3.eq_2]
         unfold Qmv
         rw [hd,cond_true,hx,Qab,j2 x (by simp),ap1 (by simp; omega),Qab,ih _ ⟨by simp; omega,fun s hs=>j2 s (by simp [hs])⟩]
         simp
       · intro m o i hd hI
         simp only [Qf3.eq_2]
         unfold Qmv
         rw [hd,cond_false,hS,Qab,Qa8 (n:=base + _) (by omega) (by omega)]
         simp
     · intro m bs i c cs hx hd hI ih
       obtain ⟨j1,j2⟩:=hI
       simp only [List.length_cons] at j1
       have hcu:=j2 c (by simp)
       simp only [Qf0.eq_2]
       unfold Qm4 Qmg
       rw [hd,cond_true,hx,Qab,Qab,Q09 h c (by omega),Qab,ap1 (by simp; omega),Qab,ih _ ⟨by simp; omega,fun c hc=>j2 c (by simp [hc])⟩,ih _ ⟨by omega,fun c hc=>j2 c (by simp [hc])⟩,List.filter_cons]
       cases c.fE == k <;> simp
     · intro m bs i hd _
       simp only [Qf0.eq_2]
       unfold Qm4
       rw [hd,cond_false]; simp
   · intro n ⟨sp,base⟩ k hd _
     simp only [Qca.eq_2]
     unfold Qm2
     rw [hd,cond_false]; rfl
end Go.Proofs.YthddjkokpfdbnaaGreat
/- Plans that are drawn are there, and small. -/
namespace Go.Proofs.YthddjkokpfdbnaaGreat
open Go
open Enc (rd ow)
open Arg (argv)
open Ret (retv)
open Wf (wf)
def SmP (x:Plan):Prop:=x.fJ.length ≤ 60 ∧ x.fU.length ≤ 60 ∧ ∀ c ∈ x.fJ,c.fM.length ≤ 20
theorem Q57 (b:Nat):∀ (l:List Carton),(∀ c ∈ l,c.fM.length ≤ b) → Q6r l ≤ b * l.length
 | [],_=>by simp [Q6r]
 | c :: l,h=>by
  have h1:=Q57 b l fun d hd=>h d (by simp [hd])
  have h2:=h c (by simp)
  simp only [Q6r,List.length_cons,Nat.mul_add]; omega
theorem SmP.sp {x:Plan} (h:SmP x):Sp x:=by
 have:=Q57 20 x.fJ h.2.2
 have:=h.1
 have:=h.2.1
 exact ⟨by omega,fun c hc=>by have:=h.2.2 c hc; omega,by omega,by omega⟩
theorem Jf2 {l:List Carton} {i:Int} {y:Carton} (h:∀ c ∈ l,c.fM.length ≤ 20) (hy:y.fM.length ≤ 20):∀ c ∈ Qhx l i y,c.fM.length ≤ 20:=by
 intro c hc
 unfold Qhx at hc
 rcases List.mem_or_eq_of_mem_set hc with hc | rfl
 · exact h c hc
 · exact hy
theorem Jfm {fu:Nat} {b:List U8} (hb:b.length ≤ 1048576) (hf:2097153 ≤ fu):Tot (Qpn fu b) fun x=>SmR x.1 ∧ SmP x.2:=by
 unfold Qpn Qb8
 refine Tot.bind (Jat hb hf) fun r hr=>?_
 rw [Jen (hr.sm hf),Qab]
 obtain ⟨p1,p2,p3⟩:=Jdv r
 generalize Jbv r = P at p1 p2 p3 ⊢
 have q3:∀ c ∈ P.1.fJ,c.fM.length ≤ 20:=fun c hc=>by have:=p3 c hc; omega
 refine Tot.bind (Q91 hb (by omega)) fun c hc=>?_
 refine Tot.bif (fun _=>Tot.mk ⟨hr,by simp; omega,by simp; omega,q3⟩) fun hne=>?_
 have hpos:0 < P.1.fJ.length:=by
  simp only [beq_eq_false_iff_ne] at hne
  omega
 refine Tot.bind (Qc0 hc.re' _) fun i hi=>?_
 have hi0:=hi.1.1
 have hi1:=hi.1.2 (by omega)
 refine Tot.bind (Qc0 hi.2.re' _) fun k hk=>?_
 refine Tot.bif (fun _=>?_) fun _=>?_
 · exact Tot.ix ⟨hi0,by omega⟩ fun s hs=>Tot.ix ⟨hi0,by omega⟩ fun s hs=>Tot.mk ⟨hr,by simp; omega,by simp [Qtz]; omega,q3⟩
 refine Tot.bif (fun _=>?_) fun _=>?_
 · exact Tot.bind (Qc0 hk.2.re' _) fun v hv=>Tot.ix ⟨hi0,by omega⟩ fun s hs=>Tot.mk ⟨hr,by simp; omega,by simp [Qtz]; omega,q3⟩
 refine Tot.bif (fun _=>?_) fun _=>?_
 · exact Tot.bind (Qsr hk.2.re' _ (by simp)) fun v hv=>Tot.ix ⟨hi0,by omega⟩ fun s hs=>Tot.mk ⟨hr,by simp [Qtz]; omega,by simp; omega,Jf2 q3 (q3 s hs)⟩
 refine Tot.bif (fun _=>?_) fun _=>?_
 · refine Tot.ix ⟨hi0,by omega⟩ fun s hs=>Tot.bind (Qc0 hk.2.re' _) fun v hv=>Tot.ap (by have:=p3 s hs; simp; omega) (Tot.ix ⟨hi0,by omega⟩ fun t ht=>Tot.mk ⟨hr,by simp [Qtz]; omega,by simp; omega,Jf2 q3 (by have:=p3 s hs; simp; omega)⟩)
 refine Tot.bif (fun _=>?_) fun _=>?_
 · exact Tot.ix ⟨hi0,by omega⟩ fun s hs=>Tot.mk ⟨hr,by simp [Qtz]; omega,by simp; omega,Jf2 q3 (by simp)⟩
 refine Tot.bif (fun _=>?_) fun _=>?_
 · rw [Q25 (by omega),Qab]
   exact Tot.mk ⟨hr,by simp; omega,by simp; omega,q3⟩
 refine Tot.bif (fun _=>?_) fun _=>?_
 · exact Tot.bind (Qc0 hk.2.re' _) fun v hv=>Tot.ix ⟨hi0,by omega⟩ fun s hs=>Tot.mk ⟨hr,by simp [Qtz]; omega,by simp; omega,Jf2 q3 (q3 s hs)⟩
 refine Tot.bif (fun _=>?_) fun _=>?_
 · refine Tot.ix ⟨hi0,by omega⟩ fun s hs=>?_
   have:=p3 s hs
   unfold Qj4
   rw [ap1 (by simp; omega),Qab,Qab]
   refine Tot.ap (by simp; omega) (Tot.ap (by simp; omega) (Tot.mk ⟨hr,by simp; omega,by simp; omega,fun c hc=>?_⟩))
   rcases List.mem_append.1 hc with hc | hc
   · exact q3 c hc
   · rw [List.mem_singleton.1 hc]; simp; omega
 refine Tot.bif (fun _=>?_) fun _=>?_
 · exact Tot.bind (Qsr hk.2.re' _ (by simp)) fun v hv=>Tot.ix ⟨hi0,by omega⟩ fun s hs=>Tot.mk ⟨hr,by simp; omega,by simp [Qtz]; omega,q3⟩
 · exact Tot.mk ⟨hr,by simp; omega,by simp; omega,q3⟩
end Go.Proofs.YthddjkokpfdbnaaGreat
