import Derived.Test.YtpcmapfabndggaaGreatDroppedBP3
set_option linter.unusedSimpArgs false
set_option linter.unusedVariables false
/- The two ways of packing, by spec and by impl. -/
namespace Go.Proofs.YtpcmapfabndggaaGreat
open Go
open Enc (rd ow)
open Arg (argv)
open Ret (retv)
open Wf (wf)
def Je9 (g:List Int → Bool) (out:List (List Int)) (u:Int):List (List Int):=match Qwq g out with
 | some i=>match out[i]? with
  | some x=>out.set i (x ++ [u])
  | none=>out
 | none=>out ++ [[u]]
def Q7b (r:Request) (u:Int) (l:List Int):Bool:=Q4y r (l ++ [u]) (Qyg r)
def Jgu (r:Request) (out:List (List Int)) (u:Int):List (List Int):=Je9 (Q7b r u) out u
def Ja1 (r:Request) (out:List (List Int)) (u:Int):List (List Int):=match out.getLast? with
 | some l=>bif Q7b r u l then out.set (out.length - 1) (l ++ [u]) else out ++ [[u]]
 | none=>[[u]]
theorem Q3w {r:Request} {out:List (List Int)} {l:List Int} (u:Int) (h:out.getLast? = some l):Ja1 r out u = bif Q7b r u l then out.set (out.length - 1) (l ++ [u]) else out ++ [[u]]:=by unfold Ja1; rw [h]
def Jev (r:Request) (us:List Int):List Int:=(srt (dnk (us.map λu=>Qz4 r [u])) us.length).map λp=>(ix us p).getD 0
def nfM (r:Request) (us:List Int):List (List Int):=(Qwp r us).foldl (Ja1 r) []
def ffM (r:Request) (us:List Int):List (List Int):=(Jev r (Qwp r us)).foldl (Jgu r) []
def pwM (r:Request) (us:List Int):List (List Int):=bif r.qQ == 1 then nfM r us else ffM r us
theorem Q7q {g:List Int → Bool} {out:List (List Int)} {n:Nat} (u:Int) (h:okG n out):okG (n + 1) (Je9 g out u):=by
 obtain ⟨h1,h2⟩:=h
 unfold Je9
 split
 · rename_i i hi
   split
   · rename_i x hx
     refine ⟨by simp; omega,λl hl=>?_⟩
     rcases List.mem_or_eq_of_mem_set hl with hl | rfl
     · have:=h2 l hl; omega
     · have:=h2 x (List.mem_of_getElem? hx); simp; omega
   · exact ⟨by omega,λl hl=>by have:=h2 l hl; omega⟩
 · refine ⟨by simp; omega,λl hl=>?_⟩
   rcases List.mem_append.1 hl with hl | hl
   · have:=h2 l hl; omega
   · rw [List.mem_singleton.1 hl]; simp
theorem Q74 {r:Request} {out:List (List Int)} {n:Nat} (u:Int) (h:okG n out):okG (n + 1) (Ja1 r out u):=by
 obtain ⟨h1,h2⟩:=h
 unfold Ja1
 split
 · rename_i x hx
   have hm:=List.mem_of_getLast? hx
   cases Q7b r u x
   · refine ⟨by simp; omega,λl hl=>?_⟩
     rcases List.mem_append.1 hl with hl | hl
     · have:=h2 l hl; omega
     · rw [List.mem_singleton.1 hl]; simp
   · refine ⟨by simp; omega,λl hl=>?_⟩
     rcases List.mem_or_eq_of_mem_set hl with hl | rfl
     · have:=h2 l hl; omega
     · have:=h2 x hm; simp; omega
 · exact ⟨by simp,λl hl=>by rw [List.mem_singleton.1 hl]; simp⟩
theorem Q4v {F:List (List Int) → Int → List (List Int)} (hF:∀ out n u,okG n out → okG (n + 1) (F out u)):∀ (l:List Int) {out:List (List Int)} {n:Nat},okG n out → okG (n + l.length) (l.foldl F out)
 | [],_,_,h=>h
 | u :: l,out,n,h=>by
  have:=Q4v hF l (hF out n u h)
  rw [List.foldl_cons,List.length_cons,show n + (l.length + 1) = n + 1 + l.length by omega]
  exact this
theorem Jhb {r:Request} {us:List Int} (h:us.length ≤ 12):(Qwp r us).length ≤ 12:=Nat.le_trans (Q1z r us) h
theorem Jby (r:Request) (us:List Int):(Jev r us).length = us.length:=by simp [Jev,Qvx]
theorem Q7j {r:Request} {us:List Int} (h:us.length ≤ 12):okG 12 (pwM r us):=by
 have ht:=Jhb (r:=r) h
 have h0:okG 0 ([]:List (List Int)):=⟨by simp,by simp⟩
 unfold pwM
 cases r.qQ == 1
 · have:=Q4v (F:=Jgu r) (λout n u ho=>Q7q u ho) (Jev r (Qwp r us)) h0
   rw [Jby] at this
   exact ⟨by have:=this.1; simp only [cond_false]; unfold ffM; omega,λl hl=>by have:=this.2 l hl; omega⟩
 · have:=Q4v (F:=Ja1 r) (λout n u ho=>Q74 u ho) (Qwp r us) h0
   exact ⟨by have:=this.1; simp only [cond_true]; unfold nfM; omega,λl hl=>by have:=this.2 l hl; omega⟩
theorem Jeo {g:List Int → Bool} {out:List (List Int)} {c:Int} {n:Nat} (h:okG n out) (hn:n ≤ 1048576) {β:Type} (k:List (List Int) → Option β) (a:Int) (ha:a = match Qwq g out with | some i=>(i:Int) | none=>-1) :
    (bif (decide (a < 0)) then Qac (Qhx 24 out [([c]:List Int)]) λx=>k x else Qac (ix out a) λx=>Qac (Qhx 8 x (([c]:List Int))) λy=>Qac (ix out a) λz=>k (Qge out a y)) = k (Je9 g out c):=by
 obtain ⟨h1,h2⟩:=h
 unfold Je9
 cases hf:Qwq g out with
 | none =>
  rw [hf] at ha
  simp only at ha
  subst ha
  rw [Qco (by simp),ap1 (by simp; omega),Qab]
 | some i =>
  rw [hf] at ha
  simp only at ha
  subst ha
  obtain ⟨x,hx,_⟩:=Qvt hf
  have:=h2 x (List.mem_of_getElem? hx)
  rw [Qbb (by simp),Qq5,hx,Qab,ap1 (by simp; omega),Qab,Qab]
  simp [Qge,hx]
theorem Q90 {r:Request} (h:(Qh3 r == 0) = false) (us:List Int):Qwp r us = []:=by
 unfold Qwp Qim
 rw [h]
 apply List.filter_eq_nil_iff.2
 intro u _
 simp; omega
theorem Ja6 {fu:Nat} {r:Request} (h:Sm fu r) (hc:Qh3 r = 0):Qcg fu r = some (Qim r):=Jdm h hc
theorem Q1q {α:Type} {out:List α} (h:out ≠ []):∃ l,out.getLast? = some l ∧ ix out ((out.length:Int) - 1) = some l:=by
 cases hl:out.getLast? with
 | none=>exact absurd (List.getLast?_eq_none_iff.1 hl) h
 | some l =>
  have hp:=List.length_pos_iff.2 h
  refine ⟨l,rfl,?_⟩
  rw [show (out.length:Int) - 1 = ((out.length - 1:Nat):Int) by omega,Qq5,← List.getLast?_eq_getElem?,hl]
theorem Jfn {fu:Nat} {r:Request} (h:Sm fu r) (us:List Int) (hl:us.length ≤ 1048575):Qpt fu r us = some (nfM r us):=by
 have hfu:=h.fu
 have htl:=Q1z r us
 unfold Qpt nfM
 rw [Q0q h,Qab]
 cases hc:Qh3 r == 0
 · rw [show (Qh3 r != 0) = true by simp only [bne,hc]; rfl,cond_true,Q90 hc]; rfl
 · have hz:Qh3 r = 0:=by simpa using hc
   rw [show (Qh3 r != 0) = false by simp [hz],cond_false,Ja6 h hz,Qab,Q8j h us (by omega),Qab]
   unfold Qta
   rw [Jah h,Qab,Ja6 h hz,Qab]
   have key:=lpI (Qwp r us) (λn (o:List (List Int)) i=>Qf3 fu r (Qwp r us) (Qxh (Qtn r r.fP)) (Qim r) n o i) (λxs o=>some (xs.foldl (Ja1 r) o)) (λxs o=>∃ m,m + xs.length ≤ 1048575 ∧ okG m o) (by omega) ?_ ?_ fu [] ⟨0,by omega,by simp,by simp⟩ (by omega)
   · rw [key]; rfl
   · intro n o i u xs hx hd hI ih
     obtain ⟨m,hm,ho⟩:=hI
     simp only [List.length_cons] at hm
     have h1:=ho.1
     have h2:=ho.2
     have hI':=ih (Ja1 r o u) ⟨m + 1,by omega,Q74 u ho⟩
     simp only [Qf3.eq_2]
     unfold Qno Qij
     rw [hd,cond_true,List.foldl_cons,← hI',Qbp (by omega) (by omega)]
     by_cases he:o = []
     · subst he
       rw [decide_eq_false (by simp),cond_false,hx,Qab,ap1 (by simp),Qab]; rfl
     · obtain ⟨l,e1,e2⟩:=Q1q he
       have hp:=List.length_pos_iff.2 he
       have hll:=h2 l (List.mem_of_getLast? e1)
       rw [decide_eq_true (by omega),cond_true,e2,Qab,hx,Qab,Jc1,Q6d r _ l u (by omega) (by omega),Qab]
       rw [Q3w u e1]
       unfold Q7b
       cases Q4y r (l ++ [u]) (Qyg r)
       · rw [cond_false,cond_false,Qab,ap1 (by simp; omega),Qab]
       · rw [cond_true,cond_true,Qab,Qab,ap1 (by simp; omega),Qab,Qab]
         rw [show Qge o ((o.length:Int) - 1) (l ++ [u]) = o.set (o.length - 1) (l ++ [u]) by unfold Qge; congr 1; omega]
   · intro n o i hd _
     simp only [Qf3.eq_2]
     unfold Qno
     rw [hd,cond_false]; rfl
theorem Jde {us:List Int} {p:Int} (h:0 ≤ p ∧ p < us.length):ix us p = some ((ix us p).getD 0):=by
 have:=Qxs (l:=us) (i:=p.toNat) (by omega)
 rw [show ((p.toNat:Nat):Int) = p by omega] at this
 rw [this]; rfl
theorem Q1k {α β γ:Type} (f:γ → β → γ) (g:α → β):∀ (l:List α) (s:γ),(l.map g).foldl f s = l.foldl (λs x=>f s (g x)) s
 | [],_=>rfl
 | x :: l,s=>by rw [List.map_cons,List.foldl_cons,List.foldl_cons,Q1k f g l]
theorem Jdx {fu:Nat} {r:Request} (h:Sm fu r) (us:List Int) (hl:us.length < 20):Qoh fu r us = some (ffM r us):=by
 have hfu:=h.fu
 have htl:=Q1z r us
 unfold Qoh ffM Jev
 rw [Q0q h,Qab]
 cases hc:Qh3 r == 0
 · rw [show (Qh3 r != 0) = true by simp only [bne,hc]; rfl,cond_true,Q90 hc]; rfl
 · have hz:Qh3 r = 0:=by simpa using hc
   rw [show (Qh3 r != 0) = false by simp [hz],cond_false,Ja6 h hz,Qab,Q8j h us (by omega),Qab]
   unfold Qso
   rw [Jah h,Qab,Ja6 h hz,Qab]
   generalize Qwp r us = t at htl ⊢
   have key:=lpI t (λn (o:List Int) i=>Qgi fu r t (Qxh (Qtn r r.fP)) (Qim r) n o i) (λxs o=>Qac (Qgz fu (o ++ xs.map λu=>Qz4 r [u])) λx=>Qcj fu r t (Qxh (Qtn r r.fP)) (Qim r) x fu [] 0) (λxs o=>o.length + xs.length ≤ 20) (by omega) ?_ ?_ fu [] (by simp; omega) (by omega)
   · rw [key,List.nil_append,Jco hfu (by simp; omega),Qab,Q1k,List.length_map]
     have hsl:=Qvx (dnk (t.map λu=>Qz4 r [u])) t.length
     have hsm:=λx=>Q2l (k:=dnk (t.map λu=>Qz4 r [u])) (n:=t.length) (x:=x)
     generalize srt (dnk (t.map λu=>Qz4 r [u])) t.length = S at hsl hsm ⊢
     have key1:=lpI S (λn (o:List (List Int)) i=>Qcj fu r t (Qxh (Qtn r r.fP)) (Qim r) S n o i) (λxs o=>some (xs.foldl (λs p=>Jgu r s ((ix t p).getD 0)) o)) (λxs o=>(∃ m,m + xs.length ≤ 20 ∧ okG m o) ∧ ∀ p ∈ xs,0 ≤ p ∧ p < t.length) (by omega) ?_ ?_ fu [] ⟨⟨0,by omega,by simp,by simp⟩,λp hp=>(hsm p).1 hp⟩ (by omega)
     · rw [key1]; rfl
     · intro n o i p xs hx hd hI ih
       obtain ⟨⟨m,hm,ho⟩,hin⟩:=hI
       simp only [List.length_cons] at hm
       have hp:=Jde (hin p (by simp))
       have ho1:=ho.1
       simp only [Qcj.eq_2]
       unfold Qk4
       rw [hd,cond_true,hx,Qab,hp,Qab,List.foldl_cons]
       generalize (ix t p).getD 0 = u
       obtain ⟨K,hK⟩:∃ K,K = Qcj fu r t (Qxh (Qtn r r.fP)) (Qim r) S n:=⟨_,rfl⟩
       rw [← hK] at ih ⊢
       obtain ⟨R,hR⟩:∃ R:Int → Option (List (List Int)),R = λa=>bif (decide (a < 0)) then Qac (Qhx 24 o [([u]:List Int)]) λx=>K x (w64 (i + 1)) else Qac (ix o a) λx=>Qac (Qhx 8 x (([u]:List Int))) λy=>Qac (ix o a) λz=>K (Qge o a y) (w64 (i + 1)):=⟨_,rfl⟩
       have hD:=lpD o.length (λn a j=>Qe6 fu K r (Qxh (Qtn r r.fP)) (Qim r) o i u n a j) (λxs a=>R (xs.foldl (Jc9 (Q7b r u) o) a)) (by omega) ?_ ?_ fu (-1) (by omega)
       · rw [hD,hR]
         refine (Jeo (g:=Q7b r u) (c:=u) ho (by omega) (λx=>K x (w64 (i + 1))) _ ?_).trans (ih _ ⟨⟨m + 1,by omega,Q7q u ho⟩,λq hq=>hin q (by simp [hq])⟩)
         rw [Qyz (Q7b r u) o o.length (-1) (Nat.le_refl _),List.take_length]
         cases Qwq (Q7b r u) o <;> rfl
       · intro n a j xs h0 h1 hd ih
         simp only [Qe6.eq_2]
         unfold Qlt Qkf
         obtain ⟨j,rfl⟩:∃ q:Nat,j = q:=⟨j.toNat,by omega⟩
         have hj:j < o.length:=by omega
         have hg:=ho.2 _ (List.getElem_mem hj)
         rw [hd,cond_true,Qxs hj,Qab,Jc1,Q6d r _ _ u (by omega) (by omega),Qab]
         have e:Jc9 (Q7b r u) o a (j:Int) = bif Q4y r (o[j] ++ [u]) (Qyg r) then (j:Int) else a:=by unfold Jc9 atB Q7b; rw [Qxs hj]
         simp only [ih,List.foldl_cons,e]
         cases Q4y r (o[j] ++ [u]) (Qyg r) <;> rfl
       · intro n a j hd
         simp only [Qe6.eq_2]
         unfold Qlt Qks
         rw [hd,cond_false,hR]; rfl
     · intro n o i hd _
       simp only [Qcj.eq_2]
       unfold Qk4
       rw [hd,cond_false]; rfl
   · intro n o i u xs hx hd hI ih
     simp only [List.length_cons] at hI
     obtain ⟨i0,i1,i2⟩:=Qas hx
     have e:sls t i (w64 (i + 1)) = some [u]:=by
      rw [Qbp (by omega) (by omega),Qt8 (by omega)]
      congr 1
      rw [show (i + 1).toNat - i.toNat = 1 by omega]
      have hlt:=(List.getElem?_eq_some_iff.1 i2).1
      have heq:=(List.getElem?_eq_some_iff.1 i2).2
      rw [List.drop_eq_getElem_cons hlt,heq]; rfl
     simp only [Qgi.eq_2]
     unfold Qmi
     rw [hd,cond_true,e,Qab,Q7o r [u] (by simp) (by simp; omega),Qab,ap1 (by simp; omega),Qab,ih _ (by simp; omega)]
     simp
   · intro n o i hd _
     simp only [Qgi.eq_2]
     unfold Qmi
     rw [hd,cond_false]; simp
theorem Jh2 {fu:Nat} {r:Request} (h:Sm fu r) (us:List Int) (hl:us.length < 20):Qpr fu r us = some (pwM r us):=by
 unfold Qpr pwM
 rw [Jfn h us (by omega),Jdx h us hl]
 cases r.qQ == 1 <;> rfl
end Go.Proofs.YtpcmapfabndggaaGreat
/- The units of a group, by spec and by impl. -/
namespace Go.Proofs.YtpcmapfabndggaaGreat
open Go
open Enc (rd ow)
open Arg (argv)
open Ret (retv)
open Wf (wf)
def Jjo (r:Request) (k:Int):Bool:=inb k 0 (((Qn2 r).length:Int) - 1)
theorem Q6u {r:Request} {k:Int} (h:Jjo r k = true):Qh3 r = 0:=by
 unfold Jjo at h
 rw [Qd3] at h
 by_cases hc:Qh3 r = 0
 · exact hc
 · have:Qn2 r = []:=by
     unfold Qn2 Qz2
     rw [show (Qh3 r == 0) = false by simp [hc]]
     rfl
   rw [this] at h
   simp at h
   omega
theorem Jb3 (r:Request) (g:List Int) (u i:Int) (us:List Int) {x:Item} (hx:ix r.fG i = some x):ofG r g u (i :: us) = bif g.contains x.fF then u :: ofG r g (u + 1) us else ofG r g (u + 1) us:=by
 rw [ofG,hx]
theorem Ji6 {fu:Nat} {r:Request} (h:Sm fu r) (k:Int):Qp8 fu r k = some (Q8z r k):=by
 have hfu:=h.fu
 unfold Qp8 Q8z
 rw [Jb7 h,Qab,Jek,Q1m,Qab]
 cases hg:inb k 0 (((Qn2 r).length:Int) - 1)
 · rw [Bool.not_false,cond_true]
   have:ix (Qn2 r) k = none:=by
    have hk:¬ (0 ≤ k ∧ k ≤ ((Qn2 r).length:Int) - 1):=by intro hk; rw [(Qd3).2 hk] at hg; cases hg
    unfold ix
    by_cases h0:0 ≤ k
    · rw [if_pos h0,List.getElem?_eq_none (by omega)]
    · rw [if_neg h0]
   rw [this]
 · have hc:=Q6u hg
   rw [Qd3] at hg
   obtain ⟨j,rfl⟩:∃ j:Nat,k = j:=⟨k.toNat,by omega⟩
   have hj:j < (Qn2 r).length:=by omega
   have hgl:=(Quz r).2 _ (List.getElem_mem hj)
   rw [Bool.not_true,cond_false,Jig h (Qfq hc).1,Qab,Qxs hj]
   have e:Qim r = l6M r:=by unfold Qim; rw [show (Qh3 r == 0) = true by simp [hc],cond_true]
   simp only [e]
   have hlen:(l6M r).length ≤ 12:=Q75 (Qfq hc).1
   have:=Jfb (l6M r) (λn out i=>Qfg fu r (j:Int) (Qn2 r) (l6M r) n out i) (λpre xs out=>some (out ++ ofG r (Qn2 r)[j] (pre.length:Int) xs)) (λpre xs out=>out.length + xs.length ≤ 12) (by omega) ?_ ?_ fu [] (by simpa using hlen) (by omega)
   · simpa using this
   · intro n out pre i xs hl hx hd hI ih
     simp only [List.length_cons] at hI
     have hi:i ∈ Qim r:=by rw [e,hl]; simp
     have hi2:=Q54 hi
     obtain ⟨q,rfl⟩:∃ q:Nat,i = q:=⟨i.toNat,by omega⟩
     have hq:q < r.fG.length:=by omega
     simp only [Qfg.eq_2]
     unfold Qlr Qj9
     simp only [hd,cond_true,hx,Qab,Qxs hj,Qxs hq,Jd8 (show (Qn2 r)[j].length ≤ 1048576 by omega) (show (Qn2 r)[j].length < fu by omega)]
     rw [Jb3 r _ _ _ _ (Qxs hq)]
     cases (Qn2 r)[j].contains r.fG[q].fF
     · rw [cond_false,cond_false,ih _ (by omega)]
       simp
     · rw [cond_true,cond_true,ap1 (by simp; omega),Qab,ih _ (by simp; omega)]
       simp
   · intro n out hd hI
     simp only [Qfg.eq_2]
     unfold Qlr
     simp only [hd,cond_false]
     simp [ofG]
end Go.Proofs.YtpcmapfabndggaaGreat
/- CartonsOf of spec and of impl. -/
namespace Go.Proofs.YtpcmapfabndggaaGreat
open Go
open Enc (rd ow)
open Arg (argv)
open Ret (retv)
open Wf (wf)
def Jhi (l:List Int):List Int:=l.mergeSort λx y=>decide (x ≤ y)
theorem Qzh (l:List Int):(Jhi l).Perm l:=List.mergeSort_perm l _
theorem Ja5 (l:List Int):(Jhi l).length = l.length:=(Qzh l).length_eq
def Jcd (r:Request) (k:Int) (l:List Int):Carton:=⟨(Qxk r l).1.f8,k,Jhi l⟩
def Q6v (r:Request) (k:Int):List Carton:=(pwM r (Q8z r k)).map (Jcd r k)
def Q4b (r:Request):List Int → List Carton
 | []=>[]
 | k :: ks=>Q6v r k ++ Q4b r ks
def Q18 (r:Request):List Carton:=Q4b r (Qj3 0 (Qn2 r).length)
theorem Q8h (l:List Int):(Qj3 0 l.length).map (λp=>(ix l p).getD 0) = l:=by
 have key:∀ (xs pre:List Int),l = pre ++ xs → (Qj3 pre.length xs.length).map (λp=>(ix l p).getD 0) = xs:=by
  intro xs
  induction xs with
  | nil=>intro pre _; rfl
  | cons x xs ih =>
   intro pre he
   have h1:=ih (pre ++ [x]) (by simp [he])
   simp only [List.length_append,List.length_singleton] at h1
   simp only [List.length_cons,Qj3,List.map_cons]
   rw [show ((pre.length:Int) + 1) = ((pre.length + 1:Nat):Int) by omega,h1]
   congr 1
   rw [Qq5,he]
   simp
 exact key l [] rfl
theorem Jem (l:List Int):(srt (kf l) l.length).map (λp=>(ix l p).getD 0) = Jhi l:=by
 refine Q8e ?_ ?_ (Qsz l)
 · refine ((Qu1 _ _).map _).trans ?_
   rw [Q8h]
   exact (Qzh l).symm
 · refine List.pairwise_map.2 ((Qw3 (kf l) l.length).imp fun {p q} h=>?_)
   unfold lx kf at h
   omega
theorem Jbn {r:Request} (k:Int):(Q6v r k).length ≤ 12:=by
 have:=(Q7j (r:=r) (Q22 r k)).1
 simp [Q6v]; omega
theorem Jjb {fu:Nat} {r:Request} (h:Sm fu r):Qmv fu r = some (Q18 r):=by
 have hfu:=h.fu
 have hg:=(Quz r).1
 unfold Qmv Q18
 rw [Jb7 h,Qab]
 have:=Jai ((Qn2 r).length:Int) (λn out i=>Qbd fu r (Qn2 r) n out i) (λxs out=>some (out ++ Q4b r xs)) (λxs out=>out.length + 12 * xs.length ≤ 48) (by omega) ?_ ?_ (Qn2 r).length fu [] 0 (by omega) (by omega) (by omega) (by simp [Qer]; omega)
 · simpa using this
 · intro n out k ks h0 h1 hd hI ih
   simp only [List.length_cons] at hI
   have hul:=Q22 r k
   have hpo:=Q7j (r:=r) hul
   simp only [Qbd.eq_2]
   unfold Qis
   rw [hd,cond_true,Ji6 h,Qab,Jh2 h _ (by omega),Qab]
   have key:=lpI (pwM r (Q8z r k)) (λm o i=>Qb0 fu (Qbd fu r (Qn2 r) n) r k (pwM r (Q8z r k)) m o i) (λxs o=>Qbd fu r (Qn2 r) n (o ++ xs.map (Jcd r k)) (w64 (k + 1))) (λxs o=>o.length + xs.length ≤ 48 ∧ ∀ l ∈ xs,l.length ≤ 12) (by have:=hpo.1; omega) ?_ ?_ fu out ⟨by have:=hpo.1; omega,hpo.2⟩ (by have:=hpo.1; omega)
   · rw [key,ih _ (by have:=hpo.1; simp; omega)]
     simp [Q4b,Q6v]
   · intro m o i l xs hx hd hI ih
     obtain ⟨h2,h3⟩:=hI
     simp only [List.length_cons] at h2
     have hl:=h3 l (by simp)
     simp only [Qb0.eq_2]
     unfold Qi1 Ql0
     rw [hd,cond_true,hx,Qab,Q8c h l (by omega),Qab,Qab,Jjx hfu (by omega),Qab]
     have hsl:=Qvx (kf l) l.length
     have hsm:=λx=>Q2l (k:=kf l) (n:=l.length) (x:=x)
     have hsg:=Jem l
     generalize srt (kf l) l.length = S at hsl hsm hsg ⊢
     have k1:=lpI S (λm' us j=>Qez fu (Qb0 fu (Qbd fu r (Qn2 r) n) r k (pwM r (Q8z r k)) m) k (pwM r (Q8z r k)) o i (Qxk r l).1 S m' us j)
      (λxs us=>Qac (Qhx 40 o [(⟨(Qxk r l).1.f8,k,us ++ xs.map λp=>(ix l p).getD 0⟩:Carton)]) λx=>Qh7 fu (Qb0 fu (Qbd fu r (Qn2 r) n) r k (pwM r (Q8z r k)) m) i x) (λxs us=>us.length + xs.length ≤ 12 ∧ ∀ p ∈ xs,0 ≤ p ∧ p < l.length) (by omega) ?_ ?_ fu [] ⟨by simp; omega,λp hp=>(hsm p).1 hp⟩ (by omega)
     · rw [k1,List.nil_append,hsg,ap1 (by simp; omega),Qab]
       unfold Qh7
       rw [ih _ ⟨by simp; omega,λy hy=>h3 y (by simp [hy])⟩]
       simp [Jcd]
     · intro m' us j p ps hp hd hI ih
       obtain ⟨h4,h5⟩:=hI
       simp only [List.length_cons] at h4
       simp only [Qez.eq_2]
       unfold Qi4
       rw [hd,cond_true,hx,Qab,hp,Qab,Jde (h5 p (by simp)),Qab,ap1 (by simp; omega),Qab,ih _ ⟨by simp; omega,λy hy=>h5 y (by simp [hy])⟩]
       simp
     · intro m' us j hd _
       simp only [Qez.eq_2]
       unfold Qi4
       rw [hd,cond_false]; simp
   · intro m o i hd _
     simp only [Qb0.eq_2]
     unfold Qi1 Qk7
     rw [hd,cond_false]; simp
 · intro n out k hd _
   simp only [Qbd.eq_2]
   unfold Qis
   rw [hd,cond_false]; simp [Q4b]
theorem Q57 (r:Request):∀ (ks:List Int),(Q4b r ks).length ≤ 12 * ks.length
 | []=>by simp [Q4b]
 | k :: ks=>by
  have:=Q57 r ks
  have:=Jbn (r:=r) k
  simp [Q4b]; omega
theorem Q23 (r:Request):(Q18 r).length ≤ 48:=by
 have:=Q57 r (Qj3 0 (Qn2 r).length)
 have hg:=(Quz r).1
 rw [Qer] at this
 unfold Q18
 omega
theorem Q5r {r:Request} {c:Carton}:∀ {ks:List Int},c ∈ Q4b r ks ↔ ∃ k ∈ ks,∃ l ∈ pwM r (Q8z r k),c = Jcd r k l
 | []=>by simp [Q4b]
 | k :: ks=>by
  simp only [Q4b,List.mem_append,Q5r (ks:=ks),List.mem_cons,Q6v,List.mem_map]
  constructor
  · rintro (⟨l,hl,rfl⟩ | ⟨k',hk,l,hl,e⟩)
    · exact ⟨k,.inl rfl,l,hl,rfl⟩
    · exact ⟨k',.inr hk,l,hl,e⟩
  · rintro ⟨k',rfl | hk,l,hl,rfl⟩
    · exact .inl ⟨l,hl,rfl⟩
    · exact .inr ⟨k',hk,l,hl,rfl⟩
theorem Q3d {r:Request} {c:Carton} (h:c ∈ Q18 r):c.fM.length ≤ 12:=by
 obtain ⟨k,_,l,hl,rfl⟩:=Q5r.1 h
 have:=(Q7j (r:=r) (Q22 r k)).2 l hl
 simp only [Jcd,Ja5]
 omega
end Go.Proofs.YtpcmapfabndggaaGreat
/- Transitive of spec and of impl; where it is, groups are apart. -/
namespace Go.Proofs.YtpcmapfabndggaaGreat
open Go
open Enc (rd ow)
open Arg (argv)
open Ret (retv)
open Wf (wf)
theorem Jd5 {α:Type} (l:List α) (L:Nat → Int → Option Bool) (g:α → Bool) (fin:Option Bool) (hl:l.length ≤ 1099511627776)
    (hs:∀ n (i:Int) x,ix l i = some x → decide (i < (l.length:Int)) = true → L (n + 1) i = bif g x then L n (w64 (i + 1)) else some false)
    (he:∀ n (i:Int),decide (i < (l.length:Int)) = false → L (n + 1) i = fin):∀ n,l.length < n → L n 0 = bif l.all g then fin else some false:=by
 intro n hn
 refine lp l (λn (_:Unit) i=>L n i) (λxs _=>bif xs.all g then fin else some false) hl ?_ ?_ n () hn
 · intro n s i x xs hx hd ih
   rw [hs n i x hx hd,ih (),List.all_cons]
   cases g x <;> rfl
 · intro n s i hd
   rw [he n i hd]; rfl
structure Sep (p:List Pair) (P:List Int) (out:List (List Int)):Prop where
 ne:∀ g ∈ out,g ≠ []
 inn:∀ g ∈ out,∀ x ∈ g,x ∈ P
 one:∀ g ∈ out,∀ x ∈ g,∀ y ∈ g,x ≠ y → Q1t p x y = true
 two:∀ (i j:Nat) (g h:List Int),out[i]? = some g → out[j]? = some h → i ≠ j → ∀ x ∈ g,∀ y ∈ h,Q1t p x y = false
end Go.Proofs.YtpcmapfabndggaaGreat
/- RivalBy of spec and of impl. -/
namespace Go.Proofs.YtpcmapfabndggaaGreat
open Go
open Enc (rd ow)
open Arg (argv)
open Ret (retv)
open Wf (wf)
theorem Q9z {α:Type} {l:List α} {i:Int} (h0:0 ≤ i) (h1:i < l.length):∃ x,ix l i = some x:=by
 obtain ⟨j,rfl⟩:∃ j:Nat,i = j:=⟨i.toNat,by omega⟩
 exact ⟨_,Qxs (by omega)⟩
end Go.Proofs.YtpcmapfabndggaaGreat
/- Shelves, layers, loads, spots of spec: what they compute, and what holds of them. -/
namespace Go.Proofs.YtpcmapfabndggaaGreat
open Go
open Enc (rd ow)
open Arg (argv)
open Ret (retv)
open Wf (wf)
def Jep (p:Pallet) (b:Box):Bool:=inb b.fW 1 p.fW && (inb b.fD 1 p.fD && (inb b.fH 1 p.fH && inb b.fV 1 p.fV))
def Q29 (p:Pallet) (l:List Box):Bool:=Qz7 p && l.all (Jep p)
theorem Jf2 {fu:Nat} (p:Pallet) (l:List Box) (hl:l.length ≤ 1048576) (hf:l.length < fu):Qm6 fu p l = some (Q29 p l):=by
 unfold Qm6 Q29
 rw [Jbc,Qab]
 cases Qz7 p
 · rfl
 · rw [Bool.not_true,cond_false,Bool.true_and]
   have:=Jd5 l (λn i=>Qe4 fu p l n i) (Jep p) (some true) (by omega) ?_ ?_ fu hf
   · rw [this]
     cases l.all (Jep p) <;> rfl
   · intro n i x hx hd
     simp only [Qe4.eq_2]
     unfold Qlo Qpb Jep
     simp only [hd,cond_true,hx,Qab,Q1m]
     cases inb x.fW 1 p.fW <;> cases inb x.fD 1 p.fD <;> cases inb x.fH 1 p.fH <;> cases inb x.fV 1 p.fV <;> rfl
   · intro n i hd
     simp only [Qe4.eq_2]
     unfold Qlo
     rw [hd,cond_false]
def nxG {σ:Type} (fits:σ → Bool) (add:σ → σ) (z:σ) (out:List σ):List σ:=match out.getLast? with
 | some s=>bif fits s then out.set (out.length - 1) (add s) else out ++ [add z]
 | none=>[add z]
theorem Q2w {σ:Type} {fits:σ → Bool} {add:σ → σ} {z:σ} {out:List σ} {s:σ} (h:out.getLast? = some s):nxG fits add z out = bif fits s then out.set (out.length - 1) (add s) else out ++ [add z]:=by unfold nxG; rw [h]
theorem Qw4 {σ:Type} (fits:σ → Bool) (add:σ → σ) (z:σ) (out:List σ):(nxG fits add z out).length ≤ out.length + 1:=by
 unfold nxG
 split
 · cases fits _ <;> simp
 · simp
theorem Q4w {σ:Type} {fits:σ → Bool} {add:σ → σ} {z:σ} {out:List σ} {I:σ → Prop} (h:∀ s ∈ out,I s) (ha:∀ s,I s → fits s = true → I (add s)) (hz:I (add z)):∀ s ∈ nxG fits add z out,I s:=by
 intro s hs
 unfold nxG at hs
 split at hs
 · rename_i x hx
   have hm:=List.mem_of_getLast? hx
   cases hf:fits x
   · rw [hf,cond_false] at hs
     rcases List.mem_append.1 hs with hs | hs
     · exact h s hs
     · rw [List.mem_singleton.1 hs]; exact hz
   · rw [hf,cond_true] at hs
     rcases List.mem_or_eq_of_mem_set hs with hs | rfl
     · exact h s hs
     · exact ha x (h x hm) hf
 · rw [List.mem_singleton.1 hs]; exact hz
theorem Qu3 {σ:Type} {fits:σ → Bool} {add:σ → σ} {z:σ} {out:List σ} {f:σ → List Int} {i:Int} (ha:∀ s,f (add s) = f s ++ [i]) (hz:f z = []):((nxG fits add z out).map f).flatten = (out.map f).flatten ++ [i]:=by
 unfold nxG
 split
 · rename_i x hx
   cases fits x
   · rw [cond_false,List.map_append,List.flatten_append]
     simp [ha,hz]
   · rw [cond_true]
     have hne:out ≠ []:=by intro e; rw [e] at hx; simp at hx
     have e:out = out.dropLast ++ [x]:=by
      have h1:=List.dropLast_concat_getLast hne
      rw [List.getLast?_eq_some_getLast hne] at hx
      rw [Option.some.inj hx] at h1
      exact h1.symm
     obtain ⟨d,hd⟩:∃ d,out = d ++ [x]:=⟨_,e⟩
     rw [hd]
     simp [ha]
 · rename_i hx
   have:out = []:=List.getLast?_eq_none_iff.1 hx
   subst this
   simp [ha,hz]
def mxI (a b:Int):Int:=if a > b then a else b
theorem Q1g (a b:Int):a ≤ mxI a b ∧ b ≤ mxI a b ∧ (mxI a b = a ∨ mxI a b = b):=by unfold mxI; split <;> omega
def zBx:Box:=⟨0,0,0,0⟩
def bxA (l:List Box) (i:Int):Box:=(ix l i).getD zBx
def zSh:Shelf:=⟨[],0,0,0,0⟩
def Qtz (s:Shelf) (i:Int) (b:Box):Shelf:=⟨s.qJ ++ [i],s.fW + b.fW,mxI s.fD b.fD,mxI s.fH b.fH,s.fV + b.fV⟩
def Jbj (p:Pallet) (b:Box) (s:Shelf):Bool:=decide (s.fW + b.fW ≤ p.fW) && decide (s.fV + b.fV ≤ p.fV)
def shS (p:Pallet) (l:List Box) (out:List Shelf) (i:Int):List Shelf:=nxG (Jbj p (bxA l i)) (λs=>Qtz s i (bxA l i)) zSh out
def shM (p:Pallet) (l:List Box):List Shelf:=bif Q29 p l then (srt (dnk (l.map (·.fD))) l.length).foldl (shS p l) [] else []
structure ShI (p:Pallet) (n:Nat) (s:Shelf):Prop where
 ne:s.qJ ≠ []
 inn:∀ i ∈ s.qJ,0 ≤ i ∧ i < n
 w:1 ≤ s.fW ∧ s.fW ≤ p.fW
 d:1 ≤ s.fD ∧ s.fD ≤ p.fD
 h:1 ≤ s.fH ∧ s.fH ≤ p.fH
 g:1 ≤ s.fV ∧ s.fV ≤ p.fV
theorem Jav {p:Pallet} {l:List Box} (h:Q29 p l = true) {i:Int} (hi:0 ≤ i ∧ i < l.length):ix l i = some (bxA l i) ∧ (1 ≤ (bxA l i).fW ∧ (bxA l i).fW ≤ p.fW) ∧ (1 ≤ (bxA l i).fD ∧ (bxA l i).fD ≤ p.fD) ∧ (1 ≤ (bxA l i).fH ∧ (bxA l i).fH ≤ p.fH) ∧ (1 ≤ (bxA l i).fV ∧ (bxA l i).fV ≤ p.fV):=by
 obtain ⟨x,hx⟩:=Q9z (l:=l) hi.1 hi.2
 have e:bxA l i = x:=by unfold bxA; rw [hx]; rfl
 unfold Q29 at h
 simp only [Bool.and_eq_true] at h
 have:=List.all_eq_true.1 h.2 x (Qd5 hx)
 simp only [Jep,Bool.and_eq_true,Qd3] at this
 rw [e]
 exact ⟨hx,this.1,this.2.1,this.2.2.1,this.2.2.2⟩
theorem Q6q {p:Pallet} (h:Qz7 p = true):(1 ≤ p.fW ∧ p.fW ≤ 2000) ∧ (1 ≤ p.fD ∧ p.fD ≤ 2000) ∧ (1 ≤ p.fH ∧ p.fH ≤ 2000) ∧ (1 ≤ p.fV ∧ p.fV ≤ 100000):=by
 simp only [Qz7,Bool.and_eq_true,Qd3] at h
 exact ⟨h.1,h.2.1,h.2.2.1,h.2.2.2⟩
theorem Q70 {p:Pallet} {l:List Box} (h:Q29 p l = true):Qz7 p = true:=by
 unfold Q29 at h
 simp only [Bool.and_eq_true] at h
 exact h.1
theorem Q7i {p:Pallet} {l:List Box} (hb:Q29 p l = true) {out:List Shelf} {i:Int} (hi:0 ≤ i ∧ i < l.length) (h:∀ s ∈ out,ShI p l.length s):∀ s ∈ shS p l out i,ShI p l.length s:=by
 obtain ⟨_,b1,b2,b3,b4⟩:=Jav hb hi
 refine Q4w h (λs hs hf=>?_) ⟨by simp [Qtz],λj hj=>?_,?_,?_,?_,?_⟩
 · unfold Jbj at hf
   simp only [Bool.and_eq_true,decide_eq_true_eq] at hf
   obtain ⟨s1,s2,s3,s4,s5,s6⟩:=hs
   have m1:=Q1g s.fD (bxA l i).fD
   have m2:=Q1g s.fH (bxA l i).fH
   refine ⟨by simp [Qtz],λj hj=>?_,?_,?_,?_,?_⟩
   · simp only [Qtz,List.mem_append,List.mem_singleton] at hj
     rcases hj with hj | rfl
     · exact s2 j hj
     · exact hi
   · simp only [Qtz]; omega
   · simp only [Qtz]; omega
   · simp only [Qtz]; omega
   · simp only [Qtz]; omega
 · simp only [Qtz,zSh,List.nil_append,List.mem_singleton] at hj
   rw [hj]; exact hi
 · simp only [Qtz,zSh]; omega
 · have:=Q1g 0 (bxA l i).fD
   simp only [Qtz,zSh]; omega
 · have:=Q1g 0 (bxA l i).fH
   simp only [Qtz,zSh]; omega
 · simp only [Qtz,zSh]; omega
theorem Jat {p:Pallet} {l:List Box} (hb:Q29 p l = true):∀ (is:List Int) (out:List Shelf),(∀ i ∈ is,0 ≤ i ∧ i < l.length) → (∀ s ∈ out,ShI p l.length s) → (∀ s ∈ is.foldl (shS p l) out,ShI p l.length s) ∧ ((is.foldl (shS p l) out).map (·.qJ)).flatten = (out.map (·.qJ)).flatten ++ is ∧ (is.foldl (shS p l) out).length ≤ out.length + is.length
 | [],out,_,h=>⟨h,by simp,by simp⟩
 | i :: is,out,hi,h=>by
  rw [List.foldl_cons]
  obtain ⟨h1,h2,h3⟩:=Jat hb is (shS p l out i) (λj hj=>hi j (by simp [hj])) (Q7i hb (hi i (by simp)) h)
  have h4:((shS p l out i).map (·.qJ)).flatten = (out.map (·.qJ)).flatten ++ [i]:=Qu3 (λs=>rfl) rfl
  have h5:(shS p l out i).length ≤ out.length + 1:=Qw4 _ _ _ _
  refine ⟨h1,by rw [h2,h4]; simp,by simp; omega⟩
theorem Q4k {p:Pallet} {l:List Box} (hb:Q29 p l = true):(∀ s ∈ shM p l,ShI p l.length s) ∧ ((shM p l).map (·.qJ)).flatten = srt (dnk (l.map (·.fD))) l.length ∧ (shM p l).length ≤ l.length:=by
 unfold shM
 rw [hb,cond_true]
 obtain ⟨h1,h2,h3⟩:=Jat hb (srt (dnk (l.map (·.fD))) l.length) [] (λi hi=>Q2l.1 hi) (by simp)
 refine ⟨h1,by simpa using h2,?_⟩
 rw [Qvx] at h3
 simpa using h3
theorem Jgz {fu:Nat} (s:Shelf) (i:Int) (b:Box) (hl:s.qJ.length ≤ 1000000) (h1:-1000000000 ≤ s.fW + b.fW ∧ s.fW + b.fW ≤ 1000000000) (h2:-1000000000 ≤ s.fV + b.fV ∧ s.fV + b.fV ≤ 1000000000):Qgt fu s i b = some (Qtz s i b):=by
 unfold Qgt
 rw [ap1 (by simp; omega),Qab,ap1 (by simp; omega),Qab,Jcg,Qab,Jcg,Qab,Qbp (by omega) (by omega),Qbp (by omega) (by omega)]
 rfl
theorem Qvp {σ:Type} (f:σ → List Int):∀ (l:List σ) (s:σ),s ∈ l → (f s).length ≤ ((l.map f).flatten).length
 | [],_,h=>by simp at h
 | x :: l,s,h=>by
  simp only [List.map_cons,List.flatten_cons,List.length_append]
  rcases List.mem_cons.1 h with rfl | h
  · omega
  · have:=Qvp f l s h; omega
theorem Q9p {fu:Nat} (hfu:2097153 ≤ fu) (p:Pallet) (l:List Box) (hl:l.length ≤ 1000):Qpu fu p l = some (shM p l):=by
 unfold Qpu shM
 rw [Jf2 p l (by omega) (by omega),Qab]
 cases hb:Q29 p l
 · rfl
 · rw [Bool.not_true,cond_false,cond_true]
   have key:=lpI l (λn (o:List Int) i=>Qgf fu p l n o i) (λxs o=>Qac (Qgz fu (o ++ xs.map (·.fD))) λx=>Qed fu p l x fu [] 0) (λxs o=>o.length + xs.length ≤ 1000) (by omega) ?_ ?_ fu [] (by simp; omega) (by omega)
   · rw [key,List.nil_append,Jco hfu (by simp; omega),Qab,List.length_map]
     have hsl:=Qvx (dnk (l.map (·.fD))) l.length
     have hsm:=λx=>Q2l (k:=dnk (l.map (·.fD))) (n:=l.length) (x:=x)
     generalize srt (dnk (l.map (·.fD))) l.length = S at hsl hsm ⊢
     have L1:=lpI S (λn (o:List Shelf) i=>Qed fu p l S n o i) (λxs o=>some (xs.foldl (shS p l) o)) (λxs o=>(∀ i ∈ xs,0 ≤ i ∧ i < l.length) ∧ (∀ s ∈ o,ShI p l.length s) ∧ ((o.map (·.qJ)).flatten).length + xs.length ≤ 1000 ∧ o.length + xs.length ≤ 1000) (by omega) ?_ ?_ fu [] ⟨λi hi=>(hsm i).1 hi,by simp,by simp; omega,by simp; omega⟩ (by omega)
     · exact L1
     · intro n o i x xs hx hd hI ih
       obtain ⟨i1,i2,i3,i4⟩:=hI
       simp only [List.length_cons] at i3 i4
       have hxi:=i1 x (by simp)
       obtain ⟨hbx,b1,b2,b3,b4⟩:=Jav hb hxi
       obtain ⟨p1,p2,p3,p4⟩:=Q6q (Q70 hb)
       have hn:Qgt fu zSh x (bxA l x) = some (Qtz zSh x (bxA l x)):=Jgz zSh x _ (by simp [zSh]) (by simp [zSh]; omega) (by simp [zSh]; omega)
       have hn':Qgt fu (⟨[],0,0,0,0⟩:Shelf) x (bxA l x) = some (Qtz zSh x (bxA l x)):=hn
       have hflat:((shS p l o x).map (·.qJ)).flatten = (o.map (·.qJ)).flatten ++ [x]:=Qu3 (λs=>rfl) rfl
       have hlen:(shS p l o x).length ≤ o.length + 1:=Qw4 _ _ _ _
       have ih':=ih (shS p l o x) ⟨λj hj=>i1 j (by simp [hj]),Q7i hb hxi i2,by rw [hflat,List.length_append,List.length_singleton]; omega,by omega⟩
       simp only [Qed.eq_2]
       unfold Qk9 Qgp
       rw [hd,cond_true,hx,Qab,hbx,Qab,List.foldl_cons,← ih',hn',Qab]
       by_cases he:o = []
       · subst he
         rw [Qbb (by simp),Qab,ap1 (by simp),Qab]; rfl
       · obtain ⟨s,e1,e2⟩:=Q1q he
         have hp:=List.length_pos_iff.2 he
         have hsm':=List.mem_of_getLast? e1
         have hs:=i2 s hsm'
         have hsl':=Qvp (λs:Shelf=>s.qJ) o s hsm'
         rw [Qbp (n:=(o.length:Int) - 1) (by omega) (by omega),e2,Qab,Qco (by simp; omega)]
         obtain ⟨s1,s2,s3,s4,s5,s6⟩:=hs
         rw [Qbp (n:=s.fW + _) (by omega) (by omega),Qbp (n:=s.fV + _) (by omega) (by omega),Qab,Qab,Qab,Jgz (fu:=fu) s x (bxA l x) (by omega) (by omega) (by omega)]
         simp only [Qab]
         rw [ap1 (by simp; omega),Qab]
         have eS:shS p l o x = bif Jbj p (bxA l x) s then o.set (o.length - 1) (Qtz s x (bxA l x)) else o ++ [Qtz zSh x (bxA l x)]:=Q2w e1
         rw [eS]
         unfold Jbj
         rw [show Qge o ((o.length:Int) - 1) (Qtz s x (bxA l x)) = o.set (o.length - 1) (Qtz s x (bxA l x)) by unfold Qge; congr 1; omega]
         cases decide (s.fW + (bxA l x).fW ≤ p.fW) <;> cases decide (s.fV + (bxA l x).fV ≤ p.fV) <;> rfl
     · intro n o i hd _
       simp only [Qed.eq_2]
       unfold Qk9
       rw [hd,cond_false]; rfl
   · intro n o i x xs hx hd hI ih
     simp only [List.length_cons] at hI
     simp only [Qgf.eq_2]
     unfold Qlj
     rw [hd,cond_true,hx,Qab,ap1 (by simp; omega),Qab,ih _ (by simp; omega)]
     simp
   · intro n o i hd _
     simp only [Qgf.eq_2]
     unfold Qlj
     rw [hd,cond_false]; simp
end Go.Proofs.YtpcmapfabndggaaGreat
/- Layers and loads of spec. -/
namespace Go.Proofs.YtpcmapfabndggaaGreat
open Go
open Enc (rd ow)
open Arg (argv)
open Ret (retv)
open Wf (wf)
def okL (p:Pallet) (d h g:Int):Bool:=inb d 1 p.fD && (inb h 1 p.fH && inb g 1 p.fV)
theorem Jhe (fu:Nat) (p:Pallet) (d h g:Int):Qq1 fu p d h g = some (okL p d h g):=by
 unfold Qq1 okL
 simp only [Q1m,Qab]
 cases inb d 1 p.fD <;> cases inb h 1 p.fH <;> rfl
theorem Jjj {fu:Nat} (p:Pallet) (l:List Shelf) (hl:l.length ≤ 1048576) (hf:l.length < fu):Qmx fu p l = some (Qz7 p && l.all λs=>okL p s.fD s.fH s.fV):=by
 unfold Qmx
 rw [Jbc,Qab]
 cases Qz7 p
 · rfl
 · rw [Bool.not_true,cond_false,Bool.true_and]
   have:=Jd5 l (λn i=>Qey fu p l n i) (λs=>okL p s.fD s.fH s.fV) (some true) (by omega) ?_ ?_ fu hf
   · rw [this]
     cases l.all λs=>okL p s.fD s.fH s.fV <;> rfl
   · intro n i x hx hd
     simp only [Qey.eq_2]
     unfold Qiv
     simp only [hd,cond_true,hx,Qab,Jhe]
     cases okL p x.fD x.fH x.fV <;> rfl
   · intro n i hd
     simp only [Qey.eq_2]
     unfold Qiv
     rw [hd,cond_false]
theorem Jiq {fu:Nat} (p:Pallet) (l:List Layer) (hl:l.length ≤ 1048576) (hf:l.length < fu):Qoj fu p l = some (Qz7 p && l.all λs=>okL p s.fD s.fH s.fV):=by
 unfold Qoj
 rw [Jbc,Qab]
 cases Qz7 p
 · rfl
 · rw [Bool.not_true,cond_false,Bool.true_and]
   have:=Jd5 l (λn i=>Qfw fu p l n i) (λs=>okL p s.fD s.fH s.fV) (some true) (by omega) ?_ ?_ fu hf
   · rw [this]
     cases l.all λs=>okL p s.fD s.fH s.fV <;> rfl
   · intro n i x hx hd
     simp only [Qfw.eq_2]
     unfold Qjs
     simp only [hd,cond_true,hx,Qab,Jhe]
     cases okL p x.fD x.fH x.fV <;> rfl
   · intro n i hd
     simp only [Qfw.eq_2]
     unfold Qjs
     rw [hd,cond_false]
def shA (l:List Shelf) (i:Int):Shelf:=(ix l i).getD zSh
def zLy:Layer:=⟨[],0,0,0⟩
def Qu7 (x:Layer) (i:Int) (s:Shelf):Layer:=⟨x.f9 ++ [i],x.fD + s.fD,mxI x.fH s.fH,x.fV + s.fV⟩
def Jch (p:Pallet) (s:Shelf) (x:Layer):Bool:=decide (x.fD + s.fD ≤ p.fD) && decide (x.fV + s.fV ≤ p.fV)
def lyS (p:Pallet) (l:List Shelf) (out:List Layer) (i:Int):List Layer:=nxG (Jch p (shA l i)) (λs=>Qu7 s i (shA l i)) zLy out
def lyM (p:Pallet) (l:List Shelf):List Layer:=(Qj3 0 l.length).foldl (lyS p l) []
structure LyI (p:Pallet) (n:Nat) (s:Layer):Prop where
 ne:s.f9 ≠ []
 inn:∀ i ∈ s.f9,0 ≤ i ∧ i < n
 d:1 ≤ s.fD ∧ s.fD ≤ p.fD
 h:1 ≤ s.fH ∧ s.fH ≤ p.fH
 g:1 ≤ s.fV ∧ s.fV ≤ p.fV
def OkS (p:Pallet) (l:List Shelf):Prop:=∀ s ∈ l,(1 ≤ s.fD ∧ s.fD ≤ p.fD) ∧ (1 ≤ s.fH ∧ s.fH ≤ p.fH) ∧ (1 ≤ s.fV ∧ s.fV ≤ p.fV)
theorem Jam {p:Pallet} {l:List Shelf} (h:OkS p l) {i:Int} (hi:0 ≤ i ∧ i < l.length):ix l i = some (shA l i) ∧ (1 ≤ (shA l i).fD ∧ (shA l i).fD ≤ p.fD) ∧ (1 ≤ (shA l i).fH ∧ (shA l i).fH ≤ p.fH) ∧ (1 ≤ (shA l i).fV ∧ (shA l i).fV ≤ p.fV) ∧ shA l i ∈ l:=by
 obtain ⟨x,hx⟩:=Q9z (l:=l) hi.1 hi.2
 have e:shA l i = x:=by unfold shA; rw [hx]; rfl
 rw [e]
 exact ⟨hx,(h x (Qd5 hx)).1,(h x (Qd5 hx)).2.1,(h x (Qd5 hx)).2.2,Qd5 hx⟩
theorem Q9s {p:Pallet} {l:List Shelf} (hb:OkS p l) {out:List Layer} {i:Int} (hi:0 ≤ i ∧ i < l.length) (h:∀ s ∈ out,LyI p l.length s):∀ s ∈ lyS p l out i,LyI p l.length s:=by
 obtain ⟨_,b1,b2,b3,_⟩:=Jam hb hi
 refine Q4w h (λs hs hf=>?_) ⟨by simp [Qu7],λj hj=>?_,?_,?_,?_⟩
 · unfold Jch at hf
   simp only [Bool.and_eq_true,decide_eq_true_eq] at hf
   obtain ⟨s1,s2,s4,s5,s6⟩:=hs
   have m2:=Q1g s.fH (shA l i).fH
   refine ⟨by simp [Qu7],λj hj=>?_,?_,?_,?_⟩
   · simp only [Qu7,List.mem_append,List.mem_singleton] at hj
     rcases hj with hj | rfl
     · exact s2 j hj
     · exact hi
   · simp only [Qu7]; omega
   · simp only [Qu7]; omega
   · simp only [Qu7]; omega
 · simp only [Qu7,zLy,List.nil_append,List.mem_singleton] at hj
   rw [hj]; exact hi
 · simp only [Qu7,zLy]; omega
 · have:=Q1g 0 (shA l i).fH
   simp only [Qu7,zLy]; omega
 · simp only [Qu7,zLy]; omega
theorem Q9u {p:Pallet} {l:List Shelf} (hb:OkS p l):∀ (is:List Int) (out:List Layer),(∀ i ∈ is,0 ≤ i ∧ i < l.length) → (∀ s ∈ out,LyI p l.length s) → (∀ s ∈ is.foldl (lyS p l) out,LyI p l.length s) ∧ ((is.foldl (lyS p l) out).map (·.f9)).flatten = (out.map (·.f9)).flatten ++ is ∧ (is.foldl (lyS p l) out).length ≤ out.length + is.length
 | [],out,_,h=>⟨h,by simp,by simp⟩
 | i :: is,out,hi,h=>by
  rw [List.foldl_cons]
  obtain ⟨h1,h2,h3⟩:=Q9u hb is (lyS p l out i) (λj hj=>hi j (by simp [hj])) (Q9s hb (hi i (by simp)) h)
  have h4:((lyS p l out i).map (·.f9)).flatten = (out.map (·.f9)).flatten ++ [i]:=Qu3 (λs=>rfl) rfl
  have h5:(lyS p l out i).length ≤ out.length + 1:=Qw4 _ _ _ _
  refine ⟨h1,by rw [h2,h4]; simp,by simp; omega⟩
theorem Q4s {p:Pallet} {l:List Shelf} (hb:OkS p l):(∀ s ∈ lyM p l,LyI p l.length s) ∧ ((lyM p l).map (·.f9)).flatten = Qj3 0 l.length ∧ (lyM p l).length ≤ l.length:=by
 unfold lyM
 obtain ⟨h1,h2,h3⟩:=Q9u hb (Qj3 0 l.length) [] (λi hi=>by have:=Qmb.1 hi; omega) (by simp)
 refine ⟨h1,by simpa using h2,?_⟩
 rw [Qer] at h3
 simpa using h3
theorem Jh8 {p:Pallet} {l:List Shelf} (h:OkS p l):(l.all λs=>okL p s.fD s.fH s.fV) = true:=by
 refine List.all_eq_true.2 λs hs=>?_
 unfold okL
 simp only [Bool.and_eq_true,Qd3]
 exact ⟨(h s hs).1,(h s hs).2.1,(h s hs).2.2⟩
theorem Ja8 {fu:Nat} (hfu:2097153 ≤ fu) {p:Pallet} (hp:Qz7 p = true) {l:List Shelf} (hb:OkS p l) (hl:l.length ≤ 1000):Qof fu p l = some (lyM p l):=by
 unfold Qof lyM
 rw [Jjj p l (by omega) (by omega),hp,Jh8 hb,Qab,Bool.and_self,Bool.not_true,cond_false]
 obtain ⟨p1,p2,p3,p4⟩:=Q6q hp
 have L1:=Jai (l.length:Int) (λn (o:List Layer) i=>Qbi fu p l n o i) (λxs o=>some (xs.foldl (lyS p l) o)) (λxs o=>(∀ s ∈ o,LyI p l.length s) ∧ ((o.map (·.f9)).flatten).length + xs.length ≤ 1000 ∧ o.length + xs.length ≤ 1000) (by omega) ?_ ?_ l.length fu [] 0 (by omega) (by omega) (by omega) ⟨by simp,by simp [Qer]; omega,by simp [Qer]; omega⟩
 · exact L1
 · intro n o i xs x0 x1 hd hI ih
   obtain ⟨i2,i3,i4⟩:=hI
   simp only [List.length_cons] at i3 i4
   obtain ⟨hbx,b1,b2,b3,_⟩:=Jam hb ⟨x0,x1⟩
   have hflat:((lyS p l o i).map (·.f9)).flatten = (o.map (·.f9)).flatten ++ [i]:=Qu3 (λs=>rfl) rfl
   have hlen:(lyS p l o i).length ≤ o.length + 1:=Qw4 _ _ _ _
   have ih':=ih (lyS p l o i) ⟨Q9s hb ⟨x0,x1⟩ i2,by rw [hflat,List.length_append,List.length_singleton]; omega,by omega⟩
   have J:∀ (o':List Layer) (x:Layer),o'.length ≤ 1000 → (x.f9.length ≤ 1000) → (0 ≤ x.fD ∧ x.fD ≤ 2000) → (0 ≤ x.fV ∧ x.fV ≤ 100000) → Qcy fu (Qbi fu p l n) i (shA l i) (o' ++ [x]) ((o'.length:Int) + 1) = Qbi fu p l n (o' ++ [Qu7 x i (shA l i)]) (w64 (i + 1)):=by
    intro o' x h1 h2 h3 h4
    unfold Qcy Qnu
    have e1:w64 ((o'.length:Int) + 1 - 1) = (o'.length:Int):=by rw [Qbp (by omega) (by omega)]; omega
    have e2:ix (o' ++ [x]) (o'.length:Int) = some x:=by rw [Qq5]; simp
    rw [e1,e2,Qab,ap1 (by simp; omega),Qab,ap1 (by simp; omega),Qab,Jcg,Qab,Qab,Qbp (n:=x.fD + _) (by omega) (by omega),Qbp (n:=x.fV + _) (by omega) (by omega)]
    have e3:∀ y:Layer,Qge (o' ++ [x]) (o'.length:Int) y = o' ++ [y]:=by intro y; simp [Qge]
    rw [e3]
    rfl
   simp only [Qbi.eq_2]
   unfold Qj1
   rw [hd,cond_true,hbx,Qab,List.foldl_cons,← ih']
   by_cases he:o = []
   · subst he
     rw [Qco (by simp),ap1 (by simp),Qab]
     have:=J [] zLy (by simp) (by simp [zLy]) (by simp [zLy]) (by simp [zLy])
     rw [Qbp (by simp) (by simp)]
     exact this
   · obtain ⟨s,e1,e2⟩:=Q1q he
     have hpl:=List.length_pos_iff.2 he
     have hsm':=List.mem_of_getLast? e1
     have hs:=i2 s hsm'
     have hsl':=Qvp (λs:Layer=>s.f9) o s hsm'
     obtain ⟨s1,s2,s4,s5,s6⟩:=hs
     have eS:lyS p l o i = bif Jch p (shA l i) s then o.set (o.length - 1) (Qu7 s i (shA l i)) else o ++ [Qu7 zLy i (shA l i)]:=Q2w e1
     have eo:o = o.dropLast ++ [s]:=by
      have h1:=List.dropLast_concat_getLast he
      rw [List.getLast?_eq_some_getLast he] at e1
      rw [Option.some.inj e1] at h1
      exact h1.symm
     have e3:Qcy fu (Qbi fu p l n) i (shA l i) o (o.length:Int) = Qbi fu p l n (o.set (o.length - 1) (Qu7 s i (shA l i))) (w64 (i + 1)):=by
      obtain ⟨d,hd⟩:∃ d,o = d ++ [s]:=⟨_,eo⟩
      rw [hd] at i4 ⊢
      simp only [List.length_append,List.length_singleton] at i4
      have:=J d s (by omega) (by omega) (by omega) (by omega)
      rw [show (((d ++ [s]).length:Nat):Int) = (d.length:Int) + 1 by simp,this]
      congr 1
      simp
     have e4:Qcy fu (Qbi fu p l n) i (shA l i) (o ++ [zLy]) (w64 ((o.length:Int) + 1)) = Qbi fu p l n (o ++ [Qu7 zLy i (shA l i)]) (w64 (i + 1)):=by
      rw [Qbp (by omega) (by omega)]
      exact J o zLy (by omega) (by simp [zLy]) (by simp [zLy]) (by simp [zLy])
     rw [Qbp (n:=(o.length:Int) - 1) (by omega) (by omega),e2,Qab,Qbb (by simp; omega),Qab,Qbp (n:=s.fD + _) (by omega) (by omega),Qbp (n:=s.fV + _) (by omega) (by omega),ap1 (by simp; omega),Qab,e3]
     rw [show (⟨[],0,0,0⟩:Layer) = zLy from rfl,e4,eS]
     unfold Jch
     by_cases c1:s.fD + (shA l i).fD ≤ p.fD
     · rw [Qbb (c:=decide (s.fD + (shA l i).fD > p.fD)) (by simp; omega),decide_eq_true c1]
       by_cases c2:s.fV + (shA l i).fV ≤ p.fV
       · rw [Qbb (c:=decide (s.fV + (shA l i).fV > p.fV)) (by simp; omega),decide_eq_true c2]; rfl
       · rw [Qco (c:=decide (s.fV + (shA l i).fV > p.fV)) (by simp; omega),decide_eq_false c2]; rfl
     · rw [Qco (c:=decide (s.fD + (shA l i).fD > p.fD)) (by simp; omega),decide_eq_false c1]; rfl
 · intro n o i hd _
   simp only [Qbi.eq_2]
   unfold Qj1
   rw [hd,cond_false]; rfl
def lyA (l:List Layer) (i:Int):Layer:=(ix l i).getD zLy
def zLd:Load:=⟨[],0,0⟩
def Qwn (x:Load) (i:Int) (s:Layer):Load:=⟨x.ft ++ [i],x.fH + s.fH,x.fV + s.fV⟩
def Jcl (p:Pallet) (s:Layer) (x:Load):Bool:=decide (x.fH + s.fH ≤ p.fH) && decide (x.fV + s.fV ≤ p.fV)
def ldS (p:Pallet) (l:List Layer) (out:List Load) (i:Int):List Load:=nxG (Jcl p (lyA l i)) (λs=>Qwn s i (lyA l i)) zLd out
def ldM (p:Pallet) (l:List Layer):List Load:=(Qj3 0 l.length).foldl (ldS p l) []
structure LdI (p:Pallet) (n:Nat) (s:Load):Prop where
 ne:s.ft ≠ []
 inn:∀ i ∈ s.ft,0 ≤ i ∧ i < n
 h:1 ≤ s.fH ∧ s.fH ≤ p.fH
 g:1 ≤ s.fV ∧ s.fV ≤ p.fV
def OkY (p:Pallet) (l:List Layer):Prop:=∀ s ∈ l,(1 ≤ s.fD ∧ s.fD ≤ p.fD) ∧ (1 ≤ s.fH ∧ s.fH ≤ p.fH) ∧ (1 ≤ s.fV ∧ s.fV ≤ p.fV)
theorem Q8v {p:Pallet} {l:List Layer} (h:OkY p l) {i:Int} (hi:0 ≤ i ∧ i < l.length):ix l i = some (lyA l i) ∧ (1 ≤ (lyA l i).fD ∧ (lyA l i).fD ≤ p.fD) ∧ (1 ≤ (lyA l i).fH ∧ (lyA l i).fH ≤ p.fH) ∧ (1 ≤ (lyA l i).fV ∧ (lyA l i).fV ≤ p.fV) ∧ lyA l i ∈ l:=by
 obtain ⟨x,hx⟩:=Q9z (l:=l) hi.1 hi.2
 have e:lyA l i = x:=by unfold lyA; rw [hx]; rfl
 rw [e]
 exact ⟨hx,(h x (Qd5 hx)).1,(h x (Qd5 hx)).2.1,(h x (Qd5 hx)).2.2,Qd5 hx⟩
theorem Q8m {p:Pallet} {l:List Layer} (hb:OkY p l) {out:List Load} {i:Int} (hi:0 ≤ i ∧ i < l.length) (h:∀ s ∈ out,LdI p l.length s):∀ s ∈ ldS p l out i,LdI p l.length s:=by
 obtain ⟨_,b1,b2,b3,_⟩:=Q8v hb hi
 refine Q4w h (λs hs hf=>?_) ⟨by simp [Qwn],λj hj=>?_,?_,?_⟩
 · unfold Jcl at hf
   simp only [Bool.and_eq_true,decide_eq_true_eq] at hf
   obtain ⟨s1,s2,s5,s6⟩:=hs
   refine ⟨by simp [Qwn],λj hj=>?_,?_,?_⟩
   · simp only [Qwn,List.mem_append,List.mem_singleton] at hj
     rcases hj with hj | rfl
     · exact s2 j hj
     · exact hi
   · simp only [Qwn]; omega
   · simp only [Qwn]; omega
 · simp only [Qwn,zLd,List.nil_append,List.mem_singleton] at hj
   rw [hj]; exact hi
 · simp only [Qwn,zLd]; omega
 · simp only [Qwn,zLd]; omega
theorem Q9w {p:Pallet} {l:List Layer} (hb:OkY p l):∀ (is:List Int) (out:List Load),(∀ i ∈ is,0 ≤ i ∧ i < l.length) → (∀ s ∈ out,LdI p l.length s) → (∀ s ∈ is.foldl (ldS p l) out,LdI p l.length s) ∧ ((is.foldl (ldS p l) out).map (·.ft)).flatten = (out.map (·.ft)).flatten ++ is ∧ (is.foldl (ldS p l) out).length ≤ out.length + is.length
 | [],out,_,h=>⟨h,by simp,by simp⟩
 | i :: is,out,hi,h=>by
  rw [List.foldl_cons]
  obtain ⟨h1,h2,h3⟩:=Q9w hb is (ldS p l out i) (λj hj=>hi j (by simp [hj])) (Q8m hb (hi i (by simp)) h)
  have h4:((ldS p l out i).map (·.ft)).flatten = (out.map (·.ft)).flatten ++ [i]:=Qu3 (λs=>rfl) rfl
  have h5:(ldS p l out i).length ≤ out.length + 1:=Qw4 _ _ _ _
  refine ⟨h1,by rw [h2,h4]; simp,by simp; omega⟩
theorem Jaq {p:Pallet} {l:List Layer} (hb:OkY p l):(∀ s ∈ ldM p l,LdI p l.length s) ∧ ((ldM p l).map (·.ft)).flatten = Qj3 0 l.length ∧ (ldM p l).length ≤ l.length:=by
 unfold ldM
 obtain ⟨h1,h2,h3⟩:=Q9w hb (Qj3 0 l.length) [] (λi hi=>by have:=Qmb.1 hi; omega) (by simp)
 refine ⟨h1,by simpa using h2,?_⟩
 rw [Qer] at h3
 simpa using h3
theorem Jic {p:Pallet} {l:List Layer} (h:OkY p l):(l.all λs=>okL p s.fD s.fH s.fV) = true:=by
 refine List.all_eq_true.2 λs hs=>?_
 unfold okL
 simp only [Bool.and_eq_true,Qd3]
 exact ⟨(h s hs).1,(h s hs).2.1,(h s hs).2.2⟩
theorem Je8 {fu:Nat} (hfu:2097153 ≤ fu) {p:Pallet} (hp:Qz7 p = true) {l:List Layer} (hb:OkY p l) (hl:l.length ≤ 1000):Qpw fu p l = some (ldM p l):=by
 unfold Qpw ldM
 rw [Jiq p l (by omega) (by omega),hp,Jic hb,Qab,Bool.and_self,Bool.not_true,cond_false]
 obtain ⟨p1,p2,p3,p4⟩:=Q6q hp
 have L1:=Jai (l.length:Int) (λn (o:List Load) i=>Qbs fu p l n o i) (λxs o=>some (xs.foldl (ldS p l) o)) (λxs o=>(∀ s ∈ o,LdI p l.length s) ∧ ((o.map (·.ft)).flatten).length + xs.length ≤ 1000 ∧ o.length + xs.length ≤ 1000) (by omega) ?_ ?_ l.length fu [] 0 (by omega) (by omega) (by omega) ⟨by simp,by simp [Qer]; omega,by simp [Qer]; omega⟩
 · exact L1
 · intro n o i xs x0 x1 hd hI ih
   obtain ⟨i2,i3,i4⟩:=hI
   simp only [List.length_cons] at i3 i4
   obtain ⟨hbx,b1,b2,b3,_⟩:=Q8v hb ⟨x0,x1⟩
   have hflat:((ldS p l o i).map (·.ft)).flatten = (o.map (·.ft)).flatten ++ [i]:=Qu3 (λs=>rfl) rfl
   have hlen:(ldS p l o i).length ≤ o.length + 1:=Qw4 _ _ _ _
   have ih':=ih (ldS p l o i) ⟨Q8m hb ⟨x0,x1⟩ i2,by rw [hflat,List.length_append,List.length_singleton]; omega,by omega⟩
   have J:∀ (o':List Load) (x:Load),o'.length ≤ 1000 → (x.ft.length ≤ 1000) → (0 ≤ x.fH ∧ x.fH ≤ 2000) → (0 ≤ x.fV ∧ x.fV ≤ 100000) → Qde fu (Qbs fu p l n) i (lyA l i) (o' ++ [x]) ((o'.length:Int) + 1) = Qbs fu p l n (o' ++ [Qwn x i (lyA l i)]) (w64 (i + 1)):=by
    intro o' x h1 h2 h3 h4
    unfold Qde Qpj
    have e1:w64 ((o'.length:Int) + 1 - 1) = (o'.length:Int):=by rw [Qbp (by omega) (by omega)]; omega
    have e2:ix (o' ++ [x]) (o'.length:Int) = some x:=by rw [Qq5]; simp
    rw [e1,e2,Qab,ap1 (by simp; omega),Qab,ap1 (by simp; omega),Qab,Qab,Qbp (n:=x.fH + _) (by omega) (by omega),Qbp (n:=x.fV + _) (by omega) (by omega)]
    have e3:∀ y:Load,Qge (o' ++ [x]) (o'.length:Int) y = o' ++ [y]:=by intro y; simp [Qge]
    rw [e3]
    rfl
   simp only [Qbs.eq_2]
   unfold Qma
   rw [hd,cond_true,hbx,Qab,List.foldl_cons,← ih']
   by_cases he:o = []
   · subst he
     rw [Qco (by simp),ap1 (by simp),Qab]
     have:=J [] zLd (by simp) (by simp [zLd]) (by simp [zLd]) (by simp [zLd])
     rw [Qbp (by simp) (by simp)]
     exact this
   · obtain ⟨s,e1,e2⟩:=Q1q he
     have hpl:=List.length_pos_iff.2 he
     have hsm':=List.mem_of_getLast? e1
     have hs:=i2 s hsm'
     have hsl':=Qvp (λs:Load=>s.ft) o s hsm'
     obtain ⟨s1,s2,s5,s6⟩:=hs
     have eS:ldS p l o i = bif Jcl p (lyA l i) s then o.set (o.length - 1) (Qwn s i (lyA l i)) else o ++ [Qwn zLd i (lyA l i)]:=Q2w e1
     have eo:o = o.dropLast ++ [s]:=by
      have h1:=List.dropLast_concat_getLast he
      rw [List.getLast?_eq_some_getLast he] at e1
      rw [Option.some.inj e1] at h1
      exact h1.symm
     have e3:Qde fu (Qbs fu p l n) i (lyA l i) o (o.length:Int) = Qbs fu p l n (o.set (o.length - 1) (Qwn s i (lyA l i))) (w64 (i + 1)):=by
      obtain ⟨d,hd⟩:∃ d,o = d ++ [s]:=⟨_,eo⟩
      rw [hd] at i4 ⊢
      simp only [List.length_append,List.length_singleton] at i4
      have:=J d s (by omega) (by omega) (by omega) (by omega)
      rw [show (((d ++ [s]).length:Nat):Int) = (d.length:Int) + 1 by simp,this]
      congr 1
      simp
     have e4:Qde fu (Qbs fu p l n) i (lyA l i) (o ++ [zLd]) (w64 ((o.length:Int) + 1)) = Qbs fu p l n (o ++ [Qwn zLd i (lyA l i)]) (w64 (i + 1)):=by
      rw [Qbp (by omega) (by omega)]
      exact J o zLd (by omega) (by simp [zLd]) (by simp [zLd]) (by simp [zLd])
     rw [Qbp (n:=(o.length:Int) - 1) (by omega) (by omega),e2,Qab,Qbb (by simp; omega),Qab,Qbp (n:=s.fH + _) (by omega) (by omega),Qbp (n:=s.fV + _) (by omega) (by omega),ap1 (by simp; omega),Qab,e3]
     rw [show (⟨[],0,0⟩:Load) = zLd from rfl,e4,eS]
     unfold Jcl
     by_cases c1:s.fH + (lyA l i).fH ≤ p.fH
     · rw [Qbb (c:=decide (s.fH + (lyA l i).fH > p.fH)) (by simp; omega),decide_eq_true c1]
       by_cases c2:s.fV + (lyA l i).fV ≤ p.fV
       · rw [Qbb (c:=decide (s.fV + (lyA l i).fV > p.fV)) (by simp; omega),decide_eq_true c2]; rfl
       · rw [Qco (c:=decide (s.fV + (lyA l i).fV > p.fV)) (by simp; omega),decide_eq_false c2]; rfl
     · rw [Qco (c:=decide (s.fH + (lyA l i).fH > p.fH)) (by simp; omega),decide_eq_false c1]; rfl
 · intro n o i hd _
   simp only [Qbs.eq_2]
   unfold Qma
   rw [hd,cond_false]; rfl
end Go.Proofs.YtpcmapfabndggaaGreat
/- The spots of boxes, by spec. -/
namespace Go.Proofs.YtpcmapfabndggaaGreat
open Go
open Enc (rd ow)
open Arg (argv)
open Ret (retv)
open Wf (wf)
def zSp:Spot:=⟨0,0,0,0⟩
def ldA (l:List Load) (i:Int):Load:=(ix l i).getD zLd
def spB (l:List Box) (o y z:Int) (is:List Int) (s:List Spot × Int):List Spot × Int:=is.foldl (λs b=>(Qge s.1 b ⟨o,s.2,y,z⟩,s.2 + (bxA l b).fW)) s
def spS (l:List Box) (sh:List Shelf) (o z:Int) (js:List Int) (s:List Spot × Int):List Spot × Int:=js.foldl (λs j=>((spB l o s.2 z (shA sh j).qJ (s.1,0)).1,s.2 + (shA sh j).fD)) s
def spY (l:List Box) (sh:List Shelf) (ly:List Layer) (o:Int) (is:List Int) (s:List Spot × Int):List Spot × Int:=is.foldl (λs i=>((spS l sh o s.2 (lyA ly i).f9 (s.1,0)).1,s.2 + (lyA ly i).fH)) s
def spO (l:List Box) (sh:List Shelf) (ly:List Layer) (ld:List Load) (os:List Int) (out:List Spot):List Spot:=os.foldl (λout o=>(spY l sh ly o (ldA ld o).ft (out,0)).1) out
def spM (p:Pallet) (l:List Box):List Spot:=bif Q29 p l then spO l (shM p l) (lyM p (shM p l)) (ldM p (lyM p (shM p l))) (Qj3 0 (ldM p (lyM p (shM p l))).length) (List.replicate l.length zSp) else []
theorem Q3s {α:Type} (l:List α) (i:Int) (y:α):(Qge l i y).length = l.length:=by simp [Qge]
theorem Q47 (l:List Box) (o y z:Int):∀ (is:List Int) (s:List Spot × Int),(spB l o y z is s).1.length = s.1.length
 | [],_=>rfl
 | i :: is,s=>by
  have:=Q47 l o y z is (Qge s.1 i ⟨o,s.2,y,z⟩,s.2 + (bxA l i).fW)
  rw [Q3s] at this
  exact this
theorem Q4g (l:List Box) (sh:List Shelf) (o z:Int):∀ (is:List Int) (s:List Spot × Int),(spS l sh o z is s).1.length = s.1.length
 | [],_=>rfl
 | i :: is,s=>by
  have:=Q4g l sh o z is ((spB l o s.2 z (shA sh i).qJ (s.1,0)).1,s.2 + (shA sh i).fD)
  rw [Q47] at this
  exact this
theorem Q4m (l:List Box) (sh:List Shelf) (ly:List Layer) (o:Int):∀ (is:List Int) (s:List Spot × Int),(spY l sh ly o is s).1.length = s.1.length
 | [],_=>rfl
 | i :: is,s=>by
  have:=Q4m l sh ly o is ((spS l sh o s.2 (lyA ly i).f9 (s.1,0)).1,s.2 + (lyA ly i).fH)
  rw [Q4g] at this
  exact this
theorem Jaf (l:List Box) (sh:List Shelf) (ly:List Layer) (ld:List Load):∀ (os:List Int) (out:List Spot),(spO l sh ly ld os out).length = out.length
 | [],_=>rfl
 | o :: os,out=>by
  have:=Jaf l sh ly ld os (spY l sh ly o (ldA ld o).ft (out,0)).1
  rw [Q4m] at this
  exact this
theorem Q9o {p:Pallet} {l:List Box} (h:Q29 p l = true):(spM p l).length = l.length:=by
 unfold spM
 rw [h,cond_true,Jaf,List.length_replicate]
theorem Jct {p:Pallet} {l:List Box} (h:Q29 p l = true):OkS p (shM p l):=λs hs=>by
 have:=(Q4k h).1 s hs
 exact ⟨this.d,this.h,this.g⟩
theorem Jdg {p:Pallet} {l:List Shelf} (h:OkS p l):OkY p (lyM p l):=λs hs=>by
 have:=(Q4s h).1 s hs
 exact ⟨this.d,this.h,this.g⟩
theorem Jef {fu:Nat} (hfu:2097153 ≤ fu) (p:Pallet) (l:List Box) (hl:l.length ≤ 1000):Qm4 fu p l = some (spM p l):=by
 unfold Qm4 spM
 rw [Jec (by omega),Qab,Jf2 p l (by omega) (by omega),Qab]
 cases hb:Q29 p l
 · rfl
 · obtain ⟨a1,a2,a3⟩:=Q4k hb
   have hS:=Jct hb
   obtain ⟨y1,y2,y3⟩:=Q4s hS
   have hY:=Jdg hS
   obtain ⟨d1,d2,d3⟩:=Jaq hY
   have hpb:=Q70 hb
   obtain ⟨q1,q2,q3,q4⟩:=Q6q hpb
   rw [Bool.not_true,cond_false,cond_true,Q9p hfu p l hl,Qab,Ja8 hfu hpb hS (by omega),Qab,Je8 hfu hpb hY (by omega),Qab]
   have f1:∀ s ∈ shM p l,s.qJ.length ≤ 1000:=λs hs=>by
    have:=Qvp (λs:Shelf=>s.qJ) _ s hs
    rw [a2,Qvx] at this; omega
   have f2:∀ s ∈ lyM p (shM p l),s.f9.length ≤ 1000:=λs hs=>by
    have:=Qvp (λs:Layer=>s.f9) _ s hs
    rw [y2,Qer] at this; omega
   have f3:∀ s ∈ ldM p (lyM p (shM p l)),s.ft.length ≤ 1000:=λs hs=>by
    have:=Qvp (λs:Load=>s.ft) _ s hs
    rw [d2,Qer] at this; omega
   generalize ldM p (lyM p (shM p l)) = ld at d1 d3 f3 ⊢
   generalize lyM p (shM p l) = ly at y1 y3 hY d1 d3 f2 ⊢
   generalize shM p l = sh at a1 a3 hS y1 y3 f1 ⊢
   have L4:=Jai (ld.length:Int) (λn (out:List Spot) o=>Qbj fu l sh ly ld n out o) (λos out=>some (spO l sh ly ld os out)) (λos out=>out.length = l.length) (by omega) ?_ ?_ ld.length fu (List.replicate l.length zSp) 0 (by omega) (by omega) (by omega) (by simp)
   · exact L4
   · intro n out o os o0 o1 hd hI ih
     obtain ⟨x,hx⟩:=Q9z (l:=ld) o0 o1
     have ex:ldA ld o = x:=by unfold ldA; rw [hx]; rfl
     have hxm:=d1 x (Qd5 hx)
     have hxl:=f3 x (Qd5 hx)
     simp only [Qbj.eq_2]
     unfold Qlz
     rw [hd,cond_true]
     have L3:=lpI x.ft (λm (s:List Spot × Int) i=>Qb9 fu (Qbj fu l sh ly ld n) l sh ly ld o m s.1 s.2 i) (λis s=>Qbj fu l sh ly ld n (spY l sh ly o is s).1 (w64 (o + 1))) (λis s=>s.1.length = l.length ∧ (∀ i ∈ is,0 ≤ i ∧ i < ly.length) ∧ 0 ≤ s.2 ∧ s.2 + 2000 * is.length ≤ 2000000) (by omega) ?_ ?_ fu (out,0) ⟨hI,hxm.inn,by simp,by simp; omega⟩ (by omega)
     · refine L3.trans ?_
       rw [ih _ (by rw [Q4m]; exact hI)]
       simp only [spO,List.foldl_cons,ex]
     · intro m ⟨out,z⟩ i j is hj hd hI ih
       obtain ⟨i1,i2,i3,i4⟩:out.length = l.length ∧ (∀ i ∈ j :: is,0 ≤ i ∧ i < ly.length) ∧ 0 ≤ z ∧ z + 2000 * ((j :: is).length:Int) ≤ 2000000:=hI
       simp only [List.length_cons] at i4
       obtain ⟨hly,t1,t2,t3,hmem⟩:=Q8v hY (i2 j (by simp))
       have hyi:=y1 _ hmem
       have hyl:=f2 _ hmem
       simp only [Qb9.eq_2]
       unfold Qmf
       rw [hx,Qab,hd,cond_true,Qab,hj,Qab,hly,Qab]
       have L2:=lpI (lyA ly j).f9 (λq (s:List Spot × Int) k=>Qdg fu (Qb9 fu (Qbj fu l sh ly ld n) l sh ly ld o m) l sh o z i (lyA ly j) q s.1 s.2 k) (λks s=>Qb9 fu (Qbj fu l sh ly ld n) l sh ly ld o m (spS l sh o z ks s).1 (w64 (z + (lyA ly j).fH)) (w64 (i + 1))) (λks s=>s.1.length = l.length ∧ (∀ i ∈ ks,0 ≤ i ∧ i < sh.length) ∧ 0 ≤ s.2 ∧ s.2 + 2000 * ks.length ≤ 2000000) (by omega) ?_ ?_ fu (out,0) ⟨i1,hyi.inn,by simp,by simp; omega⟩ (by omega)
       · refine L2.trans ?_
         rw [Qbp (n:=z + _) (by omega) (by omega)]
         exact ih ((spS l sh o z (lyA ly j).f9 (out,0)).1,z + (lyA ly j).fH) ⟨by rw [Q4g]; exact i1,λi hi=>i2 i (by simp [hi]),by simp; omega,by simp; omega⟩
       · intro q ⟨out,y⟩ k b ks hb2 hd hI ih
         obtain ⟨i1,i2,i3,i4⟩:out.length = l.length ∧ (∀ i ∈ b :: ks,0 ≤ i ∧ i < sh.length) ∧ 0 ≤ y ∧ y + 2000 * ((b :: ks).length:Int) ≤ 2000000:=hI
         simp only [List.length_cons] at i4
         obtain ⟨hsh,u1,u2,u3,hmem2⟩:=Jam hS (i2 b (by simp))
         have hsi:=a1 _ hmem2
         have hsl:=f1 _ hmem2
         simp only [Qdg.eq_2]
         unfold Qk1
         rw [hd,cond_true,hb2,Qab,hsh,Qab]
         have L1:=lpI (shA sh b).qJ (λq' (s:List Spot × Int) k'=>Qgl fu (Qdg fu (Qb9 fu (Qbj fu l sh ly ld n) l sh ly ld o m) l sh o z i (lyA ly j) q) l o z y k (shA sh b) q' s.1 s.2 k') (λbs s=>Qdg fu (Qb9 fu (Qbj fu l sh ly ld n) l sh ly ld o m) l sh o z i (lyA ly j) q (spB l o y z bs s).1 (w64 (y + (shA sh b).fD)) (w64 (k + 1))) (λbs s=>s.1.length = l.length ∧ (∀ i ∈ bs,0 ≤ i ∧ i < l.length) ∧ 0 ≤ s.2 ∧ s.2 + 2000 * bs.length ≤ 2000000) (by omega) ?_ ?_ fu (out,0) ⟨i1,hsi.inn,by simp,by simp; omega⟩ (by omega)
         · refine L1.trans ?_
           rw [Qbp (n:=y + _) (by omega) (by omega)]
           exact ih ((spB l o y z (shA sh b).qJ (out,0)).1,y + (shA sh b).fD) ⟨by rw [Q47]; exact i1,λi hi=>i2 i (by simp [hi]),by simp; omega,by simp; omega⟩
         · intro q' ⟨out,x'⟩ k' c bs hc hd hI ih
           obtain ⟨i1,i2,i3,i4⟩:out.length = l.length ∧ (∀ i ∈ c :: bs,0 ≤ i ∧ i < l.length) ∧ 0 ≤ x' ∧ x' + 2000 * ((c :: bs).length:Int) ≤ 2000000:=hI
           simp only [List.length_cons] at i4
           have hcr:=i2 c (by simp)
           obtain ⟨hbx,v1,v2,v3,v4⟩:=Jav hb hcr
           obtain ⟨sp,hsp⟩:=Q9z (l:=out) hcr.1 (by omega)
           simp only [Qgl.eq_2]
           unfold Qlk
           rw [hd,cond_true,hc,Qab,hsp,Qab,Qab,hbx,Qab,Qbp (n:=x' + _) (by omega) (by omega)]
           exact ih (Qge out c ⟨o,x',y,z⟩,x' + (bxA l c).fW) ⟨by rw [Q3s]; exact i1,λi hi=>i2 i (by simp [hi]),by simp; omega,by simp; omega⟩
         · intro q' ⟨out,x'⟩ k' hd _
           simp only [Qgl.eq_2]
           unfold Qlk
           rw [hd,cond_false]; rfl
       · intro q ⟨out,y⟩ k hd _
         simp only [Qdg.eq_2]
         unfold Qk1
         rw [hd,cond_false]; rfl
     · intro m ⟨out,z⟩ i hd _
       simp only [Qb9.eq_2]
       unfold Qmf
       rw [hx,Qab,hd,cond_false]; rfl
   · intro n out o hd _
     simp only [Qbj.eq_2]
     unfold Qlz
     rw [hd,cond_false]; rfl
def Jay (n:Int) (out:List Spot):Prop:=∀ s ∈ out,0 ≤ s.fJ ∧ s.fJ ≤ n
theorem Jbt {n:Int} {out:List Spot} {i:Int} {s:Spot} (h:Jay n out) (hs:0 ≤ s.fJ ∧ s.fJ ≤ n):Jay n (Qge out i s):=by
 intro t ht
 unfold Qge at ht
 rcases List.mem_or_eq_of_mem_set ht with ht | rfl
 · exact h t ht
 · exact hs
theorem Jax {n:Int} (l:List Box) (o y z:Int) (ho:0 ≤ o ∧ o ≤ n):∀ (is:List Int) (s:List Spot × Int),Jay n s.1 → Jay n (spB l o y z is s).1
 | [],_,h=>h
 | i :: is,s,h=>Jax l o y z ho is (Qge s.1 i ⟨o,s.2,y,z⟩,s.2 + (bxA l i).fW) (Jbt h ho)
theorem Jao {n:Int} (l:List Box) (sh:List Shelf) (o z:Int) (ho:0 ≤ o ∧ o ≤ n):∀ (is:List Int) (s:List Spot × Int),Jay n s.1 → Jay n (spS l sh o z is s).1
 | [],_,h=>h
 | i :: is,s,h=>Jao l sh o z ho is ((spB l o s.2 z (shA sh i).qJ (s.1,0)).1,s.2 + (shA sh i).fD) (Jax l o s.2 z ho _ (s.1,0) h)
theorem Q7m {n:Int} (l:List Box) (sh:List Shelf) (ly:List Layer) (o:Int) (ho:0 ≤ o ∧ o ≤ n):∀ (is:List Int) (s:List Spot × Int),Jay n s.1 → Jay n (spY l sh ly o is s).1
 | [],_,h=>h
 | i :: is,s,h=>Q7m l sh ly o ho is ((spS l sh o s.2 (lyA ly i).f9 (s.1,0)).1,s.2 + (lyA ly i).fH) (Jao l sh o s.2 ho _ (s.1,0) h)
theorem Jak {n:Int} (l:List Box) (sh:List Shelf) (ly:List Layer) (ld:List Load):∀ (os:List Int) (out:List Spot),(∀ o ∈ os,0 ≤ o ∧ o ≤ n) → Jay n out → Jay n (spO l sh ly ld os out)
 | [],_,_,h=>h
 | o :: os,out,ho,h=>Jak l sh ly ld os (spY l sh ly o (ldA ld o).ft (out,0)).1 (λq hq=>ho q (by simp [hq])) (Q7m l sh ly o (ho o (by simp)) _ (out,0) h)
theorem Jfu {p:Pallet} {l:List Box} (hl:l.length ≤ 1000):∀ s ∈ spM p l,0 ≤ s.fJ ∧ s.fJ ≤ 1000:=by
 unfold spM
 cases hb:Q29 p l
 · simp
 · have a3:=(Q4k hb).2.2
   have hS:=Jct hb
   have y3:=(Q4s hS).2.2
   have d3:=(Jaq (Jdg hS)).2.2
   rw [cond_true]
   refine Jak l _ _ _ _ _ (λo ho=>?_) λs hs=>?_
   · have:=Qmb.1 ho; omega
   · rw [(List.mem_replicate.1 hs).2]; simp [zSp]
end Go.Proofs.YtpcmapfabndggaaGreat
/- What the ways of packing keep: every unit once, every carton within the master's. -/
namespace Go.Proofs.YtpcmapfabndggaaGreat
open Go
open Enc (rd ow)
open Arg (argv)
open Ret (retv)
open Wf (wf)
def Jfc:List Int → Int
 | []=>1
 | x :: xs=>x * Jfc xs
theorem Jbd {a b:List Int} (h:a.Perm b):Jfc a = Jfc b:=by
 induction h with
 | nil=>rfl
 | cons x _ ih=>simp only [Jfc,ih]
 | swap x y l=>simp only [Jfc,← Int.mul_assoc]; rw [Int.mul_comm x y]
 | trans _ _ h1 h2=>rw [h1,h2]
theorem Q88 (a b c:Int):(sid a b c).1 * ((sid a b c).2.1 * (sid a b c).2.2) = a * b * c:=by
 have h:=Q94 a b c
 unfold Q2t at h
 simp only [List.length_cons,List.length_nil] at h
 rw [if_pos (by omega)] at h
 have hp:=List.mergeSort_perm [a,b,c] λx y=>decide (x ≤ y)
 rw [Option.some.inj h] at hp
 have:=Jbd hp
 simp only [Jfc,Int.mul_one] at this
 rw [this,Int.mul_assoc]
theorem Jfr {a b c m:Int} (ha:m ≤ a) (hb:m ≤ b) (hc:m ≤ c):m ≤ (sid a b c).1:=by
 unfold sid
 simp only
 split <;> split <;> omega
theorem Jdy {x:Item} {t:Typ} (hx:Qxl x = true) (ht:Q14 t = true) (h:Q0c x t = true):Q9q x ≤ Ja3 t ∧ x.fV ≤ t.fV:=by
 simp only [Qxl,Bool.and_eq_true,Qd3] at hx
 simp only [Q14,Bool.and_eq_true,Qd3] at ht
 simp only [Q0c,Bool.and_eq_true,decide_eq_true_eq] at h
 obtain ⟨⟨⟨h1,h2⟩,h3⟩,h4⟩:=h
 refine ⟨?_,h4⟩
 have e1:Q9q x = x.fW * x.fH * x.fD:=by
  unfold Q9q Q6r
  rw [show (inb x.fW 0 2000 && (inb x.fH 0 2000 && inb x.fD 0 2000)) = true by simp; omega,cond_true]
 have e2:Ja3 t = t.fW * t.fH * t.fD:=by
  unfold Ja3 Q6r
  rw [show (inb t.fW 0 2000 && (inb t.fH 0 2000 && inb t.fD 0 2000)) = true by simp; omega,cond_true]
 rw [e1,e2,← Q88 x.fW x.fH x.fD,← Q88 t.fW t.fH t.fD]
 have p1:1 ≤ (sid x.fW x.fH x.fD).1:=Jfr (by omega) (by omega) (by omega)
 have s1:=Q08 x.fW x.fH x.fD
 have s2:=Q08 t.fW t.fH t.fD
 refine Int.mul_le_mul h1 ?_ (Int.mul_nonneg (by omega) (by omega)) (by omega)
 exact Int.mul_le_mul h2 h3 (by omega) (by omega)
theorem Q2k {r:Request} {u:Int} (h:0 ≤ u ∧ u < (Qim r).length):Qu0 r u ∈ r.fG:=(Q4h (Qvm h)).2
theorem Q6a {r:Request} {u:Int} (h:0 ≤ u ∧ u < (Qim r).length):Qh3 r = 0:=(Q4h (Qvm h)).1
theorem Q7k {r:Request} (hc:Qh3 r = 0):Qtn r r.fP = some (Qyg r) ∧ Qyg r ∈ r.fT ∧ Q14 (Qyg r) = true:=by
 have h:=(Qfq hc).2.1
 unfold Q7n at h
 simp only [Bool.and_eq_true] at h
 obtain ⟨t,ht⟩:=Option.isSome_iff_exists.1 h.1.2
 have e:Qyg r = t:=by unfold Qyg; rw [ht]; rfl
 have hm:t ∈ r.fT:=List.mem_of_find?_eq_some ht
 rw [e]
 exact ⟨ht,hm,Qzm (Qfq hc).1 t hm⟩
theorem Q9a {r:Request} {u:Int} (h:0 ≤ u ∧ u < (Qim r).length):Qz4 r [u] = Q9q (Qu0 r u) ∧ Qv9 r [u] = (Qu0 r u).fV:=by
 unfold Qz4 Qv9 Qxg
 simp [List.filterMap_cons,Qvm h]
theorem Q7w {r:Request} {u:Int} (h:0 ≤ u ∧ u < (Qim r).length):Q4y r [u] (Qyg r) = true:=by
 have hc:=Q6a h
 have hz:=Qfq hc
 have hm:=Q2k h
 obtain ⟨h1,h2⟩:=Jdy ((Qsu hz.1).1 _ hm) (Q7k hc).2.2 (hz.2.2.2.1 _ hm)
 unfold Q4y
 rw [(Q9a h).1,(Q9a h).2,Bool.and_eq_true,decide_eq_true_iff,decide_eq_true_iff]
 exact ⟨h1,h2⟩
def Qc (r:Request) (us:List Int) (l:List Int):Prop:=l ≠ [] ∧ (∀ u ∈ l,u ∈ us) ∧ Q4y r l (Qyg r) = true
theorem Jge {r:Request} {us:List Int} {out:List (List Int)} {u:Int} (h:∀ l ∈ out,Qc r us l) (hu:u ∈ us) (hr:0 ≤ u ∧ u < (Qim r).length):∀ l ∈ Jgu r out u,Qc r us l:=by
 have hn:Qc r us [u]:=⟨by simp,λv hv=>by rw [List.mem_singleton.1 hv]; exact hu,Q7w hr⟩
 intro l hl
 unfold Jgu Je9 at hl
 split at hl
 · rename_i i hi
   obtain ⟨x,hx,hg⟩:=Qvt hi
   rw [hx] at hl
   rcases List.mem_or_eq_of_mem_set hl with hl | rfl
   · exact h l hl
   · have hq:=h x (List.mem_of_getElem? hx)
     refine ⟨by simp,λv hv=>?_,hg⟩
     rcases List.mem_append.1 hv with hv | hv
     · exact hq.2.1 v hv
     · rw [List.mem_singleton.1 hv]; exact hu
 · rcases List.mem_append.1 hl with hl | hl
   · exact h l hl
   · rw [List.mem_singleton.1 hl]; exact hn
theorem Jfm {r:Request} {us:List Int} {out:List (List Int)} {u:Int} (h:∀ l ∈ out,Qc r us l) (hu:u ∈ us) (hr:0 ≤ u ∧ u < (Qim r).length):∀ l ∈ Ja1 r out u,Qc r us l:=by
 have hn:Qc r us [u]:=⟨by simp,λv hv=>by rw [List.mem_singleton.1 hv]; exact hu,Q7w hr⟩
 intro l hl
 cases hlast:out.getLast? with
 | none =>
  unfold Ja1 at hl
  rw [hlast] at hl
  rw [List.mem_singleton.1 hl]; exact hn
 | some x =>
  rw [Q3w u hlast] at hl
  have hq:=h x (List.mem_of_getLast? hlast)
  cases hg:Q7b r u x
  · rw [hg,cond_false] at hl
    rcases List.mem_append.1 hl with hl | hl
    · exact h l hl
    · rw [List.mem_singleton.1 hl]; exact hn
  · rw [hg,cond_true] at hl
    rcases List.mem_or_eq_of_mem_set hl with hl | rfl
    · exact h l hl
    · refine ⟨by simp,λv hv=>?_,hg⟩
      rcases List.mem_append.1 hv with hv | hv
      · exact hq.2.1 v hv
      · rw [List.mem_singleton.1 hv]; exact hu
theorem Jal {r:Request} {us:List Int} {F:List (List Int) → Int → List (List Int)} (hF:∀ out u,(∀ l ∈ out,Qc r us l) → u ∈ us → (0 ≤ u ∧ u < (Qim r).length) → ∀ l ∈ F out u,Qc r us l):∀ (vs:List Int) (out:List (List Int)),(∀ u ∈ vs,u ∈ us ∧ 0 ≤ u ∧ u < (Qim r).length) → (∀ l ∈ out,Qc r us l) → ∀ l ∈ vs.foldl F out,Qc r us l
 | [],out,_,h=>h
 | v :: vs,out,hv,h=>by
  rw [List.foldl_cons]
  have h1:=hv v (by simp)
  exact Jal hF vs _ (λu hu=>hv u (by simp [hu])) (hF out v h h1.1 h1.2)
theorem Q86 (r:Request) (us:List Int):(Jev r us).Perm us:=by
 unfold Jev
 refine ((Qu1 _ _).map _).trans ?_
 have key:∀ (xs pre:List Int),us = pre ++ xs → (Qj3 pre.length xs.length).map (λp=>(ix us p).getD 0) = xs:=by
  intro xs
  induction xs with
  | nil=>intro pre _; rfl
  | cons x xs ih =>
   intro pre he
   have h1:=ih (pre ++ [x]) (by simp [he])
   simp only [List.length_append,List.length_singleton] at h1
   simp only [List.length_cons,Qj3,List.map_cons]
   rw [show ((pre.length:Int) + 1) = ((pre.length + 1:Nat):Int) by omega,h1]
   congr 1
   rw [Qq5,he]
   simp
 have:=key us [] rfl
 simp only [List.length_nil] at this
 exact List.Perm.of_eq this
theorem Jj0 {r:Request} {us:List Int}:∀ l ∈ pwM r us,Qc r (Qwp r us) l:=by
 unfold pwM nfM ffM
 have ht:∀ u ∈ Qwp r us,u ∈ Qwp r us ∧ 0 ≤ u ∧ u < (Qim r).length:=λu hu=>⟨hu,Qzi hu⟩
 cases r.qQ == 1
 · rw [cond_false]
   exact Jal (λout u h hu hr=>Jge h hu hr) _ [] (λu hu=>ht u ((Q86 r _).mem_iff.1 hu)) (by simp)
 · rw [cond_true]
   exact Jal (λout u h hu hr=>Jfm h hu hr) _ [] ht (by simp)
end Go.Proofs.YtpcmapfabndggaaGreat
