import Derived.Test.YtpcmapfabndggaaGreatDroppedBP3
set_option linter.unusedSimpArgs false
set_option linter.unusedVariables false
/- The two ways of packing, by spec and by impl. -/
namespace Go.Proofs.YtpcmapfabndggaaGreat
open Go
open Enc (rd ow)
open Arg (argv)
open Ret (retv)
open Wf (wf)
def Jfi (g:List Int → Bool) (out:List (List Int)) (u:Int):List (List Int):=match Qwr g out with
 | some i=>match out[i]? with
  | some x=>out.set i (x ++ [u])
  | none=>out
 | none=>out ++ [[u]]
def Q7b (r:Request) (u:Int) (l:List Int):Bool:=Q4s r (l ++ [u]) (Qyl r)
def Jgx (r:Request) (out:List (List Int)) (u:Int):List (List Int):=Jfi (Q7b r u) out u
def Jay (r:Request) (out:List (List Int)) (u:Int):List (List Int):=match out.getLast? with
 | some l=>bif Q7b r u l then out.set (out.length - 1) (l ++ [u]) else out ++ [[u]]
 | none=>[[u]]
theorem Q35 {r:Request} {out:List (List Int)} {l:List Int} (u:Int) (h:out.getLast? = some l):Jay r out u = bif Q7b r u l then out.set (out.length - 1) (l ++ [u]) else out ++ [[u]]:=by unfold Jay; rw [h]
def Jeo (r:Request) (us:List Int):List Int:=(srt (dnk (us.map λu=>Qz6 r [u])) us.length).map λp=>(ix us p).getD 0
def nfM (r:Request) (us:List Int):List (List Int):=(Qwq r us).foldl (Jay r) []
def ffM (r:Request) (us:List Int):List (List Int):=(Jeo r (Qwq r us)).foldl (Jgx r) []
def pwM (r:Request) (us:List Int):List (List Int):=bif r.qQ == 1 then nfM r us else ffM r us
theorem Q9p {g:List Int → Bool} {out:List (List Int)} {n:Nat} (u:Int) (h:okG n out):okG (n + 1) (Jfi g out u):=by
 obtain ⟨h1,h2⟩:=h
 unfold Jfi
 split
 · rename_i i hi
   split
   · rename_i x hx
     refine ⟨by simp; omega,λl hl=>?_⟩
     rcases List.mem_or_eq_of_mem_set hl with hl | rfl
     · have:=h2 l hl; omega
     · have:=h2 x (List.mem_of_getElem? hx); simp; omega
   · exact ⟨by omega,λl hl=>by have:=h2 l hl; omega⟩
 · refine ⟨by simp; omega,λl hl=>?_⟩
   rcases List.mem_append.1 hl with hl | hl
   · have:=h2 l hl; omega
   · rw [List.mem_singleton.1 hl]; simp
theorem Q7h {r:Request} {out:List (List Int)} {n:Nat} (u:Int) (h:okG n out):okG (n + 1) (Jay r out u):=by
 obtain ⟨h1,h2⟩:=h
 unfold Jay
 split
 · rename_i x hx
   have hm:=List.mem_of_getLast? hx
   cases Q7b r u x
   · refine ⟨by simp; omega,λl hl=>?_⟩
     rcases List.mem_append.1 hl with hl | hl
     · have:=h2 l hl; omega
     · rw [List.mem_singleton.1 hl]; simp
   · refine ⟨by simp; omega,λl hl=>?_⟩
     rcases List.mem_or_eq_of_mem_set hl with hl | rfl
     · have:=h2 l hl; omega
     · have:=h2 x hm; simp; omega
 · exact ⟨by simp,λl hl=>by rw [List.mem_singleton.1 hl]; simp⟩
theorem Q4h {F:List (List Int) → Int → List (List Int)} (hF:∀ out n u,okG n out → okG (n + 1) (F out u)):∀ (l:List Int) {out:List (List Int)} {n:Nat},okG n out → okG (n + l.length) (l.foldl F out)
 | [],_,_,h=>h
 | u :: l,out,n,h=>by
  have:=Q4h hF l (hF out n u h)
  rw [List.foldl_cons,List.length_cons,show n + (l.length + 1) = n + 1 + l.length by omega]
  exact this
theorem Jfy {r:Request} {us:List Int} (h:us.length ≤ 12):(Qwq r us).length ≤ 12:=Nat.le_trans (Q2f r us) h
theorem Jbf (r:Request) (us:List Int):(Jeo r us).length = us.length:=by simp [Jeo,Qvs]
theorem Q70 {r:Request} {us:List Int} (h:us.length ≤ 12):okG 12 (pwM r us):=by
 have ht:=Jfy (r:=r) h
 have h0:okG 0 ([]:List (List Int)):=⟨by simp,by simp⟩
 unfold pwM
 cases r.qQ == 1
 · have:=Q4h (F:=Jgx r) (λout n u ho=>Q9p u ho) (Jeo r (Qwq r us)) h0
   rw [Jbf] at this
   exact ⟨by have:=this.1; simp only [cond_false]; unfold ffM; omega,λl hl=>by have:=this.2 l hl; omega⟩
 · have:=Q4h (F:=Jay r) (λout n u ho=>Q7h u ho) (Qwq r us) h0
   exact ⟨by have:=this.1; simp only [cond_true]; unfold nfM; omega,λl hl=>by have:=this.2 l hl; omega⟩
theorem Jdt {g:List Int → Bool} {out:List (List Int)} {c:Int} {n:Nat} (h:okG n out) (hn:n ≤ 1048576) {β:Type} (k:List (List Int) → Option β) (a:Int) (ha:a = match Qwr g out with | some i=>(i:Int) | none=>-1) :
    (bif (decide (a < 0)) then Qac (Qhv 24 out [([c]:List Int)]) λx=>k x else Qac (ix out a) λx=>Qac (Qhv 8 x (([c]:List Int))) λy=>Qac (ix out a) λz=>k (Qge out a y)) = k (Jfi g out c):=by
 obtain ⟨h1,h2⟩:=h
 unfold Jfi
 cases hf:Qwr g out with
 | none =>
  rw [hf] at ha
  simp only at ha
  subst ha
  rw [Qcn (by simp),ap1 (by simp; omega),Qab]
 | some i =>
  rw [hf] at ha
  simp only at ha
  subst ha
  obtain ⟨x,hx,_⟩:=Qvr hf
  have:=h2 x (List.mem_of_getElem? hx)
  rw [Qbb (by simp),Qq2,hx,Qab,ap1 (by simp; omega),Qab,Qab]
  simp [Qge,hx]
theorem Q8z {r:Request} (h:(Qh9 r == 0) = false) (us:List Int):Qwq r us = []:=by
 unfold Qwq Qi0
 rw [h]
 apply List.filter_eq_nil_iff.2
 intro u _
 simp; omega
theorem Ja5 {fu:Nat} {r:Request} (h:Sm fu r) (hc:Qh9 r = 0):Qcg fu r = some (Qi0 r):=Jd9 h hc
theorem Q26 {α:Type} {out:List α} (h:out ≠ []):∃ l,out.getLast? = some l ∧ ix out ((out.length:Int) - 1) = some l:=by
 cases hl:out.getLast? with
 | none=>exact absurd (List.getLast?_eq_none_iff.1 hl) h
 | some l =>
  have hp:=List.length_pos_iff.2 h
  refine ⟨l,rfl,?_⟩
  rw [show (out.length:Int) - 1 = ((out.length - 1:Nat):Int) by omega,Qq2,← List.getLast?_eq_getElem?,hl]
theorem Jg5 {fu:Nat} {r:Request} (h:Sm fu r) (us:List Int) (hl:us.length ≤ 1048575):Qpv fu r us = some (nfM r us):=by
 have hfu:=h.fu
 have htl:=Q2f r us
 unfold Qpv nfM
 rw [Q03 h,Qab]
 cases hc:Qh9 r == 0
 · rw [show (Qh9 r != 0) = true by simp only [bne,hc]; rfl,cond_true,Q8z hc]; rfl
 · have hz:Qh9 r = 0:=by simpa using hc
   rw [show (Qh9 r != 0) = false by simp [hz],cond_false,Ja5 h hz,Qab,Q77 h us (by omega),Qab]
   unfold Qs9
   rw [Q8q h,Qab,Ja5 h hz,Qab]
   have key:=lpI (Qwq r us) (λn (o:List (List Int)) i=>Qf8 fu r (Qwq r us) (Qxm (Qtn r r.fP)) (Qi0 r) n o i) (λxs o=>some (xs.foldl (Jay r) o)) (λxs o=>∃ m,m + xs.length ≤ 1048575 ∧ okG m o) (by omega) ?_ ?_ fu [] ⟨0,by omega,by simp,by simp⟩ (by omega)
   · rw [key]; rfl
   · intro n o i u xs hx hd hI ih
     obtain ⟨m,hm,ho⟩:=hI
     simp only [List.length_cons] at hm
     have h1:=ho.1
     have h2:=ho.2
     have hI':=ih (Jay r o u) ⟨m + 1,by omega,Q7h u ho⟩
     simp only [Qf8.eq_2]
     unfold Qn3 Qik
     rw [hd,cond_true,List.foldl_cons,← hI',Qbp (by omega) (by omega)]
     by_cases he:o = []
     · subst he
       rw [decide_eq_false (by simp),cond_false,hx,Qab,ap1 (by simp),Qab]; rfl
     · obtain ⟨l,e1,e2⟩:=Q26 he
       have hp:=List.length_pos_iff.2 he
       have hll:=h2 l (List.mem_of_getLast? e1)
       rw [decide_eq_true (by omega),cond_true,e2,Qab,hx,Qab,Jde,Q5u r _ l u (by omega) (by omega),Qab]
       rw [Q35 u e1]
       unfold Q7b
       cases Q4s r (l ++ [u]) (Qyl r)
       · rw [cond_false,cond_false,Qab,ap1 (by simp; omega),Qab]
       · rw [cond_true,cond_true,Qab,Qab,ap1 (by simp; omega),Qab,Qab]
         rw [show Qge o ((o.length:Int) - 1) (l ++ [u]) = o.set (o.length - 1) (l ++ [u]) by unfold Qge; congr 1; omega]
   · intro n o i hd _
     simp only [Qf8.eq_2]
     unfold Qn3
     rw [hd,cond_false]; rfl
theorem Jc9 {us:List Int} {p:Int} (h:0 ≤ p ∧ p < us.length):ix us p = some ((ix us p).getD 0):=by
 have:=Qxq (l:=us) (i:=p.toNat) (by omega)
 rw [show ((p.toNat:Nat):Int) = p by omega] at this
 rw [this]; rfl
theorem Q1f {α β γ:Type} (f:γ → β → γ) (g:α → β):∀ (l:List α) (s:γ),(l.map g).foldl f s = l.foldl (λs x=>f s (g x)) s
 | [],_=>rfl
 | x :: l,s=>by rw [List.map_cons,List.foldl_cons,List.foldl_cons,Q1f f g l]
theorem Jes {fu:Nat} {r:Request} (h:Sm fu r) (us:List Int) (hl:us.length < 20):Qog fu r us = some (ffM r us):=by
 have hfu:=h.fu
 have htl:=Q2f r us
 unfold Qog ffM Jeo
 rw [Q03 h,Qab]
 cases hc:Qh9 r == 0
 · rw [show (Qh9 r != 0) = true by simp only [bne,hc]; rfl,cond_true,Q8z hc]; rfl
 · have hz:Qh9 r = 0:=by simpa using hc
   rw [show (Qh9 r != 0) = false by simp [hz],cond_false,Ja5 h hz,Qab,Q77 h us (by omega),Qab]
   unfold Qsn
   rw [Q8q h,Qab,Ja5 h hz,Qab]
   generalize Qwq r us = t at htl ⊢
   have key:=lpI t (λn (o:List Int) i=>Qgh fu r t (Qxm (Qtn r r.fP)) (Qi0 r) n o i) (λxs o=>Qac (Qg2 fu (o ++ xs.map λu=>Qz6 r [u])) λx=>Qcl fu r t (Qxm (Qtn r r.fP)) (Qi0 r) x fu [] 0) (λxs o=>o.length + xs.length ≤ 20) (by omega) ?_ ?_ fu [] (by simp; omega) (by omega)
   · rw [key,List.nil_append,Jcv hfu (by simp; omega),Qab,Q1f,List.length_map]
     have hsl:=Qvs (dnk (t.map λu=>Qz6 r [u])) t.length
     have hsm:=λx=>Q25 (k:=dnk (t.map λu=>Qz6 r [u])) (n:=t.length) (x:=x)
     generalize srt (dnk (t.map λu=>Qz6 r [u])) t.length = S at hsl hsm ⊢
     have key1:=lpI S (λn (o:List (List Int)) i=>Qcl fu r t (Qxm (Qtn r r.fP)) (Qi0 r) S n o i) (λxs o=>some (xs.foldl (λs p=>Jgx r s ((ix t p).getD 0)) o)) (λxs o=>(∃ m,m + xs.length ≤ 20 ∧ okG m o) ∧ ∀ p ∈ xs,0 ≤ p ∧ p < t.length) (by omega) ?_ ?_ fu [] ⟨⟨0,by omega,by simp,by simp⟩,λp hp=>(hsm p).1 hp⟩ (by omega)
     · rw [key1]; rfl
     · intro n o i p xs hx hd hI ih
       obtain ⟨⟨m,hm,ho⟩,hin⟩:=hI
       simp only [List.length_cons] at hm
       have hp:=Jc9 (hin p (by simp))
       have ho1:=ho.1
       simp only [Qcl.eq_2]
       unfold Qlz
       rw [hd,cond_true,hx,Qab,hp,Qab,List.foldl_cons]
       generalize (ix t p).getD 0 = u
       obtain ⟨K,hK⟩:∃ K,K = Qcl fu r t (Qxm (Qtn r r.fP)) (Qi0 r) S n:=⟨_,rfl⟩
       rw [← hK] at ih ⊢
       obtain ⟨R,hR⟩:∃ R:Int → Option (List (List Int)),R = λa=>bif (decide (a < 0)) then Qac (Qhv 24 o [([u]:List Int)]) λx=>K x (w64 (i + 1)) else Qac (ix o a) λx=>Qac (Qhv 8 x (([u]:List Int))) λy=>Qac (ix o a) λz=>K (Qge o a y) (w64 (i + 1)):=⟨_,rfl⟩
       have hD:=lpD o.length (λn a j=>Qff fu K r (Qxm (Qtn r r.fP)) (Qi0 r) o i u n a j) (λxs a=>R (xs.foldl (Jcp (Q7b r u) o) a)) (by omega) ?_ ?_ fu (-1) (by omega)
       · rw [hD,hR]
         refine (Jdt (g:=Q7b r u) (c:=u) ho (by omega) (λx=>K x (w64 (i + 1))) _ ?_).trans (ih _ ⟨⟨m + 1,by omega,Q9p u ho⟩,λq hq=>hin q (by simp [hq])⟩)
         rw [Qzm (Q7b r u) o o.length (-1) (Nat.le_refl _),List.take_length]
         cases Qwr (Q7b r u) o <;> rfl
       · intro n a j xs h0 h1 hd ih
         simp only [Qff.eq_2]
         unfold Qk2 Qkh
         obtain ⟨j,rfl⟩:∃ q:Nat,j = q:=⟨j.toNat,by omega⟩
         have hj:j < o.length:=by omega
         have hg:=ho.2 _ (List.getElem_mem hj)
         rw [hd,cond_true,Qxq hj,Qab,Jde,Q5u r _ _ u (by omega) (by omega),Qab]
         have e:Jcp (Q7b r u) o a (j:Int) = bif Q4s r (o[j] ++ [u]) (Qyl r) then (j:Int) else a:=by unfold Jcp atB Q7b; rw [Qxq hj]
         simp only [ih,List.foldl_cons,e]
         cases Q4s r (o[j] ++ [u]) (Qyl r) <;> rfl
       · intro n a j hd
         simp only [Qff.eq_2]
         unfold Qk2 Qku
         rw [hd,cond_false,hR]; rfl
     · intro n o i hd _
       simp only [Qcl.eq_2]
       unfold Qlz
       rw [hd,cond_false]; rfl
   · intro n o i u xs hx hd hI ih
     simp only [List.length_cons] at hI
     obtain ⟨i0,i1,i2⟩:=Qat hx
     have e:sls t i (w64 (i + 1)) = some [u]:=by
      rw [Qbp (by omega) (by omega),Qt8 (by omega)]
      congr 1
      rw [show (i + 1).toNat - i.toNat = 1 by omega]
      have hlt:=(List.getElem?_eq_some_iff.1 i2).1
      have heq:=(List.getElem?_eq_some_iff.1 i2).2
      rw [List.drop_eq_getElem_cons hlt,heq]; rfl
     simp only [Qgh.eq_2]
     unfold Qlh
     rw [hd,cond_true,e,Qab,Q9q r [u] (by simp) (by simp; omega),Qab,ap1 (by simp; omega),Qab,ih _ (by simp; omega)]
     simp
   · intro n o i hd _
     simp only [Qgh.eq_2]
     unfold Qlh
     rw [hd,cond_false]; simp
theorem Ji9 {fu:Nat} {r:Request} (h:Sm fu r) (us:List Int) (hl:us.length < 20):Qpt fu r us = some (pwM r us):=by
 unfold Qpt pwM
 rw [Jg5 h us (by omega),Jes h us hl]
 cases r.qQ == 1 <;> rfl
end Go.Proofs.YtpcmapfabndggaaGreat
/- The units of a group, by spec and by impl. -/
namespace Go.Proofs.YtpcmapfabndggaaGreat
open Go
open Enc (rd ow)
open Arg (argv)
open Ret (retv)
open Wf (wf)
def Jjz (r:Request) (k:Int):Bool:=inb k 0 (((Qnj r).length:Int) - 1)
theorem Q65 {r:Request} {k:Int} (h:Jjz r k = true):Qh9 r = 0:=by
 unfold Jjz at h
 rw [Qdz] at h
 by_cases hc:Qh9 r = 0
 · exact hc
 · have:Qnj r = []:=by
     unfold Qnj Qz5
     rw [show (Qh9 r == 0) = false by simp [hc]]
     rfl
   rw [this] at h
   simp at h
   omega
theorem Jbu (r:Request) (g:List Int) (u i:Int) (us:List Int) {x:Item} (hx:ix r.fG i = some x):ofG r g u (i :: us) = bif g.contains x.fF then u :: ofG r g (u + 1) us else ofG r g (u + 1) us:=by
 rw [ofG,hx]
theorem Ji4 {fu:Nat} {r:Request} (h:Sm fu r) (k:Int):Qqb fu r k = some (Q9x r k):=by
 have hfu:=h.fu
 unfold Qqb Q9x
 rw [Jcn h,Qab,Jfb,Q1e,Qab]
 cases hg:inb k 0 (((Qnj r).length:Int) - 1)
 · rw [Bool.not_false,cond_true]
   have:ix (Qnj r) k = none:=by
    have hk:¬ (0 ≤ k ∧ k ≤ ((Qnj r).length:Int) - 1):=by intro hk; rw [(Qdz).2 hk] at hg; cases hg
    unfold ix
    by_cases h0:0 ≤ k
    · rw [if_pos h0,List.getElem?_eq_none (by omega)]
    · rw [if_neg h0]
   rw [this]
 · have hc:=Q65 hg
   rw [Qdz] at hg
   obtain ⟨j,rfl⟩:∃ j:Nat,k = j:=⟨k.toNat,by omega⟩
   have hj:j < (Qnj r).length:=by omega
   have hgl:=(Qur r).2 _ (List.getElem_mem hj)
   rw [Bool.not_true,cond_false,Jje h (Qfv hc).1,Qab,Qxq hj]
   have e:Qi0 r = l6M r:=by unfold Qi0; rw [show (Qh9 r == 0) = true by simp [hc],cond_true]
   simp only [e]
   have hlen:(l6M r).length ≤ 12:=Q94 (Qfv hc).1
   have:=Jfl (l6M r) (λn out i=>Qe5 fu r (j:Int) (Qnj r) (l6M r) n out i) (λpre xs out=>some (out ++ ofG r (Qnj r)[j] (pre.length:Int) xs)) (λpre xs out=>out.length + xs.length ≤ 12) (by omega) ?_ ?_ fu [] (by simpa using hlen) (by omega)
   · simpa using this
   · intro n out pre i xs hl hx hd hI ih
     simp only [List.length_cons] at hI
     have hi:i ∈ Qi0 r:=by rw [e,hl]; simp
     have hi2:=Q51 hi
     obtain ⟨q,rfl⟩:∃ q:Nat,i = q:=⟨i.toNat,by omega⟩
     have hq:q < r.fG.length:=by omega
     simp only [Qe5.eq_2]
     unfold Ql0 Qko
     simp only [hd,cond_true,hx,Qab,Qxq hj,Qxq hq,Jeh (show (Qnj r)[j].length ≤ 1048576 by omega) (show (Qnj r)[j].length < fu by omega)]
     rw [Jbu r _ _ _ _ (Qxq hq)]
     cases (Qnj r)[j].contains r.fG[q].fF
     · rw [cond_false,cond_false,ih _ (by omega)]
       simp
     · rw [cond_true,cond_true,ap1 (by simp; omega),Qab,ih _ (by simp; omega)]
       simp
   · intro n out hd hI
     simp only [Qe5.eq_2]
     unfold Ql0
     simp only [hd,cond_false]
     simp [ofG]
end Go.Proofs.YtpcmapfabndggaaGreat
/- CartonsOf of spec and of impl. -/
namespace Go.Proofs.YtpcmapfabndggaaGreat
open Go
open Enc (rd ow)
open Arg (argv)
open Ret (retv)
open Wf (wf)
def Jhj (l:List Int):List Int:=l.mergeSort λx y=>decide (x ≤ y)
theorem Qy4 (l:List Int):(Jhj l).Perm l:=List.mergeSort_perm l _
theorem Jbb (l:List Int):(Jhj l).length = l.length:=(Qy4 l).length_eq
def Jca (r:Request) (k:Int) (l:List Int):Carton:=⟨(Qxf r l).1.f8,k,Jhj l⟩
def Q6r (r:Request) (k:Int):List Carton:=(pwM r (Q9x r k)).map (Jca r k)
def Q4b (r:Request):List Int → List Carton
 | []=>[]
 | k :: ks=>Q6r r k ++ Q4b r ks
def Q1p (r:Request):List Carton:=Q4b r (Qkd 0 (Qnj r).length)
theorem Q7y (l:List Int):(Qkd 0 l.length).map (λp=>(ix l p).getD 0) = l:=by
 have key:∀ (xs pre:List Int),l = pre ++ xs → (Qkd pre.length xs.length).map (λp=>(ix l p).getD 0) = xs:=by
  intro xs
  induction xs with
  | nil=>intro pre _; rfl
  | cons x xs ih =>
   intro pre he
   have h1:=ih (pre ++ [x]) (by simp [he])
   simp only [List.length_append,List.length_singleton] at h1
   simp only [List.length_cons,Qkd,List.map_cons]
   rw [show ((pre.length:Int) + 1) = ((pre.length + 1:Nat):Int) by omega,h1]
   congr 1
   rw [Qq2,he]
   simp
 exact key l [] rfl
theorem Jdm (l:List Int):(srt (kf l) l.length).map (λp=>(ix l p).getD 0) = Jhj l:=by
 refine Jat ?_ ?_ (Qsz l)
 · refine ((Qu2 _ _).map _).trans ?_
   rw [Q7y]
   exact (Qy4 l).symm
 · refine List.pairwise_map.2 ((Qxc (kf l) l.length).imp fun {p q} h=>?_)
   unfold lx kf at h
   omega
theorem Jck {r:Request} (k:Int):(Q6r r k).length ≤ 12:=by
 have:=(Q70 (r:=r) (Q14 r k)).1
 simp [Q6r]; omega
theorem Jio {fu:Nat} {r:Request} (h:Sm fu r):Qmv fu r = some (Q1p r):=by
 have hfu:=h.fu
 have hg:=(Qur r).1
 unfold Qmv Q1p
 rw [Jcn h,Qab]
 have:=Q9w ((Qnj r).length:Int) (λn out i=>Qbd fu r (Qnj r) n out i) (λxs out=>some (out ++ Q4b r xs)) (λxs out=>out.length + 12 * xs.length ≤ 48) (by omega) ?_ ?_ (Qnj r).length fu [] 0 (by omega) (by omega) (by omega) (by simp [Qen]; omega)
 · simpa using this
 · intro n out k ks h0 h1 hd hI ih
   simp only [List.length_cons] at hI
   have hul:=Q14 r k
   have hpo:=Q70 (r:=r) hul
   simp only [Qbd.eq_2]
   unfold Qiy
   rw [hd,cond_true,Ji4 h,Qab,Ji9 h _ (by omega),Qab]
   have key:=lpI (pwM r (Q9x r k)) (λm o i=>Qbz fu (Qbd fu r (Qnj r) n) r k (pwM r (Q9x r k)) m o i) (λxs o=>Qbd fu r (Qnj r) n (o ++ xs.map (Jca r k)) (w64 (k + 1))) (λxs o=>o.length + xs.length ≤ 48 ∧ ∀ l ∈ xs,l.length ≤ 12) (by have:=hpo.1; omega) ?_ ?_ fu out ⟨by have:=hpo.1; omega,hpo.2⟩ (by have:=hpo.1; omega)
   · rw [key,ih _ (by have:=hpo.1; simp; omega)]
     simp [Q4b,Q6r]
   · intro m o i l xs hx hd hI ih
     obtain ⟨h2,h3⟩:=hI
     simp only [List.length_cons] at h2
     have hl:=h3 l (by simp)
     simp only [Qbz.eq_2]
     unfold Qiv Qk6
     rw [hd,cond_true,hx,Qab,Q8s h l (by omega),Qab,Qab,Jjr hfu (by omega),Qab]
     have hsl:=Qvs (kf l) l.length
     have hsm:=λx=>Q25 (k:=kf l) (n:=l.length) (x:=x)
     have hsg:=Jdm l
     generalize srt (kf l) l.length = S at hsl hsm hsg ⊢
     have k1:=lpI S (λm' us j=>Qex fu (Qbz fu (Qbd fu r (Qnj r) n) r k (pwM r (Q9x r k)) m) k (pwM r (Q9x r k)) o i (Qxf r l).1 S m' us j)
      (λxs us=>Qac (Qhv 40 o [(⟨(Qxf r l).1.f8,k,us ++ xs.map λp=>(ix l p).getD 0⟩:Carton)]) λx=>Qh3 fu (Qbz fu (Qbd fu r (Qnj r) n) r k (pwM r (Q9x r k)) m) i x) (λxs us=>us.length + xs.length ≤ 12 ∧ ∀ p ∈ xs,0 ≤ p ∧ p < l.length) (by omega) ?_ ?_ fu [] ⟨by simp; omega,λp hp=>(hsm p).1 hp⟩ (by omega)
     · rw [k1,List.nil_append,hsg,ap1 (by simp; omega),Qab]
       unfold Qh3
       rw [ih _ ⟨by simp; omega,λy hy=>h3 y (by simp [hy])⟩]
       simp [Jca]
     · intro m' us j p ps hp hd hI ih
       obtain ⟨h4,h5⟩:=hI
       simp only [List.length_cons] at h4
       simp only [Qex.eq_2]
       unfold Qip
       rw [hd,cond_true,hx,Qab,hp,Qab,Jc9 (h5 p (by simp)),Qab,ap1 (by simp; omega),Qab,ih _ ⟨by simp; omega,λy hy=>h5 y (by simp [hy])⟩]
       simp
     · intro m' us j hd _
       simp only [Qex.eq_2]
       unfold Qip
       rw [hd,cond_false]; simp
   · intro m o i hd _
     simp only [Qbz.eq_2]
     unfold Qiv Qlm
     rw [hd,cond_false]; simp
 · intro n out k hd _
   simp only [Qbd.eq_2]
   unfold Qiy
   rw [hd,cond_false]; simp [Q4b]
theorem Q5w (r:Request):∀ (ks:List Int),(Q4b r ks).length ≤ 12 * ks.length
 | []=>by simp [Q4b]
 | k :: ks=>by
  have:=Q5w r ks
  have:=Jck (r:=r) k
  simp [Q4b]; omega
theorem Q2i (r:Request):(Q1p r).length ≤ 48:=by
 have:=Q5w r (Qkd 0 (Qnj r).length)
 have hg:=(Qur r).1
 rw [Qen] at this
 unfold Q1p
 omega
theorem Q50 {r:Request} {c:Carton}:∀ {ks:List Int},c ∈ Q4b r ks ↔ ∃ k ∈ ks,∃ l ∈ pwM r (Q9x r k),c = Jca r k l
 | []=>by simp [Q4b]
 | k :: ks=>by
  simp only [Q4b,List.mem_append,Q50 (ks:=ks),List.mem_cons,Q6r,List.mem_map]
  constructor
  · rintro (⟨l,hl,rfl⟩ | ⟨k',hk,l,hl,e⟩)
    · exact ⟨k,.inl rfl,l,hl,rfl⟩
    · exact ⟨k',.inr hk,l,hl,e⟩
  · rintro ⟨k',rfl | hk,l,hl,rfl⟩
    · exact .inl ⟨l,hl,rfl⟩
    · exact .inr ⟨k',hk,l,hl,rfl⟩
theorem Q3y {r:Request} {c:Carton} (h:c ∈ Q1p r):c.fM.length ≤ 12:=by
 obtain ⟨k,_,l,hl,rfl⟩:=Q50.1 h
 have:=(Q70 (r:=r) (Q14 r k)).2 l hl
 simp only [Jca,Jbb]
 omega
end Go.Proofs.YtpcmapfabndggaaGreat
/- Transitive of spec and of impl; where it is, groups are apart. -/
namespace Go.Proofs.YtpcmapfabndggaaGreat
open Go
open Enc (rd ow)
open Arg (argv)
open Ret (retv)
open Wf (wf)
theorem Jep {α:Type} (l:List α) (L:Nat → Int → Option Bool) (g:α → Bool) (fin:Option Bool) (hl:l.length ≤ 1099511627776)
    (hs:∀ n (i:Int) x,ix l i = some x → decide (i < (l.length:Int)) = true → L (n + 1) i = bif g x then L n (w64 (i + 1)) else some false)
    (he:∀ n (i:Int),decide (i < (l.length:Int)) = false → L (n + 1) i = fin):∀ n,l.length < n → L n 0 = bif l.all g then fin else some false:=by
 intro n hn
 refine lp l (λn (_:Unit) i=>L n i) (λxs _=>bif xs.all g then fin else some false) hl ?_ ?_ n () hn
 · intro n s i x xs hx hd ih
   rw [hs n i x hx hd,ih (),List.all_cons]
   cases g x <;> rfl
 · intro n s i hd
   rw [he n i hd]; rfl
structure Sep (p:List Pair) (P:List Int) (out:List (List Int)):Prop where
 ne:∀ g ∈ out,g ≠ []
 inn:∀ g ∈ out,∀ x ∈ g,x ∈ P
 one:∀ g ∈ out,∀ x ∈ g,∀ y ∈ g,x ≠ y → Q2y p x y = true
 two:∀ (i j:Nat) (g h:List Int),out[i]? = some g → out[j]? = some h → i ≠ j → ∀ x ∈ g,∀ y ∈ h,Q2y p x y = false
end Go.Proofs.YtpcmapfabndggaaGreat
/- RivalBy of spec and of impl. -/
namespace Go.Proofs.YtpcmapfabndggaaGreat
open Go
open Enc (rd ow)
open Arg (argv)
open Ret (retv)
open Wf (wf)
theorem Q9i {α:Type} {l:List α} {i:Int} (h0:0 ≤ i) (h1:i < l.length):∃ x,ix l i = some x:=by
 obtain ⟨j,rfl⟩:∃ j:Nat,i = j:=⟨i.toNat,by omega⟩
 exact ⟨_,Qxq (by omega)⟩
end Go.Proofs.YtpcmapfabndggaaGreat
/- Shelves, layers, loads, spots of spec: what they compute, and what holds of them. -/
namespace Go.Proofs.YtpcmapfabndggaaGreat
open Go
open Enc (rd ow)
open Arg (argv)
open Ret (retv)
open Wf (wf)
def Je5 (p:Pallet) (b:Box):Bool:=inb b.fW 1 p.fW && (inb b.fD 1 p.fD && (inb b.fH 1 p.fH && inb b.fV 1 p.fV))
def Q3a (p:Pallet) (l:List Box):Bool:=Qz2 p && l.all (Je5 p)
theorem Jgo {fu:Nat} (p:Pallet) (l:List Box) (hl:l.length ≤ 1048576) (hf:l.length < fu):Qm5 fu p l = some (Q3a p l):=by
 unfold Qm5 Q3a
 rw [Jb9,Qab]
 cases Qz2 p
 · rfl
 · rw [Bool.not_true,cond_false,Bool.true_and]
   have:=Jep l (λn i=>Qfh fu p l n i) (Je5 p) (some true) (by omega) ?_ ?_ fu hf
   · rw [this]
     cases l.all (Je5 p) <;> rfl
   · intro n i x hx hd
     simp only [Qfh.eq_2]
     unfold Qlx Qpd Je5
     simp only [hd,cond_true,hx,Qab,Q1e]
     cases inb x.fW 1 p.fW <;> cases inb x.fD 1 p.fD <;> cases inb x.fH 1 p.fH <;> cases inb x.fV 1 p.fV <;> rfl
   · intro n i hd
     simp only [Qfh.eq_2]
     unfold Qlx
     rw [hd,cond_false]
def nxG {σ:Type} (fits:σ → Bool) (add:σ → σ) (z:σ) (out:List σ):List σ:=match out.getLast? with
 | some s=>bif fits s then out.set (out.length - 1) (add s) else out ++ [add z]
 | none=>[add z]
theorem Q2c {σ:Type} {fits:σ → Bool} {add:σ → σ} {z:σ} {out:List σ} {s:σ} (h:out.getLast? = some s):nxG fits add z out = bif fits s then out.set (out.length - 1) (add s) else out ++ [add z]:=by unfold nxG; rw [h]
theorem Qw8 {σ:Type} (fits:σ → Bool) (add:σ → σ) (z:σ) (out:List σ):(nxG fits add z out).length ≤ out.length + 1:=by
 unfold nxG
 split
 · cases fits _ <;> simp
 · simp
theorem Q46 {σ:Type} {fits:σ → Bool} {add:σ → σ} {z:σ} {out:List σ} {I:σ → Prop} (h:∀ s ∈ out,I s) (ha:∀ s,I s → fits s = true → I (add s)) (hz:I (add z)):∀ s ∈ nxG fits add z out,I s:=by
 intro s hs
 unfold nxG at hs
 split at hs
 · rename_i x hx
   have hm:=List.mem_of_getLast? hx
   cases hf:fits x
   · rw [hf,cond_false] at hs
     rcases List.mem_append.1 hs with hs | hs
     · exact h s hs
     · rw [List.mem_singleton.1 hs]; exact hz
   · rw [hf,cond_true] at hs
     rcases List.mem_or_eq_of_mem_set hs with hs | rfl
     · exact h s hs
     · exact ha x (h x hm) hf
 · rw [List.mem_singleton.1 hs]; exact hz
theorem Qu1 {σ:Type} {fits:σ → Bool} {add:σ → σ} {z:σ} {out:List σ} {f:σ → List Int} {i:Int} (ha:∀ s,f (add s) = f s ++ [i]) (hz:f z = []):((nxG fits add z out).map f).flatten = (out.map f).flatten ++ [i]:=by
 unfold nxG
 split
 · rename_i x hx
   cases fits x
   · rw [cond_false,List.map_append,List.flatten_append]
     simp [ha,hz]
   · rw [cond_true]
     have hne:out ≠ []:=by intro e; rw [e] at hx; simp at hx
     have e:out = out.dropLast ++ [x]:=by
      have h1:=List.dropLast_concat_getLast hne
      rw [List.getLast?_eq_some_getLast hne] at hx
      rw [Option.some.inj hx] at h1
      exact h1.symm
     obtain ⟨d,hd⟩:∃ d,out = d ++ [x]:=⟨_,e⟩
     rw [hd]
     simp [ha]
 · rename_i hx
   have:out = []:=List.getLast?_eq_none_iff.1 hx
   subst this
   simp [ha,hz]
def mxI (a b:Int):Int:=if a > b then a else b
theorem Q1i (a b:Int):a ≤ mxI a b ∧ b ≤ mxI a b ∧ (mxI a b = a ∨ mxI a b = b):=by unfold mxI; split <;> omega
def zBx:Box:=⟨0,0,0,0⟩
def bxA (l:List Box) (i:Int):Box:=(ix l i).getD zBx
def zSh:Shelf:=⟨[],0,0,0,0⟩
def Qtz (s:Shelf) (i:Int) (b:Box):Shelf:=⟨s.qJ ++ [i],s.fW + b.fW,mxI s.fD b.fD,mxI s.fH b.fH,s.fV + b.fV⟩
def Jbh (p:Pallet) (b:Box) (s:Shelf):Bool:=decide (s.fW + b.fW ≤ p.fW) && decide (s.fV + b.fV ≤ p.fV)
def shS (p:Pallet) (l:List Box) (out:List Shelf) (i:Int):List Shelf:=nxG (Jbh p (bxA l i)) (λs=>Qtz s i (bxA l i)) zSh out
def shM (p:Pallet) (l:List Box):List Shelf:=bif Q3a p l then (srt (dnk (l.map (·.fD))) l.length).foldl (shS p l) [] else []
structure ShI (p:Pallet) (n:Nat) (s:Shelf):Prop where
 ne:s.qJ ≠ []
 inn:∀ i ∈ s.qJ,0 ≤ i ∧ i < n
 w:1 ≤ s.fW ∧ s.fW ≤ p.fW
 d:1 ≤ s.fD ∧ s.fD ≤ p.fD
 h:1 ≤ s.fH ∧ s.fH ≤ p.fH
 g:1 ≤ s.fV ∧ s.fV ≤ p.fV
theorem Jah {p:Pallet} {l:List Box} (h:Q3a p l = true) {i:Int} (hi:0 ≤ i ∧ i < l.length):ix l i = some (bxA l i) ∧ (1 ≤ (bxA l i).fW ∧ (bxA l i).fW ≤ p.fW) ∧ (1 ≤ (bxA l i).fD ∧ (bxA l i).fD ≤ p.fD) ∧ (1 ≤ (bxA l i).fH ∧ (bxA l i).fH ≤ p.fH) ∧ (1 ≤ (bxA l i).fV ∧ (bxA l i).fV ≤ p.fV):=by
 obtain ⟨x,hx⟩:=Q9i (l:=l) hi.1 hi.2
 have e:bxA l i = x:=by unfold bxA; rw [hx]; rfl
 unfold Q3a at h
 simp only [Bool.and_eq_true] at h
 have:=List.all_eq_true.1 h.2 x (Qd5 hx)
 simp only [Je5,Bool.and_eq_true,Qdz] at this
 rw [e]
 exact ⟨hx,this.1,this.2.1,this.2.2.1,this.2.2.2⟩
theorem Q6i {p:Pallet} (h:Qz2 p = true):(1 ≤ p.fW ∧ p.fW ≤ 2000) ∧ (1 ≤ p.fD ∧ p.fD ≤ 2000) ∧ (1 ≤ p.fH ∧ p.fH ≤ 2000) ∧ (1 ≤ p.fV ∧ p.fV ≤ 100000):=by
 simp only [Qz2,Bool.and_eq_true,Qdz] at h
 exact ⟨h.1,h.2.1,h.2.2.1,h.2.2.2⟩
theorem Q9j {p:Pallet} {l:List Box} (h:Q3a p l = true):Qz2 p = true:=by
 unfold Q3a at h
 simp only [Bool.and_eq_true] at h
 exact h.1
theorem Jau {p:Pallet} {l:List Box} (hb:Q3a p l = true) {out:List Shelf} {i:Int} (hi:0 ≤ i ∧ i < l.length) (h:∀ s ∈ out,ShI p l.length s):∀ s ∈ shS p l out i,ShI p l.length s:=by
 obtain ⟨_,b1,b2,b3,b4⟩:=Jah hb hi
 refine Q46 h (λs hs hf=>?_) ⟨by simp [Qtz],λj hj=>?_,?_,?_,?_,?_⟩
 · unfold Jbh at hf
   simp only [Bool.and_eq_true,decide_eq_true_eq] at hf
   obtain ⟨s1,s2,s3,s4,s5,s6⟩:=hs
   have m1:=Q1i s.fD (bxA l i).fD
   have m2:=Q1i s.fH (bxA l i).fH
   refine ⟨by simp [Qtz],λj hj=>?_,?_,?_,?_,?_⟩
   · simp only [Qtz,List.mem_append,List.mem_singleton] at hj
     rcases hj with hj | rfl
     · exact s2 j hj
     · exact hi
   · simp only [Qtz]; omega
   · simp only [Qtz]; omega
   · simp only [Qtz]; omega
   · simp only [Qtz]; omega
 · simp only [Qtz,zSh,List.nil_append,List.mem_singleton] at hj
   rw [hj]; exact hi
 · simp only [Qtz,zSh]; omega
 · have:=Q1i 0 (bxA l i).fD
   simp only [Qtz,zSh]; omega
 · have:=Q1i 0 (bxA l i).fH
   simp only [Qtz,zSh]; omega
 · simp only [Qtz,zSh]; omega
theorem Jae {p:Pallet} {l:List Box} (hb:Q3a p l = true):∀ (is:List Int) (out:List Shelf),(∀ i ∈ is,0 ≤ i ∧ i < l.length) → (∀ s ∈ out,ShI p l.length s) → (∀ s ∈ is.foldl (shS p l) out,ShI p l.length s) ∧ ((is.foldl (shS p l) out).map (·.qJ)).flatten = (out.map (·.qJ)).flatten ++ is ∧ (is.foldl (shS p l) out).length ≤ out.length + is.length
 | [],out,_,h=>⟨h,by simp,by simp⟩
 | i :: is,out,hi,h=>by
  rw [List.foldl_cons]
  obtain ⟨h1,h2,h3⟩:=Jae hb is (shS p l out i) (λj hj=>hi j (by simp [hj])) (Jau hb (hi i (by simp)) h)
  have h4:((shS p l out i).map (·.qJ)).flatten = (out.map (·.qJ)).flatten ++ [i]:=Qu1 (λs=>rfl) rfl
  have h5:(shS p l out i).length ≤ out.length + 1:=Qw8 _ _ _ _
  refine ⟨h1,by rw [h2,h4]; simp,by simp; omega⟩
theorem Q48 {p:Pallet} {l:List Box} (hb:Q3a p l = true):(∀ s ∈ shM p l,ShI p l.length s) ∧ ((shM p l).map (·.qJ)).flatten = srt (dnk (l.map (·.fD))) l.length ∧ (shM p l).length ≤ l.length:=by
 unfold shM
 rw [hb,cond_true]
 obtain ⟨h1,h2,h3⟩:=Jae hb (srt (dnk (l.map (·.fD))) l.length) [] (λi hi=>Q25.1 hi) (by simp)
 refine ⟨h1,by simpa using h2,?_⟩
 rw [Qvs] at h3
 simpa using h3
theorem Jf8 {fu:Nat} (s:Shelf) (i:Int) (b:Box) (hl:s.qJ.length ≤ 1000000) (h1:-1000000000 ≤ s.fW + b.fW ∧ s.fW + b.fW ≤ 1000000000) (h2:-1000000000 ≤ s.fV + b.fV ∧ s.fV + b.fV ≤ 1000000000):Qgu fu s i b = some (Qtz s i b):=by
 unfold Qgu
 rw [ap1 (by simp; omega),Qab,ap1 (by simp; omega),Qab,Jbo,Qab,Jbo,Qab,Qbp (by omega) (by omega),Qbp (by omega) (by omega)]
 rfl
theorem Qvw {σ:Type} (f:σ → List Int):∀ (l:List σ) (s:σ),s ∈ l → (f s).length ≤ ((l.map f).flatten).length
 | [],_,h=>by simp at h
 | x :: l,s,h=>by
  simp only [List.map_cons,List.flatten_cons,List.length_append]
  rcases List.mem_cons.1 h with rfl | h
  · omega
  · have:=Qvw f l s h; omega
theorem Q8w {fu:Nat} (hfu:2097153 ≤ fu) (p:Pallet) (l:List Box) (hl:l.length ≤ 1000):Qqe fu p l = some (shM p l):=by
 unfold Qqe shM
 rw [Jgo p l (by omega) (by omega),Qab]
 cases hb:Q3a p l
 · rfl
 · rw [Bool.not_true,cond_false,cond_true]
   have key:=lpI l (λn (o:List Int) i=>Qgm fu p l n o i) (λxs o=>Qac (Qg2 fu (o ++ xs.map (·.fD))) λx=>Qd6 fu p l x fu [] 0) (λxs o=>o.length + xs.length ≤ 1000) (by omega) ?_ ?_ fu [] (by simp; omega) (by omega)
   · rw [key,List.nil_append,Jcv hfu (by simp; omega),Qab,List.length_map]
     have hsl:=Qvs (dnk (l.map (·.fD))) l.length
     have hsm:=λx=>Q25 (k:=dnk (l.map (·.fD))) (n:=l.length) (x:=x)
     generalize srt (dnk (l.map (·.fD))) l.length = S at hsl hsm ⊢
     have L1:=lpI S (λn (o:List Shelf) i=>Qd6 fu p l S n o i) (λxs o=>some (xs.foldl (shS p l) o)) (λxs o=>(∀ i ∈ xs,0 ≤ i ∧ i < l.length) ∧ (∀ s ∈ o,ShI p l.length s) ∧ ((o.map (·.qJ)).flatten).length + xs.length ≤ 1000 ∧ o.length + xs.length ≤ 1000) (by omega) ?_ ?_ fu [] ⟨λi hi=>(hsm i).1 hi,by simp,by simp; omega,by simp; omega⟩ (by omega)
     · exact L1
     · intro n o i x xs hx hd hI ih
       obtain ⟨i1,i2,i3,i4⟩:=hI
       simp only [List.length_cons] at i3 i4
       have hxi:=i1 x (by simp)
       obtain ⟨hbx,b1,b2,b3,b4⟩:=Jah hb hxi
       obtain ⟨p1,p2,p3,p4⟩:=Q6i (Q9j hb)
       have hn:Qgu fu zSh x (bxA l x) = some (Qtz zSh x (bxA l x)):=Jf8 zSh x _ (by simp [zSh]) (by simp [zSh]; omega) (by simp [zSh]; omega)
       have hn':Qgu fu (⟨[],0,0,0,0⟩:Shelf) x (bxA l x) = some (Qtz zSh x (bxA l x)):=hn
       have hflat:((shS p l o x).map (·.qJ)).flatten = (o.map (·.qJ)).flatten ++ [x]:=Qu1 (λs=>rfl) rfl
       have hlen:(shS p l o x).length ≤ o.length + 1:=Qw8 _ _ _ _
       have ih':=ih (shS p l o x) ⟨λj hj=>i1 j (by simp [hj]),Jau hb hxi i2,by rw [hflat,List.length_append,List.length_singleton]; omega,by omega⟩
       simp only [Qd6.eq_2]
       unfold Qmb Qgo
       rw [hd,cond_true,hx,Qab,hbx,Qab,List.foldl_cons,← ih',hn',Qab]
       by_cases he:o = []
       · subst he
         rw [Qbb (by simp),Qab,ap1 (by simp),Qab]; rfl
       · obtain ⟨s,e1,e2⟩:=Q26 he
         have hp:=List.length_pos_iff.2 he
         have hsm':=List.mem_of_getLast? e1
         have hs:=i2 s hsm'
         have hsl':=Qvw (λs:Shelf=>s.qJ) o s hsm'
         rw [Qbp (n:=(o.length:Int) - 1) (by omega) (by omega),e2,Qab,Qcn (by simp; omega)]
         obtain ⟨s1,s2,s3,s4,s5,s6⟩:=hs
         rw [Qbp (n:=s.fW + _) (by omega) (by omega),Qbp (n:=s.fV + _) (by omega) (by omega),Qab,Qab,Qab,Jf8 (fu:=fu) s x (bxA l x) (by omega) (by omega) (by omega)]
         simp only [Qab]
         rw [ap1 (by simp; omega),Qab]
         have eS:shS p l o x = bif Jbh p (bxA l x) s then o.set (o.length - 1) (Qtz s x (bxA l x)) else o ++ [Qtz zSh x (bxA l x)]:=Q2c e1
         rw [eS]
         unfold Jbh
         rw [show Qge o ((o.length:Int) - 1) (Qtz s x (bxA l x)) = o.set (o.length - 1) (Qtz s x (bxA l x)) by unfold Qge; congr 1; omega]
         cases decide (s.fW + (bxA l x).fW ≤ p.fW) <;> cases decide (s.fV + (bxA l x).fV ≤ p.fV) <;> rfl
     · intro n o i hd _
       simp only [Qd6.eq_2]
       unfold Qmb
       rw [hd,cond_false]; rfl
   · intro n o i x xs hx hd hI ih
     simp only [List.length_cons] at hI
     simp only [Qgm.eq_2]
     unfold Qk3
     rw [hd,cond_true,hx,Qab,ap1 (by simp; omega),Qab,ih _ (by simp; omega)]
     simp
   · intro n o i hd _
     simp only [Qgm.eq_2]
     unfold Qk3
     rw [hd,cond_false]; simp
end Go.Proofs.YtpcmapfabndggaaGreat
/- Layers and loads of spec. -/
namespace Go.Proofs.YtpcmapfabndggaaGreat
open Go
open Enc (rd ow)
open Arg (argv)
open Ret (retv)
open Wf (wf)
def okL (p:Pallet) (d h g:Int):Bool:=inb d 1 p.fD && (inb h 1 p.fH && inb g 1 p.fV)
theorem Jgl (fu:Nat) (p:Pallet) (d h g:Int):Qq6 fu p d h g = some (okL p d h g):=by
 unfold Qq6 okL
 simp only [Q1e,Qab]
 cases inb d 1 p.fD <;> cases inb h 1 p.fH <;> rfl
theorem Jie {fu:Nat} (p:Pallet) (l:List Shelf) (hl:l.length ≤ 1048576) (hf:l.length < fu):Qmx fu p l = some (Qz2 p && l.all λs=>okL p s.fD s.fH s.fV):=by
 unfold Qmx
 rw [Jb9,Qab]
 cases Qz2 p
 · rfl
 · rw [Bool.not_true,cond_false,Bool.true_and]
   have:=Jep l (λn i=>Qe0 fu p l n i) (λs=>okL p s.fD s.fH s.fV) (some true) (by omega) ?_ ?_ fu hf
   · rw [this]
     cases l.all λs=>okL p s.fD s.fH s.fV <;> rfl
   · intro n i x hx hd
     simp only [Qe0.eq_2]
     unfold Qiq
     simp only [hd,cond_true,hx,Qab,Jgl]
     cases okL p x.fD x.fH x.fV <;> rfl
   · intro n i hd
     simp only [Qe0.eq_2]
     unfold Qiq
     rw [hd,cond_false]
theorem Jin {fu:Nat} (p:Pallet) (l:List Layer) (hl:l.length ≤ 1048576) (hf:l.length < fu):Qn8 fu p l = some (Qz2 p && l.all λs=>okL p s.fD s.fH s.fV):=by
 unfold Qn8
 rw [Jb9,Qab]
 cases Qz2 p
 · rfl
 · rw [Bool.not_true,cond_false,Bool.true_and]
   have:=Jep l (λn i=>Qfq fu p l n i) (λs=>okL p s.fD s.fH s.fV) (some true) (by omega) ?_ ?_ fu hf
   · rw [this]
     cases l.all λs=>okL p s.fD s.fH s.fV <;> rfl
   · intro n i x hx hd
     simp only [Qfq.eq_2]
     unfold Qjo
     simp only [hd,cond_true,hx,Qab,Jgl]
     cases okL p x.fD x.fH x.fV <;> rfl
   · intro n i hd
     simp only [Qfq.eq_2]
     unfold Qjo
     rw [hd,cond_false]
def shA (l:List Shelf) (i:Int):Shelf:=(ix l i).getD zSh
def zLy:Layer:=⟨[],0,0,0⟩
def Qu6 (x:Layer) (i:Int) (s:Shelf):Layer:=⟨x.f9 ++ [i],x.fD + s.fD,mxI x.fH s.fH,x.fV + s.fV⟩
def Jcc (p:Pallet) (s:Shelf) (x:Layer):Bool:=decide (x.fD + s.fD ≤ p.fD) && decide (x.fV + s.fV ≤ p.fV)
def lyS (p:Pallet) (l:List Shelf) (out:List Layer) (i:Int):List Layer:=nxG (Jcc p (shA l i)) (λs=>Qu6 s i (shA l i)) zLy out
def lyM (p:Pallet) (l:List Shelf):List Layer:=(Qkd 0 l.length).foldl (lyS p l) []
structure LyI (p:Pallet) (n:Nat) (s:Layer):Prop where
 ne:s.f9 ≠ []
 inn:∀ i ∈ s.f9,0 ≤ i ∧ i < n
 d:1 ≤ s.fD ∧ s.fD ≤ p.fD
 h:1 ≤ s.fH ∧ s.fH ≤ p.fH
 g:1 ≤ s.fV ∧ s.fV ≤ p.fV
def OkS (p:Pallet) (l:List Shelf):Prop:=∀ s ∈ l,(1 ≤ s.fD ∧ s.fD ≤ p.fD) ∧ (1 ≤ s.fH ∧ s.fH ≤ p.fH) ∧ (1 ≤ s.fV ∧ s.fV ≤ p.fV)
theorem Jal {p:Pallet} {l:List Shelf} (h:OkS p l) {i:Int} (hi:0 ≤ i ∧ i < l.length):ix l i = some (shA l i) ∧ (1 ≤ (shA l i).fD ∧ (shA l i).fD ≤ p.fD) ∧ (1 ≤ (shA l i).fH ∧ (shA l i).fH ≤ p.fH) ∧ (1 ≤ (shA l i).fV ∧ (shA l i).fV ≤ p.fV) ∧ shA l i ∈ l:=by
 obtain ⟨x,hx⟩:=Q9i (l:=l) hi.1 hi.2
 have e:shA l i = x:=by unfold shA; rw [hx]; rfl
 rw [e]
 exact ⟨hx,(h x (Qd5 hx)).1,(h x (Qd5 hx)).2.1,(h x (Qd5 hx)).2.2,Qd5 hx⟩
theorem Q7r {p:Pallet} {l:List Shelf} (hb:OkS p l) {out:List Layer} {i:Int} (hi:0 ≤ i ∧ i < l.length) (h:∀ s ∈ out,LyI p l.length s):∀ s ∈ lyS p l out i,LyI p l.length s:=by
 obtain ⟨_,b1,b2,b3,_⟩:=Jal hb hi
 refine Q46 h (λs hs hf=>?_) ⟨by simp [Qu6],λj hj=>?_,?_,?_,?_⟩
 · unfold Jcc at hf
   simp only [Bool.and_eq_true,decide_eq_true_eq] at hf
   obtain ⟨s1,s2,s4,s5,s6⟩:=hs
   have m2:=Q1i s.fH (shA l i).fH
   refine ⟨by simp [Qu6],λj hj=>?_,?_,?_,?_⟩
   · simp only [Qu6,List.mem_append,List.mem_singleton] at hj
     rcases hj with hj | rfl
     · exact s2 j hj
     · exact hi
   · simp only [Qu6]; omega
   · simp only [Qu6]; omega
   · simp only [Qu6]; omega
 · simp only [Qu6,zLy,List.nil_append,List.mem_singleton] at hj
   rw [hj]; exact hi
 · simp only [Qu6,zLy]; omega
 · have:=Q1i 0 (shA l i).fH
   simp only [Qu6,zLy]; omega
 · simp only [Qu6,zLy]; omega
theorem Q8c {p:Pallet} {l:List Shelf} (hb:OkS p l):∀ (is:List Int) (out:List Layer),(∀ i ∈ is,0 ≤ i ∧ i < l.length) → (∀ s ∈ out,LyI p l.length s) → (∀ s ∈ is.foldl (lyS p l) out,LyI p l.length s) ∧ ((is.foldl (lyS p l) out).map (·.f9)).flatten = (out.map (·.f9)).flatten ++ is ∧ (is.foldl (lyS p l) out).length ≤ out.length + is.length
 | [],out,_,h=>⟨h,by simp,by simp⟩
 | i :: is,out,hi,h=>by
  rw [List.foldl_cons]
  obtain ⟨h1,h2,h3⟩:=Q8c hb is (lyS p l out i) (λj hj=>hi j (by simp [hj])) (Q7r hb (hi i (by simp)) h)
  have h4:((lyS p l out i).map (·.f9)).flatten = (out.map (·.f9)).flatten ++ [i]:=Qu1 (λs=>rfl) rfl
  have h5:(lyS p l out i).length ≤ out.length + 1:=Qw8 _ _ _ _
  refine ⟨h1,by rw [h2,h4]; simp,by simp; omega⟩
theorem Q5a {p:Pallet} {l:List Shelf} (hb:OkS p l):(∀ s ∈ lyM p l,LyI p l.length s) ∧ ((lyM p l).map (·.f9)).flatten = Qkd 0 l.length ∧ (lyM p l).length ≤ l.length:=by
 unfold lyM
 obtain ⟨h1,h2,h3⟩:=Q8c hb (Qkd 0 l.length) [] (λi hi=>by have:=Ql6.1 hi; omega) (by simp)
 refine ⟨h1,by simpa using h2,?_⟩
 rw [Qen] at h3
 simpa using h3
theorem Jiv {p:Pallet} {l:List Shelf} (h:OkS p l):(l.all λs=>okL p s.fD s.fH s.fV) = true:=by
 refine List.all_eq_true.2 λs hs=>?_
 unfold okL
 simp only [Bool.and_eq_true,Qdz]
 exact ⟨(h s hs).1,(h s hs).2.1,(h s hs).2.2⟩
theorem Jbk {fu:Nat} (hfu:2097153 ≤ fu) {p:Pallet} (hp:Qz2 p = true) {l:List Shelf} (hb:OkS p l) (hl:l.length ≤ 1000):Qoi fu p l = some (lyM p l):=by
 unfold Qoi lyM
 rw [Jie p l (by omega) (by omega),hp,Jiv hb,Qab,Bool.and_self,Bool.not_true,cond_false]
 obtain ⟨p1,p2,p3,p4⟩:=Q6i hp
 have L1:=Q9w (l.length:Int) (λn (o:List Layer) i=>Qbi fu p l n o i) (λxs o=>some (xs.foldl (lyS p l) o)) (λxs o=>(∀ s ∈ o,LyI p l.length s) ∧ ((o.map (·.f9)).flatten).length + xs.length ≤ 1000 ∧ o.length + xs.length ≤ 1000) (by omega) ?_ ?_ l.length fu [] 0 (by omega) (by omega) (by omega) ⟨by simp,by simp [Qen]; omega,by simp [Qen]; omega⟩
 · exact L1
 · intro n o i xs x0 x1 hd hI ih
   obtain ⟨i2,i3,i4⟩:=hI
   simp only [List.length_cons] at i3 i4
   obtain ⟨hbx,b1,b2,b3,_⟩:=Jal hb ⟨x0,x1⟩
   have hflat:((lyS p l o i).map (·.f9)).flatten = (o.map (·.f9)).flatten ++ [i]:=Qu1 (λs=>rfl) rfl
   have hlen:(lyS p l o i).length ≤ o.length + 1:=Qw8 _ _ _ _
   have ih':=ih (lyS p l o i) ⟨Q7r hb ⟨x0,x1⟩ i2,by rw [hflat,List.length_append,List.length_singleton]; omega,by omega⟩
   have J:∀ (o':List Layer) (x:Layer),o'.length ≤ 1000 → (x.f9.length ≤ 1000) → (0 ≤ x.fD ∧ x.fD ≤ 2000) → (0 ≤ x.fV ∧ x.fV ≤ 100000) → Qcy fu (Qbi fu p l n) i (shA l i) (o' ++ [x]) ((o'.length:Int) + 1) = Qbi fu p l n (o' ++ [Qu6 x i (shA l i)]) (w64 (i + 1)):=by
    intro o' x h1 h2 h3 h4
    unfold Qcy Qnf
    have e1:w64 ((o'.length:Int) + 1 - 1) = (o'.length:Int):=by rw [Qbp (by omega) (by omega)]; omega
    have e2:ix (o' ++ [x]) (o'.length:Int) = some x:=by rw [Qq2]; simp
    rw [e1,e2,Qab,ap1 (by simp; omega),Qab,ap1 (by simp; omega),Qab,Jbo,Qab,Qab,Qbp (n:=x.fD + _) (by omega) (by omega),Qbp (n:=x.fV + _) (by omega) (by omega)]
    have e3:∀ y:Layer,Qge (o' ++ [x]) (o'.length:Int) y = o' ++ [y]:=by intro y; simp [Qge]
    rw [e3]
    rfl
   simp only [Qbi.eq_2]
   unfold Qju
   rw [hd,cond_true,hbx,Qab,List.foldl_cons,← ih']
   by_cases he:o = []
   · subst he
     rw [Qcn (by simp),ap1 (by simp),Qab]
     have:=J [] zLy (by simp) (by simp [zLy]) (by simp [zLy]) (by simp [zLy])
     rw [Qbp (by simp) (by simp)]
     exact this
   · obtain ⟨s,e1,e2⟩:=Q26 he
     have hpl:=List.length_pos_iff.2 he
     have hsm':=List.mem_of_getLast? e1
     have hs:=i2 s hsm'
     have hsl':=Qvw (λs:Layer=>s.f9) o s hsm'
     obtain ⟨s1,s2,s4,s5,s6⟩:=hs
     have eS:lyS p l o i = bif Jcc p (shA l i) s then o.set (o.length - 1) (Qu6 s i (shA l i)) else o ++ [Qu6 zLy i (shA l i)]:=Q2c e1
     have eo:o = o.dropLast ++ [s]:=by
      have h1:=List.dropLast_concat_getLast he
      rw [List.getLast?_eq_some_getLast he] at e1
      rw [Option.some.inj e1] at h1
      exact h1.symm
     have e3:Qcy fu (Qbi fu p l n) i (shA l i) o (o.length:Int) = Qbi fu p l n (o.set (o.length - 1) (Qu6 s i (shA l i))) (w64 (i + 1)):=by
      obtain ⟨d,hd⟩:∃ d,o = d ++ [s]:=⟨_,eo⟩
      rw [hd] at i4 ⊢
      simp only [List.length_append,List.length_singleton] at i4
      have:=J d s (by omega) (by omega) (by omega) (by omega)
      rw [show (((d ++ [s]).length:Nat):Int) = (d.length:Int) + 1 by simp,this]
      congr 1
      simp
     have e4:Qcy fu (Qbi fu p l n) i (shA l i) (o ++ [zLy]) (w64 ((o.length:Int) + 1)) = Qbi fu p l n (o ++ [Qu6 zLy i (shA l i)]) (w64 (i + 1)):=by
      rw [Qbp (by omega) (by omega)]
      exact J o zLy (by omega) (by simp [zLy]) (by simp [zLy]) (by simp [zLy])
     rw [Qbp (n:=(o.length:Int) - 1) (by omega) (by omega),e2,Qab,Qbb (by simp; omega),Qab,Qbp (n:=s.fD + _) (by omega) (by omega),Qbp (n:=s.fV + _) (by omega) (by omega),ap1 (by simp; omega),Qab,e3]
     rw [show (⟨[],0,0,0⟩:Layer) = zLy from rfl,e4,eS]
     unfold Jcc
     by_cases c1:s.fD + (shA l i).fD ≤ p.fD
     · rw [Qbb (c:=decide (s.fD + (shA l i).fD > p.fD)) (by simp; omega),decide_eq_true c1]
       by_cases c2:s.fV + (shA l i).fV ≤ p.fV
       · rw [Qbb (c:=decide (s.fV + (shA l i).fV > p.fV)) (by simp; omega),decide_eq_true c2]; rfl
       · rw [Qcn (c:=decide (s.fV + (shA l i).fV > p.fV)) (by simp; omega),decide_eq_false c2]; rfl
     · rw [Qcn (c:=decide (s.fD + (shA l i).fD > p.fD)) (by simp; omega),decide_eq_false c1]; rfl
 · intro n o i hd _
   simp only [Qbi.eq_2]
   unfold Qju
   rw [hd,cond_false]; rfl
def lyA (l:List Layer) (i:Int):Layer:=(ix l i).getD zLy
def zLd:Load:=⟨[],0,0⟩
def Qwi (x:Load) (i:Int) (s:Layer):Load:=⟨x.ft ++ [i],x.fH + s.fH,x.fV + s.fV⟩
def Jbg (p:Pallet) (s:Layer) (x:Load):Bool:=decide (x.fH + s.fH ≤ p.fH) && decide (x.fV + s.fV ≤ p.fV)
def ldS (p:Pallet) (l:List Layer) (out:List Load) (i:Int):List Load:=nxG (Jbg p (lyA l i)) (λs=>Qwi s i (lyA l i)) zLd out
def ldM (p:Pallet) (l:List Layer):List Load:=(Qkd 0 l.length).foldl (ldS p l) []
structure LdI (p:Pallet) (n:Nat) (s:Load):Prop where
 ne:s.ft ≠ []
 inn:∀ i ∈ s.ft,0 ≤ i ∧ i < n
 h:1 ≤ s.fH ∧ s.fH ≤ p.fH
 g:1 ≤ s.fV ∧ s.fV ≤ p.fV
def OkY (p:Pallet) (l:List Layer):Prop:=∀ s ∈ l,(1 ≤ s.fD ∧ s.fD ≤ p.fD) ∧ (1 ≤ s.fH ∧ s.fH ≤ p.fH) ∧ (1 ≤ s.fV ∧ s.fV ≤ p.fV)
theorem Q89 {p:Pallet} {l:List Layer} (h:OkY p l) {i:Int} (hi:0 ≤ i ∧ i < l.length):ix l i = some (lyA l i) ∧ (1 ≤ (lyA l i).fD ∧ (lyA l i).fD ≤ p.fD) ∧ (1 ≤ (lyA l i).fH ∧ (lyA l i).fH ≤ p.fH) ∧ (1 ≤ (lyA l i).fV ∧ (lyA l i).fV ≤ p.fV) ∧ lyA l i ∈ l:=by
 obtain ⟨x,hx⟩:=Q9i (l:=l) hi.1 hi.2
 have e:lyA l i = x:=by unfold lyA; rw [hx]; rfl
 rw [e]
 exact ⟨hx,(h x (Qd5 hx)).1,(h x (Qd5 hx)).2.1,(h x (Qd5 hx)).2.2,Qd5 hx⟩
theorem Q9a {p:Pallet} {l:List Layer} (hb:OkY p l) {out:List Load} {i:Int} (hi:0 ≤ i ∧ i < l.length) (h:∀ s ∈ out,LdI p l.length s):∀ s ∈ ldS p l out i,LdI p l.length s:=by
 obtain ⟨_,b1,b2,b3,_⟩:=Q89 hb hi
 refine Q46 h (λs hs hf=>?_) ⟨by simp [Qwi],λj hj=>?_,?_,?_⟩
 · unfold Jbg at hf
   simp only [Bool.and_eq_true,decide_eq_true_eq] at hf
   obtain ⟨s1,s2,s5,s6⟩:=hs
   refine ⟨by simp [Qwi],λj hj=>?_,?_,?_⟩
   · simp only [Qwi,List.mem_append,List.mem_singleton] at hj
     rcases hj with hj | rfl
     · exact s2 j hj
     · exact hi
   · simp only [Qwi]; omega
   · simp only [Qwi]; omega
 · simp only [Qwi,zLd,List.nil_append,List.mem_singleton] at hj
   rw [hj]; exact hi
 · simp only [Qwi,zLd]; omega
 · simp only [Qwi,zLd]; omega
theorem Jap {p:Pallet} {l:List Layer} (hb:OkY p l):∀ (is:List Int) (out:List Load),(∀ i ∈ is,0 ≤ i ∧ i < l.length) → (∀ s ∈ out,LdI p l.length s) → (∀ s ∈ is.foldl (ldS p l) out,LdI p l.length s) ∧ ((is.foldl (ldS p l) out).map (·.ft)).flatten = (out.map (·.ft)).flatten ++ is ∧ (is.foldl (ldS p l) out).length ≤ out.length + is.length
 | [],out,_,h=>⟨h,by simp,by simp⟩
 | i :: is,out,hi,h=>by
  rw [List.foldl_cons]
  obtain ⟨h1,h2,h3⟩:=Jap hb is (ldS p l out i) (λj hj=>hi j (by simp [hj])) (Q9a hb (hi i (by simp)) h)
  have h4:((ldS p l out i).map (·.ft)).flatten = (out.map (·.ft)).flatten ++ [i]:=Qu1 (λs=>rfl) rfl
  have h5:(ldS p l out i).length ≤ out.length + 1:=Qw8 _ _ _ _
  refine ⟨h1,by rw [h2,h4]; simp,by simp; omega⟩
theorem Q95 {p:Pallet} {l:List Layer} (hb:OkY p l):(∀ s ∈ ldM p l,LdI p l.length s) ∧ ((ldM p l).map (·.ft)).flatten = Qkd 0 l.length ∧ (ldM p l).length ≤ l.length:=by
 unfold ldM
 obtain ⟨h1,h2,h3⟩:=Jap hb (Qkd 0 l.length) [] (λi hi=>by have:=Ql6.1 hi; omega) (by simp)
 refine ⟨h1,by simpa using h2,?_⟩
 rw [Qen] at h3
 simpa using h3
theorem Jip {p:Pallet} {l:List Layer} (h:OkY p l):(l.all λs=>okL p s.fD s.fH s.fV) = true:=by
 refine List.all_eq_true.2 λs hs=>?_
 unfold okL
 simp only [Bool.and_eq_true,Qdz]
 exact ⟨(h s hs).1,(h s hs).2.1,(h s hs).2.2⟩
theorem Jej {fu:Nat} (hfu:2097153 ≤ fu) {p:Pallet} (hp:Qz2 p = true) {l:List Layer} (hb:OkY p l) (hl:l.length ≤ 1000):Qp0 fu p l = some (ldM p l):=by
 unfold Qp0 ldM
 rw [Jin p l (by omega) (by omega),hp,Jip hb,Qab,Bool.and_self,Bool.not_true,cond_false]
 obtain ⟨p1,p2,p3,p4⟩:=Q6i hp
 have L1:=Q9w (l.length:Int) (λn (o:List Load) i=>Qbr fu p l n o i) (λxs o=>some (xs.foldl (ldS p l) o)) (λxs o=>(∀ s ∈ o,LdI p l.length s) ∧ ((o.map (·.ft)).flatten).length + xs.length ≤ 1000 ∧ o.length + xs.length ≤ 1000) (by omega) ?_ ?_ l.length fu [] 0 (by omega) (by omega) (by omega) ⟨by simp,by simp [Qen]; omega,by simp [Qen]; omega⟩
 · exact L1
 · intro n o i xs x0 x1 hd hI ih
   obtain ⟨i2,i3,i4⟩:=hI
   simp only [List.length_cons] at i3 i4
   obtain ⟨hbx,b1,b2,b3,_⟩:=Q89 hb ⟨x0,x1⟩
   have hflat:((ldS p l o i).map (·.ft)).flatten = (o.map (·.ft)).flatten ++ [i]:=Qu1 (λs=>rfl) rfl
   have hlen:(ldS p l o i).length ≤ o.length + 1:=Qw8 _ _ _ _
   have ih':=ih (ldS p l o i) ⟨Q9a hb ⟨x0,x1⟩ i2,by rw [hflat,List.length_append,List.length_singleton]; omega,by omega⟩
   have J:∀ (o':List Load) (x:Load),o'.length ≤ 1000 → (x.ft.length ≤ 1000) → (0 ≤ x.fH ∧ x.fH ≤ 2000) → (0 ≤ x.fV ∧ x.fV ≤ 100000) → Qdb fu (Qbr fu p l n) i (lyA l i) (o' ++ [x]) ((o'.length:Int) + 1) = Qbr fu p l n (o' ++ [Qwi x i (lyA l i)]) (w64 (i + 1)):=by
    intro o' x h1 h2 h3 h4
    unfold Qdb Qpj
    have e1:w64 ((o'.length:Int) + 1 - 1) = (o'.length:Int):=by rw [Qbp (by omega) (by omega)]; omega
    have e2:ix (o' ++ [x]) (o'.length:Int) = some x:=by rw [Qq2]; simp
    rw [e1,e2,Qab,ap1 (by simp; omega),Qab,ap1 (by simp; omega),Qab,Qab,Qbp (n:=x.fH + _) (by omega) (by omega),Qbp (n:=x.fV + _) (by omega) (by omega)]
    have e3:∀ y:Load,Qge (o' ++ [x]) (o'.length:Int) y = o' ++ [y]:=by intro y; simp [Qge]
    rw [e3]
    rfl
   simp only [Qbr.eq_2]
   unfold Ql9
   rw [hd,cond_true,hbx,Qab,List.foldl_cons,← ih']
   by_cases he:o = []
   · subst he
     rw [Qcn (by simp),ap1 (by simp),Qab]
     have:=J [] zLd (by simp) (by simp [zLd]) (by simp [zLd]) (by simp [zLd])
     rw [Qbp (by simp) (by simp)]
     exact this
   · obtain ⟨s,e1,e2⟩:=Q26 he
     have hpl:=List.length_pos_iff.2 he
     have hsm':=List.mem_of_getLast? e1
     have hs:=i2 s hsm'
     have hsl':=Qvw (λs:Load=>s.ft) o s hsm'
     obtain ⟨s1,s2,s5,s6⟩:=hs
     have eS:ldS p l o i = bif Jbg p (lyA l i) s then o.set (o.length - 1) (Qwi s i (lyA l i)) else o ++ [Qwi zLd i (lyA l i)]:=Q2c e1
     have eo:o = o.dropLast ++ [s]:=by
      have h1:=List.dropLast_concat_getLast he
      rw [List.getLast?_eq_some_getLast he] at e1
      rw [Option.some.inj e1] at h1
      exact h1.symm
     have e3:Qdb fu (Qbr fu p l n) i (lyA l i) o (o.length:Int) = Qbr fu p l n (o.set (o.length - 1) (Qwi s i (lyA l i))) (w64 (i + 1)):=by
      obtain ⟨d,hd⟩:∃ d,o = d ++ [s]:=⟨_,eo⟩
      rw [hd] at i4 ⊢
      simp only [List.length_append,List.length_singleton] at i4
      have:=J d s (by omega) (by omega) (by omega) (by omega)
      rw [show (((d ++ [s]).length:Nat):Int) = (d.length:Int) + 1 by simp,this]
      congr 1
      simp
     have e4:Qdb fu (Qbr fu p l n) i (lyA l i) (o ++ [zLd]) (w64 ((o.length:Int) + 1)) = Qbr fu p l n (o ++ [Qwi zLd i (lyA l i)]) (w64 (i + 1)):=by
      rw [Qbp (by omega) (by omega)]
      exact J o zLd (by omega) (by simp [zLd]) (by simp [zLd]) (by simp [zLd])
     rw [Qbp (n:=(o.length:Int) - 1) (by omega) (by omega),e2,Qab,Qbb (by simp; omega),Qab,Qbp (n:=s.fH + _) (by omega) (by omega),Qbp (n:=s.fV + _) (by omega) (by omega),ap1 (by simp; omega),Qab,e3]
     rw [show (⟨[],0,0⟩:Load) = zLd from rfl,e4,eS]
     unfold Jbg
     by_cases c1:s.fH + (lyA l i).fH ≤ p.fH
     · rw [Qbb (c:=decide (s.fH + (lyA l i).fH > p.fH)) (by simp; omega),decide_eq_true c1]
       by_cases c2:s.fV + (lyA l i).fV ≤ p.fV
       · rw [Qbb (c:=decide (s.fV + (lyA l i).fV > p.fV)) (by simp; omega),decide_eq_true c2]; rfl
       · rw [Qcn (c:=decide (s.fV + (lyA l i).fV > p.fV)) (by simp; omega),decide_eq_false c2]; rfl
     · rw [Qcn (c:=decide (s.fH + (lyA l i).fH > p.fH)) (by simp; omega),decide_eq_false c1]; rfl
 · intro n o i hd _
   simp only [Qbr.eq_2]
   unfold Ql9
   rw [hd,cond_false]; rfl
end Go.Proofs.YtpcmapfabndggaaGreat
/- The spots of boxes, by spec. -/
namespace Go.Proofs.YtpcmapfabndggaaGreat
open Go
open Enc (rd ow)
open Arg (argv)
open Ret (retv)
open Wf (wf)
def zSp:Spot:=⟨0,0,0,0⟩
def ldA (l:List Load) (i:Int):Load:=(ix l i).getD zLd
def spB (l:List Box) (o y z:Int) (is:List Int) (s:List Spot × Int):List Spot × Int:=is.foldl (λs b=>(Qge s.1 b ⟨o,s.2,y,z⟩,s.2 + (bxA l b).fW)) s
def spS (l:List Box) (sh:List Shelf) (o z:Int) (js:List Int) (s:List Spot × Int):List Spot × Int:=js.foldl (λs j=>((spB l o s.2 z (shA sh j).qJ (s.1,0)).1,s.2 + (shA sh j).fD)) s
def spY (l:List Box) (sh:List Shelf) (ly:List Layer) (o:Int) (is:List Int) (s:List Spot × Int):List Spot × Int:=is.foldl (λs i=>((spS l sh o s.2 (lyA ly i).f9 (s.1,0)).1,s.2 + (lyA ly i).fH)) s
def spO (l:List Box) (sh:List Shelf) (ly:List Layer) (ld:List Load) (os:List Int) (out:List Spot):List Spot:=os.foldl (λout o=>(spY l sh ly o (ldA ld o).ft (out,0)).1) out
def spM (p:Pallet) (l:List Box):List Spot:=bif Q3a p l then spO l (shM p l) (lyM p (shM p l)) (ldM p (lyM p (shM p l))) (Qkd 0 (ldM p (lyM p (shM p l))).length) (List.replicate l.length zSp) else []
theorem Q3r {α:Type} (l:List α) (i:Int) (y:α):(Qge l i y).length = l.length:=by simp [Qge]
theorem Q4n (l:List Box) (o y z:Int):∀ (is:List Int) (s:List Spot × Int),(spB l o y z is s).1.length = s.1.length
 | [],_=>rfl
 | i :: is,s=>by
  have:=Q4n l o y z is (Qge s.1 i ⟨o,s.2,y,z⟩,s.2 + (bxA l i).fW)
  rw [Q3r] at this
  exact this
theorem Q4l (l:List Box) (sh:List Shelf) (o z:Int):∀ (is:List Int) (s:List Spot × Int),(spS l sh o z is s).1.length = s.1.length
 | [],_=>rfl
 | i :: is,s=>by
  have:=Q4l l sh o z is ((spB l o s.2 z (shA sh i).qJ (s.1,0)).1,s.2 + (shA sh i).fD)
  rw [Q4n] at this
  exact this
theorem Q49 (l:List Box) (sh:List Shelf) (ly:List Layer) (o:Int):∀ (is:List Int) (s:List Spot × Int),(spY l sh ly o is s).1.length = s.1.length
 | [],_=>rfl
 | i :: is,s=>by
  have:=Q49 l sh ly o is ((spS l sh o s.2 (lyA ly i).f9 (s.1,0)).1,s.2 + (lyA ly i).fH)
  rw [Q4l] at this
  exact this
theorem Jaa (l:List Box) (sh:List Shelf) (ly:List Layer) (ld:List Load):∀ (os:List Int) (out:List Spot),(spO l sh ly ld os out).length = out.length
 | [],_=>rfl
 | o :: os,out=>by
  have:=Jaa l sh ly ld os (spY l sh ly o (ldA ld o).ft (out,0)).1
  rw [Q49] at this
  exact this
theorem Q9z {p:Pallet} {l:List Box} (h:Q3a p l = true):(spM p l).length = l.length:=by
 unfold spM
 rw [h,cond_true,Jaa,List.length_replicate]
theorem Jc3 {p:Pallet} {l:List Box} (h:Q3a p l = true):OkS p (shM p l):=λs hs=>by
 have:=(Q48 h).1 s hs
 exact ⟨this.d,this.h,this.g⟩
theorem Jdc {p:Pallet} {l:List Shelf} (h:OkS p l):OkY p (lyM p l):=λs hs=>by
 have:=(Q5a h).1 s hs
 exact ⟨this.d,this.h,this.g⟩
theorem Jdw {fu:Nat} (hfu:2097153 ≤ fu) (p:Pallet) (l:List Box) (hl:l.length ≤ 1000):Qm1 fu p l = some (spM p l):=by
 unfold Qm1 spM
 rw [Jfa (by omega),Qab,Jgo p l (by omega) (by omega),Qab]
 cases hb:Q3a p l
 · rfl
 · obtain ⟨a1,a2,a3⟩:=Q48 hb
   have hS:=Jc3 hb
   obtain ⟨y1,y2,y3⟩:=Q5a hS
   have hY:=Jdc hS
   obtain ⟨d1,d2,d3⟩:=Q95 hY
   have hpb:=Q9j hb
   obtain ⟨q1,q2,q3,q4⟩:=Q6i hpb
   rw [Bool.not_true,cond_false,cond_true,Q8w hfu p l hl,Qab,Jbk hfu hpb hS (by omega),Qab,Jej hfu hpb hY (by omega),Qab]
   have f1:∀ s ∈ shM p l,s.qJ.length ≤ 1000:=λs hs=>by
    have:=Qvw (λs:Shelf=>s.qJ) _ s hs
    rw [a2,Qvs] at this; omega
   have f2:∀ s ∈ lyM p (shM p l),s.f9.length ≤ 1000:=λs hs=>by
    have:=Qvw (λs:Layer=>s.f9) _ s hs
    rw [y2,Qen] at this; omega
   have f3:∀ s ∈ ldM p (lyM p (shM p l)),s.ft.length ≤ 1000:=λs hs=>by
    have:=Qvw (λs:Load=>s.ft) _ s hs
    rw [d2,Qen] at this; omega
   generalize ldM p (lyM p (shM p l)) = ld at d1 d3 f3 ⊢
   generalize lyM p (shM p l) = ly at y1 y3 hY d1 d3 f2 ⊢
   generalize shM p l = sh at a1 a3 hS y1 y3 f1 ⊢
   have L4:=Q9w (ld.length:Int) (λn (out:List Spot) o=>Qbk fu l sh ly ld n out o) (λos out=>some (spO l sh ly ld os out)) (λos out=>out.length = l.length) (by omega) ?_ ?_ ld.length fu (List.replicate l.length zSp) 0 (by omega) (by omega) (by omega) (by simp)
   · exact L4
   · intro n out o os o0 o1 hd hI ih
     obtain ⟨x,hx⟩:=Q9i (l:=ld) o0 o1
     have ex:ldA ld o = x:=by unfold ldA; rw [hx]; rfl
     have hxm:=d1 x (Qd5 hx)
     have hxl:=f3 x (Qd5 hx)
     simp only [Qbk.eq_2]
     unfold Qlw
     rw [hd,cond_true]
     have L3:=lpI x.ft (λm (s:List Spot × Int) i=>Qb9 fu (Qbk fu l sh ly ld n) l sh ly ld o m s.1 s.2 i) (λis s=>Qbk fu l sh ly ld n (spY l sh ly o is s).1 (w64 (o + 1))) (λis s=>s.1.length = l.length ∧ (∀ i ∈ is,0 ≤ i ∧ i < ly.length) ∧ 0 ≤ s.2 ∧ s.2 + 2000 * is.length ≤ 2000000) (by omega) ?_ ?_ fu (out,0) ⟨hI,hxm.inn,by simp,by simp; omega⟩ (by omega)
     · refine L3.trans ?_
       rw [ih _ (by rw [Q49]; exact hI)]
       simp only [spO,List.foldl_cons,ex]
     · intro m ⟨out,z⟩ i j is hj hd hI ih
       obtain ⟨i1,i2,i3,i4⟩:out.length = l.length ∧ (∀ i ∈ j :: is,0 ≤ i ∧ i < ly.length) ∧ 0 ≤ z ∧ z + 2000 * ((j :: is).length:Int) ≤ 2000000:=hI
       simp only [List.length_cons] at i4
       obtain ⟨hly,t1,t2,t3,hmem⟩:=Q89 hY (i2 j (by simp))
       have hyi:=y1 _ hmem
       have hyl:=f2 _ hmem
       simp only [Qb9.eq_2]
       unfold Qlp
       rw [hx,Qab,hd,cond_true,Qab,hj,Qab,hly,Qab]
       have L2:=lpI (lyA ly j).f9 (λq (s:List Spot × Int) k=>Qda fu (Qb9 fu (Qbk fu l sh ly ld n) l sh ly ld o m) l sh o z i (lyA ly j) q s.1 s.2 k) (λks s=>Qb9 fu (Qbk fu l sh ly ld n) l sh ly ld o m (spS l sh o z ks s).1 (w64 (z + (lyA ly j).fH)) (w64 (i + 1))) (λks s=>s.1.length = l.length ∧ (∀ i ∈ ks,0 ≤ i ∧ i < sh.length) ∧ 0 ≤ s.2 ∧ s.2 + 2000 * ks.length ≤ 2000000) (by omega) ?_ ?_ fu (out,0) ⟨i1,hyi.inn,by simp,by simp; omega⟩ (by omega)
       · refine L2.trans ?_
         rw [Qbp (n:=z + _) (by omega) (by omega)]
         exact ih ((spS l sh o z (lyA ly j).f9 (out,0)).1,z + (lyA ly j).fH) ⟨by rw [Q4l]; exact i1,λi hi=>i2 i (by simp [hi]),by simp; omega,by simp; omega⟩
       · intro q ⟨out,y⟩ k b ks hb2 hd hI ih
         obtain ⟨i1,i2,i3,i4⟩:out.length = l.length ∧ (∀ i ∈ b :: ks,0 ≤ i ∧ i < sh.length) ∧ 0 ≤ y ∧ y + 2000 * ((b :: ks).length:Int) ≤ 2000000:=hI
         simp only [List.length_cons] at i4
         obtain ⟨hsh,u1,u2,u3,hmem2⟩:=Jal hS (i2 b (by simp))
         have hsi:=a1 _ hmem2
         have hsl:=f1 _ hmem2
         simp only [Qda.eq_2]
         unfold Ql4
         rw [hd,cond_true,hb2,Qab,hsh,Qab]
         have L1:=lpI (shA sh b).qJ (λq' (s:List Spot × Int) k'=>Qgf fu (Qda fu (Qb9 fu (Qbk fu l sh ly ld n) l sh ly ld o m) l sh o z i (lyA ly j) q) l o z y k (shA sh b) q' s.1 s.2 k') (λbs s=>Qda fu (Qb9 fu (Qbk fu l sh ly ld n) l sh ly ld o m) l sh o z i (lyA ly j) q (spB l o y z bs s).1 (w64 (y + (shA sh b).fD)) (w64 (k + 1))) (λbs s=>s.1.length = l.length ∧ (∀ i ∈ bs,0 ≤ i ∧ i < l.length) ∧ 0 ≤ s.2 ∧ s.2 + 2000 * bs.length ≤ 2000000) (by omega) ?_ ?_ fu (out,0) ⟨i1,hsi.inn,by simp,by simp; omega⟩ (by omega)
         · refine L1.trans ?_
           rw [Qbp (n:=y + _) (by omega) (by omega)]
           exact ih ((spB l o y z (shA sh b).qJ (out,0)).1,y + (shA sh b).fD) ⟨by rw [Q4n]; exact i1,λi hi=>i2 i (by simp [hi]),by simp; omega,by simp; omega⟩
         · intro q' ⟨out,x'⟩ k' c bs hc hd hI ih
           obtain ⟨i1,i2,i3,i4⟩:out.length = l.length ∧ (∀ i ∈ c :: bs,0 ≤ i ∧ i < l.length) ∧ 0 ≤ x' ∧ x' + 2000 * ((c :: bs).length:Int) ≤ 2000000:=hI
           simp only [List.length_cons] at i4
           have hcr:=i2 c (by simp)
           obtain ⟨hbx,v1,v2,v3,v4⟩:=Jah hb hcr
           obtain ⟨sp,hsp⟩:=Q9i (l:=out) hcr.1 (by omega)
           simp only [Qgf.eq_2]
           unfold Qlj
           rw [hd,cond_true,hc,Qab,hsp,Qab,Qab,hbx,Qab,Qbp (n:=x' + _) (by omega) (by omega)]
           exact ih (Qge out c ⟨o,x',y,z⟩,x' + (bxA l c).fW) ⟨by rw [Q3r]; exact i1,λi hi=>i2 i (by simp [hi]),by simp; omega,by simp; omega⟩
         · intro q' ⟨out,x'⟩ k' hd _
           simp only [Qgf.eq_2]
           unfold Qlj
           rw [hd,cond_false]; rfl
       · intro q ⟨out,y⟩ k hd _
         simp only [Qda.eq_2]
         unfold Ql4
         rw [hd,cond_false]; rfl
     · intro m ⟨out,z⟩ i hd _
       simp only [Qb9.eq_2]
       unfold Qlp
       rw [hx,Qab,hd,cond_false]; rfl
   · intro n out o hd _
     simp only [Qbk.eq_2]
     unfold Qlw
     rw [hd,cond_false]; rfl
def Ja2 (n:Int) (out:List Spot):Prop:=∀ s ∈ out,0 ≤ s.fJ ∧ s.fJ ≤ n
theorem Jbn {n:Int} {out:List Spot} {i:Int} {s:Spot} (h:Ja2 n out) (hs:0 ≤ s.fJ ∧ s.fJ ≤ n):Ja2 n (Qge out i s):=by
 intro t ht
 unfold Qge at ht
 rcases List.mem_or_eq_of_mem_set ht with ht | rfl
 · exact h t ht
 · exact hs
theorem Q9t {n:Int} (l:List Box) (o y z:Int) (ho:0 ≤ o ∧ o ≤ n):∀ (is:List Int) (s:List Spot × Int),Ja2 n s.1 → Ja2 n (spB l o y z is s).1
 | [],_,h=>h
 | i :: is,s,h=>Q9t l o y z ho is (Qge s.1 i ⟨o,s.2,y,z⟩,s.2 + (bxA l i).fW) (Jbn h ho)
theorem Q8l {n:Int} (l:List Box) (sh:List Shelf) (o z:Int) (ho:0 ≤ o ∧ o ≤ n):∀ (is:List Int) (s:List Spot × Int),Ja2 n s.1 → Ja2 n (spS l sh o z is s).1
 | [],_,h=>h
 | i :: is,s,h=>Q8l l sh o z ho is ((spB l o s.2 z (shA sh i).qJ (s.1,0)).1,s.2 + (shA sh i).fD) (Q9t l o s.2 z ho _ (s.1,0) h)
theorem Q8t {n:Int} (l:List Box) (sh:List Shelf) (ly:List Layer) (o:Int) (ho:0 ≤ o ∧ o ≤ n):∀ (is:List Int) (s:List Spot × Int),Ja2 n s.1 → Ja2 n (spY l sh ly o is s).1
 | [],_,h=>h
 | i :: is,s,h=>Q8t l sh ly o ho is ((spS l sh o s.2 (lyA ly i).f9 (s.1,0)).1,s.2 + (lyA ly i).fH) (Q8l l sh o s.2 ho _ (s.1,0) h)
theorem Q73 {n:Int} (l:List Box) (sh:List Shelf) (ly:List Layer) (ld:List Load):∀ (os:List Int) (out:List Spot),(∀ o ∈ os,0 ≤ o ∧ o ≤ n) → Ja2 n out → Ja2 n (spO l sh ly ld os out)
 | [],_,_,h=>h
 | o :: os,out,ho,h=>Q73 l sh ly ld os (spY l sh ly o (ldA ld o).ft (out,0)).1 (λq hq=>ho q (by simp [hq])) (Q8t l sh ly o (ho o (by simp)) _ (out,0) h)
theorem Jgk {p:Pallet} {l:List Box} (hl:l.length ≤ 1000):∀ s ∈ spM p l,0 ≤ s.fJ ∧ s.fJ ≤ 1000:=by
 unfold spM
 cases hb:Q3a p l
 · simp
 · have a3:=(Q48 hb).2.2
   have hS:=Jc3 hb
   have y3:=(Q5a hS).2.2
   have d3:=(Q95 (Jdc hS)).2.2
   rw [cond_true]
   refine Q73 l _ _ _ _ _ (λo ho=>?_) λs hs=>?_
   · have:=Ql6.1 ho; omega
   · rw [(List.mem_replicate.1 hs).2]; simp [zSp]
end Go.Proofs.YtpcmapfabndggaaGreat
/- What the ways of packing keep: every unit once, every carton within the master's. -/
namespace Go.Proofs.YtpcmapfabndggaaGreat
open Go
open Enc (rd ow)
open Arg (argv)
open Ret (retv)
open Wf (wf)
def Jfh:List Int → Int
 | []=>1
 | x :: xs=>x * Jfh xs
theorem Jby {a b:List Int} (h:a.Perm b):Jfh a = Jfh b:=by
 induction h with
 | nil=>rfl
 | cons x _ ih=>simp only [Jfh,ih]
 | swap x y l=>simp only [Jfh,← Int.mul_assoc]; rw [Int.mul_comm x y]
 | trans _ _ h1 h2=>rw [h1,h2]
theorem Q9m (a b c:Int):(sid a b c).1 * ((sid a b c).2.1 * (sid a b c).2.2) = a * b * c:=by
 have h:=Q8u a b c
 unfold Q13 at h
 simp only [List.length_cons,List.length_nil] at h
 rw [if_pos (by omega)] at h
 have hp:=List.mergeSort_perm [a,b,c] λx y=>decide (x ≤ y)
 rw [Option.some.inj h] at hp
 have:=Jby hp
 simp only [Jfh,Int.mul_one] at this
 rw [this,Int.mul_assoc]
theorem Jg9 {a b c m:Int} (ha:m ≤ a) (hb:m ≤ b) (hc:m ≤ c):m ≤ (sid a b c).1:=by
 unfold sid
 simp only
 split <;> split <;> omega
theorem Jds {x:Item} {t:Typ} (hx:Qxh x = true) (ht:Q15 t = true) (h:Q04 x t = true):Q8d x ≤ Jaz t ∧ x.fV ≤ t.fV:=by
 simp only [Qxh,Bool.and_eq_true,Qdz] at hx
 simp only [Q15,Bool.and_eq_true,Qdz] at ht
 simp only [Q04,Bool.and_eq_true,decide_eq_true_eq] at h
 obtain ⟨⟨⟨h1,h2⟩,h3⟩,h4⟩:=h
 refine ⟨?_,h4⟩
 have e1:Q8d x = x.fW * x.fH * x.fD:=by
  unfold Q8d Q6s
  rw [show (inb x.fW 0 2000 && (inb x.fH 0 2000 && inb x.fD 0 2000)) = true by simp; omega,cond_true]
 have e2:Jaz t = t.fW * t.fH * t.fD:=by
  unfold Jaz Q6s
  rw [show (inb t.fW 0 2000 && (inb t.fH 0 2000 && inb t.fD 0 2000)) = true by simp; omega,cond_true]
 rw [e1,e2,← Q9m x.fW x.fH x.fD,← Q9m t.fW t.fH t.fD]
 have p1:1 ≤ (sid x.fW x.fH x.fD).1:=Jg9 (by omega) (by omega) (by omega)
 have s1:=Q1h x.fW x.fH x.fD
 have s2:=Q1h t.fW t.fH t.fD
 refine Int.mul_le_mul h1 ?_ (Int.mul_nonneg (by omega) (by omega)) (by omega)
 exact Int.mul_le_mul h2 h3 (by omega) (by omega)
theorem Q21 {r:Request} {u:Int} (h:0 ≤ u ∧ u < (Qi0 r).length):Quu r u ∈ r.fG:=(Q4i (Qvv h)).2
theorem Q5j {r:Request} {u:Int} (h:0 ≤ u ∧ u < (Qi0 r).length):Qh9 r = 0:=(Q4i (Qvv h)).1
theorem Q9k {r:Request} (hc:Qh9 r = 0):Qtn r r.fP = some (Qyl r) ∧ Qyl r ∈ r.fT ∧ Q15 (Qyl r) = true:=by
 have h:=(Qfv hc).2.1
 unfold Jac at h
 simp only [Bool.and_eq_true] at h
 obtain ⟨t,ht⟩:=Option.isSome_iff_exists.1 h.1.2
 have e:Qyl r = t:=by unfold Qyl; rw [ht]; rfl
 have hm:t ∈ r.fT:=List.mem_of_find?_eq_some ht
 rw [e]
 exact ⟨ht,hm,Qyv (Qfv hc).1 t hm⟩
theorem Jak {r:Request} {u:Int} (h:0 ≤ u ∧ u < (Qi0 r).length):Qz6 r [u] = Q8d (Quu r u) ∧ Qv6 r [u] = (Quu r u).fV:=by
 unfold Qz6 Qv6 Qxv
 simp [List.filterMap_cons,Qvv h]
theorem Q7z {r:Request} {u:Int} (h:0 ≤ u ∧ u < (Qi0 r).length):Q4s r [u] (Qyl r) = true:=by
 have hc:=Q5j h
 have hz:=Qfv hc
 have hm:=Q21 h
 obtain ⟨h1,h2⟩:=Jds ((Qs1 hz.1).1 _ hm) (Q9k hc).2.2 (hz.2.2.2.1 _ hm)
 unfold Q4s
 rw [(Jak h).1,(Jak h).2,Bool.and_eq_true,decide_eq_true_iff,decide_eq_true_iff]
 exact ⟨h1,h2⟩
def Qc (r:Request) (us:List Int) (l:List Int):Prop:=l ≠ [] ∧ (∀ u ∈ l,u ∈ us) ∧ Q4s r l (Qyl r) = true
theorem Jgy {r:Request} {us:List Int} {out:List (List Int)} {u:Int} (h:∀ l ∈ out,Qc r us l) (hu:u ∈ us) (hr:0 ≤ u ∧ u < (Qi0 r).length):∀ l ∈ Jgx r out u,Qc r us l:=by
 have hn:Qc r us [u]:=⟨by simp,λv hv=>by rw [List.mem_singleton.1 hv]; exact hu,Q7z hr⟩
 intro l hl
 unfold Jgx Jfi at hl
 split at hl
 · rename_i i hi
   obtain ⟨x,hx,hg⟩:=Qvr hi
   rw [hx] at hl
   rcases List.mem_or_eq_of_mem_set hl with hl | rfl
   · exact h l hl
   · have hq:=h x (List.mem_of_getElem? hx)
     refine ⟨by simp,λv hv=>?_,hg⟩
     rcases List.mem_append.1 hv with hv | hv
     · exact hq.2.1 v hv
     · rw [List.mem_singleton.1 hv]; exact hu
 · rcases List.mem_append.1 hl with hl | hl
   · exact h l hl
   · rw [List.mem_singleton.1 hl]; exact hn
theorem Jf4 {r:Request} {us:List Int} {out:List (List Int)} {u:Int} (h:∀ l ∈ out,Qc r us l) (hu:u ∈ us) (hr:0 ≤ u ∧ u < (Qi0 r).length):∀ l ∈ Jay r out u,Qc r us l:=by
 have hn:Qc r us [u]:=⟨by simp,λv hv=>by rw [List.mem_singleton.1 hv]; exact hu,Q7z hr⟩
 intro l hl
 cases hlast:out.getLast? with
 | none =>
  unfold Jay at hl
  rw [hlast] at hl
  rw [List.mem_singleton.1 hl]; exact hn
 | some x =>
  rw [Q35 u hlast] at hl
  have hq:=h x (List.mem_of_getLast? hlast)
  cases hg:Q7b r u x
  · rw [hg,cond_false] at hl
    rcases List.mem_append.1 hl with hl | hl
    · exact h l hl
    · rw [List.mem_singleton.1 hl]; exact hn
  · rw [hg,cond_true] at hl
    rcases List.mem_or_eq_of_mem_set hl with hl | rfl
    · exact h l hl
    · refine ⟨by simp,λv hv=>?_,hg⟩
      rcases List.mem_append.1 hv with hv | hv
      · exact hq.2.1 v hv
      · rw [List.mem_singleton.1 hv]; exact hu
theorem Q86 {r:Request} {us:List Int} {F:List (List Int) → Int → List (List Int)} (hF:∀ out u,(∀ l ∈ out,Qc r us l) → u ∈ us → (0 ≤ u ∧ u < (Qi0 r).length) → ∀ l ∈ F out u,Qc r us l):∀ (vs:List Int) (out:List (List Int)),(∀ u ∈ vs,u ∈ us ∧ 0 ≤ u ∧ u < (Qi0 r).length) → (∀ l ∈ out,Qc r us l) → ∀ l ∈ vs.foldl F out,Qc r us l
 | [],out,_,h=>h
 | v :: vs,out,hv,h=>by
  rw [List.foldl_cons]
  have h1:=hv v (by simp)
  exact Q86 hF vs _ (λu hu=>hv u (by simp [hu])) (hF out v h h1.1 h1.2)
theorem Q7s (r:Request) (us:List Int):(Jeo r us).Perm us:=by
 unfold Jeo
 refine ((Qu2 _ _).map _).trans ?_
 have key:∀ (xs pre:List Int),us = pre ++ xs → (Qkd pre.length xs.length).map (λp=>(ix us p).getD 0) = xs:=by
  intro xs
  induction xs with
  | nil=>intro pre _; rfl
  | cons x xs ih =>
   intro pre he
   have h1:=ih (pre ++ [x]) (by simp [he])
   simp only [List.length_append,List.length_singleton] at h1
   simp only [List.length_cons,Qkd,List.map_cons]
   rw [show ((pre.length:Int) + 1) = ((pre.length + 1:Nat):Int) by omega,h1]
   congr 1
   rw [Qq2,he]
   simp
 have:=key us [] rfl
 simp only [List.length_nil] at this
 exact List.Perm.of_eq this
theorem Jj8 {r:Request} {us:List Int}:∀ l ∈ pwM r us,Qc r (Qwq r us) l:=by
 unfold pwM nfM ffM
 have ht:∀ u ∈ Qwq r us,u ∈ Qwq r us ∧ 0 ≤ u ∧ u < (Qi0 r).length:=λu hu=>⟨hu,Qzv hu⟩
 cases r.qQ == 1
 · rw [cond_false]
   exact Q86 (λout u h hu hr=>Jgy h hu hr) _ [] (λu hu=>ht u ((Q7s r _).mem_iff.1 hu)) (by simp)
 · rw [cond_true]
   exact Q86 (λout u h hu hr=>Jf4 h hu hr) _ [] ht (by simp)
end Go.Proofs.YtpcmapfabndggaaGreat
