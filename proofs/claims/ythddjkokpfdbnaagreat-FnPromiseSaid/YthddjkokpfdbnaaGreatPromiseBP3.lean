import Derived.Test.YthddjkokpfdbnaaGreatPromiseBP2
set_option linter.unusedSimpArgs false
set_option linter.unusedVariables false
/- The two ways of packing, by spec and by impl. -/
namespace Go.Proofs.YthddjkokpfdbnaaGreat
open Go
open Enc (rd ow)
open Arg (argv)
open Ret (retv)
open Wf (wf)
def putF (g:List Int → Bool) (out:List (List Int)) (u:Int):List (List Int):=match fstI g out with
 | some i=>match out[i]? with
  | some x=>out.set i (x ++ [u])
  | none=>out
 | none=>out ++ [[u]]
def romB (r:Request) (u:Int) (l:List Int):Bool:=witB r (l ++ [u]) (masM r)
def fitF (r:Request) (out:List (List Int)) (u:Int):List (List Int):=putF (romB r u) out u
def nxtF (r:Request) (out:List (List Int)) (u:Int):List (List Int):=match out.getLast? with
 | some l=>bif romB r u l then out.set (out.length - 1) (l ++ [u]) else out ++ [[u]]
 | none=>[[u]]
theorem nxtF_some {r:Request} {out:List (List Int)} {l:List Int} (u:Int) (h:out.getLast? = some l):nxtF r out u = bif romB r u l then out.set (out.length - 1) (l ++ [u]) else out ++ [[u]]:=by unfold nxtF; rw [h]
def ordM (r:Request) (us:List Int):List Int:=(srt (dnk (us.map fun u=>volM r [u])) us.length).map fun p=>(ix us p).getD 0
def nfM (r:Request) (us:List Int):List (List Int):=(thrM r us).foldl (nxtF r) []
def ffM (r:Request) (us:List Int):List (List Int):=(ordM r (thrM r us)).foldl (fitF r) []
def pwM (r:Request) (us:List Int):List (List Int):=bif r.fWay == 1 then nfM r us else ffM r us
theorem putF_ok {g:List Int → Bool} {out:List (List Int)} {n:Nat} (u:Int) (h:okG n out):okG (n + 1) (putF g out u):=by
 obtain ⟨h1,h2⟩:=h
 unfold putF
 split
 · rename_i i hi
   split
   · rename_i x hx
     refine ⟨by simp; omega,fun l hl=>?_⟩
     rcases List.mem_or_eq_of_mem_set hl with hl | rfl
     · have:=h2 l hl; omega
     · have:=h2 x (List.mem_of_getElem? hx); simp; omega
   · exact ⟨by omega,fun l hl=>by have:=h2 l hl; omega⟩
 · refine ⟨by simp; omega,fun l hl=>?_⟩
   rcases List.mem_append.1 hl with hl | hl
   · have:=h2 l hl; omega
   · rw [List.mem_singleton.1 hl]; simp
theorem nxtF_ok {r:Request} {out:List (List Int)} {n:Nat} (u:Int) (h:okG n out):okG (n + 1) (nxtF r out u):=by
 obtain ⟨h1,h2⟩:=h
 unfold nxtF
 split
 · rename_i x hx
   have hm:=List.mem_of_getLast? hx
   cases romB r u x
   · refine ⟨by simp; omega,fun l hl=>?_⟩
     rcases List.mem_append.1 hl with hl | hl
     · have:=h2 l hl; omega
     · rw [List.mem_singleton.1 hl]; simp
   · refine ⟨by simp; omega,fun l hl=>?_⟩
     rcases List.mem_or_eq_of_mem_set hl with hl | rfl
     · have:=h2 l hl; omega
     · have:=h2 x hm; simp; omega
 · exact ⟨by simp,fun l hl=>by rw [List.mem_singleton.1 hl]; simp⟩
theorem fold_ok {F:List (List Int) → Int → List (List Int)} (hF:∀ out n u,okG n out → okG (n + 1) (F out u)):∀ (l:List Int) {out:List (List Int)} {n:Nat},okG n out → okG (n + l.length) (l.foldl F out)
 | [],_,_,h=>h
 | u :: l,out,n,h=>by
  have:=fold_ok hF l (hF out n u h)
  rw [List.foldl_cons,List.length_cons,show n + (l.length + 1) = n + 1 + l.length by omega]
  exact this
theorem thr_le {r:Request} {us:List Int} (h:us.length ≤ 12):(thrM r us).length ≤ 12:=Nat.le_trans (thrM_len r us) h
theorem ordM_len (r:Request) (us:List Int):(ordM r us).length = us.length:=by simp [ordM,srt_len]
theorem pwM_ok {r:Request} {us:List Int} (h:us.length ≤ 12):okG 12 (pwM r us):=by
 have ht:=thr_le (r:=r) h
 have h0:okG 0 ([]:List (List Int)):=⟨by simp,by simp⟩
 unfold pwM
 cases r.fWay == 1
 · have:=fold_ok (F:=fitF r) (fun out n u ho=>putF_ok u ho) (ordM r (thrM r us)) h0
   rw [ordM_len] at this
   exact ⟨by have:=this.1; simp only [cond_false]; unfold ffM; omega,fun l hl=>by have:=this.2 l hl; omega⟩
 · have:=fold_ok (F:=nxtF r) (fun out n u ho=>nxtF_ok u ho) (thrM r us) h0
   exact ⟨by have:=this.1; simp only [cond_true]; unfold nfM; omega,fun l hl=>by have:=this.2 l hl; omega⟩
theorem put_atF {g:List Int → Bool} {out:List (List Int)} {c:Int} {n:Nat} (h:okG n out) (hn:n ≤ 1048576) {β:Type} (k:List (List Int) → Option β) (a:Int) (ha:a = match fstI g out with | some i=>(i:Int) | none=>-1) :
    (bif (decide (a < 0)) then obind (apnd 24 out [([c]:List Int)]) fun x=>k x else obind (ix out a) fun x=>obind (apnd 8 x (([c]:List Int))) fun y=>obind (ix out a) fun z=>k (setx out a y)) = k (putF g out c):=by
 obtain ⟨h1,h2⟩:=h
 unfold putF
 cases hf:fstI g out with
 | none =>
  rw [hf] at ha
  simp only at ha
  subst ha
  rw [bif_true (by simp),ap1 (by simp; omega),ob_some]
 | some i =>
  rw [hf] at ha
  simp only at ha
  subst ha
  obtain ⟨x,hx,_⟩:=fstI_lt hf
  have:=h2 x (List.mem_of_getElem? hx)
  rw [bif_false (by simp),ix_nat,hx,ob_some,ap1 (by simp; omega),ob_some,ob_some]
  simp [setx,hx]
theorem thr_cls {r:Request} (h:(clsM r == 0) = false) (us:List Int):thrM r us = []:=by
 unfold thrM untM
 rw [h]
 apply List.filter_eq_nil_iff.2
 intro u _
 simp; omega
theorem s_l6u {fu:Nat} {r:Request} (h:Sm fu r) (hc:clsM r = 0):d_spec_l6Units fu r = some (untM r):=s_l6c h hc
theorem last_at {α:Type} {out:List α} (h:out ≠ []):∃ l,out.getLast? = some l ∧ ix out ((out.length:Int) - 1) = some l:=by
 cases hl:out.getLast? with
 | none=>exact absurd (List.getLast?_eq_none_iff.1 hl) h
 | some l =>
  have hp:=List.length_pos_iff.2 h
  refine ⟨l,rfl,?_⟩
  rw [show (out.length:Int) - 1 = ((out.length - 1:Nat):Int) by omega,ix_nat,← List.getLast?_eq_getElem?,hl]
theorem i_next {fu:Nat} {r:Request} (h:Sm fu r) (us:List Int) (hl:us.length ≤ 1048575):d_impl_NextFit fu r us = some (nfM r us):=by
 have hfu:=h.fu
 have htl:=thrM_len r us
 unfold d_impl_NextFit nfM
 rw [i_there h us (by omega),ob_some]
 cases hc:clsM r == 0
 · rw [thr_cls hc]
   obtain ⟨m,rfl⟩:∃ m,fu = m + 1:=⟨fu - 1,by omega⟩
   rw [d_impl_NextFit_L1.eq_2]; rfl
 · have key:=lpI (thrM r us) (fun n (o:List (List Int)) i=>d_impl_NextFit_L1 fu r (thrM r us) n o i) (fun xs o=>some (xs.foldl (nxtF r) o)) (fun xs o=>∃ m,m + xs.length ≤ 1048575 ∧ okG m o) (by omega) ?_ ?_ fu [] ⟨0,by omega,by simp,by simp⟩ (by omega)
   · exact key
   · intro n o i u xs hx hd hI ih
     obtain ⟨m,hm,ho⟩:=hI
     simp only [List.length_cons] at hm
     have h1:=ho.1
     have h2:=ho.2
     have hI':=ih (nxtF r o u) ⟨m + 1,by omega,nxtF_ok u ho⟩
     simp only [d_impl_NextFit_L1.eq_2]
     unfold d_impl_NextFit_L1_B d_impl_NextFit_J1
     rw [hd,cond_true,hx,ob_some,List.foldl_cons,← hI',w64_id (by omega) (by omega)]
     by_cases he:o = []
     · subst he
       rw [decide_eq_false (by simp),cond_false,ap1 (by simp),ob_some]; rfl
     · obtain ⟨l,e1,e2⟩:=last_at he
       have hp:=List.length_pos_iff.2 he
       have hll:=h2 l (List.mem_of_getLast? e1)
       rw [decide_eq_true (by omega),cond_true,e2,ob_some,i_room1 h l u (by omega),ob_some,hc,Bool.true_and]
       rw [nxtF_some u e1]
       unfold romB
       cases witB r (l ++ [u]) (masM r)
       · rw [cond_false,cond_false,ap1 (by simp; omega),ob_some]
       · rw [cond_true,cond_true,ob_some,ap1 (by simp; omega),ob_some,ob_some]
         rw [show setx o ((o.length:Int) - 1) (l ++ [u]) = o.set (o.length - 1) (l ++ [u]) by unfold setx; congr 1; omega]
   · intro n o i hd _
     simp only [d_impl_NextFit_L1.eq_2]
     unfold d_impl_NextFit_L1_B
     rw [hd,cond_false]; rfl
theorem s_next {fu:Nat} {r:Request} (h:Sm fu r) (us:List Int) (hl:us.length ≤ 1048575):d_spec_NextFit fu r us = some (nfM r us):=by
 have hfu:=h.fu
 have htl:=thrM_len r us
 unfold d_spec_NextFit nfM
 rw [s_cls h,ob_some]
 cases hc:clsM r == 0
 · rw [show (clsM r != 0) = true by simp only [bne,hc]; rfl,cond_true,thr_cls hc]; rfl
 · have hz:clsM r = 0:=by simpa using hc
   rw [show (clsM r != 0) = false by simp [hz],cond_false,s_l6u h hz,ob_some,s_known h us (by omega),ob_some]
   unfold d_spec_l7Next
   rw [s_mas h,ob_some,s_l6u h hz,ob_some]
   have key:=lpI (thrM r us) (fun n (o:List (List Int)) i=>d_spec_l7Next_L1 fu r (thrM r us) (othM (typM r r.fMaster)) (untM r) n o i) (fun xs o=>some (xs.foldl (nxtF r) o)) (fun xs o=>∃ m,m + xs.length ≤ 1048575 ∧ okG m o) (by omega) ?_ ?_ fu [] ⟨0,by omega,by simp,by simp⟩ (by omega)
   · rw [key]; rfl
   · intro n o i u xs hx hd hI ih
     obtain ⟨m,hm,ho⟩:=hI
     simp only [List.length_cons] at hm
     have h1:=ho.1
     have h2:=ho.2
     have hI':=ih (nxtF r o u) ⟨m + 1,by omega,nxtF_ok u ho⟩
     simp only [d_spec_l7Next_L1.eq_2]
     unfold d_spec_l7Next_L1_B d_spec_l7Next_J1
     rw [hd,cond_true,List.foldl_cons,← hI',w64_id (by omega) (by omega)]
     by_cases he:o = []
     · subst he
       rw [decide_eq_false (by simp),cond_false,hx,ob_some,ap1 (by simp),ob_some]; rfl
     · obtain ⟨l,e1,e2⟩:=last_at he
       have hp:=List.length_pos_iff.2 he
       have hll:=h2 l (List.mem_of_getLast? e1)
       rw [decide_eq_true (by omega),cond_true,e2,ob_some,hx,ob_some,othM_1,s_l7Room r _ l u (by omega) (by omega),ob_some]
       rw [nxtF_some u e1]
       unfold romB
       cases witB r (l ++ [u]) (masM r)
       · rw [cond_false,cond_false,ob_some,ap1 (by simp; omega),ob_some]
       · rw [cond_true,cond_true,ob_some,ob_some,ap1 (by simp; omega),ob_some,ob_some]
         rw [show setx o ((o.length:Int) - 1) (l ++ [u]) = o.set (o.length - 1) (l ++ [u]) by unfold setx; congr 1; omega]
   · intro n o i hd _
     simp only [d_spec_l7Next_L1.eq_2]
     unfold d_spec_l7Next_L1_B
     rw [hd,cond_false]; rfl
theorem ord_ix {us:List Int} {p:Int} (h:0 ≤ p ∧ p < us.length):ix us p = some ((ix us p).getD 0):=by
 have:=ix_i (l:=us) (i:=p.toNat) (by omega)
 rw [show ((p.toNat:Nat):Int) = p by omega] at this
 rw [this]; rfl
theorem foldl_map' {α β γ:Type} (f:γ → β → γ) (g:α → β):∀ (l:List α) (s:γ),(l.map g).foldl f s = l.foldl (fun s x=>f s (g x)) s
 | [],_=>rfl
 | x :: l,s=>by rw [List.map_cons,List.foldl_cons,List.foldl_cons,foldl_map' f g l]
theorem i_first {fu:Nat} {r:Request} (h:Sm fu r) (us:List Int) (hl:us.length < 20):d_impl_FirstFit fu r us = some (ffM r us):=by
 have hfu:=h.fu
 have htl:=thrM_len r us
 unfold d_impl_FirstFit ffM ordM
 rw [i_there h us (by omega),ob_some]
 obtain ⟨t,ht⟩:∃ t,t = thrM r us:=⟨_,rfl⟩
 rw [← ht] at htl ⊢
 have key:=lpI t (fun n (o:List Int) i=>d_impl_FirstFit_L2 fu r t n o i) (fun xs o=>obind (d_impl_SortDown fu (o ++ xs.map fun u=>volM r [u])) fun x=>d_impl_FirstFit_L1 fu r t x fu [] 0) (fun xs o=>o.length + xs.length ≤ 20) (by omega) ?_ ?_ fu [] (by simp; omega) (by omega)
 · rw [key,List.nil_append,i_down hfu (by simp; omega),ob_some,foldl_map',List.length_map]
   have hsl:=srt_len (dnk (t.map fun u=>volM r [u])) t.length
   have hsm:=fun x=>srt_mem (k:=dnk (t.map fun u=>volM r [u])) (n:=t.length) (x:=x)
   generalize srt (dnk (t.map fun u=>volM r [u])) t.length = S at hsl hsm ⊢
   cases hc:clsM r == 0
   · have:t = []:=by rw [ht]; exact thr_cls hc us
     subst this
     have:S = []:=List.length_eq_zero_iff.1 (by simpa using hsl)
     subst this
     obtain ⟨m,rfl⟩:∃ m,fu = m + 1:=⟨fu - 1,by omega⟩
     rw [d_impl_FirstFit_L1.eq_2]; rfl
   · have key1:=lpI S (fun n (o:List (List Int)) i=>d_impl_FirstFit_L1 fu r t S n o i) (fun xs o=>some (xs.foldl (fun s p=>fitF r s ((ix t p).getD 0)) o)) (fun xs o=>(∃ m,m + xs.length ≤ 20 ∧ okG m o) ∧ ∀ p ∈ xs,0 ≤ p ∧ p < t.length) (by omega) ?_ ?_ fu [] ⟨⟨0,by omega,by simp,by simp⟩,fun p hp=>(hsm p).1 hp⟩ (by omega)
     · exact key1
     · intro n o i p xs hx hd hI ih
       obtain ⟨⟨m,hm,ho⟩,hin⟩:=hI
       simp only [List.length_cons] at hm
       have hp:=ord_ix (hin p (by simp))
       simp only [d_impl_FirstFit_L1.eq_2]
       unfold d_impl_FirstFit_L1_B d_impl_FirstFit_J1
       rw [hd,cond_true,hx,ob_some,hp,ob_some,List.foldl_cons]
       generalize (ix t p).getD 0 = u
       rw [i_idxInts (fun y=>d_impl_FirstFit_1 fu y r u) (romB r u) (fun l hl=>by
        have:=ho.2 l hl
        unfold d_impl_FirstFit_1 romB
        rw [i_room1 h l u (by omega),ob_some,hc,Bool.true_and]) (by have:=ho.1; omega) (by have:=ho.1; omega),ob_some]
       refine (put_atF (g:=romB r u) (c:=u) ho (by omega) (fun x=>d_impl_FirstFit_L1 fu r t S n x (w64 (i + 1))) (fndI (romB r u) o 0) (by
        rw [fndI_fst]
        cases fstI (romB r u) o <;> simp)).trans ?_
       exact ih _ ⟨⟨m + 1,by omega,putF_ok u ho⟩,fun q hq=>hin q (by simp [hq])⟩
     · intro n o i hd _
       simp only [d_impl_FirstFit_L1.eq_2]
       unfold d_impl_FirstFit_L1_B
       rw [hd,cond_false]; rfl
 · intro n o i u xs hx hd hI ih
   simp only [List.length_cons] at hI
   simp only [d_impl_FirstFit_L2.eq_2]
   unfold d_impl_FirstFit_L2_B
   rw [hd,cond_true,hx,ob_some,i_volOf h [u] (by simp) (by simp; omega),ob_some,ap1 (by simp; omega),ob_some,ih _ (by simp; omega)]
   simp
 · intro n o i hd _
   simp only [d_impl_FirstFit_L2.eq_2]
   unfold d_impl_FirstFit_L2_B
   rw [hd,cond_false]; simp
theorem s_first {fu:Nat} {r:Request} (h:Sm fu r) (us:List Int) (hl:us.length < 20):d_spec_FirstFit fu r us = some (ffM r us):=by
 have hfu:=h.fu
 have htl:=thrM_len r us
 unfold d_spec_FirstFit ffM ordM
 rw [s_cls h,ob_some]
 cases hc:clsM r == 0
 · rw [show (clsM r != 0) = true by simp only [bne,hc]; rfl,cond_true,thr_cls hc]; rfl
 · have hz:clsM r = 0:=by simpa using hc
   rw [show (clsM r != 0) = false by simp [hz],cond_false,s_l6u h hz,ob_some,s_known h us (by omega),ob_some]
   unfold d_spec_l7First
   rw [s_mas h,ob_some,s_l6u h hz,ob_some]
   generalize thrM r us = t at htl ⊢
   have key:=lpI t (fun n (o:List Int) i=>d_spec_l7First_L3 fu r t (othM (typM r r.fMaster)) (untM r) n o i) (fun xs o=>obind (d_spec_SortDown fu (o ++ xs.map fun u=>volM r [u])) fun x=>d_spec_l7First_L2 fu r t (othM (typM r r.fMaster)) (untM r) x fu [] 0) (fun xs o=>o.length + xs.length ≤ 20) (by omega) ?_ ?_ fu [] (by simp; omega) (by omega)
   · rw [key,List.nil_append,s_down hfu (by simp; omega),ob_some,foldl_map',List.length_map]
     have hsl:=srt_len (dnk (t.map fun u=>volM r [u])) t.length
     have hsm:=fun x=>srt_mem (k:=dnk (t.map fun u=>volM r [u])) (n:=t.length) (x:=x)
     generalize srt (dnk (t.map fun u=>volM r [u])) t.length = S at hsl hsm ⊢
     have key1:=lpI S (fun n (o:List (List Int)) i=>d_spec_l7First_L2 fu r t (othM (typM r r.fMaster)) (untM r) S n o i) (fun xs o=>some (xs.foldl (fun s p=>fitF r s ((ix t p).getD 0)) o)) (fun xs o=>(∃ m,m + xs.length ≤ 20 ∧ okG m o) ∧ ∀ p ∈ xs,0 ≤ p ∧ p < t.length) (by omega) ?_ ?_ fu [] ⟨⟨0,by omega,by simp,by simp⟩,fun p hp=>(hsm p).1 hp⟩ (by omega)
     · rw [key1]; rfl
     · intro n o i p xs hx hd hI ih
       obtain ⟨⟨m,hm,ho⟩,hin⟩:=hI
       simp only [List.length_cons] at hm
       have hp:=ord_ix (hin p (by simp))
       have ho1:=ho.1
       simp only [d_spec_l7First_L2.eq_2]
       unfold d_spec_l7First_L2_B
       rw [hd,cond_true,hx,ob_some,hp,ob_some,List.foldl_cons]
       generalize (ix t p).getD 0 = u
       obtain ⟨K,hK⟩:∃ K,K = d_spec_l7First_L2 fu r t (othM (typM r r.fMaster)) (untM r) S n:=⟨_,rfl⟩
       rw [← hK] at ih ⊢
       obtain ⟨R,hR⟩:∃ R:Int → Option (List (List Int)),R = fun a=>bif (decide (a < 0)) then obind (apnd 24 o [([u]:List Int)]) fun x=>K x (w64 (i + 1)) else obind (ix o a) fun x=>obind (apnd 8 x (([u]:List Int))) fun y=>obind (ix o a) fun z=>K (setx o a y) (w64 (i + 1)):=⟨_,rfl⟩
       have hD:=lpD o.length (fun n a j=>d_spec_l7First_L1 fu K r (othM (typM r r.fMaster)) (untM r) o i u n a j) (fun xs a=>R (xs.foldl (lasI (romB r u) o) a)) (by omega) ?_ ?_ fu (-1) (by omega)
       · rw [hD,hR]
         refine (put_atF (g:=romB r u) (c:=u) ho (by omega) (fun x=>K x (w64 (i + 1))) _ ?_).trans (ih _ ⟨⟨m + 1,by omega,putF_ok u ho⟩,fun q hq=>hin q (by simp [hq])⟩)
         rw [fold_down (romB r u) o o.length (-1) (Nat.le_refl _),List.take_length]
         cases fstI (romB r u) o <;> rfl
       · intro n a j xs h0 h1 hd ih
         simp only [d_spec_l7First_L1.eq_2]
         unfold d_spec_l7First_L1_B d_spec_l7First_J2
         obtain ⟨j,rfl⟩:∃ q:Nat,j = q:=⟨j.toNat,by omega⟩
         have hj:j < o.length:=by omega
         have hg:=ho.2 _ (List.getElem_mem hj)
         rw [hd,cond_true,ix_i hj,ob_some,othM_1,s_l7Room r _ _ u (by omega) (by omega),ob_some]
         have e:lasI (romB r u) o a (j:Int) = bif witB r (o[j] ++ [u]) (masM r) then (j:Int) else a:=by unfold lasI atB romB; rw [ix_i hj]
         simp only [ih,List.foldl_cons,e]
         cases witB r (o[j] ++ [u]) (masM r) <;> rfl
       · intro n a j hd
         simp only [d_spec_l7First_L1.eq_2]
         unfold d_spec_l7First_L1_B d_spec_l7First_J1
         rw [hd,cond_false,hR]; rfl
     · intro n o i hd _
       simp only [d_spec_l7First_L2.eq_2]
       unfold d_spec_l7First_L2_B
       rw [hd,cond_false]; rfl
   · intro n o i u xs hx hd hI ih
     simp only [List.length_cons] at hI
     obtain ⟨i0,i1,i2⟩:=ix_some hx
     have e:sls t i (w64 (i + 1)) = some [u]:=by
      rw [w64_id (by omega) (by omega),sls_some (by omega)]
      congr 1
      rw [show (i + 1).toNat - i.toNat = 1 by omega]
      have hlt:=(List.getElem?_eq_some_iff.1 i2).1
      have heq:=(List.getElem?_eq_some_iff.1 i2).2
      rw [List.drop_eq_getElem_cons hlt,heq]; rfl
     simp only [d_spec_l7First_L3.eq_2]
     unfold d_spec_l7First_L3_B
     rw [hd,cond_true,e,ob_some,s_l7Of r [u] (by simp) (by simp; omega),ob_some,ap1 (by simp; omega),ob_some,ih _ (by simp; omega)]
     simp
   · intro n o i hd _
     simp only [d_spec_l7First_L3.eq_2]
     unfold d_spec_l7First_L3_B
     rw [hd,cond_false]; simp
theorem i_way {fu:Nat} {r:Request} (h:Sm fu r) (us:List Int) (hl:us.length < 20):d_impl_PackWay fu r us = some (pwM r us):=by
 unfold d_impl_PackWay pwM
 rw [i_next h us (by omega),i_first h us hl]
 cases r.fWay == 1 <;> rfl
theorem s_way {fu:Nat} {r:Request} (h:Sm fu r) (us:List Int) (hl:us.length < 20):d_spec_PackWay fu r us = some (pwM r us):=by
 unfold d_spec_PackWay pwM
 rw [s_next h us (by omega),s_first h us hl]
 cases r.fWay == 1 <;> rfl
end Go.Proofs.YthddjkokpfdbnaaGreat
/- Shelves, layers, loads, spots of spec: what they compute, and what holds of them. -/
namespace Go.Proofs.YthddjkokpfdbnaaGreat
open Go
open Enc (rd ow)
open Arg (argv)
open Ret (retv)
open Wf (wf)
structure ShI (p:Pallet) (n:Nat) (s:Shelf):Prop where
 ne:s.fList ≠ []
 inn:∀ i ∈ s.fList,0 ≤ i ∧ i < n
 w:1 ≤ s.fW ∧ s.fW ≤ p.fW
 d:1 ≤ s.fD ∧ s.fD ≤ p.fD
 h:1 ≤ s.fH ∧ s.fH ≤ p.fH
 g:1 ≤ s.fGram ∧ s.fGram ≤ p.fGram
end Go.Proofs.YthddjkokpfdbnaaGreat
/- Layers and loads of spec. -/
namespace Go.Proofs.YthddjkokpfdbnaaGreat
open Go
open Enc (rd ow)
open Arg (argv)
open Ret (retv)
open Wf (wf)
structure LyI (p:Pallet) (n:Nat) (s:Layer):Prop where
 ne:s.fShelves ≠ []
 inn:∀ i ∈ s.fShelves,0 ≤ i ∧ i < n
 d:1 ≤ s.fD ∧ s.fD ≤ p.fD
 h:1 ≤ s.fH ∧ s.fH ≤ p.fH
 g:1 ≤ s.fGram ∧ s.fGram ≤ p.fGram
structure LdI (p:Pallet) (n:Nat) (s:Load):Prop where
 ne:s.fLayers ≠ []
 inn:∀ i ∈ s.fLayers,0 ≤ i ∧ i < n
 h:1 ≤ s.fH ∧ s.fH ≤ p.fH
 g:1 ≤ s.fGram ∧ s.fGram ≤ p.fGram
end Go.Proofs.YthddjkokpfdbnaaGreat
/- The spots of boxes, by spec. -/
namespace Go.Proofs.YthddjkokpfdbnaaGreat
open Go
open Enc (rd ow)
open Arg (argv)
open Ret (retv)
open Wf (wf)
end Go.Proofs.YthddjkokpfdbnaaGreat
/- The units of a group, by spec and by impl. -/
namespace Go.Proofs.YthddjkokpfdbnaaGreat
open Go
open Enc (rd ow)
open Arg (argv)
open Ret (retv)
open Wf (wf)
def hasG (r:Request) (k:Int):Bool:=inb k 0 (((grpM r).length:Int) - 1)
theorem cls_of_grp {r:Request} {k:Int} (h:hasG r k = true):clsM r = 0:=by
 unfold hasG at h
 rw [inb_iff] at h
 by_cases hc:clsM r = 0
 · exact hc
 · have:grpM r = []:=by
     unfold grpM prsM
     rw [show (clsM r == 0) = false by simp [hc]]
     rfl
   rw [this] at h
   simp at h
   omega
theorem ofG_step (r:Request) (g:List Int) (u i:Int) (us:List Int) {x:Item} (hx:ix r.fItems i = some x):ofG r g u (i :: us) = bif g.contains x.fClass then u :: ofG r g (u + 1) us else ofG r g (u + 1) us:=by
 rw [ofG,hx]
theorem s_uof {fu:Nat} {r:Request} (h:Sm fu r) (k:Int):d_spec_UnitsOf fu r k = some (uofM r k):=by
 have hfu:=h.fu
 unfold d_spec_UnitsOf uofM
 rw [s_grp h,ob_some,w64_grp,s_in,ob_some]
 cases hg:inb k 0 (((grpM r).length:Int) - 1)
 · rw [Bool.not_false,cond_true]
   have:ix (grpM r) k = none:=by
    have hk:¬ (0 ≤ k ∧ k ≤ ((grpM r).length:Int) - 1):=by intro hk; rw [(inb_iff).2 hk] at hg; cases hg
    unfold ix
    by_cases h0:0 ≤ k
    · rw [if_pos h0,List.getElem?_eq_none (by omega)]
    · rw [if_neg h0]
   rw [this]
 · have hc:=cls_of_grp hg
   rw [inb_iff] at hg
   obtain ⟨j,rfl⟩:∃ j:Nat,k = j:=⟨k.toNat,by omega⟩
   have hj:j < (grpM r).length:=by omega
   have hgl:=(grpM_ok r).2 _ (List.getElem_mem hj)
   rw [Bool.not_true,cond_false,s_l6 h (clsM_zero hc).1,ob_some,ix_i hj]
   have e:untM r = l6M r:=by unfold untM; rw [show (clsM r == 0) = true by simp [hc],cond_true]
   simp only [e]
   have hlen:(l6M r).length ≤ 12:=l6M_len (clsM_zero hc).1
   have:=lpPI (l6M r) (fun n out i=>d_spec_UnitsOf_L1 fu r (j:Int) (grpM r) (l6M r) n out i) (fun pre xs out=>some (out ++ ofG r (grpM r)[j] (pre.length:Int) xs)) (fun pre xs out=>out.length + xs.length ≤ 12) (by omega) ?_ ?_ fu [] (by simpa using hlen) (by omega)
   · simpa using this
   · intro n out pre i xs hl hx hd hI ih
     simp only [List.length_cons] at hI
     have hi:i ∈ untM r:=by rw [e,hl]; simp
     have hi2:=untM_mem hi
     obtain ⟨q,rfl⟩:∃ q:Nat,i = q:=⟨i.toNat,by omega⟩
     have hq:q < r.fItems.length:=by omega
     simp only [d_spec_UnitsOf_L1.eq_2]
     unfold d_spec_UnitsOf_L1_B d_spec_UnitsOf_J1
     simp only [hd,cond_true,hx,ob_some,ix_i hj,ix_i hq,s_has (show (grpM r)[j].length ≤ 1048576 by omega) (show (grpM r)[j].length < fu by omega)]
     rw [ofG_step r _ _ _ _ (ix_i hq)]
     cases (grpM r)[j].contains r.fItems[q].fClass
     · rw [cond_false,cond_false,ih _ (by omega)]
       simp
     · rw [cond_true,cond_true,ap1 (by simp; omega),ob_some,ih _ (by simp; omega)]
       simp
   · intro n out hd hI
     simp only [d_spec_UnitsOf_L1.eq_2]
     unfold d_spec_UnitsOf_L1_B
     simp only [hd,cond_false]
     simp [ofG]
theorem i_uof {fu:Nat} {r:Request} (h:Sm fu r) (k:Int):d_impl_UnitsOf fu r k = some (uofM r k):=by
 have hfu:=h.fu
 unfold d_impl_UnitsOf uofM
 rw [i_grp h,ob_some,w64_grp,i_in,ob_some]
 cases hg:inb k 0 (((grpM r).length:Int) - 1)
 · rw [Bool.not_false,cond_true]
   have:ix (grpM r) k = none:=by
    have hk:¬ (0 ≤ k ∧ k ≤ ((grpM r).length:Int) - 1):=by intro hk; rw [(inb_iff).2 hk] at hg; cases hg
    unfold ix
    by_cases h0:0 ≤ k
    · rw [if_pos h0,List.getElem?_eq_none (by omega)]
    · rw [if_neg h0]
   rw [this]
 · have hc:=cls_of_grp hg
   rw [inb_iff] at hg
   obtain ⟨j,rfl⟩:∃ j:Nat,k = j:=⟨k.toNat,by omega⟩
   have hj:j < (grpM r).length:=by omega
   have hgl:=(grpM_ok r).2 _ (List.getElem_mem hj)
   rw [Bool.not_true,cond_false,i_unt h,ob_some,ix_i hj]
   have hlen:=untM_len r
   have:=lpPI (untM r) (fun n out i=>d_impl_UnitsOf_L1 fu r (j:Int) (grpM r) (untM r) n out i) (fun pre xs out=>some (out ++ ofG r (grpM r)[j] (pre.length:Int) xs)) (fun pre xs out=>out.length + xs.length ≤ 12) (by omega) ?_ ?_ fu [] (by simpa using hlen) (by omega)
   · simpa using this
   · intro n out pre i xs hl hx hd hI ih
     simp only [List.length_cons] at hI
     have hi:i ∈ untM r:=by rw [hl]; simp
     have hi2:=untM_mem hi
     obtain ⟨q,rfl⟩:∃ q:Nat,i = q:=⟨i.toNat,by omega⟩
     have hq:q < r.fItems.length:=by omega
     simp only [d_impl_UnitsOf_L1.eq_2]
     unfold d_impl_UnitsOf_L1_B d_impl_UnitsOf_J1
     simp only [hd,cond_true,hx,ob_some,ix_i hj,ix_i hq,i_has (show (grpM r)[j].length ≤ 1048576 by omega) (show (grpM r)[j].length < fu by omega)]
     rw [ofG_step r _ _ _ _ (ix_i hq)]
     cases (grpM r)[j].contains r.fItems[q].fClass
     · rw [cond_false,cond_false,ih _ (by omega)]
       simp
     · rw [cond_true,cond_true,ap1 (by simp; omega),ob_some,ih _ (by simp; omega)]
       simp
   · intro n out hd hI
     simp only [d_impl_UnitsOf_L1.eq_2]
     unfold d_impl_UnitsOf_L1_B
     simp only [hd,cond_false]
     simp [ofG]
end Go.Proofs.YthddjkokpfdbnaaGreat
/- CartonsOf of spec and of impl. -/
namespace Go.Proofs.YthddjkokpfdbnaaGreat
open Go
open Enc (rd ow)
open Arg (argv)
open Ret (retv)
open Wf (wf)
def srtI (l:List Int):List Int:=l.mergeSort fun x y=>decide (x ≤ y)
theorem srtI_perm (l:List Int):(srtI l).Perm l:=List.mergeSort_perm l _
def crtM (r:Request) (k:Int) (l:List Int):Carton:=⟨(chpM r l).1.fId,k,srtI l⟩
def crtK (r:Request) (k:Int):List Carton:=(pwM r (uofM r k)).map (crtM r k)
def crtF (r:Request):List Int → List Carton
 | []=>[]
 | k :: ks=>crtK r k ++ crtF r ks
def crtL (r:Request):List Carton:=crtF r (ints 0 (grpM r).length)
theorem ints_getC (l:List Int):(ints 0 l.length).map (fun p=>(ix l p).getD 0) = l:=by
 have key:∀ (xs pre:List Int),l = pre ++ xs → (ints pre.length xs.length).map (fun p=>(ix l p).getD 0) = xs:=by
  intro xs
  induction xs with
  | nil=>intro pre _; rfl
  | cons x xs ih =>
   intro pre he
   have h1:=ih (pre ++ [x]) (by simp [he])
   simp only [List.length_append,List.length_singleton] at h1
   simp only [List.length_cons,ints,List.map_cons]
   rw [show ((pre.length:Int) + 1) = ((pre.length + 1:Nat):Int) by omega,h1]
   congr 1
   rw [ix_nat,he]
   simp
 exact key l [] rfl
theorem srt_get (l:List Int):(srt (kf l) l.length).map (fun p=>(ix l p).getD 0) = srtI l:=by
 refine le_uniq ?_ ?_ (mergeSort_le l)
 · refine ((srt_perm _ _).map _).trans ?_
   rw [ints_getC]
   exact (srtI_perm l).symm
 · refine List.pairwise_map.2 ((srt_sorted (kf l) l.length).imp fun {p q} h=>?_)
   unfold lx kf at h
   omega
theorem crtK_len {r:Request} (k:Int):(crtK r k).length ≤ 12:=by
 have:=(pwM_ok (r:=r) (uofM_len r k)).1
 simp [crtK]; omega
theorem i_crt {fu:Nat} {r:Request} (h:Sm fu r):d_impl_CartonsOf fu r = some (crtL r):=by
 have hfu:=h.fu
 have hg:=(grpM_ok r).1
 unfold d_impl_CartonsOf crtL
 rw [i_grp h,ob_some]
 have:=lpNI ((grpM r).length:Int) (fun n out i=>d_impl_CartonsOf_L2 fu r (grpM r) n out i) (fun xs out=>some (out ++ crtF r xs)) (fun xs out=>out.length + 12 * xs.length ≤ 48) (by omega) ?_ ?_ (grpM r).length fu [] 0 (by omega) (by omega) (by omega) (by simp [ints_len]; omega)
 · simpa using this
 · intro n out k ks h0 h1 hd hI ih
   simp only [List.length_cons] at hI
   have hul:=uofM_len r k
   have hpo:=pwM_ok (r:=r) hul
   simp only [d_impl_CartonsOf_L2.eq_2]
   unfold d_impl_CartonsOf_L2_B
   rw [hd,cond_true,i_uof h,ob_some,i_way h _ (by omega),ob_some]
   have key:=lpI (pwM r (uofM r k)) (fun m o i=>d_impl_CartonsOf_L1 fu (d_impl_CartonsOf_L2 fu r (grpM r) n) r k (pwM r (uofM r k)) m o i) (fun xs o=>d_impl_CartonsOf_L2 fu r (grpM r) n (o ++ xs.map (crtM r k)) (w64 (k + 1))) (fun xs o=>o.length + xs.length ≤ 48 ∧ ∀ l ∈ xs,l.length ≤ 12) (by have:=hpo.1; omega) ?_ ?_ fu out ⟨by have:=hpo.1; omega,hpo.2⟩ (by have:=hpo.1; omega)
   · rw [key,ih _ (by have:=hpo.1; simp; omega)]
     simp [crtF,crtK]
   · intro m o i l xs hx hd hI ih
     obtain ⟨h2,h3⟩:=hI
     simp only [List.length_cons] at h2
     have hl:=h3 l (by simp)
     simp only [d_impl_CartonsOf_L1.eq_2]
     unfold d_impl_CartonsOf_L1_B
     rw [hd,cond_true,hx,ob_some,i_cheap h l (by omega),ob_some,show d_slices_Sort_int_int fu l = some (srtI l) from sortI_some (by omega),ob_some,ap1 (by simp; omega),ob_some,ih _ ⟨by simp; omega,fun y hy=>h3 y (by simp [hy])⟩]
     simp [crtM]
   · intro m o i hd _
     simp only [d_impl_CartonsOf_L1.eq_2]
     unfold d_impl_CartonsOf_L1_B
     rw [hd,cond_false]; simp
 · intro n out k hd _
   simp only [d_impl_CartonsOf_L2.eq_2]
   unfold d_impl_CartonsOf_L2_B
   rw [hd,cond_false]; simp [crtF]
theorem s_crt {fu:Nat} {r:Request} (h:Sm fu r):d_spec_CartonsOf fu r = some (crtL r):=by
 have hfu:=h.fu
 have hg:=(grpM_ok r).1
 unfold d_spec_CartonsOf crtL
 rw [s_grp h,ob_some]
 have:=lpNI ((grpM r).length:Int) (fun n out i=>d_spec_CartonsOf_L3 fu r (grpM r) n out i) (fun xs out=>some (out ++ crtF r xs)) (fun xs out=>out.length + 12 * xs.length ≤ 48) (by omega) ?_ ?_ (grpM r).length fu [] 0 (by omega) (by omega) (by omega) (by simp [ints_len]; omega)
 · simpa using this
 · intro n out k ks h0 h1 hd hI ih
   simp only [List.length_cons] at hI
   have hul:=uofM_len r k
   have hpo:=pwM_ok (r:=r) hul
   simp only [d_spec_CartonsOf_L3.eq_2]
   unfold d_spec_CartonsOf_L3_B
   rw [hd,cond_true,s_uof h,ob_some,s_way h _ (by omega),ob_some]
   have key:=lpI (pwM r (uofM r k)) (fun m o i=>d_spec_CartonsOf_L2 fu (d_spec_CartonsOf_L3 fu r (grpM r) n) r k (pwM r (uofM r k)) m o i) (fun xs o=>d_spec_CartonsOf_L3 fu r (grpM r) n (o ++ xs.map (crtM r k)) (w64 (k + 1))) (fun xs o=>o.length + xs.length ≤ 48 ∧ ∀ l ∈ xs,l.length ≤ 12) (by have:=hpo.1; omega) ?_ ?_ fu out ⟨by have:=hpo.1; omega,hpo.2⟩ (by have:=hpo.1; omega)
   · rw [key,ih _ (by have:=hpo.1; simp; omega)]
     simp [crtF,crtK]
   · intro m o i l xs hx hd hI ih
     obtain ⟨h2,h3⟩:=hI
     simp only [List.length_cons] at h2
     have hl:=h3 l (by simp)
     simp only [d_spec_CartonsOf_L2.eq_2]
     unfold d_spec_CartonsOf_L2_B d_spec_CartonsOf_J3
     rw [hd,cond_true,hx,ob_some,s_cheap h l (by omega),ob_some,ob_some,s_up hfu (by omega),ob_some]
     have hsl:=srt_len (kf l) l.length
     have hsm:=fun x=>srt_mem (k:=kf l) (n:=l.length) (x:=x)
     have hsg:=srt_get l
     generalize srt (kf l) l.length = S at hsl hsm hsg ⊢
     have k1:=lpI S (fun m' us j=>d_spec_CartonsOf_L1 fu (d_spec_CartonsOf_L2 fu (d_spec_CartonsOf_L3 fu r (grpM r) n) r k (pwM r (uofM r k)) m) k (pwM r (uofM r k)) o i (chpM r l).1 S m' us j)
      (fun xs us=>obind (apnd 40 o [(⟨(chpM r l).1.fId,k,us ++ xs.map fun p=>(ix l p).getD 0⟩:Carton)]) fun x=>d_spec_CartonsOf_J2 fu (d_spec_CartonsOf_L2 fu (d_spec_CartonsOf_L3 fu r (grpM r) n) r k (pwM r (uofM r k)) m) i x) (fun xs us=>us.length + xs.length ≤ 12 ∧ ∀ p ∈ xs,0 ≤ p ∧ p < l.length) (by omega) ?_ ?_ fu [] ⟨by simp; omega,fun p hp=>(hsm p).1 hp⟩ (by omega)
     · rw [k1,List.nil_append,hsg,ap1 (by simp; omega),ob_some]
       unfold d_spec_CartonsOf_J2
       rw [ih _ ⟨by simp; omega,fun y hy=>h3 y (by simp [hy])⟩]
       simp [crtM]
     · intro m' us j p ps hp hd hI ih
       obtain ⟨h4,h5⟩:=hI
       simp only [List.length_cons] at h4
       simp only [d_spec_CartonsOf_L1.eq_2]
       unfold d_spec_CartonsOf_L1_B
       rw [hd,cond_true,hx,ob_some,hp,ob_some,ord_ix (h5 p (by simp)),ob_some,ap1 (by simp; omega),ob_some,ih _ ⟨by simp; omega,fun y hy=>h5 y (by simp [hy])⟩]
       simp
     · intro m' us j hd _
       simp only [d_spec_CartonsOf_L1.eq_2]
       unfold d_spec_CartonsOf_L1_B
       rw [hd,cond_false]; simp
   · intro m o i hd _
     simp only [d_spec_CartonsOf_L2.eq_2]
     unfold d_spec_CartonsOf_L2_B d_spec_CartonsOf_J1
     rw [hd,cond_false]; simp
 · intro n out k hd _
   simp only [d_spec_CartonsOf_L3.eq_2]
   unfold d_spec_CartonsOf_L3_B
   rw [hd,cond_false]; simp [crtF]
theorem crtF_len (r:Request):∀ (ks:List Int),(crtF r ks).length ≤ 12 * ks.length
 | []=>by simp [crtF]
 | k :: ks=>by
  have:=crtF_len r ks
  have:=crtK_len (r:=r) k
  simp [crtF]; omega
theorem crtL_len (r:Request):(crtL r).length ≤ 48:=by
 have:=crtF_len r (ints 0 (grpM r).length)
 have hg:=(grpM_ok r).1
 rw [ints_len] at this
 unfold crtL
 omega
end Go.Proofs.YthddjkokpfdbnaaGreat
/- What the ways of packing keep: every unit once, every carton within the master's. -/
namespace Go.Proofs.YthddjkokpfdbnaaGreat
open Go
open Enc (rd ow)
open Arg (argv)
open Ret (retv)
open Wf (wf)
theorem mas_typ {r:Request} (hc:clsM r = 0):typM r r.fMaster = some (masM r) ∧ masM r ∈ r.fTypes ∧ typB (masM r) = true:=by
 have h:=(clsM_zero hc).2.1
 unfold namB at h
 simp only [Bool.and_eq_true] at h
 obtain ⟨t,ht⟩:=Option.isSome_iff_exists.1 h.1.2
 have e:masM r = t:=by unfold masM; rw [ht]; rfl
 have hm:t ∈ r.fTypes:=List.mem_of_find?_eq_some ht
 rw [e]
 exact ⟨ht,hm,bou_types (clsM_zero hc).1 t hm⟩
theorem vol_one {r:Request} {u:Int} (h:0 ≤ u ∧ u < (untM r).length):volM r [u] = volI (itmZ r u) ∧ grmM r [u] = (itmZ r u).fGram:=by
 unfold volM grmM itsM
 simp [List.filterMap_cons,itmZ_in h]
def Qc (r:Request) (us:List Int) (l:List Int):Prop:=l ≠ [] ∧ (∀ u ∈ l,u ∈ us) ∧ witB r l (masM r) = true
theorem ordM_perm (r:Request) (us:List Int):(ordM r us).Perm us:=by
 unfold ordM
 refine ((srt_perm _ _).map _).trans ?_
 have key:∀ (xs pre:List Int),us = pre ++ xs → (ints pre.length xs.length).map (fun p=>(ix us p).getD 0) = xs:=by
  intro xs
  induction xs with
  | nil=>intro pre _; rfl
  | cons x xs ih =>
   intro pre he
   have h1:=ih (pre ++ [x]) (by simp [he])
   simp only [List.length_append,List.length_singleton] at h1
   simp only [List.length_cons,ints,List.map_cons]
   rw [show ((pre.length:Int) + 1) = ((pre.length + 1:Nat):Int) by omega,h1]
   congr 1
   rw [ix_nat,he]
   simp
 have:=key us [] rfl
 simp only [List.length_nil] at this
 exact List.Perm.of_eq this
theorem putF_flat (g:List Int → Bool) (out:List (List Int)) (u:Int):(putF g out u).flatten.Perm (out.flatten ++ [u]):=by
 unfold putF
 split
 · rename_i i hi
   obtain ⟨x,hx,_⟩:=fstI_lt hi
   rw [hx]
   exact set_flat hx
 · simp
theorem nxtF_flat (r:Request) (out:List (List Int)) (u:Int):(nxtF r out u).flatten.Perm (out.flatten ++ [u]):=by
 cases hlast:out.getLast? with
 | none =>
  have:out = []:=List.getLast?_eq_none_iff.1 hlast
  subst this
  unfold nxtF
  simp
 | some x =>
  rw [nxtF_some u hlast]
  cases romB r u x
  · simp
  · rw [cond_true]
    rw [List.getLast?_eq_getElem?] at hlast
    exact set_flat hlast
theorem fold_flat {F:List (List Int) → Int → List (List Int)} (hF:∀ out u,(F out u).flatten.Perm (out.flatten ++ [u])):∀ (vs:List Int) (out:List (List Int)),(vs.foldl F out).flatten.Perm (out.flatten ++ vs)
 | [],out=>by simp
 | v :: vs,out=>by
  rw [List.foldl_cons]
  refine (fold_flat hF vs _).trans (((hF out v).append_right vs).trans ?_)
  simp
theorem pw_flat (r:Request) (us:List Int):(pwM r us).flatten.Perm (thrM r us):=by
 unfold pwM nfM ffM
 cases r.fWay == 1
 · rw [cond_false]
   refine (fold_flat (fun out u=>putF_flat _ out u) _ []).trans ?_
   simpa using ordM_perm r (thrM r us)
 · rw [cond_true]
   refine (fold_flat (fun out u=>nxtF_flat r out u) _ []).trans ?_
   simp
end Go.Proofs.YthddjkokpfdbnaaGreat
/- What is marked: orders, lists of numbers, lists of lists. -/
namespace Go.Proofs.YthddjkokpfdbnaaGreat
open Go
open Enc (rd ow)
open Arg (argv)
open Ret (retv)
open Wf (wf)
end Go.Proofs.YthddjkokpfdbnaaGreat
/- Lists of cartons in the laws: their size, copies, equality, marks. -/
namespace Go.Proofs.YthddjkokpfdbnaaGreat
open Go
open Enc (rd ow)
open Arg (argv)
open Ret (retv)
open Wf (wf)
def lensC:List Carton → Nat
 | []=>0
 | x :: xs=>x.fUnits.length + lensC xs
end Go.Proofs.YthddjkokpfdbnaaGreat
/- Plans in the laws: their size, copies, equality, marks. -/
namespace Go.Proofs.YthddjkokpfdbnaaGreat
open Go
open Enc (rd ow)
open Arg (argv)
open Ret (retv)
open Wf (wf)
structure Sp (x:Plan):Prop where
 cars:x.fCartons.length ≤ 1048576
 units:∀ c ∈ x.fCartons,c.fUnits.length ≤ 1048576
 all:lensC x.fCartons ≤ 1048576
 spots:x.fSpots.length ≤ 1048576
end Go.Proofs.YthddjkokpfdbnaaGreat
/- PlanOk, by spec and by impl. -/
namespace Go.Proofs.YthddjkokpfdbnaaGreat
open Go
open Enc (rd ow)
open Arg (argv)
open Ret (retv)
open Wf (wf)
end Go.Proofs.YthddjkokpfdbnaaGreat
/- OnPallet and PalletGram, by spec and by impl. -/
namespace Go.Proofs.YthddjkokpfdbnaaGreat
open Go
open Enc (rd ow)
open Arg (argv)
open Ret (retv)
open Wf (wf)
end Go.Proofs.YthddjkokpfdbnaaGreat
/- Lost of spec and of impl. -/
namespace Go.Proofs.YthddjkokpfdbnaaGreat
open Go
open Enc (rd ow)
open Arg (argv)
open Ret (retv)
open Wf (wf)
end Go.Proofs.YthddjkokpfdbnaaGreat
/- impl's hasOf: is one of some units of a group. -/
namespace Go.Proofs.YthddjkokpfdbnaaGreat
open Go
open Enc (rd ow)
open Arg (argv)
open Ret (retv)
open Wf (wf)
theorem i_hasOf {fu:Nat} {r:Request} (h:Sm fu r) {g us:List Int} (hg:g.length ≤ 1048576) (hl:us.length ≤ 1048576):d_impl_hasOf fu r g us = some (us.any (inG r g)):=by
 have hfu:=h.fu
 have hil:=itsM_len r us
 unfold d_impl_hasOf
 rw [i_items h us hl (by omega),ob_some,i_anyItem (fun y=>d_impl_hasOf_1 fu y g) (fun x=>g.contains x.fClass) (fun x _=>by unfold d_impl_hasOf_1; rw [i_has hg (by omega)]; rfl) (by omega) (by omega),ob_some]
 congr 1
 unfold itsM
 induction us with
 | nil=>rfl
 | cons u us ih =>
  have ih':=ih (by simp at hl; omega) (itsM_len r us)
  rw [List.any_cons,← ih',List.filterMap_cons]
  unfold inG
  cases itmM r u <;> simp
end Go.Proofs.YthddjkokpfdbnaaGreat
/- Mixes of spec and of impl. -/
namespace Go.Proofs.YthddjkokpfdbnaaGreat
open Go
open Enc (rd ow)
open Arg (argv)
open Ret (retv)
open Wf (wf)
def gt1 (n:Int):Bool:=decide (1 < n)
theorem i_mix {fu:Nat} {r:Request} (h:Sm fu r) (cs:List (List Int)) (hl:cs.length ≤ 1048576) (hm:∀ x ∈ cs,x.length ≤ 1048576):d_impl_Mixes fu r cs = some (cs.any (mixB r)):=by
 have hfu:=h.fu
 have hg:=grpM_ok r
 unfold d_impl_Mixes d_slices_ContainsFunc_ints_int
 rw [i_grp h,ob_some,i_idxInts (fun y=>d_impl_Mixes_1 fu y (grpM r) r) (mixB r) (fun c hc=>by
  have hcl:=hm c hc
  have hg1:=hg.1
  unfold d_impl_Mixes_1
  rw [mix_cnt]
  have:=lpI (grpM r) (fun n s i=>d_impl_Mixes_1_L1 fu c (grpM r) r n s i) (fun l n=>some (gt1 (n + cntB (fun g=>c.any (inG r g)) l))) (fun l n=>0 ≤ n ∧ n + l.length ≤ 1048576 ∧ ∀ g ∈ l,g.length ≤ 4) (by omega) ?_ ?_ fu 0 ⟨by omega,by omega,hg.2⟩ (by omega)
  · simpa [gt1] using this
  · intro n s i g xs hx hd hI ih
    have hI2:=hI.2.1
    have hgl:=hI.2.2 g (by simp)
    simp only [List.length_cons] at hI2
    simp only [d_impl_Mixes_1_L1.eq_2]
    unfold d_impl_Mixes_1_L1_B d_impl_Mixes_1_J1
    simp only [hd,cond_true,hx,ob_some,i_hasOf h (show g.length ≤ 1048576 by omega) hcl,cntB]
    have e1:=ih (w64 (s + 1))
    have e2:=ih s ⟨by omega,by omega,fun y hy=>hI.2.2 y (by simp [hy])⟩
    rw [w64_id (by omega) (by omega)] at e1
    have e1:=e1 ⟨by omega,by omega,fun y hy=>hI.2.2 y (by simp [hy])⟩
    rw [w64_id (n:=s + 1) (by omega) (by omega),e1,e2]
    cases c.any (inG r g)
    · simp [bitI]
    · simp only [bitI,cond_true]
      congr 2
      omega
  · intro n s i hd hI
    simp only [d_impl_Mixes_1_L1.eq_2]
    unfold d_impl_Mixes_1_L1_B
    simp only [hd,cond_false,cntB]
    simp [gt1]) hl (by omega),ob_some,fndI_any _ cs 0 (by omega)]
 rfl
end Go.Proofs.YthddjkokpfdbnaaGreat
/- Check, by spec and by impl. -/
namespace Go.Proofs.YthddjkokpfdbnaaGreat
open Go
open Enc (rd ow)
open Arg (argv)
open Ret (retv)
open Wf (wf)
def cs (x:Plan):List (Carton × Spot):=x.fCartons.zip x.fSpots
end Go.Proofs.YthddjkokpfdbnaaGreat
/- Check, by impl. -/
namespace Go.Proofs.YthddjkokpfdbnaaGreat
open Go
open Enc (rd ow)
open Arg (argv)
open Ret (retv)
open Wf (wf)
theorem grp_named {r:Request} {u:Int} (hu:0 ≤ u ∧ u < (untM r).length) {g:Int} (hg:0 ≤ g) :
    (gofM (grpM r) (itmZ r u).fClass == g) = (match ix (grpM r) g with | some l=>l.contains (itmZ r u).fClass | none=>false):=by
 have hi:=itmZ_in hu
 obtain ⟨i,l,h1,h2,h3⟩:=gof_prs (itm_prs hi)
 rw [h3]
 apply Bool.eq_iff_iff.2
 constructor
 · intro h
   have e:(i:Int) = g:=by simpa using h
   rw [← e,ix_at h1]
   simpa using h2
 · intro h
   cases hx:ix (grpM r) g with
   | none=>rw [hx] at h; cases h
   | some m =>
    rw [hx] at h
    obtain ⟨g0,g1,g2⟩:=ix_some hx
    have:=grp_apart h1 g2 h2 (by simpa using h)
    simp; omega
end Go.Proofs.YthddjkokpfdbnaaGreat
/- The plan of an order, by spec. -/
namespace Go.Proofs.YthddjkokpfdbnaaGreat
open Go
open Enc (rd ow)
open Arg (argv)
open Ret (retv)
open Wf (wf)
theorem sumI_perm {a b:List Int} (h:a.Perm b):sumI a = sumI b:=by
 induction h with
 | nil=>rfl
 | cons x _ ih=>simp [ih]
 | swap x y l=>simp; omega
 | trans _ _ h1 h2=>rw [h1,h2]
theorem its_perm {r:Request} {a b:List Int} (h:a.Perm b):(itsM r a).Perm (itsM r b):=h.filterMap _
theorem vol_perm {r:Request} {a b:List Int} (h:a.Perm b):volM r a = volM r b:=sumI_perm ((its_perm h).map _)
theorem grm_perm {r:Request} {a b:List Int} (h:a.Perm b):grmM r a = grmM r b:=sumI_perm ((its_perm h).map _)
theorem crtF_filter (r:Request) (k:Int):∀ (ks:List Int),ks.Nodup → ((crtF r ks).filter fun c=>c.fGroup == k) = bif ks.contains k then crtK r k else []
 | [],_=>rfl
 | j :: ks,hn=>by
  obtain ⟨h1,h2⟩:=List.nodup_cons.1 hn
  have ih:=crtF_filter r k ks h2
  rw [crtF,List.filter_append,ih]
  have hj:∀ c ∈ crtK r j,c.fGroup = j:=by
   intro c hc
   unfold crtK at hc
   obtain ⟨l,_,rfl⟩:=List.mem_map.1 hc
   rfl
  by_cases e:k = j
  · subst e
    have e1:(crtK r k).filter (fun c=>c.fGroup == k) = crtK r k:=List.filter_eq_self.2 fun c hc=>by simp [hj c hc]
    have e2:ks.contains k = false:=by simpa using h1
    rw [e1,e2]
    simp
  · have e1:(crtK r j).filter (fun c=>c.fGroup == k) = []:=List.filter_eq_nil_iff.2 fun c hc=>by simp [hj c hc]; omega
    rw [e1]
    have e2:(j :: ks).contains k = ks.contains k:=by simp [e]
    rw [e2]; rfl
end Go.Proofs.YthddjkokpfdbnaaGreat
/- Squeeze and Spare of spec and of impl. -/
namespace Go.Proofs.YthddjkokpfdbnaaGreat
open Go
open Enc (rd ow)
open Arg (argv)
open Ret (retv)
open Wf (wf)
def inU (r:Request) (cs:List (List Int)):Prop:=∀ c ∈ cs,∀ y ∈ c,0 ≤ y ∧ y < (untM r).length
theorem len_le_flat {c:List Int} {cs:List (List Int)} (h:c ∈ cs):c.length ≤ cs.flatten.length:=by
 induction cs with
 | nil=>simp at h
 | cons x xs ih =>
  rw [List.flatten_cons,List.length_append]
  rcases List.mem_cons.1 h with e | h
  · subst e; omega
  · have:=ih h; omega
theorem setx_flat {out:List (List Int)} {j u:Int} {c:List Int} (h:ix out j = some c):(setx out j (c ++ [u])).flatten.Perm (out.flatten ++ [u]):=by
 obtain ⟨h0,h1,h2⟩:=ix_some h
 exact set_flat h2
theorem cut_flat {out:List (List Int)} {k:Int} {c:List Int} (h:ix out k = some c):out.flatten.Perm ((out.take k.toNat ++ out.drop (k.toNat + 1)).flatten ++ c):=by
 obtain ⟨h0,h1,h2⟩:=ix_some h
 have hk:=(List.getElem?_eq_some_iff.1 h2).1
 have hx:=(List.getElem?_eq_some_iff.1 h2).2
 have e:out = out.take k.toNat ++ c :: out.drop (k.toNat + 1):=by
  rw [← hx,← List.drop_eq_getElem_cons hk,List.take_append_drop]
 have e2:out.flatten = (out.take k.toNat).flatten ++ (c ++ (out.drop (k.toNat + 1)).flatten):=by
  conv=>lhs; rw [e]
  simp
 rw [e2,List.flatten_append,List.append_assoc]
 exact List.Perm.append_left _ List.perm_append_comm
structure Ez (r:Request) (k:Int) (c0:List Int) (T:List Int) (us:List Int) (out:List (List Int)):Prop where
 src:ix out k = some c0
 all:(out.flatten ++ us).Perm (T ++ c0)
 inn:inU r out
 inu:∀ u ∈ us,0 ≤ u ∧ u < (untM r).length
 len:out.length ≤ 12
 tot:(T ++ c0).length ≤ 24
theorem Ez.lens {r:Request} {k:Int} {c0 T us:List Int} {out:List (List Int)} (h:Ez r k c0 T us out):out.flatten.length + us.length ≤ 24:=by
 have h1:=h.all.length_eq
 have h2:=h.tot
 simp only [List.length_append] at h1 h2
 omega
theorem Ez.step {r:Request} {k:Int} {c0 T us:List Int} {out:List (List Int)} {u j:Int} {c:List Int} (h:Ez r k c0 T (u :: us) out) (hj:ix out j = some c) (hjk:j ≠ k):Ez r k c0 T us (setx out j (c ++ [u])):=by
 obtain ⟨j0,j1,j2⟩:=ix_some hj
 obtain ⟨k0,k1,k2⟩:=ix_some h.src
 refine ⟨?_,?_,?_,fun v hv=>h.inu v (by simp [hv]),by unfold setx; simp; exact h.len,h.tot⟩
 · unfold ix setx
   rw [if_pos k0,List.getElem?_set,if_neg (by omega)]
   exact k2
 · refine ((setx_flat (u:=u) hj).append_right us).trans ?_
   simpa using h.all
 · intro d hd y hy
   unfold setx at hd
   rcases List.mem_or_eq_of_mem_set hd with hd | rfl
   · exact h.inn d hd y hy
   · rcases List.mem_append.1 hy with hy | hy
     · exact h.inn c (ix_mem hj) y hy
     · rw [List.mem_singleton.1 hy]; exact h.inu u (by simp)
structure Rz (r:Request) (cs:List (List Int)):Prop where
 len:cs.length ≤ 12
 tot:cs.flatten.length ≤ 12
 inn:inU r cs
theorem Rz.ez {r:Request} {cs:List (List Int)} (h:Rz r cs) {k:Int} {c:List Int} (hk:ix cs k = some c):Ez r k c cs.flatten c cs :=
 ⟨hk,List.Perm.refl _,h.inn,h.inn c (ix_mem hk),h.len,by have:=len_le_flat (ix_mem hk); have:=h.tot; rw [List.length_append]; omega⟩
end Go.Proofs.YthddjkokpfdbnaaGreat
