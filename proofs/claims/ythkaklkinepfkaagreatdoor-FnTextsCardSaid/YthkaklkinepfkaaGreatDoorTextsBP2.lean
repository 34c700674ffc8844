/- TextsBP: plain lemmas, part 2. -/
import Derived.Test.YthkaklkinepfkaaGreatDoorTextsBP1
set_option linter.unusedSimpArgs false
set_option linter.unusedVariables false
namespace Go.Proofs.YthkaklkinepfkaaGreatDoor
open Go
open Enc (rd ow)
open Arg (argv)
open Ret (retv)
open Wf (wf)
def putF (g:List Int → Bool) (out:List (List Int)) (u:Int):List (List Int):=match fstI g out with
 | some i=>match out[i]? with
  | some x=>out.set i (x ++ [u])
  | none=>out
 | none=>out ++ [[u]]
def romB (r:Request) (u:Int) (l:List Int):Bool:=witB r (l ++ [u]) (masM r)
def fitF (r:Request) (out:List (List Int)) (u:Int):List (List Int):=putF (romB r u) out u
def nxtF (r:Request) (out:List (List Int)) (u:Int):List (List Int):=match out.getLast? with
 | some l=>bif romB r u l then out.set (out.length - 1) (l ++ [u]) else out ++ [[u]]
 | none=>[[u]]
theorem nxtF_some {r:Request} {out:List (List Int)} {l:List Int} (u:Int) (h:out.getLast? = some l):nxtF r out u = bif romB r u l then out.set (out.length - 1) (l ++ [u]) else out ++ [[u]]:=by unfold nxtF; rw [h]
def ordM (r:Request) (us:List Int):List Int:=(srt (dnk (us.map fun u=>volM r [u])) us.length).map fun p=>(ix us p).getD 0
def nfM (r:Request) (us:List Int):List (List Int):=(thrM r us).foldl (nxtF r) []
def ffM (r:Request) (us:List Int):List (List Int):=(ordM r (thrM r us)).foldl (fitF r) []
def pwM (r:Request) (us:List Int):List (List Int):=bif r.fWay == 1 then nfM r us else ffM r us
theorem putF_ok {g:List Int → Bool} {out:List (List Int)} {n:Nat} (u:Int) (h:okG n out):okG (n + 1) (putF g out u):=by
 obtain ⟨h1,h2⟩:=h
 unfold putF
 split
 · rename_i i hi
   split
   · rename_i x hx
     refine ⟨by simp; omega,fun l hl=>?_⟩
     rcases List.mem_or_eq_of_mem_set hl with hl | rfl
     · have:=h2 l hl; omega
     · have:=h2 x (List.mem_of_getElem? hx); simp; omega
   · exact ⟨by omega,fun l hl=>by have:=h2 l hl; omega⟩
 · refine ⟨by simp; omega,fun l hl=>?_⟩
   rcases List.mem_append.1 hl with hl | hl
   · have:=h2 l hl; omega
   · rw [List.mem_singleton.1 hl]; simp
theorem nxtF_ok {r:Request} {out:List (List Int)} {n:Nat} (u:Int) (h:okG n out):okG (n + 1) (nxtF r out u):=by
 obtain ⟨h1,h2⟩:=h
 unfold nxtF
 split
 · rename_i x hx
   have hm:=List.mem_of_getLast? hx
   cases romB r u x
   · refine ⟨by simp; omega,fun l hl=>?_⟩
     rcases List.mem_append.1 hl with hl | hl
     · have:=h2 l hl; omega
     · rw [List.mem_singleton.1 hl]; simp
   · refine ⟨by simp; omega,fun l hl=>?_⟩
     rcases List.mem_or_eq_of_mem_set hl with hl | rfl
     · have:=h2 l hl; omega
     · have:=h2 x hm; simp; omega
 · exact ⟨by simp,fun l hl=>by rw [List.mem_singleton.1 hl]; simp⟩
theorem fold_ok {F:List (List Int) → Int → List (List Int)} (hF:∀ out n u,okG n out → okG (n + 1) (F out u)):∀ (l:List Int) {out:List (List Int)} {n:Nat},okG n out → okG (n + l.length) (l.foldl F out)
 | [],_,_,h=>h
 | u :: l,out,n,h=>by
  have:=fold_ok hF l (hF out n u h)
  rw [List.foldl_cons,List.length_cons,show n + (l.length + 1) = n + 1 + l.length by omega]
  exact this
theorem thr_le {r:Request} {us:List Int} (h:us.length ≤ 12):(thrM r us).length ≤ 12:=Nat.le_trans (thrM_len r us) h
theorem ordM_len (r:Request) (us:List Int):(ordM r us).length = us.length:=by simp [ordM,srt_len]
theorem pwM_ok {r:Request} {us:List Int} (h:us.length ≤ 12):okG 12 (pwM r us):=by
 have ht:=thr_le (r:=r) h
 have h0:okG 0 ([]:List (List Int)):=⟨by simp,by simp⟩
 unfold pwM
 cases r.fWay == 1
 · have:=fold_ok (F:=fitF r) (fun out n u ho=>putF_ok u ho) (ordM r (thrM r us)) h0
   rw [ordM_len] at this
   exact ⟨by have:=this.1; simp only [cond_false]; unfold ffM; omega,fun l hl=>by have:=this.2 l hl; omega⟩
 · have:=fold_ok (F:=nxtF r) (fun out n u ho=>nxtF_ok u ho) (thrM r us) h0
   exact ⟨by have:=this.1; simp only [cond_true]; unfold nfM; omega,fun l hl=>by have:=this.2 l hl; omega⟩
theorem put_atF {g:List Int → Bool} {out:List (List Int)} {c:Int} {n:Nat} (h:okG n out) (hn:n ≤ 1048576) {β:Type} (k:List (List Int) → Option β) (a:Int) (ha:a = match fstI g out with | some i=>(i:Int) | none=>-1) :
    (bif (decide (a < 0)) then obind (apnd 24 out [([c]:List Int)]) fun x=>k x else obind (ix out a) fun x=>obind (apnd 8 x (([c]:List Int))) fun y=>obind (ix out a) fun z=>k (setx out a y)) = k (putF g out c):=by
 obtain ⟨h1,h2⟩:=h
 unfold putF
 cases hf:fstI g out with
 | none =>
  rw [hf] at ha
  simp only at ha
  subst ha
  rw [bif_true (by simp),ap1 (by simp; omega),ob_some]
 | some i =>
  rw [hf] at ha
  simp only at ha
  subst ha
  obtain ⟨x,hx,_⟩:=fstI_lt hf
  have:=h2 x (List.mem_of_getElem? hx)
  rw [bif_false (by simp),ix_nat,hx,ob_some,ap1 (by simp; omega),ob_some,ob_some]
  simp [setx,hx]
theorem thr_cls {r:Request} (h:(clsM r == 0) = false) (us:List Int):thrM r us = []:=by
 unfold thrM untM
 rw [h]
 apply List.filter_eq_nil_iff.2
 intro u _
 simp; omega
theorem s_l6u {fu:Nat} {r:Request} (h:Sm fu r) (hc:clsM r = 0):d_spec_l6Units fu r = some (untM r):=s_l6c h hc
theorem last_at {α:Type} {out:List α} (h:out ≠ []):∃ l,out.getLast? = some l ∧ ix out ((out.length:Int) - 1) = some l:=by
 cases hl:out.getLast? with
 | none=>exact absurd (List.getLast?_eq_none_iff.1 hl) h
 | some l =>
  have hp:=List.length_pos_iff.2 h
  refine ⟨l,rfl,?_⟩
  rw [show (out.length:Int) - 1 = ((out.length - 1:Nat):Int) by omega,ix_nat,← List.getLast?_eq_getElem?,hl]
theorem s_next {fu:Nat} {r:Request} (h:Sm fu r) (us:List Int) (hl:us.length ≤ 1048575):d_spec_NextFit fu r us = some (nfM r us):=by
 have hfu:=h.fu
 have htl:=thrM_len r us
 unfold d_spec_NextFit nfM
 rw [s_cls h,ob_some]
 cases hc:clsM r == 0
 · rw [show (clsM r != 0) = true by simp only [bne,hc]; rfl,cond_true,thr_cls hc]; rfl
 · have hz:clsM r = 0:=by simpa using hc
   rw [show (clsM r != 0) = false by simp [hz],cond_false,s_l6u h hz,ob_some,s_known h us (by omega),ob_some]
   unfold d_spec_l7Next
   rw [s_mas h,ob_some,s_l6u h hz,ob_some]
   have key:=lpI (thrM r us) (fun n (o:List (List Int)) i=>d_spec_l7Next_L1 fu r (thrM r us) (othM (typM r r.fMaster)) (untM r) n o i) (fun xs o=>some (xs.foldl (nxtF r) o)) (fun xs o=>∃ m,m + xs.length ≤ 1048575 ∧ okG m o) (by omega) ?_ ?_ fu [] ⟨0,by omega,by simp,by simp⟩ (by omega)
   · rw [key]; rfl
   · intro n o i u xs hx hd hI ih
     obtain ⟨m,hm,ho⟩:=hI
     simp only [List.length_cons] at hm
     have h1:=ho.1
     have h2:=ho.2
     have hI':=ih (nxtF r o u) ⟨m + 1,by omega,nxtF_ok u ho⟩
     simp only [d_spec_l7Next_L1.eq_2]
     unfold d_spec_l7Next_L1_B d_spec_l7Next_J1
     rw [hd,cond_true,List.foldl_cons,← hI',w64_id (by omega) (by omega)]
     by_cases he:o = []
     · subst he
       rw [decide_eq_false (by simp),cond_false,hx,ob_some,ap1 (by simp),ob_some]; rfl
     · obtain ⟨l,e1,e2⟩:=last_at he
       have hp:=List.length_pos_iff.2 he
       have hll:=h2 l (List.mem_of_getLast? e1)
       rw [decide_eq_true (by omega),cond_true,e2,ob_some,hx,ob_some,othM_1,s_l7Room r _ l u (by omega) (by omega),ob_some]
       rw [nxtF_some u e1]
       unfold romB
       cases witB r (l ++ [u]) (masM r)
       · rw [cond_false,cond_false,ob_some,ap1 (by simp; omega),ob_some]
       · rw [cond_true,cond_true,ob_some,ob_some,ap1 (by simp; omega),ob_some,ob_some]
         rw [show setx o ((o.length:Int) - 1) (l ++ [u]) = o.set (o.length - 1) (l ++ [u]) by unfold setx; congr 1; omega]
   · intro n o i hd _
     simp only [d_spec_l7Next_L1.eq_2]
     unfold d_spec_l7Next_L1_B
     rw [hd,cond_false]; rfl
theorem ord_ix {us:List Int} {p:Int} (h:0 ≤ p ∧ p < us.length):ix us p = some ((ix us p).getD 0):=by
 have:=ix_i (l:=us) (i:=p.toNat) (by omega)
 rw [show ((p.toNat:Nat):Int) = p by omega] at this
 rw [this]; rfl
theorem foldl_map' {α β γ:Type} (f:γ → β → γ) (g:α → β):∀ (l:List α) (s:γ),(l.map g).foldl f s = l.foldl (fun s x=>f s (g x)) s
 | [],_=>rfl
 | x :: l,s=>by rw [List.map_cons,List.foldl_cons,List.foldl_cons,foldl_map' f g l]
theorem s_first {fu:Nat} {r:Request} (h:Sm fu r) (us:List Int) (hl:us.length < 20):d_spec_FirstFit fu r us = some (ffM r us):=by
 have hfu:=h.fu
 have htl:=thrM_len r us
 unfold d_spec_FirstFit ffM ordM
 rw [s_cls h,ob_some]
 cases hc:clsM r == 0
 · rw [show (clsM r != 0) = true by simp only [bne,hc]; rfl,cond_true,thr_cls hc]; rfl
 · have hz:clsM r = 0:=by simpa using hc
   rw [show (clsM r != 0) = false by simp [hz],cond_false,s_l6u h hz,ob_some,s_known h us (by omega),ob_some]
   unfold d_spec_l7First
   rw [s_mas h,ob_some,s_l6u h hz,ob_some]
   generalize thrM r us = t at htl ⊢
   have key:=lpI t (fun n (o:List Int) i=>d_spec_l7First_L3 fu r t (othM (typM r r.fMaster)) (untM r) n o i) (fun xs o=>obind (d_spec_SortDown fu (o ++ xs.map fun u=>volM r [u])) fun x=>d_spec_l7First_L2 fu r t (othM (typM r r.fMaster)) (untM r) x fu [] 0) (fun xs o=>o.length + xs.length ≤ 20) (by omega) ?_ ?_ fu [] (by simp; omega) (by omega)
   · rw [key,List.nil_append,s_down hfu (by simp; omega),ob_some,foldl_map',List.length_map]
     have hsl:=srt_len (dnk (t.map fun u=>volM r [u])) t.length
     have hsm:=fun x=>srt_mem (k:=dnk (t.map fun u=>volM r [u])) (n:=t.length) (x:=x)
     generalize srt (dnk (t.map fun u=>volM r [u])) t.length = S at hsl hsm ⊢
     have key1:=lpI S (fun n (o:List (List Int)) i=>d_spec_l7First_L2 fu r t (othM (typM r r.fMaster)) (untM r) S n o i) (fun xs o=>some (xs.foldl (fun s p=>fitF r s ((ix t p).getD 0)) o)) (fun xs o=>(∃ m,m + xs.length ≤ 20 ∧ okG m o) ∧ ∀ p ∈ xs,0 ≤ p ∧ p < t.length) (by omega) ?_ ?_ fu [] ⟨⟨0,by omega,by simp,by simp⟩,fun p hp=>(hsm p).1 hp⟩ (by omega)
     · rw [key1]; rfl
     · intro n o i p xs hx hd hI ih
       obtain ⟨⟨m,hm,ho⟩,hin⟩:=hI
       simp only [List.length_cons] at hm
       have hp:=ord_ix (hin p (by simp))
       have ho1:=ho.1
       simp only [d_spec_l7First_L2.eq_2]
       unfold d_spec_l7First_L2_B
       rw [hd,cond_true,hx,ob_some,hp,ob_some,List.foldl_cons]
       generalize (ix t p).getD 0 = u
       obtain ⟨K,hK⟩:∃ K,K = d_spec_l7First_L2 fu r t (othM (typM r r.fMaster)) (untM r) S n:=⟨_,rfl⟩
       rw [← hK] at ih ⊢
       obtain ⟨R,hR⟩:∃ R:Int → Option (List (List Int)),R = fun a=>bif (decide (a < 0)) then obind (apnd 24 o [([u]:List Int)]) fun x=>K x (w64 (i + 1)) else obind (ix o a) fun x=>obind (apnd 8 x (([u]:List Int))) fun y=>obind (ix o a) fun z=>K (setx o a y) (w64 (i + 1)):=⟨_,rfl⟩
       have hD:=lpD o.length (fun n a j=>d_spec_l7First_L1 fu K r (othM (typM r r.fMaster)) (untM r) o i u n a j) (fun xs a=>R (xs.foldl (lasI (romB r u) o) a)) (by omega) ?_ ?_ fu (-1) (by omega)
       · rw [hD,hR]
         refine (put_atF (g:=romB r u) (c:=u) ho (by omega) (fun x=>K x (w64 (i + 1))) _ ?_).trans (ih _ ⟨⟨m + 1,by omega,putF_ok u ho⟩,fun q hq=>hin q (by simp [hq])⟩)
         rw [fold_down (romB r u) o o.length (-1) (Nat.le_refl _),List.take_length]
         cases fstI (romB r u) o <;> rfl
       · intro n a j xs h0 h1 hd ih
         simp only [d_spec_l7First_L1.eq_2]
         unfold d_spec_l7First_L1_B d_spec_l7First_J2
         obtain ⟨j,rfl⟩:∃ q:Nat,j = q:=⟨j.toNat,by omega⟩
         have hj:j < o.length:=by omega
         have hg:=ho.2 _ (List.getElem_mem hj)
         rw [hd,cond_true,ix_i hj,ob_some,othM_1,s_l7Room r _ _ u (by omega) (by omega),ob_some]
         have e:lasI (romB r u) o a (j:Int) = bif witB r (o[j] ++ [u]) (masM r) then (j:Int) else a:=by unfold lasI atB romB; rw [ix_i hj]
         simp only [ih,List.foldl_cons,e]
         cases witB r (o[j] ++ [u]) (masM r) <;> rfl
       · intro n a j hd
         simp only [d_spec_l7First_L1.eq_2]
         unfold d_spec_l7First_L1_B d_spec_l7First_J1
         rw [hd,cond_false,hR]; rfl
     · intro n o i hd _
       simp only [d_spec_l7First_L2.eq_2]
       unfold d_spec_l7First_L2_B
       rw [hd,cond_false]; rfl
   · intro n o i u xs hx hd hI ih
     simp only [List.length_cons] at hI
     obtain ⟨i0,i1,i2⟩:=ix_some hx
     have e:sls t i (w64 (i + 1)) = some [u]:=by
      rw [w64_id (by omega) (by omega),sls_some (by omega)]
      congr 1
      rw [show (i + 1).toNat - i.toNat = 1 by omega]
      have hlt:=(List.getElem?_eq_some_iff.1 i2).1
      have heq:=(List.getElem?_eq_some_iff.1 i2).2
      rw [List.drop_eq_getElem_cons hlt,heq]; rfl
     simp only [d_spec_l7First_L3.eq_2]
     unfold d_spec_l7First_L3_B
     rw [hd,cond_true,e,ob_some,s_l7Of r [u] (by simp) (by simp; omega),ob_some,ap1 (by simp; omega),ob_some,ih _ (by simp; omega)]
     simp
   · intro n o i hd _
     simp only [d_spec_l7First_L3.eq_2]
     unfold d_spec_l7First_L3_B
     rw [hd,cond_false]; simp
theorem s_way {fu:Nat} {r:Request} (h:Sm fu r) (us:List Int) (hl:us.length < 20):d_spec_PackWay fu r us = some (pwM r us):=by
 unfold d_spec_PackWay pwM
 rw [s_next h us (by omega),s_first h us hl]
 cases r.fWay == 1 <;> rfl
def uOk (r:Request) (t:Typ) (u:Int):Bool:=(itmM r u).isSome && fitB (itmZ r u) t
def hldB (r:Request) (us:List Int) (t:Typ):Bool:=clsM r == 0 && (us.all (uOk r t) && witB r us t)
theorem s_holds {fu:Nat} {r:Request} (h:Sm fu r) (us:List Int) (t:Typ) (hl:us.length ≤ 1048576):d_spec_Holds fu r us t = some (hldB r us t):=by
 have hfu:=h.fu
 unfold d_spec_Holds hldB
 rw [s_cls h,ob_some]
 cases hc:clsM r == 0
 · have:(clsM r != 0) = true:=by simp only [bne,hc]; rfl
   rw [this]; rfl
 · have:(clsM r != 0) = false:=by simp only [bne,hc]; rfl
   have hz:clsM r = 0:=by simpa using hc
   have hu:d_spec_l6Units fu r = some (untM r):=s_l6c h hz
   rw [this,cond_false,hu,ob_some,Bool.true_and]
   have key:=lp us (fun n (_:Unit) i=>d_spec_Holds_L1 fu r us t (untM r) n i) (fun l _=>some (l.all (uOk r t) && witB r us t)) (by omega) ?_ ?_ fu () (by omega)
   · exact key
   · intro n _ i x xs hx hd ih
     simp only [d_spec_Holds_L1.eq_2]
     unfold d_spec_Holds_L1_B d_spec_Holds_J3 d_spec_Holds_J2
     simp only [hd,cond_true,hx,ob_some,s_item,ih (),List.all_cons,uOk]
     cases (itmM r x).isSome
     · rfl
     · simp only [Bool.not_true,cond_false,s_fit (show 2097153 ≤ fu by omega),ob_some]
       cases fitB (itmZ r x) t <;> rfl
   · intro n _ i hd
     simp only [d_spec_Holds_L1.eq_2]
     unfold d_spec_Holds_L1_B d_spec_Holds_J1
     simp only [hd,cond_false,s_l7Of r us hl (show us.length < fu by omega),ob_some,s_vol]
     show (bif decide (volM r us ≤ volT t) then _ else _) = _
     unfold witB
     cases decide (volM r us ≤ volT t) <;> simp
def chp (r:Request) (us:List Int) (s:Typ × Bool) (t:Typ):Typ × Bool :=
 bif hldB r us t && (!s.2 || (decide (t.fCost < s.1.fCost) || (t.fCost == s.1.fCost && decide (t.fId < s.1.fId)))) then (t,true) else s
def chpM (r:Request) (us:List Int):Typ × Bool:=r.fTypes.foldl (chp r us) (zTyp,false)
theorem s_cheap {fu:Nat} {r:Request} (h:Sm fu r) (us:List Int) (hl:us.length ≤ 1048576):d_spec_Cheapest fu r us = some (chpM r us):=by
 have hfu:=h.fu
 have ht:=h.types
 unfold d_spec_Cheapest
 have key:=lp r.fTypes (fun n (s:Typ × Bool) i=>d_spec_Cheapest_L1 fu r us n s.1 s.2 i) (fun l s=>some (l.foldl (chp r us) s)) (by omega) ?_ ?_ fu (zTyp,false) (by omega)
 · exact key
 · intro n s i x xs hx hd ih
   simp only [d_spec_Cheapest_L1.eq_2]
   unfold d_spec_Cheapest_L1_B d_spec_Cheapest_J1
   have ih':=fun a b=>ih (a,b)
   simp only at ih'
   obtain ⟨b,f⟩:=s
   simp only [hd,cond_true,hx,ob_some,s_holds h us x hl,ih',List.foldl_cons,chp]
   cases hldB r us x <;> cases f <;> cases decide (x.fCost < b.fCost) <;> cases x.fCost == b.fCost <;> cases decide (x.fId < b.fId) <;> rfl
 · intro n s i hd
   simp only [d_spec_Cheapest_L1.eq_2]
   unfold d_spec_Cheapest_L1_B
   simp only [hd,cond_false]
   rfl
def hasG (r:Request) (k:Int):Bool:=inb k 0 (((grpM r).length:Int) - 1)
theorem cls_of_grp {r:Request} {k:Int} (h:hasG r k = true):clsM r = 0:=by
 unfold hasG at h
 rw [inb_iff] at h
 by_cases hc:clsM r = 0
 · exact hc
 · have:grpM r = []:=by
     unfold grpM prsM
     rw [show (clsM r == 0) = false by simp [hc]]
     rfl
   rw [this] at h
   simp at h
   omega
theorem ofG_step (r:Request) (g:List Int) (u i:Int) (us:List Int) {x:Item} (hx:ix r.fItems i = some x):ofG r g u (i :: us) = bif g.contains x.fClass then u :: ofG r g (u + 1) us else ofG r g (u + 1) us:=by
 rw [ofG,hx]
theorem s_uof {fu:Nat} {r:Request} (h:Sm fu r) (k:Int):d_spec_UnitsOf fu r k = some (uofM r k):=by
 have hfu:=h.fu
 unfold d_spec_UnitsOf uofM
 rw [s_grp h,ob_some,w64_grp,s_in,ob_some]
 cases hg:inb k 0 (((grpM r).length:Int) - 1)
 · rw [Bool.not_false,cond_true]
   have:ix (grpM r) k = none:=by
    have hk:¬ (0 ≤ k ∧ k ≤ ((grpM r).length:Int) - 1):=by intro hk; rw [(inb_iff).2 hk] at hg; cases hg
    unfold ix
    by_cases h0:0 ≤ k
    · rw [if_pos h0,List.getElem?_eq_none (by omega)]
    · rw [if_neg h0]
   rw [this]
 · have hc:=cls_of_grp hg
   rw [inb_iff] at hg
   obtain ⟨j,rfl⟩:∃ j:Nat,k = j:=⟨k.toNat,by omega⟩
   have hj:j < (grpM r).length:=by omega
   have hgl:=(grpM_ok r).2 _ (List.getElem_mem hj)
   rw [Bool.not_true,cond_false,s_l6 h (clsM_zero hc).1,ob_some,ix_i hj]
   have e:untM r = l6M r:=by unfold untM; rw [show (clsM r == 0) = true by simp [hc],cond_true]
   simp only [e]
   have hlen:(l6M r).length ≤ 12:=l6M_len (clsM_zero hc).1
   have:=lpPI (l6M r) (fun n out i=>d_spec_UnitsOf_L1 fu r (j:Int) (grpM r) (l6M r) n out i) (fun pre xs out=>some (out ++ ofG r (grpM r)[j] (pre.length:Int) xs)) (fun pre xs out=>out.length + xs.length ≤ 12) (by omega) ?_ ?_ fu [] (by simpa using hlen) (by omega)
   · simpa using this
   · intro n out pre i xs hl hx hd hI ih
     simp only [List.length_cons] at hI
     have hi:i ∈ untM r:=by rw [e,hl]; simp
     have hi2:=untM_mem hi
     obtain ⟨q,rfl⟩:∃ q:Nat,i = q:=⟨i.toNat,by omega⟩
     have hq:q < r.fItems.length:=by omega
     simp only [d_spec_UnitsOf_L1.eq_2]
     unfold d_spec_UnitsOf_L1_B d_spec_UnitsOf_J1
     simp only [hd,cond_true,hx,ob_some,ix_i hj,ix_i hq,s_has (show (grpM r)[j].length ≤ 1048576 by omega) (show (grpM r)[j].length < fu by omega)]
     rw [ofG_step r _ _ _ _ (ix_i hq)]
     cases (grpM r)[j].contains r.fItems[q].fClass
     · rw [cond_false,cond_false,ih _ (by omega)]
       simp
     · rw [cond_true,cond_true,ap1 (by simp; omega),ob_some,ih _ (by simp; omega)]
       simp
   · intro n out hd hI
     simp only [d_spec_UnitsOf_L1.eq_2]
     unfold d_spec_UnitsOf_L1_B
     simp only [hd,cond_false]
     simp [ofG]
def srtI (l:List Int):List Int:=l.mergeSort fun x y=>decide (x ≤ y)
theorem srtI_perm (l:List Int):(srtI l).Perm l:=List.mergeSort_perm l _
theorem srtI_len (l:List Int):(srtI l).length = l.length:=(srtI_perm l).length_eq
def crtM (r:Request) (k:Int) (l:List Int):Carton:=⟨(chpM r l).1.fId,k,srtI l⟩
def crtK (r:Request) (k:Int):List Carton:=(pwM r (uofM r k)).map (crtM r k)
def crtF (r:Request):List Int → List Carton
 | []=>[]
 | k :: ks=>crtK r k ++ crtF r ks
def crtL (r:Request):List Carton:=crtF r (ints 0 (grpM r).length)
theorem ints_getC (l:List Int):(ints 0 l.length).map (fun p=>(ix l p).getD 0) = l:=by
 have key:∀ (xs pre:List Int),l = pre ++ xs → (ints pre.length xs.length).map (fun p=>(ix l p).getD 0) = xs:=by
  intro xs
  induction xs with
  | nil=>intro pre _; rfl
  | cons x xs ih =>
   intro pre he
   have h1:=ih (pre ++ [x]) (by simp [he])
   simp only [List.length_append,List.length_singleton] at h1
   simp only [List.length_cons,ints,List.map_cons]
   rw [show ((pre.length:Int) + 1) = ((pre.length + 1:Nat):Int) by omega,h1]
   congr 1
   rw [ix_nat,he]
   simp
 exact key l [] rfl
theorem srt_get (l:List Int):(srt (kf l) l.length).map (fun p=>(ix l p).getD 0) = srtI l:=by
 refine le_uniq ?_ ?_ (mergeSort_le l)
 · refine ((srt_perm _ _).map _).trans ?_
   rw [ints_getC]
   exact (srtI_perm l).symm
 · refine List.pairwise_map.2 ((srt_sorted (kf l) l.length).imp fun {p q} h=>?_)
   unfold lx kf at h
   omega
theorem crtK_len {r:Request} (k:Int):(crtK r k).length ≤ 12:=by
 have:=(pwM_ok (r:=r) (uofM_len r k)).1
 simp [crtK]; omega
theorem s_crt {fu:Nat} {r:Request} (h:Sm fu r):d_spec_CartonsOf fu r = some (crtL r):=by
 have hfu:=h.fu
 have hg:=(grpM_ok r).1
 unfold d_spec_CartonsOf crtL
 rw [s_grp h,ob_some]
 have:=lpNI ((grpM r).length:Int) (fun n out i=>d_spec_CartonsOf_L3 fu r (grpM r) n out i) (fun xs out=>some (out ++ crtF r xs)) (fun xs out=>out.length + 12 * xs.length ≤ 48) (by omega) ?_ ?_ (grpM r).length fu [] 0 (by omega) (by omega) (by omega) (by simp [ints_len]; omega)
 · simpa using this
 · intro n out k ks h0 h1 hd hI ih
   simp only [List.length_cons] at hI
   have hul:=uofM_len r k
   have hpo:=pwM_ok (r:=r) hul
   simp only [d_spec_CartonsOf_L3.eq_2]
   unfold d_spec_CartonsOf_L3_B
   rw [hd,cond_true,s_uof h,ob_some,s_way h _ (by omega),ob_some]
   have key:=lpI (pwM r (uofM r k)) (fun m o i=>d_spec_CartonsOf_L2 fu (d_spec_CartonsOf_L3 fu r (grpM r) n) r k (pwM r (uofM r k)) m o i) (fun xs o=>d_spec_CartonsOf_L3 fu r (grpM r) n (o ++ xs.map (crtM r k)) (w64 (k + 1))) (fun xs o=>o.length + xs.length ≤ 48 ∧ ∀ l ∈ xs,l.length ≤ 12) (by have:=hpo.1; omega) ?_ ?_ fu out ⟨by have:=hpo.1; omega,hpo.2⟩ (by have:=hpo.1; omega)
   · rw [key,ih _ (by have:=hpo.1; simp; omega)]
     simp [crtF,crtK]
   · intro m o i l xs hx hd hI ih
     obtain ⟨h2,h3⟩:=hI
     simp only [List.length_cons] at h2
     have hl:=h3 l (by simp)
     simp only [d_spec_CartonsOf_L2.eq_2]
     unfold d_spec_CartonsOf_L2_B d_spec_CartonsOf_J3
     rw [hd,cond_true,hx,ob_some,s_cheap h l (by omega),ob_some,ob_some,s_up hfu (by omega),ob_some]
     have hsl:=srt_len (kf l) l.length
     have hsm:=fun x=>srt_mem (k:=kf l) (n:=l.length) (x:=x)
     have hsg:=srt_get l
     generalize srt (kf l) l.length = S at hsl hsm hsg ⊢
     have k1:=lpI S (fun m' us j=>d_spec_CartonsOf_L1 fu (d_spec_CartonsOf_L2 fu (d_spec_CartonsOf_L3 fu r (grpM r) n) r k (pwM r (uofM r k)) m) k (pwM r (uofM r k)) o i (chpM r l).1 S m' us j)
      (fun xs us=>obind (apnd 40 o [(⟨(chpM r l).1.fId,k,us ++ xs.map fun p=>(ix l p).getD 0⟩:Carton)]) fun x=>d_spec_CartonsOf_J2 fu (d_spec_CartonsOf_L2 fu (d_spec_CartonsOf_L3 fu r (grpM r) n) r k (pwM r (uofM r k)) m) i x) (fun xs us=>us.length + xs.length ≤ 12 ∧ ∀ p ∈ xs,0 ≤ p ∧ p < l.length) (by omega) ?_ ?_ fu [] ⟨by simp; omega,fun p hp=>(hsm p).1 hp⟩ (by omega)
     · rw [k1,List.nil_append,hsg,ap1 (by simp; omega),ob_some]
       unfold d_spec_CartonsOf_J2
       rw [ih _ ⟨by simp; omega,fun y hy=>h3 y (by simp [hy])⟩]
       simp [crtM]
     · intro m' us j p ps hp hd hI ih
       obtain ⟨h4,h5⟩:=hI
       simp only [List.length_cons] at h4
       simp only [d_spec_CartonsOf_L1.eq_2]
       unfold d_spec_CartonsOf_L1_B
       rw [hd,cond_true,hx,ob_some,hp,ob_some,ord_ix (h5 p (by simp)),ob_some,ap1 (by simp; omega),ob_some,ih _ ⟨by simp; omega,fun y hy=>h5 y (by simp [hy])⟩]
       simp
     · intro m' us j hd _
       simp only [d_spec_CartonsOf_L1.eq_2]
       unfold d_spec_CartonsOf_L1_B
       rw [hd,cond_false]; simp
   · intro m o i hd _
     simp only [d_spec_CartonsOf_L2.eq_2]
     unfold d_spec_CartonsOf_L2_B d_spec_CartonsOf_J1
     rw [hd,cond_false]; simp
 · intro n out k hd _
   simp only [d_spec_CartonsOf_L3.eq_2]
   unfold d_spec_CartonsOf_L3_B
   rw [hd,cond_false]; simp [crtF]
theorem crtF_len (r:Request):∀ (ks:List Int),(crtF r ks).length ≤ 12 * ks.length
 | []=>by simp [crtF]
 | k :: ks=>by
  have:=crtF_len r ks
  have:=crtK_len (r:=r) k
  simp [crtF]; omega
theorem crtL_len (r:Request):(crtL r).length ≤ 48:=by
 have:=crtF_len r (ints 0 (grpM r).length)
 have hg:=(grpM_ok r).1
 rw [ints_len] at this
 unfold crtL
 omega
theorem crtF_mem {r:Request} {c:Carton}:∀ {ks:List Int},c ∈ crtF r ks ↔ ∃ k ∈ ks,∃ l ∈ pwM r (uofM r k),c = crtM r k l
 | []=>by simp [crtF]
 | k :: ks=>by
  simp only [crtF,List.mem_append,crtF_mem (ks:=ks),List.mem_cons,crtK,List.mem_map]
  constructor
  · rintro (⟨l,hl,rfl⟩ | ⟨k',hk,l,hl,e⟩)
    · exact ⟨k,.inl rfl,l,hl,rfl⟩
    · exact ⟨k',.inr hk,l,hl,e⟩
  · rintro ⟨k',rfl | hk,l,hl,rfl⟩
    · exact .inl ⟨l,hl,rfl⟩
    · exact .inr ⟨k',hk,l,hl,rfl⟩
theorem crt_units {r:Request} {c:Carton} (h:c ∈ crtL r):c.fUnits.length ≤ 12:=by
 obtain ⟨k,_,l,hl,rfl⟩:=crtF_mem.1 h
 have:=(pwM_ok (r:=r) (uofM_len r k)).2 l hl
 simp only [crtM,srtI_len]
 omega
theorem lpAll {α:Type} (l:List α) (L:Nat → Int → Option Bool) (g:α → Bool) (fin:Option Bool) (hl:l.length ≤ 1099511627776)
    (hs:∀ n (i:Int) x,ix l i = some x → decide (i < (l.length:Int)) = true → L (n + 1) i = bif g x then L n (w64 (i + 1)) else some false)
    (he:∀ n (i:Int),decide (i < (l.length:Int)) = false → L (n + 1) i = fin):∀ n,l.length < n → L n 0 = bif l.all g then fin else some false:=by
 intro n hn
 refine lp l (fun n (_:Unit) i=>L n i) (fun xs _=>bif xs.all g then fin else some false) hl ?_ ?_ n () hn
 · intro n s i x xs hx hd ih
   rw [hs n i x hx hd,ih (),List.all_cons]
   cases g x <;> rfl
 · intro n s i hd
   rw [he n i hd]; rfl
structure Sep (p:List Pair) (P:List Int) (out:List (List Int)):Prop where
 ne:∀ g ∈ out,g ≠ []
 inn:∀ g ∈ out,∀ x ∈ g,x ∈ P
 one:∀ g ∈ out,∀ x ∈ g,∀ y ∈ g,x ≠ y → mutB p x y = true
 two:∀ (i j:Nat) (g h:List Int),out[i]? = some g → out[j]? = some h → i ≠ j → ∀ x ∈ g,∀ y ∈ h,mutB p x y = false
theorem s_typById {fu:Nat} {r:Request} (h:Sm fu r) (id:Int):d_spec_TypeById fu r id = some (othM (typM r id)):=by
 have hfu:=h.fu
 have ht:=h.types
 unfold d_spec_TypeById typM
 refine lp r.fTypes (fun n (_:Unit) i=>d_spec_TypeById_L1 fu r id n i) (fun l _=>some (othM (l.find? fun t=>t.fId == id))) (by omega) ?_ ?_ fu () (by omega)
 · intro n s i x xs hx hd ih
   simp only [d_spec_TypeById_L1.eq_2]
   unfold d_spec_TypeById_L1_B
   simp only [hd,cond_true,hx,ob_some,ih (),List.find?_cons]
   cases x.fId == id <;> rfl
 · intro n s i hd
   simp only [d_spec_TypeById_L1.eq_2]
   unfold d_spec_TypeById_L1_B
   simp only [hd,cond_false]
   rfl
def zBox:Box:=⟨0,0,0,0⟩
def grsM (r:Request) (x:Carton):Int:=match typM r x.fType with
 | some t=>bif clsM r == 0 then t.fTare + grmM r x.fUnits else 0
 | none=>0
def boxM (r:Request) (x:Carton):Box:=match typM r x.fType with
 | some t=>bif clsM r == 0 then ⟨t.fW,t.fD,t.fH,t.fTare + grmM r x.fUnits⟩ else zBox
 | none=>zBox
theorem typ_bd {r:Request} (hc:clsM r = 0) {id:Int} {t:Typ} (ht:typM r id = some t):typB t = true ∧ t ∈ r.fTypes ∧ t.fId = id:=by
 have hm:=List.mem_of_find?_eq_some ht
 have hp:=List.find?_some ht
 exact ⟨bou_types (clsM_zero hc).1 t hm,hm,by simpa using hp⟩
theorem tare_bd {r:Request} (hc:clsM r = 0) {id:Int} {t:Typ} (ht:typM r id = some t):0 ≤ t.fTare ∧ t.fTare ≤ 100000:=by
 have:=(typ_bd hc ht).1
 simp only [typB,Bool.and_eq_true,inb_iff] at this
 omega
theorem tare_add {r:Request} (hc:clsM r = 0) {id:Int} {t:Typ} (ht:typM r id = some t) (us:List Int) (hl:us.length ≤ 1048576):w64 (t.fTare + grmM r us) = t.fTare + grmM r us:=by
 have h1:=tare_bd hc ht
 have h2:=grmM_bd r us
 exact w64_id (by omega) (by omega)
theorem s_gross {fu:Nat} {r:Request} (h:Sm fu r) (x:Carton) (hl:x.fUnits.length ≤ 1048576):d_spec_Gross fu r x = some (grsM r x):=by
 have hfu:=h.fu
 unfold d_spec_Gross grsM
 rw [s_typById h,ob_some,othM_2,s_cls h,ob_some]
 cases hc:clsM r == 0
 · have:(clsM r != 0) = true:=by simp only [bne,hc]; rfl
   rw [this]
   cases typM r x.fType <;> rfl
 · have hc':clsM r = 0:=by simpa using hc
   rw [show (clsM r != 0) = false by simp [hc'],cond_false]
   cases ht:typM r x.fType with
   | none=>rfl
   | some t =>
    unfold d_spec_Gross_J1
    rw [s_grm h _ hl (by omega)]
    simp only [Option.isSome_some,Bool.not_true,cond_false,cond_true,ob_some,othM,tare_add hc' ht _ hl]
theorem s_boxM {fu:Nat} {r:Request} (h:Sm fu r) (x:Carton) (hl:x.fUnits.length ≤ 1048576):d_spec_BoxOf fu r x = some (boxM r x):=by
 unfold d_spec_BoxOf boxM
 rw [s_typById h,ob_some,othM_2,s_cls h,ob_some]
 cases hc:clsM r == 0
 · have:(clsM r != 0) = true:=by simp only [bne,hc]; rfl
   rw [this]
   cases typM r x.fType <;> rfl
 · have hc':clsM r = 0:=by simpa using hc
   rw [show (clsM r != 0) = false by simp [hc'],cond_false]
   cases ht:typM r x.fType with
   | none=>rfl
   | some t =>
    unfold d_spec_BoxOf_J1
    rw [s_gross h x hl]
    simp only [grsM,ht,hc,Option.isSome_some,Bool.not_true,cond_false,cond_true,ob_some,othM]
def knoB (b:Box) (s:Spot):Bool:=inb b.fW 0 2000 && (inb b.fD 0 2000 && (inb b.fH 0 2000 && (inb s.fX 0 2000 && (inb s.fY 0 2000 && inb s.fZ 0 2000))))
def winB (p:Pallet) (b:Box) (s:Spot):Bool :=
 knoB b s && (decide (b.fW > 0) && (decide (b.fD > 0) && (decide (b.fH > 0) && (decide (w64 (s.fX + b.fW) ≤ p.fW) && (decide (w64 (s.fY + b.fD) ≤ p.fD) && decide (w64 (s.fZ + b.fH) ≤ p.fH))))))
def crsB (a la b lb:Int):Bool:=decide (a < w64 (b + lb)) && decide (b < w64 (a + la))
def ovlB (a:Box) (s:Spot) (b:Box) (t:Spot):Bool :=
 knoB a s && (knoB b t && (s.fPallet == t.fPallet && (crsB s.fX a.fW t.fX b.fW && (crsB s.fY a.fD t.fY b.fD && crsB s.fZ a.fH t.fZ b.fH))))
theorem i_place (fu:Nat) (n:Int):d_impl_isPlace fu n = some (inb n 0 2000):=by unfold d_impl_isPlace; rw [i_in]; rfl
def palS (n:Int) (s:Spot):Int:=bif inb s.fPallet 0 999999 then (if s.fPallet + 1 > n then s.fPallet + 1 else n) else n
def palM (l:List Spot):Int:=l.foldl palS 0
theorem palS_bd {n:Int} (s:Spot) (h:0 ≤ n ∧ n ≤ 1000000):0 ≤ palS n s ∧ palS n s ≤ 1000000:=by
 unfold palS
 cases hi:inb s.fPallet 0 999999
 · exact h
 · have:=inb_iff.1 hi
   simp only [cond_true]
   split <;> omega
theorem palF_bd:∀ (l:List Spot) {n:Int},0 ≤ n ∧ n ≤ 1000000 → 0 ≤ l.foldl palS n ∧ l.foldl palS n ≤ 1000000
 | [],_,h=>h
 | s :: l,_,h=>palF_bd l (palS_bd s h)
theorem palM_bd (l:List Spot):0 ≤ palM l ∧ palM l ≤ 1000000:=palF_bd l (by omega)
theorem s_max (fu:Nat) (a b:Int):d_spec_l1Max fu a b = some (if a > b then a else b):=by
 unfold d_spec_l1Max
 by_cases h:a > b
 · simp [h]
 · simp [h]
theorem s_pals {fu:Nat} {l:List Spot} (hl:l.length ≤ 1048576) (hf:l.length < fu):d_spec_Pallets fu l = some (palM l):=by
 unfold d_spec_Pallets
 have key:=lp l (fun n (s:Int) i=>d_spec_Pallets_L1 fu l n s i) (fun l s=>some (l.foldl palS s)) (by omega) ?_ ?_ fu 0 hf
 · exact key
 · intro n s i x xs hx hd ih
   simp only [d_spec_Pallets_L1.eq_2]
   unfold d_spec_Pallets_L1_B d_spec_Pallets_J1
   simp only [hd,cond_true,hx,ob_some,s_in,s_max,ih,List.foldl_cons]
   unfold palS
   cases hi:inb x.fPallet 0 999999
   · rfl
   · have:=inb_iff.1 hi
     simp only [cond_true]
     rw [w64_id (by omega) (by omega)]
     congr 2
     split <;> split <;> omega
 · intro n s i hd
   simp only [d_spec_Pallets_L1.eq_2]
   unfold d_spec_Pallets_L1_B
   simp only [hd,cond_false]
   rfl
theorem ix_in {α:Type} {l:List α} {i:Int} (h0:0 ≤ i) (h1:i < l.length):∃ x,ix l i = some x:=by
 obtain ⟨j,rfl⟩:∃ j:Nat,i = j:=⟨i.toNat,by omega⟩
 exact ⟨_,ix_i (by omega)⟩
def bokB (p:Pallet) (b:Box):Bool:=inb b.fW 1 p.fW && (inb b.fD 1 p.fD && (inb b.fH 1 p.fH && inb b.fGram 1 p.fGram))
def bosB (p:Pallet) (l:List Box):Bool:=palB p && l.all (bokB p)
theorem s_bos {fu:Nat} (p:Pallet) (l:List Box) (hl:l.length ≤ 1048576) (hf:l.length < fu):d_spec_BoxesOk fu p l = some (bosB p l):=by
 unfold d_spec_BoxesOk bosB
 rw [s_pal,ob_some]
 cases palB p
 · rfl
 · rw [Bool.not_true,cond_false,Bool.true_and]
   have:=lpAll l (fun n i=>d_spec_BoxesOk_L1 fu p l n i) (bokB p) (some true) (by omega) ?_ ?_ fu hf
   · rw [this]
     cases l.all (bokB p) <;> rfl
   · intro n i x hx hd
     simp only [d_spec_BoxesOk_L1.eq_2]
     unfold d_spec_BoxesOk_L1_B d_spec_BoxesOk_J1 bokB
     simp only [hd,cond_true,hx,ob_some,s_in]
     cases inb x.fW 1 p.fW <;> cases inb x.fD 1 p.fD <;> cases inb x.fH 1 p.fH <;> cases inb x.fGram 1 p.fGram <;> rfl
   · intro n i hd
     simp only [d_spec_BoxesOk_L1.eq_2]
     unfold d_spec_BoxesOk_L1_B
     rw [hd,cond_false]
def nxG {σ:Type} (fits:σ → Bool) (add:σ → σ) (z:σ) (out:List σ):List σ:=match out.getLast? with
 | some s=>bif fits s then out.set (out.length - 1) (add s) else out ++ [add z]
 | none=>[add z]
theorem nxG_some {σ:Type} {fits:σ → Bool} {add:σ → σ} {z:σ} {out:List σ} {s:σ} (h:out.getLast? = some s):nxG fits add z out = bif fits s then out.set (out.length - 1) (add s) else out ++ [add z]:=by unfold nxG; rw [h]
theorem nxG_len {σ:Type} (fits:σ → Bool) (add:σ → σ) (z:σ) (out:List σ):(nxG fits add z out).length ≤ out.length + 1:=by
 unfold nxG
 split
 · cases fits _ <;> simp
 · simp
theorem nxG_all {σ:Type} {fits:σ → Bool} {add:σ → σ} {z:σ} {out:List σ} {I:σ → Prop} (h:∀ s ∈ out,I s) (ha:∀ s,I s → fits s = true → I (add s)) (hz:I (add z)):∀ s ∈ nxG fits add z out,I s:=by
 intro s hs
 unfold nxG at hs
 split at hs
 · rename_i x hx
   have hm:=List.mem_of_getLast? hx
   cases hf:fits x
   · rw [hf,cond_false] at hs
     rcases List.mem_append.1 hs with hs | hs
     · exact h s hs
     · rw [List.mem_singleton.1 hs]; exact hz
   · rw [hf,cond_true] at hs
     rcases List.mem_or_eq_of_mem_set hs with hs | rfl
     · exact h s hs
     · exact ha x (h x hm) hf
 · rw [List.mem_singleton.1 hs]; exact hz
theorem nxG_flat {σ:Type} {fits:σ → Bool} {add:σ → σ} {z:σ} {out:List σ} {f:σ → List Int} {i:Int} (ha:∀ s,f (add s) = f s ++ [i]) (hz:f z = []):((nxG fits add z out).map f).flatten = (out.map f).flatten ++ [i]:=by
 unfold nxG
 split
 · rename_i x hx
   cases fits x
   · rw [cond_false,List.map_append,List.flatten_append]
     simp [ha,hz]
   · rw [cond_true]
     have hne:out ≠ []:=by intro e; rw [e] at hx; simp at hx
     have e:out = out.dropLast ++ [x]:=by
      have h1:=List.dropLast_concat_getLast hne
      rw [List.getLast?_eq_some_getLast hne] at hx
      rw [Option.some.inj hx] at h1
      exact h1.symm
     obtain ⟨d,hd⟩:∃ d,out = d ++ [x]:=⟨_,e⟩
     rw [hd]
     simp [ha]
 · rename_i hx
   have:out = []:=List.getLast?_eq_none_iff.1 hx
   subst this
   simp [ha,hz]
def mxI (a b:Int):Int:=if a > b then a else b
theorem mxI_ge (a b:Int):a ≤ mxI a b ∧ b ≤ mxI a b ∧ (mxI a b = a ∨ mxI a b = b):=by unfold mxI; split <;> omega
def zBx:Box:=⟨0,0,0,0⟩
def bxA (l:List Box) (i:Int):Box:=(ix l i).getD zBx
def zSh:Shelf:=⟨[],0,0,0,0⟩
def shAdd (s:Shelf) (i:Int) (b:Box):Shelf:=⟨s.fList ++ [i],s.fW + b.fW,mxI s.fD b.fD,mxI s.fH b.fH,s.fGram + b.fGram⟩
def shFit (p:Pallet) (b:Box) (s:Shelf):Bool:=decide (s.fW + b.fW ≤ p.fW) && decide (s.fGram + b.fGram ≤ p.fGram)
def shS (p:Pallet) (l:List Box) (out:List Shelf) (i:Int):List Shelf:=nxG (shFit p (bxA l i)) (fun s=>shAdd s i (bxA l i)) zSh out
def shM (p:Pallet) (l:List Box):List Shelf:=bif bosB p l then (srt (dnk (l.map (·.fD))) l.length).foldl (shS p l) [] else []
structure ShI (p:Pallet) (n:Nat) (s:Shelf):Prop where
 ne:s.fList ≠ []
 inn:∀ i ∈ s.fList,0 ≤ i ∧ i < n
 w:1 ≤ s.fW ∧ s.fW ≤ p.fW
 d:1 ≤ s.fD ∧ s.fD ≤ p.fD
 h:1 ≤ s.fH ∧ s.fH ≤ p.fH
 g:1 ≤ s.fGram ∧ s.fGram ≤ p.fGram
theorem bok_at {p:Pallet} {l:List Box} (h:bosB p l = true) {i:Int} (hi:0 ≤ i ∧ i < l.length):ix l i = some (bxA l i) ∧ (1 ≤ (bxA l i).fW ∧ (bxA l i).fW ≤ p.fW) ∧ (1 ≤ (bxA l i).fD ∧ (bxA l i).fD ≤ p.fD) ∧ (1 ≤ (bxA l i).fH ∧ (bxA l i).fH ≤ p.fH) ∧ (1 ≤ (bxA l i).fGram ∧ (bxA l i).fGram ≤ p.fGram):=by
 obtain ⟨x,hx⟩:=ix_in (l:=l) hi.1 hi.2
 have e:bxA l i = x:=by unfold bxA; rw [hx]; rfl
 unfold bosB at h
 simp only [Bool.and_eq_true] at h
 have:=List.all_eq_true.1 h.2 x (ix_mem hx)
 simp only [bokB,Bool.and_eq_true,inb_iff] at this
 rw [e]
 exact ⟨hx,this.1,this.2.1,this.2.2.1,this.2.2.2⟩
theorem pal_bd {p:Pallet} (h:palB p = true):(1 ≤ p.fW ∧ p.fW ≤ 2000) ∧ (1 ≤ p.fD ∧ p.fD ≤ 2000) ∧ (1 ≤ p.fH ∧ p.fH ≤ 2000) ∧ (1 ≤ p.fGram ∧ p.fGram ≤ 100000):=by
 simp only [palB,Bool.and_eq_true,inb_iff] at h
 exact ⟨h.1,h.2.1,h.2.2.1,h.2.2.2⟩
theorem bos_pal {p:Pallet} {l:List Box} (h:bosB p l = true):palB p = true:=by
 unfold bosB at h
 simp only [Bool.and_eq_true] at h
 exact h.1
theorem shS_all {p:Pallet} {l:List Box} (hb:bosB p l = true) {out:List Shelf} {i:Int} (hi:0 ≤ i ∧ i < l.length) (h:∀ s ∈ out,ShI p l.length s):∀ s ∈ shS p l out i,ShI p l.length s:=by
 obtain ⟨_,b1,b2,b3,b4⟩:=bok_at hb hi
 refine nxG_all h (fun s hs hf=>?_) ⟨by simp [shAdd],fun j hj=>?_,?_,?_,?_,?_⟩
 · unfold shFit at hf
   simp only [Bool.and_eq_true,decide_eq_true_eq] at hf
   obtain ⟨s1,s2,s3,s4,s5,s6⟩:=hs
   have m1:=mxI_ge s.fD (bxA l i).fD
   have m2:=mxI_ge s.fH (bxA l i).fH
   refine ⟨by simp [shAdd],fun j hj=>?_,?_,?_,?_,?_⟩
   · simp only [shAdd,List.mem_append,List.mem_singleton] at hj
     rcases hj with hj | rfl
     · exact s2 j hj
     · exact hi
   · simp only [shAdd]; omega
   · simp only [shAdd]; omega
   · simp only [shAdd]; omega
   · simp only [shAdd]; omega
 · simp only [shAdd,zSh,List.nil_append,List.mem_singleton] at hj
   rw [hj]; exact hi
 · simp only [shAdd,zSh]; omega
 · have:=mxI_ge 0 (bxA l i).fD
   simp only [shAdd,zSh]; omega
 · have:=mxI_ge 0 (bxA l i).fH
   simp only [shAdd,zSh]; omega
 · simp only [shAdd,zSh]; omega
theorem shF_all {p:Pallet} {l:List Box} (hb:bosB p l = true):∀ (is:List Int) (out:List Shelf),(∀ i ∈ is,0 ≤ i ∧ i < l.length) → (∀ s ∈ out,ShI p l.length s) → (∀ s ∈ is.foldl (shS p l) out,ShI p l.length s) ∧ ((is.foldl (shS p l) out).map (·.fList)).flatten = (out.map (·.fList)).flatten ++ is ∧ (is.foldl (shS p l) out).length ≤ out.length + is.length
 | [],out,_,h=>⟨h,by simp,by simp⟩
 | i :: is,out,hi,h=>by
  rw [List.foldl_cons]
  obtain ⟨h1,h2,h3⟩:=shF_all hb is (shS p l out i) (fun j hj=>hi j (by simp [hj])) (shS_all hb (hi i (by simp)) h)
  have h4:((shS p l out i).map (·.fList)).flatten = (out.map (·.fList)).flatten ++ [i]:=nxG_flat (fun s=>rfl) rfl
  have h5:(shS p l out i).length ≤ out.length + 1:=nxG_len _ _ _ _
  refine ⟨h1,by rw [h2,h4]; simp,by simp; omega⟩
theorem shM_all {p:Pallet} {l:List Box} (hb:bosB p l = true):(∀ s ∈ shM p l,ShI p l.length s) ∧ ((shM p l).map (·.fList)).flatten = srt (dnk (l.map (·.fD))) l.length ∧ (shM p l).length ≤ l.length:=by
 unfold shM
 rw [hb,cond_true]
 obtain ⟨h1,h2,h3⟩:=shF_all hb (srt (dnk (l.map (·.fD))) l.length) [] (fun i hi=>srt_mem.1 hi) (by simp)
 refine ⟨h1,by simpa using h2,?_⟩
 rw [srt_len] at h3
 simpa using h3
theorem s_l10 {fu:Nat} (s:Shelf) (i:Int) (b:Box) (hl:s.fList.length ≤ 1000000) (h1:-1000000000 ≤ s.fW + b.fW ∧ s.fW + b.fW ≤ 1000000000) (h2:-1000000000 ≤ s.fGram + b.fGram ∧ s.fGram + b.fGram ≤ 1000000000):d_spec_l10Add fu s i b = some (shAdd s i b):=by
 unfold d_spec_l10Add
 rw [ap1 (by simp; omega),ob_some,ap1 (by simp; omega),ob_some,s_max,ob_some,s_max,ob_some,w64_id (by omega) (by omega),w64_id (by omega) (by omega)]
 rfl
theorem flat_le {σ:Type} (f:σ → List Int):∀ (l:List σ) (s:σ),s ∈ l → (f s).length ≤ ((l.map f).flatten).length
 | [],_,h=>by simp at h
 | x :: l,s,h=>by
  simp only [List.map_cons,List.flatten_cons,List.length_append]
  rcases List.mem_cons.1 h with rfl | h
  · omega
  · have:=flat_le f l s h; omega
theorem s_shelves {fu:Nat} (hfu:2097153 ≤ fu) (p:Pallet) (l:List Box) (hl:l.length ≤ 1000):d_spec_Shelves fu p l = some (shM p l):=by
 unfold d_spec_Shelves shM
 rw [s_bos p l (by omega) (by omega),ob_some]
 cases hb:bosB p l
 · rfl
 · rw [Bool.not_true,cond_false,cond_true]
   have key:=lpI l (fun n (o:List Int) i=>d_spec_Shelves_L2 fu p l n o i) (fun xs o=>obind (d_spec_SortDown fu (o ++ xs.map (·.fD))) fun x=>d_spec_Shelves_L1 fu p l x fu [] 0) (fun xs o=>o.length + xs.length ≤ 1000) (by omega) ?_ ?_ fu [] (by simp; omega) (by omega)
   · rw [key,List.nil_append,s_down hfu (by simp; omega),ob_some,List.length_map]
     have hsl:=srt_len (dnk (l.map (·.fD))) l.length
     have hsm:=fun x=>srt_mem (k:=dnk (l.map (·.fD))) (n:=l.length) (x:=x)
     generalize srt (dnk (l.map (·.fD))) l.length = S at hsl hsm ⊢
     have L1:=lpI S (fun n (o:List Shelf) i=>d_spec_Shelves_L1 fu p l S n o i) (fun xs o=>some (xs.foldl (shS p l) o)) (fun xs o=>(∀ i ∈ xs,0 ≤ i ∧ i < l.length) ∧ (∀ s ∈ o,ShI p l.length s) ∧ ((o.map (·.fList)).flatten).length + xs.length ≤ 1000 ∧ o.length + xs.length ≤ 1000) (by omega) ?_ ?_ fu [] ⟨fun i hi=>(hsm i).1 hi,by simp,by simp; omega,by simp; omega⟩ (by omega)
     · exact L1
     · intro n o i x xs hx hd hI ih
       obtain ⟨i1,i2,i3,i4⟩:=hI
       simp only [List.length_cons] at i3 i4
       have hxi:=i1 x (by simp)
       obtain ⟨hbx,b1,b2,b3,b4⟩:=bok_at hb hxi
       obtain ⟨p1,p2,p3,p4⟩:=pal_bd (bos_pal hb)
       have hn:d_spec_l10Add fu zSh x (bxA l x) = some (shAdd zSh x (bxA l x)):=s_l10 zSh x _ (by simp [zSh]) (by simp [zSh]; omega) (by simp [zSh]; omega)
       have hn':d_spec_l10Add fu (⟨[],0,0,0,0⟩:Shelf) x (bxA l x) = some (shAdd zSh x (bxA l x)):=hn
       have hflat:((shS p l o x).map (·.fList)).flatten = (o.map (·.fList)).flatten ++ [x]:=nxG_flat (fun s=>rfl) rfl
       have hlen:(shS p l o x).length ≤ o.length + 1:=nxG_len _ _ _ _
       have ih':=ih (shS p l o x) ⟨fun j hj=>i1 j (by simp [hj]),shS_all hb hxi i2,by rw [hflat,List.length_append,List.length_singleton]; omega,by omega⟩
       simp only [d_spec_Shelves_L1.eq_2]
       unfold d_spec_Shelves_L1_B d_spec_Shelves_J1
       rw [hd,cond_true,hx,ob_some,hbx,ob_some,List.foldl_cons,← ih',hn',ob_some]
       by_cases he:o = []
       · subst he
         rw [bif_false (by simp),ob_some,ap1 (by simp),ob_some]; rfl
       · obtain ⟨s,e1,e2⟩:=last_at he
         have hp:=List.length_pos_iff.2 he
         have hsm':=List.mem_of_getLast? e1
         have hs:=i2 s hsm'
         have hsl':=flat_le (fun s:Shelf=>s.fList) o s hsm'
         rw [w64_id (n:=(o.length:Int) - 1) (by omega) (by omega),e2,ob_some,bif_true (by simp; omega)]
         obtain ⟨s1,s2,s3,s4,s5,s6⟩:=hs
         rw [w64_id (n:=s.fW + _) (by omega) (by omega),w64_id (n:=s.fGram + _) (by omega) (by omega),ob_some,ob_some,ob_some,s_l10 (fu:=fu) s x (bxA l x) (by omega) (by omega) (by omega)]
         simp only [ob_some]
         rw [ap1 (by simp; omega),ob_some]
         have eS:shS p l o x = bif shFit p (bxA l x) s then o.set (o.length - 1) (shAdd s x (bxA l x)) else o ++ [shAdd zSh x (bxA l x)]:=nxG_some e1
         rw [eS]
         unfold shFit
         rw [show setx o ((o.length:Int) - 1) (shAdd s x (bxA l x)) = o.set (o.length - 1) (shAdd s x (bxA l x)) by unfold setx; congr 1; omega]
         cases decide (s.fW + (bxA l x).fW ≤ p.fW) <;> cases decide (s.fGram + (bxA l x).fGram ≤ p.fGram) <;> rfl
     · intro n o i hd _
       simp only [d_spec_Shelves_L1.eq_2]
       unfold d_spec_Shelves_L1_B
       rw [hd,cond_false]; rfl
   · intro n o i x xs hx hd hI ih
     simp only [List.length_cons] at hI
     simp only [d_spec_Shelves_L2.eq_2]
     unfold d_spec_Shelves_L2_B
     rw [hd,cond_true,hx,ob_some,ap1 (by simp; omega),ob_some,ih _ (by simp; omega)]
     simp
   · intro n o i hd _
     simp only [d_spec_Shelves_L2.eq_2]
     unfold d_spec_Shelves_L2_B
     rw [hd,cond_false]; simp
def okL (p:Pallet) (d h g:Int):Bool:=inb d 1 p.fD && (inb h 1 p.fH && inb g 1 p.fGram)
theorem s_l11 (fu:Nat) (p:Pallet) (d h g:Int):d_spec_l11Ok fu p d h g = some (okL p d h g):=by
 unfold d_spec_l11Ok okL
 simp only [s_in,ob_some]
 cases inb d 1 p.fD <;> cases inb h 1 p.fH <;> rfl
theorem s_sho {fu:Nat} (p:Pallet) (l:List Shelf) (hl:l.length ≤ 1048576) (hf:l.length < fu):d_spec_ShelvesOk fu p l = some (palB p && l.all fun s=>okL p s.fD s.fH s.fGram):=by
 unfold d_spec_ShelvesOk
 rw [s_pal,ob_some]
 cases palB p
 · rfl
 · rw [Bool.not_true,cond_false,Bool.true_and]
   have:=lpAll l (fun n i=>d_spec_ShelvesOk_L1 fu p l n i) (fun s=>okL p s.fD s.fH s.fGram) (some true) (by omega) ?_ ?_ fu hf
   · rw [this]
     cases l.all fun s=>okL p s.fD s.fH s.fGram <;> rfl
   · intro n i x hx hd
     simp only [d_spec_ShelvesOk_L1.eq_2]
     unfold d_spec_ShelvesOk_L1_B
     simp only [hd,cond_true,hx,ob_some,s_l11]
     cases okL p x.fD x.fH x.fGram <;> rfl
   · intro n i hd
     simp only [d_spec_ShelvesOk_L1.eq_2]
     unfold d_spec_ShelvesOk_L1_B
     rw [hd,cond_false]
theorem s_sto {fu:Nat} (p:Pallet) (l:List Layer) (hl:l.length ≤ 1048576) (hf:l.length < fu):d_spec_StacksOk fu p l = some (palB p && l.all fun s=>okL p s.fD s.fH s.fGram):=by
 unfold d_spec_StacksOk
 rw [s_pal,ob_some]
 cases palB p
 · rfl
 · rw [Bool.not_true,cond_false,Bool.true_and]
   have:=lpAll l (fun n i=>d_spec_StacksOk_L1 fu p l n i) (fun s=>okL p s.fD s.fH s.fGram) (some true) (by omega) ?_ ?_ fu hf
   · rw [this]
     cases l.all fun s=>okL p s.fD s.fH s.fGram <;> rfl
   · intro n i x hx hd
     simp only [d_spec_StacksOk_L1.eq_2]
     unfold d_spec_StacksOk_L1_B
     simp only [hd,cond_true,hx,ob_some,s_l11]
     cases okL p x.fD x.fH x.fGram <;> rfl
   · intro n i hd
     simp only [d_spec_StacksOk_L1.eq_2]
     unfold d_spec_StacksOk_L1_B
     rw [hd,cond_false]
def shA (l:List Shelf) (i:Int):Shelf:=(ix l i).getD zSh
def zLy:Layer:=⟨[],0,0,0⟩
def lyAdd (x:Layer) (i:Int) (s:Shelf):Layer:=⟨x.fShelves ++ [i],x.fD + s.fD,mxI x.fH s.fH,x.fGram + s.fGram⟩
def lyFit (p:Pallet) (s:Shelf) (x:Layer):Bool:=decide (x.fD + s.fD ≤ p.fD) && decide (x.fGram + s.fGram ≤ p.fGram)
def lyS (p:Pallet) (l:List Shelf) (out:List Layer) (i:Int):List Layer:=nxG (lyFit p (shA l i)) (fun s=>lyAdd s i (shA l i)) zLy out
def lyM (p:Pallet) (l:List Shelf):List Layer:=(ints 0 l.length).foldl (lyS p l) []
structure LyI (p:Pallet) (n:Nat) (s:Layer):Prop where
 ne:s.fShelves ≠ []
 inn:∀ i ∈ s.fShelves,0 ≤ i ∧ i < n
 d:1 ≤ s.fD ∧ s.fD ≤ p.fD
 h:1 ≤ s.fH ∧ s.fH ≤ p.fH
 g:1 ≤ s.fGram ∧ s.fGram ≤ p.fGram
def OkS (p:Pallet) (l:List Shelf):Prop:=∀ s ∈ l,(1 ≤ s.fD ∧ s.fD ≤ p.fD) ∧ (1 ≤ s.fH ∧ s.fH ≤ p.fH) ∧ (1 ≤ s.fGram ∧ s.fGram ≤ p.fGram)
theorem shA_at {p:Pallet} {l:List Shelf} (h:OkS p l) {i:Int} (hi:0 ≤ i ∧ i < l.length):ix l i = some (shA l i) ∧ (1 ≤ (shA l i).fD ∧ (shA l i).fD ≤ p.fD) ∧ (1 ≤ (shA l i).fH ∧ (shA l i).fH ≤ p.fH) ∧ (1 ≤ (shA l i).fGram ∧ (shA l i).fGram ≤ p.fGram) ∧ shA l i ∈ l:=by
 obtain ⟨x,hx⟩:=ix_in (l:=l) hi.1 hi.2
 have e:shA l i = x:=by unfold shA; rw [hx]; rfl
 rw [e]
 exact ⟨hx,(h x (ix_mem hx)).1,(h x (ix_mem hx)).2.1,(h x (ix_mem hx)).2.2,ix_mem hx⟩
theorem lyS_all {p:Pallet} {l:List Shelf} (hb:OkS p l) {out:List Layer} {i:Int} (hi:0 ≤ i ∧ i < l.length) (h:∀ s ∈ out,LyI p l.length s):∀ s ∈ lyS p l out i,LyI p l.length s:=by
 obtain ⟨_,b1,b2,b3,_⟩:=shA_at hb hi
 refine nxG_all h (fun s hs hf=>?_) ⟨by simp [lyAdd],fun j hj=>?_,?_,?_,?_⟩
 · unfold lyFit at hf
   simp only [Bool.and_eq_true,decide_eq_true_eq] at hf
   obtain ⟨s1,s2,s4,s5,s6⟩:=hs
   have m2:=mxI_ge s.fH (shA l i).fH
   refine ⟨by simp [lyAdd],fun j hj=>?_,?_,?_,?_⟩
   · simp only [lyAdd,List.mem_append,List.mem_singleton] at hj
     rcases hj with hj | rfl
     · exact s2 j hj
     · exact hi
   · simp only [lyAdd]; omega
   · simp only [lyAdd]; omega
   · simp only [lyAdd]; omega
 · simp only [lyAdd,zLy,List.nil_append,List.mem_singleton] at hj
   rw [hj]; exact hi
 · simp only [lyAdd,zLy]; omega
 · have:=mxI_ge 0 (shA l i).fH
   simp only [lyAdd,zLy]; omega
 · simp only [lyAdd,zLy]; omega
theorem lyF_all {p:Pallet} {l:List Shelf} (hb:OkS p l):∀ (is:List Int) (out:List Layer),(∀ i ∈ is,0 ≤ i ∧ i < l.length) → (∀ s ∈ out,LyI p l.length s) → (∀ s ∈ is.foldl (lyS p l) out,LyI p l.length s) ∧ ((is.foldl (lyS p l) out).map (·.fShelves)).flatten = (out.map (·.fShelves)).flatten ++ is ∧ (is.foldl (lyS p l) out).length ≤ out.length + is.length
 | [],out,_,h=>⟨h,by simp,by simp⟩
 | i :: is,out,hi,h=>by
  rw [List.foldl_cons]
  obtain ⟨h1,h2,h3⟩:=lyF_all hb is (lyS p l out i) (fun j hj=>hi j (by simp [hj])) (lyS_all hb (hi i (by simp)) h)
  have h4:((lyS p l out i).map (·.fShelves)).flatten = (out.map (·.fShelves)).flatten ++ [i]:=nxG_flat (fun s=>rfl) rfl
  have h5:(lyS p l out i).length ≤ out.length + 1:=nxG_len _ _ _ _
  refine ⟨h1,by rw [h2,h4]; simp,by simp; omega⟩
theorem lyM_all {p:Pallet} {l:List Shelf} (hb:OkS p l):(∀ s ∈ lyM p l,LyI p l.length s) ∧ ((lyM p l).map (·.fShelves)).flatten = ints 0 l.length ∧ (lyM p l).length ≤ l.length:=by
 unfold lyM
 obtain ⟨h1,h2,h3⟩:=lyF_all hb (ints 0 l.length) [] (fun i hi=>by have:=ints_mem.1 hi; omega) (by simp)
 refine ⟨h1,by simpa using h2,?_⟩
 rw [ints_len] at h3
 simpa using h3
theorem okS_b {p:Pallet} {l:List Shelf} (h:OkS p l):(l.all fun s=>okL p s.fD s.fH s.fGram) = true:=by
 refine List.all_eq_true.2 fun s hs=>?_
 unfold okL
 simp only [Bool.and_eq_true,inb_iff]
 exact ⟨(h s hs).1,(h s hs).2.1,(h s hs).2.2⟩
theorem s_layers {fu:Nat} (hfu:2097153 ≤ fu) {p:Pallet} (hp:palB p = true) {l:List Shelf} (hb:OkS p l) (hl:l.length ≤ 1000):d_spec_LayersOf fu p l = some (lyM p l):=by
 unfold d_spec_LayersOf lyM
 rw [s_sho p l (by omega) (by omega),hp,okS_b hb,ob_some,Bool.and_self,Bool.not_true,cond_false]
 obtain ⟨p1,p2,p3,p4⟩:=pal_bd hp
 have L1:=lpNI (l.length:Int) (fun n (o:List Layer) i=>d_spec_LayersOf_L1 fu p l n o i) (fun xs o=>some (xs.foldl (lyS p l) o)) (fun xs o=>(∀ s ∈ o,LyI p l.length s) ∧ ((o.map (·.fShelves)).flatten).length + xs.length ≤ 1000 ∧ o.length + xs.length ≤ 1000) (by omega) ?_ ?_ l.length fu [] 0 (by omega) (by omega) (by omega) ⟨by simp,by simp [ints_len]; omega,by simp [ints_len]; omega⟩
 · exact L1
 · intro n o i xs x0 x1 hd hI ih
   obtain ⟨i2,i3,i4⟩:=hI
   simp only [List.length_cons] at i3 i4
   obtain ⟨hbx,b1,b2,b3,_⟩:=shA_at hb ⟨x0,x1⟩
   have hflat:((lyS p l o i).map (·.fShelves)).flatten = (o.map (·.fShelves)).flatten ++ [i]:=nxG_flat (fun s=>rfl) rfl
   have hlen:(lyS p l o i).length ≤ o.length + 1:=nxG_len _ _ _ _
   have ih':=ih (lyS p l o i) ⟨lyS_all hb ⟨x0,x1⟩ i2,by rw [hflat,List.length_append,List.length_singleton]; omega,by omega⟩
   have J:∀ (o':List Layer) (x:Layer),o'.length ≤ 1000 → (x.fShelves.length ≤ 1000) → (0 ≤ x.fD ∧ x.fD ≤ 2000) → (0 ≤ x.fGram ∧ x.fGram ≤ 100000) → d_spec_LayersOf_J2 fu (d_spec_LayersOf_L1 fu p l n) i (shA l i) (o' ++ [x]) ((o'.length:Int) + 1) = d_spec_LayersOf_L1 fu p l n (o' ++ [lyAdd x i (shA l i)]) (w64 (i + 1)):=by
    intro o' x h1 h2 h3 h4
    unfold d_spec_LayersOf_J2 d_spec_LayersOf_J1
    have e1:w64 ((o'.length:Int) + 1 - 1) = (o'.length:Int):=by rw [w64_id (by omega) (by omega)]; omega
    have e2:ix (o' ++ [x]) (o'.length:Int) = some x:=by rw [ix_nat]; simp
    rw [e1,e2,ob_some,ap1 (by simp; omega),ob_some,ap1 (by simp; omega),ob_some,s_max,ob_some,ob_some,w64_id (n:=x.fD + _) (by omega) (by omega),w64_id (n:=x.fGram + _) (by omega) (by omega)]
    have e3:∀ y:Layer,setx (o' ++ [x]) (o'.length:Int) y = o' ++ [y]:=by intro y; simp [setx]
    rw [e3]
    rfl
   simp only [d_spec_LayersOf_L1.eq_2]
   unfold d_spec_LayersOf_L1_B
   rw [hd,cond_true,hbx,ob_some,List.foldl_cons,← ih']
   by_cases he:o = []
   · subst he
     rw [bif_true (by simp),ap1 (by simp),ob_some]
     have:=J [] zLy (by simp) (by simp [zLy]) (by simp [zLy]) (by simp [zLy])
     rw [w64_id (by simp) (by simp)]
     exact this
   · obtain ⟨s,e1,e2⟩:=last_at he
     have hpl:=List.length_pos_iff.2 he
     have hsm':=List.mem_of_getLast? e1
     have hs:=i2 s hsm'
     have hsl':=flat_le (fun s:Layer=>s.fShelves) o s hsm'
     obtain ⟨s1,s2,s4,s5,s6⟩:=hs
     have eS:lyS p l o i = bif lyFit p (shA l i) s then o.set (o.length - 1) (lyAdd s i (shA l i)) else o ++ [lyAdd zLy i (shA l i)]:=nxG_some e1
     have eo:o = o.dropLast ++ [s]:=by
      have h1:=List.dropLast_concat_getLast he
      rw [List.getLast?_eq_some_getLast he] at e1
      rw [Option.some.inj e1] at h1
      exact h1.symm
     have e3:d_spec_LayersOf_J2 fu (d_spec_LayersOf_L1 fu p l n) i (shA l i) o (o.length:Int) = d_spec_LayersOf_L1 fu p l n (o.set (o.length - 1) (lyAdd s i (shA l i))) (w64 (i + 1)):=by
      obtain ⟨d,hd⟩:∃ d,o = d ++ [s]:=⟨_,eo⟩
      rw [hd] at i4 ⊢
      simp only [List.length_append,List.length_singleton] at i4
      have:=J d s (by omega) (by omega) (by omega) (by omega)
      rw [show (((d ++ [s]).length:Nat):Int) = (d.length:Int) + 1 by simp,this]
      congr 1
      simp
     have e4:d_spec_LayersOf_J2 fu (d_spec_LayersOf_L1 fu p l n) i (shA l i) (o ++ [zLy]) (w64 ((o.length:Int) + 1)) = d_spec_LayersOf_L1 fu p l n (o ++ [lyAdd zLy i (shA l i)]) (w64 (i + 1)):=by
      rw [w64_id (by omega) (by omega)]
      exact J o zLy (by omega) (by simp [zLy]) (by simp [zLy]) (by simp [zLy])
     rw [w64_id (n:=(o.length:Int) - 1) (by omega) (by omega),e2,ob_some,bif_false (by simp; omega),ob_some,w64_id (n:=s.fD + _) (by omega) (by omega),w64_id (n:=s.fGram + _) (by omega) (by omega),ap1 (by simp; omega),ob_some,e3]
     rw [show (⟨[],0,0,0⟩:Layer) = zLy from rfl,e4,eS]
     unfold lyFit
     by_cases c1:s.fD + (shA l i).fD ≤ p.fD
     · rw [bif_false (c:=decide (s.fD + (shA l i).fD > p.fD)) (by simp; omega),decide_eq_true c1]
       by_cases c2:s.fGram + (shA l i).fGram ≤ p.fGram
       · rw [bif_false (c:=decide (s.fGram + (shA l i).fGram > p.fGram)) (by simp; omega),decide_eq_true c2]; rfl
       · rw [bif_true (c:=decide (s.fGram + (shA l i).fGram > p.fGram)) (by simp; omega),decide_eq_false c2]; rfl
     · rw [bif_true (c:=decide (s.fD + (shA l i).fD > p.fD)) (by simp; omega),decide_eq_false c1]; rfl
 · intro n o i hd _
   simp only [d_spec_LayersOf_L1.eq_2]
   unfold d_spec_LayersOf_L1_B
   rw [hd,cond_false]; rfl
def lyA (l:List Layer) (i:Int):Layer:=(ix l i).getD zLy
def zLd:Load:=⟨[],0,0⟩
def ldAdd (x:Load) (i:Int) (s:Layer):Load:=⟨x.fLayers ++ [i],x.fH + s.fH,x.fGram + s.fGram⟩
def ldFit (p:Pallet) (s:Layer) (x:Load):Bool:=decide (x.fH + s.fH ≤ p.fH) && decide (x.fGram + s.fGram ≤ p.fGram)
def ldS (p:Pallet) (l:List Layer) (out:List Load) (i:Int):List Load:=nxG (ldFit p (lyA l i)) (fun s=>ldAdd s i (lyA l i)) zLd out
def ldM (p:Pallet) (l:List Layer):List Load:=(ints 0 l.length).foldl (ldS p l) []
structure LdI (p:Pallet) (n:Nat) (s:Load):Prop where
 ne:s.fLayers ≠ []
 inn:∀ i ∈ s.fLayers,0 ≤ i ∧ i < n
 h:1 ≤ s.fH ∧ s.fH ≤ p.fH
 g:1 ≤ s.fGram ∧ s.fGram ≤ p.fGram
def OkY (p:Pallet) (l:List Layer):Prop:=∀ s ∈ l,(1 ≤ s.fD ∧ s.fD ≤ p.fD) ∧ (1 ≤ s.fH ∧ s.fH ≤ p.fH) ∧ (1 ≤ s.fGram ∧ s.fGram ≤ p.fGram)
theorem lyA_at {p:Pallet} {l:List Layer} (h:OkY p l) {i:Int} (hi:0 ≤ i ∧ i < l.length):ix l i = some (lyA l i) ∧ (1 ≤ (lyA l i).fD ∧ (lyA l i).fD ≤ p.fD) ∧ (1 ≤ (lyA l i).fH ∧ (lyA l i).fH ≤ p.fH) ∧ (1 ≤ (lyA l i).fGram ∧ (lyA l i).fGram ≤ p.fGram) ∧ lyA l i ∈ l:=by
 obtain ⟨x,hx⟩:=ix_in (l:=l) hi.1 hi.2
 have e:lyA l i = x:=by unfold lyA; rw [hx]; rfl
 rw [e]
 exact ⟨hx,(h x (ix_mem hx)).1,(h x (ix_mem hx)).2.1,(h x (ix_mem hx)).2.2,ix_mem hx⟩
theorem ldS_all {p:Pallet} {l:List Layer} (hb:OkY p l) {out:List Load} {i:Int} (hi:0 ≤ i ∧ i < l.length) (h:∀ s ∈ out,LdI p l.length s):∀ s ∈ ldS p l out i,LdI p l.length s:=by
 obtain ⟨_,b1,b2,b3,_⟩:=lyA_at hb hi
 refine nxG_all h (fun s hs hf=>?_) ⟨by simp [ldAdd],fun j hj=>?_,?_,?_⟩
 · unfold ldFit at hf
   simp only [Bool.and_eq_true,decide_eq_true_eq] at hf
   obtain ⟨s1,s2,s5,s6⟩:=hs
   refine ⟨by simp [ldAdd],fun j hj=>?_,?_,?_⟩
   · simp only [ldAdd,List.mem_append,List.mem_singleton] at hj
     rcases hj with hj | rfl
     · exact s2 j hj
     · exact hi
   · simp only [ldAdd]; omega
   · simp only [ldAdd]; omega
 · simp only [ldAdd,zLd,List.nil_append,List.mem_singleton] at hj
   rw [hj]; exact hi
 · simp only [ldAdd,zLd]; omega
 · simp only [ldAdd,zLd]; omega
theorem ldF_all {p:Pallet} {l:List Layer} (hb:OkY p l):∀ (is:List Int) (out:List Load),(∀ i ∈ is,0 ≤ i ∧ i < l.length) → (∀ s ∈ out,LdI p l.length s) → (∀ s ∈ is.foldl (ldS p l) out,LdI p l.length s) ∧ ((is.foldl (ldS p l) out).map (·.fLayers)).flatten = (out.map (·.fLayers)).flatten ++ is ∧ (is.foldl (ldS p l) out).length ≤ out.length + is.length
 | [],out,_,h=>⟨h,by simp,by simp⟩
 | i :: is,out,hi,h=>by
  rw [List.foldl_cons]
  obtain ⟨h1,h2,h3⟩:=ldF_all hb is (ldS p l out i) (fun j hj=>hi j (by simp [hj])) (ldS_all hb (hi i (by simp)) h)
  have h4:((ldS p l out i).map (·.fLayers)).flatten = (out.map (·.fLayers)).flatten ++ [i]:=nxG_flat (fun s=>rfl) rfl
  have h5:(ldS p l out i).length ≤ out.length + 1:=nxG_len _ _ _ _
  refine ⟨h1,by rw [h2,h4]; simp,by simp; omega⟩
theorem ldM_all {p:Pallet} {l:List Layer} (hb:OkY p l):(∀ s ∈ ldM p l,LdI p l.length s) ∧ ((ldM p l).map (·.fLayers)).flatten = ints 0 l.length ∧ (ldM p l).length ≤ l.length:=by
 unfold ldM
 obtain ⟨h1,h2,h3⟩:=ldF_all hb (ints 0 l.length) [] (fun i hi=>by have:=ints_mem.1 hi; omega) (by simp)
 refine ⟨h1,by simpa using h2,?_⟩
 rw [ints_len] at h3
 simpa using h3
theorem okY_b {p:Pallet} {l:List Layer} (h:OkY p l):(l.all fun s=>okL p s.fD s.fH s.fGram) = true:=by
 refine List.all_eq_true.2 fun s hs=>?_
 unfold okL
 simp only [Bool.and_eq_true,inb_iff]
 exact ⟨(h s hs).1,(h s hs).2.1,(h s hs).2.2⟩
theorem s_loads {fu:Nat} (hfu:2097153 ≤ fu) {p:Pallet} (hp:palB p = true) {l:List Layer} (hb:OkY p l) (hl:l.length ≤ 1000):d_spec_LoadsOf fu p l = some (ldM p l):=by
 unfold d_spec_LoadsOf ldM
 rw [s_sto p l (by omega) (by omega),hp,okY_b hb,ob_some,Bool.and_self,Bool.not_true,cond_false]
 obtain ⟨p1,p2,p3,p4⟩:=pal_bd hp
 have L1:=lpNI (l.length:Int) (fun n (o:List Load) i=>d_spec_LoadsOf_L1 fu p l n o i) (fun xs o=>some (xs.foldl (ldS p l) o)) (fun xs o=>(∀ s ∈ o,LdI p l.length s) ∧ ((o.map (·.fLayers)).flatten).length + xs.length ≤ 1000 ∧ o.length + xs.length ≤ 1000) (by omega) ?_ ?_ l.length fu [] 0 (by omega) (by omega) (by omega) ⟨by simp,by simp [ints_len]; omega,by simp [ints_len]; omega⟩
 · exact L1
 · intro n o i xs x0 x1 hd hI ih
   obtain ⟨i2,i3,i4⟩:=hI
   simp only [List.length_cons] at i3 i4
   obtain ⟨hbx,b1,b2,b3,_⟩:=lyA_at hb ⟨x0,x1⟩
   have hflat:((ldS p l o i).map (·.fLayers)).flatten = (o.map (·.fLayers)).flatten ++ [i]:=nxG_flat (fun s=>rfl) rfl
   have hlen:(ldS p l o i).length ≤ o.length + 1:=nxG_len _ _ _ _
   have ih':=ih (ldS p l o i) ⟨ldS_all hb ⟨x0,x1⟩ i2,by rw [hflat,List.length_append,List.length_singleton]; omega,by omega⟩
   have J:∀ (o':List Load) (x:Load),o'.length ≤ 1000 → (x.fLayers.length ≤ 1000) → (0 ≤ x.fH ∧ x.fH ≤ 2000) → (0 ≤ x.fGram ∧ x.fGram ≤ 100000) → d_spec_LoadsOf_J2 fu (d_spec_LoadsOf_L1 fu p l n) i (lyA l i) (o' ++ [x]) ((o'.length:Int) + 1) = d_spec_LoadsOf_L1 fu p l n (o' ++ [ldAdd x i (lyA l i)]) (w64 (i + 1)):=by
    intro o' x h1 h2 h3 h4
    unfold d_spec_LoadsOf_J2 d_spec_LoadsOf_J1
    have e1:w64 ((o'.length:Int) + 1 - 1) = (o'.length:Int):=by rw [w64_id (by omega) (by omega)]; omega
    have e2:ix (o' ++ [x]) (o'.length:Int) = some x:=by rw [ix_nat]; simp
    rw [e1,e2,ob_some,ap1 (by simp; omega),ob_some,ap1 (by simp; omega),ob_some,ob_some,w64_id (n:=x.fH + _) (by omega) (by omega),w64_id (n:=x.fGram + _) (by omega) (by omega)]
    have e3:∀ y:Load,setx (o' ++ [x]) (o'.length:Int) y = o' ++ [y]:=by intro y; simp [setx]
    rw [e3]
    rfl
   simp only [d_spec_LoadsOf_L1.eq_2]
   unfold d_spec_LoadsOf_L1_B
   rw [hd,cond_true,hbx,ob_some,List.foldl_cons,← ih']
   by_cases he:o = []
   · subst he
     rw [bif_true (by simp),ap1 (by simp),ob_some]
     have:=J [] zLd (by simp) (by simp [zLd]) (by simp [zLd]) (by simp [zLd])
     rw [w64_id (by simp) (by simp)]
     exact this
   · obtain ⟨s,e1,e2⟩:=last_at he
     have hpl:=List.length_pos_iff.2 he
     have hsm':=List.mem_of_getLast? e1
     have hs:=i2 s hsm'
     have hsl':=flat_le (fun s:Load=>s.fLayers) o s hsm'
     obtain ⟨s1,s2,s5,s6⟩:=hs
     have eS:ldS p l o i = bif ldFit p (lyA l i) s then o.set (o.length - 1) (ldAdd s i (lyA l i)) else o ++ [ldAdd zLd i (lyA l i)]:=nxG_some e1
     have eo:o = o.dropLast ++ [s]:=by
      have h1:=List.dropLast_concat_getLast he
      rw [List.getLast?_eq_some_getLast he] at e1
      rw [Option.some.inj e1] at h1
      exact h1.symm
     have e3:d_spec_LoadsOf_J2 fu (d_spec_LoadsOf_L1 fu p l n) i (lyA l i) o (o.length:Int) = d_spec_LoadsOf_L1 fu p l n (o.set (o.length - 1) (ldAdd s i (lyA l i))) (w64 (i + 1)):=by
      obtain ⟨d,hd⟩:∃ d,o = d ++ [s]:=⟨_,eo⟩
      rw [hd] at i4 ⊢
      simp only [List.length_append,List.length_singleton] at i4
      have:=J d s (by omega) (by omega) (by omega) (by omega)
      rw [show (((d ++ [s]).length:Nat):Int) = (d.length:Int) + 1 by simp,this]
      congr 1
      simp
     have e4:d_spec_LoadsOf_J2 fu (d_spec_LoadsOf_L1 fu p l n) i (lyA l i) (o ++ [zLd]) (w64 ((o.length:Int) + 1)) = d_spec_LoadsOf_L1 fu p l n (o ++ [ldAdd zLd i (lyA l i)]) (w64 (i + 1)):=by
      rw [w64_id (by omega) (by omega)]
      exact J o zLd (by omega) (by simp [zLd]) (by simp [zLd]) (by simp [zLd])
     rw [w64_id (n:=(o.length:Int) - 1) (by omega) (by omega),e2,ob_some,bif_false (by simp; omega),ob_some,w64_id (n:=s.fH + _) (by omega) (by omega),w64_id (n:=s.fGram + _) (by omega) (by omega),ap1 (by simp; omega),ob_some,e3]
     rw [show (⟨[],0,0⟩:Load) = zLd from rfl,e4,eS]
     unfold ldFit
     by_cases c1:s.fH + (lyA l i).fH ≤ p.fH
     · rw [bif_false (c:=decide (s.fH + (lyA l i).fH > p.fH)) (by simp; omega),decide_eq_true c1]
       by_cases c2:s.fGram + (lyA l i).fGram ≤ p.fGram
       · rw [bif_false (c:=decide (s.fGram + (lyA l i).fGram > p.fGram)) (by simp; omega),decide_eq_true c2]; rfl
       · rw [bif_true (c:=decide (s.fGram + (lyA l i).fGram > p.fGram)) (by simp; omega),decide_eq_false c2]; rfl
     · rw [bif_true (c:=decide (s.fH + (lyA l i).fH > p.fH)) (by simp; omega),decide_eq_false c1]; rfl
 · intro n o i hd _
   simp only [d_spec_LoadsOf_L1.eq_2]
   unfold d_spec_LoadsOf_L1_B
   rw [hd,cond_false]; rfl
def zSp:Spot:=⟨0,0,0,0⟩
def ldA (l:List Load) (i:Int):Load:=(ix l i).getD zLd
def spB (l:List Box) (o y z:Int) (is:List Int) (s:List Spot × Int):List Spot × Int:=is.foldl (fun s b=>(setx s.1 b ⟨o,s.2,y,z⟩,s.2 + (bxA l b).fW)) s
def spS (l:List Box) (sh:List Shelf) (o z:Int) (js:List Int) (s:List Spot × Int):List Spot × Int:=js.foldl (fun s j=>((spB l o s.2 z (shA sh j).fList (s.1,0)).1,s.2 + (shA sh j).fD)) s
def spY (l:List Box) (sh:List Shelf) (ly:List Layer) (o:Int) (is:List Int) (s:List Spot × Int):List Spot × Int:=is.foldl (fun s i=>((spS l sh o s.2 (lyA ly i).fShelves (s.1,0)).1,s.2 + (lyA ly i).fH)) s
def spO (l:List Box) (sh:List Shelf) (ly:List Layer) (ld:List Load) (os:List Int) (out:List Spot):List Spot:=os.foldl (fun out o=>(spY l sh ly o (ldA ld o).fLayers (out,0)).1) out
def spM (p:Pallet) (l:List Box):List Spot:=bif bosB p l then spO l (shM p l) (lyM p (shM p l)) (ldM p (lyM p (shM p l))) (ints 0 (ldM p (lyM p (shM p l))).length) (List.replicate l.length zSp) else []
theorem setx_len' {α:Type} (l:List α) (i:Int) (y:α):(setx l i y).length = l.length:=by simp [setx]
theorem spB_len (l:List Box) (o y z:Int):∀ (is:List Int) (s:List Spot × Int),(spB l o y z is s).1.length = s.1.length
 | [],_=>rfl
 | i :: is,s=>by
  have:=spB_len l o y z is (setx s.1 i ⟨o,s.2,y,z⟩,s.2 + (bxA l i).fW)
  rw [setx_len'] at this
  exact this
theorem spS_len (l:List Box) (sh:List Shelf) (o z:Int):∀ (is:List Int) (s:List Spot × Int),(spS l sh o z is s).1.length = s.1.length
 | [],_=>rfl
 | i :: is,s=>by
  have:=spS_len l sh o z is ((spB l o s.2 z (shA sh i).fList (s.1,0)).1,s.2 + (shA sh i).fD)
  rw [spB_len] at this
  exact this
theorem spY_len (l:List Box) (sh:List Shelf) (ly:List Layer) (o:Int):∀ (is:List Int) (s:List Spot × Int),(spY l sh ly o is s).1.length = s.1.length
 | [],_=>rfl
 | i :: is,s=>by
  have:=spY_len l sh ly o is ((spS l sh o s.2 (lyA ly i).fShelves (s.1,0)).1,s.2 + (lyA ly i).fH)
  rw [spS_len] at this
  exact this
theorem spO_len (l:List Box) (sh:List Shelf) (ly:List Layer) (ld:List Load):∀ (os:List Int) (out:List Spot),(spO l sh ly ld os out).length = out.length
 | [],_=>rfl
 | o :: os,out=>by
  have:=spO_len l sh ly ld os (spY l sh ly o (ldA ld o).fLayers (out,0)).1
  rw [spY_len] at this
  exact this
theorem spM_len {p:Pallet} {l:List Box} (h:bosB p l = true):(spM p l).length = l.length:=by
 unfold spM
 rw [h,cond_true,spO_len,List.length_replicate]
theorem okS_sh {p:Pallet} {l:List Box} (h:bosB p l = true):OkS p (shM p l):=fun s hs=>by
 have:=(shM_all h).1 s hs
 exact ⟨this.d,this.h,this.g⟩
theorem okY_ly {p:Pallet} {l:List Shelf} (h:OkS p l):OkY p (lyM p l):=fun s hs=>by
 have:=(lyM_all h).1 s hs
 exact ⟨this.d,this.h,this.g⟩
theorem s_spots {fu:Nat} (hfu:2097153 ≤ fu) (p:Pallet) (l:List Box) (hl:l.length ≤ 1000):d_spec_SpotsOf fu p l = some (spM p l):=by
 unfold d_spec_SpotsOf spM
 rw [mk_some (by omega),ob_some,s_bos p l (by omega) (by omega),ob_some]
 cases hb:bosB p l
 · rfl
 · obtain ⟨a1,a2,a3⟩:=shM_all hb
   have hS:=okS_sh hb
   obtain ⟨y1,y2,y3⟩:=lyM_all hS
   have hY:=okY_ly hS
   obtain ⟨d1,d2,d3⟩:=ldM_all hY
   have hpb:=bos_pal hb
   obtain ⟨q1,q2,q3,q4⟩:=pal_bd hpb
   rw [Bool.not_true,cond_false,cond_true,s_shelves hfu p l hl,ob_some,s_layers hfu hpb hS (by omega),ob_some,s_loads hfu hpb hY (by omega),ob_some]
   have f1:∀ s ∈ shM p l,s.fList.length ≤ 1000:=fun s hs=>by
    have:=flat_le (fun s:Shelf=>s.fList) _ s hs
    rw [a2,srt_len] at this; omega
   have f2:∀ s ∈ lyM p (shM p l),s.fShelves.length ≤ 1000:=fun s hs=>by
    have:=flat_le (fun s:Layer=>s.fShelves) _ s hs
    rw [y2,ints_len] at this; omega
   have f3:∀ s ∈ ldM p (lyM p (shM p l)),s.fLayers.length ≤ 1000:=fun s hs=>by
    have:=flat_le (fun s:Load=>s.fLayers) _ s hs
    rw [d2,ints_len] at this; omega
   generalize ldM p (lyM p (shM p l)) = ld at d1 d3 f3 ⊢
   generalize lyM p (shM p l) = ly at y1 y3 hY d1 d3 f2 ⊢
   generalize shM p l = sh at a1 a3 hS y1 y3 f1 ⊢
   have L4:=lpNI (ld.length:Int) (fun n (out:List Spot) o=>d_spec_SpotsOf_L4 fu l sh ly ld n out o) (fun os out=>some (spO l sh ly ld os out)) (fun os out=>out.length = l.length) (by omega) ?_ ?_ ld.length fu (List.replicate l.length zSp) 0 (by omega) (by omega) (by omega) (by simp)
   · exact L4
   · intro n out o os o0 o1 hd hI ih
     obtain ⟨x,hx⟩:=ix_in (l:=ld) o0 o1
     have ex:ldA ld o = x:=by unfold ldA; rw [hx]; rfl
     have hxm:=d1 x (ix_mem hx)
     have hxl:=f3 x (ix_mem hx)
     simp only [d_spec_SpotsOf_L4.eq_2]
     unfold d_spec_SpotsOf_L4_B
     rw [hd,cond_true]
     have L3:=lpI x.fLayers (fun m (s:List Spot × Int) i=>d_spec_SpotsOf_L3 fu (d_spec_SpotsOf_L4 fu l sh ly ld n) l sh ly ld o m s.1 s.2 i) (fun is s=>d_spec_SpotsOf_L4 fu l sh ly ld n (spY l sh ly o is s).1 (w64 (o + 1))) (fun is s=>s.1.length = l.length ∧ (∀ i ∈ is,0 ≤ i ∧ i < ly.length) ∧ 0 ≤ s.2 ∧ s.2 + 2000 * is.length ≤ 2000000) (by omega) ?_ ?_ fu (out,0) ⟨hI,hxm.inn,by simp,by simp; omega⟩ (by omega)
     · refine L3.trans ?_
       rw [ih _ (by rw [spY_len]; exact hI)]
       simp only [spO,List.foldl_cons,ex]
     · intro m ⟨out,z⟩ i j is hj hd hI ih
       obtain ⟨i1,i2,i3,i4⟩:out.length = l.length ∧ (∀ i ∈ j :: is,0 ≤ i ∧ i < ly.length) ∧ 0 ≤ z ∧ z + 2000 * ((j :: is).length:Int) ≤ 2000000:=hI
       simp only [List.length_cons] at i4
       obtain ⟨hly,t1,t2,t3,hmem⟩:=lyA_at hY (i2 j (by simp))
       have hyi:=y1 _ hmem
       have hyl:=f2 _ hmem
       simp only [d_spec_SpotsOf_L3.eq_2]
       unfold d_spec_SpotsOf_L3_B
       rw [hx,ob_some,hd,cond_true,ob_some,hj,ob_some,hly,ob_some]
       have L2:=lpI (lyA ly j).fShelves (fun q (s:List Spot × Int) k=>d_spec_SpotsOf_L2 fu (d_spec_SpotsOf_L3 fu (d_spec_SpotsOf_L4 fu l sh ly ld n) l sh ly ld o m) l sh o z i (lyA ly j) q s.1 s.2 k) (fun ks s=>d_spec_SpotsOf_L3 fu (d_spec_SpotsOf_L4 fu l sh ly ld n) l sh ly ld o m (spS l sh o z ks s).1 (w64 (z + (lyA ly j).fH)) (w64 (i + 1))) (fun ks s=>s.1.length = l.length ∧ (∀ i ∈ ks,0 ≤ i ∧ i < sh.length) ∧ 0 ≤ s.2 ∧ s.2 + 2000 * ks.length ≤ 2000000) (by omega) ?_ ?_ fu (out,0) ⟨i1,hyi.inn,by simp,by simp; omega⟩ (by omega)
       · refine L2.trans ?_
         rw [w64_id (n:=z + _) (by omega) (by omega)]
         exact ih ((spS l sh o z (lyA ly j).fShelves (out,0)).1,z + (lyA ly j).fH) ⟨by rw [spS_len]; exact i1,fun i hi=>i2 i (by simp [hi]),by simp; omega,by simp; omega⟩
       · intro q ⟨out,y⟩ k b ks hb2 hd hI ih
         obtain ⟨i1,i2,i3,i4⟩:out.length = l.length ∧ (∀ i ∈ b :: ks,0 ≤ i ∧ i < sh.length) ∧ 0 ≤ y ∧ y + 2000 * ((b :: ks).length:Int) ≤ 2000000:=hI
         simp only [List.length_cons] at i4
         obtain ⟨hsh,u1,u2,u3,hmem2⟩:=shA_at hS (i2 b (by simp))
         have hsi:=a1 _ hmem2
         have hsl:=f1 _ hmem2
         simp only [d_spec_SpotsOf_L2.eq_2]
         unfold d_spec_SpotsOf_L2_B
         rw [hd,cond_true,hb2,ob_some,hsh,ob_some]
         have L1:=lpI (shA sh b).fList (fun q' (s:List Spot × Int) k'=>d_spec_SpotsOf_L1 fu (d_spec_SpotsOf_L2 fu (d_spec_SpotsOf_L3 fu (d_spec_SpotsOf_L4 fu l sh ly ld n) l sh ly ld o m) l sh o z i (lyA ly j) q) l o z y k (shA sh b) q' s.1 s.2 k') (fun bs s=>d_spec_SpotsOf_L2 fu (d_spec_SpotsOf_L3 fu (d_spec_SpotsOf_L4 fu l sh ly ld n) l sh ly ld o m) l sh o z i (lyA ly j) q (spB l o y z bs s).1 (w64 (y + (shA sh b).fD)) (w64 (k + 1))) (fun bs s=>s.1.length = l.length ∧ (∀ i ∈ bs,0 ≤ i ∧ i < l.length) ∧ 0 ≤ s.2 ∧ s.2 + 2000 * bs.length ≤ 2000000) (by omega) ?_ ?_ fu (out,0) ⟨i1,hsi.inn,by simp,by simp; omega⟩ (by omega)
         · refine L1.trans ?_
           rw [w64_id (n:=y + _) (by omega) (by omega)]
           exact ih ((spB l o y z (shA sh b).fList (out,0)).1,y + (shA sh b).fD) ⟨by rw [spB_len]; exact i1,fun i hi=>i2 i (by simp [hi]),by simp; omega,by simp; omega⟩
         · intro q' ⟨out,x'⟩ k' c bs hc hd hI ih
           obtain ⟨i1,i2,i3,i4⟩:out.length = l.length ∧ (∀ i ∈ c :: bs,0 ≤ i ∧ i < l.length) ∧ 0 ≤ x' ∧ x' + 2000 * ((c :: bs).length:Int) ≤ 2000000:=hI
           simp only [List.length_cons] at i4
           have hcr:=i2 c (by simp)
           obtain ⟨hbx,v1,v2,v3,v4⟩:=bok_at hb hcr
           obtain ⟨sp,hsp⟩:=ix_in (l:=out) hcr.1 (by omega)
           simp only [d_spec_SpotsOf_L1.eq_2]
           unfold d_spec_SpotsOf_L1_B
           rw [hd,cond_true,hc,ob_some,hsp,ob_some,ob_some,hbx,ob_some,w64_id (n:=x' + _) (by omega) (by omega)]
           exact ih (setx out c ⟨o,x',y,z⟩,x' + (bxA l c).fW) ⟨by rw [setx_len']; exact i1,fun i hi=>i2 i (by simp [hi]),by simp; omega,by simp; omega⟩
         · intro q' ⟨out,x'⟩ k' hd _
           simp only [d_spec_SpotsOf_L1.eq_2]
           unfold d_spec_SpotsOf_L1_B
           rw [hd,cond_false]; rfl
       · intro q ⟨out,y⟩ k hd _
         simp only [d_spec_SpotsOf_L2.eq_2]
         unfold d_spec_SpotsOf_L2_B
         rw [hd,cond_false]; rfl
     · intro m ⟨out,z⟩ i hd _
       simp only [d_spec_SpotsOf_L3.eq_2]
       unfold d_spec_SpotsOf_L3_B
       rw [hx,ob_some,hd,cond_false]; rfl
   · intro n out o hd _
     simp only [d_spec_SpotsOf_L4.eq_2]
     unfold d_spec_SpotsOf_L4_B
     rw [hd,cond_false]; rfl
def PalI (n:Int) (out:List Spot):Prop:=∀ s ∈ out,0 ≤ s.fPallet ∧ s.fPallet ≤ n
theorem setx_pal {n:Int} {out:List Spot} {i:Int} {s:Spot} (h:PalI n out) (hs:0 ≤ s.fPallet ∧ s.fPallet ≤ n):PalI n (setx out i s):=by
 intro t ht
 unfold setx at ht
 rcases List.mem_or_eq_of_mem_set ht with ht | rfl
 · exact h t ht
 · exact hs
theorem spB_pal {n:Int} (l:List Box) (o y z:Int) (ho:0 ≤ o ∧ o ≤ n):∀ (is:List Int) (s:List Spot × Int),PalI n s.1 → PalI n (spB l o y z is s).1
 | [],_,h=>h
 | i :: is,s,h=>spB_pal l o y z ho is (setx s.1 i ⟨o,s.2,y,z⟩,s.2 + (bxA l i).fW) (setx_pal h ho)
theorem spS_pal {n:Int} (l:List Box) (sh:List Shelf) (o z:Int) (ho:0 ≤ o ∧ o ≤ n):∀ (is:List Int) (s:List Spot × Int),PalI n s.1 → PalI n (spS l sh o z is s).1
 | [],_,h=>h
 | i :: is,s,h=>spS_pal l sh o z ho is ((spB l o s.2 z (shA sh i).fList (s.1,0)).1,s.2 + (shA sh i).fD) (spB_pal l o s.2 z ho _ (s.1,0) h)
theorem spY_pal {n:Int} (l:List Box) (sh:List Shelf) (ly:List Layer) (o:Int) (ho:0 ≤ o ∧ o ≤ n):∀ (is:List Int) (s:List Spot × Int),PalI n s.1 → PalI n (spY l sh ly o is s).1
 | [],_,h=>h
 | i :: is,s,h=>spY_pal l sh ly o ho is ((spS l sh o s.2 (lyA ly i).fShelves (s.1,0)).1,s.2 + (lyA ly i).fH) (spS_pal l sh o s.2 ho _ (s.1,0) h)
theorem spO_pal {n:Int} (l:List Box) (sh:List Shelf) (ly:List Layer) (ld:List Load):∀ (os:List Int) (out:List Spot),(∀ o ∈ os,0 ≤ o ∧ o ≤ n) → PalI n out → PalI n (spO l sh ly ld os out)
 | [],_,_,h=>h
 | o :: os,out,ho,h=>spO_pal l sh ly ld os (spY l sh ly o (ldA ld o).fLayers (out,0)).1 (fun q hq=>ho q (by simp [hq])) (spY_pal l sh ly o (ho o (by simp)) _ (out,0) h)
theorem sp_pal {p:Pallet} {l:List Box} (hl:l.length ≤ 1000):∀ s ∈ spM p l,0 ≤ s.fPallet ∧ s.fPallet ≤ 1000:=by
 unfold spM
 cases hb:bosB p l
 · simp
 · have a3:=(shM_all hb).2.2
   have hS:=okS_sh hb
   have y3:=(lyM_all hS).2.2
   have d3:=(ldM_all (okY_ly hS)).2.2
   rw [cond_true]
   refine spO_pal l _ _ _ _ _ (fun o ho=>?_) fun s hs=>?_
   · have:=ints_mem.1 ho; omega
   · rw [(List.mem_replicate.1 hs).2]; simp [zSp]
end Go.Proofs.YthkaklkinepfkaaGreatDoor
