/- TextsBP: plain lemmas, part 3. -/
import Derived.Test.YthkaklkinepfkaaGreatDoorTextsBP2
set_option linter.unusedSimpArgs false
set_option linter.unusedVariables false
namespace Go.Proofs.YthkaklkinepfkaaGreatDoor
open Go
open Enc (rd ow)
open Arg (argv)
open Ret (retv)
open Wf (wf)
def prdI:List Int → Int
 | []=>1
 | x :: xs=>x * prdI xs
theorem prd_perm {a b:List Int} (h:a.Perm b):prdI a = prdI b:=by
 induction h with
 | nil=>rfl
 | cons x _ ih=>simp only [prdI,ih]
 | swap x y l=>simp only [prdI,← Int.mul_assoc]; rw [Int.mul_comm x y]
 | trans _ _ h1 h2=>rw [h1,h2]
theorem sid_prd (a b c:Int):(sid a b c).1 * ((sid a b c).2.1 * (sid a b c).2.2) = a * b * c:=by
 have h:=sortI3 a b c
 unfold sortI at h
 simp only [List.length_cons,List.length_nil] at h
 rw [if_pos (by omega)] at h
 have hp:=List.mergeSort_perm [a,b,c] fun x y=>decide (x ≤ y)
 rw [Option.some.inj h] at hp
 have:=prd_perm hp
 simp only [prdI,Int.mul_one] at this
 rw [this,Int.mul_assoc]
theorem sid_ge {a b c m:Int} (ha:m ≤ a) (hb:m ≤ b) (hc:m ≤ c):m ≤ (sid a b c).1:=by
 unfold sid
 simp only
 split <;> split <;> omega
theorem fit_vol {x:Item} {t:Typ} (hx:itmB x = true) (ht:typB t = true) (h:fitB x t = true):volI x ≤ volT t ∧ x.fGram ≤ t.fGram:=by
 simp only [itmB,Bool.and_eq_true,inb_iff] at hx
 simp only [typB,Bool.and_eq_true,inb_iff] at ht
 simp only [fitB,Bool.and_eq_true,decide_eq_true_eq] at h
 obtain ⟨⟨⟨h1,h2⟩,h3⟩,h4⟩:=h
 refine ⟨?_,h4⟩
 have e1:volI x = x.fW * x.fH * x.fD:=by
  unfold volI volB
  rw [show (inb x.fW 0 2000 && (inb x.fH 0 2000 && inb x.fD 0 2000)) = true by simp; omega,cond_true]
 have e2:volT t = t.fW * t.fH * t.fD:=by
  unfold volT volB
  rw [show (inb t.fW 0 2000 && (inb t.fH 0 2000 && inb t.fD 0 2000)) = true by simp; omega,cond_true]
 rw [e1,e2,← sid_prd x.fW x.fH x.fD,← sid_prd t.fW t.fH t.fD]
 have p1:1 ≤ (sid x.fW x.fH x.fD).1:=sid_ge (by omega) (by omega) (by omega)
 have s1:=sid_sorted x.fW x.fH x.fD
 have s2:=sid_sorted t.fW t.fH t.fD
 refine Int.mul_le_mul h1 ?_ (Int.mul_nonneg (by omega) (by omega)) (by omega)
 exact Int.mul_le_mul h2 h3 (by omega) (by omega)
theorem itmZ_mem {r:Request} {u:Int} (h:0 ≤ u ∧ u < (untM r).length):itmZ r u ∈ r.fItems:=(itm_cls (itmZ_in h)).2
theorem cls_in {r:Request} {u:Int} (h:0 ≤ u ∧ u < (untM r).length):clsM r = 0:=(itm_cls (itmZ_in h)).1
theorem mas_typ {r:Request} (hc:clsM r = 0):typM r r.fMaster = some (masM r) ∧ masM r ∈ r.fTypes ∧ typB (masM r) = true:=by
 have h:=(clsM_zero hc).2.1
 unfold namB at h
 simp only [Bool.and_eq_true] at h
 obtain ⟨t,ht⟩:=Option.isSome_iff_exists.1 h.1.2
 have e:masM r = t:=by unfold masM; rw [ht]; rfl
 have hm:t ∈ r.fTypes:=List.mem_of_find?_eq_some ht
 rw [e]
 exact ⟨ht,hm,bou_types (clsM_zero hc).1 t hm⟩
theorem vol_one {r:Request} {u:Int} (h:0 ≤ u ∧ u < (untM r).length):volM r [u] = volI (itmZ r u) ∧ grmM r [u] = (itmZ r u).fGram:=by
 unfold volM grmM itsM
 simp [List.filterMap_cons,itmZ_in h]
theorem one_wit {r:Request} {u:Int} (h:0 ≤ u ∧ u < (untM r).length):witB r [u] (masM r) = true:=by
 have hc:=cls_in h
 have hz:=clsM_zero hc
 have hm:=itmZ_mem h
 obtain ⟨h1,h2⟩:=fit_vol ((bou_items hz.1).1 _ hm) (mas_typ hc).2.2 (hz.2.2.2.1 _ hm)
 unfold witB
 rw [(vol_one h).1,(vol_one h).2,Bool.and_eq_true,decide_eq_true_iff,decide_eq_true_iff]
 exact ⟨h1,h2⟩
def Qc (r:Request) (us:List Int) (l:List Int):Prop:=l ≠ [] ∧ (∀ u ∈ l,u ∈ us) ∧ witB r l (masM r) = true
theorem putF_q {r:Request} {us:List Int} {out:List (List Int)} {u:Int} (h:∀ l ∈ out,Qc r us l) (hu:u ∈ us) (hr:0 ≤ u ∧ u < (untM r).length):∀ l ∈ fitF r out u,Qc r us l:=by
 have hn:Qc r us [u]:=⟨by simp,fun v hv=>by rw [List.mem_singleton.1 hv]; exact hu,one_wit hr⟩
 intro l hl
 unfold fitF putF at hl
 split at hl
 · rename_i i hi
   obtain ⟨x,hx,hg⟩:=fstI_lt hi
   rw [hx] at hl
   rcases List.mem_or_eq_of_mem_set hl with hl | rfl
   · exact h l hl
   · have hq:=h x (List.mem_of_getElem? hx)
     refine ⟨by simp,fun v hv=>?_,hg⟩
     rcases List.mem_append.1 hv with hv | hv
     · exact hq.2.1 v hv
     · rw [List.mem_singleton.1 hv]; exact hu
 · rcases List.mem_append.1 hl with hl | hl
   · exact h l hl
   · rw [List.mem_singleton.1 hl]; exact hn
theorem nxtF_q {r:Request} {us:List Int} {out:List (List Int)} {u:Int} (h:∀ l ∈ out,Qc r us l) (hu:u ∈ us) (hr:0 ≤ u ∧ u < (untM r).length):∀ l ∈ nxtF r out u,Qc r us l:=by
 have hn:Qc r us [u]:=⟨by simp,fun v hv=>by rw [List.mem_singleton.1 hv]; exact hu,one_wit hr⟩
 intro l hl
 cases hlast:out.getLast? with
 | none =>
  unfold nxtF at hl
  rw [hlast] at hl
  rw [List.mem_singleton.1 hl]; exact hn
 | some x =>
  rw [nxtF_some u hlast] at hl
  have hq:=h x (List.mem_of_getLast? hlast)
  cases hg:romB r u x
  · rw [hg,cond_false] at hl
    rcases List.mem_append.1 hl with hl | hl
    · exact h l hl
    · rw [List.mem_singleton.1 hl]; exact hn
  · rw [hg,cond_true] at hl
    rcases List.mem_or_eq_of_mem_set hl with hl | rfl
    · exact h l hl
    · refine ⟨by simp,fun v hv=>?_,hg⟩
      rcases List.mem_append.1 hv with hv | hv
      · exact hq.2.1 v hv
      · rw [List.mem_singleton.1 hv]; exact hu
theorem fold_q {r:Request} {us:List Int} {F:List (List Int) → Int → List (List Int)} (hF:∀ out u,(∀ l ∈ out,Qc r us l) → u ∈ us → (0 ≤ u ∧ u < (untM r).length) → ∀ l ∈ F out u,Qc r us l):∀ (vs:List Int) (out:List (List Int)),(∀ u ∈ vs,u ∈ us ∧ 0 ≤ u ∧ u < (untM r).length) → (∀ l ∈ out,Qc r us l) → ∀ l ∈ vs.foldl F out,Qc r us l
 | [],out,_,h=>h
 | v :: vs,out,hv,h=>by
  rw [List.foldl_cons]
  have h1:=hv v (by simp)
  exact fold_q hF vs _ (fun u hu=>hv u (by simp [hu])) (hF out v h h1.1 h1.2)
theorem ordM_perm (r:Request) (us:List Int):(ordM r us).Perm us:=by
 unfold ordM
 refine ((srt_perm _ _).map _).trans ?_
 have key:∀ (xs pre:List Int),us = pre ++ xs → (ints pre.length xs.length).map (fun p=>(ix us p).getD 0) = xs:=by
  intro xs
  induction xs with
  | nil=>intro pre _; rfl
  | cons x xs ih =>
   intro pre he
   have h1:=ih (pre ++ [x]) (by simp [he])
   simp only [List.length_append,List.length_singleton] at h1
   simp only [List.length_cons,ints,List.map_cons]
   rw [show ((pre.length:Int) + 1) = ((pre.length + 1:Nat):Int) by omega,h1]
   congr 1
   rw [ix_nat,he]
   simp
 have:=key us [] rfl
 simp only [List.length_nil] at this
 exact List.Perm.of_eq this
theorem pw_q {r:Request} {us:List Int}:∀ l ∈ pwM r us,Qc r (thrM r us) l:=by
 unfold pwM nfM ffM
 have ht:∀ u ∈ thrM r us,u ∈ thrM r us ∧ 0 ≤ u ∧ u < (untM r).length:=fun u hu=>⟨hu,thr_mem hu⟩
 cases r.fWay == 1
 · rw [cond_false]
   exact fold_q (fun out u h hu hr=>putF_q h hu hr) _ [] (fun u hu=>ht u ((ordM_perm r _).mem_iff.1 hu)) (by simp)
 · rw [cond_true]
   exact fold_q (fun out u h hu hr=>nxtF_q h hu hr) _ [] ht (by simp)
theorem putF_flat (g:List Int → Bool) (out:List (List Int)) (u:Int):(putF g out u).flatten.Perm (out.flatten ++ [u]):=by
 unfold putF
 split
 · rename_i i hi
   obtain ⟨x,hx,_⟩:=fstI_lt hi
   rw [hx]
   exact set_flat hx
 · simp
theorem nxtF_flat (r:Request) (out:List (List Int)) (u:Int):(nxtF r out u).flatten.Perm (out.flatten ++ [u]):=by
 cases hlast:out.getLast? with
 | none =>
  have:out = []:=List.getLast?_eq_none_iff.1 hlast
  subst this
  unfold nxtF
  simp
 | some x =>
  rw [nxtF_some u hlast]
  cases romB r u x
  · simp
  · rw [cond_true]
    rw [List.getLast?_eq_getElem?] at hlast
    exact set_flat hlast
theorem fold_flat {F:List (List Int) → Int → List (List Int)} (hF:∀ out u,(F out u).flatten.Perm (out.flatten ++ [u])):∀ (vs:List Int) (out:List (List Int)),(vs.foldl F out).flatten.Perm (out.flatten ++ vs)
 | [],out=>by simp
 | v :: vs,out=>by
  rw [List.foldl_cons]
  refine (fold_flat hF vs _).trans (((hF out v).append_right vs).trans ?_)
  simp
theorem pw_flat (r:Request) (us:List Int):(pwM r us).flatten.Perm (thrM r us):=by
 unfold pwM nfM ffM
 cases r.fWay == 1
 · rw [cond_false]
   refine (fold_flat (fun out u=>putF_flat _ out u) _ []).trans ?_
   simpa using ordM_perm r (thrM r us)
 · rw [cond_true]
   refine (fold_flat (fun out u=>nxtF_flat r out u) _ []).trans ?_
   simp
theorem setx_len {α:Type} (xs:List α) (n:Int) (y:α):(setx xs n y).length = xs.length:=by simp [setx]
def lensC:List Carton → Nat
 | []=>0
 | x :: xs=>x.fUnits.length + lensC xs
structure Sp (x:Plan):Prop where
 cars:x.fCartons.length ≤ 1048576
 units:∀ c ∈ x.fCartons,c.fUnits.length ≤ 1048576
 all:lensC x.fCartons ≤ 1048576
 spots:x.fSpots.length ≤ 1048576
def incP:List Int → List Int → Bool
 | _,[]=>true
 | pre,x :: xs=>inb x 0 999 && ((match pre.getLast? with | none=>true | some y=>decide (y < x)) && incP (pre ++ [x]) xs)
def uriB (l:List Int):Bool:=incP [] l && decide ((l.length:Int) ≤ 100)
def cokB (c:Carton):Bool:=inb c.fType 0 999 && (inb c.fGroup 0 3 && uriB c.fUnits)
def sokB (s:Spot):Bool:=inb s.fPallet 0 2000 && (inb s.fX 0 2000 && (inb s.fY 0 2000 && inb s.fZ 0 2000))
def pokB (x:Plan):Bool:=x.fSpots.length == x.fCartons.length && (decide ((x.fCartons.length:Int) ≤ 100) && (x.fCartons.zip x.fSpots).all fun p=>cokB p.1 && sokB p.2)
theorem last_ix {pre:List Int} {x:Int} {xs l:List Int} (hl:l.length ≤ 1048576) (e:l = pre ++ x :: xs):(pre.getLast? = none ∧ pre.length = 0) ∨ ∃ y,pre.getLast? = some y ∧ 0 < pre.length ∧ ix l (w64 ((pre.length:Int) - 1)) = some y:=by
 cases hp:pre.getLast? with
 | none=>exact .inl ⟨rfl,by simpa using List.getLast?_eq_none_iff.1 hp⟩
 | some y =>
  have hne:pre ≠ []:=fun e=>by subst e; simp at hp
  have hpos:0 < pre.length:=List.length_pos_iff.2 hne
  refine .inr ⟨y,rfl,hpos,?_⟩
  have h1:w64 ((pre.length:Int) - 1) = ((pre.length - 1:Nat):Int):=by
   have:pre.length ≤ l.length:=by rw [e]; simp
   rw [w64_id (by omega) (by omega)]; omega
  rw [h1,ix_nat,e,List.getElem?_append_left (by omega),← List.getLast?_eq_getElem?,hp]
theorem i_uri {fu:Nat} {l:List Int} (hl:l.length ≤ 1048576) (hf:l.length < fu):d_impl_unitsRight fu l = some (uriB l):=by
 unfold d_impl_unitsRight uriB
 have key:=lpP l (fun n (_:Unit) i=>d_impl_unitsRight_L1 fu l n i) (fun pre xs _=>some (incP pre xs && decide ((l.length:Int) ≤ 100))) (by omega) ?_ ?_ fu () hf
 · exact key
 · intro n _ pre x xs e hx hd ih
   have ih:=ih ()
   simp only [d_impl_unitsRight_L1.eq_2]
   unfold d_impl_unitsRight_L1_B d_impl_unitsRight_J1 incP
   rw [hd,cond_true,hx,ob_some,i_in,ob_some]
   cases inb x 0 999
   · rfl
   · rw [Bool.not_true,cond_false,Bool.true_and]
     rcases last_ix (hl:=hl) e with ⟨h1,h2⟩ | ⟨y,h1,h2,h3⟩
     · rw [h1,show decide ((pre.length:Int) > 0) = false from decide_eq_false (by omega),cond_false,ih]
       simp
     · rw [h1,show decide ((pre.length:Int) > 0) = true from decide_eq_true (by omega),cond_true,h3,ob_some,ih]
       by_cases hy:y < x
       · rw [show decide (y ≥ x) = false by simp; omega,cond_false]; simp [hy]
       · rw [show decide (y ≥ x) = true by simp; omega,cond_true]; simp [hy]
 · intro n _ hd
   simp only [d_impl_unitsRight_L1.eq_2]
   unfold d_impl_unitsRight_L1_B
   rw [hd,cond_false]
   simp [incP]
theorem s_cok {fu:Nat} {c:Carton} (hl:c.fUnits.length ≤ 1048576) (hf:c.fUnits.length < fu):d_spec_l13Carton fu c = some (cokB c):=by
 unfold d_spec_l13Carton cokB
 rw [s_id,ob_some,s_in,ob_some]
 cases inb c.fType 0 999
 · rfl
 · rw [Bool.not_true,cond_false]
   cases inb c.fGroup 0 3
   · rfl
   · rw [Bool.not_true,cond_false,Bool.true_and,Bool.true_and]
     unfold uriB
     by_cases h1:(c.fUnits.length:Int) ≤ 100
     · rw [show decide ((c.fUnits.length:Int) > 100) = false by simp; omega,cond_false,show decide ((c.fUnits.length:Int) ≤ 100) = true by simpa using h1,Bool.and_true]
       unfold d_spec_l13Carton_J2
       have key:=lpP c.fUnits (fun n (_:Unit) i=>d_spec_l13Carton_L1 fu c n i) (fun pre xs _=>some (incP pre xs)) (by omega) ?_ ?_ fu () hf
       · exact key
       · intro n _ pre x xs e hx hd ih
         have ih:=ih ()
         simp only [d_spec_l13Carton_L1.eq_2]
         unfold d_spec_l13Carton_L1_B d_spec_l13Carton_J1 incP
         rw [hd,cond_true,hx,ob_some,s_in,ob_some]
         cases inb x 0 999
         · rfl
         · rw [Bool.not_true,cond_false,Bool.true_and]
           rcases last_ix (hl:=hl) e with ⟨h1,h2⟩ | ⟨y,h1,h2,h3⟩
           · rw [h1,show decide ((pre.length:Int) > 0) = false from decide_eq_false (by omega),cond_false,ih]
             simp
           · rw [h1,show decide ((pre.length:Int) > 0) = true from decide_eq_true (by omega),cond_true,ob_some,h3,ob_some,ih]
             by_cases hy:y < x
             · rw [show decide (x ≤ y) = false by simp; omega,cond_false]; simp [hy]
             · rw [show decide (x ≤ y) = true by simp; omega,cond_true]; simp [hy]
       · intro n _ hd
         simp only [d_spec_l13Carton_L1.eq_2]
         unfold d_spec_l13Carton_L1_B
         rw [hd,cond_false]
         simp [incP]
     · rw [show decide ((c.fUnits.length:Int) > 100) = true by simp; omega,cond_true,show decide ((c.fUnits.length:Int) ≤ 100) = false by simpa using h1,Bool.and_false]
theorem zip_ix {α β:Type} {a:List α} {b:List β} {i:Int} {p:α × β} (h:ix (a.zip b) i = some p):ix a i = some p.1 ∧ ix b i = some p.2:=by
 obtain ⟨h0,_,h1⟩:=ix_some h
 have:=List.getElem?_zip_eq_some.1 h1
 unfold ix
 rw [if_pos h0,if_pos h0]
 exact this
theorem i_pok {fu:Nat} {x:Plan} (h:Sp x) (hf:1048577 ≤ fu):d_impl_PlanOk fu x = some (pokB x):=by
 have hs:=h.spots
 have hc:=h.cars
 unfold d_impl_PlanOk pokB
 cases he:x.fSpots.length == x.fCartons.length
 · have:((x.fSpots.length:Int) != (x.fCartons.length:Int)) = true:=by simp at he ⊢; omega
   rw [this]; rfl
 · have el:x.fSpots.length = x.fCartons.length:=by simpa using he
   have:((x.fSpots.length:Int) != (x.fCartons.length:Int)) = false:=by simp; omega
   rw [this,cond_false,Bool.true_and]
   by_cases h1:(x.fCartons.length:Int) ≤ 100
   · rw [show decide ((x.fCartons.length:Int) > 100) = false by simp; omega,cond_false,show decide ((x.fCartons.length:Int) ≤ 100) = true by simpa using h1,Bool.true_and]
     unfold d_impl_PlanOk_J2
     have hz:(x.fCartons.zip x.fSpots).length = x.fCartons.length:=by simp; omega
     have key:=lp (x.fCartons.zip x.fSpots) (fun n (_:Unit) i=>d_impl_PlanOk_L1 fu x n i) (fun l _=>some (l.all fun p=>cokB p.1 && sokB p.2)) (by omega) ?_ ?_ fu () (by omega)
     · exact key
     · intro n _ i p xs hx hd ih
       have ih:=ih ()
       obtain ⟨e1,e2⟩:=zip_ix hx
       have hu:=h.units p.1 (ix_mem e1)
       rw [hz] at hd
       simp only [d_impl_PlanOk_L1.eq_2]
       unfold d_impl_PlanOk_L1_B d_impl_PlanOk_J1
       simp only [hd,cond_true,e1,e2,ob_some,i_in,i_uri hu (show p.1.fUnits.length < fu by omega),i_place,ih,List.all_cons]
       unfold cokB sokB
       cases inb p.1.fType 0 999 <;> cases inb p.1.fGroup 0 3 <;> cases uriB p.1.fUnits <;> cases inb p.2.fPallet 0 2000 <;> cases inb p.2.fX 0 2000 <;> cases inb p.2.fY 0 2000 <;> cases inb p.2.fZ 0 2000 <;> rfl
     · intro n _ i hd
       rw [hz] at hd
       simp only [d_impl_PlanOk_L1.eq_2]
       unfold d_impl_PlanOk_L1_B
       simp [hd]
   · rw [show decide ((x.fCartons.length:Int) > 100) = true by simp; omega,cond_true,show decide ((x.fCartons.length:Int) ≤ 100) = false by simpa using h1,Bool.false_and]
theorem s_pok {fu:Nat} {x:Plan} (h:Sp x) (hf:1048577 ≤ fu):d_spec_PlanOk fu x = some (pokB x):=by
 have hs:=h.spots
 have hc:=h.cars
 unfold d_spec_PlanOk pokB
 cases he:x.fSpots.length == x.fCartons.length
 · have:((x.fCartons.length:Int) != (x.fSpots.length:Int)) = true:=by simp at he ⊢; omega
   rw [this]; rfl
 · have el:x.fSpots.length = x.fCartons.length:=by simpa using he
   have:((x.fCartons.length:Int) != (x.fSpots.length:Int)) = false:=by simp; omega
   rw [this,cond_false,Bool.true_and]
   by_cases h1:(x.fCartons.length:Int) ≤ 100
   · rw [show decide ((x.fCartons.length:Int) > 100) = false by simp; omega,cond_false,show decide ((x.fCartons.length:Int) ≤ 100) = true by simpa using h1,Bool.true_and]
     unfold d_spec_PlanOk_J2
     have hz:(x.fCartons.zip x.fSpots).length = x.fCartons.length:=by simp; omega
     have key:=lp (x.fCartons.zip x.fSpots) (fun n (_:Unit) i=>d_spec_PlanOk_L1 fu x n i) (fun l _=>some (l.all fun p=>cokB p.1 && sokB p.2)) (by omega) ?_ ?_ fu () (by omega)
     · exact key
     · intro n _ i p xs hx hd ih
       have ih:=ih ()
       obtain ⟨e1,e2⟩:=zip_ix hx
       have hu:=h.units p.1 (ix_mem e1)
       rw [hz] at hd
       simp only [d_spec_PlanOk_L1.eq_2]
       unfold d_spec_PlanOk_L1_B d_spec_PlanOk_J1
       simp only [hd,cond_true,e1,e2,ob_some,s_in,s_cok hu (show p.1.fUnits.length < fu by omega),ih,List.all_cons]
       unfold sokB
       cases cokB p.1 <;> cases inb p.2.fPallet 0 2000 <;> cases inb p.2.fX 0 2000 <;> cases inb p.2.fY 0 2000 <;> cases inb p.2.fZ 0 2000 <;> rfl
     · intro n _ i hd
       rw [hz] at hd
       simp only [d_spec_PlanOk_L1.eq_2]
       unfold d_spec_PlanOk_L1_B
       simp [hd]
   · rw [show decide ((x.fCartons.length:Int) > 100) = true by simp; omega,cond_true,show decide ((x.fCartons.length:Int) ≤ 100) = false by simpa using h1,Bool.false_and]
def onL (k:Int):Int → List Spot → List Int
 | _,[]=>[]
 | i,s :: l=>bif s.fPallet == k then i :: onL k (i + 1) l else onL k (i + 1) l
def onM (x:Plan) (k:Int):List Int:=bif x.fSpots.length == x.fCartons.length then onL k 0 x.fSpots else []
theorem onL_mem (k:Int):∀ (l:List Spot) (a i:Int),i ∈ onL k a l ↔ ∃ (j:Nat) (s:Spot),l[j]? = some s ∧ i = a + j ∧ s.fPallet = k
 | [],a,i=>by simp [onL]
 | s :: l,a,i=>by
  have ih:=onL_mem k l (a + 1) i
  constructor
  · intro h
    unfold onL at h
    cases hk:s.fPallet == k
    · rw [hk,cond_false] at h
      obtain ⟨j,t,h1,h2,h3⟩:=ih.1 h
      exact ⟨j + 1,t,by simpa using h1,by omega,h3⟩
    · rw [hk,cond_true,List.mem_cons] at h
      rcases h with rfl | h
      · exact ⟨0,s,rfl,by omega,by simpa using hk⟩
      · obtain ⟨j,t,h1,h2,h3⟩:=ih.1 h
        exact ⟨j + 1,t,by simpa using h1,by omega,h3⟩
  · rintro ⟨j,t,h1,h2,h3⟩
    unfold onL
    cases j with
    | zero =>
     simp only [List.getElem?_cons_zero,Option.some.injEq] at h1
     subst h1
     rw [show (s.fPallet == k) = true by simpa using h3,cond_true]
     simp; omega
    | succ j =>
     have:i ∈ onL k (a + 1) l:=ih.2 ⟨j,t,by simpa using h1,by omega,h3⟩
     cases s.fPallet == k <;> simp [this]
theorem onM_mem {x:Plan} {k i:Int} (h:i ∈ onM x k):∃ c s,ix x.fCartons i = some c ∧ ix x.fSpots i = some s ∧ s.fPallet = k:=by
 unfold onM at h
 cases he:x.fSpots.length == x.fCartons.length
 · rw [he] at h; simp at h
 · rw [he,cond_true] at h
   obtain ⟨j,s,h1,h2,h3⟩:=(onL_mem k _ 0 i).1 h
   have hj:=(List.getElem?_eq_some_iff.1 h1).1
   have hl:x.fSpots.length = x.fCartons.length:=by simpa using he
   have e:i = (j:Int):=by omega
   subst e
   exact ⟨_,s,ix_i (by omega),ix_at h1,h3⟩
def zCar:Carton:=⟨0,0,[]⟩
def carM (x:Plan) (i:Int):Carton:=(ix x.fCartons i).getD zCar
def pgM (r:Request) (x:Plan) (k:Int):Int:=sumI ((onM x k).map fun i=>grsM r (carM x i))
def flatU (l:List Carton):List Int:=(l.map (·.fUnits)).flatten
def empB (x:Plan):Bool:=x.fCartons.any fun c=>(c.fUnits.length:Int) == 0
def onceB (r:Request) (x:Plan):Bool:=perB (flatU x.fCartons) (ints 0 (untM r).length)
theorem once_iff {r:Request} {x:Plan}:onceB r x = true ↔ (flatU x.fCartons).Perm (ints 0 (untM r).length):=perB_iff
def chB (r:Request) (c:Carton):Bool:=match typM r c.fType with | some t=>hldB r c.fUnits t | none=>false
def cgB (r:Request) (c:Carton):Bool:=c.fUnits.all fun u=>gofM (grpM r) (itmZ r u).fClass == c.fGroup
def ccB (r:Request) (c:Carton):Bool:=(chpM r c.fUnits).2 && (chpM r c.fUnits).1.fId == c.fType
def cs (x:Plan):List (Carton × Spot):=x.fCartons.zip x.fSpots
def insP (r:Request) (p:Carton × Spot):Bool:=winB r.fPallet (boxM r p.1) p.2
def ovP (r:Request) (p q:Carton × Spot):Bool:=ovlB (boxM r p.1) p.2 (boxM r q.1) q.2
def aprL (r:Request):List (Carton × Spot) → List (Carton × Spot) → Bool
 | _,[]=>true
 | pre,p :: l=>pre.all (fun q=>!ovP r p q) && aprL r (pre ++ [p]) l
def plB (r:Request) (x:Plan) (k:Int):Bool :=
 !(((onM x k).length:Int) == 0) && (!(decide (pgM r x k > r.fPallet.fGram)) && (onM x k).all fun i=>(carM x i).fGroup == (carM x (ix (onM x k) 0 |>.getD 0)).fGroup)
theorem on_cars {x:Plan} {k:Int} (hne:(((onM x k).length:Int) == 0) = false):∃ i0 c0,ix (onM x k) 0 = some i0 ∧ ix x.fCartons i0 = some c0 ∧ ∃ rest,onM x k = i0 :: rest:=by
 cases hl:onM x k with
 | nil=>simp [hl] at hne
 | cons i0 rest =>
  obtain ⟨c0,_,h1,_⟩:=onM_mem (show i0 ∈ onM x k by rw [hl]; simp)
  exact ⟨i0,c0,rfl,h1,rest,rfl⟩
theorem chp_any (r:Request) (us:List Int):∀ (l:List Typ) (s:Typ × Bool),(l.foldl (chp r us) s).2 = (s.2 || l.any (hldB r us))
 | [],s=>by simp
 | t :: l,s=>by
  rw [List.foldl_cons,chp_any r us l,List.any_cons]
  unfold chp
  obtain ⟨b,f⟩:=s
  cases hldB r us t <;> cases f <;> simp
  cases (decide (t.fCost < b.fCost) || t.fCost == b.fCost && decide (t.fId < b.fId)) <;> simp
theorem chp_some {r:Request} {us:List Int} {t:Typ} (ht:t ∈ r.fTypes) (h:hldB r us t = true):(chpM r us).2 = true:=by
 unfold chpM
 rw [chp_any]
 simp only [Bool.false_or]
 exact List.any_eq_true.2 ⟨t,ht,h⟩
theorem sumI_perm {a b:List Int} (h:a.Perm b):sumI a = sumI b:=by
 induction h with
 | nil=>rfl
 | cons x _ ih=>simp [ih]
 | swap x y l=>simp; omega
 | trans _ _ h1 h2=>rw [h1,h2]
theorem its_perm {r:Request} {a b:List Int} (h:a.Perm b):(itsM r a).Perm (itsM r b):=h.filterMap _
theorem vol_perm {r:Request} {a b:List Int} (h:a.Perm b):volM r a = volM r b:=sumI_perm ((its_perm h).map _)
theorem grm_perm {r:Request} {a b:List Int} (h:a.Perm b):grmM r a = grmM r b:=sumI_perm ((its_perm h).map _)
theorem wit_perm {r:Request} {a b:List Int} (h:a.Perm b) (t:Typ):witB r a t = witB r b t:=by unfold witB; rw [vol_perm h,grm_perm h]
theorem hld_perm {r:Request} {a b:List Int} (h:a.Perm b) (t:Typ):hldB r a t = hldB r b t:=by
 unfold hldB
 rw [wit_perm h]
 congr 2
 apply Bool.eq_iff_iff.2
 simp only [List.all_eq_true]
 exact ⟨fun k u hu=>k u (h.mem_iff.2 hu),fun k u hu=>k u (h.mem_iff.1 hu)⟩
theorem nod_find {f:Typ → Int}:∀ (xs pre:List Typ) (t:Typ),nodB f pre xs = true → t ∈ xs → (∀ y ∈ pre,f y ≠ f t) ∧ xs.find? (fun y=>f y == f t) = some t
 | [],_,_,_,h=>by simp at h
 | x :: xs,pre,t,hn,h=>by
  simp only [nodB,Bool.and_eq_true,Bool.not_eq_true'] at hn
  have hx:=List.any_eq_false.1 hn.1
  rcases List.mem_cons.1 h with rfl | h
  · exact ⟨fun y hy e=>hx y hy (by simp [e]),by simp⟩
  · have ih:=nod_find xs (pre ++ [x]) t hn.2 h
    refine ⟨fun y hy=>ih.1 y (by simp [hy]),?_⟩
    have:=ih.1 x (by simp)
    have e:(f x == f t) = false:=by simpa using this
    rw [List.find?_cons,e]
    exact ih.2
theorem typ_find {r:Request} (hc:clsM r = 0) {t:Typ} (ht:t ∈ r.fTypes):typM r t.fId = some t:=by
 have h:=(clsM_zero hc).2.1
 unfold namB at h
 simp only [Bool.and_eq_true] at h
 exact (nod_find r.fTypes [] t h.1.1.1 ht).2
theorem chp_hold (r:Request) (us:List Int):∀ (l:List Typ) (s:Typ × Bool),(∀ t ∈ l,t ∈ r.fTypes) → (s.2 = true → s.1 ∈ r.fTypes ∧ hldB r us s.1 = true) → (l.foldl (chp r us) s).2 = true → (l.foldl (chp r us) s).1 ∈ r.fTypes ∧ hldB r us (l.foldl (chp r us) s).1 = true
 | [],s,_,h,h2=>h h2
 | t :: l,s,hl,h,h2=>by
  rw [List.foldl_cons] at h2 ⊢
  refine chp_hold r us l _ (fun x hx=>hl x (by simp [hx])) (fun h3=>?_) h2
  unfold chp at h3 ⊢
  cases hh:hldB r us t && (!s.2 || (decide (t.fCost < s.1.fCost) || (t.fCost == s.1.fCost && decide (t.fId < s.1.fId))))
  · rw [hh,cond_false] at h3
    rw [cond_false]
    exact h h3
  · rw [Bool.and_eq_true] at hh
    rw [cond_true]
    exact ⟨hl t (by simp),hh.1⟩
theorem mas_hold {r:Request} {us l:List Int} (h:Qc r (thrM r us) l):hldB r l (masM r) = true:=by
 obtain ⟨h1,h2,h3⟩:=h
 obtain ⟨u,hu⟩:=List.exists_mem_of_ne_nil _ h1
 have hc:=cls_in (thr_mem (h2 u hu))
 have hz:=clsM_zero hc
 unfold hldB
 rw [show (clsM r == 0) = true by simp [hc],Bool.true_and,h3,Bool.and_true,List.all_eq_true]
 intro v hv
 have hv':=thr_mem (h2 v hv)
 unfold uOk
 rw [itmZ_in hv',Bool.and_eq_true]
 exact ⟨rfl,hz.2.2.2.1 _ (itmZ_mem hv')⟩
theorem chp_pw {r:Request} {us l:List Int} (h:Qc r (thrM r us) l):clsM r = 0 ∧ (chpM r l).2 = true ∧ (chpM r l).1 ∈ r.fTypes ∧ hldB r l (chpM r l).1 = true ∧ typM r (chpM r l).1.fId = some (chpM r l).1:=by
 obtain ⟨u,hu⟩:=List.exists_mem_of_ne_nil _ h.1
 have hc:=cls_in (thr_mem (h.2.1 u hu))
 have h2:=chp_some (mas_typ hc).2.1 (mas_hold h)
 have h3:=chp_hold r l r.fTypes (zTyp,false) (fun _ h=>h) (by simp) h2
 exact ⟨hc,h2,h3.1,h3.2,typ_find hc h3.1⟩
theorem grm_pos {r:Request} {us l:List Int} (h:Qc r (thrM r us) l):1 ≤ grmM r l:=by
 obtain ⟨h1,h2,_⟩:=h
 match l,h1 with
 | u :: l,_ =>
  have hu:=thr_mem (h2 u (by simp))
  have hc:=cls_in hu
  have:=(bou_items (clsM_zero hc).1).1 _ (itmZ_mem hu)
  simp only [itmB,Bool.and_eq_true,inb_iff] at this
  have h3:=(grmM_bd r l).1
  rw [grm_cons]
  omega
theorem box_crt {r:Request} {us l:List Int} (h:Qc r (thrM r us) l) (k:Int):boxM r (crtM r k l) = ⟨(chpM r l).1.fW,(chpM r l).1.fD,(chpM r l).1.fH,(chpM r l).1.fTare + grmM r l⟩ ∧ bokB r.fPallet (boxM r (crtM r k l)) = true:=by
 obtain ⟨hc,_,ht,hh,hf⟩:=chp_pw h
 have hz:=clsM_zero hc
 have e:boxM r (crtM r k l) = ⟨(chpM r l).1.fW,(chpM r l).1.fD,(chpM r l).1.fH,(chpM r l).1.fTare + grmM r l⟩:=by
  unfold boxM crtM
  simp only [hf,show (clsM r == 0) = true by simp [hc],cond_true,grm_perm (srtI_perm l)]
 refine ⟨e,?_⟩
 have ht1:=bou_types hz.1 _ ht
 have ht2:=hz.2.2.2.2 _ ht
 simp only [typB,Bool.and_eq_true,inb_iff] at ht1
 simp only [tooB,Bool.or_eq_false_iff,decide_eq_false_iff_not] at ht2
 rw [w64_id (by omega) (by omega)] at ht2
 have hg:=grm_pos h
 unfold hldB at hh
 simp only [Bool.and_eq_true] at hh
 have hw:=hh.2.2
 unfold witB at hw
 simp only [Bool.and_eq_true,decide_eq_true_eq] at hw
 rw [e]
 simp only [bokB,Bool.and_eq_true,inb_iff]
 omega
def bxsK (r:Request) (k:Int):List Box:=((crtL r).filter fun c=>c.fGroup == k).map (boxM r)
def plS (r:Request) (s:List Spot × Int) (k:Int):List Spot × Int:=(s.1 ++ (spM r.fPallet (bxsK r k)).map (fun t=>⟨t.fPallet + s.2,t.fX,t.fY,t.fZ⟩),s.2 + palM (spM r.fPallet (bxsK r k)))
def plnM (r:Request):Plan × Bool:=bif clsM r == 0 then (⟨crtL r,((ints 0 (grpM r).length).foldl (plS r) ([],0)).1⟩,true) else (⟨[],[]⟩,false)
theorem crtF_filter (r:Request) (k:Int):∀ (ks:List Int),ks.Nodup → ((crtF r ks).filter fun c=>c.fGroup == k) = bif ks.contains k then crtK r k else []
 | [],_=>rfl
 | j :: ks,hn=>by
  obtain ⟨h1,h2⟩:=List.nodup_cons.1 hn
  have ih:=crtF_filter r k ks h2
  rw [crtF,List.filter_append,ih]
  have hj:∀ c ∈ crtK r j,c.fGroup = j:=by
   intro c hc
   unfold crtK at hc
   obtain ⟨l,_,rfl⟩:=List.mem_map.1 hc
   rfl
  by_cases e:k = j
  · subst e
    have e1:(crtK r k).filter (fun c=>c.fGroup == k) = crtK r k:=List.filter_eq_self.2 fun c hc=>by simp [hj c hc]
    have e2:ks.contains k = false:=by simpa using h1
    rw [e1,e2]
    simp
  · have e1:(crtK r j).filter (fun c=>c.fGroup == k) = []:=List.filter_eq_nil_iff.2 fun c hc=>by simp [hj c hc]; omega
    rw [e1]
    have e2:(j :: ks).contains k = ks.contains k:=by simp [e]
    rw [e2]; rfl
theorem bxs_eq {r:Request} {k:Int} (h:0 ≤ k ∧ k < (grpM r).length):bxsK r k = (crtK r k).map (boxM r):=by
 unfold bxsK crtL
 rw [crtF_filter r k _ (ints_nodup _ _)]
 rw [show (ints 0 (grpM r).length).contains k = true by rw [List.contains_iff_mem,ints_mem]; omega]
 rfl
theorem bxs_ok {r:Request} (hc:clsM r = 0) {k:Int} (h:0 ≤ k ∧ k < (grpM r).length):bosB r.fPallet (bxsK r k) = true:=by
 have hb:=(clsM_zero hc).1
 unfold bouB at hb
 simp only [Bool.and_eq_true] at hb
 unfold bosB
 rw [bxs_eq h,Bool.and_eq_true]
 refine ⟨hb.1.1.1.1.1.1.1.1.2,List.all_eq_true.2 fun b hb=>?_⟩
 unfold crtK at hb
 rw [List.map_map] at hb
 obtain ⟨l,hl,rfl⟩:=List.mem_map.1 hb
 exact (box_crt (pw_q l hl) k).2
theorem bxs_len (r:Request) (k:Int):(bxsK r k).length ≤ 48:=by
 have h1:=List.length_filter_le (fun c:Carton=>c.fGroup == k) (crtL r)
 have h2:=crtL_len r
 unfold bxsK
 rw [List.length_map]
 omega
theorem pl_len {r:Request} (hc:clsM r = 0):∀ (ks:List Int) (s:List Spot × Int),(∀ k ∈ ks,0 ≤ k ∧ k < (grpM r).length) → (ks.foldl (plS r) s).1.length = s.1.length + (crtF r ks).length
 | [],s,_=>by simp [crtF]
 | k :: ks,s,h=>by
  rw [List.foldl_cons,pl_len hc ks _ fun j hj=>h j (by simp [hj])]
  have hk:=h k (by simp)
  have h1:=spM_len (bxs_ok hc hk)
  rw [bxs_eq hk,List.length_map] at h1
  simp only [plS,crtF,List.length_append,List.length_map,bxs_eq hk,h1]
  omega
theorem pln_len (r:Request):(plnM r).1.fSpots.length = (plnM r).1.fCartons.length ∧ (plnM r).1.fCartons.length ≤ 48 ∧ ∀ c ∈ (plnM r).1.fCartons,c.fUnits.length ≤ 12:=by
 unfold plnM
 cases hc:clsM r == 0
 · exact ⟨rfl,by simp,by simp⟩
 · rw [cond_true]
   have:=pl_len (r:=r) (by simpa using hc) (ints 0 (grpM r).length) ([],0) fun k hk=>by have:=ints_mem.1 hk; omega
   exact ⟨by rw [this]; simp [crtL],crtL_len r,fun c hc=>crt_units hc⟩
theorem s_plan {fu:Nat} {r:Request} (h:Sm fu r):d_spec_PlanOf fu r = some (plnM r):=by
 have hfu:=h.fu
 have hg:=(grpM_ok r).1
 have hcl:=crtL_len r
 unfold d_spec_PlanOf plnM
 rw [s_cls h,ob_some]
 cases hc:clsM r == 0
 · rw [show (clsM r != 0) = true by simp only [bne,hc]; rfl]; rfl
 · have hz:clsM r = 0:=by simpa using hc
   rw [show (clsM r != 0) = false by simp [hz],cond_false,cond_true,s_crt h,ob_some,s_grp h,ob_some]
   have L3:=lpNI ((grpM r).length:Int) (fun n (s:List Spot × Int) k=>d_spec_PlanOf_L3 fu r (crtL r) (grpM r) n s.1 s.2 k) (fun ks s=>some ((⟨crtL r,(ks.foldl (plS r) s).1⟩:Plan),true)) (fun ks s=>(∀ k ∈ ks,0 ≤ k ∧ k < (grpM r).length) ∧ s.1.length + 48 * ks.length ≤ 1000 ∧ 0 ≤ s.2 ∧ s.2 + 1000000 * ks.length ≤ 10000000) (by omega) ?_ ?_ (grpM r).length fu ([],0) 0 (by omega) (by omega) (by omega) ⟨fun k hk=>by have:=ints_mem.1 hk; omega,by simp [ints_len]; omega,by simp,by simp [ints_len]; omega⟩
   · exact L3
   · intro n ⟨sp,base⟩ k ks k0 k1 hd hI ih
     obtain ⟨i1,i2,i3,i4⟩:(∀ j ∈ k :: ks,0 ≤ j ∧ j < (grpM r).length) ∧ sp.length + 48 * (k :: ks).length ≤ 1000 ∧ 0 ≤ base ∧ base + 1000000 * ((k :: ks).length:Int) ≤ 10000000:=hI
     simp only [List.length_cons] at i2 i4
     simp only [d_spec_PlanOf_L3.eq_2]
     unfold d_spec_PlanOf_L3_B
     rw [hd,cond_true]
     have L2:=lpI (crtL r) (fun m (bs:List Box) i=>d_spec_PlanOf_L2 fu (d_spec_PlanOf_L3 fu r (crtL r) (grpM r) n) r (crtL r) sp base k m bs i) (fun cs bs=>obind (d_spec_SpotsOf fu r.fPallet (bs ++ (cs.filter fun c=>c.fGroup == k).map (boxM r))) fun x=>d_spec_PlanOf_L1 fu (d_spec_PlanOf_L3 fu r (crtL r) (grpM r) n) base k x fu sp 0) (fun cs bs=>bs.length + cs.length ≤ 48 ∧ ∀ c ∈ cs,c.fUnits.length ≤ 12) (by omega) ?_ ?_ fu [] ⟨by simpa using hcl,fun c hc=>crt_units hc⟩ (by omega)
     · refine L2.trans ?_
       have hbl:=bxs_len r k
       rw [List.nil_append,show ((crtL r).filter fun c=>c.fGroup == k).map (boxM r) = bxsK r k from rfl,s_spots hfu _ _ (by omega),ob_some]
       have hsl:=spM_len (bxs_ok hz ⟨k0,k1⟩)
       have hpb:=palM_bd (spM r.fPallet (bxsK r k))
       have hps:∀ s ∈ spM r.fPallet (bxsK r k),s ∈ spM r.fPallet (bxsK r k):=fun _ h=>h
       have ih':=ih (plS r (sp,base) k) ⟨fun j hj=>i1 j (by simp [hj]),by simp [plS]; omega,by simp [plS]; omega,by simp [plS]; omega⟩
       rw [List.foldl_cons,← ih']
       have hS:=s_pals (fu:=fu) (l:=spM r.fPallet (bxsK r k)) (by omega) (by omega)
       have hwf:∀ s ∈ spM r.fPallet (bxsK r k),w64 (s.fPallet + base) = s.fPallet + base:=by
        intro s hs
        have:=sp_pal (p:=r.fPallet) (l:=bxsK r k) (by omega) s hs
        exact w64_id (by omega) (by omega)
       generalize hSP:spM r.fPallet (bxsK r k) = S at hsl hpb hS hwf ⊢
       have L1:=lpI S (fun m (o:List Spot) i=>d_spec_PlanOf_L1 fu (d_spec_PlanOf_L3 fu r (crtL r) (grpM r) n) base k S m o i) (fun xs o=>d_spec_PlanOf_L3 fu r (crtL r) (grpM r) n (o ++ xs.map (fun t=>⟨t.fPallet + base,t.fX,t.fY,t.fZ⟩)) (base + palM S) (w64 (k + 1))) (fun xs o=>o.length + xs.length ≤ 1000 ∧ ∀ s ∈ xs,w64 (s.fPallet + base) = s.fPallet + base) (by omega) ?_ ?_ fu sp ⟨by omega,hwf⟩ (by omega)
       · refine L1.trans ?_
         simp only [plS,hSP]
       · intro m o i x xs hx hd hI ih
         obtain ⟨j1,j2⟩:=hI
         simp only [List.length_cons] at j1
         simp only [d_spec_PlanOf_L1.eq_2]
         unfold d_spec_PlanOf_L1_B
         rw [hd,cond_true,hx,ob_some,j2 x (by simp),ap1 (by simp; omega),ob_some,ih _ ⟨by simp; omega,fun s hs=>j2 s (by simp [hs])⟩]
         simp
       · intro m o i hd hI
         simp only [d_spec_PlanOf_L1.eq_2]
         unfold d_spec_PlanOf_L1_B
         rw [hd,cond_false,hS,ob_some,w64_id (n:=base + _) (by omega) (by omega)]
         simp
     · intro m bs i c cs hx hd hI ih
       obtain ⟨j1,j2⟩:=hI
       simp only [List.length_cons] at j1
       have hcu:=j2 c (by simp)
       simp only [d_spec_PlanOf_L2.eq_2]
       unfold d_spec_PlanOf_L2_B d_spec_PlanOf_J1
       rw [hd,cond_true,hx,ob_some,ob_some,s_boxM h c (by omega),ob_some,ap1 (by simp; omega),ob_some,ih _ ⟨by simp; omega,fun c hc=>j2 c (by simp [hc])⟩,ih _ ⟨by omega,fun c hc=>j2 c (by simp [hc])⟩,List.filter_cons]
       cases c.fGroup == k <;> simp
     · intro m bs i hd _
       simp only [d_spec_PlanOf_L2.eq_2]
       unfold d_spec_PlanOf_L2_B
       rw [hd,cond_false]; simp
   · intro n ⟨sp,base⟩ k hd _
     simp only [d_spec_PlanOf_L3.eq_2]
     unfold d_spec_PlanOf_L3_B
     rw [hd,cond_false]; rfl
def SmP (x:Plan):Prop:=x.fCartons.length ≤ 60 ∧ x.fSpots.length ≤ 60 ∧ ∀ c ∈ x.fCartons,c.fUnits.length ≤ 20
theorem lensC_le (b:Nat):∀ (l:List Carton),(∀ c ∈ l,c.fUnits.length ≤ b) → lensC l ≤ b * l.length
 | [],_=>by simp [lensC]
 | c :: l,h=>by
  have h1:=lensC_le b l fun d hd=>h d (by simp [hd])
  have h2:=h c (by simp)
  simp only [lensC,List.length_cons,Nat.mul_add]; omega
theorem SmP.sp {x:Plan} (h:SmP x):Sp x:=by
 have:=lensC_le 20 x.fCartons h.2.2
 have:=h.1
 have:=h.2.1
 exact ⟨by omega,fun c hc=>by have:=h.2.2 c hc; omega,by omega,by omega⟩
theorem setC {l:List Carton} {i:Int} {y:Carton} (h:∀ c ∈ l,c.fUnits.length ≤ 20) (hy:y.fUnits.length ≤ 20):∀ c ∈ setx l i y,c.fUnits.length ≤ 20:=by
 intro c hc
 unfold setx at hc
 rcases List.mem_or_eq_of_mem_set hc with hc | rfl
 · exact h c hc
 · exact hy
theorem dr_l13 {fu:Nat} {b:List U8} (hb:b.length ≤ 1048576) (hf:2097153 ≤ fu):Tot (d_spec_l13Draw fu b) fun x=>SmR x.1 ∧ SmP x.2:=by
 unfold d_spec_l13Draw d_spec_l13Draw_J1
 refine Tot.bind (dr_class hb hf) fun r hr=>?_
 rw [s_plan (hr.sm hf),ob_some]
 obtain ⟨p1,p2,p3⟩:=pln_len r
 generalize plnM r = P at p1 p2 p3 ⊢
 have q3:∀ c ∈ P.1.fCartons,c.fUnits.length ≤ 20:=fun c hc=>by have:=p3 c hc; omega
 refine Tot.bind (dr_new hb (by omega)) fun c hc=>?_
 refine Tot.bif (fun _=>Tot.mk ⟨hr,by simp; omega,by simp; omega,q3⟩) fun hne=>?_
 have hpos:0 < P.1.fCartons.length:=by
  simp only [beq_eq_false_iff_ne] at hne
  omega
 refine Tot.bind (dr_below hc.re' _) fun i hi=>?_
 have hi0:=hi.1.1
 have hi1:=hi.1.2 (by omega)
 refine Tot.bind (dr_below hi.2.re' _) fun k hk=>?_
 refine Tot.bif (fun _=>?_) fun _=>?_
 · exact Tot.ix ⟨hi0,by omega⟩ fun s hs=>Tot.ix ⟨hi0,by omega⟩ fun s hs=>Tot.mk ⟨hr,by simp; omega,by simp [setx_len]; omega,q3⟩
 refine Tot.bif (fun _=>?_) fun _=>?_
 · exact Tot.bind (dr_below hk.2.re' _) fun v hv=>Tot.ix ⟨hi0,by omega⟩ fun s hs=>Tot.mk ⟨hr,by simp; omega,by simp [setx_len]; omega,q3⟩
 refine Tot.bif (fun _=>?_) fun _=>?_
 · exact Tot.bind (dr_pick hk.2.re' _ (by simp)) fun v hv=>Tot.ix ⟨hi0,by omega⟩ fun s hs=>Tot.mk ⟨hr,by simp [setx_len]; omega,by simp; omega,setC q3 (q3 s hs)⟩
 refine Tot.bif (fun _=>?_) fun _=>?_
 · refine Tot.ix ⟨hi0,by omega⟩ fun s hs=>Tot.bind (dr_below hk.2.re' _) fun v hv=>Tot.ap (by have:=p3 s hs; simp; omega) (Tot.ix ⟨hi0,by omega⟩ fun t ht=>Tot.mk ⟨hr,by simp [setx_len]; omega,by simp; omega,setC q3 (by have:=p3 s hs; simp; omega)⟩)
 refine Tot.bif (fun _=>?_) fun _=>?_
 · exact Tot.ix ⟨hi0,by omega⟩ fun s hs=>Tot.mk ⟨hr,by simp [setx_len]; omega,by simp; omega,setC q3 (by simp)⟩
 refine Tot.bif (fun _=>?_) fun _=>?_
 · rw [sls_from1 (by omega),ob_some]
   exact Tot.mk ⟨hr,by simp; omega,by simp; omega,q3⟩
 refine Tot.bif (fun _=>?_) fun _=>?_
 · exact Tot.bind (dr_below hk.2.re' _) fun v hv=>Tot.ix ⟨hi0,by omega⟩ fun s hs=>Tot.mk ⟨hr,by simp [setx_len]; omega,by simp; omega,setC q3 (q3 s hs)⟩
 refine Tot.bif (fun _=>?_) fun _=>?_
 · refine Tot.ix ⟨hi0,by omega⟩ fun s hs=>?_
   have:=p3 s hs
   unfold d_spec_l9Carton
   rw [ap1 (by simp; omega),ob_some,ob_some]
   refine Tot.ap (by simp; omega) (Tot.ap (by simp; omega) (Tot.mk ⟨hr,by simp; omega,by simp; omega,fun c hc=>?_⟩))
   rcases List.mem_append.1 hc with hc | hc
   · exact q3 c hc
   · rw [List.mem_singleton.1 hc]; simp; omega
 refine Tot.bif (fun _=>?_) fun _=>?_
 · exact Tot.bind (dr_pick hk.2.re' _ (by simp)) fun v hv=>Tot.ix ⟨hi0,by omega⟩ fun s hs=>Tot.mk ⟨hr,by simp; omega,by simp [setx_len]; omega,q3⟩
 · exact Tot.mk ⟨hr,by simp; omega,by simp; omega,q3⟩
def pcB (l:List Box) (o y z:Int):List Int → Int → List (Int × Spot)
 | [],_=>[]
 | b :: bs,x=>(b,⟨o,x,y,z⟩) :: pcB l o y z bs (x + (bxA l b).fW)
def pcS (l:List Box) (sh:List Shelf) (o z:Int):List Int → Int → List (Int × Spot)
 | [],_=>[]
 | j :: js,y=>pcB l o y z (shA sh j).fList 0 ++ pcS l sh o z js (y + (shA sh j).fD)
def pcY (l:List Box) (sh:List Shelf) (ly:List Layer) (o:Int):List Int → Int → List (Int × Spot)
 | [],_=>[]
 | i :: is,z=>pcS l sh o z (lyA ly i).fShelves 0 ++ pcY l sh ly o is (z + (lyA ly i).fH)
def pcO (l:List Box) (sh:List Shelf) (ly:List Layer) (ld:List Load):List Int → List (Int × Spot)
 | []=>[]
 | o :: os=>pcY l sh ly o (ldA ld o).fLayers 0 ++ pcO l sh ly ld os
def put1 (out:List Spot) (p:Int × Spot):List Spot:=setx out p.1 p.2
theorem spB_pc (l:List Box) (o y z:Int):∀ (is:List Int) (s:List Spot × Int),(spB l o y z is s).1 = (pcB l o y z is s.2).foldl put1 s.1
 | [],s=>rfl
 | b :: is,s=>by
  show (spB l o y z is (setx s.1 b ⟨o,s.2,y,z⟩,s.2 + (bxA l b).fW)).1 = _
  rw [spB_pc l o y z is]; rfl
theorem spS_pc (l:List Box) (sh:List Shelf) (o z:Int):∀ (js:List Int) (s:List Spot × Int),(spS l sh o z js s).1 = (pcS l sh o z js s.2).foldl put1 s.1
 | [],s=>rfl
 | j :: js,s=>by
  show (spS l sh o z js ((spB l o s.2 z (shA sh j).fList (s.1,0)).1,s.2 + (shA sh j).fD)).1 = _
  rw [spS_pc l sh o z js,spB_pc,pcS,List.foldl_append]
theorem spY_pc (l:List Box) (sh:List Shelf) (ly:List Layer) (o:Int):∀ (is:List Int) (s:List Spot × Int),(spY l sh ly o is s).1 = (pcY l sh ly o is s.2).foldl put1 s.1
 | [],s=>rfl
 | i :: is,s=>by
  show (spY l sh ly o is ((spS l sh o s.2 (lyA ly i).fShelves (s.1,0)).1,s.2 + (lyA ly i).fH)).1 = _
  rw [spY_pc l sh ly o is,spS_pc,pcY,List.foldl_append]
theorem spO_pc (l:List Box) (sh:List Shelf) (ly:List Layer) (ld:List Load):∀ (os:List Int) (out:List Spot),spO l sh ly ld os out = (pcO l sh ly ld os).foldl put1 out
 | [],out=>rfl
 | o :: os,out=>by
  show spO l sh ly ld os (spY l sh ly o (ldA ld o).fLayers (out,0)).1 = _
  rw [spO_pc l sh ly ld os,spY_pc,pcO,List.foldl_append]
theorem pcB_fst (l:List Box) (o y z:Int):∀ (is:List Int) (x:Int),(pcB l o y z is x).map (·.1) = is
 | [],_=>rfl
 | b :: is,x=>by rw [pcB,List.map_cons,pcB_fst l o y z is]
theorem pcS_fst (l:List Box) (sh:List Shelf) (o z:Int):∀ (js:List Int) (y:Int),(pcS l sh o z js y).map (·.1) = (js.map fun j=>(shA sh j).fList).flatten
 | [],_=>rfl
 | j :: js,y=>by rw [pcS,List.map_append,pcB_fst,pcS_fst l sh o z js,List.map_cons,List.flatten_cons]
theorem pcY_fst (l:List Box) (sh:List Shelf) (ly:List Layer) (o:Int):∀ (is:List Int) (z:Int),(pcY l sh ly o is z).map (·.1) = (((is.map fun i=>(lyA ly i).fShelves).flatten).map fun j=>(shA sh j).fList).flatten
 | [],_=>rfl
 | i :: is,z=>by rw [pcY,List.map_append,pcS_fst,pcY_fst l sh ly o is,List.map_cons,List.flatten_cons,List.map_append,List.flatten_append]
theorem pcO_fst (l:List Box) (sh:List Shelf) (ly:List Layer) (ld:List Load):∀ (os:List Int),(pcO l sh ly ld os).map (·.1) = (((((os.map fun o=>(ldA ld o).fLayers).flatten).map fun i=>(lyA ly i).fShelves).flatten).map fun j=>(shA sh j).fList).flatten
 | []=>rfl
 | o :: os=>by rw [pcO,List.map_append,pcY_fst,pcO_fst l sh ly ld os,List.map_cons,List.flatten_cons,List.map_append,List.flatten_append,List.map_append,List.flatten_append]
theorem ints_at {α β:Type} (l:List α) (d:α) (f:α → β):(ints 0 l.length).map (fun p=>f ((ix l p).getD d)) = l.map f:=by
 have key:∀ (xs pre:List α),l = pre ++ xs → (ints pre.length xs.length).map (fun p=>f ((ix l p).getD d)) = xs.map f:=by
  intro xs
  induction xs with
  | nil=>intro pre _; rfl
  | cons x xs ih =>
   intro pre he
   have h1:=ih (pre ++ [x]) (by simp [he])
   have h2:ix l (pre.length:Int) = some x:=by rw [ix_nat,he]; simp
   rw [List.length_cons]
   unfold ints
   rw [List.map_cons,List.map_cons,h2]
   have h3:(((pre ++ [x]).length:Nat):Int) = (pre.length:Int) + 1:=by simp
   rw [h3] at h1
   rw [h1]; rfl
 exact key l [] rfl
structure ShQ (l:List Box) (s:Shelf):Prop where
 w:s.fW = sumI (s.fList.map fun i=>(bxA l i).fW)
 m:∀ i ∈ s.fList,(bxA l i).fD ≤ s.fD ∧ (bxA l i).fH ≤ s.fH
 g:s.fGram = sumI (s.fList.map fun i=>(bxA l i).fGram)
theorem shQ_all (p:Pallet) (l:List Box):∀ (is:List Int) (out:List Shelf),(∀ s ∈ out,ShQ l s) → ∀ s ∈ is.foldl (shS p l) out,ShQ l s
 | [],_,h=>h
 | i :: is,out,h=>by
  rw [List.foldl_cons]
  refine shQ_all p l is _ (nxG_all h (fun s hs _=>?_) ?_)
  · have m1:=mxI_ge s.fD (bxA l i).fD
    have m2:=mxI_ge s.fH (bxA l i).fH
    refine ⟨?_,fun j hj=>?_,?_⟩
    · simp only [shAdd,List.map_append,sumI_append,hs.w,List.map_cons,List.map_nil,sumI_cons,sumI_nil]; omega
    · simp only [shAdd,List.mem_append,List.mem_singleton] at hj ⊢
      rcases hj with hj | rfl
      · have:=hs.m j hj; omega
      · omega
    · simp only [shAdd,List.map_append,sumI_append,hs.g,List.map_cons,List.map_nil,sumI_cons,sumI_nil]; omega
  · have m1:=mxI_ge 0 (bxA l i).fD
    have m2:=mxI_ge 0 (bxA l i).fH
    refine ⟨by simp [shAdd,zSh],fun j hj=>?_,by simp [shAdd,zSh]⟩
    simp only [shAdd,zSh,List.nil_append,List.mem_singleton] at hj ⊢
    subst hj; omega
structure LyQ (sh:List Shelf) (x:Layer):Prop where
 d:x.fD = sumI (x.fShelves.map fun j=>(shA sh j).fD)
 m:∀ j ∈ x.fShelves,(shA sh j).fH ≤ x.fH
 g:x.fGram = sumI (x.fShelves.map fun j=>(shA sh j).fGram)
theorem lyQ_all (p:Pallet) (l:List Shelf):∀ (is:List Int) (out:List Layer),(∀ s ∈ out,LyQ l s) → ∀ s ∈ is.foldl (lyS p l) out,LyQ l s
 | [],_,h=>h
 | i :: is,out,h=>by
  rw [List.foldl_cons]
  refine lyQ_all p l is _ (nxG_all h (fun s hs _=>?_) ?_)
  · have m2:=mxI_ge s.fH (shA l i).fH
    refine ⟨?_,fun j hj=>?_,?_⟩
    · simp only [lyAdd,List.map_append,sumI_append,hs.d,List.map_cons,List.map_nil,sumI_cons,sumI_nil]; omega
    · simp only [lyAdd,List.mem_append,List.mem_singleton] at hj ⊢
      rcases hj with hj | rfl
      · have:=hs.m j hj; omega
      · omega
    · simp only [lyAdd,List.map_append,sumI_append,hs.g,List.map_cons,List.map_nil,sumI_cons,sumI_nil]; omega
  · have m2:=mxI_ge 0 (shA l i).fH
    refine ⟨by simp [lyAdd,zLy],fun j hj=>?_,by simp [lyAdd,zLy]⟩
    simp only [lyAdd,zLy,List.nil_append,List.mem_singleton] at hj ⊢
    subst hj; omega
structure LdQ (ly:List Layer) (x:Load):Prop where
 h:x.fH = sumI (x.fLayers.map fun j=>(lyA ly j).fH)
 g:x.fGram = sumI (x.fLayers.map fun j=>(lyA ly j).fGram)
theorem ldQ_all (p:Pallet) (l:List Layer):∀ (is:List Int) (out:List Load),(∀ s ∈ out,LdQ l s) → ∀ s ∈ is.foldl (ldS p l) out,LdQ l s
 | [],_,h=>h
 | i :: is,out,h=>by
  rw [List.foldl_cons]
  refine ldQ_all p l is _ (nxG_all h (fun s hs _=>?_) ⟨by simp [ldAdd,zLd],by simp [ldAdd,zLd]⟩)
  refine ⟨?_,?_⟩
  · simp only [ldAdd,List.map_append,sumI_append,hs.h,List.map_cons,List.map_nil,sumI_cons,sumI_nil]; omega
  · simp only [ldAdd,List.map_append,sumI_append,hs.g,List.map_cons,List.map_nil,sumI_cons,sumI_nil]; omega
def Apt (b:Box) (s:Spot) (c:Box) (t:Spot):Prop:=s.fPallet ≠ t.fPallet ∨ (s.fX + b.fW ≤ t.fX ∨ t.fX + c.fW ≤ s.fX) ∨ (s.fY + b.fD ≤ t.fY ∨ t.fY + c.fD ≤ s.fY) ∨ (s.fZ + b.fH ≤ t.fZ ∨ t.fZ + c.fH ≤ s.fZ)
theorem Apt.symm {b c:Box} {s t:Spot} (h:Apt b s c t):Apt c t b s:=by unfold Apt at h ⊢; omega
structure Geo (p:Pallet) (l:List Box) (sh:List Shelf) (ly:List Layer) (ld:List Load):Prop where
 b:∀ j ∈ ints 0 sh.length,ShQ l (shA sh j) ∧ ShI p l.length (shA sh j)
 s:∀ i ∈ ints 0 ly.length,LyQ sh (lyA ly i) ∧ LyI p sh.length (lyA ly i)
 y:∀ o ∈ ints 0 ld.length,LdQ ly (ldA ld o) ∧ LdI p ly.length (ldA ld o)
 ok:bosB p l = true
section
variable {p:Pallet} {l:List Box} {sh:List Shelf} {ly:List Layer} {ld:List Load}
theorem pcB_in (o y z:Int):∀ (is:List Int) (x:Int),(∀ i ∈ is,1 ≤ (bxA l i).fW) → ∀ q ∈ pcB l o y z is x,q.1 ∈ is ∧ q.2.fPallet = o ∧ q.2.fY = y ∧ q.2.fZ = z ∧ x ≤ q.2.fX ∧ q.2.fX + (bxA l q.1).fW ≤ x + sumI (is.map fun i=>(bxA l i).fW)
 | [],_,_,q,hq=>by simp [pcB] at hq
 | b :: is,x,h,q,hq=>by
  have hb:=h b (by simp)
  have h0:0 ≤ sumI (is.map fun i=>(bxA l i).fW):=sumI_nn _ _ fun i hi=>by have:=h i (by simp [hi]); omega
  rw [List.map_cons,sumI_cons]
  rw [pcB] at hq
  rcases List.mem_cons.1 hq with rfl | hq
  · exact ⟨by simp,rfl,rfl,rfl,Int.le_refl _,by show x + (bxA l b).fW ≤ _; omega⟩
  · obtain ⟨h1,h2,h3,h4,h5,h6⟩:=pcB_in o y z is _ (fun i hi=>h i (by simp [hi])) q hq
    exact ⟨by simp [h1],h2,h3,h4,by omega,by omega⟩
def AptP (l:List Box) (a c:Int × Spot):Prop:=Apt (bxA l a.1) a.2 (bxA l c.1) c.2
theorem pcB_pw (o y z:Int):∀ (is:List Int) (x:Int),(∀ i ∈ is,1 ≤ (bxA l i).fW) → (pcB l o y z is x).Pairwise (AptP l)
 | [],_,_=>List.Pairwise.nil
 | b :: is,x,h=>by
  rw [pcB]
  refine List.Pairwise.cons (fun q hq=>?_) (pcB_pw o y z is _ fun i hi=>h i (by simp [hi]))
  obtain ⟨_,_,_,_,h5,_⟩:=pcB_in o y z is _ (fun i hi=>h i (by simp [hi])) q hq
  exact .inr (.inl (.inl h5))
theorem pcS_in (hg:Geo p l sh ly ld) (o z H:Int):∀ (js:List Int) (y:Int),(∀ j ∈ js,j ∈ ints 0 sh.length ∧ (shA sh j).fH ≤ H) → ∀ q ∈ pcS l sh o z js y,q.2.fPallet = o ∧ q.2.fZ = z ∧ (bxA l q.1).fH ≤ H ∧ 0 ≤ q.2.fX ∧ q.2.fX + (bxA l q.1).fW ≤ p.fW ∧ y ≤ q.2.fY ∧ q.2.fY + (bxA l q.1).fD ≤ y + sumI (js.map fun j=>(shA sh j).fD)
 | [],_,_,q,hq=>by simp [pcS] at hq
 | j :: js,y,h,q,hq=>by
  obtain ⟨hj,hH⟩:=h j (by simp)
  obtain ⟨a1,a2⟩:=hg.b j hj
  have h0:0 ≤ sumI (js.map fun j=>(shA sh j).fD):=sumI_nn _ _ fun i hi=>by have:=(hg.b i (h i (by simp [hi])).1).2.d; omega
  have hD:=a2.d
  rw [List.map_cons,sumI_cons]
  rw [pcS] at hq
  rcases List.mem_append.1 hq with hq | hq
  · obtain ⟨h1,h2,h3,h4,h5,h6⟩:=pcB_in o y z _ 0 (fun i hi=>(bok_at hg.ok (a2.inn i hi)).2.1.1) q hq
    have h7:=a1.m _ h1
    have h8:=a1.w
    have h9:=a2.w
    exact ⟨h2,h4,by omega,h5,by omega,by omega,by omega⟩
  · obtain ⟨h1,h2,h3,h4,h5,h6,h7⟩:=pcS_in hg o z H js _ (fun i hi=>h i (by simp [hi])) q hq
    exact ⟨h1,h2,h3,h4,h5,by omega,by omega⟩
theorem pcS_pw (hg:Geo p l sh ly ld) (o z H:Int):∀ (js:List Int) (y:Int),(∀ j ∈ js,j ∈ ints 0 sh.length ∧ (shA sh j).fH ≤ H) → (pcS l sh o z js y).Pairwise (AptP l)
 | [],_,_=>List.Pairwise.nil
 | j :: js,y,h=>by
  obtain ⟨hj,hH⟩:=h j (by simp)
  obtain ⟨a1,a2⟩:=hg.b j hj
  rw [pcS]
  refine List.pairwise_append.2 ⟨pcB_pw o y z _ _ fun i hi=>(bok_at hg.ok (a2.inn i hi)).2.1.1,pcS_pw hg o z H js _ fun i hi=>h i (by simp [hi]),fun a ha c hc=>?_⟩
  obtain ⟨h1,h2,h3,h4,h5,h6⟩:=pcB_in o y z _ 0 (fun i hi=>(bok_at hg.ok (a2.inn i hi)).2.1.1) a ha
  obtain ⟨_,_,_,_,_,k6,_⟩:=pcS_in hg o z H js _ (fun i hi=>h i (by simp [hi])) c hc
  have h7:=a1.m _ h1
  exact .inr (.inr (.inl (.inl (by omega))))
theorem pcY_in (hg:Geo p l sh ly ld) (o:Int):∀ (is:List Int) (z:Int),(∀ i ∈ is,i ∈ ints 0 ly.length) → ∀ q ∈ pcY l sh ly o is z,q.2.fPallet = o ∧ (0 ≤ q.2.fX ∧ q.2.fX + (bxA l q.1).fW ≤ p.fW) ∧ (0 ≤ q.2.fY ∧ q.2.fY + (bxA l q.1).fD ≤ p.fD) ∧ z ≤ q.2.fZ ∧ q.2.fZ + (bxA l q.1).fH ≤ z + sumI (is.map fun i=>(lyA ly i).fH)
 | [],_,_,q,hq=>by simp [pcY] at hq
 | i :: is,z,h,q,hq=>by
  obtain ⟨a1,a2⟩:=hg.s i (h i (by simp))
  have h0:0 ≤ sumI (is.map fun i=>(lyA ly i).fH):=sumI_nn _ _ fun k hk=>by have:=(hg.s k (h k (by simp [hk]))).2.h; omega
  have hD:=a2.h
  rw [List.map_cons,sumI_cons]
  rw [pcY] at hq
  rcases List.mem_append.1 hq with hq | hq
  · obtain ⟨h1,h2,h3,h4,h5,h6,h7⟩:=pcS_in hg o z _ _ 0 (fun j hj=>⟨ints_mem.2 (by have:=a2.inn j hj; omega),a1.m j hj⟩) q hq
    have h8:=a1.d
    have h9:=a2.d
    exact ⟨h1,⟨h4,h5⟩,⟨h6,by omega⟩,by omega,by omega⟩
  · obtain ⟨h1,h2,h3,h4,h5⟩:=pcY_in hg o is _ (fun k hk=>h k (by simp [hk])) q hq
    exact ⟨h1,h2,h3,by omega,by omega⟩
theorem pcY_pw (hg:Geo p l sh ly ld) (o:Int):∀ (is:List Int) (z:Int),(∀ i ∈ is,i ∈ ints 0 ly.length) → (pcY l sh ly o is z).Pairwise (AptP l)
 | [],_,_=>List.Pairwise.nil
 | i :: is,z,h=>by
  obtain ⟨a1,a2⟩:=hg.s i (h i (by simp))
  have hk:∀ j ∈ (lyA ly i).fShelves,j ∈ ints 0 sh.length ∧ (shA sh j).fH ≤ (lyA ly i).fH:=fun j hj=>⟨ints_mem.2 (by have:=a2.inn j hj; omega),a1.m j hj⟩
  rw [pcY]
  refine List.pairwise_append.2 ⟨pcS_pw hg o z _ _ 0 hk,pcY_pw hg o is _ fun k hk=>h k (by simp [hk]),fun a ha c hc=>?_⟩
  obtain ⟨_,h2,h3,_⟩:=pcS_in hg o z _ _ 0 hk a ha
  obtain ⟨_,_,_,k4,_⟩:=pcY_in hg o is _ (fun k hk=>h k (by simp [hk])) c hc
  exact .inr (.inr (.inr (.inl (by omega))))
theorem ly_in (hg:Geo p l sh ly ld) {o:Int} (ho:o ∈ ints 0 ld.length):∀ i ∈ (ldA ld o).fLayers,i ∈ ints 0 ly.length:=fun i hi=>ints_mem.2 (by have:=(hg.y o ho).2.inn i hi; omega)
theorem pcO_in (hg:Geo p l sh ly ld):∀ (os:List Int),(∀ o ∈ os,o ∈ ints 0 ld.length) → ∀ q ∈ pcO l sh ly ld os,q.2.fPallet ∈ os ∧ (0 ≤ q.2.fX ∧ q.2.fX + (bxA l q.1).fW ≤ p.fW) ∧ (0 ≤ q.2.fY ∧ q.2.fY + (bxA l q.1).fD ≤ p.fD) ∧ (0 ≤ q.2.fZ ∧ q.2.fZ + (bxA l q.1).fH ≤ p.fH)
 | [],_,q,hq=>by simp [pcO] at hq
 | o :: os,h,q,hq=>by
  rw [pcO] at hq
  rcases List.mem_append.1 hq with hq | hq
  · have ho:=h o (by simp)
    obtain ⟨h1,h2,h3,h4,h5⟩:=pcY_in hg o _ 0 (ly_in hg ho) q hq
    obtain ⟨a1,a2⟩:=hg.y o ho
    have h8:=a1.h
    have h9:=a2.h
    exact ⟨by simp [h1],h2,h3,h4,by omega⟩
  · obtain ⟨h1,h2⟩:=pcO_in hg os (fun k hk=>h k (by simp [hk])) q hq
    exact ⟨by simp [h1],h2⟩
theorem pcO_pw (hg:Geo p l sh ly ld):∀ (os:List Int),os.Nodup → (∀ o ∈ os,o ∈ ints 0 ld.length) → (pcO l sh ly ld os).Pairwise (AptP l)
 | [],_,_=>List.Pairwise.nil
 | o :: os,hn,h=>by
  obtain ⟨n1,n2⟩:=List.nodup_cons.1 hn
  have ho:=h o (by simp)
  rw [pcO]
  refine List.pairwise_append.2 ⟨pcY_pw hg o _ 0 (ly_in hg ho),pcO_pw hg os n2 fun k hk=>h k (by simp [hk]),fun a ha c hc=>?_⟩
  obtain ⟨h1,_⟩:=pcY_in hg o _ 0 (ly_in hg ho) a ha
  obtain ⟨k1,_⟩:=pcO_in hg os (fun k hk=>h k (by simp [hk])) c hc
  exact .inl fun e=>n1 (by rw [← h1,e]; exact k1)
theorem sumI_flat (L:List (List Int)):sumI L.flatten = sumI (L.map sumI):=by
 induction L with
 | nil=>rfl
 | cons x L ih=>rw [List.flatten_cons,sumI_append,ih,List.map_cons,sumI_cons]
theorem pcY_g (hg:Geo p l sh ly ld) (o z:Int) (is:List Int) (h:∀ i ∈ is,i ∈ ints 0 ly.length):sumI ((pcY l sh ly o is z).map fun q=>(bxA l q.1).fGram) = sumI (is.map fun i=>(lyA ly i).fGram):=by
 have e:(pcY l sh ly o is z).map (fun q=>(bxA l q.1).fGram) = ((pcY l sh ly o is z).map (·.1)).map fun i=>(bxA l i).fGram:=by rw [List.map_map]; rfl
 rw [e,pcY_fst,List.map_flatten,sumI_flat,List.map_map,List.map_map,List.map_flatten,sumI_flat,List.map_map,List.map_map]
 congr 1
 refine List.map_congr_left fun i hi=>?_
 obtain ⟨a1,a2⟩:=hg.s i (h i hi)
 rw [a1.g]
 show sumI _ = _
 congr 1
 refine List.map_congr_left fun j hj=>?_
 obtain ⟨b1,_⟩:=hg.b j (ints_mem.2 (by have:=a2.inn j hj; omega))
 rw [b1.g]; rfl
theorem pcO_g (hg:Geo p l sh ly ld) (k:Int):∀ (os:List Int),os.Nodup → (∀ o ∈ os,o ∈ ints 0 ld.length) → sumI (((pcO l sh ly ld os).filter fun q=>q.2.fPallet == k).map fun q=>(bxA l q.1).fGram) ≤ p.fGram
 | [],_,_=>by
  have:=pal_bd (bos_pal hg.ok)
  simp [pcO]; omega
 | o :: os,hn,h=>by
  obtain ⟨n1,n2⟩:=List.nodup_cons.1 hn
  have ho:=h o (by simp)
  rw [pcO,List.filter_append]
  by_cases e:o = k
  · subst e
    rw [List.filter_eq_self.2 fun q hq=>by simp [(pcY_in hg o _ 0 (ly_in hg ho) q hq).1],List.filter_eq_nil_iff.2 fun q hq=>by
     have:=(pcO_in hg os (fun k hk=>h k (by simp [hk])) q hq).1
     intro e
     rw [beq_iff_eq] at e
     exact n1 (e ▸ this),List.append_nil,pcY_g hg _ _ _ (ly_in hg ho),← (hg.y o ho).1.g]
    exact (hg.y o ho).2.g.2
  · rw [List.filter_eq_nil_iff.2 fun q hq=>by simp [(pcY_in hg o _ 0 (ly_in hg ho) q hq).1,e],List.nil_append]
    exact pcO_g hg k os n2 fun k hk=>h k (by simp [hk])
theorem pcO_occ (hg:Geo p l sh ly ld):∀ (os:List Int),(∀ o ∈ os,o ∈ ints 0 ld.length) → ∀ o ∈ os,∃ q ∈ pcO l sh ly ld os,q.2.fPallet = o
 | [],_,o,ho=>by simp at ho
 | a :: os,h,o,ho=>by
  rw [pcO]
  rcases List.mem_cons.1 ho with rfl | ho
  · obtain ⟨a1,a2⟩:=hg.y o (h o (by simp))
    obtain ⟨i,hi⟩:=List.exists_mem_of_ne_nil _ a2.ne
    have hli:=ly_in hg (h o (by simp))
    obtain ⟨_,b2⟩:=hg.s i (hli i hi)
    obtain ⟨j,hj⟩:=List.exists_mem_of_ne_nil _ b2.ne
    obtain ⟨_,c2⟩:=hg.b j (ints_mem.2 (by have:=b2.inn j hj; omega))
    obtain ⟨b,hb⟩:=List.exists_mem_of_ne_nil _ c2.ne
    have:b ∈ (pcY l sh ly o (ldA ld o).fLayers 0).map (·.1):=by
     rw [pcY_fst]
     exact List.mem_flatten.2 ⟨_,List.mem_map.2 ⟨j,List.mem_flatten.2 ⟨_,List.mem_map.2 ⟨i,hi,rfl⟩,hj⟩,rfl⟩,hb⟩
    obtain ⟨q,hq,_⟩:=List.mem_map.1 this
    exact ⟨q,List.mem_append_left _ hq,(pcY_in hg o _ 0 hli q hq).1⟩
  · obtain ⟨q,hq,e⟩:=pcO_occ hg os (fun k hk=>h k (by simp [hk])) o ho
    exact ⟨q,List.mem_append_right _ hq,e⟩
end
theorem ix_set_ne {α:Type} (l:List α) {i j:Int} (y:α) (h:i ≠ j) (h0:0 ≤ i):ix (setx l i y) j = ix l j:=by
 unfold ix setx
 by_cases hj:0 ≤ j
 · rw [if_pos hj,if_pos hj,List.getElem?_set_ne (by omega)]
 · rw [if_neg hj,if_neg hj]
theorem put_other:∀ (P:List (Int × Spot)) (out:List Spot) (i:Int),(∀ q ∈ P,q.1 ≠ i ∧ 0 ≤ q.1) → ix (P.foldl put1 out) i = ix out i
 | [],_,_,_=>rfl
 | q :: P,out,i,h=>by
  rw [List.foldl_cons,put_other P _ i fun r hr=>h r (by simp [hr])]
  exact ix_set_ne _ _ (h q (by simp)).1 (h q (by simp)).2
theorem put_get:∀ (P:List (Int × Spot)) (out:List Spot),(P.map (·.1)).Nodup → (∀ q ∈ P,0 ≤ q.1 ∧ q.1 < out.length) → ∀ q ∈ P,ix (P.foldl put1 out) q.1 = some q.2
 | [],_,_,_,q,hq=>by simp at hq
 | a :: P,out,hn,h,q,hq=>by
  rw [List.map_cons] at hn
  obtain ⟨n1,n2⟩:=List.nodup_cons.1 hn
  rw [List.foldl_cons]
  rcases List.mem_cons.1 hq with rfl | hq
  · rw [put_other P _ q.1 fun r hr=>⟨fun e=>n1 (List.mem_map.2 ⟨r,hr,e⟩),(h r (by simp [hr])).1⟩]
    obtain ⟨x,hx⟩:=ix_in (l:=out) (h q (by simp)).1 (h q (by simp)).2
    exact ix_setx _ hx
  · exact put_get P _ n2 (fun r hr=>by
      have:=h r (by simp [hr])
      rw [show (put1 out a).length = out.length from setx_len' _ _ _]; exact this) q hq
structure SpI (p:Pallet) (l:List Box) (S:List Spot) (N:Int):Prop where
 len:S.length = l.length
 ins:∀ q ∈ l.zip S,(0 ≤ q.2.fPallet ∧ q.2.fPallet < N) ∧ (0 ≤ q.2.fX ∧ q.2.fX + q.1.fW ≤ p.fW) ∧ (0 ≤ q.2.fY ∧ q.2.fY + q.1.fD ≤ p.fD) ∧ (0 ≤ q.2.fZ ∧ q.2.fZ + q.1.fH ≤ p.fH)
 apr:(l.zip S).Pairwise fun a c=>Apt a.1 a.2 c.1 c.2
 occ:∀ k,0 ≤ k → k < N → ∃ q ∈ l.zip S,q.2.fPallet = k
 grm:∀ k,sumI (((l.zip S).filter fun q=>q.2.fPallet == k).map (·.1.fGram)) ≤ p.fGram
 nn:0 ≤ N ∧ N ≤ l.length
theorem sumI_perm' {a b:List Int} (h:a.Perm b):sumI a = sumI b:=by
 induction h with
 | nil=>rfl
 | cons x _ ih=>simp [ih]
 | swap x y l=>simp only [sumI_cons]; omega
 | trans _ _ h1 h2=>exact h1.trans h2
theorem pw_all {α:Type} {R:α → α → Prop} (hs:∀ x y,R x y → R y x) (hr:∀ x,R x x):∀ (P:List α),P.Pairwise R → ∀ x ∈ P,∀ y ∈ P,R x y
 | [],_,x,hx,_,_=>by simp at hx
 | a :: P,h,x,hx,y,hy=>by
  obtain ⟨h1,h2⟩:=List.pairwise_cons.1 h
  rcases List.mem_cons.1 hx with ex | hx'
  · rcases List.mem_cons.1 hy with ey | hy'
    · rw [ex,ey]; exact hr _
    · rw [ex]; exact h1 y hy'
  · rcases List.mem_cons.1 hy with ey | hy'
    · rw [ey]; exact hs _ _ (h1 x hx')
    · exact pw_all hs hr P h2 x hx' y hy'
theorem sp_geo {p:Pallet} {l:List Box} (h:bosB p l = true):SpI p l (spM p l) (ldM p (lyM p (shM p l))).length:=by
 have hS:=okS_sh h
 have hY:=okY_ly hS
 obtain ⟨a1,a2,a3⟩:=shM_all h
 obtain ⟨b1,b2,b3⟩:=lyM_all hS
 obtain ⟨c1,c2,c3⟩:=ldM_all hY
 have q1:∀ s ∈ shM p l,ShQ l s:=by
  unfold shM
  rw [h,cond_true]
  exact shQ_all p l _ _ (by simp)
 have q2:∀ s ∈ lyM p (shM p l),LyQ (shM p l) s:=lyQ_all p _ _ _ (by simp)
 have q3:∀ s ∈ ldM p (lyM p (shM p l)),LdQ (lyM p (shM p l)) s:=ldQ_all p _ _ _ (by simp)
 have e:spM p l = (pcO l (shM p l) (lyM p (shM p l)) (ldM p (lyM p (shM p l))) (ints 0 (ldM p (lyM p (shM p l))).length)).foldl put1 (List.replicate l.length zSp):=by
  unfold spM
  rw [h,cond_true,spO_pc]
 have hlen:=spM_len h
 generalize hsh:shM p l = sh at *
 generalize hly:lyM p sh = ly at *
 generalize hld:ldM p ly = ld at *
 have at_mem:∀ {α:Type} (L:List α) (d:α) (j:Int),j ∈ ints 0 L.length → (ix L j).getD d ∈ L:=fun L d j hj=>by
  have hj:=ints_mem.1 hj
  obtain ⟨x,hx⟩:=ix_in (l:=L) (i:=j) hj.1 (by omega)
  rw [hx]; exact ix_mem hx
 have hg:Geo p l sh ly ld:=⟨fun j hj=>⟨q1 _ (at_mem sh zSh j hj),a1 _ (at_mem sh zSh j hj)⟩,fun j hj=>⟨q2 _ (at_mem ly zLy j hj),b1 _ (at_mem ly zLy j hj)⟩,fun j hj=>⟨q3 _ (at_mem ld zLd j hj),c1 _ (at_mem ld zLd j hj)⟩,h⟩
 have hf:(pcO l sh ly ld (ints 0 ld.length)).map (·.1) = srt (dnk (l.map (·.fD))) l.length:=by
  rw [pcO_fst]
  have e1:(ints 0 ld.length).map (fun o=>(ldA ld o).fLayers) = ld.map (·.fLayers):=ints_at ld zLd (·.fLayers)
  have e2:(ints 0 ly.length).map (fun o=>(lyA ly o).fShelves) = ly.map (·.fShelves):=ints_at ly zLy (·.fShelves)
  have e3:(ints 0 sh.length).map (fun o=>(shA sh o).fList) = sh.map (·.fList):=ints_at sh zSh (·.fList)
  rw [e1,c2,e2,b2,e3,a2]
 have hin:=pcO_in hg (ints 0 ld.length) fun _ h=>h
 have hpw:=pcO_pw hg (ints 0 ld.length) (ints_nodup _ _) fun _ h=>h
 have hgr:=fun k=>pcO_g hg k (ints 0 ld.length) (ints_nodup _ _) fun _ h=>h
 have hoc:=pcO_occ hg (ints 0 ld.length) fun _ h=>h
 generalize pcO l sh ly ld (ints 0 ld.length) = P at *
 have hperm:(P.map (·.1)).Perm (ints 0 l.length):=by rw [hf]; exact srt_perm _ _
 have hbd:∀ q ∈ P,0 ≤ q.1 ∧ q.1 < l.length:=fun q hq=>by
  have:=ints_mem.1 (hperm.mem_iff.1 (List.mem_map.2 ⟨q,hq,rfl⟩))
  omega
 have hget:∀ q ∈ P,ix (spM p l) q.1 = some q.2:=by
  rw [e]
  exact put_get P _ (hperm.nodup_iff.2 (ints_nodup _ _)) (by simpa using hbd)
 generalize hSS:spM p l = S at *
 have hz:l.zip S = (ints 0 l.length).map fun i=>(bxA l i,(ix S i).getD zSp):=by
  have e1:(ints 0 l.length).map (fun i=>bxA l i) = l:=by
   have:=ints_at l zBx (fun x=>x)
   rwa [List.map_id'] at this
  have e2:(ints 0 l.length).map (fun i=>(ix S i).getD zSp) = S:=by
   have:=ints_at S zSp (fun x=>x)
   rwa [List.map_id',hlen] at this
  have:((ints 0 l.length).map (fun i=>bxA l i)).zip ((ints 0 l.length).map fun i=>(ix S i).getD zSp) = (ints 0 l.length).map fun i=>(bxA l i,(ix S i).getD zSp):=by
   rw [List.zip_map']
  rw [← this,e1,e2]
 have hP:(l.zip S).Perm (P.map fun q=>(bxA l q.1,q.2)):=by
  have e1:P.map (fun q=>(bxA l q.1,q.2)) = (P.map (·.1)).map fun i=>(bxA l i,(ix S i).getD zSp):=by
   rw [List.map_map]
   exact List.map_congr_left fun q hq=>by simp [hget q hq]
  rw [hz,e1]
  exact (hperm.map _).symm
 refine ⟨hlen,fun q hq=>?_,?_,fun k k0 k1=>?_,fun k=>?_,by omega,by omega⟩
 · obtain ⟨a,ha,rfl⟩:=List.mem_map.1 (hP.mem_iff.1 hq)
   obtain ⟨h1,h2⟩:=hin a ha
   have:=ints_mem.1 h1
   exact ⟨by show 0 ≤ a.2.fPallet ∧ a.2.fPallet < _; omega,h2⟩
 · rw [hz]
   refine List.pairwise_map.2 ((ints_nodup 0 l.length).imp_of_mem fun {i j} hi hj hij=>?_)
   obtain ⟨a,ha,rfl⟩:=List.mem_map.1 (hperm.mem_iff.2 hi)
   obtain ⟨c,hc,rfl⟩:=List.mem_map.1 (hperm.mem_iff.2 hj)
   rw [hget a ha,hget c hc]
   have key:∀ {x y:Int × Spot},x ∈ P → y ∈ P → x.1 ≠ y.1 → AptP l x y:=by
    have hs:P.Pairwise fun x y=>x.1 ≠ y.1 → AptP l x y:=hpw.imp (S:=fun x y=>x.1 ≠ y.1 → AptP l x y) fun h _=>h
    intro x y hx hy
    exact pw_all (R:=fun x y=>x.1 ≠ y.1 → AptP l x y) (fun x y h hne=>(h fun e=>hne e.symm).symm) (fun x hne=>absurd rfl hne) P hs x hx y hy
   exact key ha hc hij
 · obtain ⟨q,hq,e⟩:=hoc k (ints_mem.2 (by omega))
   exact ⟨(bxA l q.1,q.2),hP.mem_iff.2 (List.mem_map.2 ⟨q,hq,rfl⟩),e⟩
 · have h1:=((hP.filter fun q=>q.2.fPallet == k).map (·.1.fGram))
   rw [sumI_perm' h1,List.filter_map,List.map_map]
   exact hgr k
theorem palF_ub {N:Int} (hN:N ≤ 1000000):∀ (l:List Spot) (n:Int),0 ≤ n → n ≤ N → (∀ s ∈ l,0 ≤ s.fPallet ∧ s.fPallet < N) → n ≤ l.foldl palS n ∧ l.foldl palS n ≤ N ∧ ∀ s ∈ l,s.fPallet + 1 ≤ l.foldl palS n
 | [],n,_,h,_=>⟨Int.le_refl _,h,by simp⟩
 | s :: l,n,h0,h1,h=>by
  have hs:=h s (by simp)
  have e:palS n s = if s.fPallet + 1 > n then s.fPallet + 1 else n:=by
   unfold palS
   rw [show inb s.fPallet 0 999999 = true from inb_iff.2 (by omega),cond_true]
  have hb:n ≤ palS n s ∧ palS n s ≤ N ∧ s.fPallet + 1 ≤ palS n s:=by rw [e]; split <;> omega
  rw [List.foldl_cons]
  obtain ⟨a,b,c⟩:=palF_ub hN l (palS n s) (by omega) hb.2.1 fun t ht=>h t (by simp [ht])
  refine ⟨by omega,b,fun t ht=>?_⟩
  rcases List.mem_cons.1 ht with rfl | ht
  · omega
  · exact c t ht
theorem pal_eq {S:List Spot} {N:Int} (hN:0 ≤ N ∧ N ≤ 1000000) (h:∀ s ∈ S,0 ≤ s.fPallet ∧ s.fPallet < N) (ho:∀ k,0 ≤ k → k < N → ∃ s ∈ S,s.fPallet = k):palM S = N:=by
 obtain ⟨a,b,c⟩:=palF_ub hN.2 S 0 (Int.le_refl _) hN.1 h
 unfold palM
 by_cases h0:N = 0
 · omega
 · obtain ⟨s,hs,e⟩:=ho (N - 1) (by omega) (by omega)
   have:=c s hs
   omega
theorem zip_snd {α β:Type} {a:List α} {b:List β} (h:b.length = a.length) {y:β} (hy:y ∈ b):∃ q ∈ a.zip b,q.2 = y:=by
 obtain ⟨i,hi⟩:=List.mem_iff_getElem?.1 hy
 have hlt:=(List.getElem?_eq_some_iff.1 hi).1
 exact ⟨(a[i]'(by omega),y),List.mem_iff_getElem?.2 ⟨i,List.getElem?_zip_eq_some.2 ⟨List.getElem?_eq_getElem _,hi⟩⟩,rfl⟩
theorem sp_pals {p:Pallet} {l:List Box} {S:List Spot} {N:Int} (g:SpI p l S N) (hl:l.length ≤ 1000):palM S = N:=by
 have h:=g.nn
 refine pal_eq ⟨h.1,by omega⟩ (fun s hs=>?_) fun k k0 k1=>?_
 · obtain ⟨q,hq,rfl⟩:=zip_snd g.len hs
   exact (g.ins q hq).1
 · obtain ⟨q,hq,e⟩:=g.occ k k0 k1
   exact ⟨q.2,(List.of_mem_zip hq).2,e⟩
def inU (r:Request) (cs:List (List Int)):Prop:=∀ c ∈ cs,∀ y ∈ c,0 ≤ y ∧ y < (untM r).length
theorem len_le_flat {c:List Int} {cs:List (List Int)} (h:c ∈ cs):c.length ≤ cs.flatten.length:=by
 induction cs with
 | nil=>simp at h
 | cons x xs ih =>
  rw [List.flatten_cons,List.length_append]
  rcases List.mem_cons.1 h with e | h
  · subst e; omega
  · have:=ih h; omega
theorem setx_flat {out:List (List Int)} {j u:Int} {c:List Int} (h:ix out j = some c):(setx out j (c ++ [u])).flatten.Perm (out.flatten ++ [u]):=by
 obtain ⟨h0,h1,h2⟩:=ix_some h
 exact set_flat h2
structure Ez (r:Request) (k:Int) (c0:List Int) (T:List Int) (us:List Int) (out:List (List Int)):Prop where
 src:ix out k = some c0
 all:(out.flatten ++ us).Perm (T ++ c0)
 inn:inU r out
 inu:∀ u ∈ us,0 ≤ u ∧ u < (untM r).length
 len:out.length ≤ 12
 tot:(T ++ c0).length ≤ 24
theorem Ez.step {r:Request} {k:Int} {c0 T us:List Int} {out:List (List Int)} {u j:Int} {c:List Int} (h:Ez r k c0 T (u :: us) out) (hj:ix out j = some c) (hjk:j ≠ k):Ez r k c0 T us (setx out j (c ++ [u])):=by
 obtain ⟨j0,j1,j2⟩:=ix_some hj
 obtain ⟨k0,k1,k2⟩:=ix_some h.src
 refine ⟨?_,?_,?_,fun v hv=>h.inu v (by simp [hv]),by unfold setx; simp; exact h.len,h.tot⟩
 · unfold ix setx
   rw [if_pos k0,List.getElem?_set,if_neg (by omega)]
   exact k2
 · refine ((setx_flat (u:=u) hj).append_right us).trans ?_
   simpa using h.all
 · intro d hd y hy
   unfold setx at hd
   rcases List.mem_or_eq_of_mem_set hd with hd | rfl
   · exact h.inn d hd y hy
   · rcases List.mem_append.1 hy with hy | hy
     · exact h.inn c (ix_mem hj) y hy
     · rw [List.mem_singleton.1 hy]; exact h.inu u (by simp)
structure Rz (r:Request) (cs:List (List Int)):Prop where
 len:cs.length ≤ 12
 tot:cs.flatten.length ≤ 12
 inn:inU r cs
theorem Rz.ez {r:Request} {cs:List (List Int)} (h:Rz r cs) {k:Int} {c:List Int} (hk:ix cs k = some c):Ez r k c cs.flatten c cs :=
 ⟨hk,List.Perm.refl _,h.inn,h.inn c (ix_mem hk),h.len,by have:=len_le_flat (ix_mem hk); have:=h.tot; rw [List.length_append]; omega⟩
end Go.Proofs.YthkaklkinepfkaaGreatDoor
