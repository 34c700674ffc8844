import Derived.Test.YthddjkokpfdbnaaGreatRivalsBP2
set_option linter.unusedSimpArgs false
set_option linter.unusedVariables false
/- The spots of boxes, by spec. -/
namespace Go.Proofs.YthddjkokpfdbnaaGreat
open Go
open Enc (rd ow)
open Arg (argv)
open Ret (retv)
open Wf (wf)
end Go.Proofs.YthddjkokpfdbnaaGreat
/- The units of a group, by spec and by impl. -/
namespace Go.Proofs.YthddjkokpfdbnaaGreat
open Go
open Enc (rd ow)
open Arg (argv)
open Ret (retv)
open Wf (wf)
def hasG (r:Request) (k:Int):Bool:=inb k 0 (((grpM r).length:Int) - 1)
theorem cls_of_grp {r:Request} {k:Int} (h:hasG r k = true):clsM r = 0:=by
 unfold hasG at h
 rw [inb_iff] at h
 by_cases hc:clsM r = 0
 · exact hc
 · have:grpM r = []:=by
     unfold grpM prsM
     rw [show (clsM r == 0) = false by simp [hc]]
     rfl
   rw [this] at h
   simp at h
   omega
theorem ofG_step (r:Request) (g:List Int) (u i:Int) (us:List Int) {x:Item} (hx:ix r.fItems i = some x):ofG r g u (i :: us) = bif g.contains x.fClass then u :: ofG r g (u + 1) us else ofG r g (u + 1) us:=by
 rw [ofG,hx]
theorem i_uof {fu:Nat} {r:Request} (h:Sm fu r) (k:Int):d_impl_UnitsOf fu r k = some (uofM r k):=by
 have hfu:=h.fu
 unfold d_impl_UnitsOf uofM
 rw [i_grp h,ob_some,w64_grp,i_in,ob_some]
 cases hg:inb k 0 (((grpM r).length:Int) - 1)
 · rw [Bool.not_false,cond_true]
   have:ix (grpM r) k = none:=by
    have hk:¬ (0 ≤ k ∧ k ≤ ((grpM r).length:Int) - 1):=by intro hk; rw [(inb_iff).2 hk] at hg; cases hg
    unfold ix
    by_cases h0:0 ≤ k
    · rw [if_pos h0,List.getElem?_eq_none (by omega)]
    · rw [if_neg h0]
   rw [this]
 · have hc:=cls_of_grp hg
   rw [inb_iff] at hg
   obtain ⟨j,rfl⟩:∃ j:Nat,k = j:=⟨k.toNat,by omega⟩
   have hj:j < (grpM r).length:=by omega
   have hgl:=(grpM_ok r).2 _ (List.getElem_mem hj)
   rw [Bool.not_true,cond_false,i_unt h,ob_some,ix_i hj]
   have hlen:=untM_len r
   have:=lpPI (untM r) (fun n out i=>d_impl_UnitsOf_L1 fu r (j:Int) (grpM r) (untM r) n out i) (fun pre xs out=>some (out ++ ofG r (grpM r)[j] (pre.length:Int) xs)) (fun pre xs out=>out.length + xs.length ≤ 12) (by omega) ?_ ?_ fu [] (by simpa using hlen) (by omega)
   · simpa using this
   · intro n out pre i xs hl hx hd hI ih
     simp only [List.length_cons] at hI
     have hi:i ∈ untM r:=by rw [hl]; simp
     have hi2:=untM_mem hi
     obtain ⟨q,rfl⟩:∃ q:Nat,i = q:=⟨i.toNat,by omega⟩
     have hq:q < r.fItems.length:=by omega
     simp only [d_impl_UnitsOf_L1.eq_2]
     unfold d_impl_UnitsOf_L1_B d_impl_UnitsOf_J1
     simp only [hd,cond_true,hx,ob_some,ix_i hj,ix_i hq,i_has (show (grpM r)[j].length ≤ 1048576 by omega) (show (grpM r)[j].length < fu by omega)]
     rw [ofG_step r _ _ _ _ (ix_i hq)]
     cases (grpM r)[j].contains r.fItems[q].fClass
     · rw [cond_false,cond_false,ih _ (by omega)]
       simp
     · rw [cond_true,cond_true,ap1 (by simp; omega),ob_some,ih _ (by simp; omega)]
       simp
   · intro n out hd hI
     simp only [d_impl_UnitsOf_L1.eq_2]
     unfold d_impl_UnitsOf_L1_B
     simp only [hd,cond_false]
     simp [ofG]
end Go.Proofs.YthddjkokpfdbnaaGreat
/- CartonsOf of spec and of impl. -/
namespace Go.Proofs.YthddjkokpfdbnaaGreat
open Go
open Enc (rd ow)
open Arg (argv)
open Ret (retv)
open Wf (wf)
def srtI (l:List Int):List Int:=l.mergeSort fun x y=>decide (x ≤ y)
theorem srtI_perm (l:List Int):(srtI l).Perm l:=List.mergeSort_perm l _
theorem srtI_len (l:List Int):(srtI l).length = l.length:=(srtI_perm l).length_eq
def crtM (r:Request) (k:Int) (l:List Int):Carton:=⟨(chpM r l).1.fId,k,srtI l⟩
def crtK (r:Request) (k:Int):List Carton:=(pwM r (uofM r k)).map (crtM r k)
def crtF (r:Request):List Int → List Carton
 | []=>[]
 | k :: ks=>crtK r k ++ crtF r ks
def crtL (r:Request):List Carton:=crtF r (ints 0 (grpM r).length)
theorem crtK_len {r:Request} (k:Int):(crtK r k).length ≤ 12:=by
 have:=(pwM_ok (r:=r) (uofM_len r k)).1
 simp [crtK]; omega
theorem i_crt {fu:Nat} {r:Request} (h:Sm fu r):d_impl_CartonsOf fu r = some (crtL r):=by
 have hfu:=h.fu
 have hg:=(grpM_ok r).1
 unfold d_impl_CartonsOf crtL
 rw [i_grp h,ob_some]
 have:=lpNI ((grpM r).length:Int) (fun n out i=>d_impl_CartonsOf_L2 fu r (grpM r) n out i) (fun xs out=>some (out ++ crtF r xs)) (fun xs out=>out.length + 12 * xs.length ≤ 48) (by omega) ?_ ?_ (grpM r).length fu [] 0 (by omega) (by omega) (by omega) (by simp [ints_len]; omega)
 · simpa using this
 · intro n out k ks h0 h1 hd hI ih
   simp only [List.length_cons] at hI
   have hul:=uofM_len r k
   have hpo:=pwM_ok (r:=r) hul
   simp only [d_impl_CartonsOf_L2.eq_2]
   unfold d_impl_CartonsOf_L2_B
   rw [hd,cond_true,i_uof h,ob_some,i_way h _ (by omega),ob_some]
   have key:=lpI (pwM r (uofM r k)) (fun m o i=>d_impl_CartonsOf_L1 fu (d_impl_CartonsOf_L2 fu r (grpM r) n) r k (pwM r (uofM r k)) m o i) (fun xs o=>d_impl_CartonsOf_L2 fu r (grpM r) n (o ++ xs.map (crtM r k)) (w64 (k + 1))) (fun xs o=>o.length + xs.length ≤ 48 ∧ ∀ l ∈ xs,l.length ≤ 12) (by have:=hpo.1; omega) ?_ ?_ fu out ⟨by have:=hpo.1; omega,hpo.2⟩ (by have:=hpo.1; omega)
   · rw [key,ih _ (by have:=hpo.1; simp; omega)]
     simp [crtF,crtK]
   · intro m o i l xs hx hd hI ih
     obtain ⟨h2,h3⟩:=hI
     simp only [List.length_cons] at h2
     have hl:=h3 l (by simp)
     simp only [d_impl_CartonsOf_L1.eq_2]
     unfold d_impl_CartonsOf_L1_B
     rw [hd,cond_true,hx,ob_some,i_cheap h l (by omega),ob_some,show d_slices_Sort_int_int fu l = some (srtI l) from sortI_some (by omega),ob_some,ap1 (by simp; omega),ob_some,ih _ ⟨by simp; omega,fun y hy=>h3 y (by simp [hy])⟩]
     simp [crtM]
   · intro m o i hd _
     simp only [d_impl_CartonsOf_L1.eq_2]
     unfold d_impl_CartonsOf_L1_B
     rw [hd,cond_false]; simp
 · intro n out k hd _
   simp only [d_impl_CartonsOf_L2.eq_2]
   unfold d_impl_CartonsOf_L2_B
   rw [hd,cond_false]; simp [crtF]
theorem crtF_len (r:Request):∀ (ks:List Int),(crtF r ks).length ≤ 12 * ks.length
 | []=>by simp [crtF]
 | k :: ks=>by
  have:=crtF_len r ks
  have:=crtK_len (r:=r) k
  simp [crtF]; omega
theorem crtL_len (r:Request):(crtL r).length ≤ 48:=by
 have:=crtF_len r (ints 0 (grpM r).length)
 have hg:=(grpM_ok r).1
 rw [ints_len] at this
 unfold crtL
 omega
theorem crtF_mem {r:Request} {c:Carton}:∀ {ks:List Int},c ∈ crtF r ks ↔ ∃ k ∈ ks,∃ l ∈ pwM r (uofM r k),c = crtM r k l
 | []=>by simp [crtF]
 | k :: ks=>by
  simp only [crtF,List.mem_append,crtF_mem (ks:=ks),List.mem_cons,crtK,List.mem_map]
  constructor
  · rintro (⟨l,hl,rfl⟩ | ⟨k',hk,l,hl,e⟩)
    · exact ⟨k,.inl rfl,l,hl,rfl⟩
    · exact ⟨k',.inr hk,l,hl,e⟩
  · rintro ⟨k',rfl | hk,l,hl,rfl⟩
    · exact .inl ⟨l,hl,rfl⟩
    · exact .inr ⟨k',hk,l,hl,rfl⟩
theorem crt_units {r:Request} {c:Carton} (h:c ∈ crtL r):c.fUnits.length ≤ 12:=by
 obtain ⟨k,_,l,hl,rfl⟩:=crtF_mem.1 h
 have:=(pwM_ok (r:=r) (uofM_len r k)).2 l hl
 simp only [crtM,srtI_len]
 omega
end Go.Proofs.YthddjkokpfdbnaaGreat
/- What the ways of packing keep: every unit once, every carton within the master's. -/
namespace Go.Proofs.YthddjkokpfdbnaaGreat
open Go
open Enc (rd ow)
open Arg (argv)
open Ret (retv)
open Wf (wf)
def prdI:List Int → Int
 | []=>1
 | x :: xs=>x * prdI xs
theorem prd_perm {a b:List Int} (h:a.Perm b):prdI a = prdI b:=by
 induction h with
 | nil=>rfl
 | cons x _ ih=>simp only [prdI,ih]
 | swap x y l=>simp only [prdI,← Int.mul_assoc]; rw [Int.mul_comm x y]
 | trans _ _ h1 h2=>rw [h1,h2]
theorem sid_prd (a b c:Int):(sid a b c).1 * ((sid a b c).2.1 * (sid a b c).2.2) = a * b * c:=by
 have h:=sortI3 a b c
 unfold sortI at h
 simp only [List.length_cons,List.length_nil] at h
 rw [if_pos (by omega)] at h
 have hp:=List.mergeSort_perm [a,b,c] fun x y=>decide (x ≤ y)
 rw [Option.some.inj h] at hp
 have:=prd_perm hp
 simp only [prdI,Int.mul_one] at this
 rw [this,Int.mul_assoc]
theorem sid_ge {a b c m:Int} (ha:m ≤ a) (hb:m ≤ b) (hc:m ≤ c):m ≤ (sid a b c).1:=by
 unfold sid
 simp only
 split <;> split <;> omega
theorem fit_vol {x:Item} {t:Typ} (hx:itmB x = true) (ht:typB t = true) (h:fitB x t = true):volI x ≤ volT t ∧ x.fGram ≤ t.fGram:=by
 simp only [itmB,Bool.and_eq_true,inb_iff] at hx
 simp only [typB,Bool.and_eq_true,inb_iff] at ht
 simp only [fitB,Bool.and_eq_true,decide_eq_true_eq] at h
 obtain ⟨⟨⟨h1,h2⟩,h3⟩,h4⟩:=h
 refine ⟨?_,h4⟩
 have e1:volI x = x.fW * x.fH * x.fD:=by
  unfold volI volB
  rw [show (inb x.fW 0 2000 && (inb x.fH 0 2000 && inb x.fD 0 2000)) = true by simp; omega,cond_true]
 have e2:volT t = t.fW * t.fH * t.fD:=by
  unfold volT volB
  rw [show (inb t.fW 0 2000 && (inb t.fH 0 2000 && inb t.fD 0 2000)) = true by simp; omega,cond_true]
 rw [e1,e2,← sid_prd x.fW x.fH x.fD,← sid_prd t.fW t.fH t.fD]
 have p1:1 ≤ (sid x.fW x.fH x.fD).1:=sid_ge (by omega) (by omega) (by omega)
 have s1:=sid_sorted x.fW x.fH x.fD
 have s2:=sid_sorted t.fW t.fH t.fD
 refine Int.mul_le_mul h1 ?_ (Int.mul_nonneg (by omega) (by omega)) (by omega)
 exact Int.mul_le_mul h2 h3 (by omega) (by omega)
theorem itmZ_mem {r:Request} {u:Int} (h:0 ≤ u ∧ u < (untM r).length):itmZ r u ∈ r.fItems:=(itm_cls (itmZ_in h)).2
theorem cls_in {r:Request} {u:Int} (h:0 ≤ u ∧ u < (untM r).length):clsM r = 0:=(itm_cls (itmZ_in h)).1
theorem mas_typ {r:Request} (hc:clsM r = 0):typM r r.fMaster = some (masM r) ∧ masM r ∈ r.fTypes ∧ typB (masM r) = true:=by
 have h:=(clsM_zero hc).2.1
 unfold namB at h
 simp only [Bool.and_eq_true] at h
 obtain ⟨t,ht⟩:=Option.isSome_iff_exists.1 h.1.2
 have e:masM r = t:=by unfold masM; rw [ht]; rfl
 have hm:t ∈ r.fTypes:=List.mem_of_find?_eq_some ht
 rw [e]
 exact ⟨ht,hm,bou_types (clsM_zero hc).1 t hm⟩
theorem vol_one {r:Request} {u:Int} (h:0 ≤ u ∧ u < (untM r).length):volM r [u] = volI (itmZ r u) ∧ grmM r [u] = (itmZ r u).fGram:=by
 unfold volM grmM itsM
 simp [List.filterMap_cons,itmZ_in h]
theorem one_wit {r:Request} {u:Int} (h:0 ≤ u ∧ u < (untM r).length):witB r [u] (masM r) = true:=by
 have hc:=cls_in h
 have hz:=clsM_zero hc
 have hm:=itmZ_mem h
 obtain ⟨h1,h2⟩:=fit_vol ((bou_items hz.1).1 _ hm) (mas_typ hc).2.2 (hz.2.2.2.1 _ hm)
 unfold witB
 rw [(vol_one h).1,(vol_one h).2,Bool.and_eq_true,decide_eq_true_iff,decide_eq_true_iff]
 exact ⟨h1,h2⟩
def Qc (r:Request) (us:List Int) (l:List Int):Prop:=l ≠ [] ∧ (∀ u ∈ l,u ∈ us) ∧ witB r l (masM r) = true
theorem putF_q {r:Request} {us:List Int} {out:List (List Int)} {u:Int} (h:∀ l ∈ out,Qc r us l) (hu:u ∈ us) (hr:0 ≤ u ∧ u < (untM r).length):∀ l ∈ fitF r out u,Qc r us l:=by
 have hn:Qc r us [u]:=⟨by simp,fun v hv=>by rw [List.mem_singleton.1 hv]; exact hu,one_wit hr⟩
 intro l hl
 unfold fitF putF at hl
 split at hl
 · rename_i i hi
   obtain ⟨x,hx,hg⟩:=fstI_lt hi
   rw [hx] at hl
   rcases List.mem_or_eq_of_mem_set hl with hl | rfl
   · exact h l hl
   · have hq:=h x (List.mem_of_getElem? hx)
     refine ⟨by simp,fun v hv=>?_,hg⟩
     rcases List.mem_append.1 hv with hv | hv
     · exact hq.2.1 v hv
     · rw [List.mem_singleton.1 hv]; exact hu
 · rcases List.mem_append.1 hl with hl | hl
   · exact h l hl
   · rw [List.mem_singleton.1 hl]; exact hn
theorem nxtF_q {r:Request} {us:List Int} {out:List (List Int)} {u:Int} (h:∀ l ∈ out,Qc r us l) (hu:u ∈ us) (hr:0 ≤ u ∧ u < (untM r).length):∀ l ∈ nxtF r out u,Qc r us l:=by
 have hn:Qc r us [u]:=⟨by simp,fun v hv=>by rw [List.mem_singleton.1 hv]; exact hu,one_wit hr⟩
 intro l hl
 cases hlast:out.getLast? with
 | none =>
  unfold nxtF at hl
  rw [hlast] at hl
  rw [List.mem_singleton.1 hl]; exact hn
 | some x =>
  rw [nxtF_some u hlast] at hl
  have hq:=h x (List.mem_of_getLast? hlast)
  cases hg:romB r u x
  · rw [hg,cond_false] at hl
    rcases List.mem_append.1 hl with hl | hl
    · exact h l hl
    · rw [List.mem_singleton.1 hl]; exact hn
  · rw [hg,cond_true] at hl
    rcases List.mem_or_eq_of_mem_set hl with hl | rfl
    · exact h l hl
    · refine ⟨by simp,fun v hv=>?_,hg⟩
      rcases List.mem_append.1 hv with hv | hv
      · exact hq.2.1 v hv
      · rw [List.mem_singleton.1 hv]; exact hu
theorem fold_q {r:Request} {us:List Int} {F:List (List Int) → Int → List (List Int)} (hF:∀ out u,(∀ l ∈ out,Qc r us l) → u ∈ us → (0 ≤ u ∧ u < (untM r).length) → ∀ l ∈ F out u,Qc r us l):∀ (vs:List Int) (out:List (List Int)),(∀ u ∈ vs,u ∈ us ∧ 0 ≤ u ∧ u < (untM r).length) → (∀ l ∈ out,Qc r us l) → ∀ l ∈ vs.foldl F out,Qc r us l
 | [],out,_,h=>h
 | v :: vs,out,hv,h=>by
  rw [List.foldl_cons]
  have h1:=hv v (by simp)
  exact fold_q hF vs _ (fun u hu=>hv u (by simp [hu])) (hF out v h h1.1 h1.2)
theorem ordM_perm (r:Request) (us:List Int):(ordM r us).Perm us:=by
 unfold ordM
 refine ((srt_perm _ _).map _).trans ?_
 have key:∀ (xs pre:List Int),us = pre ++ xs → (ints pre.length xs.length).map (fun p=>(ix us p).getD 0) = xs:=by
  intro xs
  induction xs with
  | nil=>intro pre _; rfl
  | cons x xs ih =>
   intro pre he
   have h1:=ih (pre ++ [x]) (by simp [he])
   simp only [List.length_append,List.length_singleton] at h1
   simp only [List.length_cons,ints,List.map_cons]
   rw [show ((pre.length:Int) + 1) = ((pre.length + 1:Nat):Int) by omega,h1]
   congr 1
   rw [ix_nat,he]
   simp
 have:=key us [] rfl
 simp only [List.length_nil] at this
 exact List.Perm.of_eq this
theorem pw_q {r:Request} {us:List Int}:∀ l ∈ pwM r us,Qc r (thrM r us) l:=by
 unfold pwM nfM ffM
 have ht:∀ u ∈ thrM r us,u ∈ thrM r us ∧ 0 ≤ u ∧ u < (untM r).length:=fun u hu=>⟨hu,thr_mem hu⟩
 cases r.fWay == 1
 · rw [cond_false]
   exact fold_q (fun out u h hu hr=>putF_q h hu hr) _ [] (fun u hu=>ht u ((ordM_perm r _).mem_iff.1 hu)) (by simp)
 · rw [cond_true]
   exact fold_q (fun out u h hu hr=>nxtF_q h hu hr) _ [] ht (by simp)
theorem putF_flat (g:List Int → Bool) (out:List (List Int)) (u:Int):(putF g out u).flatten.Perm (out.flatten ++ [u]):=by
 unfold putF
 split
 · rename_i i hi
   obtain ⟨x,hx,_⟩:=fstI_lt hi
   rw [hx]
   exact set_flat hx
 · simp
theorem nxtF_flat (r:Request) (out:List (List Int)) (u:Int):(nxtF r out u).flatten.Perm (out.flatten ++ [u]):=by
 cases hlast:out.getLast? with
 | none =>
  have:out = []:=List.getLast?_eq_none_iff.1 hlast
  subst this
  unfold nxtF
  simp
 | some x =>
  rw [nxtF_some u hlast]
  cases romB r u x
  · simp
  · rw [cond_true]
    rw [List.getLast?_eq_getElem?] at hlast
    exact set_flat hlast
theorem fold_flat {F:List (List Int) → Int → List (List Int)} (hF:∀ out u,(F out u).flatten.Perm (out.flatten ++ [u])):∀ (vs:List Int) (out:List (List Int)),(vs.foldl F out).flatten.Perm (out.flatten ++ vs)
 | [],out=>by simp
 | v :: vs,out=>by
  rw [List.foldl_cons]
  refine (fold_flat hF vs _).trans (((hF out v).append_right vs).trans ?_)
  simp
theorem pw_flat (r:Request) (us:List Int):(pwM r us).flatten.Perm (thrM r us):=by
 unfold pwM nfM ffM
 cases r.fWay == 1
 · rw [cond_false]
   refine (fold_flat (fun out u=>putF_flat _ out u) _ []).trans ?_
   simpa using ordM_perm r (thrM r us)
 · rw [cond_true]
   refine (fold_flat (fun out u=>nxtF_flat r out u) _ []).trans ?_
   simp
end Go.Proofs.YthddjkokpfdbnaaGreat
/- What is marked: orders, lists of numbers, lists of lists. -/
namespace Go.Proofs.YthddjkokpfdbnaaGreat
open Go
open Enc (rd ow)
open Arg (argv)
open Ret (retv)
open Wf (wf)
end Go.Proofs.YthddjkokpfdbnaaGreat
/- Lists of cartons in the laws: their size, copies, equality, marks. -/
namespace Go.Proofs.YthddjkokpfdbnaaGreat
open Go
open Enc (rd ow)
open Arg (argv)
open Ret (retv)
open Wf (wf)
def lensC:List Carton → Nat
 | []=>0
 | x :: xs=>x.fUnits.length + lensC xs
end Go.Proofs.YthddjkokpfdbnaaGreat
/- Plans in the laws: their size, copies, equality, marks. -/
namespace Go.Proofs.YthddjkokpfdbnaaGreat
open Go
open Enc (rd ow)
open Arg (argv)
open Ret (retv)
open Wf (wf)
structure Sp (x:Plan):Prop where
 cars:x.fCartons.length ≤ 1048576
 units:∀ c ∈ x.fCartons,c.fUnits.length ≤ 1048576
 all:lensC x.fCartons ≤ 1048576
 spots:x.fSpots.length ≤ 1048576
end Go.Proofs.YthddjkokpfdbnaaGreat
/- PlanOk, by spec and by impl. -/
namespace Go.Proofs.YthddjkokpfdbnaaGreat
open Go
open Enc (rd ow)
open Arg (argv)
open Ret (retv)
open Wf (wf)
end Go.Proofs.YthddjkokpfdbnaaGreat
/- OnPallet and PalletGram, by spec and by impl. -/
namespace Go.Proofs.YthddjkokpfdbnaaGreat
open Go
open Enc (rd ow)
open Arg (argv)
open Ret (retv)
open Wf (wf)
end Go.Proofs.YthddjkokpfdbnaaGreat
/- Lost of spec and of impl. -/
namespace Go.Proofs.YthddjkokpfdbnaaGreat
open Go
open Enc (rd ow)
open Arg (argv)
open Ret (retv)
open Wf (wf)
end Go.Proofs.YthddjkokpfdbnaaGreat
/- impl's hasOf: is one of some units of a group. -/
namespace Go.Proofs.YthddjkokpfdbnaaGreat
open Go
open Enc (rd ow)
open Arg (argv)
open Ret (retv)
open Wf (wf)
theorem i_hasOf {fu:Nat} {r:Request} (h:Sm fu r) {g us:List Int} (hg:g.length ≤ 1048576) (hl:us.length ≤ 1048576):d_impl_hasOf fu r g us = some (us.any (inG r g)):=by
 have hfu:=h.fu
 have hil:=itsM_len r us
 unfold d_impl_hasOf
 rw [i_items h us hl (by omega),ob_some,i_anyItem (fun y=>d_impl_hasOf_1 fu y g) (fun x=>g.contains x.fClass) (fun x _=>by unfold d_impl_hasOf_1; rw [i_has hg (by omega)]; rfl) (by omega) (by omega),ob_some]
 congr 1
 unfold itsM
 induction us with
 | nil=>rfl
 | cons u us ih =>
  have ih':=ih (by simp at hl; omega) (itsM_len r us)
  rw [List.any_cons,← ih',List.filterMap_cons]
  unfold inG
  cases itmM r u <;> simp
end Go.Proofs.YthddjkokpfdbnaaGreat
/- Mixes of spec and of impl. -/
namespace Go.Proofs.YthddjkokpfdbnaaGreat
open Go
open Enc (rd ow)
open Arg (argv)
open Ret (retv)
open Wf (wf)
def gt1 (n:Int):Bool:=decide (1 < n)
theorem i_mix {fu:Nat} {r:Request} (h:Sm fu r) (cs:List (List Int)) (hl:cs.length ≤ 1048576) (hm:∀ x ∈ cs,x.length ≤ 1048576):d_impl_Mixes fu r cs = some (cs.any (mixB r)):=by
 have hfu:=h.fu
 have hg:=grpM_ok r
 unfold d_impl_Mixes d_slices_ContainsFunc_ints_int
 rw [i_grp h,ob_some,i_idxInts (fun y=>d_impl_Mixes_1 fu y (grpM r) r) (mixB r) (fun c hc=>by
  have hcl:=hm c hc
  have hg1:=hg.1
  unfold d_impl_Mixes_1
  rw [mix_cnt]
  have:=lpI (grpM r) (fun n s i=>d_impl_Mixes_1_L1 fu c (grpM r) r n s i) (fun l n=>some (gt1 (n + cntB (fun g=>c.any (inG r g)) l))) (fun l n=>0 ≤ n ∧ n + l.length ≤ 1048576 ∧ ∀ g ∈ l,g.length ≤ 4) (by omega) ?_ ?_ fu 0 ⟨by omega,by omega,hg.2⟩ (by omega)
  · simpa [gt1] using this
  · intro n s i g xs hx hd hI ih
    have hI2:=hI.2.1
    have hgl:=hI.2.2 g (by simp)
    simp only [List.length_cons] at hI2
    simp only [d_impl_Mixes_1_L1.eq_2]
    unfold d_impl_Mixes_1_L1_B d_impl_Mixes_1_J1
    simp only [hd,cond_true,hx,ob_some,i_hasOf h (show g.length ≤ 1048576 by omega) hcl,cntB]
    have e1:=ih (w64 (s + 1))
    have e2:=ih s ⟨by omega,by omega,fun y hy=>hI.2.2 y (by simp [hy])⟩
    rw [w64_id (by omega) (by omega)] at e1
    have e1:=e1 ⟨by omega,by omega,fun y hy=>hI.2.2 y (by simp [hy])⟩
    rw [w64_id (n:=s + 1) (by omega) (by omega),e1,e2]
    cases c.any (inG r g)
    · simp [bitI]
    · simp only [bitI,cond_true]
      congr 2
      omega
  · intro n s i hd hI
    simp only [d_impl_Mixes_1_L1.eq_2]
    unfold d_impl_Mixes_1_L1_B
    simp only [hd,cond_false,cntB]
    simp [gt1]) hl (by omega),ob_some,fndI_any _ cs 0 (by omega)]
 rfl
end Go.Proofs.YthddjkokpfdbnaaGreat
/- Check, by spec and by impl. -/
namespace Go.Proofs.YthddjkokpfdbnaaGreat
open Go
open Enc (rd ow)
open Arg (argv)
open Ret (retv)
open Wf (wf)
def cs (x:Plan):List (Carton × Spot):=x.fCartons.zip x.fSpots
end Go.Proofs.YthddjkokpfdbnaaGreat
/- Check, by impl. -/
namespace Go.Proofs.YthddjkokpfdbnaaGreat
open Go
open Enc (rd ow)
open Arg (argv)
open Ret (retv)
open Wf (wf)
end Go.Proofs.YthddjkokpfdbnaaGreat
/- The plan of an order, by spec. -/
namespace Go.Proofs.YthddjkokpfdbnaaGreat
open Go
open Enc (rd ow)
open Arg (argv)
open Ret (retv)
open Wf (wf)
theorem sumI_perm {a b:List Int} (h:a.Perm b):sumI a = sumI b:=by
 induction h with
 | nil=>rfl
 | cons x _ ih=>simp [ih]
 | swap x y l=>simp; omega
 | trans _ _ h1 h2=>rw [h1,h2]
theorem its_perm {r:Request} {a b:List Int} (h:a.Perm b):(itsM r a).Perm (itsM r b):=h.filterMap _
theorem vol_perm {r:Request} {a b:List Int} (h:a.Perm b):volM r a = volM r b:=sumI_perm ((its_perm h).map _)
theorem grm_perm {r:Request} {a b:List Int} (h:a.Perm b):grmM r a = grmM r b:=sumI_perm ((its_perm h).map _)
theorem wit_perm {r:Request} {a b:List Int} (h:a.Perm b) (t:Typ):witB r a t = witB r b t:=by unfold witB; rw [vol_perm h,grm_perm h]
end Go.Proofs.YthddjkokpfdbnaaGreat
/- Squeeze and Spare of spec and of impl. -/
namespace Go.Proofs.YthddjkokpfdbnaaGreat
open Go
open Enc (rd ow)
open Arg (argv)
open Ret (retv)
open Wf (wf)
def inU (r:Request) (cs:List (List Int)):Prop:=∀ c ∈ cs,∀ y ∈ c,0 ≤ y ∧ y < (untM r).length
theorem len_le_flat {c:List Int} {cs:List (List Int)} (h:c ∈ cs):c.length ≤ cs.flatten.length:=by
 induction cs with
 | nil=>simp at h
 | cons x xs ih =>
  rw [List.flatten_cons,List.length_append]
  rcases List.mem_cons.1 h with e | h
  · subst e; omega
  · have:=ih h; omega
theorem setx_flat {out:List (List Int)} {j u:Int} {c:List Int} (h:ix out j = some c):(setx out j (c ++ [u])).flatten.Perm (out.flatten ++ [u]):=by
 obtain ⟨h0,h1,h2⟩:=ix_some h
 exact set_flat h2
structure Ez (r:Request) (k:Int) (c0:List Int) (T:List Int) (us:List Int) (out:List (List Int)):Prop where
 src:ix out k = some c0
 all:(out.flatten ++ us).Perm (T ++ c0)
 inn:inU r out
 inu:∀ u ∈ us,0 ≤ u ∧ u < (untM r).length
 len:out.length ≤ 12
 tot:(T ++ c0).length ≤ 24
theorem Ez.step {r:Request} {k:Int} {c0 T us:List Int} {out:List (List Int)} {u j:Int} {c:List Int} (h:Ez r k c0 T (u :: us) out) (hj:ix out j = some c) (hjk:j ≠ k):Ez r k c0 T us (setx out j (c ++ [u])):=by
 obtain ⟨j0,j1,j2⟩:=ix_some hj
 obtain ⟨k0,k1,k2⟩:=ix_some h.src
 refine ⟨?_,?_,?_,fun v hv=>h.inu v (by simp [hv]),by unfold setx; simp; exact h.len,h.tot⟩
 · unfold ix setx
   rw [if_pos k0,List.getElem?_set,if_neg (by omega)]
   exact k2
 · refine ((setx_flat (u:=u) hj).append_right us).trans ?_
   simpa using h.all
 · intro d hd y hy
   unfold setx at hd
   rcases List.mem_or_eq_of_mem_set hd with hd | rfl
   · exact h.inn d hd y hy
   · rcases List.mem_append.1 hy with hy | hy
     · exact h.inn c (ix_mem hj) y hy
     · rw [List.mem_singleton.1 hy]; exact h.inu u (by simp)
structure Rz (r:Request) (cs:List (List Int)):Prop where
 len:cs.length ≤ 12
 tot:cs.flatten.length ≤ 12
 inn:inU r cs
theorem Rz.ez {r:Request} {cs:List (List Int)} (h:Rz r cs) {k:Int} {c:List Int} (hk:ix cs k = some c):Ez r k c cs.flatten c cs :=
 ⟨hk,List.Perm.refl _,h.inn,h.inn c (ix_mem hk),h.len,by have:=len_le_flat (ix_mem hk); have:=h.tot; rw [List.length_append]; omega⟩
end Go.Proofs.YthddjkokpfdbnaaGreat
/- Lower bounds: no packing has fewer cartons. -/
namespace Go.Proofs.YthddjkokpfdbnaaGreat
open Go
open Enc (rd ow)
open Arg (argv)
open Ret (retv)
open Wf (wf)
def upM (a b:Int):Int:=Int.tdiv (a + b - 1) b
def grtB (r:Request) (x:Item):Bool:=decide (2 * volI x > volT (masM r))
def hvyB (r:Request) (x:Item):Bool:=decide (2 * x.fGram > (masM r).fGram)
def lowM (r:Request) (us:List Int):Int:=mxI (mxI (upM (volM r us) (volT (masM r))) (upM (grmM r us) (masM r).fGram)) (mxI (cntB (grtB r) (itsM r us)) (cntB (hvyB r) (itsM r us)))
theorem its_app (r:Request) (a b:List Int):itsM r (a ++ b) = itsM r a ++ itsM r b:=List.filterMap_append ..
theorem vol_app (r:Request) (a b:List Int):volM r (a ++ b) = volM r a + volM r b:=by unfold volM; rw [its_app,List.map_append,sumI_append]
theorem grm_app (r:Request) (a b:List Int):grmM r (a ++ b) = grmM r a + grmM r b:=by unfold grmM; rw [its_app,List.map_append,sumI_append]
theorem cntB_app {α:Type} (f:α → Bool) (a b:List α):cntB f (a ++ b) = cntB f a + cntB f b:=by
 induction a with
 | nil=>simp [cntB]
 | cons x a ih=>simp only [List.cons_append,cntB,ih]; omega
theorem cntB_perm {α:Type} (f:α → Bool) {a b:List α} (h:a.Perm b):cntB f a = cntB f b:=by
 induction h with
 | nil=>rfl
 | cons x _ ih=>simp only [cntB,ih]
 | swap x y l=>simp only [cntB]; omega
 | trans _ _ h1 h2=>rw [h1,h2]
theorem vol_flat {r:Request} {V:Int}:∀ (cs:List (List Int)),(∀ c ∈ cs,volM r c ≤ V) → volM r cs.flatten ≤ cs.length * V
 | [],_=>by simp [volM,itsM]
 | c :: cs,h=>by
  have h1:=vol_flat cs fun d hd=>h d (by simp [hd])
  have h2:=h c (by simp)
  rw [List.flatten_cons,vol_app,List.length_cons,show ((cs.length + 1:Nat):Int) = (cs.length:Int) + 1 by omega,Int.add_mul,Int.one_mul]
  omega
theorem grm_flat {r:Request} {V:Int}:∀ (cs:List (List Int)),(∀ c ∈ cs,grmM r c ≤ V) → grmM r cs.flatten ≤ cs.length * V
 | [],_=>by simp [grmM,itsM]
 | c :: cs,h=>by
  have h1:=grm_flat cs fun d hd=>h d (by simp [hd])
  have h2:=h c (by simp)
  rw [List.flatten_cons,grm_app,List.length_cons,show ((cs.length + 1:Nat):Int) = (cs.length:Int) + 1 by omega,Int.add_mul,Int.one_mul]
  omega
theorem up_le {a b n:Int} (hb:1 ≤ b) (h0:0 ≤ a) (h:a ≤ n * b):upM a b ≤ n:=by
 unfold upM
 rw [Int.tdiv_eq_ediv_of_nonneg (by omega)]
 have h1:a + b - 1 < (n + 1) * b:=by rw [Int.add_mul]; omega
 have:=Int.ediv_lt_of_lt_mul (a:=a + b - 1) (b:=n + 1) (c:=b) (by omega) h1
 omega
theorem cnt_two {f:Item → Int} {V:Int} {g:Item → Bool} (hg:∀ x,g x = true → V + 1 ≤ 2 * f x):∀ (xs:List Item),(∀ x ∈ xs,0 ≤ f x) → cntB g xs * (V + 1) ≤ 2 * sumI (xs.map f)
 | [],_=>by simp [cntB]
 | x :: xs,h=>by
  have ih:=cnt_two hg xs fun y hy=>h y (by simp [hy])
  have h0:=h x (by simp)
  simp only [cntB,List.map_cons,sumI_cons,Int.add_mul]
  cases hx:g x
  · simp only [bitI,cond_false,Int.zero_mul]; omega
  · have:=hg x hx
    simp only [bitI,cond_true,Int.one_mul]; omega
theorem cnt_one {c V s:Int} (hc:c * (V + 1) ≤ 2 * s) (hs:s ≤ V) (h0:0 ≤ V):c ≤ 1:=by
 rcases Int.lt_or_le c 2 with h | h
 · omega
 · have:2 * (V + 1) ≤ c * (V + 1):=Int.mul_le_mul_of_nonneg_right h (by omega)
   omega
theorem cnt_flat {r:Request} {g:Item → Bool}:∀ (cs:List (List Int)),(∀ c ∈ cs,cntB g (itsM r c) ≤ 1) → cntB g (itsM r cs.flatten) ≤ cs.length
 | [],_=>by simp [itsM,cntB]
 | c :: cs,h=>by
  have h1:=cnt_flat cs fun d hd=>h d (by simp [hd])
  have h2:=h c (by simp)
  rw [List.flatten_cons,its_app,cntB_app,List.length_cons]
  omega
theorem mxI_le {a b n:Int} (h1:a ≤ n) (h2:b ≤ n):mxI a b ≤ n:=by unfold mxI; split <;> omega
theorem low_le {r:Request} (hc:clsM r = 0) {cs:List (List Int)} {us:List Int} (hw:∀ c ∈ cs,witB r c (masM r) = true) (hp:cs.flatten.Perm us):lowM r us ≤ cs.length:=by
 have hw1:∀ c ∈ cs,volM r c ≤ volT (masM r) ∧ grmM r c ≤ (masM r).fGram:=fun c hcm=>by
  have:=hw c hcm
  unfold witB at this
  simpa using this
 have hm:=(mas_typ hc).2.2
 have hv1:=volT_pos hm
 simp only [typB,Bool.and_eq_true,inb_iff] at hm
 have ep:(itsM r cs.flatten).Perm (itsM r us):=its_perm hp
 unfold lowM
 refine mxI_le (mxI_le ?_ ?_) (mxI_le ?_ ?_)
 · rw [← vol_perm hp]
   exact up_le hv1 (volM_bd r _).1 (vol_flat cs fun c h=>(hw1 c h).1)
 · rw [← grm_perm hp]
   exact up_le (by omega) (grmM_bd r _).1 (grm_flat cs fun c h=>(hw1 c h).2)
 · rw [← cntB_perm _ ep]
   refine cnt_flat cs fun c h=>cnt_one (V:=volT (masM r)) (s:=volM r c) (cnt_two (f:=volI) (fun x hx=>?_) _ fun x _=>(volB_nn _ _ _).1) (hw1 c h).1 (by omega)
   unfold grtB at hx
   have:=of_decide_eq_true hx
   omega
 · rw [← cntB_perm _ ep]
   refine cnt_flat cs fun c h=>cnt_one (V:=(masM r).fGram) (s:=grmM r c) (cnt_two (f:=fun x=>x.fGram) (fun x hx=>?_) _ fun x hx=>(grm_mem hx).1) (hw1 c h).2 (by omega)
   unfold hvyB at hx
   have:=of_decide_eq_true hx
   omega
theorem thr_ints (r:Request):thrM r (ints 0 (untM r).length) = ints 0 (untM r).length:=by
 unfold thrM
 refine List.filter_eq_self.2 fun u hu=>?_
 have:=ints_mem.1 hu
 rw [inb_iff]; omega
theorem riv_parts {r:Request} {cs:List (List Int)} (h:rivB r cs = true):clsM r = 0 ∧ (∀ c ∈ cs,c ≠ [] ∧ witB r c (masM r) = true ∧ allBes r c = true) ∧ cs.flatten.Perm (ints 0 (untM r).length):=by
 unfold rivB packB at h
 simp only [Bool.and_eq_true] at h
 obtain ⟨⟨h1,h2,h3⟩,h4⟩:=h
 refine ⟨by simpa using h1,fun c hc=>?_,?_⟩
 · have a:=List.all_eq_true.1 h2 c hc
   have b:=List.all_eq_true.1 h4 c hc
   unfold okC at a
   rw [Bool.and_eq_true] at a
   exact ⟨fun e=>by rw [e] at a; simp at a,a.2,b⟩
 · have:=perB_iff.1 h3
   rw [thr_ints] at this
   exact this
theorem riv_of {r:Request} {cs:List (List Int)} (hc:clsM r = 0) (h:∀ c ∈ cs,c ≠ [] ∧ witB r c (masM r) = true ∧ allBes r c = true) (hp:cs.flatten.Perm (ints 0 (untM r).length)):rivB r cs = true:=by
 unfold rivB packB
 rw [show (clsM r == 0) = true by simp [hc],Bool.true_and,Bool.and_eq_true,Bool.and_eq_true]
 refine ⟨⟨List.all_eq_true.2 fun c hcm=>?_,perB_iff.2 (by rw [thr_ints]; exact hp)⟩,List.all_eq_true.2 fun c hcm=>(h c hcm).2.2⟩
 unfold okC
 rw [Bool.and_eq_true]
 refine ⟨?_,(h c hcm).2.1⟩
 have:=(h c hcm).1
 cases c with
 | nil=>exact absurd rfl this
 | cons x c=>rfl
end Go.Proofs.YthddjkokpfdbnaaGreat
/- Ours of spec and of impl. -/
namespace Go.Proofs.YthddjkokpfdbnaaGreat
open Go
open Enc (rd ow)
open Arg (argv)
open Ret (retv)
open Wf (wf)
def ourM (r:Request):List (List Int):=(crtL r).map (·.fUnits)
theorem i_ours {fu:Nat} {r:Request} (h:Sm fu r):d_impl_Ours fu r = some (ourM r):=by
 have hfu:=h.fu
 have hl:=crtL_len r
 unfold d_impl_Ours ourM
 rw [i_crt h,ob_some]
 generalize crtL r = L at hl ⊢
 have:=lpI L (fun n s i=>d_impl_Ours_L1 fu L n s i) (fun xs s=>some (s ++ xs.map (·.fUnits))) (fun xs s=>s.length + xs.length ≤ 48) (by omega) ?_ ?_ fu [] (by simp; omega) (by omega)
 · simpa using this
 · intro n s i x xs hx hd hI ih
   simp only [List.length_cons] at hI
   simp only [d_impl_Ours_L1.eq_2]
   unfold d_impl_Ours_L1_B
   rw [hd,cond_true,hx,ob_some,ap1 (by simp; omega),ob_some,ih _ (by simp; omega)]
   simp
 · intro n s i hd _
   simp only [d_impl_Ours_L1.eq_2]
   unfold d_impl_Ours_L1_B
   rw [hd,cond_false]; simp
theorem our_ok (r:Request):(ourM r).length ≤ 48 ∧ ∀ l ∈ ourM r,l.length ≤ 12:=by
 refine ⟨by simpa [ourM] using crtL_len r,fun l hl=>?_⟩
 obtain ⟨c,hc,rfl⟩:=List.mem_map.1 hl
 exact crt_units hc
end Go.Proofs.YthddjkokpfdbnaaGreat
/- What is held: lists of numbers. -/
namespace Go.Proofs.YthddjkokpfdbnaaGreat
open Go
open Enc (rd ow)
open Arg (argv)
open Ret (retv)
open Wf (wf)
end Go.Proofs.YthddjkokpfdbnaaGreat
/- Lists of lists of numbers in the laws: what is marked and held. -/
namespace Go.Proofs.YthddjkokpfdbnaaGreat
open Go
open Enc (rd ow)
open Arg (argv)
open Ret (retv)
open Wf (wf)
end Go.Proofs.YthddjkokpfdbnaaGreat
/- The plain law of FnExactOneEach. -/
namespace Go.Proofs.YthddjkokpfdbnaaGreat
open Go
open Enc (rd ow)
open Arg (argv)
open Ret (retv)
open Wf (wf)
def oneM (n:Nat):List (List Int):=(ints 0 n).map fun u=>[u]
theorem one_loop (n:Nat) (hn:n ≤ 12) (L:Nat → List (List Int) → Int → Option (List (List Int)))
    (hs:∀ k out (i:Int),decide (i < (n:Int)) = true → L (k + 1) out i = obind (apnd 24 out [[i]]) fun x=>L k x (w64 (i + 1))) (he:∀ k out (i:Int),decide (i < (n:Int)) = false → L (k + 1) out i = some out) (fu:Nat) (hf:100 ≤ fu) :
    L fu [] 0 = some (oneM n):=by
 have key:∀ (m i k:Nat),n - i = m → i ≤ n → m < k → L k (oneM i) (i:Int) = some (oneM n):=by
  intro m
  induction m with
  | zero =>
   intro i k hm hi hk
   obtain ⟨k,rfl⟩:∃ j,k = j + 1:=⟨k - 1,by omega⟩
   rw [he _ _ _ (by simp; omega)]
   congr 2
   omega
  | succ m ih =>
   intro i k hm hi hk
   obtain ⟨k,rfl⟩:∃ j,k = j + 1:=⟨k - 1,by omega⟩
   have hlen:(oneM i).length = i:=by unfold oneM; rw [List.length_map,ints_len]
   rw [hs _ _ _ (by simp; omega),ap1 (by rw [hlen]; simp; omega),ob_some,w64_s _ (by omega)]
   have e:oneM i ++ [[(i:Int)]] = oneM (i + 1):=by
    unfold oneM
    rw [ints_snoc,List.map_append]
    simp
   rw [e]
   exact ih (i + 1) k (by omega) (by omega) (by omega)
 exact key n 0 fu (by omega) (by omega) (by omega)
theorem i_one {fu:Nat} {r:Request} (h:Sm fu r):d_impl_OneEach fu r = some (oneM (untM r).length):=by
 have hfu:=h.fu
 unfold d_impl_OneEach
 rw [i_unt h,ob_some]
 refine one_loop _ (untM_len r) (fun k out i=>d_impl_OneEach_L1 fu (untM r) k out i) ?_ ?_ fu (by omega)
 · intro k out i hd
   simp only [d_impl_OneEach_L1.eq_2]
   unfold d_impl_OneEach_L1_B
   simp only [hd,cond_true]
 · intro k out i hd
   simp only [d_impl_OneEach_L1.eq_2]
   unfold d_impl_OneEach_L1_B
   simp only [hd,cond_false]
end Go.Proofs.YthddjkokpfdbnaaGreat
/- What is squeezed is a packing still; so are others' picks, one each, and ours. -/
namespace Go.Proofs.YthddjkokpfdbnaaGreat
open Go
open Enc (rd ow)
open Arg (argv)
open Ret (retv)
open Wf (wf)
def Gc (r:Request) (c:List Int):Prop:=c ≠ [] ∧ witB r c (masM r) = true ∧ allBes r c = true
theorem bes_self {r:Request} {u:Int} (h:0 ≤ u ∧ u < (untM r).length):besB r.fPairs (clsZ r u) (clsZ r u) = true:=by
 have hc:=cls_in h
 have hz:=clsM_zero hc
 have hm:=itmZ_mem h
 have ht:=hz.2.2.1
 have hn:=hz.2.1
 have hcl:(itmZ r u).fClass < r.fClasses:=by
  unfold namB at hn
  simp only [Bool.and_eq_true] at hn
  have key:∀ (l pre:List Item),nodC r.fClasses pre l = true → ∀ x ∈ l,x.fClass < r.fClasses:=by
   intro l
   induction l with
   | nil=>intro _ _ x hx; simp at hx
   | cons y l ih =>
    intro pre h x hx
    simp only [nodC,Bool.and_eq_true,Bool.not_eq_true',decide_eq_false_iff_not] at h
    rcases List.mem_cons.1 hx with rfl | hx
    · omega
    · exact ih _ h.2 x hx
  exact key r.fItems [] hn.1.1.2 _ hm
 have hi:=(bou_items hz.1).1 _ hm
 simp only [itmB,Bool.and_eq_true,inb_iff] at hi
 unfold tabB at ht
 simp only [Bool.and_eq_true] at ht
 have:=List.all_eq_true.1 ht.2 (itmZ r u).fClass (ints_mem.2 ⟨by omega,by omega⟩)
 simp only [Bool.and_eq_true] at this
 exact this.1
theorem one_gc {r:Request} {u:Int} (h:0 ≤ u ∧ u < (untM r).length):Gc r [u]:=⟨by simp,one_wit h,by
 unfold allBes
 simp [bes_self h]⟩
theorem app_gc {r:Request} {c:List Int} {u:Int} (hc:Gc r c) (hu:0 ≤ u ∧ u < (untM r).length) (hin:∀ y ∈ c,0 ≤ y ∧ y < (untM r).length) (ho:optB r u c = true):Gc r (c ++ [u]):=by
 unfold optB at ho
 rw [Bool.and_eq_true] at ho
 have hm:=ho.2
 rw [may_in hin hu] at hm
 have hm:=List.all_eq_true.1 hm
 refine ⟨by simp,ho.1,?_⟩
 have hb:=hc.2.2
 unfold allBes at hb ⊢
 refine List.all_eq_true.2 fun x hx=>List.all_eq_true.2 fun y hy=>?_
 have hmu:∀ z ∈ c,besB r.fPairs (clsZ r z) (clsZ r u) = true ∧ besB r.fPairs (clsZ r u) (clsZ r z) = true:=fun z hz=>by
  have:=hm z hz
  unfold mutB at this
  rwa [Bool.and_eq_true] at this
 rcases List.mem_append.1 hx with hx | hx <;> rcases List.mem_append.1 hy with hy | hy
 · exact List.all_eq_true.1 (List.all_eq_true.1 hb x hx) y hy
 · rw [List.mem_singleton.1 hy]; exact (hmu x hx).1
 · rw [List.mem_singleton.1 hx]; exact (hmu y hy).2
 · rw [List.mem_singleton.1 hx,List.mem_singleton.1 hy]; exact bes_self hu
theorem opts_opt {r:Request} {out:List (List Int)} {u j:Int} (h:j ∈ optsM r out u):∃ c,ix out j = some c ∧ optB r u c = true:=by
 have hb:=opts_mem h
 obtain ⟨c,hc⟩:=ix_in (l:=out) hb.1 hb.2
 have:=(List.mem_filter.1 h).2
 rw [hc,Option.getD_some] at this
 exact ⟨c,hc,this⟩
theorem step_gc {r:Request} {picks:List Int} {out:List (List Int)} {u:Int} {m:Nat} (hk:okR r (m + 1) out) (hu:0 ≤ u ∧ u < (untM r).length) (hg:∀ c ∈ out,Gc r c):(∀ c ∈ stepM r picks out u,Gc r c) ∧ (stepM r picks out u).flatten.Perm (out.flatten ++ [u]) ∧ (stepM r picks out u).length ≤ out.length + 1:=by
 unfold stepM putM
 have hb:=tmod_bd ((ix picks u).getD 0) (n:=((optsM r out u).length:Int) + 1) (by omega)
 generalize Int.tmod ((ix picks u).getD 0) ((optsM r out u).length + 1) = t at hb ⊢
 have happ:(∀ c ∈ out ++ [[u]],Gc r c) ∧ (out ++ [[u]]).flatten.Perm (out.flatten ++ [u]) ∧ (out ++ [[u]]).length ≤ out.length + 1:=by
  refine ⟨fun c hc=>?_,by simp,by simp⟩
  rcases List.mem_append.1 hc with hc | hc
  · exact hg c hc
  · rw [List.mem_singleton.1 hc]; exact one_gc hu
 have hq:0 ≤ (if t < 0 then t + ((optsM r out u).length:Int) + 1 else t):=by split <;> omega
 generalize (if t < 0 then t + ((optsM r out u).length:Int) + 1 else t) = q at hq ⊢
 by_cases hlt:q < (optsM r out u).length
 · rw [if_pos hlt]
   obtain ⟨j,hj⟩:=ix_in (l:=optsM r out u) hq hlt
   obtain ⟨c,hc,ho⟩:=opts_opt (ix_mem hj)
   rw [hj]
   simp only [hc,Option.getD_some]
   refine ⟨fun d hd=>?_,setx_flat hc,by simp [setx]⟩
   unfold setx at hd
   rcases List.mem_or_eq_of_mem_set hd with hd | rfl
   · exact hg d hd
   · exact app_gc (hg c (ix_mem hc)) hu (hk.2 c (ix_mem hc)).2 ho
 · rw [if_neg hlt]; exact happ
theorem rby_gc {r:Request} {picks:List Int}:∀ (us:List Int) (out:List (List Int)),okR r us.length out → (∀ u ∈ us,0 ≤ u ∧ u < (untM r).length) → (∀ c ∈ out,Gc r c) → (∀ c ∈ us.foldl (stepM r picks) out,Gc r c) ∧ (us.foldl (stepM r picks) out).flatten.Perm (out.flatten ++ us) ∧ (us.foldl (stepM r picks) out).length ≤ out.length + us.length
 | [],out,_,_,h=>⟨h,by simp,by simp⟩
 | u :: us,out,hk,hu,h=>by
  obtain ⟨h1,h2,h3⟩:=step_gc (picks:=picks) hk (hu u (by simp)) h
  obtain ⟨h4,h5,h6⟩:=rby_gc us (stepM r picks out u) (put_ok hk (hu u (by simp))) (fun v hv=>hu v (by simp [hv])) h1
  rw [List.foldl_cons]
  refine ⟨h4,h5.trans ((h2.append_right us).trans (by simp)),by simp; omega⟩
theorem rby_riv {r:Request} (hc:clsM r = 0) (picks:List Int):rivB r (rbyM r picks) = true ∧ (rbyM r picks).length ≤ (untM r).length:=by
 have hul:=untM_len r
 obtain ⟨h1,h2,h3⟩:=rby_gc (r:=r) (picks:=picks) (ints 0 (untM r).length) [] ⟨by simp [ints_len]; omega,by simp⟩ (fun u hu=>by have:=ints_mem.1 hu; omega) (by simp)
 rw [ints_len] at h3
 exact ⟨riv_of hc h1 (by unfold rbyM; simpa using h2),by unfold rbyM; simpa using h3⟩
theorem one_flat:∀ (l:List Int),(l.map fun u=>[u]).flatten = l
 | []=>rfl
 | u :: l=>by simp [one_flat l]
theorem one_riv {r:Request} (hc:clsM r = 0):rivB r (oneM (untM r).length) = true:=by
 unfold oneM
 refine riv_of hc (fun c h=>?_) (by rw [one_flat])
 obtain ⟨u,hu,rfl⟩:=List.mem_map.1 h
 have:=ints_mem.1 hu
 exact one_gc ⟨by omega,by omega⟩
theorem grp_mut (r:Request):∀ g ∈ grpM r,∀ x ∈ g,∀ y ∈ g,x ≠ y → mutB r.fPairs x y = true:=by
 have key:∀ (l:List Int) (out:List (List Int)),(∀ g ∈ out,∀ x ∈ g,∀ y ∈ g,x ≠ y → mutB r.fPairs x y = true) → ∀ g ∈ l.foldl (putG r.fPairs) out,∀ x ∈ g,∀ y ∈ g,x ≠ y → mutB r.fPairs x y = true:=by
  intro l
  induction l with
  | nil=>intro out h; exact h
  | cons c l ih =>
   intro out h
   rw [List.foldl_cons]
   refine ih _ ?_
   unfold putG
   cases hf:fstI (fun g=>g.all (mutB r.fPairs c)) out with
   | some k =>
    obtain ⟨g0,hg0,hall⟩:=fstI_lt hf
    have hall:=List.all_eq_true.1 hall
    have hm:=List.mem_of_getElem? hg0
    simp only [hg0,Option.getD_some]
    intro g hg x hx y hy hxy
    rcases List.mem_or_eq_of_mem_set hg with hg | rfl
    · exact h g hg x hx y hy hxy
    · rcases List.mem_append.1 hx with hx | hx <;> rcases List.mem_append.1 hy with hy | hy
      · exact h g0 hm x hx y hy hxy
      · rw [List.mem_singleton.1 hy,mutB_comm]; exact hall x hx
      · rw [List.mem_singleton.1 hx]; exact hall y hy
      · rw [List.mem_singleton.1 hx,List.mem_singleton.1 hy] at hxy; exact absurd rfl hxy
   | none =>
    intro g hg x hx y hy hxy
    rcases List.mem_append.1 hg with hg | hg
    · exact h g hg x hx y hy hxy
    · rw [List.mem_singleton.1 hg] at hx hy
      rw [List.mem_singleton.1 hx,List.mem_singleton.1 hy] at hxy; exact absurd rfl hxy
 exact key (prsM r) [] (by simp)
theorem uof_mem {r:Request} {k u:Int} (h:u ∈ uofM r k):(0 ≤ u ∧ u < (untM r).length) ∧ ∃ g,ix (grpM r) k = some g ∧ clsZ r u ∈ g:=by
 unfold uofM at h
 cases hg:ix (grpM r) k with
 | none=>rw [hg] at h; simp at h
 | some g =>
  rw [hg] at h
  obtain ⟨j,i,x,h1,h2,h3,h4⟩:=(ofG_mem r g (untM r) 0 u).1 h
  have hj:=(List.getElem?_eq_some_iff.1 h1).1
  have hu:0 ≤ u ∧ u < (untM r).length:=by omega
  refine ⟨hu,g,rfl,?_⟩
  have hm:itmM r u = some x:=by
   unfold itmM
   rw [h2,Int.zero_add,ix_nat,h1,ob_some,h3]
  unfold clsZ itmZ
  rw [hm]
  simpa using h4
theorem thr_uof (r:Request) (k:Int):thrM r (uofM r k) = uofM r k:=by
 unfold thrM
 refine List.filter_eq_self.2 fun u hu=>?_
 have:=(uof_mem hu).1
 rw [inb_iff]; omega
theorem bes_same {r:Request} {k:Int} {l:List Int} (h:∀ u ∈ l,u ∈ uofM r k):allBes r l = true:=by
 unfold allBes
 refine List.all_eq_true.2 fun x hx=>List.all_eq_true.2 fun y hy=>?_
 obtain ⟨hx1,g,hg,hxg⟩:=uof_mem (h x hx)
 obtain ⟨hy1,g',hg',hyg⟩:=uof_mem (h y hy)
 rw [hg] at hg'
 cases hg'
 by_cases e:clsZ r x = clsZ r y
 · rw [← e]; exact bes_self hx1
 · have:=grp_mut r g (ix_mem hg) _ hxg _ hyg e
   unfold mutB at this
   rw [Bool.and_eq_true] at this
   exact this.1
theorem bes_perm {r:Request} {a b:List Int} (h:a.Perm b) (hb:allBes r b = true):allBes r a = true:=by
 unfold allBes at *
 exact List.all_eq_true.2 fun x hx=>List.all_eq_true.2 fun y hy=>List.all_eq_true.1 (List.all_eq_true.1 hb x (h.mem_iff.1 hx)) y (h.mem_iff.1 hy)
theorem our_gc {r:Request} {c:Carton} (h:c ∈ crtL r):Gc r c.fUnits ∧ (0 ≤ c.fGroup ∧ c.fGroup < (grpM r).length) ∧ ∀ u ∈ c.fUnits,u ∈ uofM r c.fGroup:=by
 obtain ⟨k,hk,l,hl,rfl⟩:=crtF_mem.1 h
 have hk':=ints_mem.1 hk
 obtain ⟨q1,q2,q3⟩:=pw_q l hl
 rw [thr_uof] at q2
 have hp:=srtI_perm l
 refine ⟨⟨fun e=>q1 ?_,?_,?_⟩,by simp only [crtM]; omega,fun u hu=>q2 u (hp.mem_iff.1 hu)⟩
 · have:(srtI l).length = 0:=by rw [show srtI l = [] from e]; rfl
   rw [srtI_len] at this
   exact List.eq_nil_of_length_eq_zero this
 · show witB r (srtI l) (masM r) = true
   rw [wit_perm hp]; exact q3
 · exact bes_perm hp (bes_same q2)
theorem ofG_lt (r:Request) (g:List Int):∀ (us:List Int) (u:Int),(ofG r g u us).Pairwise (· < ·) ∧ ∀ x ∈ ofG r g u us,u ≤ x
 | [],_=>by simp [ofG]
 | i :: us,u=>by
  obtain ⟨h1,h2⟩:=ofG_lt r g us (u + 1)
  have no:(ofG r g (u + 1) us).Pairwise (· < ·) ∧ ∀ x ∈ ofG r g (u + 1) us,u ≤ x:=⟨h1,fun x hx=>by have:=h2 x hx; omega⟩
  have yes:(u :: ofG r g (u + 1) us).Pairwise (· < ·) ∧ ∀ x ∈ u :: ofG r g (u + 1) us,u ≤ x:=by
   refine ⟨List.pairwise_cons.2 ⟨fun x hx=>by have:=h2 x hx; omega,h1⟩,fun x hx=>?_⟩
   rcases List.mem_cons.1 hx with rfl | hx
   · omega
   · have:=h2 x hx; omega
  rw [ofG]
  cases ix r.fItems i with
  | none=>exact no
  | some x =>
   simp only
   cases g.contains x.fClass
   · exact no
   · exact yes
theorem uof_nodup (r:Request) (k:Int):(uofM r k).Nodup:=by
 unfold uofM
 split
 · exact ((ofG_lt r _ (untM r) 0).1).imp fun h=>by omega
 · simp
theorem our_flatF (r:Request):∀ (ks:List Int),((crtF r ks).map (·.fUnits)).flatten.Perm (ks.map (uofM r)).flatten
 | []=>by simp [crtF]
 | k :: ks=>by
  have ih:=our_flatF r ks
  have h1:((crtK r k).map (·.fUnits)).flatten.Perm (uofM r k):=by
   have h2:=pw_flat r (uofM r k)
   rw [thr_uof] at h2
   refine List.Perm.trans ?_ h2
   unfold crtK
   generalize pwM r (uofM r k) = L
   induction L with
   | nil=>simp
   | cons l L ihL=>simp only [List.map_cons,List.flatten_cons]; exact (srtI_perm l).append ihL
  rw [crtF,List.map_append,List.flatten_append,List.map_cons,List.flatten_cons]
  exact h1.append ih
theorem uof_all (r:Request):((ints 0 (grpM r).length).map (uofM r)).flatten.Perm (ints 0 (untM r).length):=by
 refine (List.perm_ext_iff_of_nodup ?_ (ints_nodup _ _)).2 fun u=>?_
 · refine List.pairwise_flatten.2 ⟨fun l hl=>?_,?_⟩
   · obtain ⟨k,_,rfl⟩:=List.mem_map.1 hl
     exact uof_nodup r k
   · refine List.pairwise_map.2 ((ints_lt 0 (grpM r).length).imp_of_mem fun {a b} ha hb hab=>?_)
     intro x hx y hy e
     subst e
     obtain ⟨_,g,hg,hxg⟩:=uof_mem hx
     obtain ⟨_,g',hg',hyg⟩:=uof_mem hy
     have:=grp_apart (ix_some hg).2.2 (ix_some hg').2.2 hxg hyg
     have h1:=(ix_some hg).1
     have h2:=(ix_some hg').1
     omega
 · constructor
   · intro h
     obtain ⟨l,hl,hu⟩:=List.mem_flatten.1 h
     obtain ⟨k,_,rfl⟩:=List.mem_map.1 hl
     have:=(uof_mem hu).1
     exact ints_mem.2 (by omega)
   · intro h
     have hu:=ints_mem.1 h
     have hi:=itmZ_in (r:=r) (u:=u) (by omega)
     obtain ⟨i,g,hg,hcg,_⟩:=gof_prs (itm_prs hi)
     refine List.mem_flatten.2 ⟨uofM r i,List.mem_map.2 ⟨i,ints_mem.2 ⟨by omega,by have:=(List.getElem?_eq_some_iff.1 hg).1; omega⟩,rfl⟩,?_⟩
     have hg':ix (grpM r) (i:Int) = some g:=by rw [ix_nat,hg]
     have:=uof_has hg' u
     unfold inG at this
     rw [hi] at this
     have e:g.contains (itmZ r u).fClass = true:=by simpa using hcg
     simp only [e] at this
     simpa using this
theorem our_riv {r:Request} (hc:clsM r = 0):rivB r (ourM r) = true:=by
 unfold ourM
 refine riv_of hc (fun l h=>?_) ?_
 · obtain ⟨c,hcm,rfl⟩:=List.mem_map.1 h
   exact (our_gc hcm).1
 · exact (our_flatF r _).trans (uof_all r)
theorem our_mix (r:Request):(ourM r).any (mixB r) = false:=by
 refine List.any_eq_false.2 fun l hl=>?_
 unfold ourM at hl
 obtain ⟨c,hcm,rfl⟩:=List.mem_map.1 hl
 obtain ⟨_,_,h3⟩:=our_gc hcm
 rw [Bool.not_eq_true]
 unfold mixB
 refine List.any_eq_false.2 fun a ha=>?_
 rw [Bool.not_eq_true]
 refine List.any_eq_false.2 fun b hb=>?_
 rw [Bool.not_eq_true]
 obtain ⟨a1,g,hg,hag⟩:=uof_mem (h3 a ha)
 obtain ⟨b1,g',hg',hbg⟩:=uof_mem (h3 b hb)
 rw [hg] at hg'
 cases hg'
 have e1:=gof_at (ix_some hg).2.2 hag
 have e2:=gof_at (ix_some hg).2.2 hbg
 unfold badB
 rw [itmZ_in a1,itmZ_in b1]
 unfold clsZ at e1 e2
 simp [e1,e2]
end Go.Proofs.YthddjkokpfdbnaaGreat
/- The master carton's room, by impl. -/
namespace Go.Proofs.YthddjkokpfdbnaaGreat
open Go
open Enc (rd ow)
open Arg (argv)
open Ret (retv)
open Wf (wf)
theorem i_room {fu:Nat} {r:Request} (h:Sm fu r):d_impl_masterRoom fu r = some (volT (masM r),(masM r).fGram):=by
 unfold d_impl_masterRoom
 rw [i_mas h,ob_some,i_vol,ob_some]; rfl
end Go.Proofs.YthddjkokpfdbnaaGreat
/- Lower of impl. -/
namespace Go.Proofs.YthddjkokpfdbnaaGreat
open Go
open Enc (rd ow)
open Arg (argv)
open Ret (retv)
open Wf (wf)
theorem i_up {fu:Nat} {a b:Int} (ha:0 ≤ a ∧ a ≤ 4000000000000000000) (hb:1 ≤ b ∧ b ≤ 8000000000):d_impl_upBy fu a b = some (upM a b):=by
 unfold d_impl_upBy upM
 rw [odiv_ok (by omega),ob_some,w64_id (n:=a + b) (by omega) (by omega),w64_id (n:=a + b - 1) (by omega) (by omega)]
 have h0:0 ≤ Int.tdiv (a + b - 1) b:=Int.tdiv_nonneg (by omega) (by omega)
 have h1:Int.tdiv (a + b - 1) b ≤ a + b - 1:=by
  rw [Int.tdiv_eq_ediv_of_nonneg (by omega)]
  exact Int.ediv_le_self _ (by omega)
 rw [w64_id (by omega) (by omega)]
theorem i_low {fu:Nat} {r:Request} (h:Sm fu r) (hc:clsM r = 0) {us:List Int} (hl:us.length ≤ 1000):d_impl_Lower fu r us = some (lowM r us):=by
 have hfu:=h.fu
 have hm:=(mas_typ hc).2.2
 have hv1:=volT_pos hm
 have hv2:volT (masM r) ≤ 8000000000:=(volB_nn _ _ _).2
 have hg:=hm
 simp only [typB,Bool.and_eq_true,inb_iff] at hg
 have hvb:=volM_bd r us
 have hgb:=grmM_bd r us
 have hil:=itsM_len r us
 have hz:(!(clsM r == 0)) = false:=by simp [hc]
 unfold d_impl_Lower d_impl_LowerVolume d_impl_LowerGram d_impl_LowerGreat
 simp only [i_sound h,ob_some,hz,cond_false,i_room h,i_volOf h us (by omega) (by omega),i_grm h us (by omega) (by omega),i_items h us (by omega) (by omega)]
 rw [i_up (by omega) (by omega),ob_some,ob_some,i_up (by omega) (by omega),ob_some,ob_some]
 have key:=lpI (itsM r us) (fun n (s:Int × Int) i=>d_impl_LowerGreat_L1 fu (volT (masM r),(masM r).fGram) (itsM r us) n s.1 s.2 i) (fun xs s=>some (mxI (s.1 + cntB (grtB r) xs) (s.2 + cntB (hvyB r) xs))) (fun xs s=>(0 ≤ s.1 ∧ 0 ≤ s.2 ∧ s.1 + xs.length ≤ 2000 ∧ s.2 + xs.length ≤ 2000) ∧ ∀ x ∈ xs,0 ≤ x.fGram ∧ x.fGram ≤ 100000) (by omega) ?_ ?_ fu (0,0) ⟨by simp; omega,fun x hx=>grm_mem hx⟩ (by omega)
 · rw [key,ob_some]
   unfold lowM mxI
   simp only [Int.zero_add]
   congr 1
   generalize upM (volM r us) (volT (masM r)) = a,upM (grmM r us) (masM r).fGram = b,cntB (grtB r) (itsM r us) = c,cntB (hvyB r) (itsM r us) = d
   have m:∀ x y:Int,(if x > y then x else y) = max x y:=fun x y=>by rw [Int.max_def]; split <;> split <;> omega
   simp only [m]
   omega
 · intro n ⟨s1,s2⟩ i x xs hx hd hI ih
   obtain ⟨⟨i1,i2,i3,i4⟩,i5⟩:(0 ≤ s1 ∧ 0 ≤ s2 ∧ s1 + ((x :: xs).length:Int) ≤ 2000 ∧ s2 + ((x :: xs).length:Int) ≤ 2000) ∧ ∀ y ∈ x :: xs,0 ≤ y.fGram ∧ y.fGram ≤ 100000:=hI
   simp only [List.length_cons] at i3 i4
   have hxg:=i5 x (by simp)
   have hxv:=volB_nn x.fW x.fH x.fD
   simp only [d_impl_LowerGreat_L1.eq_2]
   unfold d_impl_LowerGreat_L1_B d_impl_LowerGreat_J2 d_impl_LowerGreat_J1
   rw [hd,cond_true,hx,ob_some,i_vol,ob_some,w64_id (n:=2 * volB _ _ _) (by omega) (by omega),w64_id (n:=2 * x.fGram) (by omega) (by omega),w64_id (n:=s1 + 1) (by omega) (by omega),w64_id (n:=s2 + 1) (by omega) (by omega)]
   have I:∀ p q:Int,(p = s1 ∨ p = s1 + 1) → (q = s2 ∨ q = s2 + 1) → d_impl_LowerGreat_L1 fu (volT (masM r),(masM r).fGram) (itsM r us) n p q (w64 (i + 1)) = some (mxI (p + cntB (grtB r) xs) (q + cntB (hvyB r) xs)):=fun p q hp hq=>ih (p,q) ⟨by simp; omega,fun y hy=>i5 y (by simp [hy])⟩
   have e1:decide (2 * volB x.fW x.fH x.fD > volT (masM r)) = grtB r x:=rfl
   have e2:decide (2 * x.fGram > (masM r).fGram) = hvyB r x:=rfl
   simp only [e1,e2,cntB]
   rw [I _ _ (.inr rfl) (.inr rfl),I _ _ (.inr rfl) (.inl rfl),I _ _ (.inl rfl) (.inr rfl),I _ _ (.inl rfl) (.inl rfl)]
   cases grtB r x <;> cases hvyB r x <;> simp [bitI,Int.add_assoc]
 · intro n ⟨s1,s2⟩ i hd hI
   simp only [d_impl_LowerGreat_L1.eq_2]
   unfold d_impl_LowerGreat_L1_B
   rw [hd,cond_false]
   simp only [cntB,Int.add_zero]
   unfold mxI
   congr 1
   split <;> split <;> omega
end Go.Proofs.YthddjkokpfdbnaaGreat
/- The plain law of FnSqueezed: what is squeezed is a packing still. -/
namespace Go.Proofs.YthddjkokpfdbnaaGreat
open Go
open Enc (rd ow)
open Arg (argv)
open Ret (retv)
open Wf (wf)
theorem lp_every (n:Nat) (hn:n ≤ 1000) {β:Type} (L:Nat → List Int → Int → Option β) (fin:List Int → Option β)
    (hs:∀ k out (i:Int),decide (i < (n:Int)) = true → L (k + 1) out i = obind (apnd 8 out [i]) fun x=>L k x (w64 (i + 1))) (he:∀ k out (i:Int),decide (i < (n:Int)) = false → L (k + 1) out i = fin out) (fu:Nat) (hf:1001 ≤ fu) :
    L fu [] 0 = fin (ints 0 n):=by
 have key:=lpNI (n:Int) (fun k out i=>L k out i) (fun xs out=>fin (out ++ xs)) (fun xs out=>out.length + xs.length ≤ 1000) (by omega) ?_ ?_ n fu [] 0 (by omega) (by omega) (by omega) (by simp [ints_len]; omega)
 · simpa using key
 · intro k out i xs h0 h1 hd hI ih
   simp only [List.length_cons] at hI
   rw [hs k out i hd,ap1 (by simp; omega),ob_some,ih _ (by simp; omega)]
   simp
 · intro k out i hd _
   rw [he k out i hd]; simp
end Go.Proofs.YthddjkokpfdbnaaGreat
