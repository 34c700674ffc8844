/- RenamedBP: plain lemmas, part 3. -/
import Derived.Test.YthkaklkinepfkaaGreatDoorRenamedBP2
set_option linter.unusedSimpArgs false
set_option linter.unusedVariables false
namespace Go.Proofs.YthkaklkinepfkaaGreatDoor
open Go
open Enc (rd ow)
open Arg (argv)
open Ret (retv)
open Wf (wf)
def zSp:Spot:=⟨0,0,0,0⟩
def ldA (l:List Load) (i:Int):Load:=(ix l i).getD zLd
def spB (l:List Box) (o y z:Int) (is:List Int) (s:List Spot × Int):List Spot × Int:=is.foldl (fun s b=>(setx s.1 b ⟨o,s.2,y,z⟩,s.2 + (bxA l b).fW)) s
def spS (l:List Box) (sh:List Shelf) (o z:Int) (js:List Int) (s:List Spot × Int):List Spot × Int:=js.foldl (fun s j=>((spB l o s.2 z (shA sh j).fList (s.1,0)).1,s.2 + (shA sh j).fD)) s
def spY (l:List Box) (sh:List Shelf) (ly:List Layer) (o:Int) (is:List Int) (s:List Spot × Int):List Spot × Int:=is.foldl (fun s i=>((spS l sh o s.2 (lyA ly i).fShelves (s.1,0)).1,s.2 + (lyA ly i).fH)) s
def spO (l:List Box) (sh:List Shelf) (ly:List Layer) (ld:List Load) (os:List Int) (out:List Spot):List Spot:=os.foldl (fun out o=>(spY l sh ly o (ldA ld o).fLayers (out,0)).1) out
def spM (p:Pallet) (l:List Box):List Spot:=bif bosB p l then spO l (shM p l) (lyM p (shM p l)) (ldM p (lyM p (shM p l))) (ints 0 (ldM p (lyM p (shM p l))).length) (List.replicate l.length zSp) else []
theorem setx_len' {α:Type} (l:List α) (i:Int) (y:α):(setx l i y).length = l.length:=by simp [setx]
theorem spB_len (l:List Box) (o y z:Int):∀ (is:List Int) (s:List Spot × Int),(spB l o y z is s).1.length = s.1.length
 | [],_=>rfl
 | i :: is,s=>by
  have:=spB_len l o y z is (setx s.1 i ⟨o,s.2,y,z⟩,s.2 + (bxA l i).fW)
  rw [setx_len'] at this
  exact this
theorem spS_len (l:List Box) (sh:List Shelf) (o z:Int):∀ (is:List Int) (s:List Spot × Int),(spS l sh o z is s).1.length = s.1.length
 | [],_=>rfl
 | i :: is,s=>by
  have:=spS_len l sh o z is ((spB l o s.2 z (shA sh i).fList (s.1,0)).1,s.2 + (shA sh i).fD)
  rw [spB_len] at this
  exact this
theorem spY_len (l:List Box) (sh:List Shelf) (ly:List Layer) (o:Int):∀ (is:List Int) (s:List Spot × Int),(spY l sh ly o is s).1.length = s.1.length
 | [],_=>rfl
 | i :: is,s=>by
  have:=spY_len l sh ly o is ((spS l sh o s.2 (lyA ly i).fShelves (s.1,0)).1,s.2 + (lyA ly i).fH)
  rw [spS_len] at this
  exact this
theorem spO_len (l:List Box) (sh:List Shelf) (ly:List Layer) (ld:List Load):∀ (os:List Int) (out:List Spot),(spO l sh ly ld os out).length = out.length
 | [],_=>rfl
 | o :: os,out=>by
  have:=spO_len l sh ly ld os (spY l sh ly o (ldA ld o).fLayers (out,0)).1
  rw [spY_len] at this
  exact this
theorem spM_len {p:Pallet} {l:List Box} (h:bosB p l = true):(spM p l).length = l.length:=by
 unfold spM
 rw [h,cond_true,spO_len,List.length_replicate]
theorem okS_sh {p:Pallet} {l:List Box} (h:bosB p l = true):OkS p (shM p l):=fun s hs=>by
 have:=(shM_all h).1 s hs
 exact ⟨this.d,this.h,this.g⟩
theorem okY_ly {p:Pallet} {l:List Shelf} (h:OkS p l):OkY p (lyM p l):=fun s hs=>by
 have:=(lyM_all h).1 s hs
 exact ⟨this.d,this.h,this.g⟩
theorem s_spots {fu:Nat} (hfu:2097153 ≤ fu) (p:Pallet) (l:List Box) (hl:l.length ≤ 1000):d_spec_SpotsOf fu p l = some (spM p l):=by
 unfold d_spec_SpotsOf spM
 rw [mk_some (by omega),ob_some,s_bos p l (by omega) (by omega),ob_some]
 cases hb:bosB p l
 · rfl
 · obtain ⟨a1,a2,a3⟩:=shM_all hb
   have hS:=okS_sh hb
   obtain ⟨y1,y2,y3⟩:=lyM_all hS
   have hY:=okY_ly hS
   obtain ⟨d1,d2,d3⟩:=ldM_all hY
   have hpb:=bos_pal hb
   obtain ⟨q1,q2,q3,q4⟩:=pal_bd hpb
   rw [Bool.not_true,cond_false,cond_true,s_shelves hfu p l hl,ob_some,s_layers hfu hpb hS (by omega),ob_some,s_loads hfu hpb hY (by omega),ob_some]
   have f1:∀ s ∈ shM p l,s.fList.length ≤ 1000:=fun s hs=>by
    have:=flat_le (fun s:Shelf=>s.fList) _ s hs
    rw [a2,srt_len] at this; omega
   have f2:∀ s ∈ lyM p (shM p l),s.fShelves.length ≤ 1000:=fun s hs=>by
    have:=flat_le (fun s:Layer=>s.fShelves) _ s hs
    rw [y2,ints_len] at this; omega
   have f3:∀ s ∈ ldM p (lyM p (shM p l)),s.fLayers.length ≤ 1000:=fun s hs=>by
    have:=flat_le (fun s:Load=>s.fLayers) _ s hs
    rw [d2,ints_len] at this; omega
   generalize ldM p (lyM p (shM p l)) = ld at d1 d3 f3 ⊢
   generalize lyM p (shM p l) = ly at y1 y3 hY d1 d3 f2 ⊢
   generalize shM p l = sh at a1 a3 hS y1 y3 f1 ⊢
   have L4:=lpNI (ld.length:Int) (fun n (out:List Spot) o=>d_spec_SpotsOf_L4 fu l sh ly ld n out o) (fun os out=>some (spO l sh ly ld os out)) (fun os out=>out.length = l.length) (by omega) ?_ ?_ ld.length fu (List.replicate l.length zSp) 0 (by omega) (by omega) (by omega) (by simp)
   · exact L4
   · intro n out o os o0 o1 hd hI ih
     obtain ⟨x,hx⟩:=ix_in (l:=ld) o0 o1
     have ex:ldA ld o = x:=by unfold ldA; rw [hx]; rfl
     have hxm:=d1 x (ix_mem hx)
     have hxl:=f3 x (ix_mem hx)
     simp only [d_spec_SpotsOf_L4.eq_2]
     unfold d_spec_SpotsOf_L4_B
     rw [hd,cond_true]
     have L3:=lpI x.fLayers (fun m (s:List Spot × Int) i=>d_spec_SpotsOf_L3 fu (d_spec_SpotsOf_L4 fu l sh ly ld n) l sh ly ld o m s.1 s.2 i) (fun is s=>d_spec_SpotsOf_L4 fu l sh ly ld n (spY l sh ly o is s).1 (w64 (o + 1))) (fun is s=>s.1.length = l.length ∧ (∀ i ∈ is,0 ≤ i ∧ i < ly.length) ∧ 0 ≤ s.2 ∧ s.2 + 2000 * is.length ≤ 2000000) (by omega) ?_ ?_ fu (out,0) ⟨hI,hxm.inn,by simp,by simp; omega⟩ (by omega)
     · refine L3.trans ?_
       rw [ih _ (by rw [spY_len]; exact hI)]
       simp only [spO,List.foldl_cons,ex]
     · intro m ⟨out,z⟩ i j is hj hd hI ih
       obtain ⟨i1,i2,i3,i4⟩:out.length = l.length ∧ (∀ i ∈ j :: is,0 ≤ i ∧ i < ly.length) ∧ 0 ≤ z ∧ z + 2000 * ((j :: is).length:Int) ≤ 2000000:=hI
       simp only [List.length_cons] at i4
       obtain ⟨hly,t1,t2,t3,hmem⟩:=lyA_at hY (i2 j (by simp))
       have hyi:=y1 _ hmem
       have hyl:=f2 _ hmem
       simp only [d_spec_SpotsOf_L3.eq_2]
       unfold d_spec_SpotsOf_L3_B
       rw [hx,ob_some,hd,cond_true,ob_some,hj,ob_some,hly,ob_some]
       have L2:=lpI (lyA ly j).fShelves (fun q (s:List Spot × Int) k=>d_spec_SpotsOf_L2 fu (d_spec_SpotsOf_L3 fu (d_spec_SpotsOf_L4 fu l sh ly ld n) l sh ly ld o m) l sh o z i (lyA ly j) q s.1 s.2 k) (fun ks s=>d_spec_SpotsOf_L3 fu (d_spec_SpotsOf_L4 fu l sh ly ld n) l sh ly ld o m (spS l sh o z ks s).1 (w64 (z + (lyA ly j).fH)) (w64 (i + 1))) (fun ks s=>s.1.length = l.length ∧ (∀ i ∈ ks,0 ≤ i ∧ i < sh.length) ∧ 0 ≤ s.2 ∧ s.2 + 2000 * ks.length ≤ 2000000) (by omega) ?_ ?_ fu (out,0) ⟨i1,hyi.inn,by simp,by simp; omega⟩ (by omega)
       · refine L2.trans ?_
         rw [w64_id (n:=z + _) (by omega) (by omega)]
         exact ih ((spS l sh o z (lyA ly j).fShelves (out,0)).1,z + (lyA ly j).fH) ⟨by rw [spS_len]; exact i1,fun i hi=>i2 i (by simp [hi]),by simp; omega,by simp; omega⟩
       · intro q ⟨out,y⟩ k b ks hb2 hd hI ih
         obtain ⟨i1,i2,i3,i4⟩:out.length = l.length ∧ (∀ i ∈ b :: ks,0 ≤ i ∧ i < sh.length) ∧ 0 ≤ y ∧ y + 2000 * ((b :: ks).length:Int) ≤ 2000000:=hI
         simp only [List.length_cons] at i4
         obtain ⟨hsh,u1,u2,u3,hmem2⟩:=shA_at hS (i2 b (by simp))
         have hsi:=a1 _ hmem2
         have hsl:=f1 _ hmem2
         simp only [d_spec_SpotsOf_L2.eq_2]
         unfold d_spec_SpotsOf_L2_B
         rw [hd,cond_true,hb2,ob_some,hsh,ob_some]
         have L1:=lpI (shA sh b).fList (fun q' (s:List Spot × Int) k'=>d_spec_SpotsOf_L1 fu (d_spec_SpotsOf_L2 fu (d_spec_SpotsOf_L3 fu (d_spec_SpotsOf_L4 fu l sh ly ld n) l sh ly ld o m) l sh o z i (lyA ly j) q) l o z y k (shA sh b) q' s.1 s.2 k') (fun bs s=>d_spec_SpotsOf_L2 fu (d_spec_SpotsOf_L3 fu (d_spec_SpotsOf_L4 fu l sh ly ld n) l sh ly ld o m) l sh o z i (lyA ly j) q (spB l o y z bs s).1 (w64 (y + (shA sh b).fD)) (w64 (k + 1))) (fun bs s=>s.1.length = l.length ∧ (∀ i ∈ bs,0 ≤ i ∧ i < l.length) ∧ 0 ≤ s.2 ∧ s.2 + 2000 * bs.length ≤ 2000000) (by omega) ?_ ?_ fu (out,0) ⟨i1,hsi.inn,by simp,by simp; omega⟩ (by omega)
         · refine L1.trans ?_
           rw [w64_id (n:=y + _) (by omega) (by omega)]
           exact ih ((spB l o y z (shA sh b).fList (out,0)).1,y + (shA sh b).fD) ⟨by rw [spB_len]; exact i1,fun i hi=>i2 i (by simp [hi]),by simp; omega,by simp; omega⟩
         · intro q' ⟨out,x'⟩ k' c bs hc hd hI ih
           obtain ⟨i1,i2,i3,i4⟩:out.length = l.length ∧ (∀ i ∈ c :: bs,0 ≤ i ∧ i < l.length) ∧ 0 ≤ x' ∧ x' + 2000 * ((c :: bs).length:Int) ≤ 2000000:=hI
           simp only [List.length_cons] at i4
           have hcr:=i2 c (by simp)
           obtain ⟨hbx,v1,v2,v3,v4⟩:=bok_at hb hcr
           obtain ⟨sp,hsp⟩:=ix_in (l:=out) hcr.1 (by omega)
           simp only [d_spec_SpotsOf_L1.eq_2]
           unfold d_spec_SpotsOf_L1_B
           rw [hd,cond_true,hc,ob_some,hsp,ob_some,ob_some,hbx,ob_some,w64_id (n:=x' + _) (by omega) (by omega)]
           exact ih (setx out c ⟨o,x',y,z⟩,x' + (bxA l c).fW) ⟨by rw [setx_len']; exact i1,fun i hi=>i2 i (by simp [hi]),by simp; omega,by simp; omega⟩
         · intro q' ⟨out,x'⟩ k' hd _
           simp only [d_spec_SpotsOf_L1.eq_2]
           unfold d_spec_SpotsOf_L1_B
           rw [hd,cond_false]; rfl
       · intro q ⟨out,y⟩ k hd _
         simp only [d_spec_SpotsOf_L2.eq_2]
         unfold d_spec_SpotsOf_L2_B
         rw [hd,cond_false]; rfl
     · intro m ⟨out,z⟩ i hd _
       simp only [d_spec_SpotsOf_L3.eq_2]
       unfold d_spec_SpotsOf_L3_B
       rw [hx,ob_some,hd,cond_false]; rfl
   · intro n out o hd _
     simp only [d_spec_SpotsOf_L4.eq_2]
     unfold d_spec_SpotsOf_L4_B
     rw [hd,cond_false]; rfl
def PalI (n:Int) (out:List Spot):Prop:=∀ s ∈ out,0 ≤ s.fPallet ∧ s.fPallet ≤ n
theorem setx_pal {n:Int} {out:List Spot} {i:Int} {s:Spot} (h:PalI n out) (hs:0 ≤ s.fPallet ∧ s.fPallet ≤ n):PalI n (setx out i s):=by
 intro t ht
 unfold setx at ht
 rcases List.mem_or_eq_of_mem_set ht with ht | rfl
 · exact h t ht
 · exact hs
theorem spB_pal {n:Int} (l:List Box) (o y z:Int) (ho:0 ≤ o ∧ o ≤ n):∀ (is:List Int) (s:List Spot × Int),PalI n s.1 → PalI n (spB l o y z is s).1
 | [],_,h=>h
 | i :: is,s,h=>spB_pal l o y z ho is (setx s.1 i ⟨o,s.2,y,z⟩,s.2 + (bxA l i).fW) (setx_pal h ho)
theorem spS_pal {n:Int} (l:List Box) (sh:List Shelf) (o z:Int) (ho:0 ≤ o ∧ o ≤ n):∀ (is:List Int) (s:List Spot × Int),PalI n s.1 → PalI n (spS l sh o z is s).1
 | [],_,h=>h
 | i :: is,s,h=>spS_pal l sh o z ho is ((spB l o s.2 z (shA sh i).fList (s.1,0)).1,s.2 + (shA sh i).fD) (spB_pal l o s.2 z ho _ (s.1,0) h)
theorem spY_pal {n:Int} (l:List Box) (sh:List Shelf) (ly:List Layer) (o:Int) (ho:0 ≤ o ∧ o ≤ n):∀ (is:List Int) (s:List Spot × Int),PalI n s.1 → PalI n (spY l sh ly o is s).1
 | [],_,h=>h
 | i :: is,s,h=>spY_pal l sh ly o ho is ((spS l sh o s.2 (lyA ly i).fShelves (s.1,0)).1,s.2 + (lyA ly i).fH) (spS_pal l sh o s.2 ho _ (s.1,0) h)
theorem spO_pal {n:Int} (l:List Box) (sh:List Shelf) (ly:List Layer) (ld:List Load):∀ (os:List Int) (out:List Spot),(∀ o ∈ os,0 ≤ o ∧ o ≤ n) → PalI n out → PalI n (spO l sh ly ld os out)
 | [],_,_,h=>h
 | o :: os,out,ho,h=>spO_pal l sh ly ld os (spY l sh ly o (ldA ld o).fLayers (out,0)).1 (fun q hq=>ho q (by simp [hq])) (spY_pal l sh ly o (ho o (by simp)) _ (out,0) h)
theorem sp_pal {p:Pallet} {l:List Box} (hl:l.length ≤ 1000):∀ s ∈ spM p l,0 ≤ s.fPallet ∧ s.fPallet ≤ 1000:=by
 unfold spM
 cases hb:bosB p l
 · simp
 · have a3:=(shM_all hb).2.2
   have hS:=okS_sh hb
   have y3:=(lyM_all hS).2.2
   have d3:=(ldM_all (okY_ly hS)).2.2
   rw [cond_true]
   refine spO_pal l _ _ _ _ _ (fun o ho=>?_) fun s hs=>?_
   · have:=ints_mem.1 ho; omega
   · rw [(List.mem_replicate.1 hs).2]; simp [zSp]
def hasG (r:Request) (k:Int):Bool:=inb k 0 (((grpM r).length:Int) - 1)
theorem cls_of_grp {r:Request} {k:Int} (h:hasG r k = true):clsM r = 0:=by
 unfold hasG at h
 rw [inb_iff] at h
 by_cases hc:clsM r = 0
 · exact hc
 · have:grpM r = []:=by
     unfold grpM prsM
     rw [show (clsM r == 0) = false by simp [hc]]
     rfl
   rw [this] at h
   simp at h
   omega
theorem ofG_step (r:Request) (g:List Int) (u i:Int) (us:List Int) {x:Item} (hx:ix r.fItems i = some x):ofG r g u (i :: us) = bif g.contains x.fClass then u :: ofG r g (u + 1) us else ofG r g (u + 1) us:=by
 rw [ofG,hx]
theorem s_uof {fu:Nat} {r:Request} (h:Sm fu r) (k:Int):d_spec_UnitsOf fu r k = some (uofM r k):=by
 have hfu:=h.fu
 unfold d_spec_UnitsOf uofM
 rw [s_grp h,ob_some,w64_grp,s_in,ob_some]
 cases hg:inb k 0 (((grpM r).length:Int) - 1)
 · rw [Bool.not_false,cond_true]
   have:ix (grpM r) k = none:=by
    have hk:¬ (0 ≤ k ∧ k ≤ ((grpM r).length:Int) - 1):=by intro hk; rw [(inb_iff).2 hk] at hg; cases hg
    unfold ix
    by_cases h0:0 ≤ k
    · rw [if_pos h0,List.getElem?_eq_none (by omega)]
    · rw [if_neg h0]
   rw [this]
 · have hc:=cls_of_grp hg
   rw [inb_iff] at hg
   obtain ⟨j,rfl⟩:∃ j:Nat,k = j:=⟨k.toNat,by omega⟩
   have hj:j < (grpM r).length:=by omega
   have hgl:=(grpM_ok r).2 _ (List.getElem_mem hj)
   rw [Bool.not_true,cond_false,s_l6 h (clsM_zero hc).1,ob_some,ix_i hj]
   have e:untM r = l6M r:=by unfold untM; rw [show (clsM r == 0) = true by simp [hc],cond_true]
   simp only [e]
   have hlen:(l6M r).length ≤ 12:=l6M_len (clsM_zero hc).1
   have:=lpPI (l6M r) (fun n out i=>d_spec_UnitsOf_L1 fu r (j:Int) (grpM r) (l6M r) n out i) (fun pre xs out=>some (out ++ ofG r (grpM r)[j] (pre.length:Int) xs)) (fun pre xs out=>out.length + xs.length ≤ 12) (by omega) ?_ ?_ fu [] (by simpa using hlen) (by omega)
   · simpa using this
   · intro n out pre i xs hl hx hd hI ih
     simp only [List.length_cons] at hI
     have hi:i ∈ untM r:=by rw [e,hl]; simp
     have hi2:=untM_mem hi
     obtain ⟨q,rfl⟩:∃ q:Nat,i = q:=⟨i.toNat,by omega⟩
     have hq:q < r.fItems.length:=by omega
     simp only [d_spec_UnitsOf_L1.eq_2]
     unfold d_spec_UnitsOf_L1_B d_spec_UnitsOf_J1
     simp only [hd,cond_true,hx,ob_some,ix_i hj,ix_i hq,s_has (show (grpM r)[j].length ≤ 1048576 by omega) (show (grpM r)[j].length < fu by omega)]
     rw [ofG_step r _ _ _ _ (ix_i hq)]
     cases (grpM r)[j].contains r.fItems[q].fClass
     · rw [cond_false,cond_false,ih _ (by omega)]
       simp
     · rw [cond_true,cond_true,ap1 (by simp; omega),ob_some,ih _ (by simp; omega)]
       simp
   · intro n out hd hI
     simp only [d_spec_UnitsOf_L1.eq_2]
     unfold d_spec_UnitsOf_L1_B
     simp only [hd,cond_false]
     simp [ofG]
theorem i_uof {fu:Nat} {r:Request} (h:Sm fu r) (k:Int):d_impl_UnitsOf fu r k = some (uofM r k):=by
 have hfu:=h.fu
 unfold d_impl_UnitsOf uofM
 rw [i_grp h,ob_some,w64_grp,i_in,ob_some]
 cases hg:inb k 0 (((grpM r).length:Int) - 1)
 · rw [Bool.not_false,cond_true]
   have:ix (grpM r) k = none:=by
    have hk:¬ (0 ≤ k ∧ k ≤ ((grpM r).length:Int) - 1):=by intro hk; rw [(inb_iff).2 hk] at hg; cases hg
    unfold ix
    by_cases h0:0 ≤ k
    · rw [if_pos h0,List.getElem?_eq_none (by omega)]
    · rw [if_neg h0]
   rw [this]
 · have hc:=cls_of_grp hg
   rw [inb_iff] at hg
   obtain ⟨j,rfl⟩:∃ j:Nat,k = j:=⟨k.toNat,by omega⟩
   have hj:j < (grpM r).length:=by omega
   have hgl:=(grpM_ok r).2 _ (List.getElem_mem hj)
   rw [Bool.not_true,cond_false,i_unt h,ob_some,ix_i hj]
   have hlen:=untM_len r
   have:=lpPI (untM r) (fun n out i=>d_impl_UnitsOf_L1 fu r (j:Int) (grpM r) (untM r) n out i) (fun pre xs out=>some (out ++ ofG r (grpM r)[j] (pre.length:Int) xs)) (fun pre xs out=>out.length + xs.length ≤ 12) (by omega) ?_ ?_ fu [] (by simpa using hlen) (by omega)
   · simpa using this
   · intro n out pre i xs hl hx hd hI ih
     simp only [List.length_cons] at hI
     have hi:i ∈ untM r:=by rw [hl]; simp
     have hi2:=untM_mem hi
     obtain ⟨q,rfl⟩:∃ q:Nat,i = q:=⟨i.toNat,by omega⟩
     have hq:q < r.fItems.length:=by omega
     simp only [d_impl_UnitsOf_L1.eq_2]
     unfold d_impl_UnitsOf_L1_B d_impl_UnitsOf_J1
     simp only [hd,cond_true,hx,ob_some,ix_i hj,ix_i hq,i_has (show (grpM r)[j].length ≤ 1048576 by omega) (show (grpM r)[j].length < fu by omega)]
     rw [ofG_step r _ _ _ _ (ix_i hq)]
     cases (grpM r)[j].contains r.fItems[q].fClass
     · rw [cond_false,cond_false,ih _ (by omega)]
       simp
     · rw [cond_true,cond_true,ap1 (by simp; omega),ob_some,ih _ (by simp; omega)]
       simp
   · intro n out hd hI
     simp only [d_impl_UnitsOf_L1.eq_2]
     unfold d_impl_UnitsOf_L1_B
     simp only [hd,cond_false]
     simp [ofG]
def srtI (l:List Int):List Int:=l.mergeSort fun x y=>decide (x ≤ y)
theorem srtI_perm (l:List Int):(srtI l).Perm l:=List.mergeSort_perm l _
theorem srtI_len (l:List Int):(srtI l).length = l.length:=(srtI_perm l).length_eq
def crtM (r:Request) (k:Int) (l:List Int):Carton:=⟨(chpM r l).1.fId,k,srtI l⟩
def crtK (r:Request) (k:Int):List Carton:=(pwM r (uofM r k)).map (crtM r k)
def crtF (r:Request):List Int → List Carton
 | []=>[]
 | k :: ks=>crtK r k ++ crtF r ks
def crtL (r:Request):List Carton:=crtF r (ints 0 (grpM r).length)
theorem ints_getC (l:List Int):(ints 0 l.length).map (fun p=>(ix l p).getD 0) = l:=by
 have key:∀ (xs pre:List Int),l = pre ++ xs → (ints pre.length xs.length).map (fun p=>(ix l p).getD 0) = xs:=by
  intro xs
  induction xs with
  | nil=>intro pre _; rfl
  | cons x xs ih =>
   intro pre he
   have h1:=ih (pre ++ [x]) (by simp [he])
   simp only [List.length_append,List.length_singleton] at h1
   simp only [List.length_cons,ints,List.map_cons]
   rw [show ((pre.length:Int) + 1) = ((pre.length + 1:Nat):Int) by omega,h1]
   congr 1
   rw [ix_nat,he]
   simp
 exact key l [] rfl
theorem srt_get (l:List Int):(srt (kf l) l.length).map (fun p=>(ix l p).getD 0) = srtI l:=by
 refine le_uniq ?_ ?_ (mergeSort_le l)
 · refine ((srt_perm _ _).map _).trans ?_
   rw [ints_getC]
   exact (srtI_perm l).symm
 · refine List.pairwise_map.2 ((srt_sorted (kf l) l.length).imp fun {p q} h=>?_)
   unfold lx kf at h
   omega
theorem crtK_len {r:Request} (k:Int):(crtK r k).length ≤ 12:=by
 have:=(pwM_ok (r:=r) (uofM_len r k)).1
 simp [crtK]; omega
theorem i_crt {fu:Nat} {r:Request} (h:Sm fu r):d_impl_CartonsOf fu r = some (crtL r):=by
 have hfu:=h.fu
 have hg:=(grpM_ok r).1
 unfold d_impl_CartonsOf crtL
 rw [i_grp h,ob_some]
 have:=lpNI ((grpM r).length:Int) (fun n out i=>d_impl_CartonsOf_L2 fu r (grpM r) n out i) (fun xs out=>some (out ++ crtF r xs)) (fun xs out=>out.length + 12 * xs.length ≤ 48) (by omega) ?_ ?_ (grpM r).length fu [] 0 (by omega) (by omega) (by omega) (by simp [ints_len]; omega)
 · simpa using this
 · intro n out k ks h0 h1 hd hI ih
   simp only [List.length_cons] at hI
   have hul:=uofM_len r k
   have hpo:=pwM_ok (r:=r) hul
   simp only [d_impl_CartonsOf_L2.eq_2]
   unfold d_impl_CartonsOf_L2_B
   rw [hd,cond_true,i_uof h,ob_some,i_way h _ (by omega),ob_some]
   have key:=lpI (pwM r (uofM r k)) (fun m o i=>d_impl_CartonsOf_L1 fu (d_impl_CartonsOf_L2 fu r (grpM r) n) r k (pwM r (uofM r k)) m o i) (fun xs o=>d_impl_CartonsOf_L2 fu r (grpM r) n (o ++ xs.map (crtM r k)) (w64 (k + 1))) (fun xs o=>o.length + xs.length ≤ 48 ∧ ∀ l ∈ xs,l.length ≤ 12) (by have:=hpo.1; omega) ?_ ?_ fu out ⟨by have:=hpo.1; omega,hpo.2⟩ (by have:=hpo.1; omega)
   · rw [key,ih _ (by have:=hpo.1; simp; omega)]
     simp [crtF,crtK]
   · intro m o i l xs hx hd hI ih
     obtain ⟨h2,h3⟩:=hI
     simp only [List.length_cons] at h2
     have hl:=h3 l (by simp)
     simp only [d_impl_CartonsOf_L1.eq_2]
     unfold d_impl_CartonsOf_L1_B
     rw [hd,cond_true,hx,ob_some,i_cheap h l (by omega),ob_some,show d_slices_Sort_int_int fu l = some (srtI l) from sortI_some (by omega),ob_some,ap1 (by simp; omega),ob_some,ih _ ⟨by simp; omega,fun y hy=>h3 y (by simp [hy])⟩]
     simp [crtM]
   · intro m o i hd _
     simp only [d_impl_CartonsOf_L1.eq_2]
     unfold d_impl_CartonsOf_L1_B
     rw [hd,cond_false]; simp
 · intro n out k hd _
   simp only [d_impl_CartonsOf_L2.eq_2]
   unfold d_impl_CartonsOf_L2_B
   rw [hd,cond_false]; simp [crtF]
theorem s_crt {fu:Nat} {r:Request} (h:Sm fu r):d_spec_CartonsOf fu r = some (crtL r):=by
 have hfu:=h.fu
 have hg:=(grpM_ok r).1
 unfold d_spec_CartonsOf crtL
 rw [s_grp h,ob_some]
 have:=lpNI ((grpM r).length:Int) (fun n out i=>d_spec_CartonsOf_L3 fu r (grpM r) n out i) (fun xs out=>some (out ++ crtF r xs)) (fun xs out=>out.length + 12 * xs.length ≤ 48) (by omega) ?_ ?_ (grpM r).length fu [] 0 (by omega) (by omega) (by omega) (by simp [ints_len]; omega)
 · simpa using this
 · intro n out k ks h0 h1 hd hI ih
   simp only [List.length_cons] at hI
   have hul:=uofM_len r k
   have hpo:=pwM_ok (r:=r) hul
   simp only [d_spec_CartonsOf_L3.eq_2]
   unfold d_spec_CartonsOf_L3_B
   rw [hd,cond_true,s_uof h,ob_some,s_way h _ (by omega),ob_some]
   have key:=lpI (pwM r (uofM r k)) (fun m o i=>d_spec_CartonsOf_L2 fu (d_spec_CartonsOf_L3 fu r (grpM r) n) r k (pwM r (uofM r k)) m o i) (fun xs o=>d_spec_CartonsOf_L3 fu r (grpM r) n (o ++ xs.map (crtM r k)) (w64 (k + 1))) (fun xs o=>o.length + xs.length ≤ 48 ∧ ∀ l ∈ xs,l.length ≤ 12) (by have:=hpo.1; omega) ?_ ?_ fu out ⟨by have:=hpo.1; omega,hpo.2⟩ (by have:=hpo.1; omega)
   · rw [key,ih _ (by have:=hpo.1; simp; omega)]
     simp [crtF,crtK]
   · intro m o i l xs hx hd hI ih
     obtain ⟨h2,h3⟩:=hI
     simp only [List.length_cons] at h2
     have hl:=h3 l (by simp)
     simp only [d_spec_CartonsOf_L2.eq_2]
     unfold d_spec_CartonsOf_L2_B d_spec_CartonsOf_J3
     rw [hd,cond_true,hx,ob_some,s_cheap h l (by omega),ob_some,ob_some,s_up hfu (by omega),ob_some]
     have hsl:=srt_len (kf l) l.length
     have hsm:=fun x=>srt_mem (k:=kf l) (n:=l.length) (x:=x)
     have hsg:=srt_get l
     generalize srt (kf l) l.length = S at hsl hsm hsg ⊢
     have k1:=lpI S (fun m' us j=>d_spec_CartonsOf_L1 fu (d_spec_CartonsOf_L2 fu (d_spec_CartonsOf_L3 fu r (grpM r) n) r k (pwM r (uofM r k)) m) k (pwM r (uofM r k)) o i (chpM r l).1 S m' us j)
      (fun xs us=>obind (apnd 40 o [(⟨(chpM r l).1.fId,k,us ++ xs.map fun p=>(ix l p).getD 0⟩:Carton)]) fun x=>d_spec_CartonsOf_J2 fu (d_spec_CartonsOf_L2 fu (d_spec_CartonsOf_L3 fu r (grpM r) n) r k (pwM r (uofM r k)) m) i x) (fun xs us=>us.length + xs.length ≤ 12 ∧ ∀ p ∈ xs,0 ≤ p ∧ p < l.length) (by omega) ?_ ?_ fu [] ⟨by simp; omega,fun p hp=>(hsm p).1 hp⟩ (by omega)
     · rw [k1,List.nil_append,hsg,ap1 (by simp; omega),ob_some]
       unfold d_spec_CartonsOf_J2
       rw [ih _ ⟨by simp; omega,fun y hy=>h3 y (by simp [hy])⟩]
       simp [crtM]
     · intro m' us j p ps hp hd hI ih
       obtain ⟨h4,h5⟩:=hI
       simp only [List.length_cons] at h4
       simp only [d_spec_CartonsOf_L1.eq_2]
       unfold d_spec_CartonsOf_L1_B
       rw [hd,cond_true,hx,ob_some,hp,ob_some,ord_ix (h5 p (by simp)),ob_some,ap1 (by simp; omega),ob_some,ih _ ⟨by simp; omega,fun y hy=>h5 y (by simp [hy])⟩]
       simp
     · intro m' us j hd _
       simp only [d_spec_CartonsOf_L1.eq_2]
       unfold d_spec_CartonsOf_L1_B
       rw [hd,cond_false]; simp
   · intro m o i hd _
     simp only [d_spec_CartonsOf_L2.eq_2]
     unfold d_spec_CartonsOf_L2_B d_spec_CartonsOf_J1
     rw [hd,cond_false]; simp
 · intro n out k hd _
   simp only [d_spec_CartonsOf_L3.eq_2]
   unfold d_spec_CartonsOf_L3_B
   rw [hd,cond_false]; simp [crtF]
theorem crtF_len (r:Request):∀ (ks:List Int),(crtF r ks).length ≤ 12 * ks.length
 | []=>by simp [crtF]
 | k :: ks=>by
  have:=crtF_len r ks
  have:=crtK_len (r:=r) k
  simp [crtF]; omega
theorem crtL_len (r:Request):(crtL r).length ≤ 48:=by
 have:=crtF_len r (ints 0 (grpM r).length)
 have hg:=(grpM_ok r).1
 rw [ints_len] at this
 unfold crtL
 omega
theorem crtF_mem {r:Request} {c:Carton}:∀ {ks:List Int},c ∈ crtF r ks ↔ ∃ k ∈ ks,∃ l ∈ pwM r (uofM r k),c = crtM r k l
 | []=>by simp [crtF]
 | k :: ks=>by
  simp only [crtF,List.mem_append,crtF_mem (ks:=ks),List.mem_cons,crtK,List.mem_map]
  constructor
  · rintro (⟨l,hl,rfl⟩ | ⟨k',hk,l,hl,e⟩)
    · exact ⟨k,.inl rfl,l,hl,rfl⟩
    · exact ⟨k',.inr hk,l,hl,e⟩
  · rintro ⟨k',rfl | hk,l,hl,rfl⟩
    · exact .inl ⟨l,hl,rfl⟩
    · exact .inr ⟨k',hk,l,hl,rfl⟩
theorem crt_units {r:Request} {c:Carton} (h:c ∈ crtL r):c.fUnits.length ≤ 12:=by
 obtain ⟨k,_,l,hl,rfl⟩:=crtF_mem.1 h
 have:=(pwM_ok (r:=r) (uofM_len r k)).2 l hl
 simp only [crtM,srtI_len]
 omega
def prdI:List Int → Int
 | []=>1
 | x :: xs=>x * prdI xs
theorem prd_perm {a b:List Int} (h:a.Perm b):prdI a = prdI b:=by
 induction h with
 | nil=>rfl
 | cons x _ ih=>simp only [prdI,ih]
 | swap x y l=>simp only [prdI,← Int.mul_assoc]; rw [Int.mul_comm x y]
 | trans _ _ h1 h2=>rw [h1,h2]
theorem sid_prd (a b c:Int):(sid a b c).1 * ((sid a b c).2.1 * (sid a b c).2.2) = a * b * c:=by
 have h:=sortI3 a b c
 unfold sortI at h
 simp only [List.length_cons,List.length_nil] at h
 rw [if_pos (by omega)] at h
 have hp:=List.mergeSort_perm [a,b,c] fun x y=>decide (x ≤ y)
 rw [Option.some.inj h] at hp
 have:=prd_perm hp
 simp only [prdI,Int.mul_one] at this
 rw [this,Int.mul_assoc]
theorem sid_ge {a b c m:Int} (ha:m ≤ a) (hb:m ≤ b) (hc:m ≤ c):m ≤ (sid a b c).1:=by
 unfold sid
 simp only
 split <;> split <;> omega
theorem fit_vol {x:Item} {t:Typ} (hx:itmB x = true) (ht:typB t = true) (h:fitB x t = true):volI x ≤ volT t ∧ x.fGram ≤ t.fGram:=by
 simp only [itmB,Bool.and_eq_true,inb_iff] at hx
 simp only [typB,Bool.and_eq_true,inb_iff] at ht
 simp only [fitB,Bool.and_eq_true,decide_eq_true_eq] at h
 obtain ⟨⟨⟨h1,h2⟩,h3⟩,h4⟩:=h
 refine ⟨?_,h4⟩
 have e1:volI x = x.fW * x.fH * x.fD:=by
  unfold volI volB
  rw [show (inb x.fW 0 2000 && (inb x.fH 0 2000 && inb x.fD 0 2000)) = true by simp; omega,cond_true]
 have e2:volT t = t.fW * t.fH * t.fD:=by
  unfold volT volB
  rw [show (inb t.fW 0 2000 && (inb t.fH 0 2000 && inb t.fD 0 2000)) = true by simp; omega,cond_true]
 rw [e1,e2,← sid_prd x.fW x.fH x.fD,← sid_prd t.fW t.fH t.fD]
 have p1:1 ≤ (sid x.fW x.fH x.fD).1:=sid_ge (by omega) (by omega) (by omega)
 have s1:=sid_sorted x.fW x.fH x.fD
 have s2:=sid_sorted t.fW t.fH t.fD
 refine Int.mul_le_mul h1 ?_ (Int.mul_nonneg (by omega) (by omega)) (by omega)
 exact Int.mul_le_mul h2 h3 (by omega) (by omega)
theorem itmZ_mem {r:Request} {u:Int} (h:0 ≤ u ∧ u < (untM r).length):itmZ r u ∈ r.fItems:=(itm_cls (itmZ_in h)).2
theorem cls_in {r:Request} {u:Int} (h:0 ≤ u ∧ u < (untM r).length):clsM r = 0:=(itm_cls (itmZ_in h)).1
theorem mas_typ {r:Request} (hc:clsM r = 0):typM r r.fMaster = some (masM r) ∧ masM r ∈ r.fTypes ∧ typB (masM r) = true:=by
 have h:=(clsM_zero hc).2.1
 unfold namB at h
 simp only [Bool.and_eq_true] at h
 obtain ⟨t,ht⟩:=Option.isSome_iff_exists.1 h.1.2
 have e:masM r = t:=by unfold masM; rw [ht]; rfl
 have hm:t ∈ r.fTypes:=List.mem_of_find?_eq_some ht
 rw [e]
 exact ⟨ht,hm,bou_types (clsM_zero hc).1 t hm⟩
theorem vol_one {r:Request} {u:Int} (h:0 ≤ u ∧ u < (untM r).length):volM r [u] = volI (itmZ r u) ∧ grmM r [u] = (itmZ r u).fGram:=by
 unfold volM grmM itsM
 simp [List.filterMap_cons,itmZ_in h]
theorem one_wit {r:Request} {u:Int} (h:0 ≤ u ∧ u < (untM r).length):witB r [u] (masM r) = true:=by
 have hc:=cls_in h
 have hz:=clsM_zero hc
 have hm:=itmZ_mem h
 obtain ⟨h1,h2⟩:=fit_vol ((bou_items hz.1).1 _ hm) (mas_typ hc).2.2 (hz.2.2.2.1 _ hm)
 unfold witB
 rw [(vol_one h).1,(vol_one h).2,Bool.and_eq_true,decide_eq_true_iff,decide_eq_true_iff]
 exact ⟨h1,h2⟩
def Qc (r:Request) (us:List Int) (l:List Int):Prop:=l ≠ [] ∧ (∀ u ∈ l,u ∈ us) ∧ witB r l (masM r) = true
theorem putF_q {r:Request} {us:List Int} {out:List (List Int)} {u:Int} (h:∀ l ∈ out,Qc r us l) (hu:u ∈ us) (hr:0 ≤ u ∧ u < (untM r).length):∀ l ∈ fitF r out u,Qc r us l:=by
 have hn:Qc r us [u]:=⟨by simp,fun v hv=>by rw [List.mem_singleton.1 hv]; exact hu,one_wit hr⟩
 intro l hl
 unfold fitF putF at hl
 split at hl
 · rename_i i hi
   obtain ⟨x,hx,hg⟩:=fstI_lt hi
   rw [hx] at hl
   rcases List.mem_or_eq_of_mem_set hl with hl | rfl
   · exact h l hl
   · have hq:=h x (List.mem_of_getElem? hx)
     refine ⟨by simp,fun v hv=>?_,hg⟩
     rcases List.mem_append.1 hv with hv | hv
     · exact hq.2.1 v hv
     · rw [List.mem_singleton.1 hv]; exact hu
 · rcases List.mem_append.1 hl with hl | hl
   · exact h l hl
   · rw [List.mem_singleton.1 hl]; exact hn
theorem nxtF_q {r:Request} {us:List Int} {out:List (List Int)} {u:Int} (h:∀ l ∈ out,Qc r us l) (hu:u ∈ us) (hr:0 ≤ u ∧ u < (untM r).length):∀ l ∈ nxtF r out u,Qc r us l:=by
 have hn:Qc r us [u]:=⟨by simp,fun v hv=>by rw [List.mem_singleton.1 hv]; exact hu,one_wit hr⟩
 intro l hl
 cases hlast:out.getLast? with
 | none =>
  unfold nxtF at hl
  rw [hlast] at hl
  rw [List.mem_singleton.1 hl]; exact hn
 | some x =>
  rw [nxtF_some u hlast] at hl
  have hq:=h x (List.mem_of_getLast? hlast)
  cases hg:romB r u x
  · rw [hg,cond_false] at hl
    rcases List.mem_append.1 hl with hl | hl
    · exact h l hl
    · rw [List.mem_singleton.1 hl]; exact hn
  · rw [hg,cond_true] at hl
    rcases List.mem_or_eq_of_mem_set hl with hl | rfl
    · exact h l hl
    · refine ⟨by simp,fun v hv=>?_,hg⟩
      rcases List.mem_append.1 hv with hv | hv
      · exact hq.2.1 v hv
      · rw [List.mem_singleton.1 hv]; exact hu
theorem fold_q {r:Request} {us:List Int} {F:List (List Int) → Int → List (List Int)} (hF:∀ out u,(∀ l ∈ out,Qc r us l) → u ∈ us → (0 ≤ u ∧ u < (untM r).length) → ∀ l ∈ F out u,Qc r us l):∀ (vs:List Int) (out:List (List Int)),(∀ u ∈ vs,u ∈ us ∧ 0 ≤ u ∧ u < (untM r).length) → (∀ l ∈ out,Qc r us l) → ∀ l ∈ vs.foldl F out,Qc r us l
 | [],out,_,h=>h
 | v :: vs,out,hv,h=>by
  rw [List.foldl_cons]
  have h1:=hv v (by simp)
  exact fold_q hF vs _ (fun u hu=>hv u (by simp [hu])) (hF out v h h1.1 h1.2)
theorem ordM_perm (r:Request) (us:List Int):(ordM r us).Perm us:=by
 unfold ordM
 refine ((srt_perm _ _).map _).trans ?_
 have key:∀ (xs pre:List Int),us = pre ++ xs → (ints pre.length xs.length).map (fun p=>(ix us p).getD 0) = xs:=by
  intro xs
  induction xs with
  | nil=>intro pre _; rfl
  | cons x xs ih =>
   intro pre he
   have h1:=ih (pre ++ [x]) (by simp [he])
   simp only [List.length_append,List.length_singleton] at h1
   simp only [List.length_cons,ints,List.map_cons]
   rw [show ((pre.length:Int) + 1) = ((pre.length + 1:Nat):Int) by omega,h1]
   congr 1
   rw [ix_nat,he]
   simp
 have:=key us [] rfl
 simp only [List.length_nil] at this
 exact List.Perm.of_eq this
theorem pw_q {r:Request} {us:List Int}:∀ l ∈ pwM r us,Qc r (thrM r us) l:=by
 unfold pwM nfM ffM
 have ht:∀ u ∈ thrM r us,u ∈ thrM r us ∧ 0 ≤ u ∧ u < (untM r).length:=fun u hu=>⟨hu,thr_mem hu⟩
 cases r.fWay == 1
 · rw [cond_false]
   exact fold_q (fun out u h hu hr=>putF_q h hu hr) _ [] (fun u hu=>ht u ((ordM_perm r _).mem_iff.1 hu)) (by simp)
 · rw [cond_true]
   exact fold_q (fun out u h hu hr=>nxtF_q h hu hr) _ [] ht (by simp)
def lensC:List Carton → Nat
 | []=>0
 | x :: xs=>x.fUnits.length + lensC xs
structure Sp (x:Plan):Prop where
 cars:x.fCartons.length ≤ 1048576
 units:∀ c ∈ x.fCartons,c.fUnits.length ≤ 1048576
 all:lensC x.fCartons ≤ 1048576
 spots:x.fSpots.length ≤ 1048576
def incP:List Int → List Int → Bool
 | _,[]=>true
 | pre,x :: xs=>inb x 0 999 && ((match pre.getLast? with | none=>true | some y=>decide (y < x)) && incP (pre ++ [x]) xs)
def uriB (l:List Int):Bool:=incP [] l && decide ((l.length:Int) ≤ 100)
def cokB (c:Carton):Bool:=inb c.fType 0 999 && (inb c.fGroup 0 3 && uriB c.fUnits)
def sokB (s:Spot):Bool:=inb s.fPallet 0 2000 && (inb s.fX 0 2000 && (inb s.fY 0 2000 && inb s.fZ 0 2000))
def pokB (x:Plan):Bool:=x.fSpots.length == x.fCartons.length && (decide ((x.fCartons.length:Int) ≤ 100) && (x.fCartons.zip x.fSpots).all fun p=>cokB p.1 && sokB p.2)
theorem last_ix {pre:List Int} {x:Int} {xs l:List Int} (hl:l.length ≤ 1048576) (e:l = pre ++ x :: xs):(pre.getLast? = none ∧ pre.length = 0) ∨ ∃ y,pre.getLast? = some y ∧ 0 < pre.length ∧ ix l (w64 ((pre.length:Int) - 1)) = some y:=by
 cases hp:pre.getLast? with
 | none=>exact .inl ⟨rfl,by simpa using List.getLast?_eq_none_iff.1 hp⟩
 | some y =>
  have hne:pre ≠ []:=fun e=>by subst e; simp at hp
  have hpos:0 < pre.length:=List.length_pos_iff.2 hne
  refine .inr ⟨y,rfl,hpos,?_⟩
  have h1:w64 ((pre.length:Int) - 1) = ((pre.length - 1:Nat):Int):=by
   have:pre.length ≤ l.length:=by rw [e]; simp
   rw [w64_id (by omega) (by omega)]; omega
  rw [h1,ix_nat,e,List.getElem?_append_left (by omega),← List.getLast?_eq_getElem?,hp]
theorem i_uri {fu:Nat} {l:List Int} (hl:l.length ≤ 1048576) (hf:l.length < fu):d_impl_unitsRight fu l = some (uriB l):=by
 unfold d_impl_unitsRight uriB
 have key:=lpP l (fun n (_:Unit) i=>d_impl_unitsRight_L1 fu l n i) (fun pre xs _=>some (incP pre xs && decide ((l.length:Int) ≤ 100))) (by omega) ?_ ?_ fu () hf
 · exact key
 · intro n _ pre x xs e hx hd ih
   have ih:=ih ()
   simp only [d_impl_unitsRight_L1.eq_2]
   unfold d_impl_unitsRight_L1_B d_impl_unitsRight_J1 incP
   rw [hd,cond_true,hx,ob_some,i_in,ob_some]
   cases inb x 0 999
   · rfl
   · rw [Bool.not_true,cond_false,Bool.true_and]
     rcases last_ix (hl:=hl) e with ⟨h1,h2⟩ | ⟨y,h1,h2,h3⟩
     · rw [h1,show decide ((pre.length:Int) > 0) = false from decide_eq_false (by omega),cond_false,ih]
       simp
     · rw [h1,show decide ((pre.length:Int) > 0) = true from decide_eq_true (by omega),cond_true,h3,ob_some,ih]
       by_cases hy:y < x
       · rw [show decide (y ≥ x) = false by simp; omega,cond_false]; simp [hy]
       · rw [show decide (y ≥ x) = true by simp; omega,cond_true]; simp [hy]
 · intro n _ hd
   simp only [d_impl_unitsRight_L1.eq_2]
   unfold d_impl_unitsRight_L1_B
   rw [hd,cond_false]
   simp [incP]
theorem zip_ix {α β:Type} {a:List α} {b:List β} {i:Int} {p:α × β} (h:ix (a.zip b) i = some p):ix a i = some p.1 ∧ ix b i = some p.2:=by
 obtain ⟨h0,_,h1⟩:=ix_some h
 have:=List.getElem?_zip_eq_some.1 h1
 unfold ix
 rw [if_pos h0,if_pos h0]
 exact this
theorem i_pok {fu:Nat} {x:Plan} (h:Sp x) (hf:1048577 ≤ fu):d_impl_PlanOk fu x = some (pokB x):=by
 have hs:=h.spots
 have hc:=h.cars
 unfold d_impl_PlanOk pokB
 cases he:x.fSpots.length == x.fCartons.length
 · have:((x.fSpots.length:Int) != (x.fCartons.length:Int)) = true:=by simp at he ⊢; omega
   rw [this]; rfl
 · have el:x.fSpots.length = x.fCartons.length:=by simpa using he
   have:((x.fSpots.length:Int) != (x.fCartons.length:Int)) = false:=by simp; omega
   rw [this,cond_false,Bool.true_and]
   by_cases h1:(x.fCartons.length:Int) ≤ 100
   · rw [show decide ((x.fCartons.length:Int) > 100) = false by simp; omega,cond_false,show decide ((x.fCartons.length:Int) ≤ 100) = true by simpa using h1,Bool.true_and]
     unfold d_impl_PlanOk_J2
     have hz:(x.fCartons.zip x.fSpots).length = x.fCartons.length:=by simp; omega
     have key:=lp (x.fCartons.zip x.fSpots) (fun n (_:Unit) i=>d_impl_PlanOk_L1 fu x n i) (fun l _=>some (l.all fun p=>cokB p.1 && sokB p.2)) (by omega) ?_ ?_ fu () (by omega)
     · exact key
     · intro n _ i p xs hx hd ih
       have ih:=ih ()
       obtain ⟨e1,e2⟩:=zip_ix hx
       have hu:=h.units p.1 (ix_mem e1)
       rw [hz] at hd
       simp only [d_impl_PlanOk_L1.eq_2]
       unfold d_impl_PlanOk_L1_B d_impl_PlanOk_J1
       simp only [hd,cond_true,e1,e2,ob_some,i_in,i_uri hu (show p.1.fUnits.length < fu by omega),i_place,ih,List.all_cons]
       unfold cokB sokB
       cases inb p.1.fType 0 999 <;> cases inb p.1.fGroup 0 3 <;> cases uriB p.1.fUnits <;> cases inb p.2.fPallet 0 2000 <;> cases inb p.2.fX 0 2000 <;> cases inb p.2.fY 0 2000 <;> cases inb p.2.fZ 0 2000 <;> rfl
     · intro n _ i hd
       rw [hz] at hd
       simp only [d_impl_PlanOk_L1.eq_2]
       unfold d_impl_PlanOk_L1_B
       simp [hd]
   · rw [show decide ((x.fCartons.length:Int) > 100) = true by simp; omega,cond_true,show decide ((x.fCartons.length:Int) ≤ 100) = false by simpa using h1,Bool.false_and]
def cs (x:Plan):List (Carton × Spot):=x.fCartons.zip x.fSpots
theorem chp_any (r:Request) (us:List Int):∀ (l:List Typ) (s:Typ × Bool),(l.foldl (chp r us) s).2 = (s.2 || l.any (hldB r us))
 | [],s=>by simp
 | t :: l,s=>by
  rw [List.foldl_cons,chp_any r us l,List.any_cons]
  unfold chp
  obtain ⟨b,f⟩:=s
  cases hldB r us t <;> cases f <;> simp
  cases (decide (t.fCost < b.fCost) || t.fCost == b.fCost && decide (t.fId < b.fId)) <;> simp
theorem chp_some {r:Request} {us:List Int} {t:Typ} (ht:t ∈ r.fTypes) (h:hldB r us t = true):(chpM r us).2 = true:=by
 unfold chpM
 rw [chp_any]
 simp only [Bool.false_or]
 exact List.any_eq_true.2 ⟨t,ht,h⟩
theorem sumI_perm {a b:List Int} (h:a.Perm b):sumI a = sumI b:=by
 induction h with
 | nil=>rfl
 | cons x _ ih=>simp [ih]
 | swap x y l=>simp; omega
 | trans _ _ h1 h2=>rw [h1,h2]
theorem its_perm {r:Request} {a b:List Int} (h:a.Perm b):(itsM r a).Perm (itsM r b):=h.filterMap _
theorem grm_perm {r:Request} {a b:List Int} (h:a.Perm b):grmM r a = grmM r b:=sumI_perm ((its_perm h).map _)
theorem nod_find {f:Typ → Int}:∀ (xs pre:List Typ) (t:Typ),nodB f pre xs = true → t ∈ xs → (∀ y ∈ pre,f y ≠ f t) ∧ xs.find? (fun y=>f y == f t) = some t
 | [],_,_,_,h=>by simp at h
 | x :: xs,pre,t,hn,h=>by
  simp only [nodB,Bool.and_eq_true,Bool.not_eq_true'] at hn
  have hx:=List.any_eq_false.1 hn.1
  rcases List.mem_cons.1 h with rfl | h
  · exact ⟨fun y hy e=>hx y hy (by simp [e]),by simp⟩
  · have ih:=nod_find xs (pre ++ [x]) t hn.2 h
    refine ⟨fun y hy=>ih.1 y (by simp [hy]),?_⟩
    have:=ih.1 x (by simp)
    have e:(f x == f t) = false:=by simpa using this
    rw [List.find?_cons,e]
    exact ih.2
theorem typ_find {r:Request} (hc:clsM r = 0) {t:Typ} (ht:t ∈ r.fTypes):typM r t.fId = some t:=by
 have h:=(clsM_zero hc).2.1
 unfold namB at h
 simp only [Bool.and_eq_true] at h
 exact (nod_find r.fTypes [] t h.1.1.1 ht).2
theorem chp_hold (r:Request) (us:List Int):∀ (l:List Typ) (s:Typ × Bool),(∀ t ∈ l,t ∈ r.fTypes) → (s.2 = true → s.1 ∈ r.fTypes ∧ hldB r us s.1 = true) → (l.foldl (chp r us) s).2 = true → (l.foldl (chp r us) s).1 ∈ r.fTypes ∧ hldB r us (l.foldl (chp r us) s).1 = true
 | [],s,_,h,h2=>h h2
 | t :: l,s,hl,h,h2=>by
  rw [List.foldl_cons] at h2 ⊢
  refine chp_hold r us l _ (fun x hx=>hl x (by simp [hx])) (fun h3=>?_) h2
  unfold chp at h3 ⊢
  cases hh:hldB r us t && (!s.2 || (decide (t.fCost < s.1.fCost) || (t.fCost == s.1.fCost && decide (t.fId < s.1.fId))))
  · rw [hh,cond_false] at h3
    rw [cond_false]
    exact h h3
  · rw [Bool.and_eq_true] at hh
    rw [cond_true]
    exact ⟨hl t (by simp),hh.1⟩
theorem mas_hold {r:Request} {us l:List Int} (h:Qc r (thrM r us) l):hldB r l (masM r) = true:=by
 obtain ⟨h1,h2,h3⟩:=h
 obtain ⟨u,hu⟩:=List.exists_mem_of_ne_nil _ h1
 have hc:=cls_in (thr_mem (h2 u hu))
 have hz:=clsM_zero hc
 unfold hldB
 rw [show (clsM r == 0) = true by simp [hc],Bool.true_and,h3,Bool.and_true,List.all_eq_true]
 intro v hv
 have hv':=thr_mem (h2 v hv)
 unfold uOk
 rw [itmZ_in hv',Bool.and_eq_true]
 exact ⟨rfl,hz.2.2.2.1 _ (itmZ_mem hv')⟩
theorem chp_pw {r:Request} {us l:List Int} (h:Qc r (thrM r us) l):clsM r = 0 ∧ (chpM r l).2 = true ∧ (chpM r l).1 ∈ r.fTypes ∧ hldB r l (chpM r l).1 = true ∧ typM r (chpM r l).1.fId = some (chpM r l).1:=by
 obtain ⟨u,hu⟩:=List.exists_mem_of_ne_nil _ h.1
 have hc:=cls_in (thr_mem (h.2.1 u hu))
 have h2:=chp_some (mas_typ hc).2.1 (mas_hold h)
 have h3:=chp_hold r l r.fTypes (zTyp,false) (fun _ h=>h) (by simp) h2
 exact ⟨hc,h2,h3.1,h3.2,typ_find hc h3.1⟩
theorem grm_pos {r:Request} {us l:List Int} (h:Qc r (thrM r us) l):1 ≤ grmM r l:=by
 obtain ⟨h1,h2,_⟩:=h
 match l,h1 with
 | u :: l,_ =>
  have hu:=thr_mem (h2 u (by simp))
  have hc:=cls_in hu
  have:=(bou_items (clsM_zero hc).1).1 _ (itmZ_mem hu)
  simp only [itmB,Bool.and_eq_true,inb_iff] at this
  have h3:=(grmM_bd r l).1
  rw [grm_cons]
  omega
theorem box_crt {r:Request} {us l:List Int} (h:Qc r (thrM r us) l) (k:Int):boxM r (crtM r k l) = ⟨(chpM r l).1.fW,(chpM r l).1.fD,(chpM r l).1.fH,(chpM r l).1.fTare + grmM r l⟩ ∧ bokB r.fPallet (boxM r (crtM r k l)) = true:=by
 obtain ⟨hc,_,ht,hh,hf⟩:=chp_pw h
 have hz:=clsM_zero hc
 have e:boxM r (crtM r k l) = ⟨(chpM r l).1.fW,(chpM r l).1.fD,(chpM r l).1.fH,(chpM r l).1.fTare + grmM r l⟩:=by
  unfold boxM crtM
  simp only [hf,show (clsM r == 0) = true by simp [hc],cond_true,grm_perm (srtI_perm l)]
 refine ⟨e,?_⟩
 have ht1:=bou_types hz.1 _ ht
 have ht2:=hz.2.2.2.2 _ ht
 simp only [typB,Bool.and_eq_true,inb_iff] at ht1
 simp only [tooB,Bool.or_eq_false_iff,decide_eq_false_iff_not] at ht2
 rw [w64_id (by omega) (by omega)] at ht2
 have hg:=grm_pos h
 unfold hldB at hh
 simp only [Bool.and_eq_true] at hh
 have hw:=hh.2.2
 unfold witB at hw
 simp only [Bool.and_eq_true,decide_eq_true_eq] at hw
 rw [e]
 simp only [bokB,Bool.and_eq_true,inb_iff]
 omega
def bxsK (r:Request) (k:Int):List Box:=((crtL r).filter fun c=>c.fGroup == k).map (boxM r)
def plS (r:Request) (s:List Spot × Int) (k:Int):List Spot × Int:=(s.1 ++ (spM r.fPallet (bxsK r k)).map (fun t=>⟨t.fPallet + s.2,t.fX,t.fY,t.fZ⟩),s.2 + palM (spM r.fPallet (bxsK r k)))
def plnM (r:Request):Plan × Bool:=bif clsM r == 0 then (⟨crtL r,((ints 0 (grpM r).length).foldl (plS r) ([],0)).1⟩,true) else (⟨[],[]⟩,false)
theorem crtF_filter (r:Request) (k:Int):∀ (ks:List Int),ks.Nodup → ((crtF r ks).filter fun c=>c.fGroup == k) = bif ks.contains k then crtK r k else []
 | [],_=>rfl
 | j :: ks,hn=>by
  obtain ⟨h1,h2⟩:=List.nodup_cons.1 hn
  have ih:=crtF_filter r k ks h2
  rw [crtF,List.filter_append,ih]
  have hj:∀ c ∈ crtK r j,c.fGroup = j:=by
   intro c hc
   unfold crtK at hc
   obtain ⟨l,_,rfl⟩:=List.mem_map.1 hc
   rfl
  by_cases e:k = j
  · subst e
    have e1:(crtK r k).filter (fun c=>c.fGroup == k) = crtK r k:=List.filter_eq_self.2 fun c hc=>by simp [hj c hc]
    have e2:ks.contains k = false:=by simpa using h1
    rw [e1,e2]
    simp
  · have e1:(crtK r j).filter (fun c=>c.fGroup == k) = []:=List.filter_eq_nil_iff.2 fun c hc=>by simp [hj c hc]; omega
    rw [e1]
    have e2:(j :: ks).contains k = ks.contains k:=by simp [e]
    rw [e2]; rfl
theorem bxs_eq {r:Request} {k:Int} (h:0 ≤ k ∧ k < (grpM r).length):bxsK r k = (crtK r k).map (boxM r):=by
 unfold bxsK crtL
 rw [crtF_filter r k _ (ints_nodup _ _)]
 rw [show (ints 0 (grpM r).length).contains k = true by rw [List.contains_iff_mem,ints_mem]; omega]
 rfl
theorem bxs_ok {r:Request} (hc:clsM r = 0) {k:Int} (h:0 ≤ k ∧ k < (grpM r).length):bosB r.fPallet (bxsK r k) = true:=by
 have hb:=(clsM_zero hc).1
 unfold bouB at hb
 simp only [Bool.and_eq_true] at hb
 unfold bosB
 rw [bxs_eq h,Bool.and_eq_true]
 refine ⟨hb.1.1.1.1.1.1.1.1.2,List.all_eq_true.2 fun b hb=>?_⟩
 unfold crtK at hb
 rw [List.map_map] at hb
 obtain ⟨l,hl,rfl⟩:=List.mem_map.1 hb
 exact (box_crt (pw_q l hl) k).2
theorem bxs_len (r:Request) (k:Int):(bxsK r k).length ≤ 48:=by
 have h1:=List.length_filter_le (fun c:Carton=>c.fGroup == k) (crtL r)
 have h2:=crtL_len r
 unfold bxsK
 rw [List.length_map]
 omega
theorem pl_len {r:Request} (hc:clsM r = 0):∀ (ks:List Int) (s:List Spot × Int),(∀ k ∈ ks,0 ≤ k ∧ k < (grpM r).length) → (ks.foldl (plS r) s).1.length = s.1.length + (crtF r ks).length
 | [],s,_=>by simp [crtF]
 | k :: ks,s,h=>by
  rw [List.foldl_cons,pl_len hc ks _ fun j hj=>h j (by simp [hj])]
  have hk:=h k (by simp)
  have h1:=spM_len (bxs_ok hc hk)
  rw [bxs_eq hk,List.length_map] at h1
  simp only [plS,crtF,List.length_append,List.length_map,bxs_eq hk,h1]
  omega
theorem pln_len (r:Request):(plnM r).1.fSpots.length = (plnM r).1.fCartons.length ∧ (plnM r).1.fCartons.length ≤ 48 ∧ ∀ c ∈ (plnM r).1.fCartons,c.fUnits.length ≤ 12:=by
 unfold plnM
 cases hc:clsM r == 0
 · exact ⟨rfl,by simp,by simp⟩
 · rw [cond_true]
   have:=pl_len (r:=r) (by simpa using hc) (ints 0 (grpM r).length) ([],0) fun k hk=>by have:=ints_mem.1 hk; omega
   exact ⟨by rw [this]; simp [crtL],crtL_len r,fun c hc=>crt_units hc⟩
theorem s_plan {fu:Nat} {r:Request} (h:Sm fu r):d_spec_PlanOf fu r = some (plnM r):=by
 have hfu:=h.fu
 have hg:=(grpM_ok r).1
 have hcl:=crtL_len r
 unfold d_spec_PlanOf plnM
 rw [s_cls h,ob_some]
 cases hc:clsM r == 0
 · rw [show (clsM r != 0) = true by simp only [bne,hc]; rfl]; rfl
 · have hz:clsM r = 0:=by simpa using hc
   rw [show (clsM r != 0) = false by simp [hz],cond_false,cond_true,s_crt h,ob_some,s_grp h,ob_some]
   have L3:=lpNI ((grpM r).length:Int) (fun n (s:List Spot × Int) k=>d_spec_PlanOf_L3 fu r (crtL r) (grpM r) n s.1 s.2 k) (fun ks s=>some ((⟨crtL r,(ks.foldl (plS r) s).1⟩:Plan),true)) (fun ks s=>(∀ k ∈ ks,0 ≤ k ∧ k < (grpM r).length) ∧ s.1.length + 48 * ks.length ≤ 1000 ∧ 0 ≤ s.2 ∧ s.2 + 1000000 * ks.length ≤ 10000000) (by omega) ?_ ?_ (grpM r).length fu ([],0) 0 (by omega) (by omega) (by omega) ⟨fun k hk=>by have:=ints_mem.1 hk; omega,by simp [ints_len]; omega,by simp,by simp [ints_len]; omega⟩
   · exact L3
   · intro n ⟨sp,base⟩ k ks k0 k1 hd hI ih
     obtain ⟨i1,i2,i3,i4⟩:(∀ j ∈ k :: ks,0 ≤ j ∧ j < (grpM r).length) ∧ sp.length + 48 * (k :: ks).length ≤ 1000 ∧ 0 ≤ base ∧ base + 1000000 * ((k :: ks).length:Int) ≤ 10000000:=hI
     simp only [List.length_cons] at i2 i4
     simp only [d_spec_PlanOf_L3.eq_2]
     unfold d_spec_PlanOf_L3_B
     rw [hd,cond_true]
     have L2:=lpI (crtL r) (fun m (bs:List Box) i=>d_spec_PlanOf_L2 fu (d_spec_PlanOf_L3 fu r (crtL r) (grpM r) n) r (crtL r) sp base k m bs i) (fun cs bs=>obind (d_spec_SpotsOf fu r.fPallet (bs ++ (cs.filter fun c=>c.fGroup == k).map (boxM r))) fun x=>d_spec_PlanOf_L1 fu (d_spec_PlanOf_L3 fu r (crtL r) (grpM r) n) base k x fu sp 0) (fun cs bs=>bs.length + cs.length ≤ 48 ∧ ∀ c ∈ cs,c.fUnits.length ≤ 12) (by omega) ?_ ?_ fu [] ⟨by simpa using hcl,fun c hc=>crt_units hc⟩ (by omega)
     · refine L2.trans ?_
       have hbl:=bxs_len r k
       rw [List.nil_append,show ((crtL r).filter fun c=>c.fGroup == k).map (boxM r) = bxsK r k from rfl,s_spots hfu _ _ (by omega),ob_some]
       have hsl:=spM_len (bxs_ok hz ⟨k0,k1⟩)
       have hpb:=palM_bd (spM r.fPallet (bxsK r k))
       have hps:∀ s ∈ spM r.fPallet (bxsK r k),s ∈ spM r.fPallet (bxsK r k):=fun _ h=>h
       have ih':=ih (plS r (sp,base) k) ⟨fun j hj=>i1 j (by simp [hj]),by simp [plS]; omega,by simp [plS]; omega,by simp [plS]; omega⟩
       rw [List.foldl_cons,← ih']
       have hS:=s_pals (fu:=fu) (l:=spM r.fPallet (bxsK r k)) (by omega) (by omega)
       have hwf:∀ s ∈ spM r.fPallet (bxsK r k),w64 (s.fPallet + base) = s.fPallet + base:=by
        intro s hs
        have:=sp_pal (p:=r.fPallet) (l:=bxsK r k) (by omega) s hs
        exact w64_id (by omega) (by omega)
       generalize hSP:spM r.fPallet (bxsK r k) = S at hsl hpb hS hwf ⊢
       have L1:=lpI S (fun m (o:List Spot) i=>d_spec_PlanOf_L1 fu (d_spec_PlanOf_L3 fu r (crtL r) (grpM r) n) base k S m o i) (fun xs o=>d_spec_PlanOf_L3 fu r (crtL r) (grpM r) n (o ++ xs.map (fun t=>⟨t.fPallet + base,t.fX,t.fY,t.fZ⟩)) (base + palM S) (w64 (k + 1))) (fun xs o=>o.length + xs.length ≤ 1000 ∧ ∀ s ∈ xs,w64 (s.fPallet + base) = s.fPallet + base) (by omega) ?_ ?_ fu sp ⟨by omega,hwf⟩ (by omega)
       · refine L1.trans ?_
         simp only [plS,hSP]
       · intro m o i x xs hx hd hI ih
         obtain ⟨j1,j2⟩:=hI
         simp only [List.length_cons] at j1
         simp only [d_spec_PlanOf_L1.eq_2]
         unfold d_spec_PlanOf_L1_B
         rw [hd,cond_true,hx,ob_some,j2 x (by simp),ap1 (by simp; omega),ob_some,ih _ ⟨by simp; omega,fun s hs=>j2 s (by simp [hs])⟩]
         simp
       · intro m o i hd hI
         simp only [d_spec_PlanOf_L1.eq_2]
         unfold d_spec_PlanOf_L1_B
         rw [hd,cond_false,hS,ob_some,w64_id (n:=base + _) (by omega) (by omega)]
         simp
     · intro m bs i c cs hx hd hI ih
       obtain ⟨j1,j2⟩:=hI
       simp only [List.length_cons] at j1
       have hcu:=j2 c (by simp)
       simp only [d_spec_PlanOf_L2.eq_2]
       unfold d_spec_PlanOf_L2_B d_spec_PlanOf_J1
       rw [hd,cond_true,hx,ob_some,ob_some,s_boxM h c (by omega),ob_some,ap1 (by simp; omega),ob_some,ih _ ⟨by simp; omega,fun c hc=>j2 c (by simp [hc])⟩,ih _ ⟨by omega,fun c hc=>j2 c (by simp [hc])⟩,List.filter_cons]
       cases c.fGroup == k <;> simp
     · intro m bs i hd _
       simp only [d_spec_PlanOf_L2.eq_2]
       unfold d_spec_PlanOf_L2_B
       rw [hd,cond_false]; simp
   · intro n ⟨sp,base⟩ k hd _
     simp only [d_spec_PlanOf_L3.eq_2]
     unfold d_spec_PlanOf_L3_B
     rw [hd,cond_false]; rfl
def itN (x:Item):Item:=⟨0,x.fW,x.fH,x.fD,x.fGram,x.fClass,x.fCount⟩
def shT (n:Int) (t:Typ):Typ:=⟨t.fId,t.fW,t.fH,t.fD,t.fTare,t.fGram,t.fCost + n⟩
structure Ren (n:Int) (r q:Request):Prop where
 way:q.fWay = r.fWay
 pal:q.fPallet = r.fPallet
 cl:q.fClasses = r.fClasses
 prs:q.fPairs = r.fPairs
 mas:q.fMaster = r.fMaster
 typ:q.fTypes = r.fTypes.map (shT n)
 itm:q.fItems.map itN = r.fItems.map itN
 z:clsM r = 0
 y:clsM q = 0
theorem ixmap {α β:Type} (f:α → β) (l:List α) (i:Int):ix (l.map f) i = (ix l i).map f:=by
 unfold ix
 split <;> simp
theorem rep_map (l:List Item):∀ (i:Int),repU i (l.map itN) = repU i l:=by
 induction l with
 | nil=>intro i; rfl
 | cons x l ih=>intro i; rw [List.map_cons,repU,repU,ih]; rfl
section
variable {n:Int} {r q:Request}
theorem ren_it (h:Ren n r q) (i:Int):(ix q.fItems i).map itN = (ix r.fItems i).map itN:=by rw [← ixmap,← ixmap,h.itm]
theorem ren_unt (h:Ren n r q):untM q = untM r:=by
 unfold untM
 rw [h.z,h.y]
 unfold l6M
 rw [← rep_map q.fItems,← rep_map r.fItems,h.itm]
theorem ren_itm (h:Ren n r q) (u:Int):(itmM q u).map itN = (itmM r u).map itN:=by
 unfold itmM
 rw [ren_unt h]
 cases ix (untM r) u with
 | none=>rfl
 | some i=>exact ren_it h i
theorem ren_its (h:Ren n r q) (us:List Int):(itsM q us).map itN = (itsM r us).map itN:=by
 unfold itsM
 rw [List.map_filterMap,List.map_filterMap]
 congr 1
 funext u
 exact ren_itm h u
theorem ren_vol (h:Ren n r q) (us:List Int):volM q us = volM r us:=by
 have e:∀ l:List Item,l.map volI = (l.map itN).map volI:=fun l=>by rw [List.map_map]; rfl
 unfold volM
 rw [e (itsM q us),e (itsM r us),ren_its h]
theorem ren_grm (h:Ren n r q) (us:List Int):grmM q us = grmM r us:=by
 have e:∀ l:List Item,l.map (·.fGram) = (l.map itN).map (·.fGram):=fun l=>by rw [List.map_map]; rfl
 unfold grmM
 rw [e (itsM q us),e (itsM r us),ren_its h]
theorem ren_wit (h:Ren n r q) (us:List Int) (t:Typ):witB q us (shT n t) = witB r us t:=by
 unfold witB
 rw [ren_vol h,ren_grm h]
 rfl
theorem ren_uok (h:Ren n r q) (t:Typ) (u:Int):uOk q (shT n t) u = uOk r t u:=by
 have e:=ren_itm h u
 have e1:(itmM q u).isSome = (itmM r u).isSome:=by
  have:=congrArg Option.isSome e
  simpa using this
 unfold uOk itmZ
 rw [e1]
 cases h1:itmM q u <;> cases h2:itmM r u
 · rfl
 · rw [h1,h2] at e; simp at e
 · rw [h1,h2] at e; simp at e
 · rename_i x y
   rw [h1,h2] at e
   have e2:itN x = itN y:=Option.some.inj e
   have e3:∀ z:Item,fitB z (shT n t) = fitB (itN z) t:=fun _=>rfl
   have e4:fitB y t = fitB (itN y) t:=rfl
   simp only [Option.getD_some]
   rw [e3,e4,e2]
theorem ren_hld (h:Ren n r q) (us:List Int) (t:Typ):hldB q us (shT n t) = hldB r us t:=by
 have e:uOk q (shT n t) = uOk r t:=funext fun u=>ren_uok h t u
 unfold hldB
 rw [h.z,h.y,e,ren_wit h]
def shO (n:Int) (s:Typ × Bool):Typ × Bool:=if s.2 = true then (shT n s.1,true) else s
theorem ren_chp (h:Ren n r q) (us:List Int):chpM q us = shO n (chpM r us):=by
 have key:∀ (l:List Typ) (s:Typ × Bool),(l.map (shT n)).foldl (chp q us) (shO n s) = shO n (l.foldl (chp r us) s):=by
  intro l
  induction l with
  | nil=>intro s; rfl
  | cons t l ih =>
   intro s
   rw [List.map_cons,List.foldl_cons,List.foldl_cons,← ih]
   congr 1
   unfold chp
   rw [ren_hld h]
   cases hldB r us t
   · rfl
   · simp only [Bool.true_and]
     obtain ⟨s1,s2⟩:=s
     cases s2
     · rfl
     · show (bif (!true || (decide ((shT n t).fCost < (shT n s1).fCost) || ((shT n t).fCost == (shT n s1).fCost && decide (t.fId < s1.fId)))) then (shT n t,true) else (shT n s1,true)) = shO n (bif (!true || (decide (t.fCost < s1.fCost) || (t.fCost == s1.fCost && decide (t.fId < s1.fId)))) then (t,true) else (s1,true))
       have e1:decide ((shT n t).fCost < (shT n s1).fCost) = decide (t.fCost < s1.fCost):=by
        apply decide_eq_decide.2
        show t.fCost + n < s1.fCost + n ↔ _
        omega
       have e2:((shT n t).fCost == (shT n s1).fCost) = (t.fCost == s1.fCost):=by
        rw [Bool.eq_iff_iff,beq_iff_eq,beq_iff_eq]
        show t.fCost + n = s1.fCost + n ↔ _
        omega
       rw [e1,e2]
       cases (!true || (decide (t.fCost < s1.fCost) || (t.fCost == s1.fCost && decide (t.fId < s1.fId)))) <;> rfl
 unfold chpM
 rw [h.typ]
 exact key r.fTypes (zTyp,false)
theorem shO_id (s:Typ × Bool):(shO n s).1.fId = s.1.fId:=by
 unfold shO
 split <;> rfl
theorem ren_typ (h:Ren n r q) (id:Int):typM q id = (typM r id).map (shT n):=by
 unfold typM
 rw [h.typ,List.find?_map]
 rfl
theorem ren_mas (h:Ren n r q):masM q = shT n (masM r):=by
 have hn:=(clsM_zero h.z).2.1
 unfold namB at hn
 simp only [Bool.and_eq_true] at hn
 have hs:=hn.1.2
 unfold masM
 rw [h.mas,ren_typ h]
 cases ht:typM r r.fMaster with
 | none=>rw [ht] at hs; simp at hs
 | some t=>rfl
theorem ren_rom (h:Ren n r q) (u:Int) (l:List Int):romB q u l = romB r u l:=by
 unfold romB
 rw [ren_mas h,ren_wit h]
theorem ren_grp (h:Ren n r q):grpM q = grpM r:=by
 have e:∀ (l:List Item) (c:Int),(l.any fun x=>x.fClass == c) = (l.map itN).any fun x=>x.fClass == c:=fun l c=>by rw [List.any_map]; rfl
 unfold grpM prsM
 rw [h.z,h.y,h.prs]
 simp only [e q.fItems,e r.fItems,h.itm]
theorem ren_ofG (h:Ren n r q) (g:List Int):∀ (us:List Int) (u:Int),ofG q g u us = ofG r g u us
 | [],_=>rfl
 | i :: us,u=>by
  unfold ofG
  rw [ren_ofG h g us]
  have:=ren_it h i
  cases h1:ix q.fItems i <;> cases h2:ix r.fItems i
  · rfl
  · rw [h1,h2] at this; simp at this
  · rw [h1,h2] at this; simp at this
  · rename_i x y
    rw [h1,h2] at this
    have e2:(itN x).fClass = (itN y).fClass:=congrArg Item.fClass (Option.some.inj this)
    have e3:x.fClass = y.fClass:=e2
    simp only [e3]
theorem ren_uof (h:Ren n r q) (k:Int):uofM q k = uofM r k:=by
 unfold uofM
 rw [ren_grp h,ren_unt h]
 cases ix (grpM r) k with
 | none=>rfl
 | some g=>exact ren_ofG h g _ _
theorem ren_pw (h:Ren n r q) (us:List Int):pwM q us = pwM r us:=by
 have et:thrM q us = thrM r us:=by unfold thrM; rw [ren_unt h]
 have er:∀ u,romB q u = romB r u:=fun u=>funext fun l=>ren_rom h u l
 have en:nxtF q = nxtF r:=by funext o u; unfold nxtF; rw [er]
 have ef:fitF q = fitF r:=by funext o u; unfold fitF; rw [er]
 have eo:∀ l,ordM q l = ordM r l:=fun l=>by unfold ordM; simp only [ren_vol h]
 unfold pwM nfM ffM
 rw [h.way,et,en,ef,eo]
theorem ren_crt (h:Ren n r q):crtL q = crtL r:=by
 have e1:∀ k l,crtM q k l = crtM r k l:=fun k l=>by unfold crtM; rw [ren_chp h,shO_id]
 have e2:∀ k,crtK q k = crtK r k:=fun k=>by
  unfold crtK
  rw [ren_uof h,ren_pw h]
  exact List.map_congr_left fun l _=>e1 k l
 have e3:∀ ks,crtF q ks = crtF r ks:=by
  intro ks
  induction ks with
  | nil=>rfl
  | cons k ks ih=>rw [crtF,crtF,ih,e2]
 unfold crtL
 rw [ren_grp h,e3]
theorem ren_box (h:Ren n r q) (c:Carton):boxM q c = boxM r c:=by
 unfold boxM
 rw [ren_typ h,h.z,h.y,ren_grm h]
 cases typM r c.fType <;> rfl
theorem ren_pln (h:Ren n r q):plnM q = plnM r:=by
 have eb:boxM q = boxM r:=funext fun c=>ren_box h c
 have e1:∀ k,bxsK q k = bxsK r k:=fun k=>by unfold bxsK; rw [ren_crt h,eb]
 have e2:plS q = plS r:=by funext s k; unfold plS; rw [e1,h.pal]
 unfold plnM
 rw [h.z,h.y,ren_crt h,ren_grp h,e2]
end
def Tot {α:Type} (o:Option α) (Q:α → Prop):Prop:=∃ x,o = some x ∧ Q x
theorem Tot.mk {α:Type} {x:α} {Q:α → Prop} (h:Q x):Tot (some x) Q:=⟨x,rfl,h⟩
theorem Tot.of {α:Type} {o:Option α} {x:α} {Q:α → Prop} (e:o = some x) (h:Q x):Tot o Q:=⟨x,e,h⟩
theorem Tot.bind {α β:Type} {m:Option α} {k:α → Option β} {R:α → Prop} {Q:β → Prop} (h:Tot m R) (hk:∀ x,R x → Tot (k x) Q):Tot (obind m k) Q:=by
 obtain ⟨x,rfl,hx⟩:=h
 exact hk x hx
theorem Tot.bif {α:Type} {c:Bool} {a b:Option α} {Q:α → Prop} (h1:c = true → Tot a Q) (h2:c = false → Tot b Q):Tot (bif c then a else b) Q:=by
 cases c
 · exact h2 rfl
 · exact h1 rfl
theorem Tot.imp {α:Type} {o:Option α} {Q R:α → Prop} (h:Tot o Q) (hi:∀ x,Q x → R x):Tot o R:=by
 obtain ⟨x,e,hx⟩:=h
 exact ⟨x,e,hi x hx⟩
theorem Tot.ap {α β:Type} {bytes:Nat} {xs ys:List α} {k:List α → Option β} {Q:β → Prop} (h:(xs.length + ys.length) * bytes ≤ 140737488355328) (hk:Tot (k (xs ++ ys)) Q):Tot (obind (apnd bytes xs ys) k) Q:=by
 rw [ap1 h]; exact hk
theorem Tot.ix {α β:Type} {l:List α} {i:Int} {k:α → Option β} {Q:β → Prop} (h:0 ≤ i ∧ i < l.length) (hk:∀ x,x ∈ l → Tot (k x) Q):Tot (obind (ix l i) k) Q:=by
 have e:=ix_i (l:=l) (i:=i.toNat) (by omega)
 rw [show ((i.toNat:Nat):Int) = i by omega] at e
 rw [e]
 exact hk _ (List.getElem_mem _)
theorem lpT {σ β:Type} (b:Int) (L:Nat → σ → Int → Option β) (Q:β → Prop) (I:Int → σ → Prop) (hb:b ≤ 1099511627776)
    (hs:∀ n s (i:Int),0 ≤ i → i < b → I i s → (∀ s',I (i + 1) s' → Tot (L n s' (w64 (i + 1))) Q) → Tot (L (n + 1) s i) Q)
    (he:∀ n s (i:Int),0 ≤ i → b ≤ i → I i s → Tot (L (n + 1) s i) Q):∀ (m:Nat) n s (a:Int),0 ≤ a → (b - a).toNat = m → m < n → I a s → Tot (L n s a) Q:=by
 intro m
 induction m with
 | zero =>
  intro n s a ha hm hn hI
  obtain ⟨n,rfl⟩:∃ k,n = k + 1:=⟨n - 1,by omega⟩
  exact he n s a ha (by omega) hI
 | succ m ih =>
  intro n s a ha hm hn hI
  obtain ⟨n,rfl⟩:∃ k,n = k + 1:=⟨n - 1,by omega⟩
  refine hs n s a ha (by omega) hI fun s' hI'=>?_
  rw [w64_id (by omega) (by omega)]
  exact ih n s' (a + 1) (by omega) (by omega) (by omega) hI'
def CO (b:List U8) (c:Cur):Prop:=c.fb = b ∧ 0 ≤ c.fi ∧ b.length ≤ 1048576
theorem CO.re {b:List U8} {c c':Cur} (h:CO b c) (h':CO b c'):CO b ⟨c.fb,c'.fi,c'.fh⟩:=⟨h.1,h'.2⟩
theorem CO.re' {b:List U8} {c':Cur} (h':CO b c'):CO b ⟨b,c'.fi,c'.fh⟩:=⟨rfl,h'.2⟩
theorem and255 (x:Int):0 ≤ IntKind.wrap .i64 (((BitVec.ofInt (IntKind.bits .i64) x &&& BitVec.ofInt (IntKind.bits .i64) 255).toNat:Nat):Int) ∧ IntKind.wrap .i64 (((BitVec.ofInt (IntKind.bits .i64) x &&& BitVec.ofInt (IntKind.bits .i64) 255).toNat:Nat):Int) ≤ 255:=by
 have h:(BitVec.ofInt (IntKind.bits .i64) x &&& BitVec.ofInt (IntKind.bits .i64) 255).toNat ≤ 255:=by
  rw [BitVec.toNat_and]
  have h2:(BitVec.ofInt (IntKind.bits .i64) 255).toNat = 255:=by decide
  rw [h2]
  exact Nat.and_le_right
 have e:=w64_id (n:=(((BitVec.ofInt (IntKind.bits .i64) x &&& BitVec.ofInt (IntKind.bits .i64) 255).toNat:Nat):Int)) (by omega) (by omega)
 unfold w64 at e
 rw [e]
 omega
theorem dr_byte {fu:Nat} {b:List U8} {c:Cur} (h:CO b c):Tot (d_spec_l1Byte fu c) fun x=>(0 ≤ x.1 ∧ x.1 ≤ 255) ∧ CO b x.2:=by
 obtain ⟨h1,h2,h3⟩:=h
 unfold d_spec_l1Byte
 refine Tot.bif (fun hc=>?_) fun hc=>?_
 · have hlt:=of_decide_eq_true hc
   refine Tot.ix ⟨h2,hlt⟩ fun x _=>Tot.mk ⟨and255 _,h1,?_,h3⟩
   show 0 ≤ w64 (c.fi + 1)
   rw [h1] at hlt
   rw [w64_id (by omega) (by omega)]; omega
 · exact Tot.mk ⟨and255 _,h1,h2,h3⟩
theorem dr_below {fu:Nat} {b:List U8} {c:Cur} (h:CO b c) (n:Int):Tot (d_spec_l1Below fu c n) fun x=>(0 ≤ x.1 ∧ (0 < n → x.1 < n)) ∧ CO b x.2:=by
 unfold d_spec_l1Below
 refine Tot.bif (fun hc=>?_) fun hc=>?_
 · have hlt:=of_decide_eq_true hc
   exact Tot.mk ⟨⟨Int.le_refl _,fun h=>by omega⟩,h⟩
 · have hn:0 < n:=by simpa using hc
   refine Tot.bif (fun hc=>?_) fun hc=>?_
   · refine Tot.bind (dr_byte h) fun x hx=>?_
     rw [odiv_ok (by omega),ob_some]
     exact Tot.mk ⟨⟨Int.tmod_nonneg _ hx.1.1,fun _=>Int.tmod_lt_of_pos _ hn⟩,h.re hx.2⟩
   · refine Tot.bind (dr_byte h) fun x hx=>Tot.bind (dr_byte (h.re hx.2)) fun y hy=>Tot.bind (dr_byte (h.re hy.2)) fun z hz=>Tot.bind (dr_byte (h.re hz.2)) fun q hq=>?_
     rw [odiv_ok (by omega),ob_some]
     obtain ⟨⟨x0,x1⟩,_⟩:=hx
     obtain ⟨⟨y0,y1⟩,_⟩:=hy
     obtain ⟨⟨z0,z1⟩,_⟩:=hz
     obtain ⟨⟨q0,q1⟩,hq2⟩:=hq
     refine Tot.mk ⟨⟨?_,fun _=>Int.tmod_lt_of_pos _ hn⟩,h.re hq2⟩
     apply Int.tmod_nonneg
     simp only [w64_id (n:=x.1 * 16777216) (by omega) (by omega),w64_id (n:=y.1 * 65536) (by omega) (by omega),w64_id (n:=z.1 * 256) (by omega) (by omega)]
     rw [w64_id (n:=x.1 * 16777216 + y.1 * 65536) (by omega) (by omega),w64_id (n:=x.1 * 16777216 + y.1 * 65536 + z.1 * 256) (by omega) (by omega),w64_id (by omega) (by omega)]
     omega
theorem dr_once {fu:Nat} {b:List U8} {c:Cur} (h:CO b c) (n:Int):Tot (d_spec_l1Once fu c n) fun x=>CO b x.2:=by
 unfold d_spec_l1Once
 exact Tot.bind (dr_below h n) fun x hx=>Tot.mk (h.re hx.2)
theorem dr_pick {fu:Nat} {b:List U8} {c:Cur} (h:CO b c) (l:List Int) (hl:0 < l.length):Tot (d_spec_l1PickInt fu c l) fun x=>x.1 ∈ l ∧ CO b x.2:=by
 unfold d_spec_l1PickInt
 exact Tot.bind (dr_below h _) fun x hx=>Tot.ix ⟨hx.1.1,hx.1.2 (by omega)⟩ fun y hy=>Tot.mk ⟨hy,h.re hx.2⟩
theorem dr_new {fu:Nat} {b:List U8} (hb:b.length ≤ 1048576) (hf:1048577 ≤ fu):Tot (d_spec_l1New fu b) (CO b):=by
 unfold d_spec_l1New
 refine lpT (b.length:Int) (fun n s i=>d_spec_l1New_L1 fu b n s i) (CO b) (fun _ _=>True) (by omega) ?_ ?_ b.length fu _ 0 (by omega) (by omega) (by omega) trivial
 · intro n s i h0 h1 _ ih
   simp only [d_spec_l1New_L1.eq_2]
   unfold d_spec_l1New_L1_B d_spec_l1New_J1
   rw [bif_true (by simpa using h1)]
   refine Tot.bif (fun hc=>?_) fun hc=>?_
   · exact Tot.ix ⟨h0,h1⟩ fun x _=>ih _ trivial
   · exact Tot.mk ⟨rfl,by simp,hb⟩
 · intro n s i h0 h1 _
   simp only [d_spec_l1New_L1.eq_2]
   unfold d_spec_l1New_L1_B
   rw [bif_false (by simp; omega)]
   exact Tot.mk ⟨rfl,by simp,hb⟩
def SmR (r:Request):Prop:=r.fPairs.length ≤ 64 ∧ r.fTypes.length ≤ 64 ∧ r.fItems.length ≤ 64
theorem SmR.sm {r:Request} (h:SmR r) {fu:Nat} (hf:2097153 ≤ fu):Sm fu r:=⟨hf,by have:=h.1; omega,by have:=h.2.1; omega,by have:=h.2.2; omega⟩
theorem setx_lenD {α:Type} (l:List α) (i:Int) (y:α):(setx l i y).length = l.length:=by simp [setx]
theorem sls_from1 {α:Type} {l:List α} (h:0 < l.length):sls l 1 (l.length:Int) = some (l.drop 1):=by
 rw [sls_some (by omega)]
 congr 1
 exact List.take_of_length_le (by simp)
theorem s_big (fu:Nat) (b:List U8):d_laws_big fu b = some (decide ((b.length:Int) > 1048576)):=rfl
end Go.Proofs.YthkaklkinepfkaaGreatDoor
