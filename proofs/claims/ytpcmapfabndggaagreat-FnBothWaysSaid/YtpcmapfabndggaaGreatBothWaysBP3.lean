import Derived.Test.YtpcmapfabndggaaGreatBothWaysBP2
set_option linter.unusedSimpArgs false
set_option linter.unusedVariables false
/- Check, by impl. -/
namespace Go.Proofs.YtpcmapfabndggaaGreat
open Go
open Enc (rd ow)
open Arg (argv)
open Ret (retv)
open Wf (wf)
theorem typ_mem {r:Request} {id:Int} {t:Typ} (h:typM r id = some t):t ∈ r.fTypes:=List.mem_of_find?_eq_some h
theorem chp_any (r:Request) (us:List Int):∀ (l:List Typ) (s:Typ × Bool),(l.foldl (chp r us) s).2 = (s.2 || l.any (hldB r us))
 | [],s=>by simp
 | t :: l,s=>by
  rw [List.foldl_cons,chp_any r us l,List.any_cons]
  unfold chp
  obtain ⟨b,f⟩:=s
  cases hldB r us t <;> cases f <;> simp
  cases (decide (t.fCost < b.fCost) || t.fCost == b.fCost && decide (t.fId < b.fId)) <;> simp
theorem chp_some {r:Request} {us:List Int} {t:Typ} (ht:t ∈ r.fTypes) (h:hldB r us t = true):(chpM r us).2 = true:=by
 unfold chpM
 rw [chp_any]
 simp only [Bool.false_or]
 exact List.any_eq_true.2 ⟨t,ht,h⟩
theorem ch_in {r:Request} {c:Carton} (h:chB r c = true):∀ u ∈ c.fUnits,0 ≤ u ∧ u < (untM r).length:=by
 unfold chB at h
 intro u hu
 split at h
 · simp only [hldB,Bool.and_eq_true] at h
   have:=List.all_eq_true.1 h.2.1 u hu
   simp only [uOk,Bool.and_eq_true] at this
   exact itm_isSome.1 this.1
 · cases h
theorem grp_named {r:Request} {u:Int} (hu:0 ≤ u ∧ u < (untM r).length) {g:Int} (hg:0 ≤ g) :
    (gofM (grpM r) (itmZ r u).fClass == g) = (match ix (grpM r) g with | some l=>l.contains (itmZ r u).fClass | none=>false):=by
 have hi:=itmZ_in hu
 obtain ⟨i,l,h1,h2,h3⟩:=gof_prs (itm_prs hi)
 rw [h3]
 apply Bool.eq_iff_iff.2
 constructor
 · intro h
   have e:(i:Int) = g:=by simpa using h
   rw [← e,ix_at h1]
   simpa using h2
 · intro h
   cases hx:ix (grpM r) g with
   | none=>rw [hx] at h; cases h
   | some m =>
    rw [hx] at h
    obtain ⟨g0,g1,g2⟩:=ix_some hx
    have:=grp_apart h1 g2 h2 (by simpa using h)
    simp; omega
theorem i_fault {fu:Nat} {r:Request} (h:Sm fu r) {x:Plan} (hx:Sp x) (hg:∀ c ∈ x.fCartons,0 ≤ c.fGroup):d_impl_cartonFault fu r x =
    some (bif !(x.fCartons.all (chB r)) then 4 else bif !(x.fCartons.all (cgB r)) then 5 else bif !(x.fCartons.all (ccB r)) then 6 else 0):=by
 have hfu:=h.fu
 have hc:=hx.cars
 unfold d_impl_cartonFault
 have key:=lpI x.fCartons (fun n (_:Unit) i=>d_impl_cartonFault_L3 fu r x n i) (fun l _=>some (bif !(l.all (chB r)) then 4 else bif !(x.fCartons.all (cgB r)) then 5 else bif !(x.fCartons.all (ccB r)) then 6 else 0))
  (fun l _=>l.all (chB r) = true → x.fCartons.all (chB r) = true) (by omega) ?_ ?_ fu () (fun h=>h) (by omega)
 · exact key
 · intro n _ i c xs e hd hI ih
   have hu:=hx.units c (ix_mem e)
   simp only [d_impl_cartonFault_L3.eq_2]
   unfold d_impl_cartonFault_L3_B d_impl_cartonFault_J1
   rw [hd,cond_true,e,ob_some,i_typById h,ob_some,List.all_cons]
   rw [List.all_cons] at hI
   cases ht:typM r c.fType with
   | none=>rw [show chB r c = false by unfold chB; rw [ht]]; rfl
   | some t =>
    simp only [othM,Bool.not_true,cond_false]
    rw [i_holds h _ t hu,ob_some]
    have e1:chB r c = hldB r c.fUnits t:=by unfold chB; rw [ht]
    rw [e1] at hI ⊢
    cases hh:hldB r c.fUnits t
    · rfl
    · rw [hh,Bool.true_and] at hI
      rw [Bool.not_true,cond_false,ih () hI,Bool.true_and]
 · intro n _ i hd hI
   have hA:=hI rfl
   simp only [d_impl_cartonFault_L3.eq_2]
   unfold d_impl_cartonFault_L3_B
   rw [hd,cond_false,i_grp h,ob_some]
   show _ = some (bif !(x.fCartons.all (cgB r)) then 5 else bif !(x.fCartons.all (ccB r)) then 6 else 0)
   have key2:=lp x.fCartons (fun n (_:Unit) i=>d_impl_cartonFault_L2 fu r x (grpM r) n i) (fun l _=>some (bif !(l.all (cgB r)) then 5 else bif !(x.fCartons.all (ccB r)) then 6 else 0)) (by omega) ?_ ?_ fu () (by omega)
   · exact key2
   · intro n _ i c xs e hd ih
     have ih:=ih ()
     have hu:=hx.units c (ix_mem e)
     have hin:=ch_in (List.all_eq_true.1 hA c (ix_mem e))
     have hil:=itsM_len r c.fUnits
     simp only [d_impl_cartonFault_L2.eq_2]
     unfold d_impl_cartonFault_L2_B
     rw [hd,cond_true,e,ob_some,i_items h _ hu (by omega),ob_some,itsM_map hin]
     rw [i_anyItem _ (fun y=>!(match ix (grpM r) c.fGroup with | some l=>l.contains y.fClass | none=>false)) ?_ (by simp; omega) (by simp; omega),ob_some,List.any_map,List.all_cons]
     · have e1:cgB r c = !(c.fUnits.any ((fun y=>!(match ix (grpM r) c.fGroup with | some l=>l.contains y.fClass | none=>false)) ∘ itmZ r)):=by
         unfold cgB
         rw [List.not_any_eq_all_not]
         apply all_cong
         intro u hu'
         rw [grp_named (hin u hu') (hg c (ix_mem e))]
         simp only [Function.comp,Bool.not_not]
       rw [e1,ih]
       cases c.fUnits.any ((fun y=>!(match ix (grpM r) c.fGroup with | some l=>l.contains y.fClass | none=>false)) ∘ itmZ r) <;> simp
     · intro y _
       unfold d_impl_cartonFault_1
       have hg0:=hg c (ix_mem e)
       by_cases hgl:c.fGroup ≥ (grpM r).length
       · have e0:ix (grpM r) c.fGroup = none:=by
           cases hq:ix (grpM r) c.fGroup with
           | none=>rfl
           | some l=>have:=(ix_some hq).2.1; omega
         rw [e0,decide_eq_true hgl,cond_true]; rfl
       · have hlt:c.fGroup.toNat < (grpM r).length:=by omega
         have e0:ix (grpM r) c.fGroup = some (grpM r)[c.fGroup.toNat]:=by
          have:=ix_i hlt
          rwa [show ((c.fGroup.toNat:Nat):Int) = c.fGroup by omega] at this
         have hgl':=(grpM_ok r).2 _ (List.getElem_mem hlt)
         rw [e0,decide_eq_false hgl,cond_false,ob_some,i_has (by omega) (by omega),ob_some]
   · intro n _ i hd
     simp only [d_impl_cartonFault_L2.eq_2]
     unfold d_impl_cartonFault_L2_B
     rw [hd,cond_false]
     show _ = some (bif !(x.fCartons.all (ccB r)) then 6 else 0)
     have key3:=lpI x.fCartons (fun n (_:Unit) i=>d_impl_cartonFault_L1 fu r x n i) (fun l _=>some (bif !(l.all (ccB r)) then 6 else 0)) (fun l _=>l.all (chB r) = true) (by omega) ?_ ?_ fu () hA (by omega)
     · exact key3
     · intro n _ i c xs e hd hI ih
       have hu:=hx.units c (ix_mem e)
       rw [List.all_cons,Bool.and_eq_true] at hI
       have hch:=hI.1
       have h2:(chpM r c.fUnits).2 = true:=by
        unfold chB at hch
        split at hch
        · rename_i t ht
          exact chp_some (typ_mem ht) hch
        · cases hch
       simp only [d_impl_cartonFault_L1.eq_2]
       unfold d_impl_cartonFault_L1_B
       rw [hd,cond_true,e,ob_some,i_cheap h _ hu,ob_some,ih () hI.2,List.all_cons,ccB,h2,Bool.true_and]
       simp only [bne]
       cases (chpM r c.fUnits).1.fId == c.fType <;> rfl
     · intro n _ i hd _
       simp only [d_impl_cartonFault_L1.eq_2]
       unfold d_impl_cartonFault_L1_B
       rw [hd,cond_false]; rfl
theorem i_spots {fu:Nat} {r:Request} (h:Sm fu r) {x:Plan} (hx:Sp x) (el:x.fSpots.length = x.fCartons.length):d_impl_spotFault fu r x =
    some (bif !((cs x).all (insP r)) then 7 else bif !(aprL r [] (cs x)) then 8 else bif !((ints 0 (palM x.fSpots).toNat).all (plB r x)) then 9 else 0):=by
 have hfu:=h.fu
 have hc:=hx.cars
 have hs:=hx.spots
 have hz:=cs_len el
 have hb:=palM_bd x.fSpots
 have bx_len:(((cs x).map fun p=>boxM r p.1).length:Int) = x.fCartons.length:=by simp [hz]
 unfold d_impl_spotFault
 have key:=lpPI (cs x) (fun n (o:List Box) i=>d_impl_spotFault_L4 fu r x n o i) (fun _ l _=>some (bif !(l.all (insP r)) then 7 else bif !(aprL r [] (cs x)) then 8 else bif !((ints 0 (palM x.fSpots).toNat).all (plB r x)) then 9 else 0))
  (fun pre l o=>o = pre.map fun p=>boxM r p.1) (by omega) ?_ ?_ fu [] rfl (by omega)
 · exact key
 · intro n o pre p xs e0 e hd hI ih
   obtain ⟨e1,e2⟩:=zip_ix e
   have hu:=hx.units p.1 (ix_mem e1)
   have hpl:pre.length ≤ (cs x).length:=by rw [e0]; simp
   rw [hz] at hd
   simp only [d_impl_spotFault_L4.eq_2]
   unfold d_impl_spotFault_L4_B
   rw [hd,cond_true,e1,ob_some,i_boxM h _ hu,ob_some,e2,ob_some,i_win,ob_some,List.all_cons,insP]
   cases winB r.fPallet (boxM r p.1) p.2
   · rfl
   · subst hI
     rw [Bool.not_true,cond_false,ap1 (by simp; omega),ob_some,ih _ (by simp),Bool.true_and]
 · intro n o hd hI
   rw [hz] at hd ⊢
   simp only [d_impl_spotFault_L4.eq_2]
   unfold d_impl_spotFault_L4_B
   rw [hd,cond_false]
   show _ = some (bif !(aprL r [] (cs x)) then 8 else bif !((ints 0 (palM x.fSpots).toNat).all (plB r x)) then 9 else 0)
   subst hI
   have key2:=lpP (cs x) (fun n (_:Unit) i=>d_impl_spotFault_L3 fu r x ((cs x).map fun p=>boxM r p.1) n i) (fun pre l _=>some (bif !(aprL r pre l) then 8 else bif !((ints 0 (palM x.fSpots).toNat).all (plB r x)) then 9 else 0)) (by omega) ?_ ?_ fu () (by omega)
   · exact key2
   · intro n _ pre p xs e0 e hd ih
     have ih:=ih ()
     obtain ⟨e1,e2⟩:=zip_ix e
     have hu:=hx.units p.1 (ix_mem e1)
     have hpl:pre.length ≤ (cs x).length:=by rw [e0]; simp
     have b1:ix ((cs x).map fun p=>boxM r p.1) (pre.length:Int) = some (boxM r p.1):=by
      rw [ix_nat,List.getElem?_map]
      rw [ix_nat] at e
      rw [e]; rfl
     simp only [d_impl_spotFault_L3.eq_2]
     unfold d_impl_spotFault_L3_B
     rw [bx_len,← hz,hd,cond_true]
     have key3:=lp pre (fun m (_:Unit) j=>d_impl_spotFault_L1 fu (d_impl_spotFault_L3 fu r x ((cs x).map fun p=>boxM r p.1) n) x ((cs x).map fun p=>boxM r p.1) (pre.length:Int) m j) (fun l _=>some (bif !(l.all (fun q=>!ovP r p q) && aprL r (pre ++ [p]) xs) then 8 else bif !((ints 0 (palM x.fSpots).toNat).all (plB r x)) then 9 else 0)) (by omega) ?_ ?_ fu () (by omega)
     · rw [key3]; rfl
     · intro m _ j q qs f hd2 ih2
       have ih2:=ih2 ()
       have f':ix (cs x) j = some q:=by rw [e0]; exact ix_app f
       obtain ⟨f1,f2⟩:=zip_ix f'
       obtain ⟨j0,j1,j2⟩:=ix_some f'
       have b2:ix ((cs x).map fun p=>boxM r p.1) j = some (boxM r q.1):=by
        unfold ix
        rw [if_pos j0,List.getElem?_map,j2]; rfl
       simp only [d_impl_spotFault_L1.eq_2]
       unfold d_impl_spotFault_L1_B
       simp only [hd2,cond_true,b1,e2,b2,f2,ob_some,i_ovl,ih2,List.all_cons,ovP]
       cases ovlB (boxM r p.1) p.2 (boxM r q.1) q.2 <;> rfl
     · intro m _ j hd2
       simp only [d_impl_spotFault_L1.eq_2]
       unfold d_impl_spotFault_L1_B
       rw [hd2,cond_false,ih]; rfl
   · intro n _ hd
     simp only [d_impl_spotFault_L3.eq_2]
     unfold d_impl_spotFault_L3_B
     rw [bx_len,← hz,hd,cond_false,i_pals hs (by omega),ob_some]
     show _ = some (bif !((ints 0 (palM x.fSpots).toNat).all (plB r x)) then 9 else 0)
     have key4:=lpN (palM x.fSpots) (fun n (_:Unit) i=>d_impl_spotFault_L2 fu r x (palM x.fSpots) n i) (fun l _=>some (bif !(l.all (plB r x)) then 9 else 0)) (by omega) ?_ ?_ (palM x.fSpots).toNat fu () 0 (by omega) (by omega) (by omega)
     · exact key4
     · intro n _ k xs h0 h1 hd ih
       have ih:=ih ()
       have hol:=onM_len x k
       simp only [d_impl_spotFault_L2.eq_2]
       unfold d_impl_spotFault_L2_B
       rw [hd,cond_true,i_on hs (by omega),ob_some,List.all_cons]
       generalize xs.all (plB r x) = A at ih ⊢
       unfold plB
       cases hne:((onM x k).length:Int) == 0
       · rw [cond_false,i_pg h hx,ob_some,Bool.not_false,Bool.true_and]
         cases decide (pgM r x k > r.fPallet.fGram)
         · obtain ⟨i0,c0,g1,g2,rest,g3⟩:=on_cars hne
           unfold d_impl_spotFault_J2 d_impl_spotFault_J1
           rw [cond_false,g1,Option.getD_some,Bool.not_false,Bool.true_and]
           have e0:carM x i0 = c0:=by unfold carM; rw [g2]; rfl
           rw [e0,i_anyInt _ (fun i=>!((carM x i).fGroup == c0.fGroup)) ?_ (by omega) (by omega),ob_some,ih]
           · rw [show (onM x k).all (fun i=>(carM x i).fGroup == c0.fGroup) = !((onM x k).any fun i=>!((carM x i).fGroup == c0.fGroup)) by rw [List.not_any_eq_all_not]; simp]
             cases (onM x k).any fun i=>!((carM x i).fGroup == c0.fGroup) <;> simp
           · intro i hi
             obtain ⟨c,_,hci,_⟩:=onM_mem hi
             unfold d_impl_spotFault_1
             rw [hci,ob_some,g1,ob_some,g2,ob_some,show carM x i = c by unfold carM; rw [hci]; rfl]
             rfl
         · rfl
       · rfl
     · intro n _ i hd
       simp only [d_impl_spotFault_L2.eq_2]
       unfold d_impl_spotFault_L2_B
       rw [hd,cond_false]; rfl
theorem pok_group {x:Plan} (h:pokB x = true):∀ c ∈ x.fCartons,0 ≤ c.fGroup ∧ c.fGroup ≤ 3:=by
 have el:=pok_len h
 unfold pokB at h
 simp only [Bool.and_eq_true] at h
 intro c hc
 obtain ⟨i,hi⟩:=List.mem_iff_getElem?.1 hc
 have hlt:=(List.getElem?_eq_some_iff.1 hi).1
 have hz:(c,x.fSpots[i]'(by omega)) ∈ x.fCartons.zip x.fSpots:=by
  apply List.mem_iff_getElem?.2
  refine ⟨i,List.getElem?_zip_eq_some.2 ⟨hi,List.getElem?_eq_getElem _⟩⟩
 have:=List.all_eq_true.1 h.2.2 _ hz
 simp only [cokB,Bool.and_eq_true,inb_iff] at this
 omega
theorem i_check {fu:Nat} {r:Request} (h:Sm fu r) {x:Plan} (hx:Sp x):d_impl_Check fu r x = some (chkM r x):=by
 have hfu:=h.fu
 have hc:=hx.cars
 have hfl:=flatU_len x.fCartons
 have ha:=hx.all
 have hul:=untM_len r
 unfold d_impl_Check chkM
 rw [i_sound h,ob_some]
 cases hz:clsM r == 0
 · rfl
 · rw [Bool.not_true,cond_false,i_pok hx (by omega),ob_some]
   cases hp:pokB x
   · rfl
   · have el:=pok_len hp
     rw [Bool.not_true,cond_false,i_anyCar (l:=x.fCartons) (fun y=>d_impl_Check_1 fu y) (fun c=>(c.fUnits.length:Int) == 0) (fun c _=>rfl) hc (by omega),ob_some]
     show (bif empB x then _ else _) = _
     cases empB x
     · rw [cond_false]
       unfold d_impl_Check_J1 d_slices_Sort_int_int
       rw [i_flat hx (by omega),ob_some,sortI_some (by omega),ob_some,i_unt h,ob_some,i_places _ (by omega) (by omega),ob_some,i_equal _ _ (by simp; omega) (by simp; omega),ob_some,i_fault h hx (fun c hc=>(pok_group hp c hc).1),ob_some,i_spots h hx el,ob_some]
       have e1:decide ((flatU x.fCartons).mergeSort (fun x y=>decide (x ≤ y)) = ints 0 (untM r).length) = onceB r x:=by
        unfold onceB perB
        rw [ints_sorted]
       rw [e1]
       cases onceB r x
       · rfl
       · cases x.fCartons.all (chB r)
         · rfl
         · cases x.fCartons.all (cgB r)
           · rfl
           · cases x.fCartons.all (ccB r) <;> rfl
     · rfl
end Go.Proofs.YtpcmapfabndggaaGreat
/- The plan of an order, by spec. -/
namespace Go.Proofs.YtpcmapfabndggaaGreat
open Go
open Enc (rd ow)
open Arg (argv)
open Ret (retv)
open Wf (wf)
theorem sumI_perm {a b:List Int} (h:a.Perm b):sumI a = sumI b:=by
 induction h with
 | nil=>rfl
 | cons x _ ih=>simp [ih]
 | swap x y l=>simp; omega
 | trans _ _ h1 h2=>rw [h1,h2]
theorem its_perm {r:Request} {a b:List Int} (h:a.Perm b):(itsM r a).Perm (itsM r b):=h.filterMap _
theorem vol_perm {r:Request} {a b:List Int} (h:a.Perm b):volM r a = volM r b:=sumI_perm ((its_perm h).map _)
theorem grm_perm {r:Request} {a b:List Int} (h:a.Perm b):grmM r a = grmM r b:=sumI_perm ((its_perm h).map _)
theorem wit_perm {r:Request} {a b:List Int} (h:a.Perm b) (t:Typ):witB r a t = witB r b t:=by unfold witB; rw [vol_perm h,grm_perm h]
theorem hld_perm {r:Request} {a b:List Int} (h:a.Perm b) (t:Typ):hldB r a t = hldB r b t:=by
 unfold hldB
 rw [wit_perm h]
 congr 2
 apply Bool.eq_iff_iff.2
 simp only [List.all_eq_true]
 exact ⟨fun k u hu=>k u (h.mem_iff.2 hu),fun k u hu=>k u (h.mem_iff.1 hu)⟩
theorem nod_find {f:Typ → Int}:∀ (xs pre:List Typ) (t:Typ),nodB f pre xs = true → t ∈ xs → (∀ y ∈ pre,f y ≠ f t) ∧ xs.find? (fun y=>f y == f t) = some t
 | [],_,_,_,h=>by simp at h
 | x :: xs,pre,t,hn,h=>by
  simp only [nodB,Bool.and_eq_true,Bool.not_eq_true'] at hn
  have hx:=List.any_eq_false.1 hn.1
  rcases List.mem_cons.1 h with rfl | h
  · exact ⟨fun y hy e=>hx y hy (by simp [e]),by simp⟩
  · have ih:=nod_find xs (pre ++ [x]) t hn.2 h
    refine ⟨fun y hy=>ih.1 y (by simp [hy]),?_⟩
    have:=ih.1 x (by simp)
    have e:(f x == f t) = false:=by simpa using this
    rw [List.find?_cons,e]
    exact ih.2
theorem typ_find {r:Request} (hc:clsM r = 0) {t:Typ} (ht:t ∈ r.fTypes):typM r t.fId = some t:=by
 have h:=(clsM_zero hc).2.1
 unfold namB at h
 simp only [Bool.and_eq_true] at h
 exact (nod_find r.fTypes [] t h.1.1.1 ht).2
theorem chp_hold (r:Request) (us:List Int):∀ (l:List Typ) (s:Typ × Bool),(∀ t ∈ l,t ∈ r.fTypes) → (s.2 = true → s.1 ∈ r.fTypes ∧ hldB r us s.1 = true) → (l.foldl (chp r us) s).2 = true → (l.foldl (chp r us) s).1 ∈ r.fTypes ∧ hldB r us (l.foldl (chp r us) s).1 = true
 | [],s,_,h,h2=>h h2
 | t :: l,s,hl,h,h2=>by
  rw [List.foldl_cons] at h2 ⊢
  refine chp_hold r us l _ (fun x hx=>hl x (by simp [hx])) (fun h3=>?_) h2
  unfold chp at h3 ⊢
  cases hh:hldB r us t && (!s.2 || (decide (t.fCost < s.1.fCost) || (t.fCost == s.1.fCost && decide (t.fId < s.1.fId))))
  · rw [hh,cond_false] at h3
    rw [cond_false]
    exact h h3
  · rw [Bool.and_eq_true] at hh
    rw [cond_true]
    exact ⟨hl t (by simp),hh.1⟩
theorem mas_hold {r:Request} {us l:List Int} (h:Qc r (thrM r us) l):hldB r l (masM r) = true:=by
 obtain ⟨h1,h2,h3⟩:=h
 obtain ⟨u,hu⟩:=List.exists_mem_of_ne_nil _ h1
 have hc:=cls_in (thr_mem (h2 u hu))
 have hz:=clsM_zero hc
 unfold hldB
 rw [show (clsM r == 0) = true by simp [hc],Bool.true_and,h3,Bool.and_true,List.all_eq_true]
 intro v hv
 have hv':=thr_mem (h2 v hv)
 unfold uOk
 rw [itmZ_in hv',Bool.and_eq_true]
 exact ⟨rfl,hz.2.2.2.1 _ (itmZ_mem hv')⟩
theorem chp_pw {r:Request} {us l:List Int} (h:Qc r (thrM r us) l):clsM r = 0 ∧ (chpM r l).2 = true ∧ (chpM r l).1 ∈ r.fTypes ∧ hldB r l (chpM r l).1 = true ∧ typM r (chpM r l).1.fId = some (chpM r l).1:=by
 obtain ⟨u,hu⟩:=List.exists_mem_of_ne_nil _ h.1
 have hc:=cls_in (thr_mem (h.2.1 u hu))
 have h2:=chp_some (mas_typ hc).2.1 (mas_hold h)
 have h3:=chp_hold r l r.fTypes (zTyp,false) (fun _ h=>h) (by simp) h2
 exact ⟨hc,h2,h3.1,h3.2,typ_find hc h3.1⟩
theorem grm_pos {r:Request} {us l:List Int} (h:Qc r (thrM r us) l):1 ≤ grmM r l:=by
 obtain ⟨h1,h2,_⟩:=h
 match l,h1 with
 | u :: l,_ =>
  have hu:=thr_mem (h2 u (by simp))
  have hc:=cls_in hu
  have:=(bou_items (clsM_zero hc).1).1 _ (itmZ_mem hu)
  simp only [itmB,Bool.and_eq_true,inb_iff] at this
  have h3:=(grmM_bd r l).1
  rw [grm_cons]
  omega
theorem box_crt {r:Request} {us l:List Int} (h:Qc r (thrM r us) l) (k:Int):boxM r (crtM r k l) = ⟨(chpM r l).1.fW,(chpM r l).1.fD,(chpM r l).1.fH,(chpM r l).1.fTare + grmM r l⟩ ∧ bokB r.fPallet (boxM r (crtM r k l)) = true:=by
 obtain ⟨hc,_,ht,hh,hf⟩:=chp_pw h
 have hz:=clsM_zero hc
 have e:boxM r (crtM r k l) = ⟨(chpM r l).1.fW,(chpM r l).1.fD,(chpM r l).1.fH,(chpM r l).1.fTare + grmM r l⟩:=by
  unfold boxM crtM
  simp only [hf,show (clsM r == 0) = true by simp [hc],cond_true,grm_perm (srtI_perm l)]
 refine ⟨e,?_⟩
 have ht1:=bou_types hz.1 _ ht
 have ht2:=hz.2.2.2.2 _ ht
 simp only [typB,Bool.and_eq_true,inb_iff] at ht1
 simp only [tooB,Bool.or_eq_false_iff,decide_eq_false_iff_not] at ht2
 rw [w64_id (by omega) (by omega)] at ht2
 have hg:=grm_pos h
 unfold hldB at hh
 simp only [Bool.and_eq_true] at hh
 have hw:=hh.2.2
 unfold witB at hw
 simp only [Bool.and_eq_true,decide_eq_true_eq] at hw
 rw [e]
 simp only [bokB,Bool.and_eq_true,inb_iff]
 omega
def bxsK (r:Request) (k:Int):List Box:=((crtL r).filter fun c=>c.fGroup == k).map (boxM r)
def plS (r:Request) (s:List Spot × Int) (k:Int):List Spot × Int:=(s.1 ++ (spM r.fPallet (bxsK r k)).map (fun t=>⟨t.fPallet + s.2,t.fX,t.fY,t.fZ⟩),s.2 + palM (spM r.fPallet (bxsK r k)))
def plnM (r:Request):Plan × Bool:=bif clsM r == 0 then (⟨crtL r,((ints 0 (grpM r).length).foldl (plS r) ([],0)).1⟩,true) else (⟨[],[]⟩,false)
theorem crtF_filter (r:Request) (k:Int):∀ (ks:List Int),ks.Nodup → ((crtF r ks).filter fun c=>c.fGroup == k) = bif ks.contains k then crtK r k else []
 | [],_=>rfl
 | j :: ks,hn=>by
  obtain ⟨h1,h2⟩:=List.nodup_cons.1 hn
  have ih:=crtF_filter r k ks h2
  rw [crtF,List.filter_append,ih]
  have hj:∀ c ∈ crtK r j,c.fGroup = j:=by
   intro c hc
   unfold crtK at hc
   obtain ⟨l,_,rfl⟩:=List.mem_map.1 hc
   rfl
  by_cases e:k = j
  · subst e
    have e1:(crtK r k).filter (fun c=>c.fGroup == k) = crtK r k:=List.filter_eq_self.2 fun c hc=>by simp [hj c hc]
    have e2:ks.contains k = false:=by simpa using h1
    rw [e1,e2]
    simp
  · have e1:(crtK r j).filter (fun c=>c.fGroup == k) = []:=List.filter_eq_nil_iff.2 fun c hc=>by simp [hj c hc]; omega
    rw [e1]
    have e2:(j :: ks).contains k = ks.contains k:=by simp [e]
    rw [e2]; rfl
theorem bxs_eq {r:Request} {k:Int} (h:0 ≤ k ∧ k < (grpM r).length):bxsK r k = (crtK r k).map (boxM r):=by
 unfold bxsK crtL
 rw [crtF_filter r k _ (ints_nodup _ _)]
 rw [show (ints 0 (grpM r).length).contains k = true by rw [List.contains_iff_mem,ints_mem]; omega]
 rfl
theorem bxs_ok {r:Request} (hc:clsM r = 0) {k:Int} (h:0 ≤ k ∧ k < (grpM r).length):bosB r.fPallet (bxsK r k) = true:=by
 have hb:=(clsM_zero hc).1
 unfold bouB at hb
 simp only [Bool.and_eq_true] at hb
 unfold bosB
 rw [bxs_eq h,Bool.and_eq_true]
 refine ⟨hb.1.1.1.1.1.1.1.1.2,List.all_eq_true.2 fun b hb=>?_⟩
 unfold crtK at hb
 rw [List.map_map] at hb
 obtain ⟨l,hl,rfl⟩:=List.mem_map.1 hb
 exact (box_crt (pw_q l hl) k).2
theorem bxs_len (r:Request) (k:Int):(bxsK r k).length ≤ 48:=by
 have h1:=List.length_filter_le (fun c:Carton=>c.fGroup == k) (crtL r)
 have h2:=crtL_len r
 unfold bxsK
 rw [List.length_map]
 omega
theorem pl_len {r:Request} (hc:clsM r = 0):∀ (ks:List Int) (s:List Spot × Int),(∀ k ∈ ks,0 ≤ k ∧ k < (grpM r).length) → (ks.foldl (plS r) s).1.length = s.1.length + (crtF r ks).length
 | [],s,_=>by simp [crtF]
 | k :: ks,s,h=>by
  rw [List.foldl_cons,pl_len hc ks _ fun j hj=>h j (by simp [hj])]
  have hk:=h k (by simp)
  have h1:=spM_len (bxs_ok hc hk)
  rw [bxs_eq hk,List.length_map] at h1
  simp only [plS,crtF,List.length_append,List.length_map,bxs_eq hk,h1]
  omega
theorem pln_len (r:Request):(plnM r).1.fSpots.length = (plnM r).1.fCartons.length ∧ (plnM r).1.fCartons.length ≤ 48 ∧ ∀ c ∈ (plnM r).1.fCartons,c.fUnits.length ≤ 12:=by
 unfold plnM
 cases hc:clsM r == 0
 · exact ⟨rfl,by simp,by simp⟩
 · rw [cond_true]
   have:=pl_len (r:=r) (by simpa using hc) (ints 0 (grpM r).length) ([],0) fun k hk=>by have:=ints_mem.1 hk; omega
   exact ⟨by rw [this]; simp [crtL],crtL_len r,fun c hc=>crt_units hc⟩
end Go.Proofs.YtpcmapfabndggaaGreat
/- Where boxes stand: inside, apart from one another, and no pallet too heavy. -/
namespace Go.Proofs.YtpcmapfabndggaaGreat
open Go
open Enc (rd ow)
open Arg (argv)
open Ret (retv)
open Wf (wf)
def pcB (l:List Box) (o y z:Int):List Int → Int → List (Int × Spot)
 | [],_=>[]
 | b :: bs,x=>(b,⟨o,x,y,z⟩) :: pcB l o y z bs (x + (bxA l b).fW)
def pcS (l:List Box) (sh:List Shelf) (o z:Int):List Int → Int → List (Int × Spot)
 | [],_=>[]
 | j :: js,y=>pcB l o y z (shA sh j).fList 0 ++ pcS l sh o z js (y + (shA sh j).fD)
def pcY (l:List Box) (sh:List Shelf) (ly:List Layer) (o:Int):List Int → Int → List (Int × Spot)
 | [],_=>[]
 | i :: is,z=>pcS l sh o z (lyA ly i).fShelves 0 ++ pcY l sh ly o is (z + (lyA ly i).fH)
def pcO (l:List Box) (sh:List Shelf) (ly:List Layer) (ld:List Load):List Int → List (Int × Spot)
 | []=>[]
 | o :: os=>pcY l sh ly o (ldA ld o).fLayers 0 ++ pcO l sh ly ld os
def put1 (out:List Spot) (p:Int × Spot):List Spot:=setx out p.1 p.2
theorem spB_pc (l:List Box) (o y z:Int):∀ (is:List Int) (s:List Spot × Int),(spB l o y z is s).1 = (pcB l o y z is s.2).foldl put1 s.1
 | [],s=>rfl
 | b :: is,s=>by
  show (spB l o y z is (setx s.1 b ⟨o,s.2,y,z⟩,s.2 + (bxA l b).fW)).1 = _
  rw [spB_pc l o y z is]; rfl
theorem spS_pc (l:List Box) (sh:List Shelf) (o z:Int):∀ (js:List Int) (s:List Spot × Int),(spS l sh o z js s).1 = (pcS l sh o z js s.2).foldl put1 s.1
 | [],s=>rfl
 | j :: js,s=>by
  show (spS l sh o z js ((spB l o s.2 z (shA sh j).fList (s.1,0)).1,s.2 + (shA sh j).fD)).1 = _
  rw [spS_pc l sh o z js,spB_pc,pcS,List.foldl_append]
theorem spY_pc (l:List Box) (sh:List Shelf) (ly:List Layer) (o:Int):∀ (is:List Int) (s:List Spot × Int),(spY l sh ly o is s).1 = (pcY l sh ly o is s.2).foldl put1 s.1
 | [],s=>rfl
 | i :: is,s=>by
  show (spY l sh ly o is ((spS l sh o s.2 (lyA ly i).fShelves (s.1,0)).1,s.2 + (lyA ly i).fH)).1 = _
  rw [spY_pc l sh ly o is,spS_pc,pcY,List.foldl_append]
theorem spO_pc (l:List Box) (sh:List Shelf) (ly:List Layer) (ld:List Load):∀ (os:List Int) (out:List Spot),spO l sh ly ld os out = (pcO l sh ly ld os).foldl put1 out
 | [],out=>rfl
 | o :: os,out=>by
  show spO l sh ly ld os (spY l sh ly o (ldA ld o).fLayers (out,0)).1 = _
  rw [spO_pc l sh ly ld os,spY_pc,pcO,List.foldl_append]
theorem pcB_fst (l:List Box) (o y z:Int):∀ (is:List Int) (x:Int),(pcB l o y z is x).map (·.1) = is
 | [],_=>rfl
 | b :: is,x=>by rw [pcB,List.map_cons,pcB_fst l o y z is]
theorem pcS_fst (l:List Box) (sh:List Shelf) (o z:Int):∀ (js:List Int) (y:Int),(pcS l sh o z js y).map (·.1) = (js.map fun j=>(shA sh j).fList).flatten
 | [],_=>rfl
 | j :: js,y=>by rw [pcS,List.map_append,pcB_fst,pcS_fst l sh o z js,List.map_cons,List.flatten_cons]
theorem pcY_fst (l:List Box) (sh:List Shelf) (ly:List Layer) (o:Int):∀ (is:List Int) (z:Int),(pcY l sh ly o is z).map (·.1) = (((is.map fun i=>(lyA ly i).fShelves).flatten).map fun j=>(shA sh j).fList).flatten
 | [],_=>rfl
 | i :: is,z=>by rw [pcY,List.map_append,pcS_fst,pcY_fst l sh ly o is,List.map_cons,List.flatten_cons,List.map_append,List.flatten_append]
theorem pcO_fst (l:List Box) (sh:List Shelf) (ly:List Layer) (ld:List Load):∀ (os:List Int),(pcO l sh ly ld os).map (·.1) = (((((os.map fun o=>(ldA ld o).fLayers).flatten).map fun i=>(lyA ly i).fShelves).flatten).map fun j=>(shA sh j).fList).flatten
 | []=>rfl
 | o :: os=>by rw [pcO,List.map_append,pcY_fst,pcO_fst l sh ly ld os,List.map_cons,List.flatten_cons,List.map_append,List.flatten_append,List.map_append,List.flatten_append]
theorem ints_at {α β:Type} (l:List α) (d:α) (f:α → β):(ints 0 l.length).map (fun p=>f ((ix l p).getD d)) = l.map f:=by
 have key:∀ (xs pre:List α),l = pre ++ xs → (ints pre.length xs.length).map (fun p=>f ((ix l p).getD d)) = xs.map f:=by
  intro xs
  induction xs with
  | nil=>intro pre _; rfl
  | cons x xs ih =>
   intro pre he
   have h1:=ih (pre ++ [x]) (by simp [he])
   have h2:ix l (pre.length:Int) = some x:=by rw [ix_nat,he]; simp
   rw [List.length_cons]
   unfold ints
   rw [List.map_cons,List.map_cons,h2]
   have h3:(((pre ++ [x]).length:Nat):Int) = (pre.length:Int) + 1:=by simp
   rw [h3] at h1
   rw [h1]; rfl
 exact key l [] rfl
structure ShQ (l:List Box) (s:Shelf):Prop where
 w:s.fW = sumI (s.fList.map fun i=>(bxA l i).fW)
 m:∀ i ∈ s.fList,(bxA l i).fD ≤ s.fD ∧ (bxA l i).fH ≤ s.fH
 g:s.fGram = sumI (s.fList.map fun i=>(bxA l i).fGram)
theorem shQ_all (p:Pallet) (l:List Box):∀ (is:List Int) (out:List Shelf),(∀ s ∈ out,ShQ l s) → ∀ s ∈ is.foldl (shS p l) out,ShQ l s
 | [],_,h=>h
 | i :: is,out,h=>by
  rw [List.foldl_cons]
  refine shQ_all p l is _ (nxG_all h (fun s hs _=>?_) ?_)
  · have m1:=mxI_ge s.fD (bxA l i).fD
    have m2:=mxI_ge s.fH (bxA l i).fH
    refine ⟨?_,fun j hj=>?_,?_⟩
    · simp only [shAdd,List.map_append,sumI_append,hs.w,List.map_cons,List.map_nil,sumI_cons,sumI_nil]; omega
    · simp only [shAdd,List.mem_append,List.mem_singleton] at hj ⊢
      rcases hj with hj | rfl
      · have:=hs.m j hj; omega
      · omega
    · simp only [shAdd,List.map_append,sumI_append,hs.g,List.map_cons,List.map_nil,sumI_cons,sumI_nil]; omega
  · have m1:=mxI_ge 0 (bxA l i).fD
    have m2:=mxI_ge 0 (bxA l i).fH
    refine ⟨by simp [shAdd,zSh],fun j hj=>?_,by simp [shAdd,zSh]⟩
    simp only [shAdd,zSh,List.nil_append,List.mem_singleton] at hj ⊢
    subst hj; omega
structure LyQ (sh:List Shelf) (x:Layer):Prop where
 d:x.fD = sumI (x.fShelves.map fun j=>(shA sh j).fD)
 m:∀ j ∈ x.fShelves,(shA sh j).fH ≤ x.fH
 g:x.fGram = sumI (x.fShelves.map fun j=>(shA sh j).fGram)
theorem lyQ_all (p:Pallet) (l:List Shelf):∀ (is:List Int) (out:List Layer),(∀ s ∈ out,LyQ l s) → ∀ s ∈ is.foldl (lyS p l) out,LyQ l s
 | [],_,h=>h
 | i :: is,out,h=>by
  rw [List.foldl_cons]
  refine lyQ_all p l is _ (nxG_all h (fun s hs _=>?_) ?_)
  · have m2:=mxI_ge s.fH (shA l i).fH
    refine ⟨?_,fun j hj=>?_,?_⟩
    · simp only [lyAdd,List.map_append,sumI_append,hs.d,List.map_cons,List.map_nil,sumI_cons,sumI_nil]; omega
    · simp only [lyAdd,List.mem_append,List.mem_singleton] at hj ⊢
      rcases hj with hj | rfl
      · have:=hs.m j hj; omega
      · omega
    · simp only [lyAdd,List.map_append,sumI_append,hs.g,List.map_cons,List.map_nil,sumI_cons,sumI_nil]; omega
  · have m2:=mxI_ge 0 (shA l i).fH
    refine ⟨by simp [lyAdd,zLy],fun j hj=>?_,by simp [lyAdd,zLy]⟩
    simp only [lyAdd,zLy,List.nil_append,List.mem_singleton] at hj ⊢
    subst hj; omega
structure LdQ (ly:List Layer) (x:Load):Prop where
 h:x.fH = sumI (x.fLayers.map fun j=>(lyA ly j).fH)
 g:x.fGram = sumI (x.fLayers.map fun j=>(lyA ly j).fGram)
theorem ldQ_all (p:Pallet) (l:List Layer):∀ (is:List Int) (out:List Load),(∀ s ∈ out,LdQ l s) → ∀ s ∈ is.foldl (ldS p l) out,LdQ l s
 | [],_,h=>h
 | i :: is,out,h=>by
  rw [List.foldl_cons]
  refine ldQ_all p l is _ (nxG_all h (fun s hs _=>?_) ⟨by simp [ldAdd,zLd],by simp [ldAdd,zLd]⟩)
  refine ⟨?_,?_⟩
  · simp only [ldAdd,List.map_append,sumI_append,hs.h,List.map_cons,List.map_nil,sumI_cons,sumI_nil]; omega
  · simp only [ldAdd,List.map_append,sumI_append,hs.g,List.map_cons,List.map_nil,sumI_cons,sumI_nil]; omega
def Apt (b:Box) (s:Spot) (c:Box) (t:Spot):Prop:=s.fPallet ≠ t.fPallet ∨ (s.fX + b.fW ≤ t.fX ∨ t.fX + c.fW ≤ s.fX) ∨ (s.fY + b.fD ≤ t.fY ∨ t.fY + c.fD ≤ s.fY) ∨ (s.fZ + b.fH ≤ t.fZ ∨ t.fZ + c.fH ≤ s.fZ)
theorem Apt.symm {b c:Box} {s t:Spot} (h:Apt b s c t):Apt c t b s:=by unfold Apt at h ⊢; omega
structure Geo (p:Pallet) (l:List Box) (sh:List Shelf) (ly:List Layer) (ld:List Load):Prop where
 b:∀ j ∈ ints 0 sh.length,ShQ l (shA sh j) ∧ ShI p l.length (shA sh j)
 s:∀ i ∈ ints 0 ly.length,LyQ sh (lyA ly i) ∧ LyI p sh.length (lyA ly i)
 y:∀ o ∈ ints 0 ld.length,LdQ ly (ldA ld o) ∧ LdI p ly.length (ldA ld o)
 ok:bosB p l = true
section
variable {p:Pallet} {l:List Box} {sh:List Shelf} {ly:List Layer} {ld:List Load}
theorem pcB_in (o y z:Int):∀ (is:List Int) (x:Int),(∀ i ∈ is,1 ≤ (bxA l i).fW) → ∀ q ∈ pcB l o y z is x,q.1 ∈ is ∧ q.2.fPallet = o ∧ q.2.fY = y ∧ q.2.fZ = z ∧ x ≤ q.2.fX ∧ q.2.fX + (bxA l q.1).fW ≤ x + sumI (is.map fun i=>(bxA l i).fW)
 | [],_,_,q,hq=>by simp [pcB] at hq
 | b :: is,x,h,q,hq=>by
  have hb:=h b (by simp)
  have h0:0 ≤ sumI (is.map fun i=>(bxA l i).fW):=sumI_nn _ _ fun i hi=>by have:=h i (by simp [hi]); omega
  rw [List.map_cons,sumI_cons]
  rw [pcB] at hq
  rcases List.mem_cons.1 hq with rfl | hq
  · exact ⟨by simp,rfl,rfl,rfl,Int.le_refl _,by show x + (bxA l b).fW ≤ _; omega⟩
  · obtain ⟨h1,h2,h3,h4,h5,h6⟩:=pcB_in o y z is _ (fun i hi=>h i (by simp [hi])) q hq
    exact ⟨by simp [h1],h2,h3,h4,by omega,by omega⟩
def AptP (l:List Box) (a c:Int × Spot):Prop:=Apt (bxA l a.1) a.2 (bxA l c.1) c.2
theorem pcB_pw (o y z:Int):∀ (is:List Int) (x:Int),(∀ i ∈ is,1 ≤ (bxA l i).fW) → (pcB l o y z is x).Pairwise (AptP l)
 | [],_,_=>List.Pairwise.nil
 | b :: is,x,h=>by
  rw [pcB]
  refine List.Pairwise.cons (fun q hq=>?_) (pcB_pw o y z is _ fun i hi=>h i (by simp [hi]))
  obtain ⟨_,_,_,_,h5,_⟩:=pcB_in o y z is _ (fun i hi=>h i (by simp [hi])) q hq
  exact .inr (.inl (.inl h5))
theorem pcS_in (hg:Geo p l sh ly ld) (o z H:Int):∀ (js:List Int) (y:Int),(∀ j ∈ js,j ∈ ints 0 sh.length ∧ (shA sh j).fH ≤ H) → ∀ q ∈ pcS l sh o z js y,q.2.fPallet = o ∧ q.2.fZ = z ∧ (bxA l q.1).fH ≤ H ∧ 0 ≤ q.2.fX ∧ q.2.fX + (bxA l q.1).fW ≤ p.fW ∧ y ≤ q.2.fY ∧ q.2.fY + (bxA l q.1).fD ≤ y + sumI (js.map fun j=>(shA sh j).fD)
 | [],_,_,q,hq=>by simp [pcS] at hq
 | j :: js,y,h,q,hq=>by
  obtain ⟨hj,hH⟩:=h j (by simp)
  obtain ⟨a1,a2⟩:=hg.b j hj
  have h0:0 ≤ sumI (js.map fun j=>(shA sh j).fD):=sumI_nn _ _ fun i hi=>by have:=(hg.b i (h i (by simp [hi])).1).2.d; omega
  have hD:=a2.d
  rw [List.map_cons,sumI_cons]
  rw [pcS] at hq
  rcases List.mem_append.1 hq with hq | hq
  · obtain ⟨h1,h2,h3,h4,h5,h6⟩:=pcB_in o y z _ 0 (fun i hi=>(bok_at hg.ok (a2.inn i hi)).2.1.1) q hq
    have h7:=a1.m _ h1
    have h8:=a1.w
    have h9:=a2.w
    exact ⟨h2,h4,by omega,h5,by omega,by omega,by omega⟩
  · obtain ⟨h1,h2,h3,h4,h5,h6,h7⟩:=pcS_in hg o z H js _ (fun i hi=>h i (by simp [hi])) q hq
    exact ⟨h1,h2,h3,h4,h5,by omega,by omega⟩
theorem pcS_pw (hg:Geo p l sh ly ld) (o z H:Int):∀ (js:List Int) (y:Int),(∀ j ∈ js,j ∈ ints 0 sh.length ∧ (shA sh j).fH ≤ H) → (pcS l sh o z js y).Pairwise (AptP l)
 | [],_,_=>List.Pairwise.nil
 | j :: js,y,h=>by
  obtain ⟨hj,hH⟩:=h j (by simp)
  obtain ⟨a1,a2⟩:=hg.b j hj
  rw [pcS]
  refine List.pairwise_append.2 ⟨pcB_pw o y z _ _ fun i hi=>(bok_at hg.ok (a2.inn i hi)).2.1.1,pcS_pw hg o z H js _ fun i hi=>h i (by simp [hi]),fun a ha c hc=>?_⟩
  obtain ⟨h1,h2,h3,h4,h5,h6⟩:=pcB_in o y z _ 0 (fun i hi=>(bok_at hg.ok (a2.inn i hi)).2.1.1) a ha
  obtain ⟨_,_,_,_,_,k6,_⟩:=pcS_in hg o z H js _ (fun i hi=>h i (by simp [hi])) c hc
  have h7:=a1.m _ h1
  exact .inr (.inr (.inl (.inl (by omega))))
theorem pcY_in (hg:Geo p l sh ly ld) (o:Int):∀ (is:List Int) (z:Int),(∀ i ∈ is,i ∈ ints 0 ly.length) → ∀ q ∈ pcY l sh ly o is z,q.2.fPallet = o ∧ (0 ≤ q.2.fX ∧ q.2.fX + (bxA l q.1).fW ≤ p.fW) ∧ (0 ≤ q.2.fY ∧ q.2.fY + (bxA l q.1).fD ≤ p.fD) ∧ z ≤ q.2.fZ ∧ q.2.fZ + (bxA l q.1).fH ≤ z + sumI (is.map fun i=>(lyA ly i).fH)
 | [],_,_,q,hq=>by simp [pcY] at hq
 | i :: is,z,h,q,hq=>by
  obtain ⟨a1,a2⟩:=hg.s i (h i (by simp))
  have h0:0 ≤ sumI (is.map fun i=>(lyA ly i).fH):=sumI_nn _ _ fun k hk=>by have:=(hg.s k (h k (by simp [hk]))).2.h; omega
  have hD:=a2.h
  rw [List.map_cons,sumI_cons]
  rw [pcY] at hq
  rcases List.mem_append.1 hq with hq | hq
  · obtain ⟨h1,h2,h3,h4,h5,h6,h7⟩:=pcS_in hg o z _ _ 0 (fun j hj=>⟨ints_mem.2 (by have:=a2.inn j hj; omega),a1.m j hj⟩) q hq
    have h8:=a1.d
    have h9:=a2.d
    exact ⟨h1,⟨h4,h5⟩,⟨h6,by omega⟩,by omega,by omega⟩
  · obtain ⟨h1,h2,h3,h4,h5⟩:=pcY_in hg o is _ (fun k hk=>h k (by simp [hk])) q hq
    exact ⟨h1,h2,h3,by omega,by omega⟩
theorem pcY_pw (hg:Geo p l sh ly ld) (o:Int):∀ (is:List Int) (z:Int),(∀ i ∈ is,i ∈ ints 0 ly.length) → (pcY l sh ly o is z).Pairwise (AptP l)
 | [],_,_=>List.Pairwise.nil
 | i :: is,z,h=>by
  obtain ⟨a1,a2⟩:=hg.s i (h i (by simp))
  have hk:∀ j ∈ (lyA ly i).fShelves,j ∈ ints 0 sh.length ∧ (shA sh j).fH ≤ (lyA ly i).fH:=fun j hj=>⟨ints_mem.2 (by have:=a2.inn j hj; omega),a1.m j hj⟩
  rw [pcY]
  refine List.pairwise_append.2 ⟨pcS_pw hg o z _ _ 0 hk,pcY_pw hg o is _ fun k hk=>h k (by simp [hk]),fun a ha c hc=>?_⟩
  obtain ⟨_,h2,h3,_⟩:=pcS_in hg o z _ _ 0 hk a ha
  obtain ⟨_,_,_,k4,_⟩:=pcY_in hg o is _ (fun k hk=>h k (by simp [hk])) c hc
  exact .inr (.inr (.inr (.inl (by omega))))
theorem ly_in (hg:Geo p l sh ly ld) {o:Int} (ho:o ∈ ints 0 ld.length):∀ i ∈ (ldA ld o).fLayers,i ∈ ints 0 ly.length:=fun i hi=>ints_mem.2 (by have:=(hg.y o ho).2.inn i hi; omega)
theorem pcO_in (hg:Geo p l sh ly ld):∀ (os:List Int),(∀ o ∈ os,o ∈ ints 0 ld.length) → ∀ q ∈ pcO l sh ly ld os,q.2.fPallet ∈ os ∧ (0 ≤ q.2.fX ∧ q.2.fX + (bxA l q.1).fW ≤ p.fW) ∧ (0 ≤ q.2.fY ∧ q.2.fY + (bxA l q.1).fD ≤ p.fD) ∧ (0 ≤ q.2.fZ ∧ q.2.fZ + (bxA l q.1).fH ≤ p.fH)
 | [],_,q,hq=>by simp [pcO] at hq
 | o :: os,h,q,hq=>by
  rw [pcO] at hq
  rcases List.mem_append.1 hq with hq | hq
  · have ho:=h o (by simp)
    obtain ⟨h1,h2,h3,h4,h5⟩:=pcY_in hg o _ 0 (ly_in hg ho) q hq
    obtain ⟨a1,a2⟩:=hg.y o ho
    have h8:=a1.h
    have h9:=a2.h
    exact ⟨by simp [h1],h2,h3,h4,by omega⟩
  · obtain ⟨h1,h2⟩:=pcO_in hg os (fun k hk=>h k (by simp [hk])) q hq
    exact ⟨by simp [h1],h2⟩
theorem pcO_pw (hg:Geo p l sh ly ld):∀ (os:List Int),os.Nodup → (∀ o ∈ os,o ∈ ints 0 ld.length) → (pcO l sh ly ld os).Pairwise (AptP l)
 | [],_,_=>List.Pairwise.nil
 | o :: os,hn,h=>by
  obtain ⟨n1,n2⟩:=List.nodup_cons.1 hn
  have ho:=h o (by simp)
  rw [pcO]
  refine List.pairwise_append.2 ⟨pcY_pw hg o _ 0 (ly_in hg ho),pcO_pw hg os n2 fun k hk=>h k (by simp [hk]),fun a ha c hc=>?_⟩
  obtain ⟨h1,_⟩:=pcY_in hg o _ 0 (ly_in hg ho) a ha
  obtain ⟨k1,_⟩:=pcO_in hg os (fun k hk=>h k (by simp [hk])) c hc
  exact .inl fun e=>n1 (by rw [← h1,e]; exact k1)
theorem sumI_flat (L:List (List Int)):sumI L.flatten = sumI (L.map sumI):=by
 induction L with
 | nil=>rfl
 | cons x L ih=>rw [List.flatten_cons,sumI_append,ih,List.map_cons,sumI_cons]
theorem pcY_g (hg:Geo p l sh ly ld) (o z:Int) (is:List Int) (h:∀ i ∈ is,i ∈ ints 0 ly.length):sumI ((pcY l sh ly o is z).map fun q=>(bxA l q.1).fGram) = sumI (is.map fun i=>(lyA ly i).fGram):=by
 have e:(pcY l sh ly o is z).map (fun q=>(bxA l q.1).fGram) = ((pcY l sh ly o is z).map (·.1)).map fun i=>(bxA l i).fGram:=by rw [List.map_map]; rfl
 rw [e,pcY_fst,List.map_flatten,sumI_flat,List.map_map,List.map_map,List.map_flatten,sumI_flat,List.map_map,List.map_map]
 congr 1
 refine List.map_congr_left fun i hi=>?_
 obtain ⟨a1,a2⟩:=hg.s i (h i hi)
 rw [a1.g]
 show sumI _ = _
 congr 1
 refine List.map_congr_left fun j hj=>?_
 obtain ⟨b1,_⟩:=hg.b j (ints_mem.2 (by have:=a2.inn j hj; omega))
 rw [b1.g]; rfl
theorem pcO_g (hg:Geo p l sh ly ld) (k:Int):∀ (os:List Int),os.Nodup → (∀ o ∈ os,o ∈ ints 0 ld.length) → sumI (((pcO l sh ly ld os).filter fun q=>q.2.fPallet == k).map fun q=>(bxA l q.1).fGram) ≤ p.fGram
 | [],_,_=>by
  have:=pal_bd (bos_pal hg.ok)
  simp [pcO]; omega
 | o :: os,hn,h=>by
  obtain ⟨n1,n2⟩:=List.nodup_cons.1 hn
  have ho:=h o (by simp)
  rw [pcO,List.filter_append]
  by_cases e:o = k
  · subst e
    rw [List.filter_eq_self.2 fun q hq=>by simp [(pcY_in hg o _ 0 (ly_in hg ho) q hq).1],List.filter_eq_nil_iff.2 fun q hq=>by
     have:=(pcO_in hg os (fun k hk=>h k (by simp [hk])) q hq).1
     intro e
     rw [beq_iff_eq] at e
     exact n1 (e ▸ this),List.append_nil,pcY_g hg _ _ _ (ly_in hg ho),← (hg.y o ho).1.g]
    exact (hg.y o ho).2.g.2
  · rw [List.filter_eq_nil_iff.2 fun q hq=>by simp [(pcY_in hg o _ 0 (ly_in hg ho) q hq).1,e],List.nil_append]
    exact pcO_g hg k os n2 fun k hk=>h k (by simp [hk])
theorem pcO_occ (hg:Geo p l sh ly ld):∀ (os:List Int),(∀ o ∈ os,o ∈ ints 0 ld.length) → ∀ o ∈ os,∃ q ∈ pcO l sh ly ld os,q.2.fPallet = o
 | [],_,o,ho=>by simp at ho
 | a :: os,h,o,ho=>by
  rw [pcO]
  rcases List.mem_cons.1 ho with rfl | ho
  · obtain ⟨a1,a2⟩:=hg.y o (h o (by simp))
    obtain ⟨i,hi⟩:=List.exists_mem_of_ne_nil _ a2.ne
    have hli:=ly_in hg (h o (by simp))
    obtain ⟨_,b2⟩:=hg.s i (hli i hi)
    obtain ⟨j,hj⟩:=List.exists_mem_of_ne_nil _ b2.ne
    obtain ⟨_,c2⟩:=hg.b j (ints_mem.2 (by have:=b2.inn j hj; omega))
    obtain ⟨b,hb⟩:=List.exists_mem_of_ne_nil _ c2.ne
    have:b ∈ (pcY l sh ly o (ldA ld o).fLayers 0).map (·.1):=by
     rw [pcY_fst]
     exact List.mem_flatten.2 ⟨_,List.mem_map.2 ⟨j,List.mem_flatten.2 ⟨_,List.mem_map.2 ⟨i,hi,rfl⟩,hj⟩,rfl⟩,hb⟩
    obtain ⟨q,hq,_⟩:=List.mem_map.1 this
    exact ⟨q,List.mem_append_left _ hq,(pcY_in hg o _ 0 hli q hq).1⟩
  · obtain ⟨q,hq,e⟩:=pcO_occ hg os (fun k hk=>h k (by simp [hk])) o ho
    exact ⟨q,List.mem_append_right _ hq,e⟩
end
theorem ix_set_ne {α:Type} (l:List α) {i j:Int} (y:α) (h:i ≠ j) (h0:0 ≤ i):ix (setx l i y) j = ix l j:=by
 unfold ix setx
 by_cases hj:0 ≤ j
 · rw [if_pos hj,if_pos hj,List.getElem?_set_ne (by omega)]
 · rw [if_neg hj,if_neg hj]
theorem put_other:∀ (P:List (Int × Spot)) (out:List Spot) (i:Int),(∀ q ∈ P,q.1 ≠ i ∧ 0 ≤ q.1) → ix (P.foldl put1 out) i = ix out i
 | [],_,_,_=>rfl
 | q :: P,out,i,h=>by
  rw [List.foldl_cons,put_other P _ i fun r hr=>h r (by simp [hr])]
  exact ix_set_ne _ _ (h q (by simp)).1 (h q (by simp)).2
theorem put_get:∀ (P:List (Int × Spot)) (out:List Spot),(P.map (·.1)).Nodup → (∀ q ∈ P,0 ≤ q.1 ∧ q.1 < out.length) → ∀ q ∈ P,ix (P.foldl put1 out) q.1 = some q.2
 | [],_,_,_,q,hq=>by simp at hq
 | a :: P,out,hn,h,q,hq=>by
  rw [List.map_cons] at hn
  obtain ⟨n1,n2⟩:=List.nodup_cons.1 hn
  rw [List.foldl_cons]
  rcases List.mem_cons.1 hq with rfl | hq
  · rw [put_other P _ q.1 fun r hr=>⟨fun e=>n1 (List.mem_map.2 ⟨r,hr,e⟩),(h r (by simp [hr])).1⟩]
    obtain ⟨x,hx⟩:=ix_in (l:=out) (h q (by simp)).1 (h q (by simp)).2
    exact ix_setx _ hx
  · exact put_get P _ n2 (fun r hr=>by
      have:=h r (by simp [hr])
      rw [show (put1 out a).length = out.length from setx_len' _ _ _]; exact this) q hq
structure SpI (p:Pallet) (l:List Box) (S:List Spot) (N:Int):Prop where
 len:S.length = l.length
 ins:∀ q ∈ l.zip S,(0 ≤ q.2.fPallet ∧ q.2.fPallet < N) ∧ (0 ≤ q.2.fX ∧ q.2.fX + q.1.fW ≤ p.fW) ∧ (0 ≤ q.2.fY ∧ q.2.fY + q.1.fD ≤ p.fD) ∧ (0 ≤ q.2.fZ ∧ q.2.fZ + q.1.fH ≤ p.fH)
 apr:(l.zip S).Pairwise fun a c=>Apt a.1 a.2 c.1 c.2
 occ:∀ k,0 ≤ k → k < N → ∃ q ∈ l.zip S,q.2.fPallet = k
 grm:∀ k,sumI (((l.zip S).filter fun q=>q.2.fPallet == k).map (·.1.fGram)) ≤ p.fGram
 nn:0 ≤ N ∧ N ≤ l.length
theorem sumI_perm' {a b:List Int} (h:a.Perm b):sumI a = sumI b:=by
 induction h with
 | nil=>rfl
 | cons x _ ih=>simp [ih]
 | swap x y l=>simp only [sumI_cons]; omega
 | trans _ _ h1 h2=>exact h1.trans h2
theorem pw_all {α:Type} {R:α → α → Prop} (hs:∀ x y,R x y → R y x) (hr:∀ x,R x x):∀ (P:List α),P.Pairwise R → ∀ x ∈ P,∀ y ∈ P,R x y
 | [],_,x,hx,_,_=>by simp at hx
 | a :: P,h,x,hx,y,hy=>by
  obtain ⟨h1,h2⟩:=List.pairwise_cons.1 h
  rcases List.mem_cons.1 hx with ex | hx'
  · rcases List.mem_cons.1 hy with ey | hy'
    · rw [ex,ey]; exact hr _
    · rw [ex]; exact h1 y hy'
  · rcases List.mem_cons.1 hy with ey | hy'
    · rw [ey]; exact hs _ _ (h1 x hx')
    · exact pw_all hs hr P h2 x hx' y hy'
theorem sp_geo {p:Pallet} {l:List Box} (h:bosB p l = true):SpI p l (spM p l) (ldM p (lyM p (shM p l))).length:=by
 have hS:=okS_sh h
 have hY:=okY_ly hS
 obtain ⟨a1,a2,a3⟩:=shM_all h
 obtain ⟨b1,b2,b3⟩:=lyM_all hS
 obtain ⟨c1,c2,c3⟩:=ldM_all hY
 have q1:∀ s ∈ shM p l,ShQ l s:=by
  unfold shM
  rw [h,cond_true]
  exact shQ_all p l _ _ (by simp)
 have q2:∀ s ∈ lyM p (shM p l),LyQ (shM p l) s:=lyQ_all p _ _ _ (by simp)
 have q3:∀ s ∈ ldM p (lyM p (shM p l)),LdQ (lyM p (shM p l)) s:=ldQ_all p _ _ _ (by simp)
 have e:spM p l = (pcO l (shM p l) (lyM p (shM p l)) (ldM p (lyM p (shM p l))) (ints 0 (ldM p (lyM p (shM p l))).length)).foldl put1 (List.replicate l.length zSp):=by
  unfold spM
  rw [h,cond_true,spO_pc]
 have hlen:=spM_len h
 generalize hsh:shM p l = sh at *
 generalize hly:lyM p sh = ly at *
 generalize hld:ldM p ly = ld at *
 have at_mem:∀ {α:Type} (L:List α) (d:α) (j:Int),j ∈ ints 0 L.length → (ix L j).getD d ∈ L:=fun L d j hj=>by
  have hj:=ints_mem.1 hj
  obtain ⟨x,hx⟩:=ix_in (l:=L) (i:=j) hj.1 (by omega)
  rw [hx]; exact ix_mem hx
 have hg:Geo p l sh ly ld:=⟨fun j hj=>⟨q1 _ (at_mem sh zSh j hj),a1 _ (at_mem sh zSh j hj)⟩,fun j hj=>⟨q2 _ (at_mem ly zLy j hj),b1 _ (at_mem ly zLy j hj)⟩,fun j hj=>⟨q3 _ (at_mem ld zLd j hj),c1 _ (at_mem ld zLd j hj)⟩,h⟩
 have hf:(pcO l sh ly ld (ints 0 ld.length)).map (·.1) = srt (dnk (l.map (·.fD))) l.length:=by
  rw [pcO_fst]
  have e1:(ints 0 ld.length).map (fun o=>(ldA ld o).fLayers) = ld.map (·.fLayers):=ints_at ld zLd (·.fLayers)
  have e2:(ints 0 ly.length).map (fun o=>(lyA ly o).fShelves) = ly.map (·.fShelves):=ints_at ly zLy (·.fShelves)
  have e3:(ints 0 sh.length).map (fun o=>(shA sh o).fList) = sh.map (·.fList):=ints_at sh zSh (·.fList)
  rw [e1,c2,e2,b2,e3,a2]
 have hin:=pcO_in hg (ints 0 ld.length) fun _ h=>h
 have hpw:=pcO_pw hg (ints 0 ld.length) (ints_nodup _ _) fun _ h=>h
 have hgr:=fun k=>pcO_g hg k (ints 0 ld.length) (ints_nodup _ _) fun _ h=>h
 have hoc:=pcO_occ hg (ints 0 ld.length) fun _ h=>h
 generalize pcO l sh ly ld (ints 0 ld.length) = P at *
 have hperm:(P.map (·.1)).Perm (ints 0 l.length):=by rw [hf]; exact srt_perm _ _
 have hbd:∀ q ∈ P,0 ≤ q.1 ∧ q.1 < l.length:=fun q hq=>by
  have:=ints_mem.1 (hperm.mem_iff.1 (List.mem_map.2 ⟨q,hq,rfl⟩))
  omega
 have hget:∀ q ∈ P,ix (spM p l) q.1 = some q.2:=by
  rw [e]
  exact put_get P _ (hperm.nodup_iff.2 (ints_nodup _ _)) (by simpa using hbd)
 generalize hSS:spM p l = S at *
 have hz:l.zip S = (ints 0 l.length).map fun i=>(bxA l i,(ix S i).getD zSp):=by
  have e1:(ints 0 l.length).map (fun i=>bxA l i) = l:=by
   have:=ints_at l zBx (fun x=>x)
   rwa [List.map_id'] at this
  have e2:(ints 0 l.length).map (fun i=>(ix S i).getD zSp) = S:=by
   have:=ints_at S zSp (fun x=>x)
   rwa [List.map_id',hlen] at this
  have:((ints 0 l.length).map (fun i=>bxA l i)).zip ((ints 0 l.length).map fun i=>(ix S i).getD zSp) = (ints 0 l.length).map fun i=>(bxA l i,(ix S i).getD zSp):=by
   rw [List.zip_map']
  rw [← this,e1,e2]
 have hP:(l.zip S).Perm (P.map fun q=>(bxA l q.1,q.2)):=by
  have e1:P.map (fun q=>(bxA l q.1,q.2)) = (P.map (·.1)).map fun i=>(bxA l i,(ix S i).getD zSp):=by
   rw [List.map_map]
   exact List.map_congr_left fun q hq=>by simp [hget q hq]
  rw [hz,e1]
  exact (hperm.map _).symm
 refine ⟨hlen,fun q hq=>?_,?_,fun k k0 k1=>?_,fun k=>?_,by omega,by omega⟩
 · obtain ⟨a,ha,rfl⟩:=List.mem_map.1 (hP.mem_iff.1 hq)
   obtain ⟨h1,h2⟩:=hin a ha
   have:=ints_mem.1 h1
   exact ⟨by show 0 ≤ a.2.fPallet ∧ a.2.fPallet < _; omega,h2⟩
 · rw [hz]
   refine List.pairwise_map.2 ((ints_nodup 0 l.length).imp_of_mem fun {i j} hi hj hij=>?_)
   obtain ⟨a,ha,rfl⟩:=List.mem_map.1 (hperm.mem_iff.2 hi)
   obtain ⟨c,hc,rfl⟩:=List.mem_map.1 (hperm.mem_iff.2 hj)
   rw [hget a ha,hget c hc]
   have key:∀ {x y:Int × Spot},x ∈ P → y ∈ P → x.1 ≠ y.1 → AptP l x y:=by
    have hs:P.Pairwise fun x y=>x.1 ≠ y.1 → AptP l x y:=hpw.imp (S:=fun x y=>x.1 ≠ y.1 → AptP l x y) fun h _=>h
    intro x y hx hy
    exact pw_all (R:=fun x y=>x.1 ≠ y.1 → AptP l x y) (fun x y h hne=>(h fun e=>hne e.symm).symm) (fun x hne=>absurd rfl hne) P hs x hx y hy
   exact key ha hc hij
 · obtain ⟨q,hq,e⟩:=hoc k (ints_mem.2 (by omega))
   exact ⟨(bxA l q.1,q.2),hP.mem_iff.2 (List.mem_map.2 ⟨q,hq,rfl⟩),e⟩
 · have h1:=((hP.filter fun q=>q.2.fPallet == k).map (·.1.fGram))
   rw [sumI_perm' h1,List.filter_map,List.map_map]
   exact hgr k
theorem palF_ub {N:Int} (hN:N ≤ 1000000):∀ (l:List Spot) (n:Int),0 ≤ n → n ≤ N → (∀ s ∈ l,0 ≤ s.fPallet ∧ s.fPallet < N) → n ≤ l.foldl palS n ∧ l.foldl palS n ≤ N ∧ ∀ s ∈ l,s.fPallet + 1 ≤ l.foldl palS n
 | [],n,_,h,_=>⟨Int.le_refl _,h,by simp⟩
 | s :: l,n,h0,h1,h=>by
  have hs:=h s (by simp)
  have e:palS n s = if s.fPallet + 1 > n then s.fPallet + 1 else n:=by
   unfold palS
   rw [show inb s.fPallet 0 999999 = true from inb_iff.2 (by omega),cond_true]
  have hb:n ≤ palS n s ∧ palS n s ≤ N ∧ s.fPallet + 1 ≤ palS n s:=by rw [e]; split <;> omega
  rw [List.foldl_cons]
  obtain ⟨a,b,c⟩:=palF_ub hN l (palS n s) (by omega) hb.2.1 fun t ht=>h t (by simp [ht])
  refine ⟨by omega,b,fun t ht=>?_⟩
  rcases List.mem_cons.1 ht with rfl | ht
  · omega
  · exact c t ht
theorem pal_eq {S:List Spot} {N:Int} (hN:0 ≤ N ∧ N ≤ 1000000) (h:∀ s ∈ S,0 ≤ s.fPallet ∧ s.fPallet < N) (ho:∀ k,0 ≤ k → k < N → ∃ s ∈ S,s.fPallet = k):palM S = N:=by
 obtain ⟨a,b,c⟩:=palF_ub hN.2 S 0 (Int.le_refl _) hN.1 h
 unfold palM
 by_cases h0:N = 0
 · omega
 · obtain ⟨s,hs,e⟩:=ho (N - 1) (by omega) (by omega)
   have:=c s hs
   omega
theorem zip_snd {α β:Type} {a:List α} {b:List β} (h:b.length = a.length) {y:β} (hy:y ∈ b):∃ q ∈ a.zip b,q.2 = y:=by
 obtain ⟨i,hi⟩:=List.mem_iff_getElem?.1 hy
 have hlt:=(List.getElem?_eq_some_iff.1 hi).1
 exact ⟨(a[i]'(by omega),y),List.mem_iff_getElem?.2 ⟨i,List.getElem?_zip_eq_some.2 ⟨List.getElem?_eq_getElem _,hi⟩⟩,rfl⟩
theorem sp_pals {p:Pallet} {l:List Box} {S:List Spot} {N:Int} (g:SpI p l S N) (hl:l.length ≤ 1000):palM S = N:=by
 have h:=g.nn
 refine pal_eq ⟨h.1,by omega⟩ (fun s hs=>?_) fun k k0 k1=>?_
 · obtain ⟨q,hq,rfl⟩:=zip_snd g.len hs
   exact (g.ins q hq).1
 · obtain ⟨q,hq,e⟩:=g.occ k k0 k1
   exact ⟨q.2,(List.of_mem_zip hq).2,e⟩
end Go.Proofs.YtpcmapfabndggaaGreat
/- Squeeze and Spare of spec and of impl. -/
namespace Go.Proofs.YtpcmapfabndggaaGreat
open Go
open Enc (rd ow)
open Arg (argv)
open Ret (retv)
open Wf (wf)
def inU (r:Request) (cs:List (List Int)):Prop:=∀ c ∈ cs,∀ y ∈ c,0 ≤ y ∧ y < (untM r).length
theorem len_le_flat {c:List Int} {cs:List (List Int)} (h:c ∈ cs):c.length ≤ cs.flatten.length:=by
 induction cs with
 | nil=>simp at h
 | cons x xs ih =>
  rw [List.flatten_cons,List.length_append]
  rcases List.mem_cons.1 h with e | h
  · subst e; omega
  · have:=ih h; omega
theorem setx_flat {out:List (List Int)} {j u:Int} {c:List Int} (h:ix out j = some c):(setx out j (c ++ [u])).flatten.Perm (out.flatten ++ [u]):=by
 obtain ⟨h0,h1,h2⟩:=ix_some h
 exact set_flat h2
structure Ez (r:Request) (k:Int) (c0:List Int) (T:List Int) (us:List Int) (out:List (List Int)):Prop where
 src:ix out k = some c0
 all:(out.flatten ++ us).Perm (T ++ c0)
 inn:inU r out
 inu:∀ u ∈ us,0 ≤ u ∧ u < (untM r).length
 len:out.length ≤ 12
 tot:(T ++ c0).length ≤ 24
theorem Ez.step {r:Request} {k:Int} {c0 T us:List Int} {out:List (List Int)} {u j:Int} {c:List Int} (h:Ez r k c0 T (u :: us) out) (hj:ix out j = some c) (hjk:j ≠ k):Ez r k c0 T us (setx out j (c ++ [u])):=by
 obtain ⟨j0,j1,j2⟩:=ix_some hj
 obtain ⟨k0,k1,k2⟩:=ix_some h.src
 refine ⟨?_,?_,?_,fun v hv=>h.inu v (by simp [hv]),by unfold setx; simp; exact h.len,h.tot⟩
 · unfold ix setx
   rw [if_pos k0,List.getElem?_set,if_neg (by omega)]
   exact k2
 · refine ((setx_flat (u:=u) hj).append_right us).trans ?_
   simpa using h.all
 · intro d hd y hy
   unfold setx at hd
   rcases List.mem_or_eq_of_mem_set hd with hd | rfl
   · exact h.inn d hd y hy
   · rcases List.mem_append.1 hy with hy | hy
     · exact h.inn c (ix_mem hj) y hy
     · rw [List.mem_singleton.1 hy]; exact h.inu u (by simp)
structure Rz (r:Request) (cs:List (List Int)):Prop where
 len:cs.length ≤ 12
 tot:cs.flatten.length ≤ 12
 inn:inU r cs
theorem Rz.ez {r:Request} {cs:List (List Int)} (h:Rz r cs) {k:Int} {c:List Int} (hk:ix cs k = some c):Ez r k c cs.flatten c cs :=
 ⟨hk,List.Perm.refl _,h.inn,h.inn c (ix_mem hk),h.len,by have:=len_le_flat (ix_mem hk); have:=h.tot; rw [List.length_append]; omega⟩
end Go.Proofs.YtpcmapfabndggaaGreat
/- Lower bounds: no packing has fewer cartons. -/
namespace Go.Proofs.YtpcmapfabndggaaGreat
open Go
open Enc (rd ow)
open Arg (argv)
open Ret (retv)
open Wf (wf)
def upM (a b:Int):Int:=Int.tdiv (a + b - 1) b
def grtB (r:Request) (x:Item):Bool:=decide (2 * volI x > volT (masM r))
def hvyB (r:Request) (x:Item):Bool:=decide (2 * x.fGram > (masM r).fGram)
def lowM (r:Request) (us:List Int):Int:=mxI (mxI (upM (volM r us) (volT (masM r))) (upM (grmM r us) (masM r).fGram)) (mxI (cntB (grtB r) (itsM r us)) (cntB (hvyB r) (itsM r us)))
theorem its_app (r:Request) (a b:List Int):itsM r (a ++ b) = itsM r a ++ itsM r b:=List.filterMap_append ..
theorem vol_app (r:Request) (a b:List Int):volM r (a ++ b) = volM r a + volM r b:=by unfold volM; rw [its_app,List.map_append,sumI_append]
theorem grm_app (r:Request) (a b:List Int):grmM r (a ++ b) = grmM r a + grmM r b:=by unfold grmM; rw [its_app,List.map_append,sumI_append]
theorem cntB_app {α:Type} (f:α → Bool) (a b:List α):cntB f (a ++ b) = cntB f a + cntB f b:=by
 induction a with
 | nil=>simp [cntB]
 | cons x a ih=>simp only [List.cons_append,cntB,ih]; omega
theorem cntB_perm {α:Type} (f:α → Bool) {a b:List α} (h:a.Perm b):cntB f a = cntB f b:=by
 induction h with
 | nil=>rfl
 | cons x _ ih=>simp only [cntB,ih]
 | swap x y l=>simp only [cntB]; omega
 | trans _ _ h1 h2=>rw [h1,h2]
theorem vol_flat {r:Request} {V:Int}:∀ (cs:List (List Int)),(∀ c ∈ cs,volM r c ≤ V) → volM r cs.flatten ≤ cs.length * V
 | [],_=>by simp [volM,itsM]
 | c :: cs,h=>by
  have h1:=vol_flat cs fun d hd=>h d (by simp [hd])
  have h2:=h c (by simp)
  rw [List.flatten_cons,vol_app,List.length_cons,show ((cs.length + 1:Nat):Int) = (cs.length:Int) + 1 by omega,Int.add_mul,Int.one_mul]
  omega
theorem grm_flat {r:Request} {V:Int}:∀ (cs:List (List Int)),(∀ c ∈ cs,grmM r c ≤ V) → grmM r cs.flatten ≤ cs.length * V
 | [],_=>by simp [grmM,itsM]
 | c :: cs,h=>by
  have h1:=grm_flat cs fun d hd=>h d (by simp [hd])
  have h2:=h c (by simp)
  rw [List.flatten_cons,grm_app,List.length_cons,show ((cs.length + 1:Nat):Int) = (cs.length:Int) + 1 by omega,Int.add_mul,Int.one_mul]
  omega
theorem up_le {a b n:Int} (hb:1 ≤ b) (h0:0 ≤ a) (h:a ≤ n * b):upM a b ≤ n:=by
 unfold upM
 rw [Int.tdiv_eq_ediv_of_nonneg (by omega)]
 have h1:a + b - 1 < (n + 1) * b:=by rw [Int.add_mul]; omega
 have:=Int.ediv_lt_of_lt_mul (a:=a + b - 1) (b:=n + 1) (c:=b) (by omega) h1
 omega
theorem cnt_two {f:Item → Int} {V:Int} {g:Item → Bool} (hg:∀ x,g x = true → V + 1 ≤ 2 * f x):∀ (xs:List Item),(∀ x ∈ xs,0 ≤ f x) → cntB g xs * (V + 1) ≤ 2 * sumI (xs.map f)
 | [],_=>by simp [cntB]
 | x :: xs,h=>by
  have ih:=cnt_two hg xs fun y hy=>h y (by simp [hy])
  have h0:=h x (by simp)
  simp only [cntB,List.map_cons,sumI_cons,Int.add_mul]
  cases hx:g x
  · simp only [bitI,cond_false,Int.zero_mul]; omega
  · have:=hg x hx
    simp only [bitI,cond_true,Int.one_mul]; omega
theorem cnt_one {c V s:Int} (hc:c * (V + 1) ≤ 2 * s) (hs:s ≤ V) (h0:0 ≤ V):c ≤ 1:=by
 rcases Int.lt_or_le c 2 with h | h
 · omega
 · have:2 * (V + 1) ≤ c * (V + 1):=Int.mul_le_mul_of_nonneg_right h (by omega)
   omega
theorem cnt_flat {r:Request} {g:Item → Bool}:∀ (cs:List (List Int)),(∀ c ∈ cs,cntB g (itsM r c) ≤ 1) → cntB g (itsM r cs.flatten) ≤ cs.length
 | [],_=>by simp [itsM,cntB]
 | c :: cs,h=>by
  have h1:=cnt_flat cs fun d hd=>h d (by simp [hd])
  have h2:=h c (by simp)
  rw [List.flatten_cons,its_app,cntB_app,List.length_cons]
  omega
theorem mxI_le {a b n:Int} (h1:a ≤ n) (h2:b ≤ n):mxI a b ≤ n:=by unfold mxI; split <;> omega
theorem low_le {r:Request} (hc:clsM r = 0) {cs:List (List Int)} {us:List Int} (hw:∀ c ∈ cs,witB r c (masM r) = true) (hp:cs.flatten.Perm us):lowM r us ≤ cs.length:=by
 have hw1:∀ c ∈ cs,volM r c ≤ volT (masM r) ∧ grmM r c ≤ (masM r).fGram:=fun c hcm=>by
  have:=hw c hcm
  unfold witB at this
  simpa using this
 have hm:=(mas_typ hc).2.2
 have hv1:=volT_pos hm
 simp only [typB,Bool.and_eq_true,inb_iff] at hm
 have ep:(itsM r cs.flatten).Perm (itsM r us):=its_perm hp
 unfold lowM
 refine mxI_le (mxI_le ?_ ?_) (mxI_le ?_ ?_)
 · rw [← vol_perm hp]
   exact up_le hv1 (volM_bd r _).1 (vol_flat cs fun c h=>(hw1 c h).1)
 · rw [← grm_perm hp]
   exact up_le (by omega) (grmM_bd r _).1 (grm_flat cs fun c h=>(hw1 c h).2)
 · rw [← cntB_perm _ ep]
   refine cnt_flat cs fun c h=>cnt_one (V:=volT (masM r)) (s:=volM r c) (cnt_two (f:=volI) (fun x hx=>?_) _ fun x _=>(volB_nn _ _ _).1) (hw1 c h).1 (by omega)
   unfold grtB at hx
   have:=of_decide_eq_true hx
   omega
 · rw [← cntB_perm _ ep]
   refine cnt_flat cs fun c h=>cnt_one (V:=(masM r).fGram) (s:=grmM r c) (cnt_two (f:=fun x=>x.fGram) (fun x hx=>?_) _ fun x hx=>(grm_mem hx).1) (hw1 c h).2 (by omega)
   unfold hvyB at hx
   have:=of_decide_eq_true hx
   omega
end Go.Proofs.YtpcmapfabndggaaGreat
/- Ours of spec and of impl. -/
namespace Go.Proofs.YtpcmapfabndggaaGreat
open Go
open Enc (rd ow)
open Arg (argv)
open Ret (retv)
open Wf (wf)
end Go.Proofs.YtpcmapfabndggaaGreat
/- What is held: lists of numbers. -/
namespace Go.Proofs.YtpcmapfabndggaaGreat
open Go
open Enc (rd ow)
open Arg (argv)
open Ret (retv)
open Wf (wf)
end Go.Proofs.YtpcmapfabndggaaGreat
/- Lists of lists of numbers in the laws: what is marked and held. -/
namespace Go.Proofs.YtpcmapfabndggaaGreat
open Go
open Enc (rd ow)
open Arg (argv)
open Ret (retv)
open Wf (wf)
end Go.Proofs.YtpcmapfabndggaaGreat
/- The plain law of FnExactOneEach. -/
namespace Go.Proofs.YtpcmapfabndggaaGreat
open Go
open Enc (rd ow)
open Arg (argv)
open Ret (retv)
open Wf (wf)
end Go.Proofs.YtpcmapfabndggaaGreat
/- What is squeezed is a packing still; so are others' picks, one each, and ours. -/
namespace Go.Proofs.YtpcmapfabndggaaGreat
open Go
open Enc (rd ow)
open Arg (argv)
open Ret (retv)
open Wf (wf)
def Gc (r:Request) (c:List Int):Prop:=c ≠ [] ∧ witB r c (masM r) = true ∧ allBes r c = true
theorem bes_self {r:Request} {u:Int} (h:0 ≤ u ∧ u < (untM r).length):besB r.fPairs (clsZ r u) (clsZ r u) = true:=by
 have hc:=cls_in h
 have hz:=clsM_zero hc
 have hm:=itmZ_mem h
 have ht:=hz.2.2.1
 have hn:=hz.2.1
 have hcl:(itmZ r u).fClass < r.fClasses:=by
  unfold namB at hn
  simp only [Bool.and_eq_true] at hn
  have key:∀ (l pre:List Item),nodC r.fClasses pre l = true → ∀ x ∈ l,x.fClass < r.fClasses:=by
   intro l
   induction l with
   | nil=>intro _ _ x hx; simp at hx
   | cons y l ih =>
    intro pre h x hx
    simp only [nodC,Bool.and_eq_true,Bool.not_eq_true',decide_eq_false_iff_not] at h
    rcases List.mem_cons.1 hx with rfl | hx
    · omega
    · exact ih _ h.2 x hx
  exact key r.fItems [] hn.1.1.2 _ hm
 have hi:=(bou_items hz.1).1 _ hm
 simp only [itmB,Bool.and_eq_true,inb_iff] at hi
 unfold tabB at ht
 simp only [Bool.and_eq_true] at ht
 have:=List.all_eq_true.1 ht.2 (itmZ r u).fClass (ints_mem.2 ⟨by omega,by omega⟩)
 simp only [Bool.and_eq_true] at this
 exact this.1
theorem grp_mut (r:Request):∀ g ∈ grpM r,∀ x ∈ g,∀ y ∈ g,x ≠ y → mutB r.fPairs x y = true:=by
 have key:∀ (l:List Int) (out:List (List Int)),(∀ g ∈ out,∀ x ∈ g,∀ y ∈ g,x ≠ y → mutB r.fPairs x y = true) → ∀ g ∈ l.foldl (putG r.fPairs) out,∀ x ∈ g,∀ y ∈ g,x ≠ y → mutB r.fPairs x y = true:=by
  intro l
  induction l with
  | nil=>intro out h; exact h
  | cons c l ih =>
   intro out h
   rw [List.foldl_cons]
   refine ih _ ?_
   unfold putG
   cases hf:fstI (fun g=>g.all (mutB r.fPairs c)) out with
   | some k =>
    obtain ⟨g0,hg0,hall⟩:=fstI_lt hf
    have hall:=List.all_eq_true.1 hall
    have hm:=List.mem_of_getElem? hg0
    simp only [hg0,Option.getD_some]
    intro g hg x hx y hy hxy
    rcases List.mem_or_eq_of_mem_set hg with hg | rfl
    · exact h g hg x hx y hy hxy
    · rcases List.mem_append.1 hx with hx | hx <;> rcases List.mem_append.1 hy with hy | hy
      · exact h g0 hm x hx y hy hxy
      · rw [List.mem_singleton.1 hy,mutB_comm]; exact hall x hx
      · rw [List.mem_singleton.1 hx]; exact hall y hy
      · rw [List.mem_singleton.1 hx,List.mem_singleton.1 hy] at hxy; exact absurd rfl hxy
   | none =>
    intro g hg x hx y hy hxy
    rcases List.mem_append.1 hg with hg | hg
    · exact h g hg x hx y hy hxy
    · rw [List.mem_singleton.1 hg] at hx hy
      rw [List.mem_singleton.1 hx,List.mem_singleton.1 hy] at hxy; exact absurd rfl hxy
 exact key (prsM r) [] (by simp)
theorem uof_mem {r:Request} {k u:Int} (h:u ∈ uofM r k):(0 ≤ u ∧ u < (untM r).length) ∧ ∃ g,ix (grpM r) k = some g ∧ clsZ r u ∈ g:=by
 unfold uofM at h
 cases hg:ix (grpM r) k with
 | none=>rw [hg] at h; simp at h
 | some g =>
  rw [hg] at h
  obtain ⟨j,i,x,h1,h2,h3,h4⟩:=(ofG_mem r g (untM r) 0 u).1 h
  have hj:=(List.getElem?_eq_some_iff.1 h1).1
  have hu:0 ≤ u ∧ u < (untM r).length:=by omega
  refine ⟨hu,g,rfl,?_⟩
  have hm:itmM r u = some x:=by
   unfold itmM
   rw [h2,Int.zero_add,ix_nat,h1,ob_some,h3]
  unfold clsZ itmZ
  rw [hm]
  simpa using h4
theorem thr_uof (r:Request) (k:Int):thrM r (uofM r k) = uofM r k:=by
 unfold thrM
 refine List.filter_eq_self.2 fun u hu=>?_
 have:=(uof_mem hu).1
 rw [inb_iff]; omega
theorem bes_same {r:Request} {k:Int} {l:List Int} (h:∀ u ∈ l,u ∈ uofM r k):allBes r l = true:=by
 unfold allBes
 refine List.all_eq_true.2 fun x hx=>List.all_eq_true.2 fun y hy=>?_
 obtain ⟨hx1,g,hg,hxg⟩:=uof_mem (h x hx)
 obtain ⟨hy1,g',hg',hyg⟩:=uof_mem (h y hy)
 rw [hg] at hg'
 cases hg'
 by_cases e:clsZ r x = clsZ r y
 · rw [← e]; exact bes_self hx1
 · have:=grp_mut r g (ix_mem hg) _ hxg _ hyg e
   unfold mutB at this
   rw [Bool.and_eq_true] at this
   exact this.1
theorem bes_perm {r:Request} {a b:List Int} (h:a.Perm b) (hb:allBes r b = true):allBes r a = true:=by
 unfold allBes at *
 exact List.all_eq_true.2 fun x hx=>List.all_eq_true.2 fun y hy=>List.all_eq_true.1 (List.all_eq_true.1 hb x (h.mem_iff.1 hx)) y (h.mem_iff.1 hy)
theorem our_gc {r:Request} {c:Carton} (h:c ∈ crtL r):Gc r c.fUnits ∧ (0 ≤ c.fGroup ∧ c.fGroup < (grpM r).length) ∧ ∀ u ∈ c.fUnits,u ∈ uofM r c.fGroup:=by
 obtain ⟨k,hk,l,hl,rfl⟩:=crtF_mem.1 h
 have hk':=ints_mem.1 hk
 obtain ⟨q1,q2,q3⟩:=pw_q l hl
 rw [thr_uof] at q2
 have hp:=srtI_perm l
 refine ⟨⟨fun e=>q1 ?_,?_,?_⟩,by simp only [crtM]; omega,fun u hu=>q2 u (hp.mem_iff.1 hu)⟩
 · have:(srtI l).length = 0:=by rw [show srtI l = [] from e]; rfl
   rw [srtI_len] at this
   exact List.eq_nil_of_length_eq_zero this
 · show witB r (srtI l) (masM r) = true
   rw [wit_perm hp]; exact q3
 · exact bes_perm hp (bes_same q2)
theorem ofG_lt (r:Request) (g:List Int):∀ (us:List Int) (u:Int),(ofG r g u us).Pairwise (· < ·) ∧ ∀ x ∈ ofG r g u us,u ≤ x
 | [],_=>by simp [ofG]
 | i :: us,u=>by
  obtain ⟨h1,h2⟩:=ofG_lt r g us (u + 1)
  have no:(ofG r g (u + 1) us).Pairwise (· < ·) ∧ ∀ x ∈ ofG r g (u + 1) us,u ≤ x:=⟨h1,fun x hx=>by have:=h2 x hx; omega⟩
  have yes:(u :: ofG r g (u + 1) us).Pairwise (· < ·) ∧ ∀ x ∈ u :: ofG r g (u + 1) us,u ≤ x:=by
   refine ⟨List.pairwise_cons.2 ⟨fun x hx=>by have:=h2 x hx; omega,h1⟩,fun x hx=>?_⟩
   rcases List.mem_cons.1 hx with rfl | hx
   · omega
   · have:=h2 x hx; omega
  rw [ofG]
  cases ix r.fItems i with
  | none=>exact no
  | some x =>
   simp only
   cases g.contains x.fClass
   · exact no
   · exact yes
theorem uof_nodup (r:Request) (k:Int):(uofM r k).Nodup:=by
 unfold uofM
 split
 · exact ((ofG_lt r _ (untM r) 0).1).imp fun h=>by omega
 · simp
theorem our_flatF (r:Request):∀ (ks:List Int),((crtF r ks).map (·.fUnits)).flatten.Perm (ks.map (uofM r)).flatten
 | []=>by simp [crtF]
 | k :: ks=>by
  have ih:=our_flatF r ks
  have h1:((crtK r k).map (·.fUnits)).flatten.Perm (uofM r k):=by
   have h2:=pw_flat r (uofM r k)
   rw [thr_uof] at h2
   refine List.Perm.trans ?_ h2
   unfold crtK
   generalize pwM r (uofM r k) = L
   induction L with
   | nil=>simp
   | cons l L ihL=>simp only [List.map_cons,List.flatten_cons]; exact (srtI_perm l).append ihL
  rw [crtF,List.map_append,List.flatten_append,List.map_cons,List.flatten_cons]
  exact h1.append ih
theorem uof_all (r:Request):((ints 0 (grpM r).length).map (uofM r)).flatten.Perm (ints 0 (untM r).length):=by
 refine (List.perm_ext_iff_of_nodup ?_ (ints_nodup _ _)).2 fun u=>?_
 · refine List.pairwise_flatten.2 ⟨fun l hl=>?_,?_⟩
   · obtain ⟨k,_,rfl⟩:=List.mem_map.1 hl
     exact uof_nodup r k
   · refine List.pairwise_map.2 ((ints_lt 0 (grpM r).length).imp_of_mem fun {a b} ha hb hab=>?_)
     intro x hx y hy e
     subst e
     obtain ⟨_,g,hg,hxg⟩:=uof_mem hx
     obtain ⟨_,g',hg',hyg⟩:=uof_mem hy
     have:=grp_apart (ix_some hg).2.2 (ix_some hg').2.2 hxg hyg
     have h1:=(ix_some hg).1
     have h2:=(ix_some hg').1
     omega
 · constructor
   · intro h
     obtain ⟨l,hl,hu⟩:=List.mem_flatten.1 h
     obtain ⟨k,_,rfl⟩:=List.mem_map.1 hl
     have:=(uof_mem hu).1
     exact ints_mem.2 (by omega)
   · intro h
     have hu:=ints_mem.1 h
     have hi:=itmZ_in (r:=r) (u:=u) (by omega)
     obtain ⟨i,g,hg,hcg,_⟩:=gof_prs (itm_prs hi)
     refine List.mem_flatten.2 ⟨uofM r i,List.mem_map.2 ⟨i,ints_mem.2 ⟨by omega,by have:=(List.getElem?_eq_some_iff.1 hg).1; omega⟩,rfl⟩,?_⟩
     have hg':ix (grpM r) (i:Int) = some g:=by rw [ix_nat,hg]
     have:=uof_has hg' u
     unfold inG at this
     rw [hi] at this
     have e:g.contains (itmZ r u).fClass = true:=by simpa using hcg
     simp only [e] at this
     simpa using this
end Go.Proofs.YtpcmapfabndggaaGreat
/- Feasible, by spec and by impl. -/
namespace Go.Proofs.YtpcmapfabndggaaGreat
open Go
open Enc (rd ow)
open Arg (argv)
open Ret (retv)
open Wf (wf)
def feaB (r:Request) (x:Plan):Bool:=chkM r x == 0
theorem i_feas {fu:Nat} {r:Request} (h:Sm fu r) {x:Plan} (hx:Sp x):d_impl_Feasible fu r x = some (feaB r x):=by
 unfold d_impl_Feasible feaB
 rw [i_check h hx]; rfl
end Go.Proofs.YtpcmapfabndggaaGreat
/- Copies of plans; plans that are turned: by spec and by impl. -/
namespace Go.Proofs.YtpcmapfabndggaaGreat
open Go
open Enc (rd ow)
open Arg (argv)
open Ret (retv)
open Wf (wf)
end Go.Proofs.YtpcmapfabndggaaGreat
