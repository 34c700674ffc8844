import Derived.Test.YtlmibnlfkmiikaaGreatExactFrontBP2
set_option linter.unusedSimpArgs false
set_option linter.unusedVariables false
/- Check, by impl. -/
namespace Go.Proofs.YtlmibnlfkmiikaaGreat
open Go
open Enc (rd ow)
open Arg (argv)
open Ret (retv)
open Wf (wf)
theorem typ_mem {r:Request} {id:Int} {t:Typ} (h:typM r id = some t):t ∈ r.fTypes:=List.mem_of_find?_eq_some h
theorem chp_any (r:Request) (us:List Int):∀ (l:List Typ) (s:Typ × Bool),(l.foldl (chp r us) s).2 = (s.2 || l.any (hldB r us))
 | [],s=>by simp
 | t :: l,s=>by
  rw [List.foldl_cons,chp_any r us l,List.any_cons]
  unfold chp
  obtain ⟨b,f⟩:=s
  cases hldB r us t <;> cases f <;> simp
  cases (decide (t.fCost < b.fCost) || t.fCost == b.fCost && decide (t.fId < b.fId)) <;> simp
theorem chp_some {r:Request} {us:List Int} {t:Typ} (ht:t ∈ r.fTypes) (h:hldB r us t = true):(chpM r us).2 = true:=by
 unfold chpM
 rw [chp_any]
 simp only [Bool.false_or]
 exact List.any_eq_true.2 ⟨t,ht,h⟩
theorem ch_in {r:Request} {c:Carton} (h:chB r c = true):∀ u ∈ c.fUnits,0 ≤ u ∧ u < (untM r).length:=by
 unfold chB at h
 intro u hu
 split at h
 · simp only [hldB,Bool.and_eq_true] at h
   have:=List.all_eq_true.1 h.2.1 u hu
   simp only [uOk,Bool.and_eq_true] at this
   exact itm_isSome.1 this.1
 · cases h
theorem grp_named {r:Request} {u:Int} (hu:0 ≤ u ∧ u < (untM r).length) {g:Int} (hg:0 ≤ g) :
    (gofM (grpM r) (itmZ r u).fClass == g) = (match ix (grpM r) g with | some l=>l.contains (itmZ r u).fClass | none=>false):=by
 have hi:=itmZ_in hu
 obtain ⟨i,l,h1,h2,h3⟩:=gof_prs (itm_prs hi)
 rw [h3]
 apply Bool.eq_iff_iff.2
 constructor
 · intro h
   have e:(i:Int) = g:=by simpa using h
   rw [← e,ix_at h1]
   simpa using h2
 · intro h
   cases hx:ix (grpM r) g with
   | none=>rw [hx] at h; cases h
   | some m =>
    rw [hx] at h
    obtain ⟨g0,g1,g2⟩:=ix_some hx
    have:=grp_apart h1 g2 h2 (by simpa using h)
    simp; omega
theorem i_fault {fu:Nat} {r:Request} (h:Sm fu r) {x:Plan} (hx:Sp x) (hg:∀ c ∈ x.fCartons,0 ≤ c.fGroup):d_impl_cartonFault fu r x =
    some (bif !(x.fCartons.all (chB r)) then 4 else bif !(x.fCartons.all (cgB r)) then 5 else bif !(x.fCartons.all (ccB r)) then 6 else 0):=by
 have hfu:=h.fu
 have hc:=hx.cars
 unfold d_impl_cartonFault
 have key:=lpI x.fCartons (fun n (_:Unit) i=>d_impl_cartonFault_L3 fu r x n i) (fun l _=>some (bif !(l.all (chB r)) then 4 else bif !(x.fCartons.all (cgB r)) then 5 else bif !(x.fCartons.all (ccB r)) then 6 else 0))
  (fun l _=>l.all (chB r) = true → x.fCartons.all (chB r) = true) (by omega) ?_ ?_ fu () (fun h=>h) (by omega)
 · exact key
 · intro n _ i c xs e hd hI ih
   have hu:=hx.units c (ix_mem e)
   simp only [d_impl_cartonFault_L3_s]
   unfold d_impl_cartonFault_L3_B d_impl_cartonFault_J1
   rw [hd,cond_true,e,ob_some,i_typById h,ob_some,List.all_cons]
   rw [List.all_cons] at hI
   cases ht:typM r c.fType with
   | none=>rw [show chB r c = false by unfold chB; rw [ht]]; rfl
   | some t =>
    simp only [othM,Bool.not_true,cond_false]
    rw [i_holds h _ t hu,ob_some]
    have e1:chB r c = hldB r c.fUnits t:=by unfold chB; rw [ht]
    rw [e1] at hI ⊢
    cases hh:hldB r c.fUnits t
    · rfl
    · rw [hh,Bool.true_and] at hI
      rw [Bool.not_true,cond_false,ih () hI,Bool.true_and]
 · intro n _ i hd hI
   have hA:=hI rfl
   simp only [d_impl_cartonFault_L3_s]
   unfold d_impl_cartonFault_L3_B
   rw [hd,cond_false,i_grp h,ob_some]
   show _ = some (bif !(x.fCartons.all (cgB r)) then 5 else bif !(x.fCartons.all (ccB r)) then 6 else 0)
   have key2:=lp x.fCartons (fun n (_:Unit) i=>d_impl_cartonFault_L2 fu r x (grpM r) n i) (fun l _=>some (bif !(l.all (cgB r)) then 5 else bif !(x.fCartons.all (ccB r)) then 6 else 0)) (by omega) ?_ ?_ fu () (by omega)
   · exact key2
   · intro n _ i c xs e hd ih
     have ih:=ih ()
     have hu:=hx.units c (ix_mem e)
     have hin:=ch_in (List.all_eq_true.1 hA c (ix_mem e))
     have hil:=itsM_len r c.fUnits
     simp only [d_impl_cartonFault_L2_s]
     unfold d_impl_cartonFault_L2_B
     rw [hd,cond_true,e,ob_some,i_items h _ hu (by omega),ob_some,itsM_map hin]
     rw [i_anyItem _ (fun y=>!(match ix (grpM r) c.fGroup with | some l=>l.contains y.fClass | none=>false)) ?_ (by simp; omega) (by simp; omega),ob_some,List.any_map,List.all_cons]
     · have e1:cgB r c = !(c.fUnits.any ((fun y=>!(match ix (grpM r) c.fGroup with | some l=>l.contains y.fClass | none=>false)) ∘ itmZ r)):=by
         unfold cgB
         rw [List.not_any_eq_all_not]
         apply all_cong
         intro u hu'
         rw [grp_named (hin u hu') (hg c (ix_mem e))]
         simp only [Function.comp,Bool.not_not]
       rw [e1,ih]
       cases c.fUnits.any ((fun y=>!(match ix (grpM r) c.fGroup with | some l=>l.contains y.fClass | none=>false)) ∘ itmZ r) <;> simp
     · intro y _
       unfold d_impl_cartonFault_1
       have hg0:=hg c (ix_mem e)
       by_cases hgl:c.fGroup ≥ (grpM r).length
       · have e0:ix (grpM r) c.fGroup = none:=by
           cases hq:ix (grpM r) c.fGroup with
           | none=>rfl
           | some l=>have:=(ix_some hq).2.1; omega
         rw [e0,decide_eq_true hgl,cond_true]; rfl
       · have hlt:c.fGroup.toNat < (grpM r).length:=by omega
         have e0:ix (grpM r) c.fGroup = some (grpM r)[c.fGroup.toNat]:=by
          have:=ix_i hlt
          rwa [show ((c.fGroup.toNat:Nat):Int) = c.fGroup by omega] at this
         have hgl':=(grpM_ok r).2 _ (List.getElem_mem hlt)
         rw [e0,decide_eq_false hgl,cond_false,ob_some,i_has (by omega) (by omega),ob_some]
   · intro n _ i hd
     simp only [d_impl_cartonFault_L2_s]
     unfold d_impl_cartonFault_L2_B
     rw [hd,cond_false]
     show _ = some (bif !(x.fCartons.all (ccB r)) then 6 else 0)
     have key3:=lpI x.fCartons (fun n (_:Unit) i=>d_impl_cartonFault_L1 fu r x n i) (fun l _=>some (bif !(l.all (ccB r)) then 6 else 0)) (fun l _=>l.all (chB r) = true) (by omega) ?_ ?_ fu () hA (by omega)
     · exact key3
     · intro n _ i c xs e hd hI ih
       have hu:=hx.units c (ix_mem e)
       rw [List.all_cons,Bool.and_eq_true] at hI
       have hch:=hI.1
       have h2:(chpM r c.fUnits).2 = true:=by
        unfold chB at hch
        split at hch
        · rename_i t ht
          exact chp_some (typ_mem ht) hch
        · cases hch
       simp only [d_impl_cartonFault_L1_s]
       unfold d_impl_cartonFault_L1_B
       rw [hd,cond_true,e,ob_some,i_cheap h _ hu,ob_some,ih () hI.2,List.all_cons,ccB,h2,Bool.true_and]
       simp only [bne]
       cases (chpM r c.fUnits).1.fId == c.fType <;> rfl
     · intro n _ i hd _
       simp only [d_impl_cartonFault_L1_s]
       unfold d_impl_cartonFault_L1_B
       rw [hd,cond_false]; rfl
theorem i_spots {fu:Nat} {r:Request} (h:Sm fu r) {x:Plan} (hx:Sp x) (el:x.fSpots.length = x.fCartons.length):d_impl_spotFault fu r x =
    some (bif !((cs x).all (insP r)) then 7 else bif !(aprL r [] (cs x)) then 8 else bif !((ints 0 (palM x.fSpots).toNat).all (plB r x)) then 9 else 0):=by
 have hfu:=h.fu
 have hc:=hx.cars
 have hs:=hx.spots
 have hz:=cs_len el
 have hb:=palM_bd x.fSpots
 have bx_len:(((cs x).map fun p=>boxM r p.1).length:Int) = x.fCartons.length:=by simp [hz]
 unfold d_impl_spotFault
 have key:=lpPI (cs x) (fun n (o:List Box) i=>d_impl_spotFault_L4 fu r x n o i) (fun _ l _=>some (bif !(l.all (insP r)) then 7 else bif !(aprL r [] (cs x)) then 8 else bif !((ints 0 (palM x.fSpots).toNat).all (plB r x)) then 9 else 0))
  (fun pre l o=>o = pre.map fun p=>boxM r p.1) (by omega) ?_ ?_ fu [] rfl (by omega)
 · exact key
 · intro n o pre p xs e0 e hd hI ih
   obtain ⟨e1,e2⟩:=zip_ix e
   have hu:=hx.units p.1 (ix_mem e1)
   have hpl:pre.length ≤ (cs x).length:=by rw [e0]; simp
   rw [hz] at hd
   simp only [d_impl_spotFault_L4_s]
   unfold d_impl_spotFault_L4_B
   rw [hd,cond_true,e1,ob_some,i_boxM h _ hu,ob_some,e2,ob_some,i_win,ob_some,List.all_cons,insP]
   cases winB r.fPallet (boxM r p.1) p.2
   · rfl
   · subst hI
     rw [Bool.not_true,cond_false,ap1 (by simp; omega),ob_some,ih _ (by simp),Bool.true_and]
 · intro n o hd hI
   rw [hz] at hd ⊢
   simp only [d_impl_spotFault_L4_s]
   unfold d_impl_spotFault_L4_B
   rw [hd,cond_false]
   show _ = some (bif !(aprL r [] (cs x)) then 8 else bif !((ints 0 (palM x.fSpots).toNat).all (plB r x)) then 9 else 0)
   subst hI
   have key2:=lpP (cs x) (fun n (_:Unit) i=>d_impl_spotFault_L3 fu r x ((cs x).map fun p=>boxM r p.1) n i) (fun pre l _=>some (bif !(aprL r pre l) then 8 else bif !((ints 0 (palM x.fSpots).toNat).all (plB r x)) then 9 else 0)) (by omega) ?_ ?_ fu () (by omega)
   · exact key2
   · intro n _ pre p xs e0 e hd ih
     have ih:=ih ()
     obtain ⟨e1,e2⟩:=zip_ix e
     have hu:=hx.units p.1 (ix_mem e1)
     have hpl:pre.length ≤ (cs x).length:=by rw [e0]; simp
     have b1:ix ((cs x).map fun p=>boxM r p.1) (pre.length:Int) = some (boxM r p.1):=by
      rw [ix_nat,List.getElem?_map]
      rw [ix_nat] at e
      rw [e]; rfl
     simp only [d_impl_spotFault_L3_s]
     unfold d_impl_spotFault_L3_B
     rw [bx_len,← hz,hd,cond_true]
     have key3:=lp pre (fun m (_:Unit) j=>d_impl_spotFault_L1 fu (d_impl_spotFault_L3 fu r x ((cs x).map fun p=>boxM r p.1) n) x ((cs x).map fun p=>boxM r p.1) (pre.length:Int) m j) (fun l _=>some (bif !(l.all (fun q=>!ovP r p q) && aprL r (pre ++ [p]) xs) then 8 else bif !((ints 0 (palM x.fSpots).toNat).all (plB r x)) then 9 else 0)) (by omega) ?_ ?_ fu () (by omega)
     · rw [key3]; rfl
     · intro m _ j q qs f hd2 ih2
       have ih2:=ih2 ()
       have f':ix (cs x) j = some q:=by rw [e0]; exact ix_app f
       obtain ⟨f1,f2⟩:=zip_ix f'
       obtain ⟨j0,j1,j2⟩:=ix_some f'
       have b2:ix ((cs x).map fun p=>boxM r p.1) j = some (boxM r q.1):=by
        unfold ix
        rw [if_pos j0,List.getElem?_map,j2]; rfl
       simp only [d_impl_spotFault_L1_s]
       unfold d_impl_spotFault_L1_B
       simp only [hd2,cond_true,b1,e2,b2,f2,ob_some,i_ovl,ih2,List.all_cons,ovP]
       cases ovlB (boxM r p.1) p.2 (boxM r q.1) q.2 <;> rfl
     · intro m _ j hd2
       simp only [d_impl_spotFault_L1_s]
       unfold d_impl_spotFault_L1_B
       rw [hd2,cond_false,ih]; rfl
   · intro n _ hd
     simp only [d_impl_spotFault_L3_s]
     unfold d_impl_spotFault_L3_B
     rw [bx_len,← hz,hd,cond_false,i_pals hs (by omega),ob_some]
     show _ = some (bif !((ints 0 (palM x.fSpots).toNat).all (plB r x)) then 9 else 0)
     have key4:=lpN (palM x.fSpots) (fun n (_:Unit) i=>d_impl_spotFault_L2 fu r x (palM x.fSpots) n i) (fun l _=>some (bif !(l.all (plB r x)) then 9 else 0)) (by omega) ?_ ?_ (palM x.fSpots).toNat fu () 0 (by omega) (by omega) (by omega)
     · exact key4
     · intro n _ k xs h0 h1 hd ih
       have ih:=ih ()
       have hol:=onM_len x k
       simp only [d_impl_spotFault_L2_s]
       unfold d_impl_spotFault_L2_B
       rw [hd,cond_true,i_on hs (by omega),ob_some,List.all_cons]
       generalize xs.all (plB r x) = A at ih ⊢
       unfold plB
       cases hne:((onM x k).length:Int) == 0
       · rw [cond_false,i_pg h hx,ob_some,Bool.not_false,Bool.true_and]
         cases decide (pgM r x k > r.fPallet.fGram)
         · obtain ⟨i0,c0,g1,g2,rest,g3⟩:=on_cars hne
           unfold d_impl_spotFault_J2 d_impl_spotFault_J1
           rw [cond_false,g1,Option.getD_some,Bool.not_false,Bool.true_and]
           have e0:carM x i0 = c0:=by unfold carM; rw [g2]; rfl
           rw [e0,i_anyInt _ (fun i=>!((carM x i).fGroup == c0.fGroup)) ?_ (by omega) (by omega),ob_some,ih]
           · rw [show (onM x k).all (fun i=>(carM x i).fGroup == c0.fGroup) = !((onM x k).any fun i=>!((carM x i).fGroup == c0.fGroup)) by rw [List.not_any_eq_all_not]; simp]
             cases (onM x k).any fun i=>!((carM x i).fGroup == c0.fGroup) <;> simp
           · intro i hi
             obtain ⟨c,_,hci,_⟩:=onM_mem hi
             unfold d_impl_spotFault_1
             rw [hci,ob_some,g1,ob_some,g2,ob_some,show carM x i = c by unfold carM; rw [hci]; rfl]
             rfl
         · rfl
       · rfl
     · intro n _ i hd
       simp only [d_impl_spotFault_L2_s]
       unfold d_impl_spotFault_L2_B
       rw [hd,cond_false]; rfl
theorem pok_group {x:Plan} (h:pokB x = true):∀ c ∈ x.fCartons,0 ≤ c.fGroup ∧ c.fGroup ≤ 3:=by
 have el:=pok_len h
 unfold pokB at h
 simp only [Bool.and_eq_true] at h
 intro c hc
 obtain ⟨i,hi⟩:=List.mem_iff_getElem?.1 hc
 have hlt:=(List.getElem?_eq_some_iff.1 hi).1
 have hz:(c,x.fSpots[i]'(by omega)) ∈ x.fCartons.zip x.fSpots:=by
  apply List.mem_iff_getElem?.2
  refine ⟨i,List.getElem?_zip_eq_some.2 ⟨hi,List.getElem?_eq_getElem _⟩⟩
 have:=List.all_eq_true.1 h.2.2 _ hz
 simp only [cokB,Bool.and_eq_true,inb_iff] at this
 omega
theorem i_check {fu:Nat} {r:Request} (h:Sm fu r) {x:Plan} (hx:Sp x):d_impl_Check fu r x = some (chkM r x):=by
 have hfu:=h.fu
 have hc:=hx.cars
 have hfl:=flatU_len x.fCartons
 have ha:=hx.all
 have hul:=untM_len r
 unfold d_impl_Check chkM
 rw [i_sound h,ob_some]
 cases hz:clsM r == 0
 · rfl
 · rw [Bool.not_true,cond_false,i_pok hx (by omega),ob_some]
   cases hp:pokB x
   · rfl
   · have el:=pok_len hp
     rw [Bool.not_true,cond_false,i_anyCar (l:=x.fCartons) (fun y=>d_impl_Check_1 fu y) (fun c=>(c.fUnits.length:Int) == 0) (fun c _=>rfl) hc (by omega),ob_some]
     show (bif empB x then _ else _) = _
     cases empB x
     · rw [cond_false]
       unfold d_impl_Check_J1 d_slices_Sort_int_int
       rw [i_flat hx (by omega),ob_some,sortI_some (by omega),ob_some,i_unt h,ob_some,i_places _ (by omega) (by omega),ob_some,i_equal _ _ (by simp; omega) (by simp; omega),ob_some,i_fault h hx (fun c hc=>(pok_group hp c hc).1),ob_some,i_spots h hx el,ob_some]
       have e1:decide ((flatU x.fCartons).mergeSort (fun x y=>decide (x ≤ y)) = ints 0 (untM r).length) = onceB r x:=by
        unfold onceB perB
        rw [ints_sorted]
       rw [e1]
       cases onceB r x
       · rfl
       · cases x.fCartons.all (chB r)
         · rfl
         · cases x.fCartons.all (cgB r)
           · rfl
           · cases x.fCartons.all (ccB r) <;> rfl
     · rfl
end Go.Proofs.YtlmibnlfkmiikaaGreat
/- Feasible, by spec and by impl. -/
namespace Go.Proofs.YtlmibnlfkmiikaaGreat
open Go
open Enc (rd ow)
open Arg (argv)
open Ret (retv)
open Wf (wf)
def feaB (r:Request) (x:Plan):Bool:=chkM r x == 0
theorem s_feas {fu:Nat} {r:Request} (h:Sm fu r) {x:Plan} (hx:Sp x):d_spec_Feasible fu r x = some (feaB r x):=by
 unfold d_spec_Feasible feaB
 rw [s_check h hx]; rfl
theorem i_feas {fu:Nat} {r:Request} (h:Sm fu r) {x:Plan} (hx:Sp x):d_impl_Feasible fu r x = some (feaB r x):=by
 unfold d_impl_Feasible feaB
 rw [i_check h hx]; rfl
end Go.Proofs.YtlmibnlfkmiikaaGreat
/- Copies of plans; plans that are turned: by spec and by impl. -/
namespace Go.Proofs.YtlmibnlfkmiikaaGreat
open Go
open Enc (rd ow)
open Arg (argv)
open Ret (retv)
open Wf (wf)
theorem i_cloneC {fu:Nat} {l:List Carton} (hl:l.length ≤ 1048576) (hm:∀ c ∈ l,c.fUnits.length ≤ 1048576) (hf:1048577 ≤ fu):d_impl_cloneCartons fu l = some l:=by
 unfold d_impl_cloneCartons
 have key:=lpI l (fun n (o:List Carton) i=>d_impl_cloneCartons_L1 fu l n o i) (fun xs o=>some (o ++ xs)) (fun xs o=>o.length + xs.length ≤ 1048576 ∧ ∀ c ∈ xs,c.fUnits.length ≤ 1048576) (by omega) ?_ ?_ fu [] ⟨by simp; omega,hm⟩ (by omega)
 · simpa using key
 · intro n o i c xs hx hd hI ih
   have hI1:=hI.1
   have hu:=hI.2 c (by simp)
   simp only [List.length_cons] at hI1
   simp only [d_impl_cloneCartons_L1_s]
   unfold d_impl_cloneCartons_L1_B d_slices_Clone_int_int
   rw [hd,cond_true,hx,ob_some,ap1 (by simp; omega),ob_some,ob_some,ap1 (by simp; omega),ob_some,ih _ ⟨by simp; omega,fun d hd=>hI.2 d (by simp [hd])⟩]
   simp
 · intro n o i hd _
   simp only [d_impl_cloneCartons_L1_s]
   unfold d_impl_cloneCartons_L1_B
   rw [hd,cond_false]; simp
theorem i_cloneP {fu:Nat} {x:Plan} (h:Sp x) (hf:1048577 ≤ fu):d_impl_clonePlan fu x = some x:=by
 have hs:=h.spots
 unfold d_impl_clonePlan d_slices_Clone_impl_Spot_impl_Spot
 rw [i_cloneC h.cars h.units hf,ob_some,ap1 (by simp; omega)]
 simp
theorem s_copyP {fu:Nat} {x:Plan} (h:Sp x) (hf:1048577 ≤ fu):d_spec_l13Copy fu x = some x:=by
 have hs:=h.spots
 have hc:=h.cars
 unfold d_spec_l13Copy
 rw [ap1 (by simp; omega),ob_some,List.nil_append]
 have key:=lpI x.fCartons (fun n (o:List Carton) i=>d_spec_l13Copy_L1 fu x x.fSpots n o i) (fun xs o=>some (⟨o ++ xs,x.fSpots⟩:Plan)) (fun xs o=>o.length + xs.length ≤ 1048576 ∧ ∀ c ∈ xs,c.fUnits.length ≤ 1048576) (by omega) ?_ ?_ fu [] ⟨by simp; omega,h.units⟩ (by omega)
 · simpa using key
 · intro n o i c xs hx hd hI ih
   have hI1:=hI.1
   have hu:=hI.2 c (by simp)
   simp only [List.length_cons] at hI1
   simp only [d_spec_l13Copy_L1_s]
   unfold d_spec_l13Copy_L1_B d_spec_l9Carton
   rw [hd,cond_true,hx,ob_some,ap1 (by simp; omega),ob_some,ob_some,ap1 (by simp; omega),ob_some,ih _ ⟨by simp; omega,fun d hd=>hI.2 d (by simp [hd])⟩]
   simp
 · intro n o i hd _
   simp only [d_spec_l13Copy_L1_s]
   unfold d_spec_l13Copy_L1_B
   rw [hd,cond_false]; simp
theorem feas_len {r:Request} {x:Plan} (h:feaB r x = true):x.fSpots.length = x.fCartons.length:=by
 unfold feaB chkM at h
 cases hp:pokB x
 · rw [hp] at h
   cases hc:clsM r == 0 <;> rw [hc] at h <;> simp at h
 · exact pok_len hp
theorem turn_loop {β:Type} (z:List (Carton × Spot)) (L:Nat → List Spot → Int → Option β) (f:Carton × Spot → Spot) (fin:List Spot → Option β) (hl:z.length ≤ 1048576)
    (hs:∀ n out (i:Int) p,ix z i = some p → decide (i < (z.length:Int)) = true → out.length = z.length → ix out i = some p.2 → L (n + 1) out i = L n (setx out i (f p)) (w64 (i + 1)))
    (he:∀ n out,out.length = z.length → decide ((z.length:Int) < (z.length:Int)) = false → L (n + 1) out (z.length:Int) = fin out):∀ n,z.length < n → L n (z.map (·.2)) 0 = fin (z.map f):=by
 intro n hn
 have key:=lpPI z (fun n (o:List Spot) i=>L n o i) (fun pre xs _=>fin (pre.map f ++ xs.map f)) (fun pre xs o=>o = pre.map f ++ xs.map (·.2)) (by omega) ?_ ?_ n (z.map (·.2)) (by simp) hn
 · simpa using key
 · intro n o pre p xs e hx hd hI ih
   have hz:z.length = pre.length + (xs.length + 1):=by rw [e]; simp
   subst hI
   have ho:ix (pre.map f ++ (p :: xs).map (·.2)) (pre.length:Int) = some p.2:=by rw [ix_nat]; simp
   show L (n + 1) _ _ = _
   rw [hs n _ _ p hx hd (by simp [hz]) ho,ih _ ?_]
   · simp
   · simp [setx]
 · intro n o hd hI
   subst hI
   show L (n + 1) _ _ = _
   rw [he n _ (by simp) hd]
   simp
theorem cs_spots {x:Plan} (el:x.fSpots.length = x.fCartons.length):(cs x).map (·.2) = x.fSpots:=by
 unfold cs
 rw [List.map_snd_zip]
 omega
def turnM (r:Request) (x:Plan) (f:Box → Spot → Spot):Plan:=bif feaB r x then ⟨x.fCartons,(cs x).map fun p=>f (boxM r p.1) p.2⟩ else x
theorem i_turned {fu:Nat} {r:Request} (h:Sm fu r) {x:Plan} (hx:Sp x) (g:Box → Spot → Option Spot) (f:Box → Spot → Spot) (hf:∀ b s,g b s = some (f b s)):d_impl_turned fu r x g = some (turnM r x f):=by
 have hfu:=h.fu
 have hc:=hx.cars
 unfold d_impl_turned turnM
 rw [i_cloneP hx (by omega),ob_some,i_feas h hx,ob_some]
 cases hb:feaB r x
 · rfl
 · have el:=feas_len hb
   have hz:=cs_len el
   rw [Bool.not_true,cond_false,cond_true]
   have:=turn_loop (cs x) (fun n o i=>d_impl_turned_L1 fu r x g x n o i) (fun p=>f (boxM r p.1) p.2) (fun o=>some (⟨x.fCartons,o⟩:Plan)) (by omega) ?_ ?_ fu (by omega)
   · rw [cs_spots el] at this
     exact this
   · intro n out i p hp hd ho e
     obtain ⟨e1,e2⟩:=zip_ix hp
     have hu:=hx.units p.1 (ix_mem e1)
     rw [hz] at hd
     simp only [d_impl_turned_L1_s]
     unfold d_impl_turned_L1_B
     rw [hd,cond_true,e1,ob_some,e2,ob_some,i_boxM h _ hu,ob_some,hf,ob_some,e,ob_some]
   · intro n out ho hd
     rw [hz] at hd ⊢
     simp only [d_impl_turned_L1_s]
     unfold d_impl_turned_L1_B
     rw [hd,cond_false]
def mirF (r:Request) (b:Box) (s:Spot):Spot:=⟨s.fPallet,w64 (w64 (r.fPallet.fW - s.fX) - b.fW),s.fY,s.fZ⟩
def froF (r:Request) (b:Box) (s:Spot):Spot:=⟨s.fPallet,s.fX,w64 (w64 (r.fPallet.fD - s.fY) - b.fD),s.fZ⟩
def swaF (a b:Int) (_:Box) (s:Spot):Spot:=bif s.fPallet == a then ⟨b,s.fX,s.fY,s.fZ⟩ else bif s.fPallet == b then ⟨a,s.fX,s.fY,s.fZ⟩ else s
theorem i_fro {fu:Nat} {r:Request} (h:Sm fu r) {x:Plan} (hx:Sp x):d_impl_Front fu r x = some (turnM r x (froF r)):=by
 unfold d_impl_Front
 rw [i_turned h hx (fun b s=>d_impl_Front_1 fu b s r) (froF r) (fun b s=>rfl)]; rfl
theorem s_fro {fu:Nat} {r:Request} (h:Sm fu r) {x:Plan} (hx:Sp x):d_spec_Front fu r x = some (turnM r x (froF r)):=by
 have hfu:=h.fu
 have hc:=hx.cars
 unfold d_spec_Front turnM
 rw [s_copyP hx (by omega),ob_some,s_feas h hx,ob_some]
 cases hb:feaB r x
 · rfl
 · have el:=feas_len hb
   have hz:=cs_len el
   rw [Bool.not_true,cond_false,cond_true]
   have:=turn_loop (cs x) (fun n o i=>d_spec_Front_L1 fu r x x n o i) (fun p=>froF r (boxM r p.1) p.2) (fun o=>some (⟨x.fCartons,o⟩:Plan)) (by omega) ?_ ?_ fu (by omega)
   · rw [cs_spots el] at this
     exact this
   · intro n out i p hp hd ho e
     obtain ⟨e1,e2⟩:=zip_ix hp
     have hu:=hx.units p.1 (ix_mem e1)
     rw [← ho] at hd
     simp only [d_spec_Front_L1_s]
     unfold d_spec_Front_L1_B
     rw [hd,cond_true,e2,ob_some,e1,ob_some,s_boxM h _ hu,ob_some,e,ob_some]
     rfl
   · intro n out ho hd
     rw [← ho] at hd ⊢
     simp only [d_spec_Front_L1_s]
     unfold d_spec_Front_L1_B
     rw [hd,cond_false]
def swaM (r:Request) (x:Plan) (a b:Int):Plan:=bif inb a 0 (palM x.fSpots - 1) && inb b 0 (palM x.fSpots - 1) then turnM r x (swaF a b) else x
theorem w64_pal (x:Plan):w64 (palM x.fSpots - 1) = palM x.fSpots - 1:=by
 have:=palM_bd x.fSpots
 exact w64_id (by omega) (by omega)
theorem turnM_sp {r:Request} {x:Plan} (h:Sp x) (f:Box → Spot → Spot):Sp (turnM r x f):=by
 unfold turnM
 cases hb:feaB r x
 · exact h
 · have el:=feas_len hb
   have hs:=h.spots
   exact ⟨h.cars,h.units,h.all,by simp [cs_len el]; omega⟩
theorem swaM_sp {r:Request} {x:Plan} (h:Sp x) (a b:Int):Sp (swaM r x a b):=by
 unfold swaM
 cases inb a 0 (palM x.fSpots - 1) && inb b 0 (palM x.fSpots - 1)
 · exact h
 · exact turnM_sp h _
end Go.Proofs.YtlmibnlfkmiikaaGreat
/- What is held: lists of numbers. -/
namespace Go.Proofs.YtlmibnlfkmiikaaGreat
open Go
open Enc (rd ow)
open Arg (argv)
open Ret (retv)
open Wf (wf)
theorem ints_get:∀ (m:Nat) (a:Int) (i:Nat),i < m → (ints a m)[i]? = some (a + i)
 | 0,_,_,h=>by omega
 | m + 1,a,0,_=>by simp [ints]
 | m + 1,a,i + 1,h=>by
  simp only [ints,List.getElem?_cons_succ]
  rw [ints_get m (a + 1) i (by omega)]
  congr 1
  omega
theorem heldIntS (fu:Nat) (m:Nat) (kv:Int) (hl:m ≤ 1048576) (h0:0 ≤ kv) (h1:kv ≤ 68719476736) (hn:m < fu):d_laws_heldIntS fu (ints kv m) kv = some (kv + m):=by
 unfold d_laws_heldIntS
 have key:∀ (j i n:Nat),m - i = j → i ≤ m → j < n → d_laws_heldIntS_L1 fu (ints kv m) n (kv + i) (i:Int) = some (kv + m):=by
  intro j
  induction j with
  | zero =>
   intro i n hj hi hn
   obtain ⟨n,rfl⟩:∃ j,n = j + 1:=⟨n - 1,by omega⟩
   rw [d_laws_heldIntS_L1_s]
   unfold d_laws_heldIntS_L1_B
   rw [bif_false (by rw [ints_len]; simp; omega)]
   congr 1
   omega
  | succ j ih =>
   intro i n hj hi hn
   obtain ⟨n,rfl⟩:∃ j,n = j + 1:=⟨n - 1,by omega⟩
   rw [d_laws_heldIntS_L1_s]
   unfold d_laws_heldIntS_L1_B
   rw [bif_true (by rw [ints_len]; simp; omega),ix_nat,ints_get m kv i (by omega),ob_some,bif_false (by simp),w64_id (by omega) (by omega),w64_s _ (by omega)]
   have:=ih (i + 1) n (by omega) (by omega) (by omega)
   rw [← this]
   congr 1
   omega
 have:=key m 0 fu (by omega) (by omega) hn
 simpa using this
end Go.Proofs.YtlmibnlfkmiikaaGreat
/- Marks on a plan, exactly; what is held of them. -/
namespace Go.Proofs.YtlmibnlfkmiikaaGreat
open Go
open Enc (rd ow)
open Arg (argv)
open Ret (retv)
open Wf (wf)
def mkC:Int → List Carton → List Carton
 | _,[]=>[]
 | k,c :: l=>⟨k,k + 1,ints (k + 2) c.fUnits.length⟩ :: mkC (k + 2 + c.fUnits.length) l
def mkS:Int → List Spot → List Spot
 | _,[]=>[]
 | k,_ :: l=>⟨k,k + 1,k + 2,k + 3⟩ :: mkS (k + 4) l
theorem mkC_len:∀ (k:Int) (l:List Carton),(mkC k l).length = l.length
 | _,[]=>rfl
 | k,c :: l=>by simp [mkC,mkC_len _ l]
theorem mkS_len:∀ (k:Int) (l:List Spot),(mkS k l).length = l.length
 | _,[]=>rfl
 | k,c :: l=>by simp [mkS,mkS_len _ l]
theorem markCarX (fu:Nat) (l:List Carton) (kv:Int) (hl:l.length ≤ 1048576) (hm:∀ x ∈ l,x.fUnits.length ≤ 1048576) (hs:lensC l ≤ 1073741824) (h0:0 ≤ kv) (h1:kv ≤ 1073741824) (hf:1048577 ≤ fu) :
    d_laws_markCartonS fu l kv = some (kv + 2 * l.length + lensC l,mkC kv l):=by
 unfold d_laws_markCartonS
 have key:∀ (xs pre:List Carton) (n:Nat) (k:Int),pre.length + xs.length = l.length → xs.length < n → 0 ≤ k → k + 2 * xs.length + lensC xs ≤ 4294967296 → (∀ x ∈ xs,x.fUnits.length ≤ 1048576) →
     d_laws_markCartonS_L1 fu n (pre ++ xs) k (pre.length:Int) = some (k + 2 * xs.length + lensC xs,pre ++ mkC k xs):=by
  intro xs
  induction xs with
  | nil =>
   intro pre n k h hn h0 h1 hm
   obtain ⟨n,rfl⟩:∃ j,n = j + 1:=⟨n - 1,by omega⟩
   rw [d_laws_markCartonS_L1_s]
   unfold d_laws_markCartonS_L1_B
   rw [bif_false (by simp)]
   simp [lensC,mkC]
  | cons x xs ih =>
   intro pre n k h hn h0 h1 hm
   obtain ⟨n,rfl⟩:∃ j,n = j + 1:=⟨n - 1,by simp at hn; omega⟩
   simp only [List.length_cons,lensC] at h h1 hn
   have hx:=hm x (by simp)
   rw [d_laws_markCartonS_L1_s]
   unfold d_laws_markCartonS_L1_B
   have e:ix (pre ++ x :: xs) (pre.length:Int) = some x:=by rw [ix_nat]; simp
   have e1:w64 (k + 1) = k + 1:=w64_id (by omega) (by omega)
   have e2:w64 (k + 1 + 1) = k + 1 + 1:=w64_id (by omega) (by omega)
   have em:=markIntS fu x.fUnits (k + 1 + 1) hx (by omega) (by omega) (by omega)
   rw [bif_true (by simp; omega)]
   simp only [e,ob_some,ix_setx_eq,Option.map_some,e1,e2,em]
   rw [w64_s _ (by omega)]
   have e3:∀ y:Carton,setx (setx (setx (pre ++ x :: xs) (pre.length:Int) ⟨k,x.fGroup,x.fUnits⟩) (pre.length:Int) ⟨k,k + 1,x.fUnits⟩) (pre.length:Int) y = (pre ++ [y]) ++ xs:=by intro y; simp [setx]
   rw [e3]
   have:=ih (pre ++ [⟨k,k + 1,ints (k + 1 + 1) x.fUnits.length⟩]) n (k + 1 + 1 + x.fUnits.length) (by simp; omega) (by omega) (by omega) (by omega) (fun y hy=>hm y (by simp [hy]))
   simp only [List.length_append,List.length_singleton] at this
   rw [this]
   have e4:k + 1 + 1 = k + 2:=by omega
   simp only [List.length_cons,lensC,mkC,e4,List.append_assoc,List.singleton_append]
   congr 2
   omega
 have:=key l [] fu kv (by simp) (by omega) h0 (by omega) hm
 simpa using this
theorem markSpX (fu:Nat) (l:List Spot) (kv:Int) (hl:l.length ≤ 1048576) (h0:0 ≤ kv) (h1:kv ≤ 68719476736) (hn:l.length < fu):d_laws_markSpotS fu l kv = some (kv + 4 * l.length,mkS kv l):=by
 unfold d_laws_markSpotS
 have key:∀ (xs pre:List Spot) (n:Nat) (k:Int),pre.length + xs.length = l.length → xs.length < n → 0 ≤ k → k + 4 * xs.length ≤ 687194767360 →
     d_laws_markSpotS_L1 fu n (pre ++ xs) k (pre.length:Int) = some (k + 4 * xs.length,pre ++ mkS k xs):=by
  intro xs
  induction xs with
  | nil =>
   intro pre n k h hn h0 h1
   obtain ⟨n,rfl⟩:∃ j,n = j + 1:=⟨n - 1,by omega⟩
   rw [d_laws_markSpotS_L1_s]
   unfold d_laws_markSpotS_L1_B
   rw [bif_false (by simp)]
   simp [mkS]
  | cons x xs ih =>
   intro pre n k h hn h0 h1
   obtain ⟨n,rfl⟩:∃ j,n = j + 1:=⟨n - 1,by simp at hn; omega⟩
   simp only [List.length_cons] at h h1 hn
   rw [d_laws_markSpotS_L1_s]
   unfold d_laws_markSpotS_L1_B
   have e:ix (pre ++ x :: xs) (pre.length:Int) = some x:=by rw [ix_nat]; simp
   have e1:w64 (k + 1) = k + 1:=w64_id (by omega) (by omega)
   have e2:w64 (k + 1 + 1) = k + 2:=by rw [w64_id (by omega) (by omega)]; omega
   have e3:w64 (k + 2 + 1) = k + 3:=by rw [w64_id (by omega) (by omega)]; omega
   have e4:w64 (k + 3 + 1) = k + 4:=by rw [w64_id (by omega) (by omega)]; omega
   rw [bif_true (by simp; omega)]
   simp only [e,ob_some,ix_setx_eq,Option.map_some,e1,e2,e3,e4]
   rw [w64_s _ (by omega)]
   have e5:∀ y1 y2 y3 y:Spot,setx (setx (setx (setx (pre ++ x :: xs) (pre.length:Int) y1) (pre.length:Int) y2) (pre.length:Int) y3) (pre.length:Int) y = (pre ++ [y]) ++ xs:=by intro _ _ _ y; simp [setx]
   rw [e5]
   have:=ih (pre ++ [⟨k,k + 1,k + 2,k + 3⟩]) n (k + 4) (by simp; omega) (by omega) (by omega) (by omega)
   simp only [List.length_append,List.length_singleton] at this
   rw [this]
   simp only [List.length_cons,mkS,List.append_assoc,List.singleton_append]
   congr 2
   omega
 have:=key l [] fu kv (by simp) (by omega) h0 (by omega)
 simpa using this
theorem heldCarX (fu:Nat) (l:List Carton) (kv:Int) (hl:l.length ≤ 1048576) (hm:∀ x ∈ l,x.fUnits.length ≤ 1048576) (hs:lensC l ≤ 1073741824) (h0:0 ≤ kv) (h1:kv ≤ 1073741824) (hf:1048577 ≤ fu) :
    d_laws_heldCartonS fu (mkC kv l) kv = some (kv + 2 * l.length + lensC l):=by
 unfold d_laws_heldCartonS
 have hml:=mkC_len kv l
 have key:∀ (xs:List Carton) (pre:List Carton) (n:Nat) (k:Int),pre ++ mkC k xs = mkC kv l → xs.length < n → 0 ≤ k → k + 2 * xs.length + lensC xs ≤ 4294967296 → (∀ x ∈ xs,x.fUnits.length ≤ 1048576) →
     d_laws_heldCartonS_L1 fu (mkC kv l) n k (pre.length:Int) = some (k + 2 * xs.length + lensC xs):=by
  intro xs
  induction xs with
  | nil =>
   intro pre n k h hn h0 h1 hm
   obtain ⟨n,rfl⟩:∃ j,n = j + 1:=⟨n - 1,by omega⟩
   rw [d_laws_heldCartonS_L1_s]
   unfold d_laws_heldCartonS_L1_B
   rw [← h]
   rw [bif_false (by simp [mkC])]
   simp [lensC]
  | cons x xs ih =>
   intro pre n k h hn h0 h1 hm
   obtain ⟨n,rfl⟩:∃ j,n = j + 1:=⟨n - 1,by simp at hn; omega⟩
   simp only [List.length_cons,lensC] at h1 hn
   have hx:=hm x (by simp)
   have hlen:pre.length + (1 + (mkC (k + 2 + x.fUnits.length) xs).length) = (mkC kv l).length:=by rw [← h]; simp [mkC]; omega
   have e:ix (mkC kv l) (pre.length:Int) = some ⟨k,k + 1,ints (k + 2) x.fUnits.length⟩:=by rw [← h,ix_nat]; simp [mkC]
   have e1:w64 (k + 1) = k + 1:=w64_id (by omega) (by omega)
   have e2:w64 (k + 1 + 1) = k + 2:=by rw [w64_id (by omega) (by omega)]; omega
   have eh:=heldIntS fu x.fUnits.length (k + 2) hx (by omega) (by omega) (by omega)
   rw [d_laws_heldCartonS_L1_s]
   unfold d_laws_heldCartonS_L1_B
   rw [bif_true (by simp; omega)]
   simp only [e,ob_some,e1,e2,eh,bne_self_eq_false,cond_false]
   rw [bif_false (by simp; omega),w64_s _ (by omega)]
   have:=ih (pre ++ [⟨k,k + 1,ints (k + 2) x.fUnits.length⟩]) n (k + 2 + x.fUnits.length) (by rw [← h]; simp [mkC]) (by omega) (by omega) (by omega) (fun y hy=>hm y (by simp [hy]))
   simp only [List.length_append,List.length_singleton] at this
   rw [this]
   simp only [List.length_cons,lensC]
   congr 1
   omega
 have:=key l [] fu kv (by simp) (by omega) h0 (by omega) hm
 simpa using this
theorem heldSpX (fu:Nat) (l:List Spot) (kv:Int) (hl:l.length ≤ 1048576) (h0:0 ≤ kv) (h1:kv ≤ 68719476736) (hn:l.length < fu):d_laws_heldSpotS fu (mkS kv l) kv = some (kv + 4 * l.length):=by
 unfold d_laws_heldSpotS
 have hml:=mkS_len kv l
 have key:∀ (xs pre:List Spot) (n:Nat) (k:Int),pre ++ mkS k xs = mkS kv l → xs.length < n → 0 ≤ k → k + 4 * xs.length ≤ 687194767360 →
     d_laws_heldSpotS_L1 fu (mkS kv l) n k (pre.length:Int) = some (k + 4 * xs.length):=by
  intro xs
  induction xs with
  | nil =>
   intro pre n k h hn h0 h1
   obtain ⟨n,rfl⟩:∃ j,n = j + 1:=⟨n - 1,by omega⟩
   rw [d_laws_heldSpotS_L1_s]
   unfold d_laws_heldSpotS_L1_B
   rw [← h,bif_false (by simp [mkS])]
   simp
  | cons x xs ih =>
   intro pre n k h hn h0 h1
   obtain ⟨n,rfl⟩:∃ j,n = j + 1:=⟨n - 1,by simp at hn; omega⟩
   simp only [List.length_cons] at h1 hn
   have hlen:pre.length + (1 + (mkS (k + 4) xs).length) = (mkS kv l).length:=by rw [← h]; simp [mkS]; omega
   have e:ix (mkS kv l) (pre.length:Int) = some ⟨k,k + 1,k + 2,k + 3⟩:=by rw [← h,ix_nat]; simp [mkS]
   have e1:w64 (k + 1) = k + 1:=w64_id (by omega) (by omega)
   have e2:w64 (k + 1 + 1) = k + 2:=by rw [w64_id (by omega) (by omega)]; omega
   have e3:w64 (k + 2 + 1) = k + 3:=by rw [w64_id (by omega) (by omega)]; omega
   have e4:w64 (k + 3 + 1) = k + 4:=by rw [w64_id (by omega) (by omega)]; omega
   rw [d_laws_heldSpotS_L1_s]
   unfold d_laws_heldSpotS_L1_B
   rw [bif_true (by simp; omega)]
   simp only [e,ob_some,e1,e2,e3,e4,bne_self_eq_false,cond_false]
   rw [w64_s _ (by omega)]
   have:=ih (pre ++ [⟨k,k + 1,k + 2,k + 3⟩]) n (k + 4) (by rw [← h]; simp [mkS]) (by omega) (by omega) (by omega)
   simp only [List.length_append,List.length_singleton] at this
   rw [this]
   simp only [List.length_cons]
   congr 1
   omega
 have:=key l [] fu kv (by simp) (by omega) h0 (by omega)
 simpa using this
def mkP (k:Int) (x:Plan):Plan:=⟨mkC k x.fCartons,mkS (k + 2 * x.fCartons.length + lensC x.fCartons) x.fSpots⟩
def mkN (k:Int) (x:Plan):Int:=k + 2 * x.fCartons.length + lensC x.fCartons + 4 * x.fSpots.length
theorem markPlX {fu:Nat} {x:Plan} (h:Sp x) (hf:1048577 ≤ fu) (kv:Int) (h0:0 ≤ kv) (h1:kv ≤ 1073741824):d_laws_markPlan fu x kv = some (mkN kv x,mkP kv x):=by
 have hs:=h.spots
 have hc:=h.cars
 have ha:=h.all
 unfold d_laws_markPlan mkN mkP
 rw [markCarX fu x.fCartons kv hc h.units (by omega) h0 h1 hf,ob_some]
 simp only [markSpX fu x.fSpots (kv + 2 * x.fCartons.length + lensC x.fCartons) hs (by omega) (by omega) (by omega),ob_some]
theorem heldPlX {fu:Nat} {x:Plan} (h:Sp x) (hf:1048577 ≤ fu) (kv:Int) (h0:0 ≤ kv) (h1:kv ≤ 1073741824):d_laws_heldPlan fu (mkP kv x) kv = some (mkN kv x):=by
 have hs:=h.spots
 have hc:=h.cars
 have ha:=h.all
 unfold d_laws_heldPlan mkN mkP
 rw [heldCarX fu x.fCartons kv hc h.units (by omega) h0 h1 hf,ob_some,bif_false (by simp; omega)]
 simp only [heldSpX fu x.fSpots (kv + 2 * x.fCartons.length + lensC x.fCartons) hs (by omega) (by omega) (by omega),ob_some]
 rw [bif_false (by simp; omega)]
theorem mkN_bd {x:Plan} (h:Sp x):0 ≤ mkN 1 x:=by unfold mkN; omega
end Go.Proofs.YtlmibnlfkmiikaaGreat
