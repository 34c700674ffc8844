/- ExactPackTextBP: plain lemmas, part 4. -/
import Derived.Test.YthkaklkinepfkaaGreatDoorExactPackTextBP3
set_option linter.unusedSimpArgs false
set_option linter.unusedVariables false
namespace Go.Proofs.YthkaklkinepfkaaGreatDoor
open Go
open Enc (rd ow)
open Arg (argv)
open Ret (retv)
open Wf (wf)
theorem i_ldJ2 {fu:Nat} {k7:List Load → Int → Option (List Load)} {i:Int} {b:Layer} {o:List Load} {j:Nat} {s:Load} (hs:o[j]? = some s) (hl:s.fLayers.length ≤ 1000000)
    (h1:-1000000000 ≤ s.fH + b.fH ∧ s.fH + b.fH ≤ 1000000000) (h2:-1000000000 ≤ s.fGram + b.fGram ∧ s.fGram + b.fGram ≤ 1000000000):d_impl_LoadsOf_J2 fu k7 i b o (j:Int) = k7 (o.set j (ldAdd s i b)) (w64 (i + 1)):=by
 unfold d_impl_LoadsOf_J2 d_impl_LoadsOf_J1
 rw [ix_nat,hs,ob_some,ap1 (by simp; omega),ob_some]
 simp only [ob_some,setx_nat,List.set_set,mx_if]
 rw [w64_id (n:=s.fH + b.fH) (by omega) (by omega),w64_id (n:=s.fGram + b.fGram) (by omega) (by omega)]
 rfl
theorem containsLayer_eq (fu:Nat) (l:List Layer) (f:Layer → Option Bool) (g:Layer → Bool) (hg:∀ b,f b = some (g b)) (h:l.length ≤ 1048576) (hf:l.length < fu) :
    d_slices_ContainsFunc_impl_Layer_impl_Layer fu l f = some (l.any g):=by
 unfold d_slices_ContainsFunc_impl_Layer_impl_Layer d_slices_IndexFunc_impl_Layer_impl_Layer
 have key:∀ (m i n:Nat),l.length - i = m → i ≤ l.length → m < n → ∃ r,d_slices_IndexFunc_impl_Layer_impl_Layer_L1 fu l f n i = some r ∧ decide (r ≥ 0) = (l.drop i).any g:=by
  intro m
  induction m with
  | zero =>
   intro i n hm hi hn
   obtain ⟨n,rfl⟩:∃ k,n = k + 1:=⟨n - 1,by omega⟩
   rw [d_slices_IndexFunc_impl_Layer_impl_Layer_L1.eq_2]
   unfold d_slices_IndexFunc_impl_Layer_impl_Layer_L1_B
   rw [bif_false (by simp; omega),List.drop_eq_nil_of_le (by omega)]
   exact ⟨_,rfl,rfl⟩
  | succ m ih =>
   intro i n hm hi hn
   obtain ⟨n,rfl⟩:∃ k,n = k + 1:=⟨n - 1,by omega⟩
   have hlt:i < l.length:=by omega
   rw [d_slices_IndexFunc_impl_Layer_impl_Layer_L1.eq_2]
   unfold d_slices_IndexFunc_impl_Layer_impl_Layer_L1_B
   rw [bif_true (by simpa using hlt),ob_of (ix_at (List.getElem?_eq_getElem hlt)),hg,ob_some,List.drop_eq_getElem_cons hlt,List.any_cons]
   cases hgx:g l[i]
   · rw [bif_false rfl,w64_id (by omega) (by omega),Bool.false_or]
     have:=ih (i + 1) n (by omega) (by omega) (by omega)
     simpa using this
   · rw [bif_true rfl]
     exact ⟨_,rfl,by simp⟩
 obtain ⟨r,h1,h2⟩:=key l.length 0 fu (by omega) (by omega) hf
 have h1':d_slices_IndexFunc_impl_Layer_impl_Layer_L1 fu l f fu 0 = some r:=h1
 rw [h1',ob_some,h2]
 rfl
theorem i_sto {fu:Nat} (p:Pallet) (l:List Layer) (hl:l.length ≤ 1048576) (hf:l.length < fu):d_impl_StacksOk fu p l = some (palB p && l.all fun s=>okL p s.fD s.fH s.fGram):=by
 unfold d_impl_StacksOk
 have e:∀ a b c:Int,inB a b c = inb a b c:=fun a b c=>Bool.eq_iff_iff.2 (by rw [inB_iff,inb_iff])
 have ep:palletB p = palB p:=by unfold palletB palB; simp only [e]
 rw [implPalletOk_eq,ob_some,ep,containsLayer_eq fu l _ (fun s=>!okL p s.fD s.fH s.fGram) (fun s=>by
  unfold d_impl_StacksOk_1 okL
  simp only [in_eq,ob_some,e]
  cases inb s.fD 1 p.fD <;> cases inb s.fH 1 p.fH <;> rfl) hl hf,ob_some]
 cases palB p
 · rfl
 · rw [cond_true,Bool.true_and]
   congr 1
   rw [Bool.eq_iff_iff]
   simp
theorem i_loads {fu:Nat} (hfu:2097153 ≤ fu) {p:Pallet} (hp:palB p = true) {l:List Layer} (hb:OkY p l) (hl:l.length ≤ 1000):d_impl_LoadsOf fu p l = some (ldM p l):=by
 unfold d_impl_LoadsOf ldM
 rw [i_sto p l (by omega) (by omega),hp,okY_b hb,ob_some,Bool.and_self,Bool.not_true,cond_false]
 obtain ⟨p1,p2,p3,p4⟩:=pal_bd hp
 refine lpNI (l.length:Int) (fun n (o:List Load) i=>d_impl_LoadsOf_L1 fu p l n o i) (fun xs o=>some (xs.foldl (ldS p l) o)) (fun xs o=>(∀ s ∈ o,LdI p l.length s) ∧ ((o.map (·.fLayers)).flatten).length + xs.length ≤ 1000 ∧ o.length + xs.length ≤ 1000) (by omega) ?_ ?_ l.length fu [] 0 (by omega) (by omega) (by omega) ⟨by simp,by simp [ints_len]; omega,by simp [ints_len]; omega⟩
 · intro n o i xs x0 x1 hd hI ih
   obtain ⟨i2,i3,i4⟩:=hI
   simp only [List.length_cons] at i3 i4
   obtain ⟨hbx,b1,b2,b3,_⟩:=lyA_at hb ⟨x0,x1⟩
   have hflat:((ldS p l o i).map (·.fLayers)).flatten = (o.map (·.fLayers)).flatten ++ [i]:=nxG_flat (fun s=>rfl) rfl
   have hlen:(ldS p l o i).length ≤ o.length + 1:=nxG_len _ _ _ _
   have ih':=ih (ldS p l o i) ⟨ldS_all hb ⟨x0,x1⟩ i2,by rw [hflat,List.length_append,List.length_singleton]; omega,by omega⟩
   simp only [d_impl_LoadsOf_L1.eq_2]
   unfold d_impl_LoadsOf_L1_B
   rw [hd,cond_true,hbx,ob_some,List.foldl_cons,← ih']
   have hnew:∀ o':List Load,o'.length ≤ 1000 → d_impl_LoadsOf_J2 fu (fun o i=>d_impl_LoadsOf_L1 fu p l n o i) i (lyA l i) (o' ++ [zLd]) ((o'.length:Nat):Int) = d_impl_LoadsOf_L1 fu p l n (o' ++ [ldAdd zLd i (lyA l i)]) (w64 (i + 1)):=fun o' ho'=>by
    rw [i_ldJ2 (s:=zLd) (by simp) (by simp [zLd]) (by simp [zLd]; omega) (by simp [zLd]; omega)]
    simp
   by_cases he:o = []
   · subst he
     rw [bif_true (by decide),ap1 (by simp),ob_some]
     exact hnew [] (by simp)
   · obtain ⟨s,e1,e2⟩:=last_at he
     have hp:=List.length_pos_iff.2 he
     have hsm':=List.mem_of_getLast? e1
     have hs:=i2 s hsm'
     have hsl':=flat_le (fun s:Load=>s.fLayers) o s hsm'
     have eS:ldS p l o i = bif ldFit p (lyA l i) s then o.set (o.length - 1) (ldAdd s i (lyA l i)) else o ++ [ldAdd zLd i (lyA l i)]:=nxG_some e1
     have e3:w64 ((o.length:Int) - 1) = ((o.length - 1:Nat):Int):=by rw [w64_id (by omega) (by omega)]; omega
     have e4:w64 (((o.length - 1:Nat):Int) + 1) = ((o.length:Nat):Int):=by rw [w64_id (by omega) (by omega)]; omega
     have e5:o[o.length - 1]? = some s:=by rw [← List.getLast?_eq_getElem?]; exact e1
     obtain ⟨s1,s2,s4,s5⟩:=hs
     rw [e3,e4,bif_false (by simp),ix_nat,e5,ob_some,w64_id (n:=s.fH + _) (by omega) (by omega),w64_id (n:=s.fGram + _) (by omega) (by omega),ap1 (by simp; omega),ob_some,eS]
     unfold ldFit
     have c1:decide (s.fH + (lyA l i).fH > p.fH) = !decide (s.fH + (lyA l i).fH ≤ p.fH):=by
      by_cases h:s.fH + (lyA l i).fH ≤ p.fH <;> simp [h] <;> omega
     have c2:decide (s.fGram + (lyA l i).fGram > p.fGram) = !decide (s.fGram + (lyA l i).fGram ≤ p.fGram):=by
      by_cases h:s.fGram + (lyA l i).fGram ≤ p.fGram <;> simp [h] <;> omega
     rw [c1,c2,ob_some]
     have h1:=hnew o (by omega)
     have h2:d_impl_LoadsOf_J2 fu (fun o i=>d_impl_LoadsOf_L1 fu p l n o i) i (lyA l i) o ((o.length - 1:Nat):Int) = d_impl_LoadsOf_L1 fu p l n (o.set (o.length - 1) (ldAdd s i (lyA l i))) (w64 (i + 1)):=i_ldJ2 e5 (by omega) (by omega) (by omega)
     cases decide (s.fH + (lyA l i).fH ≤ p.fH)
     · exact h1
     · cases decide (s.fGram + (lyA l i).fGram ≤ p.fGram)
       · exact h1
       · exact h2
 · intro n o i hd _
   simp only [d_impl_LoadsOf_L1.eq_2]
   unfold d_impl_LoadsOf_L1_B
   rw [hd,cond_false]; rfl
theorem i_spotsOf {fu:Nat} (hfu:2097153 ≤ fu) (p:Pallet) (l:List Box) (hl:l.length < 20):d_impl_SpotsOf fu p l = some (spM p l):=by
 unfold d_impl_SpotsOf spM
 rw [implBoxesOk_eq fu p l (by omega) (by omega),ob_some,bos_eq]
 cases hb:bosB p l
 · rfl
 · obtain ⟨a1,a2,a3⟩:=shM_all hb
   have hS:=okS_sh hb
   obtain ⟨y1,y2,y3⟩:=lyM_all hS
   have hY:=okY_ly hS
   obtain ⟨d1,d2,d3⟩:=ldM_all hY
   have hpb:=bos_pal hb
   obtain ⟨q1,q2,q3,q4⟩:=pal_bd hpb
   rw [Bool.not_true,cond_false,cond_true,i_shelves hfu p l hl,ob_some,i_layers hfu hpb hS (by omega),ob_some,mk_some (by omega),ob_some,i_loads hfu hpb hY (by omega),ob_some]
   have f1:∀ s ∈ shM p l,s.fList.length ≤ 1000:=fun s hs=>by
    have:=flat_le (fun s:Shelf=>s.fList) _ s hs
    rw [a2,srt_len] at this; omega
   have f2:∀ s ∈ lyM p (shM p l),s.fShelves.length ≤ 1000:=fun s hs=>by
    have:=flat_le (fun s:Layer=>s.fShelves) _ s hs
    rw [y2,ints_len] at this; omega
   have f3:∀ s ∈ ldM p (lyM p (shM p l)),s.fLayers.length ≤ 1000:=fun s hs=>by
    have:=flat_le (fun s:Load=>s.fLayers) _ s hs
    rw [d2,ints_len] at this; omega
   generalize ldM p (lyM p (shM p l)) = ld at d1 d3 f3 ⊢
   generalize lyM p (shM p l) = ly at y1 y3 hY d1 d3 f2 ⊢
   generalize shM p l = sh at a1 a3 hS y1 y3 f1 ⊢
   have L4:=lpNI (ld.length:Int) (fun n (out:List Spot) o=>d_impl_SpotsOf_L4 fu l sh ly ld n out o) (fun os out=>some (spO l sh ly ld os out)) (fun os out=>out.length = l.length) (by omega) ?_ ?_ ld.length fu (List.replicate l.length zSp) 0 (by omega) (by omega) (by omega) (by simp)
   · exact L4
   · intro n out o os o0 o1 hd hI ih
     obtain ⟨x,hx⟩:=ix_in (l:=ld) o0 o1
     have ex:ldA ld o = x:=by unfold ldA; rw [hx]; rfl
     have hxm:=d1 x (ix_mem hx)
     have hxl:=f3 x (ix_mem hx)
     simp only [d_impl_SpotsOf_L4.eq_2]
     unfold d_impl_SpotsOf_L4_B
     rw [hd,cond_true,hx,ob_some]
     have L3:=lpI x.fLayers (fun m (s:List Spot × Int) i=>d_impl_SpotsOf_L3 fu (d_impl_SpotsOf_L4 fu l sh ly ld n) l sh ly o x m s.1 s.2 i) (fun is s=>d_impl_SpotsOf_L4 fu l sh ly ld n (spY l sh ly o is s).1 (w64 (o + 1))) (fun is s=>s.1.length = l.length ∧ (∀ i ∈ is,0 ≤ i ∧ i < ly.length) ∧ 0 ≤ s.2 ∧ s.2 + 2000 * is.length ≤ 2000000) (by omega) ?_ ?_ fu (out,0) ⟨hI,hxm.inn,by simp,by simp; omega⟩ (by omega)
     · refine L3.trans ?_
       rw [ih _ (by rw [spY_len]; exact hI)]
       simp only [spO,List.foldl_cons,ex]
     · intro m ⟨out,z⟩ i j is hj hd hI ih
       obtain ⟨i1,i2,i3,i4⟩:out.length = l.length ∧ (∀ i ∈ j :: is,0 ≤ i ∧ i < ly.length) ∧ 0 ≤ z ∧ z + 2000 * ((j :: is).length:Int) ≤ 2000000:=hI
       simp only [List.length_cons] at i4
       obtain ⟨hly,t1,t2,t3,hmem⟩:=lyA_at hY (i2 j (by simp))
       have hyi:=y1 _ hmem
       have hyl:=f2 _ hmem
       simp only [d_impl_SpotsOf_L3.eq_2]
       unfold d_impl_SpotsOf_L3_B
       rw [hd,cond_true,hj,ob_some,hly,ob_some]
       have L2:=lpI (lyA ly j).fShelves (fun q (s:List Spot × Int) k=>d_impl_SpotsOf_L2 fu (d_impl_SpotsOf_L3 fu (d_impl_SpotsOf_L4 fu l sh ly ld n) l sh ly o x m) l sh ly o z i j (lyA ly j) q s.1 s.2 k) (fun ks s=>d_impl_SpotsOf_L3 fu (d_impl_SpotsOf_L4 fu l sh ly ld n) l sh ly o x m (spS l sh o z ks s).1 (w64 (z + (lyA ly j).fH)) (w64 (i + 1))) (fun ks s=>s.1.length = l.length ∧ (∀ i ∈ ks,0 ≤ i ∧ i < sh.length) ∧ 0 ≤ s.2 ∧ s.2 + 2000 * ks.length ≤ 2000000) (by omega) ?_ ?_ fu (out,0) ⟨i1,hyi.inn,by simp,by simp; omega⟩ (by omega)
       · refine L2.trans ?_
         rw [w64_id (n:=z + _) (by omega) (by omega)]
         exact ih ((spS l sh o z (lyA ly j).fShelves (out,0)).1,z + (lyA ly j).fH) ⟨by rw [spS_len]; exact i1,fun i hi=>i2 i (by simp [hi]),by simp; omega,by simp; omega⟩
       · intro q ⟨out,y⟩ k b ks hb2 hd hI ih
         obtain ⟨i1,i2,i3,i4⟩:out.length = l.length ∧ (∀ i ∈ b :: ks,0 ≤ i ∧ i < sh.length) ∧ 0 ≤ y ∧ y + 2000 * ((b :: ks).length:Int) ≤ 2000000:=hI
         simp only [List.length_cons] at i4
         obtain ⟨hsh,u1,u2,u3,hmem2⟩:=shA_at hS (i2 b (by simp))
         have hsi:=a1 _ hmem2
         have hsl:=f1 _ hmem2
         simp only [d_impl_SpotsOf_L2.eq_2]
         unfold d_impl_SpotsOf_L2_B
         rw [hd,cond_true,hb2,ob_some,hsh,ob_some]
         have L1:=lpI (shA sh b).fList (fun q' (s:List Spot × Int) k'=>d_impl_SpotsOf_L1 fu (d_impl_SpotsOf_L2 fu (d_impl_SpotsOf_L3 fu (d_impl_SpotsOf_L4 fu l sh ly ld n) l sh ly o x m) l sh ly o z i j (lyA ly j) q) l sh o z y k b (shA sh b) q' s.1 s.2 k') (fun bs s=>d_impl_SpotsOf_L2 fu (d_impl_SpotsOf_L3 fu (d_impl_SpotsOf_L4 fu l sh ly ld n) l sh ly o x m) l sh ly o z i j (lyA ly j) q (spB l o y z bs s).1 (w64 (y + (shA sh b).fD)) (w64 (k + 1))) (fun bs s=>s.1.length = l.length ∧ (∀ i ∈ bs,0 ≤ i ∧ i < l.length) ∧ 0 ≤ s.2 ∧ s.2 + 2000 * bs.length ≤ 2000000) (by omega) ?_ ?_ fu (out,0) ⟨i1,hsi.inn,by simp,by simp; omega⟩ (by omega)
         · refine L1.trans ?_
           rw [w64_id (n:=y + _) (by omega) (by omega)]
           exact ih ((spB l o y z (shA sh b).fList (out,0)).1,y + (shA sh b).fD) ⟨by rw [spB_len]; exact i1,fun i hi=>i2 i (by simp [hi]),by simp; omega,by simp; omega⟩
         · intro q' ⟨out,x'⟩ k' c bs hc hd hI ih
           obtain ⟨i1,i2,i3,i4⟩:out.length = l.length ∧ (∀ i ∈ c :: bs,0 ≤ i ∧ i < l.length) ∧ 0 ≤ x' ∧ x' + 2000 * ((c :: bs).length:Int) ≤ 2000000:=hI
           simp only [List.length_cons] at i4
           have hcr:=i2 c (by simp)
           obtain ⟨hbx,v1,v2,v3,v4⟩:=bok_at hb hcr
           obtain ⟨sp,hsp⟩:=ix_in (l:=out) hcr.1 (by omega)
           simp only [d_impl_SpotsOf_L1.eq_2]
           unfold d_impl_SpotsOf_L1_B
           rw [hd,cond_true,hc,ob_some,hsp,ob_some,hbx,ob_some,w64_id (n:=x' + _) (by omega) (by omega)]
           exact ih (setx out c ⟨o,x',y,z⟩,x' + (bxA l c).fW) ⟨by rw [setx_len']; exact i1,fun i hi=>i2 i (by simp [hi]),by simp; omega,by simp; omega⟩
         · intro q' ⟨out,x'⟩ k' hd _
           simp only [d_impl_SpotsOf_L1.eq_2]
           unfold d_impl_SpotsOf_L1_B
           rw [hd,cond_false,hsh,ob_some]; rfl
       · intro q ⟨out,y⟩ k hd _
         simp only [d_impl_SpotsOf_L2.eq_2]
         unfold d_impl_SpotsOf_L2_B
         rw [hd,cond_false,hly,ob_some]; rfl
     · intro m ⟨out,z⟩ i hd _
       simp only [d_impl_SpotsOf_L3.eq_2]
       unfold d_impl_SpotsOf_L3_B
       rw [hd,cond_false]; rfl
   · intro n out o hd _
     simp only [d_impl_SpotsOf_L4.eq_2]
     unfold d_impl_SpotsOf_L4_B
     rw [hd,cond_false]; rfl
theorem bxs_few {r:Request} {k:Int} (h:0 ≤ k ∧ k < (grpM r).length):(bxsK r k).length ≤ 12:=by
 rw [bxs_eq h,List.length_map]
 exact crtK_len k
theorem i_plan {fu:Nat} {r:Request} (h:Sm fu r):d_impl_PlanOf fu r = some (plnM r):=by
 have hfu:=h.fu
 have hg:=(grpM_ok r).1
 have hcl:=crtL_len r
 unfold d_impl_PlanOf plnM
 rw [i_sound h,ob_some]
 cases hc:clsM r == 0
 · rfl
 · have hz:clsM r = 0:=by simpa using hc
   rw [Bool.not_true,cond_false,cond_true,i_crt h,ob_some,i_grp h,ob_some]
   have L3:=lpNI ((grpM r).length:Int) (fun n (s:List Spot × Int) k=>d_impl_PlanOf_L3 fu r (crtL r) (grpM r) n s.1 s.2 k) (fun ks s=>some ((⟨crtL r,(ks.foldl (plS r) s).1⟩:Plan),true)) (fun ks s=>(∀ k ∈ ks,0 ≤ k ∧ k < (grpM r).length) ∧ s.1.length + 48 * ks.length ≤ 1000 ∧ 0 ≤ s.2 ∧ s.2 + 1000000 * ks.length ≤ 10000000) (by omega) ?_ ?_ (grpM r).length fu ([],0) 0 (by omega) (by omega) (by omega) ⟨fun k hk=>by have:=ints_mem.1 hk; omega,by simp [ints_len]; omega,by simp,by simp [ints_len]; omega⟩
   · exact L3
   · intro n ⟨sp,base⟩ k ks k0 k1 hd hI ih
     obtain ⟨i1,i2,i3,i4⟩:(∀ j ∈ k :: ks,0 ≤ j ∧ j < (grpM r).length) ∧ sp.length + 48 * (k :: ks).length ≤ 1000 ∧ 0 ≤ base ∧ base + 1000000 * ((k :: ks).length:Int) ≤ 10000000:=hI
     simp only [List.length_cons] at i2 i4
     simp only [d_impl_PlanOf_L3.eq_2]
     unfold d_impl_PlanOf_L3_B
     rw [hd,cond_true]
     have L2:=lpI (crtL r) (fun m (bs:List Box) i=>d_impl_PlanOf_L2 fu (d_impl_PlanOf_L3 fu r (crtL r) (grpM r) n) r (crtL r) sp base k m bs i) (fun cs bs=>obind (d_impl_SpotsOf fu r.fPallet (bs ++ (cs.filter fun c=>c.fGroup == k).map (boxM r))) fun x=>obind (d_impl_Pallets fu x) fun y=>d_impl_PlanOf_L1 fu (d_impl_PlanOf_L3 fu r (crtL r) (grpM r) n) base k x y fu sp 0) (fun cs bs=>bs.length + cs.length ≤ 48 ∧ ∀ c ∈ cs,c.fUnits.length ≤ 12) (by omega) ?_ ?_ fu [] ⟨by simpa using hcl,fun c hc=>crt_units hc⟩ (by omega)
     · refine L2.trans ?_
       have hbl:=bxs_len r k
       have hbf:=bxs_few (r:=r) (k:=k) ⟨k0,k1⟩
       rw [List.nil_append,show ((crtL r).filter fun c=>c.fGroup == k).map (boxM r) = bxsK r k from rfl,i_spotsOf hfu _ _ (by omega),ob_some]
       have hsl:=spM_len (bxs_ok hz ⟨k0,k1⟩)
       have hpb:=palM_bd (spM r.fPallet (bxsK r k))
       have hps:∀ s ∈ spM r.fPallet (bxsK r k),s ∈ spM r.fPallet (bxsK r k):=fun _ h=>h
       have ih':=ih (plS r (sp,base) k) ⟨fun j hj=>i1 j (by simp [hj]),by simp [plS]; omega,by simp [plS]; omega,by simp [plS]; omega⟩
       rw [List.foldl_cons,← ih']
       have hS:=i_pals (fu:=fu) (l:=spM r.fPallet (bxsK r k)) (by omega) (by omega)
       have hwf:∀ s ∈ spM r.fPallet (bxsK r k),w64 (s.fPallet + base) = s.fPallet + base:=by
        intro s hs
        have:=sp_pal (p:=r.fPallet) (l:=bxsK r k) (by omega) s hs
        exact w64_id (by omega) (by omega)
       generalize hSP:spM r.fPallet (bxsK r k) = S at hsl hpb hS hwf ⊢
       rw [hS,ob_some]
       have L1:=lpI S (fun m (o:List Spot) i=>d_impl_PlanOf_L1 fu (d_impl_PlanOf_L3 fu r (crtL r) (grpM r) n) base k S (palM S) m o i) (fun xs o=>d_impl_PlanOf_L3 fu r (crtL r) (grpM r) n (o ++ xs.map (fun t=>⟨t.fPallet + base,t.fX,t.fY,t.fZ⟩)) (base + palM S) (w64 (k + 1))) (fun xs o=>o.length + xs.length ≤ 1000 ∧ ∀ s ∈ xs,w64 (s.fPallet + base) = s.fPallet + base) (by omega) ?_ ?_ fu sp ⟨by omega,hwf⟩ (by omega)
       · refine L1.trans ?_
         simp only [plS,hSP]
       · intro m o i x xs hx hd hI ih
         obtain ⟨j1,j2⟩:=hI
         simp only [List.length_cons] at j1
         simp only [d_impl_PlanOf_L1.eq_2]
         unfold d_impl_PlanOf_L1_B
         rw [hd,cond_true,hx,ob_some,j2 x (by simp),ap1 (by simp; omega),ob_some,ih _ ⟨by simp; omega,fun s hs=>j2 s (by simp [hs])⟩]
         simp
       · intro m o i hd hI
         simp only [d_impl_PlanOf_L1.eq_2]
         unfold d_impl_PlanOf_L1_B
         rw [hd,cond_false,w64_id (n:=base + _) (by omega) (by omega)]
         simp
     · intro m bs i c cs hx hd hI ih
       obtain ⟨j1,j2⟩:=hI
       simp only [List.length_cons] at j1
       have hcu:=j2 c (by simp)
       simp only [d_impl_PlanOf_L2.eq_2]
       unfold d_impl_PlanOf_L2_B d_impl_PlanOf_J1
       rw [hd,cond_true,hx,ob_some,i_boxM h c (by omega),ob_some,ap1 (by simp; omega),ob_some,ih _ ⟨by simp; omega,fun c hc=>j2 c (by simp [hc])⟩,ih _ ⟨by omega,fun c hc=>j2 c (by simp [hc])⟩,List.filter_cons]
       cases c.fGroup == k <;> simp
     · intro m bs i hd _
       simp only [d_impl_PlanOf_L2.eq_2]
       unfold d_impl_PlanOf_L2_B
       rw [hd,cond_false]; simp
   · intro n ⟨sp,base⟩ k hd _
     simp only [d_impl_PlanOf_L3.eq_2]
     unfold d_impl_PlanOf_L3_B
     rw [hd,cond_false]; rfl
theorem pln_sp (r:Request):Sp (plnM r).1:=by
 obtain ⟨l1,l2,l3⟩:=pln_len r
 refine ⟨by omega,fun c hc=>by have:=l3 c hc; omega,?_,by omega⟩
 have key:∀ l:List Carton,(∀ c ∈ l,c.fUnits.length ≤ 12) → lensC l ≤ 12 * l.length:=by
  intro l
  induction l with
  | nil=>intro _; simp [lensC]
  | cons c l ih =>
   intro h
   have h1:=ih fun d hd=>h d (by simp [hd])
   have h2:=h c (by simp)
   simp only [lensC,List.length_cons]
   omega
 have:=key _ l3
 omega
def numB (n:Int):ByteArray:=⟨(Lib.itoa n).toArray⟩
theorem numB_size {n:Int} (h:0 ≤ n ∧ n ≤ 999999):(numB n).size ≤ 21:=by
 have:=Lib.itoa_length_le n (by omega) (by omega)
 unfold numB ByteArray.size
 simpa using this
theorem scat_ok {x y:ByteArray} (h:x.size + y.size ≤ 1000000000):scat x y = some (x ++ y):=by
 unfold scat
 rw [if_pos (by omega)]
theorem i_digits (fu:Nat) {n:Int} (h:0 ≤ n ∧ n ≤ 999999):d_impl_Digits fu n = some (numB n):=by
 unfold d_impl_Digits d_strconv_Itoa itoaO
 rw [if_pos (by omega)]; rfl
theorem w8_id {n:Int} (h:0 ≤ n ∧ n ≤ 255):w8 n = n:=by
 unfold w8
 simp only [IntKind.wrap_u8]
 omega
theorem bstr_one {n:Int} (h:0 ≤ n ∧ n ≤ 255):bstr [(⟨n⟩:U8)] = some ⟨[UInt8.ofNat n.toNat].toArray⟩:=by
 unfold bstr
 rw [if_pos (fun b hb=>by rw [List.mem_singleton.1 hb]; exact h)]
 rfl
theorem dig_step {u:Nat} (out:ByteArray):(⟨[UInt8.ofNat (48 + u % 10)].toArray⟩:ByteArray) ++ out = ⟨([UInt8.ofNat (48 + u % 10)] ++ out.data.toList).toArray⟩:=by
 apply ByteArray.ext
 rw [ByteArray.data_append]
 apply Array.ext'
 simp
theorem s_digL {fu:Nat} {n1:Int} (h1:0 ≤ n1):∀ (u:Nat) (k:Nat) (out:ByteArray),u ≤ 999999 → u + 2 ≤ k → out.size + u ≤ 2000000 → 0 < u → d_spec_Digits_L1 fu n1 k (u:Int) out = some ⟨(Lib.decDigits u ++ out.data.toList).toArray⟩:=by
 intro u
 induction u using Nat.strongRecOn with
 | _ u ih =>
  intro k out hu hk ho h0
  obtain ⟨k,rfl⟩:∃ j,k = j + 1:=⟨k - 1,by omega⟩
  have em:Int.tmod (u:Int) 10 = ((u % 10:Nat):Int):=by
   rw [Int.tmod_eq_emod_of_nonneg (by omega)]; omega
  have ed:w64 (Int.tdiv (u:Int) 10) = ((u / 10:Nat):Int):=by
   rw [Int.tdiv_eq_ediv_of_nonneg (by omega),w64_id (by omega) (by omega)]; omega
  rw [d_spec_Digits_L1.eq_2]
  unfold d_spec_Digits_L1_B d_spec_Digits_J1
  rw [bif_true (bne_iff_ne.2 (by omega)),em,bif_false (decide_eq_false (by omega)),w64_id (n:=48 + _) (by omega) (by omega),w8_id (by omega),bstr_one (by omega),ob_some,show ((48:Int) + ((u % 10:Nat):Int)).toNat = 48 + u % 10 by omega]
  have hs1:(⟨[UInt8.ofNat (48 + u % 10)].toArray⟩:ByteArray).size = 1:=rfl
  rw [scat_ok (by rw [hs1]; omega),ob_some,ed,dig_step]
  by_cases hlt:u < 10
  · have e0:u / 10 = 0:=by omega
    rw [e0]
    obtain ⟨k,rfl⟩:∃ j,k = j + 1:=⟨k - 1,by omega⟩
    rw [d_spec_Digits_L1.eq_2]
    unfold d_spec_Digits_L1_B
    rw [bif_false (by decide),bif_false (decide_eq_false (by omega)),Lib.decDigits,dif_pos hlt,Nat.mod_eq_of_lt hlt]
  · have:=ih (u / 10) (by omega) k (⟨([UInt8.ofNat (48 + u % 10)] ++ out.data.toList).toArray⟩:ByteArray) (by omega) (by omega) (by
      show ([UInt8.ofNat (48 + u % 10)] ++ out.data.toList).toArray.size + _ ≤ _
      have e:out.data.toList.length = out.size:=Array.length_toList
      simp only [List.size_toArray,List.length_append,List.length_singleton,e]
      omega) (by omega)
    rw [this]
    conv=>rhs; rw [Lib.decDigits,dif_neg hlt]
    simp
theorem s_digits {fu:Nat} (hfu:2097153 ≤ fu) {n:Int} (h:0 ≤ n ∧ n ≤ 999999):d_spec_Digits fu n = some (numB n):=by
 unfold d_spec_Digits numB
 by_cases h0:n = 0
 · subst h0
   rw [bif_true (by simp)]
   have:Lib.itoa 0 = [48]:=by
    unfold Lib.itoa
    rw [if_neg (by omega),Lib.decDigits,dif_pos (by decide)]; rfl
   rw [this]
 · rw [bif_false (by simpa using h0)]
   obtain ⟨u,rfl⟩:∃ u:Nat,n = u:=⟨n.toNat,by omega⟩
   have:=s_digL (fu:=fu) (n1:=(u:Int)) (by omega) u fu ⟨#[]⟩ (by omega) (by omega) (by
    show 0 + u ≤ _
    omega) (by omega)
   rw [this]
   have e:Lib.itoa (u:Int) = Lib.decDigits u:=by
    unfold Lib.itoa
    rw [if_neg (by omega),Int.toNat_natCast]
   rw [e]; simp
def sp1:ByteArray:=⟨#[32]⟩
def nl1:ByteArray:=⟨#[10]⟩
def lineL (o:ByteArray) (l:List Int):ByteArray:=l.foldl (fun o n=>o ++ (sp1 ++ numB n)) o
theorem line_size:∀ (l:List Int) (o:ByteArray),(∀ n ∈ l,0 ≤ n ∧ n ≤ 999999) → (lineL o l).size ≤ o.size + 22 * l.length
 | [],o,_=>by simp [lineL]
 | n :: l,o,h=>by
  have h1:=numB_size (h n (by simp))
  have h2:=line_size l (o ++ (sp1 ++ numB n)) fun m hm=>h m (by simp [hm])
  have e:(o ++ (sp1 ++ numB n)).size = o.size + (1 + (numB n).size):=by
   rw [ByteArray.size_append,ByteArray.size_append]; rfl
  rw [e] at h2
  show (lineL (o ++ (sp1 ++ numB n)) l).size ≤ _
  simp only [List.length_cons]
  omega
theorem i_line {fu:Nat} {l:List Int} (o:ByteArray) (hl:l.length ≤ 1000) (hf:l.length < fu) (ho:o.size ≤ 1000000) (h:∀ n ∈ l,0 ≤ n ∧ n ≤ 999999):d_impl_textLine fu o l = some (lineL o l ++ nl1,true):=by
 unfold d_impl_textLine
 have key:=lpI l (fun n (o:ByteArray) i=>d_impl_textLine_L1 fu l n o i) (fun xs o=>some (lineL o xs ++ nl1,true)) (fun xs o=>(∀ n ∈ xs,0 ≤ n ∧ n ≤ 999999) ∧ o.size + 22 * xs.length ≤ 2000000) (by omega) ?_ ?_ fu o ⟨h,by omega⟩ (by omega)
 · exact key
 · intro n o i x xs hx hd hI ih
   obtain ⟨i1,i2⟩:=hI
   simp only [List.length_cons] at i2
   have hxb:=i1 x (by simp)
   have hs:=numB_size hxb
   have e:(o ++ (sp1 ++ numB x)).size = o.size + (1 + (numB x).size):=by
    rw [ByteArray.size_append,ByteArray.size_append]; rfl
   have hsz:sp1.size = 1:=rfl
   simp only [d_impl_textLine_L1.eq_2]
   unfold d_impl_textLine_L1_B
   rw [hd,cond_true,hx,ob_some,i_in,ob_some,show inb x 0 999999 = true from inb_iff.2 hxb,Bool.not_true,cond_false,i_digits fu hxb,ob_some]
   show (obind (scat sp1 (numB x)) fun sv58=>obind (scat o sv58) fun sv60=>d_impl_textLine_L1 fu l n sv60 (w64 (i + 1))) = _
   rw [scat_ok (by omega),ob_some,scat_ok (by rw [ByteArray.size_append,hsz]; omega),ob_some,ih _ ⟨fun m hm=>i1 m (by simp [hm]),by omega⟩]
   rfl
 · intro n o i hd hI
   have i2:=hI.2
   simp only [d_impl_textLine_L1.eq_2]
   unfold d_impl_textLine_L1_B
   rw [hd,cond_false]
   show (obind (scat o nl1) fun sv62=>some (sv62,true)) = _
   rw [scat_ok (by rw [show nl1.size = 1 from rfl]; simp at i2; omega)]
   rfl
def carB:ByteArray:=⟨#[99,97,114,116,111,110]⟩
def numsL (c:Carton) (s:Spot):List Int:=[c.fType,c.fGroup,s.fPallet,s.fX,s.fY,s.fZ] ++ c.fUnits
theorem inc_bd:∀ (l pre:List Int),incP pre l = true → ∀ n ∈ l,0 ≤ n ∧ n ≤ 999
 | [],_,_,n,hn=>by simp at hn
 | x :: l,pre,h,n,hn=>by
  unfold incP at h
  simp only [Bool.and_eq_true,inb_iff] at h
  rcases List.mem_cons.1 hn with rfl | hn
  · exact h.1
  · exact inc_bd l _ h.2.2 n hn
theorem nums_ok {c:Carton} {s:Spot} (hc:cokB c = true) (hs:sokB s = true):(∀ n ∈ numsL c s,0 ≤ n ∧ n ≤ 999999) ∧ (numsL c s).length ≤ 106:=by
 unfold cokB uriB at hc
 unfold sokB at hs
 simp only [Bool.and_eq_true,inb_iff,decide_eq_true_eq] at hc hs
 obtain ⟨h1,h2,h3,h4⟩:=hc
 refine ⟨fun n hn=>?_,by simp [numsL]; omega⟩
 unfold numsL at hn
 rcases List.mem_append.1 hn with hn | hn
 · simp only [List.mem_cons,List.not_mem_nil,or_false] at hn
   omega
 · have:=inc_bd _ _ h3 n hn
   omega
theorem s_line {fu:Nat} (hfu:2097153 ≤ fu) {c:Carton} {s:Spot} (h:(∀ n ∈ numsL c s,0 ≤ n ∧ n ≤ 999999) ∧ (numsL c s).length ≤ 106):d_spec_l14Line fu c s = some (lineL carB (numsL c s)):=by
 obtain ⟨h1,h2⟩:=h
 unfold d_spec_l14Line
 have hlen:[c.fType,c.fGroup,s.fPallet,s.fX,s.fY,s.fZ].length + c.fUnits.length ≤ 106:=by
  have:=h2
  unfold numsL at this
  rwa [List.length_append] at this
 rw [ap1 (by omega),ob_some]
 show d_spec_l14Line_L1 fu (numsL c s) fu carB 0 = _
 generalize numsL c s = l at h1 h2
 refine lpI l (fun n (o:ByteArray) i=>d_spec_l14Line_L1 fu l n o i) (fun xs o=>some (lineL o xs)) (fun xs o=>(∀ n ∈ xs,0 ≤ n ∧ n ≤ 999999) ∧ o.size + 22 * xs.length ≤ 2000000) (by omega) ?_ ?_ fu carB ⟨h1,by rw [show carB.size = 6 from rfl]; omega⟩ (by omega)
 · intro n o i x xs hx hd hI ih
   obtain ⟨i1,i2⟩:=hI
   simp only [List.length_cons] at i2
   have hxb:=i1 x (by simp)
   have hs:=numB_size hxb
   have e:(o ++ (sp1 ++ numB x)).size = o.size + (1 + (numB x).size):=by
    rw [ByteArray.size_append,ByteArray.size_append]; rfl
   have hsz:sp1.size = 1:=rfl
   simp only [d_spec_l14Line_L1.eq_2]
   unfold d_spec_l14Line_L1_B
   rw [hd,cond_true]
   show (obind (scat o sp1) fun sv56=>obind (ix l i) fun x58=>obind (d_spec_Digits fu x58) fun x60=>obind (scat sv56 x60) fun sv64=>d_spec_l14Line_L1 fu l n sv64 (w64 (i + 1))) = _
   rw [scat_ok (by omega),ob_some,hx,ob_some,s_digits hfu hxb,ob_some,scat_ok (by rw [ByteArray.size_append,hsz]; omega),ob_some,ByteArray.append_assoc,ih _ ⟨fun m hm=>i1 m (by simp [hm]),by omega⟩]
   rfl
 · intro n o i hd _
   simp only [d_spec_l14Line_L1.eq_2]
   unfold d_spec_l14Line_L1_B
   rw [hd,cond_false]; rfl
def txtF (o:ByteArray) (p:Carton × Spot):ByteArray:=o ++ (lineL carB (numsL p.1 p.2) ++ nl1)
def txtM (x:Plan):ByteArray:=bif pokB x then (x.fCartons.zip x.fSpots).foldl txtF ⟨#[]⟩ else ⟨#[]⟩
theorem line_nl {c:Carton} {s:Spot} (h:(∀ n ∈ numsL c s,0 ≤ n ∧ n ≤ 999999) ∧ (numsL c s).length ≤ 106):(lineL carB (numsL c s)).size ≤ 2400 ∧ (lineL carB (numsL c s) ++ nl1).size ≤ 2401:=by
 have:=line_size (numsL c s) carB h.1
 rw [show carB.size = 6 from rfl] at this
 refine ⟨by omega,?_⟩
 rw [ByteArray.size_append,show nl1.size = 1 from rfl]
 omega
theorem i_text {fu:Nat} {x:Plan} (h:Sp x) (hf:2097153 ≤ fu):d_impl_PlanText fu x = some (txtM x):=by
 unfold d_impl_PlanText txtM
 rw [i_pok h (by omega),ob_some]
 cases hp:pokB x
 · rfl
 · rw [Bool.not_true,cond_false,cond_true]
   have hpp:=hp
   unfold pokB at hpp
   simp only [Bool.and_eq_true,decide_eq_true_eq,beq_iff_eq] at hpp
   obtain ⟨p1,p2,p3⟩:=hpp
   have hz:(x.fCartons.zip x.fSpots).length = x.fCartons.length:=by simp; omega
   have key:=lpPI (x.fCartons.zip x.fSpots) (fun n (o:ByteArray) i=>d_impl_PlanText_L1 fu x n o i) (fun _ xs o=>some (xs.foldl txtF o)) (fun _ xs o=>(∀ p ∈ xs,(∀ n ∈ numsL p.1 p.2,0 ≤ n ∧ n ≤ 999999) ∧ (numsL p.1 p.2).length ≤ 106) ∧ o.size + 2401 * xs.length ≤ 1000000) (by omega) ?_ ?_ fu ⟨#[]⟩ ⟨fun p hp=>by
    have:=List.all_eq_true.1 p3 p hp
    rw [Bool.and_eq_true] at this
    exact nums_ok this.1 this.2,by rw [hz]; show 0 + _ ≤ _; omega⟩ (by omega)
   · exact key
   · intro n o pre p xs e hq hd hI ih
     obtain ⟨i1,i2⟩:=hI
     simp only [List.length_cons] at i2
     obtain ⟨e1,e2⟩:=zip_ix hq
     rw [hz] at hd
     have hn:=i1 p (by simp)
     have hsz:=line_nl hn
     have hlen:[p.1.fType,p.1.fGroup,p.2.fPallet,p.2.fX,p.2.fY,p.2.fZ].length + p.1.fUnits.length ≤ 106:=by
      have:=hn.2
      unfold numsL at this
      rwa [List.length_append] at this
     simp only [d_impl_PlanText_L1.eq_2]
     unfold d_impl_PlanText_L1_B
     rw [hd,cond_true,e1,ob_some,e2,ob_some,ap1 (by omega),ob_some]
     show (obind (d_impl_textLine fu carB (numsL p.1 p.2)) fun x141=>obind (scat o x141.1) fun sv145=>d_impl_PlanText_L1 fu x n sv145 (w64 ((pre.length:Int) + 1))) = _
     rw [i_line carB (by omega) (by omega) (by decide) hn.1,ob_some]
     show (obind (scat o (lineL carB (numsL p.1 p.2) ++ nl1)) fun sv145=>d_impl_PlanText_L1 fu x n sv145 (w64 ((pre.length:Int) + 1))) = _
     rw [scat_ok (by omega),ob_some]
     exact ih _ ⟨fun q hq=>i1 q (by simp [hq]),by rw [ByteArray.size_append]; omega⟩
   · intro n o hd _
     rw [hz] at hd ⊢
     simp only [d_impl_PlanText_L1.eq_2]
     unfold d_impl_PlanText_L1_B
     rw [hd,cond_false]; rfl
theorem s_text {fu:Nat} {x:Plan} (h:Sp x) (hf:2097153 ≤ fu):d_spec_PlanText fu x = some (txtM x):=by
 unfold d_spec_PlanText txtM
 rw [s_pok h (by omega),ob_some]
 cases hp:pokB x
 · rfl
 · rw [Bool.not_true,cond_false,cond_true]
   have hpp:=hp
   unfold pokB at hpp
   simp only [Bool.and_eq_true,decide_eq_true_eq,beq_iff_eq] at hpp
   obtain ⟨p1,p2,p3⟩:=hpp
   have hz:(x.fCartons.zip x.fSpots).length = x.fCartons.length:=by simp; omega
   have key:=lpPI (x.fCartons.zip x.fSpots) (fun n (o:ByteArray) i=>d_spec_PlanText_L1 fu x n o i) (fun _ xs o=>some (xs.foldl txtF o)) (fun _ xs o=>(∀ p ∈ xs,(∀ n ∈ numsL p.1 p.2,0 ≤ n ∧ n ≤ 999999) ∧ (numsL p.1 p.2).length ≤ 106) ∧ o.size + 2401 * xs.length ≤ 1000000) (by omega) ?_ ?_ fu ⟨#[]⟩ ⟨fun p hp=>by
    have:=List.all_eq_true.1 p3 p hp
    rw [Bool.and_eq_true] at this
    exact nums_ok this.1 this.2,by rw [hz]; show 0 + _ ≤ _; omega⟩ (by omega)
   · exact key
   · intro n o pre p xs e hq hd hI ih
     obtain ⟨i1,i2⟩:=hI
     simp only [List.length_cons] at i2
     obtain ⟨e1,e2⟩:=zip_ix hq
     rw [hz] at hd
     have hn:=i1 p (by simp)
     have hsz:=line_nl hn
     simp only [d_spec_PlanText_L1.eq_2]
     unfold d_spec_PlanText_L1_B
     rw [hd,cond_true,e1,ob_some,e2,ob_some,s_line hf hn,ob_some,scat_ok (by omega),ob_some]
     show (obind (scat (o ++ lineL carB (numsL p.1 p.2)) nl1) fun sv91=>d_spec_PlanText_L1 fu x n sv91 (w64 ((pre.length:Int) + 1))) = _
     rw [scat_ok (by rw [ByteArray.size_append,show nl1.size = 1 from rfl]; omega),ob_some,ByteArray.append_assoc]
     exact ih _ ⟨fun q hq=>i1 q (by simp [hq]),by rw [ByteArray.size_append]; omega⟩
   · intro n o hd _
     rw [hz] at hd ⊢
     simp only [d_spec_PlanText_L1.eq_2]
     unfold d_spec_PlanText_L1_B
     rw [hd,cond_false]; rfl
theorem ba_loop (b:ByteArray):∀ (m i:Nat) (r:List UInt8),b.size - i = m → ByteArray.toList.loop b i r = r.reverse ++ b.data.toList.drop i:=by
 intro m
 induction m with
 | zero =>
  intro i r h
  rw [ByteArray.toList.loop,if_neg (by omega)]
  have:b.data.toList.length ≤ i:=by have:b.size = b.data.size:=rfl; simp; omega
  rw [List.drop_of_length_le this]; simp
 | succ m ih =>
  intro i r h
  rw [ByteArray.toList.loop,if_pos (by omega),ih (i + 1) _ (by omega)]
  have hs:b.size = b.data.size:=rfl
  have hi:i < b.data.toList.length:=by simp; omega
  rw [List.drop_eq_getElem_cons hi]
  have:b.get! i = b.data.toList[i]:=by
   unfold ByteArray.get!
   simp [Array.getElem!_eq_getD,Array.getD]
   rw [dif_pos (by omega)]
  rw [this]; simp
theorem ba_list (b:ByteArray):b.toList = b.data.toList:=by
 unfold ByteArray.toList
 rw [ba_loop b _ 0 [] rfl]; simp
theorem ba_eq (a b:ByteArray):(a.toList == b.toList) = decide (a = b):=by
 rw [ba_list,ba_list]
 by_cases h:a = b
 · subst h; simp
 · rw [decide_eq_false h]
   have:a.data.toList ≠ b.data.toList:=fun e=>h (ByteArray.ext (Array.ext' e))
   simpa using this
theorem dd_dig:∀ (u:Nat),∀ b ∈ Lib.decDigits u,48 ≤ b.toNat ∧ b.toNat ≤ 57:=by
 intro u
 induction u using Nat.strongRecOn with
 | _ u ih =>
  intro b hb
  have one:∀ d:Nat,d < 10 → 48 ≤ (UInt8.ofNat (48 + d)).toNat ∧ (UInt8.ofNat (48 + d)).toNat ≤ 57:=fun d hd=>by
   rw [UInt8.toNat_ofNat']; omega
  rw [Lib.decDigits] at hb
  split at hb
  · rename_i h
    rw [List.mem_singleton.1 hb]
    exact one u h
  · rename_i h
    rcases List.mem_append.1 hb with hb | hb
    · exact ih (u / 10) (by omega) b hb
    · rw [List.mem_singleton.1 hb]
      exact one _ (by omega)
theorem decFrom_app:∀ (l r:List UInt8) (acc:Nat),Lib.decFrom acc (l ++ r) = (Lib.decFrom acc l).bind fun n=>Lib.decFrom n r
 | [],r,acc=>rfl
 | b :: l,r,acc=>by
  simp only [List.cons_append,Lib.decFrom]
  cases Lib.digitVal b with
  | none=>rfl
  | some d=>exact decFrom_app l r _
theorem dd_val:∀ (u:Nat),Lib.decFrom 0 (Lib.decDigits u) = some u:=by
 intro u
 induction u using Nat.strongRecOn with
 | _ u ih =>
  have one:∀ d:Nat,d < 10 → Lib.digitVal (UInt8.ofNat (48 + d)) = some d:=fun d hd=>by
   unfold Lib.digitVal
   have:(UInt8.ofNat (48 + d)).toNat = 48 + d:=by rw [UInt8.toNat_ofNat']; omega
   rw [this,if_pos (by omega)]
   congr 1; omega
  rw [Lib.decDigits]
  split
  · rename_i h
    simp only [Lib.decFrom,one u h]
    congr 1; omega
  · rename_i h
    rw [decFrom_app,ih (u / 10) (by omega)]
    simp only [Option.bind_some,Lib.decFrom,one (u % 10) (by omega)]
    congr 1; omega
theorem dd_len:∀ (k u:Nat),u < 10 ^ (k + 1) → 1 ≤ (Lib.decDigits u).length ∧ (Lib.decDigits u).length ≤ k + 1
 | 0,u,h=>by
  rw [Lib.decDigits,dif_pos (by omega)]; simp
 | k + 1,u,h=>by
  rw [Lib.decDigits]
  split
  · simp
  · have:=dd_len k (u / 10) (by
      rw [Nat.pow_succ] at h
      omega)
    simp only [List.length_append,List.length_singleton]
    omega
theorem atoi_dd {u:Nat} (h:u ≤ 999999):Lib.atoiAll (Lib.decDigits u) = .ok (u:Int):=by
 have hl:=dd_len 5 u (by omega)
 rw [Lib.atoiAll_short _ (by omega)]
 have hv:=dd_val u
 have hd:=dd_dig u
 cases hc:Lib.decDigits u with
 | nil=>rw [hc] at hl; simp at hl
 | cons b r =>
  rw [hc] at hv hd
  have hb:=hd b (by simp)
  have n1:¬ (b == 45) = true:=fun e=>by rw [beq_iff_eq.1 e] at hb; exact absurd hb (by decide)
  have n2:¬ (b == 43) = true:=fun e=>by rw [beq_iff_eq.1 e] at hb; exact absurd hb (by decide)
  unfold Lib.atoi
  show Lib.NumEnd.ofOption (if (b == 45) = true then _ else if (b == 43) = true then _ else Option.map _ (Lib.decNat (b :: r))) = _
  rw [if_neg n1,if_neg n2]
  unfold Lib.decNat
  rw [if_neg (by simp),hv]
  rfl
theorem numB_dd {u:Nat}:numB (u:Int) = ⟨(Lib.decDigits u).toArray⟩:=by
 unfold numB Lib.itoa
 rw [if_neg (by omega),Int.toNat_natCast]
theorem i_num {fu:Nat} {s:ByteArray} (hs:s.size ≤ 1048576):∃ r,d_impl_Number fu s = some r ∧ ((∃ u:Nat,u ≤ 999999 ∧ s = numB u ∧ r = ((u:Int),true)) ∨ ((∀ u:Nat,u ≤ 999999 → s ≠ numB u) ∧ r = (0,false))):=by
 unfold d_impl_Number d_strconv_Atoi atoiO d_impl_Number_J1
 rw [if_pos hs,ob_some]
 by_cases he:∃ u:Nat,u ≤ 999999 ∧ s = numB u
 · obtain ⟨u,hu,rfl⟩:=he
   have e:(numB (u:Int)).data.toList = Lib.decDigits u:=by rw [numB_dd]
   rw [e,atoi_dd hu]
   simp only [cond_false,i_in,ob_some,show inb (u:Int) 0 999999 = true from inb_iff.2 (by omega),Bool.not_true]
   rw [i_digits fu (by omega),ob_some,ba_eq,decide_eq_true rfl]
   exact ⟨_,rfl,.inl ⟨u,hu,rfl,rfl⟩⟩
 · have hne:∀ u:Nat,u ≤ 999999 → s ≠ numB u:=fun u hu e=>he ⟨u,hu,e⟩
   refine ⟨(0,false),?_,.inr ⟨hne,rfl⟩⟩
   cases ha:Lib.atoiAll s.data.toList
   case ok v =>
    simp only [cond_false,i_in,ob_some]
    cases hv:inb v 0 999999
    · rfl
    · have hv':=inb_iff.1 hv
      rw [Bool.not_true,cond_false,i_digits fu hv',ob_some,ba_eq,decide_eq_false (fun e=>by
       obtain ⟨u,rfl⟩:∃ u:Nat,v = u:=⟨v.toNat,by omega⟩
       exact hne u (by omega) e.symm)]
      rfl
   all_goals rfl
theorem sx_at {s:ByteArray} {pre l:List UInt8} {b:UInt8} (h:s.data.toList = pre ++ b :: l):sx s (pre.length:Int) = some (b.toNat:Int):=by
 have hl:s.data.toList[pre.length]? = some b:=by rw [h]; simp
 have hs:s.data.toList.length = s.size:=Array.length_toList
 have hi:pre.length < s.size:=by rw [← hs,h]; simp
 unfold sx
 rw [if_pos (by omega),Int.toNat_natCast,getElem?_pos s pre.length hi]
 have e:s[pre.length] = b:=by
  have:s.data.toList[pre.length]? = some s[pre.length]:=by
   rw [Array.getElem?_toList]
   exact Array.getElem?_eq_getElem hi
  rw [hl] at this
  exact (Option.some.inj this).symm
 rw [e]; rfl
theorem s_numL {s:ByteArray}:∀ (l pre:List UInt8) (n k:Nat),s.data.toList = pre ++ l → s.size ≤ 6 → l.length < k → n < 10 ^ pre.length →
    d_spec_Number_L1 2097153 s k (n:Int) (pre.length:Int) = match Lib.decFrom n l with | none=>some (0,false) | some m=>bif decide (numB (m:Int) = s) then some ((m:Int),true) else some (0,false)
 | [],pre,n,k,h,hs,hk,hn=>by
  obtain ⟨k,rfl⟩:∃ j,k = j + 1:=⟨k - 1,by omega⟩
  have hsz:s.size = pre.length:=by
   have:s.data.toList.length = s.size:=Array.length_toList
   rw [← this,h]; simp
  have hn6:n < 10 ^ 6:=Nat.lt_of_lt_of_le hn (Nat.pow_le_pow_right (by omega) (by omega))
  rw [d_spec_Number_L1.eq_2]
  unfold d_spec_Number_L1_B
  rw [bif_false (by simp; omega),s_digits (by omega) (by omega),ob_some,ba_eq]
  simp only [Lib.decFrom]
  cases decide (numB (n:Int) = s) <;> rfl
 | b :: l,pre,n,k,h,hs,hk,hn=>by
  obtain ⟨k,rfl⟩:∃ j,k = j + 1:=⟨k - 1,by omega⟩
  have hsz:s.size = pre.length + (l.length + 1):=by
   have:s.data.toList.length = s.size:=Array.length_toList
   rw [← this,h]; simp
  have hp:10 ^ pre.length ≤ 10 ^ 5:=Nat.pow_le_pow_right (by omega) (by omega)
  have hb:b.toNat < 256:=b.toNat_lt
  have hx:=sx_at h
  rw [d_spec_Number_L1.eq_2]
  unfold d_spec_Number_L1_B d_spec_Number_J2 d_spec_Number_J1
  rw [bif_true (by simp; omega)]
  simp only [hx,ob_some]
  unfold Lib.decFrom Lib.digitVal
  by_cases h1:b.toNat < 48
  · rw [bif_true (by simp; omega),if_neg (by omega)]
  · rw [bif_false (by simp; omega)]
    by_cases h2:b.toNat > 57
    · rw [bif_true (by simp; omega),if_neg (by omega)]
    · rw [bif_false (by simp; omega),if_pos (by omega)]
      have e:w64 (w64 (w64 (10 * (n:Int)) + w64 (b.toNat:Int)) - 48) = ((n * 10 + (b.toNat - 48):Nat):Int):=by
       rw [w64_id (n:=10 * (n:Int)) (by omega) (by omega),w64_id (n:=(b.toNat:Int)) (by omega) (by omega),w64_id (n:=_ + (b.toNat:Int)) (by omega) (by omega),w64_id (by omega) (by omega)]
       omega
      have e2:w64 ((pre.length:Int) + 1) = (((pre ++ [b]).length:Nat):Int):=by
       rw [w64_id (by omega) (by omega)]; simp
      rw [e,e2]
      exact s_numL l (pre ++ [b]) _ k (by simp [h]) hs (by simp at hk; omega) (by
       rw [List.length_append,List.length_singleton,Nat.pow_succ]
       omega)
theorem s_num {s:ByteArray} (hs:s.size ≤ 1048576):d_spec_Number 2097153 s = d_impl_Number 2097153 s:=by
 obtain ⟨r,h1,h2⟩:=i_num (fu:=2097153) hs
 rw [h1]
 unfold d_spec_Number d_spec_Number_J3
 have hlen:s.data.toList.length = s.size:=Array.length_toList
 have hB:∀ u:Nat,u ≤ 999999 → 1 ≤ (numB (u:Int)).size ∧ (numB (u:Int)).size ≤ 6:=fun u hu=>by
  have:=dd_len 5 u (by omega)
  rw [numB_dd]
  exact this
 by_cases l1:(s.size:Int) < 1
 · rw [bif_true (by simpa using l1)]
   rcases h2 with ⟨u,hu,rfl,_⟩ | ⟨_,rfl⟩
   · have:=hB u hu; omega
   · rfl
 · rw [bif_false (by simpa using l1)]
   by_cases l2:(s.size:Int) > 6
   · rw [bif_true (by simpa using l2)]
     rcases h2 with ⟨u,hu,rfl,_⟩ | ⟨_,rfl⟩
     · have:=hB u hu; omega
     · rfl
   · rw [bif_false (by simpa using l2)]
     have:=s_numL (s:=s) s.data.toList [] 0 2097153 rfl (by omega) (by omega) (by simp)
     rw [show ((([]:List UInt8).length:Nat):Int) = 0 from rfl,show (((0:Nat):Nat):Int) = 0 from rfl] at this
     rw [this]
     rcases h2 with ⟨u,hu,rfl,rfl⟩ | ⟨hne,rfl⟩
     · have e:(numB (u:Int)).data.toList = Lib.decDigits u:=by rw [numB_dd]
       rw [e,dd_val u]
       simp
     · cases hd:Lib.decFrom 0 s.data.toList with
       | none=>rfl
       | some m =>
        have hm:=Lib.decFrom_lt _ _ _ hd
        have hp:10 ^ s.data.toList.length ≤ 10 ^ 6:=Nat.pow_le_pow_right (by omega) (by omega)
        simp only
        rw [decide_eq_false (fun e=>hne m (by omega) e.symm)]
        rfl
def ofL (l:List UInt8):ByteArray:=⟨l.toArray⟩
theorem ba_len (s:ByteArray):s.data.toList.length = s.size:=Array.length_toList
def cut (b:UInt8):List UInt8 → List UInt8 × List (List UInt8)
 | []=>([],[])
 | c :: l=>if c = b then ([],(cut b l).1 :: (cut b l).2) else (c :: (cut b l).1,(cut b l).2)
def pts (b:UInt8) (l:List UInt8):List (List UInt8):=(cut b l).1 :: (cut b l).2
def parts (b:UInt8) (s:ByteArray):List ByteArray:=(pts b s.data.toList).map ofL
theorem cut_sep (b:UInt8) (r:List UInt8):cut b (b :: r) = ([],(cut b r).1 :: (cut b r).2):=by rw [cut,if_pos rfl]
theorem cut_len (b:UInt8):∀ (l:List UInt8),(cut b l).2.length ≤ l.length
 | []=>Nat.le_refl _
 | c :: l=>by
  have ih:=cut_len b l
  rw [cut]
  split <;> simp only [List.length_cons] <;> omega
theorem cut_mem (b:UInt8):∀ (l:List UInt8),(cut b l).1.length ≤ l.length ∧ ∀ x ∈ (cut b l).2,x.length ≤ l.length
 | []=>⟨by simp [cut],by simp [cut]⟩
 | c :: l=>by
  have ih:=cut_mem b l
  rw [cut]
  split
  · exact ⟨by simp,fun x hx=>by
      simp only [List.length_cons]
      rcases List.mem_cons.1 hx with e | e
      · rw [e]; omega
      · have:=ih.2 x e; omega⟩
  · exact ⟨by simp only [List.length_cons]; omega,fun x hx=>by
      have:=ih.2 x hx
      simp only [List.length_cons]; omega⟩
theorem parts_len (b:UInt8) (s:ByteArray):1 ≤ (parts b s).length ∧ (parts b s).length ≤ s.size + 1:=by
 have:=cut_len b s.data.toList
 rw [ba_len] at this
 unfold parts pts
 simp only [List.length_map,List.length_cons]
 omega
theorem parts_size {b:UInt8} {s x:ByteArray} (h:x ∈ parts b s):x.size ≤ s.size:=by
 obtain ⟨l,hl,rfl⟩:=List.mem_map.1 h
 have:=cut_mem b s.data.toList
 rw [ba_len] at this
 show l.toArray.size ≤ _
 rw [List.size_toArray]
 rcases List.mem_cons.1 hl with rfl | e
 · exact this.1
 · exact this.2 l e
theorem ssl_at {s:ByteArray} {pre acc l:List UInt8} (h:s.data.toList = pre ++ (acc ++ l)):ssl s (pre.length:Int) ((pre.length:Int) + (acc.length:Int)) = some (ofL acc):=by
 have hs:=ba_len s
 rw [h] at hs
 simp only [List.length_append] at hs
 unfold ssl
 rw [if_pos (by omega)]
 congr 1
 apply ByteArray.ext
 apply Array.ext'
 rw [show ((pre.length:Int) + (acc.length:Int)).toNat = pre.length + acc.length by omega,Int.toNat_natCast,ByteArray.data_extract,Array.toList_extract,h]
 show _ = acc
 rw [List.extract_eq_take_drop,Nat.add_sub_cancel_left,List.drop_left,List.take_left]
theorem ap16 {x:ByteArray} {out:List ByteArray} (h:out.length ≤ 2000000):apnd 16 out [x] = some (out ++ [x]):=by
 unfold apnd
 rw [if_pos (by simp only [List.length_singleton]; omega)]
theorem i_partsL {fu:Nat} {s:ByteArray} {b:UInt8} (hs:s.size ≤ 1048576):∀ (l pre acc:List UInt8) (out:List ByteArray) (k:Nat),s.data.toList = pre ++ (acc ++ l) → l.length < k → out.length + l.length ≤ 1048576 →
    d_impl_Parts_L1 fu s (b.toNat:Int) k out (pre.length:Int) ((pre.length:Int) + (acc.length:Int)) = some (out ++ ofL (acc ++ (cut b l).1) :: (cut b l).2.map ofL)
 | [],pre,acc,out,k,h,hk,ho=>by
  obtain ⟨k,rfl⟩:∃ j,k = j + 1:=⟨k - 1,by omega⟩
  have hz:=ba_len s
  rw [h] at hz
  simp only [List.length_append,List.length_nil] at hz
  rw [d_impl_Parts_L1.eq_2]
  unfold d_impl_Parts_L1_B
  rw [bif_false (by simp; omega),show (s.size:Int) = (pre.length:Int) + (acc.length:Int) by omega,ssl_at h,ob_some,ap16 (by omega),ob_some]
  simp [cut]
 | c :: l,pre,acc,out,k,h,hk,ho=>by
  obtain ⟨k,rfl⟩:∃ j,k = j + 1:=⟨k - 1,by omega⟩
  have hz:=ba_len s
  rw [h] at hz
  simp only [List.length_append,List.length_cons] at hz ho
  have hx:sx s ((pre.length:Int) + (acc.length:Int)) = some (c.toNat:Int):=by
   have:=sx_at (s:=s) (pre:=pre ++ acc) (l:=l) (b:=c) (by rw [h]; simp)
   rw [← this]; simp
  rw [d_impl_Parts_L1.eq_2]
  unfold d_impl_Parts_L1_B d_impl_Parts_J1
  rw [bif_true (by simp; omega),hx,ob_some,w64_id (by omega) (by omega)]
  by_cases hc:c = b
  · subst hc
    rw [bif_true (by simp),ssl_at h,ob_some,ap16 (by omega),ob_some]
    have:=i_partsL (fu:=fu) (b:=c) hs l (pre ++ (acc ++ [c])) [] (out ++ [ofL acc]) k (by rw [h]; simp) (by simp at hk; omega) (by simp; omega)
    rw [show ((pre.length:Int) + (acc.length:Int) + 1) = (((pre ++ (acc ++ [c])).length:Nat):Int) + (([]:List UInt8).length:Int) by simp; omega]
    rw [show ((((pre ++ (acc ++ [c])).length:Nat):Int) + (([]:List UInt8).length:Int)) = (((pre ++ (acc ++ [c])).length:Nat):Int) by simp] at this ⊢
    rw [this,cut_sep]
    simp
  · rw [bif_false (by simpa using fun e=>hc (UInt8.toNat_inj.1 (by omega)))]
    have:=i_partsL (fu:=fu) (b:=b) hs l pre (acc ++ [c]) out k (by rw [h]; simp) (by simp at hk; omega) (by omega)
    rw [show ((pre.length:Int) + (acc.length:Int) + 1) = (pre.length:Int) + (((acc ++ [c]).length:Nat):Int) by simp; omega,this,cut,if_neg hc]
    simp
theorem i_parts {s:ByteArray} {b:UInt8} (hs:s.size ≤ 1048576):d_impl_Parts 2097153 s (b.toNat:Int) = some (parts b s):=by
 unfold d_impl_Parts
 have hz:=ba_len s
 exact i_partsL (b:=b) hs s.data.toList [] [] [] 2097153 rfl (by omega) (by simp; omega)
theorem s_partsL {fu:Nat} {s:ByteArray} {b:UInt8} (hs:s.size ≤ 1048576):∀ (l pre acc:List UInt8) (out:List ByteArray) (k:Nat),s.data.toList = pre ++ (acc ++ l) → l.length + 1 < k → out.length + l.length ≤ 1048576 →
    d_spec_Parts_L1 fu s (b.toNat:Int) k out (pre.length:Int) ((pre.length:Int) + (acc.length:Int)) = some (out ++ ofL (acc ++ (cut b l).1) :: (cut b l).2.map ofL)
 | [],pre,acc,out,k,h,hk,ho=>by
  obtain ⟨k,rfl⟩:∃ j,k = j + 2:=⟨k - 2,by simp at hk; omega⟩
  have hz:=ba_len s
  rw [h] at hz
  simp only [List.length_append,List.length_nil] at hz
  rw [d_spec_Parts_L1.eq_2]
  unfold d_spec_Parts_L1_B d_spec_Parts_J1
  rw [bif_true (by simp; omega),bif_true (by simp; omega),ssl_at h,ob_some,ap16 (by omega),ob_some,w64_id (by omega) (by omega),d_spec_Parts_L1.eq_2]
  unfold d_spec_Parts_L1_B
  rw [bif_false (by simp; omega)]
  simp [cut]
 | c :: l,pre,acc,out,k,h,hk,ho=>by
  obtain ⟨k,rfl⟩:∃ j,k = j + 1:=⟨k - 1,by omega⟩
  have hz:=ba_len s
  rw [h] at hz
  simp only [List.length_append,List.length_cons] at hz ho
  have hx:sx s ((pre.length:Int) + (acc.length:Int)) = some (c.toNat:Int):=by
   have:=sx_at (s:=s) (pre:=pre ++ acc) (l:=l) (b:=c) (by rw [h]; simp)
   rw [← this]; simp
  rw [d_spec_Parts_L1.eq_2]
  unfold d_spec_Parts_L1_B d_spec_Parts_J1
  rw [bif_true (by simp; omega),bif_false (by simp; omega),hx,ob_some,w64_id (by omega) (by omega)]
  by_cases hc:c = b
  · subst hc
    rw [bif_true (by simp),ssl_at h,ob_some,ap16 (by omega),ob_some]
    have:=s_partsL (fu:=fu) (b:=c) hs l (pre ++ (acc ++ [c])) [] (out ++ [ofL acc]) k (by rw [h]; simp) (by simp at hk; omega) (by simp; omega)
    rw [show ((pre.length:Int) + (acc.length:Int) + 1) = (((pre ++ (acc ++ [c])).length:Nat):Int) + (([]:List UInt8).length:Int) by simp; omega]
    rw [show ((((pre ++ (acc ++ [c])).length:Nat):Int) + (([]:List UInt8).length:Int)) = (((pre ++ (acc ++ [c])).length:Nat):Int) by simp] at this ⊢
    rw [this,cut_sep]
    simp
  · rw [bif_false (by simpa using fun e=>hc (UInt8.toNat_inj.1 (by omega)))]
    have:=s_partsL (fu:=fu) (b:=b) hs l pre (acc ++ [c]) out k (by rw [h]; simp) (by simp at hk; omega) (by omega)
    rw [show ((pre.length:Int) + (acc.length:Int) + 1) = (pre.length:Int) + (((acc ++ [c]).length:Nat):Int) by simp; omega,this,cut,if_neg hc]
    simp
theorem s_parts {s:ByteArray} {b:UInt8} (hs:s.size ≤ 1048576):d_spec_Parts 2097153 s (b.toNat:Int) = some (parts b s):=by
 unfold d_spec_Parts
 have hz:=ba_len s
 exact s_partsL (b:=b) hs s.data.toList [] [] [] 2097153 rfl (by omega) (by simp; omega)
def nmv (x:ByteArray):Int × Bool:=(d_impl_Number 2097153 x).getD (0,false)
theorem nmv_i {x:ByteArray} (h:x.size ≤ 1048576):d_impl_Number 2097153 x = some (nmv x):=by
 obtain ⟨r,h1,_⟩:=i_num (fu:=2097153) h
 unfold nmv
 rw [h1]; rfl
theorem nmv_s {x:ByteArray} (h:x.size ≤ 1048576):d_spec_Number 2097153 x = some (nmv x):=by rw [s_num h,nmv_i h]
theorem nmv_is {x:ByteArray} (h:x.size ≤ 1048576) (ht:(nmv x).2 = true):x = numB (nmv x).1 ∧ 0 ≤ (nmv x).1 ∧ (nmv x).1 ≤ 999999:=by
 obtain ⟨r,h1,h2⟩:=i_num (fu:=2097153) h
 rw [nmv_i h] at h1
 rw [Option.some.inj h1] at ht ⊢
 rcases h2 with ⟨u,hu,e,rfl⟩ | ⟨_,rfl⟩
 · exact ⟨e,by simp only; omega,by simp only; omega⟩
 · simp at ht
def nms:List ByteArray → Option (List Int)
 | []=>some []
 | x :: xs=>if (nmv x).2 = true then (nms xs).map ((nmv x).1 :: ·) else none
def rsL (o:List Int):Option (List Int) → List Int × Bool
 | some ns=>(o ++ ns,true)
 | none=>([],false)
def wrd (w:ByteArray) (k:Nat) (line:ByteArray):Option (List Int) :=
 match parts 32 line with
 | []=>none
 | p :: ps=>if p = w ∧ ps.length = k then nms ps else none
theorem i_wordsL {fu k:Nat} {xs:List ByteArray} (hx:∀ x ∈ xs,x.size ≤ 1048576) (hl:xs.length ≤ 1048577) (hk:xs.length < k):d_impl_wordsOf_L1 2097153 xs k [] 0 = some (rsL [] (nms xs)):=by
 have key:=lpI xs (fun n (o:List Int) i=>d_impl_wordsOf_L1 2097153 xs n o i) (fun xs o=>some (rsL o (nms xs))) (fun xs o=>(∀ x ∈ xs,x.size ≤ 1048576) ∧ o.length + xs.length ≤ 1048577) (by omega) ?_ ?_ k [] ⟨hx,by simpa using hl⟩ (by omega)
 · exact key
 · intro n o i x xs hx hd hI ih
   obtain ⟨i1,i2⟩:=hI
   simp only [List.length_cons] at i2
   simp only [d_impl_wordsOf_L1.eq_2]
   unfold d_impl_wordsOf_L1_B
   rw [hd,cond_true,hx,ob_some,nmv_i (i1 x (by simp)),ob_some,nms]
   cases hv:(nmv x).2 with
   | false=>rfl
   | true =>
    rw [if_pos rfl,Bool.not_true,cond_false]
    have:apnd 8 o [(nmv x).1] = some (o ++ [(nmv x).1]):=by
     unfold apnd
     rw [if_pos (by simp only [List.length_singleton]; omega)]
    rw [this,ob_some,ih _ ⟨fun y hy=>i1 y (by simp [hy]),by simp only [List.length_append,List.length_singleton]; omega⟩]
    cases nms xs with
    | none=>rfl
    | some ns=>simp [rsL]
 · intro n o i hd hI
   simp only [d_impl_wordsOf_L1.eq_2]
   unfold d_impl_wordsOf_L1_B
   rw [hd,cond_false]
   simp [nms,rsL]
theorem s_wordsL {y:ByteArray}:∀ (xs pre:List ByteArray) (o:List Int) (k:Nat),(∀ x ∈ xs,x.size ≤ 1048576) → (o.length + xs.length ≤ 2000000 ∧ pre.length + xs.length ≤ 2000000) → xs.length < k → d_spec_l4Nums_L1 2097153 (y :: (pre ++ xs)) k o ((pre.length:Int) + 1) = some (rsL o (nms xs))
 | [],pre,o,k,hx,hl,hk=>by
  obtain ⟨k,rfl⟩:∃ j,k = j + 1:=⟨k - 1,by omega⟩
  rw [d_spec_l4Nums_L1.eq_2]
  unfold d_spec_l4Nums_L1_B
  rw [bif_false (by simp)]
  simp [nms,rsL]
 | x :: xs,pre,o,k,hx,hl,hk=>by
  obtain ⟨k,rfl⟩:∃ j,k = j + 1:=⟨k - 1,by omega⟩
  simp only [List.length_cons] at hl hk
  rw [d_spec_l4Nums_L1.eq_2]
  unfold d_spec_l4Nums_L1_B
  have hi:ix (y :: (pre ++ x :: xs)) ((pre.length:Int) + 1) = some x:=by
   rw [show ((pre.length:Int) + 1) = ((pre.length + 1:Nat):Int) by omega,ix_nat]; simp
  rw [bif_true (by simp; omega),hi,ob_some,nmv_s (hx x (by simp)),ob_some,nms]
  cases hv:(nmv x).2 with
  | false=>rfl
  | true =>
   rw [if_pos rfl,Bool.not_true,cond_false]
   have:apnd 8 o [(nmv x).1] = some (o ++ [(nmv x).1]):=by
    unfold apnd
    rw [if_pos (by simp only [List.length_singleton]; omega)]
   have ih:=s_wordsL (y:=y) xs (pre ++ [x]) (o ++ [(nmv x).1]) k (fun y hy=>hx y (by simp [hy])) (by simp only [List.length_append,List.length_singleton]; omega) (by omega)
   rw [this,ob_some,w64_id (by omega) (by omega),show ((pre.length:Int) + 1 + 1) = (((pre ++ [x]).length:Nat):Int) + 1 by simp]
   rw [show y :: (pre ++ x :: xs) = y :: ((pre ++ [x]) ++ xs) by simp,ih]
   cases nms xs with
   | none=>rfl
   | some ns=>simp [rsL]
theorem i_words {line w:ByteArray} {k:Nat} (h:line.size ≤ 1048576) (hk:k ≤ 1048576):d_impl_wordsOf 2097153 line w (k:Int) = some (rsL [] (wrd w k line)):=by
 unfold d_impl_wordsOf wrd
 have e:=i_parts (b:=32) h
 have hl:=(parts_len 32 line).2
 have hs:=fun x hx=>Nat.le_trans (parts_size (b:=32) (s:=line) (x:=x) hx) h
 rw [show ((32:UInt8).toNat:Int) = 32 from rfl] at e
 rw [e,ob_some]
 cases hp:parts 32 line with
 | nil=>have:=(parts_len 32 line).1; rw [hp] at this; simp at this
 | cons p ps =>
  rw [hp] at hl hs
  simp only [List.length_cons] at hl
  rw [show ix (p :: ps) 0 = some p from rfl,ob_some,ba_eq,w64_id (by omega) (by omega)]
  simp only
  by_cases h1:p = w
  · rw [decide_eq_true h1,Bool.not_true,cond_false]
    by_cases h2:ps.length = k
    · rw [if_pos ⟨h1,h2⟩,bif_false (by simp; omega)]
      unfold d_impl_wordsOf_J1
      have:sls (p :: ps) 1 (((p :: ps).length:Nat):Int) = some ps:=by
       unfold sls
       rw [if_pos (by simp only [List.length_cons]; omega),show (1:Int).toNat = 1 from rfl,Int.toNat_natCast]
       simp
      rw [this,ob_some,i_wordsL (fu:=0) (fun x hx=>hs x (by simp [hx])) (by omega) (by omega)]
    · rw [if_neg (fun e=>h2 e.2),bif_true (by simp; omega)]; rfl
  · rw [decide_eq_false h1,if_neg (fun e=>h1 e.1)]; rfl
theorem s_nums {line w:ByteArray} {k:Nat} (h:line.size ≤ 1048576) (hk:k ≤ 1048576):d_spec_l4Nums 2097153 line w (k:Int) = some (rsL [] (wrd w k line)):=by
 unfold d_spec_l4Nums wrd
 have e:=s_parts (b:=32) h
 have hl:=(parts_len 32 line).2
 have hs:=fun x hx=>Nat.le_trans (parts_size (b:=32) (s:=line) (x:=x) hx) h
 rw [show ((32:UInt8).toNat:Int) = 32 from rfl] at e
 rw [e,ob_some]
 cases hp:parts 32 line with
 | nil=>have:=(parts_len 32 line).1; rw [hp] at this; simp at this
 | cons p ps =>
  rw [hp] at hl hs
  simp only [List.length_cons] at hl
  rw [show ix (p :: ps) 0 = some p from rfl,ob_some,ba_eq,w64_id (by omega) (by omega)]
  simp only
  by_cases h1:p = w
  · rw [decide_eq_true h1,Bool.not_true,cond_false]
    by_cases h2:ps.length = k
    · rw [if_pos ⟨h1,h2⟩,bif_false (by simp; omega)]
      unfold d_spec_l4Nums_J1
      exact s_wordsL (y:=p) ps [] [] 2097153 (fun x hx=>hs x (by simp [hx])) (by simp; omega) (by omega)
    · rw [if_neg (fun e=>h2 e.2),bif_true (by simp; omega)]; rfl
  · rw [decide_eq_false h1,if_neg (fun e=>h1 e.1)]; rfl
theorem nms_some:∀ {xs:List ByteArray} {ns:List Int},(∀ x ∈ xs,x.size ≤ 1048576) → nms xs = some ns → xs = ns.map numB ∧ ∀ n ∈ ns,0 ≤ n ∧ n ≤ 999999
 | [],ns,_,h=>by obtain rfl:=Option.some.inj h; simp
 | x :: xs,ns,hx,h=>by
  rw [nms] at h
  split at h
  · rename_i hv
    cases hn:nms xs with
    | none=>rw [hn] at h; simp at h
    | some ms =>
     rw [hn] at h
     obtain rfl:=Option.some.inj h
     have:=nms_some (fun y hy=>hx y (by simp [hy])) hn
     have h1:=nmv_is (hx x (by simp)) hv
     exact ⟨by rw [List.map_cons,← this.1,← h1.1],fun n hn=>by
      rcases List.mem_cons.1 hn with rfl | hn
      · exact h1.2
      · exact this.2 n hn⟩
  · simp at h
theorem wrd_len {w line:ByteArray} {k:Nat} {ns:List Int} (hs:line.size ≤ 1048576) (h:wrd w k line = some ns):ns.length = k ∧ (∀ n ∈ ns,0 ≤ n ∧ n ≤ 999999) ∧ parts 32 line = w :: ns.map numB:=by
 unfold wrd at h
 split at h
 · simp at h
 · rename_i p ps hp
   split at h
   · rename_i h1
     have:=nms_some (fun x hx=>Nat.le_trans (parts_size (b:=32) (s:=line) (by rw [hp]; simp [hx])) hs) h
     refine ⟨?_,this.2,by rw [hp,h1.1,← this.1]⟩
     rw [← h1.2,this.1,List.length_map]
   · simp at h
theorem wrd_ne {w v line:ByteArray} {k j:Nat} {ns:List Int} (hs:line.size ≤ 1048576) (h:wrd w k line = some ns) (hv:v ≠ w):wrd v j line = none:=by
 have:=(wrd_len hs h).2.2
 unfold wrd
 rw [this]
 exact if_neg fun e=>hv e.1.symm
def wWF:ByteArray:=⟨#[119,97,121,32,102,105,114,115,116]⟩
def wWN:ByteArray:=⟨#[119,97,121,32,110,101,120,116]⟩
def wPal:ByteArray:=⟨#[112,97,108,108,101,116]⟩
def wCls:ByteArray:=⟨#[99,108,97,115,115,101,115]⟩
def wWth:ByteArray:=⟨#[119,105,116,104]⟩
def wTyp:ByteArray:=⟨#[116,121,112,101]⟩
def wMas:ByteArray:=⟨#[109,97,115,116,101,114]⟩
def wItm:ByteArray:=⟨#[105,116,101,109]⟩
def emB:ByteArray:=⟨#[]⟩
def R0:Request:=⟨0,⟨0,0,0,0⟩,0,[],[],0,[]⟩
def nt1:List Int → Int
 | [a]=>a
 | _=>0
def pal4:List Int → Pallet
 | [a,b,c,d]=>⟨a,b,c,d⟩
 | _=>⟨0,0,0,0⟩
def pair2:List Int → Pair
 | [a,b]=>⟨a,b⟩
 | _=>⟨0,0⟩
def typ7:List Int → Typ
 | [a,b,c,d,e,f,g]=>⟨a,b,c,d,e,f,g⟩
 | _=>⟨0,0,0,0,0,0,0⟩
def itm7:List Int → Item
 | [a,b,c,d,e,f,g]=>⟨a,b,c,d,e,f,g⟩
 | _=>⟨0,0,0,0,0,0,0⟩
theorem len1 {l:List Int} (h:l.length = 1):∃ a,l = [a]:=List.length_eq_one_iff.1 h
theorem len2 {l:List Int} (h:l.length = 2):∃ a b,l = [a,b]:=by
 match l,h with
 | [a,b],_=>exact ⟨a,b,rfl⟩
theorem len4 {l:List Int} (h:l.length = 4):∃ a b c d,l = [a,b,c,d]:=by
 match l,h with
 | [a,b,c,d],_=>exact ⟨a,b,c,d,rfl⟩
theorem len7 {l:List Int} (h:l.length = 7):∃ a b c d e f g,l = [a,b,c,d,e,f,g]:=by
 match l,h with
 | [a,b,c,d,e,f,g],_=>exact ⟨a,b,c,d,e,f,g,rfl⟩
def ptl (r:Request) (l:ByteArray):Int × Request :=
 if l = wWF then (0,⟨0,r.fPallet,r.fClasses,r.fPairs,r.fTypes,r.fMaster,r.fItems⟩) else
 if l = wWN then (0,⟨1,r.fPallet,r.fClasses,r.fPairs,r.fTypes,r.fMaster,r.fItems⟩) else
 match wrd wPal 4 l with
 | some n=>(1,⟨r.fWay,pal4 n,r.fClasses,r.fPairs,r.fTypes,r.fMaster,r.fItems⟩)
 | none=>match wrd wCls 1 l with
  | some n=>(2,⟨r.fWay,r.fPallet,nt1 n,r.fPairs,r.fTypes,r.fMaster,r.fItems⟩)
  | none=>match wrd wWth 2 l with
   | some n=>(3,⟨r.fWay,r.fPallet,r.fClasses,r.fPairs ++ [pair2 n],r.fTypes,r.fMaster,r.fItems⟩)
   | none=>match wrd wTyp 7 l with
    | some n=>(4,⟨r.fWay,r.fPallet,r.fClasses,r.fPairs,r.fTypes ++ [typ7 n],r.fMaster,r.fItems⟩)
    | none=>match wrd wMas 1 l with
     | some n=>(5,⟨r.fWay,r.fPallet,r.fClasses,r.fPairs,r.fTypes,nt1 n,r.fItems⟩)
     | none=>match wrd wItm 7 l with
      | some n=>(6,⟨r.fWay,r.fPallet,r.fClasses,r.fPairs,r.fTypes,r.fMaster,r.fItems ++ [itm7 n]⟩)
      | none=>(-1,r)
theorem i_wk {line w:ByteArray} {k:Nat} {kk:Int} (h:line.size ≤ 1048576) (hk:k ≤ 1048576) (e:(k:Int) = kk):d_impl_wordsOf 2097153 line w kk = some (rsL [] (wrd w k line)):=e ▸ i_words h hk
theorem obR {β:Type} (k:List Int × Bool → Option β):obind (some (rsL [] none)) k = k ([],false):=rfl
theorem bifN {α:Type} (a b:α):(bif (rsL [] none).2 then a else b) = b:=rfl
theorem bifNn {α:Type} (a b:α):(bif !(rsL [] none).2 then a else b) = a:=rfl
theorem bifSn {α:Type} (n:List Int) (a b:α):(bif !(rsL [] (some n)).2 then a else b) = b:=rfl
theorem i_put {r:Request} {l:ByteArray} (hl:l.size ≤ 1048576) (hp:r.fPairs.length ≤ 1000) (ht:r.fTypes.length ≤ 1000) (hi:r.fItems.length ≤ 1000):d_impl_putLine 2097153 r l = some (ptl r l):=by
 unfold ptl
 show (bif (l.toList == wWF.toList) then _ else bif (l.toList == wWN.toList) then _ else obind (d_impl_wordsOf 2097153 l wPal 4) _) = _
 rw [ba_eq,ba_eq]
 by_cases h1:l = wWF
 · rw [decide_eq_true h1,if_pos h1]; rfl
 rw [decide_eq_false h1,if_neg h1,cond_false]
 by_cases h2:l = wWN
 · rw [decide_eq_true h2,if_pos h2]; rfl
 rw [decide_eq_false h2,if_neg h2,cond_false,i_wk (k:=4) (kk:=4) hl (by omega) rfl]
 cases h3:wrd wPal 4 l with
 | some n =>
  obtain ⟨a,b,c,d,rfl⟩:=len4 (wrd_len hl h3).1
  rfl
 | none =>
 rw [obR,bif_false rfl]
 show obind (d_impl_wordsOf 2097153 l wCls 1) _ = _
 rw [i_wk (k:=1) (kk:=1) hl (by omega) rfl]
 cases h4:wrd wCls 1 l with
 | some n =>
  obtain ⟨a,rfl⟩:=len1 (wrd_len hl h4).1
  rfl
 | none =>
 rw [obR,bif_false rfl]
 show obind (d_impl_wordsOf 2097153 l wWth 2) _ = _
 rw [i_wk (k:=2) (kk:=2) hl (by omega) rfl]
 cases h5:wrd wWth 2 l with
 | some n =>
  obtain ⟨a,b,rfl⟩:=len2 (wrd_len hl h5).1
  show obind (apnd 16 r.fPairs [(⟨a,b⟩:Pair)]) _ = _
  rw [ap1 (by simp only [List.length_singleton]; omega)]
  rfl
 | none =>
 rw [obR,bif_false rfl]
 show obind (d_impl_wordsOf 2097153 l wTyp 7) _ = _
 rw [i_wk (k:=7) (kk:=7) hl (by omega) rfl]
 cases h6:wrd wTyp 7 l with
 | some n =>
  obtain ⟨a,b,c,d,e,f,g,rfl⟩:=len7 (wrd_len hl h6).1
  show obind (apnd 56 r.fTypes [(⟨a,b,c,d,e,f,g⟩:Typ)]) _ = _
  rw [ap1 (by simp only [List.length_singleton]; omega)]
  rfl
 | none =>
 rw [obR,bif_false rfl]
 show obind (d_impl_wordsOf 2097153 l wMas 1) _ = _
 rw [i_wk (k:=1) (kk:=1) hl (by omega) rfl]
 cases h7:wrd wMas 1 l with
 | some n =>
  obtain ⟨a,rfl⟩:=len1 (wrd_len hl h7).1
  rfl
 | none =>
 rw [obR,bif_false rfl]
 show obind (d_impl_wordsOf 2097153 l wItm 7) _ = _
 rw [i_wk (k:=7) (kk:=7) hl (by omega) rfl]
 cases h8:wrd wItm 7 l with
 | some n =>
  obtain ⟨a,b,c,d,e,f,g,rfl⟩:=len7 (wrd_len hl h8).1
  show obind (apnd 56 r.fItems [(⟨a,b,c,d,e,f,g⟩:Item)]) _ = _
  rw [ap1 (by simp only [List.length_singleton]; omega)]
  rfl
 | none=>rfl
def mf (last k:Int):Bool :=
 if k = 0 then last == -1 else if k = 1 then last == 0 else if k = 2 then last == 1 else if k = 3 then last == 2 || last == 3 else if k = 4 then inb last 2 4 else if k = 5 then inb last 2 4 else if k = 6 then last == 5 || last == 6 else false
theorem ptl_cases (r:Request) (l:ByteArray):((ptl r l).1 = 0 ∧ (l = wWF ∨ l = wWN)) ∨ ((ptl r l).1 = 1 ∧ ∃ n,wrd wPal 4 l = some n) ∨ ((ptl r l).1 = 2 ∧ ∃ n,wrd wCls 1 l = some n) ∨ ((ptl r l).1 = 3 ∧ ∃ n,wrd wWth 2 l = some n) ∨
    ((ptl r l).1 = 4 ∧ ∃ n,wrd wTyp 7 l = some n) ∨ ((ptl r l).1 = 5 ∧ ∃ n,wrd wMas 1 l = some n) ∨ ((ptl r l).1 = 6 ∧ ∃ n,wrd wItm 7 l = some n) ∨ (ptl r l).1 = -1:=by
 unfold ptl
 split
 · rename_i h; exact .inl ⟨rfl,.inl h⟩
 split
 · rename_i h; exact .inl ⟨rfl,.inr h⟩
 split
 · rename_i h; exact .inr (.inl ⟨rfl,_,h⟩)
 split
 · rename_i h; exact .inr (.inr (.inl ⟨rfl,_,h⟩))
 split
 · rename_i h; exact .inr (.inr (.inr (.inl ⟨rfl,_,h⟩)))
 split
 · rename_i h; exact .inr (.inr (.inr (.inr (.inl ⟨rfl,_,h⟩))))
 split
 · rename_i h; exact .inr (.inr (.inr (.inr (.inr (.inl ⟨rfl,_,h⟩)))))
 split
 · rename_i h; exact .inr (.inr (.inr (.inr (.inr (.inr (.inl ⟨rfl,_,h⟩))))))
 exact .inr (.inr (.inr (.inr (.inr (.inr (.inr rfl))))))
theorem i_mayF {last k:Int} (h:-1 ≤ k ∧ k ≤ 6):d_impl_mayFollow 2097153 last k = some (mf last k):=by
 have:k = -1 ∨ k = 0 ∨ k = 1 ∨ k = 2 ∨ k = 3 ∨ k = 4 ∨ k = 5 ∨ k = 6:=by omega
 unfold d_impl_mayFollow d_impl_mayFollow_J1
 simp only [i_in,ob_some]
 rcases this with rfl | rfl | rfl | rfl | rfl | rfl | rfl | rfl
 · rfl
 · rfl
 · rfl
 · rfl
 · show (bif (last == 2) then some true else some (last == 3)) = some (last == 2 || last == 3)
   cases last == 2 <;> rfl
 · rfl
 · rfl
 · show (bif (last == 5) then some true else some (last == 6)) = some (last == 5 || last == 6)
   cases last == 5 <;> rfl
theorem ptl_len (r:Request) (l:ByteArray):(ptl r l).2.fPairs.length ≤ r.fPairs.length + 1 ∧ (ptl r l).2.fTypes.length ≤ r.fTypes.length + 1 ∧ (ptl r l).2.fItems.length ≤ r.fItems.length + 1:=by
 unfold ptl
 repeat' split
 all_goals simp
theorem ptl_rng (r:Request) (l:ByteArray):-1 ≤ (ptl r l).1 ∧ (ptl r l).1 ≤ 6:=by
 have:=ptl_cases r l
 omega
def mach (z:ByteArray):List ByteArray → Int → Request → Int → Request × Int
 | [],last,r,i=>if last < 5 then (R0,i) else if z = emB then (r,-1) else (R0,i)
 | l :: ls,last,r,i=>bif mf last (ptl r l).1 then mach z ls (ptl r l).1 (ptl r l).2 (i + 1) else (R0,i)
def rdM (s:ByteArray):Request × Int :=
 if 61 < (parts 10 s).length then (R0,60) else mach ((parts 10 s).getLastD emB) (parts 10 s).dropLast (-1) R0 0
theorem parts_ls (b:UInt8) (s:ByteArray):∃ ls z,parts b s = ls ++ [z] ∧ (parts b s).dropLast = ls ∧ (parts b s).getLastD emB = z:=by
 have h:=(parts_len b s).1
 have hn:parts b s ≠ []:=fun e=>by rw [e] at h; simp at h
 refine ⟨_,(parts b s).getLast hn,(List.dropLast_concat_getLast hn).symm,rfl,?_⟩
 rw [List.getLastD_eq_getLast?,List.getLast?_eq_some_getLast hn]; rfl
theorem sls_ls {α:Type} {ls:List α} {z:α}:sls (ls ++ [z]) 0 (ls.length:Int) = some ls:=by
 rw [sls_some (by simp; omega)]
 simp
theorem ix_ls {α:Type} {ls:List α} {z:α}:ix (ls ++ [z]) (ls.length:Int) = some z:=by
 rw [ix_nat]; simp
theorem i_read {s:ByteArray} (hs:s.size ≤ 1048576):d_impl_ReadOrder 2097153 s = some (rdM s):=by
 unfold d_impl_ReadOrder rdM
 have e:=i_parts (b:=10) hs
 rw [show ((10:UInt8).toNat:Int) = 10 from rfl] at e
 rw [e,ob_some]
 obtain ⟨ls,z,h1,h2,h3⟩:=parts_ls 10 s
 have hsz:=fun x hx=>Nat.le_trans (parts_size (b:=10) (s:=s) (x:=x) hx) hs
 have hn:=(parts_len 10 s).2
 rw [h2,h3]
 rw [h1] at hsz hn ⊢
 simp only [List.length_append,List.length_singleton] at hn ⊢
 rw [w64_id (by omega) (by omega),show ((ls.length + 1:Nat):Int) - 1 = ls.length by omega]
 by_cases h61:61 < ls.length + 1
 · rw [bif_true (by simp; omega),if_pos h61]; rfl
 rw [bif_false (by simp; omega),if_neg h61,sls_ls,ob_some]
 have key:=lpPI ls (fun n (o:Request × Int) i=>d_impl_ReadOrder_L1 2097153 (ls ++ [z]) ls n o.1.fWay o.1.fPallet.fW o.1.fPallet.fD o.1.fPallet.fH o.1.fPallet.fGram o.1.fClasses o.1.fPairs o.1.fTypes o.1.fMaster o.1.fItems o.2 i) (fun pre xs o=>some (mach z xs o.2 o.1 (pre.length:Int))) (fun pre xs o=>o.1.fPairs.length ≤ pre.length ∧ o.1.fTypes.length ≤ pre.length ∧ o.1.fItems.length ≤ pre.length) (by omega) ?_ ?_ 2097153 (R0,-1) ⟨by simp [R0],by simp [R0],by simp [R0]⟩ (by omega)
 · exact key
 · intro n o pre x xs e hx hd hI ih
   have hpl:pre.length < ls.length:=by rw [e]; simp
   have hxs:x.size ≤ 1048576:=hsz x (by rw [e]; simp)
   simp only [d_impl_ReadOrder_L1.eq_2]
   unfold d_impl_ReadOrder_L1_B
   rw [hd,cond_true,hx,ob_some]
   show obind (d_impl_putLine 2097153 o.1 x) _ = _
   rw [i_put hxs (by omega) (by omega) (by omega),ob_some,i_mayF (ptl_rng _ _),ob_some]
   cases hm:mf o.2 (ptl o.1 x).1 with
   | false =>
    rw [Bool.not_false,cond_true,mach,hm]; rfl
   | true =>
    rw [Bool.not_true,cond_false]
    have hl:=ptl_len o.1 x
    have:=ih ((ptl o.1 x).2,(ptl o.1 x).1) ⟨by simp; omega,by simp; omega,by simp; omega⟩
    rw [mach,hm,cond_true]
    simp only at this
    rw [this]
    simp
 · intro n o hd hI
   simp only [d_impl_ReadOrder_L1.eq_2]
   unfold d_impl_ReadOrder_L1_B
   rw [hd,cond_false,mach]
   simp only [List.length_append,List.length_singleton]
   rw [w64_id (by omega) (by omega),show ((ls.length + 1:Nat):Int) - 1 = ls.length by omega,ix_ls,ob_some]
   by_cases h5:o.2 < 5
   · rw [bif_true (by simpa using h5),if_pos h5]; rfl
   rw [bif_false (by simpa using h5),if_neg h5]
   show (bif (!(z.toList == emB.toList)) then _ else _) = _
   rw [ba_eq]
   by_cases hz:z = emB
   · rw [decide_eq_true hz,if_pos hz]; rfl
   · rw [decide_eq_false hz,if_neg hz]; rfl
theorem s_nk {line w:ByteArray} {k:Nat} {kk:Int} (h:line.size ≤ 1048576) (hk:k ≤ 1048576) (e:(k:Int) = kk):d_spec_l4Nums 2097153 line w kk = some (rsL [] (wrd w k line)):=e ▸ s_nums h hk
def nx (w:ByteArray) (k:Nat):List ByteArray → Option (List Int)
 | []=>none
 | l :: _=>wrd w k l
theorem s_l4 {pre rest:List ByteArray} {z w:ByteArray} {k:Nat} {kk at_:Int} (hs:∀ x ∈ rest,x.size ≤ 1048576) (hl:pre.length + rest.length ≤ 1000) (hk:k ≤ 1000) (e:(k:Int) = kk) (ea:(pre.length:Int) = at_):d_spec_l4Line 2097153 (pre ++ (rest ++ [z])) at_ w kk = some (rsL [] (nx w k rest)):=by
 subst ea
 unfold d_spec_l4Line
 simp only [List.length_append,List.length_singleton]
 rw [w64_id (by omega) (by omega)]
 cases rest with
 | nil=>rw [bif_true (by simp)]; rfl
 | cons l ls =>
  rw [bif_false (by simp; omega),ix_nat]
  have:(pre ++ (l :: ls ++ [z]))[pre.length]? = some l:=by simp
  rw [this,ob_some,s_nk (k:=k) (hs l (by simp)) (by omega) e,ob_some]
  rfl
theorem ptl_itm {l:ByteArray} {n:List Int} (hl:l.size ≤ 1048576) (h:wrd wItm 7 l = some n) (r:Request):ptl r l = (6,⟨r.fWay,r.fPallet,r.fClasses,r.fPairs,r.fTypes,r.fMaster,r.fItems ++ [itm7 n]⟩):=by
 have hp:=(wrd_len hl h).2.2
 unfold ptl
 rw [if_neg (fun e=>by rw [e] at hp; revert hp; exact fun hp=>absurd (List.cons.inj hp).1 (by decide)),if_neg (fun e=>by rw [e] at hp; exact absurd (List.cons.inj hp).1 (by decide)),wrd_ne hl h (v:=wPal) (by decide),wrd_ne hl h (v:=wCls) (by decide),wrd_ne hl h (v:=wWth) (by decide),wrd_ne hl h (v:=wTyp) (by decide),wrd_ne hl h (v:=wMas) (by decide),h]
theorem ptl_mas {l:ByteArray} {n:List Int} (hl:l.size ≤ 1048576) (h:wrd wMas 1 l = some n) (r:Request):ptl r l = (5,⟨r.fWay,r.fPallet,r.fClasses,r.fPairs,r.fTypes,nt1 n,r.fItems⟩):=by
 have hp:=(wrd_len hl h).2.2
 unfold ptl
 rw [if_neg (fun e=>by rw [e] at hp; exact absurd (List.cons.inj hp).1 (by decide)),if_neg (fun e=>by rw [e] at hp; exact absurd (List.cons.inj hp).1 (by decide)),wrd_ne hl h (v:=wPal) (by decide),wrd_ne hl h (v:=wCls) (by decide),wrd_ne hl h (v:=wWth) (by decide),wrd_ne hl h (v:=wTyp) (by decide),h]
theorem ptl_typ {l:ByteArray} {n:List Int} (hl:l.size ≤ 1048576) (h:wrd wTyp 7 l = some n) (r:Request):ptl r l = (4,⟨r.fWay,r.fPallet,r.fClasses,r.fPairs,r.fTypes ++ [typ7 n],r.fMaster,r.fItems⟩):=by
 have hp:=(wrd_len hl h).2.2
 unfold ptl
 rw [if_neg (fun e=>by rw [e] at hp; exact absurd (List.cons.inj hp).1 (by decide)),if_neg (fun e=>by rw [e] at hp; exact absurd (List.cons.inj hp).1 (by decide)),wrd_ne hl h (v:=wPal) (by decide),wrd_ne hl h (v:=wCls) (by decide),wrd_ne hl h (v:=wWth) (by decide),h]
theorem ptl_wth {l:ByteArray} {n:List Int} (hl:l.size ≤ 1048576) (h:wrd wWth 2 l = some n) (r:Request):ptl r l = (3,⟨r.fWay,r.fPallet,r.fClasses,r.fPairs ++ [pair2 n],r.fTypes,r.fMaster,r.fItems⟩):=by
 have hp:=(wrd_len hl h).2.2
 unfold ptl
 rw [if_neg (fun e=>by rw [e] at hp; exact absurd (List.cons.inj hp).1 (by decide)),if_neg (fun e=>by rw [e] at hp; exact absurd (List.cons.inj hp).1 (by decide)),wrd_ne hl h (v:=wPal) (by decide),wrd_ne hl h (v:=wCls) (by decide),h]
theorem ptl_cls {l:ByteArray} {n:List Int} (hl:l.size ≤ 1048576) (h:wrd wCls 1 l = some n) (r:Request):ptl r l = (2,⟨r.fWay,r.fPallet,nt1 n,r.fPairs,r.fTypes,r.fMaster,r.fItems⟩):=by
 have hp:=(wrd_len hl h).2.2
 unfold ptl
 rw [if_neg (fun e=>by rw [e] at hp; exact absurd (List.cons.inj hp).1 (by decide)),if_neg (fun e=>by rw [e] at hp; exact absurd (List.cons.inj hp).1 (by decide)),wrd_ne hl h (v:=wPal) (by decide),h]
theorem ptl_pal {l:ByteArray} {n:List Int} (hl:l.size ≤ 1048576) (h:wrd wPal 4 l = some n) (r:Request):ptl r l = (1,⟨r.fWay,pal4 n,r.fClasses,r.fPairs,r.fTypes,r.fMaster,r.fItems⟩):=by
 have hp:=(wrd_len hl h).2.2
 unfold ptl
 rw [if_neg (fun e=>by rw [e] at hp; exact absurd (List.cons.inj hp).1 (by decide)),if_neg (fun e=>by rw [e] at hp; exact absurd (List.cons.inj hp).1 (by decide)),h]
theorem mach_no {z l:ByteArray} {ls:List ByteArray} {last i:Int} {r:Request} (h:mf last (ptl r l).1 = false):mach z (l :: ls) last r i = (R0,i):=by
 rw [mach,h]; rfl
theorem mach_yes {z l:ByteArray} {ls:List ByteArray} {last i k:Int} {r q:Request} (h:ptl r l = (k,q)) (hm:mf last k = true):mach z (l :: ls) last r i = mach z ls k q (i + 1):=by
 rw [mach,h,hm]; rfl
theorem s_L1 {z:ByteArray} {w a b c d cl m:Int} {P:List Pair} {T:List Typ}:∀ (rest pre:List ByteArray) (its:List Item) (k:Nat) (last:Int),(∀ x ∈ rest,x.size ≤ 1048576) → pre.length + rest.length ≤ 1000 → its.length ≤ pre.length → rest.length < k → (last = 5 ∨ last = 6) →
    d_spec_ReadOrder_L1 2097153 (pre ++ (rest ++ [z])) w a b c d cl P T m k its (pre.length:Int) (rsL [] (nx wItm 7 rest)).1 (rsL [] (nx wItm 7 rest)).2 = some (mach z rest last ⟨w,⟨a,b,c,d⟩,cl,P,T,m,its⟩ (pre.length:Int))
 | [],pre,its,k,last,hs,hl,hi,hk,h5=>by
  obtain ⟨k,rfl⟩:∃ j,k = j + 1:=⟨k - 1,by omega⟩
  simp only [List.length_nil] at hl
  rw [d_spec_ReadOrder_L1.eq_2]
  unfold d_spec_ReadOrder_L1_B
  rw [show nx wItm 7 [] = none from rfl,bifN]
  simp only [List.nil_append,List.length_append,List.length_singleton]
  rw [w64_id (by omega) (by omega),bif_false (by simp),show ((pre.length + 1:Nat):Int) - 1 = pre.length by omega,ix_ls,ob_some]
  show (bif (!(z.toList == emB.toList)) then _ else _) = _
  rw [ba_eq,mach,if_neg (show ¬ last < 5 by omega)]
  by_cases hz:z = emB
  · rw [decide_eq_true hz,if_pos hz]; try rfl
  · rw [decide_eq_false hz,if_neg hz]; try rfl
 | l :: ls,pre,its,k,last,hs,hl,hi,hk,h5=>by
  obtain ⟨k,rfl⟩:∃ j,k = j + 1:=⟨k - 1,by omega⟩
  simp only [List.length_cons] at hl hk
  rw [d_spec_ReadOrder_L1.eq_2]
  unfold d_spec_ReadOrder_L1_B
  have hsl:=hs l (by simp)
  rw [show nx wItm 7 (l :: ls) = wrd wItm 7 l from rfl]
  cases hw:wrd wItm 7 l with
  | none =>
   rw [bifN]
   simp only [List.length_append,List.length_singleton,List.length_cons,List.length_nil]
   rw [w64_id (by omega) (by omega),bif_true (by simp; omega),mach_no ?_]; · rfl
   have hc:=ptl_cases ⟨w,⟨a,b,c,d⟩,cl,P,T,m,its⟩ l
   rw [hw] at hc
   rcases hc with ⟨e,_⟩ | ⟨e,_⟩ | ⟨e,_⟩ | ⟨e,_⟩ | ⟨e,_⟩ | ⟨e,_⟩ | ⟨_,_,e⟩ | e
   all_goals first | (rw [e]; rcases h5 with rfl | rfl <;> rfl) | exact absurd e (by simp)
  | some n =>
   obtain ⟨x1,x2,x3,x4,x5,x6,x7,rfl⟩:=len7 (wrd_len hsl hw).1
   rw [mach_yes (ptl_itm hsl hw _) (by rcases h5 with rfl | rfl <;> rfl)]
   show obind (apnd 56 its [(⟨x1,x2,x3,x4,x5,x6,x7⟩:Item)]) _ = _
   rw [ap1 (by simp only [List.length_singleton]; omega),ob_some,w64_id (by omega) (by omega)]
   have e:pre ++ (l :: ls ++ [z]) = (pre ++ [l]) ++ (ls ++ [z]):=by simp
   have ea:(pre.length:Int) + 1 = (((pre ++ [l]).length:Nat):Int):=by simp
   rw [e,ea]
   show obind (d_spec_l4Line 2097153 ((pre ++ [l]) ++ (ls ++ [z])) (((pre ++ [l]).length:Nat):Int) wItm 7) _ = _
   rw [s_l4 (k:=7) (kk:=7) (fun x hx=>hs x (by simp [hx])) (by simp; omega) (by omega) rfl rfl,ob_some]
   exact s_L1 ls (pre ++ [l]) _ k 6 (fun x hx=>hs x (by simp [hx])) (by simp; omega) (by simp; omega) (by omega) (.inr rfl)
theorem s_L2 {z:ByteArray} {w a b c d cl:Int} {P:List Pair}:∀ (rest pre:List ByteArray) (ts:List Typ) (k:Nat) (last:Int),(∀ x ∈ rest,x.size ≤ 1048576) → pre.length + rest.length ≤ 1000 → ts.length ≤ pre.length → rest.length < k → (last = 4 ∨ (last = 2 ∨ last = 3) ∧ nx wWth 2 rest = none) →
    d_spec_ReadOrder_L2 2097153 (pre ++ (rest ++ [z])) w a b c d cl P k ts (pre.length:Int) (rsL [] (nx wTyp 7 rest)).1 (rsL [] (nx wTyp 7 rest)).2 = some (mach z rest last ⟨w,⟨a,b,c,d⟩,cl,P,ts,0,[]⟩ (pre.length:Int))
 | [],pre,ts,k,last,hs,hl,hi,hk,h5=>by
  obtain ⟨k,rfl⟩:∃ j,k = j + 1:=⟨k - 1,by omega⟩
  rw [d_spec_ReadOrder_L2.eq_2]
  unfold d_spec_ReadOrder_L2_B
  rw [show nx wTyp 7 [] = none from rfl,bifN]
  show obind (d_spec_l4Line 2097153 (pre ++ ([] ++ [z])) (pre.length:Int) wMas 1) _ = _
  rw [s_l4 (k:=1) (kk:=1) hs hl (by omega) rfl rfl,ob_some,mach,if_pos (by omega)]
  rfl
 | l :: ls,pre,ts,k,last,hs,hl,hi,hk,h5=>by
  obtain ⟨k,rfl⟩:∃ j,k = j + 1:=⟨k - 1,by omega⟩
  have hl0:=hl
  simp only [List.length_cons] at hl hk
  rw [d_spec_ReadOrder_L2.eq_2]
  unfold d_spec_ReadOrder_L2_B
  have hsl:=hs l (by simp)
  have e:pre ++ (l :: ls ++ [z]) = (pre ++ [l]) ++ (ls ++ [z]):=by simp
  have ea:(pre.length:Int) + 1 = (((pre ++ [l]).length:Nat):Int):=by simp
  rw [show nx wTyp 7 (l :: ls) = wrd wTyp 7 l from rfl]
  cases hw:wrd wTyp 7 l with
  | none =>
   rw [bifN]
   show obind (d_spec_l4Line 2097153 (pre ++ (l :: ls ++ [z])) (pre.length:Int) wMas 1) _ = _
   rw [s_l4 (k:=1) (kk:=1) hs hl0 (by omega) rfl rfl,ob_some]
   rw [show nx wMas 1 (l :: ls) = wrd wMas 1 l from rfl]
   cases hm:wrd wMas 1 l with
   | none =>
    rw [bifNn,mach_no ?_]; · rfl
    have hc:=ptl_cases ⟨w,⟨a,b,c,d⟩,cl,P,ts,0,[]⟩ l
    rw [hw,hm] at hc
    have h5':last = 4 ∨ (last = 2 ∨ last = 3) ∧ wrd wWth 2 l = none:=h5
    rcases hc with ⟨e,_⟩ | ⟨e,_⟩ | ⟨e,_⟩ | ⟨e,_,e'⟩ | ⟨_,_,e⟩ | ⟨_,_,e⟩ | ⟨e,_⟩ | e
    all_goals first | exact absurd e (by simp) | (rw [e]; rcases h5' with rfl | ⟨rfl | rfl,h6⟩ <;> first | rfl | (rw [h6] at e'; exact absurd e' (by simp)))
   | some n =>
    obtain ⟨x1,rfl⟩:=len1 (wrd_len hsl hm).1
    rw [bifSn,mach_yes (ptl_mas hsl hm _) (by rcases h5 with rfl | ⟨rfl | rfl,_⟩ <;> rfl)]
    show obind (d_spec_l4Line 2097153 (pre ++ (l :: ls ++ [z])) (w64 ((pre.length:Int) + 1)) wItm 7) _ = _
    rw [w64_id (by omega) (by omega),e,ea,s_l4 (k:=7) (kk:=7) (fun x hx=>hs x (by simp [hx])) (by simp; omega) (by omega) rfl rfl,ob_some]
    exact s_L1 ls (pre ++ [l]) [] 2097153 5 (fun x hx=>hs x (by simp [hx])) (by simp; omega) (by simp) (by omega) (.inl rfl)
  | some n =>
   obtain ⟨x1,x2,x3,x4,x5,x6,x7,rfl⟩:=len7 (wrd_len hsl hw).1
   rw [mach_yes (ptl_typ hsl hw _) (by rcases h5 with rfl | ⟨rfl | rfl,_⟩ <;> rfl)]
   show obind (apnd 56 ts [(⟨x1,x2,x3,x4,x5,x6,x7⟩:Typ)]) _ = _
   rw [ap1 (by simp only [List.length_singleton]; omega),ob_some,w64_id (by omega) (by omega),e,ea]
   show obind (d_spec_l4Line 2097153 ((pre ++ [l]) ++ (ls ++ [z])) (((pre ++ [l]).length:Nat):Int) wTyp 7) _ = _
   rw [s_l4 (k:=7) (kk:=7) (fun x hx=>hs x (by simp [hx])) (by simp; omega) (by omega) rfl rfl,ob_some]
   exact s_L2 ls (pre ++ [l]) _ k 4 (fun x hx=>hs x (by simp [hx])) (by simp; omega) (by simp; omega) (by omega) (.inl rfl)
theorem s_L3 {z:ByteArray} {w a b c d cl:Int}:∀ (rest pre:List ByteArray) (ps:List Pair) (k:Nat) (last:Int),(∀ x ∈ rest,x.size ≤ 1048576) → pre.length + rest.length ≤ 1000 → ps.length ≤ pre.length → rest.length < k → (last = 2 ∨ last = 3) →
    d_spec_ReadOrder_L3 2097153 (pre ++ (rest ++ [z])) w a b c d cl k ps (pre.length:Int) (rsL [] (nx wWth 2 rest)).1 (rsL [] (nx wWth 2 rest)).2 = some (mach z rest last ⟨w,⟨a,b,c,d⟩,cl,ps,[],0,[]⟩ (pre.length:Int))
 | rest,pre,ps,k,last,hs,hl,hi,hk,h5=>by
  obtain ⟨k,rfl⟩:∃ j,k = j + 1:=⟨k - 1,by omega⟩
  rw [d_spec_ReadOrder_L3.eq_2]
  unfold d_spec_ReadOrder_L3_B
  cases hw:nx wWth 2 rest with
  | none =>
   rw [bifN]
   show obind (d_spec_l4Line 2097153 (pre ++ (rest ++ [z])) (pre.length:Int) wTyp 7) _ = _
   rw [s_l4 (k:=7) (kk:=7) hs hl (by omega) rfl rfl,ob_some]
   exact s_L2 rest pre [] 2097153 last hs hl (by simp) (by omega) (.inr ⟨h5,hw⟩)
  | some n =>
   cases rest with
   | nil=>exact absurd hw (by simp [nx])
   | cons l ls =>
    have hsl:=hs l (by simp)
    have e:pre ++ (l :: ls ++ [z]) = (pre ++ [l]) ++ (ls ++ [z]):=by simp
    have ea:(pre.length:Int) + 1 = (((pre ++ [l]).length:Nat):Int):=by simp
    simp only [List.length_cons] at hl hk
    have hw':wrd wWth 2 l = some n:=hw
    obtain ⟨x1,x2,rfl⟩:=len2 (wrd_len hsl hw').1
    rw [mach_yes (ptl_wth hsl hw' _) (by rcases h5 with rfl | rfl <;> rfl)]
    show obind (apnd 16 ps [(⟨x1,x2⟩:Pair)]) _ = _
    rw [ap1 (by simp only [List.length_singleton]; omega),ob_some,w64_id (by omega) (by omega),e,ea]
    show obind (d_spec_l4Line 2097153 ((pre ++ [l]) ++ (ls ++ [z])) (((pre ++ [l]).length:Nat):Int) wWth 2) _ = _
    rw [s_l4 (k:=2) (kk:=2) (fun x hx=>hs x (by simp [hx])) (by simp; omega) (by omega) rfl rfl,ob_some]
    exact s_L3 ls (pre ++ [l]) _ k 3 (fun x hx=>hs x (by simp [hx])) (by simp; omega) (by simp; omega) (by omega) (.inr rfl)
 termination_by rest=>rest.length
theorem s_J1 {z l0:ByteArray} {w:Int} {rest:List ByteArray} (hs:∀ x ∈ rest,x.size ≤ 1048576) (hl:rest.length ≤ 900):d_spec_ReadOrder_J1 2097153 ([l0] ++ (rest ++ [z])) w = some (mach z rest 0 ⟨w,⟨0,0,0,0⟩,0,[],[],0,[]⟩ 1):=by
 unfold d_spec_ReadOrder_J1
 show obind (d_spec_l4Line 2097153 ([l0] ++ (rest ++ [z])) 1 wPal 4) _ = _
 rw [s_l4 (k:=4) (kk:=4) (at_:=1) (pre:=[l0]) hs (by simp; omega) (by omega) rfl rfl,ob_some]
 cases rest with
 | nil=>rfl
 | cons l1 ls =>
  have h1:=hs l1 (by simp)
  simp only [List.length_cons] at hl
  rw [show nx wPal 4 (l1 :: ls) = wrd wPal 4 l1 from rfl]
  cases hw:wrd wPal 4 l1 with
  | none =>
   rw [bifNn,mach_no ?_]; · rfl
   have hc:=ptl_cases ⟨w,⟨0,0,0,0⟩,0,[],[],0,[]⟩ l1
   rw [hw] at hc
   rcases hc with ⟨e,_⟩ | ⟨_,_,e⟩ | ⟨e,_⟩ | ⟨e,_⟩ | ⟨e,_⟩ | ⟨e,_⟩ | ⟨e,_⟩ | e
   all_goals first | exact absurd e (by simp) | (rw [e]; rfl)
  | some n =>
   obtain ⟨a,b,c,d,rfl⟩:=len4 (wrd_len h1 hw).1
   rw [bifSn,mach_yes (ptl_pal h1 hw _) rfl]
   show obind (d_spec_l4Line 2097153 ([l0,l1] ++ (ls ++ [z])) 2 wCls 1) _ = some (mach z ls 1 ⟨w,⟨a,b,c,d⟩,0,[],[],0,[]⟩ 2)
   rw [s_l4 (k:=1) (kk:=1) (at_:=2) (pre:=[l0,l1]) (fun x hx=>hs x (by simp [hx])) (by simp; omega) (by omega) rfl rfl,ob_some]
   cases ls with
   | nil=>rfl
   | cons l2 ls =>
    have h2:=hs l2 (by simp)
    simp only [List.length_cons] at hl
    rw [show nx wCls 1 (l2 :: ls) = wrd wCls 1 l2 from rfl]
    cases hw:wrd wCls 1 l2 with
    | none =>
     rw [bifNn,mach_no ?_]; · rfl
     have hc:=ptl_cases ⟨w,⟨a,b,c,d⟩,0,[],[],0,[]⟩ l2
     rw [hw] at hc
     rcases hc with ⟨e,_⟩ | ⟨e,_⟩ | ⟨_,_,e⟩ | ⟨e,_⟩ | ⟨e,_⟩ | ⟨e,_⟩ | ⟨e,_⟩ | e
     all_goals first | exact absurd e (by simp) | (rw [e]; rfl)
    | some n =>
     obtain ⟨cl,rfl⟩:=len1 (wrd_len h2 hw).1
     rw [bifSn,mach_yes (ptl_cls h2 hw _) rfl]
     show obind (d_spec_l4Line 2097153 ([l0,l1,l2] ++ (ls ++ [z])) 3 wWth 2) _ = some (mach z ls 2 ⟨w,⟨a,b,c,d⟩,cl,[],[],0,[]⟩ 3)
     rw [s_l4 (k:=2) (kk:=2) (at_:=3) (pre:=[l0,l1,l2]) (fun x hx=>hs x (by simp [hx])) (by simp; omega) (by omega) rfl rfl,ob_some]
     exact s_L3 ls [l0,l1,l2] [] 2097153 2 (fun x hx=>hs x (by simp [hx])) (by simp; omega) (by simp) (by omega) (.inl rfl)
theorem s_read {s:ByteArray} (hs:s.size ≤ 1048576):d_spec_ReadOrder 2097153 s = some (rdM s):=by
 unfold d_spec_ReadOrder rdM
 have e:=s_parts (b:=10) hs
 rw [show ((10:UInt8).toNat:Int) = 10 from rfl] at e
 rw [e,ob_some]
 obtain ⟨ls,z,h1,h2,h3⟩:=parts_ls 10 s
 have hsz:=fun x hx=>Nat.le_trans (parts_size (b:=10) (s:=s) (x:=x) hx) hs
 have hn:=(parts_len 10 s).2
 rw [h2,h3]
 rw [h1] at hsz hn ⊢
 simp only [List.length_append,List.length_singleton] at hn ⊢
 rw [w64_id (by omega) (by omega),show ((ls.length + 1:Nat):Int) - 1 = ls.length by omega]
 by_cases h61:61 < ls.length + 1
 · rw [bif_true (by simp; omega),if_pos h61]; rfl
 rw [bif_false (by simp; omega),if_neg h61]
 cases ls with
 | nil=>rfl
 | cons l0 ls =>
  rw [bif_false (by simp; omega)]
  have hr:∀ x ∈ ls,x.size ≤ 1048576:=fun x hx=>hsz x (by simp [hx])
  simp only [List.length_cons] at h61
  rw [show ix (l0 :: ls ++ [z]) 0 = some l0 from rfl,ob_some]
  show (bif (!(l0.toList == wWF.toList)) then (bif (!(l0.toList == wWN.toList)) then _ else _) else _) = _
  have j2:∀ (k:Int),(l0 = wWN → k = 1) → (l0 ≠ wWN → k = 0) → d_spec_ReadOrder_J2 2097153 (l0 :: ls ++ [z]) = some (mach z ls 0 ⟨k,⟨0,0,0,0⟩,0,[],[],0,[]⟩ 1):=fun k k1 k0=>by
   unfold d_spec_ReadOrder_J2
   rw [show ix (l0 :: ls ++ [z]) 0 = some l0 from rfl,ob_some]
   show (bif (l0.toList == wWN.toList) then d_spec_ReadOrder_J1 2097153 ([l0] ++ (ls ++ [z])) 1 else d_spec_ReadOrder_J1 2097153 ([l0] ++ (ls ++ [z])) 0) = _
   rw [ba_eq,s_J1 hr (by omega),s_J1 hr (by omega)]
   by_cases hl:l0 = wWN
   · rw [decide_eq_true hl,k1 hl]; rfl
   · rw [decide_eq_false hl,k0 hl]; rfl
  rw [ba_eq,ba_eq]
  by_cases hF:l0 = wWF
  · rw [decide_eq_true hF,Bool.not_true,cond_false,j2 0 (fun e=>absurd (e.symm.trans hF) (by decide)) fun _=>rfl,mach_yes (k:=0) (q:=⟨0,⟨0,0,0,0⟩,0,[],[],0,[]⟩) ?_ rfl]; · rfl
    unfold ptl
    rw [if_pos hF]; rfl
  · rw [decide_eq_false hF,Bool.not_false,cond_true]
    by_cases hN:l0 = wWN
    · rw [decide_eq_true hN,Bool.not_true,cond_false,j2 1 (fun _=>rfl) (fun e=>absurd hN e),mach_yes (k:=0) (q:=⟨1,⟨0,0,0,0⟩,0,[],[],0,[]⟩) ?_ rfl]; · rfl
      unfold ptl
      rw [if_neg hF,if_pos hN]; rfl
    · rw [decide_eq_false hN,Bool.not_false,cond_true,mach_no ?_]; · rfl
      have hc:=ptl_cases R0 l0
      rcases hc with ⟨_,e⟩ | ⟨e,_⟩ | ⟨e,_⟩ | ⟨e,_⟩ | ⟨e,_⟩ | ⟨e,_⟩ | ⟨e,_⟩ | e
      · rcases e with e | e
        · exact absurd e hF
        · exact absurd e hN
      all_goals (rw [e]; rfl)
end Go.Proofs.YthkaklkinepfkaaGreatDoor
