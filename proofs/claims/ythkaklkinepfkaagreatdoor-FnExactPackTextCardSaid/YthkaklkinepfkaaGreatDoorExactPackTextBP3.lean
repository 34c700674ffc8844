/- ExactPackTextBP: plain lemmas, part 3. -/
import Derived.Test.YthkaklkinepfkaaGreatDoorExactPackTextBP2
set_option linter.unusedSimpArgs false
set_option linter.unusedVariables false
namespace Go.Proofs.YthkaklkinepfkaaGreatDoor
open Go
open Enc (rd ow)
open Arg (argv)
open Ret (retv)
open Wf (wf)
def inB (n lo hi:Int):Bool:=decide (lo ≤ n ∧ n ≤ hi)
theorem inB_iff {n lo hi:Int}:inB n lo hi = true ↔ lo ≤ n ∧ n ≤ hi:=by simp [inB]
theorem l1In_eq (fu:Nat) (n lo hi:Int):d_spec_l1In fu n lo hi = some (inB n lo hi):=by
 unfold d_spec_l1In inB
 by_cases h:n ≥ lo
 · rw [bif_true (by simpa using h)]
   have:lo ≤ n:=h
   simp [this]
 · rw [bif_false (by simpa using h)]
   have:¬ lo ≤ n:=h
   simp [this]
theorem in_eq (fu:Nat) (n lo hi:Int):d_impl_in fu n lo hi = some (inB n lo hi):=l1In_eq fu n lo hi
def palletB (p:Pallet):Bool:=inB p.fW 1 2000 && (inB p.fD 1 2000 && (inB p.fH 1 2000 && inB p.fGram 1 100000))
def boxB (p:Pallet) (b:Box):Bool:=inB b.fW 1 p.fW && (inB b.fD 1 p.fD && (inB b.fH 1 p.fH && inB b.fGram 1 p.fGram))
def boxesB (p:Pallet) (l:List Box):Bool:=palletB p && l.all (boxB p)
theorem implPalletOk_eq (fu:Nat) (p:Pallet):d_impl_PalletOk fu p = some (palletB p):=by
 unfold d_impl_PalletOk d_impl_isSide palletB
 simp only [in_eq,ob_some]
 cases inB p.fW 1 2000 <;> cases inB p.fD 1 2000 <;> cases inB p.fH 1 2000 <;> rfl
theorem boxesOk1_eq (fu:Nat) (b:Box) (p:Pallet):d_impl_BoxesOk_1 fu b p = some (!boxB p b):=by
 unfold d_impl_BoxesOk_1 boxB
 simp only [in_eq,ob_some]
 cases inB b.fW 1 p.fW <;> cases inB b.fD 1 p.fD <;> cases inB b.fH 1 p.fH <;> rfl
theorem containsBox_eq (fu:Nat) (l:List Box) (f:Box → Option Bool) (g:Box → Bool) (hg:∀ b,f b = some (g b)) (h:l.length ≤ 1048576) (hf:l.length < fu) :
    d_slices_ContainsFunc_impl_Box_impl_Box fu l f = some (l.any g):=by
 unfold d_slices_ContainsFunc_impl_Box_impl_Box d_slices_IndexFunc_impl_Box_impl_Box
 have key:∀ (m i n:Nat),l.length - i = m → i ≤ l.length → m < n → ∃ r,d_slices_IndexFunc_impl_Box_impl_Box_L1 fu l f n i = some r ∧ decide (r ≥ 0) = (l.drop i).any g:=by
  intro m
  induction m with
  | zero =>
   intro i n hm hi hn
   obtain ⟨n,rfl⟩:∃ k,n = k + 1:=⟨n - 1,by omega⟩
   rw [d_slices_IndexFunc_impl_Box_impl_Box_L1.eq_2]
   unfold d_slices_IndexFunc_impl_Box_impl_Box_L1_B
   rw [bif_false (by simp; omega),List.drop_eq_nil_of_le (by omega)]
   exact ⟨_,rfl,rfl⟩
  | succ m ih =>
   intro i n hm hi hn
   obtain ⟨n,rfl⟩:∃ k,n = k + 1:=⟨n - 1,by omega⟩
   have hlt:i < l.length:=by omega
   rw [d_slices_IndexFunc_impl_Box_impl_Box_L1.eq_2]
   unfold d_slices_IndexFunc_impl_Box_impl_Box_L1_B
   rw [bif_true (by simpa using hlt),ob_of (ix_at (List.getElem?_eq_getElem hlt)),hg,ob_some,List.drop_eq_getElem_cons hlt,List.any_cons]
   cases hgx:g l[i]
   · rw [bif_false rfl,w64_id (by omega) (by omega),Bool.false_or]
     have:=ih (i + 1) n (by omega) (by omega) (by omega)
     simpa using this
   · rw [bif_true rfl]
     exact ⟨_,rfl,by simp⟩
 obtain ⟨r,h1,h2⟩:=key l.length 0 fu (by omega) (by omega) hf
 have h1':d_slices_IndexFunc_impl_Box_impl_Box_L1 fu l f fu 0 = some r:=h1
 rw [h1',ob_some,h2]
 rfl
theorem implBoxesOk_eq (fu:Nat) (p:Pallet) (l:List Box) (h:l.length ≤ 1048576) (hf:l.length < fu):d_impl_BoxesOk fu p l = some (boxesB p l):=by
 unfold d_impl_BoxesOk boxesB
 rw [implPalletOk_eq,ob_some]
 cases palletB p
 · rfl
 rw [bif_true rfl,containsBox_eq fu l _ (fun b=>!boxB p b) (fun b=>boxesOk1_eq fu b p) h hf,ob_some,Bool.true_and]
 congr 1
 induction l with
 | nil=>rfl
 | cons x xs ih =>
  simp only [List.any_cons,List.all_cons,Bool.not_or,Bool.not_not]
  rw [ih (by simp at h; omega) (by simp at hf; omega)]
theorem bos_eq (p:Pallet) (l:List Box):boxesB p l = bosB p l:=by
 have e:∀ a b c:Int,inB a b c = inb a b c:=fun a b c=>Bool.eq_iff_iff.2 (by rw [inB_iff,inb_iff])
 have e2:boxB p = bokB p:=by funext b; unfold boxB bokB; simp only [e]
 unfold boxesB bosB palletB palB
 simp only [e,e2]
theorem mx_if (a b:Int):(if b > a then b else a) = mxI a b:=by unfold mxI; split <;> split <;> omega
theorem setx_nat {α:Type} (l:List α) (j:Nat) (a:α):setx l (j:Int) a = l.set j a:=by simp [setx]
theorem i_shJ2 {fu:Nat} {k8:List Shelf → Int → Option (List Shelf)} {x i:Int} {b:Box} {o:List Shelf} {j:Nat} {s:Shelf} (hs:o[j]? = some s) (hl:s.fList.length ≤ 1000000)
    (h1:-1000000000 ≤ s.fW + b.fW ∧ s.fW + b.fW ≤ 1000000000) (h2:-1000000000 ≤ s.fGram + b.fGram ∧ s.fGram + b.fGram ≤ 1000000000):d_impl_Shelves_J2 fu k8 x i b o (j:Int) = k8 (o.set j (shAdd s i b)) (w64 (x + 1)):=by
 unfold d_impl_Shelves_J2 d_impl_Shelves_J1
 rw [ix_nat,hs,ob_some,ap1 (by simp; omega),ob_some]
 simp only [ob_some,setx_nat,List.set_set,mx_if]
 rw [w64_id (n:=s.fW + b.fW) (by omega) (by omega),w64_id (n:=s.fGram + b.fGram) (by omega) (by omega)]
 rfl
theorem i_shelves {fu:Nat} (hfu:2097153 ≤ fu) (p:Pallet) (l:List Box) (hl:l.length < 20):d_impl_Shelves fu p l = some (shM p l):=by
 unfold d_impl_Shelves shM
 rw [implBoxesOk_eq fu p l (by omega) (by omega),ob_some,bos_eq]
 cases hb:bosB p l
 · rfl
 · rw [Bool.not_true,cond_false,cond_true]
   have key:=lpI l (fun n (o:List Int) i=>d_impl_Shelves_L2 fu p l n o i) (fun xs o=>obind (d_impl_SortDown fu (o ++ xs.map (·.fD))) fun x=>d_impl_Shelves_L1 fu p l x fu [] 0) (fun xs o=>o.length + xs.length ≤ 1000) (by omega) ?_ ?_ fu [] (by simp; omega) (by omega)
   · rw [key,List.nil_append,i_down hfu (by simp; omega),ob_some,List.length_map]
     have hsl:=srt_len (dnk (l.map (·.fD))) l.length
     have hsm:=fun x=>srt_mem (k:=dnk (l.map (·.fD))) (n:=l.length) (x:=x)
     generalize srt (dnk (l.map (·.fD))) l.length = S at hsl hsm ⊢
     refine lpI S (fun n (o:List Shelf) i=>d_impl_Shelves_L1 fu p l S n o i) (fun xs o=>some (xs.foldl (shS p l) o)) (fun xs o=>(∀ i ∈ xs,0 ≤ i ∧ i < l.length) ∧ (∀ s ∈ o,ShI p l.length s) ∧ ((o.map (·.fList)).flatten).length + xs.length ≤ 1000 ∧ o.length + xs.length ≤ 1000) (by omega) ?_ ?_ fu [] ⟨fun i hi=>(hsm i).1 hi,by simp,by simp; omega,by simp; omega⟩ (by omega)
     · intro n o i x xs hx hd hI ih
       obtain ⟨i1,i2,i3,i4⟩:=hI
       simp only [List.length_cons] at i3 i4
       have hxi:=i1 x (by simp)
       obtain ⟨hbx,b1,b2,b3,b4⟩:=bok_at hb hxi
       obtain ⟨p1,p2,p3,p4⟩:=pal_bd (bos_pal hb)
       have hflat:((shS p l o x).map (·.fList)).flatten = (o.map (·.fList)).flatten ++ [x]:=nxG_flat (fun s=>rfl) rfl
       have hlen:(shS p l o x).length ≤ o.length + 1:=nxG_len _ _ _ _
       have ih':=ih (shS p l o x) ⟨fun j hj=>i1 j (by simp [hj]),shS_all hb hxi i2,by rw [hflat,List.length_append,List.length_singleton]; omega,by omega⟩
       simp only [d_impl_Shelves_L1.eq_2]
       unfold d_impl_Shelves_L1_B
       rw [hd,cond_true,hx,ob_some,hbx,ob_some,List.foldl_cons,← ih']
       have hnew:∀ o':List Shelf,o'.length ≤ 1000 → d_impl_Shelves_J2 fu (fun o i=>d_impl_Shelves_L1 fu p l S n o i) i x (bxA l x) (o' ++ [zSh]) ((o'.length:Nat):Int) = d_impl_Shelves_L1 fu p l S n (o' ++ [shAdd zSh x (bxA l x)]) (w64 (i + 1)):=fun o' ho'=>by
        rw [i_shJ2 (s:=zSh) (by simp) (by simp [zSh]) (by simp [zSh]; omega) (by simp [zSh]; omega)]
        simp
       by_cases he:o = []
       · subst he
         rw [bif_true (by decide),ap1 (by simp),ob_some]
         exact hnew [] (by simp)
       · obtain ⟨s,e1,e2⟩:=last_at he
         have hp:=List.length_pos_iff.2 he
         have hsm':=List.mem_of_getLast? e1
         have hs:=i2 s hsm'
         have hsl':=flat_le (fun s:Shelf=>s.fList) o s hsm'
         have eS:shS p l o x = bif shFit p (bxA l x) s then o.set (o.length - 1) (shAdd s x (bxA l x)) else o ++ [shAdd zSh x (bxA l x)]:=nxG_some e1
         have e3:w64 ((o.length:Int) - 1) = ((o.length - 1:Nat):Int):=by rw [w64_id (by omega) (by omega)]; omega
         have e4:w64 (((o.length - 1:Nat):Int) + 1) = ((o.length:Nat):Int):=by rw [w64_id (by omega) (by omega)]; omega
         have e5:o[o.length - 1]? = some s:=by rw [← List.getLast?_eq_getElem?]; exact e1
         obtain ⟨s1,s2,s3,s4,s5,s6⟩:=hs
         rw [e3,e4,bif_false (by simp),ix_nat,e5,ob_some,w64_id (n:=s.fW + _) (by omega) (by omega),w64_id (n:=s.fGram + _) (by omega) (by omega),ap1 (by simp; omega),ob_some,eS]
         unfold shFit
         have c1:decide (s.fW + (bxA l x).fW > p.fW) = !decide (s.fW + (bxA l x).fW ≤ p.fW):=by
          by_cases h:s.fW + (bxA l x).fW ≤ p.fW <;> simp [h] <;> omega
         have c2:decide (s.fGram + (bxA l x).fGram > p.fGram) = !decide (s.fGram + (bxA l x).fGram ≤ p.fGram):=by
          by_cases h:s.fGram + (bxA l x).fGram ≤ p.fGram <;> simp [h] <;> omega
         rw [c1,c2,ob_some]
         have h1:=hnew o (by omega)
         have h2:d_impl_Shelves_J2 fu (fun o i=>d_impl_Shelves_L1 fu p l S n o i) i x (bxA l x) o ((o.length - 1:Nat):Int) = d_impl_Shelves_L1 fu p l S n (o.set (o.length - 1) (shAdd s x (bxA l x))) (w64 (i + 1)):=i_shJ2 e5 (by omega) (by omega) (by omega)
         cases decide (s.fW + (bxA l x).fW ≤ p.fW)
         · exact h1
         · cases decide (s.fGram + (bxA l x).fGram ≤ p.fGram)
           · exact h1
           · exact h2
     · intro n o i hd _
       simp only [d_impl_Shelves_L1.eq_2]
       unfold d_impl_Shelves_L1_B
       rw [hd,cond_false]; rfl
   · intro n o i x xs hx hd hI ih
     simp only [List.length_cons] at hI
     simp only [d_impl_Shelves_L2.eq_2]
     unfold d_impl_Shelves_L2_B
     rw [hd,cond_true,hx,ob_some,ap1 (by simp; omega),ob_some,ih _ (by simp; omega)]
     simp
   · intro n o i hd _
     simp only [d_impl_Shelves_L2.eq_2]
     unfold d_impl_Shelves_L2_B
     rw [hd,cond_false]; simp
theorem i_lyJ2 {fu:Nat} {k7:List Layer → Int → Option (List Layer)} {i:Int} {b:Shelf} {o:List Layer} {j:Nat} {s:Layer} (hs:o[j]? = some s) (hl:s.fShelves.length ≤ 1000000)
    (h1:-1000000000 ≤ s.fD + b.fD ∧ s.fD + b.fD ≤ 1000000000) (h2:-1000000000 ≤ s.fGram + b.fGram ∧ s.fGram + b.fGram ≤ 1000000000):d_impl_LayersOf_J2 fu k7 i b o (j:Int) = k7 (o.set j (lyAdd s i b)) (w64 (i + 1)):=by
 unfold d_impl_LayersOf_J2 d_impl_LayersOf_J1
 rw [ix_nat,hs,ob_some,ap1 (by simp; omega),ob_some]
 simp only [ob_some,setx_nat,List.set_set,mx_if]
 rw [w64_id (n:=s.fD + b.fD) (by omega) (by omega),w64_id (n:=s.fGram + b.fGram) (by omega) (by omega)]
 rfl
theorem containsShelf_eq (fu:Nat) (l:List Shelf) (f:Shelf → Option Bool) (g:Shelf → Bool) (hg:∀ b,f b = some (g b)) (h:l.length ≤ 1048576) (hf:l.length < fu) :
    d_slices_ContainsFunc_impl_Shelf_impl_Shelf fu l f = some (l.any g):=by
 unfold d_slices_ContainsFunc_impl_Shelf_impl_Shelf d_slices_IndexFunc_impl_Shelf_impl_Shelf
 have key:∀ (m i n:Nat),l.length - i = m → i ≤ l.length → m < n → ∃ r,d_slices_IndexFunc_impl_Shelf_impl_Shelf_L1 fu l f n i = some r ∧ decide (r ≥ 0) = (l.drop i).any g:=by
  intro m
  induction m with
  | zero =>
   intro i n hm hi hn
   obtain ⟨n,rfl⟩:∃ k,n = k + 1:=⟨n - 1,by omega⟩
   rw [d_slices_IndexFunc_impl_Shelf_impl_Shelf_L1.eq_2]
   unfold d_slices_IndexFunc_impl_Shelf_impl_Shelf_L1_B
   rw [bif_false (by simp; omega),List.drop_eq_nil_of_le (by omega)]
   exact ⟨_,rfl,rfl⟩
  | succ m ih =>
   intro i n hm hi hn
   obtain ⟨n,rfl⟩:∃ k,n = k + 1:=⟨n - 1,by omega⟩
   have hlt:i < l.length:=by omega
   rw [d_slices_IndexFunc_impl_Shelf_impl_Shelf_L1.eq_2]
   unfold d_slices_IndexFunc_impl_Shelf_impl_Shelf_L1_B
   rw [bif_true (by simpa using hlt),ob_of (ix_at (List.getElem?_eq_getElem hlt)),hg,ob_some,List.drop_eq_getElem_cons hlt,List.any_cons]
   cases hgx:g l[i]
   · rw [bif_false rfl,w64_id (by omega) (by omega),Bool.false_or]
     have:=ih (i + 1) n (by omega) (by omega) (by omega)
     simpa using this
   · rw [bif_true rfl]
     exact ⟨_,rfl,by simp⟩
 obtain ⟨r,h1,h2⟩:=key l.length 0 fu (by omega) (by omega) hf
 have h1':d_slices_IndexFunc_impl_Shelf_impl_Shelf_L1 fu l f fu 0 = some r:=h1
 rw [h1',ob_some,h2]
 rfl
theorem i_sho {fu:Nat} (p:Pallet) (l:List Shelf) (hl:l.length ≤ 1048576) (hf:l.length < fu):d_impl_ShelvesOk fu p l = some (palB p && l.all fun s=>okL p s.fD s.fH s.fGram):=by
 unfold d_impl_ShelvesOk
 have e:∀ a b c:Int,inB a b c = inb a b c:=fun a b c=>Bool.eq_iff_iff.2 (by rw [inB_iff,inb_iff])
 have ep:palletB p = palB p:=by unfold palletB palB; simp only [e]
 rw [implPalletOk_eq,ob_some,ep,containsShelf_eq fu l _ (fun s=>!okL p s.fD s.fH s.fGram) (fun s=>by
  unfold d_impl_ShelvesOk_1 okL
  simp only [in_eq,ob_some,e]
  cases inb s.fD 1 p.fD <;> cases inb s.fH 1 p.fH <;> rfl) hl hf,ob_some]
 cases palB p
 · rfl
 · rw [cond_true,Bool.true_and]
   congr 1
   rw [Bool.eq_iff_iff]
   simp
theorem i_layers {fu:Nat} (hfu:2097153 ≤ fu) {p:Pallet} (hp:palB p = true) {l:List Shelf} (hb:OkS p l) (hl:l.length ≤ 1000):d_impl_LayersOf fu p l = some (lyM p l):=by
 unfold d_impl_LayersOf lyM
 rw [i_sho p l (by omega) (by omega),hp,okS_b hb,ob_some,Bool.and_self,Bool.not_true,cond_false]
 obtain ⟨p1,p2,p3,p4⟩:=pal_bd hp
 refine lpNI (l.length:Int) (fun n (o:List Layer) i=>d_impl_LayersOf_L1 fu p l n o i) (fun xs o=>some (xs.foldl (lyS p l) o)) (fun xs o=>(∀ s ∈ o,LyI p l.length s) ∧ ((o.map (·.fShelves)).flatten).length + xs.length ≤ 1000 ∧ o.length + xs.length ≤ 1000) (by omega) ?_ ?_ l.length fu [] 0 (by omega) (by omega) (by omega) ⟨by simp,by simp [ints_len]; omega,by simp [ints_len]; omega⟩
 · intro n o i xs x0 x1 hd hI ih
   obtain ⟨i2,i3,i4⟩:=hI
   simp only [List.length_cons] at i3 i4
   obtain ⟨hbx,b1,b2,b3,_⟩:=shA_at hb ⟨x0,x1⟩
   have hflat:((lyS p l o i).map (·.fShelves)).flatten = (o.map (·.fShelves)).flatten ++ [i]:=nxG_flat (fun s=>rfl) rfl
   have hlen:(lyS p l o i).length ≤ o.length + 1:=nxG_len _ _ _ _
   have ih':=ih (lyS p l o i) ⟨lyS_all hb ⟨x0,x1⟩ i2,by rw [hflat,List.length_append,List.length_singleton]; omega,by omega⟩
   simp only [d_impl_LayersOf_L1.eq_2]
   unfold d_impl_LayersOf_L1_B
   rw [hd,cond_true,hbx,ob_some,List.foldl_cons,← ih']
   have hnew:∀ o':List Layer,o'.length ≤ 1000 → d_impl_LayersOf_J2 fu (fun o i=>d_impl_LayersOf_L1 fu p l n o i) i (shA l i) (o' ++ [zLy]) ((o'.length:Nat):Int) = d_impl_LayersOf_L1 fu p l n (o' ++ [lyAdd zLy i (shA l i)]) (w64 (i + 1)):=fun o' ho'=>by
    rw [i_lyJ2 (s:=zLy) (by simp) (by simp [zLy]) (by simp [zLy]; omega) (by simp [zLy]; omega)]
    simp
   by_cases he:o = []
   · subst he
     rw [bif_true (by decide),ap1 (by simp),ob_some]
     exact hnew [] (by simp)
   · obtain ⟨s,e1,e2⟩:=last_at he
     have hp:=List.length_pos_iff.2 he
     have hsm':=List.mem_of_getLast? e1
     have hs:=i2 s hsm'
     have hsl':=flat_le (fun s:Layer=>s.fShelves) o s hsm'
     have eS:lyS p l o i = bif lyFit p (shA l i) s then o.set (o.length - 1) (lyAdd s i (shA l i)) else o ++ [lyAdd zLy i (shA l i)]:=nxG_some e1
     have e3:w64 ((o.length:Int) - 1) = ((o.length - 1:Nat):Int):=by rw [w64_id (by omega) (by omega)]; omega
     have e4:w64 (((o.length - 1:Nat):Int) + 1) = ((o.length:Nat):Int):=by rw [w64_id (by omega) (by omega)]; omega
     have e5:o[o.length - 1]? = some s:=by rw [← List.getLast?_eq_getElem?]; exact e1
     obtain ⟨s1,s2,s4,s5,s6⟩:=hs
     rw [e3,e4,bif_false (by simp),ix_nat,e5,ob_some,w64_id (n:=s.fD + _) (by omega) (by omega),w64_id (n:=s.fGram + _) (by omega) (by omega),ap1 (by simp; omega),ob_some,eS]
     unfold lyFit
     have c1:decide (s.fD + (shA l i).fD > p.fD) = !decide (s.fD + (shA l i).fD ≤ p.fD):=by
      by_cases h:s.fD + (shA l i).fD ≤ p.fD <;> simp [h] <;> omega
     have c2:decide (s.fGram + (shA l i).fGram > p.fGram) = !decide (s.fGram + (shA l i).fGram ≤ p.fGram):=by
      by_cases h:s.fGram + (shA l i).fGram ≤ p.fGram <;> simp [h] <;> omega
     rw [c1,c2,ob_some]
     have h1:=hnew o (by omega)
     have h2:d_impl_LayersOf_J2 fu (fun o i=>d_impl_LayersOf_L1 fu p l n o i) i (shA l i) o ((o.length - 1:Nat):Int) = d_impl_LayersOf_L1 fu p l n (o.set (o.length - 1) (lyAdd s i (shA l i))) (w64 (i + 1)):=i_lyJ2 e5 (by omega) (by omega) (by omega)
     cases decide (s.fD + (shA l i).fD ≤ p.fD)
     · exact h1
     · cases decide (s.fGram + (shA l i).fGram ≤ p.fGram)
       · exact h1
       · exact h2
 · intro n o i hd _
   simp only [d_impl_LayersOf_L1.eq_2]
   unfold d_impl_LayersOf_L1_B
   rw [hd,cond_false]; rfl
def zSp:Spot:=⟨0,0,0,0⟩
def ldA (l:List Load) (i:Int):Load:=(ix l i).getD zLd
def spB (l:List Box) (o y z:Int) (is:List Int) (s:List Spot × Int):List Spot × Int:=is.foldl (fun s b=>(setx s.1 b ⟨o,s.2,y,z⟩,s.2 + (bxA l b).fW)) s
def spS (l:List Box) (sh:List Shelf) (o z:Int) (js:List Int) (s:List Spot × Int):List Spot × Int:=js.foldl (fun s j=>((spB l o s.2 z (shA sh j).fList (s.1,0)).1,s.2 + (shA sh j).fD)) s
def spY (l:List Box) (sh:List Shelf) (ly:List Layer) (o:Int) (is:List Int) (s:List Spot × Int):List Spot × Int:=is.foldl (fun s i=>((spS l sh o s.2 (lyA ly i).fShelves (s.1,0)).1,s.2 + (lyA ly i).fH)) s
def spO (l:List Box) (sh:List Shelf) (ly:List Layer) (ld:List Load) (os:List Int) (out:List Spot):List Spot:=os.foldl (fun out o=>(spY l sh ly o (ldA ld o).fLayers (out,0)).1) out
def spM (p:Pallet) (l:List Box):List Spot:=bif bosB p l then spO l (shM p l) (lyM p (shM p l)) (ldM p (lyM p (shM p l))) (ints 0 (ldM p (lyM p (shM p l))).length) (List.replicate l.length zSp) else []
theorem setx_len' {α:Type} (l:List α) (i:Int) (y:α):(setx l i y).length = l.length:=by simp [setx]
theorem spB_len (l:List Box) (o y z:Int):∀ (is:List Int) (s:List Spot × Int),(spB l o y z is s).1.length = s.1.length
 | [],_=>rfl
 | i :: is,s=>by
  have:=spB_len l o y z is (setx s.1 i ⟨o,s.2,y,z⟩,s.2 + (bxA l i).fW)
  rw [setx_len'] at this
  exact this
theorem spS_len (l:List Box) (sh:List Shelf) (o z:Int):∀ (is:List Int) (s:List Spot × Int),(spS l sh o z is s).1.length = s.1.length
 | [],_=>rfl
 | i :: is,s=>by
  have:=spS_len l sh o z is ((spB l o s.2 z (shA sh i).fList (s.1,0)).1,s.2 + (shA sh i).fD)
  rw [spB_len] at this
  exact this
theorem spY_len (l:List Box) (sh:List Shelf) (ly:List Layer) (o:Int):∀ (is:List Int) (s:List Spot × Int),(spY l sh ly o is s).1.length = s.1.length
 | [],_=>rfl
 | i :: is,s=>by
  have:=spY_len l sh ly o is ((spS l sh o s.2 (lyA ly i).fShelves (s.1,0)).1,s.2 + (lyA ly i).fH)
  rw [spS_len] at this
  exact this
theorem spO_len (l:List Box) (sh:List Shelf) (ly:List Layer) (ld:List Load):∀ (os:List Int) (out:List Spot),(spO l sh ly ld os out).length = out.length
 | [],_=>rfl
 | o :: os,out=>by
  have:=spO_len l sh ly ld os (spY l sh ly o (ldA ld o).fLayers (out,0)).1
  rw [spY_len] at this
  exact this
theorem spM_len {p:Pallet} {l:List Box} (h:bosB p l = true):(spM p l).length = l.length:=by
 unfold spM
 rw [h,cond_true,spO_len,List.length_replicate]
theorem okS_sh {p:Pallet} {l:List Box} (h:bosB p l = true):OkS p (shM p l):=fun s hs=>by
 have:=(shM_all h).1 s hs
 exact ⟨this.d,this.h,this.g⟩
theorem okY_ly {p:Pallet} {l:List Shelf} (h:OkS p l):OkY p (lyM p l):=fun s hs=>by
 have:=(lyM_all h).1 s hs
 exact ⟨this.d,this.h,this.g⟩
theorem s_spots {fu:Nat} (hfu:2097153 ≤ fu) (p:Pallet) (l:List Box) (hl:l.length ≤ 1000):d_spec_SpotsOf fu p l = some (spM p l):=by
 unfold d_spec_SpotsOf spM
 rw [mk_some (by omega),ob_some,s_bos p l (by omega) (by omega),ob_some]
 cases hb:bosB p l
 · rfl
 · obtain ⟨a1,a2,a3⟩:=shM_all hb
   have hS:=okS_sh hb
   obtain ⟨y1,y2,y3⟩:=lyM_all hS
   have hY:=okY_ly hS
   obtain ⟨d1,d2,d3⟩:=ldM_all hY
   have hpb:=bos_pal hb
   obtain ⟨q1,q2,q3,q4⟩:=pal_bd hpb
   rw [Bool.not_true,cond_false,cond_true,s_shelves hfu p l hl,ob_some,s_layers hfu hpb hS (by omega),ob_some,s_loads hfu hpb hY (by omega),ob_some]
   have f1:∀ s ∈ shM p l,s.fList.length ≤ 1000:=fun s hs=>by
    have:=flat_le (fun s:Shelf=>s.fList) _ s hs
    rw [a2,srt_len] at this; omega
   have f2:∀ s ∈ lyM p (shM p l),s.fShelves.length ≤ 1000:=fun s hs=>by
    have:=flat_le (fun s:Layer=>s.fShelves) _ s hs
    rw [y2,ints_len] at this; omega
   have f3:∀ s ∈ ldM p (lyM p (shM p l)),s.fLayers.length ≤ 1000:=fun s hs=>by
    have:=flat_le (fun s:Load=>s.fLayers) _ s hs
    rw [d2,ints_len] at this; omega
   generalize ldM p (lyM p (shM p l)) = ld at d1 d3 f3 ⊢
   generalize lyM p (shM p l) = ly at y1 y3 hY d1 d3 f2 ⊢
   generalize shM p l = sh at a1 a3 hS y1 y3 f1 ⊢
   have L4:=lpNI (ld.length:Int) (fun n (out:List Spot) o=>d_spec_SpotsOf_L4 fu l sh ly ld n out o) (fun os out=>some (spO l sh ly ld os out)) (fun os out=>out.length = l.length) (by omega) ?_ ?_ ld.length fu (List.replicate l.length zSp) 0 (by omega) (by omega) (by omega) (by simp)
   · exact L4
   · intro n out o os o0 o1 hd hI ih
     obtain ⟨x,hx⟩:=ix_in (l:=ld) o0 o1
     have ex:ldA ld o = x:=by unfold ldA; rw [hx]; rfl
     have hxm:=d1 x (ix_mem hx)
     have hxl:=f3 x (ix_mem hx)
     simp only [d_spec_SpotsOf_L4.eq_2]
     unfold d_spec_SpotsOf_L4_B
     rw [hd,cond_true]
     have L3:=lpI x.fLayers (fun m (s:List Spot × Int) i=>d_spec_SpotsOf_L3 fu (d_spec_SpotsOf_L4 fu l sh ly ld n) l sh ly ld o m s.1 s.2 i) (fun is s=>d_spec_SpotsOf_L4 fu l sh ly ld n (spY l sh ly o is s).1 (w64 (o + 1))) (fun is s=>s.1.length = l.length ∧ (∀ i ∈ is,0 ≤ i ∧ i < ly.length) ∧ 0 ≤ s.2 ∧ s.2 + 2000 * is.length ≤ 2000000) (by omega) ?_ ?_ fu (out,0) ⟨hI,hxm.inn,by simp,by simp; omega⟩ (by omega)
     · refine L3.trans ?_
       rw [ih _ (by rw [spY_len]; exact hI)]
       simp only [spO,List.foldl_cons,ex]
     · intro m ⟨out,z⟩ i j is hj hd hI ih
       obtain ⟨i1,i2,i3,i4⟩:out.length = l.length ∧ (∀ i ∈ j :: is,0 ≤ i ∧ i < ly.length) ∧ 0 ≤ z ∧ z + 2000 * ((j :: is).length:Int) ≤ 2000000:=hI
       simp only [List.length_cons] at i4
       obtain ⟨hly,t1,t2,t3,hmem⟩:=lyA_at hY (i2 j (by simp))
       have hyi:=y1 _ hmem
       have hyl:=f2 _ hmem
       simp only [d_spec_SpotsOf_L3.eq_2]
       unfold d_spec_SpotsOf_L3_B
       rw [hx,ob_some,hd,cond_true,ob_some,hj,ob_some,hly,ob_some]
       have L2:=lpI (lyA ly j).fShelves (fun q (s:List Spot × Int) k=>d_spec_SpotsOf_L2 fu (d_spec_SpotsOf_L3 fu (d_spec_SpotsOf_L4 fu l sh ly ld n) l sh ly ld o m) l sh o z i (lyA ly j) q s.1 s.2 k) (fun ks s=>d_spec_SpotsOf_L3 fu (d_spec_SpotsOf_L4 fu l sh ly ld n) l sh ly ld o m (spS l sh o z ks s).1 (w64 (z + (lyA ly j).fH)) (w64 (i + 1))) (fun ks s=>s.1.length = l.length ∧ (∀ i ∈ ks,0 ≤ i ∧ i < sh.length) ∧ 0 ≤ s.2 ∧ s.2 + 2000 * ks.length ≤ 2000000) (by omega) ?_ ?_ fu (out,0) ⟨i1,hyi.inn,by simp,by simp; omega⟩ (by omega)
       · refine L2.trans ?_
         rw [w64_id (n:=z + _) (by omega) (by omega)]
         exact ih ((spS l sh o z (lyA ly j).fShelves (out,0)).1,z + (lyA ly j).fH) ⟨by rw [spS_len]; exact i1,fun i hi=>i2 i (by simp [hi]),by simp; omega,by simp; omega⟩
       · intro q ⟨out,y⟩ k b ks hb2 hd hI ih
         obtain ⟨i1,i2,i3,i4⟩:out.length = l.length ∧ (∀ i ∈ b :: ks,0 ≤ i ∧ i < sh.length) ∧ 0 ≤ y ∧ y + 2000 * ((b :: ks).length:Int) ≤ 2000000:=hI
         simp only [List.length_cons] at i4
         obtain ⟨hsh,u1,u2,u3,hmem2⟩:=shA_at hS (i2 b (by simp))
         have hsi:=a1 _ hmem2
         have hsl:=f1 _ hmem2
         simp only [d_spec_SpotsOf_L2.eq_2]
         unfold d_spec_SpotsOf_L2_B
         rw [hd,cond_true,hb2,ob_some,hsh,ob_some]
         have L1:=lpI (shA sh b).fList (fun q' (s:List Spot × Int) k'=>d_spec_SpotsOf_L1 fu (d_spec_SpotsOf_L2 fu (d_spec_SpotsOf_L3 fu (d_spec_SpotsOf_L4 fu l sh ly ld n) l sh ly ld o m) l sh o z i (lyA ly j) q) l o z y k (shA sh b) q' s.1 s.2 k') (fun bs s=>d_spec_SpotsOf_L2 fu (d_spec_SpotsOf_L3 fu (d_spec_SpotsOf_L4 fu l sh ly ld n) l sh ly ld o m) l sh o z i (lyA ly j) q (spB l o y z bs s).1 (w64 (y + (shA sh b).fD)) (w64 (k + 1))) (fun bs s=>s.1.length = l.length ∧ (∀ i ∈ bs,0 ≤ i ∧ i < l.length) ∧ 0 ≤ s.2 ∧ s.2 + 2000 * bs.length ≤ 2000000) (by omega) ?_ ?_ fu (out,0) ⟨i1,hsi.inn,by simp,by simp; omega⟩ (by omega)
         · refine L1.trans ?_
           rw [w64_id (n:=y + _) (by omega) (by omega)]
           exact ih ((spB l o y z (shA sh b).fList (out,0)).1,y + (shA sh b).fD) ⟨by rw [spB_len]; exact i1,fun i hi=>i2 i (by simp [hi]),by simp; omega,by simp; omega⟩
         · intro q' ⟨out,x'⟩ k' c bs hc hd hI ih
           obtain ⟨i1,i2,i3,i4⟩:out.length = l.length ∧ (∀ i ∈ c :: bs,0 ≤ i ∧ i < l.length) ∧ 0 ≤ x' ∧ x' + 2000 * ((c :: bs).length:Int) ≤ 2000000:=hI
           simp only [List.length_cons] at i4
           have hcr:=i2 c (by simp)
           obtain ⟨hbx,v1,v2,v3,v4⟩:=bok_at hb hcr
           obtain ⟨sp,hsp⟩:=ix_in (l:=out) hcr.1 (by omega)
           simp only [d_spec_SpotsOf_L1.eq_2]
           unfold d_spec_SpotsOf_L1_B
           rw [hd,cond_true,hc,ob_some,hsp,ob_some,ob_some,hbx,ob_some,w64_id (n:=x' + _) (by omega) (by omega)]
           exact ih (setx out c ⟨o,x',y,z⟩,x' + (bxA l c).fW) ⟨by rw [setx_len']; exact i1,fun i hi=>i2 i (by simp [hi]),by simp; omega,by simp; omega⟩
         · intro q' ⟨out,x'⟩ k' hd _
           simp only [d_spec_SpotsOf_L1.eq_2]
           unfold d_spec_SpotsOf_L1_B
           rw [hd,cond_false]; rfl
       · intro q ⟨out,y⟩ k hd _
         simp only [d_spec_SpotsOf_L2.eq_2]
         unfold d_spec_SpotsOf_L2_B
         rw [hd,cond_false]; rfl
     · intro m ⟨out,z⟩ i hd _
       simp only [d_spec_SpotsOf_L3.eq_2]
       unfold d_spec_SpotsOf_L3_B
       rw [hx,ob_some,hd,cond_false]; rfl
   · intro n out o hd _
     simp only [d_spec_SpotsOf_L4.eq_2]
     unfold d_spec_SpotsOf_L4_B
     rw [hd,cond_false]; rfl
def PalI (n:Int) (out:List Spot):Prop:=∀ s ∈ out,0 ≤ s.fPallet ∧ s.fPallet ≤ n
theorem setx_pal {n:Int} {out:List Spot} {i:Int} {s:Spot} (h:PalI n out) (hs:0 ≤ s.fPallet ∧ s.fPallet ≤ n):PalI n (setx out i s):=by
 intro t ht
 unfold setx at ht
 rcases List.mem_or_eq_of_mem_set ht with ht | rfl
 · exact h t ht
 · exact hs
theorem spB_pal {n:Int} (l:List Box) (o y z:Int) (ho:0 ≤ o ∧ o ≤ n):∀ (is:List Int) (s:List Spot × Int),PalI n s.1 → PalI n (spB l o y z is s).1
 | [],_,h=>h
 | i :: is,s,h=>spB_pal l o y z ho is (setx s.1 i ⟨o,s.2,y,z⟩,s.2 + (bxA l i).fW) (setx_pal h ho)
theorem spS_pal {n:Int} (l:List Box) (sh:List Shelf) (o z:Int) (ho:0 ≤ o ∧ o ≤ n):∀ (is:List Int) (s:List Spot × Int),PalI n s.1 → PalI n (spS l sh o z is s).1
 | [],_,h=>h
 | i :: is,s,h=>spS_pal l sh o z ho is ((spB l o s.2 z (shA sh i).fList (s.1,0)).1,s.2 + (shA sh i).fD) (spB_pal l o s.2 z ho _ (s.1,0) h)
theorem spY_pal {n:Int} (l:List Box) (sh:List Shelf) (ly:List Layer) (o:Int) (ho:0 ≤ o ∧ o ≤ n):∀ (is:List Int) (s:List Spot × Int),PalI n s.1 → PalI n (spY l sh ly o is s).1
 | [],_,h=>h
 | i :: is,s,h=>spY_pal l sh ly o ho is ((spS l sh o s.2 (lyA ly i).fShelves (s.1,0)).1,s.2 + (lyA ly i).fH) (spS_pal l sh o s.2 ho _ (s.1,0) h)
theorem spO_pal {n:Int} (l:List Box) (sh:List Shelf) (ly:List Layer) (ld:List Load):∀ (os:List Int) (out:List Spot),(∀ o ∈ os,0 ≤ o ∧ o ≤ n) → PalI n out → PalI n (spO l sh ly ld os out)
 | [],_,_,h=>h
 | o :: os,out,ho,h=>spO_pal l sh ly ld os (spY l sh ly o (ldA ld o).fLayers (out,0)).1 (fun q hq=>ho q (by simp [hq])) (spY_pal l sh ly o (ho o (by simp)) _ (out,0) h)
theorem sp_pal {p:Pallet} {l:List Box} (hl:l.length ≤ 1000):∀ s ∈ spM p l,0 ≤ s.fPallet ∧ s.fPallet ≤ 1000:=by
 unfold spM
 cases hb:bosB p l
 · simp
 · have a3:=(shM_all hb).2.2
   have hS:=okS_sh hb
   have y3:=(lyM_all hS).2.2
   have d3:=(ldM_all (okY_ly hS)).2.2
   rw [cond_true]
   refine spO_pal l _ _ _ _ _ (fun o ho=>?_) fun s hs=>?_
   · have:=ints_mem.1 ho; omega
   · rw [(List.mem_replicate.1 hs).2]; simp [zSp]
def hasG (r:Request) (k:Int):Bool:=inb k 0 (((grpM r).length:Int) - 1)
theorem cls_of_grp {r:Request} {k:Int} (h:hasG r k = true):clsM r = 0:=by
 unfold hasG at h
 rw [inb_iff] at h
 by_cases hc:clsM r = 0
 · exact hc
 · have:grpM r = []:=by
     unfold grpM prsM
     rw [show (clsM r == 0) = false by simp [hc]]
     rfl
   rw [this] at h
   simp at h
   omega
theorem ofG_step (r:Request) (g:List Int) (u i:Int) (us:List Int) {x:Item} (hx:ix r.fItems i = some x):ofG r g u (i :: us) = bif g.contains x.fClass then u :: ofG r g (u + 1) us else ofG r g (u + 1) us:=by
 rw [ofG,hx]
theorem s_uof {fu:Nat} {r:Request} (h:Sm fu r) (k:Int):d_spec_UnitsOf fu r k = some (uofM r k):=by
 have hfu:=h.fu
 unfold d_spec_UnitsOf uofM
 rw [s_grp h,ob_some,w64_grp,s_in,ob_some]
 cases hg:inb k 0 (((grpM r).length:Int) - 1)
 · rw [Bool.not_false,cond_true]
   have:ix (grpM r) k = none:=by
    have hk:¬ (0 ≤ k ∧ k ≤ ((grpM r).length:Int) - 1):=by intro hk; rw [(inb_iff).2 hk] at hg; cases hg
    unfold ix
    by_cases h0:0 ≤ k
    · rw [if_pos h0,List.getElem?_eq_none (by omega)]
    · rw [if_neg h0]
   rw [this]
 · have hc:=cls_of_grp hg
   rw [inb_iff] at hg
   obtain ⟨j,rfl⟩:∃ j:Nat,k = j:=⟨k.toNat,by omega⟩
   have hj:j < (grpM r).length:=by omega
   have hgl:=(grpM_ok r).2 _ (List.getElem_mem hj)
   rw [Bool.not_true,cond_false,s_l6 h (clsM_zero hc).1,ob_some,ix_i hj]
   have e:untM r = l6M r:=by unfold untM; rw [show (clsM r == 0) = true by simp [hc],cond_true]
   simp only [e]
   have hlen:(l6M r).length ≤ 12:=l6M_len (clsM_zero hc).1
   have:=lpPI (l6M r) (fun n out i=>d_spec_UnitsOf_L1 fu r (j:Int) (grpM r) (l6M r) n out i) (fun pre xs out=>some (out ++ ofG r (grpM r)[j] (pre.length:Int) xs)) (fun pre xs out=>out.length + xs.length ≤ 12) (by omega) ?_ ?_ fu [] (by simpa using hlen) (by omega)
   · simpa using this
   · intro n out pre i xs hl hx hd hI ih
     simp only [List.length_cons] at hI
     have hi:i ∈ untM r:=by rw [e,hl]; simp
     have hi2:=untM_mem hi
     obtain ⟨q,rfl⟩:∃ q:Nat,i = q:=⟨i.toNat,by omega⟩
     have hq:q < r.fItems.length:=by omega
     simp only [d_spec_UnitsOf_L1.eq_2]
     unfold d_spec_UnitsOf_L1_B d_spec_UnitsOf_J1
     simp only [hd,cond_true,hx,ob_some,ix_i hj,ix_i hq,s_has (show (grpM r)[j].length ≤ 1048576 by omega) (show (grpM r)[j].length < fu by omega)]
     rw [ofG_step r _ _ _ _ (ix_i hq)]
     cases (grpM r)[j].contains r.fItems[q].fClass
     · rw [cond_false,cond_false,ih _ (by omega)]
       simp
     · rw [cond_true,cond_true,ap1 (by simp; omega),ob_some,ih _ (by simp; omega)]
       simp
   · intro n out hd hI
     simp only [d_spec_UnitsOf_L1.eq_2]
     unfold d_spec_UnitsOf_L1_B
     simp only [hd,cond_false]
     simp [ofG]
theorem i_uof {fu:Nat} {r:Request} (h:Sm fu r) (k:Int):d_impl_UnitsOf fu r k = some (uofM r k):=by
 have hfu:=h.fu
 unfold d_impl_UnitsOf uofM
 rw [i_grp h,ob_some,w64_grp,i_in,ob_some]
 cases hg:inb k 0 (((grpM r).length:Int) - 1)
 · rw [Bool.not_false,cond_true]
   have:ix (grpM r) k = none:=by
    have hk:¬ (0 ≤ k ∧ k ≤ ((grpM r).length:Int) - 1):=by intro hk; rw [(inb_iff).2 hk] at hg; cases hg
    unfold ix
    by_cases h0:0 ≤ k
    · rw [if_pos h0,List.getElem?_eq_none (by omega)]
    · rw [if_neg h0]
   rw [this]
 · have hc:=cls_of_grp hg
   rw [inb_iff] at hg
   obtain ⟨j,rfl⟩:∃ j:Nat,k = j:=⟨k.toNat,by omega⟩
   have hj:j < (grpM r).length:=by omega
   have hgl:=(grpM_ok r).2 _ (List.getElem_mem hj)
   rw [Bool.not_true,cond_false,i_unt h,ob_some,ix_i hj]
   have hlen:=untM_len r
   have:=lpPI (untM r) (fun n out i=>d_impl_UnitsOf_L1 fu r (j:Int) (grpM r) (untM r) n out i) (fun pre xs out=>some (out ++ ofG r (grpM r)[j] (pre.length:Int) xs)) (fun pre xs out=>out.length + xs.length ≤ 12) (by omega) ?_ ?_ fu [] (by simpa using hlen) (by omega)
   · simpa using this
   · intro n out pre i xs hl hx hd hI ih
     simp only [List.length_cons] at hI
     have hi:i ∈ untM r:=by rw [hl]; simp
     have hi2:=untM_mem hi
     obtain ⟨q,rfl⟩:∃ q:Nat,i = q:=⟨i.toNat,by omega⟩
     have hq:q < r.fItems.length:=by omega
     simp only [d_impl_UnitsOf_L1.eq_2]
     unfold d_impl_UnitsOf_L1_B d_impl_UnitsOf_J1
     simp only [hd,cond_true,hx,ob_some,ix_i hj,ix_i hq,i_has (show (grpM r)[j].length ≤ 1048576 by omega) (show (grpM r)[j].length < fu by omega)]
     rw [ofG_step r _ _ _ _ (ix_i hq)]
     cases (grpM r)[j].contains r.fItems[q].fClass
     · rw [cond_false,cond_false,ih _ (by omega)]
       simp
     · rw [cond_true,cond_true,ap1 (by simp; omega),ob_some,ih _ (by simp; omega)]
       simp
   · intro n out hd hI
     simp only [d_impl_UnitsOf_L1.eq_2]
     unfold d_impl_UnitsOf_L1_B
     simp only [hd,cond_false]
     simp [ofG]
def srtI (l:List Int):List Int:=l.mergeSort fun x y=>decide (x ≤ y)
theorem srtI_perm (l:List Int):(srtI l).Perm l:=List.mergeSort_perm l _
theorem srtI_len (l:List Int):(srtI l).length = l.length:=(srtI_perm l).length_eq
def crtM (r:Request) (k:Int) (l:List Int):Carton:=⟨(chpM r l).1.fId,k,srtI l⟩
def crtK (r:Request) (k:Int):List Carton:=(pwM r (uofM r k)).map (crtM r k)
def crtF (r:Request):List Int → List Carton
 | []=>[]
 | k :: ks=>crtK r k ++ crtF r ks
def crtL (r:Request):List Carton:=crtF r (ints 0 (grpM r).length)
theorem ints_getC (l:List Int):(ints 0 l.length).map (fun p=>(ix l p).getD 0) = l:=by
 have key:∀ (xs pre:List Int),l = pre ++ xs → (ints pre.length xs.length).map (fun p=>(ix l p).getD 0) = xs:=by
  intro xs
  induction xs with
  | nil=>intro pre _; rfl
  | cons x xs ih =>
   intro pre he
   have h1:=ih (pre ++ [x]) (by simp [he])
   simp only [List.length_append,List.length_singleton] at h1
   simp only [List.length_cons,ints,List.map_cons]
   rw [show ((pre.length:Int) + 1) = ((pre.length + 1:Nat):Int) by omega,h1]
   congr 1
   rw [ix_nat,he]
   simp
 exact key l [] rfl
theorem srt_get (l:List Int):(srt (kf l) l.length).map (fun p=>(ix l p).getD 0) = srtI l:=by
 refine le_uniq ?_ ?_ (mergeSort_le l)
 · refine ((srt_perm _ _).map _).trans ?_
   rw [ints_getC]
   exact (srtI_perm l).symm
 · refine List.pairwise_map.2 ((srt_sorted (kf l) l.length).imp fun {p q} h=>?_)
   unfold lx kf at h
   omega
theorem crtK_len {r:Request} (k:Int):(crtK r k).length ≤ 12:=by
 have:=(pwM_ok (r:=r) (uofM_len r k)).1
 simp [crtK]; omega
theorem i_crt {fu:Nat} {r:Request} (h:Sm fu r):d_impl_CartonsOf fu r = some (crtL r):=by
 have hfu:=h.fu
 have hg:=(grpM_ok r).1
 unfold d_impl_CartonsOf crtL
 rw [i_grp h,ob_some]
 have:=lpNI ((grpM r).length:Int) (fun n out i=>d_impl_CartonsOf_L2 fu r (grpM r) n out i) (fun xs out=>some (out ++ crtF r xs)) (fun xs out=>out.length + 12 * xs.length ≤ 48) (by omega) ?_ ?_ (grpM r).length fu [] 0 (by omega) (by omega) (by omega) (by simp [ints_len]; omega)
 · simpa using this
 · intro n out k ks h0 h1 hd hI ih
   simp only [List.length_cons] at hI
   have hul:=uofM_len r k
   have hpo:=pwM_ok (r:=r) hul
   simp only [d_impl_CartonsOf_L2.eq_2]
   unfold d_impl_CartonsOf_L2_B
   rw [hd,cond_true,i_uof h,ob_some,i_way h _ (by omega),ob_some]
   have key:=lpI (pwM r (uofM r k)) (fun m o i=>d_impl_CartonsOf_L1 fu (d_impl_CartonsOf_L2 fu r (grpM r) n) r k (pwM r (uofM r k)) m o i) (fun xs o=>d_impl_CartonsOf_L2 fu r (grpM r) n (o ++ xs.map (crtM r k)) (w64 (k + 1))) (fun xs o=>o.length + xs.length ≤ 48 ∧ ∀ l ∈ xs,l.length ≤ 12) (by have:=hpo.1; omega) ?_ ?_ fu out ⟨by have:=hpo.1; omega,hpo.2⟩ (by have:=hpo.1; omega)
   · rw [key,ih _ (by have:=hpo.1; simp; omega)]
     simp [crtF,crtK]
   · intro m o i l xs hx hd hI ih
     obtain ⟨h2,h3⟩:=hI
     simp only [List.length_cons] at h2
     have hl:=h3 l (by simp)
     simp only [d_impl_CartonsOf_L1.eq_2]
     unfold d_impl_CartonsOf_L1_B
     rw [hd,cond_true,hx,ob_some,i_cheap h l (by omega),ob_some,show d_slices_Sort_int_int fu l = some (srtI l) from sortI_some (by omega),ob_some,ap1 (by simp; omega),ob_some,ih _ ⟨by simp; omega,fun y hy=>h3 y (by simp [hy])⟩]
     simp [crtM]
   · intro m o i hd _
     simp only [d_impl_CartonsOf_L1.eq_2]
     unfold d_impl_CartonsOf_L1_B
     rw [hd,cond_false]; simp
 · intro n out k hd _
   simp only [d_impl_CartonsOf_L2.eq_2]
   unfold d_impl_CartonsOf_L2_B
   rw [hd,cond_false]; simp [crtF]
theorem s_crt {fu:Nat} {r:Request} (h:Sm fu r):d_spec_CartonsOf fu r = some (crtL r):=by
 have hfu:=h.fu
 have hg:=(grpM_ok r).1
 unfold d_spec_CartonsOf crtL
 rw [s_grp h,ob_some]
 have:=lpNI ((grpM r).length:Int) (fun n out i=>d_spec_CartonsOf_L3 fu r (grpM r) n out i) (fun xs out=>some (out ++ crtF r xs)) (fun xs out=>out.length + 12 * xs.length ≤ 48) (by omega) ?_ ?_ (grpM r).length fu [] 0 (by omega) (by omega) (by omega) (by simp [ints_len]; omega)
 · simpa using this
 · intro n out k ks h0 h1 hd hI ih
   simp only [List.length_cons] at hI
   have hul:=uofM_len r k
   have hpo:=pwM_ok (r:=r) hul
   simp only [d_spec_CartonsOf_L3.eq_2]
   unfold d_spec_CartonsOf_L3_B
   rw [hd,cond_true,s_uof h,ob_some,s_way h _ (by omega),ob_some]
   have key:=lpI (pwM r (uofM r k)) (fun m o i=>d_spec_CartonsOf_L2 fu (d_spec_CartonsOf_L3 fu r (grpM r) n) r k (pwM r (uofM r k)) m o i) (fun xs o=>d_spec_CartonsOf_L3 fu r (grpM r) n (o ++ xs.map (crtM r k)) (w64 (k + 1))) (fun xs o=>o.length + xs.length ≤ 48 ∧ ∀ l ∈ xs,l.length ≤ 12) (by have:=hpo.1; omega) ?_ ?_ fu out ⟨by have:=hpo.1; omega,hpo.2⟩ (by have:=hpo.1; omega)
   · rw [key,ih _ (by have:=hpo.1; simp; omega)]
     simp [crtF,crtK]
   · intro m o i l xs hx hd hI ih
     obtain ⟨h2,h3⟩:=hI
     simp only [List.length_cons] at h2
     have hl:=h3 l (by simp)
     simp only [d_spec_CartonsOf_L2.eq_2]
     unfold d_spec_CartonsOf_L2_B d_spec_CartonsOf_J3
     rw [hd,cond_true,hx,ob_some,s_cheap h l (by omega),ob_some,ob_some,s_up hfu (by omega),ob_some]
     have hsl:=srt_len (kf l) l.length
     have hsm:=fun x=>srt_mem (k:=kf l) (n:=l.length) (x:=x)
     have hsg:=srt_get l
     generalize srt (kf l) l.length = S at hsl hsm hsg ⊢
     have k1:=lpI S (fun m' us j=>d_spec_CartonsOf_L1 fu (d_spec_CartonsOf_L2 fu (d_spec_CartonsOf_L3 fu r (grpM r) n) r k (pwM r (uofM r k)) m) k (pwM r (uofM r k)) o i (chpM r l).1 S m' us j)
      (fun xs us=>obind (apnd 40 o [(⟨(chpM r l).1.fId,k,us ++ xs.map fun p=>(ix l p).getD 0⟩:Carton)]) fun x=>d_spec_CartonsOf_J2 fu (d_spec_CartonsOf_L2 fu (d_spec_CartonsOf_L3 fu r (grpM r) n) r k (pwM r (uofM r k)) m) i x) (fun xs us=>us.length + xs.length ≤ 12 ∧ ∀ p ∈ xs,0 ≤ p ∧ p < l.length) (by omega) ?_ ?_ fu [] ⟨by simp; omega,fun p hp=>(hsm p).1 hp⟩ (by omega)
     · rw [k1,List.nil_append,hsg,ap1 (by simp; omega),ob_some]
       unfold d_spec_CartonsOf_J2
       rw [ih _ ⟨by simp; omega,fun y hy=>h3 y (by simp [hy])⟩]
       simp [crtM]
     · intro m' us j p ps hp hd hI ih
       obtain ⟨h4,h5⟩:=hI
       simp only [List.length_cons] at h4
       simp only [d_spec_CartonsOf_L1.eq_2]
       unfold d_spec_CartonsOf_L1_B
       rw [hd,cond_true,hx,ob_some,hp,ob_some,ord_ix (h5 p (by simp)),ob_some,ap1 (by simp; omega),ob_some,ih _ ⟨by simp; omega,fun y hy=>h5 y (by simp [hy])⟩]
       simp
     · intro m' us j hd _
       simp only [d_spec_CartonsOf_L1.eq_2]
       unfold d_spec_CartonsOf_L1_B
       rw [hd,cond_false]; simp
   · intro m o i hd _
     simp only [d_spec_CartonsOf_L2.eq_2]
     unfold d_spec_CartonsOf_L2_B d_spec_CartonsOf_J1
     rw [hd,cond_false]; simp
 · intro n out k hd _
   simp only [d_spec_CartonsOf_L3.eq_2]
   unfold d_spec_CartonsOf_L3_B
   rw [hd,cond_false]; simp [crtF]
theorem crtF_len (r:Request):∀ (ks:List Int),(crtF r ks).length ≤ 12 * ks.length
 | []=>by simp [crtF]
 | k :: ks=>by
  have:=crtF_len r ks
  have:=crtK_len (r:=r) k
  simp [crtF]; omega
theorem crtL_len (r:Request):(crtL r).length ≤ 48:=by
 have:=crtF_len r (ints 0 (grpM r).length)
 have hg:=(grpM_ok r).1
 rw [ints_len] at this
 unfold crtL
 omega
theorem crtF_mem {r:Request} {c:Carton}:∀ {ks:List Int},c ∈ crtF r ks ↔ ∃ k ∈ ks,∃ l ∈ pwM r (uofM r k),c = crtM r k l
 | []=>by simp [crtF]
 | k :: ks=>by
  simp only [crtF,List.mem_append,crtF_mem (ks:=ks),List.mem_cons,crtK,List.mem_map]
  constructor
  · rintro (⟨l,hl,rfl⟩ | ⟨k',hk,l,hl,e⟩)
    · exact ⟨k,.inl rfl,l,hl,rfl⟩
    · exact ⟨k',.inr hk,l,hl,e⟩
  · rintro ⟨k',rfl | hk,l,hl,rfl⟩
    · exact .inl ⟨l,hl,rfl⟩
    · exact .inr ⟨k',hk,l,hl,rfl⟩
theorem crt_units {r:Request} {c:Carton} (h:c ∈ crtL r):c.fUnits.length ≤ 12:=by
 obtain ⟨k,_,l,hl,rfl⟩:=crtF_mem.1 h
 have:=(pwM_ok (r:=r) (uofM_len r k)).2 l hl
 simp only [crtM,srtI_len]
 omega
def prdI:List Int → Int
 | []=>1
 | x :: xs=>x * prdI xs
theorem prd_perm {a b:List Int} (h:a.Perm b):prdI a = prdI b:=by
 induction h with
 | nil=>rfl
 | cons x _ ih=>simp only [prdI,ih]
 | swap x y l=>simp only [prdI,← Int.mul_assoc]; rw [Int.mul_comm x y]
 | trans _ _ h1 h2=>rw [h1,h2]
theorem sid_prd (a b c:Int):(sid a b c).1 * ((sid a b c).2.1 * (sid a b c).2.2) = a * b * c:=by
 have h:=sortI3 a b c
 unfold sortI at h
 simp only [List.length_cons,List.length_nil] at h
 rw [if_pos (by omega)] at h
 have hp:=List.mergeSort_perm [a,b,c] fun x y=>decide (x ≤ y)
 rw [Option.some.inj h] at hp
 have:=prd_perm hp
 simp only [prdI,Int.mul_one] at this
 rw [this,Int.mul_assoc]
theorem sid_ge {a b c m:Int} (ha:m ≤ a) (hb:m ≤ b) (hc:m ≤ c):m ≤ (sid a b c).1:=by
 unfold sid
 simp only
 split <;> split <;> omega
theorem fit_vol {x:Item} {t:Typ} (hx:itmB x = true) (ht:typB t = true) (h:fitB x t = true):volI x ≤ volT t ∧ x.fGram ≤ t.fGram:=by
 simp only [itmB,Bool.and_eq_true,inb_iff] at hx
 simp only [typB,Bool.and_eq_true,inb_iff] at ht
 simp only [fitB,Bool.and_eq_true,decide_eq_true_eq] at h
 obtain ⟨⟨⟨h1,h2⟩,h3⟩,h4⟩:=h
 refine ⟨?_,h4⟩
 have e1:volI x = x.fW * x.fH * x.fD:=by
  unfold volI volB
  rw [show (inb x.fW 0 2000 && (inb x.fH 0 2000 && inb x.fD 0 2000)) = true by simp; omega,cond_true]
 have e2:volT t = t.fW * t.fH * t.fD:=by
  unfold volT volB
  rw [show (inb t.fW 0 2000 && (inb t.fH 0 2000 && inb t.fD 0 2000)) = true by simp; omega,cond_true]
 rw [e1,e2,← sid_prd x.fW x.fH x.fD,← sid_prd t.fW t.fH t.fD]
 have p1:1 ≤ (sid x.fW x.fH x.fD).1:=sid_ge (by omega) (by omega) (by omega)
 have s1:=sid_sorted x.fW x.fH x.fD
 have s2:=sid_sorted t.fW t.fH t.fD
 refine Int.mul_le_mul h1 ?_ (Int.mul_nonneg (by omega) (by omega)) (by omega)
 exact Int.mul_le_mul h2 h3 (by omega) (by omega)
theorem itmZ_mem {r:Request} {u:Int} (h:0 ≤ u ∧ u < (untM r).length):itmZ r u ∈ r.fItems:=(itm_cls (itmZ_in h)).2
theorem cls_in {r:Request} {u:Int} (h:0 ≤ u ∧ u < (untM r).length):clsM r = 0:=(itm_cls (itmZ_in h)).1
theorem mas_typ {r:Request} (hc:clsM r = 0):typM r r.fMaster = some (masM r) ∧ masM r ∈ r.fTypes ∧ typB (masM r) = true:=by
 have h:=(clsM_zero hc).2.1
 unfold namB at h
 simp only [Bool.and_eq_true] at h
 obtain ⟨t,ht⟩:=Option.isSome_iff_exists.1 h.1.2
 have e:masM r = t:=by unfold masM; rw [ht]; rfl
 have hm:t ∈ r.fTypes:=List.mem_of_find?_eq_some ht
 rw [e]
 exact ⟨ht,hm,bou_types (clsM_zero hc).1 t hm⟩
theorem vol_one {r:Request} {u:Int} (h:0 ≤ u ∧ u < (untM r).length):volM r [u] = volI (itmZ r u) ∧ grmM r [u] = (itmZ r u).fGram:=by
 unfold volM grmM itsM
 simp [List.filterMap_cons,itmZ_in h]
theorem one_wit {r:Request} {u:Int} (h:0 ≤ u ∧ u < (untM r).length):witB r [u] (masM r) = true:=by
 have hc:=cls_in h
 have hz:=clsM_zero hc
 have hm:=itmZ_mem h
 obtain ⟨h1,h2⟩:=fit_vol ((bou_items hz.1).1 _ hm) (mas_typ hc).2.2 (hz.2.2.2.1 _ hm)
 unfold witB
 rw [(vol_one h).1,(vol_one h).2,Bool.and_eq_true,decide_eq_true_iff,decide_eq_true_iff]
 exact ⟨h1,h2⟩
def Qc (r:Request) (us:List Int) (l:List Int):Prop:=l ≠ [] ∧ (∀ u ∈ l,u ∈ us) ∧ witB r l (masM r) = true
theorem putF_q {r:Request} {us:List Int} {out:List (List Int)} {u:Int} (h:∀ l ∈ out,Qc r us l) (hu:u ∈ us) (hr:0 ≤ u ∧ u < (untM r).length):∀ l ∈ fitF r out u,Qc r us l:=by
 have hn:Qc r us [u]:=⟨by simp,fun v hv=>by rw [List.mem_singleton.1 hv]; exact hu,one_wit hr⟩
 intro l hl
 unfold fitF putF at hl
 split at hl
 · rename_i i hi
   obtain ⟨x,hx,hg⟩:=fstI_lt hi
   rw [hx] at hl
   rcases List.mem_or_eq_of_mem_set hl with hl | rfl
   · exact h l hl
   · have hq:=h x (List.mem_of_getElem? hx)
     refine ⟨by simp,fun v hv=>?_,hg⟩
     rcases List.mem_append.1 hv with hv | hv
     · exact hq.2.1 v hv
     · rw [List.mem_singleton.1 hv]; exact hu
 · rcases List.mem_append.1 hl with hl | hl
   · exact h l hl
   · rw [List.mem_singleton.1 hl]; exact hn
theorem nxtF_q {r:Request} {us:List Int} {out:List (List Int)} {u:Int} (h:∀ l ∈ out,Qc r us l) (hu:u ∈ us) (hr:0 ≤ u ∧ u < (untM r).length):∀ l ∈ nxtF r out u,Qc r us l:=by
 have hn:Qc r us [u]:=⟨by simp,fun v hv=>by rw [List.mem_singleton.1 hv]; exact hu,one_wit hr⟩
 intro l hl
 cases hlast:out.getLast? with
 | none =>
  unfold nxtF at hl
  rw [hlast] at hl
  rw [List.mem_singleton.1 hl]; exact hn
 | some x =>
  rw [nxtF_some u hlast] at hl
  have hq:=h x (List.mem_of_getLast? hlast)
  cases hg:romB r u x
  · rw [hg,cond_false] at hl
    rcases List.mem_append.1 hl with hl | hl
    · exact h l hl
    · rw [List.mem_singleton.1 hl]; exact hn
  · rw [hg,cond_true] at hl
    rcases List.mem_or_eq_of_mem_set hl with hl | rfl
    · exact h l hl
    · refine ⟨by simp,fun v hv=>?_,hg⟩
      rcases List.mem_append.1 hv with hv | hv
      · exact hq.2.1 v hv
      · rw [List.mem_singleton.1 hv]; exact hu
theorem fold_q {r:Request} {us:List Int} {F:List (List Int) → Int → List (List Int)} (hF:∀ out u,(∀ l ∈ out,Qc r us l) → u ∈ us → (0 ≤ u ∧ u < (untM r).length) → ∀ l ∈ F out u,Qc r us l):∀ (vs:List Int) (out:List (List Int)),(∀ u ∈ vs,u ∈ us ∧ 0 ≤ u ∧ u < (untM r).length) → (∀ l ∈ out,Qc r us l) → ∀ l ∈ vs.foldl F out,Qc r us l
 | [],out,_,h=>h
 | v :: vs,out,hv,h=>by
  rw [List.foldl_cons]
  have h1:=hv v (by simp)
  exact fold_q hF vs _ (fun u hu=>hv u (by simp [hu])) (hF out v h h1.1 h1.2)
theorem ordM_perm (r:Request) (us:List Int):(ordM r us).Perm us:=by
 unfold ordM
 refine ((srt_perm _ _).map _).trans ?_
 have key:∀ (xs pre:List Int),us = pre ++ xs → (ints pre.length xs.length).map (fun p=>(ix us p).getD 0) = xs:=by
  intro xs
  induction xs with
  | nil=>intro pre _; rfl
  | cons x xs ih =>
   intro pre he
   have h1:=ih (pre ++ [x]) (by simp [he])
   simp only [List.length_append,List.length_singleton] at h1
   simp only [List.length_cons,ints,List.map_cons]
   rw [show ((pre.length:Int) + 1) = ((pre.length + 1:Nat):Int) by omega,h1]
   congr 1
   rw [ix_nat,he]
   simp
 have:=key us [] rfl
 simp only [List.length_nil] at this
 exact List.Perm.of_eq this
theorem pw_q {r:Request} {us:List Int}:∀ l ∈ pwM r us,Qc r (thrM r us) l:=by
 unfold pwM nfM ffM
 have ht:∀ u ∈ thrM r us,u ∈ thrM r us ∧ 0 ≤ u ∧ u < (untM r).length:=fun u hu=>⟨hu,thr_mem hu⟩
 cases r.fWay == 1
 · rw [cond_false]
   exact fold_q (fun out u h hu hr=>putF_q h hu hr) _ [] (fun u hu=>ht u ((ordM_perm r _).mem_iff.1 hu)) (by simp)
 · rw [cond_true]
   exact fold_q (fun out u h hu hr=>nxtF_q h hu hr) _ [] ht (by simp)
def lensC:List Carton → Nat
 | []=>0
 | x :: xs=>x.fUnits.length + lensC xs
structure Sp (x:Plan):Prop where
 cars:x.fCartons.length ≤ 1048576
 units:∀ c ∈ x.fCartons,c.fUnits.length ≤ 1048576
 all:lensC x.fCartons ≤ 1048576
 spots:x.fSpots.length ≤ 1048576
def incP:List Int → List Int → Bool
 | _,[]=>true
 | pre,x :: xs=>inb x 0 999 && ((match pre.getLast? with | none=>true | some y=>decide (y < x)) && incP (pre ++ [x]) xs)
def uriB (l:List Int):Bool:=incP [] l && decide ((l.length:Int) ≤ 100)
def cokB (c:Carton):Bool:=inb c.fType 0 999 && (inb c.fGroup 0 3 && uriB c.fUnits)
def sokB (s:Spot):Bool:=inb s.fPallet 0 2000 && (inb s.fX 0 2000 && (inb s.fY 0 2000 && inb s.fZ 0 2000))
def pokB (x:Plan):Bool:=x.fSpots.length == x.fCartons.length && (decide ((x.fCartons.length:Int) ≤ 100) && (x.fCartons.zip x.fSpots).all fun p=>cokB p.1 && sokB p.2)
theorem last_ix {pre:List Int} {x:Int} {xs l:List Int} (hl:l.length ≤ 1048576) (e:l = pre ++ x :: xs):(pre.getLast? = none ∧ pre.length = 0) ∨ ∃ y,pre.getLast? = some y ∧ 0 < pre.length ∧ ix l (w64 ((pre.length:Int) - 1)) = some y:=by
 cases hp:pre.getLast? with
 | none=>exact .inl ⟨rfl,by simpa using List.getLast?_eq_none_iff.1 hp⟩
 | some y =>
  have hne:pre ≠ []:=fun e=>by subst e; simp at hp
  have hpos:0 < pre.length:=List.length_pos_iff.2 hne
  refine .inr ⟨y,rfl,hpos,?_⟩
  have h1:w64 ((pre.length:Int) - 1) = ((pre.length - 1:Nat):Int):=by
   have:pre.length ≤ l.length:=by rw [e]; simp
   rw [w64_id (by omega) (by omega)]; omega
  rw [h1,ix_nat,e,List.getElem?_append_left (by omega),← List.getLast?_eq_getElem?,hp]
theorem i_uri {fu:Nat} {l:List Int} (hl:l.length ≤ 1048576) (hf:l.length < fu):d_impl_unitsRight fu l = some (uriB l):=by
 unfold d_impl_unitsRight uriB
 have key:=lpP l (fun n (_:Unit) i=>d_impl_unitsRight_L1 fu l n i) (fun pre xs _=>some (incP pre xs && decide ((l.length:Int) ≤ 100))) (by omega) ?_ ?_ fu () hf
 · exact key
 · intro n _ pre x xs e hx hd ih
   have ih:=ih ()
   simp only [d_impl_unitsRight_L1.eq_2]
   unfold d_impl_unitsRight_L1_B d_impl_unitsRight_J1 incP
   rw [hd,cond_true,hx,ob_some,i_in,ob_some]
   cases inb x 0 999
   · rfl
   · rw [Bool.not_true,cond_false,Bool.true_and]
     rcases last_ix (hl:=hl) e with ⟨h1,h2⟩ | ⟨y,h1,h2,h3⟩
     · rw [h1,show decide ((pre.length:Int) > 0) = false from decide_eq_false (by omega),cond_false,ih]
       simp
     · rw [h1,show decide ((pre.length:Int) > 0) = true from decide_eq_true (by omega),cond_true,h3,ob_some,ih]
       by_cases hy:y < x
       · rw [show decide (y ≥ x) = false by simp; omega,cond_false]; simp [hy]
       · rw [show decide (y ≥ x) = true by simp; omega,cond_true]; simp [hy]
 · intro n _ hd
   simp only [d_impl_unitsRight_L1.eq_2]
   unfold d_impl_unitsRight_L1_B
   rw [hd,cond_false]
   simp [incP]
theorem s_cok {fu:Nat} {c:Carton} (hl:c.fUnits.length ≤ 1048576) (hf:c.fUnits.length < fu):d_spec_l13Carton fu c = some (cokB c):=by
 unfold d_spec_l13Carton cokB
 rw [s_id,ob_some,s_in,ob_some]
 cases inb c.fType 0 999
 · rfl
 · rw [Bool.not_true,cond_false]
   cases inb c.fGroup 0 3
   · rfl
   · rw [Bool.not_true,cond_false,Bool.true_and,Bool.true_and]
     unfold uriB
     by_cases h1:(c.fUnits.length:Int) ≤ 100
     · rw [show decide ((c.fUnits.length:Int) > 100) = false by simp; omega,cond_false,show decide ((c.fUnits.length:Int) ≤ 100) = true by simpa using h1,Bool.and_true]
       unfold d_spec_l13Carton_J2
       have key:=lpP c.fUnits (fun n (_:Unit) i=>d_spec_l13Carton_L1 fu c n i) (fun pre xs _=>some (incP pre xs)) (by omega) ?_ ?_ fu () hf
       · exact key
       · intro n _ pre x xs e hx hd ih
         have ih:=ih ()
         simp only [d_spec_l13Carton_L1.eq_2]
         unfold d_spec_l13Carton_L1_B d_spec_l13Carton_J1 incP
         rw [hd,cond_true,hx,ob_some,s_in,ob_some]
         cases inb x 0 999
         · rfl
         · rw [Bool.not_true,cond_false,Bool.true_and]
           rcases last_ix (hl:=hl) e with ⟨h1,h2⟩ | ⟨y,h1,h2,h3⟩
           · rw [h1,show decide ((pre.length:Int) > 0) = false from decide_eq_false (by omega),cond_false,ih]
             simp
           · rw [h1,show decide ((pre.length:Int) > 0) = true from decide_eq_true (by omega),cond_true,ob_some,h3,ob_some,ih]
             by_cases hy:y < x
             · rw [show decide (x ≤ y) = false by simp; omega,cond_false]; simp [hy]
             · rw [show decide (x ≤ y) = true by simp; omega,cond_true]; simp [hy]
       · intro n _ hd
         simp only [d_spec_l13Carton_L1.eq_2]
         unfold d_spec_l13Carton_L1_B
         rw [hd,cond_false]
         simp [incP]
     · rw [show decide ((c.fUnits.length:Int) > 100) = true by simp; omega,cond_true,show decide ((c.fUnits.length:Int) ≤ 100) = false by simpa using h1,Bool.and_false]
theorem zip_ix {α β:Type} {a:List α} {b:List β} {i:Int} {p:α × β} (h:ix (a.zip b) i = some p):ix a i = some p.1 ∧ ix b i = some p.2:=by
 obtain ⟨h0,_,h1⟩:=ix_some h
 have:=List.getElem?_zip_eq_some.1 h1
 unfold ix
 rw [if_pos h0,if_pos h0]
 exact this
theorem i_pok {fu:Nat} {x:Plan} (h:Sp x) (hf:1048577 ≤ fu):d_impl_PlanOk fu x = some (pokB x):=by
 have hs:=h.spots
 have hc:=h.cars
 unfold d_impl_PlanOk pokB
 cases he:x.fSpots.length == x.fCartons.length
 · have:((x.fSpots.length:Int) != (x.fCartons.length:Int)) = true:=by simp at he ⊢; omega
   rw [this]; rfl
 · have el:x.fSpots.length = x.fCartons.length:=by simpa using he
   have:((x.fSpots.length:Int) != (x.fCartons.length:Int)) = false:=by simp; omega
   rw [this,cond_false,Bool.true_and]
   by_cases h1:(x.fCartons.length:Int) ≤ 100
   · rw [show decide ((x.fCartons.length:Int) > 100) = false by simp; omega,cond_false,show decide ((x.fCartons.length:Int) ≤ 100) = true by simpa using h1,Bool.true_and]
     unfold d_impl_PlanOk_J2
     have hz:(x.fCartons.zip x.fSpots).length = x.fCartons.length:=by simp; omega
     have key:=lp (x.fCartons.zip x.fSpots) (fun n (_:Unit) i=>d_impl_PlanOk_L1 fu x n i) (fun l _=>some (l.all fun p=>cokB p.1 && sokB p.2)) (by omega) ?_ ?_ fu () (by omega)
     · exact key
     · intro n _ i p xs hx hd ih
       have ih:=ih ()
       obtain ⟨e1,e2⟩:=zip_ix hx
       have hu:=h.units p.1 (ix_mem e1)
       rw [hz] at hd
       simp only [d_impl_PlanOk_L1.eq_2]
       unfold d_impl_PlanOk_L1_B d_impl_PlanOk_J1
       simp only [hd,cond_true,e1,e2,ob_some,i_in,i_uri hu (show p.1.fUnits.length < fu by omega),i_place,ih,List.all_cons]
       unfold cokB sokB
       cases inb p.1.fType 0 999 <;> cases inb p.1.fGroup 0 3 <;> cases uriB p.1.fUnits <;> cases inb p.2.fPallet 0 2000 <;> cases inb p.2.fX 0 2000 <;> cases inb p.2.fY 0 2000 <;> cases inb p.2.fZ 0 2000 <;> rfl
     · intro n _ i hd
       rw [hz] at hd
       simp only [d_impl_PlanOk_L1.eq_2]
       unfold d_impl_PlanOk_L1_B
       simp [hd]
   · rw [show decide ((x.fCartons.length:Int) > 100) = true by simp; omega,cond_true,show decide ((x.fCartons.length:Int) ≤ 100) = false by simpa using h1,Bool.false_and]
theorem s_pok {fu:Nat} {x:Plan} (h:Sp x) (hf:1048577 ≤ fu):d_spec_PlanOk fu x = some (pokB x):=by
 have hs:=h.spots
 have hc:=h.cars
 unfold d_spec_PlanOk pokB
 cases he:x.fSpots.length == x.fCartons.length
 · have:((x.fCartons.length:Int) != (x.fSpots.length:Int)) = true:=by simp at he ⊢; omega
   rw [this]; rfl
 · have el:x.fSpots.length = x.fCartons.length:=by simpa using he
   have:((x.fCartons.length:Int) != (x.fSpots.length:Int)) = false:=by simp; omega
   rw [this,cond_false,Bool.true_and]
   by_cases h1:(x.fCartons.length:Int) ≤ 100
   · rw [show decide ((x.fCartons.length:Int) > 100) = false by simp; omega,cond_false,show decide ((x.fCartons.length:Int) ≤ 100) = true by simpa using h1,Bool.true_and]
     unfold d_spec_PlanOk_J2
     have hz:(x.fCartons.zip x.fSpots).length = x.fCartons.length:=by simp; omega
     have key:=lp (x.fCartons.zip x.fSpots) (fun n (_:Unit) i=>d_spec_PlanOk_L1 fu x n i) (fun l _=>some (l.all fun p=>cokB p.1 && sokB p.2)) (by omega) ?_ ?_ fu () (by omega)
     · exact key
     · intro n _ i p xs hx hd ih
       have ih:=ih ()
       obtain ⟨e1,e2⟩:=zip_ix hx
       have hu:=h.units p.1 (ix_mem e1)
       rw [hz] at hd
       simp only [d_spec_PlanOk_L1.eq_2]
       unfold d_spec_PlanOk_L1_B d_spec_PlanOk_J1
       simp only [hd,cond_true,e1,e2,ob_some,s_in,s_cok hu (show p.1.fUnits.length < fu by omega),ih,List.all_cons]
       unfold sokB
       cases cokB p.1 <;> cases inb p.2.fPallet 0 2000 <;> cases inb p.2.fX 0 2000 <;> cases inb p.2.fY 0 2000 <;> cases inb p.2.fZ 0 2000 <;> rfl
     · intro n _ i hd
       rw [hz] at hd
       simp only [d_spec_PlanOk_L1.eq_2]
       unfold d_spec_PlanOk_L1_B
       simp [hd]
   · rw [show decide ((x.fCartons.length:Int) > 100) = true by simp; omega,cond_true,show decide ((x.fCartons.length:Int) ≤ 100) = false by simpa using h1,Bool.false_and]
def cs (x:Plan):List (Carton × Spot):=x.fCartons.zip x.fSpots
theorem chp_any (r:Request) (us:List Int):∀ (l:List Typ) (s:Typ × Bool),(l.foldl (chp r us) s).2 = (s.2 || l.any (hldB r us))
 | [],s=>by simp
 | t :: l,s=>by
  rw [List.foldl_cons,chp_any r us l,List.any_cons]
  unfold chp
  obtain ⟨b,f⟩:=s
  cases hldB r us t <;> cases f <;> simp
  cases (decide (t.fCost < b.fCost) || t.fCost == b.fCost && decide (t.fId < b.fId)) <;> simp
theorem chp_some {r:Request} {us:List Int} {t:Typ} (ht:t ∈ r.fTypes) (h:hldB r us t = true):(chpM r us).2 = true:=by
 unfold chpM
 rw [chp_any]
 simp only [Bool.false_or]
 exact List.any_eq_true.2 ⟨t,ht,h⟩
theorem sumI_perm {a b:List Int} (h:a.Perm b):sumI a = sumI b:=by
 induction h with
 | nil=>rfl
 | cons x _ ih=>simp [ih]
 | swap x y l=>simp; omega
 | trans _ _ h1 h2=>rw [h1,h2]
theorem its_perm {r:Request} {a b:List Int} (h:a.Perm b):(itsM r a).Perm (itsM r b):=h.filterMap _
theorem grm_perm {r:Request} {a b:List Int} (h:a.Perm b):grmM r a = grmM r b:=sumI_perm ((its_perm h).map _)
theorem nod_find {f:Typ → Int}:∀ (xs pre:List Typ) (t:Typ),nodB f pre xs = true → t ∈ xs → (∀ y ∈ pre,f y ≠ f t) ∧ xs.find? (fun y=>f y == f t) = some t
 | [],_,_,_,h=>by simp at h
 | x :: xs,pre,t,hn,h=>by
  simp only [nodB,Bool.and_eq_true,Bool.not_eq_true'] at hn
  have hx:=List.any_eq_false.1 hn.1
  rcases List.mem_cons.1 h with rfl | h
  · exact ⟨fun y hy e=>hx y hy (by simp [e]),by simp⟩
  · have ih:=nod_find xs (pre ++ [x]) t hn.2 h
    refine ⟨fun y hy=>ih.1 y (by simp [hy]),?_⟩
    have:=ih.1 x (by simp)
    have e:(f x == f t) = false:=by simpa using this
    rw [List.find?_cons,e]
    exact ih.2
theorem typ_find {r:Request} (hc:clsM r = 0) {t:Typ} (ht:t ∈ r.fTypes):typM r t.fId = some t:=by
 have h:=(clsM_zero hc).2.1
 unfold namB at h
 simp only [Bool.and_eq_true] at h
 exact (nod_find r.fTypes [] t h.1.1.1 ht).2
theorem chp_hold (r:Request) (us:List Int):∀ (l:List Typ) (s:Typ × Bool),(∀ t ∈ l,t ∈ r.fTypes) → (s.2 = true → s.1 ∈ r.fTypes ∧ hldB r us s.1 = true) → (l.foldl (chp r us) s).2 = true → (l.foldl (chp r us) s).1 ∈ r.fTypes ∧ hldB r us (l.foldl (chp r us) s).1 = true
 | [],s,_,h,h2=>h h2
 | t :: l,s,hl,h,h2=>by
  rw [List.foldl_cons] at h2 ⊢
  refine chp_hold r us l _ (fun x hx=>hl x (by simp [hx])) (fun h3=>?_) h2
  unfold chp at h3 ⊢
  cases hh:hldB r us t && (!s.2 || (decide (t.fCost < s.1.fCost) || (t.fCost == s.1.fCost && decide (t.fId < s.1.fId))))
  · rw [hh,cond_false] at h3
    rw [cond_false]
    exact h h3
  · rw [Bool.and_eq_true] at hh
    rw [cond_true]
    exact ⟨hl t (by simp),hh.1⟩
theorem mas_hold {r:Request} {us l:List Int} (h:Qc r (thrM r us) l):hldB r l (masM r) = true:=by
 obtain ⟨h1,h2,h3⟩:=h
 obtain ⟨u,hu⟩:=List.exists_mem_of_ne_nil _ h1
 have hc:=cls_in (thr_mem (h2 u hu))
 have hz:=clsM_zero hc
 unfold hldB
 rw [show (clsM r == 0) = true by simp [hc],Bool.true_and,h3,Bool.and_true,List.all_eq_true]
 intro v hv
 have hv':=thr_mem (h2 v hv)
 unfold uOk
 rw [itmZ_in hv',Bool.and_eq_true]
 exact ⟨rfl,hz.2.2.2.1 _ (itmZ_mem hv')⟩
theorem chp_pw {r:Request} {us l:List Int} (h:Qc r (thrM r us) l):clsM r = 0 ∧ (chpM r l).2 = true ∧ (chpM r l).1 ∈ r.fTypes ∧ hldB r l (chpM r l).1 = true ∧ typM r (chpM r l).1.fId = some (chpM r l).1:=by
 obtain ⟨u,hu⟩:=List.exists_mem_of_ne_nil _ h.1
 have hc:=cls_in (thr_mem (h.2.1 u hu))
 have h2:=chp_some (mas_typ hc).2.1 (mas_hold h)
 have h3:=chp_hold r l r.fTypes (zTyp,false) (fun _ h=>h) (by simp) h2
 exact ⟨hc,h2,h3.1,h3.2,typ_find hc h3.1⟩
theorem grm_pos {r:Request} {us l:List Int} (h:Qc r (thrM r us) l):1 ≤ grmM r l:=by
 obtain ⟨h1,h2,_⟩:=h
 match l,h1 with
 | u :: l,_ =>
  have hu:=thr_mem (h2 u (by simp))
  have hc:=cls_in hu
  have:=(bou_items (clsM_zero hc).1).1 _ (itmZ_mem hu)
  simp only [itmB,Bool.and_eq_true,inb_iff] at this
  have h3:=(grmM_bd r l).1
  rw [grm_cons]
  omega
theorem box_crt {r:Request} {us l:List Int} (h:Qc r (thrM r us) l) (k:Int):boxM r (crtM r k l) = ⟨(chpM r l).1.fW,(chpM r l).1.fD,(chpM r l).1.fH,(chpM r l).1.fTare + grmM r l⟩ ∧ bokB r.fPallet (boxM r (crtM r k l)) = true:=by
 obtain ⟨hc,_,ht,hh,hf⟩:=chp_pw h
 have hz:=clsM_zero hc
 have e:boxM r (crtM r k l) = ⟨(chpM r l).1.fW,(chpM r l).1.fD,(chpM r l).1.fH,(chpM r l).1.fTare + grmM r l⟩:=by
  unfold boxM crtM
  simp only [hf,show (clsM r == 0) = true by simp [hc],cond_true,grm_perm (srtI_perm l)]
 refine ⟨e,?_⟩
 have ht1:=bou_types hz.1 _ ht
 have ht2:=hz.2.2.2.2 _ ht
 simp only [typB,Bool.and_eq_true,inb_iff] at ht1
 simp only [tooB,Bool.or_eq_false_iff,decide_eq_false_iff_not] at ht2
 rw [w64_id (by omega) (by omega)] at ht2
 have hg:=grm_pos h
 unfold hldB at hh
 simp only [Bool.and_eq_true] at hh
 have hw:=hh.2.2
 unfold witB at hw
 simp only [Bool.and_eq_true,decide_eq_true_eq] at hw
 rw [e]
 simp only [bokB,Bool.and_eq_true,inb_iff]
 omega
def bxsK (r:Request) (k:Int):List Box:=((crtL r).filter fun c=>c.fGroup == k).map (boxM r)
def plS (r:Request) (s:List Spot × Int) (k:Int):List Spot × Int:=(s.1 ++ (spM r.fPallet (bxsK r k)).map (fun t=>⟨t.fPallet + s.2,t.fX,t.fY,t.fZ⟩),s.2 + palM (spM r.fPallet (bxsK r k)))
def plnM (r:Request):Plan × Bool:=bif clsM r == 0 then (⟨crtL r,((ints 0 (grpM r).length).foldl (plS r) ([],0)).1⟩,true) else (⟨[],[]⟩,false)
theorem crtF_filter (r:Request) (k:Int):∀ (ks:List Int),ks.Nodup → ((crtF r ks).filter fun c=>c.fGroup == k) = bif ks.contains k then crtK r k else []
 | [],_=>rfl
 | j :: ks,hn=>by
  obtain ⟨h1,h2⟩:=List.nodup_cons.1 hn
  have ih:=crtF_filter r k ks h2
  rw [crtF,List.filter_append,ih]
  have hj:∀ c ∈ crtK r j,c.fGroup = j:=by
   intro c hc
   unfold crtK at hc
   obtain ⟨l,_,rfl⟩:=List.mem_map.1 hc
   rfl
  by_cases e:k = j
  · subst e
    have e1:(crtK r k).filter (fun c=>c.fGroup == k) = crtK r k:=List.filter_eq_self.2 fun c hc=>by simp [hj c hc]
    have e2:ks.contains k = false:=by simpa using h1
    rw [e1,e2]
    simp
  · have e1:(crtK r j).filter (fun c=>c.fGroup == k) = []:=List.filter_eq_nil_iff.2 fun c hc=>by simp [hj c hc]; omega
    rw [e1]
    have e2:(j :: ks).contains k = ks.contains k:=by simp [e]
    rw [e2]; rfl
theorem bxs_eq {r:Request} {k:Int} (h:0 ≤ k ∧ k < (grpM r).length):bxsK r k = (crtK r k).map (boxM r):=by
 unfold bxsK crtL
 rw [crtF_filter r k _ (ints_nodup _ _)]
 rw [show (ints 0 (grpM r).length).contains k = true by rw [List.contains_iff_mem,ints_mem]; omega]
 rfl
theorem bxs_ok {r:Request} (hc:clsM r = 0) {k:Int} (h:0 ≤ k ∧ k < (grpM r).length):bosB r.fPallet (bxsK r k) = true:=by
 have hb:=(clsM_zero hc).1
 unfold bouB at hb
 simp only [Bool.and_eq_true] at hb
 unfold bosB
 rw [bxs_eq h,Bool.and_eq_true]
 refine ⟨hb.1.1.1.1.1.1.1.1.2,List.all_eq_true.2 fun b hb=>?_⟩
 unfold crtK at hb
 rw [List.map_map] at hb
 obtain ⟨l,hl,rfl⟩:=List.mem_map.1 hb
 exact (box_crt (pw_q l hl) k).2
theorem bxs_len (r:Request) (k:Int):(bxsK r k).length ≤ 48:=by
 have h1:=List.length_filter_le (fun c:Carton=>c.fGroup == k) (crtL r)
 have h2:=crtL_len r
 unfold bxsK
 rw [List.length_map]
 omega
theorem pl_len {r:Request} (hc:clsM r = 0):∀ (ks:List Int) (s:List Spot × Int),(∀ k ∈ ks,0 ≤ k ∧ k < (grpM r).length) → (ks.foldl (plS r) s).1.length = s.1.length + (crtF r ks).length
 | [],s,_=>by simp [crtF]
 | k :: ks,s,h=>by
  rw [List.foldl_cons,pl_len hc ks _ fun j hj=>h j (by simp [hj])]
  have hk:=h k (by simp)
  have h1:=spM_len (bxs_ok hc hk)
  rw [bxs_eq hk,List.length_map] at h1
  simp only [plS,crtF,List.length_append,List.length_map,bxs_eq hk,h1]
  omega
theorem pln_len (r:Request):(plnM r).1.fSpots.length = (plnM r).1.fCartons.length ∧ (plnM r).1.fCartons.length ≤ 48 ∧ ∀ c ∈ (plnM r).1.fCartons,c.fUnits.length ≤ 12:=by
 unfold plnM
 cases hc:clsM r == 0
 · exact ⟨rfl,by simp,by simp⟩
 · rw [cond_true]
   have:=pl_len (r:=r) (by simpa using hc) (ints 0 (grpM r).length) ([],0) fun k hk=>by have:=ints_mem.1 hk; omega
   exact ⟨by rw [this]; simp [crtL],crtL_len r,fun c hc=>crt_units hc⟩
theorem s_plan {fu:Nat} {r:Request} (h:Sm fu r):d_spec_PlanOf fu r = some (plnM r):=by
 have hfu:=h.fu
 have hg:=(grpM_ok r).1
 have hcl:=crtL_len r
 unfold d_spec_PlanOf plnM
 rw [s_cls h,ob_some]
 cases hc:clsM r == 0
 · rw [show (clsM r != 0) = true by simp only [bne,hc]; rfl]; rfl
 · have hz:clsM r = 0:=by simpa using hc
   rw [show (clsM r != 0) = false by simp [hz],cond_false,cond_true,s_crt h,ob_some,s_grp h,ob_some]
   have L3:=lpNI ((grpM r).length:Int) (fun n (s:List Spot × Int) k=>d_spec_PlanOf_L3 fu r (crtL r) (grpM r) n s.1 s.2 k) (fun ks s=>some ((⟨crtL r,(ks.foldl (plS r) s).1⟩:Plan),true)) (fun ks s=>(∀ k ∈ ks,0 ≤ k ∧ k < (grpM r).length) ∧ s.1.length + 48 * ks.length ≤ 1000 ∧ 0 ≤ s.2 ∧ s.2 + 1000000 * ks.length ≤ 10000000) (by omega) ?_ ?_ (grpM r).length fu ([],0) 0 (by omega) (by omega) (by omega) ⟨fun k hk=>by have:=ints_mem.1 hk; omega,by simp [ints_len]; omega,by simp,by simp [ints_len]; omega⟩
   · exact L3
   · intro n ⟨sp,base⟩ k ks k0 k1 hd hI ih
     obtain ⟨i1,i2,i3,i4⟩:(∀ j ∈ k :: ks,0 ≤ j ∧ j < (grpM r).length) ∧ sp.length + 48 * (k :: ks).length ≤ 1000 ∧ 0 ≤ base ∧ base + 1000000 * ((k :: ks).length:Int) ≤ 10000000:=hI
     simp only [List.length_cons] at i2 i4
     simp only [d_spec_PlanOf_L3.eq_2]
     unfold d_spec_PlanOf_L3_B
     rw [hd,cond_true]
     have L2:=lpI (crtL r) (fun m (bs:List Box) i=>d_spec_PlanOf_L2 fu (d_spec_PlanOf_L3 fu r (crtL r) (grpM r) n) r (crtL r) sp base k m bs i) (fun cs bs=>obind (d_spec_SpotsOf fu r.fPallet (bs ++ (cs.filter fun c=>c.fGroup == k).map (boxM r))) fun x=>d_spec_PlanOf_L1 fu (d_spec_PlanOf_L3 fu r (crtL r) (grpM r) n) base k x fu sp 0) (fun cs bs=>bs.length + cs.length ≤ 48 ∧ ∀ c ∈ cs,c.fUnits.length ≤ 12) (by omega) ?_ ?_ fu [] ⟨by simpa using hcl,fun c hc=>crt_units hc⟩ (by omega)
     · refine L2.trans ?_
       have hbl:=bxs_len r k
       rw [List.nil_append,show ((crtL r).filter fun c=>c.fGroup == k).map (boxM r) = bxsK r k from rfl,s_spots hfu _ _ (by omega),ob_some]
       have hsl:=spM_len (bxs_ok hz ⟨k0,k1⟩)
       have hpb:=palM_bd (spM r.fPallet (bxsK r k))
       have hps:∀ s ∈ spM r.fPallet (bxsK r k),s ∈ spM r.fPallet (bxsK r k):=fun _ h=>h
       have ih':=ih (plS r (sp,base) k) ⟨fun j hj=>i1 j (by simp [hj]),by simp [plS]; omega,by simp [plS]; omega,by simp [plS]; omega⟩
       rw [List.foldl_cons,← ih']
       have hS:=s_pals (fu:=fu) (l:=spM r.fPallet (bxsK r k)) (by omega) (by omega)
       have hwf:∀ s ∈ spM r.fPallet (bxsK r k),w64 (s.fPallet + base) = s.fPallet + base:=by
        intro s hs
        have:=sp_pal (p:=r.fPallet) (l:=bxsK r k) (by omega) s hs
        exact w64_id (by omega) (by omega)
       generalize hSP:spM r.fPallet (bxsK r k) = S at hsl hpb hS hwf ⊢
       have L1:=lpI S (fun m (o:List Spot) i=>d_spec_PlanOf_L1 fu (d_spec_PlanOf_L3 fu r (crtL r) (grpM r) n) base k S m o i) (fun xs o=>d_spec_PlanOf_L3 fu r (crtL r) (grpM r) n (o ++ xs.map (fun t=>⟨t.fPallet + base,t.fX,t.fY,t.fZ⟩)) (base + palM S) (w64 (k + 1))) (fun xs o=>o.length + xs.length ≤ 1000 ∧ ∀ s ∈ xs,w64 (s.fPallet + base) = s.fPallet + base) (by omega) ?_ ?_ fu sp ⟨by omega,hwf⟩ (by omega)
       · refine L1.trans ?_
         simp only [plS,hSP]
       · intro m o i x xs hx hd hI ih
         obtain ⟨j1,j2⟩:=hI
         simp only [List.length_cons] at j1
         simp only [d_spec_PlanOf_L1.eq_2]
         unfold d_spec_PlanOf_L1_B
         rw [hd,cond_true,hx,ob_some,j2 x (by simp),ap1 (by simp; omega),ob_some,ih _ ⟨by simp; omega,fun s hs=>j2 s (by simp [hs])⟩]
         simp
       · intro m o i hd hI
         simp only [d_spec_PlanOf_L1.eq_2]
         unfold d_spec_PlanOf_L1_B
         rw [hd,cond_false,hS,ob_some,w64_id (n:=base + _) (by omega) (by omega)]
         simp
     · intro m bs i c cs hx hd hI ih
       obtain ⟨j1,j2⟩:=hI
       simp only [List.length_cons] at j1
       have hcu:=j2 c (by simp)
       simp only [d_spec_PlanOf_L2.eq_2]
       unfold d_spec_PlanOf_L2_B d_spec_PlanOf_J1
       rw [hd,cond_true,hx,ob_some,ob_some,s_boxM h c (by omega),ob_some,ap1 (by simp; omega),ob_some,ih _ ⟨by simp; omega,fun c hc=>j2 c (by simp [hc])⟩,ih _ ⟨by omega,fun c hc=>j2 c (by simp [hc])⟩,List.filter_cons]
       cases c.fGroup == k <;> simp
     · intro m bs i hd _
       simp only [d_spec_PlanOf_L2.eq_2]
       unfold d_spec_PlanOf_L2_B
       rw [hd,cond_false]; simp
   · intro n ⟨sp,base⟩ k hd _
     simp only [d_spec_PlanOf_L3.eq_2]
     unfold d_spec_PlanOf_L3_B
     rw [hd,cond_false]; rfl
end Go.Proofs.YthkaklkinepfkaaGreatDoor
