/- RenamedBP: plain lemmas, part 5. -/
import Derived.Test.YthkaklkinepfkaaGreatDoorRenamedBP4
set_option linter.unusedSimpArgs false
set_option linter.unusedVariables false
namespace Go.Proofs.YthkaklkinepfkaaGreatDoor
open Go
open Enc (rd ow)
open Arg (argv)
open Ret (retv)
open Wf (wf)
def rowL (p:ByteArray × List Int):ByteArray:=lineL p.1 p.2
def rowN (p:ByteArray × List Int):ByteArray:=lineL p.1 p.2 ++ nl1
theorem i_clo1 {w:ByteArray} {l:List Int} {o:List ByteArray} (hk:numOk l = true) (hw:w.size ≤ 7) (hl:l.length ≤ 7) (ho:o.length ≤ 1000):d_impl_OrderText_1 2097153 w l true o = some (true,o ++ [lineL w l ++ nl1]):=by
 unfold d_impl_OrderText_1
 rw [i_line w (by omega) (by omega) (by omega) (numOk_mem hk),ob_some,cond_true]
 unfold d_impl_OrderText_1_J1
 rw [ap1 (by simp; omega),ob_some]
theorem joinE (X:List (List UInt8)):Lib.join X [] = X.flatten:=by
 cases X with
 | nil=>rfl
 | cons x r=>rw [Lib.join_cons,List.flatten_cons]; simp [Lib.joinTail]
theorem catLen:∀ (l:List ByteArray),(∀ x ∈ l,x.size ≤ 200) → ((l.map (·.data.toList)).flatten).length ≤ 200 * l.length
 | [],_=>by simp
 | x :: l,h=>by
  have h1:=catLen l fun y hy=>h y (by simp [hy])
  have h2:=h x (by simp)
  have h3:=ba_len x
  simp only [List.map_cons,List.flatten_cons,List.length_append,List.length_cons]
  omega
def endJ (o:List ByteArray):Option ByteArray:=some (ofL ((o.map (·.data.toList)).flatten))
theorem i_join {o:List ByteArray} (h:∀ x ∈ o,x.size ≤ 200) (hl:o.length ≤ 1000):(obind (d_strings_Join 2097153 o emB) fun x=>some x) = endJ o:=by
 have:=catLen o h
 unfold d_strings_Join joinO
 rw [show emB.data.toList = [] from rfl,joinE,if_pos ⟨by omega,by omega⟩]
 rfl
section
variable {r:Request}
theorem i_otL1 (hk:∀ x ∈ r.fItems,numOk (itmL x) = true) {o:List ByteArray} (ho:(∀ x ∈ o,x.size ≤ 200) ∧ o.length + r.fItems.length ≤ 900):d_impl_OrderText_L1 2097153 r 2097153 o true 0 = endJ (o ++ r.fItems.map fun x=>rowN (wItm,itmL x)):=by
 have key:=lpI r.fItems (fun k (s:List ByteArray) i=>d_impl_OrderText_L1 2097153 r k s true i) (fun xs s=>endJ (s ++ xs.map fun x=>rowN (wItm,itmL x))) (fun xs s=>(∀ x ∈ xs,numOk (itmL x) = true) ∧ (∀ x ∈ s,x.size ≤ 200) ∧ s.length + xs.length ≤ 900) (by omega) ?_ ?_ 2097153 o ⟨hk,ho.1,ho.2⟩ (by omega)
 · exact key
 · intro k s i x xs hx hd hI ih
   obtain ⟨i1,i2,i3⟩:=hI
   simp only [List.length_cons] at i3
   have hx1:=i1 x (by simp)
   simp only [d_impl_OrderText_L1.eq_2]
   unfold d_impl_OrderText_L1_B
   rw [hd,cond_true,hx,ob_some]
   show obind (d_impl_OrderText_1 2097153 wItm (itmL x) true s) _ = _
   rw [i_clo1 hx1 (by decide) (by simp [itmL]) (by omega),ob_some]
   have hz:=row_size hx1 (w:=wItm) (by decide) (by simp [itmL])
   have:=ih (s ++ [rowN (wItm,itmL x)]) ⟨fun y hy=>i1 y (by simp [hy]),fun y hy=>by
    rcases List.mem_append.1 hy with hy | hy
    · exact i2 y hy
    · rw [List.mem_singleton.1 hy]; exact Nat.le_trans hz (by omega),by simp; omega⟩
   rw [List.append_assoc] at this
   exact this
 · intro k s i hd hI
   obtain ⟨_,i2,i3⟩:=hI
   simp only [d_impl_OrderText_L1.eq_2]
   unfold d_impl_OrderText_L1_B
   rw [hd,cond_false]
   show (obind (d_strings_Join 2097153 s emB) fun x=>some x) = _
   rw [i_join i2 (by simp at i3; omega)]
   simp
theorem i_otL2 (hk:∀ x ∈ r.fItems,numOk (itmL x) = true) (hm:numOk [r.fMaster] = true) (ht:∀ x ∈ r.fTypes,numOk (typL x) = true) {o:List ByteArray} (ho:(∀ x ∈ o,x.size ≤ 200) ∧ o.length + (r.fTypes.length + r.fItems.length) ≤ 800) :
    d_impl_OrderText_L2 2097153 r 2097153 o true 0 = endJ (o ++ (r.fTypes.map (fun x=>rowN (wTyp,typL x)) ++ (rowN (wMas,[r.fMaster]) :: r.fItems.map fun x=>rowN (wItm,itmL x)))):=by
 have key:=lpI r.fTypes (fun k (s:List ByteArray) i=>d_impl_OrderText_L2 2097153 r k s true i) (fun xs s=>endJ (s ++ (xs.map (fun x=>rowN (wTyp,typL x)) ++ (rowN (wMas,[r.fMaster]) :: r.fItems.map fun x=>rowN (wItm,itmL x))))) (fun xs s=>(∀ x ∈ xs,numOk (typL x) = true) ∧ (∀ x ∈ s,x.size ≤ 200) ∧ s.length + (xs.length + r.fItems.length) ≤ 800) (by omega) ?_ ?_ 2097153 o ⟨ht,ho.1,ho.2⟩ (by omega)
 · exact key
 · intro k s i x xs hx hd hI ih
   obtain ⟨i1,i2,i3⟩:=hI
   simp only [List.length_cons] at i3
   have hx1:=i1 x (by simp)
   simp only [d_impl_OrderText_L2.eq_2]
   unfold d_impl_OrderText_L2_B
   rw [hd,cond_true,hx,ob_some]
   show obind (d_impl_OrderText_1 2097153 wTyp (typL x) true s) _ = _
   rw [i_clo1 hx1 (by decide) (by simp [typL]) (by omega),ob_some]
   have hz:=row_size hx1 (w:=wTyp) (by decide) (by simp [typL])
   have:=ih (s ++ [rowN (wTyp,typL x)]) ⟨fun y hy=>i1 y (by simp [hy]),fun y hy=>by
    rcases List.mem_append.1 hy with hy | hy
    · exact i2 y hy
    · rw [List.mem_singleton.1 hy]; exact Nat.le_trans hz (by omega),by simp; omega⟩
   rw [List.append_assoc] at this
   exact this
 · intro k s i hd hI
   obtain ⟨_,i2,i3⟩:=hI
   simp only [List.length_nil] at i3
   simp only [d_impl_OrderText_L2.eq_2]
   unfold d_impl_OrderText_L2_B
   rw [hd,cond_false]
   show obind (d_impl_OrderText_1 2097153 wMas [r.fMaster] true s) _ = _
   rw [i_clo1 hm (by decide) (by simp) (by omega),ob_some]
   have hz:=row_size hm (w:=wMas) (by decide) (by simp)
   have:=i_otL1 hk (o:=s ++ [rowN (wMas,[r.fMaster])]) ⟨fun y hy=>by
    rcases List.mem_append.1 hy with hy | hy
    · exact i2 y hy
    · rw [List.mem_singleton.1 hy]; exact Nat.le_trans hz (by omega),by simp; omega⟩
   rw [List.append_assoc] at this
   exact this
theorem otx_list:∀ (ps:List (ByteArray × List Int)) (o:ByteArray),(∀ p ∈ ps,numOk p.2 = true) → (otxF ps o).data.toList = o.data.toList ++ ((ps.map rowN).map (·.data.toList)).flatten
 | [],o,_=>by simp [otxF]
 | p :: ps,o,h=>by
  rw [otxF,if_pos (h p (by simp)),otx_list ps _ fun q hq=>h q (by simp [hq]),app_l]
  simp [rowN]
theorem i_otx (hw:inb r.fWay 0 1 = true) (hk:∀ p ∈ rowsM r,numOk p.2 = true) (hn:r.fPairs.length + (r.fTypes.length + r.fItems.length) ≤ 50):d_impl_OrderText 2097153 r = some (otxM r):=by
 have hb:=inb_iff.1 hw
 have kp:numOk (palL r.fPallet) = true:=hk (wPal,_) (List.mem_append_left _ List.mem_cons_self)
 have kc:numOk [r.fClasses] = true:=hk (wCls,_) (List.mem_append_left _ (List.mem_cons_of_mem _ List.mem_cons_self))
 have km:numOk [r.fMaster] = true:=hk (wMas,_) (by simp [rowsM])
 have kr:∀ p ∈ r.fPairs,numOk [p.fA,p.fB] = true:=fun p hp=>hk (wWth,_) (by simp only [rowsM,List.mem_append,List.mem_map]; exact .inr (.inl ⟨p,hp,rfl⟩))
 have kt:∀ t ∈ r.fTypes,numOk (typL t) = true:=fun t ht=>hk (wTyp,_) (by simp only [rowsM,List.mem_append,List.mem_map]; exact .inr (.inr (.inl ⟨t,ht,rfl⟩)))
 have ki:∀ x ∈ r.fItems,numOk (itmL x) = true:=fun x hx=>hk (wItm,_) (by simp only [rowsM,List.mem_append,List.mem_cons,List.mem_map]; exact .inr (.inr (.inr (.inr ⟨x,hx,rfl⟩))))
 unfold d_impl_OrderText
 rw [i_in,ob_some,hw,Bool.not_true,cond_false]
 have e0:ix (([(⟨#[119,97,121,32,102,105,114,115,116,10]⟩:ByteArray),(⟨#[119,97,121,32,110,101,120,116,10]⟩:ByteArray)]:List ByteArray)) r.fWay = some (wayB r.fWay):=by
  have:r.fWay = 0 ∨ r.fWay = 1:=by omega
  rcases this with e | e <;> rw [e] <;> rfl
 have hws:(wayB r.fWay).size ≤ 20:=by unfold wayB; split <;> decide
 rw [e0,ob_some]
 show obind (d_impl_OrderText_1 2097153 wPal (palL r.fPallet) true [wayB r.fWay]) _ = _
 rw [i_clo1 kp (by decide) (by simp [palL]) (by simp),ob_some]
 show obind (d_impl_OrderText_1 2097153 wCls [r.fClasses] true ([wayB r.fWay] ++ [rowN (wPal,palL r.fPallet)])) _ = _
 rw [i_clo1 kc (by decide) (by simp) (by simp),ob_some]
 have z1:=row_size kp (w:=wPal) (by decide) (by simp [palL])
 have z2:=row_size kc (w:=wCls) (by decide) (by simp)
 have key:=lpI r.fPairs (fun k (s:List ByteArray) i=>d_impl_OrderText_L3 2097153 r k s true i) (fun xs s=>endJ (s ++ (xs.map (fun p=>rowN (wWth,[p.fA,p.fB])) ++ (r.fTypes.map (fun x=>rowN (wTyp,typL x)) ++ (rowN (wMas,[r.fMaster]) :: r.fItems.map fun x=>rowN (wItm,itmL x)))))) (fun xs s=>(∀ p ∈ xs,numOk [p.fA,p.fB] = true) ∧ (∀ x ∈ s,x.size ≤ 200) ∧ s.length + xs.length ≤ 60) (by omega) ?_ ?_ 2097153 ([wayB r.fWay] ++ [rowN (wPal,palL r.fPallet)] ++ [rowN (wCls,[r.fClasses])]) ⟨kr,fun y hy=>by
  simp only [List.mem_append,List.mem_singleton] at hy
  rcases hy with (rfl | rfl) | rfl
  · omega
  · exact Nat.le_trans z1 (by omega)
  · exact Nat.le_trans z2 (by omega),by simp; omega⟩ (by omega)
 · refine Eq.trans (b:=_) key ?_
   unfold endJ otxM
   rw [hw,cond_true]
   congr 1
   apply ba_l
   rw [otx_list _ _ hk]
   simp only [rowsM,List.map_append,List.map_cons,List.map_nil,List.map_map,ofL_list,List.flatten_append,List.flatten_cons,List.flatten_nil,List.append_assoc,List.append_nil,List.nil_append,List.cons_append,List.singleton_append]
   rfl
 · intro k s i p xs hx hd hI ih
   obtain ⟨i1,i2,i3⟩:=hI
   simp only [List.length_cons] at i3
   have hx1:=i1 p (by simp)
   simp only [d_impl_OrderText_L3.eq_2]
   unfold d_impl_OrderText_L3_B
   simp only [hd,cond_true,hx,ob_some]
   show obind (d_impl_OrderText_1 2097153 wWth [p.fA,p.fB] true s) _ = _
   rw [i_clo1 hx1 (by decide) (by simp) (by omega),ob_some]
   have hz:=row_size hx1 (w:=wWth) (by decide) (by simp)
   have:=ih (s ++ [rowN (wWth,[p.fA,p.fB])]) ⟨fun y hy=>i1 y (by simp [hy]),fun y hy=>by
    rcases List.mem_append.1 hy with hy | hy
    · exact i2 y hy
    · rw [List.mem_singleton.1 hy]; exact Nat.le_trans hz (by omega),by simp; omega⟩
   rw [List.append_assoc] at this
   exact this
 · intro k s i hd hI
   obtain ⟨_,i2,i3⟩:=hI
   simp only [d_impl_OrderText_L3.eq_2]
   unfold d_impl_OrderText_L3_B
   rw [hd,cond_false]
   exact i_otL2 ki km kt (o:=s) ⟨i2,by simp at i3; omega⟩
end
theorem row_free {w:ByteArray} {n:List Int} (hw:(10:UInt8) ∉ w.data.toList) (h:∀ x ∈ n,0 ≤ x):(10:UInt8) ∉ (lineL w n).data.toList:=by
 rw [line_list]
 intro hm
 rcases List.mem_append.1 hm with hm | hm
 · exact hw hm
 · obtain ⟨l,hl,hm⟩:=List.mem_flatten.1 hm
   obtain ⟨m,hmm,rfl⟩:=List.mem_map.1 hl
   rcases List.mem_cons.1 hm with e | e
   · exact absurd e (by decide)
   · exact (numB_free (h m hmm)).2 e
theorem wrd_row {w:ByteArray} {l:List Int} (hw:(32:UInt8) ∉ w.data.toList) (hk:numOk l = true):wrd w l.length (lineL w l) = some l :=
 wrd_of (numOk_mem hk) (line_pts hw fun x hx=>(numOk_mem hk x hx).1)
theorem row_sz {w:ByteArray} {l:List Int} (hk:numOk l = true) (hw:w.size ≤ 7) (hl:l.length ≤ 7):(lineL w l).size ≤ 1048576:=by
 have:=line_size l w (numOk_mem hk)
 omega
theorem mach_items:∀ (xs:List Item) (last:Int) (r:Request) (i:Int),(last = 5 ∨ last = 6) → (∀ x ∈ xs,numOk (itmL x) = true) →
    mach emB (xs.map fun x=>rowL (wItm,itmL x)) last r i = (⟨r.fWay,r.fPallet,r.fClasses,r.fPairs,r.fTypes,r.fMaster,r.fItems ++ xs⟩,-1)
 | [],last,r,i,hl,_=>by
  rw [List.map_nil,mach,if_neg (by omega),if_pos rfl,List.append_nil]
 | x :: xs,last,r,i,hl,h=>by
  have hx:=h x (by simp)
  rw [List.map_cons,mach_yes (l:=rowL (wItm,itmL x)) (ptl_itm (row_sz hx (by decide) (by simp [itmL])) (wrd_row (l:=itmL x) (by decide) hx) r) (by rcases hl with rfl | rfl <;> rfl),mach_items xs 6 _ _ (.inr rfl) fun y hy=>h y (by simp [hy])]
  simp only [List.append_assoc,List.singleton_append]
  rfl
theorem mach_types {m:Int} {xs:List Item} (hm:numOk [m] = true) (hx:∀ x ∈ xs,numOk (itmL x) = true):∀ (ts:List Typ) (last:Int) (r:Request) (i:Int),(last = 2 ∨ last = 3 ∨ last = 4) → (∀ t ∈ ts,numOk (typL t) = true) →
    mach emB (ts.map (fun t=>rowL (wTyp,typL t)) ++ (rowL (wMas,[m]) :: xs.map fun x=>rowL (wItm,itmL x))) last r i = (⟨r.fWay,r.fPallet,r.fClasses,r.fPairs,r.fTypes ++ ts,m,r.fItems ++ xs⟩,-1)
 | [],last,r,i,hl,_=>by
  rw [List.map_nil,List.nil_append,mach_yes (l:=rowL (wMas,[m])) (ptl_mas (row_sz hm (by decide) (by simp)) (wrd_row (l:=[m]) (by decide) hm) r) (by rcases hl with rfl | rfl | rfl <;> rfl),mach_items xs 5 _ _ (.inl rfl) hx,List.append_nil]
  rfl
 | t :: ts,last,r,i,hl,h=>by
  have ht:=h t (by simp)
  rw [List.map_cons,List.cons_append,mach_yes (l:=rowL (wTyp,typL t)) (ptl_typ (row_sz ht (by decide) (by simp [typL])) (wrd_row (l:=typL t) (by decide) ht) r) (by rcases hl with rfl | rfl | rfl <;> rfl),mach_types hm hx ts 4 _ _ (.inr (.inr rfl)) fun y hy=>h y (by simp [hy])]
  simp only [List.append_assoc,List.singleton_append]
  rfl
theorem mach_pairs {m:Int} {xs:List Item} {ts:List Typ} (hm:numOk [m] = true) (hx:∀ x ∈ xs,numOk (itmL x) = true) (ht:∀ t ∈ ts,numOk (typL t) = true):∀ (ps:List Pair) (last:Int) (r:Request) (i:Int),(last = 2 ∨ last = 3) → (∀ p ∈ ps,numOk [p.fA,p.fB] = true) →
    mach emB (ps.map (fun p=>rowL (wWth,[p.fA,p.fB])) ++ (ts.map (fun t=>rowL (wTyp,typL t)) ++ (rowL (wMas,[m]) :: xs.map fun x=>rowL (wItm,itmL x)))) last r i = (⟨r.fWay,r.fPallet,r.fClasses,r.fPairs ++ ps,r.fTypes ++ ts,m,r.fItems ++ xs⟩,-1)
 | [],last,r,i,hl,_=>by
  rw [List.map_nil,List.nil_append,mach_types hm hx ts last r i (by omega) ht,List.append_nil]
 | p :: ps,last,r,i,hl,h=>by
  have hp:=h p (by simp)
  rw [List.map_cons,List.cons_append,mach_yes (l:=rowL (wWth,[p.fA,p.fB])) (ptl_wth (row_sz hp (by decide) (by simp)) (wrd_row (l:=[p.fA,p.fB]) (by decide) hp) r) (by rcases hl with rfl | rfl <;> rfl),mach_pairs hm hx ht ps 3 _ _ (.inr rfl) fun y hy=>h y (by simp [hy])]
  simp only [List.append_assoc,List.singleton_append]
  rfl
theorem rdM_otx {r:Request} (hw:inb r.fWay 0 1 = true) (hk:∀ p ∈ rowsM r,numOk p.2 = true) (hn:r.fPairs.length + (r.fTypes.length + r.fItems.length) ≤ 50):rdM (otxM r) = (r,-1):=by
 have hb:=inb_iff.1 hw
 have kp:numOk (palL r.fPallet) = true:=hk (wPal,_) (List.mem_append_left _ List.mem_cons_self)
 have kc:numOk [r.fClasses] = true:=hk (wCls,_) (List.mem_append_left _ (List.mem_cons_of_mem _ List.mem_cons_self))
 have km:numOk [r.fMaster] = true:=hk (wMas,_) (by simp [rowsM])
 have kr:∀ p ∈ r.fPairs,numOk [p.fA,p.fB] = true:=fun p hp=>hk (wWth,_) (by simp only [rowsM,List.mem_append,List.mem_map]; exact .inr (.inl ⟨p,hp,rfl⟩))
 have kt:∀ t ∈ r.fTypes,numOk (typL t) = true:=fun t ht=>hk (wTyp,_) (by simp only [rowsM,List.mem_append,List.mem_map]; exact .inr (.inr (.inl ⟨t,ht,rfl⟩)))
 have ki:∀ x ∈ r.fItems,numOk (itmL x) = true:=fun x hx=>hk (wItm,_) (by simp only [rowsM,List.mem_append,List.mem_cons,List.mem_map]; exact .inr (.inr (.inr (.inr ⟨x,hx,rfl⟩))))
 have w10:∀ p ∈ rowsM r,(10:UInt8) ∉ p.1.data.toList:=fun p hp=>by
  unfold rowsM at hp
  simp only [List.mem_append,List.mem_cons,List.not_mem_nil,or_false,List.mem_map] at hp
  rcases hp with (rfl | rfl) | ⟨_,_,rfl⟩ | ⟨_,_,rfl⟩ | rfl | ⟨_,_,rfl⟩
  · exact (by decide:(10:UInt8) ∉ wPal.data.toList)
  · exact (by decide:(10:UInt8) ∉ wCls.data.toList)
  · exact (by decide:(10:UInt8) ∉ wWth.data.toList)
  · exact (by decide:(10:UInt8) ∉ wTyp.data.toList)
  · exact (by decide:(10:UInt8) ∉ wMas.data.toList)
  · exact (by decide:(10:UInt8) ∉ wItm.data.toList)
 have ew:∃ w0:ByteArray,wayB r.fWay = w0 ++ nl1 ∧ (10:UInt8) ∉ w0.data.toList ∧ ptl R0 w0 = (0,⟨r.fWay,⟨0,0,0,0⟩,0,[],[],0,[]⟩):=by
  have:r.fWay = 0 ∨ r.fWay = 1:=by omega
  rcases this with e | e
  · exact ⟨wWF,by rw [e]; rfl,by decide,by rw [e]; unfold ptl; rw [if_pos rfl]; rfl⟩
  · exact ⟨wWN,by rw [e]; rfl,by decide,by rw [e]; unfold ptl; rw [if_neg (by decide),if_pos rfl]; rfl⟩
 obtain ⟨w0,e1,e2,e3⟩:=ew
 have hp:parts 10 (otxM r) = (w0 :: (rowsM r).map rowL) ++ [emB]:=by
  unfold parts
  have el:(otxM r).data.toList = ((w0.data.toList :: (rowsM r).map fun p=>(rowL p).data.toList).map fun x=>x ++ [10]).flatten:=by
   unfold otxM
   rw [hw,cond_true,otx_list _ _ hk,e1,app_l,List.map_cons,List.flatten_cons,List.map_map,List.map_map]
   congr 2
  rw [el,pts_lines _ fun x hx=>by
   rcases List.mem_cons.1 hx with rfl | hx
   · exact e2
   · obtain ⟨p,hp,rfl⟩:=List.mem_map.1 hx
     exact row_free (w10 p hp) fun y hy=>(numOk_mem (hk p hp) y hy).1]
  simp only [List.map_append,List.map_cons,List.map_nil,List.map_map]
  rfl
 have hlen:(rowsM r).length ≤ 55:=by simp [rowsM]; omega
 unfold rdM
 rw [hp,if_neg (by simp; omega),List.dropLast_concat]
 have:((w0 :: (rowsM r).map rowL) ++ [emB]).getLastD emB = emB:=by rw [List.getLastD_eq_getLast?,List.getLast?_concat]; rfl
 rw [this,mach_yes e3 rfl]
 simp only [rowsM,List.map_append,List.map_cons,List.map_nil,List.map_map,List.cons_append,List.nil_append]
 rw [mach_yes (l:=rowL (wPal,palL r.fPallet)) (ptl_pal (row_sz kp (by decide) (by simp [palL])) (wrd_row (l:=palL r.fPallet) (by decide) kp) _) rfl,mach_yes (l:=rowL (wCls,[r.fClasses])) (ptl_cls (row_sz kc (by decide) (by simp)) (wrd_row (l:=[r.fClasses]) (by decide) kc) _) rfl]
 exact mach_pairs km ki kt r.fPairs 2 _ _ (.inl rfl) kr
def inB (n lo hi:Int):Bool:=decide (lo ≤ n ∧ n ≤ hi)
theorem inB_iff {n lo hi:Int}:inB n lo hi = true ↔ lo ≤ n ∧ n ≤ hi:=by simp [inB]
theorem l1In_eq (fu:Nat) (n lo hi:Int):d_spec_l1In fu n lo hi = some (inB n lo hi):=by
 unfold d_spec_l1In inB
 by_cases h:n ≥ lo
 · rw [bif_true (by simpa using h)]
   have:lo ≤ n:=h
   simp [this]
 · rw [bif_false (by simpa using h)]
   have:¬ lo ≤ n:=h
   simp [this]
theorem in_eq (fu:Nat) (n lo hi:Int):d_impl_in fu n lo hi = some (inB n lo hi):=l1In_eq fu n lo hi
def palletB (p:Pallet):Bool:=inB p.fW 1 2000 && (inB p.fD 1 2000 && (inB p.fH 1 2000 && inB p.fGram 1 100000))
def boxB (p:Pallet) (b:Box):Bool:=inB b.fW 1 p.fW && (inB b.fD 1 p.fD && (inB b.fH 1 p.fH && inB b.fGram 1 p.fGram))
def boxesB (p:Pallet) (l:List Box):Bool:=palletB p && l.all (boxB p)
theorem implPalletOk_eq (fu:Nat) (p:Pallet):d_impl_PalletOk fu p = some (palletB p):=by
 unfold d_impl_PalletOk d_impl_isSide palletB
 simp only [in_eq,ob_some]
 cases inB p.fW 1 2000 <;> cases inB p.fD 1 2000 <;> cases inB p.fH 1 2000 <;> rfl
theorem boxesOk1_eq (fu:Nat) (b:Box) (p:Pallet):d_impl_BoxesOk_1 fu b p = some (!boxB p b):=by
 unfold d_impl_BoxesOk_1 boxB
 simp only [in_eq,ob_some]
 cases inB b.fW 1 p.fW <;> cases inB b.fD 1 p.fD <;> cases inB b.fH 1 p.fH <;> rfl
theorem containsBox_eq (fu:Nat) (l:List Box) (f:Box → Option Bool) (g:Box → Bool) (hg:∀ b,f b = some (g b)) (h:l.length ≤ 1048576) (hf:l.length < fu) :
    d_slices_ContainsFunc_impl_Box_impl_Box fu l f = some (l.any g):=by
 unfold d_slices_ContainsFunc_impl_Box_impl_Box d_slices_IndexFunc_impl_Box_impl_Box
 have key:∀ (m i n:Nat),l.length - i = m → i ≤ l.length → m < n → ∃ r,d_slices_IndexFunc_impl_Box_impl_Box_L1 fu l f n i = some r ∧ decide (r ≥ 0) = (l.drop i).any g:=by
  intro m
  induction m with
  | zero =>
   intro i n hm hi hn
   obtain ⟨n,rfl⟩:∃ k,n = k + 1:=⟨n - 1,by omega⟩
   rw [d_slices_IndexFunc_impl_Box_impl_Box_L1.eq_2]
   unfold d_slices_IndexFunc_impl_Box_impl_Box_L1_B
   rw [bif_false (by simp; omega),List.drop_eq_nil_of_le (by omega)]
   exact ⟨_,rfl,rfl⟩
  | succ m ih =>
   intro i n hm hi hn
   obtain ⟨n,rfl⟩:∃ k,n = k + 1:=⟨n - 1,by omega⟩
   have hlt:i < l.length:=by omega
   rw [d_slices_IndexFunc_impl_Box_impl_Box_L1.eq_2]
   unfold d_slices_IndexFunc_impl_Box_impl_Box_L1_B
   rw [bif_true (by simpa using hlt),ob_of (ix_at (List.getElem?_eq_getElem hlt)),hg,ob_some,List.drop_eq_getElem_cons hlt,List.any_cons]
   cases hgx:g l[i]
   · rw [bif_false rfl,w64_id (by omega) (by omega),Bool.false_or]
     have:=ih (i + 1) n (by omega) (by omega) (by omega)
     simpa using this
   · rw [bif_true rfl]
     exact ⟨_,rfl,by simp⟩
 obtain ⟨r,h1,h2⟩:=key l.length 0 fu (by omega) (by omega) hf
 have h1':d_slices_IndexFunc_impl_Box_impl_Box_L1 fu l f fu 0 = some r:=h1
 rw [h1',ob_some,h2]
 rfl
theorem implBoxesOk_eq (fu:Nat) (p:Pallet) (l:List Box) (h:l.length ≤ 1048576) (hf:l.length < fu):d_impl_BoxesOk fu p l = some (boxesB p l):=by
 unfold d_impl_BoxesOk boxesB
 rw [implPalletOk_eq,ob_some]
 cases palletB p
 · rfl
 rw [bif_true rfl,containsBox_eq fu l _ (fun b=>!boxB p b) (fun b=>boxesOk1_eq fu b p) h hf,ob_some,Bool.true_and]
 congr 1
 induction l with
 | nil=>rfl
 | cons x xs ih =>
  simp only [List.any_cons,List.all_cons,Bool.not_or,Bool.not_not]
  rw [ih (by simp at h; omega) (by simp at hf; omega)]
theorem bos_eq (p:Pallet) (l:List Box):boxesB p l = bosB p l:=by
 have e:∀ a b c:Int,inB a b c = inb a b c:=fun a b c=>Bool.eq_iff_iff.2 (by rw [inB_iff,inb_iff])
 have e2:boxB p = bokB p:=by funext b; unfold boxB bokB; simp only [e]
 unfold boxesB bosB palletB palB
 simp only [e,e2]
theorem mx_if (a b:Int):(if b > a then b else a) = mxI a b:=by unfold mxI; split <;> split <;> omega
theorem setx_nat {α:Type} (l:List α) (j:Nat) (a:α):setx l (j:Int) a = l.set j a:=by simp [setx]
theorem i_shJ2 {fu:Nat} {k8:List Shelf → Int → Option (List Shelf)} {x i:Int} {b:Box} {o:List Shelf} {j:Nat} {s:Shelf} (hs:o[j]? = some s) (hl:s.fList.length ≤ 1000000)
    (h1:-1000000000 ≤ s.fW + b.fW ∧ s.fW + b.fW ≤ 1000000000) (h2:-1000000000 ≤ s.fGram + b.fGram ∧ s.fGram + b.fGram ≤ 1000000000):d_impl_Shelves_J2 fu k8 x i b o (j:Int) = k8 (o.set j (shAdd s i b)) (w64 (x + 1)):=by
 unfold d_impl_Shelves_J2 d_impl_Shelves_J1
 rw [ix_nat,hs,ob_some,ap1 (by simp; omega),ob_some]
 simp only [ob_some,setx_nat,List.set_set,mx_if]
 rw [w64_id (n:=s.fW + b.fW) (by omega) (by omega),w64_id (n:=s.fGram + b.fGram) (by omega) (by omega)]
 rfl
theorem i_shelves {fu:Nat} (hfu:2097153 ≤ fu) (p:Pallet) (l:List Box) (hl:l.length < 20):d_impl_Shelves fu p l = some (shM p l):=by
 unfold d_impl_Shelves shM
 rw [implBoxesOk_eq fu p l (by omega) (by omega),ob_some,bos_eq]
 cases hb:bosB p l
 · rfl
 · rw [Bool.not_true,cond_false,cond_true]
   have key:=lpI l (fun n (o:List Int) i=>d_impl_Shelves_L2 fu p l n o i) (fun xs o=>obind (d_impl_SortDown fu (o ++ xs.map (·.fD))) fun x=>d_impl_Shelves_L1 fu p l x fu [] 0) (fun xs o=>o.length + xs.length ≤ 1000) (by omega) ?_ ?_ fu [] (by simp; omega) (by omega)
   · rw [key,List.nil_append,i_down hfu (by simp; omega),ob_some,List.length_map]
     have hsl:=srt_len (dnk (l.map (·.fD))) l.length
     have hsm:=fun x=>srt_mem (k:=dnk (l.map (·.fD))) (n:=l.length) (x:=x)
     generalize srt (dnk (l.map (·.fD))) l.length = S at hsl hsm ⊢
     refine lpI S (fun n (o:List Shelf) i=>d_impl_Shelves_L1 fu p l S n o i) (fun xs o=>some (xs.foldl (shS p l) o)) (fun xs o=>(∀ i ∈ xs,0 ≤ i ∧ i < l.length) ∧ (∀ s ∈ o,ShI p l.length s) ∧ ((o.map (·.fList)).flatten).length + xs.length ≤ 1000 ∧ o.length + xs.length ≤ 1000) (by omega) ?_ ?_ fu [] ⟨fun i hi=>(hsm i).1 hi,by simp,by simp; omega,by simp; omega⟩ (by omega)
     · intro n o i x xs hx hd hI ih
       obtain ⟨i1,i2,i3,i4⟩:=hI
       simp only [List.length_cons] at i3 i4
       have hxi:=i1 x (by simp)
       obtain ⟨hbx,b1,b2,b3,b4⟩:=bok_at hb hxi
       obtain ⟨p1,p2,p3,p4⟩:=pal_bd (bos_pal hb)
       have hflat:((shS p l o x).map (·.fList)).flatten = (o.map (·.fList)).flatten ++ [x]:=nxG_flat (fun s=>rfl) rfl
       have hlen:(shS p l o x).length ≤ o.length + 1:=nxG_len _ _ _ _
       have ih':=ih (shS p l o x) ⟨fun j hj=>i1 j (by simp [hj]),shS_all hb hxi i2,by rw [hflat,List.length_append,List.length_singleton]; omega,by omega⟩
       simp only [d_impl_Shelves_L1.eq_2]
       unfold d_impl_Shelves_L1_B
       rw [hd,cond_true,hx,ob_some,hbx,ob_some,List.foldl_cons,← ih']
       have hnew:∀ o':List Shelf,o'.length ≤ 1000 → d_impl_Shelves_J2 fu (fun o i=>d_impl_Shelves_L1 fu p l S n o i) i x (bxA l x) (o' ++ [zSh]) ((o'.length:Nat):Int) = d_impl_Shelves_L1 fu p l S n (o' ++ [shAdd zSh x (bxA l x)]) (w64 (i + 1)):=fun o' ho'=>by
        rw [i_shJ2 (s:=zSh) (by simp) (by simp [zSh]) (by simp [zSh]; omega) (by simp [zSh]; omega)]
        simp
       by_cases he:o = []
       · subst he
         rw [bif_true (by decide),ap1 (by simp),ob_some]
         exact hnew [] (by simp)
       · obtain ⟨s,e1,e2⟩:=last_at he
         have hp:=List.length_pos_iff.2 he
         have hsm':=List.mem_of_getLast? e1
         have hs:=i2 s hsm'
         have hsl':=flat_le (fun s:Shelf=>s.fList) o s hsm'
         have eS:shS p l o x = bif shFit p (bxA l x) s then o.set (o.length - 1) (shAdd s x (bxA l x)) else o ++ [shAdd zSh x (bxA l x)]:=nxG_some e1
         have e3:w64 ((o.length:Int) - 1) = ((o.length - 1:Nat):Int):=by rw [w64_id (by omega) (by omega)]; omega
         have e4:w64 (((o.length - 1:Nat):Int) + 1) = ((o.length:Nat):Int):=by rw [w64_id (by omega) (by omega)]; omega
         have e5:o[o.length - 1]? = some s:=by rw [← List.getLast?_eq_getElem?]; exact e1
         obtain ⟨s1,s2,s3,s4,s5,s6⟩:=hs
         rw [e3,e4,bif_false (by simp),ix_nat,e5,ob_some,w64_id (n:=s.fW + _) (by omega) (by omega),w64_id (n:=s.fGram + _) (by omega) (by omega),ap1 (by simp; omega),ob_some,eS]
         unfold shFit
         have c1:decide (s.fW + (bxA l x).fW > p.fW) = !decide (s.fW + (bxA l x).fW ≤ p.fW):=by
          by_cases h:s.fW + (bxA l x).fW ≤ p.fW <;> simp [h] <;> omega
         have c2:decide (s.fGram + (bxA l x).fGram > p.fGram) = !decide (s.fGram + (bxA l x).fGram ≤ p.fGram):=by
          by_cases h:s.fGram + (bxA l x).fGram ≤ p.fGram <;> simp [h] <;> omega
         rw [c1,c2,ob_some]
         have h1:=hnew o (by omega)
         have h2:d_impl_Shelves_J2 fu (fun o i=>d_impl_Shelves_L1 fu p l S n o i) i x (bxA l x) o ((o.length - 1:Nat):Int) = d_impl_Shelves_L1 fu p l S n (o.set (o.length - 1) (shAdd s x (bxA l x))) (w64 (i + 1)):=i_shJ2 e5 (by omega) (by omega) (by omega)
         cases decide (s.fW + (bxA l x).fW ≤ p.fW)
         · exact h1
         · cases decide (s.fGram + (bxA l x).fGram ≤ p.fGram)
           · exact h1
           · exact h2
     · intro n o i hd _
       simp only [d_impl_Shelves_L1.eq_2]
       unfold d_impl_Shelves_L1_B
       rw [hd,cond_false]; rfl
   · intro n o i x xs hx hd hI ih
     simp only [List.length_cons] at hI
     simp only [d_impl_Shelves_L2.eq_2]
     unfold d_impl_Shelves_L2_B
     rw [hd,cond_true,hx,ob_some,ap1 (by simp; omega),ob_some,ih _ (by simp; omega)]
     simp
   · intro n o i hd _
     simp only [d_impl_Shelves_L2.eq_2]
     unfold d_impl_Shelves_L2_B
     rw [hd,cond_false]; simp
theorem i_lyJ2 {fu:Nat} {k7:List Layer → Int → Option (List Layer)} {i:Int} {b:Shelf} {o:List Layer} {j:Nat} {s:Layer} (hs:o[j]? = some s) (hl:s.fShelves.length ≤ 1000000)
    (h1:-1000000000 ≤ s.fD + b.fD ∧ s.fD + b.fD ≤ 1000000000) (h2:-1000000000 ≤ s.fGram + b.fGram ∧ s.fGram + b.fGram ≤ 1000000000):d_impl_LayersOf_J2 fu k7 i b o (j:Int) = k7 (o.set j (lyAdd s i b)) (w64 (i + 1)):=by
 unfold d_impl_LayersOf_J2 d_impl_LayersOf_J1
 rw [ix_nat,hs,ob_some,ap1 (by simp; omega),ob_some]
 simp only [ob_some,setx_nat,List.set_set,mx_if]
 rw [w64_id (n:=s.fD + b.fD) (by omega) (by omega),w64_id (n:=s.fGram + b.fGram) (by omega) (by omega)]
 rfl
theorem containsShelf_eq (fu:Nat) (l:List Shelf) (f:Shelf → Option Bool) (g:Shelf → Bool) (hg:∀ b,f b = some (g b)) (h:l.length ≤ 1048576) (hf:l.length < fu) :
    d_slices_ContainsFunc_impl_Shelf_impl_Shelf fu l f = some (l.any g):=by
 unfold d_slices_ContainsFunc_impl_Shelf_impl_Shelf d_slices_IndexFunc_impl_Shelf_impl_Shelf
 have key:∀ (m i n:Nat),l.length - i = m → i ≤ l.length → m < n → ∃ r,d_slices_IndexFunc_impl_Shelf_impl_Shelf_L1 fu l f n i = some r ∧ decide (r ≥ 0) = (l.drop i).any g:=by
  intro m
  induction m with
  | zero =>
   intro i n hm hi hn
   obtain ⟨n,rfl⟩:∃ k,n = k + 1:=⟨n - 1,by omega⟩
   rw [d_slices_IndexFunc_impl_Shelf_impl_Shelf_L1.eq_2]
   unfold d_slices_IndexFunc_impl_Shelf_impl_Shelf_L1_B
   rw [bif_false (by simp; omega),List.drop_eq_nil_of_le (by omega)]
   exact ⟨_,rfl,rfl⟩
  | succ m ih =>
   intro i n hm hi hn
   obtain ⟨n,rfl⟩:∃ k,n = k + 1:=⟨n - 1,by omega⟩
   have hlt:i < l.length:=by omega
   rw [d_slices_IndexFunc_impl_Shelf_impl_Shelf_L1.eq_2]
   unfold d_slices_IndexFunc_impl_Shelf_impl_Shelf_L1_B
   rw [bif_true (by simpa using hlt),ob_of (ix_at (List.getElem?_eq_getElem hlt)),hg,ob_some,List.drop_eq_getElem_cons hlt,List.any_cons]
   cases hgx:g l[i]
   · rw [bif_false rfl,w64_id (by omega) (by omega),Bool.false_or]
     have:=ih (i + 1) n (by omega) (by omega) (by omega)
     simpa using this
   · rw [bif_true rfl]
     exact ⟨_,rfl,by simp⟩
 obtain ⟨r,h1,h2⟩:=key l.length 0 fu (by omega) (by omega) hf
 have h1':d_slices_IndexFunc_impl_Shelf_impl_Shelf_L1 fu l f fu 0 = some r:=h1
 rw [h1',ob_some,h2]
 rfl
theorem i_sho {fu:Nat} (p:Pallet) (l:List Shelf) (hl:l.length ≤ 1048576) (hf:l.length < fu):d_impl_ShelvesOk fu p l = some (palB p && l.all fun s=>okL p s.fD s.fH s.fGram):=by
 unfold d_impl_ShelvesOk
 have e:∀ a b c:Int,inB a b c = inb a b c:=fun a b c=>Bool.eq_iff_iff.2 (by rw [inB_iff,inb_iff])
 have ep:palletB p = palB p:=by unfold palletB palB; simp only [e]
 rw [implPalletOk_eq,ob_some,ep,containsShelf_eq fu l _ (fun s=>!okL p s.fD s.fH s.fGram) (fun s=>by
  unfold d_impl_ShelvesOk_1 okL
  simp only [in_eq,ob_some,e]
  cases inb s.fD 1 p.fD <;> cases inb s.fH 1 p.fH <;> rfl) hl hf,ob_some]
 cases palB p
 · rfl
 · rw [cond_true,Bool.true_and]
   congr 1
   rw [Bool.eq_iff_iff]
   simp
theorem i_layers {fu:Nat} (hfu:2097153 ≤ fu) {p:Pallet} (hp:palB p = true) {l:List Shelf} (hb:OkS p l) (hl:l.length ≤ 1000):d_impl_LayersOf fu p l = some (lyM p l):=by
 unfold d_impl_LayersOf lyM
 rw [i_sho p l (by omega) (by omega),hp,okS_b hb,ob_some,Bool.and_self,Bool.not_true,cond_false]
 obtain ⟨p1,p2,p3,p4⟩:=pal_bd hp
 refine lpNI (l.length:Int) (fun n (o:List Layer) i=>d_impl_LayersOf_L1 fu p l n o i) (fun xs o=>some (xs.foldl (lyS p l) o)) (fun xs o=>(∀ s ∈ o,LyI p l.length s) ∧ ((o.map (·.fShelves)).flatten).length + xs.length ≤ 1000 ∧ o.length + xs.length ≤ 1000) (by omega) ?_ ?_ l.length fu [] 0 (by omega) (by omega) (by omega) ⟨by simp,by simp [ints_len]; omega,by simp [ints_len]; omega⟩
 · intro n o i xs x0 x1 hd hI ih
   obtain ⟨i2,i3,i4⟩:=hI
   simp only [List.length_cons] at i3 i4
   obtain ⟨hbx,b1,b2,b3,_⟩:=shA_at hb ⟨x0,x1⟩
   have hflat:((lyS p l o i).map (·.fShelves)).flatten = (o.map (·.fShelves)).flatten ++ [i]:=nxG_flat (fun s=>rfl) rfl
   have hlen:(lyS p l o i).length ≤ o.length + 1:=nxG_len _ _ _ _
   have ih':=ih (lyS p l o i) ⟨lyS_all hb ⟨x0,x1⟩ i2,by rw [hflat,List.length_append,List.length_singleton]; omega,by omega⟩
   simp only [d_impl_LayersOf_L1.eq_2]
   unfold d_impl_LayersOf_L1_B
   rw [hd,cond_true,hbx,ob_some,List.foldl_cons,← ih']
   have hnew:∀ o':List Layer,o'.length ≤ 1000 → d_impl_LayersOf_J2 fu (fun o i=>d_impl_LayersOf_L1 fu p l n o i) i (shA l i) (o' ++ [zLy]) ((o'.length:Nat):Int) = d_impl_LayersOf_L1 fu p l n (o' ++ [lyAdd zLy i (shA l i)]) (w64 (i + 1)):=fun o' ho'=>by
    rw [i_lyJ2 (s:=zLy) (by simp) (by simp [zLy]) (by simp [zLy]; omega) (by simp [zLy]; omega)]
    simp
   by_cases he:o = []
   · subst he
     rw [bif_true (by decide),ap1 (by simp),ob_some]
     exact hnew [] (by simp)
   · obtain ⟨s,e1,e2⟩:=last_at he
     have hp:=List.length_pos_iff.2 he
     have hsm':=List.mem_of_getLast? e1
     have hs:=i2 s hsm'
     have hsl':=flat_le (fun s:Layer=>s.fShelves) o s hsm'
     have eS:lyS p l o i = bif lyFit p (shA l i) s then o.set (o.length - 1) (lyAdd s i (shA l i)) else o ++ [lyAdd zLy i (shA l i)]:=nxG_some e1
     have e3:w64 ((o.length:Int) - 1) = ((o.length - 1:Nat):Int):=by rw [w64_id (by omega) (by omega)]; omega
     have e4:w64 (((o.length - 1:Nat):Int) + 1) = ((o.length:Nat):Int):=by rw [w64_id (by omega) (by omega)]; omega
     have e5:o[o.length - 1]? = some s:=by rw [← List.getLast?_eq_getElem?]; exact e1
     obtain ⟨s1,s2,s4,s5,s6⟩:=hs
     rw [e3,e4,bif_false (by simp),ix_nat,e5,ob_some,w64_id (n:=s.fD + _) (by omega) (by omega),w64_id (n:=s.fGram + _) (by omega) (by omega),ap1 (by simp; omega),ob_some,eS]
     unfold lyFit
     have c1:decide (s.fD + (shA l i).fD > p.fD) = !decide (s.fD + (shA l i).fD ≤ p.fD):=by
      by_cases h:s.fD + (shA l i).fD ≤ p.fD <;> simp [h] <;> omega
     have c2:decide (s.fGram + (shA l i).fGram > p.fGram) = !decide (s.fGram + (shA l i).fGram ≤ p.fGram):=by
      by_cases h:s.fGram + (shA l i).fGram ≤ p.fGram <;> simp [h] <;> omega
     rw [c1,c2,ob_some]
     have h1:=hnew o (by omega)
     have h2:d_impl_LayersOf_J2 fu (fun o i=>d_impl_LayersOf_L1 fu p l n o i) i (shA l i) o ((o.length - 1:Nat):Int) = d_impl_LayersOf_L1 fu p l n (o.set (o.length - 1) (lyAdd s i (shA l i))) (w64 (i + 1)):=i_lyJ2 e5 (by omega) (by omega) (by omega)
     cases decide (s.fD + (shA l i).fD ≤ p.fD)
     · exact h1
     · cases decide (s.fGram + (shA l i).fGram ≤ p.fGram)
       · exact h1
       · exact h2
 · intro n o i hd _
   simp only [d_impl_LayersOf_L1.eq_2]
   unfold d_impl_LayersOf_L1_B
   rw [hd,cond_false]; rfl
theorem i_ldJ2 {fu:Nat} {k7:List Load → Int → Option (List Load)} {i:Int} {b:Layer} {o:List Load} {j:Nat} {s:Load} (hs:o[j]? = some s) (hl:s.fLayers.length ≤ 1000000)
    (h1:-1000000000 ≤ s.fH + b.fH ∧ s.fH + b.fH ≤ 1000000000) (h2:-1000000000 ≤ s.fGram + b.fGram ∧ s.fGram + b.fGram ≤ 1000000000):d_impl_LoadsOf_J2 fu k7 i b o (j:Int) = k7 (o.set j (ldAdd s i b)) (w64 (i + 1)):=by
 unfold d_impl_LoadsOf_J2 d_impl_LoadsOf_J1
 rw [ix_nat,hs,ob_some,ap1 (by simp; omega),ob_some]
 simp only [ob_some,setx_nat,List.set_set,mx_if]
 rw [w64_id (n:=s.fH + b.fH) (by omega) (by omega),w64_id (n:=s.fGram + b.fGram) (by omega) (by omega)]
 rfl
theorem containsLayer_eq (fu:Nat) (l:List Layer) (f:Layer → Option Bool) (g:Layer → Bool) (hg:∀ b,f b = some (g b)) (h:l.length ≤ 1048576) (hf:l.length < fu) :
    d_slices_ContainsFunc_impl_Layer_impl_Layer fu l f = some (l.any g):=by
 unfold d_slices_ContainsFunc_impl_Layer_impl_Layer d_slices_IndexFunc_impl_Layer_impl_Layer
 have key:∀ (m i n:Nat),l.length - i = m → i ≤ l.length → m < n → ∃ r,d_slices_IndexFunc_impl_Layer_impl_Layer_L1 fu l f n i = some r ∧ decide (r ≥ 0) = (l.drop i).any g:=by
  intro m
  induction m with
  | zero =>
   intro i n hm hi hn
   obtain ⟨n,rfl⟩:∃ k,n = k + 1:=⟨n - 1,by omega⟩
   rw [d_slices_IndexFunc_impl_Layer_impl_Layer_L1.eq_2]
   unfold d_slices_IndexFunc_impl_Layer_impl_Layer_L1_B
   rw [bif_false (by simp; omega),List.drop_eq_nil_of_le (by omega)]
   exact ⟨_,rfl,rfl⟩
  | succ m ih =>
   intro i n hm hi hn
   obtain ⟨n,rfl⟩:∃ k,n = k + 1:=⟨n - 1,by omega⟩
   have hlt:i < l.length:=by omega
   rw [d_slices_IndexFunc_impl_Layer_impl_Layer_L1.eq_2]
   unfold d_slices_IndexFunc_impl_Layer_impl_Layer_L1_B
   rw [bif_true (by simpa using hlt),ob_of (ix_at (List.getElem?_eq_getElem hlt)),hg,ob_some,List.drop_eq_getElem_cons hlt,List.any_cons]
   cases hgx:g l[i]
   · rw [bif_false rfl,w64_id (by omega) (by omega),Bool.false_or]
     have:=ih (i + 1) n (by omega) (by omega) (by omega)
     simpa using this
   · rw [bif_true rfl]
     exact ⟨_,rfl,by simp⟩
 obtain ⟨r,h1,h2⟩:=key l.length 0 fu (by omega) (by omega) hf
 have h1':d_slices_IndexFunc_impl_Layer_impl_Layer_L1 fu l f fu 0 = some r:=h1
 rw [h1',ob_some,h2]
 rfl
theorem i_sto {fu:Nat} (p:Pallet) (l:List Layer) (hl:l.length ≤ 1048576) (hf:l.length < fu):d_impl_StacksOk fu p l = some (palB p && l.all fun s=>okL p s.fD s.fH s.fGram):=by
 unfold d_impl_StacksOk
 have e:∀ a b c:Int,inB a b c = inb a b c:=fun a b c=>Bool.eq_iff_iff.2 (by rw [inB_iff,inb_iff])
 have ep:palletB p = palB p:=by unfold palletB palB; simp only [e]
 rw [implPalletOk_eq,ob_some,ep,containsLayer_eq fu l _ (fun s=>!okL p s.fD s.fH s.fGram) (fun s=>by
  unfold d_impl_StacksOk_1 okL
  simp only [in_eq,ob_some,e]
  cases inb s.fD 1 p.fD <;> cases inb s.fH 1 p.fH <;> rfl) hl hf,ob_some]
 cases palB p
 · rfl
 · rw [cond_true,Bool.true_and]
   congr 1
   rw [Bool.eq_iff_iff]
   simp
theorem i_loads {fu:Nat} (hfu:2097153 ≤ fu) {p:Pallet} (hp:palB p = true) {l:List Layer} (hb:OkY p l) (hl:l.length ≤ 1000):d_impl_LoadsOf fu p l = some (ldM p l):=by
 unfold d_impl_LoadsOf ldM
 rw [i_sto p l (by omega) (by omega),hp,okY_b hb,ob_some,Bool.and_self,Bool.not_true,cond_false]
 obtain ⟨p1,p2,p3,p4⟩:=pal_bd hp
 refine lpNI (l.length:Int) (fun n (o:List Load) i=>d_impl_LoadsOf_L1 fu p l n o i) (fun xs o=>some (xs.foldl (ldS p l) o)) (fun xs o=>(∀ s ∈ o,LdI p l.length s) ∧ ((o.map (·.fLayers)).flatten).length + xs.length ≤ 1000 ∧ o.length + xs.length ≤ 1000) (by omega) ?_ ?_ l.length fu [] 0 (by omega) (by omega) (by omega) ⟨by simp,by simp [ints_len]; omega,by simp [ints_len]; omega⟩
 · intro n o i xs x0 x1 hd hI ih
   obtain ⟨i2,i3,i4⟩:=hI
   simp only [List.length_cons] at i3 i4
   obtain ⟨hbx,b1,b2,b3,_⟩:=lyA_at hb ⟨x0,x1⟩
   have hflat:((ldS p l o i).map (·.fLayers)).flatten = (o.map (·.fLayers)).flatten ++ [i]:=nxG_flat (fun s=>rfl) rfl
   have hlen:(ldS p l o i).length ≤ o.length + 1:=nxG_len _ _ _ _
   have ih':=ih (ldS p l o i) ⟨ldS_all hb ⟨x0,x1⟩ i2,by rw [hflat,List.length_append,List.length_singleton]; omega,by omega⟩
   simp only [d_impl_LoadsOf_L1.eq_2]
   unfold d_impl_LoadsOf_L1_B
   rw [hd,cond_true,hbx,ob_some,List.foldl_cons,← ih']
   have hnew:∀ o':List Load,o'.length ≤ 1000 → d_impl_LoadsOf_J2 fu (fun o i=>d_impl_LoadsOf_L1 fu p l n o i) i (lyA l i) (o' ++ [zLd]) ((o'.length:Nat):Int) = d_impl_LoadsOf_L1 fu p l n (o' ++ [ldAdd zLd i (lyA l i)]) (w64 (i + 1)):=fun o' ho'=>by
    rw [i_ldJ2 (s:=zLd) (by simp) (by simp [zLd]) (by simp [zLd]; omega) (by simp [zLd]; omega)]
    simp
   by_cases he:o = []
   · subst he
     rw [bif_true (by decide),ap1 (by simp),ob_some]
     exact hnew [] (by simp)
   · obtain ⟨s,e1,e2⟩:=last_at he
     have hp:=List.length_pos_iff.2 he
     have hsm':=List.mem_of_getLast? e1
     have hs:=i2 s hsm'
     have hsl':=flat_le (fun s:Load=>s.fLayers) o s hsm'
     have eS:ldS p l o i = bif ldFit p (lyA l i) s then o.set (o.length - 1) (ldAdd s i (lyA l i)) else o ++ [ldAdd zLd i (lyA l i)]:=nxG_some e1
     have e3:w64 ((o.length:Int) - 1) = ((o.length - 1:Nat):Int):=by rw [w64_id (by omega) (by omega)]; omega
     have e4:w64 (((o.length - 1:Nat):Int) + 1) = ((o.length:Nat):Int):=by rw [w64_id (by omega) (by omega)]; omega
     have e5:o[o.length - 1]? = some s:=by rw [← List.getLast?_eq_getElem?]; exact e1
     obtain ⟨s1,s2,s4,s5⟩:=hs
     rw [e3,e4,bif_false (by simp),ix_nat,e5,ob_some,w64_id (n:=s.fH + _) (by omega) (by omega),w64_id (n:=s.fGram + _) (by omega) (by omega),ap1 (by simp; omega),ob_some,eS]
     unfold ldFit
     have c1:decide (s.fH + (lyA l i).fH > p.fH) = !decide (s.fH + (lyA l i).fH ≤ p.fH):=by
      by_cases h:s.fH + (lyA l i).fH ≤ p.fH <;> simp [h] <;> omega
     have c2:decide (s.fGram + (lyA l i).fGram > p.fGram) = !decide (s.fGram + (lyA l i).fGram ≤ p.fGram):=by
      by_cases h:s.fGram + (lyA l i).fGram ≤ p.fGram <;> simp [h] <;> omega
     rw [c1,c2,ob_some]
     have h1:=hnew o (by omega)
     have h2:d_impl_LoadsOf_J2 fu (fun o i=>d_impl_LoadsOf_L1 fu p l n o i) i (lyA l i) o ((o.length - 1:Nat):Int) = d_impl_LoadsOf_L1 fu p l n (o.set (o.length - 1) (ldAdd s i (lyA l i))) (w64 (i + 1)):=i_ldJ2 e5 (by omega) (by omega) (by omega)
     cases decide (s.fH + (lyA l i).fH ≤ p.fH)
     · exact h1
     · cases decide (s.fGram + (lyA l i).fGram ≤ p.fGram)
       · exact h1
       · exact h2
 · intro n o i hd _
   simp only [d_impl_LoadsOf_L1.eq_2]
   unfold d_impl_LoadsOf_L1_B
   rw [hd,cond_false]; rfl
theorem i_spotsOf {fu:Nat} (hfu:2097153 ≤ fu) (p:Pallet) (l:List Box) (hl:l.length < 20):d_impl_SpotsOf fu p l = some (spM p l):=by
 unfold d_impl_SpotsOf spM
 rw [implBoxesOk_eq fu p l (by omega) (by omega),ob_some,bos_eq]
 cases hb:bosB p l
 · rfl
 · obtain ⟨a1,a2,a3⟩:=shM_all hb
   have hS:=okS_sh hb
   obtain ⟨y1,y2,y3⟩:=lyM_all hS
   have hY:=okY_ly hS
   obtain ⟨d1,d2,d3⟩:=ldM_all hY
   have hpb:=bos_pal hb
   obtain ⟨q1,q2,q3,q4⟩:=pal_bd hpb
   rw [Bool.not_true,cond_false,cond_true,i_shelves hfu p l hl,ob_some,i_layers hfu hpb hS (by omega),ob_some,mk_some (by omega),ob_some,i_loads hfu hpb hY (by omega),ob_some]
   have f1:∀ s ∈ shM p l,s.fList.length ≤ 1000:=fun s hs=>by
    have:=flat_le (fun s:Shelf=>s.fList) _ s hs
    rw [a2,srt_len] at this; omega
   have f2:∀ s ∈ lyM p (shM p l),s.fShelves.length ≤ 1000:=fun s hs=>by
    have:=flat_le (fun s:Layer=>s.fShelves) _ s hs
    rw [y2,ints_len] at this; omega
   have f3:∀ s ∈ ldM p (lyM p (shM p l)),s.fLayers.length ≤ 1000:=fun s hs=>by
    have:=flat_le (fun s:Load=>s.fLayers) _ s hs
    rw [d2,ints_len] at this; omega
   generalize ldM p (lyM p (shM p l)) = ld at d1 d3 f3 ⊢
   generalize lyM p (shM p l) = ly at y1 y3 hY d1 d3 f2 ⊢
   generalize shM p l = sh at a1 a3 hS y1 y3 f1 ⊢
   have L4:=lpNI (ld.length:Int) (fun n (out:List Spot) o=>d_impl_SpotsOf_L4 fu l sh ly ld n out o) (fun os out=>some (spO l sh ly ld os out)) (fun os out=>out.length = l.length) (by omega) ?_ ?_ ld.length fu (List.replicate l.length zSp) 0 (by omega) (by omega) (by omega) (by simp)
   · exact L4
   · intro n out o os o0 o1 hd hI ih
     obtain ⟨x,hx⟩:=ix_in (l:=ld) o0 o1
     have ex:ldA ld o = x:=by unfold ldA; rw [hx]; rfl
     have hxm:=d1 x (ix_mem hx)
     have hxl:=f3 x (ix_mem hx)
     simp only [d_impl_SpotsOf_L4.eq_2]
     unfold d_impl_SpotsOf_L4_B
     rw [hd,cond_true,hx,ob_some]
     have L3:=lpI x.fLayers (fun m (s:List Spot × Int) i=>d_impl_SpotsOf_L3 fu (d_impl_SpotsOf_L4 fu l sh ly ld n) l sh ly o x m s.1 s.2 i) (fun is s=>d_impl_SpotsOf_L4 fu l sh ly ld n (spY l sh ly o is s).1 (w64 (o + 1))) (fun is s=>s.1.length = l.length ∧ (∀ i ∈ is,0 ≤ i ∧ i < ly.length) ∧ 0 ≤ s.2 ∧ s.2 + 2000 * is.length ≤ 2000000) (by omega) ?_ ?_ fu (out,0) ⟨hI,hxm.inn,by simp,by simp; omega⟩ (by omega)
     · refine L3.trans ?_
       rw [ih _ (by rw [spY_len]; exact hI)]
       simp only [spO,List.foldl_cons,ex]
     · intro m ⟨out,z⟩ i j is hj hd hI ih
       obtain ⟨i1,i2,i3,i4⟩:out.length = l.length ∧ (∀ i ∈ j :: is,0 ≤ i ∧ i < ly.length) ∧ 0 ≤ z ∧ z + 2000 * ((j :: is).length:Int) ≤ 2000000:=hI
       simp only [List.length_cons] at i4
       obtain ⟨hly,t1,t2,t3,hmem⟩:=lyA_at hY (i2 j (by simp))
       have hyi:=y1 _ hmem
       have hyl:=f2 _ hmem
       simp only [d_impl_SpotsOf_L3.eq_2]
       unfold d_impl_SpotsOf_L3_B
       rw [hd,cond_true,hj,ob_some,hly,ob_some]
       have L2:=lpI (lyA ly j).fShelves (fun q (s:List Spot × Int) k=>d_impl_SpotsOf_L2 fu (d_impl_SpotsOf_L3 fu (d_impl_SpotsOf_L4 fu l sh ly ld n) l sh ly o x m) l sh ly o z i j (lyA ly j) q s.1 s.2 k) (fun ks s=>d_impl_SpotsOf_L3 fu (d_impl_SpotsOf_L4 fu l sh ly ld n) l sh ly o x m (spS l sh o z ks s).1 (w64 (z + (lyA ly j).fH)) (w64 (i + 1))) (fun ks s=>s.1.length = l.length ∧ (∀ i ∈ ks,0 ≤ i ∧ i < sh.length) ∧ 0 ≤ s.2 ∧ s.2 + 2000 * ks.length ≤ 2000000) (by omega) ?_ ?_ fu (out,0) ⟨i1,hyi.inn,by simp,by simp; omega⟩ (by omega)
       · refine L2.trans ?_
         rw [w64_id (n:=z + _) (by omega) (by omega)]
         exact ih ((spS l sh o z (lyA ly j).fShelves (out,0)).1,z + (lyA ly j).fH) ⟨by rw [spS_len]; exact i1,fun i hi=>i2 i (by simp [hi]),by simp; omega,by simp; omega⟩
       · intro q ⟨out,y⟩ k b ks hb2 hd hI ih
         obtain ⟨i1,i2,i3,i4⟩:out.length = l.length ∧ (∀ i ∈ b :: ks,0 ≤ i ∧ i < sh.length) ∧ 0 ≤ y ∧ y + 2000 * ((b :: ks).length:Int) ≤ 2000000:=hI
         simp only [List.length_cons] at i4
         obtain ⟨hsh,u1,u2,u3,hmem2⟩:=shA_at hS (i2 b (by simp))
         have hsi:=a1 _ hmem2
         have hsl:=f1 _ hmem2
         simp only [d_impl_SpotsOf_L2.eq_2]
         unfold d_impl_SpotsOf_L2_B
         rw [hd,cond_true,hb2,ob_some,hsh,ob_some]
         have L1:=lpI (shA sh b).fList (fun q' (s:List Spot × Int) k'=>d_impl_SpotsOf_L1 fu (d_impl_SpotsOf_L2 fu (d_impl_SpotsOf_L3 fu (d_impl_SpotsOf_L4 fu l sh ly ld n) l sh ly o x m) l sh ly o z i j (lyA ly j) q) l sh o z y k b (shA sh b) q' s.1 s.2 k') (fun bs s=>d_impl_SpotsOf_L2 fu (d_impl_SpotsOf_L3 fu (d_impl_SpotsOf_L4 fu l sh ly ld n) l sh ly o x m) l sh ly o z i j (lyA ly j) q (spB l o y z bs s).1 (w64 (y + (shA sh b).fD)) (w64 (k + 1))) (fun bs s=>s.1.length = l.length ∧ (∀ i ∈ bs,0 ≤ i ∧ i < l.length) ∧ 0 ≤ s.2 ∧ s.2 + 2000 * bs.length ≤ 2000000) (by omega) ?_ ?_ fu (out,0) ⟨i1,hsi.inn,by simp,by simp; omega⟩ (by omega)
         · refine L1.trans ?_
           rw [w64_id (n:=y + _) (by omega) (by omega)]
           exact ih ((spB l o y z (shA sh b).fList (out,0)).1,y + (shA sh b).fD) ⟨by rw [spB_len]; exact i1,fun i hi=>i2 i (by simp [hi]),by simp; omega,by simp; omega⟩
         · intro q' ⟨out,x'⟩ k' c bs hc hd hI ih
           obtain ⟨i1,i2,i3,i4⟩:out.length = l.length ∧ (∀ i ∈ c :: bs,0 ≤ i ∧ i < l.length) ∧ 0 ≤ x' ∧ x' + 2000 * ((c :: bs).length:Int) ≤ 2000000:=hI
           simp only [List.length_cons] at i4
           have hcr:=i2 c (by simp)
           obtain ⟨hbx,v1,v2,v3,v4⟩:=bok_at hb hcr
           obtain ⟨sp,hsp⟩:=ix_in (l:=out) hcr.1 (by omega)
           simp only [d_impl_SpotsOf_L1.eq_2]
           unfold d_impl_SpotsOf_L1_B
           rw [hd,cond_true,hc,ob_some,hsp,ob_some,hbx,ob_some,w64_id (n:=x' + _) (by omega) (by omega)]
           exact ih (setx out c ⟨o,x',y,z⟩,x' + (bxA l c).fW) ⟨by rw [setx_len']; exact i1,fun i hi=>i2 i (by simp [hi]),by simp; omega,by simp; omega⟩
         · intro q' ⟨out,x'⟩ k' hd _
           simp only [d_impl_SpotsOf_L1.eq_2]
           unfold d_impl_SpotsOf_L1_B
           rw [hd,cond_false,hsh,ob_some]; rfl
       · intro q ⟨out,y⟩ k hd _
         simp only [d_impl_SpotsOf_L2.eq_2]
         unfold d_impl_SpotsOf_L2_B
         rw [hd,cond_false,hly,ob_some]; rfl
     · intro m ⟨out,z⟩ i hd _
       simp only [d_impl_SpotsOf_L3.eq_2]
       unfold d_impl_SpotsOf_L3_B
       rw [hd,cond_false]; rfl
   · intro n out o hd _
     simp only [d_impl_SpotsOf_L4.eq_2]
     unfold d_impl_SpotsOf_L4_B
     rw [hd,cond_false]; rfl
theorem bxs_few {r:Request} {k:Int} (h:0 ≤ k ∧ k < (grpM r).length):(bxsK r k).length ≤ 12:=by
 rw [bxs_eq h,List.length_map]
 exact crtK_len k
theorem i_plan {fu:Nat} {r:Request} (h:Sm fu r):d_impl_PlanOf fu r = some (plnM r):=by
 have hfu:=h.fu
 have hg:=(grpM_ok r).1
 have hcl:=crtL_len r
 unfold d_impl_PlanOf plnM
 rw [i_sound h,ob_some]
 cases hc:clsM r == 0
 · rfl
 · have hz:clsM r = 0:=by simpa using hc
   rw [Bool.not_true,cond_false,cond_true,i_crt h,ob_some,i_grp h,ob_some]
   have L3:=lpNI ((grpM r).length:Int) (fun n (s:List Spot × Int) k=>d_impl_PlanOf_L3 fu r (crtL r) (grpM r) n s.1 s.2 k) (fun ks s=>some ((⟨crtL r,(ks.foldl (plS r) s).1⟩:Plan),true)) (fun ks s=>(∀ k ∈ ks,0 ≤ k ∧ k < (grpM r).length) ∧ s.1.length + 48 * ks.length ≤ 1000 ∧ 0 ≤ s.2 ∧ s.2 + 1000000 * ks.length ≤ 10000000) (by omega) ?_ ?_ (grpM r).length fu ([],0) 0 (by omega) (by omega) (by omega) ⟨fun k hk=>by have:=ints_mem.1 hk; omega,by simp [ints_len]; omega,by simp,by simp [ints_len]; omega⟩
   · exact L3
   · intro n ⟨sp,base⟩ k ks k0 k1 hd hI ih
     obtain ⟨i1,i2,i3,i4⟩:(∀ j ∈ k :: ks,0 ≤ j ∧ j < (grpM r).length) ∧ sp.length + 48 * (k :: ks).length ≤ 1000 ∧ 0 ≤ base ∧ base + 1000000 * ((k :: ks).length:Int) ≤ 10000000:=hI
     simp only [List.length_cons] at i2 i4
     simp only [d_impl_PlanOf_L3.eq_2]
     unfold d_impl_PlanOf_L3_B
     rw [hd,cond_true]
     have L2:=lpI (crtL r) (fun m (bs:List Box) i=>d_impl_PlanOf_L2 fu (d_impl_PlanOf_L3 fu r (crtL r) (grpM r) n) r (crtL r) sp base k m bs i) (fun cs bs=>obind (d_impl_SpotsOf fu r.fPallet (bs ++ (cs.filter fun c=>c.fGroup == k).map (boxM r))) fun x=>obind (d_impl_Pallets fu x) fun y=>d_impl_PlanOf_L1 fu (d_impl_PlanOf_L3 fu r (crtL r) (grpM r) n) base k x y fu sp 0) (fun cs bs=>bs.length + cs.length ≤ 48 ∧ ∀ c ∈ cs,c.fUnits.length ≤ 12) (by omega) ?_ ?_ fu [] ⟨by simpa using hcl,fun c hc=>crt_units hc⟩ (by omega)
     · refine L2.trans ?_
       have hbl:=bxs_len r k
       have hbf:=bxs_few (r:=r) (k:=k) ⟨k0,k1⟩
       rw [List.nil_append,show ((crtL r).filter fun c=>c.fGroup == k).map (boxM r) = bxsK r k from rfl,i_spotsOf hfu _ _ (by omega),ob_some]
       have hsl:=spM_len (bxs_ok hz ⟨k0,k1⟩)
       have hpb:=palM_bd (spM r.fPallet (bxsK r k))
       have hps:∀ s ∈ spM r.fPallet (bxsK r k),s ∈ spM r.fPallet (bxsK r k):=fun _ h=>h
       have ih':=ih (plS r (sp,base) k) ⟨fun j hj=>i1 j (by simp [hj]),by simp [plS]; omega,by simp [plS]; omega,by simp [plS]; omega⟩
       rw [List.foldl_cons,← ih']
       have hS:=i_pals (fu:=fu) (l:=spM r.fPallet (bxsK r k)) (by omega) (by omega)
       have hwf:∀ s ∈ spM r.fPallet (bxsK r k),w64 (s.fPallet + base) = s.fPallet + base:=by
        intro s hs
        have:=sp_pal (p:=r.fPallet) (l:=bxsK r k) (by omega) s hs
        exact w64_id (by omega) (by omega)
       generalize hSP:spM r.fPallet (bxsK r k) = S at hsl hpb hS hwf ⊢
       rw [hS,ob_some]
       have L1:=lpI S (fun m (o:List Spot) i=>d_impl_PlanOf_L1 fu (d_impl_PlanOf_L3 fu r (crtL r) (grpM r) n) base k S (palM S) m o i) (fun xs o=>d_impl_PlanOf_L3 fu r (crtL r) (grpM r) n (o ++ xs.map (fun t=>⟨t.fPallet + base,t.fX,t.fY,t.fZ⟩)) (base + palM S) (w64 (k + 1))) (fun xs o=>o.length + xs.length ≤ 1000 ∧ ∀ s ∈ xs,w64 (s.fPallet + base) = s.fPallet + base) (by omega) ?_ ?_ fu sp ⟨by omega,hwf⟩ (by omega)
       · refine L1.trans ?_
         simp only [plS,hSP]
       · intro m o i x xs hx hd hI ih
         obtain ⟨j1,j2⟩:=hI
         simp only [List.length_cons] at j1
         simp only [d_impl_PlanOf_L1.eq_2]
         unfold d_impl_PlanOf_L1_B
         rw [hd,cond_true,hx,ob_some,j2 x (by simp),ap1 (by simp; omega),ob_some,ih _ ⟨by simp; omega,fun s hs=>j2 s (by simp [hs])⟩]
         simp
       · intro m o i hd hI
         simp only [d_impl_PlanOf_L1.eq_2]
         unfold d_impl_PlanOf_L1_B
         rw [hd,cond_false,w64_id (n:=base + _) (by omega) (by omega)]
         simp
     · intro m bs i c cs hx hd hI ih
       obtain ⟨j1,j2⟩:=hI
       simp only [List.length_cons] at j1
       have hcu:=j2 c (by simp)
       simp only [d_impl_PlanOf_L2.eq_2]
       unfold d_impl_PlanOf_L2_B d_impl_PlanOf_J1
       rw [hd,cond_true,hx,ob_some,i_boxM h c (by omega),ob_some,ap1 (by simp; omega),ob_some,ih _ ⟨by simp; omega,fun c hc=>j2 c (by simp [hc])⟩,ih _ ⟨by omega,fun c hc=>j2 c (by simp [hc])⟩,List.filter_cons]
       cases c.fGroup == k <;> simp
     · intro m bs i hd _
       simp only [d_impl_PlanOf_L2.eq_2]
       unfold d_impl_PlanOf_L2_B
       rw [hd,cond_false]; simp
   · intro n ⟨sp,base⟩ k hd _
     simp only [d_impl_PlanOf_L3.eq_2]
     unfold d_impl_PlanOf_L3_B
     rw [hd,cond_false]; rfl
theorem pln_sp (r:Request):Sp (plnM r).1:=by
 obtain ⟨l1,l2,l3⟩:=pln_len r
 refine ⟨by omega,fun c hc=>by have:=l3 c hc; omega,?_,by omega⟩
 have key:∀ l:List Carton,(∀ c ∈ l,c.fUnits.length ≤ 12) → lensC l ≤ 12 * l.length:=by
  intro l
  induction l with
  | nil=>intro _; simp [lensC]
  | cons c l ih =>
   intro h
   have h1:=ih fun d hd=>h d (by simp [hd])
   have h2:=h c (by simp)
   simp only [lensC,List.length_cons]
   omega
 have:=key _ l3
 omega
theorem mach_ok (z:ByteArray):∀ (ls:List ByteArray) (last:Int) (r:Request) (i:Int) (n:Nat),r.fPairs.length ≤ n ∧ r.fTypes.length ≤ n ∧ r.fItems.length ≤ n → (mach z ls last r i).1.fPairs.length ≤ n + ls.length ∧ (mach z ls last r i).1.fTypes.length ≤ n + ls.length ∧ (mach z ls last r i).1.fItems.length ≤ n + ls.length
 | [],last,r,i,n,h=>by
  rw [mach]
  split
  · simp [R0]
  split
  · simpa using h
  · simp [R0]
 | l :: ls,last,r,i,n,h=>by
  rw [mach]
  cases mf last (ptl r l).1
  · simp [R0]
  · have:=ptl_len r l
    have:=mach_ok z ls (ptl r l).1 (ptl r l).2 (i + 1) (n + 1) (by omega)
    simp only [cond_true,List.length_cons]
    omega
theorem rdM_sm (s:ByteArray):Sm 2097153 (rdM s).1:=by
 unfold rdM
 split
 · exact ⟨by omega,by simp [R0],by simp [R0],by simp [R0]⟩
 · rename_i h
   have:=mach_ok ((parts 10 s).getLastD emB) (parts 10 s).dropLast (-1) R0 0 0 (by simp [R0])
   have h2:(parts 10 s).dropLast.length ≤ 61:=by rw [List.length_dropLast]; omega
   exact ⟨by omega,by omega,by omega,by omega⟩
def cloM (s:ByteArray):Int:=bif decide ((rdM s).2 ≥ 0) then 1 else clsM (rdM s).1
theorem i_clo {s:ByteArray} (hs:s.size ≤ 1048576):d_impl_ClassOf 2097153 s = some (cloM s):=by
 unfold d_impl_ClassOf cloM
 rw [i_read hs,ob_some]
 cases decide ((rdM s).2 ≥ 0)
 · rw [cond_false,cond_false,i_cls (rdM_sm s),ob_some]
 · rfl
def pckM (s:ByteArray):ByteArray × Int:=bif cloM s != 0 then (emB,cloM s) else (txtM (plnM (rdM s).1).1,0)
theorem i_pck {s:ByteArray} (hs:s.size ≤ 1048576):d_impl_Pack 2097153 s = some (pckM s):=by
 unfold d_impl_Pack pckM
 rw [i_clo hs,ob_some]
 cases cloM s != 0
 · rw [cond_false,cond_false,i_read hs,ob_some,i_plan (rdM_sm s),ob_some,i_text (pln_sp _) (by omega),ob_some]
 · rfl
end Go.Proofs.YthkaklkinepfkaaGreatDoor
