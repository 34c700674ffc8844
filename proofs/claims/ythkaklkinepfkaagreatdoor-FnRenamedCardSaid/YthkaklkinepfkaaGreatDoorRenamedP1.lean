/- RenamedP: plain lemmas, part 1. -/
import Derived.Test.YthkaklkinepfkaaGreatDoorRenamedD
import Derived.Test.YthkaklkinepfkaaGreatDoorRenamedBP5
set_option linter.unusedSimpArgs false
set_option linter.unusedVariables false
namespace Go.Proofs.YthkaklkinepfkaaGreatDoor
open Go
open Enc (rd ow)
open Arg (argv)
open Ret (retv)
open Wf (wf)
theorem clsM_mk {r:Request} (h1:bouB r = true) (h2:namB r = true) (h3:tabB r.fPairs r.fClasses = true) (h4:∀ x ∈ r.fItems,fitB x (masM r) = true) (h5:∀ t ∈ r.fTypes,tooB r.fPallet t = false):clsM r = 0:=by
 have e4:(r.fItems.all fun x=>fitB x (masM r)) = true:=List.all_eq_true.2 h4
 have e5:r.fTypes.any (tooB r.fPallet) = false:=List.any_eq_false.2 fun t ht=>by simp [h5 t ht]
 unfold clsM
 rw [h1,h2,h3,e4,e5]; rfl
theorem bou_all {r:Request} (h:bouB r = true):inb r.fWay 0 1 = true ∧ palB r.fPallet = true ∧ inb r.fClasses 1 4 = true ∧ r.fPairs.length ≤ 16 ∧ (∀ p ∈ r.fPairs,prB p = true) ∧ r.fTypes.length ≤ 5 ∧ inb r.fMaster 0 999 = true:=by
 simp only [bouB,Bool.and_eq_true,List.all_eq_true,decide_eq_true_eq] at h
 obtain ⟨⟨⟨⟨⟨⟨⟨⟨⟨a1,a2⟩,a3⟩,a4⟩,a5⟩,a6⟩,a7⟩,a8⟩,a9⟩,_⟩:=h
 have:=inb_iff.1 a6
 exact ⟨a1,a2,a3,a4,a5,by omega,a8⟩
theorem nOk {n a b:Int} (h:inb n a b = true) (ha:0 ≤ a) (hb:b ≤ 999999):inb n 0 999999 = true:=by
 have:=inb_iff.1 h
 exact inb_iff.2 (by omega)
theorem rows_ok {r:Request} (h:bouB r = true):∀ p ∈ rowsM r,numOk p.2 = true:=by
 obtain ⟨a1,a2,a3,a4,a5,a6,a7⟩:=bou_all h
 have ht:=bou_types h
 have hi:=(bou_items h).1
 intro p hp
 unfold rowsM at hp
 simp only [List.mem_append,List.mem_cons,List.not_mem_nil,or_false,List.mem_map] at hp
 rcases hp with (rfl | rfl) | ⟨q,hq,rfl⟩ | ⟨t,htm,rfl⟩ | rfl | ⟨x,hx,rfl⟩
 · unfold palB at a2
   simp only [Bool.and_eq_true] at a2
   obtain ⟨b1,b2,b3,b4⟩:=a2
   simp only [numOk,palL,List.all_cons,List.all_nil,Bool.and_eq_true,Bool.and_true]
   exact ⟨nOk b1 (by omega) (by omega),nOk b2 (by omega) (by omega),nOk b3 (by omega) (by omega),nOk b4 (by omega) (by omega)⟩
 · simp only [numOk,List.all_cons,List.all_nil,Bool.and_true]
   exact nOk a3 (by omega) (by omega)
 · have:=a5 q hq
   unfold prB at this
   simp only [Bool.and_eq_true] at this
   simp only [numOk,List.all_cons,List.all_nil,Bool.and_eq_true,Bool.and_true]
   exact ⟨nOk this.1 (by omega) (by omega),nOk this.2 (by omega) (by omega)⟩
 · have:=ht t htm
   unfold typB at this
   simp only [Bool.and_eq_true] at this
   obtain ⟨b1,b2,b3,b4,b5,b6,b7⟩:=this
   simp only [numOk,typL,List.all_cons,List.all_nil,Bool.and_eq_true,Bool.and_true]
   exact ⟨nOk b1 (by omega) (by omega),nOk b2 (by omega) (by omega),nOk b3 (by omega) (by omega),nOk b4 (by omega) (by omega),nOk b5 (by omega) (by omega),nOk b6 (by omega) (by omega),nOk b7 (by omega) (by omega)⟩
 · simp only [numOk,List.all_cons,List.all_nil,Bool.and_true]
   exact nOk a7 (by omega) (by omega)
 · have:=hi x hx
   unfold itmB at this
   simp only [Bool.and_eq_true] at this
   obtain ⟨b1,b2,b3,b4,b5,b6,b7⟩:=this
   simp only [numOk,itmL,List.all_cons,List.all_nil,Bool.and_eq_true,Bool.and_true]
   exact ⟨nOk b1 (by omega) (by omega),nOk b2 (by omega) (by omega),nOk b3 (by omega) (by omega),nOk b4 (by omega) (by omega),nOk b5 (by omega) (by omega),nOk b6 (by omega) (by omega),nOk b7 (by omega) (by omega)⟩
theorem pck_otx {q:Request} (h:clsM q = 0):d_impl_OrderText 2097153 q = some (otxM q) ∧ d_impl_Pack 2097153 (otxM q) = some (txtM (plnM q).1,0):=by
 have hb:=(clsM_zero h).1
 obtain ⟨a1,_,_,a4,_,a6,_⟩:=bou_all hb
 have hi:=(bou_items hb).2.2
 have hr:=rdM_otx a1 (rows_ok hb) (by omega)
 have hl:=rows_len (r:=q) (by omega) (by omega) (by omega)
 have hz:=otx_size (rowsM q) (wayB q.fWay) hl.2
 have hw:(wayB q.fWay).size ≤ 20:=by unfold wayB; split <;> decide
 have hs:(otxM q).size ≤ 1048576:=by
  unfold otxM
  rw [a1,cond_true]
  omega
 refine ⟨i_otx a1 (rows_ok hb) (by omega),?_⟩
 rw [i_pck hs]
 have hc:cloM (otxM q) = 0:=by
  unfold cloM
  rw [hr]
  exact h
 unfold pckM
 rw [hc,hr]; rfl
def idF:Int → List Item → List Item
 | _,[]=>[]
 | i,x :: xs=>⟨900 - 7 * i,x.fW,x.fH,x.fD,x.fGram,x.fClass,x.fCount⟩ :: idF (i + 1) xs
theorem idF_len:∀ (l:List Item) (i:Int),(idF i l).length = l.length
 | [],_=>rfl
 | x :: l,i=>by rw [idF,List.length_cons,List.length_cons,idF_len l]
theorem idF_N:∀ (l:List Item) (i:Int),(idF i l).map itN = l.map itN
 | [],_=>rfl
 | x :: l,i=>by rw [idF,List.map_cons,List.map_cons,idF_N l]; rfl
theorem idF_mem:∀ {l:List Item} {i:Int} {y:Item},y ∈ idF i l → ∃ x ∈ l,itN y = itN x ∧ 900 - 7 * (i + l.length) < y.fId ∧ y.fId ≤ 900 - 7 * i
 | [],_,_,h=>by simp [idF] at h
 | x :: l,i,y,h=>by
  rw [idF] at h
  simp only [List.length_cons]
  rcases List.mem_cons.1 h with rfl | h
  · exact ⟨x,by simp,rfl,by simp only; omega,by simp only; omega⟩
  · obtain ⟨z,hz,h1,h2,h3⟩:=idF_mem h
    exact ⟨z,by simp [hz],h1,by omega,by omega⟩
theorem idF_nod (c:Int):∀ (l:List Item) (i:Int) (pre:List Item),(∀ x ∈ l,decide (x.fClass ≥ c) = false) → (∀ y ∈ pre,900 - 7 * i < y.fId) → nodC c pre (idF i l) = true
 | [],_,_,_,_=>rfl
 | x :: l,i,pre,h,hp=>by
  rw [idF,nodC]
  have h1:=h x (by simp)
  have h2:(pre.any fun y=>y.fId == 900 - 7 * i) = false:=List.any_eq_false.2 fun y hy=>by
   have:=hp y hy
   simp only [beq_iff_eq]
   omega
  have h3:=idF_nod c l (i + 1) (pre ++ [⟨900 - 7 * i,x.fW,x.fH,x.fD,x.fGram,x.fClass,x.fCount⟩]) (fun y hy=>h y (by simp [hy])) fun y hy=>by
   rcases List.mem_append.1 hy with hy | hy
   · have:=hp y hy; omega
   · rw [List.mem_singleton.1 hy]
     show 900 - 7 * (i + 1) < 900 - 7 * i
     omega
  simp only [h1,h2,h3,Bool.not_false,Bool.and_self]
theorem nodC_cls {c:Int}:∀ {l pre:List Item},nodC c pre l = true → ∀ x ∈ l,decide (x.fClass ≥ c) = false
 | [],_,_,x,hx=>by simp at hx
 | y :: l,pre,h,x,hx=>by
  rw [nodC] at h
  simp only [Bool.and_eq_true,Bool.not_eq_true'] at h
  rcases List.mem_cons.1 hx with rfl | hx
  · exact h.1.1
  · exact nodC_cls h.2 x hx
def qId (r:Request):Request:=⟨r.fWay,r.fPallet,r.fClasses,r.fPairs,r.fTypes,r.fMaster,idF 0 r.fItems⟩
theorem cls_qId {r:Request} (h:clsM r = 0):clsM (qId r) = 0:=by
 obtain ⟨h1,h2,h3,h4,h5⟩:=clsM_zero h
 have hi:=bou_items h1
 have em:masM (qId r) = masM r:=rfl
 have ei:∀ y ∈ idF 0 r.fItems,itmB y = true:=fun y hy=>by
  obtain ⟨x,hx,e,a1,a2⟩:=idF_mem hy
  have:=hi.1 x hx
  unfold itmB at this ⊢
  simp only [Bool.and_eq_true] at this ⊢
  obtain ⟨_,b2,b3,b4,b5,b6,b7⟩:=this
  have c2:y.fW = x.fW:=show (itN y).fW = (itN x).fW by rw [e]
  have c3:y.fH = x.fH:=show (itN y).fH = (itN x).fH by rw [e]
  have c4:y.fD = x.fD:=show (itN y).fD = (itN x).fD by rw [e]
  have c5:y.fGram = x.fGram:=show (itN y).fGram = (itN x).fGram by rw [e]
  have c6:y.fClass = x.fClass:=show (itN y).fClass = (itN x).fClass by rw [e]
  have c7:y.fCount = x.fCount:=show (itN y).fCount = (itN x).fCount by rw [e]
  rw [c2,c3,c4,c5,c6,c7]
  exact ⟨inb_iff.2 (by omega),b2,b3,b4,b5,b6,b7⟩
 have ec:(idF 0 r.fItems).map (·.fCount) = r.fItems.map (·.fCount):=by
  have:=congrArg (List.map (·.fCount)) (idF_N r.fItems 0)
  rw [List.map_map,List.map_map] at this
  exact this
 refine clsM_mk ?_ ?_ h3 ?_ h5
 · unfold bouB at h1 ⊢
   simp only [Bool.and_eq_true,List.all_eq_true,decide_eq_true_eq] at h1 ⊢
   show (_ ∧ (idF 0 r.fItems).length ≤ 8) ∧ (∀ x ∈ idF 0 r.fItems,itmB x = true) ∧ sumI ((idF 0 r.fItems).map (·.fCount)) ≤ 12
   rw [idF_len,ec]
   exact ⟨h1.1,ei,h1.2.2⟩
 · unfold namB at h2 ⊢
   simp only [Bool.and_eq_true] at h2 ⊢
   exact ⟨⟨⟨h2.1.1.1,idF_nod _ _ _ _ (nodC_cls h2.1.1.2) (by simp)⟩,h2.1.2⟩,h2.2⟩
 · intro y hy
   obtain ⟨x,hx,e,_,_⟩:=idF_mem hy
   have c:∀ z t,fitB z t = fitB (itN z) t:=fun _ _=>rfl
   rw [em,c,e,← c]
   exact h4 x hx
theorem ren_qId {r:Request} (h:clsM r = 0):Ren 0 r (qId r):=by
 refine ⟨rfl,rfl,rfl,rfl,rfl,?_,idF_N _ _,h,cls_qId h⟩
 have e:shT 0 = id:=by
  funext t
  unfold shT
  rw [Int.add_zero]; rfl
 rw [e,List.map_id]; rfl
def qUp (r:Request):Request:=⟨r.fWay,r.fPallet,r.fClasses,r.fPairs,r.fTypes.map (shT 1),r.fMaster,r.fItems⟩
theorem nod_map (n:Int):∀ (l pre:List Typ),nodB Typ.fId (pre.map (shT n)) (l.map (shT n)) = nodB Typ.fId pre l
 | [],_=>rfl
 | t :: l,pre=>by
  have ih:=nod_map n l (pre ++ [t])
  rw [List.map_append,List.map_cons,List.map_nil] at ih
  rw [List.map_cons,nodB,nodB,ih,List.any_map]
  rfl
theorem typ_up (r:Request) (id:Int):typM (qUp r) id = (typM r id).map (shT 1):=by
 unfold typM qUp
 simp only
 rw [List.find?_map]
 rfl
theorem cls_qUp {r:Request} (h:clsM r = 0) (hc:CT r.fTypes):clsM (qUp r) = 0:=by
 obtain ⟨h1,h2,h3,h4,h5⟩:=clsM_zero h
 have ht:=bou_types h1
 have et:∀ t ∈ r.fTypes.map (shT 1),typB t = true:=fun t htm=>by
  obtain ⟨x,hx,rfl⟩:=List.mem_map.1 htm
  have:=ht x hx
  have hcx:=hc x hx
  unfold typB at this ⊢
  simp only [Bool.and_eq_true] at this ⊢
  obtain ⟨b1,b2,b3,b4,b5,b6,b7⟩:=this
  have:=inb_iff.1 b7
  exact ⟨b1,b2,b3,b4,b5,b6,inb_iff.2 (by show 0 ≤ x.fCost + 1 ∧ x.fCost + 1 ≤ 100000; omega)⟩
 have hn:=h2
 unfold namB at hn
 simp only [Bool.and_eq_true] at hn
 have em:masM (qUp r) = shT 1 (masM r):=by
  unfold masM
  rw [typ_up]
  have hs:=hn.1.2
  show (othM ((typM r r.fMaster).map (shT 1))).1 = _
  cases e:typM r r.fMaster with
  | none=>rw [e] at hs; simp at hs
  | some t=>rfl
 refine clsM_mk ?_ ?_ h3 ?_ ?_
 · unfold bouB at h1 ⊢
   simp only [Bool.and_eq_true,List.all_eq_true,decide_eq_true_eq] at h1 ⊢
   obtain ⟨⟨⟨⟨⟨⟨⟨⟨⟨a1,a2⟩,a3⟩,a4⟩,a5⟩,a6⟩,a7⟩,a8⟩,a9⟩,a10⟩:=h1
   refine ⟨⟨⟨⟨⟨⟨⟨⟨⟨a1,a2⟩,a3⟩,a4⟩,a5⟩,?_⟩,et⟩,a8⟩,a9⟩,a10⟩
   show inb (((r.fTypes.map (shT 1)).length:Nat):Int) 1 5 = true
   rw [List.length_map]; exact a6
 · unfold namB
   simp only [Bool.and_eq_true]
   refine ⟨⟨⟨?_,hn.1.1.2⟩,?_⟩,hn.2⟩
   · have:=nod_map 1 r.fTypes []
     rw [List.map_nil] at this
     show nodB Typ.fId [] (r.fTypes.map (shT 1)) = true
     rw [this]; exact hn.1.1.1
   · rw [typ_up]
     show ((typM r r.fMaster).map (shT 1)).isSome = true
     rw [Option.isSome_map]; exact hn.1.2
 · intro x hx
   rw [em]
   exact h4 x hx
 · intro t htm
   obtain ⟨x,hx,rfl⟩:=List.mem_map.1 htm
   exact h5 x hx
theorem ren_qUp {r:Request} (h:clsM r = 0) (hc:CT r.fTypes):Ren 1 r (qUp r):=⟨rfl,rfl,rfl,rfl,rfl,rfl,rfl,h,cls_qUp h hc⟩
theorem ren_L1 {r:Request} {x34:Plan × Bool} {f:List Item} (hc:∀ t ∈ r.fTypes,0 ≤ t.fCost ∧ t.fCost ≤ 1000):∀ (rest pre:List Typ) (k:Nat),pre.length + rest.length ≤ 1000 → rest.length < k → (∀ t ∈ rest,0 ≤ t.fCost ∧ t.fCost ≤ 1000) →
    d_laws_FnRenamed_L1 2097153 r x34 f k (pre ++ rest) (pre.length:Int) = d_laws_FnRenamed_L1 2097153 r x34 f (k - rest.length) (pre ++ rest.map (shT 1)) ((pre.length + rest.length:Nat):Int)
 | [],pre,k,hl,hk,_=>by simp
 | t :: rest,pre,k,hl,hk,ht=>by
  obtain ⟨k,rfl⟩:∃ j,k = j + 1:=⟨k - 1,by omega⟩
  simp only [List.length_cons] at hl hk
  have hx:ix (pre ++ t :: rest) (pre.length:Int) = some t:=by rw [ix_nat]; simp
  have h1:=ht t (by simp)
  rw [d_laws_FnRenamed_L1.eq_2]
  unfold d_laws_FnRenamed_L1_B
  rw [bif_true (by simp; omega),hx,ob_some,ob_some,w64_id (n:=t.fCost + 1) (by omega) (by omega),w64_id (by omega) (by omega)]
  have e:setx (pre ++ t :: rest) (pre.length:Int) ({ t with fCost:=t.fCost + 1 }) = (pre ++ [shT 1 t]) ++ rest:=by
   unfold setx
   rw [Int.toNat_natCast]
   simp [shT]
  rw [e,show ((pre.length:Int) + 1) = (((pre ++ [shT 1 t]).length:Nat):Int) by simp,ren_L1 hc rest (pre ++ [shT 1 t]) k (by simp; omega) (by omega) fun y hy=>ht y (by simp [hy])]
  simp only [List.length_append,List.length_singleton,List.length_cons,List.length_nil,List.map_cons,List.append_assoc,List.singleton_append,Nat.zero_add]
  rw [show k + 1 - (rest.length + 1) = k - rest.length by omega,show pre.length + 1 + rest.length = pre.length + (rest.length + 1) by omega]
theorem ren_L2 {r:Request} {x34:Plan × Bool}:∀ (rest pre:List Item) (k:Nat),pre.length + rest.length ≤ 1000 → rest.length < k →
    d_laws_FnRenamed_L2 2097153 r x34 k (pre ++ rest) (pre.length:Int) = d_laws_FnRenamed_L2 2097153 r x34 (k - rest.length) (pre ++ idF pre.length rest) ((pre.length + rest.length:Nat):Int)
 | [],pre,k,hl,hk=>by simp [idF]
 | t :: rest,pre,k,hl,hk=>by
  obtain ⟨k,rfl⟩:∃ j,k = j + 1:=⟨k - 1,by omega⟩
  simp only [List.length_cons] at hl hk
  have hx:ix (pre ++ t :: rest) (pre.length:Int) = some t:=by rw [ix_nat]; simp
  rw [d_laws_FnRenamed_L2.eq_2]
  unfold d_laws_FnRenamed_L2_B
  rw [bif_true (by simp; omega),hx,ob_some,w64_id (n:=7 * (pre.length:Int)) (by omega) (by omega),w64_id (n:=900 - _) (by omega) (by omega),w64_id (by omega) (by omega)]
  have e:setx (pre ++ t :: rest) (pre.length:Int) ({ t with fId:=900 - 7 * (pre.length:Int) }) = (pre ++ [⟨900 - 7 * (pre.length:Int),t.fW,t.fH,t.fD,t.fGram,t.fClass,t.fCount⟩]) ++ rest:=by
   unfold setx
   rw [Int.toNat_natCast]
   simp
  rw [e,show ((pre.length:Int) + 1) = (((pre ++ [(⟨900 - 7 * (pre.length:Int),t.fW,t.fH,t.fD,t.fGram,t.fClass,t.fCount⟩:Item)]).length:Nat):Int) by simp,ren_L2 rest _ k (by simp; omega) (by omega)]
  simp only [List.length_append,List.length_singleton,List.length_cons,List.length_nil,List.append_assoc,List.singleton_append,Nat.zero_add]
  rw [show k + 1 - (rest.length + 1) = k - rest.length by omega,show pre.length + 1 + rest.length = pre.length + (rest.length + 1) by omega,idF]
  rw [show (((pre.length + 1:Nat):Int)) = (pre.length:Int) + 1 by omega]
theorem fnRenamed_pure (b:List U8) (_:wf b):∃ fu,d_laws_FnRenamed fu b = some true:=by
 refine ⟨2097153,?_⟩
 unfold d_laws_FnRenamed
 rw [s_big,ob_some]
 by_cases hb:(b.length:Int) > 1048576
 · rw [bif_true (by simpa using hb)]
 rw [bif_false (by simpa using hb)]
 obtain ⟨r,hy,hr,hct⟩:=dr_classC (fu:=2097153) (b:=b) (by omega) (by omega)
 have hs:=hr.sm (fu:=2097153) (by omega)
 unfold d_spec_DrawPlanOf
 rw [hy,ob_some,ob_some,i_plan hs,ob_some,s_plan hs,ob_some,bif_false (by simp)]
 by_cases hc:clsM r = 0
 rotate_left
 · have e:plnM r = (⟨[],[]⟩,false):=by
     unfold plnM
     rw [show (clsM r == 0) = false by simpa using hc]; rfl
   rw [e]; rfl
 have e1:(plnM r).2 = true:=by
  unfold plnM
  rw [show (clsM r == 0) = true by simpa using hc]; rfl
 have h3:=hr.2.2
 have h2:=hr.2.1
 rw [e1,Bool.not_true,cond_false,ap1 (by simp; omega),ob_some,List.nil_append]
 have hcost:∀ t ∈ r.fTypes,0 ≤ t.fCost ∧ t.fCost ≤ 1000:=fun t ht=>by
  have:=bou_types (clsM_zero hc).1 t ht
  unfold typB at this
  simp only [Bool.and_eq_true] at this
  have h7:=inb_iff.1 this.2.2.2.2.2.2
  exact ⟨h7.1,hct t ht⟩
 have hL2:=ren_L2 (r:=r) (x34:=plnM r) r.fItems [] 2097153 (by simp; omega) (by omega)
 rw [List.nil_append,show ((([]:List Item).length:Nat):Int) = 0 from rfl] at hL2
 rw [hL2]
 obtain ⟨k,hk⟩:∃ j,2097153 - r.fItems.length = j + 1:=⟨2097153 - r.fItems.length - 1,by omega⟩
 rw [hk,d_laws_FnRenamed_L2.eq_2]
 unfold d_laws_FnRenamed_L2_B
 rw [bif_false (by simp [idF_len]),ap1 (by simp; omega),ob_some,List.nil_append]
 have hL1:=ren_L1 (r:=r) (x34:=plnM r) (f:=[] ++ idF 0 r.fItems) hcost r.fTypes [] 2097153 (by simp; omega) (by omega) hcost
 rw [List.nil_append,List.nil_append,show ((([]:List Typ).length:Nat):Int) = 0 from rfl] at hL1
 rw [List.nil_append,hL1]
 obtain ⟨j,hj⟩:∃ j,2097153 - r.fTypes.length = j + 1:=⟨2097153 - r.fTypes.length - 1,by omega⟩
 rw [hj,d_laws_FnRenamed_L1.eq_2]
 unfold d_laws_FnRenamed_L1_B
 obtain ⟨p1,p2⟩:=pck_otx (cls_qId hc)
 obtain ⟨p3,p4⟩:=pck_otx (cls_qUp hc hct)
 rw [ren_pln (ren_qId hc)] at p2
 rw [ren_pln (ren_qUp hc hct)] at p4
 rw [bif_false (by simp)]
 show (obind (d_impl_OrderText 2097153 (qId r)) fun x191=>obind (d_impl_Pack 2097153 x191) fun x195=>obind (d_impl_OrderText 2097153 (qUp r)) fun x199=>obind (d_impl_Pack 2097153 x199) fun x203=>bif (x195.2 == 0) then bif (x203.2 == 0) then obind (d_impl_PlanText 2097153 (plnM r).1) fun x209=>bif (x195.1.toList == x209.toList) then some (x203.1.toList == x195.1.toList) else some (false) else some (false) else some (false)) = some true
 rw [p1,ob_some,p2,ob_some,p3,ob_some,p4,ob_some]
 simp only
 rw [bif_true (by decide),bif_true (by decide),i_text (pln_sp r) (by omega),ob_some,bif_true (by simp)]
 simp
end Go.Proofs.YthkaklkinepfkaaGreatDoor
