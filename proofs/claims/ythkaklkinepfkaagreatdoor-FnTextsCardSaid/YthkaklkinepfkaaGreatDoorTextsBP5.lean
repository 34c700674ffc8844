/- TextsBP: plain lemmas, part 5. -/
import Derived.Test.YthkaklkinepfkaaGreatDoorTextsBP4
set_option linter.unusedSimpArgs false
set_option linter.unusedVariables false
namespace Go.Proofs.YthkaklkinepfkaaGreatDoor
open Go
open Enc (rd ow)
open Arg (argv)
open Ret (retv)
open Wf (wf)
def emB:ByteArray:=⟨#[]⟩
theorem obR {β:Type} (k:List Int × Bool → Option β):obind (some (rsL [] none)) k = k ([],false):=rfl
theorem obS {β:Type} (n:List Int) (k:List Int × Bool → Option β):obind (some (rsL [] (some n))) k = k (n,true):=rfl
theorem parts_ls (b:UInt8) (s:ByteArray):∃ ls z,parts b s = ls ++ [z] ∧ (parts b s).dropLast = ls ∧ (parts b s).getLastD emB = z:=by
 have h:=(parts_len b s).1
 have hn:parts b s ≠ []:=fun e=>by rw [e] at h; simp at h
 refine ⟨_,(parts b s).getLast hn,(List.dropLast_concat_getLast hn).symm,rfl,?_⟩
 rw [List.getLastD_eq_getLast?,List.getLast?_eq_some_getLast hn]; rfl
theorem sls_ls {α:Type} {ls:List α} {z:α}:sls (ls ++ [z]) 0 (ls.length:Int) = some ls:=by
 rw [sls_some (by simp; omega)]
 simp
theorem ix_ls {α:Type} {ls:List α} {z:α}:ix (ls ++ [z]) (ls.length:Int) = some z:=by
 rw [ix_nat]; simp
def C0:Carton:=⟨0,0,[]⟩
def T0:Spot:=⟨0,0,0,0⟩
def carO:List Int → Carton × Spot
 | a :: b :: c :: d :: e :: f :: u=>(⟨a,b,u⟩,⟨c,d,e,f⟩)
 | _=>(C0,T0)
theorem len6 {l:List Int} (h:¬ l.length < 6):∃ a b c d e f u,l = a :: b :: c :: d :: e :: f :: u:=by
 match l,h with
 | [],h=>exact absurd (by simp) h
 | [_],h=>exact absurd (by simp) h
 | [_,_],h=>exact absurd (by simp) h
 | [_,_,_],h=>exact absurd (by simp) h
 | [_,_,_,_],h=>exact absurd (by simp) h
 | [_,_,_,_,_],h=>exact absurd (by simp) h
 | a :: b :: c :: d :: e :: f :: u,_=>exact ⟨a,b,c,d,e,f,u,rfl⟩
def okO (p:Carton × Spot):Bool:=cokB p.1 && sokB p.2
def lofN (w:ByteArray) (o:Option (List Int)):Carton × Spot × Bool :=
 match o with
 | none=>(C0,T0,false)
 | some n=>if n.length < 6 then (C0,T0,false) else if w = carB ∧ okO (carO n) = true then ((carO n).1,(carO n).2,true) else (C0,T0,false)
def lofM (s:ByteArray):Carton × Spot × Bool :=
 match parts 32 s with
 | []=>(C0,T0,false)
 | p :: ps=>lofN p (nms ps)
theorem pok1 (c:Carton) (t:Spot):pokB ⟨[c],[t]⟩ = okO (c,t):=by
 unfold pokB okO
 simp
theorem sp1p {c:Carton} {t:Spot} (h:c.fUnits.length ≤ 1048576):Sp ⟨[c],[t]⟩:=⟨by simp,fun d hd=>by rw [List.mem_singleton.1 hd]; exact h,by simpa [lensC] using h,by simp⟩
theorem drop6 {a b c d e f:Int} {u:List Int} (h:u.length ≤ 2000000):sls (a :: b :: c :: d :: e :: f :: u) 6 (((a :: b :: c :: d :: e :: f :: u).length:Nat):Int) = some u:=by
 rw [sls_some (by simp only [List.length_cons]; omega),Int.toNat_natCast,show (6:Int).toNat = 6 from rfl]
 simp
theorem nms_len:∀ {xs:List ByteArray} {n:List Int},nms xs = some n → n.length = xs.length
 | [],n,h=>by rw [← Option.some.inj h]; rfl
 | x :: xs,n,h=>by
  rw [nms] at h
  split at h
  · cases hn:nms xs with
    | none=>rw [hn] at h; simp at h
    | some ms =>
     rw [hn] at h
     rw [← Option.some.inj h,List.length_cons,List.length_cons,nms_len hn]
  · simp at h
theorem bifP0 {α:Type} (a b:α):(bif !(([],false):List Int × Bool).2 then a else b) = a:=rfl
theorem bifP1 {α:Type} (n:List Int) (a b:α):(bif !((n,true):List Int × Bool).2 then a else b) = b:=rfl
theorem i_lof {s:ByteArray} (hs:s.size ≤ 1048576):d_impl_LineOf 2097153 s = some (lofM s):=by
 unfold d_impl_LineOf lofM
 have e:=i_parts (b:=32) hs
 have hl:=(parts_len 32 s).2
 rw [show ((32:UInt8).toNat:Int) = 32 from rfl] at e
 rw [e,ob_some]
 cases hp:parts 32 s with
 | nil=>have:=(parts_len 32 s).1; rw [hp] at this; simp at this
 | cons p ps =>
  rw [hp] at hl
  simp only [List.length_cons] at hl ⊢
  have e2:w64 (((ps.length + 1:Nat):Int) - 1) = ps.length:=by rw [w64_id (by omega) (by omega)]; omega
  simp only [e2]
  show obind (d_impl_wordsOf 2097153 s carB (ps.length:Int)) _ = _
  rw [i_words hs (by omega)]
  have hw:wrd carB ps.length s = if p = carB then nms ps else none:=by
   unfold wrd
   rw [hp]
   simp
  rw [hw]
  unfold lofN
  by_cases hc:p = carB
  · rw [if_pos hc]
    cases hn:nms ps with
    | none=>rfl
    | some n =>
     have hnl:=nms_len hn
     simp only
     rw [obS,bifP1]
     by_cases h6:n.length < 6
     · rw [bif_true (by simp; omega),if_pos h6]; rfl
     rw [bif_false (by simp; omega),if_neg h6]
     unfold d_impl_LineOf_J2 d_impl_LineOf_J1
     obtain ⟨a,b,c,d,e,f,u,rfl⟩:=len6 h6
     simp only [List.length_cons] at hnl
     show obind (sls (a :: b :: c :: d :: e :: f :: u) 6 (((a :: b :: c :: d :: e :: f :: u).length:Nat):Int)) _ = _
     rw [drop6 (by omega),ob_some]
     show obind (d_impl_PlanOk 2097153 ⟨[⟨a,b,u⟩],[⟨c,d,e,f⟩]⟩) _ = _
     rw [i_pok (sp1p (by simp; omega)) (by omega),ob_some,pok1]
     show (bif !okO (⟨a,b,u⟩,⟨c,d,e,f⟩) then _ else _) = some (if p = carB ∧ okO (⟨a,b,u⟩,⟨c,d,e,f⟩) = true then _ else _)
     cases hk:okO (⟨a,b,u⟩,⟨c,d,e,f⟩)
     · rw [if_neg (by simp)]; rfl
     · rw [if_pos ⟨hc,rfl⟩]; rfl
  · rw [if_neg hc,obR,bifP0]
    cases hn:nms ps with
    | none=>rfl
    | some n =>
     simp only
     split
     · rfl
     rw [if_neg (fun h=>hc h.1)]; rfl
theorem ba_l {a b:ByteArray} (h:a.data.toList = b.data.toList):a = b:=ByteArray.ext (Array.ext' h)
theorem app_l (a b:ByteArray):(a ++ b).data.toList = a.data.toList ++ b.data.toList:=by rw [ByteArray.data_append]; simp
theorem line_list:∀ (l:List Int) (o:ByteArray),(lineL o l).data.toList = o.data.toList ++ (l.map fun n=>32 :: (numB n).data.toList).flatten
 | [],o=>by simp [lineL]
 | n :: l,o=>by
  show (lineL (o ++ (sp1 ++ numB n)) l).data.toList = _
  rw [line_list l,app_l,app_l]
  simp [sp1]
theorem line_parts {s p:ByteArray} {n:List Int} (h:parts 32 s = p :: n.map numB):lineL p n = s:=by
 apply ba_l
 rw [line_list]
 have hj:=cut_join 32 s.data.toList
 unfold parts pts at h
 simp only [List.map_cons,List.cons.injEq] at h
 have e1:(cut 32 s.data.toList).1 = p.data.toList:=by rw [← h.1]; rfl
 have e2:(cut 32 s.data.toList).2 = n.map fun n=>(numB n).data.toList:=by
  have:=congrArg (List.map fun x:ByteArray=>x.data.toList) h.2
  rw [List.map_map,List.map_map] at this
  have e3:((fun x:ByteArray=>x.data.toList) ∘ ofL) = id:=by funext x; rfl
  rw [e3,List.map_id] at this
  exact this
 rw [e1,e2,List.map_map] at hj
 exact hj.symm
theorem line_car {p:ByteArray} {n:List Int} (h:lineL carB n = lineL p n):carB = p:=by
 have:=congrArg (fun x:ByteArray=>x.data.toList) h
 simp only [line_list] at this
 exact ba_l (List.append_cancel_right this)
theorem nums_car (n:List Int) (h:¬ n.length < 6):numsL (carO n).1 (carO n).2 = n:=by
 obtain ⟨a,b,c,d,e,f,u,rfl⟩:=len6 h
 rfl
def sfin (s:ByteArray) (n:List Int):Option (Carton × Spot × Bool) :=
 bif (decide ((n.length:Int) < 6)) then some (C0,T0,false) else obind (ix n 0) fun a=>obind (ix n 1) fun b=>obind (sls n 6 (n.length:Int)) fun u=>obind (apnd 8 [] u) fun v=>d_spec_LineOf_J2 2097153 s n a b v
theorem s_lofL {s y:ByteArray}:∀ (xs pre:List ByteArray) (o:List Int) (k:Nat),(∀ x ∈ xs,x.size ≤ 1048576) → (o.length + xs.length ≤ 2000000 ∧ pre.length + xs.length ≤ 2000000) → xs.length < k → d_spec_LineOf_L1 2097153 s (y :: (pre ++ xs)) k o ((pre.length:Int) + 1) = match nms xs with | none=>some (C0,T0,false) | some n=>sfin s (o ++ n)
 | [],pre,o,k,hx,hl,hk=>by
  obtain ⟨k,rfl⟩:∃ j,k = j + 1:=⟨k - 1,by omega⟩
  rw [d_spec_LineOf_L1.eq_2]
  unfold d_spec_LineOf_L1_B
  rw [bif_false (by simp)]
  show _ = sfin s (o ++ [])
  rw [List.append_nil]
  rfl
 | x :: xs,pre,o,k,hx,hl,hk=>by
  obtain ⟨k,rfl⟩:∃ j,k = j + 1:=⟨k - 1,by omega⟩
  simp only [List.length_cons] at hl hk
  rw [d_spec_LineOf_L1.eq_2]
  unfold d_spec_LineOf_L1_B
  have hi:ix (y :: (pre ++ x :: xs)) ((pre.length:Int) + 1) = some x:=by
   rw [show ((pre.length:Int) + 1) = ((pre.length + 1:Nat):Int) by omega,ix_nat]; simp
  rw [bif_true (by simp; omega),hi,ob_some,nmv_s (hx x (by simp)),ob_some,nms]
  cases hv:(nmv x).2 with
  | false=>rfl
  | true =>
   rw [if_pos rfl,Bool.not_true,cond_false]
   have:apnd 8 o [(nmv x).1] = some (o ++ [(nmv x).1]):=by
    unfold apnd
    rw [if_pos (by simp only [List.length_singleton]; omega)]
   have ih:=s_lofL (s:=s) (y:=y) xs (pre ++ [x]) (o ++ [(nmv x).1]) k (fun y hy=>hx y (by simp [hy])) (by simp only [List.length_append,List.length_singleton]; omega) (by omega)
   rw [this,ob_some,w64_id (by omega) (by omega),show ((pre.length:Int) + 1 + 1) = (((pre ++ [x]).length:Nat):Int) + 1 by simp]
   rw [show y :: (pre ++ x :: xs) = y :: ((pre ++ [x]) ++ xs) by simp,ih]
   cases nms xs with
   | none=>rfl
   | some ns=>simp
theorem s_lof {s:ByteArray} (hs:s.size ≤ 1048576):d_spec_LineOf 2097153 s = some (lofM s):=by
 unfold d_spec_LineOf lofM
 have e:=s_parts (b:=32) hs
 have hl:=(parts_len 32 s).2
 have hsz:=fun x hx=>Nat.le_trans (parts_size (b:=32) (s:=s) (x:=x) hx) hs
 rw [show ((32:UInt8).toNat:Int) = 32 from rfl] at e
 rw [e,ob_some]
 cases hp:parts 32 s with
 | nil=>have:=(parts_len 32 s).1; rw [hp] at this; simp at this
 | cons p ps =>
  rw [hp] at hl hsz
  simp only [List.length_cons] at hl
  have hx:∀ x ∈ ps,x.size ≤ 1048576:=fun x hx=>hsz x (by simp [hx])
  have:=s_lofL (s:=s) (y:=p) ps [] [] 2097153 hx (by simp; omega) (by omega)
  rw [show ((([]:List ByteArray).length:Int) + 1) = 1 from rfl,List.nil_append] at this
  rw [this]
  show _ = some (lofN p (nms ps))
  unfold lofN
  cases hn:nms ps with
  | none=>rfl
  | some n =>
   have hnl:=nms_len hn
   have hnb:=nms_some hx hn
   simp only [List.nil_append]
   unfold sfin
   by_cases h6:n.length < 6
   · rw [bif_true (by simp; omega),if_pos h6]
   rw [bif_false (by simp; omega),if_neg h6]
   have hnum:=nums_car n h6
   have hlp:=line_parts (n:=n) (by rw [hp,← hnb.1])
   obtain ⟨a,b,c,d,e,f,u,rfl⟩:=len6 h6
   simp only [List.length_cons] at hnl
   show obind (sls (a :: b :: c :: d :: e :: f :: u) 6 (((a :: b :: c :: d :: e :: f :: u).length:Nat):Int)) _ = _
   rw [drop6 (by omega),ob_some,ap1 (by simp; omega),ob_some,List.nil_append]
   unfold d_spec_LineOf_J2 d_spec_LineOf_J1
   show obind (d_spec_PlanOk 2097153 ⟨[⟨a,b,u⟩],[⟨c,d,e,f⟩]⟩) _ = _
   rw [s_pok (sp1p (by simp; omega)) (by omega),ob_some,pok1]
   show (bif !okO (⟨a,b,u⟩,⟨c,d,e,f⟩) then _ else obind (d_spec_l14Line 2097153 ⟨a,b,u⟩ ⟨c,d,e,f⟩) _) = some (if p = carB ∧ okO (⟨a,b,u⟩,⟨c,d,e,f⟩) = true then _ else _)
   cases hk:okO (⟨a,b,u⟩,⟨c,d,e,f⟩)
   · rw [if_neg (by simp)]; rfl
   · have hk':=hk
     unfold okO at hk'
     rw [Bool.and_eq_true] at hk'
     rw [Bool.not_true,cond_false,s_line (by omega) (nums_ok hk'.1 hk'.2),ob_some,ba_eq]
     have hq:numsL ⟨a,b,u⟩ ⟨c,d,e,f⟩ = a :: b :: c :: d :: e :: f :: u:=rfl
     rw [hq]
     by_cases hc:p = carB
     · rw [if_pos ⟨hc,rfl⟩,decide_eq_true (by rw [← hlp,hc])]; rfl
     · rw [if_neg (fun h=>hc h.1),decide_eq_false (fun h=>hc (by
         rw [← hlp] at h
         exact (line_car h).symm))]; rfl
def lofs:List ByteArray → Option (List (Carton × Spot))
 | []=>some []
 | l :: ls=>if (lofM l).2.2 = true then (lofs ls).map (((lofM l).1,(lofM l).2.1) :: ·) else none
def P0:Plan:=⟨[],[]⟩
def plO (l:List (Carton × Spot)):Plan:=⟨l.map (·.1),l.map (·.2)⟩
def rplM (s:ByteArray):Plan × Bool :=
 if (parts 10 s).getLastD emB = emB ∧ (parts 10 s).length ≤ 101 then
  match lofs (parts 10 s).dropLast with
  | some l=>(plO l,true)
  | none=>(P0,false)
 else (P0,false)
theorem lofM_ok {s:ByteArray} (h:(lofM s).2.2 = true):okO ((lofM s).1,(lofM s).2.1) = true ∧ ∃ n,parts 32 s = carB :: n ∧ ∃ m,nms n = some m ∧ ¬ m.length < 6 ∧ carO m = ((lofM s).1,(lofM s).2.1):=by
 unfold lofM at h ⊢
 cases hp:parts 32 s with
 | nil=>rw [hp] at h; simp at h
 | cons p ps =>
  rw [hp] at h
  simp only at h ⊢
  unfold lofN at h ⊢
  cases hn:nms ps with
  | none=>rw [hn] at h; simp at h
  | some n =>
   rw [hn] at h
   simp only at h ⊢
   split at h
   · simp at h
   · rename_i h6
     rw [if_neg h6]
     split at h
     · rename_i hc
       rw [if_pos hc]
       exact ⟨hc.2,ps,by rw [hc.1],n,hn,h6,rfl⟩
     · simp at h
theorem lofs_ok:∀ {ls:List ByteArray} {l:List (Carton × Spot)},lofs ls = some l → l.length = ls.length ∧ ∀ p ∈ l,okO p = true
 | [],l,h=>by rw [← Option.some.inj h]; simp
 | x :: ls,l,h=>by
  rw [lofs] at h
  split at h
  · rename_i hx
    cases hl:lofs ls with
    | none=>rw [hl] at h; simp at h
    | some m =>
     rw [hl] at h
     rw [← Option.some.inj h]
     have:=lofs_ok hl
     exact ⟨by simp [this.1],fun p hp=>by
      rcases List.mem_cons.1 hp with rfl | hp
      · exact (lofM_ok hx).1
      · exact this.2 p hp⟩
  · simp at h
theorem cok_len {c:Carton} (h:cokB c = true):c.fUnits.length ≤ 100:=by
 unfold cokB uriB at h
 simp only [Bool.and_eq_true,decide_eq_true_eq] at h
 omega
theorem lensC_le' (b:Nat):∀ (l:List Carton),(∀ c ∈ l,c.fUnits.length ≤ b) → lensC l ≤ b * l.length
 | [],_=>by simp [lensC]
 | c :: l,h=>by
  have h1:=lensC_le' b l fun d hd=>h d (by simp [hd])
  have h2:=h c (by simp)
  simp only [lensC,List.length_cons,Nat.mul_add]; omega
theorem i_rpl {s:ByteArray} (hs:s.size ≤ 1048576):d_impl_ReadPlan 2097153 s = some (rplM s):=by
 unfold d_impl_ReadPlan rplM
 have e:=i_parts (b:=10) hs
 rw [show ((10:UInt8).toNat:Int) = 10 from rfl] at e
 rw [e,ob_some]
 obtain ⟨ls,z,h1,h2,h3⟩:=parts_ls 10 s
 have hsz:=fun x hx=>Nat.le_trans (parts_size (b:=10) (s:=s) (x:=x) hx) hs
 have hn:=(parts_len 10 s).2
 rw [h2,h3]
 rw [h1] at hsz hn ⊢
 simp only [List.length_append,List.length_singleton] at hn ⊢
 rw [w64_id (by omega) (by omega),show ((ls.length + 1:Nat):Int) - 1 = ls.length by omega,ix_ls,ob_some]
 show (bif (!(z.toList == emB.toList)) then _ else _) = _
 rw [ba_eq]
 by_cases hz:z = emB
 rotate_left
 · rw [decide_eq_false hz,if_neg (fun h=>hz h.1)]; rfl
 rw [decide_eq_true hz,Bool.not_true,cond_false]
 by_cases hc:ls.length ≤ 100
 rotate_left
 · rw [bif_true (by simp; omega),if_neg (by omega)]; rfl
 rw [bif_false (by simp; omega),if_pos ⟨hz,by omega⟩]
 unfold d_impl_ReadPlan_J1
 simp only [List.length_append,List.length_singleton]
 rw [w64_id (by omega) (by omega),show ((ls.length + 1:Nat):Int) - 1 = ls.length by omega,sls_ls,ob_some]
 have key:=lpI ls (fun n (o:List Carton × List Spot) i=>d_impl_ReadPlan_L1 2097153 ls n o.1 o.2 i) (fun xs o=>match lofs xs with | none=>some (P0,false) | some l=>some (⟨o.1 ++ l.map (·.1),o.2 ++ l.map (·.2)⟩,true)) (fun xs o=>(∀ x ∈ xs,x.size ≤ 1048576) ∧ o.1.length + xs.length ≤ 1000 ∧ o.2.length + xs.length ≤ 1000) (by omega) ?_ ?_ 2097153 ([],[]) ⟨fun x hx=>hsz x (by simp [hx]),by simp; omega,by simp; omega⟩ (by omega)
 · rw [key]
   cases lofs ls <;> rfl
 · intro n o i x xs hx hd hI ih
   obtain ⟨i1,i2,i3⟩:=hI
   simp only [List.length_cons] at i2 i3
   simp only [d_impl_ReadPlan_L1.eq_2]
   unfold d_impl_ReadPlan_L1_B
   rw [hd,cond_true,hx,ob_some,i_lof (i1 x (by simp)),ob_some,lofs]
   cases hv:(lofM x).2.2 with
   | false=>rfl
   | true =>
    rw [if_pos rfl,Bool.not_true,cond_false,ap1 (by simp only [List.length_singleton]; omega),ob_some,ap1 (by simp only [List.length_singleton]; omega),ob_some]
    have:=ih (o.1 ++ [(lofM x).1],o.2 ++ [(lofM x).2.1]) ⟨fun y hy=>i1 y (by simp [hy]),by simp only [List.length_append,List.length_singleton]; omega,by simp only [List.length_append,List.length_singleton]; omega⟩
    rw [this]
    cases lofs xs with
    | none=>rfl
    | some l=>simp
 · intro n o i hd _
   simp only [d_impl_ReadPlan_L1.eq_2]
   unfold d_impl_ReadPlan_L1_B
   rw [hd,cond_false]
   simp [lofs]
theorem s_rplL {z:ByteArray}:∀ (xs pre:List ByteArray) (cs:List Carton) (ts:List Spot) (k:Nat),(∀ x ∈ xs,x.size ≤ 1048576) → (cs.length = pre.length ∧ ts.length = pre.length ∧ pre.length + xs.length ≤ 1048576 ∧ ∀ p ∈ cs.zip ts,okO p = true) → xs.length < k →
    d_spec_ReadPlan_L1 2097153 (pre ++ (xs ++ [z])) k cs ts (pre.length:Int) = match lofs xs with | none=>some (P0,false) | some l=>if z = emB ∧ pre.length + xs.length ≤ 100 then some (⟨cs ++ l.map (·.1),ts ++ l.map (·.2)⟩,true) else some (P0,false)
 | [],pre,cs,ts,k,hx,hI,hk=>by
  obtain ⟨k,rfl⟩:∃ j,k = j + 1:=⟨k - 1,by omega⟩
  obtain ⟨i1,i2,i3,i4⟩:=hI
  rw [d_spec_ReadPlan_L1.eq_2]
  unfold d_spec_ReadPlan_L1_B
  simp only [List.nil_append,List.length_append,List.length_singleton,List.length_nil,Nat.add_zero] at i3 ⊢
  rw [w64_id (by omega) (by omega),show ((pre.length + 1:Nat):Int) - 1 = pre.length by omega,bif_false (by simp),ix_ls,ob_some]
  show (bif (!(z.toList == emB.toList)) then _ else _) = _
  rw [ba_eq]
  simp only [lofs,List.map_nil,List.append_nil]
  by_cases hz:z = emB
  rotate_left
  · rw [decide_eq_false hz,if_neg (fun h=>hz h.1)]; rfl
  rw [decide_eq_true hz,Bool.not_true,cond_false]
  by_cases hc:pre.length ≤ 100
  · rw [if_pos ⟨hz,hc⟩]
    have hu:∀ c ∈ cs,c.fUnits.length ≤ 100:=fun c hcm=>by
     obtain ⟨i,hi,rfl⟩:=List.getElem_of_mem hcm
     have h2:i < ts.length:=by omega
     have:=i4 (cs[i],ts[i]) (List.mem_iff_getElem.2 ⟨i,by simp; omega,by simp⟩)
     unfold okO at this
     rw [Bool.and_eq_true] at this
     exact cok_len this.1
    have hsp:Sp ⟨cs,ts⟩:=⟨by show cs.length ≤ _; omega,fun c hcm=>by have:=hu c hcm; omega,by
     have:=lensC_le' 100 cs hu
     show lensC cs ≤ _
     have h3:100 * cs.length ≤ 100 * 100:=Nat.mul_le_mul_left _ (by omega)
     omega,by show ts.length ≤ _; omega⟩
    rw [s_pok hsp (by omega),ob_some]
    have:pokB ⟨cs,ts⟩ = true:=by
     unfold pokB
     simp only [Bool.and_eq_true,beq_iff_eq,decide_eq_true_eq,List.all_eq_true]
     refine ⟨by omega,by omega,fun p hp=>?_⟩
     have:=i4 p hp
     unfold okO at this
     rwa [Bool.and_eq_true] at this
    rw [this]; rfl
  · rw [if_neg (fun h=>hc h.2)]
    unfold d_spec_PlanOk
    show obind (bif (((cs.length:Int)) != ((ts.length:Int))) then _ else bif (decide ((cs.length:Int) > 100)) then _ else _) _ = _
    rw [bif_false (by simp; omega),bif_true (by simp; omega),ob_some]
    rfl
 | x :: xs,pre,cs,ts,k,hx,hI,hk=>by
  obtain ⟨k,rfl⟩:∃ j,k = j + 1:=⟨k - 1,by omega⟩
  obtain ⟨i1,i2,i3,i4⟩:=hI
  simp only [List.length_cons] at hk i3
  rw [d_spec_ReadPlan_L1.eq_2]
  unfold d_spec_ReadPlan_L1_B
  have hi:ix (pre ++ (x :: xs ++ [z])) (pre.length:Int) = some x:=by
   rw [ix_nat]; simp
  simp only [List.length_append,List.length_singleton,List.length_cons,List.length_nil]
  rw [w64_id (by omega) (by omega),bif_true (by simp; omega),hi,ob_some,s_lof (hx x (by simp)),ob_some,lofs]
  cases hv:(lofM x).2.2 with
  | false=>rfl
  | true =>
   rw [if_pos rfl,Bool.not_true,cond_false,ap1 (by simp only [List.length_singleton]; omega),ob_some,ap1 (by simp only [List.length_singleton]; omega),ob_some,w64_id (by omega) (by omega)]
   have ih:=s_rplL (z:=z) xs (pre ++ [x]) (cs ++ [(lofM x).1]) (ts ++ [(lofM x).2.1]) k (fun y hy=>hx y (by simp [hy])) ⟨by simp; omega,by simp; omega,by simp; omega,fun p hp=>by
    rw [List.zip_append (by omega)] at hp
    rcases List.mem_append.1 hp with hp | hp
    · exact i4 p hp
    · rw [List.mem_singleton.1 hp]; exact (lofM_ok hv).1⟩ (by omega)
   rw [show pre ++ (x :: xs ++ [z]) = (pre ++ [x]) ++ (xs ++ [z]) by simp,show ((pre.length:Int) + 1) = (((pre ++ [x]).length:Nat):Int) by simp,ih]
   cases lofs xs with
   | none=>rfl
   | some l =>
    simp only [Option.map_some,List.length_append,List.length_singleton,List.map_cons,List.append_assoc,List.singleton_append]
    rw [show pre.length + 1 + xs.length = pre.length + (xs.length + 1) by omega]
theorem s_rpl {s:ByteArray} (hs:s.size ≤ 1048576):d_spec_ReadPlan 2097153 s = some (rplM s):=by
 unfold d_spec_ReadPlan rplM
 have e:=s_parts (b:=10) hs
 rw [show ((10:UInt8).toNat:Int) = 10 from rfl] at e
 rw [e,ob_some]
 obtain ⟨ls,z,h1,h2,h3⟩:=parts_ls 10 s
 have hsz:=fun x hx=>Nat.le_trans (parts_size (b:=10) (s:=s) (x:=x) hx) hs
 have hn:=(parts_len 10 s).2
 rw [h2,h3]
 rw [h1] at hsz hn ⊢
 simp only [List.length_append,List.length_singleton] at hn ⊢
 have:=s_rplL (z:=z) ls [] [] [] 2097153 (fun x hx=>hsz x (by simp [hx])) ⟨rfl,rfl,by simp; omega,by simp⟩ (by omega)
 rw [List.nil_append,show ((([]:List ByteArray).length:Nat):Int) = 0 from rfl] at this
 rw [this]
 simp only [List.length_nil,Nat.zero_add,List.nil_append]
 cases lofs ls with
 | none =>
  simp only
  split <;> rfl
 | some l =>
  simp only
  by_cases h:z = emB ∧ ls.length ≤ 100
  · rw [if_pos h,if_pos ⟨h.1,by omega⟩]; rfl
  · rw [if_neg h,if_neg (fun g=>h ⟨g.1,by omega⟩)]
theorem rpl_sp (s:ByteArray):Sp (rplM s).1:=by
 have h0:Sp P0:=⟨by simp [P0],by simp [P0],by simp [P0,lensC],by simp [P0]⟩
 unfold rplM
 split
 · rename_i h
   split
   · rename_i l hl
     have:=lofs_ok hl
     rw [List.length_dropLast] at this
     have hc:∀ c ∈ l.map (·.1),c.fUnits.length ≤ 100:=fun c hc=>by
      obtain ⟨p,hp,rfl⟩:=List.mem_map.1 hc
      have:=this.2 p hp
      unfold okO at this
      rw [Bool.and_eq_true] at this
      exact cok_len this.1
     have h3:=lensC_le' 100 _ hc
     rw [List.length_map] at h3
     exact ⟨by simp [plO]; omega,fun c hcm=>by have:=hc c hcm; omega,by show lensC (l.map (·.1)) ≤ _; omega,by simp [plO]; omega⟩
   · exact h0
 · exact h0
theorem pts_cons {b:UInt8} {w:List UInt8} (r:List UInt8) (h:b ∉ w):pts b (w ++ b :: r) = w :: pts b r:=by
 unfold pts
 rw [cut_app _ h,cut_sep]
 simp
theorem pts_one {b:UInt8} {w:List UInt8} (h:b ∉ w):pts b w = [w]:=by
 have:=cut_app [] h
 rw [List.append_nil] at this
 unfold pts
 rw [this]
 simp [cut]
theorem pts_words:∀ (l:List (List UInt8)) (w:List UInt8),32 ∉ w → (∀ x ∈ l,(32:UInt8) ∉ x) → pts 32 (w ++ (l.map fun x=>32 :: x).flatten) = w :: l
 | [],w,hw,_=>by simpa using pts_one hw
 | x :: l,w,hw,h=>by
  rw [List.map_cons,List.flatten_cons,List.cons_append,pts_cons _ hw,pts_words l x (h x (by simp)) fun y hy=>h y (by simp [hy])]
theorem pts_lines:∀ (l:List (List UInt8)),(∀ x ∈ l,(10:UInt8) ∉ x) → pts 10 (l.map fun x=>x ++ [10]).flatten = l ++ [[]]
 | [],_=>rfl
 | x :: l,h=>by
  have:((x :: l).map fun x=>x ++ [10]).flatten = x ++ 10 :: (l.map fun x=>x ++ [10]).flatten:=by simp
  rw [this,pts_cons _ (h x (by simp)),pts_lines l fun y hy=>h y (by simp [hy])]
  rfl
theorem numB_free {n:Int} (h:0 ≤ n):(32:UInt8) ∉ (numB n).data.toList ∧ (10:UInt8) ∉ (numB n).data.toList:=by
 obtain ⟨u,rfl⟩:∃ u:Nat,n = u:=⟨n.toNat,by omega⟩
 have e:(numB (u:Int)).data.toList = Lib.decDigits u:=by rw [numB_dd]
 rw [e]
 have:=dd_dig u
 exact ⟨fun hm=>absurd (this _ hm).1 (by decide),fun hm=>absurd (this _ hm).1 (by decide)⟩
theorem line_pts {p:ByteArray} {n:List Int} (hp:(32:UInt8) ∉ p.data.toList) (h:∀ x ∈ n,0 ≤ x):parts 32 (lineL p n) = p :: n.map numB:=by
 unfold parts
 have e:(lineL p n).data.toList = p.data.toList ++ ((n.map fun n=>(numB n).data.toList).map fun x=>32 :: x).flatten:=by
  rw [line_list,List.map_map]; rfl
 rw [e,pts_words _ _ hp fun x hx=>by
  obtain ⟨m,hm,rfl⟩:=List.mem_map.1 hx
  exact (numB_free (h m hm)).1]
 rw [List.map_cons,List.map_map]
 rfl
theorem line_free {n:List Int} (h:∀ x ∈ n,0 ≤ x):(10:UInt8) ∉ (lineL carB n).data.toList:=by
 rw [line_list]
 intro hm
 rcases List.mem_append.1 hm with hm | hm
 · revert hm; decide
 · obtain ⟨l,hl,hm⟩:=List.mem_flatten.1 hm
   obtain ⟨m,hmm,rfl⟩:=List.mem_map.1 hl
   rcases List.mem_cons.1 hm with e | e
   · exact absurd e (by decide)
   · exact (numB_free (h m hmm)).2 e
theorem okO_nums {p:Carton × Spot} (h:okO p = true):(∀ n ∈ numsL p.1 p.2,0 ≤ n ∧ n ≤ 999999) ∧ (numsL p.1 p.2).length ≤ 106:=by
 unfold okO at h
 rw [Bool.and_eq_true] at h
 exact nums_ok h.1 h.2
theorem lof_line {p:Carton × Spot} (h:okO p = true):lofM (lineL carB (numsL p.1 p.2)) = (p.1,p.2,true):=by
 have hn:=okO_nums h
 unfold lofM
 rw [line_pts (by decide) fun x hx=>(hn.1 x hx).1]
 show lofN carB (nms _) = _
 rw [nms_num hn.1]
 unfold lofN
 have e:carO (numsL p.1 p.2) = p:=rfl
 have h6:¬ (numsL p.1 p.2).length < 6:=by simp [numsL]
 simp only
 rw [if_neg h6,e,if_pos (by simpa using h)]
theorem lofs_lines:∀ {l:List (Carton × Spot)},(∀ p ∈ l,okO p = true) → lofs (l.map fun p=>lineL carB (numsL p.1 p.2)) = some l
 | [],_=>rfl
 | p :: l,h=>by
  have hp:=lof_line (h p (by simp))
  rw [List.map_cons,lofs,hp,if_pos rfl,lofs_lines fun q hq=>h q (by simp [hq])]
  rfl
theorem txt_fold:∀ (l:List (Carton × Spot)) (o:ByteArray),(l.foldl txtF o).data.toList = o.data.toList ++ (l.map fun p=>(lineL carB (numsL p.1 p.2)).data.toList ++ [10]).flatten
 | [],o=>by simp
 | p :: l,o=>by
  rw [List.foldl_cons,txt_fold l]
  unfold txtF
  rw [app_l,app_l]
  simp [nl1]
theorem pok_all {x:Plan} (h:pokB x = true):x.fSpots.length = x.fCartons.length ∧ x.fCartons.length ≤ 100 ∧ ∀ p ∈ x.fCartons.zip x.fSpots,okO p = true:=by
 unfold pokB at h
 simp only [Bool.and_eq_true,beq_iff_eq,decide_eq_true_eq,List.all_eq_true] at h
 obtain ⟨h1,h2,h3⟩:=h
 refine ⟨h1,by omega,fun p hp=>?_⟩
 unfold okO
 rw [Bool.and_eq_true]
 exact h3 p hp
theorem txt_list {x:Plan} (h:pokB x = true):(txtM x).data.toList = ((x.fCartons.zip x.fSpots).map fun p=>(lineL carB (numsL p.1 p.2)).data.toList ++ [10]).flatten:=by
 unfold txtM
 rw [h,cond_true,txt_fold]
 rfl
theorem txt_parts {x:Plan} (h:pokB x = true):parts 10 (txtM x) = ((x.fCartons.zip x.fSpots).map fun p=>lineL carB (numsL p.1 p.2)) ++ [emB]:=by
 have ha:=(pok_all h).2.2
 unfold parts
 have e:(txtM x).data.toList = (((x.fCartons.zip x.fSpots).map fun p=>(lineL carB (numsL p.1 p.2)).data.toList).map fun x=>x ++ [10]).flatten:=by
  rw [txt_list h,List.map_map]; rfl
 rw [e,pts_lines _ fun y hy=>by
  obtain ⟨p,hp,rfl⟩:=List.mem_map.1 hy
  exact line_free fun z hz=>((okO_nums (ha p hp)).1 z hz).1]
 rw [List.map_append,List.map_map]
 rfl
theorem plO_zip {x:Plan} (h:x.fSpots.length = x.fCartons.length):plO (x.fCartons.zip x.fSpots) = x:=by
 unfold plO
 rw [List.map_fst_zip (by omega),List.map_snd_zip (by omega)]
theorem rpl_txt {x:Plan} (h:pokB x = true):rplM (txtM x) = (x,true):=by
 obtain ⟨h1,h2,h3⟩:=pok_all h
 unfold rplM
 rw [txt_parts h]
 have hz:(x.fCartons.zip x.fSpots).length = x.fCartons.length:=by simp; omega
 rw [if_pos ⟨by simp,by simp; omega⟩,List.dropLast_concat,lofs_lines h3]
 simp only
 rw [plO_zip h1]
theorem rpl_emp:rplM emB = (P0,true):=by
 unfold rplM
 have:parts 10 emB = [emB]:=rfl
 rw [this,if_pos ⟨rfl,by simp⟩]
 rfl
theorem txt_no {x:Plan} (h:pokB x = false):txtM x = emB:=by
 unfold txtM
 rw [h]; rfl
theorem line_lof {s:ByteArray} (hs:s.size ≤ 1048576) (h:(lofM s).2.2 = true):lineL carB (numsL (lofM s).1 (lofM s).2.1) = s:=by
 obtain ⟨_,n,hp,m,hm,h6,hc⟩:=lofM_ok h
 have hx:=fun x (hx:x ∈ n)=>Nat.le_trans (parts_size (b:=32) (s:=s) (x:=x) (by rw [hp]; simp [hx])) hs
 have hb:=nms_some hx hm
 have e:=nums_car m h6
 rw [hc] at e
 rw [e]
 exact line_parts (by rw [hp,← hb.1])
theorem lofs_back:∀ {ls:List ByteArray} {l:List (Carton × Spot)},(∀ x ∈ ls,x.size ≤ 1048576) → lofs ls = some l → l.map (fun p=>lineL carB (numsL p.1 p.2)) = ls
 | [],l,_,h=>by rw [← Option.some.inj h]; rfl
 | x :: ls,l,hx,h=>by
  rw [lofs] at h
  split at h
  · rename_i hv
    cases hl:lofs ls with
    | none=>rw [hl] at h; simp at h
    | some m =>
     rw [hl] at h
     rw [← Option.some.inj h,List.map_cons,lofs_back (fun y hy=>hx y (by simp [hy])) hl,line_lof (hx x (by simp)) hv]
  · simp at h
theorem parts_list (s:ByteArray) {ls:List ByteArray} (h:parts 10 s = ls ++ [emB]):s.data.toList = (ls.map fun x=>x.data.toList ++ [10]).flatten:=by
 have hj:=cut_join 10 s.data.toList
 unfold parts pts at h
 have h2:=congrArg (List.map fun x:ByteArray=>x.data.toList) h
 rw [List.map_map,List.map_append] at h2
 have e3:((fun x:ByteArray=>x.data.toList) ∘ ofL) = id:=by funext x; rfl
 rw [e3,List.map_id] at h2
 rw [hj]
 have key:∀ (ls:List (List UInt8)) (a:List UInt8) (r:List (List UInt8)),a :: r = ls ++ [[]] → a ++ (r.map fun x=>10 :: x).flatten = (ls.map fun x=>x ++ [10]).flatten:=by
  intro ls
  induction ls with
  | nil =>
   intro a r e
   simp only [List.nil_append,List.cons.injEq] at e
   rw [e.1,e.2]; rfl
  | cons l ls ih =>
   intro a r e
   simp only [List.cons_append,List.cons.injEq] at e
   cases r with
   | nil=>have:=congrArg List.length e.2; simp at this
   | cons b r =>
    rw [e.1]
    have:=ih b r e.2
    simp only [List.map_cons,List.flatten_cons,List.cons_append]
    rw [← this]
    simp
 have:=key (ls.map fun x=>x.data.toList) _ _ h2
 rw [this,List.map_map]
 rfl
theorem txt_rpl {s:ByteArray} (hs:s.size ≤ 1048576) (h:(rplM s).2 = true):txtM (rplM s).1 = s ∧ pokB (rplM s).1 = true:=by
 obtain ⟨ls,z,h1,h2,h3⟩:=parts_ls 10 s
 have hsz:=fun x hx=>Nat.le_trans (parts_size (b:=10) (s:=s) (x:=x) hx) hs
 unfold rplM at h ⊢
 rw [h2,h3] at h ⊢
 split at h
 · rename_i hz
   rw [if_pos hz]
   cases hl:lofs ls with
   | none=>rw [hl] at h; simp at h
   | some l =>
    simp only
    have hk:=lofs_ok hl
    have hlen:ls.length + 1 ≤ 101:=by have:=hz.2; rw [h1] at this; simpa using this
    have hzip:(plO l).fCartons.zip (plO l).fSpots = l:=by
     unfold plO
     simp only
     exact (List.zip_of_prod rfl rfl).symm
    have hp:pokB (plO l) = true:=by
     unfold pokB
     rw [hzip]
     simp only [Bool.and_eq_true,beq_iff_eq,decide_eq_true_eq,List.all_eq_true]
     refine ⟨by simp [plO],by simp [plO]; omega,fun p hp=>?_⟩
     have:=hk.2 p hp
     unfold okO at this
     rwa [Bool.and_eq_true] at this
    refine ⟨ba_l ?_,hp⟩
    rw [txt_list hp,hzip,parts_list s (ls:=ls) (by rw [h1,hz.1]),← lofs_back (fun x hx=>hsz x (by rw [h1]; simp [hx])) hl,List.map_map]
    rfl
 · simp at h
theorem txt_one {s:ByteArray} (hs:s.size ≤ 1048576) (h:(lofM s).2.2 = true):txtM ⟨[(lofM s).1],[(lofM s).2.1]⟩ = s ++ nl1:=by
 have hk:=(lofM_ok h).1
 have hp:pokB ⟨[(lofM s).1],[(lofM s).2.1]⟩ = true:=by rw [pok1]; exact hk
 apply ba_l
 rw [txt_list hp,app_l]
 simp only [List.zip_cons_cons,List.zip_nil_left,List.map_cons,List.map_nil,List.flatten_cons,List.flatten_nil,List.append_nil]
 rw [line_lof hs h]
 rfl
def nb (n:Int):Prop:=-1000000 ≤ n ∧ n ≤ 1000000
def n0 (n:Int):Prop:=0 ≤ n ∧ n ≤ 999999
def NC (p:Int → Prop) (c:Carton):Prop:=p c.fType ∧ p c.fGroup ∧ ∀ u ∈ c.fUnits,p u
def NS (p:Int → Prop) (s:Spot):Prop:=p s.fPallet ∧ p s.fX ∧ p s.fY ∧ p s.fZ
def NP (p:Int → Prop) (x:Plan):Prop:=(∀ c ∈ x.fCartons,NC p c) ∧ ∀ s ∈ x.fSpots,NS p s
theorem n0.nb {n:Int} (h:n0 n):nb n:=⟨by have:=h.1; omega,by have:=h.2; omega⟩
theorem NC.nb {c:Carton} (h:NC n0 c):NC nb c:=⟨h.1.nb,h.2.1.nb,fun u hu=>(h.2.2 u hu).nb⟩
theorem NS.nb {s:Spot} (h:NS n0 s):NS nb s:=⟨h.1.nb,h.2.1.nb,h.2.2.1.nb,h.2.2.2.nb⟩
theorem np_pok {x:Plan} (h:pokB x = true):NP n0 x:=by
 obtain ⟨h1,h2,h3⟩:=pok_all h
 have hc:∀ p ∈ x.fCartons.zip x.fSpots,NC n0 p.1 ∧ NS n0 p.2:=fun p hp=>by
  have hm:=(okO_nums (h3 p hp)).1
  unfold numsL at hm
  exact ⟨⟨hm _ (by simp),hm _ (by simp),fun u hu=>hm u (by simp [hu])⟩,hm _ (by simp),hm _ (by simp),hm _ (by simp),hm _ (by simp)⟩
 refine ⟨fun c hcm=>?_,fun s hsm=>?_⟩
 · obtain ⟨i,hi,rfl⟩:=List.getElem_of_mem hcm
   exact (hc (x.fCartons[i],x.fSpots[i]'(by omega)) (List.mem_iff_getElem.2 ⟨i,by simp; omega,by simp⟩)).1
 · obtain ⟨i,hi,rfl⟩:=List.getElem_of_mem hsm
   exact (hc (x.fCartons[i]'(by omega),x.fSpots[i]) (List.mem_iff_getElem.2 ⟨i,by simp; omega,by simp⟩)).2
theorem np_pln (r:Request):NP n0 (plnM r).1:=by
 by_cases hc:clsM r = 0
 · exact np_pok (pln_fea hc).pok
 · have e:plnM r = (⟨[],[]⟩,false):=by
     unfold plnM
     rw [show (clsM r == 0) = false by simpa using hc]; rfl
   rw [e]
   exact ⟨by simp,by simp⟩
theorem setAll {α:Type} {p:α → Prop} {l:List α} {i:Int} {y:α} (h:∀ c ∈ l,p c) (hy:p y):∀ c ∈ setx l i y,p c:=by
 intro c hc
 unfold setx at hc
 rcases List.mem_or_eq_of_mem_set hc with hc | rfl
 · exact h c hc
 · exact hy
theorem dr_l13N {fu:Nat} {b:List U8} (hb:b.length ≤ 1048576) (hf:2097153 ≤ fu):Tot (d_spec_l13Draw fu b) fun x=>SmR x.1 ∧ SmP x.2 ∧ NP nb x.2:=by
 obtain ⟨x,hx,h1,h2⟩:=dr_l13 (fu:=fu) hb hf
 refine ⟨x,hx,h1,h2,?_⟩
 have key:Tot (d_spec_l13Draw fu b) fun x=>NP nb x.2:=by
  unfold d_spec_l13Draw d_spec_l13Draw_J1
  refine Tot.bind (dr_class hb hf) fun r hr=>?_
  rw [s_plan (hr.sm hf),ob_some]
  obtain ⟨p1,p2,p3⟩:=pln_len r
  obtain ⟨m1,m2⟩:=np_pln r
  generalize plnM r = P at p1 p2 p3 m1 m2 ⊢
  have k1:∀ c ∈ P.1.fCartons,NC nb c:=fun c hc=>(m1 c hc).nb
  have k2:∀ s ∈ P.1.fSpots,NS nb s:=fun s hs=>(m2 s hs).nb
  refine Tot.bind (dr_new hb (by omega)) fun c hc=>?_
  refine Tot.bif (fun _=>Tot.mk ⟨k1,k2⟩) fun hne=>?_
  have hpos:0 < P.1.fCartons.length:=by
   simp only [beq_eq_false_iff_ne] at hne
   omega
  refine Tot.bind (dr_below hc.re' _) fun i hi=>?_
  have hi0:=hi.1.1
  have hi1:=hi.1.2 (by omega)
  refine Tot.bind (dr_below hi.2.re' _) fun k hk=>?_
  refine Tot.bif (fun _=>?_) fun _=>?_
  · refine Tot.ix ⟨hi0,by omega⟩ fun s hs=>Tot.ix ⟨hi0,by omega⟩ fun t ht=>Tot.mk ⟨k1,setAll k2 ?_⟩
    obtain ⟨q1,q2,q3,q4⟩:=k2 s hs
    have hX:=(m2 s hs).2.1
    obtain ⟨x1,x2⟩:=hX
    have e:=w64_id (n:=s.fX + 1) (by omega) (by omega)
    exact ⟨q1,by rw [e]; exact ⟨show -1000000 ≤ s.fX + 1 by omega,show s.fX + 1 ≤ 1000000 by omega⟩,q3,q4⟩
  refine Tot.bif (fun _=>?_) fun _=>?_
  · refine Tot.bind (dr_below hk.2.re' _) fun v hv=>Tot.ix ⟨hi0,by omega⟩ fun s hs=>Tot.mk ⟨k1,setAll k2 ?_⟩
    obtain ⟨q1,q2,q3,q4⟩:=k2 s hs
    have h0:=hv.1.1
    have h3:=hv.1.2 (by omega)
    exact ⟨⟨by show -1000000 ≤ v.1; omega,by show v.1 ≤ 1000000; omega⟩,q2,q3,q4⟩
  refine Tot.bif (fun _=>?_) fun _=>?_
  · refine Tot.bind (dr_pick hk.2.re' _ (by simp)) fun v hv=>Tot.ix ⟨hi0,by omega⟩ fun s hs=>Tot.mk ⟨setAll k1 ?_,k2⟩
    obtain ⟨q1,q2,q3⟩:=k1 s hs
    have:=hv.1
    simp only [List.mem_cons,List.not_mem_nil,or_false] at this
    exact ⟨⟨by show -1000000 ≤ v.1; omega,by show v.1 ≤ 1000000; omega⟩,q2,q3⟩
  refine Tot.bif (fun _=>?_) fun _=>?_
  · refine Tot.ix ⟨hi0,by omega⟩ fun s hs=>Tot.bind (dr_below hk.2.re' _) fun v hv=>Tot.ap (by have:=p3 s hs; simp; omega) (Tot.ix ⟨hi0,by omega⟩ fun t ht=>Tot.mk ⟨setAll k1 ?_,k2⟩)
    obtain ⟨q1,q2,q3⟩:=k1 s hs
    have h0:=hv.1.1
    have h3:=hv.1.2 (by omega)
    refine ⟨q1,q2,fun u hu=>?_⟩
    rcases List.mem_append.1 hu with hu | hu
    · exact q3 u hu
    · rw [List.mem_singleton.1 hu,w64_id (by omega) (by omega)]
      exact ⟨by omega,by omega⟩
  refine Tot.bif (fun _=>?_) fun _=>?_
  · refine Tot.ix ⟨hi0,by omega⟩ fun s hs=>Tot.mk ⟨setAll k1 ?_,k2⟩
    obtain ⟨q1,q2,q3⟩:=k1 s hs
    exact ⟨q1,q2,by simp⟩
  refine Tot.bif (fun _=>?_) fun _=>?_
  · rw [sls_from1 (by omega),ob_some]
    exact Tot.mk ⟨k1,fun s hs=>k2 s (List.mem_of_mem_drop hs)⟩
  refine Tot.bif (fun _=>?_) fun _=>?_
  · refine Tot.bind (dr_below hk.2.re' _) fun v hv=>Tot.ix ⟨hi0,by omega⟩ fun s hs=>Tot.mk ⟨setAll k1 ?_,k2⟩
    obtain ⟨q1,q2,q3⟩:=k1 s hs
    have h0:=hv.1.1
    have h3:=hv.1.2 (by omega)
    have e:=w64_id (n:=v.1 - 1) (by omega) (by omega)
    exact ⟨q1,by rw [e]; exact ⟨show -1000000 ≤ v.1 - 1 by omega,show v.1 - 1 ≤ 1000000 by omega⟩,q3⟩
  refine Tot.bif (fun _=>?_) fun _=>?_
  · refine Tot.ix ⟨hi0,by omega⟩ fun s hs=>?_
    have:=p3 s hs
    unfold d_spec_l9Carton
    rw [ap1 (by simp; omega),ob_some,ob_some]
    refine Tot.ap (by simp; omega) (Tot.ap (by simp; omega) (Tot.mk ⟨fun c hc=>?_,fun s hs=>?_⟩))
    · rcases List.mem_append.1 hc with hc | hc
      · exact k1 c hc
      · rw [List.mem_singleton.1 hc]
        obtain ⟨q1,q2,q3⟩:=k1 s hs
        exact ⟨q1,q2,by simpa using q3⟩
    · rcases List.mem_append.1 hs with hs | hs
      · exact k2 s hs
      · rw [List.mem_singleton.1 hs]
        exact ⟨⟨by decide,by decide⟩,⟨by decide,by decide⟩,⟨by decide,by decide⟩,⟨by decide,by decide⟩⟩
  refine Tot.bif (fun _=>?_) fun _=>?_
  · refine Tot.bind (dr_pick hk.2.re' _ (by simp)) fun v hv=>Tot.ix ⟨hi0,by omega⟩ fun s hs=>Tot.mk ⟨k1,setAll k2 ?_⟩
    obtain ⟨q1,q2,q3,q4⟩:=k2 s hs
    have:=hv.1
    simp only [List.mem_cons,List.not_mem_nil,or_false] at this
    exact ⟨q1,q2,q3,⟨by show -1000000 ≤ v.1; omega,by show v.1 ≤ 1000000; omega⟩⟩
  · exact Tot.mk ⟨k1,k2⟩
 obtain ⟨y,hy,h3⟩:=key
 rw [hx] at hy
 rw [Option.some.inj hy]
 exact h3
theorem s_l1same {fu:Nat} (l:List Int) (hl:l.length ≤ 1048576) (hf:l.length < fu):d_spec_l1Same fu l l = some true:=by
 unfold d_spec_l1Same
 rw [bif_false (by simp)]
 refine lp l (fun n (_:Unit) i=>d_spec_l1Same_L1 fu l l n i) (fun _ _=>some true) (by omega) ?_ ?_ fu () hf
 · intro n s i x xs hx hd ih
   simp only [d_spec_l1Same_L1.eq_2]
   unfold d_spec_l1Same_L1_B
   rw [hd,cond_true,hx,ob_some,ob_some,bif_false (by simp),ih ()]
 · intro n s i hd
   simp only [d_spec_l1Same_L1.eq_2]
   unfold d_spec_l1Same_L1_B
   rw [hd,cond_false]
theorem s_same {fu:Nat} {x:Plan} (h:Sp x) (hf:1048577 ≤ fu):d_spec_PlanSame fu x x = some true:=by
 unfold d_spec_PlanSame d_spec_PlanSame_J2
 rw [bif_false (by simp),bif_false (by simp)]
 have hL1:d_spec_PlanSame_L1 fu x x fu 0 = some true:=by
  refine lp x.fSpots (fun n (_:Unit) i=>d_spec_PlanSame_L1 fu x x n i) (fun _ _=>some true) (by have:=h.spots; omega) ?_ ?_ fu () (by have:=h.spots; omega)
  · intro n s i y xs hx hd ih
    simp only [d_spec_PlanSame_L1.eq_2]
    unfold d_spec_PlanSame_L1_B
    rw [hd,cond_true,hx,ob_some,ob_some,bif_false (by simp),ih ()]
  · intro n s i hd
    simp only [d_spec_PlanSame_L1.eq_2]
    unfold d_spec_PlanSame_L1_B
    rw [hd,cond_false]
 refine lp x.fCartons (fun n (_:Unit) i=>d_spec_PlanSame_L2 fu x x n i) (fun _ _=>some true) (by have:=h.cars; omega) ?_ ?_ fu () (by have:=h.cars; omega)
 · intro n s i y xs hx hd ih
   have hu:=h.units y (ix_mem hx)
   simp only [d_spec_PlanSame_L2.eq_2]
   unfold d_spec_PlanSame_L2_B d_spec_PlanSame_J1
   rw [hd,cond_true]
   simp only [hx,ob_some,bne_self_eq_false,cond_false,s_l1same (fu:=fu) y.fUnits hu (by omega),Bool.not_true]
   exact ih ()
 · intro n s i hd
   simp only [d_spec_PlanSame_L2.eq_2]
   unfold d_spec_PlanSame_L2_B
   rw [hd,cond_false]; exact hL1
end Go.Proofs.YthkaklkinepfkaaGreatDoor
