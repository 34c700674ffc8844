import Derived.Test.YtkkfmjpbiimkbaaGreatFillBP1
set_option linter.unusedSimpArgs false
set_option linter.unusedVariables false
/- Volumes of units, by spec and by impl. -/
namespace Go.Proofs.YtkkfmjpbiimkbaaGreat
open Go
open Enc (rd ow)
open Arg (argv)
open Ret (retv)
open Wf (wf)
theorem vol3 {w h d:Int} (hb:(inb w 0 2000 && (inb h 0 2000 && inb d 0 2000)) = true):w64 ((w64 (w * h)) * d) = w * h * d:=by
 simp only [Bool.and_eq_true,inb_iff] at hb
 obtain ⟨⟨h1,h2⟩,⟨h3,h4⟩,h5,h6⟩:=hb
 have a1:0 ≤ w * h:=Int.mul_nonneg h1 h3
 have a2:w * h ≤ 2000 * 2000:=Int.mul_le_mul h2 h4 h3 (by omega)
 have a3:0 ≤ w * h * d:=Int.mul_nonneg a1 h5
 have a4:w * h * d ≤ 2000 * 2000 * 2000:=Int.mul_le_mul a2 h6 h5 (by omega)
 rw [w64_id (n:=w * h) (by omega) (by omega),w64_id (by omega) (by omega)]
theorem s_vol (fu:Nat) (w h d:Int):d_spec_Volume fu w h d = some (volB w h d):=by
 unfold d_spec_Volume d_spec_Volume_J1 volB
 simp only [s_in,ob_some]
 cases h1:inb w 0 2000 <;> cases h2:inb h 0 2000 <;> cases h3:inb d 0 2000 <;> simp only [Bool.not_true,Bool.not_false,cond_true,cond_false,Bool.and_true,Bool.and_false]
 rw [vol3 (by simp only [h1,h2,h3]; rfl)]
theorem i_vol (fu:Nat) (w h d:Int):d_impl_Volume fu w h d = some (volB w h d):=by
 unfold d_impl_Volume d_impl_Volume_J1 volB
 simp only [i_in,ob_some]
 cases h1:inb w 0 2000 <;> cases h2:inb h 0 2000 <;> cases h3:inb d 0 2000 <;> simp only [Bool.not_true,Bool.not_false,cond_true,cond_false,Bool.and_true,Bool.and_false]
 rw [vol3 (by simp only [h1,h2,h3]; rfl)]
def itmZ (r:Request) (u:Int):Item:=(itmM r u).getD zItem
theorem w64_len (r:Request):w64 (((untM r).length:Int) - 1) = ((untM r).length:Int) - 1:=by
 have:=untM_len r
 exact w64_id (by omega) (by omega)
theorem s_item (fu:Nat) (r:Request) (u:Int):d_spec_l6Item fu r (untM r) u = some (itmZ r u,(itmM r u).isSome):=by
 unfold d_spec_l6Item itmZ
 rw [w64_len,s_in,ob_some]
 by_cases h:0 ≤ u ∧ u < (untM r).length
 · obtain ⟨i,x,h1,h2,h3⟩:=itmM_in h
   rw [bif_false (by simp; omega),h1,ob_some,h2,ob_some,h3]
   rfl
 · rw [bif_true (by simp [inb]; omega),itmM_out h]
   rfl
theorem vol_zero:volI zItem = 0:=by simp [volI,volB,zItem]
theorem s_volOf {fu:Nat} {r:Request} (h:Sm fu r) (us:List Int) (hl:us.length ≤ 1048576) (hf:us.length < fu):d_spec_VolumeOf fu r us = some (volM r us):=by
 unfold d_spec_VolumeOf
 rw [s_unt h,ob_some]
 have key:=lpI us (fun n s i=>d_spec_VolumeOf_L1 fu r us (untM r) n s i) (fun l n=>some (n + volM r l)) (fun l n=>0 ≤ n ∧ n + 8000000000 * l.length ≤ 8000000000 * 1048576) (by omega) ?_ ?_ fu 0 ⟨by omega,by omega⟩ hf
 · simpa using key
 · intro n s i x xs hx hd hI ih
   simp only [d_spec_VolumeOf_L1.eq_2]
   unfold d_spec_VolumeOf_L1_B d_spec_VolumeOf_J2 d_spec_VolumeOf_J1
   simp only [hd,cond_true,hx,ob_some,s_item,s_vol]
   have hv:=volB_nn (itmZ r x).fW (itmZ r x).fH (itmZ r x).fD
   have h2:=hI.2
   simp only [List.length_cons] at h2
   rw [w64_id (by omega) (by omega),ih _ ⟨by omega,by omega⟩]
   congr 1
   have e:volM r (x :: xs) = volI (itmZ r x) + volM r xs:=by
    unfold volM itsM itmZ
    cases hm:itmM r x with
    | none=>simp [List.filterMap_cons,hm,vol_zero]
    | some y=>simp [List.filterMap_cons,hm]
   rw [e,show volB (itmZ r x).fW (itmZ r x).fH (itmZ r x).fD = volI (itmZ r x) from rfl]
   omega
 · intro n s i hd _
   simp only [d_spec_VolumeOf_L1.eq_2]
   unfold d_spec_VolumeOf_L1_B
   simp only [hd,cond_false]
   simp [volM,itsM]
theorem i_items {fu:Nat} {r:Request} (h:Sm fu r) (us:List Int) (hl:us.length ≤ 1048576) (hf:us.length < fu):d_impl_itemsOf fu r us = some (itsM r us):=by
 unfold d_impl_itemsOf
 rw [i_unt h,ob_some]
 have key:=lpI us (fun n s i=>d_impl_itemsOf_L1 fu r us (untM r) n s i) (fun l out=>some (out ++ itsM r l)) (fun l out=>out.length + l.length ≤ 1048576) (by omega) ?_ ?_ fu [] (by simpa using hl) hf
 · simpa using key
 · intro n s i x xs hx hd hI ih
   simp only [d_impl_itemsOf_L1.eq_2]
   unfold d_impl_itemsOf_L1_B d_impl_itemsOf_J1
   simp only [hd,cond_true,hx,ob_some,w64_len,i_in]
   simp only [List.length_cons] at hI
   by_cases hu:0 ≤ x ∧ x < (untM r).length
   · obtain ⟨i',y,h1,h2,h3⟩:=itmM_in hu
     rw [bif_true (by simp; omega),h1,ob_some,h2,ob_some,ap1 (by simp; omega),ob_some,ih _ (by simp; omega)]
     simp [itsM,List.filterMap_cons,h3]
   · rw [bif_false (by simp [inb]; omega),ih _ (by omega)]
     simp [itsM,List.filterMap_cons,itmM_out hu]
 · intro n s i hd _
   simp only [d_impl_itemsOf_L1.eq_2]
   unfold d_impl_itemsOf_L1_B
   simp only [hd,cond_false]
   simp [itsM]
theorem i_volOf {fu:Nat} {r:Request} (h:Sm fu r) (us:List Int) (hl:us.length ≤ 1048576) (hf:us.length < fu):d_impl_VolumeOf fu r us = some (volM r us):=by
 unfold d_impl_VolumeOf
 rw [i_items h us hl hf,ob_some]
 have hlen:=itsM_len r us
 have key:=lpI (itsM r us) (fun n s i=>d_impl_VolumeOf_L1 fu (itsM r us) n s i) (fun l n=>some (n + sumI (l.map volI))) (fun l n=>0 ≤ n ∧ n + 8000000000 * l.length ≤ 8000000000 * 1048576) (by omega) ?_ ?_ fu 0 ⟨by omega,by omega⟩ (by omega)
 · simpa [volM] using key
 · intro n s i x xs hx hd hI ih
   simp only [d_impl_VolumeOf_L1.eq_2]
   unfold d_impl_VolumeOf_L1_B
   simp only [hd,cond_true,hx,ob_some,i_vol]
   have hv:=volB_nn x.fW x.fH x.fD
   have h2:=hI.2
   simp only [List.length_cons] at h2
   rw [w64_id (by omega) (by omega),ih _ ⟨by omega,by omega⟩]
   simp only [List.map_cons,sumI_cons,volI]
   congr 1
   omega
 · intro n s i hd _
   simp only [d_impl_VolumeOf_L1.eq_2]
   unfold d_impl_VolumeOf_L1_B
   simp only [hd,cond_false]
   simp
end Go.Proofs.YtkkfmjpbiimkbaaGreat
/- Weights of units, by spec and by impl. -/
namespace Go.Proofs.YtkkfmjpbiimkbaaGreat
open Go
open Enc (rd ow)
open Arg (argv)
open Ret (retv)
open Wf (wf)
theorem itmZ_gram (r:Request) (u:Int):0 ≤ (itmZ r u).fGram ∧ (itmZ r u).fGram ≤ 100000:=by
 unfold itmZ
 cases hm:itmM r u with
 | none=>simp [zItem]
 | some x=>exact grm_mem (r:=r) (us:=[u]) (by simp [itsM,List.filterMap_cons,hm])
theorem i_grm {fu:Nat} {r:Request} (h:Sm fu r) (us:List Int) (hl:us.length ≤ 1048576) (hf:us.length < fu):d_impl_GramOf fu r us = some (grmM r us):=by
 unfold d_impl_GramOf
 rw [i_items h us hl hf,ob_some]
 have hlen:=itsM_len r us
 have key:=lpI (itsM r us) (fun n s i=>d_impl_GramOf_L1 fu (itsM r us) n s i) (fun l n=>some (n + sumI (l.map (·.fGram)))) (fun l n=>0 ≤ n ∧ n + 100000 * l.length ≤ 100000 * 1048576 ∧ ∀ x ∈ l,0 ≤ x.fGram ∧ x.fGram ≤ 100000) (by omega) ?_ ?_ fu 0 ⟨by omega,by omega,fun x hx=>grm_mem hx⟩ (by omega)
 · simpa [grmM] using key
 · intro n s i x xs hx hd hI ih
   simp only [d_impl_GramOf_L1.eq_2]
   unfold d_impl_GramOf_L1_B
   simp only [hd,cond_true,hx,ob_some]
   have hv:=hI.2.2 x (by simp)
   have h2:=hI.2.1
   simp only [List.length_cons] at h2
   rw [w64_id (by omega) (by omega),ih _ ⟨by omega,by omega,fun y hy=>hI.2.2 y (by simp [hy])⟩]
   simp only [List.map_cons,sumI_cons]
   congr 1
   omega
 · intro n s i hd _
   simp only [d_impl_GramOf_L1.eq_2]
   unfold d_impl_GramOf_L1_B
   simp only [hd,cond_false]
   simp
end Go.Proofs.YtkkfmjpbiimkbaaGreat
/- Load of units, room for one more, units that may lie beside: by spec and by impl. -/
namespace Go.Proofs.YtkkfmjpbiimkbaaGreat
open Go
open Enc (rd ow)
open Arg (argv)
open Ret (retv)
open Wf (wf)
theorem vol_cons (r:Request) (x:Int) (xs:List Int):volM r (x :: xs) = volI (itmZ r x) + volM r xs:=by
 unfold volM itsM itmZ
 cases hm:itmM r x with
 | none=>simp [List.filterMap_cons,hm,vol_zero]
 | some y=>simp [List.filterMap_cons,hm]
theorem grm_cons (r:Request) (x:Int) (xs:List Int):grmM r (x :: xs) = (itmZ r x).fGram + grmM r xs:=by
 unfold grmM itsM itmZ
 cases hm:itmM r x with
 | none=>simp [List.filterMap_cons,hm,zItem]
 | some y=>simp [List.filterMap_cons,hm]
theorem s_l7Of {fu:Nat} (r:Request) (us:List Int) (hl:us.length ≤ 1048576) (hf:us.length < fu):d_spec_l7Of fu r (untM r) us = some ⟨volM r us,grmM r us⟩:=by
 unfold d_spec_l7Of
 have key:=lpI us (fun n s i=>d_spec_l7Of_L1 fu r (untM r) us n s i) (fun l s=>some (⟨s.fvol + volM r l,s.fgram + grmM r l⟩:L7))
  (fun l s=>0 ≤ s.fvol ∧ s.fvol + 8000000000 * l.length ≤ 8000000000 * 1048576 ∧ 0 ≤ s.fgram ∧ s.fgram + 100000 * l.length ≤ 100000 * 1048576) (by omega) ?_ ?_ fu ⟨0,0⟩ ⟨by simp,by simp; omega,by simp,by simp; omega⟩ hf
 · simpa using key
 · intro n s i x xs hx hd hI ih
   simp only [d_spec_l7Of_L1.eq_2]
   unfold d_spec_l7Of_L1_B d_spec_l7Of_J2 d_spec_l7Of_J1
   simp only [hd,cond_true,hx,ob_some,s_item,s_vol]
   have hv:=volB_nn (itmZ r x).fW (itmZ r x).fH (itmZ r x).fD
   have hg:=itmZ_gram r x
   obtain ⟨a1,a2,a3,a4⟩:=hI
   simp only [List.length_cons] at a2 a4
   rw [w64_id (n:=s.fvol + _) (by omega) (by omega),w64_id (n:=s.fgram + _) (by omega) (by omega),ih _ ⟨by simp; omega,by simp; omega,by simp; omega,by simp; omega⟩,vol_cons,grm_cons,show volB (itmZ r x).fW (itmZ r x).fH (itmZ r x).fD = volI (itmZ r x) from rfl]
   simp only [Option.some.injEq,L7.mk.injEq]
   constructor <;> omega
 · intro n s i hd _
   simp only [d_spec_l7Of_L1.eq_2]
   unfold d_spec_l7Of_L1_B
   simp only [hd,cond_false]
   simp [volM,grmM,itsM]
def witB (r:Request) (us:List Int) (t:Typ):Bool:=decide (volM r us ≤ volT t) && decide (grmM r us ≤ t.fGram)
theorem s_l7Room {fu:Nat} (r:Request) (t:Typ) (us:List Int) (u:Int) (hl:us.length < 1048576) (hf:us.length + 1 < fu):d_spec_l7Room fu r (untM r) t us u = some (witB r (us ++ [u]) t):=by
 unfold d_spec_l7Room d_spec_l7Room_J1 witB
 rw [ap1 (by simp; omega),ob_some,List.nil_append,ap1 (by simp; omega),ob_some,s_l7Of r _ (by simp; omega) (by simp; omega),ob_some,s_vol,ob_some]
 show (bif decide (volM r (us ++ [u]) ≤ volT t) then _ else _) = _
 cases decide (volM r (us ++ [u]) ≤ volT t) <;> simp
theorem i_within {fu:Nat} {r:Request} (h:Sm fu r) (t:Typ) (us:List Int) (hl:us.length ≤ 1048576):d_impl_within fu r us t = some (witB r us t):=by
 have hfu:=h.fu
 unfold d_impl_within witB
 rw [i_volOf h us hl (by omega),ob_some,i_vol,ob_some,i_grm h us hl (by omega)]
 show (bif decide (volM r us ≤ volT t) then _ else _) = _
 cases decide (volM r us ≤ volT t) <;> simp
theorem othM_1 {r:Request}:(othM (typM r r.fMaster)).1 = masM r:=rfl
end Go.Proofs.YtkkfmjpbiimkbaaGreat
/- How often a number stands in a list, by spec. -/
namespace Go.Proofs.YtkkfmjpbiimkbaaGreat
open Go
open Enc (rd ow)
open Arg (argv)
open Ret (retv)
open Wf (wf)
end Go.Proofs.YtkkfmjpbiimkbaaGreat
/- Orders in the laws: their size, copies, equality. -/
namespace Go.Proofs.YtkkfmjpbiimkbaaGreat
open Go
open Enc (rd ow)
open Arg (argv)
open Ret (retv)
open Wf (wf)
end Go.Proofs.YtkkfmjpbiimkbaaGreat
/- Lists of lists of numbers in the laws: their size, copies. -/
namespace Go.Proofs.YtkkfmjpbiimkbaaGreat
open Go
open Enc (rd ow)
open Arg (argv)
open Ret (retv)
open Wf (wf)
end Go.Proofs.YtkkfmjpbiimkbaaGreat
/- IsPacking of spec and of impl. -/
namespace Go.Proofs.YtkkfmjpbiimkbaaGreat
open Go
open Enc (rd ow)
open Arg (argv)
open Ret (retv)
open Wf (wf)
def thrM (r:Request) (us:List Int):List Int:=us.filter fun u=>inb u 0 (((untM r).length:Int) - 1)
theorem i_there {fu:Nat} {r:Request} (h:Sm fu r) (us:List Int) (hl:us.length ≤ 1048576):d_impl_thereOf fu r us = some (thrM r us):=by
 have hfu:=h.fu
 unfold d_impl_thereOf d_slices_Clone_int_int thrM
 rw [i_unt h,ob_some,ap1 (by simp; omega),ob_some,ob_some,List.nil_append,i_del _ (fun u=>!inb u 0 (((untM r).length:Int) - 1)) ?_ hl (by omega),ob_some]
 · simp
 · intro u _
   unfold d_impl_thereOf_1
   rw [w64_len,i_in,ob_some]
theorem s_known {fu:Nat} {r:Request} (h:Sm fu r) (us:List Int) (hl:us.length ≤ 1048576):d_spec_l7Known fu (untM r) us = some (thrM r us):=by
 have hfu:=h.fu
 unfold d_spec_l7Known thrM
 have:=lpI us (fun n out i=>d_spec_l7Known_L1 fu (untM r) us n out i) (fun xs out=>some (out ++ xs.filter fun u=>inb u 0 (((untM r).length:Int) - 1))) (fun xs out=>out.length + xs.length ≤ 1048576) (by omega) ?_ ?_ fu [] (by simpa using hl) (by omega)
 · simpa using this
 · intro n out i x xs hx hd hI ih
   simp only [List.length_cons] at hI
   simp only [d_spec_l7Known_L1.eq_2]
   unfold d_spec_l7Known_L1_B d_spec_l7Known_J1
   rw [hd,cond_true,hx,ob_some,w64_len,s_in,ob_some,ob_some,List.filter_cons]
   cases hb:inb x 0 (((untM r).length:Int) - 1)
   · rw [cond_false,ih _ (by omega)]; simp
   · rw [cond_true,ap1 (by simp; omega),ob_some,ih _ (by simp; omega)]; simp
 · intro n out i hd hI
   simp only [d_spec_l7Known_L1.eq_2]
   unfold d_spec_l7Known_L1_B
   simp only [hd,cond_false]
   simp
theorem thrM_len (r:Request) (us:List Int):(thrM r us).length ≤ us.length:=List.length_filter_le _ _
end Go.Proofs.YtkkfmjpbiimkbaaGreat
/- IsRival of spec and of impl. -/
namespace Go.Proofs.YtkkfmjpbiimkbaaGreat
open Go
open Enc (rd ow)
open Arg (argv)
open Ret (retv)
open Wf (wf)
theorem itmZ_in {r:Request} {u:Int} (h:0 ≤ u ∧ u < (untM r).length):itmM r u = some (itmZ r u):=by
 obtain ⟨_,x,_,_,hx⟩:=itmM_in h
 unfold itmZ
 rw [hx]; rfl
theorem itsM_map {r:Request}:∀ {l:List Int},(∀ u ∈ l,0 ≤ u ∧ u < (untM r).length) → itsM r l = l.map (itmZ r)
 | [],_=>rfl
 | u :: l,h=>by
  have ih:=itsM_map (r:=r) (l:=l) fun v hv=>h v (by simp [hv])
  unfold itsM at ih ⊢
  rw [List.filterMap_cons,itmZ_in (h u (by simp)),ih,List.map_cons]
end Go.Proofs.YtkkfmjpbiimkbaaGreat
/- The two ways of packing, by spec and by impl. -/
namespace Go.Proofs.YtkkfmjpbiimkbaaGreat
open Go
open Enc (rd ow)
open Arg (argv)
open Ret (retv)
open Wf (wf)
def putF (g:List Int → Bool) (out:List (List Int)) (u:Int):List (List Int):=match fstI g out with
 | some i=>match out[i]? with
  | some x=>out.set i (x ++ [u])
  | none=>out
 | none=>out ++ [[u]]
def romB (r:Request) (u:Int) (l:List Int):Bool:=witB r (l ++ [u]) (masM r)
def fitF (r:Request) (out:List (List Int)) (u:Int):List (List Int):=putF (romB r u) out u
def nxtF (r:Request) (out:List (List Int)) (u:Int):List (List Int):=match out.getLast? with
 | some l=>bif romB r u l then out.set (out.length - 1) (l ++ [u]) else out ++ [[u]]
 | none=>[[u]]
theorem nxtF_some {r:Request} {out:List (List Int)} {l:List Int} (u:Int) (h:out.getLast? = some l):nxtF r out u = bif romB r u l then out.set (out.length - 1) (l ++ [u]) else out ++ [[u]]:=by unfold nxtF; rw [h]
def ordM (r:Request) (us:List Int):List Int:=(srt (dnk (us.map fun u=>volM r [u])) us.length).map fun p=>(ix us p).getD 0
def nfM (r:Request) (us:List Int):List (List Int):=(thrM r us).foldl (nxtF r) []
def ffM (r:Request) (us:List Int):List (List Int):=(ordM r (thrM r us)).foldl (fitF r) []
def pwM (r:Request) (us:List Int):List (List Int):=bif r.fWay == 1 then nfM r us else ffM r us
theorem putF_ok {g:List Int → Bool} {out:List (List Int)} {n:Nat} (u:Int) (h:okG n out):okG (n + 1) (putF g out u):=by
 obtain ⟨h1,h2⟩:=h
 unfold putF
 split
 · rename_i i hi
   split
   · rename_i x hx
     refine ⟨by simp; omega,fun l hl=>?_⟩
     rcases List.mem_or_eq_of_mem_set hl with hl | rfl
     · have:=h2 l hl; omega
     · have:=h2 x (List.mem_of_getElem? hx); simp; omega
   · exact ⟨by omega,fun l hl=>by have:=h2 l hl; omega⟩
 · refine ⟨by simp; omega,fun l hl=>?_⟩
   rcases List.mem_append.1 hl with hl | hl
   · have:=h2 l hl; omega
   · rw [List.mem_singleton.1 hl]; simp
theorem nxtF_ok {r:Request} {out:List (List Int)} {n:Nat} (u:Int) (h:okG n out):okG (n + 1) (nxtF r out u):=by
 obtain ⟨h1,h2⟩:=h
 unfold nxtF
 split
 · rename_i x hx
   have hm:=List.mem_of_getLast? hx
   cases romB r u x
   · refine ⟨by simp; omega,fun l hl=>?_⟩
     rcases List.mem_append.1 hl with hl | hl
     · have:=h2 l hl; omega
     · rw [List.mem_singleton.1 hl]; simp
   · refine ⟨by simp; omega,fun l hl=>?_⟩
     rcases List.mem_or_eq_of_mem_set hl with hl | rfl
     · have:=h2 l hl; omega
     · have:=h2 x hm; simp; omega
 · exact ⟨by simp,fun l hl=>by rw [List.mem_singleton.1 hl]; simp⟩
theorem fold_ok {F:List (List Int) → Int → List (List Int)} (hF:∀ out n u,okG n out → okG (n + 1) (F out u)):∀ (l:List Int) {out:List (List Int)} {n:Nat},okG n out → okG (n + l.length) (l.foldl F out)
 | [],_,_,h=>h
 | u :: l,out,n,h=>by
  have:=fold_ok hF l (hF out n u h)
  rw [List.foldl_cons,List.length_cons,show n + (l.length + 1) = n + 1 + l.length by omega]
  exact this
theorem thr_le {r:Request} {us:List Int} (h:us.length ≤ 12):(thrM r us).length ≤ 12:=Nat.le_trans (thrM_len r us) h
theorem ordM_len (r:Request) (us:List Int):(ordM r us).length = us.length:=by simp [ordM,srt_len]
theorem pwM_ok {r:Request} {us:List Int} (h:us.length ≤ 12):okG 12 (pwM r us):=by
 have ht:=thr_le (r:=r) h
 have h0:okG 0 ([]:List (List Int)):=⟨by simp,by simp⟩
 unfold pwM
 cases r.fWay == 1
 · have:=fold_ok (F:=fitF r) (fun out n u ho=>putF_ok u ho) (ordM r (thrM r us)) h0
   rw [ordM_len] at this
   exact ⟨by have:=this.1; simp only [cond_false]; unfold ffM; omega,fun l hl=>by have:=this.2 l hl; omega⟩
 · have:=fold_ok (F:=nxtF r) (fun out n u ho=>nxtF_ok u ho) (thrM r us) h0
   exact ⟨by have:=this.1; simp only [cond_true]; unfold nfM; omega,fun l hl=>by have:=this.2 l hl; omega⟩
theorem put_atF {g:List Int → Bool} {out:List (List Int)} {c:Int} {n:Nat} (h:okG n out) (hn:n ≤ 1048576) {β:Type} (k:List (List Int) → Option β) (a:Int) (ha:a = match fstI g out with | some i=>(i:Int) | none=>-1) :
    (bif (decide (a < 0)) then obind (apnd 24 out [([c]:List Int)]) fun x=>k x else obind (ix out a) fun x=>obind (apnd 8 x (([c]:List Int))) fun y=>obind (ix out a) fun z=>k (setx out a y)) = k (putF g out c):=by
 obtain ⟨h1,h2⟩:=h
 unfold putF
 cases hf:fstI g out with
 | none =>
  rw [hf] at ha
  simp only at ha
  subst ha
  rw [bif_true (by simp),ap1 (by simp; omega),ob_some]
 | some i =>
  rw [hf] at ha
  simp only at ha
  subst ha
  obtain ⟨x,hx,_⟩:=fstI_lt hf
  have:=h2 x (List.mem_of_getElem? hx)
  rw [bif_false (by simp),ix_nat,hx,ob_some,ap1 (by simp; omega),ob_some,ob_some]
  simp [setx,hx]
theorem thr_cls {r:Request} (h:(clsM r == 0) = false) (us:List Int):thrM r us = []:=by
 unfold thrM untM
 rw [h]
 apply List.filter_eq_nil_iff.2
 intro u _
 simp; omega
theorem s_l6u {fu:Nat} {r:Request} (h:Sm fu r) (hc:clsM r = 0):d_spec_l6Units fu r = some (untM r):=s_l6c h hc
theorem last_at {α:Type} {out:List α} (h:out ≠ []):∃ l,out.getLast? = some l ∧ ix out ((out.length:Int) - 1) = some l:=by
 cases hl:out.getLast? with
 | none=>exact absurd (List.getLast?_eq_none_iff.1 hl) h
 | some l =>
  have hp:=List.length_pos_iff.2 h
  refine ⟨l,rfl,?_⟩
  rw [show (out.length:Int) - 1 = ((out.length - 1:Nat):Int) by omega,ix_nat,← List.getLast?_eq_getElem?,hl]
theorem s_next {fu:Nat} {r:Request} (h:Sm fu r) (us:List Int) (hl:us.length ≤ 1048575):d_spec_NextFit fu r us = some (nfM r us):=by
 have hfu:=h.fu
 have htl:=thrM_len r us
 unfold d_spec_NextFit nfM
 rw [s_cls h,ob_some]
 cases hc:clsM r == 0
 · rw [show (clsM r != 0) = true by simp only [bne,hc]; rfl,cond_true,thr_cls hc]; rfl
 · have hz:clsM r = 0:=by simpa using hc
   rw [show (clsM r != 0) = false by simp [hz],cond_false,s_l6u h hz,ob_some,s_known h us (by omega),ob_some]
   unfold d_spec_l7Next
   rw [s_mas h,ob_some,s_l6u h hz,ob_some]
   have key:=lpI (thrM r us) (fun n (o:List (List Int)) i=>d_spec_l7Next_L1 fu r (thrM r us) (othM (typM r r.fMaster)) (untM r) n o i) (fun xs o=>some (xs.foldl (nxtF r) o)) (fun xs o=>∃ m,m + xs.length ≤ 1048575 ∧ okG m o) (by omega) ?_ ?_ fu [] ⟨0,by omega,by simp,by simp⟩ (by omega)
   · rw [key]; rfl
   · intro n o i u xs hx hd hI ih
     obtain ⟨m,hm,ho⟩:=hI
     simp only [List.length_cons] at hm
     have h1:=ho.1
     have h2:=ho.2
     have hI':=ih (nxtF r o u) ⟨m + 1,by omega,nxtF_ok u ho⟩
     simp only [d_spec_l7Next_L1.eq_2]
     unfold d_spec_l7Next_L1_B d_spec_l7Next_J1
     rw [hd,cond_true,List.foldl_cons,← hI',w64_id (by omega) (by omega)]
     by_cases he:o = []
     · subst he
       rw [decide_eq_false (by simp),cond_false,hx,ob_some,ap1 (by simp),ob_some]; rfl
     · obtain ⟨l,e1,e2⟩:=last_at he
       have hp:=List.length_pos_iff.2 he
       have hll:=h2 l (List.mem_of_getLast? e1)
       rw [decide_eq_true (by omega),cond_true,e2,ob_some,hx,ob_some,othM_1,s_l7Room r _ l u (by omega) (by omega),ob_some]
       rw [nxtF_some u e1]
       unfold romB
       cases witB r (l ++ [u]) (masM r)
       · rw [cond_false,cond_false,ob_some,ap1 (by simp; omega),ob_some]
       · rw [cond_true,cond_true,ob_some,ob_some,ap1 (by simp; omega),ob_some,ob_some]
         rw [show setx o ((o.length:Int) - 1) (l ++ [u]) = o.set (o.length - 1) (l ++ [u]) by unfold setx; congr 1; omega]
   · intro n o i hd _
     simp only [d_spec_l7Next_L1.eq_2]
     unfold d_spec_l7Next_L1_B
     rw [hd,cond_false]; rfl
theorem ord_ix {us:List Int} {p:Int} (h:0 ≤ p ∧ p < us.length):ix us p = some ((ix us p).getD 0):=by
 have:=ix_i (l:=us) (i:=p.toNat) (by omega)
 rw [show ((p.toNat:Nat):Int) = p by omega] at this
 rw [this]; rfl
theorem foldl_map' {α β γ:Type} (f:γ → β → γ) (g:α → β):∀ (l:List α) (s:γ),(l.map g).foldl f s = l.foldl (fun s x=>f s (g x)) s
 | [],_=>rfl
 | x :: l,s=>by rw [List.map_cons,List.foldl_cons,List.foldl_cons,foldl_map' f g l]
theorem s_first {fu:Nat} {r:Request} (h:Sm fu r) (us:List Int) (hl:us.length < 20):d_spec_FirstFit fu r us = some (ffM r us):=by
 have hfu:=h.fu
 have htl:=thrM_len r us
 unfold d_spec_FirstFit ffM ordM
 rw [s_cls h,ob_some]
 cases hc:clsM r == 0
 · rw [show (clsM r != 0) = true by simp only [bne,hc]; rfl,cond_true,thr_cls hc]; rfl
 · have hz:clsM r = 0:=by simpa using hc
   rw [show (clsM r != 0) = false by simp [hz],cond_false,s_l6u h hz,ob_some,s_known h us (by omega),ob_some]
   unfold d_spec_l7First
   rw [s_mas h,ob_some,s_l6u h hz,ob_some]
   generalize thrM r us = t at htl ⊢
   have key:=lpI t (fun n (o:List Int) i=>d_spec_l7First_L3 fu r t (othM (typM r r.fMaster)) (untM r) n o i) (fun xs o=>obind (d_spec_SortDown fu (o ++ xs.map fun u=>volM r [u])) fun x=>d_spec_l7First_L2 fu r t (othM (typM r r.fMaster)) (untM r) x fu [] 0) (fun xs o=>o.length + xs.length ≤ 20) (by omega) ?_ ?_ fu [] (by simp; omega) (by omega)
   · rw [key,List.nil_append,s_down hfu (by simp; omega),ob_some,foldl_map',List.length_map]
     have hsl:=srt_len (dnk (t.map fun u=>volM r [u])) t.length
     have hsm:=fun x=>srt_mem (k:=dnk (t.map fun u=>volM r [u])) (n:=t.length) (x:=x)
     generalize srt (dnk (t.map fun u=>volM r [u])) t.length = S at hsl hsm ⊢
     have key1:=lpI S (fun n (o:List (List Int)) i=>d_spec_l7First_L2 fu r t (othM (typM r r.fMaster)) (untM r) S n o i) (fun xs o=>some (xs.foldl (fun s p=>fitF r s ((ix t p).getD 0)) o)) (fun xs o=>(∃ m,m + xs.length ≤ 20 ∧ okG m o) ∧ ∀ p ∈ xs,0 ≤ p ∧ p < t.length) (by omega) ?_ ?_ fu [] ⟨⟨0,by omega,by simp,by simp⟩,fun p hp=>(hsm p).1 hp⟩ (by omega)
     · rw [key1]; rfl
     · intro n o i p xs hx hd hI ih
       obtain ⟨⟨m,hm,ho⟩,hin⟩:=hI
       simp only [List.length_cons] at hm
       have hp:=ord_ix (hin p (by simp))
       have ho1:=ho.1
       simp only [d_spec_l7First_L2.eq_2]
       unfold d_spec_l7First_L2_B
       rw [hd,cond_true,hx,ob_some,hp,ob_some,List.foldl_cons]
       generalize (ix t p).getD 0 = u
       obtain ⟨K,hK⟩:∃ K,K = d_spec_l7First_L2 fu r t (othM (typM r r.fMaster)) (untM r) S n:=⟨_,rfl⟩
       rw [← hK] at ih ⊢
       obtain ⟨R,hR⟩:∃ R:Int → Option (List (List Int)),R = fun a=>bif (decide (a < 0)) then obind (apnd 24 o [([u]:List Int)]) fun x=>K x (w64 (i + 1)) else obind (ix o a) fun x=>obind (apnd 8 x (([u]:List Int))) fun y=>obind (ix o a) fun z=>K (setx o a y) (w64 (i + 1)):=⟨_,rfl⟩
       have hD:=lpD o.length (fun n a j=>d_spec_l7First_L1 fu K r (othM (typM r r.fMaster)) (untM r) o i u n a j) (fun xs a=>R (xs.foldl (lasI (romB r u) o) a)) (by omega) ?_ ?_ fu (-1) (by omega)
       · rw [hD,hR]
         refine (put_atF (g:=romB r u) (c:=u) ho (by omega) (fun x=>K x (w64 (i + 1))) _ ?_).trans (ih _ ⟨⟨m + 1,by omega,putF_ok u ho⟩,fun q hq=>hin q (by simp [hq])⟩)
         rw [fold_down (romB r u) o o.length (-1) (Nat.le_refl _),List.take_length]
         cases fstI (romB r u) o <;> rfl
       · intro n a j xs h0 h1 hd ih
         simp only [d_spec_l7First_L1.eq_2]
         unfold d_spec_l7First_L1_B d_spec_l7First_J2
         obtain ⟨j,rfl⟩:∃ q:Nat,j = q:=⟨j.toNat,by omega⟩
         have hj:j < o.length:=by omega
         have hg:=ho.2 _ (List.getElem_mem hj)
         rw [hd,cond_true,ix_i hj,ob_some,othM_1,s_l7Room r _ _ u (by omega) (by omega),ob_some]
         have e:lasI (romB r u) o a (j:Int) = bif witB r (o[j] ++ [u]) (masM r) then (j:Int) else a:=by unfold lasI atB romB; rw [ix_i hj]
         simp only [ih,List.foldl_cons,e]
         cases witB r (o[j] ++ [u]) (masM r) <;> rfl
       · intro n a j hd
         simp only [d_spec_l7First_L1.eq_2]
         unfold d_spec_l7First_L1_B d_spec_l7First_J1
         rw [hd,cond_false,hR]; rfl
     · intro n o i hd _
       simp only [d_spec_l7First_L2.eq_2]
       unfold d_spec_l7First_L2_B
       rw [hd,cond_false]; rfl
   · intro n o i u xs hx hd hI ih
     simp only [List.length_cons] at hI
     obtain ⟨i0,i1,i2⟩:=ix_some hx
     have e:sls t i (w64 (i + 1)) = some [u]:=by
      rw [w64_id (by omega) (by omega),sls_some (by omega)]
      congr 1
      rw [show (i + 1).toNat - i.toNat = 1 by omega]
      have hlt:=(List.getElem?_eq_some_iff.1 i2).1
      have heq:=(List.getElem?_eq_some_iff.1 i2).2
      rw [List.drop_eq_getElem_cons hlt,heq]; rfl
     simp only [d_spec_l7First_L3.eq_2]
     unfold d_spec_l7First_L3_B
     rw [hd,cond_true,e,ob_some,s_l7Of r [u] (by simp) (by simp; omega),ob_some,ap1 (by simp; omega),ob_some,ih _ (by simp; omega)]
     simp
   · intro n o i hd _
     simp only [d_spec_l7First_L3.eq_2]
     unfold d_spec_l7First_L3_B
     rw [hd,cond_false]; simp
theorem s_way {fu:Nat} {r:Request} (h:Sm fu r) (us:List Int) (hl:us.length < 20):d_spec_PackWay fu r us = some (pwM r us):=by
 unfold d_spec_PackWay pwM
 rw [s_next h us (by omega),s_first h us hl]
 cases r.fWay == 1 <;> rfl
end Go.Proofs.YtkkfmjpbiimkbaaGreat
/- Holds and Cheapest, by spec and by impl. -/
namespace Go.Proofs.YtkkfmjpbiimkbaaGreat
open Go
open Enc (rd ow)
open Arg (argv)
open Ret (retv)
open Wf (wf)
theorem all_cong {α:Type} {p q:α → Bool}:∀ {l:List α},(∀ x ∈ l,p x = q x) → l.all p = l.all q
 | [],_=>rfl
 | x :: xs,h=>by rw [List.all_cons,List.all_cons,h x (by simp),all_cong fun y hy=>h y (by simp [hy])]
def uOk (r:Request) (t:Typ) (u:Int):Bool:=(itmM r u).isSome && fitB (itmZ r u) t
def hldB (r:Request) (us:List Int) (t:Typ):Bool:=clsM r == 0 && (us.all (uOk r t) && witB r us t)
theorem itm_isSome {r:Request} {u:Int}:(itmM r u).isSome = true ↔ 0 ≤ u ∧ u < (untM r).length:=by
 constructor
 · intro h
   apply Decidable.byContradiction
   intro hn
   rw [itmM_out hn] at h
   cases h
 · intro h
   rw [itmZ_in h]; rfl
theorem i_holds {fu:Nat} {r:Request} (h:Sm fu r) (us:List Int) (t:Typ) (hl:us.length ≤ 1048576):d_impl_Holds fu r us t = some (hldB r us t):=by
 have hfu:=h.fu
 have hil:=itsM_len r us
 unfold d_impl_Holds hldB
 rw [i_sound h,ob_some]
 cases hc:clsM r == 0
 · rfl
 · rw [Bool.not_true,cond_false,i_there h us hl,ob_some,Bool.true_and]
   by_cases ha:∀ u ∈ us,0 ≤ u ∧ u < (untM r).length
   · have e:thrM r us = us:=List.filter_eq_self.2 fun u hu=>by have:=ha u hu; simp; omega
     have e0:((us.length:Int) != (us.length:Int)) = false:=by simp
     rw [e,e0,cond_false]
     unfold d_impl_Holds_J1
     rw [i_items h us hl (by omega),ob_some,i_anyItem _ (fun x=>!fitB x t) ?_ (by omega) (by omega),ob_some]
     · rw [i_within h t us hl,ob_some,itsM_map ha,List.any_map]
       have e1:us.all (uOk r t) = !(us.any ((fun x=>!fitB x t) ∘ itmZ r)):=by
        rw [List.not_any_eq_all_not]
        apply all_cong
        intro u hu
        simp only [uOk,itm_isSome.2 (ha u hu),Bool.true_and,Function.comp,Bool.not_not]
       rw [e1]
       cases us.any ((fun x=>!fitB x t) ∘ itmZ r) <;> simp
     · intro x _
       unfold d_impl_Holds_1
       rw [i_fit,ob_some]
   · have hlt:(thrM r us).length < us.length:=by
       apply Decidable.byContradiction
       intro hn
       apply ha
       have e:(us.filter fun u=>inb u 0 (((untM r).length:Int) - 1)).length = us.length:=by
        have:=List.length_filter_le (fun u=>inb u 0 (((untM r).length:Int) - 1)) us
        have e':thrM r us = us.filter fun u=>inb u 0 (((untM r).length:Int) - 1):=rfl
        rw [e'] at hn
        omega
       intro u hu
       have:=List.length_filter_eq_length_iff.1 e u hu
       simp at this
       omega
     have e0:(((thrM r us).length:Int) != (us.length:Int)) = true:=by simp; omega
     rw [e0,cond_true]
     have e1:us.all (uOk r t) = false:=by
      apply Bool.eq_false_iff.2
      intro he
      apply ha
      intro u hu
      have:=List.all_eq_true.1 he u hu
      simp only [uOk,Bool.and_eq_true] at this
      exact itm_isSome.1 this.1
     rw [e1,Bool.false_and]
theorem s_holds {fu:Nat} {r:Request} (h:Sm fu r) (us:List Int) (t:Typ) (hl:us.length ≤ 1048576):d_spec_Holds fu r us t = some (hldB r us t):=by
 have hfu:=h.fu
 unfold d_spec_Holds hldB
 rw [s_cls h,ob_some]
 cases hc:clsM r == 0
 · have:(clsM r != 0) = true:=by simp only [bne,hc]; rfl
   rw [this]; rfl
 · have:(clsM r != 0) = false:=by simp only [bne,hc]; rfl
   have hz:clsM r = 0:=by simpa using hc
   have hu:d_spec_l6Units fu r = some (untM r):=s_l6c h hz
   rw [this,cond_false,hu,ob_some,Bool.true_and]
   have key:=lp us (fun n (_:Unit) i=>d_spec_Holds_L1 fu r us t (untM r) n i) (fun l _=>some (l.all (uOk r t) && witB r us t)) (by omega) ?_ ?_ fu () (by omega)
   · exact key
   · intro n _ i x xs hx hd ih
     simp only [d_spec_Holds_L1.eq_2]
     unfold d_spec_Holds_L1_B d_spec_Holds_J3 d_spec_Holds_J2
     simp only [hd,cond_true,hx,ob_some,s_item,ih (),List.all_cons,uOk]
     cases (itmM r x).isSome
     · rfl
     · simp only [Bool.not_true,cond_false,s_fit (show 2097153 ≤ fu by omega),ob_some]
       cases fitB (itmZ r x) t <;> rfl
   · intro n _ i hd
     simp only [d_spec_Holds_L1.eq_2]
     unfold d_spec_Holds_L1_B d_spec_Holds_J1
     simp only [hd,cond_false,s_l7Of r us hl (show us.length < fu by omega),ob_some,s_vol]
     show (bif decide (volM r us ≤ volT t) then _ else _) = _
     unfold witB
     cases decide (volM r us ≤ volT t) <;> simp
def chp (r:Request) (us:List Int) (s:Typ × Bool) (t:Typ):Typ × Bool :=
 bif hldB r us t && (!s.2 || (decide (t.fCost < s.1.fCost) || (t.fCost == s.1.fCost && decide (t.fId < s.1.fId)))) then (t,true) else s
def chpM (r:Request) (us:List Int):Typ × Bool:=r.fTypes.foldl (chp r us) (zTyp,false)
theorem s_cheap {fu:Nat} {r:Request} (h:Sm fu r) (us:List Int) (hl:us.length ≤ 1048576):d_spec_Cheapest fu r us = some (chpM r us):=by
 have hfu:=h.fu
 have ht:=h.types
 unfold d_spec_Cheapest
 have key:=lp r.fTypes (fun n (s:Typ × Bool) i=>d_spec_Cheapest_L1 fu r us n s.1 s.2 i) (fun l s=>some (l.foldl (chp r us) s)) (by omega) ?_ ?_ fu (zTyp,false) (by omega)
 · exact key
 · intro n s i x xs hx hd ih
   simp only [d_spec_Cheapest_L1.eq_2]
   unfold d_spec_Cheapest_L1_B d_spec_Cheapest_J1
   have ih':=fun a b=>ih (a,b)
   simp only at ih'
   obtain ⟨b,f⟩:=s
   simp only [hd,cond_true,hx,ob_some,s_holds h us x hl,ih',List.foldl_cons,chp]
   cases hldB r us x <;> cases f <;> cases decide (x.fCost < b.fCost) <;> cases x.fCost == b.fCost <;> cases decide (x.fId < b.fId) <;> rfl
 · intro n s i hd
   simp only [d_spec_Cheapest_L1.eq_2]
   unfold d_spec_Cheapest_L1_B
   simp only [hd,cond_false]
   rfl
end Go.Proofs.YtkkfmjpbiimkbaaGreat
/- The units of a group, by spec and by impl. -/
namespace Go.Proofs.YtkkfmjpbiimkbaaGreat
open Go
open Enc (rd ow)
open Arg (argv)
open Ret (retv)
open Wf (wf)
def hasG (r:Request) (k:Int):Bool:=inb k 0 (((grpM r).length:Int) - 1)
theorem cls_of_grp {r:Request} {k:Int} (h:hasG r k = true):clsM r = 0:=by
 unfold hasG at h
 rw [inb_iff] at h
 by_cases hc:clsM r = 0
 · exact hc
 · have:grpM r = []:=by
     unfold grpM prsM
     rw [show (clsM r == 0) = false by simp [hc]]
     rfl
   rw [this] at h
   simp at h
   omega
theorem ofG_step (r:Request) (g:List Int) (u i:Int) (us:List Int) {x:Item} (hx:ix r.fItems i = some x):ofG r g u (i :: us) = bif g.contains x.fClass then u :: ofG r g (u + 1) us else ofG r g (u + 1) us:=by
 rw [ofG,hx]
theorem s_uof {fu:Nat} {r:Request} (h:Sm fu r) (k:Int):d_spec_UnitsOf fu r k = some (uofM r k):=by
 have hfu:=h.fu
 unfold d_spec_UnitsOf uofM
 rw [s_grp h,ob_some,w64_grp,s_in,ob_some]
 cases hg:inb k 0 (((grpM r).length:Int) - 1)
 · rw [Bool.not_false,cond_true]
   have:ix (grpM r) k = none:=by
    have hk:¬ (0 ≤ k ∧ k ≤ ((grpM r).length:Int) - 1):=by intro hk; rw [(inb_iff).2 hk] at hg; cases hg
    unfold ix
    by_cases h0:0 ≤ k
    · rw [if_pos h0,List.getElem?_eq_none (by omega)]
    · rw [if_neg h0]
   rw [this]
 · have hc:=cls_of_grp hg
   rw [inb_iff] at hg
   obtain ⟨j,rfl⟩:∃ j:Nat,k = j:=⟨k.toNat,by omega⟩
   have hj:j < (grpM r).length:=by omega
   have hgl:=(grpM_ok r).2 _ (List.getElem_mem hj)
   rw [Bool.not_true,cond_false,s_l6 h (clsM_zero hc).1,ob_some,ix_i hj]
   have e:untM r = l6M r:=by unfold untM; rw [show (clsM r == 0) = true by simp [hc],cond_true]
   simp only [e]
   have hlen:(l6M r).length ≤ 12:=l6M_len (clsM_zero hc).1
   have:=lpPI (l6M r) (fun n out i=>d_spec_UnitsOf_L1 fu r (j:Int) (grpM r) (l6M r) n out i) (fun pre xs out=>some (out ++ ofG r (grpM r)[j] (pre.length:Int) xs)) (fun pre xs out=>out.length + xs.length ≤ 12) (by omega) ?_ ?_ fu [] (by simpa using hlen) (by omega)
   · simpa using this
   · intro n out pre i xs hl hx hd hI ih
     simp only [List.length_cons] at hI
     have hi:i ∈ untM r:=by rw [e,hl]; simp
     have hi2:=untM_mem hi
     obtain ⟨q,rfl⟩:∃ q:Nat,i = q:=⟨i.toNat,by omega⟩
     have hq:q < r.fItems.length:=by omega
     simp only [d_spec_UnitsOf_L1.eq_2]
     unfold d_spec_UnitsOf_L1_B d_spec_UnitsOf_J1
     simp only [hd,cond_true,hx,ob_some,ix_i hj,ix_i hq,s_has (show (grpM r)[j].length ≤ 1048576 by omega) (show (grpM r)[j].length < fu by omega)]
     rw [ofG_step r _ _ _ _ (ix_i hq)]
     cases (grpM r)[j].contains r.fItems[q].fClass
     · rw [cond_false,cond_false,ih _ (by omega)]
       simp
     · rw [cond_true,cond_true,ap1 (by simp; omega),ob_some,ih _ (by simp; omega)]
       simp
   · intro n out hd hI
     simp only [d_spec_UnitsOf_L1.eq_2]
     unfold d_spec_UnitsOf_L1_B
     simp only [hd,cond_false]
     simp [ofG]
end Go.Proofs.YtkkfmjpbiimkbaaGreat
/- CartonsOf of spec and of impl. -/
namespace Go.Proofs.YtkkfmjpbiimkbaaGreat
open Go
open Enc (rd ow)
open Arg (argv)
open Ret (retv)
open Wf (wf)
def srtI (l:List Int):List Int:=l.mergeSort fun x y=>decide (x ≤ y)
theorem srtI_perm (l:List Int):(srtI l).Perm l:=List.mergeSort_perm l _
theorem srtI_len (l:List Int):(srtI l).length = l.length:=(srtI_perm l).length_eq
def crtM (r:Request) (k:Int) (l:List Int):Carton:=⟨(chpM r l).1.fId,k,srtI l⟩
def crtK (r:Request) (k:Int):List Carton:=(pwM r (uofM r k)).map (crtM r k)
def crtF (r:Request):List Int → List Carton
 | []=>[]
 | k :: ks=>crtK r k ++ crtF r ks
def crtL (r:Request):List Carton:=crtF r (ints 0 (grpM r).length)
theorem ints_getC (l:List Int):(ints 0 l.length).map (fun p=>(ix l p).getD 0) = l:=by
 have key:∀ (xs pre:List Int),l = pre ++ xs → (ints pre.length xs.length).map (fun p=>(ix l p).getD 0) = xs:=by
  intro xs
  induction xs with
  | nil=>intro pre _; rfl
  | cons x xs ih =>
   intro pre he
   have h1:=ih (pre ++ [x]) (by simp [he])
   simp only [List.length_append,List.length_singleton] at h1
   simp only [List.length_cons,ints,List.map_cons]
   rw [show ((pre.length:Int) + 1) = ((pre.length + 1:Nat):Int) by omega,h1]
   congr 1
   rw [ix_nat,he]
   simp
 exact key l [] rfl
theorem srt_get (l:List Int):(srt (kf l) l.length).map (fun p=>(ix l p).getD 0) = srtI l:=by
 refine le_uniq ?_ ?_ (mergeSort_le l)
 · refine ((srt_perm _ _).map _).trans ?_
   rw [ints_getC]
   exact (srtI_perm l).symm
 · refine List.pairwise_map.2 ((srt_sorted (kf l) l.length).imp fun {p q} h=>?_)
   unfold lx kf at h
   omega
theorem crtK_len {r:Request} (k:Int):(crtK r k).length ≤ 12:=by
 have:=(pwM_ok (r:=r) (uofM_len r k)).1
 simp [crtK]; omega
theorem s_crt {fu:Nat} {r:Request} (h:Sm fu r):d_spec_CartonsOf fu r = some (crtL r):=by
 have hfu:=h.fu
 have hg:=(grpM_ok r).1
 unfold d_spec_CartonsOf crtL
 rw [s_grp h,ob_some]
 have:=lpNI ((grpM r).length:Int) (fun n out i=>d_spec_CartonsOf_L3 fu r (grpM r) n out i) (fun xs out=>some (out ++ crtF r xs)) (fun xs out=>out.length + 12 * xs.length ≤ 48) (by omega) ?_ ?_ (grpM r).length fu [] 0 (by omega) (by omega) (by omega) (by simp [ints_len]; omega)
 · simpa using this
 · intro n out k ks h0 h1 hd hI ih
   simp only [List.length_cons] at hI
   have hul:=uofM_len r k
   have hpo:=pwM_ok (r:=r) hul
   simp only [d_spec_CartonsOf_L3.eq_2]
   unfold d_spec_CartonsOf_L3_B
   rw [hd,cond_true,s_uof h,ob_some,s_way h _ (by omega),ob_some]
   have key:=lpI (pwM r (uofM r k)) (fun m o i=>d_spec_CartonsOf_L2 fu (d_spec_CartonsOf_L3 fu r (grpM r) n) r k (pwM r (uofM r k)) m o i) (fun xs o=>d_spec_CartonsOf_L3 fu r (grpM r) n (o ++ xs.map (crtM r k)) (w64 (k + 1))) (fun xs o=>o.length + xs.length ≤ 48 ∧ ∀ l ∈ xs,l.length ≤ 12) (by have:=hpo.1; omega) ?_ ?_ fu out ⟨by have:=hpo.1; omega,hpo.2⟩ (by have:=hpo.1; omega)
   · rw [key,ih _ (by have:=hpo.1; simp; omega)]
     simp [crtF,crtK]
   · intro m o i l xs hx hd hI ih
     obtain ⟨h2,h3⟩:=hI
     simp only [List.length_cons] at h2
     have hl:=h3 l (by simp)
     simp only [d_spec_CartonsOf_L2.eq_2]
     unfold d_spec_CartonsOf_L2_B d_spec_CartonsOf_J3
     rw [hd,cond_true,hx,ob_some,s_cheap h l (by omega),ob_some,ob_some,s_up hfu (by omega),ob_some]
     have hsl:=srt_len (kf l) l.length
     have hsm:=fun x=>srt_mem (k:=kf l) (n:=l.length) (x:=x)
     have hsg:=srt_get l
     generalize srt (kf l) l.length = S at hsl hsm hsg ⊢
     have k1:=lpI S (fun m' us j=>d_spec_CartonsOf_L1 fu (d_spec_CartonsOf_L2 fu (d_spec_CartonsOf_L3 fu r (grpM r) n) r k (pwM r (uofM r k)) m) k (pwM r (uofM r k)) o i (chpM r l).1 S m' us j)
      (fun xs us=>obind (apnd 40 o [(⟨(chpM r l).1.fId,k,us ++ xs.map fun p=>(ix l p).getD 0⟩:Carton)]) fun x=>d_spec_CartonsOf_J2 fu (d_spec_CartonsOf_L2 fu (d_spec_CartonsOf_L3 fu r (grpM r) n) r k (pwM r (uofM r k)) m) i x) (fun xs us=>us.length + xs.length ≤ 12 ∧ ∀ p ∈ xs,0 ≤ p ∧ p < l.length) (by omega) ?_ ?_ fu [] ⟨by simp; omega,fun p hp=>(hsm p).1 hp⟩ (by omega)
     · rw [k1,List.nil_append,hsg,ap1 (by simp; omega),ob_some]
       unfold d_spec_CartonsOf_J2
       rw [ih _ ⟨by simp; omega,fun y hy=>h3 y (by simp [hy])⟩]
       simp [crtM]
     · intro m' us j p ps hp hd hI ih
       obtain ⟨h4,h5⟩:=hI
       simp only [List.length_cons] at h4
       simp only [d_spec_CartonsOf_L1.eq_2]
       unfold d_spec_CartonsOf_L1_B
       rw [hd,cond_true,hx,ob_some,hp,ob_some,ord_ix (h5 p (by simp)),ob_some,ap1 (by simp; omega),ob_some,ih _ ⟨by simp; omega,fun y hy=>h5 y (by simp [hy])⟩]
       simp
     · intro m' us j hd _
       simp only [d_spec_CartonsOf_L1.eq_2]
       unfold d_spec_CartonsOf_L1_B
       rw [hd,cond_false]; simp
   · intro m o i hd _
     simp only [d_spec_CartonsOf_L2.eq_2]
     unfold d_spec_CartonsOf_L2_B d_spec_CartonsOf_J1
     rw [hd,cond_false]; simp
 · intro n out k hd _
   simp only [d_spec_CartonsOf_L3.eq_2]
   unfold d_spec_CartonsOf_L3_B
   rw [hd,cond_false]; simp [crtF]
theorem crtF_len (r:Request):∀ (ks:List Int),(crtF r ks).length ≤ 12 * ks.length
 | []=>by simp [crtF]
 | k :: ks=>by
  have:=crtF_len r ks
  have:=crtK_len (r:=r) k
  simp [crtF]; omega
theorem crtL_len (r:Request):(crtL r).length ≤ 48:=by
 have:=crtF_len r (ints 0 (grpM r).length)
 have hg:=(grpM_ok r).1
 rw [ints_len] at this
 unfold crtL
 omega
theorem crtF_mem {r:Request} {c:Carton}:∀ {ks:List Int},c ∈ crtF r ks ↔ ∃ k ∈ ks,∃ l ∈ pwM r (uofM r k),c = crtM r k l
 | []=>by simp [crtF]
 | k :: ks=>by
  simp only [crtF,List.mem_append,crtF_mem (ks:=ks),List.mem_cons,crtK,List.mem_map]
  constructor
  · rintro (⟨l,hl,rfl⟩ | ⟨k',hk,l,hl,e⟩)
    · exact ⟨k,.inl rfl,l,hl,rfl⟩
    · exact ⟨k',.inr hk,l,hl,e⟩
  · rintro ⟨k',rfl | hk,l,hl,rfl⟩
    · exact .inl ⟨l,hl,rfl⟩
    · exact .inr ⟨k',hk,l,hl,rfl⟩
theorem crt_units {r:Request} {c:Carton} (h:c ∈ crtL r):c.fUnits.length ≤ 12:=by
 obtain ⟨k,_,l,hl,rfl⟩:=crtF_mem.1 h
 have:=(pwM_ok (r:=r) (uofM_len r k)).2 l hl
 simp only [crtM,srtI_len]
 omega
end Go.Proofs.YtkkfmjpbiimkbaaGreat
/- Cartons that are drawn are there, and small. -/
namespace Go.Proofs.YtkkfmjpbiimkbaaGreat
open Go
open Enc (rd ow)
open Arg (argv)
open Ret (retv)
open Wf (wf)
theorem dr_l9 {fu:Nat} {b:List U8} (hb:b.length ≤ 1048576) (hf:2097153 ≤ fu):Tot (d_spec_l9List fu b) fun x=>SmR x.1 ∧ x.2.length ≤ 49 ∧ ∀ c ∈ x.2,c.fUnits.length ≤ 12:=by
 unfold d_spec_l9List d_spec_l9List_J1
 refine Tot.bind (dr_class hb hf) fun r hr=>Tot.bind (dr_new hb (by omega)) fun c hc=>?_
 have hl:=crtL_len r
 rw [s_crt (hr.sm hf),ob_some]
 refine Tot.bind (dr_once hc.re' _) fun y hy=>?_
 refine Tot.bif (fun _=>?_) fun _=>Tot.mk ⟨hr,by simp; omega,fun c hc=>crt_units hc⟩
 refine Tot.bind (dr_pick hy.re' _ (by simp)) fun z hz=>Tot.bind (dr_below hz.2.re' _) fun v hv=>Tot.ap (by simp; omega) (Tot.mk ⟨hr,by simp; omega,fun c hc=>?_⟩)
 rcases List.mem_append.1 hc with hc | hc
 · exact crt_units hc
 · rw [List.mem_singleton.1 hc]; simp
theorem dr_gross {fu:Nat} {b:List U8} (hb:b.length ≤ 1048576) (hf:2097153 ≤ fu):Tot (d_spec_DrawGross fu b) fun x=>SmR x.1 ∧ x.2.fUnits.length ≤ 12:=by
 unfold d_spec_DrawGross
 refine Tot.bind (dr_l9 hb hf) fun x hx=>?_
 refine Tot.bif (fun _=>Tot.mk ⟨hx.1,by simp⟩) fun hc=>?_
 have:x.2.length ≠ 0:=by simp only [beq_eq_false_iff_ne] at hc; omega
 have h1:=hx.2.1
 rw [w64_id (by omega) (by omega)]
 exact Tot.ix (by omega) fun y hy=>Tot.mk ⟨hx.1,hx.2.2 y hy⟩
end Go.Proofs.YtkkfmjpbiimkbaaGreat
/- spec's TypeById. -/
namespace Go.Proofs.YtkkfmjpbiimkbaaGreat
open Go
open Enc (rd ow)
open Arg (argv)
open Ret (retv)
open Wf (wf)
theorem s_typById {fu:Nat} {r:Request} (h:Sm fu r) (id:Int):d_spec_TypeById fu r id = some (othM (typM r id)):=by
 have hfu:=h.fu
 have ht:=h.types
 unfold d_spec_TypeById typM
 refine lp r.fTypes (fun n (_:Unit) i=>d_spec_TypeById_L1 fu r id n i) (fun l _=>some (othM (l.find? fun t=>t.fId == id))) (by omega) ?_ ?_ fu () (by omega)
 · intro n s i x xs hx hd ih
   simp only [d_spec_TypeById_L1.eq_2]
   unfold d_spec_TypeById_L1_B
   simp only [hd,cond_true,hx,ob_some,ih (),List.find?_cons]
   cases x.fId == id <;> rfl
 · intro n s i hd
   simp only [d_spec_TypeById_L1.eq_2]
   unfold d_spec_TypeById_L1_B
   simp only [hd,cond_false]
   rfl
end Go.Proofs.YtkkfmjpbiimkbaaGreat
/- Fill of spec and of impl. -/
namespace Go.Proofs.YtkkfmjpbiimkbaaGreat
open Go
open Enc (rd ow)
open Arg (argv)
open Ret (retv)
open Wf (wf)
def filM (r:Request) (x:Carton):Int :=
 bif clsM r == 0 then (match typM r x.fType with | some t=>Int.tdiv (1000 * volM r x.fUnits) (volT t) | none=>0) else 0
theorem fill_step {r:Request} {t:Typ} {us:List Int} (hc:clsM r = 0) (ht:t ∈ r.fTypes) (hl:us.length ≤ 1048576) :
    (obind (odiv (volT t)) fun _=>some (w64 (Int.tdiv (w64 (1000 * volM r us)) (volT t)))) = some (Int.tdiv (1000 * volM r us) (volT t)):=by
 have h1:=volT_pos (bou_types (clsM_zero hc).1 t ht)
 have h2:=volM_bd r us
 have h3:=volB_nn t.fW t.fH t.fD
 have h4:volT t ≤ 8000000000:=h3.2
 rw [odiv_ok (by omega),ob_some,w64_id (n:=1000 * volM r us) (by omega) (by omega)]
 have h5:0 ≤ Int.tdiv (1000 * volM r us) (volT t):=Int.tdiv_nonneg (by omega) (by omega)
 have h6:Int.tdiv (1000 * volM r us) (volT t) ≤ 1000 * volM r us:=by
  rw [Int.tdiv_eq_ediv_of_nonneg (by omega)]
  exact Int.ediv_le_self _ (by omega)
 rw [w64_id (by omega) (by omega)]
theorem s_fill {fu:Nat} {r:Request} (h:Sm fu r) (x:Carton) (hl:x.fUnits.length ≤ 1048576):d_spec_Fill fu r x = some (filM r x):=by
 have hfu:=h.fu
 unfold d_spec_Fill d_spec_Fill_J1 filM
 rw [s_typById h,ob_some,s_cls h,ob_some]
 by_cases hc:clsM r = 0
 · rw [show (clsM r != 0) = false by simp [hc],show (clsM r == 0) = true by simp [hc],cond_false,cond_true]
   cases ht:typM r x.fType with
   | none=>rfl
   | some t =>
    have hm:t ∈ r.fTypes:=List.mem_of_find?_eq_some ht
    simp only [othM,Bool.not_true,cond_false]
    rw [s_volOf h _ hl (by omega),ob_some,s_vol,ob_some]
    exact fill_step hc hm hl
 · rw [show (clsM r != 0) = true by simp [hc],show (clsM r == 0) = false by simp [hc],cond_false,cond_true]
theorem i_fill {fu:Nat} {r:Request} (h:Sm fu r) (x:Carton) (hl:x.fUnits.length ≤ 1048576):d_impl_Fill fu r x = some (filM r x):=by
 have hfu:=h.fu
 unfold d_impl_Fill d_impl_Fill_J1 filM
 rw [i_typById h,ob_some,i_sound h]
 cases ht:typM r x.fType with
 | none =>
  simp only [othM,Bool.not_false,cond_true]
  cases clsM r == 0 <;> rfl
 | some t =>
  have hm:t ∈ r.fTypes:=List.mem_of_find?_eq_some ht
  simp only [othM,Bool.not_true,cond_false,ob_some]
  by_cases hc:clsM r = 0
  · rw [bif_false (by simp [hc]),bif_true (by simp [hc]),i_volOf h _ hl (by omega),ob_some,i_vol,ob_some]
    exact fill_step hc hm hl
  · rw [bif_true (by simp [hc]),bif_false (by simp [hc])]
end Go.Proofs.YtkkfmjpbiimkbaaGreat
/- Fills of spec and of impl. -/
namespace Go.Proofs.YtkkfmjpbiimkbaaGreat
open Go
open Enc (rd ow)
open Arg (argv)
open Ret (retv)
open Wf (wf)
theorem i_fills {fu:Nat} {r:Request} (h:Sm fu r) (l:List Carton) (hl:l.length ≤ 1048576) (hm:∀ x ∈ l,x.fUnits.length ≤ 1048576):d_impl_Fills fu r l = some (l.map (filM r)):=by
 have hfu:=h.fu
 unfold d_impl_Fills
 have:=lpI l (fun n out i=>d_impl_Fills_L1 fu r l n out i) (fun xs out=>some (out ++ xs.map (filM r))) (fun xs out=>out.length + xs.length ≤ 1048576 ∧ ∀ x ∈ xs,x.fUnits.length ≤ 1048576) (by omega) ?_ ?_ fu [] ⟨by simpa using hl,hm⟩ (by omega)
 · simpa using this
 · intro n out i x xs hx hd hI ih
   have h1:=hI.1
   simp only [List.length_cons] at h1
   simp only [d_impl_Fills_L1.eq_2]
   unfold d_impl_Fills_L1_B
   simp only [hd,cond_true,hx,ob_some,i_fill h x (hI.2 x (by simp))]
   rw [ap1 (by simp; omega),ob_some,ih _ ⟨by simp; omega,fun y hy=>hI.2 y (by simp [hy])⟩]
   simp
 · intro n out i hd hI
   simp only [d_impl_Fills_L1.eq_2]
   unfold d_impl_Fills_L1_B
   simp only [hd,cond_false]
   simp
end Go.Proofs.YtkkfmjpbiimkbaaGreat
