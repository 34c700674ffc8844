import Derived.Test.YthddjkokpfdbnaaGreatOneHoldsBP2
set_option linter.unusedSimpArgs false
set_option linter.unusedVariables false
/- CartonsOf of spec and of impl. -/
namespace Go.Proofs.YthddjkokpfdbnaaGreat
open Go
open Enc (rd ow)
open Arg (argv)
open Ret (retv)
open Wf (wf)
def srtI (l:List Int):List Int:=l.mergeSort fun x y=>decide (x ≤ y)
def crtM (r:Request) (k:Int) (l:List Int):Carton:=⟨(chpM r l).1.fId,k,srtI l⟩
def crtK (r:Request) (k:Int):List Carton:=(pwM r (uofM r k)).map (crtM r k)
def crtF (r:Request):List Int → List Carton
 | []=>[]
 | k :: ks=>crtK r k ++ crtF r ks
def crtL (r:Request):List Carton:=crtF r (ints 0 (grpM r).length)
theorem crtK_len {r:Request} (k:Int):(crtK r k).length ≤ 12:=by
 have:=(pwM_ok (r:=r) (uofM_len r k)).1
 simp [crtK]; omega
theorem i_crt {fu:Nat} {r:Request} (h:Sm fu r):d_impl_CartonsOf fu r = some (crtL r):=by
 have hfu:=h.fu
 have hg:=(grpM_ok r).1
 unfold d_impl_CartonsOf crtL
 rw [i_grp h,ob_some]
 have:=lpNI ((grpM r).length:Int) (fun n out i=>d_impl_CartonsOf_L2 fu r (grpM r) n out i) (fun xs out=>some (out ++ crtF r xs)) (fun xs out=>out.length + 12 * xs.length ≤ 48) (by omega) ?_ ?_ (grpM r).length fu [] 0 (by omega) (by omega) (by omega) (by simp [ints_len]; omega)
 · simpa using this
 · intro n out k ks h0 h1 hd hI ih
   simp only [List.length_cons] at hI
   have hul:=uofM_len r k
   have hpo:=pwM_ok (r:=r) hul
   simp only [d_impl_CartonsOf_L2.eq_2]
   unfold d_impl_CartonsOf_L2_B
   rw [hd,cond_true,i_uof h,ob_some,i_way h _ (by omega),ob_some]
   have key:=lpI (pwM r (uofM r k)) (fun m o i=>d_impl_CartonsOf_L1 fu (d_impl_CartonsOf_L2 fu r (grpM r) n) r k (pwM r (uofM r k)) m o i) (fun xs o=>d_impl_CartonsOf_L2 fu r (grpM r) n (o ++ xs.map (crtM r k)) (w64 (k + 1))) (fun xs o=>o.length + xs.length ≤ 48 ∧ ∀ l ∈ xs,l.length ≤ 12) (by have:=hpo.1; omega) ?_ ?_ fu out ⟨by have:=hpo.1; omega,hpo.2⟩ (by have:=hpo.1; omega)
   · rw [key,ih _ (by have:=hpo.1; simp; omega)]
     simp [crtF,crtK]
   · intro m o i l xs hx hd hI ih
     obtain ⟨h2,h3⟩:=hI
     simp only [List.length_cons] at h2
     have hl:=h3 l (by simp)
     simp only [d_impl_CartonsOf_L1.eq_2]
     unfold d_impl_CartonsOf_L1_B
     rw [hd,cond_true,hx,ob_some,i_cheap h l (by omega),ob_some,show d_slices_Sort_int_int fu l = some (srtI l) from sortI_some (by omega),ob_some,ap1 (by simp; omega),ob_some,ih _ ⟨by simp; omega,fun y hy=>h3 y (by simp [hy])⟩]
     simp [crtM]
   · intro m o i hd _
     simp only [d_impl_CartonsOf_L1.eq_2]
     unfold d_impl_CartonsOf_L1_B
     rw [hd,cond_false]; simp
 · intro n out k hd _
   simp only [d_impl_CartonsOf_L2.eq_2]
   unfold d_impl_CartonsOf_L2_B
   rw [hd,cond_false]; simp [crtF]
theorem crtF_len (r:Request):∀ (ks:List Int),(crtF r ks).length ≤ 12 * ks.length
 | []=>by simp [crtF]
 | k :: ks=>by
  have:=crtF_len r ks
  have:=crtK_len (r:=r) k
  simp [crtF]; omega
theorem crtL_len (r:Request):(crtL r).length ≤ 48:=by
 have:=crtF_len r (ints 0 (grpM r).length)
 have hg:=(grpM_ok r).1
 rw [ints_len] at this
 unfold crtL
 omega
end Go.Proofs.YthddjkokpfdbnaaGreat
/- What the ways of packing keep: every unit once, every carton within the master's. -/
namespace Go.Proofs.YthddjkokpfdbnaaGreat
open Go
open Enc (rd ow)
open Arg (argv)
open Ret (retv)
open Wf (wf)
def Qc (r:Request) (us:List Int) (l:List Int):Prop:=l ≠ [] ∧ (∀ u ∈ l,u ∈ us) ∧ witB r l (masM r) = true
theorem ordM_perm (r:Request) (us:List Int):(ordM r us).Perm us:=by
 unfold ordM
 refine ((srt_perm _ _).map _).trans ?_
 have key:∀ (xs pre:List Int),us = pre ++ xs → (ints pre.length xs.length).map (fun p=>(ix us p).getD 0) = xs:=by
  intro xs
  induction xs with
  | nil=>intro pre _; rfl
  | cons x xs ih =>
   intro pre he
   have h1:=ih (pre ++ [x]) (by simp [he])
   simp only [List.length_append,List.length_singleton] at h1
   simp only [List.length_cons,ints,List.map_cons]
   rw [show ((pre.length:Int) + 1) = ((pre.length + 1:Nat):Int) by omega,h1]
   congr 1
   rw [ix_nat,he]
   simp
 have:=key us [] rfl
 simp only [List.length_nil] at this
 exact List.Perm.of_eq this
theorem putF_flat (g:List Int → Bool) (out:List (List Int)) (u:Int):(putF g out u).flatten.Perm (out.flatten ++ [u]):=by
 unfold putF
 split
 · rename_i i hi
   obtain ⟨x,hx,_⟩:=fstI_lt hi
   rw [hx]
   exact set_flat hx
 · simp
theorem nxtF_flat (r:Request) (out:List (List Int)) (u:Int):(nxtF r out u).flatten.Perm (out.flatten ++ [u]):=by
 cases hlast:out.getLast? with
 | none =>
  have:out = []:=List.getLast?_eq_none_iff.1 hlast
  subst this
  unfold nxtF
  simp
 | some x =>
  rw [nxtF_some u hlast]
  cases romB r u x
  · simp
  · rw [cond_true]
    rw [List.getLast?_eq_getElem?] at hlast
    exact set_flat hlast
theorem fold_flat {F:List (List Int) → Int → List (List Int)} (hF:∀ out u,(F out u).flatten.Perm (out.flatten ++ [u])):∀ (vs:List Int) (out:List (List Int)),(vs.foldl F out).flatten.Perm (out.flatten ++ vs)
 | [],out=>by simp
 | v :: vs,out=>by
  rw [List.foldl_cons]
  refine (fold_flat hF vs _).trans (((hF out v).append_right vs).trans ?_)
  simp
theorem pw_flat (r:Request) (us:List Int):(pwM r us).flatten.Perm (thrM r us):=by
 unfold pwM nfM ffM
 cases r.fWay == 1
 · rw [cond_false]
   refine (fold_flat (fun out u=>putF_flat _ out u) _ []).trans ?_
   simpa using ordM_perm r (thrM r us)
 · rw [cond_true]
   refine (fold_flat (fun out u=>nxtF_flat r out u) _ []).trans ?_
   simp
end Go.Proofs.YthddjkokpfdbnaaGreat
/- What is marked: orders, lists of numbers, lists of lists. -/
namespace Go.Proofs.YthddjkokpfdbnaaGreat
open Go
open Enc (rd ow)
open Arg (argv)
open Ret (retv)
open Wf (wf)
end Go.Proofs.YthddjkokpfdbnaaGreat
/- Lists of cartons in the laws: their size, copies, equality, marks. -/
namespace Go.Proofs.YthddjkokpfdbnaaGreat
open Go
open Enc (rd ow)
open Arg (argv)
open Ret (retv)
open Wf (wf)
def lensC:List Carton → Nat
 | []=>0
 | x :: xs=>x.fUnits.length + lensC xs
end Go.Proofs.YthddjkokpfdbnaaGreat
/- Plans in the laws: their size, copies, equality, marks. -/
namespace Go.Proofs.YthddjkokpfdbnaaGreat
open Go
open Enc (rd ow)
open Arg (argv)
open Ret (retv)
open Wf (wf)
structure Sp (x:Plan):Prop where
 cars:x.fCartons.length ≤ 1048576
 units:∀ c ∈ x.fCartons,c.fUnits.length ≤ 1048576
 all:lensC x.fCartons ≤ 1048576
 spots:x.fSpots.length ≤ 1048576
end Go.Proofs.YthddjkokpfdbnaaGreat
/- PlanOk, by spec and by impl. -/
namespace Go.Proofs.YthddjkokpfdbnaaGreat
open Go
open Enc (rd ow)
open Arg (argv)
open Ret (retv)
open Wf (wf)
end Go.Proofs.YthddjkokpfdbnaaGreat
/- OnPallet and PalletGram, by spec and by impl. -/
namespace Go.Proofs.YthddjkokpfdbnaaGreat
open Go
open Enc (rd ow)
open Arg (argv)
open Ret (retv)
open Wf (wf)
end Go.Proofs.YthddjkokpfdbnaaGreat
/- Lost of spec and of impl. -/
namespace Go.Proofs.YthddjkokpfdbnaaGreat
open Go
open Enc (rd ow)
open Arg (argv)
open Ret (retv)
open Wf (wf)
end Go.Proofs.YthddjkokpfdbnaaGreat
/- Mixes of spec and of impl. -/
namespace Go.Proofs.YthddjkokpfdbnaaGreat
open Go
open Enc (rd ow)
open Arg (argv)
open Ret (retv)
open Wf (wf)
end Go.Proofs.YthddjkokpfdbnaaGreat
/- Check, by spec and by impl. -/
namespace Go.Proofs.YthddjkokpfdbnaaGreat
open Go
open Enc (rd ow)
open Arg (argv)
open Ret (retv)
open Wf (wf)
def cs (x:Plan):List (Carton × Spot):=x.fCartons.zip x.fSpots
end Go.Proofs.YthddjkokpfdbnaaGreat
/- Check, by impl. -/
namespace Go.Proofs.YthddjkokpfdbnaaGreat
open Go
open Enc (rd ow)
open Arg (argv)
open Ret (retv)
open Wf (wf)
end Go.Proofs.YthddjkokpfdbnaaGreat
/- The plan of an order, by spec. -/
namespace Go.Proofs.YthddjkokpfdbnaaGreat
open Go
open Enc (rd ow)
open Arg (argv)
open Ret (retv)
open Wf (wf)
theorem sumI_perm {a b:List Int} (h:a.Perm b):sumI a = sumI b:=by
 induction h with
 | nil=>rfl
 | cons x _ ih=>simp [ih]
 | swap x y l=>simp; omega
 | trans _ _ h1 h2=>rw [h1,h2]
theorem its_perm {r:Request} {a b:List Int} (h:a.Perm b):(itsM r a).Perm (itsM r b):=h.filterMap _
theorem vol_perm {r:Request} {a b:List Int} (h:a.Perm b):volM r a = volM r b:=sumI_perm ((its_perm h).map _)
theorem grm_perm {r:Request} {a b:List Int} (h:a.Perm b):grmM r a = grmM r b:=sumI_perm ((its_perm h).map _)
theorem wit_perm {r:Request} {a b:List Int} (h:a.Perm b) (t:Typ):witB r a t = witB r b t:=by unfold witB; rw [vol_perm h,grm_perm h]
theorem crtF_filter (r:Request) (k:Int):∀ (ks:List Int),ks.Nodup → ((crtF r ks).filter fun c=>c.fGroup == k) = bif ks.contains k then crtK r k else []
 | [],_=>rfl
 | j :: ks,hn=>by
  obtain ⟨h1,h2⟩:=List.nodup_cons.1 hn
  have ih:=crtF_filter r k ks h2
  rw [crtF,List.filter_append,ih]
  have hj:∀ c ∈ crtK r j,c.fGroup = j:=by
   intro c hc
   unfold crtK at hc
   obtain ⟨l,_,rfl⟩:=List.mem_map.1 hc
   rfl
  by_cases e:k = j
  · subst e
    have e1:(crtK r k).filter (fun c=>c.fGroup == k) = crtK r k:=List.filter_eq_self.2 fun c hc=>by simp [hj c hc]
    have e2:ks.contains k = false:=by simpa using h1
    rw [e1,e2]
    simp
  · have e1:(crtK r j).filter (fun c=>c.fGroup == k) = []:=List.filter_eq_nil_iff.2 fun c hc=>by simp [hj c hc]; omega
    rw [e1]
    have e2:(j :: ks).contains k = ks.contains k:=by simp [e]
    rw [e2]; rfl
end Go.Proofs.YthddjkokpfdbnaaGreat
/- Squeeze and Spare of spec and of impl. -/
namespace Go.Proofs.YthddjkokpfdbnaaGreat
open Go
open Enc (rd ow)
open Arg (argv)
open Ret (retv)
open Wf (wf)
def inU (r:Request) (cs:List (List Int)):Prop:=∀ c ∈ cs,∀ y ∈ c,0 ≤ y ∧ y < (untM r).length
theorem len_le_flat {c:List Int} {cs:List (List Int)} (h:c ∈ cs):c.length ≤ cs.flatten.length:=by
 induction cs with
 | nil=>simp at h
 | cons x xs ih =>
  rw [List.flatten_cons,List.length_append]
  rcases List.mem_cons.1 h with e | h
  · subst e; omega
  · have:=ih h; omega
theorem setx_flat {out:List (List Int)} {j u:Int} {c:List Int} (h:ix out j = some c):(setx out j (c ++ [u])).flatten.Perm (out.flatten ++ [u]):=by
 obtain ⟨h0,h1,h2⟩:=ix_some h
 exact set_flat h2
structure Ez (r:Request) (k:Int) (c0:List Int) (T:List Int) (us:List Int) (out:List (List Int)):Prop where
 src:ix out k = some c0
 all:(out.flatten ++ us).Perm (T ++ c0)
 inn:inU r out
 inu:∀ u ∈ us,0 ≤ u ∧ u < (untM r).length
 len:out.length ≤ 12
 tot:(T ++ c0).length ≤ 24
theorem Ez.step {r:Request} {k:Int} {c0 T us:List Int} {out:List (List Int)} {u j:Int} {c:List Int} (h:Ez r k c0 T (u :: us) out) (hj:ix out j = some c) (hjk:j ≠ k):Ez r k c0 T us (setx out j (c ++ [u])):=by
 obtain ⟨j0,j1,j2⟩:=ix_some hj
 obtain ⟨k0,k1,k2⟩:=ix_some h.src
 refine ⟨?_,?_,?_,fun v hv=>h.inu v (by simp [hv]),by unfold setx; simp; exact h.len,h.tot⟩
 · unfold ix setx
   rw [if_pos k0,List.getElem?_set,if_neg (by omega)]
   exact k2
 · refine ((setx_flat (u:=u) hj).append_right us).trans ?_
   simpa using h.all
 · intro d hd y hy
   unfold setx at hd
   rcases List.mem_or_eq_of_mem_set hd with hd | rfl
   · exact h.inn d hd y hy
   · rcases List.mem_append.1 hy with hy | hy
     · exact h.inn c (ix_mem hj) y hy
     · rw [List.mem_singleton.1 hy]; exact h.inu u (by simp)
structure Rz (r:Request) (cs:List (List Int)):Prop where
 len:cs.length ≤ 12
 tot:cs.flatten.length ≤ 12
 inn:inU r cs
theorem Rz.ez {r:Request} {cs:List (List Int)} (h:Rz r cs) {k:Int} {c:List Int} (hk:ix cs k = some c):Ez r k c cs.flatten c cs :=
 ⟨hk,List.Perm.refl _,h.inn,h.inn c (ix_mem hk),h.len,by have:=len_le_flat (ix_mem hk); have:=h.tot; rw [List.length_append]; omega⟩
end Go.Proofs.YthddjkokpfdbnaaGreat
/- Lower bounds: no packing has fewer cartons. -/
namespace Go.Proofs.YthddjkokpfdbnaaGreat
open Go
open Enc (rd ow)
open Arg (argv)
open Ret (retv)
open Wf (wf)
theorem its_app (r:Request) (a b:List Int):itsM r (a ++ b) = itsM r a ++ itsM r b:=List.filterMap_append ..
theorem vol_app (r:Request) (a b:List Int):volM r (a ++ b) = volM r a + volM r b:=by unfold volM; rw [its_app,List.map_append,sumI_append]
theorem grm_app (r:Request) (a b:List Int):grmM r (a ++ b) = grmM r a + grmM r b:=by unfold grmM; rw [its_app,List.map_append,sumI_append]
end Go.Proofs.YthddjkokpfdbnaaGreat
/- Ours of spec and of impl. -/
namespace Go.Proofs.YthddjkokpfdbnaaGreat
open Go
open Enc (rd ow)
open Arg (argv)
open Ret (retv)
open Wf (wf)
end Go.Proofs.YthddjkokpfdbnaaGreat
/- What is held: lists of numbers. -/
namespace Go.Proofs.YthddjkokpfdbnaaGreat
open Go
open Enc (rd ow)
open Arg (argv)
open Ret (retv)
open Wf (wf)
end Go.Proofs.YthddjkokpfdbnaaGreat
/- Lists of lists of numbers in the laws: what is marked and held. -/
namespace Go.Proofs.YthddjkokpfdbnaaGreat
open Go
open Enc (rd ow)
open Arg (argv)
open Ret (retv)
open Wf (wf)
end Go.Proofs.YthddjkokpfdbnaaGreat
/- The plain law of FnExactOneEach. -/
namespace Go.Proofs.YthddjkokpfdbnaaGreat
open Go
open Enc (rd ow)
open Arg (argv)
open Ret (retv)
open Wf (wf)
end Go.Proofs.YthddjkokpfdbnaaGreat
/- What is squeezed is a packing still; so are others' picks, one each, and ours. -/
namespace Go.Proofs.YthddjkokpfdbnaaGreat
open Go
open Enc (rd ow)
open Arg (argv)
open Ret (retv)
open Wf (wf)
def Gc (r:Request) (c:List Int):Prop:=c ≠ [] ∧ witB r c (masM r) = true ∧ allBes r c = true
theorem uof_mem {r:Request} {k u:Int} (h:u ∈ uofM r k):(0 ≤ u ∧ u < (untM r).length) ∧ ∃ g,ix (grpM r) k = some g ∧ clsZ r u ∈ g:=by
 unfold uofM at h
 cases hg:ix (grpM r) k with
 | none=>rw [hg] at h; simp at h
 | some g =>
  rw [hg] at h
  obtain ⟨j,i,x,h1,h2,h3,h4⟩:=(ofG_mem r g (untM r) 0 u).1 h
  have hj:=(List.getElem?_eq_some_iff.1 h1).1
  have hu:0 ≤ u ∧ u < (untM r).length:=by omega
  refine ⟨hu,g,rfl,?_⟩
  have hm:itmM r u = some x:=by
   unfold itmM
   rw [h2,Int.zero_add,ix_nat,h1,ob_some,h3]
  unfold clsZ itmZ
  rw [hm]
  simpa using h4
theorem thr_uof (r:Request) (k:Int):thrM r (uofM r k) = uofM r k:=by
 unfold thrM
 refine List.filter_eq_self.2 fun u hu=>?_
 have:=(uof_mem hu).1
 rw [inb_iff]; omega
end Go.Proofs.YthddjkokpfdbnaaGreat
/- CountIn of spec and of impl. -/
namespace Go.Proofs.YthddjkokpfdbnaaGreat
open Go
open Enc (rd ow)
open Arg (argv)
open Ret (retv)
open Wf (wf)
def cntM (r:Request) (k:Int):Int:=cntB (fun c=>c.fGroup == k) (crtL r)
theorem i_cnt {fu:Nat} {r:Request} (h:Sm fu r) (k:Int):d_impl_CountIn fu r k = some (cntM r k):=by
 have hfu:=h.fu
 have hl:=crtL_len r
 unfold d_impl_CountIn cntM
 rw [i_crt h,ob_some]
 generalize crtL r = L at hl ⊢
 have:=lpI L (fun n s i=>d_impl_CountIn_L1 fu k L n s i) (fun xs s=>some (s + cntB (fun c=>c.fGroup == k) xs)) (fun xs s=>0 ≤ s ∧ s + xs.length ≤ 48) (by omega) ?_ ?_ fu 0 (by omega) (by omega)
 · simpa using this
 · intro n s i x xs hx hd hI ih
   simp only [List.length_cons] at hI
   simp only [d_impl_CountIn_L1.eq_2]
   unfold d_impl_CountIn_L1_B d_impl_CountIn_J1
   rw [hd,cond_true,hx,ob_some,w64_id (n:=s + 1) (by omega) (by omega),ih _ (by omega),ih _ (by omega)]
   simp only [cntB,bitI]
   cases x.fGroup == k <;> simp <;> omega
 · intro n s i hd _
   simp only [d_impl_CountIn_L1.eq_2]
   unfold d_impl_CountIn_L1_B
   rw [hd,cond_false]; simp [cntB]
end Go.Proofs.YthddjkokpfdbnaaGreat
/- Is there a group: spec and impl. -/
namespace Go.Proofs.YthddjkokpfdbnaaGreat
open Go
open Enc (rd ow)
open Arg (argv)
open Ret (retv)
open Wf (wf)
theorem s_hasG {fu:Nat} {r:Request} (h:Sm fu r) (k:Int):d_spec_l17Group fu r k = some (hasG r k):=by
 unfold d_spec_l17Group hasG
 rw [s_grp h,ob_some,w64_grp,s_in]; rfl
theorem i_hasG {fu:Nat} {r:Request} (h:Sm fu r) (k:Int):d_impl_hasGroup fu r k = some (hasG r k):=by
 unfold d_impl_hasGroup hasG
 rw [i_grp h,ob_some,w64_grp,i_in]; rfl
end Go.Proofs.YthddjkokpfdbnaaGreat
/- The master carton's room, by impl. -/
namespace Go.Proofs.YthddjkokpfdbnaaGreat
open Go
open Enc (rd ow)
open Arg (argv)
open Ret (retv)
open Wf (wf)
theorem i_room {fu:Nat} {r:Request} (h:Sm fu r):d_impl_masterRoom fu r = some (volT (masM r),(masM r).fGram):=by
 unfold d_impl_masterRoom
 rw [i_mas h,ob_some,i_vol,ob_some]; rfl
end Go.Proofs.YthddjkokpfdbnaaGreat
/- SlackGram of spec and of impl. -/
namespace Go.Proofs.YthddjkokpfdbnaaGreat
open Go
open Enc (rd ow)
open Arg (argv)
open Ret (retv)
open Wf (wf)
def slgM (r:Request) (k:Int):Bool:=hasG r k && decide (grmM r (uofM r k) ≤ (masM r).fGram)
theorem s_slg {fu:Nat} {r:Request} (h:Sm fu r) (k:Int):d_spec_SlackGram fu r k = some (slgM r k):=by
 have hfu:=h.fu
 have hl:=uofM_len r k
 unfold d_spec_SlackGram slgM
 rw [s_mas h,ob_some,s_hasG h,ob_some]
 cases hasG r k
 · rfl
 · rw [cond_true,s_uof h,ob_some,s_grm h _ (by omega) (by omega),ob_some]; rfl
theorem i_slg {fu:Nat} {r:Request} (h:Sm fu r) (k:Int):d_impl_SlackGram fu r k = some (slgM r k):=by
 have hfu:=h.fu
 have hl:=uofM_len r k
 unfold d_impl_SlackGram slgM
 rw [i_room h,ob_some,i_hasG h,ob_some]
 cases hasG r k
 · rfl
 · rw [cond_true,i_uof h,ob_some,i_grm h _ (by omega) (by omega),ob_some]; rfl
end Go.Proofs.YthddjkokpfdbnaaGreat
/- SlackVolume of spec and of impl. -/
namespace Go.Proofs.YthddjkokpfdbnaaGreat
open Go
open Enc (rd ow)
open Arg (argv)
open Ret (retv)
open Wf (wf)
def slvM (r:Request) (k:Int):Bool:=hasG r k && decide (volM r (uofM r k) ≤ volT (masM r))
theorem s_slv {fu:Nat} {r:Request} (h:Sm fu r) (k:Int):d_spec_SlackVolume fu r k = some (slvM r k):=by
 have hfu:=h.fu
 have hl:=uofM_len r k
 unfold d_spec_SlackVolume slvM
 rw [s_mas h,ob_some,s_hasG h,ob_some]
 cases hasG r k
 · rfl
 · rw [cond_true,s_uof h,ob_some,s_volOf h _ (by omega) (by omega),ob_some,s_vol,ob_some]; rfl
theorem i_slv {fu:Nat} {r:Request} (h:Sm fu r) (k:Int):d_impl_SlackVolume fu r k = some (slvM r k):=by
 have hfu:=h.fu
 have hl:=uofM_len r k
 unfold d_impl_SlackVolume slvM
 rw [i_room h,ob_some,i_hasG h,ob_some]
 cases hasG r k
 · rfl
 · rw [cond_true,i_uof h,ob_some,i_volOf h _ (by omega) (by omega),ob_some]; rfl
end Go.Proofs.YthddjkokpfdbnaaGreat
/- How many cartons a group has; one, where all of it fits. -/
namespace Go.Proofs.YthddjkokpfdbnaaGreat
open Go
open Enc (rd ow)
open Arg (argv)
open Ret (retv)
open Wf (wf)
theorem cntB_filter {α:Type} (f:α → Bool):∀ (l:List α),cntB f l = ((l.filter f).length:Int)
 | []=>rfl
 | x :: l=>by
  rw [List.filter_cons,cntB,cntB_filter f l]
  cases f x
  · simp [bitI]
  · simp [bitI]; omega
theorem cnt_len {r:Request} {k:Int} (h:0 ≤ k ∧ k < (grpM r).length):cntM r k = ((pwM r (uofM r k)).length:Int):=by
 unfold cntM crtL
 rw [cntB_filter,crtF_filter r k _ (ints_nodup _ _),show (ints 0 (grpM r).length).contains k = true by rw [List.contains_iff_mem,ints_mem]; omega,cond_true]
 unfold crtK
 rw [List.length_map]
theorem cnt_out {r:Request} {k:Int} (h:¬ (0 ≤ k ∧ k < (grpM r).length)):cntM r k = 0:=by
 unfold cntM crtL
 rw [cntB_filter,crtF_filter r k _ (ints_nodup _ _),show (ints 0 (grpM r).length).contains k = false by
  rw [← Bool.not_eq_true,List.contains_iff_mem,ints_mem]; omega,cond_false]
 rfl
theorem grp_ne (r:Request):∀ g ∈ grpM r,g ≠ []:=by
 have key:∀ (l:List Int) (out:List (List Int)),(∀ g ∈ out,g ≠ []) → ∀ g ∈ l.foldl (putG r.fPairs) out,g ≠ []:=by
  intro l
  induction l with
  | nil=>intro out h; exact h
  | cons c l ih =>
   intro out h
   rw [List.foldl_cons]
   refine ih _ fun g hg=>?_
   unfold putG at hg
   split at hg
   · rcases List.mem_or_eq_of_mem_set hg with hg | rfl
     · exact h g hg
     · simp
   · rcases List.mem_append.1 hg with hg | hg
     · exact h g hg
     · rw [List.mem_singleton.1 hg]; simp
 exact key _ [] (by simp)
theorem repU_has:∀ (l:List Item) (j:Int) (i:Nat) (x:Item),l[i]? = some x → 1 ≤ x.fCount → (j + i) ∈ repU j l
 | [],_,i,x,h,_=>by simp at h
 | y :: l,j,i,x,h,hc=>by
  unfold repU
  cases i with
  | zero =>
   simp only [List.getElem?_cons_zero,Option.some.injEq] at h
   subst h
   refine List.mem_append_left _ (List.mem_replicate.2 ⟨by omega,by simp⟩)
  | succ i =>
   refine List.mem_append_right _ ?_
   have:=repU_has l (j + 1) i x (by simpa using h) hc
   rw [show j + ((i + 1:Nat):Int) = j + 1 + i by omega]
   exact this
theorem uof_ne {r:Request} {k:Int} (h:0 ≤ k ∧ k < (grpM r).length):uofM r k ≠ []:=by
 obtain ⟨g,hg⟩:=ix_in (l:=grpM r) h.1 h.2
 obtain ⟨c,hc⟩:=List.exists_mem_of_ne_nil _ (grp_ne r g (ix_mem hg))
 have hp:c ∈ prsM r:=(grp_flat r).mem_iff.1 (List.mem_flatten.2 ⟨g,ix_mem hg,hc⟩)
 unfold prsM at hp
 cases hz:clsM r == 0
 · rw [hz] at hp; simp at hp
 rw [hz,cond_true] at hp
 obtain ⟨x,hx,hxc⟩:=List.any_eq_true.1 (List.mem_filter.1 hp).2
 have hcz:clsM r = 0:=by simpa using hz
 have hi:=(bou_items (clsM_zero hcz).1).1 x hx
 simp only [itmB,Bool.and_eq_true,inb_iff] at hi
 obtain ⟨i,hi2⟩:=List.mem_iff_getElem?.1 hx
 have h1:=repU_has r.fItems 0 i x hi2 (by omega)
 have h2:(i:Int) ∈ untM r:=by
  unfold untM l6M
  rw [hz,cond_true]
  simpa using h1
 obtain ⟨u,hu⟩:=List.mem_iff_getElem?.1 h2
 have hm:itmM r (u:Int) = some x:=by
  unfold itmM
  rw [ix_nat,hu,ob_some,ix_nat,hi2]
 have hin:inG r g (u:Int) = true:=by
  unfold inG
  rw [hm]
  have e:x.fClass = c:=by simpa using hxc
  simp only [e]
  simpa using hc
 rw [← uof_has hg] at hin
 intro e
 rw [e] at hin
 simp at hin
theorem pw_ne {r:Request} {k:Int} (h:0 ≤ k ∧ k < (grpM r).length):1 ≤ (pwM r (uofM r k)).length:=by
 rcases Nat.eq_zero_or_pos (pwM r (uofM r k)).length with h0 | h0
 · have e:=List.eq_nil_of_length_eq_zero h0
   have:=pw_flat r (uofM r k)
   rw [e,thr_uof] at this
   exact absurd (List.Perm.nil_eq this).symm (uof_ne h)
 · exact h0
theorem cnt_ge {r:Request} {k:Int} (h:0 ≤ k ∧ k < (grpM r).length):1 ≤ cntM r k:=by
 have:=pw_ne h
 rw [cnt_len h]; omega
theorem fold_one {r:Request} {F:List (List Int) → Int → List (List Int)} (hF:∀ l u,romB r u l = true → F [l] u = [l ++ [u]]):∀ (vs l:List Int),witB r (l ++ vs) (masM r) = true → vs.foldl F [l] = [l ++ vs]
 | [],l,_=>by simp
 | v :: vs,l,h=>by
  have h1:romB r v l = true:=by
   unfold romB witB at *
   simp only [Bool.and_eq_true,decide_eq_true_eq] at *
   rw [show l ++ v :: vs = (l ++ [v]) ++ vs by simp,vol_app,grm_app] at h
   have a:=(volM_bd r vs).1
   have b:=(grmM_bd r vs).1
   omega
  rw [List.foldl_cons,hF l v h1,fold_one hF vs (l ++ [v]) (by simpa using h)]
  simp
theorem pw_one {r:Request} {us:List Int} (hne:thrM r us ≠ []) (hw:witB r (thrM r us) (masM r) = true):(pwM r us).length = 1:=by
 unfold pwM nfM ffM
 cases r.fWay == 1
 · rw [cond_false]
   have hp:=ordM_perm r (thrM r us)
   have hw':witB r (ordM r (thrM r us)) (masM r) = true:=by rw [wit_perm hp]; exact hw
   have hne':ordM r (thrM r us) ≠ []:=fun e=>by
    rw [e] at hp
    exact hne (List.Perm.nil_eq hp).symm
   match ordM r (thrM r us),hne',hw' with
   | u :: vs,_,hw' =>
    rw [List.foldl_cons]
    have e:fitF r [] u = [[u]]:=rfl
    rw [e,fold_one (r:=r) (F:=fitF r) (fun l u h=>by unfold fitF putF fstI; rw [h]; rfl) vs [u] (by simpa using hw')]
    rfl
 · rw [cond_true]
   match thrM r us,hne,hw with
   | u :: vs,_,hw' =>
    rw [List.foldl_cons]
    have e:nxtF r [] u = [[u]]:=rfl
    rw [e,fold_one (r:=r) (F:=nxtF r) (fun l u h=>by unfold nxtF; simp [h]) vs [u] (by simpa using hw')]
    rfl
end Go.Proofs.YthddjkokpfdbnaaGreat
