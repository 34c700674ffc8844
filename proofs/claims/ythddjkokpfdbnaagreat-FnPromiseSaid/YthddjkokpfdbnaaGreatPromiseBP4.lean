import Derived.Test.YthddjkokpfdbnaaGreatPromiseBP3
set_option linter.unusedSimpArgs false
set_option linter.unusedVariables false
/- Lower bounds: no packing has fewer cartons. -/
namespace Go.Proofs.YthddjkokpfdbnaaGreat
open Go
open Enc (rd ow)
open Arg (argv)
open Ret (retv)
open Wf (wf)
def grtB (r:Request) (x:Item):Bool:=decide (2 * volI x > volT (masM r))
theorem its_app (r:Request) (a b:List Int):itsM r (a ++ b) = itsM r a ++ itsM r b:=List.filterMap_append ..
theorem vol_app (r:Request) (a b:List Int):volM r (a ++ b) = volM r a + volM r b:=by unfold volM; rw [its_app,List.map_append,sumI_append]
theorem grm_app (r:Request) (a b:List Int):grmM r (a ++ b) = grmM r a + grmM r b:=by unfold grmM; rw [its_app,List.map_append,sumI_append]
theorem cntB_app {α:Type} (f:α → Bool) (a b:List α):cntB f (a ++ b) = cntB f a + cntB f b:=by
 induction a with
 | nil=>simp [cntB]
 | cons x a ih=>simp only [List.cons_append,cntB,ih]; omega
theorem cntB_perm {α:Type} (f:α → Bool) {a b:List α} (h:a.Perm b):cntB f a = cntB f b:=by
 induction h with
 | nil=>rfl
 | cons x _ ih=>simp only [cntB,ih]
 | swap x y l=>simp only [cntB]; omega
 | trans _ _ h1 h2=>rw [h1,h2]
theorem vol_flat {r:Request} {V:Int}:∀ (cs:List (List Int)),(∀ c ∈ cs,volM r c ≤ V) → volM r cs.flatten ≤ cs.length * V
 | [],_=>by simp [volM,itsM]
 | c :: cs,h=>by
  have h1:=vol_flat cs fun d hd=>h d (by simp [hd])
  have h2:=h c (by simp)
  rw [List.flatten_cons,vol_app,List.length_cons,show ((cs.length + 1:Nat):Int) = (cs.length:Int) + 1 by omega,Int.add_mul,Int.one_mul]
  omega
theorem grm_flat {r:Request} {V:Int}:∀ (cs:List (List Int)),(∀ c ∈ cs,grmM r c ≤ V) → grmM r cs.flatten ≤ cs.length * V
 | [],_=>by simp [grmM,itsM]
 | c :: cs,h=>by
  have h1:=grm_flat cs fun d hd=>h d (by simp [hd])
  have h2:=h c (by simp)
  rw [List.flatten_cons,grm_app,List.length_cons,show ((cs.length + 1:Nat):Int) = (cs.length:Int) + 1 by omega,Int.add_mul,Int.one_mul]
  omega
theorem cnt_two {f:Item → Int} {V:Int} {g:Item → Bool} (hg:∀ x,g x = true → V + 1 ≤ 2 * f x):∀ (xs:List Item),(∀ x ∈ xs,0 ≤ f x) → cntB g xs * (V + 1) ≤ 2 * sumI (xs.map f)
 | [],_=>by simp [cntB]
 | x :: xs,h=>by
  have ih:=cnt_two hg xs fun y hy=>h y (by simp [hy])
  have h0:=h x (by simp)
  simp only [cntB,List.map_cons,sumI_cons,Int.add_mul]
  cases hx:g x
  · simp only [bitI,cond_false,Int.zero_mul]; omega
  · have:=hg x hx
    simp only [bitI,cond_true,Int.one_mul]; omega
theorem cnt_one {c V s:Int} (hc:c * (V + 1) ≤ 2 * s) (hs:s ≤ V) (h0:0 ≤ V):c ≤ 1:=by
 rcases Int.lt_or_le c 2 with h | h
 · omega
 · have:2 * (V + 1) ≤ c * (V + 1):=Int.mul_le_mul_of_nonneg_right h (by omega)
   omega
theorem cnt_flat {r:Request} {g:Item → Bool}:∀ (cs:List (List Int)),(∀ c ∈ cs,cntB g (itsM r c) ≤ 1) → cntB g (itsM r cs.flatten) ≤ cs.length
 | [],_=>by simp [itsM,cntB]
 | c :: cs,h=>by
  have h1:=cnt_flat cs fun d hd=>h d (by simp [hd])
  have h2:=h c (by simp)
  rw [List.flatten_cons,its_app,cntB_app,List.length_cons]
  omega
theorem thr_ints (r:Request):thrM r (ints 0 (untM r).length) = ints 0 (untM r).length:=by
 unfold thrM
 refine List.filter_eq_self.2 fun u hu=>?_
 have:=ints_mem.1 hu
 rw [inb_iff]; omega
theorem riv_parts {r:Request} {cs:List (List Int)} (h:rivB r cs = true):clsM r = 0 ∧ (∀ c ∈ cs,c ≠ [] ∧ witB r c (masM r) = true ∧ allBes r c = true) ∧ cs.flatten.Perm (ints 0 (untM r).length):=by
 unfold rivB packB at h
 simp only [Bool.and_eq_true] at h
 obtain ⟨⟨h1,h2,h3⟩,h4⟩:=h
 refine ⟨by simpa using h1,fun c hc=>?_,?_⟩
 · have a:=List.all_eq_true.1 h2 c hc
   have b:=List.all_eq_true.1 h4 c hc
   unfold okC at a
   rw [Bool.and_eq_true] at a
   exact ⟨fun e=>by rw [e] at a; simp at a,a.2,b⟩
 · have:=perB_iff.1 h3
   rw [thr_ints] at this
   exact this
end Go.Proofs.YthddjkokpfdbnaaGreat
/- Ours of spec and of impl. -/
namespace Go.Proofs.YthddjkokpfdbnaaGreat
open Go
open Enc (rd ow)
open Arg (argv)
open Ret (retv)
open Wf (wf)
end Go.Proofs.YthddjkokpfdbnaaGreat
/- What is held: lists of numbers. -/
namespace Go.Proofs.YthddjkokpfdbnaaGreat
open Go
open Enc (rd ow)
open Arg (argv)
open Ret (retv)
open Wf (wf)
end Go.Proofs.YthddjkokpfdbnaaGreat
/- Lists of lists of numbers in the laws: what is marked and held. -/
namespace Go.Proofs.YthddjkokpfdbnaaGreat
open Go
open Enc (rd ow)
open Arg (argv)
open Ret (retv)
open Wf (wf)
def lens:List (List Int) → Nat
 | []=>0
 | x :: xs=>x.length + lens xs
end Go.Proofs.YthddjkokpfdbnaaGreat
/- The plain law of FnExactOneEach. -/
namespace Go.Proofs.YthddjkokpfdbnaaGreat
open Go
open Enc (rd ow)
open Arg (argv)
open Ret (retv)
open Wf (wf)
end Go.Proofs.YthddjkokpfdbnaaGreat
/- What is squeezed is a packing still; so are others' picks, one each, and ours. -/
namespace Go.Proofs.YthddjkokpfdbnaaGreat
open Go
open Enc (rd ow)
open Arg (argv)
open Ret (retv)
open Wf (wf)
def Gc (r:Request) (c:List Int):Prop:=c ≠ [] ∧ witB r c (masM r) = true ∧ allBes r c = true
theorem uof_mem {r:Request} {k u:Int} (h:u ∈ uofM r k):(0 ≤ u ∧ u < (untM r).length) ∧ ∃ g,ix (grpM r) k = some g ∧ clsZ r u ∈ g:=by
 unfold uofM at h
 cases hg:ix (grpM r) k with
 | none=>rw [hg] at h; simp at h
 | some g =>
  rw [hg] at h
  obtain ⟨j,i,x,h1,h2,h3,h4⟩:=(ofG_mem r g (untM r) 0 u).1 h
  have hj:=(List.getElem?_eq_some_iff.1 h1).1
  have hu:0 ≤ u ∧ u < (untM r).length:=by omega
  refine ⟨hu,g,rfl,?_⟩
  have hm:itmM r u = some x:=by
   unfold itmM
   rw [h2,Int.zero_add,ix_nat,h1,ob_some,h3]
  unfold clsZ itmZ
  rw [hm]
  simpa using h4
theorem thr_uof (r:Request) (k:Int):thrM r (uofM r k) = uofM r k:=by
 unfold thrM
 refine List.filter_eq_self.2 fun u hu=>?_
 have:=(uof_mem hu).1
 rw [inb_iff]; omega
theorem ofG_lt (r:Request) (g:List Int):∀ (us:List Int) (u:Int),(ofG r g u us).Pairwise (· < ·) ∧ ∀ x ∈ ofG r g u us,u ≤ x
 | [],_=>by simp [ofG]
 | i :: us,u=>by
  obtain ⟨h1,h2⟩:=ofG_lt r g us (u + 1)
  have no:(ofG r g (u + 1) us).Pairwise (· < ·) ∧ ∀ x ∈ ofG r g (u + 1) us,u ≤ x:=⟨h1,fun x hx=>by have:=h2 x hx; omega⟩
  have yes:(u :: ofG r g (u + 1) us).Pairwise (· < ·) ∧ ∀ x ∈ u :: ofG r g (u + 1) us,u ≤ x:=by
   refine ⟨List.pairwise_cons.2 ⟨fun x hx=>by have:=h2 x hx; omega,h1⟩,fun x hx=>?_⟩
   rcases List.mem_cons.1 hx with rfl | hx
   · omega
   · have:=h2 x hx; omega
  rw [ofG]
  cases ix r.fItems i with
  | none=>exact no
  | some x =>
   simp only
   cases g.contains x.fClass
   · exact no
   · exact yes
theorem uof_nodup (r:Request) (k:Int):(uofM r k).Nodup:=by
 unfold uofM
 split
 · exact ((ofG_lt r _ (untM r) 0).1).imp fun h=>by omega
 · simp
end Go.Proofs.YthddjkokpfdbnaaGreat
/- CountIn of spec and of impl. -/
namespace Go.Proofs.YthddjkokpfdbnaaGreat
open Go
open Enc (rd ow)
open Arg (argv)
open Ret (retv)
open Wf (wf)
def cntM (r:Request) (k:Int):Int:=cntB (fun c=>c.fGroup == k) (crtL r)
theorem i_cnt {fu:Nat} {r:Request} (h:Sm fu r) (k:Int):d_impl_CountIn fu r k = some (cntM r k):=by
 have hfu:=h.fu
 have hl:=crtL_len r
 unfold d_impl_CountIn cntM
 rw [i_crt h,ob_some]
 generalize crtL r = L at hl ⊢
 have:=lpI L (fun n s i=>d_impl_CountIn_L1 fu k L n s i) (fun xs s=>some (s + cntB (fun c=>c.fGroup == k) xs)) (fun xs s=>0 ≤ s ∧ s + xs.length ≤ 48) (by omega) ?_ ?_ fu 0 (by omega) (by omega)
 · simpa using this
 · intro n s i x xs hx hd hI ih
   simp only [List.length_cons] at hI
   simp only [d_impl_CountIn_L1.eq_2]
   unfold d_impl_CountIn_L1_B d_impl_CountIn_J1
   rw [hd,cond_true,hx,ob_some,w64_id (n:=s + 1) (by omega) (by omega),ih _ (by omega),ih _ (by omega)]
   simp only [cntB,bitI]
   cases x.fGroup == k <;> simp <;> omega
 · intro n s i hd _
   simp only [d_impl_CountIn_L1.eq_2]
   unfold d_impl_CountIn_L1_B
   rw [hd,cond_false]; simp [cntB]
theorem s_cnt {fu:Nat} {r:Request} (h:Sm fu r) (k:Int):d_spec_CountIn fu r k = some (cntM r k):=by
 have hfu:=h.fu
 have hl:=crtL_len r
 unfold d_spec_CountIn cntM
 rw [s_crt h,ob_some]
 generalize crtL r = L at hl ⊢
 have:=lpI L (fun n s i=>d_spec_CountIn_L1 fu k L n s i) (fun xs s=>some (s + cntB (fun c=>c.fGroup == k) xs)) (fun xs s=>0 ≤ s ∧ s + xs.length ≤ 48) (by omega) ?_ ?_ fu 0 (by omega) (by omega)
 · simpa using this
 · intro n s i x xs hx hd hI ih
   simp only [List.length_cons] at hI
   have hb:=bitI_bd (x.fGroup == k)
   simp only [d_spec_CountIn_L1.eq_2]
   unfold d_spec_CountIn_L1_B
   rw [hd,cond_true,hx,ob_some,s_bit,ob_some,w64_id (n:=s + _) (by omega) (by omega),ih _ (by omega)]
   simp only [cntB]
   congr 1; omega
 · intro n s i hd _
   simp only [d_spec_CountIn_L1.eq_2]
   unfold d_spec_CountIn_L1_B
   rw [hd,cond_false]; simp [cntB]
end Go.Proofs.YthddjkokpfdbnaaGreat
/- Is there a group: spec and impl. -/
namespace Go.Proofs.YthddjkokpfdbnaaGreat
open Go
open Enc (rd ow)
open Arg (argv)
open Ret (retv)
open Wf (wf)
theorem i_hasG {fu:Nat} {r:Request} (h:Sm fu r) (k:Int):d_impl_hasGroup fu r k = some (hasG r k):=by
 unfold d_impl_hasGroup hasG
 rw [i_grp h,ob_some,w64_grp,i_in]; rfl
end Go.Proofs.YthddjkokpfdbnaaGreat
/- The master carton's room, by impl. -/
namespace Go.Proofs.YthddjkokpfdbnaaGreat
open Go
open Enc (rd ow)
open Arg (argv)
open Ret (retv)
open Wf (wf)
theorem i_room {fu:Nat} {r:Request} (h:Sm fu r):d_impl_masterRoom fu r = some (volT (masM r),(masM r).fGram):=by
 unfold d_impl_masterRoom
 rw [i_mas h,ob_some,i_vol,ob_some]; rfl
end Go.Proofs.YthddjkokpfdbnaaGreat
/- SlackGram of spec and of impl. -/
namespace Go.Proofs.YthddjkokpfdbnaaGreat
open Go
open Enc (rd ow)
open Arg (argv)
open Ret (retv)
open Wf (wf)
def slgM (r:Request) (k:Int):Bool:=hasG r k && decide (grmM r (uofM r k) ≤ (masM r).fGram)
theorem i_slg {fu:Nat} {r:Request} (h:Sm fu r) (k:Int):d_impl_SlackGram fu r k = some (slgM r k):=by
 have hfu:=h.fu
 have hl:=uofM_len r k
 unfold d_impl_SlackGram slgM
 rw [i_room h,ob_some,i_hasG h,ob_some]
 cases hasG r k
 · rfl
 · rw [cond_true,i_uof h,ob_some,i_grm h _ (by omega) (by omega),ob_some]; rfl
end Go.Proofs.YthddjkokpfdbnaaGreat
/- SlackVolume of spec and of impl. -/
namespace Go.Proofs.YthddjkokpfdbnaaGreat
open Go
open Enc (rd ow)
open Arg (argv)
open Ret (retv)
open Wf (wf)
def slvM (r:Request) (k:Int):Bool:=hasG r k && decide (volM r (uofM r k) ≤ volT (masM r))
theorem i_slv {fu:Nat} {r:Request} (h:Sm fu r) (k:Int):d_impl_SlackVolume fu r k = some (slvM r k):=by
 have hfu:=h.fu
 have hl:=uofM_len r k
 unfold d_impl_SlackVolume slvM
 rw [i_room h,ob_some,i_hasG h,ob_some]
 cases hasG r k
 · rfl
 · rw [cond_true,i_uof h,ob_some,i_volOf h _ (by omega) (by omega),ob_some]; rfl
end Go.Proofs.YthddjkokpfdbnaaGreat
/- How many cartons a group has; one, where all of it fits. -/
namespace Go.Proofs.YthddjkokpfdbnaaGreat
open Go
open Enc (rd ow)
open Arg (argv)
open Ret (retv)
open Wf (wf)
theorem cntB_filter {α:Type} (f:α → Bool):∀ (l:List α),cntB f l = ((l.filter f).length:Int)
 | []=>rfl
 | x :: l=>by
  rw [List.filter_cons,cntB,cntB_filter f l]
  cases f x
  · simp [bitI]
  · simp [bitI]; omega
theorem cnt_len {r:Request} {k:Int} (h:0 ≤ k ∧ k < (grpM r).length):cntM r k = ((pwM r (uofM r k)).length:Int):=by
 unfold cntM crtL
 rw [cntB_filter,crtF_filter r k _ (ints_nodup _ _),show (ints 0 (grpM r).length).contains k = true by rw [List.contains_iff_mem,ints_mem]; omega,cond_true]
 unfold crtK
 rw [List.length_map]
theorem grp_ne (r:Request):∀ g ∈ grpM r,g ≠ []:=by
 have key:∀ (l:List Int) (out:List (List Int)),(∀ g ∈ out,g ≠ []) → ∀ g ∈ l.foldl (putG r.fPairs) out,g ≠ []:=by
  intro l
  induction l with
  | nil=>intro out h; exact h
  | cons c l ih =>
   intro out h
   rw [List.foldl_cons]
   refine ih _ fun g hg=>?_
   unfold putG at hg
   split at hg
   · rcases List.mem_or_eq_of_mem_set hg with hg | rfl
     · exact h g hg
     · simp
   · rcases List.mem_append.1 hg with hg | hg
     · exact h g hg
     · rw [List.mem_singleton.1 hg]; simp
 exact key _ [] (by simp)
theorem repU_has:∀ (l:List Item) (j:Int) (i:Nat) (x:Item),l[i]? = some x → 1 ≤ x.fCount → (j + i) ∈ repU j l
 | [],_,i,x,h,_=>by simp at h
 | y :: l,j,i,x,h,hc=>by
  unfold repU
  cases i with
  | zero =>
   simp only [List.getElem?_cons_zero,Option.some.injEq] at h
   subst h
   refine List.mem_append_left _ (List.mem_replicate.2 ⟨by omega,by simp⟩)
  | succ i =>
   refine List.mem_append_right _ ?_
   have:=repU_has l (j + 1) i x (by simpa using h) hc
   rw [show j + ((i + 1:Nat):Int) = j + 1 + i by omega]
   exact this
theorem uof_ne {r:Request} {k:Int} (h:0 ≤ k ∧ k < (grpM r).length):uofM r k ≠ []:=by
 obtain ⟨g,hg⟩:=ix_in (l:=grpM r) h.1 h.2
 obtain ⟨c,hc⟩:=List.exists_mem_of_ne_nil _ (grp_ne r g (ix_mem hg))
 have hp:c ∈ prsM r:=(grp_flat r).mem_iff.1 (List.mem_flatten.2 ⟨g,ix_mem hg,hc⟩)
 unfold prsM at hp
 cases hz:clsM r == 0
 · rw [hz] at hp; simp at hp
 rw [hz,cond_true] at hp
 obtain ⟨x,hx,hxc⟩:=List.any_eq_true.1 (List.mem_filter.1 hp).2
 have hcz:clsM r = 0:=by simpa using hz
 have hi:=(bou_items (clsM_zero hcz).1).1 x hx
 simp only [itmB,Bool.and_eq_true,inb_iff] at hi
 obtain ⟨i,hi2⟩:=List.mem_iff_getElem?.1 hx
 have h1:=repU_has r.fItems 0 i x hi2 (by omega)
 have h2:(i:Int) ∈ untM r:=by
  unfold untM l6M
  rw [hz,cond_true]
  simpa using h1
 obtain ⟨u,hu⟩:=List.mem_iff_getElem?.1 h2
 have hm:itmM r (u:Int) = some x:=by
  unfold itmM
  rw [ix_nat,hu,ob_some,ix_nat,hi2]
 have hin:inG r g (u:Int) = true:=by
  unfold inG
  rw [hm]
  have e:x.fClass = c:=by simpa using hxc
  simp only [e]
  simpa using hc
 rw [← uof_has hg] at hin
 intro e
 rw [e] at hin
 simp at hin
theorem pw_ne {r:Request} {k:Int} (h:0 ≤ k ∧ k < (grpM r).length):1 ≤ (pwM r (uofM r k)).length:=by
 rcases Nat.eq_zero_or_pos (pwM r (uofM r k)).length with h0 | h0
 · have e:=List.eq_nil_of_length_eq_zero h0
   have:=pw_flat r (uofM r k)
   rw [e,thr_uof] at this
   exact absurd (List.Perm.nil_eq this).symm (uof_ne h)
 · exact h0
end Go.Proofs.YthddjkokpfdbnaaGreat
/- First fit of what is sorted down: at most three halves of any packing; next fit: twice, less one. Weight binds nowhere. -/
namespace Go.Proofs.YthddjkokpfdbnaaGreat
open Go
open Enc (rd ow)
open Arg (argv)
open Ret (retv)
open Wf (wf)
def vU (r:Request) (u:Int):Int:=volM r [u]
theorem vol_one' (r:Request) (l:List Int) (u:Int):volM r (l ++ [u]) = volM r l + vU r u:=vol_app r l [u]
theorem vU_nn (r:Request) (u:Int):0 ≤ vU r u:=(volM_bd r [u]).1
theorem vol_nn (r:Request) (l:List Int):0 ≤ volM r l:=(volM_bd r l).1
def Slk (r:Request) (us:List Int):Prop:=grmM r us ≤ (masM r).fGram
theorem rom_vol {r:Request} {us vs:List Int} {out:List (List Int)} {u:Int} {l:List Int} (hs:Slk r us) (hp:(out.flatten ++ (u :: vs)).Perm us) (hl:l ∈ out) (h:romB r u l = false):volT (masM r) + 1 ≤ volM r l + vU r u:=by
 obtain ⟨i,hi⟩:=List.mem_iff_getElem?.1 hl
 have hc:=cut_flat (out:=out) (k:=(i:Int)) (c:=l) (by rw [ix_nat,hi])
 have h1:=grm_perm (r:=r) hp
 rw [grm_app,grm_perm hc,grm_app,grm_cons] at h1
 have a1:=(grmM_bd r ((out.take (i:Int).toNat ++ out.drop ((i:Int).toNat + 1)).flatten)).1
 have a2:=(grmM_bd r vs).1
 have e1:grmM r (l ++ [u]) = grmM r l + (itmZ r u).fGram:=by
  rw [grm_app,grm_cons]
  have:grmM r [] = 0:=by simp [grmM,itsM]
  omega
 unfold Slk at hs
 unfold romB witB at h
 rw [Bool.and_eq_false_iff,decide_eq_false_iff_not,decide_eq_false_iff_not,vol_one',e1] at h
 omega
structure Ff (r:Request) (out:List (List Int)) (vs:List Int):Prop where
 ff:∀ (i j:Nat) (b c:List Int),out[i]? = some b → out[j]? = some c → i < j → ∀ x ∈ c,volT (masM r) + 1 ≤ volM r b + vU r x
 hd:∀ c ∈ out,∃ f l,c = f :: l ∧ ∀ x ∈ c,vU r x ≤ vU r f
 dn:∀ (i j:Nat) (f g:Int) (b c:List Int),out[i]? = some (f :: b) → out[j]? = some (g :: c) → i ≤ j → vU r g ≤ vU r f
 lt:∀ y ∈ vs,∀ c ∈ out,∀ x ∈ c,vU r y ≤ vU r x
theorem fst_before {α:Type} {g:α → Bool}:∀ {l:List α} {k:Nat},fstI g l = some k → ∀ i x,l[i]? = some x → i < k → g x = false
 | [],k,h,_,_,_,_=>by simp [fstI] at h
 | y :: l,k,h,i,x,hx,hik=>by
  unfold fstI at h
  cases hy:g y
  · rw [hy,cond_false,Option.map_eq_some_iff] at h
    obtain ⟨j,hj,rfl⟩:=h
    cases i with
    | zero=>simp at hx; rw [← hx]; exact hy
    | succ i=>exact fst_before hj i x (by simpa using hx) (by omega)
  · rw [hy,cond_true] at h
    cases h
    omega
theorem ff_step {r:Request} {us vs:List Int} (hs:Slk r us) {out:List (List Int)} {v:Int} (hp:(out.flatten ++ (v :: vs)).Perm us) (hsrt:∀ y ∈ vs,vU r y ≤ vU r v) (h:Ff r out (v :: vs)):Ff r (fitF r out v) vs:=by
 have hlt:∀ y ∈ vs,∀ c ∈ out,∀ x ∈ c,vU r y ≤ vU r x:=fun y hy=>h.lt y (by simp [hy])
 unfold fitF putF
 cases hf:fstI (romB r v) out with
 | some k =>
  obtain ⟨c0,hc0,hr0⟩:=fstI_lt hf
  have hk:=(List.getElem?_eq_some_iff.1 hc0).1
  have hm:=List.mem_of_getElem? hc0
  simp only [hc0]
  have hget:∀ (i:Nat) (b:List Int),(out.set k (c0 ++ [v]))[i]? = some b → (i = k ∧ b = c0 ++ [v]) ∨ (i ≠ k ∧ out[i]? = some b):=by
   intro i b hb
   rw [List.getElem?_set] at hb
   by_cases e:k = i
   · subst e
     rw [if_pos rfl,if_pos hk] at hb
     exact .inl ⟨rfl,(Option.some.inj hb).symm⟩
   · rw [if_neg e] at hb
     exact .inr ⟨fun h=>e h.symm,hb⟩
  obtain ⟨f0,l0,e0,hf0⟩:=h.hd c0 hm
  refine ⟨fun i j b c hb hc hij x hx=>?_,fun c hc=>?_,fun i j f g b c hb hc hij=>?_,fun y hy c hc x hx=>?_⟩
  · rcases hget i b hb with ⟨e1,e2⟩ | ⟨e1,hb2⟩ <;> rcases hget j c hc with ⟨e3,e4⟩ | ⟨e3,hc2⟩
    · omega
    · have:=h.ff k j c0 c hc0 hc2 (by omega) x hx
      rw [e2,vol_one']
      have:=vU_nn r v
      omega
    · rw [e4] at hx
      rcases List.mem_append.1 hx with hx | hx
      · exact h.ff i k b c0 hb2 hc0 (by omega) x hx
      · rw [List.mem_singleton.1 hx]
        exact rom_vol hs hp (List.mem_of_getElem? hb2) (fst_before hf i b hb2 (by omega))
    · exact h.ff i j b c hb2 hc2 hij x hx
  · rcases List.mem_or_eq_of_mem_set hc with hc | rfl
    · exact h.hd c hc
    · refine ⟨f0,l0 ++ [v],by rw [e0]; rfl,fun x hx=>?_⟩
      rcases List.mem_append.1 hx with hx | hx
      · exact hf0 x hx
      · rw [List.mem_singleton.1 hx]
        exact h.lt v (by simp) c0 hm f0 (by rw [e0]; simp)
  · have tr:∀ (i:Nat) (f:Int) (b:List Int),(out.set k (c0 ++ [v]))[i]? = some (f :: b) → ∃ b',out[i]? = some (f :: b'):=by
      intro i f b hb
      rcases hget i _ hb with ⟨e1,e2⟩ | ⟨e1,hb2⟩
      · rw [e0] at e2
        simp only [List.cons_append,List.cons.injEq] at e2
        exact ⟨l0,by rw [e1,hc0,e0,e2.1]⟩
      · exact ⟨b,hb2⟩
    obtain ⟨b',hb'⟩:=tr i f b hb
    obtain ⟨c',hc'⟩:=tr j g c hc
    exact h.dn i j f g b' c' hb' hc' hij
  · rcases List.mem_or_eq_of_mem_set hc with hc | rfl
    · exact hlt y hy c hc x hx
    · rcases List.mem_append.1 hx with hx | hx
      · exact hlt y hy c0 hm x hx
      · rw [List.mem_singleton.1 hx]; exact hsrt y hy
 | none =>
  have hno:=fstI_none hf
  have hget:∀ (i:Nat) (b:List Int),(out ++ [[v]])[i]? = some b → (i < out.length ∧ out[i]? = some b) ∨ (i = out.length ∧ b = [v]):=by
   intro i b hb
   by_cases e:i < out.length
   · rw [List.getElem?_append_left e] at hb; exact .inl ⟨e,hb⟩
   · rw [List.getElem?_append_right (by omega)] at hb
     have h1:=(List.getElem?_eq_some_iff.1 hb)
     obtain ⟨h1,h2⟩:=h1
     simp only [List.length_singleton] at h1
     have h3:i - out.length = 0:=by omega
     refine .inr ⟨by omega,?_⟩
     simp only [h3,List.getElem_cons_zero] at h2
     exact h2.symm
  refine ⟨fun i j b c hb hc hij x hx=>?_,fun c hc=>?_,fun i j f g b c hb hc hij=>?_,fun y hy c hc x hx=>?_⟩
  · rcases hget i b hb with ⟨e1,hb2⟩ | ⟨e1,e2⟩ <;> rcases hget j c hc with ⟨e3,hc2⟩ | ⟨e3,e4⟩
    · exact h.ff i j b c hb2 hc2 hij x hx
    · rw [e4] at hx
      rw [List.mem_singleton.1 hx]
      exact rom_vol hs hp (List.mem_of_getElem? hb2) (hno b (List.mem_of_getElem? hb2))
    · omega
    · omega
  · rcases List.mem_append.1 hc with hc | hc
    · exact h.hd c hc
    · rw [List.mem_singleton.1 hc]
      exact ⟨v,[],rfl,fun x hx=>by rw [List.mem_singleton.1 hx]; exact Int.le_refl _⟩
  · rcases hget i _ hb with ⟨e1,hb2⟩ | ⟨e1,e2⟩ <;> rcases hget j _ hc with ⟨e3,hc2⟩ | ⟨e3,e4⟩
    · exact h.dn i j f g b c hb2 hc2 hij
    · simp only [List.cons.injEq] at e4
      rw [e4.1]
      exact h.lt v (by simp) (f :: b) (List.mem_of_getElem? hb2) f (by simp)
    · omega
    · simp only [List.cons.injEq] at e2 e4
      rw [e2.1,e4.1]; exact Int.le_refl _
  · rcases List.mem_append.1 hc with hc | hc
    · exact hlt y hy c hc x hx
    · rw [List.mem_singleton.1 hc] at hx
      rw [List.mem_singleton.1 hx]; exact hsrt y hy
theorem ff_fold {r:Request} {us:List Int} (hs:Slk r us):∀ (vs:List Int) (out:List (List Int)),(out.flatten ++ vs).Perm us → vs.Pairwise (fun a b=>vU r b ≤ vU r a) → Ff r out vs → Ff r (vs.foldl (fitF r) out) []
 | [],_,_,_,h=>h
 | v :: vs,out,hp,hsr,h=>by
  rw [List.foldl_cons]
  obtain ⟨h1,h2⟩:=List.pairwise_cons.1 hsr
  exact ff_fold hs vs _ (((putF_flat _ out v).append_right vs).trans (by simpa using hp)) h2 (ff_step hs hp h1 h)
theorem ord_sorted (r:Request) (us:List Int):(ordM r us).Pairwise (fun a b=>vU r b ≤ vU r a):=by
 unfold ordM
 refine List.pairwise_map.2 ?_
 have hs:=srt_sorted (dnk (us.map fun u=>volM r [u])) us.length
 have hm:∀ p ∈ srt (dnk (us.map fun u=>volM r [u])) us.length,0 ≤ p ∧ p < us.length:=fun p hp=>srt_mem.1 hp
 refine hs.imp_of_mem fun {p q} hp hq h=>?_
 have key:∀ p,0 ≤ p ∧ p < (us.length:Int) → kf (us.map fun u=>volM r [u]) p = vU r ((ix us p).getD 0):=by
  intro p hp
  obtain ⟨x,hx⟩:=ix_in (l:=us) hp.1 hp.2
  obtain ⟨a1,a2,a3⟩:=ix_some hx
  unfold kf
  have:ix (us.map fun u=>volM r [u]) p = some (volM r [x]):=by
   unfold ix
   rw [if_pos a1,List.getElem?_map,a3]; rfl
  rw [this,hx]; rfl
 unfold lx dnk at h
 rw [key p (hm p hp),key q (hm q hq)] at h
 omega
theorem pair_sum {r:Request} {V:Int}:∀ (bs:List (List Int)) (xs:List Int),bs.length = xs.length → (∀ b ∈ bs,∀ x ∈ xs,V ≤ volM r b + vU r x) → (bs.length:Int) * V ≤ volM r bs.flatten + volM r xs
 | [],[],_,_=>by simp [volM,itsM]
 | b :: bs,x :: xs,hl,h=>by
  have ih:=pair_sum bs xs (by simpa using hl) fun c hc y hy=>h c (by simp [hc]) y (by simp [hy])
  have h1:=h b (by simp) x (by simp)
  have e:volM r (x :: xs) = vU r x + volM r xs:=vol_app r [x] xs
  rw [List.flatten_cons,vol_app,e,List.length_cons,show ((bs.length + 1:Nat):Int) = (bs.length:Int) + 1 by omega,Int.add_mul,Int.one_mul]
  omega
 | [],_ :: _,hl,_=>by simp at hl
 | _ :: _,[],hl,_=>by simp at hl
theorem len_two:∀ (l:List (List Int)),(∀ (i:Nat) (c:List Int),l[i]? = some c → i + 1 < l.length → 2 ≤ c.length) → (∀ c ∈ l,1 ≤ c.length) → 2 * l.length ≤ l.flatten.length + 1
 | [],_,_=>by simp
 | [c],_,h1=>by have:=h1 c (by simp); simp; omega
 | c :: d :: l,h,h1=>by
  have ih:=len_two (d :: l) (fun i e he hi=>h (i + 1) e (by simpa using he) (by simp at hi ⊢; omega)) fun e he=>h1 e (by simp [he])
  have:=h 0 c (by simp) (by simp)
  rw [List.flatten_cons,List.length_append]
  simp only [List.length_cons] at ih ⊢
  omega
theorem cnt_each {r:Request} {g:Item → Bool}:∀ (cs:List (List Int)),(∀ c ∈ cs,1 ≤ cntB g (itsM r c)) → (cs.length:Int) ≤ cntB g (itsM r cs.flatten)
 | [],_=>by simp [itsM,cntB]
 | c :: cs,h=>by
  have h1:=cnt_each cs fun d hd=>h d (by simp [hd])
  have h2:=h c (by simp)
  rw [List.flatten_cons,its_app,cntB_app,List.length_cons]
  omega
theorem ffd_le {r:Request} (hc:clsM r = 0) {us:List Int} (hin:∀ u ∈ us,0 ≤ u ∧ u < (untM r).length) {out:List (List Int)} (hf:Ff r out []) (ho:out.flatten.Perm us) {cs:List (List Int)} (hp:cs.flatten.Perm us) (hw:∀ c ∈ cs,witB r c (masM r) = true):2 * out.length ≤ 3 * cs.length:=by
 rcases Nat.lt_or_ge (3 * cs.length) (2 * out.length) with hlt | h
 rotate_left
 · exact h
 exfalso
 have hm:=(mas_typ hc).2.2
 have hv1:=volT_pos hm
 have hw1:∀ c ∈ cs,volM r c ≤ volT (masM r):=fun c hcm=>by
  have:=hw c hcm
  unfold witB at this
  simp only [Bool.and_eq_true,decide_eq_true_eq] at this
  exact this.1
 have hS:volM r us ≤ cs.length * volT (masM r):=by
  rw [← vol_perm hp]
  exact vol_flat cs hw1
 have hk:cs.length < out.length:=by omega
 have hne:∀ c ∈ out,c ≠ []:=fun c hcm e=>by
  obtain ⟨f,l,e2,_⟩:=hf.hd c hcm
  rw [e] at e2; cases e2
 obtain ⟨f,l,hfl,hmx⟩:=hf.hd out[cs.length] (List.getElem_mem hk)
 have hgk:out[cs.length]? = some (f :: l):=by rw [List.getElem?_eq_getElem hk,hfl]
 by_cases hbig:2 * vU r f > volT (masM r)
 · -- k + 1 great ones
   have h1:∀ c ∈ out.take (cs.length + 1),1 ≤ cntB (grtB r) (itsM r c):=by
    intro c hcm
    obtain ⟨i,hi⟩:=List.mem_iff_getElem?.1 hcm
    rw [List.getElem?_take] at hi
    split at hi
    · rename_i hik
      obtain ⟨g,b,e,_⟩:=hf.hd c (List.mem_of_getElem? hi)
      rw [e] at hi
      have hd:=hf.dn i cs.length g f b l hi hgk (by omega)
      have hgm:g ∈ us:=by
       rw [← ho.mem_iff]
       exact List.mem_flatten.2 ⟨g :: b,List.mem_of_getElem? hi,by simp⟩
      have hz:=itmZ_in (hin g hgm)
      have hvg:volI (itmZ r g) = vU r g:=((vol_one (hin g hgm)).1).symm
      have:grtB r (itmZ r g) = true:=by
       unfold grtB
       rw [hvg]
       exact decide_eq_true (by omega)
      rw [e]
      unfold itsM
      rw [List.filterMap_cons,hz]
      simp only [cntB,this]
      have:=(cntB_bd (grtB r) (b.filterMap (itmM r))).1
      simp only [bitI,cond_true]
      omega
    · cases hi
   have h2:=cnt_each _ h1
   have h3:cntB (grtB r) (itsM r us) ≤ cs.length:=by
    rw [← cntB_perm _ (its_perm (r:=r) hp)]
    refine cnt_flat cs fun c h=>cnt_one (V:=volT (masM r)) (s:=volM r c) (cnt_two (f:=volI) (fun x hx=>?_) _ fun x _=>(volB_nn _ _ _).1) (hw1 c h) (by omega)
    unfold grtB at hx
    have:=of_decide_eq_true hx
    omega
   have h4:cntB (grtB r) (itsM r (out.take (cs.length + 1)).flatten) ≤ cntB (grtB r) (itsM r us):=by
    rw [← cntB_perm _ (its_perm (r:=r) ho)]
    have e:out.flatten = (out.take (cs.length + 1)).flatten ++ (out.drop (cs.length + 1)).flatten:=by
     rw [← List.flatten_append,List.take_append_drop]
    rw [e,its_app,cntB_app]
    have:=(cntB_bd (grtB r) (itsM r (out.drop (cs.length + 1)).flatten)).1
    omega
   rw [List.length_take] at h2
   omega
 · -- k pairs
   have hsm:∀ c ∈ out.drop cs.length,∀ x ∈ c,2 * vU r x ≤ volT (masM r):=by
    intro c hcm x hx
    obtain ⟨i,hi⟩:=List.mem_iff_getElem?.1 hcm
    rw [List.getElem?_drop] at hi
    obtain ⟨g,b,e,hg⟩:=hf.hd c (List.mem_of_getElem? hi)
    have h1:=hg x hx
    rw [e] at hi
    have h2:=hf.dn cs.length (cs.length + i) f g l b hgk hi (by omega)
    omega
   have h2:=len_two (out.drop cs.length) (fun i c hi hl=>by
    rw [List.getElem?_drop] at hi
    rw [List.length_drop] at hl
    have hj:cs.length + i + 1 < out.length:=by omega
    obtain ⟨g,b,e,_⟩:=hf.hd out[cs.length + i + 1] (List.getElem_mem hj)
    have h3:=hf.ff (cs.length + i) (cs.length + i + 1) c out[cs.length + i + 1] hi (List.getElem?_eq_getElem hj) (by omega) g (by rw [e]; simp)
    have hgs:=hsm out[cs.length + i + 1] (by
     refine List.mem_of_getElem? (i:=i + 1) ?_
     rw [List.getElem?_drop,← Nat.add_assoc,List.getElem?_eq_getElem hj]) g (by rw [e]; simp)
    have hcm:c ∈ out.drop cs.length:=List.mem_of_getElem? (i:=i) (by rw [List.getElem?_drop]; exact hi)
    match c,hne c (List.mem_of_getElem? hi),h3,hcm with
    | [x],_,h3,hcm =>
     have:=hsm [x] hcm x (by simp)
     have e2:volM r [x] = vU r x:=rfl
     omega
    | x :: y :: c,_,_,_=>simp) (fun c hcm=>by
     have:=List.length_pos_iff.2 (hne c (List.mem_of_mem_drop hcm))
     omega)
   rw [List.length_drop] at h2
   have hlen:cs.length ≤ (out.drop cs.length).flatten.length:=by omega
   have h5:=pair_sum (r:=r) (V:=volT (masM r) + 1) (out.take cs.length) ((out.drop cs.length).flatten.take cs.length) (by rw [List.length_take,List.length_take]; omega) (fun b hb x hx=>by
    obtain ⟨i,hi⟩:=List.mem_iff_getElem?.1 hb
    rw [List.getElem?_take] at hi
    split at hi
    · rename_i hik
      obtain ⟨c,hcm,hxc⟩:=List.mem_flatten.1 (List.mem_of_mem_take hx)
      obtain ⟨j,hj⟩:=List.mem_iff_getElem?.1 hcm
      rw [List.getElem?_drop] at hj
      exact hf.ff i (cs.length + j) b c hi hj (by omega) x hxc
    · cases hi)
   have h6:volM r ((out.drop cs.length).flatten.take cs.length) ≤ volM r (out.drop cs.length).flatten:=by
    have e:volM r (out.drop cs.length).flatten = volM r ((out.drop cs.length).flatten.take cs.length) + volM r ((out.drop cs.length).flatten.drop cs.length):=by
     rw [← vol_app,List.take_append_drop]
    have:=vol_nn r ((out.drop cs.length).flatten.drop cs.length)
    omega
   have h7:volM r us = volM r (out.take cs.length).flatten + volM r (out.drop cs.length).flatten:=by
    rw [← vol_perm ho,← vol_app,← List.flatten_append,List.take_append_drop]
   rw [List.length_take,show min cs.length out.length = cs.length by omega,Int.mul_add,Int.mul_one] at h5
   have hk0:0 < cs.length:=by
    rcases Nat.eq_zero_or_pos cs.length with h0 | h0
    · exfalso
      have e:=List.eq_nil_of_length_eq_zero h0
      have hu:us = []:=by
       rw [e] at hp
       exact (List.Perm.nil_eq hp).symm
      rw [hu] at ho
      have:=ho.length_eq
      have h9:f ∈ out.flatten:=List.mem_flatten.2 ⟨_,List.mem_of_getElem? hgk,by simp⟩
      rw [List.eq_nil_of_length_eq_zero this] at h9
      simp at h9
    · exact h0
   omega
end Go.Proofs.YthddjkokpfdbnaaGreat
/- Where nobody mixes, their cartons are told apart by group; first fit and next fit of each group against them. -/
namespace Go.Proofs.YthddjkokpfdbnaaGreat
open Go
open Enc (rd ow)
open Arg (argv)
open Ret (retv)
open Wf (wf)
theorem flt_len {α:Type} (p:α → Bool):∀ (l:List α),(l.filter p).length + (l.filter fun a=>!p a).length = l.length
 | []=>rfl
 | a :: l=>by
  have ih:=flt_len p l
  rw [List.filter_cons,List.filter_cons]
  cases p a <;> simp <;> omega
def sumN:List Nat → Nat
 | []=>0
 | x :: l=>x + sumN l
theorem part_sum {α:Type} (p:Int → α → Bool) (hd:∀ c a b,p a c = true → p b c = true → a = b):∀ (ks:List Int),ks.Nodup → ∀ (cs:List α),sumN (ks.map fun k=>(cs.filter (p k)).length) ≤ cs.length
 | [],_,cs=>by simp [sumN]
 | k :: ks,hn,cs=>by
  obtain ⟨h1,h2⟩:=List.nodup_cons.1 hn
  have ih:=part_sum p hd ks h2 (cs.filter fun c=>!p k c)
  have e:(ks.map fun k'=>((cs.filter fun c=>!p k c).filter (p k')).length) = ks.map fun k'=>(cs.filter (p k')).length:=by
   refine List.map_congr_left fun k' hk'=>?_
   rw [List.filter_filter]
   congr 1
   refine List.filter_congr fun c _=>?_
   cases h:p k' c
   · rfl
   · cases h':p k c
     · rfl
     · exact absurd (hd c k k' h' h) fun e=>h1 (e ▸ hk')
  rw [e] at ih
  have:=flt_len (p k) cs
  simp only [List.map_cons,sumN]
  omega
theorem crtF_lenS (r:Request):∀ (ks:List Int),(crtF r ks).length = sumN (ks.map fun k=>(pwM r (uofM r k)).length)
 | []=>rfl
 | k :: ks=>by
  rw [crtF,List.length_append,crtF_lenS r ks]
  unfold crtK
  simp [sumN]
theorem sum_le (f g:Int → Nat) (a b c:Nat):∀ (ks:List Int),(∀ k ∈ ks,a * f k + c ≤ b * g k) → a * sumN (ks.map f) + c * ks.length ≤ b * sumN (ks.map g)
 | [],_=>by simp [sumN]
 | k :: ks,h=>by
  have ih:=sum_le f g a b c ks fun k hk=>h k (by simp [hk])
  have:=h k (by simp)
  simp only [List.map_cons,sumN,List.length_cons,Nat.mul_add,Nat.mul_one]
  omega
def hdB (r:Request) (k:Int) (c:List Int):Bool:=match c with | u :: _=>(uofM r k).contains u | []=>false
theorem uof_one {r:Request} {a b u:Int} (h1:u ∈ uofM r a) (h2:u ∈ uofM r b):a = b:=by
 obtain ⟨_,g,hg,hx⟩:=uof_mem h1
 obtain ⟨_,g',hg',hy⟩:=uof_mem h2
 have:=grp_apart (ix_some hg).2.2 (ix_some hg').2.2 hx hy
 have h1:=(ix_some hg).1
 have h2:=(ix_some hg').1
 omega
theorem hd_one (r:Request):∀ (c:List Int) (a b:Int),hdB r a c = true → hdB r b c = true → a = b:=by
 intro c a b h1 h2
 cases c with
 | nil=>cases h1
 | cons u c=>exact uof_one (by simpa [hdB] using h1) (by simpa [hdB] using h2)
theorem uof_gof {r:Request} {k u:Int} (hk:0 ≤ k ∧ k < (grpM r).length) (hu:0 ≤ u ∧ u < (untM r).length):(uofM r k).contains u = (gofM (grpM r) (itmZ r u).fClass == k):=by
 rw [grp_named hu hk.1]
 have hg:∃ g,ix (grpM r) k = some g:=⟨(grpM r)[k.toNat]'(by omega),by
  unfold ix
  rw [if_pos hk.1,List.getElem?_eq_getElem]⟩
 obtain ⟨g,hg⟩:=hg
 rw [uof_has hg,hg]
 unfold inG
 rw [itmZ_in hu]
theorem all_or {r:Request} {k:Int} {c:List Int} (hk:0 ≤ k ∧ k < (grpM r).length) (hu:∀ u ∈ c,0 ≤ u ∧ u < (untM r).length) (hm:mixB r c = false):∀ u ∈ c,(uofM r k).contains u = hdB r k c:=by
 intro u huc
 cases c with
 | nil=>simp at huc
 | cons v c =>
  show _ = (uofM r k).contains v
  rw [uof_gof hk (hu u huc),uof_gof hk (hu v (by simp))]
  unfold mixB at hm
  have h1:=List.any_eq_false.1 hm u huc
  rw [Bool.not_eq_true] at h1
  have h2:=List.any_eq_false.1 h1 v (by simp)
  unfold badB at h2
  rw [itmZ_in (hu u huc),itmZ_in (hu v (by simp))] at h2
  have h3:gofM (grpM r) (itmZ r u).fClass = gofM (grpM r) (itmZ r v).fClass:=by simpa using h2
  rw [h3]
end Go.Proofs.YthddjkokpfdbnaaGreat
/- Promise of spec and of impl. -/
namespace Go.Proofs.YthddjkokpfdbnaaGreat
open Go
open Enc (rd ow)
open Arg (argv)
open Ret (retv)
open Wf (wf)
def minI (a b:Int):Int:=if a < b then a else b
def proM (r:Request) (k n:Int):Int :=
 bif decide (n < 1) || !hasG r k then 0 else
  let m:=minI n 1000
  let o:=bif slgM r k || slvM r k then 2 * m - 1 else 4 * m - 1
  bif slgM r k && (r.fWay == 0) then minI o (Int.tdiv (3 * m) 2) else o
theorem half_bd {m:Int} (h1:1 ≤ m) (h2:m ≤ 1000):0 ≤ Int.tdiv (3 * m) 2 ∧ Int.tdiv (3 * m) 2 ≤ 3000:=by
 rw [Int.tdiv_eq_ediv_of_nonneg (by omega)]
 omega
theorem i_pro {fu:Nat} {r:Request} (h:Sm fu r) (k n:Int):d_impl_Promise fu r k n = some (proM r k n):=by
 unfold d_impl_Promise d_impl_Promise_J3 d_impl_Promise_J2 d_impl_Promise_J1 proM
 by_cases hn:n < 1
 · rw [bif_true (by simpa using hn)]; simp [hn]
 · rw [bif_false (by simpa using hn),i_hasG h,ob_some]
   have e:decide (n < 1) = false:=by simpa using hn
   rw [e,Bool.false_or]
   cases hasG r k
   · rfl
   · have hq:(if 1000 < n then 1000 else n) = minI n 1000:=by unfold minI; split <;> split <;> omega
     simp only [Bool.not_true,cond_false,hq,ob_some,i_slg h,i_slv h]
     have hm:1 ≤ minI n 1000 ∧ minI n 1000 ≤ 1000:=by unfold minI; split <;> omega
     have hh:=half_bd hm.1 hm.2
     generalize minI n 1000 = m at *
     have e1:w64 (2 * m) = 2 * m:=w64_id (by omega) (by omega)
     have e2:w64 (2 * m - 1) = 2 * m - 1:=w64_id (by omega) (by omega)
     have e3:w64 (4 * m) = 4 * m:=w64_id (by omega) (by omega)
     have e4:w64 (4 * m - 1) = 4 * m - 1:=w64_id (by omega) (by omega)
     have e5:w64 (3 * m) = 3 * m:=w64_id (by omega) (by omega)
     have e6:w64 (Int.tdiv (3 * m) 2) = Int.tdiv (3 * m) 2:=w64_id (by omega) (by omega)
     simp only [e1,e2,e3,e4,e5,e6]
     have c1:(if 2 * m - 1 < 4 * m - 1 then 2 * m - 1 else 4 * m - 1) = 2 * m - 1:=by rw [if_pos (by omega)]
     rw [c1]
     have c2:∀ a b:Int,(if b < a then b else a) = minI a b:=by intro a b; unfold minI; split <;> split <;> omega
     simp only [c2]
     cases slgM r k <;> cases slvM r k <;> cases (r.fWay == 0) <;> rfl
end Go.Proofs.YthddjkokpfdbnaaGreat
/- Two cartons in a row are more than one holds, in one measure or the other; what is promised of a group. -/
namespace Go.Proofs.YthddjkokpfdbnaaGreat
open Go
open Enc (rd ow)
open Arg (argv)
open Ret (retv)
open Wf (wf)
def Hvy (r:Request) (a b:List Int):Prop:=volT (masM r) + 1 ≤ volM r a + volM r b ∨ (masM r).fGram + 1 ≤ grmM r a + grmM r b
theorem hvy_rom {r:Request} {u:Int} {l:List Int} (h:romB r u l = false):Hvy r l [u]:=by
 unfold romB witB at h
 rw [Bool.and_eq_false_iff,decide_eq_false_iff_not,decide_eq_false_iff_not,vol_app,grm_app] at h
 unfold Hvy
 omega
theorem hvy_mono {r:Request} {a b a' b':List Int} (h:Hvy r a b) (h1:volM r a ≤ volM r a') (h2:grmM r a ≤ grmM r a') (h3:volM r b ≤ volM r b') (h4:grmM r b ≤ grmM r b'):Hvy r a' b':=by
 unfold Hvy at *
 omega
theorem grow_le (r:Request) (x:List Int) (v:Int):volM r x ≤ volM r (x ++ [v]) ∧ grmM r x ≤ grmM r (x ++ [v]):=by
 rw [vol_app,grm_app]
 have h1:=(volM_bd r [v]).1
 have h2:=(grmM_bd r [v]).1
 omega
def AdjH (r:Request):List (List Int) → Prop
 | a :: b :: l=>Hvy r a b ∧ AdjH r (b :: l)
 | _=>True
theorem adjH_snoc {r:Request} {x y:List Int}:∀ {l:List (List Int)},AdjH r (l ++ [x]) → Hvy r x y → AdjH r (l ++ [x] ++ [y])
 | [],_,h=>⟨h,trivial⟩
 | [a],h,h2=>⟨h.1,h2,trivial⟩
 | a :: b :: l,h,h2=>⟨h.1,adjH_snoc (l:=b :: l) h.2 h2⟩
theorem adjH_grow {r:Request} {x:List Int} {v:Int}:∀ {l:List (List Int)},AdjH r (l ++ [x]) → AdjH r (l ++ [x ++ [v]])
 | [],_=>trivial
 | [a],h=>⟨hvy_mono h.1 (by omega) (by omega) (grow_le r x v).1 (grow_le r x v).2,trivial⟩
 | a :: b :: l,h=>⟨h.1,adjH_grow (l:=b :: l) h.2⟩
theorem nf_adjH {r:Request}:∀ (vs:List Int) (out:List (List Int)),AdjH r out → AdjH r (vs.foldl (nxtF r) out)
 | [],_,h=>h
 | v :: vs,out,h=>by
  rw [List.foldl_cons]
  refine nf_adjH vs _ ?_
  cases hl:out.getLast? with
  | none =>
   unfold nxtF
   rw [hl]
   trivial
  | some x =>
   rw [nxtF_some v hl]
   have hne:out ≠ []:=by intro e; rw [e] at hl; simp at hl
   have e:out = out.dropLast ++ [x]:=by
    have h1:=List.dropLast_concat_getLast hne
    rw [List.getLast?_eq_some_getLast hne] at hl
    rw [Option.some.inj hl] at h1
    exact h1.symm
   obtain ⟨d,hd⟩:∃ d,out = d ++ [x]:=⟨_,e⟩
   rw [hd] at h ⊢
   cases hr:romB r v x
   · exact adjH_snoc h (hvy_rom hr)
   · rw [cond_true]
     have e2:(d ++ [x]).set ((d ++ [x]).length - 1) (x ++ [v]) = d ++ [x ++ [v]]:=by simp
     rw [e2]
     exact adjH_grow h
theorem pw_adjH {r:Request}:∀ (l:List (List Int)),l.Pairwise (Hvy r) → AdjH r l
 | [],_=>trivial
 | [a],_=>trivial
 | a :: b :: l,h=>by
  rw [List.pairwise_cons] at h
  exact ⟨h.1 b (by simp),pw_adjH (b :: l) h.2⟩
theorem set_at {α:Type} {l:List α} {i:Nat} {x:α} (h:l[i]? = some x) (y:α):∃ A B,l = A ++ x :: B ∧ l.set i y = A ++ y :: B:=by
 induction l generalizing i with
 | nil=>simp at h
 | cons a l ih =>
  cases i with
  | zero =>
   simp only [List.getElem?_cons_zero,Option.some.injEq] at h
   subst h
   exact ⟨[],l,rfl,rfl⟩
  | succ i =>
   obtain ⟨A,B,e1,e2⟩:=ih (by simpa using h)
   exact ⟨a :: A,B,by rw [e1]; rfl,by rw [List.set_cons_succ,e2]; rfl⟩
theorem ff_pw {r:Request}:∀ (vs:List Int) (out:List (List Int)),out.Pairwise (Hvy r) → (vs.foldl (fitF r) out).Pairwise (Hvy r)
 | [],_,h=>h
 | v :: vs,out,h=>by
  rw [List.foldl_cons]
  refine ff_pw vs _ ?_
  unfold fitF putF
  cases hf:fstI (romB r v) out with
  | some i =>
   obtain ⟨x,hx,_⟩:=fstI_lt hf
   simp only [hx]
   obtain ⟨A,B,e1,e2⟩:=set_at hx (x ++ [v])
   rw [e2]
   rw [e1] at h
   rw [List.pairwise_append,List.pairwise_cons] at h ⊢
   obtain ⟨h1,⟨h2,h3⟩,h4⟩:=h
   have g:=grow_le r x v
   refine ⟨h1,⟨fun b hb=>hvy_mono (h2 b hb) g.1 g.2 (by omega) (by omega),h3⟩,fun a ha b hb=>?_⟩
   rcases List.mem_cons.1 hb with rfl | hb
   · exact hvy_mono (h4 a ha x (by simp)) (by omega) (by omega) g.1 g.2
   · exact h4 a ha b (by simp [hb])
  | none =>
   simp only
   rw [List.pairwise_append]
   refine ⟨h,by simp,fun a ha b hb=>?_⟩
   rw [List.mem_singleton.1 hb]
   exact hvy_rom (fstI_none hf a ha)
theorem pw_way {r:Request} (us:List Int):AdjH r (pwM r us):=by
 unfold pwM nfM ffM
 cases r.fWay == 1
 · exact pw_adjH _ (ff_pw _ [] .nil)
 · exact nf_adjH _ [] trivial
theorem hvy_pairs {r:Request}:∀ (l:List (List Int)),AdjH r l → ∃ p q:Nat,l.length / 2 = p + q ∧ (p:Int) * (volT (masM r) + 1) ≤ volM r l.flatten ∧ (q:Int) * ((masM r).fGram + 1) ≤ grmM r l.flatten
 | [],_=>⟨0,0,rfl,by simp [volM,itsM],by simp [grmM,itsM]⟩
 | [a],_=>⟨0,0,by simp,by simpa using (volM_bd r a).1,by simpa using (grmM_bd r a).1⟩
 | a :: b :: l,h=>by
  have h2:AdjH r l:=by
   have:=h.2
   cases l with
   | nil=>trivial
   | cons c l=>exact this.2
  obtain ⟨p,q,e,h3,h4⟩:=hvy_pairs l h2
  have e':(a :: b :: l).length / 2 = l.length / 2 + 1:=by simp only [List.length_cons]; omega
  have ha:=(volM_bd r a).1
  have hb:=(volM_bd r b).1
  have ga:=(grmM_bd r a).1
  have gb:=(grmM_bd r b).1
  rcases h.1 with h1 | h1
  · refine ⟨p + 1,q,by omega,?_,?_⟩
    · rw [show ((p + 1:Nat):Int) = (p:Int) + 1 by omega,Int.add_mul,Int.one_mul,List.flatten_cons,List.flatten_cons,vol_app,vol_app]; omega
    · rw [List.flatten_cons,List.flatten_cons,grm_app,grm_app]; omega
  · refine ⟨p,q + 1,by omega,?_,?_⟩
    · rw [List.flatten_cons,List.flatten_cons,vol_app,vol_app]; omega
    · rw [show ((q + 1:Nat):Int) = (q:Int) + 1 by omega,Int.add_mul,Int.one_mul,List.flatten_cons,List.flatten_cons,grm_app,grm_app]; omega
theorem few {p t:Nat} {V S:Int} (hV:0 ≤ V) (h1:(p:Int) * (V + 1) ≤ S) (h2:S ≤ (t:Int) * V) (ht:1 ≤ t):p + 1 ≤ t:=by
 rcases Nat.lt_or_ge p t with h | h
 · omega
 · exfalso
   have h3:(t:Int) * (V + 1) ≤ (p:Int) * (V + 1):=Int.mul_le_mul_of_nonneg_right (by omega) (by omega)
   rw [Int.mul_add,Int.mul_one] at h3
   omega
theorem nonep {p:Nat} {V S:Int} (hV:0 ≤ V) (h1:(p:Int) * (V + 1) ≤ S) (h2:S ≤ V):p = 0:=by
 have:=few (t:=1) hV h1 (by simpa using h2) (by omega)
 omega
theorem pro_le {r:Request} (hc:clsM r = 0) {us:List Int} {out:List (List Int)} (ha:AdjH r out) (ho:out.flatten.Perm us) {cs:List (List Int)} (hp:cs.flatten.Perm us) (hw:∀ c ∈ cs,witB r c (masM r) = true) (h1:1 ≤ cs.length) :
    out.length + 3 ≤ 4 * cs.length ∧ (volM r us ≤ volT (masM r) ∨ grmM r us ≤ (masM r).fGram → out.length + 1 ≤ 2 * cs.length):=by
 have hm:=(mas_typ hc).2.2
 have hv1:=volT_pos hm
 have hg1:1 ≤ (masM r).fGram:=by
  have hg:=hm
  simp only [typB,Bool.and_eq_true,inb_iff] at hg
  omega
 have hS:volM r us ≤ cs.length * volT (masM r):=by
  rw [← vol_perm hp]
  refine vol_flat cs fun c hcm=>?_
  have:=hw c hcm
  unfold witB at this
  simp only [Bool.and_eq_true,decide_eq_true_eq] at this
  exact this.1
 have hG:grmM r us ≤ cs.length * (masM r).fGram:=by
  rw [← grm_perm hp]
  refine grm_flat cs fun c hcm=>?_
  have:=hw c hcm
  unfold witB at this
  simp only [Bool.and_eq_true,decide_eq_true_eq] at this
  exact this.2
 obtain ⟨p,q,e,h2,h3⟩:=hvy_pairs out ha
 rw [vol_perm ho] at h2
 rw [grm_perm ho] at h3
 have hp':=few (by omega) h2 hS h1
 have hq':=few (by omega) h3 hG h1
 refine ⟨by omega,fun h=>?_⟩
 rcases h with h | h
 · have:=nonep (by omega) h2 h
   omega
 · have:=nonep (by omega) h3 h
   omega
def tchB (r:Request) (k:Int) (c:List Int):Bool:=c.any fun u=>(uofM r k).contains u
theorem flt_le (r:Request) (p:Int → Bool):∀ (l:List Int),volM r (l.filter p) ≤ volM r l ∧ grmM r (l.filter p) ≤ grmM r l
 | []=>⟨by simp,by simp⟩
 | x :: l=>by
  obtain ⟨h1,h2⟩:=flt_le r p l
  have e1:volM r (x :: l) = volM r [x] + volM r l:=vol_app r [x] l
  have e2:grmM r (x :: l) = grmM r [x] + grmM r l:=grm_app r [x] l
  have b1:=(volM_bd r [x]).1
  have b2:=(grmM_bd r [x]).1
  rw [List.filter_cons]
  split
  · have e3:volM r (x :: l.filter p) = volM r [x] + volM r (l.filter p):=vol_app r [x] _
    have e4:grmM r (x :: l.filter p) = grmM r [x] + grmM r (l.filter p):=grm_app r [x] _
    omega
  · omega
theorem tch_flat (r:Request) (k:Int):∀ (cs:List (List Int)),((cs.filter (tchB r k)).map fun c=>c.filter fun u=>(uofM r k).contains u).flatten = cs.flatten.filter fun u=>(uofM r k).contains u
 | []=>rfl
 | c :: cs=>by
  have ih:=tch_flat r k cs
  rw [List.filter_cons,List.flatten_cons,List.filter_append,← ih]
  cases hb:tchB r k c
  · have:c.filter (fun u=>(uofM r k).contains u) = []:=List.filter_eq_nil_iff.2 fun u hu=>List.any_eq_false.1 hb u hu
    rw [this]; rfl
  · rfl
theorem grp_pro {r:Request} {cs:List (List Int)} (hv:rivB r cs = true) {k:Int} (hk:0 ≤ k ∧ k < (grpM r).length) :
    1 ≤ (pwM r (uofM r k)).length ∧ 1 ≤ (cs.filter (tchB r k)).length ∧ (pwM r (uofM r k)).length + 3 ≤ 4 * (cs.filter (tchB r k)).length ∧ (cs.length ≤ 1000 → ((pwM r (uofM r k)).length:Int) ≤ proM r k (cs.filter (tchB r k)).length):=by
 obtain ⟨p1,p2,p3⟩:=riv_parts hv
 have hfl:((cs.filter (tchB r k)).map fun c=>c.filter fun u=>(uofM r k).contains u).flatten.Perm (uofM r k):=by
  rw [tch_flat]
  refine (p3.filter _).trans ?_
  refine (List.perm_ext_iff_of_nodup ((ints_nodup _ _).filter _) (uof_nodup r k)).2 fun u=>?_
  rw [List.mem_filter,List.contains_iff_mem]
  constructor
  · exact fun h=>h.2
  · intro h
    have:=(uof_mem h).1
    exact ⟨ints_mem.2 (by omega),h⟩
 have hw:∀ c ∈ (cs.filter (tchB r k)).map fun c=>c.filter fun u=>(uofM r k).contains u,witB r c (masM r) = true:=by
  intro c hc
  obtain ⟨d,hd,rfl⟩:=List.mem_map.1 hc
  have h1:=(p2 d (List.mem_filter.1 hd).1).2.1
  have h2:=flt_le r (fun u=>(uofM r k).contains u) d
  unfold witB at h1 ⊢
  simp only [Bool.and_eq_true,decide_eq_true_eq] at h1 ⊢
  omega
 have hpf:(pwM r (uofM r k)).flatten.Perm (uofM r k):=by
  have:=pw_flat r (uofM r k)
  rwa [thr_uof] at this
 have hne:=uof_ne hk
 have ht:1 ≤ ((cs.filter (tchB r k)).map fun c=>c.filter fun u=>(uofM r k).contains u).length:=by
  rcases hcs:(cs.filter (tchB r k)).map fun c=>c.filter fun u=>(uofM r k).contains u with _ | ⟨c,l⟩
  · rw [hcs] at hfl
    exact absurd (List.nil_perm.1 hfl) hne
  · rw [hcs]; simp
 obtain ⟨a1,a2⟩:=pro_le p1 (pw_way (uofM r k)) hpf hfl hw ht
 rw [List.length_map] at ht a1 a2
 have hl:(cs.filter (tchB r k)).length ≤ cs.length:=List.length_filter_le _ _
 refine ⟨pw_ne hk,ht,a1,fun hcl=>?_⟩
 have hh:hasG r k = true:=by
  unfold hasG
  rw [inb_iff]; omega
 have hm:minI (((cs.filter (tchB r k)).length:Nat):Int) 1000 = (((cs.filter (tchB r k)).length:Nat):Int):=by
  unfold minI; split <;> omega
 unfold proM
 rw [hh,show decide ((((cs.filter (tchB r k)).length:Nat):Int) < 1) = false by simp; omega]
 simp only [Bool.not_true,Bool.or_self,cond_false,hm]
 have hg:slgM r k = true → grmM r (uofM r k) ≤ (masM r).fGram:=fun h=>by
  unfold slgM at h; rw [Bool.and_eq_true,decide_eq_true_eq] at h; exact h.2
 have hvv:slvM r k = true → volM r (uofM r k) ≤ volT (masM r):=fun h=>by
  unfold slvM at h; rw [Bool.and_eq_true,decide_eq_true_eq] at h; exact h.2
 have hff:slgM r k = true → r.fWay = 0 → 2 * (pwM r (uofM r k)).length ≤ 3 * (cs.filter (tchB r k)).length:=by
  intro h1 hw0
  have e:pwM r (uofM r k) = (ordM r (uofM r k)).foldl (fitF r) []:=by
   unfold pwM ffM
   rw [hw0,thr_uof]; rfl
  have hF:Ff r ((ordM r (uofM r k)).foldl (fitF r) []) []:=ff_fold (hg h1) _ [] (by simpa using ordM_perm r (uofM r k)) (ord_sorted r _) ⟨by simp,by simp,by simp,by simp⟩
  have:=ffd_le p1 (us:=uofM r k) (fun u hu=>(uof_mem hu).1) (out:=pwM r (uofM r k)) (by rw [e]; exact hF) hpf hfl hw
  rw [List.length_map] at this
  exact this
 rw [Int.tdiv_eq_ediv_of_nonneg (by omega)]
 cases h1:slgM r k
 · rw [Bool.false_and,Bool.false_or,cond_false]
   cases h2:slvM r k
   · rw [cond_false]; omega
   · rw [cond_true]
     have:=a2 (.inl (hvv h2))
     omega
 · rw [Bool.true_and,Bool.true_or,cond_true]
   have b1:=a2 (.inr (hg h1))
   cases h2:r.fWay == 0
   · rw [cond_false]; omega
   · rw [cond_true]
     have:=hff h1 (by simpa using h2)
     unfold minI
     split <;> omega
end Go.Proofs.YthddjkokpfdbnaaGreat
/- Touching of spec and of impl. -/
namespace Go.Proofs.YthddjkokpfdbnaaGreat
open Go
open Enc (rd ow)
open Arg (argv)
open Ret (retv)
open Wf (wf)
theorem s_tou {fu:Nat} {r:Request} (h:Sm fu r) (cs:List (List Int)) (k:Int) (hl:cs.length ≤ 1048576) (hm:∀ x ∈ cs,x.length ≤ 1048576):d_spec_Touching fu r cs k = some (touM r cs k):=by
 have hfu:=h.fu
 have hul:=uofM_len r k
 unfold d_spec_Touching touM
 rw [s_uof h,ob_some]
 have e12:∀ (kk:Int → Int → Option Int) (n i:Int) (c:List Int),ix cs i = some c → d_spec_Touching_L1 fu kk cs (uofM r k) n i fu false 0 = kk (w64 (n + bitI (c.any fun u=>(uofM r k).contains u))) (w64 (i + 1)):=by
  intro kk n i c hc
  have hcl:=hm c (ix_mem hc)
  refine lp c (fun m b u=>d_spec_Touching_L1 fu kk cs (uofM r k) n i m b u) (fun l b=>kk (w64 (n + bitI (b || l.any fun u=>(uofM r k).contains u))) (w64 (i + 1))) (by omega) ?_ ?_ fu false (by omega)
  · intro m b u x xs hx hd ih
    simp only [d_spec_Touching_L1.eq_2]
    unfold d_spec_Touching_L1_B d_spec_Touching_J1
    simp only [hc,ob_some,hd,cond_true,hx,s_has (show (uofM r k).length ≤ 1048576 by omega) (show (uofM r k).length < fu by omega),ih,List.any_cons]
    cases b <;> rfl
  · intro m b u hd
    simp only [d_spec_Touching_L1.eq_2]
    unfold d_spec_Touching_L1_B
    simp only [hc,ob_some,hd,cond_false,s_bit,List.any_nil,Bool.or_false]
 have:=lpI cs (fun n s i=>d_spec_Touching_L2 fu cs (uofM r k) n s i) (fun l n=>some (n + cntB (fun c=>c.any fun u=>(uofM r k).contains u) l)) (fun l n=>0 ≤ n ∧ n + l.length ≤ 1048576) (by omega) ?_ ?_ fu 0 ⟨by omega,by omega⟩ (by omega)
 · simpa using this
 · intro n s i c xs hx hd hI ih
   have hI2:=hI.2
   simp only [List.length_cons] at hI2
   have hb:=bitI_bd (c.any fun u=>(uofM r k).contains u)
   simp only [d_spec_Touching_L2.eq_2]
   unfold d_spec_Touching_L2_B
   rw [hd,cond_true,e12 _ s i c hx,w64_id (by omega) (by omega),ih _ ⟨by omega,by omega⟩]
   simp only [cntB]
   congr 1
   omega
 · intro n s i hd hI
   simp only [d_spec_Touching_L2.eq_2]
   unfold d_spec_Touching_L2_B
   simp only [hd,cond_false,cntB]
   simp
theorem i_tou {fu:Nat} {r:Request} (h:Sm fu r) (cs:List (List Int)) (k:Int) (hl:cs.length ≤ 1048576) (hm:∀ x ∈ cs,x.length ≤ 1048576):d_impl_Touching fu r cs k = some (touM r cs k):=by
 have hfu:=h.fu
 unfold d_impl_Touching touM
 rw [i_grp h,ob_some,w64_grp,i_in,ob_some]
 cases hg:inb k 0 (((grpM r).length:Int) - 1)
 · rw [Bool.not_false,cond_true]
   have:ix (grpM r) k = none:=by
    have hk:¬ (0 ≤ k ∧ k ≤ ((grpM r).length:Int) - 1):=by intro hk; rw [(inb_iff).2 hk] at hg; cases hg
    unfold ix
    by_cases h0:0 ≤ k
    · rw [if_pos h0,List.getElem?_eq_none (by omega)]
    · rw [if_neg h0]
   have e:uofM r k = []:=by unfold uofM; rw [this]
   rw [e]
   congr 1
   clear hl hm
   induction cs with
   | nil=>rfl
   | cons c cs ih =>
    have e0:(c.any fun u=>([]:List Int).contains u) = false:=by simp
    rw [cntB,e0,← ih]; rfl
 · rw [inb_iff] at hg
   obtain ⟨j,rfl⟩:∃ j:Nat,k = j:=⟨k.toNat,by omega⟩
   have hj:j < (grpM r).length:=by omega
   have hgl:=(grpM_ok r).2 _ (List.getElem_mem hj)
   rw [Bool.not_true,cond_false]
   have:=lpI cs (fun n s i=>d_impl_Touching_L1 fu r cs (j:Int) (grpM r) n s i) (fun l n=>some (n + cntB (fun c=>c.any fun u=>(uofM r j).contains u) l)) (fun l n=>0 ≤ n ∧ n + l.length ≤ 1048576 ∧ ∀ x ∈ l,x.length ≤ 1048576) (by omega) ?_ ?_ fu 0 ⟨by omega,by omega,hm⟩ (by omega)
   · simpa using this
   · intro n s i c xs hx hd hI ih
     have hI2:=hI.2.1
     simp only [List.length_cons] at hI2
     simp only [d_impl_Touching_L1.eq_2]
     unfold d_impl_Touching_L1_B d_impl_Touching_J1
     simp only [hd,cond_true,hx,ob_some,ix_i hj,i_hasOf h (show (grpM r)[j].length ≤ 1048576 by omega) (hI.2.2 c (by simp))]
     have e:(c.any fun u=>(uofM r j).contains u) = c.any (inG r (grpM r)[j]):=by
      congr 1
      funext u
      exact uof_has (ix_i hj) u
     simp only [cntB,e]
     cases c.any (inG r (grpM r)[j])
     · rw [cond_false,ih _ ⟨by omega,by omega,fun y hy=>hI.2.2 y (by simp [hy])⟩]
       simp [bitI]
     · rw [cond_true,w64_id (by omega) (by omega),ih _ ⟨by omega,by omega,fun y hy=>hI.2.2 y (by simp [hy])⟩]
       simp only [bitI,cond_true]
       congr 1
       omega
   · intro n s i hd hI
     simp only [d_impl_Touching_L1.eq_2]
     unfold d_impl_Touching_L1_B
     simp only [hd,cond_false,cntB]
     simp
end Go.Proofs.YthddjkokpfdbnaaGreat
