import Derived.Test.YthddjkokpfdbnaaGreatSqueezedBP2
set_option linter.unusedSimpArgs false
set_option linter.unusedVariables false
/- What is marked: orders, lists of numbers, lists of lists. -/
namespace Go.Proofs.YthddjkokpfdbnaaGreat
open Go
open Enc (rd ow)
open Arg (argv)
open Ret (retv)
open Wf (wf)
end Go.Proofs.YthddjkokpfdbnaaGreat
/- Lists of cartons in the laws: their size, copies, equality, marks. -/
namespace Go.Proofs.YthddjkokpfdbnaaGreat
open Go
open Enc (rd ow)
open Arg (argv)
open Ret (retv)
open Wf (wf)
def lensC:List Carton → Nat
 | []=>0
 | x :: xs=>x.fUnits.length + lensC xs
end Go.Proofs.YthddjkokpfdbnaaGreat
/- Plans in the laws: their size, copies, equality, marks. -/
namespace Go.Proofs.YthddjkokpfdbnaaGreat
open Go
open Enc (rd ow)
open Arg (argv)
open Ret (retv)
open Wf (wf)
structure Sp (x:Plan):Prop where
 cars:x.fCartons.length ≤ 1048576
 units:∀ c ∈ x.fCartons,c.fUnits.length ≤ 1048576
 all:lensC x.fCartons ≤ 1048576
 spots:x.fSpots.length ≤ 1048576
end Go.Proofs.YthddjkokpfdbnaaGreat
/- PlanOk, by spec and by impl. -/
namespace Go.Proofs.YthddjkokpfdbnaaGreat
open Go
open Enc (rd ow)
open Arg (argv)
open Ret (retv)
open Wf (wf)
end Go.Proofs.YthddjkokpfdbnaaGreat
/- OnPallet and PalletGram, by spec and by impl. -/
namespace Go.Proofs.YthddjkokpfdbnaaGreat
open Go
open Enc (rd ow)
open Arg (argv)
open Ret (retv)
open Wf (wf)
end Go.Proofs.YthddjkokpfdbnaaGreat
/- Lost of spec and of impl. -/
namespace Go.Proofs.YthddjkokpfdbnaaGreat
open Go
open Enc (rd ow)
open Arg (argv)
open Ret (retv)
open Wf (wf)
end Go.Proofs.YthddjkokpfdbnaaGreat
/- Mixes of spec and of impl. -/
namespace Go.Proofs.YthddjkokpfdbnaaGreat
open Go
open Enc (rd ow)
open Arg (argv)
open Ret (retv)
open Wf (wf)
end Go.Proofs.YthddjkokpfdbnaaGreat
/- Check, by spec and by impl. -/
namespace Go.Proofs.YthddjkokpfdbnaaGreat
open Go
open Enc (rd ow)
open Arg (argv)
open Ret (retv)
open Wf (wf)
def cs (x:Plan):List (Carton × Spot):=x.fCartons.zip x.fSpots
end Go.Proofs.YthddjkokpfdbnaaGreat
/- Check, by impl. -/
namespace Go.Proofs.YthddjkokpfdbnaaGreat
open Go
open Enc (rd ow)
open Arg (argv)
open Ret (retv)
open Wf (wf)
end Go.Proofs.YthddjkokpfdbnaaGreat
/- The plan of an order, by spec. -/
namespace Go.Proofs.YthddjkokpfdbnaaGreat
open Go
open Enc (rd ow)
open Arg (argv)
open Ret (retv)
open Wf (wf)
theorem sumI_perm {a b:List Int} (h:a.Perm b):sumI a = sumI b:=by
 induction h with
 | nil=>rfl
 | cons x _ ih=>simp [ih]
 | swap x y l=>simp; omega
 | trans _ _ h1 h2=>rw [h1,h2]
theorem its_perm {r:Request} {a b:List Int} (h:a.Perm b):(itsM r a).Perm (itsM r b):=h.filterMap _
theorem vol_perm {r:Request} {a b:List Int} (h:a.Perm b):volM r a = volM r b:=sumI_perm ((its_perm h).map _)
theorem grm_perm {r:Request} {a b:List Int} (h:a.Perm b):grmM r a = grmM r b:=sumI_perm ((its_perm h).map _)
end Go.Proofs.YthddjkokpfdbnaaGreat
/- Squeeze and Spare of spec and of impl. -/
namespace Go.Proofs.YthddjkokpfdbnaaGreat
open Go
open Enc (rd ow)
open Arg (argv)
open Ret (retv)
open Wf (wf)
def seek (g:Int → Bool):List Int → Option Int
 | []=>none
 | i :: is=>bif g i then some i else seek g is
theorem seek_app (g:Int → Bool):∀ (a b:List Int),seek g (a ++ b) = match seek g a with | some i=>some i | none=>seek g b
 | [],_=>rfl
 | i :: a,b=>by
  have:=seek_app g a b
  simp only [List.cons_append,seek]
  cases g i
  · simpa using this
  · rfl
theorem seek_down (g:Int → Bool):∀ (n:Nat) (a:Int),(down n).foldl (fun a j=>bif g j then j else a) a = (seek g (ints 0 n)).getD a
 | 0,_=>rfl
 | n + 1,a=>by
  rw [show down (n + 1) = (n:Int) :: down n from rfl,List.foldl_cons,seek_down g n,ints_snoc,seek_app]
  cases seek g (ints 0 n) with
  | some i=>rfl
  | none =>
   simp only [seek,Int.zero_add]
   cases g n <;> rfl
theorem seek_some {g:Int → Bool}:∀ {l:List Int} {i:Int},seek g l = some i → i ∈ l ∧ g i = true
 | [],_,h=>by simp [seek] at h
 | j :: l,i,h=>by
  unfold seek at h
  cases hj:g j
  · rw [hj,cond_false] at h
    have:=seek_some h
    exact ⟨by simp [this.1],this.2⟩
  · rw [hj,cond_true] at h
    cases h
    exact ⟨by simp,hj⟩
def mvB (r:Request) (k:Int) (u:Int) (out:List (List Int)) (j:Int):Bool:=(j != k) && optB r u ((ix out j).getD [])
def empM (r:Request) (k:Int):List Int → List (List Int) → Option (List (List Int))
 | [],out=>some (out.take k.toNat ++ out.drop (k.toNat + 1))
 | u :: us,out=>match seek (mvB r k u out) (ints 0 out.length) with
  | some j=>empM r k us (setx out j ((ix out j).getD [] ++ [u]))
  | none=>none
def witM (r:Request) (cs:List (List Int)) (k:Int):List (List Int):=(empM r k ((ix cs k).getD []) cs).getD cs
def sqzM (r:Request) (cs:List (List Int)):List (List Int):=bif rivB r cs then (down cs.length).foldl (witM r) cs else []
def inU (r:Request) (cs:List (List Int)):Prop:=∀ c ∈ cs,∀ y ∈ c,0 ≤ y ∧ y < (untM r).length
theorem len_le_flat {c:List Int} {cs:List (List Int)} (h:c ∈ cs):c.length ≤ cs.flatten.length:=by
 induction cs with
 | nil=>simp at h
 | cons x xs ih =>
  rw [List.flatten_cons,List.length_append]
  rcases List.mem_cons.1 h with e | h
  · subst e; omega
  · have:=ih h; omega
theorem setx_flat {out:List (List Int)} {j u:Int} {c:List Int} (h:ix out j = some c):(setx out j (c ++ [u])).flatten.Perm (out.flatten ++ [u]):=by
 obtain ⟨h0,h1,h2⟩:=ix_some h
 exact set_flat h2
theorem cut_flat {out:List (List Int)} {k:Int} {c:List Int} (h:ix out k = some c):out.flatten.Perm ((out.take k.toNat ++ out.drop (k.toNat + 1)).flatten ++ c):=by
 obtain ⟨h0,h1,h2⟩:=ix_some h
 have hk:=(List.getElem?_eq_some_iff.1 h2).1
 have hx:=(List.getElem?_eq_some_iff.1 h2).2
 have e:out = out.take k.toNat ++ c :: out.drop (k.toNat + 1):=by
  rw [← hx,← List.drop_eq_getElem_cons hk,List.take_append_drop]
 have e2:out.flatten = (out.take k.toNat).flatten ++ (c ++ (out.drop (k.toNat + 1)).flatten):=by
  conv=>lhs; rw [e]
  simp
 rw [e2,List.flatten_append,List.append_assoc]
 exact List.Perm.append_left _ List.perm_append_comm
structure Ez (r:Request) (k:Int) (c0:List Int) (T:List Int) (us:List Int) (out:List (List Int)):Prop where
 src:ix out k = some c0
 all:(out.flatten ++ us).Perm (T ++ c0)
 inn:inU r out
 inu:∀ u ∈ us,0 ≤ u ∧ u < (untM r).length
 len:out.length ≤ 12
 tot:(T ++ c0).length ≤ 24
theorem Ez.lens {r:Request} {k:Int} {c0 T us:List Int} {out:List (List Int)} (h:Ez r k c0 T us out):out.flatten.length + us.length ≤ 24:=by
 have h1:=h.all.length_eq
 have h2:=h.tot
 simp only [List.length_append] at h1 h2
 omega
theorem Ez.step {r:Request} {k:Int} {c0 T us:List Int} {out:List (List Int)} {u j:Int} {c:List Int} (h:Ez r k c0 T (u :: us) out) (hj:ix out j = some c) (hjk:j ≠ k):Ez r k c0 T us (setx out j (c ++ [u])):=by
 obtain ⟨j0,j1,j2⟩:=ix_some hj
 obtain ⟨k0,k1,k2⟩:=ix_some h.src
 refine ⟨?_,?_,?_,fun v hv=>h.inu v (by simp [hv]),by unfold setx; simp; exact h.len,h.tot⟩
 · unfold ix setx
   rw [if_pos k0,List.getElem?_set,if_neg (by omega)]
   exact k2
 · refine ((setx_flat (u:=u) hj).append_right us).trans ?_
   simpa using h.all
 · intro d hd y hy
   unfold setx at hd
   rcases List.mem_or_eq_of_mem_set hd with hd | rfl
   · exact h.inn d hd y hy
   · rcases List.mem_append.1 hy with hy | hy
     · exact h.inn c (ix_mem hj) y hy
     · rw [List.mem_singleton.1 hy]; exact h.inu u (by simp)
theorem mv_some {r:Request} {k u j:Int} {out:List (List Int)} (h:seek (mvB r k u out) (ints 0 out.length) = some j):∃ c,ix out j = some c ∧ j ≠ k ∧ optB r u c = true ∧ (ix out j).getD [] = c:=by
 obtain ⟨h1,h2⟩:=seek_some h
 have hm:=ints_mem.1 h1
 obtain ⟨c,hc⟩:=ix_in (l:=out) (i:=j) (by omega) (by omega)
 unfold mvB at h2
 rw [hc,Option.getD_some,Bool.and_eq_true] at h2
 exact ⟨c,hc,by simpa using h2.1,h2.2,by rw [hc]; rfl⟩
theorem emp_perm {r:Request} {k:Int} {c0 T:List Int}:∀ {us:List Int} {out o:List (List Int)},Ez r k c0 T us out → empM r k us out = some o → o.flatten.Perm T ∧ o.length + 1 = out.length ∧ inU r o
 | [],out,o,h,he=>by
  simp only [empM,Option.some.injEq] at he
  subst he
  have h1:=cut_flat h.src
  have h2:=h.all
  rw [List.append_nil] at h2
  obtain ⟨k0,k1,k2⟩:=ix_some h.src
  have hk:=(List.getElem?_eq_some_iff.1 k2).1
  refine ⟨(List.perm_append_right_iff c0).1 (h1.symm.trans h2),by simp; omega,fun c hc=>?_⟩
  rcases List.mem_append.1 hc with hc | hc
  · exact h.inn c (List.mem_of_mem_take hc)
  · exact h.inn c (List.mem_of_mem_drop hc)
 | u :: us,out,o,h,he=>by
  unfold empM at he
  cases hs:seek (mvB r k u out) (ints 0 out.length) with
  | none=>rw [hs] at he; cases he
  | some j =>
   rw [hs] at he
   obtain ⟨c,hc,hjk,_,hd⟩:=mv_some hs
   simp only [hd] at he
   have:=emp_perm (h.step hc hjk) he
   refine ⟨this.1,?_,this.2.2⟩
   rw [this.2.1]; simp [setx]
structure Rz (r:Request) (cs:List (List Int)):Prop where
 len:cs.length ≤ 12
 tot:cs.flatten.length ≤ 12
 inn:inU r cs
theorem Rz.ez {r:Request} {cs:List (List Int)} (h:Rz r cs) {k:Int} {c:List Int} (hk:ix cs k = some c):Ez r k c cs.flatten c cs :=
 ⟨hk,List.Perm.refl _,h.inn,h.inn c (ix_mem hk),h.len,by have:=len_le_flat (ix_mem hk); have:=h.tot; rw [List.length_append]; omega⟩
theorem Rz.wit {r:Request} {cs:List (List Int)} (h:Rz r cs) {k:Int} {c:List Int} (hk:ix cs k = some c):Rz r (witM r cs k) ∧ cs.length ≤ (witM r cs k).length + 1 ∧ (witM r cs k).flatten.Perm cs.flatten ∧ (witM r cs k).length ≤ cs.length:=by
 unfold witM
 rw [hk,Option.getD_some]
 cases he:empM r k c cs with
 | none=>exact ⟨h,by simp,List.Perm.refl _,Nat.le_refl _⟩
 | some o =>
  obtain ⟨h1,h2,h3⟩:=emp_perm (h.ez hk) he
  simp only [Option.getD_some]
  exact ⟨⟨by have:=h.len; omega,by rw [h1.length_eq]; exact h.tot,h3⟩,by omega,h1,by omega⟩
theorem riv_rz {r:Request} {cs:List (List Int)} (h:rivB r cs = true):Rz r cs ∧ (untM r ≠ [] ∨ cs = []) ∧ clsM r = 0:=by
 unfold rivB at h
 simp only [Bool.and_eq_true] at h
 have hp:=h.1
 have hm:=pack_mem hp
 unfold packB at hp
 simp only [Bool.and_eq_true] at hp
 have hper:=perB_iff.1 hp.2.2
 have hn:∀ c ∈ cs,c ≠ []:=by
  intro c hc e
  have:=List.all_eq_true.1 hp.2.1 c hc
  unfold okC at this
  subst e
  simp at this
 have hl:cs.flatten.length ≤ 12:=by
  rw [hper.length_eq]
  have:=thrM_len r (ints 0 (untM r).length)
  have:=untM_len r
  rw [ints_len] at *
  omega
 have hcl:∀ (l:List (List Int)),(∀ c ∈ l,c ≠ []) → l.length ≤ l.flatten.length:=by
  intro l
  induction l with
  | nil=>simp
  | cons x xs ih =>
   intro hx
   have h1:=ih fun c hc=>hx c (by simp [hc])
   have h2:=List.length_pos_iff.2 (hx x (by simp))
   simp only [List.length_cons,List.flatten_cons,List.length_append]; omega
 have hc12:=hcl cs hn
 refine ⟨⟨by omega,hl,hm⟩,?_,by simpa using hp.1⟩
 cases cs with
 | nil=>exact .inr rfl
 | cons c cs =>
  obtain ⟨y,hy⟩:=List.exists_mem_of_ne_nil _ (hn c (by simp))
  have:=hm c (by simp) y hy
  refine .inl fun e=>?_
  rw [e] at this
  simp at this; omega
theorem i_clone (fu:Nat) (l:List Int) (h:l.length ≤ 1048576):d_slices_Clone_int_int fu l = some l:=by
 unfold d_slices_Clone_int_int
 rw [ap1 (by simp; omega),ob_some,List.nil_append]
theorem i_clones {fu:Nat} {l:List (List Int)} (hl:l.length ≤ 1048576) (hm:∀ x ∈ l,x.length ≤ 1048576) (hf:1048577 ≤ fu):d_impl_cloneLists fu l = some l:=by
 unfold d_impl_cloneLists
 have:=lpI l (fun n o i=>d_impl_cloneLists_L1 fu l n o i) (fun xs o=>some (o ++ xs)) (fun xs o=>o.length + xs.length ≤ 1048576 ∧ ∀ x ∈ xs,x.length ≤ 1048576) (by omega) ?_ ?_ fu [] ⟨by simpa using hl,hm⟩ (by omega)
 · simpa using this
 · intro n o i x xs hx hd hI ih
   obtain ⟨h1,h2⟩:=hI
   simp only [List.length_cons] at h1
   simp only [d_impl_cloneLists_L1.eq_2]
   unfold d_impl_cloneLists_L1_B
   rw [hd,cond_true,hx,ob_some,i_clone fu x (h2 x (by simp)),ob_some,ap1 (by simp; omega),ob_some,ih _ ⟨by simp; omega,fun y hy=>h2 y (by simp [hy])⟩]
   simp
 · intro n o i hd _
   simp only [d_impl_cloneLists_L1.eq_2]
   unfold d_impl_cloneLists_L1_B
   rw [hd,cond_false]; simp
theorem s_clones {fu:Nat} {l:List (List Int)} (hl:l.length ≤ 1048576) (hm:∀ x ∈ l,x.length ≤ 1048576) (hf:1048577 ≤ fu):d_spec_l20Copy fu l = some l:=by
 unfold d_spec_l20Copy
 have:=lpI l (fun n o i=>d_spec_l20Copy_L1 fu l n o i) (fun xs o=>some (o ++ xs)) (fun xs o=>o.length + xs.length ≤ 1048576 ∧ ∀ x ∈ xs,x.length ≤ 1048576) (by omega) ?_ ?_ fu [] ⟨by simpa using hl,hm⟩ (by omega)
 · simpa using this
 · intro n o i x xs hx hd hI ih
   obtain ⟨h1,h2⟩:=hI
   simp only [List.length_cons] at h1
   have:=h2 x (by simp)
   simp only [d_spec_l20Copy_L1.eq_2]
   unfold d_spec_l20Copy_L1_B
   rw [hd,cond_true,hx,ob_some,ap1 (by simp; omega),ob_some,ap1 (by simp; omega),ob_some,ih _ ⟨by simp; omega,fun y hy=>h2 y (by simp [hy])⟩]
   simp
 · intro n o i hd _
   simp only [d_spec_l20Copy_L1.eq_2]
   unfold d_spec_l20Copy_L1_B
   rw [hd,cond_false]; simp
def witR (r:Request) (cs:List (List Int)) (k:Int):List (List Int) × Bool:=match empM r k ((ix cs k).getD []) cs with
 | some o=>(o,true)
 | none=>(cs,false)
theorem witR_1 (r:Request) (cs:List (List Int)) (k:Int):(witR r cs k).1 = witM r cs k:=by
 unfold witR witM
 cases empM r k ((ix cs k).getD []) cs <;> rfl
theorem i_without {fu:Nat} {r:Request} (h:Sm fu r) (hcz:clsM r = 0) {cs:List (List Int)} (hz:Rz r cs) {k:Int} {c0:List Int} (hk:ix cs k = some c0):d_impl_without fu r cs k = some (witR r cs k):=by
 have hfu:=h.fu
 have hlen:=hz.len
 have htot:=hz.tot
 have hcs:∀ x ∈ cs,x.length ≤ 12:=fun x hx=>by have:=len_le_flat hx; omega
 have hc0:=hcs c0 (ix_mem hk)
 have hb:(clsM r == 0) = true:=by simp [hcz]
 obtain ⟨k0,k1,k2⟩:=ix_some hk
 unfold d_impl_without witR
 rw [i_clones (by omega) (fun x hx=>by have:=hcs x hx; omega) (by omega),ob_some,hk,ob_some,Option.getD_some]
 have main:=lpI c0 (fun n o i=>d_impl_without_L2 fu r cs k c0 n o i) (fun us o=>some (match empM r k us o with | some o=>(o,true) | none=>(cs,false))) (fun us o=>Ez r k c0 cs.flatten us o) (by omega) ?_ ?_ fu cs (hz.ez hk) (by omega)
 · exact main
 · intro n o i u us hx hd hI ih
   have hol:=hI.len
   have hot:=hI.lens
   have hom:∀ x ∈ o,x.length ≤ 24:=fun x hx=>by have:=len_le_flat hx; omega
   simp only [d_impl_without_L2.eq_2]
   unfold d_impl_without_L2_B
   rw [hd,cond_true,hx,ob_some]
   have J2:∀ j:Int,(j < 0 → seek (mvB r k u o) (ints 0 o.length) = none) → (0 ≤ j → seek (mvB r k u o) (ints 0 o.length) = some j) → d_impl_without_J2 fu (d_impl_without_L2 fu r cs k c0 n) cs o i u j = some (match empM r k (u :: us) o with | some o=>(o,true) | none=>(cs,false)):=by
    intro j hn hj
    unfold d_impl_without_J2 d_impl_without_J1
    by_cases h0:j < 0
    · rw [bif_true (by simpa using h0)]
      simp only [empM,hn h0]
    · have hs:=hj (by omega)
      obtain ⟨c,hc,hjk,_,hgd⟩:=mv_some hs
      have:=hom c (ix_mem hc)
      rw [bif_false (by simpa using h0),hc,ob_some,ap1 (by simp; omega),ob_some,ob_some,ih _ (hI.step hc hjk)]
      simp only [empM,hs,hgd]
   have L1:=lpN (o.length:Int) (fun m (_:Unit) q=>d_impl_without_L1 fu (d_impl_without_L2 fu r cs k c0 n) r cs k o i u m q) (fun qs _=>match seek (mvB r k u o) qs with
    | some j=>d_impl_without_J2 fu (d_impl_without_L2 fu r cs k c0 n) cs o i u j
    | none=>d_impl_without_J2 fu (d_impl_without_L2 fu r cs k c0 n) cs o i u (-1)) (by omega) ?_ ?_ o.length fu () 0 (by omega) (by omega) (by omega)
   · refine L1.trans ?_
     cases hs:seek (mvB r k u o) (ints 0 o.length) with
     | none=>exact J2 (-1) (fun _=>hs) (fun h=>by omega)
     | some j =>
      have:=ints_mem.1 (seek_some hs).1
      exact J2 j (fun h=>by omega) (fun _=>hs)
   · intro m s q qs q0 q1 hqd ih1
     obtain ⟨c,hc⟩:=ix_in (l:=o) (i:=q) q0 q1
     have hcl:=hom c (ix_mem hc)
     simp only [d_impl_without_L1.eq_2]
     unfold d_impl_without_L1_B d_impl_without_J3
     rw [hqd,cond_true,hc,ob_some,i_room1 h c u (by omega),ob_some,i_may h c u (by omega),ob_some,hb,Bool.true_and,ih1 ()]
     simp only [seek,mvB,hc,Option.getD_some,optB]
     cases q != k <;> cases witB r (c ++ [u]) (masM r) <;> cases mayB r c u <;> rfl
   · intro m s q hqd
     simp only [d_impl_without_L1.eq_2]
     unfold d_impl_without_L1_B
     rw [hqd,cond_false]; rfl
 · intro n o i hd hI
   obtain ⟨e0,e1,e2⟩:=ix_some hI.src
   have hlt:=(List.getElem?_eq_some_iff.1 e2).1
   have hol:=hI.len
   simp only [d_impl_without_L2.eq_2]
   unfold d_impl_without_L2_B d_slices_Delete_ints_int delI
   rw [hd,cond_false,w64_id (by omega) (by omega),if_pos ⟨by omega,by omega,by omega,by omega⟩,ob_some]
   simp only [empM]
   rw [show (k + 1).toNat = k.toNat + 1 by omega]
theorem s_empty {fu:Nat} {r:Request} (h:Sm fu r) {cs:List (List Int)} (hz:Rz r cs) {k:Int} {c0:List Int} (hk:ix cs k = some c0):d_spec_l20Empty fu r (untM r) (masM r) cs k = some (witR r cs k):=by
 have hfu:=h.fu
 have hlen:=hz.len
 have htot:=hz.tot
 have hcs:∀ x ∈ cs,x.length ≤ 12:=fun x hx=>by have:=len_le_flat hx; omega
 have hc0:=hcs c0 (ix_mem hk)
 obtain ⟨k0,k1,k2⟩:=ix_some hk
 unfold d_spec_l20Empty witR
 rw [s_clones (by omega) (fun x hx=>by have:=hcs x hx; omega) (by omega),ob_some,hk,Option.getD_some]
 have main:=lpI c0 (fun n o i=>d_spec_l20Empty_L2 fu r (untM r) (masM r) cs k n o i) (fun us o=>some (match empM r k us o with | some o=>(o,true) | none=>(cs,false))) (fun us o=>Ez r k c0 cs.flatten us o) (by omega) ?_ ?_ fu cs (hz.ez hk) (by omega)
 · exact main
 · intro n o i u us hx hd hI ih
   have hol:=hI.len
   have hot:=hI.lens
   have hom:∀ x ∈ o,x.length ≤ 24:=fun x hx=>by have:=len_le_flat hx; omega
   simp only [d_spec_l20Empty_L2.eq_2]
   unfold d_spec_l20Empty_L2_B
   rw [hk,ob_some,hd,cond_true,ob_some,hx,ob_some]
   have L1:=lpD o.length (fun m (a:Int) q=>d_spec_l20Empty_L1 fu (d_spec_l20Empty_L2 fu r (untM r) (masM r) cs k n) r (untM r) (masM r) cs k o i u m a q) (fun qs a=>(fun at_:Int=>bif decide (at_ < 0) then some (cs,false) else obind (ix o at_) fun x625=>obind (apnd 8 x625 (([u]:List Int))) fun x639=>obind (ix o at_) fun x649=>d_spec_l20Empty_L2 fu r (untM r) (masM r) cs k n (setx o at_ x639) (w64 (i + 1))) (qs.foldl (fun a j=>bif mvB r k u o j then j else a) a)) (by omega) ?_ ?_ fu (-1) (by omega)
   · rw [L1,seek_down]
     cases hs:seek (mvB r k u o) (ints 0 o.length) with
     | none =>
      simp only [Option.getD_none]
      rw [bif_true (by simp)]
      simp only [empM,hs]
     | some j =>
      have hj:=ints_mem.1 (seek_some hs).1
      obtain ⟨c,hc,hjk,_,hgd⟩:=mv_some hs
      have:=hom c (ix_mem hc)
      simp only [Option.getD_some]
      rw [bif_false (by simp; omega),hc,ob_some,ap1 (by simp; omega),ob_some,ob_some,ih _ (hI.step hc hjk)]
      simp only [empM,hs,hgd]
   · intro m a q qs q0 q1 hqd ih1
     obtain ⟨c,hc⟩:=ix_in (l:=o) (i:=q) q0 q1
     have hcl:=hom c (ix_mem hc)
     simp only [d_spec_l20Empty_L1.eq_2]
     unfold d_spec_l20Empty_L1_B d_spec_l20Empty_J1
     rw [hqd,cond_true,hc,ob_some,s_l7Room r _ c u (by omega) (by omega),ob_some,ob_some,s_may h c u (by omega) (hI.inu u (by simp)) (hI.inn c (ix_mem hc)),ob_some,ih1,ih1]
     simp only [List.foldl_cons,mvB,hc,Option.getD_some,optB]
     cases q != k <;> cases witB r (c ++ [u]) (masM r) <;> cases mayB r c u <;> rfl
   · intro m a q hqd
     simp only [d_spec_l20Empty_L1.eq_2]
     unfold d_spec_l20Empty_L1_B
     rw [hqd,cond_false]; rfl
 · intro n o i hd hI
   obtain ⟨e0,e1,e2⟩:=ix_some hI.src
   have hlt:=(List.getElem?_eq_some_iff.1 e2).1
   have hol:=hI.len
   simp only [d_spec_l20Empty_L2.eq_2]
   unfold d_spec_l20Empty_L2_B
   rw [hk,ob_some,hd,cond_false,sls_some (by omega),ob_some,w64_id (by omega) (by omega),sls_some (by omega),ob_some,ap1 (by simp; omega),ob_some,ap1 (by simp; omega),ob_some]
   simp only [empM]
   rw [show (k + 1).toNat = k.toNat + 1 by omega]
   simp only [Int.toNat_zero,List.drop_zero,Nat.sub_zero,List.nil_append,Int.toNat_natCast]
   rw [List.take_of_length_le (l:=List.drop _ _) (by simp)]
theorem sq_keep {r:Request}:∀ (n:Nat) {cs:List (List Int)},Rz r cs → n ≤ cs.length → Rz r ((down n).foldl (witM r) cs) ∧ ((down n).foldl (witM r) cs).flatten.Perm cs.flatten ∧ ((down n).foldl (witM r) cs).length ≤ cs.length
 | 0,cs,h,_=>⟨h,List.Perm.refl _,Nat.le_refl _⟩
 | n + 1,cs,h,hn=>by
  obtain ⟨c,hc⟩:=ix_in (l:=cs) (i:=n) (by omega) (by omega)
  obtain ⟨h1,h2,h3,h4⟩:=h.wit hc
  have ih:=sq_keep n h1 (by omega)
  rw [show down (n + 1) = (n:Int) :: down n from rfl,List.foldl_cons]
  exact ⟨ih.1,ih.2.1.trans h3,Nat.le_trans ih.2.2 h4⟩
theorem i_sqz {fu:Nat} {r:Request} (h:Sm fu r) (cs:List (List Int)) (hl:cs.length ≤ 1048576) (hm:∀ x ∈ cs,x.length ≤ 1048576) (hs:lensL cs ≤ 1048576):d_impl_Squeeze fu r cs = some (sqzM r cs):=by
 have hfu:=h.fu
 unfold d_impl_Squeeze sqzM
 rw [i_rival h cs hl hm hs,ob_some]
 cases hr:rivB r cs
 · rfl
 · obtain ⟨hz,_,hcz⟩:=riv_rz hr
   have hlen:=hz.len
   rw [Bool.not_true,cond_false,cond_true,i_clones hl hm (by omega),ob_some]
   have key:∀ (m n:Nat) (o:List (List Int)),Rz r o → m ≤ o.length → m < n → d_impl_Squeeze_L1 fu r n o ((m:Int) - 1) = some ((down m).foldl (witM r) o):=by
    intro m
    induction m with
    | zero =>
     intro n o _ _ hn
     obtain ⟨n,rfl⟩:∃ j,n = j + 1:=⟨n - 1,by omega⟩
     rw [d_impl_Squeeze_L1.eq_2]
     unfold d_impl_Squeeze_L1_B
     rw [bif_false (by simp)]; rfl
    | succ m ih =>
     intro n o ho hm hn
     obtain ⟨n,rfl⟩:∃ j,n = j + 1:=⟨n - 1,by omega⟩
     obtain ⟨c,hc⟩:=ix_in (l:=o) (i:=m) (by omega) (by omega)
     obtain ⟨h1,h2,h3,h4⟩:=ho.wit hc
     have hol:=ho.len
     rw [d_impl_Squeeze_L1.eq_2]
     unfold d_impl_Squeeze_L1_B
     rw [show ((m + 1:Nat):Int) - 1 = (m:Int) by omega,bif_true (by simp),i_without h hcz ho hc,ob_some,w64_id (by omega) (by omega),witR_1]
     exact ih n _ h1 (by omega) (by omega)
   rw [w64_id (by omega) (by omega)]
   exact key cs.length fu cs hz (Nat.le_refl _) (by omega)
theorem s_sqz {fu:Nat} {r:Request} (h:Sm fu r) (cs:List (List Int)) (hl:cs.length ≤ 1048576) (hm:∀ x ∈ cs,x.length ≤ 1048576) (hs:lensL cs ≤ 1048576):d_spec_Squeeze fu r cs = some (sqzM r cs):=by
 have hfu:=h.fu
 unfold d_spec_Squeeze sqzM
 rw [s_rival h cs hl hm hs,ob_some]
 cases hr:rivB r cs
 · rfl
 · obtain ⟨hz,_,hcz⟩:=riv_rz hr
   have hlen:=hz.len
   rw [Bool.not_true,cond_false,cond_true,s_mas h,ob_some,s_l6u h hcz,ob_some,s_clones hl hm (by omega),ob_some]
   have key:∀ (m n:Nat) (o:List (List Int)),Rz r o → m ≤ o.length → m < n → d_spec_Squeeze_L1 fu r (othM (typM r r.fMaster)) (untM r) n o ((m:Int) - 1) = some ((down m).foldl (witM r) o):=by
    intro m
    induction m with
    | zero =>
     intro n o _ _ hn
     obtain ⟨n,rfl⟩:∃ j,n = j + 1:=⟨n - 1,by omega⟩
     rw [d_spec_Squeeze_L1.eq_2]
     unfold d_spec_Squeeze_L1_B
     rw [bif_false (by simp)]; rfl
    | succ m ih =>
     intro n o ho hm hn
     obtain ⟨n,rfl⟩:∃ j,n = j + 1:=⟨n - 1,by omega⟩
     obtain ⟨c,hc⟩:=ix_in (l:=o) (i:=m) (by omega) (by omega)
     obtain ⟨h1,h2,h3,h4⟩:=ho.wit hc
     have hol:=ho.len
     rw [d_spec_Squeeze_L1.eq_2]
     unfold d_spec_Squeeze_L1_B d_spec_Squeeze_J1
     have ih':=ih n (witM r o m) h1 (by omega) (by omega)
     rw [show ((m + 1:Nat):Int) - 1 = (m:Int) by omega,bif_true (by simp),show (othM (typM r r.fMaster)).1 = masM r from rfl,s_empty h ho hc,ob_some,w64_id (by omega) (by omega)]
     rw [show down (m + 1) = (m:Int) :: down m from rfl,List.foldl_cons,← ih',← witR_1]
     unfold witR
     cases empM r m ((ix o (m:Int)).getD []) o <;> rfl
   rw [w64_id (by omega) (by omega)]
   exact key cs.length fu cs hz (Nat.le_refl _) (by omega)
theorem sqz_ok (r:Request) (cs:List (List Int)):(sqzM r cs).length ≤ 12 ∧ ∀ l ∈ sqzM r cs,l.length ≤ 12:=by
 unfold sqzM
 cases hr:rivB r cs
 · simp
 · obtain ⟨hz,_,_⟩:=riv_rz hr
   obtain ⟨h1,h2,h3⟩:=sq_keep cs.length hz (Nat.le_refl _)
   have hl:=hz.len
   exact ⟨by simp only [cond_true]; omega,fun l hl=>by simp only [cond_true] at hl; have:=len_le_flat hl; have:=h1.tot; omega⟩
def spaM (r:Request) (cs:List (List Int)):Int:=bif rivB r cs then (cs.length:Int) - ((sqzM r cs).length:Int) else 0
theorem i_spa {fu:Nat} {r:Request} (h:Sm fu r) (cs:List (List Int)) (hl:cs.length ≤ 1048576) (hm:∀ x ∈ cs,x.length ≤ 1048576) (hs:lensL cs ≤ 1048576):d_impl_Spare fu r cs = some (spaM r cs):=by
 have:=(sqz_ok r cs).1
 unfold d_impl_Spare spaM
 rw [i_rival h cs hl hm hs,ob_some,i_sqz h cs hl hm hs,ob_some,w64_id (by omega) (by omega)]
 cases rivB r cs <;> rfl
theorem s_spa {fu:Nat} {r:Request} (h:Sm fu r) (cs:List (List Int)) (hl:cs.length ≤ 1048576) (hm:∀ x ∈ cs,x.length ≤ 1048576) (hs:lensL cs ≤ 1048576):d_spec_Spare fu r cs = some (spaM r cs):=by
 have:=(sqz_ok r cs).1
 unfold d_spec_Spare spaM
 rw [s_rival h cs hl hm hs,ob_some,s_sqz h cs hl hm hs,ob_some,w64_id (by omega) (by omega)]
 cases rivB r cs <;> rfl
end Go.Proofs.YthddjkokpfdbnaaGreat
/- Lower bounds: no packing has fewer cartons. -/
namespace Go.Proofs.YthddjkokpfdbnaaGreat
open Go
open Enc (rd ow)
open Arg (argv)
open Ret (retv)
open Wf (wf)
def upM (a b:Int):Int:=Int.tdiv (a + b - 1) b
def grtB (r:Request) (x:Item):Bool:=decide (2 * volI x > volT (masM r))
def hvyB (r:Request) (x:Item):Bool:=decide (2 * x.fGram > (masM r).fGram)
def lowM (r:Request) (us:List Int):Int:=mxI (mxI (upM (volM r us) (volT (masM r))) (upM (grmM r us) (masM r).fGram)) (mxI (cntB (grtB r) (itsM r us)) (cntB (hvyB r) (itsM r us)))
theorem its_app (r:Request) (a b:List Int):itsM r (a ++ b) = itsM r a ++ itsM r b:=List.filterMap_append ..
theorem vol_app (r:Request) (a b:List Int):volM r (a ++ b) = volM r a + volM r b:=by unfold volM; rw [its_app,List.map_append,sumI_append]
theorem grm_app (r:Request) (a b:List Int):grmM r (a ++ b) = grmM r a + grmM r b:=by unfold grmM; rw [its_app,List.map_append,sumI_append]
theorem cntB_app {α:Type} (f:α → Bool) (a b:List α):cntB f (a ++ b) = cntB f a + cntB f b:=by
 induction a with
 | nil=>simp [cntB]
 | cons x a ih=>simp only [List.cons_append,cntB,ih]; omega
theorem cntB_perm {α:Type} (f:α → Bool) {a b:List α} (h:a.Perm b):cntB f a = cntB f b:=by
 induction h with
 | nil=>rfl
 | cons x _ ih=>simp only [cntB,ih]
 | swap x y l=>simp only [cntB]; omega
 | trans _ _ h1 h2=>rw [h1,h2]
theorem vol_flat {r:Request} {V:Int}:∀ (cs:List (List Int)),(∀ c ∈ cs,volM r c ≤ V) → volM r cs.flatten ≤ cs.length * V
 | [],_=>by simp [volM,itsM]
 | c :: cs,h=>by
  have h1:=vol_flat cs fun d hd=>h d (by simp [hd])
  have h2:=h c (by simp)
  rw [List.flatten_cons,vol_app,List.length_cons,show ((cs.length + 1:Nat):Int) = (cs.length:Int) + 1 by omega,Int.add_mul,Int.one_mul]
  omega
theorem grm_flat {r:Request} {V:Int}:∀ (cs:List (List Int)),(∀ c ∈ cs,grmM r c ≤ V) → grmM r cs.flatten ≤ cs.length * V
 | [],_=>by simp [grmM,itsM]
 | c :: cs,h=>by
  have h1:=grm_flat cs fun d hd=>h d (by simp [hd])
  have h2:=h c (by simp)
  rw [List.flatten_cons,grm_app,List.length_cons,show ((cs.length + 1:Nat):Int) = (cs.length:Int) + 1 by omega,Int.add_mul,Int.one_mul]
  omega
theorem up_le {a b n:Int} (hb:1 ≤ b) (h0:0 ≤ a) (h:a ≤ n * b):upM a b ≤ n:=by
 unfold upM
 rw [Int.tdiv_eq_ediv_of_nonneg (by omega)]
 have h1:a + b - 1 < (n + 1) * b:=by rw [Int.add_mul]; omega
 have:=Int.ediv_lt_of_lt_mul (a:=a + b - 1) (b:=n + 1) (c:=b) (by omega) h1
 omega
theorem cnt_two {f:Item → Int} {V:Int} {g:Item → Bool} (hg:∀ x,g x = true → V + 1 ≤ 2 * f x):∀ (xs:List Item),(∀ x ∈ xs,0 ≤ f x) → cntB g xs * (V + 1) ≤ 2 * sumI (xs.map f)
 | [],_=>by simp [cntB]
 | x :: xs,h=>by
  have ih:=cnt_two hg xs fun y hy=>h y (by simp [hy])
  have h0:=h x (by simp)
  simp only [cntB,List.map_cons,sumI_cons,Int.add_mul]
  cases hx:g x
  · simp only [bitI,cond_false,Int.zero_mul]; omega
  · have:=hg x hx
    simp only [bitI,cond_true,Int.one_mul]; omega
theorem cnt_one {c V s:Int} (hc:c * (V + 1) ≤ 2 * s) (hs:s ≤ V) (h0:0 ≤ V):c ≤ 1:=by
 rcases Int.lt_or_le c 2 with h | h
 · omega
 · have:2 * (V + 1) ≤ c * (V + 1):=Int.mul_le_mul_of_nonneg_right h (by omega)
   omega
theorem cnt_flat {r:Request} {g:Item → Bool}:∀ (cs:List (List Int)),(∀ c ∈ cs,cntB g (itsM r c) ≤ 1) → cntB g (itsM r cs.flatten) ≤ cs.length
 | [],_=>by simp [itsM,cntB]
 | c :: cs,h=>by
  have h1:=cnt_flat cs fun d hd=>h d (by simp [hd])
  have h2:=h c (by simp)
  rw [List.flatten_cons,its_app,cntB_app,List.length_cons]
  omega
theorem mxI_le {a b n:Int} (h1:a ≤ n) (h2:b ≤ n):mxI a b ≤ n:=by unfold mxI; split <;> omega
theorem low_le {r:Request} (hc:clsM r = 0) {cs:List (List Int)} {us:List Int} (hw:∀ c ∈ cs,witB r c (masM r) = true) (hp:cs.flatten.Perm us):lowM r us ≤ cs.length:=by
 have hw1:∀ c ∈ cs,volM r c ≤ volT (masM r) ∧ grmM r c ≤ (masM r).fGram:=fun c hcm=>by
  have:=hw c hcm
  unfold witB at this
  simpa using this
 have hm:=(mas_typ hc).2.2
 have hv1:=volT_pos hm
 simp only [typB,Bool.and_eq_true,inb_iff] at hm
 have ep:(itsM r cs.flatten).Perm (itsM r us):=its_perm hp
 unfold lowM
 refine mxI_le (mxI_le ?_ ?_) (mxI_le ?_ ?_)
 · rw [← vol_perm hp]
   exact up_le hv1 (volM_bd r _).1 (vol_flat cs fun c h=>(hw1 c h).1)
 · rw [← grm_perm hp]
   exact up_le (by omega) (grmM_bd r _).1 (grm_flat cs fun c h=>(hw1 c h).2)
 · rw [← cntB_perm _ ep]
   refine cnt_flat cs fun c h=>cnt_one (V:=volT (masM r)) (s:=volM r c) (cnt_two (f:=volI) (fun x hx=>?_) _ fun x _=>(volB_nn _ _ _).1) (hw1 c h).1 (by omega)
   unfold grtB at hx
   have:=of_decide_eq_true hx
   omega
 · rw [← cntB_perm _ ep]
   refine cnt_flat cs fun c h=>cnt_one (V:=(masM r).fGram) (s:=grmM r c) (cnt_two (f:=fun x=>x.fGram) (fun x hx=>?_) _ fun x hx=>(grm_mem hx).1) (hw1 c h).2 (by omega)
   unfold hvyB at hx
   have:=of_decide_eq_true hx
   omega
theorem thr_ints (r:Request):thrM r (ints 0 (untM r).length) = ints 0 (untM r).length:=by
 unfold thrM
 refine List.filter_eq_self.2 fun u hu=>?_
 have:=ints_mem.1 hu
 rw [inb_iff]; omega
theorem riv_parts {r:Request} {cs:List (List Int)} (h:rivB r cs = true):clsM r = 0 ∧ (∀ c ∈ cs,c ≠ [] ∧ witB r c (masM r) = true ∧ allBes r c = true) ∧ cs.flatten.Perm (ints 0 (untM r).length):=by
 unfold rivB packB at h
 simp only [Bool.and_eq_true] at h
 obtain ⟨⟨h1,h2,h3⟩,h4⟩:=h
 refine ⟨by simpa using h1,fun c hc=>?_,?_⟩
 · have a:=List.all_eq_true.1 h2 c hc
   have b:=List.all_eq_true.1 h4 c hc
   unfold okC at a
   rw [Bool.and_eq_true] at a
   exact ⟨fun e=>by rw [e] at a; simp at a,a.2,b⟩
 · have:=perB_iff.1 h3
   rw [thr_ints] at this
   exact this
theorem riv_of {r:Request} {cs:List (List Int)} (hc:clsM r = 0) (h:∀ c ∈ cs,c ≠ [] ∧ witB r c (masM r) = true ∧ allBes r c = true) (hp:cs.flatten.Perm (ints 0 (untM r).length)):rivB r cs = true:=by
 unfold rivB packB
 rw [show (clsM r == 0) = true by simp [hc],Bool.true_and,Bool.and_eq_true,Bool.and_eq_true]
 refine ⟨⟨List.all_eq_true.2 fun c hcm=>?_,perB_iff.2 (by rw [thr_ints]; exact hp)⟩,List.all_eq_true.2 fun c hcm=>(h c hcm).2.2⟩
 unfold okC
 rw [Bool.and_eq_true]
 refine ⟨?_,(h c hcm).2.1⟩
 have:=(h c hcm).1
 cases c with
 | nil=>exact absurd rfl this
 | cons x c=>rfl
end Go.Proofs.YthddjkokpfdbnaaGreat
/- Ours of spec and of impl. -/
namespace Go.Proofs.YthddjkokpfdbnaaGreat
open Go
open Enc (rd ow)
open Arg (argv)
open Ret (retv)
open Wf (wf)
end Go.Proofs.YthddjkokpfdbnaaGreat
/- What is held: lists of numbers. -/
namespace Go.Proofs.YthddjkokpfdbnaaGreat
open Go
open Enc (rd ow)
open Arg (argv)
open Ret (retv)
open Wf (wf)
end Go.Proofs.YthddjkokpfdbnaaGreat
/- Lists of lists of numbers in the laws: what is marked and held. -/
namespace Go.Proofs.YthddjkokpfdbnaaGreat
open Go
open Enc (rd ow)
open Arg (argv)
open Ret (retv)
open Wf (wf)
def lens:List (List Int) → Nat
 | []=>0
 | x :: xs=>x.length + lens xs
end Go.Proofs.YthddjkokpfdbnaaGreat
/- The plain law of FnExactOneEach. -/
namespace Go.Proofs.YthddjkokpfdbnaaGreat
open Go
open Enc (rd ow)
open Arg (argv)
open Ret (retv)
open Wf (wf)
end Go.Proofs.YthddjkokpfdbnaaGreat
/- What is squeezed is a packing still; so are others' picks, one each, and ours. -/
namespace Go.Proofs.YthddjkokpfdbnaaGreat
open Go
open Enc (rd ow)
open Arg (argv)
open Ret (retv)
open Wf (wf)
def Gc (r:Request) (c:List Int):Prop:=c ≠ [] ∧ witB r c (masM r) = true ∧ allBes r c = true
theorem bes_self {r:Request} {u:Int} (h:0 ≤ u ∧ u < (untM r).length):besB r.fPairs (clsZ r u) (clsZ r u) = true:=by
 have hc:=cls_in h
 have hz:=clsM_zero hc
 have hm:=itmZ_mem h
 have ht:=hz.2.2.1
 have hn:=hz.2.1
 have hcl:(itmZ r u).fClass < r.fClasses:=by
  unfold namB at hn
  simp only [Bool.and_eq_true] at hn
  have key:∀ (l pre:List Item),nodC r.fClasses pre l = true → ∀ x ∈ l,x.fClass < r.fClasses:=by
   intro l
   induction l with
   | nil=>intro _ _ x hx; simp at hx
   | cons y l ih =>
    intro pre h x hx
    simp only [nodC,Bool.and_eq_true,Bool.not_eq_true',decide_eq_false_iff_not] at h
    rcases List.mem_cons.1 hx with rfl | hx
    · omega
    · exact ih _ h.2 x hx
  exact key r.fItems [] hn.1.1.2 _ hm
 have hi:=(bou_items hz.1).1 _ hm
 simp only [itmB,Bool.and_eq_true,inb_iff] at hi
 unfold tabB at ht
 simp only [Bool.and_eq_true] at ht
 have:=List.all_eq_true.1 ht.2 (itmZ r u).fClass (ints_mem.2 ⟨by omega,by omega⟩)
 simp only [Bool.and_eq_true] at this
 exact this.1
theorem app_gc {r:Request} {c:List Int} {u:Int} (hc:Gc r c) (hu:0 ≤ u ∧ u < (untM r).length) (hin:∀ y ∈ c,0 ≤ y ∧ y < (untM r).length) (ho:optB r u c = true):Gc r (c ++ [u]):=by
 unfold optB at ho
 rw [Bool.and_eq_true] at ho
 have hm:=ho.2
 rw [may_in hin hu] at hm
 have hm:=List.all_eq_true.1 hm
 refine ⟨by simp,ho.1,?_⟩
 have hb:=hc.2.2
 unfold allBes at hb ⊢
 refine List.all_eq_true.2 fun x hx=>List.all_eq_true.2 fun y hy=>?_
 have hmu:∀ z ∈ c,besB r.fPairs (clsZ r z) (clsZ r u) = true ∧ besB r.fPairs (clsZ r u) (clsZ r z) = true:=fun z hz=>by
  have:=hm z hz
  unfold mutB at this
  rwa [Bool.and_eq_true] at this
 rcases List.mem_append.1 hx with hx | hx <;> rcases List.mem_append.1 hy with hy | hy
 · exact List.all_eq_true.1 (List.all_eq_true.1 hb x hx) y hy
 · rw [List.mem_singleton.1 hy]; exact (hmu x hx).1
 · rw [List.mem_singleton.1 hx]; exact (hmu y hy).2
 · rw [List.mem_singleton.1 hx,List.mem_singleton.1 hy]; exact bes_self hu
theorem emp_gc {r:Request} {k:Int} {c0 T:List Int}:∀ {us:List Int} {out o:List (List Int)},Ez r k c0 T us out → (∀ c ∈ out,Gc r c) → empM r k us out = some o → ∀ c ∈ o,Gc r c
 | [],out,o,h,hg,he=>by
  simp only [empM,Option.some.injEq] at he
  subst he
  intro c hc
  rcases List.mem_append.1 hc with hc | hc
  · exact hg c (List.mem_of_mem_take hc)
  · exact hg c (List.mem_of_mem_drop hc)
 | u :: us,out,o,h,hg,he=>by
  unfold empM at he
  cases hs:seek (mvB r k u out) (ints 0 out.length) with
  | none=>rw [hs] at he; cases he
  | some j =>
   rw [hs] at he
   obtain ⟨c,hc,hjk,ho,hd⟩:=mv_some hs
   simp only [hd] at he
   refine emp_gc (h.step hc hjk) (fun d hd=>?_) he
   unfold setx at hd
   rcases List.mem_or_eq_of_mem_set hd with hd | rfl
   · exact hg d hd
   · exact app_gc (hg c (ix_mem hc)) (h.inu u (by simp)) (h.inn c (ix_mem hc)) ho
theorem sq_gc {r:Request}:∀ (n:Nat) {cs:List (List Int)},Rz r cs → n ≤ cs.length → (∀ c ∈ cs,Gc r c) → ∀ c ∈ (down n).foldl (witM r) cs,Gc r c
 | 0,cs,_,_,h=>h
 | n + 1,cs,hz,hn,h=>by
  obtain ⟨c,hc⟩:=ix_in (l:=cs) (i:=n) (by omega) (by omega)
  obtain ⟨h1,h2,h3,h4⟩:=hz.wit hc
  rw [show down (n + 1) = (n:Int) :: down n from rfl,List.foldl_cons]
  refine sq_gc n h1 (by omega) ?_
  unfold witM
  rw [hc,Option.getD_some]
  cases he:empM r n c cs with
  | none=>exact h
  | some o=>exact emp_gc (hz.ez hc) h he
theorem sqz_riv {r:Request} {cs:List (List Int)} (h:rivB r cs = true):rivB r (sqzM r cs) = true ∧ (sqzM r cs).length ≤ cs.length:=by
 obtain ⟨hz,_,hc⟩:=riv_rz h
 obtain ⟨_,p2,p3⟩:=riv_parts h
 obtain ⟨k1,k2,k3⟩:=sq_keep cs.length hz (Nat.le_refl _)
 have hg:=sq_gc cs.length hz (Nat.le_refl _) fun c hc=>p2 c hc
 unfold sqzM
 rw [h,cond_true]
 exact ⟨riv_of hc (fun c hc=>hg c hc) (k2.trans p3),k3⟩
end Go.Proofs.YthddjkokpfdbnaaGreat
/- The master carton's room, by impl. -/
namespace Go.Proofs.YthddjkokpfdbnaaGreat
open Go
open Enc (rd ow)
open Arg (argv)
open Ret (retv)
open Wf (wf)
theorem i_room {fu:Nat} {r:Request} (h:Sm fu r):d_impl_masterRoom fu r = some (volT (masM r),(masM r).fGram):=by
 unfold d_impl_masterRoom
 rw [i_mas h,ob_some,i_vol,ob_some]; rfl
end Go.Proofs.YthddjkokpfdbnaaGreat
/- Lower of impl. -/
namespace Go.Proofs.YthddjkokpfdbnaaGreat
open Go
open Enc (rd ow)
open Arg (argv)
open Ret (retv)
open Wf (wf)
theorem i_up {fu:Nat} {a b:Int} (ha:0 ≤ a ∧ a ≤ 4000000000000000000) (hb:1 ≤ b ∧ b ≤ 8000000000):d_impl_upBy fu a b = some (upM a b):=by
 unfold d_impl_upBy upM
 rw [odiv_ok (by omega),ob_some,w64_id (n:=a + b) (by omega) (by omega),w64_id (n:=a + b - 1) (by omega) (by omega)]
 have h0:0 ≤ Int.tdiv (a + b - 1) b:=Int.tdiv_nonneg (by omega) (by omega)
 have h1:Int.tdiv (a + b - 1) b ≤ a + b - 1:=by
  rw [Int.tdiv_eq_ediv_of_nonneg (by omega)]
  exact Int.ediv_le_self _ (by omega)
 rw [w64_id (by omega) (by omega)]
theorem i_low {fu:Nat} {r:Request} (h:Sm fu r) (hc:clsM r = 0) {us:List Int} (hl:us.length ≤ 1000):d_impl_Lower fu r us = some (lowM r us):=by
 have hfu:=h.fu
 have hm:=(mas_typ hc).2.2
 have hv1:=volT_pos hm
 have hv2:volT (masM r) ≤ 8000000000:=(volB_nn _ _ _).2
 have hg:=hm
 simp only [typB,Bool.and_eq_true,inb_iff] at hg
 have hvb:=volM_bd r us
 have hgb:=grmM_bd r us
 have hil:=itsM_len r us
 have hz:(!(clsM r == 0)) = false:=by simp [hc]
 unfold d_impl_Lower d_impl_LowerVolume d_impl_LowerGram d_impl_LowerGreat
 simp only [i_sound h,ob_some,hz,cond_false,i_room h,i_volOf h us (by omega) (by omega),i_grm h us (by omega) (by omega),i_items h us (by omega) (by omega)]
 rw [i_up (by omega) (by omega),ob_some,ob_some,i_up (by omega) (by omega),ob_some,ob_some]
 have key:=lpI (itsM r us) (fun n (s:Int × Int) i=>d_impl_LowerGreat_L1 fu (volT (masM r),(masM r).fGram) (itsM r us) n s.1 s.2 i) (fun xs s=>some (mxI (s.1 + cntB (grtB r) xs) (s.2 + cntB (hvyB r) xs))) (fun xs s=>(0 ≤ s.1 ∧ 0 ≤ s.2 ∧ s.1 + xs.length ≤ 2000 ∧ s.2 + xs.length ≤ 2000) ∧ ∀ x ∈ xs,0 ≤ x.fGram ∧ x.fGram ≤ 100000) (by omega) ?_ ?_ fu (0,0) ⟨by simp; omega,fun x hx=>grm_mem hx⟩ (by omega)
 · rw [key,ob_some]
   unfold lowM mxI
   simp only [Int.zero_add]
   congr 1
   generalize upM (volM r us) (volT (masM r)) = a,upM (grmM r us) (masM r).fGram = b,cntB (grtB r) (itsM r us) = c,cntB (hvyB r) (itsM r us) = d
   have m:∀ x y:Int,(if x > y then x else y) = max x y:=fun x y=>by rw [Int.max_def]; split <;> split <;> omega
   simp only [m]
   omega
 · intro n ⟨s1,s2⟩ i x xs hx hd hI ih
   obtain ⟨⟨i1,i2,i3,i4⟩,i5⟩:(0 ≤ s1 ∧ 0 ≤ s2 ∧ s1 + ((x :: xs).length:Int) ≤ 2000 ∧ s2 + ((x :: xs).length:Int) ≤ 2000) ∧ ∀ y ∈ x :: xs,0 ≤ y.fGram ∧ y.fGram ≤ 100000:=hI
   simp only [List.length_cons] at i3 i4
   have hxg:=i5 x (by simp)
   have hxv:=volB_nn x.fW x.fH x.fD
   simp only [d_impl_LowerGreat_L1.eq_2]
   unfold d_impl_LowerGreat_L1_B d_impl_LowerGreat_J2 d_impl_LowerGreat_J1
   rw [hd,cond_true,hx,ob_some,i_vol,ob_some,w64_id (n:=2 * volB _ _ _) (by omega) (by omega),w64_id (n:=2 * x.fGram) (by omega) (by omega),w64_id (n:=s1 + 1) (by omega) (by omega),w64_id (n:=s2 + 1) (by omega) (by omega)]
   have I:∀ p q:Int,(p = s1 ∨ p = s1 + 1) → (q = s2 ∨ q = s2 + 1) → d_impl_LowerGreat_L1 fu (volT (masM r),(masM r).fGram) (itsM r us) n p q (w64 (i + 1)) = some (mxI (p + cntB (grtB r) xs) (q + cntB (hvyB r) xs)):=fun p q hp hq=>ih (p,q) ⟨by simp; omega,fun y hy=>i5 y (by simp [hy])⟩
   have e1:decide (2 * volB x.fW x.fH x.fD > volT (masM r)) = grtB r x:=rfl
   have e2:decide (2 * x.fGram > (masM r).fGram) = hvyB r x:=rfl
   simp only [e1,e2,cntB]
   rw [I _ _ (.inr rfl) (.inr rfl),I _ _ (.inr rfl) (.inl rfl),I _ _ (.inl rfl) (.inr rfl),I _ _ (.inl rfl) (.inl rfl)]
   cases grtB r x <;> cases hvyB r x <;> simp [bitI,Int.add_assoc]
 · intro n ⟨s1,s2⟩ i hd hI
   simp only [d_impl_LowerGreat_L1.eq_2]
   unfold d_impl_LowerGreat_L1_B
   rw [hd,cond_false]
   simp only [cntB,Int.add_zero]
   unfold mxI
   congr 1
   split <;> split <;> omega
end Go.Proofs.YthddjkokpfdbnaaGreat
