import Derived.Test.YtpcmapfabndggaaGreatBothWaysBP1
set_option linter.unusedSimpArgs false
set_option linter.unusedVariables false
/- IsRival of spec and of impl. -/
namespace Go.Proofs.YtpcmapfabndggaaGreat
open Go
open Enc (rd ow)
open Arg (argv)
open Ret (retv)
open Wf (wf)
def clsZ (r:Request) (u:Int):Int:=(itmZ r u).fClass
def allBes (r:Request) (c:List Int):Bool:=c.all fun x=>c.all fun y=>besB r.fPairs (clsZ r x) (clsZ r y)
theorem thr_mem {r:Request} {us:List Int} {u:Int} (h:u ∈ thrM r us):0 ≤ u ∧ u < (untM r).length:=by
 unfold thrM at h
 have:=(List.mem_filter.1 h).2
 rw [inb_iff] at this
 omega
theorem itmZ_in {r:Request} {u:Int} (h:0 ≤ u ∧ u < (untM r).length):itmM r u = some (itmZ r u):=by
 obtain ⟨_,x,_,_,hx⟩:=itmM_in h
 unfold itmZ
 rw [hx]; rfl
theorem itsM_map {r:Request}:∀ {l:List Int},(∀ u ∈ l,0 ≤ u ∧ u < (untM r).length) → itsM r l = l.map (itmZ r)
 | [],_=>rfl
 | u :: l,h=>by
  have ih:=itsM_map (r:=r) (l:=l) fun v hv=>h v (by simp [hv])
  unfold itsM at ih ⊢
  rw [List.filterMap_cons,itmZ_in (h u (by simp)),ih,List.map_cons]
end Go.Proofs.YtpcmapfabndggaaGreat
/- Transitive of spec and of impl; where it is, groups are apart. -/
namespace Go.Proofs.YtpcmapfabndggaaGreat
open Go
open Enc (rd ow)
open Arg (argv)
open Ret (retv)
open Wf (wf)
structure Sep (p:List Pair) (P:List Int) (out:List (List Int)):Prop where
 ne:∀ g ∈ out,g ≠ []
 inn:∀ g ∈ out,∀ x ∈ g,x ∈ P
 one:∀ g ∈ out,∀ x ∈ g,∀ y ∈ g,x ≠ y → mutB p x y = true
 two:∀ (i j:Nat) (g h:List Int),out[i]? = some g → out[j]? = some h → i ≠ j → ∀ x ∈ g,∀ y ∈ h,mutB p x y = false
end Go.Proofs.YtpcmapfabndggaaGreat
/- Holds and Cheapest, by spec and by impl. -/
namespace Go.Proofs.YtpcmapfabndggaaGreat
open Go
open Enc (rd ow)
open Arg (argv)
open Ret (retv)
open Wf (wf)
theorem all_cong {α:Type} {p q:α → Bool}:∀ {l:List α},(∀ x ∈ l,p x = q x) → l.all p = l.all q
 | [],_=>rfl
 | x :: xs,h=>by rw [List.all_cons,List.all_cons,h x (by simp),all_cong fun y hy=>h y (by simp [hy])]
def uOk (r:Request) (t:Typ) (u:Int):Bool:=(itmM r u).isSome && fitB (itmZ r u) t
def hldB (r:Request) (us:List Int) (t:Typ):Bool:=clsM r == 0 && (us.all (uOk r t) && witB r us t)
theorem itm_isSome {r:Request} {u:Int}:(itmM r u).isSome = true ↔ 0 ≤ u ∧ u < (untM r).length:=by
 constructor
 · intro h
   apply Decidable.byContradiction
   intro hn
   rw [itmM_out hn] at h
   cases h
 · intro h
   rw [itmZ_in h]; rfl
theorem i_holds {fu:Nat} {r:Request} (h:Sm fu r) (us:List Int) (t:Typ) (hl:us.length ≤ 1048576):d_impl_Holds fu r us t = some (hldB r us t):=by
 have hfu:=h.fu
 have hil:=itsM_len r us
 unfold d_impl_Holds hldB
 rw [i_sound h,ob_some]
 cases hc:clsM r == 0
 · rfl
 · rw [Bool.not_true,cond_false,i_there h us hl,ob_some,Bool.true_and]
   by_cases ha:∀ u ∈ us,0 ≤ u ∧ u < (untM r).length
   · have e:thrM r us = us:=List.filter_eq_self.2 fun u hu=>by have:=ha u hu; simp; omega
     have e0:((us.length:Int) != (us.length:Int)) = false:=by simp
     rw [e,e0,cond_false]
     unfold d_impl_Holds_J1
     rw [i_items h us hl (by omega),ob_some,i_anyItem _ (fun x=>!fitB x t) ?_ (by omega) (by omega),ob_some]
     · rw [i_within h t us hl,ob_some,itsM_map ha,List.any_map]
       have e1:us.all (uOk r t) = !(us.any ((fun x=>!fitB x t) ∘ itmZ r)):=by
        rw [List.not_any_eq_all_not]
        apply all_cong
        intro u hu
        simp only [uOk,itm_isSome.2 (ha u hu),Bool.true_and,Function.comp,Bool.not_not]
       rw [e1]
       cases us.any ((fun x=>!fitB x t) ∘ itmZ r) <;> simp
     · intro x _
       unfold d_impl_Holds_1
       rw [i_fit,ob_some]
   · have hlt:(thrM r us).length < us.length:=by
       apply Decidable.byContradiction
       intro hn
       apply ha
       have e:(us.filter fun u=>inb u 0 (((untM r).length:Int) - 1)).length = us.length:=by
        have:=List.length_filter_le (fun u=>inb u 0 (((untM r).length:Int) - 1)) us
        have e':thrM r us = us.filter fun u=>inb u 0 (((untM r).length:Int) - 1):=rfl
        rw [e'] at hn
        omega
       intro u hu
       have:=List.length_filter_eq_length_iff.1 e u hu
       simp at this
       omega
     have e0:(((thrM r us).length:Int) != (us.length:Int)) = true:=by simp; omega
     rw [e0,cond_true]
     have e1:us.all (uOk r t) = false:=by
      apply Bool.eq_false_iff.2
      intro he
      apply ha
      intro u hu
      have:=List.all_eq_true.1 he u hu
      simp only [uOk,Bool.and_eq_true] at this
      exact itm_isSome.1 this.1
     rw [e1,Bool.false_and]
def chp (r:Request) (us:List Int) (s:Typ × Bool) (t:Typ):Typ × Bool :=
 bif hldB r us t && (!s.2 || (decide (t.fCost < s.1.fCost) || (t.fCost == s.1.fCost && decide (t.fId < s.1.fId)))) then (t,true) else s
def chpM (r:Request) (us:List Int):Typ × Bool:=r.fTypes.foldl (chp r us) (zTyp,false)
theorem i_cheap {fu:Nat} {r:Request} (h:Sm fu r) (us:List Int) (hl:us.length ≤ 1048576):d_impl_Cheapest fu r us = some (chpM r us):=by
 have hfu:=h.fu
 have ht:=h.types
 unfold d_impl_Cheapest
 have key:=lp r.fTypes (fun n (s:Typ × Bool) i=>d_impl_Cheapest_L1 fu r us n s.1 s.2 i) (fun l s=>some (l.foldl (chp r us) s)) (by omega) ?_ ?_ fu (zTyp,false) (by omega)
 · exact key
 · intro n s i x xs hx hd ih
   simp only [d_impl_Cheapest_L1.eq_2]
   unfold d_impl_Cheapest_L1_B d_impl_Cheapest_J1
   have ih':=fun a b=>ih (a,b)
   simp only at ih'
   obtain ⟨b,f⟩:=s
   simp only [hd,cond_true,hx,ob_some,i_holds h us x hl,ih',List.foldl_cons,chp]
   cases hldB r us x <;> cases f <;> cases decide (x.fCost < b.fCost) <;> cases x.fCost == b.fCost <;> cases decide (x.fId < b.fId) <;> rfl
 · intro n s i hd
   simp only [d_impl_Cheapest_L1.eq_2]
   unfold d_impl_Cheapest_L1_B
   simp only [hd,cond_false]
   rfl
end Go.Proofs.YtpcmapfabndggaaGreat
/- Gross and BoxOf, by spec and by impl. -/
namespace Go.Proofs.YtpcmapfabndggaaGreat
open Go
open Enc (rd ow)
open Arg (argv)
open Ret (retv)
open Wf (wf)
def zBox:Box:=⟨0,0,0,0⟩
def grsM (r:Request) (x:Carton):Int:=match typM r x.fType with
 | some t=>bif clsM r == 0 then t.fTare + grmM r x.fUnits else 0
 | none=>0
def boxM (r:Request) (x:Carton):Box:=match typM r x.fType with
 | some t=>bif clsM r == 0 then ⟨t.fW,t.fD,t.fH,t.fTare + grmM r x.fUnits⟩ else zBox
 | none=>zBox
theorem typ_bd {r:Request} (hc:clsM r = 0) {id:Int} {t:Typ} (ht:typM r id = some t):typB t = true ∧ t ∈ r.fTypes ∧ t.fId = id:=by
 have hm:=List.mem_of_find?_eq_some ht
 have hp:=List.find?_some ht
 exact ⟨bou_types (clsM_zero hc).1 t hm,hm,by simpa using hp⟩
theorem tare_bd {r:Request} (hc:clsM r = 0) {id:Int} {t:Typ} (ht:typM r id = some t):0 ≤ t.fTare ∧ t.fTare ≤ 100000:=by
 have:=(typ_bd hc ht).1
 simp only [typB,Bool.and_eq_true,inb_iff] at this
 omega
theorem tare_add {r:Request} (hc:clsM r = 0) {id:Int} {t:Typ} (ht:typM r id = some t) (us:List Int) (hl:us.length ≤ 1048576):w64 (t.fTare + grmM r us) = t.fTare + grmM r us:=by
 have h1:=tare_bd hc ht
 have h2:=grmM_bd r us
 exact w64_id (by omega) (by omega)
theorem i_gross {fu:Nat} {r:Request} (h:Sm fu r) (x:Carton) (hl:x.fUnits.length ≤ 1048576):d_impl_Gross fu r x = some (grsM r x):=by
 have hfu:=h.fu
 unfold d_impl_Gross grsM
 rw [i_typById h,ob_some,othM_2]
 cases ht:typM r x.fType with
 | none=>rfl
 | some t =>
  rw [i_sound h]
  simp only [Option.isSome_some,Bool.not_true,cond_false,ob_some]
  cases hc:clsM r == 0
  · rfl
  · have hc':clsM r = 0:=by simpa using hc
    unfold d_impl_Gross_J1
    rw [i_grm h _ hl (by omega)]
    simp only [Bool.not_true,cond_false,cond_true,ob_some,othM,tare_add hc' ht _ hl]
theorem i_boxM {fu:Nat} {r:Request} (h:Sm fu r) (x:Carton) (hl:x.fUnits.length ≤ 1048576):d_impl_BoxOf fu r x = some (boxM r x):=by
 unfold d_impl_BoxOf boxM
 rw [i_typById h,ob_some,othM_2]
 cases ht:typM r x.fType with
 | none=>rfl
 | some t =>
  rw [i_sound h]
  simp only [Option.isSome_some,Bool.not_true,cond_false,ob_some]
  cases hc:clsM r == 0
  · rfl
  · unfold d_impl_BoxOf_J1
    rw [i_gross h x hl]
    simp only [grsM,ht,hc,Bool.not_true,cond_false,cond_true,ob_some,othM]
end Go.Proofs.YtpcmapfabndggaaGreat
/- Within, Overlap, Pallets: by spec and by impl. -/
namespace Go.Proofs.YtpcmapfabndggaaGreat
open Go
open Enc (rd ow)
open Arg (argv)
open Ret (retv)
open Wf (wf)
def knoB (b:Box) (s:Spot):Bool:=inb b.fW 0 2000 && (inb b.fD 0 2000 && (inb b.fH 0 2000 && (inb s.fX 0 2000 && (inb s.fY 0 2000 && inb s.fZ 0 2000))))
def winB (p:Pallet) (b:Box) (s:Spot):Bool :=
 knoB b s && (decide (b.fW > 0) && (decide (b.fD > 0) && (decide (b.fH > 0) && (decide (w64 (s.fX + b.fW) ≤ p.fW) && (decide (w64 (s.fY + b.fD) ≤ p.fD) && decide (w64 (s.fZ + b.fH) ≤ p.fH))))))
def crsB (a la b lb:Int):Bool:=decide (a < w64 (b + lb)) && decide (b < w64 (a + la))
def ovlB (a:Box) (s:Spot) (b:Box) (t:Spot):Bool :=
 knoB a s && (knoB b t && (s.fPallet == t.fPallet && (crsB s.fX a.fW t.fX b.fW && (crsB s.fY a.fD t.fY b.fD && crsB s.fZ a.fH t.fZ b.fH))))
theorem i_place (fu:Nat) (n:Int):d_impl_isPlace fu n = some (inb n 0 2000):=by unfold d_impl_isPlace; rw [i_in]; rfl
theorem i_kno (fu:Nat) (b:Box) (s:Spot):d_impl_placed fu b s = some (knoB b s):=by
 unfold d_impl_placed knoB
 simp only [i_place,ob_some]
 cases inb b.fW 0 2000 <;> cases inb b.fD 0 2000 <;> cases inb b.fH 0 2000 <;> cases inb s.fX 0 2000 <;> cases inb s.fY 0 2000 <;> cases inb s.fZ 0 2000 <;> rfl
theorem side_inb (n:Int):inb n 1 2000 = (inb n 0 2000 && decide (n > 0)):=by
 apply Bool.eq_iff_iff.2
 simp only [inb_iff,Bool.and_eq_true,decide_eq_true_eq]
 omega
theorem i_win (fu:Nat) (p:Pallet) (b:Box) (s:Spot):d_impl_Within fu p b s = some (winB p b s):=by
 unfold d_impl_Within d_impl_Within_J1 winB knoB
 simp only [i_place,i_side,ob_some,side_inb]
 cases inb b.fW 0 2000 <;> cases inb b.fD 0 2000 <;> cases inb b.fH 0 2000 <;> cases inb s.fX 0 2000 <;> cases inb s.fY 0 2000 <;> cases inb s.fZ 0 2000 <;> simp
 all_goals cases decide (0 < b.fW) <;> cases decide (0 < b.fD) <;> cases decide (0 < b.fH) <;> simp
 all_goals cases decide (w64 (s.fX + b.fW) ≤ p.fW) <;> cases decide (w64 (s.fY + b.fD) ≤ p.fD) <;> simp
theorem i_crs (fu:Nat) (a la b lb:Int):d_impl_cross fu a la b lb = some (crsB a la b lb):=by
 unfold d_impl_cross crsB
 cases decide (a < w64 (b + lb)) <;> rfl
theorem i_ovl (fu:Nat) (a:Box) (s:Spot) (b:Box) (t:Spot):d_impl_Overlap fu a s b t = some (ovlB a s b t):=by
 unfold d_impl_Overlap d_impl_Overlap_J1 ovlB
 simp only [i_kno,i_crs,ob_some,bne]
 cases knoB a s <;> cases knoB b t <;> cases s.fPallet == t.fPallet <;> cases crsB s.fX a.fW t.fX b.fW <;> cases crsB s.fY a.fD t.fY b.fD <;> rfl
def palS (n:Int) (s:Spot):Int:=bif inb s.fPallet 0 999999 then (if s.fPallet + 1 > n then s.fPallet + 1 else n) else n
def palM (l:List Spot):Int:=l.foldl palS 0
theorem palS_bd {n:Int} (s:Spot) (h:0 ≤ n ∧ n ≤ 1000000):0 ≤ palS n s ∧ palS n s ≤ 1000000:=by
 unfold palS
 cases hi:inb s.fPallet 0 999999
 · exact h
 · have:=inb_iff.1 hi
   simp only [cond_true]
   split <;> omega
theorem palF_bd:∀ (l:List Spot) {n:Int},0 ≤ n ∧ n ≤ 1000000 → 0 ≤ l.foldl palS n ∧ l.foldl palS n ≤ 1000000
 | [],_,h=>h
 | s :: l,_,h=>palF_bd l (palS_bd s h)
theorem palM_bd (l:List Spot):0 ≤ palM l ∧ palM l ≤ 1000000:=palF_bd l (by omega)
theorem i_pals {fu:Nat} {l:List Spot} (hl:l.length ≤ 1048576) (hf:l.length < fu):d_impl_Pallets fu l = some (palM l):=by
 unfold d_impl_Pallets
 have key:=lp l (fun n (s:Int) i=>d_impl_Pallets_L1 fu l n s i) (fun l s=>some (l.foldl palS s)) (by omega) ?_ ?_ fu 0 hf
 · exact key
 · intro n s i x xs hx hd ih
   simp only [d_impl_Pallets_L1.eq_2]
   unfold d_impl_Pallets_L1_B d_impl_Pallets_J1
   simp only [hd,cond_true,hx,ob_some,i_in,ih,List.foldl_cons]
   unfold palS
   cases hi:inb x.fPallet 0 999999
   · rfl
   · have:=inb_iff.1 hi
     simp only [cond_true]
     rw [w64_id (by omega) (by omega)]
 · intro n s i hd
   simp only [d_impl_Pallets_L1.eq_2]
   unfold d_impl_Pallets_L1_B
   simp only [hd,cond_false]
   rfl
end Go.Proofs.YtpcmapfabndggaaGreat
/- The two ways of packing, by spec and by impl. -/
namespace Go.Proofs.YtpcmapfabndggaaGreat
open Go
open Enc (rd ow)
open Arg (argv)
open Ret (retv)
open Wf (wf)
def putF (g:List Int → Bool) (out:List (List Int)) (u:Int):List (List Int):=match fstI g out with
 | some i=>match out[i]? with
  | some x=>out.set i (x ++ [u])
  | none=>out
 | none=>out ++ [[u]]
def romB (r:Request) (u:Int) (l:List Int):Bool:=witB r (l ++ [u]) (masM r)
def fitF (r:Request) (out:List (List Int)) (u:Int):List (List Int):=putF (romB r u) out u
def nxtF (r:Request) (out:List (List Int)) (u:Int):List (List Int):=match out.getLast? with
 | some l=>bif romB r u l then out.set (out.length - 1) (l ++ [u]) else out ++ [[u]]
 | none=>[[u]]
theorem nxtF_some {r:Request} {out:List (List Int)} {l:List Int} (u:Int) (h:out.getLast? = some l):nxtF r out u = bif romB r u l then out.set (out.length - 1) (l ++ [u]) else out ++ [[u]]:=by unfold nxtF; rw [h]
def ordM (r:Request) (us:List Int):List Int:=(srt (dnk (us.map fun u=>volM r [u])) us.length).map fun p=>(ix us p).getD 0
def nfM (r:Request) (us:List Int):List (List Int):=(thrM r us).foldl (nxtF r) []
def ffM (r:Request) (us:List Int):List (List Int):=(ordM r (thrM r us)).foldl (fitF r) []
def pwM (r:Request) (us:List Int):List (List Int):=bif r.fWay == 1 then nfM r us else ffM r us
theorem putF_ok {g:List Int → Bool} {out:List (List Int)} {n:Nat} (u:Int) (h:okG n out):okG (n + 1) (putF g out u):=by
 obtain ⟨h1,h2⟩:=h
 unfold putF
 split
 · rename_i i hi
   split
   · rename_i x hx
     refine ⟨by simp; omega,fun l hl=>?_⟩
     rcases List.mem_or_eq_of_mem_set hl with hl | rfl
     · have:=h2 l hl; omega
     · have:=h2 x (List.mem_of_getElem? hx); simp; omega
   · exact ⟨by omega,fun l hl=>by have:=h2 l hl; omega⟩
 · refine ⟨by simp; omega,fun l hl=>?_⟩
   rcases List.mem_append.1 hl with hl | hl
   · have:=h2 l hl; omega
   · rw [List.mem_singleton.1 hl]; simp
theorem nxtF_ok {r:Request} {out:List (List Int)} {n:Nat} (u:Int) (h:okG n out):okG (n + 1) (nxtF r out u):=by
 obtain ⟨h1,h2⟩:=h
 unfold nxtF
 split
 · rename_i x hx
   have hm:=List.mem_of_getLast? hx
   cases romB r u x
   · refine ⟨by simp; omega,fun l hl=>?_⟩
     rcases List.mem_append.1 hl with hl | hl
     · have:=h2 l hl; omega
     · rw [List.mem_singleton.1 hl]; simp
   · refine ⟨by simp; omega,fun l hl=>?_⟩
     rcases List.mem_or_eq_of_mem_set hl with hl | rfl
     · have:=h2 l hl; omega
     · have:=h2 x hm; simp; omega
 · exact ⟨by simp,fun l hl=>by rw [List.mem_singleton.1 hl]; simp⟩
theorem fold_ok {F:List (List Int) → Int → List (List Int)} (hF:∀ out n u,okG n out → okG (n + 1) (F out u)):∀ (l:List Int) {out:List (List Int)} {n:Nat},okG n out → okG (n + l.length) (l.foldl F out)
 | [],_,_,h=>h
 | u :: l,out,n,h=>by
  have:=fold_ok hF l (hF out n u h)
  rw [List.foldl_cons,List.length_cons,show n + (l.length + 1) = n + 1 + l.length by omega]
  exact this
theorem thr_le {r:Request} {us:List Int} (h:us.length ≤ 12):(thrM r us).length ≤ 12:=Nat.le_trans (thrM_len r us) h
theorem ordM_len (r:Request) (us:List Int):(ordM r us).length = us.length:=by simp [ordM,srt_len]
theorem pwM_ok {r:Request} {us:List Int} (h:us.length ≤ 12):okG 12 (pwM r us):=by
 have ht:=thr_le (r:=r) h
 have h0:okG 0 ([]:List (List Int)):=⟨by simp,by simp⟩
 unfold pwM
 cases r.fWay == 1
 · have:=fold_ok (F:=fitF r) (fun out n u ho=>putF_ok u ho) (ordM r (thrM r us)) h0
   rw [ordM_len] at this
   exact ⟨by have:=this.1; simp only [cond_false]; unfold ffM; omega,fun l hl=>by have:=this.2 l hl; omega⟩
 · have:=fold_ok (F:=nxtF r) (fun out n u ho=>nxtF_ok u ho) (thrM r us) h0
   exact ⟨by have:=this.1; simp only [cond_true]; unfold nfM; omega,fun l hl=>by have:=this.2 l hl; omega⟩
theorem put_atF {g:List Int → Bool} {out:List (List Int)} {c:Int} {n:Nat} (h:okG n out) (hn:n ≤ 1048576) {β:Type} (k:List (List Int) → Option β) (a:Int) (ha:a = match fstI g out with | some i=>(i:Int) | none=>-1) :
    (bif (decide (a < 0)) then obind (apnd 24 out [([c]:List Int)]) fun x=>k x else obind (ix out a) fun x=>obind (apnd 8 x (([c]:List Int))) fun y=>obind (ix out a) fun z=>k (setx out a y)) = k (putF g out c):=by
 obtain ⟨h1,h2⟩:=h
 unfold putF
 cases hf:fstI g out with
 | none =>
  rw [hf] at ha
  simp only at ha
  subst ha
  rw [bif_true (by simp),ap1 (by simp; omega),ob_some]
 | some i =>
  rw [hf] at ha
  simp only at ha
  subst ha
  obtain ⟨x,hx,_⟩:=fstI_lt hf
  have:=h2 x (List.mem_of_getElem? hx)
  rw [bif_false (by simp),ix_nat,hx,ob_some,ap1 (by simp; omega),ob_some,ob_some]
  simp [setx,hx]
theorem thr_cls {r:Request} (h:(clsM r == 0) = false) (us:List Int):thrM r us = []:=by
 unfold thrM untM
 rw [h]
 apply List.filter_eq_nil_iff.2
 intro u _
 simp; omega
theorem last_at {α:Type} {out:List α} (h:out ≠ []):∃ l,out.getLast? = some l ∧ ix out ((out.length:Int) - 1) = some l:=by
 cases hl:out.getLast? with
 | none=>exact absurd (List.getLast?_eq_none_iff.1 hl) h
 | some l =>
  have hp:=List.length_pos_iff.2 h
  refine ⟨l,rfl,?_⟩
  rw [show (out.length:Int) - 1 = ((out.length - 1:Nat):Int) by omega,ix_nat,← List.getLast?_eq_getElem?,hl]
theorem i_next {fu:Nat} {r:Request} (h:Sm fu r) (us:List Int) (hl:us.length ≤ 1048575):d_impl_NextFit fu r us = some (nfM r us):=by
 have hfu:=h.fu
 have htl:=thrM_len r us
 unfold d_impl_NextFit nfM
 rw [i_there h us (by omega),ob_some]
 cases hc:clsM r == 0
 · rw [thr_cls hc]
   obtain ⟨m,rfl⟩:∃ m,fu = m + 1:=⟨fu - 1,by omega⟩
   rw [d_impl_NextFit_L1.eq_2]; rfl
 · have key:=lpI (thrM r us) (fun n (o:List (List Int)) i=>d_impl_NextFit_L1 fu r (thrM r us) n o i) (fun xs o=>some (xs.foldl (nxtF r) o)) (fun xs o=>∃ m,m + xs.length ≤ 1048575 ∧ okG m o) (by omega) ?_ ?_ fu [] ⟨0,by omega,by simp,by simp⟩ (by omega)
   · exact key
   · intro n o i u xs hx hd hI ih
     obtain ⟨m,hm,ho⟩:=hI
     simp only [List.length_cons] at hm
     have h1:=ho.1
     have h2:=ho.2
     have hI':=ih (nxtF r o u) ⟨m + 1,by omega,nxtF_ok u ho⟩
     simp only [d_impl_NextFit_L1.eq_2]
     unfold d_impl_NextFit_L1_B d_impl_NextFit_J1
     rw [hd,cond_true,hx,ob_some,List.foldl_cons,← hI',w64_id (by omega) (by omega)]
     by_cases he:o = []
     · subst he
       rw [decide_eq_false (by simp),cond_false,ap1 (by simp),ob_some]; rfl
     · obtain ⟨l,e1,e2⟩:=last_at he
       have hp:=List.length_pos_iff.2 he
       have hll:=h2 l (List.mem_of_getLast? e1)
       rw [decide_eq_true (by omega),cond_true,e2,ob_some,i_room1 h l u (by omega),ob_some,hc,Bool.true_and]
       rw [nxtF_some u e1]
       unfold romB
       cases witB r (l ++ [u]) (masM r)
       · rw [cond_false,cond_false,ap1 (by simp; omega),ob_some]
       · rw [cond_true,cond_true,ob_some,ap1 (by simp; omega),ob_some,ob_some]
         rw [show setx o ((o.length:Int) - 1) (l ++ [u]) = o.set (o.length - 1) (l ++ [u]) by unfold setx; congr 1; omega]
   · intro n o i hd _
     simp only [d_impl_NextFit_L1.eq_2]
     unfold d_impl_NextFit_L1_B
     rw [hd,cond_false]; rfl
theorem ord_ix {us:List Int} {p:Int} (h:0 ≤ p ∧ p < us.length):ix us p = some ((ix us p).getD 0):=by
 have:=ix_i (l:=us) (i:=p.toNat) (by omega)
 rw [show ((p.toNat:Nat):Int) = p by omega] at this
 rw [this]; rfl
theorem foldl_map' {α β γ:Type} (f:γ → β → γ) (g:α → β):∀ (l:List α) (s:γ),(l.map g).foldl f s = l.foldl (fun s x=>f s (g x)) s
 | [],_=>rfl
 | x :: l,s=>by rw [List.map_cons,List.foldl_cons,List.foldl_cons,foldl_map' f g l]
theorem i_first {fu:Nat} {r:Request} (h:Sm fu r) (us:List Int) (hl:us.length < 20):d_impl_FirstFit fu r us = some (ffM r us):=by
 have hfu:=h.fu
 have htl:=thrM_len r us
 unfold d_impl_FirstFit ffM ordM
 rw [i_there h us (by omega),ob_some]
 obtain ⟨t,ht⟩:∃ t,t = thrM r us:=⟨_,rfl⟩
 rw [← ht] at htl ⊢
 have key:=lpI t (fun n (o:List Int) i=>d_impl_FirstFit_L2 fu r t n o i) (fun xs o=>obind (d_impl_SortDown fu (o ++ xs.map fun u=>volM r [u])) fun x=>d_impl_FirstFit_L1 fu r t x fu [] 0) (fun xs o=>o.length + xs.length ≤ 20) (by omega) ?_ ?_ fu [] (by simp; omega) (by omega)
 · rw [key,List.nil_append,i_down hfu (by simp; omega),ob_some,foldl_map',List.length_map]
   have hsl:=srt_len (dnk (t.map fun u=>volM r [u])) t.length
   have hsm:=fun x=>srt_mem (k:=dnk (t.map fun u=>volM r [u])) (n:=t.length) (x:=x)
   generalize srt (dnk (t.map fun u=>volM r [u])) t.length = S at hsl hsm ⊢
   cases hc:clsM r == 0
   · have:t = []:=by rw [ht]; exact thr_cls hc us
     subst this
     have:S = []:=List.length_eq_zero_iff.1 (by simpa using hsl)
     subst this
     obtain ⟨m,rfl⟩:∃ m,fu = m + 1:=⟨fu - 1,by omega⟩
     rw [d_impl_FirstFit_L1.eq_2]; rfl
   · have key1:=lpI S (fun n (o:List (List Int)) i=>d_impl_FirstFit_L1 fu r t S n o i) (fun xs o=>some (xs.foldl (fun s p=>fitF r s ((ix t p).getD 0)) o)) (fun xs o=>(∃ m,m + xs.length ≤ 20 ∧ okG m o) ∧ ∀ p ∈ xs,0 ≤ p ∧ p < t.length) (by omega) ?_ ?_ fu [] ⟨⟨0,by omega,by simp,by simp⟩,fun p hp=>(hsm p).1 hp⟩ (by omega)
     · exact key1
     · intro n o i p xs hx hd hI ih
       obtain ⟨⟨m,hm,ho⟩,hin⟩:=hI
       simp only [List.length_cons] at hm
       have hp:=ord_ix (hin p (by simp))
       simp only [d_impl_FirstFit_L1.eq_2]
       unfold d_impl_FirstFit_L1_B d_impl_FirstFit_J1
       rw [hd,cond_true,hx,ob_some,hp,ob_some,List.foldl_cons]
       generalize (ix t p).getD 0 = u
       rw [i_idxInts (fun y=>d_impl_FirstFit_1 fu y r u) (romB r u) (fun l hl=>by
        have:=ho.2 l hl
        unfold d_impl_FirstFit_1 romB
        rw [i_room1 h l u (by omega),ob_some,hc,Bool.true_and]) (by have:=ho.1; omega) (by have:=ho.1; omega),ob_some]
       refine (put_atF (g:=romB r u) (c:=u) ho (by omega) (fun x=>d_impl_FirstFit_L1 fu r t S n x (w64 (i + 1))) (fndI (romB r u) o 0) (by
        rw [fndI_fst]
        cases fstI (romB r u) o <;> simp)).trans ?_
       exact ih _ ⟨⟨m + 1,by omega,putF_ok u ho⟩,fun q hq=>hin q (by simp [hq])⟩
     · intro n o i hd _
       simp only [d_impl_FirstFit_L1.eq_2]
       unfold d_impl_FirstFit_L1_B
       rw [hd,cond_false]; rfl
 · intro n o i u xs hx hd hI ih
   simp only [List.length_cons] at hI
   simp only [d_impl_FirstFit_L2.eq_2]
   unfold d_impl_FirstFit_L2_B
   rw [hd,cond_true,hx,ob_some,i_volOf h [u] (by simp) (by simp; omega),ob_some,ap1 (by simp; omega),ob_some,ih _ (by simp; omega)]
   simp
 · intro n o i hd _
   simp only [d_impl_FirstFit_L2.eq_2]
   unfold d_impl_FirstFit_L2_B
   rw [hd,cond_false]; simp
theorem i_way {fu:Nat} {r:Request} (h:Sm fu r) (us:List Int) (hl:us.length < 20):d_impl_PackWay fu r us = some (pwM r us):=by
 unfold d_impl_PackWay pwM
 rw [i_next h us (by omega),i_first h us hl]
 cases r.fWay == 1 <;> rfl
end Go.Proofs.YtpcmapfabndggaaGreat
/- RivalBy of spec and of impl. -/
namespace Go.Proofs.YtpcmapfabndggaaGreat
open Go
open Enc (rd ow)
open Arg (argv)
open Ret (retv)
open Wf (wf)
theorem ix_in {α:Type} {l:List α} {i:Int} (h0:0 ≤ i) (h1:i < l.length):∃ x,ix l i = some x:=by
 obtain ⟨j,rfl⟩:∃ j:Nat,i = j:=⟨i.toNat,by omega⟩
 exact ⟨_,ix_i (by omega)⟩
end Go.Proofs.YtpcmapfabndggaaGreat
/- Shelves, layers, loads, spots of spec: what they compute, and what holds of them. -/
namespace Go.Proofs.YtpcmapfabndggaaGreat
open Go
open Enc (rd ow)
open Arg (argv)
open Ret (retv)
open Wf (wf)
def bokB (p:Pallet) (b:Box):Bool:=inb b.fW 1 p.fW && (inb b.fD 1 p.fD && (inb b.fH 1 p.fH && inb b.fGram 1 p.fGram))
def bosB (p:Pallet) (l:List Box):Bool:=palB p && l.all (bokB p)
def nxG {σ:Type} (fits:σ → Bool) (add:σ → σ) (z:σ) (out:List σ):List σ:=match out.getLast? with
 | some s=>bif fits s then out.set (out.length - 1) (add s) else out ++ [add z]
 | none=>[add z]
theorem nxG_some {σ:Type} {fits:σ → Bool} {add:σ → σ} {z:σ} {out:List σ} {s:σ} (h:out.getLast? = some s):nxG fits add z out = bif fits s then out.set (out.length - 1) (add s) else out ++ [add z]:=by unfold nxG; rw [h]
theorem nxG_len {σ:Type} (fits:σ → Bool) (add:σ → σ) (z:σ) (out:List σ):(nxG fits add z out).length ≤ out.length + 1:=by
 unfold nxG
 split
 · cases fits _ <;> simp
 · simp
theorem nxG_all {σ:Type} {fits:σ → Bool} {add:σ → σ} {z:σ} {out:List σ} {I:σ → Prop} (h:∀ s ∈ out,I s) (ha:∀ s,I s → fits s = true → I (add s)) (hz:I (add z)):∀ s ∈ nxG fits add z out,I s:=by
 intro s hs
 unfold nxG at hs
 split at hs
 · rename_i x hx
   have hm:=List.mem_of_getLast? hx
   cases hf:fits x
   · rw [hf,cond_false] at hs
     rcases List.mem_append.1 hs with hs | hs
     · exact h s hs
     · rw [List.mem_singleton.1 hs]; exact hz
   · rw [hf,cond_true] at hs
     rcases List.mem_or_eq_of_mem_set hs with hs | rfl
     · exact h s hs
     · exact ha x (h x hm) hf
 · rw [List.mem_singleton.1 hs]; exact hz
theorem nxG_flat {σ:Type} {fits:σ → Bool} {add:σ → σ} {z:σ} {out:List σ} {f:σ → List Int} {i:Int} (ha:∀ s,f (add s) = f s ++ [i]) (hz:f z = []):((nxG fits add z out).map f).flatten = (out.map f).flatten ++ [i]:=by
 unfold nxG
 split
 · rename_i x hx
   cases fits x
   · rw [cond_false,List.map_append,List.flatten_append]
     simp [ha,hz]
   · rw [cond_true]
     have hne:out ≠ []:=by intro e; rw [e] at hx; simp at hx
     have e:out = out.dropLast ++ [x]:=by
      have h1:=List.dropLast_concat_getLast hne
      rw [List.getLast?_eq_some_getLast hne] at hx
      rw [Option.some.inj hx] at h1
      exact h1.symm
     obtain ⟨d,hd⟩:∃ d,out = d ++ [x]:=⟨_,e⟩
     rw [hd]
     simp [ha]
 · rename_i hx
   have:out = []:=List.getLast?_eq_none_iff.1 hx
   subst this
   simp [ha,hz]
def mxI (a b:Int):Int:=if a > b then a else b
theorem mxI_ge (a b:Int):a ≤ mxI a b ∧ b ≤ mxI a b ∧ (mxI a b = a ∨ mxI a b = b):=by unfold mxI; split <;> omega
def zBx:Box:=⟨0,0,0,0⟩
def bxA (l:List Box) (i:Int):Box:=(ix l i).getD zBx
def zSh:Shelf:=⟨[],0,0,0,0⟩
def shAdd (s:Shelf) (i:Int) (b:Box):Shelf:=⟨s.fList ++ [i],s.fW + b.fW,mxI s.fD b.fD,mxI s.fH b.fH,s.fGram + b.fGram⟩
def shFit (p:Pallet) (b:Box) (s:Shelf):Bool:=decide (s.fW + b.fW ≤ p.fW) && decide (s.fGram + b.fGram ≤ p.fGram)
def shS (p:Pallet) (l:List Box) (out:List Shelf) (i:Int):List Shelf:=nxG (shFit p (bxA l i)) (fun s=>shAdd s i (bxA l i)) zSh out
def shM (p:Pallet) (l:List Box):List Shelf:=bif bosB p l then (srt (dnk (l.map (·.fD))) l.length).foldl (shS p l) [] else []
structure ShI (p:Pallet) (n:Nat) (s:Shelf):Prop where
 ne:s.fList ≠ []
 inn:∀ i ∈ s.fList,0 ≤ i ∧ i < n
 w:1 ≤ s.fW ∧ s.fW ≤ p.fW
 d:1 ≤ s.fD ∧ s.fD ≤ p.fD
 h:1 ≤ s.fH ∧ s.fH ≤ p.fH
 g:1 ≤ s.fGram ∧ s.fGram ≤ p.fGram
theorem bok_at {p:Pallet} {l:List Box} (h:bosB p l = true) {i:Int} (hi:0 ≤ i ∧ i < l.length):ix l i = some (bxA l i) ∧ (1 ≤ (bxA l i).fW ∧ (bxA l i).fW ≤ p.fW) ∧ (1 ≤ (bxA l i).fD ∧ (bxA l i).fD ≤ p.fD) ∧ (1 ≤ (bxA l i).fH ∧ (bxA l i).fH ≤ p.fH) ∧ (1 ≤ (bxA l i).fGram ∧ (bxA l i).fGram ≤ p.fGram):=by
 obtain ⟨x,hx⟩:=ix_in (l:=l) hi.1 hi.2
 have e:bxA l i = x:=by unfold bxA; rw [hx]; rfl
 unfold bosB at h
 simp only [Bool.and_eq_true] at h
 have:=List.all_eq_true.1 h.2 x (ix_mem hx)
 simp only [bokB,Bool.and_eq_true,inb_iff] at this
 rw [e]
 exact ⟨hx,this.1,this.2.1,this.2.2.1,this.2.2.2⟩
theorem pal_bd {p:Pallet} (h:palB p = true):(1 ≤ p.fW ∧ p.fW ≤ 2000) ∧ (1 ≤ p.fD ∧ p.fD ≤ 2000) ∧ (1 ≤ p.fH ∧ p.fH ≤ 2000) ∧ (1 ≤ p.fGram ∧ p.fGram ≤ 100000):=by
 simp only [palB,Bool.and_eq_true,inb_iff] at h
 exact ⟨h.1,h.2.1,h.2.2.1,h.2.2.2⟩
theorem bos_pal {p:Pallet} {l:List Box} (h:bosB p l = true):palB p = true:=by
 unfold bosB at h
 simp only [Bool.and_eq_true] at h
 exact h.1
theorem shS_all {p:Pallet} {l:List Box} (hb:bosB p l = true) {out:List Shelf} {i:Int} (hi:0 ≤ i ∧ i < l.length) (h:∀ s ∈ out,ShI p l.length s):∀ s ∈ shS p l out i,ShI p l.length s:=by
 obtain ⟨_,b1,b2,b3,b4⟩:=bok_at hb hi
 refine nxG_all h (fun s hs hf=>?_) ⟨by simp [shAdd],fun j hj=>?_,?_,?_,?_,?_⟩
 · unfold shFit at hf
   simp only [Bool.and_eq_true,decide_eq_true_eq] at hf
   obtain ⟨s1,s2,s3,s4,s5,s6⟩:=hs
   have m1:=mxI_ge s.fD (bxA l i).fD
   have m2:=mxI_ge s.fH (bxA l i).fH
   refine ⟨by simp [shAdd],fun j hj=>?_,?_,?_,?_,?_⟩
   · simp only [shAdd,List.mem_append,List.mem_singleton] at hj
     rcases hj with hj | rfl
     · exact s2 j hj
     · exact hi
   · simp only [shAdd]; omega
   · simp only [shAdd]; omega
   · simp only [shAdd]; omega
   · simp only [shAdd]; omega
 · simp only [shAdd,zSh,List.nil_append,List.mem_singleton] at hj
   rw [hj]; exact hi
 · simp only [shAdd,zSh]; omega
 · have:=mxI_ge 0 (bxA l i).fD
   simp only [shAdd,zSh]; omega
 · have:=mxI_ge 0 (bxA l i).fH
   simp only [shAdd,zSh]; omega
 · simp only [shAdd,zSh]; omega
theorem shF_all {p:Pallet} {l:List Box} (hb:bosB p l = true):∀ (is:List Int) (out:List Shelf),(∀ i ∈ is,0 ≤ i ∧ i < l.length) → (∀ s ∈ out,ShI p l.length s) → (∀ s ∈ is.foldl (shS p l) out,ShI p l.length s) ∧ ((is.foldl (shS p l) out).map (·.fList)).flatten = (out.map (·.fList)).flatten ++ is ∧ (is.foldl (shS p l) out).length ≤ out.length + is.length
 | [],out,_,h=>⟨h,by simp,by simp⟩
 | i :: is,out,hi,h=>by
  rw [List.foldl_cons]
  obtain ⟨h1,h2,h3⟩:=shF_all hb is (shS p l out i) (fun j hj=>hi j (by simp [hj])) (shS_all hb (hi i (by simp)) h)
  have h4:((shS p l out i).map (·.fList)).flatten = (out.map (·.fList)).flatten ++ [i]:=nxG_flat (fun s=>rfl) rfl
  have h5:(shS p l out i).length ≤ out.length + 1:=nxG_len _ _ _ _
  refine ⟨h1,by rw [h2,h4]; simp,by simp; omega⟩
theorem shM_all {p:Pallet} {l:List Box} (hb:bosB p l = true):(∀ s ∈ shM p l,ShI p l.length s) ∧ ((shM p l).map (·.fList)).flatten = srt (dnk (l.map (·.fD))) l.length ∧ (shM p l).length ≤ l.length:=by
 unfold shM
 rw [hb,cond_true]
 obtain ⟨h1,h2,h3⟩:=shF_all hb (srt (dnk (l.map (·.fD))) l.length) [] (fun i hi=>srt_mem.1 hi) (by simp)
 refine ⟨h1,by simpa using h2,?_⟩
 rw [srt_len] at h3
 simpa using h3
theorem flat_le {σ:Type} (f:σ → List Int):∀ (l:List σ) (s:σ),s ∈ l → (f s).length ≤ ((l.map f).flatten).length
 | [],_,h=>by simp at h
 | x :: l,s,h=>by
  simp only [List.map_cons,List.flatten_cons,List.length_append]
  rcases List.mem_cons.1 h with rfl | h
  · omega
  · have:=flat_le f l s h; omega
end Go.Proofs.YtpcmapfabndggaaGreat
/- Layers and loads of spec. -/
namespace Go.Proofs.YtpcmapfabndggaaGreat
open Go
open Enc (rd ow)
open Arg (argv)
open Ret (retv)
open Wf (wf)
def okL (p:Pallet) (d h g:Int):Bool:=inb d 1 p.fD && (inb h 1 p.fH && inb g 1 p.fGram)
def shA (l:List Shelf) (i:Int):Shelf:=(ix l i).getD zSh
def zLy:Layer:=⟨[],0,0,0⟩
def lyAdd (x:Layer) (i:Int) (s:Shelf):Layer:=⟨x.fShelves ++ [i],x.fD + s.fD,mxI x.fH s.fH,x.fGram + s.fGram⟩
def lyFit (p:Pallet) (s:Shelf) (x:Layer):Bool:=decide (x.fD + s.fD ≤ p.fD) && decide (x.fGram + s.fGram ≤ p.fGram)
def lyS (p:Pallet) (l:List Shelf) (out:List Layer) (i:Int):List Layer:=nxG (lyFit p (shA l i)) (fun s=>lyAdd s i (shA l i)) zLy out
def lyM (p:Pallet) (l:List Shelf):List Layer:=(ints 0 l.length).foldl (lyS p l) []
structure LyI (p:Pallet) (n:Nat) (s:Layer):Prop where
 ne:s.fShelves ≠ []
 inn:∀ i ∈ s.fShelves,0 ≤ i ∧ i < n
 d:1 ≤ s.fD ∧ s.fD ≤ p.fD
 h:1 ≤ s.fH ∧ s.fH ≤ p.fH
 g:1 ≤ s.fGram ∧ s.fGram ≤ p.fGram
def OkS (p:Pallet) (l:List Shelf):Prop:=∀ s ∈ l,(1 ≤ s.fD ∧ s.fD ≤ p.fD) ∧ (1 ≤ s.fH ∧ s.fH ≤ p.fH) ∧ (1 ≤ s.fGram ∧ s.fGram ≤ p.fGram)
theorem shA_at {p:Pallet} {l:List Shelf} (h:OkS p l) {i:Int} (hi:0 ≤ i ∧ i < l.length):ix l i = some (shA l i) ∧ (1 ≤ (shA l i).fD ∧ (shA l i).fD ≤ p.fD) ∧ (1 ≤ (shA l i).fH ∧ (shA l i).fH ≤ p.fH) ∧ (1 ≤ (shA l i).fGram ∧ (shA l i).fGram ≤ p.fGram) ∧ shA l i ∈ l:=by
 obtain ⟨x,hx⟩:=ix_in (l:=l) hi.1 hi.2
 have e:shA l i = x:=by unfold shA; rw [hx]; rfl
 rw [e]
 exact ⟨hx,(h x (ix_mem hx)).1,(h x (ix_mem hx)).2.1,(h x (ix_mem hx)).2.2,ix_mem hx⟩
theorem lyS_all {p:Pallet} {l:List Shelf} (hb:OkS p l) {out:List Layer} {i:Int} (hi:0 ≤ i ∧ i < l.length) (h:∀ s ∈ out,LyI p l.length s):∀ s ∈ lyS p l out i,LyI p l.length s:=by
 obtain ⟨_,b1,b2,b3,_⟩:=shA_at hb hi
 refine nxG_all h (fun s hs hf=>?_) ⟨by simp [lyAdd],fun j hj=>?_,?_,?_,?_⟩
 · unfold lyFit at hf
   simp only [Bool.and_eq_true,decide_eq_true_eq] at hf
   obtain ⟨s1,s2,s4,s5,s6⟩:=hs
   have m2:=mxI_ge s.fH (shA l i).fH
   refine ⟨by simp [lyAdd],fun j hj=>?_,?_,?_,?_⟩
   · simp only [lyAdd,List.mem_append,List.mem_singleton] at hj
     rcases hj with hj | rfl
     · exact s2 j hj
     · exact hi
   · simp only [lyAdd]; omega
   · simp only [lyAdd]; omega
   · simp only [lyAdd]; omega
 · simp only [lyAdd,zLy,List.nil_append,List.mem_singleton] at hj
   rw [hj]; exact hi
 · simp only [lyAdd,zLy]; omega
 · have:=mxI_ge 0 (shA l i).fH
   simp only [lyAdd,zLy]; omega
 · simp only [lyAdd,zLy]; omega
theorem lyF_all {p:Pallet} {l:List Shelf} (hb:OkS p l):∀ (is:List Int) (out:List Layer),(∀ i ∈ is,0 ≤ i ∧ i < l.length) → (∀ s ∈ out,LyI p l.length s) → (∀ s ∈ is.foldl (lyS p l) out,LyI p l.length s) ∧ ((is.foldl (lyS p l) out).map (·.fShelves)).flatten = (out.map (·.fShelves)).flatten ++ is ∧ (is.foldl (lyS p l) out).length ≤ out.length + is.length
 | [],out,_,h=>⟨h,by simp,by simp⟩
 | i :: is,out,hi,h=>by
  rw [List.foldl_cons]
  obtain ⟨h1,h2,h3⟩:=lyF_all hb is (lyS p l out i) (fun j hj=>hi j (by simp [hj])) (lyS_all hb (hi i (by simp)) h)
  have h4:((lyS p l out i).map (·.fShelves)).flatten = (out.map (·.fShelves)).flatten ++ [i]:=nxG_flat (fun s=>rfl) rfl
  have h5:(lyS p l out i).length ≤ out.length + 1:=nxG_len _ _ _ _
  refine ⟨h1,by rw [h2,h4]; simp,by simp; omega⟩
theorem lyM_all {p:Pallet} {l:List Shelf} (hb:OkS p l):(∀ s ∈ lyM p l,LyI p l.length s) ∧ ((lyM p l).map (·.fShelves)).flatten = ints 0 l.length ∧ (lyM p l).length ≤ l.length:=by
 unfold lyM
 obtain ⟨h1,h2,h3⟩:=lyF_all hb (ints 0 l.length) [] (fun i hi=>by have:=ints_mem.1 hi; omega) (by simp)
 refine ⟨h1,by simpa using h2,?_⟩
 rw [ints_len] at h3
 simpa using h3
theorem okS_b {p:Pallet} {l:List Shelf} (h:OkS p l):(l.all fun s=>okL p s.fD s.fH s.fGram) = true:=by
 refine List.all_eq_true.2 fun s hs=>?_
 unfold okL
 simp only [Bool.and_eq_true,inb_iff]
 exact ⟨(h s hs).1,(h s hs).2.1,(h s hs).2.2⟩
def lyA (l:List Layer) (i:Int):Layer:=(ix l i).getD zLy
def zLd:Load:=⟨[],0,0⟩
def ldAdd (x:Load) (i:Int) (s:Layer):Load:=⟨x.fLayers ++ [i],x.fH + s.fH,x.fGram + s.fGram⟩
def ldFit (p:Pallet) (s:Layer) (x:Load):Bool:=decide (x.fH + s.fH ≤ p.fH) && decide (x.fGram + s.fGram ≤ p.fGram)
def ldS (p:Pallet) (l:List Layer) (out:List Load) (i:Int):List Load:=nxG (ldFit p (lyA l i)) (fun s=>ldAdd s i (lyA l i)) zLd out
def ldM (p:Pallet) (l:List Layer):List Load:=(ints 0 l.length).foldl (ldS p l) []
structure LdI (p:Pallet) (n:Nat) (s:Load):Prop where
 ne:s.fLayers ≠ []
 inn:∀ i ∈ s.fLayers,0 ≤ i ∧ i < n
 h:1 ≤ s.fH ∧ s.fH ≤ p.fH
 g:1 ≤ s.fGram ∧ s.fGram ≤ p.fGram
def OkY (p:Pallet) (l:List Layer):Prop:=∀ s ∈ l,(1 ≤ s.fD ∧ s.fD ≤ p.fD) ∧ (1 ≤ s.fH ∧ s.fH ≤ p.fH) ∧ (1 ≤ s.fGram ∧ s.fGram ≤ p.fGram)
theorem lyA_at {p:Pallet} {l:List Layer} (h:OkY p l) {i:Int} (hi:0 ≤ i ∧ i < l.length):ix l i = some (lyA l i) ∧ (1 ≤ (lyA l i).fD ∧ (lyA l i).fD ≤ p.fD) ∧ (1 ≤ (lyA l i).fH ∧ (lyA l i).fH ≤ p.fH) ∧ (1 ≤ (lyA l i).fGram ∧ (lyA l i).fGram ≤ p.fGram) ∧ lyA l i ∈ l:=by
 obtain ⟨x,hx⟩:=ix_in (l:=l) hi.1 hi.2
 have e:lyA l i = x:=by unfold lyA; rw [hx]; rfl
 rw [e]
 exact ⟨hx,(h x (ix_mem hx)).1,(h x (ix_mem hx)).2.1,(h x (ix_mem hx)).2.2,ix_mem hx⟩
theorem ldS_all {p:Pallet} {l:List Layer} (hb:OkY p l) {out:List Load} {i:Int} (hi:0 ≤ i ∧ i < l.length) (h:∀ s ∈ out,LdI p l.length s):∀ s ∈ ldS p l out i,LdI p l.length s:=by
 obtain ⟨_,b1,b2,b3,_⟩:=lyA_at hb hi
 refine nxG_all h (fun s hs hf=>?_) ⟨by simp [ldAdd],fun j hj=>?_,?_,?_⟩
 · unfold ldFit at hf
   simp only [Bool.and_eq_true,decide_eq_true_eq] at hf
   obtain ⟨s1,s2,s5,s6⟩:=hs
   refine ⟨by simp [ldAdd],fun j hj=>?_,?_,?_⟩
   · simp only [ldAdd,List.mem_append,List.mem_singleton] at hj
     rcases hj with hj | rfl
     · exact s2 j hj
     · exact hi
   · simp only [ldAdd]; omega
   · simp only [ldAdd]; omega
 · simp only [ldAdd,zLd,List.nil_append,List.mem_singleton] at hj
   rw [hj]; exact hi
 · simp only [ldAdd,zLd]; omega
 · simp only [ldAdd,zLd]; omega
theorem ldF_all {p:Pallet} {l:List Layer} (hb:OkY p l):∀ (is:List Int) (out:List Load),(∀ i ∈ is,0 ≤ i ∧ i < l.length) → (∀ s ∈ out,LdI p l.length s) → (∀ s ∈ is.foldl (ldS p l) out,LdI p l.length s) ∧ ((is.foldl (ldS p l) out).map (·.fLayers)).flatten = (out.map (·.fLayers)).flatten ++ is ∧ (is.foldl (ldS p l) out).length ≤ out.length + is.length
 | [],out,_,h=>⟨h,by simp,by simp⟩
 | i :: is,out,hi,h=>by
  rw [List.foldl_cons]
  obtain ⟨h1,h2,h3⟩:=ldF_all hb is (ldS p l out i) (fun j hj=>hi j (by simp [hj])) (ldS_all hb (hi i (by simp)) h)
  have h4:((ldS p l out i).map (·.fLayers)).flatten = (out.map (·.fLayers)).flatten ++ [i]:=nxG_flat (fun s=>rfl) rfl
  have h5:(ldS p l out i).length ≤ out.length + 1:=nxG_len _ _ _ _
  refine ⟨h1,by rw [h2,h4]; simp,by simp; omega⟩
theorem ldM_all {p:Pallet} {l:List Layer} (hb:OkY p l):(∀ s ∈ ldM p l,LdI p l.length s) ∧ ((ldM p l).map (·.fLayers)).flatten = ints 0 l.length ∧ (ldM p l).length ≤ l.length:=by
 unfold ldM
 obtain ⟨h1,h2,h3⟩:=ldF_all hb (ints 0 l.length) [] (fun i hi=>by have:=ints_mem.1 hi; omega) (by simp)
 refine ⟨h1,by simpa using h2,?_⟩
 rw [ints_len] at h3
 simpa using h3
theorem okY_b {p:Pallet} {l:List Layer} (h:OkY p l):(l.all fun s=>okL p s.fD s.fH s.fGram) = true:=by
 refine List.all_eq_true.2 fun s hs=>?_
 unfold okL
 simp only [Bool.and_eq_true,inb_iff]
 exact ⟨(h s hs).1,(h s hs).2.1,(h s hs).2.2⟩
end Go.Proofs.YtpcmapfabndggaaGreat
/- The spots of boxes, by spec. -/
namespace Go.Proofs.YtpcmapfabndggaaGreat
open Go
open Enc (rd ow)
open Arg (argv)
open Ret (retv)
open Wf (wf)
def zSp:Spot:=⟨0,0,0,0⟩
def ldA (l:List Load) (i:Int):Load:=(ix l i).getD zLd
def spB (l:List Box) (o y z:Int) (is:List Int) (s:List Spot × Int):List Spot × Int:=is.foldl (fun s b=>(setx s.1 b ⟨o,s.2,y,z⟩,s.2 + (bxA l b).fW)) s
def spS (l:List Box) (sh:List Shelf) (o z:Int) (js:List Int) (s:List Spot × Int):List Spot × Int:=js.foldl (fun s j=>((spB l o s.2 z (shA sh j).fList (s.1,0)).1,s.2 + (shA sh j).fD)) s
def spY (l:List Box) (sh:List Shelf) (ly:List Layer) (o:Int) (is:List Int) (s:List Spot × Int):List Spot × Int:=is.foldl (fun s i=>((spS l sh o s.2 (lyA ly i).fShelves (s.1,0)).1,s.2 + (lyA ly i).fH)) s
def spO (l:List Box) (sh:List Shelf) (ly:List Layer) (ld:List Load) (os:List Int) (out:List Spot):List Spot:=os.foldl (fun out o=>(spY l sh ly o (ldA ld o).fLayers (out,0)).1) out
def spM (p:Pallet) (l:List Box):List Spot:=bif bosB p l then spO l (shM p l) (lyM p (shM p l)) (ldM p (lyM p (shM p l))) (ints 0 (ldM p (lyM p (shM p l))).length) (List.replicate l.length zSp) else []
theorem setx_len' {α:Type} (l:List α) (i:Int) (y:α):(setx l i y).length = l.length:=by simp [setx]
theorem spB_len (l:List Box) (o y z:Int):∀ (is:List Int) (s:List Spot × Int),(spB l o y z is s).1.length = s.1.length
 | [],_=>rfl
 | i :: is,s=>by
  have:=spB_len l o y z is (setx s.1 i ⟨o,s.2,y,z⟩,s.2 + (bxA l i).fW)
  rw [setx_len'] at this
  exact this
theorem spS_len (l:List Box) (sh:List Shelf) (o z:Int):∀ (is:List Int) (s:List Spot × Int),(spS l sh o z is s).1.length = s.1.length
 | [],_=>rfl
 | i :: is,s=>by
  have:=spS_len l sh o z is ((spB l o s.2 z (shA sh i).fList (s.1,0)).1,s.2 + (shA sh i).fD)
  rw [spB_len] at this
  exact this
theorem spY_len (l:List Box) (sh:List Shelf) (ly:List Layer) (o:Int):∀ (is:List Int) (s:List Spot × Int),(spY l sh ly o is s).1.length = s.1.length
 | [],_=>rfl
 | i :: is,s=>by
  have:=spY_len l sh ly o is ((spS l sh o s.2 (lyA ly i).fShelves (s.1,0)).1,s.2 + (lyA ly i).fH)
  rw [spS_len] at this
  exact this
theorem spO_len (l:List Box) (sh:List Shelf) (ly:List Layer) (ld:List Load):∀ (os:List Int) (out:List Spot),(spO l sh ly ld os out).length = out.length
 | [],_=>rfl
 | o :: os,out=>by
  have:=spO_len l sh ly ld os (spY l sh ly o (ldA ld o).fLayers (out,0)).1
  rw [spY_len] at this
  exact this
theorem spM_len {p:Pallet} {l:List Box} (h:bosB p l = true):(spM p l).length = l.length:=by
 unfold spM
 rw [h,cond_true,spO_len,List.length_replicate]
theorem okS_sh {p:Pallet} {l:List Box} (h:bosB p l = true):OkS p (shM p l):=fun s hs=>by
 have:=(shM_all h).1 s hs
 exact ⟨this.d,this.h,this.g⟩
theorem okY_ly {p:Pallet} {l:List Shelf} (h:OkS p l):OkY p (lyM p l):=fun s hs=>by
 have:=(lyM_all h).1 s hs
 exact ⟨this.d,this.h,this.g⟩
def PalI (n:Int) (out:List Spot):Prop:=∀ s ∈ out,0 ≤ s.fPallet ∧ s.fPallet ≤ n
theorem setx_pal {n:Int} {out:List Spot} {i:Int} {s:Spot} (h:PalI n out) (hs:0 ≤ s.fPallet ∧ s.fPallet ≤ n):PalI n (setx out i s):=by
 intro t ht
 unfold setx at ht
 rcases List.mem_or_eq_of_mem_set ht with ht | rfl
 · exact h t ht
 · exact hs
theorem spB_pal {n:Int} (l:List Box) (o y z:Int) (ho:0 ≤ o ∧ o ≤ n):∀ (is:List Int) (s:List Spot × Int),PalI n s.1 → PalI n (spB l o y z is s).1
 | [],_,h=>h
 | i :: is,s,h=>spB_pal l o y z ho is (setx s.1 i ⟨o,s.2,y,z⟩,s.2 + (bxA l i).fW) (setx_pal h ho)
theorem spS_pal {n:Int} (l:List Box) (sh:List Shelf) (o z:Int) (ho:0 ≤ o ∧ o ≤ n):∀ (is:List Int) (s:List Spot × Int),PalI n s.1 → PalI n (spS l sh o z is s).1
 | [],_,h=>h
 | i :: is,s,h=>spS_pal l sh o z ho is ((spB l o s.2 z (shA sh i).fList (s.1,0)).1,s.2 + (shA sh i).fD) (spB_pal l o s.2 z ho _ (s.1,0) h)
theorem spY_pal {n:Int} (l:List Box) (sh:List Shelf) (ly:List Layer) (o:Int) (ho:0 ≤ o ∧ o ≤ n):∀ (is:List Int) (s:List Spot × Int),PalI n s.1 → PalI n (spY l sh ly o is s).1
 | [],_,h=>h
 | i :: is,s,h=>spY_pal l sh ly o ho is ((spS l sh o s.2 (lyA ly i).fShelves (s.1,0)).1,s.2 + (lyA ly i).fH) (spS_pal l sh o s.2 ho _ (s.1,0) h)
theorem spO_pal {n:Int} (l:List Box) (sh:List Shelf) (ly:List Layer) (ld:List Load):∀ (os:List Int) (out:List Spot),(∀ o ∈ os,0 ≤ o ∧ o ≤ n) → PalI n out → PalI n (spO l sh ly ld os out)
 | [],_,_,h=>h
 | o :: os,out,ho,h=>spO_pal l sh ly ld os (spY l sh ly o (ldA ld o).fLayers (out,0)).1 (fun q hq=>ho q (by simp [hq])) (spY_pal l sh ly o (ho o (by simp)) _ (out,0) h)
theorem sp_pal {p:Pallet} {l:List Box} (hl:l.length ≤ 1000):∀ s ∈ spM p l,0 ≤ s.fPallet ∧ s.fPallet ≤ 1000:=by
 unfold spM
 cases hb:bosB p l
 · simp
 · have a3:=(shM_all hb).2.2
   have hS:=okS_sh hb
   have y3:=(lyM_all hS).2.2
   have d3:=(ldM_all (okY_ly hS)).2.2
   rw [cond_true]
   refine spO_pal l _ _ _ _ _ (fun o ho=>?_) fun s hs=>?_
   · have:=ints_mem.1 ho; omega
   · rw [(List.mem_replicate.1 hs).2]; simp [zSp]
end Go.Proofs.YtpcmapfabndggaaGreat
/- The units of a group, by spec and by impl. -/
namespace Go.Proofs.YtpcmapfabndggaaGreat
open Go
open Enc (rd ow)
open Arg (argv)
open Ret (retv)
open Wf (wf)
def hasG (r:Request) (k:Int):Bool:=inb k 0 (((grpM r).length:Int) - 1)
theorem cls_of_grp {r:Request} {k:Int} (h:hasG r k = true):clsM r = 0:=by
 unfold hasG at h
 rw [inb_iff] at h
 by_cases hc:clsM r = 0
 · exact hc
 · have:grpM r = []:=by
     unfold grpM prsM
     rw [show (clsM r == 0) = false by simp [hc]]
     rfl
   rw [this] at h
   simp at h
   omega
theorem ofG_step (r:Request) (g:List Int) (u i:Int) (us:List Int) {x:Item} (hx:ix r.fItems i = some x):ofG r g u (i :: us) = bif g.contains x.fClass then u :: ofG r g (u + 1) us else ofG r g (u + 1) us:=by
 rw [ofG,hx]
theorem i_uof {fu:Nat} {r:Request} (h:Sm fu r) (k:Int):d_impl_UnitsOf fu r k = some (uofM r k):=by
 have hfu:=h.fu
 unfold d_impl_UnitsOf uofM
 rw [i_grp h,ob_some,w64_grp,i_in,ob_some]
 cases hg:inb k 0 (((grpM r).length:Int) - 1)
 · rw [Bool.not_false,cond_true]
   have:ix (grpM r) k = none:=by
    have hk:¬ (0 ≤ k ∧ k ≤ ((grpM r).length:Int) - 1):=by intro hk; rw [(inb_iff).2 hk] at hg; cases hg
    unfold ix
    by_cases h0:0 ≤ k
    · rw [if_pos h0,List.getElem?_eq_none (by omega)]
    · rw [if_neg h0]
   rw [this]
 · have hc:=cls_of_grp hg
   rw [inb_iff] at hg
   obtain ⟨j,rfl⟩:∃ j:Nat,k = j:=⟨k.toNat,by omega⟩
   have hj:j < (grpM r).length:=by omega
   have hgl:=(grpM_ok r).2 _ (List.getElem_mem hj)
   rw [Bool.not_true,cond_false,i_unt h,ob_some,ix_i hj]
   have hlen:=untM_len r
   have:=lpPI (untM r) (fun n out i=>d_impl_UnitsOf_L1 fu r (j:Int) (grpM r) (untM r) n out i) (fun pre xs out=>some (out ++ ofG r (grpM r)[j] (pre.length:Int) xs)) (fun pre xs out=>out.length + xs.length ≤ 12) (by omega) ?_ ?_ fu [] (by simpa using hlen) (by omega)
   · simpa using this
   · intro n out pre i xs hl hx hd hI ih
     simp only [List.length_cons] at hI
     have hi:i ∈ untM r:=by rw [hl]; simp
     have hi2:=untM_mem hi
     obtain ⟨q,rfl⟩:∃ q:Nat,i = q:=⟨i.toNat,by omega⟩
     have hq:q < r.fItems.length:=by omega
     simp only [d_impl_UnitsOf_L1.eq_2]
     unfold d_impl_UnitsOf_L1_B d_impl_UnitsOf_J1
     simp only [hd,cond_true,hx,ob_some,ix_i hj,ix_i hq,i_has (show (grpM r)[j].length ≤ 1048576 by omega) (show (grpM r)[j].length < fu by omega)]
     rw [ofG_step r _ _ _ _ (ix_i hq)]
     cases (grpM r)[j].contains r.fItems[q].fClass
     · rw [cond_false,cond_false,ih _ (by omega)]
       simp
     · rw [cond_true,cond_true,ap1 (by simp; omega),ob_some,ih _ (by simp; omega)]
       simp
   · intro n out hd hI
     simp only [d_impl_UnitsOf_L1.eq_2]
     unfold d_impl_UnitsOf_L1_B
     simp only [hd,cond_false]
     simp [ofG]
end Go.Proofs.YtpcmapfabndggaaGreat
/- CartonsOf of spec and of impl. -/
namespace Go.Proofs.YtpcmapfabndggaaGreat
open Go
open Enc (rd ow)
open Arg (argv)
open Ret (retv)
open Wf (wf)
def srtI (l:List Int):List Int:=l.mergeSort fun x y=>decide (x ≤ y)
theorem srtI_perm (l:List Int):(srtI l).Perm l:=List.mergeSort_perm l _
theorem srtI_len (l:List Int):(srtI l).length = l.length:=(srtI_perm l).length_eq
def crtM (r:Request) (k:Int) (l:List Int):Carton:=⟨(chpM r l).1.fId,k,srtI l⟩
def crtK (r:Request) (k:Int):List Carton:=(pwM r (uofM r k)).map (crtM r k)
def crtF (r:Request):List Int → List Carton
 | []=>[]
 | k :: ks=>crtK r k ++ crtF r ks
def crtL (r:Request):List Carton:=crtF r (ints 0 (grpM r).length)
theorem crtK_len {r:Request} (k:Int):(crtK r k).length ≤ 12:=by
 have:=(pwM_ok (r:=r) (uofM_len r k)).1
 simp [crtK]; omega
theorem i_crt {fu:Nat} {r:Request} (h:Sm fu r):d_impl_CartonsOf fu r = some (crtL r):=by
 have hfu:=h.fu
 have hg:=(grpM_ok r).1
 unfold d_impl_CartonsOf crtL
 rw [i_grp h,ob_some]
 have:=lpNI ((grpM r).length:Int) (fun n out i=>d_impl_CartonsOf_L2 fu r (grpM r) n out i) (fun xs out=>some (out ++ crtF r xs)) (fun xs out=>out.length + 12 * xs.length ≤ 48) (by omega) ?_ ?_ (grpM r).length fu [] 0 (by omega) (by omega) (by omega) (by simp [ints_len]; omega)
 · simpa using this
 · intro n out k ks h0 h1 hd hI ih
   simp only [List.length_cons] at hI
   have hul:=uofM_len r k
   have hpo:=pwM_ok (r:=r) hul
   simp only [d_impl_CartonsOf_L2.eq_2]
   unfold d_impl_CartonsOf_L2_B
   rw [hd,cond_true,i_uof h,ob_some,i_way h _ (by omega),ob_some]
   have key:=lpI (pwM r (uofM r k)) (fun m o i=>d_impl_CartonsOf_L1 fu (d_impl_CartonsOf_L2 fu r (grpM r) n) r k (pwM r (uofM r k)) m o i) (fun xs o=>d_impl_CartonsOf_L2 fu r (grpM r) n (o ++ xs.map (crtM r k)) (w64 (k + 1))) (fun xs o=>o.length + xs.length ≤ 48 ∧ ∀ l ∈ xs,l.length ≤ 12) (by have:=hpo.1; omega) ?_ ?_ fu out ⟨by have:=hpo.1; omega,hpo.2⟩ (by have:=hpo.1; omega)
   · rw [key,ih _ (by have:=hpo.1; simp; omega)]
     simp [crtF,crtK]
   · intro m o i l xs hx hd hI ih
     obtain ⟨h2,h3⟩:=hI
     simp only [List.length_cons] at h2
     have hl:=h3 l (by simp)
     simp only [d_impl_CartonsOf_L1.eq_2]
     unfold d_impl_CartonsOf_L1_B
     rw [hd,cond_true,hx,ob_some,i_cheap h l (by omega),ob_some,show d_slices_Sort_int_int fu l = some (srtI l) from sortI_some (by omega),ob_some,ap1 (by simp; omega),ob_some,ih _ ⟨by simp; omega,fun y hy=>h3 y (by simp [hy])⟩]
     simp [crtM]
   · intro m o i hd _
     simp only [d_impl_CartonsOf_L1.eq_2]
     unfold d_impl_CartonsOf_L1_B
     rw [hd,cond_false]; simp
 · intro n out k hd _
   simp only [d_impl_CartonsOf_L2.eq_2]
   unfold d_impl_CartonsOf_L2_B
   rw [hd,cond_false]; simp [crtF]
theorem crtF_len (r:Request):∀ (ks:List Int),(crtF r ks).length ≤ 12 * ks.length
 | []=>by simp [crtF]
 | k :: ks=>by
  have:=crtF_len r ks
  have:=crtK_len (r:=r) k
  simp [crtF]; omega
theorem crtL_len (r:Request):(crtL r).length ≤ 48:=by
 have:=crtF_len r (ints 0 (grpM r).length)
 have hg:=(grpM_ok r).1
 rw [ints_len] at this
 unfold crtL
 omega
theorem crtF_mem {r:Request} {c:Carton}:∀ {ks:List Int},c ∈ crtF r ks ↔ ∃ k ∈ ks,∃ l ∈ pwM r (uofM r k),c = crtM r k l
 | []=>by simp [crtF]
 | k :: ks=>by
  simp only [crtF,List.mem_append,crtF_mem (ks:=ks),List.mem_cons,crtK,List.mem_map]
  constructor
  · rintro (⟨l,hl,rfl⟩ | ⟨k',hk,l,hl,e⟩)
    · exact ⟨k,.inl rfl,l,hl,rfl⟩
    · exact ⟨k',.inr hk,l,hl,e⟩
  · rintro ⟨k',rfl | hk,l,hl,rfl⟩
    · exact .inl ⟨l,hl,rfl⟩
    · exact .inr ⟨k',hk,l,hl,rfl⟩
theorem crt_units {r:Request} {c:Carton} (h:c ∈ crtL r):c.fUnits.length ≤ 12:=by
 obtain ⟨k,_,l,hl,rfl⟩:=crtF_mem.1 h
 have:=(pwM_ok (r:=r) (uofM_len r k)).2 l hl
 simp only [crtM,srtI_len]
 omega
end Go.Proofs.YtpcmapfabndggaaGreat
/- What the ways of packing keep: every unit once, every carton within the master's. -/
namespace Go.Proofs.YtpcmapfabndggaaGreat
open Go
open Enc (rd ow)
open Arg (argv)
open Ret (retv)
open Wf (wf)
def prdI:List Int → Int
 | []=>1
 | x :: xs=>x * prdI xs
theorem prd_perm {a b:List Int} (h:a.Perm b):prdI a = prdI b:=by
 induction h with
 | nil=>rfl
 | cons x _ ih=>simp only [prdI,ih]
 | swap x y l=>simp only [prdI,← Int.mul_assoc]; rw [Int.mul_comm x y]
 | trans _ _ h1 h2=>rw [h1,h2]
theorem sid_prd (a b c:Int):(sid a b c).1 * ((sid a b c).2.1 * (sid a b c).2.2) = a * b * c:=by
 have h:=sortI3 a b c
 unfold sortI at h
 simp only [List.length_cons,List.length_nil] at h
 rw [if_pos (by omega)] at h
 have hp:=List.mergeSort_perm [a,b,c] fun x y=>decide (x ≤ y)
 rw [Option.some.inj h] at hp
 have:=prd_perm hp
 simp only [prdI,Int.mul_one] at this
 rw [this,Int.mul_assoc]
theorem sid_ge {a b c m:Int} (ha:m ≤ a) (hb:m ≤ b) (hc:m ≤ c):m ≤ (sid a b c).1:=by
 unfold sid
 simp only
 split <;> split <;> omega
theorem fit_vol {x:Item} {t:Typ} (hx:itmB x = true) (ht:typB t = true) (h:fitB x t = true):volI x ≤ volT t ∧ x.fGram ≤ t.fGram:=by
 simp only [itmB,Bool.and_eq_true,inb_iff] at hx
 simp only [typB,Bool.and_eq_true,inb_iff] at ht
 simp only [fitB,Bool.and_eq_true,decide_eq_true_eq] at h
 obtain ⟨⟨⟨h1,h2⟩,h3⟩,h4⟩:=h
 refine ⟨?_,h4⟩
 have e1:volI x = x.fW * x.fH * x.fD:=by
  unfold volI volB
  rw [show (inb x.fW 0 2000 && (inb x.fH 0 2000 && inb x.fD 0 2000)) = true by simp; omega,cond_true]
 have e2:volT t = t.fW * t.fH * t.fD:=by
  unfold volT volB
  rw [show (inb t.fW 0 2000 && (inb t.fH 0 2000 && inb t.fD 0 2000)) = true by simp; omega,cond_true]
 rw [e1,e2,← sid_prd x.fW x.fH x.fD,← sid_prd t.fW t.fH t.fD]
 have p1:1 ≤ (sid x.fW x.fH x.fD).1:=sid_ge (by omega) (by omega) (by omega)
 have s1:=sid_sorted x.fW x.fH x.fD
 have s2:=sid_sorted t.fW t.fH t.fD
 refine Int.mul_le_mul h1 ?_ (Int.mul_nonneg (by omega) (by omega)) (by omega)
 exact Int.mul_le_mul h2 h3 (by omega) (by omega)
theorem itmZ_mem {r:Request} {u:Int} (h:0 ≤ u ∧ u < (untM r).length):itmZ r u ∈ r.fItems:=(itm_cls (itmZ_in h)).2
theorem cls_in {r:Request} {u:Int} (h:0 ≤ u ∧ u < (untM r).length):clsM r = 0:=(itm_cls (itmZ_in h)).1
theorem mas_typ {r:Request} (hc:clsM r = 0):typM r r.fMaster = some (masM r) ∧ masM r ∈ r.fTypes ∧ typB (masM r) = true:=by
 have h:=(clsM_zero hc).2.1
 unfold namB at h
 simp only [Bool.and_eq_true] at h
 obtain ⟨t,ht⟩:=Option.isSome_iff_exists.1 h.1.2
 have e:masM r = t:=by unfold masM; rw [ht]; rfl
 have hm:t ∈ r.fTypes:=List.mem_of_find?_eq_some ht
 rw [e]
 exact ⟨ht,hm,bou_types (clsM_zero hc).1 t hm⟩
theorem vol_one {r:Request} {u:Int} (h:0 ≤ u ∧ u < (untM r).length):volM r [u] = volI (itmZ r u) ∧ grmM r [u] = (itmZ r u).fGram:=by
 unfold volM grmM itsM
 simp [List.filterMap_cons,itmZ_in h]
theorem one_wit {r:Request} {u:Int} (h:0 ≤ u ∧ u < (untM r).length):witB r [u] (masM r) = true:=by
 have hc:=cls_in h
 have hz:=clsM_zero hc
 have hm:=itmZ_mem h
 obtain ⟨h1,h2⟩:=fit_vol ((bou_items hz.1).1 _ hm) (mas_typ hc).2.2 (hz.2.2.2.1 _ hm)
 unfold witB
 rw [(vol_one h).1,(vol_one h).2,Bool.and_eq_true,decide_eq_true_iff,decide_eq_true_iff]
 exact ⟨h1,h2⟩
def Qc (r:Request) (us:List Int) (l:List Int):Prop:=l ≠ [] ∧ (∀ u ∈ l,u ∈ us) ∧ witB r l (masM r) = true
theorem putF_q {r:Request} {us:List Int} {out:List (List Int)} {u:Int} (h:∀ l ∈ out,Qc r us l) (hu:u ∈ us) (hr:0 ≤ u ∧ u < (untM r).length):∀ l ∈ fitF r out u,Qc r us l:=by
 have hn:Qc r us [u]:=⟨by simp,fun v hv=>by rw [List.mem_singleton.1 hv]; exact hu,one_wit hr⟩
 intro l hl
 unfold fitF putF at hl
 split at hl
 · rename_i i hi
   obtain ⟨x,hx,hg⟩:=fstI_lt hi
   rw [hx] at hl
   rcases List.mem_or_eq_of_mem_set hl with hl | rfl
   · exact h l hl
   · have hq:=h x (List.mem_of_getElem? hx)
     refine ⟨by simp,fun v hv=>?_,hg⟩
     rcases List.mem_append.1 hv with hv | hv
     · exact hq.2.1 v hv
     · rw [List.mem_singleton.1 hv]; exact hu
 · rcases List.mem_append.1 hl with hl | hl
   · exact h l hl
   · rw [List.mem_singleton.1 hl]; exact hn
theorem nxtF_q {r:Request} {us:List Int} {out:List (List Int)} {u:Int} (h:∀ l ∈ out,Qc r us l) (hu:u ∈ us) (hr:0 ≤ u ∧ u < (untM r).length):∀ l ∈ nxtF r out u,Qc r us l:=by
 have hn:Qc r us [u]:=⟨by simp,fun v hv=>by rw [List.mem_singleton.1 hv]; exact hu,one_wit hr⟩
 intro l hl
 cases hlast:out.getLast? with
 | none =>
  unfold nxtF at hl
  rw [hlast] at hl
  rw [List.mem_singleton.1 hl]; exact hn
 | some x =>
  rw [nxtF_some u hlast] at hl
  have hq:=h x (List.mem_of_getLast? hlast)
  cases hg:romB r u x
  · rw [hg,cond_false] at hl
    rcases List.mem_append.1 hl with hl | hl
    · exact h l hl
    · rw [List.mem_singleton.1 hl]; exact hn
  · rw [hg,cond_true] at hl
    rcases List.mem_or_eq_of_mem_set hl with hl | rfl
    · exact h l hl
    · refine ⟨by simp,fun v hv=>?_,hg⟩
      rcases List.mem_append.1 hv with hv | hv
      · exact hq.2.1 v hv
      · rw [List.mem_singleton.1 hv]; exact hu
theorem fold_q {r:Request} {us:List Int} {F:List (List Int) → Int → List (List Int)} (hF:∀ out u,(∀ l ∈ out,Qc r us l) → u ∈ us → (0 ≤ u ∧ u < (untM r).length) → ∀ l ∈ F out u,Qc r us l):∀ (vs:List Int) (out:List (List Int)),(∀ u ∈ vs,u ∈ us ∧ 0 ≤ u ∧ u < (untM r).length) → (∀ l ∈ out,Qc r us l) → ∀ l ∈ vs.foldl F out,Qc r us l
 | [],out,_,h=>h
 | v :: vs,out,hv,h=>by
  rw [List.foldl_cons]
  have h1:=hv v (by simp)
  exact fold_q hF vs _ (fun u hu=>hv u (by simp [hu])) (hF out v h h1.1 h1.2)
theorem ordM_perm (r:Request) (us:List Int):(ordM r us).Perm us:=by
 unfold ordM
 refine ((srt_perm _ _).map _).trans ?_
 have key:∀ (xs pre:List Int),us = pre ++ xs → (ints pre.length xs.length).map (fun p=>(ix us p).getD 0) = xs:=by
  intro xs
  induction xs with
  | nil=>intro pre _; rfl
  | cons x xs ih =>
   intro pre he
   have h1:=ih (pre ++ [x]) (by simp [he])
   simp only [List.length_append,List.length_singleton] at h1
   simp only [List.length_cons,ints,List.map_cons]
   rw [show ((pre.length:Int) + 1) = ((pre.length + 1:Nat):Int) by omega,h1]
   congr 1
   rw [ix_nat,he]
   simp
 have:=key us [] rfl
 simp only [List.length_nil] at this
 exact List.Perm.of_eq this
theorem pw_q {r:Request} {us:List Int}:∀ l ∈ pwM r us,Qc r (thrM r us) l:=by
 unfold pwM nfM ffM
 have ht:∀ u ∈ thrM r us,u ∈ thrM r us ∧ 0 ≤ u ∧ u < (untM r).length:=fun u hu=>⟨hu,thr_mem hu⟩
 cases r.fWay == 1
 · rw [cond_false]
   exact fold_q (fun out u h hu hr=>putF_q h hu hr) _ [] (fun u hu=>ht u ((ordM_perm r _).mem_iff.1 hu)) (by simp)
 · rw [cond_true]
   exact fold_q (fun out u h hu hr=>nxtF_q h hu hr) _ [] ht (by simp)
theorem putF_flat (g:List Int → Bool) (out:List (List Int)) (u:Int):(putF g out u).flatten.Perm (out.flatten ++ [u]):=by
 unfold putF
 split
 · rename_i i hi
   obtain ⟨x,hx,_⟩:=fstI_lt hi
   rw [hx]
   exact set_flat hx
 · simp
theorem nxtF_flat (r:Request) (out:List (List Int)) (u:Int):(nxtF r out u).flatten.Perm (out.flatten ++ [u]):=by
 cases hlast:out.getLast? with
 | none =>
  have:out = []:=List.getLast?_eq_none_iff.1 hlast
  subst this
  unfold nxtF
  simp
 | some x =>
  rw [nxtF_some u hlast]
  cases romB r u x
  · simp
  · rw [cond_true]
    rw [List.getLast?_eq_getElem?] at hlast
    exact set_flat hlast
theorem fold_flat {F:List (List Int) → Int → List (List Int)} (hF:∀ out u,(F out u).flatten.Perm (out.flatten ++ [u])):∀ (vs:List Int) (out:List (List Int)),(vs.foldl F out).flatten.Perm (out.flatten ++ vs)
 | [],out=>by simp
 | v :: vs,out=>by
  rw [List.foldl_cons]
  refine (fold_flat hF vs _).trans (((hF out v).append_right vs).trans ?_)
  simp
theorem pw_flat (r:Request) (us:List Int):(pwM r us).flatten.Perm (thrM r us):=by
 unfold pwM nfM ffM
 cases r.fWay == 1
 · rw [cond_false]
   refine (fold_flat (fun out u=>putF_flat _ out u) _ []).trans ?_
   simpa using ordM_perm r (thrM r us)
 · rw [cond_true]
   refine (fold_flat (fun out u=>nxtF_flat r out u) _ []).trans ?_
   simp
end Go.Proofs.YtpcmapfabndggaaGreat
/- What is marked: orders, lists of numbers, lists of lists. -/
namespace Go.Proofs.YtpcmapfabndggaaGreat
open Go
open Enc (rd ow)
open Arg (argv)
open Ret (retv)
open Wf (wf)
end Go.Proofs.YtpcmapfabndggaaGreat
/- Lists of cartons in the laws: their size, copies, equality, marks. -/
namespace Go.Proofs.YtpcmapfabndggaaGreat
open Go
open Enc (rd ow)
open Arg (argv)
open Ret (retv)
open Wf (wf)
def lensC:List Carton → Nat
 | []=>0
 | x :: xs=>x.fUnits.length + lensC xs
end Go.Proofs.YtpcmapfabndggaaGreat
/- Plans in the laws: their size, copies, equality, marks. -/
namespace Go.Proofs.YtpcmapfabndggaaGreat
open Go
open Enc (rd ow)
open Arg (argv)
open Ret (retv)
open Wf (wf)
structure Sp (x:Plan):Prop where
 cars:x.fCartons.length ≤ 1048576
 units:∀ c ∈ x.fCartons,c.fUnits.length ≤ 1048576
 all:lensC x.fCartons ≤ 1048576
 spots:x.fSpots.length ≤ 1048576
end Go.Proofs.YtpcmapfabndggaaGreat
/- PlanOk, by spec and by impl. -/
namespace Go.Proofs.YtpcmapfabndggaaGreat
open Go
open Enc (rd ow)
open Arg (argv)
open Ret (retv)
open Wf (wf)
def incP:List Int → List Int → Bool
 | _,[]=>true
 | pre,x :: xs=>inb x 0 999 && ((match pre.getLast? with | none=>true | some y=>decide (y < x)) && incP (pre ++ [x]) xs)
def uriB (l:List Int):Bool:=incP [] l && decide ((l.length:Int) ≤ 100)
def cokB (c:Carton):Bool:=inb c.fType 0 999 && (inb c.fGroup 0 3 && uriB c.fUnits)
def sokB (s:Spot):Bool:=inb s.fPallet 0 2000 && (inb s.fX 0 2000 && (inb s.fY 0 2000 && inb s.fZ 0 2000))
def pokB (x:Plan):Bool:=x.fSpots.length == x.fCartons.length && (decide ((x.fCartons.length:Int) ≤ 100) && (x.fCartons.zip x.fSpots).all fun p=>cokB p.1 && sokB p.2)
theorem last_ix {pre:List Int} {x:Int} {xs l:List Int} (hl:l.length ≤ 1048576) (e:l = pre ++ x :: xs):(pre.getLast? = none ∧ pre.length = 0) ∨ ∃ y,pre.getLast? = some y ∧ 0 < pre.length ∧ ix l (w64 ((pre.length:Int) - 1)) = some y:=by
 cases hp:pre.getLast? with
 | none=>exact .inl ⟨rfl,by simpa using List.getLast?_eq_none_iff.1 hp⟩
 | some y =>
  have hne:pre ≠ []:=fun e=>by subst e; simp at hp
  have hpos:0 < pre.length:=List.length_pos_iff.2 hne
  refine .inr ⟨y,rfl,hpos,?_⟩
  have h1:w64 ((pre.length:Int) - 1) = ((pre.length - 1:Nat):Int):=by
   have:pre.length ≤ l.length:=by rw [e]; simp
   rw [w64_id (by omega) (by omega)]; omega
  rw [h1,ix_nat,e,List.getElem?_append_left (by omega),← List.getLast?_eq_getElem?,hp]
theorem i_uri {fu:Nat} {l:List Int} (hl:l.length ≤ 1048576) (hf:l.length < fu):d_impl_unitsRight fu l = some (uriB l):=by
 unfold d_impl_unitsRight uriB
 have key:=lpP l (fun n (_:Unit) i=>d_impl_unitsRight_L1 fu l n i) (fun pre xs _=>some (incP pre xs && decide ((l.length:Int) ≤ 100))) (by omega) ?_ ?_ fu () hf
 · exact key
 · intro n _ pre x xs e hx hd ih
   have ih:=ih ()
   simp only [d_impl_unitsRight_L1.eq_2]
   unfold d_impl_unitsRight_L1_B d_impl_unitsRight_J1 incP
   rw [hd,cond_true,hx,ob_some,i_in,ob_some]
   cases inb x 0 999
   · rfl
   · rw [Bool.not_true,cond_false,Bool.true_and]
     rcases last_ix (hl:=hl) e with ⟨h1,h2⟩ | ⟨y,h1,h2,h3⟩
     · rw [h1,show decide ((pre.length:Int) > 0) = false from decide_eq_false (by omega),cond_false,ih]
       simp
     · rw [h1,show decide ((pre.length:Int) > 0) = true from decide_eq_true (by omega),cond_true,h3,ob_some,ih]
       by_cases hy:y < x
       · rw [show decide (y ≥ x) = false by simp; omega,cond_false]; simp [hy]
       · rw [show decide (y ≥ x) = true by simp; omega,cond_true]; simp [hy]
 · intro n _ hd
   simp only [d_impl_unitsRight_L1.eq_2]
   unfold d_impl_unitsRight_L1_B
   rw [hd,cond_false]
   simp [incP]
theorem zip_ix {α β:Type} {a:List α} {b:List β} {i:Int} {p:α × β} (h:ix (a.zip b) i = some p):ix a i = some p.1 ∧ ix b i = some p.2:=by
 obtain ⟨h0,_,h1⟩:=ix_some h
 have:=List.getElem?_zip_eq_some.1 h1
 unfold ix
 rw [if_pos h0,if_pos h0]
 exact this
theorem i_pok {fu:Nat} {x:Plan} (h:Sp x) (hf:1048577 ≤ fu):d_impl_PlanOk fu x = some (pokB x):=by
 have hs:=h.spots
 have hc:=h.cars
 unfold d_impl_PlanOk pokB
 cases he:x.fSpots.length == x.fCartons.length
 · have:((x.fSpots.length:Int) != (x.fCartons.length:Int)) = true:=by simp at he ⊢; omega
   rw [this]; rfl
 · have el:x.fSpots.length = x.fCartons.length:=by simpa using he
   have:((x.fSpots.length:Int) != (x.fCartons.length:Int)) = false:=by simp; omega
   rw [this,cond_false,Bool.true_and]
   by_cases h1:(x.fCartons.length:Int) ≤ 100
   · rw [show decide ((x.fCartons.length:Int) > 100) = false by simp; omega,cond_false,show decide ((x.fCartons.length:Int) ≤ 100) = true by simpa using h1,Bool.true_and]
     unfold d_impl_PlanOk_J2
     have hz:(x.fCartons.zip x.fSpots).length = x.fCartons.length:=by simp; omega
     have key:=lp (x.fCartons.zip x.fSpots) (fun n (_:Unit) i=>d_impl_PlanOk_L1 fu x n i) (fun l _=>some (l.all fun p=>cokB p.1 && sokB p.2)) (by omega) ?_ ?_ fu () (by omega)
     · exact key
     · intro n _ i p xs hx hd ih
       have ih:=ih ()
       obtain ⟨e1,e2⟩:=zip_ix hx
       have hu:=h.units p.1 (ix_mem e1)
       rw [hz] at hd
       simp only [d_impl_PlanOk_L1.eq_2]
       unfold d_impl_PlanOk_L1_B d_impl_PlanOk_J1
       simp only [hd,cond_true,e1,e2,ob_some,i_in,i_uri hu (show p.1.fUnits.length < fu by omega),i_place,ih,List.all_cons]
       unfold cokB sokB
       cases inb p.1.fType 0 999 <;> cases inb p.1.fGroup 0 3 <;> cases uriB p.1.fUnits <;> cases inb p.2.fPallet 0 2000 <;> cases inb p.2.fX 0 2000 <;> cases inb p.2.fY 0 2000 <;> cases inb p.2.fZ 0 2000 <;> rfl
     · intro n _ i hd
       rw [hz] at hd
       simp only [d_impl_PlanOk_L1.eq_2]
       unfold d_impl_PlanOk_L1_B
       simp [hd]
   · rw [show decide ((x.fCartons.length:Int) > 100) = true by simp; omega,cond_true,show decide ((x.fCartons.length:Int) ≤ 100) = false by simpa using h1,Bool.false_and]
end Go.Proofs.YtpcmapfabndggaaGreat
/- OnPallet and PalletGram, by spec and by impl. -/
namespace Go.Proofs.YtpcmapfabndggaaGreat
open Go
open Enc (rd ow)
open Arg (argv)
open Ret (retv)
open Wf (wf)
def onL (k:Int):Int → List Spot → List Int
 | _,[]=>[]
 | i,s :: l=>bif s.fPallet == k then i :: onL k (i + 1) l else onL k (i + 1) l
def onM (x:Plan) (k:Int):List Int:=bif x.fSpots.length == x.fCartons.length then onL k 0 x.fSpots else []
theorem onL_mem (k:Int):∀ (l:List Spot) (a i:Int),i ∈ onL k a l ↔ ∃ (j:Nat) (s:Spot),l[j]? = some s ∧ i = a + j ∧ s.fPallet = k
 | [],a,i=>by simp [onL]
 | s :: l,a,i=>by
  have ih:=onL_mem k l (a + 1) i
  constructor
  · intro h
    unfold onL at h
    cases hk:s.fPallet == k
    · rw [hk,cond_false] at h
      obtain ⟨j,t,h1,h2,h3⟩:=ih.1 h
      exact ⟨j + 1,t,by simpa using h1,by omega,h3⟩
    · rw [hk,cond_true,List.mem_cons] at h
      rcases h with rfl | h
      · exact ⟨0,s,rfl,by omega,by simpa using hk⟩
      · obtain ⟨j,t,h1,h2,h3⟩:=ih.1 h
        exact ⟨j + 1,t,by simpa using h1,by omega,h3⟩
  · rintro ⟨j,t,h1,h2,h3⟩
    unfold onL
    cases j with
    | zero =>
     simp only [List.getElem?_cons_zero,Option.some.injEq] at h1
     subst h1
     rw [show (s.fPallet == k) = true by simpa using h3,cond_true]
     simp; omega
    | succ j =>
     have:i ∈ onL k (a + 1) l:=ih.2 ⟨j,t,by simpa using h1,by omega,h3⟩
     cases s.fPallet == k <;> simp [this]
theorem onL_len (k:Int):∀ (l:List Spot) (a:Int),(onL k a l).length ≤ l.length
 | [],_=>Nat.le_refl _
 | s :: l,a=>by
  have:=onL_len k l (a + 1)
  unfold onL
  cases s.fPallet == k <;> simp <;> omega
theorem onM_len (x:Plan) (k:Int):(onM x k).length ≤ x.fSpots.length:=by
 unfold onM
 cases x.fSpots.length == x.fCartons.length
 · simp
 · exact onL_len k _ 0
theorem onM_mem {x:Plan} {k i:Int} (h:i ∈ onM x k):∃ c s,ix x.fCartons i = some c ∧ ix x.fSpots i = some s ∧ s.fPallet = k:=by
 unfold onM at h
 cases he:x.fSpots.length == x.fCartons.length
 · rw [he] at h; simp at h
 · rw [he,cond_true] at h
   obtain ⟨j,s,h1,h2,h3⟩:=(onL_mem k _ 0 i).1 h
   have hj:=(List.getElem?_eq_some_iff.1 h1).1
   have hl:x.fSpots.length = x.fCartons.length:=by simpa using he
   have e:i = (j:Int):=by omega
   subst e
   exact ⟨_,s,ix_i (by omega),ix_at h1,h3⟩
theorem i_on {fu:Nat} {x:Plan} (hl:x.fSpots.length ≤ 1048576) (hf:x.fSpots.length < fu) (k:Int):d_impl_OnPallet fu x k = some (onM x k):=by
 unfold d_impl_OnPallet onM
 cases he:x.fSpots.length == x.fCartons.length
 · have:((x.fSpots.length:Int) != (x.fCartons.length:Int)) = true:=by simp at he ⊢; omega
   rw [this]; rfl
 · have:((x.fSpots.length:Int) != (x.fCartons.length:Int)) = false:=by simp at he ⊢; omega
   rw [this,cond_false,cond_true]
   have key:=lpPI x.fSpots (fun n (o:List Int) i=>d_impl_OnPallet_L1 fu x k n o i) (fun pre xs o=>some (o ++ onL k pre.length xs)) (fun pre xs o=>o.length + xs.length ≤ 1048576) (by omega) ?_ ?_ fu [] (by simp; omega) hf
   · simpa using key
   · intro n o pre s xs e hx hd hI ih
     simp only [List.length_cons] at hI
     simp only [d_impl_OnPallet_L1.eq_2]
     unfold d_impl_OnPallet_L1_B d_impl_OnPallet_J1 onL
     rw [hd,cond_true,hx,ob_some]
     cases s.fPallet == k
     · rw [cond_false,cond_false,ih _ (by omega)]; simp
     · rw [cond_true,cond_true,ap1 (by simp; omega),ob_some,ih _ (by simp; omega)]; simp
   · intro n o hd _
     simp only [d_impl_OnPallet_L1.eq_2]
     unfold d_impl_OnPallet_L1_B
     rw [hd,cond_false]; simp [onL]
def zCar:Carton:=⟨0,0,[]⟩
def carM (x:Plan) (i:Int):Carton:=(ix x.fCartons i).getD zCar
def pgM (r:Request) (x:Plan) (k:Int):Int:=sumI ((onM x k).map fun i=>grsM r (carM x i))
theorem grs_bd (r:Request) (c:Carton) (hl:c.fUnits.length ≤ 1048576):0 ≤ grsM r c ∧ grsM r c ≤ 104857700000:=by
 unfold grsM
 cases ht:typM r c.fType with
 | none=>simp
 | some t =>
  cases hc:clsM r == 0
  · simp
  · have h1:=tare_bd (by simpa using hc) ht
    have h2:=grmM_bd r c.fUnits
    simp only [cond_true]
    omega
theorem i_pg {fu:Nat} {r:Request} (h:Sm fu r) {x:Plan} (hx:Sp x) (k:Int):d_impl_PalletGram fu r x k = some (pgM r x k):=by
 have hfu:=h.fu
 have h1:=hx.spots
 have h2:=onM_len x k
 unfold d_impl_PalletGram pgM
 rw [i_on h1 (by omega),ob_some]
 have key:=lpI (onM x k) (fun n (s:Int) i=>d_impl_PalletGram_L1 fu r x (onM x k) n s i) (fun l s=>some (s + sumI (l.map fun i=>grsM r (carM x i)))) (fun l s=>0 ≤ s ∧ s + 104857700000 * l.length ≤ 104857700000 * 1048576 ∧ ∀ i ∈ l,∃ c,ix x.fCartons i = some c) (by omega) ?_ ?_ fu 0 ⟨by omega,by omega,fun i hi=>?_⟩ (by omega)
 · simpa using key
 · intro n s i j xs hj hd hI ih
   obtain ⟨c,hc⟩:=hI.2.2 j (by simp)
   have hcu:=hx.units c (ix_mem hc)
   have hg:=grs_bd r c hcu
   have hI2:=hI.2.1
   simp only [List.length_cons] at hI2
   simp only [d_impl_PalletGram_L1.eq_2]
   unfold d_impl_PalletGram_L1_B
   rw [hd,cond_true,hj,ob_some,hc,ob_some,i_gross h c hcu,ob_some,w64_id (by omega) (by omega),ih _ ⟨by omega,by omega,fun i hi=>hI.2.2 i (by simp [hi])⟩]
   simp only [List.map_cons,sumI_cons,carM,hc,Option.getD_some]
   congr 1
   omega
 · intro n s i hd _
   simp only [d_impl_PalletGram_L1.eq_2]
   unfold d_impl_PalletGram_L1_B
   rw [hd,cond_false]; simp
 · obtain ⟨c,_,hc,_⟩:=onM_mem hi
   exact ⟨c,hc⟩
end Go.Proofs.YtpcmapfabndggaaGreat
/- Lost of spec and of impl. -/
namespace Go.Proofs.YtpcmapfabndggaaGreat
open Go
open Enc (rd ow)
open Arg (argv)
open Ret (retv)
open Wf (wf)
def flatU (l:List Carton):List Int:=(l.map (·.fUnits)).flatten
theorem flatU_len (l:List Carton):(flatU l).length = lensC l:=by
 induction l with
 | nil=>rfl
 | cons c l ih =>
  have e:flatU (c :: l) = c.fUnits ++ flatU l:=rfl
  rw [e,List.length_append,ih]; rfl
theorem i_flat {fu:Nat} {x:Plan} (h:Sp x) (hf:1048577 ≤ fu):d_impl_allUnits fu x = some (flatU x.fCartons):=by
 have hc:=h.cars
 have hl:=flatU_len x.fCartons
 have ha:=h.all
 unfold d_impl_allUnits
 have:=lpI x.fCartons (fun n out i=>d_impl_allUnits_L1 fu x n out i) (fun xs out=>some (out ++ flatU xs)) (fun xs out=>out.length + (flatU xs).length ≤ 1048576) (by omega) ?_ ?_ fu [] (by simp; omega) (by omega)
 · simpa using this
 · intro n out i c xs hx hd hI ih
   have e:flatU (c :: xs) = c.fUnits ++ flatU xs:=rfl
   rw [e,List.length_append] at hI
   simp only [d_impl_allUnits_L1.eq_2]
   unfold d_impl_allUnits_L1_B
   rw [hd,cond_true,hx,ob_some,ap1 (by omega),ob_some,ih _ (by simp; omega),e]
   simp
 · intro n out i hd hI
   simp only [d_impl_allUnits_L1.eq_2]
   unfold d_impl_allUnits_L1_B
   simp only [hd,cond_false]
   simp [flatU]
end Go.Proofs.YtpcmapfabndggaaGreat
/- Mixes of spec and of impl. -/
namespace Go.Proofs.YtpcmapfabndggaaGreat
open Go
open Enc (rd ow)
open Arg (argv)
open Ret (retv)
open Wf (wf)
end Go.Proofs.YtpcmapfabndggaaGreat
/- Check, by spec and by impl. -/
namespace Go.Proofs.YtpcmapfabndggaaGreat
open Go
open Enc (rd ow)
open Arg (argv)
open Ret (retv)
open Wf (wf)
theorem i_idxCar {fu:Nat} {l:List Carton} (f:Carton → Option Bool) (g:Carton → Bool) (hg:∀ x ∈ l,f x = some (g x)) (hl:l.length ≤ 1048576) (hf:l.length < fu):d_slices_IndexFunc_impl_Carton_impl_Carton fu l f = some (fndI g l 0):=by
 unfold d_slices_IndexFunc_impl_Carton_impl_Carton
 refine idx_loop l (fun n i=>d_slices_IndexFunc_impl_Carton_impl_Carton_L1 fu l f n i) g (by omega) ?_ ?_ fu hf
 · intro n i x hx hd
   simp only [d_slices_IndexFunc_impl_Carton_impl_Carton_L1.eq_2]
   unfold d_slices_IndexFunc_impl_Carton_impl_Carton_L1_B
   simp only [hd,cond_true,hx,ob_some,hg x (ix_mem hx)]
 · intro n i hd
   simp only [d_slices_IndexFunc_impl_Carton_impl_Carton_L1.eq_2]
   unfold d_slices_IndexFunc_impl_Carton_impl_Carton_L1_B
   simp only [hd,cond_false]
theorem i_anyCar {fu:Nat} {l:List Carton} (f:Carton → Option Bool) (g:Carton → Bool) (hg:∀ x ∈ l,f x = some (g x)) (hl:l.length ≤ 1048576) (hf:l.length < fu):d_slices_ContainsFunc_impl_Carton_impl_Carton fu l f = some (l.any g):=by
 unfold d_slices_ContainsFunc_impl_Carton_impl_Carton
 rw [i_idxCar f g hg hl hf,ob_some,fndI_any g l 0 (by omega)]
def empB (x:Plan):Bool:=x.fCartons.any fun c=>(c.fUnits.length:Int) == 0
def onceB (r:Request) (x:Plan):Bool:=perB (flatU x.fCartons) (ints 0 (untM r).length)
theorem once_iff {r:Request} {x:Plan}:onceB r x = true ↔ (flatU x.fCartons).Perm (ints 0 (untM r).length):=perB_iff
theorem ints_sorted (a:Int) (n:Nat):(ints a n).mergeSort (fun x y=>decide (x ≤ y)) = ints a n :=
 List.mergeSort_of_pairwise ((ints_lt a n).imp fun h=>by simpa using (show _ ≤ _ by omega))
def chB (r:Request) (c:Carton):Bool:=match typM r c.fType with | some t=>hldB r c.fUnits t | none=>false
def cgB (r:Request) (c:Carton):Bool:=c.fUnits.all fun u=>gofM (grpM r) (itmZ r u).fClass == c.fGroup
def ccB (r:Request) (c:Carton):Bool:=(chpM r c.fUnits).2 && (chpM r c.fUnits).1.fId == c.fType
def cs (x:Plan):List (Carton × Spot):=x.fCartons.zip x.fSpots
def insP (r:Request) (p:Carton × Spot):Bool:=winB r.fPallet (boxM r p.1) p.2
def ovP (r:Request) (p q:Carton × Spot):Bool:=ovlB (boxM r p.1) p.2 (boxM r q.1) q.2
def aprL (r:Request):List (Carton × Spot) → List (Carton × Spot) → Bool
 | _,[]=>true
 | pre,p :: l=>pre.all (fun q=>!ovP r p q) && aprL r (pre ++ [p]) l
theorem cs_len {x:Plan} (el:x.fSpots.length = x.fCartons.length):(cs x).length = x.fCartons.length:=by simp [cs]; omega
def plB (r:Request) (x:Plan) (k:Int):Bool :=
 !(((onM x k).length:Int) == 0) && (!(decide (pgM r x k > r.fPallet.fGram)) && (onM x k).all fun i=>(carM x i).fGroup == (carM x (ix (onM x k) 0 |>.getD 0)).fGroup)
theorem on_cars {x:Plan} {k:Int} (hne:(((onM x k).length:Int) == 0) = false):∃ i0 c0,ix (onM x k) 0 = some i0 ∧ ix x.fCartons i0 = some c0 ∧ ∃ rest,onM x k = i0 :: rest:=by
 cases hl:onM x k with
 | nil=>simp [hl] at hne
 | cons i0 rest =>
  obtain ⟨c0,_,h1,_⟩:=onM_mem (show i0 ∈ onM x k by rw [hl]; simp)
  exact ⟨i0,c0,rfl,h1,rest,rfl⟩
def chkM (r:Request) (x:Plan):Int :=
 bif !(clsM r == 0) then 1 else bif !(pokB x) then 2 else bif empB x then 2 else bif !(onceB r x) then 3 else bif !(x.fCartons.all (chB r)) then 4 else
 bif !(x.fCartons.all (cgB r)) then 5 else bif !(x.fCartons.all (ccB r)) then 6 else bif !((cs x).all (insP r)) then 7 else bif !(aprL r [] (cs x)) then 8 else
 bif !((ints 0 (palM x.fSpots).toNat).all (plB r x)) then 9 else 0
theorem pok_len {x:Plan} (h:pokB x = true):x.fSpots.length = x.fCartons.length:=by
 unfold pokB at h
 simp only [Bool.and_eq_true] at h
 simpa using h.1
end Go.Proofs.YtpcmapfabndggaaGreat
