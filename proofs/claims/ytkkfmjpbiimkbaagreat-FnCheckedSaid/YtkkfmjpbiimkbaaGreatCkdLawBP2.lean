import Derived.Test.YtkkfmjpbiimkbaaGreatCkdLawBP1
set_option linter.unusedSimpArgs false
set_option linter.unusedVariables false
/- slices.DeleteFunc at numbers, places. -/
namespace Go.Proofs.YtkkfmjpbiimkbaaGreat
open Go
open Enc (rd ow)
open Arg (argv)
open Ret (retv)
open Wf (wf)
theorem Q4w {fu:Nat} (n:Nat) (hn:n ≤ 1048576) (hf:n < fu):Qof fu (n:Int) = some (Qka 0 n):=by
 unfold Qof
 have:=Q82 (n:Int) (fun k out i=>Qgv fu (n:Int) k out i) (fun xs out=>some (out ++ xs)) (fun xs out=>out.length + xs.length ≤ 1048576) (by omega) ?_ ?_ n fu [] 0 (by omega) (by omega) hf (by simpa [Qei] using hn)
 · simpa using this
 · intro k out i xs h0 h1 hd hI ih
   simp only [List.length_cons] at hI
   simp only [Qgv.eq_2]
   unfold Qmr
   rw [hd,cond_true,ap1 (by simp; omega),Qab,ih _ (by simp; omega)]
   simp
 · intro k out i hd hI
   simp only [Qgv.eq_2]
   unfold Qmr
   simp only [hd,cond_false]
   simp
theorem Q6n {α:Type} (g:α → Bool):∀ (l pre:List α),(Qwl g l pre.length = -1 ∧ ∀ x ∈ l,g x = false) ∨ (∃ a x b,l = a ++ x :: b ∧ (∀ y ∈ a,g y = false) ∧ g x = true ∧ Qwl g l pre.length = ((pre.length + a.length:Nat):Int))
 | [],pre=>.inl ⟨rfl,by simp⟩
 | x :: xs,pre=>by
  simp only [Qwl]
  by_cases hx:g x = true
  · rw [hx,cond_true]; exact .inr ⟨[],x,xs,rfl,by simp,hx,by simp⟩
  · have hx':g x = false:=by simpa using hx
    rw [hx',cond_false]
    have:=Q6n g xs (pre ++ [x])
    simp only [List.length_append,List.length_singleton] at this
    rw [show ((pre.length + 1:Nat):Int) = (pre.length:Int) + 1 by omega] at this
    rcases this with ⟨h1,h2⟩ | ⟨a,y,b,h1,h2,h3,h4⟩
    · exact .inl ⟨h1,by simpa [hx'] using h2⟩
    · exact .inr ⟨x :: a,y,b,by simp [h1],by simpa [hx'] using h2,h3,by rw [h4]; simp; omega⟩
theorem Jde {fu:Nat} {l:List Int} (f:Int → Option Bool) (g:Int → Bool) (hg:∀ x ∈ l,f x = some (g x)) (hl:l.length ≤ 1048576) (hf:l.length < fu):Qcx fu l f = some (l.filter fun x=>!g x):=by
 unfold Qcx
 rw [Q4r f g hg hl hf,Qab]
 have hp:=Q6n g l []
 simp only [List.length_nil,Nat.zero_add] at hp
 rcases hp with ⟨h1,h2⟩ | ⟨a,x,b,h1,h2,h3,h4⟩
 · have h1':Qwl g l 0 = -1:=h1
   rw [h1',Qcm (by simp)]
   congr 1
   exact (List.filter_eq_self.2 fun y hy=>by simp [h2 y hy]).symm
 · have h4':Qwl g l 0 = (a.length:Int):=h4
   rw [h4',Qbj (by simp)]
   have key:∀ (rest kept mid pre:List Int) (n:Nat),l = pre ++ rest → kept = pre.filter (fun x=>!g x) → mid ≠ [] → kept.length + mid.length = pre.length → rest.length < n →
       Qbl fu f n (kept ++ mid ++ rest) (kept.length:Int) (pre.length:Int) = some (l.filter fun x=>!g x):=by
    intro rest
    induction rest with
    | nil =>
     intro kept mid pre n e1 e2 e3 e4 hn
     obtain ⟨n,rfl⟩:∃ j,n = j + 1:=⟨n - 1,by omega⟩
     rw [Qbl.eq_2]
     unfold Qdv
     simp only [List.append_nil] at *
     subst e1
     rw [Qbj (by simp; omega),Qtc ⟨by omega,by simp; omega,by omega⟩,Qab,Qtc ⟨by omega,by omega,by simp [Q2r]; omega⟩,Qab]
     rw [← e2]
     simp [Q2r]
    | cons y rest ih =>
     intro kept mid pre n e1 e2 e3 e4 hn
     obtain ⟨n,rfl⟩:∃ j,n = j + 1:=⟨n - 1,by simp at hn; omega⟩
     have hlen:l.length = pre.length + (rest.length + 1):=by rw [e1]; simp
     have hyl:y ∈ l:=by rw [e1]; simp
     obtain ⟨m,ms,rfl⟩:∃ m ms,mid = m :: ms:=by
      cases mid with
      | nil=>exact absurd rfl e3
      | cons m ms=>exact ⟨m,ms,rfl⟩
     simp only [List.length_cons] at e4 hn
     have hx:ix (kept ++ (m :: ms) ++ y :: rest) (pre.length:Int) = some y:=by
      rw [Qrh,List.getElem?_append_right (by simp; omega)]
      simp only [List.length_append,List.length_cons]
      rw [show pre.length - (kept.length + (ms.length + 1)) = 0 by omega]; rfl
     have hk:ix (kept ++ (m :: ms) ++ y :: rest) (kept.length:Int) = some m:=by
      rw [Qrh]; simp
     rw [Qbl.eq_2]
     unfold Qdv Qc3
     rw [Qcm (by simp; omega),hx,Qab,hg y hyl,Qab]
     cases hgy:g y
     · rw [Bool.not_false,cond_true,hk,Qab,Qw7 _ (by omega),Qw7 _ (by omega)]
       have e5:Qjp (kept ++ (m :: ms) ++ y :: rest) (kept.length:Int) y = (kept ++ [y]) ++ (ms ++ [y]) ++ rest:=by simp [Qjp]
       rw [e5]
       have:=ih (kept ++ [y]) (ms ++ [y]) (pre ++ [y]) n (by simp [e1]) (by rw [e2,List.filter_append]; simp [hgy]) (by simp) (by simp; omega) (by omega)
       simp only [List.length_append,List.length_singleton] at this
       exact this
     · rw [Bool.not_true,cond_false,Qw7 _ (by omega)]
       have:=ih kept ((m :: ms) ++ [y]) (pre ++ [y]) n (by simp [e1]) (by rw [e2,List.filter_append]; simp [hgy]) (by simp) (by simp; omega) (by omega)
       simp only [List.length_append,List.length_singleton] at this
       rw [show kept ++ (m :: ms) ++ y :: rest = kept ++ ((m :: ms) ++ [y]) ++ rest by simp]
       exact this
   have hlen:l.length = a.length + (b.length + 1):=by rw [h1]; simp
   have ha:a.filter (fun x=>!g x) = a:=List.filter_eq_self.2 fun y hy=>by simp [h2 y hy]
   have:=key b a [x] (a ++ [x]) fu (by simp [h1]) (by rw [List.filter_append,ha]; simp [h3]) (by simp) (by simp) (by omega)
   rw [Qw7 _ (by omega)]
   simp only [List.length_append,List.length_singleton] at this
   rw [show a ++ [x] ++ b = l by simp [h1]] at this
   exact this
end Go.Proofs.YtkkfmjpbiimkbaaGreat
/- SortDown, by spec and by impl (short lists). -/
namespace Go.Proofs.YtkkfmjpbiimkbaaGreat
open Go
open Enc (rd ow)
open Arg (argv)
open Ret (retv)
open Wf (wf)
def dnk (keys:List Int) (p:Int):Int:=- kf keys p
theorem Jae {fu:Nat} {keys:List Int} (hfu:2097153 ≤ fu) (hl:keys.length ≤ 1048576):Qgo fu keys = some (srt (dnk keys) keys.length):=by
 unfold Qgo Qpk
 rw [Q4y keys.length hl (by omega),Qab]
 obtain ⟨m,rfl⟩:∃ m,fu = m + 1:=⟨fu - 1,by omega⟩
 rw [Q40 true hfu m _ (by rw [Qei]; omega) (by rw [Qei]; omega) (fun p hp=>by have:=Qk2.1 hp; omega),Qab]
 congr 1
 have e:dk keys true = dnk keys:=rfl
 rw [e]
 exact Q43 (Qsc _ _ _) (Qsz _ _ _ (by rw [Qei]; omega) (Qu3 _ _))
end Go.Proofs.YtkkfmjpbiimkbaaGreat
/- Volumes of units, by spec and by impl. -/
namespace Go.Proofs.YtkkfmjpbiimkbaaGreat
open Go
open Enc (rd ow)
open Arg (argv)
open Ret (retv)
open Wf (wf)
theorem Jgy {w h d:Int} (hb:(inb w 0 2000 && (inb h 0 2000 && inb d 0 2000)) = true):w64 ((w64 (w * h)) * d) = w * h * d:=by
 simp only [Bool.and_eq_true,Qfu] at hb
 obtain ⟨⟨h1,h2⟩,⟨h3,h4⟩,h5,h6⟩:=hb
 have a1:0 ≤ w * h:=Int.mul_nonneg h1 h3
 have a2:w * h ≤ 2000 * 2000:=Int.mul_le_mul h2 h4 h3 (by omega)
 have a3:0 ≤ w * h * d:=Int.mul_nonneg a1 h5
 have a4:w * h * d ≤ 2000 * 2000 * 2000:=Int.mul_le_mul a2 h6 h5 (by omega)
 rw [Qcj (n:=w * h) (by omega) (by omega),Qcj (by omega) (by omega)]
theorem Ja4 (fu:Nat) (w h d:Int):Qlq fu w h d = some (Q5m w h d):=by
 unfold Qlq Qpm Q5m
 simp only [Qzv,Qab]
 cases h1:inb w 0 2000 <;> cases h2:inb h 0 2000 <;> cases h3:inb d 0 2000 <;> simp only [Bool.not_true,Bool.not_false,cond_true,cond_false,Bool.and_true,Bool.and_false]
 rw [Jgy (by simp only [h1,h2,h3]; rfl)]
theorem Jdp (fu:Nat) (w h d:Int):Qn9 fu w h d = some (Q5m w h d):=by
 unfold Qn9 Qpz Q5m
 simp only [Q2q,Qab]
 cases h1:inb w 0 2000 <;> cases h2:inb h 0 2000 <;> cases h3:inb d 0 2000 <;> simp only [Bool.not_true,Bool.not_false,cond_true,cond_false,Bool.and_true,Bool.and_false]
 rw [Jgy (by simp only [h1,h2,h3]; rfl)]
def Qtp (r:Request) (u:Int):Item:=(Q1e r u).getD Q5p
theorem Q0k (r:Request):w64 (((Qh8 r).length:Int) - 1) = ((Qh8 r).length:Int) - 1:=by
 have:=Qva r
 exact Qcj (by omega) (by omega)
theorem Q4t (fu:Nat) (r:Request) (u:Int):Qif fu r (Qh8 r) u = some (Qtp r u,(Q1e r u).isSome):=by
 unfold Qif Qtp
 rw [Q0k,Qzv,Qab]
 by_cases h:0 ≤ u ∧ u < (Qh8 r).length
 · obtain ⟨i,x,h1,h2,h3⟩:=Q24 h
   rw [Qbj (by simp; omega),h1,Qab,h2,Qab,h3]
   rfl
 · rw [Qcm (by simp [inb]; omega),Q0d h]
   rfl
theorem Q86:Q6w Q5p = 0:=by simp [Q6w,Q5m,Q5p]
theorem Q0q {fu:Nat} {r:Request} (h:Sm fu r) (us:List Int) (hl:us.length ≤ 1048576) (hf:us.length < fu):Qg9 fu r us = some (Qwq r us):=by
 unfold Qg9
 rw [Q9a h,Qab]
 have key:=lpI us (fun n s i=>Qe4 fu r us (Qh8 r) n s i) (fun l out=>some (out ++ Qwq r l)) (fun l out=>out.length + l.length ≤ 1048576) (by omega) ?_ ?_ fu [] (by simpa using hl) hf
 · simpa using key
 · intro n s i x xs hx hd hI ih
   simp only [Qe4.eq_2]
   unfold Qld Qjk
   simp only [hd,cond_true,hx,Qab,Q0k,Q2q]
   simp only [List.length_cons] at hI
   by_cases hu:0 ≤ x ∧ x < (Qh8 r).length
   · obtain ⟨i',y,h1,h2,h3⟩:=Q24 hu
     rw [Qcm (by simp; omega),h1,Qab,h2,Qab,ap1 (by simp; omega),Qab,ih _ (by simp; omega)]
     simp [Qwq,List.filterMap_cons,h3]
   · rw [Qbj (by simp [inb]; omega),ih _ (by omega)]
     simp [Qwq,List.filterMap_cons,Q0d hu]
 · intro n s i hd _
   simp only [Qe4.eq_2]
   unfold Qld
   simp only [hd,cond_false]
   simp [Qwq]
theorem Jbf {fu:Nat} {r:Request} (h:Sm fu r) (us:List Int) (hl:us.length ≤ 1048576) (hf:us.length < fu):Qng fu r us = some (Qyv r us):=by
 unfold Qng
 rw [Q0q h us hl hf,Qab]
 have hlen:=Qvs r us
 have key:=lpI (Qwq r us) (fun n s i=>Qfn fu (Qwq r us) n s i) (fun l n=>some (n + Qvx (l.map Q6w))) (fun l n=>0 ≤ n ∧ n + 8000000000 * l.length ≤ 8000000000 * 1048576) (by omega) ?_ ?_ fu 0 ⟨by omega,by omega⟩ (by omega)
 · simpa [Qyv] using key
 · intro n s i x xs hx hd hI ih
   simp only [Qfn.eq_2]
   unfold Qjh
   simp only [hd,cond_true,hx,Qab,Jdp]
   have hv:=Q7r x.fW x.fH x.fD
   have h2:=hI.2
   simp only [List.length_cons] at h2
   rw [Qcj (by omega) (by omega),ih _ ⟨by omega,by omega⟩]
   simp only [List.map_cons,Qpa,Q6w]
   congr 1
   omega
 · intro n s i hd _
   simp only [Qfn.eq_2]
   unfold Qjh
   simp only [hd,cond_false]
   simp
end Go.Proofs.YtkkfmjpbiimkbaaGreat
/- Weights of units, by spec and by impl. -/
namespace Go.Proofs.YtkkfmjpbiimkbaaGreat
open Go
open Enc (rd ow)
open Arg (argv)
open Ret (retv)
open Wf (wf)
theorem Q13 (r:Request) (u:Int):0 ≤ (Qtp r u).fGram ∧ (Qtp r u).fGram ≤ 100000:=by
 unfold Qtp
 cases hm:Q1e r u with
 | none=>simp [Q5p]
 | some x=>exact Q0s (r:=r) (us:=[u]) (by simp [Qwq,List.filterMap_cons,hm])
theorem Jfo {fu:Nat} {r:Request} (h:Sm fu r) (us:List Int) (hl:us.length ≤ 1048576) (hf:us.length < fu):Qqm fu r us = some (Qvl r us):=by
 unfold Qqm
 rw [Jfu h,Qab]
 have key:=lpI us (fun n s i=>Qep fu r us (Qh8 r) n s i) (fun l n=>some (n + Qvl r l)) (fun l n=>0 ≤ n ∧ n + 100000 * l.length ≤ 100000 * 1048576) (by omega) ?_ ?_ fu 0 ⟨by omega,by omega⟩ hf
 · simpa using key
 · intro n s i x xs hx hd hI ih
   simp only [Qep.eq_2]
   unfold Qmy Qpt Qp0
   simp only [hd,cond_true,hx,Qab,Q4t]
   have hv:=Q13 r x
   have h2:=hI.2
   simp only [List.length_cons] at h2
   rw [Qcj (by omega) (by omega),ih _ ⟨by omega,by omega⟩]
   congr 1
   have e:Qvl r (x :: xs) = (Qtp r x).fGram + Qvl r xs:=by
    unfold Qvl Qwq Qtp
    cases hm:Q1e r x with
    | none=>simp [List.filterMap_cons,hm,Q5p]
    | some y=>simp [List.filterMap_cons,hm]
   rw [e]
   omega
 · intro n s i hd _
   simp only [Qep.eq_2]
   unfold Qmy
   simp only [hd,cond_false]
   simp [Qvl,Qwq]
theorem Jc8 {fu:Nat} {r:Request} (h:Sm fu r) (us:List Int) (hl:us.length ≤ 1048576) (hf:us.length < fu):Qn6 fu r us = some (Qvl r us):=by
 unfold Qn6
 rw [Q0q h us hl hf,Qab]
 have hlen:=Qvs r us
 have key:=lpI (Qwq r us) (fun n s i=>Qgx fu (Qwq r us) n s i) (fun l n=>some (n + Qvx (l.map (·.fGram)))) (fun l n=>0 ≤ n ∧ n + 100000 * l.length ≤ 100000 * 1048576 ∧ ∀ x ∈ l,0 ≤ x.fGram ∧ x.fGram ≤ 100000) (by omega) ?_ ?_ fu 0 ⟨by omega,by omega,fun x hx=>Q0s hx⟩ (by omega)
 · simpa [Qvl] using key
 · intro n s i x xs hx hd hI ih
   simp only [Qgx.eq_2]
   unfold Qm4
   simp only [hd,cond_true,hx,Qab]
   have hv:=hI.2.2 x (by simp)
   have h2:=hI.2.1
   simp only [List.length_cons] at h2
   rw [Qcj (by omega) (by omega),ih _ ⟨by omega,by omega,fun y hy=>hI.2.2 y (by simp [hy])⟩]
   simp only [List.map_cons,Qpa]
   congr 1
   omega
 · intro n s i hd _
   simp only [Qgx.eq_2]
   unfold Qm4
   simp only [hd,cond_false]
   simp
end Go.Proofs.YtkkfmjpbiimkbaaGreat
/- Load of units, room for one more, units that may lie beside: by spec and by impl. -/
namespace Go.Proofs.YtkkfmjpbiimkbaaGreat
open Go
open Enc (rd ow)
open Arg (argv)
open Ret (retv)
open Wf (wf)
theorem Q94 (r:Request) (x:Int) (xs:List Int):Qyv r (x :: xs) = Q6w (Qtp r x) + Qyv r xs:=by
 unfold Qyv Qwq Qtp
 cases hm:Q1e r x with
 | none=>simp [List.filterMap_cons,hm,Q86]
 | some y=>simp [List.filterMap_cons,hm]
theorem Q33 (r:Request) (x:Int) (xs:List Int):Qvl r (x :: xs) = (Qtp r x).fGram + Qvl r xs:=by
 unfold Qvl Qwq Qtp
 cases hm:Q1e r x with
 | none=>simp [List.filterMap_cons,hm,Q5p]
 | some y=>simp [List.filterMap_cons,hm]
theorem Q6l {fu:Nat} (r:Request) (us:List Int) (hl:us.length ≤ 1048576) (hf:us.length < fu):Qp5 fu r (Qh8 r) us = some ⟨Qyv r us,Qvl r us⟩:=by
 unfold Qp5
 have key:=lpI us (fun n s i=>Qgl fu r (Qh8 r) us n s i) (fun l s=>some (⟨s.fvol + Qyv r l,s.fgram + Qvl r l⟩:L7))
  (fun l s=>0 ≤ s.fvol ∧ s.fvol + 8000000000 * l.length ≤ 8000000000 * 1048576 ∧ 0 ≤ s.fgram ∧ s.fgram + 100000 * l.length ≤ 100000 * 1048576) (by omega) ?_ ?_ fu ⟨0,0⟩ ⟨by simp,by simp; omega,by simp,by simp; omega⟩ hf
 · simpa using key
 · intro n s i x xs hx hd hI ih
   simp only [Qgl.eq_2]
   unfold Qp2 Qrt Qro
   simp only [hd,cond_true,hx,Qab,Q4t,Ja4]
   have hv:=Q7r (Qtp r x).fW (Qtp r x).fH (Qtp r x).fD
   have hg:=Q13 r x
   obtain ⟨a1,a2,a3,a4⟩:=hI
   simp only [List.length_cons] at a2 a4
   rw [Qcj (n:=s.fvol + _) (by omega) (by omega),Qcj (n:=s.fgram + _) (by omega) (by omega),ih _ ⟨by simp; omega,by simp; omega,by simp; omega,by simp; omega⟩,Q94,Q33,show Q5m (Qtp r x).fW (Qtp r x).fH (Qtp r x).fD = Q6w (Qtp r x) from rfl]
   simp only [Option.some.injEq,L7.mk.injEq]
   constructor <;> omega
 · intro n s i hd _
   simp only [Qgl.eq_2]
   unfold Qp2
   simp only [hd,cond_false]
   simp [Qyv,Qvl,Qwq]
def Q3a (r:Request) (us:List Int) (t:Typ):Bool:=decide (Qyv r us ≤ Q8x t) && decide (Qvl r us ≤ t.fGram)
theorem Q3v {fu:Nat} (r:Request) (t:Typ) (us:List Int) (u:Int) (hl:us.length < 1048576) (hf:us.length + 1 < fu):Qor fu r (Qh8 r) t us u = some (Q3a r (us ++ [u]) t):=by
 unfold Qor Qp1 Q3a
 rw [ap1 (by simp; omega),Qab,List.nil_append,ap1 (by simp; omega),Qab,Q6l r _ (by simp; omega) (by simp; omega),Qab,Ja4,Qab]
 show (bif decide (Qyv r (us ++ [u]) ≤ Q8x t) then _ else _) = _
 cases decide (Qyv r (us ++ [u]) ≤ Q8x t) <;> simp
theorem Q85 {fu:Nat} {r:Request} (h:Sm fu r) (t:Typ) (us:List Int) (hl:us.length ≤ 1048576):Qqg fu r us t = some (Q3a r us t):=by
 have hfu:=h.fu
 unfold Qqg Q3a
 rw [Jbf h us hl (by omega),Qab,Jdp,Qab,Jc8 h us hl (by omega)]
 show (bif decide (Qyv r us ≤ Q8x t) then _ else _) = _
 cases decide (Qyv r us ≤ Q8x t) <;> simp
theorem Jaj {r:Request}:(Qwd (Qsh r r.fMaster)).1 = Qxg r:=rfl
end Go.Proofs.YtkkfmjpbiimkbaaGreat
/- A bit, by spec. -/
namespace Go.Proofs.YtkkfmjpbiimkbaaGreat
open Go
open Enc (rd ow)
open Arg (argv)
open Ret (retv)
open Wf (wf)
theorem Jgh (fu:Nat) (b:Bool):Qsm fu b = some (Jcr b):=by cases b <;> rfl
end Go.Proofs.YtkkfmjpbiimkbaaGreat
/- How often a number stands in a list, by spec. -/
namespace Go.Proofs.YtkkfmjpbiimkbaaGreat
open Go
open Enc (rd ow)
open Arg (argv)
open Ret (retv)
open Wf (wf)
theorem Jga {fu:Nat} {l:List Int} (hl:l.length ≤ 1048576) (hf:l.length < fu) (x:Int):Qpj fu l x = some (Jb7 (fun y=>y == x) l):=by
 unfold Qpj
 have:=lpI l (fun n s i=>Qgh fu l x n s i) (fun l n=>some (n + Jb7 (fun y=>y == x) l)) (fun l n=>0 ≤ n ∧ n + l.length ≤ 1048576) (by omega) ?_ ?_ fu 0 ⟨by omega,by omega⟩ hf
 · simpa using this
 · intro n s i y ys hy hd hI ih
   have h2:=hI.2
   simp only [List.length_cons] at h2
   have hb:=Jb8 (y == x)
   simp only [Qgh.eq_2]
   unfold Qlb
   simp only [hd,cond_true,hy,Qab,Jgh]
   rw [Qcj (by omega) (by omega),ih _ ⟨by omega,by omega⟩]
   simp only [Jb7]
   congr 1
   omega
 · intro n s i hd hI
   simp only [Qgh.eq_2]
   unfold Qlb
   simp only [hd,cond_false,Jb7]
   simp
theorem Q6i (l:List Int) (x:Int):Jb7 (fun y=>y == x) l = (l.count x:Int):=by
 induction l with
 | nil=>rfl
 | cons y l ih =>
  unfold Jb7 Jcr
  rw [ih,List.count_cons]
  cases hy:y == x <;> simp [hy] <;> omega
end Go.Proofs.YtkkfmjpbiimkbaaGreat
/- Orders in the laws: their size, copies, equality. -/
namespace Go.Proofs.YtkkfmjpbiimkbaaGreat
open Go
open Enc (rd ow)
open Arg (argv)
open Ret (retv)
open Wf (wf)
end Go.Proofs.YtkkfmjpbiimkbaaGreat
/- Lists of lists of numbers in the laws: their size, copies. -/
namespace Go.Proofs.YtkkfmjpbiimkbaaGreat
open Go
open Enc (rd ow)
open Arg (argv)
open Ret (retv)
open Wf (wf)
end Go.Proofs.YtkkfmjpbiimkbaaGreat
/- IsPacking of spec and of impl. -/
namespace Go.Proofs.YtkkfmjpbiimkbaaGreat
open Go
open Enc (rd ow)
open Arg (argv)
open Ret (retv)
open Wf (wf)
def Qvw (r:Request) (us:List Int):List Int:=us.filter fun u=>inb u 0 (((Qh8 r).length:Int) - 1)
def Jet (a b:List Int):Bool:=decide ((a.mergeSort fun x y=>decide (x ≤ y)) = b.mergeSort fun x y=>decide (x ≤ y))
theorem Q9k {a b:List Int}:Jet a b = true ↔ a.Perm b:=by
 unfold Jet
 rw [decide_eq_true_iff]
 constructor
 · intro h
   have h1:=List.mergeSort_perm a fun x y=>decide (x ≤ y)
   rw [h] at h1
   exact h1.symm.trans (List.mergeSort_perm b _)
 · intro h
   exact Q69 (((List.mergeSort_perm a _).trans h).trans (List.mergeSort_perm b _).symm) (Qry a) (Qry b)
theorem Q30:∀ (a b:List Int),a.length = b.length → (∀ x ∈ a,a.count x = b.count x) → a.Perm b
 | [],b,h,_=>by
  have:b = []:=List.eq_nil_of_length_eq_zero h.symm
  subst this
  exact List.Perm.refl _
 | x :: a,b,h,hc=>by
  have hx:=hc x (by simp)
  rw [List.count_cons_self] at hx
  have hm:x ∈ b:=List.count_pos_iff.1 (by omega)
  have hp:=List.perm_cons_erase hm
  refine List.Perm.trans (List.Perm.cons x (Q30 a (b.erase x) ?_ ?_)) hp.symm
  · have:=hp.length_eq
    simp only [List.length_cons] at this h
    omega
  · intro y hy
    have h1:=hc y (by simp [hy])
    have h2:=hp.count_eq y
    rw [List.count_cons] at h1 h2
    omega
theorem Ja7 {fu:Nat} {r:Request} (h:Sm fu r) (us:List Int) (hl:us.length ≤ 1048576):Qox fu r us = some (Qvw r us):=by
 have hfu:=h.fu
 unfold Qox Qen Qvw
 rw [Q9a h,Qab,ap1 (by simp; omega),Qab,Qab,List.nil_append,Jde _ (fun u=>!inb u 0 (((Qh8 r).length:Int) - 1)) ?_ hl (by omega),Qab]
 · simp
 · intro u _
   unfold Qpu
   rw [Q0k,Q2q,Qab]
theorem Q8j {fu:Nat} {r:Request} (h:Sm fu r) (us:List Int) (hl:us.length ≤ 1048576):Qmi fu (Qh8 r) us = some (Qvw r us):=by
 have hfu:=h.fu
 unfold Qmi Qvw
 have:=lpI us (fun n out i=>Qe8 fu (Qh8 r) us n out i) (fun xs out=>some (out ++ xs.filter fun u=>inb u 0 (((Qh8 r).length:Int) - 1))) (fun xs out=>out.length + xs.length ≤ 1048576) (by omega) ?_ ?_ fu [] (by simpa using hl) (by omega)
 · simpa using this
 · intro n out i x xs hx hd hI ih
   simp only [List.length_cons] at hI
   simp only [Qe8.eq_2]
   unfold Qk1 Qjz
   rw [hd,cond_true,hx,Qab,Q0k,Qzv,Qab,Qab,List.filter_cons]
   cases hb:inb x 0 (((Qh8 r).length:Int) - 1)
   · rw [cond_false,ih _ (by omega)]; simp
   · rw [cond_true,ap1 (by simp; omega),Qab,ih _ (by simp; omega)]; simp
 · intro n out i hd hI
   simp only [Qe8.eq_2]
   unfold Qk1
   simp only [hd,cond_false]
   simp
theorem Q8p:∀ (a b:List Int),a.length = b.length → ((a.zip b).all fun p=>p.1 == p.2) = decide (a = b)
 | [],[],_=>rfl
 | [],_ :: _,h=>by simp at h
 | _ :: _,[],h=>by simp at h
 | x :: a,y :: b,h=>by
  rw [List.zip_cons_cons,List.all_cons,Q8p a b (by simpa using h)]
  by_cases hx:x = y <;> simp [hx]
theorem Jb5 {fu:Nat} (a b:List Int) (hl:a.length ≤ 1048576) (hf:a.length < fu):Qf6 fu a b = some (decide (a = b)):=by
 unfold Qf6
 by_cases h:a.length = b.length
 · rw [Qbj (by simp [h])]
   have hz:(a.zip b).length = a.length:=by rw [List.length_zip]; omega
   have:=lp (a.zip b) (fun n (_:Unit) i=>Qct fu a b n i) (fun l _=>some (l.all fun p=>p.1 == p.2)) (by omega) ?_ ?_ fu () (by omega)
   · rw [Q8p a b h] at this
     exact this
   · intro n _ i p xs hp hd ih
     obtain ⟨h1,_,h2⟩:=Qas hp
     rw [List.getElem?_zip_eq_some] at h2
     rw [hz] at hd
     have e1:ix a i = some p.1:=by unfold ix; rw [if_pos h1]; exact h2.1
     have e2:ix b i = some p.2:=by unfold ix; rw [if_pos h1]; exact h2.2
     simp only [Qct.eq_2]
     unfold Qft
     rw [hd,cond_true,e1,Qab,e2,Qab,ih (),List.all_cons]
     by_cases hx:p.1 = p.2
     · rw [Qbj (by simp [hx])]; simp [hx]
     · rw [Qcm (by simpa using hx)]; simp [hx]
   · intro n _ i hd
     rw [hz] at hd
     simp only [Qct.eq_2]
     unfold Qft
     simp [hd]
 · rw [Qcm (by simp; omega)]
   have:a ≠ b:=fun e=>h (by rw [e])
   simp [this]
theorem Q5a {xs:List Int} (h:xs.length ≤ 1048576):Q0z xs = some (xs.mergeSort fun x y=>decide (x ≤ y)):=by
 unfold Q0z
 rw [if_pos (by omega)]
theorem Q1m (r:Request) (us:List Int):(Qvw r us).length ≤ us.length:=List.length_filter_le _ _
end Go.Proofs.YtkkfmjpbiimkbaaGreat
/- IsRival of spec and of impl. -/
namespace Go.Proofs.YtkkfmjpbiimkbaaGreat
open Go
open Enc (rd ow)
open Arg (argv)
open Ret (retv)
open Wf (wf)
theorem Qx9 {r:Request} {us:List Int} {u:Int} (h:u ∈ Qvw r us):0 ≤ u ∧ u < (Qh8 r).length:=by
 unfold Qvw at h
 have:=(List.mem_filter.1 h).2
 rw [Qfu] at this
 omega
theorem Quv {r:Request} {u:Int} (h:0 ≤ u ∧ u < (Qh8 r).length):Q1e r u = some (Qtp r u):=by
 obtain ⟨_,x,_,_,hx⟩:=Q24 h
 unfold Qtp
 rw [hx]; rfl
theorem Q06 {r:Request}:∀ {l:List Int},(∀ u ∈ l,0 ≤ u ∧ u < (Qh8 r).length) → Qwq r l = l.map (Qtp r)
 | [],_=>rfl
 | u :: l,h=>by
  have ih:=Q06 (r:=r) (l:=l) fun v hv=>h v (by simp [hv])
  unfold Qwq at ih ⊢
  rw [List.filterMap_cons,Quv (h u (by simp)),ih,List.map_cons]
end Go.Proofs.YtkkfmjpbiimkbaaGreat
/- The two ways of packing, by spec and by impl. -/
namespace Go.Proofs.YtkkfmjpbiimkbaaGreat
open Go
open Enc (rd ow)
open Arg (argv)
open Ret (retv)
open Wf (wf)
def Jcv (g:List Int → Bool) (out:List (List Int)) (u:Int):List (List Int):=match Qvv g out with
 | some i=>match out[i]? with
  | some x=>out.set i (x ++ [u])
  | none=>out
 | none=>out ++ [[u]]
def Q5v (r:Request) (u:Int) (l:List Int):Bool:=Q3a r (l ++ [u]) (Qxg r)
def Jdd (r:Request) (out:List (List Int)) (u:Int):List (List Int):=Jcv (Q5v r u) out u
def Q8t (r:Request) (out:List (List Int)) (u:Int):List (List Int):=match out.getLast? with
 | some l=>bif Q5v r u l then out.set (out.length - 1) (l ++ [u]) else out ++ [[u]]
 | none=>[[u]]
theorem Q2m {r:Request} {out:List (List Int)} {l:List Int} (u:Int) (h:out.getLast? = some l):Q8t r out u = bif Q5v r u l then out.set (out.length - 1) (l ++ [u]) else out ++ [[u]]:=by unfold Q8t; rw [h]
def Jcf (r:Request) (us:List Int):List Int:=(srt (dnk (us.map fun u=>Qyv r [u])) us.length).map fun p=>(ix us p).getD 0
def nfM (r:Request) (us:List Int):List (List Int):=(Qvw r us).foldl (Q8t r) []
def ffM (r:Request) (us:List Int):List (List Int):=(Jcf r (Qvw r us)).foldl (Jdd r) []
def pwM (r:Request) (us:List Int):List (List Int):=bif r.fWay == 1 then nfM r us else ffM r us
theorem Q8r {g:List Int → Bool} {out:List (List Int)} {n:Nat} (u:Int) (h:okG n out):okG (n + 1) (Jcv g out u):=by
 obtain ⟨h1,h2⟩:=h
 unfold Jcv
 split
 · rename_i i hi
   split
   · rename_i x hx
     refine ⟨by simp; omega,fun l hl=>?_⟩
     rcases List.mem_or_eq_of_mem_set hl with hl | rfl
     · have:=h2 l hl; omega
     · have:=h2 x (List.mem_of_getElem? hx); simp; omega
   · exact ⟨by omega,fun l hl=>by have:=h2 l hl; omega⟩
 · refine ⟨by simp; omega,fun l hl=>?_⟩
   rcases List.mem_append.1 hl with hl | hl
   · have:=h2 l hl; omega
   · rw [List.mem_singleton.1 hl]; simp
theorem Q67 {r:Request} {out:List (List Int)} {n:Nat} (u:Int) (h:okG n out):okG (n + 1) (Q8t r out u):=by
 obtain ⟨h1,h2⟩:=h
 unfold Q8t
 split
 · rename_i x hx
   have hm:=List.mem_of_getLast? hx
   cases Q5v r u x
   · refine ⟨by simp; omega,fun l hl=>?_⟩
     rcases List.mem_append.1 hl with hl | hl
     · have:=h2 l hl; omega
     · rw [List.mem_singleton.1 hl]; simp
   · refine ⟨by simp; omega,fun l hl=>?_⟩
     rcases List.mem_or_eq_of_mem_set hl with hl | rfl
     · have:=h2 l hl; omega
     · have:=h2 x hm; simp; omega
 · exact ⟨by simp,fun l hl=>by rw [List.mem_singleton.1 hl]; simp⟩
theorem Q23 {F:List (List Int) → Int → List (List Int)} (hF:∀ out n u,okG n out → okG (n + 1) (F out u)):∀ (l:List Int) {out:List (List Int)} {n:Nat},okG n out → okG (n + l.length) (l.foldl F out)
 | [],_,_,h=>h
 | u :: l,out,n,h=>by
  have:=Q23 hF l (hF out n u h)
  rw [List.foldl_cons,List.length_cons,show n + (l.length + 1) = n + 1 + l.length by omega]
  exact this
theorem Jcz {r:Request} {us:List Int} (h:us.length ≤ 12):(Qvw r us).length ≤ 12:=Nat.le_trans (Q1m r us) h
theorem Q92 (r:Request) (us:List Int):(Jcf r us).length = us.length:=by simp [Jcf,Qu0]
theorem Q7z {r:Request} {us:List Int} (h:us.length ≤ 12):okG 12 (pwM r us):=by
 have ht:=Jcz (r:=r) h
 have h0:okG 0 ([]:List (List Int)):=⟨by simp,by simp⟩
 unfold pwM
 cases r.fWay == 1
 · have:=Q23 (F:=Jdd r) (fun out n u ho=>Q8r u ho) (Jcf r (Qvw r us)) h0
   rw [Q92] at this
   exact ⟨by have:=this.1; simp only [cond_false]; unfold ffM; omega,fun l hl=>by have:=this.2 l hl; omega⟩
 · have:=Q23 (F:=Q8t r) (fun out n u ho=>Q67 u ho) (Qvw r us) h0
   exact ⟨by have:=this.1; simp only [cond_true]; unfold nfM; omega,fun l hl=>by have:=this.2 l hl; omega⟩
theorem Jce {g:List Int → Bool} {out:List (List Int)} {c:Int} {n:Nat} (h:okG n out) (hn:n ≤ 1048576) {β:Type} (k:List (List Int) → Option β) (a:Int) (ha:a = match Qvv g out with | some i=>(i:Int) | none=>-1) :
    (bif (decide (a < 0)) then Qad (Qh3 24 out [([c]:List Int)]) fun x=>k x else Qad (ix out a) fun x=>Qad (Qh3 8 x (([c]:List Int))) fun y=>Qad (ix out a) fun z=>k (Qjp out a y)) = k (Jcv g out c):=by
 obtain ⟨h1,h2⟩:=h
 unfold Jcv
 cases hf:Qvv g out with
 | none =>
  rw [hf] at ha
  simp only at ha
  subst ha
  rw [Qcm (by simp),ap1 (by simp; omega),Qab]
 | some i =>
  rw [hf] at ha
  simp only at ha
  subst ha
  obtain ⟨x,hx,_⟩:=Qu7 hf
  have:=h2 x (List.mem_of_getElem? hx)
  rw [Qbj (by simp),Qrh,hx,Qab,ap1 (by simp; omega),Qab,Qab]
  simp [Qjp,hx]
theorem Q7i {r:Request} (h:(Qhm r == 0) = false) (us:List Int):Qvw r us = []:=by
 unfold Qvw Qh8
 rw [h]
 apply List.filter_eq_nil_iff.2
 intro u _
 simp; omega
theorem Q84 {fu:Nat} {r:Request} (h:Sm fu r) (hc:Qhm r = 0):Qcl fu r = some (Qh8 r):=Jbe h hc
theorem Q1b {α:Type} {out:List α} (h:out ≠ []):∃ l,out.getLast? = some l ∧ ix out ((out.length:Int) - 1) = some l:=by
 cases hl:out.getLast? with
 | none=>exact absurd (List.getLast?_eq_none_iff.1 hl) h
 | some l =>
  have hp:=List.length_pos_iff.2 h
  refine ⟨l,rfl,?_⟩
  rw [show (out.length:Int) - 1 = ((out.length - 1:Nat):Int) by omega,Qrh,← List.getLast?_eq_getElem?,hl]
theorem Jdc {fu:Nat} {r:Request} (h:Sm fu r) (us:List Int) (hl:us.length ≤ 1048575):Qo3 fu r us = some (nfM r us):=by
 have hfu:=h.fu
 have htl:=Q1m r us
 unfold Qo3 nfM
 rw [Qyw h,Qab]
 cases hc:Qhm r == 0
 · rw [show (Qhm r != 0) = true by simp only [bne,hc]; rfl,cond_true,Q7i hc]; rfl
 · have hz:Qhm r = 0:=by simpa using hc
   rw [show (Qhm r != 0) = false by simp [hz],cond_false,Q84 h hz,Qab,Q8j h us (by omega),Qab]
   unfold Qsb
   rw [Q8m h,Qab,Q84 h hz,Qab]
   have key:=lpI (Qvw r us) (fun n (o:List (List Int)) i=>Qfv fu r (Qvw r us) (Qwd (Qsh r r.fMaster)) (Qh8 r) n o i) (fun xs o=>some (xs.foldl (Q8t r) o)) (fun xs o=>∃ m,m + xs.length ≤ 1048575 ∧ okG m o) (by omega) ?_ ?_ fu [] ⟨0,by omega,by simp,by simp⟩ (by omega)
   · rw [key]; rfl
   · intro n o i u xs hx hd hI ih
     obtain ⟨m,hm,ho⟩:=hI
     simp only [List.length_cons] at hm
     have h1:=ho.1
     have h2:=ho.2
     have hI':=ih (Q8t r o u) ⟨m + 1,by omega,Q67 u ho⟩
     simp only [Qfv.eq_2]
     unfold Qnb Qh4
     rw [hd,cond_true,List.foldl_cons,← hI',Qcj (by omega) (by omega)]
     by_cases he:o = []
     · subst he
       rw [decide_eq_false (by simp),cond_false,hx,Qab,ap1 (by simp),Qab]; rfl
     · obtain ⟨l,e1,e2⟩:=Q1b he
       have hp:=List.length_pos_iff.2 he
       have hll:=h2 l (List.mem_of_getLast? e1)
       rw [decide_eq_true (by omega),cond_true,e2,Qab,hx,Qab,Jaj,Q3v r _ l u (by omega) (by omega),Qab]
       rw [Q2m u e1]
       unfold Q5v
       cases Q3a r (l ++ [u]) (Qxg r)
       · rw [cond_false,cond_false,Qab,ap1 (by simp; omega),Qab]
       · rw [cond_true,cond_true,Qab,Qab,ap1 (by simp; omega),Qab,Qab]
         rw [show Qjp o ((o.length:Int) - 1) (l ++ [u]) = o.set (o.length - 1) (l ++ [u]) by unfold Qjp; congr 1; omega]
   · intro n o i hd _
     simp only [Qfv.eq_2]
     unfold Qnb
     rw [hd,cond_false]; rfl
theorem Jas {us:List Int} {p:Int} (h:0 ≤ p ∧ p < us.length):ix us p = some ((ix us p).getD 0):=by
 have:=Qz2 (l:=us) (i:=p.toNat) (by omega)
 rw [show ((p.toNat:Nat):Int) = p by omega] at this
 rw [this]; rfl
theorem Qzt {α β γ:Type} (f:γ → β → γ) (g:α → β):∀ (l:List α) (s:γ),(l.map g).foldl f s = l.foldl (fun s x=>f s (g x)) s
 | [],_=>rfl
 | x :: l,s=>by rw [List.map_cons,List.foldl_cons,List.foldl_cons,Qzt f g l]
theorem Jcj {fu:Nat} {r:Request} (h:Sm fu r) (us:List Int) (hl:us.length < 20):Qns fu r us = some (ffM r us):=by
 have hfu:=h.fu
 have htl:=Q1m r us
 unfold Qns ffM Jcf
 rw [Qyw h,Qab]
 cases hc:Qhm r == 0
 · rw [show (Qhm r != 0) = true by simp only [bne,hc]; rfl,cond_true,Q7i hc]; rfl
 · have hz:Qhm r = 0:=by simpa using hc
   rw [show (Qhm r != 0) = false by simp [hz],cond_false,Q84 h hz,Qab,Q8j h us (by omega),Qab]
   unfold Qrq
   rw [Q8m h,Qab,Q84 h hz,Qab]
   generalize Qvw r us = t at htl ⊢
   have key:=lpI t (fun n (o:List Int) i=>Qgc fu r t (Qwd (Qsh r r.fMaster)) (Qh8 r) n o i) (fun xs o=>Qad (Qgo fu (o ++ xs.map fun u=>Qyv r [u])) fun x=>Qco fu r t (Qwd (Qsh r r.fMaster)) (Qh8 r) x fu [] 0) (fun xs o=>o.length + xs.length ≤ 20) (by omega) ?_ ?_ fu [] (by simp; omega) (by omega)
   · rw [key,List.nil_append,Jae hfu (by simp; omega),Qab,Qzt,List.length_map]
     have hsl:=Qu0 (dnk (t.map fun u=>Qyv r [u])) t.length
     have hsm:=fun x=>Q0c (k:=dnk (t.map fun u=>Qyv r [u])) (n:=t.length) (x:=x)
     generalize srt (dnk (t.map fun u=>Qyv r [u])) t.length = S at hsl hsm ⊢
     have key1:=lpI S (fun n (o:List (List Int)) i=>Qco fu r t (Qwd (Qsh r r.fMaster)) (Qh8 r) S n o i) (fun xs o=>some (xs.foldl (fun s p=>Jdd r s ((ix t p).getD 0)) o)) (fun xs o=>(∃ m,m + xs.length ≤ 20 ∧ okG m o) ∧ ∀ p ∈ xs,0 ≤ p ∧ p < t.length) (by omega) ?_ ?_ fu [] ⟨⟨0,by omega,by simp,by simp⟩,fun p hp=>(hsm p).1 hp⟩ (by omega)
     · rw [key1]; rfl
     · intro n o i p xs hx hd hI ih
       obtain ⟨⟨m,hm,ho⟩,hin⟩:=hI
       simp only [List.length_cons] at hm
       have hp:=Jas (hin p (by simp))
       have ho1:=ho.1
       simp only [Qco.eq_2]
       unfold Qle
       rw [hd,cond_true,hx,Qab,hp,Qab,List.foldl_cons]
       generalize (ix t p).getD 0 = u
       obtain ⟨K,hK⟩:∃ K,K = Qco fu r t (Qwd (Qsh r r.fMaster)) (Qh8 r) S n:=⟨_,rfl⟩
       rw [← hK] at ih ⊢
       obtain ⟨R,hR⟩:∃ R:Int → Option (List (List Int)),R = fun a=>bif (decide (a < 0)) then Qad (Qh3 24 o [([u]:List Int)]) fun x=>K x (w64 (i + 1)) else Qad (ix o a) fun x=>Qad (Qh3 8 x (([u]:List Int))) fun y=>Qad (ix o a) fun z=>K (Qjp o a y) (w64 (i + 1)):=⟨_,rfl⟩
       have hD:=lpD o.length (fun n a j=>Qe3 fu K r (Qwd (Qsh r r.fMaster)) (Qh8 r) o i u n a j) (fun xs a=>R (xs.foldl (Ja0 (Q5v r u) o) a)) (by omega) ?_ ?_ fu (-1) (by omega)
       · rw [hD,hR]
         refine (Jce (g:=Q5v r u) (c:=u) ho (by omega) (fun x=>K x (w64 (i + 1))) _ ?_).trans (ih _ ⟨⟨m + 1,by omega,Q8r u ho⟩,fun q hq=>hin q (by simp [hq])⟩)
         rw [Qxy (Q5v r u) o o.length (-1) (Nat.le_refl _),List.take_length]
         cases Qvv (Q5v r u) o <;> rfl
       · intro n a j xs h0 h1 hd ih
         simp only [Qe3.eq_2]
         unfold Qk7 Qjw
         obtain ⟨j,rfl⟩:∃ q:Nat,j = q:=⟨j.toNat,by omega⟩
         have hj:j < o.length:=by omega
         have hg:=ho.2 _ (List.getElem_mem hj)
         rw [hd,cond_true,Qz2 hj,Qab,Jaj,Q3v r _ _ u (by omega) (by omega),Qab]
         have e:Ja0 (Q5v r u) o a (j:Int) = bif Q3a r (o[j] ++ [u]) (Qxg r) then (j:Int) else a:=by unfold Ja0 atB Q5v; rw [Qz2 hj]
         simp only [ih,List.foldl_cons,e]
         cases Q3a r (o[j] ++ [u]) (Qxg r) <;> rfl
       · intro n a j hd
         simp only [Qe3.eq_2]
         unfold Qk7 Qjm
         rw [hd,cond_false,hR]; rfl
     · intro n o i hd _
       simp only [Qco.eq_2]
       unfold Qle
       rw [hd,cond_false]; rfl
   · intro n o i u xs hx hd hI ih
     simp only [List.length_cons] at hI
     obtain ⟨i0,i1,i2⟩:=Qas hx
     have e:sls t i (w64 (i + 1)) = some [u]:=by
      rw [Qcj (by omega) (by omega),Qtc (by omega)]
      congr 1
      rw [show (i + 1).toNat - i.toNat = 1 by omega]
      have hlt:=(List.getElem?_eq_some_iff.1 i2).1
      have heq:=(List.getElem?_eq_some_iff.1 i2).2
      rw [List.drop_eq_getElem_cons hlt,heq]; rfl
     simp only [Qgc.eq_2]
     unfold Qk0
     rw [hd,cond_true,e,Qab,Q6l r [u] (by simp) (by simp; omega),Qab,ap1 (by simp; omega),Qab,ih _ (by simp; omega)]
     simp
   · intro n o i hd _
     simp only [Qgc.eq_2]
     unfold Qk0
     rw [hd,cond_false]; simp
theorem Jge {fu:Nat} {r:Request} (h:Sm fu r) (us:List Int) (hl:us.length < 20):Qo6 fu r us = some (pwM r us):=by
 unfold Qo6 pwM
 rw [Jdc h us (by omega),Jcj h us hl]
 cases r.fWay == 1 <;> rfl
end Go.Proofs.YtkkfmjpbiimkbaaGreat
/- Holds and Cheapest, by spec and by impl. -/
namespace Go.Proofs.YtkkfmjpbiimkbaaGreat
open Go
open Enc (rd ow)
open Arg (argv)
open Ret (retv)
open Wf (wf)
theorem Q1o {α:Type} {p q:α → Bool}:∀ {l:List α},(∀ x ∈ l,p x = q x) → l.all p = l.all q
 | [],_=>rfl
 | x :: xs,h=>by rw [List.all_cons,List.all_cons,h x (by simp),Q1o fun y hy=>h y (by simp [hy])]
def uOk (r:Request) (t:Typ) (u:Int):Bool:=(Q1e r u).isSome && Qzn (Qtp r u) t
def Qxm (r:Request) (us:List Int) (t:Typ):Bool:=Qhm r == 0 && (us.all (uOk r t) && Q3a r us t)
theorem Qv2 {r:Request} {u:Int}:(Q1e r u).isSome = true ↔ 0 ≤ u ∧ u < (Qh8 r).length:=by
 constructor
 · intro h
   apply Decidable.byContradiction
   intro hn
   rw [Q0d hn] at h
   cases h
 · intro h
   rw [Quv h]; rfl
theorem Q3i {fu:Nat} {r:Request} (h:Sm fu r) (us:List Int) (t:Typ) (hl:us.length ≤ 1048576):Qnx fu r us t = some (Qxm r us t):=by
 have hfu:=h.fu
 have hil:=Qvs r us
 unfold Qnx Qxm
 rw [Qu6 h,Qab]
 cases hc:Qhm r == 0
 · rfl
 · rw [Bool.not_true,cond_false,Ja7 h us hl,Qab,Bool.true_and]
   by_cases ha:∀ u ∈ us,0 ≤ u ∧ u < (Qh8 r).length
   · have e:Qvw r us = us:=List.filter_eq_self.2 fun u hu=>by have:=ha u hu; simp; omega
     have e0:((us.length:Int) != (us.length:Int)) = false:=by simp
     rw [e,e0,cond_false]
     unfold Qq1
     rw [Q0q h us hl (by omega),Qab,Qvt _ (fun x=>!Qzn x t) ?_ (by omega) (by omega),Qab]
     · rw [Q85 h t us hl,Qab,Q06 ha,List.any_map]
       have e1:us.all (uOk r t) = !(us.any ((fun x=>!Qzn x t) ∘ Qtp r)):=by
        rw [List.not_any_eq_all_not]
        apply Q1o
        intro u hu
        simp only [uOk,Qv2.2 (ha u hu),Bool.true_and,Function.comp,Bool.not_not]
       rw [e1]
       cases us.any ((fun x=>!Qzn x t) ∘ Qtp r) <;> simp
     · intro x _
       unfold Qru
       rw [Jef,Qab]
   · have hlt:(Qvw r us).length < us.length:=by
       apply Decidable.byContradiction
       intro hn
       apply ha
       have e:(us.filter fun u=>inb u 0 (((Qh8 r).length:Int) - 1)).length = us.length:=by
        have:=List.length_filter_le (fun u=>inb u 0 (((Qh8 r).length:Int) - 1)) us
        have e':Qvw r us = us.filter fun u=>inb u 0 (((Qh8 r).length:Int) - 1):=rfl
        rw [e'] at hn
        omega
       intro u hu
       have:=List.length_filter_eq_length_iff.1 e u hu
       simp at this
       omega
     have e0:(((Qvw r us).length:Int) != (us.length:Int)) = true:=by simp; omega
     rw [e0,cond_true]
     have e1:us.all (uOk r t) = false:=by
      apply Bool.eq_false_iff.2
      intro he
      apply ha
      intro u hu
      have:=List.all_eq_true.1 he u hu
      simp only [uOk,Bool.and_eq_true] at this
      exact Qv2.1 this.1
     rw [e1,Bool.false_and]
theorem Q7g {fu:Nat} {r:Request} (h:Sm fu r) (us:List Int) (t:Typ) (hl:us.length ≤ 1048576):Qqd fu r us t = some (Qxm r us t):=by
 have hfu:=h.fu
 unfold Qqd Qxm
 rw [Qyw h,Qab]
 cases hc:Qhm r == 0
 · have:(Qhm r != 0) = true:=by simp only [bne,hc]; rfl
   rw [this]; rfl
 · have:(Qhm r != 0) = false:=by simp only [bne,hc]; rfl
   have hz:Qhm r = 0:=by simpa using hc
   have hu:Qcl fu r = some (Qh8 r):=Jbe h hz
   rw [this,cond_false,hu,Qab,Bool.true_and]
   have key:=lp us (fun n (_:Unit) i=>Qfe fu r us t (Qh8 r) n i) (fun l _=>some (l.all (uOk r t) && Q3a r us t)) (by omega) ?_ ?_ fu () (by omega)
   · exact key
   · intro n _ i x xs hx hd ih
     simp only [Qfe.eq_2]
     unfold Qos Qqr Qq7
     simp only [hd,cond_true,hx,Qab,Q4t,ih (),List.all_cons,uOk]
     cases (Q1e r x).isSome
     · rfl
     · simp only [Bool.not_true,cond_false,Jba (show 2097153 ≤ fu by omega),Qab]
       cases Qzn (Qtp r x) t <;> rfl
   · intro n _ i hd
     simp only [Qfe.eq_2]
     unfold Qos Qql
     simp only [hd,cond_false,Q6l r us hl (show us.length < fu by omega),Qab,Ja4]
     show (bif decide (Qyv r us ≤ Q8x t) then _ else _) = _
     unfold Q3a
     cases decide (Qyv r us ≤ Q8x t) <;> simp
def chp (r:Request) (us:List Int) (s:Typ × Bool) (t:Typ):Typ × Bool :=
 bif Qxm r us t && (!s.2 || (decide (t.fCost < s.1.fCost) || (t.fCost == s.1.fCost && decide (t.fId < s.1.fId)))) then (t,true) else s
def Qwr (r:Request) (us:List Int):Typ × Bool:=r.fTypes.foldl (chp r us) (Jee,false)
theorem Jch {fu:Nat} {r:Request} (h:Sm fu r) (us:List Int) (hl:us.length ≤ 1048576):Qnv fu r us = some (Qwr r us):=by
 have hfu:=h.fu
 have ht:=h.types
 unfold Qnv
 have key:=lp r.fTypes (fun n (s:Typ × Bool) i=>Qeh fu r us n s.1 s.2 i) (fun l s=>some (l.foldl (chp r us) s)) (by omega) ?_ ?_ fu (Jee,false) (by omega)
 · exact key
 · intro n s i x xs hx hd ih
   simp only [Qeh.eq_2]
   unfold Qjf Qdn
   have ih':=fun a b=>ih (a,b)
   simp only at ih'
   obtain ⟨b,f⟩:=s
   simp only [hd,cond_true,hx,Qab,Q3i h us x hl,ih',List.foldl_cons,chp]
   cases Qxm r us x <;> cases f <;> cases decide (x.fCost < b.fCost) <;> cases x.fCost == b.fCost <;> cases decide (x.fId < b.fId) <;> rfl
 · intro n s i hd
   simp only [Qeh.eq_2]
   unfold Qjf
   simp only [hd,cond_false]
   rfl
theorem Q57 {fu:Nat} {r:Request} (h:Sm fu r) (us:List Int) (hl:us.length ≤ 1048576):Qj6 fu r us = some (Qwr r us):=by
 have hfu:=h.fu
 have ht:=h.types
 unfold Qj6
 have key:=lp r.fTypes (fun n (s:Typ × Bool) i=>Qej fu r us n s.1 s.2 i) (fun l s=>some (l.foldl (chp r us) s)) (by omega) ?_ ?_ fu (Jee,false) (by omega)
 · exact key
 · intro n s i x xs hx hd ih
   simp only [Qej.eq_2]
   unfold Qi1 Qdt
   have ih':=fun a b=>ih (a,b)
   simp only at ih'
   obtain ⟨b,f⟩:=s
   simp only [hd,cond_true,hx,Qab,Q7g h us x hl,ih',List.foldl_cons,chp]
   cases Qxm r us x <;> cases f <;> cases decide (x.fCost < b.fCost) <;> cases x.fCost == b.fCost <;> cases decide (x.fId < b.fId) <;> rfl
 · intro n s i hd
   simp only [Qej.eq_2]
   unfold Qi1
   simp only [hd,cond_false]
   rfl
end Go.Proofs.YtkkfmjpbiimkbaaGreat
/- The units of a group, by spec and by impl. -/
namespace Go.Proofs.YtkkfmjpbiimkbaaGreat
open Go
open Enc (rd ow)
open Arg (argv)
open Ret (retv)
open Wf (wf)
def Jg2 (r:Request) (k:Int):Bool:=inb k 0 (((Qna r).length:Int) - 1)
theorem Q5g {r:Request} {k:Int} (h:Jg2 r k = true):Qhm r = 0:=by
 unfold Jg2 at h
 rw [Qfu] at h
 by_cases hc:Qhm r = 0
 · exact hc
 · have:Qna r = []:=by
     unfold Qna Qyu
     rw [show (Qhm r == 0) = false by simp [hc]]
     rfl
   rw [this] at h
   simp at h
   omega
theorem Q93 (r:Request) (g:List Int) (u i:Int) (us:List Int) {x:Item} (hx:ix r.fItems i = some x):ofG r g u (i :: us) = bif g.contains x.fClass then u :: ofG r g (u + 1) us else ofG r g (u + 1) us:=by
 rw [ofG,hx]
theorem Jf2 {fu:Nat} {r:Request} (h:Sm fu r) (k:Int):Qo9 fu r k = some (Q6b r k):=by
 have hfu:=h.fu
 unfold Qo9 Q6b
 rw [Q9o h,Qab,Ja5,Qzv,Qab]
 cases hg:inb k 0 (((Qna r).length:Int) - 1)
 · rw [Bool.not_false,cond_true]
   have:ix (Qna r) k = none:=by
    have hk:¬ (0 ≤ k ∧ k ≤ ((Qna r).length:Int) - 1):=by intro hk; rw [(Qfu).2 hk] at hg; cases hg
    unfold ix
    by_cases h0:0 ≤ k
    · rw [if_pos h0,List.getElem?_eq_none (by omega)]
    · rw [if_neg h0]
   rw [this]
 · have hc:=Q5g hg
   rw [Qfu] at hg
   obtain ⟨j,rfl⟩:∃ j:Nat,k = j:=⟨k.toNat,by omega⟩
   have hj:j < (Qna r).length:=by omega
   have hgl:=(Qtr r).2 _ (List.getElem_mem hj)
   rw [Bool.not_true,cond_false,Jgn h (Qf7 hc).1,Qab,Qz2 hj]
   have e:Qh8 r = l6M r:=by unfold Qh8; rw [show (Qhm r == 0) = true by simp [hc],cond_true]
   simp only [e]
   have hlen:(l6M r).length ≤ 12:=Q73 (Qf7 hc).1
   have:=Jcm (l6M r) (fun n out i=>Qfb fu r (j:Int) (Qna r) (l6M r) n out i) (fun pre xs out=>some (out ++ ofG r (Qna r)[j] (pre.length:Int) xs)) (fun pre xs out=>out.length + xs.length ≤ 12) (by omega) ?_ ?_ fu [] (by simpa using hlen) (by omega)
   · simpa using this
   · intro n out pre i xs hl hx hd hI ih
     simp only [List.length_cons] at hI
     have hi:i ∈ Qh8 r:=by rw [e,hl]; simp
     have hi2:=Q37 hi
     obtain ⟨q,rfl⟩:∃ q:Nat,i = q:=⟨i.toNat,by omega⟩
     have hq:q < r.fItems.length:=by omega
     simp only [Qfb.eq_2]
     unfold Qlk Qjs
     simp only [hd,cond_true,hx,Qab,Qz2 hj,Qz2 hq,Jbh (show (Qna r)[j].length ≤ 1048576 by omega) (show (Qna r)[j].length < fu by omega)]
     rw [Q93 r _ _ _ _ (Qz2 hq)]
     cases (Qna r)[j].contains r.fItems[q].fClass
     · rw [cond_false,cond_false,ih _ (by omega)]
       simp
     · rw [cond_true,cond_true,ap1 (by simp; omega),Qab,ih _ (by simp; omega)]
       simp
   · intro n out hd hI
     simp only [Qfb.eq_2]
     unfold Qlk
     simp only [hd,cond_false]
     simp [ofG]
end Go.Proofs.YtkkfmjpbiimkbaaGreat
/- CartonsOf of spec and of impl. -/
namespace Go.Proofs.YtkkfmjpbiimkbaaGreat
open Go
open Enc (rd ow)
open Arg (argv)
open Ret (retv)
open Wf (wf)
def Jeq (l:List Int):List Int:=l.mergeSort fun x y=>decide (x ≤ y)
theorem Qxl (l:List Int):(Jeq l).Perm l:=List.mergeSort_perm l _
theorem Q88 (l:List Int):(Jeq l).length = l.length:=(Qxl l).length_eq
def Q91 (r:Request) (k:Int) (l:List Int):Carton:=⟨(Qwr r l).1.fId,k,Jeq l⟩
def Q5r (r:Request) (k:Int):List Carton:=(pwM r (Q6b r k)).map (Q91 r k)
def Q2s (r:Request):List Int → List Carton
 | []=>[]
 | k :: ks=>Q5r r k ++ Q2s r ks
def Q05 (r:Request):List Carton:=Q2s r (Qka 0 (Qna r).length)
theorem Q6g (l:List Int):(Qka 0 l.length).map (fun p=>(ix l p).getD 0) = l:=by
 have key:∀ (xs pre:List Int),l = pre ++ xs → (Qka pre.length xs.length).map (fun p=>(ix l p).getD 0) = xs:=by
  intro xs
  induction xs with
  | nil=>intro pre _; rfl
  | cons x xs ih =>
   intro pre he
   have h1:=ih (pre ++ [x]) (by simp [he])
   simp only [List.length_append,List.length_singleton] at h1
   simp only [List.length_cons,Qka,List.map_cons]
   rw [show ((pre.length:Int) + 1) = ((pre.length + 1:Nat):Int) by omega,h1]
   congr 1
   rw [Qrh,he]
   simp
 exact key l [] rfl
theorem Jb2 (l:List Int):(srt (kf l) l.length).map (fun p=>(ix l p).getD 0) = Jeq l:=by
 refine Q69 ?_ ?_ (Qry l)
 · refine ((Quc _ _).map _).trans ?_
   rw [Q6g]
   exact (Qxl l).symm
 · refine List.pairwise_map.2 ((Qv1 (kf l) l.length).imp fun {p q} h=>?_)
   unfold lx kf at h
   omega
theorem Q90 {r:Request} (k:Int):(Q5r r k).length ≤ 12:=by
 have:=(Q7z (r:=r) (Q0j r k)).1
 simp [Q5r]; omega
theorem Jfw {fu:Nat} {r:Request} (h:Sm fu r):Ql6 fu r = some (Q05 r):=by
 have hfu:=h.fu
 have hg:=(Qtr r).1
 unfold Ql6 Q05
 rw [Q9o h,Qab]
 have:=Q82 ((Qna r).length:Int) (fun n out i=>Qbf fu r (Qna r) n out i) (fun xs out=>some (out ++ Q2s r xs)) (fun xs out=>out.length + 12 * xs.length ≤ 48) (by omega) ?_ ?_ (Qna r).length fu [] 0 (by omega) (by omega) (by omega) (by simp [Qei]; omega)
 · simpa using this
 · intro n out k ks h0 h1 hd hI ih
   simp only [List.length_cons] at hI
   have hul:=Q0j r k
   have hpo:=Q7z (r:=r) hul
   simp only [Qbf.eq_2]
   unfold Qik
   rw [hd,cond_true,Jf2 h,Qab,Jge h _ (by omega),Qab]
   have key:=lpI (pwM r (Q6b r k)) (fun m o i=>Qb3 fu (Qbf fu r (Qna r) n) r k (pwM r (Q6b r k)) m o i) (fun xs o=>Qbf fu r (Qna r) n (o ++ xs.map (Q91 r k)) (w64 (k + 1))) (fun xs o=>o.length + xs.length ≤ 48 ∧ ∀ l ∈ xs,l.length ≤ 12) (by have:=hpo.1; omega) ?_ ?_ fu out ⟨by have:=hpo.1; omega,hpo.2⟩ (by have:=hpo.1; omega)
   · rw [key,ih _ (by have:=hpo.1; simp; omega)]
     simp [Q2s,Q5r]
   · intro m o i l xs hx hd hI ih
     obtain ⟨h2,h3⟩:=hI
     simp only [List.length_cons] at h2
     have hl:=h3 l (by simp)
     simp only [Qb3.eq_2]
     unfold Qih Qkw
     rw [hd,cond_true,hx,Qab,Q57 h l (by omega),Qab,Qab,Jgr hfu (by omega),Qab]
     have hsl:=Qu0 (kf l) l.length
     have hsm:=fun x=>Q0c (k:=kf l) (n:=l.length) (x:=x)
     have hsg:=Jb2 l
     generalize srt (kf l) l.length = S at hsl hsm hsg ⊢
     have k1:=lpI S (fun m' us j=>Qey fu (Qb3 fu (Qbf fu r (Qna r) n) r k (pwM r (Q6b r k)) m) k (pwM r (Q6b r k)) o i (Qwr r l).1 S m' us j)
      (fun xs us=>Qad (Qh3 40 o [(⟨(Qwr r l).1.fId,k,us ++ xs.map fun p=>(ix l p).getD 0⟩:Carton)]) fun x=>Qhi fu (Qb3 fu (Qbf fu r (Qna r) n) r k (pwM r (Q6b r k)) m) i x) (fun xs us=>us.length + xs.length ≤ 12 ∧ ∀ p ∈ xs,0 ≤ p ∧ p < l.length) (by omega) ?_ ?_ fu [] ⟨by simp; omega,fun p hp=>(hsm p).1 hp⟩ (by omega)
     · rw [k1,List.nil_append,hsg,ap1 (by simp; omega),Qab]
       unfold Qhi
       rw [ih _ ⟨by simp; omega,fun y hy=>h3 y (by simp [hy])⟩]
       simp [Q91]
     · intro m' us j p ps hp hd hI ih
       obtain ⟨h4,h5⟩:=hI
       simp only [List.length_cons] at h4
       simp only [Qey.eq_2]
       unfold Qid
       rw [hd,cond_true,hx,Qab,hp,Qab,Jas (h5 p (by simp)),Qab,ap1 (by simp; omega),Qab,ih _ ⟨by simp; omega,fun y hy=>h5 y (by simp [hy])⟩]
       simp
     · intro m' us j hd _
       simp only [Qey.eq_2]
       unfold Qid
       rw [hd,cond_false]; simp
   · intro m o i hd _
     simp only [Qb3.eq_2]
     unfold Qih Qkp
     rw [hd,cond_false]; simp
 · intro n out k hd _
   simp only [Qbf.eq_2]
   unfold Qik
   rw [hd,cond_false]; simp [Q2s]
theorem Q3y (r:Request):∀ (ks:List Int),(Q2s r ks).length ≤ 12 * ks.length
 | []=>by simp [Q2s]
 | k :: ks=>by
  have:=Q3y r ks
  have:=Q90 (r:=r) k
  simp [Q2s]; omega
theorem Q1t (r:Request):(Q05 r).length ≤ 48:=by
 have:=Q3y r (Qka 0 (Qna r).length)
 have hg:=(Qtr r).1
 rw [Qei] at this
 unfold Q05
 omega
theorem Q41 {r:Request} {c:Carton}:∀ {ks:List Int},c ∈ Q2s r ks ↔ ∃ k ∈ ks,∃ l ∈ pwM r (Q6b r k),c = Q91 r k l
 | []=>by simp [Q2s]
 | k :: ks=>by
  simp only [Q2s,List.mem_append,Q41 (ks:=ks),List.mem_cons,Q5r,List.mem_map]
  constructor
  · rintro (⟨l,hl,rfl⟩ | ⟨k',hk,l,hl,e⟩)
    · exact ⟨k,.inl rfl,l,hl,rfl⟩
    · exact ⟨k',.inr hk,l,hl,e⟩
  · rintro ⟨k',rfl | hk,l,hl,rfl⟩
    · exact .inl ⟨l,hl,rfl⟩
    · exact .inr ⟨k',hk,l,hl,rfl⟩
theorem Q10 {r:Request} {c:Carton} (h:c ∈ Q05 r):c.fUnits.length ≤ 12:=by
 obtain ⟨k,_,l,hl,rfl⟩:=Q41.1 h
 have:=(Q7z (r:=r) (Q0j r k)).2 l hl
 simp only [Q91,Q88]
 omega
end Go.Proofs.YtkkfmjpbiimkbaaGreat
/- Transitive of spec and of impl; where it is, groups are apart. -/
namespace Go.Proofs.YtkkfmjpbiimkbaaGreat
open Go
open Enc (rd ow)
open Arg (argv)
open Ret (retv)
open Wf (wf)
theorem Ja6 {α:Type} (l:List α) (L:Nat → Int → Option Bool) (g:α → Bool) (fin:Option Bool) (hl:l.length ≤ 1099511627776)
    (hs:∀ n (i:Int) x,ix l i = some x → decide (i < (l.length:Int)) = true → L (n + 1) i = bif g x then L n (w64 (i + 1)) else some false)
    (he:∀ n (i:Int),decide (i < (l.length:Int)) = false → L (n + 1) i = fin):∀ n,l.length < n → L n 0 = bif l.all g then fin else some false:=by
 intro n hn
 refine lp l (fun n (_:Unit) i=>L n i) (fun xs _=>bif xs.all g then fin else some false) hl ?_ ?_ n () hn
 · intro n s i x xs hx hd ih
   rw [hs n i x hx hd,ih (),List.all_cons]
   cases g x <;> rfl
 · intro n s i hd
   rw [he n i hd]; rfl
structure Sep (p:List Pair) (P:List Int) (out:List (List Int)):Prop where
 ne:∀ g ∈ out,g ≠ []
 inn:∀ g ∈ out,∀ x ∈ g,x ∈ P
 one:∀ g ∈ out,∀ x ∈ g,∀ y ∈ g,x ≠ y → Q1f p x y = true
 two:∀ (i j:Nat) (g h:List Int),out[i]? = some g → out[j]? = some h → i ≠ j → ∀ x ∈ g,∀ y ∈ h,Q1f p x y = false
end Go.Proofs.YtkkfmjpbiimkbaaGreat
/- spec's TypeById. -/
namespace Go.Proofs.YtkkfmjpbiimkbaaGreat
open Go
open Enc (rd ow)
open Arg (argv)
open Ret (retv)
open Wf (wf)
theorem Qx7 {fu:Nat} {r:Request} (h:Sm fu r) (id:Int):Qhl fu r id = some (Qwd (Qsh r id)):=by
 have hfu:=h.fu
 have ht:=h.types
 unfold Qhl Qsh
 refine lp r.fTypes (fun n (_:Unit) i=>Qfr fu r id n i) (fun l _=>some (Qwd (l.find? fun t=>t.fId == id))) (by omega) ?_ ?_ fu () (by omega)
 · intro n s i x xs hx hd ih
   simp only [Qfr.eq_2]
   unfold Qiz
   simp only [hd,cond_true,hx,Qab,ih (),List.find?_cons]
   cases x.fId == id <;> rfl
 · intro n s i hd
   simp only [Qfr.eq_2]
   unfold Qiz
   simp only [hd,cond_false]
   rfl
end Go.Proofs.YtkkfmjpbiimkbaaGreat
/- Gross and BoxOf, by spec and by impl. -/
namespace Go.Proofs.YtkkfmjpbiimkbaaGreat
open Go
open Enc (rd ow)
open Arg (argv)
open Ret (retv)
open Wf (wf)
def Jgx:Box:=⟨0,0,0,0⟩
def Q5u (r:Request) (x:Carton):Int:=match Qsh r x.fType with
 | some t=>bif Qhm r == 0 then t.fTare + Qvl r x.fUnits else 0
 | none=>0
def Qug (r:Request) (x:Carton):Box:=match Qsh r x.fType with
 | some t=>bif Qhm r == 0 then ⟨t.fW,t.fD,t.fH,t.fTare + Qvl r x.fUnits⟩ else Jgx
 | none=>Jgx
theorem Jeb {r:Request} (hc:Qhm r = 0) {id:Int} {t:Typ} (ht:Qsh r id = some t):Q0n t = true ∧ t ∈ r.fTypes ∧ t.fId = id:=by
 have hm:=List.mem_of_find?_eq_some ht
 have hp:=List.find?_some ht
 exact ⟨Qx3 (Qf7 hc).1 t hm,hm,by simpa using hp⟩
theorem Q7u {r:Request} (hc:Qhm r = 0) {id:Int} {t:Typ} (ht:Qsh r id = some t):0 ≤ t.fTare ∧ t.fTare ≤ 100000:=by
 have:=(Jeb hc ht).1
 simp only [Q0n,Bool.and_eq_true,Qfu] at this
 omega
theorem Q36 {r:Request} (hc:Qhm r = 0) {id:Int} {t:Typ} (ht:Qsh r id = some t) (us:List Int) (hl:us.length ≤ 1048576):w64 (t.fTare + Qvl r us) = t.fTare + Qvl r us:=by
 have h1:=Q7u hc ht
 have h2:=Q2z r us
 exact Qcj (by omega) (by omega)
theorem Q6z {fu:Nat} {r:Request} (h:Sm fu r) (x:Carton) (hl:x.fUnits.length ≤ 1048576):Qqb fu r x = some (Q5u r x):=by
 have hfu:=h.fu
 unfold Qqb Q5u
 rw [Qt8 h,Qab,Qz3]
 cases ht:Qsh r x.fType with
 | none=>rfl
 | some t =>
  rw [Qu6 h]
  simp only [Option.isSome_some,Bool.not_true,cond_false,Qab]
  cases hc:Qhm r == 0
  · rfl
  · have hc':Qhm r = 0:=by simpa using hc
    unfold Qq4
    rw [Jc8 h _ hl (by omega)]
    simp only [Bool.not_true,cond_false,cond_true,Qab,Qwd,Q36 hc' ht _ hl]
theorem Q75 {fu:Nat} {r:Request} (h:Sm fu r) (x:Carton) (hl:x.fUnits.length ≤ 1048576):Qp6 fu r x = some (Q5u r x):=by
 have hfu:=h.fu
 unfold Qp6 Q5u
 rw [Qx7 h,Qab,Qz3,Qyw h,Qab]
 cases hc:Qhm r == 0
 · have:(Qhm r != 0) = true:=by simp only [bne,hc]; rfl
   rw [this]
   cases Qsh r x.fType <;> rfl
 · have hc':Qhm r = 0:=by simpa using hc
   rw [show (Qhm r != 0) = false by simp [hc'],cond_false]
   cases ht:Qsh r x.fType with
   | none=>rfl
   | some t =>
    unfold Qra
    rw [Jfo h _ hl (by omega)]
    simp only [Option.isSome_some,Bool.not_true,cond_false,cond_true,Qab,Qwd,Q36 hc' ht _ hl]
theorem Q3u {fu:Nat} {r:Request} (h:Sm fu r) (x:Carton) (hl:x.fUnits.length ≤ 1048576):Qkc fu r x = some (Qug r x):=by
 unfold Qkc Qug
 rw [Qt8 h,Qab,Qz3]
 cases ht:Qsh r x.fType with
 | none=>rfl
 | some t =>
  rw [Qu6 h]
  simp only [Option.isSome_some,Bool.not_true,cond_false,Qab]
  cases hc:Qhm r == 0
  · rfl
  · unfold Qqz
    rw [Q6z h x hl]
    simp only [Q5u,ht,hc,Bool.not_true,cond_false,cond_true,Qab,Qwd]
theorem Q4q {fu:Nat} {r:Request} (h:Sm fu r) (x:Carton) (hl:x.fUnits.length ≤ 1048576):Qke fu r x = some (Qug r x):=by
 unfold Qke Qug
 rw [Qx7 h,Qab,Qz3,Qyw h,Qab]
 cases hc:Qhm r == 0
 · have:(Qhm r != 0) = true:=by simp only [bne,hc]; rfl
   rw [this]
   cases Qsh r x.fType <;> rfl
 · have hc':Qhm r = 0:=by simpa using hc
   rw [show (Qhm r != 0) = false by simp [hc'],cond_false]
   cases ht:Qsh r x.fType with
   | none=>rfl
   | some t =>
    unfold Qqu
    rw [Q75 h x hl]
    simp only [Q5u,ht,hc,Option.isSome_some,Bool.not_true,cond_false,cond_true,Qab,Qwd]
end Go.Proofs.YtkkfmjpbiimkbaaGreat
/- Within, Overlap, Pallets: by spec and by impl. -/
namespace Go.Proofs.YtkkfmjpbiimkbaaGreat
open Go
open Enc (rd ow)
open Arg (argv)
open Ret (retv)
open Wf (wf)
def Q5f (b:Box) (s:Spot):Bool:=inb b.fW 0 2000 && (inb b.fD 0 2000 && (inb b.fH 0 2000 && (inb s.fX 0 2000 && (inb s.fY 0 2000 && inb s.fZ 0 2000))))
def Jao (p:Pallet) (b:Box) (s:Spot):Bool :=
 Q5f b s && (decide (b.fW > 0) && (decide (b.fD > 0) && (decide (b.fH > 0) && (decide (w64 (s.fX + b.fW) ≤ p.fW) && (decide (w64 (s.fY + b.fD) ≤ p.fD) && decide (w64 (s.fZ + b.fH) ≤ p.fH))))))
def Q8u (a la b lb:Int):Bool:=decide (a < w64 (b + lb)) && decide (b < w64 (a + la))
def Jaf (a:Box) (s:Spot) (b:Box) (t:Spot):Bool :=
 Q5f a s && (Q5f b t && (s.fPallet == t.fPallet && (Q8u s.fX a.fW t.fX b.fW && (Q8u s.fY a.fD t.fY b.fD && Q8u s.fZ a.fH t.fZ b.fH))))
theorem Q3l (fu:Nat) (n:Int):Qb9 fu n = some (inb n 0 2000):=by unfold Qb9; rw [Q2q]; rfl
theorem Jc0 (fu:Nat) (b:Box) (s:Spot):Qhq fu b s = some (Q5f b s):=by
 unfold Qhq Q5f
 simp only [Qzv,Qab]
 cases inb b.fW 0 2000 <;> cases inb b.fD 0 2000 <;> cases inb b.fH 0 2000 <;> cases inb s.fX 0 2000 <;> cases inb s.fY 0 2000 <;> cases inb s.fZ 0 2000 <;> rfl
theorem Jfs (fu:Nat) (b:Box) (s:Spot):Qol fu b s = some (Q5f b s):=by
 unfold Qol Q5f
 simp only [Q3l,Qab]
 cases inb b.fW 0 2000 <;> cases inb b.fD 0 2000 <;> cases inb b.fH 0 2000 <;> cases inb s.fX 0 2000 <;> cases inb s.fY 0 2000 <;> cases inb s.fZ 0 2000 <;> rfl
theorem Jgi (fu:Nat) (p:Pallet) (b:Box) (s:Spot):Qqn fu p b s = some (Jao p b s):=by
 unfold Qqn Jao
 simp only [Jc0,Qab]
 cases Q5f b s <;> cases decide (b.fW > 0) <;> cases decide (b.fD > 0) <;> cases decide (b.fH > 0) <;> cases decide (w64 (s.fX + b.fW) ≤ p.fW) <;> cases decide (w64 (s.fY + b.fD) ≤ p.fD) <;> rfl
theorem Q98 (n:Int):inb n 1 2000 = (inb n 0 2000 && decide (n > 0)):=by
 apply Bool.eq_iff_iff.2
 simp only [Qfu,Bool.and_eq_true,decide_eq_true_eq]
 omega
theorem Jej (fu:Nat) (p:Pallet) (b:Box) (s:Spot):Qoa fu p b s = some (Jao p b s):=by
 unfold Qoa Qpn Jao Q5f
 simp only [Q3l,Q4l,Qab,Q98]
 cases inb b.fW 0 2000 <;> cases inb b.fD 0 2000 <;> cases inb b.fH 0 2000 <;> cases inb s.fX 0 2000 <;> cases inb s.fY 0 2000 <;> cases inb s.fZ 0 2000 <;> simp
 all_goals cases decide (0 < b.fW) <;> cases decide (0 < b.fD) <;> cases decide (0 < b.fH) <;> simp
 all_goals cases decide (w64 (s.fX + b.fW) ≤ p.fW) <;> cases decide (w64 (s.fY + b.fD) ≤ p.fD) <;> simp
theorem Jdf (fu:Nat) (a la b lb:Int):Qhf fu a la b lb = some (Q8u a la b lb):=by
 unfold Qhf Q8u
 cases decide (a < w64 (b + lb)) <;> rfl
theorem Jev (fu:Nat) (a la b lb:Int):Qp8 fu a la b lb = some (Q8u a la b lb):=Jdf fu a la b lb
theorem Jfa (fu:Nat) (a:Box) (s:Spot) (b:Box) (t:Spot):Qo5 fu a s b t = some (Jaf a s b t):=by
 unfold Qo5 Jaf
 simp only [Jc0,Jdf,Qab]
 cases Q5f a s <;> cases Q5f b t <;> cases s.fPallet == t.fPallet <;> cases Q8u s.fX a.fW t.fX b.fW <;> cases Q8u s.fY a.fD t.fY b.fD <;> rfl
theorem Jc6 (fu:Nat) (a:Box) (s:Spot) (b:Box) (t:Spot):Qmg fu a s b t = some (Jaf a s b t):=by
 unfold Qmg Qot Jaf
 simp only [Jfs,Jev,Qab,bne]
 cases Q5f a s <;> cases Q5f b t <;> cases s.fPallet == t.fPallet <;> cases Q8u s.fX a.fW t.fX b.fW <;> cases Q8u s.fY a.fD t.fY b.fD <;> rfl
def Q8w (n:Int) (s:Spot):Int:=bif inb s.fPallet 0 999999 then (if s.fPallet + 1 > n then s.fPallet + 1 else n) else n
def Qv4 (l:List Spot):Int:=l.foldl Q8w 0
theorem Jbc {n:Int} (s:Spot) (h:0 ≤ n ∧ n ≤ 1000000):0 ≤ Q8w n s ∧ Q8w n s ≤ 1000000:=by
 unfold Q8w
 cases hi:inb s.fPallet 0 999999
 · exact h
 · have:=Qfu.1 hi
   simp only [cond_true]
   split <;> omega
theorem Q6u:∀ (l:List Spot) {n:Int},0 ≤ n ∧ n ≤ 1000000 → 0 ≤ l.foldl Q8w n ∧ l.foldl Q8w n ≤ 1000000
 | [],_,h=>h
 | s :: l,_,h=>Q6u l (Jbc s h)
theorem Q0m (l:List Spot):0 ≤ Qv4 l ∧ Qv4 l ≤ 1000000:=Q6u l (by omega)
theorem Q64 {fu:Nat} {l:List Spot} (hl:l.length ≤ 1048576) (hf:l.length < fu):Qml fu l = some (Qv4 l):=by
 unfold Qml
 have key:=lp l (fun n (s:Int) i=>Qe5 fu l n s i) (fun l s=>some (l.foldl Q8w s)) (by omega) ?_ ?_ fu 0 hf
 · exact key
 · intro n s i x xs hx hd ih
   simp only [Qe5.eq_2]
   unfold Qlf Qj3
   simp only [hd,cond_true,hx,Qab,Q2q,ih,List.foldl_cons]
   unfold Q8w
   cases hi:inb x.fPallet 0 999999
   · rfl
   · have:=Qfu.1 hi
     simp only [cond_true]
     rw [Qcj (by omega) (by omega)]
 · intro n s i hd
   simp only [Qe5.eq_2]
   unfold Qlf
   simp only [hd,cond_false]
   rfl
theorem Q9j (fu:Nat) (a b:Int):Qkg fu a b = some (if a > b then a else b):=by
 unfold Qkg
 by_cases h:a > b
 · simp [h]
 · simp [h]
theorem Jap {fu:Nat} {l:List Spot} (hl:l.length ≤ 1048576) (hf:l.length < fu):Qmh fu l = some (Qv4 l):=by
 unfold Qmh
 have key:=lp l (fun n (s:Int) i=>Qe7 fu l n s i) (fun l s=>some (l.foldl Q8w s)) (by omega) ?_ ?_ fu 0 hf
 · exact key
 · intro n s i x xs hx hd ih
   simp only [Qe7.eq_2]
   unfold Qlw Qj0
   simp only [hd,cond_true,hx,Qab,Qzv,Q9j,ih,List.foldl_cons]
   unfold Q8w
   cases hi:inb x.fPallet 0 999999
   · rfl
   · have:=Qfu.1 hi
     simp only [cond_true]
     rw [Qcj (by omega) (by omega)]
     congr 2
     split <;> split <;> omega
 · intro n s i hd
   simp only [Qe7.eq_2]
   unfold Qlw
   simp only [hd,cond_false]
   rfl
end Go.Proofs.YtkkfmjpbiimkbaaGreat
/- RivalBy of spec and of impl. -/
namespace Go.Proofs.YtkkfmjpbiimkbaaGreat
open Go
open Enc (rd ow)
open Arg (argv)
open Ret (retv)
open Wf (wf)
theorem Q3p {α:Type} {l:List α} {i:Int} (h0:0 ≤ i) (h1:i < l.length):∃ x,ix l i = some x:=by
 obtain ⟨j,rfl⟩:∃ j:Nat,i = j:=⟨i.toNat,by omega⟩
 exact ⟨_,Qz2 (by omega)⟩
end Go.Proofs.YtkkfmjpbiimkbaaGreat
