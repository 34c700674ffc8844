/- Loops of the printed.. -/
import Derived.Test.YtndfoffokpdjeaaGreatDoorQ1
set_option linter.unusedSimpArgs false
set_option linter.unusedVariables false
namespace Go.Proofs.YtndfoffokpdjeaaGreatDoor
open Go
open Enc (rd ow)
open Arg (argv)
open Ret (retv)
open Wf (wf)
theorem Qy1 {α:Type} {l:List α} {i:Nat} (h:i<l.length):ix l (i:Int)=some l[i]:=by rw [Qh2,List.getElem?_eq_getElem h]
theorem Qx6 (i:Nat) (h:i<4611686018427387904):w64 ((i:Int)+1)=((i+1:Nat):Int):=by rw [Qam (by omega) (by omega)]; omega
theorem lpI {σ α β:Type} (l:List α) (L:Nat→σ→Int→Option β) (F:List α→σ→Option β) (I:List α→σ→Prop) (hl:l.length≤1099511627776)
    (hs:∀ n s (i:Int) x xs,ix l i=some x→decide (i<(l.length:Int))=true→I (x::xs) s→(∀ s',I xs s'→L n s' (w64 (i+1))=F xs s')→L (n+1) s i=F (x::xs) s)
    (he:∀ n s (i:Int),decide (i<(l.length:Int))=false→I [] s→L (n+1) s i=F [] s):∀ n s,I l s→l.length<n→L n s 0=F l s:=by
 have key:∀ (m i n:Nat) (s:σ),l.length - i=m→i≤l.length→m<n→I (l.drop i) s→L n s (i:Int)=F (l.drop i) s:=by
  intro m
  induction m with
  | zero =>
   intro i n s hm hi hn hI
   obtain ⟨n,rfl⟩:∃ k,n=k+1:=⟨n - 1,by omega⟩
   have e:l.drop i=[]:=List.drop_of_length_le (by omega)
   rw [e] at hI ⊢
   exact he n s i (by simp; omega) hI
  | succ m ih =>
   intro i n s hm hi hn hI
   obtain ⟨n,rfl⟩:∃ k,n=k+1:=⟨n - 1,by omega⟩
   have hlt:i<l.length:=by omega
   rw [List.drop_eq_getElem_cons hlt] at hI ⊢
   refine hs n s i _ _ (Qy1 hlt) (by simpa using hlt) hI λs' hI'=>?_
   rw [Qx6 i (by omega)]
   exact ih (i+1) n s' (by omega) (by omega) (by omega) hI'
 intro n s hI hn
 have:=key l.length 0 n s (by omega) (by omega) hn (by simpa using hI)
 simpa using this
theorem lp {σ α β:Type} (l:List α) (L:Nat→σ→Int→Option β) (F:List α→σ→Option β) (hl:l.length≤1099511627776)
    (hs:∀ n s (i:Int) x xs,ix l i=some x→decide (i<(l.length:Int))=true→(∀ s',L n s' (w64 (i+1))=F xs s')→L (n+1) s i=F (x::xs) s)
    (he:∀ n s (i:Int),decide (i<(l.length:Int))=false→L (n+1) s i=F [] s):∀ n s,l.length<n→L n s 0=F l s:=λn s hn =>
 lpI l L F (λ_ _=>True) hl (λn s i x xs hx hd _ ih=>hs n s i x xs hx hd λs'=>ih s' trivial) (λn s i hd _=>he n s i hd) n s trivial hn
def Qj5:Int→Nat→List Int
 | _,0=>[]
 | a,n+1=>a::Qj5 (a+1) n
theorem lpN {σ β:Type} (b:Int) (L:Nat→σ→Int→Option β) (F:List Int→σ→Option β) (hb:b≤1099511627776)
    (hs:∀ n s (i:Int) xs,0≤i→i<b→decide (i<b)=true→(∀ s',L n s' (w64 (i+1))=F xs s')→L (n+1) s i=F (i::xs) s)
    (he:∀ n s (i:Int),decide (i<b)=false→L (n+1) s i=F [] s):∀ (m:Nat) n s (a:Int),0≤a→(b - a).toNat=m→m<n→L n s a=F (Qj5 a m) s:=by
 intro m
 induction m with
 | zero =>
  intro n s a ha hm hn
  obtain ⟨n,rfl⟩:∃ k,n=k+1:=⟨n - 1,by omega⟩
  exact he n s a (by simp; omega)
 | succ m ih =>
  intro n s a ha hm hn
  obtain ⟨n,rfl⟩:∃ k,n=k+1:=⟨n - 1,by omega⟩
  refine hs n s a _ ha (by omega) (by simp; omega) λs'=>?_
  rw [Qam (by omega) (by omega)]
  exact ih n s' (a+1) (by omega) (by omega) (by omega)
theorem Q8h {σ β:Type} (b:Int) (L:Nat→σ→Int→Option β) (F:List Int→σ→Option β) (I:List Int→σ→Prop) (hb:b≤1099511627776)
    (hs:∀ n s (i:Int) xs,0≤i→i<b→decide (i<b)=true→I (i::xs) s→(∀ s',I xs s'→L n s' (w64 (i+1))=F xs s')→L (n+1) s i=F (i::xs) s)
    (he:∀ n s (i:Int),decide (i<b)=false→I [] s→L (n+1) s i=F [] s):∀ (m:Nat) n s (a:Int),0≤a→(b - a).toNat=m→m<n→I (Qj5 a m) s→L n s a=F (Qj5 a m) s:=by
 intro m
 induction m with
 | zero =>
  intro n s a ha hm hn hI
  obtain ⟨n,rfl⟩:∃ k,n=k+1:=⟨n - 1,by omega⟩
  exact he n s a (by simp; omega) hI
 | succ m ih =>
  intro n s a ha hm hn hI
  obtain ⟨n,rfl⟩:∃ k,n=k+1:=⟨n - 1,by omega⟩
  refine hs n s a _ ha (by omega) (by simp; omega) hI λs' hI'=>?_
  rw [Qam (by omega) (by omega)]
  exact ih n s' (a+1) (by omega) (by omega) (by omega) hI'
def Qvh:Nat→List Int
 | 0=>[]
 | n+1=>(n:Int)::Qvh n
theorem lpD {σ β:Type} (b:Nat) (L:Nat→σ→Int→Option β) (F:List Int→σ→Option β) (hb:b≤1099511627776)
    (hs:∀ n s (i:Int) xs,0≤i→i<b→decide (i≥0)=true→(∀ s',L n s' (w64 (i - 1))=F xs s')→L (n+1) s i=F (i::xs) s)
    (he:∀ n s (i:Int),decide (i≥0)=false→L (n+1) s i=F [] s):∀ n s,b<n→L n s (w64 ((b:Int) - 1))=F (Qvh b) s:=by
 have key:∀ (m:Nat) n s,m≤b→m<n→L n s ((m:Int) - 1)=F (Qvh m) s:=by
  intro m
  induction m with
  | zero =>
   intro n s hm hn
   obtain ⟨n,rfl⟩:∃ k,n=k+1:=⟨n - 1,by omega⟩
   exact he n s _ (by simp)
  | succ m ih =>
   intro n s hm hn
   obtain ⟨n,rfl⟩:∃ k,n=k+1:=⟨n - 1,by omega⟩
   have e:((m+1:Nat):Int) - 1=(m:Int):=by omega
   rw [e]
   refine hs n s m _ (by omega) (by omega) (by simp) λs'=>?_
   rw [Qam (by omega) (by omega)]
   exact ih n s' (by omega) (by omega)
 intro n s hn
 rw [Qam (by omega) (by omega)]
 exact key b n s (Nat.le_refl _) hn
theorem ap1 {α:Type} {bytes:Nat} {xs ys:List α} (h:(xs.length+ys.length)*bytes≤140737488355328):Qc7 bytes xs ys=some (xs++ys):=by
 unfold Qc7; rw [if_pos h]
theorem Qn6 {α:Type} {xs:List α} {lo hi:Int} (h:0≤lo∧lo≤hi∧hi≤xs.length):sls xs lo hi=some ((xs.drop lo.toNat).take (hi.toNat - lo.toNat)):=by
 unfold sls; rw [if_pos h]
theorem Jar {y:Int} (h:y≠0):Jhu y=some ():=by unfold Jhu; rw [if_pos h]
end Go.Proofs.YtndfoffokpdjeaaGreatDoor
