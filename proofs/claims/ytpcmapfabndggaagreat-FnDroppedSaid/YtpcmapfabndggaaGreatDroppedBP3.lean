import Derived.Test.YtpcmapfabndggaaGreatDroppedBP2
set_option linter.unusedSimpArgs false
set_option linter.unusedVariables false
/- Copies of plans; plans that are turned: by spec and by impl. -/
namespace Go.Proofs.YtpcmapfabndggaaGreat
open Go
open Enc (rd ow)
open Arg (argv)
open Ret (retv)
open Wf (wf)
theorem Jcl {fu:Nat} {l:List Carton} (hl:l.length ≤ 1048576) (hm:∀ c ∈ l,c.fM.length ≤ 1048576) (hf:1048577 ≤ fu):Qh8 fu l = some l:=by
 unfold Qh8
 have key:=lpI l (λn (o:List Carton) i=>Qdk fu l n o i) (λxs o=>some (o ++ xs)) (λxs o=>o.length + xs.length ≤ 1048576 ∧ ∀ c ∈ xs,c.fM.length ≤ 1048576) (by omega) ?_ ?_ fu [] ⟨by simp; omega,hm⟩ (by omega)
 · simpa using key
 · intro n o i c xs hx hd hI ih
   have hI1:=hI.1
   have hu:=hI.2 c (by simp)
   simp only [List.length_cons] at hI1
   simp only [Qdk.eq_2]
   unfold Qg7 Qct
   rw [hd,cond_true,hx,Qab,ap1 (by simp; omega),Qab,Qab,ap1 (by simp; omega),Qab,ih _ ⟨by simp; omega,λd hd=>hI.2 d (by simp [hd])⟩]
   simp
 · intro n o i hd _
   simp only [Qdk.eq_2]
   unfold Qg7
   rw [hd,cond_false]; simp
theorem Jbv {fu:Nat} {x:Plan} (h:Sp x) (hf:1048577 ≤ fu):Qms fu x = some x:=by
 have hs:=h.spots
 unfold Qms Qc9
 rw [Jcl h.cars h.units hf,Qab,ap1 (by simp; omega)]
 simp
theorem Je1 {fu:Nat} {x:Plan} (h:Sp x) (hf:1048577 ≤ fu):Qp4 fu x = some x:=by
 have hs:=h.spots
 have hc:=h.cars
 unfold Qp4
 rw [ap1 (by simp; omega),Qab,List.nil_append]
 have key:=lpI x.fQ (λn (o:List Carton) i=>Qgr fu x x.fU n o i) (λxs o=>some (⟨o ++ xs,x.fU⟩:Plan)) (λxs o=>o.length + xs.length ≤ 1048576 ∧ ∀ c ∈ xs,c.fM.length ≤ 1048576) (by omega) ?_ ?_ fu [] ⟨by simp; omega,h.units⟩ (by omega)
 · simpa using key
 · intro n o i c xs hx hd hI ih
   have hI1:=hI.1
   have hu:=hI.2 c (by simp)
   simp only [List.length_cons] at hI1
   simp only [Qgr.eq_2]
   unfold Qlc Qj7
   rw [hd,cond_true,hx,Qab,ap1 (by simp; omega),Qab,Qab,ap1 (by simp; omega),Qab,ih _ ⟨by simp; omega,λd hd=>hI.2 d (by simp [hd])⟩]
   simp
 · intro n o i hd _
   simp only [Qgr.eq_2]
   unfold Qlc
   rw [hd,cond_false]; simp
theorem Qwh {r:Request} {x:Plan} (h:Qw9 r x = true):x.fU.length = x.fQ.length:=by
 unfold Qw9 Jdd at h
 cases hp:Q3b x
 · rw [hp] at h
   cases hc:Qh9 r == 0 <;> rw [hc] at h <;> simp at h
 · exact Qzx hp
end Go.Proofs.YtpcmapfabndggaaGreat
/- What is held: lists of numbers. -/
namespace Go.Proofs.YtpcmapfabndggaaGreat
open Go
open Enc (rd ow)
open Arg (argv)
open Ret (retv)
open Wf (wf)
end Go.Proofs.YtpcmapfabndggaaGreat
/- Shuffled, by spec and by impl. -/
namespace Go.Proofs.YtpcmapfabndggaaGreat
open Go
open Enc (rd ow)
open Arg (argv)
open Ret (retv)
open Wf (wf)
end Go.Proofs.YtpcmapfabndggaaGreat
/- Dropped, by spec and by impl. -/
namespace Go.Proofs.YtpcmapfabndggaaGreat
open Go
open Enc (rd ow)
open Arg (argv)
open Ret (retv)
open Wf (wf)
def Qvz (b:Box) (s:Spot) (i:Int):Int → List (Box × Spot) → Bool
 | _,[]=>false
 | j,q :: l=>(j != i && Q7d b s q.1 q.2) || Qvz b s i (j + 1) l
def dwn (s:Spot):Spot:=⟨s.fJ,s.fX,s.fY,w64 (s.fZ - 1)⟩
def Qye (b:Box) (i:Int) (z:List (Box × Spot)):Nat → Spot → Spot
 | 0,s=>s
 | n + 1,s=>bif decide (s.fZ > 0) then (bif Qvz b (dwn s) i 0 z then s else Qye b i z n (dwn s)) else s
def Qyh (bs:List Box) (sp:List Spot) (i:Int):List Spot:=match ix bs i,ix sp i with
 | some b,some s=>Qge sp i (Qye b i (bs.zip sp) (s.fZ.toNat + 1) s)
 | _,_=>sp
def bxs (r:Request) (x:Plan):List Box:=x.fQ.map (Qub r)
def Qvp (r:Request) (x:Plan):Plan:=bif Qw9 r x then ⟨x.fQ,(Qkd 0 x.fQ.length).foldl (Qyh (bxs r x)) x.fU⟩ else x
theorem Jch (bs:List Box) (sp:List Spot) (i:Int):(Qyh bs sp i).length = sp.length:=by
 unfold Qyh
 split
 · simp [Qge]
 · rfl
theorem Q5y (bs:List Box):∀ (l:List Int) (sp:List Spot),(l.foldl (Qyh bs) sp).length = sp.length
 | [],_=>rfl
 | i :: l,sp=>by rw [List.foldl_cons,Q5y bs l,Jch]
theorem Jd8 {fu:Nat} {r:Request} (h:Sm fu r) {x:Plan} (hx:Sp x):Qom fu r x = some (bxs r x):=by
 have hfu:=h.fu
 have hc:=hx.cars
 unfold Qom
 have key:=lpI x.fQ (λn (o:List Box) i=>Qfm fu r x n o i) (λxs o=>some (o ++ xs.map (Qub r))) (λxs o=>o.length + xs.length ≤ 1048576) (by omega) ?_ ?_ fu [] (by simp; omega) (by omega)
 · simpa [bxs] using key
 · intro n o i c xs e hd hI ih
   have hu:=hx.units c (Qd5 e)
   simp only [List.length_cons] at hI
   simp only [Qfm.eq_2]
   unfold Qjs
   rw [hd,cond_true,e,Qab,Q3v h _ hu,Qab,ap1 (by simp; omega),Qab,ih _ (by simp; omega)]
   simp
 · intro n o i hd _
   simp only [Qfm.eq_2]
   unfold Qjs
   rw [hd,cond_false]; simp
theorem Jgg {fu:Nat} {bs:List Box} {x:Plan} (hl:bs.length ≤ 1048576) (hf:bs.length < fu) (he:x.fU.length = bs.length) {i:Int} {b:Box} (hb:ix bs i = some b) (s:Spot):Qpz fu bs x i s = some (!(Qvz b s i 0 (bs.zip x.fU))):=by
 have hz:(bs.zip x.fU).length = bs.length:=by simp; omega
 unfold Qpz
 have key:=lpP (bs.zip x.fU) (λn (_:Unit) j=>Qe8 fu bs x i s n j) (λpre l _=>some (!(Qvz b s i (pre.length:Int) l))) (by omega) ?_ ?_ fu () (by omega)
 · exact key
 · intro n _ pre q xs e hq hd ih
   have ih:=ih ()
   obtain ⟨e1,e2⟩:=Qu9 hq
   rw [hz] at hd
   simp only [Qe8.eq_2]
   unfold Qlb Qkr Qvz
   have e3:(((pre ++ [q]).length:Nat):Int) = (pre.length:Int) + 1:=by simp
   rw [e3] at ih
   rw [hd,cond_true]
   cases (pre.length:Int) != i
   · rw [cond_false,ih]; simp
   · rw [cond_true,hb,Qab,e1,Qab,e2,Qab,Jha,Qab,ih]
     cases Q7d b s q.1 q.2 <;> simp
 · intro n _ hd
   rw [hz] at hd ⊢
   simp only [Qe8.eq_2]
   unfold Qlb
   rw [hd,cond_false]; simp [Qvz]
theorem Je3 {s:Spot} (h:0 < s.fZ ∧ s.fZ ≤ 2000):(dwn s).fZ = s.fZ - 1:=by
 unfold dwn
 exact Qbp (by omega) (by omega)
def zOk (sp:List Spot):Prop:=∀ s ∈ sp,s.fZ ≤ 2000
theorem Jdk (b:Box) (i:Int) (z:List (Box × Spot)):∀ (n:Nat) (s:Spot),s.fZ ≤ 2000 → (Qye b i z n s).fZ ≤ 2000
 | 0,s,h=>h
 | n + 1,s,h=>by
  unfold Qye
  by_cases hz:s.fZ > 0
  · rw [decide_eq_true hz,cond_true]
    cases Qvz b (dwn s) i 0 z
    · exact Jdk b i z n _ (by rw [Je3 ⟨hz,h⟩]; omega)
    · exact h
  · rw [decide_eq_false hz]; exact h
theorem Jdi {bs:List Box} {sp:List Spot} (h:zOk sp) (i:Int):zOk (Qyh bs sp i):=by
 unfold Qyh
 split
 · rename_i b s hb hs
   intro t ht
   rcases List.mem_or_eq_of_mem_set ht with ht | rfl
   · exact h t ht
   · exact Jdk _ _ _ _ _ (h s (Qd5 hs))
 · exact h
theorem Jb2 {r:Request} {x:Plan} (h:Qw9 r x = true):Q3b x = true:=by
 unfold Qw9 Jdd at h
 cases hp:Q3b x
 · rw [hp] at h
   cases hc:Qh9 r == 0 <;> rw [hc] at h <;> simp at h
 · rfl
theorem Jc5 {r:Request} {x:Plan} (h:Qw9 r x = true):zOk x.fU:=by
 have hp:=Jb2 h
 have el:=Qzx hp
 unfold Q3b at hp
 simp only [Bool.and_eq_true] at hp
 intro s hs
 obtain ⟨i,hi⟩:=List.mem_iff_getElem?.1 hs
 have hlt:=(List.getElem?_eq_some_iff.1 hi).1
 have hz:(x.fQ[i]'(by omega),s) ∈ x.fQ.zip x.fU:=List.mem_iff_getElem?.2 ⟨i,List.getElem?_zip_eq_some.2 ⟨List.getElem?_eq_getElem _,hi⟩⟩
 have:=List.all_eq_true.1 hp.2.2 _ hz
 simp only [Jdn,Bool.and_eq_true,Qdz] at this
 omega
theorem Jgn {fu:Nat} {r:Request} (h:Sm fu r) {x:Plan} (hx:Sp x):Qpu fu r x = some (Qvp r x):=by
 have hfu:=h.fu
 have hc:=hx.cars
 unfold Qpu Qvp
 rw [Je1 hx (by omega),Qab,Jc8 h hx,Qab]
 cases hb:Qw9 r x
 · rfl
 · have el:=Qwh hb
   have hbl:(bxs r x).length = x.fQ.length:=by simp [bxs]
   rw [Bool.not_true,cond_false,Jd8 h hx,Qab,cond_true]
   have key:=Q9w (x.fQ.length:Int) (λn (o:List Spot) i=>Qcj fu x (bxs r x) n o i) (λxs o=>some (⟨x.fQ,xs.foldl (Qyh (bxs r x)) o⟩:Plan)) (λ_ o=>o.length = x.fQ.length ∧ zOk o) (by omega) ?_ ?_ x.fQ.length fu x.fU 0 (by omega) (by omega) (by omega) ⟨el,Jc5 hb⟩
   · exact key
   · intro n o i xs h0 h1 hd hI ih
     obtain ⟨hol,hoz⟩:=hI
     have hi:i.toNat < x.fQ.length:=by omega
     have hsi:ix o i = some (o[i.toNat]'(by omega)):=by have:=Qxq (l:=o) (i:=i.toNat) (by omega); rwa [show ((i.toNat:Nat):Int) = i by omega] at this
     have hbi:ix (bxs r x) i = some ((bxs r x)[i.toNat]'(by omega)):=by have:=Qxq (l:=bxs r x) (i:=i.toNat) (by omega); rwa [show ((i.toNat:Nat):Int) = i by omega] at this
     generalize o[i.toNat]'(by omega) = s0 at hsi
     generalize (bxs r x)[i.toNat]'(by omega) = b0 at hbi
     rw [← hol] at hd
     simp only [Qcj.eq_2]
     unfold Qmg
     rw [hd,cond_true,hsi,Qab,List.foldl_cons]
     have e0:Qyh (bxs r x) o i = Qge o i (Qye b0 i ((bxs r x).zip o) (s0.fZ.toNat + 1) s0):=by unfold Qyh; rw [hbi,hsi]
     rw [e0]
     have hsz:=hoz s0 (Qd5 hsi)
     have key2:∀ (m:Nat) (s:Spot) (k:Nat),s.fZ.toNat + 1 = m → s.fZ ≤ 2000 → m ≤ k → Qgk fu (Qcj fu x (bxs r x) n) x (bxs r x) o i k s = Qcj fu x (bxs r x) n (Qge o i (Qye b0 i ((bxs r x).zip o) m s)) (w64 (i + 1)):=by
      intro m
      induction m with
      | zero=>intro s k hm; omega
      | succ m ihm =>
       intro s k hm hz hk
       obtain ⟨k,rfl⟩:∃ j,k = j + 1:=⟨k - 1,by omega⟩
       rw [Qgk.eq_2]
       unfold Qqy Qkg Qpm Qye
       by_cases hp:s.fZ > 0
       · rw [decide_eq_true hp,cond_true,cond_true,Jgg (x:=⟨x.fQ,o⟩) (by omega) (by omega) (by simp [hol,hbl]) hbi,Qab]
         show (bif !(!(Qvz b0 (dwn s) i 0 ((bxs r x).zip o))) then _ else _) = _
         cases Qvz b0 (dwn s) i 0 ((bxs r x).zip o)
         · have hd1:=Je3 ⟨hp,hz⟩
           show Qgk fu _ x (bxs r x) o i k (dwn s) = _
           rw [ihm (dwn s) k (by omega) (by omega) (by omega)]; rfl
         · simp only [Bool.not_true,Bool.not_false,cond_true]
           rw [hsi,Qab]
       · rw [decide_eq_false hp,cond_false,cond_false,hsi,Qab]
     rw [key2 _ s0 fu rfl hsz (by omega),ih _ ⟨by simp [Qge,hol],?_⟩]
     rw [← e0]; exact Jdi hoz i
   · intro n o i hd hI
     rw [← hI.1] at hd
     simp only [Qcj.eq_2]
     unfold Qmg
     rw [hd,cond_false]; rfl
theorem Q96 {b:Box} {s:Spot} {i:Nat} {t:Spot}:∀ {bs:List Box} {sp:List Spot} {j:Nat} {J:Int},J = (j:Int) → Qvz b s (i:Int) J (bs.zip sp) = Qvz b s (i:Int) J (bs.zip (if j ≤ i then sp.set (i - j) t else sp))
 | [],sp,j,J,_=>by simp [Qvz]
 | c :: bs,[],j,J,_=>by split <;> simp [Qvz]
 | c :: bs,q :: sp,j,J,hJ=>by
  have ih:=Q96 (b:=b) (s:=s) (i:=i) (t:=t) (bs:=bs) (sp:=sp) (j:=j + 1) (J:=J + 1) (by omega)
  by_cases h1:j ≤ i
  · rw [if_pos h1]
    by_cases h2:j = i
    · subst h2
      rw [Nat.sub_self,List.set_cons_zero,List.zip_cons_cons,List.zip_cons_cons]
      unfold Qvz
      rw [show (J != (j:Int)) = false by simp [hJ]]
      rw [if_neg (by omega)] at ih
      simp
    · have:i - j = (i - (j + 1)) + 1:=by omega
      rw [this,List.set_cons_succ,List.zip_cons_cons,List.zip_cons_cons]
      unfold Qvz
      rw [if_pos (by omega)] at ih
      rw [ih]
  · rw [if_neg h1]
theorem Jbp (b:Box) (s:Spot) {i:Int} (hi:0 ≤ i) (t:Spot) (bs:List Box) (sp:List Spot):Qvz b s i 0 (bs.zip (Qge sp i t)) = Qvz b s i 0 (bs.zip sp):=by
 have:=Q96 (b:=b) (s:=s) (i:=i.toNat) (t:=t) (bs:=bs) (sp:=sp) (j:=0) (J:=0) rfl
 rw [if_pos (by omega),Nat.sub_zero,show ((i.toNat:Nat):Int) = i by omega] at this
 exact this.symm
theorem Q9v {α:Type} (l:List α) (i:Int) (a b:α):Qge (Qge l i a) i b = Qge l i b:=by simp [Qge]
theorem Q88 {fu:Nat} {r:Request} (h:Sm fu r) {x:Plan} (hx:Sp x):Qgv fu r x = some (Qvp r x):=by
 have hfu:=h.fu
 have hc:=hx.cars
 unfold Qgv Qvp
 rw [Jbv hx (by omega),Qab,Q8y h hx,Qab]
 cases hb:Qw9 r x
 · rfl
 · have el:=Qwh hb
   have hbl:(bxs r x).length = x.fQ.length:=by simp [bxs]
   rw [Bool.not_true,cond_false,cond_true]
   have key:=lpI x.fQ (λn (o:List Box) i=>Qgg fu r x x n o i) (λxs o=>Qa8 fu x (o ++ xs.map (Qub r)) fu x.fU 0) (λxs o=>o.length + xs.length ≤ 1048576) (by omega) ?_ ?_ fu [] (by simp; omega) (by omega)
   · rw [key,List.nil_append]
     have key1:=Q9w (x.fQ.length:Int) (λn (o:List Spot) i=>Qa8 fu x (bxs r x) n o i) (λxs o=>some (⟨x.fQ,xs.foldl (Qyh (bxs r x)) o⟩:Plan)) (λ_ o=>o.length = x.fQ.length ∧ zOk o) (by omega) ?_ ?_ x.fQ.length fu x.fU 0 (by omega) (by omega) (by omega) ⟨el,Jc5 hb⟩
     · exact key1
     · intro n o i xs h0 h1 hd hI ih
       obtain ⟨hol,hoz⟩:=hI
       have hi:i.toNat < x.fQ.length:=by omega
       have hsi:ix o i = some (o[i.toNat]'(by omega)):=by have:=Qxq (l:=o) (i:=i.toNat) (by omega); rwa [show ((i.toNat:Nat):Int) = i by omega] at this
       have hbi:ix (bxs r x) i = some ((bxs r x)[i.toNat]'(by omega)):=by have:=Qxq (l:=bxs r x) (i:=i.toNat) (by omega); rwa [show ((i.toNat:Nat):Int) = i by omega] at this
       generalize o[i.toNat]'(by omega) = s0 at hsi
       generalize (bxs r x)[i.toNat]'(by omega) = b0 at hbi
       rw [← hbl] at hd
       simp only [Qa8.eq_2]
       unfold Qk8
       rw [hd,cond_true,hbi,Qab,List.foldl_cons]
       have e0:Qyh (bxs r x) o i = Qge o i (Qye b0 i ((bxs r x).zip o) (s0.fZ.toNat + 1) s0):=by unfold Qyh; rw [hbi,hsi]
       rw [e0]
       have hsz:=hoz s0 (Qd5 hsi)
       have keyh:∀ (p:List Spot) (s:Spot) (K:List Spot → Option Plan),p.length = x.fQ.length → Qef fu (Qa8 fu x (bxs r x) n) K (bxs r x) i b0 p s fu false 0 = (bif Qvz b0 (dwn s) i 0 ((bxs r x).zip p) then Qa8 fu x (bxs r x) n p (w64 (i + 1)) else Qac (ix p i) λ_=>K (Qge p i (dwn s))):=by
        intro p s K hpl
        have hz:((bxs r x).zip p).length = (bxs r x).length:=by simp; omega
        have kk:=lpP ((bxs r x).zip p) (λm (g:Bool) j=>Qef fu (Qa8 fu x (bxs r x) n) K (bxs r x) i b0 p s m g j) (λpre l g=>(bif g || Qvz b0 (dwn s) i (pre.length:Int) l then Qa8 fu x (bxs r x) n p (w64 (i + 1)) else Qac (ix p i) λ_=>K (Qge p i (dwn s)))) (by omega) ?_ ?_ fu false (by omega)
        · simpa using kk
        · intro m g pre q qs e hq hd2 ih2
          obtain ⟨e1,e2⟩:=Qu9 hq
          have e3:(((pre ++ [q]).length:Nat):Int) = (pre.length:Int) + 1:=by simp
          rw [e3] at ih2
          rw [hz] at hd2
          simp only [Qef.eq_2]
          unfold Ql1 Qhu Qvz
          rw [hd2,cond_true,e1,Qab]
          cases g
          · rw [cond_false]
            cases (pre.length:Int) != i
            · rw [cond_false,ih2]; simp
            · rw [cond_true,e2,Qab]
              show Qac (Qi9 fu b0 (dwn s) q.1 q.2) _ = _
              rw [Jg7,Qab,ih2]; simp
          · rw [cond_true,ih2]; simp
        · intro m g hd2
          rw [hz] at hd2 ⊢
          simp only [Qef.eq_2]
          unfold Ql1 Qht Qvz
          rw [hd2,cond_false]
          cases g <;> rfl
       have key2:∀ (m:Nat) (s:Spot) (p:List Spot) (k:Nat),s.fZ.toNat + 1 = m → s.fZ ≤ 2000 → m ≤ k → p = Qge o i s → Qfa fu (Qa8 fu x (bxs r x) n) (bxs r x) i b0 k p = Qa8 fu x (bxs r x) n (Qge o i (Qye b0 i ((bxs r x).zip o) m s)) (w64 (i + 1)):=by
        intro m
        induction m with
        | zero=>intro s p k hm; omega
        | succ m ihm =>
         intro s p k hm hz hk hp
         obtain ⟨k,rfl⟩:∃ j,k = j + 1:=⟨k - 1,by omega⟩
         have hpi:ix p i = some s:=by subst hp; rw [Q6u,hsi]; rfl
         have hpl:p.length = x.fQ.length:=by subst hp; simp [Qge,hol]
         rw [Qfa.eq_2]
         unfold Qqx Qye
         rw [hpi,Qab]
         by_cases hz0:s.fZ > 0
         · rw [decide_eq_true hz0,cond_true,cond_true,Qab,keyh p s _ hpl]
           rw [show Qvz b0 (dwn s) i 0 ((bxs r x).zip p) = Qvz b0 (dwn s) i 0 ((bxs r x).zip o) by subst hp; exact Jbp _ _ h0 _ _ _]
           cases Qvz b0 (dwn s) i 0 ((bxs r x).zip o)
           · have hd1:=Je3 ⟨hz0,hz⟩
             rw [cond_false,cond_false,hpi,Qab,ihm (dwn s) _ k (by omega) (by omega) (by omega) (by subst hp; rw [Q9v])]
           · rw [cond_true,cond_true,hp]
         · unfold Qht
           rw [decide_eq_false hz0,cond_false,cond_false,hp]
       have hself:Qge o i s0 = o:=by
        unfold Qge
        obtain ⟨_,_,h1⟩:=Qat hsi
        have hlt:=(List.getElem?_eq_some_iff.1 h1).1
        have heq:=(List.getElem?_eq_some_iff.1 h1).2
        rw [← heq,List.set_getElem_self]
       rw [key2 _ s0 o fu rfl hsz (by omega) hself.symm,ih _ ⟨by simp [Qge,hol],?_⟩]
       rw [← e0]; exact Jdi hoz i
     · intro n o i hd hI
       rw [← hbl] at hd
       simp only [Qa8.eq_2]
       unfold Qk8
       rw [hd,cond_false]; rfl
   · intro n o i c xs e hd hI ih
     have hu:=hx.units c (Qd5 e)
     simp only [List.length_cons] at hI
     simp only [Qgg.eq_2]
     unfold Qk0
     rw [hd,cond_true,e,Qab,Jdb h _ hu,Qab,ap1 (by simp; omega),Qab,ih _ (by simp; omega)]
     simp
   · intro n o i hd _
     simp only [Qgg.eq_2]
     unfold Qk0
     rw [hd,cond_false]; simp
theorem Jar {r:Request} {x:Plan} (h:Sp x):Sp (Qvp r x):=by
 unfold Qvp
 cases hb:Qw9 r x
 · exact h
 · exact ⟨h.cars,h.units,h.all,by rw [cond_true,Q5y]; exact h.spots⟩
end Go.Proofs.YtpcmapfabndggaaGreat
/- A plan whose places are turned, each by itself, is right still. -/
namespace Go.Proofs.YtpcmapfabndggaaGreat
open Go
open Enc (rd ow)
open Arg (argv)
open Ret (retv)
open Wf (wf)
theorem Q5t (k:Int):∀ (l m:List Spot) (a:Int),l.map (·.fJ) = m.map (·.fJ) → onL k a l = onL k a m
 | [],[],_,_=>rfl
 | [],_ :: _,_,h=>by simp at h
 | _ :: _,[],_,h=>by simp at h
 | s :: l,t :: m,a,h=>by
  simp only [List.map_cons,List.cons.injEq] at h
  have ih:=Q5t k l m (a + 1) h.2
  unfold onL
  rw [h.1,ih]
theorem Q3p:∀ (l m:List Spot) (n:Int),l.map (·.fJ) = m.map (·.fJ) → l.foldl Q43 n = m.foldl Q43 n
 | [],[],_,_=>rfl
 | [],_ :: _,_,h=>by simp at h
 | _ :: _,[],_,h=>by simp at h
 | s :: l,t :: m,n,h=>by
  simp only [List.map_cons,List.cons.injEq] at h
  have e:Q43 n s = Q43 n t:=by unfold Q43; rw [h.1]
  rw [List.foldl_cons,List.foldl_cons,e]
  exact Q3p l m _ h.2
structure FeaI (r:Request) (x:Plan):Prop where
 c:Qh9 r = 0
 pok:Q3b x = true
 emp:Jee x = false
 once:Q34 r x = true
 ch:x.fQ.all (chB r) = true
 cg:x.fQ.all (cgB r) = true
 cc:x.fQ.all (ccB r) = true
 ins:(cs x).all (Q54 r) = true
 apr:Q4f r [] (cs x) = true
 pl:(Qkd 0 (Qxw x.fU).toNat).all (plB r x) = true
theorem Q1y {r:Request} {x:Plan}:Qw9 r x = true ↔ FeaI r x:=by
 unfold Qw9 Jdd
 constructor
 · intro h
   have e:∀ (b:Bool) (n:Int) (m:Int),n ≠ 0 → ((bif b then n else m) == 0) = true → b = false ∧ (m == 0) = true:=by
    intro b n m hn hb
    cases b
    · exact ⟨rfl,hb⟩
    · simp at hb; exact absurd hb hn
   obtain ⟨h1,h⟩:=e _ _ _ (by decide) h
   obtain ⟨h2,h⟩:=e _ _ _ (by decide) h
   obtain ⟨h3,h⟩:=e _ _ _ (by decide) h
   obtain ⟨h4,h⟩:=e _ _ _ (by decide) h
   obtain ⟨h5,h⟩:=e _ _ _ (by decide) h
   obtain ⟨h6,h⟩:=e _ _ _ (by decide) h
   obtain ⟨h7,h⟩:=e _ _ _ (by decide) h
   obtain ⟨h8,h⟩:=e _ _ _ (by decide) h
   obtain ⟨h9,h⟩:=e _ _ _ (by decide) h
   obtain ⟨h10,h⟩:=e _ _ _ (by decide) h
   exact ⟨by simpa using h1,by simpa using h2,h3,by simpa using h4,by simpa using h5,by simpa using h6,by simpa using h7,by simpa using h8,by simpa using h9,by simpa using h10⟩
 · rintro ⟨h1,h2,h3,h4,h5,h6,h7,h8,h9,h10⟩
   rw [h1,h2,h3,h4,h5,h6,h7,h8,h9,h10]; rfl
theorem Jcy {r:Request}:∀ (l pre:List (Carton × Spot)),pre.Pairwise (λa c=>ovP r c a = false) → Q4f r pre l = true → (pre ++ l).Pairwise λa c=>ovP r c a = false
 | [],pre,h,_=>by simpa using h
 | p :: l,pre,h,hk=>by
  unfold Q4f at hk
  rw [Bool.and_eq_true] at hk
  have:=Jcy l (pre ++ [p]) (List.pairwise_append.2 ⟨h,List.pairwise_singleton _ _,λa ha c hc=>by
   rw [List.mem_singleton.1 hc]
   have:=List.all_eq_true.1 hk.1 a ha
   simpa using this⟩) hk.2
  simpa using this
theorem Q8a {r:Request}:∀ (l pre:List (Carton × Spot)),(pre ++ l).Pairwise (λa c=>ovP r c a = false) → Q4f r pre l = true
 | [],_,_=>rfl
 | p :: l,pre,h=>by
  unfold Q4f
  rw [Bool.and_eq_true]
  refine ⟨List.all_eq_true.2 λq hq=>?_,Q8a l (pre ++ [p]) (by simpa using h)⟩
  rw [(List.pairwise_append.1 h).2.2 q hq p (by simp)]; rfl
theorem Q2h {r:Request} {x:Plan} (hf:Qw9 r x = true):r.fJ.fW ≤ 2000 ∧ r.fJ.fD ≤ 2000 ∧ r.fJ.fH ≤ 2000:=by
 have hp:Qz2 r.fJ = true:=by
  have:=(Qfv (Q1y.1 hf).c).1
  unfold Q30 at this
  simp only [Bool.and_eq_true] at this
  simp_all
 simp only [Qz2,Bool.and_eq_true,Qdz] at hp
 exact ⟨by omega,by omega,by omega⟩
end Go.Proofs.YtpcmapfabndggaaGreat
/- Cartons that fall: each round settles one more; when all are settled nothing falls. -/
namespace Go.Proofs.YtpcmapfabndggaaGreat
open Go
open Enc (rd ow)
open Arg (argv)
open Ret (retv)
open Wf (wf)
def atZ (s:Spot) (t:Int):Spot:=⟨s.fJ,s.fX,s.fY,t⟩
theorem Q6q (s:Spot):atZ s s.fZ = s:=rfl
def Ov (b:Box) (s:Spot) (c:Box) (t:Spot):Prop:=s.fJ = t.fJ ∧ (s.fX < t.fX + c.fW ∧ t.fX < s.fX + b.fW) ∧ (s.fY < t.fY + c.fD ∧ t.fY < s.fY + b.fD) ∧ (s.fZ < t.fZ + c.fH ∧ t.fZ < s.fZ + b.fH)
theorem Ov.symm {b c:Box} {s t:Spot} (h:Ov b s c t):Ov c t b s:=⟨h.1.symm,⟨h.2.1.2,h.2.1.1⟩,⟨h.2.2.1.2,h.2.2.1.1⟩,h.2.2.2.2,h.2.2.2.1⟩
structure Ins (P:Pallet) (b:Box) (s:Spot):Prop where
 w:1 ≤ b.fW ∧ 1 ≤ b.fD ∧ 1 ≤ b.fH
 x:0 ≤ s.fX ∧ s.fX + b.fW ≤ P.fW
 y:0 ≤ s.fY ∧ s.fY + b.fD ≤ P.fD
 z:0 ≤ s.fZ ∧ s.fZ + b.fH ≤ P.fH
def Sml (P:Pallet):Prop:=P.fW ≤ 2000 ∧ P.fD ≤ 2000 ∧ P.fH ≤ 2000
theorem Qys {P:Pallet} (hP:Sml P) {b c:Box} {s t:Spot} (h1:Ins P b s) (h2:Ins P c t):Q7d b s c t = true ↔ Ov b s c t:=by
 obtain ⟨p1,p2,p3⟩:=hP
 obtain ⟨⟨a1,a2,a3⟩,a4,a5,a6⟩:=h1
 obtain ⟨⟨b1,b2,b3⟩,b4,b5,b6⟩:=h2
 unfold Q7d Q99 Q4c Ov
 simp only [Bool.and_eq_true,Qdz,decide_eq_true_eq,beq_iff_eq]
 rw [Qbp (n:=t.fX + c.fW) (by omega) (by omega),Qbp (n:=s.fX + b.fW) (by omega) (by omega),Qbp (n:=t.fY + c.fD) (by omega) (by omega),Qbp (n:=s.fY + b.fD) (by omega) (by omega),Qbp (n:=t.fZ + c.fH) (by omega) (by omega),Qbp (n:=s.fZ + b.fH) (by omega) (by omega)]
 constructor
 · rintro ⟨_,_,h3,h4,h5,h6⟩
   exact ⟨h3,h4,h5,h6⟩
 · rintro ⟨h3,h4,h5,h6⟩
   exact ⟨by omega,by omega,h3,h4,h5,h6⟩
theorem Q4r (b:Box) (s:Spot) (i:Int):∀ (z:List (Box × Spot)) (J:Int),Qvz b s i J z = true ↔ ∃ (j:Nat) (q:Box × Spot),z[j]? = some q ∧ J + j ≠ i ∧ Q7d b s q.1 q.2 = true
 | [],J=>by simp [Qvz]
 | q :: l,J=>by
  unfold Qvz
  rw [Bool.or_eq_true,Bool.and_eq_true,Q4r b s i l (J + 1)]
  constructor
  · rintro (⟨h1,h2⟩ | ⟨j,p,h1,h2,h3⟩)
    · exact ⟨0,q,by simp,by simpa using h1,h2⟩
    · exact ⟨j + 1,p,by simpa using h1,by omega,h3⟩
  · rintro ⟨j,p,h1,h2,h3⟩
    cases j with
    | zero =>
     simp only [List.getElem?_cons_zero,Option.some.injEq] at h1
     subst h1
     exact .inl ⟨by simpa using h2,h3⟩
    | succ j=>exact .inr ⟨j,p,by simpa using h1,by omega,h3⟩
theorem Q3l (b:Box) (i:Int) (z:List (Box × Spot)):∀ (n:Nat) (s:Spot),0 ≤ s.fZ → s.fZ ≤ 2000 → s.fZ < n →
    ∃ t,0 ≤ t ∧ t ≤ s.fZ ∧ Qye b i z n s = atZ s t ∧ (∀ u,t ≤ u → u < s.fZ → Qvz b (atZ s u) i 0 z = false) ∧ (t = 0 ∨ Qvz b (atZ s (t - 1)) i 0 z = true)
 | 0,s,h0,h1,h2=>by omega
 | n + 1,s,h0,h1,h2=>by
  unfold Qye
  by_cases hz:s.fZ > 0
  · rw [decide_eq_true hz,cond_true]
    have ed:dwn s = atZ s (s.fZ - 1):=by
     unfold dwn atZ
     rw [Qbp (by omega) (by omega)]
    cases hh:Qvz b (dwn s) i 0 z
    · rw [cond_false]
      obtain ⟨t,t0,t1,t2,t3,t4⟩:=Q3l b i z n (dwn s) (by rw [ed]; show 0 ≤ s.fZ - 1; omega) (by rw [ed]; show s.fZ - 1 ≤ 2000; omega) (by rw [ed]; show s.fZ - 1 < n; omega)
      rw [ed] at t1 t2 t3 t4 hh ⊢
      have e1:(atZ s (s.fZ - 1)).fZ = s.fZ - 1:=rfl
      rw [e1] at t1 t3
      refine ⟨t,t0,by omega,t2,λu h3 h4=>?_,t4⟩
      by_cases h5:u < s.fZ - 1
      · exact t3 u h3 h5
      · rw [show u = s.fZ - 1 by omega]; exact hh
    · rw [cond_true]
      exact ⟨s.fZ,h0,Int.le_refl _,rfl,λu h3 h4=>by omega,.inr (by rw [← ed]; exact hh)⟩
  · rw [decide_eq_false hz,cond_false]
    exact ⟨s.fZ,h0,Int.le_refl _,rfl,λu h3 h4=>by omega,.inl (by omega)⟩
structure Good (P:Pallet) (bs:List Box) (sp:List Spot):Prop where
 len:sp.length = bs.length
 ins:∀ (j:Nat) b s,bs[j]? = some b → sp[j]? = some s → Ins P b s
 apr:∀ (i j:Nat) b s c t,i ≠ j → bs[i]? = some b → sp[i]? = some s → bs[j]? = some c → sp[j]? = some t → ¬ Ov b s c t
theorem Qw5 {α:Type} {l:List α} {i j:Nat} {y x:α} (h:(l.set i y)[j]? = some x):(j = i ∧ x = y ∧ i < l.length) ∨ (j ≠ i ∧ l[j]? = some x):=by
 rw [List.getElem?_set] at h
 by_cases e:i = j
 · subst e
   rw [if_pos rfl] at h
   split at h
   · rename_i hl
     exact .inl ⟨rfl,(Option.some.inj h).symm,hl⟩
   · cases h
 · rw [if_neg e] at h
   exact .inr ⟨λh=>e h.symm,h⟩
theorem step {P:Pallet} (hP:Sml P) {bs:List Box} {sp:List Spot} (hg:Good P bs sp) {i:Nat} {b:Box} {s:Spot} (hb:bs[i]? = some b) (hs:sp[i]? = some s) :
    ∃ t,0 ≤ t ∧ t ≤ s.fZ ∧ Qyh bs sp (i:Int) = sp.set i (atZ s t) ∧ (∀ u,t ≤ u → u < s.fZ → ∀ (j:Nat) c q,j ≠ i → bs[j]? = some c → sp[j]? = some q → ¬ Ov b (atZ s u) c q) ∧
     (t = 0 ∨ ∃ (j:Nat) (c:Box) (q:Spot),j ≠ i ∧ bs[j]? = some c ∧ sp[j]? = some q ∧ Ov b (atZ s (t - 1)) c q) ∧ Good P bs (sp.set i (atZ s t)):=by
 have hi:=hg.ins i b s hb hs
 have hz:=hi.z
 have hH:=hi.w.2.2
 obtain ⟨p1,p2,p3⟩:=hP
 obtain ⟨t,t0,t1,t2,t3,t4⟩:=Q3l b (i:Int) (bs.zip sp) (s.fZ.toNat + 1) s hz.1 (by omega) (by omega)
 have hin:∀ u,0 ≤ u → u ≤ s.fZ → Ins P b (atZ s u):=λu h0 h1=>⟨hi.w,hi.x,hi.y,⟨h0,by show u + b.fH ≤ P.fH; omega⟩⟩
 have key:∀ u,t ≤ u → u < s.fZ → ∀ (j:Nat) c q,j ≠ i → bs[j]? = some c → sp[j]? = some q → ¬ Ov b (atZ s u) c q:=λu h0 h1 j c q hj hc hq ho=>by
  have:=t3 u h0 h1
  rw [← Bool.not_eq_true,Q4r] at this
  exact this ⟨j,(c,q),List.getElem?_zip_eq_some.2 ⟨hc,hq⟩,by omega,(Qys ⟨p1,p2,p3⟩ (hin u (by omega) (by omega)) (hg.ins j c q hc hq)).2 ho⟩
 refine ⟨t,t0,t1,?_,key,?_,?_⟩
 · unfold Qyh
   rw [Qq2,Qq2,hb,hs]
   simp only [t2]
   unfold Qge
   rw [Int.toNat_natCast]
 · rcases t4 with h | h
   · exact .inl h
   · by_cases h0:t = 0
     · exact .inl h0
     · rw [Q4r] at h
       obtain ⟨j,q,h1,h2,h3⟩:=h
       obtain ⟨h4,h5⟩:=List.getElem?_zip_eq_some.1 h1
       exact .inr ⟨j,q.1,q.2,by omega,h4,h5,(Qys ⟨p1,p2,p3⟩ (hin (t - 1) (by omega) (by omega)) (hg.ins j q.1 q.2 h4 h5)).1 h3⟩
 · have hap:∀ (j:Nat) c q,j ≠ i → bs[j]? = some c → sp[j]? = some q → ¬ Ov b (atZ s t) c q:=λj c q hj hc hq ho=>by
     by_cases h:t < s.fZ
     · exact key t (Int.le_refl _) h j c q hj hc hq ho
     · rw [show t = s.fZ by omega,Q6q] at ho
       exact hg.apr i j b s c q (λe=>hj e.symm) hb hs hc hq ho
   refine ⟨by rw [List.length_set]; exact hg.len,λj c q hc hq=>?_,λj k c q d r hjk hc hq hd hr=>?_⟩
   · rcases Qw5 hq with ⟨ej,eq,_⟩ | ⟨_,hq'⟩
     · rw [ej,hb] at hc
       rw [← Option.some.inj hc,eq]
       exact hin t t0 t1
     · exact hg.ins j c q hc hq'
   · rcases Qw5 hq with ⟨ej,eq,_⟩ | ⟨hj,hq'⟩
     · rcases Qw5 hr with ⟨ek,er,_⟩ | ⟨hk,hr'⟩
       · exact absurd (ej.trans ek.symm) hjk
       · rw [ej,hb] at hc
         rw [← Option.some.inj hc,eq]
         exact hap k d r hk hd hr'
     · rcases Qw5 hr with ⟨ek,er,_⟩ | ⟨hk,hr'⟩
       · rw [ek,hb] at hd
         rw [← Option.some.inj hd,er]
         exact λho=>hap j c q hj hc hq' ho.symm
       · exact hg.apr j k c q d r hjk hc hq' hd hr'
def SetS (bs:List Box) (sp:List Spot) (L:List Nat):Prop:=∀ i ∈ L,∃ b s,bs[i]? = some b ∧ sp[i]? = some s ∧
 (s.fZ = 0 ∨ ∃ (j:Nat) (c:Box) (q:Spot),j ∈ L ∧ j ≠ i ∧ bs[j]? = some c ∧ sp[j]? = some q ∧ Ov b (atZ s (s.fZ - 1)) c q)
theorem Jjk {P:Pallet} (hP:Sml P) {bs:List Box} {sp:List Spot} (hg:Good P bs sp) {L:List Nat} (hL:SetS bs sp L) {i:Nat} (hi:i ∈ L):Qyh bs sp (i:Int) = sp:=by
 obtain ⟨b,s,hb,hs,h⟩:=hL i hi
 obtain ⟨t,t0,t1,t2,t3,_,_⟩:=step hP hg hb hs
 have e:t = s.fZ:=by
  rcases h with h | ⟨j,c,q,h1,h2,h3,h4,h5⟩
  · omega
  · by_cases hlt:t < s.fZ
    · exact absurd h5 (t3 (s.fZ - 1) (by omega) (by omega) j c q h2 h3 h4)
    · omega
 rw [t2,e,Q6q]
 refine List.ext_getElem? λj=>?_
 rw [List.getElem?_set]
 by_cases hj:i = j
 · subst hj
   rw [if_pos rfl,if_pos (List.getElem?_eq_some_iff.1 hs).1,hs]
 · rw [if_neg hj]
theorem SetS.keep {bs:List Box} {sp:List Spot} {L:List Nat} (hL:SetS bs sp L) {k:Nat} (hk:k ∉ L) (y:Spot):SetS bs (sp.set k y) L:=by
 have e:∀ i ∈ L,(sp.set k y)[i]? = sp[i]?:=λi hi=>by
  rw [List.getElem?_set,if_neg (λe=>hk (by rw [e]; exact hi))]
 intro i hi
 obtain ⟨b,s,hb,hs,h⟩:=hL i hi
 refine ⟨b,s,hb,by rw [e i hi,hs],?_⟩
 rcases h with h | ⟨j,c,q,h1,h2,h3,h4,h5⟩
 · exact .inl h
 · exact .inr ⟨j,c,q,h1,h2,h3,by rw [e j h1,h4],h5⟩
theorem Qym {P:Pallet} {bs:List Box} {sp:List Spot} (hg:Good P bs sp) {i:Nat} (hi:i < bs.length):∃ b s,bs[i]? = some b ∧ sp[i]? = some s :=
 ⟨_,_,List.getElem?_eq_getElem hi,List.getElem?_eq_getElem (by have:=hg.len; omega)⟩
theorem Qwm {P:Pallet} (hP:Sml P) {bs:List Box} {L:List Nat}:∀ (ks:List Nat) (sp:List Spot),(∀ k ∈ ks,k < bs.length) → Good P bs sp → SetS bs sp L →
    Good P bs (ks.foldl (λs (k:Nat)=>Qyh bs s (k:Int)) sp) ∧ SetS bs (ks.foldl (λs (k:Nat)=>Qyh bs s (k:Int)) sp) L
 | [],sp,_,hg,hL=>⟨hg,hL⟩
 | k :: ks,sp,hk,hg,hL=>by
  rw [List.foldl_cons]
  by_cases h:k ∈ L
  · rw [Jjk hP hg hL h]
    exact Qwm hP ks sp (λj hj=>hk j (by simp [hj])) hg hL
  · obtain ⟨b,s,hb,hs⟩:=Qym hg (hk k (by simp))
    obtain ⟨t,_,_,t2,_,_,t5⟩:=step hP hg hb hs
    rw [t2]
    exact Qwm hP ks _ (λj hj=>hk j (by simp [hj])) t5 (hL.keep h _)
def Abv (bs:List Box) (sp:List Spot) (L:List Nat) (k:Nat):Prop:=∀ b s,bs[k]? = some b → sp[k]? = some s → ∀ (j:Nat) c q,j ∉ L → j ≠ k → bs[j]? = some c → sp[j]? = some q →
 s.fJ = q.fJ → (s.fX < q.fX + c.fW ∧ q.fX < s.fX + b.fW) → (s.fY < q.fY + c.fD ∧ q.fY < s.fY + b.fD) → s.fZ + b.fH ≤ q.fZ
theorem Jag {P:Pallet} {bs:List Box} {sp:List Spot} (hg:Good P bs sp) {L:List Nat} {k:Nat} (hk:∀ s:Spot,sp[k]? = some s → ∀ (j:Nat) (q:Spot),j ∉ L → sp[j]? = some q → s.fZ ≤ q.fZ):Abv bs sp L k:=by
 intro b s hb hs j c q hj hjk hc hq h1 h2 h3
 have h4:=hk s hs j q hj hq
 have h5:=hg.apr k j b s c q (λe=>hjk e.symm) hb hs hc hq
 have h6:=(hg.ins j c q hc hq).w.2.2
 by_cases h:s.fZ + b.fH ≤ q.fZ
 · exact h
 · exact absurd ⟨h1,h2,h3,by omega,by omega⟩ h5
theorem Q2b {P:Pallet} (hP:Sml P) {bs:List Box} {L:List Nat} {i:Nat} (hiL:i ∉ L):∀ (ks:List Nat) (sp:List Spot),(∀ k ∈ ks,k < bs.length) → i ∈ ks → Good P bs sp → SetS bs sp L → Abv bs sp L i →
    Good P bs (ks.foldl (λs (k:Nat)=>Qyh bs s (k:Int)) sp) ∧ SetS bs (ks.foldl (λs (k:Nat)=>Qyh bs s (k:Int)) sp) (i :: L)
 | [],sp,_,hi,_,_,_=>by simp at hi
 | k :: ks,sp,hk,hi,hg,hL,hA=>by
  rw [List.foldl_cons]
  obtain ⟨b,s,hb,hs⟩:=Qym hg (hk k (by simp))
  obtain ⟨t,t0,t1,t2,t3,t4,t5⟩:=step hP hg hb hs
  by_cases e:k = i
  · subst e
    rw [t2]
    refine Qwm hP ks _ (λj hj=>hk j (by simp [hj])) t5 ?_
    have hkl:=(List.getElem?_eq_some_iff.1 hs).1
    have hK:=hL.keep hiL (atZ s t)
    intro j hj
    rcases List.mem_cons.1 hj with rfl | hj
    · refine ⟨b,atZ s t,hb,by rw [List.getElem?_set,if_pos rfl,if_pos hkl],?_⟩
      rcases t4 with h | ⟨j,c,q,h1,h2,h3,h4⟩
      · exact .inl h
      · by_cases hjL:j ∈ L
        · refine .inr ⟨j,c,q,by simp [hjL],h1,h2,?_,h4⟩
          rw [List.getElem?_set,if_neg (λe=>h1 e.symm),h3]
        · exfalso
          have:=hA b s hb hs j c q hjL h1 h2 h3 h4.1 h4.2.1 h4.2.2.1
          have h5:q.fZ < (t - 1) + b.fH:=h4.2.2.2.2
          omega
    · obtain ⟨c,q,h1,h2,h3⟩:=hK j hj
      refine ⟨c,q,h1,h2,?_⟩
      rcases h3 with h | ⟨j',c',q',g1,g2,g3,g4,g5⟩
      · exact .inl h
      · exact .inr ⟨j',c',q',by simp [g1],g2,g3,g4,g5⟩
  · have hi':i ∈ ks:=by
      rcases List.mem_cons.1 hi with h | h
      · exact absurd h.symm e
      · exact h
    by_cases h:k ∈ L
    · rw [Jjk hP hg hL h]
      exact Q2b hP hiL ks sp (λj hj=>hk j (by simp [hj])) hi' hg hL hA
    · rw [t2]
      refine Q2b hP hiL ks _ (λj hj=>hk j (by simp [hj])) hi' t5 (hL.keep h _) ?_
      intro b' s' hb' hs' j c q hj hjk hc hq g1 g2 g3
      rw [List.getElem?_set,if_neg e] at hs'
      rcases Qw5 hq with ⟨rfl,rfl,_⟩ | ⟨hjn,hq⟩
      · rw [hb] at hc
        have ec:=Option.some.inj hc
        subst ec
        have ha:=hA b' s' hb' hs' j b s hj hjk hb hs g1 g2 g3
        have hH:=(hg.ins i b' s' hb' hs').w.2.2
        have hB:=(hg.ins j b s hb hs).w.2.2
        show s'.fZ + b'.fH ≤ t
        by_cases hc2:s'.fZ + b'.fH ≤ t
        · exact hc2
        · exfalso
          have:=t3 (s'.fZ + b'.fH - 1) (by omega) (by omega) i b' s' (λe'=>e e'.symm) hb' hs'
          apply this
          exact ⟨g1.symm,⟨g2.2,g2.1⟩,⟨g3.2,g3.1⟩,by show s'.fZ + b'.fH - 1 < s'.fZ + b'.fH; omega,by show s'.fZ < s'.fZ + b'.fH - 1 + b.fH; omega⟩
      · exact hA b' s' hb' hs' j c q hj hjk hc hq g1 g2 g3
theorem Q8h {sp:List Spot} {L:List Nat}:∀ (z:Nat) (i:Nat) (s:Spot),sp[i]? = some s → i ∉ L → s.fZ < z → (∀ (j:Nat) (q:Spot),sp[j]? = some q → 0 ≤ q.fZ) → ∃ k:Nat,k ∉ L ∧ k < sp.length ∧ ∀ s:Spot,sp[k]? = some s → ∀ (j:Nat) (q:Spot),j ∉ L → sp[j]? = some q → s.fZ ≤ q.fZ
 | 0,i,s,hs,_,hz,h0=>by have:=h0 i s hs; omega
 | z + 1,i,s,hs,hi,hz,h0=>by
  by_cases h:∃ (j:Nat) (q:Spot),j ∉ L ∧ sp[j]? = some q ∧ q.fZ < s.fZ
  · obtain ⟨j,q,h1,h2,h3⟩:=h
    exact Q8h z j q h2 h1 (by omega) h0
  · refine ⟨i,hi,(List.getElem?_eq_some_iff.1 hs).1,λs' hs' j q hj hq=>?_⟩
    rw [hs] at hs'
    rw [← Option.some.inj hs']
    by_cases hlt:q.fZ < s.fZ
    · exact absurd ⟨j,q,hj,hq,hlt⟩ h
    · omega
def rnd (bs:List Box) (sp:List Spot):List Spot:=(List.range bs.length).foldl (λs (k:Nat)=>Qyh bs s (k:Int)) sp
def Jbs (bs:List Box):Nat → List Spot → List Spot
 | 0,sp=>sp
 | m + 1,sp=>Jbs bs m (rnd bs sp)
theorem Q93 {bs:List Box} {sp:List Spot} (h:∀ k,k < bs.length → Qyh bs sp (k:Int) = sp):∀ (ks:List Nat),(∀ k ∈ ks,k < bs.length) → ks.foldl (λs (k:Nat)=>Qyh bs s (k:Int)) sp = sp
 | [],_=>rfl
 | k :: ks,hk=>by
  rw [List.foldl_cons,h k (hk k (by simp))]
  exact Q93 h ks λj hj=>hk j (by simp [hj])
theorem Q8x {bs:List Box} {sp:List Spot} (h:rnd bs sp = sp):∀ m,Jbs bs m sp = sp
 | 0=>rfl
 | m + 1=>by unfold Jbs; rw [h]; exact Q8x h m
theorem pig:∀ (n:Nat) (L:List Nat),L.Nodup → (∀ i ∈ L,i < n) → L.length ≤ n
 | 0,[],_,_=>Nat.le_refl _
 | 0,x :: _,_,h=>absurd (h x (by simp)) (Nat.not_lt_zero _)
 | n + 1,L,hn,h=>by
  have h1:=pig n (L.erase n) (hn.erase n) λi hi=>by
   obtain ⟨h2,h3⟩:=hn.mem_erase_iff.1 hi
   have:=h i h3
   omega
  rw [List.length_erase] at h1
  split at h1 <;> omega
theorem Jg8 {n:Nat} {L:List Nat} (hn:L.Nodup) (hl:∀ i ∈ L,i < n) (hlen:n ≤ L.length) (i:Nat) (hi:i < n):i ∈ L:=by
 by_cases h:i ∈ L
 · exact h
 · have:=pig n (i :: L) (List.nodup_cons.2 ⟨h,hn⟩) λj hj=>by
     rcases List.mem_cons.1 hj with rfl | hj
     · exact hi
     · exact hl j hj
   simp only [List.length_cons] at this
   omega
theorem Jc6 {P:Pallet} (hP:Sml P) {bs:List Box}:∀ (m:Nat) (sp:List Spot) (L:List Nat),Good P bs sp → SetS bs sp L → L.Nodup → (∀ i ∈ L,i < bs.length) → bs.length ≤ L.length + m →
    Good P bs (Jbs bs m sp) ∧ rnd bs (Jbs bs m sp) = Jbs bs m sp
 | m,sp,L,hg,hL,hn,hl,hm=>by
  by_cases hall:∀ i,i < bs.length → i ∈ L
  · have e:rnd bs sp = sp:=Q93 (λk hk=>Jjk hP hg hL (hall k hk)) _ λk hk=>List.mem_range.1 hk
    rw [Q8x e m]
    exact ⟨hg,e⟩
  · have hex:∃ i,i < bs.length ∧ i ∉ L:=Classical.byContradiction λh=>hall λi hi=>Classical.byContradiction λh'=>h ⟨i,hi,h'⟩
    obtain ⟨i,hi,hiL⟩:=hex
    obtain ⟨b,s,hb,hs⟩:=Qym hg hi
    have h0:∀ (j:Nat) (q:Spot),sp[j]? = some q → 0 ≤ q.fZ:=λj q hq=>by
     have hj:=(List.getElem?_eq_some_iff.1 hq).1
     have:=hg.len
     exact (hg.ins j _ q (List.getElem?_eq_getElem (by omega)) hq).z.1
    obtain ⟨k,hkL,hkl,hk⟩:=Q8h (s.fZ.toNat + 1) i s hs hiL (by omega) h0
    have hk':k < bs.length:=by have:=hg.len; omega
    cases m with
    | zero=>exact absurd (Jg8 hn hl (by omega) i hi) hiL
    | succ m =>
     obtain ⟨r1,r2⟩:=Q2b hP hkL (List.range bs.length) sp (λj hj=>List.mem_range.1 hj) (List.mem_range.2 hk') hg hL (Jag hg hk)
     unfold Jbs
     exact Jc6 hP m (rnd bs sp) (k :: L) r1 r2 (List.nodup_cons.2 ⟨hkL,hn⟩) (λj hj=>by
      rcases List.mem_cons.1 hj with rfl | hj
      · exact hk'
      · exact hl j hj) (by simp only [List.length_cons]; omega)
def Jct (sp tp:List Spot):Prop:=tp.length = sp.length ∧ ∀ (j:Nat) (s t:Spot),sp[j]? = some s → tp[j]? = some t → t.fJ = s.fJ ∧ t.fX = s.fX ∧ t.fY = s.fY ∧ t.fZ ≤ s.fZ
theorem Q8j (sp:List Spot):Jct sp sp:=⟨rfl,λj s t h1 h2=>by
 rw [h1] at h2
 rw [Option.some.inj h2]
 exact ⟨rfl,rfl,rfl,Int.le_refl _⟩⟩
theorem Q68 {a b c:List Spot} (h:Jct a b) (k:Jct b c):Jct a c:=⟨k.1.trans h.1,λj s t h1 h2=>by
 have hj:=(List.getElem?_eq_some_iff.1 h2).1
 have hj':j < b.length:=by have:=k.1; omega
 have hb:b[j]? = some b[j]:=List.getElem?_eq_getElem hj'
 obtain ⟨a1,a2,a3,a4⟩:=h.2 j s _ h1 hb
 obtain ⟨b1,b2,b3,b4⟩:=k.2 j _ t hb h2
 exact ⟨b1.trans a1,b2.trans a2,b3.trans a3,Int.le_trans b4 a4⟩⟩
theorem Q3w {P:Pallet} (hP:Sml P) {bs:List Box}:∀ (ks:List Nat) (sp:List Spot),(∀ k ∈ ks,k < bs.length) → Good P bs sp → Jct sp (ks.foldl (λs (k:Nat)=>Qyh bs s (k:Int)) sp)
 | [],sp,_,_=>Q8j sp
 | k :: ks,sp,hk,hg=>by
  rw [List.foldl_cons]
  obtain ⟨b,s,hb,hs⟩:=Qym hg (hk k (by simp))
  obtain ⟨t,t0,t1,t2,t3,t4,t5⟩:=step hP hg hb hs
  rw [t2]
  refine Q68 ?_ (Q3w hP ks _ (λj hj=>hk j (by simp [hj])) t5)
  refine ⟨by simp,λj q p h1 h2=>?_⟩
  rcases Qw5 h2 with ⟨ej,ep,_⟩ | ⟨_,h3⟩
  · rw [ej,hs] at h1
    rw [ep,← Option.some.inj h1]
    exact ⟨rfl,rfl,rfl,t1⟩
  · rw [h1] at h3
    rw [Option.some.inj h3]
    exact ⟨rfl,rfl,rfl,Int.le_refl _⟩
theorem Jb7 {P:Pallet} (hP:Sml P) {bs:List Box} {sp:List Spot} (hg:Good P bs sp):Good P bs (rnd bs sp) ∧ Jct sp (rnd bs sp) :=
 ⟨(Qwm (L:=[]) hP _ sp (λk hk=>List.mem_range.1 hk) hg (λi hi=>by simp at hi)).1,Q3w hP _ sp (λk hk=>List.mem_range.1 hk) hg⟩
theorem Q1k:∀ (n:Nat) (a:Int),Qkd a n = (List.range n).map λk=>a + ((k:Nat):Int)
 | 0,_=>rfl
 | n + 1,a=>by
  unfold Qkd
  rw [Q1k n (a + 1),List.range_succ_eq_map,List.map_cons,List.map_map]
  congr 1
  · simp
  · refine List.map_congr_left λk _=>?_
    simp only [Function.comp]
    omega
theorem Jf2 (bs:List Box) (sp:List Spot):(Qkd 0 bs.length).foldl (Qyh bs) sp = rnd bs sp:=by
 rw [Q1k,List.foldl_map]
 unfold rnd
 congr 1
 funext s k
 rw [Int.zero_add]
theorem Jg3 {r:Request} {p:Carton × Spot} (h:Q54 r p = true):Ins r.fJ (Qub r p.1) p.2:=by
 unfold Q54 Jbc Q4c at h
 simp only [Bool.and_eq_true,Qdz,decide_eq_true_eq] at h
 obtain ⟨⟨k1,k2,k3,k4,k5,k6⟩,h1,h2,h3,h4,h5,h6⟩:=h
 rw [Qbp (by omega) (by omega)] at h4 h5 h6
 exact ⟨by omega,by omega,by omega,by omega⟩
theorem Jfx {r:Request} {p:Carton × Spot} (hP:Sml r.fJ) (h:Ins r.fJ (Qub r p.1) p.2):Q54 r p = true:=by
 obtain ⟨p1,p2,p3⟩:=hP
 obtain ⟨⟨a1,a2,a3⟩,a4,a5,a6⟩:=h
 unfold Q54 Jbc Q4c
 simp only [Bool.and_eq_true,Qdz,decide_eq_true_eq]
 rw [Qbp (by omega) (by omega),Qbp (by omega) (by omega),Qbp (by omega) (by omega)]
 omega
theorem Jan {r:Request} {x:Plan} (hf:Qw9 r x = true):Good r.fJ (bxs r x) x.fU:=by
 have hP:=Q2h hf
 have el:=Qwh hf
 have hI:=Q1y.1 hf
 have hins:∀ q ∈ cs x,Q54 r q = true:=List.all_eq_true.1 hI.ins
 have hcs:∀ (j:Nat) (b:Box) (s:Spot),(bxs r x)[j]? = some b → x.fU[j]? = some s → ∃ c,b = Qub r c ∧ (cs x)[j]? = some (c,s):=λj b s hb hs=>by
  unfold bxs at hb
  rw [List.getElem?_map] at hb
  cases hc:x.fQ[j]? with
  | none=>rw [hc] at hb; cases hb
  | some c =>
   rw [hc] at hb
   exact ⟨c,(Option.some.inj hb).symm,List.getElem?_zip_eq_some.2 ⟨hc,hs⟩⟩
 have hin:∀ (j:Nat) (b:Box) (s:Spot),(bxs r x)[j]? = some b → x.fU[j]? = some s → Ins r.fJ b s:=λj b s hb hs=>by
  obtain ⟨c,rfl,hc⟩:=hcs j b s hb hs
  exact Jg3 (hins _ (List.mem_of_getElem? hc))
 have hpw:=Jcy (r:=r) (cs x) [] List.Pairwise.nil hI.apr
 rw [List.nil_append,List.pairwise_iff_getElem] at hpw
 refine ⟨by simp [bxs,el],hin,λi j b s c t hij hb hs hc ht ho=>?_⟩
 have h1:=hin i b s hb hs
 have h2:=hin j c t hc ht
 have h3:=(Qys hP h1 h2).2 ho
 have h4:=(Qys hP h2 h1).2 ho.symm
 obtain ⟨d,rfl,hd⟩:=hcs i b s hb hs
 obtain ⟨e,rfl,he⟩:=hcs j c t hc ht
 obtain ⟨g1,g2⟩:=List.getElem?_eq_some_iff.1 hd
 obtain ⟨g3,g4⟩:=List.getElem?_eq_some_iff.1 he
 rcases Nat.lt_or_gt_of_ne hij with hlt | hlt
 · have:=hpw i j g1 g3 hlt
   rw [g2,g4] at this
   unfold ovP at this
   rw [h4] at this
   cases this
 · have:=hpw j i g3 g1 hlt
   rw [g2,g4] at this
   unfold ovP at this
   rw [h3] at this
   cases this
theorem Jg0 {r:Request} {x:Plan} (hf:Qw9 r x = true) {sp:List Spot} (hg:Good r.fJ (bxs r x) sp) (hl:Jct x.fU sp):Qw9 r ⟨x.fQ,sp⟩ = true:=by
 have hP:=Q2h hf
 have el:=Qwh hf
 obtain ⟨i1,i2,i3,i4,i5,i6,i7,i8,i9,i10⟩:=Q1y.1 hf
 have hcs:∀ (j:Nat) (q:Carton × Spot),(x.fQ.zip sp)[j]? = some q → (bxs r x)[j]? = some (Qub r q.1) ∧ sp[j]? = some q.2:=λj q h=>by
  obtain ⟨h1,h2⟩:=List.getElem?_zip_eq_some.1 h
  exact ⟨by unfold bxs; rw [List.getElem?_map,h1]; rfl,h2⟩
 have hin:∀ q ∈ x.fQ.zip sp,Ins r.fJ (Qub r q.1) q.2:=λq hq=>by
  obtain ⟨j,hj⟩:=List.mem_iff_getElem?.1 hq
  obtain ⟨h1,h2⟩:=hcs j q hj
  exact hg.ins j _ _ h1 h2
 have epal:sp.map (·.fJ) = x.fU.map (·.fJ):=by
  refine List.ext_getElem? λj=>?_
  rw [List.getElem?_map,List.getElem?_map]
  cases h:sp[j]? with
  | none =>
   have:=List.getElem?_eq_none_iff.1 h
   rw [List.getElem?_eq_none_iff.2 (by have:=hl.1; omega)]
  | some t =>
   have hj:=(List.getElem?_eq_some_iff.1 h).1
   have hs:x.fU[j]? = some (x.fU[j]'(by have:=hl.1; omega)):=List.getElem?_eq_getElem _
   rw [hs,Option.map_some,Option.map_some,(hl.2 j _ t hs h).1]
 have hpok:=i2
 unfold Q3b at hpok
 simp only [Bool.and_eq_true] at hpok
 have hl1:=hl.1
 refine Q1y.2 ⟨i1,?_,i3,i4,i5,i6,i7,?_,?_,?_⟩
 · unfold Q3b
   simp only [Bool.and_eq_true]
   refine ⟨by simp only [beq_iff_eq]; omega,hpok.2.1,List.all_eq_true.2 λq hq=>?_⟩
   obtain ⟨j,hj⟩:=List.mem_iff_getElem?.1 hq
   obtain ⟨h1,h2⟩:=List.getElem?_zip_eq_some.1 hj
   have hlt:=(List.getElem?_eq_some_iff.1 h2).1
   have hs:x.fU[j]? = some (x.fU[j]'(by omega)):=List.getElem?_eq_getElem _
   have h3:=List.all_eq_true.1 hpok.2.2 (q.1,x.fU[j]'(by omega)) (List.mem_iff_getElem?.2 ⟨j,List.getElem?_zip_eq_some.2 ⟨h1,hs⟩⟩)
   have h4:=hl.2 j _ _ hs h2
   obtain ⟨⟨a1,a2,a3⟩,a4,a5,a6⟩:=hin q hq
   obtain ⟨p1,p2,p3⟩:=hP
   rw [Bool.and_eq_true] at h3 ⊢
   refine ⟨h3.1,?_⟩
   have h5:=h3.2
   unfold Jdn at h5 ⊢
   simp only [Bool.and_eq_true,Qdz] at h5 ⊢
   omega
 · exact List.all_eq_true.2 λq hq=>Jfx hP (hin q hq)
 · refine Q8a _ _ ?_
   rw [List.nil_append,List.pairwise_iff_getElem]
   intro i j hi hj hlt
   obtain ⟨h1,h2⟩:=hcs i _ (List.getElem?_eq_getElem hi)
   obtain ⟨h3,h4⟩:=hcs j _ (List.getElem?_eq_getElem hj)
   rw [← Bool.not_eq_true]
   intro ho
   unfold ovP at ho
   exact hg.apr j i _ _ _ _ (by omega) h3 h4 h1 h2 ((Qys hP (hg.ins j _ _ h3 h4) (hg.ins i _ _ h1 h2)).1 ho)
 · have eo:∀ k,onM ⟨x.fQ,sp⟩ k = onM x k:=λk=>by
     unfold onM
     rw [show (sp.length == x.fQ.length) = true by simp only [beq_iff_eq]; omega,show (x.fU.length == x.fQ.length) = true by simpa using el]
     exact Q5t k _ _ 0 epal
   have ep:Qxw sp = Qxw x.fU:=Q3p _ _ 0 epal
   have ec:∀ i,Qz3 ⟨x.fQ,sp⟩ i = Qz3 x i:=λi=>rfl
   rw [ep]
   refine List.all_eq_true.2 λk hk=>?_
   have:=List.all_eq_true.1 i10 k hk
   unfold plB pgM at this ⊢
   simp only [eo,ec]
   exact this
theorem Q9h {r:Request} {x:Plan} (hf:Qw9 r x = true):Qvp r x = ⟨x.fQ,rnd (bxs r x) x.fU⟩:=by
 unfold Qvp
 rw [hf,cond_true,← Jf2,show (bxs r x).length = x.fQ.length by simp [bxs]]
theorem Jas {r:Request} {x:Plan} (hf:Qw9 r x = true):Qw9 r (Qvp r x) = true ∧ Jct x.fU (Qvp r x).fU:=by
 obtain ⟨h1,h2⟩:=Jb7 (Q2h hf) (Jan hf)
 rw [Q9h hf]
 exact ⟨Jg0 hf h1 h2,h2⟩
def itM (r:Request):Nat → Plan → Plan
 | 0,x=>x
 | n + 1,x=>itM r n (Qvp r x)
theorem Jdr {r:Request}:∀ (n:Nat) (x:Plan),Qw9 r x = true → Qw9 r (itM r n x) = true ∧ itM r n x = ⟨x.fQ,Jbs (bxs r x) n x.fU⟩
 | 0,x,hf=>⟨hf,rfl⟩
 | n + 1,x,hf=>by
  obtain ⟨h1,h2⟩:=Jdr n (Qvp r x) (Jas hf).1
  refine ⟨h1,?_⟩
  show itM r n (Qvp r x) = _
  rw [h2,Q9h hf]
  rfl
theorem Jhf {r:Request} {x:Plan} (hf:Qw9 r x = true):Qvp r (itM r x.fU.length x) = itM r x.fU.length x:=by
 obtain ⟨h1,h2⟩:=Jdr x.fU.length x hf
 obtain ⟨_,h4⟩:=Jc6 (Q2h hf) x.fU.length x.fU [] (Jan hf) (λi hi=>by simp at hi) List.nodup_nil (λi hi=>by simp at hi) (by have:=Qwh hf; simp [bxs]; omega)
 rw [Q9h h1,h2]
 show (⟨x.fQ,rnd (bxs r x) (Jbs (bxs r x) x.fU.length x.fU)⟩:Plan) = _
 rw [h4]
end Go.Proofs.YtpcmapfabndggaaGreat
/- What is drawn is there, and in bounds. -/
namespace Go.Proofs.YtpcmapfabndggaaGreat
open Go
open Enc (rd ow)
open Arg (argv)
open Ret (retv)
open Wf (wf)
def Tot {α:Type} (o:Option α) (Q:α → Prop):Prop:=∃ x,o = some x ∧ Q x
theorem Tot.mk {α:Type} {x:α} {Q:α → Prop} (h:Q x):Tot (some x) Q:=⟨x,rfl,h⟩
theorem Tot.of {α:Type} {o:Option α} {x:α} {Q:α → Prop} (e:o = some x) (h:Q x):Tot o Q:=⟨x,e,h⟩
theorem Tot.bind {α β:Type} {m:Option α} {k:α → Option β} {R:α → Prop} {Q:β → Prop} (h:Tot m R) (hk:∀ x,R x → Tot (k x) Q):Tot (Qac m k) Q:=by
 obtain ⟨x,rfl,hx⟩:=h
 exact hk x hx
theorem Tot.bif {α:Type} {c:Bool} {a b:Option α} {Q:α → Prop} (h1:c = true → Tot a Q) (h2:c = false → Tot b Q):Tot (bif c then a else b) Q:=by
 cases c
 · exact h2 rfl
 · exact h1 rfl
theorem Tot.imp {α:Type} {o:Option α} {Q R:α → Prop} (h:Tot o Q) (hi:∀ x,Q x → R x):Tot o R:=by
 obtain ⟨x,e,hx⟩:=h
 exact ⟨x,e,hi x hx⟩
theorem Tot.ap {α β:Type} {bytes:Nat} {xs ys:List α} {k:List α → Option β} {Q:β → Prop} (h:(xs.length + ys.length) * bytes ≤ 140737488355328) (hk:Tot (k (xs ++ ys)) Q):Tot (Qac (Qhv bytes xs ys) k) Q:=by
 rw [ap1 h]; exact hk
theorem Tot.ix {α β:Type} {l:List α} {i:Int} {k:α → Option β} {Q:β → Prop} (h:0 ≤ i ∧ i < l.length) (hk:∀ x,x ∈ l → Tot (k x) Q):Tot (Qac (ix l i) k) Q:=by
 have e:=Qxq (l:=l) (i:=i.toNat) (by omega)
 rw [show ((i.toNat:Nat):Int) = i by omega] at e
 rw [e]
 exact hk _ (List.getElem_mem _)
theorem lpT {σ β:Type} (b:Int) (L:Nat → σ → Int → Option β) (Q:β → Prop) (I:Int → σ → Prop) (hb:b ≤ 1099511627776)
    (hs:∀ n s (i:Int),0 ≤ i → i < b → I i s → (∀ s',I (i + 1) s' → Tot (L n s' (w64 (i + 1))) Q) → Tot (L (n + 1) s i) Q)
    (he:∀ n s (i:Int),0 ≤ i → b ≤ i → I i s → Tot (L (n + 1) s i) Q):∀ (m:Nat) n s (a:Int),0 ≤ a → (b - a).toNat = m → m < n → I a s → Tot (L n s a) Q:=by
 intro m
 induction m with
 | zero =>
  intro n s a ha hm hn hI
  obtain ⟨n,rfl⟩:∃ k,n = k + 1:=⟨n - 1,by omega⟩
  exact he n s a ha (by omega) hI
 | succ m ih =>
  intro n s a ha hm hn hI
  obtain ⟨n,rfl⟩:∃ k,n = k + 1:=⟨n - 1,by omega⟩
  refine hs n s a ha (by omega) hI λs' hI'=>?_
  rw [Qbp (by omega) (by omega)]
  exact ih n s' (a + 1) (by omega) (by omega) (by omega) hI'
def CO (b:List U8) (c:Cur):Prop:=c.fb = b ∧ 0 ≤ c.fi ∧ b.length ≤ 1048576
theorem CO.re {b:List U8} {c c':Cur} (h:CO b c) (h':CO b c'):CO b ⟨c.fb,c'.fi,c'.fh⟩:=⟨h.1,h'.2⟩
theorem CO.re' {b:List U8} {c':Cur} (h':CO b c'):CO b ⟨b,c'.fi,c'.fh⟩:=⟨rfl,h'.2⟩
theorem Jc0 (x:Int):0 ≤ IntKind.wrap .i64 (((BitVec.ofInt (IntKind.bits .i64) x &&& BitVec.ofInt (IntKind.bits .i64) 255).toNat:Nat):Int) ∧ IntKind.wrap .i64 (((BitVec.ofInt (IntKind.bits .i64) x &&& BitVec.ofInt (IntKind.bits .i64) 255).toNat:Nat):Int) ≤ 255:=by
 have h:(BitVec.ofInt (IntKind.bits .i64) x &&& BitVec.ofInt (IntKind.bits .i64) 255).toNat ≤ 255:=by
  rw [BitVec.toNat_and]
  have h2:(BitVec.ofInt (IntKind.bits .i64) 255).toNat = 255:=by decide
  rw [h2]
  exact Nat.and_le_right
 have e:=Qbp (n:=(((BitVec.ofInt (IntKind.bits .i64) x &&& BitVec.ofInt (IntKind.bits .i64) 255).toNat:Nat):Int)) (by omega) (by omega)
 unfold w64 at e
 rw [e]
 omega
theorem Qyy {fu:Nat} {b:List U8} {c:Cur} (h:CO b c):Tot (Qho fu c) λx=>(0 ≤ x.1 ∧ x.1 ≤ 255) ∧ CO b x.2:=by
 obtain ⟨h1,h2,h3⟩:=h
 unfold Qho
 refine Tot.bif (λhc=>?_) λhc=>?_
 · have hlt:=of_decide_eq_true hc
   refine Tot.ix ⟨h2,hlt⟩ λx _=>Tot.mk ⟨Jc0 _,h1,?_,h3⟩
   show 0 ≤ w64 (c.fi + 1)
   rw [h1] at hlt
   rw [Qbp (by omega) (by omega)]; omega
 · exact Tot.mk ⟨Jc0 _,h1,h2,h3⟩
theorem Qcz {fu:Nat} {b:List U8} {c:Cur} (h:CO b c) (n:Int):Tot (Qao fu c n) λx=>(0 ≤ x.1 ∧ (0 < n → x.1 < n)) ∧ CO b x.2:=by
 unfold Qao
 refine Tot.bif (λhc=>?_) λhc=>?_
 · have hlt:=of_decide_eq_true hc
   exact Tot.mk ⟨⟨Int.le_refl _,λh=>by omega⟩,h⟩
 · have hn:0 < n:=by simpa using hc
   refine Tot.bif (λhc=>?_) λhc=>?_
   · refine Tot.bind (Qyy h) λx hx=>?_
     rw [Q7x (by omega),Qab]
     exact Tot.mk ⟨⟨Int.tmod_nonneg _ hx.1.1,λ_=>Int.tmod_lt_of_pos _ hn⟩,h.re hx.2⟩
   · refine Tot.bind (Qyy h) λx hx=>Tot.bind (Qyy (h.re hx.2)) λy hy=>Tot.bind (Qyy (h.re hy.2)) λz hz=>Tot.bind (Qyy (h.re hz.2)) λq hq=>?_
     rw [Q7x (by omega),Qab]
     obtain ⟨⟨x0,x1⟩,_⟩:=hx
     obtain ⟨⟨y0,y1⟩,_⟩:=hy
     obtain ⟨⟨z0,z1⟩,_⟩:=hz
     obtain ⟨⟨q0,q1⟩,hq2⟩:=hq
     refine Tot.mk ⟨⟨?_,λ_=>Int.tmod_lt_of_pos _ hn⟩,h.re hq2⟩
     apply Int.tmod_nonneg
     simp only [Qbp (n:=x.1 * 16777216) (by omega) (by omega),Qbp (n:=y.1 * 65536) (by omega) (by omega),Qbp (n:=z.1 * 256) (by omega) (by omega)]
     rw [Qbp (n:=x.1 * 16777216 + y.1 * 65536) (by omega) (by omega),Qbp (n:=x.1 * 16777216 + y.1 * 65536 + z.1 * 256) (by omega) (by omega),Qbp (by omega) (by omega)]
     omega
theorem Q2l {fu:Nat} {b:List U8} {c:Cur} (h:CO b c) (n:Int):Tot (Qi6 fu c n) λx=>CO b x.2:=by
 unfold Qi6
 exact Tot.bind (Qcz h n) λx hx=>Tot.mk (h.re hx.2)
theorem Qs5 {fu:Nat} {b:List U8} {c:Cur} (h:CO b c) (l:List Int) (hl:0 < l.length):Tot (Qbt fu c l) λx=>x.1 ∈ l ∧ CO b x.2:=by
 unfold Qbt
 exact Tot.bind (Qcz h _) λx hx=>Tot.ix ⟨hx.1.1,hx.1.2 (by omega)⟩ λy hy=>Tot.mk ⟨hy,h.re hx.2⟩
theorem Q8m {fu:Nat} {b:List U8} (hb:b.length ≤ 1048576) (hf:1048577 ≤ fu):Tot (Qof fu b) (CO b):=by
 unfold Qof
 refine lpT (b.length:Int) (λn s i=>Qgz fu b n s i) (CO b) (λ_ _=>True) (by omega) ?_ ?_ b.length fu _ 0 (by omega) (by omega) (by omega) trivial
 · intro n s i h0 h1 _ ih
   simp only [Qgz.eq_2]
   unfold Qo7 Qri
   rw [Qcn (by simpa using h1)]
   refine Tot.bif (λhc=>?_) λhc=>?_
   · exact Tot.ix ⟨h0,h1⟩ λx _=>ih _ trivial
   · exact Tot.mk ⟨rfl,by simp,hb⟩
 · intro n s i h0 h1 _
   simp only [Qgz.eq_2]
   unfold Qo7
   rw [Qbb (by simp; omega)]
   exact Tot.mk ⟨rfl,by simp,hb⟩
end Go.Proofs.YtpcmapfabndggaaGreat
/- An order that is drawn is there, and small. -/
namespace Go.Proofs.YtpcmapfabndggaaGreat
open Go
open Enc (rd ow)
open Arg (argv)
open Ret (retv)
open Wf (wf)
def SmR (r:Request):Prop:=r.fL.length ≤ 64 ∧ r.fT.length ≤ 64 ∧ r.fG.length ≤ 64
theorem SmR.sm {r:Request} (h:SmR r) {fu:Nat} (hf:2097153 ≤ fu):Sm fu r:=⟨hf,by have:=h.1; omega,by have:=h.2.1; omega,by have:=h.2.2; omega⟩
theorem Q5l {fu:Nat} {b:List U8} {c:Cur} (h:CO b c) (hf:1048577 ≤ fu):Tot (Qm3 fu c) λx=>(x.1.fL.length ≤ 40 ∧ (1 ≤ x.1.fT.length ∧ x.1.fT.length ≤ 8) ∧ x.1.fG.length ≤ 8) ∧ CO b x.2:=by
 unfold Qm3
 refine Tot.bind (Qcz h _) λx1 h1=>Tot.bind (Qs5 (h.re h1.2) _ (by simp)) λx2 h2=>Tot.bind (Qs5 (h.re h2.2) _ (by simp)) λx3 h3=>Tot.bind (Qs5 (h.re h3.2) _ (by simp)) λx4 h4=>Tot.bind (Qs5 (h.re h4.2) _ (by simp)) λx5 h5=>Tot.bind (Qcz (h.re h5.2) _) λx6 h6=>?_
 have hb:=h.2.2
 have hcb:=h.1
 obtain ⟨c0,c1⟩:=h6.1
 have c1:=c1 (by omega)
 have ew:w64 (1 + x6.1) = 1 + x6.1:=Qbp (by omega) (by omega)
 have L4:=lpT (1 + x6.1) (λn (s:Int × Int × List Pair) i=>Qde fu c x1 x2 x3 x4 x5 x6 n s.1 s.2.1 s.2.2 i) (λx:Request × Cur=>(x.1.fL.length ≤ 40 ∧ (1 ≤ x.1.fT.length ∧ x.1.fT.length ≤ 8) ∧ x.1.fG.length ≤ 8) ∧ CO b x.2)
  (λi s=>0 ≤ s.1 ∧ (s.2.2.length:Int) ≤ 8 * i ∧ i ≤ 4) (by omega) ?_ ?_ (1 + x6.1 - 0).toNat fu (x6.2.fi,x6.2.fh,[]) 0 (by omega) rfl (by omega) ⟨h6.2.2.1,by simp,by omega⟩
 · exact L4
 · intro n ⟨f1,f2,ps⟩ a ha0 ha1 hI ih
   obtain ⟨i1,i2,i3⟩:0 ≤ f1 ∧ (ps.length:Int) ≤ 8 * a ∧ a ≤ 4:=hI
   simp only [Qde.eq_2]
   unfold Qlf
   rw [ew,Qcn (by simpa using ha1)]
   have L1:=lpT (a + 1) (λm (s:Int × Int × List Pair) i=>Qfd fu (Qde fu c x1 x2 x3 x4 x5 x6 n) c a m s.1 s.2.1 s.2.2 i) (λx:Request × Cur=>(x.1.fL.length ≤ 40 ∧ (1 ≤ x.1.fT.length ∧ x.1.fT.length ≤ 8) ∧ x.1.fG.length ≤ 8) ∧ CO b x.2)
    (λi s=>0 ≤ s.1 ∧ (s.2.2.length:Int) ≤ 8 * a + 2 * i ∧ i ≤ a + 1) (by omega) ?_ ?_ (a + 1 - 0).toNat fu (f1,f2,ps) 0 (by omega) rfl (by omega) ⟨i1,by simp; omega,by omega⟩
   · exact L1
   · intro m ⟨g1,g2,qs⟩ i hi0 hi1 hI ih2
     obtain ⟨j1,j2,j3⟩:0 ≤ g1 ∧ (qs.length:Int) ≤ 8 * a + 2 * i ∧ i ≤ a + 1:=hI
     simp only [Qfd.eq_2]
     unfold Qmd
     rw [Qcn (by simp; omega)]
     unfold Qhw
     refine Tot.bif (λhc=>?_) λhc=>?_
     · refine Tot.ap (by simp; omega) ?_
       exact ih2 (g1,g2,_) ⟨j1,by simp; omega,by omega⟩
     · refine Tot.bind (Q2l (b:=b) (c:=⟨c.fb,g1,g2⟩) ⟨hcb,j1,hb⟩ 2) λy hy=>?_
       refine Tot.bif (λhc=>?_) λhc=>?_
       · refine Tot.ap (by simp; omega) ?_
         exact ih2 (y.2.fi,y.2.fh,_) ⟨hy.2.1,by simp; omega,by omega⟩
       · exact ih2 (y.2.fi,y.2.fh,_) ⟨hy.2.1,by simp; omega,by omega⟩
   · intro m ⟨g1,g2,qs⟩ i hi0 hi1 hI
     obtain ⟨j1,j2,j3⟩:0 ≤ g1 ∧ (qs.length:Int) ≤ 8 * a + 2 * i ∧ i ≤ a + 1:=hI
     simp only [Qfd.eq_2]
     unfold Qmd
     rw [Qbb (by simp; omega)]
     have:i = a + 1:=by omega
     exact ih (g1,g2,qs) ⟨j1,by simp; omega,by omega⟩
 · intro n ⟨f1,f2,ps⟩ a ha0 ha1 hI
   obtain ⟨i1,i2,i3⟩:0 ≤ f1 ∧ (ps.length:Int) ≤ 8 * a ∧ a ≤ 4:=hI
   simp only [Qde.eq_2]
   unfold Qlf
   rw [ew,Qbb (by simpa using ha1)]
   refine Tot.bind (Qcz (b:=b) (c:=⟨c.fb,f1,f2⟩) ⟨hcb,i1,hb⟩ _) λy1 g1=>Tot.bind (Qs5 (h.re g1.2) _ (by simp)) λy2 g2=>Tot.bind (Qs5 (h.re g2.2) _ (by simp)) λy3 g3=>Tot.ap (by simp) ?_
   unfold Qpb
   refine Tot.bind (Qcz (h.re g3.2) _) λy4 g4=>?_
   obtain ⟨e0,e1⟩:=g4.1
   have e1:=e1 (by omega)
   have L3:=lpT y4.1 (λm (s':Int × Int × List Typ) i=>Qgl fu c x1 x2 x3 x4 x5 x6 ps y4 m s'.1 s'.2.1 s'.2.2 i) (λx:Request × Cur=>(x.1.fL.length ≤ 40 ∧ (1 ≤ x.1.fT.length ∧ x.1.fT.length ≤ 8) ∧ x.1.fG.length ≤ 8) ∧ CO b x.2)
    (λi s=>0 ≤ s.1 ∧ (s.2.2.length:Int) = 1 + i ∧ i ≤ y4.1) (by omega) ?_ ?_ (y4.1 - 0).toNat fu (y4.2.fi,y4.2.fh,([]:List Typ) ++ [(⟨7,12,10,11,y1.1,y2.1,y3.1⟩:Typ)]) 0 (by omega) rfl (by omega) ⟨g4.2.2.1,by simp,by omega⟩
   · exact L3
   · intro m ⟨g1,g2,ts⟩ i hi0 hi1 hI ih2
     obtain ⟨j1,j2,j3⟩:0 ≤ g1 ∧ (ts.length:Int) = 1 + i ∧ i ≤ y4.1:=hI
     simp only [Qgl.eq_2]
     unfold Qls
     rw [Qcn (by simp; omega)]
     refine Tot.bind (Qcz (b:=b) (c:=⟨c.fb,g1,g2⟩) ⟨hcb,j1,hb⟩ _) λz1 f1=>Tot.bind (Qcz (h.re f1.2) _) λz2 f2=>Tot.bind (Qcz (h.re f2.2) _) λz3 f3=>Tot.bind (Qcz (h.re f3.2) _) λz4 f4=>Tot.bind (Qcz (h.re f4.2) _) λz5 f5=>Tot.bind (Qcz (h.re f5.2) _) λz6 f6=>Tot.ap (by simp; omega) ?_
     exact ih2 (z6.2.fi,z6.2.fh,_) ⟨f6.2.2.1,by simp; omega,by omega⟩
   · intro m ⟨g1,g2,ts⟩ i hi0 hi1 hI
     obtain ⟨j1,j2,j3⟩:0 ≤ g1 ∧ (ts.length:Int) = 1 + i ∧ i ≤ y4.1:=hI
     simp only [Qgl.eq_2]
     unfold Qls
     rw [Qbb (by simp; omega)]
     refine Tot.bind (Qcz (b:=b) (c:=⟨c.fb,g1,g2⟩) ⟨hcb,j1,hb⟩ _) λz f=>?_
     obtain ⟨q0,q1⟩:=f.1
     have q1:=q1 (by omega)
     have L2:=lpT z.1 (λm (t:Int × Int × List Item × Int) i=>Qcx fu c x1 x2 x3 x4 x5 x6 ps ts z m t.1 t.2.1 t.2.2.1 t.2.2.2 i) (λx:Request × Cur=>(x.1.fL.length ≤ 40 ∧ (1 ≤ x.1.fT.length ∧ x.1.fT.length ≤ 8) ∧ x.1.fG.length ≤ 8) ∧ CO b x.2)
      (λi t=>0 ≤ t.1 ∧ (t.2.2.1.length:Int) ≤ i ∧ i ≤ z.1) (by omega) ?_ ?_ (z.1 - 0).toNat fu (z.2.fi,z.2.fh,[],0) 0 (by omega) rfl (by omega) ⟨f.2.2.1,by simp,by omega⟩
     · exact L2
     · intro m' ⟨k4,k5,is,un⟩ i' hi0 hi1 hI ih2
       obtain ⟨k1,k2,k3⟩:0 ≤ k4 ∧ (is.length:Int) ≤ i' ∧ i' ≤ z.1:=hI
       simp only [Qcx.eq_2]
       unfold Qkz
       rw [Qcn (by simp; omega)]
       refine Tot.bind (Qcz (b:=b) (c:=⟨c.fb,k4,k5⟩) ⟨hcb,k1,hb⟩ _) λw1 v1=>Tot.bind (Qcz (h.re v1.2) _) λw2 v2=>Tot.bind (Qcz (h.re v2.2) _) λw3 v3=>Tot.bind (Qcz (h.re v3.2) _) λw4 v4=>Tot.bind (Qcz (h.re v4.2) _) λw5 v5=>Tot.bind (Qcz (h.re v5.2) _) λw6 v6=>?_
       unfold Qo3
       have J3:∀ (p q:Int) (x:Item),0 ≤ p → Tot (Qhy fu (Qcx fu c x1 x2 x3 x4 x5 x6 ps ts z m') is un i' p q x) (λx:Request × Cur=>(x.1.fL.length ≤ 40 ∧ (1 ≤ x.1.fT.length ∧ x.1.fT.length ≤ 8) ∧ x.1.fG.length ≤ 8) ∧ CO b x.2):=by
        intro p q x hp
        unfold Qhy Qkp
        refine Tot.bif (λhc=>?_) λhc=>?_
        · refine Tot.ap (by simp; omega) ?_
          exact ih2 (p,q,_,_) ⟨hp,by simp; omega,by omega⟩
        · exact ih2 (p,q,_,_) ⟨hp,by simp; omega,by omega⟩
       refine Tot.bind (Q2l (h.re v6.2) _) λw7 v7=>?_
       refine Tot.bif (λhc=>?_) λhc=>?_
       · refine Tot.bind (Qcz (h.re v7) _) λw8 v8=>?_
         exact J3 _ _ _ v8.2.2.1
       · exact J3 _ _ _ v7.2.1
     · intro m' ⟨k4,k5,is,un⟩ i' hi0 hi1 hI
       obtain ⟨k1,k2,k3⟩:0 ≤ k4 ∧ (is.length:Int) ≤ i' ∧ i' ≤ z.1:=hI
       simp only [Qcx.eq_2]
       unfold Qkz
       rw [Qbb (by simp; omega)]
       exact Tot.mk ⟨⟨by simp; omega,by simp; omega,by simp; omega⟩,hcb,k1,hb⟩
theorem Jec {fu:Nat} {b:List U8} {c:Cur} (h:CO b c) (hf:2097153 ≤ fu):Tot (Qr1 fu c) λx=>SmR x.1 ∧ CO b x.2:=by
 unfold Qr1
 refine Tot.bind (Q5l h (by omega)) λx hx=>?_
 obtain ⟨⟨a1,a2,a3⟩,hc⟩:=hx
 have hs:SmR x.1:=⟨by omega,by omega,by omega⟩
 rw [Q03 (hs.sm hf),Qab]
 refine Tot.bif (λ_=>?_) λ_=>Tot.mk ⟨hs,h.re hc⟩
 have hs2:Sm fu (⟨x.1.qQ,(⟨30,25,24,400⟩:Pallet),x.1.fR,x.1.fL,x.1.fT,x.1.fP,x.1.fG⟩:Request):=⟨hf,by simp; omega,by simp; omega,by simp; omega⟩
 rw [Q8q hs2,Qab]
 generalize Qxm _ = t
 refine lpT (x.1.fG.length:Int) (λn s i=>Qf1 fu c x t n s i) _ (λi s=>(s.length:Int) ≤ i ∧ i ≤ x.1.fG.length) (by omega) ?_ ?_ _ fu [] 0 (by omega) rfl (by omega) ⟨by simp,by omega⟩
 · intro n s i h0 h1 hI ih
   simp only [Qf1.eq_2]
   unfold Qnq Qmr
   rw [Qcn (by simpa using h1)]
   refine Tot.ix ⟨h0,h1⟩ λy hy=>?_
   rw [Je7 hf,Qab]
   refine Tot.bif (λ_=>?_) λ_=>ih _ ⟨by omega,by omega⟩
   refine Tot.ix ⟨h0,h1⟩ λy hy=>Tot.ap (by simp; omega) ?_
   exact ih _ ⟨by simp; omega,by omega⟩
 · intro n s i h0 h1 hI
   simp only [Qf1.eq_2]
   unfold Qnq
   rw [Qbb (by simp; omega)]
   exact Tot.mk ⟨⟨by simp; omega,by simp; omega,by simp; omega⟩,h.re hc⟩
theorem Qy3 {α:Type} (l:List α) (i:Int) (y:α):(Qge l i y).length = l.length:=by simp [Qge]
theorem Q3t {α:Type} {l:List α} (h:0 < l.length):sls l 1 (l.length:Int) = some (l.drop 1):=by
 rw [Qt8 (by omega)]
 congr 1
 exact List.take_of_length_le (by simp)
theorem Jeq {fu:Nat} {b:List U8} {c:Cur} (h:CO b c) (hf:2097153 ≤ fu):Tot (Qrg fu c) λx=>SmR x.1 ∧ CO b x.2:=by
 unfold Qrg
 refine Tot.bind (Q5l h (by omega)) λx hx=>?_
 obtain ⟨⟨a1,a2,a3⟩,hc⟩:=hx
 obtain ⟨c1,c2,c3⟩:=h
 have h:CO b c:=⟨c1,c2,c3⟩
 refine Tot.bind (Qs5 (h.re hc) _ (by simp)) λy hy=>Tot.bind (Qcz (h.re hy.2) _) λz hz=>?_
 have J:∀ (f264 f265 f266 f267:Int) (f268:List Pair) (f273:List Typ) (f278:Int) (f279:List Item) (f286 f287:Int),f268.length ≤ 64 → f273.length ≤ 64 → f279.length ≤ 64 → 0 ≤ f286 → Tot (Qbe fu c x f264 f265 f266 f267 f268 f273 f278 f279 f286 f287) λx=>SmR x.1 ∧ CO b x.2:=by
  intro f264 f265 f266 f267 f268 f273 f278 f279 f286 f287 q1 q2 q3 q4
  exact Tot.mk ⟨⟨q1,q2,q3⟩,c1,q4,c3⟩
 have hz0:=hz.2.2.1
 refine Tot.bif (λ_=>?_) λ_=>?_
 · exact Tot.bind (Qs5 (h.re hz.2) _ (by simp)) λy hy=>J _ _ _ _ _ _ _ _ _ _ (by omega) (by omega) (by omega) hy.2.2.1
 refine Tot.bif (λ_=>?_) λ_=>?_
 · exact J _ _ _ _ _ _ _ _ _ _ (by omega) (by omega) (by omega) hz0
 refine Tot.bif (λ_=>?_) λ_=>?_
 · exact J _ _ _ _ _ _ _ _ _ _ (by omega) (by omega) (by omega) hz0
 refine Tot.bif (λ_=>?_) λ_=>?_
 · exact Tot.bind (Qs5 (h.re hz.2) _ (by simp)) λy hy=>J _ _ _ _ _ _ _ _ _ _ (by omega) (by omega) (by omega) hy.2.2.1
 refine Tot.bif (λ_=>?_) λ_=>?_
 · exact Tot.bind (Qcz (h.re hz.2) _) λy hy=>Tot.bind (Qcz (h.re hy.2) _) λv hv=>Tot.ap (by simp; omega) (J _ _ _ _ _ _ _ _ _ _ (by simp; omega) (by omega) (by omega) hv.2.2.1)
 refine Tot.bif (λ_=>?_) λ_=>?_
 · exact Tot.ix (by omega) λy hy=>J _ _ _ _ _ _ _ _ _ _ (by omega) (by rw [Qy3]; omega) (by omega) hz0
 refine Tot.bif (λ_=>?_) λ_=>?_
 · exact Tot.bind (Qcz (h.re hz.2) _) λy hy=>Tot.ix ⟨hy.1.1,hy.1.2 (by omega)⟩ λv hv=>J _ _ _ _ _ _ _ _ _ _ (by omega) (by rw [Qy3]; omega) (by omega) hy.2.2.1
 refine Tot.bif (λ_=>?_) λ_=>?_
 · exact Tot.bind (Qs5 (h.re hz.2) _ (by simp)) λy hy=>J _ _ _ _ _ _ _ _ _ _ (by omega) (by omega) (by omega) hy.2.2.1
 refine Tot.bif (λ_=>?_) λ_=>?_
 · exact Tot.bind (Qcz (h.re hz.2) _) λy hy=>Tot.bind (Qcz (h.re hy.2) _) λv hv=>Tot.ap (by simp; omega) (J _ _ _ _ _ _ _ _ _ _ (by omega) (by omega) (by simp; omega) hv.2.2.1)
 refine Tot.bif (λ_=>?_) λ_=>?_
 · refine Tot.bif (λhc=>?_) λ_=>?_
   · have:=of_decide_eq_true hc
     exact Tot.ix (by omega) λy hy=>J _ _ _ _ _ _ _ _ _ _ (by omega) (by omega) (by rw [Qy3]; omega) hz0
   · exact J _ _ _ _ _ _ _ _ _ _ (by omega) (by omega) (by omega) hz0
 refine Tot.bif (λ_=>?_) λ_=>?_
 · refine Tot.bif (λhc=>?_) λ_=>?_
   · have:=of_decide_eq_true hc
     rw [Q3t (by omega),Qab]
     exact J _ _ _ _ _ _ _ _ _ _ (by simp; omega) (by omega) (by omega) hz0
   · exact J _ _ _ _ _ _ _ _ _ _ (by omega) (by omega) (by omega) hz0
 refine Tot.bif (λ_=>?_) λ_=>?_
 · exact Tot.ix (by omega) λy hy=>Tot.ap (by simp; omega) (J _ _ _ _ _ _ _ _ _ _ (by omega) (by simp; omega) (by omega) hz0)
 refine Tot.bif (λ_=>?_) λ_=>?_
 · exact J _ _ _ _ _ _ _ _ _ _ (by omega) (by simp) (by omega) hz0
 · exact J _ _ _ _ _ _ _ _ _ _ (by omega) (by omega) (by omega) hz0
theorem Jb4 {fu:Nat} {b:List U8} (hb:b.length ≤ 1048576) (hf:2097153 ≤ fu):Tot (Qmm fu b) SmR:=by
 unfold Qmm
 refine Tot.bind (Q8m hb (by omega)) λx hx=>Tot.bind (Q2l hx.re' _) λy hy=>?_
 refine Tot.bif (λ_=>?_) λ_=>?_
 · exact Tot.bind (Jec hy.re' hf) λz hz=>Tot.mk hz.1
 · exact Tot.bind (Jeq hy.re' hf) λz hz=>Tot.mk hz.1
theorem Jh7 (fu:Nat) (b:List U8):Qu4 fu b = some (decide ((b.length:Int) > 1048576)):=rfl
end Go.Proofs.YtpcmapfabndggaaGreat
/- SortDown, by spec and by impl (short lists). -/
namespace Go.Proofs.YtpcmapfabndggaaGreat
open Go
open Enc (rd ow)
open Arg (argv)
open Ret (retv)
open Wf (wf)
def dnk (keys:List Int) (p:Int):Int:=- kf keys p
theorem Jcv {fu:Nat} {keys:List Int} (hfu:2097153 ≤ fu) (hl:keys.length ≤ 1048576):Qg2 fu keys = some (srt (dnk keys) keys.length):=by
 unfold Qg2 Qp2
 rw [Q5c keys.length hl (by omega),Qab]
 obtain ⟨m,rfl⟩:∃ m,fu = m + 1:=⟨fu - 1,by omega⟩
 rw [Q5r true hfu m _ (by rw [Qen]; omega) (by rw [Qen]; omega) (λp hp=>by have:=Ql6.1 hp; omega),Qab]
 congr 1
 have e:dk keys true = dnk keys:=rfl
 rw [e]
 exact Q5o (Qta _ _ _) (Qt3 _ _ _ (by rw [Qen]; omega) (Qvq _ _))
end Go.Proofs.YtpcmapfabndggaaGreat
