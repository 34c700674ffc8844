import Derived.Test.YthddjkokpfdbnaaGreatMirroredBP2
set_option linter.unusedSimpArgs false
set_option linter.unusedVariables false
/- Copies of plans; plans that are turned: by spec and by impl. -/
namespace Go.Proofs.YthddjkokpfdbnaaGreat
open Go
open Enc (rd ow)
open Arg (argv)
open Ret (retv)
open Wf (wf)
theorem Jbc {fu:Nat} {l:List Carton} (hl:l.length ≤ 1048576) (hm:∀ c ∈ l,c.fM.length ≤ 1048576) (hf:1048577 ≤ fu):Qhq fu l = some l:=by
 unfold Qhq
 have key:=lpI l (fun n (o:List Carton) i=>Qdk fu l n o i) (fun xs o=>some (o ++ xs)) (fun xs o=>o.length + xs.length ≤ 1048576 ∧ ∀ c ∈ xs,c.fM.length ≤ 1048576) (by omega) ?_ ?_ fu [] ⟨by simp; omega,hm⟩ (by omega)
 · simpa using key
 · intro n o i c xs hx hd hI ih
   have hI1:=hI.1
   have hu:=hI.2 c (by simp)
   simp only [List.length_cons] at hI1
   simp only [Qdk.eq_2]
   unfold Qgx Qcq
   rw [hd,cond_true,hx,Qab,ap1 (by simp; omega),Qab,Qab,ap1 (by simp; omega),Qab,ih _ ⟨by simp; omega,fun d hd=>hI.2 d (by simp [hd])⟩]
   simp
 · intro n o i hd _
   simp only [Qdk.eq_2]
   unfold Qgx
   rw [hd,cond_false]; simp
theorem Jab {fu:Nat} {x:Plan} (h:Sp x) (hf:1048577 ≤ fu):Ql6 fu x = some x:=by
 have hs:=h.spots
 unfold Ql6 Qc9
 rw [Jbc h.cars h.units hf,Qab,ap1 (by simp; omega)]
 simp
theorem Q7k {fu:Nat} {x:Plan} (h:Sp x) (hf:1048577 ≤ fu):Qmn fu x = some x:=by
 have hs:=h.spots
 have hc:=h.cars
 unfold Qmn
 rw [ap1 (by simp; omega),Qab,List.nil_append]
 have key:=lpI x.fJ (fun n (o:List Carton) i=>Qgg fu x x.fU n o i) (fun xs o=>some (⟨o ++ xs,x.fU⟩:Plan)) (fun xs o=>o.length + xs.length ≤ 1048576 ∧ ∀ c ∈ xs,c.fM.length ≤ 1048576) (by omega) ?_ ?_ fu [] ⟨by simp; omega,h.units⟩ (by omega)
 · simpa using key
 · intro n o i c xs hx hd hI ih
   have hI1:=hI.1
   have hu:=hI.2 c (by simp)
   simp only [List.length_cons] at hI1
   simp only [Qgg.eq_2]
   unfold Qla Qj4
   rw [hd,cond_true,hx,Qab,ap1 (by simp; omega),Qab,Qab,ap1 (by simp; omega),Qab,ih _ ⟨by simp; omega,fun d hd=>hI.2 d (by simp [hd])⟩]
   simp
 · intro n o i hd _
   simp only [Qgg.eq_2]
   unfold Qla
   rw [hd,cond_false]; simp
theorem Qut {r:Request} {x:Plan} (h:Qz1 r x = true):x.fU.length = x.fJ.length:=by
 unfold Qz1 Jcp at h
 cases hp:Q4e x
 · rw [hp] at h
   cases hc:Qh7 r == 0 <;> rw [hc] at h <;> simp at h
 · exact Q2i hp
theorem Qyl {β:Type} (z:List (Carton × Spot)) (L:Nat → List Spot → Int → Option β) (f:Carton × Spot → Spot) (fin:List Spot → Option β) (hl:z.length ≤ 1048576)
    (hs:∀ n out (i:Int) p,ix z i = some p → decide (i < (z.length:Int)) = true → out.length = z.length → ix out i = some p.2 → L (n + 1) out i = L n (Qhx out i (f p)) (w64 (i + 1)))
    (he:∀ n out,out.length = z.length → decide ((z.length:Int) < (z.length:Int)) = false → L (n + 1) out (z.length:Int) = fin out):∀ n,z.length < n → L n (z.map (·.2)) 0 = fin (z.map f):=by
 intro n hn
 have key:=Jdk z (fun n (o:List Spot) i=>L n o i) (fun pre xs _=>fin (pre.map f ++ xs.map f)) (fun pre xs o=>o = pre.map f ++ xs.map (·.2)) (by omega) ?_ ?_ n (z.map (·.2)) (by simp) hn
 · simpa using key
 · intro n o pre p xs e hx hd hI ih
   have hz:z.length = pre.length + (xs.length + 1):=by rw [e]; simp
   subst hI
   have ho:ix (pre.map f ++ (p :: xs).map (·.2)) (pre.length:Int) = some p.2:=by rw [Qq8]; simp
   show L (n + 1) _ _ = _
   rw [hs n _ _ p hx hd (by simp [hz]) ho,ih _ ?_]
   · simp
   · simp [Qhx]
 · intro n o hd hI
   subst hI
   show L (n + 1) _ _ = _
   rw [he n _ (by simp) hd]
   simp
theorem Quy {x:Plan} (el:x.fU.length = x.fJ.length):(cs x).map (·.2) = x.fU:=by
 unfold cs
 rw [List.map_snd_zip]
 omega
def Qns (r:Request) (x:Plan) (f:Box → Spot → Spot):Plan:=bif Qz1 r x then ⟨x.fJ,(cs x).map fun p=>f (Qjb r p.1) p.2⟩ else x
theorem Q42 {fu:Nat} {r:Request} (h:Sm fu r) {x:Plan} (hx:Sp x) (g:Box → Spot → Option Spot) (f:Box → Spot → Spot) (hf:∀ b s,g b s = some (f b s)):Qpa fu r x g = some (Qns r x f):=by
 have hfu:=h.fu
 have hc:=hx.cars
 unfold Qpa Qns
 rw [Jab hx (by omega),Qab,Q87 h hx,Qab]
 cases hb:Qz1 r x
 · rfl
 · have el:=Qut hb
   have hz:=Qxi el
   rw [Bool.not_true,cond_false,cond_true]
   have:=Qyl (cs x) (fun n o i=>Qg0 fu r x g x n o i) (fun p=>f (Qjb r p.1) p.2) (fun o=>some (⟨x.fJ,o⟩:Plan)) (by omega) ?_ ?_ fu (by omega)
   · rw [Quy el] at this
     exact this
   · intro n out i p hp hd ho e
     obtain ⟨e1,e2⟩:=Qub hp
     have hu:=hx.units p.1 (Qeg e1)
     rw [hz] at hd
     simp only [Qg0.eq_2]
     unfold Qm5
     rw [hd,cond_true,e1,Qab,e2,Qab,Jcd h _ hu,Qab,hf,Qab,e,Qab]
   · intro n out ho hd
     rw [hz] at hd ⊢
     simp only [Qg0.eq_2]
     unfold Qm5
     rw [hd,cond_false]
def Qzt (r:Request) (b:Box) (s:Spot):Spot:=⟨s.fQ,w64 (w64 (r.fQ.fW - s.fX) - b.fW),s.fY,s.fZ⟩
def Q0p (r:Request) (b:Box) (s:Spot):Spot:=⟨s.fQ,s.fX,w64 (w64 (r.fQ.fD - s.fY) - b.fD),s.fZ⟩
theorem Jcm {fu:Nat} {r:Request} (h:Sm fu r) {x:Plan} (hx:Sp x):Qhs fu r x = some (Qns r x (Qzt r)):=by
 unfold Qhs
 rw [Q42 h hx (fun b s=>Qo7 fu b s r) (Qzt r) (fun b s=>rfl)]; rfl
theorem Jct {fu:Nat} {r:Request} (h:Sm fu r) {x:Plan} (hx:Sp x):Qoh fu r x = some (Qns r x (Q0p r)):=by
 unfold Qoh
 rw [Q42 h hx (fun b s=>Qsa fu b s r) (Q0p r) (fun b s=>rfl)]; rfl
theorem Jgd {fu:Nat} {r:Request} (h:Sm fu r) {x:Plan} (hx:Sp x):Qny fu r x = some (Qns r x (Qzt r)):=by
 have hfu:=h.fu
 have hc:=hx.cars
 unfold Qny Qns
 rw [Q7k hx (by omega),Qab,Q73 h hx,Qab]
 cases hb:Qz1 r x
 · rfl
 · have el:=Qut hb
   have hz:=Qxi el
   rw [Bool.not_true,cond_false,cond_true]
   have:=Qyl (cs x) (fun n o i=>Qfg fu r x x n o i) (fun p=>Qzt r (Qjb r p.1) p.2) (fun o=>some (⟨x.fJ,o⟩:Plan)) (by omega) ?_ ?_ fu (by omega)
   · rw [Quy el] at this
     exact this
   · intro n out i p hp hd ho e
     obtain ⟨e1,e2⟩:=Qub hp
     have hu:=hx.units p.1 (Qeg e1)
     rw [← ho] at hd
     simp only [Qfg.eq_2]
     unfold Qi4
     rw [hd,cond_true,e2,Qab,e1,Qab,Q09 h _ hu,Qab,e,Qab]
     rfl
   · intro n out ho hd
     rw [← ho] at hd ⊢
     simp only [Qfg.eq_2]
     unfold Qi4
     rw [hd,cond_false]
theorem Jhg {fu:Nat} {r:Request} (h:Sm fu r) {x:Plan} (hx:Sp x):Qsq fu r x = some (Qns r x (Q0p r)):=by
 have hfu:=h.fu
 have hc:=hx.cars
 unfold Qsq Qns
 rw [Q7k hx (by omega),Qab,Q73 h hx,Qab]
 cases hb:Qz1 r x
 · rfl
 · have el:=Qut hb
   have hz:=Qxi el
   rw [Bool.not_true,cond_false,cond_true]
   have:=Qyl (cs x) (fun n o i=>Qho fu r x x n o i) (fun p=>Q0p r (Qjb r p.1) p.2) (fun o=>some (⟨x.fJ,o⟩:Plan)) (by omega) ?_ ?_ fu (by omega)
   · rw [Quy el] at this
     exact this
   · intro n out i p hp hd ho e
     obtain ⟨e1,e2⟩:=Qub hp
     have hu:=hx.units p.1 (Qeg e1)
     rw [← ho] at hd
     simp only [Qho.eq_2]
     unfold Qox
     rw [hd,cond_true,e2,Qab,e1,Qab,Q09 h _ hu,Qab,e,Qab]
     rfl
   · intro n out ho hd
     rw [← ho] at hd ⊢
     simp only [Qho.eq_2]
     unfold Qox
     rw [hd,cond_false]
theorem Q1x {r:Request} {x:Plan} (h:Sp x) (f:Box → Spot → Spot):Sp (Qns r x f):=by
 unfold Qns
 cases hb:Qz1 r x
 · exact h
 · have el:=Qut hb
   have hs:=h.spots
   exact ⟨h.cars,h.units,h.all,by simp [Qxi el]; omega⟩
end Go.Proofs.YthddjkokpfdbnaaGreat
/- A plan whose places are turned, each by itself, is right still. -/
namespace Go.Proofs.YthddjkokpfdbnaaGreat
open Go
open Enc (rd ow)
open Arg (argv)
open Ret (retv)
open Wf (wf)
theorem Q4m {α β:Type} (g:α × β → β):∀ (a:List α) (b:List β),a.zip ((a.zip b).map g) = (a.zip b).map fun p=>(p.1,g p)
 | [],_=>rfl
 | _ :: _,[]=>rfl
 | x :: a,y :: b=>by simp [Q4m g a b]
theorem Q41 (k:Int):∀ (l m:List Spot) (a:Int),l.map (·.fQ) = m.map (·.fQ) → onL k a l = onL k a m
 | [],[],_,_=>rfl
 | [],_ :: _,_,h=>by simp at h
 | _ :: _,[],_,h=>by simp at h
 | s :: l,t :: m,a,h=>by
  simp only [List.map_cons,List.cons.injEq] at h
  have ih:=Q41 k l m (a + 1) h.2
  unfold onL
  rw [h.1,ih]
theorem Q29:∀ (l m:List Spot) (n:Int),l.map (·.fQ) = m.map (·.fQ) → l.foldl Q37 n = m.foldl Q37 n
 | [],[],_,_=>rfl
 | [],_ :: _,_,h=>by simp at h
 | _ :: _,[],_,h=>by simp at h
 | s :: l,t :: m,n,h=>by
  simp only [List.map_cons,List.cons.injEq] at h
  have e:Q37 n s = Q37 n t:=by unfold Q37; rw [h.1]
  rw [List.foldl_cons,List.foldl_cons,e]
  exact Q29 l m _ h.2
theorem Q7f {r:Request} (g:Carton × Spot → Carton × Spot) (S:List (Carton × Spot)) (h:∀ p ∈ S,∀ q ∈ S,ovP r p q = false → ovP r (g p) (g q) = false):∀ (l pre:List (Carton × Spot)),(∀ p ∈ pre,p ∈ S) → (∀ p ∈ l,p ∈ S) → Q3x r pre l = true → Q3x r (pre.map g) (l.map g) = true
 | [],_,_,_,_=>rfl
 | p :: l,pre,hp,hl,ha=>by
  unfold Q3x at ha
  rw [Bool.and_eq_true] at ha
  have ih:=Q7f g S h l (pre ++ [p]) (fun q hq=>by
   rcases List.mem_append.1 hq with hq | hq
   · exact hp q hq
   · rw [List.mem_singleton.1 hq]; exact hl p (by simp)) (fun q hq=>hl q (by simp [hq])) ha.2
  rw [List.map_append] at ih
  rw [List.map_cons]
  unfold Q3x
  rw [Bool.and_eq_true]
  refine ⟨List.all_eq_true.2 fun q hq=>?_,ih⟩
  obtain ⟨q0,hq0,rfl⟩:=List.mem_map.1 hq
  have:=List.all_eq_true.1 ha.1 q0 hq0
  rw [h p (hl p (by simp)) q0 (hp q0 hq0) (by simpa using this)]; rfl
structure FeaI (r:Request) (x:Plan):Prop where
 c:Qh7 r = 0
 pok:Q4e x = true
 emp:Jc4 x = false
 once:Q3o r x = true
 ch:x.fJ.all (chB r) = true
 cg:x.fJ.all (cgB r) = true
 cc:x.fJ.all (ccB r) = true
 ins:(cs x).all (Q2f r) = true
 apr:Q3x r [] (cs x) = true
 pl:(Qlq 0 (Qxw x.fU).toNat).all (plB r x) = true
theorem Qzj {r:Request} {x:Plan}:Qz1 r x = true ↔ FeaI r x:=by
 unfold Qz1 Jcp
 constructor
 · intro h
   have e:∀ (b:Bool) (n:Int) (m:Int),n ≠ 0 → ((bif b then n else m) == 0) = true → b = false ∧ (m == 0) = true:=by
    intro b n m hn hb
    cases b
    · exact ⟨rfl,hb⟩
    · simp at hb; exact absurd hb hn
   obtain ⟨h1,h⟩:=e _ _ _ (by decide) h
   obtain ⟨h2,h⟩:=e _ _ _ (by decide) h
   obtain ⟨h3,h⟩:=e _ _ _ (by decide) h
   obtain ⟨h4,h⟩:=e _ _ _ (by decide) h
   obtain ⟨h5,h⟩:=e _ _ _ (by decide) h
   obtain ⟨h6,h⟩:=e _ _ _ (by decide) h
   obtain ⟨h7,h⟩:=e _ _ _ (by decide) h
   obtain ⟨h8,h⟩:=e _ _ _ (by decide) h
   obtain ⟨h9,h⟩:=e _ _ _ (by decide) h
   obtain ⟨h10,h⟩:=e _ _ _ (by decide) h
   exact ⟨by simpa using h1,by simpa using h2,h3,by simpa using h4,by simpa using h5,by simpa using h6,by simpa using h7,by simpa using h8,by simpa using h9,by simpa using h10⟩
 · rintro ⟨h1,h2,h3,h4,h5,h6,h7,h8,h9,h10⟩
   rw [h1,h2,h3,h4,h5,h6,h7,h8,h9,h10]; rfl
theorem Q5y {r:Request} {x:Plan} (hf:Qz1 r x = true) (f:Box → Spot → Spot) (h1:∀ b s,(f b s).fQ = s.fQ)
    (h2:∀ p ∈ cs x,Q2f r p = true → Q97 p.2 = true → Q97 (f (Qjb r p.1) p.2) = true ∧ Q2f r (p.1,f (Qjb r p.1) p.2) = true)
    (h3:∀ p ∈ cs x,∀ q ∈ cs x,Q2f r p = true → Q2f r q = true → ovP r p q = false → ovP r (p.1,f (Qjb r p.1) p.2) (q.1,f (Qjb r q.1) q.2) = false):Qz1 r (Qns r x f) = true ∧ cs (Qns r x f) = (cs x).map fun p=>(p.1,f (Qjb r p.1) p.2):=by
 have el:=Qut hf
 have hcl:=Qxi el
 have eT:Qns r x f = ⟨x.fJ,(cs x).map fun p=>f (Qjb r p.1) p.2⟩:=by unfold Qns; rw [hf]; rfl
 obtain ⟨i1,i2,i3,i4,i5,i6,i7,i8,i9,i10⟩:=Qzj.1 hf
 have ecs:cs (Qns r x f) = (cs x).map fun p=>(p.1,f (Qjb r p.1) p.2):=by
  rw [eT]
  exact Q4m (fun p=>f (Qjb r p.1) p.2) x.fJ x.fU
 have hins:∀ p ∈ cs x,Q2f r p = true:=fun p hp=>List.all_eq_true.1 i8 p hp
 have hpok:=i2
 unfold Q4e at hpok
 simp only [Bool.and_eq_true] at hpok
 have hsok:∀ p ∈ cs x,Ja4 p.1 = true ∧ Q97 p.2 = true:=fun p hp=>by
  have:=List.all_eq_true.1 hpok.2.2 p hp
  simpa using this
 have epal:((cs x).map fun p=>f (Qjb r p.1) p.2).map (·.fQ) = x.fU.map (·.fQ):=by
  conv=>rhs; rw [← Quy el]
  rw [List.map_map,List.map_map]
  exact List.map_congr_left fun p _=>h1 _ _
 refine ⟨Qzj.2 ⟨i1,?_,?_,?_,?_,?_,?_,?_,?_,?_⟩,ecs⟩
 · rw [eT]
   unfold Q4e
   simp only [Bool.and_eq_true]
   refine ⟨by simpa using hcl,hpok.2.1,?_⟩
   rw [show x.fJ.zip ((cs x).map fun p=>f (Qjb r p.1) p.2) = (cs x).map fun p=>(p.1,f (Qjb r p.1) p.2) from Q4m (fun p=>f (Qjb r p.1) p.2) x.fJ x.fU]
   refine List.all_eq_true.2 fun q hq=>?_
   obtain ⟨p,hp,rfl⟩:=List.mem_map.1 hq
   rw [Bool.and_eq_true]
   exact ⟨(hsok p hp).1,(h2 p hp (hins p hp) (hsok p hp).2).1⟩
 · rw [eT]; exact i3
 · rw [eT]; exact i4
 · rw [eT]; exact i5
 · rw [eT]; exact i6
 · rw [eT]; exact i7
 · rw [ecs]
   refine List.all_eq_true.2 fun q hq=>?_
   obtain ⟨p,hp,rfl⟩:=List.mem_map.1 hq
   exact (h2 p hp (hins p hp) (hsok p hp).2).2
 · rw [ecs]
   exact Q7f (fun p=>(p.1,f (Qjb r p.1) p.2)) (cs x) (fun p hp q hq=>h3 p hp q hq (hins p hp) (hins q hq)) (cs x) [] (by simp) (fun p hp=>hp) i9
 · have eo:∀ k,onM (Qns r x f) k = onM x k:=fun k=>by
     rw [eT]
     unfold onM
     rw [show (((cs x).map fun p=>f (Qjb r p.1) p.2).length == x.fJ.length) = true by simpa using hcl,show (x.fU.length == x.fJ.length) = true by simpa using el]
     exact Q41 k _ _ 0 epal
   have ep:Qxw (Qns r x f).fU = Qxw x.fU:=by
    rw [eT]
    exact Q29 _ _ 0 epal
   have ec:∀ i,Qzr (Qns r x f) i = Qzr x i:=fun i=>by rw [eT]; rfl
   rw [ep]
   refine List.all_eq_true.2 fun k hk=>?_
   have:=List.all_eq_true.1 i10 k hk
   unfold plB pgM at this ⊢
   simp only [eo,ec]
   exact this
end Go.Proofs.YthddjkokpfdbnaaGreat
/- What is drawn is there, and in bounds. -/
namespace Go.Proofs.YthddjkokpfdbnaaGreat
open Go
open Enc (rd ow)
open Arg (argv)
open Ret (retv)
open Wf (wf)
def Tot {α:Type} (o:Option α) (Q:α → Prop):Prop:=∃ x,o = some x ∧ Q x
theorem Tot.mk {α:Type} {x:α} {Q:α → Prop} (h:Q x):Tot (some x) Q:=⟨x,rfl,h⟩
theorem Tot.of {α:Type} {o:Option α} {x:α} {Q:α → Prop} (e:o = some x) (h:Q x):Tot o Q:=⟨x,e,h⟩
theorem Tot.bind {α β:Type} {m:Option α} {k:α → Option β} {R:α → Prop} {Q:β → Prop} (h:Tot m R) (hk:∀ x,R x → Tot (k x) Q):Tot (Qac m k) Q:=by
 obtain ⟨x,rfl,hx⟩:=h
 exact hk x hx
theorem Tot.bif {α:Type} {c:Bool} {a b:Option α} {Q:α → Prop} (h1:c = true → Tot a Q) (h2:c = false → Tot b Q):Tot (bif c then a else b) Q:=by
 cases c
 · exact h2 rfl
 · exact h1 rfl
theorem Tot.imp {α:Type} {o:Option α} {Q R:α → Prop} (h:Tot o Q) (hi:∀ x,Q x → R x):Tot o R:=by
 obtain ⟨x,e,hx⟩:=h
 exact ⟨x,e,hi x hx⟩
theorem Tot.ap {α β:Type} {bytes:Nat} {xs ys:List α} {k:List α → Option β} {Q:β → Prop} (h:(xs.length + ys.length) * bytes ≤ 140737488355328) (hk:Tot (k (xs ++ ys)) Q):Tot (Qac (Qhw bytes xs ys) k) Q:=by
 rw [ap1 h]; exact hk
theorem Tot.ix {α β:Type} {l:List α} {i:Int} {k:α → Option β} {Q:β → Prop} (h:0 ≤ i ∧ i < l.length) (hk:∀ x,x ∈ l → Tot (k x) Q):Tot (Qac (ix l i) k) Q:=by
 have e:=Q0x (l:=l) (i:=i.toNat) (by omega)
 rw [show ((i.toNat:Nat):Int) = i by omega] at e
 rw [e]
 exact hk _ (List.getElem_mem _)
theorem lpT {σ β:Type} (b:Int) (L:Nat → σ → Int → Option β) (Q:β → Prop) (I:Int → σ → Prop) (hb:b ≤ 1099511627776)
    (hs:∀ n s (i:Int),0 ≤ i → i < b → I i s → (∀ s',I (i + 1) s' → Tot (L n s' (w64 (i + 1))) Q) → Tot (L (n + 1) s i) Q)
    (he:∀ n s (i:Int),0 ≤ i → b ≤ i → I i s → Tot (L (n + 1) s i) Q):∀ (m:Nat) n s (a:Int),0 ≤ a → (b - a).toNat = m → m < n → I a s → Tot (L n s a) Q:=by
 intro m
 induction m with
 | zero =>
  intro n s a ha hm hn hI
  obtain ⟨n,rfl⟩:∃ k,n = k + 1:=⟨n - 1,by omega⟩
  exact he n s a ha (by omega) hI
 | succ m ih =>
  intro n s a ha hm hn hI
  obtain ⟨n,rfl⟩:∃ k,n = k + 1:=⟨n - 1,by omega⟩
  refine hs n s a ha (by omega) hI fun s' hI'=>?_
  rw [Qa8 (by omega) (by omega)]
  exact ih n s' (a + 1) (by omega) (by omega) (by omega) hI'
def CO (b:List U8) (c:Cur):Prop:=c.fb = b ∧ 0 ≤ c.fi ∧ b.length ≤ 1048576
theorem CO.re {b:List U8} {c c':Cur} (h:CO b c) (h':CO b c'):CO b ⟨c.fb,c'.fi,c'.fh⟩:=⟨h.1,h'.2⟩
theorem CO.re' {b:List U8} {c':Cur} (h':CO b c'):CO b ⟨b,c'.fi,c'.fh⟩:=⟨rfl,h'.2⟩
theorem Jcc (x:Int):0 ≤ IntKind.wrap .i64 (((BitVec.ofInt (IntKind.bits .i64) x &&& BitVec.ofInt (IntKind.bits .i64) 255).toNat:Nat):Int) ∧ IntKind.wrap .i64 (((BitVec.ofInt (IntKind.bits .i64) x &&& BitVec.ofInt (IntKind.bits .i64) 255).toNat:Nat):Int) ≤ 255:=by
 have h:(BitVec.ofInt (IntKind.bits .i64) x &&& BitVec.ofInt (IntKind.bits .i64) 255).toNat ≤ 255:=by
  rw [BitVec.toNat_and]
  have h2:(BitVec.ofInt (IntKind.bits .i64) 255).toNat = 255:=by decide
  rw [h2]
  exact Nat.and_le_right
 have e:=Qa8 (n:=(((BitVec.ofInt (IntKind.bits .i64) x &&& BitVec.ofInt (IntKind.bits .i64) 255).toNat:Nat):Int)) (by omega) (by omega)
 unfold w64 at e
 rw [e]
 omega
theorem Qyp {fu:Nat} {b:List U8} {c:Cur} (h:CO b c):Tot (Qha fu c) fun x=>(0 ≤ x.1 ∧ x.1 ≤ 255) ∧ CO b x.2:=by
 obtain ⟨h1,h2,h3⟩:=h
 unfold Qha
 refine Tot.bif (fun hc=>?_) fun hc=>?_
 · have hlt:=of_decide_eq_true hc
   refine Tot.ix ⟨h2,hlt⟩ fun x _=>Tot.mk ⟨Jcc _,h1,?_,h3⟩
   show 0 ≤ w64 (c.fi + 1)
   rw [h1] at hlt
   rw [Qa8 (by omega) (by omega)]; omega
 · exact Tot.mk ⟨Jcc _,h1,h2,h3⟩
theorem Qc0 {fu:Nat} {b:List U8} {c:Cur} (h:CO b c) (n:Int):Tot (Qao fu c n) fun x=>(0 ≤ x.1 ∧ (0 < n → x.1 < n)) ∧ CO b x.2:=by
 unfold Qao
 refine Tot.bif (fun hc=>?_) fun hc=>?_
 · have hlt:=of_decide_eq_true hc
   exact Tot.mk ⟨⟨Int.le_refl _,fun h=>by omega⟩,h⟩
 · have hn:0 < n:=by simpa using hc
   refine Tot.bif (fun hc=>?_) fun hc=>?_
   · refine Tot.bind (Qyp h) fun x hx=>?_
     rw [Q8k (by omega),Qab]
     exact Tot.mk ⟨⟨Int.tmod_nonneg _ hx.1.1,fun _=>Int.tmod_lt_of_pos _ hn⟩,h.re hx.2⟩
   · refine Tot.bind (Qyp h) fun x hx=>Tot.bind (Qyp (h.re hx.2)) fun y hy=>Tot.bind (Qyp (h.re hy.2)) fun z hz=>Tot.bind (Qyp (h.re hz.2)) fun q hq=>?_
     rw [Q8k (by omega),Qab]
     obtain ⟨⟨x0,x1⟩,_⟩:=hx
     obtain ⟨⟨y0,y1⟩,_⟩:=hy
     obtain ⟨⟨z0,z1⟩,_⟩:=hz
     obtain ⟨⟨q0,q1⟩,hq2⟩:=hq
     refine Tot.mk ⟨⟨?_,fun _=>Int.tmod_lt_of_pos _ hn⟩,h.re hq2⟩
     apply Int.tmod_nonneg
     simp only [Qa8 (n:=x.1 * 16777216) (by omega) (by omega),Qa8 (n:=y.1 * 65536) (by omega) (by omega),Qa8 (n:=z.1 * 256) (by omega) (by omega)]
     rw [Qa8 (n:=x.1 * 16777216 + y.1 * 65536) (by omega) (by omega),Qa8 (n:=x.1 * 16777216 + y.1 * 65536 + z.1 * 256) (by omega) (by omega),Qa8 (by omega) (by omega)]
     omega
theorem Q1c {fu:Nat} {b:List U8} {c:Cur} (h:CO b c) (n:Int):Tot (Qih fu c n) fun x=>CO b x.2:=by
 unfold Qih
 exact Tot.bind (Qc0 h n) fun x hx=>Tot.mk (h.re hx.2)
theorem Qsr {fu:Nat} {b:List U8} {c:Cur} (h:CO b c) (l:List Int) (hl:0 < l.length):Tot (Qbu fu c l) fun x=>x.1 ∈ l ∧ CO b x.2:=by
 unfold Qbu
 exact Tot.bind (Qc0 h _) fun x hx=>Tot.ix ⟨hx.1.1,hx.1.2 (by omega)⟩ fun y hy=>Tot.mk ⟨hy,h.re hx.2⟩
theorem Q91 {fu:Nat} {b:List U8} (hb:b.length ≤ 1048576) (hf:1048577 ≤ fu):Tot (Qnw fu b) (CO b):=by
 unfold Qnw
 refine lpT (b.length:Int) (fun n s i=>Qgs fu b n s i) (CO b) (fun _ _=>True) (by omega) ?_ ?_ b.length fu _ 0 (by omega) (by omega) (by omega) trivial
 · intro n s i h0 h1 _ ih
   simp only [Qgs.eq_2]
   unfold Qol Qrv
   rw [Qcl (by simpa using h1)]
   refine Tot.bif (fun hc=>?_) fun hc=>?_
   · exact Tot.ix ⟨h0,h1⟩ fun x _=>ih _ trivial
   · exact Tot.mk ⟨rfl,by simp,hb⟩
 · intro n s i h0 h1 _
   simp only [Qgs.eq_2]
   unfold Qol
   rw [Qbe (by simp; omega)]
   exact Tot.mk ⟨rfl,by simp,hb⟩
end Go.Proofs.YthddjkokpfdbnaaGreat
/- An order that is drawn is there, and small. -/
namespace Go.Proofs.YthddjkokpfdbnaaGreat
open Go
open Enc (rd ow)
open Arg (argv)
open Ret (retv)
open Wf (wf)
def SmR (r:Request):Prop:=r.fL.length ≤ 64 ∧ r.fT.length ≤ 64 ∧ r.fG.length ≤ 64
theorem SmR.sm {r:Request} (h:SmR r) {fu:Nat} (hf:2097153 ≤ fu):Sm fu r:=⟨hf,by have:=h.1; omega,by have:=h.2.1; omega,by have:=h.2.2; omega⟩
theorem Q5x {fu:Nat} {b:List U8} {c:Cur} (h:CO b c) (hf:1048577 ≤ fu):Tot (Qmq fu c) fun x=>(x.1.fL.length ≤ 40 ∧ (1 ≤ x.1.fT.length ∧ x.1.fT.length ≤ 8) ∧ x.1.fG.length ≤ 8) ∧ CO b x.2:=by
 unfold Qmq
 refine Tot.bind (Qc0 h _) fun x1 h1=>Tot.bind (Qsr (h.re h1.2) _ (by simp)) fun x2 h2=>Tot.bind (Qsr (h.re h2.2) _ (by simp)) fun x3 h3=>Tot.bind (Qsr (h.re h3.2) _ (by simp)) fun x4 h4=>Tot.bind (Qsr (h.re h4.2) _ (by simp)) fun x5 h5=>Tot.bind (Qc0 (h.re h5.2) _) fun x6 h6=>?_
 have hb:=h.2.2
 have hcb:=h.1
 obtain ⟨c0,c1⟩:=h6.1
 have c1:=c1 (by omega)
 have ew:w64 (1 + x6.1) = 1 + x6.1:=Qa8 (by omega) (by omega)
 have L4:=lpT (1 + x6.1) (fun n (s:Int × Int × List Pair) i=>Qdc fu c x1 x2 x3 x4 x5 x6 n s.1 s.2.1 s.2.2 i) (fun x:Request × Cur=>(x.1.fL.length ≤ 40 ∧ (1 ≤ x.1.fT.length ∧ x.1.fT.length ≤ 8) ∧ x.1.fG.length ≤ 8) ∧ CO b x.2)
  (fun i s=>0 ≤ s.1 ∧ (s.2.2.length:Int) ≤ 8 * i ∧ i ≤ 4) (by omega) ?_ ?_ (1 + x6.1 - 0).toNat fu (x6.2.fi,x6.2.fh,[]) 0 (by omega) rfl (by omega) ⟨h6.2.2.1,by simp,by omega⟩
 · exact L4
 · intro n ⟨f1,f2,ps⟩ a ha0 ha1 hI ih
   obtain ⟨i1,i2,i3⟩:0 ≤ f1 ∧ (ps.length:Int) ≤ 8 * a ∧ a ≤ 4:=hI
   simp only [Qdc.eq_2]
   unfold Qlz
   rw [ew,Qcl (by simpa using ha1)]
   have L1:=lpT (a + 1) (fun m (s:Int × Int × List Pair) i=>Qfc fu (Qdc fu c x1 x2 x3 x4 x5 x6 n) c a m s.1 s.2.1 s.2.2 i) (fun x:Request × Cur=>(x.1.fL.length ≤ 40 ∧ (1 ≤ x.1.fT.length ∧ x.1.fT.length ≤ 8) ∧ x.1.fG.length ≤ 8) ∧ CO b x.2)
    (fun i s=>0 ≤ s.1 ∧ (s.2.2.length:Int) ≤ 8 * a + 2 * i ∧ i ≤ a + 1) (by omega) ?_ ?_ (a + 1 - 0).toNat fu (f1,f2,ps) 0 (by omega) rfl (by omega) ⟨i1,by simp; omega,by omega⟩
   · exact L1
   · intro m ⟨g1,g2,qs⟩ i hi0 hi1 hI ih2
     obtain ⟨j1,j2,j3⟩:0 ≤ g1 ∧ (qs.length:Int) ≤ 8 * a + 2 * i ∧ i ≤ a + 1:=hI
     simp only [Qfc.eq_2]
     unfold Qkp
     rw [Qcl (by simp; omega)]
     unfold Qhl
     refine Tot.bif (fun hc=>?_) fun hc=>?_
     · refine Tot.ap (by simp; omega) ?_
       exact ih2 (g1,g2,_) ⟨j1,by simp; omega,by omega⟩
     · refine Tot.bind (Q1c (b:=b) (c:=⟨c.fb,g1,g2⟩) ⟨hcb,j1,hb⟩ 2) fun y hy=>?_
       refine Tot.bif (fun hc=>?_) fun hc=>?_
       · refine Tot.ap (by simp; omega) ?_
         exact ih2 (y.2.fi,y.2.fh,_) ⟨hy.2.1,by simp; omega,by omega⟩
       · exact ih2 (y.2.fi,y.2.fh,_) ⟨hy.2.1,by simp; omega,by omega⟩
   · intro m ⟨g1,g2,qs⟩ i hi0 hi1 hI
     obtain ⟨j1,j2,j3⟩:0 ≤ g1 ∧ (qs.length:Int) ≤ 8 * a + 2 * i ∧ i ≤ a + 1:=hI
     simp only [Qfc.eq_2]
     unfold Qkp
     rw [Qbe (by simp; omega)]
     have:i = a + 1:=by omega
     exact ih (g1,g2,qs) ⟨j1,by simp; omega,by omega⟩
 · intro n ⟨f1,f2,ps⟩ a ha0 ha1 hI
   obtain ⟨i1,i2,i3⟩:0 ≤ f1 ∧ (ps.length:Int) ≤ 8 * a ∧ a ≤ 4:=hI
   simp only [Qdc.eq_2]
   unfold Qlz
   rw [ew,Qbe (by simpa using ha1)]
   refine Tot.bind (Qc0 (b:=b) (c:=⟨c.fb,f1,f2⟩) ⟨hcb,i1,hb⟩ _) fun y1 g1=>Tot.bind (Qsr (h.re g1.2) _ (by simp)) fun y2 g2=>Tot.bind (Qsr (h.re g2.2) _ (by simp)) fun y3 g3=>Tot.ap (by simp) ?_
   unfold Qo4
   refine Tot.bind (Qc0 (h.re g3.2) _) fun y4 g4=>?_
   obtain ⟨e0,e1⟩:=g4.1
   have e1:=e1 (by omega)
   have L3:=lpT y4.1 (fun m (s':Int × Int × List Typ) i=>Qgc fu c x1 x2 x3 x4 x5 x6 ps y4 m s'.1 s'.2.1 s'.2.2 i) (fun x:Request × Cur=>(x.1.fL.length ≤ 40 ∧ (1 ≤ x.1.fT.length ∧ x.1.fT.length ≤ 8) ∧ x.1.fG.length ≤ 8) ∧ CO b x.2)
    (fun i s=>0 ≤ s.1 ∧ (s.2.2.length:Int) = 1 + i ∧ i ≤ y4.1) (by omega) ?_ ?_ (y4.1 - 0).toNat fu (y4.2.fi,y4.2.fh,([]:List Typ) ++ [(⟨7,12,10,11,y1.1,y2.1,y3.1⟩:Typ)]) 0 (by omega) rfl (by omega) ⟨g4.2.2.1,by simp,by omega⟩
   · exact L3
   · intro m ⟨g1,g2,ts⟩ i hi0 hi1 hI ih2
     obtain ⟨j1,j2,j3⟩:0 ≤ g1 ∧ (ts.length:Int) = 1 + i ∧ i ≤ y4.1:=hI
     simp only [Qgc.eq_2]
     unfold Qlt
     rw [Qcl (by simp; omega)]
     refine Tot.bind (Qc0 (b:=b) (c:=⟨c.fb,g1,g2⟩) ⟨hcb,j1,hb⟩ _) fun z1 f1=>Tot.bind (Qc0 (h.re f1.2) _) fun z2 f2=>Tot.bind (Qc0 (h.re f2.2) _) fun z3 f3=>Tot.bind (Qc0 (h.re f3.2) _) fun z4 f4=>Tot.bind (Qc0 (h.re f4.2) _) fun z5 f5=>Tot.bind (Qc0 (h.re f5.2) _) fun z6 f6=>Tot.ap (by simp; omega) ?_
     exact ih2 (z6.2.fi,z6.2.fh,_) ⟨f6.2.2.1,by simp; omega,by omega⟩
   · intro m ⟨g1,g2,ts⟩ i hi0 hi1 hI
     obtain ⟨j1,j2,j3⟩:0 ≤ g1 ∧ (ts.length:Int) = 1 + i ∧ i ≤ y4.1:=hI
     simp only [Qgc.eq_2]
     unfold Qlt
     rw [Qbe (by simp; omega)]
     refine Tot.bind (Qc0 (b:=b) (c:=⟨c.fb,g1,g2⟩) ⟨hcb,j1,hb⟩ _) fun z f=>?_
     obtain ⟨q0,q1⟩:=f.1
     have q1:=q1 (by omega)
     have L2:=lpT z.1 (fun m (t:Int × Int × List Item × Int) i=>Qcu fu c x1 x2 x3 x4 x5 x6 ps ts z m t.1 t.2.1 t.2.2.1 t.2.2.2 i) (fun x:Request × Cur=>(x.1.fL.length ≤ 40 ∧ (1 ≤ x.1.fT.length ∧ x.1.fT.length ≤ 8) ∧ x.1.fG.length ≤ 8) ∧ CO b x.2)
      (fun i t=>0 ≤ t.1 ∧ (t.2.2.1.length:Int) ≤ i ∧ i ≤ z.1) (by omega) ?_ ?_ (z.1 - 0).toNat fu (z.2.fi,z.2.fh,[],0) 0 (by omega) rfl (by omega) ⟨f.2.2.1,by simp,by omega⟩
     · exact L2
     · intro m' ⟨k4,k5,is,un⟩ i' hi0 hi1 hI ih2
       obtain ⟨k1,k2,k3⟩:0 ≤ k4 ∧ (is.length:Int) ≤ i' ∧ i' ≤ z.1:=hI
       simp only [Qcu.eq_2]
       unfold Ql3
       rw [Qcl (by simp; omega)]
       refine Tot.bind (Qc0 (b:=b) (c:=⟨c.fb,k4,k5⟩) ⟨hcb,k1,hb⟩ _) fun w1 v1=>Tot.bind (Qc0 (h.re v1.2) _) fun w2 v2=>Tot.bind (Qc0 (h.re v2.2) _) fun w3 v3=>Tot.bind (Qc0 (h.re v3.2) _) fun w4 v4=>Tot.bind (Qc0 (h.re v4.2) _) fun w5 v5=>Tot.bind (Qc0 (h.re v5.2) _) fun w6 v6=>?_
       unfold Qot
       have J3:∀ (p q:Int) (x:Item),0 ≤ p → Tot (Qhj fu (Qcu fu c x1 x2 x3 x4 x5 x6 ps ts z m') is un i' p q x) (fun x:Request × Cur=>(x.1.fL.length ≤ 40 ∧ (1 ≤ x.1.fT.length ∧ x.1.fT.length ≤ 8) ∧ x.1.fG.length ≤ 8) ∧ CO b x.2):=by
        intro p q x hp
        unfold Qhj Qjw
        refine Tot.bif (fun hc=>?_) fun hc=>?_
        · refine Tot.ap (by simp; omega) ?_
          exact ih2 (p,q,_,_) ⟨hp,by simp; omega,by omega⟩
        · exact ih2 (p,q,_,_) ⟨hp,by simp; omega,by omega⟩
       refine Tot.bind (Q1c (h.re v6.2) _) fun w7 v7=>?_
       refine Tot.bif (fun hc=>?_) fun hc=>?_
       · refine Tot.bind (Qc0 (h.re v7) _) fun w8 v8=>?_
         exact J3 _ _ _ v8.2.2.1
       · exact J3 _ _ _ v7.2.1
     · intro m' ⟨k4,k5,is,un⟩ i' hi0 hi1 hI
       obtain ⟨k1,k2,k3⟩:0 ≤ k4 ∧ (is.length:Int) ≤ i' ∧ i' ≤ z.1:=hI
       simp only [Qcu.eq_2]
       unfold Ql3
       rw [Qbe (by simp; omega)]
       exact Tot.mk ⟨⟨by simp; omega,by simp; omega,by simp; omega⟩,hcb,k1,hb⟩
theorem Jcg {fu:Nat} {b:List U8} {c:Cur} (h:CO b c) (hf:2097153 ≤ fu):Tot (Qrb fu c) fun x=>SmR x.1 ∧ CO b x.2:=by
 unfold Qrb
 refine Tot.bind (Q5x h (by omega)) fun x hx=>?_
 obtain ⟨⟨a1,a2,a3⟩,hc⟩:=hx
 have hs:SmR x.1:=⟨by omega,by omega,by omega⟩
 rw [Q0h (hs.sm hf),Qab]
 refine Tot.bif (fun _=>?_) fun _=>Tot.mk ⟨hs,h.re hc⟩
 have hs2:Sm fu (⟨x.1.qJ,(⟨30,25,24,400⟩:Pallet),x.1.fR,x.1.fL,x.1.fT,x.1.fP,x.1.fG⟩:Request):=⟨hf,by simp; omega,by simp; omega,by simp; omega⟩
 rw [Q7n hs2,Qab]
 generalize Qw9 _ = t
 refine lpT (x.1.fG.length:Int) (fun n s i=>Qfx fu c x t n s i) _ (fun i s=>(s.length:Int) ≤ i ∧ i ≤ x.1.fG.length) (by omega) ?_ ?_ _ fu [] 0 (by omega) rfl (by omega) ⟨by simp,by omega⟩
 · intro n s i h0 h1 hI ih
   simp only [Qfx.eq_2]
   unfold Qm7 Qmf
   rw [Qcl (by simpa using h1)]
   refine Tot.ix ⟨h0,h1⟩ fun y hy=>?_
   rw [Jdi hf,Qab]
   refine Tot.bif (fun _=>?_) fun _=>ih _ ⟨by omega,by omega⟩
   refine Tot.ix ⟨h0,h1⟩ fun y hy=>Tot.ap (by simp; omega) ?_
   exact ih _ ⟨by simp; omega,by omega⟩
 · intro n s i h0 h1 hI
   simp only [Qfx.eq_2]
   unfold Qm7
   rw [Qbe (by simp; omega)]
   exact Tot.mk ⟨⟨by simp; omega,by simp; omega,by simp; omega⟩,h.re hc⟩
theorem Qyh {α:Type} (l:List α) (i:Int) (y:α):(Qhx l i y).length = l.length:=by simp [Qhx]
theorem Q25 {α:Type} {l:List α} (h:0 < l.length):sls l 1 (l.length:Int) = some (l.drop 1):=by
 rw [Qty (by omega)]
 congr 1
 exact List.take_of_length_le (by simp)
theorem Jdy {fu:Nat} {b:List U8} {c:Cur} (h:CO b c) (hf:2097153 ≤ fu):Tot (Qq4 fu c) fun x=>SmR x.1 ∧ CO b x.2:=by
 unfold Qq4
 refine Tot.bind (Q5x h (by omega)) fun x hx=>?_
 obtain ⟨⟨a1,a2,a3⟩,hc⟩:=hx
 obtain ⟨c1,c2,c3⟩:=h
 have h:CO b c:=⟨c1,c2,c3⟩
 refine Tot.bind (Qsr (h.re hc) _ (by simp)) fun y hy=>Tot.bind (Qc0 (h.re hy.2) _) fun z hz=>?_
 have J:∀ (f264 f265 f266 f267:Int) (f268:List Pair) (f273:List Typ) (f278:Int) (f279:List Item) (f286 f287:Int),f268.length ≤ 64 → f273.length ≤ 64 → f279.length ≤ 64 → 0 ≤ f286 → Tot (Qbd fu c x f264 f265 f266 f267 f268 f273 f278 f279 f286 f287) fun x=>SmR x.1 ∧ CO b x.2:=by
  intro f264 f265 f266 f267 f268 f273 f278 f279 f286 f287 q1 q2 q3 q4
  exact Tot.mk ⟨⟨q1,q2,q3⟩,c1,q4,c3⟩
 have hz0:=hz.2.2.1
 refine Tot.bif (fun _=>?_) fun _=>?_
 · exact Tot.bind (Qsr (h.re hz.2) _ (by simp)) fun y hy=>J _ _ _ _ _ _ _ _ _ _ (by omega) (by omega) (by omega) hy.2.2.1
 refine Tot.bif (fun _=>?_) fun _=>?_
 · exact J _ _ _ _ _ _ _ _ _ _ (by omega) (by omega) (by omega) hz0
 refine Tot.bif (fun _=>?_) fun _=>?_
 · exact J _ _ _ _ _ _ _ _ _ _ (by omega) (by omega) (by omega) hz0
 refine Tot.bif (fun _=>?_) fun _=>?_
 · exact Tot.bind (Qsr (h.re hz.2) _ (by simp)) fun y hy=>J _ _ _ _ _ _ _ _ _ _ (by omega) (by omega) (by omega) hy.2.2.1
 refine Tot.bif (fun _=>?_) fun _=>?_
 · exact Tot.bind (Qc0 (h.re hz.2) _) fun y hy=>Tot.bind (Qc0 (h.re hy.2) _) fun v hv=>Tot.ap (by simp; omega) (J _ _ _ _ _ _ _ _ _ _ (by simp; omega) (by omega) (by omega) hv.2.2.1)
 refine Tot.bif (fun _=>?_) fun _=>?_
 · exact Tot.ix (by omega) fun y hy=>J _ _ _ _ _ _ _ _ _ _ (by omega) (by rw [Qyh]; omega) (by omega) hz0
 refine Tot.bif (fun _=>?_) fun _=>?_
 · exact Tot.bind (Qc0 (h.re hz.2) _) fun y hy=>Tot.ix ⟨hy.1.1,hy.1.2 (by omega)⟩ fun v hv=>J _ _ _ _ _ _ _ _ _ _ (by omega) (by rw [Qyh]; omega) (by omega) hy.2.2.1
 refine Tot.bif (fun _=>?_) fun _=>?_
 · exact Tot.bind (Qsr (h.re hz.2) _ (by simp)) fun y hy=>J _ _ _ _ _ _ _ _ _ _ (by omega) (by omega) (by omega) hy.2.2.1
 refine Tot.bif (fun _=>?_) fun _=>?_
 · exact Tot.bind (Qc0 (h.re hz.2) _) fun y hy=>Tot.bind (Qc0 (h.re hy.2) _) fun v hv=>Tot.ap (by simp; omega) (J _ _ _ _ _ _ _ _ _ _ (by omega) (by omega) (by simp; omega) hv.2.2.1)
 refine Tot.bif (fun _=>?_) fun _=>?_
 · refine Tot.bif (fun hc=>?_) fun _=>?_
   · have:=of_decide_eq_true hc
     exact Tot.ix (by omega) fun y hy=>J _ _ _ _ _ _ _ _ _ _ (by omega) (by omega) (by rw [Qyh]; omega) hz0
   · exact J _ _ _ _ _ _ _ _ _ _ (by omega) (by omega) (by omega) hz0
 refine Tot.bif (fun _=>?_) fun _=>?_
 · refine Tot.bif (fun hc=>?_) fun _=>?_
   · have:=of_decide_eq_true hc
     rw [Q25 (by omega),Qab]
     exact J _ _ _ _ _ _ _ _ _ _ (by simp; omega) (by omega) (by omega) hz0
   · exact J _ _ _ _ _ _ _ _ _ _ (by omega) (by omega) (by omega) hz0
 refine Tot.bif (fun _=>?_) fun _=>?_
 · exact Tot.ix (by omega) fun y hy=>Tot.ap (by simp; omega) (J _ _ _ _ _ _ _ _ _ _ (by omega) (by simp; omega) (by omega) hz0)
 refine Tot.bif (fun _=>?_) fun _=>?_
 · exact J _ _ _ _ _ _ _ _ _ _ (by omega) (by simp) (by omega) hz0
 · exact J _ _ _ _ _ _ _ _ _ _ (by omega) (by omega) (by omega) hz0
theorem Jat {fu:Nat} {b:List U8} (hb:b.length ≤ 1048576) (hf:2097153 ≤ fu):Tot (Qmj fu b) SmR:=by
 unfold Qmj
 refine Tot.bind (Q91 hb (by omega)) fun x hx=>Tot.bind (Q1c hx.re' _) fun y hy=>?_
 refine Tot.bif (fun _=>?_) fun _=>?_
 · exact Tot.bind (Jcg hy.re' hf) fun z hz=>Tot.mk hz.1
 · exact Tot.bind (Jdy hy.re' hf) fun z hz=>Tot.mk hz.1
theorem Jhv (fu:Nat) (b:List U8):Quw fu b = some (decide ((b.length:Int) > 1048576)):=rfl
end Go.Proofs.YthddjkokpfdbnaaGreat
/- SortDown, by spec and by impl (short lists). -/
namespace Go.Proofs.YthddjkokpfdbnaaGreat
open Go
open Enc (rd ow)
open Arg (argv)
open Ret (retv)
open Wf (wf)
def dnk (keys:List Int) (p:Int):Int:=- kf keys p
theorem Jbw {fu:Nat} {keys:List Int} (hfu:2097153 ≤ fu) (hl:keys.length ≤ 1048576):Qgr fu keys = some (srt (dnk keys) keys.length):=by
 unfold Qgr Qpu
 rw [Q48 keys.length hl (by omega),Qab]
 obtain ⟨m,rfl⟩:∃ m,fu = m + 1:=⟨fu - 1,by omega⟩
 rw [Q5v true hfu m _ (by rw [Qfd]; omega) (by rw [Qfd]; omega) (fun p hp=>by have:=Qky.1 hp; omega),Qab]
 congr 1
 have e:dk keys true = dnk keys:=rfl
 rw [e]
 exact Q6a (Qsw _ _ _) (Qts _ _ _ (by rw [Qfd]; omega) (Qvn _ _))
end Go.Proofs.YthddjkokpfdbnaaGreat
/- The two ways of packing, by spec and by impl. -/
namespace Go.Proofs.YthddjkokpfdbnaaGreat
open Go
open Enc (rd ow)
open Arg (argv)
open Ret (retv)
open Wf (wf)
def Jec (g:List Int → Bool) (out:List (List Int)) (u:Int):List (List Int):=match Qwe g out with
 | some i=>match out[i]? with
  | some x=>out.set i (x ++ [u])
  | none=>out
 | none=>out ++ [[u]]
def Q6y (r:Request) (u:Int) (l:List Int):Bool:=Q39 r (l ++ [u]) (Qx3 r)
def Je4 (r:Request) (out:List (List Int)) (u:Int):List (List Int):=Jec (Q6y r u) out u
def Q94 (r:Request) (out:List (List Int)) (u:Int):List (List Int):=match out.getLast? with
 | some l=>bif Q6y r u l then out.set (out.length - 1) (l ++ [u]) else out ++ [[u]]
 | none=>[[u]]
theorem Q27 {r:Request} {out:List (List Int)} {l:List Int} (u:Int) (h:out.getLast? = some l):Q94 r out u = bif Q6y r u l then out.set (out.length - 1) (l ++ [u]) else out ++ [[u]]:=by unfold Q94; rw [h]
def Jdh (r:Request) (us:List Int):List Int:=(srt (dnk (us.map fun u=>Qzu r [u])) us.length).map fun p=>(ix us p).getD 0
def nfM (r:Request) (us:List Int):List (List Int):=(Qwb r us).foldl (Q94 r) []
def ffM (r:Request) (us:List Int):List (List Int):=(Jdh r (Qwb r us)).foldl (Je4 r) []
def pwM (r:Request) (us:List Int):List (List Int):=bif r.qJ == 1 then nfM r us else ffM r us
theorem Q8g {g:List Int → Bool} {out:List (List Int)} {n:Nat} (u:Int) (h:okG n out):okG (n + 1) (Jec g out u):=by
 obtain ⟨h1,h2⟩:=h
 unfold Jec
 split
 · rename_i i hi
   split
   · rename_i x hx
     refine ⟨by simp; omega,fun l hl=>?_⟩
     rcases List.mem_or_eq_of_mem_set hl with hl | rfl
     · have:=h2 l hl; omega
     · have:=h2 x (List.mem_of_getElem? hx); simp; omega
   · exact ⟨by omega,fun l hl=>by have:=h2 l hl; omega⟩
 · refine ⟨by simp; omega,fun l hl=>?_⟩
   rcases List.mem_append.1 hl with hl | hl
   · have:=h2 l hl; omega
   · rw [List.mem_singleton.1 hl]; simp
theorem Q89 {r:Request} {out:List (List Int)} {n:Nat} (u:Int) (h:okG n out):okG (n + 1) (Q94 r out u):=by
 obtain ⟨h1,h2⟩:=h
 unfold Q94
 split
 · rename_i x hx
   have hm:=List.mem_of_getLast? hx
   cases Q6y r u x
   · refine ⟨by simp; omega,fun l hl=>?_⟩
     rcases List.mem_append.1 hl with hl | hl
     · have:=h2 l hl; omega
     · rw [List.mem_singleton.1 hl]; simp
   · refine ⟨by simp; omega,fun l hl=>?_⟩
     rcases List.mem_or_eq_of_mem_set hl with hl | rfl
     · have:=h2 l hl; omega
     · have:=h2 x hm; simp; omega
 · exact ⟨by simp,fun l hl=>by rw [List.mem_singleton.1 hl]; simp⟩
theorem Q4l {F:List (List Int) → Int → List (List Int)} (hF:∀ out n u,okG n out → okG (n + 1) (F out u)):∀ (l:List Int) {out:List (List Int)} {n:Nat},okG n out → okG (n + l.length) (l.foldl F out)
 | [],_,_,h=>h
 | u :: l,out,n,h=>by
  have:=Q4l hF l (hF out n u h)
  rw [List.foldl_cons,List.length_cons,show n + (l.length + 1) = n + 1 + l.length by omega]
  exact this
theorem Jfy {r:Request} {us:List Int} (h:us.length ≤ 12):(Qwb r us).length ≤ 12:=Nat.le_trans (Q1e r us) h
theorem Ja7 (r:Request) (us:List Int):(Jdh r us).length = us.length:=by simp [Jdh,Qvl]
theorem Q7e {r:Request} {us:List Int} (h:us.length ≤ 12):okG 12 (pwM r us):=by
 have ht:=Jfy (r:=r) h
 have h0:okG 0 ([]:List (List Int)):=⟨by simp,by simp⟩
 unfold pwM
 cases r.qJ == 1
 · have:=Q4l (F:=Je4 r) (fun out n u ho=>Q8g u ho) (Jdh r (Qwb r us)) h0
   rw [Ja7] at this
   exact ⟨by have:=this.1; simp only [cond_false]; unfold ffM; omega,fun l hl=>by have:=this.2 l hl; omega⟩
 · have:=Q4l (F:=Q94 r) (fun out n u ho=>Q89 u ho) (Qwb r us) h0
   exact ⟨by have:=this.1; simp only [cond_true]; unfold nfM; omega,fun l hl=>by have:=this.2 l hl; omega⟩
theorem Jco {g:List Int → Bool} {out:List (List Int)} {c:Int} {n:Nat} (h:okG n out) (hn:n ≤ 1048576) {β:Type} (k:List (List Int) → Option β) (a:Int) (ha:a = match Qwe g out with | some i=>(i:Int) | none=>-1) :
    (bif (decide (a < 0)) then Qac (Qhw 24 out [([c]:List Int)]) fun x=>k x else Qac (ix out a) fun x=>Qac (Qhw 8 x (([c]:List Int))) fun y=>Qac (ix out a) fun z=>k (Qhx out a y)) = k (Jec g out c):=by
 obtain ⟨h1,h2⟩:=h
 unfold Jec
 cases hf:Qwe g out with
 | none =>
  rw [hf] at ha
  simp only at ha
  subst ha
  rw [Qcl (by simp),ap1 (by simp; omega),Qab]
 | some i =>
  rw [hf] at ha
  simp only at ha
  subst ha
  obtain ⟨x,hx,_⟩:=Qvk hf
  have:=h2 x (List.mem_of_getElem? hx)
  rw [Qbe (by simp),Qq8,hx,Qab,ap1 (by simp; omega),Qab,Qab]
  simp [Qhx,hx]
theorem Q9o {r:Request} (h:(Qh7 r == 0) = false) (us:List Int):Qwb r us = []:=by
 unfold Qwb Qil
 rw [h]
 apply List.filter_eq_nil_iff.2
 intro u _
 simp; omega
theorem Jbf {fu:Nat} {r:Request} (h:Sm fu r) (hc:Qh7 r = 0):Qcf fu r = some (Qil r):=Jc1 h hc
theorem Q19 {α:Type} {out:List α} (h:out ≠ []):∃ l,out.getLast? = some l ∧ ix out ((out.length:Int) - 1) = some l:=by
 cases hl:out.getLast? with
 | none=>exact absurd (List.getLast?_eq_none_iff.1 hl) h
 | some l =>
  have hp:=List.length_pos_iff.2 h
  refine ⟨l,rfl,?_⟩
  rw [show (out.length:Int) - 1 = ((out.length - 1:Nat):Int) by omega,Qq8,← List.getLast?_eq_getElem?,hl]
theorem Jfq {fu:Nat} {r:Request} (h:Sm fu r) (us:List Int) (hl:us.length ≤ 1048575):Qp3 fu r us = some (nfM r us):=by
 have hfu:=h.fu
 have htl:=Q1e r us
 unfold Qp3 nfM
 rw [Q0h h,Qab]
 cases hc:Qh7 r == 0
 · rw [show (Qh7 r != 0) = true by simp only [bne,hc]; rfl,cond_true,Q9o hc]; rfl
 · have hz:Qh7 r = 0:=by simpa using hc
   rw [show (Qh7 r != 0) = false by simp [hz],cond_false,Jbf h hz,Qab,Q7x h us (by omega),Qab]
   unfold Qsx
   rw [Q7n h,Qab,Jbf h hz,Qab]
   have key:=lpI (Qwb r us) (fun n (o:List (List Int)) i=>Qfz fu r (Qwb r us) (Qw9 (Qtf r r.fP)) (Qil r) n o i) (fun xs o=>some (xs.foldl (Q94 r) o)) (fun xs o=>∃ m,m + xs.length ≤ 1048575 ∧ okG m o) (by omega) ?_ ?_ fu [] ⟨0,by omega,by simp,by simp⟩ (by omega)
   · rw [key]; rfl
   · intro n o i u xs hx hd hI ih
     obtain ⟨m,hm,ho⟩:=hI
     simp only [List.length_cons] at hm
     have h1:=ho.1
     have h2:=ho.2
     have hI':=ih (Q94 r o u) ⟨m + 1,by omega,Q89 u ho⟩
     simp only [Qfz.eq_2]
     unfold Qna Qid
     rw [hd,cond_true,List.foldl_cons,← hI',Qa8 (by omega) (by omega)]
     by_cases he:o = []
     · subst he
       rw [decide_eq_false (by simp),cond_false,hx,Qab,ap1 (by simp),Qab]; rfl
     · obtain ⟨l,e1,e2⟩:=Q19 he
       have hp:=List.length_pos_iff.2 he
       have hll:=h2 l (List.mem_of_getLast? e1)
       rw [decide_eq_true (by omega),cond_true,e2,Qab,hx,Qab,Jb3,Q5u r _ l u (by omega) (by omega),Qab]
       rw [Q27 u e1]
       unfold Q6y
       cases Q39 r (l ++ [u]) (Qx3 r)
       · rw [cond_false,cond_false,Qab,ap1 (by simp; omega),Qab]
       · rw [cond_true,cond_true,Qab,Qab,ap1 (by simp; omega),Qab,Qab]
         rw [show Qhx o ((o.length:Int) - 1) (l ++ [u]) = o.set (o.length - 1) (l ++ [u]) by unfold Qhx; congr 1; omega]
   · intro n o i hd _
     simp only [Qfz.eq_2]
     unfold Qna
     rw [hd,cond_false]; rfl
theorem Jcb {us:List Int} {p:Int} (h:0 ≤ p ∧ p < us.length):ix us p = some ((ix us p).getD 0):=by
 have:=Q0x (l:=us) (i:=p.toNat) (by omega)
 rw [show ((p.toNat:Nat):Int) = p by omega] at this
 rw [this]; rfl
theorem Q0u {α β γ:Type} (f:γ → β → γ) (g:α → β):∀ (l:List α) (s:γ),(l.map g).foldl f s = l.foldl (fun s x=>f s (g x)) s
 | [],_=>rfl
 | x :: l,s=>by rw [List.map_cons,List.foldl_cons,List.foldl_cons,Q0u f g l]
theorem Jd0 {fu:Nat} {r:Request} (h:Sm fu r) (us:List Int) (hl:us.length < 20):Qoj fu r us = some (ffM r us):=by
 have hfu:=h.fu
 have htl:=Q1e r us
 unfold Qoj ffM Jdh
 rw [Q0h h,Qab]
 cases hc:Qh7 r == 0
 · rw [show (Qh7 r != 0) = true by simp only [bne,hc]; rfl,cond_true,Q9o hc]; rfl
 · have hz:Qh7 r = 0:=by simpa using hc
   rw [show (Qh7 r != 0) = false by simp [hz],cond_false,Jbf h hz,Qab,Q7x h us (by omega),Qab]
   unfold Qsc
   rw [Q7n h,Qab,Jbf h hz,Qab]
   generalize Qwb r us = t at htl ⊢
   have key:=lpI t (fun n (o:List Int) i=>Qge fu r t (Qw9 (Qtf r r.fP)) (Qil r) n o i) (fun xs o=>Qac (Qgr fu (o ++ xs.map fun u=>Qzu r [u])) fun x=>Qcj fu r t (Qw9 (Qtf r r.fP)) (Qil r) x fu [] 0) (fun xs o=>o.length + xs.length ≤ 20) (by omega) ?_ ?_ fu [] (by simp; omega) (by omega)
   · rw [key,List.nil_append,Jbw hfu (by simp; omega),Qab,Q0u,List.length_map]
     have hsl:=Qvl (dnk (t.map fun u=>Qzu r [u])) t.length
     have hsm:=fun x=>Q1m (k:=dnk (t.map fun u=>Qzu r [u])) (n:=t.length) (x:=x)
     generalize srt (dnk (t.map fun u=>Qzu r [u])) t.length = S at hsl hsm ⊢
     have key1:=lpI S (fun n (o:List (List Int)) i=>Qcj fu r t (Qw9 (Qtf r r.fP)) (Qil r) S n o i) (fun xs o=>some (xs.foldl (fun s p=>Je4 r s ((ix t p).getD 0)) o)) (fun xs o=>(∃ m,m + xs.length ≤ 20 ∧ okG m o) ∧ ∀ p ∈ xs,0 ≤ p ∧ p < t.length) (by omega) ?_ ?_ fu [] ⟨⟨0,by omega,by simp,by simp⟩,fun p hp=>(hsm p).1 hp⟩ (by omega)
     · rw [key1]; rfl
     · intro n o i p xs hx hd hI ih
       obtain ⟨⟨m,hm,ho⟩,hin⟩:=hI
       simp only [List.length_cons] at hm
       have hp:=Jcb (hin p (by simp))
       have ho1:=ho.1
       simp only [Qcj.eq_2]
       unfold Qlx
       rw [hd,cond_true,hx,Qab,hp,Qab,List.foldl_cons]
       generalize (ix t p).getD 0 = u
       obtain ⟨K,hK⟩:∃ K,K = Qcj fu r t (Qw9 (Qtf r r.fP)) (Qil r) S n:=⟨_,rfl⟩
       rw [← hK] at ih ⊢
       obtain ⟨R,hR⟩:∃ R:Int → Option (List (List Int)),R = fun a=>bif (decide (a < 0)) then Qac (Qhw 24 o [([u]:List Int)]) fun x=>K x (w64 (i + 1)) else Qac (ix o a) fun x=>Qac (Qhw 8 x (([u]:List Int))) fun y=>Qac (ix o a) fun z=>K (Qhx o a y) (w64 (i + 1)):=⟨_,rfl⟩
       have hD:=lpD o.length (fun n a j=>Qe8 fu K r (Qw9 (Qtf r r.fP)) (Qil r) o i u n a j) (fun xs a=>R (xs.foldl (Jb5 (Q6y r u) o) a)) (by omega) ?_ ?_ fu (-1) (by omega)
       · rw [hD,hR]
         refine (Jco (g:=Q6y r u) (c:=u) ho (by omega) (fun x=>K x (w64 (i + 1))) _ ?_).trans (ih _ ⟨⟨m + 1,by omega,Q8g u ho⟩,fun q hq=>hin q (by simp [hq])⟩)
         rw [Qzi (Q6y r u) o o.length (-1) (Nat.le_refl _),List.take_length]
         cases Qwe (Q6y r u) o <;> rfl
       · intro n a j xs h0 h1 hd ih
         simp only [Qe8.eq_2]
         unfold Qk2 Qkk
         obtain ⟨j,rfl⟩:∃ q:Nat,j = q:=⟨j.toNat,by omega⟩
         have hj:j < o.length:=by omega
         have hg:=ho.2 _ (List.getElem_mem hj)
         rw [hd,cond_true,Q0x hj,Qab,Jb3,Q5u r _ _ u (by omega) (by omega),Qab]
         have e:Jb5 (Q6y r u) o a (j:Int) = bif Q39 r (o[j] ++ [u]) (Qx3 r) then (j:Int) else a:=by unfold Jb5 atB Q6y; rw [Q0x hj]
         simp only [ih,List.foldl_cons,e]
         cases Q39 r (o[j] ++ [u]) (Qx3 r) <;> rfl
       · intro n a j hd
         simp only [Qe8.eq_2]
         unfold Qk2 Qj3
         rw [hd,cond_false,hR]; rfl
     · intro n o i hd _
       simp only [Qcj.eq_2]
       unfold Qlx
       rw [hd,cond_false]; rfl
   · intro n o i u xs hx hd hI ih
     simp only [List.length_cons] at hI
     obtain ⟨i0,i1,i2⟩:=Qar hx
     have e:sls t i (w64 (i + 1)) = some [u]:=by
      rw [Qa8 (by omega) (by omega),Qty (by omega)]
      congr 1
      rw [show (i + 1).toNat - i.toNat = 1 by omega]
      have hlt:=(List.getElem?_eq_some_iff.1 i2).1
      have heq:=(List.getElem?_eq_some_iff.1 i2).2
      rw [List.drop_eq_getElem_cons hlt,heq]; rfl
     simp only [Qge.eq_2]
     unfold Qkr
     rw [hd,cond_true,e,Qab,Q71 r [u] (by simp) (by simp; omega),Qab,ap1 (by simp; omega),Qab,ih _ (by simp; omega)]
     simp
   · intro n o i hd _
     simp only [Qge.eq_2]
     unfold Qkr
     rw [hd,cond_false]; simp
theorem Jg0 {fu:Nat} {r:Request} (h:Sm fu r) (us:List Int) (hl:us.length < 20):Qpg fu r us = some (pwM r us):=by
 unfold Qpg pwM
 rw [Jfq h us (by omega),Jd0 h us hl]
 cases r.qJ == 1 <;> rfl
end Go.Proofs.YthddjkokpfdbnaaGreat
/- The units of a group, by spec and by impl. -/
namespace Go.Proofs.YthddjkokpfdbnaaGreat
open Go
open Enc (rd ow)
open Arg (argv)
open Ret (retv)
open Wf (wf)
def Jij (r:Request) (k:Int):Bool:=inb k 0 (((Qnr r).length:Int) - 1)
theorem Q6p {r:Request} {k:Int} (h:Jij r k = true):Qh7 r = 0:=by
 unfold Jij at h
 rw [Qc7] at h
 by_cases hc:Qh7 r = 0
 · exact hc
 · have:Qnr r = []:=by
     unfold Qnr Qzo
     rw [show (Qh7 r == 0) = false by simp [hc]]
     rfl
   rw [this] at h
   simp at h
   omega
theorem Jbn (r:Request) (g:List Int) (u i:Int) (us:List Int) {x:Item} (hx:ix r.fG i = some x):ofG r g u (i :: us) = bif g.contains x.fF then u :: ofG r g (u + 1) us else ofG r g (u + 1) us:=by
 rw [ofG,hx]
theorem Jge {fu:Nat} {r:Request} (h:Sm fu r) (k:Int):Qpv fu r k = some (Q8x r k):=by
 have hfu:=h.fu
 unfold Qpv Q8x
 rw [Jas h,Qab,Jd4,Q1a,Qab]
 cases hg:inb k 0 (((Qnr r).length:Int) - 1)
 · rw [Bool.not_false,cond_true]
   have:ix (Qnr r) k = none:=by
    have hk:¬ (0 ≤ k ∧ k ≤ ((Qnr r).length:Int) - 1):=by intro hk; rw [(Qc7).2 hk] at hg; cases hg
    unfold ix
    by_cases h0:0 ≤ k
    · rw [if_pos h0,List.getElem?_eq_none (by omega)]
    · rw [if_neg h0]
   rw [this]
 · have hc:=Q6p hg
   rw [Qc7] at hg
   obtain ⟨j,rfl⟩:∃ j:Nat,k = j:=⟨k.toNat,by omega⟩
   have hj:j < (Qnr r).length:=by omega
   have hgl:=(Qt6 r).2 _ (List.getElem_mem hj)
   rw [Bool.not_true,cond_false,Jg9 h (Qfb hc).1,Qab,Q0x hj]
   have e:Qil r = l6M r:=by unfold Qil; rw [show (Qh7 r == 0) = true by simp [hc],cond_true]
   simp only [e]
   have hlen:(l6M r).length ≤ 12:=Q9k (Qfb hc).1
   have:=Jdk (l6M r) (fun n out i=>Qe0 fu r (j:Int) (Qnr r) (l6M r) n out i) (fun pre xs out=>some (out ++ ofG r (Qnr r)[j] (pre.length:Int) xs)) (fun pre xs out=>out.length + xs.length ≤ 12) (by omega) ?_ ?_ fu [] (by simpa using hlen) (by omega)
   · simpa using this
   · intro n out pre i xs hl hx hd hI ih
     simp only [List.length_cons] at hI
     have hi:i ∈ Qil r:=by rw [e,hl]; simp
     have hi2:=Q5k hi
     obtain ⟨q,rfl⟩:∃ q:Nat,i = q:=⟨i.toNat,by omega⟩
     have hq:q < r.fG.length:=by omega
     simp only [Qe0.eq_2]
     unfold Qks Qkc
     simp only [hd,cond_true,hx,Qab,Q0x hj,Q0x hq,Jdr (show (Qnr r)[j].length ≤ 1048576 by omega) (show (Qnr r)[j].length < fu by omega)]
     rw [Jbn r _ _ _ _ (Q0x hq)]
     cases (Qnr r)[j].contains r.fG[q].fF
     · rw [cond_false,cond_false,ih _ (by omega)]
       simp
     · rw [cond_true,cond_true,ap1 (by simp; omega),Qab,ih _ (by simp; omega)]
       simp
   · intro n out hd hI
     simp only [Qe0.eq_2]
     unfold Qks
     simp only [hd,cond_false]
     simp [ofG]
end Go.Proofs.YthddjkokpfdbnaaGreat
/- CartonsOf of spec and of impl. -/
namespace Go.Proofs.YthddjkokpfdbnaaGreat
open Go
open Enc (rd ow)
open Arg (argv)
open Ret (retv)
open Wf (wf)
def Jfz (l:List Int):List Int:=l.mergeSort fun x y=>decide (x ≤ y)
theorem Qyi (l:List Int):(Jfz l).Perm l:=List.mergeSort_perm l _
theorem Jac (l:List Int):(Jfz l).length = l.length:=(Qyi l).length_eq
def Jbb (r:Request) (k:Int) (l:List Int):Carton:=⟨(Qxe r l).1.f8,k,Jfz l⟩
def Q6c (r:Request) (k:Int):List Carton:=(pwM r (Q8x r k)).map (Jbb r k)
def Q30 (r:Request):List Int → List Carton
 | []=>[]
 | k :: ks=>Q6c r k ++ Q30 r ks
def Q18 (r:Request):List Carton:=Q30 r (Qlq 0 (Qnr r).length)
theorem Q8i (l:List Int):(Qlq 0 l.length).map (fun p=>(ix l p).getD 0) = l:=by
 have key:∀ (xs pre:List Int),l = pre ++ xs → (Qlq pre.length xs.length).map (fun p=>(ix l p).getD 0) = xs:=by
  intro xs
  induction xs with
  | nil=>intro pre _; rfl
  | cons x xs ih =>
   intro pre he
   have h1:=ih (pre ++ [x]) (by simp [he])
   simp only [List.length_append,List.length_singleton] at h1
   simp only [List.length_cons,Qlq,List.map_cons]
   rw [show ((pre.length:Int) + 1) = ((pre.length + 1:Nat):Int) by omega,h1]
   congr 1
   rw [Qq8,he]
   simp
 exact key l [] rfl
theorem Jd3 (l:List Int):(srt (kf l) l.length).map (fun p=>(ix l p).getD 0) = Jfz l:=by
 refine Q9b ?_ ?_ (Qsm l)
 · refine ((Qux _ _).map _).trans ?_
   rw [Q8i]
   exact (Qyi l).symm
 · refine List.pairwise_map.2 ((Qwl (kf l) l.length).imp fun {p q} h=>?_)
   unfold lx kf at h
   omega
theorem Jbm {r:Request} (k:Int):(Q6c r k).length ≤ 12:=by
 have:=(Q7e (r:=r) (Q2j r k)).1
 simp [Q6c]; omega
theorem Jgf {fu:Nat} {r:Request} (h:Sm fu r):Qmd fu r = some (Q18 r):=by
 have hfu:=h.fu
 have hg:=(Qt6 r).1
 unfold Qmd Q18
 rw [Jas h,Qab]
 have:=Jbu ((Qnr r).length:Int) (fun n out i=>Qbb fu r (Qnr r) n out i) (fun xs out=>some (out ++ Q30 r xs)) (fun xs out=>out.length + 12 * xs.length ≤ 48) (by omega) ?_ ?_ (Qnr r).length fu [] 0 (by omega) (by omega) (by omega) (by simp [Qfd]; omega)
 · simpa using this
 · intro n out k ks h0 h1 hd hI ih
   simp only [List.length_cons] at hI
   have hul:=Q2j r k
   have hpo:=Q7e (r:=r) hul
   simp only [Qbb.eq_2]
   unfold Qiu
   rw [hd,cond_true,Jge h,Qab,Jg0 h _ (by omega),Qab]
   have key:=lpI (pwM r (Q8x r k)) (fun m o i=>Qbz fu (Qbb fu r (Qnr r) n) r k (pwM r (Q8x r k)) m o i) (fun xs o=>Qbb fu r (Qnr r) n (o ++ xs.map (Jbb r k)) (w64 (k + 1))) (fun xs o=>o.length + xs.length ≤ 48 ∧ ∀ l ∈ xs,l.length ≤ 12) (by have:=hpo.1; omega) ?_ ?_ fu out ⟨by have:=hpo.1; omega,hpo.2⟩ (by have:=hpo.1; omega)
   · rw [key,ih _ (by have:=hpo.1; simp; omega)]
     simp [Q30,Q6c]
   · intro m o i l xs hx hd hI ih
     obtain ⟨h2,h3⟩:=hI
     simp only [List.length_cons] at h2
     have hl:=h3 l (by simp)
     simp only [Qbz.eq_2]
     unfold Qio Qlr
     rw [hd,cond_true,hx,Qab,Q8n h l (by omega),Qab,Qab,Jib hfu (by omega),Qab]
     have hsl:=Qvl (kf l) l.length
     have hsm:=fun x=>Q1m (k:=kf l) (n:=l.length) (x:=x)
     have hsg:=Jd3 l
     generalize srt (kf l) l.length = S at hsl hsm hsg ⊢
     have k1:=lpI S (fun m' us j=>Qez fu (Qbz fu (Qbb fu r (Qnr r) n) r k (pwM r (Q8x r k)) m) k (pwM r (Q8x r k)) o i (Qxe r l).1 S m' us j)
      (fun xs us=>Qac (Qhw 40 o [(⟨(Qxe r l).1.f8,k,us ++ xs.map fun p=>(ix l p).getD 0⟩:Carton)]) fun x=>Qh2 fu (Qbz fu (Qbb fu r (Qnr r) n) r k (pwM r (Q8x r k)) m) i x) (fun xs us=>us.length + xs.length ≤ 12 ∧ ∀ p ∈ xs,0 ≤ p ∧ p < l.length) (by omega) ?_ ?_ fu [] ⟨by simp; omega,fun p hp=>(hsm p).1 hp⟩ (by omega)
     · rw [k1,List.nil_append,hsg,ap1 (by simp; omega),Qab]
       unfold Qh2
       rw [ih _ ⟨by simp; omega,fun y hy=>h3 y (by simp [hy])⟩]
       simp [Jbb]
     · intro m' us j p ps hp hd hI ih
       obtain ⟨h4,h5⟩:=hI
       simp only [List.length_cons] at h4
       simp only [Qez.eq_2]
       unfold Qik
       rw [hd,cond_true,hx,Qab,hp,Qab,Jcb (h5 p (by simp)),Qab,ap1 (by simp; omega),Qab,ih _ ⟨by simp; omega,fun y hy=>h5 y (by simp [hy])⟩]
       simp
     · intro m' us j hd _
       simp only [Qez.eq_2]
       unfold Qik
       rw [hd,cond_false]; simp
   · intro m o i hd _
     simp only [Qbz.eq_2]
     unfold Qio Qlo
     rw [hd,cond_false]; simp
 · intro n out k hd _
   simp only [Qbb.eq_2]
   unfold Qiu
   rw [hd,cond_false]; simp [Q30]
theorem Q5n (r:Request):∀ (ks:List Int),(Q30 r ks).length ≤ 12 * ks.length
 | []=>by simp [Q30]
 | k :: ks=>by
  have:=Q5n r ks
  have:=Jbm (r:=r) k
  simp [Q30]; omega
theorem Q1u (r:Request):(Q18 r).length ≤ 48:=by
 have:=Q5n r (Qlq 0 (Qnr r).length)
 have hg:=(Qt6 r).1
 rw [Qfd] at this
 unfold Q18
 omega
theorem Q5h {r:Request} {c:Carton}:∀ {ks:List Int},c ∈ Q30 r ks ↔ ∃ k ∈ ks,∃ l ∈ pwM r (Q8x r k),c = Jbb r k l
 | []=>by simp [Q30]
 | k :: ks=>by
  simp only [Q30,List.mem_append,Q5h (ks:=ks),List.mem_cons,Q6c,List.mem_map]
  constructor
  · rintro (⟨l,hl,rfl⟩ | ⟨k',hk,l,hl,e⟩)
    · exact ⟨k,.inl rfl,l,hl,rfl⟩
    · exact ⟨k',.inr hk,l,hl,e⟩
  · rintro ⟨k',rfl | hk,l,hl,rfl⟩
    · exact .inl ⟨l,hl,rfl⟩
    · exact .inr ⟨k',hk,l,hl,rfl⟩
theorem Q3a {r:Request} {c:Carton} (h:c ∈ Q18 r):c.fM.length ≤ 12:=by
 obtain ⟨k,_,l,hl,rfl⟩:=Q5h.1 h
 have:=(Q7e (r:=r) (Q2j r k)).2 l hl
 simp only [Jbb,Jac]
 omega
end Go.Proofs.YthddjkokpfdbnaaGreat
/- Transitive of spec and of impl; where it is, groups are apart. -/
namespace Go.Proofs.YthddjkokpfdbnaaGreat
open Go
open Enc (rd ow)
open Arg (argv)
open Ret (retv)
open Wf (wf)
theorem Jds {α:Type} (l:List α) (L:Nat → Int → Option Bool) (g:α → Bool) (fin:Option Bool) (hl:l.length ≤ 1099511627776)
    (hs:∀ n (i:Int) x,ix l i = some x → decide (i < (l.length:Int)) = true → L (n + 1) i = bif g x then L n (w64 (i + 1)) else some false)
    (he:∀ n (i:Int),decide (i < (l.length:Int)) = false → L (n + 1) i = fin):∀ n,l.length < n → L n 0 = bif l.all g then fin else some false:=by
 intro n hn
 refine lp l (fun n (_:Unit) i=>L n i) (fun xs _=>bif xs.all g then fin else some false) hl ?_ ?_ n () hn
 · intro n s i x xs hx hd ih
   rw [hs n i x hx hd,ih (),List.all_cons]
   cases g x <;> rfl
 · intro n s i hd
   rw [he n i hd]; rfl
structure Sep (p:List Pair) (P:List Int) (out:List (List Int)):Prop where
 ne:∀ g ∈ out,g ≠ []
 inn:∀ g ∈ out,∀ x ∈ g,x ∈ P
 one:∀ g ∈ out,∀ x ∈ g,∀ y ∈ g,x ≠ y → Q1j p x y = true
 two:∀ (i j:Nat) (g h:List Int),out[i]? = some g → out[j]? = some h → i ≠ j → ∀ x ∈ g,∀ y ∈ h,Q1j p x y = false
end Go.Proofs.YthddjkokpfdbnaaGreat
/- RivalBy of spec and of impl. -/
namespace Go.Proofs.YthddjkokpfdbnaaGreat
open Go
open Enc (rd ow)
open Arg (argv)
open Ret (retv)
open Wf (wf)
theorem Q9f {α:Type} {l:List α} {i:Int} (h0:0 ≤ i) (h1:i < l.length):∃ x,ix l i = some x:=by
 obtain ⟨j,rfl⟩:∃ j:Nat,i = j:=⟨i.toNat,by omega⟩
 exact ⟨_,Q0x (by omega)⟩
end Go.Proofs.YthddjkokpfdbnaaGreat
/- Shelves, layers, loads, spots of spec: what they compute, and what holds of them. -/
namespace Go.Proofs.YthddjkokpfdbnaaGreat
open Go
open Enc (rd ow)
open Arg (argv)
open Ret (retv)
open Wf (wf)
def Jck (p:Pallet) (b:Box):Bool:=inb b.fW 1 p.fW && (inb b.fD 1 p.fD && (inb b.fH 1 p.fH && inb b.fV 1 p.fV))
def Q2v (p:Pallet) (l:List Box):Bool:=Qx4 p && l.all (Jck p)
theorem Jfv {fu:Nat} (p:Pallet) (l:List Box) (hl:l.length ≤ 1048576) (hf:l.length < fu):Qmo fu p l = some (Q2v p l):=by
 unfold Qmo Q2v
 rw [Jam,Qab]
 cases Qx4 p
 · rfl
 · rw [Bool.not_true,cond_false,Bool.true_and]
   have:=Jds l (fun n i=>Qe1 fu p l n i) (Jck p) (some true) (by omega) ?_ ?_ fu hf
   · rw [this]
     cases l.all (Jck p) <;> rfl
   · intro n i x hx hd
     simp only [Qe1.eq_2]
     unfold Qlu Qoq Jck
     simp only [hd,cond_true,hx,Qab,Q1a]
     cases inb x.fW 1 p.fW <;> cases inb x.fD 1 p.fD <;> cases inb x.fH 1 p.fH <;> cases inb x.fV 1 p.fV <;> rfl
   · intro n i hd
     simp only [Qe1.eq_2]
     unfold Qlu
     rw [hd,cond_false]
def nxG {σ:Type} (fits:σ → Bool) (add:σ → σ) (z:σ) (out:List σ):List σ:=match out.getLast? with
 | some s=>bif fits s then out.set (out.length - 1) (add s) else out ++ [add z]
 | none=>[add z]
theorem Q13 {σ:Type} {fits:σ → Bool} {add:σ → σ} {z:σ} {out:List σ} {s:σ} (h:out.getLast? = some s):nxG fits add z out = bif fits s then out.set (out.length - 1) (add s) else out ++ [add z]:=by unfold nxG; rw [h]
theorem Qwf {σ:Type} (fits:σ → Bool) (add:σ → σ) (z:σ) (out:List σ):(nxG fits add z out).length ≤ out.length + 1:=by
 unfold nxG
 split
 · cases fits _ <;> simp
 · simp
theorem Q4n {σ:Type} {fits:σ → Bool} {add:σ → σ} {z:σ} {out:List σ} {I:σ → Prop} (h:∀ s ∈ out,I s) (ha:∀ s,I s → fits s = true → I (add s)) (hz:I (add z)):∀ s ∈ nxG fits add z out,I s:=by
 intro s hs
 unfold nxG at hs
 split at hs
 · rename_i x hx
   have hm:=List.mem_of_getLast? hx
   cases hf:fits x
   · rw [hf,cond_false] at hs
     rcases List.mem_append.1 hs with hs | hs
     · exact h s hs
     · rw [List.mem_singleton.1 hs]; exact hz
   · rw [hf,cond_true] at hs
     rcases List.mem_or_eq_of_mem_set hs with hs | rfl
     · exact h s hs
     · exact ha x (h x hm) hf
 · rw [List.mem_singleton.1 hs]; exact hz
theorem Quv {σ:Type} {fits:σ → Bool} {add:σ → σ} {z:σ} {out:List σ} {f:σ → List Int} {i:Int} (ha:∀ s,f (add s) = f s ++ [i]) (hz:f z = []):((nxG fits add z out).map f).flatten = (out.map f).flatten ++ [i]:=by
 unfold nxG
 split
 · rename_i x hx
   cases fits x
   · rw [cond_false,List.map_append,List.flatten_append]
     simp [ha,hz]
   · rw [cond_true]
     have hne:out ≠ []:=by intro e; rw [e] at hx; simp at hx
     have e:out = out.dropLast ++ [x]:=by
      have h1:=List.dropLast_concat_getLast hne
      rw [List.getLast?_eq_some_getLast hne] at hx
      rw [Option.some.inj hx] at h1
      exact h1.symm
     obtain ⟨d,hd⟩:∃ d,out = d ++ [x]:=⟨_,e⟩
     rw [hd]
     simp [ha]
 · rename_i hx
   have:out = []:=List.getLast?_eq_none_iff.1 hx
   subst this
   simp [ha,hz]
def mxI (a b:Int):Int:=if a > b then a else b
theorem Q00 (a b:Int):a ≤ mxI a b ∧ b ≤ mxI a b ∧ (mxI a b = a ∨ mxI a b = b):=by unfold mxI; split <;> omega
def zBx:Box:=⟨0,0,0,0⟩
def bxA (l:List Box) (i:Int):Box:=(ix l i).getD zBx
def zSh:Shelf:=⟨[],0,0,0,0⟩
def Qtr (s:Shelf) (i:Int) (b:Box):Shelf:=⟨s.qY ++ [i],s.fW + b.fW,mxI s.fD b.fD,mxI s.fH b.fH,s.fV + b.fV⟩
def Jbq (p:Pallet) (b:Box) (s:Shelf):Bool:=decide (s.fW + b.fW ≤ p.fW) && decide (s.fV + b.fV ≤ p.fV)
def shS (p:Pallet) (l:List Box) (out:List Shelf) (i:Int):List Shelf:=nxG (Jbq p (bxA l i)) (fun s=>Qtr s i (bxA l i)) zSh out
def shM (p:Pallet) (l:List Box):List Shelf:=bif Q2v p l then (srt (dnk (l.map (·.fD))) l.length).foldl (shS p l) [] else []
structure ShI (p:Pallet) (n:Nat) (s:Shelf):Prop where
 ne:s.qY ≠ []
 inn:∀ i ∈ s.qY,0 ≤ i ∧ i < n
 w:1 ≤ s.fW ∧ s.fW ≤ p.fW
 d:1 ≤ s.fD ∧ s.fD ≤ p.fD
 h:1 ≤ s.fH ∧ s.fH ≤ p.fH
 g:1 ≤ s.fV ∧ s.fV ≤ p.fV
theorem Q8c {p:Pallet} {l:List Box} (h:Q2v p l = true) {i:Int} (hi:0 ≤ i ∧ i < l.length):ix l i = some (bxA l i) ∧ (1 ≤ (bxA l i).fW ∧ (bxA l i).fW ≤ p.fW) ∧ (1 ≤ (bxA l i).fD ∧ (bxA l i).fD ≤ p.fD) ∧ (1 ≤ (bxA l i).fH ∧ (bxA l i).fH ≤ p.fH) ∧ (1 ≤ (bxA l i).fV ∧ (bxA l i).fV ≤ p.fV):=by
 obtain ⟨x,hx⟩:=Q9f (l:=l) hi.1 hi.2
 have e:bxA l i = x:=by unfold bxA; rw [hx]; rfl
 unfold Q2v at h
 simp only [Bool.and_eq_true] at h
 have:=List.all_eq_true.1 h.2 x (Qeg hx)
 simp only [Jck,Bool.and_eq_true,Qc7] at this
 rw [e]
 exact ⟨hx,this.1,this.2.1,this.2.2.1,this.2.2.2⟩
theorem Q44 {p:Pallet} (h:Qx4 p = true):(1 ≤ p.fW ∧ p.fW ≤ 2000) ∧ (1 ≤ p.fD ∧ p.fD ≤ 2000) ∧ (1 ≤ p.fH ∧ p.fH ≤ 2000) ∧ (1 ≤ p.fV ∧ p.fV ≤ 100000):=by
 simp only [Qx4,Bool.and_eq_true,Qc7] at h
 exact ⟨h.1,h.2.1,h.2.2.1,h.2.2.2⟩
theorem Q78 {p:Pallet} {l:List Box} (h:Q2v p l = true):Qx4 p = true:=by
 unfold Q2v at h
 simp only [Bool.and_eq_true] at h
 exact h.1
theorem Q8h {p:Pallet} {l:List Box} (hb:Q2v p l = true) {out:List Shelf} {i:Int} (hi:0 ≤ i ∧ i < l.length) (h:∀ s ∈ out,ShI p l.length s):∀ s ∈ shS p l out i,ShI p l.length s:=by
 obtain ⟨_,b1,b2,b3,b4⟩:=Q8c hb hi
 refine Q4n h (fun s hs hf=>?_) ⟨by simp [Qtr],fun j hj=>?_,?_,?_,?_,?_⟩
 · unfold Jbq at hf
   simp only [Bool.and_eq_true,decide_eq_true_eq] at hf
   obtain ⟨s1,s2,s3,s4,s5,s6⟩:=hs
   have m1:=Q00 s.fD (bxA l i).fD
   have m2:=Q00 s.fH (bxA l i).fH
   refine ⟨by simp [Qtr],fun j hj=>?_,?_,?_,?_,?_⟩
   · simp only [Qtr,List.mem_append,List.mem_singleton] at hj
     rcases hj with hj | rfl
     · exact s2 j hj
     · exact hi
   · simp only [Qtr]; omega
   · simp only [Qtr]; omega
   · simp only [Qtr]; omega
   · simp only [Qtr]; omega
 · simp only [Qtr,zSh,List.nil_append,List.mem_singleton] at hj
   rw [hj]; exact hi
 · simp only [Qtr,zSh]; omega
 · have:=Q00 0 (bxA l i).fD
   simp only [Qtr,zSh]; omega
 · have:=Q00 0 (bxA l i).fH
   simp only [Qtr,zSh]; omega
 · simp only [Qtr,zSh]; omega
theorem Q8y {p:Pallet} {l:List Box} (hb:Q2v p l = true):∀ (is:List Int) (out:List Shelf),(∀ i ∈ is,0 ≤ i ∧ i < l.length) → (∀ s ∈ out,ShI p l.length s) → (∀ s ∈ is.foldl (shS p l) out,ShI p l.length s) ∧ ((is.foldl (shS p l) out).map (·.qY)).flatten = (out.map (·.qY)).flatten ++ is ∧ (is.foldl (shS p l) out).length ≤ out.length + is.length
 | [],out,_,h=>⟨h,by simp,by simp⟩
 | i :: is,out,hi,h=>by
  rw [List.foldl_cons]
  obtain ⟨h1,h2,h3⟩:=Q8y hb is (shS p l out i) (fun j hj=>hi j (by simp [hj])) (Q8h hb (hi i (by simp)) h)
  have h4:((shS p l out i).map (·.qY)).flatten = (out.map (·.qY)).flatten ++ [i]:=Quv (fun s=>rfl) rfl
  have h5:(shS p l out i).length ≤ out.length + 1:=Qwf _ _ _ _
  refine ⟨h1,by rw [h2,h4]; simp,by simp; omega⟩
theorem Q31 {p:Pallet} {l:List Box} (hb:Q2v p l = true):(∀ s ∈ shM p l,ShI p l.length s) ∧ ((shM p l).map (·.qY)).flatten = srt (dnk (l.map (·.fD))) l.length ∧ (shM p l).length ≤ l.length:=by
 unfold shM
 rw [hb,cond_true]
 obtain ⟨h1,h2,h3⟩:=Q8y hb (srt (dnk (l.map (·.fD))) l.length) [] (fun i hi=>Q1m.1 hi) (by simp)
 refine ⟨h1,by simpa using h2,?_⟩
 rw [Qvl] at h3
 simpa using h3
theorem Jeg {fu:Nat} (s:Shelf) (i:Int) (b:Box) (hl:s.qY.length ≤ 1000000) (h1:-1000000000 ≤ s.fW + b.fW ∧ s.fW + b.fW ≤ 1000000000) (h2:-1000000000 ≤ s.fV + b.fV ∧ s.fV + b.fV ≤ 1000000000):Qgk fu s i b = some (Qtr s i b):=by
 unfold Qgk
 rw [ap1 (by simp; omega),Qab,ap1 (by simp; omega),Qab,Jbo,Qab,Jbo,Qab,Qa8 (by omega) (by omega),Qa8 (by omega) (by omega)]
 rfl
theorem Qvo {σ:Type} (f:σ → List Int):∀ (l:List σ) (s:σ),s ∈ l → (f s).length ≤ ((l.map f).flatten).length
 | [],_,h=>by simp at h
 | x :: l,s,h=>by
  simp only [List.map_cons,List.flatten_cons,List.length_append]
  rcases List.mem_cons.1 h with rfl | h
  · omega
  · have:=Qvo f l s h; omega
theorem Q8z {fu:Nat} (hfu:2097153 ≤ fu) (p:Pallet) (l:List Box) (hl:l.length ≤ 1000):Qpm fu p l = some (shM p l):=by
 unfold Qpm shM
 rw [Jfv p l (by omega) (by omega),Qab]
 cases hb:Q2v p l
 · rfl
 · rw [Bool.not_true,cond_false,cond_true]
   have key:=lpI l (fun n (o:List Int) i=>Qf9 fu p l n o i) (fun xs o=>Qac (Qgr fu (o ++ xs.map (·.fD))) fun x=>Qea fu p l x fu [] 0) (fun xs o=>o.length + xs.length ≤ 1000) (by omega) ?_ ?_ fu [] (by simp; omega) (by omega)
   · rw [key,List.nil_append,Jbw hfu (by simp; omega),Qab,List.length_map]
     have hsl:=Qvl (dnk (l.map (·.fD))) l.length
     have hsm:=fun x=>Q1m (k:=dnk (l.map (·.fD))) (n:=l.length) (x:=x)
     generalize srt (dnk (l.map (·.fD))) l.length = S at hsl hsm ⊢
     have L1:=lpI S (fun n (o:List Shelf) i=>Qea fu p l S n o i) (fun xs o=>some (xs.foldl (shS p l) o)) (fun xs o=>(∀ i ∈ xs,0 ≤ i ∧ i < l.length) ∧ (∀ s ∈ o,ShI p l.length s) ∧ ((o.map (·.qY)).flatten).length + xs.length ≤ 1000 ∧ o.length + xs.length ≤ 1000) (by omega) ?_ ?_ fu [] ⟨fun i hi=>(hsm i).1 hi,by simp,by simp; omega,by simp; omega⟩ (by omega)
     · exact L1
     · intro n o i x xs hx hd hI ih
       obtain ⟨i1,i2,i3,i4⟩:=hI
       simp only [List.length_cons] at i3 i4
       have hxi:=i1 x (by simp)
       obtain ⟨hbx,b1,b2,b3,b4⟩:=Q8c hb hxi
       obtain ⟨p1,p2,p3,p4⟩:=Q44 (Q78 hb)
       have hn:Qgk fu zSh x (bxA l x) = some (Qtr zSh x (bxA l x)):=Jeg zSh x _ (by simp [zSh]) (by simp [zSh]; omega) (by simp [zSh]; omega)
       have hn':Qgk fu (⟨[],0,0,0,0⟩:Shelf) x (bxA l x) = some (Qtr zSh x (bxA l x)):=hn
       have hflat:((shS p l o x).map (·.qY)).flatten = (o.map (·.qY)).flatten ++ [x]:=Quv (fun s=>rfl) rfl
       have hlen:(shS p l o x).length ≤ o.length + 1:=Qwf _ _ _ _
       have ih':=ih (shS p l o x) ⟨fun j hj=>i1 j (by simp [hj]),Q8h hb hxi i2,by rw [hflat,List.length_append,List.length_singleton]; omega,by omega⟩
       simp only [Qea.eq_2]
       unfold Ql1 Qgi
       rw [hd,cond_true,hx,Qab,hbx,Qab,List.foldl_cons,← ih',hn',Qab]
       by_cases he:o = []
       · subst he
         rw [Qbe (by simp),Qab,ap1 (by simp),Qab]; rfl
       · obtain ⟨s,e1,e2⟩:=Q19 he
         have hp:=List.length_pos_iff.2 he
         have hsm':=List.mem_of_getLast? e1
         have hs:=i2 s hsm'
         have hsl':=Qvo (fun s:Shelf=>s.qY) o s hsm'
         rw [Qa8 (n:=(o.length:Int) - 1) (by omega) (by omega),e2,Qab,Qcl (by simp; omega)]
         obtain ⟨s1,s2,s3,s4,s5,s6⟩:=hs
         rw [Qa8 (n:=s.fW + _) (by omega) (by omega),Qa8 (n:=s.fV + _) (by omega) (by omega),Qab,Qab,Qab,Jeg (fu:=fu) s x (bxA l x) (by omega) (by omega) (by omega)]
         simp only [Qab]
         rw [ap1 (by simp; omega),Qab]
         have eS:shS p l o x = bif Jbq p (bxA l x) s then o.set (o.length - 1) (Qtr s x (bxA l x)) else o ++ [Qtr zSh x (bxA l x)]:=Q13 e1
         rw [eS]
         unfold Jbq
         rw [show Qhx o ((o.length:Int) - 1) (Qtr s x (bxA l x)) = o.set (o.length - 1) (Qtr s x (bxA l x)) by unfold Qhx; congr 1; omega]
         cases decide (s.fW + (bxA l x).fW ≤ p.fW) <;> cases decide (s.fV + (bxA l x).fV ≤ p.fV) <;> rfl
     · intro n o i hd _
       simp only [Qea.eq_2]
       unfold Ql1
       rw [hd,cond_false]; rfl
   · intro n o i x xs hx hd hI ih
     simp only [List.length_cons] at hI
     simp only [Qf9.eq_2]
     unfold Ql0
     rw [hd,cond_true,hx,Qab,ap1 (by simp; omega),Qab,ih _ (by simp; omega)]
     simp
   · intro n o i hd _
     simp only [Qf9.eq_2]
     unfold Ql0
     rw [hd,cond_false]; simp
end Go.Proofs.YthddjkokpfdbnaaGreat
