import Derived.Test.YthddjkokpfdbnaaGreatMirroredBP1
set_option linter.unusedSimpArgs false
set_option linter.unusedVariables false
/- Kinds, groups and the units of a group, by spec and by impl. -/
namespace Go.Proofs.YthddjkokpfdbnaaGreat
open Go
open Enc (rd ow)
open Arg (argv)
open Ret (retv)
open Wf (wf)
theorem Jdr {fu:Nat} {l:List Int} (hl:l.length ≤ 1048576) (hf:l.length < fu) (x:Int):Qn6 fu l x = some (l.contains x):=by
 unfold Qn6
 refine lp l (fun n (_:Unit) i=>Qh3 fu l x n i) (fun l _=>some (l.contains x)) (by omega) ?_ ?_ fu () hf
 · intro n s i y ys hy hd ih
   simp only [Qh3.eq_2]
   unfold Qo9
   simp only [hd,cond_true,hy,Qab,ih (),List.contains_cons]
   rw [Jgz y x]
   cases x == y <;> rfl
 · intro n s i hd
   simp only [Qh3.eq_2]
   unfold Qo9
   simp only [hd,cond_false]
   rfl
theorem Jhy {fu:Nat} {l:List Int} (hl:l.length ≤ 1048576) (hf:l.length < fu) (x:Int):Qeo fu l x = some (l.contains x):=by
 unfold Qeo Qh5
 have:=Qs0 l (fun n i=>Qcm fu l x n i) (fun y=>x == y) (by omega) (by
  intro n i y hx hd
  simp only [Qcm.eq_2]
  unfold Qfv
  simp only [hd,cond_true,hx,Qab]) (by
  intro n i hd
  simp only [Qcm.eq_2]
  unfold Qfv
  simp only [hd,cond_false]) fu hf
 rw [this,Qab,Qth _ l 0 (by omega),List.contains_eq_any_beq]
theorem Jfd {fu:Nat} {p:List Pair} (hp:p.length ≤ 1048576) (hpf:p.length < fu) {g:List Int} (hl:g.length ≤ 1048576) (hf:g.length < fu) (c:Int):Qpj fu p g c = some (g.all (Q1j p c)):=by
 unfold Qpj
 refine lp g (fun n (_:Unit) i=>Qe2 fu p g c n i) (fun l _=>some (l.all (Q1j p c))) (by omega) ?_ ?_ fu () hf
 · intro n s i y ys hy hd ih
   simp only [Qe2.eq_2]
   unfold Qko Qo3
   simp only [hd,cond_true,hy,Qab,ih (),Jfb hp hpf,List.all_cons,Q1j]
   cases Qto p y c <;> cases Qto p c y <;> rfl
 · intro n s i hd
   simp only [Qe2.eq_2]
   unfold Qko
   simp only [hd,cond_false]
   rfl
theorem Jhr {fu:Nat} {r:Request} (h:Sm fu r):Qpi fu r = some (Qzo r):=by
 have hfu:=h.fu
 have h1:=h.items
 unfold Qpi Qzo
 rw [Q0h h,Qab]
 by_cases hc:Qh7 r = 0
 · rw [show (Qh7 r != 0) = false by simp [hc],show (Qh7 r == 0) = true by simp [hc],cond_false,cond_true]
   have e27:∀ (k:List Int → Int → Option (List Int)) (out:List Int) (c:Int),Qd8 fu k r out c fu false 0 = bif r.fG.any (fun x=>x.fF == c) then (Qac (Qhw 8 out [c]) fun x=>k x (w64 (c + 1))) else k out (w64 (c + 1)):=by
    intro k out c
    refine lp r.fG (fun n f i=>Qd8 fu k r out c n f i) (fun l f=>bif f || l.any (fun x=>x.fF == c) then (Qac (Qhw 8 out [c]) fun x=>k x (w64 (c + 1))) else k out (w64 (c + 1))) (by omega) ?_ ?_ fu false (by omega)
    · intro n f i x xs hx hd ih
      simp only [Qd8.eq_2]
      unfold Qlp Qkh
      simp only [hd,cond_true,hx,Qab,ih,List.any_cons]
      cases f
      · rfl
      · rfl
    · intro n f i hd
      simp only [Qd8.eq_2]
      unfold Qlp Qjy
      simp only [hd,cond_false,List.any_nil,Bool.or_false]
   have:=Jbu 4 (fun n out i=>Qdd fu r n out i) (fun xs out=>some (out ++ xs.filter fun c=>r.fG.any fun x=>x.fF == c)) (fun xs out=>out.length + xs.length ≤ 4) (by omega) ?_ ?_ 4 fu [] 0 (by omega) (by omega) (by omega) (by simp [Qlq])
   · simpa using this
   · intro n out i xs h0 h1 hd hI ih
     simp only [List.length_cons] at hI
     simp only [Qdd.eq_2]
     unfold Qkt
     simp only [hd,cond_true,e27]
     cases hb:r.fG.any fun x=>x.fF == i
     · rw [cond_false,ih out (by omega)]
       simp [hb]
     · rw [cond_true,ap1 (by simp; omega),Qab,ih _ (by simp; omega)]
       simp [hb]
   · intro n out i hd hI
     simp only [Qdd.eq_2]
     unfold Qkt
     simp only [hd,cond_false]
     simp
 · rw [show (Qh7 r != 0) = true by simp [hc],show (Qh7 r == 0) = false by simp [hc],cond_false,cond_true]
theorem Q9v {fu:Nat} {l:List Int} (hl:l.length ≤ 1048576):∃ k,Qkl fu l = some k ∧ k.Pairwise (· < ·) ∧ ∀ x,x ∈ k ↔ x ∈ l:=by
 unfold Qkl Qcq Qc1 Qki
 have hp:=List.mergeSort_perm l (fun x y=>decide (x ≤ y))
 have hs:=Qsm l
 rw [ap1 (by simp; omega),Qab,Qab,List.nil_append]
 unfold Q2m
 rw [if_pos (by omega),Qab]
 unfold Jf1
 rw [if_pos (by rw [hp.length_eq]; omega),Qab]
 obtain ⟨h1,h2⟩:=Qz6 _ hs
 exact ⟨_,rfl,h1,fun x=>(h2 x).trans hp.mem_iff⟩
theorem Q0k {fu:Nat} {l:List Int} (hl:l.length ≤ 1048576) (hs:l.Pairwise (· < ·)):Qkl fu l = some l:=by
 obtain ⟨k,h1,h2,h3⟩:=Q9v (fu:=fu) hl
 rw [h1,Q7o h2 hs h3]
theorem Jg5 {fu:Nat} {r:Request} (h:Sm fu r):Qpo fu r = some (Qzo r):=by
 have hfu:=h.fu
 have h1:=h.items
 unfold Qpo
 rw [Qvm h,Qab]
 by_cases hc:Qh7 r = 0
 · rw [show (Qh7 r == 0) = true by simp [hc],Bool.not_true,cond_false]
   have:=lpI r.fG (fun n out i=>Qga fu r n out i) (fun xs out=>Qac (Qkl fu (out ++ xs.map (·.fF))) fun x=>some x) (fun xs out=>out.length + xs.length ≤ 1048576) (by omega) ?_ ?_ fu [] (by simpa using h1) (by omega)
   · rw [List.nil_append] at this
     refine this.trans ?_
     obtain ⟨k,e1,e2,e3⟩:=Q9v (fu:=fu) (l:=r.fG.map (·.fF)) (by simpa using h1)
     rw [e1,Qab]
     congr 1
     refine Q7o e2 (Qtv r) fun x=>?_
     rw [e3]
     unfold Qzo
     rw [show (Qh7 r == 0) = true by simp [hc],cond_true,List.mem_filter,Qky,List.any_eq_true,List.mem_map]
     constructor
     · rintro ⟨y,hy,rfl⟩
       have:=(Qsi (Qfb hc).1).1 y hy
       simp only [Qxa,Bool.and_eq_true,Qc7] at this
       exact ⟨by omega,y,hy,by simp⟩
     · rintro ⟨_,y,hy,e⟩
       exact ⟨y,hy,by simpa using e⟩
   · intro n out i x xs hx hd hI ih
     simp only [List.length_cons] at hI
     simp only [Qga.eq_2]
     unfold Qlb
     simp only [hd,cond_true,hx,Qab]
     rw [ap1 (by simp; omega),Qab,ih _ (by simp; omega)]
     simp
   · intro n out i hd hI
     simp only [Qga.eq_2]
     unfold Qlb
     simp only [hd,cond_false]
     simp
 · rw [show (Qh7 r == 0) = false by simp [hc],Bool.not_false,cond_true]
   unfold Qzo
   rw [show (Qh7 r == 0) = false by simp [hc],cond_false]
theorem Q3p {α:Type} (g:α → Bool) (x:α):∀ (l:List α),Qwe g (l ++ [x]) = match Qwe g l with | some i=>some i | none=>bif g x then some l.length else none
 | []=>by simp [Qwe]
 | y :: ys=>by
  simp only [List.cons_append,Qwe]
  cases g y
  · simp only [cond_false]
    rw [Q3p g x ys]
    cases Qwe g ys <;> simp
    cases g x <;> simp
  · rfl
def atB {α:Type} (g:α → Bool) (l:List α) (i:Int):Bool:=match ix l i with | some x=>g x | none=>false
def Jb5 {α:Type} (g:α → Bool) (l:List α) (a i:Int):Int:=bif atB g l i then i else a
theorem Qzi {α:Type} (g:α → Bool) (l:List α):∀ (m:Nat) (a:Int),m ≤ l.length → (Qu3 m).foldl (Jb5 g l) a = match Qwe g (l.take m) with | some i=>(i:Int) | none=>a
 | 0,a,_=>by simp [Qu3,Qwe]
 | m + 1,a,h=>by
  simp only [Qu3,List.foldl_cons]
  rw [Qzi g l m _ (by omega),List.take_succ_eq_append_getElem (by omega),Q3p,List.length_take,Nat.min_eq_left (by omega)]
  unfold Jb5 atB
  rw [Q0x (by omega)]
  cases Qwe g (l.take m) with
  | some i=>rfl
  | none =>
   simp only
   cases g l[m] <;> rfl
theorem Q1k {α:Type} (g:α → Bool):∀ (l:List α) (i:Int),Qxg g l i = match Qwe g l with | some j=>i + j | none=>-1
 | [],i=>rfl
 | x :: xs,i=>by
  simp only [Qxg,Qwe]
  cases g x
  · simp only [cond_false]
    rw [Q1k g xs (i + 1)]
    cases Qwe g xs with
    | none=>rfl
    | some j =>
     show i + 1 + (j:Int) = i + ((j + 1:Nat):Int)
     omega
  · simp
theorem Jbz {p:List Pair} {out:List (List Int)} {c:Int} {n:Nat} (h:okG n out) (hn:n ≤ 1048576) {β:Type} (k:List (List Int) → Option β) (a:Int) (ha:a = match Qwe (fun g=>g.all (Q1j p c)) out with | some i=>(i:Int) | none=>-1) :
    (bif (decide (a < 0)) then Qac (Qhw 24 out [([c]:List Int)]) fun x=>k x else Qac (ix out a) fun x=>Qac (Qhw 8 x (([c]:List Int))) fun y=>Qac (ix out a) fun z=>k (Qhx out a y)) = k (Q5c p out c):=by
 obtain ⟨h1,h2⟩:=h
 unfold Q5c
 cases hf:Qwe (fun g=>g.all (Q1j p c)) out with
 | none =>
  rw [hf] at ha
  simp only at ha
  subst ha
  rw [Qcl (by simp),ap1 (by simp; omega),Qab]
 | some i =>
  rw [hf] at ha
  simp only at ha
  subst ha
  obtain ⟨x,hx,_⟩:=Qvk hf
  have:=h2 x (List.mem_of_getElem? hx)
  rw [Qbe (by simp),Qq8,hx,Qab,ap1 (by simp; omega),Qab,Qab]
  simp [Qhx,hx]
theorem Jei {fu:Nat} {p:List Pair} (hp:p.length ≤ 1048576) (hfu:2097153 ≤ fu) {l:List Int} (hl:l.length ≤ 1048576):Qry fu p l = some (((Qlq 0 4).filter l.contains).foldl (Q5c p) []):=by
 unfold Qry
 have e27:∀ (k:List (List Int) → Int → Option (List (List Int))) (out:List (List Int)) (c:Int),okG 4 out → Qes fu k p out c fu (-1) (w64 ((out.length:Int) - 1)) = k (Q5c p out c) (w64 (c + 1)):=by
  intro k out c ho
  obtain ⟨R,hR⟩:∃ R:Int → Option (List (List Int)),R = fun a=>bif (decide (a < 0)) then Qac (Qhw 24 out [([c]:List Int)]) fun x=>k x (w64 (c + 1)) else Qac (ix out a) fun x=>Qac (Qhw 8 x (([c]:List Int))) fun y=>Qac (ix out a) fun z=>k (Qhx out a y) (w64 (c + 1)):=⟨_,rfl⟩
  have:=lpD out.length (fun n a i=>Qes fu k p out c n a i) (fun xs a=>R (xs.foldl (Jb5 (fun g=>g.all (Q1j p c)) out) a)) (by have:=ho.1; omega) ?_ ?_ fu (-1) (by have:=ho.1; omega)
  · rw [this,hR]
    refine Jbz (p:=p) ho (by omega) (fun x=>k x (w64 (c + 1))) _ ?_
    rw [Qzi (fun g=>g.all (Q1j p c)) out out.length (-1) (Nat.le_refl _),List.take_length]
  · intro n a i xs h0 h1 hd ih
    simp only [Qes.eq_2]
    unfold Qmy Ql5
    obtain ⟨j,rfl⟩:∃ j:Nat,i = j:=⟨i.toNat,by omega⟩
    have hj:j < out.length:=by omega
    have hg:=ho.2 _ (List.getElem_mem hj)
    simp only [hd,cond_true,Q0x hj,Qab,Jfd hp (by omega) (show out[j].length ≤ 1048576 by omega) (show out[j].length < fu by omega),ih,List.foldl_cons]
    have e:Jb5 (fun g=>g.all (Q1j p c)) out a (j:Int) = bif out[j].all (Q1j p c) then (j:Int) else a:=by unfold Jb5 atB; rw [Q0x hj]
    rw [e]
    cases out[j].all (Q1j p c) <;> rfl
  · intro n a i hd
    simp only [Qes.eq_2]
    unfold Qmy Qgz
    simp only [hd,cond_false,List.foldl_nil,hR]
 have:=Jbu 4 (fun n out i=>Qd3 fu p l n out i) (fun xs out=>some ((xs.filter l.contains).foldl (Q5c p) out)) (fun xs out=>∃ m,m + xs.length ≤ 4 ∧ okG m out) (by omega) ?_ ?_ 4 fu [] 0 (by omega) (by omega) (by omega) ⟨0,by simp [Qlq],by simp,by simp⟩
 · exact this
 · intro n out i xs h0 h1 hd hI ih
   obtain ⟨m,hm,ho⟩:=hI
   simp only [List.length_cons] at hm
   simp only [Qd3.eq_2]
   unfold Qm9 Qgz
   simp only [hd,cond_true,Jdr hl (show l.length < fu by omega),Qab]
   cases hb:l.contains i
   · rw [Bool.not_false,cond_true,ih out ⟨m,by omega,ho⟩,List.filter_cons_of_neg (by rw [hb]; simp)]
   · rw [Bool.not_true,cond_false,e27 _ out i ⟨by have:=ho.1; omega,fun g hg=>by have:=ho.2 g hg; omega⟩,ih _ ⟨m + 1,by omega,Q4o i ho⟩,List.filter_cons_of_pos hb,List.foldl_cons]
 · intro n out i hd hI
   simp only [Qd3.eq_2]
   unfold Qm9
   simp only [hd,cond_false]
   simp
theorem Q6w (r:Request):(Qlq 0 4).filter (Qzo r).contains = Qzo r :=
 Q7o ((Qvn 0 4).filter _) (Qtv r) fun x=>by
  rw [List.mem_filter,Qky]
  constructor
  · rintro ⟨_,h⟩; simpa using h
  · intro h; have:=Q45 h; exact ⟨by omega,by simpa using h⟩
theorem Jas {fu:Nat} {r:Request} (h:Sm fu r):Qgp fu r = some (Qnr r):=by
 unfold Qgp Qnr
 rw [Jhr h,Qab,Jei h.pairs h.fu (by have:=Q1v r; omega),Qab,Q6w]
theorem Jhc {fu:Nat} {p:List Pair} (hp:p.length ≤ 1048576) (hpf:p.length < fu) (a b:Int):Qq7 fu p a b = some (Q1j p a b):=by
 unfold Qq7 Q1j
 simp only [Jdw hp hpf,Qab]
 cases Qto p a b <;> rfl
theorem Q5w {fu:Nat} {l:List Int} (f:Int → Option Bool) (g:Int → Bool) (hg:∀ x ∈ l,f x = some (g x)) (hl:l.length ≤ 1048576) (hf:l.length < fu):Qc4 fu l f = some (Qxg g l 0):=by
 unfold Qc4
 refine Qs0 l (fun n i=>Qb0 fu l f n i) g (by omega) ?_ ?_ fu hf
 · intro n i x hx hd
   simp only [Qb0.eq_2]
   unfold Qd4
   simp only [hd,cond_true,hx,Qab,hg x (Qeg hx)]
 · intro n i hd
   simp only [Qb0.eq_2]
   unfold Qd4
   simp only [hd,cond_false]
theorem Q59 {fu:Nat} {l:List Int} (f:Int → Option Bool) (g:Int → Bool) (hg:∀ x ∈ l,f x = some (g x)) (hl:l.length ≤ 1048576) (hf:l.length < fu):Qch fu l f = some (l.any g):=by
 unfold Qch
 rw [Q5w f g hg hl hf,Qab,Qth g l 0 (by omega)]
theorem Q9g {fu:Nat} {l:List (List Int)} (f:List Int → Option Bool) (g:List Int → Bool) (hg:∀ x ∈ l,f x = some (g x)) (hl:l.length ≤ 1048576) (hf:l.length < fu):Qdy fu l f = some (Qxg g l 0):=by
 unfold Qdy
 refine Qs0 l (fun n i=>Qbw fu l f n i) g (by omega) ?_ ?_ fu hf
 · intro n i x hx hd
   simp only [Qbw.eq_2]
   unfold Qdw
   simp only [hd,cond_true,hx,Qab,hg x (Qeg hx)]
 · intro n i hd
   simp only [Qbw.eq_2]
   unfold Qdw
   simp only [hd,cond_false]
theorem Jew {fu:Nat} {p:List Pair} (hp:p.length ≤ 1048576) (hfu:2097153 ≤ fu) {l:List Int} (hl:l.length ≤ 4) (hs:l.Pairwise (· < ·)) (hm:∀ c ∈ l,0 ≤ c ∧ c < 4):Qqz fu p l = some (l.foldl (Q5c p) []):=by
 unfold Qqz
 rw [Q0k (by omega) hs,Qab]
 have:=lpI l (fun n out i=>Qep fu p l n out i) (fun xs out=>some (xs.foldl (Q5c p) out)) (fun xs out=>(∃ m,m + xs.length ≤ 4 ∧ okG m out) ∧ ∀ c ∈ xs,0 ≤ c ∧ c < 4) (by omega) ?_ ?_ fu [] ⟨⟨0,by simpa using hl,by simp,by simp⟩,hm⟩ (by omega)
 · exact this
 · intro n out i c xs hx hd hI ih
   obtain ⟨⟨m,hm,ho⟩,hc⟩:=hI
   simp only [List.length_cons] at hm
   have hc0:=hc c (by simp)
   simp only [Qep.eq_2]
   unfold Qnp Qif
   simp only [hd,cond_true,hx,Qab,Q4x]
   rw [show inb c 0 3 = true by simp; omega,Bool.not_true,cond_false]
   rw [Q9g (fun y=>Qob fu y p c) (fun g=>g.all (Q1j p c)) (fun g hg=>by
    have hgl:=ho.2 g hg
    unfold Qob
    rw [Q59 (fun y=>Qkj fu y p c) (fun x=>!Q1j p c x) (fun x _=>by
     unfold Qkj
     rw [Jhc hp (by omega),Qab]) (by omega) (by omega),Qab]
    simp [List.any_eq_not_all_not]) (by have:=ho.1; omega) (by have:=ho.1; omega),Qab]
   rw [Jbz (p:=p) ho (by omega) (fun x=>Qep fu p l n x (w64 (i + 1))) (Qxg (fun g=>g.all (Q1j p c)) out 0) (by
    rw [Q1k]
    cases Qwe (fun g=>g.all (Q1j p c)) out <;> simp)]
   rw [ih _ ⟨⟨m + 1,by omega,Q4o c ho⟩,fun y hy=>hc y (by simp [hy])⟩]
   rfl
 · intro n out i hd hI
   simp only [Qep.eq_2]
   unfold Qnp
   simp only [hd,cond_false]
   rfl
theorem Jgh {fu:Nat} {r:Request} (h:Sm fu r):Qoi fu r = some (Qnr r):=by
 unfold Qoi
 rw [Qvm h,Qab]
 by_cases hc:Qh7 r = 0
 · rw [show (Qh7 r == 0) = true by simp [hc],Bool.not_true,cond_false,Jg5 h,Qab,Jew h.pairs h.fu (Q1v r) (Qtv r) (fun c hc=>Q45 hc),Qab]
   rfl
 · rw [show (Qh7 r == 0) = false by simp [hc],Bool.not_false,cond_true]
   unfold Qnr Qzo
   rw [show (Qh7 r == 0) = false by simp [hc],cond_false]
   rfl
theorem Jd4 (r:Request):w64 (((Qnr r).length:Int) - 1) = ((Qnr r).length:Int) - 1:=by
 have:=(Qt6 r).1
 exact Qa8 (by omega) (by omega)
end Go.Proofs.YthddjkokpfdbnaaGreat
/- Load of units, room for one more, units that may lie beside: by spec and by impl. -/
namespace Go.Proofs.YthddjkokpfdbnaaGreat
open Go
open Enc (rd ow)
open Arg (argv)
open Ret (retv)
open Wf (wf)
theorem Jax (r:Request) (x:Int) (xs:List Int):Qzu r (x :: xs) = Q84 (Qur r x) + Qzu r xs:=by
 unfold Qzu Qw2 Qur
 cases hm:Q1b r x with
 | none=>simp [List.filterMap_cons,hm,Jak]
 | some y=>simp [List.filterMap_cons,hm]
theorem Q5r (r:Request) (x:Int) (xs:List Int):Qvw r (x :: xs) = (Qur r x).fV + Qvw r xs:=by
 unfold Qvw Qw2 Qur
 cases hm:Q1b r x with
 | none=>simp [List.filterMap_cons,hm,Q6i]
 | some y=>simp [List.filterMap_cons,hm]
theorem Q71 {fu:Nat} (r:Request) (us:List Int) (hl:us.length ≤ 1048576) (hf:us.length < fu):Qql fu r (Qil r) us = some ⟨Qzu r us,Qvw r us⟩:=by
 unfold Qql
 have key:=lpI us (fun n s i=>Qgl fu r (Qil r) us n s i) (fun l s=>some (⟨s.fvol + Qzu r l,s.fgram + Qvw r l⟩:L7))
  (fun l s=>0 ≤ s.fvol ∧ s.fvol + 8000000000 * l.length ≤ 8000000000 * 1048576 ∧ 0 ≤ s.fgram ∧ s.fgram + 100000 * l.length ≤ 100000 * 1048576) (by omega) ?_ ?_ fu ⟨0,0⟩ ⟨by simp,by simp; omega,by simp,by simp; omega⟩ hf
 · simpa using key
 · intro n s i x xs hx hd hI ih
   simp only [Qgl.eq_2]
   unfold Qqa Qse Qsf
   simp only [hd,cond_true,hx,Qab,Q5p,Jcf]
   have hv:=Q9m (Qur r x).fW (Qur r x).fH (Qur r x).fD
   have hg:=Q3f r x
   obtain ⟨a1,a2,a3,a4⟩:=hI
   simp only [List.length_cons] at a2 a4
   rw [Qa8 (n:=s.fvol + _) (by omega) (by omega),Qa8 (n:=s.fgram + _) (by omega) (by omega),ih _ ⟨by simp; omega,by simp; omega,by simp; omega,by simp; omega⟩,Jax,Q5r,show Q6n (Qur r x).fW (Qur r x).fH (Qur r x).fD = Q84 (Qur r x) from rfl]
   simp only [Option.some.injEq,L7.mk.injEq]
   constructor <;> omega
 · intro n s i hd _
   simp only [Qgl.eq_2]
   unfold Qqa
   simp only [hd,cond_false]
   simp [Qzu,Qvw,Qw2]
def Q39 (r:Request) (us:List Int) (t:Typ):Bool:=decide (Qzu r us ≤ Jaa t) && decide (Qvw r us ≤ t.fV)
theorem Q5u {fu:Nat} (r:Request) (t:Typ) (us:List Int) (u:Int) (hl:us.length < 1048576) (hf:us.length + 1 < fu):Qou fu r (Qil r) t us u = some (Q39 r (us ++ [u]) t):=by
 unfold Qou Qqj Q39
 rw [ap1 (by simp; omega),Qab,List.nil_append,ap1 (by simp; omega),Qab,Q71 r _ (by simp; omega) (by simp; omega),Qab,Jcf,Qab]
 show (bif decide (Qzu r (us ++ [u]) ≤ Jaa t) then _ else _) = _
 cases decide (Qzu r (us ++ [u]) ≤ Jaa t) <;> simp
theorem Jbh {fu:Nat} {r:Request} (h:Sm fu r) (t:Typ) (us:List Int) (hl:us.length ≤ 1048576):Qri fu r us t = some (Q39 r us t):=by
 have hfu:=h.fu
 unfold Qri Q39
 rw [Jdf h us hl (by omega),Qab,Jff,Qab,Jfl h us hl (by omega)]
 show (bif decide (Qzu r us ≤ Jaa t) then _ else _) = _
 cases decide (Qzu r us ≤ Jaa t) <;> simp
theorem Jb3 {r:Request}:(Qw9 (Qtf r r.fP)).1 = Qx3 r:=rfl
end Go.Proofs.YthddjkokpfdbnaaGreat
/- slices.DeleteFunc at numbers, places. -/
namespace Go.Proofs.YthddjkokpfdbnaaGreat
open Go
open Enc (rd ow)
open Arg (argv)
open Ret (retv)
open Wf (wf)
theorem Jaz {fu:Nat} (n:Nat) (hn:n ≤ 1048576) (hf:n < fu):Qr2 fu (n:Int) = some (Qlq 0 n):=by
 unfold Qr2
 have:=Jbu (n:Int) (fun k out i=>Qg2 fu (n:Int) k out i) (fun xs out=>some (out ++ xs)) (fun xs out=>out.length + xs.length ≤ 1048576) (by omega) ?_ ?_ n fu [] 0 (by omega) (by omega) hf (by simpa [Qfd] using hn)
 · simpa using this
 · intro k out i xs h0 h1 hd hI ih
   simp only [List.length_cons] at hI
   simp only [Qg2.eq_2]
   unfold Qni
   rw [hd,cond_true,ap1 (by simp; omega),Qab,ih _ (by simp; omega)]
   simp
 · intro k out i hd hI
   simp only [Qg2.eq_2]
   unfold Qni
   simp only [hd,cond_false]
   simp
theorem Q8d {α:Type} (g:α → Bool):∀ (l pre:List α),(Qxg g l pre.length = -1 ∧ ∀ x ∈ l,g x = false) ∨ (∃ a x b,l = a ++ x :: b ∧ (∀ y ∈ a,g y = false) ∧ g x = true ∧ Qxg g l pre.length = ((pre.length + a.length:Nat):Int))
 | [],pre=>.inl ⟨rfl,by simp⟩
 | x :: xs,pre=>by
  simp only [Qxg]
  by_cases hx:g x = true
  · rw [hx,cond_true]; exact .inr ⟨[],x,xs,rfl,by simp,hx,by simp⟩
  · have hx':g x = false:=by simpa using hx
    rw [hx',cond_false]
    have:=Q8d g xs (pre ++ [x])
    simp only [List.length_append,List.length_singleton] at this
    rw [show ((pre.length + 1:Nat):Int) = (pre.length:Int) + 1 by omega] at this
    rcases this with ⟨h1,h2⟩ | ⟨a,y,b,h1,h2,h3,h4⟩
    · exact .inl ⟨h1,by simpa [hx'] using h2⟩
    · exact .inr ⟨x :: a,y,b,by simp [h1],by simpa [hx'] using h2,h3,by rw [h4]; simp; omega⟩
theorem Jgb {fu:Nat} {l:List Int} (f:Int → Option Bool) (g:Int → Bool) (hg:∀ x ∈ l,f x = some (g x)) (hl:l.length ≤ 1048576) (hf:l.length < fu):Qd0 fu l f = some (l.filter fun x=>!g x):=by
 unfold Qd0
 rw [Q5w f g hg hl hf,Qab]
 have hp:=Q8d g l []
 simp only [List.length_nil,Nat.zero_add] at hp
 rcases hp with ⟨h1,h2⟩ | ⟨a,x,b,h1,h2,h3,h4⟩
 · have h1':Qxg g l 0 = -1:=h1
   rw [h1',Qcl (by simp)]
   congr 1
   exact (List.filter_eq_self.2 fun y hy=>by simp [h2 y hy]).symm
 · have h4':Qxg g l 0 = (a.length:Int):=h4
   rw [h4',Qbe (by simp)]
   have key:∀ (rest kept mid pre:List Int) (n:Nat),l = pre ++ rest → kept = pre.filter (fun x=>!g x) → mid ≠ [] → kept.length + mid.length = pre.length → rest.length < n →
       Qbh fu f n (kept ++ mid ++ rest) (kept.length:Int) (pre.length:Int) = some (l.filter fun x=>!g x):=by
    intro rest
    induction rest with
    | nil =>
     intro kept mid pre n e1 e2 e3 e4 hn
     obtain ⟨n,rfl⟩:∃ j,n = j + 1:=⟨n - 1,by omega⟩
     rw [Qbh.eq_2]
     unfold Qdv
     simp only [List.append_nil] at *
     subst e1
     rw [Qbe (by simp; omega),Qty ⟨by omega,by simp; omega,by omega⟩,Qab,Qty ⟨by omega,by omega,by simp [Q3y]; omega⟩,Qab]
     rw [← e2]
     simp [Q3y]
    | cons y rest ih =>
     intro kept mid pre n e1 e2 e3 e4 hn
     obtain ⟨n,rfl⟩:∃ j,n = j + 1:=⟨n - 1,by simp at hn; omega⟩
     have hlen:l.length = pre.length + (rest.length + 1):=by rw [e1]; simp
     have hyl:y ∈ l:=by rw [e1]; simp
     obtain ⟨m,ms,rfl⟩:∃ m ms,mid = m :: ms:=by
      cases mid with
      | nil=>exact absurd rfl e3
      | cons m ms=>exact ⟨m,ms,rfl⟩
     simp only [List.length_cons] at e4 hn
     have hx:ix (kept ++ (m :: ms) ++ y :: rest) (pre.length:Int) = some y:=by
      rw [Qq8,List.getElem?_append_right (by simp; omega)]
      simp only [List.length_append,List.length_cons]
      rw [show pre.length - (kept.length + (ms.length + 1)) = 0 by omega]; rfl
     have hk:ix (kept ++ (m :: ms) ++ y :: rest) (kept.length:Int) = some m:=by
      rw [Qq8]; simp
     rw [Qbh.eq_2]
     unfold Qdv Qc3
     rw [Qcl (by simp; omega),hx,Qab,hg y hyl,Qab]
     cases hgy:g y
     · rw [Bool.not_false,cond_true,hk,Qab,Qxy _ (by omega),Qxy _ (by omega)]
       have e5:Qhx (kept ++ (m :: ms) ++ y :: rest) (kept.length:Int) y = (kept ++ [y]) ++ (ms ++ [y]) ++ rest:=by simp [Qhx]
       rw [e5]
       have:=ih (kept ++ [y]) (ms ++ [y]) (pre ++ [y]) n (by simp [e1]) (by rw [e2,List.filter_append]; simp [hgy]) (by simp) (by simp; omega) (by omega)
       simp only [List.length_append,List.length_singleton] at this
       exact this
     · rw [Bool.not_true,cond_false,Qxy _ (by omega)]
       have:=ih kept ((m :: ms) ++ [y]) (pre ++ [y]) n (by simp [e1]) (by rw [e2,List.filter_append]; simp [hgy]) (by simp) (by simp; omega) (by omega)
       simp only [List.length_append,List.length_singleton] at this
       rw [show kept ++ (m :: ms) ++ y :: rest = kept ++ ((m :: ms) ++ [y]) ++ rest by simp]
       exact this
   have hlen:l.length = a.length + (b.length + 1):=by rw [h1]; simp
   have ha:a.filter (fun x=>!g x) = a:=List.filter_eq_self.2 fun y hy=>by simp [h2 y hy]
   have:=key b a [x] (a ++ [x]) fu (by simp [h1]) (by rw [List.filter_append,ha]; simp [h3]) (by simp) (by simp) (by omega)
   rw [Qxy _ (by omega)]
   simp only [List.length_append,List.length_singleton] at this
   rw [show a ++ [x] ++ b = l by simp [h1]] at this
   exact this
end Go.Proofs.YthddjkokpfdbnaaGreat
/- A bit, by spec. -/
namespace Go.Proofs.YthddjkokpfdbnaaGreat
open Go
open Enc (rd ow)
open Arg (argv)
open Ret (retv)
open Wf (wf)
theorem Jgi (fu:Nat) (b:Bool):Qtk fu b = some (Jee b):=by cases b <;> rfl
end Go.Proofs.YthddjkokpfdbnaaGreat
/- How often a number stands in a list, by spec. -/
namespace Go.Proofs.YthddjkokpfdbnaaGreat
open Go
open Enc (rd ow)
open Arg (argv)
open Ret (retv)
open Wf (wf)
theorem Jgy {fu:Nat} {l:List Int} (hl:l.length ≤ 1048576) (hf:l.length < fu) (x:Int):Qpl fu l x = some (Jd2 (fun y=>y == x) l):=by
 unfold Qpl
 have:=lpI l (fun n s i=>Qgf fu l x n s i) (fun l n=>some (n + Jd2 (fun y=>y == x) l)) (fun l n=>0 ≤ n ∧ n + l.length ≤ 1048576) (by omega) ?_ ?_ fu 0 ⟨by omega,by omega⟩ hf
 · simpa using this
 · intro n s i y ys hy hd hI ih
   have h2:=hI.2
   simp only [List.length_cons] at h2
   have hb:=Jdm (y == x)
   simp only [Qgf.eq_2]
   unfold Qls
   simp only [hd,cond_true,hy,Qab,Jgi]
   rw [Qa8 (by omega) (by omega),ih _ ⟨by omega,by omega⟩]
   simp only [Jd2]
   congr 1
   omega
 · intro n s i hd hI
   simp only [Qgf.eq_2]
   unfold Qls
   simp only [hd,cond_false,Jd2]
   simp
theorem Q72 (l:List Int) (x:Int):Jd2 (fun y=>y == x) l = (l.count x:Int):=by
 induction l with
 | nil=>rfl
 | cons y l ih =>
  unfold Jd2 Jee
  rw [ih,List.count_cons]
  cases hy:y == x <;> simp [hy] <;> omega
end Go.Proofs.YthddjkokpfdbnaaGreat
/- Lists of lists of numbers in the laws: their size, copies. -/
namespace Go.Proofs.YthddjkokpfdbnaaGreat
open Go
open Enc (rd ow)
open Arg (argv)
open Ret (retv)
open Wf (wf)
end Go.Proofs.YthddjkokpfdbnaaGreat
/- IsPacking of spec and of impl. -/
namespace Go.Proofs.YthddjkokpfdbnaaGreat
open Go
open Enc (rd ow)
open Arg (argv)
open Ret (retv)
open Wf (wf)
def Qwb (r:Request) (us:List Int):List Int:=us.filter fun u=>inb u 0 (((Qil r).length:Int) - 1)
def Jf5 (a b:List Int):Bool:=decide ((a.mergeSort fun x y=>decide (x ≤ y)) = b.mergeSort fun x y=>decide (x ≤ y))
theorem Ja9 {a b:List Int}:Jf5 a b = true ↔ a.Perm b:=by
 unfold Jf5
 rw [decide_eq_true_iff]
 constructor
 · intro h
   have h1:=List.mergeSort_perm a fun x y=>decide (x ≤ y)
   rw [h] at h1
   exact h1.symm.trans (List.mergeSort_perm b _)
 · intro h
   exact Q9b (((List.mergeSort_perm a _).trans h).trans (List.mergeSort_perm b _).symm) (Qsm a) (Qsm b)
theorem Q5j:∀ (a b:List Int),a.length = b.length → (∀ x ∈ a,a.count x = b.count x) → a.Perm b
 | [],b,h,_=>by
  have:b = []:=List.eq_nil_of_length_eq_zero h.symm
  subst this
  exact List.Perm.refl _
 | x :: a,b,h,hc=>by
  have hx:=hc x (by simp)
  rw [List.count_cons_self] at hx
  have hm:x ∈ b:=List.count_pos_iff.1 (by omega)
  have hp:=List.perm_cons_erase hm
  refine List.Perm.trans (List.Perm.cons x (Q5j a (b.erase x) ?_ ?_)) hp.symm
  · have:=hp.length_eq
    simp only [List.length_cons] at this h
    omega
  · intro y hy
    have h1:=hc y (by simp [hy])
    have h2:=hp.count_eq y
    rw [List.count_cons] at h1 h2
    omega
theorem Jc6 {fu:Nat} {r:Request} (h:Sm fu r) (us:List Int) (hl:us.length ≤ 1048576):Qpk fu r us = some (Qwb r us):=by
 have hfu:=h.fu
 unfold Qpk Qcq Qwb
 rw [Jcs h,Qab,ap1 (by simp; omega),Qab,Qab,List.nil_append,Jgb _ (fun u=>!inb u 0 (((Qil r).length:Int) - 1)) ?_ hl (by omega),Qab]
 · simp
 · intro u _
   unfold Qqe
   rw [Q2c,Q4x,Qab]
theorem Q7x {fu:Nat} {r:Request} (h:Sm fu r) (us:List Int) (hl:us.length ≤ 1048576):Qmk fu (Qil r) us = some (Qwb r us):=by
 have hfu:=h.fu
 unfold Qmk Qwb
 have:=lpI us (fun n out i=>Qe5 fu (Qil r) us n out i) (fun xs out=>some (out ++ xs.filter fun u=>inb u 0 (((Qil r).length:Int) - 1))) (fun xs out=>out.length + xs.length ≤ 1048576) (by omega) ?_ ?_ fu [] (by simpa using hl) (by omega)
 · simpa using this
 · intro n out i x xs hx hd hI ih
   simp only [List.length_cons] at hI
   simp only [Qe5.eq_2]
   unfold Qlj Qju
   rw [hd,cond_true,hx,Qab,Q2c,Q1a,Qab,Qab,List.filter_cons]
   cases hb:inb x 0 (((Qil r).length:Int) - 1)
   · rw [cond_false,ih _ (by omega)]; simp
   · rw [cond_true,ap1 (by simp; omega),Qab,ih _ (by simp; omega)]; simp
 · intro n out i hd hI
   simp only [Qe5.eq_2]
   unfold Qlj
   simp only [hd,cond_false]
   simp
theorem Q7h:∀ (a b:List Int),a.length = b.length → ((a.zip b).all fun p=>p.1 == p.2) = decide (a = b)
 | [],[],_=>rfl
 | [],_ :: _,h=>by simp at h
 | _ :: _,[],h=>by simp at h
 | x :: a,y :: b,h=>by
  rw [List.zip_cons_cons,List.all_cons,Q7h a b (by simpa using h)]
  by_cases hx:x = y <;> simp [hx]
theorem Jdn {fu:Nat} (a b:List Int) (hl:a.length ≤ 1048576) (hf:a.length < fu):Qf8 fu a b = some (decide (a = b)):=by
 unfold Qf8
 by_cases h:a.length = b.length
 · rw [Qbe (by simp [h])]
   have hz:(a.zip b).length = a.length:=by rw [List.length_zip]; omega
   have:=lp (a.zip b) (fun n (_:Unit) i=>Qco fu a b n i) (fun l _=>some (l.all fun p=>p.1 == p.2)) (by omega) ?_ ?_ fu () (by omega)
   · rw [Q7h a b h] at this
     exact this
   · intro n _ i p xs hp hd ih
     obtain ⟨h1,_,h2⟩:=Qar hp
     rw [List.getElem?_zip_eq_some] at h2
     rw [hz] at hd
     have e1:ix a i = some p.1:=by unfold ix; rw [if_pos h1]; exact h2.1
     have e2:ix b i = some p.2:=by unfold ix; rw [if_pos h1]; exact h2.2
     simp only [Qco.eq_2]
     unfold Qfh
     rw [hd,cond_true,e1,Qab,e2,Qab,ih (),List.all_cons]
     by_cases hx:p.1 = p.2
     · rw [Qbe (by simp [hx])]; simp [hx]
     · rw [Qcl (by simpa using hx)]; simp [hx]
   · intro n _ i hd
     rw [hz] at hd
     simp only [Qco.eq_2]
     unfold Qfh
     simp [hd]
 · rw [Qcl (by simp; omega)]
   have:a ≠ b:=fun e=>h (by rw [e])
   simp [this]
theorem Q6q {xs:List Int} (h:xs.length ≤ 1048576):Q2m xs = some (xs.mergeSort fun x y=>decide (x ≤ y)):=by
 unfold Q2m
 rw [if_pos (by omega)]
theorem Q1e (r:Request) (us:List Int):(Qwb r us).length ≤ us.length:=List.length_filter_le _ _
end Go.Proofs.YthddjkokpfdbnaaGreat
/- IsRival of spec and of impl. -/
namespace Go.Proofs.YthddjkokpfdbnaaGreat
open Go
open Enc (rd ow)
open Arg (argv)
open Ret (retv)
open Wf (wf)
theorem Qym {r:Request} {us:List Int} {u:Int} (h:u ∈ Qwb r us):0 ≤ u ∧ u < (Qil r).length:=by
 unfold Qwb at h
 have:=(List.mem_filter.1 h).2
 rw [Qc7] at this
 omega
theorem Qvj {r:Request} {u:Int} (h:0 ≤ u ∧ u < (Qil r).length):Q1b r u = some (Qur r u):=by
 obtain ⟨_,x,_,_,hx⟩:=Q4a h
 unfold Qur
 rw [hx]; rfl
theorem Q1h {r:Request}:∀ {l:List Int},(∀ u ∈ l,0 ≤ u ∧ u < (Qil r).length) → Qw2 r l = l.map (Qur r)
 | [],_=>rfl
 | u :: l,h=>by
  have ih:=Q1h (r:=r) (l:=l) fun v hv=>h v (by simp [hv])
  unfold Qw2 at ih ⊢
  rw [List.filterMap_cons,Qvj (h u (by simp)),ih,List.map_cons]
end Go.Proofs.YthddjkokpfdbnaaGreat
/- Holds and Cheapest, by spec and by impl. -/
namespace Go.Proofs.YthddjkokpfdbnaaGreat
open Go
open Enc (rd ow)
open Arg (argv)
open Ret (retv)
open Wf (wf)
theorem Q17 {α:Type} {p q:α → Bool}:∀ {l:List α},(∀ x ∈ l,p x = q x) → l.all p = l.all q
 | [],_=>rfl
 | x :: xs,h=>by rw [List.all_cons,List.all_cons,h x (by simp),Q17 fun y hy=>h y (by simp [hy])]
def uOk (r:Request) (t:Typ) (u:Int):Bool:=(Q1b r u).isSome && Q0l (Qur r u) t
def Qzq (r:Request) (us:List Int) (t:Typ):Bool:=Qh7 r == 0 && (us.all (uOk r t) && Q39 r us t)
theorem Qwg {r:Request} {u:Int}:(Q1b r u).isSome = true ↔ 0 ≤ u ∧ u < (Qil r).length:=by
 constructor
 · intro h
   apply Decidable.byContradiction
   intro hn
   rw [Q2n hn] at h
   cases h
 · intro h
   rw [Qvj h]; rfl
theorem Q8v {fu:Nat} {r:Request} (h:Sm fu r) (us:List Int) (t:Typ) (hl:us.length ≤ 1048576):Qqo fu r us t = some (Qzq r us t):=by
 have hfu:=h.fu
 have hil:=Qvu r us
 unfold Qqo Qzq
 rw [Qvm h,Qab]
 cases hc:Qh7 r == 0
 · rfl
 · rw [Bool.not_true,cond_false,Jc6 h us hl,Qab,Bool.true_and]
   by_cases ha:∀ u ∈ us,0 ≤ u ∧ u < (Qil r).length
   · have e:Qwb r us = us:=List.filter_eq_self.2 fun u hu=>by have:=ha u hu; simp; omega
     have e0:((us.length:Int) != (us.length:Int)) = false:=by simp
     rw [e,e0,cond_false]
     unfold Qrq
     rw [Q1w h us hl (by omega),Qab,Qv2 _ (fun x=>!Q0l x t) ?_ (by omega) (by omega),Qab]
     · rw [Jbh h t us hl,Qab,Q1h ha,List.any_map]
       have e1:us.all (uOk r t) = !(us.any ((fun x=>!Q0l x t) ∘ Qur r)):=by
        rw [List.not_any_eq_all_not]
        apply Q17
        intro u hu
        simp only [uOk,Qwg.2 (ha u hu),Bool.true_and,Function.comp,Bool.not_not]
       rw [e1]
       cases us.any ((fun x=>!Q0l x t) ∘ Qur r) <;> simp
     · intro x _
       unfold Qsb
       rw [Jfk,Qab]
   · have hlt:(Qwb r us).length < us.length:=by
       apply Decidable.byContradiction
       intro hn
       apply ha
       have e:(us.filter fun u=>inb u 0 (((Qil r).length:Int) - 1)).length = us.length:=by
        have:=List.length_filter_le (fun u=>inb u 0 (((Qil r).length:Int) - 1)) us
        have e':Qwb r us = us.filter fun u=>inb u 0 (((Qil r).length:Int) - 1):=rfl
        rw [e'] at hn
        omega
       intro u hu
       have:=List.length_filter_eq_length_iff.1 e u hu
       simp at this
       omega
     have e0:(((Qwb r us).length:Int) != (us.length:Int)) = true:=by simp; omega
     rw [e0,cond_true]
     have e1:us.all (uOk r t) = false:=by
      apply Bool.eq_false_iff.2
      intro he
      apply ha
      intro u hu
      have:=List.all_eq_true.1 he u hu
      simp only [uOk,Bool.and_eq_true] at this
      exact Qwg.1 this.1
     rw [e1,Bool.false_and]
theorem Q9w {fu:Nat} {r:Request} (h:Sm fu r) (us:List Int) (t:Typ) (hl:us.length ≤ 1048576):Qqv fu r us t = some (Qzq r us t):=by
 have hfu:=h.fu
 unfold Qqv Qzq
 rw [Q0h h,Qab]
 cases hc:Qh7 r == 0
 · have:(Qh7 r != 0) = true:=by simp only [bne,hc]; rfl
   rw [this]; rfl
 · have:(Qh7 r != 0) = false:=by simp only [bne,hc]; rfl
   have hz:Qh7 r = 0:=by simpa using hc
   have hu:Qcf fu r = some (Qil r):=Jc1 h hz
   rw [this,cond_false,hu,Qab,Bool.true_and]
   have key:=lp us (fun n (_:Unit) i=>Qfo fu r us t (Qil r) n i) (fun l _=>some (l.all (uOk r t) && Q39 r us t)) (by omega) ?_ ?_ fu () (by omega)
   · exact key
   · intro n _ i x xs hx hd ih
     simp only [Qfo.eq_2]
     unfold Qov Qrf Qrc
     simp only [hd,cond_true,hx,Qab,Q5p,ih (),List.all_cons,uOk]
     cases (Q1b r x).isSome
     · rfl
     · simp only [Bool.not_true,cond_false,Jdi (show 2097153 ≤ fu by omega),Qab]
       cases Q0l (Qur r x) t <;> rfl
   · intro n _ i hd
     simp only [Qfo.eq_2]
     unfold Qov Qrk
     simp only [hd,cond_false,Q71 r us hl (show us.length < fu by omega),Qab,Jcf]
     show (bif decide (Qzu r us ≤ Jaa t) then _ else _) = _
     unfold Q39
     cases decide (Qzu r us ≤ Jaa t) <;> simp
def chp (r:Request) (us:List Int) (s:Typ × Bool) (t:Typ):Typ × Bool :=
 bif Qzq r us t && (!s.2 || (decide (t.fK < s.1.fK) || (t.fK == s.1.fK && decide (t.f8 < s.1.f8)))) then (t,true) else s
def Qxe (r:Request) (us:List Int):Typ × Bool:=r.fT.foldl (chp r us) (Jfc,false)
theorem Jdx {fu:Nat} {r:Request} (h:Sm fu r) (us:List Int) (hl:us.length ≤ 1048576):Qn0 fu r us = some (Qxe r us):=by
 have hfu:=h.fu
 have ht:=h.types
 unfold Qn0
 have key:=lp r.fT (fun n (s:Typ × Bool) i=>Qei fu r us n s.1 s.2 i) (fun l s=>some (l.foldl (chp r us) s)) (by omega) ?_ ?_ fu (Jfc,false) (by omega)
 · exact key
 · intro n s i x xs hx hd ih
   simp only [Qei.eq_2]
   unfold Qjq Qdn
   have ih':=fun a b=>ih (a,b)
   simp only at ih'
   obtain ⟨b,f⟩:=s
   simp only [hd,cond_true,hx,Qab,Q8v h us x hl,ih',List.foldl_cons,chp]
   cases Qzq r us x <;> cases f <;> cases decide (x.fK < b.fK) <;> cases x.fK == b.fK <;> cases decide (x.f8 < b.f8) <;> rfl
 · intro n s i hd
   simp only [Qei.eq_2]
   unfold Qjq
   simp only [hd,cond_false]
   rfl
theorem Q8n {fu:Nat} {r:Request} (h:Sm fu r) (us:List Int) (hl:us.length ≤ 1048576):Qj2 fu r us = some (Qxe r us):=by
 have hfu:=h.fu
 have ht:=h.types
 unfold Qj2
 have key:=lp r.fT (fun n (s:Typ × Bool) i=>Qek fu r us n s.1 s.2 i) (fun l s=>some (l.foldl (chp r us) s)) (by omega) ?_ ?_ fu (Jfc,false) (by omega)
 · exact key
 · intro n s i x xs hx hd ih
   simp only [Qek.eq_2]
   unfold Qjk Qdr
   have ih':=fun a b=>ih (a,b)
   simp only at ih'
   obtain ⟨b,f⟩:=s
   simp only [hd,cond_true,hx,Qab,Q9w h us x hl,ih',List.foldl_cons,chp]
   cases Qzq r us x <;> cases f <;> cases decide (x.fK < b.fK) <;> cases x.fK == b.fK <;> cases decide (x.f8 < b.f8) <;> rfl
 · intro n s i hd
   simp only [Qek.eq_2]
   unfold Qjk
   simp only [hd,cond_false]
   rfl
end Go.Proofs.YthddjkokpfdbnaaGreat
/- spec's TypeById. -/
namespace Go.Proofs.YthddjkokpfdbnaaGreat
open Go
open Enc (rd ow)
open Arg (argv)
open Ret (retv)
open Wf (wf)
theorem Qyy {fu:Nat} {r:Request} (h:Sm fu r) (id:Int):Qh1 fu r id = some (Qw9 (Qtf r id)):=by
 have hfu:=h.fu
 have ht:=h.types
 unfold Qh1 Qtf
 refine lp r.fT (fun n (_:Unit) i=>Qfn fu r id n i) (fun l _=>some (Qw9 (l.find? fun t=>t.f8 == id))) (by omega) ?_ ?_ fu () (by omega)
 · intro n s i x xs hx hd ih
   simp only [Qfn.eq_2]
   unfold Qjh
   simp only [hd,cond_true,hx,Qab,ih (),List.find?_cons]
   cases x.f8 == id <;> rfl
 · intro n s i hd
   simp only [Qfn.eq_2]
   unfold Qjh
   simp only [hd,cond_false]
   rfl
end Go.Proofs.YthddjkokpfdbnaaGreat
/- Gross and BoxOf, by spec and by impl. -/
namespace Go.Proofs.YthddjkokpfdbnaaGreat
open Go
open Enc (rd ow)
open Arg (argv)
open Ret (retv)
open Wf (wf)
def Jil:Box:=⟨0,0,0,0⟩
def Q6x (r:Request) (x:Carton):Int:=match Qtf r x.fO with
 | some t=>bif Qh7 r == 0 then t.f7 + Qvw r x.fM else 0
 | none=>0
def Qjb (r:Request) (x:Carton):Box:=match Qtf r x.fO with
 | some t=>bif Qh7 r == 0 then ⟨t.fW,t.fD,t.fH,t.f7 + Qvw r x.fM⟩ else Jil
 | none=>Jil
theorem Jfp {r:Request} (hc:Qh7 r = 0) {id:Int} {t:Typ} (ht:Qtf r id = some t):Q1q t = true ∧ t ∈ r.fT ∧ t.f8 = id:=by
 have hm:=List.mem_of_find?_eq_some ht
 have hp:=List.find?_some ht
 exact ⟨Qys (Qfb hc).1 t hm,hm,by simpa using hp⟩
theorem Q7z {r:Request} (hc:Qh7 r = 0) {id:Int} {t:Typ} (ht:Qtf r id = some t):0 ≤ t.f7 ∧ t.f7 ≤ 100000:=by
 have:=(Jfp hc ht).1
 simp only [Q1q,Bool.and_eq_true,Qc7] at this
 omega
theorem Q52 {r:Request} (hc:Qh7 r = 0) {id:Int} {t:Typ} (ht:Qtf r id = some t) (us:List Int) (hl:us.length ≤ 1048576):w64 (t.f7 + Qvw r us) = t.f7 + Qvw r us:=by
 have h1:=Q7z hc ht
 have h2:=Q4c r us
 exact Qa8 (by omega) (by omega)
theorem Q8q {fu:Nat} {r:Request} (h:Sm fu r) (x:Carton) (hl:x.fM.length ≤ 1048576):Qqt fu r x = some (Q6x r x):=by
 have hfu:=h.fu
 unfold Qqt Q6x
 rw [Qv3 h,Qab,Q04]
 cases ht:Qtf r x.fO with
 | none=>rfl
 | some t =>
  rw [Qvm h]
  simp only [Option.isSome_some,Bool.not_true,cond_false,Qab]
  cases hc:Qh7 r == 0
  · rfl
  · have hc':Qh7 r = 0:=by simpa using hc
    unfold Qq5
    rw [Jfl h _ hl (by omega)]
    simp only [Bool.not_true,cond_false,cond_true,Qab,Qw9,Q52 hc' ht _ hl]
theorem Q67 {fu:Nat} {r:Request} (h:Sm fu r) (x:Carton) (hl:x.fM.length ≤ 1048576):Qqu fu r x = some (Q6x r x):=by
 have hfu:=h.fu
 unfold Qqu Q6x
 rw [Qyy h,Qab,Q04,Q0h h,Qab]
 cases hc:Qh7 r == 0
 · have:(Qh7 r != 0) = true:=by simp only [bne,hc]; rfl
   rw [this]
   cases Qtf r x.fO <;> rfl
 · have hc':Qh7 r = 0:=by simpa using hc
   rw [show (Qh7 r != 0) = false by simp [hc'],cond_false]
   cases ht:Qtf r x.fO with
   | none=>rfl
   | some t =>
    unfold Qra
    rw [Jgq h _ hl (by omega)]
    simp only [Option.isSome_some,Bool.not_true,cond_false,cond_true,Qab,Qw9,Q52 hc' ht _ hl]
theorem Jcd {fu:Nat} {r:Request} (h:Sm fu r) (x:Carton) (hl:x.fM.length ≤ 1048576):Qqs fu r x = some (Qjb r x):=by
 unfold Qqs Qjb
 rw [Qv3 h,Qab,Q04]
 cases ht:Qtf r x.fO with
 | none=>rfl
 | some t =>
  rw [Qvm h]
  simp only [Option.isSome_some,Bool.not_true,cond_false,Qab]
  cases hc:Qh7 r == 0
  · rfl
  · unfold Qro
    rw [Q8q h x hl]
    simp only [Q6x,ht,hc,Bool.not_true,cond_false,cond_true,Qab,Qw9]
theorem Q09 {fu:Nat} {r:Request} (h:Sm fu r) (x:Carton) (hl:x.fM.length ≤ 1048576):Qhe fu r x = some (Qjb r x):=by
 unfold Qhe Qjb
 rw [Qyy h,Qab,Q04,Q0h h,Qab]
 cases hc:Qh7 r == 0
 · have:(Qh7 r != 0) = true:=by simp only [bne,hc]; rfl
   rw [this]
   cases Qtf r x.fO <;> rfl
 · have hc':Qh7 r = 0:=by simpa using hc
   rw [show (Qh7 r != 0) = false by simp [hc'],cond_false]
   cases ht:Qtf r x.fO with
   | none=>rfl
   | some t =>
    unfold Qrj
    rw [Q67 h x hl]
    simp only [Q6x,ht,hc,Option.isSome_some,Bool.not_true,cond_false,cond_true,Qab,Qw9]
end Go.Proofs.YthddjkokpfdbnaaGreat
/- OnPallet and PalletGram, by spec and by impl. -/
namespace Go.Proofs.YthddjkokpfdbnaaGreat
open Go
open Enc (rd ow)
open Arg (argv)
open Ret (retv)
open Wf (wf)
def onL (k:Int):Int → List Spot → List Int
 | _,[]=>[]
 | i,s :: l=>bif s.fQ == k then i :: onL k (i + 1) l else onL k (i + 1) l
def onM (x:Plan) (k:Int):List Int:=bif x.fU.length == x.fJ.length then onL k 0 x.fU else []
theorem Q9n (k:Int):∀ (l:List Spot) (a i:Int),i ∈ onL k a l ↔ ∃ (j:Nat) (s:Spot),l[j]? = some s ∧ i = a + j ∧ s.fQ = k
 | [],a,i=>by simp [onL]
 | s :: l,a,i=>by
  have ih:=Q9n k l (a + 1) i
  constructor
  · intro h
    unfold onL at h
    cases hk:s.fQ == k
    · rw [hk,cond_false] at h
      obtain ⟨j,t,h1,h2,h3⟩:=ih.1 h
      exact ⟨j + 1,t,by simpa using h1,by omega,h3⟩
    · rw [hk,cond_true,List.mem_cons] at h
      rcases h with rfl | h
      · exact ⟨0,s,rfl,by omega,by simpa using hk⟩
      · obtain ⟨j,t,h1,h2,h3⟩:=ih.1 h
        exact ⟨j + 1,t,by simpa using h1,by omega,h3⟩
  · rintro ⟨j,t,h1,h2,h3⟩
    unfold onL
    cases j with
    | zero =>
     simp only [List.getElem?_cons_zero,Option.some.injEq] at h1
     subst h1
     rw [show (s.fQ == k) = true by simpa using h3,cond_true]
     simp; omega
    | succ j =>
     have:i ∈ onL k (a + 1) l:=ih.2 ⟨j,t,by simpa using h1,by omega,h3⟩
     cases s.fQ == k <;> simp [this]
theorem Q7v (k:Int):∀ (l:List Spot) (a:Int),(onL k a l).length ≤ l.length
 | [],_=>Nat.le_refl _
 | s :: l,a=>by
  have:=Q7v k l (a + 1)
  unfold onL
  cases s.fQ == k <;> simp <;> omega
theorem Q2a (x:Plan) (k:Int):(onM x k).length ≤ x.fU.length:=by
 unfold onM
 cases x.fU.length == x.fJ.length
 · simp
 · exact Q7v k _ 0
theorem Qzd {x:Plan} {k i:Int} (h:i ∈ onM x k):∃ c s,ix x.fJ i = some c ∧ ix x.fU i = some s ∧ s.fQ = k:=by
 unfold onM at h
 cases he:x.fU.length == x.fJ.length
 · rw [he] at h; simp at h
 · rw [he,cond_true] at h
   obtain ⟨j,s,h1,h2,h3⟩:=(Q9n k _ 0 i).1 h
   have hj:=(List.getElem?_eq_some_iff.1 h1).1
   have hl:x.fU.length = x.fJ.length:=by simpa using he
   have e:i = (j:Int):=by omega
   subst e
   exact ⟨_,s,Q0x (by omega),Jfh h1,h3⟩
theorem Jh9 {fu:Nat} {x:Plan} (hl:x.fU.length ≤ 1048576) (hf:x.fU.length < fu) (k:Int):Qj5 fu x k = some (onM x k):=by
 unfold Qj5 onM
 cases he:x.fU.length == x.fJ.length
 · have:((x.fU.length:Int) != (x.fJ.length:Int)) = true:=by simp at he ⊢; omega
   rw [this]; rfl
 · have:((x.fU.length:Int) != (x.fJ.length:Int)) = false:=by simp at he ⊢; omega
   rw [this,cond_false,cond_true]
   have key:=Jdk x.fU (fun n (o:List Int) i=>Qel fu x k n o i) (fun pre xs o=>some (o ++ onL k pre.length xs)) (fun pre xs o=>o.length + xs.length ≤ 1048576) (by omega) ?_ ?_ fu [] (by simp; omega) hf
   · simpa using key
   · intro n o pre s xs e hx hd hI ih
     simp only [List.length_cons] at hI
     simp only [Qel.eq_2]
     unfold Qjg Qin onL
     rw [hd,cond_true,hx,Qab]
     cases s.fQ == k
     · rw [cond_false,cond_false,ih _ (by omega)]; simp
     · rw [cond_true,cond_true,ap1 (by simp; omega),Qab,ih _ (by simp; omega)]; simp
   · intro n o hd _
     simp only [Qel.eq_2]
     unfold Qjg
     rw [hd,cond_false]; simp [onL]
theorem Jid {fu:Nat} {x:Plan} (hl:x.fU.length ≤ 1048576) (hc:x.fJ.length ≤ 1048576) (hf:x.fU.length < fu) (hf':x.fJ.length < fu) (k:Int):Qj6 fu x k = some (onM x k):=by
 unfold Qj6 onM
 cases he:x.fU.length == x.fJ.length
 · have e:((x.fJ.length:Int) == (x.fU.length:Int)) = false:=by simp at he ⊢; omega
   obtain ⟨m,rfl⟩:∃ m,fu = m + 1:=⟨fu - 1,by omega⟩
   rw [Qcx.eq_2]
   unfold Qg3
   rw [e]
   cases decide ((0:Int) < (x.fJ.length:Int)) <;> rfl
 · have el:x.fU.length = x.fJ.length:=by simpa using he
   have e:((x.fJ.length:Int) == (x.fU.length:Int)) = true:=by simp; omega
   rw [cond_true]
   have key:=Jdk x.fU (fun n (o:List Int) i=>Qcx fu x k n o i) (fun pre xs o=>some (o ++ onL k pre.length xs)) (fun pre xs o=>o.length + xs.length ≤ 1048576) (by omega) ?_ ?_ fu [] (by simp; omega) hf
   · simpa using key
   · intro n o pre s xs e1 hx hd hI ih
     simp only [List.length_cons] at hI
     simp only [Qcx.eq_2]
     unfold Qg3 Qmx Qix onL
     rw [el] at hd
     rw [hd,cond_true,e,cond_true,hx,Qab]
     cases s.fQ == k
     · rw [cond_false,cond_false,ih _ (by omega)]; simp
     · rw [cond_true,cond_true,ap1 (by simp; omega),Qab,ih _ (by simp; omega)]; simp
   · intro n o hd _
     simp only [Qcx.eq_2]
     unfold Qg3
     rw [← el,hd,cond_false]; simp [onL]
def Jiq:Carton:=⟨0,0,[]⟩
def Qzr (x:Plan) (i:Int):Carton:=(ix x.fJ i).getD Jiq
def pgM (r:Request) (x:Plan) (k:Int):Int:=Qwd ((onM x k).map fun i=>Q6x r (Qzr x i))
theorem Jb8 (r:Request) (c:Carton) (hl:c.fM.length ≤ 1048576):0 ≤ Q6x r c ∧ Q6x r c ≤ 104857700000:=by
 unfold Q6x
 cases ht:Qtf r c.fO with
 | none=>simp
 | some t =>
  cases hc:Qh7 r == 0
  · simp
  · have h1:=Q7z (by simpa using hc) ht
    have h2:=Q4c r c.fM
    simp only [cond_true]
    omega
theorem Jip {fu:Nat} {r:Request} (h:Sm fu r) {x:Plan} (hx:Sp x) (k:Int):Qkg fu r x k = some (pgM r x k):=by
 have hfu:=h.fu
 have h1:=hx.spots
 have h2:=Q2a x k
 unfold Qkg pgM
 rw [Jh9 h1 (by omega),Qab]
 have key:=lpI (onM x k) (fun n (s:Int) i=>Qef fu r x (onM x k) n s i) (fun l s=>some (s + Qwd (l.map fun i=>Q6x r (Qzr x i)))) (fun l s=>0 ≤ s ∧ s + 104857700000 * l.length ≤ 104857700000 * 1048576 ∧ ∀ i ∈ l,∃ c,ix x.fJ i = some c) (by omega) ?_ ?_ fu 0 ⟨by omega,by omega,fun i hi=>?_⟩ (by omega)
 · simpa using key
 · intro n s i j xs hj hd hI ih
   obtain ⟨c,hc⟩:=hI.2.2 j (by simp)
   have hcu:=hx.units c (Qeg hc)
   have hg:=Jb8 r c hcu
   have hI2:=hI.2.1
   simp only [List.length_cons] at hI2
   simp only [Qef.eq_2]
   unfold Qh4
   rw [hd,cond_true,hj,Qab,hc,Qab,Q8q h c hcu,Qab,Qa8 (by omega) (by omega),ih _ ⟨by omega,by omega,fun i hi=>hI.2.2 i (by simp [hi])⟩]
   simp only [List.map_cons,Qp0,Qzr,hc,Option.getD_some]
   congr 1
   omega
 · intro n s i hd _
   simp only [Qef.eq_2]
   unfold Qh4
   rw [hd,cond_false]; simp
 · obtain ⟨c,_,hc,_⟩:=Qzd hi
   exact ⟨c,hc⟩
theorem Jis {fu:Nat} {r:Request} (h:Sm fu r) {x:Plan} (hx:Sp x) (k:Int):Qke fu r x k = some (pgM r x k):=by
 have hfu:=h.fu
 have h1:=hx.spots
 have h0:=hx.cars
 have h2:=Q2a x k
 unfold Qke pgM
 rw [Jid h1 h0 (by omega) (by omega),Qab]
 have key:=lpI (onM x k) (fun n (s:Int) i=>Qed fu r x (onM x k) n s i) (fun l s=>some (s + Qwd (l.map fun i=>Q6x r (Qzr x i)))) (fun l s=>0 ≤ s ∧ s + 104857700000 * l.length ≤ 104857700000 * 1048576 ∧ ∀ i ∈ l,∃ c,ix x.fJ i = some c) (by omega) ?_ ?_ fu 0 ⟨by omega,by omega,fun i hi=>?_⟩ (by omega)
 · simpa using key
 · intro n s i j xs hj hd hI ih
   obtain ⟨c,hc⟩:=hI.2.2 j (by simp)
   have hcu:=hx.units c (Qeg hc)
   have hg:=Jb8 r c hcu
   have hI2:=hI.2.1
   simp only [List.length_cons] at hI2
   simp only [Qed.eq_2]
   unfold Qh8
   rw [hd,cond_true,hj,Qab,hc,Qab,Q67 h c hcu,Qab,Qa8 (by omega) (by omega),ih _ ⟨by omega,by omega,fun i hi=>hI.2.2 i (by simp [hi])⟩]
   simp only [List.map_cons,Qp0,Qzr,hc,Option.getD_some]
   congr 1
   omega
 · intro n s i hd _
   simp only [Qed.eq_2]
   unfold Qh8
   rw [hd,cond_false]; simp
 · obtain ⟨c,_,hc,_⟩:=Qzd hi
   exact ⟨c,hc⟩
end Go.Proofs.YthddjkokpfdbnaaGreat
/- Lost of spec and of impl. -/
namespace Go.Proofs.YthddjkokpfdbnaaGreat
open Go
open Enc (rd ow)
open Arg (argv)
open Ret (retv)
open Wf (wf)
def Qr8 (l:List Carton):List Int:=(l.map (·.fM)).flatten
theorem Qvv (l:List Carton):(Qr8 l).length = Q6r l:=by
 induction l with
 | nil=>rfl
 | cons c l ih =>
  have e:Qr8 (c :: l) = c.fM ++ Qr8 l:=rfl
  rw [e,List.length_append,ih]; rfl
theorem Je1 {fu:Nat} {x:Plan} (h:Sp x) (hf:1048577 ≤ fu):Qpw fu x = some (Qr8 x.fJ):=by
 have hc:=h.cars
 have hl:=Qvv x.fJ
 have ha:=h.all
 unfold Qpw
 have:=lpI x.fJ (fun n out i=>Qgh fu x n out i) (fun xs out=>some (out ++ Qr8 xs)) (fun xs out=>out.length + (Qr8 xs).length ≤ 1048576) (by omega) ?_ ?_ fu [] (by simp; omega) (by omega)
 · simpa using this
 · intro n out i c xs hx hd hI ih
   have e:Qr8 (c :: xs) = c.fM ++ Qr8 xs:=rfl
   rw [e,List.length_append] at hI
   simp only [Qgh.eq_2]
   unfold Qlv
   rw [hd,cond_true,hx,Qab,ap1 (by omega),Qab,ih _ (by simp; omega),e]
   simp
 · intro n out i hd hI
   simp only [Qgh.eq_2]
   unfold Qlv
   simp only [hd,cond_false]
   simp [Qr8]
theorem Jeq {fu:Nat} {x:Plan} (h:Sp x) (hf:1048577 ≤ fu):Qn5 fu x = some (Qr8 x.fJ):=by
 have hc:=h.cars
 have hl:=Qvv x.fJ
 have ha:=h.all
 unfold Qn5
 have:=lpI x.fJ (fun n out i=>Qfk fu x n out i) (fun xs out=>some (out ++ Qr8 xs)) (fun xs out=>out.length + (Qr8 xs).length ≤ 1048576) (by omega) ?_ ?_ fu [] (by simp; omega) (by omega)
 · simpa using this
 · intro n out i c xs hx hd hI ih
   have e:Qr8 (c :: xs) = c.fM ++ Qr8 xs:=rfl
   rw [e,List.length_append] at hI
   simp only [Qfk.eq_2]
   unfold Qjj
   rw [hd,cond_true,hx,Qab,ap1 (by omega),Qab,ih _ (by simp; omega),e]
   simp
 · intro n out i hd hI
   simp only [Qfk.eq_2]
   unfold Qjj
   simp only [hd,cond_false]
   simp [Qr8]
end Go.Proofs.YthddjkokpfdbnaaGreat
/- Mixes of spec and of impl. -/
namespace Go.Proofs.YthddjkokpfdbnaaGreat
open Go
open Enc (rd ow)
open Arg (argv)
open Ret (retv)
open Wf (wf)
theorem Jh0 {fu:Nat} {gs:List (List Int)} (hl:gs.length ≤ 4) (hm:∀ g ∈ gs,g.length ≤ 4) (hfu:100 ≤ fu) (c:Int):Qpy fu gs c = some (Jba gs c):=by
 unfold Qpy
 have:=Qs0 gs (fun n i=>Qgj fu gs c n i) (fun g=>g.contains c) (by omega) (by
  intro n i x hx hd
  have:=hm x (Qeg hx)
  simp only [Qgj.eq_2]
  unfold Qkx
  simp only [hd,cond_true,hx,Qab,Jdr (show x.length ≤ 1048576 by omega) (show x.length < fu by omega)]) (by
  intro n i hd
  simp only [Qgj.eq_2]
  unfold Qkx
  simp only [hd,cond_false]) fu (by omega)
 rw [this,Q1k]
 unfold Jba
 cases Qwe (fun g=>g.contains c) gs <;> simp
end Go.Proofs.YthddjkokpfdbnaaGreat
/- Check, by spec and by impl. -/
namespace Go.Proofs.YthddjkokpfdbnaaGreat
open Go
open Enc (rd ow)
open Arg (argv)
open Ret (retv)
open Wf (wf)
theorem Jap {fu : Nat} {l : List Carton} (f : Carton → Option Bool) (g : Carton → Bool) (hg : ∀ x ∈ l, f x = some (g x)) (hl : l.length ≤ 1048576) (hf : l.length < fu) : Qbo fu l f = some (Qxg g l 0) := by
  unfold Qbo
  refine Qs0 l (fun n i => Qa0 fu l f n i) g (by omega) ?_ ?_ fu hf
  · intro n i x hx hd
    simp only [Qa0.eq_2]
    unfold Qbv
    simp only [hd, cond_true, hx, Qab, hg x (Qeg hx)]
  · intro n i hd
    simp only [Qa0.eq_2]
    unfold Qbv
    simp only [hd, cond_false]
theorem Jbj {fu : Nat} {l : List Carton} (f : Carton → Option Bool) (g : Carton → Bool) (hg : ∀ x ∈ l, f x = some (g x)) (hl : l.length ≤ 1048576) (hf : l.length < fu) : Qbf fu l f = some (l.any g) := by
  unfold Qbf
  rw [Jap f g hg hl hf, Qab, Qth g l 0 (by omega)]
def Jc4 (x : Plan) : Bool := x.fJ.any fun c => (c.fM.length : Int) == 0
theorem Jg3 {fu : Nat} {x : Plan} (h : Sp x) (hf : 1048577 ≤ fu) : Qn4 fu x = some (Jc4 x) := by
  have hc := h.cars
  unfold Qn4 Jc4
  have key := lp x.fJ (fun n (_ : Unit) i => Qfe fu x n i) (fun l _ => some (l.any fun c => (c.fM.length : Int) == 0)) (by omega) ?_ ?_ fu () (by omega)
  · exact key
  · intro n _ i c xs hx hd ih
    have ih := ih ()
    simp only [Qfe.eq_2]
    unfold Qi8
    rw [hd, cond_true, hx, Qab, ih, List.any_cons]
    cases (c.fM.length : Int) == 0 <;> rfl
  · intro n _ i hd
    simp only [Qfe.eq_2]
    unfold Qi8
    rw [hd, cond_false]; rfl
/-- each unit of the order once -/
def Q3o (r : Request) (x : Plan) : Bool := Jf5 (Qr8 x.fJ) (Qlq 0 (Qil r).length)
theorem Q5i {r : Request} {x : Plan} : Q3o r x = true ↔ (Qr8 x.fJ).Perm (Qlq 0 (Qil r).length) := Ja9
theorem Jes {fu : Nat} {r : Request} (hfu : 2097153 ≤ fu) {x : Plan} (h : Sp x) : Qog fu (Qil r) x = some (Q3o r x) := by
  have hul := Qx1 r
  have hfl := Qvv x.fJ
  have ha := h.all
  unfold Qog
  rw [Je1 h (by omega), Qab]
  by_cases hl : (Qr8 x.fJ).length = (Qil r).length
  · rw [show (((Qr8 x.fJ).length : Int) != ((Qil r).length : Int)) = false by simp; omega, cond_false]
    have key := lpN ((Qil r).length : Int) (fun n (_ : Unit) i => Qfr fu (Qil r) (Qr8 x.fJ) n i) (fun l _ => some (l.all fun u => (Qr8 x.fJ).count u == 1)) (by omega) ?_ ?_ (Qil r).length fu () 0 (by omega) (by omega) (by omega)
    · rw [key]
      congr 1
      apply Bool.eq_iff_iff.2
      rw [Q5i]
      constructor
      · intro hA
        refine (Q5j _ _ (by rw [Qfd, hl]) fun u hu => ?_).symm
        have h1 := List.all_eq_true.1 hA u hu
        have h2 : (Qlq 0 (Qil r).length).count u = 1 := by rw [List.Nodup.count (Qws _ _), if_pos hu]
        have h3 : (Qr8 x.fJ).count u = 1 := by simpa using h1
        omega
      · intro hp
        refine List.all_eq_true.2 fun u hu => ?_
        have h2 : (Qlq 0 (Qil r).length).count u = 1 := by rw [List.Nodup.count (Qws _ _), if_pos hu]
        have := hp.count_eq u
        simp; omega
    · intro n _ i xs h0 h1 hd ih
      have ih := ih ()
      simp only [Qfr.eq_2]
      unfold Qje
      rw [hd, cond_true, Jgy (by omega) (by omega), Qab, Q72, ih, List.all_cons]
      by_cases hc : (Qr8 x.fJ).count i = 1
      · simp [hc]
      · rw [show (((Qr8 x.fJ).count i : Int) != 1) = true by simp; omega, cond_true, show ((Qr8 x.fJ).count i == 1) = false by simpa using hc]; rfl
    · intro n _ i hd
      simp only [Qfr.eq_2]
      unfold Qje
      rw [hd, cond_false]; rfl
  · rw [show (((Qr8 x.fJ).length : Int) != ((Qil r).length : Int)) = true by simp; omega, cond_true]
    congr 1
    symm
    apply Bool.eq_false_iff.2
    intro hb
    have := (Q5i.1 hb).length_eq
    rw [Qfd] at this
    exact hl this
theorem Q4d (a : Int) (n : Nat) : (Qlq a n).mergeSort (fun x y => decide (x ≤ y)) = Qlq a n :=
  List.mergeSort_of_pairwise ((Qvn a n).imp fun h => by simpa using (show _ ≤ _ by omega))
/-- what is right of a carton -/
def chB (r : Request) (c : Carton) : Bool := match Qtf r c.fO with | some t => Qzq r c.fM t | none => false
def cgB (r : Request) (c : Carton) : Bool := c.fM.all fun u => Jba (Qnr r) (Qur r u).fF == c.fE
def ccB (r : Request) (c : Carton) : Bool := (Qxe r c.fM).2 && (Qxe r c.fM).1.f8 == c.fO
theorem Jbl {fu : Nat} {r : Request} (h : Sm fu r) {x : Plan} (hx : Sp x) : Qn1 fu r x = some (x.fJ.all (chB r)) := by
  have hfu := h.fu
  have hc := hx.cars
  unfold Qn1
  have key := lp x.fJ (fun n (_ : Unit) i => Qdp fu r x n i) (fun l _ => some (l.all (chB r))) (by omega) ?_ ?_ fu () (by omega)
  · exact key
  · intro n _ i c xs e hd ih
    have ih := ih ()
    have hu := hx.units c (Qeg e)
    simp only [Qdp.eq_2]
    unfold Qjf Qnf Qnh
    rw [hd, cond_true, e, Qab, Qyy h, Qab, List.all_cons]
    unfold chB
    cases ht : Qtf r c.fO with
    | none => rfl
    | some t =>
      simp only [Qw9, Bool.not_true, cond_false]
      rw [Qab, Q9w h _ t hu, Qab, ih]
      cases Qzq r c.fM t <;> rfl
  · intro n _ i hd
    simp only [Qdp.eq_2]
    unfold Qjf
    rw [hd, cond_false]; rfl
theorem Jaq {fu : Nat} {r : Request} (h : Sm fu r) {x : Plan} (hx : Sp x) : Qoa fu r (Qil r) x = some (x.fJ.all (cgB r)) := by
  have hfu := h.fu
  have hc := hx.cars
  unfold Qoa
  rw [Jas h, Qab]
  have key := lp x.fJ (fun n (_ : Unit) i => Qcb fu r (Qil r) x (Qnr r) n i) (fun l _ => some (l.all (cgB r))) (by omega) ?_ ?_ fu () (by omega)
  · exact key
  · intro n _ i c xs e hd ih
    have ih := ih ()
    have hu := hx.units c (Qeg e)
    simp only [Qcb.eq_2]
    unfold Qi7
    rw [hd, cond_true]
    have key2 := lp c.fM (fun m (_ : Unit) j => Qdm fu (Qcb fu r (Qil r) x (Qnr r) n) r (Qil r) x (Qnr r) i m j) (fun l _ => some (l.all (fun u => Jba (Qnr r) (Qur r u).fF == c.fE) && xs.all (cgB r))) (by omega) ?_ ?_ fu () (by omega)
    · rw [key2]; rfl
    · intro m _ j u us e2 hd2 ih2
      have ih2 := ih2 ()
      simp only [Qdm.eq_2]
      unfold Qjm Qm0 Qnl
      simp only [e, Qab, hd2, cond_true, e2, Q5p, Jh0 (Qt6 r).1 (Qt6 r).2 (show 100 ≤ fu by omega), ih2, List.all_cons, bne]
      cases Jba (Qnr r) (Qur r u).fF == c.fE <;> rfl
    · intro m _ j hd2
      simp only [Qdm.eq_2]
      unfold Qjm Qnn
      simp only [e, Qab, hd2, cond_false, ih]
      rfl
  · intro n _ i hd
    simp only [Qcb.eq_2]
    unfold Qi7
    rw [hd, cond_false]; rfl
theorem Ja1 {fu : Nat} {r : Request} (h : Sm fu r) {x : Plan} (hx : Sp x) : Qnz fu r x = some (x.fJ.all (ccB r)) := by
  have hfu := h.fu
  have hc := hx.cars
  unfold Qnz
  have key := lp x.fJ (fun n (_ : Unit) i => Qdt fu r x n i) (fun l _ => some (l.all (ccB r))) (by omega) ?_ ?_ fu () (by omega)
  · exact key
  · intro n _ i c xs e hd ih
    have ih := ih ()
    have hu := hx.units c (Qeg e)
    simp only [Qdt.eq_2]
    unfold Qjr Qng Qmw
    simp only [hd, cond_true, e, Qab, Q8n h _ hu, List.all_cons, ih, bne, ccB]
    cases (Qxe r c.fM).2 <;> cases (Qxe r c.fM).1.f8 == c.fO <;> rfl
  · intro n _ i hd
    simp only [Qdt.eq_2]
    unfold Qjr
    rw [hd, cond_false]; rfl
/-- the cartons and their places -/
def cs (x : Plan) : List (Carton × Spot) := x.fJ.zip x.fU
def Q2f (r : Request) (p : Carton × Spot) : Bool := Q99 r.fQ (Qjb r p.1) p.2
def ovP (r : Request) (p q : Carton × Spot) : Bool := Ja6 (Qjb r p.1) p.2 (Qjb r q.1) q.2
def Q3x (r : Request) : List (Carton × Spot) → List (Carton × Spot) → Bool
  | _, [] => true
  | pre, p :: l => pre.all (fun q => !ovP r p q) && Q3x r (pre ++ [p]) l
theorem Qxi {x : Plan} (el : x.fU.length = x.fJ.length) : (cs x).length = x.fJ.length := by simp [cs]; omega
theorem Jfs {fu : Nat} {r : Request} (h : Sm fu r) {x : Plan} (hx : Sp x) (el : x.fU.length = x.fJ.length) : Ql7 fu r x = some ((cs x).all (Q2f r)) := by
  have hfu := h.fu
  have hc := hx.cars
  have hz := Qxi el
  unfold Ql7
  have key := lp (cs x) (fun n (_ : Unit) i => Qev fu r x n i) (fun l _ => some (l.all (Q2f r))) (by omega) ?_ ?_ fu () (by omega)
  · exact key
  · intro n _ i p xs e hd ih
    have ih := ih ()
    obtain ⟨e1, e2⟩ := Qub e
    have hu := hx.units p.1 (Qeg e1)
    rw [hz] at hd
    simp only [Qev.eq_2]
    unfold Qij
    simp only [hd, cond_true, e1, e2, Qab, Q09 h _ hu, Jg4, ih, List.all_cons, Q2f]
    cases Q99 r.fQ (Qjb r p.1) p.2 <;> rfl
  · intro n _ i hd
    rw [hz] at hd
    simp only [Qev.eq_2]
    unfold Qij
    rw [hd, cond_false]; rfl
theorem Jek {fu : Nat} {r : Request} (h : Sm fu r) {x : Plan} (hx : Sp x) (el : x.fU.length = x.fJ.length) : Qn9 fu r x = some (Q3x r [] (cs x)) := by
  have hfu := h.fu
  have hc := hx.cars
  have hz := Qxi el
  unfold Qn9
  have key := lpP (cs x) (fun n (_ : Unit) i => Qdq fu r x n i) (fun pre l _ => some (Q3x r pre l)) (by omega) ?_ ?_ fu () (by omega)
  · exact key
  · intro n _ pre p xs e0 e hd ih
    have ih := ih ()
    obtain ⟨e1, e2⟩ := Qub e
    have hu := hx.units p.1 (Qeg e1)
    have hpl : pre.length ≤ (cs x).length := by rw [e0]; simp
    rw [hz] at hd
    simp only [Qdq.eq_2]
    unfold Qja
    rw [hd, cond_true]
    have key2 := lp pre (fun m (_ : Unit) j => Qff fu (Qdq fu r x n) r x (pre.length : Int) m j) (fun l _ => some (l.all (fun q => !ovP r p q) && Q3x r (pre ++ [p]) xs)) (by omega) ?_ ?_ fu () (by omega)
    · rw [key2]; rfl
    · intro m _ j q qs f hd2 ih2
      have ih2 := ih2 ()
      have f' : ix (cs x) j = some q := by rw [e0]; exact Q58 f
      obtain ⟨f1, f2⟩ := Qub f'
      have hu2 := hx.units q.1 (Qeg f1)
      simp only [Qff.eq_2]
      unfold Qi1
      simp only [hd2, cond_true, e1, e2, f1, f2, Qab, Q09 h _ hu, Q09 h _ hu2, Jgu, ih2, List.all_cons, ovP]
      cases Ja6 (Qjb r p.1) p.2 (Qjb r q.1) q.2 <;> rfl
    · intro m _ j hd2
      simp only [Qff.eq_2]
      unfold Qi1
      rw [hd2, cond_false, ih]; rfl
  · intro n _ hd
    rw [hz] at hd ⊢
    simp only [Qdq.eq_2]
    unfold Qja
    rw [hd, cond_false]; rfl
/-- what is right of a pallet -/
def plB (r : Request) (x : Plan) (k : Int) : Bool :=
  !(((onM x k).length : Int) == 0) && (!(decide (pgM r x k > r.fQ.fV)) && (onM x k).all fun i => (Qzr x i).fE == (Qzr x (ix (onM x k) 0 |>.getD 0)).fE)
theorem Q8f {x : Plan} {k : Int} (hne : (((onM x k).length : Int) == 0) = false) : ∃ i0 c0, ix (onM x k) 0 = some i0 ∧ ix x.fJ i0 = some c0 ∧ ∃ rest, onM x k = i0 :: rest := by
  cases hl : onM x k with
  | nil => simp [hl] at hne
  | cons i0 rest =>
    obtain ⟨c0, _, h1, _⟩ := Qzd (show i0 ∈ onM x k by rw [hl]; simp)
    exact ⟨i0, c0, rfl, h1, rest, rfl⟩
theorem Jey {fu : Nat} {r : Request} (h : Sm fu r) {x : Plan} (hx : Sp x) : Qjv fu r x = some ((Qlq 0 (Qxw x.fU).toNat).all (plB r x)) := by
  have hfu := h.fu
  have hc := hx.cars
  have hs := hx.spots
  have hb := Q4g x.fU
  unfold Qjv
  rw [Jby hs (by omega), Qab]
  have key := lpN (Qxw x.fU) (fun n (_ : Unit) i => Qb1 fu r x (Qxw x.fU) n i) (fun l _ => some (l.all (plB r x))) (by omega) ?_ ?_ (Qxw x.fU).toNat fu () 0 (by omega) (by omega) (by omega)
  · exact key
  · intro n _ k xs h0 h1 hd ih
    have ih := ih ()
    have hol := Q2a x k
    simp only [Qb1.eq_2]
    unfold Qh9
    rw [hd, cond_true, Jid hs hc (by omega) (by omega), Qab, List.all_cons]
    generalize xs.all (plB r x) = A at ih ⊢
    unfold plB
    cases hne : ((onM x k).length : Int) == 0
    · rw [cond_false, Jis h hx, Qab, Bool.not_false, Bool.true_and]
      cases decide (pgM r x k > r.fQ.fV)
      · obtain ⟨i0, c0, g1, g2, rest, g3⟩ := Q8f hne
        rw [cond_false, g1, Option.getD_some, Bool.not_false, Bool.true_and]
        unfold Qjn
        have e0 : Qzr x i0 = c0 := by unfold Qzr; rw [g2]; rfl
        rw [e0]
        have key2 : ∀ (qs : List Int) (pre : List Int) (m : Nat), onM x k = pre ++ qs → qs.length < m → Qee fu (Qb1 fu r x (Qxw x.fU) n) x k (onM x k) m (pre.length : Int) = some (qs.all (fun i => (Qzr x i).fE == c0.fE) && A) := by
          intro qs
          induction qs with
          | nil =>
            intro pre m e hm
            obtain ⟨m, rfl⟩ : ∃ k, m = k + 1 := ⟨m - 1, by omega⟩
            rw [Qee.eq_2]
            unfold Qia Qi5
            rw [show decide ((pre.length : Int) < ((onM x k).length : Int)) = false from decide_eq_false (by rw [e]; simp), cond_false, ih]
            rfl
          | cons i qs ihq =>
            intro pre m e hm
            obtain ⟨m, rfl⟩ : ∃ k, m = k + 1 := ⟨m - 1, by omega⟩
            have hi : i ∈ onM x k := by rw [e]; simp
            obtain ⟨c, _, hci, _⟩ := Qzd hi
            have hpi : ix (onM x k) (pre.length : Int) = some i := by rw [e, Qq8]; simp
            have hpl : pre.length + 1 ≤ (onM x k).length := by rw [e]; simp
            rw [Qee.eq_2]
            unfold Qia
            rw [show decide ((pre.length : Int) < ((onM x k).length : Int)) = true from decide_eq_true (by omega), cond_true, hpi, Qab, hci, Qab, g1, Qab, g2, Qab, Qxy _ (by omega)]
            have := ihq (pre ++ [i]) m (by rw [e]; simp) (by simp at hm; omega)
            rw [List.length_append, List.length_singleton] at this
            rw [this, List.all_cons, show Qzr x i = c by unfold Qzr; rw [hci]; rfl]
            simp only [bne]
            cases c.fE == c0.fE <;> rfl
        have := key2 rest [i0] fu (by rw [g3]; rfl) (by have : (onM x k).length = rest.length + 1 := by rw [g3]; rfl
                                                        omega)
        rw [show ((1 : Int)) = (([i0] : List Int).length : Int) from rfl, this]
        conv => rhs; rw [g3]
        rw [List.all_cons, e0]
        simp
      · rfl
    · rfl
  · intro n _ i hd
    simp only [Qb1.eq_2]
    unfold Qh9
    rw [hd, cond_false]; rfl
def Jcp (r : Request) (x : Plan) : Int :=
  bif !(Qh7 r == 0) then 1 else bif !(Q4e x) then 2 else bif Jc4 x then 2 else bif !(Q3o r x) then 3 else bif !(x.fJ.all (chB r)) then 4 else
  bif !(x.fJ.all (cgB r)) then 5 else bif !(x.fJ.all (ccB r)) then 6 else bif !((cs x).all (Q2f r)) then 7 else bif !(Q3x r [] (cs x)) then 8 else
  bif !((Qlq 0 (Qxw x.fU).toNat).all (plB r x)) then 9 else 0
theorem Q2i {x : Plan} (h : Q4e x = true) : x.fU.length = x.fJ.length := by
  unfold Q4e at h
  simp only [Bool.and_eq_true] at h
  simpa using h.1
theorem Jdj {fu : Nat} {r : Request} (h : Sm fu r) {x : Plan} (hx : Sp x) : Qsp fu r x = some (Jcp r x) := by
  have hfu := h.fu
  unfold Qsp Jcp
  rw [Q0h h, Qab]
  cases hc : Qh7 r == 0
  · rw [show (Qh7 r != 0) = true by simp only [bne, hc]; rfl]; rfl
  · have hz : Qh7 r = 0 := by simpa using hc
    have hu : Qcf fu r = some (Qil r) := Jc1 h hz
    rw [show (Qh7 r != 0) = false by simp [hz], cond_false, Jgt hx (by omega), Qab]
    cases hp : Q4e x
    · rfl
    · have el := Q2i hp
      unfold Qrs
      rw [Bool.not_true, cond_false, Jg3 hx (by omega), Qab]
      cases Jc4 x
      · rw [cond_false, hu, Qab, Jes hfu hx, Qab, Jbl h hx, Qab, Jaq h hx, Qab, Ja1 h hx, Qab, Jfs h hx el, Qab, Jek h hx el, Qab, Jey h hx, Qab]
        cases Q3o r x <;> cases x.fJ.all (chB r) <;> cases x.fJ.all (cgB r) <;> cases x.fJ.all (ccB r) <;> cases (cs x).all (Q2f r) <;> cases Q3x r [] (cs x) <;> cases (Qlq 0 (Qxw x.fU).toNat).all (plB r x) <;> rfl
      · rfl
end Go.Proofs.YthddjkokpfdbnaaGreat
/- Check, by impl. -/
namespace Go.Proofs.YthddjkokpfdbnaaGreat
open Go
open Enc (rd ow)
open Arg (argv)
open Ret (retv)
open Wf (wf)
theorem Jd1 {r:Request} {id:Int} {t:Typ} (h:Qtf r id = some t):t ∈ r.fT:=List.mem_of_find?_eq_some h
theorem Q8j (r:Request) (us:List Int):∀ (l:List Typ) (s:Typ × Bool),(l.foldl (chp r us) s).2 = (s.2 || l.any (Qzq r us))
 | [],s=>by simp
 | t :: l,s=>by
  rw [List.foldl_cons,Q8j r us l,List.any_cons]
  unfold chp
  obtain ⟨b,f⟩:=s
  cases Qzq r us t <;> cases f <;> simp
  cases (decide (t.fK < b.fK) || t.fK == b.fK && decide (t.f8 < b.f8)) <;> simp
theorem Q5g {r:Request} {us:List Int} {t:Typ} (ht:t ∈ r.fT) (h:Qzq r us t = true):(Qxe r us).2 = true:=by
 unfold Qxe
 rw [Q8j]
 simp only [Bool.false_or]
 exact List.any_eq_true.2 ⟨t,ht,h⟩
theorem Jhw {r:Request} {c:Carton} (h:chB r c = true):∀ u ∈ c.fM,0 ≤ u ∧ u < (Qil r).length:=by
 unfold chB at h
 intro u hu
 split at h
 · simp only [Qzq,Bool.and_eq_true] at h
   have:=List.all_eq_true.1 h.2.1 u hu
   simp only [uOk,Bool.and_eq_true] at this
   exact Qwg.1 this.1
 · cases h
theorem Q7j {r:Request} {u:Int} (hu:0 ≤ u ∧ u < (Qil r).length) {g:Int} (hg:0 ≤ g) :
    (Jba (Qnr r) (Qur r u).fF == g) = (match ix (Qnr r) g with | some l=>l.contains (Qur r u).fF | none=>false):=by
 have hi:=Qvj hu
 obtain ⟨i,l,h1,h2,h3⟩:=Jcz (Jde hi)
 rw [h3]
 apply Bool.eq_iff_iff.2
 constructor
 · intro h
   have e:(i:Int) = g:=by simpa using h
   rw [← e,Jfh h1]
   simpa using h2
 · intro h
   cases hx:ix (Qnr r) g with
   | none=>rw [hx] at h; cases h
   | some m =>
    rw [hx] at h
    obtain ⟨g0,g1,g2⟩:=Qar hx
    have:=Q21 h1 g2 h2 (by simpa using h)
    simp; omega
theorem Jcj {fu:Nat} {r:Request} (h:Sm fu r) {x:Plan} (hx:Sp x) (hg:∀ c ∈ x.fJ,0 ≤ c.fE):Qig fu r x =
    some (bif !(x.fJ.all (chB r)) then 4 else bif !(x.fJ.all (cgB r)) then 5 else bif !(x.fJ.all (ccB r)) then 6 else 0):=by
 have hfu:=h.fu
 have hc:=hx.cars
 unfold Qig
 have key:=lpI x.fJ (fun n (_:Unit) i=>Qc2 fu r x n i) (fun l _=>some (bif !(l.all (chB r)) then 4 else bif !(x.fJ.all (cgB r)) then 5 else bif !(x.fJ.all (ccB r)) then 6 else 0))
  (fun l _=>l.all (chB r) = true → x.fJ.all (chB r) = true) (by omega) ?_ ?_ fu () (fun h=>h) (by omega)
 · exact key
 · intro n _ i c xs e hd hI ih
   have hu:=hx.units c (Qeg e)
   simp only [Qc2.eq_2]
   unfold Qhd Qiz
   rw [hd,cond_true,e,Qab,Qv3 h,Qab,List.all_cons]
   rw [List.all_cons] at hI
   cases ht:Qtf r c.fO with
   | none=>rw [show chB r c = false by unfold chB; rw [ht]]; rfl
   | some t =>
    simp only [Qw9,Bool.not_true,cond_false]
    rw [Q8v h _ t hu,Qab]
    have e1:chB r c = Qzq r c.fM t:=by unfold chB; rw [ht]
    rw [e1] at hI ⊢
    cases hh:Qzq r c.fM t
    · rfl
    · rw [hh,Bool.true_and] at hI
      rw [Bool.not_true,cond_false,ih () hI,Bool.true_and]
 · intro n _ i hd hI
   have hA:=hI rfl
   simp only [Qc2.eq_2]
   unfold Qhd
   rw [hd,cond_false,Jgh h,Qab]
   show _ = some (bif !(x.fJ.all (cgB r)) then 5 else bif !(x.fJ.all (ccB r)) then 6 else 0)
   have key2:=lp x.fJ (fun n (_:Unit) i=>Qd1 fu r x (Qnr r) n i) (fun l _=>some (bif !(l.all (cgB r)) then 5 else bif !(x.fJ.all (ccB r)) then 6 else 0)) (by omega) ?_ ?_ fu () (by omega)
   · exact key2
   · intro n _ i c xs e hd ih
     have ih:=ih ()
     have hu:=hx.units c (Qeg e)
     have hin:=Jhw (List.all_eq_true.1 hA c (Qeg e))
     have hil:=Qvu r c.fM
     simp only [Qd1.eq_2]
     unfold Qg8
     rw [hd,cond_true,e,Qab,Q1w h _ hu (by omega),Qab,Q1h hin]
     rw [Qv2 _ (fun y=>!(match ix (Qnr r) c.fE with | some l=>l.contains y.fF | none=>false)) ?_ (by simp; omega) (by simp; omega),Qab,List.any_map,List.all_cons]
     · have e1:cgB r c = !(c.fM.any ((fun y=>!(match ix (Qnr r) c.fE with | some l=>l.contains y.fF | none=>false)) ∘ Qur r)):=by
         unfold cgB
         rw [List.not_any_eq_all_not]
         apply Q17
         intro u hu'
         rw [Q7j (hin u hu') (hg c (Qeg e))]
         simp only [Function.comp,Bool.not_not]
       rw [e1,ih]
       cases c.fM.any ((fun y=>!(match ix (Qnr r) c.fE with | some l=>l.contains y.fF | none=>false)) ∘ Qur r) <;> simp
     · intro y _
       unfold Qi6
       have hg0:=hg c (Qeg e)
       by_cases hgl:c.fE ≥ (Qnr r).length
       · have e0:ix (Qnr r) c.fE = none:=by
           cases hq:ix (Qnr r) c.fE with
           | none=>rfl
           | some l=>have:=(Qar hq).2.1; omega
         rw [e0,decide_eq_true hgl,cond_true]; rfl
       · have hlt:c.fE.toNat < (Qnr r).length:=by omega
         have e0:ix (Qnr r) c.fE = some (Qnr r)[c.fE.toNat]:=by
          have:=Q0x hlt
          rwa [show ((c.fE.toNat:Nat):Int) = c.fE by omega] at this
         have hgl':=(Qt6 r).2 _ (List.getElem_mem hlt)
         rw [e0,decide_eq_false hgl,cond_false,Qab,Jhy (by omega) (by omega),Qab]
   · intro n _ i hd
     simp only [Qd1.eq_2]
     unfold Qg8
     rw [hd,cond_false]
     show _ = some (bif !(x.fJ.all (ccB r)) then 6 else 0)
     have key3:=lpI x.fJ (fun n (_:Unit) i=>Qd2 fu r x n i) (fun l _=>some (bif !(l.all (ccB r)) then 6 else 0)) (fun l _=>l.all (chB r) = true) (by omega) ?_ ?_ fu () hA (by omega)
     · exact key3
     · intro n _ i c xs e hd hI ih
       have hu:=hx.units c (Qeg e)
       rw [List.all_cons,Bool.and_eq_true] at hI
       have hch:=hI.1
       have h2:(Qxe r c.fM).2 = true:=by
        unfold chB at hch
        split at hch
        · rename_i t ht
          exact Q5g (Jd1 ht) hch
        · cases hch
       simp only [Qd2.eq_2]
       unfold Qhc
       rw [hd,cond_true,e,Qab,Jdx h _ hu,Qab,ih () hI.2,List.all_cons,ccB,h2,Bool.true_and]
       simp only [bne]
       cases (Qxe r c.fM).1.f8 == c.fO <;> rfl
     · intro n _ i hd _
       simp only [Qd2.eq_2]
       unfold Qhc
       rw [hd,cond_false]; rfl
theorem Jcw {fu:Nat} {r:Request} (h:Sm fu r) {x:Plan} (hx:Sp x) (el:x.fU.length = x.fJ.length):Ql4 fu r x =
    some (bif !((cs x).all (Q2f r)) then 7 else bif !(Q3x r [] (cs x)) then 8 else bif !((Qlq 0 (Qxw x.fU).toNat).all (plB r x)) then 9 else 0):=by
 have hfu:=h.fu
 have hc:=hx.cars
 have hs:=hx.spots
 have hz:=Qxi el
 have hb:=Q4g x.fU
 have bx_len:(((cs x).map fun p=>Qjb r p.1).length:Int) = x.fJ.length:=by simp [hz]
 unfold Ql4
 have key:=Jdk (cs x) (fun n (o:List Box) i=>Qeu fu r x n o i) (fun _ l _=>some (bif !(l.all (Q2f r)) then 7 else bif !(Q3x r [] (cs x)) then 8 else bif !((Qlq 0 (Qxw x.fU).toNat).all (plB r x)) then 9 else 0))
  (fun pre l o=>o = pre.map fun p=>Qjb r p.1) (by omega) ?_ ?_ fu [] rfl (by omega)
 · exact key
 · intro n o pre p xs e0 e hd hI ih
   obtain ⟨e1,e2⟩:=Qub e
   have hu:=hx.units p.1 (Qeg e1)
   have hpl:pre.length ≤ (cs x).length:=by rw [e0]; simp
   rw [hz] at hd
   simp only [Qeu.eq_2]
   unfold Qiw
   rw [hd,cond_true,e1,Qab,Jcd h _ hu,Qab,e2,Qab,Jgj,Qab,List.all_cons,Q2f]
   cases Q99 r.fQ (Qjb r p.1) p.2
   · rfl
   · subst hI
     rw [Bool.not_true,cond_false,ap1 (by simp; omega),Qab,ih _ (by simp),Bool.true_and]
 · intro n o hd hI
   rw [hz] at hd ⊢
   simp only [Qeu.eq_2]
   unfold Qiw
   rw [hd,cond_false]
   show _ = some (bif !(Q3x r [] (cs x)) then 8 else bif !((Qlq 0 (Qxw x.fU).toNat).all (plB r x)) then 9 else 0)
   subst hI
   have key2:=lpP (cs x) (fun n (_:Unit) i=>Qc5 fu r x ((cs x).map fun p=>Qjb r p.1) n i) (fun pre l _=>some (bif !(Q3x r pre l) then 8 else bif !((Qlq 0 (Qxw x.fU).toNat).all (plB r x)) then 9 else 0)) (by omega) ?_ ?_ fu () (by omega)
   · exact key2
   · intro n _ pre p xs e0 e hd ih
     have ih:=ih ()
     obtain ⟨e1,e2⟩:=Qub e
     have hu:=hx.units p.1 (Qeg e1)
     have hpl:pre.length ≤ (cs x).length:=by rw [e0]; simp
     have b1:ix ((cs x).map fun p=>Qjb r p.1) (pre.length:Int) = some (Qjb r p.1):=by
      rw [Qq8,List.getElem?_map]
      rw [Qq8] at e
      rw [e]; rfl
     simp only [Qc5.eq_2]
     unfold Qir
     rw [bx_len,← hz,hd,cond_true]
     have key3:=lp pre (fun m (_:Unit) j=>Qex fu (Qc5 fu r x ((cs x).map fun p=>Qjb r p.1) n) x ((cs x).map fun p=>Qjb r p.1) (pre.length:Int) m j) (fun l _=>some (bif !(l.all (fun q=>!ovP r p q) && Q3x r (pre ++ [p]) xs) then 8 else bif !((Qlq 0 (Qxw x.fU).toNat).all (plB r x)) then 9 else 0)) (by omega) ?_ ?_ fu () (by omega)
     · rw [key3]; rfl
     · intro m _ j q qs f hd2 ih2
       have ih2:=ih2 ()
       have f':ix (cs x) j = some q:=by rw [e0]; exact Q58 f
       obtain ⟨f1,f2⟩:=Qub f'
       obtain ⟨j0,j1,j2⟩:=Qar f'
       have b2:ix ((cs x).map fun p=>Qjb r p.1) j = some (Qjb r q.1):=by
        unfold ix
        rw [if_pos j0,List.getElem?_map,j2]; rfl
       simp only [Qex.eq_2]
       unfold Qiy
       simp only [hd2,cond_true,b1,e2,b2,f2,Qab,Jgx,ih2,List.all_cons,ovP]
       cases Ja6 (Qjb r p.1) p.2 (Qjb r q.1) q.2 <;> rfl
     · intro m _ j hd2
       simp only [Qex.eq_2]
       unfold Qiy
       rw [hd2,cond_false,ih]; rfl
   · intro n _ hd
     simp only [Qc5.eq_2]
     unfold Qir
     rw [bx_len,← hz,hd,cond_false,Jeh hs (by omega),Qab]
     show _ = some (bif !((Qlq 0 (Qxw x.fU).toNat).all (plB r x)) then 9 else 0)
     have key4:=lpN (Qxw x.fU) (fun n (_:Unit) i=>Qc6 fu r x (Qxw x.fU) n i) (fun l _=>some (bif !(l.all (plB r x)) then 9 else 0)) (by omega) ?_ ?_ (Qxw x.fU).toNat fu () 0 (by omega) (by omega) (by omega)
     · exact key4
     · intro n _ k xs h0 h1 hd ih
       have ih:=ih ()
       have hol:=Q2a x k
       simp only [Qc6.eq_2]
       unfold Qiv
       rw [hd,cond_true,Jh9 hs (by omega),Qab,List.all_cons]
       generalize xs.all (plB r x) = A at ih ⊢
       unfold plB
       cases hne:((onM x k).length:Int) == 0
       · rw [cond_false,Jip h hx,Qab,Bool.not_false,Bool.true_and]
         cases decide (pgM r x k > r.fQ.fV)
         · obtain ⟨i0,c0,g1,g2,rest,g3⟩:=Q8f hne
           unfold Qld Qle
           rw [cond_false,g1,Option.getD_some,Bool.not_false,Bool.true_and]
           have e0:Qzr x i0 = c0:=by unfold Qzr; rw [g2]; rfl
           rw [e0,Q59 _ (fun i=>!((Qzr x i).fE == c0.fE)) ?_ (by omega) (by omega),Qab,ih]
           · rw [show (onM x k).all (fun i=>(Qzr x i).fE == c0.fE) = !((onM x k).any fun i=>!((Qzr x i).fE == c0.fE)) by rw [List.not_any_eq_all_not]; simp]
             cases (onM x k).any fun i=>!((Qzr x i).fE == c0.fE) <;> simp
           · intro i hi
             obtain ⟨c,_,hci,_⟩:=Qzd hi
             unfold Qnq
             rw [hci,Qab,g1,Qab,g2,Qab,show Qzr x i = c by unfold Qzr; rw [hci]; rfl]
             rfl
         · rfl
       · rfl
     · intro n _ i hd
       simp only [Qc6.eq_2]
       unfold Qiv
       rw [hd,cond_false]; rfl
theorem Q9z {x:Plan} (h:Q4e x = true):∀ c ∈ x.fJ,0 ≤ c.fE ∧ c.fE ≤ 3:=by
 have el:=Q2i h
 unfold Q4e at h
 simp only [Bool.and_eq_true] at h
 intro c hc
 obtain ⟨i,hi⟩:=List.mem_iff_getElem?.1 hc
 have hlt:=(List.getElem?_eq_some_iff.1 hi).1
 have hz:(c,x.fU[i]'(by omega)) ∈ x.fJ.zip x.fU:=by
  apply List.mem_iff_getElem?.2
  refine ⟨i,List.getElem?_zip_eq_some.2 ⟨hi,List.getElem?_eq_getElem _⟩⟩
 have:=List.all_eq_true.1 h.2.2 _ hz
 simp only [Ja4,Bool.and_eq_true,Qc7] at this
 omega
theorem Jc2 {fu:Nat} {r:Request} (h:Sm fu r) {x:Plan} (hx:Sp x):Qsl fu r x = some (Jcp r x):=by
 have hfu:=h.fu
 have hc:=hx.cars
 have hfl:=Qvv x.fJ
 have ha:=hx.all
 have hul:=Qx1 r
 unfold Qsl Jcp
 rw [Qvm h,Qab]
 cases hz:Qh7 r == 0
 · rfl
 · rw [Bool.not_true,cond_false,Jg8 hx (by omega),Qab]
   cases hp:Q4e x
   · rfl
   · have el:=Q2i hp
     rw [Bool.not_true,cond_false,Jbj (l:=x.fJ) (fun y=>Qsg fu y) (fun c=>(c.fM.length:Int) == 0) (fun c _=>rfl) hc (by omega),Qab]
     show (bif Jc4 x then _ else _) = _
     cases Jc4 x
     · rw [cond_false]
       unfold Qq1 Qc1
       rw [Jeq hx (by omega),Qab,Q6q (by omega),Qab,Jcs h,Qab,Jaz _ (by omega) (by omega),Qab,Jdn _ _ (by simp; omega) (by simp; omega),Qab,Jcj h hx (fun c hc=>(Q9z hp c hc).1),Qab,Jcw h hx el,Qab]
       have e1:decide ((Qr8 x.fJ).mergeSort (fun x y=>decide (x ≤ y)) = Qlq 0 (Qil r).length) = Q3o r x:=by
        unfold Q3o Jf5
        rw [Q4d]
       rw [e1]
       cases Q3o r x
       · rfl
       · cases x.fJ.all (chB r)
         · rfl
         · cases x.fJ.all (cgB r)
           · rfl
           · cases x.fJ.all (ccB r) <;> rfl
     · rfl
end Go.Proofs.YthddjkokpfdbnaaGreat
/- Feasible, by spec and by impl. -/
namespace Go.Proofs.YthddjkokpfdbnaaGreat
open Go
open Enc (rd ow)
open Arg (argv)
open Ret (retv)
open Wf (wf)
def Qz1 (r:Request) (x:Plan):Bool:=Jcp r x == 0
theorem Q73 {fu:Nat} {r:Request} (h:Sm fu r) {x:Plan} (hx:Sp x):Qhp fu r x = some (Qz1 r x):=by
 unfold Qhp Qz1
 rw [Jdj h hx]; rfl
theorem Q87 {fu:Nat} {r:Request} (h:Sm fu r) {x:Plan} (hx:Sp x):Qh0 fu r x = some (Qz1 r x):=by
 unfold Qh0 Qz1
 rw [Jc2 h hx]; rfl
end Go.Proofs.YthddjkokpfdbnaaGreat
