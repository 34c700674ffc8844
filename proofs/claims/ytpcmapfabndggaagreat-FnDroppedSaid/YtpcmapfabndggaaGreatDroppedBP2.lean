import Derived.Test.YtpcmapfabndggaaGreatDroppedBP1
set_option linter.unusedSimpArgs false
set_option linter.unusedVariables false
/- Kinds, groups and the units of a group, by spec and by impl. -/
namespace Go.Proofs.YtpcmapfabndggaaGreat
open Go
open Enc (rd ow)
open Arg (argv)
open Ret (retv)
open Wf (wf)
theorem Jeh {fu:Nat} {l:List Int} (hl:l.length ≤ 1048576) (hf:l.length < fu) (x:Int):Qor fu l x = some (l.contains x):=by
 unfold Qor
 refine lp l (λn (_:Unit) i=>Qh2 fu l x n i) (λl _=>some (l.contains x)) (by omega) ?_ ?_ fu () hf
 · intro n s i y ys hy hd ih
   simp only [Qh2.eq_2]
   unfold Qo9
   simp only [hd,cond_true,hy,Qab,ih (),List.contains_cons]
   rw [Jh2 y x]
   cases x == y <;> rfl
 · intro n s i hd
   simp only [Qh2.eq_2]
   unfold Qo9
   simp only [hd,cond_false]
   rfl
theorem Jig {fu:Nat} {l:List Int} (hl:l.length ≤ 1048576) (hf:l.length < fu) (x:Int):Qes fu l x = some (l.contains x):=by
 unfold Qes Qig
 have:=Qtd l (λn i=>Qcr fu l x n i) (λy=>x == y) (by omega) (by
  intro n i y hx hd
  simp only [Qcr.eq_2]
  unfold Qfn
  simp only [hd,cond_true,hx,Qab]) (by
  intro n i hd
  simp only [Qcr.eq_2]
  unfold Qfn
  simp only [hd,cond_false]) fu hf
 rw [this,Qab,Qtq _ l 0 (by omega),List.contains_eq_any_beq]
theorem Jfu {fu:Nat} {p:List Pair} (hp:p.length ≤ 1048576) (hpf:p.length < fu) {g:List Int} (hl:g.length ≤ 1048576) (hf:g.length < fu) (c:Int):Qp8 fu p g c = some (g.all (Q2y p c)):=by
 unfold Qp8
 refine lp g (λn (_:Unit) i=>Qfc fu p g c n i) (λl _=>some (l.all (Q2y p c))) (by omega) ?_ ?_ fu () hf
 · intro n s i y ys hy hd ih
   simp only [Qfc.eq_2]
   unfold Qk5 Qo4
   simp only [hd,cond_true,hy,Qab,ih (),Jgb hp hpf,List.all_cons,Q2y]
   cases Qtx p y c <;> cases Qtx p c y <;> rfl
 · intro n s i hd
   simp only [Qfc.eq_2]
   unfold Qk5
   simp only [hd,cond_false]
   rfl
theorem Jjf {fu:Nat} {r:Request} (h:Sm fu r):Qps fu r = some (Qz5 r):=by
 have hfu:=h.fu
 have h1:=h.items
 unfold Qps Qz5
 rw [Q03 h,Qab]
 by_cases hc:Qh9 r = 0
 · rw [show (Qh9 r != 0) = false by simp [hc],show (Qh9 r == 0) = true by simp [hc],cond_false,cond_true]
   have e27:∀ (k:List Int → Int → Option (List Int)) (out:List Int) (c:Int),Qeb fu k r out c fu false 0 = bif r.fG.any (λx=>x.fF == c) then (Qac (Qhv 8 out [c]) λx=>k x (w64 (c + 1))) else k out (w64 (c + 1)):=by
    intro k out c
    refine lp r.fG (λn f i=>Qeb fu k r out c n f i) (λl f=>bif f || l.any (λx=>x.fF == c) then (Qac (Qhv 8 out [c]) λx=>k x (w64 (c + 1))) else k out (w64 (c + 1))) (by omega) ?_ ?_ fu false (by omega)
    · intro n f i x xs hx hd ih
      simp only [Qeb.eq_2]
      unfold Qlu Qks
      simp only [hd,cond_true,hx,Qab,ih,List.any_cons]
      cases f
      · rfl
      · rfl
    · intro n f i hd
      simp only [Qeb.eq_2]
      unfold Qlu Qkc
      simp only [hd,cond_false,List.any_nil,Bool.or_false]
   have:=Q9w 4 (λn out i=>Qdf fu r n out i) (λxs out=>some (out ++ xs.filter λc=>r.fG.any λx=>x.fF == c)) (λxs out=>out.length + xs.length ≤ 4) (by omega) ?_ ?_ 4 fu [] 0 (by omega) (by omega) (by omega) (by simp [Qkd])
   · simpa using this
   · intro n out i xs h0 h1 hd hI ih
     simp only [List.length_cons] at hI
     simp only [Qdf.eq_2]
     unfold Qly
     simp only [hd,cond_true,e27]
     cases hb:r.fG.any λx=>x.fF == i
     · rw [cond_false,ih out (by omega)]
       simp [hb]
     · rw [cond_true,ap1 (by simp; omega),Qab,ih _ (by simp; omega)]
       simp [hb]
   · intro n out i hd hI
     simp only [Qdf.eq_2]
     unfold Qly
     simp only [hd,cond_false]
     simp
 · rw [show (Qh9 r != 0) = true by simp [hc],show (Qh9 r == 0) = false by simp [hc],cond_false,cond_true]
theorem Q8v {fu:Nat} {l:List Int} (hl:l.length ≤ 1048576):∃ k,Qky fu l = some k ∧ k.Pairwise (· < ·) ∧ ∀ x,x ∈ k ↔ x ∈ l:=by
 unfold Qky Qct Qc1 Qkq
 have hp:=List.mergeSort_perm l (λx y=>decide (x ≤ y))
 have hs:=Qsz l
 rw [ap1 (by simp; omega),Qab,Qab,List.nil_append]
 unfold Q13
 rw [if_pos (by omega),Qab]
 unfold Jhm
 rw [if_pos (by rw [hp.length_eq]; omega),Qab]
 obtain ⟨h1,h2⟩:=Q0s _ hs
 exact ⟨_,rfl,h1,λx=>(h2 x).trans hp.mem_iff⟩
theorem Q0k {fu:Nat} {l:List Int} (hl:l.length ≤ 1048576) (hs:l.Pairwise (· < ·)):Qky fu l = some l:=by
 obtain ⟨k,h1,h2,h3⟩:=Q8v (fu:=fu) hl
 rw [h1,Q9b h2 hs h3]
theorem Jjd {fu:Nat} {r:Request} (h:Sm fu r):Qp3 fu r = some (Qz5 r):=by
 have hfu:=h.fu
 have h1:=h.items
 unfold Qp3
 rw [Qvx h,Qab]
 by_cases hc:Qh9 r = 0
 · rw [show (Qh9 r == 0) = true by simp [hc],Bool.not_true,cond_false]
   have:=lpI r.fG (λn out i=>Qgn fu r n out i) (λxs out=>Qac (Qky fu (out ++ xs.map (·.fF))) λx=>some x) (λxs out=>out.length + xs.length ≤ 1048576) (by omega) ?_ ?_ fu [] (by simpa using h1) (by omega)
   · rw [List.nil_append] at this
     refine this.trans ?_
     obtain ⟨k,e1,e2,e3⟩:=Q8v (fu:=fu) (l:=r.fG.map (·.fF)) (by simpa using h1)
     rw [e1,Qab]
     congr 1
     refine Q9b e2 (Qt7 r) λx=>?_
     rw [e3]
     unfold Qz5
     rw [show (Qh9 r == 0) = true by simp [hc],cond_true,List.mem_filter,Ql6,List.any_eq_true,List.mem_map]
     constructor
     · rintro ⟨y,hy,rfl⟩
       have:=(Qs1 (Qfv hc).1).1 y hy
       simp only [Qxh,Bool.and_eq_true,Qdz] at this
       exact ⟨by omega,y,hy,by simp⟩
     · rintro ⟨_,y,hy,e⟩
       exact ⟨y,hy,by simpa using e⟩
   · intro n out i x xs hx hd hI ih
     simp only [List.length_cons] at hI
     simp only [Qgn.eq_2]
     unfold Ql8
     simp only [hd,cond_true,hx,Qab]
     rw [ap1 (by simp; omega),Qab,ih _ (by simp; omega)]
     simp
   · intro n out i hd hI
     simp only [Qgn.eq_2]
     unfold Ql8
     simp only [hd,cond_false]
     simp
 · rw [show (Qh9 r == 0) = false by simp [hc],Bool.not_false,cond_true]
   unfold Qz5
   rw [show (Qh9 r == 0) = false by simp [hc],cond_false]
theorem Q3g {α:Type} (g:α → Bool) (x:α):∀ (l:List α),Qwr g (l ++ [x]) = match Qwr g l with | some i=>some i | none=>bif g x then some l.length else none
 | []=>by simp [Qwr]
 | y :: ys=>by
  simp only [List.cons_append,Qwr]
  cases g y
  · simp only [cond_false]
    rw [Q3g g x ys]
    cases Qwr g ys <;> simp
    cases g x <;> simp
  · rfl
def atB {α:Type} (g:α → Bool) (l:List α) (i:Int):Bool:=match ix l i with | some x=>g x | none=>false
def Jcp {α:Type} (g:α → Bool) (l:List α) (a i:Int):Int:=bif atB g l i then i else a
theorem Qzm {α:Type} (g:α → Bool) (l:List α):∀ (m:Nat) (a:Int),m ≤ l.length → (Qva m).foldl (Jcp g l) a = match Qwr g (l.take m) with | some i=>(i:Int) | none=>a
 | 0,a,_=>by simp [Qva,Qwr]
 | m + 1,a,h=>by
  simp only [Qva,List.foldl_cons]
  rw [Qzm g l m _ (by omega),List.take_succ_eq_append_getElem (by omega),Q3g,List.length_take,Nat.min_eq_left (by omega)]
  unfold Jcp atB
  rw [Qxq (by omega)]
  cases Qwr g (l.take m) with
  | some i=>rfl
  | none =>
   simp only
   cases g l[m] <;> rfl
theorem Q20 {α:Type} (g:α → Bool):∀ (l:List α) (i:Int),Qxo g l i = match Qwr g l with | some j=>i + j | none=>-1
 | [],i=>rfl
 | x :: xs,i=>by
  simp only [Qxo,Qwr]
  cases g x
  · simp only [cond_false]
    rw [Q20 g xs (i + 1)]
    cases Qwr g xs with
    | none=>rfl
    | some j =>
     show i + 1 + (j:Int) = i + ((j + 1:Nat):Int)
     omega
  · simp
theorem Jcu {p:List Pair} {out:List (List Int)} {c:Int} {n:Nat} (h:okG n out) (hn:n ≤ 1048576) {β:Type} (k:List (List Int) → Option β) (a:Int) (ha:a = match Qwr (λg=>g.all (Q2y p c)) out with | some i=>(i:Int) | none=>-1) :
    (bif (decide (a < 0)) then Qac (Qhv 24 out [([c]:List Int)]) λx=>k x else Qac (ix out a) λx=>Qac (Qhv 8 x (([c]:List Int))) λy=>Qac (ix out a) λz=>k (Qge out a y)) = k (Q5f p out c):=by
 obtain ⟨h1,h2⟩:=h
 unfold Q5f
 cases hf:Qwr (λg=>g.all (Q2y p c)) out with
 | none =>
  rw [hf] at ha
  simp only at ha
  subst ha
  rw [Qcn (by simp),ap1 (by simp; omega),Qab]
 | some i =>
  rw [hf] at ha
  simp only at ha
  subst ha
  obtain ⟨x,hx,_⟩:=Qvr hf
  have:=h2 x (List.mem_of_getElem? hx)
  rw [Qbb (by simp),Qq2,hx,Qab,ap1 (by simp; omega),Qab,Qab]
  simp [Qge,hx]
theorem Jgi {fu:Nat} {p:List Pair} (hp:p.length ≤ 1048576) (hfu:2097153 ≤ fu) {l:List Int} (hl:l.length ≤ 1048576):Qrk fu p l = some (((Qkd 0 4).filter l.contains).foldl (Q5f p) []):=by
 unfold Qrk
 have e27:∀ (k:List (List Int) → Int → Option (List (List Int))) (out:List (List Int)) (c:Int),okG 4 out → Qew fu k p out c fu (-1) (w64 ((out.length:Int) - 1)) = k (Q5f p out c) (w64 (c + 1)):=by
  intro k out c ho
  obtain ⟨R,hR⟩:∃ R:Int → Option (List (List Int)),R = λa=>bif (decide (a < 0)) then Qac (Qhv 24 out [([c]:List Int)]) λx=>k x (w64 (c + 1)) else Qac (ix out a) λx=>Qac (Qhv 8 x (([c]:List Int))) λy=>Qac (ix out a) λz=>k (Qge out a y) (w64 (c + 1)):=⟨_,rfl⟩
  have:=lpD out.length (λn a i=>Qew fu k p out c n a i) (λxs a=>R (xs.foldl (Jcp (λg=>g.all (Q2y p c)) out) a)) (by have:=ho.1; omega) ?_ ?_ fu (-1) (by have:=ho.1; omega)
  · rw [this,hR]
    refine Jcu (p:=p) ho (by omega) (λx=>k x (w64 (c + 1))) _ ?_
    rw [Qzm (λg=>g.all (Q2y p c)) out out.length (-1) (Nat.le_refl _),List.take_length]
  · intro n a i xs h0 h1 hd ih
    simp only [Qew.eq_2]
    unfold Qng Qmy
    obtain ⟨j,rfl⟩:∃ j:Nat,i = j:=⟨i.toNat,by omega⟩
    have hj:j < out.length:=by omega
    have hg:=ho.2 _ (List.getElem_mem hj)
    simp only [hd,cond_true,Qxq hj,Qab,Jfu hp (by omega) (show out[j].length ≤ 1048576 by omega) (show out[j].length < fu by omega),ih,List.foldl_cons]
    have e:Jcp (λg=>g.all (Q2y p c)) out a (j:Int) = bif out[j].all (Q2y p c) then (j:Int) else a:=by unfold Jcp atB; rw [Qxq hj]
    rw [e]
    cases out[j].all (Q2y p c) <;> rfl
  · intro n a i hd
    simp only [Qew.eq_2]
    unfold Qng Qha
    simp only [hd,cond_false,List.foldl_nil,hR]
 have:=Q9w 4 (λn out i=>Qd4 fu p l n out i) (λxs out=>some ((xs.filter l.contains).foldl (Q5f p) out)) (λxs out=>∃ m,m + xs.length ≤ 4 ∧ okG m out) (by omega) ?_ ?_ 4 fu [] 0 (by omega) (by omega) (by omega) ⟨0,by simp [Qkd],by simp,by simp⟩
 · exact this
 · intro n out i xs h0 h1 hd hI ih
   obtain ⟨m,hm,ho⟩:=hI
   simp only [List.length_cons] at hm
   simp only [Qd4.eq_2]
   unfold Qnx Qha
   simp only [hd,cond_true,Jeh hl (show l.length < fu by omega),Qab]
   cases hb:l.contains i
   · rw [Bool.not_false,cond_true,ih out ⟨m,by omega,ho⟩,List.filter_cons_of_neg (by rw [hb]; simp)]
   · rw [Bool.not_true,cond_false,e27 _ out i ⟨by have:=ho.1; omega,λg hg=>by have:=ho.2 g hg; omega⟩,ih _ ⟨m + 1,by omega,Q5b i ho⟩,List.filter_cons_of_pos hb,List.foldl_cons]
 · intro n out i hd hI
   simp only [Qd4.eq_2]
   unfold Qnx
   simp only [hd,cond_false]
   simp
theorem Q67 (r:Request):(Qkd 0 4).filter (Qz5 r).contains = Qz5 r :=
 Q9b ((Qvq 0 4).filter _) (Qt7 r) λx=>by
  rw [List.mem_filter,Ql6]
  constructor
  · rintro ⟨_,h⟩; simpa using h
  · intro h; have:=Q5m h; exact ⟨by omega,by simpa using h⟩
theorem Jcn {fu:Nat} {r:Request} (h:Sm fu r):Qgx fu r = some (Qnj r):=by
 unfold Qgx Qnj
 rw [Jjf h,Qab,Jgi h.pairs h.fu (by have:=Q2w r; omega),Qab,Q67]
theorem Ji7 {fu:Nat} {p:List Pair} (hp:p.length ≤ 1048576) (hpf:p.length < fu) (a b:Int):Qr2 fu p a b = some (Q2y p a b):=by
 unfold Qr2 Q2y
 simp only [Jdp hp hpf,Qab]
 cases Qtx p a b <;> rfl
theorem Q5v {fu:Nat} {l:List Int} (f:Int → Option Bool) (g:Int → Bool) (hg:∀ x ∈ l,f x = some (g x)) (hl:l.length ≤ 1048576) (hf:l.length < fu):Qc4 fu l f = some (Qxo g l 0):=by
 unfold Qc4
 refine Qtd l (λn i=>Qb0 fu l f n i) g (by omega) ?_ ?_ fu hf
 · intro n i x hx hd
   simp only [Qb0.eq_2]
   unfold Qed
   simp only [hd,cond_true,hx,Qab,hg x (Qd5 hx)]
 · intro n i hd
   simp only [Qb0.eq_2]
   unfold Qed
   simp only [hd,cond_false]
theorem Q5g {fu:Nat} {l:List Int} (f:Int → Option Bool) (g:Int → Bool) (hg:∀ x ∈ l,f x = some (g x)) (hl:l.length ≤ 1048576) (hf:l.length < fu):Qck fu l f = some (l.any g):=by
 unfold Qck
 rw [Q5v f g hg hl hf,Qab,Qtq g l 0 (by omega)]
theorem Q7q {fu:Nat} {l:List (List Int)} (f:List Int → Option Bool) (g:List Int → Bool) (hg:∀ x ∈ l,f x = some (g x)) (hl:l.length ≤ 1048576) (hf:l.length < fu):Qd3 fu l f = some (Qxo g l 0):=by
 unfold Qd3
 refine Qtd l (λn i=>Qbv fu l f n i) g (by omega) ?_ ?_ fu hf
 · intro n i x hx hd
   simp only [Qbv.eq_2]
   unfold Qdv
   simp only [hd,cond_true,hx,Qab,hg x (Qd5 hx)]
 · intro n i hd
   simp only [Qbv.eq_2]
   unfold Qdv
   simp only [hd,cond_false]
theorem Jga {fu:Nat} {p:List Pair} (hp:p.length ≤ 1048576) (hfu:2097153 ≤ fu) {l:List Int} (hl:l.length ≤ 4) (hs:l.Pairwise (· < ·)) (hm:∀ c ∈ l,0 ≤ c ∧ c < 4):Qrm fu p l = some (l.foldl (Q5f p) []):=by
 unfold Qrm
 rw [Q0k (by omega) hs,Qab]
 have:=lpI l (λn out i=>Qet fu p l n out i) (λxs out=>some (xs.foldl (Q5f p) out)) (λxs out=>(∃ m,m + xs.length ≤ 4 ∧ okG m out) ∧ ∀ c ∈ xs,0 ≤ c ∧ c < 4) (by omega) ?_ ?_ fu [] ⟨⟨0,by simpa using hl,by simp,by simp⟩,hm⟩ (by omega)
 · exact this
 · intro n out i c xs hx hd hI ih
   obtain ⟨⟨m,hm,ho⟩,hc⟩:=hI
   simp only [List.length_cons] at hm
   have hc0:=hc c (by simp)
   simp only [Qet.eq_2]
   unfold Qnr Qij
   simp only [hd,cond_true,hx,Qab,Q4q]
   rw [show inb c 0 3 = true by simp; omega,Bool.not_true,cond_false]
   rw [Q7q (λy=>Qol fu y p c) (λg=>g.all (Q2y p c)) (λg hg=>by
    have hgl:=ho.2 g hg
    unfold Qol
    rw [Q5g (λy=>Qkf fu y p c) (λx=>!Q2y p c x) (λx _=>by
     unfold Qkf
     rw [Ji7 hp (by omega),Qab]) (by omega) (by omega),Qab]
    simp [List.any_eq_not_all_not]) (by have:=ho.1; omega) (by have:=ho.1; omega),Qab]
   rw [Jcu (p:=p) ho (by omega) (λx=>Qet fu p l n x (w64 (i + 1))) (Qxo (λg=>g.all (Q2y p c)) out 0) (by
    rw [Q20]
    cases Qwr (λg=>g.all (Q2y p c)) out <;> simp)]
   rw [ih _ ⟨⟨m + 1,by omega,Q5b c ho⟩,λy hy=>hc y (by simp [hy])⟩]
   rfl
 · intro n out i hd hI
   simp only [Qet.eq_2]
   unfold Qnr
   simp only [hd,cond_false]
   rfl
theorem Jhz {fu:Nat} {r:Request} (h:Sm fu r):Qoj fu r = some (Qnj r):=by
 unfold Qoj
 rw [Qvx h,Qab]
 by_cases hc:Qh9 r = 0
 · rw [show (Qh9 r == 0) = true by simp [hc],Bool.not_true,cond_false,Jjd h,Qab,Jga h.pairs h.fu (Q2w r) (Qt7 r) (λc hc=>Q5m hc),Qab]
   rfl
 · rw [show (Qh9 r == 0) = false by simp [hc],Bool.not_false,cond_true]
   unfold Qnj Qz5
   rw [show (Qh9 r == 0) = false by simp [hc],cond_false]
   rfl
theorem Jfb (r:Request):w64 (((Qnj r).length:Int) - 1) = ((Qnj r).length:Int) - 1:=by
 have:=(Qur r).1
 exact Qbp (by omega) (by omega)
end Go.Proofs.YtpcmapfabndggaaGreat
/- Load of units, room for one more, units that may lie beside: by spec and by impl. -/
namespace Go.Proofs.YtpcmapfabndggaaGreat
open Go
open Enc (rd ow)
open Arg (argv)
open Ret (retv)
open Wf (wf)
theorem Jbd (r:Request) (x:Int) (xs:List Int):Qz6 r (x :: xs) = Q8d (Quu r x) + Qz6 r xs:=by
 unfold Qz6 Qxv Quu
 cases hm:Q2x r x with
 | none=>simp [List.filterMap_cons,hm,Jbm]
 | some y=>simp [List.filterMap_cons,hm]
theorem Q6m (r:Request) (x:Int) (xs:List Int):Qv6 r (x :: xs) = (Quu r x).fV + Qv6 r xs:=by
 unfold Qv6 Qxv Quu
 cases hm:Q2x r x with
 | none=>simp [List.filterMap_cons,hm,Q66]
 | some y=>simp [List.filterMap_cons,hm]
theorem Q9q {fu:Nat} (r:Request) (us:List Int) (hl:us.length ≤ 1048576) (hf:us.length < fu):Qq0 fu r (Qi0 r) us = some ⟨Qz6 r us,Qv6 r us⟩:=by
 unfold Qq0
 have key:=lpI us (λn s i=>Qgt fu r (Qi0 r) us n s i) (λl s=>some (⟨s.fvol + Qz6 r l,s.fgram + Qv6 r l⟩:L7))
  (λl s=>0 ≤ s.fvol ∧ s.fvol + 8000000000 * l.length ≤ 8000000000 * 1048576 ∧ 0 ≤ s.fgram ∧ s.fgram + 100000 * l.length ≤ 100000 * 1048576) (by omega) ?_ ?_ fu ⟨0,0⟩ ⟨by simp,by simp; omega,by simp,by simp; omega⟩ hf
 · simpa using key
 · intro n s i x xs hx hd hI ih
   simp only [Qgt.eq_2]
   unfold Qqn Qsr Qsp
   simp only [hd,cond_true,hx,Qab,Q5s,Jd7]
   have hv:=Q85 (Quu r x).fW (Quu r x).fH (Quu r x).fD
   have hg:=Q3u r x
   obtain ⟨a1,a2,a3,a4⟩:=hI
   simp only [List.length_cons] at a2 a4
   rw [Qbp (n:=s.fvol + _) (by omega) (by omega),Qbp (n:=s.fgram + _) (by omega) (by omega),ih _ ⟨by simp; omega,by simp; omega,by simp; omega,by simp; omega⟩,Jbd,Q6m,show Q6s (Quu r x).fW (Quu r x).fH (Quu r x).fD = Q8d (Quu r x) from rfl]
   simp only [Option.some.injEq,L7.mk.injEq]
   constructor <;> omega
 · intro n s i hd _
   simp only [Qgt.eq_2]
   unfold Qqn
   simp only [hd,cond_false]
   simp [Qz6,Qv6,Qxv]
def Q4s (r:Request) (us:List Int) (t:Typ):Bool:=decide (Qz6 r us ≤ Jaz t) && decide (Qv6 r us ≤ t.fV)
theorem Q5u {fu:Nat} (r:Request) (t:Typ) (us:List Int) (u:Int) (hl:us.length < 1048576) (hf:us.length + 1 < fu):Qpl fu r (Qi0 r) t us u = some (Q4s r (us ++ [u]) t):=by
 unfold Qpl Qqu Q4s
 rw [ap1 (by simp; omega),Qab,List.nil_append,ap1 (by simp; omega),Qab,Q9q r _ (by simp; omega) (by simp; omega),Qab,Jd7,Qab]
 show (bif decide (Qz6 r (us ++ [u]) ≤ Jaz t) then _ else _) = _
 cases decide (Qz6 r (us ++ [u]) ≤ Jaz t) <;> simp
theorem Jbx {fu:Nat} {r:Request} (h:Sm fu r) (t:Typ) (us:List Int) (hl:us.length ≤ 1048576):Qsa fu r us t = some (Q4s r us t):=by
 have hfu:=h.fu
 unfold Qsa Q4s
 rw [Jet h us hl (by omega),Qab,Jgr,Qab,Jfo h us hl (by omega)]
 show (bif decide (Qz6 r us ≤ Jaz t) then _ else _) = _
 cases decide (Qz6 r us ≤ Jaz t) <;> simp
theorem Jde {r:Request}:(Qxm (Qtn r r.fP)).1 = Qyl r:=rfl
end Go.Proofs.YtpcmapfabndggaaGreat
/- slices.DeleteFunc at numbers, places. -/
namespace Go.Proofs.YtpcmapfabndggaaGreat
open Go
open Enc (rd ow)
open Arg (argv)
open Ret (retv)
open Wf (wf)
theorem Jbe {fu:Nat} (n:Nat) (hn:n ≤ 1048576) (hf:n < fu):Qrt fu (n:Int) = some (Qkd 0 n):=by
 unfold Qrt
 have:=Q9w (n:Int) (λk out i=>Qhd fu (n:Int) k out i) (λxs out=>some (out ++ xs)) (λxs out=>out.length + xs.length ≤ 1048576) (by omega) ?_ ?_ n fu [] 0 (by omega) (by omega) hf (by simpa [Qen] using hn)
 · simpa using this
 · intro k out i xs h0 h1 hd hI ih
   simp only [List.length_cons] at hI
   simp only [Qhd.eq_2]
   unfold Qnp
   rw [hd,cond_true,ap1 (by simp; omega),Qab,ih _ (by simp; omega)]
   simp
 · intro k out i hd hI
   simp only [Qhd.eq_2]
   unfold Qnp
   simp only [hd,cond_false]
   simp
theorem Q8i {α:Type} (g:α → Bool):∀ (l pre:List α),(Qxo g l pre.length = -1 ∧ ∀ x ∈ l,g x = false) ∨ (∃ a x b,l = a ++ x :: b ∧ (∀ y ∈ a,g y = false) ∧ g x = true ∧ Qxo g l pre.length = ((pre.length + a.length:Nat):Int))
 | [],pre=>.inl ⟨rfl,by simp⟩
 | x :: xs,pre=>by
  simp only [Qxo]
  by_cases hx:g x = true
  · rw [hx,cond_true]; exact .inr ⟨[],x,xs,rfl,by simp,hx,by simp⟩
  · have hx':g x = false:=by simpa using hx
    rw [hx',cond_false]
    have:=Q8i g xs (pre ++ [x])
    simp only [List.length_append,List.length_singleton] at this
    rw [show ((pre.length + 1:Nat):Int) = (pre.length:Int) + 1 by omega] at this
    rcases this with ⟨h1,h2⟩ | ⟨a,y,b,h1,h2,h3,h4⟩
    · exact .inl ⟨h1,by simpa [hx'] using h2⟩
    · exact .inr ⟨x :: a,y,b,by simp [h1],by simpa [hx'] using h2,h3,by rw [h4]; simp; omega⟩
theorem Jhy {fu:Nat} {l:List Int} (f:Int → Option Bool) (g:Int → Bool) (hg:∀ x ∈ l,f x = some (g x)) (hl:l.length ≤ 1048576) (hf:l.length < fu):Qdx fu l f = some (l.filter λx=>!g x):=by
 unfold Qdx
 rw [Q5v f g hg hl hf,Qab]
 have hp:=Q8i g l []
 simp only [List.length_nil,Nat.zero_add] at hp
 rcases hp with ⟨h1,h2⟩ | ⟨a,x,b,h1,h2,h3,h4⟩
 · have h1':Qxo g l 0 = -1:=h1
   rw [h1',Qcn (by simp)]
   congr 1
   exact (List.filter_eq_self.2 λy hy=>by simp [h2 y hy]).symm
 · have h4':Qxo g l 0 = (a.length:Int):=h4
   rw [h4',Qbb (by simp)]
   have key:∀ (rest kept mid pre:List Int) (n:Nat),l = pre ++ rest → kept = pre.filter (λx=>!g x) → mid ≠ [] → kept.length + mid.length = pre.length → rest.length < n →
       Qbh fu f n (kept ++ mid ++ rest) (kept.length:Int) (pre.length:Int) = some (l.filter λx=>!g x):=by
    intro rest
    induction rest with
    | nil =>
     intro kept mid pre n e1 e2 e3 e4 hn
     obtain ⟨n,rfl⟩:∃ j,n = j + 1:=⟨n - 1,by omega⟩
     rw [Qbh.eq_2]
     unfold Qdu
     simp only [List.append_nil] at *
     subst e1
     rw [Qbb (by simp; omega),Qt8 ⟨by omega,by simp; omega,by omega⟩,Qab,Qt8 ⟨by omega,by omega,by simp [Q4d]; omega⟩,Qab]
     rw [← e2]
     simp [Q4d]
    | cons y rest ih =>
     intro kept mid pre n e1 e2 e3 e4 hn
     obtain ⟨n,rfl⟩:∃ j,n = j + 1:=⟨n - 1,by simp at hn; omega⟩
     have hlen:l.length = pre.length + (rest.length + 1):=by rw [e1]; simp
     have hyl:y ∈ l:=by rw [e1]; simp
     obtain ⟨m,ms,rfl⟩:∃ m ms,mid = m :: ms:=by
      cases mid with
      | nil=>exact absurd rfl e3
      | cons m ms=>exact ⟨m,ms,rfl⟩
     simp only [List.length_cons] at e4 hn
     have hx:ix (kept ++ (m :: ms) ++ y :: rest) (pre.length:Int) = some y:=by
      rw [Qq2,List.getElem?_append_right (by simp; omega)]
      simp only [List.length_append,List.length_cons]
      rw [show pre.length - (kept.length + (ms.length + 1)) = 0 by omega]; rfl
     have hk:ix (kept ++ (m :: ms) ++ y :: rest) (kept.length:Int) = some m:=by
      rw [Qq2]; simp
     rw [Qbh.eq_2]
     unfold Qdu Qc2
     rw [Qcn (by simp; omega),hx,Qab,hg y hyl,Qab]
     cases hgy:g y
     · rw [Bool.not_false,cond_true,hk,Qab,Qya _ (by omega),Qya _ (by omega)]
       have e5:Qge (kept ++ (m :: ms) ++ y :: rest) (kept.length:Int) y = (kept ++ [y]) ++ (ms ++ [y]) ++ rest:=by simp [Qge]
       rw [e5]
       have:=ih (kept ++ [y]) (ms ++ [y]) (pre ++ [y]) n (by simp [e1]) (by rw [e2,List.filter_append]; simp [hgy]) (by simp) (by simp; omega) (by omega)
       simp only [List.length_append,List.length_singleton] at this
       exact this
     · rw [Bool.not_true,cond_false,Qya _ (by omega)]
       have:=ih kept ((m :: ms) ++ [y]) (pre ++ [y]) n (by simp [e1]) (by rw [e2,List.filter_append]; simp [hgy]) (by simp) (by simp; omega) (by omega)
       simp only [List.length_append,List.length_singleton] at this
       rw [show kept ++ (m :: ms) ++ y :: rest = kept ++ ((m :: ms) ++ [y]) ++ rest by simp]
       exact this
   have hlen:l.length = a.length + (b.length + 1):=by rw [h1]; simp
   have ha:a.filter (λx=>!g x) = a:=List.filter_eq_self.2 λy hy=>by simp [h2 y hy]
   have:=key b a [x] (a ++ [x]) fu (by simp [h1]) (by rw [List.filter_append,ha]; simp [h3]) (by simp) (by simp) (by omega)
   rw [Qya _ (by omega)]
   simp only [List.length_append,List.length_singleton] at this
   rw [show a ++ [x] ++ b = l by simp [h1]] at this
   exact this
end Go.Proofs.YtpcmapfabndggaaGreat
/- A bit, by spec. -/
namespace Go.Proofs.YtpcmapfabndggaaGreat
open Go
open Enc (rd ow)
open Arg (argv)
open Ret (retv)
open Wf (wf)
theorem Jhs (fu:Nat) (b:Bool):Qtr fu b = some (Jfg b):=by cases b <;> rfl
end Go.Proofs.YtpcmapfabndggaaGreat
/- How often a number stands in a list, by spec. -/
namespace Go.Proofs.YtpcmapfabndggaaGreat
open Go
open Enc (rd ow)
open Arg (argv)
open Ret (retv)
open Wf (wf)
theorem Jiy {fu:Nat} {l:List Int} (hl:l.length ≤ 1048576) (hf:l.length < fu) (x:Int):Qpr fu l x = some (Jd2 (λy=>y == x) l):=by
 unfold Qpr
 have:=lpI l (λn s i=>Qgj fu l x n s i) (λl n=>some (n + Jd2 (λy=>y == x) l)) (λl n=>0 ≤ n ∧ n + l.length ≤ 1048576) (by omega) ?_ ?_ fu 0 ⟨by omega,by omega⟩ hf
 · simpa using this
 · intro n s i y ys hy hd hI ih
   have h2:=hI.2
   simp only [List.length_cons] at h2
   have hb:=Jed (y == x)
   simp only [Qgj.eq_2]
   unfold Qlo
   simp only [hd,cond_true,hy,Qab,Jhs]
   rw [Qbp (by omega) (by omega),ih _ ⟨by omega,by omega⟩]
   simp only [Jd2]
   congr 1
   omega
 · intro n s i hd hI
   simp only [Qgj.eq_2]
   unfold Qlo
   simp only [hd,cond_false,Jd2]
   simp
theorem Q7t (l:List Int) (x:Int):Jd2 (λy=>y == x) l = (l.count x:Int):=by
 induction l with
 | nil=>rfl
 | cons y l ih =>
  unfold Jd2 Jfg
  rw [ih,List.count_cons]
  cases hy:y == x <;> simp [hy] <;> omega
end Go.Proofs.YtpcmapfabndggaaGreat
/- Lists of lists of numbers in the laws: their size, copies. -/
namespace Go.Proofs.YtpcmapfabndggaaGreat
open Go
open Enc (rd ow)
open Arg (argv)
open Ret (retv)
open Wf (wf)
end Go.Proofs.YtpcmapfabndggaaGreat
/- IsPacking of spec and of impl. -/
namespace Go.Proofs.YtpcmapfabndggaaGreat
open Go
open Enc (rd ow)
open Arg (argv)
open Ret (retv)
open Wf (wf)
def Qwq (r:Request) (us:List Int):List Int:=us.filter λu=>inb u 0 (((Qi0 r).length:Int) - 1)
def Jhk (a b:List Int):Bool:=decide ((a.mergeSort λx y=>decide (x ≤ y)) = b.mergeSort λx y=>decide (x ≤ y))
theorem Jbq {a b:List Int}:Jhk a b = true ↔ a.Perm b:=by
 unfold Jhk
 rw [decide_eq_true_iff]
 constructor
 · intro h
   have h1:=List.mergeSort_perm a λx y=>decide (x ≤ y)
   rw [h] at h1
   exact h1.symm.trans (List.mergeSort_perm b _)
 · intro h
   exact Jat (((List.mergeSort_perm a _).trans h).trans (List.mergeSort_perm b _).symm) (Qsz a) (Qsz b)
theorem Q5x:∀ (a b:List Int),a.length = b.length → (∀ x ∈ a,a.count x = b.count x) → a.Perm b
 | [],b,h,_=>by
  have:b = []:=List.eq_nil_of_length_eq_zero h.symm
  subst this
  exact List.Perm.refl _
 | x :: a,b,h,hc=>by
  have hx:=hc x (by simp)
  rw [List.count_cons_self] at hx
  have hm:x ∈ b:=List.count_pos_iff.1 (by omega)
  have hp:=List.perm_cons_erase hm
  refine List.Perm.trans (List.Perm.cons x (Q5x a (b.erase x) ?_ ?_)) hp.symm
  · have:=hp.length_eq
    simp only [List.length_cons] at this h
    omega
  · intro y hy
    have h1:=hc y (by simp [hy])
    have h2:=hp.count_eq y
    rw [List.count_cons] at h1 h2
    omega
theorem Jdz {fu:Nat} {r:Request} (h:Sm fu r) (us:List Int) (hl:us.length ≤ 1048576):Qqa fu r us = some (Qwq r us):=by
 have hfu:=h.fu
 unfold Qqa Qct Qwq
 rw [Jef h,Qab,ap1 (by simp; omega),Qab,Qab,List.nil_append,Jhy _ (λu=>!inb u 0 (((Qi0 r).length:Int) - 1)) ?_ hl (by omega),Qab]
 · simp
 · intro u _
   unfold Qqr
   rw [Q2j,Q4q,Qab]
theorem Q77 {fu:Nat} {r:Request} (h:Sm fu r) (us:List Int) (hl:us.length ≤ 1048576):Qm6 fu (Qi0 r) us = some (Qwq r us):=by
 have hfu:=h.fu
 unfold Qm6 Qwq
 have:=lpI us (λn out i=>Qe9 fu (Qi0 r) us n out i) (λxs out=>some (out ++ xs.filter λu=>inb u 0 (((Qi0 r).length:Int) - 1))) (λxs out=>out.length + xs.length ≤ 1048576) (by omega) ?_ ?_ fu [] (by simpa using hl) (by omega)
 · simpa using this
 · intro n out i x xs hx hd hI ih
   simp only [List.length_cons] at hI
   simp only [Qe9.eq_2]
   unfold Qld Qki
   rw [hd,cond_true,hx,Qab,Q2j,Q1e,Qab,Qab,List.filter_cons]
   cases hb:inb x 0 (((Qi0 r).length:Int) - 1)
   · rw [cond_false,ih _ (by omega)]; simp
   · rw [cond_true,ap1 (by simp; omega),Qab,ih _ (by simp; omega)]; simp
 · intro n out i hd hI
   simp only [Qe9.eq_2]
   unfold Qld
   simp only [hd,cond_false]
   simp
theorem Jaf:∀ (a b:List Int),a.length = b.length → ((a.zip b).all λp=>p.1 == p.2) = decide (a = b)
 | [],[],_=>rfl
 | [],_ :: _,h=>by simp at h
 | _ :: _,[],h=>by simp at h
 | x :: a,y :: b,h=>by
  rw [List.zip_cons_cons,List.all_cons,Jaf a b (by simpa using h)]
  by_cases hx:x = y <;> simp [hx]
theorem Jdl {fu:Nat} (a b:List Int) (hl:a.length ≤ 1048576) (hf:a.length < fu):Qgd fu a b = some (decide (a = b)):=by
 unfold Qgd
 by_cases h:a.length = b.length
 · rw [Qbb (by simp [h])]
   have hz:(a.zip b).length = a.length:=by rw [List.length_zip]; omega
   have:=lp (a.zip b) (λn (_:Unit) i=>Qcq fu a b n i) (λl _=>some (l.all λp=>p.1 == p.2)) (by omega) ?_ ?_ fu () (by omega)
   · rw [Jaf a b h] at this
     exact this
   · intro n _ i p xs hp hd ih
     obtain ⟨h1,_,h2⟩:=Qat hp
     rw [List.getElem?_zip_eq_some] at h2
     rw [hz] at hd
     have e1:ix a i = some p.1:=by unfold ix; rw [if_pos h1]; exact h2.1
     have e2:ix b i = some p.2:=by unfold ix; rw [if_pos h1]; exact h2.2
     simp only [Qcq.eq_2]
     unfold Qfx
     rw [hd,cond_true,e1,Qab,e2,Qab,ih (),List.all_cons]
     by_cases hx:p.1 = p.2
     · rw [Qbb (by simp [hx])]; simp [hx]
     · rw [Qcn (by simpa using hx)]; simp [hx]
   · intro n _ i hd
     rw [hz] at hd
     simp only [Qcq.eq_2]
     unfold Qfx
     simp [hd]
 · rw [Qcn (by simp; omega)]
   have:a ≠ b:=λe=>h (by rw [e])
   simp [this]
theorem Q61 {xs:List Int} (h:xs.length ≤ 1048576):Q13 xs = some (xs.mergeSort λx y=>decide (x ≤ y)):=by
 unfold Q13
 rw [if_pos (by omega)]
theorem Q2f (r:Request) (us:List Int):(Qwq r us).length ≤ us.length:=List.length_filter_le _ _
end Go.Proofs.YtpcmapfabndggaaGreat
/- IsRival of spec and of impl. -/
namespace Go.Proofs.YtpcmapfabndggaaGreat
open Go
open Enc (rd ow)
open Arg (argv)
open Ret (retv)
open Wf (wf)
theorem Qzv {r:Request} {us:List Int} {u:Int} (h:u ∈ Qwq r us):0 ≤ u ∧ u < (Qi0 r).length:=by
 unfold Qwq at h
 have:=(List.mem_filter.1 h).2
 rw [Qdz] at this
 omega
theorem Qvv {r:Request} {u:Int} (h:0 ≤ u ∧ u < (Qi0 r).length):Q2x r u = some (Quu r u):=by
 obtain ⟨_,x,_,_,hx⟩:=Q45 h
 unfold Quu
 rw [hx]; rfl
theorem Q1t {r:Request}:∀ {l:List Int},(∀ u ∈ l,0 ≤ u ∧ u < (Qi0 r).length) → Qxv r l = l.map (Quu r)
 | [],_=>rfl
 | u :: l,h=>by
  have ih:=Q1t (r:=r) (l:=l) λv hv=>h v (by simp [hv])
  unfold Qxv at ih ⊢
  rw [List.filterMap_cons,Qvv (h u (by simp)),ih,List.map_cons]
end Go.Proofs.YtpcmapfabndggaaGreat
/- Holds and Cheapest, by spec and by impl. -/
namespace Go.Proofs.YtpcmapfabndggaaGreat
open Go
open Enc (rd ow)
open Arg (argv)
open Ret (retv)
open Wf (wf)
theorem Q23 {α:Type} {p q:α → Bool}:∀ {l:List α},(∀ x ∈ l,p x = q x) → l.all p = l.all q
 | [],_=>rfl
 | x :: xs,h=>by rw [List.all_cons,List.all_cons,h x (by simp),Q23 λy hy=>h y (by simp [hy])]
def uOk (r:Request) (t:Typ) (u:Int):Bool:=(Q2x r u).isSome && Q04 (Quu r u) t
def Qz7 (r:Request) (us:List Int) (t:Typ):Bool:=Qh9 r == 0 && (us.all (uOk r t) && Q4s r us t)
theorem Qxd {r:Request} {u:Int}:(Q2x r u).isSome = true ↔ 0 ≤ u ∧ u < (Qi0 r).length:=by
 constructor
 · intro h
   apply Decidable.byContradiction
   intro hn
   rw [Q2k hn] at h
   cases h
 · intro h
   rw [Qvv h]; rfl
theorem Q7p {fu:Nat} {r:Request} (h:Sm fu r) (us:List Int) (t:Typ) (hl:us.length ≤ 1048576):Qq1 fu r us t = some (Qz7 r us t):=by
 have hfu:=h.fu
 have hil:=Qv2 r us
 unfold Qq1 Qz7
 rw [Qvx h,Qab]
 cases hc:Qh9 r == 0
 · rfl
 · rw [Bool.not_true,cond_false,Jdz h us hl,Qab,Bool.true_and]
   by_cases ha:∀ u ∈ us,0 ≤ u ∧ u < (Qi0 r).length
   · have e:Qwq r us = us:=List.filter_eq_self.2 λu hu=>by have:=ha u hu; simp; omega
     have e0:((us.length:Int) != (us.length:Int)) = false:=by simp
     rw [e,e0,cond_false]
     unfold Qrr
     rw [Q2q h us hl (by omega),Qab,Qv7 _ (λx=>!Q04 x t) ?_ (by omega) (by omega),Qab]
     · rw [Jbx h t us hl,Qab,Q1t ha,List.any_map]
       have e1:us.all (uOk r t) = !(us.any ((λx=>!Q04 x t) ∘ Quu r)):=by
        rw [List.not_any_eq_all_not]
        apply Q23
        intro u hu
        simp only [uOk,Qxd.2 (ha u hu),Bool.true_and,Function.comp,Bool.not_not]
       rw [e1]
       cases us.any ((λx=>!Q04 x t) ∘ Quu r) <;> simp
     · intro x _
       unfold Qso
       rw [Jgd,Qab]
   · have hlt:(Qwq r us).length < us.length:=by
       apply Decidable.byContradiction
       intro hn
       apply ha
       have e:(us.filter λu=>inb u 0 (((Qi0 r).length:Int) - 1)).length = us.length:=by
        have:=List.length_filter_le (λu=>inb u 0 (((Qi0 r).length:Int) - 1)) us
        have e':Qwq r us = us.filter λu=>inb u 0 (((Qi0 r).length:Int) - 1):=rfl
        rw [e'] at hn
        omega
       intro u hu
       have:=List.length_filter_eq_length_iff.1 e u hu
       simp at this
       omega
     have e0:(((Qwq r us).length:Int) != (us.length:Int)) = true:=by simp; omega
     rw [e0,cond_true]
     have e1:us.all (uOk r t) = false:=by
      apply Bool.eq_false_iff.2
      intro he
      apply ha
      intro u hu
      have:=List.all_eq_true.1 he u hu
      simp only [uOk,Bool.and_eq_true] at this
      exact Qxd.1 this.1
     rw [e1,Bool.false_and]
theorem Q8k {fu:Nat} {r:Request} (h:Sm fu r) (us:List Int) (t:Typ) (hl:us.length ≤ 1048576):Qq4 fu r us t = some (Qz7 r us t):=by
 have hfu:=h.fu
 unfold Qq4 Qz7
 rw [Q03 h,Qab]
 cases hc:Qh9 r == 0
 · have:(Qh9 r != 0) = true:=by simp only [bne,hc]; rfl
   rw [this]; rfl
 · have:(Qh9 r != 0) = false:=by simp only [bne,hc]; rfl
   have hz:Qh9 r = 0:=by simpa using hc
   have hu:Qcg fu r = some (Qi0 r):=Jd9 h hz
   rw [this,cond_false,hu,Qab,Bool.true_and]
   have key:=lp us (λn (_:Unit) i=>Qf0 fu r us t (Qi0 r) n i) (λl _=>some (l.all (uOk r t) && Q4s r us t)) (by omega) ?_ ?_ fu () (by omega)
   · exact key
   · intro n _ i x xs hx hd ih
     simp only [Qf0.eq_2]
     unfold Qo8 Qr6 Qrh
     simp only [hd,cond_true,hx,Qab,Q5s,ih (),List.all_cons,uOk]
     cases (Q2x r x).isSome
     · rfl
     · simp only [Bool.not_true,cond_false,Je7 (show 2097153 ≤ fu by omega),Qab]
       cases Q04 (Quu r x) t <;> rfl
   · intro n _ i hd
     simp only [Qf0.eq_2]
     unfold Qo8 Qsd
     simp only [hd,cond_false,Q9q r us hl (show us.length < fu by omega),Qab,Jd7]
     show (bif decide (Qz6 r us ≤ Jaz t) then _ else _) = _
     unfold Q4s
     cases decide (Qz6 r us ≤ Jaz t) <;> simp
def chp (r:Request) (us:List Int) (s:Typ × Bool) (t:Typ):Typ × Bool :=
 bif Qz7 r us t && (!s.2 || (decide (t.fK < s.1.fK) || (t.fK == s.1.fK && decide (t.f8 < s.1.f8)))) then (t,true) else s
def Qxf (r:Request) (us:List Int):Typ × Bool:=r.fT.foldl (chp r us) (Jgp,false)
theorem Jea {fu:Nat} {r:Request} (h:Sm fu r) (us:List Int) (hl:us.length ≤ 1048576):Qob fu r us = some (Qxf r us):=by
 have hfu:=h.fu
 have ht:=h.types
 unfold Qob
 have key:=lp r.fT (λn (s:Typ × Bool) i=>Qeq fu r us n s.1 s.2 i) (λl s=>some (l.foldl (chp r us) s)) (by omega) ?_ ?_ fu (Jgp,false) (by omega)
 · exact key
 · intro n s i x xs hx hd ih
   simp only [Qeq.eq_2]
   unfold Qjv Qdt
   have ih':=λa b=>ih (a,b)
   simp only at ih'
   obtain ⟨b,f⟩:=s
   simp only [hd,cond_true,hx,Qab,Q7p h us x hl,ih',List.foldl_cons,chp]
   cases Qz7 r us x <;> cases f <;> cases decide (x.fK < b.fK) <;> cases x.fK == b.fK <;> cases decide (x.f8 < b.f8) <;> rfl
 · intro n s i hd
   simp only [Qeq.eq_2]
   unfold Qjv
   simp only [hd,cond_false]
   rfl
theorem Q8s {fu:Nat} {r:Request} (h:Sm fu r) (us:List Int) (hl:us.length ≤ 1048576):Qkt fu r us = some (Qxf r us):=by
 have hfu:=h.fu
 have ht:=h.types
 unfold Qkt
 have key:=lp r.fT (λn (s:Typ × Bool) i=>Qem fu r us n s.1 s.2 i) (λl s=>some (l.foldl (chp r us) s)) (by omega) ?_ ?_ fu (Jgp,false) (by omega)
 · exact key
 · intro n s i x xs hx hd ih
   simp only [Qem.eq_2]
   unfold Qjd Qdp
   have ih':=λa b=>ih (a,b)
   simp only at ih'
   obtain ⟨b,f⟩:=s
   simp only [hd,cond_true,hx,Qab,Q8k h us x hl,ih',List.foldl_cons,chp]
   cases Qz7 r us x <;> cases f <;> cases decide (x.fK < b.fK) <;> cases x.fK == b.fK <;> cases decide (x.f8 < b.f8) <;> rfl
 · intro n s i hd
   simp only [Qem.eq_2]
   unfold Qjd
   simp only [hd,cond_false]
   rfl
end Go.Proofs.YtpcmapfabndggaaGreat
/- spec's TypeById. -/
namespace Go.Proofs.YtpcmapfabndggaaGreat
open Go
open Enc (rd ow)
open Arg (argv)
open Ret (retv)
open Wf (wf)
theorem Qzp {fu:Nat} {r:Request} (h:Sm fu r) (id:Int):Qh5 fu r id = some (Qxm (Qtn r id)):=by
 have hfu:=h.fu
 have ht:=h.types
 unfold Qh5 Qtn
 refine lp r.fT (λn (_:Unit) i=>Qfs fu r id n i) (λl _=>some (Qxm (l.find? λt=>t.f8 == id))) (by omega) ?_ ?_ fu () (by omega)
 · intro n s i x xs hx hd ih
   simp only [Qfs.eq_2]
   unfold Qjp
   simp only [hd,cond_true,hx,Qab,ih (),List.find?_cons]
   cases x.f8 == id <;> rfl
 · intro n s i hd
   simp only [Qfs.eq_2]
   unfold Qjp
   simp only [hd,cond_false]
   rfl
end Go.Proofs.YtpcmapfabndggaaGreat
/- Gross and BoxOf, by spec and by impl. -/
namespace Go.Proofs.YtpcmapfabndggaaGreat
open Go
open Enc (rd ow)
open Arg (argv)
open Ret (retv)
open Wf (wf)
def Jjp:Box:=⟨0,0,0,0⟩
def Q7c (r:Request) (x:Carton):Int:=match Qtn r x.fO with
 | some t=>bif Qh9 r == 0 then t.f7 + Qv6 r x.fM else 0
 | none=>0
def Qub (r:Request) (x:Carton):Box:=match Qtn r x.fO with
 | some t=>bif Qh9 r == 0 then ⟨t.fW,t.fD,t.fH,t.f7 + Qv6 r x.fM⟩ else Jjp
 | none=>Jjp
theorem Jgv {r:Request} (hc:Qh9 r = 0) {id:Int} {t:Typ} (ht:Qtn r id = some t):Q15 t = true ∧ t ∈ r.fT ∧ t.f8 = id:=by
 have hm:=List.mem_of_find?_eq_some ht
 have hp:=List.find?_some ht
 exact ⟨Qyv (Qfv hc).1 t hm,hm,by simpa using hp⟩
theorem Q7w {r:Request} (hc:Qh9 r = 0) {id:Int} {t:Typ} (ht:Qtn r id = some t):0 ≤ t.f7 ∧ t.f7 ≤ 100000:=by
 have:=(Jgv hc ht).1
 simp only [Q15,Bool.and_eq_true,Qdz] at this
 omega
theorem Q5k {r:Request} (hc:Qh9 r = 0) {id:Int} {t:Typ} (ht:Qtn r id = some t) (us:List Int) (hl:us.length ≤ 1048576):w64 (t.f7 + Qv6 r us) = t.f7 + Qv6 r us:=by
 have h1:=Q7w hc ht
 have h2:=Q4j r us
 exact Qbp (by omega) (by omega)
theorem Q75 {fu:Nat} {r:Request} (h:Sm fu r) (x:Carton) (hl:x.fM.length ≤ 1048576):Qq7 fu r x = some (Q7c r x):=by
 have hfu:=h.fu
 unfold Qq7 Q7c
 rw [Qwd h,Qab,Q09]
 cases ht:Qtn r x.fO with
 | none=>rfl
 | some t =>
  rw [Qvx h]
  simp only [Option.isSome_some,Bool.not_true,cond_false,Qab]
  cases hc:Qh9 r == 0
  · rfl
  · have hc':Qh9 r = 0:=by simpa using hc
    unfold Qru
    rw [Jfo h _ hl (by omega)]
    simp only [Bool.not_true,cond_false,cond_true,Qab,Qxm,Q5k hc' ht _ hl]
theorem Q97 {fu:Nat} {r:Request} (h:Sm fu r) (x:Carton) (hl:x.fM.length ≤ 1048576):Qq5 fu r x = some (Q7c r x):=by
 have hfu:=h.fu
 unfold Qq5 Q7c
 rw [Qzp h,Qab,Q09,Q03 h,Qab]
 cases hc:Qh9 r == 0
 · have:(Qh9 r != 0) = true:=by simp only [bne,hc]; rfl
   rw [this]
   cases Qtn r x.fO <;> rfl
 · have hc':Qh9 r = 0:=by simpa using hc
   rw [show (Qh9 r != 0) = false by simp [hc'],cond_false]
   cases ht:Qtn r x.fO with
   | none=>rfl
   | some t =>
    unfold Qrx
    rw [Jh8 h _ hl (by omega)]
    simp only [Option.isSome_some,Bool.not_true,cond_false,cond_true,Qab,Qxm,Q5k hc' ht _ hl]
theorem Jdb {fu:Nat} {r:Request} (h:Sm fu r) (x:Carton) (hl:x.fM.length ≤ 1048576):Qq8 fu r x = some (Qub r x):=by
 unfold Qq8 Qub
 rw [Qwd h,Qab,Q09]
 cases ht:Qtn r x.fO with
 | none=>rfl
 | some t =>
  rw [Qvx h]
  simp only [Option.isSome_some,Bool.not_true,cond_false,Qab]
  cases hc:Qh9 r == 0
  · rfl
  · unfold Qry
    rw [Q75 h x hl]
    simp only [Q7c,ht,hc,Bool.not_true,cond_false,cond_true,Qab,Qxm]
theorem Q3v {fu:Nat} {r:Request} (h:Sm fu r) (x:Carton) (hl:x.fM.length ≤ 1048576):Qiu fu r x = some (Qub r x):=by
 unfold Qiu Qub
 rw [Qzp h,Qab,Q09,Q03 h,Qab]
 cases hc:Qh9 r == 0
 · have:(Qh9 r != 0) = true:=by simp only [bne,hc]; rfl
   rw [this]
   cases Qtn r x.fO <;> rfl
 · have hc':Qh9 r = 0:=by simpa using hc
   rw [show (Qh9 r != 0) = false by simp [hc'],cond_false]
   cases ht:Qtn r x.fO with
   | none=>rfl
   | some t =>
    unfold Qrv
    rw [Q97 h x hl]
    simp only [Q7c,ht,hc,Option.isSome_some,Bool.not_true,cond_false,cond_true,Qab,Qxm]
end Go.Proofs.YtpcmapfabndggaaGreat
/- OnPallet and PalletGram, by spec and by impl. -/
namespace Go.Proofs.YtpcmapfabndggaaGreat
open Go
open Enc (rd ow)
open Arg (argv)
open Ret (retv)
open Wf (wf)
def onL (k:Int):Int → List Spot → List Int
 | _,[]=>[]
 | i,s :: l=>bif s.fJ == k then i :: onL k (i + 1) l else onL k (i + 1) l
def onM (x:Plan) (k:Int):List Int:=bif x.fU.length == x.fQ.length then onL k 0 x.fU else []
theorem Q7n (k:Int):∀ (l:List Spot) (a i:Int),i ∈ onL k a l ↔ ∃ (j:Nat) (s:Spot),l[j]? = some s ∧ i = a + j ∧ s.fJ = k
 | [],a,i=>by simp [onL]
 | s :: l,a,i=>by
  have ih:=Q7n k l (a + 1) i
  constructor
  · intro h
    unfold onL at h
    cases hk:s.fJ == k
    · rw [hk,cond_false] at h
      obtain ⟨j,t,h1,h2,h3⟩:=ih.1 h
      exact ⟨j + 1,t,by simpa using h1,by omega,h3⟩
    · rw [hk,cond_true,List.mem_cons] at h
      rcases h with rfl | h
      · exact ⟨0,s,rfl,by omega,by simpa using hk⟩
      · obtain ⟨j,t,h1,h2,h3⟩:=ih.1 h
        exact ⟨j + 1,t,by simpa using h1,by omega,h3⟩
  · rintro ⟨j,t,h1,h2,h3⟩
    unfold onL
    cases j with
    | zero =>
     simp only [List.getElem?_cons_zero,Option.some.injEq] at h1
     subst h1
     rw [show (s.fJ == k) = true by simpa using h3,cond_true]
     simp; omega
    | succ j =>
     have:i ∈ onL k (a + 1) l:=ih.2 ⟨j,t,by simpa using h1,by omega,h3⟩
     cases s.fJ == k <;> simp [this]
theorem Q8n (k:Int):∀ (l:List Spot) (a:Int),(onL k a l).length ≤ l.length
 | [],_=>Nat.le_refl _
 | s :: l,a=>by
  have:=Q8n k l (a + 1)
  unfold onL
  cases s.fJ == k <;> simp <;> omega
theorem Q17 (x:Plan) (k:Int):(onM x k).length ≤ x.fU.length:=by
 unfold onM
 cases x.fU.length == x.fQ.length
 · simp
 · exact Q8n k _ 0
theorem Qyr {x:Plan} {k i:Int} (h:i ∈ onM x k):∃ c s,ix x.fQ i = some c ∧ ix x.fU i = some s ∧ s.fJ = k:=by
 unfold onM at h
 cases he:x.fU.length == x.fQ.length
 · rw [he] at h; simp at h
 · rw [he,cond_true] at h
   obtain ⟨j,s,h1,h2,h3⟩:=(Q7n k _ 0 i).1 h
   have hj:=(List.getElem?_eq_some_iff.1 h1).1
   have hl:x.fU.length = x.fQ.length:=by simpa using he
   have e:i = (j:Int):=by omega
   subst e
   exact ⟨_,s,Qxq (by omega),Jfv h1,h3⟩
theorem Jjv {fu:Nat} {x:Plan} (hl:x.fU.length ≤ 1048576) (hf:x.fU.length < fu) (k:Int):Qj9 fu x k = some (onM x k):=by
 unfold Qj9 onM
 cases he:x.fU.length == x.fQ.length
 · have:((x.fU.length:Int) != (x.fQ.length:Int)) = true:=by simp at he ⊢; omega
   rw [this]; rfl
 · have:((x.fU.length:Int) != (x.fQ.length:Int)) = false:=by simp at he ⊢; omega
   rw [this,cond_false,cond_true]
   have key:=Jfl x.fU (λn (o:List Int) i=>Qek fu x k n o i) (λpre xs o=>some (o ++ onL k pre.length xs)) (λpre xs o=>o.length + xs.length ≤ 1048576) (by omega) ?_ ?_ fu [] (by simp; omega) hf
   · simpa using key
   · intro n o pre s xs e hx hd hI ih
     simp only [List.length_cons] at hI
     simp only [Qek.eq_2]
     unfold Qj0 Qi2 onL
     rw [hd,cond_true,hx,Qab]
     cases s.fJ == k
     · rw [cond_false,cond_false,ih _ (by omega)]; simp
     · rw [cond_true,cond_true,ap1 (by simp; omega),Qab,ih _ (by simp; omega)]; simp
   · intro n o hd _
     simp only [Qek.eq_2]
     unfold Qj0
     rw [hd,cond_false]; simp [onL]
theorem Jj1 {fu:Nat} {x:Plan} (hl:x.fU.length ≤ 1048576) (hc:x.fQ.length ≤ 1048576) (hf:x.fU.length < fu) (hf':x.fQ.length < fu) (k:Int):Qj3 fu x k = some (onM x k):=by
 unfold Qj3 onM
 cases he:x.fU.length == x.fQ.length
 · have e:((x.fQ.length:Int) == (x.fU.length:Int)) = false:=by simp at he ⊢; omega
   obtain ⟨m,rfl⟩:∃ m,fu = m + 1:=⟨fu - 1,by omega⟩
   rw [Qc0.eq_2]
   unfold Qhf
   rw [e]
   cases decide ((0:Int) < (x.fQ.length:Int)) <;> rfl
 · have el:x.fU.length = x.fQ.length:=by simpa using he
   have e:((x.fQ.length:Int) == (x.fU.length:Int)) = true:=by simp; omega
   rw [cond_true]
   have key:=Jfl x.fU (λn (o:List Int) i=>Qc0 fu x k n o i) (λpre xs o=>some (o ++ onL k pre.length xs)) (λpre xs o=>o.length + xs.length ≤ 1048576) (by omega) ?_ ?_ fu [] (by simp; omega) hf
   · simpa using key
   · intro n o pre s xs e1 hx hd hI ih
     simp only [List.length_cons] at hI
     simp only [Qc0.eq_2]
     unfold Qhf Qny Qis onL
     rw [el] at hd
     rw [hd,cond_true,e,cond_true,hx,Qab]
     cases s.fJ == k
     · rw [cond_false,cond_false,ih _ (by omega)]; simp
     · rw [cond_true,cond_true,ap1 (by simp; omega),Qab,ih _ (by simp; omega)]; simp
   · intro n o hd _
     simp only [Qc0.eq_2]
     unfold Qhf
     rw [← el,hd,cond_false]; simp [onL]
def Jka:Carton:=⟨0,0,[]⟩
def Qz3 (x:Plan) (i:Int):Carton:=(ix x.fQ i).getD Jka
def pgM (r:Request) (x:Plan) (k:Int):Int:=Qwp ((onM x k).map λi=>Q7c r (Qz3 x i))
theorem Jdg (r:Request) (c:Carton) (hl:c.fM.length ≤ 1048576):0 ≤ Q7c r c ∧ Q7c r c ≤ 104857700000:=by
 unfold Q7c
 cases ht:Qtn r c.fO with
 | none=>simp
 | some t =>
  cases hc:Qh9 r == 0
  · simp
  · have h1:=Q7w (by simpa using hc) ht
    have h2:=Q4j r c.fM
    simp only [cond_true]
    omega
theorem Jkb {fu:Nat} {r:Request} (h:Sm fu r) {x:Plan} (hx:Sp x) (k:Int):Qkv fu r x k = some (pgM r x k):=by
 have hfu:=h.fu
 have h1:=hx.spots
 have h2:=Q17 x k
 unfold Qkv pgM
 rw [Jjv h1 (by omega),Qab]
 have key:=lpI (onM x k) (λn (s:Int) i=>Qeh fu r x (onM x k) n s i) (λl s=>some (s + Qwp (l.map λi=>Q7c r (Qz3 x i)))) (λl s=>0 ≤ s ∧ s + 104857700000 * l.length ≤ 104857700000 * 1048576 ∧ ∀ i ∈ l,∃ c,ix x.fQ i = some c) (by omega) ?_ ?_ fu 0 ⟨by omega,by omega,λi hi=>?_⟩ (by omega)
 · simpa using key
 · intro n s i j xs hj hd hI ih
   obtain ⟨c,hc⟩:=hI.2.2 j (by simp)
   have hcu:=hx.units c (Qd5 hc)
   have hg:=Jdg r c hcu
   have hI2:=hI.2.1
   simp only [List.length_cons] at hI2
   simp only [Qeh.eq_2]
   unfold Qih
   rw [hd,cond_true,hj,Qab,hc,Qab,Q75 h c hcu,Qab,Qbp (by omega) (by omega),ih _ ⟨by omega,by omega,λi hi=>hI.2.2 i (by simp [hi])⟩]
   simp only [List.map_cons,Qpq,Qz3,hc,Option.getD_some]
   congr 1
   omega
 · intro n s i hd _
   simp only [Qeh.eq_2]
   unfold Qih
   rw [hd,cond_false]; simp
 · obtain ⟨c,_,hc,_⟩:=Qyr hi
   exact ⟨c,hc⟩
theorem Jj9 {fu:Nat} {r:Request} (h:Sm fu r) {x:Plan} (hx:Sp x) (k:Int):Qka fu r x k = some (pgM r x k):=by
 have hfu:=h.fu
 have h1:=hx.spots
 have h0:=hx.cars
 have h2:=Q17 x k
 unfold Qka pgM
 rw [Jj1 h1 h0 (by omega) (by omega),Qab]
 have key:=lpI (onM x k) (λn (s:Int) i=>Qej fu r x (onM x k) n s i) (λl s=>some (s + Qwp (l.map λi=>Q7c r (Qz3 x i)))) (λl s=>0 ≤ s ∧ s + 104857700000 * l.length ≤ 104857700000 * 1048576 ∧ ∀ i ∈ l,∃ c,ix x.fQ i = some c) (by omega) ?_ ?_ fu 0 ⟨by omega,by omega,λi hi=>?_⟩ (by omega)
 · simpa using key
 · intro n s i j xs hj hd hI ih
   obtain ⟨c,hc⟩:=hI.2.2 j (by simp)
   have hcu:=hx.units c (Qd5 hc)
   have hg:=Jdg r c hcu
   have hI2:=hI.2.1
   simp only [List.length_cons] at hI2
   simp only [Qej.eq_2]
   unfold Qid
   rw [hd,cond_true,hj,Qab,hc,Qab,Q97 h c hcu,Qab,Qbp (by omega) (by omega),ih _ ⟨by omega,by omega,λi hi=>hI.2.2 i (by simp [hi])⟩]
   simp only [List.map_cons,Qpq,Qz3,hc,Option.getD_some]
   congr 1
   omega
 · intro n s i hd _
   simp only [Qej.eq_2]
   unfold Qid
   rw [hd,cond_false]; simp
 · obtain ⟨c,_,hc,_⟩:=Qyr hi
   exact ⟨c,hc⟩
end Go.Proofs.YtpcmapfabndggaaGreat
/- Lost of spec and of impl. -/
namespace Go.Proofs.YtpcmapfabndggaaGreat
open Go
open Enc (rd ow)
open Arg (argv)
open Ret (retv)
open Wf (wf)
def Qsg (l:List Carton):List Int:=(l.map (·.fM)).flatten
theorem Qwk (l:List Carton):(Qsg l).length = Q60 l:=by
 induction l with
 | nil=>rfl
 | cons c l ih =>
  have e:Qsg (c :: l) = c.fM ++ Qsg l:=rfl
  rw [e,List.length_append,ih]; rfl
theorem Jhh {fu:Nat} {x:Plan} (h:Sp x) (hf:1048577 ≤ fu):Qpy fu x = some (Qsg x.fQ):=by
 have hc:=h.cars
 have hl:=Qwk x.fQ
 have ha:=h.all
 unfold Qpy
 have:=lpI x.fQ (λn out i=>Qgp fu x n out i) (λxs out=>some (out ++ Qsg xs)) (λxs out=>out.length + (Qsg xs).length ≤ 1048576) (by omega) ?_ ?_ fu [] (by simp; omega) (by omega)
 · simpa using this
 · intro n out i c xs hx hd hI ih
   have e:Qsg (c :: xs) = c.fM ++ Qsg xs:=rfl
   rw [e,List.length_append] at hI
   simp only [Qgp.eq_2]
   unfold Ql2
   rw [hd,cond_true,hx,Qab,ap1 (by omega),Qab,ih _ (by simp; omega),e]
   simp
 · intro n out i hd hI
   simp only [Qgp.eq_2]
   unfold Ql2
   simp only [hd,cond_false]
   simp [Qsg]
theorem Jhc {fu:Nat} {x:Plan} (h:Sp x) (hf:1048577 ≤ fu):Qou fu x = some (Qsg x.fQ):=by
 have hc:=h.cars
 have hl:=Qwk x.fQ
 have ha:=h.all
 unfold Qou
 have:=lpI x.fQ (λn out i=>Qfu fu x n out i) (λxs out=>some (out ++ Qsg xs)) (λxs out=>out.length + (Qsg xs).length ≤ 1048576) (by omega) ?_ ?_ fu [] (by simp; omega) (by omega)
 · simpa using this
 · intro n out i c xs hx hd hI ih
   have e:Qsg (c :: xs) = c.fM ++ Qsg xs:=rfl
   rw [e,List.length_append] at hI
   simp only [Qfu.eq_2]
   unfold Qjk
   rw [hd,cond_true,hx,Qab,ap1 (by omega),Qab,ih _ (by simp; omega),e]
   simp
 · intro n out i hd hI
   simp only [Qfu.eq_2]
   unfold Qjk
   simp only [hd,cond_false]
   simp [Qsg]
end Go.Proofs.YtpcmapfabndggaaGreat
/- Mixes of spec and of impl. -/
namespace Go.Proofs.YtpcmapfabndggaaGreat
open Go
open Enc (rd ow)
open Arg (argv)
open Ret (retv)
open Wf (wf)
theorem Jis {fu:Nat} {gs:List (List Int)} (hl:gs.length ≤ 4) (hm:∀ g ∈ gs,g.length ≤ 4) (hfu:100 ≤ fu) (c:Int):Qp7 fu gs c = some (Ja4 gs c):=by
 unfold Qp7
 have:=Qtd gs (λn i=>Qgi fu gs c n i) (λg=>g.contains c) (by omega) (by
  intro n i x hx hd
  have:=hm x (Qd5 hx)
  simp only [Qgi.eq_2]
  unfold Ql3
  simp only [hd,cond_true,hx,Qab,Jeh (show x.length ≤ 1048576 by omega) (show x.length < fu by omega)]) (by
  intro n i hd
  simp only [Qgi.eq_2]
  unfold Ql3
  simp only [hd,cond_false]) fu (by omega)
 rw [this,Q20]
 unfold Ja4
 cases Qwr (λg=>g.contains c) gs <;> simp
end Go.Proofs.YtpcmapfabndggaaGreat
/- Check, by spec and by impl. -/
namespace Go.Proofs.YtpcmapfabndggaaGreat
open Go
open Enc (rd ow)
open Arg (argv)
open Ret (retv)
open Wf (wf)
theorem Ja9 {fu : Nat} {l : List Carton} (f : Carton → Option Bool) (g : Carton → Bool) (hg : ∀ x ∈ l, f x = some (g x)) (hl : l.length ≤ 1048576) (hf : l.length < fu) : Qbn fu l f = some (Qxo g l 0) := by
  unfold Qbn
  refine Qtd l (λn i => Qaz fu l f n i) g (by omega) ?_ ?_ fu hf
  · intro n i x hx hd
    simp only [Qaz.eq_2]
    unfold Qbu
    simp only [hd, cond_true, hx, Qab, hg x (Qd5 hx)]
  · intro n i hd
    simp only [Qaz.eq_2]
    unfold Qbu
    simp only [hd, cond_false]
theorem Jbi {fu : Nat} {l : List Carton} (f : Carton → Option Bool) (g : Carton → Bool) (hg : ∀ x ∈ l, f x = some (g x)) (hl : l.length ≤ 1048576) (hf : l.length < fu) : Qbf fu l f = some (l.any g) := by
  unfold Qbf
  rw [Ja9 f g hg hl hf, Qab, Qtq g l 0 (by omega)]
def Jee (x : Plan) : Bool := x.fQ.any λc => (c.fM.length : Int) == 0
theorem Jh0 {fu : Nat} {x : Plan} (h : Sp x) (hf : 1048577 ≤ fu) : Qn9 fu x = some (Jee x) := by
  have hc := h.cars
  unfold Qn9 Jee
  have key := lp x.fQ (λn (_ : Unit) i => Qfo fu x n i) (λl _ => some (l.any λc => (c.fM.length : Int) == 0)) (by omega) ?_ ?_ fu () (by omega)
  · exact key
  · intro n _ i c xs hx hd ih
    have ih := ih ()
    simp only [Qfo.eq_2]
    unfold Qjj
    rw [hd, cond_true, hx, Qab, ih, List.any_cons]
    cases (c.fM.length : Int) == 0 <;> rfl
  · intro n _ i hd
    simp only [Qfo.eq_2]
    unfold Qjj
    rw [hd, cond_false]; rfl
/-- each unit of the order once -/
def Q34 (r : Request) (x : Plan) : Bool := Jhk (Qsg x.fQ) (Qkd 0 (Qi0 r).length)
theorem Q56 {r : Request} {x : Plan} : Q34 r x = true ↔ (Qsg x.fQ).Perm (Qkd 0 (Qi0 r).length) := Jbq
theorem Jf1 {fu : Nat} {r : Request} (hfu : 2097153 ≤ fu) {x : Plan} (h : Sp x) : Qoo fu (Qi0 r) x = some (Q34 r x) := by
  have hul := Qyj r
  have hfl := Qwk x.fQ
  have ha := h.all
  unfold Qoo
  rw [Jhh h (by omega), Qab]
  by_cases hl : (Qsg x.fQ).length = (Qi0 r).length
  · rw [show (((Qsg x.fQ).length : Int) != ((Qi0 r).length : Int)) = false by simp; omega, cond_false]
    have key := lpN ((Qi0 r).length : Int) (λn (_ : Unit) i => Qfk fu (Qi0 r) (Qsg x.fQ) n i) (λl _ => some (l.all λu => (Qsg x.fQ).count u == 1)) (by omega) ?_ ?_ (Qi0 r).length fu () 0 (by omega) (by omega) (by omega)
    · rw [key]
      congr 1
      apply Bool.eq_iff_iff.2
      rw [Q56]
      constructor
      · intro hA
        refine (Q5x _ _ (by rw [Qen, hl]) λu hu => ?_).symm
        have h1 := List.all_eq_true.1 hA u hu
        have h2 : (Qkd 0 (Qi0 r).length).count u = 1 := by rw [List.Nodup.count (Qwt _ _), if_pos hu]
        have h3 : (Qsg x.fQ).count u = 1 := by simpa using h1
        omega
      · intro hp
        refine List.all_eq_true.2 λu hu => ?_
        have h2 : (Qkd 0 (Qi0 r).length).count u = 1 := by rw [List.Nodup.count (Qwt _ _), if_pos hu]
        have := hp.count_eq u
        simp; omega
    · intro n _ i xs h0 h1 hd ih
      have ih := ih ()
      simp only [Qfk.eq_2]
      unfold Qjl
      rw [hd, cond_true, Jiy (by omega) (by omega), Qab, Q7t, ih, List.all_cons]
      by_cases hc : (Qsg x.fQ).count i = 1
      · simp [hc]
      · rw [show (((Qsg x.fQ).count i : Int) != 1) = true by simp; omega, cond_true, show ((Qsg x.fQ).count i == 1) = false by simpa using hc]; rfl
    · intro n _ i hd
      simp only [Qfk.eq_2]
      unfold Qjl
      rw [hd, cond_false]; rfl
  · rw [show (((Qsg x.fQ).length : Int) != ((Qi0 r).length : Int)) = true by simp; omega, cond_true]
    congr 1
    symm
    apply Bool.eq_false_iff.2
    intro hb
    have := (Q56.1 hb).length_eq
    rw [Qen] at this
    exact hl this
theorem Q44 (a : Int) (n : Nat) : (Qkd a n).mergeSort (λx y => decide (x ≤ y)) = Qkd a n :=
  List.mergeSort_of_pairwise ((Qvq a n).imp λh => by simpa using (show _ ≤ _ by omega))
/-- what is right of a carton -/
def chB (r : Request) (c : Carton) : Bool := match Qtn r c.fO with | some t => Qz7 r c.fM t | none => false
def cgB (r : Request) (c : Carton) : Bool := c.fM.all λu => Ja4 (Qnj r) (Quu r u).fF == c.fE
def ccB (r : Request) (c : Carton) : Bool := (Qxf r c.fM).2 && (Qxf r c.fM).1.f8 == c.fO
theorem Jcm {fu : Nat} {r : Request} (h : Sm fu r) {x : Plan} (hx : Sp x) : Qov fu r x = some (x.fQ.all (chB r)) := by
  have hfu := h.fu
  have hc := hx.cars
  unfold Qov
  have key := lp x.fQ (λn (_ : Unit) i => Qds fu r x n i) (λl _ => some (l.all (chB r))) (by omega) ?_ ?_ fu () (by omega)
  · exact key
  · intro n _ i c xs e hd ih
    have ih := ih ()
    have hu := hx.units c (Qd5 e)
    simp only [Qds.eq_2]
    unfold Qji Qm8 Qn2
    rw [hd, cond_true, e, Qab, Qzp h, Qab, List.all_cons]
    unfold chB
    cases ht : Qtn r c.fO with
    | none => rfl
    | some t =>
      simp only [Qxm, Bool.not_true, cond_false]
      rw [Qab, Q8k h _ t hu, Qab, ih]
      cases Qz7 r c.fM t <;> rfl
  · intro n _ i hd
    simp only [Qds.eq_2]
    unfold Qji
    rw [hd, cond_false]; rfl
theorem Jci {fu : Nat} {r : Request} (h : Sm fu r) {x : Plan} (hx : Sp x) : Qn7 fu r (Qi0 r) x = some (x.fQ.all (cgB r)) := by
  have hfu := h.fu
  have hc := hx.cars
  unfold Qn7
  rw [Jcn h, Qab]
  have key := lp x.fQ (λn (_ : Unit) i => Qcc fu r (Qi0 r) x (Qnj r) n i) (λl _ => some (l.all (cgB r))) (by omega) ?_ ?_ fu () (by omega)
  · exact key
  · intro n _ i c xs e hd ih
    have ih := ih ()
    have hu := hx.units c (Qd5 e)
    simp only [Qcc.eq_2]
    unfold Qj1
    rw [hd, cond_true]
    have key2 := lp c.fM (λm (_ : Unit) j => Qdq fu (Qcc fu r (Qi0 r) x (Qnj r) n) r (Qi0 r) x (Qnj r) i m j) (λl _ => some (l.all (λu => Ja4 (Qnj r) (Quu r u).fF == c.fE) && xs.all (cgB r))) (by omega) ?_ ?_ fu () (by omega)
    · rw [key2]; rfl
    · intro m _ j u us e2 hd2 ih2
      have ih2 := ih2 ()
      simp only [Qdq.eq_2]
      unfold Qje Qm9 Qni
      simp only [e, Qab, hd2, cond_true, e2, Q5s, Jis (Qur r).1 (Qur r).2 (show 100 ≤ fu by omega), ih2, List.all_cons, bne]
      cases Ja4 (Qnj r) (Quu r u).fF == c.fE <;> rfl
    · intro m _ j hd2
      simp only [Qdq.eq_2]
      unfold Qje Qns
      simp only [e, Qab, hd2, cond_false, ih]
      rfl
  · intro n _ i hd
    simp only [Qcc.eq_2]
    unfold Qj1
    rw [hd, cond_false]; rfl
theorem Jbt {fu : Nat} {r : Request} (h : Sm fu r) {x : Plan} (hx : Sp x) : Qop fu r x = some (x.fQ.all (ccB r)) := by
  have hfu := h.fu
  have hc := hx.cars
  unfold Qop
  have key := lp x.fQ (λn (_ : Unit) i => Qdl fu r x n i) (λl _ => some (l.all (ccB r))) (by omega) ?_ ?_ fu () (by omega)
  · exact key
  · intro n _ i c xs e hd ih
    have ih := ih ()
    have hu := hx.units c (Qd5 e)
    simp only [Qdl.eq_2]
    unfold Qjm Qnv Qn1
    simp only [hd, cond_true, e, Qab, Q8s h _ hu, List.all_cons, ih, bne, ccB]
    cases (Qxf r c.fM).2 <;> cases (Qxf r c.fM).1.f8 == c.fO <;> rfl
  · intro n _ i hd
    simp only [Qdl.eq_2]
    unfold Qjm
    rw [hd, cond_false]; rfl
/-- the cartons and their places -/
def cs (x : Plan) : List (Carton × Spot) := x.fQ.zip x.fU
def Q54 (r : Request) (p : Carton × Spot) : Bool := Jbc r.fJ (Qub r p.1) p.2
def ovP (r : Request) (p q : Carton × Spot) : Bool := Q7d (Qub r p.1) p.2 (Qub r q.1) q.2
def Q4f (r : Request) : List (Carton × Spot) → List (Carton × Spot) → Bool
  | _, [] => true
  | pre, p :: l => pre.all (λq => !ovP r p q) && Q4f r (pre ++ [p]) l
theorem Q92 {x : Plan} (el : x.fU.length = x.fQ.length) : (cs x).length = x.fQ.length := by simp [cs]; omega
theorem Jgh {fu : Nat} {r : Request} (h : Sm fu r) {x : Plan} (hx : Sp x) (el : x.fU.length = x.fQ.length) : Qmk fu r x = some ((cs x).all (Q54 r)) := by
  have hfu := h.fu
  have hc := hx.cars
  have hz := Q92 el
  unfold Qmk
  have key := lp (cs x) (λn (_ : Unit) i => Qe1 fu r x n i) (λl _ => some (l.all (Q54 r))) (by omega) ?_ ?_ fu () (by omega)
  · exact key
  · intro n _ i p xs e hd ih
    have ih := ih ()
    obtain ⟨e1, e2⟩ := Qu9 e
    have hu := hx.units p.1 (Qd5 e1)
    rw [hz] at hd
    simp only [Qe1.eq_2]
    unfold Qi8
    simp only [hd, cond_true, e1, e2, Qab, Q3v h _ hu, Jhu, ih, List.all_cons, Q54]
    cases Jbc r.fJ (Qub r p.1) p.2 <;> rfl
  · intro n _ i hd
    rw [hz] at hd
    simp only [Qe1.eq_2]
    unfold Qi8
    rw [hd, cond_false]; rfl
theorem Jgt {fu : Nat} {r : Request} (h : Sm fu r) {x : Plan} (hx : Sp x) (el : x.fU.length = x.fQ.length) : Qot fu r x = some (Q4f r [] (cs x)) := by
  have hfu := h.fu
  have hc := hx.cars
  have hz := Q92 el
  unfold Qot
  have key := lpP (cs x) (λn (_ : Unit) i => Qdm fu r x n i) (λpre l _ => some (Q4f r pre l)) (by omega) ?_ ?_ fu () (by omega)
  · exact key
  · intro n _ pre p xs e0 e hd ih
    have ih := ih ()
    obtain ⟨e1, e2⟩ := Qu9 e
    have hu := hx.units p.1 (Qd5 e1)
    have hpl : pre.length ≤ (cs x).length := by rw [e0]; simp
    rw [hz] at hd
    simp only [Qdm.eq_2]
    unfold Qjh
    rw [hd, cond_true]
    have key2 := lp pre (λm (_ : Unit) j => Qfy fu (Qdm fu r x n) r x (pre.length : Int) m j) (λl _ => some (l.all (λq => !ovP r p q) && Q4f r (pre ++ [p]) xs)) (by omega) ?_ ?_ fu () (by omega)
    · rw [key2]; rfl
    · intro m _ j q qs f hd2 ih2
      have ih2 := ih2 ()
      have f' : ix (cs x) j = some q := by rw [e0]; exact Q6p f
      obtain ⟨f1, f2⟩ := Qu9 f'
      have hu2 := hx.units q.1 (Qd5 f1)
      simp only [Qfy.eq_2]
      unfold Qjf
      simp only [hd2, cond_true, e1, e2, f1, f2, Qab, Q3v h _ hu, Q3v h _ hu2, Jha, ih2, List.all_cons, ovP]
      cases Q7d (Qub r p.1) p.2 (Qub r q.1) q.2 <;> rfl
    · intro m _ j hd2
      simp only [Qfy.eq_2]
      unfold Qjf
      rw [hd2, cond_false, ih]; rfl
  · intro n _ hd
    rw [hz] at hd ⊢
    simp only [Qdm.eq_2]
    unfold Qjh
    rw [hd, cond_false]; rfl
/-- what is right of a pallet -/
def plB (r : Request) (x : Plan) (k : Int) : Bool :=
  !(((onM x k).length : Int) == 0) && (!(decide (pgM r x k > r.fJ.fV)) && (onM x k).all λi => (Qz3 x i).fE == (Qz3 x (ix (onM x k) 0 |>.getD 0)).fE)
theorem Q7u {x : Plan} {k : Int} (hne : (((onM x k).length : Int) == 0) = false) : ∃ i0 c0, ix (onM x k) 0 = some i0 ∧ ix x.fQ i0 = some c0 ∧ ∃ rest, onM x k = i0 :: rest := by
  cases hl : onM x k with
  | nil => simp [hl] at hne
  | cons i0 rest =>
    obtain ⟨c0, _, h1, _⟩ := Qyr (show i0 ∈ onM x k by rw [hl]; simp)
    exact ⟨i0, c0, rfl, h1, rest, rfl⟩
theorem Jgz {fu : Nat} {r : Request} (h : Sm fu r) {x : Plan} (hx : Sp x) : Qke fu r x = some ((Qkd 0 (Qxw x.fU).toNat).all (plB r x)) := by
  have hfu := h.fu
  have hc := hx.cars
  have hs := hx.spots
  have hb := Q4y x.fU
  unfold Qke
  rw [Jcr hs (by omega), Qab]
  have key := lpN (Qxw x.fU) (λn (_ : Unit) i => Qb1 fu r x (Qxw x.fU) n i) (λl _ => some (l.all (plB r x))) (by omega) ?_ ?_ (Qxw x.fU).toNat fu () 0 (by omega) (by omega) (by omega)
  · exact key
  · intro n _ k xs h0 h1 hd ih
    have ih := ih ()
    have hol := Q17 x k
    simp only [Qb1.eq_2]
    unfold Qic
    rw [hd, cond_true, Jj1 hs hc (by omega) (by omega), Qab, List.all_cons]
    generalize xs.all (plB r x) = A at ih ⊢
    unfold plB
    cases hne : ((onM x k).length : Int) == 0
    · rw [cond_false, Jj9 h hx, Qab, Bool.not_false, Bool.true_and]
      cases decide (pgM r x k > r.fJ.fV)
      · obtain ⟨i0, c0, g1, g2, rest, g3⟩ := Q7u hne
        rw [cond_false, g1, Option.getD_some, Bool.not_false, Bool.true_and]
        unfold Qja
        have e0 : Qz3 x i0 = c0 := by unfold Qz3; rw [g2]; rfl
        rw [e0]
        have key2 : ∀ (qs : List Int) (pre : List Int) (m : Nat), onM x k = pre ++ qs → qs.length < m → Qei fu (Qb1 fu r x (Qxw x.fU) n) x k (onM x k) m (pre.length : Int) = some (qs.all (λi => (Qz3 x i).fE == c0.fE) && A) := by
          intro qs
          induction qs with
          | nil =>
            intro pre m e hm
            obtain ⟨m, rfl⟩ : ∃ k, m = k + 1 := ⟨m - 1, by omega⟩
            rw [Qei.eq_2]
            unfold Qif Qjw
            rw [show decide ((pre.length : Int) < ((onM x k).length : Int)) = false from decide_eq_false (by rw [e]; simp), cond_false, ih]
            rfl
          | cons i qs ihq =>
            intro pre m e hm
            obtain ⟨m, rfl⟩ : ∃ k, m = k + 1 := ⟨m - 1, by omega⟩
            have hi : i ∈ onM x k := by rw [e]; simp
            obtain ⟨c, _, hci, _⟩ := Qyr hi
            have hpi : ix (onM x k) (pre.length : Int) = some i := by rw [e, Qq2]; simp
            have hpl : pre.length + 1 ≤ (onM x k).length := by rw [e]; simp
            rw [Qei.eq_2]
            unfold Qif
            rw [show decide ((pre.length : Int) < ((onM x k).length : Int)) = true from decide_eq_true (by omega), cond_true, hpi, Qab, hci, Qab, g1, Qab, g2, Qab, Qya _ (by omega)]
            have := ihq (pre ++ [i]) m (by rw [e]; simp) (by simp at hm; omega)
            rw [List.length_append, List.length_singleton] at this
            rw [this, List.all_cons, show Qz3 x i = c by unfold Qz3; rw [hci]; rfl]
            simp only [bne]
            cases c.fE == c0.fE <;> rfl
        have := key2 rest [i0] fu (by rw [g3]; rfl) (by have : (onM x k).length = rest.length + 1 := by rw [g3]; rfl
                                                        omega)
        rw [show ((1 : Int)) = (([i0] : List Int).length : Int) from rfl, this]
        conv => rhs; rw [g3]
        rw [List.all_cons, e0]
        simp
      · rfl
    · rfl
  · intro n _ i hd
    simp only [Qb1.eq_2]
    unfold Qic
    rw [hd, cond_false]; rfl
def Jdd (r : Request) (x : Plan) : Int :=
  bif !(Qh9 r == 0) then 1 else bif !(Q3b x) then 2 else bif Jee x then 2 else bif !(Q34 r x) then 3 else bif !(x.fQ.all (chB r)) then 4 else
  bif !(x.fQ.all (cgB r)) then 5 else bif !(x.fQ.all (ccB r)) then 6 else bif !((cs x).all (Q54 r)) then 7 else bif !(Q4f r [] (cs x)) then 8 else
  bif !((Qkd 0 (Qxw x.fU).toNat).all (plB r x)) then 9 else 0
theorem Qzx {x : Plan} (h : Q3b x = true) : x.fU.length = x.fQ.length := by
  unfold Q3b at h
  simp only [Bool.and_eq_true] at h
  simpa using h.1
theorem Jd3 {fu : Nat} {r : Request} (h : Sm fu r) {x : Plan} (hx : Sp x) : Qsy fu r x = some (Jdd r x) := by
  have hfu := h.fu
  unfold Qsy Jdd
  rw [Q03 h, Qab]
  cases hc : Qh9 r == 0
  · rw [show (Qh9 r != 0) = true by simp only [bne, hc]; rfl]; rfl
  · have hz : Qh9 r = 0 := by simpa using hc
    have hu : Qcg fu r = some (Qi0 r) := Jd9 h hz
    rw [show (Qh9 r != 0) = false by simp [hz], cond_false, Jih hx (by omega), Qab]
    cases hp : Q3b x
    · rfl
    · have el := Qzx hp
      unfold Qsb
      rw [Bool.not_true, cond_false, Jh0 hx (by omega), Qab]
      cases Jee x
      · rw [cond_false, hu, Qab, Jf1 hfu hx, Qab, Jcm h hx, Qab, Jci h hx, Qab, Jbt h hx, Qab, Jgh h hx el, Qab, Jgt h hx el, Qab, Jgz h hx, Qab]
        cases Q34 r x <;> cases x.fQ.all (chB r) <;> cases x.fQ.all (cgB r) <;> cases x.fQ.all (ccB r) <;> cases (cs x).all (Q54 r) <;> cases Q4f r [] (cs x) <;> cases (Qkd 0 (Qxw x.fU).toNat).all (plB r x) <;> rfl
      · rfl
end Go.Proofs.YtpcmapfabndggaaGreat
/- Check, by impl. -/
namespace Go.Proofs.YtpcmapfabndggaaGreat
open Go
open Enc (rd ow)
open Arg (argv)
open Ret (retv)
open Wf (wf)
theorem Jdq {r:Request} {id:Int} {t:Typ} (h:Qtn r id = some t):t ∈ r.fT:=List.mem_of_find?_eq_some h
theorem Q71 (r:Request) (us:List Int):∀ (l:List Typ) (s:Typ × Bool),(l.foldl (chp r us) s).2 = (s.2 || l.any (Qz7 r us))
 | [],s=>by simp
 | t :: l,s=>by
  rw [List.foldl_cons,Q71 r us l,List.any_cons]
  unfold chp
  obtain ⟨b,f⟩:=s
  cases Qz7 r us t <;> cases f <;> simp
  cases (decide (t.fK < b.fK) || t.fK == b.fK && decide (t.f8 < b.f8)) <;> simp
theorem Q6h {r:Request} {us:List Int} {t:Typ} (ht:t ∈ r.fT) (h:Qz7 r us t = true):(Qxf r us).2 = true:=by
 unfold Qxf
 rw [Q71]
 simp only [Bool.false_or]
 exact List.any_eq_true.2 ⟨t,ht,h⟩
theorem Ji0 {r:Request} {c:Carton} (h:chB r c = true):∀ u ∈ c.fM,0 ≤ u ∧ u < (Qi0 r).length:=by
 unfold chB at h
 intro u hu
 split at h
 · simp only [Qz7,Bool.and_eq_true] at h
   have:=List.all_eq_true.1 h.2.1 u hu
   simp only [uOk,Bool.and_eq_true] at this
   exact Qxd.1 this.1
 · cases h
theorem Q8r {r:Request} {u:Int} (hu:0 ≤ u ∧ u < (Qi0 r).length) {g:Int} (hg:0 ≤ g) :
    (Ja4 (Qnj r) (Quu r u).fF == g) = (match ix (Qnj r) g with | some l=>l.contains (Quu r u).fF | none=>false):=by
 have hi:=Qvv hu
 obtain ⟨i,l,h1,h2,h3⟩:=Je4 (Je6 hi)
 rw [h3]
 apply Bool.eq_iff_iff.2
 constructor
 · intro h
   have e:(i:Int) = g:=by simpa using h
   rw [← e,Jfv h1]
   simpa using h2
 · intro h
   cases hx:ix (Qnj r) g with
   | none=>rw [hx] at h; cases h
   | some m =>
    rw [hx] at h
    obtain ⟨g0,g1,g2⟩:=Qat hx
    have:=Q3c h1 g2 h2 (by simpa using h)
    simp; omega
theorem Jey {fu:Nat} {r:Request} (h:Sm fu r) {x:Plan} (hx:Sp x) (hg:∀ c ∈ x.fQ,0 ≤ c.fE):Qim fu r x =
    some (bif !(x.fQ.all (chB r)) then 4 else bif !(x.fQ.all (cgB r)) then 5 else bif !(x.fQ.all (ccB r)) then 6 else 0):=by
 have hfu:=h.fu
 have hc:=hx.cars
 unfold Qim
 have key:=lpI x.fQ (λn (_:Unit) i=>Qc3 fu r x n i) (λl _=>some (bif !(l.all (chB r)) then 4 else bif !(x.fQ.all (cgB r)) then 5 else bif !(x.fQ.all (ccB r)) then 6 else 0))
  (λl _=>l.all (chB r) = true → x.fQ.all (chB r) = true) (by omega) ?_ ?_ fu () (λh=>h) (by omega)
 · exact key
 · intro n _ i c xs e hd hI ih
   have hu:=hx.units c (Qd5 e)
   simp only [Qc3.eq_2]
   unfold Qhl Qio
   rw [hd,cond_true,e,Qab,Qwd h,Qab,List.all_cons]
   rw [List.all_cons] at hI
   cases ht:Qtn r c.fO with
   | none=>rw [show chB r c = false by unfold chB; rw [ht]]; rfl
   | some t =>
    simp only [Qxm,Bool.not_true,cond_false]
    rw [Q7p h _ t hu,Qab]
    have e1:chB r c = Qz7 r c.fM t:=by unfold chB; rw [ht]
    rw [e1] at hI ⊢
    cases hh:Qz7 r c.fM t
    · rfl
    · rw [hh,Bool.true_and] at hI
      rw [Bool.not_true,cond_false,ih () hI,Bool.true_and]
 · intro n _ i hd hI
   have hA:=hI rfl
   simp only [Qc3.eq_2]
   unfold Qhl
   rw [hd,cond_false,Jhz h,Qab]
   show _ = some (bif !(x.fQ.all (cgB r)) then 5 else bif !(x.fQ.all (ccB r)) then 6 else 0)
   have key2:=lp x.fQ (λn (_:Unit) i=>Qd1 fu r x (Qnj r) n i) (λl _=>some (bif !(l.all (cgB r)) then 5 else bif !(x.fQ.all (ccB r)) then 6 else 0)) (by omega) ?_ ?_ fu () (by omega)
   · exact key2
   · intro n _ i c xs e hd ih
     have ih:=ih ()
     have hu:=hx.units c (Qd5 e)
     have hin:=Ji0 (List.all_eq_true.1 hA c (Qd5 e))
     have hil:=Qv2 r c.fM
     simp only [Qd1.eq_2]
     unfold Qhm
     rw [hd,cond_true,e,Qab,Q2q h _ hu (by omega),Qab,Q1t hin]
     rw [Qv7 _ (λy=>!(match ix (Qnj r) c.fE with | some l=>l.contains y.fF | none=>false)) ?_ (by simp; omega) (by simp; omega),Qab,List.any_map,List.all_cons]
     · have e1:cgB r c = !(c.fM.any ((λy=>!(match ix (Qnj r) c.fE with | some l=>l.contains y.fF | none=>false)) ∘ Quu r)):=by
         unfold cgB
         rw [List.not_any_eq_all_not]
         apply Q23
         intro u hu'
         rw [Q8r (hin u hu') (hg c (Qd5 e))]
         simp only [Function.comp,Bool.not_not]
       rw [e1,ih]
       cases c.fM.any ((λy=>!(match ix (Qnj r) c.fE with | some l=>l.contains y.fF | none=>false)) ∘ Quu r) <;> simp
     · intro y _
       unfold Qjg
       have hg0:=hg c (Qd5 e)
       by_cases hgl:c.fE ≥ (Qnj r).length
       · have e0:ix (Qnj r) c.fE = none:=by
           cases hq:ix (Qnj r) c.fE with
           | none=>rfl
           | some l=>have:=(Qat hq).2.1; omega
         rw [e0,decide_eq_true hgl,cond_true]; rfl
       · have hlt:c.fE.toNat < (Qnj r).length:=by omega
         have e0:ix (Qnj r) c.fE = some (Qnj r)[c.fE.toNat]:=by
          have:=Qxq hlt
          rwa [show ((c.fE.toNat:Nat):Int) = c.fE by omega] at this
         have hgl':=(Qur r).2 _ (List.getElem_mem hlt)
         rw [e0,decide_eq_false hgl,cond_false,Qab,Jig (by omega) (by omega),Qab]
   · intro n _ i hd
     simp only [Qd1.eq_2]
     unfold Qhm
     rw [hd,cond_false]
     show _ = some (bif !(x.fQ.all (ccB r)) then 6 else 0)
     have key3:=lpI x.fQ (λn (_:Unit) i=>Qdw fu r x n i) (λl _=>some (bif !(l.all (ccB r)) then 6 else 0)) (λl _=>l.all (chB r) = true) (by omega) ?_ ?_ fu () hA (by omega)
     · exact key3
     · intro n _ i c xs e hd hI ih
       have hu:=hx.units c (Qd5 e)
       rw [List.all_cons,Bool.and_eq_true] at hI
       have hch:=hI.1
       have h2:(Qxf r c.fM).2 = true:=by
        unfold chB at hch
        split at hch
        · rename_i t ht
          exact Q6h (Jdq ht) hch
        · cases hch
       simp only [Qdw.eq_2]
       unfold Qhk
       rw [hd,cond_true,e,Qab,Jea h _ hu,Qab,ih () hI.2,List.all_cons,ccB,h2,Bool.true_and]
       simp only [bne]
       cases (Qxf r c.fM).1.f8 == c.fO <;> rfl
     · intro n _ i hd _
       simp only [Qdw.eq_2]
       unfold Qhk
       rw [hd,cond_false]; rfl
theorem Jdu {fu:Nat} {r:Request} (h:Sm fu r) {x:Plan} (hx:Sp x) (el:x.fU.length = x.fQ.length):Qmz fu r x =
    some (bif !((cs x).all (Q54 r)) then 7 else bif !(Q4f r [] (cs x)) then 8 else bif !((Qkd 0 (Qxw x.fU).toNat).all (plB r x)) then 9 else 0):=by
 have hfu:=h.fu
 have hc:=hx.cars
 have hs:=hx.spots
 have hz:=Q92 el
 have hb:=Q4y x.fU
 have bx_len:(((cs x).map λp=>Qub r p.1).length:Int) = x.fQ.length:=by simp [hz]
 unfold Qmz
 have key:=Jfl (cs x) (λn (o:List Box) i=>Qey fu r x n o i) (λ_ l _=>some (bif !(l.all (Q54 r)) then 7 else bif !(Q4f r [] (cs x)) then 8 else bif !((Qkd 0 (Qxw x.fU).toNat).all (plB r x)) then 9 else 0))
  (λpre l o=>o = pre.map λp=>Qub r p.1) (by omega) ?_ ?_ fu [] rfl (by omega)
 · exact key
 · intro n o pre p xs e0 e hd hI ih
   obtain ⟨e1,e2⟩:=Qu9 e
   have hu:=hx.units p.1 (Qd5 e1)
   have hpl:pre.length ≤ (cs x).length:=by rw [e0]; simp
   rw [hz] at hd
   simp only [Qey.eq_2]
   unfold Qiz
   rw [hd,cond_true,e1,Qab,Jdb h _ hu,Qab,e2,Qab,Ji5,Qab,List.all_cons,Q54]
   cases Jbc r.fJ (Qub r p.1) p.2
   · rfl
   · subst hI
     rw [Bool.not_true,cond_false,ap1 (by simp; omega),Qab,ih _ (by simp),Bool.true_and]
 · intro n o hd hI
   rw [hz] at hd ⊢
   simp only [Qey.eq_2]
   unfold Qiz
   rw [hd,cond_false]
   show _ = some (bif !(Q4f r [] (cs x)) then 8 else bif !((Qkd 0 (Qxw x.fU).toNat).all (plB r x)) then 9 else 0)
   subst hI
   have key2:=lpP (cs x) (λn (_:Unit) i=>Qc6 fu r x ((cs x).map λp=>Qub r p.1) n i) (λpre l _=>some (bif !(Q4f r pre l) then 8 else bif !((Qkd 0 (Qxw x.fU).toNat).all (plB r x)) then 9 else 0)) (by omega) ?_ ?_ fu () (by omega)
   · exact key2
   · intro n _ pre p xs e0 e hd ih
     have ih:=ih ()
     obtain ⟨e1,e2⟩:=Qu9 e
     have hu:=hx.units p.1 (Qd5 e1)
     have hpl:pre.length ≤ (cs x).length:=by rw [e0]; simp
     have b1:ix ((cs x).map λp=>Qub r p.1) (pre.length:Int) = some (Qub r p.1):=by
      rw [Qq2,List.getElem?_map]
      rw [Qq2] at e
      rw [e]; rfl
     simp only [Qc6.eq_2]
     unfold Qi7
     rw [bx_len,← hz,hd,cond_true]
     have key3:=lp pre (λm (_:Unit) j=>Qez fu (Qc6 fu r x ((cs x).map λp=>Qub r p.1) n) x ((cs x).map λp=>Qub r p.1) (pre.length:Int) m j) (λl _=>some (bif !(l.all (λq=>!ovP r p q) && Q4f r (pre ++ [p]) xs) then 8 else bif !((Qkd 0 (Qxw x.fU).toNat).all (plB r x)) then 9 else 0)) (by omega) ?_ ?_ fu () (by omega)
     · rw [key3]; rfl
     · intro m _ j q qs f hd2 ih2
       have ih2:=ih2 ()
       have f':ix (cs x) j = some q:=by rw [e0]; exact Q6p f
       obtain ⟨f1,f2⟩:=Qu9 f'
       obtain ⟨j0,j1,j2⟩:=Qat f'
       have b2:ix ((cs x).map λp=>Qub r p.1) j = some (Qub r q.1):=by
        unfold ix
        rw [if_pos j0,List.getElem?_map,j2]; rfl
       simp only [Qez.eq_2]
       unfold Qi3
       simp only [hd2,cond_true,b1,e2,b2,f2,Qab,Jg7,ih2,List.all_cons,ovP]
       cases Q7d (Qub r p.1) p.2 (Qub r q.1) q.2 <;> rfl
     · intro m _ j hd2
       simp only [Qez.eq_2]
       unfold Qi3
       rw [hd2,cond_false,ih]; rfl
   · intro n _ hd
     simp only [Qc6.eq_2]
     unfold Qi7
     rw [bx_len,← hz,hd,cond_false,Jfs hs (by omega),Qab]
     show _ = some (bif !((Qkd 0 (Qxw x.fU).toNat).all (plB r x)) then 9 else 0)
     have key4:=lpN (Qxw x.fU) (λn (_:Unit) i=>Qc5 fu r x (Qxw x.fU) n i) (λl _=>some (bif !(l.all (plB r x)) then 9 else 0)) (by omega) ?_ ?_ (Qxw x.fU).toNat fu () 0 (by omega) (by omega) (by omega)
     · exact key4
     · intro n _ k xs h0 h1 hd ih
       have ih:=ih ()
       have hol:=Q17 x k
       simp only [Qc5.eq_2]
       unfold Qit
       rw [hd,cond_true,Jjv hs (by omega),Qab,List.all_cons]
       generalize xs.all (plB r x) = A at ih ⊢
       unfold plB
       cases hne:((onM x k).length:Int) == 0
       · rw [cond_false,Jkb h hx,Qab,Bool.not_false,Bool.true_and]
         cases decide (pgM r x k > r.fJ.fV)
         · obtain ⟨i0,c0,g1,g2,rest,g3⟩:=Q7u hne
           unfold Qlt Qk4
           rw [cond_false,g1,Option.getD_some,Bool.not_false,Bool.true_and]
           have e0:Qz3 x i0 = c0:=by unfold Qz3; rw [g2]; rfl
           rw [e0,Q5g _ (λi=>!((Qz3 x i).fE == c0.fE)) ?_ (by omega) (by omega),Qab,ih]
           · rw [show (onM x k).all (λi=>(Qz3 x i).fE == c0.fE) = !((onM x k).any λi=>!((Qz3 x i).fE == c0.fE)) by rw [List.not_any_eq_all_not]; simp]
             cases (onM x k).any λi=>!((Qz3 x i).fE == c0.fE) <;> simp
           · intro i hi
             obtain ⟨c,_,hci,_⟩:=Qyr hi
             unfold Qnu
             rw [hci,Qab,g1,Qab,g2,Qab,show Qz3 x i = c by unfold Qz3; rw [hci]; rfl]
             rfl
         · rfl
       · rfl
     · intro n _ i hd
       simp only [Qc5.eq_2]
       unfold Qit
       rw [hd,cond_false]; rfl
theorem Jai {x:Plan} (h:Q3b x = true):∀ c ∈ x.fQ,0 ≤ c.fE ∧ c.fE ≤ 3:=by
 have el:=Qzx h
 unfold Q3b at h
 simp only [Bool.and_eq_true] at h
 intro c hc
 obtain ⟨i,hi⟩:=List.mem_iff_getElem?.1 hc
 have hlt:=(List.getElem?_eq_some_iff.1 hi).1
 have hz:(c,x.fU[i]'(by omega)) ∈ x.fQ.zip x.fU:=by
  apply List.mem_iff_getElem?.2
  refine ⟨i,List.getElem?_zip_eq_some.2 ⟨hi,List.getElem?_eq_getElem _⟩⟩
 have:=List.all_eq_true.1 h.2.2 _ hz
 simp only [Jco,Bool.and_eq_true,Qdz] at this
 omega
theorem Jer {fu:Nat} {r:Request} (h:Sm fu r) {x:Plan} (hx:Sp x):Qsx fu r x = some (Jdd r x):=by
 have hfu:=h.fu
 have hc:=hx.cars
 have hfl:=Qwk x.fQ
 have ha:=hx.all
 have hul:=Qyj r
 unfold Qsx Jdd
 rw [Qvx h,Qab]
 cases hz:Qh9 r == 0
 · rfl
 · rw [Bool.not_true,cond_false,Jjm hx (by omega),Qab]
   cases hp:Q3b x
   · rfl
   · have el:=Qzx hp
     rw [Bool.not_true,cond_false,Jbi (l:=x.fQ) (λy=>Qst fu y) (λc=>(c.fM.length:Int) == 0) (λc _=>rfl) hc (by omega),Qab]
     show (bif Jee x then _ else _) = _
     cases Jee x
     · rw [cond_false]
       unfold Qr4 Qc1
       rw [Jhc hx (by omega),Qab,Q61 (by omega),Qab,Jef h,Qab,Jbe _ (by omega) (by omega),Qab,Jdl _ _ (by simp; omega) (by simp; omega),Qab,Jey h hx (λc hc=>(Jai hp c hc).1),Qab,Jdu h hx el,Qab]
       have e1:decide ((Qsg x.fQ).mergeSort (λx y=>decide (x ≤ y)) = Qkd 0 (Qi0 r).length) = Q34 r x:=by
        unfold Q34 Jhk
        rw [Q44]
       rw [e1]
       cases Q34 r x
       · rfl
       · cases x.fQ.all (chB r)
         · rfl
         · cases x.fQ.all (cgB r)
           · rfl
           · cases x.fQ.all (ccB r) <;> rfl
     · rfl
end Go.Proofs.YtpcmapfabndggaaGreat
/- Feasible, by spec and by impl. -/
namespace Go.Proofs.YtpcmapfabndggaaGreat
open Go
open Enc (rd ow)
open Arg (argv)
open Ret (retv)
open Wf (wf)
def Qw9 (r:Request) (x:Plan):Bool:=Jdd r x == 0
theorem Jc8 {fu:Nat} {r:Request} (h:Sm fu r) {x:Plan} (hx:Sp x):Qj6 fu r x = some (Qw9 r x):=by
 unfold Qj6 Qw9
 rw [Jd3 h hx]; rfl
theorem Q8y {fu:Nat} {r:Request} (h:Sm fu r) {x:Plan} (hx:Sp x):Qg4 fu r x = some (Qw9 r x):=by
 unfold Qg4 Qw9
 rw [Jer h hx]; rfl
end Go.Proofs.YtpcmapfabndggaaGreat
