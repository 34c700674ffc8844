import Derived.Test.YtpcmapfabndggaaGreatDroppedBP1
set_option linter.unusedSimpArgs false
set_option linter.unusedVariables false
/- Kinds, groups and the units of a group, by spec and by impl. -/
namespace Go.Proofs.YtpcmapfabndggaaGreat
open Go
open Enc (rd ow)
open Arg (argv)
open Ret (retv)
open Wf (wf)
theorem Jd8 {fu:Nat} {l:List Int} (hl:l.length ≤ 1048576) (hf:l.length < fu) (x:Int):Qov fu l x = some (l.contains x):=by
 unfold Qov
 refine lp l (λn (_:Unit) i=>Qh2 fu l x n i) (λl _=>some (l.contains x)) (by omega) ?_ ?_ fu () hf
 · intro n s i y ys hy hd ih
   simp only [Qh2.eq_2]
   unfold Qpe
   simp only [hd,cond_true,hy,Qab,ih (),List.contains_cons]
   rw [Ji5 y x]
   cases x == y <;> rfl
 · intro n s i hd
   simp only [Qh2.eq_2]
   unfold Qpe
   simp only [hd,cond_false]
   rfl
theorem Jiz {fu:Nat} {l:List Int} (hl:l.length ≤ 1048576) (hf:l.length < fu) (x:Int):Qes fu l x = some (l.contains x):=by
 unfold Qes Qie
 have:=Qtb l (λn i=>Qcr fu l x n i) (λy=>x == y) (by omega) (by
  intro n i y hx hd
  simp only [Qcr.eq_2]
  unfold Qfu
  simp only [hd,cond_true,hx,Qab]) (by
  intro n i hd
  simp only [Qcr.eq_2]
  unfold Qfu
  simp only [hd,cond_false]) fu hf
 rw [this,Qab,Qto _ l 0 (by omega),List.contains_eq_any_beq]
theorem Jg6 {fu:Nat} {p:List Pair} (hp:p.length ≤ 1048576) (hpf:p.length < fu) {g:List Int} (hl:g.length ≤ 1048576) (hf:g.length < fu) (c:Int):Qp9 fu p g c = some (g.all (Q1t p c)):=by
 unfold Qp9
 refine lp g (λn (_:Unit) i=>Qe9 fu p g c n i) (λl _=>some (l.all (Q1t p c))) (by omega) ?_ ?_ fu () hf
 · intro n s i y ys hy hd ih
   simp only [Qe9.eq_2]
   unfold Ql4 Qpm
   simp only [hd,cond_true,hy,Qab,ih (),Jgp hp hpf,List.all_cons,Q1t]
   cases Qty p y c <;> cases Qty p c y <;> rfl
 · intro n s i hd
   simp only [Qe9.eq_2]
   unfold Ql4
   simp only [hd,cond_false]
   rfl
theorem Jhu {fu:Nat} {r:Request} (h:Sm fu r):Qpq fu r = some (Qz2 r):=by
 have hfu:=h.fu
 have h1:=h.items
 unfold Qpq Qz2
 rw [Q0q h,Qab]
 by_cases hc:Qh3 r = 0
 · rw [show (Qh3 r != 0) = false by simp [hc],show (Qh3 r == 0) = true by simp [hc],cond_false,cond_true]
   have e27:∀ (k:List Int → Int → Option (List Int)) (out:List Int) (c:Int),Qd8 fu k r out c fu false 0 = bif r.fG.any (λx=>x.fF == c) then (Qac (Qhx 8 out [c]) λx=>k x (w64 (c + 1))) else k out (w64 (c + 1)):=by
    intro k out c
    refine lp r.fG (λn f i=>Qd8 fu k r out c n f i) (λl f=>bif f || l.any (λx=>x.fF == c) then (Qac (Qhx 8 out [c]) λx=>k x (w64 (c + 1))) else k out (w64 (c + 1))) (by omega) ?_ ?_ fu false (by omega)
    · intro n f i x xs hx hd ih
      simp only [Qd8.eq_2]
      unfold Qlg Qkl
      simp only [hd,cond_true,hx,Qab,ih,List.any_cons]
      cases f
      · rfl
      · rfl
    · intro n f i hd
      simp only [Qd8.eq_2]
      unfold Qlg Qkt
      simp only [hd,cond_false,List.any_nil,Bool.or_false]
   have:=Jai 4 (λn out i=>Qdc fu r n out i) (λxs out=>some (out ++ xs.filter λc=>r.fG.any λx=>x.fF == c)) (λxs out=>out.length + xs.length ≤ 4) (by omega) ?_ ?_ 4 fu [] 0 (by omega) (by omega) (by omega) (by simp [Qj3])
   · simpa using this
   · intro n out i xs h0 h1 hd hI ih
     simp only [List.length_cons] at hI
     simp only [Qdc.eq_2]
     unfold Qk2
     simp only [hd,cond_true,e27]
     cases hb:r.fG.any λx=>x.fF == i
     · rw [cond_false,ih out (by omega)]
       simp [hb]
     · rw [cond_true,ap1 (by simp; omega),Qab,ih _ (by simp; omega)]
       simp [hb]
   · intro n out i hd hI
     simp only [Qdc.eq_2]
     unfold Qk2
     simp only [hd,cond_false]
     simp
 · rw [show (Qh3 r != 0) = true by simp [hc],show (Qh3 r == 0) = false by simp [hc],cond_false,cond_true]
theorem Q93 {fu:Nat} {l:List Int} (hl:l.length ≤ 1048576):∃ k,Qkx fu l = some k ∧ k.Pairwise (· < ·) ∧ ∀ x,x ∈ k ↔ x ∈ l:=by
 unfold Qkx Qct Qc2 Qj7
 have hp:=List.mergeSort_perm l (λx y=>decide (x ≤ y))
 have hs:=Qsz l
 rw [ap1 (by simp; omega),Qab,Qab,List.nil_append]
 unfold Q2t
 rw [if_pos (by omega),Qab]
 unfold Jhj
 rw [if_pos (by rw [hp.length_eq]; omega),Qab]
 obtain ⟨h1,h2⟩:=Q0x _ hs
 exact ⟨_,rfl,h1,λx=>(h2 x).trans hp.mem_iff⟩
theorem Q0r {fu:Nat} {l:List Int} (hl:l.length ≤ 1048576) (hs:l.Pairwise (· < ·)):Qkx fu l = some l:=by
 obtain ⟨k,h1,h2,h3⟩:=Q93 (fu:=fu) hl
 rw [h1,Q8f h2 hs h3]
theorem Jie {fu:Nat} {r:Request} (h:Sm fu r):Qp3 fu r = some (Qz2 r):=by
 have hfu:=h.fu
 have h1:=h.items
 unfold Qp3
 rw [Qvw h,Qab]
 by_cases hc:Qh3 r = 0
 · rw [show (Qh3 r == 0) = true by simp [hc],Bool.not_true,cond_false]
   have:=lpI r.fG (λn out i=>Qgq fu r n out i) (λxs out=>Qac (Qkx fu (out ++ xs.map (·.fF))) λx=>some x) (λxs out=>out.length + xs.length ≤ 1048576) (by omega) ?_ ?_ fu [] (by simpa using h1) (by omega)
   · rw [List.nil_append] at this
     refine this.trans ?_
     obtain ⟨k,e1,e2,e3⟩:=Q93 (fu:=fu) (l:=r.fG.map (·.fF)) (by simpa using h1)
     rw [e1,Qab]
     congr 1
     refine Q8f e2 (Qt4 r) λx=>?_
     rw [e3]
     unfold Qz2
     rw [show (Qh3 r == 0) = true by simp [hc],cond_true,List.mem_filter,Qmb,List.any_eq_true,List.mem_map]
     constructor
     · rintro ⟨y,hy,rfl⟩
       have:=(Qsu (Qfq hc).1).1 y hy
       simp only [Qxl,Bool.and_eq_true,Qd3] at this
       exact ⟨by omega,y,hy,by simp⟩
     · rintro ⟨_,y,hy,e⟩
       exact ⟨y,hy,by simpa using e⟩
   · intro n out i x xs hx hd hI ih
     simp only [List.length_cons] at hI
     simp only [Qgq.eq_2]
     unfold Qlb
     simp only [hd,cond_true,hx,Qab]
     rw [ap1 (by simp; omega),Qab,ih _ (by simp; omega)]
     simp
   · intro n out i hd hI
     simp only [Qgq.eq_2]
     unfold Qlb
     simp only [hd,cond_false]
     simp
 · rw [show (Qh3 r == 0) = false by simp [hc],Bool.not_false,cond_true]
   unfold Qz2
   rw [show (Qh3 r == 0) = false by simp [hc],cond_false]
theorem Q30 {α:Type} (g:α → Bool) (x:α):∀ (l:List α),Qwq g (l ++ [x]) = match Qwq g l with | some i=>some i | none=>bif g x then some l.length else none
 | []=>by simp [Qwq]
 | y :: ys=>by
  simp only [List.cons_append,Qwq]
  cases g y
  · simp only [cond_false]
    rw [Q30 g x ys]
    cases Qwq g ys <;> simp
    cases g x <;> simp
  · rfl
def atB {α:Type} (g:α → Bool) (l:List α) (i:Int):Bool:=match ix l i with | some x=>g x | none=>false
def Jc9 {α:Type} (g:α → Bool) (l:List α) (a i:Int):Int:=bif atB g l i then i else a
theorem Qyz {α:Type} (g:α → Bool) (l:List α):∀ (m:Nat) (a:Int),m ≤ l.length → (Qvh m).foldl (Jc9 g l) a = match Qwq g (l.take m) with | some i=>(i:Int) | none=>a
 | 0,a,_=>by simp [Qvh,Qwq]
 | m + 1,a,h=>by
  simp only [Qvh,List.foldl_cons]
  rw [Qyz g l m _ (by omega),List.take_succ_eq_append_getElem (by omega),Q30,List.length_take,Nat.min_eq_left (by omega)]
  unfold Jc9 atB
  rw [Qxs (by omega)]
  cases Qwq g (l.take m) with
  | some i=>rfl
  | none =>
   simp only
   cases g l[m] <;> rfl
theorem Q11 {α:Type} (g:α → Bool):∀ (l:List α) (i:Int),Qxn g l i = match Qwq g l with | some j=>i + j | none=>-1
 | [],i=>rfl
 | x :: xs,i=>by
  simp only [Qxn,Qwq]
  cases g x
  · simp only [cond_false]
    rw [Q11 g xs (i + 1)]
    cases Qwq g xs with
    | none=>rfl
    | some j =>
     show i + 1 + (j:Int) = i + ((j + 1:Nat):Int)
     omega
  · simp
theorem Jcu {p:List Pair} {out:List (List Int)} {c:Int} {n:Nat} (h:okG n out) (hn:n ≤ 1048576) {β:Type} (k:List (List Int) → Option β) (a:Int) (ha:a = match Qwq (λg=>g.all (Q1t p c)) out with | some i=>(i:Int) | none=>-1) :
    (bif (decide (a < 0)) then Qac (Qhx 24 out [([c]:List Int)]) λx=>k x else Qac (ix out a) λx=>Qac (Qhx 8 x (([c]:List Int))) λy=>Qac (ix out a) λz=>k (Qge out a y)) = k (Q59 p out c):=by
 obtain ⟨h1,h2⟩:=h
 unfold Q59
 cases hf:Qwq (λg=>g.all (Q1t p c)) out with
 | none =>
  rw [hf] at ha
  simp only at ha
  subst ha
  rw [Qco (by simp),ap1 (by simp; omega),Qab]
 | some i =>
  rw [hf] at ha
  simp only at ha
  subst ha
  obtain ⟨x,hx,_⟩:=Qvt hf
  have:=h2 x (List.mem_of_getElem? hx)
  rw [Qbb (by simp),Qq5,hx,Qab,ap1 (by simp; omega),Qab,Qab]
  simp [Qge,hx]
theorem Jha {fu:Nat} {p:List Pair} (hp:p.length ≤ 1048576) (hfu:2097153 ≤ fu) {l:List Int} (hl:l.length ≤ 1048576):Qr7 fu p l = some (((Qj3 0 4).filter l.contains).foldl (Q59 p) []):=by
 unfold Qr7
 have e27:∀ (k:List (List Int) → Int → Option (List (List Int))) (out:List (List Int)) (c:Int),okG 4 out → Qew fu k p out c fu (-1) (w64 ((out.length:Int) - 1)) = k (Q59 p out c) (w64 (c + 1)):=by
  intro k out c ho
  obtain ⟨R,hR⟩:∃ R:Int → Option (List (List Int)),R = λa=>bif (decide (a < 0)) then Qac (Qhx 24 out [([c]:List Int)]) λx=>k x (w64 (c + 1)) else Qac (ix out a) λx=>Qac (Qhx 8 x (([c]:List Int))) λy=>Qac (ix out a) λz=>k (Qge out a y) (w64 (c + 1)):=⟨_,rfl⟩
  have:=lpD out.length (λn a i=>Qew fu k p out c n a i) (λxs a=>R (xs.foldl (Jc9 (λg=>g.all (Q1t p c)) out) a)) (by have:=ho.1; omega) ?_ ?_ fu (-1) (by have:=ho.1; omega)
  · rw [this,hR]
    refine Jcu (p:=p) ho (by omega) (λx=>k x (w64 (c + 1))) _ ?_
    rw [Qyz (λg=>g.all (Q1t p c)) out out.length (-1) (Nat.le_refl _),List.take_length]
  · intro n a i xs h0 h1 hd ih
    simp only [Qew.eq_2]
    unfold Qnx Qmw
    obtain ⟨j,rfl⟩:∃ j:Nat,i = j:=⟨i.toNat,by omega⟩
    have hj:j < out.length:=by omega
    have hg:=ho.2 _ (List.getElem_mem hj)
    simp only [hd,cond_true,Qxs hj,Qab,Jg6 hp (by omega) (show out[j].length ≤ 1048576 by omega) (show out[j].length < fu by omega),ih,List.foldl_cons]
    have e:Jc9 (λg=>g.all (Q1t p c)) out a (j:Int) = bif out[j].all (Q1t p c) then (j:Int) else a:=by unfold Jc9 atB; rw [Qxs hj]
    rw [e]
    cases out[j].all (Q1t p c) <;> rfl
  · intro n a i hd
    simp only [Qew.eq_2]
    unfold Qnx Qhb
    simp only [hd,cond_false,List.foldl_nil,hR]
 have:=Jai 4 (λn out i=>Qd4 fu p l n out i) (λxs out=>some ((xs.filter l.contains).foldl (Q59 p) out)) (λxs out=>∃ m,m + xs.length ≤ 4 ∧ okG m out) (by omega) ?_ ?_ 4 fu [] 0 (by omega) (by omega) (by omega) ⟨0,by simp [Qj3],by simp,by simp⟩
 · exact this
 · intro n out i xs h0 h1 hd hI ih
   obtain ⟨m,hm,ho⟩:=hI
   simp only [List.length_cons] at hm
   simp only [Qd4.eq_2]
   unfold Qnk Qhb
   simp only [hd,cond_true,Jd8 hl (show l.length < fu by omega),Qab]
   cases hb:l.contains i
   · rw [Bool.not_false,cond_true,ih out ⟨m,by omega,ho⟩,List.filter_cons_of_neg (by rw [hb]; simp)]
   · rw [Bool.not_true,cond_false,e27 _ out i ⟨by have:=ho.1; omega,λg hg=>by have:=ho.2 g hg; omega⟩,ih _ ⟨m + 1,by omega,Q4p i ho⟩,List.filter_cons_of_pos hb,List.foldl_cons]
 · intro n out i hd hI
   simp only [Qd4.eq_2]
   unfold Qnk
   simp only [hd,cond_false]
   simp
theorem Q62 (r:Request):(Qj3 0 4).filter (Qz2 r).contains = Qz2 r :=
 Q8f ((Qvk 0 4).filter _) (Qt4 r) λx=>by
  rw [List.mem_filter,Qmb]
  constructor
  · rintro ⟨_,h⟩; simpa using h
  · intro h; have:=Q5d h; exact ⟨by omega,by simpa using h⟩
theorem Jb7 {fu:Nat} {r:Request} (h:Sm fu r):Qg0 fu r = some (Qn2 r):=by
 unfold Qg0 Qn2
 rw [Jhu h,Qab,Jha h.pairs h.fu (by have:=Q1v r; omega),Qab,Q62]
theorem Jiw {fu:Nat} {p:List Pair} (hp:p.length ≤ 1048576) (hpf:p.length < fu) (a b:Int):Qr4 fu p a b = some (Q1t p a b):=by
 unfold Qr4 Q1t
 simp only [Je7 hp hpf,Qab]
 cases Qty p a b <;> rfl
theorem Q52 {fu:Nat} {l:List Int} (f:Int → Option Bool) (g:Int → Bool) (hg:∀ x ∈ l,f x = some (g x)) (hl:l.length ≤ 1048576) (hf:l.length < fu):Qc4 fu l f = some (Qxn g l 0):=by
 unfold Qc4
 refine Qtb l (λn i=>Qbz fu l f n i) g (by omega) ?_ ?_ fu hf
 · intro n i x hx hd
   simp only [Qbz.eq_2]
   unfold Qef
   simp only [hd,cond_true,hx,Qab,hg x (Qd5 hx)]
 · intro n i hd
   simp only [Qbz.eq_2]
   unfold Qef
   simp only [hd,cond_false]
theorem Q5q {fu:Nat} {l:List Int} (f:Int → Option Bool) (g:Int → Bool) (hg:∀ x ∈ l,f x = some (g x)) (hl:l.length ≤ 1048576) (hf:l.length < fu):Qcm fu l f = some (l.any g):=by
 unfold Qcm
 rw [Q52 f g hg hl hf,Qab,Qto g l 0 (by omega)]
theorem Q9j {fu:Nat} {l:List (List Int)} (f:List Int → Option Bool) (g:List Int → Bool) (hg:∀ x ∈ l,f x = some (g x)) (hl:l.length ≤ 1048576) (hf:l.length < fu):Qdw fu l f = some (Qxn g l 0):=by
 unfold Qdw
 refine Qtb l (λn i=>Qbv fu l f n i) g (by omega) ?_ ?_ fu hf
 · intro n i x hx hd
   simp only [Qbv.eq_2]
   unfold Qdu
   simp only [hd,cond_true,hx,Qab,hg x (Qd5 hx)]
 · intro n i hd
   simp only [Qbv.eq_2]
   unfold Qdu
   simp only [hd,cond_false]
theorem Jgt {fu:Nat} {p:List Pair} (hp:p.length ≤ 1048576) (hfu:2097153 ≤ fu) {l:List Int} (hl:l.length ≤ 4) (hs:l.Pairwise (· < ·)) (hm:∀ c ∈ l,0 ≤ c ∧ c < 4):Qrw fu p l = some (l.foldl (Q59 p) []):=by
 unfold Qrw
 rw [Q0r (by omega) hs,Qab]
 have:=lpI l (λn out i=>Qev fu p l n out i) (λxs out=>some (xs.foldl (Q59 p) out)) (λxs out=>(∃ m,m + xs.length ≤ 4 ∧ okG m out) ∧ ∀ c ∈ xs,0 ≤ c ∧ c < 4) (by omega) ?_ ?_ fu [] ⟨⟨0,by simpa using hl,by simp,by simp⟩,hm⟩ (by omega)
 · exact this
 · intro n out i c xs hx hd hI ih
   obtain ⟨⟨m,hm,ho⟩,hc⟩:=hI
   simp only [List.length_cons] at hm
   have hc0:=hc c (by simp)
   simp only [Qev.eq_2]
   unfold Qna Qil
   simp only [hd,cond_true,hx,Qab,Q43]
   rw [show inb c 0 3 = true by simp; omega,Bool.not_true,cond_false]
   rw [Q9j (λy=>Qor fu y p c) (λg=>g.all (Q1t p c)) (λg hg=>by
    have hgl:=ho.2 g hg
    unfold Qor
    rw [Q5q (λy=>Qkr fu y p c) (λx=>!Q1t p c x) (λx _=>by
     unfold Qkr
     rw [Jiw hp (by omega),Qab]) (by omega) (by omega),Qab]
    simp [List.any_eq_not_all_not]) (by have:=ho.1; omega) (by have:=ho.1; omega),Qab]
   rw [Jcu (p:=p) ho (by omega) (λx=>Qev fu p l n x (w64 (i + 1))) (Qxn (λg=>g.all (Q1t p c)) out 0) (by
    rw [Q11]
    cases Qwq (λg=>g.all (Q1t p c)) out <;> simp)]
   rw [ih _ ⟨⟨m + 1,by omega,Q4p c ho⟩,λy hy=>hc y (by simp [hy])⟩]
   rfl
 · intro n out i hd hI
   simp only [Qev.eq_2]
   unfold Qna
   simp only [hd,cond_false]
   rfl
theorem Ji8 {fu:Nat} {r:Request} (h:Sm fu r):Qop fu r = some (Qn2 r):=by
 unfold Qop
 rw [Qvw h,Qab]
 by_cases hc:Qh3 r = 0
 · rw [show (Qh3 r == 0) = true by simp [hc],Bool.not_true,cond_false,Jie h,Qab,Jgt h.pairs h.fu (Q1v r) (Qt4 r) (λc hc=>Q5d hc),Qab]
   rfl
 · rw [show (Qh3 r == 0) = false by simp [hc],Bool.not_false,cond_true]
   unfold Qn2 Qz2
   rw [show (Qh3 r == 0) = false by simp [hc],cond_false]
   rfl
theorem Jek (r:Request):w64 (((Qn2 r).length:Int) - 1) = ((Qn2 r).length:Int) - 1:=by
 have:=(Quz r).1
 exact Qbp (by omega) (by omega)
end Go.Proofs.YtpcmapfabndggaaGreat
/- Load of units, room for one more, units that may lie beside: by spec and by impl. -/
namespace Go.Proofs.YtpcmapfabndggaaGreat
open Go
open Enc (rd ow)
open Arg (argv)
open Ret (retv)
open Wf (wf)
theorem Jbr (r:Request) (x:Int) (xs:List Int):Qz4 r (x :: xs) = Q9q (Qu0 r x) + Qz4 r xs:=by
 unfold Qz4 Qxg Qu0
 cases hm:Q1w r x with
 | none=>simp [List.filterMap_cons,hm,Jci]
 | some y=>simp [List.filterMap_cons,hm]
theorem Q6g (r:Request) (x:Int) (xs:List Int):Qv9 r (x :: xs) = (Qu0 r x).fV + Qv9 r xs:=by
 unfold Qv9 Qxg Qu0
 cases hm:Q1w r x with
 | none=>simp [List.filterMap_cons,hm,Q63]
 | some y=>simp [List.filterMap_cons,hm]
theorem Q7o {fu:Nat} (r:Request) (us:List Int) (hl:us.length ≤ 1048576) (hf:us.length < fu):Qqx fu r (Qim r) us = some ⟨Qz4 r us,Qv9 r us⟩:=by
 unfold Qqx
 have key:=lpI us (λn s i=>Qgu fu r (Qim r) us n s i) (λl s=>some (⟨s.fvol + Qz4 r l,s.fgram + Qv9 r l⟩:L7))
  (λl s=>0 ≤ s.fvol ∧ s.fvol + 8000000000 * l.length ≤ 8000000000 * 1048576 ∧ 0 ≤ s.fgram ∧ s.fgram + 100000 * l.length ≤ 100000 * 1048576) (by omega) ?_ ?_ fu ⟨0,0⟩ ⟨by simp,by simp; omega,by simp,by simp; omega⟩ hf
 · simpa using key
 · intro n s i x xs hx hd hI ih
   simp only [Qgu.eq_2]
   unfold Qqj Qsn Qss
   simp only [hd,cond_true,hx,Qab,Q6p,Je0]
   have hv:=Q87 (Qu0 r x).fW (Qu0 r x).fH (Qu0 r x).fD
   have hg:=Q3p r x
   obtain ⟨a1,a2,a3,a4⟩:=hI
   simp only [List.length_cons] at a2 a4
   rw [Qbp (n:=s.fvol + _) (by omega) (by omega),Qbp (n:=s.fgram + _) (by omega) (by omega),ih _ ⟨by simp; omega,by simp; omega,by simp; omega,by simp; omega⟩,Jbr,Q6g,show Q6r (Qu0 r x).fW (Qu0 r x).fH (Qu0 r x).fD = Q9q (Qu0 r x) from rfl]
   simp only [Option.some.injEq,L7.mk.injEq]
   constructor <;> omega
 · intro n s i hd _
   simp only [Qgu.eq_2]
   unfold Qqj
   simp only [hd,cond_false]
   simp [Qz4,Qv9,Qxg]
def Q4y (r:Request) (us:List Int) (t:Typ):Bool:=decide (Qz4 r us ≤ Ja3 t) && decide (Qv9 r us ≤ t.fV)
theorem Q6d {fu:Nat} (r:Request) (t:Typ) (us:List Int) (u:Int) (hl:us.length < 1048576) (hf:us.length + 1 < fu):Qo1 fu r (Qim r) t us u = some (Q4y r (us ++ [u]) t):=by
 unfold Qo1 Qqi Q4y
 rw [ap1 (by simp; omega),Qab,List.nil_append,ap1 (by simp; omega),Qab,Q7o r _ (by simp; omega) (by simp; omega),Qab,Je0,Qab]
 show (bif decide (Qz4 r (us ++ [u]) ≤ Ja3 t) then _ else _) = _
 cases decide (Qz4 r (us ++ [u]) ≤ Ja3 t) <;> simp
theorem Jbu {fu:Nat} {r:Request} (h:Sm fu r) (t:Typ) (us:List Int) (hl:us.length ≤ 1048576):Qrc fu r us t = some (Q4y r us t):=by
 have hfu:=h.fu
 unfold Qrc Q4y
 rw [Jd1 h us hl (by omega),Qab,Jf3,Qab,Jgh h us hl (by omega)]
 show (bif decide (Qz4 r us ≤ Ja3 t) then _ else _) = _
 cases decide (Qz4 r us ≤ Ja3 t) <;> simp
theorem Jc1 {r:Request}:(Qxh (Qtn r r.fP)).1 = Qyg r:=rfl
end Go.Proofs.YtpcmapfabndggaaGreat
/- slices.DeleteFunc at numbers, places. -/
namespace Go.Proofs.YtpcmapfabndggaaGreat
open Go
open Enc (rd ow)
open Arg (argv)
open Ret (retv)
open Wf (wf)
theorem Jbo {fu:Nat} (n:Nat) (hn:n ≤ 1048576) (hf:n < fu):Qsc fu (n:Int) = some (Qj3 0 n):=by
 unfold Qsc
 have:=Jai (n:Int) (λk out i=>Qhc fu (n:Int) k out i) (λxs out=>some (out ++ xs)) (λxs out=>out.length + xs.length ≤ 1048576) (by omega) ?_ ?_ n fu [] 0 (by omega) (by omega) hf (by simpa [Qer] using hn)
 · simpa using this
 · intro k out i xs h0 h1 hd hI ih
   simp only [List.length_cons] at hI
   simp only [Qhc.eq_2]
   unfold Qn0
   rw [hd,cond_true,ap1 (by simp; omega),Qab,ih _ (by simp; omega)]
   simp
 · intro k out i hd hI
   simp only [Qhc.eq_2]
   unfold Qn0
   simp only [hd,cond_false]
   simp
theorem Q9v {α:Type} (g:α → Bool):∀ (l pre:List α),(Qxn g l pre.length = -1 ∧ ∀ x ∈ l,g x = false) ∨ (∃ a x b,l = a ++ x :: b ∧ (∀ y ∈ a,g y = false) ∧ g x = true ∧ Qxn g l pre.length = ((pre.length + a.length:Nat):Int))
 | [],pre=>.inl ⟨rfl,by simp⟩
 | x :: xs,pre=>by
  simp only [Qxn]
  by_cases hx:g x = true
  · rw [hx,cond_true]; exact .inr ⟨[],x,xs,rfl,by simp,hx,by simp⟩
  · have hx':g x = false:=by simpa using hx
    rw [hx',cond_false]
    have:=Q9v g xs (pre ++ [x])
    simp only [List.length_append,List.length_singleton] at this
    rw [show ((pre.length + 1:Nat):Int) = (pre.length:Int) + 1 by omega] at this
    rcases this with ⟨h1,h2⟩ | ⟨a,y,b,h1,h2,h3,h4⟩
    · exact .inl ⟨h1,by simpa [hx'] using h2⟩
    · exact .inr ⟨x :: a,y,b,by simp [h1],by simpa [hx'] using h2,h3,by rw [h4]; simp; omega⟩
theorem Jje {fu:Nat} {l:List Int} (f:Int → Option Bool) (g:Int → Bool) (hg:∀ x ∈ l,f x = some (g x)) (hl:l.length ≤ 1048576) (hf:l.length < fu):Qdy fu l f = some (l.filter λx=>!g x):=by
 unfold Qdy
 rw [Q52 f g hg hl hf,Qab]
 have hp:=Q9v g l []
 simp only [List.length_nil,Nat.zero_add] at hp
 rcases hp with ⟨h1,h2⟩ | ⟨a,x,b,h1,h2,h3,h4⟩
 · have h1':Qxn g l 0 = -1:=h1
   rw [h1',Qco (by simp)]
   congr 1
   exact (List.filter_eq_self.2 λy hy=>by simp [h2 y hy]).symm
 · have h4':Qxn g l 0 = (a.length:Int):=h4
   rw [h4',Qbb (by simp)]
   have key:∀ (rest kept mid pre:List Int) (n:Nat),l = pre ++ rest → kept = pre.filter (λx=>!g x) → mid ≠ [] → kept.length + mid.length = pre.length → rest.length < n →
       Qbh fu f n (kept ++ mid ++ rest) (kept.length:Int) (pre.length:Int) = some (l.filter λx=>!g x):=by
    intro rest
    induction rest with
    | nil =>
     intro kept mid pre n e1 e2 e3 e4 hn
     obtain ⟨n,rfl⟩:∃ j,n = j + 1:=⟨n - 1,by omega⟩
     rw [Qbh.eq_2]
     unfold Qdv
     simp only [List.append_nil] at *
     subst e1
     rw [Qbb (by simp; omega),Qt8 ⟨by omega,by simp; omega,by omega⟩,Qab,Qt8 ⟨by omega,by omega,by simp [Q4f]; omega⟩,Qab]
     rw [← e2]
     simp [Q4f]
    | cons y rest ih =>
     intro kept mid pre n e1 e2 e3 e4 hn
     obtain ⟨n,rfl⟩:∃ j,n = j + 1:=⟨n - 1,by simp at hn; omega⟩
     have hlen:l.length = pre.length + (rest.length + 1):=by rw [e1]; simp
     have hyl:y ∈ l:=by rw [e1]; simp
     obtain ⟨m,ms,rfl⟩:∃ m ms,mid = m :: ms:=by
      cases mid with
      | nil=>exact absurd rfl e3
      | cons m ms=>exact ⟨m,ms,rfl⟩
     simp only [List.length_cons] at e4 hn
     have hx:ix (kept ++ (m :: ms) ++ y :: rest) (pre.length:Int) = some y:=by
      rw [Qq5,List.getElem?_append_right (by simp; omega)]
      simp only [List.length_append,List.length_cons]
      rw [show pre.length - (kept.length + (ms.length + 1)) = 0 by omega]; rfl
     have hk:ix (kept ++ (m :: ms) ++ y :: rest) (kept.length:Int) = some m:=by
      rw [Qq5]; simp
     rw [Qbh.eq_2]
     unfold Qdv Qc1
     rw [Qco (by simp; omega),hx,Qab,hg y hyl,Qab]
     cases hgy:g y
     · rw [Bool.not_false,cond_true,hk,Qab,Qye _ (by omega),Qye _ (by omega)]
       have e5:Qge (kept ++ (m :: ms) ++ y :: rest) (kept.length:Int) y = (kept ++ [y]) ++ (ms ++ [y]) ++ rest:=by simp [Qge]
       rw [e5]
       have:=ih (kept ++ [y]) (ms ++ [y]) (pre ++ [y]) n (by simp [e1]) (by rw [e2,List.filter_append]; simp [hgy]) (by simp) (by simp; omega) (by omega)
       simp only [List.length_append,List.length_singleton] at this
       exact this
     · rw [Bool.not_true,cond_false,Qye _ (by omega)]
       have:=ih kept ((m :: ms) ++ [y]) (pre ++ [y]) n (by simp [e1]) (by rw [e2,List.filter_append]; simp [hgy]) (by simp) (by simp; omega) (by omega)
       simp only [List.length_append,List.length_singleton] at this
       rw [show kept ++ (m :: ms) ++ y :: rest = kept ++ ((m :: ms) ++ [y]) ++ rest by simp]
       exact this
   have hlen:l.length = a.length + (b.length + 1):=by rw [h1]; simp
   have ha:a.filter (λx=>!g x) = a:=List.filter_eq_self.2 λy hy=>by simp [h2 y hy]
   have:=key b a [x] (a ++ [x]) fu (by simp [h1]) (by rw [List.filter_append,ha]; simp [h3]) (by simp) (by simp) (by omega)
   rw [Qye _ (by omega)]
   simp only [List.length_append,List.length_singleton] at this
   rw [show a ++ [x] ++ b = l by simp [h1]] at this
   exact this
end Go.Proofs.YtpcmapfabndggaaGreat
/- A bit, by spec. -/
namespace Go.Proofs.YtpcmapfabndggaaGreat
open Go
open Enc (rd ow)
open Arg (argv)
open Ret (retv)
open Wf (wf)
theorem Jji (fu:Nat) (b:Bool):Qtp fu b = some (Jfe b):=by cases b <;> rfl
end Go.Proofs.YtpcmapfabndggaaGreat
/- How often a number stands in a list, by spec. -/
namespace Go.Proofs.YtpcmapfabndggaaGreat
open Go
open Enc (rd ow)
open Arg (argv)
open Ret (retv)
open Wf (wf)
theorem Ji2 {fu:Nat} {l:List Int} (hl:l.length ≤ 1048576) (hf:l.length < fu) (x:Int):Qqc fu l x = some (Jet (λy=>y == x) l):=by
 unfold Qqc
 have:=lpI l (λn s i=>Qgg fu l x n s i) (λl n=>some (n + Jet (λy=>y == x) l)) (λl n=>0 ≤ n ∧ n + l.length ≤ 1048576) (by omega) ?_ ?_ fu 0 ⟨by omega,by omega⟩ hf
 · simpa using this
 · intro n s i y ys hy hd hI ih
   have h2:=hI.2
   simp only [List.length_cons] at h2
   have hb:=Jew (y == x)
   simp only [Qgg.eq_2]
   unfold Qlm
   simp only [hd,cond_true,hy,Qab,Jji]
   rw [Qbp (by omega) (by omega),ih _ ⟨by omega,by omega⟩]
   simp only [Jet]
   congr 1
   omega
 · intro n s i hd hI
   simp only [Qgg.eq_2]
   unfold Qlm
   simp only [hd,cond_false,Jet]
   simp
theorem Q7v (l:List Int) (x:Int):Jet (λy=>y == x) l = (l.count x:Int):=by
 induction l with
 | nil=>rfl
 | cons y l ih =>
  unfold Jet Jfe
  rw [ih,List.count_cons]
  cases hy:y == x <;> simp [hy] <;> omega
end Go.Proofs.YtpcmapfabndggaaGreat
/- Lists of lists of numbers in the laws: their size, copies. -/
namespace Go.Proofs.YtpcmapfabndggaaGreat
open Go
open Enc (rd ow)
open Arg (argv)
open Ret (retv)
open Wf (wf)
end Go.Proofs.YtpcmapfabndggaaGreat
/- IsPacking of spec and of impl. -/
namespace Go.Proofs.YtpcmapfabndggaaGreat
open Go
open Enc (rd ow)
open Arg (argv)
open Ret (retv)
open Wf (wf)
def Qwp (r:Request) (us:List Int):List Int:=us.filter λu=>inb u 0 (((Qim r).length:Int) - 1)
def Jhm (a b:List Int):Bool:=decide ((a.mergeSort λx y=>decide (x ≤ y)) = b.mergeSort λx y=>decide (x ≤ y))
theorem Jbv {a b:List Int}:Jhm a b = true ↔ a.Perm b:=by
 unfold Jhm
 rw [decide_eq_true_iff]
 constructor
 · intro h
   have h1:=List.mergeSort_perm a λx y=>decide (x ≤ y)
   rw [h] at h1
   exact h1.symm.trans (List.mergeSort_perm b _)
 · intro h
   exact Q8e (((List.mergeSort_perm a _).trans h).trans (List.mergeSort_perm b _).symm) (Qsz a) (Qsz b)
theorem Q5m:∀ (a b:List Int),a.length = b.length → (∀ x ∈ a,a.count x = b.count x) → a.Perm b
 | [],b,h,_=>by
  have:b = []:=List.eq_nil_of_length_eq_zero h.symm
  subst this
  exact List.Perm.refl _
 | x :: a,b,h,hc=>by
  have hx:=hc x (by simp)
  rw [List.count_cons_self] at hx
  have hm:x ∈ b:=List.count_pos_iff.1 (by omega)
  have hp:=List.perm_cons_erase hm
  refine List.Perm.trans (List.Perm.cons x (Q5m a (b.erase x) ?_ ?_)) hp.symm
  · have:=hp.length_eq
    simp only [List.length_cons] at this h
    omega
  · intro y hy
    have h1:=hc y (by simp [hy])
    have h2:=hp.count_eq y
    rw [List.count_cons] at h1 h2
    omega
theorem Jdn {fu:Nat} {r:Request} (h:Sm fu r) (us:List Int) (hl:us.length ≤ 1048576):Qqa fu r us = some (Qwp r us):=by
 have hfu:=h.fu
 unfold Qqa Qct Qwp
 rw [Jdp h,Qab,ap1 (by simp; omega),Qab,Qab,List.nil_append,Jje _ (λu=>!inb u 0 (((Qim r).length:Int) - 1)) ?_ hl (by omega),Qab]
 · simp
 · intro u _
   unfold Qqg
   rw [Q2g,Q43,Qab]
theorem Q8j {fu:Nat} {r:Request} (h:Sm fu r) (us:List Int) (hl:us.length ≤ 1048576):Qm2 fu (Qim r) us = some (Qwp r us):=by
 have hfu:=h.fu
 unfold Qm2 Qwp
 have:=lpI us (λn out i=>Qe5 fu (Qim r) us n out i) (λxs out=>some (out ++ xs.filter λu=>inb u 0 (((Qim r).length:Int) - 1))) (λxs out=>out.length + xs.length ≤ 1048576) (by omega) ?_ ?_ fu [] (by simpa using hl) (by omega)
 · simpa using this
 · intro n out i x xs hx hd hI ih
   simp only [List.length_cons] at hI
   simp only [Qe5.eq_2]
   unfold Qmc Qj6
   rw [hd,cond_true,hx,Qab,Q2g,Q1m,Qab,Qab,List.filter_cons]
   cases hb:inb x 0 (((Qim r).length:Int) - 1)
   · rw [cond_false,ih _ (by omega)]; simp
   · rw [cond_true,ap1 (by simp; omega),Qab,ih _ (by simp; omega)]; simp
 · intro n out i hd hI
   simp only [Qe5.eq_2]
   unfold Qmc
   simp only [hd,cond_false]
   simp
theorem Q7p:∀ (a b:List Int),a.length = b.length → ((a.zip b).all λp=>p.1 == p.2) = decide (a = b)
 | [],[],_=>rfl
 | [],_ :: _,h=>by simp at h
 | _ :: _,[],h=>by simp at h
 | x :: a,y :: b,h=>by
  rw [List.zip_cons_cons,List.all_cons,Q7p a b (by simpa using h)]
  by_cases hx:x = y <;> simp [hx]
theorem Jed {fu:Nat} (a b:List Int) (hl:a.length ≤ 1048576) (hf:a.length < fu):Qgd fu a b = some (decide (a = b)):=by
 unfold Qgd
 by_cases h:a.length = b.length
 · rw [Qbb (by simp [h])]
   have hz:(a.zip b).length = a.length:=by rw [List.length_zip]; omega
   have:=lp (a.zip b) (λn (_:Unit) i=>Qcq fu a b n i) (λl _=>some (l.all λp=>p.1 == p.2)) (by omega) ?_ ?_ fu () (by omega)
   · rw [Q7p a b h] at this
     exact this
   · intro n _ i p xs hp hd ih
     obtain ⟨h1,_,h2⟩:=Qas hp
     rw [List.getElem?_zip_eq_some] at h2
     rw [hz] at hd
     have e1:ix a i = some p.1:=by unfold ix; rw [if_pos h1]; exact h2.1
     have e2:ix b i = some p.2:=by unfold ix; rw [if_pos h1]; exact h2.2
     simp only [Qcq.eq_2]
     unfold Qfv
     rw [hd,cond_true,e1,Qab,e2,Qab,ih (),List.all_cons]
     by_cases hx:p.1 = p.2
     · rw [Qbb (by simp [hx])]; simp [hx]
     · rw [Qco (by simpa using hx)]; simp [hx]
   · intro n _ i hd
     rw [hz] at hd
     simp only [Qcq.eq_2]
     unfold Qfv
     simp [hd]
 · rw [Qco (by simp; omega)]
   have:a ≠ b:=λe=>h (by rw [e])
   simp [this]
theorem Q66 {xs:List Int} (h:xs.length ≤ 1048576):Q2t xs = some (xs.mergeSort λx y=>decide (x ≤ y)):=by
 unfold Q2t
 rw [if_pos (by omega)]
theorem Q1z (r:Request) (us:List Int):(Qwp r us).length ≤ us.length:=List.length_filter_le _ _
end Go.Proofs.YtpcmapfabndggaaGreat
/- IsRival of spec and of impl. -/
namespace Go.Proofs.YtpcmapfabndggaaGreat
open Go
open Enc (rd ow)
open Arg (argv)
open Ret (retv)
open Wf (wf)
theorem Qzi {r:Request} {us:List Int} {u:Int} (h:u ∈ Qwp r us):0 ≤ u ∧ u < (Qim r).length:=by
 unfold Qwp at h
 have:=(List.mem_filter.1 h).2
 rw [Qd3] at this
 omega
theorem Qvm {r:Request} {u:Int} (h:0 ≤ u ∧ u < (Qim r).length):Q1w r u = some (Qu0 r u):=by
 obtain ⟨_,x,_,_,hx⟩:=Q5b h
 unfold Qu0
 rw [hx]; rfl
theorem Q13 {r:Request}:∀ {l:List Int},(∀ u ∈ l,0 ≤ u ∧ u < (Qim r).length) → Qxg r l = l.map (Qu0 r)
 | [],_=>rfl
 | u :: l,h=>by
  have ih:=Q13 (r:=r) (l:=l) λv hv=>h v (by simp [hv])
  unfold Qxg at ih ⊢
  rw [List.filterMap_cons,Qvm (h u (by simp)),ih,List.map_cons]
end Go.Proofs.YtpcmapfabndggaaGreat
/- Holds and Cheapest, by spec and by impl. -/
namespace Go.Proofs.YtpcmapfabndggaaGreat
open Go
open Enc (rd ow)
open Arg (argv)
open Ret (retv)
open Wf (wf)
theorem Q1u {α:Type} {p q:α → Bool}:∀ {l:List α},(∀ x ∈ l,p x = q x) → l.all p = l.all q
 | [],_=>rfl
 | x :: xs,h=>by rw [List.all_cons,List.all_cons,h x (by simp),Q1u λy hy=>h y (by simp [hy])]
def uOk (r:Request) (t:Typ) (u:Int):Bool:=(Q1w r u).isSome && Q0c (Qu0 r u) t
def Qz8 (r:Request) (us:List Int) (t:Typ):Bool:=Qh3 r == 0 && (us.all (uOk r t) && Q4y r us t)
theorem Qw8 {r:Request} {u:Int}:(Q1w r u).isSome = true ↔ 0 ≤ u ∧ u < (Qim r).length:=by
 constructor
 · intro h
   apply Decidable.byContradiction
   intro hn
   rw [Q2m hn] at h
   cases h
 · intro h
   rw [Qvm h]; rfl
theorem Q7x {fu:Nat} {r:Request} (h:Sm fu r) (us:List Int) (t:Typ) (hl:us.length ≤ 1048576):Qq4 fu r us t = some (Qz8 r us t):=by
 have hfu:=h.fu
 have hil:=Qwm r us
 unfold Qq4 Qz8
 rw [Qvw h,Qab]
 cases hc:Qh3 r == 0
 · rfl
 · rw [Bool.not_true,cond_false,Jdn h us hl,Qab,Bool.true_and]
   by_cases ha:∀ u ∈ us,0 ≤ u ∧ u < (Qim r).length
   · have e:Qwp r us = us:=List.filter_eq_self.2 λu hu=>by have:=ha u hu; simp; omega
     have e0:((us.length:Int) != (us.length:Int)) = false:=by simp
     rw [e,e0,cond_false]
     unfold Qr2
     rw [Q2b h us hl (by omega),Qab,Qwk _ (λx=>!Q0c x t) ?_ (by omega) (by omega),Qab]
     · rw [Jbu h t us hl,Qab,Q13 ha,List.any_map]
       have e1:us.all (uOk r t) = !(us.any ((λx=>!Q0c x t) ∘ Qu0 r)):=by
        rw [List.not_any_eq_all_not]
        apply Q1u
        intro u hu
        simp only [uOk,Qw8.2 (ha u hu),Bool.true_and,Function.comp,Bool.not_not]
       rw [e1]
       cases us.any ((λx=>!Q0c x t) ∘ Qu0 r) <;> simp
     · intro x _
       unfold Qsq
       rw [Jf7,Qab]
   · have hlt:(Qwp r us).length < us.length:=by
       apply Decidable.byContradiction
       intro hn
       apply ha
       have e:(us.filter λu=>inb u 0 (((Qim r).length:Int) - 1)).length = us.length:=by
        have:=List.length_filter_le (λu=>inb u 0 (((Qim r).length:Int) - 1)) us
        have e':Qwp r us = us.filter λu=>inb u 0 (((Qim r).length:Int) - 1):=rfl
        rw [e'] at hn
        omega
       intro u hu
       have:=List.length_filter_eq_length_iff.1 e u hu
       simp at this
       omega
     have e0:(((Qwp r us).length:Int) != (us.length:Int)) = true:=by simp; omega
     rw [e0,cond_true]
     have e1:us.all (uOk r t) = false:=by
      apply Bool.eq_false_iff.2
      intro he
      apply ha
      intro u hu
      have:=List.all_eq_true.1 he u hu
      simp only [uOk,Bool.and_eq_true] at this
      exact Qw8.1 this.1
     rw [e1,Bool.false_and]
theorem Q9l {fu:Nat} {r:Request} (h:Sm fu r) (us:List Int) (t:Typ) (hl:us.length ≤ 1048576):Qq2 fu r us t = some (Qz8 r us t):=by
 have hfu:=h.fu
 unfold Qq2 Qz8
 rw [Q0q h,Qab]
 cases hc:Qh3 r == 0
 · have:(Qh3 r != 0) = true:=by simp only [bne,hc]; rfl
   rw [this]; rfl
 · have:(Qh3 r != 0) = false:=by simp only [bne,hc]; rfl
   have hz:Qh3 r = 0:=by simpa using hc
   have hu:Qcg fu r = some (Qim r):=Jdm h hz
   rw [this,cond_false,hu,Qab,Bool.true_and]
   have key:=lp us (λn (_:Unit) i=>Qfk fu r us t (Qim r) n i) (λl _=>some (l.all (uOk r t) && Q4y r us t)) (by omega) ?_ ?_ fu () (by omega)
   · exact key
   · intro n _ i x xs hx hd ih
     simp only [Qfk.eq_2]
     unfold Qo9 Qrv Qrk
     simp only [hd,cond_true,hx,Qab,Q6p,ih (),List.all_cons,uOk]
     cases (Q1w r x).isSome
     · rfl
     · simp only [Bool.not_true,cond_false,Je1 (show 2097153 ≤ fu by omega),Qab]
       cases Q0c (Qu0 r x) t <;> rfl
   · intro n _ i hd
     simp only [Qfk.eq_2]
     unfold Qo9 Qr0
     simp only [hd,cond_false,Q7o r us hl (show us.length < fu by omega),Qab,Je0]
     show (bif decide (Qz4 r us ≤ Ja3 t) then _ else _) = _
     unfold Q4y
     cases decide (Qz4 r us ≤ Ja3 t) <;> simp
def chp (r:Request) (us:List Int) (s:Typ × Bool) (t:Typ):Typ × Bool :=
 bif Qz8 r us t && (!s.2 || (decide (t.fK < s.1.fK) || (t.fK == s.1.fK && decide (t.f8 < s.1.f8)))) then (t,true) else s
def Qxk (r:Request) (us:List Int):Typ × Bool:=r.fT.foldl (chp r us) (Jfs,false)
theorem Jdt {fu:Nat} {r:Request} (h:Sm fu r) (us:List Int) (hl:us.length ≤ 1048576):Qn7 fu r us = some (Qxk r us):=by
 have hfu:=h.fu
 have ht:=h.types
 unfold Qn7
 have key:=lp r.fT (λn (s:Typ × Bool) i=>Qel fu r us n s.1 s.2 i) (λl s=>some (l.foldl (chp r us) s)) (by omega) ?_ ?_ fu (Jfs,false) (by omega)
 · exact key
 · intro n s i x xs hx hd ih
   simp only [Qel.eq_2]
   unfold Qjb Qdm
   have ih':=λa b=>ih (a,b)
   simp only at ih'
   obtain ⟨b,f⟩:=s
   simp only [hd,cond_true,hx,Qab,Q7x h us x hl,ih',List.foldl_cons,chp]
   cases Qz8 r us x <;> cases f <;> cases decide (x.fK < b.fK) <;> cases x.fK == b.fK <;> cases decide (x.f8 < b.f8) <;> rfl
 · intro n s i hd
   simp only [Qel.eq_2]
   unfold Qjb
   simp only [hd,cond_false]
   rfl
theorem Q8c {fu:Nat} {r:Request} (h:Sm fu r) (us:List Int) (hl:us.length ≤ 1048576):Qkb fu r us = some (Qxk r us):=by
 have hfu:=h.fu
 have ht:=h.types
 unfold Qkb
 have key:=lp r.fT (λn (s:Typ × Bool) i=>Qeq fu r us n s.1 s.2 i) (λl s=>some (l.foldl (chp r us) s)) (by omega) ?_ ?_ fu (Jfs,false) (by omega)
 · exact key
 · intro n s i x xs hx hd ih
   simp only [Qeq.eq_2]
   unfold Qjv Qdq
   have ih':=λa b=>ih (a,b)
   simp only at ih'
   obtain ⟨b,f⟩:=s
   simp only [hd,cond_true,hx,Qab,Q9l h us x hl,ih',List.foldl_cons,chp]
   cases Qz8 r us x <;> cases f <;> cases decide (x.fK < b.fK) <;> cases x.fK == b.fK <;> cases decide (x.f8 < b.f8) <;> rfl
 · intro n s i hd
   simp only [Qeq.eq_2]
   unfold Qjv
   simp only [hd,cond_false]
   rfl
end Go.Proofs.YtpcmapfabndggaaGreat
/- spec's TypeById. -/
namespace Go.Proofs.YtpcmapfabndggaaGreat
open Go
open Enc (rd ow)
open Arg (argv)
open Ret (retv)
open Wf (wf)
theorem Qyt {fu:Nat} {r:Request} (h:Sm fu r) (id:Int):Qh8 fu r id = some (Qxh (Qtn r id)):=by
 have hfu:=h.fu
 have ht:=h.types
 unfold Qh8 Qtn
 refine lp r.fT (λn (_:Unit) i=>Qfy fu r id n i) (λl _=>some (Qxh (l.find? λt=>t.f8 == id))) (by omega) ?_ ?_ fu () (by omega)
 · intro n s i x xs hx hd ih
   simp only [Qfy.eq_2]
   unfold Qjj
   simp only [hd,cond_true,hx,Qab,ih (),List.find?_cons]
   cases x.f8 == id <;> rfl
 · intro n s i hd
   simp only [Qfy.eq_2]
   unfold Qjj
   simp only [hd,cond_false]
   rfl
end Go.Proofs.YtpcmapfabndggaaGreat
/- Gross and BoxOf, by spec and by impl. -/
namespace Go.Proofs.YtpcmapfabndggaaGreat
open Go
open Enc (rd ow)
open Arg (argv)
open Ret (retv)
open Wf (wf)
def Jjl:Box:=⟨0,0,0,0⟩
def Q7c (r:Request) (x:Carton):Int:=match Qtn r x.fO with
 | some t=>bif Qh3 r == 0 then t.f7 + Qv9 r x.fM else 0
 | none=>0
def Qua (r:Request) (x:Carton):Box:=match Qtn r x.fO with
 | some t=>bif Qh3 r == 0 then ⟨t.fW,t.fD,t.fH,t.f7 + Qv9 r x.fM⟩ else Jjl
 | none=>Jjl
theorem Jfx {r:Request} (hc:Qh3 r = 0) {id:Int} {t:Typ} (ht:Qtn r id = some t):Q14 t = true ∧ t ∈ r.fT ∧ t.f8 = id:=by
 have hm:=List.mem_of_find?_eq_some ht
 have hp:=List.find?_some ht
 exact ⟨Qzm (Qfq hc).1 t hm,hm,by simpa using hp⟩
theorem Q97 {r:Request} (hc:Qh3 r = 0) {id:Int} {t:Typ} (ht:Qtn r id = some t):0 ≤ t.f7 ∧ t.f7 ≤ 100000:=by
 have:=(Jfx hc ht).1
 simp only [Q14,Bool.and_eq_true,Qd3] at this
 omega
theorem Q6b {r:Request} (hc:Qh3 r = 0) {id:Int} {t:Typ} (ht:Qtn r id = some t) (us:List Int) (hl:us.length ≤ 1048576):w64 (t.f7 + Qv9 r us) = t.f7 + Qv9 r us:=by
 have h1:=Q97 hc ht
 have h2:=Q45 r us
 exact Qbp (by omega) (by omega)
theorem Q8o {fu:Nat} {r:Request} (h:Sm fu r) (x:Carton) (hl:x.fM.length ≤ 1048576):Qq7 fu r x = some (Q7c r x):=by
 have hfu:=h.fu
 unfold Qq7 Q7c
 rw [Qwg h,Qab,Q1f]
 cases ht:Qtn r x.fO with
 | none=>rfl
 | some t =>
  rw [Qvw h]
  simp only [Option.isSome_some,Bool.not_true,cond_false,Qab]
  cases hc:Qh3 r == 0
  · rfl
  · have hc':Qh3 r = 0:=by simpa using hc
    unfold Qru
    rw [Jgh h _ hl (by omega)]
    simp only [Bool.not_true,cond_false,cond_true,Qab,Qxh,Q6b hc' ht _ hl]
theorem Q79 {fu:Nat} {r:Request} (h:Sm fu r) (x:Carton) (hl:x.fM.length ≤ 1048576):Qq8 fu r x = some (Q7c r x):=by
 have hfu:=h.fu
 unfold Qq8 Q7c
 rw [Qyt h,Qab,Q1f,Q0q h,Qab]
 cases hc:Qh3 r == 0
 · have:(Qh3 r != 0) = true:=by simp only [bne,hc]; rfl
   rw [this]
   cases Qtn r x.fO <;> rfl
 · have hc':Qh3 r = 0:=by simpa using hc
   rw [show (Qh3 r != 0) = false by simp [hc'],cond_false]
   cases ht:Qtn r x.fO with
   | none=>rfl
   | some t =>
    unfold Qr5
    rw [Jhz h _ hl (by omega)]
    simp only [Option.isSome_some,Bool.not_true,cond_false,cond_true,Qab,Qxh,Q6b hc' ht _ hl]
theorem Jc5 {fu:Nat} {r:Request} (h:Sm fu r) (x:Carton) (hl:x.fM.length ≤ 1048576):Qq3 fu r x = some (Qua r x):=by
 unfold Qq3 Qua
 rw [Qwg h,Qab,Q1f]
 cases ht:Qtn r x.fO with
 | none=>rfl
 | some t =>
  rw [Qvw h]
  simp only [Option.isSome_some,Bool.not_true,cond_false,Qab]
  cases hc:Qh3 r == 0
  · rfl
  · unfold Qsd
    rw [Q8o h x hl]
    simp only [Q7c,ht,hc,Bool.not_true,cond_false,cond_true,Qab,Qxh]
theorem Q3x {fu:Nat} {r:Request} (h:Sm fu r) (x:Carton) (hl:x.fM.length ≤ 1048576):Qi8 fu r x = some (Qua r x):=by
 unfold Qi8 Qua
 rw [Qyt h,Qab,Q1f,Q0q h,Qab]
 cases hc:Qh3 r == 0
 · have:(Qh3 r != 0) = true:=by simp only [bne,hc]; rfl
   rw [this]
   cases Qtn r x.fO <;> rfl
 · have hc':Qh3 r = 0:=by simpa using hc
   rw [show (Qh3 r != 0) = false by simp [hc'],cond_false]
   cases ht:Qtn r x.fO with
   | none=>rfl
   | some t =>
    unfold Qsa
    rw [Q79 h x hl]
    simp only [Q7c,ht,hc,Option.isSome_some,Bool.not_true,cond_false,cond_true,Qab,Qxh]
end Go.Proofs.YtpcmapfabndggaaGreat
/- OnPallet and PalletGram, by spec and by impl. -/
namespace Go.Proofs.YtpcmapfabndggaaGreat
open Go
open Enc (rd ow)
open Arg (argv)
open Ret (retv)
open Wf (wf)
def onL (k:Int):Int → List Spot → List Int
 | _,[]=>[]
 | i,s :: l=>bif s.fJ == k then i :: onL k (i + 1) l else onL k (i + 1) l
def onM (x:Plan) (k:Int):List Int:=bif x.fU.length == x.fQ.length then onL k 0 x.fU else []
theorem Q84 (k:Int):∀ (l:List Spot) (a i:Int),i ∈ onL k a l ↔ ∃ (j:Nat) (s:Spot),l[j]? = some s ∧ i = a + j ∧ s.fJ = k
 | [],a,i=>by simp [onL]
 | s :: l,a,i=>by
  have ih:=Q84 k l (a + 1) i
  constructor
  · intro h
    unfold onL at h
    cases hk:s.fJ == k
    · rw [hk,cond_false] at h
      obtain ⟨j,t,h1,h2,h3⟩:=ih.1 h
      exact ⟨j + 1,t,by simpa using h1,by omega,h3⟩
    · rw [hk,cond_true,List.mem_cons] at h
      rcases h with rfl | h
      · exact ⟨0,s,rfl,by omega,by simpa using hk⟩
      · obtain ⟨j,t,h1,h2,h3⟩:=ih.1 h
        exact ⟨j + 1,t,by simpa using h1,by omega,h3⟩
  · rintro ⟨j,t,h1,h2,h3⟩
    unfold onL
    cases j with
    | zero =>
     simp only [List.getElem?_cons_zero,Option.some.injEq] at h1
     subst h1
     rw [show (s.fJ == k) = true by simpa using h3,cond_true]
     simp; omega
    | succ j =>
     have:i ∈ onL k (a + 1) l:=ih.2 ⟨j,t,by simpa using h1,by omega,h3⟩
     cases s.fJ == k <;> simp [this]
theorem Q98 (k:Int):∀ (l:List Spot) (a:Int),(onL k a l).length ≤ l.length
 | [],_=>Nat.le_refl _
 | s :: l,a=>by
  have:=Q98 k l (a + 1)
  unfold onL
  cases s.fJ == k <;> simp <;> omega
theorem Q2y (x:Plan) (k:Int):(onM x k).length ≤ x.fU.length:=by
 unfold onM
 cases x.fU.length == x.fQ.length
 · simp
 · exact Q98 k _ 0
theorem Qyy {x:Plan} {k i:Int} (h:i ∈ onM x k):∃ c s,ix x.fQ i = some c ∧ ix x.fU i = some s ∧ s.fJ = k:=by
 unfold onM at h
 cases he:x.fU.length == x.fQ.length
 · rw [he] at h; simp at h
 · rw [he,cond_true] at h
   obtain ⟨j,s,h1,h2,h3⟩:=(Q84 k _ 0 i).1 h
   have hj:=(List.getElem?_eq_some_iff.1 h1).1
   have hl:x.fU.length = x.fQ.length:=by simpa using he
   have e:i = (j:Int):=by omega
   subst e
   exact ⟨_,s,Qxs (by omega),Jg0 h1,h3⟩
theorem Jjv {fu:Nat} {x:Plan} (hl:x.fU.length ≤ 1048576) (hf:x.fU.length < fu) (k:Int):Qke fu x k = some (onM x k):=by
 unfold Qke onM
 cases he:x.fU.length == x.fQ.length
 · have:((x.fU.length:Int) != (x.fQ.length:Int)) = true:=by simp at he ⊢; omega
   rw [this]; rfl
 · have:((x.fU.length:Int) != (x.fQ.length:Int)) = false:=by simp at he ⊢; omega
   rw [this,cond_false,cond_true]
   have key:=Jfb x.fU (λn (o:List Int) i=>Qem fu x k n o i) (λpre xs o=>some (o ++ onL k pre.length xs)) (λpre xs o=>o.length + xs.length ≤ 1048576) (by omega) ?_ ?_ fu [] (by simp; omega) hf
   · simpa using key
   · intro n o pre s xs e hx hd hI ih
     simp only [List.length_cons] at hI
     simp only [Qem.eq_2]
     unfold Qjr Qi7 onL
     rw [hd,cond_true,hx,Qab]
     cases s.fJ == k
     · rw [cond_false,cond_false,ih _ (by omega)]; simp
     · rw [cond_true,cond_true,ap1 (by simp; omega),Qab,ih _ (by simp; omega)]; simp
   · intro n o hd _
     simp only [Qem.eq_2]
     unfold Qjr
     rw [hd,cond_false]; simp [onL]
theorem Jjt {fu:Nat} {x:Plan} (hl:x.fU.length ≤ 1048576) (hc:x.fQ.length ≤ 1048576) (hf:x.fU.length < fu) (hf':x.fQ.length < fu) (k:Int):Qkh fu x k = some (onM x k):=by
 unfold Qkh onM
 cases he:x.fU.length == x.fQ.length
 · have e:((x.fQ.length:Int) == (x.fU.length:Int)) = false:=by simp at he ⊢; omega
   obtain ⟨m,rfl⟩:∃ m,fu = m + 1:=⟨fu - 1,by omega⟩
   rw [Qc0.eq_2]
   unfold Qhg
   rw [e]
   cases decide ((0:Int) < (x.fQ.length:Int)) <;> rfl
 · have el:x.fU.length = x.fQ.length:=by simpa using he
   have e:((x.fQ.length:Int) == (x.fU.length:Int)) = true:=by simp; omega
   rw [cond_true]
   have key:=Jfb x.fU (λn (o:List Int) i=>Qc0 fu x k n o i) (λpre xs o=>some (o ++ onL k pre.length xs)) (λpre xs o=>o.length + xs.length ≤ 1048576) (by omega) ?_ ?_ fu [] (by simp; omega) hf
   · simpa using key
   · intro n o pre s xs e1 hx hd hI ih
     simp only [List.length_cons] at hI
     simp only [Qc0.eq_2]
     unfold Qhg Qnj Qi0 onL
     rw [el] at hd
     rw [hd,cond_true,e,cond_true,hx,Qab]
     cases s.fJ == k
     · rw [cond_false,cond_false,ih _ (by omega)]; simp
     · rw [cond_true,cond_true,ap1 (by simp; omega),Qab,ih _ (by simp; omega)]; simp
   · intro n o hd _
     simp only [Qc0.eq_2]
     unfold Qhg
     rw [← el,hd,cond_false]; simp [onL]
def Jj1:Carton:=⟨0,0,[]⟩
def Qz6 (x:Plan) (i:Int):Carton:=(ix x.fQ i).getD Jj1
def pgM (r:Request) (x:Plan) (k:Int):Int:=Qwr ((onM x k).map λi=>Q7c r (Qz6 x i))
theorem Jc6 (r:Request) (c:Carton) (hl:c.fM.length ≤ 1048576):0 ≤ Q7c r c ∧ Q7c r c ≤ 104857700000:=by
 unfold Q7c
 cases ht:Qtn r c.fO with
 | none=>simp
 | some t =>
  cases hc:Qh3 r == 0
  · simp
  · have h1:=Q97 (by simpa using hc) ht
    have h2:=Q45 r c.fM
    simp only [cond_true]
    omega
theorem Jj6 {fu:Nat} {r:Request} (h:Sm fu r) {x:Plan} (hx:Sp x) (k:Int):Qkv fu r x k = some (pgM r x k):=by
 have hfu:=h.fu
 have h1:=hx.spots
 have h2:=Q2y x k
 unfold Qkv pgM
 rw [Jjv h1 (by omega),Qab]
 have key:=lpI (onM x k) (λn (s:Int) i=>Qeh fu r x (onM x k) n s i) (λl s=>some (s + Qwr (l.map λi=>Q7c r (Qz6 x i)))) (λl s=>0 ≤ s ∧ s + 104857700000 * l.length ≤ 104857700000 * 1048576 ∧ ∀ i ∈ l,∃ c,ix x.fQ i = some c) (by omega) ?_ ?_ fu 0 ⟨by omega,by omega,λi hi=>?_⟩ (by omega)
 · simpa using key
 · intro n s i j xs hj hd hI ih
   obtain ⟨c,hc⟩:=hI.2.2 j (by simp)
   have hcu:=hx.units c (Qd5 hc)
   have hg:=Jc6 r c hcu
   have hI2:=hI.2.1
   simp only [List.length_cons] at hI2
   simp only [Qeh.eq_2]
   unfold Qig
   rw [hd,cond_true,hj,Qab,hc,Qab,Q8o h c hcu,Qab,Qbp (by omega) (by omega),ih _ ⟨by omega,by omega,λi hi=>hI.2.2 i (by simp [hi])⟩]
   simp only [List.map_cons,Qqd,Qz6,hc,Option.getD_some]
   congr 1
   omega
 · intro n s i hd _
   simp only [Qeh.eq_2]
   unfold Qig
   rw [hd,cond_false]; simp
 · obtain ⟨c,_,hc,_⟩:=Qyy hi
   exact ⟨c,hc⟩
theorem Jj8 {fu:Nat} {r:Request} (h:Sm fu r) {x:Plan} (hx:Sp x) (k:Int):Qku fu r x k = some (pgM r x k):=by
 have hfu:=h.fu
 have h1:=hx.spots
 have h0:=hx.cars
 have h2:=Q2y x k
 unfold Qku pgM
 rw [Jjt h1 h0 (by omega) (by omega),Qab]
 have key:=lpI (onM x k) (λn (s:Int) i=>Qej fu r x (onM x k) n s i) (λl s=>some (s + Qwr (l.map λi=>Q7c r (Qz6 x i)))) (λl s=>0 ≤ s ∧ s + 104857700000 * l.length ≤ 104857700000 * 1048576 ∧ ∀ i ∈ l,∃ c,ix x.fQ i = some c) (by omega) ?_ ?_ fu 0 ⟨by omega,by omega,λi hi=>?_⟩ (by omega)
 · simpa using key
 · intro n s i j xs hj hd hI ih
   obtain ⟨c,hc⟩:=hI.2.2 j (by simp)
   have hcu:=hx.units c (Qd5 hc)
   have hg:=Jc6 r c hcu
   have hI2:=hI.2.1
   simp only [List.length_cons] at hI2
   simp only [Qej.eq_2]
   unfold Qif
   rw [hd,cond_true,hj,Qab,hc,Qab,Q79 h c hcu,Qab,Qbp (by omega) (by omega),ih _ ⟨by omega,by omega,λi hi=>hI.2.2 i (by simp [hi])⟩]
   simp only [List.map_cons,Qqd,Qz6,hc,Option.getD_some]
   congr 1
   omega
 · intro n s i hd _
   simp only [Qej.eq_2]
   unfold Qif
   rw [hd,cond_false]; simp
 · obtain ⟨c,_,hc,_⟩:=Qyy hi
   exact ⟨c,hc⟩
end Go.Proofs.YtpcmapfabndggaaGreat
/- Lost of spec and of impl. -/
namespace Go.Proofs.YtpcmapfabndggaaGreat
open Go
open Enc (rd ow)
open Arg (argv)
open Ret (retv)
open Wf (wf)
def Qsk (l:List Carton):List Int:=(l.map (·.fM)).flatten
theorem Qwi (l:List Carton):(Qsk l).length = Q6z l:=by
 induction l with
 | nil=>rfl
 | cons c l ih =>
  have e:Qsk (c :: l) = c.fM ++ Qsk l:=rfl
  rw [e,List.length_append,ih]; rfl
theorem Jf9 {fu:Nat} {x:Plan} (h:Sp x) (hf:1048577 ≤ fu):Qpx fu x = some (Qsk x.fQ):=by
 have hc:=h.cars
 have hl:=Qwi x.fQ
 have ha:=h.all
 unfold Qpx
 have:=lpI x.fQ (λn out i=>Qgo fu x n out i) (λxs out=>some (out ++ Qsk xs)) (λxs out=>out.length + (Qsk xs).length ≤ 1048576) (by omega) ?_ ?_ fu [] (by simp; omega) (by omega)
 · simpa using this
 · intro n out i c xs hx hd hI ih
   have e:Qsk (c :: xs) = c.fM ++ Qsk xs:=rfl
   rw [e,List.length_append] at hI
   simp only [Qgo.eq_2]
   unfold Qlq
   rw [hd,cond_true,hx,Qab,ap1 (by omega),Qab,ih _ (by simp; omega),e]
   simp
 · intro n out i hd hI
   simp only [Qgo.eq_2]
   unfold Qlq
   simp only [hd,cond_false]
   simp [Qsk]
theorem Jgr {fu:Nat} {x:Plan} (h:Sp x) (hf:1048577 ≤ fu):Qoe fu x = some (Qsk x.fQ):=by
 have hc:=h.cars
 have hl:=Qwi x.fQ
 have ha:=h.all
 unfold Qoe
 have:=lpI x.fQ (λn out i=>Qfz fu x n out i) (λxs out=>some (out ++ Qsk xs)) (λxs out=>out.length + (Qsk xs).length ≤ 1048576) (by omega) ?_ ?_ fu [] (by simp; omega) (by omega)
 · simpa using this
 · intro n out i c xs hx hd hI ih
   have e:Qsk (c :: xs) = c.fM ++ Qsk xs:=rfl
   rw [e,List.length_append] at hI
   simp only [Qfz.eq_2]
   unfold Qje
   rw [hd,cond_true,hx,Qab,ap1 (by omega),Qab,ih _ (by simp; omega),e]
   simp
 · intro n out i hd hI
   simp only [Qfz.eq_2]
   unfold Qje
   simp only [hd,cond_false]
   simp [Qsk]
end Go.Proofs.YtpcmapfabndggaaGreat
/- Mixes of spec and of impl. -/
namespace Go.Proofs.YtpcmapfabndggaaGreat
open Go
open Enc (rd ow)
open Arg (argv)
open Ret (retv)
open Wf (wf)
theorem Jip {fu:Nat} {gs:List (List Int)} (hl:gs.length ≤ 4) (hm:∀ g ∈ gs,g.length ≤ 4) (hfu:100 ≤ fu) (c:Int):Qp6 fu gs c = some (Jbl gs c):=by
 unfold Qp6
 have:=Qtb gs (λn i=>Qgj fu gs c n i) (λg=>g.contains c) (by omega) (by
  intro n i x hx hd
  have:=hm x (Qd5 hx)
  simp only [Qgj.eq_2]
  unfold Qk6
  simp only [hd,cond_true,hx,Qab,Jd8 (show x.length ≤ 1048576 by omega) (show x.length < fu by omega)]) (by
  intro n i hd
  simp only [Qgj.eq_2]
  unfold Qk6
  simp only [hd,cond_false]) fu (by omega)
 rw [this,Q11]
 unfold Jbl
 cases Qwq (λg=>g.contains c) gs <;> simp
end Go.Proofs.YtpcmapfabndggaaGreat
/- Check, by spec and by impl. -/
namespace Go.Proofs.YtpcmapfabndggaaGreat
open Go
open Enc (rd ow)
open Arg (argv)
open Ret (retv)
open Wf (wf)
theorem Jb4 {fu : Nat} {l : List Carton} (f : Carton → Option Bool) (g : Carton → Bool) (hg : ∀ x ∈ l, f x = some (g x)) (hl : l.length ≤ 1048576) (hf : l.length < fu) : Qbn fu l f = some (Qxn g l 0) := by
  unfold Qbn
  refine Qtb l (λn i => Qa0 fu l f n i) g (by omega) ?_ ?_ fu hf
  · intro n i x hx hd
    simp only [Qa0.eq_2]
    unfold Qbu
    simp only [hd, cond_true, hx, Qab, hg x (Qd5 hx)]
  · intro n i hd
    simp only [Qa0.eq_2]
    unfold Qbu
    simp only [hd, cond_false]
theorem Jbe {fu : Nat} {l : List Carton} (f : Carton → Option Bool) (g : Carton → Bool) (hg : ∀ x ∈ l, f x = some (g x)) (hl : l.length ≤ 1048576) (hf : l.length < fu) : Qbf fu l f = some (l.any g) := by
  unfold Qbf
  rw [Jb4 f g hg hl hf, Qab, Qto g l 0 (by omega)]
def Jd0 (x : Plan) : Bool := x.fQ.any λc => (c.fM.length : Int) == 0
theorem Jjk {fu : Nat} {x : Plan} (h : Sp x) (hf : 1048577 ≤ fu) : Qom fu x = some (Jd0 x) := by
  have hc := h.cars
  unfold Qom Jd0
  have key := lp x.fQ (λn (_ : Unit) i => Qf0 fu x n i) (λl _ => some (l.any λc => (c.fM.length : Int) == 0)) (by omega) ?_ ?_ fu () (by omega)
  · exact key
  · intro n _ i c xs hx hd ih
    have ih := ih ()
    simp only [Qf0.eq_2]
    unfold Qjx
    rw [hd, cond_true, hx, Qab, ih, List.any_cons]
    cases (c.fM.length : Int) == 0 <;> rfl
  · intro n _ i hd
    simp only [Qf0.eq_2]
    unfold Qjx
    rw [hd, cond_false]; rfl
/-- each unit of the order once -/
def Q31 (r : Request) (x : Plan) : Bool := Jhm (Qsk x.fQ) (Qj3 0 (Qim r).length)
theorem Q5w {r : Request} {x : Plan} : Q31 r x = true ↔ (Qsk x.fQ).Perm (Qj3 0 (Qim r).length) := Jbv
theorem Jgw {fu : Nat} {r : Request} (hfu : 2097153 ≤ fu) {x : Plan} (h : Sp x) : Qog fu (Qim r) x = some (Q31 r x) := by
  have hul := Qyi r
  have hfl := Qwi x.fQ
  have ha := h.all
  unfold Qog
  rw [Jf9 h (by omega), Qab]
  by_cases hl : (Qsk x.fQ).length = (Qim r).length
  · rw [show (((Qsk x.fQ).length : Int) != ((Qim r).length : Int)) = false by simp; omega, cond_false]
    have key := lpN ((Qim r).length : Int) (λn (_ : Unit) i => Qfp fu (Qim r) (Qsk x.fQ) n i) (λl _ => some (l.all λu => (Qsk x.fQ).count u == 1)) (by omega) ?_ ?_ (Qim r).length fu () 0 (by omega) (by omega) (by omega)
    · rw [key]
      congr 1
      apply Bool.eq_iff_iff.2
      rw [Q5w]
      constructor
      · intro hA
        refine (Q5m _ _ (by rw [Qer, hl]) λu hu => ?_).symm
        have h1 := List.all_eq_true.1 hA u hu
        have h2 : (Qj3 0 (Qim r).length).count u = 1 := by rw [List.Nodup.count (Qww _ _), if_pos hu]
        have h3 : (Qsk x.fQ).count u = 1 := by simpa using h1
        omega
      · intro hp
        refine List.all_eq_true.2 λu hu => ?_
        have h2 : (Qj3 0 (Qim r).length).count u = 1 := by rw [List.Nodup.count (Qww _ _), if_pos hu]
        have := hp.count_eq u
        simp; omega
    · intro n _ i xs h0 h1 hd ih
      have ih := ih ()
      simp only [Qfp.eq_2]
      unfold Qjw
      rw [hd, cond_true, Ji2 (by omega) (by omega), Qab, Q7v, ih, List.all_cons]
      by_cases hc : (Qsk x.fQ).count i = 1
      · simp [hc]
      · rw [show (((Qsk x.fQ).count i : Int) != 1) = true by simp; omega, cond_true, show ((Qsk x.fQ).count i == 1) = false by simpa using hc]; rfl
    · intro n _ i hd
      simp only [Qfp.eq_2]
      unfold Qjw
      rw [hd, cond_false]; rfl
  · rw [show (((Qsk x.fQ).length : Int) != ((Qim r).length : Int)) = true by simp; omega, cond_true]
    congr 1
    symm
    apply Bool.eq_false_iff.2
    intro hb
    have := (Q5w.1 hb).length_eq
    rw [Qer] at this
    exact hl this
theorem Q4i (a : Int) (n : Nat) : (Qj3 a n).mergeSort (λx y => decide (x ≤ y)) = Qj3 a n :=
  List.mergeSort_of_pairwise ((Qvk a n).imp λh => by simpa using (show _ ≤ _ by omega))
/-- what is right of a carton -/
def chB (r : Request) (c : Carton) : Bool := match Qtn r c.fO with | some t => Qz8 r c.fM t | none => false
def cgB (r : Request) (c : Carton) : Bool := c.fM.all λu => Jbl (Qn2 r) (Qu0 r u).fF == c.fE
def ccB (r : Request) (c : Carton) : Bool := (Qxk r c.fM).2 && (Qxk r c.fM).1.f8 == c.fO
theorem Ja4 {fu : Nat} {r : Request} (h : Sm fu r) {x : Plan} (hx : Sp x) : Qoq fu r x = some (x.fQ.all (chB r)) := by
  have hfu := h.fu
  have hc := hx.cars
  unfold Qoq
  have key := lp x.fQ (λn (_ : Unit) i => Qdp fu r x n i) (λl _ => some (l.all (chB r))) (by omega) ?_ ?_ fu () (by omega)
  · exact key
  · intro n _ i c xs e hd ih
    have ih := ih ()
    have hu := hx.units c (Qd5 e)
    simp only [Qdp.eq_2]
    unfold Qjm Qnf Qnn
    rw [hd, cond_true, e, Qab, Qyt h, Qab, List.all_cons]
    unfold chB
    cases ht : Qtn r c.fO with
    | none => rfl
    | some t =>
      simp only [Qxh, Bool.not_true, cond_false]
      rw [Qab, Q9l h _ t hu, Qab, ih]
      cases Qz8 r c.fM t <;> rfl
  · intro n _ i hd
    simp only [Qdp.eq_2]
    unfold Qjm
    rw [hd, cond_false]; rfl
theorem Jbk {fu : Nat} {r : Request} (h : Sm fu r) {x : Plan} (hx : Sp x) : Qoa fu r (Qim r) x = some (x.fQ.all (cgB r)) := by
  have hfu := h.fu
  have hc := hx.cars
  unfold Qoa
  rw [Jb7 h, Qab]
  have key := lp x.fQ (λn (_ : Unit) i => Qcc fu r (Qim r) x (Qn2 r) n i) (λl _ => some (l.all (cgB r))) (by omega) ?_ ?_ fu () (by omega)
  · exact key
  · intro n _ i c xs e hd ih
    have ih := ih ()
    have hu := hx.units c (Qd5 e)
    simp only [Qcc.eq_2]
    unfold Qjo
    rw [hd, cond_true]
    have key2 := lp c.fM (λm (_ : Unit) j => Qdl fu (Qcc fu r (Qim r) x (Qn2 r) n) r (Qim r) x (Qn2 r) i m j) (λl _ => some (l.all (λu => Jbl (Qn2 r) (Qu0 r u).fF == c.fE) && xs.all (cgB r))) (by omega) ?_ ?_ fu () (by omega)
    · rw [key2]; rfl
    · intro m _ j u us e2 hd2 ih2
      have ih2 := ih2 ()
      simp only [Qdl.eq_2]
      unfold Qjn Qng Qni
      simp only [e, Qab, hd2, cond_true, e2, Q6p, Jip (Quz r).1 (Quz r).2 (show 100 ≤ fu by omega), ih2, List.all_cons, bne]
      cases Jbl (Qn2 r) (Qu0 r u).fF == c.fE <;> rfl
    · intro m _ j hd2
      simp only [Qdl.eq_2]
      unfold Qjn Qnr
      simp only [e, Qab, hd2, cond_false, ih]
      rfl
  · intro n _ i hd
    simp only [Qcc.eq_2]
    unfold Qjo
    rw [hd, cond_false]; rfl
theorem Jcm {fu : Nat} {r : Request} (h : Sm fu r) {x : Plan} (hx : Sp x) : Qot fu r x = some (x.fQ.all (ccB r)) := by
  have hfu := h.fu
  have hc := hx.cars
  unfold Qot
  have key := lp x.fQ (λn (_ : Unit) i => Qdo fu r x n i) (λl _ => some (l.all (ccB r))) (by omega) ?_ ?_ fu () (by omega)
  · exact key
  · intro n _ i c xs e hd ih
    have ih := ih ()
    have hu := hx.units c (Qd5 e)
    simp only [Qdo.eq_2]
    unfold Qjt Qnm Qny
    simp only [hd, cond_true, e, Qab, Q8c h _ hu, List.all_cons, ih, bne, ccB]
    cases (Qxk r c.fM).2 <;> cases (Qxk r c.fM).1.f8 == c.fO <;> rfl
  · intro n _ i hd
    simp only [Qdo.eq_2]
    unfold Qjt
    rw [hd, cond_false]; rfl
/-- the cartons and their places -/
def cs (x : Plan) : List (Carton × Spot) := x.fQ.zip x.fU
def Q58 (r : Request) (p : Carton × Spot) : Bool := Jcc r.fJ (Qua r p.1) p.2
def ovP (r : Request) (p q : Carton × Spot) : Bool := Q7f (Qua r p.1) p.2 (Qua r q.1) q.2
def Q4c (r : Request) : List (Carton × Spot) → List (Carton × Spot) → Bool
  | _, [] => true
  | pre, p :: l => pre.all (λq => !ovP r p q) && Q4c r (pre ++ [p]) l
theorem Q89 {x : Plan} (el : x.fU.length = x.fQ.length) : (cs x).length = x.fQ.length := by simp [cs]; omega
theorem Jf5 {fu : Nat} {r : Request} (h : Sm fu r) {x : Plan} (hx : Sp x) (el : x.fU.length = x.fQ.length) : Qmu fu r x = some ((cs x).all (Q58 r)) := by
  have hfu := h.fu
  have hc := hx.cars
  have hz := Q89 el
  unfold Qmu
  have key := lp (cs x) (λn (_ : Unit) i => Qe1 fu r x n i) (λl _ => some (l.all (Q58 r))) (by omega) ?_ ?_ fu () (by omega)
  · exact key
  · intro n _ i p xs e hd ih
    have ih := ih ()
    obtain ⟨e1, e2⟩ := Qvg e
    have hu := hx.units p.1 (Qd5 e1)
    rw [hz] at hd
    simp only [Qe1.eq_2]
    unfold Qix
    simp only [hd, cond_true, e1, e2, Qab, Q3x h _ hu, Jjf, ih, List.all_cons, Q58]
    cases Jcc r.fJ (Qua r p.1) p.2 <;> rfl
  · intro n _ i hd
    rw [hz] at hd
    simp only [Qe1.eq_2]
    unfold Qix
    rw [hd, cond_false]; rfl
theorem Jfz {fu : Nat} {r : Request} (h : Sm fu r) {x : Plan} (hx : Sp x) (el : x.fU.length = x.fQ.length) : Qn9 fu r x = some (Q4c r [] (cs x)) := by
  have hfu := h.fu
  have hc := hx.cars
  have hz := Q89 el
  unfold Qn9
  have key := lpP (cs x) (λn (_ : Unit) i => Qds fu r x n i) (λpre l _ => some (Q4c r pre l)) (by omega) ?_ ?_ fu () (by omega)
  · exact key
  · intro n _ pre p xs e0 e hd ih
    have ih := ih ()
    obtain ⟨e1, e2⟩ := Qvg e
    have hu := hx.units p.1 (Qd5 e1)
    have hpl : pre.length ≤ (cs x).length := by rw [e0]; simp
    rw [hz] at hd
    simp only [Qds.eq_2]
    unfold Qjk
    rw [hd, cond_true]
    have key2 := lp pre (λm (_ : Unit) j => Qfm fu (Qds fu r x n) r x (pre.length : Int) m j) (λl _ => some (l.all (λq => !ovP r p q) && Q4c r (pre ++ [p]) xs)) (by omega) ?_ ?_ fu () (by omega)
    · rw [key2]; rfl
    · intro m _ j q qs f hd2 ih2
      have ih2 := ih2 ()
      have f' : ix (cs x) j = some q := by rw [e0]; exact Q6l f
      obtain ⟨f1, f2⟩ := Qvg f'
      have hu2 := hx.units q.1 (Qd5 f1)
      simp only [Qfm.eq_2]
      unfold Qjf
      simp only [hd2, cond_true, e1, e2, f1, f2, Qab, Q3x h _ hu, Q3x h _ hu2, Jgy, ih2, List.all_cons, ovP]
      cases Q7f (Qua r p.1) p.2 (Qua r q.1) q.2 <;> rfl
    · intro m _ j hd2
      simp only [Qfm.eq_2]
      unfold Qjf
      rw [hd2, cond_false, ih]; rfl
  · intro n _ hd
    rw [hz] at hd ⊢
    simp only [Qds.eq_2]
    unfold Qjk
    rw [hd, cond_false]; rfl
/-- what is right of a pallet -/
def plB (r : Request) (x : Plan) (k : Int) : Bool :=
  !(((onM x k).length : Int) == 0) && (!(decide (pgM r x k > r.fJ.fV)) && (onM x k).all λi => (Qz6 x i).fE == (Qz6 x (ix (onM x k) 0 |>.getD 0)).fE)
theorem Q8i {x : Plan} {k : Int} (hne : (((onM x k).length : Int) == 0) = false) : ∃ i0 c0, ix (onM x k) 0 = some i0 ∧ ix x.fQ i0 = some c0 ∧ ∃ rest, onM x k = i0 :: rest := by
  cases hl : onM x k with
  | nil => simp [hl] at hne
  | cons i0 rest =>
    obtain ⟨c0, _, h1, _⟩ := Qyy (show i0 ∈ onM x k by rw [hl]; simp)
    exact ⟨i0, c0, rfl, h1, rest, rfl⟩
theorem Jgc {fu : Nat} {r : Request} (h : Sm fu r) {x : Plan} (hx : Sp x) : Qkp fu r x = some ((Qj3 0 (Qx0 x.fU).toNat).all (plB r x)) := by
  have hfu := h.fu
  have hc := hx.cars
  have hs := hx.spots
  have hb := Q48 x.fU
  unfold Qkp
  rw [Jcp hs (by omega), Qab]
  have key := lpN (Qx0 x.fU) (λn (_ : Unit) i => Qb1 fu r x (Qx0 x.fU) n i) (λl _ => some (l.all (plB r x))) (by omega) ?_ ?_ (Qx0 x.fU).toNat fu () 0 (by omega) (by omega) (by omega)
  · exact key
  · intro n _ k xs h0 h1 hd ih
    have ih := ih ()
    have hol := Q2y x k
    simp only [Qb1.eq_2]
    unfold Qid
    rw [hd, cond_true, Jjt hs hc (by omega) (by omega), Qab, List.all_cons]
    generalize xs.all (plB r x) = A at ih ⊢
    unfold plB
    cases hne : ((onM x k).length : Int) == 0
    · rw [cond_false, Jj8 h hx, Qab, Bool.not_false, Bool.true_and]
      cases decide (pgM r x k > r.fJ.fV)
      · obtain ⟨i0, c0, g1, g2, rest, g3⟩ := Q8i hne
        rw [cond_false, g1, Option.getD_some, Bool.not_false, Bool.true_and]
        unfold Qjg
        have e0 : Qz6 x i0 = c0 := by unfold Qz6; rw [g2]; rfl
        rw [e0]
        have key2 : ∀ (qs : List Int) (pre : List Int) (m : Nat), onM x k = pre ++ qs → qs.length < m → Qei fu (Qb1 fu r x (Qx0 x.fU) n) x k (onM x k) m (pre.length : Int) = some (qs.all (λi => (Qz6 x i).fE == c0.fE) && A) := by
          intro qs
          induction qs with
          | nil =>
            intro pre m e hm
            obtain ⟨m, rfl⟩ : ∃ k, m = k + 1 := ⟨m - 1, by omega⟩
            rw [Qei.eq_2]
            unfold Qic Qjh
            rw [show decide ((pre.length : Int) < ((onM x k).length : Int)) = false from decide_eq_false (by rw [e]; simp), cond_false, ih]
            rfl
          | cons i qs ihq =>
            intro pre m e hm
            obtain ⟨m, rfl⟩ : ∃ k, m = k + 1 := ⟨m - 1, by omega⟩
            have hi : i ∈ onM x k := by rw [e]; simp
            obtain ⟨c, _, hci, _⟩ := Qyy hi
            have hpi : ix (onM x k) (pre.length : Int) = some i := by rw [e, Qq5]; simp
            have hpl : pre.length + 1 ≤ (onM x k).length := by rw [e]; simp
            rw [Qei.eq_2]
            unfold Qic
            rw [show decide ((pre.length : Int) < ((onM x k).length : Int)) = true from decide_eq_true (by omega), cond_true, hpi, Qab, hci, Qab, g1, Qab, g2, Qab, Qye _ (by omega)]
            have := ihq (pre ++ [i]) m (by rw [e]; simp) (by simp at hm; omega)
            rw [List.length_append, List.length_singleton] at this
            rw [this, List.all_cons, show Qz6 x i = c by unfold Qz6; rw [hci]; rfl]
            simp only [bne]
            cases c.fE == c0.fE <;> rfl
        have := key2 rest [i0] fu (by rw [g3]; rfl) (by have : (onM x k).length = rest.length + 1 := by rw [g3]; rfl
                                                        omega)
        rw [show ((1 : Int)) = (([i0] : List Int).length : Int) from rfl, this]
        conv => rhs; rw [g3]
        rw [List.all_cons, e0]
        simp
      · rfl
    · rfl
  · intro n _ i hd
    simp only [Qb1.eq_2]
    unfold Qid
    rw [hd, cond_false]; rfl
def Jcy (r : Request) (x : Plan) : Int :=
  bif !(Qh3 r == 0) then 1 else bif !(Q3a x) then 2 else bif Jd0 x then 2 else bif !(Q31 r x) then 3 else bif !(x.fQ.all (chB r)) then 4 else
  bif !(x.fQ.all (cgB r)) then 5 else bif !(x.fQ.all (ccB r)) then 6 else bif !((cs x).all (Q58 r)) then 7 else bif !(Q4c r [] (cs x)) then 8 else
  bif !((Qj3 0 (Qx0 x.fU).toNat).all (plB r x)) then 9 else 0
theorem Qz1 {x : Plan} (h : Q3a x = true) : x.fU.length = x.fQ.length := by
  unfold Q3a at h
  simp only [Bool.and_eq_true] at h
  simpa using h.1
theorem Jey {fu : Nat} {r : Request} (h : Sm fu r) {x : Plan} (hx : Sp x) : Qsy fu r x = some (Jcy r x) := by
  have hfu := h.fu
  unfold Qsy Jcy
  rw [Q0q h, Qab]
  cases hc : Qh3 r == 0
  · rw [show (Qh3 r != 0) = true by simp only [bne, hc]; rfl]; rfl
  · have hz : Qh3 r = 0 := by simpa using hc
    have hu : Qcg fu r = some (Qim r) := Jdm h hz
    rw [show (Qh3 r != 0) = false by simp [hz], cond_false, Jiv hx (by omega), Qab]
    cases hp : Q3a x
    · rfl
    · have el := Qz1 hp
      unfold Qr6
      rw [Bool.not_true, cond_false, Jjk hx (by omega), Qab]
      cases Jd0 x
      · rw [cond_false, hu, Qab, Jgw hfu hx, Qab, Ja4 h hx, Qab, Jbk h hx, Qab, Jcm h hx, Qab, Jf5 h hx el, Qab, Jfz h hx el, Qab, Jgc h hx, Qab]
        cases Q31 r x <;> cases x.fQ.all (chB r) <;> cases x.fQ.all (cgB r) <;> cases x.fQ.all (ccB r) <;> cases (cs x).all (Q58 r) <;> cases Q4c r [] (cs x) <;> cases (Qj3 0 (Qx0 x.fU).toNat).all (plB r x) <;> rfl
      · rfl
end Go.Proofs.YtpcmapfabndggaaGreat
/- Check, by impl. -/
namespace Go.Proofs.YtpcmapfabndggaaGreat
open Go
open Enc (rd ow)
open Arg (argv)
open Ret (retv)
open Wf (wf)
theorem Jd4 {r:Request} {id:Int} {t:Typ} (h:Qtn r id = some t):t ∈ r.fT:=List.mem_of_find?_eq_some h
theorem Q81 (r:Request) (us:List Int):∀ (l:List Typ) (s:Typ × Bool),(l.foldl (chp r us) s).2 = (s.2 || l.any (Qz8 r us))
 | [],s=>by simp
 | t :: l,s=>by
  rw [List.foldl_cons,Q81 r us l,List.any_cons]
  unfold chp
  obtain ⟨b,f⟩:=s
  cases Qz8 r us t <;> cases f <;> simp
  cases (decide (t.fK < b.fK) || t.fK == b.fK && decide (t.f8 < b.f8)) <;> simp
theorem Q5h {r:Request} {us:List Int} {t:Typ} (ht:t ∈ r.fT) (h:Qz8 r us t = true):(Qxk r us).2 = true:=by
 unfold Qxk
 rw [Q81]
 simp only [Bool.false_or]
 exact List.any_eq_true.2 ⟨t,ht,h⟩
theorem Jhy {r:Request} {c:Carton} (h:chB r c = true):∀ u ∈ c.fM,0 ≤ u ∧ u < (Qim r).length:=by
 unfold chB at h
 intro u hu
 split at h
 · simp only [Qz8,Bool.and_eq_true] at h
   have:=List.all_eq_true.1 h.2.1 u hu
   simp only [uOk,Bool.and_eq_true] at this
   exact Qw8.1 this.1
 · cases h
theorem Jag {r:Request} {u:Int} (hu:0 ≤ u ∧ u < (Qim r).length) {g:Int} (hg:0 ≤ g) :
    (Jbl (Qn2 r) (Qu0 r u).fF == g) = (match ix (Qn2 r) g with | some l=>l.contains (Qu0 r u).fF | none=>false):=by
 have hi:=Qvm hu
 obtain ⟨i,l,h1,h2,h3⟩:=Jd9 (Jea hi)
 rw [h3]
 apply Bool.eq_iff_iff.2
 constructor
 · intro h
   have e:(i:Int) = g:=by simpa using h
   rw [← e,Jg0 h1]
   simpa using h2
 · intro h
   cases hx:ix (Qn2 r) g with
   | none=>rw [hx] at h; cases h
   | some m =>
    rw [hx] at h
    obtain ⟨g0,g1,g2⟩:=Qas hx
    have:=Q39 h1 g2 h2 (by simpa using h)
    simp; omega
theorem Jdo {fu:Nat} {r:Request} (h:Sm fu r) {x:Plan} (hx:Sp x) (hg:∀ c ∈ x.fQ,0 ≤ c.fE):Qi6 fu r x =
    some (bif !(x.fQ.all (chB r)) then 4 else bif !(x.fQ.all (cgB r)) then 5 else bif !(x.fQ.all (ccB r)) then 6 else 0):=by
 have hfu:=h.fu
 have hc:=hx.cars
 unfold Qi6
 have key:=lpI x.fQ (λn (_:Unit) i=>Qc3 fu r x n i) (λl _=>some (bif !(l.all (chB r)) then 4 else bif !(x.fQ.all (cgB r)) then 5 else bif !(x.fQ.all (ccB r)) then 6 else 0))
  (λl _=>l.all (chB r) = true → x.fQ.all (chB r) = true) (by omega) ?_ ?_ fu () (λh=>h) (by omega)
 · exact key
 · intro n _ i c xs e hd hI ih
   have hu:=hx.units c (Qd5 e)
   simp only [Qc3.eq_2]
   unfold Qho Qiy
   rw [hd,cond_true,e,Qab,Qwg h,Qab,List.all_cons]
   rw [List.all_cons] at hI
   cases ht:Qtn r c.fO with
   | none=>rw [show chB r c = false by unfold chB; rw [ht]]; rfl
   | some t =>
    simp only [Qxh,Bool.not_true,cond_false]
    rw [Q7x h _ t hu,Qab]
    have e1:chB r c = Qz8 r c.fM t:=by unfold chB; rw [ht]
    rw [e1] at hI ⊢
    cases hh:Qz8 r c.fM t
    · rfl
    · rw [hh,Bool.true_and] at hI
      rw [Bool.not_true,cond_false,ih () hI,Bool.true_and]
 · intro n _ i hd hI
   have hA:=hI rfl
   simp only [Qc3.eq_2]
   unfold Qho
   rw [hd,cond_false,Ji8 h,Qab]
   show _ = some (bif !(x.fQ.all (cgB r)) then 5 else bif !(x.fQ.all (ccB r)) then 6 else 0)
   have key2:=lp x.fQ (λn (_:Unit) i=>Qd2 fu r x (Qn2 r) n i) (λl _=>some (bif !(l.all (cgB r)) then 5 else bif !(x.fQ.all (ccB r)) then 6 else 0)) (by omega) ?_ ?_ fu () (by omega)
   · exact key2
   · intro n _ i c xs e hd ih
     have ih:=ih ()
     have hu:=hx.units c (Qd5 e)
     have hin:=Jhy (List.all_eq_true.1 hA c (Qd5 e))
     have hil:=Qwm r c.fM
     simp only [Qd2.eq_2]
     unfold Qhm
     rw [hd,cond_true,e,Qab,Q2b h _ hu (by omega),Qab,Q13 hin]
     rw [Qwk _ (λy=>!(match ix (Qn2 r) c.fE with | some l=>l.contains y.fF | none=>false)) ?_ (by simp; omega) (by simp; omega),Qab,List.any_map,List.all_cons]
     · have e1:cgB r c = !(c.fM.any ((λy=>!(match ix (Qn2 r) c.fE with | some l=>l.contains y.fF | none=>false)) ∘ Qu0 r)):=by
         unfold cgB
         rw [List.not_any_eq_all_not]
         apply Q1u
         intro u hu'
         rw [Jag (hin u hu') (hg c (Qd5 e))]
         simp only [Function.comp,Bool.not_not]
       rw [e1,ih]
       cases c.fM.any ((λy=>!(match ix (Qn2 r) c.fE with | some l=>l.contains y.fF | none=>false)) ∘ Qu0 r) <;> simp
     · intro y _
       unfold Qjd
       have hg0:=hg c (Qd5 e)
       by_cases hgl:c.fE ≥ (Qn2 r).length
       · have e0:ix (Qn2 r) c.fE = none:=by
           cases hq:ix (Qn2 r) c.fE with
           | none=>rfl
           | some l=>have:=(Qas hq).2.1; omega
         rw [e0,decide_eq_true hgl,cond_true]; rfl
       · have hlt:c.fE.toNat < (Qn2 r).length:=by omega
         have e0:ix (Qn2 r) c.fE = some (Qn2 r)[c.fE.toNat]:=by
          have:=Qxs hlt
          rwa [show ((c.fE.toNat:Nat):Int) = c.fE by omega] at this
         have hgl':=(Quz r).2 _ (List.getElem_mem hlt)
         rw [e0,decide_eq_false hgl,cond_false,Qab,Jiz (by omega) (by omega),Qab]
   · intro n _ i hd
     simp only [Qd2.eq_2]
     unfold Qhm
     rw [hd,cond_false]
     show _ = some (bif !(x.fQ.all (ccB r)) then 6 else 0)
     have key3:=lpI x.fQ (λn (_:Unit) i=>Qdz fu r x n i) (λl _=>some (bif !(l.all (ccB r)) then 6 else 0)) (λl _=>l.all (chB r) = true) (by omega) ?_ ?_ fu () hA (by omega)
     · exact key3
     · intro n _ i c xs e hd hI ih
       have hu:=hx.units c (Qd5 e)
       rw [List.all_cons,Bool.and_eq_true] at hI
       have hch:=hI.1
       have h2:(Qxk r c.fM).2 = true:=by
        unfold chB at hch
        split at hch
        · rename_i t ht
          exact Q5h (Jd4 ht) hch
        · cases hch
       simp only [Qdz.eq_2]
       unfold Qhk
       rw [hd,cond_true,e,Qab,Jdt h _ hu,Qab,ih () hI.2,List.all_cons,ccB,h2,Bool.true_and]
       simp only [bne]
       cases (Qxk r c.fM).1.f8 == c.fO <;> rfl
     · intro n _ i hd _
       simp only [Qdz.eq_2]
       unfold Qhk
       rw [hd,cond_false]; rfl
theorem Jdw {fu:Nat} {r:Request} (h:Sm fu r) {x:Plan} (hx:Sp x) (el:x.fU.length = x.fQ.length):Qmk fu r x =
    some (bif !((cs x).all (Q58 r)) then 7 else bif !(Q4c r [] (cs x)) then 8 else bif !((Qj3 0 (Qx0 x.fU).toNat).all (plB r x)) then 9 else 0):=by
 have hfu:=h.fu
 have hc:=hx.cars
 have hs:=hx.spots
 have hz:=Q89 el
 have hb:=Q48 x.fU
 have bx_len:(((cs x).map λp=>Qua r p.1).length:Int) = x.fQ.length:=by simp [hz]
 unfold Qmk
 have key:=Jfb (cs x) (λn (o:List Box) i=>Qe3 fu r x n o i) (λ_ l _=>some (bif !(l.all (Q58 r)) then 7 else bif !(Q4c r [] (cs x)) then 8 else bif !((Qj3 0 (Qx0 x.fU).toNat).all (plB r x)) then 9 else 0))
  (λpre l o=>o = pre.map λp=>Qua r p.1) (by omega) ?_ ?_ fu [] rfl (by omega)
 · exact key
 · intro n o pre p xs e0 e hd hI ih
   obtain ⟨e1,e2⟩:=Qvg e
   have hu:=hx.units p.1 (Qd5 e1)
   have hpl:pre.length ≤ (cs x).length:=by rw [e0]; simp
   rw [hz] at hd
   simp only [Qe3.eq_2]
   unfold Qip
   rw [hd,cond_true,e1,Qab,Jc5 h _ hu,Qab,e2,Qab,Ji3,Qab,List.all_cons,Q58]
   cases Jcc r.fJ (Qua r p.1) p.2
   · rfl
   · subst hI
     rw [Bool.not_true,cond_false,ap1 (by simp; omega),Qab,ih _ (by simp),Bool.true_and]
 · intro n o hd hI
   rw [hz] at hd ⊢
   simp only [Qe3.eq_2]
   unfold Qip
   rw [hd,cond_false]
   show _ = some (bif !(Q4c r [] (cs x)) then 8 else bif !((Qj3 0 (Qx0 x.fU).toNat).all (plB r x)) then 9 else 0)
   subst hI
   have key2:=lpP (cs x) (λn (_:Unit) i=>Qc6 fu r x ((cs x).map λp=>Qua r p.1) n i) (λpre l _=>some (bif !(Q4c r pre l) then 8 else bif !((Qj3 0 (Qx0 x.fU).toNat).all (plB r x)) then 9 else 0)) (by omega) ?_ ?_ fu () (by omega)
   · exact key2
   · intro n _ pre p xs e0 e hd ih
     have ih:=ih ()
     obtain ⟨e1,e2⟩:=Qvg e
     have hu:=hx.units p.1 (Qd5 e1)
     have hpl:pre.length ≤ (cs x).length:=by rw [e0]; simp
     have b1:ix ((cs x).map λp=>Qua r p.1) (pre.length:Int) = some (Qua r p.1):=by
      rw [Qq5,List.getElem?_map]
      rw [Qq5] at e
      rw [e]; rfl
     simp only [Qc6.eq_2]
     unfold Qio
     rw [bx_len,← hz,hd,cond_true]
     have key3:=lp pre (λm (_:Unit) j=>Qe0 fu (Qc6 fu r x ((cs x).map λp=>Qua r p.1) n) x ((cs x).map λp=>Qua r p.1) (pre.length:Int) m j) (λl _=>some (bif !(l.all (λq=>!ovP r p q) && Q4c r (pre ++ [p]) xs) then 8 else bif !((Qj3 0 (Qx0 x.fU).toNat).all (plB r x)) then 9 else 0)) (by omega) ?_ ?_ fu () (by omega)
     · rw [key3]; rfl
     · intro m _ j q qs f hd2 ih2
       have ih2:=ih2 ()
       have f':ix (cs x) j = some q:=by rw [e0]; exact Q6l f
       obtain ⟨f1,f2⟩:=Qvg f'
       obtain ⟨j0,j1,j2⟩:=Qas f'
       have b2:ix ((cs x).map λp=>Qua r p.1) j = some (Qua r q.1):=by
        unfold ix
        rw [if_pos j0,List.getElem?_map,j2]; rfl
       simp only [Qe0.eq_2]
       unfold Qiw
       simp only [hd2,cond_true,b1,e2,b2,f2,Qab,Jgm,ih2,List.all_cons,ovP]
       cases Q7f (Qua r p.1) p.2 (Qua r q.1) q.2 <;> rfl
     · intro m _ j hd2
       simp only [Qe0.eq_2]
       unfold Qiw
       rw [hd2,cond_false,ih]; rfl
   · intro n _ hd
     simp only [Qc6.eq_2]
     unfold Qio
     rw [bx_len,← hz,hd,cond_false,Jg3 hs (by omega),Qab]
     show _ = some (bif !((Qj3 0 (Qx0 x.fU).toNat).all (plB r x)) then 9 else 0)
     have key4:=lpN (Qx0 x.fU) (λn (_:Unit) i=>Qc5 fu r x (Qx0 x.fU) n i) (λl _=>some (bif !(l.all (plB r x)) then 9 else 0)) (by omega) ?_ ?_ (Qx0 x.fU).toNat fu () 0 (by omega) (by omega) (by omega)
     · exact key4
     · intro n _ k xs h0 h1 hd ih
       have ih:=ih ()
       have hol:=Q2y x k
       simp only [Qc5.eq_2]
       unfold Qi3
       rw [hd,cond_true,Jjv hs (by omega),Qab,List.all_cons]
       generalize xs.all (plB r x) = A at ih ⊢
       unfold plB
       cases hne:((onM x k).length:Int) == 0
       · rw [cond_false,Jj6 h hx,Qab,Bool.not_false,Bool.true_and]
         cases decide (pgM r x k > r.fJ.fV)
         · obtain ⟨i0,c0,g1,g2,rest,g3⟩:=Q8i hne
           unfold Qlu Qmj
           rw [cond_false,g1,Option.getD_some,Bool.not_false,Bool.true_and]
           have e0:Qz6 x i0 = c0:=by unfold Qz6; rw [g2]; rfl
           rw [e0,Q5q _ (λi=>!((Qz6 x i).fE == c0.fE)) ?_ (by omega) (by omega),Qab,ih]
           · rw [show (onM x k).all (λi=>(Qz6 x i).fE == c0.fE) = !((onM x k).any λi=>!((Qz6 x i).fE == c0.fE)) by rw [List.not_any_eq_all_not]; simp]
             cases (onM x k).any λi=>!((Qz6 x i).fE == c0.fE) <;> simp
           · intro i hi
             obtain ⟨c,_,hci,_⟩:=Qyy hi
             unfold Qnc
             rw [hci,Qab,g1,Qab,g2,Qab,show Qz6 x i = c by unfold Qz6; rw [hci]; rfl]
             rfl
         · rfl
       · rfl
     · intro n _ i hd
       simp only [Qc5.eq_2]
       unfold Qi3
       rw [hd,cond_false]; rfl
theorem Jaa {x:Plan} (h:Q3a x = true):∀ c ∈ x.fQ,0 ≤ c.fE ∧ c.fE ≤ 3:=by
 have el:=Qz1 h
 unfold Q3a at h
 simp only [Bool.and_eq_true] at h
 intro c hc
 obtain ⟨i,hi⟩:=List.mem_iff_getElem?.1 hc
 have hlt:=(List.getElem?_eq_some_iff.1 hi).1
 have hz:(c,x.fU[i]'(by omega)) ∈ x.fQ.zip x.fU:=by
  apply List.mem_iff_getElem?.2
  refine ⟨i,List.getElem?_zip_eq_some.2 ⟨hi,List.getElem?_eq_getElem _⟩⟩
 have:=List.all_eq_true.1 h.2.2 _ hz
 simp only [Jcx,Bool.and_eq_true,Qd3] at this
 omega
theorem Je4 {fu:Nat} {r:Request} (h:Sm fu r) {x:Plan} (hx:Sp x):Qs2 fu r x = some (Jcy r x):=by
 have hfu:=h.fu
 have hc:=hx.cars
 have hfl:=Qwi x.fQ
 have ha:=hx.all
 have hul:=Qyi r
 unfold Qs2 Jcy
 rw [Qvw h,Qab]
 cases hz:Qh3 r == 0
 · rfl
 · rw [Bool.not_true,cond_false,Jiu hx (by omega),Qab]
   cases hp:Q3a x
   · rfl
   · have el:=Qz1 hp
     rw [Bool.not_true,cond_false,Jbe (l:=x.fQ) (λy=>Qsr fu y) (λc=>(c.fM.length:Int) == 0) (λc _=>rfl) hc (by omega),Qab]
     show (bif Jd0 x then _ else _) = _
     cases Jd0 x
     · rw [cond_false]
       unfold Qrm Qc2
       rw [Jgr hx (by omega),Qab,Q66 (by omega),Qab,Jdp h,Qab,Jbo _ (by omega) (by omega),Qab,Jed _ _ (by simp; omega) (by simp; omega),Qab,Jdo h hx (λc hc=>(Jaa hp c hc).1),Qab,Jdw h hx el,Qab]
       have e1:decide ((Qsk x.fQ).mergeSort (λx y=>decide (x ≤ y)) = Qj3 0 (Qim r).length) = Q31 r x:=by
        unfold Q31 Jhm
        rw [Q4i]
       rw [e1]
       cases Q31 r x
       · rfl
       · cases x.fQ.all (chB r)
         · rfl
         · cases x.fQ.all (cgB r)
           · rfl
           · cases x.fQ.all (ccB r) <;> rfl
     · rfl
end Go.Proofs.YtpcmapfabndggaaGreat
/- Feasible, by spec and by impl. -/
namespace Go.Proofs.YtpcmapfabndggaaGreat
open Go
open Enc (rd ow)
open Arg (argv)
open Ret (retv)
open Wf (wf)
def Qwv (r:Request) (x:Plan):Bool:=Jcy r x == 0
theorem Jc4 {fu:Nat} {r:Request} (h:Sm fu r) {x:Plan} (hx:Sp x):Qkw fu r x = some (Qwv r x):=by
 unfold Qkw Qwv
 rw [Jey h hx]; rfl
theorem Q76 {fu:Nat} {r:Request} (h:Sm fu r) {x:Plan} (hx:Sp x):Qgx fu r x = some (Qwv r x):=by
 unfold Qgx Qwv
 rw [Je4 h hx]; rfl
end Go.Proofs.YtpcmapfabndggaaGreat
