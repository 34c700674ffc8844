import Derived.Test.YtkkfmjpbiimkbaaGreatCkdLawBP3
set_option linter.unusedSimpArgs false
set_option linter.unusedVariables false
/- Check, by spec and by impl. -/
namespace Go.Proofs.YtkkfmjpbiimkbaaGreat
open Go
open Enc (rd ow)
open Arg (argv)
open Ret (retv)
open Wf (wf)
theorem Q9q {fu : Nat} {l : List Carton} (f : Carton → Option Bool) (g : Carton → Bool) (hg : ∀ x ∈ l, f x = some (g x)) (hl : l.length ≤ 1048576) (hf : l.length < fu) : Qbr fu l f = some (Qwl g l 0) := by
  unfold Qbr
  refine Qr9 l (fun n i => Qa1 fu l f n i) g (by omega) ?_ ?_ fu hf
  · intro n i x hx hd
    simp only [Qa1.eq_2]
    unfold Qbx
    simp only [hd, cond_true, hx, Qab, hg x (Qe2 hx)]
  · intro n i hd
    simp only [Qa1.eq_2]
    unfold Qbx
    simp only [hd, cond_false]
theorem Q83 {fu : Nat} {l : List Carton} (f : Carton → Option Bool) (g : Carton → Bool) (hg : ∀ x ∈ l, f x = some (g x)) (hl : l.length ≤ 1048576) (hf : l.length < fu) : Qbi fu l f = some (l.any g) := by
  unfold Qbi
  rw [Q9q f g hg hl hf, Qab, Qsq g l 0 (by omega)]
def Q9p (x : Plan) : Bool := x.fCartons.any fun c => (c.fUnits.length : Int) == 0
theorem Jew {fu : Nat} {x : Plan} (h : Sp x) (hf : 1048577 ≤ fu) : Qny fu x = some (Q9p x) := by
  have hc := h.cars
  unfold Qny Q9p
  have key := lp x.fCartons (fun n (_ : Unit) i => Qfq fu x n i) (fun l _ => some (l.any fun c => (c.fUnits.length : Int) == 0)) (by omega) ?_ ?_ fu () (by omega)
  · exact key
  · intro n _ i c xs hx hd ih
    have ih := ih ()
    simp only [Qfq.eq_2]
    unfold Qi5
    rw [hd, cond_true, hx, Qab, ih, List.any_cons]
    cases (c.fUnits.length : Int) == 0 <;> rfl
  · intro n _ i hd
    simp only [Qfq.eq_2]
    unfold Qi5
    rw [hd, cond_false]; rfl
/-- each unit of the order once -/
def Qzd (r : Request) (x : Plan) : Bool := Jet (Qqf x.fCartons) (Qka 0 (Qh8 r).length)
theorem Q1l {r : Request} {x : Plan} : Qzd r x = true ↔ (Qqf x.fCartons).Perm (Qka 0 (Qh8 r).length) := Q9k
theorem Jdg {fu : Nat} {r : Request} (hfu : 2097153 ≤ fu) {x : Plan} (h : Sp x) : Qnq fu (Qh8 r) x = some (Qzd r x) := by
  have hul := Qva r
  have hfl := Qtq x.fCartons
  have ha := h.all
  unfold Qnq
  rw [Jdt h (by omega), Qab]
  by_cases hl : (Qqf x.fCartons).length = (Qh8 r).length
  · rw [show (((Qqf x.fCartons).length : Int) != ((Qh8 r).length : Int)) = false by simp; omega, cond_false]
    have key := lpN ((Qh8 r).length : Int) (fun n (_ : Unit) i => Qfh fu (Qh8 r) (Qqf x.fCartons) n i) (fun l _ => some (l.all fun u => (Qqf x.fCartons).count u == 1)) (by omega) ?_ ?_ (Qh8 r).length fu () 0 (by omega) (by omega) (by omega)
    · rw [key]
      congr 1
      apply Bool.eq_iff_iff.2
      rw [Q1l]
      constructor
      · intro hA
        refine (Q30 _ _ (by rw [Qei, hl]) fun u hu => ?_).symm
        have h1 := List.all_eq_true.1 hA u hu
        have h2 : (Qka 0 (Qh8 r).length).count u = 1 := by rw [List.Nodup.count (Qvz _ _), if_pos hu]
        have h3 : (Qqf x.fCartons).count u = 1 := by simpa using h1
        omega
      · intro hp
        refine List.all_eq_true.2 fun u hu => ?_
        have h2 : (Qka 0 (Qh8 r).length).count u = 1 := by rw [List.Nodup.count (Qvz _ _), if_pos hu]
        have := hp.count_eq u
        simp; omega
    · intro n _ i xs h0 h1 hd ih
      have ih := ih ()
      simp only [Qfh.eq_2]
      unfold Qi7
      rw [hd, cond_true, Jga (by omega) (by omega), Qab, Q6i, ih, List.all_cons]
      by_cases hc : (Qqf x.fCartons).count i = 1
      · simp [hc]
      · rw [show (((Qqf x.fCartons).count i : Int) != 1) = true by simp; omega, cond_true, show ((Qqf x.fCartons).count i == 1) = false by simpa using hc]; rfl
    · intro n _ i hd
      simp only [Qfh.eq_2]
      unfold Qi7
      rw [hd, cond_false]; rfl
  · rw [show (((Qqf x.fCartons).length : Int) != ((Qh8 r).length : Int)) = true by simp; omega, cond_true]
    congr 1
    symm
    apply Bool.eq_false_iff.2
    intro hb
    have := (Q1l.1 hb).length_eq
    rw [Qei] at this
    exact hl this
theorem Q20 (a : Int) (n : Nat) : (Qka a n).mergeSort (fun x y => decide (x ≤ y)) = Qka a n :=
  List.mergeSort_of_pairwise ((Qu3 a n).imp fun h => by simpa using (show _ ≤ _ by omega))
/-- what is right of a carton -/
def chB (r : Request) (c : Carton) : Bool := match Qsh r c.fType with | some t => Qxm r c.fUnits t | none => false
def cgB (r : Request) (c : Carton) : Bool := c.fUnits.all fun u => Q9w (Qna r) (Qtp r u).fClass == c.fGroup
def ccB (r : Request) (c : Carton) : Bool := (Qwr r c.fUnits).2 && (Qwr r c.fUnits).1.fId == c.fType
theorem Q89 {fu : Nat} {r : Request} (h : Sm fu r) {x : Plan} (hx : Sp x) : Qnm fu r x = some (x.fCartons.all (chB r)) := by
  have hfu := h.fu
  have hc := hx.cars
  unfold Qnm
  have key := lp x.fCartons (fun n (_ : Unit) i => Qdo fu r x n i) (fun l _ => some (l.all (chB r))) (by omega) ?_ ?_ fu () (by omega)
  · exact key
  · intro n _ i c xs e hd ih
    have ih := ih ()
    have hu := hx.units c (Qe2 e)
    simp only [Qdo.eq_2]
    unfold Qiy Qm9 Qmt
    rw [hd, cond_true, e, Qab, Qx7 h, Qab, List.all_cons]
    unfold chB
    cases ht : Qsh r c.fType with
    | none => rfl
    | some t =>
      simp only [Qwd, Bool.not_true, cond_false]
      rw [Qab, Q7g h _ t hu, Qab, ih]
      cases Qxm r c.fUnits t <;> rfl
  · intro n _ i hd
    simp only [Qdo.eq_2]
    unfold Qiy
    rw [hd, cond_false]; rfl
theorem Q9i {fu : Nat} {r : Request} (h : Sm fu r) {x : Plan} (hx : Sp x) : Qnt fu r (Qh8 r) x = some (x.fCartons.all (cgB r)) := by
  have hfu := h.fu
  have hc := hx.cars
  unfold Qnt
  rw [Q9o h, Qab]
  have key := lp x.fCartons (fun n (_ : Unit) i => Qch fu r (Qh8 r) x (Qna r) n i) (fun l _ => some (l.all (cgB r))) (by omega) ?_ ?_ fu () (by omega)
  · exact key
  · intro n _ i c xs e hd ih
    have ih := ih ()
    have hu := hx.units c (Qe2 e)
    simp only [Qch.eq_2]
    unfold Qjc
    rw [hd, cond_true]
    have key2 := lp c.fUnits (fun m (_ : Unit) j => Qdr fu (Qch fu r (Qh8 r) x (Qna r) n) r (Qh8 r) x (Qna r) i m j) (fun l _ => some (l.all (fun u => Q9w (Qna r) (Qtp r u).fClass == c.fGroup) && xs.all (cgB r))) (by omega) ?_ ?_ fu () (by omega)
    · rw [key2]; rfl
    · intro m _ j u us e2 hd2 ih2
      have ih2 := ih2 ()
      simp only [Qdr.eq_2]
      unfold Qi0 Qnf Qmz
      simp only [e, Qab, hd2, cond_true, e2, Q4t, Jfb (Qtr r).1 (Qtr r).2 (show 100 ≤ fu by omega), ih2, List.all_cons, bne]
      cases Q9w (Qna r) (Qtp r u).fClass == c.fGroup <;> rfl
    · intro m _ j hd2
      simp only [Qdr.eq_2]
      unfold Qi0 Qmq
      simp only [e, Qab, hd2, cond_false, ih]
      rfl
  · intro n _ i hd
    simp only [Qch.eq_2]
    unfold Qjc
    rw [hd, cond_false]; rfl
theorem Jac {fu : Nat} {r : Request} (h : Sm fu r) {x : Plan} (hx : Sp x) : Qno fu r x = some (x.fCartons.all (ccB r)) := by
  have hfu := h.fu
  have hc := hx.cars
  unfold Qno
  have key := lp x.fCartons (fun n (_ : Unit) i => Qdu fu r x n i) (fun l _ => some (l.all (ccB r))) (by omega) ?_ ?_ fu () (by omega)
  · exact key
  · intro n _ i c xs e hd ih
    have ih := ih ()
    have hu := hx.units c (Qe2 e)
    simp only [Qdu.eq_2]
    unfold Qi3 Qms Qm5
    simp only [hd, cond_true, e, Qab, Q57 h _ hu, List.all_cons, ih, bne, ccB]
    cases (Qwr r c.fUnits).2 <;> cases (Qwr r c.fUnits).1.fId == c.fType <;> rfl
  · intro n _ i hd
    simp only [Qdu.eq_2]
    unfold Qi3
    rw [hd, cond_false]; rfl
/-- the cartons and their places -/
def cs (x : Plan) : List (Carton × Spot) := x.fCartons.zip x.fSpots
def Q65 (r : Request) (p : Carton × Spot) : Bool := Jao r.fPallet (Qug r p.1) p.2
def ovP (r : Request) (p q : Carton × Spot) : Bool := Jaf (Qug r p.1) p.2 (Qug r q.1) q.2
def Q2t (r : Request) : List (Carton × Spot) → List (Carton × Spot) → Bool
  | _, [] => true
  | pre, p :: l => pre.all (fun q => !ovP r p q) && Q2t r (pre ++ [p]) l
theorem Q56 {x : Plan} (el : x.fSpots.length = x.fCartons.length) : (cs x).length = x.fCartons.length := by simp [cs]; omega
theorem Jc9 {fu : Nat} {r : Request} (h : Sm fu r) {x : Plan} (hx : Sp x) (el : x.fSpots.length = x.fCartons.length) : Ql3 fu r x = some ((cs x).all (Q65 r)) := by
  have hfu := h.fu
  have hc := hx.cars
  have hz := Q56 el
  unfold Ql3
  have key := lp (cs x) (fun n (_ : Unit) i => Qeu fu r x n i) (fun l _ => some (l.all (Q65 r))) (by omega) ?_ ?_ fu () (by omega)
  · exact key
  · intro n _ i p xs e hd ih
    have ih := ih ()
    obtain ⟨e1, e2⟩ := Qwo e
    have hu := hx.units p.1 (Qe2 e1)
    rw [hz] at hd
    simp only [Qeu.eq_2]
    unfold Qip
    simp only [hd, cond_true, e1, e2, Qab, Q4q h _ hu, Jgi, ih, List.all_cons, Q65]
    cases Jao r.fPallet (Qug r p.1) p.2 <;> rfl
  · intro n _ i hd
    rw [hz] at hd
    simp only [Qeu.eq_2]
    unfold Qip
    rw [hd, cond_false]; rfl
theorem Jd8 {fu : Nat} {r : Request} (h : Sm fu r) {x : Plan} (hx : Sp x) (el : x.fSpots.length = x.fCartons.length) : Qn2 fu r x = some (Q2t r [] (cs x)) := by
  have hfu := h.fu
  have hc := hx.cars
  have hz := Q56 el
  unfold Qn2
  have key := lpP (cs x) (fun n (_ : Unit) i => Qdm fu r x n i) (fun pre l _ => some (Q2t r pre l)) (by omega) ?_ ?_ fu () (by omega)
  · exact key
  · intro n _ pre p xs e0 e hd ih
    have ih := ih ()
    obtain ⟨e1, e2⟩ := Qwo e
    have hu := hx.units p.1 (Qe2 e1)
    have hpl : pre.length ≤ (cs x).length := by rw [e0]; simp
    rw [hz] at hd
    simp only [Qdm.eq_2]
    unfold Qix
    rw [hd, cond_true]
    have key2 := lp pre (fun m (_ : Unit) j => Qfc fu (Qdm fu r x n) r x (pre.length : Int) m j) (fun l _ => some (l.all (fun q => !ovP r p q) && Q2t r (pre ++ [p]) xs)) (by omega) ?_ ?_ fu () (by omega)
    · rw [key2]; rfl
    · intro m _ j q qs f hd2 ih2
      have ih2 := ih2 ()
      have f' : ix (cs x) j = some q := by rw [e0]; exact Q4s f
      obtain ⟨f1, f2⟩ := Qwo f'
      have hu2 := hx.units q.1 (Qe2 f1)
      simp only [Qfc.eq_2]
      unfold Qiv
      simp only [hd2, cond_true, e1, e2, f1, f2, Qab, Q4q h _ hu, Q4q h _ hu2, Jfa, ih2, List.all_cons, ovP]
      cases Jaf (Qug r p.1) p.2 (Qug r q.1) q.2 <;> rfl
    · intro m _ j hd2
      simp only [Qfc.eq_2]
      unfold Qiv
      rw [hd2, cond_false, ih]; rfl
  · intro n _ hd
    rw [hz] at hd ⊢
    simp only [Qdm.eq_2]
    unfold Qix
    rw [hd, cond_false]; rfl
/-- what is right of a pallet -/
def plB (r : Request) (x : Plan) (k : Int) : Bool :=
  !(((onM x k).length : Int) == 0) && (!(decide (pgM r x k > r.fPallet.fGram)) && (onM x k).all fun i => (Qzx x i).fGroup == (Qzx x (ix (onM x k) 0 |>.getD 0)).fGroup)
theorem Q6h {x : Plan} {k : Int} (hne : (((onM x k).length : Int) == 0) = false) : ∃ i0 c0, ix (onM x k) 0 = some i0 ∧ ix x.fCartons i0 = some c0 ∧ ∃ rest, onM x k = i0 :: rest := by
  cases hl : onM x k with
  | nil => simp [hl] at hne
  | cons i0 rest =>
    obtain ⟨c0, _, h1, _⟩ := Qyb (show i0 ∈ onM x k by rw [hl]; simp)
    exact ⟨i0, c0, rfl, h1, rest, rfl⟩
theorem Jcx {fu : Nat} {r : Request} (h : Sm fu r) {x : Plan} (hx : Sp x) : Qju fu r x = some ((Qka 0 (Qv4 x.fSpots).toNat).all (plB r x)) := by
  have hfu := h.fu
  have hc := hx.cars
  have hs := hx.spots
  have hb := Q0m x.fSpots
  unfold Qju
  rw [Jap hs (by omega), Qab]
  have key := lpN (Qv4 x.fSpots) (fun n (_ : Unit) i => Qb4 fu r x (Qv4 x.fSpots) n i) (fun l _ => some (l.all (plB r x))) (by omega) ?_ ?_ (Qv4 x.fSpots).toNat fu () 0 (by omega) (by omega) (by omega)
  · exact key
  · intro n _ k xs h0 h1 hd ih
    have ih := ih ()
    have hol := Q0p x k
    simp only [Qb4.eq_2]
    unfold Qhs
    rw [hd, cond_true, Jgp hs hc (by omega) (by omega), Qab, List.all_cons]
    generalize xs.all (plB r x) = A at ih ⊢
    unfold plB
    cases hne : ((onM x k).length : Int) == 0
    · rw [cond_false, Jg7 h hx, Qab, Bool.not_false, Bool.true_and]
      cases decide (pgM r x k > r.fPallet.fGram)
      · obtain ⟨i0, c0, g1, g2, rest, g3⟩ := Q6h hne
        rw [cond_false, g1, Option.getD_some, Bool.not_false, Bool.true_and]
        unfold Qji
        have e0 : Qzx x i0 = c0 := by unfold Qzx; rw [g2]; rfl
        rw [e0]
        have key2 : ∀ (qs : List Int) (pre : List Int) (m : Nat), onM x k = pre ++ qs → qs.length < m → Qee fu (Qb4 fu r x (Qv4 x.fSpots) n) x k (onM x k) m (pre.length : Int) = some (qs.all (fun i => (Qzx x i).fGroup == c0.fGroup) && A) := by
          intro qs
          induction qs with
          | nil =>
            intro pre m e hm
            obtain ⟨m, rfl⟩ : ∃ k, m = k + 1 := ⟨m - 1, by omega⟩
            rw [Qee.eq_2]
            unfold Qhy Qjg
            rw [show decide ((pre.length : Int) < ((onM x k).length : Int)) = false from decide_eq_false (by rw [e]; simp), cond_false, ih]
            rfl
          | cons i qs ihq =>
            intro pre m e hm
            obtain ⟨m, rfl⟩ : ∃ k, m = k + 1 := ⟨m - 1, by omega⟩
            have hi : i ∈ onM x k := by rw [e]; simp
            obtain ⟨c, _, hci, _⟩ := Qyb hi
            have hpi : ix (onM x k) (pre.length : Int) = some i := by rw [e, Qrh]; simp
            have hpl : pre.length + 1 ≤ (onM x k).length := by rw [e]; simp
            rw [Qee.eq_2]
            unfold Qhy
            rw [show decide ((pre.length : Int) < ((onM x k).length : Int)) = true from decide_eq_true (by omega), cond_true, hpi, Qab, hci, Qab, g1, Qab, g2, Qab, Qw7 _ (by omega)]
            have := ihq (pre ++ [i]) m (by rw [e]; simp) (by simp at hm; omega)
            rw [List.length_append, List.length_singleton] at this
            rw [this, List.all_cons, show Qzx x i = c by unfold Qzx; rw [hci]; rfl]
            simp only [bne]
            cases c.fGroup == c0.fGroup <;> rfl
        have := key2 rest [i0] fu (by rw [g3]; rfl) (by have : (onM x k).length = rest.length + 1 := by rw [g3]; rfl
                                                        omega)
        rw [show ((1 : Int)) = (([i0] : List Int).length : Int) from rfl, this]
        conv => rhs; rw [g3]
        rw [List.all_cons, e0]
        simp
      · rfl
    · rfl
  · intro n _ i hd
    simp only [Qb4.eq_2]
    unfold Qhs
    rw [hd, cond_false]; rfl
def Qz4 (r : Request) (x : Plan) : Int :=
  bif !(Qhm r == 0) then 1 else bif !(Q38 x) then 2 else bif Q9p x then 2 else bif !(Qzd r x) then 3 else bif !(x.fCartons.all (chB r)) then 4 else
  bif !(x.fCartons.all (cgB r)) then 5 else bif !(x.fCartons.all (ccB r)) then 6 else bif !((cs x).all (Q65 r)) then 7 else bif !(Q2t r [] (cs x)) then 8 else
  bif !((Qka 0 (Qv4 x.fSpots).toNat).all (plB r x)) then 9 else 0
theorem Q0v {x : Plan} (h : Q38 x = true) : x.fSpots.length = x.fCartons.length := by
  unfold Q38 at h
  simp only [Bool.and_eq_true] at h
  simpa using h.1
theorem Jbs {fu : Nat} {r : Request} (h : Sm fu r) {x : Plan} (hx : Sp x) : Qr0 fu r x = some (Qz4 r x) := by
  have hfu := h.fu
  unfold Qr0 Qz4
  rw [Qyw h, Qab]
  cases hc : Qhm r == 0
  · rw [show (Qhm r != 0) = true by simp only [bne, hc]; rfl]; rfl
  · have hz : Qhm r = 0 := by simpa using hc
    have hu : Qcl fu r = some (Qh8 r) := Jbe h hz
    rw [show (Qhm r != 0) = false by simp [hz], cond_false, Jgf hx (by omega), Qab]
    cases hp : Q38 x
    · rfl
    · have el := Q0v hp
      unfold Qqj
      rw [Bool.not_true, cond_false, Jew hx (by omega), Qab]
      cases Q9p x
      · rw [cond_false, hu, Qab, Jdg hfu hx, Qab, Q89 h hx, Qab, Q9i h hx, Qab, Jac h hx, Qab, Jc9 h hx el, Qab, Jd8 h hx el, Qab, Jcx h hx, Qab]
        cases Qzd r x <;> cases x.fCartons.all (chB r) <;> cases x.fCartons.all (cgB r) <;> cases x.fCartons.all (ccB r) <;> cases (cs x).all (Q65 r) <;> cases Q2t r [] (cs x) <;> cases (Qka 0 (Qv4 x.fSpots).toNat).all (plB r x) <;> rfl
      · rfl
end Go.Proofs.YtkkfmjpbiimkbaaGreat
/- Check, by impl. -/
namespace Go.Proofs.YtkkfmjpbiimkbaaGreat
open Go
open Enc (rd ow)
open Arg (argv)
open Ret (retv)
open Wf (wf)
theorem Jbr {r:Request} {id:Int} {t:Typ} (h:Qsh r id = some t):t ∈ r.fTypes:=List.mem_of_find?_eq_some h
theorem Q7p (r:Request) (us:List Int):∀ (l:List Typ) (s:Typ × Bool),(l.foldl (chp r us) s).2 = (s.2 || l.any (Qxm r us))
 | [],s=>by simp
 | t :: l,s=>by
  rw [List.foldl_cons,Q7p r us l,List.any_cons]
  unfold chp
  obtain ⟨b,f⟩:=s
  cases Qxm r us t <;> cases f <;> simp
  cases (decide (t.fCost < b.fCost) || t.fCost == b.fCost && decide (t.fId < b.fId)) <;> simp
theorem Q4v {r:Request} {us:List Int} {t:Typ} (ht:t ∈ r.fTypes) (h:Qxm r us t = true):(Qwr r us).2 = true:=by
 unfold Qwr
 rw [Q7p]
 simp only [Bool.false_or]
 exact List.any_eq_true.2 ⟨t,ht,h⟩
theorem Jfh {r:Request} {c:Carton} (h:chB r c = true):∀ u ∈ c.fUnits,0 ≤ u ∧ u < (Qh8 r).length:=by
 unfold chB at h
 intro u hu
 split at h
 · simp only [Qxm,Bool.and_eq_true] at h
   have:=List.all_eq_true.1 h.2.1 u hu
   simp only [uOk,Bool.and_eq_true] at this
   exact Qv2.1 this.1
 · cases h
theorem Q6e {r:Request} {u:Int} (hu:0 ≤ u ∧ u < (Qh8 r).length) {g:Int} (hg:0 ≤ g) :
    (Q9w (Qna r) (Qtp r u).fClass == g) = (match ix (Qna r) g with | some l=>l.contains (Qtp r u).fClass | none=>false):=by
 have hi:=Quv hu
 obtain ⟨i,l,h1,h2,h3⟩:=Jbn (Jbj hi)
 rw [h3]
 apply Bool.eq_iff_iff.2
 constructor
 · intro h
   have e:(i:Int) = g:=by simpa using h
   rw [← e,Jdb h1]
   simpa using h2
 · intro h
   cases hx:ix (Qna r) g with
   | none=>rw [hx] at h; cases h
   | some m =>
    rw [hx] at h
    obtain ⟨g0,g1,g2⟩:=Qas hx
    have:=Q2j h1 g2 h2 (by simpa using h)
    simp; omega
theorem Jcc {fu:Nat} {r:Request} (h:Sm fu r) {x:Plan} (hx:Sp x) (hg:∀ c ∈ x.fCartons,0 ≤ c.fGroup):Qh9 fu r x =
    some (bif !(x.fCartons.all (chB r)) then 4 else bif !(x.fCartons.all (cgB r)) then 5 else bif !(x.fCartons.all (ccB r)) then 6 else 0):=by
 have hfu:=h.fu
 have hc:=hx.cars
 unfold Qh9
 have key:=lpI x.fCartons (fun n (_:Unit) i=>Qc5 fu r x n i) (fun l _=>some (bif !(l.all (chB r)) then 4 else bif !(x.fCartons.all (cgB r)) then 5 else bif !(x.fCartons.all (ccB r)) then 6 else 0))
  (fun l _=>l.all (chB r) = true → x.fCartons.all (chB r) = true) (by omega) ?_ ?_ fu () (fun h=>h) (by omega)
 · exact key
 · intro n _ i c xs e hd hI ih
   have hu:=hx.units c (Qe2 e)
   simp only [Qc5.eq_2]
   unfold Qg5 Qii
   rw [hd,cond_true,e,Qab,Qt8 h,Qab,List.all_cons]
   rw [List.all_cons] at hI
   cases ht:Qsh r c.fType with
   | none=>rw [show chB r c = false by unfold chB; rw [ht]]; rfl
   | some t =>
    simp only [Qwd,Bool.not_true,cond_false]
    rw [Q3i h _ t hu,Qab]
    have e1:chB r c = Qxm r c.fUnits t:=by unfold chB; rw [ht]
    rw [e1] at hI ⊢
    cases hh:Qxm r c.fUnits t
    · rfl
    · rw [hh,Bool.true_and] at hI
      rw [Bool.not_true,cond_false,ih () hI,Bool.true_and]
 · intro n _ i hd hI
   have hA:=hI rfl
   simp only [Qc5.eq_2]
   unfold Qg5
   rw [hd,cond_false,Jfg h,Qab]
   show _ = some (bif !(x.fCartons.all (cgB r)) then 5 else bif !(x.fCartons.all (ccB r)) then 6 else 0)
   have key2:=lp x.fCartons (fun n (_:Unit) i=>Qdz fu r x (Qna r) n i) (fun l _=>some (bif !(l.all (cgB r)) then 5 else bif !(x.fCartons.all (ccB r)) then 6 else 0)) (by omega) ?_ ?_ fu () (by omega)
   · exact key2
   · intro n _ i c xs e hd ih
     have ih:=ih ()
     have hu:=hx.units c (Qe2 e)
     have hin:=Jfh (List.all_eq_true.1 hA c (Qe2 e))
     have hil:=Qvs r c.fUnits
     simp only [Qdz.eq_2]
     unfold Qg3
     rw [hd,cond_true,e,Qab,Q0q h _ hu (by omega),Qab,Q06 hin]
     rw [Qvt _ (fun y=>!(match ix (Qna r) c.fGroup with | some l=>l.contains y.fClass | none=>false)) ?_ (by simp; omega) (by simp; omega),Qab,List.any_map,List.all_cons]
     · have e1:cgB r c = !(c.fUnits.any ((fun y=>!(match ix (Qna r) c.fGroup with | some l=>l.contains y.fClass | none=>false)) ∘ Qtp r)):=by
         unfold cgB
         rw [List.not_any_eq_all_not]
         apply Q1o
         intro u hu'
         rw [Q6e (hin u hu') (hg c (Qe2 e))]
         simp only [Function.comp,Bool.not_not]
       rw [e1,ih]
       cases c.fUnits.any ((fun y=>!(match ix (Qna r) c.fGroup with | some l=>l.contains y.fClass | none=>false)) ∘ Qtp r) <;> simp
     · intro y _
       unfold Qi9
       have hg0:=hg c (Qe2 e)
       by_cases hgl:c.fGroup ≥ (Qna r).length
       · have e0:ix (Qna r) c.fGroup = none:=by
           cases hq:ix (Qna r) c.fGroup with
           | none=>rfl
           | some l=>have:=(Qas hq).2.1; omega
         rw [e0,decide_eq_true hgl,cond_true]; rfl
       · have hlt:c.fGroup.toNat < (Qna r).length:=by omega
         have e0:ix (Qna r) c.fGroup = some (Qna r)[c.fGroup.toNat]:=by
          have:=Qz2 hlt
          rwa [show ((c.fGroup.toNat:Nat):Int) = c.fGroup by omega] at this
         have hgl':=(Qtr r).2 _ (List.getElem_mem hlt)
         rw [e0,decide_eq_false hgl,cond_false,Qab,Jda (by omega) (by omega),Qab]
   · intro n _ i hd
     simp only [Qdz.eq_2]
     unfold Qg3
     rw [hd,cond_false]
     show _ = some (bif !(x.fCartons.all (ccB r)) then 6 else 0)
     have key3:=lpI x.fCartons (fun n (_:Unit) i=>Qd0 fu r x n i) (fun l _=>some (bif !(l.all (ccB r)) then 6 else 0)) (fun l _=>l.all (chB r) = true) (by omega) ?_ ?_ fu () hA (by omega)
     · exact key3
     · intro n _ i c xs e hd hI ih
       have hu:=hx.units c (Qe2 e)
       rw [List.all_cons,Bool.and_eq_true] at hI
       have hch:=hI.1
       have h2:(Qwr r c.fUnits).2 = true:=by
        unfold chB at hch
        split at hch
        · rename_i t ht
          exact Q4v (Jbr ht) hch
        · cases hch
       simp only [Qd0.eq_2]
       unfold Qg0
       rw [hd,cond_true,e,Qab,Jch h _ hu,Qab,ih () hI.2,List.all_cons,ccB,h2,Bool.true_and]
       simp only [bne]
       cases (Qwr r c.fUnits).1.fId == c.fType <;> rfl
     · intro n _ i hd _
       simp only [Qd0.eq_2]
       unfold Qg0
       rw [hd,cond_false]; rfl
theorem Jbx {fu:Nat} {r:Request} (h:Sm fu r) {x:Plan} (hx:Sp x) (el:x.fSpots.length = x.fCartons.length):Qmb fu r x =
    some (bif !((cs x).all (Q65 r)) then 7 else bif !(Q2t r [] (cs x)) then 8 else bif !((Qka 0 (Qv4 x.fSpots).toNat).all (plB r x)) then 9 else 0):=by
 have hfu:=h.fu
 have hc:=hx.cars
 have hs:=hx.spots
 have hz:=Q56 el
 have hb:=Q0m x.fSpots
 have bx_len:(((cs x).map fun p=>Qug r p.1).length:Int) = x.fCartons.length:=by simp [hz]
 unfold Qmb
 have key:=Jcm (cs x) (fun n (o:List Box) i=>Qex fu r x n o i) (fun _ l _=>some (bif !(l.all (Q65 r)) then 7 else bif !(Q2t r [] (cs x)) then 8 else bif !((Qka 0 (Qv4 x.fSpots).toNat).all (plB r x)) then 9 else 0))
  (fun pre l o=>o = pre.map fun p=>Qug r p.1) (by omega) ?_ ?_ fu [] rfl (by omega)
 · exact key
 · intro n o pre p xs e0 e hd hI ih
   obtain ⟨e1,e2⟩:=Qwo e
   have hu:=hx.units p.1 (Qe2 e1)
   have hpl:pre.length ≤ (cs x).length:=by rw [e0]; simp
   rw [hz] at hd
   simp only [Qex.eq_2]
   unfold Qib
   rw [hd,cond_true,e1,Qab,Q3u h _ hu,Qab,e2,Qab,Jej,Qab,List.all_cons,Q65]
   cases Jao r.fPallet (Qug r p.1) p.2
   · rfl
   · subst hI
     rw [Bool.not_true,cond_false,ap1 (by simp; omega),Qab,ih _ (by simp),Bool.true_and]
 · intro n o hd hI
   rw [hz] at hd ⊢
   simp only [Qex.eq_2]
   unfold Qib
   rw [hd,cond_false]
   show _ = some (bif !(Q2t r [] (cs x)) then 8 else bif !((Qka 0 (Qv4 x.fSpots).toNat).all (plB r x)) then 9 else 0)
   subst hI
   have key2:=lpP (cs x) (fun n (_:Unit) i=>Qc7 fu r x ((cs x).map fun p=>Qug r p.1) n i) (fun pre l _=>some (bif !(Q2t r pre l) then 8 else bif !((Qka 0 (Qv4 x.fSpots).toNat).all (plB r x)) then 9 else 0)) (by omega) ?_ ?_ fu () (by omega)
   · exact key2
   · intro n _ pre p xs e0 e hd ih
     have ih:=ih ()
     obtain ⟨e1,e2⟩:=Qwo e
     have hu:=hx.units p.1 (Qe2 e1)
     have hpl:pre.length ≤ (cs x).length:=by rw [e0]; simp
     have b1:ix ((cs x).map fun p=>Qug r p.1) (pre.length:Int) = some (Qug r p.1):=by
      rw [Qrh,List.getElem?_map]
      rw [Qrh] at e
      rw [e]; rfl
     simp only [Qc7.eq_2]
     unfold Qis
     rw [bx_len,← hz,hd,cond_true]
     have key3:=lp pre (fun m (_:Unit) j=>Qes fu (Qc7 fu r x ((cs x).map fun p=>Qug r p.1) n) x ((cs x).map fun p=>Qug r p.1) (pre.length:Int) m j) (fun l _=>some (bif !(l.all (fun q=>!ovP r p q) && Q2t r (pre ++ [p]) xs) then 8 else bif !((Qka 0 (Qv4 x.fSpots).toNat).all (plB r x)) then 9 else 0)) (by omega) ?_ ?_ fu () (by omega)
     · rw [key3]; rfl
     · intro m _ j q qs f hd2 ih2
       have ih2:=ih2 ()
       have f':ix (cs x) j = some q:=by rw [e0]; exact Q4s f
       obtain ⟨f1,f2⟩:=Qwo f'
       obtain ⟨j0,j1,j2⟩:=Qas f'
       have b2:ix ((cs x).map fun p=>Qug r p.1) j = some (Qug r q.1):=by
        unfold ix
        rw [if_pos j0,List.getElem?_map,j2]; rfl
       simp only [Qes.eq_2]
       unfold Qim
       simp only [hd2,cond_true,b1,e2,b2,f2,Qab,Jc6,ih2,List.all_cons,ovP]
       cases Jaf (Qug r p.1) p.2 (Qug r q.1) q.2 <;> rfl
     · intro m _ j hd2
       simp only [Qes.eq_2]
       unfold Qim
       rw [hd2,cond_false,ih]; rfl
   · intro n _ hd
     simp only [Qc7.eq_2]
     unfold Qis
     rw [bx_len,← hz,hd,cond_false,Q64 hs (by omega),Qab]
     show _ = some (bif !((Qka 0 (Qv4 x.fSpots).toNat).all (plB r x)) then 9 else 0)
     have key4:=lpN (Qv4 x.fSpots) (fun n (_:Unit) i=>Qc9 fu r x (Qv4 x.fSpots) n i) (fun l _=>some (bif !(l.all (plB r x)) then 9 else 0)) (by omega) ?_ ?_ (Qv4 x.fSpots).toNat fu () 0 (by omega) (by omega) (by omega)
     · exact key4
     · intro n _ k xs h0 h1 hd ih
       have ih:=ih ()
       have hol:=Q0p x k
       simp only [Qc9.eq_2]
       unfold Qiq
       rw [hd,cond_true,Jfc hs (by omega),Qab,List.all_cons]
       generalize xs.all (plB r x) = A at ih ⊢
       unfold plB
       cases hne:((onM x k).length:Int) == 0
       · rw [cond_false,Jgw h hx,Qab,Bool.not_false,Bool.true_and]
         cases decide (pgM r x k > r.fPallet.fGram)
         · obtain ⟨i0,c0,g1,g2,rest,g3⟩:=Q6h hne
           unfold Qla Qki
           rw [cond_false,g1,Option.getD_some,Bool.not_false,Bool.true_and]
           have e0:Qzx x i0 = c0:=by unfold Qzx; rw [g2]; rfl
           rw [e0,Q4c _ (fun i=>!((Qzx x i).fGroup == c0.fGroup)) ?_ (by omega) (by omega),Qab,ih]
           · rw [show (onM x k).all (fun i=>(Qzx x i).fGroup == c0.fGroup) = !((onM x k).any fun i=>!((Qzx x i).fGroup == c0.fGroup)) by rw [List.not_any_eq_all_not]; simp]
             cases (onM x k).any fun i=>!((Qzx x i).fGroup == c0.fGroup) <;> simp
           · intro i hi
             obtain ⟨c,_,hci,_⟩:=Qyb hi
             unfold Qm2
             rw [hci,Qab,g1,Qab,g2,Qab,show Qzx x i = c by unfold Qzx; rw [hci]; rfl]
             rfl
         · rfl
       · rfl
     · intro n _ i hd
       simp only [Qc9.eq_2]
       unfold Qiq
       rw [hd,cond_false]; rfl
theorem Q7k {x:Plan} (h:Q38 x = true):∀ c ∈ x.fCartons,0 ≤ c.fGroup ∧ c.fGroup ≤ 3:=by
 have el:=Q0v h
 unfold Q38 at h
 simp only [Bool.and_eq_true] at h
 intro c hc
 obtain ⟨i,hi⟩:=List.mem_iff_getElem?.1 hc
 have hlt:=(List.getElem?_eq_some_iff.1 hi).1
 have hz:(c,x.fSpots[i]'(by omega)) ∈ x.fCartons.zip x.fSpots:=by
  apply List.mem_iff_getElem?.2
  refine ⟨i,List.getElem?_zip_eq_some.2 ⟨hi,List.getElem?_eq_getElem _⟩⟩
 have:=List.all_eq_true.1 h.2.2 _ hz
 simp only [Jau,Bool.and_eq_true,Qfu] at this
 omega
theorem Q6k {fu:Nat} {r:Request} (h:Sm fu r) {x:Plan} (hx:Sp x):Qqc fu r x = some (Qz4 r x):=by
 have hfu:=h.fu
 have hc:=hx.cars
 have hfl:=Qtq x.fCartons
 have ha:=hx.all
 have hul:=Qva r
 unfold Qqc Qz4
 rw [Qu6 h,Qab]
 cases hz:Qhm r == 0
 · rfl
 · rw [Bool.not_true,cond_false,Jff hx (by omega),Qab]
   cases hp:Q38 x
   · rfl
   · have el:=Q0v hp
     rw [Bool.not_true,cond_false,Q83 (l:=x.fCartons) (fun y=>Qrp fu y) (fun c=>(c.fUnits.length:Int) == 0) (fun c _=>rfl) hc (by omega),Qab]
     show (bif Q9p x then _ else _) = _
     cases Q9p x
     · rw [cond_false]
       unfold Qq9 Qc4
       rw [Jaz hx (by omega),Qab,Q5a (by omega),Qab,Q9a h,Qab,Q4w _ (by omega) (by omega),Qab,Jb5 _ _ (by simp; omega) (by simp; omega),Qab,Jcc h hx (fun c hc=>(Q7k hp c hc).1),Qab,Jbx h hx el,Qab]
       have e1:decide ((Qqf x.fCartons).mergeSort (fun x y=>decide (x ≤ y)) = Qka 0 (Qh8 r).length) = Qzd r x:=by
        unfold Qzd Jet
        rw [Q20]
       rw [e1]
       cases Qzd r x
       · rfl
       · cases x.fCartons.all (chB r)
         · rfl
         · cases x.fCartons.all (cgB r)
           · rfl
           · cases x.fCartons.all (ccB r) <;> rfl
     · rfl
end Go.Proofs.YtkkfmjpbiimkbaaGreat
/- The plan of an order, by spec. -/
namespace Go.Proofs.YtkkfmjpbiimkbaaGreat
open Go
open Enc (rd ow)
open Arg (argv)
open Ret (retv)
open Wf (wf)
theorem Q7a {a b:List Int} (h:a.Perm b):Qvx a = Qvx b:=by
 induction h with
 | nil=>rfl
 | cons x _ ih=>simp [ih]
 | swap x y l=>simp; omega
 | trans _ _ h1 h2=>rw [h1,h2]
theorem Q9h {r:Request} {a b:List Int} (h:a.Perm b):(Qwq r a).Perm (Qwq r b):=h.filterMap _
theorem Jab {r:Request} {a b:List Int} (h:a.Perm b):Qvl r a = Qvl r b:=Q7a ((Q9h h).map _)
theorem Q4u {f:Typ → Int}:∀ (xs pre:List Typ) (t:Typ),Q5s f pre xs = true → t ∈ xs → (∀ y ∈ pre,f y ≠ f t) ∧ xs.find? (fun y=>f y == f t) = some t
 | [],_,_,_,h=>by simp at h
 | x :: xs,pre,t,hn,h=>by
  simp only [Q5s,Bool.and_eq_true,Bool.not_eq_true'] at hn
  have hx:=List.any_eq_false.1 hn.1
  rcases List.mem_cons.1 h with rfl | h
  · exact ⟨fun y hy e=>hx y hy (by simp [e]),by simp⟩
  · have ih:=Q4u xs (pre ++ [x]) t hn.2 h
    refine ⟨fun y hy=>ih.1 y (by simp [hy]),?_⟩
    have:=ih.1 x (by simp)
    have e:(f x == f t) = false:=by simpa using this
    rw [List.find?_cons,e]
    exact ih.2
theorem Q87 {r:Request} (hc:Qhm r = 0) {t:Typ} (ht:t ∈ r.fTypes):Qsh r t.fId = some t:=by
 have h:=(Qf7 hc).2.1
 unfold Q6y at h
 simp only [Bool.and_eq_true] at h
 exact (Q4u r.fTypes [] t h.1.1.1 ht).2
theorem Q4g (r:Request) (us:List Int):∀ (l:List Typ) (s:Typ × Bool),(∀ t ∈ l,t ∈ r.fTypes) → (s.2 = true → s.1 ∈ r.fTypes ∧ Qxm r us s.1 = true) → (l.foldl (chp r us) s).2 = true → (l.foldl (chp r us) s).1 ∈ r.fTypes ∧ Qxm r us (l.foldl (chp r us) s).1 = true
 | [],s,_,h,h2=>h h2
 | t :: l,s,hl,h,h2=>by
  rw [List.foldl_cons] at h2 ⊢
  refine Q4g r us l _ (fun x hx=>hl x (by simp [hx])) (fun h3=>?_) h2
  unfold chp at h3 ⊢
  cases hh:Qxm r us t && (!s.2 || (decide (t.fCost < s.1.fCost) || (t.fCost == s.1.fCost && decide (t.fId < s.1.fId))))
  · rw [hh,cond_false] at h3
    rw [cond_false]
    exact h h3
  · rw [Bool.and_eq_true] at hh
    rw [cond_true]
    exact ⟨hl t (by simp),hh.1⟩
theorem Q9m {r:Request} {us l:List Int} (h:Qc r (Qvw r us) l):Qxm r l (Qxg r) = true:=by
 obtain ⟨h1,h2,h3⟩:=h
 obtain ⟨u,hu⟩:=List.exists_mem_of_ne_nil _ h1
 have hc:=Q3z (Qx9 (h2 u hu))
 have hz:=Qf7 hc
 unfold Qxm
 rw [show (Qhm r == 0) = true by simp [hc],Bool.true_and,h3,Bool.and_true,List.all_eq_true]
 intro v hv
 have hv':=Qx9 (h2 v hv)
 unfold uOk
 rw [Quv hv',Bool.and_eq_true]
 exact ⟨rfl,hz.2.2.2.1 _ (Q0r hv')⟩
theorem Jeh {r:Request} {us l:List Int} (h:Qc r (Qvw r us) l):Qhm r = 0 ∧ (Qwr r l).2 = true ∧ (Qwr r l).1 ∈ r.fTypes ∧ Qxm r l (Qwr r l).1 = true ∧ Qsh r (Qwr r l).1.fId = some (Qwr r l).1:=by
 obtain ⟨u,hu⟩:=List.exists_mem_of_ne_nil _ h.1
 have hc:=Q3z (Qx9 (h.2.1 u hu))
 have h2:=Q4v (Q8n hc).2.1 (Q9m h)
 have h3:=Q4g r l r.fTypes (Jee,false) (fun _ h=>h) (by simp) h2
 exact ⟨hc,h2,h3.1,h3.2,Q87 hc h3.1⟩
theorem Jb4 {r:Request} {us l:List Int} (h:Qc r (Qvw r us) l):1 ≤ Qvl r l:=by
 obtain ⟨h1,h2,_⟩:=h
 match l,h1 with
 | u :: l,_ =>
  have hu:=Qx9 (h2 u (by simp))
  have hc:=Q3z hu
  have:=(Qr1 (Qf7 hc).1).1 _ (Q0r hu)
  simp only [Qwt,Bool.and_eq_true,Qfu] at this
  have h3:=(Q2z r l).1
  rw [Q33]
  omega
theorem Jb6 {r:Request} {us l:List Int} (h:Qc r (Qvw r us) l) (k:Int):Qug r (Q91 r k l) = ⟨(Qwr r l).1.fW,(Qwr r l).1.fD,(Qwr r l).1.fH,(Qwr r l).1.fTare + Qvl r l⟩ ∧ Ja8 r.fPallet (Qug r (Q91 r k l)) = true:=by
 obtain ⟨hc,_,ht,hh,hf⟩:=Jeh h
 have hz:=Qf7 hc
 have e:Qug r (Q91 r k l) = ⟨(Qwr r l).1.fW,(Qwr r l).1.fD,(Qwr r l).1.fH,(Qwr r l).1.fTare + Qvl r l⟩:=by
  unfold Qug Q91
  simp only [hf,show (Qhm r == 0) = true by simp [hc],cond_true,Jab (Qxl l)]
 refine ⟨e,?_⟩
 have ht1:=Qx3 hz.1 _ ht
 have ht2:=hz.2.2.2.2 _ ht
 simp only [Q0n,Bool.and_eq_true,Qfu] at ht1
 simp only [Q5t,Bool.or_eq_false_iff,decide_eq_false_iff_not] at ht2
 rw [Qcj (by omega) (by omega)] at ht2
 have hg:=Jb4 h
 unfold Qxm at hh
 simp only [Bool.and_eq_true] at hh
 have hw:=hh.2.2
 unfold Q3a at hw
 simp only [Bool.and_eq_true,decide_eq_true_eq] at hw
 rw [e]
 simp only [Ja8,Bool.and_eq_true,Qfu]
 omega
def Q28 (r:Request) (k:Int):List Box:=((Q05 r).filter fun c=>c.fGroup == k).map (Qug r)
def plS (r:Request) (s:List Spot × Int) (k:Int):List Spot × Int:=(s.1 ++ (spM r.fPallet (Q28 r k)).map (fun t=>⟨t.fPallet + s.2,t.fX,t.fY,t.fZ⟩),s.2 + Qv4 (spM r.fPallet (Q28 r k)))
def Jah (r:Request):Plan × Bool:=bif Qhm r == 0 then (⟨Q05 r,((Qka 0 (Qna r).length).foldl (plS r) ([],0)).1⟩,true) else (⟨[],[]⟩,false)
theorem Qx1 (r:Request) (k:Int):∀ (ks:List Int),ks.Nodup → ((Q2s r ks).filter fun c=>c.fGroup == k) = bif ks.contains k then Q5r r k else []
 | [],_=>rfl
 | j :: ks,hn=>by
  obtain ⟨h1,h2⟩:=List.nodup_cons.1 hn
  have ih:=Qx1 r k ks h2
  rw [Q2s,List.filter_append,ih]
  have hj:∀ c ∈ Q5r r j,c.fGroup = j:=by
   intro c hc
   unfold Q5r at hc
   obtain ⟨l,_,rfl⟩:=List.mem_map.1 hc
   rfl
  by_cases e:k = j
  · subst e
    have e1:(Q5r r k).filter (fun c=>c.fGroup == k) = Q5r r k:=List.filter_eq_self.2 fun c hc=>by simp [hj c hc]
    have e2:ks.contains k = false:=by simpa using h1
    rw [e1,e2]
    simp
  · have e1:(Q5r r j).filter (fun c=>c.fGroup == k) = []:=List.filter_eq_nil_iff.2 fun c hc=>by simp [hj c hc]; omega
    rw [e1]
    have e2:(j :: ks).contains k = ks.contains k:=by simp [e]
    rw [e2]; rfl
theorem Q8q {r:Request} {k:Int} (h:0 ≤ k ∧ k < (Qna r).length):Q28 r k = (Q5r r k).map (Qug r):=by
 unfold Q28 Q05
 rw [Qx1 r k _ (Qvz _ _)]
 rw [show (Qka 0 (Qna r).length).contains k = true by rw [List.contains_iff_mem,Qk2]; omega]
 rfl
theorem Jad {r:Request} (hc:Qhm r = 0) {k:Int} (h:0 ≤ k ∧ k < (Qna r).length):Q1w r.fPallet (Q28 r k) = true:=by
 have hb:=(Qf7 hc).1
 unfold Q2v at hb
 simp only [Bool.and_eq_true] at hb
 unfold Q1w
 rw [Q8q h,Bool.and_eq_true]
 refine ⟨hb.1.1.1.1.1.1.1.1.2,List.all_eq_true.2 fun b hb=>?_⟩
 unfold Q5r at hb
 rw [List.map_map] at hb
 obtain ⟨l,hl,rfl⟩:=List.mem_map.1 hb
 exact (Jb6 (Jg5 l hl) k).2
theorem Jbp (r:Request) (k:Int):(Q28 r k).length ≤ 48:=by
 have h1:=List.length_filter_le (fun c:Carton=>c.fGroup == k) (Q05 r)
 have h2:=Q1t r
 unfold Q28
 rw [List.length_map]
 omega
theorem Jaq {r:Request} (hc:Qhm r = 0):∀ (ks:List Int) (s:List Spot × Int),(∀ k ∈ ks,0 ≤ k ∧ k < (Qna r).length) → (ks.foldl (plS r) s).1.length = s.1.length + (Q2s r ks).length
 | [],s,_=>by simp [Q2s]
 | k :: ks,s,h=>by
  rw [List.foldl_cons,Jaq hc ks _ fun j hj=>h j (by simp [hj])]
  have hk:=h k (by simp)
  have h1:=Q6x (Jad hc hk)
  rw [Q8q hk,List.length_map] at h1
  simp only [plS,Q2s,List.length_append,List.length_map,Q8q hk,h1]
  omega
theorem Jbd (r:Request):(Jah r).1.fSpots.length = (Jah r).1.fCartons.length ∧ (Jah r).1.fCartons.length ≤ 48 ∧ ∀ c ∈ (Jah r).1.fCartons,c.fUnits.length ≤ 12:=by
 unfold Jah
 cases hc:Qhm r == 0
 · exact ⟨rfl,by simp,by simp⟩
 · rw [cond_true]
   have:=Jaq (r:=r) (by simpa using hc) (Qka 0 (Qna r).length) ([],0) fun k hk=>by have:=Qk2.1 hk; omega
   exact ⟨by rw [this]; simp [Q05],Q1t r,fun c hc=>Q10 hc⟩
theorem Jdn {fu:Nat} {r:Request} (h:Sm fu r):Qqy fu r = some (Jah r):=by
 have hfu:=h.fu
 have hg:=(Qtr r).1
 have hcl:=Q1t r
 unfold Qqy Jah
 rw [Qyw h,Qab]
 cases hc:Qhm r == 0
 · rw [show (Qhm r != 0) = true by simp only [bne,hc]; rfl]; rfl
 · have hz:Qhm r = 0:=by simpa using hc
   rw [show (Qhm r != 0) = false by simp [hz],cond_false,cond_true,Jfw h,Qab,Q9o h,Qab]
   have L3:=Q82 ((Qna r).length:Int) (fun n (s:List Spot × Int) k=>Qcg fu r (Q05 r) (Qna r) n s.1 s.2 k) (fun ks s=>some ((⟨Q05 r,(ks.foldl (plS r) s).1⟩:Plan),true)) (fun ks s=>(∀ k ∈ ks,0 ≤ k ∧ k < (Qna r).length) ∧ s.1.length + 48 * ks.length ≤ 1000 ∧ 0 ≤ s.2 ∧ s.2 + 1000000 * ks.length ≤ 10000000) (by omega) ?_ ?_ (Qna r).length fu ([],0) 0 (by omega) (by omega) (by omega) ⟨fun k hk=>by have:=Qk2.1 hk; omega,by simp [Qei]; omega,by simp,by simp [Qei]; omega⟩
   · exact L3
   · intro n ⟨sp,base⟩ k ks k0 k1 hd hI ih
     obtain ⟨i1,i2,i3,i4⟩:(∀ j ∈ k :: ks,0 ≤ j ∧ j < (Qna r).length) ∧ sp.length + 48 * (k :: ks).length ≤ 1000 ∧ 0 ≤ base ∧ base + 1000000 * ((k :: ks).length:Int) ≤ 10000000:=hI
     simp only [List.length_cons] at i2 i4
     simp only [Qcg.eq_2]
     unfold Qmm
     rw [hd,cond_true]
     have L2:=lpI (Q05 r) (fun m (bs:List Box) i=>Qfz fu (Qcg fu r (Q05 r) (Qna r) n) r (Q05 r) sp base k m bs i) (fun cs bs=>Qad (Qmk fu r.fPallet (bs ++ (cs.filter fun c=>c.fGroup == k).map (Qug r))) fun x=>Qf0 fu (Qcg fu r (Q05 r) (Qna r) n) base k x fu sp 0) (fun cs bs=>bs.length + cs.length ≤ 48 ∧ ∀ c ∈ cs,c.fUnits.length ≤ 12) (by omega) ?_ ?_ fu [] ⟨by simpa using hcl,fun c hc=>Q10 hc⟩ (by omega)
     · refine L2.trans ?_
       have hbl:=Jbp r k
       rw [List.nil_append,show ((Q05 r).filter fun c=>c.fGroup == k).map (Qug r) = Q28 r k from rfl,Jb1 hfu _ _ (by omega),Qab]
       have hsl:=Q6x (Jad hz ⟨k0,k1⟩)
       have hpb:=Q0m (spM r.fPallet (Q28 r k))
       have hps:∀ s ∈ spM r.fPallet (Q28 r k),s ∈ spM r.fPallet (Q28 r k):=fun _ h=>h
       have ih':=ih (plS r (sp,base) k) ⟨fun j hj=>i1 j (by simp [hj]),by simp [plS]; omega,by simp [plS]; omega,by simp [plS]; omega⟩
       rw [List.foldl_cons,← ih']
       have hS:=Jap (fu:=fu) (l:=spM r.fPallet (Q28 r k)) (by omega) (by omega)
       have hwf:∀ s ∈ spM r.fPallet (Q28 r k),w64 (s.fPallet + base) = s.fPallet + base:=by
        intro s hs
        have:=Jdy (p:=r.fPallet) (l:=Q28 r k) (by omega) s hs
        exact Qcj (by omega) (by omega)
       generalize hSP:spM r.fPallet (Q28 r k) = S at hsl hpb hS hwf ⊢
       have L1:=lpI S (fun m (o:List Spot) i=>Qf0 fu (Qcg fu r (Q05 r) (Qna r) n) base k S m o i) (fun xs o=>Qcg fu r (Q05 r) (Qna r) n (o ++ xs.map (fun t=>⟨t.fPallet + base,t.fX,t.fY,t.fZ⟩)) (base + Qv4 S) (w64 (k + 1))) (fun xs o=>o.length + xs.length ≤ 1000 ∧ ∀ s ∈ xs,w64 (s.fPallet + base) = s.fPallet + base) (by omega) ?_ ?_ fu sp ⟨by omega,hwf⟩ (by omega)
       · refine L1.trans ?_
         simp only [plS,hSP]
       · intro m o i x xs hx hd hI ih
         obtain ⟨j1,j2⟩:=hI
         simp only [List.length_cons] at j1
         simp only [Qf0.eq_2]
         unfold Qmo
         rw [hd,cond_true,hx,Qab,j2 x (by simp),ap1 (by simp; omega),Qab,ih _ ⟨by simp; omega,fun s hs=>j2 s (by simp [hs])⟩]
         simp
       · intro m o i hd hI
         simp only [Qf0.eq_2]
         unfold Qmo
         rw [hd,cond_false,hS,Qab,Qcj (n:=base + _) (by omega) (by omega)]
         simp
     · intro m bs i c cs hx hd hI ih
       obtain ⟨j1,j2⟩:=hI
       simp only [List.length_cons] at j1
       have hcu:=j2 c (by simp)
       simp only [Qfz.eq_2]
       unfold Qne Ql8
       rw [hd,cond_true,hx,Qab,Qab,Q4q h c (by omega),Qab,ap1 (by simp; omega),Qab,ih _ ⟨by simp; omega,fun c hc=>j2 c (by simp [hc])⟩,ih _ ⟨by omega,fun c hc=>j2 c (by simp [hc])⟩,List.filter_cons]
       cases c.fGroup == k <;> simp
     · intro m bs i hd _
       simp only [Qfz.eq_2]
       unfold Qne
       rw [hd,cond_false]; simp
   · intro n ⟨sp,base⟩ k hd _
     simp only [Qcg.eq_2]
     unfold Qmm
     rw [hd,cond_false]; rfl
end Go.Proofs.YtkkfmjpbiimkbaaGreat
/- Plans that are drawn are there, and small. -/
namespace Go.Proofs.YtkkfmjpbiimkbaaGreat
open Go
open Enc (rd ow)
open Arg (argv)
open Ret (retv)
open Wf (wf)
def SmP (x:Plan):Prop:=x.fCartons.length ≤ 60 ∧ x.fSpots.length ≤ 60 ∧ ∀ c ∈ x.fCartons,c.fUnits.length ≤ 20
theorem Q4e (b:Nat):∀ (l:List Carton),(∀ c ∈ l,c.fUnits.length ≤ b) → Q46 l ≤ b * l.length
 | [],_=>by simp [Q46]
 | c :: l,h=>by
  have h1:=Q4e b l fun d hd=>h d (by simp [hd])
  have h2:=h c (by simp)
  simp only [Q46,List.length_cons,Nat.mul_add]; omega
theorem SmP.sp {x:Plan} (h:SmP x):Sp x:=by
 have:=Q4e 20 x.fCartons h.2.2
 have:=h.1
 have:=h.2.1
 exact ⟨by omega,fun c hc=>by have:=h.2.2 c hc; omega,by omega,by omega⟩
theorem Jeo {l:List Carton} {i:Int} {y:Carton} (h:∀ c ∈ l,c.fUnits.length ≤ 20) (hy:y.fUnits.length ≤ 20):∀ c ∈ Qjp l i y,c.fUnits.length ≤ 20:=by
 intro c hc
 unfold Qjp at hc
 rcases List.mem_or_eq_of_mem_set hc with hc | rfl
 · exact h c hc
 · exact hy
theorem Jei {fu:Nat} {b:List U8} (hb:b.length ≤ 1048576) (hf:2097153 ≤ fu):Tot (Qo8 fu b) fun x=>SmR x.1 ∧ SmP x.2:=by
 unfold Qo8 Qcd
 refine Tot.bind (Q9d hb hf) fun r hr=>?_
 rw [Jdn (hr.sm hf),Qab]
 obtain ⟨p1,p2,p3⟩:=Jbd r
 generalize Jah r = P at p1 p2 p3 ⊢
 have q3:∀ c ∈ P.1.fCartons,c.fUnits.length ≤ 20:=fun c hc=>by have:=p3 c hc; omega
 refine Tot.bind (Jaw hb (by omega)) fun c hc=>?_
 refine Tot.bif (fun _=>Tot.mk ⟨hr,by simp; omega,by simp; omega,q3⟩) fun hne=>?_
 have hpos:0 < P.1.fCartons.length:=by
  simp only [beq_eq_false_iff_ne] at hne
  omega
 refine Tot.bind (Qc8 hc.re' _) fun i hi=>?_
 have hi0:=hi.1.1
 have hi1:=hi.1.2 (by omega)
 refine Tot.bind (Qc8 hi.2.re' _) fun k hk=>?_
 refine Tot.bif (fun _=>?_) fun _=>?_
 · exact Tot.ix ⟨hi0,by omega⟩ fun s hs=>Tot.ix ⟨hi0,by omega⟩ fun s hs=>Tot.mk ⟨hr,by simp; omega,by simp [Qtd]; omega,q3⟩
 refine Tot.bif (fun _=>?_) fun _=>?_
 · exact Tot.bind (Qc8 hk.2.re' _) fun v hv=>Tot.ix ⟨hi0,by omega⟩ fun s hs=>Tot.mk ⟨hr,by simp; omega,by simp [Qtd]; omega,q3⟩
 refine Tot.bif (fun _=>?_) fun _=>?_
 · exact Tot.bind (Qr5 hk.2.re' _ (by simp)) fun v hv=>Tot.ix ⟨hi0,by omega⟩ fun s hs=>Tot.mk ⟨hr,by simp [Qtd]; omega,by simp; omega,Jeo q3 (q3 s hs)⟩
 refine Tot.bif (fun _=>?_) fun _=>?_
 · refine Tot.ix ⟨hi0,by omega⟩ fun s hs=>Tot.bind (Qc8 hk.2.re' _) fun v hv=>Tot.ap (by have:=p3 s hs; simp; omega) (Tot.ix ⟨hi0,by omega⟩ fun t ht=>Tot.mk ⟨hr,by simp [Qtd]; omega,by simp; omega,Jeo q3 (by have:=p3 s hs; simp; omega)⟩)
 refine Tot.bif (fun _=>?_) fun _=>?_
 · exact Tot.ix ⟨hi0,by omega⟩ fun s hs=>Tot.mk ⟨hr,by simp [Qtd]; omega,by simp; omega,Jeo q3 (by simp)⟩
 refine Tot.bif (fun _=>?_) fun _=>?_
 · rw [Q2h (by omega),Qab]
   exact Tot.mk ⟨hr,by simp; omega,by simp; omega,q3⟩
 refine Tot.bif (fun _=>?_) fun _=>?_
 · exact Tot.bind (Qc8 hk.2.re' _) fun v hv=>Tot.ix ⟨hi0,by omega⟩ fun s hs=>Tot.mk ⟨hr,by simp [Qtd]; omega,by simp; omega,Jeo q3 (q3 s hs)⟩
 refine Tot.bif (fun _=>?_) fun _=>?_
 · refine Tot.ix ⟨hi0,by omega⟩ fun s hs=>?_
   have:=p3 s hs
   unfold Qqw
   rw [ap1 (by simp; omega),Qab,Qab]
   refine Tot.ap (by simp; omega) (Tot.ap (by simp; omega) (Tot.mk ⟨hr,by simp; omega,by simp; omega,fun c hc=>?_⟩))
   rcases List.mem_append.1 hc with hc | hc
   · exact q3 c hc
   · rw [List.mem_singleton.1 hc]; simp; omega
 refine Tot.bif (fun _=>?_) fun _=>?_
 · exact Tot.bind (Qr5 hk.2.re' _ (by simp)) fun v hv=>Tot.ix ⟨hi0,by omega⟩ fun s hs=>Tot.mk ⟨hr,by simp; omega,by simp [Qtd]; omega,q3⟩
 · exact Tot.mk ⟨hr,by simp; omega,by simp; omega,q3⟩
end Go.Proofs.YtkkfmjpbiimkbaaGreat
/- Feasible, by spec and by impl. -/
namespace Go.Proofs.YtkkfmjpbiimkbaaGreat
open Go
open Enc (rd ow)
open Arg (argv)
open Ret (retv)
open Wf (wf)
def Je0 (r:Request) (x:Plan):Bool:=Qz4 r x == 0
theorem Jea {fu:Nat} {r:Request} (h:Sm fu r) {x:Plan} (hx:Sp x):Qn4 fu r x = some (Je0 r x):=by
 unfold Qn4 Je0
 rw [Q6k h hx]; rfl
end Go.Proofs.YtkkfmjpbiimkbaaGreat
/- A byte array as a list. -/
namespace Go.Proofs.YtkkfmjpbiimkbaaGreat
open Go
open Enc (rd ow)
open Arg (argv)
open Ret (retv)
open Wf (wf)
theorem Jbz (b:ByteArray):∀ (m i:Nat) (r:List UInt8),b.size - i = m → ByteArray.toList.loop b i r = r.reverse ++ b.data.toList.drop i:=by
 intro m
 induction m with
 | zero =>
  intro i r h
  rw [ByteArray.toList.loop,if_neg (by omega)]
  have:b.data.toList.length ≤ i:=by have:b.size = b.data.size:=rfl; simp; omega
  rw [List.drop_of_length_le this]; simp
 | succ m ih =>
  intro i r h
  rw [ByteArray.toList.loop,if_pos (by omega),ih (i + 1) _ (by omega)]
  have hs:b.size = b.data.size:=rfl
  have hi:i < b.data.toList.length:=by simp; omega
  rw [List.drop_eq_getElem_cons hi]
  have:b.get! i = b.data.toList[i]:=by
   unfold ByteArray.get!
   simp [Array.getElem!_eq_getD,Array.getD]
   rw [dif_pos (by omega)]
  rw [this]; simp
theorem Q1c (b:ByteArray):b.toList = b.data.toList:=by
 unfold ByteArray.toList
 rw [Jbz b _ 0 [] rfl]; simp
end Go.Proofs.YtkkfmjpbiimkbaaGreat
