/- == on structures of ints. Own lemmas, over any program; one theorem for each such structure of the program. -/
import Derived.Test.YtcboeijpplllfaaGreatD0
import Derived.Laws.StructEq
import Derived.ChangeKeysEq
set_option linter.unusedSimpArgs false
set_option linter.unusedVariables false
namespace Go.Proofs.YtcboeijpplllfaaGreat
open Go Go.RowKit
open Enc (rd ow)
open Arg (argv)
open Ret (retv)
theorem eqF {P:Program} {w:World} {d:Nat} {k:TypeId} (hk:P.underlying k = some (.int .i64)) (xs ys:Array Value):∀ (fs:List Field) (l:List (Nat × Int × Int)),
    fs.map (fun f=>(f.name == "_",f.type,f.offset)) = l.map (fun p=>(false,k,p.1)) → (∀ p ∈ l,xs[p.1]? = some (.int .i64 p.2.1) ∧ ys[p.1]? = some (.int .i64 p.2.2)) →
    (Op.eqFields (d + 1) xs ys fs).run P w = .ok (l.all fun p=>p.2.1 == p.2.2) w
 | [],[],_,_=>by simp [Op.eqFields]
 | [],_ :: _,h,_=>by simp at h
 | _ :: _,[],h,_=>by simp at h
 | f :: fs,(i,a,b) :: l,h,hv=>by
  simp only [List.map_cons,List.cons.injEq,Prod.mk.injEq,beq_eq_false_iff_ne,ne_eq] at h
  obtain ⟨⟨hn,ht,ho⟩,h⟩:=h
  have hp:P.plainKey k = true:=by simp [Program.plainKey,hk]
  have h1:=hv (i,a,b) (by simp)
  have p1:=run_part_plain (P:=P) w hp h1.1
  have p2:=run_part_plain (P:=P) w hp h1.2
  have ih:=eqF (d:=d) (w:=w) hk xs ys fs l h (fun p hp=>hv p (by simp [hp]))
  simp only [Op.eqFields,ne_eq,hn,not_false_eq_true,if_true,ht,ho,Sem.run_bind,p1,p2,run_equalIn_int w d k .i64 .i64 a b hk,Result.andThen_ok,List.all_cons]
  cases hab:(a == b)
  · simp
  · simpa using ih
theorem seqI {P:Program} {t k:TypeId} {fs:Array Field} {α:Type} [Flat α] [DecidableEq α] (hu:P.underlying t = some (.struct fs)) (hp:P.stoodInHeld t = false) (hm:P.eqGuardType P.depth t = false) (hk:P.underlying k = some (.int .i64))
    (z:α → α → List (Nat × Int × Int)) (hfs:∀ x y,fs.toList.map (fun f=>(f.name == "_",f.type,f.offset)) = (z x y).map (fun p=>(false,k,p.1)))
    (hz:∀ x y,∀ p ∈ z x y,(Flat.e x).toArray[p.1]? = some (.int .i64 p.2.1) ∧ (Flat.e y).toArray[p.1]? = some (.int .i64 p.2.2))
    (he:∀ x y,((z x y).all fun p=>p.2.1 == p.2.2) = decide (x = y)):SEq P t α:=by
 refine ⟨hm,fun w x y=>?_⟩
 have hf:P.fieldsOf t = fs:=by simp [Program.fieldsOf,hu]
 rw [show (10000:Nat) = 9999 + 1 from rfl,run_equalIn_struct w 9999 t _ _ (by rw [hf]; exact hu) hp,hf]
 rw [show (9999:Nat) = 9998 + 1 from rfl,eqF hk _ _ fs.toList (z x y) (hfs x y) (hz x y),he]
theorem seqPair {P:Program} {t k:TypeId} {fs:Array Field} (hu:P.underlying t = some (.struct fs)) (hp:P.stoodInHeld t = false) (hm:P.eqGuardType P.depth t = false) (hk:P.underlying k = some (.int .i64))
    (hfs:fs.toList.map (fun f=>(f.name == "_",f.type,f.offset)) = [(false,k,0),(false,k,1)]):SEq P t Pair :=
 seqI hu hp hm hk (fun x y=>[(0,x.fA,y.fA),(1,x.fB,y.fB)]) (fun x y=>by rw [hfs]; rfl) (fun x y p hp=>by
  simp only [List.mem_cons,List.not_mem_nil,or_false] at hp
  rcases hp with rfl | rfl <;> exact ⟨rfl,rfl⟩)
  (fun x y=>by
   rcases x with ⟨a0,a1⟩
   rcases y with ⟨b0,b1⟩
   apply Bool.eq_iff_iff.2
   simp)
end Go.Proofs.YtcboeijpplllfaaGreat
