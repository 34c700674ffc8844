/- Two boxes that a clo.. -/
import Derived.Test.YtndfoffokpdjeaaGreatDoorS22
import Derived.Shelf.Strings.OnBuilder
set_option linter.unusedSimpArgs false
set_option linter.unusedVariables false
namespace Go.Proofs.YtndfoffokpdjeaaGreatDoor
open Go Go.RowKit
open Enc (rd ow)
section
variable {P:Program} {ops:Array Oper} {rest:List Oper} {o:Oper} {a:Act} {w w':World} {N:Nat} {L:List (Nat×Value)}
variable {X:List Nat} {w0:World} {M:List (List Nat×World)}
def cbx (w:World) (F:List Nat) (b1 b2:Nat) (e1 e2:TypeId) (g:Bool) (xs:List ByteArray):Prop :=
 ∃ (v:Value) (G:List Nat),bx w b1 [.bool g] e1∧bx w b2 [v] e2∧F=[b1]++([b2]++G)∧ow w G [v] xs∧F.Nodup
theorem cbx.nd {F:List Nat} {b1 b2:Nat} {e1 e2:TypeId} {g:Bool} {xs:List ByteArray} (h:cbx w F b1 b2 e1 e2 g xs):F.Nodup:=by
 obtain ⟨_,_,_,_,_,_,h⟩:=h
 exact h
theorem cbx.lt {F:List Nat} {b1 b2:Nat} {e1 e2:TypeId} {g:Bool} {xs:List ByteArray} (h:cbx w F b1 b2 e1 e2 g xs):∀ y∈F,y<w.heap.size:=by
 obtain ⟨v,G,h1,h2,rfl,h3,_⟩:=h
 intro y hy
 simp only [List.mem_append,List.mem_singleton] at hy
 rcases hy with rfl | rfl | hy
 · exact Qi4 h1
 · exact Qi4 h2
 · exact Enc.rd_lt (Enc.ow_rd h3) y hy
theorem St.split3 {A F G:List Nat} {u:World} (h:St X w0 w ((A++(F++G),u)::M)):St X w0 w ((A,u)::(F,u)::(G,u)::M):=by
 have e:fps ((A,u)::(F,u)::(G,u)::M)=fps ((A++(F++G),u)::M):=by simp [fps]
 refine ⟨h.ext,?_,by rw [e]; exact h.lt,by rw [e]; exact h.lo,by rw [e]; exact h.nd⟩
 have h0:=h.ok _ (List.mem_cons_self)
 intro p hp
 simp only [List.mem_cons] at hp
 rcases hp with rfl | rfl | rfl | hp
 · exact h0.sub (λb hb=>by simp [hb])
 · exact h0.sub (λb hb=>by simp [hb])
 · exact h0.sub (λb hb=>by simp [hb])
 · exact h.ok p (by simp [hp])
theorem cbx.start {F:List Nat} {b1 b2:Nat} {e1 e2:TypeId} {g:Bool} {xs:List ByteArray} (h:cbx w0 F b1 b2 e1 e2 g xs) :
    ∃ (v:Value) (G:List Nat),bx w0 b1 [.bool g] e1∧bx w0 b2 [v] e2∧ow w0 G [v] xs∧St F w0 w0 [([b1],w0),([b2],w0),(G,w0)]:=by
 have hl:=h.lt
 have hn:=h.nd
 obtain ⟨v,G,h1,h2,rfl,h3,_⟩:=h
 exact ⟨v,G,h1,h2,h3,(St.start1 w0 hl hn).split3⟩
theorem cbx.fin {G:List Nat} {b1 b2:Nat} {e1 e2:TypeId} {g:Bool} {xs:List ByteArray} {v:Value} (h1:bx w b1 [.bool g] e1) (h2:bx w b2 [v] e2) (h3:ow w G [v] xs) (hn:([b1]++([b2]++G)).Nodup):cbx w ([b1]++([b2]++G)) b1 b2 e1 e2 g xs :=
 ⟨_,_,h1,h2,rfl,h3,hn⟩
def Ja3 (xs:List ByteArray) (sep:ByteArray):Option ByteArray :=
 if xs.length≤1000000∧(Lib.join (xs.map (·.data.toList)) sep.data.toList).length≤1000000000 then some ⟨(Lib.join (xs.map (·.data.toList)) sep.data.toList).toArray⟩ else none
theorem Jgp {f:FuncId} (hn:∀ (a:Option Addr) (c:Nat) (sep:ByteArray) (w:World),Calls P f #[.slice a 0 c,.string sep] w λe w'=>e=.returned (.string ⟨#[]⟩)∧w'=w)
    (hc:∀ (bk o c:Nat) (xs:List ByteArray) (sep:ByteArray) (w:World),(∀ (j:Nat) x,xs[j]? = some x→w.cell? ⟨bk,o+j,none⟩=some (.string x))→bk<w.heap.size→xs.length≤140737488355328→xs.length≤c →
     (Lib.join (xs.map (·.data.toList)) sep.data.toList).length≤140737488355328→Calls P f #[.slice (some ⟨bk,o,none⟩) xs.length c,.string sep] w λe w'=>e=.returned (.string ⟨(Lib.join (xs.map (·.data.toList)) sep.data.toList).toArray⟩)∧Below w.heap.size w w')
    (xs:List ByteArray) (sep:ByteArray) {v:Value} {F:List Nat} (hr:rd w0 F [v] xs) {r:ByteArray} (h:Ja3 xs sep=some r):Calls P f #[v,.string sep] w0 λe w=>e=.returned (.string r)∧Ext [] w0 w:=by
 unfold Ja3 at h
 split at h
 · rename_i hl
   simp only [Option.some.injEq] at h
   subst h
   have hget:∀ (j:Nat) (b:ByteArray),xs[j]? = some b→PtAt w0 (Qpm v 1 j) [.string b]:=λj b hj=>(Q3c hr hj).1
   obtain ⟨ao,cap,hvv,hcap,_,_,h4⟩:=hr
   simp only [List.cons.injEq,and_true] at hvv
   subst hvv
   rcases h4 with rfl | ⟨g,off,c,e',fr,rfl,_,hh,_⟩
   · exact (hn ao cap sep w0).mono λe w ⟨he,hw⟩=>⟨by rw [he]; rfl,hw ▸ Ext.refl _ _⟩
   · refine (hc g off cap xs sep w0 (λj x hj=>?_) (Qi4 hh) (by omega) hcap (by omega)).mono λe w ⟨he,hb⟩=>⟨he,Qud hb⟩
     have hp:=(hget j x hj).cell 0 _ rfl
     simp only [Qpm,Qh3,Nat.mul_one,Nat.add_zero] at hp
     exact hp
 · simp at h
end
end Go.Proofs.YtndfoffokpdjeaaGreatDoor
