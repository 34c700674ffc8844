/- A list of the call's.. -/
import Derived.Test.YtndfoffokpdjeaaGreatDoorS11
set_option linter.unusedSimpArgs false
set_option linter.unusedVariables false
namespace Go.Proofs.YtndfoffokpdjeaaGreatDoor
open Go Go.RowKit
open Enc (rd ow)
section
variable {α:Type} [Enc α]
def owP (w:World) (F:List Nat) (v:Value) (xs:List α) (k:Int):Prop :=
 0≤k∧((v=.slice none 0 0∧xs=[]∧F=[])∨∃ g off cap c e Gs,v=.slice (some ⟨g,off,none⟩) xs.length cap∧xs.length≤cap∧cap≤maxLen∧w.heap[g]? = some (.cells c e (0,0)) ∧
  off+cap*Enc.sz α≤c.size∧owL w Gs (((c.toList.drop off).take (xs.length*Enc.sz α)).drop (k.toNat*Enc.sz α)) (xs.drop k.toNat)∧F=g::Gs.flatten∧F.Nodup)
theorem Jks {w:World} {F:List Nat} {v:Value} {xs:List α} (h:ow w F [v] xs):owP w F v xs 0:=by
 refine ⟨Int.le_refl _,?_⟩
 rcases h with ⟨h1,h2,h3⟩ | ⟨g,off,cap,c,e,Gs,hv,h1,h2,h3,h4,h5,h6,h7⟩
 · exact .inl ⟨(List.cons.inj h1).1,h2,h3⟩
 · exact .inr ⟨g,off,cap,c,e,Gs,(List.cons.inj hv).1,h1,h2,h3,h4,by simpa using h5,h6,h7⟩
theorem Jfz {u w:World} {F:List Nat} {v:Value} {xs:List α} {k:Int} (h:owP u F v xs k) (hA:Agr F u w):owP w F v xs k:=by
 obtain ⟨h0,h⟩:=h
 refine ⟨h0,?_⟩
 rcases h with h | ⟨g,off,cap,c,e,Gs,rfl,h1,h2,h3,h4,h5,rfl,h6⟩
 · exact .inl h
 · exact .inr ⟨g,off,cap,c,e,Gs,rfl,h1,h2,(hA g (by simp)).trans h3,h4,Qvt (hA.sub (λb hb=>List.mem_cons_of_mem _ hb)) h5,rfl,h6⟩
theorem Q9g {w:World} {F:List Nat} {v:Value} {xs:List α} {k:Int} (h:owP w F v xs k):∃ ao cap,v=.slice ao xs.length cap∧(xs=[]∨∃ g off,ao=some ⟨g,off,none⟩):=by
 obtain ⟨h0,h⟩:=h
 rcases h with ⟨rfl,rfl,_⟩ | ⟨g,off,cap,c,e,Gs,rfl,_⟩
 · exact ⟨none,0,rfl,.inl rfl⟩
 · exact ⟨_,cap,rfl,.inr ⟨g,off,rfl⟩⟩
theorem Jff {w:World} {F:List Nat} {v:Value} {xs:List α} {k:Int} {x:α} (h:owP w F v xs k) (hx:ix xs k=some x) :
    ∃ A B cs,owP w A v xs (w64 (k+1))∧ow w B cs x∧PtAt w (Qmr v (Enc.sz α) k.toNat) cs∧F.Perm (A++B):=by
 obtain ⟨h0,hlt,hg⟩:=Qah hx
 obtain ⟨_,h⟩:=h
 rcases h with ⟨rfl,rfl,rfl⟩ | ⟨g,off,cap,c,e,Gs,rfl,h1,h2,h3,h4,h5,rfl,h6⟩
 · simp at hg
 · have hk:k.toNat<xs.length:=(List.getElem?_eq_some_iff.1 hg).1
   have hxk:xs[k.toNat]=x:=(List.getElem?_eq_some_iff.1 hg).2
   have hw:w64 (k+1)=k+1:=by
    simp only [maxLen] at h2
    simp only [w64,IntKind.wrap_i64]
    omega
   rw [List.drop_eq_getElem_cons hk] at h5
   cases Gs with
   | nil=>exact h5.elim
   | cons G Gs =>
    obtain ⟨h7,h8⟩:=h5
    rw [hxk] at h7
    have hn:(k+1).toNat=k.toNat+1:=by omega
    have hm:(k.toNat+1)*Enc.sz α≤xs.length*Enc.sz α:=Nat.mul_le_mul_right _ (by omega)
    rw [Nat.add_mul,Nat.one_mul] at hm
    have hperm:(g::(G::Gs).flatten).Perm ((g::Gs.flatten)++G):=by
     rw [List.flatten_cons,List.cons_append]
     exact List.Perm.cons _ List.perm_append_comm
    refine ⟨g::Gs.flatten,G,_,⟨by rw [hw]; omega,.inr ⟨g,off,cap,c,e,Gs,rfl,h1,h2,h3,h4,?_,rfl,?_⟩⟩,h7,?_,hperm⟩
    · rw [hw,hn,Nat.add_mul,Nat.one_mul,← List.drop_drop]
      exact h8
    · exact (List.nodup_append.1 (hperm.nodup_iff.1 h6)).1
    · have hl:=Enc.rd_sz (Enc.ow_rd h7)
      simp only [Qmr,Qgk]
      refine ⟨g,_,c,e,_,rfl,h3,?_⟩
      rw [hl,List.drop_take,List.take_take,List.drop_drop]
      congr 1
      omega
end
section
variable {P:Program} {ops:Array Oper} {Q:Exit→Act→World→Prop} {rest:List Oper} {o:Oper} {a:Act} {w:World} {N:Nat} {L:List (Nat×Value)}
variable {X:List Nat} {w0:World} {M:List (List Nat×World)} {d:Nat}
theorem Jkd {α:Type} [Enc α] {u:World} {F:List Nat} {v:Value} {xs:List α} {k0:Int} (hf:owP u F v xs k0) {n:Int} {y:α} (hx:ix xs n=some y) (hK:K N L a) {t:TypeId} (hu:TS P t (Enc.sz α)) {x i:Operand} {k:IntKind}
    (ho:o.op=.indexAddr t x i) (hv:ev L x=some v) (hi:ev L i=some (.int k n)) :
    (execOp a.eval o).run P w=.ok (.value (.pointer (some (Qmr v (Enc.sz α) n.toNat)))) w:=by
 obtain ⟨h0,h1,h2⟩:=Qah hx
 obtain ⟨e,hu,hs⟩:=hu
 obtain ⟨ao,cap,rfl,h6⟩:=Q9g hf
 rcases h6 with rfl | ⟨g,off,rfl⟩
 · simp at h2
 · simp [execOp,ho,hK.ev hv,hK.ev hi,Instr.indexAt,asIntOf,run_underlying hu,hs,h0,h1,Qmr]
theorem St.popP {α:Type} [Enc α] (hM:St X w0 w M) (k:Nat) {F:List Nat} {u:World} (hk:M[k]? = some (F,u)) {v:Value} {xs:List α} {n:Int} (h:owP u F v xs n) {x:α} (hx:ix xs n=some x)
    {M':List (List Nat×World)} (hM':M.eraseIdx k=M') :
    ∃ A B cs,St X w0 w ((A,w)::(B,w)::M')∧owP w A v xs (w64 (n+1))∧ow w B cs x∧PtAt w (Qmr v (Enc.sz α) n.toNat) cs:=by
 subst hM'
 obtain ⟨A,B,cs,h1,h2,h3,h4⟩:=Jff (Jfz h (hM.a k hk)) hx
 exact ⟨A,B,cs,(hM.toFront k hk).part h4,h1,h2,h3⟩
end
end Go.Proofs.YtndfoffokpdjeaaGreatDoor
