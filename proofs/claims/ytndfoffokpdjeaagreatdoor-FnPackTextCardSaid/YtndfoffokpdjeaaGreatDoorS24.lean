/- A string as bytes; b.. -/
import Derived.Test.YtndfoffokpdjeaaGreatDoorS21
set_option linter.unusedSimpArgs false
set_option linter.unusedVariables false
namespace Go.Proofs.YtndfoffokpdjeaaGreatDoor
open Go Go.RowKit
open Enc (rd ow)
section
variable {P:Program} {ops:Array Oper} {Q:Exit→Act→World→Prop} {rest:List Oper} {o:Oper} {a:Act} {w:World} {N:Nat} {L:List (Nat×Value)}
variable {X:List Nat} {w0:World} {M:List (List Nat×World)} {d:Nat}
def Jki (s:ByteArray):Option (List U8):=if s.size≤1000000000 then some (s.data.toList.map λb=>(⟨(b.toNat:Int)⟩:U8)) else none
theorem Q7x {α:Type} [Flat α] {F:List Nat}:∀ (xs:List α) (r:List Value),rdL w F ((xs.map Flat.e).flatten++r) xs
 | [],_=>trivial
 | x::xs,r=>by
  have hl:=Flat.len x
  refine ⟨⟨[],by simp,rfl,?_⟩,?_⟩
  · show List.take (Flat.sz α) _=_
    rw [← hl]; simp
  · have:((List.map Flat.e (x::xs)).flatten++r).drop (Enc.sz α)=(xs.map Flat.e).flatten++r:=by
      show List.drop (Flat.sz α) _=_
      rw [← hl]; simp
    rw [this]
    exact Q7x xs r
theorem Jl5 {s:ByteArray} {l:List U8} (hx:Jki s=some l) {t t' e:TypeId} (h1:P.underlying t=some .string) (h2:P.underlying t'=some (.slice e)) (h3:P.underlying e=some (.int .u8)) (hM:St X w0 w M) (hK:K N L a) {x:Operand}
    (hg:gd L ops o.guard=some true) (hd:o.dst=some d) (hN:Nat.blt d N=true)
    (ho:o.op=.convert t t' x) (hv:ev L x=some (.string s))
    (h:∀ g w' a v,K N ((d,v)::L) a→St X w0 w' (([g],w')::M)→Ext [] w w'→rd w' [g] [v] l→wpList P ops Q rest a w'):wpList P ops Q (o::rest) a w:=by
 unfold Jki at hx
 split at hx
 · rename_i hsz
   have hl:=Option.some.inj hx
   have hr:=run_bytes_of_string (P:=P) w t t' e s h1 h2 h3
   have hE:Ext [] w (w.drew.alloc (.cells (bytesRow s (grownCap w s.size 0 e)) e ((bytesRow s (grownCap w s.size 0 e)).size,(bytesRow s (grownCap w s.size 0 e)).size+1))):=(Ext.drew w).trans (Ext.alloc _ _) (by simp)
   have hnew:=heap_alloc_new w.drew (.cells (bytesRow s (grownCap w s.size 0 e)) e ((bytesRow s (grownCap w s.size 0 e)).size,(bytesRow s (grownCap w s.size 0 e)).size+1))
   have hlen:l.length=s.size:=by rw [← hl,List.length_map]; exact Array.length_toList
   refine Qt8 hK hg hd hN (v:=.slice (some ⟨w.heap.size,0,none⟩) s.size (grownCap w s.size 0 e)) (w':=w.drew.alloc (.cells (bytesRow s (grownCap w s.size 0 e)) e ((bytesRow s (grownCap w s.size 0 e)).size,(bytesRow s (grownCap w s.size 0 e)).size+1))) (by simp [execOp,ho,hK.ev hv,hr]) λa hK=>h w.heap.size _ a _ hK (hM.new hE [w.heap.size] (by
    intro b hb
    rw [List.mem_singleton.1 hb]
    exact ⟨Nat.le_refl _,Qgt hnew⟩) (by simp)) hE ?_
   refine ⟨some ⟨w.heap.size,0,none⟩,grownCap w s.size 0 e,by rw [hlen],by rw [hlen]; exact grownCap_ge w s.size 0 e,grownCap_le_maxLen w _ 0 e (by simp only [maxLen]; omega),λb hb=>by rw [List.mem_singleton.1 hb]; exact Qgt hnew,.inr ⟨_,0,_,e,_,rfl,by simp,hnew,?_⟩⟩
   rw [List.drop_zero]
   have e1:(bytesRow s (grownCap w s.size 0 e)).toList=(l.map Flat.e).flatten++List.replicate (grownCap w s.size 0 e - s.size) (.int .u8 0):=by
    rw [← hl]
    unfold bytesRow
    rw [Array.toList_append,Array.toList_map,Array.toList_replicate]
    congr 1
    rw [List.map_map]
    induction s.data.toList with
    | nil=>rfl
    | cons b r ih=>simp [ih,Flat.e]
   rw [e1]
   exact Q7x l _
 · simp at hx
theorem Ji9 {α:Type} [Enc α] {g:Nat} {c1 c2:List Value} {e:TypeId} {x1 x2:α} {G1 G2:List Nat} (h:bx w g (c1++c2) e) (h1:ow w G1 c1 x1) (h2:ow w G2 c2 x2) (hn:(g::(G1++G2)).Nodup) :
    ow w (g::(G1++G2)) [.slice (some ⟨g,0,none⟩) 2 2] [x1,x2]:=by
 have l1:=Enc.rd_sz (Enc.ow_rd h1)
 have l2:=Enc.rd_sz (Enc.ow_rd h2)
 refine .inr ⟨g,0,2,_,e,[G1,G2],rfl,Nat.le_refl _,by simp [maxLen],h,by simp [l1,l2]; omega,?_,by simp,hn⟩
 have e0:(List.drop 0 (c1++c2).toArray.toList).take ([x1,x2].length*Enc.sz α)=c1++c2:=by
  simp only [List.drop_zero]
  exact List.take_of_length_le (by simp [l1,l2]; omega)
 rw [e0]
 refine ⟨?_,?_,?_⟩
 · rw [← l1,List.take_left]; exact h1
 · rw [← l1,List.drop_left,l1,← l2,List.take_length]; exact h2
 · rw [← l1,List.drop_left,l1,← l2,List.drop_length]; trivial
end
end Go.Proofs.YtndfoffokpdjeaaGreatDoor
