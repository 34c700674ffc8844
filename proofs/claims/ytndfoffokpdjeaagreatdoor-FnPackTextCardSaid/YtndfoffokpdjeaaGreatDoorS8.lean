/- slices.Sort of ints .. -/
import Derived.Test.YtndfoffokpdjeaaGreatDoorD0
import Derived.Sort.Grow
set_option linter.unusedSimpArgs false
set_option linter.unusedVariables false
namespace Go.Proofs.YtndfoffokpdjeaaGreatDoor
open Go Go.RowKit
open Enc (rd ow)
open Arg (argv)
open Ret (retv)
theorem Qu5 {w:World}:∀ {Gs:List (List Nat)} {cells:List Value} {xs:List Int},owL w Gs cells xs→cells=xs.map (Value.int .i64)
 | [],_,[],h=>h
 | G::Gs,cells,x::xs,⟨h,h'⟩=>by
  have e:=Qu5 h'
  have h2:cells.take 1=[Value.int .i64 x]:=h.2
  have h3:cells.drop 1=xs.map (Value.int .i64):=e
  rw [← List.take_append_drop 1 cells,h2,h3]
  rfl
 | [],_,_::_,h=>h.elim
 | _::_,_,[],h=>h.elim
theorem Q62 {w0:World} {g off cap:Nat} {c:Array Value} {e:TypeId} {xs:List Int} {Gs:List (List Nat)} (h3:w0.heap[g]? = some (.cells c e (0,0))) (h5:owL w0 Gs ((c.toList.drop off).take (xs.length*Enc.sz Int)) xs) :
    Go.Sort.Holds (Value.int .i64) w0 g off xs.toArray:=by
 have hc:=Qu5 h5
 have hsz:Enc.sz Int=1:=rfl
 rw [hsz,Nat.mul_one] at hc
 have hcell:∀ j (hj:j<xs.length),c[off+j]? = some (Value.int .i64 xs[j]):=by
  intro j hj
  have:=congrArg (λl=>l[j]?) hc
  simp only [List.getElem?_take,if_pos hj,List.getElem?_drop,Array.getElem?_toList,List.getElem?_map,List.getElem?_eq_getElem hj,Option.map_some] at this
  exact this
 intro j hj
 have hj':j<xs.length:=by simpa using hj
 refine ⟨?_,?_⟩
 · unfold World.cell?
   simp only [h3,Option.isSome_none,Bool.false_eq_true,if_false]
   rw [hcell j hj',getElem!_pos _ j (by simpa using hj')]
   simp
 · unfold World.frozen?
   simp only [h3]
   simp
theorem Q4n {w0 w:World} {g off cap:Nat} {c:Array Value} {e:TypeId} {xs ys:List Int} {Gs:List (List Nat)} (hl:ys.length=xs.length) (h1:xs.length≤cap) (h2:cap≤maxLen) (h3:w0.heap[g]? = some (.cells c e (0,0)))
    (h4:off+cap*Enc.sz Int≤c.size) (h5:owL w0 Gs ((c.toList.drop off).take (xs.length*Enc.sz Int)) xs) (h6:(g::Gs.flatten).Nodup) {n:Nat} {os:Array Obj}
    (hw:w=Go.Sort.grow (Go.Sort.putRow (Value.int .i64) (Go.Sort.ahead w0 n) g off ys.toArray) os) :
    Ext (g::Gs.flatten) w0 w∧ow w (g::Gs.flatten) [.slice (some ⟨g,off,none⟩) ys.length cap] ys:=by
 have hG:=Qjv h5
 have hsz:Enc.sz Int=1:=rfl
 rw [hsz,Nat.mul_one] at h4
 subst hw
 have hgl:=Qgt h3
 have hblk:∀ k,k<w0.heap.size→(Go.Sort.grow (Go.Sort.putRow (Value.int .i64) (Go.Sort.ahead w0 n) g off ys.toArray) os).heap[k]? =
     if g=k then some (.cells (Go.Sort.putCells (Value.int .i64) off ys.toArray c) e (0,0)) else w0.heap[k]?:=by
  intro k hk
  have hk':k<(Go.Sort.putRow (Value.int .i64) (Go.Sort.ahead w0 n) g off ys.toArray).heap.size:=by simpa using hk
  simp only [Go.Sort.grow]
  rw [Array.getElem?_append_left hk']
  simp only [Go.Sort.putRow,Go.Sort.mapBlock,Go.Sort.heap_ahead,Array.getElem?_modify]
  by_cases hgk:g=k
  · subst hgk
    rw [if_pos rfl,if_pos rfl,h3]
    rfl
  · rw [if_neg hgk,if_neg hgk]
 refine ⟨⟨rfl,rfl,rfl,by simp,λk hk hx=>?_⟩,?_⟩
 · rw [hblk k hk,if_neg (λe=>hx (by simp [e]))]
 · have hh:=hblk g hgl
   rw [if_pos rfl] at hh
   refine .inr ⟨g,off,cap,_,e,ys.map λ_=>[],rfl,by omega,h2,hh,?_,?_,?_,h6⟩
   · simpa [Go.Sort.putCells,hsz] using h4
   · have hcs:(((Go.Sort.putCells (Value.int .i64) off ys.toArray c).toList.drop off).take (ys.length*Enc.sz Int))=(ys.map Flat.e).flatten:=by
       have e2:(ys.map (Flat.e (α:=Int))).flatten=ys.map (Value.int .i64):=by
        clear hl hblk hh
        induction ys with
        | nil=>rfl
        | cons y ys ih=>simp only [List.map_cons,List.flatten_cons,ih]; rfl
       rw [e2,hsz,Nat.mul_one]
       have hle:off+ys.length≤c.size:=by omega
       apply List.ext_getElem?
       intro j
       simp only [List.getElem?_take,List.getElem?_drop,Array.getElem?_toList,List.getElem?_map]
       by_cases hj:j<ys.length
       · rw [if_pos hj]
         have hjc:off+j<c.size:=by omega
         simp only [Go.Sort.putCells,Array.getElem?_mapIdx,Array.getElem?_eq_getElem hjc,Option.map_some,List.size_toArray]
         rw [if_pos ⟨by omega,by omega⟩,show off+j - off=j by omega,getElem!_pos _ j (by simpa using hj)]
         simp [List.getElem?_eq_getElem hj]
       · rw [if_neg hj,List.getElem?_eq_none (by omega)]
         rfl
     rw [hcs]
     exact Qtc _
   · rw [hG,Qjm]
def Q28 (xs:List Int):Option (List Int):=if xs.length<4611686018427387904 then some (xs.mergeSort λx y=>decide (x≤y)) else none
theorem Q86 {P:Program} {fid:Nat}
    (hs:∀ (blk off cap:Nat) (zs:List Int) (w:World),Go.Sort.Holds (Value.int .i64) w blk off zs.toArray→blk<w.heap.size→zs.length<4611686018427387904 →
     Calls P fid #[.slice (some ⟨blk,off,none⟩) zs.length cap] w λe w'=>e=.returned (.tuple #[])∧∃ n os,w'=Go.Sort.grow (Go.Sort.putRow (Value.int .i64) (Go.Sort.ahead w n) blk off (zs.mergeSort λx y=>decide (x≤y)).toArray) os)
    (hn:∀ (p:Option Addr) (cap:Nat) (w:World),Calls P fid #[.slice p 0 cap] w λe w'=>e=.returned (.tuple #[])∧w'=w)
    {w0:World} (xs:List Int) {v:Value} {F:List Nat} (h:ow w0 F [v] xs) {r:List Int} (hr:Q28 xs=some r) :
    Calls P fid #[v] w0 λe w=>e=.returned (.tuple #[])∧Ext F w0 w∧ow w F [v] r:=by
 unfold Q28 at hr
 split at hr
 · rename_i hlen
   simp only [Option.some.injEq] at hr
   subst hr
   rcases h with ⟨hv,rfl,rfl⟩ | ⟨g,off,cap,c,e,Gs,hv,h1,h2,h3,h4,h5,rfl,h6⟩
   · have:=(List.cons.inj hv).1
     subst this
     refine (hn none 0 w0).mono λe w ⟨he,hw⟩=>?_
     subst hw
     exact ⟨he,Ext.refl _ _,.inl ⟨rfl,by simp,rfl⟩⟩
   · have:=(List.cons.inj hv).1
     subst this
     have hl:=List.length_mergeSort (le:=λx y=>decide (x≤y)) xs
     refine (hs g off cap xs w0 (Q62 (cap:=cap) h3 h5) (Qgt h3) hlen).mono λe' w ⟨he,n,os,hw⟩=>?_
     obtain ⟨hE,hO⟩:=Q4n hl h1 h2 h3 h4 h5 h6 hw
     rw [hl] at hO
     exact ⟨he,hE,hO⟩
 · cases hr
end Go.Proofs.YtndfoffokpdjeaaGreatDoor
