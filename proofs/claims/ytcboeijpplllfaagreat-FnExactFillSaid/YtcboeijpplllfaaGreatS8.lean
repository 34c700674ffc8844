/- slices.Sort of ints on memory of the call's own: the shelf's contract in this house's words. Own lemmas, over any program. -/
import Derived.Test.YtcboeijpplllfaaGreatD0
import Derived.Sort.Grow
set_option linter.unusedSimpArgs false
set_option linter.unusedVariables false
namespace Go.Proofs.YtcboeijpplllfaaGreat
open Go Go.RowKit
open Enc (rd ow)
open Arg (argv)
open Ret (retv)
theorem owL_cells {w:World}:∀ {Gs:List (List Nat)} {cells:List Value} {xs:List Int},owL w Gs cells xs → cells = xs.map (Value.int .i64)
 | [],_,[],h=>h
 | G :: Gs,cells,x :: xs,⟨h,h'⟩=>by
  have e:=owL_cells h'
  have h2:cells.take 1 = [Value.int .i64 x]:=h.2
  have h3:cells.drop 1 = xs.map (Value.int .i64):=e
  rw [← List.take_append_drop 1 cells,h2,h3]
  rfl
 | [],_,_ :: _,h=>h.elim
 | _ :: _,_,[],h=>h.elim
theorem holds_ow {w0:World} {g off cap:Nat} {c:Array Value} {e:TypeId} {xs:List Int} {Gs:List (List Nat)} (h3:w0.heap[g]? = some (.cells c e (0,0))) (h5:owL w0 Gs ((c.toList.drop off).take (xs.length * Enc.sz Int)) xs) :
    Go.Sort.Holds (Value.int .i64) w0 g off xs.toArray:=by
 have hc:=owL_cells h5
 have hsz:Enc.sz Int = 1:=rfl
 rw [hsz,Nat.mul_one] at hc
 have hcell:∀ j (hj:j < xs.length),c[off + j]? = some (Value.int .i64 xs[j]):=by
  intro j hj
  have:=congrArg (fun l=>l[j]?) hc
  simp only [List.getElem?_take,if_pos hj,List.getElem?_drop,Array.getElem?_toList,List.getElem?_map,List.getElem?_eq_getElem hj,Option.map_some] at this
  exact this
 intro j hj
 have hj':j < xs.length:=by simpa using hj
 refine ⟨?_,?_⟩
 · unfold World.cell?
   simp only [h3,Option.isSome_none,Bool.false_eq_true,if_false]
   rw [hcell j hj',getElem!_pos _ j (by simpa using hj')]
   simp
 · unfold World.frozen?
   simp only [h3]
   simp
theorem ow_putRow {w0 w:World} {g off cap:Nat} {c:Array Value} {e:TypeId} {xs ys:List Int} {Gs:List (List Nat)} (hl:ys.length = xs.length) (h1:xs.length ≤ cap) (h2:cap ≤ maxLen) (h3:w0.heap[g]? = some (.cells c e (0,0)))
    (h4:off + cap * Enc.sz Int ≤ c.size) (h5:owL w0 Gs ((c.toList.drop off).take (xs.length * Enc.sz Int)) xs) (h6:(g :: Gs.flatten).Nodup) {n:Nat} {os:Array Obj}
    (hw:w = Go.Sort.grow (Go.Sort.putRow (Value.int .i64) (Go.Sort.ahead w0 n) g off ys.toArray) os) :
    Ext (g :: Gs.flatten) w0 w ∧ ow w (g :: Gs.flatten) [.slice (some ⟨g,off,none⟩) ys.length cap] ys:=by
 have hG:=owL_flat_nils h5
 have hsz:Enc.sz Int = 1:=rfl
 rw [hsz,Nat.mul_one] at h4
 subst hw
 have hgl:=lt_of_heap h3
 have hblk:∀ k,k < w0.heap.size → (Go.Sort.grow (Go.Sort.putRow (Value.int .i64) (Go.Sort.ahead w0 n) g off ys.toArray) os).heap[k]? =
     if g = k then some (.cells (Go.Sort.putCells (Value.int .i64) off ys.toArray c) e (0,0)) else w0.heap[k]?:=by
  intro k hk
  have hk':k < (Go.Sort.putRow (Value.int .i64) (Go.Sort.ahead w0 n) g off ys.toArray).heap.size:=by simpa using hk
  simp only [Go.Sort.grow]
  rw [Array.getElem?_append_left hk']
  simp only [Go.Sort.putRow,Go.Sort.mapBlock,Go.Sort.heap_ahead,Array.getElem?_modify]
  by_cases hgk:g = k
  · subst hgk
    rw [if_pos rfl,if_pos rfl,h3]
    rfl
  · rw [if_neg hgk,if_neg hgk]
 refine ⟨⟨rfl,rfl,rfl,by simp,fun k hk hx=>?_⟩,?_⟩
 · rw [hblk k hk,if_neg (fun e=>hx (by simp [e]))]
 · have hh:=hblk g hgl
   rw [if_pos rfl] at hh
   refine .inr ⟨g,off,cap,_,e,ys.map fun _=>[],rfl,by omega,h2,hh,?_,?_,?_,h6⟩
   · simpa [Go.Sort.putCells,hsz] using h4
   · have hcs:(((Go.Sort.putCells (Value.int .i64) off ys.toArray c).toList.drop off).take (ys.length * Enc.sz Int)) = (ys.map Flat.e).flatten:=by
       have e2:(ys.map (Flat.e (α:=Int))).flatten = ys.map (Value.int .i64):=by
        clear hl hblk hh
        induction ys with
        | nil=>rfl
        | cons y ys ih=>simp only [List.map_cons,List.flatten_cons,ih]; rfl
       rw [e2,hsz,Nat.mul_one]
       have hle:off + ys.length ≤ c.size:=by omega
       apply List.ext_getElem?
       intro j
       simp only [List.getElem?_take,List.getElem?_drop,Array.getElem?_toList,List.getElem?_map]
       by_cases hj:j < ys.length
       · rw [if_pos hj]
         have hjc:off + j < c.size:=by omega
         simp only [Go.Sort.putCells,Array.getElem?_mapIdx,Array.getElem?_eq_getElem hjc,Option.map_some,List.size_toArray]
         rw [if_pos ⟨by omega,by omega⟩,show off + j - off = j by omega,getElem!_pos _ j (by simpa using hj)]
         simp [List.getElem?_eq_getElem hj]
       · rw [if_neg hj,List.getElem?_eq_none (by omega)]
         rfl
     rw [hcs]
     exact owL_flat _
   · rw [hG,flatten_nils]
def sortI (xs:List Int):Option (List Int):=if xs.length < 4611686018427387904 then some (xs.mergeSort fun x y=>decide (x ≤ y)) else none
theorem c_sortInt {P:Program} {fid:Nat}
    (hs:∀ (blk off cap:Nat) (zs:List Int) (w:World),Go.Sort.Holds (Value.int .i64) w blk off zs.toArray → blk < w.heap.size → zs.length < 4611686018427387904 →
     Calls P fid #[.slice (some ⟨blk,off,none⟩) zs.length cap] w fun e w'=>e = .returned (.tuple #[]) ∧ ∃ n os,w' = Go.Sort.grow (Go.Sort.putRow (Value.int .i64) (Go.Sort.ahead w n) blk off (zs.mergeSort fun x y=>decide (x ≤ y)).toArray) os)
    (hn:∀ (p:Option Addr) (cap:Nat) (w:World),Calls P fid #[.slice p 0 cap] w fun e w'=>e = .returned (.tuple #[]) ∧ w' = w)
    {w0:World} (xs:List Int) {v:Value} {F:List Nat} (h:ow w0 F [v] xs) {r:List Int} (hr:sortI xs = some r) :
    Calls P fid #[v] w0 fun e w=>e = .returned (.tuple #[]) ∧ Ext F w0 w ∧ ow w F [v] r:=by
 unfold sortI at hr
 split at hr
 · rename_i hlen
   simp only [Option.some.injEq] at hr
   subst hr
   rcases h with ⟨hv,rfl,rfl⟩ | ⟨g,off,cap,c,e,Gs,hv,h1,h2,h3,h4,h5,rfl,h6⟩
   · have:=(List.cons.inj hv).1
     subst this
     refine (hn none 0 w0).mono fun e w ⟨he,hw⟩=>?_
     subst hw
     exact ⟨he,Ext.refl _ _,.inl ⟨rfl,by simp,rfl⟩⟩
   · have:=(List.cons.inj hv).1
     subst this
     have hl:=List.length_mergeSort (le:=fun x y=>decide (x ≤ y)) xs
     refine (hs g off cap xs w0 (holds_ow (cap:=cap) h3 h5) (lt_of_heap h3) hlen).mono fun e' w ⟨he,n,os,hw⟩=>?_
     obtain ⟨hE,hO⟩:=ow_putRow hl h1 h2 h3 h4 h5 h6 hw
     rw [hl] at hO
     exact ⟨he,hE,hO⟩
 · cases hr
end Go.Proofs.YtcboeijpplllfaaGreat
