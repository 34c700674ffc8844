/- slices.Delete of lists on memory of the call's own: the shelf's contract in this house's words. Own lemmas, over any program. -/
import Derived.Test.YthddjkokpfdbnaaGreatS12
import Derived.Shelf.SlicesE.Delete
set_option linter.unusedSimpArgs false
set_option linter.unusedVariables false
namespace Go.Proofs.YthddjkokpfdbnaaGreat
open Go Go.RowKit
open Enc (rd ow)
open Arg (argv)
open Ret (retv)
def delI {α:Type} (xs:List α) (i j:Int):Option (List α):=if 0 ≤ i ∧ i ≤ j ∧ j ≤ xs.length ∧ 0 < xs.length then some (xs.take i.toNat ++ xs.drop j.toNat) else none
abbrev SlV:=Option Addr × Nat × Nat
def encS (p:SlV):Value:=.slice p.1 p.2.1 p.2.2
theorem encS_one:OneCell encS:=fun _=>rfl
theorem subl_flat {α:Type} {a b:List (List α)} (h:a.Sublist b):a.flatten.Sublist b.flatten:=by
 induction h with
 | slnil=>exact List.Sublist.refl _
 | cons x _ ih=>exact ih.trans (by rw [List.flatten_cons]; exact List.sublist_append_right _ _)
 | cons_cons x _ ih=>rw [List.flatten_cons,List.flatten_cons]; exact ih.append_left _
section
variable {β:Type} [Enc β] {w w0:World}
theorem owL_tk:∀ (k:Nat) {Gs:List (List Nat)} {cells:List Value} {xs:List (List β)},owL w Gs cells xs → owL w (Gs.take k) (cells.take k) (xs.take k)
 | 0,Gs,cells,xs,_=>by simp; exact rfl
 | k + 1,G :: Gs,cells,x :: xs,⟨h,h'⟩=>by
  have e:Enc.sz (List β) = 1:=rfl
  rw [e] at h h'
  obtain ⟨c,cells,rfl⟩:∃ c cs,cells = c :: cs:=by
   cases cells with
   | nil =>
    have:=Enc.rd_sz (Enc.ow_rd h)
    simp [e] at this
   | cons c cs=>exact ⟨c,cs,rfl⟩
  have ih:=owL_tk k h'
  refine ⟨?_,?_⟩
  · simpa [e] using h
  · simpa [e] using ih
 | k + 1,[],[],[],_=>by simp; exact rfl
 | k + 1,[],_,_ :: _,h=>h.elim
 | k + 1,_ :: _,_,[],h=>h.elim
theorem owL_dr:∀ (k:Nat) {Gs:List (List Nat)} {cells:List Value} {xs:List (List β)},owL w Gs cells xs → owL w (Gs.drop k) (cells.drop k) (xs.drop k)
 | 0,Gs,cells,xs,h=>by simpa using h
 | k + 1,G :: Gs,cells,x :: xs,⟨_,h'⟩=>by
  have ih:=owL_dr k h'
  rw [List.drop_drop] at ih
  have e:Enc.sz (List β) = 1:=rfl
  rw [e] at ih
  simpa [Nat.add_comm] using ih
 | k + 1,[],[],[],_=>by simp; exact rfl
 | k + 1,[],_,_ :: _,h=>h.elim
 | k + 1,_ :: _,_,[],h=>h.elim
theorem owL_encS:∀ {Gs:List (List Nat)} {cells:List Value} {xs:List (List β)},owL w Gs cells xs → ∃ d:List SlV,cells = d.map encS
 | [],[],[],_=>⟨[],rfl⟩
 | G :: Gs,cells,x :: xs,⟨h,h'⟩=>by
  have e:Enc.sz (List β) = 1:=rfl
  rw [e] at h h'
  obtain ⟨c,cells,rfl⟩:∃ c cs,cells = c :: cs:=by
   cases cells with
   | nil =>
    have:=Enc.rd_sz (Enc.ow_rd h)
    simp [e] at this
   | cons c cs=>exact ⟨c,cs,rfl⟩
  obtain ⟨d,hd⟩:=owL_encS h'
  simp only [List.take_succ_cons,List.take_zero] at h
  obtain ⟨ao,cap,hv,_⟩:=rd_slice (Enc.ow_rd h)
  refine ⟨(ao,x.length,cap) :: d,?_⟩
  simp only [List.drop_succ_cons,List.drop_zero] at hd
  rw [hd,hv]; rfl
 | [],_,_ :: _,h=>h.elim
 | _ :: _,_,[],h=>h.elim
theorem c_deleteLL {P:Program} {fid:Nat}
    (hs:∀ (blk off cap i j:Nat) (d:Array SlV) (w:World),Go.Sort.Holds encS w blk off d → d.size ≤ cap → cap ≤ 9223372036854775807 → i ≤ j → j ≤ d.size →
     Calls P fid #[.slice (some ⟨blk,off,none⟩) d.size cap,.int .i64 i,.int .i64 j] w fun e w'=>e = .returned (.slice (some ⟨blk,off,none⟩) (d.size - (j - i)) cap) ∧
      ∃ q,w' = Go.Sort.putRow encS (Go.Sort.ahead w q) blk off (d.toList.take i ++ d.toList.drop j ++ List.replicate (j - i) ((none,0,0):SlV)).toArray)
    (xs:List (List β)) {v:Value} {F:List Nat} (h:ow w0 F [v] xs) {i j:Int} {r:List (List β)} (hr:delI xs i j = some r) :
    Calls P fid #[v,.int .i64 i,.int .i64 j] w0 fun e w=>∃ (v0:Value) (G0:List Nat),e = .returned v0 ∧ Ext F w0 w ∧ ow w G0 [v0] r ∧ (∀ b ∈ G0,b ∈ F ∨ w0.heap.size ≤ b):=by
 unfold delI at hr
 split at hr
 · rename_i hc
   obtain ⟨c1,c2,c3,c4⟩:=hc
   simp only [Option.some.injEq] at hr
   subst hr
   rcases h with ⟨hv,hx,rfl⟩ | ⟨g,off,cap,c,e,Gs,hv,h1,h2,h3,h4,h5,rfl,h6⟩
   · first | (subst hx; simp at c4) | (rw [hx] at c4; simp at c4)
   · have:=(List.cons.inj hv).1
     subst this
     have hsz:Enc.sz (List β) = 1:=rfl
     rw [hsz,Nat.mul_one] at h4 h5
     obtain ⟨e1,e2⟩:=owL_len h5
     rw [hsz,Nat.mul_one] at e2
     obtain ⟨d,hd⟩:=owL_encS h5
     have hdl:d.length = xs.length:=by rw [← e2,hd,List.length_map]
     have hcell:∀ k (hk:k < xs.length),c[off + k]? = some (encS (d[k]'(by omega))):=by
      intro k hk
      have:=congrArg (fun l=>l[k]?) hd
      simp only [List.getElem?_take,if_pos hk,List.getElem?_drop,Array.getElem?_toList,List.getElem?_map,List.getElem?_eq_getElem (show k < d.length by omega),Option.map_some] at this
      exact this
     have hH:Go.Sort.Holds encS w0 g off d.toArray:=by
      intro k hk
      have hk':k < xs.length:=by simpa [hdl] using hk
      refine ⟨?_,?_⟩
      · unfold World.cell?
        simp only [h3,Option.isSome_none,Bool.false_eq_true,if_false]
        rw [hcell k hk',getElem!_pos _ k hk]
        simp
      · unfold World.frozen?
        simp only [h3]
        simp
     have ei:i = (i.toNat:Int):=by omega
     have ej:j = (j.toNat:Int):=by omega
     have key:=hs g off cap i.toNat j.toNat d.toArray w0 hH (by simp; omega) (by unfold maxLen at h2; omega) (by omega) (by simp; omega)
     rw [← ei,← ej] at key
     rw [show d.toArray.size = xs.length by simpa using hdl] at key
     refine key.mono fun e' w ⟨he,q,hw⟩=>?_
     obtain ⟨ys,hys⟩:∃ ys,ys = d.take i.toNat ++ d.drop j.toNat ++ List.replicate (j.toNat - i.toNat) ((none,0,0):SlV):=⟨_,rfl⟩
     have hyl:ys.length = xs.length:=by rw [hys]; simp; omega
     change w = Go.Sort.putRow encS (Go.Sort.ahead w0 q) g off (d.take i.toNat ++ d.drop j.toNat ++ List.replicate (j.toNat - i.toNat) ((none,0,0):SlV)).toArray at hw
     rw [← hys] at hw
     have hgl:=lt_of_heap h3
     have hblk:∀ k,k < w0.heap.size → w.heap[k]? = if g = k then some (.cells (Go.Sort.putCells encS off ys.toArray c) e (0,0)) else w0.heap[k]?:=by
      intro k hk
      subst hw
      simp only [Go.Sort.putRow,Go.Sort.mapBlock,Go.Sort.heap_ahead,Array.getElem?_modify]
      by_cases hgk:g = k
      · subst hgk
        rw [if_pos rfl,if_pos rfl,h3]
        rfl
      · rw [if_neg hgk,if_neg hgk]
     have hE:Ext (g :: Gs.flatten) w0 w:=by
      refine ⟨by subst hw; rfl,by subst hw; rfl,by subst hw; rfl,by subst hw; simp [Go.Sort.putRow,Go.Sort.mapBlock],fun k hk hx=>?_⟩
      rw [hblk k hk,if_neg (fun e=>hx (by simp [e]))]
     have hnd:=List.nodup_cons.1 h6
     have hA:Agr Gs.flatten w0 w:=by
      intro b hb
      have hbl:=owL_lt h5 b hb
      have hne:¬ g = b:=fun e=>hnd.1 (by rw [e]; exact hb)
      rw [hblk b hbl,if_neg hne]
     have hh:=hblk g hgl
     rw [if_pos rfl] at hh
     have hsub:∀ b ∈ (Gs.take i.toNat ++ Gs.drop j.toNat).flatten,b ∈ Gs.flatten:=by
      intro b hb
      obtain ⟨G,hG,hbG⟩:=List.mem_flatten.1 hb
      rcases List.mem_append.1 hG with hG | hG
      · exact List.mem_flatten.2 ⟨G,List.mem_of_mem_take hG,hbG⟩
      · exact List.mem_flatten.2 ⟨G,List.mem_of_mem_drop hG,hbG⟩
     have hsl:(Gs.take i.toNat ++ Gs.drop j.toNat).Sublist Gs:=by
      have h1:(Gs.drop j.toNat).Sublist (Gs.drop i.toNat):=by
       have:j.toNat = i.toNat + (j.toNat - i.toNat):=by omega
       rw [this,← List.drop_drop]
       exact List.drop_sublist _ _
      have:=h1.append_left (Gs.take i.toNat)
      rwa [List.take_append_drop] at this
     have hndF:(g :: (Gs.take i.toNat ++ Gs.drop j.toNat).flatten).Nodup:=by
      refine List.nodup_cons.2 ⟨fun hb=>hnd.1 (hsub g hb),?_⟩
      exact hnd.2.sublist (subl_flat hsl)
     have hlr:(xs.take i.toNat ++ xs.drop j.toNat).length = xs.length - (j.toNat - i.toNat):=by simp; omega
     refine ⟨_,_,he,hE,.inr ⟨g,off,cap,_,e,Gs.take i.toNat ++ Gs.drop j.toNat,by rw [hlr],by rw [hlr]; omega,h2,hh,?_,?_,rfl,hndF⟩,fun b hb=>.inl ?_⟩
     · rw [hsz,Nat.mul_one]
       simpa [Go.Sort.putCells] using h4
     · have hcs:((Go.Sort.putCells encS off ys.toArray c).toList.drop off).take ((xs.take i.toNat ++ xs.drop j.toNat).length * Enc.sz (List β)) = (((c.toList.drop off).take xs.length).take i.toNat) ++ (((c.toList.drop off).take xs.length).drop j.toNat):=by
         rw [hsz,Nat.mul_one,hlr,hd,← List.map_take,← List.map_drop,← List.map_append]
         have hle:off + ys.length ≤ c.size:=by omega
         have hyy:ys.take (xs.length - (j.toNat - i.toNat)) = d.take i.toNat ++ d.drop j.toNat:=by
          rw [hys,List.take_append_of_le_length (by simp; omega),List.take_of_length_le (by simp; omega)]
         rw [← hyy,List.map_take]
         apply List.ext_getElem?
         intro k
         simp only [List.getElem?_take,List.getElem?_drop,Array.getElem?_toList,List.getElem?_map]
         by_cases hk:k < xs.length - (j.toNat - i.toNat)
         · rw [if_pos hk,if_pos hk]
           have hjc:off + k < c.size:=by omega
           have hky:k < ys.length:=by omega
           simp only [Go.Sort.putCells,Array.getElem?_mapIdx,Array.getElem?_eq_getElem hjc,Option.map_some,List.size_toArray]
           rw [if_pos ⟨by omega,by omega⟩,show off + k - off = k by omega,getElem!_pos _ k (by simpa using hky)]
           simp [List.getElem?_eq_getElem hky]
         · rw [if_neg hk,if_neg hk]
       rw [hcs]
       exact owL_append (owL_agr (hA.sub fun b hb=>by
        obtain ⟨G,hG,hbG⟩:=List.mem_flatten.1 hb
        exact List.mem_flatten.2 ⟨G,List.mem_of_mem_take hG,hbG⟩) (owL_tk i.toNat h5)) (owL_agr (hA.sub fun b hb=>by
        obtain ⟨G,hG,hbG⟩:=List.mem_flatten.1 hb
        exact List.mem_flatten.2 ⟨G,List.mem_of_mem_drop hG,hbG⟩) (owL_dr j.toNat h5))
     · rcases List.mem_cons.1 hb with e | hb
       · simp [e]
       · exact List.mem_cons_of_mem _ (hsub b hb)
 · cases hr
end
end Go.Proofs.YthddjkokpfdbnaaGreat
