/- slices.Compact of in.. -/
import Derived.Test.YtndfoffokpdjeaaGreatDoorS12
import Derived.Lib.SlicesCompact
set_option linter.unusedSimpArgs false
set_option linter.unusedVariables false
namespace Go.Proofs.YtndfoffokpdjeaaGreatDoor
open Go Go.RowKit
open Enc (rd ow)
open Arg (argv)
open Ret (retv)
def Jld (xs:List Int):Option (List Int):=if xs.length<4611686018427387904 then some (Lib.compact xs) else none
theorem Q1m (xs:List Int):(Lib.compact xs).length≤xs.length:=by
 unfold Lib.compact Lib.compactUpTo
 rw [List.length_map]
 exact Nat.le_trans (List.length_filter_le _ _) (by simp)
theorem Q4h {P:Program} {fid:Nat}
    (hs:∀ (blk off cap:Nat) (zs:List Int) (w:World),Go.Sort.Holds (Value.int .i64) w blk off zs.toArray→zs.length≤9223372036854775807→zs.length≤cap →
     Calls P fid #[.slice (some ⟨blk,off,none⟩) zs.length cap] w λe w'=>e=.returned (.slice (some ⟨blk,off,none⟩) (Lib.compact zs).length cap) ∧
      ∃ q,w'=Go.Sort.putRow (Value.int .i64) (Go.Sort.ahead w q) blk off (Lib.compact zs++List.replicate (zs.length - (Lib.compact zs).length) 0).toArray)
    (hn:∀ (p:Option Addr) (cap:Nat) (w:World),Calls P fid #[.slice p 0 cap] w λe w'=>e=.returned (.slice p 0 cap)∧w'=w)
    {w0:World} (xs:List Int) {v:Value} {F:List Nat} (h:ow w0 F [v] xs) {r:List Int} (hr:Jld xs=some r) :
    Calls P fid #[v] w0 λe w=>∃ (v0:Value) (G0:List Nat),e=.returned v0∧Ext F w0 w∧ow w G0 [v0] r∧(∀ b∈G0,b∈F∨w0.heap.size≤b):=by
 unfold Jld at hr
 split at hr
 · rename_i hlen
   simp only [Option.some.injEq] at hr
   subst hr
   rcases h with ⟨hv,rfl,rfl⟩ | ⟨g,off,cap,c,e,Gs,hv,h1,h2,h3,h4,h5,rfl,h6⟩
   · have:=(List.cons.inj hv).1
     subst this
     refine (hn none 0 w0).mono λe w ⟨he,hw⟩=>?_
     subst hw
     refine ⟨_,[],he,Ext.refl _ _,.inl ⟨rfl,?_,rfl⟩,by simp⟩
     exact List.eq_nil_of_length_eq_zero (Nat.le_zero.1 (Q1m []))
   · have:=(List.cons.inj hv).1
     subst this
     have hl:=Q1m xs
     refine (hs g off cap xs w0 (Q62 (cap:=cap) h3 h5) (by omega) h1).mono λe' w ⟨he,q,hw⟩=>?_
     have hl2:(Lib.compact xs++List.replicate (xs.length - (Lib.compact xs).length) 0).length=xs.length:=by simp; omega
     have hw':w=Go.Sort.grow (Go.Sort.putRow (Value.int .i64) (Go.Sort.ahead w0 q) g off (Lib.compact xs++List.replicate (xs.length - (Lib.compact xs).length) 0).toArray) #[]:=by
      rw [show ∀ w:World,Go.Sort.grow w #[]=w from λw=>by cases w; simp [Go.Sort.grow]]
      exact hw
     obtain ⟨hE,hO⟩:=Q4n hl2 h1 h2 h3 h4 h5 h6 hw'
     obtain ⟨hO2,_⟩:=Jek (hi:=((Lib.compact xs).length:Int)) (ys:=Lib.compact xs) hO (by
      unfold sls
      rw [if_pos ⟨by omega,by omega,by rw [hl2]; omega⟩]
      simp)
     rw [Int.toNat_natCast] at hO2
     exact ⟨_,_,he,hE,hO2,λb hb=>.inl hb⟩
 · cases hr
end Go.Proofs.YtndfoffokpdjeaaGreatDoor
