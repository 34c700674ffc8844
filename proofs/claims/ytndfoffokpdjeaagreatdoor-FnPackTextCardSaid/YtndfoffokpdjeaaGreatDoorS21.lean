/- Strings out of numbe.. -/
import Derived.Test.YtndfoffokpdjeaaGreatDoorS20
import Derived.Laws.IdiomStrings
import Derived.Laws.BytesArg
import Derived.Shelf.Strconv.Itoa3
import Derived.Lib.SmallJoins
import Derived.Lib.ItoaLen
set_option linter.unusedSimpArgs false
set_option linter.unusedVariables false
namespace Go.Proofs.YtndfoffokpdjeaaGreatDoor
open Go Go.RowKit
open Enc (rd ow)
section
variable {P:Program} {ops:Array Oper} {rest:List Oper} {o:Oper} {a:Act} {w w':World} {N:Nat} {L:List (Nat×Value)}
variable {X:List Nat} {w0:World} {M:List (List Nat×World)}
def Q8m (l:List U8):Option ByteArray:=if ∀ b∈l,0≤b.n∧b.n≤255 then some ⟨(l.map λb=>UInt8.ofNat b.n.toNat).toArray⟩ else none
theorem Q1j {l:List U8} {r:ByteArray} (hx:Q8m l=some r) {F:List Nat} {v:Value} (hr:rd w F [v] l) (hK:K N L a) {t t' e:TypeId} (h1:P.underlying t=some (.slice e)) (h2:P.underlying e=some (.int .u8)) (h3:P.underlying t'=some .string) {x:Operand}
    (ho:o.op=.convert t t' x) (hv:ev L x=some v):(execOp a.eval o).run P w=.ok (.value (.string r)) w:=by
 unfold Q8m at hx
 split at hx
 · rename_i hbd
   simp only [Option.some.injEq] at hx
   subst hx
   have hget:∀ (j:Nat) (b:U8),l[j]? = some b→PtAt w (Qmr v 1 j) [.int .u8 b.n]:=λj b hj=>(Q5j hr hj).1
   obtain ⟨ao,cap,hvv,_,_,_,h4⟩:=hr
   simp only [List.cons.injEq,and_true] at hvv
   subst hvv
   rcases h4 with rfl | ⟨g,off,c,e',fr,rfl,_⟩
   · have hc:(convert t t' (.slice ao (([]:List U8).length) cap)).run P w=.ok (.string ⟨#[]⟩) w:=by
       cases ao with
       | none=>exact run_convert_bytes_nil w t e h1 h2 0 cap t' h3
       | some ad=>exact run_convert_bytes_back (P:=P) w t t' e ad cap [] h1 h2 h3 (λj hj=>absurd hj (by simp))
     simp [execOp,ho,hK.ev hv] at hc ⊢
     simp [hc]
   · have hc:=run_convert_bytes_back (P:=P) w t t' e ⟨g,off,none⟩ cap (l.map λb=>UInt8.ofNat b.n.toNat) h1 h2 h3 (λj hj=>by
       rw [List.length_map] at hj
       have hp:=(hget j l[j] (List.getElem?_eq_getElem hj)).cell 0 _ rfl
       simp only [Qmr,Qgk,Nat.mul_one,Nat.add_zero] at hp
       rw [Qgk,hp]
       simp only [List.getElem_map,Option.some.injEq,Value.int.injEq,true_and]
       have hb:=hbd l[j] (List.getElem_mem hj)
       have:(UInt8.ofNat (l[j].n.toNat)).toNat=l[j].n.toNat:=by
        rw [UInt8.toNat_ofNat']
        omega
       rw [this]; omega)
     rw [List.length_map] at hc
     simp [execOp,ho,hK.ev hv,hc]
 · simp at hx
def Tb (P:Program) (w:World):Prop:=(∃ g,P.globalNamed "internal/strconv.uint64pow10" = some g) ∧ Lib.TabIs P w "internal/strconv.uint64pow10" .u64 Lib.pow10Tab
theorem Tb.ext (h:Tb P w) (hE:Ext [] w w'):Tb P w':=by
 obtain ⟨⟨g,hg⟩,h⟩:=h
 exact ⟨⟨g,hg⟩,Go.Joins.tab_stays hg h hE.below (Nat.le_refl _)⟩
theorem St.tb (h:St [] w0 w M) (hT:Tb P w0):Tb P w:=hT.ext h.ext
def Jc3 (n:Int):Option ByteArray:=if -9223372036854775808≤n∧n≤9223372036854775807 then some ⟨(Lib.itoa n).toArray⟩ else none
theorem Jdx (w:World) (q:Nat) (os:Array Obj):Ext [] w (Go.Sort.grow (w.drewN q) os) :=
 ⟨rfl,rfl,rfl,by simp [Go.Sort.grow],λi hi _=>by
  show ((w.drewN q).heap++os)[i]? = _
  rw [Array.getElem?_append_left (by show i<w.heap.size; omega)]
  rfl⟩
theorem Jjw {f:FuncId} (hc:∀ (n:Int),-9223372036854775808 ≤ n → n ≤ 9223372036854775807 → ∀ (w:World),Lib.TabIs P w "internal/strconv.uint64pow10" .u64 Lib.pow10Tab → Calls P f #[.int .i64 n] w λe w'=>e = .returned (.string ⟨(Lib.itoa n).toArray⟩) ∧ ∃ k os,w' = Go.Sort.grow (w.drewN k) os)
    (hT:Tb P w0) (n:Int) {r:ByteArray} (h:Jc3 n=some r):Calls P f #[.int .i64 n] w0 λe w=>e=.returned (.string r)∧Ext [] w0 w:=by
 unfold Jc3 at h
 split at h
 · rename_i h0
   simp only [Option.some.injEq] at h
   subst h
   refine (hc n h0.1 h0.2 w0 hT.2).mono λe w ⟨he,k,os,hw⟩=>⟨he,?_⟩
   rw [hw]
   exact Jdx _ _ _
 · simp at h
end
end Go.Proofs.YtndfoffokpdjeaaGreatDoor
