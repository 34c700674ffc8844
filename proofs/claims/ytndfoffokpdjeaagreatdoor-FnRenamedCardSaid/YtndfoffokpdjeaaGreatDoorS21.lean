/- Strings out of numbe.. -/
import Derived.Test.YtndfoffokpdjeaaGreatDoorS20
import Derived.Laws.IdiomStrings
import Derived.Laws.BytesArg
import Derived.Shelf.Strconv.Itoa3
import Derived.Lib.SmallJoins
import Derived.Lib.ItoaLen
set_option linter.unusedSimpArgs false
set_option linter.unusedVariables false
namespace Go.Proofs.YtndfoffokpdjeaaGreatDoor
open Go Go.RowKit
open Enc (rd ow)
section
variable {P:Program} {ops:Array Oper} {rest:List Oper} {o:Oper} {a:Act} {w w':World} {N:Nat} {L:List (Nat×Value)}
variable {X:List Nat} {w0:World} {M:List (List Nat×World)}
def Tb (P:Program) (w:World):Prop:=(∃ g,P.globalNamed "internal/strconv.uint64pow10" = some g) ∧ Lib.TabIs P w "internal/strconv.uint64pow10" .u64 Lib.pow10Tab
theorem Tb.ext (h:Tb P w) (hE:Ext [] w w'):Tb P w':=by
 obtain ⟨⟨g,hg⟩,h⟩:=h
 exact ⟨⟨g,hg⟩,Go.Joins.tab_stays hg h hE.below (Nat.le_refl _)⟩
theorem St.tb (h:St [] w0 w M) (hT:Tb P w0):Tb P w:=hT.ext h.ext
def Q90 (n:Int):Option ByteArray:=if -9223372036854775808≤n∧n≤9223372036854775807 then some ⟨(Lib.itoa n).toArray⟩ else none
theorem Q9w (w:World) (q:Nat) (os:Array Obj):Ext [] w (Go.Sort.grow (w.drewN q) os) :=
 ⟨rfl,rfl,rfl,by simp [Go.Sort.grow],λi hi _=>by
  show ((w.drewN q).heap++os)[i]? = _
  rw [Array.getElem?_append_left (by show i<w.heap.size; omega)]
  rfl⟩
theorem Jfr {f:FuncId} (hc:∀ (n:Int),-9223372036854775808 ≤ n → n ≤ 9223372036854775807 → ∀ (w:World),Lib.TabIs P w "internal/strconv.uint64pow10" .u64 Lib.pow10Tab → Calls P f #[.int .i64 n] w λe w'=>e = .returned (.string ⟨(Lib.itoa n).toArray⟩) ∧ ∃ k os,w' = Go.Sort.grow (w.drewN k) os)
    (hT:Tb P w0) (n:Int) {r:ByteArray} (h:Q90 n=some r):Calls P f #[.int .i64 n] w0 λe w=>e=.returned (.string r)∧Ext [] w0 w:=by
 unfold Q90 at h
 split at h
 · rename_i h0
   simp only [Option.some.injEq] at h
   subst h
   refine (hc n h0.1 h0.2 w0 hT.2).mono λe w ⟨he,k,os,hw⟩=>⟨he,?_⟩
   rw [hw]
   exact Q9w _ _ _
 · simp at h
end
end Go.Proofs.YtndfoffokpdjeaaGreatDoor
