/- A request that a cal.. -/
import Derived.Test.YtndfoffokpdjeaaGreatDoorS21
import Derived.Test.YtndfoffokpdjeaaGreatDoorD0
import Derived.Shelf.Strconv.AtoiAll
import Derived.Shelf.Strconv.ErrVarAll
import Derived.WideLaws
set_option linter.unusedSimpArgs false
set_option linter.unusedVariables false
namespace Go.Proofs.YtndfoffokpdjeaaGreatDoor
open Go Go.RowKit
open Enc (rd ow)
section
variable {P:Program} {ops:Array Oper} {rest:List Oper} {o:Oper} {a:Act} {w w':World} {N:Nat} {L:List (Nat×Value)}
variable {X:List Nat} {w0:World} {M:List (List Nat×World)}
def obx (w:World) (F:List Nat) (b:Nat) (x:Request) (e:TypeId):Prop :=
 ∃ (v0:Value) (F0:List Nat) (v1:Value) (F1:List Nat) (v2:Value) (F2:List Nat),bx w b [.int .i64 x.f9,.int .i64 x.fJ.fW,.int .i64 x.fJ.fD,.int .i64 x.fJ.fH,.int .i64 x.fJ.fQ,.int .i64 x.fU,v0,v1,.int .i64 x.fR,v2] e ∧
  F=[b]++(F0++(F1++F2))∧ow w F0 [v0] x.fT∧ow w F1 [v1] x.fG∧ow w F2 [v2] x.fV∧F.Nodup
theorem obx.nd {F:List Nat} {b:Nat} {x:Request} {e:TypeId} (h:obx w F b x e):F.Nodup:=by
 obtain ⟨_,_,_,_,_,_,_,_,_,_,_,h⟩:=h
 exact h
theorem obx.lt {F:List Nat} {b:Nat} {x:Request} {e:TypeId} (h:obx w F b x e):∀ y∈F,y<w.heap.size:=by
 obtain ⟨_,F0,_,F1,_,F2,hb,rfl,h0,h1,h2,_⟩:=h
 intro y hy
 simp only [List.mem_append,List.mem_singleton] at hy
 rcases hy with rfl | hy | hy | hy
 · exact Qgt hb
 · exact Enc.rd_lt (Enc.ow_rd h0) y hy
 · exact Enc.rd_lt (Enc.ow_rd h1) y hy
 · exact Enc.rd_lt (Enc.ow_rd h2) y hy
theorem St.split4 {A F G H:List Nat} {u:World} (h:St X w0 w ((A++(F++(G++H)),u)::M)):St X w0 w ((A,u)::(F,u)::(G,u)::(H,u)::M):=by
 have e:fps ((A,u)::(F,u)::(G,u)::(H,u)::M)=fps ((A++(F++(G++H)),u)::M):=by simp [fps]
 refine ⟨h.ext,?_,by rw [e]; exact h.lt,by rw [e]; exact h.lo,by rw [e]; exact h.nd⟩
 have h0:=h.ok _ (List.mem_cons_self)
 intro p hp
 simp only [List.mem_cons] at hp
 rcases hp with rfl | rfl | rfl | rfl | hp
 · exact h0.sub (λb hb=>by simp [hb])
 · exact h0.sub (λb hb=>by simp [hb])
 · exact h0.sub (λb hb=>by simp [hb])
 · exact h0.sub (λb hb=>by simp [hb])
 · exact h.ok p (by simp [hp])
theorem St.joinq {A F G H:List Nat} {u1 u2 u3 u4:World} (h:St X w0 w ((A,u1)::(F,u2)::(G,u3)::(H,u4)::M)):St X w0 w ((A++(F++(G++H)),w)::M):=by
 have e:fps ((A++(F++(G++H)),w)::M)=fps ((A,u1)::(F,u2)::(G,u3)::(H,u4)::M):=by simp [fps]
 refine ⟨h.ext,?_,by rw [e]; exact h.lt,by rw [e]; exact h.lo,by rw [e]; exact h.nd⟩
 intro p hp
 rcases List.mem_cons.1 hp with rfl | hp
 · exact Agr.refl _ _
 · exact h.ok p (by simp [hp])
theorem obx.start {F:List Nat} {b:Nat} {x:Request} {e:TypeId} (h:obx w0 F b x e) :
    ∃ (v0:Value) (F0:List Nat) (v1:Value) (F1:List Nat) (v2:Value) (F2:List Nat),bx w0 b [.int .i64 x.f9,.int .i64 x.fJ.fW,.int .i64 x.fJ.fD,.int .i64 x.fJ.fH,.int .i64 x.fJ.fQ,.int .i64 x.fU,v0,v1,.int .i64 x.fR,v2] e ∧
     ow w0 F0 [v0] x.fT∧ow w0 F1 [v1] x.fG∧ow w0 F2 [v2] x.fV∧St F w0 w0 [([b],w0),(F0,w0),(F1,w0),(F2,w0)]:=by
 have hl:=h.lt
 have hn:=h.nd
 obtain ⟨v0,F0,v1,F1,v2,F2,hb,rfl,h0,h1,h2,_⟩:=h
 exact ⟨v0,F0,v1,F1,v2,F2,hb,h0,h1,h2,(St.start1 w0 hl hn).split4⟩
theorem obx.fin {F0 F1 F2:List Nat} {b:Nat} {x:Request} {e:TypeId} {v0 v1 v2:Value} (hb:bx w b [.int .i64 x.f9,.int .i64 x.fJ.fW,.int .i64 x.fJ.fD,.int .i64 x.fJ.fH,.int .i64 x.fJ.fQ,.int .i64 x.fU,v0,v1,.int .i64 x.fR,v2] e)
    (h0:ow w F0 [v0] x.fT) (h1:ow w F1 [v1] x.fG) (h2:ow w F2 [v2] x.fV) (hn:([b]++(F0++(F1++F2))).Nodup):obx w ([b]++(F0++(F1++F2))) b x e:=⟨_,_,_,_,_,_,hb,rfl,h0,h1,h2,hn⟩
structure Te (P:Program) (w:World):Prop where
 t:Tb P w
 s:∃ (g:Nat) (tp:TypeId) (p:Value),P.globalNamed "strconv.ErrSyntax" = some g ∧ w.var? P "strconv.ErrSyntax" = some #[.iface tp p]
 r:∃ (g:Nat) (tp:TypeId) (p:Value),P.globalNamed "strconv.ErrRange" = some g ∧ w.var? P "strconv.ErrRange" = some #[.iface tp p]
theorem Jbc {n:String} {g:Nat} {cs:Array Value} (hg:P.globalNamed n=some g) (h:w.var? P n=some cs) (hE:Ext [] w w'):w'.var? P n=some cs:=by
 unfold World.var? at h ⊢
 rw [hg] at h ⊢
 simp only [Option.bind_eq_bind,Option.bind_some] at h ⊢
 cases hh:w.heap[g]? with
 | none=>simp [hh] at h
 | some o =>
  rw [hE.blk g (Array.getElem?_eq_some_iff.1 hh).1 (by simp),hh]
  rw [hh] at h
  exact h
theorem Te.ext (h:Te P w) (hE:Ext [] w w'):Te P w':=by
 obtain ⟨g1,t1,p1,a1,b1⟩:=h.s
 obtain ⟨g2,t2,p2,a2,b2⟩:=h.r
 exact ⟨h.t.ext hE,⟨g1,t1,p1,a1,Jbc a1 b1 hE⟩,⟨g2,t2,p2,a2,Jbc a2 b2 hE⟩⟩
theorem St.te (h:St [] w0 w M) (hT:Te P w0):Te P w:=hT.ext h.ext
theorem St.te2 (h:St [] w0 w M) (hT:Te P w0) (i:Nat) {F:List Nat} {u:World} (hi:M[i]? = some (F,u)):∀ w',Ext F w w'→Te P w':=λw' hE =>
 hT.ext (h.ext.trans hE λy hy=>.inr (h.fresh i hi y hy))
def Jd1 (s:ByteArray):Option (Int×Bool):=if s.size≤1048576 then some (match Lib.atoiAll s.data.toList with
 | .ok v=>(v,false)
 | .syntax=>(0,true)
 | .range=>(Lib.atoiSat s.data.toList,true)) else none
def isErr (v:Value) (b:Bool):Prop:=(b=false∧v=.nilIface)∨(b=true∧∃ t p,v=.iface t p)
theorem isErr.not {v:Value} {b:Bool} (h:isErr v b):v.oneCell'=true:=by
 rcases h with ⟨_,rfl⟩ | ⟨_,t,p,rfl⟩ <;> rfl
theorem Jlr {v:Value} {b:Bool} (he:isErr v b) (hK:K N L a) {t t':TypeId} (hu:P.underlying t=some (.interface (P.methodsAt t))) {x:Operand} {c:Value}
    (ho:o.op=.binOp .neq t x (.const c) t') (h1:ev L x=some v) (h2:ev L (.const c)=some .nilIface):(execOp a.eval o).run P w=.ok (.value (.bool b)) w:=by
 rcases he with ⟨rfl,rfl⟩ | ⟨rfl,u,p,rfl⟩
 · have:=run_neq_nil_nil (P:=P) w t hu
   simp [execOp,ho,hK.ev h1,hK.ev h2,eqGuard,this]
 · have:=run_neq_held_nil (P:=P) w t u p hu
   simp [execOp,ho,hK.ev h1,hK.ev h2,eqGuard,this]
theorem Qzk (h:Below w.heap.size w w'):Ext [] w w':=⟨h.os,h.tape,h.output,h.size,λk hk _=>h.block k hk⟩
theorem Jiw {f:FuncId} {tb:TypeId}
    (hok:∀ (s:ByteArray),s.size≤9223372036854775806→∀ (v:Int),Lib.atoiAll s.data.toList=.ok v→∀ (w:World),Calls P f #[.string s] w λe w'=>e=.returned (.tuple #[.int .i64 v,.nilIface])∧(w'=w∨∃ t,w'=Lib.bytesWorld w tb t))
    (hsy:∀ (s:ByteArray),s.size ≤ 281474976710656 → Lib.atoiAll s.data.toList = .syntax → ∀ (tp:TypeId) (p:Value) (w:World),w.var? P "strconv.ErrSyntax" = some #[.iface tp p] → Calls P f #[.string s] w λe w'=>∃ t q,e = .returned (.tuple #[.int .i64 0,.iface t q]) ∧ Below w.heap.size w w')
    (hra:∀ (s:ByteArray),s.size ≤ 281474976710656 → Lib.atoiAll s.data.toList = .range → ∀ (tp:TypeId) (p:Value) (w:World),w.var? P "strconv.ErrRange" = some #[.iface tp p] → Calls P f #[.string s] w λe w'=>∃ t q,e = .returned (.tuple #[.int .i64 (Lib.atoiSat s.data.toList),.iface t q]) ∧ Below w.heap.size w w')
    (hT:Te P w0) (s:ByteArray) {r:Int×Bool} (h:Jd1 s=some r):Calls P f #[.string s] w0 λe w=>∃ v,e=.returned (.tuple #[.int .i64 r.1,v])∧Ext [] w0 w∧isErr v r.2:=by
 unfold Jd1 at h
 split at h
 · rename_i hl
   simp only [Option.some.injEq] at h
   subst h
   cases ha:Lib.atoiAll s.data.toList with
   | ok v =>
    refine (hok s (by omega) v ha w0).mono λe w ⟨he,hw⟩=>⟨_,he,?_,.inl ⟨rfl,rfl⟩⟩
    rcases hw with rfl | ⟨t,rfl⟩
    · exact Ext.refl _ _
    · exact Qzk (Lib.bytesWorld_below _ _ _)
   | «syntax» =>
    obtain ⟨_,tp,p,_,hv⟩:=hT.s
    exact (hsy s (by omega) ha tp p w0 hv).mono λe w ⟨t,q,he,hb⟩=>⟨_,he,Qzk hb,.inr ⟨rfl,_,_,rfl⟩⟩
   | range =>
    obtain ⟨_,tp,p,_,hv⟩:=hT.r
    exact (hra s (by omega) ha tp p w0 hv).mono λe w ⟨t,q,he,hb⟩=>⟨_,he,Qzk hb,.inr ⟨rfl,_,_,rfl⟩⟩
 · simp at h
end
end Go.Proofs.YtndfoffokpdjeaaGreatDoor
