/- own lemmas -/
import Derived.Test.YthkaklkinepfkaaGreatDoorS11
import Derived.Test.YthkaklkinepfkaaGreatDoorS15
import Derived.Shelf.Strconv.AtoiAll
import Derived.Shelf.Strconv.ErrVarAll
import Derived.WideLaws
import Derived.Shelf.Strings.OnBuilder
import Derived.Test.YthkaklkinepfkaaGreatDoorRows
import Derived.Test.YthkaklkinepfkaaGreatDoorS4
set_option linter.unusedSimpArgs false
set_option linter.unusedVariables false
namespace Go.Proofs.YthkaklkinepfkaaGreatDoor
open Go Go.RowKit
open Enc (rd ow)
section
variable {P:Program} {ops:Array Oper} {rest:List Oper} {o:Oper} {a:Act} {w w':World} {N:Nat} {L:List (Nat × Value)}
variable {X:List Nat} {w0:World} {M:List (List Nat × World)}
def obx (w:World) (F:List Nat) (b:Nat) (x:Request) (e:TypeId):Prop :=
 ∃ (v0:Value) (F0:List Nat) (v1:Value) (F1:List Nat) (v2:Value) (F2:List Nat),bx w b [.int .i64 x.fWay,.int .i64 x.fPallet.fW,.int .i64 x.fPallet.fD,.int .i64 x.fPallet.fH,.int .i64 x.fPallet.fGram,.int .i64 x.fClasses,v0,v1,.int .i64 x.fMaster,v2] e ∧
  F = [b] ++ (F0 ++ (F1 ++ F2)) ∧ ow w F0 [v0] x.fPairs ∧ ow w F1 [v1] x.fTypes ∧ ow w F2 [v2] x.fItems ∧ F.Nodup
theorem obx.nd {F:List Nat} {b:Nat} {x:Request} {e:TypeId} (h:obx w F b x e):F.Nodup:=by
 obtain ⟨_,_,_,_,_,_,_,_,_,_,_,h⟩:=h
 exact h
theorem obx.lt {F:List Nat} {b:Nat} {x:Request} {e:TypeId} (h:obx w F b x e):∀ y ∈ F,y < w.heap.size:=by
 obtain ⟨_,F0,_,F1,_,F2,hb,rfl,h0,h1,h2,_⟩:=h
 intro y hy
 simp only [List.mem_append,List.mem_singleton] at hy
 rcases hy with rfl | hy | hy | hy
 · exact lt_of_heap hb
 · exact Enc.rd_lt (Enc.ow_rd h0) y hy
 · exact Enc.rd_lt (Enc.ow_rd h1) y hy
 · exact Enc.rd_lt (Enc.ow_rd h2) y hy
theorem St.split4 {A F G H:List Nat} {u:World} (h:St X w0 w ((A ++ (F ++ (G ++ H)),u) :: M)):St X w0 w ((A,u) :: (F,u) :: (G,u) :: (H,u) :: M):=by
 have e:fps ((A,u) :: (F,u) :: (G,u) :: (H,u) :: M) = fps ((A ++ (F ++ (G ++ H)),u) :: M):=by simp [fps]
 refine ⟨h.ext,?_,by rw [e]; exact h.lt,by rw [e]; exact h.lo,by rw [e]; exact h.nd⟩
 have h0:=h.ok _ (List.mem_cons_self)
 intro p hp
 simp only [List.mem_cons] at hp
 rcases hp with rfl | rfl | rfl | rfl | hp
 · exact h0.sub (fun b hb=>by simp [hb])
 · exact h0.sub (fun b hb=>by simp [hb])
 · exact h0.sub (fun b hb=>by simp [hb])
 · exact h0.sub (fun b hb=>by simp [hb])
 · exact h.ok p (by simp [hp])
theorem St.joinq {A F G H:List Nat} {u1 u2 u3 u4:World} (h:St X w0 w ((A,u1) :: (F,u2) :: (G,u3) :: (H,u4) :: M)):St X w0 w ((A ++ (F ++ (G ++ H)),w) :: M):=by
 have e:fps ((A ++ (F ++ (G ++ H)),w) :: M) = fps ((A,u1) :: (F,u2) :: (G,u3) :: (H,u4) :: M):=by simp [fps]
 refine ⟨h.ext,?_,by rw [e]; exact h.lt,by rw [e]; exact h.lo,by rw [e]; exact h.nd⟩
 intro p hp
 rcases List.mem_cons.1 hp with rfl | hp
 · exact Agr.refl _ _
 · exact h.ok p (by simp [hp])
theorem obx.start {F:List Nat} {b:Nat} {x:Request} {e:TypeId} (h:obx w0 F b x e) :
    ∃ (v0:Value) (F0:List Nat) (v1:Value) (F1:List Nat) (v2:Value) (F2:List Nat),bx w0 b [.int .i64 x.fWay,.int .i64 x.fPallet.fW,.int .i64 x.fPallet.fD,.int .i64 x.fPallet.fH,.int .i64 x.fPallet.fGram,.int .i64 x.fClasses,v0,v1,.int .i64 x.fMaster,v2] e ∧
     ow w0 F0 [v0] x.fPairs ∧ ow w0 F1 [v1] x.fTypes ∧ ow w0 F2 [v2] x.fItems ∧ St F w0 w0 [([b],w0),(F0,w0),(F1,w0),(F2,w0)]:=by
 have hl:=h.lt
 have hn:=h.nd
 obtain ⟨v0,F0,v1,F1,v2,F2,hb,rfl,h0,h1,h2,_⟩:=h
 exact ⟨v0,F0,v1,F1,v2,F2,hb,h0,h1,h2,(St.start1 w0 hl hn).split4⟩
theorem obx.fin {F0 F1 F2:List Nat} {b:Nat} {x:Request} {e:TypeId} {v0 v1 v2:Value} (hb:bx w b [.int .i64 x.fWay,.int .i64 x.fPallet.fW,.int .i64 x.fPallet.fD,.int .i64 x.fPallet.fH,.int .i64 x.fPallet.fGram,.int .i64 x.fClasses,v0,v1,.int .i64 x.fMaster,v2] e)
    (h0:ow w F0 [v0] x.fPairs) (h1:ow w F1 [v1] x.fTypes) (h2:ow w F2 [v2] x.fItems) (hn:([b] ++ (F0 ++ (F1 ++ F2))).Nodup):obx w ([b] ++ (F0 ++ (F1 ++ F2))) b x e:=⟨_,_,_,_,_,_,hb,rfl,h0,h1,h2,hn⟩
structure Te (P:Program) (w:World):Prop where
 t:Tb P w
 s:∃ (g:Nat) (tp:TypeId) (p:Value),P.globalNamed "strconv.ErrSyntax" = some g ∧ w.var? P "strconv.ErrSyntax" = some #[.iface tp p]
 r:∃ (g:Nat) (tp:TypeId) (p:Value),P.globalNamed "strconv.ErrRange" = some g ∧ w.var? P "strconv.ErrRange" = some #[.iface tp p]
theorem var_ext {n:String} {g:Nat} {cs:Array Value} (hg:P.globalNamed n = some g) (h:w.var? P n = some cs) (hE:Ext [] w w'):w'.var? P n = some cs:=by
 unfold World.var? at h ⊢
 rw [hg] at h ⊢
 simp only [Option.bind_eq_bind,Option.bind_some] at h ⊢
 cases hh:w.heap[g]? with
 | none=>simp [hh] at h
 | some o =>
  rw [hE.blk g (Array.getElem?_eq_some_iff.1 hh).1 (by simp),hh]
  rw [hh] at h
  exact h
theorem Te.ext (h:Te P w) (hE:Ext [] w w'):Te P w':=by
 obtain ⟨g1,t1,p1,a1,b1⟩:=h.s
 obtain ⟨g2,t2,p2,a2,b2⟩:=h.r
 exact ⟨h.t.ext hE,⟨g1,t1,p1,a1,var_ext a1 b1 hE⟩,⟨g2,t2,p2,a2,var_ext a2 b2 hE⟩⟩
theorem St.te (h:St [] w0 w M) (hT:Te P w0):Te P w:=hT.ext h.ext
theorem St.te2 (h:St [] w0 w M) (hT:Te P w0) (i:Nat) {F:List Nat} {u:World} (hi:M[i]? = some (F,u)):∀ w',Ext F w w' → Te P w':=fun w' hE =>
 hT.ext (h.ext.trans hE fun y hy=>.inr (h.fresh i hi y hy))
def atoiO (s:ByteArray):Option (Int × Bool):=if s.size ≤ 1048576 then some (match Lib.atoiAll s.data.toList with
 | .ok v=>(v,false)
 | .range=>(Lib.atoiSat s.data.toList,true)
 | _=>(0,true)) else none
def isErr (v:Value) (b:Bool):Prop:=(b = false ∧ v = .nilIface) ∨ (b = true ∧ ∃ t p,v = .iface t p)
theorem isErr.not {v:Value} {b:Bool} (h:isErr v b):v.oneCell' = true:=by
 rcases h with ⟨_,rfl⟩ | ⟨_,t,p,rfl⟩ <;> rfl
theorem r_err {v:Value} {b:Bool} (he:isErr v b) (hK:K N L a) {t t':TypeId} (hu:P.underlying t = some (.interface (P.methodsAt t))) {x:Operand} {c:Value}
    (ho:o.op = .binOp .neq t x (.const c) t') (h1:ev L x = some v) (h2:ev L (.const c) = some .nilIface):(execOp a.eval o).run P w = .ok (.value (.bool b)) w:=by
 rcases he with ⟨rfl,rfl⟩ | ⟨rfl,u,p,rfl⟩
 · have:=run_neq_nil_nil (P:=P) w t hu
   simp [execOp,ho,hK.ev h1,hK.ev h2,eqGuard,this]
 · have:=run_neq_held_nil (P:=P) w t u p hu
   simp [execOp,ho,hK.ev h1,hK.ev h2,eqGuard,this]
theorem ext_below (h:Below w.heap.size w w'):Ext [] w w':=⟨h.os,h.tape,h.output,h.size,fun k hk _=>h.block k hk⟩
theorem c_atoi {f:FuncId} {tb:TypeId}
    (hok:∀ (s:ByteArray),s.size ≤ 9223372036854775806 → ∀ (v:Int),Lib.atoiAll s.data.toList = .ok v → ∀ (w:World),Calls P f #[.string s] w fun e w'=>e = .returned (.tuple #[.int .i64 v,.nilIface]) ∧ (w' = w ∨ ∃ t,w' = Lib.bytesWorld w tb t))
    (hsy:∀ (s:ByteArray),s.size ≤ 281474976710656 → (∀ v,Lib.atoiAll s.data.toList ≠ .ok v) → Lib.atoiAll s.data.toList ≠ .range → ∀ (tp:TypeId) (p:Value) (w:World),w.var? P "strconv.ErrSyntax" = some #[.iface tp p] → Calls P f #[.string s] w fun e w'=>∃ t q,e = .returned (.tuple #[.int .i64 0,.iface t q]) ∧ Below w.heap.size w w')
    (hra:∀ (s:ByteArray),s.size ≤ 281474976710656 → Lib.atoiAll s.data.toList = .range → ∀ (tp:TypeId) (p:Value) (w:World),w.var? P "strconv.ErrRange" = some #[.iface tp p] → Calls P f #[.string s] w fun e w'=>∃ t q,e = .returned (.tuple #[.int .i64 (Lib.atoiSat s.data.toList),.iface t q]) ∧ Below w.heap.size w w')
    (hT:Te P w0) (s:ByteArray) {r:Int × Bool} (h:atoiO s = some r):Calls P f #[.string s] w0 fun e w=>∃ v,e = .returned (.tuple #[.int .i64 r.1,v]) ∧ Ext [] w0 w ∧ isErr v r.2:=by
 unfold atoiO at h
 split at h
 · rename_i hl
   simp only [Option.some.injEq] at h
   subst h
   cases ha:Lib.atoiAll s.data.toList
   case ok v =>
    refine (hok s (by omega) v ha w0).mono fun e w ⟨he,hw⟩=>⟨_,he,?_,.inl ⟨rfl,rfl⟩⟩
    rcases hw with rfl | ⟨t,rfl⟩
    · exact Ext.refl _ _
    · exact ext_below (Lib.bytesWorld_below _ _ _)
   case range =>
    obtain ⟨_,tp,p,_,hv⟩:=hT.r
    exact (hra s (by omega) ha tp p w0 hv).mono fun e w ⟨t,q,he,hb⟩=>⟨_,he,ext_below hb,.inr ⟨rfl,_,_,rfl⟩⟩
   · obtain ⟨_,tp,p,_,hv⟩:=hT.s
     exact (hsy s (by omega) (fun v h=>by rw [ha] at h; cases h) (fun h=>by rw [ha] at h; cases h) tp p w0 hv).mono fun e w ⟨t,q,he,hb⟩=>⟨_,he,ext_below hb,.inr ⟨rfl,_,_,rfl⟩⟩
 · simp at h
end
end Go.Proofs.YthkaklkinepfkaaGreatDoor
set_option linter.unusedSimpArgs false
set_option linter.unusedVariables false
namespace Go.Proofs.YthkaklkinepfkaaGreatDoor
open Go Go.RowKit
open Enc (rd ow)
end Go.Proofs.YthkaklkinepfkaaGreatDoor
set_option linter.unusedSimpArgs false
set_option linter.unusedVariables false
namespace Go.Proofs.YthkaklkinepfkaaGreatDoor
open Go Go.RowKit
open Enc (rd ow)
section
variable {P:Program} {ops:Array Oper} {Q:Exit → Act → World → Prop} {rest:List Oper} {o:Oper} {a:Act} {w:World} {N:Nat} {L:List (Nat × Value)}
variable {X:List Nat} {w0:World} {M:List (List Nat × World)} {d:Nat}
end
end Go.Proofs.YthkaklkinepfkaaGreatDoor
set_option linter.unusedSimpArgs false
set_option linter.unusedVariables false
namespace Go.Proofs.YthkaklkinepfkaaGreatDoor
open Go Go.RowKit
open Enc (rd ow)
section
variable {P:Program} {ops:Array Oper} {rest:List Oper} {o:Oper} {a:Act} {w w':World} {N:Nat} {L:List (Nat × Value)}
variable {X:List Nat} {w0:World} {M:List (List Nat × World)}
def cbx (w:World) (F:List Nat) (b1 b2:Nat) (e1 e2:TypeId) (g:Bool) (xs:List ByteArray):Prop :=
 ∃ (v:Value) (G:List Nat),bx w b1 [.bool g] e1 ∧ bx w b2 [v] e2 ∧ F = [b1] ++ ([b2] ++ G) ∧ ow w G [v] xs ∧ F.Nodup
theorem cbx.nd {F:List Nat} {b1 b2:Nat} {e1 e2:TypeId} {g:Bool} {xs:List ByteArray} (h:cbx w F b1 b2 e1 e2 g xs):F.Nodup:=by
 obtain ⟨_,_,_,_,_,_,h⟩:=h
 exact h
theorem cbx.lt {F:List Nat} {b1 b2:Nat} {e1 e2:TypeId} {g:Bool} {xs:List ByteArray} (h:cbx w F b1 b2 e1 e2 g xs):∀ y ∈ F,y < w.heap.size:=by
 obtain ⟨v,G,h1,h2,rfl,h3,_⟩:=h
 intro y hy
 simp only [List.mem_append,List.mem_singleton] at hy
 rcases hy with rfl | rfl | hy
 · exact lt_of_heap h1
 · exact lt_of_heap h2
 · exact Enc.rd_lt (Enc.ow_rd h3) y hy
theorem St.split3 {A F G:List Nat} {u:World} (h:St X w0 w ((A ++ (F ++ G),u) :: M)):St X w0 w ((A,u) :: (F,u) :: (G,u) :: M):=by
 have e:fps ((A,u) :: (F,u) :: (G,u) :: M) = fps ((A ++ (F ++ G),u) :: M):=by simp [fps]
 refine ⟨h.ext,?_,by rw [e]; exact h.lt,by rw [e]; exact h.lo,by rw [e]; exact h.nd⟩
 have h0:=h.ok _ (List.mem_cons_self)
 intro p hp
 simp only [List.mem_cons] at hp
 rcases hp with rfl | rfl | rfl | hp
 · exact h0.sub (fun b hb=>by simp [hb])
 · exact h0.sub (fun b hb=>by simp [hb])
 · exact h0.sub (fun b hb=>by simp [hb])
 · exact h.ok p (by simp [hp])
theorem cbx.start {F:List Nat} {b1 b2:Nat} {e1 e2:TypeId} {g:Bool} {xs:List ByteArray} (h:cbx w0 F b1 b2 e1 e2 g xs) :
    ∃ (v:Value) (G:List Nat),bx w0 b1 [.bool g] e1 ∧ bx w0 b2 [v] e2 ∧ ow w0 G [v] xs ∧ St F w0 w0 [([b1],w0),([b2],w0),(G,w0)]:=by
 have hl:=h.lt
 have hn:=h.nd
 obtain ⟨v,G,h1,h2,rfl,h3,_⟩:=h
 exact ⟨v,G,h1,h2,h3,(St.start1 w0 hl hn).split3⟩
theorem cbx.fin {G:List Nat} {b1 b2:Nat} {e1 e2:TypeId} {g:Bool} {xs:List ByteArray} {v:Value} (h1:bx w b1 [.bool g] e1) (h2:bx w b2 [v] e2) (h3:ow w G [v] xs) (hn:([b1] ++ ([b2] ++ G)).Nodup):cbx w ([b1] ++ ([b2] ++ G)) b1 b2 e1 e2 g xs :=
 ⟨_,_,h1,h2,rfl,h3,hn⟩
def joinO (xs:List ByteArray) (sep:ByteArray):Option ByteArray :=
 if xs.length ≤ 1000000 ∧ (Lib.join (xs.map (·.data.toList)) sep.data.toList).length ≤ 1000000000 then some ⟨(Lib.join (xs.map (·.data.toList)) sep.data.toList).toArray⟩ else none
theorem c_join {f:FuncId} (hn:∀ (a:Option Addr) (c:Nat) (sep:ByteArray) (w:World),Calls P f #[.slice a 0 c,.string sep] w fun e w'=>e = .returned (.string ⟨#[]⟩) ∧ w' = w)
    (hc:∀ (bk o c:Nat) (xs:List ByteArray) (sep:ByteArray) (w:World),(∀ (j:Nat) x,xs[j]? = some x → w.cell? ⟨bk,o + j,none⟩ = some (.string x)) → bk < w.heap.size → xs.length ≤ 140737488355328 → xs.length ≤ c →
     (Lib.join (xs.map (·.data.toList)) sep.data.toList).length ≤ 140737488355328 → Calls P f #[.slice (some ⟨bk,o,none⟩) xs.length c,.string sep] w fun e w'=>e = .returned (.string ⟨(Lib.join (xs.map (·.data.toList)) sep.data.toList).toArray⟩) ∧ Below w.heap.size w w')
    (xs:List ByteArray) (sep:ByteArray) {v:Value} {F:List Nat} (hr:rd w0 F [v] xs) {r:ByteArray} (h:joinO xs sep = some r):Calls P f #[v,.string sep] w0 fun e w=>e = .returned (.string r) ∧ Ext [] w0 w:=by
 unfold joinO at h
 split at h
 · rename_i hl
   simp only [Option.some.injEq] at h
   subst h
   have hget:∀ (j:Nat) (b:ByteArray),xs[j]? = some b → PtAt w0 (eAddr v 1 j) [.string b]:=fun j b hj=>(rd_getF hr hj).1
   obtain ⟨ao,cap,hvv,hcap,_,_,h4⟩:=hr
   simp only [List.cons.injEq,and_true] at hvv
   subst hvv
   rcases h4 with rfl | ⟨g,off,c,e',fr,rfl,_,hh,_⟩
   · exact (hn ao cap sep w0).mono fun e w ⟨he,hw⟩=>⟨by rw [he]; rfl,hw ▸ Ext.refl _ _⟩
   · refine (hc g off cap xs sep w0 (fun j x hj=>?_) (lt_of_heap hh) (by omega) hcap (by omega)).mono fun e w ⟨he,hb⟩=>⟨he,ext_below hb⟩
     have hp:=(hget j x hj).cell 0 _ rfl
     simp only [eAddr,add_none,Nat.mul_one,Nat.add_zero] at hp
     exact hp
 · simp at h
end
end Go.Proofs.YthkaklkinepfkaaGreatDoor
set_option linter.unusedSimpArgs false
set_option linter.unusedVariables false
namespace Go.Proofs.YthkaklkinepfkaaGreatDoor
open Go Go.RowKit
open Enc (rd ow)
inductive Fr where
 | sq (y:Code)
 | fn (R:Act → World → Prop)
 | bk (id:Nat)
def den (P:Program) (B:Exit → Act → World → Prop):List Fr → Exit → Act → World → Prop
 | []=>B
 | .sq y :: s=>Exit.then (fun a w=>y.wp P (den P B s) a w) (den P B s)
 | .fn R :: s=>Exit.then R (den P B s)
 | .bk id :: s=>Exit.inBlock id (den P B s)
inductive Cf where
 | ops (o:Array Oper) (l:List Oper)
 | code (c:Code)
 | ex (e:Exit)
 | pr (R:Act → World → Prop)
@[reducible] def tgt (P:Program) (B:Exit → Act → World → Prop):Cf → List Fr → Act → World → Prop
 | .ops o l,s,a,w=>wpList P o (den P B s) l a w
 | .code c,s,a,w=>c.wp P (den P B s) a w
 | .ex e,[],a,w=>B e a w
 | .ex e,s,a,w=>den P B s e a w
 | .pr R,_,a,w=>R a w
class Tys (P:Program) where
 fa:List (Nat × Nat × Nat)
 hfa:∀ x ∈ fa,FA P x.1 x.2.1 x.2.2
 ts:List (Nat × Nat)
 hts:∀ x ∈ ts,TS P x.1 x.2
 t1:List Nat
 ht1:∀ x ∈ t1,T1 P x
 ta:List (Nat × Nat)
 hta:∀ x ∈ ta,TA P x.1 x.2
 sl:List Nat
 hsl:∀ x ∈ sl,∃ e,P.underlying x = some (.slice e)
 hmx:P.follows .mixedOrders = true
def lk2:List (Nat × Nat) → Nat → Option Nat
 | [],_=>none
 | (x,y) :: r,t=>bif Nat.beq x t then some y else lk2 r t
def lk3:List (Nat × Nat × Nat) → Nat → Nat → Option Nat
 | [],_,_=>none
 | (x,y,n) :: r,t,f=>bif Nat.beq x t && Nat.beq y f then some n else lk3 r t f
def lk1:List Nat → Nat → Bool
 | [],_=>false
 | x :: r,t=>bif Nat.beq x t then true else lk1 r t
theorem lk2_mem:∀ {l:List (Nat × Nat)} {t y:Nat},lk2 l t = some y → (t,y) ∈ l
 | [],t,y,h=>by simp [lk2] at h
 | (x,z) :: r,t,y,h=>by
  unfold lk2 at h
  cases hb:Nat.beq x t
  · rw [hb] at h; exact List.mem_cons_of_mem _ (lk2_mem h)
  · rw [hb] at h
    have:=Nat.eq_of_beq_eq_true hb
    subst this
    simp only [cond_true,Option.some.injEq] at h
    subst h; simp
theorem lk3_mem:∀ {l:List (Nat × Nat × Nat)} {t f y:Nat},lk3 l t f = some y → (t,f,y) ∈ l
 | [],t,f,y,h=>by simp [lk3] at h
 | (x,g,z) :: r,t,f,y,h=>by
  unfold lk3 at h
  cases hb:Nat.beq x t && Nat.beq g f
  · rw [hb] at h; exact List.mem_cons_of_mem _ (lk3_mem h)
  · rw [hb] at h
    simp only [Bool.and_eq_true] at hb
    have e1:=Nat.eq_of_beq_eq_true hb.1
    have e2:=Nat.eq_of_beq_eq_true hb.2
    subst e1 e2
    simp only [cond_true,Option.some.injEq] at h
    subst h; simp
theorem lk1_mem:∀ {l:List Nat} {t:Nat},lk1 l t = true → t ∈ l
 | [],t,h=>by simp [lk1] at h
 | x :: r,t,h=>by
  unfold lk1 at h
  cases hb:Nat.beq x t
  · rw [hb] at h; exact List.mem_cons_of_mem _ (lk1_mem h)
  · have:=Nat.eq_of_beq_eq_true hb
    subst this; simp
theorem Ext.agr0 {w w':World} {F:List Nat} (h:Ext [] w w') (hl:∀ b ∈ F,b < w.heap.size):Agr F w w':=fun b hb=>h.blk b (hl b hb) (by simp)
theorem PtAt.ext {w w':World} {p:Addr} {cs:List Value} (h:PtAt w p cs) (hE:Ext [] w w'):PtAt w' p cs:=by
 obtain ⟨g,off,c,e,fr,rfl,hh,hc⟩:=h
 have hl:g < w.heap.size:=(Array.getElem?_eq_some_iff.1 hh).1
 exact ⟨g,off,c,e,fr,rfl,(hE.blk g hl (by simp)).trans hh,hc⟩
structure Fx (P:Program) (w:World) where
 f:List (Nat × Value) → Op → Option (Value × List (Option Value × Option Value))
 ok:∀ {N:Nat} {L:List (Nat × Value)} {a:Act} {o:Oper} {v:Value} {xs:List (Option Value × Option Value)},K N L a → f L o.op = some (v,xs) → (∀ p ∈ xs,p.1 = p.2) → ∀ {w':World},Ext [] w w' → (execOp a.eval o).run P w' = .ok (.value v) w'
theorem tgt_ex {P:Program} {w:World} {B:Exit → Act → World → Prop} {e:Exit} {s:List Fr} {a:Act}:tgt P B (.ex e) s a w ↔ den P B s e a w:=by
 cases s <;> exact Iff.rfl
section
variable {P:Program} [T:Tys P] {w u w0:World} {X:List Nat} {M:List (List Nat × World)} {F:List Nat}
def fieldOp (P:Program) [T:Tys P] (L:List (Nat × Value)):Op → Option Value
 | .fieldAddr t x f=>match lk3 T.fa t f with
  | some off=>match ev L x with
   | some (.pointer (some p))=>some (.pointer (some (p.add off)))
   | _=>none
  | none=>none
 | .nilCheck x=>match ev L x with
  | some (.pointer (some p))=>some (.pointer (some p))
  | _=>none
 | _=>none
theorem fieldOp_run {N:Nat} {L:List (Nat × Value)} {a:Act} {o:Oper} {v:Value} (hK:K N L a) (h:fieldOp P L o.op = some v):(execOp a.eval o).run P w = .ok (.value v) w:=by
 unfold fieldOp at h
 split at h
 · rename_i t x f ho
   split at h
   · rename_i off hl
     split at h
     · rename_i p hv
       cases h
       exact r_fa (T.hfa _ (lk3_mem hl)) hK ho hv
     · cases h
   · cases h
 · rename_i x ho
   split at h
   · rename_i p hv
     cases h
     exact r_nil hK ho hv
   · cases h
 · cases h
def iF {α:Type} [Enc α] {v:Value} {xs:List α} {n:Int} {y:α} (hf:rd u F [v] xs) (hx:ix xs n = some y):Fx P w where
 f:=fun L o=>match o with
  | .indexAddr t x i=>match lk2 T.ts t with
   | some s=>bif Nat.beq s (Enc.sz α) then match ev L i with
    | some (.int k m)=>some (.pointer (some (eAddr v (Enc.sz α) n.toNat)),[(ev L x,some v),(some (.int k m),some (.int k n))])
    | _=>none else none
   | none=>none
  | _=>none
 ok:=by
  intro N L a o v' xs' hK h e w' hE
  split at h
  · rename_i t x i ho
    split at h
    · rename_i s hl
      cases hb:Nat.beq s (Enc.sz α)
      · rw [hb] at h; cases h
      · rw [hb] at h
        have:=Nat.eq_of_beq_eq_true hb
        subst this
        simp only [cond_true] at h
        split at h
        · rename_i k m hv
          cases h
          simp only [List.mem_cons,List.not_mem_nil,or_false,forall_eq_or_imp,forall_eq] at e
          exact r_ixa hf hx hK (T.hts _ (lk2_mem hl)) ho e.1 (hv.trans e.2)
        · cases h
    · cases h
  · cases h
def eF {α:Type} [Flat α] {v:Value} {xs:List α} {n:Int} {y:α} (hf:rd w F [v] xs) (hx:ix xs n = some y) (off:Nat):Fx P w where
 f:=fun L o=>match o with
  | .load t x=>bif lk1 T.t1 t then match (Flat.e y)[off]? with
      | some c=>some (c,[(ev L x,some (.pointer (some ((eAddr v (Flat.sz α) n.toNat).add off))))])
      | none=>none else none
  | _=>none
 ok:=by
  intro N L a o v' xs' hK h e w' hE
  split at h
  · rename_i t x ho
    cases hb:lk1 T.t1 t
    · rw [hb] at h; cases h
    · rw [hb] at h
      simp only [cond_true] at h
      split at h
      · rename_i c hc
        cases h
        simp only [List.mem_cons,List.not_mem_nil,or_false,forall_eq_or_imp,forall_eq] at e
        exact r_lde1 hf (hE.agr0 (Enc.rd_lt hf)) hx off (T.ht1 _ (lk1_mem hb)) hK ho e rfl hc
      · cases h
  · cases h
def eA {α:Type} [Flat α] {v:Value} {xs:List α} {n:Int} {y:α} (hf:rd w F [v] xs) (hx:ix xs n = some y):Fx P w where
 f:=fun L o=>match o with
  | .load t x=>match lk2 T.ta t with
   | some s=>bif Nat.beq s (Flat.sz α) then some (.agg (Flat.e y).toArray,[(ev L x,some (.pointer (some (eAddr v (Flat.sz α) n.toNat))))]) else none
   | none=>none
  | _=>none
 ok:=by
  intro N L a o v' xs' hK h e w' hE
  split at h
  · rename_i t x ho
    split at h
    · rename_i s hl
      cases hb:Nat.beq s (Flat.sz α)
      · rw [hb] at h; cases h
      · rw [hb] at h
        have:=Nat.eq_of_beq_eq_true hb
        subst this
        simp only [cond_true] at h
        cases h
        simp only [List.mem_cons,List.not_mem_nil,or_false,forall_eq_or_imp,forall_eq] at e
        exact r_lde hf (hE.agr0 (Enc.rd_lt hf)) hx (T.hta _ (lk2_mem hl)) hK ho e
    · cases h
  · cases h
def bF {b:Nat} {cs:List Value} {e:TypeId} (hM:St X w0 w M) (i:Nat) (hb:bx u b cs e) (hi:M[i]? = some ([b],u)):Fx P w where
 f:=fun L o=>match o with
  | .load t x=>bif lk1 T.t1 t then match ev L x with
   | some (.pointer (some p))=>match cs[p.off]? with
    | some c=>some (c,[(some (.pointer (some p)),some (.pointer (some ((⟨b,0,none⟩:Addr).add p.off))))])
    | none=>none
   | _=>none else none
  | _=>none
 ok:=by
  intro N L a o v' xs' hK h e w' hE
  split at h
  · rename_i t x ho
    cases hb':lk1 T.t1 t
    · rw [hb'] at h; cases h
    · rw [hb'] at h
      simp only [cond_true] at h
      split at h
      · rename_i p hv
        split at h
        · rename_i c hc
          cases h
          simp only [List.mem_cons,List.not_mem_nil,or_false,forall_eq_or_imp,forall_eq,Option.some.injEq,Value.pointer.injEq] at e
          exact r_ldb (T.ht1 _ (lk1_mem hb')) (hM.step hE) i hb _ hK hi ho hv e hc
        · cases h
      · cases h
  · cases h
def bA {b:Nat} {cs:List Value} {e:TypeId} (hM:St X w0 w M) (i:Nat) (hb:bx u b cs e) (hi:M[i]? = some ([b],u)):Fx P w where
 f:=fun L o=>match o with
  | .load t x=>match lk2 T.ta t with
   | some n=>match ev L x with
    | some (.pointer (some p))=>bif Nat.beq ((cs.drop p.off).take n).length n then some (.agg ((cs.drop p.off).take n).toArray,[(some (.pointer (some p)),some (.pointer (some ((⟨b,0,none⟩:Addr).add p.off))))]) else none
    | _=>none
   | none=>none
  | _=>none
 ok:=by
  intro N L a o v' xs' hK h e w' hE
  split at h
  · rename_i t x ho
    split at h
    · rename_i n hl
      split at h
      · rename_i p hv
        cases hb':Nat.beq ((cs.drop p.off).take n).length n
        · rw [hb'] at h; cases h
        · rw [hb'] at h
          simp only [cond_true] at h
          cases h
          simp only [List.mem_cons,List.not_mem_nil,or_false,forall_eq_or_imp,forall_eq,Option.some.injEq,Value.pointer.injEq] at e
          exact r_ldB (T.hta _ (lk2_mem hl)) (hM.step hE) i hb _ hK hi ho hv e rfl (Nat.eq_of_beq_eq_true hb')
      · cases h
    · cases h
  · cases h
def pF {p:Addr} {c:Value} {r:List Value} (hp:PtAt w p (c :: r)):Fx P w where
 f:=fun L o=>match o with
  | .load t x=>bif lk1 T.t1 t then some (c,[(ev L x,some (.pointer (some p)))]) else none
  | _=>none
 ok:=by
  intro N L a o v' xs' hK h e w' hE
  split at h
  · rename_i t x ho
    cases hb':lk1 T.t1 t
    · rw [hb'] at h; cases h
    · rw [hb'] at h
      simp only [cond_true] at h
      cases h
      simp only [List.mem_cons,List.not_mem_nil,or_false,forall_eq_or_imp,forall_eq] at e
      exact r_ld1 (T.ht1 _ (lk1_mem hb')) (hp.ext hE) hK ho e
  · cases h
def lF {α:Type} [Enc α] {v:Value} {xs:List α} (hf:rd u F [v] xs):Fx P w where
 f:=fun L o=>match o with
  | .call { callee:=.builtin .len,args:=⟨[x]⟩,argTypes:=⟨[t]⟩ }=>bif lk1 T.sl t then some (.int .i64 (xs.length:Int),[(ev L x,some v)]) else none
  | _=>none
 ok:=by
  intro N L a o v' xs' hK h e w' hE
  split at h
  · rename_i x t ho
    cases hb':lk1 T.sl t
    · rw [hb'] at h; cases h
    · rw [hb'] at h
      simp only [cond_true] at h
      cases h
      simp only [List.mem_cons,List.not_mem_nil,or_false,forall_eq_or_imp,forall_eq] at e
      obtain ⟨e',hu⟩:=T.hsl _ (lk1_mem hb')
      exact r_len hf hK hu ho e
  · cases h
structure Cfg (P:Program) (w:World) where
 c:Cf
 s:List Fr
 L:List (Nat × Value)
 fs:List (Fx P w)
 xs:List (Option Value × Option Value)
def step (N:Nat):Cfg P w → Option (Cfg P w)
 | ⟨.ops o [],s,L,fs,xs⟩=>some ⟨.ex .normal,s,L,fs,xs⟩
 | ⟨.ops o (q :: r),s,L,fs,xs⟩=>match q.dst with
  | none=>none
  | some d=>bif Nat.blt d N then (match gd L o q.guard with
   | none=>none
   | some false=>some ⟨.ops o r,s,(d,undef) :: L,fs,xs⟩
   | some true=>match pureOp L q.op with
    | some v=>some ⟨.ops o r,s,(d,v) :: L,fs,xs⟩
    | none=>match fieldOp P L q.op with
     | some v=>some ⟨.ops o r,s,(d,v) :: L,fs,xs⟩
     | none=>match fs with
      | []=>none
      | f :: fs=>match f.f L q.op with
       | some (v,x)=>some ⟨.ops o r,s,(d,v) :: L,fs,x ++ xs⟩
       | none=>none) else none
 | ⟨.code c,s,L,fs,xs⟩=>match c with
  | .seq x y=>some ⟨.code x,.sq y :: s,L,fs,xs⟩
  | .region _ ⟨l⟩ false=>some ⟨.ops l.toArray l,s,L,fs,xs⟩
  | .block id c=>some ⟨.code c,.bk id :: s,L,fs,xs⟩
  | .cond t x y=>match ev L t with
   | some (.bool true)=>some ⟨.code x,s,L,fs,xs⟩
   | some (.bool false)=>some ⟨.code y,s,L,fs,xs⟩
   | _=>none
  | .skip=>some ⟨.ex .normal,s,L,fs,xs⟩
  | .exit id=>some ⟨.ex (.exit id),s,L,fs,xs⟩
  | .ret=>some ⟨.ex .ret,s,L,fs,xs⟩
  | _=>none
 | ⟨.ex .normal,.sq y :: s,L,fs,xs⟩=>some ⟨.code y,s,L,fs,xs⟩
 | ⟨.ex .normal,.fn R :: s,L,fs,xs⟩=>some ⟨.pr R,s,L,fs,xs⟩
 | ⟨.ex .normal,.bk _ :: s,L,fs,xs⟩=>some ⟨.ex .normal,s,L,fs,xs⟩
 | ⟨.ex (.exit i),.bk id :: s,L,fs,xs⟩=>bif Nat.beq i id then some ⟨.ex .normal,s,L,fs,xs⟩ else some ⟨.ex (.exit i),s,L,fs,xs⟩
 | ⟨.ex (.exit i),.sq _ :: s,L,fs,xs⟩=>some ⟨.ex (.exit i),s,L,fs,xs⟩
 | ⟨.ex (.exit i),.fn _ :: s,L,fs,xs⟩=>some ⟨.ex (.exit i),s,L,fs,xs⟩
 | ⟨.ex .ret,_ :: s,L,fs,xs⟩=>some ⟨.ex .ret,s,L,fs,xs⟩
 | _=>none
def run (N:Nat):Nat → Cfg P w → Option (Cfg P w)
 | 0,c=>some c
 | n + 1,c=>match step N c with
  | some c=>run N n c
  | none=>none
def fsts:List (Option Value × Option Value) → List (Option Value)
 | []=>[]
 | p :: r=>p.1 :: fsts r
def snds:List (Option Value × Option Value) → List (Option Value)
 | []=>[]
 | p :: r=>p.2 :: snds r
theorem fs_all:∀ {l:List (Option Value × Option Value)},fsts l = snds l → ∀ p ∈ l,p.1 = p.2
 | [],_,p,h=>by simp at h
 | q :: r,e,p,h=>by
  simp only [fsts,snds,List.cons.injEq] at e
  rcases List.mem_cons.1 h with rfl | h
  · exact e.1
  · exact fs_all e.2 p h
theorem step_ok {B:Exit → Act → World → Prop} {N:Nat} {c c':Cfg P w} (h:step N c = some c') (ho:∀ p ∈ c'.xs,p.1 = p.2) :
    (∀ p ∈ c.xs,p.1 = p.2) ∧ ∀ {a:Act},K N c.L a → (∀ {a},K N c'.L a → tgt P B c'.c c'.s a w) → tgt P B c.c c.s a w:=by
 unfold step at h
 split at h
 · rename_i o s L fs xs
   cases h
   exact ⟨ho,fun hK k=>wpList_nil (tgt_ex.1 (k hK))⟩
 · rename_i o q r s L fs xs
   cases hd:q.dst with
   | none=>rw [hd] at h; cases h
   | some d =>
    rw [hd] at h
    simp only at h
    cases hN:Nat.blt d N
    · rw [hN] at h; cases h
    · rw [hN] at h
      simp only [cond_true] at h
      split at h
      · cases h
      · rename_i hg
        cases h
        exact ⟨ho,fun hK k=>sk hK hg hd hN fun a hK=>k hK⟩
      · rename_i hg
        split at h
        · rename_i v hp
          cases h
          exact ⟨ho,fun hK k=>s1 hK hg hd hN hp fun a hK=>k hK⟩
        · split at h
          · rename_i v hp
            cases h
            exact ⟨ho,fun hK k=>s_val hK hg hd hN (fieldOp_run hK hp) fun a hK=>k hK⟩
          · split at h
            · cases h
            · rename_i f fs
              split at h
              · rename_i v x hf
                cases h
                simp only [List.mem_append] at ho
                exact ⟨fun p hp=>ho p (.inr hp),fun hK k=>s_val hK hg hd hN (f.ok hK hf (fun p hp=>ho p (.inl hp)) (Ext.refl _ _)) fun a hK=>k hK⟩
              · cases h
 · rename_i c s L fs xs
   split at h
   · cases h; exact ⟨ho,fun hK k=>wp_seq (k hK)⟩
   · cases h; exact ⟨ho,fun hK k=>wp_region_lit (k hK)⟩
   · cases h; exact ⟨ho,fun hK k=>wp_block (k hK)⟩
   · split at h
     · rename_i hv
       cases h; exact ⟨ho,fun hK k=>wp_cond_true (hK.ev hv) (k hK)⟩
     · rename_i hv
       cases h; exact ⟨ho,fun hK k=>wp_cond_false (hK.ev hv) (k hK)⟩
     · cases h
   · cases h; exact ⟨ho,fun hK k=>wp_skip (tgt_ex.1 (k hK))⟩
   · cases h; exact ⟨ho,fun hK k=>wp_exit (tgt_ex.1 (k hK))⟩
   · cases h; exact ⟨ho,fun hK k=>wp_ret (tgt_ex.1 (k hK))⟩
   · cases h
 · cases h; exact ⟨ho,fun hK k=>nm_then (k hK)⟩
 · cases h; exact ⟨ho,fun hK k=>nm_then (k hK)⟩
 · cases h; exact ⟨ho,fun hK k=>nm_block (tgt_ex.1 (k hK))⟩
 · rename_i i id s L fs xs
   cases hb:Nat.beq i id
   · rw [hb] at h
     cases h
     exact ⟨ho,fun hK k=>ex_other hb (tgt_ex.1 (k hK))⟩
   · rw [hb] at h
     cases h
     have:=Nat.eq_of_beq_eq_true hb
     subst this
     exact ⟨ho,fun hK k=>ex_same (tgt_ex.1 (k hK))⟩
 · cases h; exact ⟨ho,fun hK k=>ex_then (tgt_ex.1 (k hK))⟩
 · cases h; exact ⟨ho,fun hK k=>ex_then (tgt_ex.1 (k hK))⟩
 · rename_i f s L fs xs
   cases h
   refine ⟨ho,fun hK k=>?_⟩
   have:=tgt_ex.1 (k hK)
   cases f
   · exact rt_then this
   · exact rt_then this
   · exact rt_block this
 · cases h
theorem run_ok {B:Exit → Act → World → Prop} {N:Nat}:∀ (n:Nat) {c c':Cfg P w},run N n c = some c' → (∀ p ∈ c'.xs,p.1 = p.2) →
    (∀ p ∈ c.xs,p.1 = p.2) ∧ ∀ {a:Act},K N c.L a → (∀ {a},K N c'.L a → tgt P B c'.c c'.s a w) → tgt P B c.c c.s a w
 | 0,c,c',h,ho=>by
  cases h
  exact ⟨ho,fun hK k=>k hK⟩
 | n + 1,c,c',h,ho=>by
  unfold run at h
  split at h
  · rename_i c1 h1
    have h2:=run_ok (B:=B) n h ho
    have h3:=step_ok (B:=B) h1 h2.1
    exact ⟨h3.1,fun hK k=>h3.2 hK fun hK=>h2.2 hK k⟩
  · cases h
theorem gl {B:Exit → Act → World → Prop} {N:Nat} (n:Nat) (fs:List (Fx P w)) {o:Array Oper} {l:List Oper} {s s':List Fr} {L L':List (Nat × Value)} {a:Act} {c':Cf} {fs':List (Fx P w)} {xs:List (Option Value × Option Value)}
    (hK:K N L a) (h:(run N n ⟨.ops o l,s,L,fs,[]⟩,fsts xs) = (some ⟨c',s',L',fs',xs⟩,snds xs)) (k:∀ {a},K N L' a → tgt P B c' s' a w):wpList P o (den P B s) l a w :=
 (run_ok (B:=B) n (congrArg Prod.fst h) (fs_all (congrArg Prod.snd h))).2 hK k
theorem gc {B:Exit → Act → World → Prop} {N:Nat} (n:Nat) (fs:List (Fx P w)) {c:Code} {s s':List Fr} {L L':List (Nat × Value)} {a:Act} {c':Cf} {fs':List (Fx P w)} {xs:List (Option Value × Option Value)}
    (hK:K N L a) (h:(run N n ⟨.code c,s,L,fs,[]⟩,fsts xs) = (some ⟨c',s',L',fs',xs⟩,snds xs)) (k:∀ {a},K N L' a → tgt P B c' s' a w):c.wp P (den P B s) a w :=
 (run_ok (B:=B) n (congrArg Prod.fst h) (fs_all (congrArg Prod.snd h))).2 hK k
theorem ul {B:Exit → Act → World → Prop} {N:Nat} (n:Nat) {o:Array Oper} {l:List Oper} {s s':List Fr} {L L':List (Nat × Value)} {a:Act} {c':Cf}
    (hK:K N L a) (h:run N n (⟨.ops o l,s,L,[],[]⟩:Cfg P w) = some ⟨c',s',L',[],[]⟩) (k:∀ {a},K N L' a → tgt P B c' s' a w):wpList P o (den P B s) l a w :=
 (run_ok (B:=B) n h (by simp)).2 hK k
theorem uc {B:Exit → Act → World → Prop} {N:Nat} (n:Nat) {c:Code} {s s':List Fr} {L L':List (Nat × Value)} {a:Act} {c':Cf}
    (hK:K N L a) (h:run N n (⟨.code c,s,L,[],[]⟩:Cfg P w) = some ⟨c',s',L',[],[]⟩) (k:∀ {a},K N L' a → tgt P B c' s' a w):c.wp P (den P B s) a w :=
 (run_ok (B:=B) n h (by simp)).2 hK k
theorem ue {B:Exit → Act → World → Prop} {N:Nat} (n:Nat) {e:Exit} {s s':List Fr} {L L':List (Nat × Value)} {a:Act} {c':Cf}
    (hK:K N L a) (h:run N n (⟨.ex e,s,L,[],[]⟩:Cfg P w) = some ⟨c',s',L',[],[]⟩) (k:∀ {a},K N L' a → tgt P B c' s' a w):den P B s e a w :=
 tgt_ex.1 ((run_ok (B:=B) n h (by simp)).2 hK k)
def drun (N:Nat) (ops:Array Oper):List Nat → List (Nat × Value) → List (Fx P w) → List (Option Value × Option Value) → Option (List (Nat × Value) × List (Fx P w) × List (Option Value × Option Value))
 | [],L,fs,xs=>some (L,fs,xs)
 | i :: is,L,fs,xs=>match ops[i]? with
  | none=>none
  | some q=>match q.dst with
   | none=>none
   | some d=>bif Nat.blt d N then (match gd L ops q.guard with
    | none=>none
    | some false=>drun N ops is ((d,undef) :: L) fs xs
    | some true=>match pureOp L q.op with
     | some v=>drun N ops is ((d,v) :: L) fs xs
     | none=>match fieldOp P L q.op with
      | some v=>drun N ops is ((d,v) :: L) fs xs
      | none=>match fs with
       | []=>none
       | f :: fs=>match f.f L q.op with
        | some (v,x)=>drun N ops is ((d,v) :: L) fs (x ++ xs)
        | none=>none) else none
theorem drun_sub {N:Nat} {ops:Array Oper}:∀ (is:List Nat) {L L':List (Nat × Value)} {fs fs':List (Fx P w)} {xs xs':List (Option Value × Option Value)},drun N ops is L fs xs = some (L',fs',xs') → ∀ p ∈ xs,p ∈ xs'
 | [],L,L',fs,fs',xs,xs',h=>by
  simp only [drun,Option.some.injEq,Prod.mk.injEq] at h
  rw [h.2.2]; exact fun p h=>h
 | i :: is,L,L',fs,fs',xs,xs',h=>by
  unfold drun at h
  split at h
  · cases h
  · split at h
    · cases h
    · rename_i d hd
      cases hN:Nat.blt d N
      · rw [hN] at h; cases h
      · rw [hN] at h
        simp only [cond_true] at h
        split at h
        · cases h
        · exact drun_sub is h
        · split at h
          · exact drun_sub is h
          · split at h
            · exact drun_sub is h
            · split at h
              · cases h
              · split at h
                · exact fun p hp=>drun_sub is h p (List.mem_append_right _ hp)
                · cases h
theorem drun_ok {Q:Exit → Act → World → Prop} {N:Nat} {ops:Array Oper} {w1:World} (s:Ext [] w w1):∀ (is:List Nat) (n:Nat) {fuel:Nat} {listed:Array Bool} {L L':List (Nat × Value)} {a:Act} {fs fs':List (Fx P w)} {xs xs':List (Option Value × Option Value)},is.length = n → K N L a →
    drun N ops is L fs xs = some (L',fs',xs') → (∀ p ∈ xs',p.1 = p.2) → okN ops listed is = true → (∀ c (a:Act) d v w,Q (.panic c) (a.put (some d) v) w → Q (.panic c) a w) →
    (∀ {a},K N L' a → wpAnyH P .any ops Q (Ext [] w) fuel (setN listed is) a w1) → wpAnyH P .any ops Q (Ext [] w) (fuel + n) listed a w1
 | [],n,fuel,listed,L,L',a,fs,fs',xs,xs',hn,hK,h,hx,ho,hQ,k=>by
  subst hn
  simp only [drun,Option.some.injEq,Prod.mk.injEq] at h
  rw [← h.1] at k
  exact k hK
 | i :: is,n,fuel,listed,L,L',a,fs,fs',xs,xs',hn,hK,h,hx,ho,hQ,k=>by
  subst hn
  unfold okN at ho
  simp only [Bool.and_eq_true] at ho
  unfold drun at h
  split at h
  · cases h
  · rename_i q hi
    split at h
    · cases h
    · rename_i d hd
      cases hN:Nat.blt d N
      · rw [hN] at h; cases h
      · rw [hN] at h
        simp only [cond_true] at h
        have hQ':∀ {v:Value},∀ c (a:Act) w,Q (.panic c) (a.put q.dst v) w → Q (.panic c) a w:=fun c a w=>by rw [hd]; exact hQ c a d _ w
        split at h
        · cases h
        · rename_i hg
          exact d_skip hK i hi (okD_iff ho.1).1 (okD_iff ho.1).2.1 (okD_iff ho.1).2.2 hg hd hN s hQ' fun a hK=>drun_ok s is _ rfl hK h hx ho.2 hQ k
        · rename_i hg
          split at h
          · rename_i v hp
            exact d_pure hK i hi (okD_iff ho.1).1 (okD_iff ho.1).2.1 (okD_iff ho.1).2.2 hg hd hN s hQ' hp fun a hK=>drun_ok s is _ rfl hK h hx ho.2 hQ k
          · split at h
            · rename_i v hp
              exact d_take hK i hi (okD_iff ho.1).1 (okD_iff ho.1).2.1 (okD_iff ho.1).2.2 hg hd hN s hQ' (fun w _=>fieldOp_run hK hp) fun a hK=>drun_ok s is _ rfl hK h hx ho.2 hQ k
            · split at h
              · cases h
              · rename_i f fs
                split at h
                · rename_i v x hf
                  have hs:=drun_sub is h
                  exact d_take hK i hi (okD_iff ho.1).1 (okD_iff ho.1).2.1 (okD_iff ho.1).2.2 hg hd hN s hQ' (fun w' hE=>f.ok hK hf (fun p hp=>hx p (hs p (List.mem_append_left _ hp))) hE) fun a hK=>drun_ok s is _ rfl hK h hx ho.2 hQ k
                · cases h
theorem dr {Q:Exit → Act → World → Prop} {N:Nat} {ops:Array Oper} {w1:World} (is:List Nat) (n:Nat) (fs:List (Fx P w)) {fuel:Nat} {listed:Array Bool} {L L':List (Nat × Value)} {a:Act} {fs':List (Fx P w)} {xs:List (Option Value × Option Value)}
    (hK:K N L a) (h:(is.length,drun N ops is L fs [],fsts xs) = (n,some (L',fs',xs),snds xs)) (s:Ext [] w w1) (k:∀ {a},K N L' a → wpAnyH P .any ops Q (Ext [] w) fuel (setN listed is) a w1)
    (ho:okN ops listed is = true:=by kernel_rfl) (hQ:∀ c (a:Act) d v w,Q (.panic c) (a.put (some d) v) w → Q (.panic c) a w:=by exact fun _ _ _ _ _=>id):wpAnyH P .any ops Q (Ext [] w) (fuel + n) listed a w1:=by
 simp only [Prod.mk.injEq] at h
 exact drun_ok s is n h.1 hK h.2.1 (fs_all h.2.2) ho hQ k
end
section
variable {P:Program} {w u w0:World} {X:List Nat} {M:List (List Nat × World)} {F:List Nat}
theorem K.p {N:Nat} {L L':List (Nat × Value)} {a:Act} (h:K N L a) (hk:keepL L (L'.map Prod.fst) = some L'):K N L' a:=h.keep _ hk
theorem bS {α:Type} {b:Bool} {p q r:α} {G:Prop} {N:Nat} {L:List (Nat × Value)} {a:Act} (h:(bif b then p else q) = r) (hK:K N L a) (d:Nat) (hl:lk L d = some (.bool b))
    (ht:b = true → p = r → K N ((d,.bool true) :: L) a → G) (hf:b = false → q = r → K N ((d,.bool false) :: L) a → G):G:=by
 cases hb:b
 · exact hf hb (bif_f hb h) (hK.rb d hl hb)
 · exact ht hb (bif_t hb h) (hK.rb d hl hb)
theorem cJ {α:Type} {b:Bool} {p q r:α} {Q:Exit → Act → World → Prop} {N:Nat} {L:List (Nat × Value)} {a:Act} {x y:Code} {t:Operand} (h:(bif b then p else q) = r) (hK:K N L a) (hc:ev L t = some (.bool b)) (ht:p = r → x.wp P Q a w) (hf:q = r → y.wp P Q a w) :
    (Code.cond t x y).wp P Q a w:=cI h hK hc (fun _=>ht) (fun _=>hf)
theorem o2 {α β γ:Type} {m:Option α} {n:α → Option β} {k:α → β → Option γ} {r:γ} {p:Prop} (h:(obind m fun x=>obind (n x) (k x)) = some r) (hp:∀ x,m = some x → ∀ y,n x = some y → k x y = some r → p):p :=
 oE h fun x h1 h2=>oE h2 fun y h3 h4=>hp x h1 y h3 h4
theorem lG {B:Exit → Act → World → Prop} {s:List Fr} {c:Code} {a:Act} (I:Nat → Act → World → Prop)
    (round:∀ n a w,I (n + 1) a w → c.wp P (den P B (.fn (I n) :: s)) a w) (n:Nat) (hI:I n a w) (h0:∀ a w,¬ I 0 a w:=by
     intro a w h
     repeat (first | exact nS h | obtain ⟨_,h⟩:=h)):(Code.loop c).wp P (den P B s) a w:=c_loop I h0 round n a w hI
theorem eg {f:FuncId} {fn:Func} {c:Code} {R:Ending → World → Prop} {N:Nat} {vs:List Value}
    (hf:P.funcs[f]? = some fn) (hb:fn.body = some c) (hn:fn.ntmps = N) (hle:Nat.ble vs.length N = true)
    (h:∀ {a},K N (argL 0 vs) a → St [] w w [] → c.wp P (den P (bodyPost P fn R) []) a w):Calls P f vs.toArray w R:=enter hf hb hn hle fun a k=>h k (St.start w)
theorem cg {B:Exit → Act → World → Prop} {s:List Fr} {x y:Code} {a:Act} (R:Act → World → Prop) (hy:∀ a w,R a w → y.wp P (den P B s) a w) (hx:x.wp P (den P B (.fn R :: s)) a w):(Code.seq x y).wp P (den P B s) a w:=c_cut R hy hx
section
variable {ops:Array Oper} {Q:Exit → Act → World → Prop} {rest:List Oper} {o:Oper} {a:Act} {N d:Nat} {L:List (Nat × Value)}
theorem sL {α:Type} [Enc α] {r:α} (hK:K N L a) (hM:St X w0 w M) {f:FuncId} {xs:List Operand} {vs:List Value} {tys:Array TypeId}
    (hcall:∀ (args:Array Value) (w:World),(callFunc f args).run P w = .ok (.enter f args) w)
    (h1:(gd L ops o.guard,o.dst,Nat.blt d N,o.op,evs L xs) = (some true,some d,true,.call { callee:=.value (.func f),args:=xs.toArray,argTypes:=tys },some vs))
    (hc:Calls P f vs.toArray w fun e w'=>∃ (v:Value) (G:List Nat),e = .returned v ∧ Ext [] w w' ∧ ow w' G [v] r ∧ ∀ b ∈ G,w.heap.size ≤ b)
    (hR:∀ {a} w' v G,ow w' G [v] r → K N ((d,v) :: L) a → St X w0 w' ((G,w') :: M) → wpList P ops Q rest a w'):wpList P ops Q (o :: rest) a w :=
 sC hK hcall h1 hc fun e w' ⟨v,G,h2,hE,ho,hf⟩=>⟨v,h2,fun _ k=>hR w' v G ho k (hM.nw hE hf ho)⟩
theorem sU {T:World → Prop} (hK:K N L a) (hM:St X w0 w M) (i:Nat) {f:FuncId} {xs:List Operand} {vs:List Value} {v:Value} {tys:Array TypeId}
    (hcall:∀ (args:Array Value) (w:World),(callFunc f args).run P w = .ok (.enter f args) w)
    (h1:(gd L ops o.guard,o.dst,Nat.blt d N,o.op,evs L xs,M[i]?) = (some true,some d,true,.call { callee:=.value (.func f),args:=xs.toArray,argTypes:=tys },some vs,some (F,u)))
    (hc:Calls P f vs.toArray w fun e w'=>e = .returned v ∧ Ext F w w' ∧ T w')
    (hR:∀ {a} w',T w' → K N ((d,v) :: L) a → St X w0 w' (M.set i (F,w')) → wpList P ops Q rest a w'):wpList P ops Q (o :: rest) a w:=by
 simp only [Prod.mk.injEq] at h1
 obtain ⟨a1,a2,a3,a4,a5,a6⟩:=h1
 exact s_call hK hcall a1 a2 a3 a4 a5 hc fun e w' ⟨h2,hE,hT⟩=>⟨_,h2,fun _ k=>hR w' hT k (hM.mu i a6 hE)⟩
end
section
variable {B:Exit → Act → World → Prop} {s:List Fr} {ops:Array Oper} {a:Act} {S:World → Prop} {fuel zz:Nat} {listed:Array Bool} {o o' o'':Oper}
@[reducible] def dR (P:Program) (B:Exit → Act → World → Prop) (s:List Fr) (ops:Array Oper) (S:World → Prop) (fuel:Nat) (listed:Array Bool) (i:Nat):Fr :=
 .fn fun a' w'=>S w' ∧ wpAnyH P .any ops (den P B s) S fuel (listed.setIfInBounds i true) a' w'
@[reducible] def qR (P:Program) (B:Exit → Act → World → Prop) (s:List Fr) (ops:Array Oper) (S:World → Prop) (zz fuel:Nat) (listed:Array Bool) (i:Nat):Fr :=
 .fn fun a' w'=>(i ≠ zz → S w') ∧ anyQ P ops (den P B s) S zz fuel (listed.setIfInBounds i true) a' w'
theorem dG (i:Nat) (hi:ops[i]? = some o) (h:wpList P ops (den P B (dR P B s ops S fuel listed i :: s)) [o] a w) (hr:Region.ready .any ops listed = [i]:=by kernel_rfl):wpAnyH P .any ops (den P B s) S (fuel + 1) listed a w:=d_one i hr hi h
theorem dG2 (i j:Nat) (hr:Region.ready .any ops listed = [i,j]) (hi:ops[i]? = some o) (hj:ops[j]? = some o') (h:wpList P ops (den P B (dR P B s ops S fuel listed i :: s)) [o] a w)
    (h':wpList P ops (den P B (dR P B s ops S fuel listed j :: s)) [o'] a w):wpAnyH P .any ops (den P B s) S (fuel + 1) listed a w:=d_two i j hr hi hj h h'
theorem dG3 (i j k:Nat) (hr:Region.ready .any ops listed = [i,j,k]) (hi:ops[i]? = some o) (hj:ops[j]? = some o') (hk:ops[k]? = some o'') (h:wpList P ops (den P B (dR P B s ops S fuel listed i :: s)) [o] a w)
    (h':wpList P ops (den P B (dR P B s ops S fuel listed j :: s)) [o'] a w) (h'':wpList P ops (den P B (dR P B s ops S fuel listed k :: s)) [o''] a w):wpAnyH P .any ops (den P B s) S (fuel + 1) listed a w:=d_three i j k hr hi hj hk h h' h''
theorem qG (i:Nat) (hr:Region.ready .any ops listed = [i]) (hi:ops[i]? = some o) (h:wpList P ops (den P B (qR P B s ops S zz fuel listed i :: s)) [o] a w):anyQ P ops (den P B s) S zz (fuel + 1) listed a w:=q_one i hr hi h
theorem qG2 (i j:Nat) (hr:Region.ready .any ops listed = [i,j]) (hi:ops[i]? = some o) (hj:ops[j]? = some o') (h:wpList P ops (den P B (qR P B s ops S zz fuel listed i :: s)) [o] a w)
    (h':wpList P ops (den P B (qR P B s ops S zz fuel listed j :: s)) [o'] a w):anyQ P ops (den P B s) S zz (fuel + 1) listed a w:=q_two i j hr hi hj h h'
theorem qG3 (i j k:Nat) (hr:Region.ready .any ops listed = [i,j,k]) (hi:ops[i]? = some o) (hj:ops[j]? = some o') (hk:ops[k]? = some o'') (h:wpList P ops (den P B (qR P B s ops S zz fuel listed i :: s)) [o] a w)
    (h':wpList P ops (den P B (qR P B s ops S zz fuel listed j :: s)) [o'] a w) (h'':wpList P ops (den P B (qR P B s ops S zz fuel listed k :: s)) [o''] a w):anyQ P ops (den P B s) S zz (fuel + 1) listed a w:=q_three i j k hr hi hj hk h h' h''
end
end
section
variable {P:Program} {w u w0 w' wd:World} {X Z Y:List Nat} {M:List (List Nat × World)} {F:List Nat}
theorem Ext.lo (s:Ext Z u w) {b:Nat} (h:w.heap.size ≤ b):∀ y ∈ [b],u.heap.size ≤ y:=lo1 (Nat.le_trans s.size h)
theorem Ext.le (s:Ext Z u w) {A:List Nat} (h:∀ b ∈ A,w.heap.size ≤ b):∀ y ∈ A,u.heap.size ≤ y:=fun y hy=>Nat.le_trans s.size (h y hy)
def pfx:List (List Nat × World) → List (List Nat × World) → List (List Nat × World)
 | [],_=>[]
 | _ :: _,[]=>[]
 | _ :: r,x :: s=>x :: pfx r s
theorem pfx_sub:∀ (A B:List (List Nat × World)),∃ C,B = pfx A B ++ C
 | [],B=>⟨B,rfl⟩
 | _ :: _,[]=>⟨[],rfl⟩
 | _ :: r,x :: s=>by
  obtain ⟨C,h⟩:=pfx_sub r s
  exact ⟨C,by simpa [pfx] using h⟩
theorem St.f {M':List (List Nat × World)} (h:St X w0 w M) (hk:pfx M' M = M'):St X w0 w M':=by
 obtain ⟨C,hC⟩:=pfx_sub M' M
 rw [hk] at hC
 subst hC
 have hs:∀ b ∈ fps M',b ∈ fps (M' ++ C):=fun b hb=>by simp only [fps,List.flatMap_append]; exact List.mem_append_left _ hb
 refine ⟨h.ext,fun q hq=>h.ok q (List.mem_append_left _ hq),fun b hb=>h.lt b (hs b hb),fun b hb=>h.lo b (hs b hb),?_⟩
 have:=h.nd
 simp only [fps,List.flatMap_append] at this
 exact (List.nodup_append.1 this).1
section
variable {ops:Array Oper} {Q:Exit → Act → World → Prop} {rest:List Oper} {o:Oper} {a:Act} {N d:Nat} {L:List (Nat × Value)} {S:World → Prop} {z fuel:Nat} {listed:Array Bool}
end
/- a run and the cond behind it -/
section
variable [T:Tys P] {B:Exit → Act → World → Prop} {N:Nat} {s s':List Fr} {L L':List (Nat × Value)} {a:Act} {t:Operand} {x y:Code} {α:Type} {b:Bool} {p q r:α}
end
end
end Go.Proofs.YthkaklkinepfkaaGreatDoor
set_option linter.unusedSimpArgs false
set_option linter.unusedVariables false
namespace Go.Proofs.YthkaklkinepfkaaGreatDoor
open Go
open Enc (rd ow)
open Arg (argv)
open Ret (retv)
open Wf (wf)
instance:Wf Pallet:=⟨fun x=>wf x.fW ∧ wf x.fD ∧ wf x.fH ∧ wf x.fGram⟩
instance:Wf Pair:=⟨fun x=>wf x.fA ∧ wf x.fB⟩
instance:Wf Typ:=⟨fun x=>wf x.fId ∧ wf x.fW ∧ wf x.fH ∧ wf x.fD ∧ wf x.fTare ∧ wf x.fGram ∧ wf x.fCost⟩
instance:Wf Item:=⟨fun x=>wf x.fId ∧ wf x.fW ∧ wf x.fH ∧ wf x.fD ∧ wf x.fGram ∧ wf x.fClass ∧ wf x.fCount⟩
instance:Wf Request:=⟨fun x=>wf x.fWay ∧ wf x.fPallet ∧ wf x.fClasses ∧ wf x.fPairs ∧ wf x.fTypes ∧ wf x.fMaster ∧ wf x.fItems⟩
instance:Wf Carton:=⟨fun x=>wf x.fType ∧ wf x.fGroup ∧ wf x.fUnits⟩
instance:Wf Spot:=⟨fun x=>wf x.fPallet ∧ wf x.fX ∧ wf x.fY ∧ wf x.fZ⟩
instance:Wf Plan:=⟨fun x=>wf x.fCartons ∧ wf x.fSpots⟩
instance:Wf Box:=⟨fun x=>wf x.fW ∧ wf x.fD ∧ wf x.fH ∧ wf x.fGram⟩
instance:Wf Load:=⟨fun x=>wf x.fLayers ∧ wf x.fH ∧ wf x.fGram⟩
instance:Wf Layer:=⟨fun x=>wf x.fShelves ∧ wf x.fD ∧ wf x.fH ∧ wf x.fGram⟩
instance:Wf Shelf:=⟨fun x=>wf x.fList ∧ wf x.fW ∧ wf x.fD ∧ wf x.fH ∧ wf x.fGram⟩
instance:Wf L7:=⟨fun x=>wf x.fvol ∧ wf x.fgram⟩
instance:Wf Cur:=⟨fun x=>wf x.fb ∧ wf x.fi ∧ wf x.fh⟩
end Go.Proofs.YthkaklkinepfkaaGreatDoor
set_option maxRecDepth 100000
namespace Go.Proofs.YthkaklkinepfkaaGreatDoor
open Go
theorem k_ws : wordsSigns Tryz.prog.initOrder.toList = [([104, 97, 114, 110, 101, 115, 115].map Char.ofNat), ([53, 50, 100, 50, 98, 53, 51, 57, 49, 53, 50, 54, 101, 101, 102, 98, 99, 48, 57, 52, 101, 54, 54, 102, 50, 55, 49, 50, 102, 99, 49, 53, 55, 99, 57, 100, 52, 57, 57, 53, 51, 97, 53, 56, 98, 98, 56, 49, 101, 52, 49, 101, 57, 50, 50, 50, 56, 53, 54, 54, 57, 56, 98, 53].map Char.ofNat), ([99, 117, 116].map Char.ofNat), ([97, 116].map Char.ofNat), ([108, 111, 111, 112, 46, 101, 120, 97, 109, 112, 108, 101, 47, 103, 48, 48, 52, 56, 57, 47, 108, 97, 119, 115, 46, 70, 110, 84, 101, 120, 116, 115].map Char.ofNat), ([108, 111, 111, 112, 46, 101, 120, 97, 109, 112, 108, 101, 47, 103, 48, 48, 52, 56, 57, 47, 108, 97, 119, 115, 46, 70, 110, 69, 120, 97, 99, 116, 86, 101, 114, 105, 102, 121].map Char.ofNat), ([108, 111, 111, 112, 46, 101, 120, 97, 109, 112, 108, 101, 47, 103, 48, 48, 52, 56, 57, 47, 108, 97, 119, 115, 46, 70, 110, 69, 120, 97, 99, 116, 80, 97, 99, 107].map Char.ofNat), ([108, 111, 111, 112, 46, 101, 120, 97, 109, 112, 108, 101, 47, 103, 48, 48, 52, 56, 57, 47, 108, 97, 119, 115, 46, 70, 110, 69, 120, 97, 99, 116, 80, 97, 99, 107, 84, 101, 120, 116].map Char.ofNat), ([108, 111, 111, 112, 46, 101, 120, 97, 109, 112, 108, 101, 47, 103, 48, 48, 52, 56, 57, 47, 108, 97, 119, 115, 46, 70, 110, 82, 101, 110, 97, 109, 101, 100].map Char.ofNat), ([108, 111, 111, 112, 46, 101, 120, 97, 109, 112, 108, 101, 47, 103, 48, 48, 52, 56, 57, 47, 108, 97, 119, 115, 46, 70, 110, 80, 97, 99, 107, 84, 101, 120, 116].map Char.ofNat)] := make_of (l := ([104, 97, 114, 110, 101, 115, 115, 32, 53, 50, 100, 50, 98, 53, 51, 57, 49, 53, 50, 54, 101, 101, 102, 98, 99, 48, 57, 52, 101, 54, 54, 102, 50, 55, 49, 50, 102, 99, 49, 53, 55, 99, 57, 100, 52, 57, 57, 53, 51, 97, 53, 56, 98, 98, 56, 49, 101, 52, 49, 101, 57, 50, 50, 50, 56, 53, 54, 54, 57, 56, 98, 53, 32, 99, 117, 116, 32, 97, 116, 32, 108, 111, 111, 112, 46, 101, 120, 97, 109, 112, 108, 101, 47, 103, 48, 48, 52, 56, 57, 47, 108, 97, 119, 115, 46, 70, 110, 84, 101, 120, 116, 115, 32, 108, 111, 111, 112, 46, 101, 120, 97, 109, 112, 108, 101, 47, 103, 48, 48, 52, 56, 57, 47, 108, 97, 119, 115, 46, 70, 110, 69, 120, 97, 99, 116, 86, 101, 114, 105, 102, 121, 32, 108, 111, 111, 112, 46, 101, 120, 97, 109, 112, 108, 101, 47, 103, 48, 48, 52, 56, 57, 47, 108, 97, 119, 115, 46, 70, 110, 69, 120, 97, 99, 116, 80, 97, 99, 107, 32, 108, 111, 111, 112, 46, 101, 120, 97, 109, 112, 108, 101, 47, 103, 48, 48, 52, 56, 57, 47, 108, 97, 119, 115, 46, 70, 110, 69, 120, 97, 99, 116, 80, 97, 99, 107, 84, 101, 120, 116, 32, 108, 111, 111, 112, 46, 101, 120, 97, 109, 112, 108, 101, 47, 103, 48, 48, 52, 56, 57, 47, 108, 97, 119, 115, 46, 70, 110, 82, 101, 110, 97, 109, 101, 100, 32, 108, 111, 111, 112, 46, 101, 120, 97, 109, 112, 108, 101, 47, 103, 48, 48, 52, 56, 57, 47, 108, 97, 119, 115, 46, 70, 110, 80, 97, 99, 107, 84, 101, 120, 116].map Char.ofNat)) (by kernel_rfl) (by kernel_rfl)
theorem k_cut : (match behindMainWord [([104, 97, 114, 110, 101, 115, 115].map Char.ofNat), ([53, 50, 100, 50, 98, 53, 51, 57, 49, 53, 50, 54, 101, 101, 102, 98, 99, 48, 57, 52, 101, 54, 54, 102, 50, 55, 49, 50, 102, 99, 49, 53, 55, 99, 57, 100, 52, 57, 57, 53, 51, 97, 53, 56, 98, 98, 56, 49, 101, 52, 49, 101, 57, 50, 50, 50, 56, 53, 54, 54, 57, 56, 98, 53].map Char.ofNat), ([99, 117, 116].map Char.ofNat), ([97, 116].map Char.ofNat), ([108, 111, 111, 112, 46, 101, 120, 97, 109, 112, 108, 101, 47, 103, 48, 48, 52, 56, 57, 47, 108, 97, 119, 115, 46, 70, 110, 84, 101, 120, 116, 115].map Char.ofNat), ([108, 111, 111, 112, 46, 101, 120, 97, 109, 112, 108, 101, 47, 103, 48, 48, 52, 56, 57, 47, 108, 97, 119, 115, 46, 70, 110, 69, 120, 97, 99, 116, 86, 101, 114, 105, 102, 121].map Char.ofNat), ([108, 111, 111, 112, 46, 101, 120, 97, 109, 112, 108, 101, 47, 103, 48, 48, 52, 56, 57, 47, 108, 97, 119, 115, 46, 70, 110, 69, 120, 97, 99, 116, 80, 97, 99, 107].map Char.ofNat), ([108, 111, 111, 112, 46, 101, 120, 97, 109, 112, 108, 101, 47, 103, 48, 48, 52, 56, 57, 47, 108, 97, 119, 115, 46, 70, 110, 69, 120, 97, 99, 116, 80, 97, 99, 107, 84, 101, 120, 116].map Char.ofNat), ([108, 111, 111, 112, 46, 101, 120, 97, 109, 112, 108, 101, 47, 103, 48, 48, 52, 56, 57, 47, 108, 97, 119, 115, 46, 70, 110, 82, 101, 110, 97, 109, 101, 100].map Char.ofNat), ([108, 111, 111, 112, 46, 101, 120, 97, 109, 112, 108, 101, 47, 103, 48, 48, 52, 56, 57, 47, 108, 97, 119, 115, 46, 70, 110, 80, 97, 99, 107, 84, 101, 120, 116].map Char.ofNat)] with | c :: _ => c == "cut".toList | [] => false) = true := by kernel_rfl
theorem k_make : Tryz.prog.make = some .cut := mk_of k_ws k_cut
theorem k_lifts : Tryz.prog.liftsFinal = false := lf_of k_ws k_cut
theorem k_may : Tryz.prog.mayEnter = true := by kernel_rfl
theorem laidOut : laidOutB Tryz.prog = true := by kernel_rfl
theorem own : ownKnob Tryz.prog.godebug = none := by kernel_rfl
theorem k_maps : mapsRowed Tryz.prog = true := by kernel_rfl
theorem k_keys : Tryz.prog.plainKeys = true := by kernel_rfl
theorem k_stops : Tryz.prog.stopsHeard = true := by kernel_rfl
end Go.Proofs.YthkaklkinepfkaaGreatDoor
set_option linter.unusedSimpArgs false
set_option linter.unusedVariables false
namespace Go.Proofs.YthkaklkinepfkaaGreatDoor
open Go
open Enc (rd ow)
open Arg (argv)
open Ret (retv)
open Wf (wf)
@[simp] theorem ob_some {α β:Type} (x:α) (k:α → Option β):obind (some x) k = k x:=rfl
@[simp] theorem ob_none {α β:Type} (k:α → Option β):obind none k = none:=rfl
theorem ob_of {α β:Type} {m:Option α} {x:α} {k:α → Option β} (h:m = some x):obind m k = k x:=by rw [h]; rfl
theorem w64_id {n:Int} (h1:-9223372036854775808 ≤ n) (h2:n ≤ 9223372036854775807):w64 n = n:=by
 simp only [w64,IntKind.wrap_i64]; omega
theorem ix_nat {α:Type} (l:List α) (i:Nat):ix l (i:Int) = l[i]?:=by simp [ix]
theorem ix_at {α:Type} {l:List α} {i:Nat} {x:α} (h:l[i]? = some x):ix l (i:Int) = some x:=by rw [ix_nat,h]
theorem mk_some {α:Type} {bytes:Nat} {z:α} {n:Nat} (h:bytes * n ≤ 140737488355328):mk bytes z (n:Int) = some (List.replicate n z):=by
 unfold mk
 have h':(bytes:Int) * (n:Int) ≤ 140737488355328:=by rw [← Int.natCast_mul]; omega
 rw [if_pos ⟨Int.natCast_nonneg n,h'⟩,Int.toNat_natCast]
theorem bif_true {α:Type} {c:Bool} (h:c = true) (a b:α):(bif c then a else b) = a:=by rw [h]; rfl
theorem bif_false {α:Type} {c:Bool} (h:c = false) (a b:α):(bif c then a else b) = b:=by rw [h]; rfl
end Go.Proofs.YthkaklkinepfkaaGreatDoor
set_option linter.unusedSimpArgs false
set_option linter.unusedVariables false
namespace Go.Proofs.YthkaklkinepfkaaGreatDoor
open Go
open Enc (rd ow)
open Arg (argv)
open Ret (retv)
open Wf (wf)
theorem ix_i {α:Type} {l:List α} {i:Nat} (h:i < l.length):ix l (i:Int) = some l[i]:=by rw [ix_nat,List.getElem?_eq_getElem h]
theorem w64_s (i:Nat) (h:i < 4611686018427387904):w64 ((i:Int) + 1) = ((i + 1:Nat):Int):=by rw [w64_id (by omega) (by omega)]; omega
theorem lpI {σ α β:Type} (l:List α) (L:Nat → σ → Int → Option β) (F:List α → σ → Option β) (I:List α → σ → Prop) (hl:l.length ≤ 1099511627776)
    (hs:∀ n s (i:Int) x xs,ix l i = some x → decide (i < (l.length:Int)) = true → I (x :: xs) s → (∀ s',I xs s' → L n s' (w64 (i + 1)) = F xs s') → L (n + 1) s i = F (x :: xs) s)
    (he:∀ n s (i:Int),decide (i < (l.length:Int)) = false → I [] s → L (n + 1) s i = F [] s):∀ n s,I l s → l.length < n → L n s 0 = F l s:=by
 have key:∀ (m i n:Nat) (s:σ),l.length - i = m → i ≤ l.length → m < n → I (l.drop i) s → L n s (i:Int) = F (l.drop i) s:=by
  intro m
  induction m with
  | zero =>
   intro i n s hm hi hn hI
   obtain ⟨n,rfl⟩:∃ k,n = k + 1:=⟨n - 1,by omega⟩
   have e:l.drop i = []:=List.drop_of_length_le (by omega)
   rw [e] at hI ⊢
   exact he n s i (by simp; omega) hI
  | succ m ih =>
   intro i n s hm hi hn hI
   obtain ⟨n,rfl⟩:∃ k,n = k + 1:=⟨n - 1,by omega⟩
   have hlt:i < l.length:=by omega
   rw [List.drop_eq_getElem_cons hlt] at hI ⊢
   refine hs n s i _ _ (ix_i hlt) (by simpa using hlt) hI fun s' hI'=>?_
   rw [w64_s i (by omega)]
   exact ih (i + 1) n s' (by omega) (by omega) (by omega) hI'
 intro n s hI hn
 have:=key l.length 0 n s (by omega) (by omega) hn (by simpa using hI)
 simpa using this
theorem lp {σ α β:Type} (l:List α) (L:Nat → σ → Int → Option β) (F:List α → σ → Option β) (hl:l.length ≤ 1099511627776)
    (hs:∀ n s (i:Int) x xs,ix l i = some x → decide (i < (l.length:Int)) = true → (∀ s',L n s' (w64 (i + 1)) = F xs s') → L (n + 1) s i = F (x :: xs) s)
    (he:∀ n s (i:Int),decide (i < (l.length:Int)) = false → L (n + 1) s i = F [] s):∀ n s,l.length < n → L n s 0 = F l s:=fun n s hn =>
 lpI l L F (fun _ _=>True) hl (fun n s i x xs hx hd _ ih=>hs n s i x xs hx hd fun s'=>ih s' trivial) (fun n s i hd _=>he n s i hd) n s trivial hn
def ints:Int → Nat → List Int
 | _,0=>[]
 | a,n + 1=>a :: ints (a + 1) n
theorem lpN {σ β:Type} (b:Int) (L:Nat → σ → Int → Option β) (F:List Int → σ → Option β) (hb:b ≤ 1099511627776)
    (hs:∀ n s (i:Int) xs,0 ≤ i → i < b → decide (i < b) = true → (∀ s',L n s' (w64 (i + 1)) = F xs s') → L (n + 1) s i = F (i :: xs) s)
    (he:∀ n s (i:Int),decide (i < b) = false → L (n + 1) s i = F [] s):∀ (m:Nat) n s (a:Int),0 ≤ a → (b - a).toNat = m → m < n → L n s a = F (ints a m) s:=by
 intro m
 induction m with
 | zero =>
  intro n s a ha hm hn
  obtain ⟨n,rfl⟩:∃ k,n = k + 1:=⟨n - 1,by omega⟩
  exact he n s a (by simp; omega)
 | succ m ih =>
  intro n s a ha hm hn
  obtain ⟨n,rfl⟩:∃ k,n = k + 1:=⟨n - 1,by omega⟩
  refine hs n s a _ ha (by omega) (by simp; omega) fun s'=>?_
  rw [w64_id (by omega) (by omega)]
  exact ih n s' (a + 1) (by omega) (by omega) (by omega)
theorem lpNI {σ β:Type} (b:Int) (L:Nat → σ → Int → Option β) (F:List Int → σ → Option β) (I:List Int → σ → Prop) (hb:b ≤ 1099511627776)
    (hs:∀ n s (i:Int) xs,0 ≤ i → i < b → decide (i < b) = true → I (i :: xs) s → (∀ s',I xs s' → L n s' (w64 (i + 1)) = F xs s') → L (n + 1) s i = F (i :: xs) s)
    (he:∀ n s (i:Int),decide (i < b) = false → I [] s → L (n + 1) s i = F [] s):∀ (m:Nat) n s (a:Int),0 ≤ a → (b - a).toNat = m → m < n → I (ints a m) s → L n s a = F (ints a m) s:=by
 intro m
 induction m with
 | zero =>
  intro n s a ha hm hn hI
  obtain ⟨n,rfl⟩:∃ k,n = k + 1:=⟨n - 1,by omega⟩
  exact he n s a (by simp; omega) hI
 | succ m ih =>
  intro n s a ha hm hn hI
  obtain ⟨n,rfl⟩:∃ k,n = k + 1:=⟨n - 1,by omega⟩
  refine hs n s a _ ha (by omega) (by simp; omega) hI fun s' hI'=>?_
  rw [w64_id (by omega) (by omega)]
  exact ih n s' (a + 1) (by omega) (by omega) (by omega) hI'
def down:Nat → List Int
 | 0=>[]
 | n + 1=>(n:Int) :: down n
theorem lpD {σ β:Type} (b:Nat) (L:Nat → σ → Int → Option β) (F:List Int → σ → Option β) (hb:b ≤ 1099511627776)
    (hs:∀ n s (i:Int) xs,0 ≤ i → i < b → decide (i ≥ 0) = true → (∀ s',L n s' (w64 (i - 1)) = F xs s') → L (n + 1) s i = F (i :: xs) s)
    (he:∀ n s (i:Int),decide (i ≥ 0) = false → L (n + 1) s i = F [] s):∀ n s,b < n → L n s (w64 ((b:Int) - 1)) = F (down b) s:=by
 have key:∀ (m:Nat) n s,m ≤ b → m < n → L n s ((m:Int) - 1) = F (down m) s:=by
  intro m
  induction m with
  | zero =>
   intro n s hm hn
   obtain ⟨n,rfl⟩:∃ k,n = k + 1:=⟨n - 1,by omega⟩
   exact he n s _ (by simp)
  | succ m ih =>
   intro n s hm hn
   obtain ⟨n,rfl⟩:∃ k,n = k + 1:=⟨n - 1,by omega⟩
   have e:((m + 1:Nat):Int) - 1 = (m:Int):=by omega
   rw [e]
   refine hs n s m _ (by omega) (by omega) (by simp) fun s'=>?_
   rw [w64_id (by omega) (by omega)]
   exact ih n s' (by omega) (by omega)
 intro n s hn
 rw [w64_id (by omega) (by omega)]
 exact key b n s (Nat.le_refl _) hn
theorem ap1 {α:Type} {bytes:Nat} {xs ys:List α} (h:(xs.length + ys.length) * bytes ≤ 140737488355328):apnd bytes xs ys = some (xs ++ ys):=by
 unfold apnd; rw [if_pos h]
theorem sls_some {α:Type} {xs:List α} {lo hi:Int} (h:0 ≤ lo ∧ lo ≤ hi ∧ hi ≤ xs.length):sls xs lo hi = some ((xs.drop lo.toNat).take (hi.toNat - lo.toNat)):=by
 unfold sls; rw [if_pos h]
theorem odiv_ok {y:Int} (h:y ≠ 0):odiv y = some ():=by unfold odiv; rw [if_pos h]
end Go.Proofs.YthkaklkinepfkaaGreatDoor
set_option linter.unusedSimpArgs false
set_option linter.unusedVariables false
namespace Go.Proofs.YthkaklkinepfkaaGreatDoor
open Go
open Enc (rd ow)
open Arg (argv)
open Ret (retv)
open Wf (wf)
def inb (n lo hi:Int):Bool:=decide (lo ≤ n ∧ n ≤ hi)
@[simp] theorem inb_iff {n lo hi:Int}:inb n lo hi = true ↔ lo ≤ n ∧ n ≤ hi:=by simp [inb]
def palB (p:Pallet):Bool:=inb p.fW 1 2000 && (inb p.fD 1 2000 && (inb p.fH 1 2000 && inb p.fGram 1 100000))
def typB (t:Typ):Bool:=inb t.fId 0 999 && (inb t.fW 1 2000 && (inb t.fH 1 2000 && (inb t.fD 1 2000 && (inb t.fTare 0 100000 && (inb t.fGram 1 100000 && inb t.fCost 0 100000)))))
def itmB (x:Item):Bool:=inb x.fId 0 999 && (inb x.fW 1 2000 && (inb x.fH 1 2000 && (inb x.fD 1 2000 && (inb x.fGram 1 100000 && (inb x.fClass 0 3 && inb x.fCount 1 6)))))
def prB (p:Pair):Bool:=inb p.fA 0 3 && inb p.fB 0 3
def sumI:List Int → Int
 | []=>0
 | x :: xs=>x + sumI xs
@[simp] theorem sumI_nil:sumI [] = 0:=rfl
@[simp] theorem sumI_cons (x:Int) (xs:List Int):sumI (x :: xs) = x + sumI xs:=rfl
theorem sumI_le {α:Type} (f:α → Int) (l:List α) (b:Int) (h:∀ x ∈ l,f x ≤ b):sumI (l.map f) ≤ b * l.length:=by
 induction l with
 | nil=>simp
 | cons x xs ih =>
  have h1:=h x (by simp)
  have h2:=ih (fun y hy=>h y (by simp [hy]))
  simp only [List.map_cons,sumI_cons,List.length_cons]
  rw [show ((xs.length + 1:Nat):Int) = (xs.length:Int) + 1 by omega,Int.mul_add]
  omega
theorem sumI_nn {α:Type} (f:α → Int) (l:List α) (h:∀ x ∈ l,0 ≤ f x):0 ≤ sumI (l.map f):=by
 induction l with
 | nil=>simp
 | cons x xs ih =>
  have h1:=h x (by simp)
  have h2:=ih (fun y hy=>h y (by simp [hy]))
  simp only [List.map_cons,sumI_cons]
  omega
def bouB (r:Request):Bool :=
 inb r.fWay 0 1 && palB r.fPallet && inb r.fClasses 1 4 && decide (r.fPairs.length ≤ 16) && r.fPairs.all prB && inb r.fTypes.length 1 5 && r.fTypes.all typB && inb r.fMaster 0 999 && decide (r.fItems.length ≤ 8) && (r.fItems.all itmB && decide (sumI (r.fItems.map (·.fCount)) ≤ 12))
def besB (l:List Pair) (a b:Int):Bool:=l.any fun p=>p.fA == a && p.fB == b
def tabB (l:List Pair) (c:Int):Bool:=inb c 1 4 && (ints 0 c.toNat).all fun a=>besB l a a && (ints 0 c.toNat).all fun b=>besB l a b == besB l b a
def zTyp:Typ:=⟨0,0,0,0,0,0,0⟩
def zItem:Item:=⟨0,0,0,0,0,0,0⟩
def typM (r:Request) (id:Int):Option Typ:=r.fTypes.find? fun t=>t.fId == id
def othM (o:Option Typ):Typ × Bool:=match o with | some t=>(t,true) | none=>(zTyp,false)
def nodB {α:Type} (f:α → Int):List α → List α → Bool
 | _,[]=>true
 | pre,x :: xs=>!(pre.any fun y=>f y == f x) && nodB f (pre ++ [x]) xs
def nodC (c:Int):List Item → List Item → Bool
 | _,[]=>true
 | pre,x :: xs=>!(decide (x.fClass ≥ c)) && !(pre.any fun y=>y.fId == x.fId) && nodC c (pre ++ [x]) xs
def namB (r:Request):Bool :=
 nodB Typ.fId [] r.fTypes && nodC r.fClasses [] r.fItems && (typM r r.fMaster).isSome && !(r.fPairs.any fun p=>decide (p.fA ≥ r.fClasses) || decide (p.fB ≥ r.fClasses))
def sid (a b c:Int):Int × Int × Int :=
 let lo:=if a ≤ b then (if a ≤ c then a else c) else (if b ≤ c then b else c)
 let hi:=if a ≥ b then (if a ≥ c then a else c) else (if b ≥ c then b else c)
 (lo,a + b + c - lo - hi,hi)
def fitB (x:Item) (t:Typ):Bool :=
 decide ((sid x.fW x.fH x.fD).1 ≤ (sid t.fW t.fH t.fD).1) && decide ((sid x.fW x.fH x.fD).2.1 ≤ (sid t.fW t.fH t.fD).2.1) && decide ((sid x.fW x.fH x.fD).2.2 ≤ (sid t.fW t.fH t.fD).2.2) && decide (x.fGram ≤ t.fGram)
def masM (r:Request):Typ:=(othM (typM r r.fMaster)).1
def tooB (p:Pallet) (t:Typ):Bool:=decide (t.fW > p.fW) || (decide (t.fD > p.fD) || (decide (t.fH > p.fH) || decide (w64 (t.fTare + t.fGram) > p.fGram)))
def clsM (r:Request):Int :=
 bif !bouB r then 2 else bif !namB r then 3 else bif !tabB r.fPairs r.fClasses then 4 else bif !(r.fItems.all fun x=>fitB x (masM r)) then 5 else bif r.fTypes.any (tooB r.fPallet) then 6 else 0
def repU:Int → List Item → List Int
 | _,[]=>[]
 | i,x :: xs=>List.replicate x.fCount.toNat i ++ repU (i + 1) xs
def l6M (r:Request):List Int:=repU 0 r.fItems
def untM (r:Request):List Int:=bif clsM r == 0 then l6M r else []
def itmM (r:Request) (u:Int):Option Item:=obind (ix (untM r) u) fun i=>ix r.fItems i
def volB (w h d:Int):Int:=bif inb w 0 2000 && (inb h 0 2000 && inb d 0 2000) then w * h * d else 0
def volI (x:Item):Int:=volB x.fW x.fH x.fD
def volT (x:Typ):Int:=volB x.fW x.fH x.fD
def itsM (r:Request) (us:List Int):List Item:=us.filterMap (itmM r)
def volM (r:Request) (us:List Int):Int:=sumI ((itsM r us).map volI)
theorem volB_nn (w h d:Int):0 ≤ volB w h d ∧ volB w h d ≤ 8000000000:=by
 unfold volB
 cases hb:inb w 0 2000 && (inb h 0 2000 && inb d 0 2000)
 · simp
 · simp only [Bool.and_eq_true,inb_iff] at hb
   obtain ⟨⟨h1,h2⟩,⟨h3,h4⟩,h5,h6⟩:=hb
   simp only [cond_true]
   have a1:0 ≤ w * h:=Int.mul_nonneg h1 h3
   have a2:w * h ≤ 2000 * 2000:=Int.mul_le_mul h2 h4 h3 (by omega)
   have a3:0 ≤ w * h * d:=Int.mul_nonneg a1 h5
   have a4:w * h * d ≤ 2000 * 2000 * 2000:=Int.mul_le_mul a2 h6 h5 (by omega)
   omega
theorem clsM_zero {r:Request} (h:clsM r = 0):bouB r = true ∧ namB r = true ∧ tabB r.fPairs r.fClasses = true ∧ (∀ x ∈ r.fItems,fitB x (masM r) = true) ∧ (∀ t ∈ r.fTypes,tooB r.fPallet t = false):=by
 unfold clsM at h
 cases h1:bouB r
 · simp [h1] at h
 cases h2:namB r
 · simp [h1,h2] at h
 cases h3:tabB r.fPairs r.fClasses
 · simp [h1,h2,h3] at h
 cases h4:r.fItems.all fun x=>fitB x (masM r)
 · simp only [h1,h2,h3,h4] at h; simp at h
 cases h5:r.fTypes.any (tooB r.fPallet)
 · refine ⟨rfl,rfl,rfl,by simpa using h4,?_⟩
   intro t ht
   have:=List.any_eq_false.1 h5 t ht
   simpa using this
 · simp only [h1,h2,h3,h4,h5] at h; simp at h
theorem bou_types {r:Request} (h:bouB r = true):∀ t ∈ r.fTypes,typB t = true:=by
 simp only [bouB,Bool.and_eq_true,List.all_eq_true] at h
 exact h.1.1.1.2
theorem bou_items {r:Request} (h:bouB r = true):(∀ x ∈ r.fItems,itmB x = true) ∧ sumI (r.fItems.map (·.fCount)) ≤ 12 ∧ r.fItems.length ≤ 8:=by
 simp only [bouB,Bool.and_eq_true,List.all_eq_true,decide_eq_true_eq] at h
 exact ⟨h.2.1,h.2.2,h.1.2⟩
theorem repU_len:∀ (l:List Item) (i:Int),(∀ x ∈ l,0 ≤ x.fCount) → ((repU i l).length:Int) = sumI (l.map (·.fCount))
 | [],_,_=>rfl
 | x :: xs,i,h=>by
  have:=repU_len xs (i + 1) (fun y hy=>h y (by simp [hy]))
  have hx:=h x (by simp)
  simp only [repU,List.length_append,List.length_replicate,List.map_cons,sumI_cons]
  omega
theorem repU_mem:∀ (l:List Item) (i:Int) (u:Int),u ∈ repU i l → i ≤ u ∧ u < i + l.length
 | [],_,_,h=>by simp [repU] at h
 | x :: xs,i,u,h=>by
  simp only [repU,List.mem_append] at h
  rcases h with h | h
  · have:=(List.mem_replicate.1 h).2
    simp; omega
  · have:=repU_mem xs (i + 1) u h
    simp; omega
theorem l6M_len {r:Request} (h:bouB r = true):(l6M r).length ≤ 12:=by
 obtain ⟨h1,h2,_⟩:=bou_items h
 have:=repU_len r.fItems 0 (fun x hx=>by
  have:=h1 x hx
  simp only [itmB,Bool.and_eq_true,inb_iff] at this
  omega)
 unfold l6M
 omega
theorem untM_len (r:Request):(untM r).length ≤ 12:=by
 unfold untM
 cases h:clsM r == 0
 · simp
 · exact l6M_len (clsM_zero (by simpa using h)).1
theorem untM_mem {r:Request} {i:Int} (h:i ∈ untM r):0 ≤ i ∧ i < r.fItems.length:=by
 unfold untM at h
 cases hc:clsM r == 0
 · simp [hc] at h
 · simp only [hc,cond_true] at h
   have:=repU_mem _ _ _ h
   omega
theorem ix_mem {α:Type} {l:List α} {i:Int} {x:α} (h:ix l i = some x):x ∈ l:=List.mem_of_getElem? (ix_some h).2.2
theorem itmM_in {r:Request} {u:Int} (h:0 ≤ u ∧ u < (untM r).length):∃ i x,ix (untM r) u = some i ∧ ix r.fItems i = some x ∧ itmM r u = some x:=by
 have h1:u.toNat < (untM r).length:=by omega
 have e1:ix (untM r) u = some (untM r)[u.toNat]:=by
  unfold ix; rw [if_pos h.1,List.getElem?_eq_getElem h1]
 have h2:=untM_mem (List.getElem_mem h1)
 have h3:((untM r)[u.toNat]).toNat < r.fItems.length:=by omega
 have e2:ix r.fItems (untM r)[u.toNat] = some r.fItems[((untM r)[u.toNat]).toNat]:=by
  unfold ix; rw [if_pos h2.1,List.getElem?_eq_getElem h3]
 refine ⟨_,_,e1,e2,?_⟩
 unfold itmM
 rw [e1,ob_some,e2]
theorem itmM_out {r:Request} {u:Int} (h:¬ (0 ≤ u ∧ u < (untM r).length)):itmM r u = none:=by
 unfold itmM ix
 by_cases h0:0 ≤ u
 · rw [if_pos h0,List.getElem?_eq_none (by omega)]; rfl
 · rw [if_neg h0]; rfl
theorem itsM_len (r:Request) (us:List Int):(itsM r us).length ≤ us.length:=List.length_filterMap_le _ _
end Go.Proofs.YthkaklkinepfkaaGreatDoor
