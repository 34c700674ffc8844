/- Shorter words for what the printed walks say often. Own lemmas, over any program. -/
import Derived.Test.YtcboeijpplllfaaGreatS15
import Derived.Test.YtcboeijpplllfaaGreatS17
set_option linter.unusedSimpArgs false
set_option linter.unusedVariables false
namespace Go.Proofs.YtcboeijpplllfaaGreat
open Go Go.RowKit
open Enc (rd ow)
section
variable {P:Program} {ops:Array Oper} {Q:Exit → Act → World → Prop} {rest:List Oper} {o o1 o2:Oper} {a:Act} {w w':World} {N:Nat} {L:List (Nat × Value)}
variable {X:List Nat} {w0:World} {M:List (List Nat × World)} {d d':Nat} {S:World → Prop} {fuel:Nat} {listed:Array Bool}
variable {α:Type} [Enc α] {F:List Nat} {cs:List Value} {x:α} {u:World}
theorem St.r (h:St [] w0 w M) (hr:rd w0 F cs x):rd w F cs x:=Enc.rd_agr hr (h.a00 (Enc.rd_lt hr))
theorem St.r1 (h:St X w0 w M) (hr:rd w0 F cs x) (hd:∀ b ∈ F,b ∉ X):rd w F cs x:=Enc.rd_agr hr (h.a0 (Enc.rd_lt hr) hd)
theorem St.q (h:St X w0 w M) (ho:ow u F cs x) (i:Nat) (hi:M[i]? = some (F,u)):rd w F cs x:=Enc.rd_agr (Enc.ow_rd ho) (h.a i hi)
theorem St.v (h:St X w0 w M) (ho:ow u F cs x) (i:Nat) (hi:M[i]? = some (F,u)):ow w F cs x:=Enc.ow_agr ho (h.a i hi)
theorem St.y (h:St X w0 w M) {b:Nat} {e:TypeId} (hb:bx u b cs e) (i:Nat) (hi:M[i]? = some ([b],u)):bx w b cs e:=hb.agr (h.a i hi) (by simp)
theorem St.nw (h:St X w0 w M) (hE:Ext [] w w') (hl:∀ b ∈ F,w.heap.size ≤ b) (ho:ow w' F cs x):St X w0 w' ((F,w') :: M) :=
 h.new hE F (fun b hb=>⟨hl b hb,Enc.rd_lt (Enc.ow_rd ho) b hb⟩) (Enc.ow_nd ho)
theorem dT (hK:K N L a) (i:Nat) {v:Value} (hi:ops[i]? = some o) (hc:chk L ops N true o = some d) (hS:S w)
    (hy:∀ w,S w → (execOp a.eval o).run P w = .ok (.value v) w) (h:∀ a,K N ((d,v) :: L) a → wpAnyH P .any ops Q S fuel (listed.setIfInBounds i true) a w)
    (ho:okD ops listed i = true:=by kernel_rfl) (hQ:∀ c a w,Q (.panic c) (a.put o.dst v) w → Q (.panic c) a w:=by exact fun _ _ _=>id):wpAnyH P .any ops Q S (fuel + 1) listed a w :=
 dt hK i hi ho hc hS hQ hy h
theorem dM (is:List Nat) (n:Nat) {L':List (Nat × Value)} (hn:is.length = n) (hK:K N L a) (hv:runV N ops is L = some L') (hS:S w)
    (h:∀ a,K N L' a → wpAnyH P .any ops Q S fuel (setN listed is) a w) (ho:okN ops listed is = true:=by kernel_rfl)
    (hQ:∀ c (a:Act) d v w,Q (.panic c) (a.put (some d) v) w → Q (.panic c) a w:=by exact fun _ _ _ _ _=>id):wpAnyH P .any ops Q S (fuel + n) listed a w :=
 dN is n hn hK ho hv hS hQ h
theorem fC {β:Type} {p:β → Prop} {y:β} {l:List β} (h1:p y) (h2:∀ z ∈ l,p z):∀ z ∈ y :: l,p z:=List.forall_mem_cons.2 ⟨h1,h2⟩
theorem fN {β:Type} {p:β → Prop}:∀ z ∈ ([]:List β),p z:=List.forall_mem_nil _
abbrev pt (b:Nat):Value:=.pointer (some ⟨b,0,none⟩)
theorem fl {t t':TypeId} {f off:Nat} (hF:FA P t f off) (hT:T1 P t') (hM:St X w0 w M) (i:Nat) {b:Nat} {e:TypeId} (hb:bx u b cs e) (hK:K N L a) {y y':Operand} {v:Value}
    (h1:(o1.op,ev L y,chk L ops N true o1,M[i]?) = (.fieldAddr t y f,some (.pointer (some (⟨b,0,none⟩:Addr))),some d,some ([b],u)))
    (h2:(o2.op,ev ((d,.pointer (some ((⟨b,0,none⟩:Addr).add off))) :: L) y',chk ((d,.pointer (some ((⟨b,0,none⟩:Addr).add off))) :: L) ops N true o2,cs[off]?) = (.load t' y',some (.pointer (some ((⟨b,0,none⟩:Addr).add off))),some d',some v))
    (h:∀ a,K N ((d',v) :: (d,.pointer (some ((⟨b,0,none⟩:Addr).add off))) :: L) a → wpList P ops Q rest a w):wpList P ops Q (o1 :: o2 :: rest) a w:=by
 simp only [Prod.mk.injEq] at h1 h2
 obtain ⟨a1,a2,a3,a4⟩:=h1
 obtain ⟨b1,b2,b3,b4⟩:=h2
 exact sv hK a3 (r_fa hF hK a1 a2) fun a hK=>sv hK b3 (r_ldb hT hM i hb off hK a4 b1 b2 rfl b4) h
theorem ns {Z Y:List Nat} {wd:World} {next:Act → World → Prop} (s:Ext Z wd w) (e:Ext Y w w') (h:Ext Z wd w' → next a w') (hY:∀ y ∈ Y,y ∈ Z ∨ wd.heap.size ≤ y:=by simp) :
    wpList P ops (Exit.then (fun a' w'=>Ext Z wd w' ∧ next a' w') Q) [] a w':=by
 have t:=s.trans e hY
 exact wpList_nil ⟨t,h t⟩
theorem dO (i:Nat) (hi:ops[i]? = some o)
    (h:wpList P ops (Exit.then (fun a' w'=>S w' ∧ wpAnyH P .any ops Q S fuel (listed.setIfInBounds i true) a' w') Q) [o] a w) (hr:Region.ready .any ops listed = [i]:=by kernel_rfl):wpAnyH P .any ops Q S (fuel + 1) listed a w :=
 d_one i hr hi h
theorem dD (h:Q .normal a w) (hr:Region.ready .any ops listed = []:=by kernel_rfl):wpAnyH P .any ops Q S fuel listed a w:=d_done hr h
theorem dF (hK:K N L a) (i:Nat) {t:TypeId} {f off:Nat} (hF:FA P t f off) {x:Operand} {p:Addr}
    (h1:(ops[i]?,o.op,ev L x,chk L ops N true o) = (some o,.fieldAddr t x f,some (.pointer (some p)),some d)) (hS:S w)
    (h:∀ a,K N ((d,.pointer (some (p.add off))) :: L) a → wpAnyH P .any ops Q S fuel (listed.setIfInBounds i true) a w)
    (ho:okD ops listed i = true:=by kernel_rfl) (hQ:∀ c a v w,Q (.panic c) (a.put o.dst v) w → Q (.panic c) a w:=by exact fun _ _ _ _=>id):wpAnyH P .any ops Q S (fuel + 1) listed a w:=by
 simp only [Prod.mk.injEq] at h1
 obtain ⟨a1,a2,a3,a4⟩:=h1
 exact dt hK i a1 ho a4 hS (fun c a w=>hQ c a _ w) (fun w s=>r_fa hF hK a2 a3) h
theorem sT {t n:Nat} {cs':List Value} (hs:∀ w,(sizeOf t).run P w = .ok n w) (hM:St X w0 w M) (i:Nat) {b:Nat} {e:TypeId} (hb:bx u b cs e) (off:Nat) (hK:K N L a) {x y:Operand} {p:Addr} {v:Value}
    (h1:(M[i]?,gd L ops o.guard,o.dst,o.op,ev L x,p,ev L y,splice cs off v.cells.toList,v.cells.size,Nat.ble (off + n) cs.length) = (some ([b],u),some true,none,.store t x y,some (.pointer (some p)),(⟨b,0,none⟩:Addr).add off,some v,cs',n,true))
    (h2:v.cells.toList.all Value.oneCell' = true)
    (h:∀ w' a,K N L a → Ext [b] w w' → St X w0 w' (M.set i ([b],w')) → bx w' b cs' e → wpList P ops Q rest a w'):wpList P ops Q (o :: rest) a w:=by
 simp only [Prod.mk.injEq] at h1
 obtain ⟨a1,a2,a3,a4,a5,a6,a7,a8,a9,a10⟩:=h1
 exact s_stb hs hM i hb off hK a1 a2 a3 a4 a5 a6 a7 a8 a9 a10 h2 h
theorem sB {t n sz bytes:Nat} {z:List Value} (hT:TE P t sz bytes z) (hM:St X w0 w M) (hK:K N L a) {ps:List (Nat × Operand)} {vs:List Value} {cs:List Value}
    (h1:(gd L ops o.guard,o.dst,Nat.blt d N,o.op,evs L (ps.map (·.2)),ps.map (·.1),vs.length,vs.flatMap fun v=>v.cells.toList) = (some true,some d,true,.buildSlice t n ps.toArray,some vs,List.range vs.length,n,cs))
    (hvs:∀ v ∈ vs,v.cells.size = sz)
    (h:∀ g w' e a,K N ((d,.slice (some ⟨g,0,none⟩) n n) :: L) a → St X w0 w' (([g],w') :: M) → Ext [] w w' → bx w' g cs e → wpList P ops Q rest a w') (hsm:n * sz ≤ 16777216:=by decide):wpList P ops Q (o :: rest) a w:=by
 simp only [Prod.mk.injEq] at h1
 obtain ⟨a1,a2,a3,a4,a5,a6,a7,a8⟩:=h1
 exact s_bs hT hM hK a1 a2 a3 a4 a5 a6 a7 hsm a8 hvs h
theorem en {f:FuncId} {fn:Func} {c:Code} {R:Ending → World → Prop} {vs:List Value}
    (hf:P.funcs[f]? = some fn) (hb:fn.body = some c) (hn:fn.ntmps = N) (hle:Nat.ble vs.length N = true)
    (h:∀ a,K N (argL 0 vs) a → St [] w w [] → c.wp P (bodyPost P fn R) a w):Calls P f vs.toArray w R:=enter hf hb hn hle fun a k=>h a k (St.start w)
theorem rL {t n:Nat} (hT:TA P t n) (hM:St X w0 w M) (i:Nat) {b:Nat} {e:TypeId} (hb:bx u b cs e) (off:Nat) (hK:K N L a) {y:Operand} {p:Addr} {vs:List Value}
    (h1:(M[i]?,o.op,ev L y,p,(cs.drop off).take n,vs.length) = (some ([b],u),.load t y,some (.pointer (some p)),(⟨b,0,none⟩:Addr).add off,vs,n)) :
    (execOp a.eval o).run P w = .ok (.value (.agg vs.toArray)) w:=by
 simp only [Prod.mk.injEq] at h1
 obtain ⟨a1,a2,a3,a4,a5,a6⟩:=h1
 exact r_ldB hT hM i hb off hK a1 a2 a3 a4 a5 a6
theorem St.sl (h:St X w0 w M) (is:List Nat) {M':List (List Nat × World)} (hs:selM M is = some M') (hn:is.Nodup:=by decide):St X w0 w M':=h.sel is hs hn
theorem sC (hK:K N L a) {f:FuncId} {xs:List Operand} {vs:List Value} {R:Ending → World → Prop} {tys:Array TypeId}
    (hcall:∀ (args:Array Value) (w:World),(callFunc f args).run P w = .ok (.enter f args) w)
    (h1:(gd L ops o.guard,o.dst,Nat.blt d N,o.op,evs L xs) = (some true,some d,true,.call { callee:=.value (.func f),args:=xs.toArray,argTypes:=tys },some vs))
    (hc:Calls P f vs.toArray w R) (hR:∀ e w',R e w' → ∃ v,e = .returned v ∧ ∀ a,K N ((d,v) :: L) a → wpList P ops Q rest a w'):wpList P ops Q (o :: rest) a w:=by
 simp only [Prod.mk.injEq] at h1
 obtain ⟨a1,a2,a3,a4,a5⟩:=h1
 exact s_call hK hcall a1 a2 a3 a4 a5 hc hR
theorem cC (hK:K N L a) (hM:St X w0 w M) {f:FuncId} {xs:List Operand} {vs:List Value} {v:Value} {tys:Array TypeId}
    (hcall:∀ (args:Array Value) (w:World),(callFunc f args).run P w = .ok (.enter f args) w)
    (h1:(o.op,evs L xs,chk L ops N true o) = (.call { callee:=.value (.func f),args:=xs.toArray,argTypes:=tys },some vs,some d))
    (hc:Calls P f vs.toArray w fun e w'=>e = .returned v ∧ Ext [] w w') (hR:∀ w',Ext [] w w' → ∀ a,K N ((d,v) :: L) a → St X w0 w' M → wpList P ops Q rest a w'):wpList P ops Q (o :: rest) a w:=by
 simp only [Prod.mk.injEq] at h1
 obtain ⟨a1,a2,a3⟩:=h1
 exact cE hK hM hcall a3 a1 a2 hc hR
end
end Go.Proofs.YtcboeijpplllfaaGreat
