/- Shorter words for what the printed walks say often. Own lemmas, over any program. -/
import Derived.Test.YthddjkokpfdbnaaS15
import Derived.Test.YthddjkokpfdbnaaS17
set_option linter.unusedSimpArgs false
set_option linter.unusedVariables false
namespace Go.Proofs.Ythddjkokpfdbnaa
open Go Go.RowKit
open Enc (rd ow)
section
variable {P:Program} {ops:Array Oper} {Q:Exit → Act → World → Prop} {rest:List Oper} {o o1 o2:Oper} {a:Act} {w w':World} {N:Nat} {L:List (Nat × Value)}
variable {X:List Nat} {w0:World} {M:List (List Nat × World)} {d d':Nat} {S:World → Prop} {fuel:Nat} {listed:Array Bool}
variable {α:Type} [Enc α] {F:List Nat} {cs:List Value} {x:α} {u:World}
theorem St.r (h:St [] w0 w M) (hr:rd w0 F cs x):rd w F cs x:=Enc.rd_agr hr (h.a00 (Enc.rd_lt hr))
theorem St.r1 (h:St X w0 w M) (hr:rd w0 F cs x) (hd:∀ b ∈ F,b ∉ X):rd w F cs x:=Enc.rd_agr hr (h.a0 (Enc.rd_lt hr) hd)
theorem St.q (h:St X w0 w M) (ho:ow u F cs x) (i:Nat) (hi:M[i]? = some (F,u)):rd w F cs x:=Enc.rd_agr (Enc.ow_rd ho) (h.a i hi)
theorem St.v (h:St X w0 w M) (ho:ow u F cs x) (i:Nat) (hi:M[i]? = some (F,u)):ow w F cs x:=Enc.ow_agr ho (h.a i hi)
theorem St.y (h:St X w0 w M) {b:Nat} {e:TypeId} (hb:bx u b cs e) (i:Nat) (hi:M[i]? = some ([b],u)):bx w b cs e:=hb.agr (h.a i hi) (by simp)
theorem St.here (h:St X w0 w M) (hx:∀ w,ow w F cs x):ow w F cs x:=hx w
theorem St.mu (h:St X w0 w M) (i:Nat) (hi:M[i]? = some (F,u)) (hE:Ext F w w'):St X w0 w' (M.set i (F,w')) :=
 h.mut i hi hE F (fun b hb=>⟨.inl hb,hE.lt1 (h.ltF i hi) b hb⟩) (h.ndF i hi)
theorem St.nw (h:St X w0 w M) (hE:Ext [] w w') (hl:∀ b ∈ F,w.heap.size ≤ b) (ho:ow w' F cs x):St X w0 w' ((F,w') :: M) :=
 h.new hE F (fun b hb=>⟨hl b hb,Enc.rd_lt (Enc.ow_rd ho) b hb⟩) (Enc.ow_nd ho)
theorem dT (hK:K N L a) (i:Nat) {v:Value} (hi:ops[i]? = some o) (hc:chk L ops N true o = some d) (hS:S w)
    (hy:∀ w,S w → (execOp a.eval o).run P w = .ok (.value v) w) (h:∀ a,K N ((d,v) :: L) a → wpAnyH P .any ops Q S fuel (listed.setIfInBounds i true) a w)
    (ho:okD ops listed i = true:=by kernel_rfl) (hQ:∀ c a w,Q (.panic c) (a.put o.dst v) w → Q (.panic c) a w:=by exact fun _ _ _=>id):wpAnyH P .any ops Q S (fuel + 1) listed a w :=
 dt hK i hi ho hc hS hQ hy h
theorem dM (is:List Nat) (n:Nat) {L':List (Nat × Value)} (hn:is.length = n) (hK:K N L a) (hv:runV N ops is L = some L') (hS:S w)
    (h:∀ a,K N L' a → wpAnyH P .any ops Q S fuel (setN listed is) a w) (ho:okN ops listed is = true:=by kernel_rfl)
    (hQ:∀ c (a:Act) d v w,Q (.panic c) (a.put (some d) v) w → Q (.panic c) a w:=by exact fun _ _ _ _ _=>id):wpAnyH P .any ops Q S (fuel + n) listed a w :=
 dN is n hn hK ho hv hS hQ h
theorem fC {β:Type} {p:β → Prop} {y:β} {l:List β} (h1:p y) (h2:∀ z ∈ l,p z):∀ z ∈ y :: l,p z:=List.forall_mem_cons.2 ⟨h1,h2⟩
theorem fN {β:Type} {p:β → Prop}:∀ z ∈ ([]:List β),p z:=List.forall_mem_nil _
abbrev pt (b:Nat):Value:=.pointer (some ⟨b,0,none⟩)
theorem fl {t t':TypeId} {f off:Nat} (hF:FA P t f off) (hT:T1 P t') (hM:St X w0 w M) (i:Nat) {b:Nat} {e:TypeId} (hb:bx u b cs e) (hK:K N L a) {y y':Operand} {v:Value}
    (h1:(o1.op,ev L y,chk L ops N true o1,M[i]?) = (.fieldAddr t y f,some (.pointer (some (⟨b,0,none⟩:Addr))),some d,some ([b],u)))
    (h2:(o2.op,ev ((d,.pointer (some ((⟨b,0,none⟩:Addr).add off))) :: L) y',chk ((d,.pointer (some ((⟨b,0,none⟩:Addr).add off))) :: L) ops N true o2,cs[off]?) = (.load t' y',some (.pointer (some ((⟨b,0,none⟩:Addr).add off))),some d',some v))
    (h:∀ a,K N ((d',v) :: (d,.pointer (some ((⟨b,0,none⟩:Addr).add off))) :: L) a → wpList P ops Q rest a w):wpList P ops Q (o1 :: o2 :: rest) a w:=by
 simp only [Prod.mk.injEq] at h1 h2
 obtain ⟨a1,a2,a3,a4⟩:=h1
 obtain ⟨b1,b2,b3,b4⟩:=h2
 exact sv hK a3 (r_fa hF hK a1 a2) fun a hK=>sv hK b3 (r_ldb hT hM i hb off hK a4 b1 b2 rfl b4) h
end
end Go.Proofs.Ythddjkokpfdbnaa
