/- RenamedBP: plain lem.. -/
import Derived.Test.YtndfoffokpdjeaaGreatDoorRenamedBP4
set_option linter.unusedSimpArgs false
set_option linter.unusedVariables false
namespace Go.Proofs.YtndfoffokpdjeaaGreatDoor
open Go
open Enc (rd ow)
open Arg (argv)
open Ret (retv)
open Wf (wf)
def Q13 (p:ByteArray×List Int):ByteArray:=Qro p.1 p.2
def Qys (p:ByteArray×List Int):ByteArray:=Qro p.1 p.2++nl1
theorem Qzw {w:ByteArray} {l:List Int} {o:List ByteArray} (hk:Qid l=true) (hw:w.size≤7) (hl:l.length≤7) (ho:o.length≤1000):Qa8 2097153 w l true o=some (true,o++[Qro w l++nl1]):=by
 unfold Qa8
 rw [Jbt w (by omega) (by omega) (by omega) (Qse hk),Qaa,cond_true]
 unfold Qgp
 rw [ap1 (by simp; omega),Qaa]
theorem Jjy (X:List (List UInt8)):Lib.join X []=X.flatten:=by
 cases X with
 | nil=>rfl
 | cons x r=>rw [Lib.join_cons,List.flatten_cons]; simp [Lib.joinTail]
theorem Jb2:∀ (l:List ByteArray),(∀ x∈l,x.size≤200)→((l.map (·.data.toList)).flatten).length≤200*l.length
 | [],_=>by simp
 | x::l,h=>by
  have h1:=Jb2 l λy hy=>h y (by simp [hy])
  have h2:=h x (by simp)
  have h3:=Qxr x
  simp only [List.map_cons,List.flatten_cons,List.length_append,List.length_cons]
  omega
def Jco (o:List ByteArray):Option ByteArray:=some (ofL ((o.map (·.data.toList)).flatten))
theorem Jg2 {o:List ByteArray} (h:∀ x∈o,x.size≤200) (hl:o.length≤1000):(Qab (Qo3 2097153 o emB) λx=>some x)=Jco o:=by
 have:=Jb2 o h
 unfold Qo3 Ja3
 rw [show emB.data.toList=[] from rfl,Jjy,if_pos ⟨by omega,by omega⟩]
 rfl
section
variable {r:Request}
theorem Jha (hk:∀ x∈r.fV,Qid (Qvp x)=true) {o:List ByteArray} (ho:(∀ x∈o,x.size≤200)∧o.length+r.fV.length≤900):Qd0 2097153 r 2097153 o true 0=Jco (o++r.fV.map λx=>Qys (Qx7,Qvp x)):=by
 have key:=lpI r.fV (λk (s:List ByteArray) i=>Qd0 2097153 r k s true i) (λxs s=>Jco (s++xs.map λx=>Qys (Qx7,Qvp x))) (λxs s=>(∀ x∈xs,Qid (Qvp x)=true)∧(∀ x∈s,x.size≤200)∧s.length+xs.length≤900) (by omega) ?_ ?_ 2097153 o ⟨hk,ho.1,ho.2⟩ (by omega)
 · exact key
 · intro k s i x xs hx hd hI ih
   obtain ⟨i1,i2,i3⟩:=hI
   simp only [List.length_cons] at i3
   have hx1:=i1 x (by simp)
   simp only [Qd0.eq_2]
   unfold Qh5
   rw [hd,cond_true,hx,Qaa]
   show Qab (Qa8 2097153 Qx7 (Qvp x) true s) _=_
   rw [Qzw hx1 (by decide) (by simp [Qvp]) (by omega),Qaa]
   have hz:=Qsp hx1 (w:=Qx7) (by decide) (by simp [Qvp])
   have:=ih (s++[Qys (Qx7,Qvp x)]) ⟨λy hy=>i1 y (by simp [hy]),λy hy=>by
    rcases List.mem_append.1 hy with hy | hy
    · exact i2 y hy
    · rw [List.mem_singleton.1 hy]; exact Nat.le_trans hz (by omega),by simp; omega⟩
   rw [List.append_assoc] at this
   exact this
 · intro k s i hd hI
   obtain ⟨_,i2,i3⟩:=hI
   simp only [Qd0.eq_2]
   unfold Qh5
   rw [hd,cond_false]
   show (Qab (Qo3 2097153 s emB) λx=>some x)=_
   rw [Jg2 i2 (by simp at i3; omega)]
   simp
theorem Jgx (hk:∀ x∈r.fV,Qid (Qvp x)=true) (hm:Qid [r.fR]=true) (ht:∀ x∈r.fG,Qid (Qy5 x)=true) {o:List ByteArray} (ho:(∀ x∈o,x.size≤200)∧o.length+(r.fG.length+r.fV.length)≤800) :
    Qdz 2097153 r 2097153 o true 0=Jco (o++(r.fG.map (λx=>Qys (Qyc,Qy5 x))++(Qys (Qzx,[r.fR])::r.fV.map λx=>Qys (Qx7,Qvp x)))):=by
 have key:=lpI r.fG (λk (s:List ByteArray) i=>Qdz 2097153 r k s true i) (λxs s=>Jco (s++(xs.map (λx=>Qys (Qyc,Qy5 x))++(Qys (Qzx,[r.fR])::r.fV.map λx=>Qys (Qx7,Qvp x))))) (λxs s=>(∀ x∈xs,Qid (Qy5 x)=true)∧(∀ x∈s,x.size≤200)∧s.length+(xs.length+r.fV.length)≤800) (by omega) ?_ ?_ 2097153 o ⟨ht,ho.1,ho.2⟩ (by omega)
 · exact key
 · intro k s i x xs hx hd hI ih
   obtain ⟨i1,i2,i3⟩:=hI
   simp only [List.length_cons] at i3
   have hx1:=i1 x (by simp)
   simp only [Qdz.eq_2]
   unfold Qh0
   rw [hd,cond_true,hx,Qaa]
   show Qab (Qa8 2097153 Qyc (Qy5 x) true s) _=_
   rw [Qzw hx1 (by decide) (by simp [Qy5]) (by omega),Qaa]
   have hz:=Qsp hx1 (w:=Qyc) (by decide) (by simp [Qy5])
   have:=ih (s++[Qys (Qyc,Qy5 x)]) ⟨λy hy=>i1 y (by simp [hy]),λy hy=>by
    rcases List.mem_append.1 hy with hy | hy
    · exact i2 y hy
    · rw [List.mem_singleton.1 hy]; exact Nat.le_trans hz (by omega),by simp; omega⟩
   rw [List.append_assoc] at this
   exact this
 · intro k s i hd hI
   obtain ⟨_,i2,i3⟩:=hI
   simp only [List.length_nil] at i3
   simp only [Qdz.eq_2]
   unfold Qh0
   rw [hd,cond_false]
   show Qab (Qa8 2097153 Qzx [r.fR] true s) _=_
   rw [Qzw hm (by decide) (by simp) (by omega),Qaa]
   have hz:=Qsp hm (w:=Qzx) (by decide) (by simp)
   have:=Jha hk (o:=s++[Qys (Qzx,[r.fR])]) ⟨λy hy=>by
    rcases List.mem_append.1 hy with hy | hy
    · exact i2 y hy
    · rw [List.mem_singleton.1 hy]; exact Nat.le_trans hz (by omega),by simp; omega⟩
   rw [List.append_assoc] at this
   exact this
theorem Q1j:∀ (ps:List (ByteArray×List Int)) (o:ByteArray),(∀ p∈ps,Qid p.2=true)→(Jcd ps o).data.toList=o.data.toList++((ps.map Qys).map (·.data.toList)).flatten
 | [],o,_=>by simp [Jcd]
 | p::ps,o,h=>by
  rw [Jcd,if_pos (h p (by simp)),Q1j ps _ λq hq=>h q (by simp [hq]),Q91]
  simp [Qys]
theorem Jiw (hw:inb r.fO 0 1=true) (hk:∀ p∈Qqq r,Qid p.2=true) (hn:r.fT.length+(r.fG.length+r.fV.length)≤50):Qel 2097153 r=some (Q6c r):=by
 have hb:=Qcd.1 hw
 have kp:Qid (Q5t r.fJ)=true:=hk (Qzk,_) (List.mem_append_left _ List.mem_cons_self)
 have kc:Qid [r.fU]=true:=hk (Q1p,_) (List.mem_append_left _ (List.mem_cons_of_mem _ List.mem_cons_self))
 have km:Qid [r.fR]=true:=hk (Qzx,_) (by simp [Qqq])
 have kr:∀ p∈r.fT,Qid [p.fA,p.fB]=true:=λp hp=>hk (Q0n,_) (by simp only [Qqq,List.mem_append,List.mem_map]; exact .inr (.inl ⟨p,hp,rfl⟩))
 have kt:∀ t∈r.fG,Qid (Qy5 t)=true:=λt ht=>hk (Qyc,_) (by simp only [Qqq,List.mem_append,List.mem_map]; exact .inr (.inr (.inl ⟨t,ht,rfl⟩)))
 have ki:∀ x∈r.fV,Qid (Qvp x)=true:=λx hx=>hk (Qx7,_) (by simp only [Qqq,List.mem_append,List.mem_cons,List.mem_map]; exact .inr (.inr (.inr (.inr ⟨x,hx,rfl⟩))))
 unfold Qel
 rw [Qyd,Qaa,hw,Bool.not_true,cond_false]
 have e0:ix (([(⟨#[119,97,121,32,102,105,114,115,116,10]⟩:ByteArray),(⟨#[119,97,121,32,110,101,120,116,10]⟩:ByteArray)]:List ByteArray)) r.fO=some (Q8t r.fO):=by
  have:r.fO=0∨r.fO=1:=by omega
  rcases this with e | e <;> rw [e] <;> rfl
 have hws:(Q8t r.fO).size≤20:=by unfold Q8t; split <;> decide
 rw [e0,Qaa]
 show Qab (Qa8 2097153 Qzk (Q5t r.fJ) true [Q8t r.fO]) _=_
 rw [Qzw kp (by decide) (by simp [Q5t]) (by simp),Qaa]
 show Qab (Qa8 2097153 Q1p [r.fU] true ([Q8t r.fO]++[Qys (Qzk,Q5t r.fJ)])) _=_
 rw [Qzw kc (by decide) (by simp) (by simp),Qaa]
 have z1:=Qsp kp (w:=Qzk) (by decide) (by simp [Q5t])
 have z2:=Qsp kc (w:=Q1p) (by decide) (by simp)
 have key:=lpI r.fT (λk (s:List ByteArray) i=>Qev 2097153 r k s true i) (λxs s=>Jco (s++(xs.map (λp=>Qys (Q0n,[p.fA,p.fB]))++(r.fG.map (λx=>Qys (Qyc,Qy5 x))++(Qys (Qzx,[r.fR])::r.fV.map λx=>Qys (Qx7,Qvp x)))))) (λxs s=>(∀ p∈xs,Qid [p.fA,p.fB]=true)∧(∀ x∈s,x.size≤200)∧s.length+xs.length≤60) (by omega) ?_ ?_ 2097153 ([Q8t r.fO]++[Qys (Qzk,Q5t r.fJ)]++[Qys (Q1p,[r.fU])]) ⟨kr,λy hy=>by
  simp only [List.mem_append,List.mem_singleton] at hy
  rcases hy with (rfl | rfl) | rfl
  · omega
  · exact Nat.le_trans z1 (by omega)
  · exact Nat.le_trans z2 (by omega),by simp; omega⟩ (by omega)
 · refine Eq.trans (b:=_) key ?_
   unfold Jco Q6c
   rw [hw,cond_true]
   congr 1
   apply Jln
   rw [Q1j _ _ hk]
   simp only [Qqq,List.map_append,List.map_cons,List.map_nil,List.map_map,Jbc,List.flatten_append,List.flatten_cons,List.flatten_nil,List.append_assoc,List.append_nil,List.nil_append,List.cons_append,List.singleton_append]
   rfl
 · intro k s i p xs hx hd hI ih
   obtain ⟨i1,i2,i3⟩:=hI
   simp only [List.length_cons] at i3
   have hx1:=i1 p (by simp)
   simp only [Qev.eq_2]
   unfold Qhz
   simp only [hd,cond_true,hx,Qaa]
   show Qab (Qa8 2097153 Q0n [p.fA,p.fB] true s) _=_
   rw [Qzw hx1 (by decide) (by simp) (by omega),Qaa]
   have hz:=Qsp hx1 (w:=Q0n) (by decide) (by simp)
   have:=ih (s++[Qys (Q0n,[p.fA,p.fB])]) ⟨λy hy=>i1 y (by simp [hy]),λy hy=>by
    rcases List.mem_append.1 hy with hy | hy
    · exact i2 y hy
    · rw [List.mem_singleton.1 hy]; exact Nat.le_trans hz (by omega),by simp; omega⟩
   rw [List.append_assoc] at this
   exact this
 · intro k s i hd hI
   obtain ⟨_,i2,i3⟩:=hI
   simp only [Qev.eq_2]
   unfold Qhz
   rw [hd,cond_false]
   exact Jgx ki km kt (o:=s) ⟨i2,by simp at i3; omega⟩
end
theorem Q9v {w:ByteArray} {n:List Int} (hw:(10:UInt8)∉w.data.toList) (h:∀ x∈n,0≤x):(10:UInt8)∉(Qro w n).data.toList:=by
 rw [Qxw]
 intro hm
 rcases List.mem_append.1 hm with hm | hm
 · exact hw hm
 · obtain ⟨l,hl,hm⟩:=List.mem_flatten.1 hm
   obtain ⟨m,hmm,rfl⟩:=List.mem_map.1 hl
   rcases List.mem_cons.1 hm with e | e
   · exact absurd e (by decide)
   · exact (Q2d (h m hmm)).2 e
theorem Qvi {w:ByteArray} {l:List Int} (hw:(32:UInt8)∉w.data.toList) (hk:Qid l=true):wrd w l.length (Qro w l)=some l :=
 Jh0 (Qse hk) (Jaf hw λx hx=>(Qse hk x hx).1)
theorem Qzi {w:ByteArray} {l:List Int} (hk:Qid l=true) (hw:w.size≤7) (hl:l.length≤7):(Qro w l).size≤1048576:=by
 have:=Qus l w (Qse hk)
 omega
theorem Qzt:∀ (xs:List Item) (last:Int) (r:Request) (i:Int),(last=5∨last=6)→(∀ x∈xs,Qid (Qvp x)=true) →
    Q1q emB (xs.map λx=>Q13 (Qx7,Qvp x)) last r i=(⟨r.fO,r.fJ,r.fU,r.fT,r.fG,r.fR,r.fV++xs⟩,-1)
 | [],last,r,i,hl,_=>by
  rw [List.map_nil,Q1q,if_neg (by omega),if_pos rfl,List.append_nil]
 | x::xs,last,r,i,hl,h=>by
  have hx:=h x (by simp)
  rw [List.map_cons,Qsi (l:=Q13 (Qx7,Qvp x)) (Jec (Qzi hx (by decide) (by simp [Qvp])) (Qvi (l:=Qvp x) (by decide) hx) r) (by rcases hl with rfl | rfl <;> rfl),Qzt xs 6 _ _ (.inr rfl) λy hy=>h y (by simp [hy])]
  simp only [List.append_assoc,List.singleton_append]
  rfl
theorem Qzl {m:Int} {xs:List Item} (hm:Qid [m]=true) (hx:∀ x∈xs,Qid (Qvp x)=true):∀ (ts:List Typ) (last:Int) (r:Request) (i:Int),(last=2∨last=3∨last=4)→(∀ t∈ts,Qid (Qy5 t)=true) →
    Q1q emB (ts.map (λt=>Q13 (Qyc,Qy5 t))++(Q13 (Qzx,[m])::xs.map λx=>Q13 (Qx7,Qvp x))) last r i=(⟨r.fO,r.fJ,r.fU,r.fT,r.fG++ts,m,r.fV++xs⟩,-1)
 | [],last,r,i,hl,_=>by
  rw [List.map_nil,List.nil_append,Qsi (l:=Q13 (Qzx,[m])) (Jda (Qzi hm (by decide) (by simp)) (Qvi (l:=[m]) (by decide) hm) r) (by rcases hl with rfl | rfl | rfl <;> rfl),Qzt xs 5 _ _ (.inl rfl) hx,List.append_nil]
  rfl
 | t::ts,last,r,i,hl,h=>by
  have ht:=h t (by simp)
  rw [List.map_cons,List.cons_append,Qsi (l:=Q13 (Qyc,Qy5 t)) (Jcv (Qzi ht (by decide) (by simp [Qy5])) (Qvi (l:=Qy5 t) (by decide) ht) r) (by rcases hl with rfl | rfl | rfl <;> rfl),Qzl hm hx ts 4 _ _ (.inr (.inr rfl)) λy hy=>h y (by simp [hy])]
  simp only [List.append_assoc,List.singleton_append]
  rfl
theorem Qzg {m:Int} {xs:List Item} {ts:List Typ} (hm:Qid [m]=true) (hx:∀ x∈xs,Qid (Qvp x)=true) (ht:∀ t∈ts,Qid (Qy5 t)=true):∀ (ps:List Pair) (last:Int) (r:Request) (i:Int),(last=2∨last=3)→(∀ p∈ps,Qid [p.fA,p.fB]=true) →
    Q1q emB (ps.map (λp=>Q13 (Q0n,[p.fA,p.fB]))++(ts.map (λt=>Q13 (Qyc,Qy5 t))++(Q13 (Qzx,[m])::xs.map λx=>Q13 (Qx7,Qvp x)))) last r i=(⟨r.fO,r.fJ,r.fU,r.fT++ps,r.fG++ts,m,r.fV++xs⟩,-1)
 | [],last,r,i,hl,_=>by
  rw [List.map_nil,List.nil_append,Qzl hm hx ts last r i (by omega) ht,List.append_nil]
 | p::ps,last,r,i,hl,h=>by
  have hp:=h p (by simp)
  rw [List.map_cons,List.cons_append,Qsi (l:=Q13 (Q0n,[p.fA,p.fB])) (Jdd (Qzi hp (by decide) (by simp)) (Qvi (l:=[p.fA,p.fB]) (by decide) hp) r) (by rcases hl with rfl | rfl <;> rfl),Qzg hm hx ht ps 3 _ _ (.inr rfl) λy hy=>h y (by simp [hy])]
  simp only [List.append_assoc,List.singleton_append]
  rfl
theorem Je3 {r:Request} (hw:inb r.fO 0 1=true) (hk:∀ p∈Qqq r,Qid p.2=true) (hn:r.fT.length+(r.fG.length+r.fV.length)≤50):rdM (Q6c r)=(r,-1):=by
 have hb:=Qcd.1 hw
 have kp:Qid (Q5t r.fJ)=true:=hk (Qzk,_) (List.mem_append_left _ List.mem_cons_self)
 have kc:Qid [r.fU]=true:=hk (Q1p,_) (List.mem_append_left _ (List.mem_cons_of_mem _ List.mem_cons_self))
 have km:Qid [r.fR]=true:=hk (Qzx,_) (by simp [Qqq])
 have kr:∀ p∈r.fT,Qid [p.fA,p.fB]=true:=λp hp=>hk (Q0n,_) (by simp only [Qqq,List.mem_append,List.mem_map]; exact .inr (.inl ⟨p,hp,rfl⟩))
 have kt:∀ t∈r.fG,Qid (Qy5 t)=true:=λt ht=>hk (Qyc,_) (by simp only [Qqq,List.mem_append,List.mem_map]; exact .inr (.inr (.inl ⟨t,ht,rfl⟩)))
 have ki:∀ x∈r.fV,Qid (Qvp x)=true:=λx hx=>hk (Qx7,_) (by simp only [Qqq,List.mem_append,List.mem_cons,List.mem_map]; exact .inr (.inr (.inr (.inr ⟨x,hx,rfl⟩))))
 have w10:∀ p∈Qqq r,(10:UInt8)∉p.1.data.toList:=λp hp=>by
  unfold Qqq at hp
  simp only [List.mem_append,List.mem_cons,List.not_mem_nil,or_false,List.mem_map] at hp
  rcases hp with (rfl | rfl) | ⟨_,_,rfl⟩ | ⟨_,_,rfl⟩ | rfl | ⟨_,_,rfl⟩
  · exact (by decide:(10:UInt8)∉Qzk.data.toList)
  · exact (by decide:(10:UInt8)∉Q1p.data.toList)
  · exact (by decide:(10:UInt8)∉Q0n.data.toList)
  · exact (by decide:(10:UInt8)∉Qyc.data.toList)
  · exact (by decide:(10:UInt8)∉Qzx.data.toList)
  · exact (by decide:(10:UInt8)∉Qx7.data.toList)
 have ew:∃ w0:ByteArray,Q8t r.fO=w0++nl1∧(10:UInt8)∉w0.data.toList∧ptl R0 w0=(0,⟨r.fO,⟨0,0,0,0⟩,0,[],[],0,[]⟩):=by
  have:r.fO=0∨r.fO=1:=by omega
  rcases this with e | e
  · exact ⟨wWF,by rw [e]; rfl,by decide,by rw [e]; unfold ptl; rw [if_pos rfl]; rfl⟩
  · exact ⟨wWN,by rw [e]; rfl,by decide,by rw [e]; unfold ptl; rw [if_neg (by decide),if_pos rfl]; rfl⟩
 obtain ⟨w0,e1,e2,e3⟩:=ew
 have hp:Qrf 10 (Q6c r)=(w0::(Qqq r).map Q13)++[emB]:=by
  unfold Qrf
  have el:(Q6c r).data.toList=((w0.data.toList::(Qqq r).map λp=>(Q13 p).data.toList).map λx=>x++[10]).flatten:=by
   unfold Q6c
   rw [hw,cond_true,Q1j _ _ hk,e1,Q91,List.map_cons,List.flatten_cons,List.map_map,List.map_map]
   congr 2
  rw [el,Q2a _ λx hx=>by
   rcases List.mem_cons.1 hx with rfl | hx
   · exact e2
   · obtain ⟨p,hp,rfl⟩:=List.mem_map.1 hx
     exact Q9v (w10 p hp) λy hy=>(Qse (hk p hp) y hy).1]
  simp only [List.map_append,List.map_cons,List.map_nil,List.map_map]
  rfl
 have hlen:(Qqq r).length≤55:=by simp [Qqq]; omega
 unfold rdM
 rw [hp,if_neg (by simp; omega),List.dropLast_concat]
 have:((w0::(Qqq r).map Q13)++[emB]).getLastD emB=emB:=by rw [List.getLastD_eq_getLast?,List.getLast?_concat]; rfl
 rw [this,Qsi e3 rfl]
 simp only [Qqq,List.map_append,List.map_cons,List.map_nil,List.map_map,List.cons_append,List.nil_append]
 rw [Qsi (l:=Q13 (Qzk,Q5t r.fJ)) (Jc4 (Qzi kp (by decide) (by simp [Q5t])) (Qvi (l:=Q5t r.fJ) (by decide) kp) _) rfl,Qsi (l:=Q13 (Q1p,[r.fU])) (Jcu (Qzi kc (by decide) (by simp)) (Qvi (l:=[r.fU]) (by decide) kc) _) rfl]
 exact Qzg km ki kt r.fT 2 _ _ (.inl rfl) kr
def inB (n lo hi:Int):Bool:=decide (lo≤n∧n≤hi)
theorem Q3l {n lo hi:Int}:inB n lo hi=true↔lo≤n∧n≤hi:=by simp [inB]
theorem Jcr (fu:Nat) (n lo hi:Int):Qa1 fu n lo hi=some (inB n lo hi):=by
 unfold Qa1 inB
 by_cases h:n≥lo
 · rw [Qa2 (by simpa using h)]
   have:lo≤n:=h
   simp [this]
 · rw [Qah (by simpa using h)]
   have:¬ lo≤n:=h
   simp [this]
theorem Q95 (fu:Nat) (n lo hi:Int):Qar fu n lo hi=some (inB n lo hi):=Jcr fu n lo hi
def Qsj (p:Pallet):Bool:=inB p.fW 1 2000&&(inB p.fD 1 2000&&(inB p.fH 1 2000&&inB p.fQ 1 100000))
def Jfj (p:Pallet) (b:Box):Bool:=inB b.fW 1 p.fW&&(inB b.fD 1 p.fD&&(inB b.fH 1 p.fH&&inB b.fQ 1 p.fQ))
def Q4j (p:Pallet) (l:List Box):Bool:=Qsj p&&l.all (Jfj p)
theorem Qrq (fu:Nat) (p:Pallet):Qek fu p=some (Qsj p):=by
 unfold Qek Qds Qsj
 simp only [Q95,Qaa]
 cases inB p.fW 1 2000 <;> cases inB p.fD 1 2000 <;> cases inB p.fH 1 2000 <;> rfl
theorem Q3w (fu:Nat) (b:Box) (p:Pallet):Qlm fu b p=some (!Jfj p b):=by
 unfold Qlm Jfj
 simp only [Q95,Qaa]
 cases inB b.fW 1 p.fW <;> cases inB b.fD 1 p.fD <;> cases inB b.fH 1 p.fH <;> rfl
theorem Qy3 (fu:Nat) (l:List Box) (f:Box→Option Bool) (g:Box→Bool) (hg:∀ b,f b=some (g b)) (h:l.length≤1048576) (hf:l.length<fu) :
    Qbp fu l f=some (l.any g):=by
 unfold Qbp Qcx
 have key:∀ (m i n:Nat),l.length - i=m→i≤l.length→m<n→∃ r,Qaq fu l f n i=some r∧decide (r≥0)=(l.drop i).any g:=by
  intro m
  induction m with
  | zero =>
   intro i n hm hi hn
   obtain ⟨n,rfl⟩:∃ k,n=k+1:=⟨n - 1,by omega⟩
   rw [Qaq.eq_2]
   unfold Qcc
   rw [Qah (by simp; omega),List.drop_eq_nil_of_le (by omega)]
   exact ⟨_,rfl,rfl⟩
  | succ m ih =>
   intro i n hm hi hn
   obtain ⟨n,rfl⟩:∃ k,n=k+1:=⟨n - 1,by omega⟩
   have hlt:i<l.length:=by omega
   rw [Qaq.eq_2]
   unfold Qcc
   rw [Qa2 (by simpa using hlt),Jcy (Jds (List.getElem?_eq_getElem hlt)),hg,Qaa,List.drop_eq_getElem_cons hlt,List.any_cons]
   cases hgx:g l[i]
   · rw [Qah rfl,Qay (by omega) (by omega),Bool.false_or]
     have:=ih (i+1) n (by omega) (by omega) (by omega)
     simpa using this
   · rw [Qa2 rfl]
     exact ⟨_,rfl,by simp⟩
 obtain ⟨r,h1,h2⟩:=key l.length 0 fu (by omega) (by omega) hf
 have h1':Qaq fu l f fu 0=some r:=h1
 rw [h1',Qaa,h2]
 rfl
theorem Qtp (fu:Nat) (p:Pallet) (l:List Box) (h:l.length≤1048576) (hf:l.length<fu):Qlx fu p l=some (Q4j p l):=by
 unfold Qlx Q4j
 rw [Qrq,Qaa]
 cases Qsj p
 · rfl
 rw [Qa2 rfl,Qy3 fu l _ (λb=>!Jfj p b) (λb=>Q3w fu b p) h hf,Qaa,Bool.true_and]
 congr 1
 induction l with
 | nil=>rfl
 | cons x xs ih =>
  simp only [List.any_cons,List.all_cons,Bool.not_or,Bool.not_not]
  rw [ih (by simp at h; omega) (by simp at hf; omega)]
theorem Jbe (p:Pallet) (l:List Box):Q4j p l=Qya p l:=by
 have e:∀ a b c:Int,inB a b c=inb a b c:=λa b c=>Bool.eq_iff_iff.2 (by rw [Q3l,Qcd])
 have e2:Jfj p=Jah p:=by funext b; unfold Jfj Jah; simp only [e]
 unfold Q4j Qya Qsj Qtn
 simp only [e,e2]
theorem Jeh (a b:Int):(if b>a then b else a)=mxI a b:=by unfold mxI; split <;> split <;> omega
theorem Q1d {α:Type} (l:List α) (j:Nat) (a:α):Qim l (j:Int) a=l.set j a:=by simp [Qim]
theorem Jbm {fu:Nat} {k8:List Shelf→Int→Option (List Shelf)} {x i:Int} {b:Box} {o:List Shelf} {j:Nat} {s:Shelf} (hs:o[j]? = some s) (hl:s.f9.length≤1000000)
    (h1:-1000000000≤s.fW+b.fW∧s.fW+b.fW≤1000000000) (h2:-1000000000≤s.fQ+b.fQ∧s.fQ+b.fQ≤1000000000):Qdc fu k8 x i b o (j:Int)=k8 (o.set j (Qre s i b)) (w64 (x+1)):=by
 unfold Qdc Qny
 rw [Qlf,hs,Qaa,ap1 (by simp; omega),Qaa]
 simp only [Qaa,Q1d,List.set_set,Jeh]
 rw [Qay (n:=s.fW+b.fW) (by omega) (by omega),Qay (n:=s.fQ+b.fQ) (by omega) (by omega)]
 rfl
theorem Q72 {fu:Nat} (hfu:2097153≤fu) (p:Pallet) (l:List Box) (hl:l.length<20):Qol fu p l=some (shM p l):=by
 unfold Qol shM
 rw [Qtp fu p l (by omega) (by omega),Qaa,Jbe]
 cases hb:Qya p l
 · rfl
 · rw [Bool.not_true,cond_false,cond_true]
   have key:=lpI l (λn (o:List Int) i=>Qgc fu p l n o i) (λxs o=>Qab (Qgo fu (o++xs.map (·.fD))) λx=>Qby fu p l x fu [] 0) (λxs o=>o.length+xs.length≤1000) (by omega) ?_ ?_ fu [] (by simp; omega) (by omega)
   · rw [key,List.nil_append,Jbr hfu (by simp; omega),Qaa,List.length_map]
     have hsl:=Qr4 (dnk (l.map (·.fD))) l.length
     have hsm:=λx=>Qu4 (k:=dnk (l.map (·.fD))) (n:=l.length) (x:=x)
     generalize srt (dnk (l.map (·.fD))) l.length=S at hsl hsm ⊢
     refine lpI S (λn (o:List Shelf) i=>Qby fu p l S n o i) (λxs o=>some (xs.foldl (shS p l) o)) (λxs o=>(∀ i∈xs,0≤i∧i<l.length)∧(∀ s∈o,ShI p l.length s)∧((o.map (·.f9)).flatten).length+xs.length≤1000∧o.length+xs.length≤1000) (by omega) ?_ ?_ fu [] ⟨λi hi=>(hsm i).1 hi,by simp,by simp; omega,by simp; omega⟩ (by omega)
     · intro n o i x xs hx hd hI ih
       obtain ⟨i1,i2,i3,i4⟩:=hI
       simp only [List.length_cons] at i3 i4
       have hxi:=i1 x (by simp)
       obtain ⟨hbx,b1,b2,b3,b4⟩:=Q1x hb hxi
       obtain ⟨p1,p2,p3,p4⟩:=Qvw (Q0a hb)
       have hflat:((shS p l o x).map (·.f9)).flatten=(o.map (·.f9)).flatten++[x]:=Qrm (λs=>rfl) rfl
       have hlen:(shS p l o x).length≤o.length+1:=Qsk _ _ _ _
       have ih':=ih (shS p l o x) ⟨λj hj=>i1 j (by simp [hj]),Q3t hb hxi i2,by rw [hflat,List.length_append,List.length_singleton]; omega,by omega⟩
       simp only [Qby.eq_2]
       unfold Qj9
       rw [hd,cond_true,hx,Qaa,hbx,Qaa,List.foldl_cons,← ih']
       have hnew:∀ o':List Shelf,o'.length≤1000→Qdc fu (λo i=>Qby fu p l S n o i) i x (bxA l x) (o'++[zSh]) ((o'.length:Nat):Int)=Qby fu p l S n (o'++[Qre zSh x (bxA l x)]) (w64 (i+1)):=λo' ho'=>by
        rw [Jbm (s:=zSh) (by simp) (by simp [zSh]) (by simp [zSh]; omega) (by simp [zSh]; omega)]
        simp
       by_cases he:o=[]
       · subst he
         rw [Qa2 (by decide),ap1 (by simp),Qaa]
         exact hnew [] (by simp)
       · obtain ⟨s,e1,e2⟩:=Qtb he
         have hp:=List.length_pos_iff.2 he
         have hsm':=List.mem_of_getLast? e1
         have hs:=i2 s hsm'
         have hsl':=Qqn (λs:Shelf=>s.f9) o s hsm'
         have eS:shS p l o x=bif Q5h p (bxA l x) s then o.set (o.length - 1) (Qre s x (bxA l x)) else o++[Qre zSh x (bxA l x)]:=Qtg e1
         have e3:w64 ((o.length:Int) - 1)=((o.length - 1:Nat):Int):=by rw [Qay (by omega) (by omega)]; omega
         have e4:w64 (((o.length - 1:Nat):Int)+1)=((o.length:Nat):Int):=by rw [Qay (by omega) (by omega)]; omega
         have e5:o[o.length - 1]? = some s:=by rw [← List.getLast?_eq_getElem?]; exact e1
         obtain ⟨s1,s2,s3,s4,s5,s6⟩:=hs
         rw [e3,e4,Qah (by simp),Qlf,e5,Qaa,Qay (n:=s.fW+_) (by omega) (by omega),Qay (n:=s.fQ+_) (by omega) (by omega),ap1 (by simp; omega),Qaa,eS]
         unfold Q5h
         have c1:decide (s.fW+(bxA l x).fW>p.fW)=!decide (s.fW+(bxA l x).fW≤p.fW):=by
          by_cases h:s.fW+(bxA l x).fW≤p.fW <;> simp [h] <;> omega
         have c2:decide (s.fQ+(bxA l x).fQ>p.fQ)=!decide (s.fQ+(bxA l x).fQ≤p.fQ):=by
          by_cases h:s.fQ+(bxA l x).fQ≤p.fQ <;> simp [h] <;> omega
         rw [c1,c2,Qaa]
         have h1:=hnew o (by omega)
         have h2:Qdc fu (λo i=>Qby fu p l S n o i) i x (bxA l x) o ((o.length - 1:Nat):Int)=Qby fu p l S n (o.set (o.length - 1) (Qre s x (bxA l x))) (w64 (i+1)):=Jbm e5 (by omega) (by omega) (by omega)
         cases decide (s.fW+(bxA l x).fW≤p.fW)
         · exact h1
         · cases decide (s.fQ+(bxA l x).fQ≤p.fQ)
           · exact h1
           · exact h2
     · intro n o i hd _
       simp only [Qby.eq_2]
       unfold Qj9
       rw [hd,cond_false]; rfl
   · intro n o i x xs hx hd hI ih
     simp only [List.length_cons] at hI
     simp only [Qgc.eq_2]
     unfold Qk4
     rw [hd,cond_true,hx,Qaa,ap1 (by simp; omega),Qaa,ih _ (by simp; omega)]
     simp
   · intro n o i hd _
     simp only [Qgc.eq_2]
     unfold Qk4
     rw [hd,cond_false]; simp
theorem Jbl {fu:Nat} {k7:List Layer→Int→Option (List Layer)} {i:Int} {b:Shelf} {o:List Layer} {j:Nat} {s:Layer} (hs:o[j]? = some s) (hl:s.fP.length≤1000000)
    (h1:-1000000000≤s.fD+b.fD∧s.fD+b.fD≤1000000000) (h2:-1000000000≤s.fQ+b.fQ∧s.fQ+b.fQ≤1000000000):Qcz fu k7 i b o (j:Int)=k7 (o.set j (Qr7 s i b)) (w64 (i+1)):=by
 unfold Qcz Ql6
 rw [Qlf,hs,Qaa,ap1 (by simp; omega),Qaa]
 simp only [Qaa,Q1d,List.set_set,Jeh]
 rw [Qay (n:=s.fD+b.fD) (by omega) (by omega),Qay (n:=s.fQ+b.fQ) (by omega) (by omega)]
 rfl
theorem Qv3 (fu:Nat) (l:List Shelf) (f:Shelf→Option Bool) (g:Shelf→Bool) (hg:∀ b,f b=some (g b)) (h:l.length≤1048576) (hf:l.length<fu) :
    Qbe fu l f=some (l.any g):=by
 unfold Qbe Qch
 have key:∀ (m i n:Nat),l.length - i=m→i≤l.length→m<n→∃ r,Qak fu l f n i=some r∧decide (r≥0)=(l.drop i).any g:=by
  intro m
  induction m with
  | zero =>
   intro i n hm hi hn
   obtain ⟨n,rfl⟩:∃ k,n=k+1:=⟨n - 1,by omega⟩
   rw [Qak.eq_2]
   unfold Qbv
   rw [Qah (by simp; omega),List.drop_eq_nil_of_le (by omega)]
   exact ⟨_,rfl,rfl⟩
  | succ m ih =>
   intro i n hm hi hn
   obtain ⟨n,rfl⟩:∃ k,n=k+1:=⟨n - 1,by omega⟩
   have hlt:i<l.length:=by omega
   rw [Qak.eq_2]
   unfold Qbv
   rw [Qa2 (by simpa using hlt),Jcy (Jds (List.getElem?_eq_getElem hlt)),hg,Qaa,List.drop_eq_getElem_cons hlt,List.any_cons]
   cases hgx:g l[i]
   · rw [Qah rfl,Qay (by omega) (by omega),Bool.false_or]
     have:=ih (i+1) n (by omega) (by omega) (by omega)
     simpa using this
   · rw [Qa2 rfl]
     exact ⟨_,rfl,by simp⟩
 obtain ⟨r,h1,h2⟩:=key l.length 0 fu (by omega) (by omega) hf
 have h1':Qak fu l f fu 0=some r:=h1
 rw [h1',Qaa,h2]
 rfl
theorem Jkd {fu:Nat} (p:Pallet) (l:List Shelf) (hl:l.length≤1048576) (hf:l.length<fu):Qls fu p l=some (Qtn p&&l.all λs=>okL p s.fD s.fH s.fQ):=by
 unfold Qls
 have e:∀ a b c:Int,inB a b c=inb a b c:=λa b c=>Bool.eq_iff_iff.2 (by rw [Q3l,Qcd])
 have ep:Qsj p=Qtn p:=by unfold Qsj Qtn; simp only [e]
 rw [Qrq,Qaa,ep,Qv3 fu l _ (λs=>!okL p s.fD s.fH s.fQ) (λs=>by
  unfold Qmi okL
  simp only [Q95,Qaa,e]
  cases inb s.fD 1 p.fD <;> cases inb s.fH 1 p.fH <;> rfl) hl hf,Qaa]
 cases Qtn p
 · rfl
 · rw [cond_true,Bool.true_and]
   congr 1
   rw [Bool.eq_iff_iff]
   simp
theorem Jbd {fu:Nat} (hfu:2097153≤fu) {p:Pallet} (hp:Qtn p=true) {l:List Shelf} (hb:OkS p l) (hl:l.length≤1000):Qm7 fu p l=some (lyM p l):=by
 unfold Qm7 lyM
 rw [Jkd p l (by omega) (by omega),hp,Jhd hb,Qaa,Bool.and_self,Bool.not_true,cond_false]
 obtain ⟨p1,p2,p3,p4⟩:=Qvw hp
 refine Q5i (l.length:Int) (λn (o:List Layer) i=>Qbt fu p l n o i) (λxs o=>some (xs.foldl (lyS p l) o)) (λxs o=>(∀ s∈o,LyI p l.length s)∧((o.map (·.fP)).flatten).length+xs.length≤1000∧o.length+xs.length≤1000) (by omega) ?_ ?_ l.length fu [] 0 (by omega) (by omega) (by omega) ⟨by simp,by simp [Qcf]; omega,by simp [Qcf]; omega⟩
 · intro n o i xs x0 x1 hd hI ih
   obtain ⟨i2,i3,i4⟩:=hI
   simp only [List.length_cons] at i3 i4
   obtain ⟨hbx,b1,b2,b3,_⟩:=Q1v hb ⟨x0,x1⟩
   have hflat:((lyS p l o i).map (·.fP)).flatten=(o.map (·.fP)).flatten++[i]:=Qrm (λs=>rfl) rfl
   have hlen:(lyS p l o i).length≤o.length+1:=Qsk _ _ _ _
   have ih':=ih (lyS p l o i) ⟨Q3o hb ⟨x0,x1⟩ i2,by rw [hflat,List.length_append,List.length_singleton]; omega,by omega⟩
   simp only [Qbt.eq_2]
   unfold Qiw
   rw [hd,cond_true,hbx,Qaa,List.foldl_cons,← ih']
   have hnew:∀ o':List Layer,o'.length≤1000→Qcz fu (λo i=>Qbt fu p l n o i) i (shA l i) (o'++[zLy]) ((o'.length:Nat):Int)=Qbt fu p l n (o'++[Qr7 zLy i (shA l i)]) (w64 (i+1)):=λo' ho'=>by
    rw [Jbl (s:=zLy) (by simp) (by simp [zLy]) (by simp [zLy]; omega) (by simp [zLy]; omega)]
    simp
   by_cases he:o=[]
   · subst he
     rw [Qa2 (by decide),ap1 (by simp),Qaa]
     exact hnew [] (by simp)
   · obtain ⟨s,e1,e2⟩:=Qtb he
     have hp:=List.length_pos_iff.2 he
     have hsm':=List.mem_of_getLast? e1
     have hs:=i2 s hsm'
     have hsl':=Qqn (λs:Layer=>s.fP) o s hsm'
     have eS:lyS p l o i=bif Q5f p (shA l i) s then o.set (o.length - 1) (Qr7 s i (shA l i)) else o++[Qr7 zLy i (shA l i)]:=Qtg e1
     have e3:w64 ((o.length:Int) - 1)=((o.length - 1:Nat):Int):=by rw [Qay (by omega) (by omega)]; omega
     have e4:w64 (((o.length - 1:Nat):Int)+1)=((o.length:Nat):Int):=by rw [Qay (by omega) (by omega)]; omega
     have e5:o[o.length - 1]? = some s:=by rw [← List.getLast?_eq_getElem?]; exact e1
     obtain ⟨s1,s2,s4,s5,s6⟩:=hs
     rw [e3,e4,Qah (by simp),Qlf,e5,Qaa,Qay (n:=s.fD+_) (by omega) (by omega),Qay (n:=s.fQ+_) (by omega) (by omega),ap1 (by simp; omega),Qaa,eS]
     unfold Q5f
     have c1:decide (s.fD+(shA l i).fD>p.fD)=!decide (s.fD+(shA l i).fD≤p.fD):=by
      by_cases h:s.fD+(shA l i).fD≤p.fD <;> simp [h] <;> omega
     have c2:decide (s.fQ+(shA l i).fQ>p.fQ)=!decide (s.fQ+(shA l i).fQ≤p.fQ):=by
      by_cases h:s.fQ+(shA l i).fQ≤p.fQ <;> simp [h] <;> omega
     rw [c1,c2,Qaa]
     have h1:=hnew o (by omega)
     have h2:Qcz fu (λo i=>Qbt fu p l n o i) i (shA l i) o ((o.length - 1:Nat):Int)=Qbt fu p l n (o.set (o.length - 1) (Qr7 s i (shA l i))) (w64 (i+1)):=Jbl e5 (by omega) (by omega) (by omega)
     cases decide (s.fD+(shA l i).fD≤p.fD)
     · exact h1
     · cases decide (s.fQ+(shA l i).fQ≤p.fQ)
       · exact h1
       · exact h2
 · intro n o i hd _
   simp only [Qbt.eq_2]
   unfold Qiw
   rw [hd,cond_false]; rfl
theorem Jb1 {fu:Nat} {k7:List Load→Int→Option (List Load)} {i:Int} {b:Layer} {o:List Load} {j:Nat} {s:Load} (hs:o[j]? = some s) (hl:s.f8.length≤1000000)
    (h1:-1000000000≤s.fH+b.fH∧s.fH+b.fH≤1000000000) (h2:-1000000000≤s.fQ+b.fQ∧s.fQ+b.fQ≤1000000000):Qdd fu k7 i b o (j:Int)=k7 (o.set j (Qsh s i b)) (w64 (i+1)):=by
 unfold Qdd Qnq
 rw [Qlf,hs,Qaa,ap1 (by simp; omega),Qaa]
 simp only [Qaa,Q1d,List.set_set,Jeh]
 rw [Qay (n:=s.fH+b.fH) (by omega) (by omega),Qay (n:=s.fQ+b.fQ) (by omega) (by omega)]
 rfl
theorem Qwb (fu:Nat) (l:List Layer) (f:Layer→Option Bool) (g:Layer→Bool) (hg:∀ b,f b=some (g b)) (h:l.length≤1048576) (hf:l.length<fu) :
    Qbc fu l f=some (l.any g):=by
 unfold Qbc Qcg
 have key:∀ (m i n:Nat),l.length - i=m→i≤l.length→m<n→∃ r,Qaj fu l f n i=some r∧decide (r≥0)=(l.drop i).any g:=by
  intro m
  induction m with
  | zero =>
   intro i n hm hi hn
   obtain ⟨n,rfl⟩:∃ k,n=k+1:=⟨n - 1,by omega⟩
   rw [Qaj.eq_2]
   unfold Qbw
   rw [Qah (by simp; omega),List.drop_eq_nil_of_le (by omega)]
   exact ⟨_,rfl,rfl⟩
  | succ m ih =>
   intro i n hm hi hn
   obtain ⟨n,rfl⟩:∃ k,n=k+1:=⟨n - 1,by omega⟩
   have hlt:i<l.length:=by omega
   rw [Qaj.eq_2]
   unfold Qbw
   rw [Qa2 (by simpa using hlt),Jcy (Jds (List.getElem?_eq_getElem hlt)),hg,Qaa,List.drop_eq_getElem_cons hlt,List.any_cons]
   cases hgx:g l[i]
   · rw [Qah rfl,Qay (by omega) (by omega),Bool.false_or]
     have:=ih (i+1) n (by omega) (by omega) (by omega)
     simpa using this
   · rw [Qa2 rfl]
     exact ⟨_,rfl,by simp⟩
 obtain ⟨r,h1,h2⟩:=key l.length 0 fu (by omega) (by omega) hf
 have h1':Qaj fu l f fu 0=some r:=h1
 rw [h1',Qaa,h2]
 rfl
theorem Jiq {fu:Nat} (p:Pallet) (l:List Layer) (hl:l.length≤1048576) (hf:l.length<fu):Qmv fu p l=some (Qtn p&&l.all λs=>okL p s.fD s.fH s.fQ):=by
 unfold Qmv
 have e:∀ a b c:Int,inB a b c=inb a b c:=λa b c=>Bool.eq_iff_iff.2 (by rw [Q3l,Qcd])
 have ep:Qsj p=Qtn p:=by unfold Qsj Qtn; simp only [e]
 rw [Qrq,Qaa,ep,Qwb fu l _ (λs=>!okL p s.fD s.fH s.fQ) (λs=>by
  unfold Qn4 okL
  simp only [Q95,Qaa,e]
  cases inb s.fD 1 p.fD <;> cases inb s.fH 1 p.fH <;> rfl) hl hf,Qaa]
 cases Qtn p
 · rfl
 · rw [cond_true,Bool.true_and]
   congr 1
   rw [Bool.eq_iff_iff]
   simp
theorem Jez {fu:Nat} (hfu:2097153≤fu) {p:Pallet} (hp:Qtn p=true) {l:List Layer} (hb:OkY p l) (hl:l.length≤1000):Qo1 fu p l=some (ldM p l):=by
 unfold Qo1 ldM
 rw [Jiq p l (by omega) (by omega),hp,Jgd hb,Qaa,Bool.and_self,Bool.not_true,cond_false]
 obtain ⟨p1,p2,p3,p4⟩:=Qvw hp
 refine Q5i (l.length:Int) (λn (o:List Load) i=>Qb8 fu p l n o i) (λxs o=>some (xs.foldl (ldS p l) o)) (λxs o=>(∀ s∈o,LdI p l.length s)∧((o.map (·.f8)).flatten).length+xs.length≤1000∧o.length+xs.length≤1000) (by omega) ?_ ?_ l.length fu [] 0 (by omega) (by omega) (by omega) ⟨by simp,by simp [Qcf]; omega,by simp [Qcf]; omega⟩
 · intro n o i xs x0 x1 hd hI ih
   obtain ⟨i2,i3,i4⟩:=hI
   simp only [List.length_cons] at i3 i4
   obtain ⟨hbx,b1,b2,b3,_⟩:=Q1u hb ⟨x0,x1⟩
   have hflat:((ldS p l o i).map (·.f8)).flatten=(o.map (·.f8)).flatten++[i]:=Qrm (λs=>rfl) rfl
   have hlen:(ldS p l o i).length≤o.length+1:=Qsk _ _ _ _
   have ih':=ih (ldS p l o i) ⟨Q23 hb ⟨x0,x1⟩ i2,by rw [hflat,List.length_append,List.length_singleton]; omega,by omega⟩
   simp only [Qb8.eq_2]
   unfold Qjw
   rw [hd,cond_true,hbx,Qaa,List.foldl_cons,← ih']
   have hnew:∀ o':List Load,o'.length≤1000→Qdd fu (λo i=>Qb8 fu p l n o i) i (lyA l i) (o'++[zLd]) ((o'.length:Nat):Int)=Qb8 fu p l n (o'++[Qsh zLd i (lyA l i)]) (w64 (i+1)):=λo' ho'=>by
    rw [Jb1 (s:=zLd) (by simp) (by simp [zLd]) (by simp [zLd]; omega) (by simp [zLd]; omega)]
    simp
   by_cases he:o=[]
   · subst he
     rw [Qa2 (by decide),ap1 (by simp),Qaa]
     exact hnew [] (by simp)
   · obtain ⟨s,e1,e2⟩:=Qtb he
     have hp:=List.length_pos_iff.2 he
     have hsm':=List.mem_of_getLast? e1
     have hs:=i2 s hsm'
     have hsl':=Qqn (λs:Load=>s.f8) o s hsm'
     have eS:ldS p l o i=bif Q5k p (lyA l i) s then o.set (o.length - 1) (Qsh s i (lyA l i)) else o++[Qsh zLd i (lyA l i)]:=Qtg e1
     have e3:w64 ((o.length:Int) - 1)=((o.length - 1:Nat):Int):=by rw [Qay (by omega) (by omega)]; omega
     have e4:w64 (((o.length - 1:Nat):Int)+1)=((o.length:Nat):Int):=by rw [Qay (by omega) (by omega)]; omega
     have e5:o[o.length - 1]? = some s:=by rw [← List.getLast?_eq_getElem?]; exact e1
     obtain ⟨s1,s2,s4,s5⟩:=hs
     rw [e3,e4,Qah (by simp),Qlf,e5,Qaa,Qay (n:=s.fH+_) (by omega) (by omega),Qay (n:=s.fQ+_) (by omega) (by omega),ap1 (by simp; omega),Qaa,eS]
     unfold Q5k
     have c1:decide (s.fH+(lyA l i).fH>p.fH)=!decide (s.fH+(lyA l i).fH≤p.fH):=by
      by_cases h:s.fH+(lyA l i).fH≤p.fH <;> simp [h] <;> omega
     have c2:decide (s.fQ+(lyA l i).fQ>p.fQ)=!decide (s.fQ+(lyA l i).fQ≤p.fQ):=by
      by_cases h:s.fQ+(lyA l i).fQ≤p.fQ <;> simp [h] <;> omega
     rw [c1,c2,Qaa]
     have h1:=hnew o (by omega)
     have h2:Qdd fu (λo i=>Qb8 fu p l n o i) i (lyA l i) o ((o.length - 1:Nat):Int)=Qb8 fu p l n (o.set (o.length - 1) (Qsh s i (lyA l i))) (w64 (i+1)):=Jb1 e5 (by omega) (by omega) (by omega)
     cases decide (s.fH+(lyA l i).fH≤p.fH)
     · exact h1
     · cases decide (s.fQ+(lyA l i).fQ≤p.fQ)
       · exact h1
       · exact h2
 · intro n o i hd _
   simp only [Qb8.eq_2]
   unfold Qjw
   rw [hd,cond_false]; rfl
theorem Q7r {fu:Nat} (hfu:2097153≤fu) (p:Pallet) (l:List Box) (hl:l.length<20):Qlu fu p l=some (spM p l):=by
 unfold Qlu spM
 rw [Qtp fu p l (by omega) (by omega),Qaa,Jbe]
 cases hb:Qya p l
 · rfl
 · obtain ⟨a1,a2,a3⟩:=Q1l hb
   have hS:=Q6s hb
   obtain ⟨y1,y2,y3⟩:=Q0c hS
   have hY:=Q74 hS
   obtain ⟨d1,d2,d3⟩:=Q3s hY
   have hpb:=Q0a hb
   obtain ⟨q1,q2,q3,q4⟩:=Qvw hpb
   rw [Bool.not_true,cond_false,cond_true,Q72 hfu p l hl,Qaa,Jbd hfu hpb hS (by omega),Qaa,Q8k (by omega),Qaa,Jez hfu hpb hY (by omega),Qaa]
   have f1:∀ s∈shM p l,s.f9.length≤1000:=λs hs=>by
    have:=Qqn (λs:Shelf=>s.f9) _ s hs
    rw [a2,Qr4] at this; omega
   have f2:∀ s∈lyM p (shM p l),s.fP.length≤1000:=λs hs=>by
    have:=Qqn (λs:Layer=>s.fP) _ s hs
    rw [y2,Qcf] at this; omega
   have f3:∀ s∈ldM p (lyM p (shM p l)),s.f8.length≤1000:=λs hs=>by
    have:=Qqn (λs:Load=>s.f8) _ s hs
    rw [d2,Qcf] at this; omega
   generalize ldM p (lyM p (shM p l))=ld at d1 d3 f3 ⊢
   generalize lyM p (shM p l)=ly at y1 y3 hY d1 d3 f2 ⊢
   generalize shM p l=sh at a1 a3 hS y1 y3 f1 ⊢
   have L4:=Q5i (ld.length:Int) (λn (out:List Spot) o=>Qbh fu l sh ly ld n out o) (λos out=>some (spO l sh ly ld os out)) (λos out=>out.length=l.length) (by omega) ?_ ?_ ld.length fu (List.replicate l.length zSp) 0 (by omega) (by omega) (by omega) (by simp)
   · exact L4
   · intro n out o os o0 o1 hd hI ih
     obtain ⟨x,hx⟩:=Q3b (l:=ld) o0 o1
     have ex:ldA ld o=x:=by unfold ldA; rw [hx]; rfl
     have hxm:=d1 x (Qm0 hx)
     have hxl:=f3 x (Qm0 hx)
     simp only [Qbh.eq_2]
     unfold Qkc
     rw [hd,cond_true,hx,Qaa]
     have L3:=lpI x.f8 (λm (s:List Spot×Int) i=>Qb6 fu (Qbh fu l sh ly ld n) l sh ly o x m s.1 s.2 i) (λis s=>Qbh fu l sh ly ld n (spY l sh ly o is s).1 (w64 (o+1))) (λis s=>s.1.length=l.length∧(∀ i∈is,0≤i∧i<ly.length)∧0≤s.2∧s.2+2000*is.length≤2000000) (by omega) ?_ ?_ fu (out,0) ⟨hI,hxm.inn,by simp,by simp; omega⟩ (by omega)
     · refine L3.trans ?_
       rw [ih _ (by rw [Q1i]; exact hI)]
       simp only [spO,List.foldl_cons,ex]
     · intro m ⟨out,z⟩ i j is hj hd hI ih
       obtain ⟨i1,i2,i3,i4⟩:out.length=l.length∧(∀ i∈j::is,0≤i∧i<ly.length)∧0≤z∧z+2000*((j::is).length:Int)≤2000000:=hI
       simp only [List.length_cons] at i4
       obtain ⟨hly,t1,t2,t3,hmem⟩:=Q1u hY (i2 j (by simp))
       have hyi:=y1 _ hmem
       have hyl:=f2 _ hmem
       simp only [Qb6.eq_2]
       unfold Qj4
       rw [hd,cond_true,hj,Qaa,hly,Qaa]
       have L2:=lpI (lyA ly j).fP (λq (s:List Spot×Int) k=>Qdb fu (Qb6 fu (Qbh fu l sh ly ld n) l sh ly o x m) l sh ly o z i j (lyA ly j) q s.1 s.2 k) (λks s=>Qb6 fu (Qbh fu l sh ly ld n) l sh ly o x m (spS l sh o z ks s).1 (w64 (z+(lyA ly j).fH)) (w64 (i+1))) (λks s=>s.1.length=l.length∧(∀ i∈ks,0≤i∧i<sh.length)∧0≤s.2∧s.2+2000*ks.length≤2000000) (by omega) ?_ ?_ fu (out,0) ⟨i1,hyi.inn,by simp,by simp; omega⟩ (by omega)
       · refine L2.trans ?_
         rw [Qay (n:=z+_) (by omega) (by omega)]
         exact ih ((spS l sh o z (lyA ly j).fP (out,0)).1,z+(lyA ly j).fH) ⟨by rw [Q00]; exact i1,λi hi=>i2 i (by simp [hi]),by simp; omega,by simp; omega⟩
       · intro q ⟨out,y⟩ k b ks hb2 hd hI ih
         obtain ⟨i1,i2,i3,i4⟩:out.length=l.length∧(∀ i∈b::ks,0≤i∧i<sh.length)∧0≤y∧y+2000*((b::ks).length:Int)≤2000000:=hI
         simp only [List.length_cons] at i4
         obtain ⟨hsh,u1,u2,u3,hmem2⟩:=Q1v hS (i2 b (by simp))
         have hsi:=a1 _ hmem2
         have hsl:=f1 _ hmem2
         simp only [Qdb.eq_2]
         unfold Qkg
         rw [hd,cond_true,hb2,Qaa,hsh,Qaa]
         have L1:=lpI (shA sh b).f9 (λq' (s:List Spot×Int) k'=>Qf5 fu (Qdb fu (Qb6 fu (Qbh fu l sh ly ld n) l sh ly o x m) l sh ly o z i j (lyA ly j) q) l sh o z y k b (shA sh b) q' s.1 s.2 k') (λbs s=>Qdb fu (Qb6 fu (Qbh fu l sh ly ld n) l sh ly o x m) l sh ly o z i j (lyA ly j) q (spB l o y z bs s).1 (w64 (y+(shA sh b).fD)) (w64 (k+1))) (λbs s=>s.1.length=l.length∧(∀ i∈bs,0≤i∧i<l.length)∧0≤s.2∧s.2+2000*bs.length≤2000000) (by omega) ?_ ?_ fu (out,0) ⟨i1,hsi.inn,by simp,by simp; omega⟩ (by omega)
         · refine L1.trans ?_
           rw [Qay (n:=y+_) (by omega) (by omega)]
           exact ih ((spB l o y z (shA sh b).f9 (out,0)).1,y+(shA sh b).fD) ⟨by rw [Q0v]; exact i1,λi hi=>i2 i (by simp [hi]),by simp; omega,by simp; omega⟩
         · intro q' ⟨out,x'⟩ k' c bs hc hd hI ih
           obtain ⟨i1,i2,i3,i4⟩:out.length=l.length∧(∀ i∈c::bs,0≤i∧i<l.length)∧0≤x'∧x'+2000*((c::bs).length:Int)≤2000000:=hI
           simp only [List.length_cons] at i4
           have hcr:=i2 c (by simp)
           obtain ⟨hbx,v1,v2,v3,v4⟩:=Q1x hb hcr
           obtain ⟨sp,hsp⟩:=Q3b (l:=out) hcr.1 (by omega)
           simp only [Qf5.eq_2]
           unfold Qk2
           rw [hd,cond_true,hc,Qaa,hsp,Qaa,hbx,Qaa,Qay (n:=x'+_) (by omega) (by omega)]
           exact ih (Qim out c ⟨o,x',y,z⟩,x'+(bxA l c).fW) ⟨by rw [Qx0]; exact i1,λi hi=>i2 i (by simp [hi]),by simp; omega,by simp; omega⟩
         · intro q' ⟨out,x'⟩ k' hd _
           simp only [Qf5.eq_2]
           unfold Qk2
           rw [hd,cond_false,hsh,Qaa]; rfl
       · intro q ⟨out,y⟩ k hd _
         simp only [Qdb.eq_2]
         unfold Qkg
         rw [hd,cond_false,hly,Qaa]; rfl
     · intro m ⟨out,z⟩ i hd _
       simp only [Qb6.eq_2]
       unfold Qj4
       rw [hd,cond_false]; rfl
   · intro n out o hd _
     simp only [Qbh.eq_2]
     unfold Qkc
     rw [hd,cond_false]; rfl
theorem Jdi {r:Request} {k:Int} (h:0≤k∧k<(Qmt r).length):(Qvl r k).length≤12:=by
 rw [Q4b h,List.length_map]
 exact Q4s k
theorem Jbh {fu:Nat} {r:Request} (h:Sm fu r):Qn8 fu r=some (Qx9 r):=by
 have hfu:=h.fu
 have hg:=(Qs5 r).1
 have hcl:=Qwr r
 unfold Qn8 Qx9
 rw [Qtf h,Qaa]
 cases hc:Qgq r==0
 · rfl
 · have hz:Qgq r=0:=by simpa using hc
   rw [Bool.not_true,cond_false,cond_true,Ji4 h,Qaa,Jer h,Qaa]
   have L3:=Q5i ((Qmt r).length:Int) (λn (s:List Spot×Int) k=>Qca fu r (Qtl r) (Qmt r) n s.1 s.2 k) (λks s=>some ((⟨Qtl r,(ks.foldl (plS r) s).1⟩:Plan),true)) (λks s=>(∀ k∈ks,0≤k∧k<(Qmt r).length)∧s.1.length+48*ks.length≤1000∧0≤s.2∧s.2+1000000*ks.length≤10000000) (by omega) ?_ ?_ (Qmt r).length fu ([],0) 0 (by omega) (by omega) (by omega) ⟨λk hk=>by have:=Qhy.1 hk; omega,by simp [Qcf]; omega,by simp,by simp [Qcf]; omega⟩
   · exact L3
   · intro n ⟨sp,base⟩ k ks k0 k1 hd hI ih
     obtain ⟨i1,i2,i3,i4⟩:(∀ j∈k::ks,0≤j∧j<(Qmt r).length)∧sp.length+48*(k::ks).length≤1000∧0≤base∧base+1000000*((k::ks).length:Int)≤10000000:=hI
     simp only [List.length_cons] at i2 i4
     simp only [Qca.eq_2]
     unfold Ql2
     rw [hd,cond_true]
     have L2:=lpI (Qtl r) (λm (bs:List Box) i=>Qfv fu (Qca fu r (Qtl r) (Qmt r) n) r (Qtl r) sp base k m bs i) (λcs bs=>Qab (Qlu fu r.fJ (bs++(cs.filter λc=>c.ft==k).map (Qz9 r))) λx=>Qab (Qlv fu x) λy=>Qfs fu (Qca fu r (Qtl r) (Qmt r) n) base k x y fu sp 0) (λcs bs=>bs.length+cs.length≤48∧∀ c∈cs,c.qQ.length≤12) (by omega) ?_ ?_ fu [] ⟨by simpa using hcl,λc hc=>Qw1 hc⟩ (by omega)
     · refine L2.trans ?_
       have hbl:=Q9c r k
       have hbf:=Jdi (r:=r) (k:=k) ⟨k0,k1⟩
       rw [List.nil_append,show ((Qtl r).filter λc=>c.ft==k).map (Qz9 r)=Qvl r k from rfl,Q7r hfu _ _ (by omega),Qaa]
       have hsl:=Q3v (Q6e hz ⟨k0,k1⟩)
       have hpb:=Q60 (spM r.fJ (Qvl r k))
       have hps:∀ s∈spM r.fJ (Qvl r k),s∈spM r.fJ (Qvl r k):=λ_ h=>h
       have ih':=ih (plS r (sp,base) k) ⟨λj hj=>i1 j (by simp [hj]),by simp [plS]; omega,by simp [plS]; omega,by simp [plS]; omega⟩
       rw [List.foldl_cons,← ih']
       have hS:=Jig (fu:=fu) (l:=spM r.fJ (Qvl r k)) (by omega) (by omega)
       have hwf:∀ s∈spM r.fJ (Qvl r k),w64 (s.fJ+base)=s.fJ+base:=by
        intro s hs
        have:=Jbq (p:=r.fJ) (l:=Qvl r k) (by omega) s hs
        exact Qay (by omega) (by omega)
       generalize hSP:spM r.fJ (Qvl r k)=S at hsl hpb hS hwf ⊢
       rw [hS,Qaa]
       have L1:=lpI S (λm (o:List Spot) i=>Qfs fu (Qca fu r (Qtl r) (Qmt r) n) base k S (Jcg S) m o i) (λxs o=>Qca fu r (Qtl r) (Qmt r) n (o++xs.map (λt=>⟨t.fJ+base,t.fX,t.fY,t.fZ⟩)) (base+Jcg S) (w64 (k+1))) (λxs o=>o.length+xs.length≤1000∧∀ s∈xs,w64 (s.fJ+base)=s.fJ+base) (by omega) ?_ ?_ fu sp ⟨by omega,hwf⟩ (by omega)
       · refine L1.trans ?_
         simp only [plS,hSP]
       · intro m o i x xs hx hd hI ih
         obtain ⟨j1,j2⟩:=hI
         simp only [List.length_cons] at j1
         simp only [Qfs.eq_2]
         unfold Ql9
         rw [hd,cond_true,hx,Qaa,j2 x (by simp),ap1 (by simp; omega),Qaa,ih _ ⟨by simp; omega,λs hs=>j2 s (by simp [hs])⟩]
         simp
       · intro m o i hd hI
         simp only [Qfs.eq_2]
         unfold Ql9
         rw [hd,cond_false,Qay (n:=base+_) (by omega) (by omega)]
         simp
     · intro m bs i c cs hx hd hI ih
       obtain ⟨j1,j2⟩:=hI
       simp only [List.length_cons] at j1
       have hcu:=j2 c (by simp)
       simp only [Qfv.eq_2]
       unfold Qmc Qlo
       rw [hd,cond_true,hx,Qaa,Jh9 h c (by omega),Qaa,ap1 (by simp; omega),Qaa,ih _ ⟨by simp; omega,λc hc=>j2 c (by simp [hc])⟩,ih _ ⟨by omega,λc hc=>j2 c (by simp [hc])⟩,List.filter_cons]
       cases c.ft==k <;> simp
     · intro m bs i hd _
       simp only [Qfv.eq_2]
       unfold Qmc
       rw [hd,cond_false]; simp
   · intro n ⟨sp,base⟩ k hd _
     simp only [Qca.eq_2]
     unfold Ql2
     rw [hd,cond_false]; rfl
theorem Jbs (r:Request):Sp (Qx9 r).1:=by
 obtain ⟨l1,l2,l3⟩:=Jcs r
 refine ⟨by omega,λc hc=>by have:=l3 c hc; omega,?_,by omega⟩
 have key:∀ l:List Carton,(∀ c∈l,c.qQ.length≤12)→Q8q l≤12*l.length:=by
  intro l
  induction l with
  | nil=>intro _; simp [Q8q]
  | cons c l ih =>
   intro h
   have h1:=ih λd hd=>h d (by simp [hd])
   have h2:=h c (by simp)
   simp only [Q8q,List.length_cons]
   omega
 have:=key _ l3
 omega
theorem Q7i (z:ByteArray):∀ (ls:List ByteArray) (last:Int) (r:Request) (i:Int) (n:Nat),r.fT.length≤n∧r.fG.length≤n∧r.fV.length≤n→(Q1q z ls last r i).1.fT.length≤n+ls.length∧(Q1q z ls last r i).1.fG.length≤n+ls.length∧(Q1q z ls last r i).1.fV.length≤n+ls.length
 | [],last,r,i,n,h=>by
  rw [Q1q]
  split
  · simp [R0]
  split
  · simpa using h
  · simp [R0]
 | l::ls,last,r,i,n,h=>by
  rw [Q1q]
  cases mf last (ptl r l).1
  · simp [R0]
  · have:=Q75 r l
    have:=Q7i z ls (ptl r l).1 (ptl r l).2 (i+1) (n+1) (by omega)
    simp only [cond_true,List.length_cons]
    omega
theorem Jbw (s:ByteArray):Sm 2097153 (rdM s).1:=by
 unfold rdM
 split
 · exact ⟨by omega,by simp [R0],by simp [R0],by simp [R0]⟩
 · rename_i h
   have:=Q7i ((Qrf 10 s).getLastD emB) (Qrf 10 s).dropLast (-1) R0 0 0 (by simp [R0])
   have h2:(Qrf 10 s).dropLast.length≤61:=by rw [List.length_dropLast]; omega
   exact ⟨by omega,by omega,by omega,by omega⟩
def Jcz (s:ByteArray):Int:=bif decide ((rdM s).2≥0) then 1 else Qgq (rdM s).1
theorem Jjg {s:ByteArray} (hs:s.size≤1048576):Qom 2097153 s=some (Jcz s):=by
 unfold Qom Jcz
 rw [Jb5 hs,Qaa]
 cases decide ((rdM s).2≥0)
 · rw [cond_false,cond_false,Jgn (Jbw s),Qaa]
 · rfl
def Jj9 (s:ByteArray):ByteArray×Int:=bif Jcz s != 0 then (emB,Jcz s) else (Jin (Qx9 (rdM s).1).1,0)
theorem Jjk {s:ByteArray} (hs:s.size≤1048576):Qkx 2097153 s=some (Jj9 s):=by
 unfold Qkx Jj9
 rw [Jjg hs,Qaa]
 cases Jcz s != 0
 · rw [cond_false,cond_false,Jb5 hs,Qaa,Jbh (Jbw s),Qaa,Jb6 (Jbs _) (by omega),Qaa]
 · rfl
end Go.Proofs.YtndfoffokpdjeaaGreatDoor
