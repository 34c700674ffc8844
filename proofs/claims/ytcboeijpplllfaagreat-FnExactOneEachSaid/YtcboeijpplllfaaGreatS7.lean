/- What a claim's arguments read as: from the claim's own reading ('DataW.trod') to 'rd' of Lean data, at every type. Own lemmas, over any program. -/
import Derived.Test.YtcboeijpplllfaaGreatD0
import Derived.WalkKit
import Derived.ProofKit
import Derived.OpenShut
import Derived.Below
import Derived.ChangeSame
import Derived.ChangeMaps5
set_option linter.unusedSimpArgs false
set_option linter.unusedVariables false
namespace Go.Proofs.YtcboeijpplllfaaGreat
open Go Go.RowKit Go.ChangeShapes Go.WideShapes Go.ChangeAt
open Enc (rd ow)
open Arg (argv)
open Ret (retv)
class Wf (α:Type) where
 wf:α → Prop
open Wf (wf)
instance:Wf Int:=⟨fun n=>-9223372036854775808 ≤ n ∧ n ≤ 9223372036854775807⟩
instance:Wf U8:=⟨fun b=>0 ≤ b.n ∧ b.n ≤ 255⟩
instance:Wf Bool:=⟨fun _=>True⟩
instance:Wf ByteArray:=⟨fun s=>s.size ≤ maxLen⟩
instance {α:Type} [Wf α]:Wf (List α):=⟨fun xs=>xs.length ≤ maxLen ∧ ∀ x ∈ xs,wf x⟩
def TR (P:Program) (t:TypeId) (α:Type) [Enc α] [Wf α]:Prop :=
 ∀ {H:Type} (enc:TypeId × Value → H) (W:World) (n:Nat) (cs:List Value) (x:DataW H × List MemPlace),
  DataW.trod enc P W 0 (fun _=>true) true n t cs = some x → ∃ F v,rd W F cs v ∧ wf (α:=α) v
theorem tr_int {P:Program} {t:TypeId} (ht:P.underlying t = some (.int .i64)):TR P t Int:=by
 intro H enc W n cs x h
 obtain ⟨m,rfl,_,hw⟩:=DataW.trod_int ht h
 simp only [Lit.wf,IntKind.min,IntKind.max,IntKind.signed,IntKind.bits,Bool.and_eq_true,decide_eq_true_eq] at hw
 refine ⟨[],m,⟨rfl,rfl⟩,?_⟩
 show _ ∧ _
 simpa using hw
theorem rdL_mono' {α:Type} [Enc α] {w:World} {F G:List Nat} (hs:∀ b ∈ F,b ∈ G):∀ {cells:List Value} {xs:List α},rdL w F cells xs → rdL w G cells xs
 | _,[],_=>trivial
 | _,_ :: _,⟨⟨K,hK,h⟩,h'⟩=>⟨⟨K,fun b hb=>hs b (hK b hb),h⟩,rdL_mono' hs h'⟩
theorem rdL_build {α:Type} [Enc α] [Wf α] {W:World} (cells:List Value):∀ (n:Nat) (off:Nat),
    (∀ i,i < n → ∃ G x,rd W G ((cells.drop (off + i * Enc.sz α)).take (Enc.sz α)) x ∧ wf (α:=α) x) →
    ∃ F xs,xs.length = n ∧ (∀ b ∈ F,b < W.heap.size) ∧ rdL (α:=α) W F (cells.drop off) xs ∧ ∀ x ∈ xs,wf x
 | 0,_,_=>⟨[],[],rfl,by simp,trivial,by simp⟩
 | n + 1,off,h=>by
  obtain ⟨G,x,hx,hw⟩:=h 0 (by omega)
  rw [Nat.zero_mul,Nat.add_zero] at hx
  obtain ⟨F,xs,hl,hlt,hr,hws⟩:=rdL_build cells n (off + Enc.sz α) (fun i hi=>by
   have:=h (i + 1) (by omega)
   rwa [show off + (i + 1) * Enc.sz α = off + Enc.sz α + i * Enc.sz α by rw [Nat.add_mul]; omega] at this)
  refine ⟨G ++ F,x :: xs,by simp [hl],?_,?_,?_⟩
  · intro b hb
    rcases List.mem_append.1 hb with hb | hb
    · exact Enc.rd_lt hx b hb
    · exact hlt b hb
  · refine ⟨⟨G,fun b hb=>List.mem_append_left _ hb,hx⟩,?_⟩
    rw [List.drop_drop]
    exact rdL_mono' (fun b hb=>List.mem_append_right _ hb) hr
  · intro y hy
    rcases List.mem_cons.1 hy with rfl | hy
    · exact hw
    · exact hws y hy
theorem tr_slice {P:Program} {t e:TypeId} {α:Type} [Enc α] [Wf α] (ht:P.underlying t = some (.slice e)) (hc:P.cellsOf e = Enc.sz α) (hp:0 < Enc.sz α) (he:TR P e α):TR P t (List α):=by
 intro H enc W fuel cs x h
 rcases DataW.trod_slice ht h with ⟨rfl,_⟩ | ⟨a,len,cap,elems,rest,n,_,rfl,_,_,hl,hm,hlen,hel,_,_⟩
 · exact ⟨[],[],⟨none,0,rfl,by simp,by simp [maxLen],by simp,.inl rfl⟩,by simp [maxLen],by simp⟩
 by_cases h0:len = 0
 · subst h0
   exact ⟨[],[],⟨some a,cap,rfl,by simp,hm,by simp,.inl rfl⟩,by simp,by simp⟩
 have each:∀ i,i < len → ∃ cs',W.cells? 0 (a.add (i * Enc.sz α)) (Enc.sz α) = some cs' ∧ ∃ G y,rd W G cs' y ∧ wf (α:=α) y:=by
  intro i hi
  have:=hel i hi
  rw [hc,List.getElem?_eq_getElem (by omega),Option.bind_eq_some_iff] at this
  obtain ⟨cs',h1,h2⟩:=this
  exact ⟨cs',h1,he enc W n cs' _ h2⟩
 obtain ⟨cs0,h1,_⟩:=each 0 (by omega)
 obtain ⟨_,hl0,hcell⟩:=World.cells?_some h1
 have h2:=hcell 0 hp
 rw [List.getElem?_eq_getElem (by omega)] at h2
 have e0:(a.add (0 * Enc.sz α)).add 0 = a:=by simp [Addr.add]
 rw [e0] at h2
 obtain ⟨g,off,spot⟩:=a
 unfold World.cell? at h2
 split at h2 <;> try simp at h2
 rename_i c ty fr hh
 simp only at hh
 have hs:spot = none:=by cases spot <;> simp_all
 subst hs
 have eadd:∀ k j,(((⟨g,off,none⟩:Addr).add k).add j) = ⟨g,off + k + j,none⟩:=by
  intro k j
  simp only [Addr.add]
  by_cases hk:k = 0 <;> by_cases hj:j = 0 <;> simp [hk,hj]
 obtain ⟨F,xs,hxl,hlt,hr,hw⟩:=rdL_build (α:=α) (W:=W) c.toList len off (fun i hi=>by
  obtain ⟨cs',h3,G,y,hy,hwy⟩:=each i hi
  obtain ⟨_,hl',hcell'⟩:=World.cells?_some h3
  have:cs' = (c.toList.drop (off + i * Enc.sz α)).take (Enc.sz α):=by
   apply List.ext_getElem?
   intro j
   by_cases hj:j < Enc.sz α
   · have h4:=hcell' j hj
     rw [eadd] at h4
     unfold World.cell? at h4
     rw [hh] at h4
     simp only [Option.isSome_none,Bool.false_eq_true,if_false] at h4
     rw [← h4,List.getElem?_take,if_pos hj,List.getElem?_drop,Array.getElem?_toList]
   · rw [List.getElem?_eq_none (by omega),List.getElem?_take,if_neg hj]
  exact ⟨G,y,this ▸ hy,hwy⟩)
 refine ⟨g :: F,xs,⟨_,cap,by rw [hxl],by omega,hm,?_,.inr ⟨g,off,c,ty,fr,rfl,by simp,hh,rdL_mono' (fun b hb=>List.mem_cons_of_mem _ hb) hr⟩⟩,by omega,hw⟩
 intro b hb
 rcases List.mem_cons.1 hb with rfl | hb
 · exact lt_of_heap hh
 · exact hlt b hb
theorem trod_field {H:Type} {enc:TypeId × Value → H} {P:Program} {W:World} {m:Nat} {fs:Array Field} {cs:List Value} {xs:List (DataW H × List MemPlace)} (hxl:xs.length = fs.size)
    (hf:∀ (i:Nat) (f:Field),fs[i]? = some f → DataW.trod enc P W 0 (fun _=>true) true m f.type ((cs.drop f.offset).take (P.cellsOf f.type)) = xs[i]?)
    (i ft off k:Nat) (hx:fs[i]?.map (fun f=>(f.type,f.offset)) = some (ft,off)) (hk:P.cellsOf ft = k) :
    ∃ y,DataW.trod enc P W 0 (fun _=>true) true m ft ((cs.drop off).take k) = some y:=by
 cases h:fs[i]? with
 | none=>simp [h] at hx
 | some f =>
  rw [h] at hx
  simp only [Option.map_some,Option.some.injEq,Prod.mk.injEq] at hx
  obtain ⟨rfl,rfl⟩:=hx
  have hlt:i < xs.length:=by
   rw [hxl]
   exact (Array.getElem?_eq_some_iff.1 h).1
  have:=hf i f h
  rw [hk,List.getElem?_eq_getElem hlt] at this
  exact ⟨_,this⟩
section
variable {H:Type} {enc:TypeId × Value → H} {P:Program} {W:World} {t:TypeId} {v:Value} {d:DataW H} {ps:List MemPlace}
theorem arg_struct {fs:Array Field} {α:Type} [Enc α] [Wf α] (ht:P.underlying t = some (.struct fs)) (hT:TR P t α) (hval:Value.okWide P W .any 0 t v) (hd:DataW.Trod enc P W 0 (fun _=>true) true t v d ps) :
    ∃ (x:α) (F:List Nat) (cs:List Value),v = .agg cs.toArray ∧ rd W F cs x ∧ wf x:=by
 obtain ⟨cs,rfl,_⟩:=okWide_struct ht hval
 obtain ⟨fuel,hf⟩:=hd
 obtain ⟨F,x,hr,hw⟩:=hT enc W fuel _ _ hf
 exact ⟨x,F,cs.toList,by simp,by simpa [Value.cells] using hr,hw⟩
end
section
variable {H:Type} {enc:TypeId × Value → H} {P:Program}
theorem post_new {f:Func} {s:ChangeSpec} {apart fresh handsOn again:Bool} {W W':World} {args:Array Value} {v:Value} {ds gs:List (DataW H)} {before pa pv:List MemPlace}
    (hW:DataW.Whole enc P f.params.toList s.vars apart W args.toList ds gs before)
    (hres:∀ (b:Nat) (sp:Nat → Bool) (hd:Bool),DataW.TrodAll enc P W' b sp hd f.resultTypes.toList (v.resultList f.resultTypes.size) (s.fn H (ds ++ gs)).results [])
    (hargs:∀ sp:Nat → Bool,(∀ p ∈ before,sp p.block = true) → DataW.TrodAll enc P W' 0 sp true f.params.toList args.toList (s.fn H (ds ++ gs)).args pa)
    (hvars:∀ sp:Nat → Bool,(∀ p ∈ before,sp p.block = true) → DataW.TrodVars enc P W' sp s.vars (s.fn H (ds ++ gs)).vars pv)
    (hps:before = pa ++ pv) (hb:Below W.heap.size W W')
    (hok:∀ (j:Nat) (t:TypeId) (r:Value),f.resultTypes[j]? = some t → (v.resultList f.resultTypes.size)[j]? = some r → Value.okWide P W' .any 0 t r) :
    s.post enc P f apart fresh handsOn again W args v W':=by
 have hlt:∀ p ∈ before,p.block < W.heap.size:=fun p hp=>hW.lt p hp
 have hold:∀ p ∈ before,(fun b=>decide (b < W.heap.size)) p.block = true:=fun p hp=>by simpa using hlt p hp
 refine ⟨ds,gs,before,[],pa,pv,hW,hres _ _ _,hargs _ hold,hvars _ hold,World.keptBut_mono (fun p hp=>⟨hp,?_⟩) (hb.frame (· ∈ before)),fun _=>?_⟩
 · rw [hps,List.mem_append] at hp
   exact Or.inr hp
 · obtain ⟨_,_,_,_,_,hz,hn⟩:=hW
   refine ⟨hok,_,_,([] ++ pa) ++ pv,⟨[] ++ pa,pv,trodAll_append (hargs _ (fun _ _=>rfl)) (hres _ _ _),hvars _ (fun _ _=>rfl),rfl,?_,?_⟩,?_⟩
   · intro b off hp
     have hin:MemPlace.cell b off ∈ before:=by rw [hps]; simpa using hp
     rw [hb.frozen (hlt _ hin)]
     exact hz b off hin
   · intro ha
     have:=hn ha
     rw [hps] at this
     simpa using this
   · intro p hp _
     rw [hps]
     simpa using hp
theorem args_stay (hl:laidOutB P = true) {W W':World} (hb:Below W.heap.size W W'):∀ {ts:List TypeId} {vs:List Value} {ds:List (DataW H)} {ps:List MemPlace} {sp:Nat → Bool},
    (∀ t ∈ ts,P.readableRec t = true ∧ t < P.types.size) → DataW.TrodAll enc P W 0 (fun _=>true) true ts vs ds ps → (∀ x ∈ ps,x.block < W.heap.size) → (∀ x ∈ ps,sp x.block = true) →
    DataW.TrodAll enc P W' 0 sp true ts vs ds ps
 | [],vs,ds,ps,sp,_,h,_,_=>by
  obtain ⟨rfl,rfl,rfl⟩:=trodAll_nil h
  exact trodAll_mk0
 | t :: ts,vs,ds,ps,sp,hT,h,hlt,hs=>by
  obtain ⟨v,vs',d,ds',p,q,rfl,rfl,rfl,h1,h2⟩:=trodAll_cons h
  exact trodAll_cons_mk (WideElems.Trod_stays hl (hT t (by simp)).1 (hT t (by simp)).2 h1 (fun x hx=>hb.same (hlt x (by simp [hx]))) (fun x hx=>hs x (by simp [hx])))
   (args_stay hl hb (fun u hu=>hT u (by simp [hu])) h2 (fun x hx=>hlt x (by simp [hx])) (fun x hx=>hs x (by simp [hx])))
end
end Go.Proofs.YtcboeijpplllfaaGreat
