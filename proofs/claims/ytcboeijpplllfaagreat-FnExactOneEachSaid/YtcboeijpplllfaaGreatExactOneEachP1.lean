/- ExactOneEachP: plain lemmas, part 1. -/
import Derived.Test.YtcboeijpplllfaaGreatExactOneEachD
import Derived.Test.YtcboeijpplllfaaGreatExactOneEachBP1
set_option linter.unusedSimpArgs false
set_option linter.unusedVariables false
namespace Go.Proofs.YtcboeijpplllfaaGreat
open Go
open Enc (rd ow)
open Arg (argv)
open Ret (retv)
open Wf (wf)
def oneM (n:Nat):List (List Int):=(ints 0 n).map fun u=>[u]
theorem one_loop (n:Nat) (hn:n ≤ 12) (L:Nat → List (List Int) → Int → Option (List (List Int)))
    (hs:∀ k out (i:Int),decide (i < (n:Int)) = true → L (k + 1) out i = obind (apnd 24 out [[i]]) fun x=>L k x (w64 (i + 1))) (he:∀ k out (i:Int),decide (i < (n:Int)) = false → L (k + 1) out i = some out) (fu:Nat) (hf:100 ≤ fu) :
    L fu [] 0 = some (oneM n):=by
 have key:∀ (m i k:Nat),n - i = m → i ≤ n → m < k → L k (oneM i) (i:Int) = some (oneM n):=by
  intro m
  induction m with
  | zero =>
   intro i k hm hi hk
   obtain ⟨k,rfl⟩:∃ j,k = j + 1:=⟨k - 1,by omega⟩
   rw [he _ _ _ (by simp; omega)]
   congr 2
   omega
  | succ m ih =>
   intro i k hm hi hk
   obtain ⟨k,rfl⟩:∃ j,k = j + 1:=⟨k - 1,by omega⟩
   have hlen:(oneM i).length = i:=by unfold oneM; rw [List.length_map,ints_len]
   rw [hs _ _ _ (by simp; omega),ap1 (by rw [hlen]; simp; omega),ob_some,w64_s _ (by omega)]
   have e:oneM i ++ [[(i:Int)]] = oneM (i + 1):=by
    unfold oneM
    rw [ints_snoc,List.map_append]
    simp
   rw [e]
   exact ih (i + 1) k (by omega) (by omega) (by omega)
 exact key n 0 fu (by omega) (by omega) (by omega)
theorem s_one {fu:Nat} {r:Request} (h:Sm fu r):d_spec_OneEach fu r = some (oneM (untM r).length):=by
 have hfu:=h.fu
 unfold d_spec_OneEach
 rw [s_unt h,ob_some]
 refine one_loop _ (untM_len r) (fun k out i=>d_spec_OneEach_L1 fu (untM r) k out i) ?_ ?_ fu (by omega)
 · intro k out i hd
   simp only [d_spec_OneEach_L1.eq_2]
   unfold d_spec_OneEach_L1_B
   simp only [hd,cond_true]
 · intro k out i hd
   simp only [d_spec_OneEach_L1.eq_2]
   unfold d_spec_OneEach_L1_B
   simp only [hd,cond_false]
theorem i_one {fu:Nat} {r:Request} (h:Sm fu r):d_impl_OneEach fu r = some (oneM (untM r).length):=by
 have hfu:=h.fu
 unfold d_impl_OneEach
 rw [i_unt h,ob_some]
 refine one_loop _ (untM_len r) (fun k out i=>d_impl_OneEach_L1 fu (untM r) k out i) ?_ ?_ fu (by omega)
 · intro k out i hd
   simp only [d_impl_OneEach_L1.eq_2]
   unfold d_impl_OneEach_L1_B
   simp only [hd,cond_true]
 · intro k out i hd
   simp only [d_impl_OneEach_L1.eq_2]
   unfold d_impl_OneEach_L1_B
   simp only [hd,cond_false]
theorem lens_le:∀ (l:List (List Int)) (b:Nat),(∀ x ∈ l,x.length ≤ b) → lens l ≤ b * l.length
 | [],_,_=>by simp [lens]
 | x :: xs,b,h=>by
  have h1:=h x (by simp)
  have h2:=lens_le xs b (fun y hy=>h y (by simp [hy]))
  simp only [lens,List.length_cons,Nat.mul_add]; omega
theorem fnExactOneEach_pure (r:Request) (hr:wf r):∃ fu,d_laws_FnExactOneEach fu r = some true:=by
 refine ⟨2097153,?_⟩
 unfold d_laws_FnExactOneEach d_laws_FnExactOneEach_J1
 rcases szReq 2097153 r hr with ⟨y,h1,h2⟩ | ⟨y,h1,h2,h3,hp,ht,hi⟩
 · rw [h1,ob_some,bif_true (by simp; omega)]
 rw [h1,ob_some,bif_false (by simp; omega)]
 have hs:Sm 2097153 r:=⟨by omega,hp,ht,hi⟩
 have hl:=untM_len r
 have hlen:(oneM (untM r).length).length = (untM r).length:=by unfold oneM; rw [List.length_map,ints_len]
 have hm:∀ x ∈ oneM (untM r).length,x.length ≤ 1:=by
  intro x hx
  unfold oneM at hx
  obtain ⟨u,_,rfl⟩:=List.mem_map.1 hx
  simp
 have hm':∀ x ∈ oneM (untM r).length,x.length ≤ 1048576:=fun x hx=>by have:=hm x hx; omega
 have hle:=lens_le _ 1 hm
 obtain ⟨k,x',hk,hk0,hk1⟩:=markReq hs 1 (by omega) (by omega)
 simp only [toReq hs,ob_some,s_one hs,i_one hs,eqReq hs,eqIntSS 2097153 (oneM (untM r).length) (by omega) hm' (by omega),hk,markIntSS 2097153 (oneM (untM r).length) 1 (by omega) hm' (by omega) (by omega) (by omega) (by omega),heldIntSS 2097153 (oneM (untM r).length) 1 (by omega) hm' (by omega) (by omega) (by omega) (by omega)]
 have e1:decide (k < 0) = false:=by simp; omega
 have e2:decide ((1:Int) + (lens (oneM (untM r).length):Int) < 0) = false:=by simp; omega
 simp [e1,e2]
end Go.Proofs.YtcboeijpplllfaaGreat
