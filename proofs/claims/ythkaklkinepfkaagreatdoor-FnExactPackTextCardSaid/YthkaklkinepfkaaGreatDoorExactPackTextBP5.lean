/- ExactPackTextBP: plain lemmas, part 5. -/
import Derived.Test.YthkaklkinepfkaaGreatDoorExactPackTextBP4
set_option linter.unusedSimpArgs false
set_option linter.unusedVariables false
namespace Go.Proofs.YthkaklkinepfkaaGreatDoor
open Go
open Enc (rd ow)
open Arg (argv)
open Ret (retv)
open Wf (wf)
theorem mach_ok (z:ByteArray):∀ (ls:List ByteArray) (last:Int) (r:Request) (i:Int) (n:Nat),r.fPairs.length ≤ n ∧ r.fTypes.length ≤ n ∧ r.fItems.length ≤ n → (mach z ls last r i).1.fPairs.length ≤ n + ls.length ∧ (mach z ls last r i).1.fTypes.length ≤ n + ls.length ∧ (mach z ls last r i).1.fItems.length ≤ n + ls.length
 | [],last,r,i,n,h=>by
  rw [mach]
  split
  · simp [R0]
  split
  · simpa using h
  · simp [R0]
 | l :: ls,last,r,i,n,h=>by
  rw [mach]
  cases mf last (ptl r l).1
  · simp [R0]
  · have:=ptl_len r l
    have:=mach_ok z ls (ptl r l).1 (ptl r l).2 (i + 1) (n + 1) (by omega)
    simp only [cond_true,List.length_cons]
    omega
theorem rdM_sm (s:ByteArray):Sm 2097153 (rdM s).1:=by
 unfold rdM
 split
 · exact ⟨by omega,by simp [R0],by simp [R0],by simp [R0]⟩
 · rename_i h
   have:=mach_ok ((parts 10 s).getLastD emB) (parts 10 s).dropLast (-1) R0 0 0 (by simp [R0])
   have h2:(parts 10 s).dropLast.length ≤ 61:=by rw [List.length_dropLast]; omega
   exact ⟨by omega,by omega,by omega,by omega⟩
def cloM (s:ByteArray):Int:=bif decide ((rdM s).2 ≥ 0) then 1 else clsM (rdM s).1
theorem i_clo {s:ByteArray} (hs:s.size ≤ 1048576):d_impl_ClassOf 2097153 s = some (cloM s):=by
 unfold d_impl_ClassOf cloM
 rw [i_read hs,ob_some]
 cases decide ((rdM s).2 ≥ 0)
 · rw [cond_false,cond_false,i_cls (rdM_sm s),ob_some]
 · rfl
theorem s_clo {s:ByteArray} (hs:s.size ≤ 1048576):d_spec_ClassOf 2097153 s = some (cloM s):=by
 unfold d_spec_ClassOf cloM
 rw [s_read hs,ob_some]
 cases decide ((rdM s).2 ≥ 0)
 · rw [cond_false,cond_false,s_cls (rdM_sm s),ob_some]
 · rfl
def pckM (s:ByteArray):ByteArray × Int:=bif cloM s != 0 then (emB,cloM s) else (txtM (plnM (rdM s).1).1,0)
theorem i_pck {s:ByteArray} (hs:s.size ≤ 1048576):d_impl_Pack 2097153 s = some (pckM s):=by
 unfold d_impl_Pack pckM
 rw [i_clo hs,ob_some]
 cases cloM s != 0
 · rw [cond_false,cond_false,i_read hs,ob_some,i_plan (rdM_sm s),ob_some,i_text (pln_sp _) (by omega),ob_some]
 · rfl
theorem s_pck {s:ByteArray} (hs:s.size ≤ 1048576):d_spec_Pack 2097153 s = some (pckM s):=by
 unfold d_spec_Pack pckM
 rw [s_clo hs,ob_some]
 cases cloM s != 0
 · rw [cond_false,cond_false,s_read hs,ob_some,s_plan (rdM_sm s),ob_some,s_text (pln_sp _) (by omega),ob_some]
 · rfl
def ctxL:List ByteArray:=[⟨#[111,107]⟩,⟨#[116,101,120,116]⟩,⟨#[98,111,117,110,100,115]⟩,⟨#[110,97,109,101,115]⟩,⟨#[116,97,98,108,101]⟩,⟨#[117,110,105,116]⟩,⟨#[112,97,108,108,101,116]⟩]
def ctxM (k:Int):ByteArray:=bif inb k 0 6 then (ix ctxL k).getD emB else emB
theorem s_ctx (fu:Nat) (k:Int):d_spec_ClassText fu k = some (ctxM k):=by
 unfold d_spec_ClassText ctxM
 rw [s_in,ob_some]
 show (bif !inb k 0 6 then _ else obind (ix ctxL k) _) = _
 cases hb:inb k 0 6
 · rfl
 · have h:=inb_iff.1 hb
   rw [Bool.not_true,cond_false,cond_true]
   obtain ⟨u,rfl⟩:∃ u:Nat,k = u:=⟨k.toNat,by omega⟩
   rw [ix_i (l:=ctxL) (by show u < 7; omega)]
   rfl
theorem i_ctx (fu:Nat) (k:Int):d_impl_ClassText fu k = some (ctxM k):=s_ctx fu k
theorem ctx_size (k:Int):(ctxM k).size ≤ 6:=by
 unfold ctxM
 cases hb:inb k 0 6
 · show (0:Nat) ≤ 6; omega
 · have h:=inb_iff.1 hb
   have:k = 0 ∨ k = 1 ∨ k = 2 ∨ k = 3 ∨ k = 4 ∨ k = 5 ∨ k = 6:=by omega
   rcases this with rfl | rfl | rfl | rfl | rfl | rfl | rfl <;> decide
def bang:ByteArray:=⟨#[33,32]⟩
def ptxM (s:ByteArray):ByteArray:=bif (pckM s).2 != 0 then bang ++ ctxM (pckM s).2 ++ nl1 else (pckM s).1
theorem s_ptx {s:ByteArray} (hs:s.size ≤ 1048576):d_spec_PackText 2097153 s = some (ptxM s):=by
 unfold d_spec_PackText ptxM
 rw [s_pck hs,ob_some]
 cases (pckM s).2 != 0
 · rfl
 · have h:=ctx_size (pckM s).2
   rw [cond_true,cond_true,s_ctx,ob_some]
   show obind (scat bang (ctxM (pckM s).2)) (fun x=>obind (scat x nl1) fun y=>some y) = _
   rw [scat_ok (by show 2 + _ ≤ _; omega),ob_some,scat_ok (by rw [ByteArray.size_append]; show 2 + _ + 1 ≤ _; omega),ob_some]
theorem i_ptx {s:ByteArray} (hs:s.size ≤ 1048576):d_impl_PackText 2097153 s = some (ptxM s):=by
 unfold d_impl_PackText ptxM d_impl_refused
 rw [i_pck hs,ob_some]
 cases (pckM s).2 != 0
 · rfl
 · have h:=ctx_size (pckM s).2
   rw [cond_true,cond_true,i_ctx,ob_some]
   show obind (obind (scat bang (ctxM (pckM s).2)) fun x=>some x) (fun x=>obind (scat x nl1) fun y=>some y) = _
   rw [scat_ok (by show 2 + _ ≤ _; omega),ob_some,ob_some,scat_ok (by rw [ByteArray.size_append]; show 2 + _ + 1 ≤ _; omega),ob_some]
end Go.Proofs.YthkaklkinepfkaaGreatDoor
