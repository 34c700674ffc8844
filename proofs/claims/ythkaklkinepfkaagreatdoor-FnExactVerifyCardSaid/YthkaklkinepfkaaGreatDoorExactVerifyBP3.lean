/- ExactVerifyBP: plain lemmas, part 3. -/
import Derived.Test.YthkaklkinepfkaaGreatDoorExactVerifyBP2
set_option linter.unusedSimpArgs false
set_option linter.unusedVariables false
namespace Go.Proofs.YthkaklkinepfkaaGreatDoor
open Go
open Enc (rd ow)
open Arg (argv)
open Ret (retv)
open Wf (wf)
def numB (n:Int):ByteArray:=⟨(Lib.itoa n).toArray⟩
theorem numB_size {n:Int} (h:0 ≤ n ∧ n ≤ 999999):(numB n).size ≤ 21:=by
 have:=Lib.itoa_length_le n (by omega) (by omega)
 unfold numB ByteArray.size
 simpa using this
theorem scat_ok {x y:ByteArray} (h:x.size + y.size ≤ 1000000000):scat x y = some (x ++ y):=by
 unfold scat
 rw [if_pos (by omega)]
theorem i_digits (fu:Nat) {n:Int} (h:0 ≤ n ∧ n ≤ 999999):d_impl_Digits fu n = some (numB n):=by
 unfold d_impl_Digits d_strconv_Itoa itoaO
 rw [if_pos (by omega)]; rfl
theorem w8_id {n:Int} (h:0 ≤ n ∧ n ≤ 255):w8 n = n:=by
 unfold w8
 simp only [IntKind.wrap_u8]
 omega
theorem bstr_one {n:Int} (h:0 ≤ n ∧ n ≤ 255):bstr [(⟨n⟩:U8)] = some ⟨[UInt8.ofNat n.toNat].toArray⟩:=by
 unfold bstr
 rw [if_pos (fun b hb=>by rw [List.mem_singleton.1 hb]; exact h)]
 rfl
theorem dig_step {u:Nat} (out:ByteArray):(⟨[UInt8.ofNat (48 + u % 10)].toArray⟩:ByteArray) ++ out = ⟨([UInt8.ofNat (48 + u % 10)] ++ out.data.toList).toArray⟩:=by
 apply ByteArray.ext
 rw [ByteArray.data_append]
 apply Array.ext'
 simp
theorem s_digL {fu:Nat} {n1:Int} (h1:0 ≤ n1):∀ (u:Nat) (k:Nat) (out:ByteArray),u ≤ 999999 → u + 2 ≤ k → out.size + u ≤ 2000000 → 0 < u → d_spec_Digits_L1 fu n1 k (u:Int) out = some ⟨(Lib.decDigits u ++ out.data.toList).toArray⟩:=by
 intro u
 induction u using Nat.strongRecOn with
 | _ u ih =>
  intro k out hu hk ho h0
  obtain ⟨k,rfl⟩:∃ j,k = j + 1:=⟨k - 1,by omega⟩
  have em:Int.tmod (u:Int) 10 = ((u % 10:Nat):Int):=by
   rw [Int.tmod_eq_emod_of_nonneg (by omega)]; omega
  have ed:w64 (Int.tdiv (u:Int) 10) = ((u / 10:Nat):Int):=by
   rw [Int.tdiv_eq_ediv_of_nonneg (by omega),w64_id (by omega) (by omega)]; omega
  rw [d_spec_Digits_L1.eq_2]
  unfold d_spec_Digits_L1_B d_spec_Digits_J1
  rw [bif_true (bne_iff_ne.2 (by omega)),em,bif_false (decide_eq_false (by omega)),w64_id (n:=48 + _) (by omega) (by omega),w8_id (by omega),bstr_one (by omega),ob_some,show ((48:Int) + ((u % 10:Nat):Int)).toNat = 48 + u % 10 by omega]
  have hs1:(⟨[UInt8.ofNat (48 + u % 10)].toArray⟩:ByteArray).size = 1:=rfl
  rw [scat_ok (by rw [hs1]; omega),ob_some,ed,dig_step]
  by_cases hlt:u < 10
  · have e0:u / 10 = 0:=by omega
    rw [e0]
    obtain ⟨k,rfl⟩:∃ j,k = j + 1:=⟨k - 1,by omega⟩
    rw [d_spec_Digits_L1.eq_2]
    unfold d_spec_Digits_L1_B
    rw [bif_false (by decide),bif_false (decide_eq_false (by omega)),Lib.decDigits,dif_pos hlt,Nat.mod_eq_of_lt hlt]
  · have:=ih (u / 10) (by omega) k (⟨([UInt8.ofNat (48 + u % 10)] ++ out.data.toList).toArray⟩:ByteArray) (by omega) (by omega) (by
      show ([UInt8.ofNat (48 + u % 10)] ++ out.data.toList).toArray.size + _ ≤ _
      have e:out.data.toList.length = out.size:=Array.length_toList
      simp only [List.size_toArray,List.length_append,List.length_singleton,e]
      omega) (by omega)
    rw [this]
    conv=>rhs; rw [Lib.decDigits,dif_neg hlt]
    simp
theorem s_digits {fu:Nat} (hfu:2097153 ≤ fu) {n:Int} (h:0 ≤ n ∧ n ≤ 999999):d_spec_Digits fu n = some (numB n):=by
 unfold d_spec_Digits numB
 by_cases h0:n = 0
 · subst h0
   rw [bif_true (by simp)]
   have:Lib.itoa 0 = [48]:=by
    unfold Lib.itoa
    rw [if_neg (by omega),Lib.decDigits,dif_pos (by decide)]; rfl
   rw [this]
 · rw [bif_false (by simpa using h0)]
   obtain ⟨u,rfl⟩:∃ u:Nat,n = u:=⟨n.toNat,by omega⟩
   have:=s_digL (fu:=fu) (n1:=(u:Int)) (by omega) u fu ⟨#[]⟩ (by omega) (by omega) (by
    show 0 + u ≤ _
    omega) (by omega)
   rw [this]
   have e:Lib.itoa (u:Int) = Lib.decDigits u:=by
    unfold Lib.itoa
    rw [if_neg (by omega),Int.toNat_natCast]
   rw [e]; simp
def sp1:ByteArray:=⟨#[32]⟩
def lineL (o:ByteArray) (l:List Int):ByteArray:=l.foldl (fun o n=>o ++ (sp1 ++ numB n)) o
def carB:ByteArray:=⟨#[99,97,114,116,111,110]⟩
def numsL (c:Carton) (s:Spot):List Int:=[c.fType,c.fGroup,s.fPallet,s.fX,s.fY,s.fZ] ++ c.fUnits
theorem inc_bd:∀ (l pre:List Int),incP pre l = true → ∀ n ∈ l,0 ≤ n ∧ n ≤ 999
 | [],_,_,n,hn=>by simp at hn
 | x :: l,pre,h,n,hn=>by
  unfold incP at h
  simp only [Bool.and_eq_true,inb_iff] at h
  rcases List.mem_cons.1 hn with rfl | hn
  · exact h.1
  · exact inc_bd l _ h.2.2 n hn
theorem nums_ok {c:Carton} {s:Spot} (hc:cokB c = true) (hs:sokB s = true):(∀ n ∈ numsL c s,0 ≤ n ∧ n ≤ 999999) ∧ (numsL c s).length ≤ 106:=by
 unfold cokB uriB at hc
 unfold sokB at hs
 simp only [Bool.and_eq_true,inb_iff,decide_eq_true_eq] at hc hs
 obtain ⟨h1,h2,h3,h4⟩:=hc
 refine ⟨fun n hn=>?_,by simp [numsL]; omega⟩
 unfold numsL at hn
 rcases List.mem_append.1 hn with hn | hn
 · simp only [List.mem_cons,List.not_mem_nil,or_false] at hn
   omega
 · have:=inc_bd _ _ h3 n hn
   omega
theorem s_line {fu:Nat} (hfu:2097153 ≤ fu) {c:Carton} {s:Spot} (h:(∀ n ∈ numsL c s,0 ≤ n ∧ n ≤ 999999) ∧ (numsL c s).length ≤ 106):d_spec_l14Line fu c s = some (lineL carB (numsL c s)):=by
 obtain ⟨h1,h2⟩:=h
 unfold d_spec_l14Line
 have hlen:[c.fType,c.fGroup,s.fPallet,s.fX,s.fY,s.fZ].length + c.fUnits.length ≤ 106:=by
  have:=h2
  unfold numsL at this
  rwa [List.length_append] at this
 rw [ap1 (by omega),ob_some]
 show d_spec_l14Line_L1 fu (numsL c s) fu carB 0 = _
 generalize numsL c s = l at h1 h2
 refine lpI l (fun n (o:ByteArray) i=>d_spec_l14Line_L1 fu l n o i) (fun xs o=>some (lineL o xs)) (fun xs o=>(∀ n ∈ xs,0 ≤ n ∧ n ≤ 999999) ∧ o.size + 22 * xs.length ≤ 2000000) (by omega) ?_ ?_ fu carB ⟨h1,by rw [show carB.size = 6 from rfl]; omega⟩ (by omega)
 · intro n o i x xs hx hd hI ih
   obtain ⟨i1,i2⟩:=hI
   simp only [List.length_cons] at i2
   have hxb:=i1 x (by simp)
   have hs:=numB_size hxb
   have e:(o ++ (sp1 ++ numB x)).size = o.size + (1 + (numB x).size):=by
    rw [ByteArray.size_append,ByteArray.size_append]; rfl
   have hsz:sp1.size = 1:=rfl
   simp only [d_spec_l14Line_L1.eq_2]
   unfold d_spec_l14Line_L1_B
   rw [hd,cond_true]
   show (obind (scat o sp1) fun sv56=>obind (ix l i) fun x58=>obind (d_spec_Digits fu x58) fun x60=>obind (scat sv56 x60) fun sv64=>d_spec_l14Line_L1 fu l n sv64 (w64 (i + 1))) = _
   rw [scat_ok (by omega),ob_some,hx,ob_some,s_digits hfu hxb,ob_some,scat_ok (by rw [ByteArray.size_append,hsz]; omega),ob_some,ByteArray.append_assoc,ih _ ⟨fun m hm=>i1 m (by simp [hm]),by omega⟩]
   rfl
 · intro n o i hd _
   simp only [d_spec_l14Line_L1.eq_2]
   unfold d_spec_l14Line_L1_B
   rw [hd,cond_false]; rfl
theorem ba_loop (b:ByteArray):∀ (m i:Nat) (r:List UInt8),b.size - i = m → ByteArray.toList.loop b i r = r.reverse ++ b.data.toList.drop i:=by
 intro m
 induction m with
 | zero =>
  intro i r h
  rw [ByteArray.toList.loop,if_neg (by omega)]
  have:b.data.toList.length ≤ i:=by have:b.size = b.data.size:=rfl; simp; omega
  rw [List.drop_of_length_le this]; simp
 | succ m ih =>
  intro i r h
  rw [ByteArray.toList.loop,if_pos (by omega),ih (i + 1) _ (by omega)]
  have hs:b.size = b.data.size:=rfl
  have hi:i < b.data.toList.length:=by simp; omega
  rw [List.drop_eq_getElem_cons hi]
  have:b.get! i = b.data.toList[i]:=by
   unfold ByteArray.get!
   simp [Array.getElem!_eq_getD,Array.getD]
   rw [dif_pos (by omega)]
  rw [this]; simp
theorem ba_list (b:ByteArray):b.toList = b.data.toList:=by
 unfold ByteArray.toList
 rw [ba_loop b _ 0 [] rfl]; simp
theorem ba_eq (a b:ByteArray):(a.toList == b.toList) = decide (a = b):=by
 rw [ba_list,ba_list]
 by_cases h:a = b
 · subst h; simp
 · rw [decide_eq_false h]
   have:a.data.toList ≠ b.data.toList:=fun e=>h (ByteArray.ext (Array.ext' e))
   simpa using this
theorem dd_dig:∀ (u:Nat),∀ b ∈ Lib.decDigits u,48 ≤ b.toNat ∧ b.toNat ≤ 57:=by
 intro u
 induction u using Nat.strongRecOn with
 | _ u ih =>
  intro b hb
  have one:∀ d:Nat,d < 10 → 48 ≤ (UInt8.ofNat (48 + d)).toNat ∧ (UInt8.ofNat (48 + d)).toNat ≤ 57:=fun d hd=>by
   rw [UInt8.toNat_ofNat']; omega
  rw [Lib.decDigits] at hb
  split at hb
  · rename_i h
    rw [List.mem_singleton.1 hb]
    exact one u h
  · rename_i h
    rcases List.mem_append.1 hb with hb | hb
    · exact ih (u / 10) (by omega) b hb
    · rw [List.mem_singleton.1 hb]
      exact one _ (by omega)
theorem decFrom_app:∀ (l r:List UInt8) (acc:Nat),Lib.decFrom acc (l ++ r) = (Lib.decFrom acc l).bind fun n=>Lib.decFrom n r
 | [],r,acc=>rfl
 | b :: l,r,acc=>by
  simp only [List.cons_append,Lib.decFrom]
  cases Lib.digitVal b with
  | none=>rfl
  | some d=>exact decFrom_app l r _
theorem dd_val:∀ (u:Nat),Lib.decFrom 0 (Lib.decDigits u) = some u:=by
 intro u
 induction u using Nat.strongRecOn with
 | _ u ih =>
  have one:∀ d:Nat,d < 10 → Lib.digitVal (UInt8.ofNat (48 + d)) = some d:=fun d hd=>by
   unfold Lib.digitVal
   have:(UInt8.ofNat (48 + d)).toNat = 48 + d:=by rw [UInt8.toNat_ofNat']; omega
   rw [this,if_pos (by omega)]
   congr 1; omega
  rw [Lib.decDigits]
  split
  · rename_i h
    simp only [Lib.decFrom,one u h]
    congr 1; omega
  · rename_i h
    rw [decFrom_app,ih (u / 10) (by omega)]
    simp only [Option.bind_some,Lib.decFrom,one (u % 10) (by omega)]
    congr 1; omega
theorem dd_len:∀ (k u:Nat),u < 10 ^ (k + 1) → 1 ≤ (Lib.decDigits u).length ∧ (Lib.decDigits u).length ≤ k + 1
 | 0,u,h=>by
  rw [Lib.decDigits,dif_pos (by omega)]; simp
 | k + 1,u,h=>by
  rw [Lib.decDigits]
  split
  · simp
  · have:=dd_len k (u / 10) (by
      rw [Nat.pow_succ] at h
      omega)
    simp only [List.length_append,List.length_singleton]
    omega
theorem atoi_dd {u:Nat} (h:u ≤ 999999):Lib.atoiAll (Lib.decDigits u) = .ok (u:Int):=by
 have hl:=dd_len 5 u (by omega)
 rw [Lib.atoiAll_short _ (by omega)]
 have hv:=dd_val u
 have hd:=dd_dig u
 cases hc:Lib.decDigits u with
 | nil=>rw [hc] at hl; simp at hl
 | cons b r =>
  rw [hc] at hv hd
  have hb:=hd b (by simp)
  have n1:¬ (b == 45) = true:=fun e=>by rw [beq_iff_eq.1 e] at hb; exact absurd hb (by decide)
  have n2:¬ (b == 43) = true:=fun e=>by rw [beq_iff_eq.1 e] at hb; exact absurd hb (by decide)
  unfold Lib.atoi
  show Lib.NumEnd.ofOption (if (b == 45) = true then _ else if (b == 43) = true then _ else Option.map _ (Lib.decNat (b :: r))) = _
  rw [if_neg n1,if_neg n2]
  unfold Lib.decNat
  rw [if_neg (by simp),hv]
  rfl
theorem numB_dd {u:Nat}:numB (u:Int) = ⟨(Lib.decDigits u).toArray⟩:=by
 unfold numB Lib.itoa
 rw [if_neg (by omega),Int.toNat_natCast]
theorem i_num {fu:Nat} {s:ByteArray} (hs:s.size ≤ 1048576):∃ r,d_impl_Number fu s = some r ∧ ((∃ u:Nat,u ≤ 999999 ∧ s = numB u ∧ r = ((u:Int),true)) ∨ ((∀ u:Nat,u ≤ 999999 → s ≠ numB u) ∧ r = (0,false))):=by
 unfold d_impl_Number d_strconv_Atoi atoiO d_impl_Number_J1
 rw [if_pos hs,ob_some]
 by_cases he:∃ u:Nat,u ≤ 999999 ∧ s = numB u
 · obtain ⟨u,hu,rfl⟩:=he
   have e:(numB (u:Int)).data.toList = Lib.decDigits u:=by rw [numB_dd]
   rw [e,atoi_dd hu]
   simp only [cond_false,i_in,ob_some,show inb (u:Int) 0 999999 = true from inb_iff.2 (by omega),Bool.not_true]
   rw [i_digits fu (by omega),ob_some,ba_eq,decide_eq_true rfl]
   exact ⟨_,rfl,.inl ⟨u,hu,rfl,rfl⟩⟩
 · have hne:∀ u:Nat,u ≤ 999999 → s ≠ numB u:=fun u hu e=>he ⟨u,hu,e⟩
   refine ⟨(0,false),?_,.inr ⟨hne,rfl⟩⟩
   cases ha:Lib.atoiAll s.data.toList
   case ok v =>
    simp only [cond_false,i_in,ob_some]
    cases hv:inb v 0 999999
    · rfl
    · have hv':=inb_iff.1 hv
      rw [Bool.not_true,cond_false,i_digits fu hv',ob_some,ba_eq,decide_eq_false (fun e=>by
       obtain ⟨u,rfl⟩:∃ u:Nat,v = u:=⟨v.toNat,by omega⟩
       exact hne u (by omega) e.symm)]
      rfl
   all_goals rfl
theorem sx_at {s:ByteArray} {pre l:List UInt8} {b:UInt8} (h:s.data.toList = pre ++ b :: l):sx s (pre.length:Int) = some (b.toNat:Int):=by
 have hl:s.data.toList[pre.length]? = some b:=by rw [h]; simp
 have hs:s.data.toList.length = s.size:=Array.length_toList
 have hi:pre.length < s.size:=by rw [← hs,h]; simp
 unfold sx
 rw [if_pos (by omega),Int.toNat_natCast,getElem?_pos s pre.length hi]
 have e:s[pre.length] = b:=by
  have:s.data.toList[pre.length]? = some s[pre.length]:=by
   rw [Array.getElem?_toList]
   exact Array.getElem?_eq_getElem hi
  rw [hl] at this
  exact (Option.some.inj this).symm
 rw [e]; rfl
theorem s_numL {s:ByteArray}:∀ (l pre:List UInt8) (n k:Nat),s.data.toList = pre ++ l → s.size ≤ 6 → l.length < k → n < 10 ^ pre.length →
    d_spec_Number_L1 2097153 s k (n:Int) (pre.length:Int) = match Lib.decFrom n l with | none=>some (0,false) | some m=>bif decide (numB (m:Int) = s) then some ((m:Int),true) else some (0,false)
 | [],pre,n,k,h,hs,hk,hn=>by
  obtain ⟨k,rfl⟩:∃ j,k = j + 1:=⟨k - 1,by omega⟩
  have hsz:s.size = pre.length:=by
   have:s.data.toList.length = s.size:=Array.length_toList
   rw [← this,h]; simp
  have hn6:n < 10 ^ 6:=Nat.lt_of_lt_of_le hn (Nat.pow_le_pow_right (by omega) (by omega))
  rw [d_spec_Number_L1.eq_2]
  unfold d_spec_Number_L1_B
  rw [bif_false (by simp; omega),s_digits (by omega) (by omega),ob_some,ba_eq]
  simp only [Lib.decFrom]
  cases decide (numB (n:Int) = s) <;> rfl
 | b :: l,pre,n,k,h,hs,hk,hn=>by
  obtain ⟨k,rfl⟩:∃ j,k = j + 1:=⟨k - 1,by omega⟩
  have hsz:s.size = pre.length + (l.length + 1):=by
   have:s.data.toList.length = s.size:=Array.length_toList
   rw [← this,h]; simp
  have hp:10 ^ pre.length ≤ 10 ^ 5:=Nat.pow_le_pow_right (by omega) (by omega)
  have hb:b.toNat < 256:=b.toNat_lt
  have hx:=sx_at h
  rw [d_spec_Number_L1.eq_2]
  unfold d_spec_Number_L1_B d_spec_Number_J2 d_spec_Number_J1
  rw [bif_true (by simp; omega)]
  simp only [hx,ob_some]
  unfold Lib.decFrom Lib.digitVal
  by_cases h1:b.toNat < 48
  · rw [bif_true (by simp; omega),if_neg (by omega)]
  · rw [bif_false (by simp; omega)]
    by_cases h2:b.toNat > 57
    · rw [bif_true (by simp; omega),if_neg (by omega)]
    · rw [bif_false (by simp; omega),if_pos (by omega)]
      have e:w64 (w64 (w64 (10 * (n:Int)) + w64 (b.toNat:Int)) - 48) = ((n * 10 + (b.toNat - 48):Nat):Int):=by
       rw [w64_id (n:=10 * (n:Int)) (by omega) (by omega),w64_id (n:=(b.toNat:Int)) (by omega) (by omega),w64_id (n:=_ + (b.toNat:Int)) (by omega) (by omega),w64_id (by omega) (by omega)]
       omega
      have e2:w64 ((pre.length:Int) + 1) = (((pre ++ [b]).length:Nat):Int):=by
       rw [w64_id (by omega) (by omega)]; simp
      rw [e,e2]
      exact s_numL l (pre ++ [b]) _ k (by simp [h]) hs (by simp at hk; omega) (by
       rw [List.length_append,List.length_singleton,Nat.pow_succ]
       omega)
theorem s_num {s:ByteArray} (hs:s.size ≤ 1048576):d_spec_Number 2097153 s = d_impl_Number 2097153 s:=by
 obtain ⟨r,h1,h2⟩:=i_num (fu:=2097153) hs
 rw [h1]
 unfold d_spec_Number d_spec_Number_J3
 have hlen:s.data.toList.length = s.size:=Array.length_toList
 have hB:∀ u:Nat,u ≤ 999999 → 1 ≤ (numB (u:Int)).size ∧ (numB (u:Int)).size ≤ 6:=fun u hu=>by
  have:=dd_len 5 u (by omega)
  rw [numB_dd]
  exact this
 by_cases l1:(s.size:Int) < 1
 · rw [bif_true (by simpa using l1)]
   rcases h2 with ⟨u,hu,rfl,_⟩ | ⟨_,rfl⟩
   · have:=hB u hu; omega
   · rfl
 · rw [bif_false (by simpa using l1)]
   by_cases l2:(s.size:Int) > 6
   · rw [bif_true (by simpa using l2)]
     rcases h2 with ⟨u,hu,rfl,_⟩ | ⟨_,rfl⟩
     · have:=hB u hu; omega
     · rfl
   · rw [bif_false (by simpa using l2)]
     have:=s_numL (s:=s) s.data.toList [] 0 2097153 rfl (by omega) (by omega) (by simp)
     rw [show ((([]:List UInt8).length:Nat):Int) = 0 from rfl,show (((0:Nat):Nat):Int) = 0 from rfl] at this
     rw [this]
     rcases h2 with ⟨u,hu,rfl,rfl⟩ | ⟨hne,rfl⟩
     · have e:(numB (u:Int)).data.toList = Lib.decDigits u:=by rw [numB_dd]
       rw [e,dd_val u]
       simp
     · cases hd:Lib.decFrom 0 s.data.toList with
       | none=>rfl
       | some m =>
        have hm:=Lib.decFrom_lt _ _ _ hd
        have hp:10 ^ s.data.toList.length ≤ 10 ^ 6:=Nat.pow_le_pow_right (by omega) (by omega)
        simp only
        rw [decide_eq_false (fun e=>hne m (by omega) e.symm)]
        rfl
def ofL (l:List UInt8):ByteArray:=⟨l.toArray⟩
theorem ba_len (s:ByteArray):s.data.toList.length = s.size:=Array.length_toList
def cut (b:UInt8):List UInt8 → List UInt8 × List (List UInt8)
 | []=>([],[])
 | c :: l=>if c = b then ([],(cut b l).1 :: (cut b l).2) else (c :: (cut b l).1,(cut b l).2)
def pts (b:UInt8) (l:List UInt8):List (List UInt8):=(cut b l).1 :: (cut b l).2
def parts (b:UInt8) (s:ByteArray):List ByteArray:=(pts b s.data.toList).map ofL
theorem cut_sep (b:UInt8) (r:List UInt8):cut b (b :: r) = ([],(cut b r).1 :: (cut b r).2):=by rw [cut,if_pos rfl]
theorem cut_join (b:UInt8):∀ (l:List UInt8),l = (cut b l).1 ++ ((cut b l).2.map fun x=>b :: x).flatten
 | []=>rfl
 | c :: l=>by
  have ih:=cut_join b l
  rw [cut]
  split
  · rename_i h
    rw [h]
    show b :: l = [] ++ (b :: (cut b l).1) ++ _
    simp only [List.nil_append,List.cons_append]
    rw [← ih]
  · show c :: l = c :: ((cut b l).1 ++ _)
    rw [← ih]
theorem cut_len (b:UInt8):∀ (l:List UInt8),(cut b l).2.length ≤ l.length
 | []=>Nat.le_refl _
 | c :: l=>by
  have ih:=cut_len b l
  rw [cut]
  split <;> simp only [List.length_cons] <;> omega
theorem cut_mem (b:UInt8):∀ (l:List UInt8),(cut b l).1.length ≤ l.length ∧ ∀ x ∈ (cut b l).2,x.length ≤ l.length
 | []=>⟨by simp [cut],by simp [cut]⟩
 | c :: l=>by
  have ih:=cut_mem b l
  rw [cut]
  split
  · exact ⟨by simp,fun x hx=>by
      simp only [List.length_cons]
      rcases List.mem_cons.1 hx with e | e
      · rw [e]; omega
      · have:=ih.2 x e; omega⟩
  · exact ⟨by simp only [List.length_cons]; omega,fun x hx=>by
      have:=ih.2 x hx
      simp only [List.length_cons]; omega⟩
theorem parts_len (b:UInt8) (s:ByteArray):1 ≤ (parts b s).length ∧ (parts b s).length ≤ s.size + 1:=by
 have:=cut_len b s.data.toList
 rw [ba_len] at this
 unfold parts pts
 simp only [List.length_map,List.length_cons]
 omega
theorem parts_size {b:UInt8} {s x:ByteArray} (h:x ∈ parts b s):x.size ≤ s.size:=by
 obtain ⟨l,hl,rfl⟩:=List.mem_map.1 h
 have:=cut_mem b s.data.toList
 rw [ba_len] at this
 show l.toArray.size ≤ _
 rw [List.size_toArray]
 rcases List.mem_cons.1 hl with rfl | e
 · exact this.1
 · exact this.2 l e
theorem ssl_at {s:ByteArray} {pre acc l:List UInt8} (h:s.data.toList = pre ++ (acc ++ l)):ssl s (pre.length:Int) ((pre.length:Int) + (acc.length:Int)) = some (ofL acc):=by
 have hs:=ba_len s
 rw [h] at hs
 simp only [List.length_append] at hs
 unfold ssl
 rw [if_pos (by omega)]
 congr 1
 apply ByteArray.ext
 apply Array.ext'
 rw [show ((pre.length:Int) + (acc.length:Int)).toNat = pre.length + acc.length by omega,Int.toNat_natCast,ByteArray.data_extract,Array.toList_extract,h]
 show _ = acc
 rw [List.extract_eq_take_drop,Nat.add_sub_cancel_left,List.drop_left,List.take_left]
theorem ap16 {x:ByteArray} {out:List ByteArray} (h:out.length ≤ 2000000):apnd 16 out [x] = some (out ++ [x]):=by
 unfold apnd
 rw [if_pos (by simp only [List.length_singleton]; omega)]
theorem i_partsL {fu:Nat} {s:ByteArray} {b:UInt8} (hs:s.size ≤ 1048576):∀ (l pre acc:List UInt8) (out:List ByteArray) (k:Nat),s.data.toList = pre ++ (acc ++ l) → l.length < k → out.length + l.length ≤ 1048576 →
    d_impl_Parts_L1 fu s (b.toNat:Int) k out (pre.length:Int) ((pre.length:Int) + (acc.length:Int)) = some (out ++ ofL (acc ++ (cut b l).1) :: (cut b l).2.map ofL)
 | [],pre,acc,out,k,h,hk,ho=>by
  obtain ⟨k,rfl⟩:∃ j,k = j + 1:=⟨k - 1,by omega⟩
  have hz:=ba_len s
  rw [h] at hz
  simp only [List.length_append,List.length_nil] at hz
  rw [d_impl_Parts_L1.eq_2]
  unfold d_impl_Parts_L1_B
  rw [bif_false (by simp; omega),show (s.size:Int) = (pre.length:Int) + (acc.length:Int) by omega,ssl_at h,ob_some,ap16 (by omega),ob_some]
  simp [cut]
 | c :: l,pre,acc,out,k,h,hk,ho=>by
  obtain ⟨k,rfl⟩:∃ j,k = j + 1:=⟨k - 1,by omega⟩
  have hz:=ba_len s
  rw [h] at hz
  simp only [List.length_append,List.length_cons] at hz ho
  have hx:sx s ((pre.length:Int) + (acc.length:Int)) = some (c.toNat:Int):=by
   have:=sx_at (s:=s) (pre:=pre ++ acc) (l:=l) (b:=c) (by rw [h]; simp)
   rw [← this]; simp
  rw [d_impl_Parts_L1.eq_2]
  unfold d_impl_Parts_L1_B d_impl_Parts_J1
  rw [bif_true (by simp; omega),hx,ob_some,w64_id (by omega) (by omega)]
  by_cases hc:c = b
  · subst hc
    rw [bif_true (by simp),ssl_at h,ob_some,ap16 (by omega),ob_some]
    have:=i_partsL (fu:=fu) (b:=c) hs l (pre ++ (acc ++ [c])) [] (out ++ [ofL acc]) k (by rw [h]; simp) (by simp at hk; omega) (by simp; omega)
    rw [show ((pre.length:Int) + (acc.length:Int) + 1) = (((pre ++ (acc ++ [c])).length:Nat):Int) + (([]:List UInt8).length:Int) by simp; omega]
    rw [show ((((pre ++ (acc ++ [c])).length:Nat):Int) + (([]:List UInt8).length:Int)) = (((pre ++ (acc ++ [c])).length:Nat):Int) by simp] at this ⊢
    rw [this,cut_sep]
    simp
  · rw [bif_false (by simpa using fun e=>hc (UInt8.toNat_inj.1 (by omega)))]
    have:=i_partsL (fu:=fu) (b:=b) hs l pre (acc ++ [c]) out k (by rw [h]; simp) (by simp at hk; omega) (by omega)
    rw [show ((pre.length:Int) + (acc.length:Int) + 1) = (pre.length:Int) + (((acc ++ [c]).length:Nat):Int) by simp; omega,this,cut,if_neg hc]
    simp
theorem i_parts {s:ByteArray} {b:UInt8} (hs:s.size ≤ 1048576):d_impl_Parts 2097153 s (b.toNat:Int) = some (parts b s):=by
 unfold d_impl_Parts
 have hz:=ba_len s
 exact i_partsL (b:=b) hs s.data.toList [] [] [] 2097153 rfl (by omega) (by simp; omega)
theorem s_partsL {fu:Nat} {s:ByteArray} {b:UInt8} (hs:s.size ≤ 1048576):∀ (l pre acc:List UInt8) (out:List ByteArray) (k:Nat),s.data.toList = pre ++ (acc ++ l) → l.length + 1 < k → out.length + l.length ≤ 1048576 →
    d_spec_Parts_L1 fu s (b.toNat:Int) k out (pre.length:Int) ((pre.length:Int) + (acc.length:Int)) = some (out ++ ofL (acc ++ (cut b l).1) :: (cut b l).2.map ofL)
 | [],pre,acc,out,k,h,hk,ho=>by
  obtain ⟨k,rfl⟩:∃ j,k = j + 2:=⟨k - 2,by simp at hk; omega⟩
  have hz:=ba_len s
  rw [h] at hz
  simp only [List.length_append,List.length_nil] at hz
  rw [d_spec_Parts_L1.eq_2]
  unfold d_spec_Parts_L1_B d_spec_Parts_J1
  rw [bif_true (by simp; omega),bif_true (by simp; omega),ssl_at h,ob_some,ap16 (by omega),ob_some,w64_id (by omega) (by omega),d_spec_Parts_L1.eq_2]
  unfold d_spec_Parts_L1_B
  rw [bif_false (by simp; omega)]
  simp [cut]
 | c :: l,pre,acc,out,k,h,hk,ho=>by
  obtain ⟨k,rfl⟩:∃ j,k = j + 1:=⟨k - 1,by omega⟩
  have hz:=ba_len s
  rw [h] at hz
  simp only [List.length_append,List.length_cons] at hz ho
  have hx:sx s ((pre.length:Int) + (acc.length:Int)) = some (c.toNat:Int):=by
   have:=sx_at (s:=s) (pre:=pre ++ acc) (l:=l) (b:=c) (by rw [h]; simp)
   rw [← this]; simp
  rw [d_spec_Parts_L1.eq_2]
  unfold d_spec_Parts_L1_B d_spec_Parts_J1
  rw [bif_true (by simp; omega),bif_false (by simp; omega),hx,ob_some,w64_id (by omega) (by omega)]
  by_cases hc:c = b
  · subst hc
    rw [bif_true (by simp),ssl_at h,ob_some,ap16 (by omega),ob_some]
    have:=s_partsL (fu:=fu) (b:=c) hs l (pre ++ (acc ++ [c])) [] (out ++ [ofL acc]) k (by rw [h]; simp) (by simp at hk; omega) (by simp; omega)
    rw [show ((pre.length:Int) + (acc.length:Int) + 1) = (((pre ++ (acc ++ [c])).length:Nat):Int) + (([]:List UInt8).length:Int) by simp; omega]
    rw [show ((((pre ++ (acc ++ [c])).length:Nat):Int) + (([]:List UInt8).length:Int)) = (((pre ++ (acc ++ [c])).length:Nat):Int) by simp] at this ⊢
    rw [this,cut_sep]
    simp
  · rw [bif_false (by simpa using fun e=>hc (UInt8.toNat_inj.1 (by omega)))]
    have:=s_partsL (fu:=fu) (b:=b) hs l pre (acc ++ [c]) out k (by rw [h]; simp) (by simp at hk; omega) (by omega)
    rw [show ((pre.length:Int) + (acc.length:Int) + 1) = (pre.length:Int) + (((acc ++ [c]).length:Nat):Int) by simp; omega,this,cut,if_neg hc]
    simp
theorem s_parts {s:ByteArray} {b:UInt8} (hs:s.size ≤ 1048576):d_spec_Parts 2097153 s (b.toNat:Int) = some (parts b s):=by
 unfold d_spec_Parts
 have hz:=ba_len s
 exact s_partsL (b:=b) hs s.data.toList [] [] [] 2097153 rfl (by omega) (by simp; omega)
def nmv (x:ByteArray):Int × Bool:=(d_impl_Number 2097153 x).getD (0,false)
theorem nmv_i {x:ByteArray} (h:x.size ≤ 1048576):d_impl_Number 2097153 x = some (nmv x):=by
 obtain ⟨r,h1,_⟩:=i_num (fu:=2097153) h
 unfold nmv
 rw [h1]; rfl
theorem nmv_s {x:ByteArray} (h:x.size ≤ 1048576):d_spec_Number 2097153 x = some (nmv x):=by rw [s_num h,nmv_i h]
theorem nmv_is {x:ByteArray} (h:x.size ≤ 1048576) (ht:(nmv x).2 = true):x = numB (nmv x).1 ∧ 0 ≤ (nmv x).1 ∧ (nmv x).1 ≤ 999999:=by
 obtain ⟨r,h1,h2⟩:=i_num (fu:=2097153) h
 rw [nmv_i h] at h1
 rw [Option.some.inj h1] at ht ⊢
 rcases h2 with ⟨u,hu,e,rfl⟩ | ⟨_,rfl⟩
 · exact ⟨e,by simp only; omega,by simp only; omega⟩
 · simp at ht
def nms:List ByteArray → Option (List Int)
 | []=>some []
 | x :: xs=>if (nmv x).2 = true then (nms xs).map ((nmv x).1 :: ·) else none
def rsL (o:List Int):Option (List Int) → List Int × Bool
 | some ns=>(o ++ ns,true)
 | none=>([],false)
def wrd (w:ByteArray) (k:Nat) (line:ByteArray):Option (List Int) :=
 match parts 32 line with
 | []=>none
 | p :: ps=>if p = w ∧ ps.length = k then nms ps else none
theorem i_wordsL {fu k:Nat} {xs:List ByteArray} (hx:∀ x ∈ xs,x.size ≤ 1048576) (hl:xs.length ≤ 1048577) (hk:xs.length < k):d_impl_wordsOf_L1 2097153 xs k [] 0 = some (rsL [] (nms xs)):=by
 have key:=lpI xs (fun n (o:List Int) i=>d_impl_wordsOf_L1 2097153 xs n o i) (fun xs o=>some (rsL o (nms xs))) (fun xs o=>(∀ x ∈ xs,x.size ≤ 1048576) ∧ o.length + xs.length ≤ 1048577) (by omega) ?_ ?_ k [] ⟨hx,by simpa using hl⟩ (by omega)
 · exact key
 · intro n o i x xs hx hd hI ih
   obtain ⟨i1,i2⟩:=hI
   simp only [List.length_cons] at i2
   simp only [d_impl_wordsOf_L1.eq_2]
   unfold d_impl_wordsOf_L1_B
   rw [hd,cond_true,hx,ob_some,nmv_i (i1 x (by simp)),ob_some,nms]
   cases hv:(nmv x).2 with
   | false=>rfl
   | true =>
    rw [if_pos rfl,Bool.not_true,cond_false]
    have:apnd 8 o [(nmv x).1] = some (o ++ [(nmv x).1]):=by
     unfold apnd
     rw [if_pos (by simp only [List.length_singleton]; omega)]
    rw [this,ob_some,ih _ ⟨fun y hy=>i1 y (by simp [hy]),by simp only [List.length_append,List.length_singleton]; omega⟩]
    cases nms xs with
    | none=>rfl
    | some ns=>simp [rsL]
 · intro n o i hd hI
   simp only [d_impl_wordsOf_L1.eq_2]
   unfold d_impl_wordsOf_L1_B
   rw [hd,cond_false]
   simp [nms,rsL]
theorem s_wordsL {y:ByteArray}:∀ (xs pre:List ByteArray) (o:List Int) (k:Nat),(∀ x ∈ xs,x.size ≤ 1048576) → (o.length + xs.length ≤ 2000000 ∧ pre.length + xs.length ≤ 2000000) → xs.length < k → d_spec_l4Nums_L1 2097153 (y :: (pre ++ xs)) k o ((pre.length:Int) + 1) = some (rsL o (nms xs))
 | [],pre,o,k,hx,hl,hk=>by
  obtain ⟨k,rfl⟩:∃ j,k = j + 1:=⟨k - 1,by omega⟩
  rw [d_spec_l4Nums_L1.eq_2]
  unfold d_spec_l4Nums_L1_B
  rw [bif_false (by simp)]
  simp [nms,rsL]
 | x :: xs,pre,o,k,hx,hl,hk=>by
  obtain ⟨k,rfl⟩:∃ j,k = j + 1:=⟨k - 1,by omega⟩
  simp only [List.length_cons] at hl hk
  rw [d_spec_l4Nums_L1.eq_2]
  unfold d_spec_l4Nums_L1_B
  have hi:ix (y :: (pre ++ x :: xs)) ((pre.length:Int) + 1) = some x:=by
   rw [show ((pre.length:Int) + 1) = ((pre.length + 1:Nat):Int) by omega,ix_nat]; simp
  rw [bif_true (by simp; omega),hi,ob_some,nmv_s (hx x (by simp)),ob_some,nms]
  cases hv:(nmv x).2 with
  | false=>rfl
  | true =>
   rw [if_pos rfl,Bool.not_true,cond_false]
   have:apnd 8 o [(nmv x).1] = some (o ++ [(nmv x).1]):=by
    unfold apnd
    rw [if_pos (by simp only [List.length_singleton]; omega)]
   have ih:=s_wordsL (y:=y) xs (pre ++ [x]) (o ++ [(nmv x).1]) k (fun y hy=>hx y (by simp [hy])) (by simp only [List.length_append,List.length_singleton]; omega) (by omega)
   rw [this,ob_some,w64_id (by omega) (by omega),show ((pre.length:Int) + 1 + 1) = (((pre ++ [x]).length:Nat):Int) + 1 by simp]
   rw [show y :: (pre ++ x :: xs) = y :: ((pre ++ [x]) ++ xs) by simp,ih]
   cases nms xs with
   | none=>rfl
   | some ns=>simp [rsL]
theorem i_words {line w:ByteArray} {k:Nat} (h:line.size ≤ 1048576) (hk:k ≤ 1048576):d_impl_wordsOf 2097153 line w (k:Int) = some (rsL [] (wrd w k line)):=by
 unfold d_impl_wordsOf wrd
 have e:=i_parts (b:=32) h
 have hl:=(parts_len 32 line).2
 have hs:=fun x hx=>Nat.le_trans (parts_size (b:=32) (s:=line) (x:=x) hx) h
 rw [show ((32:UInt8).toNat:Int) = 32 from rfl] at e
 rw [e,ob_some]
 cases hp:parts 32 line with
 | nil=>have:=(parts_len 32 line).1; rw [hp] at this; simp at this
 | cons p ps =>
  rw [hp] at hl hs
  simp only [List.length_cons] at hl
  rw [show ix (p :: ps) 0 = some p from rfl,ob_some,ba_eq,w64_id (by omega) (by omega)]
  simp only
  by_cases h1:p = w
  · rw [decide_eq_true h1,Bool.not_true,cond_false]
    by_cases h2:ps.length = k
    · rw [if_pos ⟨h1,h2⟩,bif_false (by simp; omega)]
      unfold d_impl_wordsOf_J1
      have:sls (p :: ps) 1 (((p :: ps).length:Nat):Int) = some ps:=by
       unfold sls
       rw [if_pos (by simp only [List.length_cons]; omega),show (1:Int).toNat = 1 from rfl,Int.toNat_natCast]
       simp
      rw [this,ob_some,i_wordsL (fu:=0) (fun x hx=>hs x (by simp [hx])) (by omega) (by omega)]
    · rw [if_neg (fun e=>h2 e.2),bif_true (by simp; omega)]; rfl
  · rw [decide_eq_false h1,if_neg (fun e=>h1 e.1)]; rfl
theorem s_nums {line w:ByteArray} {k:Nat} (h:line.size ≤ 1048576) (hk:k ≤ 1048576):d_spec_l4Nums 2097153 line w (k:Int) = some (rsL [] (wrd w k line)):=by
 unfold d_spec_l4Nums wrd
 have e:=s_parts (b:=32) h
 have hl:=(parts_len 32 line).2
 have hs:=fun x hx=>Nat.le_trans (parts_size (b:=32) (s:=line) (x:=x) hx) h
 rw [show ((32:UInt8).toNat:Int) = 32 from rfl] at e
 rw [e,ob_some]
 cases hp:parts 32 line with
 | nil=>have:=(parts_len 32 line).1; rw [hp] at this; simp at this
 | cons p ps =>
  rw [hp] at hl hs
  simp only [List.length_cons] at hl
  rw [show ix (p :: ps) 0 = some p from rfl,ob_some,ba_eq,w64_id (by omega) (by omega)]
  simp only
  by_cases h1:p = w
  · rw [decide_eq_true h1,Bool.not_true,cond_false]
    by_cases h2:ps.length = k
    · rw [if_pos ⟨h1,h2⟩,bif_false (by simp; omega)]
      unfold d_spec_l4Nums_J1
      exact s_wordsL (y:=p) ps [] [] 2097153 (fun x hx=>hs x (by simp [hx])) (by simp; omega) (by omega)
    · rw [if_neg (fun e=>h2 e.2),bif_true (by simp; omega)]; rfl
  · rw [decide_eq_false h1,if_neg (fun e=>h1 e.1)]; rfl
theorem nms_some:∀ {xs:List ByteArray} {ns:List Int},(∀ x ∈ xs,x.size ≤ 1048576) → nms xs = some ns → xs = ns.map numB ∧ ∀ n ∈ ns,0 ≤ n ∧ n ≤ 999999
 | [],ns,_,h=>by obtain rfl:=Option.some.inj h; simp
 | x :: xs,ns,hx,h=>by
  rw [nms] at h
  split at h
  · rename_i hv
    cases hn:nms xs with
    | none=>rw [hn] at h; simp at h
    | some ms =>
     rw [hn] at h
     obtain rfl:=Option.some.inj h
     have:=nms_some (fun y hy=>hx y (by simp [hy])) hn
     have h1:=nmv_is (hx x (by simp)) hv
     exact ⟨by rw [List.map_cons,← this.1,← h1.1],fun n hn=>by
      rcases List.mem_cons.1 hn with rfl | hn
      · exact h1.2
      · exact this.2 n hn⟩
  · simp at h
theorem wrd_len {w line:ByteArray} {k:Nat} {ns:List Int} (hs:line.size ≤ 1048576) (h:wrd w k line = some ns):ns.length = k ∧ (∀ n ∈ ns,0 ≤ n ∧ n ≤ 999999) ∧ parts 32 line = w :: ns.map numB:=by
 unfold wrd at h
 split at h
 · simp at h
 · rename_i p ps hp
   split at h
   · rename_i h1
     have:=nms_some (fun x hx=>Nat.le_trans (parts_size (b:=32) (s:=line) (by rw [hp]; simp [hx])) hs) h
     refine ⟨?_,this.2,by rw [hp,h1.1,← this.1]⟩
     rw [← h1.2,this.1,List.length_map]
   · simp at h
theorem wrd_ne {w v line:ByteArray} {k j:Nat} {ns:List Int} (hs:line.size ≤ 1048576) (h:wrd w k line = some ns) (hv:v ≠ w):wrd v j line = none:=by
 have:=(wrd_len hs h).2.2
 unfold wrd
 rw [this]
 exact if_neg fun e=>hv e.1.symm
def wWF:ByteArray:=⟨#[119,97,121,32,102,105,114,115,116]⟩
def wWN:ByteArray:=⟨#[119,97,121,32,110,101,120,116]⟩
def wPal:ByteArray:=⟨#[112,97,108,108,101,116]⟩
def wCls:ByteArray:=⟨#[99,108,97,115,115,101,115]⟩
def wWth:ByteArray:=⟨#[119,105,116,104]⟩
def wTyp:ByteArray:=⟨#[116,121,112,101]⟩
def wMas:ByteArray:=⟨#[109,97,115,116,101,114]⟩
def wItm:ByteArray:=⟨#[105,116,101,109]⟩
def emB:ByteArray:=⟨#[]⟩
def R0:Request:=⟨0,⟨0,0,0,0⟩,0,[],[],0,[]⟩
def nt1:List Int → Int
 | [a]=>a
 | _=>0
def pal4:List Int → Pallet
 | [a,b,c,d]=>⟨a,b,c,d⟩
 | _=>⟨0,0,0,0⟩
def pair2:List Int → Pair
 | [a,b]=>⟨a,b⟩
 | _=>⟨0,0⟩
def typ7:List Int → Typ
 | [a,b,c,d,e,f,g]=>⟨a,b,c,d,e,f,g⟩
 | _=>⟨0,0,0,0,0,0,0⟩
def itm7:List Int → Item
 | [a,b,c,d,e,f,g]=>⟨a,b,c,d,e,f,g⟩
 | _=>⟨0,0,0,0,0,0,0⟩
theorem len1 {l:List Int} (h:l.length = 1):∃ a,l = [a]:=List.length_eq_one_iff.1 h
theorem len2 {l:List Int} (h:l.length = 2):∃ a b,l = [a,b]:=by
 match l,h with
 | [a,b],_=>exact ⟨a,b,rfl⟩
theorem len4 {l:List Int} (h:l.length = 4):∃ a b c d,l = [a,b,c,d]:=by
 match l,h with
 | [a,b,c,d],_=>exact ⟨a,b,c,d,rfl⟩
theorem len7 {l:List Int} (h:l.length = 7):∃ a b c d e f g,l = [a,b,c,d,e,f,g]:=by
 match l,h with
 | [a,b,c,d,e,f,g],_=>exact ⟨a,b,c,d,e,f,g,rfl⟩
def ptl (r:Request) (l:ByteArray):Int × Request :=
 if l = wWF then (0,⟨0,r.fPallet,r.fClasses,r.fPairs,r.fTypes,r.fMaster,r.fItems⟩) else
 if l = wWN then (0,⟨1,r.fPallet,r.fClasses,r.fPairs,r.fTypes,r.fMaster,r.fItems⟩) else
 match wrd wPal 4 l with
 | some n=>(1,⟨r.fWay,pal4 n,r.fClasses,r.fPairs,r.fTypes,r.fMaster,r.fItems⟩)
 | none=>match wrd wCls 1 l with
  | some n=>(2,⟨r.fWay,r.fPallet,nt1 n,r.fPairs,r.fTypes,r.fMaster,r.fItems⟩)
  | none=>match wrd wWth 2 l with
   | some n=>(3,⟨r.fWay,r.fPallet,r.fClasses,r.fPairs ++ [pair2 n],r.fTypes,r.fMaster,r.fItems⟩)
   | none=>match wrd wTyp 7 l with
    | some n=>(4,⟨r.fWay,r.fPallet,r.fClasses,r.fPairs,r.fTypes ++ [typ7 n],r.fMaster,r.fItems⟩)
    | none=>match wrd wMas 1 l with
     | some n=>(5,⟨r.fWay,r.fPallet,r.fClasses,r.fPairs,r.fTypes,nt1 n,r.fItems⟩)
     | none=>match wrd wItm 7 l with
      | some n=>(6,⟨r.fWay,r.fPallet,r.fClasses,r.fPairs,r.fTypes,r.fMaster,r.fItems ++ [itm7 n]⟩)
      | none=>(-1,r)
theorem i_wk {line w:ByteArray} {k:Nat} {kk:Int} (h:line.size ≤ 1048576) (hk:k ≤ 1048576) (e:(k:Int) = kk):d_impl_wordsOf 2097153 line w kk = some (rsL [] (wrd w k line)):=e ▸ i_words h hk
theorem obR {β:Type} (k:List Int × Bool → Option β):obind (some (rsL [] none)) k = k ([],false):=rfl
theorem obS {β:Type} (n:List Int) (k:List Int × Bool → Option β):obind (some (rsL [] (some n))) k = k (n,true):=rfl
theorem bifN {α:Type} (a b:α):(bif (rsL [] none).2 then a else b) = b:=rfl
theorem bifNn {α:Type} (a b:α):(bif !(rsL [] none).2 then a else b) = a:=rfl
theorem bifSn {α:Type} (n:List Int) (a b:α):(bif !(rsL [] (some n)).2 then a else b) = b:=rfl
theorem i_put {r:Request} {l:ByteArray} (hl:l.size ≤ 1048576) (hp:r.fPairs.length ≤ 1000) (ht:r.fTypes.length ≤ 1000) (hi:r.fItems.length ≤ 1000):d_impl_putLine 2097153 r l = some (ptl r l):=by
 unfold ptl
 show (bif (l.toList == wWF.toList) then _ else bif (l.toList == wWN.toList) then _ else obind (d_impl_wordsOf 2097153 l wPal 4) _) = _
 rw [ba_eq,ba_eq]
 by_cases h1:l = wWF
 · rw [decide_eq_true h1,if_pos h1]; rfl
 rw [decide_eq_false h1,if_neg h1,cond_false]
 by_cases h2:l = wWN
 · rw [decide_eq_true h2,if_pos h2]; rfl
 rw [decide_eq_false h2,if_neg h2,cond_false,i_wk (k:=4) (kk:=4) hl (by omega) rfl]
 cases h3:wrd wPal 4 l with
 | some n =>
  obtain ⟨a,b,c,d,rfl⟩:=len4 (wrd_len hl h3).1
  rfl
 | none =>
 rw [obR,bif_false rfl]
 show obind (d_impl_wordsOf 2097153 l wCls 1) _ = _
 rw [i_wk (k:=1) (kk:=1) hl (by omega) rfl]
 cases h4:wrd wCls 1 l with
 | some n =>
  obtain ⟨a,rfl⟩:=len1 (wrd_len hl h4).1
  rfl
 | none =>
 rw [obR,bif_false rfl]
 show obind (d_impl_wordsOf 2097153 l wWth 2) _ = _
 rw [i_wk (k:=2) (kk:=2) hl (by omega) rfl]
 cases h5:wrd wWth 2 l with
 | some n =>
  obtain ⟨a,b,rfl⟩:=len2 (wrd_len hl h5).1
  show obind (apnd 16 r.fPairs [(⟨a,b⟩:Pair)]) _ = _
  rw [ap1 (by simp only [List.length_singleton]; omega)]
  rfl
 | none =>
 rw [obR,bif_false rfl]
 show obind (d_impl_wordsOf 2097153 l wTyp 7) _ = _
 rw [i_wk (k:=7) (kk:=7) hl (by omega) rfl]
 cases h6:wrd wTyp 7 l with
 | some n =>
  obtain ⟨a,b,c,d,e,f,g,rfl⟩:=len7 (wrd_len hl h6).1
  show obind (apnd 56 r.fTypes [(⟨a,b,c,d,e,f,g⟩:Typ)]) _ = _
  rw [ap1 (by simp only [List.length_singleton]; omega)]
  rfl
 | none =>
 rw [obR,bif_false rfl]
 show obind (d_impl_wordsOf 2097153 l wMas 1) _ = _
 rw [i_wk (k:=1) (kk:=1) hl (by omega) rfl]
 cases h7:wrd wMas 1 l with
 | some n =>
  obtain ⟨a,rfl⟩:=len1 (wrd_len hl h7).1
  rfl
 | none =>
 rw [obR,bif_false rfl]
 show obind (d_impl_wordsOf 2097153 l wItm 7) _ = _
 rw [i_wk (k:=7) (kk:=7) hl (by omega) rfl]
 cases h8:wrd wItm 7 l with
 | some n =>
  obtain ⟨a,b,c,d,e,f,g,rfl⟩:=len7 (wrd_len hl h8).1
  show obind (apnd 56 r.fItems [(⟨a,b,c,d,e,f,g⟩:Item)]) _ = _
  rw [ap1 (by simp only [List.length_singleton]; omega)]
  rfl
 | none=>rfl
def mf (last k:Int):Bool :=
 if k = 0 then last == -1 else if k = 1 then last == 0 else if k = 2 then last == 1 else if k = 3 then last == 2 || last == 3 else if k = 4 then inb last 2 4 else if k = 5 then inb last 2 4 else if k = 6 then last == 5 || last == 6 else false
theorem ptl_cases (r:Request) (l:ByteArray):((ptl r l).1 = 0 ∧ (l = wWF ∨ l = wWN)) ∨ ((ptl r l).1 = 1 ∧ ∃ n,wrd wPal 4 l = some n) ∨ ((ptl r l).1 = 2 ∧ ∃ n,wrd wCls 1 l = some n) ∨ ((ptl r l).1 = 3 ∧ ∃ n,wrd wWth 2 l = some n) ∨
    ((ptl r l).1 = 4 ∧ ∃ n,wrd wTyp 7 l = some n) ∨ ((ptl r l).1 = 5 ∧ ∃ n,wrd wMas 1 l = some n) ∨ ((ptl r l).1 = 6 ∧ ∃ n,wrd wItm 7 l = some n) ∨ (ptl r l).1 = -1:=by
 unfold ptl
 split
 · rename_i h; exact .inl ⟨rfl,.inl h⟩
 split
 · rename_i h; exact .inl ⟨rfl,.inr h⟩
 split
 · rename_i h; exact .inr (.inl ⟨rfl,_,h⟩)
 split
 · rename_i h; exact .inr (.inr (.inl ⟨rfl,_,h⟩))
 split
 · rename_i h; exact .inr (.inr (.inr (.inl ⟨rfl,_,h⟩)))
 split
 · rename_i h; exact .inr (.inr (.inr (.inr (.inl ⟨rfl,_,h⟩))))
 split
 · rename_i h; exact .inr (.inr (.inr (.inr (.inr (.inl ⟨rfl,_,h⟩)))))
 split
 · rename_i h; exact .inr (.inr (.inr (.inr (.inr (.inr (.inl ⟨rfl,_,h⟩))))))
 exact .inr (.inr (.inr (.inr (.inr (.inr (.inr rfl))))))
theorem i_mayF {last k:Int} (h:-1 ≤ k ∧ k ≤ 6):d_impl_mayFollow 2097153 last k = some (mf last k):=by
 have:k = -1 ∨ k = 0 ∨ k = 1 ∨ k = 2 ∨ k = 3 ∨ k = 4 ∨ k = 5 ∨ k = 6:=by omega
 unfold d_impl_mayFollow d_impl_mayFollow_J1
 simp only [i_in,ob_some]
 rcases this with rfl | rfl | rfl | rfl | rfl | rfl | rfl | rfl
 · rfl
 · rfl
 · rfl
 · rfl
 · show (bif (last == 2) then some true else some (last == 3)) = some (last == 2 || last == 3)
   cases last == 2 <;> rfl
 · rfl
 · rfl
 · show (bif (last == 5) then some true else some (last == 6)) = some (last == 5 || last == 6)
   cases last == 5 <;> rfl
theorem ptl_len (r:Request) (l:ByteArray):(ptl r l).2.fPairs.length ≤ r.fPairs.length + 1 ∧ (ptl r l).2.fTypes.length ≤ r.fTypes.length + 1 ∧ (ptl r l).2.fItems.length ≤ r.fItems.length + 1:=by
 unfold ptl
 repeat' split
 all_goals simp
theorem ptl_rng (r:Request) (l:ByteArray):-1 ≤ (ptl r l).1 ∧ (ptl r l).1 ≤ 6:=by
 have:=ptl_cases r l
 omega
def mach (z:ByteArray):List ByteArray → Int → Request → Int → Request × Int
 | [],last,r,i=>if last < 5 then (R0,i) else if z = emB then (r,-1) else (R0,i)
 | l :: ls,last,r,i=>bif mf last (ptl r l).1 then mach z ls (ptl r l).1 (ptl r l).2 (i + 1) else (R0,i)
def rdM (s:ByteArray):Request × Int :=
 if 61 < (parts 10 s).length then (R0,60) else mach ((parts 10 s).getLastD emB) (parts 10 s).dropLast (-1) R0 0
theorem parts_ls (b:UInt8) (s:ByteArray):∃ ls z,parts b s = ls ++ [z] ∧ (parts b s).dropLast = ls ∧ (parts b s).getLastD emB = z:=by
 have h:=(parts_len b s).1
 have hn:parts b s ≠ []:=fun e=>by rw [e] at h; simp at h
 refine ⟨_,(parts b s).getLast hn,(List.dropLast_concat_getLast hn).symm,rfl,?_⟩
 rw [List.getLastD_eq_getLast?,List.getLast?_eq_some_getLast hn]; rfl
theorem sls_ls {α:Type} {ls:List α} {z:α}:sls (ls ++ [z]) 0 (ls.length:Int) = some ls:=by
 rw [sls_some (by simp; omega)]
 simp
theorem ix_ls {α:Type} {ls:List α} {z:α}:ix (ls ++ [z]) (ls.length:Int) = some z:=by
 rw [ix_nat]; simp
theorem i_read {s:ByteArray} (hs:s.size ≤ 1048576):d_impl_ReadOrder 2097153 s = some (rdM s):=by
 unfold d_impl_ReadOrder rdM
 have e:=i_parts (b:=10) hs
 rw [show ((10:UInt8).toNat:Int) = 10 from rfl] at e
 rw [e,ob_some]
 obtain ⟨ls,z,h1,h2,h3⟩:=parts_ls 10 s
 have hsz:=fun x hx=>Nat.le_trans (parts_size (b:=10) (s:=s) (x:=x) hx) hs
 have hn:=(parts_len 10 s).2
 rw [h2,h3]
 rw [h1] at hsz hn ⊢
 simp only [List.length_append,List.length_singleton] at hn ⊢
 rw [w64_id (by omega) (by omega),show ((ls.length + 1:Nat):Int) - 1 = ls.length by omega]
 by_cases h61:61 < ls.length + 1
 · rw [bif_true (by simp; omega),if_pos h61]; rfl
 rw [bif_false (by simp; omega),if_neg h61,sls_ls,ob_some]
 have key:=lpPI ls (fun n (o:Request × Int) i=>d_impl_ReadOrder_L1 2097153 (ls ++ [z]) ls n o.1.fWay o.1.fPallet.fW o.1.fPallet.fD o.1.fPallet.fH o.1.fPallet.fGram o.1.fClasses o.1.fPairs o.1.fTypes o.1.fMaster o.1.fItems o.2 i) (fun pre xs o=>some (mach z xs o.2 o.1 (pre.length:Int))) (fun pre xs o=>o.1.fPairs.length ≤ pre.length ∧ o.1.fTypes.length ≤ pre.length ∧ o.1.fItems.length ≤ pre.length) (by omega) ?_ ?_ 2097153 (R0,-1) ⟨by simp [R0],by simp [R0],by simp [R0]⟩ (by omega)
 · exact key
 · intro n o pre x xs e hx hd hI ih
   have hpl:pre.length < ls.length:=by rw [e]; simp
   have hxs:x.size ≤ 1048576:=hsz x (by rw [e]; simp)
   simp only [d_impl_ReadOrder_L1.eq_2]
   unfold d_impl_ReadOrder_L1_B
   rw [hd,cond_true,hx,ob_some]
   show obind (d_impl_putLine 2097153 o.1 x) _ = _
   rw [i_put hxs (by omega) (by omega) (by omega),ob_some,i_mayF (ptl_rng _ _),ob_some]
   cases hm:mf o.2 (ptl o.1 x).1 with
   | false =>
    rw [Bool.not_false,cond_true,mach,hm]; rfl
   | true =>
    rw [Bool.not_true,cond_false]
    have hl:=ptl_len o.1 x
    have:=ih ((ptl o.1 x).2,(ptl o.1 x).1) ⟨by simp; omega,by simp; omega,by simp; omega⟩
    rw [mach,hm,cond_true]
    simp only at this
    rw [this]
    simp
 · intro n o hd hI
   simp only [d_impl_ReadOrder_L1.eq_2]
   unfold d_impl_ReadOrder_L1_B
   rw [hd,cond_false,mach]
   simp only [List.length_append,List.length_singleton]
   rw [w64_id (by omega) (by omega),show ((ls.length + 1:Nat):Int) - 1 = ls.length by omega,ix_ls,ob_some]
   by_cases h5:o.2 < 5
   · rw [bif_true (by simpa using h5),if_pos h5]; rfl
   rw [bif_false (by simpa using h5),if_neg h5]
   show (bif (!(z.toList == emB.toList)) then _ else _) = _
   rw [ba_eq]
   by_cases hz:z = emB
   · rw [decide_eq_true hz,if_pos hz]; rfl
   · rw [decide_eq_false hz,if_neg hz]; rfl
theorem s_nk {line w:ByteArray} {k:Nat} {kk:Int} (h:line.size ≤ 1048576) (hk:k ≤ 1048576) (e:(k:Int) = kk):d_spec_l4Nums 2097153 line w kk = some (rsL [] (wrd w k line)):=e ▸ s_nums h hk
def nx (w:ByteArray) (k:Nat):List ByteArray → Option (List Int)
 | []=>none
 | l :: _=>wrd w k l
theorem s_l4 {pre rest:List ByteArray} {z w:ByteArray} {k:Nat} {kk at_:Int} (hs:∀ x ∈ rest,x.size ≤ 1048576) (hl:pre.length + rest.length ≤ 1000) (hk:k ≤ 1000) (e:(k:Int) = kk) (ea:(pre.length:Int) = at_):d_spec_l4Line 2097153 (pre ++ (rest ++ [z])) at_ w kk = some (rsL [] (nx w k rest)):=by
 subst ea
 unfold d_spec_l4Line
 simp only [List.length_append,List.length_singleton]
 rw [w64_id (by omega) (by omega)]
 cases rest with
 | nil=>rw [bif_true (by simp)]; rfl
 | cons l ls =>
  rw [bif_false (by simp; omega),ix_nat]
  have:(pre ++ (l :: ls ++ [z]))[pre.length]? = some l:=by simp
  rw [this,ob_some,s_nk (k:=k) (hs l (by simp)) (by omega) e,ob_some]
  rfl
theorem ptl_itm {l:ByteArray} {n:List Int} (hl:l.size ≤ 1048576) (h:wrd wItm 7 l = some n) (r:Request):ptl r l = (6,⟨r.fWay,r.fPallet,r.fClasses,r.fPairs,r.fTypes,r.fMaster,r.fItems ++ [itm7 n]⟩):=by
 have hp:=(wrd_len hl h).2.2
 unfold ptl
 rw [if_neg (fun e=>by rw [e] at hp; revert hp; exact fun hp=>absurd (List.cons.inj hp).1 (by decide)),if_neg (fun e=>by rw [e] at hp; exact absurd (List.cons.inj hp).1 (by decide)),wrd_ne hl h (v:=wPal) (by decide),wrd_ne hl h (v:=wCls) (by decide),wrd_ne hl h (v:=wWth) (by decide),wrd_ne hl h (v:=wTyp) (by decide),wrd_ne hl h (v:=wMas) (by decide),h]
theorem ptl_mas {l:ByteArray} {n:List Int} (hl:l.size ≤ 1048576) (h:wrd wMas 1 l = some n) (r:Request):ptl r l = (5,⟨r.fWay,r.fPallet,r.fClasses,r.fPairs,r.fTypes,nt1 n,r.fItems⟩):=by
 have hp:=(wrd_len hl h).2.2
 unfold ptl
 rw [if_neg (fun e=>by rw [e] at hp; exact absurd (List.cons.inj hp).1 (by decide)),if_neg (fun e=>by rw [e] at hp; exact absurd (List.cons.inj hp).1 (by decide)),wrd_ne hl h (v:=wPal) (by decide),wrd_ne hl h (v:=wCls) (by decide),wrd_ne hl h (v:=wWth) (by decide),wrd_ne hl h (v:=wTyp) (by decide),h]
theorem ptl_typ {l:ByteArray} {n:List Int} (hl:l.size ≤ 1048576) (h:wrd wTyp 7 l = some n) (r:Request):ptl r l = (4,⟨r.fWay,r.fPallet,r.fClasses,r.fPairs,r.fTypes ++ [typ7 n],r.fMaster,r.fItems⟩):=by
 have hp:=(wrd_len hl h).2.2
 unfold ptl
 rw [if_neg (fun e=>by rw [e] at hp; exact absurd (List.cons.inj hp).1 (by decide)),if_neg (fun e=>by rw [e] at hp; exact absurd (List.cons.inj hp).1 (by decide)),wrd_ne hl h (v:=wPal) (by decide),wrd_ne hl h (v:=wCls) (by decide),wrd_ne hl h (v:=wWth) (by decide),h]
theorem ptl_wth {l:ByteArray} {n:List Int} (hl:l.size ≤ 1048576) (h:wrd wWth 2 l = some n) (r:Request):ptl r l = (3,⟨r.fWay,r.fPallet,r.fClasses,r.fPairs ++ [pair2 n],r.fTypes,r.fMaster,r.fItems⟩):=by
 have hp:=(wrd_len hl h).2.2
 unfold ptl
 rw [if_neg (fun e=>by rw [e] at hp; exact absurd (List.cons.inj hp).1 (by decide)),if_neg (fun e=>by rw [e] at hp; exact absurd (List.cons.inj hp).1 (by decide)),wrd_ne hl h (v:=wPal) (by decide),wrd_ne hl h (v:=wCls) (by decide),h]
theorem ptl_cls {l:ByteArray} {n:List Int} (hl:l.size ≤ 1048576) (h:wrd wCls 1 l = some n) (r:Request):ptl r l = (2,⟨r.fWay,r.fPallet,nt1 n,r.fPairs,r.fTypes,r.fMaster,r.fItems⟩):=by
 have hp:=(wrd_len hl h).2.2
 unfold ptl
 rw [if_neg (fun e=>by rw [e] at hp; exact absurd (List.cons.inj hp).1 (by decide)),if_neg (fun e=>by rw [e] at hp; exact absurd (List.cons.inj hp).1 (by decide)),wrd_ne hl h (v:=wPal) (by decide),h]
theorem ptl_pal {l:ByteArray} {n:List Int} (hl:l.size ≤ 1048576) (h:wrd wPal 4 l = some n) (r:Request):ptl r l = (1,⟨r.fWay,pal4 n,r.fClasses,r.fPairs,r.fTypes,r.fMaster,r.fItems⟩):=by
 have hp:=(wrd_len hl h).2.2
 unfold ptl
 rw [if_neg (fun e=>by rw [e] at hp; exact absurd (List.cons.inj hp).1 (by decide)),if_neg (fun e=>by rw [e] at hp; exact absurd (List.cons.inj hp).1 (by decide)),h]
theorem mach_no {z l:ByteArray} {ls:List ByteArray} {last i:Int} {r:Request} (h:mf last (ptl r l).1 = false):mach z (l :: ls) last r i = (R0,i):=by
 rw [mach,h]; rfl
theorem mach_yes {z l:ByteArray} {ls:List ByteArray} {last i k:Int} {r q:Request} (h:ptl r l = (k,q)) (hm:mf last k = true):mach z (l :: ls) last r i = mach z ls k q (i + 1):=by
 rw [mach,h,hm]; rfl
theorem s_L1 {z:ByteArray} {w a b c d cl m:Int} {P:List Pair} {T:List Typ}:∀ (rest pre:List ByteArray) (its:List Item) (k:Nat) (last:Int),(∀ x ∈ rest,x.size ≤ 1048576) → pre.length + rest.length ≤ 1000 → its.length ≤ pre.length → rest.length < k → (last = 5 ∨ last = 6) →
    d_spec_ReadOrder_L1 2097153 (pre ++ (rest ++ [z])) w a b c d cl P T m k its (pre.length:Int) (rsL [] (nx wItm 7 rest)).1 (rsL [] (nx wItm 7 rest)).2 = some (mach z rest last ⟨w,⟨a,b,c,d⟩,cl,P,T,m,its⟩ (pre.length:Int))
 | [],pre,its,k,last,hs,hl,hi,hk,h5=>by
  obtain ⟨k,rfl⟩:∃ j,k = j + 1:=⟨k - 1,by omega⟩
  simp only [List.length_nil] at hl
  rw [d_spec_ReadOrder_L1.eq_2]
  unfold d_spec_ReadOrder_L1_B
  rw [show nx wItm 7 [] = none from rfl,bifN]
  simp only [List.nil_append,List.length_append,List.length_singleton]
  rw [w64_id (by omega) (by omega),bif_false (by simp),show ((pre.length + 1:Nat):Int) - 1 = pre.length by omega,ix_ls,ob_some]
  show (bif (!(z.toList == emB.toList)) then _ else _) = _
  rw [ba_eq,mach,if_neg (show ¬ last < 5 by omega)]
  by_cases hz:z = emB
  · rw [decide_eq_true hz,if_pos hz]; try rfl
  · rw [decide_eq_false hz,if_neg hz]; try rfl
 | l :: ls,pre,its,k,last,hs,hl,hi,hk,h5=>by
  obtain ⟨k,rfl⟩:∃ j,k = j + 1:=⟨k - 1,by omega⟩
  simp only [List.length_cons] at hl hk
  rw [d_spec_ReadOrder_L1.eq_2]
  unfold d_spec_ReadOrder_L1_B
  have hsl:=hs l (by simp)
  rw [show nx wItm 7 (l :: ls) = wrd wItm 7 l from rfl]
  cases hw:wrd wItm 7 l with
  | none =>
   rw [bifN]
   simp only [List.length_append,List.length_singleton,List.length_cons,List.length_nil]
   rw [w64_id (by omega) (by omega),bif_true (by simp; omega),mach_no ?_]; · rfl
   have hc:=ptl_cases ⟨w,⟨a,b,c,d⟩,cl,P,T,m,its⟩ l
   rw [hw] at hc
   rcases hc with ⟨e,_⟩ | ⟨e,_⟩ | ⟨e,_⟩ | ⟨e,_⟩ | ⟨e,_⟩ | ⟨e,_⟩ | ⟨_,_,e⟩ | e
   all_goals first | (rw [e]; rcases h5 with rfl | rfl <;> rfl) | exact absurd e (by simp)
  | some n =>
   obtain ⟨x1,x2,x3,x4,x5,x6,x7,rfl⟩:=len7 (wrd_len hsl hw).1
   rw [mach_yes (ptl_itm hsl hw _) (by rcases h5 with rfl | rfl <;> rfl)]
   show obind (apnd 56 its [(⟨x1,x2,x3,x4,x5,x6,x7⟩:Item)]) _ = _
   rw [ap1 (by simp only [List.length_singleton]; omega),ob_some,w64_id (by omega) (by omega)]
   have e:pre ++ (l :: ls ++ [z]) = (pre ++ [l]) ++ (ls ++ [z]):=by simp
   have ea:(pre.length:Int) + 1 = (((pre ++ [l]).length:Nat):Int):=by simp
   rw [e,ea]
   show obind (d_spec_l4Line 2097153 ((pre ++ [l]) ++ (ls ++ [z])) (((pre ++ [l]).length:Nat):Int) wItm 7) _ = _
   rw [s_l4 (k:=7) (kk:=7) (fun x hx=>hs x (by simp [hx])) (by simp; omega) (by omega) rfl rfl,ob_some]
   exact s_L1 ls (pre ++ [l]) _ k 6 (fun x hx=>hs x (by simp [hx])) (by simp; omega) (by simp; omega) (by omega) (.inr rfl)
theorem s_L2 {z:ByteArray} {w a b c d cl:Int} {P:List Pair}:∀ (rest pre:List ByteArray) (ts:List Typ) (k:Nat) (last:Int),(∀ x ∈ rest,x.size ≤ 1048576) → pre.length + rest.length ≤ 1000 → ts.length ≤ pre.length → rest.length < k → (last = 4 ∨ (last = 2 ∨ last = 3) ∧ nx wWth 2 rest = none) →
    d_spec_ReadOrder_L2 2097153 (pre ++ (rest ++ [z])) w a b c d cl P k ts (pre.length:Int) (rsL [] (nx wTyp 7 rest)).1 (rsL [] (nx wTyp 7 rest)).2 = some (mach z rest last ⟨w,⟨a,b,c,d⟩,cl,P,ts,0,[]⟩ (pre.length:Int))
 | [],pre,ts,k,last,hs,hl,hi,hk,h5=>by
  obtain ⟨k,rfl⟩:∃ j,k = j + 1:=⟨k - 1,by omega⟩
  rw [d_spec_ReadOrder_L2.eq_2]
  unfold d_spec_ReadOrder_L2_B
  rw [show nx wTyp 7 [] = none from rfl,bifN]
  show obind (d_spec_l4Line 2097153 (pre ++ ([] ++ [z])) (pre.length:Int) wMas 1) _ = _
  rw [s_l4 (k:=1) (kk:=1) hs hl (by omega) rfl rfl,ob_some,mach,if_pos (by omega)]
  rfl
 | l :: ls,pre,ts,k,last,hs,hl,hi,hk,h5=>by
  obtain ⟨k,rfl⟩:∃ j,k = j + 1:=⟨k - 1,by omega⟩
  have hl0:=hl
  simp only [List.length_cons] at hl hk
  rw [d_spec_ReadOrder_L2.eq_2]
  unfold d_spec_ReadOrder_L2_B
  have hsl:=hs l (by simp)
  have e:pre ++ (l :: ls ++ [z]) = (pre ++ [l]) ++ (ls ++ [z]):=by simp
  have ea:(pre.length:Int) + 1 = (((pre ++ [l]).length:Nat):Int):=by simp
  rw [show nx wTyp 7 (l :: ls) = wrd wTyp 7 l from rfl]
  cases hw:wrd wTyp 7 l with
  | none =>
   rw [bifN]
   show obind (d_spec_l4Line 2097153 (pre ++ (l :: ls ++ [z])) (pre.length:Int) wMas 1) _ = _
   rw [s_l4 (k:=1) (kk:=1) hs hl0 (by omega) rfl rfl,ob_some]
   rw [show nx wMas 1 (l :: ls) = wrd wMas 1 l from rfl]
   cases hm:wrd wMas 1 l with
   | none =>
    rw [bifNn,mach_no ?_]; · rfl
    have hc:=ptl_cases ⟨w,⟨a,b,c,d⟩,cl,P,ts,0,[]⟩ l
    rw [hw,hm] at hc
    have h5':last = 4 ∨ (last = 2 ∨ last = 3) ∧ wrd wWth 2 l = none:=h5
    rcases hc with ⟨e,_⟩ | ⟨e,_⟩ | ⟨e,_⟩ | ⟨e,_,e'⟩ | ⟨_,_,e⟩ | ⟨_,_,e⟩ | ⟨e,_⟩ | e
    all_goals first | exact absurd e (by simp) | (rw [e]; rcases h5' with rfl | ⟨rfl | rfl,h6⟩ <;> first | rfl | (rw [h6] at e'; exact absurd e' (by simp)))
   | some n =>
    obtain ⟨x1,rfl⟩:=len1 (wrd_len hsl hm).1
    rw [bifSn,mach_yes (ptl_mas hsl hm _) (by rcases h5 with rfl | ⟨rfl | rfl,_⟩ <;> rfl)]
    show obind (d_spec_l4Line 2097153 (pre ++ (l :: ls ++ [z])) (w64 ((pre.length:Int) + 1)) wItm 7) _ = _
    rw [w64_id (by omega) (by omega),e,ea,s_l4 (k:=7) (kk:=7) (fun x hx=>hs x (by simp [hx])) (by simp; omega) (by omega) rfl rfl,ob_some]
    exact s_L1 ls (pre ++ [l]) [] 2097153 5 (fun x hx=>hs x (by simp [hx])) (by simp; omega) (by simp) (by omega) (.inl rfl)
  | some n =>
   obtain ⟨x1,x2,x3,x4,x5,x6,x7,rfl⟩:=len7 (wrd_len hsl hw).1
   rw [mach_yes (ptl_typ hsl hw _) (by rcases h5 with rfl | ⟨rfl | rfl,_⟩ <;> rfl)]
   show obind (apnd 56 ts [(⟨x1,x2,x3,x4,x5,x6,x7⟩:Typ)]) _ = _
   rw [ap1 (by simp only [List.length_singleton]; omega),ob_some,w64_id (by omega) (by omega),e,ea]
   show obind (d_spec_l4Line 2097153 ((pre ++ [l]) ++ (ls ++ [z])) (((pre ++ [l]).length:Nat):Int) wTyp 7) _ = _
   rw [s_l4 (k:=7) (kk:=7) (fun x hx=>hs x (by simp [hx])) (by simp; omega) (by omega) rfl rfl,ob_some]
   exact s_L2 ls (pre ++ [l]) _ k 4 (fun x hx=>hs x (by simp [hx])) (by simp; omega) (by simp; omega) (by omega) (.inl rfl)
theorem s_L3 {z:ByteArray} {w a b c d cl:Int}:∀ (rest pre:List ByteArray) (ps:List Pair) (k:Nat) (last:Int),(∀ x ∈ rest,x.size ≤ 1048576) → pre.length + rest.length ≤ 1000 → ps.length ≤ pre.length → rest.length < k → (last = 2 ∨ last = 3) →
    d_spec_ReadOrder_L3 2097153 (pre ++ (rest ++ [z])) w a b c d cl k ps (pre.length:Int) (rsL [] (nx wWth 2 rest)).1 (rsL [] (nx wWth 2 rest)).2 = some (mach z rest last ⟨w,⟨a,b,c,d⟩,cl,ps,[],0,[]⟩ (pre.length:Int))
 | rest,pre,ps,k,last,hs,hl,hi,hk,h5=>by
  obtain ⟨k,rfl⟩:∃ j,k = j + 1:=⟨k - 1,by omega⟩
  rw [d_spec_ReadOrder_L3.eq_2]
  unfold d_spec_ReadOrder_L3_B
  cases hw:nx wWth 2 rest with
  | none =>
   rw [bifN]
   show obind (d_spec_l4Line 2097153 (pre ++ (rest ++ [z])) (pre.length:Int) wTyp 7) _ = _
   rw [s_l4 (k:=7) (kk:=7) hs hl (by omega) rfl rfl,ob_some]
   exact s_L2 rest pre [] 2097153 last hs hl (by simp) (by omega) (.inr ⟨h5,hw⟩)
  | some n =>
   cases rest with
   | nil=>exact absurd hw (by simp [nx])
   | cons l ls =>
    have hsl:=hs l (by simp)
    have e:pre ++ (l :: ls ++ [z]) = (pre ++ [l]) ++ (ls ++ [z]):=by simp
    have ea:(pre.length:Int) + 1 = (((pre ++ [l]).length:Nat):Int):=by simp
    simp only [List.length_cons] at hl hk
    have hw':wrd wWth 2 l = some n:=hw
    obtain ⟨x1,x2,rfl⟩:=len2 (wrd_len hsl hw').1
    rw [mach_yes (ptl_wth hsl hw' _) (by rcases h5 with rfl | rfl <;> rfl)]
    show obind (apnd 16 ps [(⟨x1,x2⟩:Pair)]) _ = _
    rw [ap1 (by simp only [List.length_singleton]; omega),ob_some,w64_id (by omega) (by omega),e,ea]
    show obind (d_spec_l4Line 2097153 ((pre ++ [l]) ++ (ls ++ [z])) (((pre ++ [l]).length:Nat):Int) wWth 2) _ = _
    rw [s_l4 (k:=2) (kk:=2) (fun x hx=>hs x (by simp [hx])) (by simp; omega) (by omega) rfl rfl,ob_some]
    exact s_L3 ls (pre ++ [l]) _ k 3 (fun x hx=>hs x (by simp [hx])) (by simp; omega) (by simp; omega) (by omega) (.inr rfl)
 termination_by rest=>rest.length
theorem s_J1 {z l0:ByteArray} {w:Int} {rest:List ByteArray} (hs:∀ x ∈ rest,x.size ≤ 1048576) (hl:rest.length ≤ 900):d_spec_ReadOrder_J1 2097153 ([l0] ++ (rest ++ [z])) w = some (mach z rest 0 ⟨w,⟨0,0,0,0⟩,0,[],[],0,[]⟩ 1):=by
 unfold d_spec_ReadOrder_J1
 show obind (d_spec_l4Line 2097153 ([l0] ++ (rest ++ [z])) 1 wPal 4) _ = _
 rw [s_l4 (k:=4) (kk:=4) (at_:=1) (pre:=[l0]) hs (by simp; omega) (by omega) rfl rfl,ob_some]
 cases rest with
 | nil=>rfl
 | cons l1 ls =>
  have h1:=hs l1 (by simp)
  simp only [List.length_cons] at hl
  rw [show nx wPal 4 (l1 :: ls) = wrd wPal 4 l1 from rfl]
  cases hw:wrd wPal 4 l1 with
  | none =>
   rw [bifNn,mach_no ?_]; · rfl
   have hc:=ptl_cases ⟨w,⟨0,0,0,0⟩,0,[],[],0,[]⟩ l1
   rw [hw] at hc
   rcases hc with ⟨e,_⟩ | ⟨_,_,e⟩ | ⟨e,_⟩ | ⟨e,_⟩ | ⟨e,_⟩ | ⟨e,_⟩ | ⟨e,_⟩ | e
   all_goals first | exact absurd e (by simp) | (rw [e]; rfl)
  | some n =>
   obtain ⟨a,b,c,d,rfl⟩:=len4 (wrd_len h1 hw).1
   rw [bifSn,mach_yes (ptl_pal h1 hw _) rfl]
   show obind (d_spec_l4Line 2097153 ([l0,l1] ++ (ls ++ [z])) 2 wCls 1) _ = some (mach z ls 1 ⟨w,⟨a,b,c,d⟩,0,[],[],0,[]⟩ 2)
   rw [s_l4 (k:=1) (kk:=1) (at_:=2) (pre:=[l0,l1]) (fun x hx=>hs x (by simp [hx])) (by simp; omega) (by omega) rfl rfl,ob_some]
   cases ls with
   | nil=>rfl
   | cons l2 ls =>
    have h2:=hs l2 (by simp)
    simp only [List.length_cons] at hl
    rw [show nx wCls 1 (l2 :: ls) = wrd wCls 1 l2 from rfl]
    cases hw:wrd wCls 1 l2 with
    | none =>
     rw [bifNn,mach_no ?_]; · rfl
     have hc:=ptl_cases ⟨w,⟨a,b,c,d⟩,0,[],[],0,[]⟩ l2
     rw [hw] at hc
     rcases hc with ⟨e,_⟩ | ⟨e,_⟩ | ⟨_,_,e⟩ | ⟨e,_⟩ | ⟨e,_⟩ | ⟨e,_⟩ | ⟨e,_⟩ | e
     all_goals first | exact absurd e (by simp) | (rw [e]; rfl)
    | some n =>
     obtain ⟨cl,rfl⟩:=len1 (wrd_len h2 hw).1
     rw [bifSn,mach_yes (ptl_cls h2 hw _) rfl]
     show obind (d_spec_l4Line 2097153 ([l0,l1,l2] ++ (ls ++ [z])) 3 wWth 2) _ = some (mach z ls 2 ⟨w,⟨a,b,c,d⟩,cl,[],[],0,[]⟩ 3)
     rw [s_l4 (k:=2) (kk:=2) (at_:=3) (pre:=[l0,l1,l2]) (fun x hx=>hs x (by simp [hx])) (by simp; omega) (by omega) rfl rfl,ob_some]
     exact s_L3 ls [l0,l1,l2] [] 2097153 2 (fun x hx=>hs x (by simp [hx])) (by simp; omega) (by simp) (by omega) (.inl rfl)
theorem s_read {s:ByteArray} (hs:s.size ≤ 1048576):d_spec_ReadOrder 2097153 s = some (rdM s):=by
 unfold d_spec_ReadOrder rdM
 have e:=s_parts (b:=10) hs
 rw [show ((10:UInt8).toNat:Int) = 10 from rfl] at e
 rw [e,ob_some]
 obtain ⟨ls,z,h1,h2,h3⟩:=parts_ls 10 s
 have hsz:=fun x hx=>Nat.le_trans (parts_size (b:=10) (s:=s) (x:=x) hx) hs
 have hn:=(parts_len 10 s).2
 rw [h2,h3]
 rw [h1] at hsz hn ⊢
 simp only [List.length_append,List.length_singleton] at hn ⊢
 rw [w64_id (by omega) (by omega),show ((ls.length + 1:Nat):Int) - 1 = ls.length by omega]
 by_cases h61:61 < ls.length + 1
 · rw [bif_true (by simp; omega),if_pos h61]; rfl
 rw [bif_false (by simp; omega),if_neg h61]
 cases ls with
 | nil=>rfl
 | cons l0 ls =>
  rw [bif_false (by simp; omega)]
  have hr:∀ x ∈ ls,x.size ≤ 1048576:=fun x hx=>hsz x (by simp [hx])
  simp only [List.length_cons] at h61
  rw [show ix (l0 :: ls ++ [z]) 0 = some l0 from rfl,ob_some]
  show (bif (!(l0.toList == wWF.toList)) then (bif (!(l0.toList == wWN.toList)) then _ else _) else _) = _
  have j2:∀ (k:Int),(l0 = wWN → k = 1) → (l0 ≠ wWN → k = 0) → d_spec_ReadOrder_J2 2097153 (l0 :: ls ++ [z]) = some (mach z ls 0 ⟨k,⟨0,0,0,0⟩,0,[],[],0,[]⟩ 1):=fun k k1 k0=>by
   unfold d_spec_ReadOrder_J2
   rw [show ix (l0 :: ls ++ [z]) 0 = some l0 from rfl,ob_some]
   show (bif (l0.toList == wWN.toList) then d_spec_ReadOrder_J1 2097153 ([l0] ++ (ls ++ [z])) 1 else d_spec_ReadOrder_J1 2097153 ([l0] ++ (ls ++ [z])) 0) = _
   rw [ba_eq,s_J1 hr (by omega),s_J1 hr (by omega)]
   by_cases hl:l0 = wWN
   · rw [decide_eq_true hl,k1 hl]; rfl
   · rw [decide_eq_false hl,k0 hl]; rfl
  rw [ba_eq,ba_eq]
  by_cases hF:l0 = wWF
  · rw [decide_eq_true hF,Bool.not_true,cond_false,j2 0 (fun e=>absurd (e.symm.trans hF) (by decide)) fun _=>rfl,mach_yes (k:=0) (q:=⟨0,⟨0,0,0,0⟩,0,[],[],0,[]⟩) ?_ rfl]; · rfl
    unfold ptl
    rw [if_pos hF]; rfl
  · rw [decide_eq_false hF,Bool.not_false,cond_true]
    by_cases hN:l0 = wWN
    · rw [decide_eq_true hN,Bool.not_true,cond_false,j2 1 (fun _=>rfl) (fun e=>absurd hN e),mach_yes (k:=0) (q:=⟨1,⟨0,0,0,0⟩,0,[],[],0,[]⟩) ?_ rfl]; · rfl
      unfold ptl
      rw [if_neg hF,if_pos hN]; rfl
    · rw [decide_eq_false hN,Bool.not_false,cond_true,mach_no ?_]; · rfl
      have hc:=ptl_cases R0 l0
      rcases hc with ⟨_,e⟩ | ⟨e,_⟩ | ⟨e,_⟩ | ⟨e,_⟩ | ⟨e,_⟩ | ⟨e,_⟩ | ⟨e,_⟩ | e
      · rcases e with e | e
        · exact absurd e hF
        · exact absurd e hN
      all_goals (rw [e]; rfl)
theorem mach_ok (z:ByteArray):∀ (ls:List ByteArray) (last:Int) (r:Request) (i:Int) (n:Nat),r.fPairs.length ≤ n ∧ r.fTypes.length ≤ n ∧ r.fItems.length ≤ n → (mach z ls last r i).1.fPairs.length ≤ n + ls.length ∧ (mach z ls last r i).1.fTypes.length ≤ n + ls.length ∧ (mach z ls last r i).1.fItems.length ≤ n + ls.length
 | [],last,r,i,n,h=>by
  rw [mach]
  split
  · simp [R0]
  split
  · simpa using h
  · simp [R0]
 | l :: ls,last,r,i,n,h=>by
  rw [mach]
  cases mf last (ptl r l).1
  · simp [R0]
  · have:=ptl_len r l
    have:=mach_ok z ls (ptl r l).1 (ptl r l).2 (i + 1) (n + 1) (by omega)
    simp only [cond_true,List.length_cons]
    omega
theorem rdM_sm (s:ByteArray):Sm 2097153 (rdM s).1:=by
 unfold rdM
 split
 · exact ⟨by omega,by simp [R0],by simp [R0],by simp [R0]⟩
 · rename_i h
   have:=mach_ok ((parts 10 s).getLastD emB) (parts 10 s).dropLast (-1) R0 0 0 (by simp [R0])
   have h2:(parts 10 s).dropLast.length ≤ 61:=by rw [List.length_dropLast]; omega
   exact ⟨by omega,by omega,by omega,by omega⟩
def cloM (s:ByteArray):Int:=bif decide ((rdM s).2 ≥ 0) then 1 else clsM (rdM s).1
theorem i_clo {s:ByteArray} (hs:s.size ≤ 1048576):d_impl_ClassOf 2097153 s = some (cloM s):=by
 unfold d_impl_ClassOf cloM
 rw [i_read hs,ob_some]
 cases decide ((rdM s).2 ≥ 0)
 · rw [cond_false,cond_false,i_cls (rdM_sm s),ob_some]
 · rfl
theorem s_clo {s:ByteArray} (hs:s.size ≤ 1048576):d_spec_ClassOf 2097153 s = some (cloM s):=by
 unfold d_spec_ClassOf cloM
 rw [s_read hs,ob_some]
 cases decide ((rdM s).2 ≥ 0)
 · rw [cond_false,cond_false,s_cls (rdM_sm s),ob_some]
 · rfl
def C0:Carton:=⟨0,0,[]⟩
def T0:Spot:=⟨0,0,0,0⟩
def carO:List Int → Carton × Spot
 | a :: b :: c :: d :: e :: f :: u=>(⟨a,b,u⟩,⟨c,d,e,f⟩)
 | _=>(C0,T0)
theorem len6 {l:List Int} (h:¬ l.length < 6):∃ a b c d e f u,l = a :: b :: c :: d :: e :: f :: u:=by
 match l,h with
 | [],h=>exact absurd (by simp) h
 | [_],h=>exact absurd (by simp) h
 | [_,_],h=>exact absurd (by simp) h
 | [_,_,_],h=>exact absurd (by simp) h
 | [_,_,_,_],h=>exact absurd (by simp) h
 | [_,_,_,_,_],h=>exact absurd (by simp) h
 | a :: b :: c :: d :: e :: f :: u,_=>exact ⟨a,b,c,d,e,f,u,rfl⟩
def okO (p:Carton × Spot):Bool:=cokB p.1 && sokB p.2
def lofN (w:ByteArray) (o:Option (List Int)):Carton × Spot × Bool :=
 match o with
 | none=>(C0,T0,false)
 | some n=>if n.length < 6 then (C0,T0,false) else if w = carB ∧ okO (carO n) = true then ((carO n).1,(carO n).2,true) else (C0,T0,false)
def lofM (s:ByteArray):Carton × Spot × Bool :=
 match parts 32 s with
 | []=>(C0,T0,false)
 | p :: ps=>lofN p (nms ps)
theorem pok1 (c:Carton) (t:Spot):pokB ⟨[c],[t]⟩ = okO (c,t):=by
 unfold pokB okO
 simp
theorem sp1p {c:Carton} {t:Spot} (h:c.fUnits.length ≤ 1048576):Sp ⟨[c],[t]⟩:=⟨by simp,fun d hd=>by rw [List.mem_singleton.1 hd]; exact h,by simpa [lensC] using h,by simp⟩
theorem drop6 {a b c d e f:Int} {u:List Int} (h:u.length ≤ 2000000):sls (a :: b :: c :: d :: e :: f :: u) 6 (((a :: b :: c :: d :: e :: f :: u).length:Nat):Int) = some u:=by
 rw [sls_some (by simp only [List.length_cons]; omega),Int.toNat_natCast,show (6:Int).toNat = 6 from rfl]
 simp
theorem nms_len:∀ {xs:List ByteArray} {n:List Int},nms xs = some n → n.length = xs.length
 | [],n,h=>by rw [← Option.some.inj h]; rfl
 | x :: xs,n,h=>by
  rw [nms] at h
  split at h
  · cases hn:nms xs with
    | none=>rw [hn] at h; simp at h
    | some ms =>
     rw [hn] at h
     rw [← Option.some.inj h,List.length_cons,List.length_cons,nms_len hn]
  · simp at h
theorem bifP0 {α:Type} (a b:α):(bif !(([],false):List Int × Bool).2 then a else b) = a:=rfl
theorem bifP1 {α:Type} (n:List Int) (a b:α):(bif !((n,true):List Int × Bool).2 then a else b) = b:=rfl
theorem i_lof {s:ByteArray} (hs:s.size ≤ 1048576):d_impl_LineOf 2097153 s = some (lofM s):=by
 unfold d_impl_LineOf lofM
 have e:=i_parts (b:=32) hs
 have hl:=(parts_len 32 s).2
 rw [show ((32:UInt8).toNat:Int) = 32 from rfl] at e
 rw [e,ob_some]
 cases hp:parts 32 s with
 | nil=>have:=(parts_len 32 s).1; rw [hp] at this; simp at this
 | cons p ps =>
  rw [hp] at hl
  simp only [List.length_cons] at hl ⊢
  have e2:w64 (((ps.length + 1:Nat):Int) - 1) = ps.length:=by rw [w64_id (by omega) (by omega)]; omega
  simp only [e2]
  show obind (d_impl_wordsOf 2097153 s carB (ps.length:Int)) _ = _
  rw [i_words hs (by omega)]
  have hw:wrd carB ps.length s = if p = carB then nms ps else none:=by
   unfold wrd
   rw [hp]
   simp
  rw [hw]
  unfold lofN
  by_cases hc:p = carB
  · rw [if_pos hc]
    cases hn:nms ps with
    | none=>rfl
    | some n =>
     have hnl:=nms_len hn
     simp only
     rw [obS,bifP1]
     by_cases h6:n.length < 6
     · rw [bif_true (by simp; omega),if_pos h6]; rfl
     rw [bif_false (by simp; omega),if_neg h6]
     unfold d_impl_LineOf_J2 d_impl_LineOf_J1
     obtain ⟨a,b,c,d,e,f,u,rfl⟩:=len6 h6
     simp only [List.length_cons] at hnl
     show obind (sls (a :: b :: c :: d :: e :: f :: u) 6 (((a :: b :: c :: d :: e :: f :: u).length:Nat):Int)) _ = _
     rw [drop6 (by omega),ob_some]
     show obind (d_impl_PlanOk 2097153 ⟨[⟨a,b,u⟩],[⟨c,d,e,f⟩]⟩) _ = _
     rw [i_pok (sp1p (by simp; omega)) (by omega),ob_some,pok1]
     show (bif !okO (⟨a,b,u⟩,⟨c,d,e,f⟩) then _ else _) = some (if p = carB ∧ okO (⟨a,b,u⟩,⟨c,d,e,f⟩) = true then _ else _)
     cases hk:okO (⟨a,b,u⟩,⟨c,d,e,f⟩)
     · rw [if_neg (by simp)]; rfl
     · rw [if_pos ⟨hc,rfl⟩]; rfl
  · rw [if_neg hc,obR,bifP0]
    cases hn:nms ps with
    | none=>rfl
    | some n =>
     simp only
     split
     · rfl
     rw [if_neg (fun h=>hc h.1)]; rfl
theorem ba_l {a b:ByteArray} (h:a.data.toList = b.data.toList):a = b:=ByteArray.ext (Array.ext' h)
theorem app_l (a b:ByteArray):(a ++ b).data.toList = a.data.toList ++ b.data.toList:=by rw [ByteArray.data_append]; simp
theorem line_list:∀ (l:List Int) (o:ByteArray),(lineL o l).data.toList = o.data.toList ++ (l.map fun n=>32 :: (numB n).data.toList).flatten
 | [],o=>by simp [lineL]
 | n :: l,o=>by
  show (lineL (o ++ (sp1 ++ numB n)) l).data.toList = _
  rw [line_list l,app_l,app_l]
  simp [sp1]
theorem line_parts {s p:ByteArray} {n:List Int} (h:parts 32 s = p :: n.map numB):lineL p n = s:=by
 apply ba_l
 rw [line_list]
 have hj:=cut_join 32 s.data.toList
 unfold parts pts at h
 simp only [List.map_cons,List.cons.injEq] at h
 have e1:(cut 32 s.data.toList).1 = p.data.toList:=by rw [← h.1]; rfl
 have e2:(cut 32 s.data.toList).2 = n.map fun n=>(numB n).data.toList:=by
  have:=congrArg (List.map fun x:ByteArray=>x.data.toList) h.2
  rw [List.map_map,List.map_map] at this
  have e3:((fun x:ByteArray=>x.data.toList) ∘ ofL) = id:=by funext x; rfl
  rw [e3,List.map_id] at this
  exact this
 rw [e1,e2,List.map_map] at hj
 exact hj.symm
theorem line_car {p:ByteArray} {n:List Int} (h:lineL carB n = lineL p n):carB = p:=by
 have:=congrArg (fun x:ByteArray=>x.data.toList) h
 simp only [line_list] at this
 exact ba_l (List.append_cancel_right this)
theorem nums_car (n:List Int) (h:¬ n.length < 6):numsL (carO n).1 (carO n).2 = n:=by
 obtain ⟨a,b,c,d,e,f,u,rfl⟩:=len6 h
 rfl
def sfin (s:ByteArray) (n:List Int):Option (Carton × Spot × Bool) :=
 bif (decide ((n.length:Int) < 6)) then some (C0,T0,false) else obind (ix n 0) fun a=>obind (ix n 1) fun b=>obind (sls n 6 (n.length:Int)) fun u=>obind (apnd 8 [] u) fun v=>d_spec_LineOf_J2 2097153 s n a b v
theorem s_lofL {s y:ByteArray}:∀ (xs pre:List ByteArray) (o:List Int) (k:Nat),(∀ x ∈ xs,x.size ≤ 1048576) → (o.length + xs.length ≤ 2000000 ∧ pre.length + xs.length ≤ 2000000) → xs.length < k → d_spec_LineOf_L1 2097153 s (y :: (pre ++ xs)) k o ((pre.length:Int) + 1) = match nms xs with | none=>some (C0,T0,false) | some n=>sfin s (o ++ n)
 | [],pre,o,k,hx,hl,hk=>by
  obtain ⟨k,rfl⟩:∃ j,k = j + 1:=⟨k - 1,by omega⟩
  rw [d_spec_LineOf_L1.eq_2]
  unfold d_spec_LineOf_L1_B
  rw [bif_false (by simp)]
  show _ = sfin s (o ++ [])
  rw [List.append_nil]
  rfl
 | x :: xs,pre,o,k,hx,hl,hk=>by
  obtain ⟨k,rfl⟩:∃ j,k = j + 1:=⟨k - 1,by omega⟩
  simp only [List.length_cons] at hl hk
  rw [d_spec_LineOf_L1.eq_2]
  unfold d_spec_LineOf_L1_B
  have hi:ix (y :: (pre ++ x :: xs)) ((pre.length:Int) + 1) = some x:=by
   rw [show ((pre.length:Int) + 1) = ((pre.length + 1:Nat):Int) by omega,ix_nat]; simp
  rw [bif_true (by simp; omega),hi,ob_some,nmv_s (hx x (by simp)),ob_some,nms]
  cases hv:(nmv x).2 with
  | false=>rfl
  | true =>
   rw [if_pos rfl,Bool.not_true,cond_false]
   have:apnd 8 o [(nmv x).1] = some (o ++ [(nmv x).1]):=by
    unfold apnd
    rw [if_pos (by simp only [List.length_singleton]; omega)]
   have ih:=s_lofL (s:=s) (y:=y) xs (pre ++ [x]) (o ++ [(nmv x).1]) k (fun y hy=>hx y (by simp [hy])) (by simp only [List.length_append,List.length_singleton]; omega) (by omega)
   rw [this,ob_some,w64_id (by omega) (by omega),show ((pre.length:Int) + 1 + 1) = (((pre ++ [x]).length:Nat):Int) + 1 by simp]
   rw [show y :: (pre ++ x :: xs) = y :: ((pre ++ [x]) ++ xs) by simp,ih]
   cases nms xs with
   | none=>rfl
   | some ns=>simp
theorem s_lof {s:ByteArray} (hs:s.size ≤ 1048576):d_spec_LineOf 2097153 s = some (lofM s):=by
 unfold d_spec_LineOf lofM
 have e:=s_parts (b:=32) hs
 have hl:=(parts_len 32 s).2
 have hsz:=fun x hx=>Nat.le_trans (parts_size (b:=32) (s:=s) (x:=x) hx) hs
 rw [show ((32:UInt8).toNat:Int) = 32 from rfl] at e
 rw [e,ob_some]
 cases hp:parts 32 s with
 | nil=>have:=(parts_len 32 s).1; rw [hp] at this; simp at this
 | cons p ps =>
  rw [hp] at hl hsz
  simp only [List.length_cons] at hl
  have hx:∀ x ∈ ps,x.size ≤ 1048576:=fun x hx=>hsz x (by simp [hx])
  have:=s_lofL (s:=s) (y:=p) ps [] [] 2097153 hx (by simp; omega) (by omega)
  rw [show ((([]:List ByteArray).length:Int) + 1) = 1 from rfl,List.nil_append] at this
  rw [this]
  show _ = some (lofN p (nms ps))
  unfold lofN
  cases hn:nms ps with
  | none=>rfl
  | some n =>
   have hnl:=nms_len hn
   have hnb:=nms_some hx hn
   simp only [List.nil_append]
   unfold sfin
   by_cases h6:n.length < 6
   · rw [bif_true (by simp; omega),if_pos h6]
   rw [bif_false (by simp; omega),if_neg h6]
   have hnum:=nums_car n h6
   have hlp:=line_parts (n:=n) (by rw [hp,← hnb.1])
   obtain ⟨a,b,c,d,e,f,u,rfl⟩:=len6 h6
   simp only [List.length_cons] at hnl
   show obind (sls (a :: b :: c :: d :: e :: f :: u) 6 (((a :: b :: c :: d :: e :: f :: u).length:Nat):Int)) _ = _
   rw [drop6 (by omega),ob_some,ap1 (by simp; omega),ob_some,List.nil_append]
   unfold d_spec_LineOf_J2 d_spec_LineOf_J1
   show obind (d_spec_PlanOk 2097153 ⟨[⟨a,b,u⟩],[⟨c,d,e,f⟩]⟩) _ = _
   rw [s_pok (sp1p (by simp; omega)) (by omega),ob_some,pok1]
   show (bif !okO (⟨a,b,u⟩,⟨c,d,e,f⟩) then _ else obind (d_spec_l14Line 2097153 ⟨a,b,u⟩ ⟨c,d,e,f⟩) _) = some (if p = carB ∧ okO (⟨a,b,u⟩,⟨c,d,e,f⟩) = true then _ else _)
   cases hk:okO (⟨a,b,u⟩,⟨c,d,e,f⟩)
   · rw [if_neg (by simp)]; rfl
   · have hk':=hk
     unfold okO at hk'
     rw [Bool.and_eq_true] at hk'
     rw [Bool.not_true,cond_false,s_line (by omega) (nums_ok hk'.1 hk'.2),ob_some,ba_eq]
     have hq:numsL ⟨a,b,u⟩ ⟨c,d,e,f⟩ = a :: b :: c :: d :: e :: f :: u:=rfl
     rw [hq]
     by_cases hc:p = carB
     · rw [if_pos ⟨hc,rfl⟩,decide_eq_true (by rw [← hlp,hc])]; rfl
     · rw [if_neg (fun h=>hc h.1),decide_eq_false (fun h=>hc (by
         rw [← hlp] at h
         exact (line_car h).symm))]; rfl
def lofs:List ByteArray → Option (List (Carton × Spot))
 | []=>some []
 | l :: ls=>if (lofM l).2.2 = true then (lofs ls).map (((lofM l).1,(lofM l).2.1) :: ·) else none
def P0:Plan:=⟨[],[]⟩
def plO (l:List (Carton × Spot)):Plan:=⟨l.map (·.1),l.map (·.2)⟩
def rplM (s:ByteArray):Plan × Bool :=
 if (parts 10 s).getLastD emB = emB ∧ (parts 10 s).length ≤ 101 then
  match lofs (parts 10 s).dropLast with
  | some l=>(plO l,true)
  | none=>(P0,false)
 else (P0,false)
theorem lofM_ok {s:ByteArray} (h:(lofM s).2.2 = true):okO ((lofM s).1,(lofM s).2.1) = true ∧ ∃ n,parts 32 s = carB :: n ∧ ∃ m,nms n = some m ∧ ¬ m.length < 6 ∧ carO m = ((lofM s).1,(lofM s).2.1):=by
 unfold lofM at h ⊢
 cases hp:parts 32 s with
 | nil=>rw [hp] at h; simp at h
 | cons p ps =>
  rw [hp] at h
  simp only at h ⊢
  unfold lofN at h ⊢
  cases hn:nms ps with
  | none=>rw [hn] at h; simp at h
  | some n =>
   rw [hn] at h
   simp only at h ⊢
   split at h
   · simp at h
   · rename_i h6
     rw [if_neg h6]
     split at h
     · rename_i hc
       rw [if_pos hc]
       exact ⟨hc.2,ps,by rw [hc.1],n,hn,h6,rfl⟩
     · simp at h
theorem lofs_ok:∀ {ls:List ByteArray} {l:List (Carton × Spot)},lofs ls = some l → l.length = ls.length ∧ ∀ p ∈ l,okO p = true
 | [],l,h=>by rw [← Option.some.inj h]; simp
 | x :: ls,l,h=>by
  rw [lofs] at h
  split at h
  · rename_i hx
    cases hl:lofs ls with
    | none=>rw [hl] at h; simp at h
    | some m =>
     rw [hl] at h
     rw [← Option.some.inj h]
     have:=lofs_ok hl
     exact ⟨by simp [this.1],fun p hp=>by
      rcases List.mem_cons.1 hp with rfl | hp
      · exact (lofM_ok hx).1
      · exact this.2 p hp⟩
  · simp at h
theorem cok_len {c:Carton} (h:cokB c = true):c.fUnits.length ≤ 100:=by
 unfold cokB uriB at h
 simp only [Bool.and_eq_true,decide_eq_true_eq] at h
 omega
theorem lensC_le' (b:Nat):∀ (l:List Carton),(∀ c ∈ l,c.fUnits.length ≤ b) → lensC l ≤ b * l.length
 | [],_=>by simp [lensC]
 | c :: l,h=>by
  have h1:=lensC_le' b l fun d hd=>h d (by simp [hd])
  have h2:=h c (by simp)
  simp only [lensC,List.length_cons,Nat.mul_add]; omega
theorem i_rpl {s:ByteArray} (hs:s.size ≤ 1048576):d_impl_ReadPlan 2097153 s = some (rplM s):=by
 unfold d_impl_ReadPlan rplM
 have e:=i_parts (b:=10) hs
 rw [show ((10:UInt8).toNat:Int) = 10 from rfl] at e
 rw [e,ob_some]
 obtain ⟨ls,z,h1,h2,h3⟩:=parts_ls 10 s
 have hsz:=fun x hx=>Nat.le_trans (parts_size (b:=10) (s:=s) (x:=x) hx) hs
 have hn:=(parts_len 10 s).2
 rw [h2,h3]
 rw [h1] at hsz hn ⊢
 simp only [List.length_append,List.length_singleton] at hn ⊢
 rw [w64_id (by omega) (by omega),show ((ls.length + 1:Nat):Int) - 1 = ls.length by omega,ix_ls,ob_some]
 show (bif (!(z.toList == emB.toList)) then _ else _) = _
 rw [ba_eq]
 by_cases hz:z = emB
 rotate_left
 · rw [decide_eq_false hz,if_neg (fun h=>hz h.1)]; rfl
 rw [decide_eq_true hz,Bool.not_true,cond_false]
 by_cases hc:ls.length ≤ 100
 rotate_left
 · rw [bif_true (by simp; omega),if_neg (by omega)]; rfl
 rw [bif_false (by simp; omega),if_pos ⟨hz,by omega⟩]
 unfold d_impl_ReadPlan_J1
 simp only [List.length_append,List.length_singleton]
 rw [w64_id (by omega) (by omega),show ((ls.length + 1:Nat):Int) - 1 = ls.length by omega,sls_ls,ob_some]
 have key:=lpI ls (fun n (o:List Carton × List Spot) i=>d_impl_ReadPlan_L1 2097153 ls n o.1 o.2 i) (fun xs o=>match lofs xs with | none=>some (P0,false) | some l=>some (⟨o.1 ++ l.map (·.1),o.2 ++ l.map (·.2)⟩,true)) (fun xs o=>(∀ x ∈ xs,x.size ≤ 1048576) ∧ o.1.length + xs.length ≤ 1000 ∧ o.2.length + xs.length ≤ 1000) (by omega) ?_ ?_ 2097153 ([],[]) ⟨fun x hx=>hsz x (by simp [hx]),by simp; omega,by simp; omega⟩ (by omega)
 · rw [key]
   cases lofs ls <;> rfl
 · intro n o i x xs hx hd hI ih
   obtain ⟨i1,i2,i3⟩:=hI
   simp only [List.length_cons] at i2 i3
   simp only [d_impl_ReadPlan_L1.eq_2]
   unfold d_impl_ReadPlan_L1_B
   rw [hd,cond_true,hx,ob_some,i_lof (i1 x (by simp)),ob_some,lofs]
   cases hv:(lofM x).2.2 with
   | false=>rfl
   | true =>
    rw [if_pos rfl,Bool.not_true,cond_false,ap1 (by simp only [List.length_singleton]; omega),ob_some,ap1 (by simp only [List.length_singleton]; omega),ob_some]
    have:=ih (o.1 ++ [(lofM x).1],o.2 ++ [(lofM x).2.1]) ⟨fun y hy=>i1 y (by simp [hy]),by simp only [List.length_append,List.length_singleton]; omega,by simp only [List.length_append,List.length_singleton]; omega⟩
    rw [this]
    cases lofs xs with
    | none=>rfl
    | some l=>simp
 · intro n o i hd _
   simp only [d_impl_ReadPlan_L1.eq_2]
   unfold d_impl_ReadPlan_L1_B
   rw [hd,cond_false]
   simp [lofs]
theorem s_rplL {z:ByteArray}:∀ (xs pre:List ByteArray) (cs:List Carton) (ts:List Spot) (k:Nat),(∀ x ∈ xs,x.size ≤ 1048576) → (cs.length = pre.length ∧ ts.length = pre.length ∧ pre.length + xs.length ≤ 1048576 ∧ ∀ p ∈ cs.zip ts,okO p = true) → xs.length < k →
    d_spec_ReadPlan_L1 2097153 (pre ++ (xs ++ [z])) k cs ts (pre.length:Int) = match lofs xs with | none=>some (P0,false) | some l=>if z = emB ∧ pre.length + xs.length ≤ 100 then some (⟨cs ++ l.map (·.1),ts ++ l.map (·.2)⟩,true) else some (P0,false)
 | [],pre,cs,ts,k,hx,hI,hk=>by
  obtain ⟨k,rfl⟩:∃ j,k = j + 1:=⟨k - 1,by omega⟩
  obtain ⟨i1,i2,i3,i4⟩:=hI
  rw [d_spec_ReadPlan_L1.eq_2]
  unfold d_spec_ReadPlan_L1_B
  simp only [List.nil_append,List.length_append,List.length_singleton,List.length_nil,Nat.add_zero] at i3 ⊢
  rw [w64_id (by omega) (by omega),show ((pre.length + 1:Nat):Int) - 1 = pre.length by omega,bif_false (by simp),ix_ls,ob_some]
  show (bif (!(z.toList == emB.toList)) then _ else _) = _
  rw [ba_eq]
  simp only [lofs,List.map_nil,List.append_nil]
  by_cases hz:z = emB
  rotate_left
  · rw [decide_eq_false hz,if_neg (fun h=>hz h.1)]; rfl
  rw [decide_eq_true hz,Bool.not_true,cond_false]
  by_cases hc:pre.length ≤ 100
  · rw [if_pos ⟨hz,hc⟩]
    have hu:∀ c ∈ cs,c.fUnits.length ≤ 100:=fun c hcm=>by
     obtain ⟨i,hi,rfl⟩:=List.getElem_of_mem hcm
     have h2:i < ts.length:=by omega
     have:=i4 (cs[i],ts[i]) (List.mem_iff_getElem.2 ⟨i,by simp; omega,by simp⟩)
     unfold okO at this
     rw [Bool.and_eq_true] at this
     exact cok_len this.1
    have hsp:Sp ⟨cs,ts⟩:=⟨by show cs.length ≤ _; omega,fun c hcm=>by have:=hu c hcm; omega,by
     have:=lensC_le' 100 cs hu
     show lensC cs ≤ _
     have h3:100 * cs.length ≤ 100 * 100:=Nat.mul_le_mul_left _ (by omega)
     omega,by show ts.length ≤ _; omega⟩
    rw [s_pok hsp (by omega),ob_some]
    have:pokB ⟨cs,ts⟩ = true:=by
     unfold pokB
     simp only [Bool.and_eq_true,beq_iff_eq,decide_eq_true_eq,List.all_eq_true]
     refine ⟨by omega,by omega,fun p hp=>?_⟩
     have:=i4 p hp
     unfold okO at this
     rwa [Bool.and_eq_true] at this
    rw [this]; rfl
  · rw [if_neg (fun h=>hc h.2)]
    unfold d_spec_PlanOk
    show obind (bif (((cs.length:Int)) != ((ts.length:Int))) then _ else bif (decide ((cs.length:Int) > 100)) then _ else _) _ = _
    rw [bif_false (by simp; omega),bif_true (by simp; omega),ob_some]
    rfl
 | x :: xs,pre,cs,ts,k,hx,hI,hk=>by
  obtain ⟨k,rfl⟩:∃ j,k = j + 1:=⟨k - 1,by omega⟩
  obtain ⟨i1,i2,i3,i4⟩:=hI
  simp only [List.length_cons] at hk i3
  rw [d_spec_ReadPlan_L1.eq_2]
  unfold d_spec_ReadPlan_L1_B
  have hi:ix (pre ++ (x :: xs ++ [z])) (pre.length:Int) = some x:=by
   rw [ix_nat]; simp
  simp only [List.length_append,List.length_singleton,List.length_cons,List.length_nil]
  rw [w64_id (by omega) (by omega),bif_true (by simp; omega),hi,ob_some,s_lof (hx x (by simp)),ob_some,lofs]
  cases hv:(lofM x).2.2 with
  | false=>rfl
  | true =>
   rw [if_pos rfl,Bool.not_true,cond_false,ap1 (by simp only [List.length_singleton]; omega),ob_some,ap1 (by simp only [List.length_singleton]; omega),ob_some,w64_id (by omega) (by omega)]
   have ih:=s_rplL (z:=z) xs (pre ++ [x]) (cs ++ [(lofM x).1]) (ts ++ [(lofM x).2.1]) k (fun y hy=>hx y (by simp [hy])) ⟨by simp; omega,by simp; omega,by simp; omega,fun p hp=>by
    rw [List.zip_append (by omega)] at hp
    rcases List.mem_append.1 hp with hp | hp
    · exact i4 p hp
    · rw [List.mem_singleton.1 hp]; exact (lofM_ok hv).1⟩ (by omega)
   rw [show pre ++ (x :: xs ++ [z]) = (pre ++ [x]) ++ (xs ++ [z]) by simp,show ((pre.length:Int) + 1) = (((pre ++ [x]).length:Nat):Int) by simp,ih]
   cases lofs xs with
   | none=>rfl
   | some l =>
    simp only [Option.map_some,List.length_append,List.length_singleton,List.map_cons,List.append_assoc,List.singleton_append]
    rw [show pre.length + 1 + xs.length = pre.length + (xs.length + 1) by omega]
theorem s_rpl {s:ByteArray} (hs:s.size ≤ 1048576):d_spec_ReadPlan 2097153 s = some (rplM s):=by
 unfold d_spec_ReadPlan rplM
 have e:=s_parts (b:=10) hs
 rw [show ((10:UInt8).toNat:Int) = 10 from rfl] at e
 rw [e,ob_some]
 obtain ⟨ls,z,h1,h2,h3⟩:=parts_ls 10 s
 have hsz:=fun x hx=>Nat.le_trans (parts_size (b:=10) (s:=s) (x:=x) hx) hs
 have hn:=(parts_len 10 s).2
 rw [h2,h3]
 rw [h1] at hsz hn ⊢
 simp only [List.length_append,List.length_singleton] at hn ⊢
 have:=s_rplL (z:=z) ls [] [] [] 2097153 (fun x hx=>hsz x (by simp [hx])) ⟨rfl,rfl,by simp; omega,by simp⟩ (by omega)
 rw [List.nil_append,show ((([]:List ByteArray).length:Nat):Int) = 0 from rfl] at this
 rw [this]
 simp only [List.length_nil,Nat.zero_add,List.nil_append]
 cases lofs ls with
 | none =>
  simp only
  split <;> rfl
 | some l =>
  simp only
  by_cases h:z = emB ∧ ls.length ≤ 100
  · rw [if_pos h,if_pos ⟨h.1,by omega⟩]; rfl
  · rw [if_neg h,if_neg (fun g=>h ⟨g.1,by omega⟩)]
theorem rpl_sp (s:ByteArray):Sp (rplM s).1:=by
 have h0:Sp P0:=⟨by simp [P0],by simp [P0],by simp [P0,lensC],by simp [P0]⟩
 unfold rplM
 split
 · rename_i h
   split
   · rename_i l hl
     have:=lofs_ok hl
     rw [List.length_dropLast] at this
     have hc:∀ c ∈ l.map (·.1),c.fUnits.length ≤ 100:=fun c hc=>by
      obtain ⟨p,hp,rfl⟩:=List.mem_map.1 hc
      have:=this.2 p hp
      unfold okO at this
      rw [Bool.and_eq_true] at this
      exact cok_len this.1
     have h3:=lensC_le' 100 _ hc
     rw [List.length_map] at h3
     exact ⟨by simp [plO]; omega,fun c hcm=>by have:=hc c hcm; omega,by show lensC (l.map (·.1)) ≤ _; omega,by simp [plO]; omega⟩
   · exact h0
 · exact h0
def verM (s l:ByteArray):Int × Int:=bif cloM s != 0 then (cloM s,1) else bif !(rplM l).2 then (0,2) else (0,chkM (rdM s).1 (rplM l).1)
theorem i_ver {s l:ByteArray} (hs:s.size ≤ 1048576) (hl:l.size ≤ 1048576):d_impl_Verify 2097153 s l = some (verM s l):=by
 unfold d_impl_Verify verM
 rw [i_clo hs,ob_some]
 cases cloM s != 0
 · rw [cond_false,cond_false,i_read hs,ob_some,i_rpl hl,ob_some]
   cases (rplM l).2
   · rfl
   · rw [Bool.not_true,cond_false,cond_false,i_check (rdM_sm s) (rpl_sp l),ob_some]
 · rfl
theorem s_ver {s l:ByteArray} (hs:s.size ≤ 1048576) (hl:l.size ≤ 1048576):d_spec_Verify 2097153 s l = some (verM s l):=by
 unfold d_spec_Verify verM
 rw [s_clo hs,ob_some]
 cases cloM s != 0
 · rw [cond_false,cond_false,s_read hs,ob_some,s_rpl hl,ob_some]
   cases (rplM l).2
   · rfl
   · rw [Bool.not_true,cond_false,cond_false,s_check (rdM_sm s) (rpl_sp l),ob_some]
 · rfl
end Go.Proofs.YthkaklkinepfkaaGreatDoor
