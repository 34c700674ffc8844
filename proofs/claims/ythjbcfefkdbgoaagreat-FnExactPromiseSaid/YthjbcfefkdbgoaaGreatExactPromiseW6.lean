/- FnExactPromise: the walks of functions that the law reaches, part 6. Printed by gen.py. -/
import Derived.Test.YthjbcfefkdbgoaaGreatExactPromiseW5
set_option maxRecDepth 20000
set_option linter.unusedSimpArgs false
set_option linter.unusedVariables false
namespace Go.Proofs.YthjbcfefkdbgoaaGreat
open Go Go.RowKit
open Enc (rd ow)
open Arg (argv)
open Ret (retv)



def d_impl_Groups_J1 (fu : Nat) (k3 : List (List Int) → Int → Option ((List (List Int)))) (x582 : Int) (out718 : List (List Int)) : Option ((List (List Int))) :=
  k3 out718 (w64 (x582 + 1))

def d_impl_Groups_L1_B (fu : Nat)  (pairs1 : List Pair) (x17 : (List Int)) (k3 : List (List Int) → Int → Option ((List (List Int)))) (out577 : List (List Int)) (x582 : Int) : Option ((List (List Int))) :=
  bif (decide (x582 < ((x17.length : Int)))) then obind (ix x17 x582) fun x723 => obind (d_impl_in fu x723 0 3) fun x730 => bif (!x730) then d_impl_Groups_J1 fu k3 x582 out577 else obind (d_slices_IndexFunc_ints_int fu out577 (fun y735 => d_impl_Groups_1 fu y735 pairs1 x723)) fun x738 => bif (decide (x738 < 0)) then obind (apnd 24 out577 [([x723] : List Int)]) fun x752 => d_impl_Groups_J1 fu k3 x582 x752 else obind (ix out577 x738) fun x762 => obind (apnd 8 x762 (([x723] : List Int))) fun x792 => obind (ix out577 x738) fun x806 => d_impl_Groups_J1 fu k3 x582 (setx out577 x738 x792) else some (out577)
def d_impl_Groups_L1 (fu : Nat)  (pairs1 : List Pair) (x17 : (List Int)) : Nat → List (List Int) → Int → Option ((List (List Int)))
  | 0 => fun _ _ => none
  | n + 1 => d_impl_Groups_L1_B fu pairs1 x17 (d_impl_Groups_L1 fu pairs1 x17 n)
theorem d_impl_Groups_L1_s (fu : Nat)  (pairs1 : List Pair) (x17 : (List Int)) (n : Nat) : d_impl_Groups_L1 fu pairs1 x17 (n + 1) = d_impl_Groups_L1_B fu pairs1 x17 (d_impl_Groups_L1 fu pairs1 x17 n) := rfl

def d_impl_Groups (fu : Nat) (pairs1 : List Pair) (present5 : List Int) : Option ((List (List Int))) :=
  obind (d_impl_kinds fu present5) fun x17 => d_impl_Groups_L1 fu pairs1 x17 fu (([] : List (List Int))) 0

def d_impl_GroupsOf (fu : Nat) (r1 : Request) : Option ((List (List Int))) :=
  obind (d_impl_sound fu r1) fun x17 => bif (!x17) then some (([] : List (List Int))) else obind (d_impl_Present fu r1) fun x23 => obind (d_impl_Groups fu r1.fPairs x23) fun x33 => some (x33)

def d_impl_hasGroup (fu : Nat) (r1 : Request) (kv5 : Int) : Option (Bool) :=
  obind (d_impl_GroupsOf fu r1) fun x18 => obind (d_impl_in fu kv5 0 (w64 (((x18.length : Int)) - 1))) fun x27 => some (x27)

def d_impl_Volume_J1 (fu : Nat) (wv1 : Int) (h2 : Int) (d3 : Int)  : Option (Int) :=
  some (w64 ((w64 (wv1 * h2)) * d3))

def d_impl_Volume (fu : Nat) (wv1 : Int) (h2 : Int) (d3 : Int) : Option (Int) :=
  obind (d_impl_in fu wv1 0 2000) fun x20 => bif (!x20) then some (0) else obind (d_impl_in fu h2 0 2000) fun x25 => bif (!x25) then some (0) else obind (d_impl_in fu d3 0 2000) fun x30 => bif (!x30) then some (0) else d_impl_Volume_J1 fu wv1 h2 d3

def d_impl_masterRoom (fu : Nat) (r1 : Request) : Option (Int × Int) :=
  obind (d_impl_MasterOf fu r1) fun x17 => obind (d_impl_Volume fu x17.1.fW x17.1.fH x17.1.fD) fun x27 => some (x27, x17.1.fGram)

def d_bits_Mul32 (fu : Nat) (x1 : Int) (y2 : Int) : Option (Int × Int) :=
  some (IntKind.wrap .u32 (Int.fdiv (IntKind.wrap .u64 ((IntKind.wrap .u64 x1) * (IntKind.wrap .u64 y2))) (2 ^ (min 32 (IntKind.bits .u64)))), IntKind.wrap .u32 (IntKind.wrap .u64 ((IntKind.wrap .u64 x1) * (IntKind.wrap .u64 y2))))

def d_bits_Mul64 (fu : Nat) (x1 : Int) (y2 : Int) : Option (Int × Int) :=
  some (IntKind.wrap .u64 ((IntKind.wrap .u64 ((IntKind.wrap .u64 ((Int.fdiv x1 (2 ^ (min 32 (IntKind.bits .u64)))) * (Int.fdiv y2 (2 ^ (min 32 (IntKind.bits .u64)))))) + (Int.fdiv (IntKind.wrap .u64 ((IntKind.wrap .u64 ((Int.fdiv x1 (2 ^ (min 32 (IntKind.bits .u64)))) * (IntKind.wrap .u64 (((BitVec.ofInt (IntKind.bits .u64) y2 &&& BitVec.ofInt (IntKind.bits .u64) 4294967295).toNat : Nat) : Int)))) + (Int.fdiv (IntKind.wrap .u64 ((IntKind.wrap .u64 (((BitVec.ofInt (IntKind.bits .u64) x1 &&& BitVec.ofInt (IntKind.bits .u64) 4294967295).toNat : Nat) : Int)) * (IntKind.wrap .u64 (((BitVec.ofInt (IntKind.bits .u64) y2 &&& BitVec.ofInt (IntKind.bits .u64) 4294967295).toNat : Nat) : Int)))) (2 ^ (min 32 (IntKind.bits .u64)))))) (2 ^ (min 32 (IntKind.bits .u64)))))) + (Int.fdiv (IntKind.wrap .u64 ((IntKind.wrap .u64 (((BitVec.ofInt (IntKind.bits .u64) (IntKind.wrap .u64 ((IntKind.wrap .u64 ((Int.fdiv x1 (2 ^ (min 32 (IntKind.bits .u64)))) * (IntKind.wrap .u64 (((BitVec.ofInt (IntKind.bits .u64) y2 &&& BitVec.ofInt (IntKind.bits .u64) 4294967295).toNat : Nat) : Int)))) + (Int.fdiv (IntKind.wrap .u64 ((IntKind.wrap .u64 (((BitVec.ofInt (IntKind.bits .u64) x1 &&& BitVec.ofInt (IntKind.bits .u64) 4294967295).toNat : Nat) : Int)) * (IntKind.wrap .u64 (((BitVec.ofInt (IntKind.bits .u64) y2 &&& BitVec.ofInt (IntKind.bits .u64) 4294967295).toNat : Nat) : Int)))) (2 ^ (min 32 (IntKind.bits .u64)))))) &&& BitVec.ofInt (IntKind.bits .u64) 4294967295).toNat : Nat) : Int)) + (IntKind.wrap .u64 ((IntKind.wrap .u64 (((BitVec.ofInt (IntKind.bits .u64) x1 &&& BitVec.ofInt (IntKind.bits .u64) 4294967295).toNat : Nat) : Int)) * (Int.fdiv y2 (2 ^ (min 32 (IntKind.bits .u64)))))))) (2 ^ (min 32 (IntKind.bits .u64))))), IntKind.wrap .u64 (x1 * y2))

def d_bits_Mul (fu : Nat) (x1 : Int) (y2 : Int) : Option (Int × Int) :=
  obind (d_bits_Mul64 fu x1 y2) fun x3 => some (x3.1, x3.2)

def d_slices_Repeat_int_int_L1_B (fu : Nat)   (k3 : List Int → Int → Option ((List Int))) (newslice64 : List Int) (n69 : Int) : Option ((List Int)) :=
  bif (decide (n69 < ((newslice64.length : Int)))) then obind (sls newslice64 n69 (newslice64.length : Int)) fun x73 => obind (sls newslice64 0 n69) fun x79 => k3 (cpd newslice64 n69 x79) (w64 (n69 + (cpn newslice64 n69 x79))) else some (newslice64)
def d_slices_Repeat_int_int_L1 (fu : Nat)   : Nat → List Int → Int → Option ((List Int))
  | 0 => fun _ _ => none
  | n + 1 => d_slices_Repeat_int_int_L1_B fu  (d_slices_Repeat_int_int_L1 fu  n)
theorem d_slices_Repeat_int_int_L1_s (fu : Nat)   (n : Nat) : d_slices_Repeat_int_int_L1 fu  (n + 1) = d_slices_Repeat_int_int_L1_B fu  (d_slices_Repeat_int_int_L1 fu  n) := rfl

def d_slices_Repeat_int_int_J1 (fu : Nat) (x1 : List Int) (x8 : Int × Int)  : Option ((List Int)) :=
  obind (mk 8 (0 : Int) (w64 x8.2)) fun x15 => d_slices_Repeat_int_int_L1 fu fu (cpd x15 0 x1) (cpn x15 0 x1)

def d_slices_Repeat_int_int_J2 (fu : Nat) (x1 : List Int) (count5 : Int)  : Option ((List Int)) :=
  obind (d_bits_Mul fu (IntKind.wrap .u64 ((x1.length : Int))) (IntKind.wrap .u64 count5)) fun x8 => bif (decide (x8.1 > 0)) then none else bif (decide (x8.2 > 9223372036854775807)) then none else d_slices_Repeat_int_int_J1 fu x1 x8

def d_slices_Repeat_int_int (fu : Nat) (x1 : List Int) (count5 : Int) : Option ((List Int)) :=
  bif (decide (count5 < 0)) then none else d_slices_Repeat_int_int_J2 fu x1 count5

def d_impl_Units_L1_B (fu : Nat)  (r1 : Request) (k1 : List Int → Int → Option ((List Int))) (out92 : List Int) (x97 : Int) : Option ((List Int)) :=
  bif (decide (x97 < ((r1.fItems.length : Int)))) then obind (ix r1.fItems x97) fun x100 => obind (d_slices_Repeat_int_int fu (([x97] : List Int)) x100.fCount) fun x112 => obind (apnd 8 out92 x112) fun x121 => k1 x121 (w64 (x97 + 1)) else some (out92)
def d_impl_Units_L1 (fu : Nat)  (r1 : Request) : Nat → List Int → Int → Option ((List Int))
  | 0 => fun _ _ => none
  | n + 1 => d_impl_Units_L1_B fu r1 (d_impl_Units_L1 fu r1 n)
theorem d_impl_Units_L1_s (fu : Nat)  (r1 : Request) (n : Nat) : d_impl_Units_L1 fu r1 (n + 1) = d_impl_Units_L1_B fu r1 (d_impl_Units_L1 fu r1 n) := rfl

def d_impl_Units (fu : Nat) (r1 : Request) : Option ((List Int)) :=
  obind (d_impl_sound fu r1) fun x17 => bif (!x17) then some (([] : List Int)) else d_impl_Units_L1 fu r1 fu (([] : List Int)) 0

def d_slices_Index_int_int_L1_B (fu : Nat)  (sv1 : List Int) (v5 : Int) (k1 : Int → Option (Int)) (x18 : Int) : Option (Int) :=
  bif (decide (x18 < ((sv1.length : Int)))) then obind (ix sv1 x18) fun x21 => bif (v5 == x21) then some (x18) else k1 (w64 (x18 + 1)) else some ((-1))
def d_slices_Index_int_int_L1 (fu : Nat)  (sv1 : List Int) (v5 : Int) : Nat → Int → Option (Int)
  | 0 => fun _ => none
  | n + 1 => d_slices_Index_int_int_L1_B fu sv1 v5 (d_slices_Index_int_int_L1 fu sv1 v5 n)
theorem d_slices_Index_int_int_L1_s (fu : Nat)  (sv1 : List Int) (v5 : Int) (n : Nat) : d_slices_Index_int_int_L1 fu sv1 v5 (n + 1) = d_slices_Index_int_int_L1_B fu sv1 v5 (d_slices_Index_int_int_L1 fu sv1 v5 n) := rfl

def d_slices_Index_int_int (fu : Nat) (sv1 : List Int) (v5 : Int) : Option (Int) :=
  d_slices_Index_int_int_L1 fu sv1 v5 fu 0

def d_slices_Contains_int_int (fu : Nat) (sv1 : List Int) (v5 : Int) : Option (Bool) :=
  obind (d_slices_Index_int_int fu sv1 v5) fun x6 => some (decide (x6 ≥ 0))

def d_impl_UnitsOf_J1 (fu : Nat) (k3 : List Int → Int → Option ((List Int))) (x194 : Int) (out228 : List Int) : Option ((List Int)) :=
  k3 out228 (w64 (x194 + 1))

def d_impl_UnitsOf_L1_B (fu : Nat)  (r1 : Request) (kv5 : Int) (x18 : (List (List Int))) (x37 : (List Int)) (k3 : List Int → Int → Option ((List Int))) (out189 : List Int) (x194 : Int) : Option ((List Int)) :=
  bif (decide (x194 < ((x37.length : Int)))) then obind (ix x37 x194) fun x233 => obind (ix x18 kv5) fun x236 => obind (ix r1.fItems x233) fun x245 => obind (d_slices_Contains_int_int fu x236 x245.fClass) fun x247 => bif x247 then obind (apnd 8 out189 (([x194] : List Int))) fun x257 => d_impl_UnitsOf_J1 fu k3 x194 x257 else d_impl_UnitsOf_J1 fu k3 x194 out189 else some (out189)
def d_impl_UnitsOf_L1 (fu : Nat)  (r1 : Request) (kv5 : Int) (x18 : (List (List Int))) (x37 : (List Int)) : Nat → List Int → Int → Option ((List Int))
  | 0 => fun _ _ => none
  | n + 1 => d_impl_UnitsOf_L1_B fu r1 kv5 x18 x37 (d_impl_UnitsOf_L1 fu r1 kv5 x18 x37 n)
theorem d_impl_UnitsOf_L1_s (fu : Nat)  (r1 : Request) (kv5 : Int) (x18 : (List (List Int))) (x37 : (List Int)) (n : Nat) : d_impl_UnitsOf_L1 fu r1 kv5 x18 x37 (n + 1) = d_impl_UnitsOf_L1_B fu r1 kv5 x18 x37 (d_impl_UnitsOf_L1 fu r1 kv5 x18 x37 n) := rfl

def d_impl_UnitsOf (fu : Nat) (r1 : Request) (kv5 : Int) : Option ((List Int)) :=
  obind (d_impl_GroupsOf fu r1) fun x18 => obind (d_impl_in fu kv5 0 (w64 (((x18.length : Int)) - 1))) fun x27 => bif (!x27) then some (([] : List Int)) else obind (d_impl_Units fu r1) fun x37 => d_impl_UnitsOf_L1 fu r1 kv5 x18 x37 fu (([] : List Int)) 0

def d_impl_itemsOf_J1 (fu : Nat) (k3 : List Item → Int → Option ((List Item))) (x171 : Int) (out202 : List Item) : Option ((List Item)) :=
  k3 out202 (w64 (x171 + 1))

def d_impl_itemsOf_L1_B (fu : Nat)  (r1 : Request) (units5 : List Int) (x21 : (List Int)) (k3 : List Item → Int → Option ((List Item))) (out166 : List Item) (x171 : Int) : Option ((List Item)) :=
  bif (decide (x171 < ((units5.length : Int)))) then obind (ix units5 x171) fun x207 => obind (d_impl_in fu x207 0 (w64 (((x21.length : Int)) - 1))) fun x209 => bif x209 then obind (ix x21 x207) fun x215 => obind (ix r1.fItems x215) fun x217 => obind (apnd 56 out166 (([x217] : List Item))) fun x226 => d_impl_itemsOf_J1 fu k3 x171 x226 else d_impl_itemsOf_J1 fu k3 x171 out166 else some (out166)
def d_impl_itemsOf_L1 (fu : Nat)  (r1 : Request) (units5 : List Int) (x21 : (List Int)) : Nat → List Item → Int → Option ((List Item))
  | 0 => fun _ _ => none
  | n + 1 => d_impl_itemsOf_L1_B fu r1 units5 x21 (d_impl_itemsOf_L1 fu r1 units5 x21 n)
theorem d_impl_itemsOf_L1_s (fu : Nat)  (r1 : Request) (units5 : List Int) (x21 : (List Int)) (n : Nat) : d_impl_itemsOf_L1 fu r1 units5 x21 (n + 1) = d_impl_itemsOf_L1_B fu r1 units5 x21 (d_impl_itemsOf_L1 fu r1 units5 x21 n) := rfl

def d_impl_itemsOf (fu : Nat) (r1 : Request) (units5 : List Int) : Option ((List Item)) :=
  obind (d_impl_Units fu r1) fun x21 => d_impl_itemsOf_L1 fu r1 units5 x21 fu (([] : List Item)) 0

def d_impl_GramOf_L1_B (fu : Nat)  (x21 : (List Item)) (k1 : Int → Int → Option (Int)) (n51 : Int) (x52 : Int) : Option (Int) :=
  bif (decide (x52 < ((x21.length : Int)))) then obind (ix x21 x52) fun x55 => k1 (w64 (n51 + x55.fGram)) (w64 (x52 + 1)) else some (n51)
def d_impl_GramOf_L1 (fu : Nat)  (x21 : (List Item)) : Nat → Int → Int → Option (Int)
  | 0 => fun _ _ => none
  | n + 1 => d_impl_GramOf_L1_B fu x21 (d_impl_GramOf_L1 fu x21 n)
theorem d_impl_GramOf_L1_s (fu : Nat)  (x21 : (List Item)) (n : Nat) : d_impl_GramOf_L1 fu x21 (n + 1) = d_impl_GramOf_L1_B fu x21 (d_impl_GramOf_L1 fu x21 n) := rfl

def d_impl_GramOf (fu : Nat) (r1 : Request) (units5 : List Int) : Option (Int) :=
  obind (d_impl_itemsOf fu r1 units5) fun x21 => d_impl_GramOf_L1 fu x21 fu 0 0

def d_impl_SlackGram (fu : Nat) (r1 : Request) (kv5 : Int) : Option (Bool) :=
  obind (d_impl_masterRoom fu r1) fun x18 => obind (d_impl_hasGroup fu r1 kv5) fun x23 => bif x23 then obind (d_impl_UnitsOf fu r1 kv5) fun x28 => obind (d_impl_GramOf fu r1 x28) fun x38 => some (decide (x38 ≤ x18.2)) else some (false)

def d_impl_VolumeOf_L1_B (fu : Nat)  (x21 : (List Item)) (k1 : Int → Int → Option (Int)) (n59 : Int) (x60 : Int) : Option (Int) :=
  bif (decide (x60 < ((x21.length : Int)))) then obind (ix x21 x60) fun x63 => obind (d_impl_Volume fu x63.fW x63.fH x63.fD) fun x70 => k1 (w64 (n59 + x70)) (w64 (x60 + 1)) else some (n59)
def d_impl_VolumeOf_L1 (fu : Nat)  (x21 : (List Item)) : Nat → Int → Int → Option (Int)
  | 0 => fun _ _ => none
  | n + 1 => d_impl_VolumeOf_L1_B fu x21 (d_impl_VolumeOf_L1 fu x21 n)
theorem d_impl_VolumeOf_L1_s (fu : Nat)  (x21 : (List Item)) (n : Nat) : d_impl_VolumeOf_L1 fu x21 (n + 1) = d_impl_VolumeOf_L1_B fu x21 (d_impl_VolumeOf_L1 fu x21 n) := rfl

def d_impl_VolumeOf (fu : Nat) (r1 : Request) (units5 : List Int) : Option (Int) :=
  obind (d_impl_itemsOf fu r1 units5) fun x21 => d_impl_VolumeOf_L1 fu x21 fu 0 0

def d_impl_SlackVolume (fu : Nat) (r1 : Request) (kv5 : Int) : Option (Bool) :=
  obind (d_impl_masterRoom fu r1) fun x18 => obind (d_impl_hasGroup fu r1 kv5) fun x23 => bif x23 then obind (d_impl_UnitsOf fu r1 kv5) fun x28 => obind (d_impl_VolumeOf fu r1 x28) fun x38 => some (decide (x38 ≤ x18.1)) else some (false)

def d_impl_Promise_J1 (fu : Nat)  (out45 : Int) : Option (Int) :=
  some (out45)

def d_impl_Promise_J2 (fu : Nat) (r1 : Request) (kv5 : Int) (n6 : Int) (out37 : Int) : Option (Int) :=
  obind (d_impl_SlackGram fu r1 kv5) fun x46 => bif x46 then bif (r1.fWay == 0) then d_impl_Promise_J1 fu (if (w64 (Int.tdiv (w64 (3 * (if 1000 < n6 then 1000 else n6))) 2)) < out37 then w64 (Int.tdiv (w64 (3 * (if 1000 < n6 then 1000 else n6))) 2) else out37) else d_impl_Promise_J1 fu out37 else d_impl_Promise_J1 fu out37

def d_impl_Promise_J3 (fu : Nat) (r1 : Request) (kv5 : Int) (n6 : Int)  : Option (Int) :=
  obind (d_impl_SlackGram fu r1 kv5) fun x52 => bif x52 then d_impl_Promise_J2 fu r1 kv5 n6 (if (w64 ((w64 (2 * (if 1000 < n6 then 1000 else n6))) - 1)) < (w64 ((w64 (4 * (if 1000 < n6 then 1000 else n6))) - 1)) then w64 ((w64 (2 * (if 1000 < n6 then 1000 else n6))) - 1) else w64 ((w64 (4 * (if 1000 < n6 then 1000 else n6))) - 1)) else obind (d_impl_SlackVolume fu r1 kv5) fun x57 => bif x57 then d_impl_Promise_J2 fu r1 kv5 n6 (if (w64 ((w64 (2 * (if 1000 < n6 then 1000 else n6))) - 1)) < (w64 ((w64 (4 * (if 1000 < n6 then 1000 else n6))) - 1)) then w64 ((w64 (2 * (if 1000 < n6 then 1000 else n6))) - 1) else w64 ((w64 (4 * (if 1000 < n6 then 1000 else n6))) - 1)) else d_impl_Promise_J2 fu r1 kv5 n6 (w64 ((w64 (4 * (if 1000 < n6 then 1000 else n6))) - 1))

def d_impl_Promise (fu : Nat) (r1 : Request) (kv5 : Int) (n6 : Int) : Option (Int) :=
  bif (decide (n6 < 1)) then some (0) else obind (d_impl_hasGroup fu r1 kv5) fun x63 => bif (!x63) then some (0) else d_impl_Promise_J3 fu r1 kv5 n6

theorem c_impl_Groups (fu : Nat) {w0 : World} (pairs1 : List Pair) (present5 : List Int) {v2 : Value} {F3 : List Nat} (hp4 : rd w0 F3 [v2] pairs1) {v6 : Value} {F7 : List Nat} (hp8 : rd w0 F7 [v6] present5) {r : (List (List Int))}
    (h : d_impl_Groups fu pairs1 present5 = some r) :
    Calls Tryz.prog 149 #[v2, v6] w0 fun e w => ∃ (v0 : Value) (G0 : List Nat), e = .returned (v0) ∧ Ext [] w0 w ∧ ow w G0 [v0] r ∧ (∀ b ∈ G0, w0.heap.size ≤ b) := by
  refine enter (vs := [_, _]) Tryz.func149 rfl Tryz.ntmps149 rfl fun a hK => ?_
  have hM := St.start w0
  unfold d_impl_Groups at h
  refine wp_seq ?_
  refine wp_region_lit ?_
  refine s_box (cs := [v2]) hM hK rfl rfl rfl rfl rfl (rd_c hp4) fun b9 w11 a hK hM hE hb10 => ?_
  refine s1 hK rfl rfl rfl rfl fun a hK => ?_
  refine wpList_nil (nm_then ?_)
  refine wp_seq ?_
  refine wp_region_lit ?_
  refine s_bs (cs := []) (ps := []) te47 hM hK rfl rfl rfl rfl rfl rfl rfl (by decide) rfl (by exact (List.forall_mem_nil _)) fun g12 w13 e15 a hK hM hE hb14 => ?_
  have hf16 := ow_bx0 (α := List Int) hb14
  refine s1 hK rfl rfl rfl rfl fun a hK => ?_
  refine wpList_nil (nm_then ?_)
  refine wp_seq ?_
  refine wp_seq ?_
  refine wp_region_lit ?_
  refine s1 hK rfl rfl rfl rfl fun a hK => ?_
  obtain ⟨x17, hx18, h⟩ := obind_some h
  refine s_call hK Tryz.call187 rfl rfl rfl rfl rfl (c_impl_kinds fu _ (Enc.rd_agr hp8 (hM.a00 (Enc.rd_lt hp8))) hx18) fun e19 w20 hR => ?_
  obtain ⟨v25, F21, rfl, hE, hf22, hfr23⟩ := hR
  refine ⟨_, rfl, fun a hK => ?_⟩
  have hM := hM.new hE F21 (fun b hb => ⟨hfr23 b hb, Enc.rd_lt (Enc.ow_rd hf22) b hb⟩) (Enc.ow_nd hf22)
  refine s_val hK rfl rfl rfl (r_len (α := Int) (Enc.ow_rd hf22) hK Tryz.underlying29 rfl rfl) fun a hK => ?_
  refine s1 hK rfl rfl rfl rfl fun a hK => ?_
  refine wpList_nil (nm_then ?_)
  refine wp_block ?_
  refine c_loop (fun n a w => ∃ (u575 : World) (out577 : List (List Int)) (v578 : Value) (F579 : List Nat) (u580 : World) (x582 : Int), K 42 [(2, .pointer (some (⟨b9, 0, none⟩ : Addr))), (5, v578), (11, v25), (12, .int .i64 ((x17.length : Int))), (13, .int .i64 (x582))] a ∧ St [] w0 w [([b9], u575), (F21, w20), (F579, u580)] ∧ bx u575 b9 [v2] 36 ∧ ow u580 F579 [v578] out577 ∧ d_impl_Groups_L1 fu pairs1 x17 n out577 x582 = some r) ?_ ?_ fu _ _ ?_
  · rintro a w ⟨_, _, _, _, _, _, _, _, _, _, h⟩
    cases (show none = some _ from h)
  · rintro m583 a w574 ⟨u575, out577, v578, F579, u580, x582, hK, hM, hb576, hf581, h⟩
    rw [d_impl_Groups_L1_s] at h
    unfold d_impl_Groups_L1_B at h
    refine wp_seq ?_
    refine wp_region_lit ?_
    refine s1 hK rfl rfl rfl rfl fun a hK => ?_
    refine wpList_nil (nm_then ?_)
    refine wp_seq ?_
    refine c_cond (b := decide (x582 < ((x17.length : Int)))) hK rfl (fun hb584 => ?_) (fun hb584 => ?_)
    · have h := bif_t hb584 h
      refine wp_skip (nm_then ?_)
      refine c_cut (fun a w => ∃ (u716 : World) (out718 : List (List Int)) (v719 : Value) (F720 : List Nat) (u721 : World), K 42 [(2, .pointer (some (⟨b9, 0, none⟩ : Addr))), (5, v719), (11, v25), (12, .int .i64 ((x17.length : Int))), (13, .int .i64 (x582))] a ∧ St [] w0 w [([b9], u716), (F21, w20), (F720, u721)] ∧ bx u716 b9 [v2] 36 ∧ ow u721 F720 [v719] out718 ∧ d_impl_Groups_J1 fu (d_impl_Groups_L1 fu pairs1 x17 m583) x582 out718 = some r) ?_ ?_
      · rintro a w715 ⟨u716, out718, v719, F720, u721, hK, hM, hb717, hf722, h⟩
        unfold d_impl_Groups_J1 at h
        refine wp_region_lit ?_
        iterate 2 (refine s1 hK rfl rfl rfl rfl fun a hK => ?_)
        refine wpList_nil (nm_then ?_)
        exact ⟨u716, out718, v719, F720, u721, w64 (x582 + 1), hK.keep [2, 5, 11, 12, 13] rfl, hM.sel [0, 1, 2] rfl (by decide), hb717, hf722, h⟩
      · refine wp_block ?_
        refine wp_seq ?_
        refine wp_region_lit ?_
        obtain ⟨x723, hx724, h⟩ := obind_some h
        refine s_val hK rfl rfl rfl (r_ixa (Enc.ow_rd hf22) hx724 hK ts29 rfl rfl rfl) fun a hK => ?_
        refine s_val hK rfl rfl rfl (r_lde1 (Enc.ow_rd hf22) (hM.a 1 rfl) hx724 0 t13 hK rfl rfl rfl rfl) fun a hK => ?_
        refine s_alloc (cs := [.int .i64 (0)]) hM hK Tryz.zeroValue3 rfl rfl rfl rfl rfl fun b725 w727 a hK hM hE hb726 => ?_
        refine s_stb (cs' := [.int .i64 (x723)]) Tryz.sizeOf3 hM 0 hb726 0 hK rfl rfl rfl rfl rfl rfl rfl rfl rfl rfl rfl fun w728 a hK hE hM hb729 => ?_
        refine wpList_nil (nm_then ?_)
        refine wp_seq ?_
        refine wp_seq ?_
        refine wp_region_lit ?_
        refine s_val hK rfl rfl rfl (r_ldb t13 hM 0 hb729 0 hK rfl rfl rfl rfl rfl) fun a hK => ?_
        obtain ⟨x730, hx731, h⟩ := obind_some h
        refine s_call hK Tryz.call99 rfl rfl rfl rfl rfl (c_impl_in fu _ _ _  hx731) fun e732 w733 hR => ?_
        obtain ⟨rfl, hE⟩ := hR
        refine ⟨_, rfl, fun a hK => ?_⟩
        have hM := hM.step hE
        refine s1 hK rfl rfl rfl rfl fun a hK => ?_
        refine wpList_nil (nm_then ?_)
        refine c_cond (b := !x730) hK rfl (fun hb734 => ?_) (fun hb734 => ?_)
        · have h := bif_t hb734 h
          refine wp_exit (ex_then (ex_same (nm_then ?_)))
          exact ⟨u575, out577, v578, F579, u580, hK.keep [2, 5, 11, 12, 13] rfl, hM.sel [1, 2, 3] rfl (by decide), hb576, hf581, h⟩
        · have h := bif_f hb734 h
          refine wp_skip (nm_then ?_)
          refine wp_seq ?_
          refine wp_region_lit ?_
          iterate 2 (refine s1 hK rfl rfl rfl rfl fun a hK => ?_)
          obtain ⟨x738, hx739, h⟩ := obind_some h
          refine s_call hK Tryz.call155 rfl rfl rfl rfl rfl (c_slices_IndexFunc_ints_int fu _ _ (Enc.rd_agr (Enc.ow_rd hf581) (hM.a 3 rfl)) ⟨188, [.pointer (some (⟨b9, 0, none⟩ : Addr)), .pointer (some (⟨b725, 0, none⟩ : Addr))], rfl, Tryz.call188, fun w y735 v736 r hE hv737 hx => by obtain ⟨_, hv737⟩ := hv737; have hM := hM.step hE; exact c_impl_Groups_1 fu _ _ _ hv737 (hb576.agr (hM.a 1 rfl) (by simp)) (Enc.rd_agr hp4 (hM.a00 (Enc.rd_lt hp4))) (hb729.agr (hM.a 0 rfl) (by simp)) hx⟩ hx739) fun e740 w741 hR => ?_
          obtain ⟨rfl, hE⟩ := hR
          refine ⟨_, rfl, fun a hK => ?_⟩
          have hM := hM.step hE
          refine s1 hK rfl rfl rfl rfl fun a hK => ?_
          refine wpList_nil (nm_then ?_)
          refine wp_seq ?_
          refine wp_region_lit ?_
          iterate 2 (refine s1 hK rfl rfl rfl rfl fun a hK => ?_)
          refine wpList_nil (nm_then ?_)
          refine c_cond (b := decide (x738 < 0)) hK rfl (fun hb742 => ?_) (fun hb742 => ?_)
          · have h := bif_t hb742 h
            refine wp_region_lit ?_
            refine s1 hK rfl rfl rfl rfl fun a hK => ?_
            refine s_val hK rfl rfl rfl (r_ldb t13 hM 0 hb729 0 hK rfl rfl rfl rfl rfl) fun a hK => ?_
            refine s_bs (cs := [.int .i64 (x723)]) (ps := [(0, .tmp 26)]) te29 hM hK rfl rfl rfl rfl rfl rfl rfl (by decide) rfl (by exact (List.forall_mem_cons.2 ⟨rfl, (List.forall_mem_nil _)⟩)) fun g743 w744 e746 a hK hM hE hb745 => ?_
            have hf747 := ow_bx hb745 ([x723] : List Int) rfl rfl rfl
            refine s_bs (cs := [(.slice (some ⟨g743, 0, none⟩) 1 1)]) (ps := [(0, .tmp 27)]) te47 hM hK rfl rfl rfl rfl rfl rfl rfl (by decide) rfl (by exact (List.forall_mem_cons.2 ⟨congrArg Array.size (rd_c (Enc.ow_rd hf747)), (List.forall_mem_nil _)⟩)) fun g748 w749 e751 a hK hM hE hb750 => ?_
            obtain ⟨x752, hx753, h⟩ := obind_some h
            have hy758 := Enc.ow_agr hf747 (hM.a 1 rfl)
            have hn759 := News.box hb750 (hM.a 0 rfl) (by simp) (m := 1)
            have hA760 := hM.a 5 rfl
            have hM := hM.sel [5, 1, 0, 2, 3, 4] rfl (by decide)
            have hM := hM.join2
            refine s_appO (F := F579) (G := [g743]) hx753 te47 rfl hM hf581 hA760 hn759 hy758 (Agr.refl _ _) hK rfl rfl rfl rfl rfl rfl fun v754 F755 w756 a hK hE hM hf757 => ?_
            refine s1 hK rfl rfl rfl rfl fun a hK => ?_
            refine wpList_nil (nm_block (nm_then ?_))
            exact ⟨u575, x752, v754, F755, w756, hK.keep [2, 5, 11, 12, 13] rfl, hM.sel [3, 4, 0] rfl (by decide), hb576, hf757, h⟩
          · have h := bif_f hb742 h
            refine d_go (F579) mixo hM rfl fun w761 hMd => ?_
            have hM := hMd
            have hS := Ext.refl ((F579) : List Nat) w761
            refine d_pure hK 0 rfl (by kernel_rfl) (by kernel_rfl) (by kernel_rfl) rfl rfl rfl hS (fun _ _ _ h => h) rfl fun a hK => ?_
            refine d_pure hK 1 rfl (by kernel_rfl) (by kernel_rfl) (by kernel_rfl) rfl rfl rfl hS (fun _ _ _ h => h) rfl fun a hK => ?_
            refine d_pure hK 2 rfl (by kernel_rfl) (by kernel_rfl) (by kernel_rfl) rfl rfl rfl hS (fun _ _ _ h => h) rfl fun a hK => ?_
            refine d_pure hK 3 rfl (by kernel_rfl) (by kernel_rfl) (by kernel_rfl) rfl rfl rfl hS (fun _ _ _ h => h) rfl fun a hK => ?_
            obtain ⟨x762, hx763, h⟩ := obind_some h
            refine d_take hK 4 rfl (by kernel_rfl) (by kernel_rfl) (by kernel_rfl) rfl rfl rfl hS (fun _ _ _ h => h) (fun w hS => r_ixa (Enc.ow_rd hf581) hx763 hK ts47 rfl rfl rfl) fun a hK => ?_
            obtain ⟨G764, cs765, hG766, hr767, hp768, hb769⟩ := rd_get (Enc.ow_rd hf581) (ix_some hx763).2.2
            obtain ⟨v770, rfl⟩ : ∃ v, cs765 = [v] := by obtain ⟨_, _, hq, _⟩ := hr767; exact ⟨_, hq⟩
            refine d_take hK 6 rfl (by kernel_rfl) (by kernel_rfl) (by kernel_rfl) rfl rfl rfl hS (fun _ _ _ h => h) (fun w hS => r_ld1 t13 (r := []) (hb729.at (hMd.az 0 3 rfl rfl rfl hS) 0 1 rfl rfl rfl) hK rfl rfl) fun a hK => ?_
            obtain ⟨G771, cs772, hG773, hr774, hp775, hb776⟩ := rd_get (Enc.ow_rd hf581) (ix_some hx763).2.2
            obtain ⟨v777, rfl⟩ : ∃ v, cs772 = [v] := by obtain ⟨_, _, hq, _⟩ := hr774; exact ⟨_, hq⟩
            refine d_two 5 7 (by kernel_rfl) rfl rfl ?_ ?_ 
            · obtain ⟨G778, cs779, hG780, hr781, hp782, hb783⟩ := rd_get (Enc.ow_rd hf581) (ix_some hx763).2.2
              obtain ⟨v784, rfl⟩ : ∃ v, cs779 = [v] := by obtain ⟨_, _, hq, _⟩ := hr781; exact ⟨_, hq⟩
              refine s_val hK rfl rfl rfl (r_ld1 t129 (hp782.agr (hM.a 3 rfl) hb783) hK rfl rfl) fun a hK => ?_
              refine wpList_nil ⟨hS, ?_⟩
              refine d_one 7 (by kernel_rfl) rfl ?_
              refine s_bsN (cs := [.int .i64 (x723)]) (ps := [(0, .tmp 36)]) te29 hM hK rfl rfl rfl rfl rfl rfl rfl (by decide) rfl (by exact (List.forall_mem_cons.2 ⟨rfl, (List.forall_mem_nil _)⟩)) fun g785 w786 e788 a hK hM hE hb787 hgn789 => ?_
              have hlo791 := lo1 (Nat.le_trans hS.size hgn789)
              have hf790 := ow_bx hb787 ([x723] : List Int) rfl rfl rfl
              have hS := hS.trans hE (by simp)
              refine wpList_nil ⟨hS, ?_⟩
              refine d_one 8 (by kernel_rfl) rfl ?_
              obtain ⟨A798, B799, hM, hH800, hO801, hsA802, hsB803⟩ := hM.opnS 4 rfl hf581 hx763 hp782 rfl (M' := [([g785], w786), ([b725], w728), ([b9], u575), (F21, w20)]) rfl
              obtain ⟨x792, hx793, h⟩ := obind_some h
              refine s_appFN hx793 te29 rfl hM 1 hO801 (News.rd (Enc.rd_agr (Enc.ow_rd hf790) (hM.a 2 rfl))) rfl rfl hK rfl rfl rfl rfl rfl rfl rfl fun v794 F795 w796 a hK hE hM hf797 hap804 => ?_
              have hlo805 : ∀ y ∈ F795, y ∈ (F579) ∨ _ ≤ y := fun y hy => (hap804 y hy).elim (fun hy => (fun y hy => (fun y hy => Or.inl hy) y (hsB803 y hy)) y hy) (fun h => Or.inr (Nat.le_trans hS.size h))
              have hS := hS.trans hE (fun y hy => (fun y hy => Or.inl hy) y (hsB803 y hy))
              refine wpList_nil ⟨hS, ?_⟩
              obtain ⟨x806, hx807, h⟩ := obind_some h
              refine d_take hK 9 rfl (by kernel_rfl) (by kernel_rfl) (by kernel_rfl) rfl rfl rfl hS (fun _ _ _ h => h) (fun w hS => r_ixa (Enc.ow_rd hf581) hx763 hK ts47 rfl rfl rfl) fun a hK => ?_
              refine d_one 10 (by kernel_rfl) rfl ?_
              refine s_stH1 (α := List Int) (sz := 1) (cs' := [v794]) Tryz.sizeOf29 hM 0 hH800 0 hK (rd_c (Enc.ow_rd hf797)) (rd_o (Enc.ow_rd hf797)) rfl rfl rfl rfl rfl rfl rfl rfl rfl rfl fun w808 a hK hE hM hH809 => ?_
              obtain ⟨F810, hM, hf811⟩ := (hM.sel [0, 1, 2, 3, 4, 5] rfl (by decide)).cls hH809 hf797
              have hS := hS.trans hE (fun y hy => (fun y hy => Or.inl hy) y (hsA802 y hy))
              refine wpList_nil ⟨hS, ?_⟩
              refine d_done (by kernel_rfl) ?_
              have hK := hK.keep [2, 11, 12, 5, 13] rfl
              refine (nm_block (nm_then ?_))
              exact ⟨u575, setx out577 x738 x792, v578, F810, w808, hK.keep [2, 5, 11, 12, 13] rfl, hM.sel [3, 4, 0] rfl (by decide), hb576, hf811, h⟩
            · refine s_bsN (cs := [.int .i64 (x723)]) (ps := [(0, .tmp 36)]) te29 hM hK rfl rfl rfl rfl rfl rfl rfl (by decide) rfl (by exact (List.forall_mem_cons.2 ⟨rfl, (List.forall_mem_nil _)⟩)) fun g812 w813 e815 a hK hM hE hb814 hgn816 => ?_
              have hlo818 := lo1 (Nat.le_trans hS.size hgn816)
              have hf817 := ow_bx hb814 ([x723] : List Int) rfl rfl rfl
              have hS := hS.trans hE (by simp)
              refine wpList_nil ⟨hS, ?_⟩
              obtain ⟨G819, cs820, hG821, hr822, hp823, hb824⟩ := rd_get (Enc.ow_rd hf581) (ix_some hx763).2.2
              obtain ⟨v825, rfl⟩ : ∃ v, cs820 = [v] := by obtain ⟨_, _, hq, _⟩ := hr822; exact ⟨_, hq⟩
              refine d_one 5 (by kernel_rfl) rfl ?_
              obtain ⟨G826, cs827, hG828, hr829, hp830, hb831⟩ := rd_get (Enc.ow_rd hf581) (ix_some hx763).2.2
              obtain ⟨v832, rfl⟩ : ∃ v, cs827 = [v] := by obtain ⟨_, _, hq, _⟩ := hr829; exact ⟨_, hq⟩
              refine s_val hK rfl rfl rfl (r_ld1 t129 (hp830.agr (hM.a 4 rfl) hb831) hK rfl rfl) fun a hK => ?_
              refine wpList_nil ⟨hS, ?_⟩
              refine d_one 8 (by kernel_rfl) rfl ?_
              obtain ⟨A839, B840, hM, hH841, hO842, hsA843, hsB844⟩ := hM.opnS 4 rfl hf581 hx763 hp830 rfl (M' := [([g812], w813), ([b725], w728), ([b9], u575), (F21, w20)]) rfl
              obtain ⟨x833, hx834, h⟩ := obind_some h
              refine s_appFN hx834 te29 rfl hM 1 hO842 (News.rd (Enc.rd_agr (Enc.ow_rd hf817) (hM.a 2 rfl))) rfl rfl hK rfl rfl rfl rfl rfl rfl rfl fun v835 F836 w837 a hK hE hM hf838 hap845 => ?_
              have hlo846 : ∀ y ∈ F836, y ∈ (F579) ∨ _ ≤ y := fun y hy => (hap845 y hy).elim (fun hy => (fun y hy => (fun y hy => Or.inl hy) y (hsB844 y hy)) y hy) (fun h => Or.inr (Nat.le_trans hS.size h))
              have hS := hS.trans hE (fun y hy => (fun y hy => Or.inl hy) y (hsB844 y hy))
              refine wpList_nil ⟨hS, ?_⟩
              obtain ⟨x847, hx848, h⟩ := obind_some h
              refine d_take hK 9 rfl (by kernel_rfl) (by kernel_rfl) (by kernel_rfl) rfl rfl rfl hS (fun _ _ _ h => h) (fun w hS => r_ixa (Enc.ow_rd hf581) hx763 hK ts47 rfl rfl rfl) fun a hK => ?_
              refine d_one 10 (by kernel_rfl) rfl ?_
              refine s_stH1 (α := List Int) (sz := 1) (cs' := [v835]) Tryz.sizeOf29 hM 0 hH841 0 hK (rd_c (Enc.ow_rd hf838)) (rd_o (Enc.ow_rd hf838)) rfl rfl rfl rfl rfl rfl rfl rfl rfl rfl fun w849 a hK hE hM hH850 => ?_
              obtain ⟨F851, hM, hf852⟩ := (hM.sel [0, 1, 2, 3, 4, 5] rfl (by decide)).cls hH850 hf838
              have hS := hS.trans hE (fun y hy => (fun y hy => Or.inl hy) y (hsA843 y hy))
              refine wpList_nil ⟨hS, ?_⟩
              refine d_done (by kernel_rfl) ?_
              have hK := hK.keep [2, 11, 12, 5, 13] rfl
              refine (nm_block (nm_then ?_))
              exact ⟨u575, setx out577 x738 x833, v578, F851, w849, hK.keep [2, 5, 11, 12, 13] rfl, hM.sel [3, 4, 0] rfl (by decide), hb576, hf852, h⟩
    · have h := bif_f hb584 h
      refine wp_exit (ex_then (ex_then (ex_same (nm_then ?_))))
      refine wp_seq ?_
      refine wp_region_lit ?_
      iterate 2 (refine s1 hK rfl rfl rfl rfl fun a hK => ?_)
      refine wpList_nil (nm_then ?_)
      refine wp_ret ?_
      have h := Option.some.inj h
      subst h
      exact finR1 hK rfl (RV.tmp hK rfl) ⟨_, F579, rfl, hM.ext, (Enc.ow_agr hf581 (hM.a 2 rfl)), (hM.fresh 2 rfl)⟩
  · exact ⟨w11, ([] : List (List Int)), (.slice (some ⟨g12, 0, none⟩) 0 0), [g12], w13, 0, hK.keep [2, 5, 11, 12, 13] rfl, hM.sel [2, 0, 1] rfl (by decide), hb10, hf16, h⟩

theorem c_impl_GroupsOf (fu : Nat) {w0 : World} (r1 : Request) {cs2 : List Value} {F3 : List Nat} (hp4 : rd w0 F3 cs2 r1) {r : (List (List Int))}
    (h : d_impl_GroupsOf fu r1 = some r) :
    Calls Tryz.prog 98 #[.agg cs2.toArray] w0 fun e w => ∃ (v0 : Value) (G0 : List Nat), e = .returned (v0) ∧ Ext [] w0 w ∧ ow w G0 [v0] r ∧ (∀ b ∈ G0, w0.heap.size ≤ b) := by
  refine enter (vs := [_]) Tryz.func98 rfl Tryz.ntmps98 rfl fun a hK => ?_
  have hM := St.start w0
  obtain ⟨v5, F6, v7, F8, v9, F10, rfl, rfl, hf11, hf12, hf13⟩ := hp4
  unfold d_impl_GroupsOf at h
  refine wp_seq ?_
  refine wp_region_lit ?_
  refine s_box (cs := [.int .i64 (r1.fWay), .int .i64 (r1.fPallet.fW), .int .i64 (r1.fPallet.fD), .int .i64 (r1.fPallet.fH), .int .i64 (r1.fPallet.fGram), .int .i64 (r1.fClasses), v5, v7, .int .i64 (r1.fMaster), v9]) hM hK rfl rfl rfl rfl rfl rfl fun b14 w16 a hK hM hE hb15 => ?_
  refine s1 hK rfl rfl rfl rfl fun a hK => ?_
  refine wpList_nil (nm_then ?_)
  refine wp_seq ?_
  refine wp_seq ?_
  refine wp_region_lit ?_
  refine s_val hK rfl rfl rfl (r_ldB ta40 hM 0 hb15 0 hK rfl rfl rfl rfl rfl rfl) fun a hK => ?_
  obtain ⟨x17, hx18, h⟩ := obind_some h
  refine s_call hK Tryz.call76 rfl rfl rfl rfl rfl (c_impl_sound fu _ (show rd _ _ [.int .i64 (r1.fWay), .int .i64 (r1.fPallet.fW), .int .i64 (r1.fPallet.fD), .int .i64 (r1.fPallet.fH), .int .i64 (r1.fPallet.fGram), .int .i64 (r1.fClasses), v5, v7, .int .i64 (r1.fMaster), v9] (r1 : Request) from ⟨_, _, _, _, _, _, rfl, rfl, (Enc.rd_agr hf11 (hM.a00 (Enc.rd_lt hf11))), (Enc.rd_agr hf12 (hM.a00 (Enc.rd_lt hf12))), (Enc.rd_agr hf13 (hM.a00 (Enc.rd_lt hf13)))⟩) hx18) fun e19 w20 hR => ?_
  obtain ⟨rfl, hE⟩ := hR
  refine ⟨_, rfl, fun a hK => ?_⟩
  have hM := hM.step hE
  refine s1 hK rfl rfl rfl rfl fun a hK => ?_
  refine wpList_nil (nm_then ?_)
  refine c_cond (b := !x17) hK rfl (fun hb21 => ?_) (fun hb21 => ?_)
  · have h := bif_t hb21 h
    refine wp_seq ?_
    refine wp_region_lit ?_
    refine s1 hK rfl rfl rfl rfl fun a hK => ?_
    refine wpList_nil (nm_then ?_)
    refine wp_ret (rt_then ?_)
    have h := Option.some.inj h
    subst h
    exact finR1 hK rfl (RV.tmp hK rfl) ⟨_, [], rfl, hM.ext, (ow_nil _), (by simp)⟩
  · have h := bif_f hb21 h
    refine wp_skip (nm_then ?_)
    refine wp_seq ?_
    refine d_go [] mixo hM rfl fun w22 hMd => ?_
    have hM := hMd
    have hS := Ext.refl ([] : List Nat) w22
    refine d_take hK 0 rfl (by kernel_rfl) (by kernel_rfl) (by kernel_rfl) rfl rfl rfl hS (fun _ _ _ h => h) (fun w hS => r_fa fa40_3 hK rfl rfl) fun a hK => ?_
    refine d_take hK 1 rfl (by kernel_rfl) (by kernel_rfl) (by kernel_rfl) rfl rfl rfl hS (fun _ _ _ h => h) (fun w hS => r_ld1 t136 (r := []) (hb15.at ((hMd.step hS).a 0 rfl) 6 1 rfl rfl rfl) hK rfl rfl) fun a hK => ?_
    refine d_take hK 2 rfl (by kernel_rfl) (by kernel_rfl) (by kernel_rfl) rfl rfl rfl hS (fun _ _ _ h => h) (fun w hS => r_ldA ta40 (hb15.at ((hMd.step hS).a 0 rfl) 0 10 rfl rfl rfl) rfl hK rfl rfl) fun a hK => ?_
    refine d_one 3 (by kernel_rfl) rfl ?_
    obtain ⟨x23, hx24, h⟩ := obind_some h
    refine s_call hK Tryz.call150 rfl rfl rfl rfl rfl (c_impl_Present fu _ (show rd _ _ [.int .i64 (r1.fWay), .int .i64 (r1.fPallet.fW), .int .i64 (r1.fPallet.fD), .int .i64 (r1.fPallet.fH), .int .i64 (r1.fPallet.fGram), .int .i64 (r1.fClasses), v5, v7, .int .i64 (r1.fMaster), v9] (r1 : Request) from ⟨_, _, _, _, _, _, rfl, rfl, (Enc.rd_agr hf11 (hM.a00 (Enc.rd_lt hf11))), (Enc.rd_agr hf12 (hM.a00 (Enc.rd_lt hf12))), (Enc.rd_agr hf13 (hM.a00 (Enc.rd_lt hf13)))⟩) hx24) fun e25 w26 hR => ?_
    obtain ⟨v31, F27, rfl, hE, hf28, hfr29⟩ := hR
    refine ⟨_, rfl, fun a hK => ?_⟩
    have hM := hM.new hE F27 (fun b hb => ⟨hfr29 b hb, Enc.rd_lt (Enc.ow_rd hf28) b hb⟩) (Enc.ow_nd hf28)
    have hlo32 := fun (y : Nat) (hy : y ∈ F27) => Nat.le_trans hS.size (hfr29 y hy)
    have hS := hS.trans hE (by simp)
    refine wpList_nil ⟨hS, ?_⟩
    refine d_one 4 (by kernel_rfl) rfl ?_
    obtain ⟨x33, hx34, h⟩ := obind_some h
    refine s_call hK Tryz.call149 rfl rfl rfl rfl rfl (c_impl_Groups fu _ _ (Enc.rd_agr hf11 (hM.a00 (Enc.rd_lt hf11))) (Enc.rd_agr (Enc.ow_rd hf28) (hM.a 0 rfl)) hx34) fun e35 w36 hR => ?_
    obtain ⟨v41, F37, rfl, hE, hf38, hfr39⟩ := hR
    refine ⟨_, rfl, fun a hK => ?_⟩
    have hM := hM.new hE F37 (fun b hb => ⟨hfr39 b hb, Enc.rd_lt (Enc.ow_rd hf38) b hb⟩) (Enc.ow_nd hf38)
    have hlo42 := fun (y : Nat) (hy : y ∈ F37) => Nat.le_trans hS.size (hfr39 y hy)
    have hS := hS.trans hE (by simp)
    refine wpList_nil ⟨hS, ?_⟩
    refine d_pure hK 5 rfl (by kernel_rfl) (by kernel_rfl) (by kernel_rfl) rfl rfl rfl hS (fun _ _ _ h => h) rfl fun a hK => ?_
    refine d_done (by kernel_rfl) ?_
    refine (nm_then ?_)
    refine wp_ret ?_
    have h := Option.some.inj h
    subst h
    exact finR1 hK rfl (RV.tmp hK rfl) ⟨_, F37, rfl, hM.ext, (Enc.ow_agr hf38 (hM.a 0 rfl)), (hM.fresh 0 rfl)⟩

theorem c_impl_hasGroup (fu : Nat) {w0 : World} (r1 : Request) (kv5 : Int) {cs2 : List Value} {F3 : List Nat} (hp4 : rd w0 F3 cs2 r1) {r : Bool}
    (h : d_impl_hasGroup fu r1 kv5 = some r) :
    Calls Tryz.prog 93 #[.agg cs2.toArray, .int .i64 (kv5)] w0 fun e w => e = .returned (.bool (r)) ∧ Ext [] w0 w := by
  refine enter (vs := [_, _]) Tryz.func93 rfl Tryz.ntmps93 rfl fun a hK => ?_
  have hM := St.start w0
  obtain ⟨v6, F7, v8, F9, v10, F11, rfl, rfl, hf12, hf13, hf14⟩ := hp4
  unfold d_impl_hasGroup at h
  refine wp_seq ?_
  refine wp_region_lit ?_
  refine s_box (cs := [.int .i64 (r1.fWay), .int .i64 (r1.fPallet.fW), .int .i64 (r1.fPallet.fD), .int .i64 (r1.fPallet.fH), .int .i64 (r1.fPallet.fGram), .int .i64 (r1.fClasses), v6, v8, .int .i64 (r1.fMaster), v10]) hM hK rfl rfl rfl rfl rfl rfl fun b15 w17 a hK hM hE hb16 => ?_
  refine s1 hK rfl rfl rfl rfl fun a hK => ?_
  refine wpList_nil (nm_then ?_)
  refine wp_seq ?_
  refine wp_region_lit ?_
  refine s1 hK rfl rfl rfl rfl fun a hK => ?_
  refine s_val hK rfl rfl rfl (r_ldB ta40 hM 0 hb16 0 hK rfl rfl rfl rfl rfl rfl) fun a hK => ?_
  obtain ⟨x18, hx19, h⟩ := obind_some h
  refine s_call hK Tryz.call98 rfl rfl rfl rfl rfl (c_impl_GroupsOf fu _ (show rd _ _ [.int .i64 (r1.fWay), .int .i64 (r1.fPallet.fW), .int .i64 (r1.fPallet.fD), .int .i64 (r1.fPallet.fH), .int .i64 (r1.fPallet.fGram), .int .i64 (r1.fClasses), v6, v8, .int .i64 (r1.fMaster), v10] (r1 : Request) from ⟨_, _, _, _, _, _, rfl, rfl, (Enc.rd_agr hf12 (hM.a00 (Enc.rd_lt hf12))), (Enc.rd_agr hf13 (hM.a00 (Enc.rd_lt hf13))), (Enc.rd_agr hf14 (hM.a00 (Enc.rd_lt hf14)))⟩) hx19) fun e20 w21 hR => ?_
  obtain ⟨v26, F22, rfl, hE, hf23, hfr24⟩ := hR
  refine ⟨_, rfl, fun a hK => ?_⟩
  have hM := hM.new hE F22 (fun b hb => ⟨hfr24 b hb, Enc.rd_lt (Enc.ow_rd hf23) b hb⟩) (Enc.ow_nd hf23)
  refine s_val hK rfl rfl rfl (r_len (α := List Int) (Enc.ow_rd hf23) hK Tryz.underlying47 rfl rfl) fun a hK => ?_
  refine s1 hK rfl rfl rfl rfl fun a hK => ?_
  obtain ⟨x27, hx28, h⟩ := obind_some h
  refine s_call hK Tryz.call99 rfl rfl rfl rfl rfl (c_impl_in fu _ _ _  hx28) fun e29 w30 hR => ?_
  obtain ⟨rfl, hE⟩ := hR
  refine ⟨_, rfl, fun a hK => ?_⟩
  have hM := hM.step hE
  refine s1 hK rfl rfl rfl rfl fun a hK => ?_
  refine wpList_nil (nm_then ?_)
  refine wp_ret ?_
  have h := Option.some.inj h
  subst h
  exact finR1 hK rfl (RV.tmp hK rfl) ⟨rfl, hM.ext⟩

theorem c_impl_Volume (fu : Nat) {w0 : World} (wv1 : Int) (h2 : Int) (d3 : Int)  {r : Int}
    (h : d_impl_Volume fu wv1 h2 d3 = some r) :
    Calls Tryz.prog 78 #[.int .i64 (wv1), .int .i64 (h2), .int .i64 (d3)] w0 fun e w => e = .returned (.int .i64 (r)) ∧ Ext [] w0 w := by
  refine enter (vs := [_, _, _]) Tryz.func78 rfl Tryz.ntmps78 rfl fun a hK => ?_
  have hM := St.start w0
  unfold d_impl_Volume at h
  refine wp_seq ?_
  refine wp_region_lit ?_
  refine s1 hK rfl rfl rfl rfl fun a hK => ?_
  refine wpList_nil (nm_then ?_)
  refine c_cut (fun a w => K 25 [(0, .int .i64 (wv1)), (1, .int .i64 (h2)), (2, .int .i64 (d3))] a ∧ St [] w0 w [] ∧ d_impl_Volume_J1 fu wv1 h2 d3 = some r) ?_ ?_
  · rintro a w19 ⟨hK, hM, h⟩
    unfold d_impl_Volume_J1 at h
    refine wp_seq ?_
    refine wp_region_lit ?_
    iterate 6 (refine s1 hK rfl rfl rfl rfl fun a hK => ?_)
    refine wpList_nil (nm_then ?_)
    refine wp_ret ?_
    have h := Option.some.inj h
    subst h
    exact finR1 hK rfl (RV.tmp hK rfl) ⟨rfl, hM.ext⟩
  · refine wp_seq ?_
    refine wp_region_lit ?_
    refine s1 hK rfl rfl rfl rfl fun a hK => ?_
    obtain ⟨x20, hx21, h⟩ := obind_some h
    refine s_call hK Tryz.call99 rfl rfl rfl rfl rfl (c_impl_in fu _ _ _  hx21) fun e22 w23 hR => ?_
    obtain ⟨rfl, hE⟩ := hR
    refine ⟨_, rfl, fun a hK => ?_⟩
    have hM := hM.step hE
    iterate 2 (refine s1 hK rfl rfl rfl rfl fun a hK => ?_)
    refine bsplit (!x20) (fun hb24 => ?_) (fun hb24 => ?_)
    · have h := bif_t hb24 h
      have hK := hK.re (d := 10) rfl (congrArg Value.bool hb24)
      refine sk hK rfl rfl rfl fun a hK => ?_
      refine sk hK rfl rfl rfl fun a hK => ?_
      refine sk hK rfl rfl rfl fun a hK => ?_
      iterate 2 (refine s1 hK rfl rfl rfl rfl fun a hK => ?_)
      refine sk hK rfl rfl rfl fun a hK => ?_
      refine sk hK rfl rfl rfl fun a hK => ?_
      refine sk hK rfl rfl rfl fun a hK => ?_
      refine s1 hK rfl rfl rfl rfl fun a hK => ?_
      refine wpList_nil (nm_then ?_)
      refine wp_cond_true (hK.ev rfl) ?_
      refine wp_seq ?_
      refine wp_region_lit ?_
      refine s1 hK rfl rfl rfl rfl fun a hK => ?_
      refine wpList_nil (nm_then ?_)
      refine wp_ret (rt_then ?_)
      have h := Option.some.inj h
      subst h
      exact finR1 hK rfl (RV.tmp hK rfl) ⟨rfl, hM.ext⟩
    · have h := bif_f hb24 h
      have hK := hK.re (d := 10) rfl (congrArg Value.bool hb24)
      refine s1 hK rfl rfl rfl rfl fun a hK => ?_
      obtain ⟨x25, hx26, h⟩ := obind_some h
      refine s_call hK Tryz.call99 rfl rfl rfl rfl rfl (c_impl_in fu _ _ _  hx26) fun e27 w28 hR => ?_
      obtain ⟨rfl, hE⟩ := hR
      refine ⟨_, rfl, fun a hK => ?_⟩
      have hM := hM.step hE
      iterate 3 (refine s1 hK rfl rfl rfl rfl fun a hK => ?_)
      refine bsplit (!x25) (fun hb29 => ?_) (fun hb29 => ?_)
      · have h := bif_t hb29 h
        have hK := hK.re (d := 15) rfl (congrArg Value.bool hb29)
        refine sk hK rfl rfl rfl fun a hK => ?_
        refine sk hK rfl rfl rfl fun a hK => ?_
        refine sk hK rfl rfl rfl fun a hK => ?_
        refine s1 hK rfl rfl rfl rfl fun a hK => ?_
        refine wpList_nil (nm_then ?_)
        refine wp_cond_true (hK.ev rfl) ?_
        refine wp_seq ?_
        refine wp_region_lit ?_
        refine s1 hK rfl rfl rfl rfl fun a hK => ?_
        refine wpList_nil (nm_then ?_)
        refine wp_ret (rt_then ?_)
        have h := Option.some.inj h
        subst h
        exact finR1 hK rfl (RV.tmp hK rfl) ⟨rfl, hM.ext⟩
      · have h := bif_f hb29 h
        have hK := hK.re (d := 15) rfl (congrArg Value.bool hb29)
        refine s1 hK rfl rfl rfl rfl fun a hK => ?_
        obtain ⟨x30, hx31, h⟩ := obind_some h
        refine s_call hK Tryz.call99 rfl rfl rfl rfl rfl (c_impl_in fu _ _ _  hx31) fun e32 w33 hR => ?_
        obtain ⟨rfl, hE⟩ := hR
        refine ⟨_, rfl, fun a hK => ?_⟩
        have hM := hM.step hE
        iterate 2 (refine s1 hK rfl rfl rfl rfl fun a hK => ?_)
        refine wpList_nil (nm_then ?_)
        refine c_cond (b := !x30) hK rfl (fun hb34 => ?_) (fun hb34 => ?_)
        · have h := bif_t hb34 h
          refine wp_seq ?_
          refine wp_region_lit ?_
          refine s1 hK rfl rfl rfl rfl fun a hK => ?_
          refine wpList_nil (nm_then ?_)
          refine wp_ret (rt_then ?_)
          have h := Option.some.inj h
          subst h
          exact finR1 hK rfl (RV.tmp hK rfl) ⟨rfl, hM.ext⟩
        · have h := bif_f hb34 h
          refine wp_skip (nm_then ?_)
          exact ⟨hK.keep [0, 1, 2] rfl, hM.sel [] rfl (by decide), h⟩

theorem c_impl_masterRoom (fu : Nat) {w0 : World} (r1 : Request) {cs2 : List Value} {F3 : List Nat} (hp4 : rd w0 F3 cs2 r1) {r : Int × Int}
    (h : d_impl_masterRoom fu r1 = some r) :
    Calls Tryz.prog 92 #[.agg cs2.toArray] w0 fun e w => e = .returned (.tuple #[.int .i64 (r.1), .int .i64 (r.2)]) ∧ Ext [] w0 w := by
  refine enter (vs := [_]) Tryz.func92 rfl Tryz.ntmps92 rfl fun a hK => ?_
  have hM := St.start w0
  obtain ⟨v5, F6, v7, F8, v9, F10, rfl, rfl, hf11, hf12, hf13⟩ := hp4
  unfold d_impl_masterRoom at h
  refine wp_seq ?_
  refine wp_region_lit ?_
  refine s_box (cs := [.int .i64 (r1.fWay), .int .i64 (r1.fPallet.fW), .int .i64 (r1.fPallet.fD), .int .i64 (r1.fPallet.fH), .int .i64 (r1.fPallet.fGram), .int .i64 (r1.fClasses), v5, v7, .int .i64 (r1.fMaster), v9]) hM hK rfl rfl rfl rfl rfl rfl fun b14 w16 a hK hM hE hb15 => ?_
  iterate 2 (refine s1 hK rfl rfl rfl rfl fun a hK => ?_)
  refine wpList_nil (nm_then ?_)
  refine wp_seq ?_
  refine wp_region_lit ?_
  refine s_val hK rfl rfl rfl (r_ldB ta40 hM 0 hb15 0 hK rfl rfl rfl rfl rfl rfl) fun a hK => ?_
  obtain ⟨x17, hx18, h⟩ := obind_some h
  refine s_call hK Tryz.call148 rfl rfl rfl rfl rfl (c_impl_MasterOf fu _ (show rd _ _ [.int .i64 (r1.fWay), .int .i64 (r1.fPallet.fW), .int .i64 (r1.fPallet.fD), .int .i64 (r1.fPallet.fH), .int .i64 (r1.fPallet.fGram), .int .i64 (r1.fClasses), v5, v7, .int .i64 (r1.fMaster), v9] (r1 : Request) from ⟨_, _, _, _, _, _, rfl, rfl, (Enc.rd_agr hf11 (hM.a00 (Enc.rd_lt hf11))), (Enc.rd_agr hf12 (hM.a00 (Enc.rd_lt hf12))), (Enc.rd_agr hf13 (hM.a00 (Enc.rd_lt hf13)))⟩) hx18) fun e19 w20 hR => ?_
  obtain ⟨rfl, hE⟩ := hR
  refine ⟨_, rfl, fun a hK => ?_⟩
  have hM := hM.step hE
  iterate 3 (refine s1 hK rfl rfl rfl rfl fun a hK => ?_)
  refine s_alloc (cs := [.int .i64 (0), .int .i64 (0), .int .i64 (0), .int .i64 (0), .int .i64 (0), .int .i64 (0), .int .i64 (0)]) hM hK Tryz.zeroValue92 rfl rfl rfl rfl rfl fun b21 w23 a hK hM hE hb22 => ?_
  refine s_stb (cs' := [.int .i64 (x17.1.fId), .int .i64 (x17.1.fW), .int .i64 (x17.1.fH), .int .i64 (x17.1.fD), .int .i64 (x17.1.fTare), .int .i64 (x17.1.fGram), .int .i64 (x17.1.fCost)]) Tryz.sizeOf92 hM 0 hb22 0 hK rfl rfl rfl rfl rfl rfl rfl rfl rfl rfl rfl fun w24 a hK hE hM hb25 => ?_
  refine s1 hK rfl rfl rfl rfl fun a hK => ?_
  refine wpList_nil (nm_then ?_)
  refine wp_seq ?_
  refine d_go [] mixo hM rfl fun w26 hMd => ?_
  have hM := hMd
  have hS := Ext.refl ([] : List Nat) w26
  refine d_take hK 0 rfl (by kernel_rfl) (by kernel_rfl) (by kernel_rfl) rfl rfl rfl hS (fun _ _ _ h => h) (fun w hS => r_fa fa92_1 hK rfl rfl) fun a hK => ?_
  refine d_take hK 1 rfl (by kernel_rfl) (by kernel_rfl) (by kernel_rfl) rfl rfl rfl hS (fun _ _ _ h => h) (fun w hS => r_ld1 t13 (r := []) (hb25.at ((hMd.step hS).a 0 rfl) 1 1 rfl rfl rfl) hK rfl rfl) fun a hK => ?_
  refine d_take hK 2 rfl (by kernel_rfl) (by kernel_rfl) (by kernel_rfl) rfl rfl rfl hS (fun _ _ _ h => h) (fun w hS => r_fa fa92_2 hK rfl rfl) fun a hK => ?_
  refine d_take hK 3 rfl (by kernel_rfl) (by kernel_rfl) (by kernel_rfl) rfl rfl rfl hS (fun _ _ _ h => h) (fun w hS => r_ld1 t13 (r := []) (hb25.at ((hMd.step hS).a 0 rfl) 2 1 rfl rfl rfl) hK rfl rfl) fun a hK => ?_
  refine d_take hK 4 rfl (by kernel_rfl) (by kernel_rfl) (by kernel_rfl) rfl rfl rfl hS (fun _ _ _ h => h) (fun w hS => r_fa fa92_3 hK rfl rfl) fun a hK => ?_
  refine d_take hK 5 rfl (by kernel_rfl) (by kernel_rfl) (by kernel_rfl) rfl rfl rfl hS (fun _ _ _ h => h) (fun w hS => r_ld1 t13 (r := []) (hb25.at ((hMd.step hS).a 0 rfl) 3 1 rfl rfl rfl) hK rfl rfl) fun a hK => ?_
  refine d_take hK 7 rfl (by kernel_rfl) (by kernel_rfl) (by kernel_rfl) rfl rfl rfl hS (fun _ _ _ h => h) (fun w hS => r_fa fa92_5 hK rfl rfl) fun a hK => ?_
  refine d_take hK 8 rfl (by kernel_rfl) (by kernel_rfl) (by kernel_rfl) rfl rfl rfl hS (fun _ _ _ h => h) (fun w hS => r_ld1 t13 (r := []) (hb25.at ((hMd.step hS).a 0 rfl) 5 1 rfl rfl rfl) hK rfl rfl) fun a hK => ?_
  refine d_one 6 (by kernel_rfl) rfl ?_
  obtain ⟨x27, hx28, h⟩ := obind_some h
  refine s_call hK Tryz.call78 rfl rfl rfl rfl rfl (c_impl_Volume fu _ _ _  hx28) fun e29 w30 hR => ?_
  obtain ⟨rfl, hE⟩ := hR
  refine ⟨_, rfl, fun a hK => ?_⟩
  have hM := hM.step hE
  have hS := hS.trans hE (by simp)
  refine wpList_nil ⟨hS, ?_⟩
  refine d_pure hK 9 rfl (by kernel_rfl) (by kernel_rfl) (by kernel_rfl) rfl rfl rfl hS (fun _ _ _ h => h) rfl fun a hK => ?_
  refine d_pure hK 10 rfl (by kernel_rfl) (by kernel_rfl) (by kernel_rfl) rfl rfl rfl hS (fun _ _ _ h => h) rfl fun a hK => ?_
  refine d_done (by kernel_rfl) ?_
  refine (nm_then ?_)
  refine wp_ret ?_
  have h := Option.some.inj h
  subst h
  exact finR2 hK rfl (RV.tmp hK rfl) (RV.tmp hK rfl) ⟨rfl, hM.ext⟩

theorem c_bits_Mul32 (fu : Nat) {w0 : World} (x1 : Int) (y2 : Int)  {r : Int × Int}
    (h : d_bits_Mul32 fu x1 y2 = some r) :
    Calls Tryz.prog 208 #[.int .u32 (x1), .int .u32 (y2)] w0 fun e w => e = .returned (.tuple #[.int .u32 (r.1), .int .u32 (r.2)]) ∧ Ext [] w0 w := by
  refine enter (vs := [_, _]) Tryz.func208 rfl Tryz.ntmps208 rfl fun a hK => ?_
  have hM := St.start w0
  unfold d_bits_Mul32 at h
  refine wp_seq ?_
  refine wp_region_lit ?_
  iterate 2 (refine s1 hK rfl rfl rfl rfl fun a hK => ?_)
  refine wpList_nil (nm_then ?_)
  refine wp_seq ?_
  refine wp_region_lit ?_
  refine s1 hK rfl rfl rfl rfl fun a hK => ?_
  refine s_val hK rfl rfl rfl (r_cv hK Tryz.underlying191 Tryz.underlying194 rfl rfl) fun a hK => ?_
  refine s1 hK rfl rfl rfl rfl fun a hK => ?_
  refine s_val hK rfl rfl rfl (r_cv hK Tryz.underlying191 Tryz.underlying194 rfl rfl) fun a hK => ?_
  iterate 2 (refine s1 hK rfl rfl rfl rfl fun a hK => ?_)
  refine wpList_nil (nm_then ?_)
  refine wp_seq ?_
  refine wp_region_lit ?_
  refine s1 hK rfl rfl rfl rfl fun a hK => ?_
  refine s_val hK rfl rfl rfl (r_shr (y := 32) hK rfl rfl rfl) fun a hK => ?_
  refine s_val hK rfl rfl rfl (r_cv hK Tryz.underlying194 Tryz.underlying191 rfl rfl) fun a hK => ?_
  refine s1 hK rfl rfl rfl rfl fun a hK => ?_
  refine s_val hK rfl rfl rfl (r_cv hK Tryz.underlying194 Tryz.underlying191 rfl rfl) fun a hK => ?_
  iterate 2 (refine s1 hK rfl rfl rfl rfl fun a hK => ?_)
  refine wpList_nil (nm_then ?_)
  refine wp_ret ?_
  have h := Option.some.inj h
  subst h
  exact finR2 hK rfl (RV.tmp hK rfl) (RV.tmp hK rfl) ⟨rfl, hM.ext⟩

theorem c_bits_Mul64 (fu : Nat) {w0 : World} (x1 : Int) (y2 : Int)  {r : Int × Int}
    (h : d_bits_Mul64 fu x1 y2 = some r) :
    Calls Tryz.prog 209 #[.int .u64 (x1), .int .u64 (y2)] w0 fun e w => e = .returned (.tuple #[.int .u64 (r.1), .int .u64 (r.2)]) ∧ Ext [] w0 w := by
  refine enter (vs := [_, _]) Tryz.func209 rfl Tryz.ntmps209 rfl fun a hK => ?_
  have hM := St.start w0
  unfold d_bits_Mul64 at h
  refine wp_seq ?_
  refine wp_region_lit ?_
  iterate 2 (refine s1 hK rfl rfl rfl rfl fun a hK => ?_)
  refine wpList_nil (nm_then ?_)
  refine wp_seq ?_
  refine wp_region_lit ?_
  iterate 3 (refine s1 hK rfl rfl rfl rfl fun a hK => ?_)
  refine wpList_nil (nm_then ?_)
  refine wp_seq ?_
  refine wp_region_lit ?_
  refine s1 hK rfl rfl rfl rfl fun a hK => ?_
  refine s_val hK rfl rfl rfl (r_shr (y := 32) hK rfl rfl rfl) fun a hK => ?_
  refine s1 hK rfl rfl rfl rfl fun a hK => ?_
  refine wpList_nil (nm_then ?_)
  refine wp_seq ?_
  refine wp_region_lit ?_
  iterate 3 (refine s1 hK rfl rfl rfl rfl fun a hK => ?_)
  refine wpList_nil (nm_then ?_)
  refine wp_seq ?_
  refine wp_region_lit ?_
  refine s1 hK rfl rfl rfl rfl fun a hK => ?_
  refine s_val hK rfl rfl rfl (r_shr (y := 32) hK rfl rfl rfl) fun a hK => ?_
  refine s1 hK rfl rfl rfl rfl fun a hK => ?_
  refine wpList_nil (nm_then ?_)
  refine wp_seq ?_
  refine wp_region_lit ?_
  iterate 4 (refine s1 hK rfl rfl rfl rfl fun a hK => ?_)
  refine wpList_nil (nm_then ?_)
  refine wp_seq ?_
  refine wp_region_lit ?_
  iterate 4 (refine s1 hK rfl rfl rfl rfl fun a hK => ?_)
  refine s_val hK rfl rfl rfl (r_shr (y := 32) hK rfl rfl rfl) fun a hK => ?_
  iterate 2 (refine s1 hK rfl rfl rfl rfl fun a hK => ?_)
  have hK := hK.keep [0, 1, 6, 7, 9, 11] rfl
  refine wpList_nil (nm_then ?_)
  refine wp_seq ?_
  refine wp_region_lit ?_
  iterate 3 (refine s1 hK rfl rfl rfl rfl fun a hK => ?_)
  refine wpList_nil (nm_then ?_)
  refine wp_seq ?_
  refine wp_region_lit ?_
  refine s1 hK rfl rfl rfl rfl fun a hK => ?_
  refine s_val hK rfl rfl rfl (r_shr (y := 32) hK rfl rfl rfl) fun a hK => ?_
  refine s1 hK rfl rfl rfl rfl fun a hK => ?_
  refine wpList_nil (nm_then ?_)
  refine wp_seq ?_
  refine wp_region_lit ?_
  iterate 6 (refine s1 hK rfl rfl rfl rfl fun a hK => ?_)
  refine wpList_nil (nm_then ?_)
  refine wp_seq ?_
  refine wp_region_lit ?_
  iterate 6 (refine s1 hK rfl rfl rfl rfl fun a hK => ?_)
  refine s_val hK rfl rfl rfl (r_shr (y := 32) hK rfl rfl rfl) fun a hK => ?_
  iterate 2 (refine s1 hK rfl rfl rfl rfl fun a hK => ?_)
  have hK := hK.keep [0, 1, 4] rfl
  refine wpList_nil (nm_then ?_)
  refine wp_seq ?_
  refine wp_region_lit ?_
  iterate 4 (refine s1 hK rfl rfl rfl rfl fun a hK => ?_)
  refine wpList_nil (nm_then ?_)
  refine wp_ret ?_
  have h := Option.some.inj h
  subst h
  exact finR2 hK rfl (RV.tmp hK rfl) (RV.tmp hK rfl) ⟨rfl, hM.ext⟩

theorem c_bits_Mul (fu : Nat) {w0 : World} (x1 : Int) (y2 : Int)  {r : Int × Int}
    (h : d_bits_Mul fu x1 y2 = some r) :
    Calls Tryz.prog 186 #[.int .u64 (x1), .int .u64 (y2)] w0 fun e w => e = .returned (.tuple #[.int .u64 (r.1), .int .u64 (r.2)]) ∧ Ext [] w0 w := by
  refine enter (vs := [_, _]) Tryz.func186 rfl Tryz.ntmps186 rfl fun a hK => ?_
  have hM := St.start w0
  unfold d_bits_Mul at h
  refine wp_seq ?_
  refine wp_region_lit ?_
  iterate 2 (refine s1 hK rfl rfl rfl rfl fun a hK => ?_)
  refine wpList_nil (nm_then ?_)
  refine wp_seq ?_
  refine wp_cond_false (hK.ev rfl) ?_
  refine wp_skip (nm_then ?_)
  refine wp_seq ?_
  refine wp_region_lit ?_
  iterate 2 (refine s1 hK rfl rfl rfl rfl fun a hK => ?_)
  obtain ⟨x3, hx4, h⟩ := obind_some h
  refine s_call hK Tryz.call209 rfl rfl rfl rfl rfl (c_bits_Mul64 fu _ _  hx4) fun e5 w6 hR => ?_
  obtain ⟨rfl, hE⟩ := hR
  refine ⟨_, rfl, fun a hK => ?_⟩
  have hM := hM.step hE
  iterate 5 (refine s1 hK rfl rfl rfl rfl fun a hK => ?_)
  refine wpList_nil (nm_then ?_)
  refine wp_seq ?_
  refine wp_region_lit ?_
  iterate 4 (refine s1 hK rfl rfl rfl rfl fun a hK => ?_)
  refine wpList_nil (nm_then ?_)
  refine wp_ret ?_
  have h := Option.some.inj h
  subst h
  exact finR2 hK rfl (RV.tmp hK rfl) (RV.tmp hK rfl) ⟨rfl, hM.ext⟩

theorem c_slices_Repeat_int_int (fu : Nat) {w0 : World} (x1 : List Int) (count5 : Int) {v2 : Value} {F3 : List Nat} (hp4 : rd w0 F3 [v2] x1) {r : (List Int)}
    (h : d_slices_Repeat_int_int fu x1 count5 = some r) :
    Calls Tryz.prog 147 #[v2, .int .i64 (count5)] w0 fun e w => ∃ (v0 : Value) (G0 : List Nat), e = .returned (v0) ∧ Ext [] w0 w ∧ ow w G0 [v0] r ∧ (∀ b ∈ G0, w0.heap.size ≤ b) := by
  refine enter (vs := [_, _]) Tryz.func147 rfl Tryz.ntmps147 rfl fun a hK => ?_
  have hM := St.start w0
  unfold d_slices_Repeat_int_int at h
  refine wp_seq ?_
  refine wp_region_lit ?_
  refine s1 hK rfl rfl rfl rfl fun a hK => ?_
  refine wpList_nil (nm_then ?_)
  refine c_cut (fun a w => K 48 [(0, v2), (1, .int .i64 (count5))] a ∧ St [] w0 w [] ∧ d_slices_Repeat_int_int_J2 fu x1 count5 = some r) ?_ ?_
  · rintro a w7 ⟨hK, hM, h⟩
    unfold d_slices_Repeat_int_int_J2 at h
    refine wp_seq ?_
    refine wp_region_lit ?_
    refine s1 hK rfl rfl rfl rfl fun a hK => ?_
    refine s_val hK rfl rfl rfl (r_len (α := Int) hp4 hK Tryz.underlying29 rfl rfl) fun a hK => ?_
    refine s_val hK rfl rfl rfl (r_cv hK Tryz.underlying3 Tryz.underlying181 rfl rfl) fun a hK => ?_
    refine s1 hK rfl rfl rfl rfl fun a hK => ?_
    refine s_val hK rfl rfl rfl (r_cv hK Tryz.underlying3 Tryz.underlying181 rfl rfl) fun a hK => ?_
    obtain ⟨x8, hx9, h⟩ := obind_some h
    refine s_call hK Tryz.call186 rfl rfl rfl rfl rfl (c_bits_Mul fu _ _  hx9) fun e10 w11 hR => ?_
    obtain ⟨rfl, hE⟩ := hR
    refine ⟨_, rfl, fun a hK => ?_⟩
    have hM := hM.step hE
    iterate 5 (refine s1 hK rfl rfl rfl rfl fun a hK => ?_)
    refine wpList_nil (nm_then ?_)
    refine c_cut (fun a w => K 48 [(0, v2), (6, .int .u64 (x8.2))] a ∧ St [] w0 w [] ∧ d_slices_Repeat_int_int_J1 fu x1 x8 = some r) ?_ ?_
    · rintro a w14 ⟨hK, hM, h⟩
      unfold d_slices_Repeat_int_int_J1 at h
      refine wp_seq ?_
      refine wp_region_lit ?_
      refine s1 hK rfl rfl rfl rfl fun a hK => ?_
      refine s_val hK rfl rfl rfl (r_cv hK Tryz.underlying181 Tryz.underlying3 rfl rfl) fun a hK => ?_
      obtain ⟨x15, hx16, h⟩ := obind_some h
      refine s_mk hx16 te29 rfl rfl hM hK rfl rfl rfl rfl rfl rfl fun g17 w18 a v20 hK hM hE hf19 => ?_
      refine s1 hK rfl rfl rfl rfl fun a hK => ?_
      refine wpList_nil (nm_then ?_)
      refine wp_seq ?_
      refine wp_region_lit ?_
      iterate 2 (refine s1 hK rfl rfl rfl rfl fun a hK => ?_)
      refine s_cp (lo := 0) te29 hM 0 hf19 (Part.self _) (Enc.rd_agr hp4 (hM.a00 (Enc.rd_lt hp4))) hK rfl rfl rfl rfl rfl rfl rfl fun w21 a hK hE hM hf22 => ?_
      refine s1 hK rfl rfl rfl rfl fun a hK => ?_
      refine wpList_nil (nm_then ?_)
      refine wp_seq ?_
      refine wp_block ?_
      refine c_loop (fun n a w => ∃ (newslice64 : List Int) (v65 : Value) (F66 : List Nat) (u67 : World) (n69 : Int), K 48 [(7, v65), (8, .int .i64 (n69))] a ∧ St [] w0 w [(F66, u67)] ∧ ow u67 F66 [v65] newslice64 ∧ d_slices_Repeat_int_int_L1 fu  n newslice64 n69 = some r) ?_ ?_ fu _ _ ?_
      · rintro a w ⟨_, _, _, _, _, _, _, _, h⟩
        cases (show none = some _ from h)
      · rintro m70 a w63 ⟨newslice64, v65, F66, u67, n69, hK, hM, hf68, h⟩
        rw [d_slices_Repeat_int_int_L1_s] at h
        unfold d_slices_Repeat_int_int_L1_B at h
        refine wp_seq ?_
        refine wp_seq ?_
        refine wp_region_lit ?_
        iterate 2 (refine s1 hK rfl rfl rfl rfl fun a hK => ?_)
        refine s_val hK rfl rfl rfl (r_len (α := Int) (Enc.ow_rd hf68) hK Tryz.underlying29 rfl rfl) fun a hK => ?_
        refine s1 hK rfl rfl rfl rfl fun a hK => ?_
        refine wpList_nil (nm_then ?_)
        refine c_cond (b := decide (n69 < ((newslice64.length : Int)))) hK rfl (fun hb71 => ?_) (fun hb71 => ?_)
        · have h := bif_t hb71 h
          refine wp_skip (nm_then ?_)
          refine wp_block ?_
          refine d_go (F66) mixo hM rfl fun w72 hMd => ?_
          have hM := hMd
          have hS := Ext.refl ((F66) : List Nat) w72
          refine d_pure hK 0 rfl (by kernel_rfl) (by kernel_rfl) (by kernel_rfl) rfl rfl rfl hS (fun _ _ _ h => h) rfl fun a hK => ?_
          refine d_pure hK 1 rfl (by kernel_rfl) (by kernel_rfl) (by kernel_rfl) rfl rfl rfl hS (fun _ _ _ h => h) rfl fun a hK => ?_
          refine d_pure hK 2 rfl (by kernel_rfl) (by kernel_rfl) (by kernel_rfl) rfl rfl rfl hS (fun _ _ _ h => h) rfl fun a hK => ?_
          obtain ⟨x73, hx74, h⟩ := obind_some h
          obtain ⟨v75, hf76, hP77, hrn78⟩ := sl_from (Enc.ow_rd hf68) hx74 ts29
          refine d_take hK 3 rfl (by kernel_rfl) (by kernel_rfl) (by kernel_rfl) rfl rfl rfl hS (fun _ _ _ h => h) (fun w hS => hrn78 hK rfl rfl rfl _) fun a hK => ?_
          refine d_pure hK 4 rfl (by kernel_rfl) (by kernel_rfl) (by kernel_rfl) rfl rfl rfl hS (fun _ _ _ h => h) rfl fun a hK => ?_
          refine d_pure hK 5 rfl (by kernel_rfl) (by kernel_rfl) (by kernel_rfl) rfl rfl rfl hS (fun _ _ _ h => h) rfl fun a hK => ?_
          obtain ⟨x79, hx80, h⟩ := obind_some h
          obtain ⟨v81, hf82, hrn84⟩ := sl_to (Enc.ow_rd hf68) hx80 ts29
          refine d_take hK 6 rfl (by kernel_rfl) (by kernel_rfl) (by kernel_rfl) rfl rfl rfl hS (fun _ _ _ h => h) (fun w hS => hrn84 hK rfl rfl rfl _) fun a hK => ?_
          refine d_one 7 (by kernel_rfl) rfl ?_
          refine s_cp (lo := n69) te29 hM 0 hf68 hP77 (Enc.rd_agr hf82 (hM.a 0 rfl)) hK rfl rfl rfl rfl rfl rfl rfl fun w85 a hK hE hM hf86 => ?_
          have hS := hS.trans hE (fun y hy => Or.inl hy)
          refine wpList_nil ⟨hS, ?_⟩
          refine d_pure hK 8 rfl (by kernel_rfl) (by kernel_rfl) (by kernel_rfl) rfl rfl rfl hS (fun _ _ _ h => h) rfl fun a hK => ?_
          refine d_pure hK 9 rfl (by kernel_rfl) (by kernel_rfl) (by kernel_rfl) rfl rfl rfl hS (fun _ _ _ h => h) rfl fun a hK => ?_
          refine d_done (by kernel_rfl) ?_
          refine (nm_block (nm_then ?_))
          exact ⟨cpd newslice64 n69 x79, v65, F66, w85, w64 (n69 + (cpn newslice64 n69 x79)), hK.keep [7, 8] rfl, hM.sel [0] rfl (by decide), hf86, h⟩
        · have h := bif_f hb71 h
          refine wp_exit (ex_then (ex_then (ex_same (nm_then ?_))))
          refine wp_seq ?_
          refine wp_region_lit ?_
          iterate 2 (refine s1 hK rfl rfl rfl rfl fun a hK => ?_)
          refine wpList_nil (nm_then ?_)
          refine wp_ret ?_
          have h := Option.some.inj h
          subst h
          exact finR1 hK rfl (RV.tmp hK rfl) ⟨_, F66, rfl, hM.ext, (Enc.ow_agr hf68 (hM.a 0 rfl)), (hM.fresh 0 rfl)⟩
      · exact ⟨cpd x15 0 x1, v20, [g17], w21, cpn x15 0 x1, hK.keep [7, 8] rfl, hM.sel [0] rfl (by decide), hf22, h⟩
    · refine wp_seq ?_
      refine wp_region_lit ?_
      iterate 3 (refine s1 hK rfl rfl rfl rfl fun a hK => ?_)
      refine bsplit (decide (x8.1 > 0)) (fun hb87 => ?_) (fun hb87 => ?_)
      · have h := bif_t hb87 h
        have hK := hK.re (d := 23) rfl (congrArg Value.bool hb87)
        refine sk hK rfl rfl rfl fun a hK => ?_
        refine sk hK rfl rfl rfl fun a hK => ?_
        refine s1 hK rfl rfl rfl rfl fun a hK => ?_
        refine wpList_nil (nm_then ?_)
        refine wp_cond_true (hK.ev rfl) ?_
        cases (show none = some _ from h)
      · have h := bif_f hb87 h
        have hK := hK.re (d := 23) rfl (congrArg Value.bool hb87)
        iterate 3 (refine s1 hK rfl rfl rfl rfl fun a hK => ?_)
        refine wpList_nil (nm_then ?_)
        refine c_cond (b := decide (x8.2 > 9223372036854775807)) hK rfl (fun hb88 => ?_) (fun hb88 => ?_)
        · have h := bif_t hb88 h
          cases (show none = some _ from h)
        · have h := bif_f hb88 h
          refine wp_skip (nm_then ?_)
          exact ⟨hK.keep [0, 6] rfl, hM.sel [] rfl (by decide), h⟩
  · refine wp_seq ?_
    refine wp_region_lit ?_
    iterate 2 (refine s1 hK rfl rfl rfl rfl fun a hK => ?_)
    refine wpList_nil (nm_then ?_)
    refine c_cond (b := decide (count5 < 0)) hK rfl (fun hb89 => ?_) (fun hb89 => ?_)
    · have h := bif_t hb89 h
      cases (show none = some _ from h)
    · have h := bif_f hb89 h
      refine wp_skip (nm_then ?_)
      exact ⟨hK.keep [0, 1] rfl, hM.sel [] rfl (by decide), h⟩

theorem c_impl_Units (fu : Nat) {w0 : World} (r1 : Request) {cs2 : List Value} {F3 : List Nat} (hp4 : rd w0 F3 cs2 r1) {r : (List Int)}
    (h : d_impl_Units fu r1 = some r) :
    Calls Tryz.prog 84 #[.agg cs2.toArray] w0 fun e w => ∃ (v0 : Value) (G0 : List Nat), e = .returned (v0) ∧ Ext [] w0 w ∧ ow w G0 [v0] r ∧ (∀ b ∈ G0, w0.heap.size ≤ b) := by
  refine enter (vs := [_]) Tryz.func84 rfl Tryz.ntmps84 rfl fun a hK => ?_
  have hM := St.start w0
  obtain ⟨v5, F6, v7, F8, v9, F10, rfl, rfl, hf11, hf12, hf13⟩ := hp4
  unfold d_impl_Units at h
  refine wp_seq ?_
  refine wp_region_lit ?_
  refine s_box (cs := [.int .i64 (r1.fWay), .int .i64 (r1.fPallet.fW), .int .i64 (r1.fPallet.fD), .int .i64 (r1.fPallet.fH), .int .i64 (r1.fPallet.fGram), .int .i64 (r1.fClasses), v5, v7, .int .i64 (r1.fMaster), v9]) hM hK rfl rfl rfl rfl rfl rfl fun b14 w16 a hK hM hE hb15 => ?_
  refine s1 hK rfl rfl rfl rfl fun a hK => ?_
  refine wpList_nil (nm_then ?_)
  refine wp_seq ?_
  refine wp_seq ?_
  refine wp_region_lit ?_
  refine s_val hK rfl rfl rfl (r_ldB ta40 hM 0 hb15 0 hK rfl rfl rfl rfl rfl rfl) fun a hK => ?_
  obtain ⟨x17, hx18, h⟩ := obind_some h
  refine s_call hK Tryz.call76 rfl rfl rfl rfl rfl (c_impl_sound fu _ (show rd _ _ [.int .i64 (r1.fWay), .int .i64 (r1.fPallet.fW), .int .i64 (r1.fPallet.fD), .int .i64 (r1.fPallet.fH), .int .i64 (r1.fPallet.fGram), .int .i64 (r1.fClasses), v5, v7, .int .i64 (r1.fMaster), v9] (r1 : Request) from ⟨_, _, _, _, _, _, rfl, rfl, (Enc.rd_agr hf11 (hM.a00 (Enc.rd_lt hf11))), (Enc.rd_agr hf12 (hM.a00 (Enc.rd_lt hf12))), (Enc.rd_agr hf13 (hM.a00 (Enc.rd_lt hf13)))⟩) hx18) fun e19 w20 hR => ?_
  obtain ⟨rfl, hE⟩ := hR
  refine ⟨_, rfl, fun a hK => ?_⟩
  have hM := hM.step hE
  refine s1 hK rfl rfl rfl rfl fun a hK => ?_
  refine wpList_nil (nm_then ?_)
  refine c_cond (b := !x17) hK rfl (fun hb21 => ?_) (fun hb21 => ?_)
  · have h := bif_t hb21 h
    refine wp_seq ?_
    refine wp_region_lit ?_
    refine s1 hK rfl rfl rfl rfl fun a hK => ?_
    refine wpList_nil (nm_then ?_)
    refine wp_ret (rt_then ?_)
    have h := Option.some.inj h
    subst h
    exact finR1 hK rfl (RV.tmp hK rfl) ⟨_, [], rfl, hM.ext, (ow_nil _), (by simp)⟩
  · have h := bif_f hb21 h
    refine wp_skip (nm_then ?_)
    refine wp_seq ?_
    refine wp_region_lit ?_
    refine s_bs (cs := []) (ps := []) te29 hM hK rfl rfl rfl rfl rfl rfl rfl (by decide) rfl (by exact (List.forall_mem_nil _)) fun g22 w23 e25 a hK hM hE hb24 => ?_
    have hf26 := ow_bx hb24 ([] : List Int) rfl rfl rfl
    refine s1 hK rfl rfl rfl rfl fun a hK => ?_
    refine wpList_nil (nm_then ?_)
    refine wp_seq ?_
    refine wp_seq ?_
    refine wp_region_lit ?_
    refine s_val hK rfl rfl rfl (r_fa fa40_6 hK rfl rfl) fun a hK => ?_
    refine s_val hK rfl rfl rfl (r_ldb t138 hM 1 hb15 9 hK rfl rfl rfl rfl rfl) fun a hK => ?_
    refine s_val hK rfl rfl rfl (r_len (α := Item) hf13 hK Tryz.underlying38 rfl rfl) fun a hK => ?_
    refine s1 hK rfl rfl rfl rfl fun a hK => ?_
    refine wpList_nil (nm_then ?_)
    refine wp_block ?_
    refine c_loop (fun n a w => ∃ (out92 : List Int) (v93 : Value) (F94 : List Nat) (u95 : World) (x97 : Int), K 27 [(3, v93), (11, v9), (12, .int .i64 ((r1.fItems.length : Int))), (13, .int .i64 (x97))] a ∧ St [] w0 w [(F94, u95)] ∧ ow u95 F94 [v93] out92 ∧ d_impl_Units_L1 fu r1 n out92 x97 = some r) ?_ ?_ fu _ _ ?_
    · rintro a w ⟨_, _, _, _, _, _, _, _, h⟩
      cases (show none = some _ from h)
    · rintro m98 a w91 ⟨out92, v93, F94, u95, x97, hK, hM, hf96, h⟩
      rw [d_impl_Units_L1_s] at h
      unfold d_impl_Units_L1_B at h
      refine wp_seq ?_
      refine wp_region_lit ?_
      refine s1 hK rfl rfl rfl rfl fun a hK => ?_
      refine wpList_nil (nm_then ?_)
      refine wp_seq ?_
      refine c_cond (b := decide (x97 < ((r1.fItems.length : Int)))) hK rfl (fun hb99 => ?_) (fun hb99 => ?_)
      · have h := bif_t hb99 h
        refine wp_skip (nm_then ?_)
        refine wp_seq ?_
        refine wp_block ?_
        refine wp_seq ?_
        refine wp_region_lit ?_
        refine s1 hK rfl rfl rfl rfl fun a hK => ?_
        obtain ⟨x100, hx101, h⟩ := obind_some h
        refine s_val hK rfl rfl rfl (r_ixa hf13 hx101 hK ts38 rfl rfl rfl) fun a hK => ?_
        refine s_val hK rfl rfl rfl (r_lde hf13 (hM.a00 (Enc.rd_lt hf13)) hx101 ta120 hK rfl rfl) fun a hK => ?_
        refine s_alloc (cs := [.int .i64 (0), .int .i64 (0), .int .i64 (0), .int .i64 (0), .int .i64 (0), .int .i64 (0), .int .i64 (0)]) hM hK Tryz.zeroValue120 rfl rfl rfl rfl rfl fun b102 w104 a hK hM hE hb103 => ?_
        refine s1 hK rfl rfl rfl rfl fun a hK => ?_
        refine s_stb (cs' := [.int .i64 (x100.fId), .int .i64 (x100.fW), .int .i64 (x100.fH), .int .i64 (x100.fD), .int .i64 (x100.fGram), .int .i64 (x100.fClass), .int .i64 (x100.fCount)]) Tryz.sizeOf120 hM 0 hb103 0 hK rfl rfl rfl rfl rfl rfl rfl rfl rfl rfl rfl fun w105 a hK hE hM hb106 => ?_
        refine wpList_nil (nm_then ?_)
        refine wp_region_lit ?_
        iterate 2 (refine s1 hK rfl rfl rfl rfl fun a hK => ?_)
        refine s_bs (cs := [.int .i64 (x97)]) (ps := [(0, .tmp 19)]) te29 hM hK rfl rfl rfl rfl rfl rfl rfl (by decide) rfl (by exact (List.forall_mem_cons.2 ⟨rfl, (List.forall_mem_nil _)⟩)) fun g107 w108 e110 a hK hM hE hb109 => ?_
        have hf111 := ow_bx hb109 ([x97] : List Int) rfl rfl rfl
        refine s_val hK rfl rfl rfl (r_fa fa120_6 hK rfl rfl) fun a hK => ?_
        refine s_val hK rfl rfl rfl (r_ldb t13 hM 1 hb106 6 hK rfl rfl rfl rfl rfl) fun a hK => ?_
        obtain ⟨x112, hx113, h⟩ := obind_some h
        refine s_call hK Tryz.call147 rfl rfl rfl rfl rfl (c_slices_Repeat_int_int fu _ _ (Enc.rd_agr (Enc.ow_rd hf111) (hM.a 0 rfl)) hx113) fun e114 w115 hR => ?_
        obtain ⟨v120, F116, rfl, hE, hf117, hfr118⟩ := hR
        refine ⟨_, rfl, fun a hK => ?_⟩
        have hM := hM.new hE F116 (fun b hb => ⟨hfr118 b hb, Enc.rd_lt (Enc.ow_rd hf117) b hb⟩) (Enc.ow_nd hf117)
        obtain ⟨x121, hx122, h⟩ := obind_some h
        refine s_appF hx122 te29 rfl hM 3 hf96 (News.rd (Enc.rd_agr (Enc.ow_rd hf117) (hM.a 0 rfl))) rfl rfl hK rfl rfl rfl rfl rfl rfl rfl fun v123 F124 w125 a hK hE hM hf126 => ?_
        refine s1 hK rfl rfl rfl rfl fun a hK => ?_
        refine wpList_nil (nm_block (nm_then ?_))
        refine wp_region_lit ?_
        iterate 2 (refine s1 hK rfl rfl rfl rfl fun a hK => ?_)
        refine wpList_nil (nm_then ?_)
        exact ⟨x121, v123, F124, w125, w64 (x97 + 1), hK.keep [3, 11, 12, 13] rfl, hM.sel [3] rfl (by decide), hf126, h⟩
      · have h := bif_f hb99 h
        refine wp_exit (ex_then (ex_then (ex_same (nm_then ?_))))
        refine wp_seq ?_
        refine wp_region_lit ?_
        iterate 2 (refine s1 hK rfl rfl rfl rfl fun a hK => ?_)
        refine wpList_nil (nm_then ?_)
        refine wp_ret ?_
        have h := Option.some.inj h
        subst h
        exact finR1 hK rfl (RV.tmp hK rfl) ⟨_, F94, rfl, hM.ext, (Enc.ow_agr hf96 (hM.a 0 rfl)), (hM.fresh 0 rfl)⟩
    · exact ⟨([] : List Int), (.slice (some ⟨g22, 0, none⟩) 0 0), [g22], w23, 0, hK.keep [3, 11, 12, 13] rfl, hM.sel [0] rfl (by decide), hf26, h⟩

theorem c_slices_Index_int_int (fu : Nat) {w0 : World} (sv1 : List Int) (v5 : Int) {v2 : Value} {F3 : List Nat} (hp4 : rd w0 F3 [v2] sv1) {r : Int}
    (h : d_slices_Index_int_int fu sv1 v5 = some r) :
    Calls Tryz.prog 168 #[v2, .int .i64 (v5)] w0 fun e w => e = .returned (.int .i64 (r)) ∧ Ext [] w0 w := by
  refine enter (vs := [_, _]) Tryz.func168 rfl Tryz.ntmps168 rfl fun a hK => ?_
  have hM := St.start w0
  unfold d_slices_Index_int_int at h
  refine wp_seq ?_
  refine wp_region_lit ?_
  refine s1 hK rfl rfl rfl rfl fun a hK => ?_
  refine wpList_nil (nm_then ?_)
  refine wp_seq ?_
  refine wp_seq ?_
  refine wp_region_lit ?_
  refine s1 hK rfl rfl rfl rfl fun a hK => ?_
  refine s_val hK rfl rfl rfl (r_len (α := Int) hp4 hK Tryz.underlying29 rfl rfl) fun a hK => ?_
  refine s1 hK rfl rfl rfl rfl fun a hK => ?_
  refine wpList_nil (nm_then ?_)
  refine wp_block ?_
  refine c_loop (fun n a w => ∃ (x18 : Int), K 19 [(0, v2), (1, .int .i64 (v5)), (7, .int .i64 ((sv1.length : Int))), (8, .int .i64 (x18))] a ∧ St [] w0 w [] ∧ d_slices_Index_int_int_L1 fu sv1 v5 n x18 = some r) ?_ ?_ fu _ _ ?_
  · rintro a w ⟨_, _, _, h⟩
    cases (show none = some _ from h)
  · rintro m19 a w17 ⟨x18, hK, hM, h⟩
    rw [d_slices_Index_int_int_L1_s] at h
    unfold d_slices_Index_int_int_L1_B at h
    refine wp_seq ?_
    refine wp_region_lit ?_
    refine s1 hK rfl rfl rfl rfl fun a hK => ?_
    refine wpList_nil (nm_then ?_)
    refine wp_seq ?_
    refine c_cond (b := decide (x18 < ((sv1.length : Int)))) hK rfl (fun hb20 => ?_) (fun hb20 => ?_)
    · have h := bif_t hb20 h
      refine wp_skip (nm_then ?_)
      refine wp_seq ?_
      refine wp_block ?_
      refine wp_seq ?_
      refine wp_region_lit ?_
      iterate 2 (refine s1 hK rfl rfl rfl rfl fun a hK => ?_)
      refine wpList_nil (nm_then ?_)
      refine wp_seq ?_
      refine wp_region_lit ?_
      iterate 3 (refine s1 hK rfl rfl rfl rfl fun a hK => ?_)
      obtain ⟨x21, hx22, h⟩ := obind_some h
      refine s_val hK rfl rfl rfl (r_ixa hp4 hx22 hK ts29 rfl rfl rfl) fun a hK => ?_
      refine s_val hK rfl rfl rfl (r_lde1 hp4 (hM.a00 (Enc.rd_lt hp4)) hx22 0 t13 hK rfl rfl rfl rfl) fun a hK => ?_
      refine s1 hK rfl rfl rfl rfl fun a hK => ?_
      refine wpList_nil (nm_then ?_)
      refine c_cond (b := v5 == x21) hK rfl (fun hb23 => ?_) (fun hb23 => ?_)
      · have h := bif_t hb23 h
        refine wp_seq ?_
        refine wp_region_lit ?_
        iterate 2 (refine s1 hK rfl rfl rfl rfl fun a hK => ?_)
        refine wpList_nil (nm_then ?_)
        refine wp_ret (rt_block (rt_then (rt_then (rt_block (rt_then ?_)))))
        have h := Option.some.inj h
        subst h
        exact finR1 hK rfl (RV.tmp hK rfl) ⟨rfl, hM.ext⟩
      · have h := bif_f hb23 h
        refine wp_skip (nm_block (nm_then ?_))
        refine wp_region_lit ?_
        iterate 2 (refine s1 hK rfl rfl rfl rfl fun a hK => ?_)
        refine wpList_nil (nm_then ?_)
        exact ⟨w64 (x18 + 1), hK.keep [0, 1, 7, 8] rfl, hM.sel [] rfl (by decide), h⟩
    · have h := bif_f hb20 h
      refine wp_exit (ex_then (ex_then (ex_same (nm_then ?_))))
      refine wp_seq ?_
      refine wp_region_lit ?_
      refine s1 hK rfl rfl rfl rfl fun a hK => ?_
      refine wpList_nil (nm_then ?_)
      refine wp_ret ?_
      have h := Option.some.inj h
      subst h
      exact finR1 hK rfl (RV.tmp hK rfl) ⟨rfl, hM.ext⟩
  · exact ⟨0, hK.keep [0, 1, 7, 8] rfl, hM.sel [] rfl (by decide), h⟩

theorem c_slices_Contains_int_int (fu : Nat) {w0 : World} (sv1 : List Int) (v5 : Int) {v2 : Value} {F3 : List Nat} (hp4 : rd w0 F3 [v2] sv1) {r : Bool}
    (h : d_slices_Contains_int_int fu sv1 v5 = some r) :
    Calls Tryz.prog 127 #[v2, .int .i64 (v5)] w0 fun e w => e = .returned (.bool (r)) ∧ Ext [] w0 w := by
  refine enter (vs := [_, _]) Tryz.func127 rfl Tryz.ntmps127 rfl fun a hK => ?_
  have hM := St.start w0
  unfold d_slices_Contains_int_int at h
  refine wp_seq ?_
  refine wp_region_lit ?_
  refine s1 hK rfl rfl rfl rfl fun a hK => ?_
  refine wpList_nil (nm_then ?_)
  refine wp_seq ?_
  refine wp_region_lit ?_
  iterate 2 (refine s1 hK rfl rfl rfl rfl fun a hK => ?_)
  obtain ⟨x6, hx7, h⟩ := obind_some h
  refine s_call hK Tryz.call168 rfl rfl rfl rfl rfl (c_slices_Index_int_int fu _ _ (Enc.rd_agr hp4 (hM.a00 (Enc.rd_lt hp4))) hx7) fun e8 w9 hR => ?_
  obtain ⟨rfl, hE⟩ := hR
  refine ⟨_, rfl, fun a hK => ?_⟩
  have hM := hM.step hE
  iterate 2 (refine s1 hK rfl rfl rfl rfl fun a hK => ?_)
  refine wpList_nil (nm_then ?_)
  refine wp_ret ?_
  have h := Option.some.inj h
  subst h
  exact finR1 hK rfl (RV.tmp hK rfl) ⟨rfl, hM.ext⟩

theorem c_impl_UnitsOf (fu : Nat) {w0 : World} (r1 : Request) (kv5 : Int) {cs2 : List Value} {F3 : List Nat} (hp4 : rd w0 F3 cs2 r1) {r : (List Int)}
    (h : d_impl_UnitsOf fu r1 kv5 = some r) :
    Calls Tryz.prog 95 #[.agg cs2.toArray, .int .i64 (kv5)] w0 fun e w => ∃ (v0 : Value) (G0 : List Nat), e = .returned (v0) ∧ Ext [] w0 w ∧ ow w G0 [v0] r ∧ (∀ b ∈ G0, w0.heap.size ≤ b) := by
  refine enter (vs := [_, _]) Tryz.func95 rfl Tryz.ntmps95 rfl fun a hK => ?_
  have hM := St.start w0
  obtain ⟨v6, F7, v8, F9, v10, F11, rfl, rfl, hf12, hf13, hf14⟩ := hp4
  unfold d_impl_UnitsOf at h
  refine wp_seq ?_
  refine wp_region_lit ?_
  refine s_box (cs := [.int .i64 (r1.fWay), .int .i64 (r1.fPallet.fW), .int .i64 (r1.fPallet.fD), .int .i64 (r1.fPallet.fH), .int .i64 (r1.fPallet.fGram), .int .i64 (r1.fClasses), v6, v8, .int .i64 (r1.fMaster), v10]) hM hK rfl rfl rfl rfl rfl rfl fun b15 w17 a hK hM hE hb16 => ?_
  refine s1 hK rfl rfl rfl rfl fun a hK => ?_
  refine wpList_nil (nm_then ?_)
  refine wp_seq ?_
  refine wp_region_lit ?_
  refine s_val hK rfl rfl rfl (r_ldB ta40 hM 0 hb16 0 hK rfl rfl rfl rfl rfl rfl) fun a hK => ?_
  obtain ⟨x18, hx19, h⟩ := obind_some h
  refine s_call hK Tryz.call98 rfl rfl rfl rfl rfl (c_impl_GroupsOf fu _ (show rd _ _ [.int .i64 (r1.fWay), .int .i64 (r1.fPallet.fW), .int .i64 (r1.fPallet.fD), .int .i64 (r1.fPallet.fH), .int .i64 (r1.fPallet.fGram), .int .i64 (r1.fClasses), v6, v8, .int .i64 (r1.fMaster), v10] (r1 : Request) from ⟨_, _, _, _, _, _, rfl, rfl, (Enc.rd_agr hf12 (hM.a00 (Enc.rd_lt hf12))), (Enc.rd_agr hf13 (hM.a00 (Enc.rd_lt hf13))), (Enc.rd_agr hf14 (hM.a00 (Enc.rd_lt hf14)))⟩) hx19) fun e20 w21 hR => ?_
  obtain ⟨v26, F22, rfl, hE, hf23, hfr24⟩ := hR
  refine ⟨_, rfl, fun a hK => ?_⟩
  have hM := hM.new hE F22 (fun b hb => ⟨hfr24 b hb, Enc.rd_lt (Enc.ow_rd hf23) b hb⟩) (Enc.ow_nd hf23)
  refine s1 hK rfl rfl rfl rfl fun a hK => ?_
  refine wpList_nil (nm_then ?_)
  refine wp_seq ?_
  refine wp_seq ?_
  refine wp_region_lit ?_
  iterate 2 (refine s1 hK rfl rfl rfl rfl fun a hK => ?_)
  refine s_val hK rfl rfl rfl (r_len (α := List Int) (Enc.ow_rd hf23) hK Tryz.underlying47 rfl rfl) fun a hK => ?_
  refine s1 hK rfl rfl rfl rfl fun a hK => ?_
  obtain ⟨x27, hx28, h⟩ := obind_some h
  refine s_call hK Tryz.call99 rfl rfl rfl rfl rfl (c_impl_in fu _ _ _  hx28) fun e29 w30 hR => ?_
  obtain ⟨rfl, hE⟩ := hR
  refine ⟨_, rfl, fun a hK => ?_⟩
  have hM := hM.step hE
  refine s1 hK rfl rfl rfl rfl fun a hK => ?_
  refine wpList_nil (nm_then ?_)
  refine c_cond (b := !x27) hK rfl (fun hb31 => ?_) (fun hb31 => ?_)
  · have h := bif_t hb31 h
    refine wp_seq ?_
    refine wp_region_lit ?_
    refine s1 hK rfl rfl rfl rfl fun a hK => ?_
    refine wpList_nil (nm_then ?_)
    refine wp_ret (rt_then ?_)
    have h := Option.some.inj h
    subst h
    exact finR1 hK rfl (RV.tmp hK rfl) ⟨_, [], rfl, hM.ext, (ow_nil _), (by simp)⟩
  · have h := bif_f hb31 h
    refine wp_skip (nm_then ?_)
    refine wp_seq ?_
    refine wp_region_lit ?_
    refine s_bs (cs := []) (ps := []) te29 hM hK rfl rfl rfl rfl rfl rfl rfl (by decide) rfl (by exact (List.forall_mem_nil _)) fun g32 w33 e35 a hK hM hE hb34 => ?_
    have hf36 := ow_bx hb34 ([] : List Int) rfl rfl rfl
    refine s1 hK rfl rfl rfl rfl fun a hK => ?_
    refine wpList_nil (nm_then ?_)
    refine wp_seq ?_
    refine wp_seq ?_
    refine wp_region_lit ?_
    refine s_val hK rfl rfl rfl (r_ldB ta40 hM 2 hb16 0 hK rfl rfl rfl rfl rfl rfl) fun a hK => ?_
    obtain ⟨x37, hx38, h⟩ := obind_some h
    refine s_call hK Tryz.call84 rfl rfl rfl rfl rfl (c_impl_Units fu _ (show rd _ _ [.int .i64 (r1.fWay), .int .i64 (r1.fPallet.fW), .int .i64 (r1.fPallet.fD), .int .i64 (r1.fPallet.fH), .int .i64 (r1.fPallet.fGram), .int .i64 (r1.fClasses), v6, v8, .int .i64 (r1.fMaster), v10] (r1 : Request) from ⟨_, _, _, _, _, _, rfl, rfl, (Enc.rd_agr hf12 (hM.a00 (Enc.rd_lt hf12))), (Enc.rd_agr hf13 (hM.a00 (Enc.rd_lt hf13))), (Enc.rd_agr hf14 (hM.a00 (Enc.rd_lt hf14)))⟩) hx38) fun e39 w40 hR => ?_
    obtain ⟨v45, F41, rfl, hE, hf42, hfr43⟩ := hR
    refine ⟨_, rfl, fun a hK => ?_⟩
    have hM := hM.new hE F41 (fun b hb => ⟨hfr43 b hb, Enc.rd_lt (Enc.ow_rd hf42) b hb⟩) (Enc.ow_nd hf42)
    refine s_val hK rfl rfl rfl (r_len (α := Int) (Enc.ow_rd hf42) hK Tryz.underlying29 rfl rfl) fun a hK => ?_
    refine s1 hK rfl rfl rfl rfl fun a hK => ?_
    refine wpList_nil (nm_then ?_)
    refine wp_block ?_
    refine c_loop (fun n a w => ∃ (out189 : List Int) (v190 : Value) (F191 : List Nat) (u192 : World) (x194 : Int), K 43 [(1, .int .i64 (kv5)), (2, .pointer (some (⟨b15, 0, none⟩ : Addr))), (5, v26), (6, v190), (19, v45), (20, .int .i64 ((x37.length : Int))), (21, .int .i64 (x194))] a ∧ St [] w0 w [([b15], w17), (F22, w21), (F41, w40), (F191, u192)] ∧ ow u192 F191 [v190] out189 ∧ d_impl_UnitsOf_L1 fu r1 kv5 x18 x37 n out189 x194 = some r) ?_ ?_ fu _ _ ?_
    · rintro a w ⟨_, _, _, _, _, _, _, _, h⟩
      cases (show none = some _ from h)
    · rintro m195 a w188 ⟨out189, v190, F191, u192, x194, hK, hM, hf193, h⟩
      rw [d_impl_UnitsOf_L1_s] at h
      unfold d_impl_UnitsOf_L1_B at h
      refine wp_seq ?_
      refine wp_region_lit ?_
      refine s1 hK rfl rfl rfl rfl fun a hK => ?_
      refine wpList_nil (nm_then ?_)
      refine wp_seq ?_
      refine c_cond (b := decide (x194 < ((x37.length : Int)))) hK rfl (fun hb196 => ?_) (fun hb196 => ?_)
      · have h := bif_t hb196 h
        refine wp_skip (nm_then ?_)
        refine c_cut (fun a w => ∃ (out228 : List Int) (v229 : Value) (F230 : List Nat) (u231 : World), K 43 [(1, .int .i64 (kv5)), (2, .pointer (some (⟨b15, 0, none⟩ : Addr))), (5, v26), (6, v229), (19, v45), (20, .int .i64 ((x37.length : Int))), (21, .int .i64 (x194))] a ∧ St [] w0 w [([b15], w17), (F22, w21), (F41, w40), (F230, u231)] ∧ ow u231 F230 [v229] out228 ∧ d_impl_UnitsOf_J1 fu (d_impl_UnitsOf_L1 fu r1 kv5 x18 x37 m195) x194 out228 = some r) ?_ ?_
        · rintro a w227 ⟨out228, v229, F230, u231, hK, hM, hf232, h⟩
          unfold d_impl_UnitsOf_J1 at h
          refine wp_region_lit ?_
          iterate 2 (refine s1 hK rfl rfl rfl rfl fun a hK => ?_)
          refine wpList_nil (nm_then ?_)
          exact ⟨out228, v229, F230, u231, w64 (x194 + 1), hK.keep [1, 2, 5, 6, 19, 20, 21] rfl, hM.sel [0, 1, 2, 3] rfl (by decide), hf232, h⟩
        · refine wp_block ?_
          refine wp_seq ?_
          refine wp_region_lit ?_
          refine s1 hK rfl rfl rfl rfl fun a hK => ?_
          obtain ⟨x233, hx234, h⟩ := obind_some h
          refine s_val hK rfl rfl rfl (r_ixa (Enc.ow_rd hf42) hx234 hK ts29 rfl rfl rfl) fun a hK => ?_
          refine s_val hK rfl rfl rfl (r_lde1 (Enc.ow_rd hf42) (hM.a 2 rfl) hx234 0 t13 hK rfl rfl rfl rfl) fun a hK => ?_
          iterate 2 (refine s1 hK rfl rfl rfl rfl fun a hK => ?_)
          refine wpList_nil (nm_then ?_)
          refine wp_seq ?_
          refine d_go [] mixo hM rfl fun w235 hMd => ?_
          have hM := hMd
          have hS := Ext.refl ([] : List Nat) w235
          refine d_pure hK 0 rfl (by kernel_rfl) (by kernel_rfl) (by kernel_rfl) rfl rfl rfl hS (fun _ _ _ h => h) rfl fun a hK => ?_
          refine d_pure hK 1 rfl (by kernel_rfl) (by kernel_rfl) (by kernel_rfl) rfl rfl rfl hS (fun _ _ _ h => h) rfl fun a hK => ?_
          obtain ⟨x236, hx237, h⟩ := obind_some h
          refine d_take hK 2 rfl (by kernel_rfl) (by kernel_rfl) (by kernel_rfl) rfl rfl rfl hS (fun _ _ _ h => h) (fun w hS => r_ixa (Enc.ow_rd hf23) hx237 hK ts47 rfl rfl rfl) fun a hK => ?_
          obtain ⟨G238, cs239, hG240, hr241, hp242, hb243⟩ := rd_get (Enc.ow_rd hf23) (ix_some hx237).2.2
          obtain ⟨v244, rfl⟩ : ∃ v, cs239 = [v] := by obtain ⟨_, _, hq, _⟩ := hr241; exact ⟨_, hq⟩
          refine d_take hK 3 rfl (by kernel_rfl) (by kernel_rfl) (by kernel_rfl) rfl rfl rfl hS (fun _ _ _ h => h) (fun w hS => r_ld1 t129 (hp242.agr ((hMd.step hS).a 1 rfl) hb243) hK rfl rfl) fun a hK => ?_
          refine d_take hK 4 rfl (by kernel_rfl) (by kernel_rfl) (by kernel_rfl) rfl rfl rfl hS (fun _ _ _ h => h) (fun w hS => r_fa fa40_6 hK rfl rfl) fun a hK => ?_
          refine d_take hK 5 rfl (by kernel_rfl) (by kernel_rfl) (by kernel_rfl) rfl rfl rfl hS (fun _ _ _ h => h) (fun w hS => r_ld1 t138 (r := []) (hb16.at ((hMd.step hS).a 0 rfl) 9 1 rfl rfl rfl) hK rfl rfl) fun a hK => ?_
          refine d_pure hK 6 rfl (by kernel_rfl) (by kernel_rfl) (by kernel_rfl) rfl rfl rfl hS (fun _ _ _ h => h) rfl fun a hK => ?_
          obtain ⟨x245, hx246, h⟩ := obind_some h
          refine d_take hK 7 rfl (by kernel_rfl) (by kernel_rfl) (by kernel_rfl) rfl rfl rfl hS (fun _ _ _ h => h) (fun w hS => r_ixa hf14 hx246 hK ts38 rfl rfl rfl) fun a hK => ?_
          refine d_take hK 8 rfl (by kernel_rfl) (by kernel_rfl) (by kernel_rfl) rfl rfl rfl hS (fun _ _ _ h => h) (fun w hS => r_fa fa120_5 hK rfl rfl) fun a hK => ?_
          refine d_take hK 9 rfl (by kernel_rfl) (by kernel_rfl) (by kernel_rfl) rfl rfl rfl hS (fun _ _ _ h => h) (fun w hS => r_lde1 hf14 ((hMd.step hS).a00 (Enc.rd_lt hf14)) hx246 5 t13 hK rfl rfl rfl rfl) fun a hK => ?_
          refine d_one 10 (by kernel_rfl) rfl ?_
          obtain ⟨x247, hx248, h⟩ := obind_some h
          refine s_call hK Tryz.call127 rfl rfl rfl rfl rfl (c_slices_Contains_int_int fu _ _ (Enc.rd_agr hr241 ((hM.a 1 rfl).sub hG240)) hx248) fun e249 w250 hR => ?_
          obtain ⟨rfl, hE⟩ := hR
          refine ⟨_, rfl, fun a hK => ?_⟩
          have hM := hM.step hE
          have hS := hS.trans hE (by simp)
          refine wpList_nil ⟨hS, ?_⟩
          refine d_done (by kernel_rfl) ?_
          refine (nm_then ?_)
          refine c_cond (b := x247) hK rfl (fun hb251 => ?_) (fun hb251 => ?_)
          · have h := bif_t hb251 h
            refine wp_region_lit ?_
            iterate 2 (refine s1 hK rfl rfl rfl rfl fun a hK => ?_)
            refine s_bs (cs := [.int .i64 (x194)]) (ps := [(0, .tmp 38)]) te29 hM hK rfl rfl rfl rfl rfl rfl rfl (by decide) rfl (by exact (List.forall_mem_cons.2 ⟨rfl, (List.forall_mem_nil _)⟩)) fun g252 w253 e255 a hK hM hE hb254 => ?_
            have hf256 := ow_bx hb254 ([x194] : List Int) rfl rfl rfl
            obtain ⟨x257, hx258, h⟩ := obind_some h
            refine s_appF hx258 te29 rfl hM 4 hf193 (News.rd (Enc.rd_agr (Enc.ow_rd hf256) (hM.a 0 rfl))) rfl rfl hK rfl rfl rfl rfl rfl rfl rfl fun v259 F260 w261 a hK hE hM hf262 => ?_
            refine s1 hK rfl rfl rfl rfl fun a hK => ?_
            refine wpList_nil (nm_block (nm_then ?_))
            exact ⟨x257, v259, F260, w261, hK.keep [1, 2, 5, 6, 19, 20, 21] rfl, hM.sel [1, 2, 3, 4] rfl (by decide), hf262, h⟩
          · have h := bif_f hb251 h
            refine wp_skip (nm_block (nm_then ?_))
            exact ⟨out189, v190, F191, u192, hK.keep [1, 2, 5, 6, 19, 20, 21] rfl, hM.sel [0, 1, 2, 3] rfl (by decide), hf193, h⟩
      · have h := bif_f hb196 h
        refine wp_exit (ex_then (ex_then (ex_same (nm_then ?_))))
        refine wp_seq ?_
        refine wp_region_lit ?_
        iterate 2 (refine s1 hK rfl rfl rfl rfl fun a hK => ?_)
        refine wpList_nil (nm_then ?_)
        refine wp_ret ?_
        have h := Option.some.inj h
        subst h
        exact finR1 hK rfl (RV.tmp hK rfl) ⟨_, F191, rfl, hM.ext, (Enc.ow_agr hf193 (hM.a 3 rfl)), (hM.fresh 3 rfl)⟩
    · exact ⟨([] : List Int), (.slice (some ⟨g32, 0, none⟩) 0 0), [g32], w33, 0, hK.keep [1, 2, 5, 6, 19, 20, 21] rfl, hM.sel [3, 2, 0, 1] rfl (by decide), hf36, h⟩

theorem c_impl_itemsOf (fu : Nat) {w0 : World} (r1 : Request) (units5 : List Int) {cs2 : List Value} {F3 : List Nat} (hp4 : rd w0 F3 cs2 r1) {v6 : Value} {F7 : List Nat} (hp8 : rd w0 F7 [v6] units5) {r : (List Item)}
    (h : d_impl_itemsOf fu r1 units5 = some r) :
    Calls Tryz.prog 143 #[.agg cs2.toArray, v6] w0 fun e w => ∃ (v0 : Value) (G0 : List Nat), e = .returned (v0) ∧ Ext [] w0 w ∧ ow w G0 [v0] r ∧ (∀ b ∈ G0, w0.heap.size ≤ b) := by
  refine enter (vs := [_, _]) Tryz.func143 rfl Tryz.ntmps143 rfl fun a hK => ?_
  have hM := St.start w0
  obtain ⟨v9, F10, v11, F12, v13, F14, rfl, rfl, hf15, hf16, hf17⟩ := hp4
  unfold d_impl_itemsOf at h
  refine wp_seq ?_
  refine wp_region_lit ?_
  refine s_box (cs := [.int .i64 (r1.fWay), .int .i64 (r1.fPallet.fW), .int .i64 (r1.fPallet.fD), .int .i64 (r1.fPallet.fH), .int .i64 (r1.fPallet.fGram), .int .i64 (r1.fClasses), v9, v11, .int .i64 (r1.fMaster), v13]) hM hK rfl rfl rfl rfl rfl rfl fun b18 w20 a hK hM hE hb19 => ?_
  refine s1 hK rfl rfl rfl rfl fun a hK => ?_
  refine wpList_nil (nm_then ?_)
  refine wp_seq ?_
  refine wp_region_lit ?_
  refine s_val hK rfl rfl rfl (r_ldB ta40 hM 0 hb19 0 hK rfl rfl rfl rfl rfl rfl) fun a hK => ?_
  obtain ⟨x21, hx22, h⟩ := obind_some h
  refine s_call hK Tryz.call84 rfl rfl rfl rfl rfl (c_impl_Units fu _ (show rd _ _ [.int .i64 (r1.fWay), .int .i64 (r1.fPallet.fW), .int .i64 (r1.fPallet.fD), .int .i64 (r1.fPallet.fH), .int .i64 (r1.fPallet.fGram), .int .i64 (r1.fClasses), v9, v11, .int .i64 (r1.fMaster), v13] (r1 : Request) from ⟨_, _, _, _, _, _, rfl, rfl, (Enc.rd_agr hf15 (hM.a00 (Enc.rd_lt hf15))), (Enc.rd_agr hf16 (hM.a00 (Enc.rd_lt hf16))), (Enc.rd_agr hf17 (hM.a00 (Enc.rd_lt hf17)))⟩) hx22) fun e23 w24 hR => ?_
  obtain ⟨v29, F25, rfl, hE, hf26, hfr27⟩ := hR
  refine ⟨_, rfl, fun a hK => ?_⟩
  have hM := hM.new hE F25 (fun b hb => ⟨hfr27 b hb, Enc.rd_lt (Enc.ow_rd hf26) b hb⟩) (Enc.ow_nd hf26)
  refine s1 hK rfl rfl rfl rfl fun a hK => ?_
  refine wpList_nil (nm_then ?_)
  refine wp_seq ?_
  refine wp_region_lit ?_
  refine s_bs (cs := []) (ps := []) te38 hM hK rfl rfl rfl rfl rfl rfl rfl (by decide) rfl (by exact (List.forall_mem_nil _)) fun g30 w31 e33 a hK hM hE hb32 => ?_
  have hf34 := ow_bx hb32 ([] : List Item) rfl rfl rfl
  refine s1 hK rfl rfl rfl rfl fun a hK => ?_
  refine wpList_nil (nm_then ?_)
  refine wp_seq ?_
  refine wp_seq ?_
  refine wp_region_lit ?_
  refine s1 hK rfl rfl rfl rfl fun a hK => ?_
  refine s_val hK rfl rfl rfl (r_len (α := Int) hp8 hK Tryz.underlying29 rfl rfl) fun a hK => ?_
  refine s1 hK rfl rfl rfl rfl fun a hK => ?_
  refine wpList_nil (nm_then ?_)
  refine wp_block ?_
  refine c_loop (fun n a w => ∃ (out166 : List Item) (v167 : Value) (F168 : List Nat) (u169 : World) (x171 : Int), K 36 [(2, .pointer (some (⟨b18, 0, none⟩ : Addr))), (5, v29), (6, v167), (12, v6), (13, .int .i64 ((units5.length : Int))), (14, .int .i64 (x171))] a ∧ St [] w0 w [([b18], w20), (F25, w24), (F168, u169)] ∧ ow u169 F168 [v167] out166 ∧ d_impl_itemsOf_L1 fu r1 units5 x21 n out166 x171 = some r) ?_ ?_ fu _ _ ?_
  · rintro a w ⟨_, _, _, _, _, _, _, _, h⟩
    cases (show none = some _ from h)
  · rintro m172 a w165 ⟨out166, v167, F168, u169, x171, hK, hM, hf170, h⟩
    rw [d_impl_itemsOf_L1_s] at h
    unfold d_impl_itemsOf_L1_B at h
    refine wp_seq ?_
    refine wp_region_lit ?_
    refine s1 hK rfl rfl rfl rfl fun a hK => ?_
    refine wpList_nil (nm_then ?_)
    refine wp_seq ?_
    refine c_cond (b := decide (x171 < ((units5.length : Int)))) hK rfl (fun hb173 => ?_) (fun hb173 => ?_)
    · have h := bif_t hb173 h
      refine wp_skip (nm_then ?_)
      refine c_cut (fun a w => ∃ (out202 : List Item) (v203 : Value) (F204 : List Nat) (u205 : World), K 36 [(2, .pointer (some (⟨b18, 0, none⟩ : Addr))), (5, v29), (6, v203), (12, v6), (13, .int .i64 ((units5.length : Int))), (14, .int .i64 (x171))] a ∧ St [] w0 w [([b18], w20), (F25, w24), (F204, u205)] ∧ ow u205 F204 [v203] out202 ∧ d_impl_itemsOf_J1 fu (d_impl_itemsOf_L1 fu r1 units5 x21 m172) x171 out202 = some r) ?_ ?_
      · rintro a w201 ⟨out202, v203, F204, u205, hK, hM, hf206, h⟩
        unfold d_impl_itemsOf_J1 at h
        refine wp_region_lit ?_
        iterate 2 (refine s1 hK rfl rfl rfl rfl fun a hK => ?_)
        refine wpList_nil (nm_then ?_)
        exact ⟨out202, v203, F204, u205, w64 (x171 + 1), hK.keep [2, 5, 6, 12, 13, 14] rfl, hM.sel [0, 1, 2] rfl (by decide), hf206, h⟩
      · refine wp_block ?_
        refine wp_seq ?_
        refine wp_region_lit ?_
        obtain ⟨x207, hx208, h⟩ := obind_some h
        refine s_val hK rfl rfl rfl (r_ixa hp8 hx208 hK ts29 rfl rfl rfl) fun a hK => ?_
        refine s_val hK rfl rfl rfl (r_lde1 hp8 (hM.a00 (Enc.rd_lt hp8)) hx208 0 t13 hK rfl rfl rfl rfl) fun a hK => ?_
        refine s1 hK rfl rfl rfl rfl fun a hK => ?_
        refine wpList_nil (nm_then ?_)
        refine wp_seq ?_
        refine wp_region_lit ?_
        iterate 2 (refine s1 hK rfl rfl rfl rfl fun a hK => ?_)
        refine s_val hK rfl rfl rfl (r_len (α := Int) (Enc.ow_rd hf26) hK Tryz.underlying29 rfl rfl) fun a hK => ?_
        refine s1 hK rfl rfl rfl rfl fun a hK => ?_
        obtain ⟨x209, hx210, h⟩ := obind_some h
        refine s_call hK Tryz.call99 rfl rfl rfl rfl rfl (c_impl_in fu _ _ _  hx210) fun e211 w212 hR => ?_
        obtain ⟨rfl, hE⟩ := hR
        refine ⟨_, rfl, fun a hK => ?_⟩
        have hM := hM.step hE
        refine wpList_nil (nm_then ?_)
        refine c_cond (b := x209) hK rfl (fun hb213 => ?_) (fun hb213 => ?_)
        · have h := bif_t hb213 h
          refine d_go (F168) mixo hM rfl fun w214 hMd => ?_
          have hM := hMd
          have hS := Ext.refl ((F168) : List Nat) w214
          refine d_pure hK 0 rfl (by kernel_rfl) (by kernel_rfl) (by kernel_rfl) rfl rfl rfl hS (fun _ _ _ h => h) rfl fun a hK => ?_
          refine d_take hK 1 rfl (by kernel_rfl) (by kernel_rfl) (by kernel_rfl) rfl rfl rfl hS (fun _ _ _ h => h) (fun w hS => r_fa fa40_6 hK rfl rfl) fun a hK => ?_
          refine d_take hK 2 rfl (by kernel_rfl) (by kernel_rfl) (by kernel_rfl) rfl rfl rfl hS (fun _ _ _ h => h) (fun w hS => r_ld1 t138 (r := []) (hb19.at (hMd.az 0 2 rfl rfl rfl hS) 9 1 rfl rfl rfl) hK rfl rfl) fun a hK => ?_
          refine d_pure hK 3 rfl (by kernel_rfl) (by kernel_rfl) (by kernel_rfl) rfl rfl rfl hS (fun _ _ _ h => h) rfl fun a hK => ?_
          refine d_pure hK 4 rfl (by kernel_rfl) (by kernel_rfl) (by kernel_rfl) rfl rfl rfl hS (fun _ _ _ h => h) rfl fun a hK => ?_
          obtain ⟨x215, hx216, h⟩ := obind_some h
          refine d_take hK 5 rfl (by kernel_rfl) (by kernel_rfl) (by kernel_rfl) rfl rfl rfl hS (fun _ _ _ h => h) (fun w hS => r_ixa (Enc.ow_rd hf26) hx216 hK ts29 rfl rfl rfl) fun a hK => ?_
          refine d_take hK 6 rfl (by kernel_rfl) (by kernel_rfl) (by kernel_rfl) rfl rfl rfl hS (fun _ _ _ h => h) (fun w hS => r_lde1 (Enc.ow_rd hf26) (hMd.az 1 2 rfl rfl rfl hS) hx216 0 t13 hK rfl rfl rfl rfl) fun a hK => ?_
          obtain ⟨x217, hx218, h⟩ := obind_some h
          refine d_take hK 7 rfl (by kernel_rfl) (by kernel_rfl) (by kernel_rfl) rfl rfl rfl hS (fun _ _ _ h => h) (fun w hS => r_ixa hf17 hx218 hK ts38 rfl rfl rfl) fun a hK => ?_
          refine d_take hK 8 rfl (by kernel_rfl) (by kernel_rfl) (by kernel_rfl) rfl rfl rfl hS (fun _ _ _ h => h) (fun w hS => r_lde hf17 (hMd.az0 2 rfl rfl (Enc.rd_lt hf17) hS) hx218 ta120 hK rfl rfl) fun a hK => ?_
          refine d_one 9 (by kernel_rfl) rfl ?_
          refine s_bsN (cs := [.int .i64 (x217.fId), .int .i64 (x217.fW), .int .i64 (x217.fH), .int .i64 (x217.fD), .int .i64 (x217.fGram), .int .i64 (x217.fClass), .int .i64 (x217.fCount)]) (ps := [(0, .tmp 31)]) te38 hM hK rfl rfl rfl rfl rfl rfl rfl (by decide) rfl (by exact (List.forall_mem_cons.2 ⟨rfl, (List.forall_mem_nil _)⟩)) fun g219 w220 e222 a hK hM hE hb221 hgn223 => ?_
          have hlo225 := lo1 (Nat.le_trans hS.size hgn223)
          have hf224 := ow_bx hb221 ([x217] : List Item) rfl rfl rfl
          have hS := hS.trans hE (by simp)
          refine wpList_nil ⟨hS, ?_⟩
          refine d_one 10 (by kernel_rfl) rfl ?_
          obtain ⟨x226, hx227, h⟩ := obind_some h
          refine s_appFN hx227 te38 rfl hM 3 hf170 (News.rd (Enc.rd_agr (Enc.ow_rd hf224) (hM.a 0 rfl))) rfl rfl hK rfl rfl rfl rfl rfl rfl rfl fun v228 F229 w230 a hK hE hM hf231 hap232 => ?_
          have hlo233 : ∀ y ∈ F229, y ∈ (F168) ∨ _ ≤ y := fun y hy => (hap232 y hy).elim (fun hy => (fun y hy => Or.inl hy) y hy) (fun h => Or.inr (Nat.le_trans hS.size h))
          have hS := hS.trans hE (fun y hy => Or.inl hy)
          refine wpList_nil ⟨hS, ?_⟩
          refine d_pure hK 11 rfl (by kernel_rfl) (by kernel_rfl) (by kernel_rfl) rfl rfl rfl hS (fun _ _ _ h => h) rfl fun a hK => ?_
          refine d_done (by kernel_rfl) ?_
          refine (nm_block (nm_then ?_))
          exact ⟨x226, v228, F229, w230, hK.keep [2, 5, 6, 12, 13, 14] rfl, hM.sel [1, 2, 3] rfl (by decide), hf231, h⟩
        · have h := bif_f hb213 h
          refine wp_skip (nm_block (nm_then ?_))
          exact ⟨out166, v167, F168, u169, hK.keep [2, 5, 6, 12, 13, 14] rfl, hM.sel [0, 1, 2] rfl (by decide), hf170, h⟩
    · have h := bif_f hb173 h
      refine wp_exit (ex_then (ex_then (ex_same (nm_then ?_))))
      refine wp_seq ?_
      refine wp_region_lit ?_
      iterate 2 (refine s1 hK rfl rfl rfl rfl fun a hK => ?_)
      refine wpList_nil (nm_then ?_)
      refine wp_ret ?_
      have h := Option.some.inj h
      subst h
      exact finR1 hK rfl (RV.tmp hK rfl) ⟨_, F168, rfl, hM.ext, (Enc.ow_agr hf170 (hM.a 2 rfl)), (hM.fresh 2 rfl)⟩
  · exact ⟨([] : List Item), (.slice (some ⟨g30, 0, none⟩) 0 0), [g30], w31, 0, hK.keep [2, 5, 6, 12, 13, 14] rfl, hM.sel [2, 1, 0] rfl (by decide), hf34, h⟩

theorem c_impl_GramOf (fu : Nat) {w0 : World} (r1 : Request) (units5 : List Int) {cs2 : List Value} {F3 : List Nat} (hp4 : rd w0 F3 cs2 r1) {v6 : Value} {F7 : List Nat} (hp8 : rd w0 F7 [v6] units5) {r : Int}
    (h : d_impl_GramOf fu r1 units5 = some r) :
    Calls Tryz.prog 94 #[.agg cs2.toArray, v6] w0 fun e w => e = .returned (.int .i64 (r)) ∧ Ext [] w0 w := by
  refine enter (vs := [_, _]) Tryz.func94 rfl Tryz.ntmps94 rfl fun a hK => ?_
  have hM := St.start w0
  obtain ⟨v9, F10, v11, F12, v13, F14, rfl, rfl, hf15, hf16, hf17⟩ := hp4
  unfold d_impl_GramOf at h
  refine wp_seq ?_
  refine wp_region_lit ?_
  refine s_box (cs := [.int .i64 (r1.fWay), .int .i64 (r1.fPallet.fW), .int .i64 (r1.fPallet.fD), .int .i64 (r1.fPallet.fH), .int .i64 (r1.fPallet.fGram), .int .i64 (r1.fClasses), v9, v11, .int .i64 (r1.fMaster), v13]) hM hK rfl rfl rfl rfl rfl rfl fun b18 w20 a hK hM hE hb19 => ?_
  refine s1 hK rfl rfl rfl rfl fun a hK => ?_
  refine wpList_nil (nm_then ?_)
  refine wp_seq ?_
  refine wp_region_lit ?_
  refine s1 hK rfl rfl rfl rfl fun a hK => ?_
  refine wpList_nil (nm_then ?_)
  refine wp_seq ?_
  refine wp_seq ?_
  refine wp_region_lit ?_
  refine s_val hK rfl rfl rfl (r_ldB ta40 hM 0 hb19 0 hK rfl rfl rfl rfl rfl rfl) fun a hK => ?_
  refine s1 hK rfl rfl rfl rfl fun a hK => ?_
  obtain ⟨x21, hx22, h⟩ := obind_some h
  refine s_call hK Tryz.call143 rfl rfl rfl rfl rfl (c_impl_itemsOf fu _ _ (show rd _ _ [.int .i64 (r1.fWay), .int .i64 (r1.fPallet.fW), .int .i64 (r1.fPallet.fD), .int .i64 (r1.fPallet.fH), .int .i64 (r1.fPallet.fGram), .int .i64 (r1.fClasses), v9, v11, .int .i64 (r1.fMaster), v13] (r1 : Request) from ⟨_, _, _, _, _, _, rfl, rfl, (Enc.rd_agr hf15 (hM.a00 (Enc.rd_lt hf15))), (Enc.rd_agr hf16 (hM.a00 (Enc.rd_lt hf16))), (Enc.rd_agr hf17 (hM.a00 (Enc.rd_lt hf17)))⟩) (Enc.rd_agr hp8 (hM.a00 (Enc.rd_lt hp8))) hx22) fun e23 w24 hR => ?_
  obtain ⟨v29, F25, rfl, hE, hf26, hfr27⟩ := hR
  refine ⟨_, rfl, fun a hK => ?_⟩
  have hM := hM.new hE F25 (fun b hb => ⟨hfr27 b hb, Enc.rd_lt (Enc.ow_rd hf26) b hb⟩) (Enc.ow_nd hf26)
  refine s_val hK rfl rfl rfl (r_len (α := Item) (Enc.ow_rd hf26) hK Tryz.underlying38 rfl rfl) fun a hK => ?_
  refine s1 hK rfl rfl rfl rfl fun a hK => ?_
  refine wpList_nil (nm_then ?_)
  refine wp_block ?_
  refine c_loop (fun n a w => ∃ (n51 : Int) (x52 : Int), K 22 [(5, .int .i64 (n51)), (10, v29), (11, .int .i64 ((x21.length : Int))), (12, .int .i64 (x52))] a ∧ St [] w0 w [(F25, w24)] ∧ d_impl_GramOf_L1 fu x21 n n51 x52 = some r) ?_ ?_ fu _ _ ?_
  · rintro a w ⟨_, _, _, _, h⟩
    cases (show none = some _ from h)
  · rintro m53 a w50 ⟨n51, x52, hK, hM, h⟩
    rw [d_impl_GramOf_L1_s] at h
    unfold d_impl_GramOf_L1_B at h
    refine wp_seq ?_
    refine wp_region_lit ?_
    refine s1 hK rfl rfl rfl rfl fun a hK => ?_
    refine wpList_nil (nm_then ?_)
    refine wp_seq ?_
    refine c_cond (b := decide (x52 < ((x21.length : Int)))) hK rfl (fun hb54 => ?_) (fun hb54 => ?_)
    · have h := bif_t hb54 h
      refine wp_skip (nm_then ?_)
      refine wp_seq ?_
      refine wp_block ?_
      refine wp_seq ?_
      refine wp_region_lit ?_
      obtain ⟨x55, hx56, h⟩ := obind_some h
      refine s_val hK rfl rfl rfl (r_ixa (Enc.ow_rd hf26) hx56 hK ts38 rfl rfl rfl) fun a hK => ?_
      refine s_val hK rfl rfl rfl (r_lde (Enc.ow_rd hf26) (hM.a 0 rfl) hx56 ta120 hK rfl rfl) fun a hK => ?_
      refine s_alloc (cs := [.int .i64 (0), .int .i64 (0), .int .i64 (0), .int .i64 (0), .int .i64 (0), .int .i64 (0), .int .i64 (0)]) hM hK Tryz.zeroValue120 rfl rfl rfl rfl rfl fun b57 w59 a hK hM hE hb58 => ?_
      refine s_stb (cs' := [.int .i64 (x55.fId), .int .i64 (x55.fW), .int .i64 (x55.fH), .int .i64 (x55.fD), .int .i64 (x55.fGram), .int .i64 (x55.fClass), .int .i64 (x55.fCount)]) Tryz.sizeOf120 hM 0 hb58 0 hK rfl rfl rfl rfl rfl rfl rfl rfl rfl rfl rfl fun w60 a hK hE hM hb61 => ?_
      refine wpList_nil (nm_then ?_)
      refine wp_region_lit ?_
      refine s1 hK rfl rfl rfl rfl fun a hK => ?_
      refine s_val hK rfl rfl rfl (r_fa fa120_4 hK rfl rfl) fun a hK => ?_
      refine s_val hK rfl rfl rfl (r_ldb t13 hM 0 hb61 4 hK rfl rfl rfl rfl rfl) fun a hK => ?_
      iterate 2 (refine s1 hK rfl rfl rfl rfl fun a hK => ?_)
      refine wpList_nil (nm_block (nm_then ?_))
      refine wp_region_lit ?_
      iterate 2 (refine s1 hK rfl rfl rfl rfl fun a hK => ?_)
      refine wpList_nil (nm_then ?_)
      exact ⟨w64 (n51 + x55.fGram), w64 (x52 + 1), hK.keep [5, 10, 11, 12] rfl, hM.sel [1] rfl (by decide), h⟩
    · have h := bif_f hb54 h
      refine wp_exit (ex_then (ex_then (ex_same (nm_then ?_))))
      refine wp_seq ?_
      refine wp_region_lit ?_
      iterate 2 (refine s1 hK rfl rfl rfl rfl fun a hK => ?_)
      refine wpList_nil (nm_then ?_)
      refine wp_ret ?_
      have h := Option.some.inj h
      subst h
      exact finR1 hK rfl (RV.tmp hK rfl) ⟨rfl, hM.ext⟩
  · exact ⟨0, 0, hK.keep [5, 10, 11, 12] rfl, hM.sel [0] rfl (by decide), h⟩

theorem c_impl_SlackGram (fu : Nat) {w0 : World} (r1 : Request) (kv5 : Int) {cs2 : List Value} {F3 : List Nat} (hp4 : rd w0 F3 cs2 r1) {r : Bool}
    (h : d_impl_SlackGram fu r1 kv5 = some r) :
    Calls Tryz.prog 30 #[.agg cs2.toArray, .int .i64 (kv5)] w0 fun e w => e = .returned (.bool (r)) ∧ Ext [] w0 w := by
  refine enter (vs := [_, _]) Tryz.func30 rfl Tryz.ntmps30 rfl fun a hK => ?_
  have hM := St.start w0
  obtain ⟨v6, F7, v8, F9, v10, F11, rfl, rfl, hf12, hf13, hf14⟩ := hp4
  unfold d_impl_SlackGram at h
  refine wp_seq ?_
  refine wp_region_lit ?_
  refine s_box (cs := [.int .i64 (r1.fWay), .int .i64 (r1.fPallet.fW), .int .i64 (r1.fPallet.fD), .int .i64 (r1.fPallet.fH), .int .i64 (r1.fPallet.fGram), .int .i64 (r1.fClasses), v6, v8, .int .i64 (r1.fMaster), v10]) hM hK rfl rfl rfl rfl rfl rfl fun b15 w17 a hK hM hE hb16 => ?_
  refine s1 hK rfl rfl rfl rfl fun a hK => ?_
  refine wpList_nil (nm_then ?_)
  refine wp_seq ?_
  refine wp_region_lit ?_
  refine s_val hK rfl rfl rfl (r_ldB ta40 hM 0 hb16 0 hK rfl rfl rfl rfl rfl rfl) fun a hK => ?_
  obtain ⟨x18, hx19, h⟩ := obind_some h
  refine s_call hK Tryz.call92 rfl rfl rfl rfl rfl (c_impl_masterRoom fu _ (show rd _ _ [.int .i64 (r1.fWay), .int .i64 (r1.fPallet.fW), .int .i64 (r1.fPallet.fD), .int .i64 (r1.fPallet.fH), .int .i64 (r1.fPallet.fGram), .int .i64 (r1.fClasses), v6, v8, .int .i64 (r1.fMaster), v10] (r1 : Request) from ⟨_, _, _, _, _, _, rfl, rfl, (Enc.rd_agr hf12 (hM.a00 (Enc.rd_lt hf12))), (Enc.rd_agr hf13 (hM.a00 (Enc.rd_lt hf13))), (Enc.rd_agr hf14 (hM.a00 (Enc.rd_lt hf14)))⟩) hx19) fun e20 w21 hR => ?_
  obtain ⟨rfl, hE⟩ := hR
  refine ⟨_, rfl, fun a hK => ?_⟩
  have hM := hM.step hE
  iterate 5 (refine s1 hK rfl rfl rfl rfl fun a hK => ?_)
  refine wpList_nil (nm_then ?_)
  refine wp_seq ?_
  refine d_go [] mixo hM rfl fun w22 hMd => ?_
  have hM := hMd
  have hS := Ext.refl ([] : List Nat) w22
  refine d_take hK 0 rfl (by kernel_rfl) (by kernel_rfl) (by kernel_rfl) rfl rfl rfl hS (fun _ _ _ h => h) (fun w hS => r_ldA ta40 (hb16.at ((hMd.step hS).a 0 rfl) 0 10 rfl rfl rfl) rfl hK rfl rfl) fun a hK => ?_
  refine d_pure hK 1 rfl (by kernel_rfl) (by kernel_rfl) (by kernel_rfl) rfl rfl rfl hS (fun _ _ _ h => h) rfl fun a hK => ?_
  refine d_one 2 (by kernel_rfl) rfl ?_
  obtain ⟨x23, hx24, h⟩ := obind_some h
  refine s_call hK Tryz.call93 rfl rfl rfl rfl rfl (c_impl_hasGroup fu _ _ (show rd _ _ [.int .i64 (r1.fWay), .int .i64 (r1.fPallet.fW), .int .i64 (r1.fPallet.fD), .int .i64 (r1.fPallet.fH), .int .i64 (r1.fPallet.fGram), .int .i64 (r1.fClasses), v6, v8, .int .i64 (r1.fMaster), v10] (r1 : Request) from ⟨_, _, _, _, _, _, rfl, rfl, (Enc.rd_agr hf12 (hM.a00 (Enc.rd_lt hf12))), (Enc.rd_agr hf13 (hM.a00 (Enc.rd_lt hf13))), (Enc.rd_agr hf14 (hM.a00 (Enc.rd_lt hf14)))⟩) hx24) fun e25 w26 hR => ?_
  obtain ⟨rfl, hE⟩ := hR
  refine ⟨_, rfl, fun a hK => ?_⟩
  have hM := hM.step hE
  have hS := hS.trans hE (by simp)
  refine wpList_nil ⟨hS, ?_⟩
  refine d_pure hK 3 rfl (by kernel_rfl) (by kernel_rfl) (by kernel_rfl) rfl rfl rfl hS (fun _ _ _ h => h) rfl fun a hK => ?_
  refine bsplit (x23) (fun hb27 => ?_) (fun hb27 => ?_)
  · have h := bif_t hb27 h
    have hK := hK.re (d := 15) rfl (congrArg Value.bool hb27)
    refine d_take hK 4 rfl (by kernel_rfl) (by kernel_rfl) (by kernel_rfl) rfl rfl rfl hS (fun _ _ _ h => h) (fun w hS => r_ldA ta40 (hb16.at ((hMd.step hS).a 0 rfl) 0 10 rfl rfl rfl) rfl hK rfl rfl) fun a hK => ?_
    refine d_take hK 5 rfl (by kernel_rfl) (by kernel_rfl) (by kernel_rfl) rfl rfl rfl hS (fun _ _ _ h => h) (fun w hS => r_ldA ta40 (hb16.at ((hMd.step hS).a 0 rfl) 0 10 rfl rfl rfl) rfl hK rfl rfl) fun a hK => ?_
    refine d_pure hK 6 rfl (by kernel_rfl) (by kernel_rfl) (by kernel_rfl) rfl rfl rfl hS (fun _ _ _ h => h) rfl fun a hK => ?_
    refine d_pure hK 9 rfl (by kernel_rfl) (by kernel_rfl) (by kernel_rfl) rfl rfl rfl hS (fun _ _ _ h => h) rfl fun a hK => ?_
    refine d_one 7 (by kernel_rfl) rfl ?_
    obtain ⟨x28, hx29, h⟩ := obind_some h
    refine s_call hK Tryz.call95 rfl rfl rfl rfl rfl (c_impl_UnitsOf fu _ _ (show rd _ _ [.int .i64 (r1.fWay), .int .i64 (r1.fPallet.fW), .int .i64 (r1.fPallet.fD), .int .i64 (r1.fPallet.fH), .int .i64 (r1.fPallet.fGram), .int .i64 (r1.fClasses), v6, v8, .int .i64 (r1.fMaster), v10] (r1 : Request) from ⟨_, _, _, _, _, _, rfl, rfl, (Enc.rd_agr hf12 (hM.a00 (Enc.rd_lt hf12))), (Enc.rd_agr hf13 (hM.a00 (Enc.rd_lt hf13))), (Enc.rd_agr hf14 (hM.a00 (Enc.rd_lt hf14)))⟩) hx29) fun e30 w31 hR => ?_
    obtain ⟨v36, F32, rfl, hE, hf33, hfr34⟩ := hR
    refine ⟨_, rfl, fun a hK => ?_⟩
    have hM := hM.new hE F32 (fun b hb => ⟨hfr34 b hb, Enc.rd_lt (Enc.ow_rd hf33) b hb⟩) (Enc.ow_nd hf33)
    have hlo37 := fun (y : Nat) (hy : y ∈ F32) => Nat.le_trans hS.size (hfr34 y hy)
    have hS := hS.trans hE (by simp)
    refine wpList_nil ⟨hS, ?_⟩
    refine d_one 8 (by kernel_rfl) rfl ?_
    obtain ⟨x38, hx39, h⟩ := obind_some h
    refine s_call hK Tryz.call94 rfl rfl rfl rfl rfl (c_impl_GramOf fu _ _ (show rd _ _ [.int .i64 (r1.fWay), .int .i64 (r1.fPallet.fW), .int .i64 (r1.fPallet.fD), .int .i64 (r1.fPallet.fH), .int .i64 (r1.fPallet.fGram), .int .i64 (r1.fClasses), v6, v8, .int .i64 (r1.fMaster), v10] (r1 : Request) from ⟨_, _, _, _, _, _, rfl, rfl, (Enc.rd_agr hf12 (hM.a00 (Enc.rd_lt hf12))), (Enc.rd_agr hf13 (hM.a00 (Enc.rd_lt hf13))), (Enc.rd_agr hf14 (hM.a00 (Enc.rd_lt hf14)))⟩) (Enc.rd_agr (Enc.ow_rd hf33) (hM.a 0 rfl)) hx39) fun e40 w41 hR => ?_
    obtain ⟨rfl, hE⟩ := hR
    refine ⟨_, rfl, fun a hK => ?_⟩
    have hM := hM.step hE
    have hS := hS.trans hE (by simp)
    refine wpList_nil ⟨hS, ?_⟩
    refine d_pure hK 10 rfl (by kernel_rfl) (by kernel_rfl) (by kernel_rfl) rfl rfl rfl hS (fun _ _ _ h => h) rfl fun a hK => ?_
    refine d_pure hK 11 rfl (by kernel_rfl) (by kernel_rfl) (by kernel_rfl) rfl rfl rfl hS (fun _ _ _ h => h) rfl fun a hK => ?_
    refine d_pure hK 12 rfl (by kernel_rfl) (by kernel_rfl) (by kernel_rfl) rfl rfl rfl hS (fun _ _ _ h => h) rfl fun a hK => ?_
    refine d_done (by kernel_rfl) ?_
    refine (nm_then ?_)
    refine wp_ret ?_
    have h := Option.some.inj h
    subst h
    exact finR1 hK rfl (RV.tmp hK rfl) ⟨rfl, hM.ext⟩
  · have h := bif_f hb27 h
    have hK := hK.re (d := 15) rfl (congrArg Value.bool hb27)
    refine d_skip hK 4 rfl (by kernel_rfl) (by kernel_rfl) (by kernel_rfl) rfl rfl rfl hS (fun _ _ _ h => h) fun a hK => ?_
    refine d_skip hK 5 rfl (by kernel_rfl) (by kernel_rfl) (by kernel_rfl) rfl rfl rfl hS (fun _ _ _ h => h) fun a hK => ?_
    refine d_skip hK 6 rfl (by kernel_rfl) (by kernel_rfl) (by kernel_rfl) rfl rfl rfl hS (fun _ _ _ h => h) fun a hK => ?_
    refine d_skip hK 7 rfl (by kernel_rfl) (by kernel_rfl) (by kernel_rfl) rfl rfl rfl hS (fun _ _ _ h => h) fun a hK => ?_
    refine d_skip hK 8 rfl (by kernel_rfl) (by kernel_rfl) (by kernel_rfl) rfl rfl rfl hS (fun _ _ _ h => h) fun a hK => ?_
    refine d_skip hK 9 rfl (by kernel_rfl) (by kernel_rfl) (by kernel_rfl) rfl rfl rfl hS (fun _ _ _ h => h) fun a hK => ?_
    refine d_skip hK 10 rfl (by kernel_rfl) (by kernel_rfl) (by kernel_rfl) rfl rfl rfl hS (fun _ _ _ h => h) fun a hK => ?_
    refine d_pure hK 11 rfl (by kernel_rfl) (by kernel_rfl) (by kernel_rfl) rfl rfl rfl hS (fun _ _ _ h => h) rfl fun a hK => ?_
    refine d_pure hK 12 rfl (by kernel_rfl) (by kernel_rfl) (by kernel_rfl) rfl rfl rfl hS (fun _ _ _ h => h) rfl fun a hK => ?_
    refine d_done (by kernel_rfl) ?_
    refine (nm_then ?_)
    refine wp_ret ?_
    have h := Option.some.inj h
    subst h
    exact finR1 hK rfl (RV.tmp hK rfl) ⟨rfl, hM.ext⟩

theorem c_impl_VolumeOf (fu : Nat) {w0 : World} (r1 : Request) (units5 : List Int) {cs2 : List Value} {F3 : List Nat} (hp4 : rd w0 F3 cs2 r1) {v6 : Value} {F7 : List Nat} (hp8 : rd w0 F7 [v6] units5) {r : Int}
    (h : d_impl_VolumeOf fu r1 units5 = some r) :
    Calls Tryz.prog 77 #[.agg cs2.toArray, v6] w0 fun e w => e = .returned (.int .i64 (r)) ∧ Ext [] w0 w := by
  refine enter (vs := [_, _]) Tryz.func77 rfl Tryz.ntmps77 rfl fun a hK => ?_
  have hM := St.start w0
  obtain ⟨v9, F10, v11, F12, v13, F14, rfl, rfl, hf15, hf16, hf17⟩ := hp4
  unfold d_impl_VolumeOf at h
  refine wp_seq ?_
  refine wp_region_lit ?_
  refine s_box (cs := [.int .i64 (r1.fWay), .int .i64 (r1.fPallet.fW), .int .i64 (r1.fPallet.fD), .int .i64 (r1.fPallet.fH), .int .i64 (r1.fPallet.fGram), .int .i64 (r1.fClasses), v9, v11, .int .i64 (r1.fMaster), v13]) hM hK rfl rfl rfl rfl rfl rfl fun b18 w20 a hK hM hE hb19 => ?_
  refine s1 hK rfl rfl rfl rfl fun a hK => ?_
  refine wpList_nil (nm_then ?_)
  refine wp_seq ?_
  refine wp_region_lit ?_
  refine s1 hK rfl rfl rfl rfl fun a hK => ?_
  refine wpList_nil (nm_then ?_)
  refine wp_seq ?_
  refine wp_seq ?_
  refine wp_region_lit ?_
  refine s_val hK rfl rfl rfl (r_ldB ta40 hM 0 hb19 0 hK rfl rfl rfl rfl rfl rfl) fun a hK => ?_
  refine s1 hK rfl rfl rfl rfl fun a hK => ?_
  obtain ⟨x21, hx22, h⟩ := obind_some h
  refine s_call hK Tryz.call143 rfl rfl rfl rfl rfl (c_impl_itemsOf fu _ _ (show rd _ _ [.int .i64 (r1.fWay), .int .i64 (r1.fPallet.fW), .int .i64 (r1.fPallet.fD), .int .i64 (r1.fPallet.fH), .int .i64 (r1.fPallet.fGram), .int .i64 (r1.fClasses), v9, v11, .int .i64 (r1.fMaster), v13] (r1 : Request) from ⟨_, _, _, _, _, _, rfl, rfl, (Enc.rd_agr hf15 (hM.a00 (Enc.rd_lt hf15))), (Enc.rd_agr hf16 (hM.a00 (Enc.rd_lt hf16))), (Enc.rd_agr hf17 (hM.a00 (Enc.rd_lt hf17)))⟩) (Enc.rd_agr hp8 (hM.a00 (Enc.rd_lt hp8))) hx22) fun e23 w24 hR => ?_
  obtain ⟨v29, F25, rfl, hE, hf26, hfr27⟩ := hR
  refine ⟨_, rfl, fun a hK => ?_⟩
  have hM := hM.new hE F25 (fun b hb => ⟨hfr27 b hb, Enc.rd_lt (Enc.ow_rd hf26) b hb⟩) (Enc.ow_nd hf26)
  refine s_val hK rfl rfl rfl (r_len (α := Item) (Enc.ow_rd hf26) hK Tryz.underlying38 rfl rfl) fun a hK => ?_
  refine s1 hK rfl rfl rfl rfl fun a hK => ?_
  refine wpList_nil (nm_then ?_)
  refine wp_block ?_
  refine c_loop (fun n a w => ∃ (n59 : Int) (x60 : Int), K 27 [(5, .int .i64 (n59)), (10, v29), (11, .int .i64 ((x21.length : Int))), (12, .int .i64 (x60))] a ∧ St [] w0 w [(F25, w24)] ∧ d_impl_VolumeOf_L1 fu x21 n n59 x60 = some r) ?_ ?_ fu _ _ ?_
  · rintro a w ⟨_, _, _, _, h⟩
    cases (show none = some _ from h)
  · rintro m61 a w58 ⟨n59, x60, hK, hM, h⟩
    rw [d_impl_VolumeOf_L1_s] at h
    unfold d_impl_VolumeOf_L1_B at h
    refine wp_seq ?_
    refine wp_region_lit ?_
    refine s1 hK rfl rfl rfl rfl fun a hK => ?_
    refine wpList_nil (nm_then ?_)
    refine wp_seq ?_
    refine c_cond (b := decide (x60 < ((x21.length : Int)))) hK rfl (fun hb62 => ?_) (fun hb62 => ?_)
    · have h := bif_t hb62 h
      refine wp_skip (nm_then ?_)
      refine wp_seq ?_
      refine wp_block ?_
      refine wp_seq ?_
      refine wp_region_lit ?_
      obtain ⟨x63, hx64, h⟩ := obind_some h
      refine s_val hK rfl rfl rfl (r_ixa (Enc.ow_rd hf26) hx64 hK ts38 rfl rfl rfl) fun a hK => ?_
      refine s_val hK rfl rfl rfl (r_lde (Enc.ow_rd hf26) (hM.a 0 rfl) hx64 ta120 hK rfl rfl) fun a hK => ?_
      refine s_alloc (cs := [.int .i64 (0), .int .i64 (0), .int .i64 (0), .int .i64 (0), .int .i64 (0), .int .i64 (0), .int .i64 (0)]) hM hK Tryz.zeroValue120 rfl rfl rfl rfl rfl fun b65 w67 a hK hM hE hb66 => ?_
      refine s_stb (cs' := [.int .i64 (x63.fId), .int .i64 (x63.fW), .int .i64 (x63.fH), .int .i64 (x63.fD), .int .i64 (x63.fGram), .int .i64 (x63.fClass), .int .i64 (x63.fCount)]) Tryz.sizeOf120 hM 0 hb66 0 hK rfl rfl rfl rfl rfl rfl rfl rfl rfl rfl rfl fun w68 a hK hE hM hb69 => ?_
      refine wpList_nil (nm_then ?_)
      refine wp_region_lit ?_
      refine s1 hK rfl rfl rfl rfl fun a hK => ?_
      refine s_val hK rfl rfl rfl (r_fa fa120_1 hK rfl rfl) fun a hK => ?_
      refine s_val hK rfl rfl rfl (r_ldb t13 hM 0 hb69 1 hK rfl rfl rfl rfl rfl) fun a hK => ?_
      refine s_val hK rfl rfl rfl (r_fa fa120_2 hK rfl rfl) fun a hK => ?_
      refine s_val hK rfl rfl rfl (r_ldb t13 hM 0 hb69 2 hK rfl rfl rfl rfl rfl) fun a hK => ?_
      refine s_val hK rfl rfl rfl (r_fa fa120_3 hK rfl rfl) fun a hK => ?_
      refine s_val hK rfl rfl rfl (r_ldb t13 hM 0 hb69 3 hK rfl rfl rfl rfl rfl) fun a hK => ?_
      obtain ⟨x70, hx71, h⟩ := obind_some h
      refine s_call hK Tryz.call78 rfl rfl rfl rfl rfl (c_impl_Volume fu _ _ _  hx71) fun e72 w73 hR => ?_
      obtain ⟨rfl, hE⟩ := hR
      refine ⟨_, rfl, fun a hK => ?_⟩
      have hM := hM.step hE
      iterate 2 (refine s1 hK rfl rfl rfl rfl fun a hK => ?_)
      refine wpList_nil (nm_block (nm_then ?_))
      refine wp_region_lit ?_
      iterate 2 (refine s1 hK rfl rfl rfl rfl fun a hK => ?_)
      refine wpList_nil (nm_then ?_)
      exact ⟨w64 (n59 + x70), w64 (x60 + 1), hK.keep [5, 10, 11, 12] rfl, hM.sel [1] rfl (by decide), h⟩
    · have h := bif_f hb62 h
      refine wp_exit (ex_then (ex_then (ex_same (nm_then ?_))))
      refine wp_seq ?_
      refine wp_region_lit ?_
      iterate 2 (refine s1 hK rfl rfl rfl rfl fun a hK => ?_)
      refine wpList_nil (nm_then ?_)
      refine wp_ret ?_
      have h := Option.some.inj h
      subst h
      exact finR1 hK rfl (RV.tmp hK rfl) ⟨rfl, hM.ext⟩
  · exact ⟨0, 0, hK.keep [5, 10, 11, 12] rfl, hM.sel [0] rfl (by decide), h⟩

theorem c_impl_SlackVolume (fu : Nat) {w0 : World} (r1 : Request) (kv5 : Int) {cs2 : List Value} {F3 : List Nat} (hp4 : rd w0 F3 cs2 r1) {r : Bool}
    (h : d_impl_SlackVolume fu r1 kv5 = some r) :
    Calls Tryz.prog 32 #[.agg cs2.toArray, .int .i64 (kv5)] w0 fun e w => e = .returned (.bool (r)) ∧ Ext [] w0 w := by
  refine enter (vs := [_, _]) Tryz.func32 rfl Tryz.ntmps32 rfl fun a hK => ?_
  have hM := St.start w0
  obtain ⟨v6, F7, v8, F9, v10, F11, rfl, rfl, hf12, hf13, hf14⟩ := hp4
  unfold d_impl_SlackVolume at h
  refine wp_seq ?_
  refine wp_region_lit ?_
  refine s_box (cs := [.int .i64 (r1.fWay), .int .i64 (r1.fPallet.fW), .int .i64 (r1.fPallet.fD), .int .i64 (r1.fPallet.fH), .int .i64 (r1.fPallet.fGram), .int .i64 (r1.fClasses), v6, v8, .int .i64 (r1.fMaster), v10]) hM hK rfl rfl rfl rfl rfl rfl fun b15 w17 a hK hM hE hb16 => ?_
  refine s1 hK rfl rfl rfl rfl fun a hK => ?_
  refine wpList_nil (nm_then ?_)
  refine wp_seq ?_
  refine wp_region_lit ?_
  refine s_val hK rfl rfl rfl (r_ldB ta40 hM 0 hb16 0 hK rfl rfl rfl rfl rfl rfl) fun a hK => ?_
  obtain ⟨x18, hx19, h⟩ := obind_some h
  refine s_call hK Tryz.call92 rfl rfl rfl rfl rfl (c_impl_masterRoom fu _ (show rd _ _ [.int .i64 (r1.fWay), .int .i64 (r1.fPallet.fW), .int .i64 (r1.fPallet.fD), .int .i64 (r1.fPallet.fH), .int .i64 (r1.fPallet.fGram), .int .i64 (r1.fClasses), v6, v8, .int .i64 (r1.fMaster), v10] (r1 : Request) from ⟨_, _, _, _, _, _, rfl, rfl, (Enc.rd_agr hf12 (hM.a00 (Enc.rd_lt hf12))), (Enc.rd_agr hf13 (hM.a00 (Enc.rd_lt hf13))), (Enc.rd_agr hf14 (hM.a00 (Enc.rd_lt hf14)))⟩) hx19) fun e20 w21 hR => ?_
  obtain ⟨rfl, hE⟩ := hR
  refine ⟨_, rfl, fun a hK => ?_⟩
  have hM := hM.step hE
  iterate 5 (refine s1 hK rfl rfl rfl rfl fun a hK => ?_)
  refine wpList_nil (nm_then ?_)
  refine wp_seq ?_
  refine d_go [] mixo hM rfl fun w22 hMd => ?_
  have hM := hMd
  have hS := Ext.refl ([] : List Nat) w22
  refine d_take hK 0 rfl (by kernel_rfl) (by kernel_rfl) (by kernel_rfl) rfl rfl rfl hS (fun _ _ _ h => h) (fun w hS => r_ldA ta40 (hb16.at ((hMd.step hS).a 0 rfl) 0 10 rfl rfl rfl) rfl hK rfl rfl) fun a hK => ?_
  refine d_pure hK 1 rfl (by kernel_rfl) (by kernel_rfl) (by kernel_rfl) rfl rfl rfl hS (fun _ _ _ h => h) rfl fun a hK => ?_
  refine d_one 2 (by kernel_rfl) rfl ?_
  obtain ⟨x23, hx24, h⟩ := obind_some h
  refine s_call hK Tryz.call93 rfl rfl rfl rfl rfl (c_impl_hasGroup fu _ _ (show rd _ _ [.int .i64 (r1.fWay), .int .i64 (r1.fPallet.fW), .int .i64 (r1.fPallet.fD), .int .i64 (r1.fPallet.fH), .int .i64 (r1.fPallet.fGram), .int .i64 (r1.fClasses), v6, v8, .int .i64 (r1.fMaster), v10] (r1 : Request) from ⟨_, _, _, _, _, _, rfl, rfl, (Enc.rd_agr hf12 (hM.a00 (Enc.rd_lt hf12))), (Enc.rd_agr hf13 (hM.a00 (Enc.rd_lt hf13))), (Enc.rd_agr hf14 (hM.a00 (Enc.rd_lt hf14)))⟩) hx24) fun e25 w26 hR => ?_
  obtain ⟨rfl, hE⟩ := hR
  refine ⟨_, rfl, fun a hK => ?_⟩
  have hM := hM.step hE
  have hS := hS.trans hE (by simp)
  refine wpList_nil ⟨hS, ?_⟩
  refine d_pure hK 3 rfl (by kernel_rfl) (by kernel_rfl) (by kernel_rfl) rfl rfl rfl hS (fun _ _ _ h => h) rfl fun a hK => ?_
  refine bsplit (x23) (fun hb27 => ?_) (fun hb27 => ?_)
  · have h := bif_t hb27 h
    have hK := hK.re (d := 15) rfl (congrArg Value.bool hb27)
    refine d_take hK 4 rfl (by kernel_rfl) (by kernel_rfl) (by kernel_rfl) rfl rfl rfl hS (fun _ _ _ h => h) (fun w hS => r_ldA ta40 (hb16.at ((hMd.step hS).a 0 rfl) 0 10 rfl rfl rfl) rfl hK rfl rfl) fun a hK => ?_
    refine d_take hK 5 rfl (by kernel_rfl) (by kernel_rfl) (by kernel_rfl) rfl rfl rfl hS (fun _ _ _ h => h) (fun w hS => r_ldA ta40 (hb16.at ((hMd.step hS).a 0 rfl) 0 10 rfl rfl rfl) rfl hK rfl rfl) fun a hK => ?_
    refine d_pure hK 6 rfl (by kernel_rfl) (by kernel_rfl) (by kernel_rfl) rfl rfl rfl hS (fun _ _ _ h => h) rfl fun a hK => ?_
    refine d_pure hK 9 rfl (by kernel_rfl) (by kernel_rfl) (by kernel_rfl) rfl rfl rfl hS (fun _ _ _ h => h) rfl fun a hK => ?_
    refine d_one 7 (by kernel_rfl) rfl ?_
    obtain ⟨x28, hx29, h⟩ := obind_some h
    refine s_call hK Tryz.call95 rfl rfl rfl rfl rfl (c_impl_UnitsOf fu _ _ (show rd _ _ [.int .i64 (r1.fWay), .int .i64 (r1.fPallet.fW), .int .i64 (r1.fPallet.fD), .int .i64 (r1.fPallet.fH), .int .i64 (r1.fPallet.fGram), .int .i64 (r1.fClasses), v6, v8, .int .i64 (r1.fMaster), v10] (r1 : Request) from ⟨_, _, _, _, _, _, rfl, rfl, (Enc.rd_agr hf12 (hM.a00 (Enc.rd_lt hf12))), (Enc.rd_agr hf13 (hM.a00 (Enc.rd_lt hf13))), (Enc.rd_agr hf14 (hM.a00 (Enc.rd_lt hf14)))⟩) hx29) fun e30 w31 hR => ?_
    obtain ⟨v36, F32, rfl, hE, hf33, hfr34⟩ := hR
    refine ⟨_, rfl, fun a hK => ?_⟩
    have hM := hM.new hE F32 (fun b hb => ⟨hfr34 b hb, Enc.rd_lt (Enc.ow_rd hf33) b hb⟩) (Enc.ow_nd hf33)
    have hlo37 := fun (y : Nat) (hy : y ∈ F32) => Nat.le_trans hS.size (hfr34 y hy)
    have hS := hS.trans hE (by simp)
    refine wpList_nil ⟨hS, ?_⟩
    refine d_one 8 (by kernel_rfl) rfl ?_
    obtain ⟨x38, hx39, h⟩ := obind_some h
    refine s_call hK Tryz.call77 rfl rfl rfl rfl rfl (c_impl_VolumeOf fu _ _ (show rd _ _ [.int .i64 (r1.fWay), .int .i64 (r1.fPallet.fW), .int .i64 (r1.fPallet.fD), .int .i64 (r1.fPallet.fH), .int .i64 (r1.fPallet.fGram), .int .i64 (r1.fClasses), v6, v8, .int .i64 (r1.fMaster), v10] (r1 : Request) from ⟨_, _, _, _, _, _, rfl, rfl, (Enc.rd_agr hf12 (hM.a00 (Enc.rd_lt hf12))), (Enc.rd_agr hf13 (hM.a00 (Enc.rd_lt hf13))), (Enc.rd_agr hf14 (hM.a00 (Enc.rd_lt hf14)))⟩) (Enc.rd_agr (Enc.ow_rd hf33) (hM.a 0 rfl)) hx39) fun e40 w41 hR => ?_
    obtain ⟨rfl, hE⟩ := hR
    refine ⟨_, rfl, fun a hK => ?_⟩
    have hM := hM.step hE
    have hS := hS.trans hE (by simp)
    refine wpList_nil ⟨hS, ?_⟩
    refine d_pure hK 10 rfl (by kernel_rfl) (by kernel_rfl) (by kernel_rfl) rfl rfl rfl hS (fun _ _ _ h => h) rfl fun a hK => ?_
    refine d_pure hK 11 rfl (by kernel_rfl) (by kernel_rfl) (by kernel_rfl) rfl rfl rfl hS (fun _ _ _ h => h) rfl fun a hK => ?_
    refine d_pure hK 12 rfl (by kernel_rfl) (by kernel_rfl) (by kernel_rfl) rfl rfl rfl hS (fun _ _ _ h => h) rfl fun a hK => ?_
    refine d_done (by kernel_rfl) ?_
    refine (nm_then ?_)
    refine wp_ret ?_
    have h := Option.some.inj h
    subst h
    exact finR1 hK rfl (RV.tmp hK rfl) ⟨rfl, hM.ext⟩
  · have h := bif_f hb27 h
    have hK := hK.re (d := 15) rfl (congrArg Value.bool hb27)
    refine d_skip hK 4 rfl (by kernel_rfl) (by kernel_rfl) (by kernel_rfl) rfl rfl rfl hS (fun _ _ _ h => h) fun a hK => ?_
    refine d_skip hK 5 rfl (by kernel_rfl) (by kernel_rfl) (by kernel_rfl) rfl rfl rfl hS (fun _ _ _ h => h) fun a hK => ?_
    refine d_skip hK 6 rfl (by kernel_rfl) (by kernel_rfl) (by kernel_rfl) rfl rfl rfl hS (fun _ _ _ h => h) fun a hK => ?_
    refine d_skip hK 7 rfl (by kernel_rfl) (by kernel_rfl) (by kernel_rfl) rfl rfl rfl hS (fun _ _ _ h => h) fun a hK => ?_
    refine d_skip hK 8 rfl (by kernel_rfl) (by kernel_rfl) (by kernel_rfl) rfl rfl rfl hS (fun _ _ _ h => h) fun a hK => ?_
    refine d_skip hK 9 rfl (by kernel_rfl) (by kernel_rfl) (by kernel_rfl) rfl rfl rfl hS (fun _ _ _ h => h) fun a hK => ?_
    refine d_skip hK 10 rfl (by kernel_rfl) (by kernel_rfl) (by kernel_rfl) rfl rfl rfl hS (fun _ _ _ h => h) fun a hK => ?_
    refine d_pure hK 11 rfl (by kernel_rfl) (by kernel_rfl) (by kernel_rfl) rfl rfl rfl hS (fun _ _ _ h => h) rfl fun a hK => ?_
    refine d_pure hK 12 rfl (by kernel_rfl) (by kernel_rfl) (by kernel_rfl) rfl rfl rfl hS (fun _ _ _ h => h) rfl fun a hK => ?_
    refine d_done (by kernel_rfl) ?_
    refine (nm_then ?_)
    refine wp_ret ?_
    have h := Option.some.inj h
    subst h
    exact finR1 hK rfl (RV.tmp hK rfl) ⟨rfl, hM.ext⟩

theorem c_impl_Promise (fu : Nat) {w0 : World} (r1 : Request) (kv5 : Int) (n6 : Int) {cs2 : List Value} {F3 : List Nat} (hp4 : rd w0 F3 cs2 r1) {r : Int}
    (h : d_impl_Promise fu r1 kv5 n6 = some r) :
    Calls Tryz.prog 54 #[.agg cs2.toArray, .int .i64 (kv5), .int .i64 (n6)] w0 fun e w => e = .returned (.int .i64 (r)) ∧ Ext [] w0 w := by
  refine enter (vs := [_, _, _]) Tryz.func54 rfl Tryz.ntmps54 rfl fun a hK => ?_
  have hM := St.start w0
  obtain ⟨v7, F8, v9, F10, v11, F12, rfl, rfl, hf13, hf14, hf15⟩ := hp4
  unfold d_impl_Promise at h
  refine wp_seq ?_
  refine wp_region_lit ?_
  refine s_box (cs := [.int .i64 (r1.fWay), .int .i64 (r1.fPallet.fW), .int .i64 (r1.fPallet.fD), .int .i64 (r1.fPallet.fH), .int .i64 (r1.fPallet.fGram), .int .i64 (r1.fClasses), v7, v9, .int .i64 (r1.fMaster), v11]) hM hK rfl rfl rfl rfl rfl rfl fun b16 w18 a hK hM hE hb17 => ?_
  refine s1 hK rfl rfl rfl rfl fun a hK => ?_
  refine wpList_nil (nm_then ?_)
  refine c_cut (fun a w => K 48 [(1, .int .i64 (kv5)), (2, .int .i64 (n6)), (3, .pointer (some (⟨b16, 0, none⟩ : Addr)))] a ∧ St [] w0 w [([b16], w18)] ∧ d_impl_Promise_J3 fu r1 kv5 n6 = some r) ?_ ?_
  · rintro a w25 ⟨hK, hM, h⟩
    unfold d_impl_Promise_J3 at h
    refine wp_seq ?_
    refine wp_region_lit ?_
    iterate 3 (refine s1 hK rfl rfl rfl rfl fun a hK => ?_)
    refine wpList_nil (nm_then ?_)
    refine wp_seq ?_
    refine wp_region_lit ?_
    iterate 4 (refine s1 hK rfl rfl rfl rfl fun a hK => ?_)
    refine wpList_nil (nm_then ?_)
    refine c_cut (fun a w => ∃ (out37 : Int), K 48 [(1, .int .i64 (kv5)), (2, .int .i64 (if 1000 < n6 then 1000 else n6)), (3, .pointer (some (⟨b16, 0, none⟩ : Addr))), (7, .int .i64 (out37))] a ∧ St [] w0 w [([b16], w18)] ∧ d_impl_Promise_J2 fu r1 kv5 n6 out37 = some r) ?_ ?_
    · rintro a w36 ⟨out37, hK, hM, h⟩
      unfold d_impl_Promise_J2 at h
      refine c_cut (fun a w => ∃ (out45 : Int), K 48 [(7, .int .i64 (out45))] a ∧ St [] w0 w [] ∧ d_impl_Promise_J1 fu out45 = some r) ?_ ?_
      · rintro a w44 ⟨out45, hK, hM, h⟩
        unfold d_impl_Promise_J1 at h
        refine wp_seq ?_
        refine wp_region_lit ?_
        iterate 2 (refine s1 hK rfl rfl rfl rfl fun a hK => ?_)
        refine wpList_nil (nm_then ?_)
        refine wp_ret ?_
        have h := Option.some.inj h
        subst h
        exact finR1 hK rfl (RV.tmp hK rfl) ⟨rfl, hM.ext⟩
      · refine wp_seq ?_
        refine wp_region_lit ?_
        refine s_val hK rfl rfl rfl (r_ldB ta40 hM 0 hb17 0 hK rfl rfl rfl rfl rfl rfl) fun a hK => ?_
        refine s1 hK rfl rfl rfl rfl fun a hK => ?_
        obtain ⟨x46, hx47, h⟩ := obind_some h
        refine s_call hK Tryz.call30 rfl rfl rfl rfl rfl (c_impl_SlackGram fu _ _ (show rd _ _ [.int .i64 (r1.fWay), .int .i64 (r1.fPallet.fW), .int .i64 (r1.fPallet.fD), .int .i64 (r1.fPallet.fH), .int .i64 (r1.fPallet.fGram), .int .i64 (r1.fClasses), v7, v9, .int .i64 (r1.fMaster), v11] (r1 : Request) from ⟨_, _, _, _, _, _, rfl, rfl, (Enc.rd_agr hf13 (hM.a00 (Enc.rd_lt hf13))), (Enc.rd_agr hf14 (hM.a00 (Enc.rd_lt hf14))), (Enc.rd_agr hf15 (hM.a00 (Enc.rd_lt hf15)))⟩) hx47) fun e48 w49 hR => ?_
        obtain ⟨rfl, hE⟩ := hR
        refine ⟨_, rfl, fun a hK => ?_⟩
        have hM := hM.step hE
        refine s1 hK rfl rfl rfl rfl fun a hK => ?_
        refine bsplit (x46) (fun hb50 => ?_) (fun hb50 => ?_)
        · have h := bif_t hb50 h
          have hK := hK.re (d := 37) rfl (congrArg Value.bool hb50)
          refine s_val hK rfl rfl rfl (r_fa fa40_0 hK rfl rfl) fun a hK => ?_
          refine s_val hK rfl rfl rfl (r_ldb t13 hM 0 hb17 0 hK rfl rfl rfl rfl rfl) fun a hK => ?_
          iterate 2 (refine s1 hK rfl rfl rfl rfl fun a hK => ?_)
          refine wpList_nil (nm_then ?_)
          refine c_cond (b := r1.fWay == 0) hK rfl (fun hb51 => ?_) (fun hb51 => ?_)
          · have h := bif_t hb51 h
            refine wp_region_lit ?_
            iterate 6 (refine s1 hK rfl rfl rfl rfl fun a hK => ?_)
            refine wpList_nil (nm_then ?_)
            exact ⟨if (w64 (Int.tdiv (w64 (3 * (if 1000 < n6 then 1000 else n6))) 2)) < out37 then w64 (Int.tdiv (w64 (3 * (if 1000 < n6 then 1000 else n6))) 2) else out37, hK.keep [7] rfl, hM.sel [] rfl (by decide), h⟩
          · have h := bif_f hb51 h
            refine wp_skip (nm_then ?_)
            exact ⟨out37, hK.keep [7] rfl, hM.sel [] rfl (by decide), h⟩
        · have h := bif_f hb50 h
          have hK := hK.re (d := 37) rfl (congrArg Value.bool hb50)
          refine sk hK rfl rfl rfl fun a hK => ?_
          refine sk hK rfl rfl rfl fun a hK => ?_
          refine sk hK rfl rfl rfl fun a hK => ?_
          refine s1 hK rfl rfl rfl rfl fun a hK => ?_
          refine wpList_nil (nm_then ?_)
          refine wp_cond_false (hK.ev rfl) ?_
          refine wp_skip (nm_then ?_)
          exact ⟨out37, hK.keep [7] rfl, hM.sel [] rfl (by decide), h⟩
    · refine wp_seq ?_
      refine wp_region_lit ?_
      refine s_val hK rfl rfl rfl (r_ldB ta40 hM 0 hb17 0 hK rfl rfl rfl rfl rfl rfl) fun a hK => ?_
      refine s1 hK rfl rfl rfl rfl fun a hK => ?_
      obtain ⟨x52, hx53, h⟩ := obind_some h
      refine s_call hK Tryz.call30 rfl rfl rfl rfl rfl (c_impl_SlackGram fu _ _ (show rd _ _ [.int .i64 (r1.fWay), .int .i64 (r1.fPallet.fW), .int .i64 (r1.fPallet.fD), .int .i64 (r1.fPallet.fH), .int .i64 (r1.fPallet.fGram), .int .i64 (r1.fClasses), v7, v9, .int .i64 (r1.fMaster), v11] (r1 : Request) from ⟨_, _, _, _, _, _, rfl, rfl, (Enc.rd_agr hf13 (hM.a00 (Enc.rd_lt hf13))), (Enc.rd_agr hf14 (hM.a00 (Enc.rd_lt hf14))), (Enc.rd_agr hf15 (hM.a00 (Enc.rd_lt hf15)))⟩) hx53) fun e54 w55 hR => ?_
      obtain ⟨rfl, hE⟩ := hR
      refine ⟨_, rfl, fun a hK => ?_⟩
      have hM := hM.step hE
      refine s1 hK rfl rfl rfl rfl fun a hK => ?_
      refine bsplit (x52) (fun hb56 => ?_) (fun hb56 => ?_)
      · have h := bif_t hb56 h
        have hK := hK.re (d := 24) rfl (congrArg Value.bool hb56)
        refine sk hK rfl rfl rfl fun a hK => ?_
        refine sk hK rfl rfl rfl fun a hK => ?_
        refine sk hK rfl rfl rfl fun a hK => ?_
        refine s1 hK rfl rfl rfl rfl fun a hK => ?_
        refine wpList_nil (nm_then ?_)
        refine wp_cond_true (hK.ev rfl) ?_
        refine wp_region_lit ?_
        iterate 6 (refine s1 hK rfl rfl rfl rfl fun a hK => ?_)
        refine wpList_nil (nm_then ?_)
        exact ⟨if (w64 ((w64 (2 * (if 1000 < n6 then 1000 else n6))) - 1)) < (w64 ((w64 (4 * (if 1000 < n6 then 1000 else n6))) - 1)) then w64 ((w64 (2 * (if 1000 < n6 then 1000 else n6))) - 1) else w64 ((w64 (4 * (if 1000 < n6 then 1000 else n6))) - 1), hK.keep [1, 2, 3, 7] rfl, hM.sel [0] rfl (by decide), h⟩
      · have h := bif_f hb56 h
        have hK := hK.re (d := 24) rfl (congrArg Value.bool hb56)
        refine s_val hK rfl rfl rfl (r_ldB ta40 hM 0 hb17 0 hK rfl rfl rfl rfl rfl rfl) fun a hK => ?_
        refine s1 hK rfl rfl rfl rfl fun a hK => ?_
        obtain ⟨x57, hx58, h⟩ := obind_some h
        refine s_call hK Tryz.call32 rfl rfl rfl rfl rfl (c_impl_SlackVolume fu _ _ (show rd _ _ [.int .i64 (r1.fWay), .int .i64 (r1.fPallet.fW), .int .i64 (r1.fPallet.fD), .int .i64 (r1.fPallet.fH), .int .i64 (r1.fPallet.fGram), .int .i64 (r1.fClasses), v7, v9, .int .i64 (r1.fMaster), v11] (r1 : Request) from ⟨_, _, _, _, _, _, rfl, rfl, (Enc.rd_agr hf13 (hM.a00 (Enc.rd_lt hf13))), (Enc.rd_agr hf14 (hM.a00 (Enc.rd_lt hf14))), (Enc.rd_agr hf15 (hM.a00 (Enc.rd_lt hf15)))⟩) hx58) fun e59 w60 hR => ?_
        obtain ⟨rfl, hE⟩ := hR
        refine ⟨_, rfl, fun a hK => ?_⟩
        have hM := hM.step hE
        refine s1 hK rfl rfl rfl rfl fun a hK => ?_
        refine wpList_nil (nm_then ?_)
        refine c_cond (b := x57) hK rfl (fun hb61 => ?_) (fun hb61 => ?_)
        · have h := bif_t hb61 h
          refine wp_region_lit ?_
          iterate 6 (refine s1 hK rfl rfl rfl rfl fun a hK => ?_)
          refine wpList_nil (nm_then ?_)
          exact ⟨if (w64 ((w64 (2 * (if 1000 < n6 then 1000 else n6))) - 1)) < (w64 ((w64 (4 * (if 1000 < n6 then 1000 else n6))) - 1)) then w64 ((w64 (2 * (if 1000 < n6 then 1000 else n6))) - 1) else w64 ((w64 (4 * (if 1000 < n6 then 1000 else n6))) - 1), hK.keep [1, 2, 3, 7] rfl, hM.sel [0] rfl (by decide), h⟩
        · have h := bif_f hb61 h
          refine wp_skip (nm_then ?_)
          exact ⟨w64 ((w64 (4 * (if 1000 < n6 then 1000 else n6))) - 1), hK.keep [1, 2, 3, 7] rfl, hM.sel [0] rfl (by decide), h⟩
  · refine wp_seq ?_
    refine wp_region_lit ?_
    iterate 3 (refine s1 hK rfl rfl rfl rfl fun a hK => ?_)
    refine bsplit (decide (n6 < 1)) (fun hb62 => ?_) (fun hb62 => ?_)
    · have h := bif_t hb62 h
      have hK := hK.re (d := 10) rfl (congrArg Value.bool hb62)
      refine sk hK rfl rfl rfl fun a hK => ?_
      refine sk hK rfl rfl rfl fun a hK => ?_
      refine sk hK rfl rfl rfl fun a hK => ?_
      refine sk hK rfl rfl rfl fun a hK => ?_
      refine s1 hK rfl rfl rfl rfl fun a hK => ?_
      refine wpList_nil (nm_then ?_)
      refine wp_cond_true (hK.ev rfl) ?_
      refine wp_seq ?_
      refine wp_region_lit ?_
      refine s1 hK rfl rfl rfl rfl fun a hK => ?_
      refine wpList_nil (nm_then ?_)
      refine wp_ret (rt_then ?_)
      have h := Option.some.inj h
      subst h
      exact finR1 hK rfl (RV.tmp hK rfl) ⟨rfl, hM.ext⟩
    · have h := bif_f hb62 h
      have hK := hK.re (d := 10) rfl (congrArg Value.bool hb62)
      refine s_val hK rfl rfl rfl (r_ldB ta40 hM 0 hb17 0 hK rfl rfl rfl rfl rfl rfl) fun a hK => ?_
      refine s1 hK rfl rfl rfl rfl fun a hK => ?_
      obtain ⟨x63, hx64, h⟩ := obind_some h
      refine s_call hK Tryz.call93 rfl rfl rfl rfl rfl (c_impl_hasGroup fu _ _ (show rd _ _ [.int .i64 (r1.fWay), .int .i64 (r1.fPallet.fW), .int .i64 (r1.fPallet.fD), .int .i64 (r1.fPallet.fH), .int .i64 (r1.fPallet.fGram), .int .i64 (r1.fClasses), v7, v9, .int .i64 (r1.fMaster), v11] (r1 : Request) from ⟨_, _, _, _, _, _, rfl, rfl, (Enc.rd_agr hf13 (hM.a00 (Enc.rd_lt hf13))), (Enc.rd_agr hf14 (hM.a00 (Enc.rd_lt hf14))), (Enc.rd_agr hf15 (hM.a00 (Enc.rd_lt hf15)))⟩) hx64) fun e65 w66 hR => ?_
      obtain ⟨rfl, hE⟩ := hR
      refine ⟨_, rfl, fun a hK => ?_⟩
      have hM := hM.step hE
      iterate 2 (refine s1 hK rfl rfl rfl rfl fun a hK => ?_)
      refine wpList_nil (nm_then ?_)
      refine c_cond (b := !x63) hK rfl (fun hb67 => ?_) (fun hb67 => ?_)
      · have h := bif_t hb67 h
        refine wp_seq ?_
        refine wp_region_lit ?_
        refine s1 hK rfl rfl rfl rfl fun a hK => ?_
        refine wpList_nil (nm_then ?_)
        refine wp_ret (rt_then ?_)
        have h := Option.some.inj h
        subst h
        exact finR1 hK rfl (RV.tmp hK rfl) ⟨rfl, hM.ext⟩
      · have h := bif_f hb67 h
        refine wp_skip (nm_then ?_)
        exact ⟨hK.keep [1, 2, 3] rfl, hM.sel [0] rfl (by decide), h⟩

end Go.Proofs.YthjbcfefkdbgoaaGreat
