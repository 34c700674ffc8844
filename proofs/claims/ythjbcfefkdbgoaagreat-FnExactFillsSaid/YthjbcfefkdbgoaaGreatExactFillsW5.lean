/- FnExactFills: the walks of functions that the law reaches, part 5. Printed by gen.py. -/
import Derived.Test.YthjbcfefkdbgoaaGreatExactFillsW4
set_option maxRecDepth 20000
set_option linter.unusedSimpArgs false
set_option linter.unusedVariables false
namespace Go.Proofs.YthjbcfefkdbgoaaGreat
open Go Go.RowKit
open Enc (rd ow)
open Arg (argv)
open Ret (retv)



def d_impl_sound (fu : Nat) (r1 : Request) : Option (Bool) :=
  obind (d_impl_Class fu r1) fun x17 => some (x17 == 0)

def d_bits_Mul32 (fu : Nat) (x1 : Int) (y2 : Int) : Option (Int × Int) :=
  some (IntKind.wrap .u32 (Int.fdiv (IntKind.wrap .u64 ((IntKind.wrap .u64 x1) * (IntKind.wrap .u64 y2))) (2 ^ (min 32 (IntKind.bits .u64)))), IntKind.wrap .u32 (IntKind.wrap .u64 ((IntKind.wrap .u64 x1) * (IntKind.wrap .u64 y2))))

def d_bits_Mul64 (fu : Nat) (x1 : Int) (y2 : Int) : Option (Int × Int) :=
  some (IntKind.wrap .u64 ((IntKind.wrap .u64 ((IntKind.wrap .u64 ((Int.fdiv x1 (2 ^ (min 32 (IntKind.bits .u64)))) * (Int.fdiv y2 (2 ^ (min 32 (IntKind.bits .u64)))))) + (Int.fdiv (IntKind.wrap .u64 ((IntKind.wrap .u64 ((Int.fdiv x1 (2 ^ (min 32 (IntKind.bits .u64)))) * (IntKind.wrap .u64 (((BitVec.ofInt (IntKind.bits .u64) y2 &&& BitVec.ofInt (IntKind.bits .u64) 4294967295).toNat : Nat) : Int)))) + (Int.fdiv (IntKind.wrap .u64 ((IntKind.wrap .u64 (((BitVec.ofInt (IntKind.bits .u64) x1 &&& BitVec.ofInt (IntKind.bits .u64) 4294967295).toNat : Nat) : Int)) * (IntKind.wrap .u64 (((BitVec.ofInt (IntKind.bits .u64) y2 &&& BitVec.ofInt (IntKind.bits .u64) 4294967295).toNat : Nat) : Int)))) (2 ^ (min 32 (IntKind.bits .u64)))))) (2 ^ (min 32 (IntKind.bits .u64)))))) + (Int.fdiv (IntKind.wrap .u64 ((IntKind.wrap .u64 (((BitVec.ofInt (IntKind.bits .u64) (IntKind.wrap .u64 ((IntKind.wrap .u64 ((Int.fdiv x1 (2 ^ (min 32 (IntKind.bits .u64)))) * (IntKind.wrap .u64 (((BitVec.ofInt (IntKind.bits .u64) y2 &&& BitVec.ofInt (IntKind.bits .u64) 4294967295).toNat : Nat) : Int)))) + (Int.fdiv (IntKind.wrap .u64 ((IntKind.wrap .u64 (((BitVec.ofInt (IntKind.bits .u64) x1 &&& BitVec.ofInt (IntKind.bits .u64) 4294967295).toNat : Nat) : Int)) * (IntKind.wrap .u64 (((BitVec.ofInt (IntKind.bits .u64) y2 &&& BitVec.ofInt (IntKind.bits .u64) 4294967295).toNat : Nat) : Int)))) (2 ^ (min 32 (IntKind.bits .u64)))))) &&& BitVec.ofInt (IntKind.bits .u64) 4294967295).toNat : Nat) : Int)) + (IntKind.wrap .u64 ((IntKind.wrap .u64 (((BitVec.ofInt (IntKind.bits .u64) x1 &&& BitVec.ofInt (IntKind.bits .u64) 4294967295).toNat : Nat) : Int)) * (Int.fdiv y2 (2 ^ (min 32 (IntKind.bits .u64)))))))) (2 ^ (min 32 (IntKind.bits .u64))))), IntKind.wrap .u64 (x1 * y2))

def d_bits_Mul (fu : Nat) (x1 : Int) (y2 : Int) : Option (Int × Int) :=
  obind (d_bits_Mul64 fu x1 y2) fun x3 => some (x3.1, x3.2)

def d_slices_Repeat_int_int_L1_B (fu : Nat)   (k3 : List Int → Int → Option ((List Int))) (newslice64 : List Int) (n69 : Int) : Option ((List Int)) :=
  bif (decide (n69 < ((newslice64.length : Int)))) then obind (sls newslice64 n69 (newslice64.length : Int)) fun x73 => obind (sls newslice64 0 n69) fun x79 => k3 (cpd newslice64 n69 x79) (w64 (n69 + (cpn newslice64 n69 x79))) else some (newslice64)
def d_slices_Repeat_int_int_L1 (fu : Nat)   : Nat → List Int → Int → Option ((List Int))
  | 0 => fun _ _ => none
  | n + 1 => d_slices_Repeat_int_int_L1_B fu  (d_slices_Repeat_int_int_L1 fu  n)
theorem d_slices_Repeat_int_int_L1_s (fu : Nat)   (n : Nat) : d_slices_Repeat_int_int_L1 fu  (n + 1) = d_slices_Repeat_int_int_L1_B fu  (d_slices_Repeat_int_int_L1 fu  n) := rfl

def d_slices_Repeat_int_int_J1 (fu : Nat) (x1 : List Int) (x8 : Int × Int)  : Option ((List Int)) :=
  obind (mk 8 (0 : Int) (w64 x8.2)) fun x15 => d_slices_Repeat_int_int_L1 fu fu (cpd x15 0 x1) (cpn x15 0 x1)

def d_slices_Repeat_int_int_J2 (fu : Nat) (x1 : List Int) (count5 : Int)  : Option ((List Int)) :=
  obind (d_bits_Mul fu (IntKind.wrap .u64 ((x1.length : Int))) (IntKind.wrap .u64 count5)) fun x8 => bif (decide (x8.1 > 0)) then none else bif (decide (x8.2 > 9223372036854775807)) then none else d_slices_Repeat_int_int_J1 fu x1 x8

def d_slices_Repeat_int_int (fu : Nat) (x1 : List Int) (count5 : Int) : Option ((List Int)) :=
  bif (decide (count5 < 0)) then none else d_slices_Repeat_int_int_J2 fu x1 count5

def d_impl_Units_L1_B (fu : Nat)  (r1 : Request) (k1 : List Int → Int → Option ((List Int))) (out92 : List Int) (x97 : Int) : Option ((List Int)) :=
  bif (decide (x97 < ((r1.fItems.length : Int)))) then obind (ix r1.fItems x97) fun x100 => obind (d_slices_Repeat_int_int fu (([x97] : List Int)) x100.fCount) fun x112 => obind (apnd 8 out92 x112) fun x121 => k1 x121 (w64 (x97 + 1)) else some (out92)
def d_impl_Units_L1 (fu : Nat)  (r1 : Request) : Nat → List Int → Int → Option ((List Int))
  | 0 => fun _ _ => none
  | n + 1 => d_impl_Units_L1_B fu r1 (d_impl_Units_L1 fu r1 n)
theorem d_impl_Units_L1_s (fu : Nat)  (r1 : Request) (n : Nat) : d_impl_Units_L1 fu r1 (n + 1) = d_impl_Units_L1_B fu r1 (d_impl_Units_L1 fu r1 n) := rfl

def d_impl_Units (fu : Nat) (r1 : Request) : Option ((List Int)) :=
  obind (d_impl_sound fu r1) fun x17 => bif (!x17) then some (([] : List Int)) else d_impl_Units_L1 fu r1 fu (([] : List Int)) 0

def d_impl_itemsOf_J1 (fu : Nat) (k3 : List Item → Int → Option ((List Item))) (x171 : Int) (out202 : List Item) : Option ((List Item)) :=
  k3 out202 (w64 (x171 + 1))

def d_impl_itemsOf_L1_B (fu : Nat)  (r1 : Request) (units5 : List Int) (x21 : (List Int)) (k3 : List Item → Int → Option ((List Item))) (out166 : List Item) (x171 : Int) : Option ((List Item)) :=
  bif (decide (x171 < ((units5.length : Int)))) then obind (ix units5 x171) fun x207 => obind (d_impl_in fu x207 0 (w64 (((x21.length : Int)) - 1))) fun x209 => bif x209 then obind (ix x21 x207) fun x215 => obind (ix r1.fItems x215) fun x217 => obind (apnd 56 out166 (([x217] : List Item))) fun x226 => d_impl_itemsOf_J1 fu k3 x171 x226 else d_impl_itemsOf_J1 fu k3 x171 out166 else some (out166)
def d_impl_itemsOf_L1 (fu : Nat)  (r1 : Request) (units5 : List Int) (x21 : (List Int)) : Nat → List Item → Int → Option ((List Item))
  | 0 => fun _ _ => none
  | n + 1 => d_impl_itemsOf_L1_B fu r1 units5 x21 (d_impl_itemsOf_L1 fu r1 units5 x21 n)
theorem d_impl_itemsOf_L1_s (fu : Nat)  (r1 : Request) (units5 : List Int) (x21 : (List Int)) (n : Nat) : d_impl_itemsOf_L1 fu r1 units5 x21 (n + 1) = d_impl_itemsOf_L1_B fu r1 units5 x21 (d_impl_itemsOf_L1 fu r1 units5 x21 n) := rfl

def d_impl_itemsOf (fu : Nat) (r1 : Request) (units5 : List Int) : Option ((List Item)) :=
  obind (d_impl_Units fu r1) fun x21 => d_impl_itemsOf_L1 fu r1 units5 x21 fu (([] : List Item)) 0

def d_impl_Volume_J1 (fu : Nat) (wv1 : Int) (h2 : Int) (d3 : Int)  : Option (Int) :=
  some (w64 ((w64 (wv1 * h2)) * d3))

def d_impl_Volume (fu : Nat) (wv1 : Int) (h2 : Int) (d3 : Int) : Option (Int) :=
  obind (d_impl_in fu wv1 0 2000) fun x20 => bif (!x20) then some (0) else obind (d_impl_in fu h2 0 2000) fun x25 => bif (!x25) then some (0) else obind (d_impl_in fu d3 0 2000) fun x30 => bif (!x30) then some (0) else d_impl_Volume_J1 fu wv1 h2 d3

def d_impl_VolumeOf_L1_B (fu : Nat)  (x21 : (List Item)) (k1 : Int → Int → Option (Int)) (n59 : Int) (x60 : Int) : Option (Int) :=
  bif (decide (x60 < ((x21.length : Int)))) then obind (ix x21 x60) fun x63 => obind (d_impl_Volume fu x63.fW x63.fH x63.fD) fun x70 => k1 (w64 (n59 + x70)) (w64 (x60 + 1)) else some (n59)
def d_impl_VolumeOf_L1 (fu : Nat)  (x21 : (List Item)) : Nat → Int → Int → Option (Int)
  | 0 => fun _ _ => none
  | n + 1 => d_impl_VolumeOf_L1_B fu x21 (d_impl_VolumeOf_L1 fu x21 n)
theorem d_impl_VolumeOf_L1_s (fu : Nat)  (x21 : (List Item)) (n : Nat) : d_impl_VolumeOf_L1 fu x21 (n + 1) = d_impl_VolumeOf_L1_B fu x21 (d_impl_VolumeOf_L1 fu x21 n) := rfl

def d_impl_VolumeOf (fu : Nat) (r1 : Request) (units5 : List Int) : Option (Int) :=
  obind (d_impl_itemsOf fu r1 units5) fun x21 => d_impl_VolumeOf_L1 fu x21 fu 0 0

def d_impl_Fill_J1 (fu : Nat) (r1 : Request) (x5 : Carton) (x26 : Typ × Bool)  : Option (Int) :=
  obind (d_impl_VolumeOf fu r1 x5.fUnits) fun x43 => obind (d_impl_Volume fu x26.1.fW x26.1.fH x26.1.fD) fun x47 => obind (odiv x47) fun u51 => some (w64 (Int.tdiv (w64 (1000 * x43)) x47))

def d_impl_Fill (fu : Nat) (r1 : Request) (x5 : Carton) : Option (Int) :=
  obind (d_impl_TypeById fu r1 x5.fType) fun x26 => bif (!x26.2) then some (0) else obind (d_impl_sound fu r1) fun x54 => bif (!x54) then some (0) else d_impl_Fill_J1 fu r1 x5 x26

def d_impl_Fills_L1_B (fu : Nat)  (r1 : Request) (list5 : List Carton) (k1 : List Int → Int → Option ((List Int))) (out97 : List Int) (x102 : Int) : Option ((List Int)) :=
  bif (decide (x102 < ((list5.length : Int)))) then obind (ix list5 x102) fun x105 => obind (d_impl_Fill fu r1 x105) fun x120 => obind (apnd 8 out97 (([x120] : List Int))) fun x129 => k1 x129 (w64 (x102 + 1)) else some (out97)
def d_impl_Fills_L1 (fu : Nat)  (r1 : Request) (list5 : List Carton) : Nat → List Int → Int → Option ((List Int))
  | 0 => fun _ _ => none
  | n + 1 => d_impl_Fills_L1_B fu r1 list5 (d_impl_Fills_L1 fu r1 list5 n)
theorem d_impl_Fills_L1_s (fu : Nat)  (r1 : Request) (list5 : List Carton) (n : Nat) : d_impl_Fills_L1 fu r1 list5 (n + 1) = d_impl_Fills_L1_B fu r1 list5 (d_impl_Fills_L1 fu r1 list5 n) := rfl

def d_impl_Fills (fu : Nat) (r1 : Request) (list5 : List Carton) : Option ((List Int)) :=
  d_impl_Fills_L1 fu r1 list5 fu (([] : List Int)) 0

def d_laws_eqIntS_L1_B (fu : Nat)  (a1 : List Int) (b5 : List Int) (k1 : Int → Option (Bool)) (i28 : Int) : Option (Bool) :=
  bif (decide (i28 < ((a1.length : Int)))) then obind (ix a1 i28) fun x32 => obind (ix b5 i28) fun x34 => bif (x32 != x34) then some (false) else k1 (w64 (i28 + 1)) else some (true)
def d_laws_eqIntS_L1 (fu : Nat)  (a1 : List Int) (b5 : List Int) : Nat → Int → Option (Bool)
  | 0 => fun _ => none
  | n + 1 => d_laws_eqIntS_L1_B fu a1 b5 (d_laws_eqIntS_L1 fu a1 b5 n)
theorem d_laws_eqIntS_L1_s (fu : Nat)  (a1 : List Int) (b5 : List Int) (n : Nat) : d_laws_eqIntS_L1 fu a1 b5 (n + 1) = d_laws_eqIntS_L1_B fu a1 b5 (d_laws_eqIntS_L1 fu a1 b5 n) := rfl

def d_laws_eqIntS (fu : Nat) (a1 : List Int) (b5 : List Int) : Option (Bool) :=
  bif (((a1.length : Int)) != ((b5.length : Int))) then some (false) else d_laws_eqIntS_L1 fu a1 b5 fu 0

def d_laws_eqPallet (fu : Nat) (a1 : Pallet) (b2 : Pallet) : Option (Bool) :=
  bif (a1.fW != b2.fW) then some (false) else bif (a1.fD != b2.fD) then some (false) else bif (a1.fH != b2.fH) then some (false) else bif (a1.fGram != b2.fGram) then some (false) else some (true)

def d_laws_eqPair (fu : Nat) (a1 : Pair) (b2 : Pair) : Option (Bool) :=
  bif (a1.fA != b2.fA) then some (false) else bif (a1.fB != b2.fB) then some (false) else some (true)

def d_laws_eqPairS_L1_B (fu : Nat)  (a1 : List Pair) (b5 : List Pair) (k1 : Int → Option (Bool)) (i36 : Int) : Option (Bool) :=
  bif (decide (i36 < ((a1.length : Int)))) then obind (ix a1 i36) fun x40 => obind (ix b5 i36) fun x42 => obind (d_laws_eqPair fu x40 x42) fun x44 => bif (!x44) then some (false) else k1 (w64 (i36 + 1)) else some (true)
def d_laws_eqPairS_L1 (fu : Nat)  (a1 : List Pair) (b5 : List Pair) : Nat → Int → Option (Bool)
  | 0 => fun _ => none
  | n + 1 => d_laws_eqPairS_L1_B fu a1 b5 (d_laws_eqPairS_L1 fu a1 b5 n)
theorem d_laws_eqPairS_L1_s (fu : Nat)  (a1 : List Pair) (b5 : List Pair) (n : Nat) : d_laws_eqPairS_L1 fu a1 b5 (n + 1) = d_laws_eqPairS_L1_B fu a1 b5 (d_laws_eqPairS_L1 fu a1 b5 n) := rfl

def d_laws_eqPairS (fu : Nat) (a1 : List Pair) (b5 : List Pair) : Option (Bool) :=
  bif (((a1.length : Int)) != ((b5.length : Int))) then some (false) else d_laws_eqPairS_L1 fu a1 b5 fu 0

def d_laws_eqType (fu : Nat) (a1 : Typ) (b2 : Typ) : Option (Bool) :=
  bif (a1.fId != b2.fId) then some (false) else bif (a1.fW != b2.fW) then some (false) else bif (a1.fH != b2.fH) then some (false) else bif (a1.fD != b2.fD) then some (false) else bif (a1.fTare != b2.fTare) then some (false) else bif (a1.fGram != b2.fGram) then some (false) else bif (a1.fCost != b2.fCost) then some (false) else some (true)

def d_laws_eqTypeS_L1_B (fu : Nat)  (a1 : List Typ) (b5 : List Typ) (k1 : Int → Option (Bool)) (i36 : Int) : Option (Bool) :=
  bif (decide (i36 < ((a1.length : Int)))) then obind (ix a1 i36) fun x40 => obind (ix b5 i36) fun x42 => obind (d_laws_eqType fu x40 x42) fun x44 => bif (!x44) then some (false) else k1 (w64 (i36 + 1)) else some (true)
def d_laws_eqTypeS_L1 (fu : Nat)  (a1 : List Typ) (b5 : List Typ) : Nat → Int → Option (Bool)
  | 0 => fun _ => none
  | n + 1 => d_laws_eqTypeS_L1_B fu a1 b5 (d_laws_eqTypeS_L1 fu a1 b5 n)
theorem d_laws_eqTypeS_L1_s (fu : Nat)  (a1 : List Typ) (b5 : List Typ) (n : Nat) : d_laws_eqTypeS_L1 fu a1 b5 (n + 1) = d_laws_eqTypeS_L1_B fu a1 b5 (d_laws_eqTypeS_L1 fu a1 b5 n) := rfl

def d_laws_eqTypeS (fu : Nat) (a1 : List Typ) (b5 : List Typ) : Option (Bool) :=
  bif (((a1.length : Int)) != ((b5.length : Int))) then some (false) else d_laws_eqTypeS_L1 fu a1 b5 fu 0

def d_laws_eqItem (fu : Nat) (a1 : Item) (b2 : Item) : Option (Bool) :=
  bif (a1.fId != b2.fId) then some (false) else bif (a1.fW != b2.fW) then some (false) else bif (a1.fH != b2.fH) then some (false) else bif (a1.fD != b2.fD) then some (false) else bif (a1.fGram != b2.fGram) then some (false) else bif (a1.fClass != b2.fClass) then some (false) else bif (a1.fCount != b2.fCount) then some (false) else some (true)

def d_laws_eqItemS_L1_B (fu : Nat)  (a1 : List Item) (b5 : List Item) (k1 : Int → Option (Bool)) (i36 : Int) : Option (Bool) :=
  bif (decide (i36 < ((a1.length : Int)))) then obind (ix a1 i36) fun x40 => obind (ix b5 i36) fun x42 => obind (d_laws_eqItem fu x40 x42) fun x44 => bif (!x44) then some (false) else k1 (w64 (i36 + 1)) else some (true)
def d_laws_eqItemS_L1 (fu : Nat)  (a1 : List Item) (b5 : List Item) : Nat → Int → Option (Bool)
  | 0 => fun _ => none
  | n + 1 => d_laws_eqItemS_L1_B fu a1 b5 (d_laws_eqItemS_L1 fu a1 b5 n)
theorem d_laws_eqItemS_L1_s (fu : Nat)  (a1 : List Item) (b5 : List Item) (n : Nat) : d_laws_eqItemS_L1 fu a1 b5 (n + 1) = d_laws_eqItemS_L1_B fu a1 b5 (d_laws_eqItemS_L1 fu a1 b5 n) := rfl

def d_laws_eqItemS (fu : Nat) (a1 : List Item) (b5 : List Item) : Option (Bool) :=
  bif (((a1.length : Int)) != ((b5.length : Int))) then some (false) else d_laws_eqItemS_L1 fu a1 b5 fu 0

def d_laws_eqRequest (fu : Nat) (a1 : Request) (b5 : Request) : Option (Bool) :=
  bif (a1.fWay != b5.fWay) then some (false) else obind (d_laws_eqPallet fu a1.fPallet b5.fPallet) fun x34 => bif (!x34) then some (false) else bif (a1.fClasses != b5.fClasses) then some (false) else obind (d_laws_eqPairS fu a1.fPairs b5.fPairs) fun x40 => bif (!x40) then some (false) else obind (d_laws_eqTypeS fu a1.fTypes b5.fTypes) fun x45 => bif (!x45) then some (false) else bif (a1.fMaster != b5.fMaster) then some (false) else obind (d_laws_eqItemS fu a1.fItems b5.fItems) fun x51 => bif (!x51) then some (false) else some (true)

theorem c_impl_sound (fu : Nat) {w0 : World} (r1 : Request) {cs2 : List Value} {F3 : List Nat} (hp4 : rd w0 F3 cs2 r1) {r : Bool}
    (h : d_impl_sound fu r1 = some r) :
    Calls Tryz.prog 76 #[.agg cs2.toArray] w0 fun e w => e = .returned (.bool (r)) ∧ Ext [] w0 w := by
  refine enter (vs := [_]) Tryz.func76 rfl Tryz.ntmps76 rfl fun a hK => ?_
  have hM := St.start w0
  obtain ⟨v5, F6, v7, F8, v9, F10, rfl, rfl, hf11, hf12, hf13⟩ := hp4
  unfold d_impl_sound at h
  refine wp_seq ?_
  refine wp_region_lit ?_
  refine s_box (cs := [.int .i64 (r1.fWay), .int .i64 (r1.fPallet.fW), .int .i64 (r1.fPallet.fD), .int .i64 (r1.fPallet.fH), .int .i64 (r1.fPallet.fGram), .int .i64 (r1.fClasses), v5, v7, .int .i64 (r1.fMaster), v9]) hM hK rfl rfl rfl rfl rfl rfl fun b14 w16 a hK hM hE hb15 => ?_
  refine s1 hK rfl rfl rfl rfl fun a hK => ?_
  refine wpList_nil (nm_then ?_)
  refine wp_seq ?_
  refine wp_region_lit ?_
  refine s_val hK rfl rfl rfl (r_ldB ta40 hM 0 hb15 0 hK rfl rfl rfl rfl rfl rfl) fun a hK => ?_
  obtain ⟨x17, hx18, h⟩ := obind_some h
  refine s_call hK Tryz.call142 rfl rfl rfl rfl rfl (c_impl_Class fu _ (show rd _ _ [.int .i64 (r1.fWay), .int .i64 (r1.fPallet.fW), .int .i64 (r1.fPallet.fD), .int .i64 (r1.fPallet.fH), .int .i64 (r1.fPallet.fGram), .int .i64 (r1.fClasses), v5, v7, .int .i64 (r1.fMaster), v9] (r1 : Request) from ⟨_, _, _, _, _, _, rfl, rfl, (Enc.rd_agr hf11 (hM.a00 (Enc.rd_lt hf11))), (Enc.rd_agr hf12 (hM.a00 (Enc.rd_lt hf12))), (Enc.rd_agr hf13 (hM.a00 (Enc.rd_lt hf13)))⟩) hx18) fun e19 w20 hR => ?_
  obtain ⟨rfl, hE⟩ := hR
  refine ⟨_, rfl, fun a hK => ?_⟩
  have hM := hM.step hE
  iterate 2 (refine s1 hK rfl rfl rfl rfl fun a hK => ?_)
  refine wpList_nil (nm_then ?_)
  refine wp_ret ?_
  have h := Option.some.inj h
  subst h
  exact finR1 hK rfl (RV.tmp hK rfl) ⟨rfl, hM.ext⟩

theorem c_bits_Mul32 (fu : Nat) {w0 : World} (x1 : Int) (y2 : Int)  {r : Int × Int}
    (h : d_bits_Mul32 fu x1 y2 = some r) :
    Calls Tryz.prog 208 #[.int .u32 (x1), .int .u32 (y2)] w0 fun e w => e = .returned (.tuple #[.int .u32 (r.1), .int .u32 (r.2)]) ∧ Ext [] w0 w := by
  refine enter (vs := [_, _]) Tryz.func208 rfl Tryz.ntmps208 rfl fun a hK => ?_
  have hM := St.start w0
  unfold d_bits_Mul32 at h
  refine wp_seq ?_
  refine wp_region_lit ?_
  iterate 2 (refine s1 hK rfl rfl rfl rfl fun a hK => ?_)
  refine wpList_nil (nm_then ?_)
  refine wp_seq ?_
  refine wp_region_lit ?_
  refine s1 hK rfl rfl rfl rfl fun a hK => ?_
  refine s_val hK rfl rfl rfl (r_cv hK Tryz.underlying191 Tryz.underlying194 rfl rfl) fun a hK => ?_
  refine s1 hK rfl rfl rfl rfl fun a hK => ?_
  refine s_val hK rfl rfl rfl (r_cv hK Tryz.underlying191 Tryz.underlying194 rfl rfl) fun a hK => ?_
  iterate 2 (refine s1 hK rfl rfl rfl rfl fun a hK => ?_)
  refine wpList_nil (nm_then ?_)
  refine wp_seq ?_
  refine wp_region_lit ?_
  refine s1 hK rfl rfl rfl rfl fun a hK => ?_
  refine s_val hK rfl rfl rfl (r_shr (y := 32) hK rfl rfl rfl) fun a hK => ?_
  refine s_val hK rfl rfl rfl (r_cv hK Tryz.underlying194 Tryz.underlying191 rfl rfl) fun a hK => ?_
  refine s1 hK rfl rfl rfl rfl fun a hK => ?_
  refine s_val hK rfl rfl rfl (r_cv hK Tryz.underlying194 Tryz.underlying191 rfl rfl) fun a hK => ?_
  iterate 2 (refine s1 hK rfl rfl rfl rfl fun a hK => ?_)
  refine wpList_nil (nm_then ?_)
  refine wp_ret ?_
  have h := Option.some.inj h
  subst h
  exact finR2 hK rfl (RV.tmp hK rfl) (RV.tmp hK rfl) ⟨rfl, hM.ext⟩

theorem c_bits_Mul64 (fu : Nat) {w0 : World} (x1 : Int) (y2 : Int)  {r : Int × Int}
    (h : d_bits_Mul64 fu x1 y2 = some r) :
    Calls Tryz.prog 209 #[.int .u64 (x1), .int .u64 (y2)] w0 fun e w => e = .returned (.tuple #[.int .u64 (r.1), .int .u64 (r.2)]) ∧ Ext [] w0 w := by
  refine enter (vs := [_, _]) Tryz.func209 rfl Tryz.ntmps209 rfl fun a hK => ?_
  have hM := St.start w0
  unfold d_bits_Mul64 at h
  refine wp_seq ?_
  refine wp_region_lit ?_
  iterate 2 (refine s1 hK rfl rfl rfl rfl fun a hK => ?_)
  refine wpList_nil (nm_then ?_)
  refine wp_seq ?_
  refine wp_region_lit ?_
  iterate 3 (refine s1 hK rfl rfl rfl rfl fun a hK => ?_)
  refine wpList_nil (nm_then ?_)
  refine wp_seq ?_
  refine wp_region_lit ?_
  refine s1 hK rfl rfl rfl rfl fun a hK => ?_
  refine s_val hK rfl rfl rfl (r_shr (y := 32) hK rfl rfl rfl) fun a hK => ?_
  refine s1 hK rfl rfl rfl rfl fun a hK => ?_
  refine wpList_nil (nm_then ?_)
  refine wp_seq ?_
  refine wp_region_lit ?_
  iterate 3 (refine s1 hK rfl rfl rfl rfl fun a hK => ?_)
  refine wpList_nil (nm_then ?_)
  refine wp_seq ?_
  refine wp_region_lit ?_
  refine s1 hK rfl rfl rfl rfl fun a hK => ?_
  refine s_val hK rfl rfl rfl (r_shr (y := 32) hK rfl rfl rfl) fun a hK => ?_
  refine s1 hK rfl rfl rfl rfl fun a hK => ?_
  refine wpList_nil (nm_then ?_)
  refine wp_seq ?_
  refine wp_region_lit ?_
  iterate 4 (refine s1 hK rfl rfl rfl rfl fun a hK => ?_)
  refine wpList_nil (nm_then ?_)
  refine wp_seq ?_
  refine wp_region_lit ?_
  iterate 4 (refine s1 hK rfl rfl rfl rfl fun a hK => ?_)
  refine s_val hK rfl rfl rfl (r_shr (y := 32) hK rfl rfl rfl) fun a hK => ?_
  iterate 2 (refine s1 hK rfl rfl rfl rfl fun a hK => ?_)
  have hK := hK.keep [0, 1, 6, 7, 9, 11] rfl
  refine wpList_nil (nm_then ?_)
  refine wp_seq ?_
  refine wp_region_lit ?_
  iterate 3 (refine s1 hK rfl rfl rfl rfl fun a hK => ?_)
  refine wpList_nil (nm_then ?_)
  refine wp_seq ?_
  refine wp_region_lit ?_
  refine s1 hK rfl rfl rfl rfl fun a hK => ?_
  refine s_val hK rfl rfl rfl (r_shr (y := 32) hK rfl rfl rfl) fun a hK => ?_
  refine s1 hK rfl rfl rfl rfl fun a hK => ?_
  refine wpList_nil (nm_then ?_)
  refine wp_seq ?_
  refine wp_region_lit ?_
  iterate 6 (refine s1 hK rfl rfl rfl rfl fun a hK => ?_)
  refine wpList_nil (nm_then ?_)
  refine wp_seq ?_
  refine wp_region_lit ?_
  iterate 6 (refine s1 hK rfl rfl rfl rfl fun a hK => ?_)
  refine s_val hK rfl rfl rfl (r_shr (y := 32) hK rfl rfl rfl) fun a hK => ?_
  iterate 2 (refine s1 hK rfl rfl rfl rfl fun a hK => ?_)
  have hK := hK.keep [0, 1, 4] rfl
  refine wpList_nil (nm_then ?_)
  refine wp_seq ?_
  refine wp_region_lit ?_
  iterate 4 (refine s1 hK rfl rfl rfl rfl fun a hK => ?_)
  refine wpList_nil (nm_then ?_)
  refine wp_ret ?_
  have h := Option.some.inj h
  subst h
  exact finR2 hK rfl (RV.tmp hK rfl) (RV.tmp hK rfl) ⟨rfl, hM.ext⟩

theorem c_bits_Mul (fu : Nat) {w0 : World} (x1 : Int) (y2 : Int)  {r : Int × Int}
    (h : d_bits_Mul fu x1 y2 = some r) :
    Calls Tryz.prog 186 #[.int .u64 (x1), .int .u64 (y2)] w0 fun e w => e = .returned (.tuple #[.int .u64 (r.1), .int .u64 (r.2)]) ∧ Ext [] w0 w := by
  refine enter (vs := [_, _]) Tryz.func186 rfl Tryz.ntmps186 rfl fun a hK => ?_
  have hM := St.start w0
  unfold d_bits_Mul at h
  refine wp_seq ?_
  refine wp_region_lit ?_
  iterate 2 (refine s1 hK rfl rfl rfl rfl fun a hK => ?_)
  refine wpList_nil (nm_then ?_)
  refine wp_seq ?_
  refine wp_cond_false (hK.ev rfl) ?_
  refine wp_skip (nm_then ?_)
  refine wp_seq ?_
  refine wp_region_lit ?_
  iterate 2 (refine s1 hK rfl rfl rfl rfl fun a hK => ?_)
  obtain ⟨x3, hx4, h⟩ := obind_some h
  refine s_call hK Tryz.call209 rfl rfl rfl rfl rfl (c_bits_Mul64 fu _ _  hx4) fun e5 w6 hR => ?_
  obtain ⟨rfl, hE⟩ := hR
  refine ⟨_, rfl, fun a hK => ?_⟩
  have hM := hM.step hE
  iterate 5 (refine s1 hK rfl rfl rfl rfl fun a hK => ?_)
  refine wpList_nil (nm_then ?_)
  refine wp_seq ?_
  refine wp_region_lit ?_
  iterate 4 (refine s1 hK rfl rfl rfl rfl fun a hK => ?_)
  refine wpList_nil (nm_then ?_)
  refine wp_ret ?_
  have h := Option.some.inj h
  subst h
  exact finR2 hK rfl (RV.tmp hK rfl) (RV.tmp hK rfl) ⟨rfl, hM.ext⟩

theorem c_slices_Repeat_int_int (fu : Nat) {w0 : World} (x1 : List Int) (count5 : Int) {v2 : Value} {F3 : List Nat} (hp4 : rd w0 F3 [v2] x1) {r : (List Int)}
    (h : d_slices_Repeat_int_int fu x1 count5 = some r) :
    Calls Tryz.prog 147 #[v2, .int .i64 (count5)] w0 fun e w => ∃ (v0 : Value) (G0 : List Nat), e = .returned (v0) ∧ Ext [] w0 w ∧ ow w G0 [v0] r ∧ (∀ b ∈ G0, w0.heap.size ≤ b) := by
  refine enter (vs := [_, _]) Tryz.func147 rfl Tryz.ntmps147 rfl fun a hK => ?_
  have hM := St.start w0
  unfold d_slices_Repeat_int_int at h
  refine wp_seq ?_
  refine wp_region_lit ?_
  refine s1 hK rfl rfl rfl rfl fun a hK => ?_
  refine wpList_nil (nm_then ?_)
  refine c_cut (fun a w => K 48 [(0, v2), (1, .int .i64 (count5))] a ∧ St [] w0 w [] ∧ d_slices_Repeat_int_int_J2 fu x1 count5 = some r) ?_ ?_
  · rintro a w7 ⟨hK, hM, h⟩
    unfold d_slices_Repeat_int_int_J2 at h
    refine wp_seq ?_
    refine wp_region_lit ?_
    refine s1 hK rfl rfl rfl rfl fun a hK => ?_
    refine s_val hK rfl rfl rfl (r_len (α := Int) hp4 hK Tryz.underlying29 rfl rfl) fun a hK => ?_
    refine s_val hK rfl rfl rfl (r_cv hK Tryz.underlying3 Tryz.underlying181 rfl rfl) fun a hK => ?_
    refine s1 hK rfl rfl rfl rfl fun a hK => ?_
    refine s_val hK rfl rfl rfl (r_cv hK Tryz.underlying3 Tryz.underlying181 rfl rfl) fun a hK => ?_
    obtain ⟨x8, hx9, h⟩ := obind_some h
    refine s_call hK Tryz.call186 rfl rfl rfl rfl rfl (c_bits_Mul fu _ _  hx9) fun e10 w11 hR => ?_
    obtain ⟨rfl, hE⟩ := hR
    refine ⟨_, rfl, fun a hK => ?_⟩
    have hM := hM.step hE
    iterate 5 (refine s1 hK rfl rfl rfl rfl fun a hK => ?_)
    refine wpList_nil (nm_then ?_)
    refine c_cut (fun a w => K 48 [(0, v2), (6, .int .u64 (x8.2))] a ∧ St [] w0 w [] ∧ d_slices_Repeat_int_int_J1 fu x1 x8 = some r) ?_ ?_
    · rintro a w14 ⟨hK, hM, h⟩
      unfold d_slices_Repeat_int_int_J1 at h
      refine wp_seq ?_
      refine wp_region_lit ?_
      refine s1 hK rfl rfl rfl rfl fun a hK => ?_
      refine s_val hK rfl rfl rfl (r_cv hK Tryz.underlying181 Tryz.underlying3 rfl rfl) fun a hK => ?_
      obtain ⟨x15, hx16, h⟩ := obind_some h
      refine s_mk hx16 te29 rfl rfl hM hK rfl rfl rfl rfl rfl rfl fun g17 w18 a v20 hK hM hE hf19 => ?_
      refine s1 hK rfl rfl rfl rfl fun a hK => ?_
      refine wpList_nil (nm_then ?_)
      refine wp_seq ?_
      refine wp_region_lit ?_
      iterate 2 (refine s1 hK rfl rfl rfl rfl fun a hK => ?_)
      refine s_cp (lo := 0) te29 hM 0 hf19 (Part.self _) (Enc.rd_agr hp4 (hM.a00 (Enc.rd_lt hp4))) hK rfl rfl rfl rfl rfl rfl rfl fun w21 a hK hE hM hf22 => ?_
      refine s1 hK rfl rfl rfl rfl fun a hK => ?_
      refine wpList_nil (nm_then ?_)
      refine wp_seq ?_
      refine wp_block ?_
      refine c_loop (fun n a w => ∃ (newslice64 : List Int) (v65 : Value) (F66 : List Nat) (u67 : World) (n69 : Int), K 48 [(7, v65), (8, .int .i64 (n69))] a ∧ St [] w0 w [(F66, u67)] ∧ ow u67 F66 [v65] newslice64 ∧ d_slices_Repeat_int_int_L1 fu  n newslice64 n69 = some r) ?_ ?_ fu _ _ ?_
      · rintro a w ⟨_, _, _, _, _, _, _, _, h⟩
        cases (show none = some _ from h)
      · rintro m70 a w63 ⟨newslice64, v65, F66, u67, n69, hK, hM, hf68, h⟩
        rw [d_slices_Repeat_int_int_L1_s] at h
        unfold d_slices_Repeat_int_int_L1_B at h
        refine wp_seq ?_
        refine wp_seq ?_
        refine wp_region_lit ?_
        iterate 2 (refine s1 hK rfl rfl rfl rfl fun a hK => ?_)
        refine s_val hK rfl rfl rfl (r_len (α := Int) (Enc.ow_rd hf68) hK Tryz.underlying29 rfl rfl) fun a hK => ?_
        refine s1 hK rfl rfl rfl rfl fun a hK => ?_
        refine wpList_nil (nm_then ?_)
        refine c_cond (b := decide (n69 < ((newslice64.length : Int)))) hK rfl (fun hb71 => ?_) (fun hb71 => ?_)
        · have h := bif_t hb71 h
          refine wp_skip (nm_then ?_)
          refine wp_block ?_
          refine d_go (F66) mixo hM rfl fun w72 hMd => ?_
          have hM := hMd
          have hS := Ext.refl ((F66) : List Nat) w72
          refine d_pure hK 0 rfl (by kernel_rfl) (by kernel_rfl) (by kernel_rfl) rfl rfl rfl hS (fun _ _ _ h => h) rfl fun a hK => ?_
          refine d_pure hK 1 rfl (by kernel_rfl) (by kernel_rfl) (by kernel_rfl) rfl rfl rfl hS (fun _ _ _ h => h) rfl fun a hK => ?_
          refine d_pure hK 2 rfl (by kernel_rfl) (by kernel_rfl) (by kernel_rfl) rfl rfl rfl hS (fun _ _ _ h => h) rfl fun a hK => ?_
          obtain ⟨x73, hx74, h⟩ := obind_some h
          obtain ⟨v75, hf76, hP77, hrn78⟩ := sl_from (Enc.ow_rd hf68) hx74 ts29
          refine d_take hK 3 rfl (by kernel_rfl) (by kernel_rfl) (by kernel_rfl) rfl rfl rfl hS (fun _ _ _ h => h) (fun w hS => hrn78 hK rfl rfl rfl _) fun a hK => ?_
          refine d_pure hK 4 rfl (by kernel_rfl) (by kernel_rfl) (by kernel_rfl) rfl rfl rfl hS (fun _ _ _ h => h) rfl fun a hK => ?_
          refine d_pure hK 5 rfl (by kernel_rfl) (by kernel_rfl) (by kernel_rfl) rfl rfl rfl hS (fun _ _ _ h => h) rfl fun a hK => ?_
          obtain ⟨x79, hx80, h⟩ := obind_some h
          obtain ⟨v81, hf82, hrn84⟩ := sl_to (Enc.ow_rd hf68) hx80 ts29
          refine d_take hK 6 rfl (by kernel_rfl) (by kernel_rfl) (by kernel_rfl) rfl rfl rfl hS (fun _ _ _ h => h) (fun w hS => hrn84 hK rfl rfl rfl _) fun a hK => ?_
          refine d_one 7 (by kernel_rfl) rfl ?_
          refine s_cp (lo := n69) te29 hM 0 hf68 hP77 (Enc.rd_agr hf82 (hM.a 0 rfl)) hK rfl rfl rfl rfl rfl rfl rfl fun w85 a hK hE hM hf86 => ?_
          have hS := hS.trans hE (fun y hy => Or.inl hy)
          refine wpList_nil ⟨hS, ?_⟩
          refine d_pure hK 8 rfl (by kernel_rfl) (by kernel_rfl) (by kernel_rfl) rfl rfl rfl hS (fun _ _ _ h => h) rfl fun a hK => ?_
          refine d_pure hK 9 rfl (by kernel_rfl) (by kernel_rfl) (by kernel_rfl) rfl rfl rfl hS (fun _ _ _ h => h) rfl fun a hK => ?_
          refine d_done (by kernel_rfl) ?_
          refine (nm_block (nm_then ?_))
          exact ⟨cpd newslice64 n69 x79, v65, F66, w85, w64 (n69 + (cpn newslice64 n69 x79)), hK.keep [7, 8] rfl, hM.sel [0] rfl (by decide), hf86, h⟩
        · have h := bif_f hb71 h
          refine wp_exit (ex_then (ex_then (ex_same (nm_then ?_))))
          refine wp_seq ?_
          refine wp_region_lit ?_
          iterate 2 (refine s1 hK rfl rfl rfl rfl fun a hK => ?_)
          refine wpList_nil (nm_then ?_)
          refine wp_ret ?_
          have h := Option.some.inj h
          subst h
          exact finR1 hK rfl (RV.tmp hK rfl) ⟨_, F66, rfl, hM.ext, (Enc.ow_agr hf68 (hM.a 0 rfl)), (hM.fresh 0 rfl)⟩
      · exact ⟨cpd x15 0 x1, v20, [g17], w21, cpn x15 0 x1, hK.keep [7, 8] rfl, hM.sel [0] rfl (by decide), hf22, h⟩
    · refine wp_seq ?_
      refine wp_region_lit ?_
      iterate 3 (refine s1 hK rfl rfl rfl rfl fun a hK => ?_)
      refine bsplit (decide (x8.1 > 0)) (fun hb87 => ?_) (fun hb87 => ?_)
      · have h := bif_t hb87 h
        have hK := hK.re (d := 23) rfl (congrArg Value.bool hb87)
        refine sk hK rfl rfl rfl fun a hK => ?_
        refine sk hK rfl rfl rfl fun a hK => ?_
        refine s1 hK rfl rfl rfl rfl fun a hK => ?_
        refine wpList_nil (nm_then ?_)
        refine wp_cond_true (hK.ev rfl) ?_
        cases (show none = some _ from h)
      · have h := bif_f hb87 h
        have hK := hK.re (d := 23) rfl (congrArg Value.bool hb87)
        iterate 3 (refine s1 hK rfl rfl rfl rfl fun a hK => ?_)
        refine wpList_nil (nm_then ?_)
        refine c_cond (b := decide (x8.2 > 9223372036854775807)) hK rfl (fun hb88 => ?_) (fun hb88 => ?_)
        · have h := bif_t hb88 h
          cases (show none = some _ from h)
        · have h := bif_f hb88 h
          refine wp_skip (nm_then ?_)
          exact ⟨hK.keep [0, 6] rfl, hM.sel [] rfl (by decide), h⟩
  · refine wp_seq ?_
    refine wp_region_lit ?_
    iterate 2 (refine s1 hK rfl rfl rfl rfl fun a hK => ?_)
    refine wpList_nil (nm_then ?_)
    refine c_cond (b := decide (count5 < 0)) hK rfl (fun hb89 => ?_) (fun hb89 => ?_)
    · have h := bif_t hb89 h
      cases (show none = some _ from h)
    · have h := bif_f hb89 h
      refine wp_skip (nm_then ?_)
      exact ⟨hK.keep [0, 1] rfl, hM.sel [] rfl (by decide), h⟩

theorem c_impl_Units (fu : Nat) {w0 : World} (r1 : Request) {cs2 : List Value} {F3 : List Nat} (hp4 : rd w0 F3 cs2 r1) {r : (List Int)}
    (h : d_impl_Units fu r1 = some r) :
    Calls Tryz.prog 84 #[.agg cs2.toArray] w0 fun e w => ∃ (v0 : Value) (G0 : List Nat), e = .returned (v0) ∧ Ext [] w0 w ∧ ow w G0 [v0] r ∧ (∀ b ∈ G0, w0.heap.size ≤ b) := by
  refine enter (vs := [_]) Tryz.func84 rfl Tryz.ntmps84 rfl fun a hK => ?_
  have hM := St.start w0
  obtain ⟨v5, F6, v7, F8, v9, F10, rfl, rfl, hf11, hf12, hf13⟩ := hp4
  unfold d_impl_Units at h
  refine wp_seq ?_
  refine wp_region_lit ?_
  refine s_box (cs := [.int .i64 (r1.fWay), .int .i64 (r1.fPallet.fW), .int .i64 (r1.fPallet.fD), .int .i64 (r1.fPallet.fH), .int .i64 (r1.fPallet.fGram), .int .i64 (r1.fClasses), v5, v7, .int .i64 (r1.fMaster), v9]) hM hK rfl rfl rfl rfl rfl rfl fun b14 w16 a hK hM hE hb15 => ?_
  refine s1 hK rfl rfl rfl rfl fun a hK => ?_
  refine wpList_nil (nm_then ?_)
  refine wp_seq ?_
  refine wp_seq ?_
  refine wp_region_lit ?_
  refine s_val hK rfl rfl rfl (r_ldB ta40 hM 0 hb15 0 hK rfl rfl rfl rfl rfl rfl) fun a hK => ?_
  obtain ⟨x17, hx18, h⟩ := obind_some h
  refine s_call hK Tryz.call76 rfl rfl rfl rfl rfl (c_impl_sound fu _ (show rd _ _ [.int .i64 (r1.fWay), .int .i64 (r1.fPallet.fW), .int .i64 (r1.fPallet.fD), .int .i64 (r1.fPallet.fH), .int .i64 (r1.fPallet.fGram), .int .i64 (r1.fClasses), v5, v7, .int .i64 (r1.fMaster), v9] (r1 : Request) from ⟨_, _, _, _, _, _, rfl, rfl, (Enc.rd_agr hf11 (hM.a00 (Enc.rd_lt hf11))), (Enc.rd_agr hf12 (hM.a00 (Enc.rd_lt hf12))), (Enc.rd_agr hf13 (hM.a00 (Enc.rd_lt hf13)))⟩) hx18) fun e19 w20 hR => ?_
  obtain ⟨rfl, hE⟩ := hR
  refine ⟨_, rfl, fun a hK => ?_⟩
  have hM := hM.step hE
  refine s1 hK rfl rfl rfl rfl fun a hK => ?_
  refine wpList_nil (nm_then ?_)
  refine c_cond (b := !x17) hK rfl (fun hb21 => ?_) (fun hb21 => ?_)
  · have h := bif_t hb21 h
    refine wp_seq ?_
    refine wp_region_lit ?_
    refine s1 hK rfl rfl rfl rfl fun a hK => ?_
    refine wpList_nil (nm_then ?_)
    refine wp_ret (rt_then ?_)
    have h := Option.some.inj h
    subst h
    exact finR1 hK rfl (RV.tmp hK rfl) ⟨_, [], rfl, hM.ext, (ow_nil _), (by simp)⟩
  · have h := bif_f hb21 h
    refine wp_skip (nm_then ?_)
    refine wp_seq ?_
    refine wp_region_lit ?_
    refine s_bs (cs := []) (ps := []) te29 hM hK rfl rfl rfl rfl rfl rfl rfl (by decide) rfl (by exact (List.forall_mem_nil _)) fun g22 w23 e25 a hK hM hE hb24 => ?_
    have hf26 := ow_bx hb24 ([] : List Int) rfl rfl rfl
    refine s1 hK rfl rfl rfl rfl fun a hK => ?_
    refine wpList_nil (nm_then ?_)
    refine wp_seq ?_
    refine wp_seq ?_
    refine wp_region_lit ?_
    refine s_val hK rfl rfl rfl (r_fa fa40_6 hK rfl rfl) fun a hK => ?_
    refine s_val hK rfl rfl rfl (r_ldb t138 hM 1 hb15 9 hK rfl rfl rfl rfl rfl) fun a hK => ?_
    refine s_val hK rfl rfl rfl (r_len (α := Item) hf13 hK Tryz.underlying38 rfl rfl) fun a hK => ?_
    refine s1 hK rfl rfl rfl rfl fun a hK => ?_
    refine wpList_nil (nm_then ?_)
    refine wp_block ?_
    refine c_loop (fun n a w => ∃ (out92 : List Int) (v93 : Value) (F94 : List Nat) (u95 : World) (x97 : Int), K 27 [(3, v93), (11, v9), (12, .int .i64 ((r1.fItems.length : Int))), (13, .int .i64 (x97))] a ∧ St [] w0 w [(F94, u95)] ∧ ow u95 F94 [v93] out92 ∧ d_impl_Units_L1 fu r1 n out92 x97 = some r) ?_ ?_ fu _ _ ?_
    · rintro a w ⟨_, _, _, _, _, _, _, _, h⟩
      cases (show none = some _ from h)
    · rintro m98 a w91 ⟨out92, v93, F94, u95, x97, hK, hM, hf96, h⟩
      rw [d_impl_Units_L1_s] at h
      unfold d_impl_Units_L1_B at h
      refine wp_seq ?_
      refine wp_region_lit ?_
      refine s1 hK rfl rfl rfl rfl fun a hK => ?_
      refine wpList_nil (nm_then ?_)
      refine wp_seq ?_
      refine c_cond (b := decide (x97 < ((r1.fItems.length : Int)))) hK rfl (fun hb99 => ?_) (fun hb99 => ?_)
      · have h := bif_t hb99 h
        refine wp_skip (nm_then ?_)
        refine wp_seq ?_
        refine wp_block ?_
        refine wp_seq ?_
        refine wp_region_lit ?_
        refine s1 hK rfl rfl rfl rfl fun a hK => ?_
        obtain ⟨x100, hx101, h⟩ := obind_some h
        refine s_val hK rfl rfl rfl (r_ixa hf13 hx101 hK ts38 rfl rfl rfl) fun a hK => ?_
        refine s_val hK rfl rfl rfl (r_lde hf13 (hM.a00 (Enc.rd_lt hf13)) hx101 ta120 hK rfl rfl) fun a hK => ?_
        refine s_alloc (cs := [.int .i64 (0), .int .i64 (0), .int .i64 (0), .int .i64 (0), .int .i64 (0), .int .i64 (0), .int .i64 (0)]) hM hK Tryz.zeroValue120 rfl rfl rfl rfl rfl fun b102 w104 a hK hM hE hb103 => ?_
        refine s1 hK rfl rfl rfl rfl fun a hK => ?_
        refine s_stb (cs' := [.int .i64 (x100.fId), .int .i64 (x100.fW), .int .i64 (x100.fH), .int .i64 (x100.fD), .int .i64 (x100.fGram), .int .i64 (x100.fClass), .int .i64 (x100.fCount)]) Tryz.sizeOf120 hM 0 hb103 0 hK rfl rfl rfl rfl rfl rfl rfl rfl rfl rfl rfl fun w105 a hK hE hM hb106 => ?_
        refine wpList_nil (nm_then ?_)
        refine wp_region_lit ?_
        iterate 2 (refine s1 hK rfl rfl rfl rfl fun a hK => ?_)
        refine s_bs (cs := [.int .i64 (x97)]) (ps := [(0, .tmp 19)]) te29 hM hK rfl rfl rfl rfl rfl rfl rfl (by decide) rfl (by exact (List.forall_mem_cons.2 ⟨rfl, (List.forall_mem_nil _)⟩)) fun g107 w108 e110 a hK hM hE hb109 => ?_
        have hf111 := ow_bx hb109 ([x97] : List Int) rfl rfl rfl
        refine s_val hK rfl rfl rfl (r_fa fa120_6 hK rfl rfl) fun a hK => ?_
        refine s_val hK rfl rfl rfl (r_ldb t13 hM 1 hb106 6 hK rfl rfl rfl rfl rfl) fun a hK => ?_
        obtain ⟨x112, hx113, h⟩ := obind_some h
        refine s_call hK Tryz.call147 rfl rfl rfl rfl rfl (c_slices_Repeat_int_int fu _ _ (Enc.rd_agr (Enc.ow_rd hf111) (hM.a 0 rfl)) hx113) fun e114 w115 hR => ?_
        obtain ⟨v120, F116, rfl, hE, hf117, hfr118⟩ := hR
        refine ⟨_, rfl, fun a hK => ?_⟩
        have hM := hM.new hE F116 (fun b hb => ⟨hfr118 b hb, Enc.rd_lt (Enc.ow_rd hf117) b hb⟩) (Enc.ow_nd hf117)
        obtain ⟨x121, hx122, h⟩ := obind_some h
        refine s_appF hx122 te29 rfl hM 3 hf96 (News.rd (Enc.rd_agr (Enc.ow_rd hf117) (hM.a 0 rfl))) rfl rfl hK rfl rfl rfl rfl rfl rfl rfl fun v123 F124 w125 a hK hE hM hf126 => ?_
        refine s1 hK rfl rfl rfl rfl fun a hK => ?_
        refine wpList_nil (nm_block (nm_then ?_))
        refine wp_region_lit ?_
        iterate 2 (refine s1 hK rfl rfl rfl rfl fun a hK => ?_)
        refine wpList_nil (nm_then ?_)
        exact ⟨x121, v123, F124, w125, w64 (x97 + 1), hK.keep [3, 11, 12, 13] rfl, hM.sel [3] rfl (by decide), hf126, h⟩
      · have h := bif_f hb99 h
        refine wp_exit (ex_then (ex_then (ex_same (nm_then ?_))))
        refine wp_seq ?_
        refine wp_region_lit ?_
        iterate 2 (refine s1 hK rfl rfl rfl rfl fun a hK => ?_)
        refine wpList_nil (nm_then ?_)
        refine wp_ret ?_
        have h := Option.some.inj h
        subst h
        exact finR1 hK rfl (RV.tmp hK rfl) ⟨_, F94, rfl, hM.ext, (Enc.ow_agr hf96 (hM.a 0 rfl)), (hM.fresh 0 rfl)⟩
    · exact ⟨([] : List Int), (.slice (some ⟨g22, 0, none⟩) 0 0), [g22], w23, 0, hK.keep [3, 11, 12, 13] rfl, hM.sel [0] rfl (by decide), hf26, h⟩

theorem c_impl_itemsOf (fu : Nat) {w0 : World} (r1 : Request) (units5 : List Int) {cs2 : List Value} {F3 : List Nat} (hp4 : rd w0 F3 cs2 r1) {v6 : Value} {F7 : List Nat} (hp8 : rd w0 F7 [v6] units5) {r : (List Item)}
    (h : d_impl_itemsOf fu r1 units5 = some r) :
    Calls Tryz.prog 143 #[.agg cs2.toArray, v6] w0 fun e w => ∃ (v0 : Value) (G0 : List Nat), e = .returned (v0) ∧ Ext [] w0 w ∧ ow w G0 [v0] r ∧ (∀ b ∈ G0, w0.heap.size ≤ b) := by
  refine enter (vs := [_, _]) Tryz.func143 rfl Tryz.ntmps143 rfl fun a hK => ?_
  have hM := St.start w0
  obtain ⟨v9, F10, v11, F12, v13, F14, rfl, rfl, hf15, hf16, hf17⟩ := hp4
  unfold d_impl_itemsOf at h
  refine wp_seq ?_
  refine wp_region_lit ?_
  refine s_box (cs := [.int .i64 (r1.fWay), .int .i64 (r1.fPallet.fW), .int .i64 (r1.fPallet.fD), .int .i64 (r1.fPallet.fH), .int .i64 (r1.fPallet.fGram), .int .i64 (r1.fClasses), v9, v11, .int .i64 (r1.fMaster), v13]) hM hK rfl rfl rfl rfl rfl rfl fun b18 w20 a hK hM hE hb19 => ?_
  refine s1 hK rfl rfl rfl rfl fun a hK => ?_
  refine wpList_nil (nm_then ?_)
  refine wp_seq ?_
  refine wp_region_lit ?_
  refine s_val hK rfl rfl rfl (r_ldB ta40 hM 0 hb19 0 hK rfl rfl rfl rfl rfl rfl) fun a hK => ?_
  obtain ⟨x21, hx22, h⟩ := obind_some h
  refine s_call hK Tryz.call84 rfl rfl rfl rfl rfl (c_impl_Units fu _ (show rd _ _ [.int .i64 (r1.fWay), .int .i64 (r1.fPallet.fW), .int .i64 (r1.fPallet.fD), .int .i64 (r1.fPallet.fH), .int .i64 (r1.fPallet.fGram), .int .i64 (r1.fClasses), v9, v11, .int .i64 (r1.fMaster), v13] (r1 : Request) from ⟨_, _, _, _, _, _, rfl, rfl, (Enc.rd_agr hf15 (hM.a00 (Enc.rd_lt hf15))), (Enc.rd_agr hf16 (hM.a00 (Enc.rd_lt hf16))), (Enc.rd_agr hf17 (hM.a00 (Enc.rd_lt hf17)))⟩) hx22) fun e23 w24 hR => ?_
  obtain ⟨v29, F25, rfl, hE, hf26, hfr27⟩ := hR
  refine ⟨_, rfl, fun a hK => ?_⟩
  have hM := hM.new hE F25 (fun b hb => ⟨hfr27 b hb, Enc.rd_lt (Enc.ow_rd hf26) b hb⟩) (Enc.ow_nd hf26)
  refine s1 hK rfl rfl rfl rfl fun a hK => ?_
  refine wpList_nil (nm_then ?_)
  refine wp_seq ?_
  refine wp_region_lit ?_
  refine s_bs (cs := []) (ps := []) te38 hM hK rfl rfl rfl rfl rfl rfl rfl (by decide) rfl (by exact (List.forall_mem_nil _)) fun g30 w31 e33 a hK hM hE hb32 => ?_
  have hf34 := ow_bx hb32 ([] : List Item) rfl rfl rfl
  refine s1 hK rfl rfl rfl rfl fun a hK => ?_
  refine wpList_nil (nm_then ?_)
  refine wp_seq ?_
  refine wp_seq ?_
  refine wp_region_lit ?_
  refine s1 hK rfl rfl rfl rfl fun a hK => ?_
  refine s_val hK rfl rfl rfl (r_len (α := Int) hp8 hK Tryz.underlying29 rfl rfl) fun a hK => ?_
  refine s1 hK rfl rfl rfl rfl fun a hK => ?_
  refine wpList_nil (nm_then ?_)
  refine wp_block ?_
  refine c_loop (fun n a w => ∃ (out166 : List Item) (v167 : Value) (F168 : List Nat) (u169 : World) (x171 : Int), K 36 [(2, .pointer (some (⟨b18, 0, none⟩ : Addr))), (5, v29), (6, v167), (12, v6), (13, .int .i64 ((units5.length : Int))), (14, .int .i64 (x171))] a ∧ St [] w0 w [([b18], w20), (F25, w24), (F168, u169)] ∧ ow u169 F168 [v167] out166 ∧ d_impl_itemsOf_L1 fu r1 units5 x21 n out166 x171 = some r) ?_ ?_ fu _ _ ?_
  · rintro a w ⟨_, _, _, _, _, _, _, _, h⟩
    cases (show none = some _ from h)
  · rintro m172 a w165 ⟨out166, v167, F168, u169, x171, hK, hM, hf170, h⟩
    rw [d_impl_itemsOf_L1_s] at h
    unfold d_impl_itemsOf_L1_B at h
    refine wp_seq ?_
    refine wp_region_lit ?_
    refine s1 hK rfl rfl rfl rfl fun a hK => ?_
    refine wpList_nil (nm_then ?_)
    refine wp_seq ?_
    refine c_cond (b := decide (x171 < ((units5.length : Int)))) hK rfl (fun hb173 => ?_) (fun hb173 => ?_)
    · have h := bif_t hb173 h
      refine wp_skip (nm_then ?_)
      refine c_cut (fun a w => ∃ (out202 : List Item) (v203 : Value) (F204 : List Nat) (u205 : World), K 36 [(2, .pointer (some (⟨b18, 0, none⟩ : Addr))), (5, v29), (6, v203), (12, v6), (13, .int .i64 ((units5.length : Int))), (14, .int .i64 (x171))] a ∧ St [] w0 w [([b18], w20), (F25, w24), (F204, u205)] ∧ ow u205 F204 [v203] out202 ∧ d_impl_itemsOf_J1 fu (d_impl_itemsOf_L1 fu r1 units5 x21 m172) x171 out202 = some r) ?_ ?_
      · rintro a w201 ⟨out202, v203, F204, u205, hK, hM, hf206, h⟩
        unfold d_impl_itemsOf_J1 at h
        refine wp_region_lit ?_
        iterate 2 (refine s1 hK rfl rfl rfl rfl fun a hK => ?_)
        refine wpList_nil (nm_then ?_)
        exact ⟨out202, v203, F204, u205, w64 (x171 + 1), hK.keep [2, 5, 6, 12, 13, 14] rfl, hM.sel [0, 1, 2] rfl (by decide), hf206, h⟩
      · refine wp_block ?_
        refine wp_seq ?_
        refine wp_region_lit ?_
        obtain ⟨x207, hx208, h⟩ := obind_some h
        refine s_val hK rfl rfl rfl (r_ixa hp8 hx208 hK ts29 rfl rfl rfl) fun a hK => ?_
        refine s_val hK rfl rfl rfl (r_lde1 hp8 (hM.a00 (Enc.rd_lt hp8)) hx208 0 t13 hK rfl rfl rfl rfl) fun a hK => ?_
        refine s1 hK rfl rfl rfl rfl fun a hK => ?_
        refine wpList_nil (nm_then ?_)
        refine wp_seq ?_
        refine wp_region_lit ?_
        iterate 2 (refine s1 hK rfl rfl rfl rfl fun a hK => ?_)
        refine s_val hK rfl rfl rfl (r_len (α := Int) (Enc.ow_rd hf26) hK Tryz.underlying29 rfl rfl) fun a hK => ?_
        refine s1 hK rfl rfl rfl rfl fun a hK => ?_
        obtain ⟨x209, hx210, h⟩ := obind_some h
        refine s_call hK Tryz.call99 rfl rfl rfl rfl rfl (c_impl_in fu _ _ _  hx210) fun e211 w212 hR => ?_
        obtain ⟨rfl, hE⟩ := hR
        refine ⟨_, rfl, fun a hK => ?_⟩
        have hM := hM.step hE
        refine wpList_nil (nm_then ?_)
        refine c_cond (b := x209) hK rfl (fun hb213 => ?_) (fun hb213 => ?_)
        · have h := bif_t hb213 h
          refine d_go (F168) mixo hM rfl fun w214 hMd => ?_
          have hM := hMd
          have hS := Ext.refl ((F168) : List Nat) w214
          refine d_pure hK 0 rfl (by kernel_rfl) (by kernel_rfl) (by kernel_rfl) rfl rfl rfl hS (fun _ _ _ h => h) rfl fun a hK => ?_
          refine d_take hK 1 rfl (by kernel_rfl) (by kernel_rfl) (by kernel_rfl) rfl rfl rfl hS (fun _ _ _ h => h) (fun w hS => r_fa fa40_6 hK rfl rfl) fun a hK => ?_
          refine d_take hK 2 rfl (by kernel_rfl) (by kernel_rfl) (by kernel_rfl) rfl rfl rfl hS (fun _ _ _ h => h) (fun w hS => r_ld1 t138 (r := []) (hb19.at (hMd.az 0 2 rfl rfl rfl hS) 9 1 rfl rfl rfl) hK rfl rfl) fun a hK => ?_
          refine d_pure hK 3 rfl (by kernel_rfl) (by kernel_rfl) (by kernel_rfl) rfl rfl rfl hS (fun _ _ _ h => h) rfl fun a hK => ?_
          refine d_pure hK 4 rfl (by kernel_rfl) (by kernel_rfl) (by kernel_rfl) rfl rfl rfl hS (fun _ _ _ h => h) rfl fun a hK => ?_
          obtain ⟨x215, hx216, h⟩ := obind_some h
          refine d_take hK 5 rfl (by kernel_rfl) (by kernel_rfl) (by kernel_rfl) rfl rfl rfl hS (fun _ _ _ h => h) (fun w hS => r_ixa (Enc.ow_rd hf26) hx216 hK ts29 rfl rfl rfl) fun a hK => ?_
          refine d_take hK 6 rfl (by kernel_rfl) (by kernel_rfl) (by kernel_rfl) rfl rfl rfl hS (fun _ _ _ h => h) (fun w hS => r_lde1 (Enc.ow_rd hf26) (hMd.az 1 2 rfl rfl rfl hS) hx216 0 t13 hK rfl rfl rfl rfl) fun a hK => ?_
          obtain ⟨x217, hx218, h⟩ := obind_some h
          refine d_take hK 7 rfl (by kernel_rfl) (by kernel_rfl) (by kernel_rfl) rfl rfl rfl hS (fun _ _ _ h => h) (fun w hS => r_ixa hf17 hx218 hK ts38 rfl rfl rfl) fun a hK => ?_
          refine d_take hK 8 rfl (by kernel_rfl) (by kernel_rfl) (by kernel_rfl) rfl rfl rfl hS (fun _ _ _ h => h) (fun w hS => r_lde hf17 (hMd.az0 2 rfl rfl (Enc.rd_lt hf17) hS) hx218 ta120 hK rfl rfl) fun a hK => ?_
          refine d_one 9 (by kernel_rfl) rfl ?_
          refine s_bsN (cs := [.int .i64 (x217.fId), .int .i64 (x217.fW), .int .i64 (x217.fH), .int .i64 (x217.fD), .int .i64 (x217.fGram), .int .i64 (x217.fClass), .int .i64 (x217.fCount)]) (ps := [(0, .tmp 31)]) te38 hM hK rfl rfl rfl rfl rfl rfl rfl (by decide) rfl (by exact (List.forall_mem_cons.2 ⟨rfl, (List.forall_mem_nil _)⟩)) fun g219 w220 e222 a hK hM hE hb221 hgn223 => ?_
          have hlo225 := lo1 (Nat.le_trans hS.size hgn223)
          have hf224 := ow_bx hb221 ([x217] : List Item) rfl rfl rfl
          have hS := hS.trans hE (by simp)
          refine wpList_nil ⟨hS, ?_⟩
          refine d_one 10 (by kernel_rfl) rfl ?_
          obtain ⟨x226, hx227, h⟩ := obind_some h
          refine s_appFN hx227 te38 rfl hM 3 hf170 (News.rd (Enc.rd_agr (Enc.ow_rd hf224) (hM.a 0 rfl))) rfl rfl hK rfl rfl rfl rfl rfl rfl rfl fun v228 F229 w230 a hK hE hM hf231 hap232 => ?_
          have hlo233 : ∀ y ∈ F229, y ∈ (F168) ∨ _ ≤ y := fun y hy => (hap232 y hy).elim (fun hy => (fun y hy => Or.inl hy) y hy) (fun h => Or.inr (Nat.le_trans hS.size h))
          have hS := hS.trans hE (fun y hy => Or.inl hy)
          refine wpList_nil ⟨hS, ?_⟩
          refine d_pure hK 11 rfl (by kernel_rfl) (by kernel_rfl) (by kernel_rfl) rfl rfl rfl hS (fun _ _ _ h => h) rfl fun a hK => ?_
          refine d_done (by kernel_rfl) ?_
          refine (nm_block (nm_then ?_))
          exact ⟨x226, v228, F229, w230, hK.keep [2, 5, 6, 12, 13, 14] rfl, hM.sel [1, 2, 3] rfl (by decide), hf231, h⟩
        · have h := bif_f hb213 h
          refine wp_skip (nm_block (nm_then ?_))
          exact ⟨out166, v167, F168, u169, hK.keep [2, 5, 6, 12, 13, 14] rfl, hM.sel [0, 1, 2] rfl (by decide), hf170, h⟩
    · have h := bif_f hb173 h
      refine wp_exit (ex_then (ex_then (ex_same (nm_then ?_))))
      refine wp_seq ?_
      refine wp_region_lit ?_
      iterate 2 (refine s1 hK rfl rfl rfl rfl fun a hK => ?_)
      refine wpList_nil (nm_then ?_)
      refine wp_ret ?_
      have h := Option.some.inj h
      subst h
      exact finR1 hK rfl (RV.tmp hK rfl) ⟨_, F168, rfl, hM.ext, (Enc.ow_agr hf170 (hM.a 2 rfl)), (hM.fresh 2 rfl)⟩
  · exact ⟨([] : List Item), (.slice (some ⟨g30, 0, none⟩) 0 0), [g30], w31, 0, hK.keep [2, 5, 6, 12, 13, 14] rfl, hM.sel [2, 1, 0] rfl (by decide), hf34, h⟩

theorem c_impl_Volume (fu : Nat) {w0 : World} (wv1 : Int) (h2 : Int) (d3 : Int)  {r : Int}
    (h : d_impl_Volume fu wv1 h2 d3 = some r) :
    Calls Tryz.prog 78 #[.int .i64 (wv1), .int .i64 (h2), .int .i64 (d3)] w0 fun e w => e = .returned (.int .i64 (r)) ∧ Ext [] w0 w := by
  refine enter (vs := [_, _, _]) Tryz.func78 rfl Tryz.ntmps78 rfl fun a hK => ?_
  have hM := St.start w0
  unfold d_impl_Volume at h
  refine wp_seq ?_
  refine wp_region_lit ?_
  refine s1 hK rfl rfl rfl rfl fun a hK => ?_
  refine wpList_nil (nm_then ?_)
  refine c_cut (fun a w => K 25 [(0, .int .i64 (wv1)), (1, .int .i64 (h2)), (2, .int .i64 (d3))] a ∧ St [] w0 w [] ∧ d_impl_Volume_J1 fu wv1 h2 d3 = some r) ?_ ?_
  · rintro a w19 ⟨hK, hM, h⟩
    unfold d_impl_Volume_J1 at h
    refine wp_seq ?_
    refine wp_region_lit ?_
    iterate 6 (refine s1 hK rfl rfl rfl rfl fun a hK => ?_)
    refine wpList_nil (nm_then ?_)
    refine wp_ret ?_
    have h := Option.some.inj h
    subst h
    exact finR1 hK rfl (RV.tmp hK rfl) ⟨rfl, hM.ext⟩
  · refine wp_seq ?_
    refine wp_region_lit ?_
    refine s1 hK rfl rfl rfl rfl fun a hK => ?_
    obtain ⟨x20, hx21, h⟩ := obind_some h
    refine s_call hK Tryz.call99 rfl rfl rfl rfl rfl (c_impl_in fu _ _ _  hx21) fun e22 w23 hR => ?_
    obtain ⟨rfl, hE⟩ := hR
    refine ⟨_, rfl, fun a hK => ?_⟩
    have hM := hM.step hE
    iterate 2 (refine s1 hK rfl rfl rfl rfl fun a hK => ?_)
    refine bsplit (!x20) (fun hb24 => ?_) (fun hb24 => ?_)
    · have h := bif_t hb24 h
      have hK := hK.re (d := 10) rfl (congrArg Value.bool hb24)
      refine sk hK rfl rfl rfl fun a hK => ?_
      refine sk hK rfl rfl rfl fun a hK => ?_
      refine sk hK rfl rfl rfl fun a hK => ?_
      iterate 2 (refine s1 hK rfl rfl rfl rfl fun a hK => ?_)
      refine sk hK rfl rfl rfl fun a hK => ?_
      refine sk hK rfl rfl rfl fun a hK => ?_
      refine sk hK rfl rfl rfl fun a hK => ?_
      refine s1 hK rfl rfl rfl rfl fun a hK => ?_
      refine wpList_nil (nm_then ?_)
      refine wp_cond_true (hK.ev rfl) ?_
      refine wp_seq ?_
      refine wp_region_lit ?_
      refine s1 hK rfl rfl rfl rfl fun a hK => ?_
      refine wpList_nil (nm_then ?_)
      refine wp_ret (rt_then ?_)
      have h := Option.some.inj h
      subst h
      exact finR1 hK rfl (RV.tmp hK rfl) ⟨rfl, hM.ext⟩
    · have h := bif_f hb24 h
      have hK := hK.re (d := 10) rfl (congrArg Value.bool hb24)
      refine s1 hK rfl rfl rfl rfl fun a hK => ?_
      obtain ⟨x25, hx26, h⟩ := obind_some h
      refine s_call hK Tryz.call99 rfl rfl rfl rfl rfl (c_impl_in fu _ _ _  hx26) fun e27 w28 hR => ?_
      obtain ⟨rfl, hE⟩ := hR
      refine ⟨_, rfl, fun a hK => ?_⟩
      have hM := hM.step hE
      iterate 3 (refine s1 hK rfl rfl rfl rfl fun a hK => ?_)
      refine bsplit (!x25) (fun hb29 => ?_) (fun hb29 => ?_)
      · have h := bif_t hb29 h
        have hK := hK.re (d := 15) rfl (congrArg Value.bool hb29)
        refine sk hK rfl rfl rfl fun a hK => ?_
        refine sk hK rfl rfl rfl fun a hK => ?_
        refine sk hK rfl rfl rfl fun a hK => ?_
        refine s1 hK rfl rfl rfl rfl fun a hK => ?_
        refine wpList_nil (nm_then ?_)
        refine wp_cond_true (hK.ev rfl) ?_
        refine wp_seq ?_
        refine wp_region_lit ?_
        refine s1 hK rfl rfl rfl rfl fun a hK => ?_
        refine wpList_nil (nm_then ?_)
        refine wp_ret (rt_then ?_)
        have h := Option.some.inj h
        subst h
        exact finR1 hK rfl (RV.tmp hK rfl) ⟨rfl, hM.ext⟩
      · have h := bif_f hb29 h
        have hK := hK.re (d := 15) rfl (congrArg Value.bool hb29)
        refine s1 hK rfl rfl rfl rfl fun a hK => ?_
        obtain ⟨x30, hx31, h⟩ := obind_some h
        refine s_call hK Tryz.call99 rfl rfl rfl rfl rfl (c_impl_in fu _ _ _  hx31) fun e32 w33 hR => ?_
        obtain ⟨rfl, hE⟩ := hR
        refine ⟨_, rfl, fun a hK => ?_⟩
        have hM := hM.step hE
        iterate 2 (refine s1 hK rfl rfl rfl rfl fun a hK => ?_)
        refine wpList_nil (nm_then ?_)
        refine c_cond (b := !x30) hK rfl (fun hb34 => ?_) (fun hb34 => ?_)
        · have h := bif_t hb34 h
          refine wp_seq ?_
          refine wp_region_lit ?_
          refine s1 hK rfl rfl rfl rfl fun a hK => ?_
          refine wpList_nil (nm_then ?_)
          refine wp_ret (rt_then ?_)
          have h := Option.some.inj h
          subst h
          exact finR1 hK rfl (RV.tmp hK rfl) ⟨rfl, hM.ext⟩
        · have h := bif_f hb34 h
          refine wp_skip (nm_then ?_)
          exact ⟨hK.keep [0, 1, 2] rfl, hM.sel [] rfl (by decide), h⟩

theorem c_impl_VolumeOf (fu : Nat) {w0 : World} (r1 : Request) (units5 : List Int) {cs2 : List Value} {F3 : List Nat} (hp4 : rd w0 F3 cs2 r1) {v6 : Value} {F7 : List Nat} (hp8 : rd w0 F7 [v6] units5) {r : Int}
    (h : d_impl_VolumeOf fu r1 units5 = some r) :
    Calls Tryz.prog 77 #[.agg cs2.toArray, v6] w0 fun e w => e = .returned (.int .i64 (r)) ∧ Ext [] w0 w := by
  refine enter (vs := [_, _]) Tryz.func77 rfl Tryz.ntmps77 rfl fun a hK => ?_
  have hM := St.start w0
  obtain ⟨v9, F10, v11, F12, v13, F14, rfl, rfl, hf15, hf16, hf17⟩ := hp4
  unfold d_impl_VolumeOf at h
  refine wp_seq ?_
  refine wp_region_lit ?_
  refine s_box (cs := [.int .i64 (r1.fWay), .int .i64 (r1.fPallet.fW), .int .i64 (r1.fPallet.fD), .int .i64 (r1.fPallet.fH), .int .i64 (r1.fPallet.fGram), .int .i64 (r1.fClasses), v9, v11, .int .i64 (r1.fMaster), v13]) hM hK rfl rfl rfl rfl rfl rfl fun b18 w20 a hK hM hE hb19 => ?_
  refine s1 hK rfl rfl rfl rfl fun a hK => ?_
  refine wpList_nil (nm_then ?_)
  refine wp_seq ?_
  refine wp_region_lit ?_
  refine s1 hK rfl rfl rfl rfl fun a hK => ?_
  refine wpList_nil (nm_then ?_)
  refine wp_seq ?_
  refine wp_seq ?_
  refine wp_region_lit ?_
  refine s_val hK rfl rfl rfl (r_ldB ta40 hM 0 hb19 0 hK rfl rfl rfl rfl rfl rfl) fun a hK => ?_
  refine s1 hK rfl rfl rfl rfl fun a hK => ?_
  obtain ⟨x21, hx22, h⟩ := obind_some h
  refine s_call hK Tryz.call143 rfl rfl rfl rfl rfl (c_impl_itemsOf fu _ _ (show rd _ _ [.int .i64 (r1.fWay), .int .i64 (r1.fPallet.fW), .int .i64 (r1.fPallet.fD), .int .i64 (r1.fPallet.fH), .int .i64 (r1.fPallet.fGram), .int .i64 (r1.fClasses), v9, v11, .int .i64 (r1.fMaster), v13] (r1 : Request) from ⟨_, _, _, _, _, _, rfl, rfl, (Enc.rd_agr hf15 (hM.a00 (Enc.rd_lt hf15))), (Enc.rd_agr hf16 (hM.a00 (Enc.rd_lt hf16))), (Enc.rd_agr hf17 (hM.a00 (Enc.rd_lt hf17)))⟩) (Enc.rd_agr hp8 (hM.a00 (Enc.rd_lt hp8))) hx22) fun e23 w24 hR => ?_
  obtain ⟨v29, F25, rfl, hE, hf26, hfr27⟩ := hR
  refine ⟨_, rfl, fun a hK => ?_⟩
  have hM := hM.new hE F25 (fun b hb => ⟨hfr27 b hb, Enc.rd_lt (Enc.ow_rd hf26) b hb⟩) (Enc.ow_nd hf26)
  refine s_val hK rfl rfl rfl (r_len (α := Item) (Enc.ow_rd hf26) hK Tryz.underlying38 rfl rfl) fun a hK => ?_
  refine s1 hK rfl rfl rfl rfl fun a hK => ?_
  refine wpList_nil (nm_then ?_)
  refine wp_block ?_
  refine c_loop (fun n a w => ∃ (n59 : Int) (x60 : Int), K 27 [(5, .int .i64 (n59)), (10, v29), (11, .int .i64 ((x21.length : Int))), (12, .int .i64 (x60))] a ∧ St [] w0 w [(F25, w24)] ∧ d_impl_VolumeOf_L1 fu x21 n n59 x60 = some r) ?_ ?_ fu _ _ ?_
  · rintro a w ⟨_, _, _, _, h⟩
    cases (show none = some _ from h)
  · rintro m61 a w58 ⟨n59, x60, hK, hM, h⟩
    rw [d_impl_VolumeOf_L1_s] at h
    unfold d_impl_VolumeOf_L1_B at h
    refine wp_seq ?_
    refine wp_region_lit ?_
    refine s1 hK rfl rfl rfl rfl fun a hK => ?_
    refine wpList_nil (nm_then ?_)
    refine wp_seq ?_
    refine c_cond (b := decide (x60 < ((x21.length : Int)))) hK rfl (fun hb62 => ?_) (fun hb62 => ?_)
    · have h := bif_t hb62 h
      refine wp_skip (nm_then ?_)
      refine wp_seq ?_
      refine wp_block ?_
      refine wp_seq ?_
      refine wp_region_lit ?_
      obtain ⟨x63, hx64, h⟩ := obind_some h
      refine s_val hK rfl rfl rfl (r_ixa (Enc.ow_rd hf26) hx64 hK ts38 rfl rfl rfl) fun a hK => ?_
      refine s_val hK rfl rfl rfl (r_lde (Enc.ow_rd hf26) (hM.a 0 rfl) hx64 ta120 hK rfl rfl) fun a hK => ?_
      refine s_alloc (cs := [.int .i64 (0), .int .i64 (0), .int .i64 (0), .int .i64 (0), .int .i64 (0), .int .i64 (0), .int .i64 (0)]) hM hK Tryz.zeroValue120 rfl rfl rfl rfl rfl fun b65 w67 a hK hM hE hb66 => ?_
      refine s_stb (cs' := [.int .i64 (x63.fId), .int .i64 (x63.fW), .int .i64 (x63.fH), .int .i64 (x63.fD), .int .i64 (x63.fGram), .int .i64 (x63.fClass), .int .i64 (x63.fCount)]) Tryz.sizeOf120 hM 0 hb66 0 hK rfl rfl rfl rfl rfl rfl rfl rfl rfl rfl rfl fun w68 a hK hE hM hb69 => ?_
      refine wpList_nil (nm_then ?_)
      refine wp_region_lit ?_
      refine s1 hK rfl rfl rfl rfl fun a hK => ?_
      refine s_val hK rfl rfl rfl (r_fa fa120_1 hK rfl rfl) fun a hK => ?_
      refine s_val hK rfl rfl rfl (r_ldb t13 hM 0 hb69 1 hK rfl rfl rfl rfl rfl) fun a hK => ?_
      refine s_val hK rfl rfl rfl (r_fa fa120_2 hK rfl rfl) fun a hK => ?_
      refine s_val hK rfl rfl rfl (r_ldb t13 hM 0 hb69 2 hK rfl rfl rfl rfl rfl) fun a hK => ?_
      refine s_val hK rfl rfl rfl (r_fa fa120_3 hK rfl rfl) fun a hK => ?_
      refine s_val hK rfl rfl rfl (r_ldb t13 hM 0 hb69 3 hK rfl rfl rfl rfl rfl) fun a hK => ?_
      obtain ⟨x70, hx71, h⟩ := obind_some h
      refine s_call hK Tryz.call78 rfl rfl rfl rfl rfl (c_impl_Volume fu _ _ _  hx71) fun e72 w73 hR => ?_
      obtain ⟨rfl, hE⟩ := hR
      refine ⟨_, rfl, fun a hK => ?_⟩
      have hM := hM.step hE
      iterate 2 (refine s1 hK rfl rfl rfl rfl fun a hK => ?_)
      refine wpList_nil (nm_block (nm_then ?_))
      refine wp_region_lit ?_
      iterate 2 (refine s1 hK rfl rfl rfl rfl fun a hK => ?_)
      refine wpList_nil (nm_then ?_)
      exact ⟨w64 (n59 + x70), w64 (x60 + 1), hK.keep [5, 10, 11, 12] rfl, hM.sel [1] rfl (by decide), h⟩
    · have h := bif_f hb62 h
      refine wp_exit (ex_then (ex_then (ex_same (nm_then ?_))))
      refine wp_seq ?_
      refine wp_region_lit ?_
      iterate 2 (refine s1 hK rfl rfl rfl rfl fun a hK => ?_)
      refine wpList_nil (nm_then ?_)
      refine wp_ret ?_
      have h := Option.some.inj h
      subst h
      exact finR1 hK rfl (RV.tmp hK rfl) ⟨rfl, hM.ext⟩
  · exact ⟨0, 0, hK.keep [5, 10, 11, 12] rfl, hM.sel [0] rfl (by decide), h⟩

theorem c_impl_Fill (fu : Nat) {w0 : World} (r1 : Request) (x5 : Carton) {cs2 : List Value} {F3 : List Nat} (hp4 : rd w0 F3 cs2 r1) {cs6 : List Value} {F7 : List Nat} (hp8 : rd w0 F7 cs6 x5) {r : Int}
    (h : d_impl_Fill fu r1 x5 = some r) :
    Calls Tryz.prog 20 #[.agg cs2.toArray, .agg cs6.toArray] w0 fun e w => e = .returned (.int .i64 (r)) ∧ Ext [] w0 w := by
  refine enter (vs := [_, _]) Tryz.func20 rfl Tryz.ntmps20 rfl fun a hK => ?_
  have hM := St.start w0
  obtain ⟨v9, F10, v11, F12, v13, F14, rfl, rfl, hf15, hf16, hf17⟩ := hp4
  obtain ⟨v18, _, rfl, rfl, hf19⟩ := hp8
  unfold d_impl_Fill at h
  refine wp_seq ?_
  refine wp_region_lit ?_
  refine s_box (cs := [.int .i64 (r1.fWay), .int .i64 (r1.fPallet.fW), .int .i64 (r1.fPallet.fD), .int .i64 (r1.fPallet.fH), .int .i64 (r1.fPallet.fGram), .int .i64 (r1.fClasses), v9, v11, .int .i64 (r1.fMaster), v13]) hM hK rfl rfl rfl rfl rfl rfl fun b20 w22 a hK hM hE hb21 => ?_
  refine s_box (cs := [.int .i64 (x5.fType), .int .i64 (x5.fGroup), v18]) hM hK rfl rfl rfl rfl rfl rfl fun b23 w25 a hK hM hE hb24 => ?_
  refine s1 hK rfl rfl rfl rfl fun a hK => ?_
  refine wpList_nil (nm_then ?_)
  refine wp_seq ?_
  refine wp_region_lit ?_
  refine s_val hK rfl rfl rfl (r_ldB ta40 hM 1 hb21 0 hK rfl rfl rfl rfl rfl rfl) fun a hK => ?_
  refine s_val hK rfl rfl rfl (r_fa fa42_0 hK rfl rfl) fun a hK => ?_
  refine s_val hK rfl rfl rfl (r_ldb t13 hM 0 hb24 0 hK rfl rfl rfl rfl rfl) fun a hK => ?_
  obtain ⟨x26, hx27, h⟩ := obind_some h
  refine s_call hK Tryz.call75 rfl rfl rfl rfl rfl (c_impl_TypeById fu _ _ (show rd _ _ [.int .i64 (r1.fWay), .int .i64 (r1.fPallet.fW), .int .i64 (r1.fPallet.fD), .int .i64 (r1.fPallet.fH), .int .i64 (r1.fPallet.fGram), .int .i64 (r1.fClasses), v9, v11, .int .i64 (r1.fMaster), v13] (r1 : Request) from ⟨_, _, _, _, _, _, rfl, rfl, (Enc.rd_agr hf15 (hM.a00 (Enc.rd_lt hf15))), (Enc.rd_agr hf16 (hM.a00 (Enc.rd_lt hf16))), (Enc.rd_agr hf17 (hM.a00 (Enc.rd_lt hf17)))⟩) hx27) fun e28 w29 hR => ?_
  obtain ⟨rfl, hE⟩ := hR
  refine ⟨_, rfl, fun a hK => ?_⟩
  have hM := hM.step hE
  iterate 3 (refine s1 hK rfl rfl rfl rfl fun a hK => ?_)
  refine s_alloc (cs := [.int .i64 (0), .int .i64 (0), .int .i64 (0), .int .i64 (0), .int .i64 (0), .int .i64 (0), .int .i64 (0)]) hM hK Tryz.zeroValue92 rfl rfl rfl rfl rfl fun b30 w32 a hK hM hE hb31 => ?_
  refine s_stb (cs' := [.int .i64 (x26.1.fId), .int .i64 (x26.1.fW), .int .i64 (x26.1.fH), .int .i64 (x26.1.fD), .int .i64 (x26.1.fTare), .int .i64 (x26.1.fGram), .int .i64 (x26.1.fCost)]) Tryz.sizeOf92 hM 0 hb31 0 hK rfl rfl rfl rfl rfl rfl rfl rfl rfl rfl rfl fun w33 a hK hE hM hb34 => ?_
  refine s1 hK rfl rfl rfl rfl fun a hK => ?_
  refine wpList_nil (nm_then ?_)
  refine c_cut (fun a w => K 34 [(2, .pointer (some (⟨b20, 0, none⟩ : Addr))), (3, .pointer (some (⟨b23, 0, none⟩ : Addr))), (5, .pointer (some (⟨b30, 0, none⟩ : Addr)))] a ∧ St [] w0 w [([b20], w22), ([b23], w25), ([b30], w33)] ∧ d_impl_Fill_J1 fu r1 x5 x26 = some r) ?_ ?_
  · rintro a w41 ⟨hK, hM, h⟩
    unfold d_impl_Fill_J1 at h
    refine wp_seq ?_
    refine d_go [] mixo hM rfl fun w42 hMd => ?_
    have hM := hMd
    have hS := Ext.refl ([] : List Nat) w42
    refine d_take hK 0 rfl (by kernel_rfl) (by kernel_rfl) (by kernel_rfl) rfl rfl rfl hS (fun _ _ _ h => h) (fun w hS => r_ldA ta40 (hb21.at ((hMd.step hS).a 0 rfl) 0 10 rfl rfl rfl) rfl hK rfl rfl) fun a hK => ?_
    refine d_take hK 1 rfl (by kernel_rfl) (by kernel_rfl) (by kernel_rfl) rfl rfl rfl hS (fun _ _ _ h => h) (fun w hS => r_fa fa42_2 hK rfl rfl) fun a hK => ?_
    refine d_take hK 2 rfl (by kernel_rfl) (by kernel_rfl) (by kernel_rfl) rfl rfl rfl hS (fun _ _ _ h => h) (fun w hS => r_ld1 t129 (r := []) (hb24.at ((hMd.step hS).a 1 rfl) 2 1 rfl rfl rfl) hK rfl rfl) fun a hK => ?_
    refine d_take hK 5 rfl (by kernel_rfl) (by kernel_rfl) (by kernel_rfl) rfl rfl rfl hS (fun _ _ _ h => h) (fun w hS => r_fa fa92_1 hK rfl rfl) fun a hK => ?_
    refine d_take hK 6 rfl (by kernel_rfl) (by kernel_rfl) (by kernel_rfl) rfl rfl rfl hS (fun _ _ _ h => h) (fun w hS => r_ld1 t13 (r := []) (hb34.at ((hMd.step hS).a 2 rfl) 1 1 rfl rfl rfl) hK rfl rfl) fun a hK => ?_
    refine d_take hK 7 rfl (by kernel_rfl) (by kernel_rfl) (by kernel_rfl) rfl rfl rfl hS (fun _ _ _ h => h) (fun w hS => r_fa fa92_2 hK rfl rfl) fun a hK => ?_
    refine d_take hK 8 rfl (by kernel_rfl) (by kernel_rfl) (by kernel_rfl) rfl rfl rfl hS (fun _ _ _ h => h) (fun w hS => r_ld1 t13 (r := []) (hb34.at ((hMd.step hS).a 2 rfl) 2 1 rfl rfl rfl) hK rfl rfl) fun a hK => ?_
    refine d_take hK 9 rfl (by kernel_rfl) (by kernel_rfl) (by kernel_rfl) rfl rfl rfl hS (fun _ _ _ h => h) (fun w hS => r_fa fa92_3 hK rfl rfl) fun a hK => ?_
    refine d_take hK 10 rfl (by kernel_rfl) (by kernel_rfl) (by kernel_rfl) rfl rfl rfl hS (fun _ _ _ h => h) (fun w hS => r_ld1 t13 (r := []) (hb34.at ((hMd.step hS).a 2 rfl) 3 1 rfl rfl rfl) hK rfl rfl) fun a hK => ?_
    refine d_one 3 (by kernel_rfl) rfl ?_
    obtain ⟨x43, hx44, h⟩ := obind_some h
    refine s_call hK Tryz.call77 rfl rfl rfl rfl rfl (c_impl_VolumeOf fu _ _ (show rd _ _ [.int .i64 (r1.fWay), .int .i64 (r1.fPallet.fW), .int .i64 (r1.fPallet.fD), .int .i64 (r1.fPallet.fH), .int .i64 (r1.fPallet.fGram), .int .i64 (r1.fClasses), v9, v11, .int .i64 (r1.fMaster), v13] (r1 : Request) from ⟨_, _, _, _, _, _, rfl, rfl, (Enc.rd_agr hf15 (hM.a00 (Enc.rd_lt hf15))), (Enc.rd_agr hf16 (hM.a00 (Enc.rd_lt hf16))), (Enc.rd_agr hf17 (hM.a00 (Enc.rd_lt hf17)))⟩) (Enc.rd_agr hf19 (hM.a00 (Enc.rd_lt hf19))) hx44) fun e45 w46 hR => ?_
    obtain ⟨rfl, hE⟩ := hR
    refine ⟨_, rfl, fun a hK => ?_⟩
    have hM := hM.step hE
    have hS := hS.trans hE (by simp)
    refine wpList_nil ⟨hS, ?_⟩
    refine d_pure hK 4 rfl (by kernel_rfl) (by kernel_rfl) (by kernel_rfl) rfl rfl rfl hS (fun _ _ _ h => h) rfl fun a hK => ?_
    refine d_one 11 (by kernel_rfl) rfl ?_
    obtain ⟨x47, hx48, h⟩ := obind_some h
    refine s_call hK Tryz.call78 rfl rfl rfl rfl rfl (c_impl_Volume fu _ _ _  hx48) fun e49 w50 hR => ?_
    obtain ⟨rfl, hE⟩ := hR
    refine ⟨_, rfl, fun a hK => ?_⟩
    have hM := hM.step hE
    have hS := hS.trans hE (by simp)
    refine wpList_nil ⟨hS, ?_⟩
    obtain ⟨u51, hx52, h⟩ := obind_some h
    refine d_take hK 12 rfl (by kernel_rfl) (by kernel_rfl) (by kernel_rfl) rfl rfl rfl hS (fun _ _ _ h => h) (fun w hS => r_quo (odiv_some hx52) hK rfl rfl rfl) fun a hK => ?_
    refine d_pure hK 13 rfl (by kernel_rfl) (by kernel_rfl) (by kernel_rfl) rfl rfl rfl hS (fun _ _ _ h => h) rfl fun a hK => ?_
    refine d_done (by kernel_rfl) ?_
    refine (nm_then ?_)
    refine wp_ret ?_
    have h := Option.some.inj h
    subst h
    exact finR1 hK rfl (RV.tmp hK rfl) ⟨rfl, hM.ext⟩
  · refine wp_seq ?_
    refine wp_region_lit ?_
    iterate 3 (refine s1 hK rfl rfl rfl rfl fun a hK => ?_)
    refine bsplit (!x26.2) (fun hb53 => ?_) (fun hb53 => ?_)
    · have h := bif_t hb53 h
      have hK := hK.re (d := 16) rfl (congrArg Value.bool hb53)
      refine sk hK rfl rfl rfl fun a hK => ?_
      refine sk hK rfl rfl rfl fun a hK => ?_
      refine sk hK rfl rfl rfl fun a hK => ?_
      refine s1 hK rfl rfl rfl rfl fun a hK => ?_
      refine wpList_nil (nm_then ?_)
      refine wp_cond_true (hK.ev rfl) ?_
      refine wp_seq ?_
      refine wp_region_lit ?_
      refine s1 hK rfl rfl rfl rfl fun a hK => ?_
      refine wpList_nil (nm_then ?_)
      refine wp_ret (rt_then ?_)
      have h := Option.some.inj h
      subst h
      exact finR1 hK rfl (RV.tmp hK rfl) ⟨rfl, hM.ext⟩
    · have h := bif_f hb53 h
      have hK := hK.re (d := 16) rfl (congrArg Value.bool hb53)
      refine s_val hK rfl rfl rfl (r_ldB ta40 hM 2 hb21 0 hK rfl rfl rfl rfl rfl rfl) fun a hK => ?_
      obtain ⟨x54, hx55, h⟩ := obind_some h
      refine s_call hK Tryz.call76 rfl rfl rfl rfl rfl (c_impl_sound fu _ (show rd _ _ [.int .i64 (r1.fWay), .int .i64 (r1.fPallet.fW), .int .i64 (r1.fPallet.fD), .int .i64 (r1.fPallet.fH), .int .i64 (r1.fPallet.fGram), .int .i64 (r1.fClasses), v9, v11, .int .i64 (r1.fMaster), v13] (r1 : Request) from ⟨_, _, _, _, _, _, rfl, rfl, (Enc.rd_agr hf15 (hM.a00 (Enc.rd_lt hf15))), (Enc.rd_agr hf16 (hM.a00 (Enc.rd_lt hf16))), (Enc.rd_agr hf17 (hM.a00 (Enc.rd_lt hf17)))⟩) hx55) fun e56 w57 hR => ?_
      obtain ⟨rfl, hE⟩ := hR
      refine ⟨_, rfl, fun a hK => ?_⟩
      have hM := hM.step hE
      iterate 2 (refine s1 hK rfl rfl rfl rfl fun a hK => ?_)
      refine wpList_nil (nm_then ?_)
      refine c_cond (b := !x54) hK rfl (fun hb58 => ?_) (fun hb58 => ?_)
      · have h := bif_t hb58 h
        refine wp_seq ?_
        refine wp_region_lit ?_
        refine s1 hK rfl rfl rfl rfl fun a hK => ?_
        refine wpList_nil (nm_then ?_)
        refine wp_ret (rt_then ?_)
        have h := Option.some.inj h
        subst h
        exact finR1 hK rfl (RV.tmp hK rfl) ⟨rfl, hM.ext⟩
      · have h := bif_f hb58 h
        refine wp_skip (nm_then ?_)
        exact ⟨hK.keep [2, 3, 5] rfl, hM.sel [2, 1, 0] rfl (by decide), h⟩

theorem c_impl_Fills (fu : Nat) {w0 : World} (r1 : Request) (list5 : List Carton) {cs2 : List Value} {F3 : List Nat} (hp4 : rd w0 F3 cs2 r1) {v6 : Value} {F7 : List Nat} (hp8 : rd w0 F7 [v6] list5) {r : (List Int)}
    (h : d_impl_Fills fu r1 list5 = some r) :
    Calls Tryz.prog 42 #[.agg cs2.toArray, v6] w0 fun e w => ∃ (v0 : Value) (G0 : List Nat), e = .returned (v0) ∧ Ext [] w0 w ∧ ow w G0 [v0] r ∧ (∀ b ∈ G0, w0.heap.size ≤ b) := by
  refine enter (vs := [_, _]) Tryz.func42 rfl Tryz.ntmps42 rfl fun a hK => ?_
  have hM := St.start w0
  obtain ⟨v9, F10, v11, F12, v13, F14, rfl, rfl, hf15, hf16, hf17⟩ := hp4
  unfold d_impl_Fills at h
  refine wp_seq ?_
  refine wp_region_lit ?_
  refine s_box (cs := [.int .i64 (r1.fWay), .int .i64 (r1.fPallet.fW), .int .i64 (r1.fPallet.fD), .int .i64 (r1.fPallet.fH), .int .i64 (r1.fPallet.fGram), .int .i64 (r1.fClasses), v9, v11, .int .i64 (r1.fMaster), v13]) hM hK rfl rfl rfl rfl rfl rfl fun b18 w20 a hK hM hE hb19 => ?_
  refine s1 hK rfl rfl rfl rfl fun a hK => ?_
  refine wpList_nil (nm_then ?_)
  refine wp_seq ?_
  refine wp_region_lit ?_
  refine s_bs (cs := []) (ps := []) te29 hM hK rfl rfl rfl rfl rfl rfl rfl (by decide) rfl (by exact (List.forall_mem_nil _)) fun g21 w22 e24 a hK hM hE hb23 => ?_
  have hf25 := ow_bx hb23 ([] : List Int) rfl rfl rfl
  refine s1 hK rfl rfl rfl rfl fun a hK => ?_
  refine wpList_nil (nm_then ?_)
  refine wp_seq ?_
  refine wp_seq ?_
  refine wp_region_lit ?_
  refine s1 hK rfl rfl rfl rfl fun a hK => ?_
  refine s_val hK rfl rfl rfl (r_len (α := Carton) hp8 hK Tryz.underlying63 rfl rfl) fun a hK => ?_
  refine s1 hK rfl rfl rfl rfl fun a hK => ?_
  refine wpList_nil (nm_then ?_)
  refine wp_block ?_
  refine c_loop (fun n a w => ∃ (out97 : List Int) (v98 : Value) (F99 : List Nat) (u100 : World) (x102 : Int), K 23 [(2, .pointer (some (⟨b18, 0, none⟩ : Addr))), (5, v98), (9, v6), (10, .int .i64 ((list5.length : Int))), (11, .int .i64 (x102))] a ∧ St [] w0 w [([b18], w20), (F99, u100)] ∧ ow u100 F99 [v98] out97 ∧ d_impl_Fills_L1 fu r1 list5 n out97 x102 = some r) ?_ ?_ fu _ _ ?_
  · rintro a w ⟨_, _, _, _, _, _, _, _, h⟩
    cases (show none = some _ from h)
  · rintro m103 a w96 ⟨out97, v98, F99, u100, x102, hK, hM, hf101, h⟩
    rw [d_impl_Fills_L1_s] at h
    unfold d_impl_Fills_L1_B at h
    refine wp_seq ?_
    refine wp_region_lit ?_
    refine s1 hK rfl rfl rfl rfl fun a hK => ?_
    refine wpList_nil (nm_then ?_)
    refine wp_seq ?_
    refine c_cond (b := decide (x102 < ((list5.length : Int)))) hK rfl (fun hb104 => ?_) (fun hb104 => ?_)
    · have h := bif_t hb104 h
      refine wp_skip (nm_then ?_)
      refine wp_seq ?_
      refine wp_block ?_
      refine wp_seq ?_
      refine wp_region_lit ?_
      obtain ⟨x105, hx106, h⟩ := obind_some h
      refine s_val hK rfl rfl rfl (r_ixa hp8 hx106 hK ts63 rfl rfl rfl) fun a hK => ?_
      obtain ⟨G107, cs108, hG109, hr110, hp111, hb112⟩ := rd_get hp8 (ix_some hx106).2.2
      obtain ⟨v113, _, rfl, rfl, hf114⟩ := hr110
      refine s_val hK rfl rfl rfl (r_ldA ta42 (hp111.agr (hM.a00 (Enc.rd_lt hp8)) hb112) rfl hK rfl rfl) fun a hK => ?_
      refine s_alloc (cs := [.int .i64 (0), .int .i64 (0), .slice none 0 0]) hM hK Tryz.zeroValue42 rfl rfl rfl rfl rfl fun b115 w117 a hK hM hE hb116 => ?_
      refine s_stb (cs' := [.int .i64 (x105.fType), .int .i64 (x105.fGroup), v113]) Tryz.sizeOf42 hM 0 hb116 0 hK rfl rfl rfl rfl rfl rfl rfl rfl rfl rfl (allc rfl (allc rfl (allc (rd_o hf114) alln))) fun w118 a hK hE hM hb119 => ?_
      refine wpList_nil (nm_then ?_)
      refine wp_region_lit ?_
      refine s1 hK rfl rfl rfl rfl fun a hK => ?_
      refine s_val hK rfl rfl rfl (r_ldB ta40 hM 1 hb19 0 hK rfl rfl rfl rfl rfl rfl) fun a hK => ?_
      refine s_val hK rfl rfl rfl (r_ldB ta42 hM 0 hb119 0 hK rfl rfl rfl rfl rfl rfl) fun a hK => ?_
      obtain ⟨x120, hx121, h⟩ := obind_some h
      refine s_call hK Tryz.call20 rfl rfl rfl rfl rfl (c_impl_Fill fu _ _ (show rd _ _ [.int .i64 (r1.fWay), .int .i64 (r1.fPallet.fW), .int .i64 (r1.fPallet.fD), .int .i64 (r1.fPallet.fH), .int .i64 (r1.fPallet.fGram), .int .i64 (r1.fClasses), v9, v11, .int .i64 (r1.fMaster), v13] (r1 : Request) from ⟨_, _, _, _, _, _, rfl, rfl, (Enc.rd_agr hf15 (hM.a00 (Enc.rd_lt hf15))), (Enc.rd_agr hf16 (hM.a00 (Enc.rd_lt hf16))), (Enc.rd_agr hf17 (hM.a00 (Enc.rd_lt hf17)))⟩) (show rd _ _ [.int .i64 (x105.fType), .int .i64 (x105.fGroup), v113] (x105 : Carton) from ⟨_, _, rfl, rfl, (Enc.rd_agr hf114 (hM.a00 (Enc.rd_lt hf114)))⟩) hx121) fun e122 w123 hR => ?_
      obtain ⟨rfl, hE⟩ := hR
      refine ⟨_, rfl, fun a hK => ?_⟩
      have hM := hM.step hE
      refine s_bs (cs := [.int .i64 (x120)]) (ps := [(0, .tmp 18)]) te29 hM hK rfl rfl rfl rfl rfl rfl rfl (by decide) rfl (by exact (List.forall_mem_cons.2 ⟨rfl, (List.forall_mem_nil _)⟩)) fun g124 w125 e127 a hK hM hE hb126 => ?_
      have hf128 := ow_bx hb126 ([x120] : List Int) rfl rfl rfl
      obtain ⟨x129, hx130, h⟩ := obind_some h
      refine s_appF hx130 te29 rfl hM 3 hf101 (News.rd (Enc.rd_agr (Enc.ow_rd hf128) (hM.a 0 rfl))) rfl rfl hK rfl rfl rfl rfl rfl rfl rfl fun v131 F132 w133 a hK hE hM hf134 => ?_
      refine s1 hK rfl rfl rfl rfl fun a hK => ?_
      refine wpList_nil (nm_block (nm_then ?_))
      refine wp_region_lit ?_
      iterate 2 (refine s1 hK rfl rfl rfl rfl fun a hK => ?_)
      refine wpList_nil (nm_then ?_)
      exact ⟨x129, v131, F132, w133, w64 (x102 + 1), hK.keep [2, 5, 9, 10, 11] rfl, hM.sel [2, 3] rfl (by decide), hf134, h⟩
    · have h := bif_f hb104 h
      refine wp_exit (ex_then (ex_then (ex_same (nm_then ?_))))
      refine wp_seq ?_
      refine wp_region_lit ?_
      iterate 2 (refine s1 hK rfl rfl rfl rfl fun a hK => ?_)
      refine wpList_nil (nm_then ?_)
      refine wp_ret ?_
      have h := Option.some.inj h
      subst h
      exact finR1 hK rfl (RV.tmp hK rfl) ⟨_, F99, rfl, hM.ext, (Enc.ow_agr hf101 (hM.a 1 rfl)), (hM.fresh 1 rfl)⟩
  · exact ⟨([] : List Int), (.slice (some ⟨g21, 0, none⟩) 0 0), [g21], w22, 0, hK.keep [2, 5, 9, 10, 11] rfl, hM.sel [1, 0] rfl (by decide), hf25, h⟩

theorem c_laws_eqIntS (fu : Nat) {w0 : World} (a1 : List Int) (b5 : List Int) {v2 : Value} {F3 : List Nat} (hp4 : rd w0 F3 [v2] a1) {v6 : Value} {F7 : List Nat} (hp8 : rd w0 F7 [v6] b5) {r : Bool}
    (h : d_laws_eqIntS fu a1 b5 = some r) :
    Calls Tryz.prog 43 #[v2, v6] w0 fun e w => e = .returned (.bool (r)) ∧ Ext [] w0 w := by
  refine enter (vs := [_, _]) Tryz.func43 rfl Tryz.ntmps43 rfl fun a hK => ?_
  have hM := St.start w0
  unfold d_laws_eqIntS at h
  refine wp_seq ?_
  refine wp_region_lit ?_
  refine s1 hK rfl rfl rfl rfl fun a hK => ?_
  refine wpList_nil (nm_then ?_)
  refine wp_seq ?_
  refine wp_seq ?_
  refine wp_region_lit ?_
  refine s1 hK rfl rfl rfl rfl fun a hK => ?_
  refine s_val hK rfl rfl rfl (r_len (α := Int) hp4 hK Tryz.underlying29 rfl rfl) fun a hK => ?_
  refine s1 hK rfl rfl rfl rfl fun a hK => ?_
  refine s_val hK rfl rfl rfl (r_len (α := Int) hp8 hK Tryz.underlying29 rfl rfl) fun a hK => ?_
  refine s1 hK rfl rfl rfl rfl fun a hK => ?_
  refine wpList_nil (nm_then ?_)
  refine c_cond (b := ((a1.length : Int)) != ((b5.length : Int))) hK rfl (fun hb9 => ?_) (fun hb9 => ?_)
  · have h := bif_t hb9 h
    refine wp_seq ?_
    refine wp_region_lit ?_
    refine s1 hK rfl rfl rfl rfl fun a hK => ?_
    refine wpList_nil (nm_then ?_)
    refine wp_ret (rt_then ?_)
    have h := Option.some.inj h
    subst h
    exact finR1 hK rfl (RV.tmp hK rfl) ⟨rfl, hM.ext⟩
  · have h := bif_f hb9 h
    refine wp_skip (nm_then ?_)
    refine wp_seq ?_
    refine wp_seq ?_
    refine wp_region_lit ?_
    refine s1 hK rfl rfl rfl rfl fun a hK => ?_
    refine wpList_nil (nm_then ?_)
    refine wp_block ?_
    refine c_loop (fun n a w => ∃ (i28 : Int), K 26 [(0, v2), (1, v6), (5, .int .i64 (i28))] a ∧ St [] w0 w [] ∧ d_laws_eqIntS_L1 fu a1 b5 n i28 = some r) ?_ ?_ fu _ _ ?_
    · rintro a w ⟨_, _, _, h⟩
      cases (show none = some _ from h)
    · rintro m29 a w27 ⟨i28, hK, hM, h⟩
      rw [d_laws_eqIntS_L1_s] at h
      unfold d_laws_eqIntS_L1_B at h
      refine wp_seq ?_
      refine wp_seq ?_
      refine wp_region_lit ?_
      iterate 2 (refine s1 hK rfl rfl rfl rfl fun a hK => ?_)
      refine s_val hK rfl rfl rfl (r_len (α := Int) hp4 hK Tryz.underlying29 rfl rfl) fun a hK => ?_
      refine s1 hK rfl rfl rfl rfl fun a hK => ?_
      refine wpList_nil (nm_then ?_)
      refine c_cond (b := decide (i28 < ((a1.length : Int)))) hK rfl (fun hb30 => ?_) (fun hb30 => ?_)
      · have h := bif_t hb30 h
        refine wp_skip (nm_then ?_)
        refine wp_seq ?_
        refine wp_block ?_
        refine wp_seq ?_
        refine d_go [] mixo hM rfl fun w31 hMd => ?_
        have hM := hMd
        have hS := Ext.refl ([] : List Nat) w31
        refine d_pure hK 0 rfl (by kernel_rfl) (by kernel_rfl) (by kernel_rfl) rfl rfl rfl hS (fun _ _ _ h => h) rfl fun a hK => ?_
        refine d_pure hK 1 rfl (by kernel_rfl) (by kernel_rfl) (by kernel_rfl) rfl rfl rfl hS (fun _ _ _ h => h) rfl fun a hK => ?_
        obtain ⟨x32, hx33, h⟩ := obind_some h
        refine d_take hK 2 rfl (by kernel_rfl) (by kernel_rfl) (by kernel_rfl) rfl rfl rfl hS (fun _ _ _ h => h) (fun w hS => r_ixa hp4 hx33 hK ts29 rfl rfl rfl) fun a hK => ?_
        refine d_take hK 3 rfl (by kernel_rfl) (by kernel_rfl) (by kernel_rfl) rfl rfl rfl hS (fun _ _ _ h => h) (fun w hS => r_lde1 hp4 ((hMd.step hS).a00 (Enc.rd_lt hp4)) hx33 0 t13 hK rfl rfl rfl rfl) fun a hK => ?_
        refine d_pure hK 4 rfl (by kernel_rfl) (by kernel_rfl) (by kernel_rfl) rfl rfl rfl hS (fun _ _ _ h => h) rfl fun a hK => ?_
        refine d_pure hK 5 rfl (by kernel_rfl) (by kernel_rfl) (by kernel_rfl) rfl rfl rfl hS (fun _ _ _ h => h) rfl fun a hK => ?_
        obtain ⟨x34, hx35, h⟩ := obind_some h
        refine d_take hK 6 rfl (by kernel_rfl) (by kernel_rfl) (by kernel_rfl) rfl rfl rfl hS (fun _ _ _ h => h) (fun w hS => r_ixa hp8 hx35 hK ts29 rfl rfl rfl) fun a hK => ?_
        refine d_take hK 7 rfl (by kernel_rfl) (by kernel_rfl) (by kernel_rfl) rfl rfl rfl hS (fun _ _ _ h => h) (fun w hS => r_lde1 hp8 ((hMd.step hS).a00 (Enc.rd_lt hp8)) hx35 0 t13 hK rfl rfl rfl rfl) fun a hK => ?_
        refine d_pure hK 8 rfl (by kernel_rfl) (by kernel_rfl) (by kernel_rfl) rfl rfl rfl hS (fun _ _ _ h => h) rfl fun a hK => ?_
        refine d_done (by kernel_rfl) ?_
        refine (nm_then ?_)
        refine c_cond (b := x32 != x34) hK rfl (fun hb36 => ?_) (fun hb36 => ?_)
        · have h := bif_t hb36 h
          refine wp_seq ?_
          refine wp_region_lit ?_
          refine s1 hK rfl rfl rfl rfl fun a hK => ?_
          refine wpList_nil (nm_then ?_)
          refine wp_ret (rt_block (rt_then (rt_then (rt_block (rt_then ?_)))))
          have h := Option.some.inj h
          subst h
          exact finR1 hK rfl (RV.tmp hK rfl) ⟨rfl, hM.ext⟩
        · have h := bif_f hb36 h
          refine wp_skip (nm_block (nm_then ?_))
          refine wp_region_lit ?_
          iterate 3 (refine s1 hK rfl rfl rfl rfl fun a hK => ?_)
          refine wpList_nil (nm_then ?_)
          exact ⟨w64 (i28 + 1), hK.keep [0, 1, 5] rfl, hM.sel [] rfl (by decide), h⟩
      · have h := bif_f hb30 h
        refine wp_exit (ex_then (ex_then (ex_same (nm_then ?_))))
        refine wp_seq ?_
        refine wp_region_lit ?_
        refine s1 hK rfl rfl rfl rfl fun a hK => ?_
        refine wpList_nil (nm_then ?_)
        refine wp_ret ?_
        have h := Option.some.inj h
        subst h
        exact finR1 hK rfl (RV.tmp hK rfl) ⟨rfl, hM.ext⟩
    · exact ⟨0, hK.keep [0, 1, 5] rfl, hM.sel [] rfl (by decide), h⟩

theorem c_laws_eqPallet (fu : Nat) {w0 : World} (a1 : Pallet) (b2 : Pallet)  {r : Bool}
    (h : d_laws_eqPallet fu a1 b2 = some r) :
    Calls Tryz.prog 79 #[.agg (Flat.e (a1)).toArray, .agg (Flat.e (b2)).toArray] w0 fun e w => e = .returned (.bool (r)) ∧ Ext [] w0 w := by
  refine enter (vs := [_, _]) Tryz.func79 rfl Tryz.ntmps79 rfl fun a hK => ?_
  have hM := St.start w0
  unfold d_laws_eqPallet at h
  refine wp_seq ?_
  refine wp_region_lit ?_
  refine s_box (cs := [.int .i64 (a1.fW), .int .i64 (a1.fD), .int .i64 (a1.fH), .int .i64 (a1.fGram)]) hM hK rfl rfl rfl rfl rfl rfl fun b3 w5 a hK hM hE hb4 => ?_
  refine s_box (cs := [.int .i64 (b2.fW), .int .i64 (b2.fD), .int .i64 (b2.fH), .int .i64 (b2.fGram)]) hM hK rfl rfl rfl rfl rfl rfl fun b6 w8 a hK hM hE hb7 => ?_
  refine s1 hK rfl rfl rfl rfl fun a hK => ?_
  refine wpList_nil (nm_then ?_)
  refine wp_seq ?_
  refine wp_seq ?_
  refine wp_region_lit ?_
  refine s_val hK rfl rfl rfl (r_fa fa35_0 hK rfl rfl) fun a hK => ?_
  refine s_val hK rfl rfl rfl (r_ldb t13 hM 1 hb4 0 hK rfl rfl rfl rfl rfl) fun a hK => ?_
  refine s_val hK rfl rfl rfl (r_fa fa35_0 hK rfl rfl) fun a hK => ?_
  refine s_val hK rfl rfl rfl (r_ldb t13 hM 0 hb7 0 hK rfl rfl rfl rfl rfl) fun a hK => ?_
  refine s1 hK rfl rfl rfl rfl fun a hK => ?_
  refine wpList_nil (nm_then ?_)
  refine c_cond (b := a1.fW != b2.fW) hK rfl (fun hb9 => ?_) (fun hb9 => ?_)
  · have h := bif_t hb9 h
    refine wp_seq ?_
    refine wp_region_lit ?_
    refine s1 hK rfl rfl rfl rfl fun a hK => ?_
    refine wpList_nil (nm_then ?_)
    refine wp_ret (rt_then ?_)
    have h := Option.some.inj h
    subst h
    exact finR1 hK rfl (RV.tmp hK rfl) ⟨rfl, hM.ext⟩
  · have h := bif_f hb9 h
    refine wp_skip (nm_then ?_)
    refine wp_seq ?_
    refine wp_seq ?_
    refine wp_region_lit ?_
    refine s_val hK rfl rfl rfl (r_fa fa35_1 hK rfl rfl) fun a hK => ?_
    refine s_val hK rfl rfl rfl (r_ldb t13 hM 1 hb4 1 hK rfl rfl rfl rfl rfl) fun a hK => ?_
    refine s_val hK rfl rfl rfl (r_fa fa35_1 hK rfl rfl) fun a hK => ?_
    refine s_val hK rfl rfl rfl (r_ldb t13 hM 0 hb7 1 hK rfl rfl rfl rfl rfl) fun a hK => ?_
    refine s1 hK rfl rfl rfl rfl fun a hK => ?_
    refine wpList_nil (nm_then ?_)
    refine c_cond (b := a1.fD != b2.fD) hK rfl (fun hb10 => ?_) (fun hb10 => ?_)
    · have h := bif_t hb10 h
      refine wp_seq ?_
      refine wp_region_lit ?_
      refine s1 hK rfl rfl rfl rfl fun a hK => ?_
      refine wpList_nil (nm_then ?_)
      refine wp_ret (rt_then ?_)
      have h := Option.some.inj h
      subst h
      exact finR1 hK rfl (RV.tmp hK rfl) ⟨rfl, hM.ext⟩
    · have h := bif_f hb10 h
      refine wp_skip (nm_then ?_)
      refine wp_seq ?_
      refine wp_seq ?_
      refine wp_region_lit ?_
      refine s_val hK rfl rfl rfl (r_fa fa35_2 hK rfl rfl) fun a hK => ?_
      refine s_val hK rfl rfl rfl (r_ldb t13 hM 1 hb4 2 hK rfl rfl rfl rfl rfl) fun a hK => ?_
      refine s_val hK rfl rfl rfl (r_fa fa35_2 hK rfl rfl) fun a hK => ?_
      refine s_val hK rfl rfl rfl (r_ldb t13 hM 0 hb7 2 hK rfl rfl rfl rfl rfl) fun a hK => ?_
      refine s1 hK rfl rfl rfl rfl fun a hK => ?_
      refine wpList_nil (nm_then ?_)
      refine c_cond (b := a1.fH != b2.fH) hK rfl (fun hb11 => ?_) (fun hb11 => ?_)
      · have h := bif_t hb11 h
        refine wp_seq ?_
        refine wp_region_lit ?_
        refine s1 hK rfl rfl rfl rfl fun a hK => ?_
        refine wpList_nil (nm_then ?_)
        refine wp_ret (rt_then ?_)
        have h := Option.some.inj h
        subst h
        exact finR1 hK rfl (RV.tmp hK rfl) ⟨rfl, hM.ext⟩
      · have h := bif_f hb11 h
        refine wp_skip (nm_then ?_)
        refine wp_seq ?_
        refine wp_seq ?_
        refine wp_region_lit ?_
        refine s_val hK rfl rfl rfl (r_fa fa35_3 hK rfl rfl) fun a hK => ?_
        refine s_val hK rfl rfl rfl (r_ldb t13 hM 1 hb4 3 hK rfl rfl rfl rfl rfl) fun a hK => ?_
        refine s_val hK rfl rfl rfl (r_fa fa35_3 hK rfl rfl) fun a hK => ?_
        refine s_val hK rfl rfl rfl (r_ldb t13 hM 0 hb7 3 hK rfl rfl rfl rfl rfl) fun a hK => ?_
        refine s1 hK rfl rfl rfl rfl fun a hK => ?_
        refine wpList_nil (nm_then ?_)
        refine c_cond (b := a1.fGram != b2.fGram) hK rfl (fun hb12 => ?_) (fun hb12 => ?_)
        · have h := bif_t hb12 h
          refine wp_seq ?_
          refine wp_region_lit ?_
          refine s1 hK rfl rfl rfl rfl fun a hK => ?_
          refine wpList_nil (nm_then ?_)
          refine wp_ret (rt_then ?_)
          have h := Option.some.inj h
          subst h
          exact finR1 hK rfl (RV.tmp hK rfl) ⟨rfl, hM.ext⟩
        · have h := bif_f hb12 h
          refine wp_skip (nm_then ?_)
          refine wp_seq ?_
          refine wp_region_lit ?_
          refine s1 hK rfl rfl rfl rfl fun a hK => ?_
          refine wpList_nil (nm_then ?_)
          refine wp_ret ?_
          have h := Option.some.inj h
          subst h
          exact finR1 hK rfl (RV.tmp hK rfl) ⟨rfl, hM.ext⟩

theorem c_laws_eqPair (fu : Nat) {w0 : World} (a1 : Pair) (b2 : Pair)  {r : Bool}
    (h : d_laws_eqPair fu a1 b2 = some r) :
    Calls Tryz.prog 144 #[.agg (Flat.e (a1)).toArray, .agg (Flat.e (b2)).toArray] w0 fun e w => e = .returned (.bool (r)) ∧ Ext [] w0 w := by
  refine enter (vs := [_, _]) Tryz.func144 rfl Tryz.ntmps144 rfl fun a hK => ?_
  have hM := St.start w0
  unfold d_laws_eqPair at h
  refine wp_seq ?_
  refine wp_region_lit ?_
  refine s_box (cs := [.int .i64 (a1.fA), .int .i64 (a1.fB)]) hM hK rfl rfl rfl rfl rfl rfl fun b3 w5 a hK hM hE hb4 => ?_
  refine s_box (cs := [.int .i64 (b2.fA), .int .i64 (b2.fB)]) hM hK rfl rfl rfl rfl rfl rfl fun b6 w8 a hK hM hE hb7 => ?_
  refine s1 hK rfl rfl rfl rfl fun a hK => ?_
  refine wpList_nil (nm_then ?_)
  refine wp_seq ?_
  refine wp_seq ?_
  refine wp_region_lit ?_
  refine s_val hK rfl rfl rfl (r_fa fa144_0 hK rfl rfl) fun a hK => ?_
  refine s_val hK rfl rfl rfl (r_ldb t13 hM 1 hb4 0 hK rfl rfl rfl rfl rfl) fun a hK => ?_
  refine s_val hK rfl rfl rfl (r_fa fa144_0 hK rfl rfl) fun a hK => ?_
  refine s_val hK rfl rfl rfl (r_ldb t13 hM 0 hb7 0 hK rfl rfl rfl rfl rfl) fun a hK => ?_
  refine s1 hK rfl rfl rfl rfl fun a hK => ?_
  refine wpList_nil (nm_then ?_)
  refine c_cond (b := a1.fA != b2.fA) hK rfl (fun hb9 => ?_) (fun hb9 => ?_)
  · have h := bif_t hb9 h
    refine wp_seq ?_
    refine wp_region_lit ?_
    refine s1 hK rfl rfl rfl rfl fun a hK => ?_
    refine wpList_nil (nm_then ?_)
    refine wp_ret (rt_then ?_)
    have h := Option.some.inj h
    subst h
    exact finR1 hK rfl (RV.tmp hK rfl) ⟨rfl, hM.ext⟩
  · have h := bif_f hb9 h
    refine wp_skip (nm_then ?_)
    refine wp_seq ?_
    refine wp_seq ?_
    refine wp_region_lit ?_
    refine s_val hK rfl rfl rfl (r_fa fa144_1 hK rfl rfl) fun a hK => ?_
    refine s_val hK rfl rfl rfl (r_ldb t13 hM 1 hb4 1 hK rfl rfl rfl rfl rfl) fun a hK => ?_
    refine s_val hK rfl rfl rfl (r_fa fa144_1 hK rfl rfl) fun a hK => ?_
    refine s_val hK rfl rfl rfl (r_ldb t13 hM 0 hb7 1 hK rfl rfl rfl rfl rfl) fun a hK => ?_
    refine s1 hK rfl rfl rfl rfl fun a hK => ?_
    refine wpList_nil (nm_then ?_)
    refine c_cond (b := a1.fB != b2.fB) hK rfl (fun hb10 => ?_) (fun hb10 => ?_)
    · have h := bif_t hb10 h
      refine wp_seq ?_
      refine wp_region_lit ?_
      refine s1 hK rfl rfl rfl rfl fun a hK => ?_
      refine wpList_nil (nm_then ?_)
      refine wp_ret (rt_then ?_)
      have h := Option.some.inj h
      subst h
      exact finR1 hK rfl (RV.tmp hK rfl) ⟨rfl, hM.ext⟩
    · have h := bif_f hb10 h
      refine wp_skip (nm_then ?_)
      refine wp_seq ?_
      refine wp_region_lit ?_
      refine s1 hK rfl rfl rfl rfl fun a hK => ?_
      refine wpList_nil (nm_then ?_)
      refine wp_ret ?_
      have h := Option.some.inj h
      subst h
      exact finR1 hK rfl (RV.tmp hK rfl) ⟨rfl, hM.ext⟩

theorem c_laws_eqPairS (fu : Nat) {w0 : World} (a1 : List Pair) (b5 : List Pair) {v2 : Value} {F3 : List Nat} (hp4 : rd w0 F3 [v2] a1) {v6 : Value} {F7 : List Nat} (hp8 : rd w0 F7 [v6] b5) {r : Bool}
    (h : d_laws_eqPairS fu a1 b5 = some r) :
    Calls Tryz.prog 80 #[v2, v6] w0 fun e w => e = .returned (.bool (r)) ∧ Ext [] w0 w := by
  refine enter (vs := [_, _]) Tryz.func80 rfl Tryz.ntmps80 rfl fun a hK => ?_
  have hM := St.start w0
  unfold d_laws_eqPairS at h
  refine wp_seq ?_
  refine wp_region_lit ?_
  refine s1 hK rfl rfl rfl rfl fun a hK => ?_
  refine wpList_nil (nm_then ?_)
  refine wp_seq ?_
  refine wp_seq ?_
  refine wp_region_lit ?_
  refine s1 hK rfl rfl rfl rfl fun a hK => ?_
  refine s_val hK rfl rfl rfl (r_len (α := Pair) hp4 hK Tryz.underlying36 rfl rfl) fun a hK => ?_
  refine s1 hK rfl rfl rfl rfl fun a hK => ?_
  refine s_val hK rfl rfl rfl (r_len (α := Pair) hp8 hK Tryz.underlying36 rfl rfl) fun a hK => ?_
  refine s1 hK rfl rfl rfl rfl fun a hK => ?_
  refine wpList_nil (nm_then ?_)
  refine c_cond (b := ((a1.length : Int)) != ((b5.length : Int))) hK rfl (fun hb9 => ?_) (fun hb9 => ?_)
  · have h := bif_t hb9 h
    refine wp_seq ?_
    refine wp_region_lit ?_
    refine s1 hK rfl rfl rfl rfl fun a hK => ?_
    refine wpList_nil (nm_then ?_)
    refine wp_ret (rt_then ?_)
    have h := Option.some.inj h
    subst h
    exact finR1 hK rfl (RV.tmp hK rfl) ⟨rfl, hM.ext⟩
  · have h := bif_f hb9 h
    refine wp_skip (nm_then ?_)
    refine wp_seq ?_
    refine wp_seq ?_
    refine wp_region_lit ?_
    refine s1 hK rfl rfl rfl rfl fun a hK => ?_
    refine wpList_nil (nm_then ?_)
    refine wp_block ?_
    refine c_loop (fun n a w => ∃ (i36 : Int), K 27 [(0, v2), (1, v6), (5, .int .i64 (i36))] a ∧ St [] w0 w [] ∧ d_laws_eqPairS_L1 fu a1 b5 n i36 = some r) ?_ ?_ fu _ _ ?_
    · rintro a w ⟨_, _, _, h⟩
      cases (show none = some _ from h)
    · rintro m37 a w35 ⟨i36, hK, hM, h⟩
      rw [d_laws_eqPairS_L1_s] at h
      unfold d_laws_eqPairS_L1_B at h
      refine wp_seq ?_
      refine wp_seq ?_
      refine wp_region_lit ?_
      iterate 2 (refine s1 hK rfl rfl rfl rfl fun a hK => ?_)
      refine s_val hK rfl rfl rfl (r_len (α := Pair) hp4 hK Tryz.underlying36 rfl rfl) fun a hK => ?_
      refine s1 hK rfl rfl rfl rfl fun a hK => ?_
      refine wpList_nil (nm_then ?_)
      refine c_cond (b := decide (i36 < ((a1.length : Int)))) hK rfl (fun hb38 => ?_) (fun hb38 => ?_)
      · have h := bif_t hb38 h
        refine wp_skip (nm_then ?_)
        refine wp_seq ?_
        refine wp_block ?_
        refine wp_seq ?_
        refine d_go [] mixo hM rfl fun w39 hMd => ?_
        have hM := hMd
        have hS := Ext.refl ([] : List Nat) w39
        refine d_pure hK 0 rfl (by kernel_rfl) (by kernel_rfl) (by kernel_rfl) rfl rfl rfl hS (fun _ _ _ h => h) rfl fun a hK => ?_
        refine d_pure hK 1 rfl (by kernel_rfl) (by kernel_rfl) (by kernel_rfl) rfl rfl rfl hS (fun _ _ _ h => h) rfl fun a hK => ?_
        obtain ⟨x40, hx41, h⟩ := obind_some h
        refine d_take hK 2 rfl (by kernel_rfl) (by kernel_rfl) (by kernel_rfl) rfl rfl rfl hS (fun _ _ _ h => h) (fun w hS => r_ixa hp4 hx41 hK ts36 rfl rfl rfl) fun a hK => ?_
        refine d_take hK 3 rfl (by kernel_rfl) (by kernel_rfl) (by kernel_rfl) rfl rfl rfl hS (fun _ _ _ h => h) (fun w hS => r_lde hp4 ((hMd.step hS).a00 (Enc.rd_lt hp4)) hx41 ta144 hK rfl rfl) fun a hK => ?_
        refine d_pure hK 4 rfl (by kernel_rfl) (by kernel_rfl) (by kernel_rfl) rfl rfl rfl hS (fun _ _ _ h => h) rfl fun a hK => ?_
        refine d_pure hK 5 rfl (by kernel_rfl) (by kernel_rfl) (by kernel_rfl) rfl rfl rfl hS (fun _ _ _ h => h) rfl fun a hK => ?_
        obtain ⟨x42, hx43, h⟩ := obind_some h
        refine d_take hK 6 rfl (by kernel_rfl) (by kernel_rfl) (by kernel_rfl) rfl rfl rfl hS (fun _ _ _ h => h) (fun w hS => r_ixa hp8 hx43 hK ts36 rfl rfl rfl) fun a hK => ?_
        refine d_take hK 7 rfl (by kernel_rfl) (by kernel_rfl) (by kernel_rfl) rfl rfl rfl hS (fun _ _ _ h => h) (fun w hS => r_lde hp8 ((hMd.step hS).a00 (Enc.rd_lt hp8)) hx43 ta144 hK rfl rfl) fun a hK => ?_
        refine d_one 8 (by kernel_rfl) rfl ?_
        obtain ⟨x44, hx45, h⟩ := obind_some h
        refine s_call hK Tryz.call144 rfl rfl rfl rfl rfl (c_laws_eqPair fu (x40 : Pair) (x42 : Pair)  hx45) fun e46 w47 hR => ?_
        obtain ⟨rfl, hE⟩ := hR
        refine ⟨_, rfl, fun a hK => ?_⟩
        have hM := hM.step hE
        have hS := hS.trans hE (by simp)
        refine wpList_nil ⟨hS, ?_⟩
        refine d_pure hK 9 rfl (by kernel_rfl) (by kernel_rfl) (by kernel_rfl) rfl rfl rfl hS (fun _ _ _ h => h) rfl fun a hK => ?_
        refine d_done (by kernel_rfl) ?_
        refine (nm_then ?_)
        refine c_cond (b := !x44) hK rfl (fun hb48 => ?_) (fun hb48 => ?_)
        · have h := bif_t hb48 h
          refine wp_seq ?_
          refine wp_region_lit ?_
          refine s1 hK rfl rfl rfl rfl fun a hK => ?_
          refine wpList_nil (nm_then ?_)
          refine wp_ret (rt_block (rt_then (rt_then (rt_block (rt_then ?_)))))
          have h := Option.some.inj h
          subst h
          exact finR1 hK rfl (RV.tmp hK rfl) ⟨rfl, hM.ext⟩
        · have h := bif_f hb48 h
          refine wp_skip (nm_block (nm_then ?_))
          refine wp_region_lit ?_
          iterate 3 (refine s1 hK rfl rfl rfl rfl fun a hK => ?_)
          refine wpList_nil (nm_then ?_)
          exact ⟨w64 (i36 + 1), hK.keep [0, 1, 5] rfl, hM.sel [] rfl (by decide), h⟩
      · have h := bif_f hb38 h
        refine wp_exit (ex_then (ex_then (ex_same (nm_then ?_))))
        refine wp_seq ?_
        refine wp_region_lit ?_
        refine s1 hK rfl rfl rfl rfl fun a hK => ?_
        refine wpList_nil (nm_then ?_)
        refine wp_ret ?_
        have h := Option.some.inj h
        subst h
        exact finR1 hK rfl (RV.tmp hK rfl) ⟨rfl, hM.ext⟩
    · exact ⟨0, hK.keep [0, 1, 5] rfl, hM.sel [] rfl (by decide), h⟩

theorem c_laws_eqType (fu : Nat) {w0 : World} (a1 : Typ) (b2 : Typ)  {r : Bool}
    (h : d_laws_eqType fu a1 b2 = some r) :
    Calls Tryz.prog 145 #[.agg (Flat.e (a1)).toArray, .agg (Flat.e (b2)).toArray] w0 fun e w => e = .returned (.bool (r)) ∧ Ext [] w0 w := by
  refine enter (vs := [_, _]) Tryz.func145 rfl Tryz.ntmps145 rfl fun a hK => ?_
  have hM := St.start w0
  unfold d_laws_eqType at h
  refine wp_seq ?_
  refine wp_region_lit ?_
  refine s_box (cs := [.int .i64 (a1.fId), .int .i64 (a1.fW), .int .i64 (a1.fH), .int .i64 (a1.fD), .int .i64 (a1.fTare), .int .i64 (a1.fGram), .int .i64 (a1.fCost)]) hM hK rfl rfl rfl rfl rfl rfl fun b3 w5 a hK hM hE hb4 => ?_
  refine s_box (cs := [.int .i64 (b2.fId), .int .i64 (b2.fW), .int .i64 (b2.fH), .int .i64 (b2.fD), .int .i64 (b2.fTare), .int .i64 (b2.fGram), .int .i64 (b2.fCost)]) hM hK rfl rfl rfl rfl rfl rfl fun b6 w8 a hK hM hE hb7 => ?_
  refine s1 hK rfl rfl rfl rfl fun a hK => ?_
  refine wpList_nil (nm_then ?_)
  refine wp_seq ?_
  refine wp_seq ?_
  refine wp_region_lit ?_
  refine s_val hK rfl rfl rfl (r_fa fa92_0 hK rfl rfl) fun a hK => ?_
  refine s_val hK rfl rfl rfl (r_ldb t13 hM 1 hb4 0 hK rfl rfl rfl rfl rfl) fun a hK => ?_
  refine s_val hK rfl rfl rfl (r_fa fa92_0 hK rfl rfl) fun a hK => ?_
  refine s_val hK rfl rfl rfl (r_ldb t13 hM 0 hb7 0 hK rfl rfl rfl rfl rfl) fun a hK => ?_
  refine s1 hK rfl rfl rfl rfl fun a hK => ?_
  refine wpList_nil (nm_then ?_)
  refine c_cond (b := a1.fId != b2.fId) hK rfl (fun hb9 => ?_) (fun hb9 => ?_)
  · have h := bif_t hb9 h
    refine wp_seq ?_
    refine wp_region_lit ?_
    refine s1 hK rfl rfl rfl rfl fun a hK => ?_
    refine wpList_nil (nm_then ?_)
    refine wp_ret (rt_then ?_)
    have h := Option.some.inj h
    subst h
    exact finR1 hK rfl (RV.tmp hK rfl) ⟨rfl, hM.ext⟩
  · have h := bif_f hb9 h
    refine wp_skip (nm_then ?_)
    refine wp_seq ?_
    refine wp_seq ?_
    refine wp_region_lit ?_
    refine s_val hK rfl rfl rfl (r_fa fa92_1 hK rfl rfl) fun a hK => ?_
    refine s_val hK rfl rfl rfl (r_ldb t13 hM 1 hb4 1 hK rfl rfl rfl rfl rfl) fun a hK => ?_
    refine s_val hK rfl rfl rfl (r_fa fa92_1 hK rfl rfl) fun a hK => ?_
    refine s_val hK rfl rfl rfl (r_ldb t13 hM 0 hb7 1 hK rfl rfl rfl rfl rfl) fun a hK => ?_
    refine s1 hK rfl rfl rfl rfl fun a hK => ?_
    refine wpList_nil (nm_then ?_)
    refine c_cond (b := a1.fW != b2.fW) hK rfl (fun hb10 => ?_) (fun hb10 => ?_)
    · have h := bif_t hb10 h
      refine wp_seq ?_
      refine wp_region_lit ?_
      refine s1 hK rfl rfl rfl rfl fun a hK => ?_
      refine wpList_nil (nm_then ?_)
      refine wp_ret (rt_then ?_)
      have h := Option.some.inj h
      subst h
      exact finR1 hK rfl (RV.tmp hK rfl) ⟨rfl, hM.ext⟩
    · have h := bif_f hb10 h
      refine wp_skip (nm_then ?_)
      refine wp_seq ?_
      refine wp_seq ?_
      refine wp_region_lit ?_
      refine s_val hK rfl rfl rfl (r_fa fa92_2 hK rfl rfl) fun a hK => ?_
      refine s_val hK rfl rfl rfl (r_ldb t13 hM 1 hb4 2 hK rfl rfl rfl rfl rfl) fun a hK => ?_
      refine s_val hK rfl rfl rfl (r_fa fa92_2 hK rfl rfl) fun a hK => ?_
      refine s_val hK rfl rfl rfl (r_ldb t13 hM 0 hb7 2 hK rfl rfl rfl rfl rfl) fun a hK => ?_
      refine s1 hK rfl rfl rfl rfl fun a hK => ?_
      refine wpList_nil (nm_then ?_)
      refine c_cond (b := a1.fH != b2.fH) hK rfl (fun hb11 => ?_) (fun hb11 => ?_)
      · have h := bif_t hb11 h
        refine wp_seq ?_
        refine wp_region_lit ?_
        refine s1 hK rfl rfl rfl rfl fun a hK => ?_
        refine wpList_nil (nm_then ?_)
        refine wp_ret (rt_then ?_)
        have h := Option.some.inj h
        subst h
        exact finR1 hK rfl (RV.tmp hK rfl) ⟨rfl, hM.ext⟩
      · have h := bif_f hb11 h
        refine wp_skip (nm_then ?_)
        refine wp_seq ?_
        refine wp_seq ?_
        refine wp_region_lit ?_
        refine s_val hK rfl rfl rfl (r_fa fa92_3 hK rfl rfl) fun a hK => ?_
        refine s_val hK rfl rfl rfl (r_ldb t13 hM 1 hb4 3 hK rfl rfl rfl rfl rfl) fun a hK => ?_
        refine s_val hK rfl rfl rfl (r_fa fa92_3 hK rfl rfl) fun a hK => ?_
        refine s_val hK rfl rfl rfl (r_ldb t13 hM 0 hb7 3 hK rfl rfl rfl rfl rfl) fun a hK => ?_
        refine s1 hK rfl rfl rfl rfl fun a hK => ?_
        refine wpList_nil (nm_then ?_)
        refine c_cond (b := a1.fD != b2.fD) hK rfl (fun hb12 => ?_) (fun hb12 => ?_)
        · have h := bif_t hb12 h
          refine wp_seq ?_
          refine wp_region_lit ?_
          refine s1 hK rfl rfl rfl rfl fun a hK => ?_
          refine wpList_nil (nm_then ?_)
          refine wp_ret (rt_then ?_)
          have h := Option.some.inj h
          subst h
          exact finR1 hK rfl (RV.tmp hK rfl) ⟨rfl, hM.ext⟩
        · have h := bif_f hb12 h
          refine wp_skip (nm_then ?_)
          refine wp_seq ?_
          refine wp_seq ?_
          refine wp_region_lit ?_
          refine s_val hK rfl rfl rfl (r_fa fa92_4 hK rfl rfl) fun a hK => ?_
          refine s_val hK rfl rfl rfl (r_ldb t13 hM 1 hb4 4 hK rfl rfl rfl rfl rfl) fun a hK => ?_
          refine s_val hK rfl rfl rfl (r_fa fa92_4 hK rfl rfl) fun a hK => ?_
          refine s_val hK rfl rfl rfl (r_ldb t13 hM 0 hb7 4 hK rfl rfl rfl rfl rfl) fun a hK => ?_
          refine s1 hK rfl rfl rfl rfl fun a hK => ?_
          have hK := hK.keep [2, 3, 29] rfl
          refine wpList_nil (nm_then ?_)
          refine c_cond (b := a1.fTare != b2.fTare) hK rfl (fun hb13 => ?_) (fun hb13 => ?_)
          · have h := bif_t hb13 h
            refine wp_seq ?_
            refine wp_region_lit ?_
            refine s1 hK rfl rfl rfl rfl fun a hK => ?_
            refine wpList_nil (nm_then ?_)
            refine wp_ret (rt_then ?_)
            have h := Option.some.inj h
            subst h
            exact finR1 hK rfl (RV.tmp hK rfl) ⟨rfl, hM.ext⟩
          · have h := bif_f hb13 h
            refine wp_skip (nm_then ?_)
            refine wp_seq ?_
            refine wp_seq ?_
            refine wp_region_lit ?_
            refine s_val hK rfl rfl rfl (r_fa fa92_5 hK rfl rfl) fun a hK => ?_
            refine s_val hK rfl rfl rfl (r_ldb t13 hM 1 hb4 5 hK rfl rfl rfl rfl rfl) fun a hK => ?_
            refine s_val hK rfl rfl rfl (r_fa fa92_5 hK rfl rfl) fun a hK => ?_
            refine s_val hK rfl rfl rfl (r_ldb t13 hM 0 hb7 5 hK rfl rfl rfl rfl rfl) fun a hK => ?_
            refine s1 hK rfl rfl rfl rfl fun a hK => ?_
            refine wpList_nil (nm_then ?_)
            refine c_cond (b := a1.fGram != b2.fGram) hK rfl (fun hb14 => ?_) (fun hb14 => ?_)
            · have h := bif_t hb14 h
              refine wp_seq ?_
              refine wp_region_lit ?_
              refine s1 hK rfl rfl rfl rfl fun a hK => ?_
              refine wpList_nil (nm_then ?_)
              refine wp_ret (rt_then ?_)
              have h := Option.some.inj h
              subst h
              exact finR1 hK rfl (RV.tmp hK rfl) ⟨rfl, hM.ext⟩
            · have h := bif_f hb14 h
              refine wp_skip (nm_then ?_)
              refine wp_seq ?_
              refine wp_seq ?_
              refine wp_region_lit ?_
              refine s_val hK rfl rfl rfl (r_fa fa92_6 hK rfl rfl) fun a hK => ?_
              refine s_val hK rfl rfl rfl (r_ldb t13 hM 1 hb4 6 hK rfl rfl rfl rfl rfl) fun a hK => ?_
              refine s_val hK rfl rfl rfl (r_fa fa92_6 hK rfl rfl) fun a hK => ?_
              refine s_val hK rfl rfl rfl (r_ldb t13 hM 0 hb7 6 hK rfl rfl rfl rfl rfl) fun a hK => ?_
              refine s1 hK rfl rfl rfl rfl fun a hK => ?_
              refine wpList_nil (nm_then ?_)
              refine c_cond (b := a1.fCost != b2.fCost) hK rfl (fun hb15 => ?_) (fun hb15 => ?_)
              · have h := bif_t hb15 h
                refine wp_seq ?_
                refine wp_region_lit ?_
                refine s1 hK rfl rfl rfl rfl fun a hK => ?_
                refine wpList_nil (nm_then ?_)
                refine wp_ret (rt_then ?_)
                have h := Option.some.inj h
                subst h
                exact finR1 hK rfl (RV.tmp hK rfl) ⟨rfl, hM.ext⟩
              · have h := bif_f hb15 h
                refine wp_skip (nm_then ?_)
                refine wp_seq ?_
                refine wp_region_lit ?_
                refine s1 hK rfl rfl rfl rfl fun a hK => ?_
                refine wpList_nil (nm_then ?_)
                refine wp_ret ?_
                have h := Option.some.inj h
                subst h
                exact finR1 hK rfl (RV.tmp hK rfl) ⟨rfl, hM.ext⟩

theorem c_laws_eqTypeS (fu : Nat) {w0 : World} (a1 : List Typ) (b5 : List Typ) {v2 : Value} {F3 : List Nat} (hp4 : rd w0 F3 [v2] a1) {v6 : Value} {F7 : List Nat} (hp8 : rd w0 F7 [v6] b5) {r : Bool}
    (h : d_laws_eqTypeS fu a1 b5 = some r) :
    Calls Tryz.prog 81 #[v2, v6] w0 fun e w => e = .returned (.bool (r)) ∧ Ext [] w0 w := by
  refine enter (vs := [_, _]) Tryz.func81 rfl Tryz.ntmps81 rfl fun a hK => ?_
  have hM := St.start w0
  unfold d_laws_eqTypeS at h
  refine wp_seq ?_
  refine wp_region_lit ?_
  refine s1 hK rfl rfl rfl rfl fun a hK => ?_
  refine wpList_nil (nm_then ?_)
  refine wp_seq ?_
  refine wp_seq ?_
  refine wp_region_lit ?_
  refine s1 hK rfl rfl rfl rfl fun a hK => ?_
  refine s_val hK rfl rfl rfl (r_len (α := Typ) hp4 hK Tryz.underlying37 rfl rfl) fun a hK => ?_
  refine s1 hK rfl rfl rfl rfl fun a hK => ?_
  refine s_val hK rfl rfl rfl (r_len (α := Typ) hp8 hK Tryz.underlying37 rfl rfl) fun a hK => ?_
  refine s1 hK rfl rfl rfl rfl fun a hK => ?_
  refine wpList_nil (nm_then ?_)
  refine c_cond (b := ((a1.length : Int)) != ((b5.length : Int))) hK rfl (fun hb9 => ?_) (fun hb9 => ?_)
  · have h := bif_t hb9 h
    refine wp_seq ?_
    refine wp_region_lit ?_
    refine s1 hK rfl rfl rfl rfl fun a hK => ?_
    refine wpList_nil (nm_then ?_)
    refine wp_ret (rt_then ?_)
    have h := Option.some.inj h
    subst h
    exact finR1 hK rfl (RV.tmp hK rfl) ⟨rfl, hM.ext⟩
  · have h := bif_f hb9 h
    refine wp_skip (nm_then ?_)
    refine wp_seq ?_
    refine wp_seq ?_
    refine wp_region_lit ?_
    refine s1 hK rfl rfl rfl rfl fun a hK => ?_
    refine wpList_nil (nm_then ?_)
    refine wp_block ?_
    refine c_loop (fun n a w => ∃ (i36 : Int), K 27 [(0, v2), (1, v6), (5, .int .i64 (i36))] a ∧ St [] w0 w [] ∧ d_laws_eqTypeS_L1 fu a1 b5 n i36 = some r) ?_ ?_ fu _ _ ?_
    · rintro a w ⟨_, _, _, h⟩
      cases (show none = some _ from h)
    · rintro m37 a w35 ⟨i36, hK, hM, h⟩
      rw [d_laws_eqTypeS_L1_s] at h
      unfold d_laws_eqTypeS_L1_B at h
      refine wp_seq ?_
      refine wp_seq ?_
      refine wp_region_lit ?_
      iterate 2 (refine s1 hK rfl rfl rfl rfl fun a hK => ?_)
      refine s_val hK rfl rfl rfl (r_len (α := Typ) hp4 hK Tryz.underlying37 rfl rfl) fun a hK => ?_
      refine s1 hK rfl rfl rfl rfl fun a hK => ?_
      refine wpList_nil (nm_then ?_)
      refine c_cond (b := decide (i36 < ((a1.length : Int)))) hK rfl (fun hb38 => ?_) (fun hb38 => ?_)
      · have h := bif_t hb38 h
        refine wp_skip (nm_then ?_)
        refine wp_seq ?_
        refine wp_block ?_
        refine wp_seq ?_
        refine d_go [] mixo hM rfl fun w39 hMd => ?_
        have hM := hMd
        have hS := Ext.refl ([] : List Nat) w39
        refine d_pure hK 0 rfl (by kernel_rfl) (by kernel_rfl) (by kernel_rfl) rfl rfl rfl hS (fun _ _ _ h => h) rfl fun a hK => ?_
        refine d_pure hK 1 rfl (by kernel_rfl) (by kernel_rfl) (by kernel_rfl) rfl rfl rfl hS (fun _ _ _ h => h) rfl fun a hK => ?_
        obtain ⟨x40, hx41, h⟩ := obind_some h
        refine d_take hK 2 rfl (by kernel_rfl) (by kernel_rfl) (by kernel_rfl) rfl rfl rfl hS (fun _ _ _ h => h) (fun w hS => r_ixa hp4 hx41 hK ts37 rfl rfl rfl) fun a hK => ?_
        refine d_take hK 3 rfl (by kernel_rfl) (by kernel_rfl) (by kernel_rfl) rfl rfl rfl hS (fun _ _ _ h => h) (fun w hS => r_lde hp4 ((hMd.step hS).a00 (Enc.rd_lt hp4)) hx41 ta92 hK rfl rfl) fun a hK => ?_
        refine d_pure hK 4 rfl (by kernel_rfl) (by kernel_rfl) (by kernel_rfl) rfl rfl rfl hS (fun _ _ _ h => h) rfl fun a hK => ?_
        refine d_pure hK 5 rfl (by kernel_rfl) (by kernel_rfl) (by kernel_rfl) rfl rfl rfl hS (fun _ _ _ h => h) rfl fun a hK => ?_
        obtain ⟨x42, hx43, h⟩ := obind_some h
        refine d_take hK 6 rfl (by kernel_rfl) (by kernel_rfl) (by kernel_rfl) rfl rfl rfl hS (fun _ _ _ h => h) (fun w hS => r_ixa hp8 hx43 hK ts37 rfl rfl rfl) fun a hK => ?_
        refine d_take hK 7 rfl (by kernel_rfl) (by kernel_rfl) (by kernel_rfl) rfl rfl rfl hS (fun _ _ _ h => h) (fun w hS => r_lde hp8 ((hMd.step hS).a00 (Enc.rd_lt hp8)) hx43 ta92 hK rfl rfl) fun a hK => ?_
        refine d_one 8 (by kernel_rfl) rfl ?_
        obtain ⟨x44, hx45, h⟩ := obind_some h
        refine s_call hK Tryz.call145 rfl rfl rfl rfl rfl (c_laws_eqType fu (x40 : Typ) (x42 : Typ)  hx45) fun e46 w47 hR => ?_
        obtain ⟨rfl, hE⟩ := hR
        refine ⟨_, rfl, fun a hK => ?_⟩
        have hM := hM.step hE
        have hS := hS.trans hE (by simp)
        refine wpList_nil ⟨hS, ?_⟩
        refine d_pure hK 9 rfl (by kernel_rfl) (by kernel_rfl) (by kernel_rfl) rfl rfl rfl hS (fun _ _ _ h => h) rfl fun a hK => ?_
        refine d_done (by kernel_rfl) ?_
        refine (nm_then ?_)
        refine c_cond (b := !x44) hK rfl (fun hb48 => ?_) (fun hb48 => ?_)
        · have h := bif_t hb48 h
          refine wp_seq ?_
          refine wp_region_lit ?_
          refine s1 hK rfl rfl rfl rfl fun a hK => ?_
          refine wpList_nil (nm_then ?_)
          refine wp_ret (rt_block (rt_then (rt_then (rt_block (rt_then ?_)))))
          have h := Option.some.inj h
          subst h
          exact finR1 hK rfl (RV.tmp hK rfl) ⟨rfl, hM.ext⟩
        · have h := bif_f hb48 h
          refine wp_skip (nm_block (nm_then ?_))
          refine wp_region_lit ?_
          iterate 3 (refine s1 hK rfl rfl rfl rfl fun a hK => ?_)
          refine wpList_nil (nm_then ?_)
          exact ⟨w64 (i36 + 1), hK.keep [0, 1, 5] rfl, hM.sel [] rfl (by decide), h⟩
      · have h := bif_f hb38 h
        refine wp_exit (ex_then (ex_then (ex_same (nm_then ?_))))
        refine wp_seq ?_
        refine wp_region_lit ?_
        refine s1 hK rfl rfl rfl rfl fun a hK => ?_
        refine wpList_nil (nm_then ?_)
        refine wp_ret ?_
        have h := Option.some.inj h
        subst h
        exact finR1 hK rfl (RV.tmp hK rfl) ⟨rfl, hM.ext⟩
    · exact ⟨0, hK.keep [0, 1, 5] rfl, hM.sel [] rfl (by decide), h⟩

theorem c_laws_eqItem (fu : Nat) {w0 : World} (a1 : Item) (b2 : Item)  {r : Bool}
    (h : d_laws_eqItem fu a1 b2 = some r) :
    Calls Tryz.prog 146 #[.agg (Flat.e (a1)).toArray, .agg (Flat.e (b2)).toArray] w0 fun e w => e = .returned (.bool (r)) ∧ Ext [] w0 w := by
  refine enter (vs := [_, _]) Tryz.func146 rfl Tryz.ntmps146 rfl fun a hK => ?_
  have hM := St.start w0
  unfold d_laws_eqItem at h
  refine wp_seq ?_
  refine wp_region_lit ?_
  refine s_box (cs := [.int .i64 (a1.fId), .int .i64 (a1.fW), .int .i64 (a1.fH), .int .i64 (a1.fD), .int .i64 (a1.fGram), .int .i64 (a1.fClass), .int .i64 (a1.fCount)]) hM hK rfl rfl rfl rfl rfl rfl fun b3 w5 a hK hM hE hb4 => ?_
  refine s_box (cs := [.int .i64 (b2.fId), .int .i64 (b2.fW), .int .i64 (b2.fH), .int .i64 (b2.fD), .int .i64 (b2.fGram), .int .i64 (b2.fClass), .int .i64 (b2.fCount)]) hM hK rfl rfl rfl rfl rfl rfl fun b6 w8 a hK hM hE hb7 => ?_
  refine s1 hK rfl rfl rfl rfl fun a hK => ?_
  refine wpList_nil (nm_then ?_)
  refine wp_seq ?_
  refine wp_seq ?_
  refine wp_region_lit ?_
  refine s_val hK rfl rfl rfl (r_fa fa120_0 hK rfl rfl) fun a hK => ?_
  refine s_val hK rfl rfl rfl (r_ldb t13 hM 1 hb4 0 hK rfl rfl rfl rfl rfl) fun a hK => ?_
  refine s_val hK rfl rfl rfl (r_fa fa120_0 hK rfl rfl) fun a hK => ?_
  refine s_val hK rfl rfl rfl (r_ldb t13 hM 0 hb7 0 hK rfl rfl rfl rfl rfl) fun a hK => ?_
  refine s1 hK rfl rfl rfl rfl fun a hK => ?_
  refine wpList_nil (nm_then ?_)
  refine c_cond (b := a1.fId != b2.fId) hK rfl (fun hb9 => ?_) (fun hb9 => ?_)
  · have h := bif_t hb9 h
    refine wp_seq ?_
    refine wp_region_lit ?_
    refine s1 hK rfl rfl rfl rfl fun a hK => ?_
    refine wpList_nil (nm_then ?_)
    refine wp_ret (rt_then ?_)
    have h := Option.some.inj h
    subst h
    exact finR1 hK rfl (RV.tmp hK rfl) ⟨rfl, hM.ext⟩
  · have h := bif_f hb9 h
    refine wp_skip (nm_then ?_)
    refine wp_seq ?_
    refine wp_seq ?_
    refine wp_region_lit ?_
    refine s_val hK rfl rfl rfl (r_fa fa120_1 hK rfl rfl) fun a hK => ?_
    refine s_val hK rfl rfl rfl (r_ldb t13 hM 1 hb4 1 hK rfl rfl rfl rfl rfl) fun a hK => ?_
    refine s_val hK rfl rfl rfl (r_fa fa120_1 hK rfl rfl) fun a hK => ?_
    refine s_val hK rfl rfl rfl (r_ldb t13 hM 0 hb7 1 hK rfl rfl rfl rfl rfl) fun a hK => ?_
    refine s1 hK rfl rfl rfl rfl fun a hK => ?_
    refine wpList_nil (nm_then ?_)
    refine c_cond (b := a1.fW != b2.fW) hK rfl (fun hb10 => ?_) (fun hb10 => ?_)
    · have h := bif_t hb10 h
      refine wp_seq ?_
      refine wp_region_lit ?_
      refine s1 hK rfl rfl rfl rfl fun a hK => ?_
      refine wpList_nil (nm_then ?_)
      refine wp_ret (rt_then ?_)
      have h := Option.some.inj h
      subst h
      exact finR1 hK rfl (RV.tmp hK rfl) ⟨rfl, hM.ext⟩
    · have h := bif_f hb10 h
      refine wp_skip (nm_then ?_)
      refine wp_seq ?_
      refine wp_seq ?_
      refine wp_region_lit ?_
      refine s_val hK rfl rfl rfl (r_fa fa120_2 hK rfl rfl) fun a hK => ?_
      refine s_val hK rfl rfl rfl (r_ldb t13 hM 1 hb4 2 hK rfl rfl rfl rfl rfl) fun a hK => ?_
      refine s_val hK rfl rfl rfl (r_fa fa120_2 hK rfl rfl) fun a hK => ?_
      refine s_val hK rfl rfl rfl (r_ldb t13 hM 0 hb7 2 hK rfl rfl rfl rfl rfl) fun a hK => ?_
      refine s1 hK rfl rfl rfl rfl fun a hK => ?_
      refine wpList_nil (nm_then ?_)
      refine c_cond (b := a1.fH != b2.fH) hK rfl (fun hb11 => ?_) (fun hb11 => ?_)
      · have h := bif_t hb11 h
        refine wp_seq ?_
        refine wp_region_lit ?_
        refine s1 hK rfl rfl rfl rfl fun a hK => ?_
        refine wpList_nil (nm_then ?_)
        refine wp_ret (rt_then ?_)
        have h := Option.some.inj h
        subst h
        exact finR1 hK rfl (RV.tmp hK rfl) ⟨rfl, hM.ext⟩
      · have h := bif_f hb11 h
        refine wp_skip (nm_then ?_)
        refine wp_seq ?_
        refine wp_seq ?_
        refine wp_region_lit ?_
        refine s_val hK rfl rfl rfl (r_fa fa120_3 hK rfl rfl) fun a hK => ?_
        refine s_val hK rfl rfl rfl (r_ldb t13 hM 1 hb4 3 hK rfl rfl rfl rfl rfl) fun a hK => ?_
        refine s_val hK rfl rfl rfl (r_fa fa120_3 hK rfl rfl) fun a hK => ?_
        refine s_val hK rfl rfl rfl (r_ldb t13 hM 0 hb7 3 hK rfl rfl rfl rfl rfl) fun a hK => ?_
        refine s1 hK rfl rfl rfl rfl fun a hK => ?_
        refine wpList_nil (nm_then ?_)
        refine c_cond (b := a1.fD != b2.fD) hK rfl (fun hb12 => ?_) (fun hb12 => ?_)
        · have h := bif_t hb12 h
          refine wp_seq ?_
          refine wp_region_lit ?_
          refine s1 hK rfl rfl rfl rfl fun a hK => ?_
          refine wpList_nil (nm_then ?_)
          refine wp_ret (rt_then ?_)
          have h := Option.some.inj h
          subst h
          exact finR1 hK rfl (RV.tmp hK rfl) ⟨rfl, hM.ext⟩
        · have h := bif_f hb12 h
          refine wp_skip (nm_then ?_)
          refine wp_seq ?_
          refine wp_seq ?_
          refine wp_region_lit ?_
          refine s_val hK rfl rfl rfl (r_fa fa120_4 hK rfl rfl) fun a hK => ?_
          refine s_val hK rfl rfl rfl (r_ldb t13 hM 1 hb4 4 hK rfl rfl rfl rfl rfl) fun a hK => ?_
          refine s_val hK rfl rfl rfl (r_fa fa120_4 hK rfl rfl) fun a hK => ?_
          refine s_val hK rfl rfl rfl (r_ldb t13 hM 0 hb7 4 hK rfl rfl rfl rfl rfl) fun a hK => ?_
          refine s1 hK rfl rfl rfl rfl fun a hK => ?_
          have hK := hK.keep [2, 3, 29] rfl
          refine wpList_nil (nm_then ?_)
          refine c_cond (b := a1.fGram != b2.fGram) hK rfl (fun hb13 => ?_) (fun hb13 => ?_)
          · have h := bif_t hb13 h
            refine wp_seq ?_
            refine wp_region_lit ?_
            refine s1 hK rfl rfl rfl rfl fun a hK => ?_
            refine wpList_nil (nm_then ?_)
            refine wp_ret (rt_then ?_)
            have h := Option.some.inj h
            subst h
            exact finR1 hK rfl (RV.tmp hK rfl) ⟨rfl, hM.ext⟩
          · have h := bif_f hb13 h
            refine wp_skip (nm_then ?_)
            refine wp_seq ?_
            refine wp_seq ?_
            refine wp_region_lit ?_
            refine s_val hK rfl rfl rfl (r_fa fa120_5 hK rfl rfl) fun a hK => ?_
            refine s_val hK rfl rfl rfl (r_ldb t13 hM 1 hb4 5 hK rfl rfl rfl rfl rfl) fun a hK => ?_
            refine s_val hK rfl rfl rfl (r_fa fa120_5 hK rfl rfl) fun a hK => ?_
            refine s_val hK rfl rfl rfl (r_ldb t13 hM 0 hb7 5 hK rfl rfl rfl rfl rfl) fun a hK => ?_
            refine s1 hK rfl rfl rfl rfl fun a hK => ?_
            refine wpList_nil (nm_then ?_)
            refine c_cond (b := a1.fClass != b2.fClass) hK rfl (fun hb14 => ?_) (fun hb14 => ?_)
            · have h := bif_t hb14 h
              refine wp_seq ?_
              refine wp_region_lit ?_
              refine s1 hK rfl rfl rfl rfl fun a hK => ?_
              refine wpList_nil (nm_then ?_)
              refine wp_ret (rt_then ?_)
              have h := Option.some.inj h
              subst h
              exact finR1 hK rfl (RV.tmp hK rfl) ⟨rfl, hM.ext⟩
            · have h := bif_f hb14 h
              refine wp_skip (nm_then ?_)
              refine wp_seq ?_
              refine wp_seq ?_
              refine wp_region_lit ?_
              refine s_val hK rfl rfl rfl (r_fa fa120_6 hK rfl rfl) fun a hK => ?_
              refine s_val hK rfl rfl rfl (r_ldb t13 hM 1 hb4 6 hK rfl rfl rfl rfl rfl) fun a hK => ?_
              refine s_val hK rfl rfl rfl (r_fa fa120_6 hK rfl rfl) fun a hK => ?_
              refine s_val hK rfl rfl rfl (r_ldb t13 hM 0 hb7 6 hK rfl rfl rfl rfl rfl) fun a hK => ?_
              refine s1 hK rfl rfl rfl rfl fun a hK => ?_
              refine wpList_nil (nm_then ?_)
              refine c_cond (b := a1.fCount != b2.fCount) hK rfl (fun hb15 => ?_) (fun hb15 => ?_)
              · have h := bif_t hb15 h
                refine wp_seq ?_
                refine wp_region_lit ?_
                refine s1 hK rfl rfl rfl rfl fun a hK => ?_
                refine wpList_nil (nm_then ?_)
                refine wp_ret (rt_then ?_)
                have h := Option.some.inj h
                subst h
                exact finR1 hK rfl (RV.tmp hK rfl) ⟨rfl, hM.ext⟩
              · have h := bif_f hb15 h
                refine wp_skip (nm_then ?_)
                refine wp_seq ?_
                refine wp_region_lit ?_
                refine s1 hK rfl rfl rfl rfl fun a hK => ?_
                refine wpList_nil (nm_then ?_)
                refine wp_ret ?_
                have h := Option.some.inj h
                subst h
                exact finR1 hK rfl (RV.tmp hK rfl) ⟨rfl, hM.ext⟩

theorem c_laws_eqItemS (fu : Nat) {w0 : World} (a1 : List Item) (b5 : List Item) {v2 : Value} {F3 : List Nat} (hp4 : rd w0 F3 [v2] a1) {v6 : Value} {F7 : List Nat} (hp8 : rd w0 F7 [v6] b5) {r : Bool}
    (h : d_laws_eqItemS fu a1 b5 = some r) :
    Calls Tryz.prog 82 #[v2, v6] w0 fun e w => e = .returned (.bool (r)) ∧ Ext [] w0 w := by
  refine enter (vs := [_, _]) Tryz.func82 rfl Tryz.ntmps82 rfl fun a hK => ?_
  have hM := St.start w0
  unfold d_laws_eqItemS at h
  refine wp_seq ?_
  refine wp_region_lit ?_
  refine s1 hK rfl rfl rfl rfl fun a hK => ?_
  refine wpList_nil (nm_then ?_)
  refine wp_seq ?_
  refine wp_seq ?_
  refine wp_region_lit ?_
  refine s1 hK rfl rfl rfl rfl fun a hK => ?_
  refine s_val hK rfl rfl rfl (r_len (α := Item) hp4 hK Tryz.underlying38 rfl rfl) fun a hK => ?_
  refine s1 hK rfl rfl rfl rfl fun a hK => ?_
  refine s_val hK rfl rfl rfl (r_len (α := Item) hp8 hK Tryz.underlying38 rfl rfl) fun a hK => ?_
  refine s1 hK rfl rfl rfl rfl fun a hK => ?_
  refine wpList_nil (nm_then ?_)
  refine c_cond (b := ((a1.length : Int)) != ((b5.length : Int))) hK rfl (fun hb9 => ?_) (fun hb9 => ?_)
  · have h := bif_t hb9 h
    refine wp_seq ?_
    refine wp_region_lit ?_
    refine s1 hK rfl rfl rfl rfl fun a hK => ?_
    refine wpList_nil (nm_then ?_)
    refine wp_ret (rt_then ?_)
    have h := Option.some.inj h
    subst h
    exact finR1 hK rfl (RV.tmp hK rfl) ⟨rfl, hM.ext⟩
  · have h := bif_f hb9 h
    refine wp_skip (nm_then ?_)
    refine wp_seq ?_
    refine wp_seq ?_
    refine wp_region_lit ?_
    refine s1 hK rfl rfl rfl rfl fun a hK => ?_
    refine wpList_nil (nm_then ?_)
    refine wp_block ?_
    refine c_loop (fun n a w => ∃ (i36 : Int), K 27 [(0, v2), (1, v6), (5, .int .i64 (i36))] a ∧ St [] w0 w [] ∧ d_laws_eqItemS_L1 fu a1 b5 n i36 = some r) ?_ ?_ fu _ _ ?_
    · rintro a w ⟨_, _, _, h⟩
      cases (show none = some _ from h)
    · rintro m37 a w35 ⟨i36, hK, hM, h⟩
      rw [d_laws_eqItemS_L1_s] at h
      unfold d_laws_eqItemS_L1_B at h
      refine wp_seq ?_
      refine wp_seq ?_
      refine wp_region_lit ?_
      iterate 2 (refine s1 hK rfl rfl rfl rfl fun a hK => ?_)
      refine s_val hK rfl rfl rfl (r_len (α := Item) hp4 hK Tryz.underlying38 rfl rfl) fun a hK => ?_
      refine s1 hK rfl rfl rfl rfl fun a hK => ?_
      refine wpList_nil (nm_then ?_)
      refine c_cond (b := decide (i36 < ((a1.length : Int)))) hK rfl (fun hb38 => ?_) (fun hb38 => ?_)
      · have h := bif_t hb38 h
        refine wp_skip (nm_then ?_)
        refine wp_seq ?_
        refine wp_block ?_
        refine wp_seq ?_
        refine d_go [] mixo hM rfl fun w39 hMd => ?_
        have hM := hMd
        have hS := Ext.refl ([] : List Nat) w39
        refine d_pure hK 0 rfl (by kernel_rfl) (by kernel_rfl) (by kernel_rfl) rfl rfl rfl hS (fun _ _ _ h => h) rfl fun a hK => ?_
        refine d_pure hK 1 rfl (by kernel_rfl) (by kernel_rfl) (by kernel_rfl) rfl rfl rfl hS (fun _ _ _ h => h) rfl fun a hK => ?_
        obtain ⟨x40, hx41, h⟩ := obind_some h
        refine d_take hK 2 rfl (by kernel_rfl) (by kernel_rfl) (by kernel_rfl) rfl rfl rfl hS (fun _ _ _ h => h) (fun w hS => r_ixa hp4 hx41 hK ts38 rfl rfl rfl) fun a hK => ?_
        refine d_take hK 3 rfl (by kernel_rfl) (by kernel_rfl) (by kernel_rfl) rfl rfl rfl hS (fun _ _ _ h => h) (fun w hS => r_lde hp4 ((hMd.step hS).a00 (Enc.rd_lt hp4)) hx41 ta120 hK rfl rfl) fun a hK => ?_
        refine d_pure hK 4 rfl (by kernel_rfl) (by kernel_rfl) (by kernel_rfl) rfl rfl rfl hS (fun _ _ _ h => h) rfl fun a hK => ?_
        refine d_pure hK 5 rfl (by kernel_rfl) (by kernel_rfl) (by kernel_rfl) rfl rfl rfl hS (fun _ _ _ h => h) rfl fun a hK => ?_
        obtain ⟨x42, hx43, h⟩ := obind_some h
        refine d_take hK 6 rfl (by kernel_rfl) (by kernel_rfl) (by kernel_rfl) rfl rfl rfl hS (fun _ _ _ h => h) (fun w hS => r_ixa hp8 hx43 hK ts38 rfl rfl rfl) fun a hK => ?_
        refine d_take hK 7 rfl (by kernel_rfl) (by kernel_rfl) (by kernel_rfl) rfl rfl rfl hS (fun _ _ _ h => h) (fun w hS => r_lde hp8 ((hMd.step hS).a00 (Enc.rd_lt hp8)) hx43 ta120 hK rfl rfl) fun a hK => ?_
        refine d_one 8 (by kernel_rfl) rfl ?_
        obtain ⟨x44, hx45, h⟩ := obind_some h
        refine s_call hK Tryz.call146 rfl rfl rfl rfl rfl (c_laws_eqItem fu (x40 : Item) (x42 : Item)  hx45) fun e46 w47 hR => ?_
        obtain ⟨rfl, hE⟩ := hR
        refine ⟨_, rfl, fun a hK => ?_⟩
        have hM := hM.step hE
        have hS := hS.trans hE (by simp)
        refine wpList_nil ⟨hS, ?_⟩
        refine d_pure hK 9 rfl (by kernel_rfl) (by kernel_rfl) (by kernel_rfl) rfl rfl rfl hS (fun _ _ _ h => h) rfl fun a hK => ?_
        refine d_done (by kernel_rfl) ?_
        refine (nm_then ?_)
        refine c_cond (b := !x44) hK rfl (fun hb48 => ?_) (fun hb48 => ?_)
        · have h := bif_t hb48 h
          refine wp_seq ?_
          refine wp_region_lit ?_
          refine s1 hK rfl rfl rfl rfl fun a hK => ?_
          refine wpList_nil (nm_then ?_)
          refine wp_ret (rt_block (rt_then (rt_then (rt_block (rt_then ?_)))))
          have h := Option.some.inj h
          subst h
          exact finR1 hK rfl (RV.tmp hK rfl) ⟨rfl, hM.ext⟩
        · have h := bif_f hb48 h
          refine wp_skip (nm_block (nm_then ?_))
          refine wp_region_lit ?_
          iterate 3 (refine s1 hK rfl rfl rfl rfl fun a hK => ?_)
          refine wpList_nil (nm_then ?_)
          exact ⟨w64 (i36 + 1), hK.keep [0, 1, 5] rfl, hM.sel [] rfl (by decide), h⟩
      · have h := bif_f hb38 h
        refine wp_exit (ex_then (ex_then (ex_same (nm_then ?_))))
        refine wp_seq ?_
        refine wp_region_lit ?_
        refine s1 hK rfl rfl rfl rfl fun a hK => ?_
        refine wpList_nil (nm_then ?_)
        refine wp_ret ?_
        have h := Option.some.inj h
        subst h
        exact finR1 hK rfl (RV.tmp hK rfl) ⟨rfl, hM.ext⟩
    · exact ⟨0, hK.keep [0, 1, 5] rfl, hM.sel [] rfl (by decide), h⟩

theorem c_laws_eqRequest (fu : Nat) {w0 : World} (a1 : Request) (b5 : Request) {cs2 : List Value} {F3 : List Nat} (hp4 : rd w0 F3 cs2 a1) {cs6 : List Value} {F7 : List Nat} (hp8 : rd w0 F7 cs6 b5) {r : Bool}
    (h : d_laws_eqRequest fu a1 b5 = some r) :
    Calls Tryz.prog 21 #[.agg cs2.toArray, .agg cs6.toArray] w0 fun e w => e = .returned (.bool (r)) ∧ Ext [] w0 w := by
  refine enter (vs := [_, _]) Tryz.func21 rfl Tryz.ntmps21 rfl fun a hK => ?_
  have hM := St.start w0
  obtain ⟨v9, F10, v11, F12, v13, F14, rfl, rfl, hf15, hf16, hf17⟩ := hp4
  obtain ⟨v18, F19, v20, F21, v22, F23, rfl, rfl, hf24, hf25, hf26⟩ := hp8
  unfold d_laws_eqRequest at h
  refine wp_seq ?_
  refine wp_region_lit ?_
  refine s_box (cs := [.int .i64 (a1.fWay), .int .i64 (a1.fPallet.fW), .int .i64 (a1.fPallet.fD), .int .i64 (a1.fPallet.fH), .int .i64 (a1.fPallet.fGram), .int .i64 (a1.fClasses), v9, v11, .int .i64 (a1.fMaster), v13]) hM hK rfl rfl rfl rfl rfl rfl fun b27 w29 a hK hM hE hb28 => ?_
  refine s_box (cs := [.int .i64 (b5.fWay), .int .i64 (b5.fPallet.fW), .int .i64 (b5.fPallet.fD), .int .i64 (b5.fPallet.fH), .int .i64 (b5.fPallet.fGram), .int .i64 (b5.fClasses), v18, v20, .int .i64 (b5.fMaster), v22]) hM hK rfl rfl rfl rfl rfl rfl fun b30 w32 a hK hM hE hb31 => ?_
  refine s1 hK rfl rfl rfl rfl fun a hK => ?_
  refine wpList_nil (nm_then ?_)
  refine wp_seq ?_
  refine wp_seq ?_
  refine wp_region_lit ?_
  refine s_val hK rfl rfl rfl (r_fa fa40_0 hK rfl rfl) fun a hK => ?_
  refine s_val hK rfl rfl rfl (r_ldb t13 hM 1 hb28 0 hK rfl rfl rfl rfl rfl) fun a hK => ?_
  refine s_val hK rfl rfl rfl (r_fa fa40_0 hK rfl rfl) fun a hK => ?_
  refine s_val hK rfl rfl rfl (r_ldb t13 hM 0 hb31 0 hK rfl rfl rfl rfl rfl) fun a hK => ?_
  refine s1 hK rfl rfl rfl rfl fun a hK => ?_
  refine wpList_nil (nm_then ?_)
  refine c_cond (b := a1.fWay != b5.fWay) hK rfl (fun hb33 => ?_) (fun hb33 => ?_)
  · have h := bif_t hb33 h
    refine wp_seq ?_
    refine wp_region_lit ?_
    refine s1 hK rfl rfl rfl rfl fun a hK => ?_
    refine wpList_nil (nm_then ?_)
    refine wp_ret (rt_then ?_)
    have h := Option.some.inj h
    subst h
    exact finR1 hK rfl (RV.tmp hK rfl) ⟨rfl, hM.ext⟩
  · have h := bif_f hb33 h
    refine wp_skip (nm_then ?_)
    refine wp_seq ?_
    refine wp_seq ?_
    refine wp_region_lit ?_
    refine s_val hK rfl rfl rfl (r_fa fa40_1 hK rfl rfl) fun a hK => ?_
    refine s_val hK rfl rfl rfl (r_ldB ta35 hM 1 hb28 1 hK rfl rfl rfl rfl rfl rfl) fun a hK => ?_
    refine s_val hK rfl rfl rfl (r_fa fa40_1 hK rfl rfl) fun a hK => ?_
    refine s_val hK rfl rfl rfl (r_ldB ta35 hM 0 hb31 1 hK rfl rfl rfl rfl rfl rfl) fun a hK => ?_
    obtain ⟨x34, hx35, h⟩ := obind_some h
    refine s_call hK Tryz.call79 rfl rfl rfl rfl rfl (c_laws_eqPallet fu (a1.fPallet : Pallet) (b5.fPallet : Pallet)  hx35) fun e36 w37 hR => ?_
    obtain ⟨rfl, hE⟩ := hR
    refine ⟨_, rfl, fun a hK => ?_⟩
    have hM := hM.step hE
    refine s1 hK rfl rfl rfl rfl fun a hK => ?_
    refine wpList_nil (nm_then ?_)
    refine c_cond (b := !x34) hK rfl (fun hb38 => ?_) (fun hb38 => ?_)
    · have h := bif_t hb38 h
      refine wp_seq ?_
      refine wp_region_lit ?_
      refine s1 hK rfl rfl rfl rfl fun a hK => ?_
      refine wpList_nil (nm_then ?_)
      refine wp_ret (rt_then ?_)
      have h := Option.some.inj h
      subst h
      exact finR1 hK rfl (RV.tmp hK rfl) ⟨rfl, hM.ext⟩
    · have h := bif_f hb38 h
      refine wp_skip (nm_then ?_)
      refine wp_seq ?_
      refine wp_seq ?_
      refine wp_region_lit ?_
      refine s_val hK rfl rfl rfl (r_fa fa40_2 hK rfl rfl) fun a hK => ?_
      refine s_val hK rfl rfl rfl (r_ldb t13 hM 1 hb28 5 hK rfl rfl rfl rfl rfl) fun a hK => ?_
      refine s_val hK rfl rfl rfl (r_fa fa40_2 hK rfl rfl) fun a hK => ?_
      refine s_val hK rfl rfl rfl (r_ldb t13 hM 0 hb31 5 hK rfl rfl rfl rfl rfl) fun a hK => ?_
      refine s1 hK rfl rfl rfl rfl fun a hK => ?_
      refine wpList_nil (nm_then ?_)
      refine c_cond (b := a1.fClasses != b5.fClasses) hK rfl (fun hb39 => ?_) (fun hb39 => ?_)
      · have h := bif_t hb39 h
        refine wp_seq ?_
        refine wp_region_lit ?_
        refine s1 hK rfl rfl rfl rfl fun a hK => ?_
        refine wpList_nil (nm_then ?_)
        refine wp_ret (rt_then ?_)
        have h := Option.some.inj h
        subst h
        exact finR1 hK rfl (RV.tmp hK rfl) ⟨rfl, hM.ext⟩
      · have h := bif_f hb39 h
        refine wp_skip (nm_then ?_)
        refine wp_seq ?_
        refine wp_seq ?_
        refine wp_region_lit ?_
        refine s_val hK rfl rfl rfl (r_fa fa40_3 hK rfl rfl) fun a hK => ?_
        refine s_val hK rfl rfl rfl (r_ldb t136 hM 1 hb28 6 hK rfl rfl rfl rfl rfl) fun a hK => ?_
        refine s_val hK rfl rfl rfl (r_fa fa40_3 hK rfl rfl) fun a hK => ?_
        refine s_val hK rfl rfl rfl (r_ldb t136 hM 0 hb31 6 hK rfl rfl rfl rfl rfl) fun a hK => ?_
        obtain ⟨x40, hx41, h⟩ := obind_some h
        refine s_call hK Tryz.call80 rfl rfl rfl rfl rfl (c_laws_eqPairS fu _ _ (Enc.rd_agr hf15 (hM.a00 (Enc.rd_lt hf15))) (Enc.rd_agr hf24 (hM.a00 (Enc.rd_lt hf24))) hx41) fun e42 w43 hR => ?_
        obtain ⟨rfl, hE⟩ := hR
        refine ⟨_, rfl, fun a hK => ?_⟩
        have hM := hM.step hE
        refine s1 hK rfl rfl rfl rfl fun a hK => ?_
        have hK := hK.keep [2, 3, 26] rfl
        refine wpList_nil (nm_then ?_)
        refine c_cond (b := !x40) hK rfl (fun hb44 => ?_) (fun hb44 => ?_)
        · have h := bif_t hb44 h
          refine wp_seq ?_
          refine wp_region_lit ?_
          refine s1 hK rfl rfl rfl rfl fun a hK => ?_
          refine wpList_nil (nm_then ?_)
          refine wp_ret (rt_then ?_)
          have h := Option.some.inj h
          subst h
          exact finR1 hK rfl (RV.tmp hK rfl) ⟨rfl, hM.ext⟩
        · have h := bif_f hb44 h
          refine wp_skip (nm_then ?_)
          refine wp_seq ?_
          refine wp_seq ?_
          refine wp_region_lit ?_
          refine s_val hK rfl rfl rfl (r_fa fa40_4 hK rfl rfl) fun a hK => ?_
          refine s_val hK rfl rfl rfl (r_ldb t137 hM 1 hb28 7 hK rfl rfl rfl rfl rfl) fun a hK => ?_
          refine s_val hK rfl rfl rfl (r_fa fa40_4 hK rfl rfl) fun a hK => ?_
          refine s_val hK rfl rfl rfl (r_ldb t137 hM 0 hb31 7 hK rfl rfl rfl rfl rfl) fun a hK => ?_
          obtain ⟨x45, hx46, h⟩ := obind_some h
          refine s_call hK Tryz.call81 rfl rfl rfl rfl rfl (c_laws_eqTypeS fu _ _ (Enc.rd_agr hf16 (hM.a00 (Enc.rd_lt hf16))) (Enc.rd_agr hf25 (hM.a00 (Enc.rd_lt hf25))) hx46) fun e47 w48 hR => ?_
          obtain ⟨rfl, hE⟩ := hR
          refine ⟨_, rfl, fun a hK => ?_⟩
          have hM := hM.step hE
          refine s1 hK rfl rfl rfl rfl fun a hK => ?_
          refine wpList_nil (nm_then ?_)
          refine c_cond (b := !x45) hK rfl (fun hb49 => ?_) (fun hb49 => ?_)
          · have h := bif_t hb49 h
            refine wp_seq ?_
            refine wp_region_lit ?_
            refine s1 hK rfl rfl rfl rfl fun a hK => ?_
            refine wpList_nil (nm_then ?_)
            refine wp_ret (rt_then ?_)
            have h := Option.some.inj h
            subst h
            exact finR1 hK rfl (RV.tmp hK rfl) ⟨rfl, hM.ext⟩
          · have h := bif_f hb49 h
            refine wp_skip (nm_then ?_)
            refine wp_seq ?_
            refine wp_seq ?_
            refine wp_region_lit ?_
            refine s_val hK rfl rfl rfl (r_fa fa40_5 hK rfl rfl) fun a hK => ?_
            refine s_val hK rfl rfl rfl (r_ldb t13 hM 1 hb28 8 hK rfl rfl rfl rfl rfl) fun a hK => ?_
            refine s_val hK rfl rfl rfl (r_fa fa40_5 hK rfl rfl) fun a hK => ?_
            refine s_val hK rfl rfl rfl (r_ldb t13 hM 0 hb31 8 hK rfl rfl rfl rfl rfl) fun a hK => ?_
            refine s1 hK rfl rfl rfl rfl fun a hK => ?_
            refine wpList_nil (nm_then ?_)
            refine c_cond (b := a1.fMaster != b5.fMaster) hK rfl (fun hb50 => ?_) (fun hb50 => ?_)
            · have h := bif_t hb50 h
              refine wp_seq ?_
              refine wp_region_lit ?_
              refine s1 hK rfl rfl rfl rfl fun a hK => ?_
              refine wpList_nil (nm_then ?_)
              refine wp_ret (rt_then ?_)
              have h := Option.some.inj h
              subst h
              exact finR1 hK rfl (RV.tmp hK rfl) ⟨rfl, hM.ext⟩
            · have h := bif_f hb50 h
              refine wp_skip (nm_then ?_)
              refine wp_seq ?_
              refine wp_seq ?_
              refine wp_region_lit ?_
              refine s_val hK rfl rfl rfl (r_fa fa40_6 hK rfl rfl) fun a hK => ?_
              refine s_val hK rfl rfl rfl (r_ldb t138 hM 1 hb28 9 hK rfl rfl rfl rfl rfl) fun a hK => ?_
              refine s_val hK rfl rfl rfl (r_fa fa40_6 hK rfl rfl) fun a hK => ?_
              refine s_val hK rfl rfl rfl (r_ldb t138 hM 0 hb31 9 hK rfl rfl rfl rfl rfl) fun a hK => ?_
              obtain ⟨x51, hx52, h⟩ := obind_some h
              refine s_call hK Tryz.call82 rfl rfl rfl rfl rfl (c_laws_eqItemS fu _ _ (Enc.rd_agr hf17 (hM.a00 (Enc.rd_lt hf17))) (Enc.rd_agr hf26 (hM.a00 (Enc.rd_lt hf26))) hx52) fun e53 w54 hR => ?_
              obtain ⟨rfl, hE⟩ := hR
              refine ⟨_, rfl, fun a hK => ?_⟩
              have hM := hM.step hE
              refine s1 hK rfl rfl rfl rfl fun a hK => ?_
              refine wpList_nil (nm_then ?_)
              refine c_cond (b := !x51) hK rfl (fun hb55 => ?_) (fun hb55 => ?_)
              · have h := bif_t hb55 h
                refine wp_seq ?_
                refine wp_region_lit ?_
                refine s1 hK rfl rfl rfl rfl fun a hK => ?_
                refine wpList_nil (nm_then ?_)
                refine wp_ret (rt_then ?_)
                have h := Option.some.inj h
                subst h
                exact finR1 hK rfl (RV.tmp hK rfl) ⟨rfl, hM.ext⟩
              · have h := bif_f hb55 h
                refine wp_skip (nm_then ?_)
                refine wp_seq ?_
                refine wp_region_lit ?_
                refine s1 hK rfl rfl rfl rfl fun a hK => ?_
                refine wpList_nil (nm_then ?_)
                refine wp_ret ?_
                have h := Option.some.inj h
                subst h
                exact finR1 hK rfl (RV.tmp hK rfl) ⟨rfl, hM.ext⟩

end Go.Proofs.YthjbcfefkdbgoaaGreat
