/- FnExactFills: the walks of functions that the law reaches, part 2. Printed by gen.py. -/
import Derived.Test.YthjbcfefkdbgoaaGreatExactFillsW1
set_option maxRecDepth 20000
set_option linter.unusedSimpArgs false
set_option linter.unusedVariables false
namespace Go.Proofs.YthjbcfefkdbgoaaGreat
open Go Go.RowKit
open Enc (rd ow)
open Arg (argv)
open Ret (retv)



def d_spec_MasterOf_L1_B (fu : Nat)  (r1 : Request) (k1 : Int → Option (Typ × Bool)) (i42 : Int) : Option (Typ × Bool) :=
  bif (decide (i42 < ((r1.fTypes.length : Int)))) then obind (ix r1.fTypes i42) fun x46 => bif (x46.fId == r1.fMaster) then obind (ix r1.fTypes i42) fun x49 => some (x46, true) else k1 (w64 (i42 + 1)) else some ((⟨0, 0, 0, 0, 0, 0, 0⟩ : Typ), false)
def d_spec_MasterOf_L1 (fu : Nat)  (r1 : Request) : Nat → Int → Option (Typ × Bool)
  | 0 => fun _ => none
  | n + 1 => d_spec_MasterOf_L1_B fu r1 (d_spec_MasterOf_L1 fu r1 n)
theorem d_spec_MasterOf_L1_s (fu : Nat)  (r1 : Request) (n : Nat) : d_spec_MasterOf_L1 fu r1 (n + 1) = d_spec_MasterOf_L1_B fu r1 (d_spec_MasterOf_L1 fu r1 n) := rfl

def d_spec_MasterOf (fu : Nat) (r1 : Request) : Option (Typ × Bool) :=
  d_spec_MasterOf_L1 fu r1 fu 0

def d_spec_l5Names_L1_B (fu : Nat) (k3 : Int → Option (Bool)) (r1 : Request) (i77 : Int) (k4 : Int → Option (Bool)) (kv98 : Int) : Option (Bool) :=
  bif (decide (kv98 < i77)) then obind (ix r1.fTypes i77) fun x102 => obind (ix r1.fTypes kv98) fun x104 => bif (x102.fId == x104.fId) then some (false) else k4 (w64 (kv98 + 1)) else k3 (w64 (i77 + 1))
def d_spec_l5Names_L1 (fu : Nat) (k3 : Int → Option (Bool)) (r1 : Request) (i77 : Int) : Nat → Int → Option (Bool)
  | 0 => fun _ => none
  | n + 1 => d_spec_l5Names_L1_B fu k3 r1 i77 (d_spec_l5Names_L1 fu k3 r1 i77 n)
theorem d_spec_l5Names_L1_s (fu : Nat) (k3 : Int → Option (Bool)) (r1 : Request) (i77 : Int) (n : Nat) : d_spec_l5Names_L1 fu k3 r1 i77 (n + 1) = d_spec_l5Names_L1_B fu k3 r1 i77 (d_spec_l5Names_L1 fu k3 r1 i77 n) := rfl

def d_spec_l5Names_L2_B (fu : Nat) (k7 : Int → Option (Bool)) (r1 : Request) (i175 : Int) (k8 : Int → Option (Bool)) (kv200 : Int) : Option (Bool) :=
  bif (decide (kv200 < i175)) then obind (ix r1.fItems i175) fun x204 => obind (ix r1.fItems kv200) fun x206 => bif (x204.fId == x206.fId) then some (false) else k8 (w64 (kv200 + 1)) else k7 (w64 (i175 + 1))
def d_spec_l5Names_L2 (fu : Nat) (k7 : Int → Option (Bool)) (r1 : Request) (i175 : Int) : Nat → Int → Option (Bool)
  | 0 => fun _ => none
  | n + 1 => d_spec_l5Names_L2_B fu k7 r1 i175 (d_spec_l5Names_L2 fu k7 r1 i175 n)
theorem d_spec_l5Names_L2_s (fu : Nat) (k7 : Int → Option (Bool)) (r1 : Request) (i175 : Int) (n : Nat) : d_spec_l5Names_L2 fu k7 r1 i175 (n + 1) = d_spec_l5Names_L2_B fu k7 r1 i175 (d_spec_l5Names_L2 fu k7 r1 i175 n) := rfl

def d_spec_l5Names_J1 (fu : Nat) (k11 : Int → Option (Bool)) (i245 : Int)  : Option (Bool) :=
  k11 (w64 (i245 + 1))

def d_spec_l5Names_L3_B (fu : Nat)  (r1 : Request) (k11 : Int → Option (Bool)) (i245 : Int) : Option (Bool) :=
  bif (decide (i245 < ((r1.fPairs.length : Int)))) then obind (ix r1.fPairs i245) fun x257 => bif (decide (x257.fA ≥ r1.fClasses)) then some (false) else obind (ix r1.fPairs i245) fun x260 => bif (decide (x257.fB ≥ r1.fClasses)) then some (false) else d_spec_l5Names_J1 fu k11 i245 else obind (d_spec_MasterOf fu r1) fun x263 => some (x263.2)
def d_spec_l5Names_L3 (fu : Nat)  (r1 : Request) : Nat → Int → Option (Bool)
  | 0 => fun _ => none
  | n + 1 => d_spec_l5Names_L3_B fu r1 (d_spec_l5Names_L3 fu r1 n)
theorem d_spec_l5Names_L3_s (fu : Nat)  (r1 : Request) (n : Nat) : d_spec_l5Names_L3 fu r1 (n + 1) = d_spec_l5Names_L3_B fu r1 (d_spec_l5Names_L3 fu r1 n) := rfl

def d_spec_l5Names_L4_B (fu : Nat)  (r1 : Request) (k7 : Int → Option (Bool)) (i175 : Int) : Option (Bool) :=
  bif (decide (i175 < ((r1.fItems.length : Int)))) then obind (ix r1.fItems i175) fun x179 => bif (decide (x179.fClass ≥ r1.fClasses)) then some (false) else d_spec_l5Names_L2 fu k7 r1 i175 fu 0 else d_spec_l5Names_L3 fu r1 fu 0
def d_spec_l5Names_L4 (fu : Nat)  (r1 : Request) : Nat → Int → Option (Bool)
  | 0 => fun _ => none
  | n + 1 => d_spec_l5Names_L4_B fu r1 (d_spec_l5Names_L4 fu r1 n)
theorem d_spec_l5Names_L4_s (fu : Nat)  (r1 : Request) (n : Nat) : d_spec_l5Names_L4 fu r1 (n + 1) = d_spec_l5Names_L4_B fu r1 (d_spec_l5Names_L4 fu r1 n) := rfl

def d_spec_l5Names_L5_B (fu : Nat)  (r1 : Request) (k3 : Int → Option (Bool)) (i77 : Int) : Option (Bool) :=
  bif (decide (i77 < ((r1.fTypes.length : Int)))) then d_spec_l5Names_L1 fu k3 r1 i77 fu 0 else d_spec_l5Names_L4 fu r1 fu 0
def d_spec_l5Names_L5 (fu : Nat)  (r1 : Request) : Nat → Int → Option (Bool)
  | 0 => fun _ => none
  | n + 1 => d_spec_l5Names_L5_B fu r1 (d_spec_l5Names_L5 fu r1 n)
theorem d_spec_l5Names_L5_s (fu : Nat)  (r1 : Request) (n : Nat) : d_spec_l5Names_L5 fu r1 (n + 1) = d_spec_l5Names_L5_B fu r1 (d_spec_l5Names_L5 fu r1 n) := rfl

def d_spec_l5Names (fu : Nat) (r1 : Request) : Option (Bool) :=
  d_spec_l5Names_L5 fu r1 fu 0

def d_spec_Beside_J1 (fu : Nat) (k3 : Int → Option (Bool)) (i39 : Int)  : Option (Bool) :=
  k3 (w64 (i39 + 1))

def d_spec_Beside_L1_B (fu : Nat)  (pairs1 : List Pair) (a5 : Int) (b6 : Int) (k3 : Int → Option (Bool)) (i39 : Int) : Option (Bool) :=
  bif (decide (i39 < ((pairs1.length : Int)))) then obind (ix pairs1 i39) fun x49 => bif (x49.fA == a5) then obind (ix pairs1 i39) fun x52 => bif (x49.fB == b6) then some (true) else d_spec_Beside_J1 fu k3 i39 else d_spec_Beside_J1 fu k3 i39 else some (false)
def d_spec_Beside_L1 (fu : Nat)  (pairs1 : List Pair) (a5 : Int) (b6 : Int) : Nat → Int → Option (Bool)
  | 0 => fun _ => none
  | n + 1 => d_spec_Beside_L1_B fu pairs1 a5 b6 (d_spec_Beside_L1 fu pairs1 a5 b6 n)
theorem d_spec_Beside_L1_s (fu : Nat)  (pairs1 : List Pair) (a5 : Int) (b6 : Int) (n : Nat) : d_spec_Beside_L1 fu pairs1 a5 b6 (n + 1) = d_spec_Beside_L1_B fu pairs1 a5 b6 (d_spec_Beside_L1 fu pairs1 a5 b6 n) := rfl

def d_spec_Beside (fu : Nat) (pairs1 : List Pair) (a5 : Int) (b6 : Int) : Option (Bool) :=
  d_spec_Beside_L1 fu pairs1 a5 b6 fu 0

def d_spec_TableOk_J1 (fu : Nat) (k12 : Int → Option (Bool)) (b436 : Int)  : Option (Bool) :=
  k12 (w64 (b436 + 1))

def d_spec_TableOk_L1_B (fu : Nat) (k9 : Int → Option (Bool)) (pairs1 : List Pair) (classes5 : Int) (a329 : Int) (k12 : Int → Option (Bool)) (b436 : Int) : Option (Bool) :=
  bif (decide (b436 < classes5)) then bif (a329 == b436) then obind (d_spec_Beside fu pairs1 a329 a329) fun x465 => bif (!x465) then some (false) else obind (d_spec_Beside fu pairs1 a329 b436) fun x470 => obind (d_spec_Beside fu pairs1 b436 a329) fun x474 => bif (!(x470 == x474)) then some (false) else d_spec_TableOk_J1 fu k12 b436 else obind (d_spec_Beside fu pairs1 a329 b436) fun x479 => obind (d_spec_Beside fu pairs1 b436 a329) fun x483 => bif (!(x479 == x483)) then some (false) else d_spec_TableOk_J1 fu k12 b436 else k9 (w64 (a329 + 1))
def d_spec_TableOk_L1 (fu : Nat) (k9 : Int → Option (Bool)) (pairs1 : List Pair) (classes5 : Int) (a329 : Int) : Nat → Int → Option (Bool)
  | 0 => fun _ => none
  | n + 1 => d_spec_TableOk_L1_B fu k9 pairs1 classes5 a329 (d_spec_TableOk_L1 fu k9 pairs1 classes5 a329 n)
theorem d_spec_TableOk_L1_s (fu : Nat) (k9 : Int → Option (Bool)) (pairs1 : List Pair) (classes5 : Int) (a329 : Int) (n : Nat) : d_spec_TableOk_L1 fu k9 pairs1 classes5 a329 (n + 1) = d_spec_TableOk_L1_B fu k9 pairs1 classes5 a329 (d_spec_TableOk_L1 fu k9 pairs1 classes5 a329 n) := rfl

def d_spec_TableOk_L2_B (fu : Nat)  (pairs1 : List Pair) (classes5 : Int) (k9 : Int → Option (Bool)) (a329 : Int) : Option (Bool) :=
  bif (decide (a329 < classes5)) then d_spec_TableOk_L1 fu k9 pairs1 classes5 a329 fu 0 else some (true)
def d_spec_TableOk_L2 (fu : Nat)  (pairs1 : List Pair) (classes5 : Int) : Nat → Int → Option (Bool)
  | 0 => fun _ => none
  | n + 1 => d_spec_TableOk_L2_B fu pairs1 classes5 (d_spec_TableOk_L2 fu pairs1 classes5 n)
theorem d_spec_TableOk_L2_s (fu : Nat)  (pairs1 : List Pair) (classes5 : Int) (n : Nat) : d_spec_TableOk_L2 fu pairs1 classes5 (n + 1) = d_spec_TableOk_L2_B fu pairs1 classes5 (d_spec_TableOk_L2 fu pairs1 classes5 n) := rfl

def d_spec_TableOk (fu : Nat) (pairs1 : List Pair) (classes5 : Int) : Option (Bool) :=
  obind (d_spec_l1In fu classes5 1 4) fun x6 => bif (!x6) then some (false) else d_spec_TableOk_L2 fu pairs1 classes5 fu 0

def d_spec_l1Places_L1_B (fu : Nat)  (n1 : Int) (k1 : List Int → Int → Option ((List Int))) (out40 : List Int) (i45 : Int) : Option ((List Int)) :=
  bif (decide (i45 < n1)) then obind (apnd 8 out40 (([i45] : List Int))) fun x53 => k1 x53 (w64 (i45 + 1)) else some (out40)
def d_spec_l1Places_L1 (fu : Nat)  (n1 : Int) : Nat → List Int → Int → Option ((List Int))
  | 0 => fun _ _ => none
  | n + 1 => d_spec_l1Places_L1_B fu n1 (d_spec_l1Places_L1 fu n1 n)
theorem d_spec_l1Places_L1_s (fu : Nat)  (n1 : Int) (n : Nat) : d_spec_l1Places_L1 fu n1 (n + 1) = d_spec_l1Places_L1_B fu n1 (d_spec_l1Places_L1 fu n1 n) := rfl

def d_spec_l1Places (fu : Nat) (n1 : Int) : Option ((List Int)) :=
  d_spec_l1Places_L1 fu n1 fu (([] : List Int)) 0

def d_spec_l1Merge_J1 (fu : Nat) (k3 : List Int → Int → Int → Option ((List Int))) (keys1 : List Int) (down9 : Bool) (x27 : (List Int)) (x41 : (List Int)) (out375 : List Int) (i380 : Int) (j381 : Int)  : Option ((List Int)) :=
  bif (j381 == ((x41.length : Int))) then obind (ix x27 i380) fun x387 => obind (apnd 8 out375 (([x387] : List Int))) fun x394 => k3 x394 (w64 (i380 + 1)) j381 else bif (i380 == ((x27.length : Int))) then obind (ix x41 j381) fun x401 => obind (apnd 8 out375 (([x401] : List Int))) fun x408 => k3 x408 i380 (w64 (j381 + 1)) else obind (ix x41 j381) fun x415 => obind (ix keys1 x415) fun x417 => obind (ix x27 i380) fun x419 => obind (ix keys1 x419) fun x421 => bif (decide (x417 < x421)) then bif (!down9) then obind (ix x41 j381) fun x425 => obind (apnd 8 out375 (([x415] : List Int))) fun x432 => k3 x432 i380 (w64 (j381 + 1)) else obind (ix x41 j381) fun x438 => obind (ix keys1 x415) fun x440 => obind (ix x27 i380) fun x442 => obind (ix keys1 x419) fun x444 => bif (decide (x417 > x421)) then bif down9 then obind (ix x41 j381) fun x448 => obind (apnd 8 out375 (([x415] : List Int))) fun x455 => k3 x455 i380 (w64 (j381 + 1)) else obind (ix x27 i380) fun x461 => obind (apnd 8 out375 (([x419] : List Int))) fun x468 => k3 x468 (w64 (i380 + 1)) j381 else obind (ix x27 i380) fun x474 => obind (apnd 8 out375 (([x419] : List Int))) fun x481 => k3 x481 (w64 (i380 + 1)) j381 else obind (ix x41 j381) fun x487 => obind (ix keys1 x415) fun x489 => obind (ix x27 i380) fun x491 => obind (ix keys1 x419) fun x493 => bif (decide (x417 > x421)) then bif down9 then obind (ix x41 j381) fun x497 => obind (apnd 8 out375 (([x415] : List Int))) fun x504 => k3 x504 i380 (w64 (j381 + 1)) else obind (ix x27 i380) fun x510 => obind (apnd 8 out375 (([x419] : List Int))) fun x517 => k3 x517 (w64 (i380 + 1)) j381 else obind (ix x27 i380) fun x523 => obind (apnd 8 out375 (([x419] : List Int))) fun x530 => k3 x530 (w64 (i380 + 1)) j381

def d_spec_l1Merge_L1_B (fu : Nat)  (keys1 : List Int) (down9 : Bool) (x27 : (List Int)) (x41 : (List Int)) (k3 : List Int → Int → Int → Option ((List Int))) (out375 : List Int) (i380 : Int) (j381 : Int) : Option ((List Int)) :=
  bif (decide (i380 < ((x27.length : Int)))) then d_spec_l1Merge_J1 fu k3 keys1 down9 x27 x41 out375 i380 j381 else bif (decide (j381 < ((x41.length : Int)))) then d_spec_l1Merge_J1 fu k3 keys1 down9 x27 x41 out375 i380 j381 else some (out375)
def d_spec_l1Merge_L1 (fu : Nat)  (keys1 : List Int) (down9 : Bool) (x27 : (List Int)) (x41 : (List Int)) : Nat → List Int → Int → Int → Option ((List Int))
  | 0 => fun _ _ _ => none
  | n + 1 => d_spec_l1Merge_L1_B fu keys1 down9 x27 x41 (d_spec_l1Merge_L1 fu keys1 down9 x27 x41 n)
theorem d_spec_l1Merge_L1_s (fu : Nat)  (keys1 : List Int) (down9 : Bool) (x27 : (List Int)) (x41 : (List Int)) (n : Nat) : d_spec_l1Merge_L1 fu keys1 down9 x27 x41 (n + 1) = d_spec_l1Merge_L1_B fu keys1 down9 x27 x41 (d_spec_l1Merge_L1 fu keys1 down9 x27 x41 n) := rfl

def d_spec_l1Merge_RB (fu : Nat) (self : List Int → List Int → Bool → Option ((List Int))) (keys1 : List Int) (places5 : List Int) (down9 : Bool) : Option ((List Int)) :=
  bif (decide (((places5.length : Int)) < 2)) then obind (apnd 8 (([] : List Int)) places5) fun x16 => some (x16) else obind (sls places5 0 (w64 (Int.tdiv ((places5.length : Int)) 2))) fun x22 => obind (self keys1 x22 down9) fun x27 => obind (sls places5 (w64 (Int.tdiv ((places5.length : Int)) 2)) (places5.length : Int)) fun x36 => obind (self keys1 x36 down9) fun x41 => d_spec_l1Merge_L1 fu keys1 down9 x27 x41 fu (([] : List Int)) 0 0
def d_spec_l1Merge_R (fu : Nat) : Nat → List Int → List Int → Bool → Option ((List Int))
  | 0 => fun _ _ _ => none
  | n + 1 => d_spec_l1Merge_RB fu (d_spec_l1Merge_R fu n)
theorem d_spec_l1Merge_Rs (fu : Nat) (n : Nat) : d_spec_l1Merge_R fu (n + 1) = d_spec_l1Merge_RB fu (d_spec_l1Merge_R fu n) := rfl
def d_spec_l1Merge (fu : Nat) (keys1 : List Int) (places5 : List Int) (down9 : Bool) : Option ((List Int)) := d_spec_l1Merge_R fu fu keys1 places5 down9

def d_spec_SortUp (fu : Nat) (keys1 : List Int) : Option ((List Int)) :=
  obind (d_spec_l1Places fu ((keys1.length : Int))) fun x5 => obind (d_spec_l1Merge fu keys1 x5 false) fun x14 => some (x14)

def d_spec_l5Sides (fu : Nat) (wv1 : Int) (h2 : Int) (d3 : Int) : Option ((List Int)) :=
  obind (d_spec_SortUp fu (([wv1, h2, d3] : List Int))) fun x9 => obind (ix x9 0) fun x19 => obind (ix (([wv1, h2, d3] : List Int)) x19) fun x21 => obind (ix x9 1) fun x23 => obind (ix (([wv1, h2, d3] : List Int)) x23) fun x25 => obind (ix x9 2) fun x27 => obind (ix (([wv1, h2, d3] : List Int)) x27) fun x29 => some (([x21, x25, x29] : List Int))

def d_spec_Fits (fu : Nat) (x1 : Item) (t2 : Typ) : Option (Bool) :=
  obind (d_spec_l5Sides fu x1.fW x1.fH x1.fD) fun x9 => obind (d_spec_l5Sides fu t2.fW t2.fH t2.fD) fun x18 => obind (ix x9 0) fun x28 => obind (ix x18 0) fun x30 => bif (decide (x28 ≤ x30)) then obind (ix x9 1) fun x33 => obind (ix x18 1) fun x35 => bif (decide (x33 ≤ x35)) then obind (ix x9 2) fun x38 => obind (ix x18 2) fun x40 => bif (decide (x38 ≤ x40)) then some (decide (x1.fGram ≤ t2.fGram)) else some (false) else some (false) else some (false)

theorem c_spec_MasterOf (fu : Nat) {w0 : World} (r1 : Request) {cs2 : List Value} {F3 : List Nat} (hp4 : rd w0 F3 cs2 r1) {r : Typ × Bool}
    (h : d_spec_MasterOf fu r1 = some r) :
    Calls Tryz.prog 88 #[.agg cs2.toArray] w0 fun e w => e = .returned (.tuple #[.agg (Flat.e r.1).toArray, .bool (r.2)]) ∧ Ext [] w0 w := by
  refine enter (vs := [_]) Tryz.func88 rfl Tryz.ntmps88 rfl fun a hK => ?_
  have hM := St.start w0
  obtain ⟨v5, F6, v7, F8, v9, F10, rfl, rfl, hf11, hf12, hf13⟩ := hp4
  unfold d_spec_MasterOf at h
  refine wp_seq ?_
  refine wp_region_lit ?_
  refine s_box (cs := [.int .i64 (r1.fWay), .int .i64 (r1.fPallet.fW), .int .i64 (r1.fPallet.fD), .int .i64 (r1.fPallet.fH), .int .i64 (r1.fPallet.fGram), .int .i64 (r1.fClasses), v5, v7, .int .i64 (r1.fMaster), v9]) hM hK rfl rfl rfl rfl rfl rfl fun b14 w16 a hK hM hE hb15 => ?_
  refine s_alloc (cs := [.int .i64 (0), .int .i64 (0), .int .i64 (0), .int .i64 (0), .int .i64 (0), .int .i64 (0), .int .i64 (0)]) hM hK Tryz.zeroValue92 rfl rfl rfl rfl rfl fun b17 w19 a hK hM hE hb18 => ?_
  refine s1 hK rfl rfl rfl rfl fun a hK => ?_
  refine wpList_nil (nm_then ?_)
  refine wp_seq ?_
  refine wp_seq ?_
  refine wp_region_lit ?_
  refine s1 hK rfl rfl rfl rfl fun a hK => ?_
  refine wpList_nil (nm_then ?_)
  refine wp_block ?_
  refine c_loop (fun n a w => ∃ (i42 : Int), K 27 [(1, .pointer (some (⟨b14, 0, none⟩ : Addr))), (2, .pointer (some (⟨b17, 0, none⟩ : Addr))), (4, .int .i64 (i42))] a ∧ St [] w0 w [([b14], w16), ([b17], w19)] ∧ d_spec_MasterOf_L1 fu r1 n i42 = some r) ?_ ?_ fu _ _ ?_
  · rintro a w ⟨_, _, _, h⟩
    cases (show none = some _ from h)
  · rintro m43 a w41 ⟨i42, hK, hM, h⟩
    rw [d_spec_MasterOf_L1_s] at h
    unfold d_spec_MasterOf_L1_B at h
    refine wp_seq ?_
    refine wp_seq ?_
    refine wp_region_lit ?_
    refine s1 hK rfl rfl rfl rfl fun a hK => ?_
    refine s_val hK rfl rfl rfl (r_fa fa40_4 hK rfl rfl) fun a hK => ?_
    refine s_val hK rfl rfl rfl (r_ldb t137 hM 0 hb15 7 hK rfl rfl rfl rfl rfl) fun a hK => ?_
    refine s_val hK rfl rfl rfl (r_len (α := Typ) hf12 hK Tryz.underlying37 rfl rfl) fun a hK => ?_
    refine s1 hK rfl rfl rfl rfl fun a hK => ?_
    refine wpList_nil (nm_then ?_)
    refine c_cond (b := decide (i42 < ((r1.fTypes.length : Int)))) hK rfl (fun hb44 => ?_) (fun hb44 => ?_)
    · have h := bif_t hb44 h
      refine wp_skip (nm_then ?_)
      refine wp_seq ?_
      refine wp_block ?_
      refine wp_seq ?_
      refine d_go [] mixo hM rfl fun w45 hMd => ?_
      have hM := hMd
      have hS := Ext.refl ([] : List Nat) w45
      refine d_take hK 0 rfl (by kernel_rfl) (by kernel_rfl) (by kernel_rfl) rfl rfl rfl hS (fun _ _ _ h => h) (fun w hS => r_fa fa40_4 hK rfl rfl) fun a hK => ?_
      refine d_take hK 1 rfl (by kernel_rfl) (by kernel_rfl) (by kernel_rfl) rfl rfl rfl hS (fun _ _ _ h => h) (fun w hS => r_ld1 t137 (r := []) (hb15.at ((hMd.step hS).a 0 rfl) 7 1 rfl rfl rfl) hK rfl rfl) fun a hK => ?_
      refine d_pure hK 2 rfl (by kernel_rfl) (by kernel_rfl) (by kernel_rfl) rfl rfl rfl hS (fun _ _ _ h => h) rfl fun a hK => ?_
      obtain ⟨x46, hx47, h⟩ := obind_some h
      refine d_take hK 3 rfl (by kernel_rfl) (by kernel_rfl) (by kernel_rfl) rfl rfl rfl hS (fun _ _ _ h => h) (fun w hS => r_ixa hf12 hx47 hK ts37 rfl rfl rfl) fun a hK => ?_
      refine d_take hK 4 rfl (by kernel_rfl) (by kernel_rfl) (by kernel_rfl) rfl rfl rfl hS (fun _ _ _ h => h) (fun w hS => r_fa fa92_0 hK rfl rfl) fun a hK => ?_
      refine d_take hK 5 rfl (by kernel_rfl) (by kernel_rfl) (by kernel_rfl) rfl rfl rfl hS (fun _ _ _ h => h) (fun w hS => r_lde1 hf12 ((hMd.step hS).a00 (Enc.rd_lt hf12)) hx47 0 t13 hK rfl rfl rfl rfl) fun a hK => ?_
      refine d_take hK 6 rfl (by kernel_rfl) (by kernel_rfl) (by kernel_rfl) rfl rfl rfl hS (fun _ _ _ h => h) (fun w hS => r_fa fa40_5 hK rfl rfl) fun a hK => ?_
      refine d_take hK 7 rfl (by kernel_rfl) (by kernel_rfl) (by kernel_rfl) rfl rfl rfl hS (fun _ _ _ h => h) (fun w hS => r_ld1 t13 (r := []) (hb15.at ((hMd.step hS).a 0 rfl) 8 1 rfl rfl rfl) hK rfl rfl) fun a hK => ?_
      refine d_pure hK 8 rfl (by kernel_rfl) (by kernel_rfl) (by kernel_rfl) rfl rfl rfl hS (fun _ _ _ h => h) rfl fun a hK => ?_
      refine d_done (by kernel_rfl) ?_
      refine (nm_then ?_)
      refine c_cond (b := x46.fId == r1.fMaster) hK rfl (fun hb48 => ?_) (fun hb48 => ?_)
      · have h := bif_t hb48 h
        refine wp_seq ?_
        refine wp_region_lit ?_
        refine s_val hK rfl rfl rfl (r_fa fa40_4 hK rfl rfl) fun a hK => ?_
        refine s_val hK rfl rfl rfl (r_ldb t137 hM 0 hb15 7 hK rfl rfl rfl rfl rfl) fun a hK => ?_
        refine s1 hK rfl rfl rfl rfl fun a hK => ?_
        obtain ⟨x49, hx50, h⟩ := obind_some h
        refine s_val hK rfl rfl rfl (r_ixa hf12 hx47 hK ts37 rfl rfl rfl) fun a hK => ?_
        refine s_val hK rfl rfl rfl (r_lde hf12 (hM.a00 (Enc.rd_lt hf12)) hx47 ta92 hK rfl rfl) fun a hK => ?_
        refine s_stb (cs' := [.int .i64 (x46.fId), .int .i64 (x46.fW), .int .i64 (x46.fH), .int .i64 (x46.fD), .int .i64 (x46.fTare), .int .i64 (x46.fGram), .int .i64 (x46.fCost)]) Tryz.sizeOf92 hM 1 hb18 0 hK rfl rfl rfl rfl rfl rfl rfl rfl rfl rfl rfl fun w51 a hK hE hM hb52 => ?_
        refine s1 hK rfl rfl rfl rfl fun a hK => ?_
        refine wpList_nil (nm_then ?_)
        refine wp_ret (rt_block (rt_then (rt_then (rt_block (rt_then ?_)))))
        have h := Option.some.inj h
        subst h
        exact finR2 hK rfl (RV.cA hK rfl ta92 (hb52.at (hM.a 1 rfl) 0 7 rfl rfl rfl) rfl) (RV.tmp hK rfl) ⟨rfl, hM.ext⟩
      · have h := bif_f hb48 h
        refine wp_skip (nm_block (nm_then ?_))
        refine wp_region_lit ?_
        iterate 3 (refine s1 hK rfl rfl rfl rfl fun a hK => ?_)
        refine wpList_nil (nm_then ?_)
        exact ⟨w64 (i42 + 1), hK.keep [1, 2, 4] rfl, hM.sel [0, 1] rfl (by decide), h⟩
    · have h := bif_f hb44 h
      refine wp_exit (ex_then (ex_then (ex_same (nm_then ?_))))
      refine wp_seq ?_
      refine wp_region_lit ?_
      refine s_val hK rfl rfl rfl (r_build bt92 hK (ps := []) rfl rfl rfl) fun a hK => ?_
      refine s_stb (cs' := [.int .i64 (0), .int .i64 (0), .int .i64 (0), .int .i64 (0), .int .i64 (0), .int .i64 (0), .int .i64 (0)]) Tryz.sizeOf92 hM 1 hb18 0 hK rfl rfl rfl rfl rfl rfl rfl rfl rfl rfl rfl fun w53 a hK hE hM hb54 => ?_
      refine s1 hK rfl rfl rfl rfl fun a hK => ?_
      refine wpList_nil (nm_then ?_)
      refine wp_ret ?_
      have h := Option.some.inj h
      subst h
      exact finR2 hK rfl (RV.cA hK rfl ta92 (hb54.at (hM.a 1 rfl) 0 7 rfl rfl rfl) rfl) (RV.tmp hK rfl) ⟨rfl, hM.ext⟩
  · exact ⟨0, hK.keep [1, 2, 4] rfl, hM.sel [1, 0] rfl (by decide), h⟩

theorem c_spec_l5Names (fu : Nat) {w0 : World} (r1 : Request) {cs2 : List Value} {F3 : List Nat} (hp4 : rd w0 F3 cs2 r1) {r : Bool}
    (h : d_spec_l5Names fu r1 = some r) :
    Calls Tryz.prog 133 #[.agg cs2.toArray] w0 fun e w => e = .returned (.bool (r)) ∧ Ext [] w0 w := by
  refine enter (vs := [_]) Tryz.func133 rfl Tryz.ntmps133 rfl fun a hK => ?_
  have hM := St.start w0
  obtain ⟨v5, F6, v7, F8, v9, F10, rfl, rfl, hf11, hf12, hf13⟩ := hp4
  unfold d_spec_l5Names at h
  refine wp_seq ?_
  refine wp_region_lit ?_
  refine s_box (cs := [.int .i64 (r1.fWay), .int .i64 (r1.fPallet.fW), .int .i64 (r1.fPallet.fD), .int .i64 (r1.fPallet.fH), .int .i64 (r1.fPallet.fGram), .int .i64 (r1.fClasses), v5, v7, .int .i64 (r1.fMaster), v9]) hM hK rfl rfl rfl rfl rfl rfl fun b14 w16 a hK hM hE hb15 => ?_
  refine s1 hK rfl rfl rfl rfl fun a hK => ?_
  refine wpList_nil (nm_then ?_)
  refine wp_seq ?_
  refine wp_seq ?_
  refine wp_region_lit ?_
  refine s1 hK rfl rfl rfl rfl fun a hK => ?_
  refine wpList_nil (nm_then ?_)
  refine wp_block ?_
  refine c_loop (fun n a w => ∃ (i77 : Int), K 102 [(1, .pointer (some (⟨b14, 0, none⟩ : Addr))), (3, .int .i64 (i77))] a ∧ St [] w0 w [([b14], w16)] ∧ d_spec_l5Names_L5 fu r1 n i77 = some r) ?_ ?_ fu _ _ ?_
  · rintro a w ⟨_, _, _, h⟩
    cases (show none = some _ from h)
  · rintro m78 a w76 ⟨i77, hK, hM, h⟩
    rw [d_spec_l5Names_L5_s] at h
    unfold d_spec_l5Names_L5_B at h
    refine wp_seq ?_
    refine wp_seq ?_
    refine wp_region_lit ?_
    refine s1 hK rfl rfl rfl rfl fun a hK => ?_
    refine s_val hK rfl rfl rfl (r_fa fa40_4 hK rfl rfl) fun a hK => ?_
    refine s_val hK rfl rfl rfl (r_ldb t137 hM 0 hb15 7 hK rfl rfl rfl rfl rfl) fun a hK => ?_
    refine s_val hK rfl rfl rfl (r_len (α := Typ) hf12 hK Tryz.underlying37 rfl rfl) fun a hK => ?_
    refine s1 hK rfl rfl rfl rfl fun a hK => ?_
    refine wpList_nil (nm_then ?_)
    refine c_cond (b := decide (i77 < ((r1.fTypes.length : Int)))) hK rfl (fun hb79 => ?_) (fun hb79 => ?_)
    · have h := bif_t hb79 h
      refine wp_skip (nm_then ?_)
      refine wp_seq ?_
      refine wp_block ?_
      refine wp_seq ?_
      refine wp_region_lit ?_
      refine s1 hK rfl rfl rfl rfl fun a hK => ?_
      refine wpList_nil (nm_then ?_)
      refine wp_block ?_
      refine c_loop (fun n a w => ∃ (kv98 : Int), K 102 [(1, .pointer (some (⟨b14, 0, none⟩ : Addr))), (3, .int .i64 (i77)), (4, .int .i64 (kv98))] a ∧ St [] w0 w [([b14], w16)] ∧ d_spec_l5Names_L1 fu (d_spec_l5Names_L5 fu r1 m78) r1 i77 n kv98 = some r) ?_ ?_ fu _ _ ?_
      · rintro a w ⟨_, _, _, h⟩
        cases (show none = some _ from h)
      · rintro m99 a w97 ⟨kv98, hK, hM, h⟩
        rw [d_spec_l5Names_L1_s] at h
        unfold d_spec_l5Names_L1_B at h
        refine wp_seq ?_
        refine wp_seq ?_
        refine wp_region_lit ?_
        iterate 3 (refine s1 hK rfl rfl rfl rfl fun a hK => ?_)
        refine wpList_nil (nm_then ?_)
        refine c_cond (b := decide (kv98 < i77)) hK rfl (fun hb100 => ?_) (fun hb100 => ?_)
        · have h := bif_t hb100 h
          refine wp_skip (nm_then ?_)
          refine wp_seq ?_
          refine wp_block ?_
          refine wp_seq ?_
          refine d_go [] mixo hM rfl fun w101 hMd => ?_
          have hM := hMd
          have hS := Ext.refl ([] : List Nat) w101
          refine d_take hK 0 rfl (by kernel_rfl) (by kernel_rfl) (by kernel_rfl) rfl rfl rfl hS (fun _ _ _ h => h) (fun w hS => r_fa fa40_4 hK rfl rfl) fun a hK => ?_
          refine d_take hK 1 rfl (by kernel_rfl) (by kernel_rfl) (by kernel_rfl) rfl rfl rfl hS (fun _ _ _ h => h) (fun w hS => r_ld1 t137 (r := []) (hb15.at ((hMd.step hS).a 0 rfl) 7 1 rfl rfl rfl) hK rfl rfl) fun a hK => ?_
          refine d_pure hK 2 rfl (by kernel_rfl) (by kernel_rfl) (by kernel_rfl) rfl rfl rfl hS (fun _ _ _ h => h) rfl fun a hK => ?_
          obtain ⟨x102, hx103, h⟩ := obind_some h
          refine d_take hK 3 rfl (by kernel_rfl) (by kernel_rfl) (by kernel_rfl) rfl rfl rfl hS (fun _ _ _ h => h) (fun w hS => r_ixa hf12 hx103 hK ts37 rfl rfl rfl) fun a hK => ?_
          refine d_take hK 4 rfl (by kernel_rfl) (by kernel_rfl) (by kernel_rfl) rfl rfl rfl hS (fun _ _ _ h => h) (fun w hS => r_fa fa92_0 hK rfl rfl) fun a hK => ?_
          refine d_take hK 5 rfl (by kernel_rfl) (by kernel_rfl) (by kernel_rfl) rfl rfl rfl hS (fun _ _ _ h => h) (fun w hS => r_lde1 hf12 ((hMd.step hS).a00 (Enc.rd_lt hf12)) hx103 0 t13 hK rfl rfl rfl rfl) fun a hK => ?_
          refine d_take hK 6 rfl (by kernel_rfl) (by kernel_rfl) (by kernel_rfl) rfl rfl rfl hS (fun _ _ _ h => h) (fun w hS => r_fa fa40_4 hK rfl rfl) fun a hK => ?_
          refine d_take hK 7 rfl (by kernel_rfl) (by kernel_rfl) (by kernel_rfl) rfl rfl rfl hS (fun _ _ _ h => h) (fun w hS => r_ld1 t137 (r := []) (hb15.at ((hMd.step hS).a 0 rfl) 7 1 rfl rfl rfl) hK rfl rfl) fun a hK => ?_
          refine d_pure hK 8 rfl (by kernel_rfl) (by kernel_rfl) (by kernel_rfl) rfl rfl rfl hS (fun _ _ _ h => h) rfl fun a hK => ?_
          obtain ⟨x104, hx105, h⟩ := obind_some h
          refine d_take hK 9 rfl (by kernel_rfl) (by kernel_rfl) (by kernel_rfl) rfl rfl rfl hS (fun _ _ _ h => h) (fun w hS => r_ixa hf12 hx105 hK ts37 rfl rfl rfl) fun a hK => ?_
          refine d_take hK 10 rfl (by kernel_rfl) (by kernel_rfl) (by kernel_rfl) rfl rfl rfl hS (fun _ _ _ h => h) (fun w hS => r_fa fa92_0 hK rfl rfl) fun a hK => ?_
          refine d_take hK 11 rfl (by kernel_rfl) (by kernel_rfl) (by kernel_rfl) rfl rfl rfl hS (fun _ _ _ h => h) (fun w hS => r_lde1 hf12 ((hMd.step hS).a00 (Enc.rd_lt hf12)) hx105 0 t13 hK rfl rfl rfl rfl) fun a hK => ?_
          refine d_pure hK 12 rfl (by kernel_rfl) (by kernel_rfl) (by kernel_rfl) rfl rfl rfl hS (fun _ _ _ h => h) rfl fun a hK => ?_
          refine d_done (by kernel_rfl) ?_
          refine (nm_then ?_)
          refine c_cond (b := x102.fId == x104.fId) hK rfl (fun hb106 => ?_) (fun hb106 => ?_)
          · have h := bif_t hb106 h
            refine wp_seq ?_
            refine wp_region_lit ?_
            refine s1 hK rfl rfl rfl rfl fun a hK => ?_
            refine wpList_nil (nm_then ?_)
            refine wp_ret (rt_block (rt_then (rt_then (rt_block (rt_block (rt_then (rt_then (rt_block (rt_then ?_)))))))))
            have h := Option.some.inj h
            subst h
            exact finR1 hK rfl (RV.tmp hK rfl) ⟨rfl, hM.ext⟩
          · have h := bif_f hb106 h
            refine wp_skip (nm_block (nm_then ?_))
            refine wp_region_lit ?_
            iterate 3 (refine s1 hK rfl rfl rfl rfl fun a hK => ?_)
            refine wpList_nil (nm_then ?_)
            exact ⟨w64 (kv98 + 1), hK.keep [1, 3, 4] rfl, hM.sel [0] rfl (by decide), h⟩
        · have h := bif_f hb100 h
          refine wp_exit (ex_then (ex_then (ex_same (nm_block (nm_then ?_)))))
          refine wp_region_lit ?_
          iterate 3 (refine s1 hK rfl rfl rfl rfl fun a hK => ?_)
          refine wpList_nil (nm_then ?_)
          exact ⟨w64 (i77 + 1), hK.keep [1, 3] rfl, hM.sel [0] rfl (by decide), h⟩
      · exact ⟨0, hK.keep [1, 3, 4] rfl, hM.sel [0] rfl (by decide), h⟩
    · have h := bif_f hb79 h
      refine wp_exit (ex_then (ex_then (ex_same (nm_then ?_))))
      refine wp_seq ?_
      refine wp_seq ?_
      refine wp_region_lit ?_
      refine s1 hK rfl rfl rfl rfl fun a hK => ?_
      refine wpList_nil (nm_then ?_)
      refine wp_block ?_
      refine c_loop (fun n a w => ∃ (i175 : Int), K 102 [(1, .pointer (some (⟨b14, 0, none⟩ : Addr))), (5, .int .i64 (i175))] a ∧ St [] w0 w [([b14], w16)] ∧ d_spec_l5Names_L4 fu r1 n i175 = some r) ?_ ?_ fu _ _ ?_
      · rintro a w ⟨_, _, _, h⟩
        cases (show none = some _ from h)
      · rintro m176 a w174 ⟨i175, hK, hM, h⟩
        rw [d_spec_l5Names_L4_s] at h
        unfold d_spec_l5Names_L4_B at h
        refine wp_seq ?_
        refine wp_seq ?_
        refine wp_region_lit ?_
        refine s1 hK rfl rfl rfl rfl fun a hK => ?_
        refine s_val hK rfl rfl rfl (r_fa fa40_6 hK rfl rfl) fun a hK => ?_
        refine s_val hK rfl rfl rfl (r_ldb t138 hM 0 hb15 9 hK rfl rfl rfl rfl rfl) fun a hK => ?_
        refine s_val hK rfl rfl rfl (r_len (α := Item) hf13 hK Tryz.underlying38 rfl rfl) fun a hK => ?_
        refine s1 hK rfl rfl rfl rfl fun a hK => ?_
        refine wpList_nil (nm_then ?_)
        refine c_cond (b := decide (i175 < ((r1.fItems.length : Int)))) hK rfl (fun hb177 => ?_) (fun hb177 => ?_)
        · have h := bif_t hb177 h
          refine wp_skip (nm_then ?_)
          refine wp_seq ?_
          refine wp_block ?_
          refine wp_seq ?_
          refine wp_seq ?_
          refine d_go [] mixo hM rfl fun w178 hMd => ?_
          have hM := hMd
          have hS := Ext.refl ([] : List Nat) w178
          refine d_take hK 0 rfl (by kernel_rfl) (by kernel_rfl) (by kernel_rfl) rfl rfl rfl hS (fun _ _ _ h => h) (fun w hS => r_fa fa40_6 hK rfl rfl) fun a hK => ?_
          refine d_take hK 1 rfl (by kernel_rfl) (by kernel_rfl) (by kernel_rfl) rfl rfl rfl hS (fun _ _ _ h => h) (fun w hS => r_ld1 t138 (r := []) (hb15.at ((hMd.step hS).a 0 rfl) 9 1 rfl rfl rfl) hK rfl rfl) fun a hK => ?_
          refine d_pure hK 2 rfl (by kernel_rfl) (by kernel_rfl) (by kernel_rfl) rfl rfl rfl hS (fun _ _ _ h => h) rfl fun a hK => ?_
          obtain ⟨x179, hx180, h⟩ := obind_some h
          refine d_take hK 3 rfl (by kernel_rfl) (by kernel_rfl) (by kernel_rfl) rfl rfl rfl hS (fun _ _ _ h => h) (fun w hS => r_ixa hf13 hx180 hK ts38 rfl rfl rfl) fun a hK => ?_
          refine d_take hK 4 rfl (by kernel_rfl) (by kernel_rfl) (by kernel_rfl) rfl rfl rfl hS (fun _ _ _ h => h) (fun w hS => r_fa fa120_5 hK rfl rfl) fun a hK => ?_
          refine d_take hK 5 rfl (by kernel_rfl) (by kernel_rfl) (by kernel_rfl) rfl rfl rfl hS (fun _ _ _ h => h) (fun w hS => r_lde1 hf13 ((hMd.step hS).a00 (Enc.rd_lt hf13)) hx180 5 t13 hK rfl rfl rfl rfl) fun a hK => ?_
          refine d_take hK 6 rfl (by kernel_rfl) (by kernel_rfl) (by kernel_rfl) rfl rfl rfl hS (fun _ _ _ h => h) (fun w hS => r_fa fa40_2 hK rfl rfl) fun a hK => ?_
          refine d_take hK 7 rfl (by kernel_rfl) (by kernel_rfl) (by kernel_rfl) rfl rfl rfl hS (fun _ _ _ h => h) (fun w hS => r_ld1 t13 (r := []) (hb15.at ((hMd.step hS).a 0 rfl) 5 1 rfl rfl rfl) hK rfl rfl) fun a hK => ?_
          refine d_pure hK 8 rfl (by kernel_rfl) (by kernel_rfl) (by kernel_rfl) rfl rfl rfl hS (fun _ _ _ h => h) rfl fun a hK => ?_
          refine d_done (by kernel_rfl) ?_
          refine (nm_then ?_)
          refine c_cond (b := decide (x179.fClass ≥ r1.fClasses)) hK rfl (fun hb181 => ?_) (fun hb181 => ?_)
          · have h := bif_t hb181 h
            refine wp_seq ?_
            refine wp_region_lit ?_
            refine s1 hK rfl rfl rfl rfl fun a hK => ?_
            refine wpList_nil (nm_then ?_)
            refine wp_ret (rt_then (rt_block (rt_then (rt_then (rt_block (rt_then ?_))))))
            have h := Option.some.inj h
            subst h
            exact finR1 hK rfl (RV.tmp hK rfl) ⟨rfl, hM.ext⟩
          · have h := bif_f hb181 h
            refine wp_skip (nm_then ?_)
            refine wp_seq ?_
            refine wp_region_lit ?_
            refine s1 hK rfl rfl rfl rfl fun a hK => ?_
            refine wpList_nil (nm_then ?_)
            refine wp_block ?_
            refine c_loop (fun n a w => ∃ (kv200 : Int), K 102 [(1, .pointer (some (⟨b14, 0, none⟩ : Addr))), (5, .int .i64 (i175)), (6, .int .i64 (kv200))] a ∧ St [] w0 w [([b14], w16)] ∧ d_spec_l5Names_L2 fu (d_spec_l5Names_L4 fu r1 m176) r1 i175 n kv200 = some r) ?_ ?_ fu _ _ ?_
            · rintro a w ⟨_, _, _, h⟩
              cases (show none = some _ from h)
            · rintro m201 a w199 ⟨kv200, hK, hM, h⟩
              rw [d_spec_l5Names_L2_s] at h
              unfold d_spec_l5Names_L2_B at h
              refine wp_seq ?_
              refine wp_seq ?_
              refine wp_region_lit ?_
              iterate 3 (refine s1 hK rfl rfl rfl rfl fun a hK => ?_)
              refine wpList_nil (nm_then ?_)
              refine c_cond (b := decide (kv200 < i175)) hK rfl (fun hb202 => ?_) (fun hb202 => ?_)
              · have h := bif_t hb202 h
                refine wp_skip (nm_then ?_)
                refine wp_seq ?_
                refine wp_block ?_
                refine wp_seq ?_
                refine d_go [] mixo hM rfl fun w203 hMd => ?_
                have hM := hMd
                have hS := Ext.refl ([] : List Nat) w203
                refine d_take hK 0 rfl (by kernel_rfl) (by kernel_rfl) (by kernel_rfl) rfl rfl rfl hS (fun _ _ _ h => h) (fun w hS => r_fa fa40_6 hK rfl rfl) fun a hK => ?_
                refine d_take hK 1 rfl (by kernel_rfl) (by kernel_rfl) (by kernel_rfl) rfl rfl rfl hS (fun _ _ _ h => h) (fun w hS => r_ld1 t138 (r := []) (hb15.at ((hMd.step hS).a 0 rfl) 9 1 rfl rfl rfl) hK rfl rfl) fun a hK => ?_
                refine d_pure hK 2 rfl (by kernel_rfl) (by kernel_rfl) (by kernel_rfl) rfl rfl rfl hS (fun _ _ _ h => h) rfl fun a hK => ?_
                obtain ⟨x204, hx205, h⟩ := obind_some h
                refine d_take hK 3 rfl (by kernel_rfl) (by kernel_rfl) (by kernel_rfl) rfl rfl rfl hS (fun _ _ _ h => h) (fun w hS => r_ixa hf13 hx205 hK ts38 rfl rfl rfl) fun a hK => ?_
                refine d_take hK 4 rfl (by kernel_rfl) (by kernel_rfl) (by kernel_rfl) rfl rfl rfl hS (fun _ _ _ h => h) (fun w hS => r_fa fa120_0 hK rfl rfl) fun a hK => ?_
                refine d_take hK 5 rfl (by kernel_rfl) (by kernel_rfl) (by kernel_rfl) rfl rfl rfl hS (fun _ _ _ h => h) (fun w hS => r_lde1 hf13 ((hMd.step hS).a00 (Enc.rd_lt hf13)) hx205 0 t13 hK rfl rfl rfl rfl) fun a hK => ?_
                refine d_take hK 6 rfl (by kernel_rfl) (by kernel_rfl) (by kernel_rfl) rfl rfl rfl hS (fun _ _ _ h => h) (fun w hS => r_fa fa40_6 hK rfl rfl) fun a hK => ?_
                refine d_take hK 7 rfl (by kernel_rfl) (by kernel_rfl) (by kernel_rfl) rfl rfl rfl hS (fun _ _ _ h => h) (fun w hS => r_ld1 t138 (r := []) (hb15.at ((hMd.step hS).a 0 rfl) 9 1 rfl rfl rfl) hK rfl rfl) fun a hK => ?_
                refine d_pure hK 8 rfl (by kernel_rfl) (by kernel_rfl) (by kernel_rfl) rfl rfl rfl hS (fun _ _ _ h => h) rfl fun a hK => ?_
                obtain ⟨x206, hx207, h⟩ := obind_some h
                refine d_take hK 9 rfl (by kernel_rfl) (by kernel_rfl) (by kernel_rfl) rfl rfl rfl hS (fun _ _ _ h => h) (fun w hS => r_ixa hf13 hx207 hK ts38 rfl rfl rfl) fun a hK => ?_
                refine d_take hK 10 rfl (by kernel_rfl) (by kernel_rfl) (by kernel_rfl) rfl rfl rfl hS (fun _ _ _ h => h) (fun w hS => r_fa fa120_0 hK rfl rfl) fun a hK => ?_
                refine d_take hK 11 rfl (by kernel_rfl) (by kernel_rfl) (by kernel_rfl) rfl rfl rfl hS (fun _ _ _ h => h) (fun w hS => r_lde1 hf13 ((hMd.step hS).a00 (Enc.rd_lt hf13)) hx207 0 t13 hK rfl rfl rfl rfl) fun a hK => ?_
                refine d_pure hK 12 rfl (by kernel_rfl) (by kernel_rfl) (by kernel_rfl) rfl rfl rfl hS (fun _ _ _ h => h) rfl fun a hK => ?_
                refine d_done (by kernel_rfl) ?_
                refine (nm_then ?_)
                refine c_cond (b := x204.fId == x206.fId) hK rfl (fun hb208 => ?_) (fun hb208 => ?_)
                · have h := bif_t hb208 h
                  refine wp_seq ?_
                  refine wp_region_lit ?_
                  refine s1 hK rfl rfl rfl rfl fun a hK => ?_
                  refine wpList_nil (nm_then ?_)
                  refine wp_ret (rt_block (rt_then (rt_then (rt_block (rt_block (rt_then (rt_then (rt_block (rt_then ?_)))))))))
                  have h := Option.some.inj h
                  subst h
                  exact finR1 hK rfl (RV.tmp hK rfl) ⟨rfl, hM.ext⟩
                · have h := bif_f hb208 h
                  refine wp_skip (nm_block (nm_then ?_))
                  refine wp_region_lit ?_
                  iterate 3 (refine s1 hK rfl rfl rfl rfl fun a hK => ?_)
                  refine wpList_nil (nm_then ?_)
                  exact ⟨w64 (kv200 + 1), hK.keep [1, 5, 6] rfl, hM.sel [0] rfl (by decide), h⟩
              · have h := bif_f hb202 h
                refine wp_exit (ex_then (ex_then (ex_same (nm_block (nm_then ?_)))))
                refine wp_region_lit ?_
                iterate 3 (refine s1 hK rfl rfl rfl rfl fun a hK => ?_)
                refine wpList_nil (nm_then ?_)
                exact ⟨w64 (i175 + 1), hK.keep [1, 5] rfl, hM.sel [0] rfl (by decide), h⟩
            · exact ⟨0, hK.keep [1, 5, 6] rfl, hM.sel [0] rfl (by decide), h⟩
        · have h := bif_f hb177 h
          refine wp_exit (ex_then (ex_then (ex_same (nm_then ?_))))
          refine wp_seq ?_
          refine wp_seq ?_
          refine wp_region_lit ?_
          refine s1 hK rfl rfl rfl rfl fun a hK => ?_
          refine wpList_nil (nm_then ?_)
          refine wp_block ?_
          refine c_loop (fun n a w => ∃ (i245 : Int), K 102 [(1, .pointer (some (⟨b14, 0, none⟩ : Addr))), (7, .int .i64 (i245))] a ∧ St [] w0 w [([b14], w16)] ∧ d_spec_l5Names_L3 fu r1 n i245 = some r) ?_ ?_ fu _ _ ?_
          · rintro a w ⟨_, _, _, h⟩
            cases (show none = some _ from h)
          · rintro m246 a w244 ⟨i245, hK, hM, h⟩
            rw [d_spec_l5Names_L3_s] at h
            unfold d_spec_l5Names_L3_B at h
            refine wp_seq ?_
            refine wp_seq ?_
            refine wp_region_lit ?_
            refine s1 hK rfl rfl rfl rfl fun a hK => ?_
            refine s_val hK rfl rfl rfl (r_fa fa40_3 hK rfl rfl) fun a hK => ?_
            refine s_val hK rfl rfl rfl (r_ldb t136 hM 0 hb15 6 hK rfl rfl rfl rfl rfl) fun a hK => ?_
            refine s_val hK rfl rfl rfl (r_len (α := Pair) hf11 hK Tryz.underlying36 rfl rfl) fun a hK => ?_
            refine s1 hK rfl rfl rfl rfl fun a hK => ?_
            refine wpList_nil (nm_then ?_)
            refine c_cond (b := decide (i245 < ((r1.fPairs.length : Int)))) hK rfl (fun hb247 => ?_) (fun hb247 => ?_)
            · have h := bif_t hb247 h
              refine wp_skip (nm_then ?_)
              refine c_cut (fun a w => K 102 [(1, .pointer (some (⟨b14, 0, none⟩ : Addr))), (7, .int .i64 (i245))] a ∧ St [] w0 w [([b14], w16)] ∧ d_spec_l5Names_J1 fu (d_spec_l5Names_L3 fu r1 m246) i245 = some r) ?_ ?_
              · rintro a w255 ⟨hK, hM, h⟩
                unfold d_spec_l5Names_J1 at h
                refine wp_region_lit ?_
                iterate 3 (refine s1 hK rfl rfl rfl rfl fun a hK => ?_)
                refine wpList_nil (nm_then ?_)
                exact ⟨w64 (i245 + 1), hK.keep [1, 7] rfl, hM.sel [0] rfl (by decide), h⟩
              · refine wp_block ?_
                refine wp_seq ?_
                refine d_go [] mixo hM rfl fun w256 hMd => ?_
                have hM := hMd
                have hS := Ext.refl ([] : List Nat) w256
                refine d_take hK 0 rfl (by kernel_rfl) (by kernel_rfl) (by kernel_rfl) rfl rfl rfl hS (fun _ _ _ h => h) (fun w hS => r_fa fa40_3 hK rfl rfl) fun a hK => ?_
                refine d_take hK 1 rfl (by kernel_rfl) (by kernel_rfl) (by kernel_rfl) rfl rfl rfl hS (fun _ _ _ h => h) (fun w hS => r_ld1 t136 (r := []) (hb15.at ((hMd.step hS).a 0 rfl) 6 1 rfl rfl rfl) hK rfl rfl) fun a hK => ?_
                refine d_pure hK 2 rfl (by kernel_rfl) (by kernel_rfl) (by kernel_rfl) rfl rfl rfl hS (fun _ _ _ h => h) rfl fun a hK => ?_
                obtain ⟨x257, hx258, h⟩ := obind_some h
                refine d_take hK 3 rfl (by kernel_rfl) (by kernel_rfl) (by kernel_rfl) rfl rfl rfl hS (fun _ _ _ h => h) (fun w hS => r_ixa hf11 hx258 hK ts36 rfl rfl rfl) fun a hK => ?_
                refine d_take hK 4 rfl (by kernel_rfl) (by kernel_rfl) (by kernel_rfl) rfl rfl rfl hS (fun _ _ _ h => h) (fun w hS => r_fa fa144_0 hK rfl rfl) fun a hK => ?_
                refine d_take hK 5 rfl (by kernel_rfl) (by kernel_rfl) (by kernel_rfl) rfl rfl rfl hS (fun _ _ _ h => h) (fun w hS => r_lde1 hf11 ((hMd.step hS).a00 (Enc.rd_lt hf11)) hx258 0 t13 hK rfl rfl rfl rfl) fun a hK => ?_
                refine d_take hK 6 rfl (by kernel_rfl) (by kernel_rfl) (by kernel_rfl) rfl rfl rfl hS (fun _ _ _ h => h) (fun w hS => r_fa fa40_2 hK rfl rfl) fun a hK => ?_
                refine d_take hK 7 rfl (by kernel_rfl) (by kernel_rfl) (by kernel_rfl) rfl rfl rfl hS (fun _ _ _ h => h) (fun w hS => r_ld1 t13 (r := []) (hb15.at ((hMd.step hS).a 0 rfl) 5 1 rfl rfl rfl) hK rfl rfl) fun a hK => ?_
                refine d_pure hK 8 rfl (by kernel_rfl) (by kernel_rfl) (by kernel_rfl) rfl rfl rfl hS (fun _ _ _ h => h) rfl fun a hK => ?_
                refine d_pure hK 9 rfl (by kernel_rfl) (by kernel_rfl) (by kernel_rfl) rfl rfl rfl hS (fun _ _ _ h => h) rfl fun a hK => ?_
                refine bsplit (decide (x257.fA ≥ r1.fClasses)) (fun hb259 => ?_) (fun hb259 => ?_)
                · have h := bif_t hb259 h
                  have hK := hK.re (d := 85) rfl (congrArg Value.bool hb259)
                  refine d_skip hK 10 rfl (by kernel_rfl) (by kernel_rfl) (by kernel_rfl) rfl rfl rfl hS (fun _ _ _ h => h) fun a hK => ?_
                  refine d_skip hK 11 rfl (by kernel_rfl) (by kernel_rfl) (by kernel_rfl) rfl rfl rfl hS (fun _ _ _ h => h) fun a hK => ?_
                  refine d_skip hK 12 rfl (by kernel_rfl) (by kernel_rfl) (by kernel_rfl) rfl rfl rfl hS (fun _ _ _ h => h) fun a hK => ?_
                  refine d_skip hK 13 rfl (by kernel_rfl) (by kernel_rfl) (by kernel_rfl) rfl rfl rfl hS (fun _ _ _ h => h) fun a hK => ?_
                  refine d_skip hK 14 rfl (by kernel_rfl) (by kernel_rfl) (by kernel_rfl) rfl rfl rfl hS (fun _ _ _ h => h) fun a hK => ?_
                  refine d_skip hK 15 rfl (by kernel_rfl) (by kernel_rfl) (by kernel_rfl) rfl rfl rfl hS (fun _ _ _ h => h) fun a hK => ?_
                  refine d_skip hK 16 rfl (by kernel_rfl) (by kernel_rfl) (by kernel_rfl) rfl rfl rfl hS (fun _ _ _ h => h) fun a hK => ?_
                  refine d_skip hK 17 rfl (by kernel_rfl) (by kernel_rfl) (by kernel_rfl) rfl rfl rfl hS (fun _ _ _ h => h) fun a hK => ?_
                  refine d_skip hK 18 rfl (by kernel_rfl) (by kernel_rfl) (by kernel_rfl) rfl rfl rfl hS (fun _ _ _ h => h) fun a hK => ?_
                  refine d_pure hK 19 rfl (by kernel_rfl) (by kernel_rfl) (by kernel_rfl) rfl rfl rfl hS (fun _ _ _ h => h) rfl fun a hK => ?_
                  refine d_done (by kernel_rfl) ?_
                  have hK := hK.keep [1, 7, 95] rfl
                  refine (nm_then ?_)
                  refine wp_cond_true (hK.ev rfl) ?_
                  refine wp_seq ?_
                  refine wp_region_lit ?_
                  refine s1 hK rfl rfl rfl rfl fun a hK => ?_
                  refine wpList_nil (nm_then ?_)
                  refine wp_ret (rt_block (rt_then (rt_then (rt_block (rt_then ?_)))))
                  have h := Option.some.inj h
                  subst h
                  exact finR1 hK rfl (RV.tmp hK rfl) ⟨rfl, hM.ext⟩
                · have h := bif_f hb259 h
                  have hK := hK.re (d := 85) rfl (congrArg Value.bool hb259)
                  refine d_take hK 10 rfl (by kernel_rfl) (by kernel_rfl) (by kernel_rfl) rfl rfl rfl hS (fun _ _ _ h => h) (fun w hS => r_fa fa40_3 hK rfl rfl) fun a hK => ?_
                  refine d_take hK 11 rfl (by kernel_rfl) (by kernel_rfl) (by kernel_rfl) rfl rfl rfl hS (fun _ _ _ h => h) (fun w hS => r_ld1 t136 (r := []) (hb15.at ((hMd.step hS).a 0 rfl) 6 1 rfl rfl rfl) hK rfl rfl) fun a hK => ?_
                  refine d_pure hK 12 rfl (by kernel_rfl) (by kernel_rfl) (by kernel_rfl) rfl rfl rfl hS (fun _ _ _ h => h) rfl fun a hK => ?_
                  obtain ⟨x260, hx261, h⟩ := obind_some h
                  refine d_take hK 13 rfl (by kernel_rfl) (by kernel_rfl) (by kernel_rfl) rfl rfl rfl hS (fun _ _ _ h => h) (fun w hS => r_ixa hf11 hx258 hK ts36 rfl rfl rfl) fun a hK => ?_
                  refine d_take hK 14 rfl (by kernel_rfl) (by kernel_rfl) (by kernel_rfl) rfl rfl rfl hS (fun _ _ _ h => h) (fun w hS => r_fa fa144_1 hK rfl rfl) fun a hK => ?_
                  refine d_take hK 15 rfl (by kernel_rfl) (by kernel_rfl) (by kernel_rfl) rfl rfl rfl hS (fun _ _ _ h => h) (fun w hS => r_lde1 hf11 ((hMd.step hS).a00 (Enc.rd_lt hf11)) hx258 1 t13 hK rfl rfl rfl rfl) fun a hK => ?_
                  refine d_take hK 16 rfl (by kernel_rfl) (by kernel_rfl) (by kernel_rfl) rfl rfl rfl hS (fun _ _ _ h => h) (fun w hS => r_fa fa40_2 hK rfl rfl) fun a hK => ?_
                  refine d_take hK 17 rfl (by kernel_rfl) (by kernel_rfl) (by kernel_rfl) rfl rfl rfl hS (fun _ _ _ h => h) (fun w hS => r_ld1 t13 (r := []) (hb15.at ((hMd.step hS).a 0 rfl) 5 1 rfl rfl rfl) hK rfl rfl) fun a hK => ?_
                  refine d_pure hK 18 rfl (by kernel_rfl) (by kernel_rfl) (by kernel_rfl) rfl rfl rfl hS (fun _ _ _ h => h) rfl fun a hK => ?_
                  refine d_pure hK 19 rfl (by kernel_rfl) (by kernel_rfl) (by kernel_rfl) rfl rfl rfl hS (fun _ _ _ h => h) rfl fun a hK => ?_
                  refine d_done (by kernel_rfl) ?_
                  have hK := hK.keep [1, 7, 95] rfl
                  refine (nm_then ?_)
                  refine c_cond (b := decide (x257.fB ≥ r1.fClasses)) hK rfl (fun hb262 => ?_) (fun hb262 => ?_)
                  · have h := bif_t hb262 h
                    refine wp_seq ?_
                    refine wp_region_lit ?_
                    refine s1 hK rfl rfl rfl rfl fun a hK => ?_
                    refine wpList_nil (nm_then ?_)
                    refine wp_ret (rt_block (rt_then (rt_then (rt_block (rt_then ?_)))))
                    have h := Option.some.inj h
                    subst h
                    exact finR1 hK rfl (RV.tmp hK rfl) ⟨rfl, hM.ext⟩
                  · have h := bif_f hb262 h
                    refine wp_skip (nm_block (nm_then ?_))
                    exact ⟨hK.keep [1, 7] rfl, hM.sel [0] rfl (by decide), h⟩
            · have h := bif_f hb247 h
              refine wp_exit (ex_then (ex_then (ex_same (nm_then ?_))))
              refine wp_seq ?_
              refine wp_region_lit ?_
              refine s_val hK rfl rfl rfl (r_ldB ta40 hM 0 hb15 0 hK rfl rfl rfl rfl rfl rfl) fun a hK => ?_
              obtain ⟨x263, hx264, h⟩ := obind_some h
              refine s_call hK Tryz.call88 rfl rfl rfl rfl rfl (c_spec_MasterOf fu _ (show rd _ _ [.int .i64 (r1.fWay), .int .i64 (r1.fPallet.fW), .int .i64 (r1.fPallet.fD), .int .i64 (r1.fPallet.fH), .int .i64 (r1.fPallet.fGram), .int .i64 (r1.fClasses), v5, v7, .int .i64 (r1.fMaster), v9] (r1 : Request) from ⟨_, _, _, _, _, _, rfl, rfl, (Enc.rd_agr hf11 (hM.a00 (Enc.rd_lt hf11))), (Enc.rd_agr hf12 (hM.a00 (Enc.rd_lt hf12))), (Enc.rd_agr hf13 (hM.a00 (Enc.rd_lt hf13)))⟩) hx264) fun e265 w266 hR => ?_
              obtain ⟨rfl, hE⟩ := hR
              refine ⟨_, rfl, fun a hK => ?_⟩
              have hM := hM.step hE
              iterate 3 (refine s1 hK rfl rfl rfl rfl fun a hK => ?_)
              refine s_alloc (cs := [.int .i64 (0), .int .i64 (0), .int .i64 (0), .int .i64 (0), .int .i64 (0), .int .i64 (0), .int .i64 (0)]) hM hK Tryz.zeroValue92 rfl rfl rfl rfl rfl fun b267 w269 a hK hM hE hb268 => ?_
              refine s_stb (cs' := [.int .i64 (x263.1.fId), .int .i64 (x263.1.fW), .int .i64 (x263.1.fH), .int .i64 (x263.1.fD), .int .i64 (x263.1.fTare), .int .i64 (x263.1.fGram), .int .i64 (x263.1.fCost)]) Tryz.sizeOf92 hM 0 hb268 0 hK rfl rfl rfl rfl rfl rfl rfl rfl rfl rfl rfl fun w270 a hK hE hM hb271 => ?_
              refine s1 hK rfl rfl rfl rfl fun a hK => ?_
              refine wpList_nil (nm_then ?_)
              refine wp_seq ?_
              refine wp_region_lit ?_
              iterate 2 (refine s1 hK rfl rfl rfl rfl fun a hK => ?_)
              refine wpList_nil (nm_then ?_)
              refine wp_ret ?_
              have h := Option.some.inj h
              subst h
              exact finR1 hK rfl (RV.tmp hK rfl) ⟨rfl, hM.ext⟩
          · exact ⟨0, hK.keep [1, 7] rfl, hM.sel [0] rfl (by decide), h⟩
      · exact ⟨0, hK.keep [1, 5] rfl, hM.sel [0] rfl (by decide), h⟩
  · exact ⟨0, hK.keep [1, 3] rfl, hM.sel [0] rfl (by decide), h⟩

theorem c_spec_Beside (fu : Nat) {w0 : World} (pairs1 : List Pair) (a5 : Int) (b6 : Int) {v2 : Value} {F3 : List Nat} (hp4 : rd w0 F3 [v2] pairs1) {r : Bool}
    (h : d_spec_Beside fu pairs1 a5 b6 = some r) :
    Calls Tryz.prog 113 #[v2, .int .i64 (a5), .int .i64 (b6)] w0 fun e w => e = .returned (.bool (r)) ∧ Ext [] w0 w := by
  refine enter (vs := [_, _, _]) Tryz.func113 rfl Tryz.ntmps113 rfl fun a hK => ?_
  have hM := St.start w0
  unfold d_spec_Beside at h
  refine wp_seq ?_
  refine wp_region_lit ?_
  refine s1 hK rfl rfl rfl rfl fun a hK => ?_
  refine wpList_nil (nm_then ?_)
  refine wp_seq ?_
  refine wp_seq ?_
  refine wp_region_lit ?_
  refine s1 hK rfl rfl rfl rfl fun a hK => ?_
  refine wpList_nil (nm_then ?_)
  refine wp_block ?_
  refine c_loop (fun n a w => ∃ (i39 : Int), K 30 [(0, v2), (1, .int .i64 (a5)), (2, .int .i64 (b6)), (7, .int .i64 (i39))] a ∧ St [] w0 w [] ∧ d_spec_Beside_L1 fu pairs1 a5 b6 n i39 = some r) ?_ ?_ fu _ _ ?_
  · rintro a w ⟨_, _, _, h⟩
    cases (show none = some _ from h)
  · rintro m40 a w38 ⟨i39, hK, hM, h⟩
    rw [d_spec_Beside_L1_s] at h
    unfold d_spec_Beside_L1_B at h
    refine wp_seq ?_
    refine wp_seq ?_
    refine wp_region_lit ?_
    iterate 2 (refine s1 hK rfl rfl rfl rfl fun a hK => ?_)
    refine s_val hK rfl rfl rfl (r_len (α := Pair) hp4 hK Tryz.underlying36 rfl rfl) fun a hK => ?_
    refine s1 hK rfl rfl rfl rfl fun a hK => ?_
    refine wpList_nil (nm_then ?_)
    refine c_cond (b := decide (i39 < ((pairs1.length : Int)))) hK rfl (fun hb41 => ?_) (fun hb41 => ?_)
    · have h := bif_t hb41 h
      refine wp_skip (nm_then ?_)
      refine c_cut (fun a w => K 30 [(0, v2), (1, .int .i64 (a5)), (2, .int .i64 (b6)), (7, .int .i64 (i39))] a ∧ St [] w0 w [] ∧ d_spec_Beside_J1 fu (d_spec_Beside_L1 fu pairs1 a5 b6 m40) i39 = some r) ?_ ?_
      · rintro a w48 ⟨hK, hM, h⟩
        unfold d_spec_Beside_J1 at h
        refine wp_region_lit ?_
        iterate 3 (refine s1 hK rfl rfl rfl rfl fun a hK => ?_)
        refine wpList_nil (nm_then ?_)
        exact ⟨w64 (i39 + 1), hK.keep [0, 1, 2, 7] rfl, hM.sel [] rfl (by decide), h⟩
      · refine wp_block ?_
        refine wp_seq ?_
        refine wp_region_lit ?_
        iterate 2 (refine s1 hK rfl rfl rfl rfl fun a hK => ?_)
        obtain ⟨x49, hx50, h⟩ := obind_some h
        refine s_val hK rfl rfl rfl (r_ixa hp4 hx50 hK ts36 rfl rfl rfl) fun a hK => ?_
        refine s_val hK rfl rfl rfl (r_fa fa144_0 hK rfl rfl) fun a hK => ?_
        refine s_val hK rfl rfl rfl (r_lde1 hp4 (hM.a00 (Enc.rd_lt hp4)) hx50 0 t13 hK rfl rfl rfl rfl) fun a hK => ?_
        iterate 3 (refine s1 hK rfl rfl rfl rfl fun a hK => ?_)
        refine bsplit (x49.fA == a5) (fun hb51 => ?_) (fun hb51 => ?_)
        · have h := bif_t hb51 h
          have hK := hK.re (d := 21) rfl (congrArg Value.bool hb51)
          iterate 2 (refine s1 hK rfl rfl rfl rfl fun a hK => ?_)
          obtain ⟨x52, hx53, h⟩ := obind_some h
          refine s_val hK rfl rfl rfl (r_ixa hp4 hx50 hK ts36 rfl rfl rfl) fun a hK => ?_
          refine s_val hK rfl rfl rfl (r_fa fa144_1 hK rfl rfl) fun a hK => ?_
          refine s_val hK rfl rfl rfl (r_lde1 hp4 (hM.a00 (Enc.rd_lt hp4)) hx50 1 t13 hK rfl rfl rfl rfl) fun a hK => ?_
          iterate 3 (refine s1 hK rfl rfl rfl rfl fun a hK => ?_)
          refine wpList_nil (nm_then ?_)
          refine c_cond (b := x49.fB == b6) hK rfl (fun hb54 => ?_) (fun hb54 => ?_)
          · have h := bif_t hb54 h
            refine wp_seq ?_
            refine wp_region_lit ?_
            refine s1 hK rfl rfl rfl rfl fun a hK => ?_
            refine wpList_nil (nm_then ?_)
            refine wp_ret (rt_block (rt_then (rt_then (rt_block (rt_then ?_)))))
            have h := Option.some.inj h
            subst h
            exact finR1 hK rfl (RV.tmp hK rfl) ⟨rfl, hM.ext⟩
          · have h := bif_f hb54 h
            refine wp_skip (nm_block (nm_then ?_))
            exact ⟨hK.keep [0, 1, 2, 7] rfl, hM.sel [] rfl (by decide), h⟩
        · have h := bif_f hb51 h
          have hK := hK.re (d := 21) rfl (congrArg Value.bool hb51)
          refine sk hK rfl rfl rfl fun a hK => ?_
          refine sk hK rfl rfl rfl fun a hK => ?_
          refine sk hK rfl rfl rfl fun a hK => ?_
          refine sk hK rfl rfl rfl fun a hK => ?_
          refine sk hK rfl rfl rfl fun a hK => ?_
          refine sk hK rfl rfl rfl fun a hK => ?_
          refine sk hK rfl rfl rfl fun a hK => ?_
          refine s1 hK rfl rfl rfl rfl fun a hK => ?_
          refine wpList_nil (nm_then ?_)
          refine wp_cond_false (hK.ev rfl) ?_
          refine wp_skip (nm_block (nm_then ?_))
          exact ⟨hK.keep [0, 1, 2, 7] rfl, hM.sel [] rfl (by decide), h⟩
    · have h := bif_f hb41 h
      refine wp_exit (ex_then (ex_then (ex_same (nm_then ?_))))
      refine wp_seq ?_
      refine wp_region_lit ?_
      refine s1 hK rfl rfl rfl rfl fun a hK => ?_
      refine wpList_nil (nm_then ?_)
      refine wp_ret ?_
      have h := Option.some.inj h
      subst h
      exact finR1 hK rfl (RV.tmp hK rfl) ⟨rfl, hM.ext⟩
  · exact ⟨0, hK.keep [0, 1, 2, 7] rfl, hM.sel [] rfl (by decide), h⟩

theorem c_spec_TableOk (fu : Nat) {w0 : World} (pairs1 : List Pair) (classes5 : Int) {v2 : Value} {F3 : List Nat} (hp4 : rd w0 F3 [v2] pairs1) {r : Bool}
    (h : d_spec_TableOk fu pairs1 classes5 = some r) :
    Calls Tryz.prog 134 #[v2, .int .i64 (classes5)] w0 fun e w => e = .returned (.bool (r)) ∧ Ext [] w0 w := by
  refine enter (vs := [_, _]) Tryz.func134 rfl Tryz.ntmps134 rfl fun a hK => ?_
  have hM := St.start w0
  unfold d_spec_TableOk at h
  refine wp_seq ?_
  refine wp_region_lit ?_
  refine s1 hK rfl rfl rfl rfl fun a hK => ?_
  refine wpList_nil (nm_then ?_)
  refine wp_seq ?_
  refine wp_seq ?_
  refine wp_region_lit ?_
  refine s1 hK rfl rfl rfl rfl fun a hK => ?_
  obtain ⟨x6, hx7, h⟩ := obind_some h
  refine s_call hK Tryz.call136 rfl rfl rfl rfl rfl (c_spec_l1In fu _ _ _  hx7) fun e8 w9 hR => ?_
  obtain ⟨rfl, hE⟩ := hR
  refine ⟨_, rfl, fun a hK => ?_⟩
  have hM := hM.step hE
  refine s1 hK rfl rfl rfl rfl fun a hK => ?_
  refine wpList_nil (nm_then ?_)
  refine c_cond (b := !x6) hK rfl (fun hb10 => ?_) (fun hb10 => ?_)
  · have h := bif_t hb10 h
    refine wp_seq ?_
    refine wp_region_lit ?_
    refine s1 hK rfl rfl rfl rfl fun a hK => ?_
    refine wpList_nil (nm_then ?_)
    refine wp_ret (rt_then ?_)
    have h := Option.some.inj h
    subst h
    exact finR1 hK rfl (RV.tmp hK rfl) ⟨rfl, hM.ext⟩
  · have h := bif_f hb10 h
    refine wp_skip (nm_then ?_)
    refine wp_seq ?_
    refine wp_seq ?_
    refine wp_region_lit ?_
    refine s1 hK rfl rfl rfl rfl fun a hK => ?_
    refine wpList_nil (nm_then ?_)
    refine wp_block ?_
    refine c_loop (fun n a w => ∃ (a329 : Int), K 41 [(0, v2), (1, .int .i64 (classes5)), (5, .int .i64 (a329))] a ∧ St [] w0 w [] ∧ d_spec_TableOk_L2 fu pairs1 classes5 n a329 = some r) ?_ ?_ fu _ _ ?_
    · rintro a w ⟨_, _, _, h⟩
      cases (show none = some _ from h)
    · rintro m330 a w328 ⟨a329, hK, hM, h⟩
      rw [d_spec_TableOk_L2_s] at h
      unfold d_spec_TableOk_L2_B at h
      refine wp_seq ?_
      refine wp_seq ?_
      refine wp_region_lit ?_
      iterate 3 (refine s1 hK rfl rfl rfl rfl fun a hK => ?_)
      refine wpList_nil (nm_then ?_)
      refine c_cond (b := decide (a329 < classes5)) hK rfl (fun hb331 => ?_) (fun hb331 => ?_)
      · have h := bif_t hb331 h
        refine wp_skip (nm_then ?_)
        refine wp_seq ?_
        refine wp_block ?_
        refine wp_seq ?_
        refine wp_region_lit ?_
        refine s1 hK rfl rfl rfl rfl fun a hK => ?_
        refine wpList_nil (nm_then ?_)
        refine wp_block ?_
        refine c_loop (fun n a w => ∃ (b436 : Int), K 41 [(0, v2), (1, .int .i64 (classes5)), (5, .int .i64 (a329)), (6, .int .i64 (b436))] a ∧ St [] w0 w [] ∧ d_spec_TableOk_L1 fu (d_spec_TableOk_L2 fu pairs1 classes5 m330) pairs1 classes5 a329 n b436 = some r) ?_ ?_ fu _ _ ?_
        · rintro a w ⟨_, _, _, h⟩
          cases (show none = some _ from h)
        · rintro m437 a w435 ⟨b436, hK, hM, h⟩
          rw [d_spec_TableOk_L1_s] at h
          unfold d_spec_TableOk_L1_B at h
          refine wp_seq ?_
          refine wp_seq ?_
          refine wp_region_lit ?_
          iterate 3 (refine s1 hK rfl rfl rfl rfl fun a hK => ?_)
          refine wpList_nil (nm_then ?_)
          refine c_cond (b := decide (b436 < classes5)) hK rfl (fun hb438 => ?_) (fun hb438 => ?_)
          · have h := bif_t hb438 h
            refine wp_skip (nm_then ?_)
            refine c_cut (fun a w => K 41 [(0, v2), (1, .int .i64 (classes5)), (5, .int .i64 (a329)), (6, .int .i64 (b436))] a ∧ St [] w0 w [] ∧ d_spec_TableOk_J1 fu (d_spec_TableOk_L1 fu (d_spec_TableOk_L2 fu pairs1 classes5 m330) pairs1 classes5 a329 m437) b436 = some r) ?_ ?_
            · rintro a w463 ⟨hK, hM, h⟩
              unfold d_spec_TableOk_J1 at h
              refine wp_region_lit ?_
              iterate 3 (refine s1 hK rfl rfl rfl rfl fun a hK => ?_)
              refine wpList_nil (nm_then ?_)
              exact ⟨w64 (b436 + 1), hK.keep [0, 1, 5, 6] rfl, hM.sel [] rfl (by decide), h⟩
            · refine wp_block ?_
              refine wp_seq ?_
              refine wp_region_lit ?_
              iterate 4 (refine s1 hK rfl rfl rfl rfl fun a hK => ?_)
              refine bsplit (a329 == b436) (fun hb464 => ?_) (fun hb464 => ?_)
              · have h := bif_t hb464 h
                have hK := hK.re (d := 23) rfl (congrArg Value.bool hb464)
                iterate 3 (refine s1 hK rfl rfl rfl rfl fun a hK => ?_)
                obtain ⟨x465, hx466, h⟩ := obind_some h
                refine s_call hK Tryz.call113 rfl rfl rfl rfl rfl (c_spec_Beside fu _ _ _ (Enc.rd_agr hp4 (hM.a00 (Enc.rd_lt hp4))) hx466) fun e467 w468 hR => ?_
                obtain ⟨rfl, hE⟩ := hR
                refine ⟨_, rfl, fun a hK => ?_⟩
                have hM := hM.step hE
                iterate 3 (refine s1 hK rfl rfl rfl rfl fun a hK => ?_)
                refine bsplit (!x465) (fun hb469 => ?_) (fun hb469 => ?_)
                · have h := bif_t hb469 h
                  have hK := hK.re (d := 30) rfl (congrArg Value.bool hb469)
                  refine sk hK rfl rfl rfl fun a hK => ?_
                  refine sk hK rfl rfl rfl fun a hK => ?_
                  refine sk hK rfl rfl rfl fun a hK => ?_
                  refine sk hK rfl rfl rfl fun a hK => ?_
                  refine sk hK rfl rfl rfl fun a hK => ?_
                  refine sk hK rfl rfl rfl fun a hK => ?_
                  refine sk hK rfl rfl rfl fun a hK => ?_
                  refine sk hK rfl rfl rfl fun a hK => ?_
                  refine sk hK rfl rfl rfl fun a hK => ?_
                  refine s1 hK rfl rfl rfl rfl fun a hK => ?_
                  refine wpList_nil (nm_then ?_)
                  refine wp_cond_true (hK.ev rfl) ?_
                  refine wp_seq ?_
                  refine wp_region_lit ?_
                  refine s1 hK rfl rfl rfl rfl fun a hK => ?_
                  have hK := hK.keep [4] rfl
                  refine wpList_nil (nm_then ?_)
                  refine wp_ret (rt_block (rt_then (rt_then (rt_block (rt_block (rt_then (rt_then (rt_block (rt_then ?_)))))))))
                  have h := Option.some.inj h
                  subst h
                  exact finR1 hK rfl (RV.tmp hK rfl) ⟨rfl, hM.ext⟩
                · have h := bif_f hb469 h
                  have hK := hK.re (d := 30) rfl (congrArg Value.bool hb469)
                  iterate 3 (refine s1 hK rfl rfl rfl rfl fun a hK => ?_)
                  obtain ⟨x470, hx471, h⟩ := obind_some h
                  refine s_call hK Tryz.call113 rfl rfl rfl rfl rfl (c_spec_Beside fu _ _ _ (Enc.rd_agr hp4 (hM.a00 (Enc.rd_lt hp4))) hx471) fun e472 w473 hR => ?_
                  obtain ⟨rfl, hE⟩ := hR
                  refine ⟨_, rfl, fun a hK => ?_⟩
                  have hM := hM.step hE
                  iterate 3 (refine s1 hK rfl rfl rfl rfl fun a hK => ?_)
                  obtain ⟨x474, hx475, h⟩ := obind_some h
                  refine s_call hK Tryz.call113 rfl rfl rfl rfl rfl (c_spec_Beside fu _ _ _ (Enc.rd_agr hp4 (hM.a00 (Enc.rd_lt hp4))) hx475) fun e476 w477 hR => ?_
                  obtain ⟨rfl, hE⟩ := hR
                  refine ⟨_, rfl, fun a hK => ?_⟩
                  have hM := hM.step hE
                  refine s_val hK rfl rfl rfl (r_neb hK Tryz.underlying4 rfl rfl rfl) fun a hK => ?_
                  refine s1 hK rfl rfl rfl rfl fun a hK => ?_
                  refine wpList_nil (nm_then ?_)
                  refine c_cond (b := !(x470 == x474)) hK rfl (fun hb478 => ?_) (fun hb478 => ?_)
                  · have h := bif_t hb478 h
                    refine wp_seq ?_
                    refine wp_region_lit ?_
                    refine s1 hK rfl rfl rfl rfl fun a hK => ?_
                    have hK := hK.keep [4] rfl
                    refine wpList_nil (nm_then ?_)
                    refine wp_ret (rt_block (rt_then (rt_then (rt_block (rt_block (rt_then (rt_then (rt_block (rt_then ?_)))))))))
                    have h := Option.some.inj h
                    subst h
                    exact finR1 hK rfl (RV.tmp hK rfl) ⟨rfl, hM.ext⟩
                  · have h := bif_f hb478 h
                    refine wp_skip (nm_block (nm_then ?_))
                    exact ⟨hK.keep [0, 1, 5, 6] rfl, hM.sel [] rfl (by decide), h⟩
              · have h := bif_f hb464 h
                have hK := hK.re (d := 23) rfl (congrArg Value.bool hb464)
                refine sk hK rfl rfl rfl fun a hK => ?_
                refine sk hK rfl rfl rfl fun a hK => ?_
                refine sk hK rfl rfl rfl fun a hK => ?_
                refine sk hK rfl rfl rfl fun a hK => ?_
                refine sk hK rfl rfl rfl fun a hK => ?_
                iterate 5 (refine s1 hK rfl rfl rfl rfl fun a hK => ?_)
                obtain ⟨x479, hx480, h⟩ := obind_some h
                refine s_call hK Tryz.call113 rfl rfl rfl rfl rfl (c_spec_Beside fu _ _ _ (Enc.rd_agr hp4 (hM.a00 (Enc.rd_lt hp4))) hx480) fun e481 w482 hR => ?_
                obtain ⟨rfl, hE⟩ := hR
                refine ⟨_, rfl, fun a hK => ?_⟩
                have hM := hM.step hE
                iterate 3 (refine s1 hK rfl rfl rfl rfl fun a hK => ?_)
                obtain ⟨x483, hx484, h⟩ := obind_some h
                refine s_call hK Tryz.call113 rfl rfl rfl rfl rfl (c_spec_Beside fu _ _ _ (Enc.rd_agr hp4 (hM.a00 (Enc.rd_lt hp4))) hx484) fun e485 w486 hR => ?_
                obtain ⟨rfl, hE⟩ := hR
                refine ⟨_, rfl, fun a hK => ?_⟩
                have hM := hM.step hE
                refine s_val hK rfl rfl rfl (r_neb hK Tryz.underlying4 rfl rfl rfl) fun a hK => ?_
                refine s1 hK rfl rfl rfl rfl fun a hK => ?_
                refine wpList_nil (nm_then ?_)
                refine c_cond (b := !(x479 == x483)) hK rfl (fun hb487 => ?_) (fun hb487 => ?_)
                · have h := bif_t hb487 h
                  refine wp_seq ?_
                  refine wp_region_lit ?_
                  refine s1 hK rfl rfl rfl rfl fun a hK => ?_
                  have hK := hK.keep [4] rfl
                  refine wpList_nil (nm_then ?_)
                  refine wp_ret (rt_block (rt_then (rt_then (rt_block (rt_block (rt_then (rt_then (rt_block (rt_then ?_)))))))))
                  have h := Option.some.inj h
                  subst h
                  exact finR1 hK rfl (RV.tmp hK rfl) ⟨rfl, hM.ext⟩
                · have h := bif_f hb487 h
                  refine wp_skip (nm_block (nm_then ?_))
                  exact ⟨hK.keep [0, 1, 5, 6] rfl, hM.sel [] rfl (by decide), h⟩
          · have h := bif_f hb438 h
            refine wp_exit (ex_then (ex_then (ex_same (nm_block (nm_then ?_)))))
            refine wp_region_lit ?_
            iterate 3 (refine s1 hK rfl rfl rfl rfl fun a hK => ?_)
            refine wpList_nil (nm_then ?_)
            exact ⟨w64 (a329 + 1), hK.keep [0, 1, 5] rfl, hM.sel [] rfl (by decide), h⟩
        · exact ⟨0, hK.keep [0, 1, 5, 6] rfl, hM.sel [] rfl (by decide), h⟩
      · have h := bif_f hb331 h
        refine wp_exit (ex_then (ex_then (ex_same (nm_then ?_))))
        refine wp_seq ?_
        refine wp_region_lit ?_
        refine s1 hK rfl rfl rfl rfl fun a hK => ?_
        refine wpList_nil (nm_then ?_)
        refine wp_ret ?_
        have h := Option.some.inj h
        subst h
        exact finR1 hK rfl (RV.tmp hK rfl) ⟨rfl, hM.ext⟩
    · exact ⟨0, hK.keep [0, 1, 5] rfl, hM.sel [] rfl (by decide), h⟩

theorem c_spec_l1Places (fu : Nat) {w0 : World} (n1 : Int)  {r : (List Int)}
    (h : d_spec_l1Places fu n1 = some r) :
    Calls Tryz.prog 112 #[.int .i64 (n1)] w0 fun e w => ∃ (v0 : Value) (G0 : List Nat), e = .returned (v0) ∧ Ext [] w0 w ∧ ow w G0 [v0] r ∧ (∀ b ∈ G0, w0.heap.size ≤ b) := by
  refine enter (vs := [_]) Tryz.func112 rfl Tryz.ntmps112 rfl fun a hK => ?_
  have hM := St.start w0
  unfold d_spec_l1Places at h
  refine wp_seq ?_
  refine wp_region_lit ?_
  refine s1 hK rfl rfl rfl rfl fun a hK => ?_
  refine wpList_nil (nm_then ?_)
  refine wp_seq ?_
  refine wp_region_lit ?_
  refine s_bs (cs := []) (ps := []) te29 hM hK rfl rfl rfl rfl rfl rfl rfl (by decide) rfl (by exact (List.forall_mem_nil _)) fun g2 w3 e5 a hK hM hE hb4 => ?_
  have hf6 := ow_bx hb4 ([] : List Int) rfl rfl rfl
  refine s1 hK rfl rfl rfl rfl fun a hK => ?_
  refine wpList_nil (nm_then ?_)
  refine wp_seq ?_
  refine wp_seq ?_
  refine wp_region_lit ?_
  refine s1 hK rfl rfl rfl rfl fun a hK => ?_
  refine wpList_nil (nm_then ?_)
  refine wp_block ?_
  refine c_loop (fun n a w => ∃ (out40 : List Int) (v41 : Value) (F42 : List Nat) (u43 : World) (i45 : Int), K 16 [(0, .int .i64 (n1)), (3, v41), (4, .int .i64 (i45))] a ∧ St [] w0 w [(F42, u43)] ∧ ow u43 F42 [v41] out40 ∧ d_spec_l1Places_L1 fu n1 n out40 i45 = some r) ?_ ?_ fu _ _ ?_
  · rintro a w ⟨_, _, _, _, _, _, _, _, h⟩
    cases (show none = some _ from h)
  · rintro m46 a w39 ⟨out40, v41, F42, u43, i45, hK, hM, hf44, h⟩
    rw [d_spec_l1Places_L1_s] at h
    unfold d_spec_l1Places_L1_B at h
    refine wp_seq ?_
    refine wp_seq ?_
    refine wp_region_lit ?_
    iterate 3 (refine s1 hK rfl rfl rfl rfl fun a hK => ?_)
    refine wpList_nil (nm_then ?_)
    refine c_cond (b := decide (i45 < n1)) hK rfl (fun hb47 => ?_) (fun hb47 => ?_)
    · have h := bif_t hb47 h
      refine wp_skip (nm_then ?_)
      refine wp_seq ?_
      refine wp_block ?_
      refine wp_region_lit ?_
      iterate 2 (refine s1 hK rfl rfl rfl rfl fun a hK => ?_)
      refine s_bs (cs := [.int .i64 (i45)]) (ps := [(0, .tmp 12)]) te29 hM hK rfl rfl rfl rfl rfl rfl rfl (by decide) rfl (by exact (List.forall_mem_cons.2 ⟨rfl, (List.forall_mem_nil _)⟩)) fun g48 w49 e51 a hK hM hE hb50 => ?_
      have hf52 := ow_bx hb50 ([i45] : List Int) rfl rfl rfl
      obtain ⟨x53, hx54, h⟩ := obind_some h
      refine s_appF hx54 te29 rfl hM 1 hf44 (News.rd (Enc.rd_agr (Enc.ow_rd hf52) (hM.a 0 rfl))) rfl rfl hK rfl rfl rfl rfl rfl rfl rfl fun v55 F56 w57 a hK hE hM hf58 => ?_
      refine s1 hK rfl rfl rfl rfl fun a hK => ?_
      refine wpList_nil (nm_block (nm_then ?_))
      refine wp_region_lit ?_
      iterate 3 (refine s1 hK rfl rfl rfl rfl fun a hK => ?_)
      refine wpList_nil (nm_then ?_)
      exact ⟨x53, v55, F56, w57, w64 (i45 + 1), hK.keep [0, 3, 4] rfl, hM.sel [1] rfl (by decide), hf58, h⟩
    · have h := bif_f hb47 h
      refine wp_exit (ex_then (ex_then (ex_same (nm_then ?_))))
      refine wp_seq ?_
      refine wp_region_lit ?_
      iterate 2 (refine s1 hK rfl rfl rfl rfl fun a hK => ?_)
      refine wpList_nil (nm_then ?_)
      refine wp_ret ?_
      have h := Option.some.inj h
      subst h
      exact finR1 hK rfl (RV.tmp hK rfl) ⟨_, F42, rfl, hM.ext, (Enc.ow_agr hf44 (hM.a 0 rfl)), (hM.fresh 0 rfl)⟩
  · exact ⟨([] : List Int), (.slice (some ⟨g2, 0, none⟩) 0 0), [g2], w3, 0, hK.keep [0, 3, 4] rfl, hM.sel [0] rfl (by decide), hf6, h⟩

theorem c_spec_l1Merge_R (fu : Nat) : ∀ (nr : Nat) {w0 : World} (keys1 : List Int) (places5 : List Int) (down9 : Bool) {v2 : Value} {F3 : List Nat} (hp4 : rd w0 F3 [v2] keys1) {v6 : Value} {F7 : List Nat} (hp8 : rd w0 F7 [v6] places5) {r : (List Int)} (h : d_spec_l1Merge_R fu nr keys1 places5 down9 = some r), Calls Tryz.prog 223 #[v2, v6, .bool (down9)] w0 fun e w => ∃ (v0 : Value) (G0 : List Nat), e = .returned (v0) ∧ Ext [] w0 w ∧ ow w G0 [v0] r ∧ (∀ b ∈ G0, w0.heap.size ≤ b) := by
  intro nr
  induction nr with
  | zero =>
    intros
    rename_i h
    cases (show none = some _ from h)
  | succ nr ih =>
  intro w0 keys1 places5 down9 v2 F3 hp4 v6 F7 hp8 r h
  refine enter (vs := [_, _, _]) Tryz.func223 rfl Tryz.ntmps223 rfl fun a hK => ?_
  have hM := St.start w0
  rw [d_spec_l1Merge_Rs] at h
  unfold d_spec_l1Merge_RB at h
  refine wp_seq ?_
  refine wp_region_lit ?_
  refine s1 hK rfl rfl rfl rfl fun a hK => ?_
  refine wpList_nil (nm_then ?_)
  refine wp_seq ?_
  refine wp_seq ?_
  refine wp_region_lit ?_
  refine s1 hK rfl rfl rfl rfl fun a hK => ?_
  refine s_val hK rfl rfl rfl (r_len (α := Int) hp8 hK Tryz.underlying29 rfl rfl) fun a hK => ?_
  refine s1 hK rfl rfl rfl rfl fun a hK => ?_
  refine wpList_nil (nm_then ?_)
  refine c_cond (b := decide (((places5.length : Int)) < 2)) hK rfl (fun hb10 => ?_) (fun hb10 => ?_)
  · have h := bif_t hb10 h
    refine wp_seq ?_
    refine wp_region_lit ?_
    refine s_bs (cs := []) (ps := []) te29 hM hK rfl rfl rfl rfl rfl rfl rfl (by decide) rfl (by exact (List.forall_mem_nil _)) fun g11 w12 e14 a hK hM hE hb13 => ?_
    have hf15 := ow_bx hb13 ([] : List Int) rfl rfl rfl
    refine s1 hK rfl rfl rfl rfl fun a hK => ?_
    obtain ⟨x16, hx17, h⟩ := obind_some h
    refine s_appF hx17 te29 rfl hM 0 hf15 (News.rd (Enc.rd_agr hp8 (hM.a00 (Enc.rd_lt hp8)))) rfl rfl hK rfl rfl rfl rfl rfl rfl rfl fun v18 F19 w20 a hK hE hM hf21 => ?_
    refine s1 hK rfl rfl rfl rfl fun a hK => ?_
    refine wpList_nil (nm_then ?_)
    refine wp_ret (rt_then ?_)
    have h := Option.some.inj h
    subst h
    exact finR1 hK rfl (RV.tmp hK rfl) ⟨_, F19, rfl, hM.ext, (Enc.ow_agr hf21 (hM.a 0 rfl)), (hM.fresh 0 rfl)⟩
  · have h := bif_f hb10 h
    refine wp_skip (nm_then ?_)
    refine wp_seq ?_
    refine wp_region_lit ?_
    refine s1 hK rfl rfl rfl rfl fun a hK => ?_
    refine s_val hK rfl rfl rfl (r_len (α := Int) hp8 hK Tryz.underlying29 rfl rfl) fun a hK => ?_
    iterate 2 (refine s1 hK rfl rfl rfl rfl fun a hK => ?_)
    refine wpList_nil (nm_then ?_)
    refine wp_seq ?_
    refine wp_region_lit ?_
    iterate 3 (refine s1 hK rfl rfl rfl rfl fun a hK => ?_)
    obtain ⟨x22, hx23, h⟩ := obind_some h
    refine s_slTo hp8 hx23 hK ts29 rfl rfl rfl rfl rfl rfl fun v24 a hK hf25 => ?_
    refine s1 hK rfl rfl rfl rfl fun a hK => ?_
    obtain ⟨x27, hx28, h⟩ := obind_some h
    refine s_call hK Tryz.call223 rfl rfl rfl rfl rfl (ih _ _ _ (Enc.rd_agr hp4 (hM.a00 (Enc.rd_lt hp4))) (Enc.rd_agr hf25 (hM.a00 (Enc.rd_lt hf25))) hx28) fun e29 w30 hR => ?_
    obtain ⟨v35, F31, rfl, hE, hf32, hfr33⟩ := hR
    refine ⟨_, rfl, fun a hK => ?_⟩
    have hM := hM.new hE F31 (fun b hb => ⟨hfr33 b hb, Enc.rd_lt (Enc.ow_rd hf32) b hb⟩) (Enc.ow_nd hf32)
    refine s1 hK rfl rfl rfl rfl fun a hK => ?_
    refine wpList_nil (nm_then ?_)
    refine wp_seq ?_
    refine wp_region_lit ?_
    iterate 3 (refine s1 hK rfl rfl rfl rfl fun a hK => ?_)
    obtain ⟨x36, hx37, h⟩ := obind_some h
    refine s_slFrom hp8 hx37 hK ts29 rfl rfl rfl rfl rfl rfl fun v38 a hK hf39 => ?_
    refine s1 hK rfl rfl rfl rfl fun a hK => ?_
    obtain ⟨x41, hx42, h⟩ := obind_some h
    refine s_call hK Tryz.call223 rfl rfl rfl rfl rfl (ih _ _ _ (Enc.rd_agr hp4 (hM.a00 (Enc.rd_lt hp4))) (Enc.rd_agr hf39 (hM.a00 (Enc.rd_lt hf39))) hx42) fun e43 w44 hR => ?_
    obtain ⟨v49, F45, rfl, hE, hf46, hfr47⟩ := hR
    refine ⟨_, rfl, fun a hK => ?_⟩
    have hM := hM.new hE F45 (fun b hb => ⟨hfr47 b hb, Enc.rd_lt (Enc.ow_rd hf46) b hb⟩) (Enc.ow_nd hf46)
    refine s1 hK rfl rfl rfl rfl fun a hK => ?_
    refine wpList_nil (nm_then ?_)
    refine wp_seq ?_
    refine wp_region_lit ?_
    refine s_bs (cs := []) (ps := []) te29 hM hK rfl rfl rfl rfl rfl rfl rfl (by decide) rfl (by exact (List.forall_mem_nil _)) fun g50 w51 e53 a hK hM hE hb52 => ?_
    have hf54 := ow_bx hb52 ([] : List Int) rfl rfl rfl
    refine s1 hK rfl rfl rfl rfl fun a hK => ?_
    refine wpList_nil (nm_then ?_)
    refine wp_seq ?_
    refine wp_region_lit ?_
    refine s1 hK rfl rfl rfl rfl fun a hK => ?_
    have hK := hK.keep [0, 2, 8, 9, 10, 11] rfl
    refine wpList_nil (nm_then ?_)
    refine wp_seq ?_
    refine wp_region_lit ?_
    refine s1 hK rfl rfl rfl rfl fun a hK => ?_
    refine wpList_nil (nm_then ?_)
    refine wp_seq ?_
    refine wp_block ?_
    refine c_loop (fun n a w => ∃ (out375 : List Int) (v376 : Value) (F377 : List Nat) (u378 : World) (i380 : Int) (j381 : Int), K 132 [(0, v2), (2, .bool (down9)), (8, v35), (9, v49), (10, v376), (11, .int .i64 (i380)), (12, .int .i64 (j381))] a ∧ St [] w0 w [(F31, w30), (F45, w44), (F377, u378)] ∧ ow u378 F377 [v376] out375 ∧ d_spec_l1Merge_L1 fu keys1 down9 x27 x41 n out375 i380 j381 = some r) ?_ ?_ fu _ _ ?_
    · rintro a w ⟨_, _, _, _, _, _, _, _, _, h⟩
      cases (show none = some _ from h)
    · rintro m382 a w374 ⟨out375, v376, F377, u378, i380, j381, hK, hM, hf379, h⟩
      rw [d_spec_l1Merge_L1_s] at h
      unfold d_spec_l1Merge_L1_B at h
      refine c_cut (fun a w => K 132 [(0, v2), (2, .bool (down9)), (8, v35), (9, v49), (10, v376), (11, .int .i64 (i380)), (12, .int .i64 (j381))] a ∧ St [] w0 w [(F31, w30), (F45, w44), (F377, u378)] ∧ d_spec_l1Merge_J1 fu (d_spec_l1Merge_L1 fu keys1 down9 x27 x41 m382) keys1 down9 x27 x41 out375 i380 j381 = some r) ?_ ?_
      · rintro a w385 ⟨hK, hM, h⟩
        unfold d_spec_l1Merge_J1 at h
        refine wp_block ?_
        refine wp_block ?_
        refine wp_seq ?_
        refine wp_region_lit ?_
        iterate 2 (refine s1 hK rfl rfl rfl rfl fun a hK => ?_)
        refine s_val hK rfl rfl rfl (r_len (α := Int) (Enc.ow_rd hf46) hK Tryz.underlying29 rfl rfl) fun a hK => ?_
        iterate 2 (refine s1 hK rfl rfl rfl rfl fun a hK => ?_)
        refine wpList_nil (nm_then ?_)
        refine c_cond (b := j381 == ((x41.length : Int))) hK rfl (fun hb386 => ?_) (fun hb386 => ?_)
        · have h := bif_t hb386 h
          refine wp_seq ?_
          refine wp_region_lit ?_
          iterate 3 (refine s1 hK rfl rfl rfl rfl fun a hK => ?_)
          obtain ⟨x387, hx388, h⟩ := obind_some h
          refine s_val hK rfl rfl rfl (r_ixa (Enc.ow_rd hf32) hx388 hK ts29 rfl rfl rfl) fun a hK => ?_
          refine s_val hK rfl rfl rfl (r_lde1 (Enc.ow_rd hf32) (hM.a 0 rfl) hx388 0 t13 hK rfl rfl rfl rfl) fun a hK => ?_
          refine s_bs (cs := [.int .i64 (x387)]) (ps := [(0, .tmp 63)]) te29 hM hK rfl rfl rfl rfl rfl rfl rfl (by decide) rfl (by exact (List.forall_mem_cons.2 ⟨rfl, (List.forall_mem_nil _)⟩)) fun g389 w390 e392 a hK hM hE hb391 => ?_
          have hf393 := ow_bx hb391 ([x387] : List Int) rfl rfl rfl
          obtain ⟨x394, hx395, h⟩ := obind_some h
          refine s_appF hx395 te29 rfl hM 3 hf379 (News.rd (Enc.rd_agr (Enc.ow_rd hf393) (hM.a 0 rfl))) rfl rfl hK rfl rfl rfl rfl rfl rfl rfl fun v396 F397 w398 a hK hE hM hf399 => ?_
          refine s1 hK rfl rfl rfl rfl fun a hK => ?_
          refine wpList_nil (nm_then ?_)
          refine wp_region_lit ?_
          iterate 3 (refine s1 hK rfl rfl rfl rfl fun a hK => ?_)
          refine wpList_nil (nm_block (nm_block (nm_then ?_)))
          exact ⟨x394, v396, F397, w398, w64 (i380 + 1), j381, hK.keep [0, 2, 8, 9, 10, 11, 12] rfl, hM.sel [1, 2, 3] rfl (by decide), hf399, h⟩
        · have h := bif_f hb386 h
          refine wp_seq ?_
          refine wp_region_lit ?_
          iterate 2 (refine s1 hK rfl rfl rfl rfl fun a hK => ?_)
          refine s_val hK rfl rfl rfl (r_len (α := Int) (Enc.ow_rd hf32) hK Tryz.underlying29 rfl rfl) fun a hK => ?_
          iterate 2 (refine s1 hK rfl rfl rfl rfl fun a hK => ?_)
          refine wpList_nil (nm_then ?_)
          refine c_cond (b := i380 == ((x27.length : Int))) hK rfl (fun hb400 => ?_) (fun hb400 => ?_)
          · have h := bif_t hb400 h
            refine wp_seq ?_
            refine wp_region_lit ?_
            iterate 3 (refine s1 hK rfl rfl rfl rfl fun a hK => ?_)
            obtain ⟨x401, hx402, h⟩ := obind_some h
            refine s_val hK rfl rfl rfl (r_ixa (Enc.ow_rd hf46) hx402 hK ts29 rfl rfl rfl) fun a hK => ?_
            refine s_val hK rfl rfl rfl (r_lde1 (Enc.ow_rd hf46) (hM.a 1 rfl) hx402 0 t13 hK rfl rfl rfl rfl) fun a hK => ?_
            refine s_bs (cs := [.int .i64 (x401)]) (ps := [(0, .tmp 77)]) te29 hM hK rfl rfl rfl rfl rfl rfl rfl (by decide) rfl (by exact (List.forall_mem_cons.2 ⟨rfl, (List.forall_mem_nil _)⟩)) fun g403 w404 e406 a hK hM hE hb405 => ?_
            have hf407 := ow_bx hb405 ([x401] : List Int) rfl rfl rfl
            obtain ⟨x408, hx409, h⟩ := obind_some h
            refine s_appF hx409 te29 rfl hM 3 hf379 (News.rd (Enc.rd_agr (Enc.ow_rd hf407) (hM.a 0 rfl))) rfl rfl hK rfl rfl rfl rfl rfl rfl rfl fun v410 F411 w412 a hK hE hM hf413 => ?_
            refine s1 hK rfl rfl rfl rfl fun a hK => ?_
            refine wpList_nil (nm_then ?_)
            refine wp_region_lit ?_
            iterate 3 (refine s1 hK rfl rfl rfl rfl fun a hK => ?_)
            refine wpList_nil (nm_block (nm_block (nm_then ?_)))
            exact ⟨x408, v410, F411, w412, i380, w64 (j381 + 1), hK.keep [0, 2, 8, 9, 10, 11, 12] rfl, hM.sel [1, 2, 3] rfl (by decide), hf413, h⟩
          · have h := bif_f hb400 h
            refine wp_seq ?_
            refine d_go [] mixo hM rfl fun w414 hMd => ?_
            have hM := hMd
            have hS := Ext.refl ([] : List Nat) w414
            refine d_pure hK 0 rfl (by kernel_rfl) (by kernel_rfl) (by kernel_rfl) rfl rfl rfl hS (fun _ _ _ h => h) rfl fun a hK => ?_
            refine d_pure hK 1 rfl (by kernel_rfl) (by kernel_rfl) (by kernel_rfl) rfl rfl rfl hS (fun _ _ _ h => h) rfl fun a hK => ?_
            refine d_pure hK 2 rfl (by kernel_rfl) (by kernel_rfl) (by kernel_rfl) rfl rfl rfl hS (fun _ _ _ h => h) rfl fun a hK => ?_
            obtain ⟨x415, hx416, h⟩ := obind_some h
            refine d_take hK 3 rfl (by kernel_rfl) (by kernel_rfl) (by kernel_rfl) rfl rfl rfl hS (fun _ _ _ h => h) (fun w hS => r_ixa (Enc.ow_rd hf46) hx416 hK ts29 rfl rfl rfl) fun a hK => ?_
            refine d_take hK 4 rfl (by kernel_rfl) (by kernel_rfl) (by kernel_rfl) rfl rfl rfl hS (fun _ _ _ h => h) (fun w hS => r_lde1 (Enc.ow_rd hf46) ((hMd.step hS).a 1 rfl) hx416 0 t13 hK rfl rfl rfl rfl) fun a hK => ?_
            obtain ⟨x417, hx418, h⟩ := obind_some h
            refine d_take hK 5 rfl (by kernel_rfl) (by kernel_rfl) (by kernel_rfl) rfl rfl rfl hS (fun _ _ _ h => h) (fun w hS => r_ixa hp4 hx418 hK ts29 rfl rfl rfl) fun a hK => ?_
            refine d_take hK 6 rfl (by kernel_rfl) (by kernel_rfl) (by kernel_rfl) rfl rfl rfl hS (fun _ _ _ h => h) (fun w hS => r_lde1 hp4 ((hMd.step hS).a00 (Enc.rd_lt hp4)) hx418 0 t13 hK rfl rfl rfl rfl) fun a hK => ?_
            refine d_pure hK 7 rfl (by kernel_rfl) (by kernel_rfl) (by kernel_rfl) rfl rfl rfl hS (fun _ _ _ h => h) rfl fun a hK => ?_
            refine d_pure hK 8 rfl (by kernel_rfl) (by kernel_rfl) (by kernel_rfl) rfl rfl rfl hS (fun _ _ _ h => h) rfl fun a hK => ?_
            refine d_pure hK 9 rfl (by kernel_rfl) (by kernel_rfl) (by kernel_rfl) rfl rfl rfl hS (fun _ _ _ h => h) rfl fun a hK => ?_
            obtain ⟨x419, hx420, h⟩ := obind_some h
            refine d_take hK 10 rfl (by kernel_rfl) (by kernel_rfl) (by kernel_rfl) rfl rfl rfl hS (fun _ _ _ h => h) (fun w hS => r_ixa (Enc.ow_rd hf32) hx420 hK ts29 rfl rfl rfl) fun a hK => ?_
            refine d_take hK 11 rfl (by kernel_rfl) (by kernel_rfl) (by kernel_rfl) rfl rfl rfl hS (fun _ _ _ h => h) (fun w hS => r_lde1 (Enc.ow_rd hf32) ((hMd.step hS).a 0 rfl) hx420 0 t13 hK rfl rfl rfl rfl) fun a hK => ?_
            obtain ⟨x421, hx422, h⟩ := obind_some h
            refine d_take hK 12 rfl (by kernel_rfl) (by kernel_rfl) (by kernel_rfl) rfl rfl rfl hS (fun _ _ _ h => h) (fun w hS => r_ixa hp4 hx422 hK ts29 rfl rfl rfl) fun a hK => ?_
            refine d_take hK 13 rfl (by kernel_rfl) (by kernel_rfl) (by kernel_rfl) rfl rfl rfl hS (fun _ _ _ h => h) (fun w hS => r_lde1 hp4 ((hMd.step hS).a00 (Enc.rd_lt hp4)) hx422 0 t13 hK rfl rfl rfl rfl) fun a hK => ?_
            refine d_pure hK 14 rfl (by kernel_rfl) (by kernel_rfl) (by kernel_rfl) rfl rfl rfl hS (fun _ _ _ h => h) rfl fun a hK => ?_
            refine d_pure hK 15 rfl (by kernel_rfl) (by kernel_rfl) (by kernel_rfl) rfl rfl rfl hS (fun _ _ _ h => h) rfl fun a hK => ?_
            refine bsplit (decide (x417 < x421)) (fun hb423 => ?_) (fun hb423 => ?_)
            · have h := bif_t hb423 h
              have hK := hK.re (d := 98) rfl (congrArg Value.bool hb423)
              refine d_pure hK 16 rfl (by kernel_rfl) (by kernel_rfl) (by kernel_rfl) rfl rfl rfl hS (fun _ _ _ h => h) rfl fun a hK => ?_
              refine d_pure hK 17 rfl (by kernel_rfl) (by kernel_rfl) (by kernel_rfl) rfl rfl rfl hS (fun _ _ _ h => h) rfl fun a hK => ?_
              refine d_pure hK 18 rfl (by kernel_rfl) (by kernel_rfl) (by kernel_rfl) rfl rfl rfl hS (fun _ _ _ h => h) rfl fun a hK => ?_
              refine d_pure hK 19 rfl (by kernel_rfl) (by kernel_rfl) (by kernel_rfl) rfl rfl rfl hS (fun _ _ _ h => h) rfl fun a hK => ?_
              refine bsplit (!down9) (fun hb424 => ?_) (fun hb424 => ?_)
              · have h := bif_t hb424 h
                have hK := hK.re (d := 102) rfl (congrArg Value.bool hb424)
                refine d_skip hK 20 rfl (by kernel_rfl) (by kernel_rfl) (by kernel_rfl) rfl rfl rfl hS (fun _ _ _ h => h) fun a hK => ?_
                refine d_skip hK 21 rfl (by kernel_rfl) (by kernel_rfl) (by kernel_rfl) rfl rfl rfl hS (fun _ _ _ h => h) fun a hK => ?_
                refine d_skip hK 22 rfl (by kernel_rfl) (by kernel_rfl) (by kernel_rfl) rfl rfl rfl hS (fun _ _ _ h => h) fun a hK => ?_
                refine d_skip hK 23 rfl (by kernel_rfl) (by kernel_rfl) (by kernel_rfl) rfl rfl rfl hS (fun _ _ _ h => h) fun a hK => ?_
                refine d_skip hK 24 rfl (by kernel_rfl) (by kernel_rfl) (by kernel_rfl) rfl rfl rfl hS (fun _ _ _ h => h) fun a hK => ?_
                refine d_skip hK 25 rfl (by kernel_rfl) (by kernel_rfl) (by kernel_rfl) rfl rfl rfl hS (fun _ _ _ h => h) fun a hK => ?_
                refine d_skip hK 26 rfl (by kernel_rfl) (by kernel_rfl) (by kernel_rfl) rfl rfl rfl hS (fun _ _ _ h => h) fun a hK => ?_
                refine d_skip hK 27 rfl (by kernel_rfl) (by kernel_rfl) (by kernel_rfl) rfl rfl rfl hS (fun _ _ _ h => h) fun a hK => ?_
                refine d_skip hK 28 rfl (by kernel_rfl) (by kernel_rfl) (by kernel_rfl) rfl rfl rfl hS (fun _ _ _ h => h) fun a hK => ?_
                refine d_skip hK 29 rfl (by kernel_rfl) (by kernel_rfl) (by kernel_rfl) rfl rfl rfl hS (fun _ _ _ h => h) fun a hK => ?_
                refine d_skip hK 30 rfl (by kernel_rfl) (by kernel_rfl) (by kernel_rfl) rfl rfl rfl hS (fun _ _ _ h => h) fun a hK => ?_
                refine d_skip hK 31 rfl (by kernel_rfl) (by kernel_rfl) (by kernel_rfl) rfl rfl rfl hS (fun _ _ _ h => h) fun a hK => ?_
                refine d_skip hK 32 rfl (by kernel_rfl) (by kernel_rfl) (by kernel_rfl) rfl rfl rfl hS (fun _ _ _ h => h) fun a hK => ?_
                refine d_skip hK 33 rfl (by kernel_rfl) (by kernel_rfl) (by kernel_rfl) rfl rfl rfl hS (fun _ _ _ h => h) fun a hK => ?_
                refine d_skip hK 34 rfl (by kernel_rfl) (by kernel_rfl) (by kernel_rfl) rfl rfl rfl hS (fun _ _ _ h => h) fun a hK => ?_
                refine d_skip hK 35 rfl (by kernel_rfl) (by kernel_rfl) (by kernel_rfl) rfl rfl rfl hS (fun _ _ _ h => h) fun a hK => ?_
                refine d_skip hK 36 rfl (by kernel_rfl) (by kernel_rfl) (by kernel_rfl) rfl rfl rfl hS (fun _ _ _ h => h) fun a hK => ?_
                refine d_skip hK 37 rfl (by kernel_rfl) (by kernel_rfl) (by kernel_rfl) rfl rfl rfl hS (fun _ _ _ h => h) fun a hK => ?_
                refine d_pure hK 38 rfl (by kernel_rfl) (by kernel_rfl) (by kernel_rfl) rfl rfl rfl hS (fun _ _ _ h => h) rfl fun a hK => ?_
                refine d_pure hK 39 rfl (by kernel_rfl) (by kernel_rfl) (by kernel_rfl) rfl rfl rfl hS (fun _ _ _ h => h) rfl fun a hK => ?_
                refine d_done (by kernel_rfl) ?_
                have hK := hK.keep [0, 2, 8, 9, 10, 11, 12, 82] rfl
                refine (nm_then ?_)
                refine wp_cond_true (hK.ev rfl) ?_
                refine wp_seq ?_
                refine wp_region_lit ?_
                iterate 3 (refine s1 hK rfl rfl rfl rfl fun a hK => ?_)
                obtain ⟨x425, hx426, h⟩ := obind_some h
                refine s_val hK rfl rfl rfl (r_ixa (Enc.ow_rd hf46) hx416 hK ts29 rfl rfl rfl) fun a hK => ?_
                refine s_val hK rfl rfl rfl (r_lde1 (Enc.ow_rd hf46) (hM.a 1 rfl) hx416 0 t13 hK rfl rfl rfl rfl) fun a hK => ?_
                refine s_bs (cs := [.int .i64 (x415)]) (ps := [(0, .tmp 126)]) te29 hM hK rfl rfl rfl rfl rfl rfl rfl (by decide) rfl (by exact (List.forall_mem_cons.2 ⟨rfl, (List.forall_mem_nil _)⟩)) fun g427 w428 e430 a hK hM hE hb429 => ?_
                have hf431 := ow_bx hb429 ([x415] : List Int) rfl rfl rfl
                obtain ⟨x432, hx433, h⟩ := obind_some h
                refine s_appF hx433 te29 rfl hM 3 hf379 (News.rd (Enc.rd_agr (Enc.ow_rd hf431) (hM.a 0 rfl))) rfl rfl hK rfl rfl rfl rfl rfl rfl rfl fun v434 F435 w436 a hK hE hM hf437 => ?_
                refine s1 hK rfl rfl rfl rfl fun a hK => ?_
                refine wpList_nil (nm_then ?_)
                refine wp_region_lit ?_
                iterate 3 (refine s1 hK rfl rfl rfl rfl fun a hK => ?_)
                refine wpList_nil (nm_block (nm_block (nm_then ?_)))
                exact ⟨x432, v434, F435, w436, i380, w64 (j381 + 1), hK.keep [0, 2, 8, 9, 10, 11, 12] rfl, hM.sel [1, 2, 3] rfl (by decide), hf437, h⟩
              · have h := bif_f hb424 h
                have hK := hK.re (d := 102) rfl (congrArg Value.bool hb424)
                refine d_pure hK 20 rfl (by kernel_rfl) (by kernel_rfl) (by kernel_rfl) rfl rfl rfl hS (fun _ _ _ h => h) rfl fun a hK => ?_
                refine d_pure hK 21 rfl (by kernel_rfl) (by kernel_rfl) (by kernel_rfl) rfl rfl rfl hS (fun _ _ _ h => h) rfl fun a hK => ?_
                refine d_pure hK 22 rfl (by kernel_rfl) (by kernel_rfl) (by kernel_rfl) rfl rfl rfl hS (fun _ _ _ h => h) rfl fun a hK => ?_
                obtain ⟨x438, hx439, h⟩ := obind_some h
                refine d_take hK 23 rfl (by kernel_rfl) (by kernel_rfl) (by kernel_rfl) rfl rfl rfl hS (fun _ _ _ h => h) (fun w hS => r_ixa (Enc.ow_rd hf46) hx416 hK ts29 rfl rfl rfl) fun a hK => ?_
                refine d_take hK 24 rfl (by kernel_rfl) (by kernel_rfl) (by kernel_rfl) rfl rfl rfl hS (fun _ _ _ h => h) (fun w hS => r_lde1 (Enc.ow_rd hf46) ((hMd.step hS).a 1 rfl) hx416 0 t13 hK rfl rfl rfl rfl) fun a hK => ?_
                obtain ⟨x440, hx441, h⟩ := obind_some h
                refine d_take hK 25 rfl (by kernel_rfl) (by kernel_rfl) (by kernel_rfl) rfl rfl rfl hS (fun _ _ _ h => h) (fun w hS => r_ixa hp4 hx418 hK ts29 rfl rfl rfl) fun a hK => ?_
                refine d_take hK 26 rfl (by kernel_rfl) (by kernel_rfl) (by kernel_rfl) rfl rfl rfl hS (fun _ _ _ h => h) (fun w hS => r_lde1 hp4 ((hMd.step hS).a00 (Enc.rd_lt hp4)) hx418 0 t13 hK rfl rfl rfl rfl) fun a hK => ?_
                refine d_pure hK 27 rfl (by kernel_rfl) (by kernel_rfl) (by kernel_rfl) rfl rfl rfl hS (fun _ _ _ h => h) rfl fun a hK => ?_
                refine d_pure hK 28 rfl (by kernel_rfl) (by kernel_rfl) (by kernel_rfl) rfl rfl rfl hS (fun _ _ _ h => h) rfl fun a hK => ?_
                refine d_pure hK 29 rfl (by kernel_rfl) (by kernel_rfl) (by kernel_rfl) rfl rfl rfl hS (fun _ _ _ h => h) rfl fun a hK => ?_
                obtain ⟨x442, hx443, h⟩ := obind_some h
                refine d_take hK 30 rfl (by kernel_rfl) (by kernel_rfl) (by kernel_rfl) rfl rfl rfl hS (fun _ _ _ h => h) (fun w hS => r_ixa (Enc.ow_rd hf32) hx420 hK ts29 rfl rfl rfl) fun a hK => ?_
                refine d_take hK 31 rfl (by kernel_rfl) (by kernel_rfl) (by kernel_rfl) rfl rfl rfl hS (fun _ _ _ h => h) (fun w hS => r_lde1 (Enc.ow_rd hf32) ((hMd.step hS).a 0 rfl) hx420 0 t13 hK rfl rfl rfl rfl) fun a hK => ?_
                obtain ⟨x444, hx445, h⟩ := obind_some h
                refine d_take hK 32 rfl (by kernel_rfl) (by kernel_rfl) (by kernel_rfl) rfl rfl rfl hS (fun _ _ _ h => h) (fun w hS => r_ixa hp4 hx422 hK ts29 rfl rfl rfl) fun a hK => ?_
                refine d_take hK 33 rfl (by kernel_rfl) (by kernel_rfl) (by kernel_rfl) rfl rfl rfl hS (fun _ _ _ h => h) (fun w hS => r_lde1 hp4 ((hMd.step hS).a00 (Enc.rd_lt hp4)) hx422 0 t13 hK rfl rfl rfl rfl) fun a hK => ?_
                refine d_pure hK 34 rfl (by kernel_rfl) (by kernel_rfl) (by kernel_rfl) rfl rfl rfl hS (fun _ _ _ h => h) rfl fun a hK => ?_
                refine d_pure hK 35 rfl (by kernel_rfl) (by kernel_rfl) (by kernel_rfl) rfl rfl rfl hS (fun _ _ _ h => h) rfl fun a hK => ?_
                refine bsplit (decide (x417 > x421)) (fun hb446 => ?_) (fun hb446 => ?_)
                · have h := bif_t hb446 h
                  have hK := hK.re (d := 118) rfl (congrArg Value.bool hb446)
                  refine d_pure hK 36 rfl (by kernel_rfl) (by kernel_rfl) (by kernel_rfl) rfl rfl rfl hS (fun _ _ _ h => h) rfl fun a hK => ?_
                  refine d_pure hK 37 rfl (by kernel_rfl) (by kernel_rfl) (by kernel_rfl) rfl rfl rfl hS (fun _ _ _ h => h) rfl fun a hK => ?_
                  refine d_pure hK 38 rfl (by kernel_rfl) (by kernel_rfl) (by kernel_rfl) rfl rfl rfl hS (fun _ _ _ h => h) rfl fun a hK => ?_
                  refine d_pure hK 39 rfl (by kernel_rfl) (by kernel_rfl) (by kernel_rfl) rfl rfl rfl hS (fun _ _ _ h => h) rfl fun a hK => ?_
                  refine d_done (by kernel_rfl) ?_
                  have hK := hK.keep [0, 2, 8, 9, 10, 11, 12, 82] rfl
                  refine (nm_then ?_)
                  refine c_cond (b := down9) hK rfl (fun hb447 => ?_) (fun hb447 => ?_)
                  · have h := bif_t hb447 h
                    refine wp_seq ?_
                    refine wp_region_lit ?_
                    iterate 3 (refine s1 hK rfl rfl rfl rfl fun a hK => ?_)
                    obtain ⟨x448, hx449, h⟩ := obind_some h
                    refine s_val hK rfl rfl rfl (r_ixa (Enc.ow_rd hf46) hx416 hK ts29 rfl rfl rfl) fun a hK => ?_
                    refine s_val hK rfl rfl rfl (r_lde1 (Enc.ow_rd hf46) (hM.a 1 rfl) hx416 0 t13 hK rfl rfl rfl rfl) fun a hK => ?_
                    refine s_bs (cs := [.int .i64 (x415)]) (ps := [(0, .tmp 126)]) te29 hM hK rfl rfl rfl rfl rfl rfl rfl (by decide) rfl (by exact (List.forall_mem_cons.2 ⟨rfl, (List.forall_mem_nil _)⟩)) fun g450 w451 e453 a hK hM hE hb452 => ?_
                    have hf454 := ow_bx hb452 ([x415] : List Int) rfl rfl rfl
                    obtain ⟨x455, hx456, h⟩ := obind_some h
                    refine s_appF hx456 te29 rfl hM 3 hf379 (News.rd (Enc.rd_agr (Enc.ow_rd hf454) (hM.a 0 rfl))) rfl rfl hK rfl rfl rfl rfl rfl rfl rfl fun v457 F458 w459 a hK hE hM hf460 => ?_
                    refine s1 hK rfl rfl rfl rfl fun a hK => ?_
                    refine wpList_nil (nm_then ?_)
                    refine wp_region_lit ?_
                    iterate 3 (refine s1 hK rfl rfl rfl rfl fun a hK => ?_)
                    refine wpList_nil (nm_block (nm_block (nm_then ?_)))
                    exact ⟨x455, v457, F458, w459, i380, w64 (j381 + 1), hK.keep [0, 2, 8, 9, 10, 11, 12] rfl, hM.sel [1, 2, 3] rfl (by decide), hf460, h⟩
                  · have h := bif_f hb447 h
                    refine wp_seq ?_
                    refine wp_region_lit ?_
                    iterate 3 (refine s1 hK rfl rfl rfl rfl fun a hK => ?_)
                    obtain ⟨x461, hx462, h⟩ := obind_some h
                    refine s_val hK rfl rfl rfl (r_ixa (Enc.ow_rd hf32) hx420 hK ts29 rfl rfl rfl) fun a hK => ?_
                    refine s_val hK rfl rfl rfl (r_lde1 (Enc.ow_rd hf32) (hM.a 0 rfl) hx420 0 t13 hK rfl rfl rfl rfl) fun a hK => ?_
                    refine s_bs (cs := [.int .i64 (x419)]) (ps := [(0, .tmp 49)]) te29 hM hK rfl rfl rfl rfl rfl rfl rfl (by decide) rfl (by exact (List.forall_mem_cons.2 ⟨rfl, (List.forall_mem_nil _)⟩)) fun g463 w464 e466 a hK hM hE hb465 => ?_
                    have hf467 := ow_bx hb465 ([x419] : List Int) rfl rfl rfl
                    obtain ⟨x468, hx469, h⟩ := obind_some h
                    refine s_appF hx469 te29 rfl hM 3 hf379 (News.rd (Enc.rd_agr (Enc.ow_rd hf467) (hM.a 0 rfl))) rfl rfl hK rfl rfl rfl rfl rfl rfl rfl fun v470 F471 w472 a hK hE hM hf473 => ?_
                    refine s1 hK rfl rfl rfl rfl fun a hK => ?_
                    refine wpList_nil (nm_then ?_)
                    refine wp_region_lit ?_
                    iterate 3 (refine s1 hK rfl rfl rfl rfl fun a hK => ?_)
                    refine wpList_nil (nm_block (nm_block (nm_then ?_)))
                    exact ⟨x468, v470, F471, w472, w64 (i380 + 1), j381, hK.keep [0, 2, 8, 9, 10, 11, 12] rfl, hM.sel [1, 2, 3] rfl (by decide), hf473, h⟩
                · have h := bif_f hb446 h
                  have hK := hK.re (d := 118) rfl (congrArg Value.bool hb446)
                  refine d_skip hK 36 rfl (by kernel_rfl) (by kernel_rfl) (by kernel_rfl) rfl rfl rfl hS (fun _ _ _ h => h) fun a hK => ?_
                  refine d_pure hK 37 rfl (by kernel_rfl) (by kernel_rfl) (by kernel_rfl) rfl rfl rfl hS (fun _ _ _ h => h) rfl fun a hK => ?_
                  refine d_pure hK 38 rfl (by kernel_rfl) (by kernel_rfl) (by kernel_rfl) rfl rfl rfl hS (fun _ _ _ h => h) rfl fun a hK => ?_
                  refine d_pure hK 39 rfl (by kernel_rfl) (by kernel_rfl) (by kernel_rfl) rfl rfl rfl hS (fun _ _ _ h => h) rfl fun a hK => ?_
                  refine d_done (by kernel_rfl) ?_
                  have hK := hK.keep [0, 2, 8, 9, 10, 11, 12, 82] rfl
                  refine (nm_then ?_)
                  refine wp_cond_false (hK.ev rfl) ?_
                  refine wp_seq ?_
                  refine wp_region_lit ?_
                  iterate 3 (refine s1 hK rfl rfl rfl rfl fun a hK => ?_)
                  obtain ⟨x474, hx475, h⟩ := obind_some h
                  refine s_val hK rfl rfl rfl (r_ixa (Enc.ow_rd hf32) hx420 hK ts29 rfl rfl rfl) fun a hK => ?_
                  refine s_val hK rfl rfl rfl (r_lde1 (Enc.ow_rd hf32) (hM.a 0 rfl) hx420 0 t13 hK rfl rfl rfl rfl) fun a hK => ?_
                  refine s_bs (cs := [.int .i64 (x419)]) (ps := [(0, .tmp 49)]) te29 hM hK rfl rfl rfl rfl rfl rfl rfl (by decide) rfl (by exact (List.forall_mem_cons.2 ⟨rfl, (List.forall_mem_nil _)⟩)) fun g476 w477 e479 a hK hM hE hb478 => ?_
                  have hf480 := ow_bx hb478 ([x419] : List Int) rfl rfl rfl
                  obtain ⟨x481, hx482, h⟩ := obind_some h
                  refine s_appF hx482 te29 rfl hM 3 hf379 (News.rd (Enc.rd_agr (Enc.ow_rd hf480) (hM.a 0 rfl))) rfl rfl hK rfl rfl rfl rfl rfl rfl rfl fun v483 F484 w485 a hK hE hM hf486 => ?_
                  refine s1 hK rfl rfl rfl rfl fun a hK => ?_
                  refine wpList_nil (nm_then ?_)
                  refine wp_region_lit ?_
                  iterate 3 (refine s1 hK rfl rfl rfl rfl fun a hK => ?_)
                  refine wpList_nil (nm_block (nm_block (nm_then ?_)))
                  exact ⟨x481, v483, F484, w485, w64 (i380 + 1), j381, hK.keep [0, 2, 8, 9, 10, 11, 12] rfl, hM.sel [1, 2, 3] rfl (by decide), hf486, h⟩
            · have h := bif_f hb423 h
              have hK := hK.re (d := 98) rfl (congrArg Value.bool hb423)
              refine d_skip hK 16 rfl (by kernel_rfl) (by kernel_rfl) (by kernel_rfl) rfl rfl rfl hS (fun _ _ _ h => h) fun a hK => ?_
              refine d_skip hK 17 rfl (by kernel_rfl) (by kernel_rfl) (by kernel_rfl) rfl rfl rfl hS (fun _ _ _ h => h) fun a hK => ?_
              refine d_pure hK 18 rfl (by kernel_rfl) (by kernel_rfl) (by kernel_rfl) rfl rfl rfl hS (fun _ _ _ h => h) rfl fun a hK => ?_
              refine d_pure hK 19 rfl (by kernel_rfl) (by kernel_rfl) (by kernel_rfl) rfl rfl rfl hS (fun _ _ _ h => h) rfl fun a hK => ?_
              refine d_pure hK 20 rfl (by kernel_rfl) (by kernel_rfl) (by kernel_rfl) rfl rfl rfl hS (fun _ _ _ h => h) rfl fun a hK => ?_
              refine d_pure hK 21 rfl (by kernel_rfl) (by kernel_rfl) (by kernel_rfl) rfl rfl rfl hS (fun _ _ _ h => h) rfl fun a hK => ?_
              refine d_pure hK 22 rfl (by kernel_rfl) (by kernel_rfl) (by kernel_rfl) rfl rfl rfl hS (fun _ _ _ h => h) rfl fun a hK => ?_
              obtain ⟨x487, hx488, h⟩ := obind_some h
              refine d_take hK 23 rfl (by kernel_rfl) (by kernel_rfl) (by kernel_rfl) rfl rfl rfl hS (fun _ _ _ h => h) (fun w hS => r_ixa (Enc.ow_rd hf46) hx416 hK ts29 rfl rfl rfl) fun a hK => ?_
              refine d_take hK 24 rfl (by kernel_rfl) (by kernel_rfl) (by kernel_rfl) rfl rfl rfl hS (fun _ _ _ h => h) (fun w hS => r_lde1 (Enc.ow_rd hf46) ((hMd.step hS).a 1 rfl) hx416 0 t13 hK rfl rfl rfl rfl) fun a hK => ?_
              obtain ⟨x489, hx490, h⟩ := obind_some h
              refine d_take hK 25 rfl (by kernel_rfl) (by kernel_rfl) (by kernel_rfl) rfl rfl rfl hS (fun _ _ _ h => h) (fun w hS => r_ixa hp4 hx418 hK ts29 rfl rfl rfl) fun a hK => ?_
              refine d_take hK 26 rfl (by kernel_rfl) (by kernel_rfl) (by kernel_rfl) rfl rfl rfl hS (fun _ _ _ h => h) (fun w hS => r_lde1 hp4 ((hMd.step hS).a00 (Enc.rd_lt hp4)) hx418 0 t13 hK rfl rfl rfl rfl) fun a hK => ?_
              refine d_pure hK 27 rfl (by kernel_rfl) (by kernel_rfl) (by kernel_rfl) rfl rfl rfl hS (fun _ _ _ h => h) rfl fun a hK => ?_
              refine d_pure hK 28 rfl (by kernel_rfl) (by kernel_rfl) (by kernel_rfl) rfl rfl rfl hS (fun _ _ _ h => h) rfl fun a hK => ?_
              refine d_pure hK 29 rfl (by kernel_rfl) (by kernel_rfl) (by kernel_rfl) rfl rfl rfl hS (fun _ _ _ h => h) rfl fun a hK => ?_
              obtain ⟨x491, hx492, h⟩ := obind_some h
              refine d_take hK 30 rfl (by kernel_rfl) (by kernel_rfl) (by kernel_rfl) rfl rfl rfl hS (fun _ _ _ h => h) (fun w hS => r_ixa (Enc.ow_rd hf32) hx420 hK ts29 rfl rfl rfl) fun a hK => ?_
              refine d_take hK 31 rfl (by kernel_rfl) (by kernel_rfl) (by kernel_rfl) rfl rfl rfl hS (fun _ _ _ h => h) (fun w hS => r_lde1 (Enc.ow_rd hf32) ((hMd.step hS).a 0 rfl) hx420 0 t13 hK rfl rfl rfl rfl) fun a hK => ?_
              obtain ⟨x493, hx494, h⟩ := obind_some h
              refine d_take hK 32 rfl (by kernel_rfl) (by kernel_rfl) (by kernel_rfl) rfl rfl rfl hS (fun _ _ _ h => h) (fun w hS => r_ixa hp4 hx422 hK ts29 rfl rfl rfl) fun a hK => ?_
              refine d_take hK 33 rfl (by kernel_rfl) (by kernel_rfl) (by kernel_rfl) rfl rfl rfl hS (fun _ _ _ h => h) (fun w hS => r_lde1 hp4 ((hMd.step hS).a00 (Enc.rd_lt hp4)) hx422 0 t13 hK rfl rfl rfl rfl) fun a hK => ?_
              refine d_pure hK 34 rfl (by kernel_rfl) (by kernel_rfl) (by kernel_rfl) rfl rfl rfl hS (fun _ _ _ h => h) rfl fun a hK => ?_
              refine d_pure hK 35 rfl (by kernel_rfl) (by kernel_rfl) (by kernel_rfl) rfl rfl rfl hS (fun _ _ _ h => h) rfl fun a hK => ?_
              refine bsplit (decide (x417 > x421)) (fun hb495 => ?_) (fun hb495 => ?_)
              · have h := bif_t hb495 h
                have hK := hK.re (d := 118) rfl (congrArg Value.bool hb495)
                refine d_pure hK 36 rfl (by kernel_rfl) (by kernel_rfl) (by kernel_rfl) rfl rfl rfl hS (fun _ _ _ h => h) rfl fun a hK => ?_
                refine d_pure hK 37 rfl (by kernel_rfl) (by kernel_rfl) (by kernel_rfl) rfl rfl rfl hS (fun _ _ _ h => h) rfl fun a hK => ?_
                refine d_pure hK 38 rfl (by kernel_rfl) (by kernel_rfl) (by kernel_rfl) rfl rfl rfl hS (fun _ _ _ h => h) rfl fun a hK => ?_
                refine d_pure hK 39 rfl (by kernel_rfl) (by kernel_rfl) (by kernel_rfl) rfl rfl rfl hS (fun _ _ _ h => h) rfl fun a hK => ?_
                refine d_done (by kernel_rfl) ?_
                have hK := hK.keep [0, 2, 8, 9, 10, 11, 12, 82] rfl
                refine (nm_then ?_)
                refine c_cond (b := down9) hK rfl (fun hb496 => ?_) (fun hb496 => ?_)
                · have h := bif_t hb496 h
                  refine wp_seq ?_
                  refine wp_region_lit ?_
                  iterate 3 (refine s1 hK rfl rfl rfl rfl fun a hK => ?_)
                  obtain ⟨x497, hx498, h⟩ := obind_some h
                  refine s_val hK rfl rfl rfl (r_ixa (Enc.ow_rd hf46) hx416 hK ts29 rfl rfl rfl) fun a hK => ?_
                  refine s_val hK rfl rfl rfl (r_lde1 (Enc.ow_rd hf46) (hM.a 1 rfl) hx416 0 t13 hK rfl rfl rfl rfl) fun a hK => ?_
                  refine s_bs (cs := [.int .i64 (x415)]) (ps := [(0, .tmp 126)]) te29 hM hK rfl rfl rfl rfl rfl rfl rfl (by decide) rfl (by exact (List.forall_mem_cons.2 ⟨rfl, (List.forall_mem_nil _)⟩)) fun g499 w500 e502 a hK hM hE hb501 => ?_
                  have hf503 := ow_bx hb501 ([x415] : List Int) rfl rfl rfl
                  obtain ⟨x504, hx505, h⟩ := obind_some h
                  refine s_appF hx505 te29 rfl hM 3 hf379 (News.rd (Enc.rd_agr (Enc.ow_rd hf503) (hM.a 0 rfl))) rfl rfl hK rfl rfl rfl rfl rfl rfl rfl fun v506 F507 w508 a hK hE hM hf509 => ?_
                  refine s1 hK rfl rfl rfl rfl fun a hK => ?_
                  refine wpList_nil (nm_then ?_)
                  refine wp_region_lit ?_
                  iterate 3 (refine s1 hK rfl rfl rfl rfl fun a hK => ?_)
                  refine wpList_nil (nm_block (nm_block (nm_then ?_)))
                  exact ⟨x504, v506, F507, w508, i380, w64 (j381 + 1), hK.keep [0, 2, 8, 9, 10, 11, 12] rfl, hM.sel [1, 2, 3] rfl (by decide), hf509, h⟩
                · have h := bif_f hb496 h
                  refine wp_seq ?_
                  refine wp_region_lit ?_
                  iterate 3 (refine s1 hK rfl rfl rfl rfl fun a hK => ?_)
                  obtain ⟨x510, hx511, h⟩ := obind_some h
                  refine s_val hK rfl rfl rfl (r_ixa (Enc.ow_rd hf32) hx420 hK ts29 rfl rfl rfl) fun a hK => ?_
                  refine s_val hK rfl rfl rfl (r_lde1 (Enc.ow_rd hf32) (hM.a 0 rfl) hx420 0 t13 hK rfl rfl rfl rfl) fun a hK => ?_
                  refine s_bs (cs := [.int .i64 (x419)]) (ps := [(0, .tmp 49)]) te29 hM hK rfl rfl rfl rfl rfl rfl rfl (by decide) rfl (by exact (List.forall_mem_cons.2 ⟨rfl, (List.forall_mem_nil _)⟩)) fun g512 w513 e515 a hK hM hE hb514 => ?_
                  have hf516 := ow_bx hb514 ([x419] : List Int) rfl rfl rfl
                  obtain ⟨x517, hx518, h⟩ := obind_some h
                  refine s_appF hx518 te29 rfl hM 3 hf379 (News.rd (Enc.rd_agr (Enc.ow_rd hf516) (hM.a 0 rfl))) rfl rfl hK rfl rfl rfl rfl rfl rfl rfl fun v519 F520 w521 a hK hE hM hf522 => ?_
                  refine s1 hK rfl rfl rfl rfl fun a hK => ?_
                  refine wpList_nil (nm_then ?_)
                  refine wp_region_lit ?_
                  iterate 3 (refine s1 hK rfl rfl rfl rfl fun a hK => ?_)
                  refine wpList_nil (nm_block (nm_block (nm_then ?_)))
                  exact ⟨x517, v519, F520, w521, w64 (i380 + 1), j381, hK.keep [0, 2, 8, 9, 10, 11, 12] rfl, hM.sel [1, 2, 3] rfl (by decide), hf522, h⟩
              · have h := bif_f hb495 h
                have hK := hK.re (d := 118) rfl (congrArg Value.bool hb495)
                refine d_skip hK 36 rfl (by kernel_rfl) (by kernel_rfl) (by kernel_rfl) rfl rfl rfl hS (fun _ _ _ h => h) fun a hK => ?_
                refine d_pure hK 37 rfl (by kernel_rfl) (by kernel_rfl) (by kernel_rfl) rfl rfl rfl hS (fun _ _ _ h => h) rfl fun a hK => ?_
                refine d_pure hK 38 rfl (by kernel_rfl) (by kernel_rfl) (by kernel_rfl) rfl rfl rfl hS (fun _ _ _ h => h) rfl fun a hK => ?_
                refine d_pure hK 39 rfl (by kernel_rfl) (by kernel_rfl) (by kernel_rfl) rfl rfl rfl hS (fun _ _ _ h => h) rfl fun a hK => ?_
                refine d_done (by kernel_rfl) ?_
                have hK := hK.keep [0, 2, 8, 9, 10, 11, 12, 82] rfl
                refine (nm_then ?_)
                refine wp_cond_false (hK.ev rfl) ?_
                refine wp_seq ?_
                refine wp_region_lit ?_
                iterate 3 (refine s1 hK rfl rfl rfl rfl fun a hK => ?_)
                obtain ⟨x523, hx524, h⟩ := obind_some h
                refine s_val hK rfl rfl rfl (r_ixa (Enc.ow_rd hf32) hx420 hK ts29 rfl rfl rfl) fun a hK => ?_
                refine s_val hK rfl rfl rfl (r_lde1 (Enc.ow_rd hf32) (hM.a 0 rfl) hx420 0 t13 hK rfl rfl rfl rfl) fun a hK => ?_
                refine s_bs (cs := [.int .i64 (x419)]) (ps := [(0, .tmp 49)]) te29 hM hK rfl rfl rfl rfl rfl rfl rfl (by decide) rfl (by exact (List.forall_mem_cons.2 ⟨rfl, (List.forall_mem_nil _)⟩)) fun g525 w526 e528 a hK hM hE hb527 => ?_
                have hf529 := ow_bx hb527 ([x419] : List Int) rfl rfl rfl
                obtain ⟨x530, hx531, h⟩ := obind_some h
                refine s_appF hx531 te29 rfl hM 3 hf379 (News.rd (Enc.rd_agr (Enc.ow_rd hf529) (hM.a 0 rfl))) rfl rfl hK rfl rfl rfl rfl rfl rfl rfl fun v532 F533 w534 a hK hE hM hf535 => ?_
                refine s1 hK rfl rfl rfl rfl fun a hK => ?_
                refine wpList_nil (nm_then ?_)
                refine wp_region_lit ?_
                iterate 3 (refine s1 hK rfl rfl rfl rfl fun a hK => ?_)
                refine wpList_nil (nm_block (nm_block (nm_then ?_)))
                exact ⟨x530, v532, F533, w534, w64 (i380 + 1), j381, hK.keep [0, 2, 8, 9, 10, 11, 12] rfl, hM.sel [1, 2, 3] rfl (by decide), hf535, h⟩
      · refine wp_seq ?_
        refine wp_region_lit ?_
        iterate 2 (refine s1 hK rfl rfl rfl rfl fun a hK => ?_)
        refine s_val hK rfl rfl rfl (r_len (α := Int) (Enc.ow_rd hf32) hK Tryz.underlying29 rfl rfl) fun a hK => ?_
        iterate 2 (refine s1 hK rfl rfl rfl rfl fun a hK => ?_)
        refine bsplit (decide (i380 < ((x27.length : Int)))) (fun hb536 => ?_) (fun hb536 => ?_)
        · have h := bif_t hb536 h
          have hK := hK.re (d := 39) rfl (congrArg Value.bool hb536)
          refine sk hK rfl rfl rfl fun a hK => ?_
          refine sk hK rfl rfl rfl fun a hK => ?_
          refine sk hK rfl rfl rfl fun a hK => ?_
          refine sk hK rfl rfl rfl fun a hK => ?_
          refine s1 hK rfl rfl rfl rfl fun a hK => ?_
          refine wpList_nil (nm_then ?_)
          refine wp_cond_true (hK.ev rfl) ?_
          refine wp_skip (nm_then ?_)
          exact ⟨hK.keep [0, 2, 8, 9, 10, 11, 12] rfl, hM.sel [0, 1, 2] rfl (by decide), h⟩
        · have h := bif_f hb536 h
          have hK := hK.re (d := 39) rfl (congrArg Value.bool hb536)
          iterate 2 (refine s1 hK rfl rfl rfl rfl fun a hK => ?_)
          refine s_val hK rfl rfl rfl (r_len (α := Int) (Enc.ow_rd hf46) hK Tryz.underlying29 rfl rfl) fun a hK => ?_
          iterate 2 (refine s1 hK rfl rfl rfl rfl fun a hK => ?_)
          refine wpList_nil (nm_then ?_)
          refine c_cond (b := decide (j381 < ((x41.length : Int)))) hK rfl (fun hb537 => ?_) (fun hb537 => ?_)
          · have h := bif_t hb537 h
            refine wp_skip (nm_then ?_)
            exact ⟨hK.keep [0, 2, 8, 9, 10, 11, 12] rfl, hM.sel [0, 1, 2] rfl (by decide), h⟩
          · have h := bif_f hb537 h
            refine wp_exit (ex_then (ex_then (ex_same (nm_then ?_))))
            refine wp_seq ?_
            refine wp_region_lit ?_
            iterate 2 (refine s1 hK rfl rfl rfl rfl fun a hK => ?_)
            refine wpList_nil (nm_then ?_)
            refine wp_ret ?_
            have h := Option.some.inj h
            subst h
            exact finR1 hK rfl (RV.tmp hK rfl) ⟨_, F377, rfl, hM.ext, (Enc.ow_agr hf379 (hM.a 2 rfl)), (hM.fresh 2 rfl)⟩
    · exact ⟨([] : List Int), (.slice (some ⟨g50, 0, none⟩) 0 0), [g50], w51, 0, 0, hK.keep [0, 2, 8, 9, 10, 11, 12] rfl, hM.sel [2, 1, 0] rfl (by decide), hf54, h⟩
theorem c_spec_l1Merge (fu : Nat) {w0 : World} (keys1 : List Int) (places5 : List Int) (down9 : Bool) {v2 : Value} {F3 : List Nat} (hp4 : rd w0 F3 [v2] keys1) {v6 : Value} {F7 : List Nat} (hp8 : rd w0 F7 [v6] places5) {r : (List Int)}
    (h : d_spec_l1Merge fu keys1 places5 down9 = some r) : Calls Tryz.prog 223 #[v2, v6, .bool (down9)] w0 fun e w => ∃ (v0 : Value) (G0 : List Nat), e = .returned (v0) ∧ Ext [] w0 w ∧ ow w G0 [v0] r ∧ (∀ b ∈ G0, w0.heap.size ≤ b) :=
  c_spec_l1Merge_R fu fu keys1 places5 down9 hp4 hp8 h

theorem c_spec_SortUp (fu : Nat) {w0 : World} (keys1 : List Int) {v2 : Value} {F3 : List Nat} (hp4 : rd w0 F3 [v2] keys1) {r : (List Int)}
    (h : d_spec_SortUp fu keys1 = some r) :
    Calls Tryz.prog 198 #[v2] w0 fun e w => ∃ (v0 : Value) (G0 : List Nat), e = .returned (v0) ∧ Ext [] w0 w ∧ ow w G0 [v0] r ∧ (∀ b ∈ G0, w0.heap.size ≤ b) := by
  refine enter (vs := [_]) Tryz.func198 rfl Tryz.ntmps198 rfl fun a hK => ?_
  have hM := St.start w0
  unfold d_spec_SortUp at h
  refine wp_seq ?_
  refine wp_region_lit ?_
  refine s1 hK rfl rfl rfl rfl fun a hK => ?_
  refine wpList_nil (nm_then ?_)
  refine wp_seq ?_
  refine wp_region_lit ?_
  iterate 2 (refine s1 hK rfl rfl rfl rfl fun a hK => ?_)
  refine s_val hK rfl rfl rfl (r_len (α := Int) hp4 hK Tryz.underlying29 rfl rfl) fun a hK => ?_
  obtain ⟨x5, hx6, h⟩ := obind_some h
  refine s_call hK Tryz.call112 rfl rfl rfl rfl rfl (c_spec_l1Places fu _  hx6) fun e7 w8 hR => ?_
  obtain ⟨v13, F9, rfl, hE, hf10, hfr11⟩ := hR
  refine ⟨_, rfl, fun a hK => ?_⟩
  have hM := hM.new hE F9 (fun b hb => ⟨hfr11 b hb, Enc.rd_lt (Enc.ow_rd hf10) b hb⟩) (Enc.ow_nd hf10)
  obtain ⟨x14, hx15, h⟩ := obind_some h
  refine s_call hK Tryz.call223 rfl rfl rfl rfl rfl (c_spec_l1Merge fu _ _ _ (Enc.rd_agr hp4 (hM.a00 (Enc.rd_lt hp4))) (Enc.rd_agr (Enc.ow_rd hf10) (hM.a 0 rfl)) hx15) fun e16 w17 hR => ?_
  obtain ⟨v22, F18, rfl, hE, hf19, hfr20⟩ := hR
  refine ⟨_, rfl, fun a hK => ?_⟩
  have hM := hM.new hE F18 (fun b hb => ⟨hfr20 b hb, Enc.rd_lt (Enc.ow_rd hf19) b hb⟩) (Enc.ow_nd hf19)
  refine s1 hK rfl rfl rfl rfl fun a hK => ?_
  refine wpList_nil (nm_then ?_)
  refine wp_ret ?_
  have h := Option.some.inj h
  subst h
  exact finR1 hK rfl (RV.tmp hK rfl) ⟨_, F18, rfl, hM.ext, (Enc.ow_agr hf19 (hM.a 0 rfl)), (hM.fresh 0 rfl)⟩

theorem c_spec_l5Sides (fu : Nat) {w0 : World} (wv1 : Int) (h2 : Int) (d3 : Int)  {r : (List Int)}
    (h : d_spec_l5Sides fu wv1 h2 d3 = some r) :
    Calls Tryz.prog 178 #[.int .i64 (wv1), .int .i64 (h2), .int .i64 (d3)] w0 fun e w => ∃ (v0 : Value) (G0 : List Nat), e = .returned (v0) ∧ Ext [] w0 w ∧ ow w G0 [v0] r ∧ (∀ b ∈ G0, w0.heap.size ≤ b) := by
  refine enter (vs := [_, _, _]) Tryz.func178 rfl Tryz.ntmps178 rfl fun a hK => ?_
  have hM := St.start w0
  unfold d_spec_l5Sides at h
  refine wp_seq ?_
  refine wp_region_lit ?_
  refine s1 hK rfl rfl rfl rfl fun a hK => ?_
  refine wpList_nil (nm_then ?_)
  refine wp_seq ?_
  refine wp_region_lit ?_
  iterate 3 (refine s1 hK rfl rfl rfl rfl fun a hK => ?_)
  refine s_bs (cs := [.int .i64 (wv1), .int .i64 (h2), .int .i64 (d3)]) (ps := [(0, .tmp 9), (1, .tmp 10), (2, .tmp 11)]) te29 hM hK rfl rfl rfl rfl rfl rfl rfl (by decide) rfl (by exact (List.forall_mem_cons.2 ⟨rfl, (List.forall_mem_cons.2 ⟨rfl, (List.forall_mem_cons.2 ⟨rfl, (List.forall_mem_nil _)⟩)⟩)⟩)) fun g4 w5 e7 a hK hM hE hb6 => ?_
  have hf8 := ow_bx hb6 ([wv1, h2, d3] : List Int) rfl rfl rfl
  refine s1 hK rfl rfl rfl rfl fun a hK => ?_
  refine wpList_nil (nm_then ?_)
  refine wp_seq ?_
  refine wp_region_lit ?_
  refine s1 hK rfl rfl rfl rfl fun a hK => ?_
  obtain ⟨x9, hx10, h⟩ := obind_some h
  refine s_call hK Tryz.call198 rfl rfl rfl rfl rfl (c_spec_SortUp fu _ (Enc.rd_agr (Enc.ow_rd hf8) (hM.a 0 rfl)) hx10) fun e11 w12 hR => ?_
  obtain ⟨v17, F13, rfl, hE, hf14, hfr15⟩ := hR
  refine ⟨_, rfl, fun a hK => ?_⟩
  have hM := hM.new hE F13 (fun b hb => ⟨hfr15 b hb, Enc.rd_lt (Enc.ow_rd hf14) b hb⟩) (Enc.ow_nd hf14)
  refine s1 hK rfl rfl rfl rfl fun a hK => ?_
  refine wpList_nil (nm_then ?_)
  refine wp_seq ?_
  refine d_go [] mixo hM rfl fun w18 hMd => ?_
  have hM := hMd
  have hS := Ext.refl ([] : List Nat) w18
  refine d_pure hK 0 rfl (by kernel_rfl) (by kernel_rfl) (by kernel_rfl) rfl rfl rfl hS (fun _ _ _ h => h) rfl fun a hK => ?_
  refine d_pure hK 1 rfl (by kernel_rfl) (by kernel_rfl) (by kernel_rfl) rfl rfl rfl hS (fun _ _ _ h => h) rfl fun a hK => ?_
  obtain ⟨x19, hx20, h⟩ := obind_some h
  refine d_take hK 2 rfl (by kernel_rfl) (by kernel_rfl) (by kernel_rfl) rfl rfl rfl hS (fun _ _ _ h => h) (fun w hS => r_ixa (Enc.ow_rd hf14) hx20 hK ts29 rfl rfl rfl) fun a hK => ?_
  refine d_take hK 3 rfl (by kernel_rfl) (by kernel_rfl) (by kernel_rfl) rfl rfl rfl hS (fun _ _ _ h => h) (fun w hS => r_lde1 (Enc.ow_rd hf14) ((hMd.step hS).a 0 rfl) hx20 0 t13 hK rfl rfl rfl rfl) fun a hK => ?_
  obtain ⟨x21, hx22, h⟩ := obind_some h
  refine d_take hK 4 rfl (by kernel_rfl) (by kernel_rfl) (by kernel_rfl) rfl rfl rfl hS (fun _ _ _ h => h) (fun w hS => r_ixa (Enc.ow_rd hf8) hx22 hK ts29 rfl rfl rfl) fun a hK => ?_
  refine d_take hK 5 rfl (by kernel_rfl) (by kernel_rfl) (by kernel_rfl) rfl rfl rfl hS (fun _ _ _ h => h) (fun w hS => r_lde1 (Enc.ow_rd hf8) ((hMd.step hS).a 1 rfl) hx22 0 t13 hK rfl rfl rfl rfl) fun a hK => ?_
  refine d_pure hK 6 rfl (by kernel_rfl) (by kernel_rfl) (by kernel_rfl) rfl rfl rfl hS (fun _ _ _ h => h) rfl fun a hK => ?_
  refine d_pure hK 7 rfl (by kernel_rfl) (by kernel_rfl) (by kernel_rfl) rfl rfl rfl hS (fun _ _ _ h => h) rfl fun a hK => ?_
  obtain ⟨x23, hx24, h⟩ := obind_some h
  refine d_take hK 8 rfl (by kernel_rfl) (by kernel_rfl) (by kernel_rfl) rfl rfl rfl hS (fun _ _ _ h => h) (fun w hS => r_ixa (Enc.ow_rd hf14) hx24 hK ts29 rfl rfl rfl) fun a hK => ?_
  refine d_take hK 9 rfl (by kernel_rfl) (by kernel_rfl) (by kernel_rfl) rfl rfl rfl hS (fun _ _ _ h => h) (fun w hS => r_lde1 (Enc.ow_rd hf14) ((hMd.step hS).a 0 rfl) hx24 0 t13 hK rfl rfl rfl rfl) fun a hK => ?_
  obtain ⟨x25, hx26, h⟩ := obind_some h
  refine d_take hK 10 rfl (by kernel_rfl) (by kernel_rfl) (by kernel_rfl) rfl rfl rfl hS (fun _ _ _ h => h) (fun w hS => r_ixa (Enc.ow_rd hf8) hx26 hK ts29 rfl rfl rfl) fun a hK => ?_
  refine d_take hK 11 rfl (by kernel_rfl) (by kernel_rfl) (by kernel_rfl) rfl rfl rfl hS (fun _ _ _ h => h) (fun w hS => r_lde1 (Enc.ow_rd hf8) ((hMd.step hS).a 1 rfl) hx26 0 t13 hK rfl rfl rfl rfl) fun a hK => ?_
  refine d_pure hK 12 rfl (by kernel_rfl) (by kernel_rfl) (by kernel_rfl) rfl rfl rfl hS (fun _ _ _ h => h) rfl fun a hK => ?_
  refine d_pure hK 13 rfl (by kernel_rfl) (by kernel_rfl) (by kernel_rfl) rfl rfl rfl hS (fun _ _ _ h => h) rfl fun a hK => ?_
  obtain ⟨x27, hx28, h⟩ := obind_some h
  refine d_take hK 14 rfl (by kernel_rfl) (by kernel_rfl) (by kernel_rfl) rfl rfl rfl hS (fun _ _ _ h => h) (fun w hS => r_ixa (Enc.ow_rd hf14) hx28 hK ts29 rfl rfl rfl) fun a hK => ?_
  refine d_take hK 15 rfl (by kernel_rfl) (by kernel_rfl) (by kernel_rfl) rfl rfl rfl hS (fun _ _ _ h => h) (fun w hS => r_lde1 (Enc.ow_rd hf14) ((hMd.step hS).a 0 rfl) hx28 0 t13 hK rfl rfl rfl rfl) fun a hK => ?_
  obtain ⟨x29, hx30, h⟩ := obind_some h
  refine d_take hK 16 rfl (by kernel_rfl) (by kernel_rfl) (by kernel_rfl) rfl rfl rfl hS (fun _ _ _ h => h) (fun w hS => r_ixa (Enc.ow_rd hf8) hx30 hK ts29 rfl rfl rfl) fun a hK => ?_
  refine d_take hK 17 rfl (by kernel_rfl) (by kernel_rfl) (by kernel_rfl) rfl rfl rfl hS (fun _ _ _ h => h) (fun w hS => r_lde1 (Enc.ow_rd hf8) ((hMd.step hS).a 1 rfl) hx30 0 t13 hK rfl rfl rfl rfl) fun a hK => ?_
  refine d_one 18 (by kernel_rfl) rfl ?_
  refine s_bsN (cs := [.int .i64 (x21), .int .i64 (x25), .int .i64 (x29)]) (ps := [(0, .tmp 20), (1, .tmp 26), (2, .tmp 32)]) te29 hM hK rfl rfl rfl rfl rfl rfl rfl (by decide) rfl (by exact (List.forall_mem_cons.2 ⟨rfl, (List.forall_mem_cons.2 ⟨rfl, (List.forall_mem_cons.2 ⟨rfl, (List.forall_mem_nil _)⟩)⟩)⟩)) fun g31 w32 e34 a hK hM hE hb33 hgn35 => ?_
  have hlo37 := lo1 (Nat.le_trans hS.size hgn35)
  have hf36 := ow_bx hb33 ([x21, x25, x29] : List Int) rfl rfl rfl
  have hS := hS.trans hE (by simp)
  refine wpList_nil ⟨hS, ?_⟩
  refine d_pure hK 19 rfl (by kernel_rfl) (by kernel_rfl) (by kernel_rfl) rfl rfl rfl hS (fun _ _ _ h => h) rfl fun a hK => ?_
  refine d_done (by kernel_rfl) ?_
  have hK := hK.keep [6] rfl
  refine (nm_then ?_)
  refine wp_ret ?_
  have h := Option.some.inj h
  subst h
  exact finR1 hK rfl (RV.tmp hK rfl) ⟨_, [g31], rfl, hM.ext, (Enc.ow_agr hf36 (hM.a 0 rfl)), (hM.fresh 0 rfl)⟩

theorem c_spec_Fits (fu : Nat) {w0 : World} (x1 : Item) (t2 : Typ)  {r : Bool}
    (h : d_spec_Fits fu x1 t2 = some r) :
    Calls Tryz.prog 135 #[.agg (Flat.e (x1)).toArray, .agg (Flat.e (t2)).toArray] w0 fun e w => e = .returned (.bool (r)) ∧ Ext [] w0 w := by
  refine enter (vs := [_, _]) Tryz.func135 rfl Tryz.ntmps135 rfl fun a hK => ?_
  have hM := St.start w0
  unfold d_spec_Fits at h
  refine wp_seq ?_
  refine wp_region_lit ?_
  refine s_box (cs := [.int .i64 (x1.fId), .int .i64 (x1.fW), .int .i64 (x1.fH), .int .i64 (x1.fD), .int .i64 (x1.fGram), .int .i64 (x1.fClass), .int .i64 (x1.fCount)]) hM hK rfl rfl rfl rfl rfl rfl fun b3 w5 a hK hM hE hb4 => ?_
  refine s_box (cs := [.int .i64 (t2.fId), .int .i64 (t2.fW), .int .i64 (t2.fH), .int .i64 (t2.fD), .int .i64 (t2.fTare), .int .i64 (t2.fGram), .int .i64 (t2.fCost)]) hM hK rfl rfl rfl rfl rfl rfl fun b6 w8 a hK hM hE hb7 => ?_
  refine s1 hK rfl rfl rfl rfl fun a hK => ?_
  refine wpList_nil (nm_then ?_)
  refine wp_seq ?_
  refine wp_region_lit ?_
  refine s_val hK rfl rfl rfl (r_fa fa120_1 hK rfl rfl) fun a hK => ?_
  refine s_val hK rfl rfl rfl (r_ldb t13 hM 1 hb4 1 hK rfl rfl rfl rfl rfl) fun a hK => ?_
  refine s_val hK rfl rfl rfl (r_fa fa120_2 hK rfl rfl) fun a hK => ?_
  refine s_val hK rfl rfl rfl (r_ldb t13 hM 1 hb4 2 hK rfl rfl rfl rfl rfl) fun a hK => ?_
  refine s_val hK rfl rfl rfl (r_fa fa120_3 hK rfl rfl) fun a hK => ?_
  refine s_val hK rfl rfl rfl (r_ldb t13 hM 1 hb4 3 hK rfl rfl rfl rfl rfl) fun a hK => ?_
  obtain ⟨x9, hx10, h⟩ := obind_some h
  refine s_call hK Tryz.call178 rfl rfl rfl rfl rfl (c_spec_l5Sides fu _ _ _  hx10) fun e11 w12 hR => ?_
  obtain ⟨v17, F13, rfl, hE, hf14, hfr15⟩ := hR
  refine ⟨_, rfl, fun a hK => ?_⟩
  have hM := hM.new hE F13 (fun b hb => ⟨hfr15 b hb, Enc.rd_lt (Enc.ow_rd hf14) b hb⟩) (Enc.ow_nd hf14)
  refine s1 hK rfl rfl rfl rfl fun a hK => ?_
  refine wpList_nil (nm_then ?_)
  refine wp_seq ?_
  refine wp_region_lit ?_
  refine s_val hK rfl rfl rfl (r_fa fa92_1 hK rfl rfl) fun a hK => ?_
  refine s_val hK rfl rfl rfl (r_ldb t13 hM 1 hb7 1 hK rfl rfl rfl rfl rfl) fun a hK => ?_
  refine s_val hK rfl rfl rfl (r_fa fa92_2 hK rfl rfl) fun a hK => ?_
  refine s_val hK rfl rfl rfl (r_ldb t13 hM 1 hb7 2 hK rfl rfl rfl rfl rfl) fun a hK => ?_
  refine s_val hK rfl rfl rfl (r_fa fa92_3 hK rfl rfl) fun a hK => ?_
  refine s_val hK rfl rfl rfl (r_ldb t13 hM 1 hb7 3 hK rfl rfl rfl rfl rfl) fun a hK => ?_
  obtain ⟨x18, hx19, h⟩ := obind_some h
  refine s_call hK Tryz.call178 rfl rfl rfl rfl rfl (c_spec_l5Sides fu _ _ _  hx19) fun e20 w21 hR => ?_
  obtain ⟨v26, F22, rfl, hE, hf23, hfr24⟩ := hR
  refine ⟨_, rfl, fun a hK => ?_⟩
  have hM := hM.new hE F22 (fun b hb => ⟨hfr24 b hb, Enc.rd_lt (Enc.ow_rd hf23) b hb⟩) (Enc.ow_nd hf23)
  refine s1 hK rfl rfl rfl rfl fun a hK => ?_
  refine wpList_nil (nm_then ?_)
  refine wp_seq ?_
  refine d_go [] mixo hM rfl fun w27 hMd => ?_
  have hM := hMd
  have hS := Ext.refl ([] : List Nat) w27
  refine d_pure hK 0 rfl (by kernel_rfl) (by kernel_rfl) (by kernel_rfl) rfl rfl rfl hS (fun _ _ _ h => h) rfl fun a hK => ?_
  obtain ⟨x28, hx29, h⟩ := obind_some h
  refine d_take hK 1 rfl (by kernel_rfl) (by kernel_rfl) (by kernel_rfl) rfl rfl rfl hS (fun _ _ _ h => h) (fun w hS => r_ixa (Enc.ow_rd hf14) hx29 hK ts29 rfl rfl rfl) fun a hK => ?_
  refine d_take hK 2 rfl (by kernel_rfl) (by kernel_rfl) (by kernel_rfl) rfl rfl rfl hS (fun _ _ _ h => h) (fun w hS => r_lde1 (Enc.ow_rd hf14) ((hMd.step hS).a 1 rfl) hx29 0 t13 hK rfl rfl rfl rfl) fun a hK => ?_
  refine d_pure hK 3 rfl (by kernel_rfl) (by kernel_rfl) (by kernel_rfl) rfl rfl rfl hS (fun _ _ _ h => h) rfl fun a hK => ?_
  obtain ⟨x30, hx31, h⟩ := obind_some h
  refine d_take hK 4 rfl (by kernel_rfl) (by kernel_rfl) (by kernel_rfl) rfl rfl rfl hS (fun _ _ _ h => h) (fun w hS => r_ixa (Enc.ow_rd hf23) hx31 hK ts29 rfl rfl rfl) fun a hK => ?_
  refine d_take hK 5 rfl (by kernel_rfl) (by kernel_rfl) (by kernel_rfl) rfl rfl rfl hS (fun _ _ _ h => h) (fun w hS => r_lde1 (Enc.ow_rd hf23) ((hMd.step hS).a 0 rfl) hx31 0 t13 hK rfl rfl rfl rfl) fun a hK => ?_
  refine d_pure hK 6 rfl (by kernel_rfl) (by kernel_rfl) (by kernel_rfl) rfl rfl rfl hS (fun _ _ _ h => h) rfl fun a hK => ?_
  refine d_pure hK 7 rfl (by kernel_rfl) (by kernel_rfl) (by kernel_rfl) rfl rfl rfl hS (fun _ _ _ h => h) rfl fun a hK => ?_
  refine bsplit (decide (x28 ≤ x30)) (fun hb32 => ?_) (fun hb32 => ?_)
  · have h := bif_t hb32 h
    have hK := hK.re (d := 28) rfl (congrArg Value.bool hb32)
    refine d_pure hK 8 rfl (by kernel_rfl) (by kernel_rfl) (by kernel_rfl) rfl rfl rfl hS (fun _ _ _ h => h) rfl fun a hK => ?_
    obtain ⟨x33, hx34, h⟩ := obind_some h
    refine d_take hK 9 rfl (by kernel_rfl) (by kernel_rfl) (by kernel_rfl) rfl rfl rfl hS (fun _ _ _ h => h) (fun w hS => r_ixa (Enc.ow_rd hf14) hx34 hK ts29 rfl rfl rfl) fun a hK => ?_
    refine d_take hK 10 rfl (by kernel_rfl) (by kernel_rfl) (by kernel_rfl) rfl rfl rfl hS (fun _ _ _ h => h) (fun w hS => r_lde1 (Enc.ow_rd hf14) ((hMd.step hS).a 1 rfl) hx34 0 t13 hK rfl rfl rfl rfl) fun a hK => ?_
    refine d_pure hK 11 rfl (by kernel_rfl) (by kernel_rfl) (by kernel_rfl) rfl rfl rfl hS (fun _ _ _ h => h) rfl fun a hK => ?_
    obtain ⟨x35, hx36, h⟩ := obind_some h
    refine d_take hK 12 rfl (by kernel_rfl) (by kernel_rfl) (by kernel_rfl) rfl rfl rfl hS (fun _ _ _ h => h) (fun w hS => r_ixa (Enc.ow_rd hf23) hx36 hK ts29 rfl rfl rfl) fun a hK => ?_
    refine d_take hK 13 rfl (by kernel_rfl) (by kernel_rfl) (by kernel_rfl) rfl rfl rfl hS (fun _ _ _ h => h) (fun w hS => r_lde1 (Enc.ow_rd hf23) ((hMd.step hS).a 0 rfl) hx36 0 t13 hK rfl rfl rfl rfl) fun a hK => ?_
    refine d_pure hK 14 rfl (by kernel_rfl) (by kernel_rfl) (by kernel_rfl) rfl rfl rfl hS (fun _ _ _ h => h) rfl fun a hK => ?_
    refine d_pure hK 15 rfl (by kernel_rfl) (by kernel_rfl) (by kernel_rfl) rfl rfl rfl hS (fun _ _ _ h => h) rfl fun a hK => ?_
    refine d_pure hK 16 rfl (by kernel_rfl) (by kernel_rfl) (by kernel_rfl) rfl rfl rfl hS (fun _ _ _ h => h) rfl fun a hK => ?_
    refine bsplit (decide (x33 ≤ x35)) (fun hb37 => ?_) (fun hb37 => ?_)
    · have h := bif_t hb37 h
      have hK := hK.re (d := 37) rfl (congrArg Value.bool hb37)
      refine d_pure hK 17 rfl (by kernel_rfl) (by kernel_rfl) (by kernel_rfl) rfl rfl rfl hS (fun _ _ _ h => h) rfl fun a hK => ?_
      obtain ⟨x38, hx39, h⟩ := obind_some h
      refine d_take hK 18 rfl (by kernel_rfl) (by kernel_rfl) (by kernel_rfl) rfl rfl rfl hS (fun _ _ _ h => h) (fun w hS => r_ixa (Enc.ow_rd hf14) hx39 hK ts29 rfl rfl rfl) fun a hK => ?_
      refine d_take hK 19 rfl (by kernel_rfl) (by kernel_rfl) (by kernel_rfl) rfl rfl rfl hS (fun _ _ _ h => h) (fun w hS => r_lde1 (Enc.ow_rd hf14) ((hMd.step hS).a 1 rfl) hx39 0 t13 hK rfl rfl rfl rfl) fun a hK => ?_
      refine d_pure hK 20 rfl (by kernel_rfl) (by kernel_rfl) (by kernel_rfl) rfl rfl rfl hS (fun _ _ _ h => h) rfl fun a hK => ?_
      obtain ⟨x40, hx41, h⟩ := obind_some h
      refine d_take hK 21 rfl (by kernel_rfl) (by kernel_rfl) (by kernel_rfl) rfl rfl rfl hS (fun _ _ _ h => h) (fun w hS => r_ixa (Enc.ow_rd hf23) hx41 hK ts29 rfl rfl rfl) fun a hK => ?_
      refine d_take hK 22 rfl (by kernel_rfl) (by kernel_rfl) (by kernel_rfl) rfl rfl rfl hS (fun _ _ _ h => h) (fun w hS => r_lde1 (Enc.ow_rd hf23) ((hMd.step hS).a 0 rfl) hx41 0 t13 hK rfl rfl rfl rfl) fun a hK => ?_
      refine d_pure hK 23 rfl (by kernel_rfl) (by kernel_rfl) (by kernel_rfl) rfl rfl rfl hS (fun _ _ _ h => h) rfl fun a hK => ?_
      refine d_pure hK 24 rfl (by kernel_rfl) (by kernel_rfl) (by kernel_rfl) rfl rfl rfl hS (fun _ _ _ h => h) rfl fun a hK => ?_
      refine d_pure hK 25 rfl (by kernel_rfl) (by kernel_rfl) (by kernel_rfl) rfl rfl rfl hS (fun _ _ _ h => h) rfl fun a hK => ?_
      refine bsplit (decide (x38 ≤ x40)) (fun hb42 => ?_) (fun hb42 => ?_)
      · have h := bif_t hb42 h
        have hK := hK.re (d := 46) rfl (congrArg Value.bool hb42)
        refine d_take hK 26 rfl (by kernel_rfl) (by kernel_rfl) (by kernel_rfl) rfl rfl rfl hS (fun _ _ _ h => h) (fun w hS => r_fa fa120_4 hK rfl rfl) fun a hK => ?_
        refine d_take hK 27 rfl (by kernel_rfl) (by kernel_rfl) (by kernel_rfl) rfl rfl rfl hS (fun _ _ _ h => h) (fun w hS => r_ld1 t13 (r := []) (hb4.at ((hMd.step hS).a 3 rfl) 4 1 rfl rfl rfl) hK rfl rfl) fun a hK => ?_
        refine d_take hK 28 rfl (by kernel_rfl) (by kernel_rfl) (by kernel_rfl) rfl rfl rfl hS (fun _ _ _ h => h) (fun w hS => r_fa fa92_5 hK rfl rfl) fun a hK => ?_
        refine d_take hK 29 rfl (by kernel_rfl) (by kernel_rfl) (by kernel_rfl) rfl rfl rfl hS (fun _ _ _ h => h) (fun w hS => r_ld1 t13 (r := []) (hb7.at ((hMd.step hS).a 2 rfl) 5 1 rfl rfl rfl) hK rfl rfl) fun a hK => ?_
        refine d_pure hK 30 rfl (by kernel_rfl) (by kernel_rfl) (by kernel_rfl) rfl rfl rfl hS (fun _ _ _ h => h) rfl fun a hK => ?_
        refine d_pure hK 31 rfl (by kernel_rfl) (by kernel_rfl) (by kernel_rfl) rfl rfl rfl hS (fun _ _ _ h => h) rfl fun a hK => ?_
        refine d_pure hK 32 rfl (by kernel_rfl) (by kernel_rfl) (by kernel_rfl) rfl rfl rfl hS (fun _ _ _ h => h) rfl fun a hK => ?_
        refine d_done (by kernel_rfl) ?_
        have hK := hK.keep [4] rfl
        refine (nm_then ?_)
        refine wp_ret ?_
        have h := Option.some.inj h
        subst h
        exact finR1 hK rfl (RV.tmp hK rfl) ⟨rfl, hM.ext⟩
      · have h := bif_f hb42 h
        have hK := hK.re (d := 46) rfl (congrArg Value.bool hb42)
        refine d_skip hK 26 rfl (by kernel_rfl) (by kernel_rfl) (by kernel_rfl) rfl rfl rfl hS (fun _ _ _ h => h) fun a hK => ?_
        refine d_skip hK 27 rfl (by kernel_rfl) (by kernel_rfl) (by kernel_rfl) rfl rfl rfl hS (fun _ _ _ h => h) fun a hK => ?_
        refine d_skip hK 28 rfl (by kernel_rfl) (by kernel_rfl) (by kernel_rfl) rfl rfl rfl hS (fun _ _ _ h => h) fun a hK => ?_
        refine d_skip hK 29 rfl (by kernel_rfl) (by kernel_rfl) (by kernel_rfl) rfl rfl rfl hS (fun _ _ _ h => h) fun a hK => ?_
        refine d_skip hK 30 rfl (by kernel_rfl) (by kernel_rfl) (by kernel_rfl) rfl rfl rfl hS (fun _ _ _ h => h) fun a hK => ?_
        refine d_pure hK 31 rfl (by kernel_rfl) (by kernel_rfl) (by kernel_rfl) rfl rfl rfl hS (fun _ _ _ h => h) rfl fun a hK => ?_
        refine d_pure hK 32 rfl (by kernel_rfl) (by kernel_rfl) (by kernel_rfl) rfl rfl rfl hS (fun _ _ _ h => h) rfl fun a hK => ?_
        refine d_done (by kernel_rfl) ?_
        have hK := hK.keep [4] rfl
        refine (nm_then ?_)
        refine wp_ret ?_
        have h := Option.some.inj h
        subst h
        exact finR1 hK rfl (RV.tmp hK rfl) ⟨rfl, hM.ext⟩
    · have h := bif_f hb37 h
      have hK := hK.re (d := 37) rfl (congrArg Value.bool hb37)
      refine d_skip hK 17 rfl (by kernel_rfl) (by kernel_rfl) (by kernel_rfl) rfl rfl rfl hS (fun _ _ _ h => h) fun a hK => ?_
      refine d_skip hK 18 rfl (by kernel_rfl) (by kernel_rfl) (by kernel_rfl) rfl rfl rfl hS (fun _ _ _ h => h) fun a hK => ?_
      refine d_skip hK 19 rfl (by kernel_rfl) (by kernel_rfl) (by kernel_rfl) rfl rfl rfl hS (fun _ _ _ h => h) fun a hK => ?_
      refine d_skip hK 20 rfl (by kernel_rfl) (by kernel_rfl) (by kernel_rfl) rfl rfl rfl hS (fun _ _ _ h => h) fun a hK => ?_
      refine d_skip hK 21 rfl (by kernel_rfl) (by kernel_rfl) (by kernel_rfl) rfl rfl rfl hS (fun _ _ _ h => h) fun a hK => ?_
      refine d_skip hK 22 rfl (by kernel_rfl) (by kernel_rfl) (by kernel_rfl) rfl rfl rfl hS (fun _ _ _ h => h) fun a hK => ?_
      refine d_skip hK 23 rfl (by kernel_rfl) (by kernel_rfl) (by kernel_rfl) rfl rfl rfl hS (fun _ _ _ h => h) fun a hK => ?_
      refine d_pure hK 24 rfl (by kernel_rfl) (by kernel_rfl) (by kernel_rfl) rfl rfl rfl hS (fun _ _ _ h => h) rfl fun a hK => ?_
      refine d_pure hK 25 rfl (by kernel_rfl) (by kernel_rfl) (by kernel_rfl) rfl rfl rfl hS (fun _ _ _ h => h) rfl fun a hK => ?_
      refine d_skip hK 26 rfl (by kernel_rfl) (by kernel_rfl) (by kernel_rfl) rfl rfl rfl hS (fun _ _ _ h => h) fun a hK => ?_
      refine d_skip hK 27 rfl (by kernel_rfl) (by kernel_rfl) (by kernel_rfl) rfl rfl rfl hS (fun _ _ _ h => h) fun a hK => ?_
      refine d_skip hK 28 rfl (by kernel_rfl) (by kernel_rfl) (by kernel_rfl) rfl rfl rfl hS (fun _ _ _ h => h) fun a hK => ?_
      refine d_skip hK 29 rfl (by kernel_rfl) (by kernel_rfl) (by kernel_rfl) rfl rfl rfl hS (fun _ _ _ h => h) fun a hK => ?_
      refine d_skip hK 30 rfl (by kernel_rfl) (by kernel_rfl) (by kernel_rfl) rfl rfl rfl hS (fun _ _ _ h => h) fun a hK => ?_
      refine d_pure hK 31 rfl (by kernel_rfl) (by kernel_rfl) (by kernel_rfl) rfl rfl rfl hS (fun _ _ _ h => h) rfl fun a hK => ?_
      refine d_pure hK 32 rfl (by kernel_rfl) (by kernel_rfl) (by kernel_rfl) rfl rfl rfl hS (fun _ _ _ h => h) rfl fun a hK => ?_
      refine d_done (by kernel_rfl) ?_
      have hK := hK.keep [4] rfl
      refine (nm_then ?_)
      refine wp_ret ?_
      have h := Option.some.inj h
      subst h
      exact finR1 hK rfl (RV.tmp hK rfl) ⟨rfl, hM.ext⟩
  · have h := bif_f hb32 h
    have hK := hK.re (d := 28) rfl (congrArg Value.bool hb32)
    refine d_skip hK 8 rfl (by kernel_rfl) (by kernel_rfl) (by kernel_rfl) rfl rfl rfl hS (fun _ _ _ h => h) fun a hK => ?_
    refine d_skip hK 9 rfl (by kernel_rfl) (by kernel_rfl) (by kernel_rfl) rfl rfl rfl hS (fun _ _ _ h => h) fun a hK => ?_
    refine d_skip hK 10 rfl (by kernel_rfl) (by kernel_rfl) (by kernel_rfl) rfl rfl rfl hS (fun _ _ _ h => h) fun a hK => ?_
    refine d_skip hK 11 rfl (by kernel_rfl) (by kernel_rfl) (by kernel_rfl) rfl rfl rfl hS (fun _ _ _ h => h) fun a hK => ?_
    refine d_skip hK 12 rfl (by kernel_rfl) (by kernel_rfl) (by kernel_rfl) rfl rfl rfl hS (fun _ _ _ h => h) fun a hK => ?_
    refine d_skip hK 13 rfl (by kernel_rfl) (by kernel_rfl) (by kernel_rfl) rfl rfl rfl hS (fun _ _ _ h => h) fun a hK => ?_
    refine d_skip hK 14 rfl (by kernel_rfl) (by kernel_rfl) (by kernel_rfl) rfl rfl rfl hS (fun _ _ _ h => h) fun a hK => ?_
    refine d_pure hK 15 rfl (by kernel_rfl) (by kernel_rfl) (by kernel_rfl) rfl rfl rfl hS (fun _ _ _ h => h) rfl fun a hK => ?_
    refine d_pure hK 16 rfl (by kernel_rfl) (by kernel_rfl) (by kernel_rfl) rfl rfl rfl hS (fun _ _ _ h => h) rfl fun a hK => ?_
    refine d_skip hK 17 rfl (by kernel_rfl) (by kernel_rfl) (by kernel_rfl) rfl rfl rfl hS (fun _ _ _ h => h) fun a hK => ?_
    refine d_skip hK 18 rfl (by kernel_rfl) (by kernel_rfl) (by kernel_rfl) rfl rfl rfl hS (fun _ _ _ h => h) fun a hK => ?_
    refine d_skip hK 19 rfl (by kernel_rfl) (by kernel_rfl) (by kernel_rfl) rfl rfl rfl hS (fun _ _ _ h => h) fun a hK => ?_
    refine d_skip hK 20 rfl (by kernel_rfl) (by kernel_rfl) (by kernel_rfl) rfl rfl rfl hS (fun _ _ _ h => h) fun a hK => ?_
    refine d_skip hK 21 rfl (by kernel_rfl) (by kernel_rfl) (by kernel_rfl) rfl rfl rfl hS (fun _ _ _ h => h) fun a hK => ?_
    refine d_skip hK 22 rfl (by kernel_rfl) (by kernel_rfl) (by kernel_rfl) rfl rfl rfl hS (fun _ _ _ h => h) fun a hK => ?_
    refine d_skip hK 23 rfl (by kernel_rfl) (by kernel_rfl) (by kernel_rfl) rfl rfl rfl hS (fun _ _ _ h => h) fun a hK => ?_
    refine d_pure hK 24 rfl (by kernel_rfl) (by kernel_rfl) (by kernel_rfl) rfl rfl rfl hS (fun _ _ _ h => h) rfl fun a hK => ?_
    refine d_pure hK 25 rfl (by kernel_rfl) (by kernel_rfl) (by kernel_rfl) rfl rfl rfl hS (fun _ _ _ h => h) rfl fun a hK => ?_
    refine d_skip hK 26 rfl (by kernel_rfl) (by kernel_rfl) (by kernel_rfl) rfl rfl rfl hS (fun _ _ _ h => h) fun a hK => ?_
    refine d_skip hK 27 rfl (by kernel_rfl) (by kernel_rfl) (by kernel_rfl) rfl rfl rfl hS (fun _ _ _ h => h) fun a hK => ?_
    refine d_skip hK 28 rfl (by kernel_rfl) (by kernel_rfl) (by kernel_rfl) rfl rfl rfl hS (fun _ _ _ h => h) fun a hK => ?_
    refine d_skip hK 29 rfl (by kernel_rfl) (by kernel_rfl) (by kernel_rfl) rfl rfl rfl hS (fun _ _ _ h => h) fun a hK => ?_
    refine d_skip hK 30 rfl (by kernel_rfl) (by kernel_rfl) (by kernel_rfl) rfl rfl rfl hS (fun _ _ _ h => h) fun a hK => ?_
    refine d_pure hK 31 rfl (by kernel_rfl) (by kernel_rfl) (by kernel_rfl) rfl rfl rfl hS (fun _ _ _ h => h) rfl fun a hK => ?_
    refine d_pure hK 32 rfl (by kernel_rfl) (by kernel_rfl) (by kernel_rfl) rfl rfl rfl hS (fun _ _ _ h => h) rfl fun a hK => ?_
    refine d_done (by kernel_rfl) ?_
    have hK := hK.keep [4] rfl
    refine (nm_then ?_)
    refine wp_ret ?_
    have h := Option.some.inj h
    subst h
    exact finR1 hK rfl (RV.tmp hK rfl) ⟨rfl, hM.ext⟩

end Go.Proofs.YthjbcfefkdbgoaaGreat
