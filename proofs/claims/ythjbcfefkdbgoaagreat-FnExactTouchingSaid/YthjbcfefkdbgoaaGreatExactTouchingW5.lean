/- FnExactTouching: the walks of functions that the law reaches, part 5. Printed by gen.py. -/
import Derived.Test.YthjbcfefkdbgoaaGreatExactTouchingW4
set_option maxRecDepth 20000
set_option linter.unusedSimpArgs false
set_option linter.unusedVariables false
namespace Go.Proofs.YthjbcfefkdbgoaaGreat
open Go Go.RowKit
open Enc (rd ow)
open Arg (argv)
open Ret (retv)
open Go.Proofs.Tryz

theorem ta28 : TA Tryz.prog 28 10 := ⟨Tryz.isAgg28, sizeOf28⟩

def d_laws_eqPair (fu : Nat) (a1 : Pair) (b2 : Pair) : Option (Bool) :=
  bif (a1.fA != b2.fA) then some (false) else bif (a1.fB != b2.fB) then some (false) else some (true)

def d_laws_eqPairS_L1_B (fu : Nat)  (a1 : List Pair) (b5 : List Pair) (k1 : Int → Option (Bool)) (i36 : Int) : Option (Bool) :=
  bif (decide (i36 < ((a1.length : Int)))) then obind (ix a1 i36) fun x40 => obind (ix b5 i36) fun x42 => obind (d_laws_eqPair fu x40 x42) fun x44 => bif (!x44) then some (false) else k1 (w64 (i36 + 1)) else some (true)
def d_laws_eqPairS_L1 (fu : Nat)  (a1 : List Pair) (b5 : List Pair) : Nat → Int → Option (Bool)
  | 0 => fun _ => none
  | n + 1 => d_laws_eqPairS_L1_B fu a1 b5 (d_laws_eqPairS_L1 fu a1 b5 n)
theorem d_laws_eqPairS_L1_s (fu : Nat)  (a1 : List Pair) (b5 : List Pair) (n : Nat) : d_laws_eqPairS_L1 fu a1 b5 (n + 1) = d_laws_eqPairS_L1_B fu a1 b5 (d_laws_eqPairS_L1 fu a1 b5 n) := rfl

def d_laws_eqPairS (fu : Nat) (a1 : List Pair) (b5 : List Pair) : Option (Bool) :=
  bif (((a1.length : Int)) != ((b5.length : Int))) then some (false) else d_laws_eqPairS_L1 fu a1 b5 fu 0

def d_laws_eqType (fu : Nat) (a1 : Typ) (b2 : Typ) : Option (Bool) :=
  bif (a1.fId != b2.fId) then some (false) else bif (a1.fW != b2.fW) then some (false) else bif (a1.fH != b2.fH) then some (false) else bif (a1.fD != b2.fD) then some (false) else bif (a1.fTare != b2.fTare) then some (false) else bif (a1.fGram != b2.fGram) then some (false) else bif (a1.fCost != b2.fCost) then some (false) else some (true)

def d_laws_eqTypeS_L1_B (fu : Nat)  (a1 : List Typ) (b5 : List Typ) (k1 : Int → Option (Bool)) (i36 : Int) : Option (Bool) :=
  bif (decide (i36 < ((a1.length : Int)))) then obind (ix a1 i36) fun x40 => obind (ix b5 i36) fun x42 => obind (d_laws_eqType fu x40 x42) fun x44 => bif (!x44) then some (false) else k1 (w64 (i36 + 1)) else some (true)
def d_laws_eqTypeS_L1 (fu : Nat)  (a1 : List Typ) (b5 : List Typ) : Nat → Int → Option (Bool)
  | 0 => fun _ => none
  | n + 1 => d_laws_eqTypeS_L1_B fu a1 b5 (d_laws_eqTypeS_L1 fu a1 b5 n)
theorem d_laws_eqTypeS_L1_s (fu : Nat)  (a1 : List Typ) (b5 : List Typ) (n : Nat) : d_laws_eqTypeS_L1 fu a1 b5 (n + 1) = d_laws_eqTypeS_L1_B fu a1 b5 (d_laws_eqTypeS_L1 fu a1 b5 n) := rfl

def d_laws_eqTypeS (fu : Nat) (a1 : List Typ) (b5 : List Typ) : Option (Bool) :=
  bif (((a1.length : Int)) != ((b5.length : Int))) then some (false) else d_laws_eqTypeS_L1 fu a1 b5 fu 0

def d_laws_eqItem (fu : Nat) (a1 : Item) (b2 : Item) : Option (Bool) :=
  bif (a1.fId != b2.fId) then some (false) else bif (a1.fW != b2.fW) then some (false) else bif (a1.fH != b2.fH) then some (false) else bif (a1.fD != b2.fD) then some (false) else bif (a1.fGram != b2.fGram) then some (false) else bif (a1.fClass != b2.fClass) then some (false) else bif (a1.fCount != b2.fCount) then some (false) else some (true)

def d_laws_eqItemS_L1_B (fu : Nat)  (a1 : List Item) (b5 : List Item) (k1 : Int → Option (Bool)) (i36 : Int) : Option (Bool) :=
  bif (decide (i36 < ((a1.length : Int)))) then obind (ix a1 i36) fun x40 => obind (ix b5 i36) fun x42 => obind (d_laws_eqItem fu x40 x42) fun x44 => bif (!x44) then some (false) else k1 (w64 (i36 + 1)) else some (true)
def d_laws_eqItemS_L1 (fu : Nat)  (a1 : List Item) (b5 : List Item) : Nat → Int → Option (Bool)
  | 0 => fun _ => none
  | n + 1 => d_laws_eqItemS_L1_B fu a1 b5 (d_laws_eqItemS_L1 fu a1 b5 n)
theorem d_laws_eqItemS_L1_s (fu : Nat)  (a1 : List Item) (b5 : List Item) (n : Nat) : d_laws_eqItemS_L1 fu a1 b5 (n + 1) = d_laws_eqItemS_L1_B fu a1 b5 (d_laws_eqItemS_L1 fu a1 b5 n) := rfl

def d_laws_eqItemS (fu : Nat) (a1 : List Item) (b5 : List Item) : Option (Bool) :=
  bif (((a1.length : Int)) != ((b5.length : Int))) then some (false) else d_laws_eqItemS_L1 fu a1 b5 fu 0

def d_laws_eqRequest (fu : Nat) (a1 : Request) (b5 : Request) : Option (Bool) :=
  bif (a1.fWay != b5.fWay) then some (false) else obind (d_laws_eqPallet fu a1.fPallet b5.fPallet) fun x34 => bif (!x34) then some (false) else bif (a1.fClasses != b5.fClasses) then some (false) else obind (d_laws_eqPairS fu a1.fPairs b5.fPairs) fun x40 => bif (!x40) then some (false) else obind (d_laws_eqTypeS fu a1.fTypes b5.fTypes) fun x45 => bif (!x45) then some (false) else bif (a1.fMaster != b5.fMaster) then some (false) else obind (d_laws_eqItemS fu a1.fItems b5.fItems) fun x51 => bif (!x51) then some (false) else some (true)

def d_laws_eqIntS_L1_B (fu : Nat)  (a1 : List Int) (b5 : List Int) (k1 : Int → Option (Bool)) (i28 : Int) : Option (Bool) :=
  bif (decide (i28 < ((a1.length : Int)))) then obind (ix a1 i28) fun x32 => obind (ix b5 i28) fun x34 => bif (x32 != x34) then some (false) else k1 (w64 (i28 + 1)) else some (true)
def d_laws_eqIntS_L1 (fu : Nat)  (a1 : List Int) (b5 : List Int) : Nat → Int → Option (Bool)
  | 0 => fun _ => none
  | n + 1 => d_laws_eqIntS_L1_B fu a1 b5 (d_laws_eqIntS_L1 fu a1 b5 n)
theorem d_laws_eqIntS_L1_s (fu : Nat)  (a1 : List Int) (b5 : List Int) (n : Nat) : d_laws_eqIntS_L1 fu a1 b5 (n + 1) = d_laws_eqIntS_L1_B fu a1 b5 (d_laws_eqIntS_L1 fu a1 b5 n) := rfl

def d_laws_eqIntS (fu : Nat) (a1 : List Int) (b5 : List Int) : Option (Bool) :=
  bif (((a1.length : Int)) != ((b5.length : Int))) then some (false) else d_laws_eqIntS_L1 fu a1 b5 fu 0

def d_laws_eqIntSS_L1_B (fu : Nat)  (a1 : List (List Int)) (b5 : List (List Int)) (k1 : Int → Option (Bool)) (i64 : Int) : Option (Bool) :=
  bif (decide (i64 < ((a1.length : Int)))) then obind (ix a1 i64) fun x68 => obind (ix b5 i64) fun x77 => obind (d_laws_eqIntS fu x68 x77) fun x86 => bif (!x86) then some (false) else k1 (w64 (i64 + 1)) else some (true)
def d_laws_eqIntSS_L1 (fu : Nat)  (a1 : List (List Int)) (b5 : List (List Int)) : Nat → Int → Option (Bool)
  | 0 => fun _ => none
  | n + 1 => d_laws_eqIntSS_L1_B fu a1 b5 (d_laws_eqIntSS_L1 fu a1 b5 n)
theorem d_laws_eqIntSS_L1_s (fu : Nat)  (a1 : List (List Int)) (b5 : List (List Int)) (n : Nat) : d_laws_eqIntSS_L1 fu a1 b5 (n + 1) = d_laws_eqIntSS_L1_B fu a1 b5 (d_laws_eqIntSS_L1 fu a1 b5 n) := rfl

def d_laws_eqIntSS (fu : Nat) (a1 : List (List Int)) (b5 : List (List Int)) : Option (Bool) :=
  bif (((a1.length : Int)) != ((b5.length : Int))) then some (false) else d_laws_eqIntSS_L1 fu a1 b5 fu 0

def d_laws_FnExactTouching (fu : Nat) (aR1 : Request) (aCartons5 : List (List Int)) (aK9 : Int) : Option (Bool) :=
  obind (d_laws_szRequest fu aR1 1048576) fun x22 => bif (decide (x22 < 0)) then some (true) else obind (d_laws_szIntSS fu aCartons5 x22) fun x27 => bif (decide (x27 < 0)) then some (true) else obind (d_laws_toRequest fu aR1) fun x32 => obind (d_laws_toIntSS fu aCartons5) fun x50 => obind (d_spec_Touching fu x32 x50 aK9) fun x59 => obind (d_laws_toRequest fu aR1) fun x63 => obind (d_laws_toIntSS fu aCartons5) fun x86 => obind (d_impl_Touching fu x63 x86 aK9) fun x95 => bif (x95 != x59) then some (false) else obind (d_laws_toRequest fu aR1) fun x101 => obind (d_laws_eqRequest fu x63 x101) fun x120 => bif (!x120) then some (false) else obind (d_laws_toIntSS fu aCartons5) fun x125 => obind (d_laws_eqIntSS fu x86 x125) fun x134 => bif (!x134) then some (false) else some (true)

theorem c_laws_eqPair (fu : Nat) {w0 : World} (a1 : Pair) (b2 : Pair)  {r : Bool}
    (h : d_laws_eqPair fu a1 b2 = some r) :
    Calls Tryz.prog 144 #[.agg (Flat.e (a1)).toArray, .agg (Flat.e (b2)).toArray] w0 fun e w => e = .returned (.bool (r)) ∧ Ext [] w0 w := by
 refine enter (vs := [_, _]) func144 rfl ntmps144 rfl fun a k => ?_
 have m := St.start w0
 unfold d_laws_eqPair at h
 refine wr (s_box (cs := [.int .i64 a1.fA, .int .i64 a1.fB]) m k rfl rfl rfl rfl rfl rfl fun b3 w5 a k m e hb4 => s_box (cs := [.int .i64 b2.fA, .int .i64 b2.fB]) m k rfl rfl rfl rfl rfl rfl fun b6 w8 a k m e hb7 => pN 1 k rfl fun a k => nn (wp_seq (wr (sv k rfl (r_fa fa144_0 k rfl rfl) fun a k => sv k rfl (r_ldb t13 m 1 hb4 0 k rfl rfl rfl rfl rfl) fun a k => sv k rfl (r_fa fa144_0 k rfl rfl) fun a k => sv k rfl (r_ldb t13 m 0 hb7 0 k rfl rfl rfl rfl rfl) fun a k => pN 1 k rfl fun a k => nn (cI h k rfl (fun hb9 h => ?_) fun hb9 h => ?_)))))
 · refine wr (pN 1 k rfl fun a k => nn (wp_ret (rt_then ?_)))
   refine fS h k m rfl rfl
 refine wp_skip (nm_then ?_)
 refine wp_seq (wr (sv k rfl (r_fa fa144_1 k rfl rfl) fun a k => sv k rfl (r_ldb t13 m 1 hb4 1 k rfl rfl rfl rfl rfl) fun a k => sv k rfl (r_fa fa144_1 k rfl rfl) fun a k => sv k rfl (r_ldb t13 m 0 hb7 1 k rfl rfl rfl rfl rfl) fun a k => pN 1 k rfl fun a k => nn (cI h k rfl (fun hb10 h => ?_) fun hb10 h => ?_)))
 · refine wr (pN 1 k rfl fun a k => nn (wp_ret (rt_then ?_)))
   refine fS h k m rfl rfl
 refine wp_skip (nm_then ?_)
 refine wr (pN 1 k rfl fun a k => nn (wp_ret (fS h k m rfl rfl)))
theorem c_laws_eqPairS (fu : Nat) {w0 : World} (a1 : List Pair) (b5 : List Pair) {v2 : Value} {F3 : List Nat} (hp4 : rd w0 F3 [v2] a1) {v6 : Value} {F7 : List Nat} (hp8 : rd w0 F7 [v6] b5) {r : Bool}
    (h : d_laws_eqPairS fu a1 b5 = some r) :
    Calls Tryz.prog 80 #[v2, v6] w0 fun e w => e = .returned (.bool (r)) ∧ Ext [] w0 w := by
 refine enter (vs := [_, _]) func80 rfl ntmps80 rfl fun a k => ?_
 have m := St.start w0
 unfold d_laws_eqPairS at h
 refine wr (pN 1 k rfl fun a k => nn (wp_seq (wr (pN 1 k rfl fun a k => sv k rfl (r_len (α := Pair) hp4 k underlying36 rfl rfl) fun a k => pN 1 k rfl fun a k => sv k rfl (r_len (α := Pair) hp8 k underlying36 rfl rfl) fun a k => pN 1 k rfl fun a k => nn (cI h k rfl (fun hb9 h => ?_) fun hb9 h => ?_)))))
 · refine wr (pN 1 k rfl fun a k => nn (wp_ret (rt_then ?_)))
   refine fS h k m rfl rfl
 refine wp_skip (nm_then ?_)
 refine wp_seq (wr (pN 1 k rfl fun a k => nn (wp_block (c_loop (fun n a w => ∃ (i36 : Int), K 27 [(0, v2), (1, v6), (5, .int .i64 i36)] a ∧ St [] w0 w [] ∧ d_laws_eqPairS_L1 fu a1 b5 n i36 = some r) ?_ ?_ fu _ _ ?_))))
 · rintro a w ⟨_, _, _, h⟩
   exact nS h
 · rintro m37 a w35 ⟨i36, k, m, h⟩
   rw [d_laws_eqPairS_L1_s] at h
   unfold d_laws_eqPairS_L1_B at h
   refine wp_seq (wr (pN 2 k rfl fun a k => sv k rfl (r_len (α := Pair) hp4 k underlying36 rfl rfl) fun a k => pN 1 k rfl fun a k => nn (cI h k rfl (fun hb38 h => ?_) fun hb38 h => ?_)))
   · refine wp_skip (nm_then ?_)
     refine wp_seq (wp_block (wp_seq (d_go [] mixo m rfl fun w39 hMd => ?_)))
     have m := hMd
     have s := Ext.refl ([] : List Nat) w39
     refine dp k 0 rfl (by kernel_rfl) rfl s (fun _ _ _ => id) rfl fun a k => dp k 1 rfl (by kernel_rfl) rfl s (fun _ _ _ => id) rfl fun a k => oE h fun x40 hx41 h => dt k 2 rfl (by kernel_rfl) rfl s (fun _ _ _ => id) (fun w s => r_ixa hp4 hx41 k ts36 rfl rfl rfl) fun a k => dt k 3 rfl (by kernel_rfl) rfl s (fun _ _ _ => id) (fun w s => r_lde hp4 ((hMd.step s).a00 (Enc.rd_lt hp4)) hx41 ta144 k rfl rfl) fun a k => dp k 4 rfl (by kernel_rfl) rfl s (fun _ _ _ => id) rfl fun a k => dp k 5 rfl (by kernel_rfl) rfl s (fun _ _ _ => id) rfl fun a k => oE h fun x42 hx43 h => dt k 6 rfl (by kernel_rfl) rfl s (fun _ _ _ => id) (fun w s => r_ixa hp8 hx43 k ts36 rfl rfl rfl) fun a k => dt k 7 rfl (by kernel_rfl) rfl s (fun _ _ _ => id) (fun w s => r_lde hp8 ((hMd.step s).a00 (Enc.rd_lt hp8)) hx43 ta144 k rfl rfl) fun a k => d_one 8 (by kernel_rfl) rfl ?_
     refine oE h fun x44 hx45 h => cE k m call144 rfl rfl rfl (c_laws_eqPair fu (x40 : Pair) (x42 : Pair)  hx45) fun w47 e a k m => ?_
     have s := s.trans e (by simp)
     refine wpList_nil ⟨s, ?_⟩
     refine dp k 9 rfl (by kernel_rfl) rfl s (fun _ _ _ => id) rfl fun a k => d_done (by kernel_rfl) ((nm_then ?_))
     refine cI h k rfl (fun hb48 h => ?_) fun hb48 h => ?_
     · refine wr (pN 1 k rfl fun a k => nn (wp_ret (rt_block (rt_then (rt_then (rt_block (rt_then ?_)))))))
       refine fS h k m rfl rfl
     refine wp_skip (nm_block (nm_then ?_))
     refine wp_region_lit (pN 3 k rfl fun a k => nn ?_)
     exact ⟨w64 (i36 + 1), k.keep [0, 1, 5] rfl, m.sel [] rfl (by decide), h⟩
   refine wp_exit (ex_then (ex_then (ex_same (nm_then ?_))))
   refine wr (pN 1 k rfl fun a k => nn (wp_ret (fS h k m rfl rfl)))
 exact ⟨0, k.keep [0, 1, 5] rfl, m.sel [] rfl (by decide), h⟩
theorem c_laws_eqType (fu : Nat) {w0 : World} (a1 : Typ) (b2 : Typ)  {r : Bool}
    (h : d_laws_eqType fu a1 b2 = some r) :
    Calls Tryz.prog 145 #[.agg (Flat.e (a1)).toArray, .agg (Flat.e (b2)).toArray] w0 fun e w => e = .returned (.bool (r)) ∧ Ext [] w0 w := by
 refine enter (vs := [_, _]) func145 rfl ntmps145 rfl fun a k => ?_
 have m := St.start w0
 unfold d_laws_eqType at h
 refine wr (s_box (cs := [.int .i64 a1.fId, .int .i64 a1.fW, .int .i64 a1.fH, .int .i64 a1.fD, .int .i64 a1.fTare, .int .i64 a1.fGram, .int .i64 a1.fCost]) m k rfl rfl rfl rfl rfl rfl fun b3 w5 a k m e hb4 => s_box (cs := [.int .i64 b2.fId, .int .i64 b2.fW, .int .i64 b2.fH, .int .i64 b2.fD, .int .i64 b2.fTare, .int .i64 b2.fGram, .int .i64 b2.fCost]) m k rfl rfl rfl rfl rfl rfl fun b6 w8 a k m e hb7 => pN 1 k rfl fun a k => nn (wp_seq (wr (sv k rfl (r_fa fa92_0 k rfl rfl) fun a k => sv k rfl (r_ldb t13 m 1 hb4 0 k rfl rfl rfl rfl rfl) fun a k => sv k rfl (r_fa fa92_0 k rfl rfl) fun a k => sv k rfl (r_ldb t13 m 0 hb7 0 k rfl rfl rfl rfl rfl) fun a k => pN 1 k rfl fun a k => nn (cI h k rfl (fun hb9 h => ?_) fun hb9 h => ?_)))))
 · refine wr (pN 1 k rfl fun a k => nn (wp_ret (rt_then ?_)))
   refine fS h k m rfl rfl
 refine wp_skip (nm_then ?_)
 refine wp_seq (wr (sv k rfl (r_fa fa92_1 k rfl rfl) fun a k => sv k rfl (r_ldb t13 m 1 hb4 1 k rfl rfl rfl rfl rfl) fun a k => sv k rfl (r_fa fa92_1 k rfl rfl) fun a k => sv k rfl (r_ldb t13 m 0 hb7 1 k rfl rfl rfl rfl rfl) fun a k => pN 1 k rfl fun a k => nn (cI h k rfl (fun hb10 h => ?_) fun hb10 h => ?_)))
 · refine wr (pN 1 k rfl fun a k => nn (wp_ret (rt_then ?_)))
   refine fS h k m rfl rfl
 refine wp_skip (nm_then ?_)
 refine wp_seq (wr (sv k rfl (r_fa fa92_2 k rfl rfl) fun a k => sv k rfl (r_ldb t13 m 1 hb4 2 k rfl rfl rfl rfl rfl) fun a k => sv k rfl (r_fa fa92_2 k rfl rfl) fun a k => sv k rfl (r_ldb t13 m 0 hb7 2 k rfl rfl rfl rfl rfl) fun a k => pN 1 k rfl fun a k => nn (cI h k rfl (fun hb11 h => ?_) fun hb11 h => ?_)))
 · refine wr (pN 1 k rfl fun a k => nn (wp_ret (rt_then ?_)))
   refine fS h k m rfl rfl
 refine wp_skip (nm_then ?_)
 refine wp_seq (wr (sv k rfl (r_fa fa92_3 k rfl rfl) fun a k => sv k rfl (r_ldb t13 m 1 hb4 3 k rfl rfl rfl rfl rfl) fun a k => sv k rfl (r_fa fa92_3 k rfl rfl) fun a k => sv k rfl (r_ldb t13 m 0 hb7 3 k rfl rfl rfl rfl rfl) fun a k => pN 1 k rfl fun a k => nn (cI h k rfl (fun hb12 h => ?_) fun hb12 h => ?_)))
 · refine wr (pN 1 k rfl fun a k => nn (wp_ret (rt_then ?_)))
   refine fS h k m rfl rfl
 refine wp_skip (nm_then ?_)
 refine wp_seq (wr (sv k rfl (r_fa fa92_4 k rfl rfl) fun a k => sv k rfl (r_ldb t13 m 1 hb4 4 k rfl rfl rfl rfl rfl) fun a k => sv k rfl (r_fa fa92_4 k rfl rfl) fun a k => sv k rfl (r_ldb t13 m 0 hb7 4 k rfl rfl rfl rfl rfl) fun a k => pN 1 k rfl fun a k => ?_))
 have k := k.keep [2, 3, 29] rfl
 refine nn (cI h k rfl (fun hb13 h => ?_) fun hb13 h => ?_)
 · refine wr (pN 1 k rfl fun a k => nn (wp_ret (rt_then ?_)))
   refine fS h k m rfl rfl
 refine wp_skip (nm_then ?_)
 refine wp_seq (wr (sv k rfl (r_fa fa92_5 k rfl rfl) fun a k => sv k rfl (r_ldb t13 m 1 hb4 5 k rfl rfl rfl rfl rfl) fun a k => sv k rfl (r_fa fa92_5 k rfl rfl) fun a k => sv k rfl (r_ldb t13 m 0 hb7 5 k rfl rfl rfl rfl rfl) fun a k => pN 1 k rfl fun a k => nn (cI h k rfl (fun hb14 h => ?_) fun hb14 h => ?_)))
 · refine wr (pN 1 k rfl fun a k => nn (wp_ret (rt_then ?_)))
   refine fS h k m rfl rfl
 refine wp_skip (nm_then ?_)
 refine wp_seq (wr (sv k rfl (r_fa fa92_6 k rfl rfl) fun a k => sv k rfl (r_ldb t13 m 1 hb4 6 k rfl rfl rfl rfl rfl) fun a k => sv k rfl (r_fa fa92_6 k rfl rfl) fun a k => sv k rfl (r_ldb t13 m 0 hb7 6 k rfl rfl rfl rfl rfl) fun a k => pN 1 k rfl fun a k => nn (cI h k rfl (fun hb15 h => ?_) fun hb15 h => ?_)))
 · refine wr (pN 1 k rfl fun a k => nn (wp_ret (rt_then ?_)))
   refine fS h k m rfl rfl
 refine wp_skip (nm_then ?_)
 refine wr (pN 1 k rfl fun a k => nn (wp_ret (fS h k m rfl rfl)))
theorem c_laws_eqTypeS (fu : Nat) {w0 : World} (a1 : List Typ) (b5 : List Typ) {v2 : Value} {F3 : List Nat} (hp4 : rd w0 F3 [v2] a1) {v6 : Value} {F7 : List Nat} (hp8 : rd w0 F7 [v6] b5) {r : Bool}
    (h : d_laws_eqTypeS fu a1 b5 = some r) :
    Calls Tryz.prog 81 #[v2, v6] w0 fun e w => e = .returned (.bool (r)) ∧ Ext [] w0 w := by
 refine enter (vs := [_, _]) func81 rfl ntmps81 rfl fun a k => ?_
 have m := St.start w0
 unfold d_laws_eqTypeS at h
 refine wr (pN 1 k rfl fun a k => nn (wp_seq (wr (pN 1 k rfl fun a k => sv k rfl (r_len (α := Typ) hp4 k underlying37 rfl rfl) fun a k => pN 1 k rfl fun a k => sv k rfl (r_len (α := Typ) hp8 k underlying37 rfl rfl) fun a k => pN 1 k rfl fun a k => nn (cI h k rfl (fun hb9 h => ?_) fun hb9 h => ?_)))))
 · refine wr (pN 1 k rfl fun a k => nn (wp_ret (rt_then ?_)))
   refine fS h k m rfl rfl
 refine wp_skip (nm_then ?_)
 refine wp_seq (wr (pN 1 k rfl fun a k => nn (wp_block (c_loop (fun n a w => ∃ (i36 : Int), K 27 [(0, v2), (1, v6), (5, .int .i64 i36)] a ∧ St [] w0 w [] ∧ d_laws_eqTypeS_L1 fu a1 b5 n i36 = some r) ?_ ?_ fu _ _ ?_))))
 · rintro a w ⟨_, _, _, h⟩
   exact nS h
 · rintro m37 a w35 ⟨i36, k, m, h⟩
   rw [d_laws_eqTypeS_L1_s] at h
   unfold d_laws_eqTypeS_L1_B at h
   refine wp_seq (wr (pN 2 k rfl fun a k => sv k rfl (r_len (α := Typ) hp4 k underlying37 rfl rfl) fun a k => pN 1 k rfl fun a k => nn (cI h k rfl (fun hb38 h => ?_) fun hb38 h => ?_)))
   · refine wp_skip (nm_then ?_)
     refine wp_seq (wp_block (wp_seq (d_go [] mixo m rfl fun w39 hMd => ?_)))
     have m := hMd
     have s := Ext.refl ([] : List Nat) w39
     refine dp k 0 rfl (by kernel_rfl) rfl s (fun _ _ _ => id) rfl fun a k => dp k 1 rfl (by kernel_rfl) rfl s (fun _ _ _ => id) rfl fun a k => oE h fun x40 hx41 h => dt k 2 rfl (by kernel_rfl) rfl s (fun _ _ _ => id) (fun w s => r_ixa hp4 hx41 k ts37 rfl rfl rfl) fun a k => dt k 3 rfl (by kernel_rfl) rfl s (fun _ _ _ => id) (fun w s => r_lde hp4 ((hMd.step s).a00 (Enc.rd_lt hp4)) hx41 ta92 k rfl rfl) fun a k => dp k 4 rfl (by kernel_rfl) rfl s (fun _ _ _ => id) rfl fun a k => dp k 5 rfl (by kernel_rfl) rfl s (fun _ _ _ => id) rfl fun a k => oE h fun x42 hx43 h => dt k 6 rfl (by kernel_rfl) rfl s (fun _ _ _ => id) (fun w s => r_ixa hp8 hx43 k ts37 rfl rfl rfl) fun a k => dt k 7 rfl (by kernel_rfl) rfl s (fun _ _ _ => id) (fun w s => r_lde hp8 ((hMd.step s).a00 (Enc.rd_lt hp8)) hx43 ta92 k rfl rfl) fun a k => d_one 8 (by kernel_rfl) rfl ?_
     refine oE h fun x44 hx45 h => cE k m call145 rfl rfl rfl (c_laws_eqType fu (x40 : Typ) (x42 : Typ)  hx45) fun w47 e a k m => ?_
     have s := s.trans e (by simp)
     refine wpList_nil ⟨s, ?_⟩
     refine dp k 9 rfl (by kernel_rfl) rfl s (fun _ _ _ => id) rfl fun a k => d_done (by kernel_rfl) ((nm_then ?_))
     refine cI h k rfl (fun hb48 h => ?_) fun hb48 h => ?_
     · refine wr (pN 1 k rfl fun a k => nn (wp_ret (rt_block (rt_then (rt_then (rt_block (rt_then ?_)))))))
       refine fS h k m rfl rfl
     refine wp_skip (nm_block (nm_then ?_))
     refine wp_region_lit (pN 3 k rfl fun a k => nn ?_)
     exact ⟨w64 (i36 + 1), k.keep [0, 1, 5] rfl, m.sel [] rfl (by decide), h⟩
   refine wp_exit (ex_then (ex_then (ex_same (nm_then ?_))))
   refine wr (pN 1 k rfl fun a k => nn (wp_ret (fS h k m rfl rfl)))
 exact ⟨0, k.keep [0, 1, 5] rfl, m.sel [] rfl (by decide), h⟩
theorem c_laws_eqItem (fu : Nat) {w0 : World} (a1 : Item) (b2 : Item)  {r : Bool}
    (h : d_laws_eqItem fu a1 b2 = some r) :
    Calls Tryz.prog 146 #[.agg (Flat.e (a1)).toArray, .agg (Flat.e (b2)).toArray] w0 fun e w => e = .returned (.bool (r)) ∧ Ext [] w0 w := by
 refine enter (vs := [_, _]) func146 rfl ntmps146 rfl fun a k => ?_
 have m := St.start w0
 unfold d_laws_eqItem at h
 refine wr (s_box (cs := [.int .i64 a1.fId, .int .i64 a1.fW, .int .i64 a1.fH, .int .i64 a1.fD, .int .i64 a1.fGram, .int .i64 a1.fClass, .int .i64 a1.fCount]) m k rfl rfl rfl rfl rfl rfl fun b3 w5 a k m e hb4 => s_box (cs := [.int .i64 b2.fId, .int .i64 b2.fW, .int .i64 b2.fH, .int .i64 b2.fD, .int .i64 b2.fGram, .int .i64 b2.fClass, .int .i64 b2.fCount]) m k rfl rfl rfl rfl rfl rfl fun b6 w8 a k m e hb7 => pN 1 k rfl fun a k => nn (wp_seq (wr (sv k rfl (r_fa fa120_0 k rfl rfl) fun a k => sv k rfl (r_ldb t13 m 1 hb4 0 k rfl rfl rfl rfl rfl) fun a k => sv k rfl (r_fa fa120_0 k rfl rfl) fun a k => sv k rfl (r_ldb t13 m 0 hb7 0 k rfl rfl rfl rfl rfl) fun a k => pN 1 k rfl fun a k => nn (cI h k rfl (fun hb9 h => ?_) fun hb9 h => ?_)))))
 · refine wr (pN 1 k rfl fun a k => nn (wp_ret (rt_then ?_)))
   refine fS h k m rfl rfl
 refine wp_skip (nm_then ?_)
 refine wp_seq (wr (sv k rfl (r_fa fa120_1 k rfl rfl) fun a k => sv k rfl (r_ldb t13 m 1 hb4 1 k rfl rfl rfl rfl rfl) fun a k => sv k rfl (r_fa fa120_1 k rfl rfl) fun a k => sv k rfl (r_ldb t13 m 0 hb7 1 k rfl rfl rfl rfl rfl) fun a k => pN 1 k rfl fun a k => nn (cI h k rfl (fun hb10 h => ?_) fun hb10 h => ?_)))
 · refine wr (pN 1 k rfl fun a k => nn (wp_ret (rt_then ?_)))
   refine fS h k m rfl rfl
 refine wp_skip (nm_then ?_)
 refine wp_seq (wr (sv k rfl (r_fa fa120_2 k rfl rfl) fun a k => sv k rfl (r_ldb t13 m 1 hb4 2 k rfl rfl rfl rfl rfl) fun a k => sv k rfl (r_fa fa120_2 k rfl rfl) fun a k => sv k rfl (r_ldb t13 m 0 hb7 2 k rfl rfl rfl rfl rfl) fun a k => pN 1 k rfl fun a k => nn (cI h k rfl (fun hb11 h => ?_) fun hb11 h => ?_)))
 · refine wr (pN 1 k rfl fun a k => nn (wp_ret (rt_then ?_)))
   refine fS h k m rfl rfl
 refine wp_skip (nm_then ?_)
 refine wp_seq (wr (sv k rfl (r_fa fa120_3 k rfl rfl) fun a k => sv k rfl (r_ldb t13 m 1 hb4 3 k rfl rfl rfl rfl rfl) fun a k => sv k rfl (r_fa fa120_3 k rfl rfl) fun a k => sv k rfl (r_ldb t13 m 0 hb7 3 k rfl rfl rfl rfl rfl) fun a k => pN 1 k rfl fun a k => nn (cI h k rfl (fun hb12 h => ?_) fun hb12 h => ?_)))
 · refine wr (pN 1 k rfl fun a k => nn (wp_ret (rt_then ?_)))
   refine fS h k m rfl rfl
 refine wp_skip (nm_then ?_)
 refine wp_seq (wr (sv k rfl (r_fa fa120_4 k rfl rfl) fun a k => sv k rfl (r_ldb t13 m 1 hb4 4 k rfl rfl rfl rfl rfl) fun a k => sv k rfl (r_fa fa120_4 k rfl rfl) fun a k => sv k rfl (r_ldb t13 m 0 hb7 4 k rfl rfl rfl rfl rfl) fun a k => pN 1 k rfl fun a k => ?_))
 have k := k.keep [2, 3, 29] rfl
 refine nn (cI h k rfl (fun hb13 h => ?_) fun hb13 h => ?_)
 · refine wr (pN 1 k rfl fun a k => nn (wp_ret (rt_then ?_)))
   refine fS h k m rfl rfl
 refine wp_skip (nm_then ?_)
 refine wp_seq (wr (sv k rfl (r_fa fa120_5 k rfl rfl) fun a k => sv k rfl (r_ldb t13 m 1 hb4 5 k rfl rfl rfl rfl rfl) fun a k => sv k rfl (r_fa fa120_5 k rfl rfl) fun a k => sv k rfl (r_ldb t13 m 0 hb7 5 k rfl rfl rfl rfl rfl) fun a k => pN 1 k rfl fun a k => nn (cI h k rfl (fun hb14 h => ?_) fun hb14 h => ?_)))
 · refine wr (pN 1 k rfl fun a k => nn (wp_ret (rt_then ?_)))
   refine fS h k m rfl rfl
 refine wp_skip (nm_then ?_)
 refine wp_seq (wr (sv k rfl (r_fa fa120_6 k rfl rfl) fun a k => sv k rfl (r_ldb t13 m 1 hb4 6 k rfl rfl rfl rfl rfl) fun a k => sv k rfl (r_fa fa120_6 k rfl rfl) fun a k => sv k rfl (r_ldb t13 m 0 hb7 6 k rfl rfl rfl rfl rfl) fun a k => pN 1 k rfl fun a k => nn (cI h k rfl (fun hb15 h => ?_) fun hb15 h => ?_)))
 · refine wr (pN 1 k rfl fun a k => nn (wp_ret (rt_then ?_)))
   refine fS h k m rfl rfl
 refine wp_skip (nm_then ?_)
 refine wr (pN 1 k rfl fun a k => nn (wp_ret (fS h k m rfl rfl)))
theorem c_laws_eqItemS (fu : Nat) {w0 : World} (a1 : List Item) (b5 : List Item) {v2 : Value} {F3 : List Nat} (hp4 : rd w0 F3 [v2] a1) {v6 : Value} {F7 : List Nat} (hp8 : rd w0 F7 [v6] b5) {r : Bool}
    (h : d_laws_eqItemS fu a1 b5 = some r) :
    Calls Tryz.prog 82 #[v2, v6] w0 fun e w => e = .returned (.bool (r)) ∧ Ext [] w0 w := by
 refine enter (vs := [_, _]) func82 rfl ntmps82 rfl fun a k => ?_
 have m := St.start w0
 unfold d_laws_eqItemS at h
 refine wr (pN 1 k rfl fun a k => nn (wp_seq (wr (pN 1 k rfl fun a k => sv k rfl (r_len (α := Item) hp4 k underlying38 rfl rfl) fun a k => pN 1 k rfl fun a k => sv k rfl (r_len (α := Item) hp8 k underlying38 rfl rfl) fun a k => pN 1 k rfl fun a k => nn (cI h k rfl (fun hb9 h => ?_) fun hb9 h => ?_)))))
 · refine wr (pN 1 k rfl fun a k => nn (wp_ret (rt_then ?_)))
   refine fS h k m rfl rfl
 refine wp_skip (nm_then ?_)
 refine wp_seq (wr (pN 1 k rfl fun a k => nn (wp_block (c_loop (fun n a w => ∃ (i36 : Int), K 27 [(0, v2), (1, v6), (5, .int .i64 i36)] a ∧ St [] w0 w [] ∧ d_laws_eqItemS_L1 fu a1 b5 n i36 = some r) ?_ ?_ fu _ _ ?_))))
 · rintro a w ⟨_, _, _, h⟩
   exact nS h
 · rintro m37 a w35 ⟨i36, k, m, h⟩
   rw [d_laws_eqItemS_L1_s] at h
   unfold d_laws_eqItemS_L1_B at h
   refine wp_seq (wr (pN 2 k rfl fun a k => sv k rfl (r_len (α := Item) hp4 k underlying38 rfl rfl) fun a k => pN 1 k rfl fun a k => nn (cI h k rfl (fun hb38 h => ?_) fun hb38 h => ?_)))
   · refine wp_skip (nm_then ?_)
     refine wp_seq (wp_block (wp_seq (d_go [] mixo m rfl fun w39 hMd => ?_)))
     have m := hMd
     have s := Ext.refl ([] : List Nat) w39
     refine dp k 0 rfl (by kernel_rfl) rfl s (fun _ _ _ => id) rfl fun a k => dp k 1 rfl (by kernel_rfl) rfl s (fun _ _ _ => id) rfl fun a k => oE h fun x40 hx41 h => dt k 2 rfl (by kernel_rfl) rfl s (fun _ _ _ => id) (fun w s => r_ixa hp4 hx41 k ts38 rfl rfl rfl) fun a k => dt k 3 rfl (by kernel_rfl) rfl s (fun _ _ _ => id) (fun w s => r_lde hp4 ((hMd.step s).a00 (Enc.rd_lt hp4)) hx41 ta120 k rfl rfl) fun a k => dp k 4 rfl (by kernel_rfl) rfl s (fun _ _ _ => id) rfl fun a k => dp k 5 rfl (by kernel_rfl) rfl s (fun _ _ _ => id) rfl fun a k => oE h fun x42 hx43 h => dt k 6 rfl (by kernel_rfl) rfl s (fun _ _ _ => id) (fun w s => r_ixa hp8 hx43 k ts38 rfl rfl rfl) fun a k => dt k 7 rfl (by kernel_rfl) rfl s (fun _ _ _ => id) (fun w s => r_lde hp8 ((hMd.step s).a00 (Enc.rd_lt hp8)) hx43 ta120 k rfl rfl) fun a k => d_one 8 (by kernel_rfl) rfl ?_
     refine oE h fun x44 hx45 h => cE k m call146 rfl rfl rfl (c_laws_eqItem fu (x40 : Item) (x42 : Item)  hx45) fun w47 e a k m => ?_
     have s := s.trans e (by simp)
     refine wpList_nil ⟨s, ?_⟩
     refine dp k 9 rfl (by kernel_rfl) rfl s (fun _ _ _ => id) rfl fun a k => d_done (by kernel_rfl) ((nm_then ?_))
     refine cI h k rfl (fun hb48 h => ?_) fun hb48 h => ?_
     · refine wr (pN 1 k rfl fun a k => nn (wp_ret (rt_block (rt_then (rt_then (rt_block (rt_then ?_)))))))
       refine fS h k m rfl rfl
     refine wp_skip (nm_block (nm_then ?_))
     refine wp_region_lit (pN 3 k rfl fun a k => nn ?_)
     exact ⟨w64 (i36 + 1), k.keep [0, 1, 5] rfl, m.sel [] rfl (by decide), h⟩
   refine wp_exit (ex_then (ex_then (ex_same (nm_then ?_))))
   refine wr (pN 1 k rfl fun a k => nn (wp_ret (fS h k m rfl rfl)))
 exact ⟨0, k.keep [0, 1, 5] rfl, m.sel [] rfl (by decide), h⟩
theorem c_laws_eqRequest (fu : Nat) {w0 : World} (a1 : Request) (b5 : Request) {cs2 : List Value} {F3 : List Nat} (hp4 : rd w0 F3 cs2 a1) {cs6 : List Value} {F7 : List Nat} (hp8 : rd w0 F7 cs6 b5) {r : Bool}
    (h : d_laws_eqRequest fu a1 b5 = some r) :
    Calls Tryz.prog 21 #[.agg cs2.toArray, .agg cs6.toArray] w0 fun e w => e = .returned (.bool (r)) ∧ Ext [] w0 w := by
 refine enter (vs := [_, _]) func21 rfl ntmps21 rfl fun a k => ?_
 have m := St.start w0
 obtain ⟨v9, F10, v11, F12, v13, F14, rfl, rfl, hf15, hf16, hf17⟩ := hp4
 obtain ⟨v18, F19, v20, F21, v22, F23, rfl, rfl, hf24, hf25, hf26⟩ := hp8
 unfold d_laws_eqRequest at h
 refine wr (s_box (cs := [.int .i64 a1.fWay, .int .i64 a1.fPallet.fW, .int .i64 a1.fPallet.fD, .int .i64 a1.fPallet.fH, .int .i64 a1.fPallet.fGram, .int .i64 a1.fClasses, v9, v11, .int .i64 a1.fMaster, v13]) m k rfl rfl rfl rfl rfl rfl fun b27 w29 a k m e hb28 => s_box (cs := [.int .i64 b5.fWay, .int .i64 b5.fPallet.fW, .int .i64 b5.fPallet.fD, .int .i64 b5.fPallet.fH, .int .i64 b5.fPallet.fGram, .int .i64 b5.fClasses, v18, v20, .int .i64 b5.fMaster, v22]) m k rfl rfl rfl rfl rfl rfl fun b30 w32 a k m e hb31 => pN 1 k rfl fun a k => nn (wp_seq (wr (sv k rfl (r_fa fa40_0 k rfl rfl) fun a k => sv k rfl (r_ldb t13 m 1 hb28 0 k rfl rfl rfl rfl rfl) fun a k => sv k rfl (r_fa fa40_0 k rfl rfl) fun a k => sv k rfl (r_ldb t13 m 0 hb31 0 k rfl rfl rfl rfl rfl) fun a k => pN 1 k rfl fun a k => nn ?_))))
 refine cI h k rfl (fun hb33 h => ?_) fun hb33 h => ?_
 · refine wr (pN 1 k rfl fun a k => nn (wp_ret (rt_then ?_)))
   refine fS h k m rfl rfl
 refine wp_skip (nm_then ?_)
 refine wp_seq (wr (sv k rfl (r_fa fa40_1 k rfl rfl) fun a k => sv k rfl (r_ldB ta35 m 1 hb28 1 k rfl rfl rfl rfl rfl rfl) fun a k => sv k rfl (r_fa fa40_1 k rfl rfl) fun a k => sv k rfl (r_ldB ta35 m 0 hb31 1 k rfl rfl rfl rfl rfl rfl) fun a k => oE h fun x34 hx35 h => cE k m call79 rfl rfl rfl (c_laws_eqPallet fu (a1.fPallet : Pallet) (b5.fPallet : Pallet)  hx35) fun w37 e a k m => pN 1 k rfl fun a k => nn (cI h k rfl (fun hb38 h => ?_) fun hb38 h => ?_)))
 · refine wr (pN 1 k rfl fun a k => nn (wp_ret (rt_then ?_)))
   refine fS h k m rfl rfl
 refine wp_skip (nm_then ?_)
 refine wp_seq (wr (sv k rfl (r_fa fa40_2 k rfl rfl) fun a k => sv k rfl (r_ldb t13 m 1 hb28 5 k rfl rfl rfl rfl rfl) fun a k => sv k rfl (r_fa fa40_2 k rfl rfl) fun a k => sv k rfl (r_ldb t13 m 0 hb31 5 k rfl rfl rfl rfl rfl) fun a k => pN 1 k rfl fun a k => nn (cI h k rfl (fun hb39 h => ?_) fun hb39 h => ?_)))
 · refine wr (pN 1 k rfl fun a k => nn (wp_ret (rt_then ?_)))
   refine fS h k m rfl rfl
 refine wp_skip (nm_then ?_)
 refine wp_seq (wr (sv k rfl (r_fa fa40_3 k rfl rfl) fun a k => sv k rfl (r_ldb t136 m 1 hb28 6 k rfl rfl rfl rfl rfl) fun a k => sv k rfl (r_fa fa40_3 k rfl rfl) fun a k => sv k rfl (r_ldb t136 m 0 hb31 6 k rfl rfl rfl rfl rfl) fun a k => oE h fun x40 hx41 h => cE k m call80 rfl rfl rfl (c_laws_eqPairS fu _ _ (Enc.rd_agr hf15 (m.a00 (Enc.rd_lt hf15))) (Enc.rd_agr hf24 (m.a00 (Enc.rd_lt hf24))) hx41) fun w43 e a k m => pN 1 k rfl fun a k => ?_))
 have k := k.keep [2, 3, 26] rfl
 refine nn (cI h k rfl (fun hb44 h => ?_) fun hb44 h => ?_)
 · refine wr (pN 1 k rfl fun a k => nn (wp_ret (rt_then ?_)))
   refine fS h k m rfl rfl
 refine wp_skip (nm_then ?_)
 refine wp_seq (wr (sv k rfl (r_fa fa40_4 k rfl rfl) fun a k => sv k rfl (r_ldb t137 m 1 hb28 7 k rfl rfl rfl rfl rfl) fun a k => sv k rfl (r_fa fa40_4 k rfl rfl) fun a k => sv k rfl (r_ldb t137 m 0 hb31 7 k rfl rfl rfl rfl rfl) fun a k => oE h fun x45 hx46 h => cE k m call81 rfl rfl rfl (c_laws_eqTypeS fu _ _ (Enc.rd_agr hf16 (m.a00 (Enc.rd_lt hf16))) (Enc.rd_agr hf25 (m.a00 (Enc.rd_lt hf25))) hx46) fun w48 e a k m => pN 1 k rfl fun a k => nn (cI h k rfl (fun hb49 h => ?_) fun hb49 h => ?_)))
 · refine wr (pN 1 k rfl fun a k => nn (wp_ret (rt_then ?_)))
   refine fS h k m rfl rfl
 refine wp_skip (nm_then ?_)
 refine wp_seq (wr (sv k rfl (r_fa fa40_5 k rfl rfl) fun a k => sv k rfl (r_ldb t13 m 1 hb28 8 k rfl rfl rfl rfl rfl) fun a k => sv k rfl (r_fa fa40_5 k rfl rfl) fun a k => sv k rfl (r_ldb t13 m 0 hb31 8 k rfl rfl rfl rfl rfl) fun a k => pN 1 k rfl fun a k => nn (cI h k rfl (fun hb50 h => ?_) fun hb50 h => ?_)))
 · refine wr (pN 1 k rfl fun a k => nn (wp_ret (rt_then ?_)))
   refine fS h k m rfl rfl
 refine wp_skip (nm_then ?_)
 refine wp_seq (wr (sv k rfl (r_fa fa40_6 k rfl rfl) fun a k => sv k rfl (r_ldb t138 m 1 hb28 9 k rfl rfl rfl rfl rfl) fun a k => sv k rfl (r_fa fa40_6 k rfl rfl) fun a k => sv k rfl (r_ldb t138 m 0 hb31 9 k rfl rfl rfl rfl rfl) fun a k => oE h fun x51 hx52 h => cE k m call82 rfl rfl rfl (c_laws_eqItemS fu _ _ (Enc.rd_agr hf17 (m.a00 (Enc.rd_lt hf17))) (Enc.rd_agr hf26 (m.a00 (Enc.rd_lt hf26))) hx52) fun w54 e a k m => pN 1 k rfl fun a k => nn (cI h k rfl (fun hb55 h => ?_) fun hb55 h => ?_)))
 · refine wr (pN 1 k rfl fun a k => nn (wp_ret (rt_then ?_)))
   refine fS h k m rfl rfl
 refine wp_skip (nm_then ?_)
 refine wr (pN 1 k rfl fun a k => nn (wp_ret (fS h k m rfl rfl)))
theorem c_laws_eqIntS (fu : Nat) {w0 : World} (a1 : List Int) (b5 : List Int) {v2 : Value} {F3 : List Nat} (hp4 : rd w0 F3 [v2] a1) {v6 : Value} {F7 : List Nat} (hp8 : rd w0 F7 [v6] b5) {r : Bool}
    (h : d_laws_eqIntS fu a1 b5 = some r) :
    Calls Tryz.prog 43 #[v2, v6] w0 fun e w => e = .returned (.bool (r)) ∧ Ext [] w0 w := by
 refine enter (vs := [_, _]) func43 rfl ntmps43 rfl fun a k => ?_
 have m := St.start w0
 unfold d_laws_eqIntS at h
 refine wr (pN 1 k rfl fun a k => nn (wp_seq (wr (pN 1 k rfl fun a k => sv k rfl (r_len (α := Int) hp4 k underlying29 rfl rfl) fun a k => pN 1 k rfl fun a k => sv k rfl (r_len (α := Int) hp8 k underlying29 rfl rfl) fun a k => pN 1 k rfl fun a k => nn (cI h k rfl (fun hb9 h => ?_) fun hb9 h => ?_)))))
 · refine wr (pN 1 k rfl fun a k => nn (wp_ret (rt_then ?_)))
   refine fS h k m rfl rfl
 refine wp_skip (nm_then ?_)
 refine wp_seq (wr (pN 1 k rfl fun a k => nn (wp_block (c_loop (fun n a w => ∃ (i28 : Int), K 26 [(0, v2), (1, v6), (5, .int .i64 i28)] a ∧ St [] w0 w [] ∧ d_laws_eqIntS_L1 fu a1 b5 n i28 = some r) ?_ ?_ fu _ _ ?_))))
 · rintro a w ⟨_, _, _, h⟩
   exact nS h
 · rintro m29 a w27 ⟨i28, k, m, h⟩
   rw [d_laws_eqIntS_L1_s] at h
   unfold d_laws_eqIntS_L1_B at h
   refine wp_seq (wr (pN 2 k rfl fun a k => sv k rfl (r_len (α := Int) hp4 k underlying29 rfl rfl) fun a k => pN 1 k rfl fun a k => nn (cI h k rfl (fun hb30 h => ?_) fun hb30 h => ?_)))
   · refine wp_skip (nm_then ?_)
     refine wp_seq (wp_block (wp_seq (d_go [] mixo m rfl fun w31 hMd => ?_)))
     have m := hMd
     have s := Ext.refl ([] : List Nat) w31
     refine dp k 0 rfl (by kernel_rfl) rfl s (fun _ _ _ => id) rfl fun a k => dp k 1 rfl (by kernel_rfl) rfl s (fun _ _ _ => id) rfl fun a k => oE h fun x32 hx33 h => dt k 2 rfl (by kernel_rfl) rfl s (fun _ _ _ => id) (fun w s => r_ixa hp4 hx33 k ts29 rfl rfl rfl) fun a k => dt k 3 rfl (by kernel_rfl) rfl s (fun _ _ _ => id) (fun w s => r_lde1 hp4 ((hMd.step s).a00 (Enc.rd_lt hp4)) hx33 0 t13 k rfl rfl rfl rfl) fun a k => dp k 4 rfl (by kernel_rfl) rfl s (fun _ _ _ => id) rfl fun a k => dp k 5 rfl (by kernel_rfl) rfl s (fun _ _ _ => id) rfl fun a k => oE h fun x34 hx35 h => dt k 6 rfl (by kernel_rfl) rfl s (fun _ _ _ => id) (fun w s => r_ixa hp8 hx35 k ts29 rfl rfl rfl) fun a k => dt k 7 rfl (by kernel_rfl) rfl s (fun _ _ _ => id) (fun w s => r_lde1 hp8 ((hMd.step s).a00 (Enc.rd_lt hp8)) hx35 0 t13 k rfl rfl rfl rfl) fun a k => ?_
     refine dp k 8 rfl (by kernel_rfl) rfl s (fun _ _ _ => id) rfl fun a k => d_done (by kernel_rfl) ((nm_then ?_))
     refine cI h k rfl (fun hb36 h => ?_) fun hb36 h => ?_
     · refine wr (pN 1 k rfl fun a k => nn (wp_ret (rt_block (rt_then (rt_then (rt_block (rt_then ?_)))))))
       refine fS h k m rfl rfl
     refine wp_skip (nm_block (nm_then ?_))
     refine wp_region_lit (pN 3 k rfl fun a k => nn ?_)
     exact ⟨w64 (i28 + 1), k.keep [0, 1, 5] rfl, m.sel [] rfl (by decide), h⟩
   refine wp_exit (ex_then (ex_then (ex_same (nm_then ?_))))
   refine wr (pN 1 k rfl fun a k => nn (wp_ret (fS h k m rfl rfl)))
 exact ⟨0, k.keep [0, 1, 5] rfl, m.sel [] rfl (by decide), h⟩
theorem c_laws_eqIntSS (fu : Nat) {w0 : World} (a1 : List (List Int)) (b5 : List (List Int)) {v2 : Value} {F3 : List Nat} (hp4 : rd w0 F3 [v2] a1) {v6 : Value} {F7 : List Nat} (hp8 : rd w0 F7 [v6] b5) {r : Bool}
    (h : d_laws_eqIntSS fu a1 b5 = some r) :
    Calls Tryz.prog 25 #[v2, v6] w0 fun e w => e = .returned (.bool (r)) ∧ Ext [] w0 w := by
 refine enter (vs := [_, _]) func25 rfl ntmps25 rfl fun a k => ?_
 have m := St.start w0
 unfold d_laws_eqIntSS at h
 refine wr (pN 1 k rfl fun a k => nn (wp_seq (wr (pN 1 k rfl fun a k => sv k rfl (r_len (α := List Int) hp4 k underlying47 rfl rfl) fun a k => pN 1 k rfl fun a k => sv k rfl (r_len (α := List Int) hp8 k underlying47 rfl rfl) fun a k => pN 1 k rfl fun a k => nn (cI h k rfl (fun hb9 h => ?_) fun hb9 h => ?_)))))
 · refine wr (pN 1 k rfl fun a k => nn (wp_ret (rt_then ?_)))
   refine fS h k m rfl rfl
 refine wp_skip (nm_then ?_)
 refine wp_seq (wr (pN 1 k rfl fun a k => nn (wp_block (c_loop (fun n a w => ∃ (i64 : Int), K 27 [(0, v2), (1, v6), (5, .int .i64 i64)] a ∧ St [] w0 w [] ∧ d_laws_eqIntSS_L1 fu a1 b5 n i64 = some r) ?_ ?_ fu _ _ ?_))))
 · rintro a w ⟨_, _, _, h⟩
   exact nS h
 · rintro m65 a w63 ⟨i64, k, m, h⟩
   rw [d_laws_eqIntSS_L1_s] at h
   unfold d_laws_eqIntSS_L1_B at h
   refine wp_seq (wr (pN 2 k rfl fun a k => sv k rfl (r_len (α := List Int) hp4 k underlying47 rfl rfl) fun a k => pN 1 k rfl fun a k => nn (cI h k rfl (fun hb66 h => ?_) fun hb66 h => ?_)))
   · refine wp_skip (nm_then ?_)
     refine wp_seq (wp_block (wp_seq (d_go [] mixo m rfl fun w67 hMd => ?_)))
     have m := hMd
     have s := Ext.refl ([] : List Nat) w67
     refine dp k 0 rfl (by kernel_rfl) rfl s (fun _ _ _ => id) rfl fun a k => dp k 1 rfl (by kernel_rfl) rfl s (fun _ _ _ => id) rfl fun a k => oE h fun x68 hx69 h => dt k 2 rfl (by kernel_rfl) rfl s (fun _ _ _ => id) (fun w s => r_ixa hp4 hx69 k ts47 rfl rfl rfl) fun a k => ?_
     obtain ⟨G70, cs71, hG72, hr73, hp74, hb75⟩ := rd_get hp4 (ix_some hx69).2.2
     obtain ⟨v76, rfl⟩ : ∃ v, cs71 = [v] := by obtain ⟨_, _, hq, _⟩ := hr73; exact ⟨_, hq⟩
     refine dt k 3 rfl (by kernel_rfl) rfl s (fun _ _ _ => id) (fun w s => r_ld1 t129 (hp74.agr ((hMd.step s).a00 (Enc.rd_lt hp4)) hb75) k rfl rfl) fun a k => dp k 4 rfl (by kernel_rfl) rfl s (fun _ _ _ => id) rfl fun a k => dp k 5 rfl (by kernel_rfl) rfl s (fun _ _ _ => id) rfl fun a k => oE h fun x77 hx78 h => dt k 6 rfl (by kernel_rfl) rfl s (fun _ _ _ => id) (fun w s => r_ixa hp8 hx78 k ts47 rfl rfl rfl) fun a k => ?_
     obtain ⟨G79, cs80, hG81, hr82, hp83, hb84⟩ := rd_get hp8 (ix_some hx78).2.2
     obtain ⟨v85, rfl⟩ : ∃ v, cs80 = [v] := by obtain ⟨_, _, hq, _⟩ := hr82; exact ⟨_, hq⟩
     refine dt k 7 rfl (by kernel_rfl) rfl s (fun _ _ _ => id) (fun w s => r_ld1 t129 (hp83.agr ((hMd.step s).a00 (Enc.rd_lt hp8)) hb84) k rfl rfl) fun a k => d_one 8 (by kernel_rfl) rfl (oE h fun x86 hx87 h => cE k m call43 rfl rfl rfl (c_laws_eqIntS fu _ _ (Enc.rd_agr hr73 (m.a00 (Enc.rd_lt hr73))) (Enc.rd_agr hr82 (m.a00 (Enc.rd_lt hr82))) hx87) fun w89 e a k m => ?_)
     have s := s.trans e (by simp)
     refine wpList_nil ⟨s, ?_⟩
     refine dp k 9 rfl (by kernel_rfl) rfl s (fun _ _ _ => id) rfl fun a k => d_done (by kernel_rfl) ((nm_then ?_))
     refine cI h k rfl (fun hb90 h => ?_) fun hb90 h => ?_
     · refine wr (pN 1 k rfl fun a k => nn (wp_ret (rt_block (rt_then (rt_then (rt_block (rt_then ?_)))))))
       refine fS h k m rfl rfl
     refine wp_skip (nm_block (nm_then ?_))
     refine wp_region_lit (pN 3 k rfl fun a k => nn ?_)
     exact ⟨w64 (i64 + 1), k.keep [0, 1, 5] rfl, m.sel [] rfl (by decide), h⟩
   refine wp_exit (ex_then (ex_then (ex_same (nm_then ?_))))
   refine wr (pN 1 k rfl fun a k => nn (wp_ret (fS h k m rfl rfl)))
 exact ⟨0, k.keep [0, 1, 5] rfl, m.sel [] rfl (by decide), h⟩
theorem c_laws_FnExactTouching (fu : Nat) {w0 : World} (aR1 : Request) (aCartons5 : List (List Int)) (aK9 : Int) {cs2 : List Value} {F3 : List Nat} (hp4 : rd w0 F3 cs2 aR1) {v6 : Value} {F7 : List Nat} (hp8 : rd w0 F7 [v6] aCartons5) {r : Bool}
    (h : d_laws_FnExactTouching fu aR1 aCartons5 aK9 = some r) :
    Calls Tryz.prog 7 #[.agg cs2.toArray, v6, .int .i64 aK9] w0 fun e w => e = .returned (.bool (r)) ∧ Ext [] w0 w := by
 refine enter (vs := [_, _, _]) func7 rfl ntmps7 rfl fun a k => ?_
 have m := St.start w0
 obtain ⟨v10, F11, v12, F13, v14, F15, rfl, rfl, hf16, hf17, hf18⟩ := hp4
 unfold d_laws_FnExactTouching at h
 refine wr (s_box (cs := [.int .i64 aR1.fWay, .int .i64 aR1.fPallet.fW, .int .i64 aR1.fPallet.fD, .int .i64 aR1.fPallet.fH, .int .i64 aR1.fPallet.fGram, .int .i64 aR1.fClasses, v10, v12, .int .i64 aR1.fMaster, v14]) m k rfl rfl rfl rfl rfl rfl fun b19 w21 a k m e hb20 => pN 1 k rfl fun a k => nn (wr (pN 1 k rfl fun a k => nn (wr (sv k rfl (r_ldB ta28 m 0 hb20 0 k rfl rfl rfl rfl rfl rfl) fun a k => pN 1 k rfl fun a k => oE h fun x22 hx23 h => ?_)))))
 refine cE k m call15 rfl rfl rfl (c_laws_szRequest fu _ _ (show rd _ _ [.int .i64 aR1.fWay, .int .i64 aR1.fPallet.fW, .int .i64 aR1.fPallet.fD, .int .i64 aR1.fPallet.fH, .int .i64 aR1.fPallet.fGram, .int .i64 aR1.fClasses, v10, v12, .int .i64 aR1.fMaster, v14] (aR1 : Request) from ⟨_, _, _, _, _, _, rfl, rfl, (Enc.rd_agr hf16 (m.a00 (Enc.rd_lt hf16))), (Enc.rd_agr hf17 (m.a00 (Enc.rd_lt hf17))), (Enc.rd_agr hf18 (m.a00 (Enc.rd_lt hf18)))⟩) hx23) fun w25 e a k m => pN 1 k rfl fun a k => nn (wp_seq (wr (pN 2 k rfl fun a k => nn (cI h k rfl (fun hb26 h => ?_) fun hb26 h => ?_))))
 · refine wr (pN 1 k rfl fun a k => nn (wp_ret (rt_then ?_)))
   refine fS h k m rfl rfl
 refine wp_skip (nm_then ?_)
 refine wr (pN 2 k rfl fun a k => oE h fun x27 hx28 h => cE k m call33 rfl rfl rfl (c_laws_szIntSS fu _ _ (Enc.rd_agr hp8 (m.a00 (Enc.rd_lt hp8))) hx28) fun w30 e a k m => pN 1 k rfl fun a k => nn (wp_seq (wr (pN 2 k rfl fun a k => nn (cI h k rfl (fun hb31 h => ?_) fun hb31 h => ?_)))))
 · refine wr (pN 1 k rfl fun a k => nn (wp_ret (rt_then ?_)))
   refine fS h k m rfl rfl
 refine wp_skip (nm_then ?_)
 refine wr (sv k rfl (r_ldB ta28 m 0 hb20 0 k rfl rfl rfl rfl rfl rfl) fun a k => oE h fun x32 hx33 h => s_call k call18 rfl rfl rfl rfl rfl (c_laws_toRequest fu _ (show rd _ _ [.int .i64 aR1.fWay, .int .i64 aR1.fPallet.fW, .int .i64 aR1.fPallet.fD, .int .i64 aR1.fPallet.fH, .int .i64 aR1.fPallet.fGram, .int .i64 aR1.fClasses, v10, v12, .int .i64 aR1.fMaster, v14] (aR1 : Request) from ⟨_, _, _, _, _, _, rfl, rfl, (Enc.rd_agr hf16 (m.a00 (Enc.rd_lt hf16))), (Enc.rd_agr hf17 (m.a00 (Enc.rd_lt hf17))), (Enc.rd_agr hf18 (m.a00 (Enc.rd_lt hf18)))⟩) hx33) fun e34 w35 hR => ?_)
 obtain ⟨cs40, F36, rfl, e, hf37, hfr38⟩ := hR
 refine ⟨_, rfl, fun a k => ?_⟩
 have m := m.new e F36 (fun b hb => ⟨hfr38 b hb, Enc.rd_lt (Enc.ow_rd hf37) b hb⟩) (Enc.ow_nd hf37)
 obtain ⟨v41, F42, v44, F45, v47, F48, rfl, rfl, hf43, hf46, hf49, _⟩ := hf37
 have m := m.split2
 have m := m.split2at1
 refine pN 1 k rfl fun a k => oE h fun x50 hx51 h => s_call k call35 rfl rfl rfl rfl rfl (c_laws_toIntSS fu _ (Enc.rd_agr hp8 (m.a00 (Enc.rd_lt hp8))) hx51) fun e52 w53 hR => ?_
 obtain ⟨v58, F54, rfl, e, hf55, hfr56⟩ := hR
 refine ⟨_, rfl, fun a k => ?_⟩
 have m := m.new e F54 (fun b hb => ⟨hfr56 b hb, Enc.rd_lt (Enc.ow_rd hf55) b hb⟩) (Enc.ow_nd hf55)
 refine pN 1 k rfl fun a k => oE h fun x59 hx60 h => cE k m call34 rfl rfl rfl (c_spec_Touching fu _ _ _ (show rd _ _ [.int .i64 x32.fWay, .int .i64 x32.fPallet.fW, .int .i64 x32.fPallet.fD, .int .i64 x32.fPallet.fH, .int .i64 x32.fPallet.fGram, .int .i64 x32.fClasses, v41, v44, .int .i64 x32.fMaster, v47] (x32 : Request) from ⟨_, _, _, _, _, _, rfl, rfl, (Enc.rd_agr (Enc.ow_rd hf43) (m.a 1 rfl)), (Enc.rd_agr (Enc.ow_rd hf46) (m.a 2 rfl)), (Enc.rd_agr (Enc.ow_rd hf49) (m.a 3 rfl))⟩) (Enc.rd_agr (Enc.ow_rd hf55) (m.a 0 rfl)) hx60) fun w62 e a k m => pN 1 k rfl fun a k => nn (wr (sv k rfl (r_ldB ta28 m 4 hb20 0 k rfl rfl rfl rfl rfl rfl) fun a k => oE h fun x63 hx64 h => ?_))
 refine s_call k call18 rfl rfl rfl rfl rfl (c_laws_toRequest fu _ (show rd _ _ [.int .i64 aR1.fWay, .int .i64 aR1.fPallet.fW, .int .i64 aR1.fPallet.fD, .int .i64 aR1.fPallet.fH, .int .i64 aR1.fPallet.fGram, .int .i64 aR1.fClasses, v10, v12, .int .i64 aR1.fMaster, v14] (aR1 : Request) from ⟨_, _, _, _, _, _, rfl, rfl, (Enc.rd_agr hf16 (m.a00 (Enc.rd_lt hf16))), (Enc.rd_agr hf17 (m.a00 (Enc.rd_lt hf17))), (Enc.rd_agr hf18 (m.a00 (Enc.rd_lt hf18)))⟩) hx64) fun e65 w66 hR => ?_
 obtain ⟨cs71, F67, rfl, e, hf68, hfr69⟩ := hR
 refine ⟨_, rfl, fun a k => ?_⟩
 have m := m.new e F67 (fun b hb => ⟨hfr69 b hb, Enc.rd_lt (Enc.ow_rd hf68) b hb⟩) (Enc.ow_nd hf68)
 obtain ⟨v72, F73, v75, F76, v78, F79, rfl, rfl, hf74, hf77, hf80, _⟩ := hf68
 have m := m.split2
 have m := m.split2at1
 refine s_alloc (cs := [.int .i64 0, .int .i64 0, .int .i64 0, .int .i64 0, .int .i64 0, .int .i64 0, .slice none 0 0, .slice none 0 0, .int .i64 0, .slice none 0 0]) m k zeroValue40 rfl rfl rfl rfl rfl fun b81 w83 a k m e hb82 => s_stb (cs' := [.int .i64 x63.fWay, .int .i64 x63.fPallet.fW, .int .i64 x63.fPallet.fD, .int .i64 x63.fPallet.fH, .int .i64 x63.fPallet.fGram, .int .i64 x63.fClasses, v72, v75, .int .i64 x63.fMaster, v78]) sizeOf40 m 0 hb82 0 k rfl rfl rfl rfl rfl rfl rfl rfl rfl rfl (allc rfl (allc rfl (allc rfl (allc rfl (allc rfl (allc rfl (allc (rd_o (Enc.ow_rd hf74)) (allc (rd_o (Enc.ow_rd hf77)) (allc rfl (allc (rd_o (Enc.ow_rd hf80)) alln)))))))))) fun w84 a k e m hb85 => ?_
 have k := k.keep [1, 2, 3, 8, 9] rfl
 refine nn (wr (pN 1 k rfl fun a k => oE h fun x86 hx87 h => s_call k call35 rfl rfl rfl rfl rfl (c_laws_toIntSS fu _ (Enc.rd_agr hp8 (m.a00 (Enc.rd_lt hp8))) hx87) fun e88 w89 hR => ?_))
 obtain ⟨v94, F90, rfl, e, hf91, hfr92⟩ := hR
 refine ⟨_, rfl, fun a k => ?_⟩
 have m := m.new e F90 (fun b hb => ⟨hfr92 b hb, Enc.rd_lt (Enc.ow_rd hf91) b hb⟩) (Enc.ow_nd hf91)
 refine pN 1 k rfl fun a k => nn (wr (sv k rfl (r_ldB ta40 m 1 hb85 0 k rfl rfl rfl rfl rfl rfl) fun a k => pN 2 k rfl fun a k => oE h fun x95 hx96 h => cE k m call36 rfl rfl rfl (c_impl_Touching fu _ _ _ (show rd _ _ [.int .i64 x63.fWay, .int .i64 x63.fPallet.fW, .int .i64 x63.fPallet.fD, .int .i64 x63.fPallet.fH, .int .i64 x63.fPallet.fGram, .int .i64 x63.fClasses, v72, v75, .int .i64 x63.fMaster, v78] (x63 : Request) from ⟨_, _, _, _, _, _, rfl, rfl, (Enc.rd_agr (Enc.ow_rd hf74) (m.a 2 rfl)), (Enc.rd_agr (Enc.ow_rd hf77) (m.a 3 rfl)), (Enc.rd_agr (Enc.ow_rd hf80) (m.a 4 rfl))⟩) (Enc.rd_agr (Enc.ow_rd hf91) (m.a 0 rfl)) hx96) fun w98 e a k m => pN 1 k rfl fun a k => nn (wp_seq (wr (pN 3 k rfl fun a k => nn (cI h k rfl (fun hb99 h => ?_) fun hb99 h => ?_))))))
 · refine wr (pN 1 k rfl fun a k => nn (wp_ret (rt_then ?_)))
   refine fS h k m rfl rfl
 refine wp_skip (nm_then ?_)
 refine wp_seq (wp_seq (d_go [] mixo m rfl fun w100 hMd => ?_))
 have m := hMd
 have s := Ext.refl ([] : List Nat) w100
 refine dt k 0 rfl (by kernel_rfl) rfl s (fun _ _ _ => id) (fun w s => r_ldA ta40 (hb85.at ((hMd.step s).a 1 rfl) 0 10 rfl rfl rfl) rfl k rfl rfl) fun a k => dt k 1 rfl (by kernel_rfl) rfl s (fun _ _ _ => id) (fun w s => r_ldA ta28 (hb20.at ((hMd.step s).a 9 rfl) 0 10 rfl rfl rfl) rfl k rfl rfl) fun a k => d_one 2 (by kernel_rfl) rfl (oE h fun x101 hx102 h => s_call k call18 rfl rfl rfl rfl rfl (c_laws_toRequest fu _ (show rd _ _ [.int .i64 aR1.fWay, .int .i64 aR1.fPallet.fW, .int .i64 aR1.fPallet.fD, .int .i64 aR1.fPallet.fH, .int .i64 aR1.fPallet.fGram, .int .i64 aR1.fClasses, v10, v12, .int .i64 aR1.fMaster, v14] (aR1 : Request) from ⟨_, _, _, _, _, _, rfl, rfl, (Enc.rd_agr hf16 (m.a00 (Enc.rd_lt hf16))), (Enc.rd_agr hf17 (m.a00 (Enc.rd_lt hf17))), (Enc.rd_agr hf18 (m.a00 (Enc.rd_lt hf18)))⟩) hx102) fun e103 w104 hR => ?_)
 obtain ⟨cs109, F105, rfl, e, hf106, hfr107⟩ := hR
 refine ⟨_, rfl, fun a k => ?_⟩
 have m := m.new e F105 (fun b hb => ⟨hfr107 b hb, Enc.rd_lt (Enc.ow_rd hf106) b hb⟩) (Enc.ow_nd hf106)
 have hlo110 := fun (y : Nat) (hy : y ∈ F105) => Nat.le_trans s.size (hfr107 y hy)
 obtain ⟨v111, F112, v114, F115, v117, F118, rfl, rfl, hf113, hf116, hf119, _⟩ := hf106
 have m := m.split2
 have m := m.split2at1
 have s := s.trans e (by simp)
 refine wpList_nil ⟨s, ?_⟩
 refine d_one 3 (by kernel_rfl) rfl (oE h fun x120 hx121 h => ?_)
 refine cE k m call21 rfl rfl rfl (c_laws_eqRequest fu _ _ (show rd _ _ [.int .i64 x63.fWay, .int .i64 x63.fPallet.fW, .int .i64 x63.fPallet.fD, .int .i64 x63.fPallet.fH, .int .i64 x63.fPallet.fGram, .int .i64 x63.fClasses, v72, v75, .int .i64 x63.fMaster, v78] (x63 : Request) from ⟨_, _, _, _, _, _, rfl, rfl, (Enc.rd_agr (Enc.ow_rd hf74) (m.a 5 rfl)), (Enc.rd_agr (Enc.ow_rd hf77) (m.a 6 rfl)), (Enc.rd_agr (Enc.ow_rd hf80) (m.a 7 rfl))⟩) (show rd _ _ [.int .i64 x101.fWay, .int .i64 x101.fPallet.fW, .int .i64 x101.fPallet.fD, .int .i64 x101.fPallet.fH, .int .i64 x101.fPallet.fGram, .int .i64 x101.fClasses, v111, v114, .int .i64 x101.fMaster, v117] (x101 : Request) from ⟨_, _, _, _, _, _, rfl, rfl, (Enc.rd_agr (Enc.ow_rd hf113) (m.a 0 rfl)), (Enc.rd_agr (Enc.ow_rd hf116) (m.a 1 rfl)), (Enc.rd_agr (Enc.ow_rd hf119) (m.a 2 rfl))⟩) hx121) fun w123 e a k m => ?_
 have s := s.trans e (by simp)
 refine wpList_nil ⟨s, ?_⟩
 refine dp k 4 rfl (by kernel_rfl) rfl s (fun _ _ _ => id) rfl fun a k => d_done (by kernel_rfl) ((nm_then ?_))
 refine cI h k rfl (fun hb124 h => ?_) fun hb124 h => ?_
 · refine wr (pN 1 k rfl fun a k => nn (wp_ret (rt_then ?_)))
   refine fS h k m rfl rfl
 refine wp_skip (nm_then ?_)
 refine wp_seq (wr (pN 2 k rfl fun a k => oE h fun x125 hx126 h => s_call k call35 rfl rfl rfl rfl rfl (c_laws_toIntSS fu _ (Enc.rd_agr hp8 (m.a00 (Enc.rd_lt hp8))) hx126) fun e127 w128 hR => ?_))
 obtain ⟨v133, F129, rfl, e, hf130, hfr131⟩ := hR
 refine ⟨_, rfl, fun a k => ?_⟩
 have m := m.new e F129 (fun b hb => ⟨hfr131 b hb, Enc.rd_lt (Enc.ow_rd hf130) b hb⟩) (Enc.ow_nd hf130)
 refine oE h fun x134 hx135 h => cE k m call25 rfl rfl rfl (c_laws_eqIntSS fu _ _ (Enc.rd_agr (Enc.ow_rd hf91) (m.a 4 rfl)) (Enc.rd_agr (Enc.ow_rd hf130) (m.a 0 rfl)) hx135) fun w137 e a k m => pN 1 k rfl fun a k => ?_
 have k := k.keep [48] rfl
 refine nn (cI h k rfl (fun hb138 h => ?_) fun hb138 h => ?_)
 · refine wr (pN 1 k rfl fun a k => nn (wp_ret (rt_then ?_)))
   refine fS h k m rfl rfl
 refine wp_skip (nm_then ?_)
 refine wr (pN 1 k rfl fun a k => nn (wp_ret (fS h k m rfl rfl)))

end Go.Proofs.YthjbcfefkdbgoaaGreat
