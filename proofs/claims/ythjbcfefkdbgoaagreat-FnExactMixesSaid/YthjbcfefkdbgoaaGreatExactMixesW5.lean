/- FnExactMixes: the walks of functions that the law reaches, part 5. Printed by gen.py. -/
import Derived.Test.YthjbcfefkdbgoaaGreatExactMixesW4
set_option maxRecDepth 20000
set_option linter.unusedSimpArgs false
set_option linter.unusedVariables false
namespace Go.Proofs.YthjbcfefkdbgoaaGreat
open Go Go.RowKit
open Enc (rd ow)
open Arg (argv)
open Ret (retv)
open Go.Proofs.Tryz

theorem t147 : T1 Tryz.prog 47 := ⟨fun w => by simp [isAgg, run_underlying underlying47], sizeOf47⟩
theorem ta28 : TA Tryz.prog 28 10 := ⟨Tryz.isAgg28, sizeOf28⟩

def d_impl_hasOf (fu : Nat) (r1 : Request) (group5 : List Int) (units9 : List Int) : Option (Bool) :=
  obind (d_impl_itemsOf fu r1 units9) fun x28 => obind (d_slices_ContainsFunc_impl_Item_impl_Item fu x28 (fun y37 => d_impl_hasOf_1 fu y37 group5)) fun x40 => some (x40)

def d_impl_Mixes_1_J1 (fu : Nat) (k3 : Int → Int → Option (Bool)) (x91 : Int) (n109 : Int) : Option (Bool) :=
  k3 n109 (w64 (x91 + 1))

def d_impl_Mixes_1_L1_B (fu : Nat)  (l1 : List Int) (x5 : List (List Int)) (x11 : Request) (k3 : Int → Int → Option (Bool)) (n90 : Int) (x91 : Int) : Option (Bool) :=
  bif (decide (x91 < ((x5.length : Int)))) then obind (ix x5 x91) fun x110 => obind (d_impl_hasOf fu x11 x110 l1) fun x119 => bif x119 then d_impl_Mixes_1_J1 fu k3 x91 (w64 (n90 + 1)) else d_impl_Mixes_1_J1 fu k3 x91 n90 else some (decide (n90 > 1))
def d_impl_Mixes_1_L1 (fu : Nat)  (l1 : List Int) (x5 : List (List Int)) (x11 : Request) : Nat → Int → Int → Option (Bool)
  | 0 => fun _ _ => none
  | n + 1 => d_impl_Mixes_1_L1_B fu l1 x5 x11 (d_impl_Mixes_1_L1 fu l1 x5 x11 n)
theorem d_impl_Mixes_1_L1_s (fu : Nat)  (l1 : List Int) (x5 : List (List Int)) (x11 : Request) (n : Nat) : d_impl_Mixes_1_L1 fu l1 x5 x11 (n + 1) = d_impl_Mixes_1_L1_B fu l1 x5 x11 (d_impl_Mixes_1_L1 fu l1 x5 x11 n) := rfl

def d_impl_Mixes_1 (fu : Nat) (l1 : List Int) (x5 : List (List Int)) (x11 : Request) : Option (Bool) :=
  d_impl_Mixes_1_L1 fu l1 x5 x11 fu 0 0

def d_slices_ContainsFunc_ints_int (fu : Nat) (sv1 : List (List Int)) (f5 : (List Int) → Option Bool) : Option (Bool) :=
  obind (d_slices_IndexFunc_ints_int fu sv1 f5) fun x14 => some (decide (x14 ≥ 0))

def d_impl_Mixes (fu : Nat) (r1 : Request) (cartons5 : List (List Int)) : Option (Bool) :=
  obind (d_impl_GroupsOf fu r1) fun x21 => obind (d_slices_ContainsFunc_ints_int fu cartons5 (fun y35 => d_impl_Mixes_1 fu y35 x21 r1)) fun x38 => some (x38)

def d_laws_eqPallet (fu : Nat) (a1 : Pallet) (b2 : Pallet) : Option (Bool) :=
  bif (a1.fW != b2.fW) then some (false) else bif (a1.fD != b2.fD) then some (false) else bif (a1.fH != b2.fH) then some (false) else bif (a1.fGram != b2.fGram) then some (false) else some (true)

def d_laws_eqPair (fu : Nat) (a1 : Pair) (b2 : Pair) : Option (Bool) :=
  bif (a1.fA != b2.fA) then some (false) else bif (a1.fB != b2.fB) then some (false) else some (true)

def d_laws_eqPairS_L1_B (fu : Nat)  (a1 : List Pair) (b5 : List Pair) (k1 : Int → Option (Bool)) (i36 : Int) : Option (Bool) :=
  bif (decide (i36 < ((a1.length : Int)))) then obind (ix a1 i36) fun x40 => obind (ix b5 i36) fun x42 => obind (d_laws_eqPair fu x40 x42) fun x44 => bif (!x44) then some (false) else k1 (w64 (i36 + 1)) else some (true)
def d_laws_eqPairS_L1 (fu : Nat)  (a1 : List Pair) (b5 : List Pair) : Nat → Int → Option (Bool)
  | 0 => fun _ => none
  | n + 1 => d_laws_eqPairS_L1_B fu a1 b5 (d_laws_eqPairS_L1 fu a1 b5 n)
theorem d_laws_eqPairS_L1_s (fu : Nat)  (a1 : List Pair) (b5 : List Pair) (n : Nat) : d_laws_eqPairS_L1 fu a1 b5 (n + 1) = d_laws_eqPairS_L1_B fu a1 b5 (d_laws_eqPairS_L1 fu a1 b5 n) := rfl

def d_laws_eqPairS (fu : Nat) (a1 : List Pair) (b5 : List Pair) : Option (Bool) :=
  bif (((a1.length : Int)) != ((b5.length : Int))) then some (false) else d_laws_eqPairS_L1 fu a1 b5 fu 0

def d_laws_eqType (fu : Nat) (a1 : Typ) (b2 : Typ) : Option (Bool) :=
  bif (a1.fId != b2.fId) then some (false) else bif (a1.fW != b2.fW) then some (false) else bif (a1.fH != b2.fH) then some (false) else bif (a1.fD != b2.fD) then some (false) else bif (a1.fTare != b2.fTare) then some (false) else bif (a1.fGram != b2.fGram) then some (false) else bif (a1.fCost != b2.fCost) then some (false) else some (true)

def d_laws_eqTypeS_L1_B (fu : Nat)  (a1 : List Typ) (b5 : List Typ) (k1 : Int → Option (Bool)) (i36 : Int) : Option (Bool) :=
  bif (decide (i36 < ((a1.length : Int)))) then obind (ix a1 i36) fun x40 => obind (ix b5 i36) fun x42 => obind (d_laws_eqType fu x40 x42) fun x44 => bif (!x44) then some (false) else k1 (w64 (i36 + 1)) else some (true)
def d_laws_eqTypeS_L1 (fu : Nat)  (a1 : List Typ) (b5 : List Typ) : Nat → Int → Option (Bool)
  | 0 => fun _ => none
  | n + 1 => d_laws_eqTypeS_L1_B fu a1 b5 (d_laws_eqTypeS_L1 fu a1 b5 n)
theorem d_laws_eqTypeS_L1_s (fu : Nat)  (a1 : List Typ) (b5 : List Typ) (n : Nat) : d_laws_eqTypeS_L1 fu a1 b5 (n + 1) = d_laws_eqTypeS_L1_B fu a1 b5 (d_laws_eqTypeS_L1 fu a1 b5 n) := rfl

def d_laws_eqTypeS (fu : Nat) (a1 : List Typ) (b5 : List Typ) : Option (Bool) :=
  bif (((a1.length : Int)) != ((b5.length : Int))) then some (false) else d_laws_eqTypeS_L1 fu a1 b5 fu 0

def d_laws_eqItem (fu : Nat) (a1 : Item) (b2 : Item) : Option (Bool) :=
  bif (a1.fId != b2.fId) then some (false) else bif (a1.fW != b2.fW) then some (false) else bif (a1.fH != b2.fH) then some (false) else bif (a1.fD != b2.fD) then some (false) else bif (a1.fGram != b2.fGram) then some (false) else bif (a1.fClass != b2.fClass) then some (false) else bif (a1.fCount != b2.fCount) then some (false) else some (true)

def d_laws_eqItemS_L1_B (fu : Nat)  (a1 : List Item) (b5 : List Item) (k1 : Int → Option (Bool)) (i36 : Int) : Option (Bool) :=
  bif (decide (i36 < ((a1.length : Int)))) then obind (ix a1 i36) fun x40 => obind (ix b5 i36) fun x42 => obind (d_laws_eqItem fu x40 x42) fun x44 => bif (!x44) then some (false) else k1 (w64 (i36 + 1)) else some (true)
def d_laws_eqItemS_L1 (fu : Nat)  (a1 : List Item) (b5 : List Item) : Nat → Int → Option (Bool)
  | 0 => fun _ => none
  | n + 1 => d_laws_eqItemS_L1_B fu a1 b5 (d_laws_eqItemS_L1 fu a1 b5 n)
theorem d_laws_eqItemS_L1_s (fu : Nat)  (a1 : List Item) (b5 : List Item) (n : Nat) : d_laws_eqItemS_L1 fu a1 b5 (n + 1) = d_laws_eqItemS_L1_B fu a1 b5 (d_laws_eqItemS_L1 fu a1 b5 n) := rfl

def d_laws_eqItemS (fu : Nat) (a1 : List Item) (b5 : List Item) : Option (Bool) :=
  bif (((a1.length : Int)) != ((b5.length : Int))) then some (false) else d_laws_eqItemS_L1 fu a1 b5 fu 0

def d_laws_eqRequest (fu : Nat) (a1 : Request) (b5 : Request) : Option (Bool) :=
  bif (a1.fWay != b5.fWay) then some (false) else obind (d_laws_eqPallet fu a1.fPallet b5.fPallet) fun x34 => bif (!x34) then some (false) else bif (a1.fClasses != b5.fClasses) then some (false) else obind (d_laws_eqPairS fu a1.fPairs b5.fPairs) fun x40 => bif (!x40) then some (false) else obind (d_laws_eqTypeS fu a1.fTypes b5.fTypes) fun x45 => bif (!x45) then some (false) else bif (a1.fMaster != b5.fMaster) then some (false) else obind (d_laws_eqItemS fu a1.fItems b5.fItems) fun x51 => bif (!x51) then some (false) else some (true)

def d_laws_eqIntS_L1_B (fu : Nat)  (a1 : List Int) (b5 : List Int) (k1 : Int → Option (Bool)) (i28 : Int) : Option (Bool) :=
  bif (decide (i28 < ((a1.length : Int)))) then obind (ix a1 i28) fun x32 => obind (ix b5 i28) fun x34 => bif (x32 != x34) then some (false) else k1 (w64 (i28 + 1)) else some (true)
def d_laws_eqIntS_L1 (fu : Nat)  (a1 : List Int) (b5 : List Int) : Nat → Int → Option (Bool)
  | 0 => fun _ => none
  | n + 1 => d_laws_eqIntS_L1_B fu a1 b5 (d_laws_eqIntS_L1 fu a1 b5 n)
theorem d_laws_eqIntS_L1_s (fu : Nat)  (a1 : List Int) (b5 : List Int) (n : Nat) : d_laws_eqIntS_L1 fu a1 b5 (n + 1) = d_laws_eqIntS_L1_B fu a1 b5 (d_laws_eqIntS_L1 fu a1 b5 n) := rfl

def d_laws_eqIntS (fu : Nat) (a1 : List Int) (b5 : List Int) : Option (Bool) :=
  bif (((a1.length : Int)) != ((b5.length : Int))) then some (false) else d_laws_eqIntS_L1 fu a1 b5 fu 0

def d_laws_eqIntSS_L1_B (fu : Nat)  (a1 : List (List Int)) (b5 : List (List Int)) (k1 : Int → Option (Bool)) (i64 : Int) : Option (Bool) :=
  bif (decide (i64 < ((a1.length : Int)))) then obind (ix a1 i64) fun x68 => obind (ix b5 i64) fun x77 => obind (d_laws_eqIntS fu x68 x77) fun x86 => bif (!x86) then some (false) else k1 (w64 (i64 + 1)) else some (true)
def d_laws_eqIntSS_L1 (fu : Nat)  (a1 : List (List Int)) (b5 : List (List Int)) : Nat → Int → Option (Bool)
  | 0 => fun _ => none
  | n + 1 => d_laws_eqIntSS_L1_B fu a1 b5 (d_laws_eqIntSS_L1 fu a1 b5 n)
theorem d_laws_eqIntSS_L1_s (fu : Nat)  (a1 : List (List Int)) (b5 : List (List Int)) (n : Nat) : d_laws_eqIntSS_L1 fu a1 b5 (n + 1) = d_laws_eqIntSS_L1_B fu a1 b5 (d_laws_eqIntSS_L1 fu a1 b5 n) := rfl

def d_laws_eqIntSS (fu : Nat) (a1 : List (List Int)) (b5 : List (List Int)) : Option (Bool) :=
  bif (((a1.length : Int)) != ((b5.length : Int))) then some (false) else d_laws_eqIntSS_L1 fu a1 b5 fu 0

def d_laws_FnExactMixes (fu : Nat) (aR1 : Request) (aCartons5 : List (List Int)) : Option (Bool) :=
  obind (d_laws_szRequest fu aR1 1048576) fun x21 => bif (decide (x21 < 0)) then some (true) else obind (d_laws_szIntSS fu aCartons5 x21) fun x26 => bif (decide (x26 < 0)) then some (true) else obind (d_laws_toRequest fu aR1) fun x31 => obind (d_laws_toIntSS fu aCartons5) fun x49 => obind (d_spec_Mixes fu x31 x49) fun x58 => obind (d_laws_toRequest fu aR1) fun x62 => obind (d_laws_toIntSS fu aCartons5) fun x85 => obind (d_impl_Mixes fu x62 x85) fun x94 => bif (!(x94 == x58)) then some (false) else obind (d_laws_toRequest fu aR1) fun x100 => obind (d_laws_eqRequest fu x62 x100) fun x119 => bif (!x119) then some (false) else obind (d_laws_toIntSS fu aCartons5) fun x124 => obind (d_laws_eqIntSS fu x85 x124) fun x133 => bif (!x133) then some (false) else some (true)

theorem c_impl_hasOf (fu : Nat) {w0 : World} (r1 : Request) (group5 : List Int) (units9 : List Int) {cs2 : List Value} {F3 : List Nat} (hp4 : rd w0 F3 cs2 r1) {v6 : Value} {F7 : List Nat} (hp8 : rd w0 F7 [v6] group5) {v10 : Value} {F11 : List Nat} (hp12 : rd w0 F11 [v10] units9) {r : Bool}
    (h : d_impl_hasOf fu r1 group5 units9 = some r) :
    Calls Tryz.prog 100 #[.agg cs2.toArray, v6, v10] w0 fun e w => e = .returned (.bool (r)) ∧ Ext [] w0 w := by
 refine enter (vs := [_, _, _]) func100 rfl ntmps100 rfl fun a k => ?_
 have m := St.start w0
 obtain ⟨v13, F14, v15, F16, v17, F18, rfl, rfl, hf19, hf20, hf21⟩ := hp4
 unfold d_impl_hasOf at h
 refine wr (s_box (cs := [.int .i64 r1.fWay, .int .i64 r1.fPallet.fW, .int .i64 r1.fPallet.fD, .int .i64 r1.fPallet.fH, .int .i64 r1.fPallet.fGram, .int .i64 r1.fClasses, v13, v15, .int .i64 r1.fMaster, v17]) m k rfl rfl rfl rfl rfl rfl fun b22 w24 a k m e hb23 => s_box (cs := [v6]) m k rfl rfl rfl rfl rfl (rd_c hp8) fun b25 w27 a k m e hb26 => pN 1 k rfl fun a k => nn (wr (sv k rfl (r_ldB ta40 m 1 hb23 0 k rfl rfl rfl rfl rfl rfl) fun a k => pN 1 k rfl fun a k => oE h fun x28 hx29 h => ?_)))
 refine s_call k call143 rfl rfl rfl rfl rfl (c_impl_itemsOf fu _ _ (show rd _ _ [.int .i64 r1.fWay, .int .i64 r1.fPallet.fW, .int .i64 r1.fPallet.fD, .int .i64 r1.fPallet.fH, .int .i64 r1.fPallet.fGram, .int .i64 r1.fClasses, v13, v15, .int .i64 r1.fMaster, v17] (r1 : Request) from ⟨_, _, _, _, _, _, rfl, rfl, (Enc.rd_agr hf19 (m.a00 (Enc.rd_lt hf19))), (Enc.rd_agr hf20 (m.a00 (Enc.rd_lt hf20))), (Enc.rd_agr hf21 (m.a00 (Enc.rd_lt hf21)))⟩) (Enc.rd_agr hp12 (m.a00 (Enc.rd_lt hp12))) hx29) fun e30 w31 hR => ?_
 obtain ⟨v36, F32, rfl, e, hf33, hfr34⟩ := hR
 refine ⟨_, rfl, fun a k => ?_⟩
 have m := m.new e F32 (fun b hb => ⟨hfr34 b hb, Enc.rd_lt (Enc.ow_rd hf33) b hb⟩) (Enc.ow_nd hf33)
 refine pN 1 k rfl fun a k => oE h fun x40 hx41 h => cE k m call151 rfl rfl rfl (c_slices_ContainsFunc_impl_Item_impl_Item fu _ _ (Enc.rd_agr (Enc.ow_rd hf33) (m.a 0 rfl)) ⟨152, [.pointer (some (⟨b25, 0, none⟩ : Addr))], rfl, call152, fun w y37 v38 r e hv39 hx => by subst hv39; have m := m.step e; exact c_impl_hasOf_1 fu _ _ (hb26.agr (m.a 1 rfl) (by simp)) (Enc.rd_agr hp8 (m.a00 (Enc.rd_lt hp8))) hx⟩ hx41) fun w43 e a k m => pN 1 k rfl fun a k => nn (wp_ret (fS h k m rfl rfl))
theorem c_impl_Mixes_1 (fu : Nat) {w0 : World} (l1 : List Int) (x5 : List (List Int)) (x11 : Request) {v2 : Value} {F3 : List Nat} (hp4 : rd w0 F3 [v2] l1) {v8 : Value} {F9 : List Nat} {b6 : Nat} (hp7 : bx w0 b6 [v8] 47) (hp10 : rd w0 F9 [v8] x5) {v14 : Value} {F15 : List Nat} {v17 : Value} {F18 : List Nat} {v20 : Value} {F21 : List Nat} {b12 : Nat} (hp13 : bx w0 b12 [.int .i64 x11.fWay, .int .i64 x11.fPallet.fW, .int .i64 x11.fPallet.fD, .int .i64 x11.fPallet.fH, .int .i64 x11.fPallet.fGram, .int .i64 x11.fClasses, v14, v17, .int .i64 x11.fMaster, v20] 40) (hp16 : rd w0 F15 [v14] x11.fPairs) (hp19 : rd w0 F18 [v17] x11.fTypes) (hp22 : rd w0 F21 [v20] x11.fItems) {r : Bool}
    (h : d_impl_Mixes_1 fu l1 x5 x11 = some r) :
    Calls Tryz.prog 105 #[v2, .pointer (some (⟨b6, 0, none⟩ : Addr)), .pointer (some (⟨b12, 0, none⟩ : Addr))] w0 fun e w => e = .returned (.bool (r)) ∧ Ext [] w0 w := by
 refine enter (vs := [_, _, _]) func105 rfl ntmps105 rfl fun a k => ?_
 have m := St.start w0
 unfold d_impl_Mixes_1 at h
 refine wr (pN 1 k rfl fun a k => nn (wr (pN 1 k rfl fun a k => nn (wp_seq (wr (sv k rfl (r_ld1 t147 (r := []) (hp7.at (m.a00 hp7.lt1) 0 1 rfl rfl rfl) k rfl rfl) fun a k => sv k rfl (r_len (α := List Int) hp10 k underlying47 rfl rfl) fun a k => pN 1 k rfl fun a k => nn (wp_block (c_loop (fun n a w => ∃ (n90 : Int) (x91 : Int), K 23 [(0, v2), (2, .pointer (some (⟨b12, 0, none⟩ : Addr))), (5, .int .i64 n90), (8, v8), (9, .int .i64 ((x5.length : Int))), (10, .int .i64 x91)] a ∧ St [] w0 w [] ∧ d_impl_Mixes_1_L1 fu l1 x5 x11 n n90 x91 = some r) ?_ ?_ fu _ _ ?_))))))))
 · rintro a w ⟨_, _, _, _, h⟩
   exact nS h
 · rintro m92 a w89 ⟨n90, x91, k, m, h⟩
   rw [d_impl_Mixes_1_L1_s] at h
   unfold d_impl_Mixes_1_L1_B at h
   refine wr (pN 1 k rfl fun a k => nn (wp_seq (cI h k rfl (fun hb93 h => ?_) fun hb93 h => ?_)))
   · refine wp_skip (nm_then ?_)
     refine c_cut (fun a w => ∃ (n109 : Int), K 23 [(0, v2), (2, .pointer (some (⟨b12, 0, none⟩ : Addr))), (5, .int .i64 n109), (8, v8), (9, .int .i64 ((x5.length : Int))), (10, .int .i64 x91)] a ∧ St [] w0 w [] ∧ d_impl_Mixes_1_J1 fu (d_impl_Mixes_1_L1 fu l1 x5 x11 m92) x91 n109 = some r) ?_ ?_
     · rintro a w108 ⟨n109, k, m, h⟩
       unfold d_impl_Mixes_1_J1 at h
       refine wp_region_lit (pN 2 k rfl fun a k => nn ?_)
       exact ⟨n109, w64 (x91 + 1), k.keep [0, 2, 5, 8, 9, 10] rfl, m.sel [] rfl (by decide), h⟩
     refine wp_block (wr (oE h fun x110 hx111 h => sv k rfl (r_ixa hp10 hx111 k ts47 rfl rfl rfl) fun a k => ?_))
     obtain ⟨G112, cs113, hG114, hr115, hp116, hb117⟩ := rd_get hp10 (ix_some hx111).2.2
     obtain ⟨v118, rfl⟩ : ∃ v, cs113 = [v] := by obtain ⟨_, _, hq, _⟩ := hr115; exact ⟨_, hq⟩
     refine sv k rfl (r_ld1 t129 (hp116.agr (m.a00 (Enc.rd_lt hp10)) hb117) k rfl rfl) fun a k => pN 1 k rfl fun a k => nn (wr (sv k rfl (r_ldA ta40 (hp13.at (m.a00 hp13.lt1) 0 10 rfl rfl rfl) rfl k rfl rfl) fun a k => pN 2 k rfl fun a k => oE h fun x119 hx120 h => cE k m call100 rfl rfl rfl (c_impl_hasOf fu _ _ _ (show rd _ _ [.int .i64 x11.fWay, .int .i64 x11.fPallet.fW, .int .i64 x11.fPallet.fD, .int .i64 x11.fPallet.fH, .int .i64 x11.fPallet.fGram, .int .i64 x11.fClasses, v14, v17, .int .i64 x11.fMaster, v20] (x11 : Request) from ⟨_, _, _, _, _, _, rfl, rfl, (Enc.rd_agr hp16 (m.a00 (Enc.rd_lt hp16))), (Enc.rd_agr hp19 (m.a00 (Enc.rd_lt hp19))), (Enc.rd_agr hp22 (m.a00 (Enc.rd_lt hp22)))⟩) (Enc.rd_agr hr115 (m.a00 (Enc.rd_lt hr115))) (Enc.rd_agr hp4 (m.a00 (Enc.rd_lt hp4))) hx120) fun w122 e a k m => nn ?_))
     refine cI h k rfl (fun hb123 h => ?_) fun hb123 h => ?_
     · refine wp_region_lit (pN 3 k rfl fun a k => wpList_nil (nm_block (nm_then ?_)))
       exact ⟨w64 (n90 + 1), k.keep [0, 2, 5, 8, 9, 10] rfl, m.sel [] rfl (by decide), h⟩
     refine wp_skip (nm_block (nm_then ?_))
     exact ⟨n90, k.keep [0, 2, 5, 8, 9, 10] rfl, m.sel [] rfl (by decide), h⟩
   refine wp_exit (ex_then (ex_then (ex_same (nm_then ?_))))
   refine wr (pN 3 k rfl fun a k => nn (wp_ret (fS h k m rfl rfl)))
 exact ⟨0, 0, k.keep [0, 2, 5, 8, 9, 10] rfl, m.sel [] rfl (by decide), h⟩
theorem c_slices_ContainsFunc_ints_int (fu : Nat) {w0 : World} (sv1 : List (List Int)) (f5 : (List Int) → Option Bool) {v2 : Value} {F3 : List Nat} (hp4 : rd w0 F3 [v2] sv1) {v6 : Value} (hp7 : FnOk1 Tryz.prog w0 v6 f5) {r : Bool}
    (h : d_slices_ContainsFunc_ints_int fu sv1 f5 = some r) :
    Calls Tryz.prog 104 #[v2, v6] w0 fun e w => e = .returned (.bool (r)) ∧ Ext [] w0 w := by
 refine enter (vs := [_, _]) func104 rfl ntmps104 rfl fun a k => ?_
 have m := St.start w0
 obtain ⟨fid8, cap9, rfl, hcl10, hcc11⟩ := hp7
 unfold d_slices_ContainsFunc_ints_int at h
 refine wr (pN 1 k rfl fun a k => nn (wr (pN 2 k rfl fun a k => oE h fun x14 hx15 h => cE k m call155 rfl rfl rfl (c_slices_IndexFunc_ints_int fu _ _ (Enc.rd_agr hp4 (m.a00 (Enc.rd_lt hp4))) ⟨_, _, rfl, hcl10, fun w y12 v13 r e => hcc11 w y12 v13 r (m.ext.trans e (by simp))⟩ hx15) fun w17 e a k m => pN 2 k rfl fun a k => nn (wp_ret (fS h k m rfl rfl)))))
theorem c_impl_Mixes (fu : Nat) {w0 : World} (r1 : Request) (cartons5 : List (List Int)) {cs2 : List Value} {F3 : List Nat} (hp4 : rd w0 F3 cs2 r1) {v6 : Value} {F7 : List Nat} (hp8 : rd w0 F7 [v6] cartons5) {r : Bool}
    (h : d_impl_Mixes fu r1 cartons5 = some r) :
    Calls Tryz.prog 38 #[.agg cs2.toArray, v6] w0 fun e w => e = .returned (.bool (r)) ∧ Ext [] w0 w := by
 refine enter (vs := [_, _]) func38 rfl ntmps38 rfl fun a k => ?_
 have m := St.start w0
 obtain ⟨v9, F10, v11, F12, v13, F14, rfl, rfl, hf15, hf16, hf17⟩ := hp4
 unfold d_impl_Mixes at h
 refine wr (s_box (cs := [.int .i64 r1.fWay, .int .i64 r1.fPallet.fW, .int .i64 r1.fPallet.fD, .int .i64 r1.fPallet.fH, .int .i64 r1.fPallet.fGram, .int .i64 r1.fClasses, v9, v11, .int .i64 r1.fMaster, v13]) m k rfl rfl rfl rfl rfl rfl fun b18 w20 a k m e hb19 => pN 1 k rfl fun a k => nn (wr (sv k rfl (r_ldB ta40 m 0 hb19 0 k rfl rfl rfl rfl rfl rfl) fun a k => oE h fun x21 hx22 h => ?_)))
 refine s_call k call98 rfl rfl rfl rfl rfl (c_impl_GroupsOf fu _ (show rd _ _ [.int .i64 r1.fWay, .int .i64 r1.fPallet.fW, .int .i64 r1.fPallet.fD, .int .i64 r1.fPallet.fH, .int .i64 r1.fPallet.fGram, .int .i64 r1.fClasses, v9, v11, .int .i64 r1.fMaster, v13] (r1 : Request) from ⟨_, _, _, _, _, _, rfl, rfl, (Enc.rd_agr hf15 (m.a00 (Enc.rd_lt hf15))), (Enc.rd_agr hf16 (m.a00 (Enc.rd_lt hf16))), (Enc.rd_agr hf17 (m.a00 (Enc.rd_lt hf17)))⟩) hx22) fun e23 w24 hR => ?_
 obtain ⟨v29, F25, rfl, e, hf26, hfr27⟩ := hR
 refine ⟨_, rfl, fun a k => ?_⟩
 have m := m.new e F25 (fun b hb => ⟨hfr27 b hb, Enc.rd_lt (Enc.ow_rd hf26) b hb⟩) (Enc.ow_nd hf26)
 refine s_alloc (cs := [.slice none 0 0]) m k zeroValue47 rfl rfl rfl rfl rfl fun b30 w32 a k m e hb31 => s_stb1 (cs' := [v29]) sizeOf47 m 0 hb31 0 k (rd_c (Enc.ow_rd hf26)) (rd_o (Enc.ow_rd hf26)) rfl rfl rfl rfl rfl rfl rfl rfl rfl fun w33 a k e m hb34 => nn (wr (pN 2 k rfl fun a k => oE h fun x38 hx39 h => ?_))
 refine cE k m call104 rfl rfl rfl (c_slices_ContainsFunc_ints_int fu _ _ (Enc.rd_agr hp8 (m.a00 (Enc.rd_lt hp8))) ⟨105, [.pointer (some (⟨b30, 0, none⟩ : Addr)), .pointer (some (⟨b18, 0, none⟩ : Addr))], rfl, call105, fun w y35 v36 r e hv37 hx => by obtain ⟨_, hv37⟩ := hv37; have m := m.step e; exact c_impl_Mixes_1 fu _ _ _ hv37 (hb34.agr (m.a 0 rfl) (by simp)) (Enc.rd_agr (Enc.ow_rd hf26) (m.a 1 rfl)) (hb19.agr (m.a 2 rfl) (by simp)) (Enc.rd_agr hf15 (m.a00 (Enc.rd_lt hf15))) (Enc.rd_agr hf16 (m.a00 (Enc.rd_lt hf16))) (Enc.rd_agr hf17 (m.a00 (Enc.rd_lt hf17))) hx⟩ hx39) fun w41 e a k m => pN 1 k rfl fun a k => nn (wp_ret (fS h k m rfl rfl))
theorem c_laws_eqPallet (fu : Nat) {w0 : World} (a1 : Pallet) (b2 : Pallet)  {r : Bool}
    (h : d_laws_eqPallet fu a1 b2 = some r) :
    Calls Tryz.prog 79 #[.agg (Flat.e (a1)).toArray, .agg (Flat.e (b2)).toArray] w0 fun e w => e = .returned (.bool (r)) ∧ Ext [] w0 w := by
 refine enter (vs := [_, _]) func79 rfl ntmps79 rfl fun a k => ?_
 have m := St.start w0
 unfold d_laws_eqPallet at h
 refine wr (s_box (cs := [.int .i64 a1.fW, .int .i64 a1.fD, .int .i64 a1.fH, .int .i64 a1.fGram]) m k rfl rfl rfl rfl rfl rfl fun b3 w5 a k m e hb4 => s_box (cs := [.int .i64 b2.fW, .int .i64 b2.fD, .int .i64 b2.fH, .int .i64 b2.fGram]) m k rfl rfl rfl rfl rfl rfl fun b6 w8 a k m e hb7 => pN 1 k rfl fun a k => nn (wp_seq (wr (sv k rfl (r_fa fa35_0 k rfl rfl) fun a k => sv k rfl (r_ldb t13 m 1 hb4 0 k rfl rfl rfl rfl rfl) fun a k => sv k rfl (r_fa fa35_0 k rfl rfl) fun a k => sv k rfl (r_ldb t13 m 0 hb7 0 k rfl rfl rfl rfl rfl) fun a k => pN 1 k rfl fun a k => nn (cI h k rfl (fun hb9 h => ?_) fun hb9 h => ?_)))))
 · refine wr (pN 1 k rfl fun a k => nn (wp_ret (rt_then ?_)))
   refine fS h k m rfl rfl
 refine wp_skip (nm_then ?_)
 refine wp_seq (wr (sv k rfl (r_fa fa35_1 k rfl rfl) fun a k => sv k rfl (r_ldb t13 m 1 hb4 1 k rfl rfl rfl rfl rfl) fun a k => sv k rfl (r_fa fa35_1 k rfl rfl) fun a k => sv k rfl (r_ldb t13 m 0 hb7 1 k rfl rfl rfl rfl rfl) fun a k => pN 1 k rfl fun a k => nn (cI h k rfl (fun hb10 h => ?_) fun hb10 h => ?_)))
 · refine wr (pN 1 k rfl fun a k => nn (wp_ret (rt_then ?_)))
   refine fS h k m rfl rfl
 refine wp_skip (nm_then ?_)
 refine wp_seq (wr (sv k rfl (r_fa fa35_2 k rfl rfl) fun a k => sv k rfl (r_ldb t13 m 1 hb4 2 k rfl rfl rfl rfl rfl) fun a k => sv k rfl (r_fa fa35_2 k rfl rfl) fun a k => sv k rfl (r_ldb t13 m 0 hb7 2 k rfl rfl rfl rfl rfl) fun a k => pN 1 k rfl fun a k => nn (cI h k rfl (fun hb11 h => ?_) fun hb11 h => ?_)))
 · refine wr (pN 1 k rfl fun a k => nn (wp_ret (rt_then ?_)))
   refine fS h k m rfl rfl
 refine wp_skip (nm_then ?_)
 refine wp_seq (wr (sv k rfl (r_fa fa35_3 k rfl rfl) fun a k => sv k rfl (r_ldb t13 m 1 hb4 3 k rfl rfl rfl rfl rfl) fun a k => sv k rfl (r_fa fa35_3 k rfl rfl) fun a k => sv k rfl (r_ldb t13 m 0 hb7 3 k rfl rfl rfl rfl rfl) fun a k => pN 1 k rfl fun a k => nn (cI h k rfl (fun hb12 h => ?_) fun hb12 h => ?_)))
 · refine wr (pN 1 k rfl fun a k => nn (wp_ret (rt_then ?_)))
   refine fS h k m rfl rfl
 refine wp_skip (nm_then ?_)
 refine wr (pN 1 k rfl fun a k => nn (wp_ret (fS h k m rfl rfl)))
theorem c_laws_eqPair (fu : Nat) {w0 : World} (a1 : Pair) (b2 : Pair)  {r : Bool}
    (h : d_laws_eqPair fu a1 b2 = some r) :
    Calls Tryz.prog 144 #[.agg (Flat.e (a1)).toArray, .agg (Flat.e (b2)).toArray] w0 fun e w => e = .returned (.bool (r)) ∧ Ext [] w0 w := by
 refine enter (vs := [_, _]) func144 rfl ntmps144 rfl fun a k => ?_
 have m := St.start w0
 unfold d_laws_eqPair at h
 refine wr (s_box (cs := [.int .i64 a1.fA, .int .i64 a1.fB]) m k rfl rfl rfl rfl rfl rfl fun b3 w5 a k m e hb4 => s_box (cs := [.int .i64 b2.fA, .int .i64 b2.fB]) m k rfl rfl rfl rfl rfl rfl fun b6 w8 a k m e hb7 => pN 1 k rfl fun a k => nn (wp_seq (wr (sv k rfl (r_fa fa144_0 k rfl rfl) fun a k => sv k rfl (r_ldb t13 m 1 hb4 0 k rfl rfl rfl rfl rfl) fun a k => sv k rfl (r_fa fa144_0 k rfl rfl) fun a k => sv k rfl (r_ldb t13 m 0 hb7 0 k rfl rfl rfl rfl rfl) fun a k => pN 1 k rfl fun a k => nn (cI h k rfl (fun hb9 h => ?_) fun hb9 h => ?_)))))
 · refine wr (pN 1 k rfl fun a k => nn (wp_ret (rt_then ?_)))
   refine fS h k m rfl rfl
 refine wp_skip (nm_then ?_)
 refine wp_seq (wr (sv k rfl (r_fa fa144_1 k rfl rfl) fun a k => sv k rfl (r_ldb t13 m 1 hb4 1 k rfl rfl rfl rfl rfl) fun a k => sv k rfl (r_fa fa144_1 k rfl rfl) fun a k => sv k rfl (r_ldb t13 m 0 hb7 1 k rfl rfl rfl rfl rfl) fun a k => pN 1 k rfl fun a k => nn (cI h k rfl (fun hb10 h => ?_) fun hb10 h => ?_)))
 · refine wr (pN 1 k rfl fun a k => nn (wp_ret (rt_then ?_)))
   refine fS h k m rfl rfl
 refine wp_skip (nm_then ?_)
 refine wr (pN 1 k rfl fun a k => nn (wp_ret (fS h k m rfl rfl)))
theorem c_laws_eqPairS (fu : Nat) {w0 : World} (a1 : List Pair) (b5 : List Pair) {v2 : Value} {F3 : List Nat} (hp4 : rd w0 F3 [v2] a1) {v6 : Value} {F7 : List Nat} (hp8 : rd w0 F7 [v6] b5) {r : Bool}
    (h : d_laws_eqPairS fu a1 b5 = some r) :
    Calls Tryz.prog 80 #[v2, v6] w0 fun e w => e = .returned (.bool (r)) ∧ Ext [] w0 w := by
 refine enter (vs := [_, _]) func80 rfl ntmps80 rfl fun a k => ?_
 have m := St.start w0
 unfold d_laws_eqPairS at h
 refine wr (pN 1 k rfl fun a k => nn (wp_seq (wr (pN 1 k rfl fun a k => sv k rfl (r_len (α := Pair) hp4 k underlying36 rfl rfl) fun a k => pN 1 k rfl fun a k => sv k rfl (r_len (α := Pair) hp8 k underlying36 rfl rfl) fun a k => pN 1 k rfl fun a k => nn (cI h k rfl (fun hb9 h => ?_) fun hb9 h => ?_)))))
 · refine wr (pN 1 k rfl fun a k => nn (wp_ret (rt_then ?_)))
   refine fS h k m rfl rfl
 refine wp_skip (nm_then ?_)
 refine wp_seq (wr (pN 1 k rfl fun a k => nn (wp_block (c_loop (fun n a w => ∃ (i36 : Int), K 27 [(0, v2), (1, v6), (5, .int .i64 i36)] a ∧ St [] w0 w [] ∧ d_laws_eqPairS_L1 fu a1 b5 n i36 = some r) ?_ ?_ fu _ _ ?_))))
 · rintro a w ⟨_, _, _, h⟩
   exact nS h
 · rintro m37 a w35 ⟨i36, k, m, h⟩
   rw [d_laws_eqPairS_L1_s] at h
   unfold d_laws_eqPairS_L1_B at h
   refine wp_seq (wr (pN 2 k rfl fun a k => sv k rfl (r_len (α := Pair) hp4 k underlying36 rfl rfl) fun a k => pN 1 k rfl fun a k => nn (cI h k rfl (fun hb38 h => ?_) fun hb38 h => ?_)))
   · refine wp_skip (nm_then ?_)
     refine wp_seq (wp_block (wp_seq (d_go [] mixo m rfl fun w39 hMd => ?_)))
     have m := hMd
     have s := Ext.refl ([] : List Nat) w39
     refine dp k 0 rfl (by kernel_rfl) rfl s (fun _ _ _ => id) rfl fun a k => dp k 1 rfl (by kernel_rfl) rfl s (fun _ _ _ => id) rfl fun a k => oE h fun x40 hx41 h => dt k 2 rfl (by kernel_rfl) rfl s (fun _ _ _ => id) (fun w s => r_ixa hp4 hx41 k ts36 rfl rfl rfl) fun a k => dt k 3 rfl (by kernel_rfl) rfl s (fun _ _ _ => id) (fun w s => r_lde hp4 ((hMd.step s).a00 (Enc.rd_lt hp4)) hx41 ta144 k rfl rfl) fun a k => dp k 4 rfl (by kernel_rfl) rfl s (fun _ _ _ => id) rfl fun a k => dp k 5 rfl (by kernel_rfl) rfl s (fun _ _ _ => id) rfl fun a k => oE h fun x42 hx43 h => dt k 6 rfl (by kernel_rfl) rfl s (fun _ _ _ => id) (fun w s => r_ixa hp8 hx43 k ts36 rfl rfl rfl) fun a k => dt k 7 rfl (by kernel_rfl) rfl s (fun _ _ _ => id) (fun w s => r_lde hp8 ((hMd.step s).a00 (Enc.rd_lt hp8)) hx43 ta144 k rfl rfl) fun a k => d_one 8 (by kernel_rfl) rfl ?_
     refine oE h fun x44 hx45 h => cE k m call144 rfl rfl rfl (c_laws_eqPair fu (x40 : Pair) (x42 : Pair)  hx45) fun w47 e a k m => ?_
     have s := s.trans e (by simp)
     refine wpList_nil ⟨s, ?_⟩
     refine dp k 9 rfl (by kernel_rfl) rfl s (fun _ _ _ => id) rfl fun a k => d_done (by kernel_rfl) ((nm_then ?_))
     refine cI h k rfl (fun hb48 h => ?_) fun hb48 h => ?_
     · refine wr (pN 1 k rfl fun a k => nn (wp_ret (rt_block (rt_then (rt_then (rt_block (rt_then ?_)))))))
       refine fS h k m rfl rfl
     refine wp_skip (nm_block (nm_then ?_))
     refine wp_region_lit (pN 3 k rfl fun a k => nn ?_)
     exact ⟨w64 (i36 + 1), k.keep [0, 1, 5] rfl, m.sel [] rfl (by decide), h⟩
   refine wp_exit (ex_then (ex_then (ex_same (nm_then ?_))))
   refine wr (pN 1 k rfl fun a k => nn (wp_ret (fS h k m rfl rfl)))
 exact ⟨0, k.keep [0, 1, 5] rfl, m.sel [] rfl (by decide), h⟩
theorem c_laws_eqType (fu : Nat) {w0 : World} (a1 : Typ) (b2 : Typ)  {r : Bool}
    (h : d_laws_eqType fu a1 b2 = some r) :
    Calls Tryz.prog 145 #[.agg (Flat.e (a1)).toArray, .agg (Flat.e (b2)).toArray] w0 fun e w => e = .returned (.bool (r)) ∧ Ext [] w0 w := by
 refine enter (vs := [_, _]) func145 rfl ntmps145 rfl fun a k => ?_
 have m := St.start w0
 unfold d_laws_eqType at h
 refine wr (s_box (cs := [.int .i64 a1.fId, .int .i64 a1.fW, .int .i64 a1.fH, .int .i64 a1.fD, .int .i64 a1.fTare, .int .i64 a1.fGram, .int .i64 a1.fCost]) m k rfl rfl rfl rfl rfl rfl fun b3 w5 a k m e hb4 => s_box (cs := [.int .i64 b2.fId, .int .i64 b2.fW, .int .i64 b2.fH, .int .i64 b2.fD, .int .i64 b2.fTare, .int .i64 b2.fGram, .int .i64 b2.fCost]) m k rfl rfl rfl rfl rfl rfl fun b6 w8 a k m e hb7 => pN 1 k rfl fun a k => nn (wp_seq (wr (sv k rfl (r_fa fa92_0 k rfl rfl) fun a k => sv k rfl (r_ldb t13 m 1 hb4 0 k rfl rfl rfl rfl rfl) fun a k => sv k rfl (r_fa fa92_0 k rfl rfl) fun a k => sv k rfl (r_ldb t13 m 0 hb7 0 k rfl rfl rfl rfl rfl) fun a k => pN 1 k rfl fun a k => nn (cI h k rfl (fun hb9 h => ?_) fun hb9 h => ?_)))))
 · refine wr (pN 1 k rfl fun a k => nn (wp_ret (rt_then ?_)))
   refine fS h k m rfl rfl
 refine wp_skip (nm_then ?_)
 refine wp_seq (wr (sv k rfl (r_fa fa92_1 k rfl rfl) fun a k => sv k rfl (r_ldb t13 m 1 hb4 1 k rfl rfl rfl rfl rfl) fun a k => sv k rfl (r_fa fa92_1 k rfl rfl) fun a k => sv k rfl (r_ldb t13 m 0 hb7 1 k rfl rfl rfl rfl rfl) fun a k => pN 1 k rfl fun a k => nn (cI h k rfl (fun hb10 h => ?_) fun hb10 h => ?_)))
 · refine wr (pN 1 k rfl fun a k => nn (wp_ret (rt_then ?_)))
   refine fS h k m rfl rfl
 refine wp_skip (nm_then ?_)
 refine wp_seq (wr (sv k rfl (r_fa fa92_2 k rfl rfl) fun a k => sv k rfl (r_ldb t13 m 1 hb4 2 k rfl rfl rfl rfl rfl) fun a k => sv k rfl (r_fa fa92_2 k rfl rfl) fun a k => sv k rfl (r_ldb t13 m 0 hb7 2 k rfl rfl rfl rfl rfl) fun a k => pN 1 k rfl fun a k => nn (cI h k rfl (fun hb11 h => ?_) fun hb11 h => ?_)))
 · refine wr (pN 1 k rfl fun a k => nn (wp_ret (rt_then ?_)))
   refine fS h k m rfl rfl
 refine wp_skip (nm_then ?_)
 refine wp_seq (wr (sv k rfl (r_fa fa92_3 k rfl rfl) fun a k => sv k rfl (r_ldb t13 m 1 hb4 3 k rfl rfl rfl rfl rfl) fun a k => sv k rfl (r_fa fa92_3 k rfl rfl) fun a k => sv k rfl (r_ldb t13 m 0 hb7 3 k rfl rfl rfl rfl rfl) fun a k => pN 1 k rfl fun a k => nn (cI h k rfl (fun hb12 h => ?_) fun hb12 h => ?_)))
 · refine wr (pN 1 k rfl fun a k => nn (wp_ret (rt_then ?_)))
   refine fS h k m rfl rfl
 refine wp_skip (nm_then ?_)
 refine wp_seq (wr (sv k rfl (r_fa fa92_4 k rfl rfl) fun a k => sv k rfl (r_ldb t13 m 1 hb4 4 k rfl rfl rfl rfl rfl) fun a k => sv k rfl (r_fa fa92_4 k rfl rfl) fun a k => sv k rfl (r_ldb t13 m 0 hb7 4 k rfl rfl rfl rfl rfl) fun a k => pN 1 k rfl fun a k => ?_))
 have k := k.keep [2, 3, 29] rfl
 refine nn (cI h k rfl (fun hb13 h => ?_) fun hb13 h => ?_)
 · refine wr (pN 1 k rfl fun a k => nn (wp_ret (rt_then ?_)))
   refine fS h k m rfl rfl
 refine wp_skip (nm_then ?_)
 refine wp_seq (wr (sv k rfl (r_fa fa92_5 k rfl rfl) fun a k => sv k rfl (r_ldb t13 m 1 hb4 5 k rfl rfl rfl rfl rfl) fun a k => sv k rfl (r_fa fa92_5 k rfl rfl) fun a k => sv k rfl (r_ldb t13 m 0 hb7 5 k rfl rfl rfl rfl rfl) fun a k => pN 1 k rfl fun a k => nn (cI h k rfl (fun hb14 h => ?_) fun hb14 h => ?_)))
 · refine wr (pN 1 k rfl fun a k => nn (wp_ret (rt_then ?_)))
   refine fS h k m rfl rfl
 refine wp_skip (nm_then ?_)
 refine wp_seq (wr (sv k rfl (r_fa fa92_6 k rfl rfl) fun a k => sv k rfl (r_ldb t13 m 1 hb4 6 k rfl rfl rfl rfl rfl) fun a k => sv k rfl (r_fa fa92_6 k rfl rfl) fun a k => sv k rfl (r_ldb t13 m 0 hb7 6 k rfl rfl rfl rfl rfl) fun a k => pN 1 k rfl fun a k => nn (cI h k rfl (fun hb15 h => ?_) fun hb15 h => ?_)))
 · refine wr (pN 1 k rfl fun a k => nn (wp_ret (rt_then ?_)))
   refine fS h k m rfl rfl
 refine wp_skip (nm_then ?_)
 refine wr (pN 1 k rfl fun a k => nn (wp_ret (fS h k m rfl rfl)))
theorem c_laws_eqTypeS (fu : Nat) {w0 : World} (a1 : List Typ) (b5 : List Typ) {v2 : Value} {F3 : List Nat} (hp4 : rd w0 F3 [v2] a1) {v6 : Value} {F7 : List Nat} (hp8 : rd w0 F7 [v6] b5) {r : Bool}
    (h : d_laws_eqTypeS fu a1 b5 = some r) :
    Calls Tryz.prog 81 #[v2, v6] w0 fun e w => e = .returned (.bool (r)) ∧ Ext [] w0 w := by
 refine enter (vs := [_, _]) func81 rfl ntmps81 rfl fun a k => ?_
 have m := St.start w0
 unfold d_laws_eqTypeS at h
 refine wr (pN 1 k rfl fun a k => nn (wp_seq (wr (pN 1 k rfl fun a k => sv k rfl (r_len (α := Typ) hp4 k underlying37 rfl rfl) fun a k => pN 1 k rfl fun a k => sv k rfl (r_len (α := Typ) hp8 k underlying37 rfl rfl) fun a k => pN 1 k rfl fun a k => nn (cI h k rfl (fun hb9 h => ?_) fun hb9 h => ?_)))))
 · refine wr (pN 1 k rfl fun a k => nn (wp_ret (rt_then ?_)))
   refine fS h k m rfl rfl
 refine wp_skip (nm_then ?_)
 refine wp_seq (wr (pN 1 k rfl fun a k => nn (wp_block (c_loop (fun n a w => ∃ (i36 : Int), K 27 [(0, v2), (1, v6), (5, .int .i64 i36)] a ∧ St [] w0 w [] ∧ d_laws_eqTypeS_L1 fu a1 b5 n i36 = some r) ?_ ?_ fu _ _ ?_))))
 · rintro a w ⟨_, _, _, h⟩
   exact nS h
 · rintro m37 a w35 ⟨i36, k, m, h⟩
   rw [d_laws_eqTypeS_L1_s] at h
   unfold d_laws_eqTypeS_L1_B at h
   refine wp_seq (wr (pN 2 k rfl fun a k => sv k rfl (r_len (α := Typ) hp4 k underlying37 rfl rfl) fun a k => pN 1 k rfl fun a k => nn (cI h k rfl (fun hb38 h => ?_) fun hb38 h => ?_)))
   · refine wp_skip (nm_then ?_)
     refine wp_seq (wp_block (wp_seq (d_go [] mixo m rfl fun w39 hMd => ?_)))
     have m := hMd
     have s := Ext.refl ([] : List Nat) w39
     refine dp k 0 rfl (by kernel_rfl) rfl s (fun _ _ _ => id) rfl fun a k => dp k 1 rfl (by kernel_rfl) rfl s (fun _ _ _ => id) rfl fun a k => oE h fun x40 hx41 h => dt k 2 rfl (by kernel_rfl) rfl s (fun _ _ _ => id) (fun w s => r_ixa hp4 hx41 k ts37 rfl rfl rfl) fun a k => dt k 3 rfl (by kernel_rfl) rfl s (fun _ _ _ => id) (fun w s => r_lde hp4 ((hMd.step s).a00 (Enc.rd_lt hp4)) hx41 ta92 k rfl rfl) fun a k => dp k 4 rfl (by kernel_rfl) rfl s (fun _ _ _ => id) rfl fun a k => dp k 5 rfl (by kernel_rfl) rfl s (fun _ _ _ => id) rfl fun a k => oE h fun x42 hx43 h => dt k 6 rfl (by kernel_rfl) rfl s (fun _ _ _ => id) (fun w s => r_ixa hp8 hx43 k ts37 rfl rfl rfl) fun a k => dt k 7 rfl (by kernel_rfl) rfl s (fun _ _ _ => id) (fun w s => r_lde hp8 ((hMd.step s).a00 (Enc.rd_lt hp8)) hx43 ta92 k rfl rfl) fun a k => d_one 8 (by kernel_rfl) rfl ?_
     refine oE h fun x44 hx45 h => cE k m call145 rfl rfl rfl (c_laws_eqType fu (x40 : Typ) (x42 : Typ)  hx45) fun w47 e a k m => ?_
     have s := s.trans e (by simp)
     refine wpList_nil ⟨s, ?_⟩
     refine dp k 9 rfl (by kernel_rfl) rfl s (fun _ _ _ => id) rfl fun a k => d_done (by kernel_rfl) ((nm_then ?_))
     refine cI h k rfl (fun hb48 h => ?_) fun hb48 h => ?_
     · refine wr (pN 1 k rfl fun a k => nn (wp_ret (rt_block (rt_then (rt_then (rt_block (rt_then ?_)))))))
       refine fS h k m rfl rfl
     refine wp_skip (nm_block (nm_then ?_))
     refine wp_region_lit (pN 3 k rfl fun a k => nn ?_)
     exact ⟨w64 (i36 + 1), k.keep [0, 1, 5] rfl, m.sel [] rfl (by decide), h⟩
   refine wp_exit (ex_then (ex_then (ex_same (nm_then ?_))))
   refine wr (pN 1 k rfl fun a k => nn (wp_ret (fS h k m rfl rfl)))
 exact ⟨0, k.keep [0, 1, 5] rfl, m.sel [] rfl (by decide), h⟩
theorem c_laws_eqItem (fu : Nat) {w0 : World} (a1 : Item) (b2 : Item)  {r : Bool}
    (h : d_laws_eqItem fu a1 b2 = some r) :
    Calls Tryz.prog 146 #[.agg (Flat.e (a1)).toArray, .agg (Flat.e (b2)).toArray] w0 fun e w => e = .returned (.bool (r)) ∧ Ext [] w0 w := by
 refine enter (vs := [_, _]) func146 rfl ntmps146 rfl fun a k => ?_
 have m := St.start w0
 unfold d_laws_eqItem at h
 refine wr (s_box (cs := [.int .i64 a1.fId, .int .i64 a1.fW, .int .i64 a1.fH, .int .i64 a1.fD, .int .i64 a1.fGram, .int .i64 a1.fClass, .int .i64 a1.fCount]) m k rfl rfl rfl rfl rfl rfl fun b3 w5 a k m e hb4 => s_box (cs := [.int .i64 b2.fId, .int .i64 b2.fW, .int .i64 b2.fH, .int .i64 b2.fD, .int .i64 b2.fGram, .int .i64 b2.fClass, .int .i64 b2.fCount]) m k rfl rfl rfl rfl rfl rfl fun b6 w8 a k m e hb7 => pN 1 k rfl fun a k => nn (wp_seq (wr (sv k rfl (r_fa fa120_0 k rfl rfl) fun a k => sv k rfl (r_ldb t13 m 1 hb4 0 k rfl rfl rfl rfl rfl) fun a k => sv k rfl (r_fa fa120_0 k rfl rfl) fun a k => sv k rfl (r_ldb t13 m 0 hb7 0 k rfl rfl rfl rfl rfl) fun a k => pN 1 k rfl fun a k => nn (cI h k rfl (fun hb9 h => ?_) fun hb9 h => ?_)))))
 · refine wr (pN 1 k rfl fun a k => nn (wp_ret (rt_then ?_)))
   refine fS h k m rfl rfl
 refine wp_skip (nm_then ?_)
 refine wp_seq (wr (sv k rfl (r_fa fa120_1 k rfl rfl) fun a k => sv k rfl (r_ldb t13 m 1 hb4 1 k rfl rfl rfl rfl rfl) fun a k => sv k rfl (r_fa fa120_1 k rfl rfl) fun a k => sv k rfl (r_ldb t13 m 0 hb7 1 k rfl rfl rfl rfl rfl) fun a k => pN 1 k rfl fun a k => nn (cI h k rfl (fun hb10 h => ?_) fun hb10 h => ?_)))
 · refine wr (pN 1 k rfl fun a k => nn (wp_ret (rt_then ?_)))
   refine fS h k m rfl rfl
 refine wp_skip (nm_then ?_)
 refine wp_seq (wr (sv k rfl (r_fa fa120_2 k rfl rfl) fun a k => sv k rfl (r_ldb t13 m 1 hb4 2 k rfl rfl rfl rfl rfl) fun a k => sv k rfl (r_fa fa120_2 k rfl rfl) fun a k => sv k rfl (r_ldb t13 m 0 hb7 2 k rfl rfl rfl rfl rfl) fun a k => pN 1 k rfl fun a k => nn (cI h k rfl (fun hb11 h => ?_) fun hb11 h => ?_)))
 · refine wr (pN 1 k rfl fun a k => nn (wp_ret (rt_then ?_)))
   refine fS h k m rfl rfl
 refine wp_skip (nm_then ?_)
 refine wp_seq (wr (sv k rfl (r_fa fa120_3 k rfl rfl) fun a k => sv k rfl (r_ldb t13 m 1 hb4 3 k rfl rfl rfl rfl rfl) fun a k => sv k rfl (r_fa fa120_3 k rfl rfl) fun a k => sv k rfl (r_ldb t13 m 0 hb7 3 k rfl rfl rfl rfl rfl) fun a k => pN 1 k rfl fun a k => nn (cI h k rfl (fun hb12 h => ?_) fun hb12 h => ?_)))
 · refine wr (pN 1 k rfl fun a k => nn (wp_ret (rt_then ?_)))
   refine fS h k m rfl rfl
 refine wp_skip (nm_then ?_)
 refine wp_seq (wr (sv k rfl (r_fa fa120_4 k rfl rfl) fun a k => sv k rfl (r_ldb t13 m 1 hb4 4 k rfl rfl rfl rfl rfl) fun a k => sv k rfl (r_fa fa120_4 k rfl rfl) fun a k => sv k rfl (r_ldb t13 m 0 hb7 4 k rfl rfl rfl rfl rfl) fun a k => pN 1 k rfl fun a k => ?_))
 have k := k.keep [2, 3, 29] rfl
 refine nn (cI h k rfl (fun hb13 h => ?_) fun hb13 h => ?_)
 · refine wr (pN 1 k rfl fun a k => nn (wp_ret (rt_then ?_)))
   refine fS h k m rfl rfl
 refine wp_skip (nm_then ?_)
 refine wp_seq (wr (sv k rfl (r_fa fa120_5 k rfl rfl) fun a k => sv k rfl (r_ldb t13 m 1 hb4 5 k rfl rfl rfl rfl rfl) fun a k => sv k rfl (r_fa fa120_5 k rfl rfl) fun a k => sv k rfl (r_ldb t13 m 0 hb7 5 k rfl rfl rfl rfl rfl) fun a k => pN 1 k rfl fun a k => nn (cI h k rfl (fun hb14 h => ?_) fun hb14 h => ?_)))
 · refine wr (pN 1 k rfl fun a k => nn (wp_ret (rt_then ?_)))
   refine fS h k m rfl rfl
 refine wp_skip (nm_then ?_)
 refine wp_seq (wr (sv k rfl (r_fa fa120_6 k rfl rfl) fun a k => sv k rfl (r_ldb t13 m 1 hb4 6 k rfl rfl rfl rfl rfl) fun a k => sv k rfl (r_fa fa120_6 k rfl rfl) fun a k => sv k rfl (r_ldb t13 m 0 hb7 6 k rfl rfl rfl rfl rfl) fun a k => pN 1 k rfl fun a k => nn (cI h k rfl (fun hb15 h => ?_) fun hb15 h => ?_)))
 · refine wr (pN 1 k rfl fun a k => nn (wp_ret (rt_then ?_)))
   refine fS h k m rfl rfl
 refine wp_skip (nm_then ?_)
 refine wr (pN 1 k rfl fun a k => nn (wp_ret (fS h k m rfl rfl)))
theorem c_laws_eqItemS (fu : Nat) {w0 : World} (a1 : List Item) (b5 : List Item) {v2 : Value} {F3 : List Nat} (hp4 : rd w0 F3 [v2] a1) {v6 : Value} {F7 : List Nat} (hp8 : rd w0 F7 [v6] b5) {r : Bool}
    (h : d_laws_eqItemS fu a1 b5 = some r) :
    Calls Tryz.prog 82 #[v2, v6] w0 fun e w => e = .returned (.bool (r)) ∧ Ext [] w0 w := by
 refine enter (vs := [_, _]) func82 rfl ntmps82 rfl fun a k => ?_
 have m := St.start w0
 unfold d_laws_eqItemS at h
 refine wr (pN 1 k rfl fun a k => nn (wp_seq (wr (pN 1 k rfl fun a k => sv k rfl (r_len (α := Item) hp4 k underlying38 rfl rfl) fun a k => pN 1 k rfl fun a k => sv k rfl (r_len (α := Item) hp8 k underlying38 rfl rfl) fun a k => pN 1 k rfl fun a k => nn (cI h k rfl (fun hb9 h => ?_) fun hb9 h => ?_)))))
 · refine wr (pN 1 k rfl fun a k => nn (wp_ret (rt_then ?_)))
   refine fS h k m rfl rfl
 refine wp_skip (nm_then ?_)
 refine wp_seq (wr (pN 1 k rfl fun a k => nn (wp_block (c_loop (fun n a w => ∃ (i36 : Int), K 27 [(0, v2), (1, v6), (5, .int .i64 i36)] a ∧ St [] w0 w [] ∧ d_laws_eqItemS_L1 fu a1 b5 n i36 = some r) ?_ ?_ fu _ _ ?_))))
 · rintro a w ⟨_, _, _, h⟩
   exact nS h
 · rintro m37 a w35 ⟨i36, k, m, h⟩
   rw [d_laws_eqItemS_L1_s] at h
   unfold d_laws_eqItemS_L1_B at h
   refine wp_seq (wr (pN 2 k rfl fun a k => sv k rfl (r_len (α := Item) hp4 k underlying38 rfl rfl) fun a k => pN 1 k rfl fun a k => nn (cI h k rfl (fun hb38 h => ?_) fun hb38 h => ?_)))
   · refine wp_skip (nm_then ?_)
     refine wp_seq (wp_block (wp_seq (d_go [] mixo m rfl fun w39 hMd => ?_)))
     have m := hMd
     have s := Ext.refl ([] : List Nat) w39
     refine dp k 0 rfl (by kernel_rfl) rfl s (fun _ _ _ => id) rfl fun a k => dp k 1 rfl (by kernel_rfl) rfl s (fun _ _ _ => id) rfl fun a k => oE h fun x40 hx41 h => dt k 2 rfl (by kernel_rfl) rfl s (fun _ _ _ => id) (fun w s => r_ixa hp4 hx41 k ts38 rfl rfl rfl) fun a k => dt k 3 rfl (by kernel_rfl) rfl s (fun _ _ _ => id) (fun w s => r_lde hp4 ((hMd.step s).a00 (Enc.rd_lt hp4)) hx41 ta120 k rfl rfl) fun a k => dp k 4 rfl (by kernel_rfl) rfl s (fun _ _ _ => id) rfl fun a k => dp k 5 rfl (by kernel_rfl) rfl s (fun _ _ _ => id) rfl fun a k => oE h fun x42 hx43 h => dt k 6 rfl (by kernel_rfl) rfl s (fun _ _ _ => id) (fun w s => r_ixa hp8 hx43 k ts38 rfl rfl rfl) fun a k => dt k 7 rfl (by kernel_rfl) rfl s (fun _ _ _ => id) (fun w s => r_lde hp8 ((hMd.step s).a00 (Enc.rd_lt hp8)) hx43 ta120 k rfl rfl) fun a k => d_one 8 (by kernel_rfl) rfl ?_
     refine oE h fun x44 hx45 h => cE k m call146 rfl rfl rfl (c_laws_eqItem fu (x40 : Item) (x42 : Item)  hx45) fun w47 e a k m => ?_
     have s := s.trans e (by simp)
     refine wpList_nil ⟨s, ?_⟩
     refine dp k 9 rfl (by kernel_rfl) rfl s (fun _ _ _ => id) rfl fun a k => d_done (by kernel_rfl) ((nm_then ?_))
     refine cI h k rfl (fun hb48 h => ?_) fun hb48 h => ?_
     · refine wr (pN 1 k rfl fun a k => nn (wp_ret (rt_block (rt_then (rt_then (rt_block (rt_then ?_)))))))
       refine fS h k m rfl rfl
     refine wp_skip (nm_block (nm_then ?_))
     refine wp_region_lit (pN 3 k rfl fun a k => nn ?_)
     exact ⟨w64 (i36 + 1), k.keep [0, 1, 5] rfl, m.sel [] rfl (by decide), h⟩
   refine wp_exit (ex_then (ex_then (ex_same (nm_then ?_))))
   refine wr (pN 1 k rfl fun a k => nn (wp_ret (fS h k m rfl rfl)))
 exact ⟨0, k.keep [0, 1, 5] rfl, m.sel [] rfl (by decide), h⟩
theorem c_laws_eqRequest (fu : Nat) {w0 : World} (a1 : Request) (b5 : Request) {cs2 : List Value} {F3 : List Nat} (hp4 : rd w0 F3 cs2 a1) {cs6 : List Value} {F7 : List Nat} (hp8 : rd w0 F7 cs6 b5) {r : Bool}
    (h : d_laws_eqRequest fu a1 b5 = some r) :
    Calls Tryz.prog 21 #[.agg cs2.toArray, .agg cs6.toArray] w0 fun e w => e = .returned (.bool (r)) ∧ Ext [] w0 w := by
 refine enter (vs := [_, _]) func21 rfl ntmps21 rfl fun a k => ?_
 have m := St.start w0
 obtain ⟨v9, F10, v11, F12, v13, F14, rfl, rfl, hf15, hf16, hf17⟩ := hp4
 obtain ⟨v18, F19, v20, F21, v22, F23, rfl, rfl, hf24, hf25, hf26⟩ := hp8
 unfold d_laws_eqRequest at h
 refine wr (s_box (cs := [.int .i64 a1.fWay, .int .i64 a1.fPallet.fW, .int .i64 a1.fPallet.fD, .int .i64 a1.fPallet.fH, .int .i64 a1.fPallet.fGram, .int .i64 a1.fClasses, v9, v11, .int .i64 a1.fMaster, v13]) m k rfl rfl rfl rfl rfl rfl fun b27 w29 a k m e hb28 => s_box (cs := [.int .i64 b5.fWay, .int .i64 b5.fPallet.fW, .int .i64 b5.fPallet.fD, .int .i64 b5.fPallet.fH, .int .i64 b5.fPallet.fGram, .int .i64 b5.fClasses, v18, v20, .int .i64 b5.fMaster, v22]) m k rfl rfl rfl rfl rfl rfl fun b30 w32 a k m e hb31 => pN 1 k rfl fun a k => nn (wp_seq (wr (sv k rfl (r_fa fa40_0 k rfl rfl) fun a k => sv k rfl (r_ldb t13 m 1 hb28 0 k rfl rfl rfl rfl rfl) fun a k => sv k rfl (r_fa fa40_0 k rfl rfl) fun a k => sv k rfl (r_ldb t13 m 0 hb31 0 k rfl rfl rfl rfl rfl) fun a k => pN 1 k rfl fun a k => nn ?_))))
 refine cI h k rfl (fun hb33 h => ?_) fun hb33 h => ?_
 · refine wr (pN 1 k rfl fun a k => nn (wp_ret (rt_then ?_)))
   refine fS h k m rfl rfl
 refine wp_skip (nm_then ?_)
 refine wp_seq (wr (sv k rfl (r_fa fa40_1 k rfl rfl) fun a k => sv k rfl (r_ldB ta35 m 1 hb28 1 k rfl rfl rfl rfl rfl rfl) fun a k => sv k rfl (r_fa fa40_1 k rfl rfl) fun a k => sv k rfl (r_ldB ta35 m 0 hb31 1 k rfl rfl rfl rfl rfl rfl) fun a k => oE h fun x34 hx35 h => cE k m call79 rfl rfl rfl (c_laws_eqPallet fu (a1.fPallet : Pallet) (b5.fPallet : Pallet)  hx35) fun w37 e a k m => pN 1 k rfl fun a k => nn (cI h k rfl (fun hb38 h => ?_) fun hb38 h => ?_)))
 · refine wr (pN 1 k rfl fun a k => nn (wp_ret (rt_then ?_)))
   refine fS h k m rfl rfl
 refine wp_skip (nm_then ?_)
 refine wp_seq (wr (sv k rfl (r_fa fa40_2 k rfl rfl) fun a k => sv k rfl (r_ldb t13 m 1 hb28 5 k rfl rfl rfl rfl rfl) fun a k => sv k rfl (r_fa fa40_2 k rfl rfl) fun a k => sv k rfl (r_ldb t13 m 0 hb31 5 k rfl rfl rfl rfl rfl) fun a k => pN 1 k rfl fun a k => nn (cI h k rfl (fun hb39 h => ?_) fun hb39 h => ?_)))
 · refine wr (pN 1 k rfl fun a k => nn (wp_ret (rt_then ?_)))
   refine fS h k m rfl rfl
 refine wp_skip (nm_then ?_)
 refine wp_seq (wr (sv k rfl (r_fa fa40_3 k rfl rfl) fun a k => sv k rfl (r_ldb t136 m 1 hb28 6 k rfl rfl rfl rfl rfl) fun a k => sv k rfl (r_fa fa40_3 k rfl rfl) fun a k => sv k rfl (r_ldb t136 m 0 hb31 6 k rfl rfl rfl rfl rfl) fun a k => oE h fun x40 hx41 h => cE k m call80 rfl rfl rfl (c_laws_eqPairS fu _ _ (Enc.rd_agr hf15 (m.a00 (Enc.rd_lt hf15))) (Enc.rd_agr hf24 (m.a00 (Enc.rd_lt hf24))) hx41) fun w43 e a k m => pN 1 k rfl fun a k => ?_))
 have k := k.keep [2, 3, 26] rfl
 refine nn (cI h k rfl (fun hb44 h => ?_) fun hb44 h => ?_)
 · refine wr (pN 1 k rfl fun a k => nn (wp_ret (rt_then ?_)))
   refine fS h k m rfl rfl
 refine wp_skip (nm_then ?_)
 refine wp_seq (wr (sv k rfl (r_fa fa40_4 k rfl rfl) fun a k => sv k rfl (r_ldb t137 m 1 hb28 7 k rfl rfl rfl rfl rfl) fun a k => sv k rfl (r_fa fa40_4 k rfl rfl) fun a k => sv k rfl (r_ldb t137 m 0 hb31 7 k rfl rfl rfl rfl rfl) fun a k => oE h fun x45 hx46 h => cE k m call81 rfl rfl rfl (c_laws_eqTypeS fu _ _ (Enc.rd_agr hf16 (m.a00 (Enc.rd_lt hf16))) (Enc.rd_agr hf25 (m.a00 (Enc.rd_lt hf25))) hx46) fun w48 e a k m => pN 1 k rfl fun a k => nn (cI h k rfl (fun hb49 h => ?_) fun hb49 h => ?_)))
 · refine wr (pN 1 k rfl fun a k => nn (wp_ret (rt_then ?_)))
   refine fS h k m rfl rfl
 refine wp_skip (nm_then ?_)
 refine wp_seq (wr (sv k rfl (r_fa fa40_5 k rfl rfl) fun a k => sv k rfl (r_ldb t13 m 1 hb28 8 k rfl rfl rfl rfl rfl) fun a k => sv k rfl (r_fa fa40_5 k rfl rfl) fun a k => sv k rfl (r_ldb t13 m 0 hb31 8 k rfl rfl rfl rfl rfl) fun a k => pN 1 k rfl fun a k => nn (cI h k rfl (fun hb50 h => ?_) fun hb50 h => ?_)))
 · refine wr (pN 1 k rfl fun a k => nn (wp_ret (rt_then ?_)))
   refine fS h k m rfl rfl
 refine wp_skip (nm_then ?_)
 refine wp_seq (wr (sv k rfl (r_fa fa40_6 k rfl rfl) fun a k => sv k rfl (r_ldb t138 m 1 hb28 9 k rfl rfl rfl rfl rfl) fun a k => sv k rfl (r_fa fa40_6 k rfl rfl) fun a k => sv k rfl (r_ldb t138 m 0 hb31 9 k rfl rfl rfl rfl rfl) fun a k => oE h fun x51 hx52 h => cE k m call82 rfl rfl rfl (c_laws_eqItemS fu _ _ (Enc.rd_agr hf17 (m.a00 (Enc.rd_lt hf17))) (Enc.rd_agr hf26 (m.a00 (Enc.rd_lt hf26))) hx52) fun w54 e a k m => pN 1 k rfl fun a k => nn (cI h k rfl (fun hb55 h => ?_) fun hb55 h => ?_)))
 · refine wr (pN 1 k rfl fun a k => nn (wp_ret (rt_then ?_)))
   refine fS h k m rfl rfl
 refine wp_skip (nm_then ?_)
 refine wr (pN 1 k rfl fun a k => nn (wp_ret (fS h k m rfl rfl)))
theorem c_laws_eqIntS (fu : Nat) {w0 : World} (a1 : List Int) (b5 : List Int) {v2 : Value} {F3 : List Nat} (hp4 : rd w0 F3 [v2] a1) {v6 : Value} {F7 : List Nat} (hp8 : rd w0 F7 [v6] b5) {r : Bool}
    (h : d_laws_eqIntS fu a1 b5 = some r) :
    Calls Tryz.prog 43 #[v2, v6] w0 fun e w => e = .returned (.bool (r)) ∧ Ext [] w0 w := by
 refine enter (vs := [_, _]) func43 rfl ntmps43 rfl fun a k => ?_
 have m := St.start w0
 unfold d_laws_eqIntS at h
 refine wr (pN 1 k rfl fun a k => nn (wp_seq (wr (pN 1 k rfl fun a k => sv k rfl (r_len (α := Int) hp4 k underlying29 rfl rfl) fun a k => pN 1 k rfl fun a k => sv k rfl (r_len (α := Int) hp8 k underlying29 rfl rfl) fun a k => pN 1 k rfl fun a k => nn (cI h k rfl (fun hb9 h => ?_) fun hb9 h => ?_)))))
 · refine wr (pN 1 k rfl fun a k => nn (wp_ret (rt_then ?_)))
   refine fS h k m rfl rfl
 refine wp_skip (nm_then ?_)
 refine wp_seq (wr (pN 1 k rfl fun a k => nn (wp_block (c_loop (fun n a w => ∃ (i28 : Int), K 26 [(0, v2), (1, v6), (5, .int .i64 i28)] a ∧ St [] w0 w [] ∧ d_laws_eqIntS_L1 fu a1 b5 n i28 = some r) ?_ ?_ fu _ _ ?_))))
 · rintro a w ⟨_, _, _, h⟩
   exact nS h
 · rintro m29 a w27 ⟨i28, k, m, h⟩
   rw [d_laws_eqIntS_L1_s] at h
   unfold d_laws_eqIntS_L1_B at h
   refine wp_seq (wr (pN 2 k rfl fun a k => sv k rfl (r_len (α := Int) hp4 k underlying29 rfl rfl) fun a k => pN 1 k rfl fun a k => nn (cI h k rfl (fun hb30 h => ?_) fun hb30 h => ?_)))
   · refine wp_skip (nm_then ?_)
     refine wp_seq (wp_block (wp_seq (d_go [] mixo m rfl fun w31 hMd => ?_)))
     have m := hMd
     have s := Ext.refl ([] : List Nat) w31
     refine dp k 0 rfl (by kernel_rfl) rfl s (fun _ _ _ => id) rfl fun a k => dp k 1 rfl (by kernel_rfl) rfl s (fun _ _ _ => id) rfl fun a k => oE h fun x32 hx33 h => dt k 2 rfl (by kernel_rfl) rfl s (fun _ _ _ => id) (fun w s => r_ixa hp4 hx33 k ts29 rfl rfl rfl) fun a k => dt k 3 rfl (by kernel_rfl) rfl s (fun _ _ _ => id) (fun w s => r_lde1 hp4 ((hMd.step s).a00 (Enc.rd_lt hp4)) hx33 0 t13 k rfl rfl rfl rfl) fun a k => dp k 4 rfl (by kernel_rfl) rfl s (fun _ _ _ => id) rfl fun a k => dp k 5 rfl (by kernel_rfl) rfl s (fun _ _ _ => id) rfl fun a k => oE h fun x34 hx35 h => dt k 6 rfl (by kernel_rfl) rfl s (fun _ _ _ => id) (fun w s => r_ixa hp8 hx35 k ts29 rfl rfl rfl) fun a k => dt k 7 rfl (by kernel_rfl) rfl s (fun _ _ _ => id) (fun w s => r_lde1 hp8 ((hMd.step s).a00 (Enc.rd_lt hp8)) hx35 0 t13 k rfl rfl rfl rfl) fun a k => ?_
     refine dp k 8 rfl (by kernel_rfl) rfl s (fun _ _ _ => id) rfl fun a k => d_done (by kernel_rfl) ((nm_then ?_))
     refine cI h k rfl (fun hb36 h => ?_) fun hb36 h => ?_
     · refine wr (pN 1 k rfl fun a k => nn (wp_ret (rt_block (rt_then (rt_then (rt_block (rt_then ?_)))))))
       refine fS h k m rfl rfl
     refine wp_skip (nm_block (nm_then ?_))
     refine wp_region_lit (pN 3 k rfl fun a k => nn ?_)
     exact ⟨w64 (i28 + 1), k.keep [0, 1, 5] rfl, m.sel [] rfl (by decide), h⟩
   refine wp_exit (ex_then (ex_then (ex_same (nm_then ?_))))
   refine wr (pN 1 k rfl fun a k => nn (wp_ret (fS h k m rfl rfl)))
 exact ⟨0, k.keep [0, 1, 5] rfl, m.sel [] rfl (by decide), h⟩
theorem c_laws_eqIntSS (fu : Nat) {w0 : World} (a1 : List (List Int)) (b5 : List (List Int)) {v2 : Value} {F3 : List Nat} (hp4 : rd w0 F3 [v2] a1) {v6 : Value} {F7 : List Nat} (hp8 : rd w0 F7 [v6] b5) {r : Bool}
    (h : d_laws_eqIntSS fu a1 b5 = some r) :
    Calls Tryz.prog 25 #[v2, v6] w0 fun e w => e = .returned (.bool (r)) ∧ Ext [] w0 w := by
 refine enter (vs := [_, _]) func25 rfl ntmps25 rfl fun a k => ?_
 have m := St.start w0
 unfold d_laws_eqIntSS at h
 refine wr (pN 1 k rfl fun a k => nn (wp_seq (wr (pN 1 k rfl fun a k => sv k rfl (r_len (α := List Int) hp4 k underlying47 rfl rfl) fun a k => pN 1 k rfl fun a k => sv k rfl (r_len (α := List Int) hp8 k underlying47 rfl rfl) fun a k => pN 1 k rfl fun a k => nn (cI h k rfl (fun hb9 h => ?_) fun hb9 h => ?_)))))
 · refine wr (pN 1 k rfl fun a k => nn (wp_ret (rt_then ?_)))
   refine fS h k m rfl rfl
 refine wp_skip (nm_then ?_)
 refine wp_seq (wr (pN 1 k rfl fun a k => nn (wp_block (c_loop (fun n a w => ∃ (i64 : Int), K 27 [(0, v2), (1, v6), (5, .int .i64 i64)] a ∧ St [] w0 w [] ∧ d_laws_eqIntSS_L1 fu a1 b5 n i64 = some r) ?_ ?_ fu _ _ ?_))))
 · rintro a w ⟨_, _, _, h⟩
   exact nS h
 · rintro m65 a w63 ⟨i64, k, m, h⟩
   rw [d_laws_eqIntSS_L1_s] at h
   unfold d_laws_eqIntSS_L1_B at h
   refine wp_seq (wr (pN 2 k rfl fun a k => sv k rfl (r_len (α := List Int) hp4 k underlying47 rfl rfl) fun a k => pN 1 k rfl fun a k => nn (cI h k rfl (fun hb66 h => ?_) fun hb66 h => ?_)))
   · refine wp_skip (nm_then ?_)
     refine wp_seq (wp_block (wp_seq (d_go [] mixo m rfl fun w67 hMd => ?_)))
     have m := hMd
     have s := Ext.refl ([] : List Nat) w67
     refine dp k 0 rfl (by kernel_rfl) rfl s (fun _ _ _ => id) rfl fun a k => dp k 1 rfl (by kernel_rfl) rfl s (fun _ _ _ => id) rfl fun a k => oE h fun x68 hx69 h => dt k 2 rfl (by kernel_rfl) rfl s (fun _ _ _ => id) (fun w s => r_ixa hp4 hx69 k ts47 rfl rfl rfl) fun a k => ?_
     obtain ⟨G70, cs71, hG72, hr73, hp74, hb75⟩ := rd_get hp4 (ix_some hx69).2.2
     obtain ⟨v76, rfl⟩ : ∃ v, cs71 = [v] := by obtain ⟨_, _, hq, _⟩ := hr73; exact ⟨_, hq⟩
     refine dt k 3 rfl (by kernel_rfl) rfl s (fun _ _ _ => id) (fun w s => r_ld1 t129 (hp74.agr ((hMd.step s).a00 (Enc.rd_lt hp4)) hb75) k rfl rfl) fun a k => dp k 4 rfl (by kernel_rfl) rfl s (fun _ _ _ => id) rfl fun a k => dp k 5 rfl (by kernel_rfl) rfl s (fun _ _ _ => id) rfl fun a k => oE h fun x77 hx78 h => dt k 6 rfl (by kernel_rfl) rfl s (fun _ _ _ => id) (fun w s => r_ixa hp8 hx78 k ts47 rfl rfl rfl) fun a k => ?_
     obtain ⟨G79, cs80, hG81, hr82, hp83, hb84⟩ := rd_get hp8 (ix_some hx78).2.2
     obtain ⟨v85, rfl⟩ : ∃ v, cs80 = [v] := by obtain ⟨_, _, hq, _⟩ := hr82; exact ⟨_, hq⟩
     refine dt k 7 rfl (by kernel_rfl) rfl s (fun _ _ _ => id) (fun w s => r_ld1 t129 (hp83.agr ((hMd.step s).a00 (Enc.rd_lt hp8)) hb84) k rfl rfl) fun a k => d_one 8 (by kernel_rfl) rfl (oE h fun x86 hx87 h => cE k m call43 rfl rfl rfl (c_laws_eqIntS fu _ _ (Enc.rd_agr hr73 (m.a00 (Enc.rd_lt hr73))) (Enc.rd_agr hr82 (m.a00 (Enc.rd_lt hr82))) hx87) fun w89 e a k m => ?_)
     have s := s.trans e (by simp)
     refine wpList_nil ⟨s, ?_⟩
     refine dp k 9 rfl (by kernel_rfl) rfl s (fun _ _ _ => id) rfl fun a k => d_done (by kernel_rfl) ((nm_then ?_))
     refine cI h k rfl (fun hb90 h => ?_) fun hb90 h => ?_
     · refine wr (pN 1 k rfl fun a k => nn (wp_ret (rt_block (rt_then (rt_then (rt_block (rt_then ?_)))))))
       refine fS h k m rfl rfl
     refine wp_skip (nm_block (nm_then ?_))
     refine wp_region_lit (pN 3 k rfl fun a k => nn ?_)
     exact ⟨w64 (i64 + 1), k.keep [0, 1, 5] rfl, m.sel [] rfl (by decide), h⟩
   refine wp_exit (ex_then (ex_then (ex_same (nm_then ?_))))
   refine wr (pN 1 k rfl fun a k => nn (wp_ret (fS h k m rfl rfl)))
 exact ⟨0, k.keep [0, 1, 5] rfl, m.sel [] rfl (by decide), h⟩
theorem c_laws_FnExactMixes (fu : Nat) {w0 : World} (aR1 : Request) (aCartons5 : List (List Int)) {cs2 : List Value} {F3 : List Nat} (hp4 : rd w0 F3 cs2 aR1) {v6 : Value} {F7 : List Nat} (hp8 : rd w0 F7 [v6] aCartons5) {r : Bool}
    (h : d_laws_FnExactMixes fu aR1 aCartons5 = some r) :
    Calls Tryz.prog 8 #[.agg cs2.toArray, v6] w0 fun e w => e = .returned (.bool (r)) ∧ Ext [] w0 w := by
 refine enter (vs := [_, _]) func8 rfl ntmps8 rfl fun a k => ?_
 have m := St.start w0
 obtain ⟨v9, F10, v11, F12, v13, F14, rfl, rfl, hf15, hf16, hf17⟩ := hp4
 unfold d_laws_FnExactMixes at h
 refine wr (s_box (cs := [.int .i64 aR1.fWay, .int .i64 aR1.fPallet.fW, .int .i64 aR1.fPallet.fD, .int .i64 aR1.fPallet.fH, .int .i64 aR1.fPallet.fGram, .int .i64 aR1.fClasses, v9, v11, .int .i64 aR1.fMaster, v13]) m k rfl rfl rfl rfl rfl rfl fun b18 w20 a k m e hb19 => pN 1 k rfl fun a k => nn (wr (pN 1 k rfl fun a k => nn (wr (sv k rfl (r_ldB ta28 m 0 hb19 0 k rfl rfl rfl rfl rfl rfl) fun a k => pN 1 k rfl fun a k => oE h fun x21 hx22 h => ?_)))))
 refine cE k m call15 rfl rfl rfl (c_laws_szRequest fu _ _ (show rd _ _ [.int .i64 aR1.fWay, .int .i64 aR1.fPallet.fW, .int .i64 aR1.fPallet.fD, .int .i64 aR1.fPallet.fH, .int .i64 aR1.fPallet.fGram, .int .i64 aR1.fClasses, v9, v11, .int .i64 aR1.fMaster, v13] (aR1 : Request) from ⟨_, _, _, _, _, _, rfl, rfl, (Enc.rd_agr hf15 (m.a00 (Enc.rd_lt hf15))), (Enc.rd_agr hf16 (m.a00 (Enc.rd_lt hf16))), (Enc.rd_agr hf17 (m.a00 (Enc.rd_lt hf17)))⟩) hx22) fun w24 e a k m => pN 1 k rfl fun a k => nn (wp_seq (wr (pN 2 k rfl fun a k => nn (cI h k rfl (fun hb25 h => ?_) fun hb25 h => ?_))))
 · refine wr (pN 1 k rfl fun a k => nn (wp_ret (rt_then ?_)))
   refine fS h k m rfl rfl
 refine wp_skip (nm_then ?_)
 refine wr (pN 2 k rfl fun a k => oE h fun x26 hx27 h => cE k m call33 rfl rfl rfl (c_laws_szIntSS fu _ _ (Enc.rd_agr hp8 (m.a00 (Enc.rd_lt hp8))) hx27) fun w29 e a k m => pN 1 k rfl fun a k => nn (wp_seq (wr (pN 2 k rfl fun a k => nn (cI h k rfl (fun hb30 h => ?_) fun hb30 h => ?_)))))
 · refine wr (pN 1 k rfl fun a k => nn (wp_ret (rt_then ?_)))
   refine fS h k m rfl rfl
 refine wp_skip (nm_then ?_)
 refine wr (sv k rfl (r_ldB ta28 m 0 hb19 0 k rfl rfl rfl rfl rfl rfl) fun a k => oE h fun x31 hx32 h => s_call k call18 rfl rfl rfl rfl rfl (c_laws_toRequest fu _ (show rd _ _ [.int .i64 aR1.fWay, .int .i64 aR1.fPallet.fW, .int .i64 aR1.fPallet.fD, .int .i64 aR1.fPallet.fH, .int .i64 aR1.fPallet.fGram, .int .i64 aR1.fClasses, v9, v11, .int .i64 aR1.fMaster, v13] (aR1 : Request) from ⟨_, _, _, _, _, _, rfl, rfl, (Enc.rd_agr hf15 (m.a00 (Enc.rd_lt hf15))), (Enc.rd_agr hf16 (m.a00 (Enc.rd_lt hf16))), (Enc.rd_agr hf17 (m.a00 (Enc.rd_lt hf17)))⟩) hx32) fun e33 w34 hR => ?_)
 obtain ⟨cs39, F35, rfl, e, hf36, hfr37⟩ := hR
 refine ⟨_, rfl, fun a k => ?_⟩
 have m := m.new e F35 (fun b hb => ⟨hfr37 b hb, Enc.rd_lt (Enc.ow_rd hf36) b hb⟩) (Enc.ow_nd hf36)
 obtain ⟨v40, F41, v43, F44, v46, F47, rfl, rfl, hf42, hf45, hf48, _⟩ := hf36
 have m := m.split2
 have m := m.split2at1
 refine pN 1 k rfl fun a k => oE h fun x49 hx50 h => s_call k call35 rfl rfl rfl rfl rfl (c_laws_toIntSS fu _ (Enc.rd_agr hp8 (m.a00 (Enc.rd_lt hp8))) hx50) fun e51 w52 hR => ?_
 obtain ⟨v57, F53, rfl, e, hf54, hfr55⟩ := hR
 refine ⟨_, rfl, fun a k => ?_⟩
 have m := m.new e F53 (fun b hb => ⟨hfr55 b hb, Enc.rd_lt (Enc.ow_rd hf54) b hb⟩) (Enc.ow_nd hf54)
 refine oE h fun x58 hx59 h => cE k m call37 rfl rfl rfl (c_spec_Mixes fu _ _ (show rd _ _ [.int .i64 x31.fWay, .int .i64 x31.fPallet.fW, .int .i64 x31.fPallet.fD, .int .i64 x31.fPallet.fH, .int .i64 x31.fPallet.fGram, .int .i64 x31.fClasses, v40, v43, .int .i64 x31.fMaster, v46] (x31 : Request) from ⟨_, _, _, _, _, _, rfl, rfl, (Enc.rd_agr (Enc.ow_rd hf42) (m.a 1 rfl)), (Enc.rd_agr (Enc.ow_rd hf45) (m.a 2 rfl)), (Enc.rd_agr (Enc.ow_rd hf48) (m.a 3 rfl))⟩) (Enc.rd_agr (Enc.ow_rd hf54) (m.a 0 rfl)) hx59) fun w61 e a k m => pN 1 k rfl fun a k => nn (wr (sv k rfl (r_ldB ta28 m 4 hb19 0 k rfl rfl rfl rfl rfl rfl) fun a k => oE h fun x62 hx63 h => ?_))
 refine s_call k call18 rfl rfl rfl rfl rfl (c_laws_toRequest fu _ (show rd _ _ [.int .i64 aR1.fWay, .int .i64 aR1.fPallet.fW, .int .i64 aR1.fPallet.fD, .int .i64 aR1.fPallet.fH, .int .i64 aR1.fPallet.fGram, .int .i64 aR1.fClasses, v9, v11, .int .i64 aR1.fMaster, v13] (aR1 : Request) from ⟨_, _, _, _, _, _, rfl, rfl, (Enc.rd_agr hf15 (m.a00 (Enc.rd_lt hf15))), (Enc.rd_agr hf16 (m.a00 (Enc.rd_lt hf16))), (Enc.rd_agr hf17 (m.a00 (Enc.rd_lt hf17)))⟩) hx63) fun e64 w65 hR => ?_
 obtain ⟨cs70, F66, rfl, e, hf67, hfr68⟩ := hR
 refine ⟨_, rfl, fun a k => ?_⟩
 have m := m.new e F66 (fun b hb => ⟨hfr68 b hb, Enc.rd_lt (Enc.ow_rd hf67) b hb⟩) (Enc.ow_nd hf67)
 obtain ⟨v71, F72, v74, F75, v77, F78, rfl, rfl, hf73, hf76, hf79, _⟩ := hf67
 have m := m.split2
 have m := m.split2at1
 refine s_alloc (cs := [.int .i64 0, .int .i64 0, .int .i64 0, .int .i64 0, .int .i64 0, .int .i64 0, .slice none 0 0, .slice none 0 0, .int .i64 0, .slice none 0 0]) m k zeroValue40 rfl rfl rfl rfl rfl fun b80 w82 a k m e hb81 => s_stb (cs' := [.int .i64 x62.fWay, .int .i64 x62.fPallet.fW, .int .i64 x62.fPallet.fD, .int .i64 x62.fPallet.fH, .int .i64 x62.fPallet.fGram, .int .i64 x62.fClasses, v71, v74, .int .i64 x62.fMaster, v77]) sizeOf40 m 0 hb81 0 k rfl rfl rfl rfl rfl rfl rfl rfl rfl rfl (allc rfl (allc rfl (allc rfl (allc rfl (allc rfl (allc rfl (allc (rd_o (Enc.ow_rd hf73)) (allc (rd_o (Enc.ow_rd hf76)) (allc rfl (allc (rd_o (Enc.ow_rd hf79)) alln)))))))))) fun w83 a k e m hb84 => ?_
 have k := k.keep [1, 2, 6, 7] rfl
 refine nn (wr (pN 1 k rfl fun a k => oE h fun x85 hx86 h => s_call k call35 rfl rfl rfl rfl rfl (c_laws_toIntSS fu _ (Enc.rd_agr hp8 (m.a00 (Enc.rd_lt hp8))) hx86) fun e87 w88 hR => ?_))
 obtain ⟨v93, F89, rfl, e, hf90, hfr91⟩ := hR
 refine ⟨_, rfl, fun a k => ?_⟩
 have m := m.new e F89 (fun b hb => ⟨hfr91 b hb, Enc.rd_lt (Enc.ow_rd hf90) b hb⟩) (Enc.ow_nd hf90)
 refine pN 1 k rfl fun a k => nn (wr (sv k rfl (r_ldB ta40 m 1 hb84 0 k rfl rfl rfl rfl rfl rfl) fun a k => pN 1 k rfl fun a k => oE h fun x94 hx95 h => cE k m call38 rfl rfl rfl (c_impl_Mixes fu _ _ (show rd _ _ [.int .i64 x62.fWay, .int .i64 x62.fPallet.fW, .int .i64 x62.fPallet.fD, .int .i64 x62.fPallet.fH, .int .i64 x62.fPallet.fGram, .int .i64 x62.fClasses, v71, v74, .int .i64 x62.fMaster, v77] (x62 : Request) from ⟨_, _, _, _, _, _, rfl, rfl, (Enc.rd_agr (Enc.ow_rd hf73) (m.a 2 rfl)), (Enc.rd_agr (Enc.ow_rd hf76) (m.a 3 rfl)), (Enc.rd_agr (Enc.ow_rd hf79) (m.a 4 rfl))⟩) (Enc.rd_agr (Enc.ow_rd hf90) (m.a 0 rfl)) hx95) fun w97 e a k m => pN 1 k rfl fun a k => nn (wp_seq (wr (pN 2 k rfl fun a k => sv k rfl (r_neb k underlying4 rfl rfl rfl) fun a k => nn (cI h k rfl (fun hb98 h => ?_) fun hb98 h => ?_))))))
 · refine wr (pN 1 k rfl fun a k => nn (wp_ret (rt_then ?_)))
   refine fS h k m rfl rfl
 refine wp_skip (nm_then ?_)
 refine wp_seq (wp_seq (d_go [] mixo m rfl fun w99 hMd => ?_))
 have m := hMd
 have s := Ext.refl ([] : List Nat) w99
 refine dt k 0 rfl (by kernel_rfl) rfl s (fun _ _ _ => id) (fun w s => r_ldA ta40 (hb84.at ((hMd.step s).a 1 rfl) 0 10 rfl rfl rfl) rfl k rfl rfl) fun a k => dt k 1 rfl (by kernel_rfl) rfl s (fun _ _ _ => id) (fun w s => r_ldA ta28 (hb19.at ((hMd.step s).a 9 rfl) 0 10 rfl rfl rfl) rfl k rfl rfl) fun a k => d_one 2 (by kernel_rfl) rfl (oE h fun x100 hx101 h => s_call k call18 rfl rfl rfl rfl rfl (c_laws_toRequest fu _ (show rd _ _ [.int .i64 aR1.fWay, .int .i64 aR1.fPallet.fW, .int .i64 aR1.fPallet.fD, .int .i64 aR1.fPallet.fH, .int .i64 aR1.fPallet.fGram, .int .i64 aR1.fClasses, v9, v11, .int .i64 aR1.fMaster, v13] (aR1 : Request) from ⟨_, _, _, _, _, _, rfl, rfl, (Enc.rd_agr hf15 (m.a00 (Enc.rd_lt hf15))), (Enc.rd_agr hf16 (m.a00 (Enc.rd_lt hf16))), (Enc.rd_agr hf17 (m.a00 (Enc.rd_lt hf17)))⟩) hx101) fun e102 w103 hR => ?_)
 obtain ⟨cs108, F104, rfl, e, hf105, hfr106⟩ := hR
 refine ⟨_, rfl, fun a k => ?_⟩
 have m := m.new e F104 (fun b hb => ⟨hfr106 b hb, Enc.rd_lt (Enc.ow_rd hf105) b hb⟩) (Enc.ow_nd hf105)
 have hlo109 := fun (y : Nat) (hy : y ∈ F104) => Nat.le_trans s.size (hfr106 y hy)
 obtain ⟨v110, F111, v113, F114, v116, F117, rfl, rfl, hf112, hf115, hf118, _⟩ := hf105
 have m := m.split2
 have m := m.split2at1
 have s := s.trans e (by simp)
 refine wpList_nil ⟨s, ?_⟩
 refine d_one 3 (by kernel_rfl) rfl (oE h fun x119 hx120 h => ?_)
 refine cE k m call21 rfl rfl rfl (c_laws_eqRequest fu _ _ (show rd _ _ [.int .i64 x62.fWay, .int .i64 x62.fPallet.fW, .int .i64 x62.fPallet.fD, .int .i64 x62.fPallet.fH, .int .i64 x62.fPallet.fGram, .int .i64 x62.fClasses, v71, v74, .int .i64 x62.fMaster, v77] (x62 : Request) from ⟨_, _, _, _, _, _, rfl, rfl, (Enc.rd_agr (Enc.ow_rd hf73) (m.a 5 rfl)), (Enc.rd_agr (Enc.ow_rd hf76) (m.a 6 rfl)), (Enc.rd_agr (Enc.ow_rd hf79) (m.a 7 rfl))⟩) (show rd _ _ [.int .i64 x100.fWay, .int .i64 x100.fPallet.fW, .int .i64 x100.fPallet.fD, .int .i64 x100.fPallet.fH, .int .i64 x100.fPallet.fGram, .int .i64 x100.fClasses, v110, v113, .int .i64 x100.fMaster, v116] (x100 : Request) from ⟨_, _, _, _, _, _, rfl, rfl, (Enc.rd_agr (Enc.ow_rd hf112) (m.a 0 rfl)), (Enc.rd_agr (Enc.ow_rd hf115) (m.a 1 rfl)), (Enc.rd_agr (Enc.ow_rd hf118) (m.a 2 rfl))⟩) hx120) fun w122 e a k m => ?_
 have s := s.trans e (by simp)
 refine wpList_nil ⟨s, ?_⟩
 refine dp k 4 rfl (by kernel_rfl) rfl s (fun _ _ _ => id) rfl fun a k => d_done (by kernel_rfl) ((nm_then ?_))
 refine cI h k rfl (fun hb123 h => ?_) fun hb123 h => ?_
 · refine wr (pN 1 k rfl fun a k => nn (wp_ret (rt_then ?_)))
   refine fS h k m rfl rfl
 refine wp_skip (nm_then ?_)
 refine wp_seq (wr (pN 2 k rfl fun a k => oE h fun x124 hx125 h => s_call k call35 rfl rfl rfl rfl rfl (c_laws_toIntSS fu _ (Enc.rd_agr hp8 (m.a00 (Enc.rd_lt hp8))) hx125) fun e126 w127 hR => ?_))
 obtain ⟨v132, F128, rfl, e, hf129, hfr130⟩ := hR
 refine ⟨_, rfl, fun a k => ?_⟩
 have m := m.new e F128 (fun b hb => ⟨hfr130 b hb, Enc.rd_lt (Enc.ow_rd hf129) b hb⟩) (Enc.ow_nd hf129)
 refine oE h fun x133 hx134 h => cE k m call25 rfl rfl rfl (c_laws_eqIntSS fu _ _ (Enc.rd_agr (Enc.ow_rd hf90) (m.a 4 rfl)) (Enc.rd_agr (Enc.ow_rd hf129) (m.a 0 rfl)) hx134) fun w136 e a k m => pN 1 k rfl fun a k => nn (cI h k rfl (fun hb137 h => ?_) fun hb137 h => ?_)
 · refine wr (pN 1 k rfl fun a k => ?_)
   have k := k.keep [4] rfl
   refine nn (wp_ret (rt_then ?_))
   refine fS h k m rfl rfl
 refine wp_skip (nm_then ?_)
 refine wr (pN 1 k rfl fun a k => ?_)
 have k := k.keep [4] rfl
 refine nn (wp_ret (fS h k m rfl rfl))

end Go.Proofs.YthjbcfefkdbgoaaGreat
