/- FnExactLost: the walks of functions that the law reaches, part 5. Printed by gen.py. -/
import Derived.Test.YthjbcfefkdbgoaaGreatExactLostW4
set_option maxRecDepth 20000
set_option linter.unusedSimpArgs false
set_option linter.unusedVariables false
namespace Go.Proofs.YthjbcfefkdbgoaaGreat
open Go Go.RowKit
open Enc (rd ow)
open Arg (argv)
open Ret (retv)
open Go.Proofs.Tryz

theorem t180 : T1 Tryz.prog 80 := ⟨fun w => by simp [isAgg, run_underlying underlying80], sizeOf80⟩
theorem ta28 : TA Tryz.prog 28 10 := ⟨Tryz.isAgg28, sizeOf28⟩
theorem ta77 : TA Tryz.prog 77 2 := ⟨Tryz.isAgg77, sizeOf77⟩

def d_laws_eqPlan (fu : Nat) (a1 : Plan) (b5 : Plan) : Option (Bool) :=
  obind (d_laws_eqCartonS fu a1.fCartons b5.fCartons) fun x27 => bif (!x27) then some (false) else obind (d_laws_eqSpotS fu a1.fSpots b5.fSpots) fun x32 => bif (!x32) then some (false) else some (true)

def d_laws_markPairS_L1_B (fu : Nat)   (k1 : List Pair → Int → Int → Option (Int × (List Pair))) (x32 : List Pair) (kv35 : Int) (i36 : Int) : Option (Int × (List Pair)) :=
  bif (decide (i36 < ((x32.length : Int)))) then obind (ix x32 i36) fun x39 => obind (ix (setx x32 i36 ({ x39 with fA := kv35 })) i36) fun x43 => k1 (setx (setx x32 i36 ({ x39 with fA := kv35 })) i36 ({ x43 with fB := w64 (kv35 + 1) })) (w64 ((w64 (kv35 + 1)) + 1)) (w64 (i36 + 1)) else some (kv35, x32)
def d_laws_markPairS_L1 (fu : Nat)   : Nat → List Pair → Int → Int → Option (Int × (List Pair))
  | 0 => fun _ _ _ => none
  | n + 1 => d_laws_markPairS_L1_B fu  (d_laws_markPairS_L1 fu  n)
theorem d_laws_markPairS_L1_s (fu : Nat)   (n : Nat) : d_laws_markPairS_L1 fu  (n + 1) = d_laws_markPairS_L1_B fu  (d_laws_markPairS_L1 fu  n) := rfl

def d_laws_markPairS (fu : Nat) (a1 : List Pair) (kv5 : Int) : Option (Int × (List Pair)) :=
  d_laws_markPairS_L1 fu fu a1 kv5 0

def d_laws_markTypeS_L1_B (fu : Nat)   (k1 : List Typ → Int → Int → Option (Int × (List Typ))) (x72 : List Typ) (kv75 : Int) (i76 : Int) : Option (Int × (List Typ)) :=
  bif (decide (i76 < ((x72.length : Int)))) then obind (ix x72 i76) fun x79 => obind (ix (setx x72 i76 ({ x79 with fId := kv75 })) i76) fun x83 => obind (ix (setx (setx x72 i76 ({ x79 with fId := kv75 })) i76 ({ x83 with fW := w64 (kv75 + 1) })) i76) fun x87 => obind (ix (setx (setx (setx x72 i76 ({ x79 with fId := kv75 })) i76 ({ x83 with fW := w64 (kv75 + 1) })) i76 ({ x87 with fH := w64 ((w64 (kv75 + 1)) + 1) })) i76) fun x91 => obind (ix (setx (setx (setx (setx x72 i76 ({ x79 with fId := kv75 })) i76 ({ x83 with fW := w64 (kv75 + 1) })) i76 ({ x87 with fH := w64 ((w64 (kv75 + 1)) + 1) })) i76 ({ x91 with fD := w64 ((w64 ((w64 (kv75 + 1)) + 1)) + 1) })) i76) fun x95 => obind (ix (setx (setx (setx (setx (setx x72 i76 ({ x79 with fId := kv75 })) i76 ({ x83 with fW := w64 (kv75 + 1) })) i76 ({ x87 with fH := w64 ((w64 (kv75 + 1)) + 1) })) i76 ({ x91 with fD := w64 ((w64 ((w64 (kv75 + 1)) + 1)) + 1) })) i76 ({ x95 with fTare := w64 ((w64 ((w64 ((w64 (kv75 + 1)) + 1)) + 1)) + 1) })) i76) fun x99 => obind (ix (setx (setx (setx (setx (setx (setx x72 i76 ({ x79 with fId := kv75 })) i76 ({ x83 with fW := w64 (kv75 + 1) })) i76 ({ x87 with fH := w64 ((w64 (kv75 + 1)) + 1) })) i76 ({ x91 with fD := w64 ((w64 ((w64 (kv75 + 1)) + 1)) + 1) })) i76 ({ x95 with fTare := w64 ((w64 ((w64 ((w64 (kv75 + 1)) + 1)) + 1)) + 1) })) i76 ({ x99 with fGram := w64 ((w64 ((w64 ((w64 ((w64 (kv75 + 1)) + 1)) + 1)) + 1)) + 1) })) i76) fun x103 => k1 (setx (setx (setx (setx (setx (setx (setx x72 i76 ({ x79 with fId := kv75 })) i76 ({ x83 with fW := w64 (kv75 + 1) })) i76 ({ x87 with fH := w64 ((w64 (kv75 + 1)) + 1) })) i76 ({ x91 with fD := w64 ((w64 ((w64 (kv75 + 1)) + 1)) + 1) })) i76 ({ x95 with fTare := w64 ((w64 ((w64 ((w64 (kv75 + 1)) + 1)) + 1)) + 1) })) i76 ({ x99 with fGram := w64 ((w64 ((w64 ((w64 ((w64 (kv75 + 1)) + 1)) + 1)) + 1)) + 1) })) i76 ({ x103 with fCost := w64 ((w64 ((w64 ((w64 ((w64 ((w64 (kv75 + 1)) + 1)) + 1)) + 1)) + 1)) + 1) })) (w64 ((w64 ((w64 ((w64 ((w64 ((w64 ((w64 (kv75 + 1)) + 1)) + 1)) + 1)) + 1)) + 1)) + 1)) (w64 (i76 + 1)) else some (kv75, x72)
def d_laws_markTypeS_L1 (fu : Nat)   : Nat → List Typ → Int → Int → Option (Int × (List Typ))
  | 0 => fun _ _ _ => none
  | n + 1 => d_laws_markTypeS_L1_B fu  (d_laws_markTypeS_L1 fu  n)
theorem d_laws_markTypeS_L1_s (fu : Nat)   (n : Nat) : d_laws_markTypeS_L1 fu  (n + 1) = d_laws_markTypeS_L1_B fu  (d_laws_markTypeS_L1 fu  n) := rfl

def d_laws_markTypeS (fu : Nat) (a1 : List Typ) (kv5 : Int) : Option (Int × (List Typ)) :=
  d_laws_markTypeS_L1 fu fu a1 kv5 0

def d_laws_markItemS_L1_B (fu : Nat)   (k1 : List Item → Int → Int → Option (Int × (List Item))) (x72 : List Item) (kv75 : Int) (i76 : Int) : Option (Int × (List Item)) :=
  bif (decide (i76 < ((x72.length : Int)))) then obind (ix x72 i76) fun x79 => obind (ix (setx x72 i76 ({ x79 with fId := kv75 })) i76) fun x83 => obind (ix (setx (setx x72 i76 ({ x79 with fId := kv75 })) i76 ({ x83 with fW := w64 (kv75 + 1) })) i76) fun x87 => obind (ix (setx (setx (setx x72 i76 ({ x79 with fId := kv75 })) i76 ({ x83 with fW := w64 (kv75 + 1) })) i76 ({ x87 with fH := w64 ((w64 (kv75 + 1)) + 1) })) i76) fun x91 => obind (ix (setx (setx (setx (setx x72 i76 ({ x79 with fId := kv75 })) i76 ({ x83 with fW := w64 (kv75 + 1) })) i76 ({ x87 with fH := w64 ((w64 (kv75 + 1)) + 1) })) i76 ({ x91 with fD := w64 ((w64 ((w64 (kv75 + 1)) + 1)) + 1) })) i76) fun x95 => obind (ix (setx (setx (setx (setx (setx x72 i76 ({ x79 with fId := kv75 })) i76 ({ x83 with fW := w64 (kv75 + 1) })) i76 ({ x87 with fH := w64 ((w64 (kv75 + 1)) + 1) })) i76 ({ x91 with fD := w64 ((w64 ((w64 (kv75 + 1)) + 1)) + 1) })) i76 ({ x95 with fGram := w64 ((w64 ((w64 ((w64 (kv75 + 1)) + 1)) + 1)) + 1) })) i76) fun x99 => obind (ix (setx (setx (setx (setx (setx (setx x72 i76 ({ x79 with fId := kv75 })) i76 ({ x83 with fW := w64 (kv75 + 1) })) i76 ({ x87 with fH := w64 ((w64 (kv75 + 1)) + 1) })) i76 ({ x91 with fD := w64 ((w64 ((w64 (kv75 + 1)) + 1)) + 1) })) i76 ({ x95 with fGram := w64 ((w64 ((w64 ((w64 (kv75 + 1)) + 1)) + 1)) + 1) })) i76 ({ x99 with fClass := w64 ((w64 ((w64 ((w64 ((w64 (kv75 + 1)) + 1)) + 1)) + 1)) + 1) })) i76) fun x103 => k1 (setx (setx (setx (setx (setx (setx (setx x72 i76 ({ x79 with fId := kv75 })) i76 ({ x83 with fW := w64 (kv75 + 1) })) i76 ({ x87 with fH := w64 ((w64 (kv75 + 1)) + 1) })) i76 ({ x91 with fD := w64 ((w64 ((w64 (kv75 + 1)) + 1)) + 1) })) i76 ({ x95 with fGram := w64 ((w64 ((w64 ((w64 (kv75 + 1)) + 1)) + 1)) + 1) })) i76 ({ x99 with fClass := w64 ((w64 ((w64 ((w64 ((w64 (kv75 + 1)) + 1)) + 1)) + 1)) + 1) })) i76 ({ x103 with fCount := w64 ((w64 ((w64 ((w64 ((w64 ((w64 (kv75 + 1)) + 1)) + 1)) + 1)) + 1)) + 1) })) (w64 ((w64 ((w64 ((w64 ((w64 ((w64 ((w64 (kv75 + 1)) + 1)) + 1)) + 1)) + 1)) + 1)) + 1)) (w64 (i76 + 1)) else some (kv75, x72)
def d_laws_markItemS_L1 (fu : Nat)   : Nat → List Item → Int → Int → Option (Int × (List Item))
  | 0 => fun _ _ _ => none
  | n + 1 => d_laws_markItemS_L1_B fu  (d_laws_markItemS_L1 fu  n)
theorem d_laws_markItemS_L1_s (fu : Nat)   (n : Nat) : d_laws_markItemS_L1 fu  (n + 1) = d_laws_markItemS_L1_B fu  (d_laws_markItemS_L1 fu  n) := rfl

def d_laws_markItemS (fu : Nat) (a1 : List Item) (kv5 : Int) : Option (Int × (List Item)) :=
  d_laws_markItemS_L1 fu fu a1 kv5 0

def d_laws_markRequest (fu : Nat) (a1 : Request) (kv5 : Int) : Option (Int × Request) :=
  obind (d_laws_markPairS fu a1.fPairs kv5) fun x18 => obind (d_laws_markTypeS fu a1.fTypes x18.1) fun x25 => obind (d_laws_markItemS fu a1.fItems x25.1) fun x32 => some (x32.1, (⟨a1.fWay, a1.fPallet, a1.fClasses, x18.2, x25.2, a1.fMaster, x32.2⟩ : Request))

def d_laws_markIntS_L1_B (fu : Nat)   (k1 : List Int → Int → Int → Option (Int × (List Int))) (x24 : List Int) (kv27 : Int) (i28 : Int) : Option (Int × (List Int)) :=
  bif (decide (i28 < ((x24.length : Int)))) then obind (ix x24 i28) fun x31 => k1 (setx x24 i28 kv27) (w64 (kv27 + 1)) (w64 (i28 + 1)) else some (kv27, x24)
def d_laws_markIntS_L1 (fu : Nat)   : Nat → List Int → Int → Int → Option (Int × (List Int))
  | 0 => fun _ _ _ => none
  | n + 1 => d_laws_markIntS_L1_B fu  (d_laws_markIntS_L1 fu  n)
theorem d_laws_markIntS_L1_s (fu : Nat)   (n : Nat) : d_laws_markIntS_L1 fu  (n + 1) = d_laws_markIntS_L1_B fu  (d_laws_markIntS_L1 fu  n) := rfl

def d_laws_markIntS (fu : Nat) (a1 : List Int) (kv5 : Int) : Option (Int × (List Int)) :=
  d_laws_markIntS_L1 fu fu a1 kv5 0

def d_laws_markCartonS_L1_B (fu : Nat)   (k1 : List Carton → Int → Int → Option (Int × (List Carton))) (x153 : List Carton) (kv157 : Int) (i158 : Int) : Option (Int × (List Carton)) :=
  bif (decide (i158 < ((x153.length : Int)))) then obind (ix x153 i158) fun x161 => obind (ix (setx x153 i158 ((⟨kv157, x161.fGroup, x161.fUnits⟩ : Carton))) i158) fun x182 => obind (ix (setx (setx x153 i158 ((⟨kv157, x161.fGroup, x161.fUnits⟩ : Carton))) i158 ((⟨x182.fType, w64 (kv157 + 1), x182.fUnits⟩ : Carton))) i158) fun x203 => obind (d_laws_markIntS fu x203.fUnits (w64 ((w64 (kv157 + 1)) + 1))) fun x220 => k1 (setx (setx (setx x153 i158 ((⟨kv157, x161.fGroup, x161.fUnits⟩ : Carton))) i158 ((⟨x182.fType, w64 (kv157 + 1), x182.fUnits⟩ : Carton))) i158 ((⟨x203.fType, x203.fGroup, x220.2⟩ : Carton))) x220.1 (w64 (i158 + 1)) else some (kv157, x153)
def d_laws_markCartonS_L1 (fu : Nat)   : Nat → List Carton → Int → Int → Option (Int × (List Carton))
  | 0 => fun _ _ _ => none
  | n + 1 => d_laws_markCartonS_L1_B fu  (d_laws_markCartonS_L1 fu  n)
theorem d_laws_markCartonS_L1_s (fu : Nat)   (n : Nat) : d_laws_markCartonS_L1 fu  (n + 1) = d_laws_markCartonS_L1_B fu  (d_laws_markCartonS_L1 fu  n) := rfl

def d_laws_markCartonS (fu : Nat) (a1 : List Carton) (kv5 : Int) : Option (Int × (List Carton)) :=
  d_laws_markCartonS_L1 fu fu a1 kv5 0

def d_laws_markSpotS_L1_B (fu : Nat)   (k1 : List Spot → Int → Int → Option (Int × (List Spot))) (x48 : List Spot) (kv51 : Int) (i52 : Int) : Option (Int × (List Spot)) :=
  bif (decide (i52 < ((x48.length : Int)))) then obind (ix x48 i52) fun x55 => obind (ix (setx x48 i52 ({ x55 with fPallet := kv51 })) i52) fun x59 => obind (ix (setx (setx x48 i52 ({ x55 with fPallet := kv51 })) i52 ({ x59 with fX := w64 (kv51 + 1) })) i52) fun x63 => obind (ix (setx (setx (setx x48 i52 ({ x55 with fPallet := kv51 })) i52 ({ x59 with fX := w64 (kv51 + 1) })) i52 ({ x63 with fY := w64 ((w64 (kv51 + 1)) + 1) })) i52) fun x67 => k1 (setx (setx (setx (setx x48 i52 ({ x55 with fPallet := kv51 })) i52 ({ x59 with fX := w64 (kv51 + 1) })) i52 ({ x63 with fY := w64 ((w64 (kv51 + 1)) + 1) })) i52 ({ x67 with fZ := w64 ((w64 ((w64 (kv51 + 1)) + 1)) + 1) })) (w64 ((w64 ((w64 ((w64 (kv51 + 1)) + 1)) + 1)) + 1)) (w64 (i52 + 1)) else some (kv51, x48)
def d_laws_markSpotS_L1 (fu : Nat)   : Nat → List Spot → Int → Int → Option (Int × (List Spot))
  | 0 => fun _ _ _ => none
  | n + 1 => d_laws_markSpotS_L1_B fu  (d_laws_markSpotS_L1 fu  n)
theorem d_laws_markSpotS_L1_s (fu : Nat)   (n : Nat) : d_laws_markSpotS_L1 fu  (n + 1) = d_laws_markSpotS_L1_B fu  (d_laws_markSpotS_L1 fu  n) := rfl

def d_laws_markSpotS (fu : Nat) (a1 : List Spot) (kv5 : Int) : Option (Int × (List Spot)) :=
  d_laws_markSpotS_L1 fu fu a1 kv5 0

def d_laws_markPlan (fu : Nat) (a1 : Plan) (kv5 : Int) : Option (Int × Plan) :=
  obind (d_laws_markCartonS fu a1.fCartons kv5) fun x15 => obind (d_laws_markSpotS fu a1.fSpots x15.1) fun x22 => some (x22.1, (⟨x15.2, x22.2⟩ : Plan))

def d_laws_heldIntS_L1_B (fu : Nat)  (a1 : List Int) (k1 : Int → Int → Option (Int)) (kv19 : Int) (i20 : Int) : Option (Int) :=
  bif (decide (i20 < ((a1.length : Int)))) then obind (ix a1 i20) fun x23 => bif (x23 != kv19) then some ((-1)) else k1 (w64 (kv19 + 1)) (w64 (i20 + 1)) else some (kv19)
def d_laws_heldIntS_L1 (fu : Nat)  (a1 : List Int) : Nat → Int → Int → Option (Int)
  | 0 => fun _ _ => none
  | n + 1 => d_laws_heldIntS_L1_B fu a1 (d_laws_heldIntS_L1 fu a1 n)
theorem d_laws_heldIntS_L1_s (fu : Nat)  (a1 : List Int) (n : Nat) : d_laws_heldIntS_L1 fu a1 (n + 1) = d_laws_heldIntS_L1_B fu a1 (d_laws_heldIntS_L1 fu a1 n) := rfl

def d_laws_heldIntS (fu : Nat) (a1 : List Int) (kv5 : Int) : Option (Int) :=
  d_laws_heldIntS_L1 fu a1 fu kv5 0

def d_laws_FnExactLost_J1 (fu : Nat) (aR1 : Request) (aX5 : Plan) (x76 : (List Int)) (x129 : (List Int))  : Option (Bool) :=
  obind (d_laws_markIntS fu x129 1) fun x235 => obind (d_laws_heldIntS fu x235.2 1) fun x242 => bif (decide (x242 < 0)) then some (false) else bif (x242 != x235.1) then some (false) else obind (d_laws_toRequest fu aR1) fun x249 => obind (d_laws_toPlan fu aX5) fun x268 => obind (d_impl_Lost fu x249 x268) fun x284 => obind (d_laws_eqIntS fu x284 x76) fun x294 => bif (!x294) then some (false) else obind (d_laws_heldIntS fu x235.2 1) fun x299 => bif (decide (x299 < 0)) then some (false) else bif (x299 != x235.1) then some (false) else some (true)

def d_laws_FnExactLost (fu : Nat) (aR1 : Request) (aX5 : Plan) : Option (Bool) :=
  obind (d_laws_szRequest fu aR1 1048576) fun x30 => bif (decide (x30 < 0)) then some (true) else obind (d_laws_szPlan fu aX5 x30) fun x35 => bif (decide (x35 < 0)) then some (true) else obind (d_laws_toRequest fu aR1) fun x41 => obind (d_laws_toPlan fu aX5) fun x60 => obind (d_spec_Lost fu x41 x60) fun x76 => obind (d_laws_toRequest fu aR1) fun x86 => obind (d_laws_toPlan fu aX5) fun x109 => obind (d_impl_Lost fu x86 x109) fun x129 => obind (d_laws_eqIntS fu x129 x76) fun x138 => bif (!x138) then some (false) else obind (d_laws_toRequest fu aR1) fun x144 => obind (d_laws_eqRequest fu x86 x144) fun x163 => bif (!x163) then some (false) else obind (d_laws_toPlan fu aX5) fun x169 => obind (d_laws_eqPlan fu x109 x169) fun x185 => bif (!x185) then some (false) else obind (d_laws_markRequest fu x86 1) fun x191 => obind (d_laws_markPlan fu x109 x191.1) fun x212 => bif (decide (x212.1 < 0)) then some (false) else obind (d_laws_eqIntS fu x129 x76) fun x306 => bif (!x306) then some (false) else d_laws_FnExactLost_J1 fu aR1 aX5 x76 x129

theorem c_laws_eqPlan (fu : Nat) {w0 : World} (a1 : Plan) (b5 : Plan) {cs2 : List Value} {F3 : List Nat} (hp4 : rd w0 F3 cs2 a1) {cs6 : List Value} {F7 : List Nat} (hp8 : rd w0 F7 cs6 b5) {r : Bool}
    (h : d_laws_eqPlan fu a1 b5 = some r) :
    Calls Tryz.prog 59 #[.agg cs2.toArray, .agg cs6.toArray] w0 fun e w => e = .returned (.bool (r)) ∧ Ext [] w0 w := by
 refine enter (vs := [_, _]) func59 rfl ntmps59 rfl fun a k => ?_
 have m := St.start w0
 obtain ⟨v9, F10, v11, F12, rfl, rfl, hf13, hf14⟩ := hp4
 obtain ⟨v15, F16, v17, F18, rfl, rfl, hf19, hf20⟩ := hp8
 unfold d_laws_eqPlan at h
 refine wr (s_box (cs := [v9, v11]) m k rfl rfl rfl rfl rfl rfl fun b21 w23 a k m e hb22 => s_box (cs := [v15, v17]) m k rfl rfl rfl rfl rfl rfl fun b24 w26 a k m e hb25 => pN 1 k rfl fun a k => nn (wp_seq (wr (sv k rfl (r_fa fa82_0 k rfl rfl) fun a k => sv k rfl (r_ldb t163 m 1 hb22 0 k rfl rfl rfl rfl rfl) fun a k => sv k rfl (r_fa fa82_0 k rfl rfl) fun a k => sv k rfl (r_ldb t163 m 0 hb25 0 k rfl rfl rfl rfl rfl) fun a k => oE h fun x27 hx28 h => cE k m call44 rfl rfl rfl (c_laws_eqCartonS fu _ _ (Enc.rd_agr hf13 (m.a00 (Enc.rd_lt hf13))) (Enc.rd_agr hf19 (m.a00 (Enc.rd_lt hf19))) hx28) fun w30 e a k m => pN 1 k rfl fun a k => nn (cI h k rfl (fun hb31 h => ?_) fun hb31 h => ?_)))))
 · refine wr (pN 1 k rfl fun a k => nn (wp_ret (rt_then ?_)))
   refine fS h k m rfl rfl
 refine wp_skip (nm_then ?_)
 refine wp_seq (wr (sv k rfl (r_fa fa82_1 k rfl rfl) fun a k => sv k rfl (r_ldb t180 m 1 hb22 1 k rfl rfl rfl rfl rfl) fun a k => sv k rfl (r_fa fa82_1 k rfl rfl) fun a k => sv k rfl (r_ldb t180 m 0 hb25 1 k rfl rfl rfl rfl rfl) fun a k => oE h fun x32 hx33 h => cE k m call128 rfl rfl rfl (c_laws_eqSpotS fu _ _ (Enc.rd_agr hf14 (m.a00 (Enc.rd_lt hf14))) (Enc.rd_agr hf20 (m.a00 (Enc.rd_lt hf20))) hx33) fun w35 e a k m => pN 1 k rfl fun a k => nn (cI h k rfl (fun hb36 h => ?_) fun hb36 h => ?_)))
 · refine wr (pN 1 k rfl fun a k => nn (wp_ret (rt_then ?_)))
   refine fS h k m rfl rfl
 refine wp_skip (nm_then ?_)
 refine wr (pN 1 k rfl fun a k => nn (wp_ret (fS h k m rfl rfl)))
theorem c_laws_markPairS (fu : Nat) {w0 : World} (a1 : List Pair) (kv5 : Int) {v2 : Value} {F3 : List Nat} (hp4 : ow w0 F3 [v2] a1) {r : Int × (List Pair)}
    (h : d_laws_markPairS fu a1 kv5 = some r) :
    Calls Tryz.prog 85 #[v2, .int .i64 kv5] w0 fun e w => ∃ (H0 : List Nat), e = .returned (.int .i64 r.1) ∧ Ext F3 w0 w ∧ (∀ b ∈ H0, b ∈ F3 ∨ w0.heap.size ≤ b) ∧ ow w H0 [v2] r.2 := by
 refine enter (vs := [_, _]) func85 rfl ntmps85 rfl fun a k => ?_
 have m := St.start1 w0 (Enc.rd_lt (Enc.ow_rd hp4)) (Enc.ow_nd hp4)
 unfold d_laws_markPairS at h
 refine wr (pN 1 k rfl fun a k => nn (wp_seq (wr (pN 1 k rfl fun a k => nn (wp_block (c_loop (fun n a w => ∃ (x32 : List Pair) (u33 : World) (kv35 : Int) (i36 : Int), K 27 [(0, v2), (1, .int .i64 kv35), (5, .int .i64 i36)] a ∧ St F3 w0 w [(F3, u33)] ∧ ow u33 F3 [v2] x32 ∧ d_laws_markPairS_L1 fu  n x32 kv35 i36 = some r) ?_ ?_ fu _ _ ?_))))))
 · rintro a w ⟨_, _, _, _, _, _, _, h⟩
   exact nS h
 · rintro m37 a w31 ⟨x32, u33, kv35, i36, k, m, hf34, h⟩
   rw [d_laws_markPairS_L1_s] at h
   unfold d_laws_markPairS_L1_B at h
   refine wp_seq (wr (pN 2 k rfl fun a k => sv k rfl (r_len (α := Pair) (Enc.ow_rd hf34) k underlying36 rfl rfl) fun a k => pN 1 k rfl fun a k => nn (cI h k rfl (fun hb38 h => ?_) fun hb38 h => ?_)))
   · refine wp_skip (nm_then ?_)
     refine wp_seq (wp_block (wr (pN 3 k rfl fun a k => oE h fun x39 hx40 h => sv k rfl (r_ixa (Enc.ow_rd hf34) hx40 k ts36 rfl rfl rfl) fun a k => sv k rfl (r_fa fa144_0 k rfl rfl) fun a k => s_ste (α := Pair) (sz := 2) (y := { x39 with fA := kv35 }) sizeOf3 hx40 m 0 hf34 0 k rfl rfl rfl rfl rfl rfl rfl rfl rfl rfl rfl rfl fun w41 a k e m hf42 => nn (wr (pN 3 k rfl fun a k => nn (wr (pN 3 k rfl fun a k => oE h fun x43 hx44 h => sv k rfl (r_ixa (Enc.ow_rd hf42) hx44 k ts36 rfl rfl rfl) fun a k => sv k rfl (r_fa fa144_1 k rfl rfl) fun a k => s_ste (α := Pair) (sz := 2) (y := { x43 with fB := w64 (kv35 + 1) }) sizeOf3 hx44 m 0 hf42 1 k rfl rfl rfl rfl rfl rfl rfl rfl rfl rfl rfl rfl fun w45 a k e m hf46 => nn (wp_region_lit (pN 3 k rfl fun a k => wpList_nil (nm_block (nm_then ?_)))))))))))
     refine wp_region_lit (pN 3 k rfl fun a k => ?_)
     have k := k.keep [0, 1, 5] rfl
     refine nn ?_
     exact ⟨setx (setx x32 i36 ({ x39 with fA := kv35 })) i36 ({ x43 with fB := w64 (kv35 + 1) }), w45, w64 ((w64 (kv35 + 1)) + 1), w64 (i36 + 1), k.keep [0, 1, 5] rfl, m.sel [0] rfl (by decide), hf46, h⟩
   refine wp_exit (ex_then (ex_then (ex_same (nm_then ?_))))
   refine wr (pN 2 k rfl fun a k => nn (wp_ret ?_))
   cases h
   exact finR1 k rfl (RV.tmp k rfl) ⟨F3, rfl, m.ext, (fun b hb => m.lo b (mem_fps (i := 0) rfl hb)), (Enc.ow_agr hf34 (m.a 0 rfl))⟩
 exact ⟨a1, w0, kv5, 0, k.keep [0, 1, 5] rfl, m.sel [0] rfl (by decide), hp4, h⟩
theorem c_laws_markTypeS (fu : Nat) {w0 : World} (a1 : List Typ) (kv5 : Int) {v2 : Value} {F3 : List Nat} (hp4 : ow w0 F3 [v2] a1) {r : Int × (List Typ)}
    (h : d_laws_markTypeS fu a1 kv5 = some r) :
    Calls Tryz.prog 86 #[v2, .int .i64 kv5] w0 fun e w => ∃ (H0 : List Nat), e = .returned (.int .i64 r.1) ∧ Ext F3 w0 w ∧ (∀ b ∈ H0, b ∈ F3 ∨ w0.heap.size ≤ b) ∧ ow w H0 [v2] r.2 := by
 refine enter (vs := [_, _]) func86 rfl ntmps86 rfl fun a k => ?_
 have m := St.start1 w0 (Enc.rd_lt (Enc.ow_rd hp4)) (Enc.ow_nd hp4)
 unfold d_laws_markTypeS at h
 refine wr (pN 1 k rfl fun a k => nn (wp_seq (wr (pN 1 k rfl fun a k => nn (wp_block (c_loop (fun n a w => ∃ (x72 : List Typ) (u73 : World) (kv75 : Int) (i76 : Int), K 62 [(0, v2), (1, .int .i64 kv75), (5, .int .i64 i76)] a ∧ St F3 w0 w [(F3, u73)] ∧ ow u73 F3 [v2] x72 ∧ d_laws_markTypeS_L1 fu  n x72 kv75 i76 = some r) ?_ ?_ fu _ _ ?_))))))
 · rintro a w ⟨_, _, _, _, _, _, _, h⟩
   exact nS h
 · rintro m77 a w71 ⟨x72, u73, kv75, i76, k, m, hf74, h⟩
   rw [d_laws_markTypeS_L1_s] at h
   unfold d_laws_markTypeS_L1_B at h
   refine wp_seq (wr (pN 2 k rfl fun a k => sv k rfl (r_len (α := Typ) (Enc.ow_rd hf74) k underlying37 rfl rfl) fun a k => pN 1 k rfl fun a k => nn (cI h k rfl (fun hb78 h => ?_) fun hb78 h => ?_)))
   · refine wp_skip (nm_then ?_)
     refine wp_seq (wp_block (wr (pN 3 k rfl fun a k => oE h fun x79 hx80 h => sv k rfl (r_ixa (Enc.ow_rd hf74) hx80 k ts37 rfl rfl rfl) fun a k => sv k rfl (r_fa fa92_0 k rfl rfl) fun a k => s_ste (α := Typ) (sz := 7) (y := { x79 with fId := kv75 }) sizeOf3 hx80 m 0 hf74 0 k rfl rfl rfl rfl rfl rfl rfl rfl rfl rfl rfl rfl fun w81 a k e m hf82 => nn (wr (pN 3 k rfl fun a k => nn (wr (pN 3 k rfl fun a k => oE h fun x83 hx84 h => sv k rfl (r_ixa (Enc.ow_rd hf82) hx84 k ts37 rfl rfl rfl) fun a k => sv k rfl (r_fa fa92_1 k rfl rfl) fun a k => s_ste (α := Typ) (sz := 7) (y := { x83 with fW := w64 (kv75 + 1) }) sizeOf3 hx84 m 0 hf82 1 k rfl rfl rfl rfl rfl rfl rfl rfl rfl rfl rfl rfl fun w85 a k e m hf86 => nn (wr (pN 3 k rfl fun a k => nn (wr (pN 3 k rfl fun a k => oE h fun x87 hx88 h => ?_)))))))))))
     refine sv k rfl (r_ixa (Enc.ow_rd hf86) hx88 k ts37 rfl rfl rfl) fun a k => sv k rfl (r_fa fa92_2 k rfl rfl) fun a k => s_ste (α := Typ) (sz := 7) (y := { x87 with fH := w64 ((w64 (kv75 + 1)) + 1) }) sizeOf3 hx88 m 0 hf86 2 k rfl rfl rfl rfl rfl rfl rfl rfl rfl rfl rfl rfl fun w89 a k e m hf90 => ?_
     have k := k.keep [0, 1, 5] rfl
     refine nn (wr (pN 3 k rfl fun a k => nn (wr (pN 3 k rfl fun a k => oE h fun x91 hx92 h => sv k rfl (r_ixa (Enc.ow_rd hf90) hx92 k ts37 rfl rfl rfl) fun a k => sv k rfl (r_fa fa92_3 k rfl rfl) fun a k => s_ste (α := Typ) (sz := 7) (y := { x91 with fD := w64 ((w64 ((w64 (kv75 + 1)) + 1)) + 1) }) sizeOf3 hx92 m 0 hf90 3 k rfl rfl rfl rfl rfl rfl rfl rfl rfl rfl rfl rfl fun w93 a k e m hf94 => nn (wr (pN 3 k rfl fun a k => nn (wr (pN 3 k rfl fun a k => oE h fun x95 hx96 h => sv k rfl (r_ixa (Enc.ow_rd hf94) hx96 k ts37 rfl rfl rfl) fun a k => sv k rfl (r_fa fa92_4 k rfl rfl) fun a k => s_ste (α := Typ) (sz := 7) (y := { x95 with fTare := w64 ((w64 ((w64 ((w64 (kv75 + 1)) + 1)) + 1)) + 1) }) sizeOf3 hx96 m 0 hf94 4 k rfl rfl rfl rfl rfl rfl rfl rfl rfl rfl rfl rfl fun w97 a k e m hf98 => nn (wr (pN 3 k rfl fun a k => nn (wr ?_)))))))))))
     refine pN 3 k rfl fun a k => oE h fun x99 hx100 h => sv k rfl (r_ixa (Enc.ow_rd hf98) hx100 k ts37 rfl rfl rfl) fun a k => sv k rfl (r_fa fa92_5 k rfl rfl) fun a k => s_ste (α := Typ) (sz := 7) (y := { x99 with fGram := w64 ((w64 ((w64 ((w64 ((w64 (kv75 + 1)) + 1)) + 1)) + 1)) + 1) }) sizeOf3 hx100 m 0 hf98 5 k rfl rfl rfl rfl rfl rfl rfl rfl rfl rfl rfl rfl fun w101 a k e m hf102 => ?_
     have k := k.keep [0, 1, 5] rfl
     refine nn (wr (pN 3 k rfl fun a k => nn (wr (pN 3 k rfl fun a k => oE h fun x103 hx104 h => sv k rfl (r_ixa (Enc.ow_rd hf102) hx104 k ts37 rfl rfl rfl) fun a k => sv k rfl (r_fa fa92_6 k rfl rfl) fun a k => s_ste (α := Typ) (sz := 7) (y := { x103 with fCost := w64 ((w64 ((w64 ((w64 ((w64 ((w64 (kv75 + 1)) + 1)) + 1)) + 1)) + 1)) + 1) }) sizeOf3 hx104 m 0 hf102 6 k rfl rfl rfl rfl rfl rfl rfl rfl rfl rfl rfl rfl fun w105 a k e m hf106 => nn (wp_region_lit (pN 3 k rfl fun a k => wpList_nil (nm_block (nm_then ?_))))))))
     refine wp_region_lit (pN 3 k rfl fun a k => nn ?_)
     exact ⟨setx (setx (setx (setx (setx (setx (setx x72 i76 ({ x79 with fId := kv75 })) i76 ({ x83 with fW := w64 (kv75 + 1) })) i76 ({ x87 with fH := w64 ((w64 (kv75 + 1)) + 1) })) i76 ({ x91 with fD := w64 ((w64 ((w64 (kv75 + 1)) + 1)) + 1) })) i76 ({ x95 with fTare := w64 ((w64 ((w64 ((w64 (kv75 + 1)) + 1)) + 1)) + 1) })) i76 ({ x99 with fGram := w64 ((w64 ((w64 ((w64 ((w64 (kv75 + 1)) + 1)) + 1)) + 1)) + 1) })) i76 ({ x103 with fCost := w64 ((w64 ((w64 ((w64 ((w64 ((w64 (kv75 + 1)) + 1)) + 1)) + 1)) + 1)) + 1) }), w105, w64 ((w64 ((w64 ((w64 ((w64 ((w64 ((w64 (kv75 + 1)) + 1)) + 1)) + 1)) + 1)) + 1)) + 1), w64 (i76 + 1), k.keep [0, 1, 5] rfl, m.sel [0] rfl (by decide), hf106, h⟩
   refine wp_exit (ex_then (ex_then (ex_same (nm_then ?_))))
   refine wr (pN 2 k rfl fun a k => nn (wp_ret ?_))
   cases h
   exact finR1 k rfl (RV.tmp k rfl) ⟨F3, rfl, m.ext, (fun b hb => m.lo b (mem_fps (i := 0) rfl hb)), (Enc.ow_agr hf74 (m.a 0 rfl))⟩
 exact ⟨a1, w0, kv5, 0, k.keep [0, 1, 5] rfl, m.sel [0] rfl (by decide), hp4, h⟩
theorem c_laws_markItemS (fu : Nat) {w0 : World} (a1 : List Item) (kv5 : Int) {v2 : Value} {F3 : List Nat} (hp4 : ow w0 F3 [v2] a1) {r : Int × (List Item)}
    (h : d_laws_markItemS fu a1 kv5 = some r) :
    Calls Tryz.prog 87 #[v2, .int .i64 kv5] w0 fun e w => ∃ (H0 : List Nat), e = .returned (.int .i64 r.1) ∧ Ext F3 w0 w ∧ (∀ b ∈ H0, b ∈ F3 ∨ w0.heap.size ≤ b) ∧ ow w H0 [v2] r.2 := by
 refine enter (vs := [_, _]) func87 rfl ntmps87 rfl fun a k => ?_
 have m := St.start1 w0 (Enc.rd_lt (Enc.ow_rd hp4)) (Enc.ow_nd hp4)
 unfold d_laws_markItemS at h
 refine wr (pN 1 k rfl fun a k => nn (wp_seq (wr (pN 1 k rfl fun a k => nn (wp_block (c_loop (fun n a w => ∃ (x72 : List Item) (u73 : World) (kv75 : Int) (i76 : Int), K 62 [(0, v2), (1, .int .i64 kv75), (5, .int .i64 i76)] a ∧ St F3 w0 w [(F3, u73)] ∧ ow u73 F3 [v2] x72 ∧ d_laws_markItemS_L1 fu  n x72 kv75 i76 = some r) ?_ ?_ fu _ _ ?_))))))
 · rintro a w ⟨_, _, _, _, _, _, _, h⟩
   exact nS h
 · rintro m77 a w71 ⟨x72, u73, kv75, i76, k, m, hf74, h⟩
   rw [d_laws_markItemS_L1_s] at h
   unfold d_laws_markItemS_L1_B at h
   refine wp_seq (wr (pN 2 k rfl fun a k => sv k rfl (r_len (α := Item) (Enc.ow_rd hf74) k underlying38 rfl rfl) fun a k => pN 1 k rfl fun a k => nn (cI h k rfl (fun hb78 h => ?_) fun hb78 h => ?_)))
   · refine wp_skip (nm_then ?_)
     refine wp_seq (wp_block (wr (pN 3 k rfl fun a k => oE h fun x79 hx80 h => sv k rfl (r_ixa (Enc.ow_rd hf74) hx80 k ts38 rfl rfl rfl) fun a k => sv k rfl (r_fa fa120_0 k rfl rfl) fun a k => s_ste (α := Item) (sz := 7) (y := { x79 with fId := kv75 }) sizeOf3 hx80 m 0 hf74 0 k rfl rfl rfl rfl rfl rfl rfl rfl rfl rfl rfl rfl fun w81 a k e m hf82 => nn (wr (pN 3 k rfl fun a k => nn (wr (pN 3 k rfl fun a k => oE h fun x83 hx84 h => sv k rfl (r_ixa (Enc.ow_rd hf82) hx84 k ts38 rfl rfl rfl) fun a k => sv k rfl (r_fa fa120_1 k rfl rfl) fun a k => s_ste (α := Item) (sz := 7) (y := { x83 with fW := w64 (kv75 + 1) }) sizeOf3 hx84 m 0 hf82 1 k rfl rfl rfl rfl rfl rfl rfl rfl rfl rfl rfl rfl fun w85 a k e m hf86 => nn (wr (pN 3 k rfl fun a k => nn (wr (pN 3 k rfl fun a k => oE h fun x87 hx88 h => ?_)))))))))))
     refine sv k rfl (r_ixa (Enc.ow_rd hf86) hx88 k ts38 rfl rfl rfl) fun a k => sv k rfl (r_fa fa120_2 k rfl rfl) fun a k => s_ste (α := Item) (sz := 7) (y := { x87 with fH := w64 ((w64 (kv75 + 1)) + 1) }) sizeOf3 hx88 m 0 hf86 2 k rfl rfl rfl rfl rfl rfl rfl rfl rfl rfl rfl rfl fun w89 a k e m hf90 => ?_
     have k := k.keep [0, 1, 5] rfl
     refine nn (wr (pN 3 k rfl fun a k => nn (wr (pN 3 k rfl fun a k => oE h fun x91 hx92 h => sv k rfl (r_ixa (Enc.ow_rd hf90) hx92 k ts38 rfl rfl rfl) fun a k => sv k rfl (r_fa fa120_3 k rfl rfl) fun a k => s_ste (α := Item) (sz := 7) (y := { x91 with fD := w64 ((w64 ((w64 (kv75 + 1)) + 1)) + 1) }) sizeOf3 hx92 m 0 hf90 3 k rfl rfl rfl rfl rfl rfl rfl rfl rfl rfl rfl rfl fun w93 a k e m hf94 => nn (wr (pN 3 k rfl fun a k => nn (wr (pN 3 k rfl fun a k => oE h fun x95 hx96 h => sv k rfl (r_ixa (Enc.ow_rd hf94) hx96 k ts38 rfl rfl rfl) fun a k => sv k rfl (r_fa fa120_4 k rfl rfl) fun a k => s_ste (α := Item) (sz := 7) (y := { x95 with fGram := w64 ((w64 ((w64 ((w64 (kv75 + 1)) + 1)) + 1)) + 1) }) sizeOf3 hx96 m 0 hf94 4 k rfl rfl rfl rfl rfl rfl rfl rfl rfl rfl rfl rfl fun w97 a k e m hf98 => nn (wr (pN 3 k rfl fun a k => nn (wr ?_)))))))))))
     refine pN 3 k rfl fun a k => oE h fun x99 hx100 h => sv k rfl (r_ixa (Enc.ow_rd hf98) hx100 k ts38 rfl rfl rfl) fun a k => sv k rfl (r_fa fa120_5 k rfl rfl) fun a k => s_ste (α := Item) (sz := 7) (y := { x99 with fClass := w64 ((w64 ((w64 ((w64 ((w64 (kv75 + 1)) + 1)) + 1)) + 1)) + 1) }) sizeOf3 hx100 m 0 hf98 5 k rfl rfl rfl rfl rfl rfl rfl rfl rfl rfl rfl rfl fun w101 a k e m hf102 => ?_
     have k := k.keep [0, 1, 5] rfl
     refine nn (wr (pN 3 k rfl fun a k => nn (wr (pN 3 k rfl fun a k => oE h fun x103 hx104 h => sv k rfl (r_ixa (Enc.ow_rd hf102) hx104 k ts38 rfl rfl rfl) fun a k => sv k rfl (r_fa fa120_6 k rfl rfl) fun a k => s_ste (α := Item) (sz := 7) (y := { x103 with fCount := w64 ((w64 ((w64 ((w64 ((w64 ((w64 (kv75 + 1)) + 1)) + 1)) + 1)) + 1)) + 1) }) sizeOf3 hx104 m 0 hf102 6 k rfl rfl rfl rfl rfl rfl rfl rfl rfl rfl rfl rfl fun w105 a k e m hf106 => nn (wp_region_lit (pN 3 k rfl fun a k => wpList_nil (nm_block (nm_then ?_))))))))
     refine wp_region_lit (pN 3 k rfl fun a k => nn ?_)
     exact ⟨setx (setx (setx (setx (setx (setx (setx x72 i76 ({ x79 with fId := kv75 })) i76 ({ x83 with fW := w64 (kv75 + 1) })) i76 ({ x87 with fH := w64 ((w64 (kv75 + 1)) + 1) })) i76 ({ x91 with fD := w64 ((w64 ((w64 (kv75 + 1)) + 1)) + 1) })) i76 ({ x95 with fGram := w64 ((w64 ((w64 ((w64 (kv75 + 1)) + 1)) + 1)) + 1) })) i76 ({ x99 with fClass := w64 ((w64 ((w64 ((w64 ((w64 (kv75 + 1)) + 1)) + 1)) + 1)) + 1) })) i76 ({ x103 with fCount := w64 ((w64 ((w64 ((w64 ((w64 ((w64 (kv75 + 1)) + 1)) + 1)) + 1)) + 1)) + 1) }), w105, w64 ((w64 ((w64 ((w64 ((w64 ((w64 ((w64 (kv75 + 1)) + 1)) + 1)) + 1)) + 1)) + 1)) + 1), w64 (i76 + 1), k.keep [0, 1, 5] rfl, m.sel [0] rfl (by decide), hf106, h⟩
   refine wp_exit (ex_then (ex_then (ex_same (nm_then ?_))))
   refine wr (pN 2 k rfl fun a k => nn (wp_ret ?_))
   cases h
   exact finR1 k rfl (RV.tmp k rfl) ⟨F3, rfl, m.ext, (fun b hb => m.lo b (mem_fps (i := 0) rfl hb)), (Enc.ow_agr hf74 (m.a 0 rfl))⟩
 exact ⟨a1, w0, kv5, 0, k.keep [0, 1, 5] rfl, m.sel [0] rfl (by decide), hp4, h⟩
theorem c_laws_markRequest (fu : Nat) {w0 : World} (a1 : Request) (kv5 : Int) {cs2 : List Value} {F3 : List Nat} (hp4 : ow w0 F3 cs2 a1) {r : Int × Request}
    (h : d_laws_markRequest fu a1 kv5 = some r) :
    Calls Tryz.prog 26 #[.agg cs2.toArray, .int .i64 kv5] w0 fun e w => ∃ (H0 : List Nat), e = .returned (.int .i64 r.1) ∧ Ext F3 w0 w ∧ (∀ b ∈ H0, b ∈ F3 ∨ w0.heap.size ≤ b) ∧ ow w H0 cs2 r.2 := by
 refine enter (vs := [_, _]) func26 rfl ntmps26 rfl fun a k => ?_
 have m := St.start1 w0 (Enc.rd_lt (Enc.ow_rd hp4)) (Enc.ow_nd hp4)
 obtain ⟨v6, F7, v9, F10, v12, F13, rfl, rfl, hf8, hf11, hf14, _⟩ := hp4
 have m := m.split2
 have m := m.split2at1
 unfold d_laws_markRequest at h
 refine wr (s_box (cs := [.int .i64 a1.fWay, .int .i64 a1.fPallet.fW, .int .i64 a1.fPallet.fD, .int .i64 a1.fPallet.fH, .int .i64 a1.fPallet.fGram, .int .i64 a1.fClasses, v6, v9, .int .i64 a1.fMaster, v12]) m k rfl rfl rfl rfl rfl rfl fun b15 w17 a k m e hb16 => pN 1 k rfl fun a k => nn (wr (sv k rfl (r_fa fa40_3 k rfl rfl) fun a k => sv k rfl (r_ldb t136 m 0 hb16 6 k rfl rfl rfl rfl rfl) fun a k => pN 1 k rfl fun a k => oE h fun x18 hx19 h => s_call k call85 rfl rfl rfl rfl rfl (c_laws_markPairS fu _ _ (Enc.ow_agr hf8 (m.a 1 rfl)) hx19) fun e20 w21 hR => ?_)))
 obtain ⟨F24, rfl, e, hlo23, hf22⟩ := hR
 refine ⟨_, rfl, fun a k => ?_⟩
 have m := m.mut 1 rfl e _ (fun b hb => ⟨hlo23 b hb, Enc.rd_lt (Enc.ow_rd hf22) b hb⟩) (Enc.ow_nd hf22)
 refine pN 1 k rfl fun a k => nn (wr (sv k rfl (r_fa fa40_4 k rfl rfl) fun a k => sv k rfl (r_ldb t137 m 0 hb16 7 k rfl rfl rfl rfl rfl) fun a k => pN 1 k rfl fun a k => oE h fun x25 hx26 h => s_call k call86 rfl rfl rfl rfl rfl (c_laws_markTypeS fu _ _ (Enc.ow_agr hf11 (m.a 2 rfl)) hx26) fun e27 w28 hR => ?_))
 obtain ⟨F31, rfl, e, hlo30, hf29⟩ := hR
 refine ⟨_, rfl, fun a k => ?_⟩
 have m := m.mut 2 rfl e _ (fun b hb => ⟨hlo30 b hb, Enc.rd_lt (Enc.ow_rd hf29) b hb⟩) (Enc.ow_nd hf29)
 refine pN 1 k rfl fun a k => nn (wr (sv k rfl (r_fa fa40_6 k rfl rfl) fun a k => sv k rfl (r_ldb t138 m 0 hb16 9 k rfl rfl rfl rfl rfl) fun a k => pN 1 k rfl fun a k => oE h fun x32 hx33 h => s_call k call87 rfl rfl rfl rfl rfl (c_laws_markItemS fu _ _ (Enc.ow_agr hf14 (m.a 3 rfl)) hx33) fun e34 w35 hR => ?_))
 obtain ⟨F38, rfl, e, hlo37, hf36⟩ := hR
 refine ⟨_, rfl, fun a k => ?_⟩
 have m := m.mut 3 rfl e _ (fun b hb => ⟨hlo37 b hb, Enc.rd_lt (Enc.ow_rd hf36) b hb⟩) (Enc.ow_nd hf36)
 refine pN 1 k rfl fun a k => nn (wr (pN 2 k rfl fun a k => nn (wp_ret ?_)))
 cases h
 exact finR1 k rfl (RV.tmp k rfl) ⟨F24 ++ (F31 ++ (F38)), rfl, m.ext, (fun b hb => (m.sel [1, 2, 3] rfl (by decide)).lo b (by simpa [fps] using hb)), ⟨_, _, _, _, _, _, rfl, rfl, (Enc.ow_agr hf22 (m.a 1 rfl)), (Enc.ow_agr hf29 (m.a 2 rfl)), (Enc.ow_agr hf36 (m.a 3 rfl)), by simpa [fps] using (m.sel [1, 2, 3] rfl (by decide)).nd⟩⟩
theorem c_laws_markIntS (fu : Nat) {w0 : World} (a1 : List Int) (kv5 : Int) {v2 : Value} {F3 : List Nat} (hp4 : ow w0 F3 [v2] a1) {r : Int × (List Int)}
    (h : d_laws_markIntS fu a1 kv5 = some r) :
    Calls Tryz.prog 46 #[v2, .int .i64 kv5] w0 fun e w => ∃ (H0 : List Nat), e = .returned (.int .i64 r.1) ∧ Ext F3 w0 w ∧ (∀ b ∈ H0, b ∈ F3 ∨ w0.heap.size ≤ b) ∧ ow w H0 [v2] r.2 := by
 refine enter (vs := [_, _]) func46 rfl ntmps46 rfl fun a k => ?_
 have m := St.start1 w0 (Enc.rd_lt (Enc.ow_rd hp4)) (Enc.ow_nd hp4)
 unfold d_laws_markIntS at h
 refine wr (pN 1 k rfl fun a k => nn (wp_seq (wr (pN 1 k rfl fun a k => nn (wp_block (c_loop (fun n a w => ∃ (x24 : List Int) (u25 : World) (kv27 : Int) (i28 : Int), K 19 [(0, v2), (1, .int .i64 kv27), (5, .int .i64 i28)] a ∧ St F3 w0 w [(F3, u25)] ∧ ow u25 F3 [v2] x24 ∧ d_laws_markIntS_L1 fu  n x24 kv27 i28 = some r) ?_ ?_ fu _ _ ?_))))))
 · rintro a w ⟨_, _, _, _, _, _, _, h⟩
   exact nS h
 · rintro m29 a w23 ⟨x24, u25, kv27, i28, k, m, hf26, h⟩
   rw [d_laws_markIntS_L1_s] at h
   unfold d_laws_markIntS_L1_B at h
   refine wp_seq (wr (pN 2 k rfl fun a k => sv k rfl (r_len (α := Int) (Enc.ow_rd hf26) k underlying29 rfl rfl) fun a k => pN 1 k rfl fun a k => nn (cI h k rfl (fun hb30 h => ?_) fun hb30 h => ?_)))
   · refine wp_skip (nm_then ?_)
     refine wp_seq (wp_block (wr (pN 3 k rfl fun a k => oE h fun x31 hx32 h => sv k rfl (r_ixa (Enc.ow_rd hf26) hx32 k ts29 rfl rfl rfl) fun a k => s_ste (α := Int) (sz := 1) (y := kv27) sizeOf3 hx32 m 0 hf26 0 k rfl rfl rfl rfl rfl rfl rfl rfl rfl rfl rfl rfl fun w33 a k e m hf34 => nn (wp_region_lit (pN 3 k rfl fun a k => wpList_nil (nm_block (nm_then ?_)))))))
     refine wp_region_lit (pN 3 k rfl fun a k => nn ?_)
     exact ⟨setx x24 i28 kv27, w33, w64 (kv27 + 1), w64 (i28 + 1), k.keep [0, 1, 5] rfl, m.sel [0] rfl (by decide), hf34, h⟩
   refine wp_exit (ex_then (ex_then (ex_same (nm_then ?_))))
   refine wr (pN 2 k rfl fun a k => nn (wp_ret ?_))
   cases h
   exact finR1 k rfl (RV.tmp k rfl) ⟨F3, rfl, m.ext, (fun b hb => m.lo b (mem_fps (i := 0) rfl hb)), (Enc.ow_agr hf26 (m.a 0 rfl))⟩
 exact ⟨a1, w0, kv5, 0, k.keep [0, 1, 5] rfl, m.sel [0] rfl (by decide), hp4, h⟩
theorem c_laws_markCartonS (fu : Nat) {w0 : World} (a1 : List Carton) (kv5 : Int) {v2 : Value} {F3 : List Nat} (hp4 : ow w0 F3 [v2] a1) {r : Int × (List Carton)}
    (h : d_laws_markCartonS fu a1 kv5 = some r) :
    Calls Tryz.prog 45 #[v2, .int .i64 kv5] w0 fun e w => ∃ (H0 : List Nat), e = .returned (.int .i64 r.1) ∧ Ext F3 w0 w ∧ (∀ b ∈ H0, b ∈ F3 ∨ w0.heap.size ≤ b) ∧ ow w H0 [v2] r.2 := by
 refine enter (vs := [_, _]) func45 rfl ntmps45 rfl fun a k => ?_
 have m := St.start1 w0 (Enc.rd_lt (Enc.ow_rd hp4)) (Enc.ow_nd hp4)
 unfold d_laws_markCartonS at h
 refine wr (pN 1 k rfl fun a k => nn (wp_seq (wr (pN 1 k rfl fun a k => nn (wp_block (c_loop (fun n a w => ∃ (x153 : List Carton) (u154 : World) (F156 : List Nat) (kv157 : Int) (i158 : Int), K 34 [(0, v2), (1, .int .i64 kv157), (5, .int .i64 i158)] a ∧ St F3 w0 w [(F156, u154)] ∧ ow u154 F156 [v2] x153 ∧ d_laws_markCartonS_L1 fu  n x153 kv157 i158 = some r) ?_ ?_ fu _ _ ?_))))))
 · rintro a w ⟨_, _, _, _, _, _, _, _, h⟩
   exact nS h
 · rintro m159 a w152 ⟨x153, u154, F156, kv157, i158, k, m, hf155, h⟩
   rw [d_laws_markCartonS_L1_s] at h
   unfold d_laws_markCartonS_L1_B at h
   refine wp_seq (wr (pN 2 k rfl fun a k => sv k rfl (r_len (α := Carton) (Enc.ow_rd hf155) k underlying63 rfl rfl) fun a k => pN 1 k rfl fun a k => nn (cI h k rfl (fun hb160 h => ?_) fun hb160 h => ?_)))
   · refine wp_skip (nm_then ?_)
     refine wp_seq (wp_block (wr (pN 3 k rfl fun a k => oE h fun x161 hx162 h => sv k rfl (r_ixa (Enc.ow_rd hf155) hx162 k ts63 rfl rfl rfl) fun a k => sv k rfl (r_fa fa42_0 k rfl rfl) fun a k => ?_)))
     obtain ⟨G163, cs164, hG165, hr166, hp167, hb168⟩ := rd_get (Enc.ow_rd hf155) (ix_some hx162).2.2
     obtain ⟨v169, _, rfl, rfl, hf170⟩ := hr166
     obtain ⟨A171, B172, m, hH173, hO174⟩ := m.opn 0 rfl hf155 hx162 hp167 rfl (M' := []) rfl
     obtain ⟨c175, _, heq176, rfl, hf177, _⟩ := hO174
     obtain rfl : v169 = c175 := by simpa using heq176
     refine s_stH (α := Carton) (sz := 3) (cs' := [.int .i64 kv157, .int .i64 x161.fGroup, v169]) sizeOf3 m 0 hH173 0 k rfl rfl rfl rfl rfl rfl rfl rfl rfl (allc rfl alln) rfl rfl fun w178 a k e m hH179 => ?_
     obtain ⟨F180, m, hf181⟩ := (m.sel [0, 1] rfl (by decide)).cls hH179 (show ow w152 B172 [.int .i64 kv157, .int .i64 x161.fGroup, v169] ((⟨kv157, x161.fGroup, x161.fUnits⟩ : Carton) : Carton) from ⟨_, _, rfl, rfl, hf177, (m.ndF 1 rfl)⟩)
     refine nn (wr (pN 3 k rfl fun a k => nn (wr (pN 3 k rfl fun a k => oE h fun x182 hx183 h => sv k rfl (r_ixa (Enc.ow_rd hf181) hx183 k ts63 rfl rfl rfl) fun a k => sv k rfl (r_fa fa42_1 k rfl rfl) fun a k => ?_))))
     obtain ⟨G184, cs185, hG186, hr187, hp188, hb189⟩ := rd_get (Enc.ow_rd hf181) (ix_some hx183).2.2
     obtain ⟨v190, _, rfl, rfl, hf191⟩ := hr187
     obtain ⟨A192, B193, m, hH194, hO195⟩ := m.opn 0 rfl hf181 hx183 hp188 rfl (M' := []) rfl
     obtain ⟨c196, _, heq197, rfl, hf198, _⟩ := hO195
     obtain rfl : v190 = c196 := by simpa using heq197
     refine s_stH (α := Carton) (sz := 3) (cs' := [.int .i64 x182.fType, .int .i64 (w64 (kv157 + 1)), v190]) sizeOf3 m 0 hH194 1 k rfl rfl rfl rfl rfl rfl rfl rfl rfl (allc rfl alln) rfl rfl fun w199 a k e m hH200 => ?_
     obtain ⟨F201, m, hf202⟩ := (m.sel [0, 1] rfl (by decide)).cls hH200 (show ow w178 B193 [.int .i64 x182.fType, .int .i64 (w64 (kv157 + 1)), v190] ((⟨x182.fType, w64 (kv157 + 1), x182.fUnits⟩ : Carton) : Carton) from ⟨_, _, rfl, rfl, hf198, (m.ndF 1 rfl)⟩)
     refine nn (wr (pN 3 k rfl fun a k => nn (wp_region_lit (pN 2 k rfl fun a k => oE h fun x203 hx204 h => sv k rfl (r_ixa (Enc.ow_rd hf202) hx204 k ts63 rfl rfl rfl) fun a k => sv k rfl (r_fa fa42_2 k rfl rfl) fun a k => ?_))))
     obtain ⟨G205, cs206, hG207, hr208, hp209, hb210⟩ := rd_get (Enc.ow_rd hf202) (ix_some hx204).2.2
     obtain ⟨v211, _, rfl, rfl, hf212⟩ := hr208
     refine sv k rfl (r_ld1 t129 ((hp209.agr (m.a 0 rfl) hb210).fld 2 1 (Nat.le_of_ble_eq_true rfl)) k rfl rfl) fun a k => pN 1 k rfl fun a k => ?_
     obtain ⟨A213, B214, m, hH215, hO216⟩ := m.opn 0 rfl hf202 hx204 hp209 rfl (M' := []) rfl
     obtain ⟨c217, _, heq218, rfl, hf219, _⟩ := hO216
     obtain rfl : v211 = c217 := by simpa using heq218
     refine oE h fun x220 hx221 h => s_call k call46 rfl rfl rfl rfl rfl (c_laws_markIntS fu _ _ (Enc.ow_agr hf219 (m.a 1 rfl)) hx221) fun e222 w223 hR => ?_
     obtain ⟨F226, rfl, e, hlo225, hf224⟩ := hR
     refine ⟨_, rfl, fun a k => ?_⟩
     have m := m.mut 1 rfl e _ (fun b hb => ⟨hlo225 b hb, Enc.rd_lt (Enc.ow_rd hf224) b hb⟩) (Enc.ow_nd hf224)
     obtain ⟨F227, m, hf228⟩ := (m.sel [0, 1] rfl (by decide)).cls hH215 (show ow w223 F226 [.int .i64 x203.fType, .int .i64 x203.fGroup, v211] ((⟨x203.fType, x203.fGroup, x220.2⟩ : Carton) : Carton) from ⟨_, _, rfl, rfl, hf224, (m.ndF 1 rfl)⟩)
     refine pN 1 k rfl fun a k => ?_
     have k := k.keep [0, 1, 5] rfl
     refine wpList_nil (nm_block (nm_then ?_))
     refine wp_region_lit (pN 3 k rfl fun a k => nn ?_)
     exact ⟨setx (setx (setx x153 i158 ((⟨kv157, x161.fGroup, x161.fUnits⟩ : Carton))) i158 ((⟨x182.fType, w64 (kv157 + 1), x182.fUnits⟩ : Carton))) i158 ((⟨x203.fType, x203.fGroup, x220.2⟩ : Carton)), w223, F227, x220.1, w64 (i158 + 1), k.keep [0, 1, 5] rfl, m.sel [0] rfl (by decide), hf228, h⟩
   refine wp_exit (ex_then (ex_then (ex_same (nm_then ?_))))
   refine wr (pN 2 k rfl fun a k => nn (wp_ret ?_))
   cases h
   exact finR1 k rfl (RV.tmp k rfl) ⟨F156, rfl, m.ext, (fun b hb => m.lo b (mem_fps (i := 0) rfl hb)), (Enc.ow_agr hf155 (m.a 0 rfl))⟩
 exact ⟨a1, w0, F3, kv5, 0, k.keep [0, 1, 5] rfl, m.sel [0] rfl (by decide), hp4, h⟩
theorem c_laws_markSpotS (fu : Nat) {w0 : World} (a1 : List Spot) (kv5 : Int) {v2 : Value} {F3 : List Nat} (hp4 : ow w0 F3 [v2] a1) {r : Int × (List Spot)}
    (h : d_laws_markSpotS fu a1 kv5 = some r) :
    Calls Tryz.prog 129 #[v2, .int .i64 kv5] w0 fun e w => ∃ (H0 : List Nat), e = .returned (.int .i64 r.1) ∧ Ext F3 w0 w ∧ (∀ b ∈ H0, b ∈ F3 ∨ w0.heap.size ≤ b) ∧ ow w H0 [v2] r.2 := by
 refine enter (vs := [_, _]) func129 rfl ntmps129 rfl fun a k => ?_
 have m := St.start1 w0 (Enc.rd_lt (Enc.ow_rd hp4)) (Enc.ow_nd hp4)
 unfold d_laws_markSpotS at h
 refine wr (pN 1 k rfl fun a k => nn (wp_seq (wr (pN 1 k rfl fun a k => nn (wp_block (c_loop (fun n a w => ∃ (x48 : List Spot) (u49 : World) (kv51 : Int) (i52 : Int), K 41 [(0, v2), (1, .int .i64 kv51), (5, .int .i64 i52)] a ∧ St F3 w0 w [(F3, u49)] ∧ ow u49 F3 [v2] x48 ∧ d_laws_markSpotS_L1 fu  n x48 kv51 i52 = some r) ?_ ?_ fu _ _ ?_))))))
 · rintro a w ⟨_, _, _, _, _, _, _, h⟩
   exact nS h
 · rintro m53 a w47 ⟨x48, u49, kv51, i52, k, m, hf50, h⟩
   rw [d_laws_markSpotS_L1_s] at h
   unfold d_laws_markSpotS_L1_B at h
   refine wp_seq (wr (pN 2 k rfl fun a k => sv k rfl (r_len (α := Spot) (Enc.ow_rd hf50) k underlying80 rfl rfl) fun a k => pN 1 k rfl fun a k => nn (cI h k rfl (fun hb54 h => ?_) fun hb54 h => ?_)))
   · refine wp_skip (nm_then ?_)
     refine wp_seq (wp_block (wr (pN 3 k rfl fun a k => oE h fun x55 hx56 h => sv k rfl (r_ixa (Enc.ow_rd hf50) hx56 k ts80 rfl rfl rfl) fun a k => sv k rfl (r_fa fa171_0 k rfl rfl) fun a k => s_ste (α := Spot) (sz := 4) (y := { x55 with fPallet := kv51 }) sizeOf3 hx56 m 0 hf50 0 k rfl rfl rfl rfl rfl rfl rfl rfl rfl rfl rfl rfl fun w57 a k e m hf58 => nn (wr (pN 3 k rfl fun a k => nn (wr (pN 3 k rfl fun a k => oE h fun x59 hx60 h => sv k rfl (r_ixa (Enc.ow_rd hf58) hx60 k ts80 rfl rfl rfl) fun a k => sv k rfl (r_fa fa171_1 k rfl rfl) fun a k => s_ste (α := Spot) (sz := 4) (y := { x59 with fX := w64 (kv51 + 1) }) sizeOf3 hx60 m 0 hf58 1 k rfl rfl rfl rfl rfl rfl rfl rfl rfl rfl rfl rfl fun w61 a k e m hf62 => nn (wr (pN 3 k rfl fun a k => nn (wr (pN 3 k rfl fun a k => oE h fun x63 hx64 h => ?_)))))))))))
     refine sv k rfl (r_ixa (Enc.ow_rd hf62) hx64 k ts80 rfl rfl rfl) fun a k => sv k rfl (r_fa fa171_2 k rfl rfl) fun a k => s_ste (α := Spot) (sz := 4) (y := { x63 with fY := w64 ((w64 (kv51 + 1)) + 1) }) sizeOf3 hx64 m 0 hf62 2 k rfl rfl rfl rfl rfl rfl rfl rfl rfl rfl rfl rfl fun w65 a k e m hf66 => ?_
     have k := k.keep [0, 1, 5] rfl
     refine nn (wr (pN 3 k rfl fun a k => nn (wr (pN 3 k rfl fun a k => oE h fun x67 hx68 h => sv k rfl (r_ixa (Enc.ow_rd hf66) hx68 k ts80 rfl rfl rfl) fun a k => sv k rfl (r_fa fa171_3 k rfl rfl) fun a k => s_ste (α := Spot) (sz := 4) (y := { x67 with fZ := w64 ((w64 ((w64 (kv51 + 1)) + 1)) + 1) }) sizeOf3 hx68 m 0 hf66 3 k rfl rfl rfl rfl rfl rfl rfl rfl rfl rfl rfl rfl fun w69 a k e m hf70 => nn (wp_region_lit (pN 3 k rfl fun a k => wpList_nil (nm_block (nm_then ?_))))))))
     refine wp_region_lit (pN 3 k rfl fun a k => nn ?_)
     exact ⟨setx (setx (setx (setx x48 i52 ({ x55 with fPallet := kv51 })) i52 ({ x59 with fX := w64 (kv51 + 1) })) i52 ({ x63 with fY := w64 ((w64 (kv51 + 1)) + 1) })) i52 ({ x67 with fZ := w64 ((w64 ((w64 (kv51 + 1)) + 1)) + 1) }), w69, w64 ((w64 ((w64 ((w64 (kv51 + 1)) + 1)) + 1)) + 1), w64 (i52 + 1), k.keep [0, 1, 5] rfl, m.sel [0] rfl (by decide), hf70, h⟩
   refine wp_exit (ex_then (ex_then (ex_same (nm_then ?_))))
   refine wr (pN 2 k rfl fun a k => nn (wp_ret ?_))
   cases h
   exact finR1 k rfl (RV.tmp k rfl) ⟨F3, rfl, m.ext, (fun b hb => m.lo b (mem_fps (i := 0) rfl hb)), (Enc.ow_agr hf50 (m.a 0 rfl))⟩
 exact ⟨a1, w0, kv5, 0, k.keep [0, 1, 5] rfl, m.sel [0] rfl (by decide), hp4, h⟩
theorem c_laws_markPlan (fu : Nat) {w0 : World} (a1 : Plan) (kv5 : Int) {cs2 : List Value} {F3 : List Nat} (hp4 : ow w0 F3 cs2 a1) {r : Int × Plan}
    (h : d_laws_markPlan fu a1 kv5 = some r) :
    Calls Tryz.prog 60 #[.agg cs2.toArray, .int .i64 kv5] w0 fun e w => ∃ (H0 : List Nat), e = .returned (.int .i64 r.1) ∧ Ext F3 w0 w ∧ (∀ b ∈ H0, b ∈ F3 ∨ w0.heap.size ≤ b) ∧ ow w H0 cs2 r.2 := by
 refine enter (vs := [_, _]) func60 rfl ntmps60 rfl fun a k => ?_
 have m := St.start1 w0 (Enc.rd_lt (Enc.ow_rd hp4)) (Enc.ow_nd hp4)
 obtain ⟨v6, F7, v9, F10, rfl, rfl, hf8, hf11, _⟩ := hp4
 have m := m.split2
 unfold d_laws_markPlan at h
 refine wr (s_box (cs := [v6, v9]) m k rfl rfl rfl rfl rfl rfl fun b12 w14 a k m e hb13 => pN 1 k rfl fun a k => nn (wr (sv k rfl (r_fa fa82_0 k rfl rfl) fun a k => sv k rfl (r_ldb t163 m 0 hb13 0 k rfl rfl rfl rfl rfl) fun a k => pN 1 k rfl fun a k => oE h fun x15 hx16 h => s_call k call45 rfl rfl rfl rfl rfl (c_laws_markCartonS fu _ _ (Enc.ow_agr hf8 (m.a 1 rfl)) hx16) fun e17 w18 hR => ?_)))
 obtain ⟨F21, rfl, e, hlo20, hf19⟩ := hR
 refine ⟨_, rfl, fun a k => ?_⟩
 have m := m.mut 1 rfl e _ (fun b hb => ⟨hlo20 b hb, Enc.rd_lt (Enc.ow_rd hf19) b hb⟩) (Enc.ow_nd hf19)
 refine pN 1 k rfl fun a k => nn (wr (sv k rfl (r_fa fa82_1 k rfl rfl) fun a k => sv k rfl (r_ldb t180 m 0 hb13 1 k rfl rfl rfl rfl rfl) fun a k => pN 1 k rfl fun a k => oE h fun x22 hx23 h => s_call k call129 rfl rfl rfl rfl rfl (c_laws_markSpotS fu _ _ (Enc.ow_agr hf11 (m.a 2 rfl)) hx23) fun e24 w25 hR => ?_))
 obtain ⟨F28, rfl, e, hlo27, hf26⟩ := hR
 refine ⟨_, rfl, fun a k => ?_⟩
 have m := m.mut 2 rfl e _ (fun b hb => ⟨hlo27 b hb, Enc.rd_lt (Enc.ow_rd hf26) b hb⟩) (Enc.ow_nd hf26)
 refine pN 1 k rfl fun a k => nn (wr (pN 2 k rfl fun a k => nn (wp_ret ?_)))
 cases h
 exact finR1 k rfl (RV.tmp k rfl) ⟨F21 ++ (F28), rfl, m.ext, (fun b hb => (m.sel [1, 2] rfl (by decide)).lo b (by simpa [fps] using hb)), ⟨_, _, _, _, rfl, rfl, (Enc.ow_agr hf19 (m.a 1 rfl)), (Enc.ow_agr hf26 (m.a 2 rfl)), by simpa [fps] using (m.sel [1, 2] rfl (by decide)).nd⟩⟩
theorem c_laws_heldIntS (fu : Nat) {w0 : World} (a1 : List Int) (kv5 : Int) {v2 : Value} {F3 : List Nat} (hp4 : rd w0 F3 [v2] a1) {r : Int}
    (h : d_laws_heldIntS fu a1 kv5 = some r) :
    Calls Tryz.prog 47 #[v2, .int .i64 kv5] w0 fun e w => e = .returned (.int .i64 r) ∧ Ext [] w0 w := by
 refine enter (vs := [_, _]) func47 rfl ntmps47 rfl fun a k => ?_
 have m := St.start w0
 unfold d_laws_heldIntS at h
 refine wr (pN 1 k rfl fun a k => nn (wp_seq (wr (pN 1 k rfl fun a k => nn (wp_block (c_loop (fun n a w => ∃ (kv19 : Int) (i20 : Int), K 21 [(0, v2), (1, .int .i64 kv19), (5, .int .i64 i20)] a ∧ St [] w0 w [] ∧ d_laws_heldIntS_L1 fu a1 n kv19 i20 = some r) ?_ ?_ fu _ _ ?_))))))
 · rintro a w ⟨_, _, _, _, h⟩
   exact nS h
 · rintro m21 a w18 ⟨kv19, i20, k, m, h⟩
   rw [d_laws_heldIntS_L1_s] at h
   unfold d_laws_heldIntS_L1_B at h
   refine wp_seq (wr (pN 2 k rfl fun a k => sv k rfl (r_len (α := Int) hp4 k underlying29 rfl rfl) fun a k => pN 1 k rfl fun a k => nn (cI h k rfl (fun hb22 h => ?_) fun hb22 h => ?_)))
   · refine wp_skip (nm_then ?_)
     refine wp_seq (wp_block (wp_seq (wr (pN 2 k rfl fun a k => oE h fun x23 hx24 h => sv k rfl (r_ixa hp4 hx24 k ts29 rfl rfl rfl) fun a k => sv k rfl (r_lde1 hp4 (m.a00 (Enc.rd_lt hp4)) hx24 0 t13 k rfl rfl rfl rfl) fun a k => pN 2 k rfl fun a k => nn (cI h k rfl (fun hb25 h => ?_) fun hb25 h => ?_)))))
     · refine wr (pN 1 k rfl fun a k => nn (wp_ret (rt_then (rt_block (rt_then (rt_then (rt_block (rt_then ?_))))))))
       refine fS h k m rfl rfl
     refine wp_skip (nm_then ?_)
     refine wp_region_lit (pN 3 k rfl fun a k => wpList_nil (nm_block (nm_then ?_)))
     refine wp_region_lit (pN 3 k rfl fun a k => nn ?_)
     exact ⟨w64 (kv19 + 1), w64 (i20 + 1), k.keep [0, 1, 5] rfl, m.sel [] rfl (by decide), h⟩
   refine wp_exit (ex_then (ex_then (ex_same (nm_then ?_))))
   refine wr (pN 2 k rfl fun a k => nn (wp_ret (fS h k m rfl rfl)))
 exact ⟨kv5, 0, k.keep [0, 1, 5] rfl, m.sel [] rfl (by decide), h⟩
theorem c_laws_FnExactLost (fu : Nat) {w0 : World} (aR1 : Request) (aX5 : Plan) {cs2 : List Value} {F3 : List Nat} (hp4 : rd w0 F3 cs2 aR1) {cs6 : List Value} {F7 : List Nat} (hp8 : rd w0 F7 cs6 aX5) {r : Bool}
    (h : d_laws_FnExactLost fu aR1 aX5 = some r) :
    Calls Tryz.prog 13 #[.agg cs2.toArray, .agg cs6.toArray] w0 fun e w => e = .returned (.bool (r)) ∧ Ext [] w0 w := by
 refine enter (vs := [_, _]) func13 rfl ntmps13 rfl fun a k => ?_
 have m := St.start w0
 obtain ⟨v9, F10, v11, F12, v13, F14, rfl, rfl, hf15, hf16, hf17⟩ := hp4
 obtain ⟨v18, F19, v20, F21, rfl, rfl, hf22, hf23⟩ := hp8
 unfold d_laws_FnExactLost at h
 refine wr (s_box (cs := [.int .i64 aR1.fWay, .int .i64 aR1.fPallet.fW, .int .i64 aR1.fPallet.fD, .int .i64 aR1.fPallet.fH, .int .i64 aR1.fPallet.fGram, .int .i64 aR1.fClasses, v9, v11, .int .i64 aR1.fMaster, v13]) m k rfl rfl rfl rfl rfl rfl fun b24 w26 a k m e hb25 => s_box (cs := [v18, v20]) m k rfl rfl rfl rfl rfl rfl fun b27 w29 a k m e hb28 => pN 1 k rfl fun a k => nn (wr (pN 1 k rfl fun a k => nn (wr (sv k rfl (r_ldB ta28 m 1 hb25 0 k rfl rfl rfl rfl rfl rfl) fun a k => pN 1 k rfl fun a k => oE h fun x30 hx31 h => ?_)))))
 refine cE k m call15 rfl rfl rfl (c_laws_szRequest fu _ _ (show rd _ _ [.int .i64 aR1.fWay, .int .i64 aR1.fPallet.fW, .int .i64 aR1.fPallet.fD, .int .i64 aR1.fPallet.fH, .int .i64 aR1.fPallet.fGram, .int .i64 aR1.fClasses, v9, v11, .int .i64 aR1.fMaster, v13] (aR1 : Request) from ⟨_, _, _, _, _, _, rfl, rfl, (Enc.rd_agr hf15 (m.a00 (Enc.rd_lt hf15))), (Enc.rd_agr hf16 (m.a00 (Enc.rd_lt hf16))), (Enc.rd_agr hf17 (m.a00 (Enc.rd_lt hf17)))⟩) hx31) fun w33 e a k m => pN 1 k rfl fun a k => nn (wp_seq (wr (pN 2 k rfl fun a k => nn (cI h k rfl (fun hb34 h => ?_) fun hb34 h => ?_))))
 · refine wr (pN 1 k rfl fun a k => nn (wp_ret (rt_then ?_)))
   refine fS h k m rfl rfl
 refine wp_skip (nm_then ?_)
 refine wr (sv k rfl (r_ldB ta77 m 0 hb28 0 k rfl rfl rfl rfl rfl rfl) fun a k => pN 1 k rfl fun a k => oE h fun x35 hx36 h => cE k m call55 rfl rfl rfl (c_laws_szPlan fu _ _ (show rd _ _ [v18, v20] (aX5 : Plan) from ⟨_, _, _, _, rfl, rfl, (Enc.rd_agr hf22 (m.a00 (Enc.rd_lt hf22))), (Enc.rd_agr hf23 (m.a00 (Enc.rd_lt hf23)))⟩) hx36) fun w38 e a k m => pN 1 k rfl fun a k => nn (wp_seq (wr (pN 2 k rfl fun a k => nn (cI h k rfl (fun hb39 h => ?_) fun hb39 h => ?_)))))
 · refine wr (pN 1 k rfl fun a k => nn (wp_ret (rt_then ?_)))
   refine fS h k m rfl rfl
 refine wp_skip (nm_then ?_)
 refine wp_seq (d_go [] mixo m rfl fun w40 hMd => ?_)
 have m := hMd
 have s := Ext.refl ([] : List Nat) w40
 refine dt k 0 rfl (by kernel_rfl) rfl s (fun _ _ _ => id) (fun w s => r_ldA ta28 (hb25.at ((hMd.step s).a 1 rfl) 0 10 rfl rfl rfl) rfl k rfl rfl) fun a k => dt k 2 rfl (by kernel_rfl) rfl s (fun _ _ _ => id) (fun w s => r_ldA ta77 (hb28.at ((hMd.step s).a 0 rfl) 0 2 rfl rfl rfl) rfl k rfl rfl) fun a k => d_one 1 (by kernel_rfl) rfl (oE h fun x41 hx42 h => s_call k call18 rfl rfl rfl rfl rfl (c_laws_toRequest fu _ (show rd _ _ [.int .i64 aR1.fWay, .int .i64 aR1.fPallet.fW, .int .i64 aR1.fPallet.fD, .int .i64 aR1.fPallet.fH, .int .i64 aR1.fPallet.fGram, .int .i64 aR1.fClasses, v9, v11, .int .i64 aR1.fMaster, v13] (aR1 : Request) from ⟨_, _, _, _, _, _, rfl, rfl, (Enc.rd_agr hf15 (m.a00 (Enc.rd_lt hf15))), (Enc.rd_agr hf16 (m.a00 (Enc.rd_lt hf16))), (Enc.rd_agr hf17 (m.a00 (Enc.rd_lt hf17)))⟩) hx42) fun e43 w44 hR => ?_)
 obtain ⟨cs49, F45, rfl, e, hf46, hfr47⟩ := hR
 refine ⟨_, rfl, fun a k => ?_⟩
 have m := m.new e F45 (fun b hb => ⟨hfr47 b hb, Enc.rd_lt (Enc.ow_rd hf46) b hb⟩) (Enc.ow_nd hf46)
 have hlo50 := fun (y : Nat) (hy : y ∈ F45) => Nat.le_trans s.size (hfr47 y hy)
 obtain ⟨v51, F52, v54, F55, v57, F58, rfl, rfl, hf53, hf56, hf59, _⟩ := hf46
 have m := m.split2
 have m := m.split2at1
 have s := s.trans e (by simp)
 refine wpList_nil ⟨s, ?_⟩
 refine d_one 3 (by kernel_rfl) rfl (oE h fun x60 hx61 h => s_call k call57 rfl rfl rfl rfl rfl (c_laws_toPlan fu _ (show rd _ _ [v18, v20] (aX5 : Plan) from ⟨_, _, _, _, rfl, rfl, (Enc.rd_agr hf22 (m.a00 (Enc.rd_lt hf22))), (Enc.rd_agr hf23 (m.a00 (Enc.rd_lt hf23)))⟩) hx61) fun e62 w63 hR => ?_)
 obtain ⟨cs68, F64, rfl, e, hf65, hfr66⟩ := hR
 refine ⟨_, rfl, fun a k => ?_⟩
 have m := m.new e F64 (fun b hb => ⟨hfr66 b hb, Enc.rd_lt (Enc.ow_rd hf65) b hb⟩) (Enc.ow_nd hf65)
 have hlo69 := fun (y : Nat) (hy : y ∈ F64) => Nat.le_trans s.size (hfr66 y hy)
 obtain ⟨v70, F71, v73, F74, rfl, rfl, hf72, hf75, _⟩ := hf65
 have m := m.split2
 have s := s.trans e (by simp)
 refine wpList_nil ⟨s, ?_⟩
 refine d_one 4 (by kernel_rfl) rfl (oE h fun x76 hx77 h => s_call k call56 rfl rfl rfl rfl rfl (c_spec_Lost fu _ _ (show rd _ _ [.int .i64 x41.fWay, .int .i64 x41.fPallet.fW, .int .i64 x41.fPallet.fD, .int .i64 x41.fPallet.fH, .int .i64 x41.fPallet.fGram, .int .i64 x41.fClasses, v51, v54, .int .i64 x41.fMaster, v57] (x41 : Request) from ⟨_, _, _, _, _, _, rfl, rfl, (Enc.rd_agr (Enc.ow_rd hf53) (m.a 2 rfl)), (Enc.rd_agr (Enc.ow_rd hf56) (m.a 3 rfl)), (Enc.rd_agr (Enc.ow_rd hf59) (m.a 4 rfl))⟩) (show rd _ _ [v70, v73] (x60 : Plan) from ⟨_, _, _, _, rfl, rfl, (Enc.rd_agr (Enc.ow_rd hf72) (m.a 0 rfl)), (Enc.rd_agr (Enc.ow_rd hf75) (m.a 1 rfl))⟩) hx77) fun e78 w79 hR => ?_)
 obtain ⟨v84, F80, rfl, e, hf81, hfr82⟩ := hR
 refine ⟨_, rfl, fun a k => ?_⟩
 have m := m.new e F80 (fun b hb => ⟨hfr82 b hb, Enc.rd_lt (Enc.ow_rd hf81) b hb⟩) (Enc.ow_nd hf81)
 have hlo85 := fun (y : Nat) (hy : y ∈ F80) => Nat.le_trans s.size (hfr82 y hy)
 have s := s.trans e (by simp)
 refine wpList_nil ⟨s, ?_⟩
 refine dp k 5 rfl (by kernel_rfl) rfl s (fun _ _ _ => id) rfl fun a k => d_done (by kernel_rfl) ((nm_then ?_))
 refine wr (sv k rfl (r_ldB ta28 m 7 hb25 0 k rfl rfl rfl rfl rfl rfl) fun a k => oE h fun x86 hx87 h => s_call k call18 rfl rfl rfl rfl rfl (c_laws_toRequest fu _ (show rd _ _ [.int .i64 aR1.fWay, .int .i64 aR1.fPallet.fW, .int .i64 aR1.fPallet.fD, .int .i64 aR1.fPallet.fH, .int .i64 aR1.fPallet.fGram, .int .i64 aR1.fClasses, v9, v11, .int .i64 aR1.fMaster, v13] (aR1 : Request) from ⟨_, _, _, _, _, _, rfl, rfl, (Enc.rd_agr hf15 (m.a00 (Enc.rd_lt hf15))), (Enc.rd_agr hf16 (m.a00 (Enc.rd_lt hf16))), (Enc.rd_agr hf17 (m.a00 (Enc.rd_lt hf17)))⟩) hx87) fun e88 w89 hR => ?_)
 obtain ⟨cs94, F90, rfl, e, hf91, hfr92⟩ := hR
 refine ⟨_, rfl, fun a k => ?_⟩
 have m := m.new e F90 (fun b hb => ⟨hfr92 b hb, Enc.rd_lt (Enc.ow_rd hf91) b hb⟩) (Enc.ow_nd hf91)
 obtain ⟨v95, F96, v98, F99, v101, F102, rfl, rfl, hf97, hf100, hf103, _⟩ := hf91
 have m := m.split2
 have m := m.split2at1
 refine s_alloc (cs := [.int .i64 0, .int .i64 0, .int .i64 0, .int .i64 0, .int .i64 0, .int .i64 0, .slice none 0 0, .slice none 0 0, .int .i64 0, .slice none 0 0]) m k zeroValue40 rfl rfl rfl rfl rfl fun b104 w106 a k m e hb105 => s_stb (cs' := [.int .i64 x86.fWay, .int .i64 x86.fPallet.fW, .int .i64 x86.fPallet.fD, .int .i64 x86.fPallet.fH, .int .i64 x86.fPallet.fGram, .int .i64 x86.fClasses, v95, v98, .int .i64 x86.fMaster, v101]) sizeOf40 m 0 hb105 0 k rfl rfl rfl rfl rfl rfl rfl rfl rfl rfl (allc rfl (allc rfl (allc rfl (allc rfl (allc rfl (allc rfl (allc (rd_o (Enc.ow_rd hf97)) (allc (rd_o (Enc.ow_rd hf100)) (allc rfl (allc (rd_o (Enc.ow_rd hf103)) alln)))))))))) fun w107 a k e m hb108 => ?_
 have k := k.keep [2, 3, 6, 7] rfl
 refine nn (wr (sv k rfl (r_ldB ta77 m 10 hb28 0 k rfl rfl rfl rfl rfl rfl) fun a k => oE h fun x109 hx110 h => s_call k call57 rfl rfl rfl rfl rfl (c_laws_toPlan fu _ (show rd _ _ [v18, v20] (aX5 : Plan) from ⟨_, _, _, _, rfl, rfl, (Enc.rd_agr hf22 (m.a00 (Enc.rd_lt hf22))), (Enc.rd_agr hf23 (m.a00 (Enc.rd_lt hf23)))⟩) hx110) fun e111 w112 hR => ?_))
 obtain ⟨cs117, F113, rfl, e, hf114, hfr115⟩ := hR
 refine ⟨_, rfl, fun a k => ?_⟩
 have m := m.new e F113 (fun b hb => ⟨hfr115 b hb, Enc.rd_lt (Enc.ow_rd hf114) b hb⟩) (Enc.ow_nd hf114)
 obtain ⟨v118, F119, v121, F122, rfl, rfl, hf120, hf123, _⟩ := hf114
 have m := m.split2
 refine s_alloc (cs := [.slice none 0 0, .slice none 0 0]) m k zeroValue82 rfl rfl rfl rfl rfl fun b124 w126 a k m e hb125 => s_stb (cs' := [v118, v121]) sizeOf82 m 0 hb125 0 k rfl rfl rfl rfl rfl rfl rfl rfl rfl rfl (allc (rd_o (Enc.ow_rd hf120)) (allc (rd_o (Enc.ow_rd hf123)) alln)) fun w127 a k e m hb128 => nn (wr (sv k rfl (r_ldB ta40 m 3 hb108 0 k rfl rfl rfl rfl rfl rfl) fun a k => sv k rfl (r_ldB ta82 m 0 hb128 0 k rfl rfl rfl rfl rfl rfl) fun a k => oE h fun x129 hx130 h => ?_))
 refine s_call k call58 rfl rfl rfl rfl rfl (c_impl_Lost fu _ _ (show rd _ _ [.int .i64 x86.fWay, .int .i64 x86.fPallet.fW, .int .i64 x86.fPallet.fD, .int .i64 x86.fPallet.fH, .int .i64 x86.fPallet.fGram, .int .i64 x86.fClasses, v95, v98, .int .i64 x86.fMaster, v101] (x86 : Request) from ⟨_, _, _, _, _, _, rfl, rfl, (Enc.rd_agr (Enc.ow_rd hf97) (m.a 4 rfl)), (Enc.rd_agr (Enc.ow_rd hf100) (m.a 5 rfl)), (Enc.rd_agr (Enc.ow_rd hf103) (m.a 6 rfl))⟩) (show rd _ _ [v118, v121] (x109 : Plan) from ⟨_, _, _, _, rfl, rfl, (Enc.rd_agr (Enc.ow_rd hf120) (m.a 1 rfl)), (Enc.rd_agr (Enc.ow_rd hf123) (m.a 2 rfl))⟩) hx130) fun e131 w132 hR => ?_
 obtain ⟨v137, F133, rfl, e, hf134, hfr135⟩ := hR
 refine ⟨_, rfl, fun a k => ?_⟩
 have m := m.new e F133 (fun b hb => ⟨hfr135 b hb, Enc.rd_lt (Enc.ow_rd hf134) b hb⟩) (Enc.ow_nd hf134)
 refine pN 1 k rfl fun a k => nn (wp_seq (wr (pN 2 k rfl fun a k => oE h fun x138 hx139 h => cE k m call43 rfl rfl rfl (c_laws_eqIntS fu _ _ (Enc.rd_agr (Enc.ow_rd hf134) (m.a 0 rfl)) (Enc.rd_agr (Enc.ow_rd hf81) (m.a 8 rfl)) hx139) fun w141 e a k m => pN 1 k rfl fun a k => nn (cI h k rfl (fun hb142 h => ?_) fun hb142 h => ?_))))
 · refine wr (pN 1 k rfl fun a k => nn (wp_ret (rt_then ?_)))
   refine fS h k m rfl rfl
 refine wp_skip (nm_then ?_)
 refine wp_seq (wp_seq (d_go [] mixo m rfl fun w143 hMd => ?_))
 have m := hMd
 have s := Ext.refl ([] : List Nat) w143
 refine dt k 0 rfl (by kernel_rfl) rfl s (fun _ _ _ => id) (fun w s => r_ldA ta40 (hb108.at ((hMd.step s).a 4 rfl) 0 10 rfl rfl rfl) rfl k rfl rfl) fun a k => dt k 1 rfl (by kernel_rfl) rfl s (fun _ _ _ => id) (fun w s => r_ldA ta28 (hb25.at ((hMd.step s).a 15 rfl) 0 10 rfl rfl rfl) rfl k rfl rfl) fun a k => d_one 2 (by kernel_rfl) rfl (oE h fun x144 hx145 h => s_call k call18 rfl rfl rfl rfl rfl (c_laws_toRequest fu _ (show rd _ _ [.int .i64 aR1.fWay, .int .i64 aR1.fPallet.fW, .int .i64 aR1.fPallet.fD, .int .i64 aR1.fPallet.fH, .int .i64 aR1.fPallet.fGram, .int .i64 aR1.fClasses, v9, v11, .int .i64 aR1.fMaster, v13] (aR1 : Request) from ⟨_, _, _, _, _, _, rfl, rfl, (Enc.rd_agr hf15 (m.a00 (Enc.rd_lt hf15))), (Enc.rd_agr hf16 (m.a00 (Enc.rd_lt hf16))), (Enc.rd_agr hf17 (m.a00 (Enc.rd_lt hf17)))⟩) hx145) fun e146 w147 hR => ?_)
 obtain ⟨cs152, F148, rfl, e, hf149, hfr150⟩ := hR
 refine ⟨_, rfl, fun a k => ?_⟩
 have m := m.new e F148 (fun b hb => ⟨hfr150 b hb, Enc.rd_lt (Enc.ow_rd hf149) b hb⟩) (Enc.ow_nd hf149)
 have hlo153 := fun (y : Nat) (hy : y ∈ F148) => Nat.le_trans s.size (hfr150 y hy)
 obtain ⟨v154, F155, v157, F158, v160, F161, rfl, rfl, hf156, hf159, hf162, _⟩ := hf149
 have m := m.split2
 have m := m.split2at1
 have s := s.trans e (by simp)
 refine wpList_nil ⟨s, ?_⟩
 refine d_one 3 (by kernel_rfl) rfl (oE h fun x163 hx164 h => ?_)
 refine cE k m call21 rfl rfl rfl (c_laws_eqRequest fu _ _ (show rd _ _ [.int .i64 x86.fWay, .int .i64 x86.fPallet.fW, .int .i64 x86.fPallet.fD, .int .i64 x86.fPallet.fH, .int .i64 x86.fPallet.fGram, .int .i64 x86.fClasses, v95, v98, .int .i64 x86.fMaster, v101] (x86 : Request) from ⟨_, _, _, _, _, _, rfl, rfl, (Enc.rd_agr (Enc.ow_rd hf97) (m.a 8 rfl)), (Enc.rd_agr (Enc.ow_rd hf100) (m.a 9 rfl)), (Enc.rd_agr (Enc.ow_rd hf103) (m.a 10 rfl))⟩) (show rd _ _ [.int .i64 x144.fWay, .int .i64 x144.fPallet.fW, .int .i64 x144.fPallet.fD, .int .i64 x144.fPallet.fH, .int .i64 x144.fPallet.fGram, .int .i64 x144.fClasses, v154, v157, .int .i64 x144.fMaster, v160] (x144 : Request) from ⟨_, _, _, _, _, _, rfl, rfl, (Enc.rd_agr (Enc.ow_rd hf156) (m.a 0 rfl)), (Enc.rd_agr (Enc.ow_rd hf159) (m.a 1 rfl)), (Enc.rd_agr (Enc.ow_rd hf162) (m.a 2 rfl))⟩) hx164) fun w166 e a k m => ?_
 have s := s.trans e (by simp)
 refine wpList_nil ⟨s, ?_⟩
 refine dp k 4 rfl (by kernel_rfl) rfl s (fun _ _ _ => id) rfl fun a k => d_done (by kernel_rfl) ((nm_then ?_))
 refine cI h k rfl (fun hb167 h => ?_) fun hb167 h => ?_
 · refine wr (pN 1 k rfl fun a k => nn (wp_ret (rt_then ?_)))
   refine fS h k m rfl rfl
 refine wp_skip (nm_then ?_)
 refine wp_seq (wp_seq (d_go [] mixo m rfl fun w168 hMd => ?_))
 have m := hMd
 have s := Ext.refl ([] : List Nat) w168
 refine dt k 0 rfl (by kernel_rfl) rfl s (fun _ _ _ => id) (fun w s => r_ldA ta82 (hb128.at ((hMd.step s).a 4 rfl) 0 2 rfl rfl rfl) rfl k rfl rfl) fun a k => dt k 1 rfl (by kernel_rfl) rfl s (fun _ _ _ => id) (fun w s => r_ldA ta77 (hb28.at ((hMd.step s).a 17 rfl) 0 2 rfl rfl rfl) rfl k rfl rfl) fun a k => d_one 2 (by kernel_rfl) rfl (oE h fun x169 hx170 h => s_call k call57 rfl rfl rfl rfl rfl (c_laws_toPlan fu _ (show rd _ _ [v18, v20] (aX5 : Plan) from ⟨_, _, _, _, rfl, rfl, (Enc.rd_agr hf22 (m.a00 (Enc.rd_lt hf22))), (Enc.rd_agr hf23 (m.a00 (Enc.rd_lt hf23)))⟩) hx170) fun e171 w172 hR => ?_)
 obtain ⟨cs177, F173, rfl, e, hf174, hfr175⟩ := hR
 refine ⟨_, rfl, fun a k => ?_⟩
 have m := m.new e F173 (fun b hb => ⟨hfr175 b hb, Enc.rd_lt (Enc.ow_rd hf174) b hb⟩) (Enc.ow_nd hf174)
 have hlo178 := fun (y : Nat) (hy : y ∈ F173) => Nat.le_trans s.size (hfr175 y hy)
 obtain ⟨v179, F180, v182, F183, rfl, rfl, hf181, hf184, _⟩ := hf174
 have m := m.split2
 have s := s.trans e (by simp)
 refine wpList_nil ⟨s, ?_⟩
 refine d_one 3 (by kernel_rfl) rfl (oE h fun x185 hx186 h => cE k m call59 rfl rfl rfl (c_laws_eqPlan fu _ _ (show rd _ _ [v118, v121] (x109 : Plan) from ⟨_, _, _, _, rfl, rfl, (Enc.rd_agr (Enc.ow_rd hf120) (m.a 7 rfl)), (Enc.rd_agr (Enc.ow_rd hf123) (m.a 8 rfl))⟩) (show rd _ _ [v179, v182] (x169 : Plan) from ⟨_, _, _, _, rfl, rfl, (Enc.rd_agr (Enc.ow_rd hf181) (m.a 0 rfl)), (Enc.rd_agr (Enc.ow_rd hf184) (m.a 1 rfl))⟩) hx186) fun w188 e a k m => ?_)
 have s := s.trans e (by simp)
 refine wpList_nil ⟨s, ?_⟩
 refine dp k 4 rfl (by kernel_rfl) rfl s (fun _ _ _ => id) rfl fun a k => d_done (by kernel_rfl) ?_
 have k := k.keep [2, 3, 6, 7, 8, 9, 49] rfl
 refine (nm_then ?_)
 refine cI h k rfl (fun hb189 h => ?_) fun hb189 h => ?_
 · refine wr (pN 1 k rfl fun a k => nn (wp_ret (rt_then ?_)))
   refine fS h k m rfl rfl
 refine wp_skip (nm_then ?_)
 refine wr (pN 1 k rfl fun a k => nn (wr (sv k rfl (r_ldB ta40 m 9 hb108 0 k rfl rfl rfl rfl rfl rfl) fun a k => pN 1 k rfl fun a k => ?_)))
 have hy190 : ow _ (F96 ++ (F99 ++ (F102))) [.int .i64 x86.fWay, .int .i64 x86.fPallet.fW, .int .i64 x86.fPallet.fD, .int .i64 x86.fPallet.fH, .int .i64 x86.fPallet.fGram, .int .i64 x86.fClasses, v95, v98, .int .i64 x86.fMaster, v101] (x86 : Request) := ⟨_, _, _, _, _, _, rfl, rfl, (Enc.ow_agr hf97 (m.a 10 rfl)), (Enc.ow_agr hf100 (m.a 11 rfl)), (Enc.ow_agr hf103 (m.a 12 rfl)), by simpa [fps] using (m.sel [10, 11, 12] rfl (by decide)).nd⟩
 have m := m.sel [10, 11, 12, 0, 1, 2, 3, 4, 5, 6, 7, 8, 9, 13, 14, 15, 16, 17, 18, 19, 20] rfl (by decide)
 have m := m.join3
 refine oE h fun x191 hx192 h => s_call k call26 rfl rfl rfl rfl rfl (c_laws_markRequest fu _ _ hy190 hx192) fun e193 w194 hR => ?_
 obtain ⟨F197, rfl, e, hlo196, hf195⟩ := hR
 refine ⟨_, rfl, fun a k => ?_⟩
 have m := m.mut 0 rfl e _ (fun b hb => ⟨hlo196 b hb, Enc.rd_lt (Enc.ow_rd hf195) b hb⟩) (Enc.ow_nd hf195)
 obtain ⟨v198, F199, v201, F202, v204, F205, heq207, rfl, hf200, hf203, hf206, _⟩ := hf195
 have m := m.toFront 0 rfl
 have m := m.split2
 have m := m.split2at1
 have he208 : v95 = v198 := by have := congrArg (fun l : List Value => l[6]?) heq207; simpa using this
 subst he208
 have he209 : v98 = v201 := by have := congrArg (fun l : List Value => l[7]?) heq207; simpa using this
 subst he209
 have he210 : v101 = v204 := by have := congrArg (fun l : List Value => l[9]?) heq207; simpa using this
 subst he210
 refine pN 1 k rfl fun a k => nn (wr (sv k rfl (r_ldB ta82 m 9 hb128 0 k rfl rfl rfl rfl rfl rfl) fun a k => pN 1 k rfl fun a k => ?_))
 have hy211 : ow _ (F119 ++ (F122)) [v118, v121] (x109 : Plan) := ⟨_, _, _, _, rfl, rfl, (Enc.ow_agr hf120 (m.a 10 rfl)), (Enc.ow_agr hf123 (m.a 11 rfl)), by simpa [fps] using (m.sel [10, 11] rfl (by decide)).nd⟩
 have m := m.sel [10, 11, 0, 1, 2, 3, 4, 5, 6, 7, 8, 9, 12, 13, 14, 15, 16, 17, 18, 19, 20] rfl (by decide)
 have m := m.join2
 refine oE h fun x212 hx213 h => s_call k call60 rfl rfl rfl rfl rfl (c_laws_markPlan fu _ _ hy211 hx213) fun e214 w215 hR => ?_
 obtain ⟨F218, rfl, e, hlo217, hf216⟩ := hR
 refine ⟨_, rfl, fun a k => ?_⟩
 have m := m.mut 0 rfl e _ (fun b hb => ⟨hlo217 b hb, Enc.rd_lt (Enc.ow_rd hf216) b hb⟩) (Enc.ow_nd hf216)
 obtain ⟨v219, F220, v222, F223, heq225, rfl, hf221, hf224, _⟩ := hf216
 have m := m.toFront 0 rfl
 have m := m.split2
 have he226 : v118 = v219 := by have := congrArg (fun l : List Value => l[0]?) heq225; simpa using this
 subst he226
 have he227 : v121 = v222 := by have := congrArg (fun l : List Value => l[1]?) heq225; simpa using this
 subst he227
 refine pN 1 k rfl fun a k => nn (c_cut (fun a w => K 92 [(2, .pointer (some (⟨b24, 0, none⟩ : Addr))), (3, .pointer (some (⟨b27, 0, none⟩ : Addr))), (6, v84), (9, v137)] a ∧ St [] w0 w [([b24], w26), ([b27], w29), (F80, w79), (F133, w132)] ∧ d_laws_FnExactLost_J1 fu aR1 aX5 x76 x129 = some r) ?_ ?_)
 · rintro a w234 ⟨k, m, h⟩
   unfold d_laws_FnExactLost_J1 at h
   refine wr (pN 1 k rfl fun a k => nn (wr (pN 2 k rfl fun a k => oE h fun x235 hx236 h => s_call k call46 rfl rfl rfl rfl rfl (c_laws_markIntS fu _ _ (Enc.ow_agr hf134 (m.a 3 rfl)) hx236) fun e237 w238 hR => ?_)))
   obtain ⟨F241, rfl, e, hlo240, hf239⟩ := hR
   refine ⟨_, rfl, fun a k => ?_⟩
   have m := m.mut 3 rfl e _ (fun b hb => ⟨hlo240 b hb, Enc.rd_lt (Enc.ow_rd hf239) b hb⟩) (Enc.ow_nd hf239)
   refine pN 1 k rfl fun a k => nn (wr (pN 1 k rfl fun a k => nn (wr (pN 2 k rfl fun a k => oE h fun x242 hx243 h => cE k m call47 rfl rfl rfl (c_laws_heldIntS fu _ _ (Enc.rd_agr (Enc.ow_rd hf239) (m.a 3 rfl)) hx243) fun w245 e a k m => pN 1 k rfl fun a k => nn (wp_seq (wr (pN 2 k rfl fun a k => nn (cI h k rfl (fun hb246 h => ?_) fun hb246 h => ?_))))))))
   · refine wr (pN 1 k rfl fun a k => nn (wp_ret (rt_then ?_)))
     refine fS h k m rfl rfl
   refine wp_skip (nm_then ?_)
   refine wp_seq (wr (pN 3 k rfl fun a k => nn (cI h k rfl (fun hb247 h => ?_) fun hb247 h => ?_)))
   · refine wr (pN 1 k rfl fun a k => nn (wp_ret (rt_then ?_)))
     refine fS h k m rfl rfl
   refine wp_skip (nm_then ?_)
   refine wp_seq (d_go [] mixo m rfl fun w248 hMd => ?_)
   have m := hMd
   have s := Ext.refl ([] : List Nat) w248
   refine dt k 0 rfl (by kernel_rfl) rfl s (fun _ _ _ => id) (fun w s => r_ldA ta28 (hb25.at ((hMd.step s).a 0 rfl) 0 10 rfl rfl rfl) rfl k rfl rfl) fun a k => dt k 2 rfl (by kernel_rfl) rfl s (fun _ _ _ => id) (fun w s => r_ldA ta77 (hb28.at ((hMd.step s).a 1 rfl) 0 2 rfl rfl rfl) rfl k rfl rfl) fun a k => d_one 1 (by kernel_rfl) rfl (oE h fun x249 hx250 h => s_call k call18 rfl rfl rfl rfl rfl (c_laws_toRequest fu _ (show rd _ _ [.int .i64 aR1.fWay, .int .i64 aR1.fPallet.fW, .int .i64 aR1.fPallet.fD, .int .i64 aR1.fPallet.fH, .int .i64 aR1.fPallet.fGram, .int .i64 aR1.fClasses, v9, v11, .int .i64 aR1.fMaster, v13] (aR1 : Request) from ⟨_, _, _, _, _, _, rfl, rfl, (Enc.rd_agr hf15 (m.a00 (Enc.rd_lt hf15))), (Enc.rd_agr hf16 (m.a00 (Enc.rd_lt hf16))), (Enc.rd_agr hf17 (m.a00 (Enc.rd_lt hf17)))⟩) hx250) fun e251 w252 hR => ?_)
   obtain ⟨cs257, F253, rfl, e, hf254, hfr255⟩ := hR
   refine ⟨_, rfl, fun a k => ?_⟩
   have m := m.new e F253 (fun b hb => ⟨hfr255 b hb, Enc.rd_lt (Enc.ow_rd hf254) b hb⟩) (Enc.ow_nd hf254)
   have hlo258 := fun (y : Nat) (hy : y ∈ F253) => Nat.le_trans s.size (hfr255 y hy)
   obtain ⟨v259, F260, v262, F263, v265, F266, rfl, rfl, hf261, hf264, hf267, _⟩ := hf254
   have m := m.split2
   have m := m.split2at1
   have s := s.trans e (by simp)
   refine wpList_nil ⟨s, ?_⟩
   refine d_one 3 (by kernel_rfl) rfl (oE h fun x268 hx269 h => s_call k call57 rfl rfl rfl rfl rfl (c_laws_toPlan fu _ (show rd _ _ [v18, v20] (aX5 : Plan) from ⟨_, _, _, _, rfl, rfl, (Enc.rd_agr hf22 (m.a00 (Enc.rd_lt hf22))), (Enc.rd_agr hf23 (m.a00 (Enc.rd_lt hf23)))⟩) hx269) fun e270 w271 hR => ?_)
   obtain ⟨cs276, F272, rfl, e, hf273, hfr274⟩ := hR
   refine ⟨_, rfl, fun a k => ?_⟩
   have m := m.new e F272 (fun b hb => ⟨hfr274 b hb, Enc.rd_lt (Enc.ow_rd hf273) b hb⟩) (Enc.ow_nd hf273)
   have hlo277 := fun (y : Nat) (hy : y ∈ F272) => Nat.le_trans s.size (hfr274 y hy)
   obtain ⟨v278, F279, v281, F282, rfl, rfl, hf280, hf283, _⟩ := hf273
   have m := m.split2
   have s := s.trans e (by simp)
   refine wpList_nil ⟨s, ?_⟩
   refine d_one 4 (by kernel_rfl) rfl (oE h fun x284 hx285 h => s_call k call58 rfl rfl rfl rfl rfl (c_impl_Lost fu _ _ (show rd _ _ [.int .i64 x249.fWay, .int .i64 x249.fPallet.fW, .int .i64 x249.fPallet.fD, .int .i64 x249.fPallet.fH, .int .i64 x249.fPallet.fGram, .int .i64 x249.fClasses, v259, v262, .int .i64 x249.fMaster, v265] (x249 : Request) from ⟨_, _, _, _, _, _, rfl, rfl, (Enc.rd_agr (Enc.ow_rd hf261) (m.a 2 rfl)), (Enc.rd_agr (Enc.ow_rd hf264) (m.a 3 rfl)), (Enc.rd_agr (Enc.ow_rd hf267) (m.a 4 rfl))⟩) (show rd _ _ [v278, v281] (x268 : Plan) from ⟨_, _, _, _, rfl, rfl, (Enc.rd_agr (Enc.ow_rd hf280) (m.a 0 rfl)), (Enc.rd_agr (Enc.ow_rd hf283) (m.a 1 rfl))⟩) hx285) fun e286 w287 hR => ?_)
   obtain ⟨v292, F288, rfl, e, hf289, hfr290⟩ := hR
   refine ⟨_, rfl, fun a k => ?_⟩
   have m := m.new e F288 (fun b hb => ⟨hfr290 b hb, Enc.rd_lt (Enc.ow_rd hf289) b hb⟩) (Enc.ow_nd hf289)
   have hlo293 := fun (y : Nat) (hy : y ∈ F288) => Nat.le_trans s.size (hfr290 y hy)
   have s := s.trans e (by simp)
   refine wpList_nil ⟨s, ?_⟩
   refine dp k 5 rfl (by kernel_rfl) rfl s (fun _ _ _ => id) rfl fun a k => d_done (by kernel_rfl) ((nm_then ?_))
   refine wp_seq (wr (pN 2 k rfl fun a k => oE h fun x294 hx295 h => cE k m call43 rfl rfl rfl (c_laws_eqIntS fu _ _ (Enc.rd_agr (Enc.ow_rd hf289) (m.a 0 rfl)) (Enc.rd_agr (Enc.ow_rd hf81) (m.a 8 rfl)) hx295) fun w297 e a k m => pN 1 k rfl fun a k => ?_))
   have k := k.keep [9, 11, 83] rfl
   refine nn (cI h k rfl (fun hb298 h => ?_) fun hb298 h => ?_)
   · refine wr (pN 1 k rfl fun a k => nn (wp_ret (rt_then ?_)))
     refine fS h k m rfl rfl
   refine wp_skip (nm_then ?_)
   refine wr (pN 1 k rfl fun a k => nn (wr (pN 2 k rfl fun a k => oE h fun x299 hx300 h => cE k m call47 rfl rfl rfl (c_laws_heldIntS fu _ _ (Enc.rd_agr (Enc.ow_rd hf239) (m.a 9 rfl)) hx300) fun w302 e a k m => pN 1 k rfl fun a k => nn (wp_seq (wr (pN 2 k rfl fun a k => nn (cI h k rfl (fun hb303 h => ?_) fun hb303 h => ?_)))))))
   · refine wr (pN 1 k rfl fun a k => nn (wp_ret (rt_then ?_)))
     refine fS h k m rfl rfl
   refine wp_skip (nm_then ?_)
   refine wp_seq (wr (pN 3 k rfl fun a k => nn (cI h k rfl (fun hb304 h => ?_) fun hb304 h => ?_)))
   · refine wr (pN 1 k rfl fun a k => nn (wp_ret (rt_then ?_)))
     refine fS h k m rfl rfl
   refine wp_skip (nm_then ?_)
   refine wr (pN 1 k rfl fun a k => nn (wp_ret (fS h k m rfl rfl)))
 refine wr (pN 3 k rfl fun a k => bsplit (decide (x212.1 < 0)) (fun hb305 => ?_) (fun hb305 => ?_))
 · have h := bif_t hb305 h
   refine rB k 58 rfl hb305 fun k => pN 5 k rfl fun a k => nn (wp_cond_true (k.ev rfl) (wr (pN 1 k rfl fun a k => ?_)))
   have k := k.keep [4] rfl
   refine nn (wp_ret (rt_then ?_))
   refine fS h k m rfl rfl
 have h := bif_f hb305 h
 refine rB k 58 rfl hb305 fun k => pN 2 k rfl fun a k => oE h fun x306 hx307 h => cE k m call43 rfl rfl rfl (c_laws_eqIntS fu _ _ (Enc.rd_agr (Enc.ow_rd hf134) (m.a 10 rfl)) (Enc.rd_agr (Enc.ow_rd hf81) (m.a 13 rfl)) hx307) fun w309 e a k m => pN 2 k rfl fun a k => nn (cI h k rfl (fun hb310 h => ?_) fun hb310 h => ?_)
 · refine wr (pN 1 k rfl fun a k => ?_)
   have k := k.keep [4] rfl
   refine nn (wp_ret (rt_then ?_))
   refine fS h k m rfl rfl
 refine wp_skip (nm_then ?_)
 exact ⟨k.keep [2, 3, 6, 9] rfl, m.sel [20, 19, 13, 10] rfl (by decide), h⟩

end Go.Proofs.YthjbcfefkdbgoaaGreat
