/- FnExactFills: the walks of functions that the law reaches, part 6. Printed by gen.py. -/
import Derived.Test.YthjbcfefkdbgoaaGreatExactFillsW5
set_option maxRecDepth 20000
set_option linter.unusedSimpArgs false
set_option linter.unusedVariables false
namespace Go.Proofs.YthjbcfefkdbgoaaGreat
open Go Go.RowKit
open Enc (rd ow)
open Arg (argv)
open Ret (retv)

theorem ta28 : TA Tryz.prog 28 10 := ⟨Tryz.isAgg28, Tryz.sizeOf28⟩

def d_laws_eqCarton (fu : Nat) (a1 : Carton) (b5 : Carton) : Option (Bool) :=
  bif (a1.fType != b5.fType) then some (false) else bif (a1.fGroup != b5.fGroup) then some (false) else obind (d_laws_eqIntS fu a1.fUnits b5.fUnits) fun x21 => bif (!x21) then some (false) else some (true)

def d_laws_eqCartonS_L1_B (fu : Nat)  (a1 : List Carton) (b5 : List Carton) (k1 : Int → Option (Bool)) (i68 : Int) : Option (Bool) :=
  bif (decide (i68 < ((a1.length : Int)))) then obind (ix a1 i68) fun x72 => obind (ix b5 i68) fun x82 => obind (d_laws_eqCarton fu x72 x82) fun x92 => bif (!x92) then some (false) else k1 (w64 (i68 + 1)) else some (true)
def d_laws_eqCartonS_L1 (fu : Nat)  (a1 : List Carton) (b5 : List Carton) : Nat → Int → Option (Bool)
  | 0 => fun _ => none
  | n + 1 => d_laws_eqCartonS_L1_B fu a1 b5 (d_laws_eqCartonS_L1 fu a1 b5 n)
theorem d_laws_eqCartonS_L1_s (fu : Nat)  (a1 : List Carton) (b5 : List Carton) (n : Nat) : d_laws_eqCartonS_L1 fu a1 b5 (n + 1) = d_laws_eqCartonS_L1_B fu a1 b5 (d_laws_eqCartonS_L1 fu a1 b5 n) := rfl

def d_laws_eqCartonS (fu : Nat) (a1 : List Carton) (b5 : List Carton) : Option (Bool) :=
  bif (((a1.length : Int)) != ((b5.length : Int))) then some (false) else d_laws_eqCartonS_L1 fu a1 b5 fu 0

def d_laws_markPairS_L1_B (fu : Nat)   (k1 : List Pair → Int → Int → Option (Int × (List Pair))) (x32 : List Pair) (kv35 : Int) (i36 : Int) : Option (Int × (List Pair)) :=
  bif (decide (i36 < ((x32.length : Int)))) then obind (ix x32 i36) fun x39 => obind (ix (setx x32 i36 ({ x39 with fA := kv35 })) i36) fun x43 => k1 (setx (setx x32 i36 ({ x39 with fA := kv35 })) i36 ({ x43 with fB := w64 (kv35 + 1) })) (w64 ((w64 (kv35 + 1)) + 1)) (w64 (i36 + 1)) else some (kv35, x32)
def d_laws_markPairS_L1 (fu : Nat)   : Nat → List Pair → Int → Int → Option (Int × (List Pair))
  | 0 => fun _ _ _ => none
  | n + 1 => d_laws_markPairS_L1_B fu  (d_laws_markPairS_L1 fu  n)
theorem d_laws_markPairS_L1_s (fu : Nat)   (n : Nat) : d_laws_markPairS_L1 fu  (n + 1) = d_laws_markPairS_L1_B fu  (d_laws_markPairS_L1 fu  n) := rfl

def d_laws_markPairS (fu : Nat) (a1 : List Pair) (kv5 : Int) : Option (Int × (List Pair)) :=
  d_laws_markPairS_L1 fu fu a1 kv5 0

def d_laws_markTypeS_L1_B (fu : Nat)   (k1 : List Typ → Int → Int → Option (Int × (List Typ))) (x72 : List Typ) (kv75 : Int) (i76 : Int) : Option (Int × (List Typ)) :=
  bif (decide (i76 < ((x72.length : Int)))) then obind (ix x72 i76) fun x79 => obind (ix (setx x72 i76 ({ x79 with fId := kv75 })) i76) fun x83 => obind (ix (setx (setx x72 i76 ({ x79 with fId := kv75 })) i76 ({ x83 with fW := w64 (kv75 + 1) })) i76) fun x87 => obind (ix (setx (setx (setx x72 i76 ({ x79 with fId := kv75 })) i76 ({ x83 with fW := w64 (kv75 + 1) })) i76 ({ x87 with fH := w64 ((w64 (kv75 + 1)) + 1) })) i76) fun x91 => obind (ix (setx (setx (setx (setx x72 i76 ({ x79 with fId := kv75 })) i76 ({ x83 with fW := w64 (kv75 + 1) })) i76 ({ x87 with fH := w64 ((w64 (kv75 + 1)) + 1) })) i76 ({ x91 with fD := w64 ((w64 ((w64 (kv75 + 1)) + 1)) + 1) })) i76) fun x95 => obind (ix (setx (setx (setx (setx (setx x72 i76 ({ x79 with fId := kv75 })) i76 ({ x83 with fW := w64 (kv75 + 1) })) i76 ({ x87 with fH := w64 ((w64 (kv75 + 1)) + 1) })) i76 ({ x91 with fD := w64 ((w64 ((w64 (kv75 + 1)) + 1)) + 1) })) i76 ({ x95 with fTare := w64 ((w64 ((w64 ((w64 (kv75 + 1)) + 1)) + 1)) + 1) })) i76) fun x99 => obind (ix (setx (setx (setx (setx (setx (setx x72 i76 ({ x79 with fId := kv75 })) i76 ({ x83 with fW := w64 (kv75 + 1) })) i76 ({ x87 with fH := w64 ((w64 (kv75 + 1)) + 1) })) i76 ({ x91 with fD := w64 ((w64 ((w64 (kv75 + 1)) + 1)) + 1) })) i76 ({ x95 with fTare := w64 ((w64 ((w64 ((w64 (kv75 + 1)) + 1)) + 1)) + 1) })) i76 ({ x99 with fGram := w64 ((w64 ((w64 ((w64 ((w64 (kv75 + 1)) + 1)) + 1)) + 1)) + 1) })) i76) fun x103 => k1 (setx (setx (setx (setx (setx (setx (setx x72 i76 ({ x79 with fId := kv75 })) i76 ({ x83 with fW := w64 (kv75 + 1) })) i76 ({ x87 with fH := w64 ((w64 (kv75 + 1)) + 1) })) i76 ({ x91 with fD := w64 ((w64 ((w64 (kv75 + 1)) + 1)) + 1) })) i76 ({ x95 with fTare := w64 ((w64 ((w64 ((w64 (kv75 + 1)) + 1)) + 1)) + 1) })) i76 ({ x99 with fGram := w64 ((w64 ((w64 ((w64 ((w64 (kv75 + 1)) + 1)) + 1)) + 1)) + 1) })) i76 ({ x103 with fCost := w64 ((w64 ((w64 ((w64 ((w64 ((w64 (kv75 + 1)) + 1)) + 1)) + 1)) + 1)) + 1) })) (w64 ((w64 ((w64 ((w64 ((w64 ((w64 ((w64 (kv75 + 1)) + 1)) + 1)) + 1)) + 1)) + 1)) + 1)) (w64 (i76 + 1)) else some (kv75, x72)
def d_laws_markTypeS_L1 (fu : Nat)   : Nat → List Typ → Int → Int → Option (Int × (List Typ))
  | 0 => fun _ _ _ => none
  | n + 1 => d_laws_markTypeS_L1_B fu  (d_laws_markTypeS_L1 fu  n)
theorem d_laws_markTypeS_L1_s (fu : Nat)   (n : Nat) : d_laws_markTypeS_L1 fu  (n + 1) = d_laws_markTypeS_L1_B fu  (d_laws_markTypeS_L1 fu  n) := rfl

def d_laws_markTypeS (fu : Nat) (a1 : List Typ) (kv5 : Int) : Option (Int × (List Typ)) :=
  d_laws_markTypeS_L1 fu fu a1 kv5 0

def d_laws_markItemS_L1_B (fu : Nat)   (k1 : List Item → Int → Int → Option (Int × (List Item))) (x72 : List Item) (kv75 : Int) (i76 : Int) : Option (Int × (List Item)) :=
  bif (decide (i76 < ((x72.length : Int)))) then obind (ix x72 i76) fun x79 => obind (ix (setx x72 i76 ({ x79 with fId := kv75 })) i76) fun x83 => obind (ix (setx (setx x72 i76 ({ x79 with fId := kv75 })) i76 ({ x83 with fW := w64 (kv75 + 1) })) i76) fun x87 => obind (ix (setx (setx (setx x72 i76 ({ x79 with fId := kv75 })) i76 ({ x83 with fW := w64 (kv75 + 1) })) i76 ({ x87 with fH := w64 ((w64 (kv75 + 1)) + 1) })) i76) fun x91 => obind (ix (setx (setx (setx (setx x72 i76 ({ x79 with fId := kv75 })) i76 ({ x83 with fW := w64 (kv75 + 1) })) i76 ({ x87 with fH := w64 ((w64 (kv75 + 1)) + 1) })) i76 ({ x91 with fD := w64 ((w64 ((w64 (kv75 + 1)) + 1)) + 1) })) i76) fun x95 => obind (ix (setx (setx (setx (setx (setx x72 i76 ({ x79 with fId := kv75 })) i76 ({ x83 with fW := w64 (kv75 + 1) })) i76 ({ x87 with fH := w64 ((w64 (kv75 + 1)) + 1) })) i76 ({ x91 with fD := w64 ((w64 ((w64 (kv75 + 1)) + 1)) + 1) })) i76 ({ x95 with fGram := w64 ((w64 ((w64 ((w64 (kv75 + 1)) + 1)) + 1)) + 1) })) i76) fun x99 => obind (ix (setx (setx (setx (setx (setx (setx x72 i76 ({ x79 with fId := kv75 })) i76 ({ x83 with fW := w64 (kv75 + 1) })) i76 ({ x87 with fH := w64 ((w64 (kv75 + 1)) + 1) })) i76 ({ x91 with fD := w64 ((w64 ((w64 (kv75 + 1)) + 1)) + 1) })) i76 ({ x95 with fGram := w64 ((w64 ((w64 ((w64 (kv75 + 1)) + 1)) + 1)) + 1) })) i76 ({ x99 with fClass := w64 ((w64 ((w64 ((w64 ((w64 (kv75 + 1)) + 1)) + 1)) + 1)) + 1) })) i76) fun x103 => k1 (setx (setx (setx (setx (setx (setx (setx x72 i76 ({ x79 with fId := kv75 })) i76 ({ x83 with fW := w64 (kv75 + 1) })) i76 ({ x87 with fH := w64 ((w64 (kv75 + 1)) + 1) })) i76 ({ x91 with fD := w64 ((w64 ((w64 (kv75 + 1)) + 1)) + 1) })) i76 ({ x95 with fGram := w64 ((w64 ((w64 ((w64 (kv75 + 1)) + 1)) + 1)) + 1) })) i76 ({ x99 with fClass := w64 ((w64 ((w64 ((w64 ((w64 (kv75 + 1)) + 1)) + 1)) + 1)) + 1) })) i76 ({ x103 with fCount := w64 ((w64 ((w64 ((w64 ((w64 ((w64 (kv75 + 1)) + 1)) + 1)) + 1)) + 1)) + 1) })) (w64 ((w64 ((w64 ((w64 ((w64 ((w64 ((w64 (kv75 + 1)) + 1)) + 1)) + 1)) + 1)) + 1)) + 1)) (w64 (i76 + 1)) else some (kv75, x72)
def d_laws_markItemS_L1 (fu : Nat)   : Nat → List Item → Int → Int → Option (Int × (List Item))
  | 0 => fun _ _ _ => none
  | n + 1 => d_laws_markItemS_L1_B fu  (d_laws_markItemS_L1 fu  n)
theorem d_laws_markItemS_L1_s (fu : Nat)   (n : Nat) : d_laws_markItemS_L1 fu  (n + 1) = d_laws_markItemS_L1_B fu  (d_laws_markItemS_L1 fu  n) := rfl

def d_laws_markItemS (fu : Nat) (a1 : List Item) (kv5 : Int) : Option (Int × (List Item)) :=
  d_laws_markItemS_L1 fu fu a1 kv5 0

def d_laws_markRequest (fu : Nat) (a1 : Request) (kv5 : Int) : Option (Int × Request) :=
  obind (d_laws_markPairS fu a1.fPairs kv5) fun x18 => obind (d_laws_markTypeS fu a1.fTypes x18.1) fun x25 => obind (d_laws_markItemS fu a1.fItems x25.1) fun x32 => some (x32.1, (⟨a1.fWay, a1.fPallet, a1.fClasses, x18.2, x25.2, a1.fMaster, x32.2⟩ : Request))

def d_laws_markIntS_L1_B (fu : Nat)   (k1 : List Int → Int → Int → Option (Int × (List Int))) (x24 : List Int) (kv27 : Int) (i28 : Int) : Option (Int × (List Int)) :=
  bif (decide (i28 < ((x24.length : Int)))) then obind (ix x24 i28) fun x31 => k1 (setx x24 i28 kv27) (w64 (kv27 + 1)) (w64 (i28 + 1)) else some (kv27, x24)
def d_laws_markIntS_L1 (fu : Nat)   : Nat → List Int → Int → Int → Option (Int × (List Int))
  | 0 => fun _ _ _ => none
  | n + 1 => d_laws_markIntS_L1_B fu  (d_laws_markIntS_L1 fu  n)
theorem d_laws_markIntS_L1_s (fu : Nat)   (n : Nat) : d_laws_markIntS_L1 fu  (n + 1) = d_laws_markIntS_L1_B fu  (d_laws_markIntS_L1 fu  n) := rfl

def d_laws_markIntS (fu : Nat) (a1 : List Int) (kv5 : Int) : Option (Int × (List Int)) :=
  d_laws_markIntS_L1 fu fu a1 kv5 0

def d_laws_markCartonS_L1_B (fu : Nat)   (k1 : List Carton → Int → Int → Option (Int × (List Carton))) (x153 : List Carton) (kv157 : Int) (i158 : Int) : Option (Int × (List Carton)) :=
  bif (decide (i158 < ((x153.length : Int)))) then obind (ix x153 i158) fun x161 => obind (ix (setx x153 i158 ((⟨kv157, x161.fGroup, x161.fUnits⟩ : Carton))) i158) fun x182 => obind (ix (setx (setx x153 i158 ((⟨kv157, x161.fGroup, x161.fUnits⟩ : Carton))) i158 ((⟨x182.fType, w64 (kv157 + 1), x182.fUnits⟩ : Carton))) i158) fun x203 => obind (d_laws_markIntS fu x203.fUnits (w64 ((w64 (kv157 + 1)) + 1))) fun x220 => k1 (setx (setx (setx x153 i158 ((⟨kv157, x161.fGroup, x161.fUnits⟩ : Carton))) i158 ((⟨x182.fType, w64 (kv157 + 1), x182.fUnits⟩ : Carton))) i158 ((⟨x203.fType, x203.fGroup, x220.2⟩ : Carton))) x220.1 (w64 (i158 + 1)) else some (kv157, x153)
def d_laws_markCartonS_L1 (fu : Nat)   : Nat → List Carton → Int → Int → Option (Int × (List Carton))
  | 0 => fun _ _ _ => none
  | n + 1 => d_laws_markCartonS_L1_B fu  (d_laws_markCartonS_L1 fu  n)
theorem d_laws_markCartonS_L1_s (fu : Nat)   (n : Nat) : d_laws_markCartonS_L1 fu  (n + 1) = d_laws_markCartonS_L1_B fu  (d_laws_markCartonS_L1 fu  n) := rfl

def d_laws_markCartonS (fu : Nat) (a1 : List Carton) (kv5 : Int) : Option (Int × (List Carton)) :=
  d_laws_markCartonS_L1 fu fu a1 kv5 0

def d_laws_heldIntS_L1_B (fu : Nat)  (a1 : List Int) (k1 : Int → Int → Option (Int)) (kv19 : Int) (i20 : Int) : Option (Int) :=
  bif (decide (i20 < ((a1.length : Int)))) then obind (ix a1 i20) fun x23 => bif (x23 != kv19) then some ((-1)) else k1 (w64 (kv19 + 1)) (w64 (i20 + 1)) else some (kv19)
def d_laws_heldIntS_L1 (fu : Nat)  (a1 : List Int) : Nat → Int → Int → Option (Int)
  | 0 => fun _ _ => none
  | n + 1 => d_laws_heldIntS_L1_B fu a1 (d_laws_heldIntS_L1 fu a1 n)
theorem d_laws_heldIntS_L1_s (fu : Nat)  (a1 : List Int) (n : Nat) : d_laws_heldIntS_L1 fu a1 (n + 1) = d_laws_heldIntS_L1_B fu a1 (d_laws_heldIntS_L1 fu a1 n) := rfl

def d_laws_heldIntS (fu : Nat) (a1 : List Int) (kv5 : Int) : Option (Int) :=
  d_laws_heldIntS_L1 fu a1 fu kv5 0

def d_laws_FnExactFills_J1 (fu : Nat) (aR1 : Request) (aList5 : List Carton) (x58 : (List Int)) (x99 : (List Int))  : Option (Bool) :=
  obind (d_laws_markIntS fu x99 1) fun x187 => obind (d_laws_heldIntS fu x187.2 1) fun x194 => bif (decide (x194 < 0)) then some (false) else bif (x194 != x187.1) then some (false) else obind (d_laws_toRequest fu aR1) fun x200 => obind (d_laws_toCartonS fu aList5) fun x218 => obind (d_impl_Fills fu x200 x218) fun x227 => obind (d_laws_eqIntS fu x227 x58) fun x236 => bif (!x236) then some (false) else obind (d_laws_heldIntS fu x187.2 1) fun x241 => bif (decide (x241 < 0)) then some (false) else bif (x241 != x187.1) then some (false) else some (true)

def d_laws_FnExactFills (fu : Nat) (aR1 : Request) (aList5 : List Carton) : Option (Bool) :=
  obind (d_laws_szRequest fu aR1 1048576) fun x21 => bif (decide (x21 < 0)) then some (true) else obind (d_laws_szCartonS fu aList5 x21) fun x26 => bif (decide (x26 < 0)) then some (true) else obind (d_laws_toRequest fu aR1) fun x31 => obind (d_laws_toCartonS fu aList5) fun x49 => obind (d_spec_Fills fu x31 x49) fun x58 => obind (d_laws_toRequest fu aR1) fun x67 => obind (d_laws_toCartonS fu aList5) fun x90 => obind (d_impl_Fills fu x67 x90) fun x99 => obind (d_laws_eqIntS fu x99 x58) fun x108 => bif (!x108) then some (false) else obind (d_laws_toRequest fu aR1) fun x114 => obind (d_laws_eqRequest fu x67 x114) fun x133 => bif (!x133) then some (false) else obind (d_laws_toCartonS fu aList5) fun x138 => obind (d_laws_eqCartonS fu x90 x138) fun x147 => bif (!x147) then some (false) else obind (d_laws_markRequest fu x67 1) fun x153 => obind (d_laws_markCartonS fu x90 x153.1) fun x173 => bif (decide (x173.1 < 0)) then some (false) else obind (d_laws_eqIntS fu x99 x58) fun x248 => bif (!x248) then some (false) else d_laws_FnExactFills_J1 fu aR1 aList5 x58 x99

theorem c_laws_eqCarton (fu : Nat) {w0 : World} (a1 : Carton) (b5 : Carton) {cs2 : List Value} {F3 : List Nat} (hp4 : rd w0 F3 cs2 a1) {cs6 : List Value} {F7 : List Nat} (hp8 : rd w0 F7 cs6 b5) {r : Bool}
    (h : d_laws_eqCarton fu a1 b5 = some r) :
    Calls Tryz.prog 22 #[.agg cs2.toArray, .agg cs6.toArray] w0 fun e w => e = .returned (.bool (r)) ∧ Ext [] w0 w := by
  refine enter (vs := [_, _]) Tryz.func22 rfl Tryz.ntmps22 rfl fun a hK => ?_
  have hM := St.start w0
  obtain ⟨v9, _, rfl, rfl, hf10⟩ := hp4
  obtain ⟨v11, _, rfl, rfl, hf12⟩ := hp8
  unfold d_laws_eqCarton at h
  refine wp_seq ?_
  refine wp_region_lit ?_
  refine s_box (cs := [.int .i64 (a1.fType), .int .i64 (a1.fGroup), v9]) hM hK rfl rfl rfl rfl rfl rfl fun b13 w15 a hK hM hE hb14 => ?_
  refine s_box (cs := [.int .i64 (b5.fType), .int .i64 (b5.fGroup), v11]) hM hK rfl rfl rfl rfl rfl rfl fun b16 w18 a hK hM hE hb17 => ?_
  refine s1 hK rfl rfl rfl rfl fun a hK => ?_
  refine wpList_nil (nm_then ?_)
  refine wp_seq ?_
  refine wp_seq ?_
  refine wp_region_lit ?_
  refine s_val hK rfl rfl rfl (r_fa fa42_0 hK rfl rfl) fun a hK => ?_
  refine s_val hK rfl rfl rfl (r_ldb t13 hM 1 hb14 0 hK rfl rfl rfl rfl rfl) fun a hK => ?_
  refine s_val hK rfl rfl rfl (r_fa fa42_0 hK rfl rfl) fun a hK => ?_
  refine s_val hK rfl rfl rfl (r_ldb t13 hM 0 hb17 0 hK rfl rfl rfl rfl rfl) fun a hK => ?_
  refine s1 hK rfl rfl rfl rfl fun a hK => ?_
  refine wpList_nil (nm_then ?_)
  refine c_cond (b := a1.fType != b5.fType) hK rfl (fun hb19 => ?_) (fun hb19 => ?_)
  · have h := bif_t hb19 h
    refine wp_seq ?_
    refine wp_region_lit ?_
    refine s1 hK rfl rfl rfl rfl fun a hK => ?_
    refine wpList_nil (nm_then ?_)
    refine wp_ret (rt_then ?_)
    have h := Option.some.inj h
    subst h
    exact finR1 hK rfl (RV.tmp hK rfl) ⟨rfl, hM.ext⟩
  · have h := bif_f hb19 h
    refine wp_skip (nm_then ?_)
    refine wp_seq ?_
    refine wp_seq ?_
    refine wp_region_lit ?_
    refine s_val hK rfl rfl rfl (r_fa fa42_1 hK rfl rfl) fun a hK => ?_
    refine s_val hK rfl rfl rfl (r_ldb t13 hM 1 hb14 1 hK rfl rfl rfl rfl rfl) fun a hK => ?_
    refine s_val hK rfl rfl rfl (r_fa fa42_1 hK rfl rfl) fun a hK => ?_
    refine s_val hK rfl rfl rfl (r_ldb t13 hM 0 hb17 1 hK rfl rfl rfl rfl rfl) fun a hK => ?_
    refine s1 hK rfl rfl rfl rfl fun a hK => ?_
    refine wpList_nil (nm_then ?_)
    refine c_cond (b := a1.fGroup != b5.fGroup) hK rfl (fun hb20 => ?_) (fun hb20 => ?_)
    · have h := bif_t hb20 h
      refine wp_seq ?_
      refine wp_region_lit ?_
      refine s1 hK rfl rfl rfl rfl fun a hK => ?_
      refine wpList_nil (nm_then ?_)
      refine wp_ret (rt_then ?_)
      have h := Option.some.inj h
      subst h
      exact finR1 hK rfl (RV.tmp hK rfl) ⟨rfl, hM.ext⟩
    · have h := bif_f hb20 h
      refine wp_skip (nm_then ?_)
      refine wp_seq ?_
      refine wp_seq ?_
      refine wp_region_lit ?_
      refine s_val hK rfl rfl rfl (r_fa fa42_2 hK rfl rfl) fun a hK => ?_
      refine s_val hK rfl rfl rfl (r_ldb t129 hM 1 hb14 2 hK rfl rfl rfl rfl rfl) fun a hK => ?_
      refine s_val hK rfl rfl rfl (r_fa fa42_2 hK rfl rfl) fun a hK => ?_
      refine s_val hK rfl rfl rfl (r_ldb t129 hM 0 hb17 2 hK rfl rfl rfl rfl rfl) fun a hK => ?_
      obtain ⟨x21, hx22, h⟩ := obind_some h
      refine s_call hK Tryz.call43 rfl rfl rfl rfl rfl (c_laws_eqIntS fu _ _ (Enc.rd_agr hf10 (hM.a00 (Enc.rd_lt hf10))) (Enc.rd_agr hf12 (hM.a00 (Enc.rd_lt hf12))) hx22) fun e23 w24 hR => ?_
      obtain ⟨rfl, hE⟩ := hR
      refine ⟨_, rfl, fun a hK => ?_⟩
      have hM := hM.step hE
      refine s1 hK rfl rfl rfl rfl fun a hK => ?_
      refine wpList_nil (nm_then ?_)
      refine c_cond (b := !x21) hK rfl (fun hb25 => ?_) (fun hb25 => ?_)
      · have h := bif_t hb25 h
        refine wp_seq ?_
        refine wp_region_lit ?_
        refine s1 hK rfl rfl rfl rfl fun a hK => ?_
        refine wpList_nil (nm_then ?_)
        refine wp_ret (rt_then ?_)
        have h := Option.some.inj h
        subst h
        exact finR1 hK rfl (RV.tmp hK rfl) ⟨rfl, hM.ext⟩
      · have h := bif_f hb25 h
        refine wp_skip (nm_then ?_)
        refine wp_seq ?_
        refine wp_region_lit ?_
        refine s1 hK rfl rfl rfl rfl fun a hK => ?_
        refine wpList_nil (nm_then ?_)
        refine wp_ret ?_
        have h := Option.some.inj h
        subst h
        exact finR1 hK rfl (RV.tmp hK rfl) ⟨rfl, hM.ext⟩

theorem c_laws_eqCartonS (fu : Nat) {w0 : World} (a1 : List Carton) (b5 : List Carton) {v2 : Value} {F3 : List Nat} (hp4 : rd w0 F3 [v2] a1) {v6 : Value} {F7 : List Nat} (hp8 : rd w0 F7 [v6] b5) {r : Bool}
    (h : d_laws_eqCartonS fu a1 b5 = some r) :
    Calls Tryz.prog 44 #[v2, v6] w0 fun e w => e = .returned (.bool (r)) ∧ Ext [] w0 w := by
  refine enter (vs := [_, _]) Tryz.func44 rfl Tryz.ntmps44 rfl fun a hK => ?_
  have hM := St.start w0
  unfold d_laws_eqCartonS at h
  refine wp_seq ?_
  refine wp_region_lit ?_
  refine s1 hK rfl rfl rfl rfl fun a hK => ?_
  refine wpList_nil (nm_then ?_)
  refine wp_seq ?_
  refine wp_seq ?_
  refine wp_region_lit ?_
  refine s1 hK rfl rfl rfl rfl fun a hK => ?_
  refine s_val hK rfl rfl rfl (r_len (α := Carton) hp4 hK Tryz.underlying63 rfl rfl) fun a hK => ?_
  refine s1 hK rfl rfl rfl rfl fun a hK => ?_
  refine s_val hK rfl rfl rfl (r_len (α := Carton) hp8 hK Tryz.underlying63 rfl rfl) fun a hK => ?_
  refine s1 hK rfl rfl rfl rfl fun a hK => ?_
  refine wpList_nil (nm_then ?_)
  refine c_cond (b := ((a1.length : Int)) != ((b5.length : Int))) hK rfl (fun hb9 => ?_) (fun hb9 => ?_)
  · have h := bif_t hb9 h
    refine wp_seq ?_
    refine wp_region_lit ?_
    refine s1 hK rfl rfl rfl rfl fun a hK => ?_
    refine wpList_nil (nm_then ?_)
    refine wp_ret (rt_then ?_)
    have h := Option.some.inj h
    subst h
    exact finR1 hK rfl (RV.tmp hK rfl) ⟨rfl, hM.ext⟩
  · have h := bif_f hb9 h
    refine wp_skip (nm_then ?_)
    refine wp_seq ?_
    refine wp_seq ?_
    refine wp_region_lit ?_
    refine s1 hK rfl rfl rfl rfl fun a hK => ?_
    refine wpList_nil (nm_then ?_)
    refine wp_block ?_
    refine c_loop (fun n a w => ∃ (i68 : Int), K 27 [(0, v2), (1, v6), (5, .int .i64 (i68))] a ∧ St [] w0 w [] ∧ d_laws_eqCartonS_L1 fu a1 b5 n i68 = some r) ?_ ?_ fu _ _ ?_
    · rintro a w ⟨_, _, _, h⟩
      cases (show none = some _ from h)
    · rintro m69 a w67 ⟨i68, hK, hM, h⟩
      rw [d_laws_eqCartonS_L1_s] at h
      unfold d_laws_eqCartonS_L1_B at h
      refine wp_seq ?_
      refine wp_seq ?_
      refine wp_region_lit ?_
      iterate 2 (refine s1 hK rfl rfl rfl rfl fun a hK => ?_)
      refine s_val hK rfl rfl rfl (r_len (α := Carton) hp4 hK Tryz.underlying63 rfl rfl) fun a hK => ?_
      refine s1 hK rfl rfl rfl rfl fun a hK => ?_
      refine wpList_nil (nm_then ?_)
      refine c_cond (b := decide (i68 < ((a1.length : Int)))) hK rfl (fun hb70 => ?_) (fun hb70 => ?_)
      · have h := bif_t hb70 h
        refine wp_skip (nm_then ?_)
        refine wp_seq ?_
        refine wp_block ?_
        refine wp_seq ?_
        refine d_go [] mixo hM rfl fun w71 hMd => ?_
        have hM := hMd
        have hS := Ext.refl ([] : List Nat) w71
        refine d_pure hK 0 rfl (by kernel_rfl) (by kernel_rfl) (by kernel_rfl) rfl rfl rfl hS (fun _ _ _ h => h) rfl fun a hK => ?_
        refine d_pure hK 1 rfl (by kernel_rfl) (by kernel_rfl) (by kernel_rfl) rfl rfl rfl hS (fun _ _ _ h => h) rfl fun a hK => ?_
        obtain ⟨x72, hx73, h⟩ := obind_some h
        refine d_take hK 2 rfl (by kernel_rfl) (by kernel_rfl) (by kernel_rfl) rfl rfl rfl hS (fun _ _ _ h => h) (fun w hS => r_ixa hp4 hx73 hK ts63 rfl rfl rfl) fun a hK => ?_
        obtain ⟨G74, cs75, hG76, hr77, hp78, hb79⟩ := rd_get hp4 (ix_some hx73).2.2
        obtain ⟨v80, _, rfl, rfl, hf81⟩ := hr77
        refine d_take hK 3 rfl (by kernel_rfl) (by kernel_rfl) (by kernel_rfl) rfl rfl rfl hS (fun _ _ _ h => h) (fun w hS => r_ldA ta42 (hp78.agr ((hMd.step hS).a00 (Enc.rd_lt hp4)) hb79) rfl hK rfl rfl) fun a hK => ?_
        refine d_pure hK 4 rfl (by kernel_rfl) (by kernel_rfl) (by kernel_rfl) rfl rfl rfl hS (fun _ _ _ h => h) rfl fun a hK => ?_
        refine d_pure hK 5 rfl (by kernel_rfl) (by kernel_rfl) (by kernel_rfl) rfl rfl rfl hS (fun _ _ _ h => h) rfl fun a hK => ?_
        obtain ⟨x82, hx83, h⟩ := obind_some h
        refine d_take hK 6 rfl (by kernel_rfl) (by kernel_rfl) (by kernel_rfl) rfl rfl rfl hS (fun _ _ _ h => h) (fun w hS => r_ixa hp8 hx83 hK ts63 rfl rfl rfl) fun a hK => ?_
        obtain ⟨G84, cs85, hG86, hr87, hp88, hb89⟩ := rd_get hp8 (ix_some hx83).2.2
        obtain ⟨v90, _, rfl, rfl, hf91⟩ := hr87
        refine d_take hK 7 rfl (by kernel_rfl) (by kernel_rfl) (by kernel_rfl) rfl rfl rfl hS (fun _ _ _ h => h) (fun w hS => r_ldA ta42 (hp88.agr ((hMd.step hS).a00 (Enc.rd_lt hp8)) hb89) rfl hK rfl rfl) fun a hK => ?_
        refine d_one 8 (by kernel_rfl) rfl ?_
        obtain ⟨x92, hx93, h⟩ := obind_some h
        refine s_call hK Tryz.call22 rfl rfl rfl rfl rfl (c_laws_eqCarton fu _ _ (show rd _ _ [.int .i64 (x72.fType), .int .i64 (x72.fGroup), v80] (x72 : Carton) from ⟨_, _, rfl, rfl, (Enc.rd_agr hf81 (hM.a00 (Enc.rd_lt hf81)))⟩) (show rd _ _ [.int .i64 (x82.fType), .int .i64 (x82.fGroup), v90] (x82 : Carton) from ⟨_, _, rfl, rfl, (Enc.rd_agr hf91 (hM.a00 (Enc.rd_lt hf91)))⟩) hx93) fun e94 w95 hR => ?_
        obtain ⟨rfl, hE⟩ := hR
        refine ⟨_, rfl, fun a hK => ?_⟩
        have hM := hM.step hE
        have hS := hS.trans hE (by simp)
        refine wpList_nil ⟨hS, ?_⟩
        refine d_pure hK 9 rfl (by kernel_rfl) (by kernel_rfl) (by kernel_rfl) rfl rfl rfl hS (fun _ _ _ h => h) rfl fun a hK => ?_
        refine d_done (by kernel_rfl) ?_
        refine (nm_then ?_)
        refine c_cond (b := !x92) hK rfl (fun hb96 => ?_) (fun hb96 => ?_)
        · have h := bif_t hb96 h
          refine wp_seq ?_
          refine wp_region_lit ?_
          refine s1 hK rfl rfl rfl rfl fun a hK => ?_
          refine wpList_nil (nm_then ?_)
          refine wp_ret (rt_block (rt_then (rt_then (rt_block (rt_then ?_)))))
          have h := Option.some.inj h
          subst h
          exact finR1 hK rfl (RV.tmp hK rfl) ⟨rfl, hM.ext⟩
        · have h := bif_f hb96 h
          refine wp_skip (nm_block (nm_then ?_))
          refine wp_region_lit ?_
          iterate 3 (refine s1 hK rfl rfl rfl rfl fun a hK => ?_)
          refine wpList_nil (nm_then ?_)
          exact ⟨w64 (i68 + 1), hK.keep [0, 1, 5] rfl, hM.sel [] rfl (by decide), h⟩
      · have h := bif_f hb70 h
        refine wp_exit (ex_then (ex_then (ex_same (nm_then ?_))))
        refine wp_seq ?_
        refine wp_region_lit ?_
        refine s1 hK rfl rfl rfl rfl fun a hK => ?_
        refine wpList_nil (nm_then ?_)
        refine wp_ret ?_
        have h := Option.some.inj h
        subst h
        exact finR1 hK rfl (RV.tmp hK rfl) ⟨rfl, hM.ext⟩
    · exact ⟨0, hK.keep [0, 1, 5] rfl, hM.sel [] rfl (by decide), h⟩

theorem c_laws_markPairS (fu : Nat) {w0 : World} (a1 : List Pair) (kv5 : Int) {v2 : Value} {F3 : List Nat} (hp4 : ow w0 F3 [v2] a1) {r : Int × (List Pair)}
    (h : d_laws_markPairS fu a1 kv5 = some r) :
    Calls Tryz.prog 85 #[v2, .int .i64 (kv5)] w0 fun e w => ∃ (H0 : List Nat), e = .returned (.int .i64 (r.1)) ∧ Ext F3 w0 w ∧ (∀ b ∈ H0, b ∈ F3 ∨ w0.heap.size ≤ b) ∧ ow w H0 [v2] r.2 := by
  refine enter (vs := [_, _]) Tryz.func85 rfl Tryz.ntmps85 rfl fun a hK => ?_
  have hM := St.start1 w0 (Enc.rd_lt (Enc.ow_rd hp4)) (Enc.ow_nd hp4)
  unfold d_laws_markPairS at h
  refine wp_seq ?_
  refine wp_region_lit ?_
  refine s1 hK rfl rfl rfl rfl fun a hK => ?_
  refine wpList_nil (nm_then ?_)
  refine wp_seq ?_
  refine wp_seq ?_
  refine wp_region_lit ?_
  refine s1 hK rfl rfl rfl rfl fun a hK => ?_
  refine wpList_nil (nm_then ?_)
  refine wp_block ?_
  refine c_loop (fun n a w => ∃ (x32 : List Pair) (u33 : World) (kv35 : Int) (i36 : Int), K 27 [(0, v2), (1, .int .i64 (kv35)), (5, .int .i64 (i36))] a ∧ St F3 w0 w [(F3, u33)] ∧ ow u33 F3 [v2] x32 ∧ d_laws_markPairS_L1 fu  n x32 kv35 i36 = some r) ?_ ?_ fu _ _ ?_
  · rintro a w ⟨_, _, _, _, _, _, _, h⟩
    cases (show none = some _ from h)
  · rintro m37 a w31 ⟨x32, u33, kv35, i36, hK, hM, hf34, h⟩
    rw [d_laws_markPairS_L1_s] at h
    unfold d_laws_markPairS_L1_B at h
    refine wp_seq ?_
    refine wp_seq ?_
    refine wp_region_lit ?_
    iterate 2 (refine s1 hK rfl rfl rfl rfl fun a hK => ?_)
    refine s_val hK rfl rfl rfl (r_len (α := Pair) (Enc.ow_rd hf34) hK Tryz.underlying36 rfl rfl) fun a hK => ?_
    refine s1 hK rfl rfl rfl rfl fun a hK => ?_
    refine wpList_nil (nm_then ?_)
    refine c_cond (b := decide (i36 < ((x32.length : Int)))) hK rfl (fun hb38 => ?_) (fun hb38 => ?_)
    · have h := bif_t hb38 h
      refine wp_skip (nm_then ?_)
      refine wp_seq ?_
      refine wp_block ?_
      refine wp_seq ?_
      refine wp_region_lit ?_
      iterate 3 (refine s1 hK rfl rfl rfl rfl fun a hK => ?_)
      obtain ⟨x39, hx40, h⟩ := obind_some h
      refine s_val hK rfl rfl rfl (r_ixa (Enc.ow_rd hf34) hx40 hK ts36 rfl rfl rfl) fun a hK => ?_
      refine s_val hK rfl rfl rfl (r_fa fa144_0 hK rfl rfl) fun a hK => ?_
      refine s_ste (α := Pair) (sz := 2) (y := { x39 with fA := kv35 }) Tryz.sizeOf3 hx40 hM 0 hf34 0 hK rfl rfl rfl rfl rfl rfl rfl rfl rfl rfl rfl rfl fun w41 a hK hE hM hf42 => ?_
      refine wpList_nil (nm_then ?_)
      refine wp_seq ?_
      refine wp_region_lit ?_
      iterate 3 (refine s1 hK rfl rfl rfl rfl fun a hK => ?_)
      refine wpList_nil (nm_then ?_)
      refine wp_seq ?_
      refine wp_region_lit ?_
      iterate 3 (refine s1 hK rfl rfl rfl rfl fun a hK => ?_)
      obtain ⟨x43, hx44, h⟩ := obind_some h
      refine s_val hK rfl rfl rfl (r_ixa (Enc.ow_rd hf42) hx44 hK ts36 rfl rfl rfl) fun a hK => ?_
      refine s_val hK rfl rfl rfl (r_fa fa144_1 hK rfl rfl) fun a hK => ?_
      refine s_ste (α := Pair) (sz := 2) (y := { x43 with fB := w64 (kv35 + 1) }) Tryz.sizeOf3 hx44 hM 0 hf42 1 hK rfl rfl rfl rfl rfl rfl rfl rfl rfl rfl rfl rfl fun w45 a hK hE hM hf46 => ?_
      refine wpList_nil (nm_then ?_)
      refine wp_region_lit ?_
      iterate 3 (refine s1 hK rfl rfl rfl rfl fun a hK => ?_)
      refine wpList_nil (nm_block (nm_then ?_))
      refine wp_region_lit ?_
      iterate 3 (refine s1 hK rfl rfl rfl rfl fun a hK => ?_)
      have hK := hK.keep [0, 1, 5] rfl
      refine wpList_nil (nm_then ?_)
      exact ⟨setx (setx x32 i36 ({ x39 with fA := kv35 })) i36 ({ x43 with fB := w64 (kv35 + 1) }), w45, w64 ((w64 (kv35 + 1)) + 1), w64 (i36 + 1), hK.keep [0, 1, 5] rfl, hM.sel [0] rfl (by decide), hf46, h⟩
    · have h := bif_f hb38 h
      refine wp_exit (ex_then (ex_then (ex_same (nm_then ?_))))
      refine wp_seq ?_
      refine wp_region_lit ?_
      iterate 2 (refine s1 hK rfl rfl rfl rfl fun a hK => ?_)
      refine wpList_nil (nm_then ?_)
      refine wp_ret ?_
      have h := Option.some.inj h
      subst h
      exact finR1 hK rfl (RV.tmp hK rfl) ⟨F3, rfl, hM.ext, (fun b hb => hM.lo b (mem_fps (i := 0) rfl hb)), (Enc.ow_agr hf34 (hM.a 0 rfl))⟩
  · exact ⟨a1, w0, kv5, 0, hK.keep [0, 1, 5] rfl, hM.sel [0] rfl (by decide), hp4, h⟩

theorem c_laws_markTypeS (fu : Nat) {w0 : World} (a1 : List Typ) (kv5 : Int) {v2 : Value} {F3 : List Nat} (hp4 : ow w0 F3 [v2] a1) {r : Int × (List Typ)}
    (h : d_laws_markTypeS fu a1 kv5 = some r) :
    Calls Tryz.prog 86 #[v2, .int .i64 (kv5)] w0 fun e w => ∃ (H0 : List Nat), e = .returned (.int .i64 (r.1)) ∧ Ext F3 w0 w ∧ (∀ b ∈ H0, b ∈ F3 ∨ w0.heap.size ≤ b) ∧ ow w H0 [v2] r.2 := by
  refine enter (vs := [_, _]) Tryz.func86 rfl Tryz.ntmps86 rfl fun a hK => ?_
  have hM := St.start1 w0 (Enc.rd_lt (Enc.ow_rd hp4)) (Enc.ow_nd hp4)
  unfold d_laws_markTypeS at h
  refine wp_seq ?_
  refine wp_region_lit ?_
  refine s1 hK rfl rfl rfl rfl fun a hK => ?_
  refine wpList_nil (nm_then ?_)
  refine wp_seq ?_
  refine wp_seq ?_
  refine wp_region_lit ?_
  refine s1 hK rfl rfl rfl rfl fun a hK => ?_
  refine wpList_nil (nm_then ?_)
  refine wp_block ?_
  refine c_loop (fun n a w => ∃ (x72 : List Typ) (u73 : World) (kv75 : Int) (i76 : Int), K 62 [(0, v2), (1, .int .i64 (kv75)), (5, .int .i64 (i76))] a ∧ St F3 w0 w [(F3, u73)] ∧ ow u73 F3 [v2] x72 ∧ d_laws_markTypeS_L1 fu  n x72 kv75 i76 = some r) ?_ ?_ fu _ _ ?_
  · rintro a w ⟨_, _, _, _, _, _, _, h⟩
    cases (show none = some _ from h)
  · rintro m77 a w71 ⟨x72, u73, kv75, i76, hK, hM, hf74, h⟩
    rw [d_laws_markTypeS_L1_s] at h
    unfold d_laws_markTypeS_L1_B at h
    refine wp_seq ?_
    refine wp_seq ?_
    refine wp_region_lit ?_
    iterate 2 (refine s1 hK rfl rfl rfl rfl fun a hK => ?_)
    refine s_val hK rfl rfl rfl (r_len (α := Typ) (Enc.ow_rd hf74) hK Tryz.underlying37 rfl rfl) fun a hK => ?_
    refine s1 hK rfl rfl rfl rfl fun a hK => ?_
    refine wpList_nil (nm_then ?_)
    refine c_cond (b := decide (i76 < ((x72.length : Int)))) hK rfl (fun hb78 => ?_) (fun hb78 => ?_)
    · have h := bif_t hb78 h
      refine wp_skip (nm_then ?_)
      refine wp_seq ?_
      refine wp_block ?_
      refine wp_seq ?_
      refine wp_region_lit ?_
      iterate 3 (refine s1 hK rfl rfl rfl rfl fun a hK => ?_)
      obtain ⟨x79, hx80, h⟩ := obind_some h
      refine s_val hK rfl rfl rfl (r_ixa (Enc.ow_rd hf74) hx80 hK ts37 rfl rfl rfl) fun a hK => ?_
      refine s_val hK rfl rfl rfl (r_fa fa92_0 hK rfl rfl) fun a hK => ?_
      refine s_ste (α := Typ) (sz := 7) (y := { x79 with fId := kv75 }) Tryz.sizeOf3 hx80 hM 0 hf74 0 hK rfl rfl rfl rfl rfl rfl rfl rfl rfl rfl rfl rfl fun w81 a hK hE hM hf82 => ?_
      refine wpList_nil (nm_then ?_)
      refine wp_seq ?_
      refine wp_region_lit ?_
      iterate 3 (refine s1 hK rfl rfl rfl rfl fun a hK => ?_)
      refine wpList_nil (nm_then ?_)
      refine wp_seq ?_
      refine wp_region_lit ?_
      iterate 3 (refine s1 hK rfl rfl rfl rfl fun a hK => ?_)
      obtain ⟨x83, hx84, h⟩ := obind_some h
      refine s_val hK rfl rfl rfl (r_ixa (Enc.ow_rd hf82) hx84 hK ts37 rfl rfl rfl) fun a hK => ?_
      refine s_val hK rfl rfl rfl (r_fa fa92_1 hK rfl rfl) fun a hK => ?_
      refine s_ste (α := Typ) (sz := 7) (y := { x83 with fW := w64 (kv75 + 1) }) Tryz.sizeOf3 hx84 hM 0 hf82 1 hK rfl rfl rfl rfl rfl rfl rfl rfl rfl rfl rfl rfl fun w85 a hK hE hM hf86 => ?_
      refine wpList_nil (nm_then ?_)
      refine wp_seq ?_
      refine wp_region_lit ?_
      iterate 3 (refine s1 hK rfl rfl rfl rfl fun a hK => ?_)
      refine wpList_nil (nm_then ?_)
      refine wp_seq ?_
      refine wp_region_lit ?_
      iterate 3 (refine s1 hK rfl rfl rfl rfl fun a hK => ?_)
      obtain ⟨x87, hx88, h⟩ := obind_some h
      refine s_val hK rfl rfl rfl (r_ixa (Enc.ow_rd hf86) hx88 hK ts37 rfl rfl rfl) fun a hK => ?_
      refine s_val hK rfl rfl rfl (r_fa fa92_2 hK rfl rfl) fun a hK => ?_
      refine s_ste (α := Typ) (sz := 7) (y := { x87 with fH := w64 ((w64 (kv75 + 1)) + 1) }) Tryz.sizeOf3 hx88 hM 0 hf86 2 hK rfl rfl rfl rfl rfl rfl rfl rfl rfl rfl rfl rfl fun w89 a hK hE hM hf90 => ?_
      have hK := hK.keep [0, 1, 5] rfl
      refine wpList_nil (nm_then ?_)
      refine wp_seq ?_
      refine wp_region_lit ?_
      iterate 3 (refine s1 hK rfl rfl rfl rfl fun a hK => ?_)
      refine wpList_nil (nm_then ?_)
      refine wp_seq ?_
      refine wp_region_lit ?_
      iterate 3 (refine s1 hK rfl rfl rfl rfl fun a hK => ?_)
      obtain ⟨x91, hx92, h⟩ := obind_some h
      refine s_val hK rfl rfl rfl (r_ixa (Enc.ow_rd hf90) hx92 hK ts37 rfl rfl rfl) fun a hK => ?_
      refine s_val hK rfl rfl rfl (r_fa fa92_3 hK rfl rfl) fun a hK => ?_
      refine s_ste (α := Typ) (sz := 7) (y := { x91 with fD := w64 ((w64 ((w64 (kv75 + 1)) + 1)) + 1) }) Tryz.sizeOf3 hx92 hM 0 hf90 3 hK rfl rfl rfl rfl rfl rfl rfl rfl rfl rfl rfl rfl fun w93 a hK hE hM hf94 => ?_
      refine wpList_nil (nm_then ?_)
      refine wp_seq ?_
      refine wp_region_lit ?_
      iterate 3 (refine s1 hK rfl rfl rfl rfl fun a hK => ?_)
      refine wpList_nil (nm_then ?_)
      refine wp_seq ?_
      refine wp_region_lit ?_
      iterate 3 (refine s1 hK rfl rfl rfl rfl fun a hK => ?_)
      obtain ⟨x95, hx96, h⟩ := obind_some h
      refine s_val hK rfl rfl rfl (r_ixa (Enc.ow_rd hf94) hx96 hK ts37 rfl rfl rfl) fun a hK => ?_
      refine s_val hK rfl rfl rfl (r_fa fa92_4 hK rfl rfl) fun a hK => ?_
      refine s_ste (α := Typ) (sz := 7) (y := { x95 with fTare := w64 ((w64 ((w64 ((w64 (kv75 + 1)) + 1)) + 1)) + 1) }) Tryz.sizeOf3 hx96 hM 0 hf94 4 hK rfl rfl rfl rfl rfl rfl rfl rfl rfl rfl rfl rfl fun w97 a hK hE hM hf98 => ?_
      refine wpList_nil (nm_then ?_)
      refine wp_seq ?_
      refine wp_region_lit ?_
      iterate 3 (refine s1 hK rfl rfl rfl rfl fun a hK => ?_)
      refine wpList_nil (nm_then ?_)
      refine wp_seq ?_
      refine wp_region_lit ?_
      iterate 3 (refine s1 hK rfl rfl rfl rfl fun a hK => ?_)
      obtain ⟨x99, hx100, h⟩ := obind_some h
      refine s_val hK rfl rfl rfl (r_ixa (Enc.ow_rd hf98) hx100 hK ts37 rfl rfl rfl) fun a hK => ?_
      refine s_val hK rfl rfl rfl (r_fa fa92_5 hK rfl rfl) fun a hK => ?_
      refine s_ste (α := Typ) (sz := 7) (y := { x99 with fGram := w64 ((w64 ((w64 ((w64 ((w64 (kv75 + 1)) + 1)) + 1)) + 1)) + 1) }) Tryz.sizeOf3 hx100 hM 0 hf98 5 hK rfl rfl rfl rfl rfl rfl rfl rfl rfl rfl rfl rfl fun w101 a hK hE hM hf102 => ?_
      have hK := hK.keep [0, 1, 5] rfl
      refine wpList_nil (nm_then ?_)
      refine wp_seq ?_
      refine wp_region_lit ?_
      iterate 3 (refine s1 hK rfl rfl rfl rfl fun a hK => ?_)
      refine wpList_nil (nm_then ?_)
      refine wp_seq ?_
      refine wp_region_lit ?_
      iterate 3 (refine s1 hK rfl rfl rfl rfl fun a hK => ?_)
      obtain ⟨x103, hx104, h⟩ := obind_some h
      refine s_val hK rfl rfl rfl (r_ixa (Enc.ow_rd hf102) hx104 hK ts37 rfl rfl rfl) fun a hK => ?_
      refine s_val hK rfl rfl rfl (r_fa fa92_6 hK rfl rfl) fun a hK => ?_
      refine s_ste (α := Typ) (sz := 7) (y := { x103 with fCost := w64 ((w64 ((w64 ((w64 ((w64 ((w64 (kv75 + 1)) + 1)) + 1)) + 1)) + 1)) + 1) }) Tryz.sizeOf3 hx104 hM 0 hf102 6 hK rfl rfl rfl rfl rfl rfl rfl rfl rfl rfl rfl rfl fun w105 a hK hE hM hf106 => ?_
      refine wpList_nil (nm_then ?_)
      refine wp_region_lit ?_
      iterate 3 (refine s1 hK rfl rfl rfl rfl fun a hK => ?_)
      refine wpList_nil (nm_block (nm_then ?_))
      refine wp_region_lit ?_
      iterate 3 (refine s1 hK rfl rfl rfl rfl fun a hK => ?_)
      refine wpList_nil (nm_then ?_)
      exact ⟨setx (setx (setx (setx (setx (setx (setx x72 i76 ({ x79 with fId := kv75 })) i76 ({ x83 with fW := w64 (kv75 + 1) })) i76 ({ x87 with fH := w64 ((w64 (kv75 + 1)) + 1) })) i76 ({ x91 with fD := w64 ((w64 ((w64 (kv75 + 1)) + 1)) + 1) })) i76 ({ x95 with fTare := w64 ((w64 ((w64 ((w64 (kv75 + 1)) + 1)) + 1)) + 1) })) i76 ({ x99 with fGram := w64 ((w64 ((w64 ((w64 ((w64 (kv75 + 1)) + 1)) + 1)) + 1)) + 1) })) i76 ({ x103 with fCost := w64 ((w64 ((w64 ((w64 ((w64 ((w64 (kv75 + 1)) + 1)) + 1)) + 1)) + 1)) + 1) }), w105, w64 ((w64 ((w64 ((w64 ((w64 ((w64 ((w64 (kv75 + 1)) + 1)) + 1)) + 1)) + 1)) + 1)) + 1), w64 (i76 + 1), hK.keep [0, 1, 5] rfl, hM.sel [0] rfl (by decide), hf106, h⟩
    · have h := bif_f hb78 h
      refine wp_exit (ex_then (ex_then (ex_same (nm_then ?_))))
      refine wp_seq ?_
      refine wp_region_lit ?_
      iterate 2 (refine s1 hK rfl rfl rfl rfl fun a hK => ?_)
      refine wpList_nil (nm_then ?_)
      refine wp_ret ?_
      have h := Option.some.inj h
      subst h
      exact finR1 hK rfl (RV.tmp hK rfl) ⟨F3, rfl, hM.ext, (fun b hb => hM.lo b (mem_fps (i := 0) rfl hb)), (Enc.ow_agr hf74 (hM.a 0 rfl))⟩
  · exact ⟨a1, w0, kv5, 0, hK.keep [0, 1, 5] rfl, hM.sel [0] rfl (by decide), hp4, h⟩

theorem c_laws_markItemS (fu : Nat) {w0 : World} (a1 : List Item) (kv5 : Int) {v2 : Value} {F3 : List Nat} (hp4 : ow w0 F3 [v2] a1) {r : Int × (List Item)}
    (h : d_laws_markItemS fu a1 kv5 = some r) :
    Calls Tryz.prog 87 #[v2, .int .i64 (kv5)] w0 fun e w => ∃ (H0 : List Nat), e = .returned (.int .i64 (r.1)) ∧ Ext F3 w0 w ∧ (∀ b ∈ H0, b ∈ F3 ∨ w0.heap.size ≤ b) ∧ ow w H0 [v2] r.2 := by
  refine enter (vs := [_, _]) Tryz.func87 rfl Tryz.ntmps87 rfl fun a hK => ?_
  have hM := St.start1 w0 (Enc.rd_lt (Enc.ow_rd hp4)) (Enc.ow_nd hp4)
  unfold d_laws_markItemS at h
  refine wp_seq ?_
  refine wp_region_lit ?_
  refine s1 hK rfl rfl rfl rfl fun a hK => ?_
  refine wpList_nil (nm_then ?_)
  refine wp_seq ?_
  refine wp_seq ?_
  refine wp_region_lit ?_
  refine s1 hK rfl rfl rfl rfl fun a hK => ?_
  refine wpList_nil (nm_then ?_)
  refine wp_block ?_
  refine c_loop (fun n a w => ∃ (x72 : List Item) (u73 : World) (kv75 : Int) (i76 : Int), K 62 [(0, v2), (1, .int .i64 (kv75)), (5, .int .i64 (i76))] a ∧ St F3 w0 w [(F3, u73)] ∧ ow u73 F3 [v2] x72 ∧ d_laws_markItemS_L1 fu  n x72 kv75 i76 = some r) ?_ ?_ fu _ _ ?_
  · rintro a w ⟨_, _, _, _, _, _, _, h⟩
    cases (show none = some _ from h)
  · rintro m77 a w71 ⟨x72, u73, kv75, i76, hK, hM, hf74, h⟩
    rw [d_laws_markItemS_L1_s] at h
    unfold d_laws_markItemS_L1_B at h
    refine wp_seq ?_
    refine wp_seq ?_
    refine wp_region_lit ?_
    iterate 2 (refine s1 hK rfl rfl rfl rfl fun a hK => ?_)
    refine s_val hK rfl rfl rfl (r_len (α := Item) (Enc.ow_rd hf74) hK Tryz.underlying38 rfl rfl) fun a hK => ?_
    refine s1 hK rfl rfl rfl rfl fun a hK => ?_
    refine wpList_nil (nm_then ?_)
    refine c_cond (b := decide (i76 < ((x72.length : Int)))) hK rfl (fun hb78 => ?_) (fun hb78 => ?_)
    · have h := bif_t hb78 h
      refine wp_skip (nm_then ?_)
      refine wp_seq ?_
      refine wp_block ?_
      refine wp_seq ?_
      refine wp_region_lit ?_
      iterate 3 (refine s1 hK rfl rfl rfl rfl fun a hK => ?_)
      obtain ⟨x79, hx80, h⟩ := obind_some h
      refine s_val hK rfl rfl rfl (r_ixa (Enc.ow_rd hf74) hx80 hK ts38 rfl rfl rfl) fun a hK => ?_
      refine s_val hK rfl rfl rfl (r_fa fa120_0 hK rfl rfl) fun a hK => ?_
      refine s_ste (α := Item) (sz := 7) (y := { x79 with fId := kv75 }) Tryz.sizeOf3 hx80 hM 0 hf74 0 hK rfl rfl rfl rfl rfl rfl rfl rfl rfl rfl rfl rfl fun w81 a hK hE hM hf82 => ?_
      refine wpList_nil (nm_then ?_)
      refine wp_seq ?_
      refine wp_region_lit ?_
      iterate 3 (refine s1 hK rfl rfl rfl rfl fun a hK => ?_)
      refine wpList_nil (nm_then ?_)
      refine wp_seq ?_
      refine wp_region_lit ?_
      iterate 3 (refine s1 hK rfl rfl rfl rfl fun a hK => ?_)
      obtain ⟨x83, hx84, h⟩ := obind_some h
      refine s_val hK rfl rfl rfl (r_ixa (Enc.ow_rd hf82) hx84 hK ts38 rfl rfl rfl) fun a hK => ?_
      refine s_val hK rfl rfl rfl (r_fa fa120_1 hK rfl rfl) fun a hK => ?_
      refine s_ste (α := Item) (sz := 7) (y := { x83 with fW := w64 (kv75 + 1) }) Tryz.sizeOf3 hx84 hM 0 hf82 1 hK rfl rfl rfl rfl rfl rfl rfl rfl rfl rfl rfl rfl fun w85 a hK hE hM hf86 => ?_
      refine wpList_nil (nm_then ?_)
      refine wp_seq ?_
      refine wp_region_lit ?_
      iterate 3 (refine s1 hK rfl rfl rfl rfl fun a hK => ?_)
      refine wpList_nil (nm_then ?_)
      refine wp_seq ?_
      refine wp_region_lit ?_
      iterate 3 (refine s1 hK rfl rfl rfl rfl fun a hK => ?_)
      obtain ⟨x87, hx88, h⟩ := obind_some h
      refine s_val hK rfl rfl rfl (r_ixa (Enc.ow_rd hf86) hx88 hK ts38 rfl rfl rfl) fun a hK => ?_
      refine s_val hK rfl rfl rfl (r_fa fa120_2 hK rfl rfl) fun a hK => ?_
      refine s_ste (α := Item) (sz := 7) (y := { x87 with fH := w64 ((w64 (kv75 + 1)) + 1) }) Tryz.sizeOf3 hx88 hM 0 hf86 2 hK rfl rfl rfl rfl rfl rfl rfl rfl rfl rfl rfl rfl fun w89 a hK hE hM hf90 => ?_
      have hK := hK.keep [0, 1, 5] rfl
      refine wpList_nil (nm_then ?_)
      refine wp_seq ?_
      refine wp_region_lit ?_
      iterate 3 (refine s1 hK rfl rfl rfl rfl fun a hK => ?_)
      refine wpList_nil (nm_then ?_)
      refine wp_seq ?_
      refine wp_region_lit ?_
      iterate 3 (refine s1 hK rfl rfl rfl rfl fun a hK => ?_)
      obtain ⟨x91, hx92, h⟩ := obind_some h
      refine s_val hK rfl rfl rfl (r_ixa (Enc.ow_rd hf90) hx92 hK ts38 rfl rfl rfl) fun a hK => ?_
      refine s_val hK rfl rfl rfl (r_fa fa120_3 hK rfl rfl) fun a hK => ?_
      refine s_ste (α := Item) (sz := 7) (y := { x91 with fD := w64 ((w64 ((w64 (kv75 + 1)) + 1)) + 1) }) Tryz.sizeOf3 hx92 hM 0 hf90 3 hK rfl rfl rfl rfl rfl rfl rfl rfl rfl rfl rfl rfl fun w93 a hK hE hM hf94 => ?_
      refine wpList_nil (nm_then ?_)
      refine wp_seq ?_
      refine wp_region_lit ?_
      iterate 3 (refine s1 hK rfl rfl rfl rfl fun a hK => ?_)
      refine wpList_nil (nm_then ?_)
      refine wp_seq ?_
      refine wp_region_lit ?_
      iterate 3 (refine s1 hK rfl rfl rfl rfl fun a hK => ?_)
      obtain ⟨x95, hx96, h⟩ := obind_some h
      refine s_val hK rfl rfl rfl (r_ixa (Enc.ow_rd hf94) hx96 hK ts38 rfl rfl rfl) fun a hK => ?_
      refine s_val hK rfl rfl rfl (r_fa fa120_4 hK rfl rfl) fun a hK => ?_
      refine s_ste (α := Item) (sz := 7) (y := { x95 with fGram := w64 ((w64 ((w64 ((w64 (kv75 + 1)) + 1)) + 1)) + 1) }) Tryz.sizeOf3 hx96 hM 0 hf94 4 hK rfl rfl rfl rfl rfl rfl rfl rfl rfl rfl rfl rfl fun w97 a hK hE hM hf98 => ?_
      refine wpList_nil (nm_then ?_)
      refine wp_seq ?_
      refine wp_region_lit ?_
      iterate 3 (refine s1 hK rfl rfl rfl rfl fun a hK => ?_)
      refine wpList_nil (nm_then ?_)
      refine wp_seq ?_
      refine wp_region_lit ?_
      iterate 3 (refine s1 hK rfl rfl rfl rfl fun a hK => ?_)
      obtain ⟨x99, hx100, h⟩ := obind_some h
      refine s_val hK rfl rfl rfl (r_ixa (Enc.ow_rd hf98) hx100 hK ts38 rfl rfl rfl) fun a hK => ?_
      refine s_val hK rfl rfl rfl (r_fa fa120_5 hK rfl rfl) fun a hK => ?_
      refine s_ste (α := Item) (sz := 7) (y := { x99 with fClass := w64 ((w64 ((w64 ((w64 ((w64 (kv75 + 1)) + 1)) + 1)) + 1)) + 1) }) Tryz.sizeOf3 hx100 hM 0 hf98 5 hK rfl rfl rfl rfl rfl rfl rfl rfl rfl rfl rfl rfl fun w101 a hK hE hM hf102 => ?_
      have hK := hK.keep [0, 1, 5] rfl
      refine wpList_nil (nm_then ?_)
      refine wp_seq ?_
      refine wp_region_lit ?_
      iterate 3 (refine s1 hK rfl rfl rfl rfl fun a hK => ?_)
      refine wpList_nil (nm_then ?_)
      refine wp_seq ?_
      refine wp_region_lit ?_
      iterate 3 (refine s1 hK rfl rfl rfl rfl fun a hK => ?_)
      obtain ⟨x103, hx104, h⟩ := obind_some h
      refine s_val hK rfl rfl rfl (r_ixa (Enc.ow_rd hf102) hx104 hK ts38 rfl rfl rfl) fun a hK => ?_
      refine s_val hK rfl rfl rfl (r_fa fa120_6 hK rfl rfl) fun a hK => ?_
      refine s_ste (α := Item) (sz := 7) (y := { x103 with fCount := w64 ((w64 ((w64 ((w64 ((w64 ((w64 (kv75 + 1)) + 1)) + 1)) + 1)) + 1)) + 1) }) Tryz.sizeOf3 hx104 hM 0 hf102 6 hK rfl rfl rfl rfl rfl rfl rfl rfl rfl rfl rfl rfl fun w105 a hK hE hM hf106 => ?_
      refine wpList_nil (nm_then ?_)
      refine wp_region_lit ?_
      iterate 3 (refine s1 hK rfl rfl rfl rfl fun a hK => ?_)
      refine wpList_nil (nm_block (nm_then ?_))
      refine wp_region_lit ?_
      iterate 3 (refine s1 hK rfl rfl rfl rfl fun a hK => ?_)
      refine wpList_nil (nm_then ?_)
      exact ⟨setx (setx (setx (setx (setx (setx (setx x72 i76 ({ x79 with fId := kv75 })) i76 ({ x83 with fW := w64 (kv75 + 1) })) i76 ({ x87 with fH := w64 ((w64 (kv75 + 1)) + 1) })) i76 ({ x91 with fD := w64 ((w64 ((w64 (kv75 + 1)) + 1)) + 1) })) i76 ({ x95 with fGram := w64 ((w64 ((w64 ((w64 (kv75 + 1)) + 1)) + 1)) + 1) })) i76 ({ x99 with fClass := w64 ((w64 ((w64 ((w64 ((w64 (kv75 + 1)) + 1)) + 1)) + 1)) + 1) })) i76 ({ x103 with fCount := w64 ((w64 ((w64 ((w64 ((w64 ((w64 (kv75 + 1)) + 1)) + 1)) + 1)) + 1)) + 1) }), w105, w64 ((w64 ((w64 ((w64 ((w64 ((w64 ((w64 (kv75 + 1)) + 1)) + 1)) + 1)) + 1)) + 1)) + 1), w64 (i76 + 1), hK.keep [0, 1, 5] rfl, hM.sel [0] rfl (by decide), hf106, h⟩
    · have h := bif_f hb78 h
      refine wp_exit (ex_then (ex_then (ex_same (nm_then ?_))))
      refine wp_seq ?_
      refine wp_region_lit ?_
      iterate 2 (refine s1 hK rfl rfl rfl rfl fun a hK => ?_)
      refine wpList_nil (nm_then ?_)
      refine wp_ret ?_
      have h := Option.some.inj h
      subst h
      exact finR1 hK rfl (RV.tmp hK rfl) ⟨F3, rfl, hM.ext, (fun b hb => hM.lo b (mem_fps (i := 0) rfl hb)), (Enc.ow_agr hf74 (hM.a 0 rfl))⟩
  · exact ⟨a1, w0, kv5, 0, hK.keep [0, 1, 5] rfl, hM.sel [0] rfl (by decide), hp4, h⟩

theorem c_laws_markRequest (fu : Nat) {w0 : World} (a1 : Request) (kv5 : Int) {cs2 : List Value} {F3 : List Nat} (hp4 : ow w0 F3 cs2 a1) {r : Int × Request}
    (h : d_laws_markRequest fu a1 kv5 = some r) :
    Calls Tryz.prog 26 #[.agg cs2.toArray, .int .i64 (kv5)] w0 fun e w => ∃ (H0 : List Nat), e = .returned (.int .i64 (r.1)) ∧ Ext F3 w0 w ∧ (∀ b ∈ H0, b ∈ F3 ∨ w0.heap.size ≤ b) ∧ ow w H0 cs2 r.2 := by
  refine enter (vs := [_, _]) Tryz.func26 rfl Tryz.ntmps26 rfl fun a hK => ?_
  have hM := St.start1 w0 (Enc.rd_lt (Enc.ow_rd hp4)) (Enc.ow_nd hp4)
  obtain ⟨v6, F7, v9, F10, v12, F13, rfl, rfl, hf8, hf11, hf14, _⟩ := hp4
  have hM := hM.split2
  have hM := hM.split2at1
  unfold d_laws_markRequest at h
  refine wp_seq ?_
  refine wp_region_lit ?_
  refine s_box (cs := [.int .i64 (a1.fWay), .int .i64 (a1.fPallet.fW), .int .i64 (a1.fPallet.fD), .int .i64 (a1.fPallet.fH), .int .i64 (a1.fPallet.fGram), .int .i64 (a1.fClasses), v6, v9, .int .i64 (a1.fMaster), v12]) hM hK rfl rfl rfl rfl rfl rfl fun b15 w17 a hK hM hE hb16 => ?_
  refine s1 hK rfl rfl rfl rfl fun a hK => ?_
  refine wpList_nil (nm_then ?_)
  refine wp_seq ?_
  refine wp_region_lit ?_
  refine s_val hK rfl rfl rfl (r_fa fa40_3 hK rfl rfl) fun a hK => ?_
  refine s_val hK rfl rfl rfl (r_ldb t136 hM 0 hb16 6 hK rfl rfl rfl rfl rfl) fun a hK => ?_
  refine s1 hK rfl rfl rfl rfl fun a hK => ?_
  obtain ⟨x18, hx19, h⟩ := obind_some h
  refine s_call hK Tryz.call85 rfl rfl rfl rfl rfl (c_laws_markPairS fu _ _ (Enc.ow_agr hf8 (hM.a 1 rfl)) hx19) fun e20 w21 hR => ?_
  obtain ⟨F24, rfl, hE, hlo23, hf22⟩ := hR
  refine ⟨_, rfl, fun a hK => ?_⟩
  have hM := hM.mut 1 rfl hE _ (fun b hb => ⟨hlo23 b hb, Enc.rd_lt (Enc.ow_rd hf22) b hb⟩) (Enc.ow_nd hf22)
  refine s1 hK rfl rfl rfl rfl fun a hK => ?_
  refine wpList_nil (nm_then ?_)
  refine wp_seq ?_
  refine wp_region_lit ?_
  refine s_val hK rfl rfl rfl (r_fa fa40_4 hK rfl rfl) fun a hK => ?_
  refine s_val hK rfl rfl rfl (r_ldb t137 hM 0 hb16 7 hK rfl rfl rfl rfl rfl) fun a hK => ?_
  refine s1 hK rfl rfl rfl rfl fun a hK => ?_
  obtain ⟨x25, hx26, h⟩ := obind_some h
  refine s_call hK Tryz.call86 rfl rfl rfl rfl rfl (c_laws_markTypeS fu _ _ (Enc.ow_agr hf11 (hM.a 2 rfl)) hx26) fun e27 w28 hR => ?_
  obtain ⟨F31, rfl, hE, hlo30, hf29⟩ := hR
  refine ⟨_, rfl, fun a hK => ?_⟩
  have hM := hM.mut 2 rfl hE _ (fun b hb => ⟨hlo30 b hb, Enc.rd_lt (Enc.ow_rd hf29) b hb⟩) (Enc.ow_nd hf29)
  refine s1 hK rfl rfl rfl rfl fun a hK => ?_
  refine wpList_nil (nm_then ?_)
  refine wp_seq ?_
  refine wp_region_lit ?_
  refine s_val hK rfl rfl rfl (r_fa fa40_6 hK rfl rfl) fun a hK => ?_
  refine s_val hK rfl rfl rfl (r_ldb t138 hM 0 hb16 9 hK rfl rfl rfl rfl rfl) fun a hK => ?_
  refine s1 hK rfl rfl rfl rfl fun a hK => ?_
  obtain ⟨x32, hx33, h⟩ := obind_some h
  refine s_call hK Tryz.call87 rfl rfl rfl rfl rfl (c_laws_markItemS fu _ _ (Enc.ow_agr hf14 (hM.a 3 rfl)) hx33) fun e34 w35 hR => ?_
  obtain ⟨F38, rfl, hE, hlo37, hf36⟩ := hR
  refine ⟨_, rfl, fun a hK => ?_⟩
  have hM := hM.mut 3 rfl hE _ (fun b hb => ⟨hlo37 b hb, Enc.rd_lt (Enc.ow_rd hf36) b hb⟩) (Enc.ow_nd hf36)
  refine s1 hK rfl rfl rfl rfl fun a hK => ?_
  refine wpList_nil (nm_then ?_)
  refine wp_seq ?_
  refine wp_region_lit ?_
  iterate 2 (refine s1 hK rfl rfl rfl rfl fun a hK => ?_)
  refine wpList_nil (nm_then ?_)
  refine wp_ret ?_
  have h := Option.some.inj h
  subst h
  exact finR1 hK rfl (RV.tmp hK rfl) ⟨F24 ++ (F31 ++ (F38)), rfl, hM.ext, (fun b hb => (hM.sel [1, 2, 3] rfl (by decide)).lo b (by simpa [fps] using hb)), ⟨_, _, _, _, _, _, rfl, rfl, (Enc.ow_agr hf22 (hM.a 1 rfl)), (Enc.ow_agr hf29 (hM.a 2 rfl)), (Enc.ow_agr hf36 (hM.a 3 rfl)), by simpa [fps] using (hM.sel [1, 2, 3] rfl (by decide)).nd⟩⟩

theorem c_laws_markIntS (fu : Nat) {w0 : World} (a1 : List Int) (kv5 : Int) {v2 : Value} {F3 : List Nat} (hp4 : ow w0 F3 [v2] a1) {r : Int × (List Int)}
    (h : d_laws_markIntS fu a1 kv5 = some r) :
    Calls Tryz.prog 46 #[v2, .int .i64 (kv5)] w0 fun e w => ∃ (H0 : List Nat), e = .returned (.int .i64 (r.1)) ∧ Ext F3 w0 w ∧ (∀ b ∈ H0, b ∈ F3 ∨ w0.heap.size ≤ b) ∧ ow w H0 [v2] r.2 := by
  refine enter (vs := [_, _]) Tryz.func46 rfl Tryz.ntmps46 rfl fun a hK => ?_
  have hM := St.start1 w0 (Enc.rd_lt (Enc.ow_rd hp4)) (Enc.ow_nd hp4)
  unfold d_laws_markIntS at h
  refine wp_seq ?_
  refine wp_region_lit ?_
  refine s1 hK rfl rfl rfl rfl fun a hK => ?_
  refine wpList_nil (nm_then ?_)
  refine wp_seq ?_
  refine wp_seq ?_
  refine wp_region_lit ?_
  refine s1 hK rfl rfl rfl rfl fun a hK => ?_
  refine wpList_nil (nm_then ?_)
  refine wp_block ?_
  refine c_loop (fun n a w => ∃ (x24 : List Int) (u25 : World) (kv27 : Int) (i28 : Int), K 19 [(0, v2), (1, .int .i64 (kv27)), (5, .int .i64 (i28))] a ∧ St F3 w0 w [(F3, u25)] ∧ ow u25 F3 [v2] x24 ∧ d_laws_markIntS_L1 fu  n x24 kv27 i28 = some r) ?_ ?_ fu _ _ ?_
  · rintro a w ⟨_, _, _, _, _, _, _, h⟩
    cases (show none = some _ from h)
  · rintro m29 a w23 ⟨x24, u25, kv27, i28, hK, hM, hf26, h⟩
    rw [d_laws_markIntS_L1_s] at h
    unfold d_laws_markIntS_L1_B at h
    refine wp_seq ?_
    refine wp_seq ?_
    refine wp_region_lit ?_
    iterate 2 (refine s1 hK rfl rfl rfl rfl fun a hK => ?_)
    refine s_val hK rfl rfl rfl (r_len (α := Int) (Enc.ow_rd hf26) hK Tryz.underlying29 rfl rfl) fun a hK => ?_
    refine s1 hK rfl rfl rfl rfl fun a hK => ?_
    refine wpList_nil (nm_then ?_)
    refine c_cond (b := decide (i28 < ((x24.length : Int)))) hK rfl (fun hb30 => ?_) (fun hb30 => ?_)
    · have h := bif_t hb30 h
      refine wp_skip (nm_then ?_)
      refine wp_seq ?_
      refine wp_block ?_
      refine wp_seq ?_
      refine wp_region_lit ?_
      iterate 3 (refine s1 hK rfl rfl rfl rfl fun a hK => ?_)
      obtain ⟨x31, hx32, h⟩ := obind_some h
      refine s_val hK rfl rfl rfl (r_ixa (Enc.ow_rd hf26) hx32 hK ts29 rfl rfl rfl) fun a hK => ?_
      refine s_ste (α := Int) (sz := 1) (y := kv27) Tryz.sizeOf3 hx32 hM 0 hf26 0 hK rfl rfl rfl rfl rfl rfl rfl rfl rfl rfl rfl rfl fun w33 a hK hE hM hf34 => ?_
      refine wpList_nil (nm_then ?_)
      refine wp_region_lit ?_
      iterate 3 (refine s1 hK rfl rfl rfl rfl fun a hK => ?_)
      refine wpList_nil (nm_block (nm_then ?_))
      refine wp_region_lit ?_
      iterate 3 (refine s1 hK rfl rfl rfl rfl fun a hK => ?_)
      refine wpList_nil (nm_then ?_)
      exact ⟨setx x24 i28 kv27, w33, w64 (kv27 + 1), w64 (i28 + 1), hK.keep [0, 1, 5] rfl, hM.sel [0] rfl (by decide), hf34, h⟩
    · have h := bif_f hb30 h
      refine wp_exit (ex_then (ex_then (ex_same (nm_then ?_))))
      refine wp_seq ?_
      refine wp_region_lit ?_
      iterate 2 (refine s1 hK rfl rfl rfl rfl fun a hK => ?_)
      refine wpList_nil (nm_then ?_)
      refine wp_ret ?_
      have h := Option.some.inj h
      subst h
      exact finR1 hK rfl (RV.tmp hK rfl) ⟨F3, rfl, hM.ext, (fun b hb => hM.lo b (mem_fps (i := 0) rfl hb)), (Enc.ow_agr hf26 (hM.a 0 rfl))⟩
  · exact ⟨a1, w0, kv5, 0, hK.keep [0, 1, 5] rfl, hM.sel [0] rfl (by decide), hp4, h⟩

theorem c_laws_markCartonS (fu : Nat) {w0 : World} (a1 : List Carton) (kv5 : Int) {v2 : Value} {F3 : List Nat} (hp4 : ow w0 F3 [v2] a1) {r : Int × (List Carton)}
    (h : d_laws_markCartonS fu a1 kv5 = some r) :
    Calls Tryz.prog 45 #[v2, .int .i64 (kv5)] w0 fun e w => ∃ (H0 : List Nat), e = .returned (.int .i64 (r.1)) ∧ Ext F3 w0 w ∧ (∀ b ∈ H0, b ∈ F3 ∨ w0.heap.size ≤ b) ∧ ow w H0 [v2] r.2 := by
  refine enter (vs := [_, _]) Tryz.func45 rfl Tryz.ntmps45 rfl fun a hK => ?_
  have hM := St.start1 w0 (Enc.rd_lt (Enc.ow_rd hp4)) (Enc.ow_nd hp4)
  unfold d_laws_markCartonS at h
  refine wp_seq ?_
  refine wp_region_lit ?_
  refine s1 hK rfl rfl rfl rfl fun a hK => ?_
  refine wpList_nil (nm_then ?_)
  refine wp_seq ?_
  refine wp_seq ?_
  refine wp_region_lit ?_
  refine s1 hK rfl rfl rfl rfl fun a hK => ?_
  refine wpList_nil (nm_then ?_)
  refine wp_block ?_
  refine c_loop (fun n a w => ∃ (x153 : List Carton) (u154 : World) (F156 : List Nat) (kv157 : Int) (i158 : Int), K 34 [(0, v2), (1, .int .i64 (kv157)), (5, .int .i64 (i158))] a ∧ St F3 w0 w [(F156, u154)] ∧ ow u154 F156 [v2] x153 ∧ d_laws_markCartonS_L1 fu  n x153 kv157 i158 = some r) ?_ ?_ fu _ _ ?_
  · rintro a w ⟨_, _, _, _, _, _, _, _, h⟩
    cases (show none = some _ from h)
  · rintro m159 a w152 ⟨x153, u154, F156, kv157, i158, hK, hM, hf155, h⟩
    rw [d_laws_markCartonS_L1_s] at h
    unfold d_laws_markCartonS_L1_B at h
    refine wp_seq ?_
    refine wp_seq ?_
    refine wp_region_lit ?_
    iterate 2 (refine s1 hK rfl rfl rfl rfl fun a hK => ?_)
    refine s_val hK rfl rfl rfl (r_len (α := Carton) (Enc.ow_rd hf155) hK Tryz.underlying63 rfl rfl) fun a hK => ?_
    refine s1 hK rfl rfl rfl rfl fun a hK => ?_
    refine wpList_nil (nm_then ?_)
    refine c_cond (b := decide (i158 < ((x153.length : Int)))) hK rfl (fun hb160 => ?_) (fun hb160 => ?_)
    · have h := bif_t hb160 h
      refine wp_skip (nm_then ?_)
      refine wp_seq ?_
      refine wp_block ?_
      refine wp_seq ?_
      refine wp_region_lit ?_
      iterate 3 (refine s1 hK rfl rfl rfl rfl fun a hK => ?_)
      obtain ⟨x161, hx162, h⟩ := obind_some h
      refine s_val hK rfl rfl rfl (r_ixa (Enc.ow_rd hf155) hx162 hK ts63 rfl rfl rfl) fun a hK => ?_
      refine s_val hK rfl rfl rfl (r_fa fa42_0 hK rfl rfl) fun a hK => ?_
      obtain ⟨G163, cs164, hG165, hr166, hp167, hb168⟩ := rd_get (Enc.ow_rd hf155) (ix_some hx162).2.2
      obtain ⟨v169, _, rfl, rfl, hf170⟩ := hr166
      obtain ⟨A171, B172, hM, hH173, hO174⟩ := hM.opn 0 rfl hf155 hx162 hp167 rfl (M' := []) rfl
      obtain ⟨c175, _, heq176, rfl, hf177, _⟩ := hO174
      obtain rfl : v169 = c175 := by simpa using heq176
      refine s_stH (α := Carton) (sz := 3) (cs' := [.int .i64 (kv157), .int .i64 (x161.fGroup), v169]) Tryz.sizeOf3 hM 0 hH173 0 hK rfl rfl rfl rfl rfl rfl rfl rfl rfl (allc rfl alln) rfl rfl fun w178 a hK hE hM hH179 => ?_
      obtain ⟨F180, hM, hf181⟩ := (hM.sel [0, 1] rfl (by decide)).cls hH179 (show ow w152 B172 [.int .i64 (kv157), .int .i64 (x161.fGroup), v169] ((⟨kv157, x161.fGroup, x161.fUnits⟩ : Carton) : Carton) from ⟨_, _, rfl, rfl, hf177, (hM.ndF 1 rfl)⟩)
      refine wpList_nil (nm_then ?_)
      refine wp_seq ?_
      refine wp_region_lit ?_
      iterate 3 (refine s1 hK rfl rfl rfl rfl fun a hK => ?_)
      refine wpList_nil (nm_then ?_)
      refine wp_seq ?_
      refine wp_region_lit ?_
      iterate 3 (refine s1 hK rfl rfl rfl rfl fun a hK => ?_)
      obtain ⟨x182, hx183, h⟩ := obind_some h
      refine s_val hK rfl rfl rfl (r_ixa (Enc.ow_rd hf181) hx183 hK ts63 rfl rfl rfl) fun a hK => ?_
      refine s_val hK rfl rfl rfl (r_fa fa42_1 hK rfl rfl) fun a hK => ?_
      obtain ⟨G184, cs185, hG186, hr187, hp188, hb189⟩ := rd_get (Enc.ow_rd hf181) (ix_some hx183).2.2
      obtain ⟨v190, _, rfl, rfl, hf191⟩ := hr187
      obtain ⟨A192, B193, hM, hH194, hO195⟩ := hM.opn 0 rfl hf181 hx183 hp188 rfl (M' := []) rfl
      obtain ⟨c196, _, heq197, rfl, hf198, _⟩ := hO195
      obtain rfl : v190 = c196 := by simpa using heq197
      refine s_stH (α := Carton) (sz := 3) (cs' := [.int .i64 (x182.fType), .int .i64 (w64 (kv157 + 1)), v190]) Tryz.sizeOf3 hM 0 hH194 1 hK rfl rfl rfl rfl rfl rfl rfl rfl rfl (allc rfl alln) rfl rfl fun w199 a hK hE hM hH200 => ?_
      obtain ⟨F201, hM, hf202⟩ := (hM.sel [0, 1] rfl (by decide)).cls hH200 (show ow w178 B193 [.int .i64 (x182.fType), .int .i64 (w64 (kv157 + 1)), v190] ((⟨x182.fType, w64 (kv157 + 1), x182.fUnits⟩ : Carton) : Carton) from ⟨_, _, rfl, rfl, hf198, (hM.ndF 1 rfl)⟩)
      refine wpList_nil (nm_then ?_)
      refine wp_seq ?_
      refine wp_region_lit ?_
      iterate 3 (refine s1 hK rfl rfl rfl rfl fun a hK => ?_)
      refine wpList_nil (nm_then ?_)
      refine wp_region_lit ?_
      iterate 2 (refine s1 hK rfl rfl rfl rfl fun a hK => ?_)
      obtain ⟨x203, hx204, h⟩ := obind_some h
      refine s_val hK rfl rfl rfl (r_ixa (Enc.ow_rd hf202) hx204 hK ts63 rfl rfl rfl) fun a hK => ?_
      refine s_val hK rfl rfl rfl (r_fa fa42_2 hK rfl rfl) fun a hK => ?_
      obtain ⟨G205, cs206, hG207, hr208, hp209, hb210⟩ := rd_get (Enc.ow_rd hf202) (ix_some hx204).2.2
      obtain ⟨v211, _, rfl, rfl, hf212⟩ := hr208
      refine s_val hK rfl rfl rfl (r_ld1 t129 ((hp209.agr (hM.a 0 rfl) hb210).fld 2 1 (Nat.le_of_ble_eq_true rfl)) hK rfl rfl) fun a hK => ?_
      refine s1 hK rfl rfl rfl rfl fun a hK => ?_
      obtain ⟨A213, B214, hM, hH215, hO216⟩ := hM.opn 0 rfl hf202 hx204 hp209 rfl (M' := []) rfl
      obtain ⟨c217, _, heq218, rfl, hf219, _⟩ := hO216
      obtain rfl : v211 = c217 := by simpa using heq218
      obtain ⟨x220, hx221, h⟩ := obind_some h
      refine s_call hK Tryz.call46 rfl rfl rfl rfl rfl (c_laws_markIntS fu _ _ (Enc.ow_agr hf219 (hM.a 1 rfl)) hx221) fun e222 w223 hR => ?_
      obtain ⟨F226, rfl, hE, hlo225, hf224⟩ := hR
      refine ⟨_, rfl, fun a hK => ?_⟩
      have hM := hM.mut 1 rfl hE _ (fun b hb => ⟨hlo225 b hb, Enc.rd_lt (Enc.ow_rd hf224) b hb⟩) (Enc.ow_nd hf224)
      obtain ⟨F227, hM, hf228⟩ := (hM.sel [0, 1] rfl (by decide)).cls hH215 (show ow w223 F226 [.int .i64 (x203.fType), .int .i64 (x203.fGroup), v211] ((⟨x203.fType, x203.fGroup, x220.2⟩ : Carton) : Carton) from ⟨_, _, rfl, rfl, hf224, (hM.ndF 1 rfl)⟩)
      refine s1 hK rfl rfl rfl rfl fun a hK => ?_
      have hK := hK.keep [0, 1, 5] rfl
      refine wpList_nil (nm_block (nm_then ?_))
      refine wp_region_lit ?_
      iterate 3 (refine s1 hK rfl rfl rfl rfl fun a hK => ?_)
      refine wpList_nil (nm_then ?_)
      exact ⟨setx (setx (setx x153 i158 ((⟨kv157, x161.fGroup, x161.fUnits⟩ : Carton))) i158 ((⟨x182.fType, w64 (kv157 + 1), x182.fUnits⟩ : Carton))) i158 ((⟨x203.fType, x203.fGroup, x220.2⟩ : Carton)), w223, F227, x220.1, w64 (i158 + 1), hK.keep [0, 1, 5] rfl, hM.sel [0] rfl (by decide), hf228, h⟩
    · have h := bif_f hb160 h
      refine wp_exit (ex_then (ex_then (ex_same (nm_then ?_))))
      refine wp_seq ?_
      refine wp_region_lit ?_
      iterate 2 (refine s1 hK rfl rfl rfl rfl fun a hK => ?_)
      refine wpList_nil (nm_then ?_)
      refine wp_ret ?_
      have h := Option.some.inj h
      subst h
      exact finR1 hK rfl (RV.tmp hK rfl) ⟨F156, rfl, hM.ext, (fun b hb => hM.lo b (mem_fps (i := 0) rfl hb)), (Enc.ow_agr hf155 (hM.a 0 rfl))⟩
  · exact ⟨a1, w0, F3, kv5, 0, hK.keep [0, 1, 5] rfl, hM.sel [0] rfl (by decide), hp4, h⟩

theorem c_laws_heldIntS (fu : Nat) {w0 : World} (a1 : List Int) (kv5 : Int) {v2 : Value} {F3 : List Nat} (hp4 : rd w0 F3 [v2] a1) {r : Int}
    (h : d_laws_heldIntS fu a1 kv5 = some r) :
    Calls Tryz.prog 47 #[v2, .int .i64 (kv5)] w0 fun e w => e = .returned (.int .i64 (r)) ∧ Ext [] w0 w := by
  refine enter (vs := [_, _]) Tryz.func47 rfl Tryz.ntmps47 rfl fun a hK => ?_
  have hM := St.start w0
  unfold d_laws_heldIntS at h
  refine wp_seq ?_
  refine wp_region_lit ?_
  refine s1 hK rfl rfl rfl rfl fun a hK => ?_
  refine wpList_nil (nm_then ?_)
  refine wp_seq ?_
  refine wp_seq ?_
  refine wp_region_lit ?_
  refine s1 hK rfl rfl rfl rfl fun a hK => ?_
  refine wpList_nil (nm_then ?_)
  refine wp_block ?_
  refine c_loop (fun n a w => ∃ (kv19 : Int) (i20 : Int), K 21 [(0, v2), (1, .int .i64 (kv19)), (5, .int .i64 (i20))] a ∧ St [] w0 w [] ∧ d_laws_heldIntS_L1 fu a1 n kv19 i20 = some r) ?_ ?_ fu _ _ ?_
  · rintro a w ⟨_, _, _, _, h⟩
    cases (show none = some _ from h)
  · rintro m21 a w18 ⟨kv19, i20, hK, hM, h⟩
    rw [d_laws_heldIntS_L1_s] at h
    unfold d_laws_heldIntS_L1_B at h
    refine wp_seq ?_
    refine wp_seq ?_
    refine wp_region_lit ?_
    iterate 2 (refine s1 hK rfl rfl rfl rfl fun a hK => ?_)
    refine s_val hK rfl rfl rfl (r_len (α := Int) hp4 hK Tryz.underlying29 rfl rfl) fun a hK => ?_
    refine s1 hK rfl rfl rfl rfl fun a hK => ?_
    refine wpList_nil (nm_then ?_)
    refine c_cond (b := decide (i20 < ((a1.length : Int)))) hK rfl (fun hb22 => ?_) (fun hb22 => ?_)
    · have h := bif_t hb22 h
      refine wp_skip (nm_then ?_)
      refine wp_seq ?_
      refine wp_block ?_
      refine wp_seq ?_
      refine wp_seq ?_
      refine wp_region_lit ?_
      iterate 2 (refine s1 hK rfl rfl rfl rfl fun a hK => ?_)
      obtain ⟨x23, hx24, h⟩ := obind_some h
      refine s_val hK rfl rfl rfl (r_ixa hp4 hx24 hK ts29 rfl rfl rfl) fun a hK => ?_
      refine s_val hK rfl rfl rfl (r_lde1 hp4 (hM.a00 (Enc.rd_lt hp4)) hx24 0 t13 hK rfl rfl rfl rfl) fun a hK => ?_
      iterate 2 (refine s1 hK rfl rfl rfl rfl fun a hK => ?_)
      refine wpList_nil (nm_then ?_)
      refine c_cond (b := x23 != kv19) hK rfl (fun hb25 => ?_) (fun hb25 => ?_)
      · have h := bif_t hb25 h
        refine wp_seq ?_
        refine wp_region_lit ?_
        refine s1 hK rfl rfl rfl rfl fun a hK => ?_
        refine wpList_nil (nm_then ?_)
        refine wp_ret (rt_then (rt_block (rt_then (rt_then (rt_block (rt_then ?_))))))
        have h := Option.some.inj h
        subst h
        exact finR1 hK rfl (RV.tmp hK rfl) ⟨rfl, hM.ext⟩
      · have h := bif_f hb25 h
        refine wp_skip (nm_then ?_)
        refine wp_region_lit ?_
        iterate 3 (refine s1 hK rfl rfl rfl rfl fun a hK => ?_)
        refine wpList_nil (nm_block (nm_then ?_))
        refine wp_region_lit ?_
        iterate 3 (refine s1 hK rfl rfl rfl rfl fun a hK => ?_)
        refine wpList_nil (nm_then ?_)
        exact ⟨w64 (kv19 + 1), w64 (i20 + 1), hK.keep [0, 1, 5] rfl, hM.sel [] rfl (by decide), h⟩
    · have h := bif_f hb22 h
      refine wp_exit (ex_then (ex_then (ex_same (nm_then ?_))))
      refine wp_seq ?_
      refine wp_region_lit ?_
      iterate 2 (refine s1 hK rfl rfl rfl rfl fun a hK => ?_)
      refine wpList_nil (nm_then ?_)
      refine wp_ret ?_
      have h := Option.some.inj h
      subst h
      exact finR1 hK rfl (RV.tmp hK rfl) ⟨rfl, hM.ext⟩
  · exact ⟨kv5, 0, hK.keep [0, 1, 5] rfl, hM.sel [] rfl (by decide), h⟩

theorem c_laws_FnExactFills (fu : Nat) {w0 : World} (aR1 : Request) (aList5 : List Carton) {cs2 : List Value} {F3 : List Nat} (hp4 : rd w0 F3 cs2 aR1) {v6 : Value} {F7 : List Nat} (hp8 : rd w0 F7 [v6] aList5) {r : Bool}
    (h : d_laws_FnExactFills fu aR1 aList5 = some r) :
    Calls Tryz.prog 9 #[.agg cs2.toArray, v6] w0 fun e w => e = .returned (.bool (r)) ∧ Ext [] w0 w := by
  refine enter (vs := [_, _]) Tryz.func9 rfl Tryz.ntmps9 rfl fun a hK => ?_
  have hM := St.start w0
  obtain ⟨v9, F10, v11, F12, v13, F14, rfl, rfl, hf15, hf16, hf17⟩ := hp4
  unfold d_laws_FnExactFills at h
  refine wp_seq ?_
  refine wp_region_lit ?_
  refine s_box (cs := [.int .i64 (aR1.fWay), .int .i64 (aR1.fPallet.fW), .int .i64 (aR1.fPallet.fD), .int .i64 (aR1.fPallet.fH), .int .i64 (aR1.fPallet.fGram), .int .i64 (aR1.fClasses), v9, v11, .int .i64 (aR1.fMaster), v13]) hM hK rfl rfl rfl rfl rfl rfl fun b18 w20 a hK hM hE hb19 => ?_
  refine s1 hK rfl rfl rfl rfl fun a hK => ?_
  refine wpList_nil (nm_then ?_)
  refine wp_seq ?_
  refine wp_region_lit ?_
  refine s1 hK rfl rfl rfl rfl fun a hK => ?_
  refine wpList_nil (nm_then ?_)
  refine wp_seq ?_
  refine wp_region_lit ?_
  refine s_val hK rfl rfl rfl (r_ldB ta28 hM 0 hb19 0 hK rfl rfl rfl rfl rfl rfl) fun a hK => ?_
  refine s1 hK rfl rfl rfl rfl fun a hK => ?_
  obtain ⟨x21, hx22, h⟩ := obind_some h
  refine s_call hK Tryz.call15 rfl rfl rfl rfl rfl (c_laws_szRequest fu _ _ (show rd _ _ [.int .i64 (aR1.fWay), .int .i64 (aR1.fPallet.fW), .int .i64 (aR1.fPallet.fD), .int .i64 (aR1.fPallet.fH), .int .i64 (aR1.fPallet.fGram), .int .i64 (aR1.fClasses), v9, v11, .int .i64 (aR1.fMaster), v13] (aR1 : Request) from ⟨_, _, _, _, _, _, rfl, rfl, (Enc.rd_agr hf15 (hM.a00 (Enc.rd_lt hf15))), (Enc.rd_agr hf16 (hM.a00 (Enc.rd_lt hf16))), (Enc.rd_agr hf17 (hM.a00 (Enc.rd_lt hf17)))⟩) hx22) fun e23 w24 hR => ?_
  obtain ⟨rfl, hE⟩ := hR
  refine ⟨_, rfl, fun a hK => ?_⟩
  have hM := hM.step hE
  refine s1 hK rfl rfl rfl rfl fun a hK => ?_
  refine wpList_nil (nm_then ?_)
  refine wp_seq ?_
  refine wp_seq ?_
  refine wp_region_lit ?_
  iterate 2 (refine s1 hK rfl rfl rfl rfl fun a hK => ?_)
  refine wpList_nil (nm_then ?_)
  refine c_cond (b := decide (x21 < 0)) hK rfl (fun hb25 => ?_) (fun hb25 => ?_)
  · have h := bif_t hb25 h
    refine wp_seq ?_
    refine wp_region_lit ?_
    refine s1 hK rfl rfl rfl rfl fun a hK => ?_
    refine wpList_nil (nm_then ?_)
    refine wp_ret (rt_then ?_)
    have h := Option.some.inj h
    subst h
    exact finR1 hK rfl (RV.tmp hK rfl) ⟨rfl, hM.ext⟩
  · have h := bif_f hb25 h
    refine wp_skip (nm_then ?_)
    refine wp_seq ?_
    refine wp_region_lit ?_
    iterate 2 (refine s1 hK rfl rfl rfl rfl fun a hK => ?_)
    obtain ⟨x26, hx27, h⟩ := obind_some h
    refine s_call hK Tryz.call39 rfl rfl rfl rfl rfl (c_laws_szCartonS fu _ _ (Enc.rd_agr hp8 (hM.a00 (Enc.rd_lt hp8))) hx27) fun e28 w29 hR => ?_
    obtain ⟨rfl, hE⟩ := hR
    refine ⟨_, rfl, fun a hK => ?_⟩
    have hM := hM.step hE
    refine s1 hK rfl rfl rfl rfl fun a hK => ?_
    refine wpList_nil (nm_then ?_)
    refine wp_seq ?_
    refine wp_seq ?_
    refine wp_region_lit ?_
    iterate 2 (refine s1 hK rfl rfl rfl rfl fun a hK => ?_)
    refine wpList_nil (nm_then ?_)
    refine c_cond (b := decide (x26 < 0)) hK rfl (fun hb30 => ?_) (fun hb30 => ?_)
    · have h := bif_t hb30 h
      refine wp_seq ?_
      refine wp_region_lit ?_
      refine s1 hK rfl rfl rfl rfl fun a hK => ?_
      refine wpList_nil (nm_then ?_)
      refine wp_ret (rt_then ?_)
      have h := Option.some.inj h
      subst h
      exact finR1 hK rfl (RV.tmp hK rfl) ⟨rfl, hM.ext⟩
    · have h := bif_f hb30 h
      refine wp_skip (nm_then ?_)
      refine wp_seq ?_
      refine wp_region_lit ?_
      refine s_val hK rfl rfl rfl (r_ldB ta28 hM 0 hb19 0 hK rfl rfl rfl rfl rfl rfl) fun a hK => ?_
      obtain ⟨x31, hx32, h⟩ := obind_some h
      refine s_call hK Tryz.call18 rfl rfl rfl rfl rfl (c_laws_toRequest fu _ (show rd _ _ [.int .i64 (aR1.fWay), .int .i64 (aR1.fPallet.fW), .int .i64 (aR1.fPallet.fD), .int .i64 (aR1.fPallet.fH), .int .i64 (aR1.fPallet.fGram), .int .i64 (aR1.fClasses), v9, v11, .int .i64 (aR1.fMaster), v13] (aR1 : Request) from ⟨_, _, _, _, _, _, rfl, rfl, (Enc.rd_agr hf15 (hM.a00 (Enc.rd_lt hf15))), (Enc.rd_agr hf16 (hM.a00 (Enc.rd_lt hf16))), (Enc.rd_agr hf17 (hM.a00 (Enc.rd_lt hf17)))⟩) hx32) fun e33 w34 hR => ?_
      obtain ⟨cs39, F35, rfl, hE, hf36, hfr37⟩ := hR
      refine ⟨_, rfl, fun a hK => ?_⟩
      have hM := hM.new hE F35 (fun b hb => ⟨hfr37 b hb, Enc.rd_lt (Enc.ow_rd hf36) b hb⟩) (Enc.ow_nd hf36)
      obtain ⟨v40, F41, v43, F44, v46, F47, rfl, rfl, hf42, hf45, hf48, _⟩ := hf36
      have hM := hM.split2
      have hM := hM.split2at1
      refine s1 hK rfl rfl rfl rfl fun a hK => ?_
      obtain ⟨x49, hx50, h⟩ := obind_some h
      refine s_call hK Tryz.call41 rfl rfl rfl rfl rfl (c_laws_toCartonS fu _ (Enc.rd_agr hp8 (hM.a00 (Enc.rd_lt hp8))) hx50) fun e51 w52 hR => ?_
      obtain ⟨v57, F53, rfl, hE, hf54, hfr55⟩ := hR
      refine ⟨_, rfl, fun a hK => ?_⟩
      have hM := hM.new hE F53 (fun b hb => ⟨hfr55 b hb, Enc.rd_lt (Enc.ow_rd hf54) b hb⟩) (Enc.ow_nd hf54)
      obtain ⟨x58, hx59, h⟩ := obind_some h
      refine s_call hK Tryz.call40 rfl rfl rfl rfl rfl (c_spec_Fills fu _ _ (show rd _ _ [.int .i64 (x31.fWay), .int .i64 (x31.fPallet.fW), .int .i64 (x31.fPallet.fD), .int .i64 (x31.fPallet.fH), .int .i64 (x31.fPallet.fGram), .int .i64 (x31.fClasses), v40, v43, .int .i64 (x31.fMaster), v46] (x31 : Request) from ⟨_, _, _, _, _, _, rfl, rfl, (Enc.rd_agr (Enc.ow_rd hf42) (hM.a 1 rfl)), (Enc.rd_agr (Enc.ow_rd hf45) (hM.a 2 rfl)), (Enc.rd_agr (Enc.ow_rd hf48) (hM.a 3 rfl))⟩) (Enc.rd_agr (Enc.ow_rd hf54) (hM.a 0 rfl)) hx59) fun e60 w61 hR => ?_
      obtain ⟨v66, F62, rfl, hE, hf63, hfr64⟩ := hR
      refine ⟨_, rfl, fun a hK => ?_⟩
      have hM := hM.new hE F62 (fun b hb => ⟨hfr64 b hb, Enc.rd_lt (Enc.ow_rd hf63) b hb⟩) (Enc.ow_nd hf63)
      refine s1 hK rfl rfl rfl rfl fun a hK => ?_
      refine wpList_nil (nm_then ?_)
      refine wp_seq ?_
      refine wp_region_lit ?_
      refine s_val hK rfl rfl rfl (r_ldB ta28 hM 5 hb19 0 hK rfl rfl rfl rfl rfl rfl) fun a hK => ?_
      obtain ⟨x67, hx68, h⟩ := obind_some h
      refine s_call hK Tryz.call18 rfl rfl rfl rfl rfl (c_laws_toRequest fu _ (show rd _ _ [.int .i64 (aR1.fWay), .int .i64 (aR1.fPallet.fW), .int .i64 (aR1.fPallet.fD), .int .i64 (aR1.fPallet.fH), .int .i64 (aR1.fPallet.fGram), .int .i64 (aR1.fClasses), v9, v11, .int .i64 (aR1.fMaster), v13] (aR1 : Request) from ⟨_, _, _, _, _, _, rfl, rfl, (Enc.rd_agr hf15 (hM.a00 (Enc.rd_lt hf15))), (Enc.rd_agr hf16 (hM.a00 (Enc.rd_lt hf16))), (Enc.rd_agr hf17 (hM.a00 (Enc.rd_lt hf17)))⟩) hx68) fun e69 w70 hR => ?_
      obtain ⟨cs75, F71, rfl, hE, hf72, hfr73⟩ := hR
      refine ⟨_, rfl, fun a hK => ?_⟩
      have hM := hM.new hE F71 (fun b hb => ⟨hfr73 b hb, Enc.rd_lt (Enc.ow_rd hf72) b hb⟩) (Enc.ow_nd hf72)
      obtain ⟨v76, F77, v79, F80, v82, F83, rfl, rfl, hf78, hf81, hf84, _⟩ := hf72
      have hM := hM.split2
      have hM := hM.split2at1
      refine s_alloc (cs := [.int .i64 (0), .int .i64 (0), .int .i64 (0), .int .i64 (0), .int .i64 (0), .int .i64 (0), .slice none 0 0, .slice none 0 0, .int .i64 (0), .slice none 0 0]) hM hK Tryz.zeroValue40 rfl rfl rfl rfl rfl fun b85 w87 a hK hM hE hb86 => ?_
      refine s_stb (cs' := [.int .i64 (x67.fWay), .int .i64 (x67.fPallet.fW), .int .i64 (x67.fPallet.fD), .int .i64 (x67.fPallet.fH), .int .i64 (x67.fPallet.fGram), .int .i64 (x67.fClasses), v76, v79, .int .i64 (x67.fMaster), v82]) Tryz.sizeOf40 hM 0 hb86 0 hK rfl rfl rfl rfl rfl rfl rfl rfl rfl rfl (allc rfl (allc rfl (allc rfl (allc rfl (allc rfl (allc rfl (allc (rd_o (Enc.ow_rd hf78)) (allc (rd_o (Enc.ow_rd hf81)) (allc rfl (allc (rd_o (Enc.ow_rd hf84)) alln)))))))))) fun w88 a hK hE hM hb89 => ?_
      have hK := hK.keep [1, 2, 6, 7] rfl
      refine wpList_nil (nm_then ?_)
      refine wp_seq ?_
      refine wp_region_lit ?_
      refine s1 hK rfl rfl rfl rfl fun a hK => ?_
      obtain ⟨x90, hx91, h⟩ := obind_some h
      refine s_call hK Tryz.call41 rfl rfl rfl rfl rfl (c_laws_toCartonS fu _ (Enc.rd_agr hp8 (hM.a00 (Enc.rd_lt hp8))) hx91) fun e92 w93 hR => ?_
      obtain ⟨v98, F94, rfl, hE, hf95, hfr96⟩ := hR
      refine ⟨_, rfl, fun a hK => ?_⟩
      have hM := hM.new hE F94 (fun b hb => ⟨hfr96 b hb, Enc.rd_lt (Enc.ow_rd hf95) b hb⟩) (Enc.ow_nd hf95)
      refine s1 hK rfl rfl rfl rfl fun a hK => ?_
      refine wpList_nil (nm_then ?_)
      refine wp_seq ?_
      refine wp_region_lit ?_
      refine s_val hK rfl rfl rfl (r_ldB ta40 hM 1 hb89 0 hK rfl rfl rfl rfl rfl rfl) fun a hK => ?_
      refine s1 hK rfl rfl rfl rfl fun a hK => ?_
      obtain ⟨x99, hx100, h⟩ := obind_some h
      refine s_call hK Tryz.call42 rfl rfl rfl rfl rfl (c_impl_Fills fu _ _ (show rd _ _ [.int .i64 (x67.fWay), .int .i64 (x67.fPallet.fW), .int .i64 (x67.fPallet.fD), .int .i64 (x67.fPallet.fH), .int .i64 (x67.fPallet.fGram), .int .i64 (x67.fClasses), v76, v79, .int .i64 (x67.fMaster), v82] (x67 : Request) from ⟨_, _, _, _, _, _, rfl, rfl, (Enc.rd_agr (Enc.ow_rd hf78) (hM.a 2 rfl)), (Enc.rd_agr (Enc.ow_rd hf81) (hM.a 3 rfl)), (Enc.rd_agr (Enc.ow_rd hf84) (hM.a 4 rfl))⟩) (Enc.rd_agr (Enc.ow_rd hf95) (hM.a 0 rfl)) hx100) fun e101 w102 hR => ?_
      obtain ⟨v107, F103, rfl, hE, hf104, hfr105⟩ := hR
      refine ⟨_, rfl, fun a hK => ?_⟩
      have hM := hM.new hE F103 (fun b hb => ⟨hfr105 b hb, Enc.rd_lt (Enc.ow_rd hf104) b hb⟩) (Enc.ow_nd hf104)
      refine s1 hK rfl rfl rfl rfl fun a hK => ?_
      refine wpList_nil (nm_then ?_)
      refine wp_seq ?_
      refine wp_seq ?_
      refine wp_region_lit ?_
      iterate 2 (refine s1 hK rfl rfl rfl rfl fun a hK => ?_)
      obtain ⟨x108, hx109, h⟩ := obind_some h
      refine s_call hK Tryz.call43 rfl rfl rfl rfl rfl (c_laws_eqIntS fu _ _ (Enc.rd_agr (Enc.ow_rd hf104) (hM.a 0 rfl)) (Enc.rd_agr (Enc.ow_rd hf63) (hM.a 6 rfl)) hx109) fun e110 w111 hR => ?_
      obtain ⟨rfl, hE⟩ := hR
      refine ⟨_, rfl, fun a hK => ?_⟩
      have hM := hM.step hE
      refine s1 hK rfl rfl rfl rfl fun a hK => ?_
      refine wpList_nil (nm_then ?_)
      refine c_cond (b := !x108) hK rfl (fun hb112 => ?_) (fun hb112 => ?_)
      · have h := bif_t hb112 h
        refine wp_seq ?_
        refine wp_region_lit ?_
        refine s1 hK rfl rfl rfl rfl fun a hK => ?_
        refine wpList_nil (nm_then ?_)
        refine wp_ret (rt_then ?_)
        have h := Option.some.inj h
        subst h
        exact finR1 hK rfl (RV.tmp hK rfl) ⟨rfl, hM.ext⟩
      · have h := bif_f hb112 h
        refine wp_skip (nm_then ?_)
        refine wp_seq ?_
        refine wp_seq ?_
        refine d_go [] mixo hM rfl fun w113 hMd => ?_
        have hM := hMd
        have hS := Ext.refl ([] : List Nat) w113
        refine d_take hK 0 rfl (by kernel_rfl) (by kernel_rfl) (by kernel_rfl) rfl rfl rfl hS (fun _ _ _ h => h) (fun w hS => r_ldA ta40 (hb89.at ((hMd.step hS).a 2 rfl) 0 10 rfl rfl rfl) rfl hK rfl rfl) fun a hK => ?_
        refine d_take hK 1 rfl (by kernel_rfl) (by kernel_rfl) (by kernel_rfl) rfl rfl rfl hS (fun _ _ _ h => h) (fun w hS => r_ldA ta28 (hb19.at ((hMd.step hS).a 11 rfl) 0 10 rfl rfl rfl) rfl hK rfl rfl) fun a hK => ?_
        refine d_one 2 (by kernel_rfl) rfl ?_
        obtain ⟨x114, hx115, h⟩ := obind_some h
        refine s_call hK Tryz.call18 rfl rfl rfl rfl rfl (c_laws_toRequest fu _ (show rd _ _ [.int .i64 (aR1.fWay), .int .i64 (aR1.fPallet.fW), .int .i64 (aR1.fPallet.fD), .int .i64 (aR1.fPallet.fH), .int .i64 (aR1.fPallet.fGram), .int .i64 (aR1.fClasses), v9, v11, .int .i64 (aR1.fMaster), v13] (aR1 : Request) from ⟨_, _, _, _, _, _, rfl, rfl, (Enc.rd_agr hf15 (hM.a00 (Enc.rd_lt hf15))), (Enc.rd_agr hf16 (hM.a00 (Enc.rd_lt hf16))), (Enc.rd_agr hf17 (hM.a00 (Enc.rd_lt hf17)))⟩) hx115) fun e116 w117 hR => ?_
        obtain ⟨cs122, F118, rfl, hE, hf119, hfr120⟩ := hR
        refine ⟨_, rfl, fun a hK => ?_⟩
        have hM := hM.new hE F118 (fun b hb => ⟨hfr120 b hb, Enc.rd_lt (Enc.ow_rd hf119) b hb⟩) (Enc.ow_nd hf119)
        have hlo123 := fun (y : Nat) (hy : y ∈ F118) => Nat.le_trans hS.size (hfr120 y hy)
        obtain ⟨v124, F125, v127, F128, v130, F131, rfl, rfl, hf126, hf129, hf132, _⟩ := hf119
        have hM := hM.split2
        have hM := hM.split2at1
        have hS := hS.trans hE (by simp)
        refine wpList_nil ⟨hS, ?_⟩
        refine d_one 3 (by kernel_rfl) rfl ?_
        obtain ⟨x133, hx134, h⟩ := obind_some h
        refine s_call hK Tryz.call21 rfl rfl rfl rfl rfl (c_laws_eqRequest fu _ _ (show rd _ _ [.int .i64 (x67.fWay), .int .i64 (x67.fPallet.fW), .int .i64 (x67.fPallet.fD), .int .i64 (x67.fPallet.fH), .int .i64 (x67.fPallet.fGram), .int .i64 (x67.fClasses), v76, v79, .int .i64 (x67.fMaster), v82] (x67 : Request) from ⟨_, _, _, _, _, _, rfl, rfl, (Enc.rd_agr (Enc.ow_rd hf78) (hM.a 6 rfl)), (Enc.rd_agr (Enc.ow_rd hf81) (hM.a 7 rfl)), (Enc.rd_agr (Enc.ow_rd hf84) (hM.a 8 rfl))⟩) (show rd _ _ [.int .i64 (x114.fWay), .int .i64 (x114.fPallet.fW), .int .i64 (x114.fPallet.fD), .int .i64 (x114.fPallet.fH), .int .i64 (x114.fPallet.fGram), .int .i64 (x114.fClasses), v124, v127, .int .i64 (x114.fMaster), v130] (x114 : Request) from ⟨_, _, _, _, _, _, rfl, rfl, (Enc.rd_agr (Enc.ow_rd hf126) (hM.a 0 rfl)), (Enc.rd_agr (Enc.ow_rd hf129) (hM.a 1 rfl)), (Enc.rd_agr (Enc.ow_rd hf132) (hM.a 2 rfl))⟩) hx134) fun e135 w136 hR => ?_
        obtain ⟨rfl, hE⟩ := hR
        refine ⟨_, rfl, fun a hK => ?_⟩
        have hM := hM.step hE
        have hS := hS.trans hE (by simp)
        refine wpList_nil ⟨hS, ?_⟩
        refine d_pure hK 4 rfl (by kernel_rfl) (by kernel_rfl) (by kernel_rfl) rfl rfl rfl hS (fun _ _ _ h => h) rfl fun a hK => ?_
        refine d_done (by kernel_rfl) ?_
        refine (nm_then ?_)
        refine c_cond (b := !x133) hK rfl (fun hb137 => ?_) (fun hb137 => ?_)
        · have h := bif_t hb137 h
          refine wp_seq ?_
          refine wp_region_lit ?_
          refine s1 hK rfl rfl rfl rfl fun a hK => ?_
          refine wpList_nil (nm_then ?_)
          refine wp_ret (rt_then ?_)
          have h := Option.some.inj h
          subst h
          exact finR1 hK rfl (RV.tmp hK rfl) ⟨rfl, hM.ext⟩
        · have h := bif_f hb137 h
          refine wp_skip (nm_then ?_)
          refine wp_seq ?_
          refine wp_seq ?_
          refine wp_region_lit ?_
          iterate 2 (refine s1 hK rfl rfl rfl rfl fun a hK => ?_)
          obtain ⟨x138, hx139, h⟩ := obind_some h
          refine s_call hK Tryz.call41 rfl rfl rfl rfl rfl (c_laws_toCartonS fu _ (Enc.rd_agr hp8 (hM.a00 (Enc.rd_lt hp8))) hx139) fun e140 w141 hR => ?_
          obtain ⟨v146, F142, rfl, hE, hf143, hfr144⟩ := hR
          refine ⟨_, rfl, fun a hK => ?_⟩
          have hM := hM.new hE F142 (fun b hb => ⟨hfr144 b hb, Enc.rd_lt (Enc.ow_rd hf143) b hb⟩) (Enc.ow_nd hf143)
          obtain ⟨x147, hx148, h⟩ := obind_some h
          refine s_call hK Tryz.call44 rfl rfl rfl rfl rfl (c_laws_eqCartonS fu _ _ (Enc.rd_agr (Enc.ow_rd hf95) (hM.a 5 rfl)) (Enc.rd_agr (Enc.ow_rd hf143) (hM.a 0 rfl)) hx148) fun e149 w150 hR => ?_
          obtain ⟨rfl, hE⟩ := hR
          refine ⟨_, rfl, fun a hK => ?_⟩
          have hM := hM.step hE
          refine s1 hK rfl rfl rfl rfl fun a hK => ?_
          have hK := hK.keep [1, 2, 6, 7, 8, 9, 49] rfl
          refine wpList_nil (nm_then ?_)
          refine c_cond (b := !x147) hK rfl (fun hb151 => ?_) (fun hb151 => ?_)
          · have h := bif_t hb151 h
            refine wp_seq ?_
            refine wp_region_lit ?_
            refine s1 hK rfl rfl rfl rfl fun a hK => ?_
            refine wpList_nil (nm_then ?_)
            refine wp_ret (rt_then ?_)
            have h := Option.some.inj h
            subst h
            exact finR1 hK rfl (RV.tmp hK rfl) ⟨rfl, hM.ext⟩
          · have h := bif_f hb151 h
            refine wp_skip (nm_then ?_)
            refine wp_seq ?_
            refine wp_region_lit ?_
            refine s1 hK rfl rfl rfl rfl fun a hK => ?_
            refine wpList_nil (nm_then ?_)
            refine wp_seq ?_
            refine wp_region_lit ?_
            refine s_val hK rfl rfl rfl (r_ldB ta40 hM 6 hb89 0 hK rfl rfl rfl rfl rfl rfl) fun a hK => ?_
            refine s1 hK rfl rfl rfl rfl fun a hK => ?_
            have hy152 : ow _ (F77 ++ (F80 ++ (F83))) [.int .i64 (x67.fWay), .int .i64 (x67.fPallet.fW), .int .i64 (x67.fPallet.fD), .int .i64 (x67.fPallet.fH), .int .i64 (x67.fPallet.fGram), .int .i64 (x67.fClasses), v76, v79, .int .i64 (x67.fMaster), v82] (x67 : Request) := ⟨_, _, _, _, _, _, rfl, rfl, (Enc.ow_agr hf78 (hM.a 7 rfl)), (Enc.ow_agr hf81 (hM.a 8 rfl)), (Enc.ow_agr hf84 (hM.a 9 rfl)), by simpa [fps] using (hM.sel [7, 8, 9] rfl (by decide)).nd⟩
            have hM := hM.sel [7, 8, 9, 0, 1, 2, 3, 4, 5, 6, 10, 11, 12, 13, 14, 15] rfl (by decide)
            have hM := hM.join3
            obtain ⟨x153, hx154, h⟩ := obind_some h
            refine s_call hK Tryz.call26 rfl rfl rfl rfl rfl (c_laws_markRequest fu _ _ hy152 hx154) fun e155 w156 hR => ?_
            obtain ⟨F159, rfl, hE, hlo158, hf157⟩ := hR
            refine ⟨_, rfl, fun a hK => ?_⟩
            have hM := hM.mut 0 rfl hE _ (fun b hb => ⟨hlo158 b hb, Enc.rd_lt (Enc.ow_rd hf157) b hb⟩) (Enc.ow_nd hf157)
            obtain ⟨v160, F161, v163, F164, v166, F167, heq169, rfl, hf162, hf165, hf168, _⟩ := hf157
            have hM := hM.toFront 0 rfl
            have hM := hM.split2
            have hM := hM.split2at1
            have he170 : v76 = v160 := by have := congrArg (fun l : List Value => l[6]?) heq169; simpa using this
            subst he170
            have he171 : v79 = v163 := by have := congrArg (fun l : List Value => l[7]?) heq169; simpa using this
            subst he171
            have he172 : v82 = v166 := by have := congrArg (fun l : List Value => l[9]?) heq169; simpa using this
            subst he172
            refine s1 hK rfl rfl rfl rfl fun a hK => ?_
            refine wpList_nil (nm_then ?_)
            refine wp_seq ?_
            refine wp_region_lit ?_
            iterate 2 (refine s1 hK rfl rfl rfl rfl fun a hK => ?_)
            obtain ⟨x173, hx174, h⟩ := obind_some h
            refine s_call hK Tryz.call45 rfl rfl rfl rfl rfl (c_laws_markCartonS fu _ _ (Enc.ow_agr hf95 (hM.a 8 rfl)) hx174) fun e175 w176 hR => ?_
            obtain ⟨F179, rfl, hE, hlo178, hf177⟩ := hR
            refine ⟨_, rfl, fun a hK => ?_⟩
            have hM := hM.mut 8 rfl hE _ (fun b hb => ⟨hlo178 b hb, Enc.rd_lt (Enc.ow_rd hf177) b hb⟩) (Enc.ow_nd hf177)
            refine s1 hK rfl rfl rfl rfl fun a hK => ?_
            refine wpList_nil (nm_then ?_)
            refine c_cut (fun a w => K 92 [(1, v6), (2, .pointer (some (⟨b18, 0, none⟩ : Addr))), (6, v66), (9, v107)] a ∧ St [] w0 w [([b18], w20), (F62, w61), (F103, w102)] ∧ d_laws_FnExactFills_J1 fu aR1 aList5 x58 x99 = some r) ?_ ?_
            · rintro a w186 ⟨hK, hM, h⟩
              unfold d_laws_FnExactFills_J1 at h
              refine wp_seq ?_
              refine wp_region_lit ?_
              refine s1 hK rfl rfl rfl rfl fun a hK => ?_
              refine wpList_nil (nm_then ?_)
              refine wp_seq ?_
              refine wp_region_lit ?_
              iterate 2 (refine s1 hK rfl rfl rfl rfl fun a hK => ?_)
              obtain ⟨x187, hx188, h⟩ := obind_some h
              refine s_call hK Tryz.call46 rfl rfl rfl rfl rfl (c_laws_markIntS fu _ _ (Enc.ow_agr hf104 (hM.a 2 rfl)) hx188) fun e189 w190 hR => ?_
              obtain ⟨F193, rfl, hE, hlo192, hf191⟩ := hR
              refine ⟨_, rfl, fun a hK => ?_⟩
              have hM := hM.mut 2 rfl hE _ (fun b hb => ⟨hlo192 b hb, Enc.rd_lt (Enc.ow_rd hf191) b hb⟩) (Enc.ow_nd hf191)
              refine s1 hK rfl rfl rfl rfl fun a hK => ?_
              refine wpList_nil (nm_then ?_)
              refine wp_seq ?_
              refine wp_region_lit ?_
              refine s1 hK rfl rfl rfl rfl fun a hK => ?_
              refine wpList_nil (nm_then ?_)
              refine wp_seq ?_
              refine wp_region_lit ?_
              iterate 2 (refine s1 hK rfl rfl rfl rfl fun a hK => ?_)
              obtain ⟨x194, hx195, h⟩ := obind_some h
              refine s_call hK Tryz.call47 rfl rfl rfl rfl rfl (c_laws_heldIntS fu _ _ (Enc.rd_agr (Enc.ow_rd hf191) (hM.a 2 rfl)) hx195) fun e196 w197 hR => ?_
              obtain ⟨rfl, hE⟩ := hR
              refine ⟨_, rfl, fun a hK => ?_⟩
              have hM := hM.step hE
              refine s1 hK rfl rfl rfl rfl fun a hK => ?_
              refine wpList_nil (nm_then ?_)
              refine wp_seq ?_
              refine wp_seq ?_
              refine wp_region_lit ?_
              iterate 2 (refine s1 hK rfl rfl rfl rfl fun a hK => ?_)
              refine wpList_nil (nm_then ?_)
              refine c_cond (b := decide (x194 < 0)) hK rfl (fun hb198 => ?_) (fun hb198 => ?_)
              · have h := bif_t hb198 h
                refine wp_seq ?_
                refine wp_region_lit ?_
                refine s1 hK rfl rfl rfl rfl fun a hK => ?_
                refine wpList_nil (nm_then ?_)
                refine wp_ret (rt_then ?_)
                have h := Option.some.inj h
                subst h
                exact finR1 hK rfl (RV.tmp hK rfl) ⟨rfl, hM.ext⟩
              · have h := bif_f hb198 h
                refine wp_skip (nm_then ?_)
                refine wp_seq ?_
                refine wp_seq ?_
                refine wp_region_lit ?_
                iterate 3 (refine s1 hK rfl rfl rfl rfl fun a hK => ?_)
                refine wpList_nil (nm_then ?_)
                refine c_cond (b := x194 != x187.1) hK rfl (fun hb199 => ?_) (fun hb199 => ?_)
                · have h := bif_t hb199 h
                  refine wp_seq ?_
                  refine wp_region_lit ?_
                  refine s1 hK rfl rfl rfl rfl fun a hK => ?_
                  refine wpList_nil (nm_then ?_)
                  refine wp_ret (rt_then ?_)
                  have h := Option.some.inj h
                  subst h
                  exact finR1 hK rfl (RV.tmp hK rfl) ⟨rfl, hM.ext⟩
                · have h := bif_f hb199 h
                  refine wp_skip (nm_then ?_)
                  refine wp_seq ?_
                  refine wp_region_lit ?_
                  refine s_val hK rfl rfl rfl (r_ldB ta28 hM 0 hb19 0 hK rfl rfl rfl rfl rfl rfl) fun a hK => ?_
                  obtain ⟨x200, hx201, h⟩ := obind_some h
                  refine s_call hK Tryz.call18 rfl rfl rfl rfl rfl (c_laws_toRequest fu _ (show rd _ _ [.int .i64 (aR1.fWay), .int .i64 (aR1.fPallet.fW), .int .i64 (aR1.fPallet.fD), .int .i64 (aR1.fPallet.fH), .int .i64 (aR1.fPallet.fGram), .int .i64 (aR1.fClasses), v9, v11, .int .i64 (aR1.fMaster), v13] (aR1 : Request) from ⟨_, _, _, _, _, _, rfl, rfl, (Enc.rd_agr hf15 (hM.a00 (Enc.rd_lt hf15))), (Enc.rd_agr hf16 (hM.a00 (Enc.rd_lt hf16))), (Enc.rd_agr hf17 (hM.a00 (Enc.rd_lt hf17)))⟩) hx201) fun e202 w203 hR => ?_
                  obtain ⟨cs208, F204, rfl, hE, hf205, hfr206⟩ := hR
                  refine ⟨_, rfl, fun a hK => ?_⟩
                  have hM := hM.new hE F204 (fun b hb => ⟨hfr206 b hb, Enc.rd_lt (Enc.ow_rd hf205) b hb⟩) (Enc.ow_nd hf205)
                  obtain ⟨v209, F210, v212, F213, v215, F216, rfl, rfl, hf211, hf214, hf217, _⟩ := hf205
                  have hM := hM.split2
                  have hM := hM.split2at1
                  refine s1 hK rfl rfl rfl rfl fun a hK => ?_
                  obtain ⟨x218, hx219, h⟩ := obind_some h
                  refine s_call hK Tryz.call41 rfl rfl rfl rfl rfl (c_laws_toCartonS fu _ (Enc.rd_agr hp8 (hM.a00 (Enc.rd_lt hp8))) hx219) fun e220 w221 hR => ?_
                  obtain ⟨v226, F222, rfl, hE, hf223, hfr224⟩ := hR
                  refine ⟨_, rfl, fun a hK => ?_⟩
                  have hM := hM.new hE F222 (fun b hb => ⟨hfr224 b hb, Enc.rd_lt (Enc.ow_rd hf223) b hb⟩) (Enc.ow_nd hf223)
                  obtain ⟨x227, hx228, h⟩ := obind_some h
                  refine s_call hK Tryz.call42 rfl rfl rfl rfl rfl (c_impl_Fills fu _ _ (show rd _ _ [.int .i64 (x200.fWay), .int .i64 (x200.fPallet.fW), .int .i64 (x200.fPallet.fD), .int .i64 (x200.fPallet.fH), .int .i64 (x200.fPallet.fGram), .int .i64 (x200.fClasses), v209, v212, .int .i64 (x200.fMaster), v215] (x200 : Request) from ⟨_, _, _, _, _, _, rfl, rfl, (Enc.rd_agr (Enc.ow_rd hf211) (hM.a 1 rfl)), (Enc.rd_agr (Enc.ow_rd hf214) (hM.a 2 rfl)), (Enc.rd_agr (Enc.ow_rd hf217) (hM.a 3 rfl))⟩) (Enc.rd_agr (Enc.ow_rd hf223) (hM.a 0 rfl)) hx228) fun e229 w230 hR => ?_
                  obtain ⟨v235, F231, rfl, hE, hf232, hfr233⟩ := hR
                  refine ⟨_, rfl, fun a hK => ?_⟩
                  have hM := hM.new hE F231 (fun b hb => ⟨hfr233 b hb, Enc.rd_lt (Enc.ow_rd hf232) b hb⟩) (Enc.ow_nd hf232)
                  refine s1 hK rfl rfl rfl rfl fun a hK => ?_
                  refine wpList_nil (nm_then ?_)
                  refine wp_seq ?_
                  refine wp_seq ?_
                  refine wp_region_lit ?_
                  iterate 2 (refine s1 hK rfl rfl rfl rfl fun a hK => ?_)
                  obtain ⟨x236, hx237, h⟩ := obind_some h
                  refine s_call hK Tryz.call43 rfl rfl rfl rfl rfl (c_laws_eqIntS fu _ _ (Enc.rd_agr (Enc.ow_rd hf232) (hM.a 0 rfl)) (Enc.rd_agr (Enc.ow_rd hf63) (hM.a 6 rfl)) hx237) fun e238 w239 hR => ?_
                  obtain ⟨rfl, hE⟩ := hR
                  refine ⟨_, rfl, fun a hK => ?_⟩
                  have hM := hM.step hE
                  refine s1 hK rfl rfl rfl rfl fun a hK => ?_
                  have hK := hK.keep [9, 11, 83] rfl
                  refine wpList_nil (nm_then ?_)
                  refine c_cond (b := !x236) hK rfl (fun hb240 => ?_) (fun hb240 => ?_)
                  · have h := bif_t hb240 h
                    refine wp_seq ?_
                    refine wp_region_lit ?_
                    refine s1 hK rfl rfl rfl rfl fun a hK => ?_
                    refine wpList_nil (nm_then ?_)
                    refine wp_ret (rt_then ?_)
                    have h := Option.some.inj h
                    subst h
                    exact finR1 hK rfl (RV.tmp hK rfl) ⟨rfl, hM.ext⟩
                  · have h := bif_f hb240 h
                    refine wp_skip (nm_then ?_)
                    refine wp_seq ?_
                    refine wp_region_lit ?_
                    refine s1 hK rfl rfl rfl rfl fun a hK => ?_
                    refine wpList_nil (nm_then ?_)
                    refine wp_seq ?_
                    refine wp_region_lit ?_
                    iterate 2 (refine s1 hK rfl rfl rfl rfl fun a hK => ?_)
                    obtain ⟨x241, hx242, h⟩ := obind_some h
                    refine s_call hK Tryz.call47 rfl rfl rfl rfl rfl (c_laws_heldIntS fu _ _ (Enc.rd_agr (Enc.ow_rd hf191) (hM.a 7 rfl)) hx242) fun e243 w244 hR => ?_
                    obtain ⟨rfl, hE⟩ := hR
                    refine ⟨_, rfl, fun a hK => ?_⟩
                    have hM := hM.step hE
                    refine s1 hK rfl rfl rfl rfl fun a hK => ?_
                    refine wpList_nil (nm_then ?_)
                    refine wp_seq ?_
                    refine wp_seq ?_
                    refine wp_region_lit ?_
                    iterate 2 (refine s1 hK rfl rfl rfl rfl fun a hK => ?_)
                    refine wpList_nil (nm_then ?_)
                    refine c_cond (b := decide (x241 < 0)) hK rfl (fun hb245 => ?_) (fun hb245 => ?_)
                    · have h := bif_t hb245 h
                      refine wp_seq ?_
                      refine wp_region_lit ?_
                      refine s1 hK rfl rfl rfl rfl fun a hK => ?_
                      refine wpList_nil (nm_then ?_)
                      refine wp_ret (rt_then ?_)
                      have h := Option.some.inj h
                      subst h
                      exact finR1 hK rfl (RV.tmp hK rfl) ⟨rfl, hM.ext⟩
                    · have h := bif_f hb245 h
                      refine wp_skip (nm_then ?_)
                      refine wp_seq ?_
                      refine wp_seq ?_
                      refine wp_region_lit ?_
                      iterate 3 (refine s1 hK rfl rfl rfl rfl fun a hK => ?_)
                      refine wpList_nil (nm_then ?_)
                      refine c_cond (b := x241 != x187.1) hK rfl (fun hb246 => ?_) (fun hb246 => ?_)
                      · have h := bif_t hb246 h
                        refine wp_seq ?_
                        refine wp_region_lit ?_
                        refine s1 hK rfl rfl rfl rfl fun a hK => ?_
                        refine wpList_nil (nm_then ?_)
                        refine wp_ret (rt_then ?_)
                        have h := Option.some.inj h
                        subst h
                        exact finR1 hK rfl (RV.tmp hK rfl) ⟨rfl, hM.ext⟩
                      · have h := bif_f hb246 h
                        refine wp_skip (nm_then ?_)
                        refine wp_seq ?_
                        refine wp_region_lit ?_
                        refine s1 hK rfl rfl rfl rfl fun a hK => ?_
                        refine wpList_nil (nm_then ?_)
                        refine wp_ret ?_
                        have h := Option.some.inj h
                        subst h
                        exact finR1 hK rfl (RV.tmp hK rfl) ⟨rfl, hM.ext⟩
            · refine wp_seq ?_
              refine wp_region_lit ?_
              iterate 3 (refine s1 hK rfl rfl rfl rfl fun a hK => ?_)
              refine bsplit (decide (x173.1 < 0)) (fun hb247 => ?_) (fun hb247 => ?_)
              · have h := bif_t hb247 h
                have hK := hK.re (d := 58) rfl (congrArg Value.bool hb247)
                refine sk hK rfl rfl rfl fun a hK => ?_
                refine sk hK rfl rfl rfl fun a hK => ?_
                refine sk hK rfl rfl rfl fun a hK => ?_
                refine sk hK rfl rfl rfl fun a hK => ?_
                refine s1 hK rfl rfl rfl rfl fun a hK => ?_
                refine wpList_nil (nm_then ?_)
                refine wp_cond_true (hK.ev rfl) ?_
                refine wp_seq ?_
                refine wp_region_lit ?_
                refine s1 hK rfl rfl rfl rfl fun a hK => ?_
                have hK := hK.keep [4] rfl
                refine wpList_nil (nm_then ?_)
                refine wp_ret (rt_then ?_)
                have h := Option.some.inj h
                subst h
                exact finR1 hK rfl (RV.tmp hK rfl) ⟨rfl, hM.ext⟩
              · have h := bif_f hb247 h
                have hK := hK.re (d := 58) rfl (congrArg Value.bool hb247)
                iterate 2 (refine s1 hK rfl rfl rfl rfl fun a hK => ?_)
                obtain ⟨x248, hx249, h⟩ := obind_some h
                refine s_call hK Tryz.call43 rfl rfl rfl rfl rfl (c_laws_eqIntS fu _ _ (Enc.rd_agr (Enc.ow_rd hf104) (hM.a 7 rfl)) (Enc.rd_agr (Enc.ow_rd hf63) (hM.a 10 rfl)) hx249) fun e250 w251 hR => ?_
                obtain ⟨rfl, hE⟩ := hR
                refine ⟨_, rfl, fun a hK => ?_⟩
                have hM := hM.step hE
                iterate 2 (refine s1 hK rfl rfl rfl rfl fun a hK => ?_)
                refine wpList_nil (nm_then ?_)
                refine c_cond (b := !x248) hK rfl (fun hb252 => ?_) (fun hb252 => ?_)
                · have h := bif_t hb252 h
                  refine wp_seq ?_
                  refine wp_region_lit ?_
                  refine s1 hK rfl rfl rfl rfl fun a hK => ?_
                  have hK := hK.keep [4] rfl
                  refine wpList_nil (nm_then ?_)
                  refine wp_ret (rt_then ?_)
                  have h := Option.some.inj h
                  subst h
                  exact finR1 hK rfl (RV.tmp hK rfl) ⟨rfl, hM.ext⟩
                · have h := bif_f hb252 h
                  refine wp_skip (nm_then ?_)
                  exact ⟨hK.keep [1, 2, 6, 9] rfl, hM.sel [15, 10, 7] rfl (by decide), h⟩

end Go.Proofs.YthjbcfefkdbgoaaGreat
