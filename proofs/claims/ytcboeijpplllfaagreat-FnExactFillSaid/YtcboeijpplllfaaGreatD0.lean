/- The structures of the program as Lean structures, and how they lie in memory. Printed by gen.py. -/
import Derived.Test.YtcboeijpplllfaaGreatS6
set_option linter.unusedSimpArgs false
set_option linter.unusedVariables false
namespace Go.Proofs.YtcboeijpplllfaaGreat
open Go Go.RowKit
open Enc (rd ow)
open Arg (argv)
open Ret (retv)
structure Pallet where
 fW:Int
 fD:Int
 fH:Int
 fGram:Int
 deriving DecidableEq
instance:Flat Pallet:=⟨4,fun x=>[.int .i64 (x.fW),.int .i64 (x.fD),.int .i64 (x.fH),.int .i64 (x.fGram)],fun _=>rfl,fun x=>by intro c hc; simp only [List.mem_cons,List.not_mem_nil,or_false] at hc; rcases hc with rfl | rfl | rfl | rfl <;> rfl⟩
instance:Arg Pallet:=⟨fun _ v x=>v = .agg (Flat.e x).toArray⟩
instance:Ret Pallet:=⟨fun x=>.agg (Flat.e x).toArray⟩
structure Pair where
 fA:Int
 fB:Int
 deriving DecidableEq
instance:Flat Pair:=⟨2,fun x=>[.int .i64 (x.fA),.int .i64 (x.fB)],fun _=>rfl,fun x=>by intro c hc; simp only [List.mem_cons,List.not_mem_nil,or_false] at hc; rcases hc with rfl | rfl <;> rfl⟩
instance:Arg Pair:=⟨fun _ v x=>v = .agg (Flat.e x).toArray⟩
instance:Ret Pair:=⟨fun x=>.agg (Flat.e x).toArray⟩
structure Typ where
 fId:Int
 fW:Int
 fH:Int
 fD:Int
 fTare:Int
 fGram:Int
 fCost:Int
 deriving DecidableEq
instance:Flat Typ:=⟨7,fun x=>[.int .i64 (x.fId),.int .i64 (x.fW),.int .i64 (x.fH),.int .i64 (x.fD),.int .i64 (x.fTare),.int .i64 (x.fGram),.int .i64 (x.fCost)],fun _=>rfl,fun x=>by intro c hc; simp only [List.mem_cons,List.not_mem_nil,or_false] at hc; rcases hc with rfl | rfl | rfl | rfl | rfl | rfl | rfl <;> rfl⟩
instance:Arg Typ:=⟨fun _ v x=>v = .agg (Flat.e x).toArray⟩
instance:Ret Typ:=⟨fun x=>.agg (Flat.e x).toArray⟩
structure Item where
 fId:Int
 fW:Int
 fH:Int
 fD:Int
 fGram:Int
 fClass:Int
 fCount:Int
 deriving DecidableEq
instance:Flat Item:=⟨7,fun x=>[.int .i64 (x.fId),.int .i64 (x.fW),.int .i64 (x.fH),.int .i64 (x.fD),.int .i64 (x.fGram),.int .i64 (x.fClass),.int .i64 (x.fCount)],fun _=>rfl,fun x=>by intro c hc; simp only [List.mem_cons,List.not_mem_nil,or_false] at hc; rcases hc with rfl | rfl | rfl | rfl | rfl | rfl | rfl <;> rfl⟩
instance:Arg Item:=⟨fun _ v x=>v = .agg (Flat.e x).toArray⟩
instance:Ret Item:=⟨fun x=>.agg (Flat.e x).toArray⟩
structure Request where
 fWay:Int
 fPallet:Pallet
 fClasses:Int
 fPairs:List Pair
 fTypes:List Typ
 fMaster:Int
 fItems:List Item
instance:Enc Request where
 sz:=10
 rd:=fun w F cs x=>∃ (c0:Value) (F0:List Nat) (c1:Value) (F1:List Nat) (c2:Value) (F2:List Nat),cs = [.int .i64 (x.fWay),.int .i64 (x.fPallet.fW),.int .i64 (x.fPallet.fD),.int .i64 (x.fPallet.fH),.int .i64 (x.fPallet.fGram),.int .i64 (x.fClasses),c0,c1,.int .i64 (x.fMaster),c2] ∧ F = F0 ++ (F1 ++ (F2)) ∧ rd w F0 [c0] x.fPairs ∧ rd w F1 [c1] x.fTypes ∧ rd w F2 [c2] x.fItems
 ow:=fun w F cs x=>∃ (c0:Value) (F0:List Nat) (c1:Value) (F1:List Nat) (c2:Value) (F2:List Nat),cs = [.int .i64 (x.fWay),.int .i64 (x.fPallet.fW),.int .i64 (x.fPallet.fD),.int .i64 (x.fPallet.fH),.int .i64 (x.fPallet.fGram),.int .i64 (x.fClasses),c0,c1,.int .i64 (x.fMaster),c2] ∧ F = F0 ++ (F1 ++ (F2)) ∧ ow w F0 [c0] x.fPairs ∧ ow w F1 [c1] x.fTypes ∧ ow w F2 [c2] x.fItems ∧ F.Nodup
 rd_sz:=fun h=>by obtain ⟨c0,F0,c1,F1,c2,F2,rfl,rfl,h0,h1,h2⟩:=h; rfl
 rd_one:=fun h=>by
  obtain ⟨c0,F0,c1,F1,c2,F2,rfl,rfl,h0,h1,h2⟩:=h
  intro c hc
  simp only [List.mem_cons,List.not_mem_nil,or_false] at hc
  rcases hc with rfl | rfl | rfl | rfl | rfl | rfl | rfl | rfl | rfl | rfl <;> first | rfl | exact Enc.rd_one h0 _ (List.mem_singleton.2 rfl) | exact Enc.rd_one h1 _ (List.mem_singleton.2 rfl) | exact Enc.rd_one h2 _ (List.mem_singleton.2 rfl)
 ow_rd:=fun h=>by obtain ⟨c0,F0,c1,F1,c2,F2,rfl,rfl,h0,h1,h2,_⟩:=h; exact ⟨c0,_,c1,_,c2,_,rfl,rfl,Enc.ow_rd h0,Enc.ow_rd h1,Enc.ow_rd h2⟩
 rd_lt:=fun h=>by
  obtain ⟨c0,F0,c1,F1,c2,F2,rfl,rfl,h0,h1,h2⟩:=h
  intro b hb
  simp only [List.mem_append] at hb
  rcases hb with hb | hb | hb
  · exact Enc.rd_lt h0 b hb
  · exact Enc.rd_lt h1 b hb
  · exact Enc.rd_lt h2 b hb
 rd_agr:=fun h hA=>by obtain ⟨c0,F0,c1,F1,c2,F2,rfl,rfl,h0,h1,h2⟩:=h; exact ⟨c0,_,c1,_,c2,_,rfl,rfl,Enc.rd_agr h0 (hA.sub (fun b hb=>List.mem_append_left _ hb)),Enc.rd_agr h1 (hA.sub (fun b hb=>List.mem_append_right _ (List.mem_append_left _ hb))),Enc.rd_agr h2 (hA.sub (fun b hb=>List.mem_append_right _ (List.mem_append_right _ (hb))))⟩
 ow_agr:=fun h hA=>by obtain ⟨c0,F0,c1,F1,c2,F2,rfl,rfl,h0,h1,h2,hn⟩:=h; exact ⟨c0,_,c1,_,c2,_,rfl,rfl,Enc.ow_agr h0 (hA.sub (fun b hb=>List.mem_append_left _ hb)),Enc.ow_agr h1 (hA.sub (fun b hb=>List.mem_append_right _ (List.mem_append_left _ hb))),Enc.ow_agr h2 (hA.sub (fun b hb=>List.mem_append_right _ (List.mem_append_right _ (hb)))),hn⟩
 ow_nd:=fun h=>by obtain ⟨c0,F0,c1,F1,c2,F2,_,_,_,_,_,hn⟩:=h; exact hn
instance:Arg Request:=⟨fun w v x=>∃ cs F,v = .agg cs.toArray ∧ rd w F cs x⟩
structure Carton where
 fType:Int
 fGroup:Int
 fUnits:List Int
instance:Enc Carton where
 sz:=3
 rd:=fun w F cs x=>∃ (c0:Value) (F0:List Nat),cs = [.int .i64 (x.fType),.int .i64 (x.fGroup),c0] ∧ F = F0 ∧ rd w F0 [c0] x.fUnits
 ow:=fun w F cs x=>∃ (c0:Value) (F0:List Nat),cs = [.int .i64 (x.fType),.int .i64 (x.fGroup),c0] ∧ F = F0 ∧ ow w F0 [c0] x.fUnits ∧ F.Nodup
 rd_sz:=fun h=>by obtain ⟨c0,F0,rfl,rfl,h0⟩:=h; rfl
 rd_one:=fun h=>by
  obtain ⟨c0,F0,rfl,rfl,h0⟩:=h
  intro c hc
  simp only [List.mem_cons,List.not_mem_nil,or_false] at hc
  rcases hc with rfl | rfl | rfl <;> first | rfl | exact Enc.rd_one h0 _ (List.mem_singleton.2 rfl)
 ow_rd:=fun h=>by obtain ⟨c0,F0,rfl,rfl,h0,_⟩:=h; exact ⟨c0,_,rfl,rfl,Enc.ow_rd h0⟩
 rd_lt:=fun h=>by
  obtain ⟨c0,F0,rfl,rfl,h0⟩:=h
  intro b hb
  exact Enc.rd_lt h0 b hb
 rd_agr:=fun h hA=>by obtain ⟨c0,F0,rfl,rfl,h0⟩:=h; exact ⟨c0,_,rfl,rfl,Enc.rd_agr h0 hA⟩
 ow_agr:=fun h hA=>by obtain ⟨c0,F0,rfl,rfl,h0,hn⟩:=h; exact ⟨c0,_,rfl,rfl,Enc.ow_agr h0 hA,hn⟩
 ow_nd:=fun h=>by obtain ⟨c0,F0,_,_,_,hn⟩:=h; exact hn
instance:Arg Carton:=⟨fun w v x=>∃ cs F,v = .agg cs.toArray ∧ rd w F cs x⟩
structure Spot where
 fPallet:Int
 fX:Int
 fY:Int
 fZ:Int
 deriving DecidableEq
instance:Flat Spot:=⟨4,fun x=>[.int .i64 (x.fPallet),.int .i64 (x.fX),.int .i64 (x.fY),.int .i64 (x.fZ)],fun _=>rfl,fun x=>by intro c hc; simp only [List.mem_cons,List.not_mem_nil,or_false] at hc; rcases hc with rfl | rfl | rfl | rfl <;> rfl⟩
instance:Arg Spot:=⟨fun _ v x=>v = .agg (Flat.e x).toArray⟩
instance:Ret Spot:=⟨fun x=>.agg (Flat.e x).toArray⟩
structure Plan where
 fCartons:List Carton
 fSpots:List Spot
instance:Enc Plan where
 sz:=2
 rd:=fun w F cs x=>∃ (c0:Value) (F0:List Nat) (c1:Value) (F1:List Nat),cs = [c0,c1] ∧ F = F0 ++ (F1) ∧ rd w F0 [c0] x.fCartons ∧ rd w F1 [c1] x.fSpots
 ow:=fun w F cs x=>∃ (c0:Value) (F0:List Nat) (c1:Value) (F1:List Nat),cs = [c0,c1] ∧ F = F0 ++ (F1) ∧ ow w F0 [c0] x.fCartons ∧ ow w F1 [c1] x.fSpots ∧ F.Nodup
 rd_sz:=fun h=>by obtain ⟨c0,F0,c1,F1,rfl,rfl,h0,h1⟩:=h; rfl
 rd_one:=fun h=>by
  obtain ⟨c0,F0,c1,F1,rfl,rfl,h0,h1⟩:=h
  intro c hc
  simp only [List.mem_cons,List.not_mem_nil,or_false] at hc
  rcases hc with rfl | rfl <;> first | rfl | exact Enc.rd_one h0 _ (List.mem_singleton.2 rfl) | exact Enc.rd_one h1 _ (List.mem_singleton.2 rfl)
 ow_rd:=fun h=>by obtain ⟨c0,F0,c1,F1,rfl,rfl,h0,h1,_⟩:=h; exact ⟨c0,_,c1,_,rfl,rfl,Enc.ow_rd h0,Enc.ow_rd h1⟩
 rd_lt:=fun h=>by
  obtain ⟨c0,F0,c1,F1,rfl,rfl,h0,h1⟩:=h
  intro b hb
  simp only [List.mem_append] at hb
  rcases hb with hb | hb
  · exact Enc.rd_lt h0 b hb
  · exact Enc.rd_lt h1 b hb
 rd_agr:=fun h hA=>by obtain ⟨c0,F0,c1,F1,rfl,rfl,h0,h1⟩:=h; exact ⟨c0,_,c1,_,rfl,rfl,Enc.rd_agr h0 (hA.sub (fun b hb=>List.mem_append_left _ hb)),Enc.rd_agr h1 (hA.sub (fun b hb=>List.mem_append_right _ (hb)))⟩
 ow_agr:=fun h hA=>by obtain ⟨c0,F0,c1,F1,rfl,rfl,h0,h1,hn⟩:=h; exact ⟨c0,_,c1,_,rfl,rfl,Enc.ow_agr h0 (hA.sub (fun b hb=>List.mem_append_left _ hb)),Enc.ow_agr h1 (hA.sub (fun b hb=>List.mem_append_right _ (hb))),hn⟩
 ow_nd:=fun h=>by obtain ⟨c0,F0,c1,F1,_,_,_,_,hn⟩:=h; exact hn
instance:Arg Plan:=⟨fun w v x=>∃ cs F,v = .agg cs.toArray ∧ rd w F cs x⟩
structure Box where
 fW:Int
 fD:Int
 fH:Int
 fGram:Int
 deriving DecidableEq
instance:Flat Box:=⟨4,fun x=>[.int .i64 (x.fW),.int .i64 (x.fD),.int .i64 (x.fH),.int .i64 (x.fGram)],fun _=>rfl,fun x=>by intro c hc; simp only [List.mem_cons,List.not_mem_nil,or_false] at hc; rcases hc with rfl | rfl | rfl | rfl <;> rfl⟩
instance:Arg Box:=⟨fun _ v x=>v = .agg (Flat.e x).toArray⟩
instance:Ret Box:=⟨fun x=>.agg (Flat.e x).toArray⟩
structure Load where
 fLayers:List Int
 fH:Int
 fGram:Int
instance:Enc Load where
 sz:=3
 rd:=fun w F cs x=>∃ (c0:Value) (F0:List Nat),cs = [c0,.int .i64 (x.fH),.int .i64 (x.fGram)] ∧ F = F0 ∧ rd w F0 [c0] x.fLayers
 ow:=fun w F cs x=>∃ (c0:Value) (F0:List Nat),cs = [c0,.int .i64 (x.fH),.int .i64 (x.fGram)] ∧ F = F0 ∧ ow w F0 [c0] x.fLayers ∧ F.Nodup
 rd_sz:=fun h=>by obtain ⟨c0,F0,rfl,rfl,h0⟩:=h; rfl
 rd_one:=fun h=>by
  obtain ⟨c0,F0,rfl,rfl,h0⟩:=h
  intro c hc
  simp only [List.mem_cons,List.not_mem_nil,or_false] at hc
  rcases hc with rfl | rfl | rfl <;> first | rfl | exact Enc.rd_one h0 _ (List.mem_singleton.2 rfl)
 ow_rd:=fun h=>by obtain ⟨c0,F0,rfl,rfl,h0,_⟩:=h; exact ⟨c0,_,rfl,rfl,Enc.ow_rd h0⟩
 rd_lt:=fun h=>by
  obtain ⟨c0,F0,rfl,rfl,h0⟩:=h
  intro b hb
  exact Enc.rd_lt h0 b hb
 rd_agr:=fun h hA=>by obtain ⟨c0,F0,rfl,rfl,h0⟩:=h; exact ⟨c0,_,rfl,rfl,Enc.rd_agr h0 hA⟩
 ow_agr:=fun h hA=>by obtain ⟨c0,F0,rfl,rfl,h0,hn⟩:=h; exact ⟨c0,_,rfl,rfl,Enc.ow_agr h0 hA,hn⟩
 ow_nd:=fun h=>by obtain ⟨c0,F0,_,_,_,hn⟩:=h; exact hn
instance:Arg Load:=⟨fun w v x=>∃ cs F,v = .agg cs.toArray ∧ rd w F cs x⟩
structure Layer where
 fShelves:List Int
 fD:Int
 fH:Int
 fGram:Int
instance:Enc Layer where
 sz:=4
 rd:=fun w F cs x=>∃ (c0:Value) (F0:List Nat),cs = [c0,.int .i64 (x.fD),.int .i64 (x.fH),.int .i64 (x.fGram)] ∧ F = F0 ∧ rd w F0 [c0] x.fShelves
 ow:=fun w F cs x=>∃ (c0:Value) (F0:List Nat),cs = [c0,.int .i64 (x.fD),.int .i64 (x.fH),.int .i64 (x.fGram)] ∧ F = F0 ∧ ow w F0 [c0] x.fShelves ∧ F.Nodup
 rd_sz:=fun h=>by obtain ⟨c0,F0,rfl,rfl,h0⟩:=h; rfl
 rd_one:=fun h=>by
  obtain ⟨c0,F0,rfl,rfl,h0⟩:=h
  intro c hc
  simp only [List.mem_cons,List.not_mem_nil,or_false] at hc
  rcases hc with rfl | rfl | rfl | rfl <;> first | rfl | exact Enc.rd_one h0 _ (List.mem_singleton.2 rfl)
 ow_rd:=fun h=>by obtain ⟨c0,F0,rfl,rfl,h0,_⟩:=h; exact ⟨c0,_,rfl,rfl,Enc.ow_rd h0⟩
 rd_lt:=fun h=>by
  obtain ⟨c0,F0,rfl,rfl,h0⟩:=h
  intro b hb
  exact Enc.rd_lt h0 b hb
 rd_agr:=fun h hA=>by obtain ⟨c0,F0,rfl,rfl,h0⟩:=h; exact ⟨c0,_,rfl,rfl,Enc.rd_agr h0 hA⟩
 ow_agr:=fun h hA=>by obtain ⟨c0,F0,rfl,rfl,h0,hn⟩:=h; exact ⟨c0,_,rfl,rfl,Enc.ow_agr h0 hA,hn⟩
 ow_nd:=fun h=>by obtain ⟨c0,F0,_,_,_,hn⟩:=h; exact hn
instance:Arg Layer:=⟨fun w v x=>∃ cs F,v = .agg cs.toArray ∧ rd w F cs x⟩
structure Shelf where
 fList:List Int
 fW:Int
 fD:Int
 fH:Int
 fGram:Int
instance:Enc Shelf where
 sz:=5
 rd:=fun w F cs x=>∃ (c0:Value) (F0:List Nat),cs = [c0,.int .i64 (x.fW),.int .i64 (x.fD),.int .i64 (x.fH),.int .i64 (x.fGram)] ∧ F = F0 ∧ rd w F0 [c0] x.fList
 ow:=fun w F cs x=>∃ (c0:Value) (F0:List Nat),cs = [c0,.int .i64 (x.fW),.int .i64 (x.fD),.int .i64 (x.fH),.int .i64 (x.fGram)] ∧ F = F0 ∧ ow w F0 [c0] x.fList ∧ F.Nodup
 rd_sz:=fun h=>by obtain ⟨c0,F0,rfl,rfl,h0⟩:=h; rfl
 rd_one:=fun h=>by
  obtain ⟨c0,F0,rfl,rfl,h0⟩:=h
  intro c hc
  simp only [List.mem_cons,List.not_mem_nil,or_false] at hc
  rcases hc with rfl | rfl | rfl | rfl | rfl <;> first | rfl | exact Enc.rd_one h0 _ (List.mem_singleton.2 rfl)
 ow_rd:=fun h=>by obtain ⟨c0,F0,rfl,rfl,h0,_⟩:=h; exact ⟨c0,_,rfl,rfl,Enc.ow_rd h0⟩
 rd_lt:=fun h=>by
  obtain ⟨c0,F0,rfl,rfl,h0⟩:=h
  intro b hb
  exact Enc.rd_lt h0 b hb
 rd_agr:=fun h hA=>by obtain ⟨c0,F0,rfl,rfl,h0⟩:=h; exact ⟨c0,_,rfl,rfl,Enc.rd_agr h0 hA⟩
 ow_agr:=fun h hA=>by obtain ⟨c0,F0,rfl,rfl,h0,hn⟩:=h; exact ⟨c0,_,rfl,rfl,Enc.ow_agr h0 hA,hn⟩
 ow_nd:=fun h=>by obtain ⟨c0,F0,_,_,_,hn⟩:=h; exact hn
instance:Arg Shelf:=⟨fun w v x=>∃ cs F,v = .agg cs.toArray ∧ rd w F cs x⟩
structure L7 where
 fvol:Int
 fgram:Int
 deriving DecidableEq
instance:Flat L7:=⟨2,fun x=>[.int .i64 (x.fvol),.int .i64 (x.fgram)],fun _=>rfl,fun x=>by intro c hc; simp only [List.mem_cons,List.not_mem_nil,or_false] at hc; rcases hc with rfl | rfl <;> rfl⟩
instance:Arg L7:=⟨fun _ v x=>v = .agg (Flat.e x).toArray⟩
instance:Ret L7:=⟨fun x=>.agg (Flat.e x).toArray⟩
structure Cur where
 fb:List U8
 fi:Int
 fh:Int
instance:Enc Cur where
 sz:=3
 rd:=fun w F cs x=>∃ (c0:Value) (F0:List Nat),cs = [c0,.int .i64 (x.fi),.int .i64 (x.fh)] ∧ F = F0 ∧ rd w F0 [c0] x.fb
 ow:=fun w F cs x=>∃ (c0:Value) (F0:List Nat),cs = [c0,.int .i64 (x.fi),.int .i64 (x.fh)] ∧ F = F0 ∧ ow w F0 [c0] x.fb ∧ F.Nodup
 rd_sz:=fun h=>by obtain ⟨c0,F0,rfl,rfl,h0⟩:=h; rfl
 rd_one:=fun h=>by
  obtain ⟨c0,F0,rfl,rfl,h0⟩:=h
  intro c hc
  simp only [List.mem_cons,List.not_mem_nil,or_false] at hc
  rcases hc with rfl | rfl | rfl <;> first | rfl | exact Enc.rd_one h0 _ (List.mem_singleton.2 rfl)
 ow_rd:=fun h=>by obtain ⟨c0,F0,rfl,rfl,h0,_⟩:=h; exact ⟨c0,_,rfl,rfl,Enc.ow_rd h0⟩
 rd_lt:=fun h=>by
  obtain ⟨c0,F0,rfl,rfl,h0⟩:=h
  intro b hb
  exact Enc.rd_lt h0 b hb
 rd_agr:=fun h hA=>by obtain ⟨c0,F0,rfl,rfl,h0⟩:=h; exact ⟨c0,_,rfl,rfl,Enc.rd_agr h0 hA⟩
 ow_agr:=fun h hA=>by obtain ⟨c0,F0,rfl,rfl,h0,hn⟩:=h; exact ⟨c0,_,rfl,rfl,Enc.ow_agr h0 hA,hn⟩
 ow_nd:=fun h=>by obtain ⟨c0,F0,_,_,_,hn⟩:=h; exact hn
instance:Arg Cur:=⟨fun w v x=>∃ cs F,v = .agg cs.toArray ∧ rd w F cs x⟩
end Go.Proofs.YtcboeijpplllfaaGreat
