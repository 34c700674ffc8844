/- The structures of th.. -/
import Derived.Test.YtndfoffokpdjeaaGreatDoorS6
set_option linter.unusedSimpArgs false
set_option linter.unusedVariables false
namespace Go.Proofs.YtndfoffokpdjeaaGreatDoor
open Go Go.RowKit
open Enc (rd ow)
open Arg (argv)
open Ret (retv)
structure Pallet where
 fW:Int
 fD:Int
 fH:Int
 fQ:Int
 deriving DecidableEq
instance:Flat Pallet:=⟨4,λx=>[.int .i64 (x.fW),.int .i64 (x.fD),.int .i64 (x.fH),.int .i64 (x.fQ)],λ_=>rfl,λx=>by intro c hc; simp only [List.mem_cons,List.not_mem_nil,or_false] at hc; rcases hc with rfl | rfl | rfl | rfl <;> rfl⟩
instance:Arg Pallet:=⟨λ_ v x=>v=.agg (Flat.e x).toArray⟩
instance:Ret Pallet:=⟨λx=>.agg (Flat.e x).toArray⟩
structure Pair where
 fA:Int
 fB:Int
 deriving DecidableEq
instance:Flat Pair:=⟨2,λx=>[.int .i64 (x.fA),.int .i64 (x.fB)],λ_=>rfl,λx=>by intro c hc; simp only [List.mem_cons,List.not_mem_nil,or_false] at hc; rcases hc with rfl | rfl <;> rfl⟩
instance:Arg Pair:=⟨λ_ v x=>v=.agg (Flat.e x).toArray⟩
instance:Ret Pair:=⟨λx=>.agg (Flat.e x).toArray⟩
structure Typ where
 f8:Int
 fW:Int
 fH:Int
 fD:Int
 fK:Int
 fQ:Int
 fL:Int
 deriving DecidableEq
instance:Flat Typ:=⟨7,λx=>[.int .i64 (x.f8),.int .i64 (x.fW),.int .i64 (x.fH),.int .i64 (x.fD),.int .i64 (x.fK),.int .i64 (x.fQ),.int .i64 (x.fL)],λ_=>rfl,λx=>by intro c hc; simp only [List.mem_cons,List.not_mem_nil,or_false] at hc; rcases hc with rfl | rfl | rfl | rfl | rfl | rfl | rfl <;> rfl⟩
instance:Arg Typ:=⟨λ_ v x=>v=.agg (Flat.e x).toArray⟩
instance:Ret Typ:=⟨λx=>.agg (Flat.e x).toArray⟩
structure Item where
 f8:Int
 fW:Int
 fH:Int
 fD:Int
 fQ:Int
 fM:Int
 fF:Int
 deriving DecidableEq
instance:Flat Item:=⟨7,λx=>[.int .i64 (x.f8),.int .i64 (x.fW),.int .i64 (x.fH),.int .i64 (x.fD),.int .i64 (x.fQ),.int .i64 (x.fM),.int .i64 (x.fF)],λ_=>rfl,λx=>by intro c hc; simp only [List.mem_cons,List.not_mem_nil,or_false] at hc; rcases hc with rfl | rfl | rfl | rfl | rfl | rfl | rfl <;> rfl⟩
instance:Arg Item:=⟨λ_ v x=>v=.agg (Flat.e x).toArray⟩
instance:Ret Item:=⟨λx=>.agg (Flat.e x).toArray⟩
structure Request where
 f9:Int
 fJ:Pallet
 fU:Int
 fT:List Pair
 fG:List Typ
 fR:Int
 fV:List Item
instance:Enc Request where
 sz:=10
 rd:=λw F cs x=>∃ (c0:Value) (F0:List Nat) (c1:Value) (F1:List Nat) (c2:Value) (F2:List Nat),cs=[.int .i64 (x.f9),.int .i64 (x.fJ.fW),.int .i64 (x.fJ.fD),.int .i64 (x.fJ.fH),.int .i64 (x.fJ.fQ),.int .i64 (x.fU),c0,c1,.int .i64 (x.fR),c2]∧F=F0++(F1++(F2))∧rd w F0 [c0] x.fT∧rd w F1 [c1] x.fG∧rd w F2 [c2] x.fV
 ow:=λw F cs x=>∃ (c0:Value) (F0:List Nat) (c1:Value) (F1:List Nat) (c2:Value) (F2:List Nat),cs=[.int .i64 (x.f9),.int .i64 (x.fJ.fW),.int .i64 (x.fJ.fD),.int .i64 (x.fJ.fH),.int .i64 (x.fJ.fQ),.int .i64 (x.fU),c0,c1,.int .i64 (x.fR),c2]∧F=F0++(F1++(F2))∧ow w F0 [c0] x.fT∧ow w F1 [c1] x.fG∧ow w F2 [c2] x.fV∧F.Nodup
 rd_sz:=λh=>by obtain ⟨c0,F0,c1,F1,c2,F2,rfl,rfl,h0,h1,h2⟩:=h; rfl
 rd_one:=λh=>by
  obtain ⟨c0,F0,c1,F1,c2,F2,rfl,rfl,h0,h1,h2⟩:=h
  intro c hc
  simp only [List.mem_cons,List.not_mem_nil,or_false] at hc
  rcases hc with rfl | rfl | rfl | rfl | rfl | rfl | rfl | rfl | rfl | rfl <;> first | rfl | exact Enc.rd_one h0 _ (List.mem_singleton.2 rfl) | exact Enc.rd_one h1 _ (List.mem_singleton.2 rfl) | exact Enc.rd_one h2 _ (List.mem_singleton.2 rfl)
 ow_rd:=λh=>by obtain ⟨c0,F0,c1,F1,c2,F2,rfl,rfl,h0,h1,h2,_⟩:=h; exact ⟨c0,_,c1,_,c2,_,rfl,rfl,Enc.ow_rd h0,Enc.ow_rd h1,Enc.ow_rd h2⟩
 rd_lt:=λh=>by
  obtain ⟨c0,F0,c1,F1,c2,F2,rfl,rfl,h0,h1,h2⟩:=h
  intro b hb
  simp only [List.mem_append] at hb
  rcases hb with hb | hb | hb
  · exact Enc.rd_lt h0 b hb
  · exact Enc.rd_lt h1 b hb
  · exact Enc.rd_lt h2 b hb
 rd_agr:=λh hA=>by obtain ⟨c0,F0,c1,F1,c2,F2,rfl,rfl,h0,h1,h2⟩:=h; exact ⟨c0,_,c1,_,c2,_,rfl,rfl,Enc.rd_agr h0 (hA.sub (λb hb=>List.mem_append_left _ hb)),Enc.rd_agr h1 (hA.sub (λb hb=>List.mem_append_right _ (List.mem_append_left _ hb))),Enc.rd_agr h2 (hA.sub (λb hb=>List.mem_append_right _ (List.mem_append_right _ (hb))))⟩
 ow_agr:=λh hA=>by obtain ⟨c0,F0,c1,F1,c2,F2,rfl,rfl,h0,h1,h2,hn⟩:=h; exact ⟨c0,_,c1,_,c2,_,rfl,rfl,Enc.ow_agr h0 (hA.sub (λb hb=>List.mem_append_left _ hb)),Enc.ow_agr h1 (hA.sub (λb hb=>List.mem_append_right _ (List.mem_append_left _ hb))),Enc.ow_agr h2 (hA.sub (λb hb=>List.mem_append_right _ (List.mem_append_right _ (hb)))),hn⟩
 ow_nd:=λh=>by obtain ⟨c0,F0,c1,F1,c2,F2,_,_,_,_,_,hn⟩:=h; exact hn
instance:Arg Request:=⟨λw v x=>∃ cs F,v=.agg cs.toArray∧rd w F cs x⟩
structure Carton where
 qQ:Int
 fk:Int
 fl:List Int
instance:Enc Carton where
 sz:=3
 rd:=λw F cs x=>∃ (c0:Value) (F0:List Nat),cs=[.int .i64 (x.qQ),.int .i64 (x.fk),c0]∧F=F0∧rd w F0 [c0] x.fl
 ow:=λw F cs x=>∃ (c0:Value) (F0:List Nat),cs=[.int .i64 (x.qQ),.int .i64 (x.fk),c0]∧F=F0∧ow w F0 [c0] x.fl∧F.Nodup
 rd_sz:=λh=>by obtain ⟨c0,F0,rfl,rfl,h0⟩:=h; rfl
 rd_one:=λh=>by
  obtain ⟨c0,F0,rfl,rfl,h0⟩:=h
  intro c hc
  simp only [List.mem_cons,List.not_mem_nil,or_false] at hc
  rcases hc with rfl | rfl | rfl <;> first | rfl | exact Enc.rd_one h0 _ (List.mem_singleton.2 rfl)
 ow_rd:=λh=>by obtain ⟨c0,F0,rfl,rfl,h0,_⟩:=h; exact ⟨c0,_,rfl,rfl,Enc.ow_rd h0⟩
 rd_lt:=λh=>by
  obtain ⟨c0,F0,rfl,rfl,h0⟩:=h
  intro b hb
  exact Enc.rd_lt h0 b hb
 rd_agr:=λh hA=>by obtain ⟨c0,F0,rfl,rfl,h0⟩:=h; exact ⟨c0,_,rfl,rfl,Enc.rd_agr h0 hA⟩
 ow_agr:=λh hA=>by obtain ⟨c0,F0,rfl,rfl,h0,hn⟩:=h; exact ⟨c0,_,rfl,rfl,Enc.ow_agr h0 hA,hn⟩
 ow_nd:=λh=>by obtain ⟨c0,F0,_,_,_,hn⟩:=h; exact hn
instance:Arg Carton:=⟨λw v x=>∃ cs F,v=.agg cs.toArray∧rd w F cs x⟩
structure Spot where
 fJ:Int
 fX:Int
 fY:Int
 fZ:Int
 deriving DecidableEq
instance:Flat Spot:=⟨4,λx=>[.int .i64 (x.fJ),.int .i64 (x.fX),.int .i64 (x.fY),.int .i64 (x.fZ)],λ_=>rfl,λx=>by intro c hc; simp only [List.mem_cons,List.not_mem_nil,or_false] at hc; rcases hc with rfl | rfl | rfl | rfl <;> rfl⟩
instance:Arg Spot:=⟨λ_ v x=>v=.agg (Flat.e x).toArray⟩
instance:Ret Spot:=⟨λx=>.agg (Flat.e x).toArray⟩
structure Plan where
 fE:List Carton
 ft:List Spot
instance:Enc Plan where
 sz:=2
 rd:=λw F cs x=>∃ (c0:Value) (F0:List Nat) (c1:Value) (F1:List Nat),cs=[c0,c1]∧F=F0++(F1)∧rd w F0 [c0] x.fE∧rd w F1 [c1] x.ft
 ow:=λw F cs x=>∃ (c0:Value) (F0:List Nat) (c1:Value) (F1:List Nat),cs=[c0,c1]∧F=F0++(F1)∧ow w F0 [c0] x.fE∧ow w F1 [c1] x.ft∧F.Nodup
 rd_sz:=λh=>by obtain ⟨c0,F0,c1,F1,rfl,rfl,h0,h1⟩:=h; rfl
 rd_one:=λh=>by
  obtain ⟨c0,F0,c1,F1,rfl,rfl,h0,h1⟩:=h
  intro c hc
  simp only [List.mem_cons,List.not_mem_nil,or_false] at hc
  rcases hc with rfl | rfl <;> first | rfl | exact Enc.rd_one h0 _ (List.mem_singleton.2 rfl) | exact Enc.rd_one h1 _ (List.mem_singleton.2 rfl)
 ow_rd:=λh=>by obtain ⟨c0,F0,c1,F1,rfl,rfl,h0,h1,_⟩:=h; exact ⟨c0,_,c1,_,rfl,rfl,Enc.ow_rd h0,Enc.ow_rd h1⟩
 rd_lt:=λh=>by
  obtain ⟨c0,F0,c1,F1,rfl,rfl,h0,h1⟩:=h
  intro b hb
  simp only [List.mem_append] at hb
  rcases hb with hb | hb
  · exact Enc.rd_lt h0 b hb
  · exact Enc.rd_lt h1 b hb
 rd_agr:=λh hA=>by obtain ⟨c0,F0,c1,F1,rfl,rfl,h0,h1⟩:=h; exact ⟨c0,_,c1,_,rfl,rfl,Enc.rd_agr h0 (hA.sub (λb hb=>List.mem_append_left _ hb)),Enc.rd_agr h1 (hA.sub (λb hb=>List.mem_append_right _ (hb)))⟩
 ow_agr:=λh hA=>by obtain ⟨c0,F0,c1,F1,rfl,rfl,h0,h1,hn⟩:=h; exact ⟨c0,_,c1,_,rfl,rfl,Enc.ow_agr h0 (hA.sub (λb hb=>List.mem_append_left _ hb)),Enc.ow_agr h1 (hA.sub (λb hb=>List.mem_append_right _ (hb))),hn⟩
 ow_nd:=λh=>by obtain ⟨c0,F0,c1,F1,_,_,_,_,hn⟩:=h; exact hn
instance:Arg Plan:=⟨λw v x=>∃ cs F,v=.agg cs.toArray∧rd w F cs x⟩
structure Box where
 fW:Int
 fD:Int
 fH:Int
 fQ:Int
 deriving DecidableEq
instance:Flat Box:=⟨4,λx=>[.int .i64 (x.fW),.int .i64 (x.fD),.int .i64 (x.fH),.int .i64 (x.fQ)],λ_=>rfl,λx=>by intro c hc; simp only [List.mem_cons,List.not_mem_nil,or_false] at hc; rcases hc with rfl | rfl | rfl | rfl <;> rfl⟩
instance:Arg Box:=⟨λ_ v x=>v=.agg (Flat.e x).toArray⟩
instance:Ret Box:=⟨λx=>.agg (Flat.e x).toArray⟩
structure Load where
 fO:List Int
 fH:Int
 fQ:Int
instance:Enc Load where
 sz:=3
 rd:=λw F cs x=>∃ (c0:Value) (F0:List Nat),cs=[c0,.int .i64 (x.fH),.int .i64 (x.fQ)]∧F=F0∧rd w F0 [c0] x.fO
 ow:=λw F cs x=>∃ (c0:Value) (F0:List Nat),cs=[c0,.int .i64 (x.fH),.int .i64 (x.fQ)]∧F=F0∧ow w F0 [c0] x.fO∧F.Nodup
 rd_sz:=λh=>by obtain ⟨c0,F0,rfl,rfl,h0⟩:=h; rfl
 rd_one:=λh=>by
  obtain ⟨c0,F0,rfl,rfl,h0⟩:=h
  intro c hc
  simp only [List.mem_cons,List.not_mem_nil,or_false] at hc
  rcases hc with rfl | rfl | rfl <;> first | rfl | exact Enc.rd_one h0 _ (List.mem_singleton.2 rfl)
 ow_rd:=λh=>by obtain ⟨c0,F0,rfl,rfl,h0,_⟩:=h; exact ⟨c0,_,rfl,rfl,Enc.ow_rd h0⟩
 rd_lt:=λh=>by
  obtain ⟨c0,F0,rfl,rfl,h0⟩:=h
  intro b hb
  exact Enc.rd_lt h0 b hb
 rd_agr:=λh hA=>by obtain ⟨c0,F0,rfl,rfl,h0⟩:=h; exact ⟨c0,_,rfl,rfl,Enc.rd_agr h0 hA⟩
 ow_agr:=λh hA=>by obtain ⟨c0,F0,rfl,rfl,h0,hn⟩:=h; exact ⟨c0,_,rfl,rfl,Enc.ow_agr h0 hA,hn⟩
 ow_nd:=λh=>by obtain ⟨c0,F0,_,_,_,hn⟩:=h; exact hn
instance:Arg Load:=⟨λw v x=>∃ cs F,v=.agg cs.toArray∧rd w F cs x⟩
structure Layer where
 fP:List Int
 fD:Int
 fH:Int
 fQ:Int
instance:Enc Layer where
 sz:=4
 rd:=λw F cs x=>∃ (c0:Value) (F0:List Nat),cs=[c0,.int .i64 (x.fD),.int .i64 (x.fH),.int .i64 (x.fQ)]∧F=F0∧rd w F0 [c0] x.fP
 ow:=λw F cs x=>∃ (c0:Value) (F0:List Nat),cs=[c0,.int .i64 (x.fD),.int .i64 (x.fH),.int .i64 (x.fQ)]∧F=F0∧ow w F0 [c0] x.fP∧F.Nodup
 rd_sz:=λh=>by obtain ⟨c0,F0,rfl,rfl,h0⟩:=h; rfl
 rd_one:=λh=>by
  obtain ⟨c0,F0,rfl,rfl,h0⟩:=h
  intro c hc
  simp only [List.mem_cons,List.not_mem_nil,or_false] at hc
  rcases hc with rfl | rfl | rfl | rfl <;> first | rfl | exact Enc.rd_one h0 _ (List.mem_singleton.2 rfl)
 ow_rd:=λh=>by obtain ⟨c0,F0,rfl,rfl,h0,_⟩:=h; exact ⟨c0,_,rfl,rfl,Enc.ow_rd h0⟩
 rd_lt:=λh=>by
  obtain ⟨c0,F0,rfl,rfl,h0⟩:=h
  intro b hb
  exact Enc.rd_lt h0 b hb
 rd_agr:=λh hA=>by obtain ⟨c0,F0,rfl,rfl,h0⟩:=h; exact ⟨c0,_,rfl,rfl,Enc.rd_agr h0 hA⟩
 ow_agr:=λh hA=>by obtain ⟨c0,F0,rfl,rfl,h0,hn⟩:=h; exact ⟨c0,_,rfl,rfl,Enc.ow_agr h0 hA,hn⟩
 ow_nd:=λh=>by obtain ⟨c0,F0,_,_,_,hn⟩:=h; exact hn
instance:Arg Layer:=⟨λw v x=>∃ cs F,v=.agg cs.toArray∧rd w F cs x⟩
structure Shelf where
 f0:List Int
 fW:Int
 fD:Int
 fH:Int
 fQ:Int
instance:Enc Shelf where
 sz:=5
 rd:=λw F cs x=>∃ (c0:Value) (F0:List Nat),cs=[c0,.int .i64 (x.fW),.int .i64 (x.fD),.int .i64 (x.fH),.int .i64 (x.fQ)]∧F=F0∧rd w F0 [c0] x.f0
 ow:=λw F cs x=>∃ (c0:Value) (F0:List Nat),cs=[c0,.int .i64 (x.fW),.int .i64 (x.fD),.int .i64 (x.fH),.int .i64 (x.fQ)]∧F=F0∧ow w F0 [c0] x.f0∧F.Nodup
 rd_sz:=λh=>by obtain ⟨c0,F0,rfl,rfl,h0⟩:=h; rfl
 rd_one:=λh=>by
  obtain ⟨c0,F0,rfl,rfl,h0⟩:=h
  intro c hc
  simp only [List.mem_cons,List.not_mem_nil,or_false] at hc
  rcases hc with rfl | rfl | rfl | rfl | rfl <;> first | rfl | exact Enc.rd_one h0 _ (List.mem_singleton.2 rfl)
 ow_rd:=λh=>by obtain ⟨c0,F0,rfl,rfl,h0,_⟩:=h; exact ⟨c0,_,rfl,rfl,Enc.ow_rd h0⟩
 rd_lt:=λh=>by
  obtain ⟨c0,F0,rfl,rfl,h0⟩:=h
  intro b hb
  exact Enc.rd_lt h0 b hb
 rd_agr:=λh hA=>by obtain ⟨c0,F0,rfl,rfl,h0⟩:=h; exact ⟨c0,_,rfl,rfl,Enc.rd_agr h0 hA⟩
 ow_agr:=λh hA=>by obtain ⟨c0,F0,rfl,rfl,h0,hn⟩:=h; exact ⟨c0,_,rfl,rfl,Enc.ow_agr h0 hA,hn⟩
 ow_nd:=λh=>by obtain ⟨c0,F0,_,_,_,hn⟩:=h; exact hn
instance:Arg Shelf:=⟨λw v x=>∃ cs F,v=.agg cs.toArray∧rd w F cs x⟩
structure L7 where
 fvol:Int
 fgram:Int
 deriving DecidableEq
instance:Flat L7:=⟨2,λx=>[.int .i64 (x.fvol),.int .i64 (x.fgram)],λ_=>rfl,λx=>by intro c hc; simp only [List.mem_cons,List.not_mem_nil,or_false] at hc; rcases hc with rfl | rfl <;> rfl⟩
instance:Arg L7:=⟨λ_ v x=>v=.agg (Flat.e x).toArray⟩
instance:Ret L7:=⟨λx=>.agg (Flat.e x).toArray⟩
structure Cur where
 fb:List U8
 fi:Int
 fh:Int
instance:Enc Cur where
 sz:=3
 rd:=λw F cs x=>∃ (c0:Value) (F0:List Nat),cs=[c0,.int .i64 (x.fi),.int .i64 (x.fh)]∧F=F0∧rd w F0 [c0] x.fb
 ow:=λw F cs x=>∃ (c0:Value) (F0:List Nat),cs=[c0,.int .i64 (x.fi),.int .i64 (x.fh)]∧F=F0∧ow w F0 [c0] x.fb∧F.Nodup
 rd_sz:=λh=>by obtain ⟨c0,F0,rfl,rfl,h0⟩:=h; rfl
 rd_one:=λh=>by
  obtain ⟨c0,F0,rfl,rfl,h0⟩:=h
  intro c hc
  simp only [List.mem_cons,List.not_mem_nil,or_false] at hc
  rcases hc with rfl | rfl | rfl <;> first | rfl | exact Enc.rd_one h0 _ (List.mem_singleton.2 rfl)
 ow_rd:=λh=>by obtain ⟨c0,F0,rfl,rfl,h0,_⟩:=h; exact ⟨c0,_,rfl,rfl,Enc.ow_rd h0⟩
 rd_lt:=λh=>by
  obtain ⟨c0,F0,rfl,rfl,h0⟩:=h
  intro b hb
  exact Enc.rd_lt h0 b hb
 rd_agr:=λh hA=>by obtain ⟨c0,F0,rfl,rfl,h0⟩:=h; exact ⟨c0,_,rfl,rfl,Enc.rd_agr h0 hA⟩
 ow_agr:=λh hA=>by obtain ⟨c0,F0,rfl,rfl,h0,hn⟩:=h; exact ⟨c0,_,rfl,rfl,Enc.ow_agr h0 hA,hn⟩
 ow_nd:=λh=>by obtain ⟨c0,F0,_,_,_,hn⟩:=h; exact hn
instance:Arg Cur:=⟨λw v x=>∃ cs F,v=.agg cs.toArray∧rd w F cs x⟩
end Go.Proofs.YtndfoffokpdjeaaGreatDoor
