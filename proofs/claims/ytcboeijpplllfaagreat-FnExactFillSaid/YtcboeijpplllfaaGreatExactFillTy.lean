/- FnExactFill: how the parameters read. Printed by shut.py. -/
import Derived.Test.YtcboeijpplllfaaGreatK0
set_option maxRecDepth 20000
namespace Go.Proofs.YtcboeijpplllfaaGreat
open Go Go.RowKit Go.ChangeShapes Go.WideShapes Go.ChangeAt
open Enc (rd ow)
open Arg (argv)
open Ret (retv)
open Wf (wf)
theorem co28 : Tryz.prog.cellsOf 28 = 10 := by kernel_rfl
theorem tr3 : TR Tryz.prog 3 Int := tr_int Tryz.underlying3
theorem co3 : Tryz.prog.cellsOf 3 = 1 := by kernel_rfl
theorem co23 : Tryz.prog.cellsOf 23 = 4 := by kernel_rfl
theorem tr23 : TR Tryz.prog 23 Pallet := by
  intro H enc W n cs x h
  obtain ⟨xs, m, _, _, hlen, hxl, hf⟩ := DataW.trod_struct Tryz.underlying23 h
  have hl : cs.length = 4 := hlen.trans co23
  match cs, hl with
  | [c0, c1, c2, c3], _ =>
    obtain ⟨y0, q0⟩ := trod_field hxl hf 0 3 0 1 rfl co3
    obtain ⟨F0, v0, r0, w0⟩ := tr3 enc W m [c0] y0 q0
    obtain ⟨_, r0⟩ := r0
    simp only [Flat.e, List.cons.injEq, and_true] at r0
    subst r0
    obtain ⟨y1, q1⟩ := trod_field hxl hf 1 3 1 1 rfl co3
    obtain ⟨F1, v1, r1, w1⟩ := tr3 enc W m [c1] y1 q1
    obtain ⟨_, r1⟩ := r1
    simp only [Flat.e, List.cons.injEq, and_true] at r1
    subst r1
    obtain ⟨y2, q2⟩ := trod_field hxl hf 2 3 2 1 rfl co3
    obtain ⟨F2, v2, r2, w2⟩ := tr3 enc W m [c2] y2 q2
    obtain ⟨_, r2⟩ := r2
    simp only [Flat.e, List.cons.injEq, and_true] at r2
    subst r2
    obtain ⟨y3, q3⟩ := trod_field hxl hf 3 3 3 1 rfl co3
    obtain ⟨F3, v3, r3, w3⟩ := tr3 enc W m [c3] y3 q3
    obtain ⟨_, r3⟩ := r3
    simp only [Flat.e, List.cons.injEq, and_true] at r3
    subst r3
    exact ⟨[], ⟨v0, v1, v2, v3⟩, ⟨rfl, rfl⟩, w0, w1, w2, w3⟩
theorem co90 : Tryz.prog.cellsOf 90 = 2 := by kernel_rfl
theorem tr90 : TR Tryz.prog 90 Pair := by
  intro H enc W n cs x h
  obtain ⟨xs, m, _, _, hlen, hxl, hf⟩ := DataW.trod_struct Tryz.underlying90 h
  have hl : cs.length = 2 := hlen.trans co90
  match cs, hl with
  | [c0, c1], _ =>
    obtain ⟨y0, q0⟩ := trod_field hxl hf 0 3 0 1 rfl co3
    obtain ⟨F0, v0, r0, w0⟩ := tr3 enc W m [c0] y0 q0
    obtain ⟨_, r0⟩ := r0
    simp only [Flat.e, List.cons.injEq, and_true] at r0
    subst r0
    obtain ⟨y1, q1⟩ := trod_field hxl hf 1 3 1 1 rfl co3
    obtain ⟨F1, v1, r1, w1⟩ := tr3 enc W m [c1] y1 q1
    obtain ⟨_, r1⟩ := r1
    simp only [Flat.e, List.cons.injEq, and_true] at r1
    subst r1
    exact ⟨[], ⟨v0, v1⟩, ⟨rfl, rfl⟩, w0, w1⟩
theorem tr24 : TR Tryz.prog 24 (List Pair) := tr_slice Tryz.underlying24 co90 (by decide) tr90
theorem co24 : Tryz.prog.cellsOf 24 = 1 := by kernel_rfl
theorem co92 : Tryz.prog.cellsOf 92 = 7 := by kernel_rfl
theorem tr92 : TR Tryz.prog 92 Typ := by
  intro H enc W n cs x h
  obtain ⟨xs, m, _, _, hlen, hxl, hf⟩ := DataW.trod_struct Tryz.underlying92 h
  have hl : cs.length = 7 := hlen.trans co92
  match cs, hl with
  | [c0, c1, c2, c3, c4, c5, c6], _ =>
    obtain ⟨y0, q0⟩ := trod_field hxl hf 0 3 0 1 rfl co3
    obtain ⟨F0, v0, r0, w0⟩ := tr3 enc W m [c0] y0 q0
    obtain ⟨_, r0⟩ := r0
    simp only [Flat.e, List.cons.injEq, and_true] at r0
    subst r0
    obtain ⟨y1, q1⟩ := trod_field hxl hf 1 3 1 1 rfl co3
    obtain ⟨F1, v1, r1, w1⟩ := tr3 enc W m [c1] y1 q1
    obtain ⟨_, r1⟩ := r1
    simp only [Flat.e, List.cons.injEq, and_true] at r1
    subst r1
    obtain ⟨y2, q2⟩ := trod_field hxl hf 2 3 2 1 rfl co3
    obtain ⟨F2, v2, r2, w2⟩ := tr3 enc W m [c2] y2 q2
    obtain ⟨_, r2⟩ := r2
    simp only [Flat.e, List.cons.injEq, and_true] at r2
    subst r2
    obtain ⟨y3, q3⟩ := trod_field hxl hf 3 3 3 1 rfl co3
    obtain ⟨F3, v3, r3, w3⟩ := tr3 enc W m [c3] y3 q3
    obtain ⟨_, r3⟩ := r3
    simp only [Flat.e, List.cons.injEq, and_true] at r3
    subst r3
    obtain ⟨y4, q4⟩ := trod_field hxl hf 4 3 4 1 rfl co3
    obtain ⟨F4, v4, r4, w4⟩ := tr3 enc W m [c4] y4 q4
    obtain ⟨_, r4⟩ := r4
    simp only [Flat.e, List.cons.injEq, and_true] at r4
    subst r4
    obtain ⟨y5, q5⟩ := trod_field hxl hf 5 3 5 1 rfl co3
    obtain ⟨F5, v5, r5, w5⟩ := tr3 enc W m [c5] y5 q5
    obtain ⟨_, r5⟩ := r5
    simp only [Flat.e, List.cons.injEq, and_true] at r5
    subst r5
    obtain ⟨y6, q6⟩ := trod_field hxl hf 6 3 6 1 rfl co3
    obtain ⟨F6, v6, r6, w6⟩ := tr3 enc W m [c6] y6 q6
    obtain ⟨_, r6⟩ := r6
    simp only [Flat.e, List.cons.injEq, and_true] at r6
    subst r6
    exact ⟨[], ⟨v0, v1, v2, v3, v4, v5, v6⟩, ⟨rfl, rfl⟩, w0, w1, w2, w3, w4, w5, w6⟩
theorem tr25 : TR Tryz.prog 25 (List Typ) := tr_slice Tryz.underlying25 co92 (by decide) tr92
theorem co25 : Tryz.prog.cellsOf 25 = 1 := by kernel_rfl
theorem co94 : Tryz.prog.cellsOf 94 = 7 := by kernel_rfl
theorem tr94 : TR Tryz.prog 94 Item := by
  intro H enc W n cs x h
  obtain ⟨xs, m, _, _, hlen, hxl, hf⟩ := DataW.trod_struct Tryz.underlying94 h
  have hl : cs.length = 7 := hlen.trans co94
  match cs, hl with
  | [c0, c1, c2, c3, c4, c5, c6], _ =>
    obtain ⟨y0, q0⟩ := trod_field hxl hf 0 3 0 1 rfl co3
    obtain ⟨F0, v0, r0, w0⟩ := tr3 enc W m [c0] y0 q0
    obtain ⟨_, r0⟩ := r0
    simp only [Flat.e, List.cons.injEq, and_true] at r0
    subst r0
    obtain ⟨y1, q1⟩ := trod_field hxl hf 1 3 1 1 rfl co3
    obtain ⟨F1, v1, r1, w1⟩ := tr3 enc W m [c1] y1 q1
    obtain ⟨_, r1⟩ := r1
    simp only [Flat.e, List.cons.injEq, and_true] at r1
    subst r1
    obtain ⟨y2, q2⟩ := trod_field hxl hf 2 3 2 1 rfl co3
    obtain ⟨F2, v2, r2, w2⟩ := tr3 enc W m [c2] y2 q2
    obtain ⟨_, r2⟩ := r2
    simp only [Flat.e, List.cons.injEq, and_true] at r2
    subst r2
    obtain ⟨y3, q3⟩ := trod_field hxl hf 3 3 3 1 rfl co3
    obtain ⟨F3, v3, r3, w3⟩ := tr3 enc W m [c3] y3 q3
    obtain ⟨_, r3⟩ := r3
    simp only [Flat.e, List.cons.injEq, and_true] at r3
    subst r3
    obtain ⟨y4, q4⟩ := trod_field hxl hf 4 3 4 1 rfl co3
    obtain ⟨F4, v4, r4, w4⟩ := tr3 enc W m [c4] y4 q4
    obtain ⟨_, r4⟩ := r4
    simp only [Flat.e, List.cons.injEq, and_true] at r4
    subst r4
    obtain ⟨y5, q5⟩ := trod_field hxl hf 5 3 5 1 rfl co3
    obtain ⟨F5, v5, r5, w5⟩ := tr3 enc W m [c5] y5 q5
    obtain ⟨_, r5⟩ := r5
    simp only [Flat.e, List.cons.injEq, and_true] at r5
    subst r5
    obtain ⟨y6, q6⟩ := trod_field hxl hf 6 3 6 1 rfl co3
    obtain ⟨F6, v6, r6, w6⟩ := tr3 enc W m [c6] y6 q6
    obtain ⟨_, r6⟩ := r6
    simp only [Flat.e, List.cons.injEq, and_true] at r6
    subst r6
    exact ⟨[], ⟨v0, v1, v2, v3, v4, v5, v6⟩, ⟨rfl, rfl⟩, w0, w1, w2, w3, w4, w5, w6⟩
theorem tr26 : TR Tryz.prog 26 (List Item) := tr_slice Tryz.underlying26 co94 (by decide) tr94
theorem co26 : Tryz.prog.cellsOf 26 = 1 := by kernel_rfl
theorem tr28 : TR Tryz.prog 28 Request := by
  intro H enc W n cs x h
  obtain ⟨xs, m, _, _, hlen, hxl, hf⟩ := DataW.trod_struct Tryz.underlying28 h
  have hl : cs.length = 10 := hlen.trans co28
  match cs, hl with
  | [c0, c1, c2, c3, c4, c5, c6, c7, c8, c9], _ =>
    obtain ⟨y0, q0⟩ := trod_field hxl hf 0 3 0 1 rfl co3
    obtain ⟨F0, v0, r0, w0⟩ := tr3 enc W m [c0] y0 q0
    obtain ⟨_, r0⟩ := r0
    simp only [Flat.e, List.cons.injEq, and_true] at r0
    subst r0
    obtain ⟨y1, q1⟩ := trod_field hxl hf 1 23 1 4 rfl co23
    obtain ⟨F1, v1, r1, w1⟩ := tr23 enc W m [c1, c2, c3, c4] y1 q1
    obtain ⟨_, r1⟩ := r1
    simp only [Flat.e, List.cons.injEq, and_true] at r1
    obtain ⟨rfl, rfl, rfl, rfl⟩ := r1
    obtain ⟨y2, q2⟩ := trod_field hxl hf 2 3 5 1 rfl co3
    obtain ⟨F2, v2, r2, w2⟩ := tr3 enc W m [c5] y2 q2
    obtain ⟨_, r2⟩ := r2
    simp only [Flat.e, List.cons.injEq, and_true] at r2
    subst r2
    obtain ⟨y3, q3⟩ := trod_field hxl hf 3 24 6 1 rfl co24
    obtain ⟨F3, v3, r3, w3⟩ := tr24 enc W m [c6] y3 q3
    obtain ⟨y4, q4⟩ := trod_field hxl hf 4 25 7 1 rfl co25
    obtain ⟨F4, v4, r4, w4⟩ := tr25 enc W m [c7] y4 q4
    obtain ⟨y5, q5⟩ := trod_field hxl hf 5 3 8 1 rfl co3
    obtain ⟨F5, v5, r5, w5⟩ := tr3 enc W m [c8] y5 q5
    obtain ⟨_, r5⟩ := r5
    simp only [Flat.e, List.cons.injEq, and_true] at r5
    subst r5
    obtain ⟨y6, q6⟩ := trod_field hxl hf 6 26 9 1 rfl co26
    obtain ⟨F6, v6, r6, w6⟩ := tr26 enc W m [c9] y6 q6
    exact ⟨_, ⟨v0, v1, v2, v3, v4, v5, v6⟩, ⟨_, _, _, _, _, _, rfl, rfl, r3, r4, r6⟩, w0, w1, w2, w3, w4, w5, w6⟩
theorem co31 : Tryz.prog.cellsOf 31 = 3 := by kernel_rfl
theorem tr29 : TR Tryz.prog 29 (List Int) := tr_slice Tryz.underlying29 co3 (by decide) tr3
theorem co29 : Tryz.prog.cellsOf 29 = 1 := by kernel_rfl
theorem tr31 : TR Tryz.prog 31 Carton := by
  intro H enc W n cs x h
  obtain ⟨xs, m, _, _, hlen, hxl, hf⟩ := DataW.trod_struct Tryz.underlying31 h
  have hl : cs.length = 3 := hlen.trans co31
  match cs, hl with
  | [c0, c1, c2], _ =>
    obtain ⟨y0, q0⟩ := trod_field hxl hf 0 3 0 1 rfl co3
    obtain ⟨F0, v0, r0, w0⟩ := tr3 enc W m [c0] y0 q0
    obtain ⟨_, r0⟩ := r0
    simp only [Flat.e, List.cons.injEq, and_true] at r0
    subst r0
    obtain ⟨y1, q1⟩ := trod_field hxl hf 1 3 1 1 rfl co3
    obtain ⟨F1, v1, r1, w1⟩ := tr3 enc W m [c1] y1 q1
    obtain ⟨_, r1⟩ := r1
    simp only [Flat.e, List.cons.injEq, and_true] at r1
    subst r1
    obtain ⟨y2, q2⟩ := trod_field hxl hf 2 29 2 1 rfl co29
    obtain ⟨F2, v2, r2, w2⟩ := tr29 enc W m [c2] y2 q2
    exact ⟨_, ⟨v0, v1, v2⟩, ⟨_, _, rfl, rfl, r2⟩, w0, w1, w2⟩
end Go.Proofs.YtcboeijpplllfaaGreat
