/- FnExactMirrored: how the parameters read. Printed by shut.py. -/
import Derived.Test.YtlmibnlfkmiikaaGreatK0
set_option maxRecDepth 20000
namespace Go.Proofs.YtlmibnlfkmiikaaGreat
open Go Go.RowKit Go.ChangeShapes Go.WideShapes Go.ChangeAt
open Enc (rd ow)
open Arg (argv)
open Ret (retv)
open Wf (wf)
theorem co52 : Tryz.prog.cellsOf 52 = 10 := by kernel_rfl
theorem tr3 : TR Tryz.prog 3 Int := tr_int Tryz.underlying3
theorem co3 : Tryz.prog.cellsOf 3 = 1 := by kernel_rfl
theorem co47 : Tryz.prog.cellsOf 47 = 4 := by kernel_rfl
theorem tr47 : TR Tryz.prog 47 Pallet := by
  intro H enc W n cs x h
  obtain ⟨xs, m, _, _, hlen, hxl, hf⟩ := DataW.trod_struct Tryz.underlying47 h
  have hl : cs.length = 4 := hlen.trans co47
  match cs, hl with
  | [c0, c1, c2, c3], _ =>
    obtain ⟨y0, q0⟩ := trod_field hxl hf 0 3 0 1 rfl co3
    obtain ⟨F0, v0, r0, w0⟩ := tr3 enc W m [c0] y0 q0
    obtain ⟨_, r0⟩ := r0
    simp only [Flat.e, List.cons.injEq, and_true] at r0
    subst r0
    obtain ⟨y1, q1⟩ := trod_field hxl hf 1 3 1 1 rfl co3
    obtain ⟨F1, v1, r1, w1⟩ := tr3 enc W m [c1] y1 q1
    obtain ⟨_, r1⟩ := r1
    simp only [Flat.e, List.cons.injEq, and_true] at r1
    subst r1
    obtain ⟨y2, q2⟩ := trod_field hxl hf 2 3 2 1 rfl co3
    obtain ⟨F2, v2, r2, w2⟩ := tr3 enc W m [c2] y2 q2
    obtain ⟨_, r2⟩ := r2
    simp only [Flat.e, List.cons.injEq, and_true] at r2
    subst r2
    obtain ⟨y3, q3⟩ := trod_field hxl hf 3 3 3 1 rfl co3
    obtain ⟨F3, v3, r3, w3⟩ := tr3 enc W m [c3] y3 q3
    obtain ⟨_, r3⟩ := r3
    simp only [Flat.e, List.cons.injEq, and_true] at r3
    subst r3
    exact ⟨[], ⟨v0, v1, v2, v3⟩, ⟨rfl, rfl⟩, w0, w1, w2, w3⟩
theorem co173 : Tryz.prog.cellsOf 173 = 2 := by kernel_rfl
theorem tr173 : TR Tryz.prog 173 Pair := by
  intro H enc W n cs x h
  obtain ⟨xs, m, _, _, hlen, hxl, hf⟩ := DataW.trod_struct Tryz.underlying173 h
  have hl : cs.length = 2 := hlen.trans co173
  match cs, hl with
  | [c0, c1], _ =>
    obtain ⟨y0, q0⟩ := trod_field hxl hf 0 3 0 1 rfl co3
    obtain ⟨F0, v0, r0, w0⟩ := tr3 enc W m [c0] y0 q0
    obtain ⟨_, r0⟩ := r0
    simp only [Flat.e, List.cons.injEq, and_true] at r0
    subst r0
    obtain ⟨y1, q1⟩ := trod_field hxl hf 1 3 1 1 rfl co3
    obtain ⟨F1, v1, r1, w1⟩ := tr3 enc W m [c1] y1 q1
    obtain ⟨_, r1⟩ := r1
    simp only [Flat.e, List.cons.injEq, and_true] at r1
    subst r1
    exact ⟨[], ⟨v0, v1⟩, ⟨rfl, rfl⟩, w0, w1⟩
theorem tr48 : TR Tryz.prog 48 (List Pair) := tr_slice Tryz.underlying48 co173 (by decide) tr173
theorem co48 : Tryz.prog.cellsOf 48 = 1 := by kernel_rfl
theorem co175 : Tryz.prog.cellsOf 175 = 7 := by kernel_rfl
theorem tr175 : TR Tryz.prog 175 Typ := by
  intro H enc W n cs x h
  obtain ⟨xs, m, _, _, hlen, hxl, hf⟩ := DataW.trod_struct Tryz.underlying175 h
  have hl : cs.length = 7 := hlen.trans co175
  match cs, hl with
  | [c0, c1, c2, c3, c4, c5, c6], _ =>
    obtain ⟨y0, q0⟩ := trod_field hxl hf 0 3 0 1 rfl co3
    obtain ⟨F0, v0, r0, w0⟩ := tr3 enc W m [c0] y0 q0
    obtain ⟨_, r0⟩ := r0
    simp only [Flat.e, List.cons.injEq, and_true] at r0
    subst r0
    obtain ⟨y1, q1⟩ := trod_field hxl hf 1 3 1 1 rfl co3
    obtain ⟨F1, v1, r1, w1⟩ := tr3 enc W m [c1] y1 q1
    obtain ⟨_, r1⟩ := r1
    simp only [Flat.e, List.cons.injEq, and_true] at r1
    subst r1
    obtain ⟨y2, q2⟩ := trod_field hxl hf 2 3 2 1 rfl co3
    obtain ⟨F2, v2, r2, w2⟩ := tr3 enc W m [c2] y2 q2
    obtain ⟨_, r2⟩ := r2
    simp only [Flat.e, List.cons.injEq, and_true] at r2
    subst r2
    obtain ⟨y3, q3⟩ := trod_field hxl hf 3 3 3 1 rfl co3
    obtain ⟨F3, v3, r3, w3⟩ := tr3 enc W m [c3] y3 q3
    obtain ⟨_, r3⟩ := r3
    simp only [Flat.e, List.cons.injEq, and_true] at r3
    subst r3
    obtain ⟨y4, q4⟩ := trod_field hxl hf 4 3 4 1 rfl co3
    obtain ⟨F4, v4, r4, w4⟩ := tr3 enc W m [c4] y4 q4
    obtain ⟨_, r4⟩ := r4
    simp only [Flat.e, List.cons.injEq, and_true] at r4
    subst r4
    obtain ⟨y5, q5⟩ := trod_field hxl hf 5 3 5 1 rfl co3
    obtain ⟨F5, v5, r5, w5⟩ := tr3 enc W m [c5] y5 q5
    obtain ⟨_, r5⟩ := r5
    simp only [Flat.e, List.cons.injEq, and_true] at r5
    subst r5
    obtain ⟨y6, q6⟩ := trod_field hxl hf 6 3 6 1 rfl co3
    obtain ⟨F6, v6, r6, w6⟩ := tr3 enc W m [c6] y6 q6
    obtain ⟨_, r6⟩ := r6
    simp only [Flat.e, List.cons.injEq, and_true] at r6
    subst r6
    exact ⟨[], ⟨v0, v1, v2, v3, v4, v5, v6⟩, ⟨rfl, rfl⟩, w0, w1, w2, w3, w4, w5, w6⟩
theorem tr49 : TR Tryz.prog 49 (List Typ) := tr_slice Tryz.underlying49 co175 (by decide) tr175
theorem co49 : Tryz.prog.cellsOf 49 = 1 := by kernel_rfl
theorem co177 : Tryz.prog.cellsOf 177 = 7 := by kernel_rfl
theorem tr177 : TR Tryz.prog 177 Item := by
  intro H enc W n cs x h
  obtain ⟨xs, m, _, _, hlen, hxl, hf⟩ := DataW.trod_struct Tryz.underlying177 h
  have hl : cs.length = 7 := hlen.trans co177
  match cs, hl with
  | [c0, c1, c2, c3, c4, c5, c6], _ =>
    obtain ⟨y0, q0⟩ := trod_field hxl hf 0 3 0 1 rfl co3
    obtain ⟨F0, v0, r0, w0⟩ := tr3 enc W m [c0] y0 q0
    obtain ⟨_, r0⟩ := r0
    simp only [Flat.e, List.cons.injEq, and_true] at r0
    subst r0
    obtain ⟨y1, q1⟩ := trod_field hxl hf 1 3 1 1 rfl co3
    obtain ⟨F1, v1, r1, w1⟩ := tr3 enc W m [c1] y1 q1
    obtain ⟨_, r1⟩ := r1
    simp only [Flat.e, List.cons.injEq, and_true] at r1
    subst r1
    obtain ⟨y2, q2⟩ := trod_field hxl hf 2 3 2 1 rfl co3
    obtain ⟨F2, v2, r2, w2⟩ := tr3 enc W m [c2] y2 q2
    obtain ⟨_, r2⟩ := r2
    simp only [Flat.e, List.cons.injEq, and_true] at r2
    subst r2
    obtain ⟨y3, q3⟩ := trod_field hxl hf 3 3 3 1 rfl co3
    obtain ⟨F3, v3, r3, w3⟩ := tr3 enc W m [c3] y3 q3
    obtain ⟨_, r3⟩ := r3
    simp only [Flat.e, List.cons.injEq, and_true] at r3
    subst r3
    obtain ⟨y4, q4⟩ := trod_field hxl hf 4 3 4 1 rfl co3
    obtain ⟨F4, v4, r4, w4⟩ := tr3 enc W m [c4] y4 q4
    obtain ⟨_, r4⟩ := r4
    simp only [Flat.e, List.cons.injEq, and_true] at r4
    subst r4
    obtain ⟨y5, q5⟩ := trod_field hxl hf 5 3 5 1 rfl co3
    obtain ⟨F5, v5, r5, w5⟩ := tr3 enc W m [c5] y5 q5
    obtain ⟨_, r5⟩ := r5
    simp only [Flat.e, List.cons.injEq, and_true] at r5
    subst r5
    obtain ⟨y6, q6⟩ := trod_field hxl hf 6 3 6 1 rfl co3
    obtain ⟨F6, v6, r6, w6⟩ := tr3 enc W m [c6] y6 q6
    obtain ⟨_, r6⟩ := r6
    simp only [Flat.e, List.cons.injEq, and_true] at r6
    subst r6
    exact ⟨[], ⟨v0, v1, v2, v3, v4, v5, v6⟩, ⟨rfl, rfl⟩, w0, w1, w2, w3, w4, w5, w6⟩
theorem tr50 : TR Tryz.prog 50 (List Item) := tr_slice Tryz.underlying50 co177 (by decide) tr177
theorem co50 : Tryz.prog.cellsOf 50 = 1 := by kernel_rfl
theorem tr52 : TR Tryz.prog 52 Request := by
  intro H enc W n cs x h
  obtain ⟨xs, m, _, _, hlen, hxl, hf⟩ := DataW.trod_struct Tryz.underlying52 h
  have hl : cs.length = 10 := hlen.trans co52
  match cs, hl with
  | [c0, c1, c2, c3, c4, c5, c6, c7, c8, c9], _ =>
    obtain ⟨y0, q0⟩ := trod_field hxl hf 0 3 0 1 rfl co3
    obtain ⟨F0, v0, r0, w0⟩ := tr3 enc W m [c0] y0 q0
    obtain ⟨_, r0⟩ := r0
    simp only [Flat.e, List.cons.injEq, and_true] at r0
    subst r0
    obtain ⟨y1, q1⟩ := trod_field hxl hf 1 47 1 4 rfl co47
    obtain ⟨F1, v1, r1, w1⟩ := tr47 enc W m [c1, c2, c3, c4] y1 q1
    obtain ⟨_, r1⟩ := r1
    simp only [Flat.e, List.cons.injEq, and_true] at r1
    obtain ⟨rfl, rfl, rfl, rfl⟩ := r1
    obtain ⟨y2, q2⟩ := trod_field hxl hf 2 3 5 1 rfl co3
    obtain ⟨F2, v2, r2, w2⟩ := tr3 enc W m [c5] y2 q2
    obtain ⟨_, r2⟩ := r2
    simp only [Flat.e, List.cons.injEq, and_true] at r2
    subst r2
    obtain ⟨y3, q3⟩ := trod_field hxl hf 3 48 6 1 rfl co48
    obtain ⟨F3, v3, r3, w3⟩ := tr48 enc W m [c6] y3 q3
    obtain ⟨y4, q4⟩ := trod_field hxl hf 4 49 7 1 rfl co49
    obtain ⟨F4, v4, r4, w4⟩ := tr49 enc W m [c7] y4 q4
    obtain ⟨y5, q5⟩ := trod_field hxl hf 5 3 8 1 rfl co3
    obtain ⟨F5, v5, r5, w5⟩ := tr3 enc W m [c8] y5 q5
    obtain ⟨_, r5⟩ := r5
    simp only [Flat.e, List.cons.injEq, and_true] at r5
    subst r5
    obtain ⟨y6, q6⟩ := trod_field hxl hf 6 50 9 1 rfl co50
    obtain ⟨F6, v6, r6, w6⟩ := tr50 enc W m [c9] y6 q6
    exact ⟨_, ⟨v0, v1, v2, v3, v4, v5, v6⟩, ⟨_, _, _, _, _, _, rfl, rfl, r3, r4, r6⟩, w0, w1, w2, w3, w4, w5, w6⟩
theorem co69 : Tryz.prog.cellsOf 69 = 2 := by kernel_rfl
theorem co190 : Tryz.prog.cellsOf 190 = 3 := by kernel_rfl
theorem tr31 : TR Tryz.prog 31 (List Int) := tr_slice Tryz.underlying31 co3 (by decide) tr3
theorem co31 : Tryz.prog.cellsOf 31 = 1 := by kernel_rfl
theorem tr190 : TR Tryz.prog 190 Carton := by
  intro H enc W n cs x h
  obtain ⟨xs, m, _, _, hlen, hxl, hf⟩ := DataW.trod_struct Tryz.underlying190 h
  have hl : cs.length = 3 := hlen.trans co190
  match cs, hl with
  | [c0, c1, c2], _ =>
    obtain ⟨y0, q0⟩ := trod_field hxl hf 0 3 0 1 rfl co3
    obtain ⟨F0, v0, r0, w0⟩ := tr3 enc W m [c0] y0 q0
    obtain ⟨_, r0⟩ := r0
    simp only [Flat.e, List.cons.injEq, and_true] at r0
    subst r0
    obtain ⟨y1, q1⟩ := trod_field hxl hf 1 3 1 1 rfl co3
    obtain ⟨F1, v1, r1, w1⟩ := tr3 enc W m [c1] y1 q1
    obtain ⟨_, r1⟩ := r1
    simp only [Flat.e, List.cons.injEq, and_true] at r1
    subst r1
    obtain ⟨y2, q2⟩ := trod_field hxl hf 2 31 2 1 rfl co31
    obtain ⟨F2, v2, r2, w2⟩ := tr31 enc W m [c2] y2 q2
    exact ⟨_, ⟨v0, v1, v2⟩, ⟨_, _, rfl, rfl, r2⟩, w0, w1, w2⟩
theorem tr66 : TR Tryz.prog 66 (List Carton) := tr_slice Tryz.underlying66 co190 (by decide) tr190
theorem co66 : Tryz.prog.cellsOf 66 = 1 := by kernel_rfl
theorem co196 : Tryz.prog.cellsOf 196 = 4 := by kernel_rfl
theorem tr196 : TR Tryz.prog 196 Spot := by
  intro H enc W n cs x h
  obtain ⟨xs, m, _, _, hlen, hxl, hf⟩ := DataW.trod_struct Tryz.underlying196 h
  have hl : cs.length = 4 := hlen.trans co196
  match cs, hl with
  | [c0, c1, c2, c3], _ =>
    obtain ⟨y0, q0⟩ := trod_field hxl hf 0 3 0 1 rfl co3
    obtain ⟨F0, v0, r0, w0⟩ := tr3 enc W m [c0] y0 q0
    obtain ⟨_, r0⟩ := r0
    simp only [Flat.e, List.cons.injEq, and_true] at r0
    subst r0
    obtain ⟨y1, q1⟩ := trod_field hxl hf 1 3 1 1 rfl co3
    obtain ⟨F1, v1, r1, w1⟩ := tr3 enc W m [c1] y1 q1
    obtain ⟨_, r1⟩ := r1
    simp only [Flat.e, List.cons.injEq, and_true] at r1
    subst r1
    obtain ⟨y2, q2⟩ := trod_field hxl hf 2 3 2 1 rfl co3
    obtain ⟨F2, v2, r2, w2⟩ := tr3 enc W m [c2] y2 q2
    obtain ⟨_, r2⟩ := r2
    simp only [Flat.e, List.cons.injEq, and_true] at r2
    subst r2
    obtain ⟨y3, q3⟩ := trod_field hxl hf 3 3 3 1 rfl co3
    obtain ⟨F3, v3, r3, w3⟩ := tr3 enc W m [c3] y3 q3
    obtain ⟨_, r3⟩ := r3
    simp only [Flat.e, List.cons.injEq, and_true] at r3
    subst r3
    exact ⟨[], ⟨v0, v1, v2, v3⟩, ⟨rfl, rfl⟩, w0, w1, w2, w3⟩
theorem tr67 : TR Tryz.prog 67 (List Spot) := tr_slice Tryz.underlying67 co196 (by decide) tr196
theorem co67 : Tryz.prog.cellsOf 67 = 1 := by kernel_rfl
theorem tr69 : TR Tryz.prog 69 Plan := by
  intro H enc W n cs x h
  obtain ⟨xs, m, _, _, hlen, hxl, hf⟩ := DataW.trod_struct Tryz.underlying69 h
  have hl : cs.length = 2 := hlen.trans co69
  match cs, hl with
  | [c0, c1], _ =>
    obtain ⟨y0, q0⟩ := trod_field hxl hf 0 66 0 1 rfl co66
    obtain ⟨F0, v0, r0, w0⟩ := tr66 enc W m [c0] y0 q0
    obtain ⟨y1, q1⟩ := trod_field hxl hf 1 67 1 1 rfl co67
    obtain ⟨F1, v1, r1, w1⟩ := tr67 enc W m [c1] y1 q1
    exact ⟨_, ⟨v0, v1⟩, ⟨_, _, _, _, rfl, rfl, r0, r1⟩, w0, w1⟩
end Go.Proofs.YtlmibnlfkmiikaaGreat
