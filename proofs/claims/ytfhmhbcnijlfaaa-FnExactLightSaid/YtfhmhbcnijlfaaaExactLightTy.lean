/- FnExactLight: how the parameters read; two facts on the whole program. Printed by shut.py. -/
import Derived.Test.YtfhmhbcnijlfaaaRows
import Derived.Test.YtfhmhbcnijlfaaaD1
namespace Go.Proofs.Ytfhmhbcnijlfaaa
open Go Go.RowKit Go.ChangeShapes Go.WideShapes Go.ChangeAt
open Enc (rd ow)
open Arg (argv)
open Ret (retv)
open Wf (wf)
theorem own : ownKnob Try.prog.godebug = none := by kernel_rfl
theorem laidOut : laidOutB Try.prog = true := by kernel_rfl
theorem co34 : Try.prog.cellsOf 34 = 4 := by kernel_rfl
theorem tr3 : TR Try.prog 3 Int := tr_int Try.underlying3
theorem co3 : Try.prog.cellsOf 3 = 1 := by kernel_rfl
theorem tr34 : TR Try.prog 34 Pallet := by
  intro H enc W n cs x h
  obtain ⟨xs, m, _, _, hlen, hxl, hf⟩ := DataW.trod_struct Try.underlying34 h
  have hl : cs.length = 4 := hlen.trans co34
  match cs, hl with
  | [c0, c1, c2, c3], _ =>
    obtain ⟨y0, q0⟩ := trod_field hxl hf 0 3 0 1 rfl co3
    obtain ⟨F0, v0, r0, w0⟩ := tr3 enc W m [c0] y0 q0
    obtain ⟨_, r0⟩ := r0
    simp only [Flat.e, List.cons.injEq, and_true] at r0
    subst r0
    obtain ⟨y1, q1⟩ := trod_field hxl hf 1 3 1 1 rfl co3
    obtain ⟨F1, v1, r1, w1⟩ := tr3 enc W m [c1] y1 q1
    obtain ⟨_, r1⟩ := r1
    simp only [Flat.e, List.cons.injEq, and_true] at r1
    subst r1
    obtain ⟨y2, q2⟩ := trod_field hxl hf 2 3 2 1 rfl co3
    obtain ⟨F2, v2, r2, w2⟩ := tr3 enc W m [c2] y2 q2
    obtain ⟨_, r2⟩ := r2
    simp only [Flat.e, List.cons.injEq, and_true] at r2
    subst r2
    obtain ⟨y3, q3⟩ := trod_field hxl hf 3 3 3 1 rfl co3
    obtain ⟨F3, v3, r3, w3⟩ := tr3 enc W m [c3] y3 q3
    obtain ⟨_, r3⟩ := r3
    simp only [Flat.e, List.cons.injEq, and_true] at r3
    subst r3
    exact ⟨[], ⟨v0, v1, v2, v3⟩, ⟨rfl, rfl⟩, w0, w1, w2, w3⟩
theorem co46 : Try.prog.cellsOf 46 = 4 := by kernel_rfl
theorem tr46 : TR Try.prog 46 Box := by
  intro H enc W n cs x h
  obtain ⟨xs, m, _, _, hlen, hxl, hf⟩ := DataW.trod_struct Try.underlying46 h
  have hl : cs.length = 4 := hlen.trans co46
  match cs, hl with
  | [c0, c1, c2, c3], _ =>
    obtain ⟨y0, q0⟩ := trod_field hxl hf 0 3 0 1 rfl co3
    obtain ⟨F0, v0, r0, w0⟩ := tr3 enc W m [c0] y0 q0
    obtain ⟨_, r0⟩ := r0
    simp only [Flat.e, List.cons.injEq, and_true] at r0
    subst r0
    obtain ⟨y1, q1⟩ := trod_field hxl hf 1 3 1 1 rfl co3
    obtain ⟨F1, v1, r1, w1⟩ := tr3 enc W m [c1] y1 q1
    obtain ⟨_, r1⟩ := r1
    simp only [Flat.e, List.cons.injEq, and_true] at r1
    subst r1
    obtain ⟨y2, q2⟩ := trod_field hxl hf 2 3 2 1 rfl co3
    obtain ⟨F2, v2, r2, w2⟩ := tr3 enc W m [c2] y2 q2
    obtain ⟨_, r2⟩ := r2
    simp only [Flat.e, List.cons.injEq, and_true] at r2
    subst r2
    obtain ⟨y3, q3⟩ := trod_field hxl hf 3 3 3 1 rfl co3
    obtain ⟨F3, v3, r3, w3⟩ := tr3 enc W m [c3] y3 q3
    obtain ⟨_, r3⟩ := r3
    simp only [Flat.e, List.cons.injEq, and_true] at r3
    subst r3
    exact ⟨[], ⟨v0, v1, v2, v3⟩, ⟨rfl, rfl⟩, w0, w1, w2, w3⟩
theorem tr26 : TR Try.prog 26 (List Box) := tr_slice Try.underlying26 co46 (by decide) tr46
end Go.Proofs.Ytfhmhbcnijlfaaa
