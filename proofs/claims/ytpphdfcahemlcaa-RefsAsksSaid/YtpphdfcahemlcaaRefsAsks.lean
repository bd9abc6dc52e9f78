/- The statement RefsAsks is proved: of any references, as they stand, each question has its answer; without conditions. -/
import Derived.Test.YtpphdfcahemlcaaRows
import Derived.Test.YtpphdfcahemlcaaLB
import Derived.WalkKit
import Derived.ProofKit
import Derived.OpenShut
import Derived.ShutString
import Derived.ChangeOld
import Derived.Below
import Derived.SizedLaws
set_option linter.unusedSimpArgs false
set_option linter.unusedVariables false
set_option linter.unusedSectionVars false
set_option linter.unnecessarySimpa false
namespace Go.Proofs.Ytpphdfcahemlcaa.refsAsks
open Go.ChangeShapes Go.WideShapes Go.ChangeAt Go.RowKit
open Go.ChangeMaps (open_string shut_string)
set_option linter.unusedVariables false
theorem spot_of {P : Program} {w : World} {r : Reach} {base : Nat} {e t : TypeId} {v : Value} (hu : P.underlying t = some (.slice e)) (h : Value.okWide P w r base t v) : ∀ a len cap, v = .slice (some a) len cap → a.spot = none := by
  rintro a len cap rfl
  simp only [Value.okWide, hu, Cell.okWide, Cell.ok] at h
  exact h.2.2.2.1
theorem own : ownKnob Try.prog.godebug = none := by kernel_rfl
theorem laidOut : laidOutB Try.prog = true := by kernel_rfl
set_option maxRecDepth 100000 in
theorem lifted (os : Os) (started : os.Started) (H : Type) (enc : TypeId × Value → H) :
    ReturnsInHanded {} Try.checked os 4 .any (Rows.refsAsksSpec.pre6 enc Try.prog Try.f4 Rows.refsAsksRow.domain false) (Rows.refsAsksSpec.post enc Try.prog Try.f4 false true false false) := by
  refine returnsInHanded_of_change_sized (C := Try.checked) own started (by kernel_rfl) Try.func4
    (ChangeSpec.witness6 (enc := enc) (C := Try.checked) false ⟨#[], #[.slice none 0 0, .agg #[.int .i64 0, .int .i64 0], .slice none 0 0, .int .i64 0], []⟩ 8 (by kernel_rfl) (by kernel_rfl) (by kernel_rfl) (by kernel_rfl)) ?_
  intro W base args ds gs before hval0 hW hcnd hsz0 _
  have hsz : (DataW.weightsEach Try.prog (Try.f4.params.toList ++ Rows.refsAsksSpec.plain.varTypes Try.prog) (ds ++ gs)).all (· ≤ reachBytes) = true := hsz0
  have hval : ∀ (j : Nat) t v, Try.f4.params[j]? = some t → args[j]? = some v → Value.okWide Try.prog W .any base t v := hval0
  have hW' := hW
  obtain ⟨p, q, hA0, hV, rfl, hfz, hnd⟩ := hW
  have hA : DataW.TrodAll enc Try.prog W 0 (fun _ => true) true Try.f4.params.toList args.toList ds p := hA0
  rw [Try.params4] at hA hval hsz
  obtain ⟨v0, vs0, d0, ds0, p0, q0, hargs, rfl, rfl, h0, r0⟩ := trodAll_cons hA
  obtain ⟨v1, vs1, d1, ds1, p1, q1, rfl, rfl, rfl, h1, r1⟩ := trodAll_cons r0
  obtain ⟨v2, vs2, d2, ds2, p2, q2, rfl, rfl, rfl, h2, r2⟩ := trodAll_cons r1
  obtain ⟨v3, vs3, d3, ds3, p3, q3, rfl, rfl, rfl, h3, r3⟩ := trodAll_cons r2
  obtain ⟨rfl, rfl, rfl⟩ := trodAll_nil r3
  obtain rfl : args = #[v0, v1, v2, v3] := by cases args; simp_all
  obtain ⟨rfl, rfl⟩ := trodVars_none hV
  have lt : ∀ {t v d p}, DataW.Trod enc Try.prog W 0 (fun _ => true) true t v d p → ∀ x ∈ p, x.block < W.heap.size := by
    rintro t v d p ⟨m, hm⟩
    exact DataW.trod_lt m _ _ _ hm
  have core : Calls Try.prog 4 #[v0, v1, v2, v3] W fun e W' => e = .returned (.bool true) ∧ Below W.heap.size W W' := by
    have o0 := hval 0 25 v0 rfl rfl
    have o1 := hval 1 36 v1 rfl rfl
    have o2 := hval 2 29 v2 rfl rfl
    have o3 := hval 3 3 v3 rfl rfl
    obtain ⟨m0, t0⟩ := h0
    obtain ⟨m1, t1⟩ := h1
    obtain ⟨m2, t2⟩ := h2
    obtain ⟨a0, len0, cap0, rfl⟩ := okWide_slice Try.underlying25 o0
    obtain ⟨cs1, rfl, _⟩ := okWide_struct Try.underlying36 o1
    obtain ⟨a2, len2, cap2, rfl⟩ := okWide_slice Try.underlying29 o2
    obtain ⟨n3, rfl⟩ := okWide_int Try.underlying3 o3
    obtain ⟨lv, R, c0, hR⟩ := Am.refs_at t0 (spot_of Try.underlying25 o0)
    obtain ⟨p1, p2, hcs, _⟩ := Am.trod_place t1
    obtain ⟨sv, xs, c2, hS⟩ := Am.ints_at t2 (spot_of Try.underlying29 o2)
    have hcs1 : cs1 = #[.int .i64 p1, .int .i64 p2] := Array.toList_inj.1 hcs
    subst hcs1
    obtain ⟨H', hd⟩ := Am.law4 (p1 := p1) (p2 := p2) (k := n3) hR hS
    exact Am.law_calls (Am.ovOk W) (by decide +kernel) hd (Am.cvL_cons.2 ⟨_, _, c0, Am.cvL_cons.2 ⟨_, _, rfl, Am.cvL_cons.2 ⟨_, _, c2, Am.cvL_cons.2 ⟨_, _, rfl, rfl, rfl⟩, rfl⟩, rfl⟩, rfl⟩)
  refine core.mono fun e W' ⟨he, bel⟩ => ?_
  subst he
  exact ⟨_, rfl, _, _, _, [], _, [], hW', trodAll_mk1 (shut_bool Try.underlying4 _),
    (trodAll_cons_mk (Below.trod laidOut (by kernel_rfl) (of_decide_eq_true (by kernel_rfl)) h0 bel (lt h0)) (trodAll_cons_mk (Below.trod laidOut (by kernel_rfl) (of_decide_eq_true (by kernel_rfl)) h1 bel (lt h1))
      (trodAll_cons_mk (Below.trod laidOut (by kernel_rfl) (of_decide_eq_true (by kernel_rfl)) h2 bel (lt h2)) (trodAll_cons_mk (Below.trod laidOut (by kernel_rfl) (of_decide_eq_true (by kernel_rfl)) h3 bel (lt h3)) trodAll_mk0)))), rfl, bel.frame _, fun h => by cases h⟩
theorem over : Rows.refsAsksRow.holds Try.pinned (OpenSpec.ofChange Rows.refsAsksSpec) :=
  OpenClaim.holds_of_wide 4 Try.f4 rfl rfl rfl rfl rfl rfl rfl ⟨rfl, rfl, rfl, rfl, rfl⟩ rfl rfl rfl rfl rfl (by kernel_rfl) Try.func4 (by kernel_rfl)
    (of_decide_eq_true (by kernel_rfl)) (by unfold Func.isWrapper; first | (rw [if_pos (by decide +kernel)]; kernel_rfl) | (rw [if_neg (by decide +kernel)]; exact ⟨rfl, rfl⟩))
    (fun os started H enc _ => lifted os started H enc)
theorem proved : Rows.RefsAsksSaid := over
end Go.Proofs.Ytpphdfcahemlcaa.refsAsks
