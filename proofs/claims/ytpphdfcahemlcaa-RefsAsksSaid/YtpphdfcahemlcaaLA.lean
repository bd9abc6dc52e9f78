/- The functions of refs and of the document on references, as they are in the abstract machine, first part. -/
import Derived.Test.YtpphdfcahemlcaaChecked
import Derived.Test.YtpphdfcahemlcaaMB
set_option linter.unusedSimpArgs false
set_option linter.unusedVariables false
set_option linter.unusedSectionVars false
set_option linter.unnecessarySimpa false
/- Shared facts of the program's types, for the laws of layer 15. -/
open Go.Proofs Go.Am
namespace Go.Am
theorem eg36 : Try.prog.eqGuardType Try.prog.depth 36 = false := by kernel_rfl
theorem sh36 : Try.prog.stoodInHeld 36 = false := by kernel_rfl
theorem eq36 {a b c d : Int} : pv Try.prog (Op.equal 36 (.agg #[.int .i64 a, .int .i64 b]) (.agg #[.int .i64 c, .int .i64 d])) = some (decide (a = c) && decide (b = d)) := by
  have key : ∀ n, pv Try.prog (Op.equalIn (n + 2) 36 (.agg #[.int .i64 a, .int .i64 b]) (.agg #[.int .i64 c, .int .i64 d])) = some (decide (a = c) && decide (b = d)) := by
    intro n
    simp [Op.equalIn, pv_bind, pv_underlying, Try.underlying36, Try.underlying3, sh36, part, pv_isAgg, isAggD]
    by_cases h1 : a = c <;> by_cases h2 : b = d <;> simp [h1, h2, pv_bind, pv_isAgg, isAggD, pv_underlying, Try.underlying3]
  exact key 9998
theorem abin_eql36 {xo yo : Operand} {a b c d : Int} : abin Try.prog .eql 36 xo yo (.agg #[.int .i64 a, .int .i64 b]) (.agg #[.int .i64 c, .int .i64 d]) = some (.bool (decide (a = c) && decide (b = d))) :=
  abin_eql_agg (by simp [scal, scalL]) (by simp [scal, scalL]) eg36 eq36
theorem sz52 : asize Try.prog 52 = some 3 := by kernel_rfl
theorem sz36 : asize Try.prog 36 = some 2 := by kernel_rfl
theorem sz3 : asize Try.prog 3 = some 1 := by kernel_rfl
theorem z52 : azero Try.prog 52 = some (.agg #[.int .i64 0, .int .i64 0, .int .i64 0]) := by kernel_rfl
theorem wrap_i64 {x : Int} (h0 : 0 ≤ x) (h1 : x < 2 ^ 62) : IntKind.i64.wrap x = x := by rw [IntKind.wrap_i64]; omega
def CellsRefs (w0 : World) (H : AH) (blk off : Nat) (sp : Option Nat) (R : List (Int × Int × Int)) : Prop :=
  ∀ (i : Nat) (a b m : Int), R[i]? = some (a, b, m) → acells w0 H ⟨blk, off + i * 3, sp⟩ 3 = some [.int .i64 a, .int .i64 b, .int .i64 m]
theorem CellsRefs.app {w0 : World} {H X : AH} {blk off : Nat} {sp : Option Nat} {R : List (Int × Int × Int)} (h : CellsRefs w0 H blk off sp R) : CellsRefs w0 (H ++ X) blk off sp R := fun i a b m hr => acells_app (h i a b m hr)
theorem runs_of {O : Over} {w0 : World} {n : Nat} {c : Code} {T T' : Fr} {H H' : AH} {e : Exit} (h : evCode Try.prog w0 noCall 0 n c T H = some (e, T', H')) : Runs Try.prog w0 O n c T H e T' H' := ⟨0, evCode_mono (noCall_le _) (Nat.le_refl _) _ _ _ h⟩
theorem runs_at {O : Over} {w0 : World} {k n : Nat} {c : Code} {T T' : Fr} {H H' : AH} {e : Exit} (h : evCode Try.prog w0 (evCall Try.prog w0 O k) 0 n c T H = some (e, T', H')) : Runs Try.prog w0 O n c T H e T' H' := ⟨k, evCode_mono (fun _ _ _ _ h => h) (Nat.zero_le _) _ _ _ h⟩
theorem drop_cons {α : Type} {R r : List α} {x : α} {i : Nat} (h : R.drop i = x :: r) : i < R.length ∧ R[i]? = some x ∧ R.drop (i + 1) = r := by
  refine ⟨by have := congrArg List.length h; simp at this; omega, ?_, ?_⟩
  · have : (R.drop i)[0]? = some x := by rw [h]; rfl
    simpa using this
  · have : (R.drop i).drop 1 = r := by rw [h]; rfl
    rwa [List.drop_drop] at this
theorem drop_nil {α : Type} {R : List α} {i : Nat} (h : R.drop i = []) : ¬ i < R.length := by have := congrArg List.length h; simp at this; omega
theorem wrap_succ {i n : Nat} (h : i < n) (hn : n < 2 ^ 62) : IntKind.i64.wrap ((i : Int) + 1) = ((i + 1 : Nat) : Int) := by rw [wrap_i64 (by omega) (by omega)]; omega
end Go.Am
/- refs.N and the document's N: the sum over a list of references. -/
open Go.Proofs Go.Am
namespace Go.Am
theorem ok16 : funcOk Try.prog Try.f16 = true := by decide +kernel
noncomputable def b16 : Code := match Try.f16.body with | some c => c | none => .skip
theorem f16b : Try.f16.body = some b16 := rfl
noncomputable def l16 : Code := (loopOf b16).getD .skip
theorem N_body {w0 : World} {T : Fr} {H : AH} {i n c j blk off : Nat} {sp : Option Nat} {s p1 p2 a b m : Int} (h8 : T 8 = .slice (some ⟨blk, off, sp⟩) n c) (hsp : sp = none ∨ sp = some 0) (h9 : T 9 = .int .i64 n) (h10 : T 10 = .int .i64 i) (hi : i < n) (h5 : T 5 = .int .i64 s) (h3 : T 3 = .pointer (some ⟨j, 0, none⟩))
    (hj : H[j]? = some (.cells [.int .i64 p1, .int .i64 p2] 36 false)) (hA : acells w0 H ⟨blk, off + i * 3, sp⟩ 3 = some [.int .i64 a, .int .i64 b, .int .i64 m]) :
    ∃ T', evCode Try.prog w0 noCall 0 24 l16 T H = some (.normal, T', H ++ [.cells [.int .i64 a, .int .i64 b, .int .i64 m] 52 false]) ∧ T' 8 = T 8 ∧ T' 9 = T 9 ∧ T' 3 = T 3 ∧ T' 10 = .int .i64 (IntKind.i64.wrap (i + 1)) ∧ T' 5 = .int .i64 (if a = p1 ∧ b = p2 then IntKind.i64.wrap (s + m) else s) := by
  have hi' : (i : Int) < n := by omega
  have hx := aindexAddr_at (P := Try.prog) (k := .i64) (n := n) (c := c) (blk := blk) (off := off) Try.underlying25 sz52 hi hsp
  have ha : acells w0 (H ++ [.cells [.int .i64 a, .int .i64 b, .int .i64 m] 52 false]) ⟨j, 0, none⟩ 2 = some [.int .i64 p1, .int .i64 p2] := acells_app (acells_at hj (by simp))
  by_cases hq : a = p1 ∧ b = p2
  · obtain ⟨rfl, rfl⟩ := hq
    simp [l16, b16, loopOf, Try.f16, evCode, evOps, astep, clsOf, aread, awanted, aev, h8, h9, h10, h5, h3, aput, upd, abin_lss, abin_add, hi', hx, aload, Try.underlying52, Try.underlying36, Try.underlying3, isAggD, sz52, sz36, sz3, hA, aalloc, z52, awrite, astore, Value.cells, splice, cellV, afieldAddr, aadd, acells_last, acell_last, put_last, ha, abin_eql36]
  · simp [l16, b16, loopOf, Try.f16, evCode, evOps, astep, clsOf, aread, awanted, aev, h8, h9, h10, h5, h3, aput, upd, abin_lss, abin_add, hi', hx, aload, Try.underlying52, Try.underlying36, Try.underlying3, isAggD, sz52, sz36, sz3, hA, aalloc, z52, awrite, astore, Value.cells, splice, cellV, afieldAddr, aadd, acells_last, acell_last, put_last, ha, abin_eql36, hq]
theorem N_out {w0 : World} {T : Fr} {H : AH} {i n : Nat} (h9 : T 9 = .int .i64 n) (h10 : T 10 = .int .i64 i) (hi : ¬ i < n) : ∃ T', evCode Try.prog w0 noCall 0 24 l16 T H = some (.exit 0, T', H) ∧ T' 5 = T 5 := by
  have hi' : ¬ (i : Int) < n := by omega
  simp [l16, b16, loopOf, Try.f16, evCode, evOps, astep, clsOf, aread, awanted, aev, h9, h10, aput, upd, abin_lss, hi']
def sumN (p1 p2 : Int) : List (Int × Int × Int) → Int → Int
  | [], s => s
  | (a, b, m) :: r, s => sumN p1 p2 r (if a = p1 ∧ b = p2 then IntKind.i64.wrap (s + m) else s)
theorem N_loop {O : Over} (hM : OverMono O) {w0 : World} {R : List (Int × Int × Int)} {c j blk off : Nat} {sp : Option Nat} {p1 p2 : Int} (hsp : sp = none ∨ sp = some 0) (hn : R.length < 2 ^ 62) : ∀ (r : List (Int × Int × Int)) (i : Nat) (T : Fr) (H : AH) (s : Int), R.drop i = r → i ≤ R.length →
    T 8 = .slice (some ⟨blk, off, sp⟩) R.length c → T 9 = .int .i64 R.length → T 10 = .int .i64 i → T 5 = .int .i64 s → T 3 = .pointer (some ⟨j, 0, none⟩) → H[j]? = some (.cells [.int .i64 p1, .int .i64 p2] 36 false) → CellsRefs w0 H blk off sp R →
    ∃ T' X, Runs Try.prog w0 O 24 (.loop l16) T H (.exit 0) T' (H ++ X) ∧ T' 5 = .int .i64 (sumN p1 p2 r s)
  | [], i, T, H, s, hr, hi, h8, h9, h10, h5, h3, hj, hA => by
    have : ¬ i < R.length := by have := congrArg List.length hr; simp at this; omega
    obtain ⟨T', h1, h2⟩ := N_out (w0 := w0) (H := H) h9 h10 this
    exact ⟨T', [], by rw [List.append_nil]; exact Runs.loop_out hM (runs_of h1) (by simp), by rw [h2, h5]; rfl⟩
  | (a, b, m) :: r, i, T, H, s, hr, hi, h8, h9, h10, h5, h3, hj, hA => by
    have hlt : i < R.length := by have := congrArg List.length hr; simp at this; omega
    have hget : R[i]? = some (a, b, m) := by
      have : (R.drop i)[0]? = some (a, b, m) := by rw [hr]; rfl
      simpa using this
    have hr' : R.drop (i + 1) = r := by
      have : (R.drop i).drop 1 = r := by rw [hr]; rfl
      rwa [List.drop_drop] at this
    obtain ⟨T1, h1, e8, e9, e3, e10, e5⟩ := N_body h8 hsp h9 h10 hlt h5 h3 hj (hA i a b m hget)
    have hw : IntKind.i64.wrap ((i : Int) + 1) = ((i + 1 : Nat) : Int) := by rw [wrap_i64 (by omega) (by omega)]; omega
    obtain ⟨T', X, h2, h3'⟩ := N_loop hM hsp hn r (i + 1) T1 _ _ hr' hlt (e8.trans h8) (e9.trans h9) (by rw [e10, hw]) e5 (e3.trans h3) (get_app hj) hA.app
    exact ⟨T', _, by have := Runs.loop_next hM (runs_of h1) h2; rwa [List.append_assoc] at this, by rw [h3']; rfl⟩
theorem N_does {O : Over} (hM : OverMono O) {f : Nat} {fn : Func} (hfn : Try.prog.funcs[f]? = some fn) (hbd : fn.body = some b16) (hnt : fn.ntmps = 24) (hok : funcOk Try.prog fn = true) (hrs : fn.results = #[.tmp 4]) (hO : O f = none) {w0 : World} {H : AH} {R : List (Int × Int × Int)} {c blk off : Nat} {sp : Option Nat} {p1 p2 : Int} (hsp : sp = none ∨ sp = some 0) (hn : R.length < 2 ^ 62) (hR : CellsRefs w0 H blk off sp R) :
    ∃ X, Does Try.prog w0 O f [.slice (some ⟨blk, off, sp⟩) R.length c, .agg #[.int .i64 p1, .int .i64 p2]] H (.int .i64 (sumN p1 p2 R 0)) (H ++ X) := by
  have hb : b16 = .seq (cat [false] b16) (.seq (cat [true, false] b16) (.seq (.seq (cat [true, true, false, false] b16) (.block 0 (.loop l16))) (.seq (cat [true, true, true, false] b16) .ret))) := rfl
  obtain ⟨T0, a0, b0⟩ : ∃ T', evCode Try.prog w0 noCall 0 24 (cat [false] b16) (frame0 [.slice (some ⟨blk, off, sp⟩) R.length c, .agg #[.int .i64 p1, .int .i64 p2]]) H = some (.normal, T', H ++ [.cells [.int .i64 p1, .int .i64 p2] 36 false]) ∧
      T' 0 = .slice (some ⟨blk, off, sp⟩) R.length c ∧ T' 3 = .pointer (some ⟨H.length, 0, none⟩) := by
    simp [cat, b16, Try.f16, evCode, evOps, astep, clsOf, aread, awanted, aev, aput, upd, aalloc, frame0, Value.cells]
  obtain ⟨T1, a1, b1⟩ : ∃ T', evCode Try.prog w0 noCall 0 24 (cat [true, false] b16) T0 (H ++ [.cells [.int .i64 p1, .int .i64 p2] 36 false]) = some (.normal, T', H ++ [.cells [.int .i64 p1, .int .i64 p2] 36 false]) ∧
      T' 0 = T0 0 ∧ T' 3 = T0 3 ∧ T' 5 = .int .i64 0 := by
    simp [cat, b16, Try.f16, evCode, evOps, astep, clsOf, aread, awanted, aev, aput, upd]
  obtain ⟨T2, a2, b2⟩ : ∃ T', evCode Try.prog w0 noCall 0 24 (cat [true, true, false, false] b16) T1 (H ++ [.cells [.int .i64 p1, .int .i64 p2] 36 false]) = some (.normal, T', H ++ [.cells [.int .i64 p1, .int .i64 p2] 36 false]) ∧
      T' 3 = T0 3 ∧ T' 5 = .int .i64 0 ∧ T' 8 = T0 0 ∧ T' 9 = .int .i64 R.length ∧ T' 10 = .int .i64 0 := by
    simp [cat, b16, Try.f16, evCode, evOps, astep, clsOf, aread, awanted, aev, aput, upd, alen, Try.underlying25, b1, b0]
  obtain ⟨T3, X, c1, c2⟩ := N_loop (O := O) hM hsp hn R 0 T2 (H ++ [.cells [.int .i64 p1, .int .i64 p2] 36 false]) 0 rfl (Nat.zero_le _) (b2.2.2.1.trans b0.1) b2.2.2.2.1 b2.2.2.2.2 b2.2.1 (b2.1.trans b0.2) get_last hR.app
  obtain ⟨T4, a4, b4⟩ : ∃ T', evCode Try.prog w0 noCall 0 24 (cat [true, true, true, false] b16) T3 (H ++ [.cells [.int .i64 p1, .int .i64 p2] 36 false] ++ X) = some (.normal, T', H ++ [.cells [.int .i64 p1, .int .i64 p2] 36 false] ++ X) ∧ T' 4 = T3 5 := by
    simp [cat, b16, Try.f16, evCode, evOps, astep, clsOf, aread, awanted, aev, aput, upd]
  refine ⟨.cells [.int .i64 p1, .int .i64 p2] 36 false :: X, ?_⟩
  have hrun : Runs Try.prog w0 O 24 b16 (frame0 [.slice (some ⟨blk, off, sp⟩) R.length c, .agg #[.int .i64 p1, .int .i64 p2]]) H .ret T4 (H ++ [.cells [.int .i64 p1, .int .i64 p2] 36 false] ++ X) := by
    rw [hb]
    exact Runs.seq hM (runs_of a0) (Runs.seq hM (runs_of a1) (Runs.seq hM (Runs.seq hM (runs_of a2) (Runs.block_exit c1)) (Runs.seq hM (runs_of a4) Runs.ret)))
  rw [List.append_assoc] at hrun
  refine Does.intro hO hfn hbd hok (by simp [hnt]) (by rw [hnt]; exact hrun) (.inr rfl) ?_
  simp [aresults, aresultsL, aresult, hrs, b4, c2]
theorem N16 {O : Over} (hM : OverMono O) (hO : O 16 = none) {w0 : World} {H : AH} {R : List (Int × Int × Int)} {c blk off : Nat} {sp : Option Nat} {p1 p2 : Int} (hsp : sp = none ∨ sp = some 0) (hn : R.length < 2 ^ 62) (hR : CellsRefs w0 H blk off sp R) :
    ∃ X, Does Try.prog w0 O 16 [.slice (some ⟨blk, off, sp⟩) R.length c, .agg #[.int .i64 p1, .int .i64 p2]] H (.int .i64 (sumN p1 p2 R 0)) (H ++ X) := N_does hM Try.func16 f16b rfl ok16 rfl hO hsp hn hR
theorem ok17 : funcOk Try.prog Try.f17 = true := by decide +kernel
noncomputable def b17 : Code := match Try.f17.body with | some c => c | none => .skip
theorem f17b : Try.f17.body = some b17 := rfl
noncomputable def l17 : Code := (loopOf b17).getD .skip
theorem N17_body {w0 : World} {T : Fr} {H : AH} {i n c j blk off : Nat} {sp : Option Nat} {s p1 p2 a b m : Int} (h8 : T 8 = .slice (some ⟨blk, off, sp⟩) n c) (hsp : sp = none ∨ sp = some 0) (h9 : T 9 = .int .i64 n) (h10 : T 10 = .int .i64 i) (hi : i < n) (h5 : T 5 = .int .i64 s) (h3 : T 3 = .pointer (some ⟨j, 0, none⟩))
    (hj : H[j]? = some (.cells [.int .i64 p1, .int .i64 p2] 36 false)) (hA : acells w0 H ⟨blk, off + i * 3, sp⟩ 3 = some [.int .i64 a, .int .i64 b, .int .i64 m]) :
    ∃ T', evCode Try.prog w0 noCall 0 24 l17 T H = some (.normal, T', H ++ [.cells [.int .i64 a, .int .i64 b, .int .i64 m] 52 false]) ∧ T' 8 = T 8 ∧ T' 9 = T 9 ∧ T' 3 = T 3 ∧ T' 10 = .int .i64 (IntKind.i64.wrap (i + 1)) ∧ T' 5 = .int .i64 (if a = p1 ∧ b = p2 then IntKind.i64.wrap (s + m) else s) := by
  have hi' : (i : Int) < n := by omega
  have hx := aindexAddr_at (P := Try.prog) (k := .i64) (n := n) (c := c) (blk := blk) (off := off) Try.underlying25 sz52 hi hsp
  have ha : acells w0 (H ++ [.cells [.int .i64 a, .int .i64 b, .int .i64 m] 52 false]) ⟨j, 0, none⟩ 2 = some [.int .i64 p1, .int .i64 p2] := acells_app (acells_at hj (by simp))
  by_cases hq : a = p1 ∧ b = p2
  · obtain ⟨rfl, rfl⟩ := hq
    simp [l17, b17, loopOf, Try.f17, evCode, evOps, astep, clsOf, aread, awanted, aev, h8, h9, h10, h5, h3, aput, upd, abin_lss, abin_add, hi', hx, aload, Try.underlying52, Try.underlying36, Try.underlying3, isAggD, sz52, sz36, sz3, hA, aalloc, z52, awrite, astore, Value.cells, splice, cellV, afieldAddr, aadd, acells_last, acell_last, put_last, ha, abin_eql36]
  · simp [l17, b17, loopOf, Try.f17, evCode, evOps, astep, clsOf, aread, awanted, aev, h8, h9, h10, h5, h3, aput, upd, abin_lss, abin_add, hi', hx, aload, Try.underlying52, Try.underlying36, Try.underlying3, isAggD, sz52, sz36, sz3, hA, aalloc, z52, awrite, astore, Value.cells, splice, cellV, afieldAddr, aadd, acells_last, acell_last, put_last, ha, abin_eql36, hq]
theorem N17_out {w0 : World} {T : Fr} {H : AH} {i n : Nat} (h9 : T 9 = .int .i64 n) (h10 : T 10 = .int .i64 i) (hi : ¬ i < n) : ∃ T', evCode Try.prog w0 noCall 0 24 l17 T H = some (.exit 0, T', H) ∧ T' 5 = T 5 := by
  have hi' : ¬ (i : Int) < n := by omega
  simp [l17, b17, loopOf, Try.f17, evCode, evOps, astep, clsOf, aread, awanted, aev, h9, h10, aput, upd, abin_lss, hi']
theorem N17_loop {O : Over} (hM : OverMono O) {w0 : World} {R : List (Int × Int × Int)} {c j blk off : Nat} {sp : Option Nat} {p1 p2 : Int} (hsp : sp = none ∨ sp = some 0) (hn : R.length < 2 ^ 62) : ∀ (r : List (Int × Int × Int)) (i : Nat) (T : Fr) (H : AH) (s : Int), R.drop i = r → i ≤ R.length →
    T 8 = .slice (some ⟨blk, off, sp⟩) R.length c → T 9 = .int .i64 R.length → T 10 = .int .i64 i → T 5 = .int .i64 s → T 3 = .pointer (some ⟨j, 0, none⟩) → H[j]? = some (.cells [.int .i64 p1, .int .i64 p2] 36 false) → CellsRefs w0 H blk off sp R →
    ∃ T' X, Runs Try.prog w0 O 24 (.loop l17) T H (.exit 0) T' (H ++ X) ∧ T' 5 = .int .i64 (sumN p1 p2 r s)
  | [], i, T, H, s, hr, hi, h8, h9, h10, h5, h3, hj, hA => by
    have : ¬ i < R.length := by have := congrArg List.length hr; simp at this; omega
    obtain ⟨T', h1, h2⟩ := N17_out (w0 := w0) (H := H) h9 h10 this
    exact ⟨T', [], by rw [List.append_nil]; exact Runs.loop_out hM (runs_of h1) (by simp), by rw [h2, h5]; rfl⟩
  | (a, b, m) :: r, i, T, H, s, hr, hi, h8, h9, h10, h5, h3, hj, hA => by
    have hlt : i < R.length := by have := congrArg List.length hr; simp at this; omega
    have hget : R[i]? = some (a, b, m) := by
      have : (R.drop i)[0]? = some (a, b, m) := by rw [hr]; rfl
      simpa using this
    have hr' : R.drop (i + 1) = r := by
      have : (R.drop i).drop 1 = r := by rw [hr]; rfl
      rwa [List.drop_drop] at this
    obtain ⟨T1, h1, e8, e9, e3, e10, e5⟩ := N17_body h8 hsp h9 h10 hlt h5 h3 hj (hA i a b m hget)
    have hw : IntKind.i64.wrap ((i : Int) + 1) = ((i + 1 : Nat) : Int) := by rw [wrap_i64 (by omega) (by omega)]; omega
    obtain ⟨T', X, h2, h3'⟩ := N17_loop hM hsp hn r (i + 1) T1 _ _ hr' hlt (e8.trans h8) (e9.trans h9) (by rw [e10, hw]) e5 (e3.trans h3) (get_app hj) hA.app
    exact ⟨T', _, by have := Runs.loop_next hM (runs_of h1) h2; rwa [List.append_assoc] at this, by rw [h3']; rfl⟩
theorem N17_does {O : Over} (hM : OverMono O) {f : Nat} {fn : Func} (hfn : Try.prog.funcs[f]? = some fn) (hbd : fn.body = some b17) (hnt : fn.ntmps = 24) (hok : funcOk Try.prog fn = true) (hrs : fn.results = #[.tmp 4]) (hO : O f = none) {w0 : World} {H : AH} {R : List (Int × Int × Int)} {c blk off : Nat} {sp : Option Nat} {p1 p2 : Int} (hsp : sp = none ∨ sp = some 0) (hn : R.length < 2 ^ 62) (hR : CellsRefs w0 H blk off sp R) :
    ∃ X, Does Try.prog w0 O f [.slice (some ⟨blk, off, sp⟩) R.length c, .agg #[.int .i64 p1, .int .i64 p2]] H (.int .i64 (sumN p1 p2 R 0)) (H ++ X) := by
  have hb : b17 = .seq (cat [false] b17) (.seq (cat [true, false] b17) (.seq (.seq (cat [true, true, false, false] b17) (.block 0 (.loop l17))) (.seq (cat [true, true, true, false] b17) .ret))) := rfl
  obtain ⟨T0, a0, b0⟩ : ∃ T', evCode Try.prog w0 noCall 0 24 (cat [false] b17) (frame0 [.slice (some ⟨blk, off, sp⟩) R.length c, .agg #[.int .i64 p1, .int .i64 p2]]) H = some (.normal, T', H ++ [.cells [.int .i64 p1, .int .i64 p2] 36 false]) ∧
      T' 0 = .slice (some ⟨blk, off, sp⟩) R.length c ∧ T' 3 = .pointer (some ⟨H.length, 0, none⟩) := by
    simp [cat, b17, Try.f17, evCode, evOps, astep, clsOf, aread, awanted, aev, aput, upd, aalloc, frame0, Value.cells]
  obtain ⟨T1, a1, b1⟩ : ∃ T', evCode Try.prog w0 noCall 0 24 (cat [true, false] b17) T0 (H ++ [.cells [.int .i64 p1, .int .i64 p2] 36 false]) = some (.normal, T', H ++ [.cells [.int .i64 p1, .int .i64 p2] 36 false]) ∧
      T' 0 = T0 0 ∧ T' 3 = T0 3 ∧ T' 5 = .int .i64 0 := by
    simp [cat, b17, Try.f17, evCode, evOps, astep, clsOf, aread, awanted, aev, aput, upd]
  obtain ⟨T2, a2, b2⟩ : ∃ T', evCode Try.prog w0 noCall 0 24 (cat [true, true, false, false] b17) T1 (H ++ [.cells [.int .i64 p1, .int .i64 p2] 36 false]) = some (.normal, T', H ++ [.cells [.int .i64 p1, .int .i64 p2] 36 false]) ∧
      T' 3 = T0 3 ∧ T' 5 = .int .i64 0 ∧ T' 8 = T0 0 ∧ T' 9 = .int .i64 R.length ∧ T' 10 = .int .i64 0 := by
    simp [cat, b17, Try.f17, evCode, evOps, astep, clsOf, aread, awanted, aev, aput, upd, alen, Try.underlying25, b1, b0]
  obtain ⟨T3, X, c1, c2⟩ := N17_loop (O := O) hM hsp hn R 0 T2 (H ++ [.cells [.int .i64 p1, .int .i64 p2] 36 false]) 0 rfl (Nat.zero_le _) (b2.2.2.1.trans b0.1) b2.2.2.2.1 b2.2.2.2.2 b2.2.1 (b2.1.trans b0.2) get_last hR.app
  obtain ⟨T4, a4, b4⟩ : ∃ T', evCode Try.prog w0 noCall 0 24 (cat [true, true, true, false] b17) T3 (H ++ [.cells [.int .i64 p1, .int .i64 p2] 36 false] ++ X) = some (.normal, T', H ++ [.cells [.int .i64 p1, .int .i64 p2] 36 false] ++ X) ∧ T' 4 = T3 5 := by
    simp [cat, b17, Try.f17, evCode, evOps, astep, clsOf, aread, awanted, aev, aput, upd]
  refine ⟨.cells [.int .i64 p1, .int .i64 p2] 36 false :: X, ?_⟩
  have hrun : Runs Try.prog w0 O 24 b17 (frame0 [.slice (some ⟨blk, off, sp⟩) R.length c, .agg #[.int .i64 p1, .int .i64 p2]]) H .ret T4 (H ++ [.cells [.int .i64 p1, .int .i64 p2] 36 false] ++ X) := by
    rw [hb]
    exact Runs.seq hM (runs_of a0) (Runs.seq hM (runs_of a1) (Runs.seq hM (Runs.seq hM (runs_of a2) (Runs.block_exit c1)) (Runs.seq hM (runs_of a4) Runs.ret)))
  rw [List.append_assoc] at hrun
  refine Does.intro hO hfn hbd hok (by simp [hnt]) (by rw [hnt]; exact hrun) (.inr rfl) ?_
  simp [aresults, aresultsL, aresult, hrs, b4, c2]
theorem N17 {O : Over} (hM : OverMono O) (hO : O 17 = none) {w0 : World} {H : AH} {R : List (Int × Int × Int)} {c blk off : Nat} {sp : Option Nat} {p1 p2 : Int} (hsp : sp = none ∨ sp = some 0) (hn : R.length < 2 ^ 62) (hR : CellsRefs w0 H blk off sp R) :
    ∃ X, Does Try.prog w0 O 17 [.slice (some ⟨blk, off, sp⟩) R.length c, .agg #[.int .i64 p1, .int .i64 p2]] H (.int .i64 (sumN p1 p2 R 0)) (H ++ X) := N17_does hM Try.func17 f17b rfl ok17 rfl hO hsp hn hR
end Go.Am
/- The document's Live: how many references are of a stripe. -/
open Go.Proofs Go.Am
namespace Go.Am
theorem ok19 : funcOk Try.prog Try.f19 = true := by decide +kernel
noncomputable def b19 : Code := match Try.f19.body with | some c => c | none => .skip
theorem f19b : Try.f19.body = some b19 := rfl
noncomputable def l19 : Code := (loopOf b19).getD .skip
theorem L_body {w0 : World} {T : Fr} {H : AH} {i n c blk off : Nat} {sp : Option Nat} {s p a b m : Int} (h8 : T 8 = .slice (some ⟨blk, off, sp⟩) n c) (hsp : sp = none ∨ sp = some 0) (h9 : T 9 = .int .i64 n) (h10 : T 10 = .int .i64 i) (hi : i < n) (h5 : T 5 = .int .i64 s) (h1 : T 1 = .int .i64 p)
    (hA : acells w0 H ⟨blk, off + i * 3, sp⟩ 3 = some [.int .i64 a, .int .i64 b, .int .i64 m]) :
    ∃ T', evCode Try.prog w0 noCall 0 23 l19 T H = some (.normal, T', H ++ [.cells [.int .i64 a, .int .i64 b, .int .i64 m] 52 false]) ∧ T' 8 = T 8 ∧ T' 9 = T 9 ∧ T' 1 = T 1 ∧ T' 10 = .int .i64 (IntKind.i64.wrap (i + 1)) ∧ T' 5 = .int .i64 (if a = p then IntKind.i64.wrap (s + 1) else s) := by
  have hi' : (i : Int) < n := by omega
  have hx := aindexAddr_at (P := Try.prog) (k := .i64) (n := n) (c := c) (blk := blk) (off := off) Try.underlying25 sz52 hi hsp
  by_cases hq : a = p
  · subst hq
    simp [l19, b19, loopOf, Try.f19, evCode, evOps, astep, clsOf, aread, awanted, aev, h8, h9, h10, h5, h1, aput, upd, abin_lss, abin_add, hi', hx, aload, Try.underlying52, Try.underlying36, Try.underlying3, isAggD, sz52, sz36, sz3, hA, aalloc, z52, awrite, astore, Value.cells, splice, cellV, afieldAddr, aadd, acells_last, acell_last, put_last, abin_eql_int]
  · simp [l19, b19, loopOf, Try.f19, evCode, evOps, astep, clsOf, aread, awanted, aev, h8, h9, h10, h5, h1, aput, upd, abin_lss, abin_add, hi', hx, aload, Try.underlying52, Try.underlying36, Try.underlying3, isAggD, sz52, sz36, sz3, hA, aalloc, z52, awrite, astore, Value.cells, splice, cellV, afieldAddr, aadd, acells_last, acell_last, put_last, abin_eql_int, hq]
theorem L_out {w0 : World} {T : Fr} {H : AH} {i n : Nat} (h9 : T 9 = .int .i64 n) (h10 : T 10 = .int .i64 i) (hi : ¬ i < n) : ∃ T', evCode Try.prog w0 noCall 0 23 l19 T H = some (.exit 0, T', H) ∧ T' 5 = T 5 := by
  have hi' : ¬ (i : Int) < n := by omega
  simp [l19, b19, loopOf, Try.f19, evCode, evOps, astep, clsOf, aread, awanted, aev, h9, h10, aput, upd, abin_lss, hi']
def cntS (p : Int) : List (Int × Int × Int) → Int → Int
  | [], s => s
  | (a, _, _) :: r, s => cntS p r (if a = p then IntKind.i64.wrap (s + 1) else s)
theorem L_loop {O : Over} (hM : OverMono O) {w0 : World} {R : List (Int × Int × Int)} {c blk off : Nat} {sp : Option Nat} {p : Int} (hsp : sp = none ∨ sp = some 0) (hn : R.length < 2 ^ 62) : ∀ (r : List (Int × Int × Int)) (i : Nat) (T : Fr) (H : AH) (s : Int), R.drop i = r →
    T 8 = .slice (some ⟨blk, off, sp⟩) R.length c → T 9 = .int .i64 R.length → T 10 = .int .i64 i → T 5 = .int .i64 s → T 1 = .int .i64 p → CellsRefs w0 H blk off sp R →
    ∃ T' X, Runs Try.prog w0 O 23 (.loop l19) T H (.exit 0) T' (H ++ X) ∧ T' 5 = .int .i64 (cntS p r s)
  | [], i, T, H, s, hr, h8, h9, h10, h5, h1, hA => by
    obtain ⟨T', q1, q2⟩ := L_out (w0 := w0) (H := H) h9 h10 (drop_nil hr)
    exact ⟨T', [], by rw [List.append_nil]; exact Runs.loop_out hM (runs_of q1) (by simp), by rw [q2, h5]; rfl⟩
  | (a, b, m) :: r, i, T, H, s, hr, h8, h9, h10, h5, h1, hA => by
    obtain ⟨hlt, hget, hr'⟩ := drop_cons hr
    obtain ⟨T1, q1, e8, e9, e1, e10, e5⟩ := L_body h8 hsp h9 h10 hlt h5 h1 (hA i a b m hget)
    obtain ⟨T', X, q2, q3⟩ := L_loop hM hsp hn r (i + 1) T1 _ _ hr' (e8.trans h8) (e9.trans h9) (by rw [e10, wrap_succ hlt hn]) e5 (e1.trans h1) hA.app
    exact ⟨T', _, by have := Runs.loop_next hM (runs_of q1) q2; rwa [List.append_assoc] at this, by rw [q3]; rfl⟩
theorem Live19 {O : Over} (hM : OverMono O) (hO : O 19 = none) {w0 : World} {H : AH} {R : List (Int × Int × Int)} {c blk off : Nat} {sp : Option Nat} {p : Int} (hsp : sp = none ∨ sp = some 0) (hn : R.length < 2 ^ 62) (hR : CellsRefs w0 H blk off sp R) :
    ∃ X, Does Try.prog w0 O 19 [.slice (some ⟨blk, off, sp⟩) R.length c, .int .i64 p] H (.int .i64 (cntS p R 0)) (H ++ X) := by
  have hb : b19 = .seq (cat [false] b19) (.seq (cat [true, false] b19) (.seq (.seq (cat [true, true, false, false] b19) (.block 0 (.loop l19))) (.seq (cat [true, true, true, false] b19) .ret))) := rfl
  obtain ⟨T0, a0, b0⟩ : ∃ T', evCode Try.prog w0 noCall 0 23 (cat [false] b19) (frame0 [.slice (some ⟨blk, off, sp⟩) R.length c, .int .i64 p]) H = some (.normal, T', H) ∧
      T' 0 = .slice (some ⟨blk, off, sp⟩) R.length c ∧ T' 1 = .int .i64 p := by
    simp [cat, b19, Try.f19, evCode, evOps, astep, clsOf, aread, awanted, aev, aput, upd, frame0]
  obtain ⟨T1, a1, b1⟩ : ∃ T', evCode Try.prog w0 noCall 0 23 (cat [true, false] b19) T0 H = some (.normal, T', H) ∧ T' 0 = T0 0 ∧ T' 1 = T0 1 ∧ T' 5 = .int .i64 0 := by
    simp [cat, b19, Try.f19, evCode, evOps, astep, clsOf, aread, awanted, aev, aput, upd]
  obtain ⟨T2, a2, b2⟩ : ∃ T', evCode Try.prog w0 noCall 0 23 (cat [true, true, false, false] b19) T1 H = some (.normal, T', H) ∧
      T' 1 = T0 1 ∧ T' 5 = .int .i64 0 ∧ T' 8 = T0 0 ∧ T' 9 = .int .i64 R.length ∧ T' 10 = .int .i64 0 := by
    simp [cat, b19, Try.f19, evCode, evOps, astep, clsOf, aread, awanted, aev, aput, upd, alen, Try.underlying25, b1, b0]
  obtain ⟨T3, X, c1, c2⟩ := L_loop (O := O) hM hsp hn R 0 T2 H 0 rfl (b2.2.2.1.trans b0.1) b2.2.2.2.1 b2.2.2.2.2 b2.2.1 (b2.1.trans b0.2) hR
  obtain ⟨T4, a4, b4⟩ : ∃ T', evCode Try.prog w0 noCall 0 23 (cat [true, true, true, false] b19) T3 (H ++ X) = some (.normal, T', H ++ X) ∧ T' 4 = T3 5 := by
    simp [cat, b19, Try.f19, evCode, evOps, astep, clsOf, aread, awanted, aev, aput, upd]
  refine ⟨X, Does.intro hO Try.func19 f19b ok19 (by simp [Try.f19]) (?_ : Runs Try.prog w0 O 23 b19 _ H .ret T4 _) (.inr rfl) (by simp [aresults, aresultsL, aresult, Try.f19, b4, c2])⟩
  rw [hb]
  exact Runs.seq hM (runs_of a0) (Runs.seq hM (runs_of a1) (Runs.seq hM (Runs.seq hM (runs_of a2) (Runs.block_exit c1)) (Runs.seq hM (runs_of a4) Runs.ret)))
end Go.Am
/- refs.live and refs.Live: a map from stripes to how many references are of them. -/
open Go.Proofs Go.Am
namespace Go.Am
theorem ok41 : funcOk Try.prog Try.f41 = true := by decide +kernel
theorem ok18 : funcOk Try.prog Try.f18 = true := by decide +kernel
noncomputable def b41 : Code := match Try.f41.body with | some c => c | none => .skip
theorem f41b : Try.f41.body = some b41 := rfl
noncomputable def b18 : Code := match Try.f18.body with | some c => c | none => .skip
theorem f18b : Try.f18.body = some b18 := rfl
noncomputable def l41 : Code := (loopOf b41).getD .skip
theorem z3 : azero Try.prog 3 = some (.int .i64 0) := by kernel_rfl
def liveM : List (Int × Int × Int) → IM → Nat → IM
  | [], L, _ => L
  | (a, _, _) :: r, L, c => liveM r (setI a (IntKind.i64.wrap (getI a L + 1)) c L) (tick a L c)
def liveC : List (Int × Int × Int) → IM → Nat → Nat
  | [], _, c => c
  | (a, _, _) :: r, L, c => liveC r (setI a (IntKind.i64.wrap (getI a L + 1)) c L) (tick a L c)
theorem v_body {w0 : World} {T : Fr} {H : AH} {i n c blk off j cl : Nat} {sp : Option Nat} {a b m : Int} {L : IM} (h7 : T 7 = .slice (some ⟨blk, off, sp⟩) n c) (hsp : sp = none ∨ sp = some 0) (h8 : T 8 = .int .i64 n) (h9 : T 9 = .int .i64 i) (hi : i < n) (h3 : T 3 = .map (some j)) (hj : H[j]? = some (.map (L.map mkE) cl))
    (hA : acells w0 H ⟨blk, off + i * 3, sp⟩ 3 = some [.int .i64 a, .int .i64 b, .int .i64 m]) :
    ∃ T', evCode Try.prog w0 noCall 0 21 l41 T H = some (.normal, T', (H ++ [AObj.cells [.int .i64 a, .int .i64 b, .int .i64 m] 52 false]).set j (AObj.map ((setI a (IntKind.i64.wrap (getI a L + 1)) cl L).map mkE) (tick a L cl))) ∧ T' 7 = T 7 ∧ T' 8 = T 8 ∧ T' 3 = T 3 ∧ T' 9 = .int .i64 (IntKind.i64.wrap (i + 1)) := by
  have hi' : (i : Int) < n := by omega
  have hx := aindexAddr_at (P := Try.prog) (k := .i64) (n := n) (c := c) (blk := blk) (off := off) Try.underlying25 sz52 hi hsp
  have hj' : (H ++ [.cells [.int .i64 a, .int .i64 b, .int .i64 m] 52 false])[j]? = some (.map (L.map mkE) cl) := get_app hj
  have e1 := alookup_int Try.underlying83 Try.underlying3 z3 hj' a
  have e2 := amapUpdate_int Try.underlying83 Try.underlying3 hj' a (IntKind.i64.wrap (getI a L + 1))
  simp [l41, b41, loopOf, Try.f41, evCode, evOps, astep, clsOf, aread, awanted, aev, h7, h8, h9, h3, aput, upd, abin_lss, abin_add, hi', hx, aload, Try.underlying52, Try.underlying36, Try.underlying3, isAggD, sz52, sz36, sz3, hA, aalloc, z52, awrite, astore, Value.cells, splice, cellV, afieldAddr, aadd, acell_last, put_last, e1, e2]
theorem v_out {w0 : World} {T : Fr} {H : AH} {i n : Nat} (h8 : T 8 = .int .i64 n) (h9 : T 9 = .int .i64 i) (hi : ¬ i < n) : ∃ T', evCode Try.prog w0 noCall 0 21 l41 T H = some (.exit 0, T', H) ∧ T' 3 = T 3 := by
  have hi' : ¬ (i : Int) < n := by omega
  simp [l41, b41, loopOf, Try.f41, evCode, evOps, astep, clsOf, aread, awanted, aev, h8, h9, aput, upd, abin_lss, hi']
theorem set_mid {H Y : AH} {o o' x : AObj} : ((H ++ (o :: Y)) ++ [x]).set H.length o' = H ++ (o' :: (Y ++ [x])) := by simp
theorem v_loop {O : Over} (hM : OverMono O) {w0 : World} {H : AH} {R : List (Int × Int × Int)} {c blk off : Nat} {sp : Option Nat} (hsp : sp = none ∨ sp = some 0) (hn : R.length < 2 ^ 62) (hA : CellsRefs w0 H blk off sp R) : ∀ (r : List (Int × Int × Int)) (i : Nat) (T : Fr) (Y : AH) (L : IM) (cl : Nat), R.drop i = r →
    T 7 = .slice (some ⟨blk, off, sp⟩) R.length c → T 8 = .int .i64 R.length → T 9 = .int .i64 i → T 3 = .map (some H.length) →
    ∃ T' Y', Runs Try.prog w0 O 21 (.loop l41) T (H ++ (.map (L.map mkE) cl :: Y)) (.exit 0) T' (H ++ (.map ((liveM r L cl).map mkE) (liveC r L cl) :: Y')) ∧ T' 3 = .map (some H.length)
  | [], i, T, Y, L, cl, hr, h7, h8, h9, h3 => by
    obtain ⟨T', q1, q2⟩ := v_out (w0 := w0) (H := H ++ (.map (L.map mkE) cl :: Y)) h8 h9 (drop_nil hr)
    exact ⟨T', Y, Runs.loop_out hM (runs_of q1) (by simp), by rw [q2, h3]⟩
  | (a, b, m) :: r, i, T, Y, L, cl, hr, h7, h8, h9, h3 => by
    obtain ⟨hlt, hget, hr'⟩ := drop_cons hr
    obtain ⟨T1, q1, e7, e8, e3, e9⟩ := v_body (w0 := w0) (H := H ++ (.map (L.map mkE) cl :: Y)) (L := L) (cl := cl) h7 hsp h8 h9 hlt h3 (by simp) (hA.app i a b m hget)
    rw [set_mid] at q1
    obtain ⟨T', Y', q2, q3⟩ := v_loop hM hsp hn hA r (i + 1) T1 _ _ _ hr' (e7.trans h7) (e8.trans h8) (by rw [e9, wrap_succ hlt hn]) (e3.trans h3)
    exact ⟨T', Y', Runs.loop_next hM (runs_of q1) q2, q3⟩
theorem live41 {O : Over} (hM : OverMono O) (hO : O 41 = none) {w0 : World} {H : AH} {R : List (Int × Int × Int)} {c blk off : Nat} {sp : Option Nat} (hsp : sp = none ∨ sp = some 0) (hn : R.length < 2 ^ 62) (hR : CellsRefs w0 H blk off sp R) :
    ∃ Y, Does Try.prog w0 O 41 [.slice (some ⟨blk, off, sp⟩) R.length c] H (.map (some H.length)) (H ++ (.map ((liveM R [] 0).map mkE) (liveC R [] 0) :: Y)) := by
  have hb : b41 = .seq (cat [false] b41) (.seq (cat [true, false] b41) (.seq (.seq (cat [true, true, false, false] b41) (.block 0 (.loop l41))) (.seq (cat [true, true, true, false] b41) .ret))) := rfl
  obtain ⟨T0, a0, b0⟩ : ∃ T', evCode Try.prog w0 noCall 0 21 (cat [false] b41) (frame0 [.slice (some ⟨blk, off, sp⟩) R.length c]) H = some (.normal, T', H) ∧ T' 0 = .slice (some ⟨blk, off, sp⟩) R.length c := by
    simp [cat, b41, Try.f41, evCode, evOps, astep, clsOf, aread, awanted, aev, aput, upd, frame0]
  obtain ⟨T1, a1, b1⟩ : ∃ T', evCode Try.prog w0 noCall 0 21 (cat [true, false] b41) T0 H = some (.normal, T', H ++ [.map [] 0]) ∧ T' 0 = T0 0 ∧ T' 3 = .map (some H.length) := by
    simp [cat, b41, Try.f41, evCode, evOps, astep, clsOf, aread, aalloc, awanted, aev, aput, upd]
  obtain ⟨T2, a2, b2⟩ : ∃ T', evCode Try.prog w0 noCall 0 21 (cat [true, true, false, false] b41) T1 (H ++ [.map [] 0]) = some (.normal, T', H ++ [.map [] 0]) ∧
      T' 3 = T1 3 ∧ T' 7 = T0 0 ∧ T' 8 = .int .i64 R.length ∧ T' 9 = .int .i64 0 := by
    simp [cat, b41, Try.f41, evCode, evOps, astep, clsOf, aread, awanted, aev, aput, upd, alen, Try.underlying25, b1, b0]
  obtain ⟨T3, Y, c1, c2⟩ := v_loop (O := O) hM hsp hn hR R 0 T2 [] [] 0 rfl (b2.2.1.trans b0) b2.2.2.1 b2.2.2.2 (b2.1.trans b1.2)
  obtain ⟨T4, a4, b4⟩ : ∃ T', evCode Try.prog w0 noCall 0 21 (cat [true, true, true, false] b41) T3 (H ++ (.map ((liveM R [] 0).map mkE) (liveC R [] 0) :: Y)) = some (.normal, T', H ++ (.map ((liveM R [] 0).map mkE) (liveC R [] 0) :: Y)) ∧ T' 2 = T3 3 := by
    simp [cat, b41, Try.f41, evCode, evOps, astep, clsOf, aread, awanted, aev, aput, upd]
  refine ⟨Y, Does.intro hO Try.func41 f41b ok41 (by simp [Try.f41]) (?_ : Runs Try.prog w0 O 21 b41 _ H .ret T4 _) (.inr rfl) (by simp [aresults, aresultsL, aresult, Try.f41, b4, c2])⟩
  rw [hb]
  exact Runs.seq hM (runs_of a0) (Runs.seq hM (runs_of a1) (Runs.seq hM (Runs.seq hM (runs_of a2) (Runs.block_exit c1)) (Runs.seq hM (runs_of a4) Runs.ret)))
theorem Live18 {O : Over} (hM : OverMono O) (hO : O 18 = none) (hO41 : O 41 = none) {w0 : World} {H : AH} {R : List (Int × Int × Int)} {c blk off : Nat} {sp : Option Nat} {p : Int} (hsp : sp = none ∨ sp = some 0) (hn : R.length < 2 ^ 62) (hR : CellsRefs w0 H blk off sp R) :
    ∃ X, Does Try.prog w0 O 18 [.slice (some ⟨blk, off, sp⟩) R.length c, .int .i64 p] H (.int .i64 (getI p (liveM R [] 0))) (H ++ X) := by
  obtain ⟨Y, hY⟩ := live41 (O := O) hM hO41 (c := c) hsp hn hR
  obtain ⟨k, hk⟩ := hY
  have e1 : ∀ s, alookup Try.prog (H ++ (.map ((liveM R [] 0).map mkE) (liveC R [] 0) :: Y)) 83 (.map (some H.length)) (.int .i64 s) false = some (.int .i64 (getI s (liveM R [] 0))) := alookup_int (c := liveC R [] 0) Try.underlying83 Try.underlying3 z3 (by simp)
  obtain ⟨T1, a1, b1⟩ : ∃ T', evCode Try.prog w0 (evCall Try.prog w0 O k) 0 9 b18 (frame0 [.slice (some ⟨blk, off, sp⟩) R.length c, .int .i64 p]) H = some (.ret, T', H ++ (.map ((liveM R [] 0).map mkE) (liveC R [] 0) :: Y)) ∧ T' 4 = .int .i64 (getI p (liveM R [] 0)) := by
    simp [b18, Try.f18, evCode, evOps, astep, clsOf, aread, acall, callee, awanted, aev, aput, upd, frame0, hk, e1]
  exact ⟨_, Does.intro hO Try.func18 f18b ok18 (by simp [Try.f18]) (runs_at a1) (.inr rfl) (by simp [aresults, aresultsL, aresult, Try.f18, b1])⟩
end Go.Am
/- Whether two lists of whole numbers are one. -/
open Go.Proofs Go.Am
namespace Go.Am
def IntSl (w0 : World) (H : AH) (v : Value) (xs : List Int) : Prop :=
  (v = .slice none 0 0 ∧ xs = []) ∨ ∃ blk off sp c, v = .slice (some ⟨blk, off, sp⟩) xs.length c ∧ (sp = none ∨ sp = some 0) ∧ ∀ (i : Nat) (x : Int), xs[i]? = some x → acell w0 H ⟨blk, off + i, sp⟩ = some (.int .i64 x)
theorem acell_app {w0 : World} {H X : AH} {a : Addr} {v : Value} (h : acell w0 H a = some v) : acell w0 (H ++ X) a = some v := acell_sub (sub_app H X) h
theorem IntSl.app {w0 : World} {H X : AH} {v : Value} {xs : List Int} (h : IntSl w0 H v xs) : IntSl w0 (H ++ X) v xs := by
  rcases h with h | ⟨blk, off, sp, c, h1, h2, h3⟩
  · exact .inl h
  · exact .inr ⟨blk, off, sp, c, h1, h2, fun i x hx => acell_app (h3 i x hx)⟩
theorem IntSl.len {w0 : World} {H : AH} {v : Value} {xs : List Int} (h : IntSl w0 H v xs) : alen Try.prog H #[29] [v] = some (.int .i64 xs.length) := by
  rcases h with ⟨rfl, rfl⟩ | ⟨blk, off, sp, c, rfl, h2, h3⟩ <;> simp [alen, Try.underlying29]
theorem IntSl.at {w0 : World} {H : AH} {v : Value} {xs : List Int} (h : IntSl w0 H v xs) {i : Nat} {x : Int} (hx : xs[i]? = some x) : ∃ p, aindexAddr Try.prog 29 v (.int .i64 i) = some p ∧ aload Try.prog w0 H 3 p = some (.int .i64 x) := by
  have hi := (List.getElem?_eq_some_iff.1 hx).1
  rcases h with ⟨rfl, rfl⟩ | ⟨blk, off, sp, c, rfl, h2, h3⟩
  · simp at hi
  · refine ⟨_, aindexAddr_at Try.underlying29 sz3 hi h2, ?_⟩
    have := h3 i x hx
    simp [aload, Try.underlying3, isAggD, this]
theorem ok15 : funcOk Try.prog Try.f15 = true := by decide +kernel
noncomputable def b15 : Code := match Try.f15.body with | some c => c | none => .skip
theorem f15b : Try.f15.body = some b15 := rfl
noncomputable def l15 : Code := (loopOf b15).getD .skip
theorem e_body {w0 : World} {T : Fr} {H : AH} {i n : Nat} {va vb : Value} {xs ys : List Int} {x y : Int} (h0 : T 0 = va) (h1 : T 1 = vb) (ha : IntSl w0 H va xs) (hb : IntSl w0 H vb ys) (h12 : T 12 = .int .i64 n) (h13 : T 13 = .int .i64 i) (hi : i < n) (hx : xs[i]? = some x) (hy : ys[i]? = some y) :
    ∃ T', evCode Try.prog w0 noCall 0 26 l15 T H = some (if x = y then .normal else .ret, T', H) ∧ T' 0 = va ∧ T' 1 = vb ∧ T' 12 = T 12 ∧ (x = y → T' 13 = .int .i64 (IntKind.i64.wrap (i + 1))) ∧ (x ≠ y → T' 4 = .bool false) := by
  have hi' : (i : Int) < n := by omega
  obtain ⟨p, p1, p2⟩ := ha.at hx
  obtain ⟨q, q1, q2⟩ := hb.at hy
  by_cases hq : x = y
  · subst hq
    simp [l15, b15, loopOf, Try.f15, evCode, evOps, evD, heapy, astep, clsOf, aread, awanted, aev, h0, h1, h12, h13, aput, upd, abin_lss, abin_add, abin_neq_int, hi', p1, p2, q1, q2]
  · simp [l15, b15, loopOf, Try.f15, evCode, evOps, evD, heapy, astep, clsOf, aread, awanted, aev, h0, h1, h12, h13, aput, upd, abin_lss, abin_add, abin_neq_int, hi', p1, p2, q1, q2, hq]
theorem e_out {w0 : World} {T : Fr} {H : AH} {i n : Nat} (h12 : T 12 = .int .i64 n) (h13 : T 13 = .int .i64 i) (hi : ¬ i < n) : ∃ T', evCode Try.prog w0 noCall 0 26 l15 T H = some (.exit 0, T', H) := by
  have hi' : ¬ (i : Int) < n := by omega
  simp [l15, b15, loopOf, Try.f15, evCode, evOps, astep, clsOf, aread, awanted, aev, h12, h13, aput, upd, abin_lss, hi']
theorem e_loop {O : Over} (hM : OverMono O) {w0 : World} {H : AH} {xs ys : List Int} {va vb : Value} (ha : IntSl w0 H va xs) (hb : IntSl w0 H vb ys) (hl : xs.length = ys.length) (hn : xs.length < 2 ^ 62) : ∀ (r s : List Int) (i : Nat) (T : Fr), xs.drop i = r → ys.drop i = s → T 0 = va → T 1 = vb → T 12 = .int .i64 xs.length → T 13 = .int .i64 i →
    ∃ T', Runs Try.prog w0 O 26 (.loop l15) T H (if r = s then .exit 0 else .ret) T' H ∧ (r ≠ s → T' 4 = .bool false)
  | [], s, i, T, hr, hs, h0, h1, h12, h13 => by
    have hi := drop_nil hr
    have hs' : s = [] := by rw [← hs]; exact List.drop_eq_nil_of_le (by omega)
    subst hs'
    obtain ⟨T', q⟩ := e_out (w0 := w0) (H := H) h12 h13 hi
    exact ⟨T', Runs.loop_out hM (runs_of q) (by simp), fun h => (h rfl).elim⟩
  | x :: r, s, i, T, hr, hs, h0, h1, h12, h13 => by
    obtain ⟨hlt, hget, hr'⟩ := drop_cons hr
    cases s with
    | nil => have := drop_nil hs; omega
    | cons y s =>
      obtain ⟨hlt2, hget2, hs'⟩ := drop_cons hs
      obtain ⟨T1, q1, e0, e1, e12, e13, e4⟩ := e_body h0 h1 ha hb h12 h13 hlt hget hget2
      by_cases hq : x = y
      · subst hq
        rw [if_pos rfl] at q1
        obtain ⟨T', q2, q3⟩ := e_loop hM ha hb hl hn r s (i + 1) T1 hr' hs' e0 e1 (e12.trans h12) (by rw [e13 rfl, wrap_succ hlt hn])
        have e : (x :: r = x :: s) = (r = s) := by simp
        simp only [e]
        exact ⟨T', Runs.loop_next hM (runs_of q1) q2, fun h => q3 (fun h' => h (by rw [h']))⟩
      · rw [if_neg hq] at q1
        have e : ¬ (x :: r = y :: s) := by simp [hq]
        rw [if_neg e]
        exact ⟨T1, Runs.loop_out hM (runs_of q1) (by simp), fun _ => e4 hq⟩
theorem Same15 {O : Over} (hM : OverMono O) (hO : O 15 = none) {w0 : World} {H : AH} {xs ys : List Int} {va vb : Value} (ha : IntSl w0 H va xs) (hb : IntSl w0 H vb ys) (hn : xs.length < 2 ^ 62) : Does Try.prog w0 O 15 [va, vb] H (.bool (decide (xs = ys))) H := by
  have hbb : b15 = .seq (cat [false] b15) (.seq (cat [true, false] b15) (.seq (.seq (cat [true, true, false, false] b15) (.block 0 (.loop l15))) (.seq (cat [true, true, true, false] b15) .ret))) := rfl
  obtain ⟨T0, a0, b0⟩ : ∃ T', evCode Try.prog w0 noCall 0 26 (cat [false] b15) (frame0 [va, vb]) H = some (.normal, T', H) ∧ T' 0 = va ∧ T' 1 = vb := by
    simp [cat, b15, Try.f15, evCode, evOps, astep, clsOf, aread, awanted, aev, aput, upd, frame0]
  have la := ha.len
  have lb := hb.len
  by_cases hl : xs.length = ys.length
  · obtain ⟨T1, a1, b1⟩ : ∃ T', evCode Try.prog w0 noCall 0 26 (cat [true, false] b15) T0 H = some (.normal, T', H) ∧ T' 0 = va ∧ T' 1 = vb := by
      simp [cat, b15, Try.f15, evCode, evOps, astep, clsOf, aread, awanted, aev, aput, upd, b0, la, lb, abin_neq_int, hl]
    obtain ⟨T2, a2, b2⟩ : ∃ T', evCode Try.prog w0 noCall 0 26 (cat [true, true, false, false] b15) T1 H = some (.normal, T', H) ∧ T' 0 = va ∧ T' 1 = vb ∧ T' 12 = .int .i64 xs.length ∧ T' 13 = .int .i64 0 := by
      simp [cat, b15, Try.f15, evCode, evOps, astep, clsOf, aread, awanted, aev, aput, upd, b1, la, lb]
    obtain ⟨T3, c1, c2⟩ := e_loop (O := O) hM ha hb hl hn xs ys 0 T2 rfl rfl b2.1 b2.2.1 b2.2.2.1 b2.2.2.2
    by_cases he : xs = ys
    · rw [if_pos he] at c1
      obtain ⟨T4, a4, b4⟩ : ∃ T', evCode Try.prog w0 noCall 0 26 (cat [true, true, true, false] b15) T3 H = some (.normal, T', H) ∧ T' 4 = .bool true := by
        simp [cat, b15, Try.f15, evCode, evOps, astep, clsOf, aread, awanted, aev, aput, upd]
      refine Does.intro hO Try.func15 f15b ok15 (by simp [Try.f15]) (?_ : Runs Try.prog w0 O 26 b15 _ H .ret T4 _) (.inr rfl) (by simp [aresults, aresultsL, aresult, Try.f15, b4, he])
      rw [hbb]
      exact Runs.seq hM (runs_of a0) (Runs.seq hM (runs_of a1) (Runs.seq hM (Runs.seq hM (runs_of a2) (Runs.block_exit c1)) (Runs.seq hM (runs_of a4) Runs.ret)))
    · rw [if_neg he] at c1
      refine Does.intro hO Try.func15 f15b ok15 (by simp [Try.f15]) (?_ : Runs Try.prog w0 O 26 b15 _ H .ret T3 _) (.inr rfl) (by simp [aresults, aresultsL, aresult, Try.f15, c2 he, he])
      rw [hbb]
      exact Runs.seq hM (runs_of a0) (Runs.seq hM (runs_of a1) (Runs.out (Runs.seq hM (runs_of a2) (Runs.block c1 (by simp))) (by simp)))
  · have he : ¬ xs = ys := fun q => hl (by rw [q])
    have hl' : ¬ (xs.length : Int) = ys.length := by omega
    obtain ⟨T1, a1, b1⟩ : ∃ T', evCode Try.prog w0 noCall 0 26 (cat [true, false] b15) T0 H = some (.ret, T', H) ∧ T' 4 = .bool false := by
      simp [cat, b15, Try.f15, evCode, evOps, astep, clsOf, aread, awanted, aev, aput, upd, b0, la, lb, abin_neq_int, hl']
    refine Does.intro hO Try.func15 f15b ok15 (by simp [Try.f15]) (?_ : Runs Try.prog w0 O 26 b15 _ H .ret T1 _) (.inr rfl) (by simp [aresults, aresultsL, aresult, Try.f15, b1, he])
    rw [hbb]
    exact Runs.seq hM (runs_of a0) (Runs.out (runs_of a1) (by simp))
end Go.Am
/- The document's Dead: the stripes of which there are no references. -/
open Go.Proofs Go.Am
namespace Go.Am
theorem inf3 : (Try.prog.info? 3).map (fun i => (i.size, i.bytes)) = some (1, 8) := by kernel_rfl
def OutIn (H0 Y : AH) (v : Value) (xs : List Int) : Prop := (v = .slice none 0 0 ∧ xs = []) ∨ ∃ j, v = .slice (some ⟨H0.length + j, 0, none⟩) xs.length xs.length ∧ Y[j]? = some (.cells (xs.map iv) 3 true)
theorem OutIn.app {H0 Y X : AH} {v : Value} {xs : List Int} (h : OutIn H0 Y v xs) : OutIn H0 (Y ++ X) v xs := by
  rcases h with h | ⟨j, h1, h2⟩
  · exact .inl h
  · exact .inr ⟨j, h1, get_app h2⟩
theorem out_step {w0 : World} {H0 Y : AH} {v : Value} {xs : List Int} {s : Int} (h : OutIn H0 Y v xs) (hn : xs.length < 2 ^ 40) :
    ∃ Y' v', aappend Try.prog w0 (H0 ++ Y ++ [.cells [.int .i64 s] 3 false]) #[29, 29] [v, .slice (some ⟨(H0 ++ Y).length, 0, none⟩) 1 1] = some (v', H0 ++ Y') ∧ OutIn H0 Y' v' (xs ++ [s]) := by
  cases hi : Try.prog.info? 3 with
  | none => have := inf3; rw [hi] at this; cases this
  | some i =>
    have hib := inf3
    rw [hi] at hib
    simp only [Option.map_some, Option.some.injEq, Prod.mk.injEq] at hib
    have hsrc : asrc w0 (H0 ++ Y ++ [.cells [.int .i64 s] 3 false]) i.size (.slice (some ⟨(H0 ++ Y).length, 0, none⟩) 1 1) = some (1, [.int .i64 s]) := by
      simp only [asrc, hib.1, Nat.one_ne_zero, if_false]
      rw [acells_last]
      simp
    rcases h with ⟨rfl, rfl⟩ | ⟨j, rfl, hj⟩
    · refine ⟨Y ++ [.cells [.int .i64 s] 3 false] ++ [.cells [.int .i64 s] 3 true], _, ?_, .inr ⟨Y.length + 1, rfl, ?_⟩⟩
      · rw [append_nil Try.underlying29 (.inl Try.underlying29) hi (by omega) (by omega) z3 (by simp [Value.cells, hib.1]) hsrc (by simp) (by simp [hib.1]) (by omega)]
        simp [Nat.add_assoc]
      · simp [iv]
    · have hget : (H0 ++ Y ++ [.cells [.int .i64 s] 3 false])[H0.length + j]? = some (.cells (xs.map iv) 3 true) := by
        have : (H0 ++ Y)[H0.length + j]? = some (.cells (xs.map iv) 3 true) := by
          rw [List.getElem?_append_right (by omega)]
          simpa using hj
        exact get_app this
      have hjl := (List.getElem?_eq_some_iff.1 hj).1
      refine ⟨(Y.set j .dead) ++ [.cells [.int .i64 s] 3 false] ++ [.cells ((xs ++ [s]).map iv) 3 true], .slice (some ⟨H0.length + (Y.length + 1), 0, none⟩) (xs ++ [s]).length (xs ++ [s]).length, ?_, .inr ⟨Y.length + 1, rfl, ?_⟩⟩
      · rw [append_grow Try.underlying29 (.inl Try.underlying29) hi (by omega) (by omega) z3 (by simp [Value.cells, hib.1]) hget (by simp [hib.1]) hsrc (by simp) (by simp [hib.1]) (by simp [cellV]) (by rw [hib.2]; omega)]
        have : (H0 ++ Y ++ [AObj.cells [.int .i64 s] 3 false]).set (H0.length + j) .dead = H0 ++ (Y.set j .dead) ++ [AObj.cells [.int .i64 s] 3 false] := by
          rw [List.set_append_left _ _ (by simp; omega), List.set_append_right _ _ (by omega)]
          simp
        rw [this]
        simp [iv, Nat.add_assoc]
      · have : ((Y.set j .dead) ++ [AObj.cells [.int .i64 s] 3 false]).length = Y.length + 1 := by simp
        rw [← this]
        simp
theorem OutIn.ints {w0 : World} {H0 Y : AH} {v : Value} {xs : List Int} (h : OutIn H0 Y v xs) : IntSl w0 (H0 ++ Y) v xs := by
  rcases h with h | ⟨j, rfl, hj⟩
  · exact .inl h
  · refine .inr ⟨_, _, none, _, rfl, .inl rfl, fun i x hx => ?_⟩
    have : (H0 ++ Y)[H0.length + j]? = some (.cells (xs.map iv) 3 true) := by
      rw [List.getElem?_append_right (by omega)]
      simpa using hj
    simp [acell, this, hx, iv]
theorem ok21 : funcOk Try.prog Try.f21 = true := by decide +kernel
noncomputable def b21 : Code := match Try.f21.body with | some c => c | none => .skip
theorem f21b : Try.f21.body = some b21 := rfl
noncomputable def l21 : Code := (loopOf b21).getD .skip
theorem d_skip {w0 : World} {C : CallA} {T : Fr} {H X : AH} {i n : Nat} {lv sv : Value} {xs : List Int} {s cnt : Int} (h0 : T 0 = lv) (hs : IntSl w0 H sv xs) (h8 : T 8 = sv) (h9 : T 9 = .int .i64 n) (h10 : T 10 = .int .i64 i) (hi : i < n) (hx : xs[i]? = some s)
    (hC : C (.fn 19) [lv, .int .i64 s] H = some (.int .i64 cnt, H ++ X)) (hc : ¬ cnt = 0) :
    ∃ T', evCode Try.prog w0 C 0 24 l21 T H = some (.normal, T', H ++ X) ∧ T' 0 = lv ∧ T' 8 = sv ∧ T' 9 = T 9 ∧ T' 10 = .int .i64 (IntKind.i64.wrap (i + 1)) ∧ T' 5 = T 5 := by
  have hi' : (i : Int) < n := by omega
  obtain ⟨p, p1, p2⟩ := hs.at hx
  simp [l21, b21, loopOf, Try.f21, evCode, evOps, astep, clsOf, aread, acall, callee, awanted, aev, h0, h8, h9, h10, aput, upd, abin_lss, abin_add, abin_eql_int, hi', p1, p2, hC, hc]
theorem d_app {w0 : World} {C : CallA} {T : Fr} {H X H2 : AH} {i n : Nat} {lv sv out out' : Value} {xs : List Int} {s : Int} (h0 : T 0 = lv) (hs : IntSl w0 H sv xs) (h8 : T 8 = sv) (h9 : T 9 = .int .i64 n) (h10 : T 10 = .int .i64 i) (h5 : T 5 = out) (hi : i < n) (hx : xs[i]? = some s)
    (hC : C (.fn 19) [lv, .int .i64 s] H = some (.int .i64 0, H ++ X)) (ha : aappend Try.prog w0 (H ++ X ++ [.cells [.int .i64 s] 3 false]) #[29, 29] [out, .slice (some ⟨(H ++ X).length, 0, none⟩) 1 1] = some (out', H2)) :
    ∃ T', evCode Try.prog w0 C 0 24 l21 T H = some (.normal, T', H2) ∧ T' 0 = lv ∧ T' 8 = sv ∧ T' 9 = T 9 ∧ T' 10 = .int .i64 (IntKind.i64.wrap (i + 1)) ∧ T' 5 = out' := by
  have hi' : (i : Int) < n := by omega
  obtain ⟨p, p1, p2⟩ := hs.at hx
  have hz : azero Try.prog 3 = some (.int .i64 0) := z3
  rw [List.length_append, List.append_assoc] at ha
  simp [l21, b21, loopOf, Try.f21, evCode, evOps, astep, clsOf, aread, aalloc, awrite, acall, callee, awanted, aev, h0, h5, h8, h9, h10, aput, upd, abin_lss, abin_add, abin_eql_int, hi', p1, p2, hC, Try.underlying29, sz3, hz, Value.cells, Instr.fill, ha]
theorem d_out {w0 : World} {C : CallA} {T : Fr} {H : AH} {i n : Nat} (h9 : T 9 = .int .i64 n) (h10 : T 10 = .int .i64 i) (hi : ¬ i < n) : ∃ T', evCode Try.prog w0 C 0 24 l21 T H = some (.exit 0, T', H) ∧ T' 5 = T 5 := by
  have hi' : ¬ (i : Int) < n := by omega
  simp [l21, b21, loopOf, Try.f21, evCode, evOps, astep, clsOf, aread, awanted, aev, h9, h10, aput, upd, abin_lss, hi']
theorem d_loop {O : Over} (hM : OverMono O) {w0 : World} {H0 : AH} {R : List (Int × Int × Int)} {lv sv : Value} {xs : List Int} (hL : ∀ (Y : AH) (s : Int), ∃ X, Does Try.prog w0 O 19 [lv, .int .i64 s] (H0 ++ Y) (.int .i64 (cntS s R 0)) (H0 ++ Y ++ X)) (hs : IntSl w0 H0 sv xs) (hn : xs.length < 2 ^ 40) :
    ∀ (r : List Int) (i : Nat) (T : Fr) (Y : AH) (acc : List Int), xs.drop i = r → T 0 = lv → T 8 = sv → T 9 = .int .i64 xs.length → T 10 = .int .i64 i → OutIn H0 Y (T 5) acc → acc.length ≤ i →
    ∃ T' Y', Runs Try.prog w0 O 24 (.loop l21) T (H0 ++ Y) (.exit 0) T' (H0 ++ Y') ∧ OutIn H0 Y' (T' 5) (acc ++ r.filter fun s => decide (cntS s R 0 = 0))
  | [], i, T, Y, acc, hr, h0, h8, h9, h10, h5, hac => by
    obtain ⟨T', q1, q2⟩ := d_out (w0 := w0) (C := noCall) (H := H0 ++ Y) h9 h10 (drop_nil hr)
    exact ⟨T', Y, Runs.loop_out hM (runs_of q1) (by simp), by rw [q2]; simpa using h5⟩
  | s :: r, i, T, Y, acc, hr, h0, h8, h9, h10, h5, hac => by
    obtain ⟨hlt, hget, hr'⟩ := drop_cons hr
    obtain ⟨X, k, hk⟩ := hL Y s
    by_cases hc : cntS s R 0 = 0
    · rw [hc] at hk
      obtain ⟨Y', v', ha, ho⟩ := out_step (w0 := w0) (s := s) (h5.app (X := X)) (by omega)
      rw [← List.append_assoc] at ha
      obtain ⟨T1, q1, e0, e8, e9, e10, e5⟩ := d_app h0 hs.app h8 h9 h10 rfl hlt hget hk ha
      obtain ⟨T', Y2, q2, q3⟩ := d_loop hM hL hs hn r (i + 1) T1 Y' (acc ++ [s]) hr' e0 e8 (e9.trans h9) (by rw [e10, wrap_succ hlt (by omega)]) (by rw [e5]; exact ho) (by simp; omega)
      exact ⟨T', Y2, Runs.loop_next hM (runs_at q1) q2, by simpa [hc] using q3⟩
    · obtain ⟨T1, q1, e0, e8, e9, e10, e5⟩ := d_skip h0 hs.app h8 h9 h10 hlt hget hk hc
      rw [List.append_assoc] at q1
      obtain ⟨T', Y2, q2, q3⟩ := d_loop hM hL hs hn r (i + 1) T1 (Y ++ X) acc hr' e0 e8 (e9.trans h9) (by rw [e10, wrap_succ hlt (by omega)]) (by rw [e5]; exact h5.app) (by omega)
      exact ⟨T', Y2, Runs.loop_next hM (runs_at q1) q2, by simpa [hc] using q3⟩
theorem Dead21 {O : Over} (hM : OverMono O) (hO : O 21 = none) {w0 : World} {H0 : AH} {R : List (Int × Int × Int)} {lv sv : Value} {xs : List Int} (hL : ∀ (Y : AH) (s : Int), ∃ X, Does Try.prog w0 O 19 [lv, .int .i64 s] (H0 ++ Y) (.int .i64 (cntS s R 0)) (H0 ++ Y ++ X)) (hs : IntSl w0 H0 sv xs) (hn : xs.length < 2 ^ 40) :
    ∃ v Y, Does Try.prog w0 O 21 [lv, sv] H0 v (H0 ++ Y) ∧ IntSl w0 (H0 ++ Y) v (xs.filter fun s => decide (cntS s R 0 = 0)) := by
  have hb : b21 = .seq (cat [false] b21) (.seq (cat [true, false] b21) (.seq (.seq (cat [true, true, false, false] b21) (.block 0 (.loop l21))) (.seq (cat [true, true, true, false] b21) .ret))) := rfl
  have ls := hs.len
  obtain ⟨T0, a0, b0⟩ : ∃ T', evCode Try.prog w0 noCall 0 24 (cat [false] b21) (frame0 [lv, sv]) H0 = some (.normal, T', H0) ∧ T' 0 = lv ∧ T' 1 = sv := by
    simp [cat, b21, Try.f21, evCode, evOps, astep, clsOf, aread, awanted, aev, aput, upd, frame0]
  obtain ⟨T1, a1, b1⟩ : ∃ T', evCode Try.prog w0 noCall 0 24 (cat [true, false] b21) T0 H0 = some (.normal, T', H0) ∧ T' 0 = lv ∧ T' 1 = sv ∧ T' 5 = .slice none 0 0 := by
    simp [cat, b21, Try.f21, evCode, evOps, astep, clsOf, aread, awanted, aev, aput, upd, b0]
  obtain ⟨T2, a2, b2⟩ : ∃ T', evCode Try.prog w0 noCall 0 24 (cat [true, true, false, false] b21) T1 H0 = some (.normal, T', H0) ∧ T' 0 = lv ∧ T' 8 = sv ∧ T' 9 = .int .i64 xs.length ∧ T' 10 = .int .i64 0 ∧ T' 5 = .slice none 0 0 := by
    simp [cat, b21, Try.f21, evCode, evOps, astep, clsOf, aread, awanted, aev, aput, upd, b1, ls]
  obtain ⟨T3, Y, c1, c2⟩ := d_loop (O := O) hM hL hs hn xs 0 T2 [] [] rfl b2.1 b2.2.1 b2.2.2.1 b2.2.2.2.1 (.inl ⟨b2.2.2.2.2, rfl⟩) (by simp)
  rw [List.append_nil] at c1
  obtain ⟨T4, a4, b4⟩ : ∃ T', evCode Try.prog w0 noCall 0 24 (cat [true, true, true, false] b21) T3 (H0 ++ Y) = some (.normal, T', H0 ++ Y) ∧ T' 4 = T3 5 := by
    simp [cat, b21, Try.f21, evCode, evOps, astep, clsOf, aread, awanted, aev, aput, upd]
  refine ⟨T3 5, Y, Does.intro hO Try.func21 f21b ok21 (by simp [Try.f21]) (?_ : Runs Try.prog w0 O 24 b21 _ H0 .ret T4 _) (.inr rfl) (by simp [aresults, aresultsL, aresult, Try.f21, b4]), by simpa using c2.ints⟩
  rw [hb]
  exact Runs.seq hM (runs_of a0) (Runs.seq hM (runs_of a1) (Runs.seq hM (Runs.seq hM (runs_of a2) (Runs.block_exit c1)) (Runs.seq hM (runs_of a4) Runs.ret)))
end Go.Am
/- slices.Clone of whole numbers. -/
open Go.Proofs Go.Am
namespace Go.Am
theorem tagL_of : ∀ (l vs : List Value), l.length = vs.length → (∀ (i : Nat) (v : Value), vs[i]? = some v → (l[i]?).bind tagV = some v) → tagL l = some vs
  | [], [], _, _ => rfl
  | [], _ :: _, h, _ => by simp at h
  | _ :: _, [], h, _ => by simp at h
  | x :: l, v :: vs, h, hv => by
    have h0 := hv 0 v rfl
    have h1 := tagL_of l vs (by simpa using h) (fun i u hu => by simpa using hv (i + 1) u (by simpa using hu))
    simp at h0
    simp [tagL, h0, h1]
theorem acells_of {w0 : World} {H : AH} {blk off : Nat} {sp : Option Nat} (hsp : sp = none ∨ sp = some 0) {vs : List Value} (hn : vs ≠ []) (h : ∀ (i : Nat) (v : Value), vs[i]? = some v → acell w0 H ⟨blk, off + i, sp⟩ = some v) : acells w0 H ⟨blk, off, sp⟩ vs.length = some vs := by
  have hpos : 0 < vs.length := List.length_pos_iff.2 hn
  have hlast := h (vs.length - 1) vs[vs.length - 1] (List.getElem?_eq_getElem (by omega))
  rcases hsp with rfl | rfl
  · simp only [acell] at hlast h
    simp only [acells]
    cases hH : H[blk]? with
    | none => rw [hH] at hlast; cases hlast
    | some o =>
      rw [hH] at hlast
      simp only [hH] at h
      cases o with
      | cells cs e g =>
        simp only at hlast h ⊢
        have hl := (List.getElem?_eq_some_iff.1 hlast).1
        rw [if_pos (by omega)]
        congr 1
        apply List.ext_getElem?
        intro i
        by_cases hi : i < vs.length
        · rw [List.getElem?_take_of_lt hi, List.getElem?_drop, h i vs[i] (List.getElem?_eq_getElem hi), List.getElem?_eq_getElem hi]
        · rw [List.getElem?_eq_none (by simp; omega), List.getElem?_eq_none (by omega)]
      | _ => cases hlast
  · simp only [acell] at hlast h
    simp only [acells]
    cases hH : w0.heap[blk]? with
    | none => rw [hH] at hlast; cases hlast
    | some o =>
      rw [hH] at hlast
      simp only [hH] at h
      cases o with
      | cells C e fr =>
        simp only at hlast h ⊢
        have hl : off + (vs.length - 1) < C.size := by
          by_cases hq : off + (vs.length - 1) < C.size
          · exact hq
          · rw [Array.getElem?_eq_none (by omega)] at hlast; cases hlast
        rw [if_pos (by omega)]
        refine tagL_of _ _ (by simp; omega) (fun i v hv => ?_)
        have hi := (List.getElem?_eq_some_iff.1 hv).1
        rw [List.getElem?_take_of_lt hi, List.getElem?_drop]
        have := h i v hv
        simpa using this
      | _ => cases hlast
theorem IntSl.cells {w0 : World} {H : AH} {blk off c : Nat} {sp : Option Nat} {xs : List Int} (h : IntSl w0 H (.slice (some ⟨blk, off, sp⟩) xs.length c) xs) (hn : xs ≠ []) : acells w0 H ⟨blk, off, sp⟩ xs.length = some (xs.map iv) := by
  rcases h with ⟨h, _⟩ | ⟨blk', off', sp', c', h1, h2, h3⟩
  · cases h
  · cases h1
    have := acells_of (w0 := w0) (H := H) (blk := blk) (off := off) h2 (vs := xs.map iv) (by simpa using hn) (fun i v hv => by
      rw [List.getElem?_map, Option.map_eq_some_iff] at hv
      obtain ⟨x, hx, rfl⟩ := hv
      exact h3 i x hx)
    simpa using this
/- a slice of whole numbers in new memory -/
def OwnIn (H0 Y : AH) (v : Value) (xs : List Int) : Prop := (v = .slice none 0 0 ∧ xs = []) ∨ ∃ j g, v = .slice (some ⟨H0.length + j, 0, none⟩) xs.length xs.length ∧ Y[j]? = some (.cells (xs.map iv) 3 g)
theorem ok43 : funcOk Try.prog Try.f43 = true := by decide +kernel
noncomputable def b43 : Code := match Try.f43.body with | some c => c | none => .skip
theorem f43b : Try.f43.body = some b43 := rfl
theorem Clone43 {O : Over} (hO : O 43 = none) {w0 : World} {H : AH} {v : Value} {xs : List Int} (hv : IntSl w0 H v xs) (hn : xs.length < 2 ^ 40) : ∃ v' Y, Does Try.prog w0 O 43 [v] H v' (H ++ Y) ∧ OwnIn H Y v' xs := by
  cases hi : Try.prog.info? 3 with
  | none => have := inf3; rw [hi] at this; cases this
  | some i =>
    have hib := inf3
    rw [hi] at hib
    simp only [Option.map_some, Option.some.injEq, Prod.mk.injEq] at hib
    have hb1 : ∀ s, abin Try.prog .eql 29 s (.const (.slice none 0 0)) (.slice none 0 0) (.slice none 0 0) = some (.bool true) := fun s => by
      have e : pv Try.prog (Op.equal 29 (.slice none 0 0) (.slice none 0 0)) = some true := by
        have key : ∀ n, pv Try.prog (Op.equalIn (n + 1) 29 (.slice none 0 0) (.slice none 0 0)) = some true := fun n => by simp [Op.equalIn, pv_bind, pv_underlying, Try.underlying29]
        exact key 9999
      simp [abin, scal, onlyScal, eqGuard, binOp, pv_bind, pv_map, e]
    have hb2 : ∀ s a m c, abin Try.prog .eql 29 s (.const (.slice none 0 0)) (.slice (some a) m c) (.slice none 0 0) = some (.bool false) := fun s a m c => by
      simp [abin, scal, Try.underlying29]
    have hv' := hv
    rcases hv with ⟨rfl, rfl⟩ | ⟨blk, off, sp, c, rfl, h2, h3⟩
    · obtain ⟨T1, a1, b1⟩ : ∃ T', evCode Try.prog w0 noCall 0 8 b43 (frame0 [.slice none 0 0]) H = some (.ret, T', H) ∧ T' 2 = .slice none 0 0 := by
        simp [b43, Try.f43, evCode, evOps, astep, clsOf, aread, awanted, aev, aput, upd, frame0, hb1]
      exact ⟨.slice none 0 0, [], Does.intro hO Try.func43 f43b ok43 (by simp [Try.f43]) (by rw [List.append_nil]; exact runs_of a1) (.inr rfl) (by simp [aresults, aresultsL, aresult, Try.f43, b1]), .inl ⟨rfl, rfl⟩⟩
    · by_cases hx : xs = []
      · subst hx
        have ha : aappend Try.prog w0 (H ++ [.cells [] 3 false]) #[29, 29] [.slice (some ⟨H.length, 0, none⟩) 0 0, .slice (some ⟨blk, off, sp⟩) 0 c] = some (.slice (some ⟨H.length, 0, none⟩) 0 0, H ++ [.cells [] 3 false]) := by
          simp [aappend, Try.underlying29, hi, z3, hib, Value.cells, asrc, aappendTo, putCells]
        obtain ⟨T1, a1, b1⟩ : ∃ T', evCode Try.prog w0 noCall 0 8 b43 (frame0 [.slice (some ⟨blk, off, sp⟩) 0 c]) H = some (.ret, T', H ++ [.cells [] 3 false]) ∧ T' 2 = .slice (some ⟨H.length, 0, none⟩) 0 0 := by
          simp [b43, Try.f43, evCode, evOps, astep, clsOf, aread, aalloc, awrite, awanted, aev, aput, upd, frame0, hb2, Try.underlying29, sz3, Instr.fill, ha]
        exact ⟨.slice (some ⟨H.length, 0, none⟩) 0 0, _, Does.intro hO Try.func43 f43b ok43 (by simp [Try.f43]) (runs_of a1) (.inr rfl) (by simp [aresults, aresultsL, aresult, Try.f43, b1]), .inr ⟨0, false, rfl, rfl⟩⟩
      · have hpos : xs.length ≠ 0 := by simpa using hx
        have hcs : acells w0 (H ++ [.cells [] 3 false]) ⟨blk, off, sp⟩ xs.length = some (xs.map iv) := acells_app (hv'.cells hx)
        have ha : aappend Try.prog w0 (H ++ [.cells [] 3 false]) #[29, 29] [.slice (some ⟨H.length, 0, none⟩) 0 0, .slice (some ⟨blk, off, sp⟩) xs.length c] = some (.slice (some ⟨H.length + 1, 0, none⟩) xs.length xs.length, H ++ [.cells [] 3 false] ++ [.cells (xs.map iv) 3 true]) := by
          have hb : xs.length * 8 ≤ 2 ^ 47 := by omega
          simp [aappend, Try.underlying29, hi, z3, hib, Value.cells, asrc, aappendTo, hpos, hx, hcs, agrow]
          omega
        obtain ⟨T1, a1, b1⟩ : ∃ T', evCode Try.prog w0 noCall 0 8 b43 (frame0 [.slice (some ⟨blk, off, sp⟩) xs.length c]) H = some (.ret, T', H ++ [.cells [] 3 false] ++ [.cells (xs.map iv) 3 true]) ∧ T' 2 = .slice (some ⟨H.length + 1, 0, none⟩) xs.length xs.length := by
          simp [b43, Try.f43, evCode, evOps, astep, clsOf, aread, aalloc, awrite, awanted, aev, aput, upd, frame0, hb2, Try.underlying29, sz3, Instr.fill, ha]
        refine ⟨.slice (some ⟨H.length + 1, 0, none⟩) xs.length xs.length, [.cells [] 3 false, .cells (xs.map iv) 3 true], Does.intro hO Try.func43 f43b ok43 (by simp [Try.f43]) (by have := runs_of (O := O) a1; rwa [List.append_assoc] at this) (.inr rfl) (by simp [aresults, aresultsL, aresult, Try.f43, b1]), .inr ⟨1, true, rfl, rfl⟩⟩
end Go.Am
/- slices.IndexFunc of whole numbers. -/
open Go.Proofs Go.Am
namespace Go.Am
theorem ok74 : funcOk Try.prog Try.f74 = true := by decide +kernel
noncomputable def b74 : Code := match Try.f74.body with | some c => c | none => .skip
theorem f74b : Try.f74.body = some b74 := rfl
noncomputable def l74 : Code := (loopOf b74).getD .skip
/- a closure that answers of a whole number -/
def Says (O : Over) (w0 : World) (H0 : AH) (fv : Value) (p : Int → Bool) : Prop := ∃ g cap, fv = .func (.func g) #[] ⟨cap⟩ ∧ ∀ (Y : AH) (s : Int), ∃ X, Does Try.prog w0 O g (.int .i64 s :: cap) (H0 ++ Y) (.bool (p s)) (H0 ++ Y ++ X)
theorem i_body {w0 : World} {C : CallA} {T : Fr} {H X : AH} {i n g : Nat} {cap : List Value} {v : Value} {xs : List Int} {s : Int} {b : Bool} (h0 : T 0 = v) (hs : IntSl w0 H v xs) (h1 : T 1 = .func (.func g) #[] ⟨cap⟩) (h7 : T 7 = .int .i64 n) (h8 : T 8 = .int .i64 i) (hi : i < n) (hx : xs[i]? = some s)
    (hC : C (.fn g) (.int .i64 s :: cap) H = some (.bool b, H ++ X)) :
    ∃ T', evCode Try.prog w0 C 0 19 l74 T H = some (if b then .ret else .normal, T', H ++ X) ∧ T' 0 = T 0 ∧ T' 1 = T 1 ∧ T' 7 = T 7 ∧ (b = false → T' 8 = .int .i64 (IntKind.i64.wrap (i + 1))) ∧ (b = true → T' 4 = .int .i64 i) := by
  have hi' : (i : Int) < n := by omega
  obtain ⟨p, p1, p2⟩ := hs.at hx
  cases b
  · simp [l74, b74, loopOf, Try.f74, evCode, evOps, astep, clsOf, aread, acall, callee, awanted, aev, h0, h1, h7, h8, aput, upd, abin_lss, abin_add, hi', p1, p2, hC]
  · simp [l74, b74, loopOf, Try.f74, evCode, evOps, astep, clsOf, aread, acall, callee, awanted, aev, h0, h1, h7, h8, aput, upd, abin_lss, abin_add, hi', p1, p2, hC]
theorem i_out {w0 : World} {T : Fr} {H : AH} {i n : Nat} (h7 : T 7 = .int .i64 n) (h8 : T 8 = .int .i64 i) (hi : ¬ i < n) : ∃ T', evCode Try.prog w0 noCall 0 19 l74 T H = some (.exit 0, T', H) := by
  have hi' : ¬ (i : Int) < n := by omega
  simp [l74, b74, loopOf, Try.f74, evCode, evOps, astep, clsOf, aread, awanted, aev, h7, h8, aput, upd, abin_lss, hi']
def idx (p : Int → Bool) : List Int → Nat → Option Nat
  | [], _ => none
  | x :: r, i => if p x then some i else idx p r (i + 1)
theorem i_loop {O : Over} (hM : OverMono O) {w0 : World} {H0 : AH} {v fv : Value} {xs : List Int} {p : Int → Bool} (hp : Says O w0 H0 fv p) (hn : xs.length < 2 ^ 40) : ∀ (r : List Int) (i : Nat) (T : Fr) (Y : AH), IntSl w0 (H0 ++ Y) v xs → xs.drop i = r → T 0 = v → T 1 = fv → T 7 = .int .i64 xs.length → T 8 = .int .i64 i →
    ∃ T' X, Runs Try.prog w0 O 19 (.loop l74) T (H0 ++ Y) (if (idx p r i).isSome then .ret else .exit 0) T' (H0 ++ Y ++ X) ∧ ∀ j, idx p r i = some j → T' 4 = .int .i64 j
  | [], i, T, Y, hs, hr, h0, h1, h7, h8 => by
    obtain ⟨T', q⟩ := i_out (w0 := w0) (H := H0 ++ Y) h7 h8 (drop_nil hr)
    exact ⟨T', [], by rw [List.append_nil]; exact Runs.loop_out hM (runs_of q) (by simp [idx]), fun j hj => by simp [idx] at hj⟩
  | s :: r, i, T, Y, hs, hr, h0, h1, h7, h8 => by
    obtain ⟨hlt, hget, hr'⟩ := drop_cons hr
    have hp' := hp
    obtain ⟨g, cap, rfl, hcl⟩ := hp
    obtain ⟨X, k, hk⟩ := hcl Y s
    obtain ⟨T1, q1, e0, e1, e7, e8, e4⟩ := i_body h0 hs h1 h7 h8 hlt hget hk
    cases hb : p s with
    | true =>
      rw [hb] at q1 e4
      have e : idx p (s :: r) i = some i := by simp [idx, hb]
      rw [e]
      exact ⟨T1, X, Runs.loop_out hM (runs_at q1) (by simp), fun j hj => by cases hj; exact e4 rfl⟩
    | false =>
      rw [hb] at q1 e8
      have e : idx p (s :: r) i = idx p r (i + 1) := by simp [idx, hb]
      rw [e]
      rw [List.append_assoc] at q1
      obtain ⟨T', X2, q2, q3⟩ := i_loop hM hp' hn r (i + 1) T1 (Y ++ X) (by rw [← List.append_assoc]; exact hs.app) hr' (e0.trans h0) (e1.trans h1) (e7.trans h7) (by rw [e8 rfl, wrap_succ hlt (by omega)])
      exact ⟨T', X ++ X2, by have := Runs.loop_next hM (runs_at q1) q2; simpa [List.append_assoc] using this, q3⟩
theorem Index74 {O : Over} (hM : OverMono O) (hO : O 74 = none) {w0 : World} {H0 Y : AH} {v fv : Value} {xs : List Int} {p : Int → Bool} (hp : Says O w0 H0 fv p) (hs : IntSl w0 (H0 ++ Y) v xs) (hn : xs.length < 2 ^ 40) :
    ∃ X, Does Try.prog w0 O 74 [v, fv] (H0 ++ Y) (.int .i64 (match idx p xs 0 with | some j => (j : Int) | none => -1)) (H0 ++ Y ++ X) := by
  have hb : b74 = .seq (cat [false] b74) (.seq (.seq (cat [true, false, false] b74) (.block 0 (.loop l74))) (.seq (cat [true, true, false] b74) .ret)) := rfl
  have ls := hs.len
  obtain ⟨T0, a0, b0⟩ : ∃ T', evCode Try.prog w0 noCall 0 19 (cat [false] b74) (frame0 [v, fv]) (H0 ++ Y) = some (.normal, T', H0 ++ Y) ∧ T' 0 = v ∧ T' 1 = fv := by
    simp [cat, b74, Try.f74, evCode, evOps, astep, clsOf, aread, awanted, aev, aput, upd, frame0]
  obtain ⟨T2, a2, b2⟩ : ∃ T', evCode Try.prog w0 noCall 0 19 (cat [true, false, false] b74) T0 (H0 ++ Y) = some (.normal, T', H0 ++ Y) ∧ T' 0 = v ∧ T' 1 = fv ∧ T' 7 = .int .i64 xs.length ∧ T' 8 = .int .i64 0 := by
    simp [cat, b74, Try.f74, evCode, evOps, astep, clsOf, aread, awanted, aev, aput, upd, b0, ls]
  obtain ⟨T3, X, c1, c2⟩ := i_loop (O := O) hM hp hn xs 0 T2 Y hs rfl b2.1 b2.2.1 b2.2.2.1 b2.2.2.2
  refine ⟨X, ?_⟩
  cases hi : idx p xs 0 with
  | some j =>
    rw [hi] at c1
    refine Does.intro hO Try.func74 f74b ok74 (by simp [Try.f74]) (?_ : Runs Try.prog w0 O 19 b74 _ _ .ret T3 _) (.inr rfl) (by simp [aresults, aresultsL, aresult, Try.f74, c2 j hi])
    rw [hb]
    exact Runs.seq hM (runs_of a0) (Runs.out (Runs.seq hM (runs_of a2) (Runs.block c1 (by simp))) (by simp))
  | none =>
    rw [hi] at c1
    obtain ⟨T4, a4, b4⟩ : ∃ T', evCode Try.prog w0 noCall 0 19 (cat [true, true, false] b74) T3 (H0 ++ Y ++ X) = some (.normal, T', H0 ++ Y ++ X) ∧ T' 4 = .int .i64 (-1) := by
      simp [cat, b74, Try.f74, evCode, evOps, astep, clsOf, aread, awanted, aev, aput, upd]
    refine Does.intro hO Try.func74 f74b ok74 (by simp [Try.f74]) (?_ : Runs Try.prog w0 O 19 b74 _ _ .ret T4 _) (.inr rfl) (by simp [aresults, aresultsL, aresult, Try.f74, b4])
    rw [hb]
    exact Runs.seq hM (runs_of a0) (Runs.seq hM (Runs.seq hM (runs_of a2) (Runs.block_exit c1)) (Runs.seq hM (runs_of a4) Runs.ret))
end Go.Am
/- slices.DeleteFunc of whole numbers. -/
open Go.Proofs Go.Am
namespace Go.Am
theorem ok42 : funcOk Try.prog Try.f42 = true := by decide +kernel
noncomputable def b42 : Code := match Try.f42.body with | some c => c | none => .skip
theorem f42b : Try.f42.body = some b42 := rfl
noncomputable def l42 : Code := (loopOf b42).getD .skip
theorem put_at {H : AH} {id off : Nat} {cs vs : List Value} {e : TypeId} {g : Bool} (h : H[id]? = some (.cells cs e g)) (hv : vs ≠ []) (hl : off + vs.length ≤ cs.length) (hc : vs.all cellV = true) : putCells H ⟨id, off, none⟩ vs = some (H.set id (.cells (splice cs off vs) e g)) := by
  cases vs with
  | nil => exact (hv rfl).elim
  | cons v r =>
    simp only [putCells, h]
    rw [if_pos ⟨hl, hc⟩]
theorem abin_sub_unot {P : Program} {b : Bool} : pv P (Op.unary .not (.bool b)) = some (.bool !b) := rfl
theorem f_keep {w0 : World} {C : CallA} {T : Fr} {H X : AH} {id n i jx gf : Nat} {g : Bool} {cap : List Value} {cur : List Int} {s : Int} (hid : H[id]? = some (.cells (cur.map iv) 3 g)) (h0 : T 0 = .slice (some ⟨id, 0, none⟩) n n) (hn : cur.length = n) (h1 : T 1 = .func (.func gf) #[] ⟨cap⟩) (h5 : T 5 = .int .i64 i) (h6 : T 6 = .int .i64 jx) (hi : i < n) (hj : jx < n) (hx : cur[jx]? = some s)
    (hC : C (.fn gf) (.int .i64 s :: cap) H = some (.bool false, H ++ X)) :
    ∃ T', evCode Try.prog w0 C 0 42 l42 T H = some (.normal, T', (H ++ X).set id (.cells (splice (cur.map iv) i [iv s]) 3 g)) ∧ T' 0 = T 0 ∧ T' 1 = T 1 ∧ T' 6 = .int .i64 (IntKind.i64.wrap (jx + 1)) ∧ T' 5 = .int .i64 (IntKind.i64.wrap (i + 1)) := by
  have hi' : (i : Int) < n := by omega
  have hj' : (jx : Int) < n := by omega
  have e1 := aindexAddr_at (P := Try.prog) (k := .i64) (n := n) (c := n) (blk := id) (off := 0) (sp := none) Try.underlying29 sz3 hj (.inl rfl)
  have e2 := aindexAddr_at (P := Try.prog) (k := .i64) (n := n) (c := n) (blk := id) (off := 0) (sp := none) Try.underlying29 sz3 hi (.inl rfl)
  have e3 : acell w0 H ⟨id, 0 + jx * 1, none⟩ = some (.int .i64 s) := by simp [acell, hid, hx, iv]
  have e4 : putCells (H ++ X) ⟨id, 0 + i * 1, none⟩ [.int .i64 s] = some ((H ++ X).set id (.cells (splice (cur.map iv) i [iv s]) 3 g)) := by
    have := put_at (off := i) (vs := [iv s]) (get_app (X := X) hid) (by simp) (by simp; omega) (by simp [cellV, iv])
    simpa [iv] using this
  simp only [Nat.mul_one, Nat.zero_add] at e1 e2 e3 e4
  simp [l42, b42, loopOf, Try.f42, evCode, evOps, astep, clsOf, aread, awrite, astore, acall, callee, awanted, aev, h0, h1, h5, h6, aput, upd, abin_lss, abin_add, hj', alen, Try.underlying29, Try.underlying3, aload, isAggD, sz3, e1, e2, e3, hC, scal, onlyScal, abin_sub_unot, Value.cells, e4]
theorem f_drop {w0 : World} {C : CallA} {T : Fr} {H X : AH} {id n jx gf : Nat} {g : Bool} {cap : List Value} {cur : List Int} {s : Int} (hid : H[id]? = some (.cells (cur.map iv) 3 g)) (h0 : T 0 = .slice (some ⟨id, 0, none⟩) n n) (hn : cur.length = n) (h1 : T 1 = .func (.func gf) #[] ⟨cap⟩) (h6 : T 6 = .int .i64 jx) (hj : jx < n) (hx : cur[jx]? = some s)
    (hC : C (.fn gf) (.int .i64 s :: cap) H = some (.bool true, H ++ X)) :
    ∃ T', evCode Try.prog w0 C 0 42 l42 T H = some (.normal, T', H ++ X) ∧ T' 0 = T 0 ∧ T' 1 = T 1 ∧ T' 6 = .int .i64 (IntKind.i64.wrap (jx + 1)) ∧ T' 5 = T 5 := by
  have hj' : (jx : Int) < n := by omega
  have e1 := aindexAddr_at (P := Try.prog) (k := .i64) (n := n) (c := n) (blk := id) (off := 0) (sp := none) Try.underlying29 sz3 hj (.inl rfl)
  have e3 : acell w0 H ⟨id, 0 + jx * 1, none⟩ = some (.int .i64 s) := by simp [acell, hid, hx, iv]
  simp only [Nat.mul_one, Nat.zero_add] at e1 e3
  simp [l42, b42, loopOf, Try.f42, evCode, evOps, astep, clsOf, aread, acall, callee, awanted, aev, h0, h1, h6, aput, upd, abin_lss, abin_add, hj', alen, Try.underlying29, Try.underlying3, aload, isAggD, sz3, e1, e3, hC, scal, onlyScal, abin_sub_unot]
theorem f_out {w0 : World} {T : Fr} {H : AH} {id n jx : Nat} (h0 : T 0 = .slice (some ⟨id, 0, none⟩) n n) (h6 : T 6 = .int .i64 jx) (hj : ¬ jx < n) : ∃ T', evCode Try.prog w0 noCall 0 42 l42 T H = some (.exit 0, T', H) ∧ T' 0 = T 0 ∧ T' 5 = T 5 := by
  have hj' : ¬ (jx : Int) < n := by omega
  simp [l42, b42, loopOf, Try.f42, evCode, evOps, astep, clsOf, aread, awanted, aev, h0, h6, aput, upd, abin_lss, hj', alen, Try.underlying29]
theorem f_loop {O : Over} (hM : OverMono O) {w0 : World} {H0 : AH} {fv : Value} {p : Int → Bool} (hp : Says O w0 H0 fv p) {n j : Nat} {g : Bool} (hn : n < 2 ^ 40) : ∀ (r : List Int) (jx : Nat) (T : Fr) (Y : AH) (cur acc : List Int), Y[j]? = some (.cells (cur.map iv) 3 g) → cur.length = n → cur.drop jx = r →
    T 0 = .slice (some ⟨H0.length + j, 0, none⟩) n n → T 1 = fv → T 5 = .int .i64 acc.length → T 6 = .int .i64 jx → acc.length < jx → cur.take acc.length = acc →
    ∃ (T' : Fr) (Y' : AH) (cur' : List Int), Runs Try.prog w0 O 42 (.loop l42) T (H0 ++ Y) (.exit 0) T' (H0 ++ Y') ∧ Y'[j]? = some (.cells (cur'.map iv) 3 g) ∧ cur'.length = n ∧ T' 0 = .slice (some ⟨H0.length + j, 0, none⟩) n n ∧
      T' 5 = .int .i64 (acc ++ r.filter fun x => !p x).length ∧ cur'.take (acc ++ r.filter fun x => !p x).length = acc ++ r.filter fun x => !p x
  | [], jx, T, Y, cur, acc, hY, hl, hr, h0, h1, h5, h6, hlt, hta => by
    obtain ⟨T', q1, q0, q5⟩ := f_out (w0 := w0) (H := H0 ++ Y) h0 h6 (by have := drop_nil hr; omega)
    exact ⟨T', Y, cur, Runs.loop_out hM (runs_of q1) (by simp), hY, hl, q0.trans h0, by simpa using q5.trans h5, by simpa using hta⟩
  | s :: r, jx, T, Y, cur, acc, hY, hl, hr, h0, h1, h5, h6, hlt, hta => by
    obtain ⟨hj, hget, hr'⟩ := drop_cons hr
    have hp' := hp
    obtain ⟨gf, cap, rfl, hcl⟩ := hp
    obtain ⟨X, k, hk⟩ := hcl Y s
    have hid : (H0 ++ Y)[H0.length + j]? = some (.cells (cur.map iv) 3 g) := by rw [List.getElem?_append_right (by omega)]; simpa using hY
    have hjl := (List.getElem?_eq_some_iff.1 hY).1
    cases hb : p s with
    | true =>
      rw [hb] at hk
      obtain ⟨T1, q1, e0, e1, e6, e5⟩ := f_drop hid h0 hl h1 h6 (by omega) hget hk
      rw [List.append_assoc] at q1
      obtain ⟨T', Y', cur', q2, q3⟩ := f_loop hM hp' hn r (jx + 1) T1 (Y ++ X) cur acc (get_app hY) hl hr' (e0.trans h0) (e1.trans h1) (e5.trans h5) (by rw [e6, wrap_succ (n := n) (by omega) (by omega)]) (by omega) hta
      exact ⟨T', Y', cur', Runs.loop_next hM (runs_at q1) q2, by simpa [hb] using q3⟩
    | false =>
      rw [hb] at hk
      obtain ⟨T1, q1, e0, e1, e6, e5⟩ := f_keep (i := acc.length) hid h0 hl h1 h5 h6 (by omega) (by omega) hget hk
      have hset : (H0 ++ Y ++ X).set (H0.length + j) (.cells (splice (cur.map iv) acc.length [iv s]) 3 g) = H0 ++ ((Y ++ X).set j (.cells ((cur.set acc.length s).map iv) 3 g)) := by
        rw [List.append_assoc, List.set_append_right _ _ (by omega)]
        simp [splice, List.map_set]
      rw [hset] at q1
      have hY' : ((Y ++ X).set j (.cells ((cur.set acc.length s).map iv) 3 g))[j]? = some (.cells ((cur.set acc.length s).map iv) 3 g) := by rw [List.getElem?_set_self (by simp; omega)]
      have hta' : (cur.set acc.length s).take (acc ++ [s]).length = acc ++ [s] := by
        rw [List.length_append, List.take_set, List.length_singleton, List.take_add_one, hta]
        have : cur[acc.length]? = some cur[acc.length] := List.getElem?_eq_getElem (by omega)
        rw [this]
        simp
      obtain ⟨T', Y', cur', q2, q3⟩ := f_loop hM hp' hn r (jx + 1) T1 _ (cur.set acc.length s) (acc ++ [s]) hY' (by simp [hl]) (by rw [List.drop_set_of_lt (by omega)]; exact hr') (e0.trans h0) (e1.trans h1) (by rw [e5, wrap_succ (n := n) (by omega) (by omega)]; simp) (by rw [e6, wrap_succ (n := n) (by omega) (by omega)]) (by simp; omega) hta'
      exact ⟨T', Y', cur', Runs.loop_next hM (runs_at q1) q2, by simpa [hb] using q3⟩
theorem idx_none {p : Int → Bool} : ∀ (xs : List Int) (i : Nat), idx p xs i = none → xs.filter (fun x => !p x) = xs
  | [], _, _ => rfl
  | x :: r, i, h => by
    simp only [idx] at h
    split at h
    · cases h
    · rename_i hb
      simp [hb, idx_none r (i + 1) h]
theorem idx_some {p : Int → Bool} : ∀ (xs : List Int) (i j : Nat), idx p xs i = some j → i ≤ j ∧ j - i < xs.length ∧ xs.filter (fun x => !p x) = xs.take (j - i) ++ (xs.drop (j - i + 1)).filter fun x => !p x
  | [], _, _, h => by cases h
  | x :: r, i, j, h => by
    simp only [idx] at h
    split at h
    · rename_i hb
      cases h
      simp [hb]
    · rename_i hb
      obtain ⟨h1, h2, h3⟩ := idx_some r (i + 1) j h
      have e : j - i = (j - (i + 1)) + 1 := by omega
      refine ⟨by omega, by simp; omega, ?_⟩
      rw [e]
      simp [hb, h3]
end Go.Am
/- slices.DeleteFunc of whole numbers, whole. -/
open Go.Proofs Go.Am
namespace Go.Am
theorem aslice_lo {H : AH} {id n m : Nat} {cs : List Value} {g : Bool} (h : H[id]? = some (.cells cs 3 g)) (hm : m < n) : aslice Try.prog H 29 (.slice (some ⟨id, 0, none⟩) n n) (some (.int .i64 m)) none none = some (.slice (some ⟨id, m, none⟩) (n - m) (n - m)) := by
  have h1 : (m : Int) ≤ n := by omega
  cases g
  · have : ¬ n = m := by omega
    simp [aslice, Try.underlying29, sz3, h, asliceExact, abound, h1, this]
  · by_cases h0 : m = 0
    · subst h0
      simp [aslice, Try.underlying29, sz3, h, abound]
    · simp [aslice, Try.underlying29, sz3, h, abound, h1, h0, hm]
theorem aslice_hi {H : AH} {id n m : Nat} {cs : List Value} {g : Bool} (h : H[id]? = some (.cells cs 3 g)) (hm : m < n) : ∃ c, aslice Try.prog H 29 (.slice (some ⟨id, 0, none⟩) n n) none (some (.int .i64 m)) none = some (.slice (some ⟨id, 0, none⟩) m c) := by
  have h1 : (m : Int) ≤ n := by omega
  cases g
  · have : ¬ n = 0 := by omega
    exact ⟨n, by simp [aslice, Try.underlying29, sz3, h, asliceExact, abound, h1, this]⟩
  · exact ⟨m, by simp [aslice, Try.underlying29, sz3, h, abound, h1]⟩
theorem splice_lt : ∀ (vs cs : List Value) (o i : Nat), i < o → (splice cs o vs)[i]? = cs[i]?
  | [], _, _, _, _ => rfl
  | v :: r, cs, o, i, h => by
    simp only [splice]
    rw [splice_lt r _ (o + 1) i (by omega), List.getElem?_set_ne (by omega)]
theorem zeros3 (k : Nat) : (Builtin.zeroCells (Value.int .i64 0).cells k).toList.length = k ∧ (Builtin.zeroCells (Value.int .i64 0).cells k).toList.all cellV = true := by
  constructor
  · simp [Builtin.zeroCells, Value.cells]
  · rw [List.all_eq_true]
    intro v hv
    simp only [Builtin.zeroCells, Value.cells, Array.toList_map, List.mem_map] at hv
    obtain ⟨q, _, rfl⟩ := hv
    simp [Nat.mod_one, cellV]
theorem OwnIn.ints {w0 : World} {H0 Y : AH} {v : Value} {xs : List Int} (h : OwnIn H0 Y v xs) : IntSl w0 (H0 ++ Y) v xs := by
  rcases h with h | ⟨j, g, rfl, hj⟩
  · exact .inl h
  · refine .inr ⟨_, _, none, _, rfl, .inl rfl, fun i x hx => ?_⟩
    have : (H0 ++ Y)[H0.length + j]? = some (.cells (xs.map iv) 3 g) := by
      rw [List.getElem?_append_right (by omega)]
      simpa using hj
    simp [acell, this, hx, iv]
theorem Delete42 {O : Over} (hM : OverMono O) (hO : O 42 = none) (hO74 : O 74 = none) {w0 : World} {H0 Y : AH} {v fv : Value} {xs : List Int} {p : Int → Bool} (hp : Says O w0 H0 fv p) (hv : OwnIn H0 Y v xs) (hn : xs.length < 2 ^ 40) :
    ∃ v' Y', Does Try.prog w0 O 42 [v, fv] (H0 ++ Y) v' (H0 ++ Y') ∧ IntSl w0 (H0 ++ Y') v' (xs.filter fun x => !p x) := by
  have hs := hv.ints (w0 := w0)
  obtain ⟨X, k, hk⟩ := Index74 (O := O) hM hO74 hp hs hn
  cases hi : idx p xs 0 with
  | none =>
    rw [hi] at hk
    obtain ⟨T1, a1, b1⟩ : ∃ T', evCode Try.prog w0 (evCall Try.prog w0 O k) 0 42 b42 (frame0 [v, fv]) (H0 ++ Y) = some (.ret, T', H0 ++ Y ++ X) ∧ T' 4 = v := by
      simp [b42, Try.f42, evCode, evOps, astep, clsOf, aread, acall, callee, awanted, aev, aput, upd, frame0, hk, abin_eql_int]
    refine ⟨v, Y ++ X, Does.intro hO Try.func42 f42b ok42 (by simp [Try.f42]) (by have := runs_at a1; rwa [List.append_assoc] at this) (.inr rfl) (by simp [aresults, aresultsL, aresult, Try.f42, b1]), ?_⟩
    rw [idx_none xs 0 hi, ← List.append_assoc]
    exact hs.app
  | some j0 =>
    rw [hi] at hk
    obtain ⟨_, hj0, hfl⟩ := idx_some xs 0 j0 hi
    rw [Nat.sub_zero] at hj0 hfl
    rcases hv with ⟨rfl, rfl⟩ | ⟨j, g, rfl, hj⟩
    · simp at hj0
    · have hb : b42 = .seq (cat [false] b42) (.seq (cat [true, false] b42) (.seq (cat [true, true, false] b42) (.seq (.seq (cat [true, true, true, false, false] b42) (.block 0 (.loop l42))) (.seq (cat [true, true, true, true, false] b42) (.seq (cat [true, true, true, true, true, false] b42) .ret))))) := rfl
      have hne : ¬ (j0 : Int) = -1 := by omega
      obtain ⟨T0, a0, b0⟩ : ∃ T', evCode Try.prog w0 noCall 0 42 (cat [false] b42) (frame0 [.slice (some ⟨H0.length + j, 0, none⟩) xs.length xs.length, fv]) (H0 ++ Y) = some (.normal, T', H0 ++ Y) ∧ T' 0 = .slice (some ⟨H0.length + j, 0, none⟩) xs.length xs.length ∧ T' 1 = fv := by
        simp [cat, b42, Try.f42, evCode, evOps, astep, clsOf, aread, awanted, aev, aput, upd, frame0]
      obtain ⟨T1, a1, b1⟩ : ∃ T', evCode Try.prog w0 (evCall Try.prog w0 O k) 0 42 (cat [true, false] b42) T0 (H0 ++ Y) = some (.normal, T', H0 ++ Y ++ X) ∧ T' 0 = T0 0 ∧ T' 1 = T0 1 ∧ T' 5 = .int .i64 j0 := by
        simp [cat, b42, Try.f42, evCode, evOps, astep, clsOf, aread, acall, callee, awanted, aev, aput, upd, b0, hk]
      obtain ⟨T2, a2, b2⟩ : ∃ T', evCode Try.prog w0 noCall 0 42 (cat [true, true, false] b42) T1 (H0 ++ Y ++ X) = some (.normal, T', H0 ++ Y ++ X) ∧ T' 0 = T0 0 ∧ T' 1 = T0 1 ∧ T' 5 = .int .i64 j0 := by
        simp [cat, b42, Try.f42, evCode, evOps, astep, clsOf, aread, awanted, aev, aput, upd, b1, abin_eql_int, hne]
      obtain ⟨T3, a3, b3⟩ : ∃ T', evCode Try.prog w0 noCall 0 42 (cat [true, true, true, false, false] b42) T2 (H0 ++ Y ++ X) = some (.normal, T', H0 ++ Y ++ X) ∧ T' 0 = T0 0 ∧ T' 1 = T0 1 ∧ T' 5 = .int .i64 j0 ∧ T' 6 = .int .i64 (IntKind.i64.wrap (j0 + 1)) := by
        simp [cat, b42, Try.f42, evCode, evOps, astep, clsOf, aread, awanted, aev, aput, upd, b2, abin_add]
      have hacc : (xs.take j0).length = j0 := by rw [List.length_take]; omega
      obtain ⟨T4, Y', cur', c1, c2, c3, c4, c5, c6⟩ := f_loop (O := O) (w0 := w0) hM hp (n := xs.length) (j := j) (g := g) hn (xs.drop (j0 + 1)) (j0 + 1) T3 (Y ++ X) xs (xs.take j0) (get_app hj) rfl rfl (b3.1.trans b0.1) (b3.2.1.trans b0.2) (by rw [hacc]; exact b3.2.2.1) (by rw [b3.2.2.2, wrap_succ hj0 (by omega)]) (by omega) (by rw [hacc])
      rw [← hfl] at c5 c6
      obtain ⟨m, hm⟩ : ∃ m, m = (xs.filter fun x => !p x).length := ⟨_, rfl⟩
      rw [← hm] at c5 c6
      have hmn : m < xs.length := by
        have h1 : m = (xs.take j0 ++ (xs.drop (j0 + 1)).filter fun x => !p x).length := by rw [hm, hfl]
        have h2 := List.length_filter_le (fun x => !p x) (xs.drop (j0 + 1))
        rw [List.length_append, hacc] at h1
        rw [List.length_drop] at h2
        omega
      have hid : (H0 ++ Y')[H0.length + j]? = some (.cells (cur'.map iv) 3 g) := by rw [List.getElem?_append_right (by omega)]; simpa using c2
      have hjl := (List.getElem?_eq_some_iff.1 c2).1
      obtain ⟨z1, z2⟩ := zeros3 (xs.length - m)
      have s1 := aslice_lo hid hmn
      have hput := put_at (off := m) hid (vs := (Builtin.zeroCells (Value.int .i64 0).cells (xs.length - m)).toList) (fun h => by rw [h] at z1; simp at z1; omega) (by rw [z1]; simp; omega) z2
      have hnm : ¬ xs.length - m = 0 := by omega
      have hclear : aclear Try.prog (H0 ++ Y') #[29] [.slice (some ⟨H0.length + j, m, none⟩) (xs.length - m) (xs.length - m)] = some (undef, (H0 ++ Y').set (H0.length + j) (.cells (splice (cur'.map iv) m (Builtin.zeroCells (Value.int .i64 0).cells (xs.length - m)).toList) 3 g)) := by
        simp only [aclear, List.getElem?_toArray, List.getElem?_cons_zero, Try.underlying29, hnm, if_false, z3, hput, Option.map_some]
      obtain ⟨H2, hH2⟩ : ∃ H2, H2 = (H0 ++ Y').set (H0.length + j) (.cells (splice (cur'.map iv) m (Builtin.zeroCells (Value.int .i64 0).cells (xs.length - m)).toList) 3 g) := ⟨_, rfl⟩
      rw [← hH2] at hclear
      have hH2' : H2 = H0 ++ Y'.set j (.cells (splice (cur'.map iv) m (Builtin.zeroCells (Value.int .i64 0).cells (xs.length - m)).toList) 3 g) := by
        rw [hH2, List.set_append_right _ _ (by omega)]
        simp
      have hid2 : H2[H0.length + j]? = some (.cells (splice (cur'.map iv) m (Builtin.zeroCells (Value.int .i64 0).cells (xs.length - m)).toList) 3 g) := by rw [hH2, List.getElem?_set_self (by simp; omega)]
      obtain ⟨c, s2⟩ := aslice_hi hid2 hmn
      obtain ⟨T5, a5, b5⟩ : ∃ T', evCode Try.prog w0 noCall 0 42 (cat [true, true, true, true, false] b42) T4 (H0 ++ Y') = some (.normal, T', H2) ∧ T' 0 = T4 0 ∧ T' 5 = T4 5 := by
        simp [cat, b42, Try.f42, evCode, evOps, astep, clsOf, aread, awrite, awanted, aev, aput, upd, c4, c5, s1, hclear]
      obtain ⟨T6, a6, b6⟩ : ∃ T', evCode Try.prog w0 noCall 0 42 (cat [true, true, true, true, true, false] b42) T5 H2 = some (.normal, T', H2) ∧ T' 4 = .slice (some ⟨H0.length + j, 0, none⟩) m c := by
        simp [cat, b42, Try.f42, evCode, evOps, astep, clsOf, aread, awanted, aev, aput, upd, b5, c4, c5, s2]
      refine ⟨.slice (some ⟨H0.length + j, 0, none⟩) m c, Y'.set j (.cells (splice (cur'.map iv) m (Builtin.zeroCells (Value.int .i64 0).cells (xs.length - m)).toList) 3 g), ?_, ?_⟩
      · rw [← hH2']
        refine Does.intro hO Try.func42 f42b ok42 (by simp [Try.f42]) (?_ : Runs Try.prog w0 O 42 b42 _ _ .ret T6 _) (.inr rfl) (by simp [aresults, aresultsL, aresult, Try.f42, b6])
        rw [hb]
        rw [← List.append_assoc] at c1
        exact Runs.seq hM (runs_of a0) (Runs.seq hM (runs_at a1) (Runs.seq hM (runs_of a2) (Runs.seq hM (Runs.seq hM (runs_of a3) (Runs.block_exit c1)) (Runs.seq hM (runs_of a5) (Runs.seq hM (runs_of a6) Runs.ret)))))
      · rw [← hH2']
        refine .inr ⟨H0.length + j, 0, none, c, by rw [hm], .inl rfl, fun i x hx => ?_⟩
        have hil : i < m := by rw [hm]; exact (List.getElem?_eq_some_iff.1 hx).1
        have : cur'[i]? = some x := by
          have h1 : (cur'.take m)[i]? = some x := by rw [c6]; exact hx
          rwa [List.getElem?_take_of_lt hil] at h1
        simp only [acell, hid2, Nat.zero_add]
        rw [splice_lt _ _ _ _ hil]
        simp [this, iv]
end Go.Am
/- refs.Dead: the stripes of which there are no references. -/
open Go.Proofs Go.Am
namespace Go.Am
theorem ok44 : funcOk Try.prog Try.f44 = true := by decide +kernel
theorem ok20 : funcOk Try.prog Try.f20 = true := by decide +kernel
noncomputable def b44 : Code := match Try.f44.body with | some c => c | none => .skip
theorem f44b : Try.f44.body = some b44 := rfl
noncomputable def b20 : Code := match Try.f20.body with | some c => c | none => .skip
theorem f20b : Try.f20.body = some b20 := rfl
theorem sz83 : asize Try.prog 83 = some 1 := by kernel_rfl
theorem z83 : azero Try.prog 83 = some (.map none) := by kernel_rfl
theorem Says44 {O : Over} (hO : O 44 = none) {w0 : World} {H0 : AH} {id mi c : Nat} {L : IM} {g : Bool} (hc : H0[id]? = some (.cells [.map (some mi)] 83 g)) (hm : H0[mi]? = some (.map (L.map mkE) c)) :
    Says O w0 H0 (.func (.func 44) #[] ⟨[.pointer (some ⟨id, 0, none⟩)]⟩) (fun s => decide (0 < getI s L)) := by
  refine ⟨44, _, rfl, fun Y s => ⟨[], ?_⟩⟩
  have e1 : acell w0 (H0 ++ Y) ⟨id, 0, none⟩ = some (.map (some mi)) := by simp [acell, get_app hc]
  have e2 := alookup_int (c := c) Try.underlying83 Try.underlying3 z3 (get_app (X := Y) hm) s
  obtain ⟨T1, a1, b1⟩ : ∃ T', evCode Try.prog w0 noCall 0 8 b44 (frame0 [.int .i64 s, .pointer (some ⟨id, 0, none⟩)]) (H0 ++ Y) = some (.ret, T', H0 ++ Y) ∧ T' 3 = .bool (decide (0 < getI s L)) := by
    simp [b44, Try.f44, evCode, evOps, astep, clsOf, aread, awanted, aev, aput, upd, frame0, aload, Try.underlying83, isAggD, e1, e2, abin_gtr]
  rw [List.append_nil]
  exact Does.intro hO Try.func44 f44b ok44 (by simp [Try.f44]) (runs_of a1) (.inr rfl) (by simp [aresults, aresultsL, aresult, Try.f44, b1])
theorem Dead20 {O : Over} (hM : OverMono O) (hO : O 20 = none) (h41 : O 41 = none) (h43 : O 43 = none) (h44 : O 44 = none) (h42 : O 42 = none) (h74 : O 74 = none) {w0 : World} {H : AH} {L : IM} {cl : Nat} {lv sv : Value} {xs : List Int}
    (hl : ∃ Y, Does Try.prog w0 O 41 [lv] H (.map (some H.length)) (H ++ (.map (L.map mkE) cl :: Y))) (hs : IntSl w0 H sv xs) (hn : xs.length < 2 ^ 40) :
    ∃ v Y, Does Try.prog w0 O 20 [lv, sv] H v (H ++ Y) ∧ IntSl w0 (H ++ Y) v (xs.filter fun s => !decide (0 < getI s L)) := by
  obtain ⟨Y, k1, hk1⟩ := hl
  obtain ⟨H1, hH1⟩ : ∃ H1, H1 = H ++ (.map (L.map mkE) cl :: Y) := ⟨_, rfl⟩
  have hmap : H1[H.length]? = some (.map (L.map mkE) cl) := by rw [hH1]; simp
  rw [← hH1] at hk1
  obtain ⟨H2, hH2⟩ : ∃ H2, H2 = H1 ++ [.cells [.map (some H.length)] 83 false] := ⟨_, rfl⟩
  have hs2 : IntSl w0 H2 sv xs := by rw [hH2, hH1]; exact hs.app.app
  obtain ⟨v', Y2, ⟨k2, hk2⟩, hown⟩ := Clone43 (O := O) h43 hs2 hn
  have hcell : (H1 ++ [AObj.cells [.map (some H.length)] 83 false])[H1.length]? = some (.cells [.map (some H.length)] 83 false) := by simp
  rw [← hH2] at hcell
  have hmap2 : H2[H.length]? = some (.map (L.map mkE) cl) := by rw [hH2]; exact get_app hmap
  have hsays := Says44 (O := O) h44 (w0 := w0) hcell hmap2
  obtain ⟨v3, Y3, ⟨k3, hk3⟩, hint⟩ := Delete42 (O := O) hM h42 h74 hsays hown hn
  obtain ⟨k, hk⟩ : ∃ k, k1 ≤ k ∧ k2 ≤ k ∧ k3 ≤ k := ⟨k1 + k2 + k3, by omega⟩
  have g1 := evCall_le (P := Try.prog) (w0 := w0) hM hk.1 _ _ _ _ hk1
  have g2 := evCall_le (P := Try.prog) (w0 := w0) hM hk.2.1 _ _ _ _ hk2
  have g3 := evCall_le (P := Try.prog) (w0 := w0) hM hk.2.2 _ _ _ _ hk3
  rw [hH2] at g2 g3
  have hput : putCells (H1 ++ [.cells [.map none] 83 false]) ⟨H1.length, 0, none⟩ [.map (some H.length)] = some (H1 ++ [.cells [.map (some H.length)] 83 false]) := by
    rw [put_last (by simp) (by simp [cellV])]
    simp [splice]
  obtain ⟨T1, a1, b1⟩ : ∃ T', evCode Try.prog w0 (evCall Try.prog w0 O k) 0 12 b20 (frame0 [lv, sv]) H = some (.ret, T', H1 ++ [.cells [.map (some H.length)] 83 false] ++ Y3) ∧ T' 4 = v3 := by
    simp only [List.append_assoc, List.cons_append, List.nil_append] at g2 g3
    simp [b20, Try.f20, evCode, evOps, astep, clsOf, aread, aalloc, awrite, astore, acall, callee, awanted, aev, aput, upd, frame0, g1, g2, g3, z83, sz83, Value.cells, hput]
  refine ⟨v3, (.map (L.map mkE) cl :: Y) ++ [.cells [.map (some H.length)] 83 false] ++ Y3, Does.intro hO Try.func20 f20b ok20 (by simp [Try.f20]) (by have := runs_at a1; rw [hH1] at this; simpa [List.append_assoc] using this) (.inr rfl) (by simp [aresults, aresultsL, aresult, Try.f20, b1]), ?_⟩
  rw [hH2, hH1] at hint
  simpa [List.append_assoc] using hint
end Go.Am
/- Plain law: the map's count is the count. -/
open Go.Proofs Go.Am
namespace Go.Am
theorem getI_live (p : Int) : ∀ (R : List (Int × Int × Int)) (L : IM) (c : Nat), getI p (liveM R L c) = cntS p R (getI p L)
  | [], _, _ => rfl
  | (a, b, m) :: r, L, c => by
    simp only [liveM, cntS]
    rw [getI_live p r, getI_set]
    by_cases h : p = a
    · subst h; simp
    · have : ¬ a = p := fun e => h e.symm
      simp [h, this]
theorem cntS_nonneg (p : Int) : ∀ (R : List (Int × Int × Int)) (s : Int), 0 ≤ s → s + R.length < 2 ^ 62 → 0 ≤ cntS p R s
  | [], s, h, _ => h
  | (a, b, m) :: r, s, h, hl => by
    simp only [cntS]
    simp only [List.length_cons] at hl
    split
    · rw [wrap_i64 (by omega) (by omega)]
      exact cntS_nonneg p r (s + 1) (by omega) (by omega)
    · exact cntS_nonneg p r s h (by omega)
theorem dead_same (R : List (Int × Int × Int)) (hn : R.length < 2 ^ 40) (xs : List Int) : (xs.filter fun s => !decide (0 < getI s (liveM R [] 0))) = xs.filter fun s => decide (cntS s R 0 = 0) := by
  congr 1
  funext s
  rw [getI_live]
  have e : getI s [] = 0 := rfl
  rw [e]
  have := cntS_nonneg s R 0 (Int.le_refl _) (by omega)
  by_cases h : cntS s R 0 = 0
  · simp [h]
  · have : 0 < cntS s R 0 := by omega
    simp [h, this]
end Go.Am
/- No references at all: the nil slice. -/
open Go.Proofs Go.Am
namespace Go.Am
theorem runs_k {O : Over} {w0 : World} {k n : Nat} {c : Code} {T T' : Fr} {H H' : AH} {e : Exit} (h : evCode Try.prog w0 noCall k n c T H = some (e, T', H')) : Runs Try.prog w0 O n c T H e T' H' := ⟨k, evCode_mono (noCall_le _) (Nat.le_refl _) _ _ _ h⟩
theorem N16nil {O : Over} (hO : O 16 = none) {w0 : World} {H : AH} {p1 p2 : Int} : Does Try.prog w0 O 16 [.slice none 0 0, .agg #[.int .i64 p1, .int .i64 p2]] H (.int .i64 0) (H ++ [.cells [.int .i64 p1, .int .i64 p2] 36 false]) := by
  obtain ⟨T1, a1, b1⟩ : ∃ T', evCode Try.prog w0 noCall 1 24 b16 (frame0 [.slice none 0 0, .agg #[.int .i64 p1, .int .i64 p2]]) H = some (.ret, T', H ++ [.cells [.int .i64 p1, .int .i64 p2] 36 false]) ∧ T' 4 = .int .i64 0 := by
    simp [b16, Try.f16, evCode, aiter, evOps, astep, clsOf, aread, aalloc, awanted, aev, aput, upd, frame0, Value.cells, alen, Try.underlying25, abin_lss]
  exact Does.intro hO Try.func16 f16b ok16 (by simp [Try.f16]) (runs_k a1) (.inr rfl) (by simp [aresults, aresultsL, aresult, Try.f16, b1])
theorem N17nil {O : Over} (hO : O 17 = none) {w0 : World} {H : AH} {p1 p2 : Int} : Does Try.prog w0 O 17 [.slice none 0 0, .agg #[.int .i64 p1, .int .i64 p2]] H (.int .i64 0) (H ++ [.cells [.int .i64 p1, .int .i64 p2] 36 false]) := by
  obtain ⟨T1, a1, b1⟩ : ∃ T', evCode Try.prog w0 noCall 1 24 b17 (frame0 [.slice none 0 0, .agg #[.int .i64 p1, .int .i64 p2]]) H = some (.ret, T', H ++ [.cells [.int .i64 p1, .int .i64 p2] 36 false]) ∧ T' 4 = .int .i64 0 := by
    simp [b17, Try.f17, evCode, aiter, evOps, astep, clsOf, aread, aalloc, awanted, aev, aput, upd, frame0, Value.cells, alen, Try.underlying25, abin_lss]
  exact Does.intro hO Try.func17 f17b ok17 (by simp [Try.f17]) (runs_k a1) (.inr rfl) (by simp [aresults, aresultsL, aresult, Try.f17, b1])
theorem Live19nil {O : Over} (hO : O 19 = none) {w0 : World} {H : AH} {p : Int} : Does Try.prog w0 O 19 [.slice none 0 0, .int .i64 p] H (.int .i64 0) H := by
  obtain ⟨T1, a1, b1⟩ : ∃ T', evCode Try.prog w0 noCall 1 23 b19 (frame0 [.slice none 0 0, .int .i64 p]) H = some (.ret, T', H) ∧ T' 4 = .int .i64 0 := by
    simp [b19, Try.f19, evCode, aiter, evOps, astep, clsOf, aread, awanted, aev, aput, upd, frame0, alen, Try.underlying25, abin_lss]
  exact Does.intro hO Try.func19 f19b ok19 (by simp [Try.f19]) (runs_k a1) (.inr rfl) (by simp [aresults, aresultsL, aresult, Try.f19, b1])
theorem live41nil {O : Over} (hO : O 41 = none) {w0 : World} {H : AH} : Does Try.prog w0 O 41 [.slice none 0 0] H (.map (some H.length)) (H ++ [.map [] 0]) := by
  obtain ⟨T1, a1, b1⟩ : ∃ T', evCode Try.prog w0 noCall 1 21 b41 (frame0 [.slice none 0 0]) H = some (.ret, T', H ++ [.map [] 0]) ∧ T' 2 = .map (some H.length) := by
    simp [b41, Try.f41, evCode, aiter, evOps, astep, clsOf, aread, aalloc, awanted, aev, aput, upd, frame0, alen, Try.underlying25, abin_lss]
  exact Does.intro hO Try.func41 f41b ok41 (by simp [Try.f41]) (runs_k a1) (.inr rfl) (by simp [aresults, aresultsL, aresult, Try.f41, b1])
end Go.Am
/- The questions on references, of any slice of them. -/
open Go.Proofs Go.Am
namespace Go.Am
def RefSl (w0 : World) (H : AH) (v : Value) (R : List (Int × Int × Int)) : Prop := (v = .slice none 0 0 ∧ R = []) ∨ ∃ blk off sp c, v = .slice (some ⟨blk, off, sp⟩) R.length c ∧ (sp = none ∨ sp = some 0) ∧ CellsRefs w0 H blk off sp R
theorem RefSl.app {w0 : World} {H X : AH} {v : Value} {R : List (Int × Int × Int)} (h : RefSl w0 H v R) : RefSl w0 (H ++ X) v R := by
  rcases h with h | ⟨blk, off, sp, c, h1, h2, h3⟩
  · exact .inl h
  · exact .inr ⟨blk, off, sp, c, h1, h2, h3.app⟩
variable {O : Over} {w0 : World} {H : AH} {v : Value} {R : List (Int × Int × Int)}
theorem askN16 (hM : OverMono O) (hO : O 16 = none) (hv : RefSl w0 H v R) (hn : R.length < 2 ^ 40) (p1 p2 : Int) : ∃ X, Does Try.prog w0 O 16 [v, .agg #[.int .i64 p1, .int .i64 p2]] H (.int .i64 (sumN p1 p2 R 0)) (H ++ X) := by
  rcases hv with ⟨rfl, rfl⟩ | ⟨blk, off, sp, c, rfl, h2, h3⟩
  · exact ⟨_, N16nil hO⟩
  · exact N16 hM hO h2 (by omega) h3
theorem askN17 (hM : OverMono O) (hO : O 17 = none) (hv : RefSl w0 H v R) (hn : R.length < 2 ^ 40) (p1 p2 : Int) : ∃ X, Does Try.prog w0 O 17 [v, .agg #[.int .i64 p1, .int .i64 p2]] H (.int .i64 (sumN p1 p2 R 0)) (H ++ X) := by
  rcases hv with ⟨rfl, rfl⟩ | ⟨blk, off, sp, c, rfl, h2, h3⟩
  · exact ⟨_, N17nil hO⟩
  · exact N17 hM hO h2 (by omega) h3
theorem askLive19 (hM : OverMono O) (hO : O 19 = none) (hv : RefSl w0 H v R) (hn : R.length < 2 ^ 40) (p : Int) : ∃ X, Does Try.prog w0 O 19 [v, .int .i64 p] H (.int .i64 (cntS p R 0)) (H ++ X) := by
  rcases hv with ⟨rfl, rfl⟩ | ⟨blk, off, sp, c, rfl, h2, h3⟩
  · exact ⟨[], by rw [List.append_nil]; exact Live19nil hO⟩
  · exact Live19 hM hO h2 (by omega) h3
theorem asklive41 (hM : OverMono O) (hO : O 41 = none) (hv : RefSl w0 H v R) (hn : R.length < 2 ^ 40) : ∃ Y, Does Try.prog w0 O 41 [v] H (.map (some H.length)) (H ++ (.map ((liveM R [] 0).map mkE) (liveC R [] 0) :: Y)) := by
  rcases hv with ⟨rfl, rfl⟩ | ⟨blk, off, sp, c, rfl, h2, h3⟩
  · exact ⟨[], live41nil hO⟩
  · exact live41 hM hO h2 (by omega) h3
theorem askLive18 (hM : OverMono O) (hO : O 18 = none) (hO41 : O 41 = none) (hv : RefSl w0 H v R) (hn : R.length < 2 ^ 40) (p : Int) : ∃ X, Does Try.prog w0 O 18 [v, .int .i64 p] H (.int .i64 (cntS p R 0)) (H ++ X) := by
  obtain ⟨Y, k, hk⟩ := asklive41 hM hO41 hv hn
  have e1 : ∀ s, alookup Try.prog (H ++ (.map ((liveM R [] 0).map mkE) (liveC R [] 0) :: Y)) 83 (.map (some H.length)) (.int .i64 s) false = some (.int .i64 (getI s (liveM R [] 0))) := alookup_int (c := liveC R [] 0) Try.underlying83 Try.underlying3 z3 (by simp)
  obtain ⟨T1, a1, b1⟩ : ∃ T', evCode Try.prog w0 (evCall Try.prog w0 O k) 0 9 b18 (frame0 [v, .int .i64 p]) H = some (.ret, T', H ++ (.map ((liveM R [] 0).map mkE) (liveC R [] 0) :: Y)) ∧ T' 4 = .int .i64 (getI p (liveM R [] 0)) := by
    simp [b18, Try.f18, evCode, evOps, astep, clsOf, aread, acall, callee, awanted, aev, aput, upd, frame0, hk, e1]
  have e : getI p (liveM R [] 0) = cntS p R 0 := getI_live p R [] 0
  rw [e] at b1
  exact ⟨_, Does.intro hO Try.func18 f18b ok18 (by simp [Try.f18]) (runs_at a1) (.inr rfl) (by simp [aresults, aresultsL, aresult, Try.f18, b1])⟩
theorem askDead20 {sv : Value} {xs : List Int} (hM : OverMono O) (hO : O 20 = none) (h41 : O 41 = none) (h43 : O 43 = none) (h44 : O 44 = none) (h42 : O 42 = none) (h74 : O 74 = none) (hv : RefSl w0 H v R) (hn : R.length < 2 ^ 40) (hs : IntSl w0 H sv xs) (hx : xs.length < 2 ^ 40) :
    ∃ u Y, Does Try.prog w0 O 20 [v, sv] H u (H ++ Y) ∧ IntSl w0 (H ++ Y) u (xs.filter fun s => decide (cntS s R 0 = 0)) := by
  have := Dead20 hM hO h41 h43 h44 h42 h74 (asklive41 hM h41 hv hn) hs hx
  rwa [dead_same R hn xs] at this
theorem askDead21 {sv : Value} {xs : List Int} (hM : OverMono O) (hO : O 21 = none) (h19 : O 19 = none) (hv : RefSl w0 H v R) (hn : R.length < 2 ^ 40) (hs : IntSl w0 H sv xs) (hx : xs.length < 2 ^ 40) :
    ∃ u Y, Does Try.prog w0 O 21 [v, sv] H u (H ++ Y) ∧ IntSl w0 (H ++ Y) u (xs.filter fun s => decide (cntS s R 0 = 0)) :=
  Dead21 hM hO (fun Y s => askLive19 hM h19 hv.app hn s) hs hx
end Go.Am
