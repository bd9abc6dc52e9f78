/- The abstract machine is right: calls, regions, functions; rules for runs. -/
import Derived.Test.YtpphdfcahemlcaaMA
import Derived.RangeFuncRecord
import Derived.Conc.MuLone
import Derived.LoopNIn
import Derived.KernelRfl
import Derived.Below
import Derived.Maps.RangeRun
import Derived.Sort.Grow
set_option linter.unusedSimpArgs false
set_option linter.unusedVariables false
set_option linter.unusedSectionVars false
set_option linter.unnecessarySimpa false
/- The abstract machine beside the model's: one operation, calls too; a region in the order of its text. -/
namespace Go.Am
variable {P : Program} {w0 : World} {ρ ρ' : Ren} {H H' : AH} {W W' : World} {n : Nat} {T T' : Fr} {a : Act}

/- memory never gets shorter -/
theorem putCells_len {x : Addr} {vs : List Value} (h : putCells H x vs = some H') : H'.length = H.length := by
  unfold putCells at h
  repeat' split at h
  all_goals first | (cases h; done) | (cases h; simp)
theorem agrow_len {e : TypeId} {b m : Nat} {cs : List Value} {v : Value} (h : agrow H e b m cs = some (v, H')) : H.length ≤ H'.length := by
  unfold agrow at h
  split at h
  · cases h; simp
  · cases h
theorem appendTo_len {e : TypeId} {size bytes : Nat} {s v : Value} {m : Nat} {xs : List Value} (h : aappendTo w0 H e size bytes s m xs = some (v, H')) : H.length ≤ H'.length := by
  unfold aappendTo at h
  have ex : ∀ {b : Addr} {k c : Nat}, (if k + m ≤ c then (putCells H (aadd b (k * size)) xs).map fun H' => (Value.slice (some b) (k + m) c, H') else
          match (if k = 0 then some [] else acells w0 H b (k * size)) with | some old => agrow H e bytes (k + m) (old ++ xs) | none => none) = some (v, H') → H.length ≤ H'.length := by
    intro b k c h
    split at h
    · rw [Option.map_eq_some_iff] at h
      obtain ⟨H2, hp, h⟩ := h
      cases h
      exact Nat.le_of_eq (putCells_len hp).symm
    · split at h
      · exact agrow_len h
      · cases h
  split at h
  · split at h
    · cases h; exact Nat.le_refl _
    · exact agrow_len h
  · dsimp only at h
    split at h
    · exact ex h
    · exact ex h
    · split at h
      · exact ex h
      · split at h
        · cases h; exact Nat.le_refl _
        · split at h
          · cases h; simp
          · cases h
      · cases h
    · cases h
  · cases h
theorem awrite_len {o : Oper} {v : Value} (h : awrite P w0 o T H = some (v, H')) : H.length ≤ H'.length := by
  unfold awrite at h
  split at h
  · rw [Option.map_eq_some_iff] at h
    obtain ⟨H2, h, e⟩ := h
    cases e
    unfold astore at h
    split at h
    · split at h
      · exact Nat.le_of_eq (putCells_len h).symm
      · cases h
    · cases h
  · rw [Option.map_eq_some_iff] at h
    obtain ⟨H2, h, e⟩ := h
    cases e
    unfold amapUpdate at h
    repeat' split at h
    all_goals first | (cases h; done) | (cases h; simp)
  · rw [Option.map_eq_some_iff] at h
    obtain ⟨H2, h, e⟩ := h
    cases e
    unfold amapUpdate at h
    repeat' split at h
    all_goals first | (cases h; done) | (cases h; simp)
  · unfold amapEntry at h
    repeat' split at h
    all_goals first | (cases h; done) | (cases h; simp) | (rw [Option.map_eq_some_iff] at h; obtain ⟨z, _, h⟩ := h; cases h; simp)
  · rw [Option.map_eq_some_iff] at h
    obtain ⟨H2, h, e⟩ := h
    cases e
    unfold aentryStore at h
    repeat' split at h
    all_goals first | (cases h; done) | (cases h; simp)
  · unfold anext at h
    repeat' split at h
    all_goals first | (cases h; done) | (cases h; simp)
  · unfold arange at h
    repeat' split at h
    all_goals first | (cases h; done) | (cases h; simp)
  · split at h
    · unfold aappend at h
      repeat' split at h
      all_goals first | (cases h; done) | exact appendTo_len h
    · unfold acopy at h
      split at h
      · split at h
        · split at h
          · dsimp only at h
            split at h
            · rw [Option.map_eq_some_iff] at h
              obtain ⟨H2, h, e⟩ := h
              cases e
              exact Nat.le_of_eq (putCells_len h).symm
            · cases h; exact Nat.le_refl _
            · cases h
          · cases h
        · cases h
      · cases h
    · unfold aclear at h
      repeat' split at h
      all_goals first | (cases h; done) | (cases h; exact Nat.le_refl _) | (cases h; simp; done) | (rw [Option.map_eq_some_iff] at h; obtain ⟨H2, hp, e⟩ := h; cases e; exact Nat.le_of_eq (putCells_len hp).symm)
    · unfold adelete at h
      repeat' split at h
      all_goals first | (cases h; done) | (cases h; exact Nat.le_refl _) | (cases h; simp; done)
    · cases h
  · cases h

/- what a call must be worth -/
def Post (P : Program) (w0 : World) (ρ : Ren) (H H' : AH) (W : World) (v : Value) (v' : Value) (W' : World) : Prop := ∃ ρ', cv ρ' v = some v' ∧ Step P w0 ρ ρ' H H' W W'
def Ret (K : Value → World → Prop) : Ending → World → Prop := fun e W' => ∃ v', e = .returned v' ∧ K v' W'
def FnOk (P : Program) (f : Nat) (vs : List Value) (W : World) (K : Value → World → Prop) : Prop :=
  (∃ v' W', (callFunc f ⟨vs⟩).run P W = .ok (.value v') W' ∧ K v' W') ∨ ((callFunc f ⟨vs⟩).run P W = .ok (.enter f ⟨vs⟩) W ∧ ∀ m, CallsIn Fence.wide m P f ⟨vs⟩ W (Ret K))
def YieldOk (P : Program) (l : Nat) (vs : List Value) (W : World) (K : Value → World → Prop) : Prop :=
  ∃ f tmps assign body, (Instr.yield l ⟨vs⟩).run P W = .ok (.round l f tmps assign body) W ∧ ∀ m, RoundIn Fence.wide m P l f tmps assign body W (Ret K)
structure Sound (P : Program) (w0 : World) (call : CallA) : Prop where
  len : ∀ tg vs H v H', call tg vs H = some (v, H') → H.length ≤ H'.length
  fn : ∀ f vs H v H', call (.fn f) vs H = some (v, H') → ∀ ρ W vs', Rel P w0 ρ H W → Fresh ρ H H' → cvL ρ vs = some vs' → FnOk P f vs' W (Post P w0 ρ H H' W v)
  yield : ∀ l vs H v H', call (.yield l) vs H = some (v, H') → ∀ ρ W vs' L, Rel P w0 ρ H W → Fresh ρ H H' → cvL ρ vs = some vs' → ρ l = some L → YieldOk P L.blk vs' W (Post P w0 ρ H H' W v)

/- the fences that are looked at: around a call, and in a round -/
inductive Open : Fence → Prop where
  | wide : Open Fence.wide
  | round (l : Nat) : Open (Fence.wide.inRound l)
theorem Open.fn {F : Fence} (h : Open F) (f : FuncId) : F.fn f := by cases h <;> trivial
theorem Open.depth {F : Fence} (h : Open F) : F.depth = none := by cases h <;> rfl
theorem Open.calls {F : Fence} (h : Open F) {m : Nat} {f : FuncId} {args : Array Value} {R : Ending → World → Prop} (hc : CallsIn Fence.wide m P f args W R) : CallsIn F m P f args W R := by cases h <;> exact hc
theorem Open.round' {F : Fence} (h : Open F) {m l : Nat} {f : FuncId} {tmps : Array Value} {as bd : Code} {R : Ending → World → Prop} (hc : RoundIn Fence.wide m P l f tmps as bd W R) : RoundIn F m P l f tmps as bd W R := by cases h <;> exact hc

theorem astep_len {call : CallA} (hS : Sound P w0 call) {o : Oper} {v : Value} (h : astep P w0 call o T H = some (v, H')) : H.length ≤ H'.length := by
  unfold astep at h
  split at h
  · rw [Option.map_eq_some_iff] at h
    obtain ⟨_, _, h⟩ := h
    cases h
    exact Nat.le_refl _
  · rw [Option.map_eq_some_iff] at h
    obtain ⟨_, _, h⟩ := h
    cases h
    simp
  · exact awrite_len h
  · unfold acall at h
    split at h
    · split at h
      · exact hS.len _ _ _ _ _ h
      · cases h
    · cases h

theorem astep_nodefer {call : CallA} {o : Oper} {r : Value × AH} (h : astep P w0 call o T H = some r) : ∀ c, o.op ≠ .defer c := by
  intro c hc
  unfold astep clsOf at h
  simp only [hc] at h
  unfold aread at h
  simp only [hc] at h
  cases h

theorem callee_fn {v v' : Value} {args args' vs : List Value} {tg : Tgt} (h : callee v args = some (tg, vs)) (hv : cv ρ v = some v') (ha : cvL ρ args = some args') :
    ∃ fn cap vs', cvL ρ vs = some vs' ∧ (∀ W, (Deferred.ofValue v' ⟨args'⟩).run P W = .ok { target := .fn fn cap, args := ⟨vs'.take (vs'.length - cap.size)⟩ } W) ∧
      (match tg with
       | .fn f => fn = .func f ∧ (⟨vs'.take (vs'.length - cap.size)⟩ : Array Value) ++ cap = ⟨vs'⟩
       | .yield l => cap = #[] ∧ ∃ L, ρ l = some L ∧ fn = .yield L.blk) := by
  unfold callee at h
  split at h
  · rename_i f x y
    cases h
    obtain ⟨fn', x', y', rfl, hf, hx, hy⟩ := cv_func hv
    simp only [cvFn, Option.some.injEq] at hf
    subst hf
    obtain ⟨x'⟩ := x'
    obtain ⟨y'⟩ := y'
    have hl : (x' ++ args' ++ y').take ((x' ++ args' ++ y').length - y'.length) = x' ++ args' := by
      have : (x' ++ args' ++ y').length - y'.length = (x' ++ args').length := by simp; omega
      rw [this, List.take_left']
      rfl
    refine ⟨.func f, ⟨y'⟩, x' ++ args' ++ y', cvL_append (cvL_append hx ha) hy, fun W => ?_, rfl, ?_⟩
    · simp only [List.size_toArray, hl]
      simp [Deferred.ofValue]
    · simp only [List.size_toArray, hl]
      simp
  · rename_i l
    cases h
    obtain ⟨fn', x', y', rfl, hf, hx, hy⟩ := cv_func hv
    simp only [cvFn, Option.map_eq_some_iff] at hf
    obtain ⟨L, hL, rfl⟩ := hf
    simp only [cvL, Option.some.injEq] at hx hy
    have hx : x' = #[] := by cases x'; simp at hx; simp [← hx]
    have hy : y' = #[] := by cases y'; simp at hy; simp [← hy]
    subst hx
    subst hy
    exact ⟨.yield L.blk, #[], args', ha, fun W => by simp [Deferred.ofValue], rfl, L, hL, rfl⟩
  · cases h

theorem op_rel {call : CallA} (hS : Sound P w0 call) {F : Fence} (hF : Open F) {m : Nat} {o : Oper} (hok : operOk n o = true) {v : Value} (h : astep P w0 call o T H = some (v, H')) (R : Rel P w0 ρ H W) (hT : RelT ρ n T a.tmps) (hf : Fresh ρ H H')
    {next : Act → World → Prop} {Q : Exit → Act → World → Prop} (hn : ∀ ρ' v' W', cv ρ' v = some v' → Step P w0 ρ ρ' H H' W W' → next (a.put o.dst v') W') : o.wpIn F m P a W next Q := by
  refine ⟨fun f _ => hF.fn f, ?_⟩
  rw [Oper.semAt_eq _ _ _ (astep_nodefer h)]
  have fin : ∀ {ρ' v' W'}, cv ρ' v = some v' → Out ((execOp a.eval o).run P W) v' W' → Step P w0 ρ ρ' H H' W W' → o.uponIn F m P a next Q ((execOp a.eval o).run P W) := by
    intro ρ' v' W' h1 h2 h3
    have := hn ρ' v' W' h1 h3
    rcases h2 with h2 | ⟨h4, h2⟩
    · rw [h2]; exact this
    · rw [h2]; subst h4; exact this
  unfold astep at h
  split at h
  · rw [Option.map_eq_some_iff] at h
    obtain ⟨u, h, e⟩ := h
    cases e
    obtain ⟨v', h1, h2⟩ := aread_rel R hT hok h
    exact fin h1 (.inl h2) (Step.refl R)
  · rw [Option.map_eq_some_iff] at h
    obtain ⟨⟨ob, mk⟩, h, e⟩ := h
    cases e
    obtain ⟨ρ', v', W', h1, h2, h3⟩ := aalloc_rel R hT hok h hf
    exact fin h1 (.inl h2) h3
  · obtain ⟨ρ', v', W', h1, h2, h3⟩ := awrite_rel R hT hok h hf
    exact fin h1 h2 h3
  · obtain ⟨dst, op, ty, pos, after, guard⟩ := o
    unfold acall at h
    split at h
    · rename_i f args ats ho
      simp only at ho
      subst ho
      have hop := operOk_ops hok
      have hargs := args_rel hT args.toList (fun x hx => hop x (by simp [Op.operands, Call.operands]; exact .inr (Array.mem_toList_iff.1 hx)))
      rw [← Array.toList_map, ← Array.toList_map] at hargs
      have hfv := hT.ev (hop f (by simp [Op.operands, Call.operands])).1 (hop f (by simp [Op.operands, Call.operands])).2
      split at h
      · rename_i tg vs hcl
        obtain ⟨fn, cap, vs', h1, h2, h3⟩ := callee_fn (P := P) hcl hfv hargs
        have hl : (⟨(args.map a.eval).toList⟩ : Array Value) = args.map a.eval := rfl
        rw [hl] at h2
        have hres : (resolve a.eval { callee := .value f, args := args, argTypes := ats } ty).run P W = .ok { target := .fn fn cap, args := ⟨vs'.take (vs'.length - cap.size)⟩ } W := by
          simp only [resolve]
          exact h2 W
        have hex : (execOp a.eval ⟨dst, .call { callee := .value f, args := args, argTypes := ats }, ty, pos, after, guard⟩).run P W = (invoke (.fn fn cap) ⟨vs'.take (vs'.length - cap.size)⟩).run P W := by
          simp only [execOp, Sem.run_bind, hres, Result.andThen_ok]
        cases tg with
        | fn f =>
          obtain ⟨rfl, hcap⟩ := h3
          have hinv : (invoke (.fn (.func f) cap) ⟨vs'.take (vs'.length - cap.size)⟩).run P W = (callFunc f ⟨vs'⟩).run P W := by
            simp only [invoke, hcap]
          rw [hex, hinv]
          rcases hS.fn f vs H v H' h ρ W vs' R hf h1 with ⟨v', W', e1, ρ', e2, e3⟩ | ⟨e1, e2⟩
          · rw [e1]; exact hn ρ' v' W' e2 e3
          · rw [e1]
            refine ⟨fun hd => (by rw [hF.depth] at hd; cases hd), hF.calls ((e2 _).mono ?_)⟩
            rintro e W' ⟨v', rfl, ρ', e3, e4⟩
            exact hn ρ' v' W' e3 e4
        | yield l =>
          obtain ⟨rfl, L, hL, rfl⟩ := h3
          have ht : vs'.take (vs'.length - (#[] : Array Value).size) = vs' := by simp
          rw [ht] at hex
          obtain ⟨f', tmps, as, bd, e1, e2⟩ := hS.yield l vs H v H' h ρ W vs' L R hf h1 hL
          have hinv : (invoke (.fn (.yield L.blk) #[]) ⟨vs'⟩).run P W = .ok (.round L.blk f' tmps as bd) W := by
            simp only [invoke, e1]
          rw [hex, hinv]
          refine ⟨fun hd => (by rw [hF.depth] at hd; cases hd), hF.round' ((e2 _).mono ?_)⟩
          rintro e W' ⟨v', rfl, ρ', e3, e4⟩
          exact hn ρ' v' W' e3 e4
      · cases h
    · cases h
end Go.Am
/- The abstract machine beside the model's: regions in the order of their text, code. -/
namespace Go.Am
variable {P : Program} {w0 : World} {ρ ρ' : Ren} {H H' : AH} {W W' : World} {n m : Nat} {T T' : Fr} {a : Act} {call : CallA} {F : Fence}

theorem cv_bool_iff {v v' : Value} (h : cv ρ v = some v') (b : Bool) : v = .bool b ↔ v' = .bool b := by
  constructor
  · rintro rfl; exact cv_bool h
  · rintro rfl
    cases v <;> first
      | (simp only [cv, Option.some.injEq] at h; first | exact h | (cases h; done))
      | (rename_i q; cases q <;> simp only [cv, Option.map_eq_some_iff, Option.some.injEq] at h <;> first | (cases h; done) | (obtain ⟨_, _, h⟩ := h; cases h; done))
      | (rename_i q k c; cases q with
          | none => cases (cv_slice_none h)
          | some q => obtain ⟨_, _, h⟩ := cv_slice_some h; cases h)
      | (obtain ⟨_, h, _⟩ := cv_iface h; cases h)
      | (obtain ⟨_, _, _, h, _⟩ := cv_func h; cases h)
      | (obtain ⟨_, h, _⟩ := cv_agg h; cases h)
      | (obtain ⟨_, h, _⟩ := cv_tuple h; cases h)

theorem wanted_rel {ops : Array Oper} {o : Oper} (hg : guardOk ops n o = true) (hT : RelT ρ n T a.tmps) : Region.wanted o (yielded ops a.tmps) = awanted ops o T := by
  unfold Region.wanted awanted
  unfold guardOk at hg
  cases hgd : o.guard with
  | none => rfl
  | some p =>
    obtain ⟨j, want⟩ := p
    rw [hgd] at hg
    simp only at hg ⊢
    unfold yielded
    cases hd : (ops[j]?).bind (·.dst) with
    | none => rw [hd] at hg; cases hg
    | some d =>
      rw [hd] at hg
      have hdn : d < n := by simpa using hg
      have hcv := hT.2 d hdn
      have hsz : d < a.tmps.size := by rw [hT.1]; exact hdn
      have hget : a.tmps[d]? = some (a.tmps.getD d undef) := by simp [Array.getD_eq_getD_getElem?, hsz]
      simp only [Option.bind_some, hget]
      generalize a.tmps.getD d undef = u at hcv ⊢
      have hb := cv_bool_iff hcv
      by_cases ht : ∃ b, T d = .bool b
      · obtain ⟨b, hb2⟩ := ht
        have := (hb b).1 hb2
        rw [hb2, this]
        cases b <;> cases want <;> rfl
      · have h1 : ∀ b, u ≠ .bool b := fun b e => ht ⟨b, (hb b).2 e⟩
        have h2 : ∀ b, T d ≠ .bool b := fun b e => ht ⟨b, e⟩
        generalize T d = t at h2
        cases u <;> first | exact (h1 _ rfl).elim | (cases t <;> first | exact (h2 _ rfl).elim | rfl)

theorem put_same (a : Act) (d : Option Tmp) (v : Value) : (a.put d v).defers = a.defers := by cases d <;> rfl

theorem evOps_len (hS : Sound P w0 call) {ops : Array Oper} : ∀ (r : List Oper) (T : Fr) (H : AH) (T' : Fr) (H' : AH), evOps P w0 call ops r T H = some (T', H') → H.length ≤ H'.length
  | [], T, H, T', H', h => by simp only [evOps, Option.some.injEq] at h; cases h; exact Nat.le_refl _
  | o :: r, T, H, T', H', h => by
    simp only [evOps] at h
    split at h
    · split at h
      · rename_i v H1 h1
        exact Nat.le_trans (astep_len hS h1) (evOps_len hS r _ _ _ _ h)
      · cases h
    · exact evOps_len hS r _ _ _ _ h

theorem evOps_rel (hS : Sound P w0 call) (hF : Open F) {ops : Array Oper} (hok : ∀ o ∈ ops.toList, operOk n o = true ∧ guardOk ops n o = true) {Q : Exit → Act → World → Prop} :
    ∀ (r : List Oper) (i : Nat), ops.toList.drop i = r → ∀ (T : Fr) (H : AH) (T' : Fr) (H' : AH), evOps P w0 call ops r T H = some (T', H') → ∀ (ρ : Ren) (a : Act) (W : World), Rel P w0 ρ H W → Fresh ρ H H' → RelT ρ n T a.tmps →
      (∀ ρ' a' W', Step P w0 ρ ρ' H H' W W' → RelT ρ' n T' a'.tmps → a'.defers = a.defers → Q .normal a' W') → wpOpsIn F m P ops Q (List.range' i r.length) a W
  | [], i, hr, T, H, T', H', h, ρ, a, W, R, hf, hT, hQ => by
    simp only [evOps, Option.some.injEq] at h
    cases h
    exact hQ ρ a W (Step.refl R) hT rfl
  | o :: r, i, hr, T, H, T', H', h, ρ, a, W, R, hf, hT, hQ => by
    have hoi : ops[i]? = some o := by
      have : (ops.toList.drop i)[0]? = some o := by rw [hr]; rfl
      simpa using this
    have hmem : o ∈ ops.toList := by
      have : o ∈ ops.toList.drop i := by rw [hr]; simp
      exact List.mem_of_mem_drop this
    have hr' : ops.toList.drop (i + 1) = r := by
      have : (ops.toList.drop i).drop 1 = r := by rw [hr]; rfl
      rwa [List.drop_drop] at this
    obtain ⟨ho, hg⟩ := hok o hmem
    simp only [evOps] at h
    simp only [List.length_cons, List.range'_succ, wpOpsIn, hoi, wanted_rel hg hT]
    split at h
    · rename_i hw
      rw [if_pos hw]
      split at h
      · rename_i v H1 h1
        have hlen := evOps_len hS r _ _ _ _ h
        refine op_rel hS hF ho h1 R hT (hf.left hlen) (fun ρ1 v' W1 hv S => ?_)
        have hT1 := (hT.mono (S.mono (hf.left hlen))).put (operOk_dst ho) hv
        exact evOps_rel hS hF hok r (i + 1) hr' _ _ _ _ h ρ1 _ W1 S.rel (hf.right S) hT1 (fun ρ' a' W' S' hT' hd => hQ ρ' a' W' (S.trans S') hT' (hd.trans (put_same _ _ _)))
      · cases h
    · rename_i hw
      rw [if_neg hw]
      refine ⟨fun f _ => hF.fn f, ?_⟩
      exact evOps_rel hS hF hok r (i + 1) hr' _ _ _ _ h ρ _ W R hf (hT.put (operOk_dst ho) (cv_undef ρ)) (fun ρ' a' W' S' hT' hd => hQ ρ' a' W' S' hT' (hd.trans (put_same _ _ _)))

/- the marks of a range over a function among an activation's deferred calls -/
def Marks (B : Nat) (ρ : Ren) (W : World) : List Deferred → List Nat → Prop
  | [], [] => True
  | d :: ds, D :: Ds => d.target = .collected D ∧ B ≤ D ∧ W.heap[D]? = some (.deferred (some [])) ∧ (∀ i L, ρ i = some L → L.blk ≠ D) ∧ D ∉ Ds ∧ Marks B ρ W ds Ds
  | _, _ => False
theorem Marks.step {B : Nat} (S : Step P w0 ρ ρ' H H' W W') : ∀ {ds : List Deferred} {Ds : List Nat}, Marks B ρ W ds Ds → Marks B ρ' W' ds Ds
  | [], [], _ => trivial
  | [], _ :: _, h => h.elim
  | _ :: _, [], h => h.elim
  | d :: ds, D :: Ds, h => by
    obtain ⟨h1, h2, h3, h4, h5, h6⟩ := h
    have hlt : D < W.heap.size := (Array.getElem?_eq_some_iff.1 h3).1
    refine ⟨h1, h2, ?_, fun i L hL => ?_, h5, Marks.step S h6⟩
    · rw [S.same D hlt (fun i o L _ _ hL => h4 i L hL)]; exact h3
    · by_cases hi : i < H.length ∨ H'.length ≤ i
      · rw [S.out i hi] at hL; exact h4 i L hL
      · rcases S.new i L (by omega) (by omega) hL with h | ⟨j, o, M, _, _, hM, hML⟩
        · omega
        · rw [← hML]; exact h4 j M hM
theorem Marks.lt {B : Nat} : ∀ {ds : List Deferred} {Ds : List Nat}, Marks B ρ W ds Ds → ∀ D ∈ Ds, D < W.heap.size
  | [], [], _ => by simp
  | [], _ :: _, h => h.elim
  | _ :: _, [], h => h.elim
  | d :: ds, D :: Ds, h => by
    obtain ⟨h1, h2, h3, h4, h5, h6⟩ := h
    intro E hE
    rcases List.mem_cons.1 hE with rfl | hE
    · exact (Array.getElem?_eq_some_iff.1 h3).1
    · exact h6.lt E hE

theorem evD_len (hS : Sound P w0 call) {ops : Array Oper} {bef : Array Nat} : ∀ (r : List Oper) (i : Nat) (T : Fr) (H : AH) (hist : List (Nat × AH)) (reads : List (Nat × (AH → Bool))) (T' : Fr) (H' : AH), evD P w0 call ops bef r i T H hist reads = some (T', H') → H.length ≤ H'.length
  | [], i, T, H, hist, reads, T', H', h => by simp only [evD, Option.some.injEq] at h; cases h; exact Nat.le_refl _
  | o :: r, i, T, H, hist, reads, T', H', h => by
    simp only [evD] at h
    split at h
    · split at h
      · split at h
        · cases h
        · split at h
          · split at h
            · exact evD_len hS r _ _ _ _ _ _ _ h
            · cases h
          · exact evD_len hS r _ _ _ _ _ _ _ h
      · split at h
        · cases h
        · have := evD_len hS r _ _ _ _ _ _ _ h
          simp at this
          omega
      · split at h
        · cases h
        · rename_i v H1 h1
          split at h
          · exact Nat.le_trans (awrite_len h1) (evD_len hS r _ _ _ _ _ _ _ h)
          · cases h
      · split at h
        · cases h
        · rename_i v H1 h1
          split at h
          · refine Nat.le_trans ?_ (evD_len hS r _ _ _ _ _ _ _ h)
            unfold acall at h1
            split at h1
            · split at h1
              · exact hS.len _ _ _ _ _ h1
              · cases h1
            · cases h1
          · cases h
    · exact evD_len hS r _ _ _ _ _ _ _ h

def DrawSound (P : Program) (w0 : World) (call : CallA) : Prop :=
  ∀ {n : Nat} {ops : Array Oper} {T T' : Fr} {H H' : AH}, (∀ o ∈ ops.toList, operOk n o = true ∧ guardOk ops n o = true) → drawOk P ops = true → evD P w0 call ops (Region.before ops) ops.toList 0 T H [] [] = some (T', H') →
    ∀ {F : Fence}, Open F → ∀ (m : Nat) (ρ : Ren) (a : Act) (W : World) (Q : Exit → Act → World → Prop), Rel P w0 ρ H W → Fresh ρ H H' → RelT ρ n T a.tmps →
      (∀ ρ' a' W', Step P w0 ρ ρ' H H' W W' → RelT ρ' n T' a'.tmps → a'.defers = a.defers → Q .normal a' W') → wpAnyIn F m P .any ops Q ops.size (Array.replicate ops.size false) a W
end Go.Am
/- The abstract machine beside the model's: code. -/
namespace Go.Am
variable {P : Program} {w0 : World} {ρ ρ' : Ren} {H H' : AH} {W W' : World} {n m : Nat} {T T' : Fr} {a : Act} {call : CallA} {F : Fence}

theorem aiter_len {body : Fr → AH → Option (Exit × Fr × AH)} (hb : ∀ T H e T' H', body T H = some (e, T', H') → H.length ≤ H'.length) :
    ∀ (k : Nat) (T : Fr) (H : AH) (e : Exit) (T' : Fr) (H' : AH), aiter k body T H = some (e, T', H') → H.length ≤ H'.length
  | 0, _, _, _, _, _, h => by cases h
  | k + 1, T, H, e, T', H', h => by
    simp only [aiter] at h
    split at h
    · rename_i T1 H1 h1
      exact Nat.le_trans (hb _ _ _ _ _ h1) (aiter_len hb k _ _ _ _ _ h)
    · exact hb _ _ _ _ _ h

theorem evCode_len (hS : Sound P w0 call) (k : Nat) {n : Nat} : ∀ (c : Code) {T : Fr} {H : AH} {e : Exit} {T' : Fr} {H' : AH}, evCode P w0 call k n c T H = some (e, T', H') → H.length ≤ H'.length
  | .skip, T, H, e, T', H', h => by simp only [evCode, Option.some.injEq] at h; cases h; exact Nat.le_refl _
  | .label _, T, H, e, T', H', h => by simp only [evCode, Option.some.injEq] at h; cases h; exact Nat.le_refl _
  | .region id ops draw, T, H, e, T', H', h => by
    simp only [evCode] at h
    split at h
    · rw [Option.map_eq_some_iff] at h
      obtain ⟨⟨T1, H1⟩, h, e1⟩ := h
      cases e1
      exact evD_len hS _ _ _ _ _ _ _ _ h
    · rw [Option.map_eq_some_iff] at h
      obtain ⟨⟨T1, H1⟩, h, e1⟩ := h
      cases e1
      exact evOps_len hS _ _ _ _ _ h
  | .seq x y, T, H, e, T', H', h => by
    simp only [evCode] at h
    split at h
    · rename_i T1 H1 h1
      exact Nat.le_trans (evCode_len hS k x h1) (evCode_len hS k y h)
    · exact evCode_len hS k x h
  | .cond c x y, T, H, e, T', H', h => by
    simp only [evCode] at h
    split at h
    · split at h
      · exact evCode_len hS k x h
      · exact evCode_len hS k y h
    · cases h
  | .block id x, T, H, e, T', H', h => by
    simp only [evCode] at h
    split at h
    · rename_i i T1 H1 h1
      have := evCode_len hS k x h1
      split at h <;> (cases h; exact this)
    · exact evCode_len hS k x h
  | .loop x, T, H, e, T', H', h => by
    simp only [evCode] at h
    exact aiter_len (fun _ _ _ _ _ h => evCode_len hS k x h) _ _ _ _ _ _ h
  | .rangeFunc g ps as bd, T, H, e, T', H', h => by
    simp only [evCode] at h
    split at h
    · split at h
      · cases h
      · split at h
        · cases h
        · rename_i v H1 h1
          have hl := hS.len _ _ _ _ _ h1
          simp at hl
          split at h
          · split at h
            · cases h
            · split at h <;> first | (cases h; done) | (cases h; simp; omega)
          · cases h
    · cases h
  | .exit _, T, H, e, T', H', h => by simp only [evCode, Option.some.injEq] at h; cases h; exact Nat.le_refl _
  | .ret, T, H, e, T', H', h => by simp only [evCode, Option.some.injEq] at h; cases h; exact Nat.le_refl _
  | .scope _, T, H, e, T', H', h => by simp [evCode] at h
  | .goto _, T, H, e, T', H', h => by simp [evCode] at h
  | .refuse _, T, H, e, T', H', h => by simp [evCode] at h

/- a block that has no name is laid -/
theorem alloc_step (R : Rel P w0 ρ H W) (o : Obj) : Step P w0 ρ ρ H H W (W.alloc o) := by
  have hlow : ∀ b, b < W.heap.size → (W.alloc o).heap[b]? = W.heap[b]? := fun b hb => by
    show (W.heap.push o)[b]? = _
    rw [Array.getElem?_push_lt hb]
    simp [hb]
  refine ⟨Nat.le_refl _, fun _ _ => rfl, fun i L h1 h2 => by omega, fun _ h => h, ⟨by have := R.size; simp; omega, fun b hb => ?_, fun i L h => ?_, R.inj, fun i q L h1 h2 => ?_⟩, by simp, fun b hb _ => hlow b hb, rfl, rfl, rfl⟩
  · rw [hlow b (by have := R.size; omega)]; exact R.base b hb
  · have := R.lo i L h; simp; omega
  · rw [hlow _ (R.lo i L h2).2]; exact R.obj i q L h1 h2

theorem drew_rel (R : Rel P w0 ρ H W) : Rel P w0 ρ H { W with drawn := W.drawn + 1 } := ⟨R.size, R.base, R.lo, R.inj, R.obj⟩
theorem drew_step (S : Step P w0 ρ ρ' H H' { W with drawn := W.drawn + 1 } W') : Step P w0 ρ ρ' H H' W W' := ⟨S.le, S.out, S.new, S.dead, S.rel, S.size, S.same, S.env⟩

theorem enters_run {f : Nat} (h : enters P f = true) (vs : Array Value) (W : World) : (callFunc f vs).run P W = .ok (.enter f vs) W := by
  unfold enters at h
  cases hf : P.funcs[f]? with
  | none => rw [hf] at h; cases h
  | some fn =>
    rw [hf] at h
    simp only [Bool.and_eq_true] at h
    cases hb : fn.body with
    | none => rw [hb] at h; simp at h
    | some c => 
      have hn : fn.name ≠ "runtime.NumGoroutine" := by simpa using h.2
      simp [callFunc, hf, hb, hn]

theorem evCode_rel (hS : Sound P w0 call) (hD : DrawSound P w0 call) (k : Nat) {fl : Bool} {n : Nat} (hF : Open F) (hfl : fl = true ∨ F = Fence.wide) {B : Nat} : ∀ (c : Code) {T : Fr} {H : AH} {e : Exit} {T' : Fr} {H' : AH}, codeOk P fl n c = true → evCode P w0 call k n c T H = some (e, T', H') →
    ∀ (ρ : Ren) (a : Act) (W : World) (Ds : List Nat) (Q : Exit → Act → World → Prop), Rel P w0 ρ H W → Fresh ρ H H' → RelT ρ n T a.tmps → B ≤ W.heap.size → Marks B ρ W a.defers Ds →
    (∀ ρ' a' W' Ds', Step P w0 ρ ρ' H H' W W' → RelT ρ' n T' a'.tmps → Marks B ρ' W' a'.defers Ds' → Q e a' W') → c.wpIn F m P Q a W
  | .skip, T, H, e, T', H', _, h, ρ, a, W, Ds, Q, R, hf, hT, hB, hM, hQ => by
    simp only [evCode, Option.some.injEq] at h
    cases h
    exact wpIn_skip (hQ ρ a W Ds (Step.refl R) hT hM)
  | .label _, T, H, e, T', H', _, h, ρ, a, W, Ds, Q, R, hf, hT, hB, hM, hQ => by
    simp only [evCode, Option.some.injEq] at h
    cases h
    exact wpIn_label (hQ ρ a W Ds (Step.refl R) hT hM)
  | .exit id, T, H, e, T', H', _, h, ρ, a, W, Ds, Q, R, hf, hT, hB, hM, hQ => by
    simp only [evCode, Option.some.injEq] at h
    cases h
    exact wpIn_exit (hQ ρ a W Ds (Step.refl R) hT hM)
  | .ret, T, H, e, T', H', _, h, ρ, a, W, Ds, Q, R, hf, hT, hB, hM, hQ => by
    simp only [evCode, Option.some.injEq] at h
    cases h
    exact wpIn_ret (hQ ρ a W Ds (Step.refl R) hT hM)
  | .region id ops draw, T, H, e, T', H', hc, h, ρ, a, W, Ds, Q, R, hf, hT, hB, hM, hQ => by
    simp only [codeOk, Bool.and_eq_true, List.all_eq_true] at hc
    simp only [evCode] at h
    split at h
    · rename_i hd
      subst hd
      rw [Option.map_eq_some_iff] at h
      obtain ⟨⟨T1, H1⟩, h, e1⟩ := h
      cases e1
      have hdr : drawOk P ops = true := by simpa using hc.2
      have hm : P.follows .mixedOrders = true := by
        unfold drawOk at hdr
        simp only [Bool.and_eq_true] at hdr
        exact hdr.1.1.1
      refine wpIn_region_any hm (hD hc.1 hdr h hF m ρ a _ Q (drew_rel R) hf hT (fun ρ' a' W' S hT' hd => ?_))
      have S' := drew_step S
      exact hQ ρ' a' W' Ds S' hT' (by rw [hd]; exact hM.step S')
    · rename_i hd
      have hd : draw = false := by simpa using hd
      subst hd
      rw [Option.map_eq_some_iff] at h
      obtain ⟨⟨T1, H1⟩, h, e1⟩ := h
      cases e1
      refine wpIn_region ?_
      have := evOps_rel (m := m) (Q := Q) hS hF hc.1 ops.toList 0 rfl T H _ _ h ρ a W R hf hT (fun ρ' a' W' S hT' hd => hQ ρ' a' W' Ds S hT' (by rw [hd]; exact hM.step S))
      rwa [Array.length_toList, ← List.range_eq_range'] at this
  | .seq x y, T, H, e, T', H', hc, h, ρ, a, W, Ds, Q, R, hf, hT, hB, hM, hQ => by
    simp only [codeOk, Bool.and_eq_true] at hc
    simp only [evCode] at h
    refine wpIn_seq ?_
    split at h
    · rename_i T1 H1 h1
      have hlen := evCode_len hS k y h
      refine evCode_rel hS hD k hF hfl x hc.1 h1 ρ a W Ds _ R (hf.left hlen) hT hB hM (fun ρ1 a1 W1 Ds1 S hT1 hM1 => ?_)
      exact evCode_rel hS hD k hF hfl y hc.2 h ρ1 a1 W1 Ds1 Q S.rel (hf.right S) hT1 (Nat.le_trans hB S.size) hM1 (fun ρ2 a2 W2 Ds2 S2 hT2 hM2 => hQ ρ2 a2 W2 Ds2 (S.trans S2) hT2 hM2)
    · rename_i hne
      refine evCode_rel hS hD k hF hfl x hc.1 h ρ a W Ds _ R hf hT hB hM (fun ρ1 a1 W1 Ds1 S hT1 hM1 => ?_)
      have := hQ ρ1 a1 W1 Ds1 S hT1 hM1
      cases e <;> first | exact this | exact (hne _ _ h).elim
  | .cond c x y, T, H, e, T', H', hc, h, ρ, a, W, Ds, Q, R, hf, hT, hB, hM, hQ => by
    simp only [codeOk, Bool.and_eq_true] at hc
    simp only [evCode] at h
    split at h
    · rename_i t ht
      have hcv := hT.ev hc.1.1.1 hc.1.1.2
      rw [ht] at hcv
      refine wpIn_cond (cv_bool hcv) ?_
      cases t
      · exact evCode_rel hS hD k hF hfl y hc.2 (by simpa using h) ρ a W Ds Q R hf hT hB hM hQ
      · exact evCode_rel hS hD k hF hfl x hc.1.2 (by simpa using h) ρ a W Ds Q R hf hT hB hM hQ
    · cases h
  | .block id x, T, H, e, T', H', hc, h, ρ, a, W, Ds, Q, R, hf, hT, hB, hM, hQ => by
    simp only [codeOk] at hc
    simp only [evCode] at h
    refine wpIn_block ?_
    split at h
    · rename_i i T1 H1 h1
      split at h
      · rename_i hi
        cases h
        refine evCode_rel hS hD k hF hfl x hc h1 ρ a W Ds _ R hf hT hB hM (fun ρ1 a1 W1 Ds1 S hT1 hM1 => ?_)
        simp only [Exit.inBlock, if_pos hi]
        exact hQ ρ1 a1 W1 Ds1 S hT1 hM1
      · rename_i hi
        cases h
        refine evCode_rel hS hD k hF hfl x hc h1 ρ a W Ds _ R hf hT hB hM (fun ρ1 a1 W1 Ds1 S hT1 hM1 => ?_)
        simp only [Exit.inBlock, if_neg hi]
        exact hQ ρ1 a1 W1 Ds1 S hT1 hM1
    · rename_i hne
      refine evCode_rel hS hD k hF hfl x hc h ρ a W Ds _ R hf hT hB hM (fun ρ1 a1 W1 Ds1 S hT1 hM1 => ?_)
      have := hQ ρ1 a1 W1 Ds1 S hT1 hM1
      cases e <;> first | exact this | exact (hne _ _ _ h).elim
  | .loop x, T, H, e, T', H', hc, h, ρ, a, W, Ds, Q, R, hf, hT, hB, hM, hQ => by
    simp only [codeOk] at hc
    simp only [evCode] at h
    refine wpIn_loop_rounds k ?_
    have key : ∀ (j : Nat) (T : Fr) (H : AH), aiter j (evCode P w0 call k n x) T H = some (e, T', H') → ∀ (ρ : Ren) (a : Act) (W : World) (Ds : List Nat), Rel P w0 ρ H W → Fresh ρ H H' → RelT ρ n T a.tmps → B ≤ W.heap.size → Marks B ρ W a.defers Ds →
        (∀ ρ' a' W' Ds', Step P w0 ρ ρ' H H' W W' → RelT ρ' n T' a'.tmps → Marks B ρ' W' a'.defers Ds' → Q e a' W') → Code.roundsIn F m P x Q j a W := by
      intro j
      induction j with
      | zero => intro T H h; cases h
      | succ j ih =>
        intro T H h ρ a W Ds R hf hT hB hM hQ
        simp only [aiter] at h
        rw [roundsIn_succ]
        split at h
        · rename_i T1 H1 h1
          have hlen := aiter_len (fun _ _ _ _ _ h => evCode_len hS k x h) _ _ _ _ _ _ h
          refine evCode_rel hS hD k hF hfl x hc h1 ρ a W Ds _ R (hf.left hlen) hT hB hM (fun ρ1 a1 W1 Ds1 S hT1 hM1 => ?_)
          exact ih _ _ h ρ1 a1 W1 Ds1 S.rel (hf.right S) hT1 (Nat.le_trans hB S.size) hM1 (fun ρ2 a2 W2 Ds2 S2 hT2 hM2 => hQ ρ2 a2 W2 Ds2 (S.trans S2) hT2 hM2)
        · rename_i hne
          refine evCode_rel hS hD k hF hfl x hc h ρ a W Ds _ R hf hT hB hM (fun ρ1 a1 W1 Ds1 S hT1 hM1 => ?_)
          have := hQ ρ1 a1 W1 Ds1 S hT1 hM1
          cases e <;> first | exact this | exact (hne _ _ h).elim
    exact key k T H h ρ a W Ds R hf hT hB hM hQ
  | .rangeFunc g ps as bd, T, H, e, T', H', hc, h, ρ, a, W, Ds, Q, R, hf, hT, hB, hM, hQ => by
    simp only [codeOk, Bool.and_eq_true, Bool.not_eq_true'] at hc
    obtain ⟨⟨⟨⟨⟨hfl0, hcg⟩, htg⟩, hps⟩, hca⟩, hcb⟩ := hc
    have hFw : F = Fence.wide := by rcases hfl with h | h; · rw [hfl0] at h; cases h
                                    · exact h
    subst hFw
    simp only [evCode] at h
    split at h
    · rename_i f vs hcl
      split at h
      · cases h
      · rename_i hen
        have hen : enters P f = true := by simpa using hen
        split at h
        · cases h
        · rename_i v H2 h2
          have hl := hS.len _ _ _ _ _ h2
          refine wpIn_rangeFunc (fun fn _ => ?_)
          let rec0 : Loop := { state := .ready, pending := none, fn, tmps := a.tmps, params := ps, assign := as, body := bd, defers := W.heap.size }
          let W1 : World := (W.alloc (.deferred (some []))).alloc (.loop rec0)
          let H1 : AH := H ++ [.loop .ready none n T ps.toList as bd]
          have hH' : H'.length = H2.length := by
            split at h
            · split at h
              · cases h
              · split at h <;> first | (cases h; done) | (cases h; simp)
            · cases h
          have hl1 : H1.length = H.length + 1 := by simp [H1]
          have hf1 : Fresh ρ H H1 := hf.left (by rw [hH']; exact hl)
          have S0 := alloc_step R (.deferred (some []))
          have S1 : Step P w0 ρ (plus ρ H.length ⟨W.heap.size + 1, none⟩) H H1 W W1 := by
            have := S0.trans (push_step (g := none) (ob := .loop .ready none n T ps.toList as bd) (obj := .loop rec0) (W' := W1) S0.rel hf1 rfl ⟨rfl, rfl, rfl⟩
              ⟨rfl, rec0, rfl, rfl, rfl, hT, rfl, rfl, rfl, hca, hcb, fun t ht => by simpa using (List.all_eq_true.1 hps) t ht, .inl rfl⟩)
            simpa using this
          have hle := S1.mono hf1
          have hone : cvL (plus ρ H.length ⟨W.heap.size + 1, none⟩) [.func (.yield H.length) #[] #[]] = some [.func (.yield (W.heap.size + 1)) #[] #[]] := by
            simp [cvL, cv, cvFn, plus]
          obtain ⟨fnv, cap, vs', e1, e2, rfl, e3⟩ := callee_fn (P := P) hcl (cv_mono hle _ _ (hT.ev hcg htg)) hone
          refine ⟨W.heap.size + 1, [{ target := .collected W.heap.size, args := #[] }], W1, { target := .fn (.func f) cap, args := ⟨vs'.take (vs'.length - cap.size)⟩ }, W1, f, ⟨vs'⟩, W1, ?_, ?_, fun _ _ => trivial, ?_, (fun hd => by cases hd), ?_⟩
          · exact run_enterLoop_outer fn a.tmps ps as bd
          · have := e2 W1
            simp only [resolve, rangeCall]
            simpa [Act.eval] using this
          · simp only [invoke, e3]
            exact enters_run hen _ _
          · rcases hS.fn f vs H1 v H2 h2 _ W1 vs' S1.rel ((hf.right S1).left (by rw [hH']; exact Nat.le_refl _)) e1 with ⟨v', W2, q1, _⟩ | ⟨_, hcall⟩
            · rw [enters_run hen] at q1
              cases q1
            · refine (hcall _).mono ?_
              rintro x W2 ⟨v', rfl, ρ2, hv2, S2⟩
              have S12 := S1.trans S2
              have hM2 : Marks B ρ2 W2 ({ target := .collected W.heap.size, args := #[] } :: a.defers) (W.heap.size :: Ds) := by
                refine Marks.step S2 (ρ := plus ρ H.length ⟨W.heap.size + 1, none⟩) ⟨rfl, hB, ?_, fun i L hL => ?_, fun hmem => ?_, hM.step S1⟩
                · show ((W.heap.push (.deferred (some []))).push (.loop rec0))[W.heap.size]? = _
                  rw [Array.getElem?_push_lt (by simp)]
                  simp
                · unfold plus at hL
                  split at hL
                  · cases hL; simp
                  · have := (R.lo i L hL).2; omega
                · have := hM.lt _ hmem; omega
              split at h
              · rename_i st pend n' T0 ps' as' bd' hH2
                have hρ2 : ρ2 H.length = some ⟨W.heap.size + 1, none⟩ := by
                  rw [S2.out _ (.inl (by rw [hl1]; omega))]
                  simp [plus]
                obtain ⟨hg, lr, e4, e5, e6, e7, e8, e9, e10, e11, e12, e13, e14⟩ := S2.rel.obj H.length _ _ hH2 hρ2
                split at h
                · cases h
                · rename_i hbusy
                  have hst : lr.state ≠ .busy := by
                    rw [e5]
                    intro q
                    rw [q] at hbusy
                    exact hbusy rfl
                  have hrun := run_endLoop (P := P) e4 hst
                  have S3 : Step P w0 ρ2 ρ2 H2 (H2.set H.length (.loop .exhausted pend n' T0 ps' as' bd')) W2 (W2.putObj (W.heap.size + 1) (.loop { lr with state := .exhausted })) := by
                    refine set_step (L := ⟨W.heap.size + 1, none⟩) S2.rel hH2 trivial hρ2 (by simp) (fun b hb => World.putObj_heap_other hb) ⟨rfl, rfl, rfl⟩ ?_
                    rw [World.putObj_heap_same (S2.rel.lo _ _ hρ2).2]
                    exact ⟨rfl, _, rfl, rfl, e6, e7, e8, e9, e10, e11, e12, e13, e14⟩
                  obtain ⟨W4, hW4⟩ : ∃ W4, W4 = W2.putObj (W.heap.size + 1) (.loop { lr with state := .exhausted }) := ⟨_, rfl⟩
                  rw [← hW4] at hrun S3
                  have S13 := S12.trans S3
                  have hT3 : RelT ρ2 n T a.tmps := hT.mono (S12.mono (hf.left (by rw [hH']; exact Nat.le_refl _)))
                  have hM3 := Marks.step S3 hM2
                  rw [e6] at hrun
                  refine ⟨pend, _, hrun, ?_⟩
                  split at h
                  · cases h
                    exact hQ ρ2 _ _ _ S13 hT3 hM3
                  · cases h
                    exact wpIn_ret (hQ ρ2 { a with defers := [{ target := .collected W.heap.size, args := #[] }] ++ a.defers } _ _ S13 hT3 hM3)
                  · cases h
                    exact wpIn_exit (hQ ρ2 { a with defers := [{ target := .collected W.heap.size, args := #[] }] ++ a.defers } _ _ S13 hT3 hM3)
                  · cases h
              · cases h
    · cases h
  | .scope _, T, H, e, T', H', hc, h, ρ, a, W, Ds, Q, R, hf, hT, hB, hM, hQ => by simp [evCode] at h
  | .goto _, T, H, e, T', H', hc, h, ρ, a, W, Ds, Q, R, hf, hT, hB, hM, hQ => by simp [evCode] at h
  | .refuse _, T, H, e, T', H', hc, h, ρ, a, W, Ds, Q, R, hf, hT, hB, hM, hQ => by simp [evCode] at h
end Go.Am
/- The abstract machine beside the model's: functions, rounds, all calls. -/
namespace Go.Am
variable {P : Program} {w0 : World} {ρ ρ' : Ren} {H H' : AH} {W W' : World} {n m : Nat} {T T' : Fr} {a : Act} {call : CallA} {F : Fence}

def resultOp (tmps : Array Value) : ResultVar → Sem Value
  | .tmp t => pure (tmps.getD t undef)
  | .cell a t => do loadVar t (← asAddr (tmps.getD a undef))

theorem aresult_rel (R : Rel P w0 ρ H W) {tmps : Array Value} (hT : RelT ρ n T tmps) {r : ResultVar} (hr : (match r with | .tmp t => decide (t < n) | .cell a _ => decide (a < n)) = true) {v : Value} (h : aresult P w0 T H r = some v) :
    ∃ v', cv ρ v = some v' ∧ (resultOp tmps r).run P W = .ok v' W := by
  cases r with
  | tmp t =>
    simp only [aresult, Option.some.injEq] at h
    subst h
    exact ⟨_, hT.2 t (by simpa using hr), rfl⟩
  | cell c t =>
    simp only [aresult] at h
    obtain ⟨b, v', h1, h2, h3⟩ := aload_rel R h (hT.2 c (by simpa using hr))
    refine ⟨v', h2, ?_⟩
    simp only [resultOp, h1, asAddr, Sem.run_bind, Sem.run_pure, Result.andThen_ok, h3]

theorem aresultsL_rel (R : Rel P w0 ρ H W) {tmps : Array Value} (hT : RelT ρ n T tmps) : ∀ (rs : List ResultVar), (∀ r ∈ rs, (match r with | .tmp t => decide (t < n) | .cell a _ => decide (a < n)) = true) → ∀ {l : List Value}, aresultsL P w0 T H rs = some l →
    ∃ l', cvL ρ l = some l' ∧ (rs.mapM (resultOp tmps)).run P W = .ok l' W
  | [], _, l, h => by simp only [aresultsL, Option.some.injEq] at h; subst h; exact ⟨[], rfl, by simp⟩
  | r :: rs, hr, l, h => by
    simp only [aresultsL] at h
    split at h
    · rename_i x y hx hy
      cases h
      obtain ⟨x', h1, h2⟩ := aresult_rel R hT (hr r (by simp)) hx
      obtain ⟨y', h3, h4⟩ := aresultsL_rel R hT rs (fun q hq => hr q (by simp [hq])) hy
      exact ⟨x' :: y', cvL_cons.2 ⟨x', y', h1, h3, rfl⟩, by simp [List.mapM_cons, h2, h4]⟩
    · cases h

theorem aresults_rel (R : Rel P w0 ρ H W) {tmps : Array Value} {fn : Func} (hT : RelT ρ n T tmps) (hr : ∀ r ∈ fn.results.toList, (match r with | .tmp t => decide (t < n) | .cell a _ => decide (a < n)) = true) {v : Value} (h : aresults P w0 fn T H = some v) :
    ∃ v', cv ρ v = some v' ∧ (results fn tmps).run P W = .ok v' W := by
  unfold aresults at h
  have key : ∀ l', (fn.results.toList.mapM (resultOp tmps)).run P W = .ok l' W → (results fn tmps).run P W = .ok (if h : (⟨l'⟩ : Array Value).size = 1 then (⟨l'⟩ : Array Value)[0] else .tuple ⟨l'⟩) W := by
    intro l' hl
    have : results fn tmps = (do let vs ← fn.results.mapM (resultOp tmps); pure (if h : vs.size = 1 then vs[0] else .tuple vs)) := by
      unfold results
      congr 1
    rw [this, Array.mapM_eq_mapM_toList]
    simp [hl]
  split at h
  · rename_i x hx
    cases h
    obtain ⟨l', h1, h2⟩ := aresultsL_rel R hT _ hr hx
    obtain ⟨v', y, h3, h4, rfl⟩ := cvL_cons.1 h1
    simp only [cvL, Option.some.injEq] at h4
    subst h4
    exact ⟨v', h3, by rw [key _ h2]; simp⟩
  · rename_i l hne hx
    cases h
    obtain ⟨l', h1, h2⟩ := aresultsL_rel R hT _ hr hx
    refine ⟨.tuple ⟨l'⟩, cv_tuple_mk h1, ?_⟩
    rw [key _ h2]
    have : l'.length ≠ 1 := by
      rw [cvL_length h1]
      intro e
      cases l with
      | nil => simp at e
      | cons x r => cases r with
        | nil => exact hne x rfl
        | cons _ _ => simp at e
    simp [this]
  · cases h

/- the block of a mark is shut -/
theorem Step.park (S : Step P w0 ρ ρ' H H' W W') (h0 : w0.heap.size ≤ W.heap.size) {D : Nat} (hD : W.heap.size ≤ D) (hi : ∀ i L, ρ' i = some L → L.blk ≠ D) (o : Obj) : Step P w0 ρ ρ' H H' W (W'.putObj D o) := by
  have hoth : ∀ b, b ≠ D → (W'.putObj D o).heap[b]? = W'.heap[b]? := fun b hb => World.putObj_heap_other hb
  refine ⟨S.le, S.out, S.new, S.dead, ⟨by simpa using S.rel.size, fun b hb => ?_, fun i L h => by simpa using S.rel.lo i L h, S.rel.inj, fun i q L h1 h2 => ?_⟩, by simpa using S.size, fun b hb hn => ?_, S.env⟩
  · rw [hoth b (by omega)]; exact S.rel.base b hb
  · rw [hoth _ (hi i L h2)]; exact S.rel.obj i q L h1 h2
  · rw [hoth b (by omega)]; exact S.same b hb hn

theorem Marks.put {B D : Nat} {o : Obj} : ∀ {ds : List Deferred} {Ds : List Nat}, D ∉ Ds → Marks B ρ W ds Ds → Marks B ρ (W.putObj D o) ds Ds
  | [], [], _, _ => trivial
  | [], _ :: _, _, h => h.elim
  | _ :: _, [], _, h => h.elim
  | d :: ds, E :: Ds, hn, h => by
    obtain ⟨h1, h2, h3, h4, h5, h6⟩ := h
    refine ⟨h1, h2, ?_, h4, h5, Marks.put (fun q => hn (by simp [q])) h6⟩
    rw [World.putObj_heap_other (fun q => hn (by simp [q]))]
    exact h3

theorem leaves {fn : Func} {tmps : Array Value} (hT : RelT ρ' n T tmps) (hr : ∀ r ∈ fn.results.toList, (match r with | .tmp t => decide (t < n) | .cell a _ => decide (a < n)) = true) {v : Value} (h : aresults P w0 fn T H' = some v) (h0 : w0.heap.size ≤ W.heap.size) :
    ∀ (ds : List Deferred) (Ds : List Nat) (W' : World), Step P w0 ρ ρ' H H' W W' → Marks W.heap.size ρ' W' ds Ds → LeavesInM Fence.wide m P fn tmps (Ret (Post P w0 ρ H H' W v)) ds .returning W'
  | [], _, W', S, _ => by
    obtain ⟨v', h1, h2⟩ := aresults_rel S.rel hT hr h
    exact ⟨v', h2, v', rfl, ρ', h1, S⟩
  | d :: ds, [], W', S, hM => hM.elim
  | d :: ds, D :: Ds, W', S, hM => by
    obtain ⟨h1, h2, h3, h4, h5, h6⟩ := hM
    exact ⟨(fun q => by cases q), .inl ⟨D, _, h1, run_takeDeferred h3, leaves hT hr h h0 ds Ds _ (S.park h0 h2 h4 _) (h6.put h5)⟩⟩

theorem frame0_rel {vs vs' : List Value} (h : cvL ρ vs = some vs') (hl : vs.length ≤ n) : RelT ρ n (frame0 vs) ((⟨vs'⟩ : Array Value) ++ Array.replicate (n - (⟨vs'⟩ : Array Value).size) undef) := by
  have hlen := cvL_length h
  refine ⟨by simp; omega, fun t ht => ?_⟩
  unfold frame0
  by_cases htl : t < vs.length
  · have hv : vs[t]? = some vs[t] := List.getElem?_eq_getElem htl
    obtain ⟨v', h1, h2⟩ := cvL_get t h hv
    have e1 : vs.getD t undef = vs[t] := by simp [List.getD, hv]
    rw [e1, h2]
    have : t < vs'.length := by omega
    congr 1
    simp [Array.getD_eq_getD_getElem?, Array.getElem?_append, this]
    rw [List.getElem?_eq_getElem this] at h1
    cases h1
    rfl
  · have e1 : vs.getD t undef = undef := by simp [List.getD, List.getElem?_eq_none (by omega : vs.length ≤ t)]
    rw [e1, cv_undef]
    have : ¬ t < vs'.length := by omega
    have e2 : ((⟨vs'⟩ : Array Value) ++ Array.replicate (n - (⟨vs'⟩ : Array Value).size) undef).getD t undef = undef := by
      simp only [Array.getD_eq_getD_getElem?, Array.getElem?_append, List.size_toArray, this, if_false, Array.getElem?_replicate]
      split <;> rfl
    rw [e2]

structure OverOk (P : Program) (w0 : World) (O : Over) : Prop where
  len : ∀ call, Sound P w0 call → ∀ f g, O f = some g → ∀ vs H v H', g call vs H = some (v, H') → H.length ≤ H'.length
  fn : ∀ call, Sound P w0 call → ∀ f g, O f = some g → ∀ vs H v H', g call vs H = some (v, H') → ∀ ρ W vs', Rel P w0 ρ H W → Fresh ρ H H' → cvL ρ vs = some vs' → FnOk P f vs' W (Post P w0 ρ H H' W v)

theorem putAll_rel : ∀ (l : List (Tmp × Value)) (l' : List (Tmp × Value)) (T : Fr) (tmps : Array Value), l.map (·.1) = l'.map (·.1) → cvL ρ (l.map (·.2)) = some (l'.map (·.2)) → (∀ p ∈ l, p.1 < n) → RelT ρ n T tmps →
    RelT ρ n (putAllA T l) (l'.foldl (fun tmps (p : Tmp × Value) => tmps.setIfInBounds p.1 p.2) tmps)
  | [], [], T, tmps, _, _, _, hT => hT
  | [], _ :: _, T, tmps, h, _, _, hT => by simp at h
  | _ :: _, [], T, tmps, h, _, _, hT => by simp at h
  | (t, v) :: r, (t', v') :: r', T, tmps, h, hv, hlt, hT => by
    simp only [List.map_cons, List.cons.injEq] at h
    obtain ⟨e1, e2⟩ := h
    obtain ⟨x, y, hx, hy, he⟩ := cvL_cons.1 hv
    simp only [List.map_cons, List.cons.injEq] at he
    obtain ⟨rfl, rfl⟩ := he
    have ht : t < n := hlt (t, v) (by simp)
    simp only [putAllA, List.foldl_cons]
    have h1 := RelT.put (a := { tmps := tmps, defers := [] }) (dst := some t) hT (by simpa using ht) hx
    subst e1
    exact putAll_rel r r' _ _ e2 hy (fun p hp => hlt p (by simp [hp])) h1
end Go.Am
/- The abstract machine beside the model's: all calls. -/
namespace Go.Am
variable {P : Program} {w0 : World} {ρ ρ' : Ren} {H H' : AH} {W W' : World} {n m : Nat} {T T' : Fr} {a : Act} {call : CallA} {F : Fence} {O : Over}

theorem set_len {i : Nat} {o : AObj} : (H.set i o).length = H.length := by simp

theorem yield_rel (hS : Sound P w0 call) (hD : DrawSound P w0 call) {k l n : Nat} {pend : Option Code} {T : Fr} {ps : List Tmp} {assign body : Code} {args : List Value} {T1 : Fr} {H1 : AH} {p1 : Option Code} {n1 : Nat} {T0 : Fr} {ps1 : List Tmp} {a1 b1 : Code}
    {e : Exit} {T2 : Fr} {H2 : AH} {j : Option Code} {st2 : LoopState} {p2 : Option Code} {n2 : Nat} {T3 : Fr} {ps2 : List Tmp} {a2 b2 : Code}
    (h0 : H[l]? = some (.loop .ready pend n T ps assign body)) (hl : args.length = ps.length) (h1 : evCode P w0 call k n assign (putAllA T (ps.zip args)) H = some (.normal, T1, H1)) (h2 : H1[l]? = some (.loop .ready p1 n1 T0 ps1 a1 b1))
    (h3 : evCode P w0 call k n body T1 (H1.set l (.loop .busy p1 n1 T0 ps1 a1 b1)) = some (e, T2, H2)) (hj : jumpOf e = some j) (h4 : H2[l]? = some (.loop st2 p2 n2 T3 ps2 a2 b2))
    {W : World} {args' : List Value} {L : Loc} (R : Rel P w0 ρ H W) (hf : Fresh ρ H (H2.set l (.loop (if j.isNone then .ready else .done) j n2 T3 ps2 a2 b2))) (hargs : cvL ρ args = some args') (hL : ρ l = some L) :
    H.length ≤ H2.length ∧ YieldOk P L.blk args' W (Post P w0 ρ H (H2.set l (.loop (if j.isNone then .ready else .done) j n2 T3 ps2 a2 b2)) W (.bool j.isNone)) := by
  obtain ⟨hg, lr, e1, e2, e3, e4, e5, e6, e7, e8, e9, e10, e11⟩ := R.obj l _ L h0 hL
  have hlen1 := evCode_len hS k assign h1
  have hlen2 := evCode_len hS k body h3
  rw [set_len] at hlen2
  refine ⟨Nat.le_trans hlen1 hlen2, ?_⟩
  have hal := cvL_length hargs
  have hsz : (⟨args'⟩ : Array Value).size = lr.params.size := by
    rw [← Array.length_toList, ← Array.length_toList, e5]
    simp only
    omega
  refine ⟨lr.fn, _, lr.assign, lr.body, run_yield e1 hsz, fun m => ?_⟩
  refine roundIn_of_wpIn trivial ?_
  have hfold : (lr.params.zip (⟨args'⟩ : Array Value)).foldl (fun tmps (x : Tmp × Value) => tmps.setIfInBounds x.1 x.2) lr.tmps = (ps.zip args').foldl (fun tmps (x : Tmp × Value) => tmps.setIfInBounds x.1 x.2) lr.tmps := by
    rw [← Array.foldl_toList, Array.toList_zip, e5]
  have hT0 : RelT ρ n (putAllA T (ps.zip args)) ((lr.params.zip (⟨args'⟩ : Array Value)).foldl (fun tmps (x : Tmp × Value) => tmps.setIfInBounds x.1 x.2) lr.tmps) := by
    rw [hfold]
    refine putAll_rel _ _ _ _ ?_ ?_ ?_ e4
    · rw [List.map_fst_zip (by omega), List.map_fst_zip (by omega)]
    · rw [List.map_snd_zip (by omega), List.map_snd_zip (by omega)]
      exact hargs
    · intro p hp
      exact e10 p.1 (List.of_mem_zip hp).1
  have hfl : Fresh ρ H H1 := fun i a b => hf i a (by rw [set_len]; omega)
  rw [e6]
  refine evCode_rel hS hD k (Open.round L.blk) (.inl rfl) (B := W.heap.size) assign e8 h1 ρ _ W [] _ R hfl hT0 (Nat.le_refl _) trivial (fun ρ1 a1' W1 Ds1 S1 hT1 hM1 => ?_)
  have hL1 : ρ1 l = some L := by
    rw [S1.out l (.inl (List.getElem?_eq_some_iff.1 h0).1)]; exact hL
  obtain ⟨f0, lr1, f1, f2, f3, f4, f5, f6, f7, f8, f9, f10, f11⟩ := S1.rel.obj l _ L h2 hL1
  have hlo1 := (S1.rel.lo l L hL1).2
  refine ⟨_, run_beginRound f1 f2, ?_⟩
  obtain ⟨W1b, hW1b⟩ : ∃ W1b, W1b = W1.putObj L.blk (.loop { lr1 with state := .busy }) := ⟨_, rfl⟩
  have S2 : Step P w0 ρ1 ρ1 H1 (H1.set l (.loop .busy p1 n1 T0 ps1 a1 b1)) W1 W1b := by
    subst hW1b
    refine set_step S1.rel h2 trivial hL1 (by simp) (fun b hb => World.putObj_heap_other hb) ⟨rfl, rfl, rfl⟩ ?_
    rw [World.putObj_heap_same hlo1]
    exact ⟨f0, _, rfl, rfl, f3, f4, f5, f6, f7, f8, f9, f10, f11⟩
  rw [← hW1b, e7]
  have S12 := S1.trans S2
  have hf2 : Fresh ρ1 (H1.set l (.loop .busy p1 n1 T0 ps1 a1 b1)) H2 := fun i a b => by
    rw [set_len] at a
    rw [S1.out i (.inr a)]
    exact hf i (by omega) (by rw [set_len]; exact b)
  refine evCode_rel hS hD k (Open.round L.blk) (.inl rfl) (B := W.heap.size) body e9 h3 ρ1 a1' W1b Ds1 _ S2.rel hf2 hT1 S12.size (hM1.step S2) (fun ρ2 a2' W2 Ds2 S3 hT2 _ => ?_)
  have S13 := S12.trans S3
  have hL2 : ρ2 l = some L := by
    rw [S13.out l (.inl (List.getElem?_eq_some_iff.1 h0).1)]; exact hL
  obtain ⟨g0, lr2, g1, g2, g3, g4, g5, g6, g7, g8, g9, g10, g11⟩ := S3.rel.obj l _ L h4 hL2
  have hlo2 := (S3.rel.lo l L hL2).2
  have hend := run_endRound (P := P) j g1
  have hjp : j = none ∨ j = some .ret ∨ ∃ id, j = some (.exit id) := by
    cases e <;> simp only [jumpOf, Option.some.injEq] at hj <;> first | (subst hj; exact .inl rfl) | (subst hj; exact .inr (.inl rfl)) | (subst hj; exact .inr (.inr ⟨_, rfl⟩)) | (cases hj; done)
  have S4 : Step P w0 ρ2 ρ2 H2 (H2.set l (.loop (if j.isNone then .ready else .done) j n2 T3 ps2 a2 b2)) W2 (W2.putObj L.blk (.loop { lr2 with state := if j.isNone then .ready else .done, pending := j })) := by
    refine set_step S3.rel h4 trivial hL2 (by simp) (fun b hb => World.putObj_heap_other hb) ⟨rfl, rfl, rfl⟩ ?_
    rw [World.putObj_heap_same hlo2]
    exact ⟨g0, _, rfl, rfl, rfl, g4, g5, g6, g7, g8, g9, g10, hjp⟩
  have S14 := S13.trans S4
  have hR : Ret (Post P w0 ρ H (H2.set l (.loop (if j.isNone then .ready else .done) j n2 T3 ps2 a2 b2)) W (.bool j.isNone)) (.returned (.bool j.isNone)) _ := ⟨_, rfl, ρ2, rfl, S14⟩
  cases e <;> simp only [jumpOf, Option.some.injEq] at hj <;> first | (cases hj; done) | (subst hj; exact ⟨_, _, hend, hR⟩)

theorem fn_rel (hS : Sound P w0 call) (hD : DrawSound P w0 call) {k f : Nat} {fn : Func} {c : Code} (hfn : P.funcs[f]? = some fn) (hb : fn.body = some c) (hok : funcOk P fn = true) {args args' : List Value} (hl : args.length ≤ fn.ntmps) {e : Exit}
    (h : evCode P w0 call k fn.ntmps c (frame0 args) H = some (e, T', H')) (he : e = .normal ∨ e = .ret) {v : Value} (hv : aresults P w0 fn T' H' = some v) (R : Rel P w0 ρ H W) (hf : Fresh ρ H H') (hargs : cvL ρ args = some args') :
    FnOk P f args' W (Post P w0 ρ H H' W v) := by
  unfold funcOk at hok
  simp only [Bool.and_eq_true, hb, List.all_eq_true] at hok
  obtain ⟨⟨hc, hnm⟩, hr⟩ := hok
  have hn : fn.name ≠ "runtime.NumGoroutine" := by simpa [named] using hnm
  refine .inr ⟨by simp [callFunc, hfn, hb, hn], fun m => ?_⟩
  refine callsIn_of_wp_marks hfn hb trivial ?_
  refine evCode_rel hS hD k Open.wide (.inr rfl) (B := W.heap.size) c hc h ρ _ W [] _ R hf (frame0_rel hargs hl) (Nat.le_refl _) trivial (fun ρ' a' W' Ds S hT hM => ?_)
  have hr' : ∀ r ∈ fn.results.toList, (match r with | .tmp t => decide (t < fn.ntmps) | .cell a _ => decide (a < fn.ntmps)) = true := fun r hq => by
    have := hr r hq
    cases r <;> exact this
  have := leaves (m := m) hT hr' hv R.size a'.defers Ds W' S hM
  rcases he with rfl | rfl <;> exact this

theorem evCall_sound (hO : OverOk P w0 O) (hD : ∀ call, Sound P w0 call → DrawSound P w0 call) : ∀ k, Sound P w0 (evCall P w0 O k)
  | 0 => ⟨fun _ _ _ _ _ h => by simp [evCall] at h, fun _ _ _ _ _ h => by simp [evCall] at h, fun _ _ _ _ _ h => by simp [evCall] at h⟩
  | k + 1 => by
    have hS := evCall_sound hO hD k
    have hD' : DrawSound P w0 (evCall P w0 O k) := hD _ hS
    -- a function
    have fn : ∀ f vs H v H', evCall P w0 O (k + 1) (.fn f) vs H = some (v, H') → H.length ≤ H'.length ∧ ∀ ρ W vs', Rel P w0 ρ H W → Fresh ρ H H' → cvL ρ vs = some vs' → FnOk P f vs' W (Post P w0 ρ H H' W v) := by
      intro f vs H v H' h
      simp only [evCall] at h
      split at h
      · rename_i g hg
        exact ⟨hO.len _ hS f g hg _ _ _ _ h, hO.fn _ hS f g hg _ _ _ _ h⟩
      · split at h
        · cases h
        · rename_i fn hfn
          split at h
          · cases h
          · rename_i c hb
            split at h
            · rename_i hc
              rw [Bool.and_eq_true] at hc
              have hok := hc.1
              have hl : vs.length ≤ fn.ntmps := by simpa using hc.2
              split at h
              · rename_i T1 H1 h1
                rw [Option.map_eq_some_iff] at h
                obtain ⟨v1, hv, h⟩ := h
                cases h
                exact ⟨evCode_len hS k c h1, fun ρ W vs' R hf hargs => fn_rel hS hD' hfn hb hok hl h1 (.inl rfl) hv R hf hargs⟩
              · rename_i T1 H1 h1
                rw [Option.map_eq_some_iff] at h
                obtain ⟨v1, hv, h⟩ := h
                cases h
                exact ⟨evCode_len hS k c h1, fun ρ W vs' R hf hargs => fn_rel hS hD' hfn hb hok hl h1 (.inr rfl) hv R hf hargs⟩
              · cases h
            · cases h
    have yl : ∀ l vs H v H', evCall P w0 O (k + 1) (.yield l) vs H = some (v, H') → ∃ n pend T ps assign body T1 H1 p1 n1 T0 ps1 a1 b1 e T2 H2 j st2 p2 n2 T3 ps2 a2 b2,
        H[l]? = some (.loop .ready pend n T ps assign body) ∧ vs.length = ps.length ∧ evCode P w0 (evCall P w0 O k) k n assign (putAllA T (ps.zip vs)) H = some (.normal, T1, H1) ∧ H1[l]? = some (.loop .ready p1 n1 T0 ps1 a1 b1) ∧
        evCode P w0 (evCall P w0 O k) k n body T1 (H1.set l (.loop .busy p1 n1 T0 ps1 a1 b1)) = some (e, T2, H2) ∧ jumpOf e = some j ∧ H2[l]? = some (.loop st2 p2 n2 T3 ps2 a2 b2) ∧ v = .bool j.isNone ∧
        H' = H2.set l (.loop (if j.isNone then .ready else .done) j n2 T3 ps2 a2 b2) := by
      intro l vs H v H' h
      simp only [evCall] at h
      split at h
      · rename_i pend n T ps assign body h0
        split at h
        · rename_i hl
          split at h
          · rename_i T1 H1 h1
            split at h
            · rename_i p1 n1 T0 ps1 a1 b1 h2
              split at h
              · rename_i e T2 H2 h3
                split at h
                · rename_i j st2 p2 n2 T3 ps2 a2 b2 hj h4
                  cases h
                  exact ⟨n, pend, T, ps, assign, body, T1, H1, p1, n1, T0, ps1, a1, b1, e, T2, H2, _, st2, p2, n2, T3, ps2, a2, b2, h0, hl, h1, h2, h3, hj, h4, rfl, rfl⟩
                · cases h
              · cases h
            · cases h
          · cases h
        · cases h
      · cases h
    refine ⟨fun tg vs H v H' h => ?_, fun f vs H v H' h => (fn f vs H v H' h).2, fun l vs H v H' h ρ W vs' L R hf hargs hL => ?_⟩
    · cases tg with
      | fn f => exact (fn f vs H v H' h).1
      | yield l =>
        obtain ⟨n, pend, T, ps, assign, body, T1, H1, p1, n1, T0, ps1, a1, b1, e, T2, H2, j, st2, p2, n2, T3, ps2, a2, b2, h0, hl, h1, h2, h3, hj, h4, rfl, rfl⟩ := yl l vs H v H' h
        have l1 := evCode_len hS k assign h1
        have l2 := evCode_len hS k body h3
        rw [set_len] at l2 ⊢
        omega
    · obtain ⟨n, pend, T, ps, assign, body, T1, H1, p1, n1, T0, ps1, a1, b1, e, T2, H2, j, st2, p2, n2, T3, ps2, a2, b2, h0, hl, h1, h2, h3, hj, h4, rfl, rfl⟩ := yl l vs H v H' h
      exact (yield_rel hS hD' h0 hl h1 h2 h3 hj h4 R hf hargs hL).2
end Go.Am
/- The abstract machine beside the model's: what is read, in a memory that has more; on a frame that agrees where it is looked at. -/
namespace Go.Am
variable {P : Program} {w0 : World} {ρ ρ' : Ren} {H H' : AH} {W W' : World} {n m : Nat} {T T' : Fr} {a : Act} {call : CallA} {F : Fence} {O : Over}

def Sub (A B : AH) : Prop := ∀ (i : Nat) (o : AObj), A[i]? = some o → alive o → B[i]? = some o
theorem Sub.trans {A B C : AH} (h : Sub A B) (k : Sub B C) : Sub A C := fun i o ho ha => k i o (h i o ho ha) ha

theorem Sub.cells (hs : Sub H H') {i : Nat} {cs : List Value} {e : TypeId} {g : Bool} (h : H[i]? = some (.cells cs e g)) : H'[i]? = some (.cells cs e g) := hs i _ h trivial
theorem Sub.map (hs : Sub H H') {i : Nat} {es : List MapEntry} {c : Nat} (h : H[i]? = some (.map es c)) : H'[i]? = some (.map es c) := hs i _ h trivial

theorem acell_sub (hs : Sub H H') {x : Addr} {v : Value} : acell w0 H x = some v → acell w0 H' x = some v := by
  unfold acell
  split
  · intro h
    split at h
    · rename_i hq; rw [hs.cells hq]; exact h
    · cases h
  · exact id
  · intro h
    split at h
    · rename_i hq; rw [hs.cells hq]; exact h
    · cases h
  · exact id
theorem acells_sub (hs : Sub H H') {x : Addr} {m : Nat} {v : List Value} : acells w0 H x m = some v → acells w0 H' x m = some v := by
  unfold acells
  split
  · intro h
    split at h
    · rename_i hq; rw [hs.cells hq]; exact h
    · cases h
  · exact id
  · intro h
    split at h
    · rename_i hq; rw [hs.cells hq]; exact h
    · cases h
  · exact id
theorem aload_sub (hs : Sub H H') {t : TypeId} {x v : Value} : aload P w0 H t x = some v → aload P w0 H' t x = some v := by
  unfold aload
  split
  · split
    · exact id
    · split
      · split
        · intro h
          rw [Option.map_eq_some_iff] at h
          obtain ⟨l, h1, h2⟩ := h
          rw [acells_sub hs h1]
          simp [h2]
        · exact id
      · exact acell_sub hs
  · exact id
theorem aconvR_sub (hs : Sub H H') {s d : TypeId} {x v : Value} : aconvR P w0 H s d x = some v → aconvR P w0 H' s d x = some v := by
  unfold aconvR
  split
  · exact id
  · split
    · split
      · exact id
      · intro h
        split at h
        · rename_i h5; rw [acells_sub hs h5]; exact h
        · cases h
    · exact id
  · exact id
  · exact id
theorem alen_sub (hs : Sub H H') {ts : Array TypeId} {l : List Value} {v : Value} : alen P H ts l = some v → alen P H' ts l = some v := by
  unfold alen
  split
  · split <;> try exact id
    intro h
    split at h
    · rename_i hq; rw [hs.map hq]; exact h
    · cases h
  · exact id
theorem acap_sub (hs : Sub H H') {ts : Array TypeId} {l : List Value} {v : Value} : acap P H ts l = some v → acap P H' ts l = some v := by
  unfold acap
  split
  · exact id
  · split
    · split <;> try exact id
      intro h
      split at h
      · rename_i hq; rw [hs.cells hq]; exact h
      · cases h
    · exact id
  · exact id
theorem alookup_sub (hs : Sub H H') {t : TypeId} {x k v : Value} {ok : Bool} : alookup P H t x k ok = some v → alookup P H' t x k ok = some v := by
  unfold alookup
  split
  · cases x with
    | map r =>
      cases r with
      | none => exact id
      | some r =>
        intro h
        simp only at h ⊢
        cases hq : H[r]? with
        | none => rw [hq] at h; cases h
        | some o =>
          rw [hq] at h
          cases o with
          | map es c => rw [hs.map hq]; exact h
          | _ => cases h
    | _ => exact id
  · exact id
theorem aslice_sub (hs : Sub H H') {t : TypeId} {x v : Value} {lo hi mx : Option Value} : aslice P H t x lo hi mx = some v → aslice P H' t x lo hi mx = some v := by
  unfold aslice
  split <;> try exact id
  split
  · exact id
  · split <;> try exact id
    intro h
    split at h
    · rename_i hq; rw [hs.cells hq]; exact h
    · rename_i hq; rw [hs.cells hq]; exact h
    · cases h

theorem aentry_sub (hs : Sub H H') {it v : Value} : aentry H it = some v → aentry H' it = some v := by
  unfold aentry
  split <;> try exact id
  intro h
  split at h
  · rename_i m since seen last hH
    rw [hs _ _ hH trivial]
    simp only
    split at h
    · rename_i es clk stamp hm hse
      rw [hs.map hm, hse]
      exact h
    · cases h
  · cases h
theorem aread_sub (hs : Sub H H') {o : Oper} {v : Value} : aread P w0 o T H = some v → aread P w0 o T H' = some v := by
  unfold aread
  split <;> try exact id
  · exact aload_sub hs
  · exact aconvR_sub hs
  · exact aslice_sub hs
  · exact alookup_sub hs
  · exact aentry_sub hs
  · split <;> try exact id
    · exact alen_sub hs
    · exact acap_sub hs
theorem aread_flat {o : Oper} (h : heapy o = false) : aread P w0 o T H = aread P w0 o T H' := by
  unfold heapy at h
  unfold aread
  split <;> first | rfl | (rename_i hq; rw [hq] at h; cases h)

/- frames that agree where an operation looks -/
def Agree (o : Oper) (T T' : Fr) : Prop := ∀ x ∈ o.op.operands.toList, aev T x = aev T' x
theorem map_aev {l : Array Operand} (h : ∀ x ∈ l.toList, aev T x = aev T' x) : l.map (aev T) = l.map (aev T') := by
  apply Array.ext'
  rw [Array.toList_map, Array.toList_map]
  exact List.map_congr_left h
theorem parts_aev {l : Array (Nat × Operand)} (h : ∀ p ∈ l.toList, aev T p.2 = aev T' p.2) : (l.map fun (i, x) => (i, aev T x)) = l.map fun (i, x) => (i, aev T' x) := by
  apply Array.ext'
  rw [Array.toList_map, Array.toList_map]
  exact List.map_congr_left (fun p hp => by have := h p hp; obtain ⟨i, x⟩ := p; simp only at this ⊢; rw [this])
theorem opt_aev {x : Option Operand} (h : ∀ y, x = some y → aev T y = aev T' y) : x.map (aev T) = x.map (aev T') := by
  cases x with
  | none => rfl
  | some y => simp [h y rfl]

theorem aread_congr {o : Oper} (h : Agree o T T') : aread P w0 o T H = aread P w0 o T' H := by
  obtain ⟨dst, op, ty, pos, after, guard⟩ := o
  unfold Agree at h
  unfold aread
  cases op <;> simp only [Op.operands] at h ⊢ <;> try rfl
  case move x => rw [h x (by simp)]
  case assign x => rw [h x (by simp)]
  case pick c x y => rw [h x (by simp), h y (by simp), h c (by simp)]
  case build t parts => rw [parts_aev (fun p hp => h p.2 (by simp; exact ⟨p.1, by simpa using hp⟩))]
  case load t x => rw [h x (by simp)]
  case nilCheck x => rw [h x (by simp)]
  case binOp op t x y yt => rw [h x (by simp), h y (by simp)]
  case unOp op t x => rw [h x (by simp)]
  case convert s d x => rw [h x (by simp)]
  case makeInterface t x => rw [h x (by simp)]
  case makeFunc fn first cap => cases fn <;> try rfl
                                simp only [map_aev (l := first) (fun x hx => h x (by simp at hx ⊢; exact .inl hx)), map_aev (l := cap) (fun x hx => h x (by simp at hx ⊢; exact .inr hx))]
  case slice t x lo hi mx => rw [h x (by simp), opt_aev (x := lo) (fun y hy => h y (by subst hy; simp)), opt_aev (x := hi) (fun y hy => h y (by subst hy; simp)), opt_aev (x := mx) (fun y hy => h y (by subst hy; simp))]
  case fieldAddr s x f => rw [h x (by simp)]
  case field t x f => rw [h x (by simp)]
  case indexAddr t x i => rw [h x (by simp), h i (by simp)]
  case index t x i => rw [h x (by simp), h i (by simp)]
  case lookup t x k ok => rw [h x (by simp), h k (by simp)]
  case extract x i => rw [h x (by simp)]
  case entry it => rw [h it (by simp)]
  case call c =>
    obtain ⟨callee, args, ats⟩ := c
    simp only [map_aev (l := args) (fun x hx => h x (by cases callee <;> simp [Call.operands] <;> simp at hx <;> first | exact hx | exact .inr hx))]
theorem aalloc_congr {o : Oper} (h : Agree o T T') : aalloc P o T = aalloc P o T' := by
  obtain ⟨dst, op, ty, pos, after, guard⟩ := o
  unfold Agree at h
  unfold aalloc
  cases op <;> simp only [Op.operands] at h ⊢ <;> try rfl
  case box e x => rw [h x (by simp)]
  case buildSlice t len parts => rw [parts_aev (fun p hp => h p.2 (by simp; exact ⟨p.1, by simpa using hp⟩))]
  case makeSlice t l c => rw [h l (by simp), h c (by simp)]
  case makeMap t r => cases r with
    | none => rfl
    | some x => simp only; rw [h x (by simp)]
  case convert s d x => rw [h x (by simp)]
  case range t x => rw [h x (by simp)]
theorem awrite_congr {o : Oper} (h : Agree o T T') : awrite P w0 o T H = awrite P w0 o T' H := by
  obtain ⟨dst, op, ty, pos, after, guard⟩ := o
  unfold Agree at h
  unfold awrite
  cases op <;> simp only [Op.operands] at h ⊢ <;> try rfl
  case store t x y => rw [h x (by simp), h y (by simp)]
  case mapUpdate t m k x => rw [h m (by simp), h k (by simp), h x (by simp)]
  case insert t m k x => rw [h m (by simp), h k (by simp), h x (by simp)]
  case mapEntry t m k => rw [h m (by simp), h k (by simp)]
  case entryStore t m s x => rw [h m (by simp), h s (by simp), h x (by simp)]
  case next it isS => rw [h it (by simp)]
  case range t x => rw [h x (by simp)]
  case call c =>
    obtain ⟨callee, args, ats⟩ := c
    simp only [map_aev (l := args) (fun x hx => h x (by cases callee <;> simp [Call.operands] <;> simp at hx <;> first | exact hx | exact .inr hx))]
theorem acall_congr {o : Oper} (h : Agree o T T') : acall call o T H = acall call o T' H := by
  obtain ⟨dst, op, ty, pos, after, guard⟩ := o
  unfold Agree at h
  unfold acall
  cases op <;> simp only [Op.operands] at h ⊢ <;> try rfl
  case call c =>
    obtain ⟨callee, args, ats⟩ := c
    cases callee <;> try rfl
    rename_i f
    simp only [map_aev (l := args) (fun x hx => h x (by simp [Call.operands]; simp at hx; exact .inr hx)), h f (by simp [Call.operands])]
theorem astep_congr {o : Oper} (h : Agree o T T') : astep P w0 call o T H = astep P w0 call o T' H := by
  unfold astep
  rw [aread_congr h, aalloc_congr h, awrite_congr h, acall_congr h]
end Go.Am
/- The abstract machine beside the model's: what the walk of a region whose order is open has looked at. -/
namespace Go.Am
variable {P : Program} {w0 : World} {ρ ρ' : Ren} {H H' : AH} {W W' : World} {n m : Nat} {T T' : Fr} {a : Act} {call : CallA} {F : Fence} {O : Over}

mutual
theorem veq_eq : ∀ (a b : Value), veq a b = true → a = b
  | .func f ⟨x⟩ ⟨y⟩, b, h => by
    cases b <;> simp only [veq] at h <;> try (cases h; done)
    rename_i g u v
    obtain ⟨u⟩ := u
    obtain ⟨v⟩ := v
    simp only [veq, Bool.and_eq_true, beq_iff_eq] at h
    rw [h.1.1, veqL_eq x u h.1.2, veqL_eq y v h.2]
  | .iface t v, b, h => by
    cases b <;> simp only [veq] at h <;> try (cases h; done)
    rename_i u w
    simp only [Bool.and_eq_true, beq_iff_eq] at h
    rw [h.1, veq_eq v w h.2]
  | .agg ⟨x⟩, b, h => by
    cases b <;> simp only [veq] at h <;> try (cases h; done)
    rename_i y
    obtain ⟨y⟩ := y
    simp only [veq] at h
    rw [veqL_eq x y h]
  | .tuple ⟨x⟩, b, h => by
    cases b <;> simp only [veq] at h <;> try (cases h; done)
    rename_i y
    obtain ⟨y⟩ := y
    simp only [veq] at h
    rw [veqL_eq x y h]
  | .bool a, b, h => by cases b <;> simp only [veq] at h <;> first | (cases h; done) | (simp at h; rw [h])
  | .int k a, b, h => by cases b <;> simp only [veq] at h <;> first | (cases h; done) | (simp at h; rw [h.1, h.2])
  | .string a, b, h => by cases b <;> simp only [veq] at h <;> first | (cases h; done) | (simp at h; rw [h])
  | .pointer a, b, h => by cases b <;> simp only [veq] at h <;> first | (cases h; done) | (simp at h; rw [h])
  | .slice a n c, b, h => by cases b <;> simp only [veq] at h <;> first | (cases h; done) | (simp at h; rw [h.1.1, h.1.2, h.2])
  | .map a, b, h => by cases b <;> simp only [veq] at h <;> first | (cases h; done) | (simp at h; rw [h])
  | .nilFunc, b, h => by cases b <;> simp only [veq] at h <;> first | (cases h; done) | rfl
  | .nilIface, b, h => by cases b <;> simp only [veq] at h <;> first | (cases h; done) | rfl
  | .float _ _, b, h => by cases b <;> simp [veq] at h
  | .complex _ _ _, b, h => by cases b <;> simp [veq] at h
  | .chan _, b, h => by cases b <;> simp [veq] at h
theorem veqL_eq : ∀ (a b : List Value), veqL a b = true → a = b
  | [], [], _ => rfl
  | [], _ :: _, h => by simp [veqL] at h
  | _ :: _, [], h => by simp [veqL] at h
  | x :: r, y :: s, h => by
    simp only [veqL, Bool.and_eq_true] at h
    rw [veq_eq x y h.1, veqL_eq r s h.2]
end
theorem chk_eq {o : Option Value} {u : Value} (h : chk o u = true) : o = some u := by
  cases o with
  | none => cases h
  | some v => rw [veq_eq v u h]
theorem oeq_eq {x : Option AObj} {y : AObj} (h : oeq x (some y) = true) : x = some y := by
  unfold oeq at h
  split at h
  · rename_i e1 e2
    cases e2
    simp only [Bool.and_eq_true, beq_iff_eq] at h
    rw [veqL_eq _ _ h.1.1, h.1.2, h.2]
  · rename_i e1 e2
    cases e2
    simp only [Bool.and_eq_true, beq_iff_eq, decide_eq_true_eq] at h
    rw [h.1, h.2]
  · rename_i e1 e2
    cases e2
    simp only [beq_iff_eq] at h
    rw [h]
  · cases h

section
variable (P : Program) (w0 : World) (call : CallA) (ops : Array Oper) (bef : Array Nat) (TT : Nat → Fr) (HH : Nat → AH) (vv : Nat → Value)
def wnt (i : Nat) : Prop := awanted ops (opAt ops i) (TT i) = true
def AllocAt (j id : Nat) (ob : AObj) : Prop := awanted ops (opAt ops j) (TT j) = true ∧ clsOf P (opAt ops j) = .alloc ∧ (∃ mk, aalloc P (opAt ops j) (TT j) = some (ob, mk)) ∧ id = (HH j).length
def Good (base : AH) (i j : Nat) (A : AH) : Prop := ∀ (id : Nat) (o : AObj), A[id]? = some o → alive o → base[id]? = some o ∨ ∃ j', i ≤ j' ∧ j' < j ∧ AllocAt P ops TT HH j' id o
def StepAt (j : Nat) : Prop := TT (j + 1) = aput (TT j) (opAt ops j).dst (vv j) ∧
  (if awanted ops (opAt ops j) (TT j) then astep P w0 call (opAt ops j) (TT j) (HH j) = some (vv j, HH (j + 1)) else vv j = undef ∧ HH (j + 1) = HH j)
def HRead (j : Nat) : Prop := awanted ops (opAt ops j) (TT j) = true ∧ clsOf P (opAt ops j) = .read ∧ heapy (opAt ops j) = true
def WAt (w : Nat) : Prop := awanted ops (opAt ops w) (TT w) = true ∧ isW P (opAt ops w) = true
structure Facts (i : Nat) (hist : List (Nat × AH)) (reads : List (Nat × (AH → Bool))) : Prop where
  step : ∀ j, i ≤ j → j < ops.size → StepAt P w0 call ops TT HH vv j
  reads : ∀ w, i ≤ w → w < ops.size → WAt P ops TT w → ∀ p ∈ reads, beforeB bef w p.1 = true ∨ p.2 (HH (w + 1)) = true
  hist : ∀ j, i ≤ j → j < ops.size → HRead P ops TT j → ∀ p ∈ hist, beforeB bef j p.1 = true ∨ ∃ A, Good P ops TT HH p.2 i j A ∧ aread P w0 (opAt ops j) (TT j) A = some (vv j)
  readW : ∀ j w, i ≤ j → j < w → w < ops.size → WAt P ops TT w → HRead P ops TT j → beforeB bef w j = true ∨ aread P w0 (opAt ops j) (TT j) (HH (w + 1)) = some (vv j)
  allocW : ∀ j w, i ≤ j → j < w → w < ops.size → WAt P ops TT w → ∀ id ob, AllocAt P ops TT HH j id ob → beforeB bef w j = true ∨ (HH (w + 1))[id]? = some ob
  wRead : ∀ w j, i ≤ w → w < j → j < ops.size → WAt P ops TT w → HRead P ops TT j → beforeB bef j w = true ∨ ∃ A, Good P ops TT HH (HH w) w j A ∧ aread P w0 (opAt ops j) (TT j) A = some (vv j)
end
end Go.Am
/- The abstract machine beside the model's: the walk of a region whose order is open, all that it has found. -/
namespace Go.Am
variable {P : Program} {w0 : World} {ρ ρ' : Ren} {H H' : AH} {W W' : World} {n m : Nat} {T T' : Fr} {a : Act} {call : CallA} {F : Fence} {O : Over}

section
variable (P : Program) (w0 : World) (call : CallA) (ops : Array Oper) (T0 : Fr) (H0 : AH)
def run1 (o : Oper) (T : Fr) (H : AH) : Value × AH :=
  if awanted ops o T then
    match astep P w0 call o T H with
    | some p => p
    | none => (undef, H)
  else (undef, H)
def stD : Nat → Fr × AH
  | 0 => (T0, H0)
  | j + 1 => (aput (stD j).1 (opAt ops j).dst (run1 P w0 call ops (opAt ops j) (stD j).1 (stD j).2).1, (run1 P w0 call ops (opAt ops j) (stD j).1 (stD j).2).2)
def tD (j : Nat) : Fr := (stD P w0 call ops T0 H0 j).1
def hD (j : Nat) : AH := (stD P w0 call ops T0 H0 j).2
def vD (j : Nat) : Value := (run1 P w0 call ops (opAt ops j) (tD P w0 call ops T0 H0 j) (hD P w0 call ops T0 H0 j)).1
end
variable {ops : Array Oper} {bef : Array Nat} {T0 : Fr} {H0 : AH}

theorem st_some {i : Nat} {v : Value} {H1 : AH} (hw : awanted ops (opAt ops i) (tD P w0 call ops T0 H0 i) = true) (h : astep P w0 call (opAt ops i) (tD P w0 call ops T0 H0 i) (hD P w0 call ops T0 H0 i) = some (v, H1)) :
    vD P w0 call ops T0 H0 i = v ∧ hD P w0 call ops T0 H0 (i + 1) = H1 ∧ tD P w0 call ops T0 H0 (i + 1) = aput (tD P w0 call ops T0 H0 i) (opAt ops i).dst v ∧ StepAt P w0 call ops (tD P w0 call ops T0 H0) (hD P w0 call ops T0 H0) (vD P w0 call ops T0 H0) i := by
  have e1 : run1 P w0 call ops (opAt ops i) (tD P w0 call ops T0 H0 i) (hD P w0 call ops T0 H0 i) = (v, H1) := by unfold run1; rw [if_pos hw, h]
  have h1 : vD P w0 call ops T0 H0 i = v := by unfold vD; rw [e1]
  have h2 : hD P w0 call ops T0 H0 (i + 1) = H1 := by
    show (run1 P w0 call ops (opAt ops i) (tD P w0 call ops T0 H0 i) (hD P w0 call ops T0 H0 i)).2 = H1
    rw [e1]
  have h3 : tD P w0 call ops T0 H0 (i + 1) = aput (tD P w0 call ops T0 H0 i) (opAt ops i).dst v := by
    show aput (tD P w0 call ops T0 H0 i) (opAt ops i).dst (run1 P w0 call ops (opAt ops i) (tD P w0 call ops T0 H0 i) (hD P w0 call ops T0 H0 i)).1 = _
    rw [e1]
  refine ⟨h1, h2, h3, ?_, ?_⟩
  · rw [h1]; exact h3
  · rw [if_pos hw, h1, h2]; exact h
theorem st_none {i : Nat} (hw : awanted ops (opAt ops i) (tD P w0 call ops T0 H0 i) = false) :
    vD P w0 call ops T0 H0 i = undef ∧ hD P w0 call ops T0 H0 (i + 1) = hD P w0 call ops T0 H0 i ∧ tD P w0 call ops T0 H0 (i + 1) = aput (tD P w0 call ops T0 H0 i) (opAt ops i).dst undef ∧ StepAt P w0 call ops (tD P w0 call ops T0 H0) (hD P w0 call ops T0 H0) (vD P w0 call ops T0 H0) i := by
  have e1 : run1 P w0 call ops (opAt ops i) (tD P w0 call ops T0 H0 i) (hD P w0 call ops T0 H0 i) = (undef, hD P w0 call ops T0 H0 i) := by unfold run1; rw [if_neg (by simp [hw])]
  have h1 : vD P w0 call ops T0 H0 i = undef := by unfold vD; rw [e1]
  have h2 : hD P w0 call ops T0 H0 (i + 1) = hD P w0 call ops T0 H0 i := by
    show (run1 P w0 call ops (opAt ops i) (tD P w0 call ops T0 H0 i) (hD P w0 call ops T0 H0 i)).2 = _
    rw [e1]
  have h3 : tD P w0 call ops T0 H0 (i + 1) = aput (tD P w0 call ops T0 H0 i) (opAt ops i).dst undef := by
    show aput (tD P w0 call ops T0 H0 i) (opAt ops i).dst (run1 P w0 call ops (opAt ops i) (tD P w0 call ops T0 H0 i) (hD P w0 call ops T0 H0 i)).1 = _
    rw [e1]
  refine ⟨h1, h2, h3, ?_, ?_⟩
  · rw [h1]; exact h3
  · rw [if_neg (by simp [hw])]; exact ⟨h1, h2⟩

theorem Good.weak {TT : Nat → Fr} {HH : Nat → AH} {base A : AH} {i j : Nat} (h : Good P ops TT HH base (i + 1) j A) : Good P ops TT HH base i j A := by
  intro id o h1 h2
  rcases h id o h1 h2 with h | ⟨j', h3, h4, h5⟩
  · exact .inl h
  · exact .inr ⟨j', by omega, h4, h5⟩

/- the pieces that all cases share -/
theorem Facts.back {TT : Nat → Fr} {HH : Nat → AH} {vv : Nat → Value} {i : Nat} {hist hist' : List (Nat × AH)} {reads reads' : List (Nat × (AH → Bool))} (hF : Facts P w0 call ops bef TT HH vv (i + 1) hist' reads')
    (hst : StepAt P w0 call ops TT HH vv i) (hsub : ∀ p ∈ reads, p ∈ reads')
    (hW : WAt P ops TT i → ∀ p ∈ reads, beforeB bef i p.1 = true ∨ p.2 (HH (i + 1)) = true)
    (hR : HRead P ops TT i → ∀ p ∈ hist, beforeB bef i p.1 = true ∨ aread P w0 (opAt ops i) (TT i) p.2 = some (vv i))
    (hh : ∀ p ∈ hist, ∃ q ∈ hist', p.1 = q.1 ∧ ∀ j A, Good P ops TT HH q.2 (i + 1) j A → i < j → Good P ops TT HH p.2 i j A)
    (hRW : HRead P ops TT i → ∃ q ∈ reads', q.1 = i ∧ ∀ H, q.2 H = true → aread P w0 (opAt ops i) (TT i) H = some (vv i))
    (hA : ∀ id ob, AllocAt P ops TT HH i id ob → ∃ q ∈ reads', q.1 = i ∧ ∀ H, q.2 H = true → H[id]? = some ob)
    (hWR : WAt P ops TT i → ∃ q ∈ hist', q.1 = i ∧ q.2 = HH i) : Facts P w0 call ops bef TT HH vv i hist reads := by
  refine ⟨fun j h1 h2 => ?_, fun w h1 h2 h3 p hp => ?_, fun j h1 h2 h3 p hp => ?_, fun j w h1 h2 h3 h4 h5 => ?_, fun j w h1 h2 h3 h4 id ob h5 => ?_, fun w j h1 h2 h3 h4 h5 => ?_⟩
  · by_cases e : j = i
    · subst e; exact hst
    · exact hF.step j (by omega) h2
  · by_cases e : w = i
    · subst e; exact hW h3 p hp
    · exact hF.reads w (by omega) h2 h3 p (hsub p hp)
  · by_cases e : j = i
    · subst e
      rcases hR h3 p hp with h | h
      · exact .inl h
      · exact .inr ⟨p.2, fun id o h1 _ => .inl h1, h⟩
    · obtain ⟨q, hq, e1, e2⟩ := hh p hp
      rcases hF.hist j (by omega) h2 h3 q hq with h | ⟨A, h4, h5⟩
      · rw [e1]; exact .inl h
      · exact .inr ⟨A, e2 j A h4 (by omega), h5⟩
  · by_cases e : j = i
    · subst e
      obtain ⟨q, hq, e1, e2⟩ := hRW h5
      rcases hF.reads w (by omega) h3 h4 q hq with h | h
      · rw [e1] at h; exact .inl h
      · exact .inr (e2 _ h)
    · exact hF.readW j w (by omega) h2 h3 h4 h5
  · by_cases e : j = i
    · subst e
      obtain ⟨q, hq, e1, e2⟩ := hA id ob h5
      rcases hF.reads w (by omega) h3 h4 q hq with h | h
      · rw [e1] at h; exact .inl h
      · exact .inr (e2 _ h)
    · exact hF.allocW j w (by omega) h2 h3 h4 id ob h5
  · by_cases e : w = i
    · subst e
      obtain ⟨q, hq, e1, e2⟩ := hWR h4
      rcases hF.hist j (by omega) h3 h5 q hq with h | ⟨A, h6, h7⟩
      · rw [e1] at h; exact .inl h
      · rw [e2] at h6; exact .inr ⟨A, h6.weak, h7⟩
    · exact hF.wRead w j (by omega) h2 h3 h4 h5

theorem isW_cls {o : Oper} : isW P o = true ↔ clsOf P o = .write ∨ clsOf P o = .call := by
  unfold isW
  cases clsOf P o <;> simp

theorem evD_facts (hS : Sound P w0 call) : ∀ (r : List Oper) (i : Nat) (T : Fr) (H : AH) (hist : List (Nat × AH)) (reads : List (Nat × (AH → Bool))) (T' : Fr) (H' : AH), ops.toList.drop i = r → i ≤ ops.size → tD P w0 call ops T0 H0 i = T → hD P w0 call ops T0 H0 i = H →
    (∀ p ∈ hist, p.2.length ≤ H.length) → evD P w0 call ops bef r i T H hist reads = some (T', H') →
    tD P w0 call ops T0 H0 ops.size = T' ∧ hD P w0 call ops T0 H0 ops.size = H' ∧ Facts P w0 call ops bef (tD P w0 call ops T0 H0) (hD P w0 call ops T0 H0) (vD P w0 call ops T0 H0) i hist reads
  | [], i, T, H, hist, reads, T', H', hr, hi, hT, hH, hl, h => by
    have hsz : i = ops.size := by
      have := congrArg List.length hr
      simp at this
      omega
    subst hsz
    simp only [evD, Option.some.injEq] at h
    cases h
    exact ⟨hT, hH, fun j h1 h2 => by omega, fun w h1 h2 => by omega, fun j h1 h2 => by omega, fun j w h1 h2 h3 => by omega, fun j w h1 h2 h3 => by omega, fun w j h1 h2 h3 => by omega⟩
  | o :: r, i, T, H, hist, reads, T', H', hr, hi, hT, hH, hl, h => by
    have hlt : i < ops.size := by
      have := congrArg List.length hr
      simp at this
      omega
    have ho : opAt ops i = o := by
      have : (ops.toList.drop i)[0]? = some o := by rw [hr]; rfl
      have : ops[i]? = some o := by simpa using this
      simp [opAt, Array.getD_eq_getD_getElem?, this]
    have hr' : ops.toList.drop (i + 1) = r := by
      have : (ops.toList.drop i).drop 1 = r := by rw [hr]; rfl
      rwa [List.drop_drop] at this
    simp only [evD] at h
    split at h
    · rename_i hw
      have hw' : awanted ops (opAt ops i) (tD P w0 call ops T0 H0 i) = true := by rw [ho, hT]; exact hw
      split at h
      · rename_i hcls
        split at h
        · cases h
        · rename_i v hv
          have hstep : astep P w0 call (opAt ops i) (tD P w0 call ops T0 H0 i) (hD P w0 call ops T0 H0 i) = some (v, H) := by
            rw [ho, hT, hH]; unfold astep; rw [hcls, hv]; rfl
          obtain ⟨e1, e2, e3, e4⟩ := st_some hw' hstep
          rw [ho, hT] at e3
          have notW : ¬ WAt P ops (tD P w0 call ops T0 H0) i := fun q => by
            have := isW_cls.1 q.2
            rw [ho, hcls] at this
            rcases this with h | h <;> cases h
          have notA : ∀ id ob, ¬ AllocAt P ops (tD P w0 call ops T0 H0) (hD P w0 call ops T0 H0) i id ob := fun id ob q => by
            have := q.2.1
            rw [ho, hcls] at this
            cases this
          split at h
          · rename_i hheap
            split at h
            · rename_i hchk
              obtain ⟨f1, f2, f3⟩ := evD_facts hS r (i + 1) _ _ _ _ _ _ hr' hlt e3 e2 hl h
              refine ⟨f1, f2, f3.back e4 (fun p hp => by simp [hp]) (fun q => (notW q).elim) (fun _ p hp => ?_) (fun p hp => ⟨p, hp, rfl, fun j A hg _ => hg.weak⟩) (fun _ => ⟨_, List.mem_cons_self .., rfl, fun H hq => ?_⟩) (fun id ob q => (notA id ob q).elim) (fun q => (notW q).elim)⟩
              · have := List.all_eq_true.1 hchk p hp
                rw [Bool.or_eq_true] at this
                rcases this with h | h
                · exact .inl h
                · right; rw [ho, hT, e1]; exact chk_eq h
              · rw [ho, hT, e1]; exact chk_eq hq
            · cases h
          · rename_i hheap
            have notR : ¬ HRead P ops (tD P w0 call ops T0 H0) i := fun q => hheap (by have := q.2.2; rwa [ho] at this)
            obtain ⟨f1, f2, f3⟩ := evD_facts hS r (i + 1) _ _ _ _ _ _ hr' hlt e3 e2 hl h
            exact ⟨f1, f2, f3.back e4 (fun p hp => hp) (fun q => (notW q).elim) (fun q => (notR q).elim) (fun p hp => ⟨p, hp, rfl, fun j A hg _ => hg.weak⟩) (fun q => (notR q).elim) (fun id ob q => (notA id ob q).elim) (fun q => (notW q).elim)⟩
      · rename_i hcls
        split at h
        · cases h
        · rename_i p hp
          have hstep : astep P w0 call (opAt ops i) (tD P w0 call ops T0 H0 i) (hD P w0 call ops T0 H0 i) = some (p.2 H.length, H ++ [p.1]) := by
            rw [ho, hT, hH]; unfold astep; rw [hcls, hp]; rfl
          obtain ⟨e1, e2, e3, e4⟩ := st_some hw' hstep
          rw [ho, hT] at e3
          have notW : ¬ WAt P ops (tD P w0 call ops T0 H0) i := fun q => by
            have := isW_cls.1 q.2
            rw [ho, hcls] at this
            rcases this with h | h <;> cases h
          have notR : ¬ HRead P ops (tD P w0 call ops T0 H0) i := fun q => by
            have := q.2.1
            rw [ho, hcls] at this
            cases this
          have hal : AllocAt P ops (tD P w0 call ops T0 H0) (hD P w0 call ops T0 H0) i H.length p.1 := ⟨hw', by rw [ho, hcls], ⟨p.2, by rw [ho, hT, hp]⟩, by rw [hH]⟩
          obtain ⟨f1, f2, f3⟩ := evD_facts hS r (i + 1) _ _ _ _ _ _ hr' hlt e3 e2 (fun q hq => by
            obtain ⟨q0, hq0, rfl⟩ := List.mem_map.1 hq
            have := hl q0 hq0
            simp [padTo]
            omega) h
          refine ⟨f1, f2, f3.back e4 (fun q hq => by simp [hq]) (fun q => (notW q).elim) (fun q => (notR q).elim) (fun q hq => ⟨_, List.mem_map.2 ⟨q, hq, rfl⟩, rfl, fun j A hg hij => ?_⟩) (fun q => (notR q).elim) (fun id ob q => ⟨_, List.mem_cons_self .., rfl, fun H1 hq => ?_⟩) (fun q => (notW q).elim)⟩
          · intro id ob h1 h2
            rcases hg id ob h1 h2 with h3 | ⟨j', h3, h4, h5⟩
            · have hlq := hl q hq
              have hlp : (padTo q.2 H.length).length = H.length := by simp [padTo]; omega
              by_cases hid : id < H.length
              · simp only at h3
                rw [List.getElem?_append_left (by omega)] at h3
                unfold padTo at h3
                by_cases hid2 : id < q.2.length
                · rw [List.getElem?_append_left hid2] at h3; exact .inl h3
                · rw [List.getElem?_append_right (by omega), List.getElem?_replicate] at h3
                  split at h3
                  · cases h3; exact h2.elim
                  · cases h3
              · simp only at h3
                rw [List.getElem?_append_right (by omega)] at h3
                have hz : id - (padTo q.2 H.length).length = 0 := by
                  have := (List.getElem?_eq_some_iff.1 h3).1
                  simp at this
                  omega
                rw [hz] at h3
                simp only [List.getElem?_cons_zero, Option.some.injEq] at h3
                subst h3
                have : id = H.length := by omega
                rw [this]
                exact .inr ⟨i, Nat.le_refl _, hij, hal⟩
            · exact .inr ⟨j', by omega, h4, h5⟩
          · obtain ⟨_, _, ⟨mk, h3⟩, h4⟩ := q
            rw [ho, hT, hp] at h3
            cases h3
            rw [h4, hH]
            exact oeq_eq hq
      · rename_i hcls
        split at h
        · cases h
        · rename_i v H1 hv
          have hstep : astep P w0 call (opAt ops i) (tD P w0 call ops T0 H0 i) (hD P w0 call ops T0 H0 i) = some (v, H1) := by
            rw [ho, hT, hH]; unfold astep; rw [hcls]; exact hv
          obtain ⟨e1, e2, e3, e4⟩ := st_some hw' hstep
          rw [ho, hT] at e3
          have notR : ¬ HRead P ops (tD P w0 call ops T0 H0) i := fun q => by
            have := q.2.1
            rw [ho, hcls] at this
            cases this
          have notA : ∀ id ob, ¬ AllocAt P ops (tD P w0 call ops T0 H0) (hD P w0 call ops T0 H0) i id ob := fun id ob q => by
            have := q.2.1
            rw [ho, hcls] at this
            cases this
          have hlen := awrite_len hv
          split at h
          · rename_i hchk
            obtain ⟨f1, f2, f3⟩ := evD_facts hS r (i + 1) _ _ _ _ _ _ hr' hlt e3 e2 (fun q hq => by
              rcases List.mem_cons.1 hq with rfl | hq
              · exact hlen
              · exact Nat.le_trans (hl q hq) hlen) h
            refine ⟨f1, f2, f3.back e4 (fun q hq => hq) (fun _ p hp => ?_) (fun q => (notR q).elim) (fun p hp => ⟨p, by simp [hp], rfl, fun j A hg _ => hg.weak⟩) (fun q => (notR q).elim) (fun id ob q => (notA id ob q).elim) (fun _ => ⟨_, List.mem_cons_self .., rfl, hH.symm⟩)⟩
            have := List.all_eq_true.1 hchk p hp
            rw [Bool.or_eq_true] at this
            rw [e2]
            exact this
          · cases h
      · rename_i hcls
        split at h
        · cases h
        · rename_i v H1 hv
          have hstep : astep P w0 call (opAt ops i) (tD P w0 call ops T0 H0 i) (hD P w0 call ops T0 H0 i) = some (v, H1) := by
            rw [ho, hT, hH]; unfold astep; rw [hcls]; exact hv
          have hlen := astep_len hS hstep
          rw [hH] at hlen
          obtain ⟨e1, e2, e3, e4⟩ := st_some hw' hstep
          rw [ho, hT] at e3
          have notR : ¬ HRead P ops (tD P w0 call ops T0 H0) i := fun q => by
            have := q.2.1
            rw [ho, hcls] at this
            cases this
          have notA : ∀ id ob, ¬ AllocAt P ops (tD P w0 call ops T0 H0) (hD P w0 call ops T0 H0) i id ob := fun id ob q => by
            have := q.2.1
            rw [ho, hcls] at this
            cases this
          split at h
          · rename_i hchk
            obtain ⟨f1, f2, f3⟩ := evD_facts hS r (i + 1) _ _ _ _ _ _ hr' hlt e3 e2 (fun q hq => by
              rcases List.mem_cons.1 hq with rfl | hq
              · exact hlen
              · exact Nat.le_trans (hl q hq) hlen) h
            refine ⟨f1, f2, f3.back e4 (fun q hq => hq) (fun _ p hp => ?_) (fun q => (notR q).elim) (fun p hp => ⟨p, by simp [hp], rfl, fun j A hg _ => hg.weak⟩) (fun q => (notR q).elim) (fun id ob q => (notA id ob q).elim) (fun _ => ⟨_, List.mem_cons_self .., rfl, hH.symm⟩)⟩
            have := List.all_eq_true.1 hchk p hp
            rw [Bool.or_eq_true] at this
            rw [e2]
            exact this
          · cases h
    · rename_i hw
      have hw' : awanted ops (opAt ops i) (tD P w0 call ops T0 H0 i) = false := by rw [ho, hT]; simpa using hw
      obtain ⟨e1, e2, e3, e4⟩ := st_none (P := P) (w0 := w0) (call := call) (H0 := H0) hw'
      rw [ho, hT] at e3
      rw [hH] at e2
      obtain ⟨f1, f2, f3⟩ := evD_facts hS r (i + 1) _ _ _ _ _ _ hr' hlt e3 e2 hl h
      have no : ∀ {q : Prop}, awanted ops (opAt ops i) (tD P w0 call ops T0 H0 i) = true → q := fun h => by rw [hw'] at h; cases h
      exact ⟨f1, f2, f3.back e4 (fun p hp => hp) (fun q => no q.1) (fun q => no q.1) (fun p hp => ⟨p, hp, rfl, fun j A hg _ => hg.weak⟩) (fun q => no q.1) (fun id ob q => no q.1) (fun q => no q.1)⟩
end Go.Am
/- The abstract machine beside the model's: a step within a greater memory; what is listed of a region. -/
namespace Go.Am
variable {P : Program} {w0 : World} {ρ0 ρ ρ' : Ren} {H H' : AH} {W0 W W' : World} {n m : Nat} {T T' : Fr} {a : Act} {call : CallA} {F : Fence} {O : Over}

theorem Step.over {H0 A A' : AH} (S : Step P w0 ρ0 ρ H0 A W0 W) (hpre : ∀ (id : Nat) (o : AObj), H[id]? = some o → A[id]? = some o) (S1 : Step P w0 ρ ρ' H H' W W') (hf : Fresh ρ H H') (hlen : A'.length = A.length) (hHA : H'.length ≤ A'.length)
    (hlow : ∀ (id : Nat) (o : AObj), H'[id]? = some o → A'[id]? = some o) (hhigh : ∀ (id : Nat) (o : AObj) (L : Loc), H'.length ≤ id → A'[id]? = some o → ρ id = some L → A[id]? = some o) (hH0 : H0.length ≤ H.length) :
    Step P w0 ρ0 ρ' H0 A' W0 W' := by
  have hle := S1.mono hf
  have low : ∀ (id : Nat) (o : AObj), id < H'.length → A'[id]? = some o → H'[id]? = some o := fun id o h1 h2 => by
    have h3 : H'[id]? = some H'[id] := List.getElem?_eq_getElem h1
    rw [hlow id _ h3] at h2
    rw [h3, h2]
  have lo0 : ∀ (j : Nat) (o : AObj), j < H0.length → A[j]? = some o → alive o → ∃ q, H0[j]? = some q ∧ alive q := fun j o h1 h2 h3 => S.alive_back h1 h2 h3
  have back : ∀ (j : Nat) (o : AObj) (M : Loc), A[j]? = some o → alive o → ρ j = some M → W0.heap.size ≤ M.blk ∨ ∃ (j0 : Nat) (o0 : AObj) (M0 : Loc), H0[j0]? = some o0 ∧ alive o0 ∧ ρ0 j0 = some M0 ∧ M0.blk = M.blk := by
    intro j o M h1 h2 h3
    by_cases hj : j < H0.length
    · obtain ⟨q, h4, h5⟩ := lo0 j o hj h1 h2
      exact .inr ⟨j, q, M, h4, h5, by rw [← S.out j (.inl hj)]; exact h3, rfl⟩
    · exact S.new j M (by omega) (List.getElem?_eq_some_iff.1 h1).1 h3
  refine ⟨by rw [hlen]; exact S.le, fun i hi => ?_, fun i L h1 h2 h3 => ?_, fun i h => ?_, ⟨S1.rel.size, S1.rel.base, S1.rel.lo, ?_, ?_⟩, Nat.le_trans S.size S1.size, fun b hb hn => ?_, ?_⟩
  · rw [S1.out i (by have := S1.le; omega), S.out i (by omega)]
  · by_cases hi : i < H.length ∨ H'.length ≤ i
    · rw [S1.out i hi] at h3
      exact S.new i L h1 (by omega) h3
    · rcases S1.new i L (by omega) (by omega) h3 with h | ⟨j, o, M, h4, h5, h6, h7⟩
      · exact .inl (Nat.le_trans S.size h)
      · rw [← h7]; exact back j o M (hpre j o h4) h5 h6
  · have hi : i < H.length := Nat.lt_of_lt_of_le (List.getElem?_eq_some_iff.1 h).1 hH0
    have h1 : H[i]? = some H[i] := List.getElem?_eq_getElem hi
    have h2 := hpre i _ h1
    rw [S.dead i h] at h2
    refine hlow i _ (S1.dead i ?_)
    rw [h1, ← h2]
  · intro i j o q L M h1 h2 h3 h4 h5 h6 h7
    have mixed : ∀ (i j : Nat) (o q : AObj) (L M : Loc), i < H'.length → ¬ j < H'.length → A'[i]? = some o → A'[j]? = some q → alive o → alive q → ρ' i = some L → ρ' j = some M → L.blk = M.blk → i = j := by
      intro i j o q L M hi hj h1 h2 h3 h4 h5 h6 h7
      rw [S1.out j (by omega)] at h6
      have hq := hhigh j q M (by omega) h2 h6
      have h1' := low i o hi h1
      by_cases hi2 : i < H.length
      · rw [S1.out i (.inl hi2)] at h5
        obtain ⟨o2, h8, h9⟩ := S1.alive_back hi2 h1' h3
        exact S.rel.inj i j o2 q L M (hpre i o2 h8) hq h9 h4 h5 h6 h7
      · rcases S1.new i L (by omega) hi h5 with h | ⟨j0, o0, M0, h8, h9, h10, h11⟩
        · have := (S.rel.lo j M h6).2; omega
        · have e := S.rel.inj j0 j o0 q M0 M (hpre j0 o0 h8) hq h9 h4 h10 h6 (by rw [h11, h7])
          have := (List.getElem?_eq_some_iff.1 h8).1
          have := S1.le
          omega
    by_cases hi : i < H'.length <;> by_cases hj : j < H'.length
    · exact S1.rel.inj i j o q L M (low i o hi h1) (low j q hj h2) h3 h4 h5 h6 h7
    · exact mixed i j o q L M hi hj h1 h2 h3 h4 h5 h6 h7
    · exact (mixed j i q o M L hj hi h2 h1 h4 h3 h6 h5 h7.symm).symm
    · rw [S1.out i (by omega)] at h5
      rw [S1.out j (by omega)] at h6
      exact S.rel.inj i j o q L M (hhigh i o L (by omega) h1 h5) (hhigh j q M (by omega) h2 h6) h3 h4 h5 h6 h7
  · intro i o L h1 h2
    by_cases hi : i < H'.length
    · exact S1.rel.obj i o L (low i o hi h1) h2
    · rw [S1.out i (by omega)] at h2
      have hA := hhigh i o L (by omega) h1 h2
      by_cases ho : alive o
      · have := S.rel.obj i o L hA h2
        rw [S1.same L.blk (S.rel.lo i L h2).2 (fun j0 o0 M0 h3 h4 h5 h6 => ?_)]
        · exact this.mono hle
        · have e := S.rel.inj j0 i o0 o M0 L (hpre j0 o0 h3) hA h4 ho h5 h2 h6
          have := (List.getElem?_eq_some_iff.1 h3).1
          have := S1.le
          omega
      · cases o <;> first | exact (ho trivial).elim | trivial
  · rw [S1.same b (Nat.lt_of_lt_of_le hb S.size) (fun j o M h1 h2 h3 h4 => ?_), S.same b hb hn]
    rcases back j o M (hpre j o h1) h2 h3 with h | ⟨j0, o0, M0, h5, h6, h7, h8⟩
    · omega
    · exact hn j0 o0 M0 h5 h6 h7 (by rw [h8, h4])
  · exact ⟨S1.env.1.trans S.env.1, S1.env.2.1.trans S.env.2.1, S1.env.2.2.trans S.env.2.2⟩

/- what is listed -/
def dn (L : Array Bool) (j : Nat) : Prop := L.getD j false = true
theorem dn_set {L : Array Bool} {i j : Nat} (hi : i < L.size) : dn (L.setIfInBounds i true) j ↔ dn L j ∨ j = i := by
  unfold dn
  by_cases h : j = i
  · subst h; simp [hi]
  · rw [getD_set_ne false (Ne.symm h)]; simp [h]
def cntU (L : Array Bool) : Nat → Nat
  | 0 => 0
  | k + 1 => cntU L k + (if L.getD k false then 0 else 1)
theorem cntU_zero {L : Array Bool} : ∀ (k : Nat), cntU L k = 0 → ∀ j, j < k → dn L j
  | 0, _, j, h => by omega
  | k + 1, h, j, hj => by
    simp only [cntU] at h
    by_cases hk : L.getD k false = true
    · by_cases e : j = k
      · subst e; exact hk
      · exact cntU_zero k (by omega) j (by omega)
    · rw [if_neg hk] at h; omega
theorem cntU_set {L : Array Bool} {i : Nat} (hi : i < L.size) (hn : ¬ dn L i) : ∀ (k : Nat), (k ≤ i → cntU (L.setIfInBounds i true) k = cntU L k) ∧ (i < k → cntU (L.setIfInBounds i true) k + 1 = cntU L k)
  | 0 => ⟨fun _ => rfl, fun h => by omega⟩
  | k + 1 => by
    obtain ⟨h1, h2⟩ := cntU_set hi hn k
    simp only [cntU]
    refine ⟨fun h => ?_, fun h => ?_⟩
    · rw [h1 (by omega), getD_set_ne false (by omega)]
    · by_cases e : k = i
      · subst e
        rw [h1 (Nat.le_refl _)]
        have e1 : (L.setIfInBounds k true).getD k false = true := (dn_set hi).2 (.inr rfl)
        rw [if_pos e1, if_neg (show ¬ L.getD k false = true from hn)]
      · rw [getD_set_ne false (Ne.symm e)]
        have := h2 (by omega)
        omega
theorem cntU_rep : ∀ (N k : Nat), cntU (Array.replicate N false) k = k
  | _, 0 => rfl
  | N, k + 1 => by
    simp only [cntU, cntU_rep N k]
    have : (Array.replicate N false).getD k false = false := by
      simp only [Array.getD_eq_getD_getElem?, Array.getElem?_replicate]
      split <;> rfl
    rw [this]
    simp

/- the frame that the listed operations have made -/
section
variable (ops : Array Oper) (T0 : Fr) (vv : Nat → Value)
def tL (L : Array Bool) : Nat → Fr
  | 0 => T0
  | j + 1 => if L.getD j false then aput (tL L j) (opAt ops j).dst (vv j) else tL L j
end
theorem aput_ne {dst : Option Tmp} {v : Value} {t : Tmp} (h : dst ≠ some t) : aput T dst v t = T t := by
  cases dst with
  | none => rfl
  | some d =>
    have : t ≠ d := fun e => h (by rw [e])
    simp [aput, upd, this]
theorem aput_eq {v : Value} {t : Tmp} : aput T (some t) v t = v := by simp [aput, upd]

variable {ops : Array Oper} {T0 : Fr} {vv : Nat → Value} {TT : Nat → Fr}
theorem tL_low (h0 : TT 0 = T0) {L : Array Bool} {i : Nat} {t : Tmp} (hstep : ∀ j, j < i → TT (j + 1) = aput (TT j) (opAt ops j).dst (vv j)) (hdn : ∀ j, j < i → (opAt ops j).dst = some t → dn L j) :
    ∀ k, k ≤ i → tL ops T0 vv L k t = TT k t
  | 0, _ => by rw [h0]; rfl
  | k + 1, hk => by
    have ih := tL_low h0 hstep hdn k (by omega)
    rw [hstep k (by omega)]
    simp only [tL]
    by_cases ht : (opAt ops k).dst = some t
    · have : L.getD k false = true := hdn k (by omega) ht
      rw [if_pos this, ht, aput_eq, aput_eq]
    · rw [aput_ne ht]
      split
      · rw [aput_ne ht]; exact ih
      · exact ih
theorem tL_high {L : Array Bool} {i : Nat} {t : Tmp} : ∀ k, i ≤ k → (∀ j, i ≤ j → j < k → (opAt ops j).dst = some t → ¬ dn L j) → tL ops T0 vv L k t = tL ops T0 vv L i t
  | 0, hk, _ => by have : i = 0 := by omega
                   subst this; rfl
  | k + 1, hk, h => by
    by_cases e : i = k + 1
    · subst e; rfl
    · have ih := tL_high k (by omega) (fun j h1 h2 => h j h1 (by omega))
      simp only [tL]
      split
      · rename_i hd
        by_cases ht : (opAt ops k).dst = some t
        · exact (h k (by omega) (by omega) ht hd).elim
        · rw [aput_ne ht]; exact ih
      · exact ih
theorem tL_set {L : Array Bool} {i : Nat} (hi : i < L.size) (hn : ¬ dn L i) {t : Tmp} : ∀ k, (∀ j, i < j → j < k → dn L j → (opAt ops j).dst = some t → (opAt ops i).dst ≠ some t) →
    (k ≤ i → tL ops T0 vv (L.setIfInBounds i true) k t = tL ops T0 vv L k t) ∧ (i < k → tL ops T0 vv (L.setIfInBounds i true) k t = aput (tL ops T0 vv L k) (opAt ops i).dst (vv i) t)
  | 0, _ => ⟨fun _ => rfl, fun h => by omega⟩
  | k + 1, h => by
    obtain ⟨h1, h2⟩ := tL_set hi hn k (fun j a b => h j a (by omega))
    refine ⟨fun hk => ?_, fun hk => ?_⟩
    · simp only [tL]
      rw [getD_set_ne false (by omega)]
      split
      · by_cases ht : (opAt ops k).dst = some t
        · rw [ht, aput_eq, aput_eq]
        · rw [aput_ne ht, aput_ne ht]; exact h1 (by omega)
      · exact h1 (by omega)
    · by_cases e : k = i
      · subst e
        simp only [tL]
        have e1 : (L.setIfInBounds k true).getD k false = true := (dn_set hi).2 (.inr rfl)
        rw [if_pos e1, if_neg (show ¬ L.getD k false = true from hn)]
        by_cases ht : (opAt ops k).dst = some t
        · rw [ht, aput_eq, aput_eq]
        · rw [aput_ne ht, aput_ne ht]; exact h1 (Nat.le_refl _)
      · have ih := h2 (by omega)
        simp only [tL]
        rw [getD_set_ne false (Ne.symm e)]
        split
        · rename_i hd
          by_cases ht : (opAt ops k).dst = some t
          · have := h k (by omega) (by omega) hd ht
            rw [ht, aput_eq, aput_ne this, aput_eq]
          · rw [aput_ne ht]
            by_cases ht2 : (opAt ops i).dst = some t
            · rw [ht2] at ih ⊢; rw [aput_eq] at ih ⊢; exact ih
            · rw [aput_ne ht2] at ih ⊢; rw [aput_ne ht]; exact ih
        · exact ih
end Go.Am
/- The abstract machine beside the model's: memory as it stands at a place of a region whose order is open. -/
namespace Go.Am
variable {P : Program} {w0 : World} {ρ0 ρ ρ' : Ren} {H H' : AH} {W0 W W' : World} {n m : Nat} {T T' : Fr} {a : Act} {call : CallA} {F : Fence} {O : Over}
variable {ops : Array Oper} {bef : Array Nat} {TT : Nat → Fr} {HH : Nat → AH} {vv : Nat → Value}

theorem stepAt_cases {j : Nat} (h : StepAt P w0 call ops TT HH vv j) (hn : ¬ WAt P ops TT j) : HH (j + 1) = HH j ∧ (∀ id ob, ¬ AllocAt P ops TT HH j id ob) ∨ ∃ ob, AllocAt P ops TT HH j (HH j).length ob ∧ HH (j + 1) = HH j ++ [ob] := by
  have h2 := h.2
  split at h2
  · rename_i hw
    unfold astep at h2
    cases hc : clsOf P (opAt ops j) with
    | read =>
      rw [hc, Option.map_eq_some_iff] at h2
      obtain ⟨v, _, e⟩ := h2
      simp only [Prod.mk.injEq] at e
      exact .inl ⟨e.2.symm, fun id ob q => by have := q.2.1; rw [hc] at this; cases this⟩
    | alloc =>
      rw [hc, Option.map_eq_some_iff] at h2
      obtain ⟨⟨ob, mk⟩, h3, e⟩ := h2
      simp only [Prod.mk.injEq] at e
      exact .inr ⟨ob, ⟨hw, hc, ⟨mk, h3⟩, rfl⟩, e.2.symm⟩
    | write => exact (hn ⟨hw, isW_cls.2 (.inl hc)⟩).elim
    | call => exact (hn ⟨hw, isW_cls.2 (.inr hc)⟩).elim
  · rename_i hw
    exact .inl ⟨h2.2, fun id ob q => hw q.1⟩
theorem stepAt_len (hS : Sound P w0 call) {j : Nat} (h : StepAt P w0 call ops TT HH vv j) : (HH j).length ≤ (HH (j + 1)).length := by
  have h2 := h.2
  split at h2
  · exact astep_len hS h2
  · rw [h2.2]; exact Nat.le_refl _
theorem allocAt_uniq {j id : Nat} {o q : AObj} (h : AllocAt P ops TT HH j id o) (k : AllocAt P ops TT HH j id q) : o = q := by
  obtain ⟨_, _, ⟨mk, h1⟩, _⟩ := h
  obtain ⟨_, _, ⟨mk', h2⟩, _⟩ := k
  rw [h1] at h2
  cases h2
  rfl
theorem allocAt_next {j id : Nat} {o : AObj} (h : StepAt P w0 call ops TT HH vv j) (k : AllocAt P ops TT HH j id o) : HH (j + 1) = HH j ++ [o] := by
  have hn : ¬ WAt P ops TT j := fun q => by
    have := isW_cls.1 q.2
    rw [k.2.1] at this
    rcases this with h | h <;> cases h
  rcases stepAt_cases h hn with ⟨_, h1⟩ | ⟨ob, h1, h2⟩
  · exact (h1 _ _ k).elim
  · rw [h2]
    have : id = (HH j).length := k.2.2.2
    subst this
    rw [allocAt_uniq h1 k]

section
variable (hS : Sound P w0 call) (hst : ∀ j, j < ops.size → StepAt P w0 call ops TT HH vv j)
include hS hst
theorem len_mono : ∀ i j, i ≤ j → j ≤ ops.size → (HH i).length ≤ (HH j).length
  | i, 0, h, _ => by have : i = 0 := by omega
                     subst this; exact Nat.le_refl _
  | i, j + 1, h, hj => by
    by_cases e : i = j + 1
    · subst e; exact Nat.le_refl _
    · exact Nat.le_trans (len_mono i j (by omega) (by omega)) (stepAt_len hS (hst j (by omega)))
theorem alloc_inj {j k id : Nat} {o q : AObj} (hj : j < ops.size) (hk : k < ops.size) (h : AllocAt P ops TT HH j id o) (h' : AllocAt P ops TT HH k id q) : j = k := by
  have key : ∀ {j k id : Nat} {o q : AObj}, j < ops.size → k < ops.size → AllocAt P ops TT HH j id o → AllocAt P ops TT HH k id q → j < k → False := by
    intro j k id o q hj hk h h' hlt
    have h1 := allocAt_next (hst j hj) h
    have h2 := len_mono hS hst (j + 1) k hlt (by omega)
    rw [h1] at h2
    have e1 : id = (HH j).length := h.2.2.2
    have e2 : id = (HH k).length := h'.2.2.2
    simp at h2
    omega
  rcases Nat.lt_trichotomy j k with hlt | h0 | hlt
  · exact (key hj hk h h' hlt).elim
  · exact h0
  · exact (key hk hj h' h hlt).elim
/- no write in between: only new objects -/
omit hS in
theorem between {i : Nat} : ∀ (k : Nat), i ≤ k → k ≤ ops.size → (∀ w, i ≤ w → w < k → ¬ WAt P ops TT w) → (∀ (id : Nat) (o : AObj), (HH i)[id]? = some o → (HH k)[id]? = some o) ∧ (∀ j id o, i ≤ j → j < k → AllocAt P ops TT HH j id o → (HH k)[id]? = some o)
  | 0, h, _, _ => by
    have : i = 0 := by omega
    subst this
    exact ⟨fun _ _ h => h, fun j id o h1 h2 => by omega⟩
  | k + 1, h, hk, hn => by
    by_cases e : i = k + 1
    · subst e; exact ⟨fun _ _ h => h, fun j id o h1 h2 => by omega⟩
    · obtain ⟨h1, h2⟩ := between k (by omega) (by omega) (fun w a b => hn w a (by omega))
      have up : ∀ (id : Nat) (o : AObj), (HH k)[id]? = some o → (HH (k + 1))[id]? = some o := by
        intro id o h3
        rcases stepAt_cases (hst k (by omega)) (hn k (by omega) (by omega)) with ⟨h4, _⟩ | ⟨ob, _, h4⟩
        · rw [h4]; exact h3
        · rw [h4, List.getElem?_append_left (List.getElem?_eq_some_iff.1 h3).1]; exact h3
      refine ⟨fun id o h3 => up id o (h1 id o h3), fun j id o h3 h4 h5 => ?_⟩
      by_cases e2 : j = k
      · subst e2
        rw [allocAt_next (hst j (by omega)) h5]
        have : id = (HH j).length := h5.2.2.2
        subst this
        simp
      · exact up id o (h2 j id o h3 (by omega) h5)

omit hS hst in
theorem next_ex (i : Nat) (hi : i ≤ ops.size) : ∃ q, i ≤ q ∧ q ≤ ops.size ∧ (∀ w, i ≤ w → w < q → ¬ WAt P ops TT w) ∧ (q = ops.size ∨ WAt P ops TT q) := by
  have key : ∀ d i, ops.size - i = d → i ≤ ops.size → ∃ q, i ≤ q ∧ q ≤ ops.size ∧ (∀ w, i ≤ w → w < q → ¬ WAt P ops TT w) ∧ (q = ops.size ∨ WAt P ops TT q) := by
    intro d
    induction d with
    | zero => intro i h hi; exact ⟨i, Nat.le_refl _, hi, fun w a b => by omega, .inl (by omega)⟩
    | succ d ih =>
      intro i h hi
      by_cases hw : WAt P ops TT i
      · exact ⟨i, Nat.le_refl _, hi, fun w a b => by omega, .inr hw⟩
      · obtain ⟨q, h1, h2, h3, h4⟩ := ih (i + 1) (by omega) (by omega)
        refine ⟨q, by omega, h2, fun w a b => ?_, h4⟩
        by_cases e : w = i
        · subst e; exact hw
        · exact h3 w (by omega) b
  exact key _ i rfl hi
end

/- memory just before the write at q, with all that is laid later -/
open Classical in
noncomputable def aL (P : Program) (ops : Array Oper) (TT : Nat → Fr) (HH : Nat → AH) (id : Nat) : AObj :=
  if h : ∃ ob, ∃ j, j < ops.size ∧ AllocAt P ops TT HH j id ob then h.choose else .dead
open Classical in
noncomputable def sS (P : Program) (ops : Array Oper) (TT : Nat → Fr) (HH : Nat → AH) (q : Nat) : AH :=
  (List.range (HH ops.size).length).map fun id => ((HH q)[id]?).getD (aL P ops TT HH id)

section
variable (hS : Sound P w0 call) (hst : ∀ j, j < ops.size → StepAt P w0 call ops TT HH vv j)
omit hS hst in
theorem sS_len {q : Nat} : (sS P ops TT HH q).length = (HH ops.size).length := by simp [sS]
omit hS hst in
theorem sS_get {q id : Nat} (h : id < (HH ops.size).length) : (sS P ops TT HH q)[id]? = some (((HH q)[id]?).getD (aL P ops TT HH id)) := by
  simp [sS, h]
include hS hst
theorem aL_eq {j id : Nat} {o : AObj} (hj : j < ops.size) (h : AllocAt P ops TT HH j id o) : aL P ops TT HH id = o := by
  unfold aL
  have hex : ∃ ob, ∃ j, j < ops.size ∧ AllocAt P ops TT HH j id ob := ⟨o, j, hj, h⟩
  rw [dif_pos hex]
  obtain ⟨k, hk, h2⟩ := hex.choose_spec
  have := alloc_inj hS hst hk hj h2 h
  subst this
  exact allocAt_uniq h2 h
theorem sS_low {q id : Nat} {o : AObj} (hq : q ≤ ops.size) (h : (HH q)[id]? = some o) : (sS P ops TT HH q)[id]? = some o := by
  have h1 := (List.getElem?_eq_some_iff.1 h).1
  have := len_mono hS hst q ops.size hq (Nat.le_refl _)
  rw [sS_get (by omega), h]
  rfl
theorem alloc_lt {j id : Nat} {o : AObj} (hj : j < ops.size) (h : AllocAt P ops TT HH j id o) : id < (HH ops.size).length := by
  have h1 := allocAt_next (hst j hj) h
  have h2 := len_mono hS hst (j + 1) ops.size (by omega) (Nat.le_refl _)
  rw [h1] at h2
  have : id = (HH j).length := h.2.2.2
  simp at h2
  omega
theorem sS_high {q j id : Nat} {o : AObj} (hj : j < ops.size) (h : AllocAt P ops TT HH j id o) (hid : (HH q).length ≤ id) : (sS P ops TT HH q)[id]? = some o := by
  rw [sS_get (alloc_lt hS hst hj h), List.getElem?_eq_none hid, aL_eq hS hst hj h]
  rfl
omit hS hst in
theorem sS_last : sS P ops TT HH ops.size = HH ops.size := by
  apply List.ext_getElem?
  intro id
  by_cases h : id < (HH ops.size).length
  · rw [sS_get h, List.getElem?_eq_getElem h]; rfl
  · rw [List.getElem?_eq_none (by rw [sS_len]; omega), List.getElem?_eq_none (by omega)]
end
end Go.Am
/- The abstract machine beside the model's: regions whose order is open. -/
namespace Go.Am
variable {P : Program} {w0 : World} {ρ0 ρ ρ' : Ren} {H H' : AH} {W0 W W' : World} {n m : Nat} {T T' : Fr} {a a0 : Act} {call : CallA} {F : Fence} {O : Over}
variable {ops : Array Oper} {TT : Nat → Fr} {HH : Nat → AH} {vv : Nat → Value} {L : Array Bool}

theorem opAt_get {j : Nat} (h : j < ops.size) : ops[j]? = some (opAt ops j) := by simp [opAt, Array.getD_eq_getD_getElem?, h]
theorem ready_iff {j : Nat} : j ∈ Region.ready .any ops L ↔ j < ops.size ∧ L.getD j true = false ∧ ∀ e ∈ (opAt ops j).after, Region.binds .any e = true → dn L e.on := by
  rw [mem_ready]
  constructor
  · rintro ⟨h1, o, h2, h3⟩
    have hj := (Array.getElem?_eq_some_iff.1 h2).1
    rw [opAt_get hj] at h2
    cases h2
    exact ⟨hj, h1, h3⟩
  · rintro ⟨hj, h1, h3⟩
    exact ⟨h1, _, opAt_get hj, h3⟩

/- all that the static side says -/
structure Dr (P : Program) (ops : Array Oper) : Prop where
  edges : ∀ j, j < ops.size → ∀ e ∈ (opAt ops j).after, Region.binds .any e = true → e.on < j
  closed : ∀ j, j < ops.size → ∀ i, i < ops.size → beforeB (Region.before ops) j i = true → ∃ e ∈ (opAt ops j).after, Region.binds .any e = true ∧ e.on < j ∧ (e.on = i ∨ beforeB (Region.before ops) e.on i = true)
  pair : ∀ j, j < ops.size → ∀ i, i < j → beforeB (Region.before ops) j i = true ∨ (clash ops (opAt ops i) (opAt ops j) = false ∧ (isW P (opAt ops i) = true → isW P (opAt ops j) = true → False))
theorem Dr.of (h : drawOk P ops = true) : Dr P ops := by
  unfold drawOk at h
  simp only [Bool.and_eq_true] at h
  obtain ⟨⟨⟨_, h1⟩, h2⟩, h3⟩ := h
  refine ⟨fun j hj e he hb => ?_, fun j hj i hi hb => ?_, fun j hj i hi => ?_⟩
  · have := List.all_eq_true.1 (List.all_eq_true.1 h1 j (List.mem_range.2 hj)) e (by simpa using he)
    simpa [hb] using this
  · have := List.all_eq_true.1 (List.all_eq_true.1 h2 j (List.mem_range.2 hj)) i (List.mem_range.2 hi)
    simp only [hb, Bool.not_true, Bool.false_or, List.any_eq_true, Bool.and_eq_true, decide_eq_true_eq, Bool.or_eq_true, beq_iff_eq] at this
    obtain ⟨e, h4, h5⟩ := this
    exact ⟨e, by simpa using h4, h5.1.1, h5.1.2, h5.2⟩
  · have := List.all_eq_true.1 (List.all_eq_true.1 h3 j (List.mem_range.2 hj)) i (List.mem_range.2 hi)
    rw [Bool.or_eq_true] at this
    rcases this with h | h
    · exact .inl h
    · simp only [Bool.not_eq_true', Bool.or_eq_false_iff, Bool.and_eq_false_iff] at h
      refine .inr ⟨h.1, fun h4 h5 => ?_⟩
      rcases h.2 with h | h
      · rw [h4] at h; cases h
      · rw [h5] at h; cases h

def Closed (ops : Array Oper) (L : Array Bool) : Prop := ∀ j, j < ops.size → dn L j → ∀ e ∈ (opAt ops j).after, Region.binds .any e = true → dn L e.on
theorem Closed.before (hD : Dr P ops) (hc : Closed ops L) : ∀ (j : Nat), j < ops.size → (∀ e ∈ (opAt ops j).after, Region.binds .any e = true → dn L e.on) → ∀ i, i < ops.size → beforeB (Region.before ops) j i = true → dn L i := by
  intro j
  induction j using Nat.strongRecOn with
  | _ j ih =>
    intro hj he i hi hb
    obtain ⟨e, h1, h2, h3, h4⟩ := hD.closed j hj i hi hb
    have hd := he e h1 h2
    rcases h4 with h4 | h4
    · rw [← h4]; exact hd
    · exact ih e.on h3 (by omega) (hc e.on (by omega) hd) i hi h4
theorem ready_nil (hD : Dr P ops) (hL : L.size = ops.size) (h : Region.ready .any ops L = []) : ∀ j, j < ops.size → dn L j := by
  intro j
  induction j using Nat.strongRecOn with
  | _ j ih =>
    intro hj
    by_cases hd : dn L j
    · exact hd
    · have : j ∈ Region.ready .any ops L := ready_iff.2 ⟨hj, by
        unfold dn at hd
        have : L.getD j true = L.getD j false := by simp [Array.getD_eq_getD_getElem?, hL, hj]
        rw [this]
        simpa using hd, fun e he hb => ih e.on (hD.edges j hj e he hb) (by have := hD.edges j hj e he hb; omega)⟩
      rw [h] at this
      cases this

theorem looks_opd {o : Oper} {t : Tmp} (h : .tmp t ∈ o.op.operands.toList) : looks ops o t = true := by
  unfold looks
  rw [Bool.or_eq_true]
  left
  rw [List.any_eq_true]
  exact ⟨.tmp t, h, by simp⟩
theorem looks_guard {o : Oper} {t : Tmp} (h : gtmp ops o = some t) : looks ops o t = true := by
  unfold looks
  rw [h]
  simp
theorem awanted_congr {o : Oper} (h : ∀ t, gtmp ops o = some t → T t = T' t) : awanted ops o T = awanted ops o T' := by
  unfold awanted
  unfold gtmp at h
  split
  · rfl
  · rename_i j want hg
    rw [hg] at h
    simp only at h
    split
    · rename_i d hd
      rw [h d hd]
    · rfl

structure Inv (P : Program) (w0 : World) (ops : Array Oper) (TT : Nat → Fr) (HH : Nat → AH) (vv : Nat → Value) (n : Nat) (ρ0 : Ren) (W0 : World) (a0 : Act) (L : Array Bool) (ρ : Ren) (a : Act) (W : World) (q : Nat) : Prop where
  size : L.size = ops.size
  closed : Closed ops L
  frame : RelT ρ n (tL ops (TT 0) vv L ops.size) a.tmps
  defers : a.defers = a0.defers
  qle : q ≤ ops.size
  qlow : ∀ w, w < q → WAt P ops TT w → dn L w
  qnext : q = ops.size ∨ (WAt P ops TT q ∧ ¬ dn L q)
  step : Step P w0 ρ0 ρ (HH 0) (sS P ops TT HH q) W0 W
  own : ∀ id, (HH 0).length ≤ id → id < (HH ops.size).length → ρ id ≠ none → ∃ j, j < ops.size ∧ dn L j ∧ awanted ops (opAt ops j) (TT j) = true ∧ (HH j).length ≤ id ∧ id < (HH (j + 1)).length
end Go.Am
/- The abstract machine beside the model's: one operation of a region whose order is open. -/
namespace Go.Am
variable {P : Program} {w0 : World} {ρ0 ρ ρ' : Ren} {H H' : AH} {W0 W W' : World} {n m q : Nat} {T T' : Fr} {a a0 : Act} {call : CallA} {F : Fence} {O : Over}
variable {ops : Array Oper} {TT : Nat → Fr} {HH : Nat → AH} {vv : Nat → Value} {L : Array Bool}

theorem Rel.pre {A : AH} (R : Rel P w0 ρ A W) (h : ∀ (id : Nat) (o : AObj), H[id]? = some o → A[id]? = some o) : Rel P w0 ρ H W :=
  ⟨R.size, R.base, R.lo, fun i j o q L M h1 h2 h3 h4 h5 h6 h7 => R.inj i j o q L M (h i o h1) (h j q h2) h3 h4 h5 h6 h7, fun i o L h1 h2 => R.obj i o L (h i o h1) h2⟩

theorem aalloc_alive {o : Oper} {ob : AObj} {mk : Nat → Value} (h : aalloc P o T = some (ob, mk)) : alive ob := by
  unfold aalloc at h
  split at h
  · rw [Option.map_eq_some_iff] at h
    obtain ⟨z, _, h⟩ := h
    cases h
    trivial
  · cases h; trivial
  · split at h
    · split at h
      · split at h
        · cases h
        · split at h
          · split at h
            · cases h; trivial
            · cases h
          · cases h
      · cases h
    · cases h
  · split at h
    · split at h
      · split at h
        · split at h
          · cases h; trivial
          · cases h
        · cases h
      · cases h
    · cases h
  · split at h
    · cases h; trivial
    · split at h
      · cases h; trivial
      · cases h
  · split at h
    · split at h
      · cases h; trivial
      · cases h
    · cases h
  · split at h
    · cases h; trivial
    · cases h
  · cases h

theorem last_ex {i q : Nat} : (∀ w, i ≤ w → w < q → ¬ WAt P ops TT w) ∨ ∃ p, i ≤ p ∧ p < q ∧ WAt P ops TT p ∧ ∀ w, p + 1 ≤ w → w < q → ¬ WAt P ops TT w := by
  induction q with
  | zero => exact .inl (fun w _ h => by omega)
  | succ q ih =>
    by_cases hq : i ≤ q ∧ WAt P ops TT q
    · exact .inr ⟨q, hq.1, by omega, hq.2, fun w h1 h2 => by omega⟩
    · rcases ih with h | ⟨p, h1, h2, h3, h4⟩
      · refine .inl (fun w h1 h2 => ?_)
        by_cases e : w = q
        · subst e; exact fun h => hq ⟨h1, h⟩
        · exact h w h1 (by omega)
      · refine .inr ⟨p, h1, by omega, h3, fun w h5 h6 => ?_⟩
        by_cases e : w = q
        · subst e; exact fun h => hq ⟨by omega, h⟩
        · exact h4 w h5 (by omega)

section
variable (hS : Sound P w0 call) (hD : Dr P ops) (hX : Facts P w0 call ops (Region.before ops) TT HH vv 0 [] [])
include hX
theorem hst : ∀ j, j < ops.size → StepAt P w0 call ops TT HH vv j := fun j h => hX.step j (Nat.zero_le _) h

include hD
theorem inv_frame (I : Inv P w0 ops TT HH vv n ρ0 W0 a0 L ρ a W q) {i : Nat} (hi : i < ops.size) (hnd : ¬ dn L i) (he : ∀ e ∈ (opAt ops i).after, Region.binds .any e = true → dn L e.on) {t : Tmp} (ht : looks ops (opAt ops i) t = true) :
    tL ops (TT 0) vv L ops.size t = TT i t := by
  rw [tL_high (i := i) ops.size (by omega) ?_]
  · refine tL_low rfl (fun j hj => (hst hX j (by omega)).1) (fun j hj hdst => ?_) i (Nat.le_refl _)
    rcases hD.pair i hi j hj with h | ⟨h, _⟩
    · exact I.closed.before hD i hi he j (by omega) h
    · unfold clash at h
      rw [hdst] at h
      simp [ht] at h
  · intro j h1 h2 hdst hdj
    by_cases e : j = i
    · subst e; exact hnd hdj
    · rcases hD.pair j h2 i (by omega) with h | ⟨h, _⟩
      · exact hnd (I.closed.before hD j h2 (I.closed j h2 hdj) i hi h)
      · unfold clash at h
        rw [hdst] at h
        simp [ht] at h
theorem inv_frame_set (I : Inv P w0 ops TT HH vv n ρ0 W0 a0 L ρ a W q) {i : Nat} (hi : i < ops.size) (hnd : ¬ dn L i) :
    tL ops (TT 0) vv (L.setIfInBounds i true) ops.size = aput (tL ops (TT 0) vv L ops.size) (opAt ops i).dst (vv i) := by
  funext t
  refine (tL_set (by rw [I.size]; exact hi) hnd ops.size (fun j h1 h2 h3 h4 h5 => ?_)).2 hi
  rcases hD.pair j h2 i h1 with h | ⟨h, _⟩
  · exact hnd (I.closed.before hD j h2 (I.closed j h2 h3) i hi h)
  · unfold clash at h
    rw [h4, h5] at h
    simp at h
theorem closed_set (I : Inv P w0 ops TT HH vv n ρ0 W0 a0 L ρ a W q) {i : Nat} (hi : i < ops.size) (he : ∀ e ∈ (opAt ops i).after, Region.binds .any e = true → dn L e.on) : Closed ops (L.setIfInBounds i true) := by
  intro j hj hd e h1 h2
  have hs : i < L.size := by rw [I.size]; exact hi
  rw [dn_set hs] at hd ⊢
  left
  rcases hd with hd | rfl
  · exact I.closed j hj hd e h1 h2
  · exact he e h1 h2

include hS
theorem inv_step (hF : Open F) (hok : ∀ o ∈ ops.toList, operOk n o = true ∧ guardOk ops n o = true) {Q : Exit → Act → World → Prop} (hf : Fresh ρ0 (HH 0) (HH ops.size)) (I : Inv P w0 ops TT HH vv n ρ0 W0 a0 L ρ a W q) {i : Nat} (hi : i ∈ Region.ready .any ops L)
    {K : Act → World → Prop} (hK : ∀ ρ' a' W' q', Inv P w0 ops TT HH vv n ρ0 W0 a0 (L.setIfInBounds i true) ρ' a' W' q' → K a' W') : wpOpIn F m P ops Q i K a W := by
  obtain ⟨hlt, hun, he⟩ := ready_iff.1 hi
  have hsL : i < L.size := by rw [I.size]; exact hlt
  have hnd : ¬ dn L i := by
    unfold dn
    have : L.getD i false = L.getD i true := by simp [Array.getD_eq_getD_getElem?, hsL]
    rw [this, hun]
    simp
  have hget := opAt_get hlt
  have hmem : opAt ops i ∈ ops.toList := by simpa using Array.mem_of_getElem? hget
  obtain ⟨ho, hg⟩ := hok _ hmem
  have hstA := hst hX
  have hbefore : ∀ w, w < ops.size → beforeB (Region.before ops) i w = true → dn L w := fun w hw h => I.closed.before hD i hlt he w hw h
  have hafter : ∀ w, w < ops.size → dn L w → beforeB (Region.before ops) w i = true → False := fun w hw hd h => hnd (I.closed.before hD w hw (I.closed w hw hd) i hlt h)
  have hfr := fun {t} => inv_frame (t := t) hD hX I hlt hnd he
  have hset := inv_frame_set hD hX I hlt hnd
  have hcl := closed_set hD hX I hlt he
  have hsz : (L.setIfInBounds i true).size = ops.size := by simp [I.size]
  have hwa : awanted ops (opAt ops i) (tL ops (TT 0) vv L ops.size) = awanted ops (opAt ops i) (TT i) := awanted_congr (fun t ht => hfr (looks_guard ht))
  have hag : Agree (opAt ops i) (TT i) (tL ops (TT 0) vv L ops.size) := by
    intro x hx
    cases x with
    | tmp t => exact (hfr (looks_opd hx)).symm
    | const v => rfl
    | global g => rfl
    | func f => rfl
  have hmono : ∀ {w}, dn L w → dn (L.setIfInBounds i true) w := fun h => (dn_set hsL).2 (.inl h)
  have hown : ∀ id, (HH 0).length ≤ id → id < (HH ops.size).length → ρ id ≠ none → ∃ j, j < ops.size ∧ dn (L.setIfInBounds i true) j ∧ awanted ops (opAt ops j) (TT j) = true ∧ (HH j).length ≤ id ∧ id < (HH (j + 1)).length := by
    intro id h1 h2 h3
    obtain ⟨j, h4, h5, h6, h7, h8⟩ := I.own id h1 h2 h3
    exact ⟨j, h4, hmono h5, h6, h7, h8⟩
  -- the ids of this operation are free
  have hfree : ∀ id, (HH i).length ≤ id → id < (HH (i + 1)).length → ρ id = none := by
    intro id h1 h2
    by_cases hn : ρ id = none
    · exact hn
    · have l0 := len_mono hS hstA 0 i (Nat.zero_le _) (by omega)
      have l1 := len_mono hS hstA (i + 1) ops.size hlt (Nat.le_refl _)
      obtain ⟨j, h4, h5, h6, h7, h8⟩ := I.own id (by omega) (by omega) hn
      rcases Nat.lt_trichotomy j i with hj | hj | hj
      · have := len_mono hS hstA (j + 1) i hj (by omega); omega
      · subst hj; exact (hnd h5).elim
      · have := len_mono hS hstA (i + 1) j hj (by omega); omega
  -- q stays
  have stay : ¬ WAt P ops TT i → q ≠ i ∧ (q = ops.size ∨ (WAt P ops TT q ∧ ¬ dn (L.setIfInBounds i true) q)) := by
    intro hn
    have hne : q ≠ i := by
      rintro rfl
      rcases I.qnext with h | h
      · omega
      · exact hn h.1
    refine ⟨hne, ?_⟩
    rcases I.qnext with h | ⟨h1, h2⟩
    · exact .inl h
    · exact .inr ⟨h1, fun h => by rcases (dn_set hsL).1 h with h | h; exact h2 h; exact hne h⟩
  unfold wpOpIn
  rw [hget]
  simp only
  rw [wanted_rel hg I.frame, hwa]
  by_cases hw : awanted ops (opAt ops i) (TT i) = true
  · rw [if_pos hw]
    have hstep := (hstA i hlt).2
    rw [if_pos hw] at hstep
    -- memory for one that makes no write: where the text had it
    have seen : ∀ (R : AH → Prop), (∀ A B, Sub A B → R A → R B) → R (HH (i + 1)) → (∀ w, i ≤ w → w < ops.size → WAt P ops TT w → dn L w → R (HH (w + 1))) → i < q → R (sS P ops TT HH q) := by
      intro R hR h1 h2 hiq
      have hsub : ∀ k, k ≤ q → (∀ w, k ≤ w → w < q → ¬ WAt P ops TT w) → R (HH k) → R (sS P ops TT HH q) := fun k hk hn hr =>
        hR _ _ (fun id o h3 _ => sS_low hS hstA I.qle ((between hstA q hk I.qle hn).1 id o h3)) hr
      rcases last_ex (P := P) (ops := ops) (TT := TT) (i := i + 1) (q := q) with h | ⟨p, h3, h4, h5, h6⟩
      · exact hsub (i + 1) (by omega) h h1
      · have := I.qle
        exact hsub (p + 1) (by omega) h6 (h2 p (by omega) (by omega) h5 (I.qlow p h4 h5))
    cases hc : clsOf P (opAt ops i) with
    | read =>
      have hnW : ¬ WAt P ops TT i := fun h => by
        have := isW_cls.1 h.2
        rw [hc] at this
        rcases this with h | h <;> cases h
      obtain ⟨hqi, hqn⟩ := stay hnW
      unfold astep at hstep
      rw [hc, Option.map_eq_some_iff] at hstep
      obtain ⟨v, hv, e⟩ := hstep
      simp only [Prod.mk.injEq] at e
      obtain ⟨rfl, e2⟩ := e
      have key : aread P w0 (opAt ops i) (TT i) (sS P ops TT HH q) = some (vv i) := by
        by_cases hh : heapy (opAt ops i) = true
        · have hR : HRead P ops TT i := ⟨hw, hc, hh⟩
          by_cases hiq : i < q
          · refine seen (fun A => aread P w0 (opAt ops i) (TT i) A = some (vv i)) (fun A B h1 h2 => aread_sub h1 h2) (by rw [← e2]; exact hv) (fun w h1 h2 h3 h4 => ?_) hiq
            by_cases e : w = i
            · subst e; exact (hnW h3).elim
            · rcases hX.readW i w (Nat.zero_le _) (by omega) h2 h3 hR with h | h
              · exact (hafter w h2 h4 h).elim
              · exact h
          · have hq : q < ops.size := by omega
            have hqW : WAt P ops TT q ∧ ¬ dn L q := by
              rcases I.qnext with h | h
              · omega
              · exact h
            rcases hX.wRead q i (Nat.zero_le _) (by omega) hlt hqW.1 hR with h | ⟨A, hA, hr⟩
            · exact (hqW.2 (hbefore q hq h)).elim
            · refine aread_sub (fun id o h1 h2 => ?_) hr
              rcases hA id o h1 h2 with h | ⟨j', h3, h4, h5⟩
              · exact sS_low hS hstA I.qle h
              · have : id = (HH j').length := h5.2.2.2
                exact sS_high hS hstA (by omega) h5 (by rw [this]; exact len_mono hS hstA q j' h3 (by omega))
        · rw [aread_flat (H' := HH i) (by simpa using hh)]; exact hv
      have hs : astep P w0 call (opAt ops i) (tL ops (TT 0) vv L ops.size) (sS P ops TT HH q) = some (vv i, sS P ops TT HH q) := by
        unfold astep
        rw [hc, ← aread_congr hag, key]
        rfl
      refine op_rel hS hF ho hs I.step.rel I.frame (fun id h1 h2 => by omega) (fun ρ' v' W' hv' S1 => hK ρ' _ W' q ?_)
      have hρ : ∀ id, ρ' id = ρ id := fun id => S1.out id (by omega)
      refine ⟨hsz, hcl, ?_, ?_, I.qle, fun w h1 h2 => hmono (I.qlow w h1 h2), hqn, I.step.trans S1, fun id h1 h2 h3 => hown id h1 h2 (by rw [← hρ]; exact h3)⟩
      · rw [hset]
        exact (I.frame.mono (S1.mono (fun id h1 h2 => by omega))).put (operOk_dst ho) hv'
      · rw [put_same]; exact I.defers
    | alloc =>
      have hnW : ¬ WAt P ops TT i := fun h => by
        have := isW_cls.1 h.2
        rw [hc] at this
        rcases this with h | h <;> cases h
      obtain ⟨hqi, hqn⟩ := stay hnW
      unfold astep at hstep
      rw [hc, Option.map_eq_some_iff] at hstep
      obtain ⟨⟨ob, mk⟩, hv, e⟩ := hstep
      simp only [Prod.mk.injEq] at e
      obtain ⟨e1, e2⟩ := e
      have hal : AllocAt P ops TT HH i (HH i).length ob := ⟨hw, hc, ⟨mk, hv⟩, rfl⟩
      have hdead : alive ob := aalloc_alive hv
      have key : (sS P ops TT HH q)[(HH i).length]? = some ob := by
        by_cases hiq : i < q
        · refine seen (fun A => A[(HH i).length]? = some ob) (fun A B h1 h2 => h1 _ _ h2 hdead) (by rw [← e2]; simp) (fun w h1 h2 h3 h4 => ?_) hiq
          by_cases e : w = i
          · subst e; exact (hnW h3).elim
          · rcases hX.allocW i w (Nat.zero_le _) (by omega) h2 h3 _ _ hal with h | h
            · exact (hafter w h2 h4 h).elim
            · exact h
        · exact sS_high hS hstA hlt hal (len_mono hS hstA q i (by omega) (by omega))
      have hidlt := alloc_lt hS hstA hlt hal
      have htl : ((sS P ops TT HH q).take (HH i).length).length = (HH i).length := by rw [List.length_take, sS_len]; omega
      have hpre : ∀ (id : Nat) (o : AObj), ((sS P ops TT HH q).take (HH i).length)[id]? = some o → (sS P ops TT HH q)[id]? = some o := fun id o h => by
        rw [List.getElem?_take] at h
        split at h
        · exact h
        · cases h
      have hs : astep P w0 call (opAt ops i) (tL ops (TT 0) vv L ops.size) ((sS P ops TT HH q).take (HH i).length) = some (vv i, (sS P ops TT HH q).take (HH i).length ++ [ob]) := by
        unfold astep
        rw [hc, ← aalloc_congr hag, hv]
        simp only [Option.map_some, htl, e1]
      have hfr' : Fresh ρ ((sS P ops TT HH q).take (HH i).length) ((sS P ops TT HH q).take (HH i).length ++ [ob]) := fun id h1 h2 => by
        rw [List.length_append, htl] at h2
        rw [htl] at h1
        exact hfree id h1 (by rw [← e2]; simpa using h2)
      refine op_rel hS hF ho hs (I.step.rel.pre hpre) I.frame hfr' (fun ρ' v' W' hv' S1 => hK ρ' _ W' q ?_)
      have hlen' : ((sS P ops TT HH q).take (HH i).length ++ [ob]).length = (HH i).length + 1 := by rw [List.length_append, htl]; rfl
      refine ⟨hsz, hcl, ?_, ?_, I.qle, fun w h1 h2 => hmono (I.qlow w h1 h2), hqn, I.step.over hpre S1 hfr' rfl (by rw [hlen', sS_len]; omega) (fun id o h => ?_) (fun id o L _ h _ => h) (by rw [htl]; exact len_mono hS hstA 0 i (Nat.zero_le _) (by omega)), fun id h1 h2 h3 => ?_⟩
      · rw [hset]
        exact (I.frame.mono (S1.mono hfr')).put (operOk_dst ho) hv'
      · rw [put_same]; exact I.defers
      · by_cases hid : id < (HH i).length
        · rw [List.getElem?_append_left (by rw [htl]; exact hid)] at h
          exact hpre id o h
        · have := (List.getElem?_eq_some_iff.1 h).1
          rw [hlen'] at this
          have : id = (HH i).length := by omega
          subst this
          rw [List.getElem?_append_right (by rw [htl]; exact Nat.le_refl _), htl, Nat.sub_self] at h
          cases h
          exact key
      · by_cases hid : id = (HH i).length
        · subst hid
          exact ⟨i, hlt, (dn_set hsL).2 (.inr rfl), hw, Nat.le_refl _, by rw [← e2]; simp⟩
        · rw [S1.out id (by rw [hlen', htl]; omega)] at h3
          exact hown id h1 h2 h3
    | _ =>
      have hW : WAt P ops TT i := ⟨hw, isW_cls.2 (by rw [hc]; simp)⟩
      have hiq : i = q := by
        rcases Nat.lt_trichotomy i q with h | h | h
        · exact (hnd (I.qlow i h hW)).elim
        · exact h
        · have hq : q < ops.size := by omega
          rcases I.qnext with h' | ⟨h1, h2⟩
          · omega
          · rcases hD.pair i hlt q h with h3 | ⟨_, h3⟩
            · exact (h2 (hbefore q hq h3)).elim
            · exact (h3 h1.2 hW.2).elim
      subst hiq
      obtain ⟨q2, g1, g2, g3, g4⟩ := next_ex (P := P) (TT := TT) (i + 1) hlt
      have hs : astep P w0 call (opAt ops i) (tL ops (TT 0) vv L ops.size) (HH i) = some (vv i, HH (i + 1)) := by
        rw [← astep_congr hag]; exact hstep
      have hpre : ∀ (id : Nat) (o : AObj), (HH i)[id]? = some o → (sS P ops TT HH i)[id]? = some o := fun id o h => sS_low hS hstA (by omega) h
      have hfr' : Fresh ρ (HH i) (HH (i + 1)) := hfree
      have hl1 := len_mono hS hstA (i + 1) ops.size hlt (Nat.le_refl _)
      refine op_rel hS hF ho hs (I.step.rel.pre hpre) I.frame hfr' (fun ρ' v' W' hv' S1 => hK ρ' _ W' q2 ?_)
      refine ⟨hsz, hcl, ?_, ?_, g2, fun w h1 h2 => ?_, ?_, I.step.over hpre S1 hfr' (by rw [sS_len, sS_len]) (by rw [sS_len]; exact hl1) (fun id o h => sS_low hS hstA g2 ((between hstA q2 g1 g2 g3).1 id o h)) (fun id o L0 h1 h2 h3 => ?_)
        (len_mono hS hstA 0 i (Nat.zero_le _) (by omega)), fun id h1 h2 h3 => ?_⟩
      · rw [hset]
        exact (I.frame.mono (S1.mono hfr')).put (operOk_dst ho) hv'
      · rw [put_same]; exact I.defers
      · rcases Nat.lt_trichotomy w i with h | h | h
        · exact hmono (I.qlow w h h2)
        · exact (dn_set hsL).2 (.inr h)
        · exact (g3 w h h1 h2).elim
      · rcases g4 with h | h
        · exact .inl h
        · by_cases hN : q2 = ops.size
          · exact .inl hN
          · refine .inr ⟨h, fun h1 => ?_⟩
            rcases (dn_set hsL).1 h1 with h1 | h1
            · rcases hD.pair q2 (by omega) i (by omega) with h2 | ⟨_, h2⟩
              · exact hafter q2 (by omega) h1 h2
              · exact h2 hW.2 h.2
            · omega
      · have hidN : id < (HH ops.size).length := by have := (List.getElem?_eq_some_iff.1 h2).1; rwa [sS_len] at this
        have l0 := len_mono hS hstA 0 (i + 1) (Nat.zero_le _) hlt
        obtain ⟨j, h4, h5, h6, h7, h8⟩ := I.own id (by omega) hidN (by rw [h3]; simp)
        have hj : i < j := by
          rcases Nat.lt_trichotomy j i with h | h | h
          · have := len_mono hS hstA (j + 1) (i + 1) (by omega) hlt; omega
          · subst h; exact (hnd h5).elim
          · exact h
        have hjW : ¬ WAt P ops TT j := fun h => by
          rcases hD.pair j h4 i hj with h9 | ⟨_, h9⟩
          · exact hafter j h4 h5 h9
          · exact h9 hW.2 h.2
        rcases stepAt_cases (hstA j h4) hjW with ⟨h9, _⟩ | ⟨ob, h9, h10⟩
        · rw [h9] at h8; omega
        · rw [h10] at h8
          have hid : id = (HH j).length := by simp at h8; omega
          subst hid
          have e1 : (sS P ops TT HH i)[(HH j).length]? = some ob := sS_high hS hstA h4 h9 (by have := len_mono hS hstA i j (by omega) (by omega); omega)
          have e2 : (sS P ops TT HH q2)[(HH j).length]? = some ob := by
            by_cases hq2 : j < q2
            · exact sS_low hS hstA g2 ((between hstA q2 g1 g2 g3).2 j _ ob (by omega) hq2 h9)
            · exact sS_high hS hstA h4 h9 (len_mono hS hstA q2 j (by omega) (by omega))
          rw [e2] at h2
          rw [e1, h2]
      · by_cases hid : id < (HH i).length ∨ (HH (i + 1)).length ≤ id
        · rw [S1.out id hid] at h3
          exact hown id h1 h2 h3
        · exact ⟨i, hlt, (dn_set hsL).2 (.inr rfl), hw, by omega, by omega⟩
  · rw [if_neg hw]
    have hnW : ¬ WAt P ops TT i := fun h => hw h.1
    obtain ⟨hqi, hqn⟩ := stay hnW
    have hstep := (hstA i hlt).2
    rw [if_neg hw] at hstep
    refine ⟨fun f _ => hF.fn f, hK ρ _ W q ⟨hsz, hcl, ?_, ?_, I.qle, fun w h1 h2 => hmono (I.qlow w h1 h2), hqn, I.step, hown⟩⟩
    · rw [hset, hstep.1]
      exact I.frame.put (operOk_dst ho) (cv_undef ρ)
    · rw [put_same]; exact I.defers
end
end Go.Am
/- The abstract machine beside the model's: regions whose order is open, whole. -/
namespace Go.Am
variable {P : Program} {w0 : World} {ρ0 ρ ρ' : Ren} {H H' : AH} {W0 W W' : World} {n m q : Nat} {T T' : Fr} {a a0 : Act} {call : CallA} {F : Fence} {O : Over}
variable {ops : Array Oper} {TT : Nat → Fr} {HH : Nat → AH} {vv : Nat → Value} {L : Array Bool}

theorem inv_end (hX : Facts P w0 call ops (Region.before ops) TT HH vv 0 [] []) (I : Inv P w0 ops TT HH vv n ρ0 W0 a0 L ρ a W q) (hall : ∀ j, j < ops.size → dn L j) :
    Step P w0 ρ0 ρ (HH 0) (HH ops.size) W0 W ∧ RelT ρ n (TT ops.size) a.tmps ∧ a.defers = a0.defers := by
  have hq : q = ops.size := by
    rcases I.qnext with h | ⟨_, h⟩
    · exact h
    · by_cases hlt : q < ops.size
      · exact (h (hall q hlt)).elim
      · have := I.qle; omega
  subst hq
  have hfr : tL ops (TT 0) vv L ops.size = TT ops.size := funext fun t => tL_low rfl (fun j hj => (hst hX j hj).1) (fun j hj _ => hall j hj) ops.size (Nat.le_refl _)
  refine ⟨?_, ?_, I.defers⟩
  · have := I.step
    rwa [sS_last] at this
  · have := I.frame
    rwa [hfr] at this

theorem inv_all (hS : Sound P w0 call) (hD : Dr P ops) (hX : Facts P w0 call ops (Region.before ops) TT HH vv 0 [] []) (hF : Open F) (hok : ∀ o ∈ ops.toList, operOk n o = true ∧ guardOk ops n o = true) {Q : Exit → Act → World → Prop} (hf : Fresh ρ0 (HH 0) (HH ops.size))
    (hQ : ∀ ρ' a' W', Step P w0 ρ0 ρ' (HH 0) (HH ops.size) W0 W' → RelT ρ' n (TT ops.size) a'.tmps → a'.defers = a0.defers → Q .normal a' W') :
    ∀ (fuel : Nat) (L : Array Bool) (ρ : Ren) (a : Act) (W : World) (q : Nat), cntU L ops.size = fuel → Inv P w0 ops TT HH vv n ρ0 W0 a0 L ρ a W q → wpAnyIn F m P .any ops Q fuel L a W
  | 0, L, ρ, a, W, q, hc, I => by
    have hall := cntU_zero ops.size hc
    obtain ⟨h1, h2, h3⟩ := inv_end hX I hall
    refine ⟨?_, hQ ρ a W h1 h2 h3⟩
    rw [List.eq_nil_iff_forall_not_mem]
    intro i hi
    obtain ⟨hlt, hun, _⟩ := ready_iff.1 hi
    have hsL : i < L.size := by rw [I.size]; exact hlt
    have hd := hall i hlt
    unfold dn at hd
    have : L.getD i false = L.getD i true := by simp [Array.getD_eq_getD_getElem?, hsL]
    rw [this, hun] at hd
    cases hd
  | fuel + 1, L, ρ, a, W, q, hc, I => by
    refine ⟨fun hr => ?_, fun i hi => ?_⟩
    · have hall := ready_nil hD I.size hr
      obtain ⟨h1, h2, h3⟩ := inv_end hX I hall
      exact hQ ρ a W h1 h2 h3
    · obtain ⟨hlt, hun, _⟩ := ready_iff.1 hi
      have hsL : i < L.size := by rw [I.size]; exact hlt
      have hnd : ¬ dn L i := by
        unfold dn
        have : L.getD i false = L.getD i true := by simp [Array.getD_eq_getD_getElem?, hsL]
        rw [this, hun]
        simp
      have hcnt := (cntU_set hsL hnd ops.size).2 hlt
      exact inv_step hS hD hX hF hok (Q := Q) hf I hi (fun ρ' a' W' q' I' => inv_all hS hD hX hF hok hf hQ fuel _ ρ' a' W' q' (by omega) I')

theorem draw_sound (hS : Sound P w0 call) : DrawSound P w0 call := by
  intro n ops T T' H H' hok hdr hev F hF m ρ a W Q R hf hT hQ
  obtain ⟨f1, f2, hX⟩ := evD_facts (T0 := T) (H0 := H) hS ops.toList 0 T H [] [] T' H' rfl (Nat.zero_le _) rfl rfl (fun p hp => by cases hp) hev
  have hDr := Dr.of hdr
  have hstA := hst hX
  obtain ⟨q, g1, g2, g3, g4⟩ := next_ex (P := P) (TT := tD P w0 call ops T H) 0 (Nat.zero_le ops.size)
  have hnd : ∀ j, ¬ dn (Array.replicate ops.size false) j := fun j h => by
    unfold dn at h
    simp only [Array.getD_eq_getD_getElem?, Array.getElem?_replicate] at h
    split at h <;> cases h
  have hlow : ∀ (id : Nat) (o : AObj), H[id]? = some o → (sS P ops (tD P w0 call ops T H) (hD P w0 call ops T H) q)[id]? = some o := fun id o h => sS_low hS hstA g2 ((between hstA q g1 g2 g3).1 id o h)
  have hsl : (sS P ops (tD P w0 call ops T H) (hD P w0 call ops T H) q).length = H'.length := by rw [sS_len, f2]
  have hl0 : H.length ≤ H'.length := by
    have := len_mono hS hstA 0 ops.size (Nat.zero_le _) (Nat.le_refl _)
    rw [f2] at this
    exact this
  have hid : ∀ (id : Nat) (o : AObj) (L : Loc), (sS P ops (tD P w0 call ops T H) (hD P w0 call ops T H) q)[id]? = some o → ρ id = some L → H[id]? = some o := by
    intro id o L h1 h2
    have h3 := (List.getElem?_eq_some_iff.1 h1).1
    by_cases hlt : id < H.length
    · have h4 : H[id]? = some H[id] := List.getElem?_eq_getElem hlt
      rw [hlow id _ h4] at h1
      rw [h4, h1]
    · rw [hf id (by omega) (by omega)] at h2; cases h2
  have I : Inv P w0 ops (tD P w0 call ops T H) (hD P w0 call ops T H) (vD P w0 call ops T H) n ρ W a (Array.replicate ops.size false) ρ a W q := by
    refine ⟨by simp, fun j _ h => (hnd j h).elim, ?_, rfl, g2, fun w h1 h2 => (g3 w (Nat.zero_le _) h1 h2).elim, ?_, ?_, fun id h1 h2 h3 => ?_⟩
    · have : tL ops (tD P w0 call ops T H 0) (vD P w0 call ops T H) (Array.replicate ops.size false) ops.size = T := funext fun t => tL_high (i := 0) ops.size (Nat.zero_le _) (fun j _ _ _ h => hnd j h)
      rw [this]
      exact hT
    · rcases g4 with h | h
      · exact .inl h
      · exact .inr ⟨h, hnd q⟩
    · refine ⟨by rw [hsl]; exact hl0, fun _ _ => rfl, fun id L0 h1 h2 h3 => ?_, fun id h => hlow id _ h, ⟨R.size, R.base, R.lo, fun i j o q L M h1 h2 h3 h4 h5 h6 h7 => R.inj i j o q L M (hid i o L h1 h5) (hid j q M h2 h6) h3 h4 h5 h6 h7, fun i o L h1 h2 => R.obj i o L (hid i o L h1 h2) h2⟩,
        Nat.le_refl _, fun _ _ _ => rfl, rfl, rfl, rfl⟩
      rw [hf id h1 (by rw [hsl] at h2; exact h2)] at h3
      cases h3
    · exact (h3 (hf id h1 (by rw [f2] at h2; exact h2))).elim
  have hf' : Fresh ρ (hD P w0 call ops T H 0) (hD P w0 call ops T H ops.size) := by rw [f2]; exact hf
  refine inv_all hS hDr hX hF hok hf' (fun ρ' a' W' h1 h2 h3 => hQ ρ' a' W' ?_ ?_ h3) ops.size _ ρ a W q (cntU_rep _ _) I
  · rw [f2] at h1; exact h1
  · rw [f1] at h2; exact h2

/-- The abstract machine is right. -/
theorem sound (hO : OverOk P w0 O) (k : Nat) : Sound P w0 (evCall P w0 O k) := evCall_sound hO (fun _ hS => draw_sound hS) k
end Go.Am
/- The abstract machine: more fuel tells the same; what a run comes to, without fuel. -/
namespace Go.Am
variable {P : Program} {w0 : World} {H H' : AH} {n : Nat} {T T' : Fr} {c1 c2 call : CallA} {O : Over}

def CLe (c1 c2 : CallA) : Prop := ∀ tg vs H r, c1 tg vs H = some r → c2 tg vs H = some r
theorem acall_mono (h : CLe c1 c2) {o : Oper} {r : Value × AH} (hr : acall c1 o T H = some r) : acall c2 o T H = some r := by
  unfold acall at hr ⊢
  split at hr
  · rename_i f args ats ho
    split at hr
    · rename_i tg vs hc
      try simp only [hc]
      exact h _ _ _ _ hr
    · cases hr
  · cases hr
theorem astep_mono (h : CLe c1 c2) {o : Oper} {r : Value × AH} (hr : astep P w0 c1 o T H = some r) : astep P w0 c2 o T H = some r := by
  unfold astep at hr ⊢
  cases hc : clsOf P o <;> rw [hc] at hr <;> first | exact hr | exact acall_mono h hr
theorem evOps_mono (h : CLe c1 c2) {ops : Array Oper} : ∀ (r : List Oper) (T : Fr) (H : AH) {q : Fr × AH}, evOps P w0 c1 ops r T H = some q → evOps P w0 c2 ops r T H = some q
  | [], _, _, _, hq => hq
  | o :: r, T, H, q, hq => by
    simp only [evOps] at hq ⊢
    split at hq
    · rename_i hw
      rw [if_pos hw]
      split at hq
      · rename_i v H1 h1
        rw [astep_mono h h1]
        exact evOps_mono h r _ _ hq
      · cases hq
    · rename_i hw
      rw [if_neg hw]
      exact evOps_mono h r _ _ hq
theorem evD_mono (h : CLe c1 c2) {ops : Array Oper} {bef : Array Nat} : ∀ (r : List Oper) (i : Nat) (T : Fr) (H : AH) (hist : List (Nat × AH)) (reads : List (Nat × (AH → Bool))) {q : Fr × AH}, evD P w0 c1 ops bef r i T H hist reads = some q → evD P w0 c2 ops bef r i T H hist reads = some q
  | [], _, _, _, _, _, _, hq => hq
  | o :: r, i, T, H, hist, reads, q, hq => by
    simp only [evD] at hq ⊢
    split at hq
    · rename_i hw
      rw [if_pos hw]
      split at hq
      · rename_i hc
        split at hq
        · cases hq
        · rename_i v hv
          try simp only [hc, hv]
          split at hq
          · rename_i hh
            rw [if_pos hh]
            split at hq
            · rename_i hk
              rw [if_pos hk]
              exact evD_mono h r _ _ _ _ _ hq
            · cases hq
          · rename_i hh
            rw [if_neg hh]
            exact evD_mono h r _ _ _ _ _ hq
      · rename_i hc
        split at hq
        · cases hq
        · rename_i p hp
          try simp only [hc, hp]
          exact evD_mono h r _ _ _ _ _ hq
      · rename_i hc
        split at hq
        · cases hq
        · rename_i v H1 hv
          try simp only [hc, hv]
          split at hq
          · rename_i hk
            rw [if_pos hk]
            exact evD_mono h r _ _ _ _ _ hq
          · cases hq
      · rename_i hc
        split at hq
        · cases hq
        · rename_i v H1 hv
          simp only [hc, acall_mono h hv]
          split at hq
          · rename_i hk
            rw [if_pos hk]
            exact evD_mono h r _ _ _ _ _ hq
          · cases hq
    · rename_i hw
      rw [if_neg hw]
      exact evD_mono h r _ _ _ _ _ hq
theorem aiter_mono {b1 b2 : Fr → AH → Option (Exit × Fr × AH)} (hb : ∀ T H r, b1 T H = some r → b2 T H = some r) : ∀ (k k' : Nat) (T : Fr) (H : AH) {r : Exit × Fr × AH}, k ≤ k' → aiter k b1 T H = some r → aiter k' b2 T H = some r
  | 0, _, _, _, _, _, h => by cases h
  | k + 1, 0, _, _, _, hk, _ => by omega
  | k + 1, k' + 1, T, H, r, hk, h => by
    simp only [aiter] at h ⊢
    split at h
    · rename_i T1 H1 h1
      rw [hb _ _ _ h1]
      exact aiter_mono hb k k' _ _ (by omega) h
    · rename_i hne
      rw [hb _ _ _ h]
      obtain ⟨e, T1, H1⟩ := r
      cases e <;> first | rfl | exact (hne _ _ h).elim
theorem evCode_mono (h : CLe c1 c2) {k k' : Nat} (hk : k ≤ k') : ∀ (c : Code) (T : Fr) (H : AH) {r : Exit × Fr × AH}, evCode P w0 c1 k n c T H = some r → evCode P w0 c2 k' n c T H = some r
  | .skip, _, _, _, hr => hr
  | .label _, _, _, _, hr => hr
  | .exit _, _, _, _, hr => hr
  | .ret, _, _, _, hr => hr
  | .scope _, _, _, _, hr => by simp [evCode] at hr
  | .goto _, _, _, _, hr => by simp [evCode] at hr
  | .refuse _, _, _, _, hr => by simp [evCode] at hr
  | .region id ops draw, T, H, r, hr => by
    simp only [evCode] at hr ⊢
    split at hr
    · rename_i hd
      rw [if_pos hd]
      rw [Option.map_eq_some_iff] at hr ⊢
      obtain ⟨p, h1, h2⟩ := hr
      exact ⟨p, evD_mono h _ _ _ _ _ _ h1, h2⟩
    · rename_i hd
      rw [if_neg hd]
      rw [Option.map_eq_some_iff] at hr ⊢
      obtain ⟨p, h1, h2⟩ := hr
      exact ⟨p, evOps_mono h _ _ _ h1, h2⟩
  | .seq x y, T, H, r, hr => by
    simp only [evCode] at hr ⊢
    split at hr
    · rename_i T1 H1 h1
      rw [evCode_mono h hk x _ _ h1]
      exact evCode_mono h hk y _ _ hr
    · rename_i hne
      rw [evCode_mono h hk x _ _ hr]
      obtain ⟨e, T1, H1⟩ := r
      cases e <;> first | rfl | exact (hne _ _ hr).elim
  | .cond c x y, T, H, r, hr => by
    simp only [evCode] at hr ⊢
    split at hr
    · rename_i t ht
      try simp only [ht]
      split at hr
      · rename_i hq; rw [if_pos hq]; exact evCode_mono h hk x _ _ hr
      · rename_i hq; rw [if_neg hq]; exact evCode_mono h hk y _ _ hr
    · cases hr
  | .block id x, T, H, r, hr => by
    simp only [evCode] at hr ⊢
    split at hr
    · rename_i i T1 H1 h1
      rw [evCode_mono h hk x _ _ h1]
      exact hr
    · rename_i hne
      rw [evCode_mono h hk x _ _ hr]
      obtain ⟨e, T1, H1⟩ := r
      cases e <;> first | rfl | exact (hne _ _ _ hr).elim
  | .loop x, T, H, r, hr => by
    simp only [evCode] at hr ⊢
    exact aiter_mono (fun T H r hq => evCode_mono h hk x T H hq) _ _ _ _ hk hr
  | .rangeFunc g ps as bd, T, H, r, hr => by
    simp only [evCode] at hr ⊢
    split at hr
    · rename_i f vs hcl
      try simp only [hcl]
      split at hr
      · cases hr
      · rename_i hen
        rw [if_neg hen]
        split at hr
        · cases hr
        · rename_i v H1 h1
          rw [h _ _ _ _ h1]
          exact hr
    · cases hr

def OverMono (O : Over) : Prop := ∀ f g, O f = some g → ∀ c1 c2, CLe c1 c2 → ∀ vs H r, g c1 vs H = some r → g c2 vs H = some r
theorem evCall_step (hO : OverMono O) : ∀ k, CLe (evCall P w0 O k) (evCall P w0 O (k + 1))
  | 0 => fun _ _ _ _ h => by simp [evCall] at h
  | k + 1 => by
    have ih := evCall_step hO k
    intro tg vs H r h
    cases tg with
    | fn f =>
      rw [evCall] at h ⊢
      split at h
      · rename_i g hg
        try simp only [hg]
        exact hO f g hg _ _ ih _ _ _ h
      · rename_i hg
        try simp only [hg]
        split at h
        · cases h
        · rename_i fn hfn
          try simp only [hfn]
          split at h
          · cases h
          · rename_i c hb
            try simp only [hb]
            split at h
            · rename_i hc
              rw [if_pos hc]
              split at h
              · rename_i T1 H1 h1
                rw [evCode_mono ih (Nat.le_succ k) _ _ _ h1]
                exact h
              · rename_i T1 H1 h1
                rw [evCode_mono ih (Nat.le_succ k) _ _ _ h1]
                exact h
              · cases h
            · cases h
    | yield l =>
      rw [evCall] at h ⊢
      split at h
      · rename_i pend n T ps as bd h0
        try simp only [h0]
        split at h
        · rename_i hl
          rw [if_pos hl]
          split at h
          · rename_i T1 H1 h1
            rw [evCode_mono ih (Nat.le_succ k) _ _ _ h1]
            simp only
            split at h
            · rename_i p1 n1 T0 ps1 a1 b1 h2
              try simp only [h2]
              split at h
              · rename_i e T2 H2 h3
                rw [evCode_mono ih (Nat.le_succ k) _ _ _ h3]
                exact h
              · cases h
            · cases h
          · cases h
        · cases h
      · cases h
theorem evCall_le (hO : OverMono O) {k k' : Nat} (h : k ≤ k') : CLe (evCall P w0 O k) (evCall P w0 O k') := by
  induction h with
  | refl => exact fun _ _ _ _ h => h
  | step _ ih => exact fun tg vs H r hr => evCall_step hO _ _ _ _ _ (ih tg vs H r hr)
end Go.Am
/- The abstract machine: rules, without fuel. -/
namespace Go.Am

def noCall : CallA := fun _ _ _ => none
theorem noCall_le (c : CallA) : CLe noCall c := fun _ _ _ _ h => by cases h

section
variable (P : Program) (w0 : World) (O : Over)
def Does (f : Nat) (vs : List Value) (H : AH) (v : Value) (H' : AH) : Prop := ∃ k, evCall P w0 O k (.fn f) vs H = some (v, H')
def Yields' (l : Nat) (vs : List Value) (H : AH) (v : Value) (H' : AH) : Prop := ∃ k, evCall P w0 O k (.yield l) vs H = some (v, H')
def Runs (n : Nat) (c : Code) (T : Fr) (H : AH) (e : Exit) (T' : Fr) (H' : AH) : Prop := ∃ k, evCode P w0 (evCall P w0 O k) k n c T H = some (e, T', H')
def ROps (ops : Array Oper) (r : List Oper) (T : Fr) (H : AH) (T' : Fr) (H' : AH) : Prop := ∃ k, evOps P w0 (evCall P w0 O k) ops r T H = some (T', H')
end
variable {P : Program} {w0 : World} {O : Over} {n : Nat} {T T1 T' : Fr} {H H1 H' : AH} {e : Exit} {x y c : Code} {ops : Array Oper} {r : List Oper} {o : Oper} {v : Value}

theorem Runs.skip : Runs P w0 O n .skip T H .normal T H := ⟨0, rfl⟩
theorem Runs.label {l : Nat} : Runs P w0 O n (.label l) T H .normal T H := ⟨0, rfl⟩
theorem Runs.exit {i : Nat} : Runs P w0 O n (.exit i) T H (.exit i) T H := ⟨0, rfl⟩
theorem Runs.ret : Runs P w0 O n .ret T H .ret T H := ⟨0, rfl⟩

variable (hM : OverMono O)
include hM
theorem Runs.seq (h1 : Runs P w0 O n x T H .normal T1 H1) (h2 : Runs P w0 O n y T1 H1 e T' H') : Runs P w0 O n (.seq x y) T H e T' H' := by
  obtain ⟨k1, h1⟩ := h1
  obtain ⟨k2, h2⟩ := h2
  refine ⟨max k1 k2, ?_⟩
  simp only [evCode]
  rw [evCode_mono (evCall_le hM (Nat.le_max_left k1 k2)) (Nat.le_max_left _ _) _ _ _ h1]
  exact evCode_mono (evCall_le hM (Nat.le_max_right k1 k2)) (Nat.le_max_right _ _) _ _ _ h2
omit hM in
theorem Runs.out (h1 : Runs P w0 O n x T H e T' H') (he : e ≠ .normal) : Runs P w0 O n (.seq x y) T H e T' H' := by
  obtain ⟨k1, h1⟩ := h1
  refine ⟨k1, ?_⟩
  simp only [evCode, h1]
  cases e <;> first | rfl | exact (he rfl).elim
omit hM in
theorem Runs.cond {d : Operand} {t : Bool} (hd : aev T d = .bool t) (h : Runs P w0 O n (if t then x else y) T H e T' H') : Runs P w0 O n (.cond d x y) T H e T' H' := by
  obtain ⟨k, h⟩ := h
  refine ⟨k, ?_⟩
  simp only [evCode, hd]
  cases t <;> exact h
omit hM in
theorem Runs.block_exit {i : Nat} (h : Runs P w0 O n x T H (.exit i) T' H') : Runs P w0 O n (.block i x) T H .normal T' H' := by
  obtain ⟨k, h⟩ := h
  exact ⟨k, by simp only [evCode, h, if_true]⟩
omit hM in
theorem Runs.block {i : Nat} (h : Runs P w0 O n x T H e T' H') (he : e ≠ .exit i) : Runs P w0 O n (.block i x) T H e T' H' := by
  obtain ⟨k, h⟩ := h
  refine ⟨k, ?_⟩
  simp only [evCode, h]
  cases e <;> try rfl
  rename_i j
  have : j ≠ i := fun q => he (by rw [q])
  simp [this]
theorem Runs.loop_next (h1 : Runs P w0 O n x T H .normal T1 H1) (h2 : Runs P w0 O n (.loop x) T1 H1 e T' H') : Runs P w0 O n (.loop x) T H e T' H' := by
  obtain ⟨k1, h1⟩ := h1
  obtain ⟨k2, h2⟩ := h2
  refine ⟨max k1 k2 + 1, ?_⟩
  have l1 : k1 ≤ max k1 k2 + 1 := by have := Nat.le_max_left k1 k2; omega
  have l2 : k2 ≤ max k1 k2 + 1 := by have := Nat.le_max_right k1 k2; omega
  simp only [evCode] at h2 ⊢
  rw [aiter, evCode_mono (evCall_le hM l1) l1 _ _ _ h1]
  exact aiter_mono (fun T H r hq => evCode_mono (evCall_le hM l2) l2 _ T H hq) _ _ _ _ (Nat.le_max_right k1 k2) h2
theorem Runs.loop_out (h1 : Runs P w0 O n x T H e T' H') (he : e ≠ .normal) : Runs P w0 O n (.loop x) T H e T' H' := by
  obtain ⟨k1, h1⟩ := h1
  refine ⟨k1 + 1, ?_⟩
  simp only [evCode]
  rw [aiter, evCode_mono (evCall_le hM (Nat.le_succ k1)) (Nat.le_succ k1) _ _ _ h1]
  cases e <;> first | rfl | exact (he rfl).elim
omit hM in
theorem Runs.region {i : Nat} (h : ROps P w0 O ops ops.toList T H T' H') : Runs P w0 O n (.region i ops false) T H .normal T' H' := by
  obtain ⟨k, h⟩ := h
  exact ⟨k, by simp [evCode, h]⟩
omit hM in
theorem ROps.nil : ROps P w0 O ops [] T H T H := ⟨0, rfl⟩
omit hM in
theorem ROps.step (hw : awanted ops o T = true) (h1 : astep P w0 noCall o T H = some (v, H1)) (h2 : ROps P w0 O ops r (aput T o.dst v) H1 T' H') : ROps P w0 O ops (o :: r) T H T' H' := by
  obtain ⟨k, h2⟩ := h2
  refine ⟨k, ?_⟩
  simp only [evOps, hw, if_true, astep_mono (noCall_le _) h1]
  exact h2
omit hM in
theorem ROps.pass (hw : awanted ops o T = false) (h2 : ROps P w0 O ops r (aput T o.dst undef) H T' H') : ROps P w0 O ops (o :: r) T H T' H' := by
  obtain ⟨k, h2⟩ := h2
  refine ⟨k, ?_⟩
  simp only [evOps, hw, Bool.false_eq_true, if_false]
  exact h2
theorem ROps.call (hw : awanted ops o T = true) {d : Operand} {args : Array Operand} {ats : Array TypeId} (ho : o.op = .call { callee := .value d, args := args, argTypes := ats }) {f : Nat} {vs : List Value}
    (hc : callee (aev T d) (args.map (aev T)).toList = some (.fn f, vs)) (h1 : Does P w0 O f vs H v H1) (h2 : ROps P w0 O ops r (aput T o.dst v) H1 T' H') : ROps P w0 O ops (o :: r) T H T' H' := by
  obtain ⟨k1, h1⟩ := h1
  obtain ⟨k2, h2⟩ := h2
  refine ⟨max k1 k2, ?_⟩
  have hs : astep P w0 (evCall P w0 O (max k1 k2)) o T H = some (v, H1) := by
    unfold astep clsOf acall
    simp only [ho, hc]
    exact evCall_le hM (Nat.le_max_left k1 k2) _ _ _ _ h1
  simp only [evOps, hw, if_true, hs]
  exact evOps_mono (evCall_le hM (Nat.le_max_right k1 k2)) _ _ _ h2
omit hM in
theorem Does.intro {f : Nat} {fn : Func} {c : Code} {vs : List Value} (hO : O f = none) (hf : P.funcs[f]? = some fn) (hb : fn.body = some c) (hok : funcOk P fn = true) (hl : vs.length ≤ fn.ntmps)
    (h : Runs P w0 O fn.ntmps c (frame0 vs) H e T' H') (he : e = .normal ∨ e = .ret) (hv : aresults P w0 fn T' H' = some v) : Does P w0 O f vs H v H' := by
  obtain ⟨k, h⟩ := h
  refine ⟨k + 1, ?_⟩
  rw [evCall]
  simp only [hO, hf, hb, hok, hl, decide_true, Bool.and_self, if_true, h]
  rcases he with rfl | rfl <;> simp [hv]
omit hM in
theorem Does.over {f : Nat} {g : CallA → List Value → AH → Option (Value × AH)} {vs : List Value} (hO : O f = some g) (h : ∃ k, g (evCall P w0 O k) vs H = some (v, H')) : Does P w0 O f vs H v H' := by
  obtain ⟨k, h⟩ := h
  refine ⟨k + 1, ?_⟩
  rw [evCall]
  simp only [hO, h]

/- a loop that ends after m rounds: T and H by the number of the round -/
theorem Runs.rounds {TT : Nat → Fr} {HH : Nat → AH} (m : Nat) (hr : ∀ i, i < m → Runs P w0 O n x (TT i) (HH i) .normal (TT (i + 1)) (HH (i + 1))) (he : e ≠ .normal) (hx : Runs P w0 O n x (TT m) (HH m) e T' H') :
    ∀ i, i ≤ m → Runs P w0 O n (.loop x) (TT i) (HH i) e T' H' := by
  intro i hi
  obtain ⟨d, hd⟩ : ∃ d, d = m - i := ⟨_, rfl⟩
  induction d generalizing i with
  | zero =>
    have : i = m := by omega
    subst this
    exact Runs.loop_out hM hx he
  | succ d ih => exact Runs.loop_next hM (hr i (by omega)) (ih (i + 1) (by omega) (by omega))
end Go.Am
/- The abstract machine: what single operations come to. -/
namespace Go.Am
variable {P : Program} {w0 : World} {H X : AH} {t : TypeId} {xo yo : Operand} {k : IntKind} {a b : Int}
@[simp] theorem pv_program : pv P program = some P := rfl
theorem pv_map {α β : Type} (f : α → β) (s : Sem α) : pv P (f <$> s) = (pv P s).map f := by
  rw [map_eq_pure_bind, pv_bind]
  cases pv P s <;> rfl
theorem sub_app (H X : AH) : Sub H (H ++ X) := fun i o h _ => by rw [List.getElem?_append_left (List.getElem?_eq_some_iff.1 h).1]; exact h
theorem acells_app {x : Addr} {m : Nat} {l : List Value} (h : acells w0 H x m = some l) : acells w0 (H ++ X) x m = some l := acells_sub (sub_app H X) h
theorem get_app {i : Nat} {o : AObj} (h : H[i]? = some o) : (H ++ X)[i]? = some o := by rw [List.getElem?_append_left (List.getElem?_eq_some_iff.1 h).1]; exact h
@[simp] theorem get_last {o : AObj} : (H ++ [o])[H.length]? = some o := by simp
@[simp] theorem set_last {o q : AObj} : (H ++ [o]).set H.length q = H ++ [q] := by simp
theorem abin_lss : abin P .lss t xo yo (.int k a) (.int k b) = some (.bool (decide (a < b))) := by simp [abin, scal, onlyScal, eqGuard, binOp, Op.intCmp]
theorem abin_leq : abin P .leq t xo yo (.int k a) (.int k b) = some (.bool (decide (a ≤ b))) := by simp [abin, scal, onlyScal, eqGuard, binOp, Op.intCmp]
theorem abin_gtr : abin P .gtr t xo yo (.int k a) (.int k b) = some (.bool (decide (b < a))) := by simp [abin, scal, onlyScal, eqGuard, binOp, Op.intCmp]
theorem abin_geq : abin P .geq t xo yo (.int k a) (.int k b) = some (.bool (decide (b ≤ a))) := by simp [abin, scal, onlyScal, eqGuard, binOp, Op.intCmp]
theorem abin_add : abin P .add t xo yo (.int k a) (.int k b) = some (.int k (k.wrap (a + b))) := by simp [abin, scal, onlyScal, eqGuard, binOp, Op.intArith]
theorem abin_sub : abin P .sub t xo yo (.int k a) (.int k b) = some (.int k (k.wrap (a - b))) := by simp [abin, scal, onlyScal, eqGuard, binOp, Op.intArith]
theorem abin_mul : abin P .mul t xo yo (.int k a) (.int k b) = some (.int k (k.wrap (a * b))) := by simp [abin, scal, onlyScal, eqGuard, binOp, Op.intArith]
theorem abin_eql_int : abin P .eql t xo yo (.int k a) (.int k b) = some (.bool (decide (a = b))) := by
  simp [abin, scal, onlyScal, eqGuard, binOp, Op.intCmp]
  by_cases h : a = b <;> simp [h]
theorem abin_neq_int : abin P .neq t xo yo (.int k a) (.int k b) = some (.bool (!decide (a = b))) := by
  simp [abin, scal, onlyScal, eqGuard, binOp, Op.intCmp]
  by_cases h : a = b <;> simp [h]
/- equality of structs and the like, out of the model's own -/
theorem abin_eql_agg {xs ys : Array Value} {q : Bool} (hx : scal (.agg xs) = true) (hy : scal (.agg ys) = true) (hg : P.eqGuardType P.depth t = false) (h : pv P (Op.equal t (.agg xs) (.agg ys)) = some q) : abin P .eql t xo yo (.agg xs) (.agg ys) = some (.bool q) := by
  unfold abin
  rw [hx, hy]
  simp [onlyScal, eqGuard, binOp, pv_bind, pv_map, hg, h, scal]
theorem abin_neq_agg {xs ys : Array Value} {q : Bool} (hx : scal (.agg xs) = true) (hy : scal (.agg ys) = true) (hg : P.eqGuardType P.depth t = false) (h : pv P (Op.equal t (.agg xs) (.agg ys)) = some q) : abin P .neq t xo yo (.agg xs) (.agg ys) = some (.bool (!q)) := by
  unfold abin
  rw [hx, hy]
  simp [onlyScal, eqGuard, binOp, pv_bind, pv_map, hg, h, scal]
/- the place of an element -/
theorem aindexAddr_at {e : TypeId} {sz n c i blk off : Nat} {sp : Option Nat} (hu : P.underlying t = some (.slice e)) (hs : asize P e = some sz) (hi : i < n) (hsp : sp = none ∨ sp = some 0) :
    aindexAddr P t (.slice (some ⟨blk, off, sp⟩) n c) (.int k i) = some (.pointer (some ⟨blk, off + i * sz, sp⟩)) := by
  rcases hsp with rfl | rfl <;> simp [aindexAddr, hu, hs, aadd, hi]
theorem acells_last {cs : List Value} {e : TypeId} {g : Bool} {off m : Nat} : acells w0 (H ++ [.cells cs e g]) ⟨H.length, off, none⟩ m = if off + m ≤ cs.length then some ((cs.drop off).take m) else none := by simp [acells]
theorem acell_last {cs : List Value} {e : TypeId} {g : Bool} {off : Nat} : acell w0 (H ++ [.cells cs e g]) ⟨H.length, off, none⟩ = cs[off]? := by simp [acell]
theorem put_last {cs : List Value} {e : TypeId} {g : Bool} {off : Nat} {v : Value} {vs : List Value} (h : off + (v :: vs).length ≤ cs.length) (hc : (v :: vs).all cellV = true) :
    putCells (H ++ [.cells cs e g]) ⟨H.length, off, none⟩ (v :: vs) = some (H ++ [.cells (splice cs off (v :: vs)) e g]) := by
  simp only [putCells, get_last]
  rw [if_pos ⟨h, hc⟩, set_last]
theorem acells_at {i off m : Nat} {cs : List Value} {e : TypeId} {g : Bool} (h : H[i]? = some (.cells cs e g)) (hm : off + m ≤ cs.length) : acells w0 H ⟨i, off, none⟩ m = some ((cs.drop off).take m) := by simp [acells, h, hm]
/- a part of a code, by its way -/
def cat : List Bool → Code → Code
  | [], c => c
  | b :: p, .seq x y => cat p (if b then y else x)
  | b :: p, .cond _ x y => cat p (if b then y else x)
  | _ :: p, .block _ c => cat p c
  | _ :: p, .loop c => cat p c
  | _ :: _, c => c
def loopOf : Code → Option Code
  | .seq a b => match loopOf a with | some c => some c | none => loopOf b
  | .loop c => some c
  | .block _ c => loopOf c
  | .cond _ a b => match loopOf a with | some c => some c | none => loopOf b
  | _ => none
end Go.Am
/- The abstract machine: a law's call, from its run there. -/
namespace Go.Am
open Go.RowKit
variable {P : Program}
def none0 : Ren := fun _ => none
theorem rel_init (W : World) : Rel P W none0 [] W :=
  ⟨Nat.le_refl _, fun _ _ => rfl, fun i L h => (by cases h), fun i j o q L M h => (by simp at h), fun i o L h => (by simp at h)⟩
theorem law_calls {W : World} {O : Over} {f : Nat} {vs args : List Value} {H' : AH} {b : Bool} (hO : OverOk P W O) (hen : enters P f = true) (hd : Does P W O f vs [] (.bool b) H') (hv : cvL none0 vs = some args) :
    Calls P f ⟨args⟩ W fun e W' => e = .returned (.bool b) ∧ Below W.heap.size W W' := by
  obtain ⟨k, hd⟩ := hd
  rcases (sound hO k).fn f vs [] _ H' hd none0 W args (rel_init W) (fun i _ _ => rfl) hv with ⟨v', W', h1, _⟩ | ⟨_, h2⟩
  · rw [enters_run hen] at h1
    cases h1
  · refine (callsIn_wide (n := 0)).1 ((h2 0).mono ?_)
    rintro e W' ⟨v', rfl, ρ', hcv, S⟩
    have := cv_bool hcv
    subst this
    exact ⟨rfl, S.env.2.1, S.env.1, S.env.2.2, S.size, fun k hk => S.same k hk (fun i o L h => by simp at h)⟩
end Go.Am
/- The abstract machine: maps from whole numbers to whole numbers. -/
namespace Go.Am
variable {P : Program} {w0 : World} {H X : AH}
abbrev IM := List (Int × Int × Nat)
def mkE : Int × Int × Nat → MapEntry := fun p => { key := .int .i64 p.1, val := .int .i64 p.2.1, born := p.2.2 }
def findL (s : Int) : IM → Nat → Option (Nat × Int)
  | [], _ => none
  | (k, v, _) :: r, i => if s = k then some (i, v) else findL s r (i + 1)
theorem pv_checkKey_int {kt : TypeId} {q : IntKind} (hu : P.underlying kt = some (.int q)) (e : Bool) (n : Nat) (k : IntKind) (s : Int) : pv P (Instr.checkKey e (n + 1) kt (.int k s)) = some () := by
  simp [Instr.checkKey, pv_bind, pv_underlying, hu]
theorem findNow_int (q : IntKind) (s : Int) : ∀ (L : IM) (i : Nat), Instr.findNow (.int q) (.int .i64 s) (L.map mkE) i = some ((findL s L i).map fun p => (p.1, .int .i64 p.2))
  | [], _ => rfl
  | (k, v, b) :: r, i => by
    simp only [List.map_cons, Instr.findNow, mkE, Instr.sameNow, if_true, findL]
    by_cases h : s = k
    · simp [h]
    · have : (s == k) = false := by simpa using h
      simp only [this, h, if_false]
      exact findNow_int q s r (i + 1)
theorem afind_int {kt : TypeId} {q : IntKind} (hu : P.underlying kt = some (.int q)) (s : Int) (L : IM) (e : Bool) : afind P kt (.int .i64 s) (L.map mkE) e = some ((findL s L 0).map fun p => (p.1, .int .i64 p.2)) := by
  unfold afind
  have h1 : (scal (.int .i64 s) && (L.map mkE).all fun e => scal e.key) = true := by
    simp only [scal, Bool.true_and, List.all_eq_true]
    intro x hx
    obtain ⟨p, _, rfl⟩ := List.mem_map.1 hx
    rfl
  rw [if_pos h1, show (10000 : Nat) = 9999 + 1 from rfl, pv_checkKey_int hu]
  simp only [Instr.findKey, pv_bind, pv_underlying, hu, Option.bind_some, findNow_int, pv_pure]
def getI (s : Int) (L : IM) : Int := match findL s L 0 with | some p => p.2 | none => 0
theorem alookup_int {t kt et : TypeId} {q : IntKind} {r c : Nat} {L : IM} (hm : P.underlying t = some (.map kt et)) (hu : P.underlying kt = some (.int q)) (hz : azero P et = some (.int .i64 0)) (hr : H[r]? = some (.map (L.map mkE) c)) (s : Int) :
    alookup P H t (.map (some r)) (.int .i64 s) false = some (.int .i64 (getI s L)) := by
  unfold alookup
  simp only [hm, hr, afind_int hu, getI]
  cases findL s L 0 with
  | none => simp [hz]
  | some p => rfl
def setI (s v : Int) (b : Nat) : IM → IM
  | [] => [(s, v, b)]
  | (k, u, c) :: r => if s = k then (s, v, c) :: r else (k, u, c) :: setI s v b r
theorem findL_shift (s : Int) : ∀ (L : IM) (i j : Nat), findL s L (i + j) = (findL s L i).map fun p => (p.1 + j, p.2)
  | [], _, _ => rfl
  | (k, v, b) :: r, i, j => by
    simp only [findL]
    split
    · rfl
    · rw [show i + j + 1 = (i + 1) + j by omega, findL_shift s r (i + 1) j]
theorem setI_some (s v : Int) (b : Nat) : ∀ (L : IM) (i : Nat) (u : Int), findL s L 0 = some (i, u) → (L.map mkE).modify i (fun e => { e with key := .int .i64 s, val := .int .i64 v }) = (setI s v b L).map mkE ∧ ((L.map mkE)[i]?).map (·.key) = some (.int .i64 s)
  | [], i, u, h => by cases h
  | (k, w, c) :: r, i, u, h => by
    simp only [findL] at h
    split at h
    · rename_i e
      subst e
      cases h
      simp [setI, mkE]
    · rename_i e
      rw [show (0 : Nat) + 1 = 0 + 1 from rfl, findL_shift s r 0 1, Option.map_eq_some_iff] at h
      obtain ⟨p, h1, h2⟩ := h
      simp only [Prod.mk.injEq] at h2
      obtain ⟨rfl, rfl⟩ := h2
      obtain ⟨h3, h4⟩ := setI_some s v b r p.1 p.2 h1
      refine ⟨?_, by simpa using h4⟩
      simp only [List.map_cons, List.modify_succ_cons, setI, if_neg e, h3]
theorem setI_none (s v : Int) (b : Nat) : ∀ (L : IM), findL s L 0 = none → L.map mkE ++ [{ key := .int .i64 s, val := .int .i64 v, born := b }] = (setI s v b L).map mkE
  | [], h => rfl
  | (k, w, c) :: r, h => by
    simp only [findL] at h
    split at h
    · cases h
    · rename_i e
      rw [show (0 : Nat) + 1 = 0 + 1 from rfl, findL_shift s r 0 1, Option.map_eq_none_iff] at h
      simp only [List.map_cons, List.cons_append, setI, if_neg e, setI_none s v b r h]
def tick (s : Int) (L : IM) (c : Nat) : Nat := match findL s L 0 with | some _ => c | none => c + 1
theorem amapUpdate_int {t kt et : TypeId} {q : IntKind} {r c : Nat} {L : IM} (hm : P.underlying t = some (.map kt et)) (hu : P.underlying kt = some (.int q)) (hr : H[r]? = some (.map (L.map mkE) c)) (s v : Int) :
    amapUpdate P H t (.map (some r)) (.int .i64 s) (.int .i64 v) = some (H.set r (.map ((setI s v c L).map mkE) (tick s L c))) := by
  unfold amapUpdate
  simp only [hm, hr, afind_int hu, tick]
  cases h : findL s L 0 with
  | none => simp only [Option.map_none, setI_none s v c L h]
  | some p =>
    obtain ⟨i, u⟩ := p
    obtain ⟨h1, h2⟩ := setI_some s v c L i u h
    simp only [Option.map_some, h2, Option.getD_some, Instr.sameBits, beq_self_eq_true, Bool.and_self, if_true, h1]
theorem getI_set (s v : Int) (b : Nat) (x : Int) : ∀ (L : IM), getI x (setI s v b L) = if x = s then v else getI x L
  | [] => by
    simp only [setI, getI, findL]
    by_cases h : x = s <;> simp [h]
  | (k, u, c) :: r => by
    have ih := getI_set s v b x r
    have sh : ∀ (M : IM), (match findL x M (0 + 1) with | some p => p.2 | none => 0) = getI x M := by
      intro M
      rw [findL_shift x M 0 1]
      unfold getI
      cases findL x M 0 <;> rfl
    simp only [setI]
    split
    · rename_i e
      subst e
      by_cases h : x = s
      · subst h; simp [getI, findL]
      · simp only [getI, findL, h, if_false]
    · rename_i e
      by_cases h : x = k
      · subst h
        have : ¬ x = s := fun q => e q.symm
        simp [getI, findL, this]
      · show getI x ((k, u, c) :: setI s v b r) = _
        have e1 : getI x ((k, u, c) :: setI s v b r) = getI x (setI s v b r) := by
          rw [← sh (setI s v b r)]; simp only [getI, findL, h, if_false]
        have e2 : getI x ((k, u, c) :: r) = getI x r := by
          rw [← sh r]; simp only [getI, findL, h, if_false]
        rw [e1, e2, ih]
end Go.Am
/- The abstract machine: append onto a row that grows. -/
namespace Go.Am
variable {P : Program} {w0 : World} {H X : AH} {t e xt e' : TypeId} {i : TypeInfo} {z src : Value} {m n id c : Nat} {cs l : List Value}
theorem append_grow (hu : P.underlying t = some (.slice e)) (hx : P.underlying xt = some (.slice e') ∨ P.underlying xt = some .string) (hi : P.info? e = some i) (hs : i.size ≠ 0) (hb : i.bytes ≠ 0) (hz : azero P e = some z) (hzs : z.cells.size = i.size) (hH : H[id]? = some (.cells cs e true)) (hn : n * i.size = cs.length)
    (hsrc : asrc w0 H i.size src = some (m, l)) (hm : m ≠ 0) (hl : l.length = m * i.size) (hc : l.all cellV = true) (hbytes : (n + m) * i.bytes ≤ 2 ^ 47) :
    aappend P w0 H #[t, xt] [.slice (some ⟨id, 0, none⟩) n c, src] = some (.slice (some ⟨H.length, 0, none⟩) (n + m) (n + m), H.set id .dead ++ [.cells (cs ++ l) e true]) := by
  unfold aappend
  have h1 : ¬ (i.size = 0 ∨ i.bytes = 0 ∨ z.cells.size ≠ i.size) := by
    rintro (h | h | h)
    · exact hs h
    · exact hb h
    · exact h hzs
  rcases hx with hx | hx
  all_goals
    simp only [List.getElem?_toArray, List.getElem?_cons_zero, List.getElem?_cons_succ, hu, hi, hz, if_neg h1, hx, hsrc, if_pos hl, aappendTo, hH, if_neg hm]
    rw [if_pos ⟨trivial, hn, trivial, hbytes, hc⟩]
theorem append_nil (hu : P.underlying t = some (.slice e)) (hx : P.underlying xt = some (.slice e') ∨ P.underlying xt = some .string) (hi : P.info? e = some i) (hs : i.size ≠ 0) (hb : i.bytes ≠ 0) (hz : azero P e = some z) (hzs : z.cells.size = i.size)
    (hsrc : asrc w0 H i.size src = some (m, l)) (hm : m ≠ 0) (hl : l.length = m * i.size) (hbytes : m * i.bytes ≤ 2 ^ 47) :
    aappend P w0 H #[t, xt] [.slice none 0 0, src] = some (.slice (some ⟨H.length, 0, none⟩) m m, H ++ [.cells l e true]) := by
  unfold aappend
  have h1 : ¬ (i.size = 0 ∨ i.bytes = 0 ∨ z.cells.size ≠ i.size) := by
    rintro (h | h | h)
    · exact hs h
    · exact hb h
    · exact h hzs
  rcases hx with hx | hx
  all_goals
    simp only [List.getElem?_toArray, List.getElem?_cons_zero, List.getElem?_cons_succ, hu, hi, hz, if_neg h1, hx, hsrc, if_pos hl, aappendTo, if_neg hm, agrow]
    rw [if_pos hbytes]
end Go.Am
/- The abstract machine: code that may come to one of several ends (the order of a map's entries is the tape's). -/
namespace Go.Am
open Go.ChangeMaps (setBlock)
variable {P : Program} {w0 : World} {ρ ρ' : Ren} {H H' : AH} {W W' : World} {n m N : Nat} {T T' : Fr} {a : Act} {call : CallA} {F : Fence} {fl : Bool} {Q Q' : Exit → Fr → AH → Prop}

def NoneTo (ρ : Ren) (n N : Nat) : Prop := ∀ i, n ≤ i → i < N → ρ i = none
theorem NoneTo.fresh (h : NoneTo ρ H.length N) (hl : H'.length ≤ N) : Fresh ρ H H' := fun i a b => h i a (by omega)
theorem NoneTo.step (h : NoneTo ρ H.length N) (S : Step P w0 ρ ρ' H H' W W') : NoneTo ρ' H'.length N := fun i a b => by
  rw [S.out i (.inr a)]
  exact h i (Nat.le_trans S.le a) b

def CodeOk (P : Program) (w0 : World) (N : Nat) (fl : Bool) (n : Nat) (c : Code) (T : Fr) (H : AH) (Q : Exit → Fr → AH → Prop) : Prop :=
  ∀ (F : Fence) (m : Nat), Open F → (fl = true ∨ F = Fence.wide) → ∀ (B : Nat) (ρ : Ren) (a : Act) (W : World) (Ds : List Nat) (K : Exit → Act → World → Prop), Rel P w0 ρ H W → NoneTo ρ H.length N → RelT ρ n T a.tmps → B ≤ W.heap.size → Marks B ρ W a.defers Ds →
    (∀ ρ' a' W' Ds' e T' H', Q e T' H' → Step P w0 ρ ρ' H H' W W' → RelT ρ' n T' a'.tmps → Marks B ρ' W' a'.defers Ds' → K e a' W') → c.wpIn F m P K a W

theorem CodeOk.mono {c : Code} (h : CodeOk P w0 N fl n c T H Q) (hq : ∀ e T' H', Q e T' H' → Q' e T' H') : CodeOk P w0 N fl n c T H Q' :=
  fun F m hF hfl B ρ a W Ds K R hn hT hB hM hK => h F m hF hfl B ρ a W Ds K R hn hT hB hM (fun ρ' a' W' Ds' e T' H' q => hK ρ' a' W' Ds' e T' H' (hq _ _ _ q))

theorem CodeOk.ev {c : Code} {e : Exit} (hS : Sound P w0 call) {k : Nat} (hc : codeOk P fl n c = true) (h : evCode P w0 call k n c T H = some (e, T', H')) (hN : H'.length ≤ N) (hq : Q e T' H') : CodeOk P w0 N fl n c T H Q :=
  fun F m hF hfl B ρ a W Ds K R hn hT hB hM hK => evCode_rel hS (draw_sound hS) k hF hfl c hc h ρ a W Ds K R (hn.fresh hN) hT hB hM (fun ρ' a' W' Ds' S hT' hM' => hK ρ' a' W' Ds' e T' H' hq S hT' hM')

theorem CodeOk.seq {x y : Code} (h : CodeOk P w0 N fl n x T H (fun e T1 H1 => (e = .normal ∧ CodeOk P w0 N fl n y T1 H1 Q) ∨ (e ≠ .normal ∧ Q e T1 H1))) : CodeOk P w0 N fl n (.seq x y) T H Q := by
  intro F m hF hfl B ρ a W Ds K R hn hT hB hM hK
  refine wpIn_seq (h F m hF hfl B ρ a W Ds _ R hn hT hB hM (fun ρ1 a1 W1 Ds1 e T1 H1 q S hT1 hM1 => ?_))
  rcases q with ⟨rfl, hy⟩ | ⟨he, hq⟩
  · exact hy F m hF hfl B ρ1 a1 W1 Ds1 K S.rel (hn.step S) hT1 (Nat.le_trans hB S.size) hM1 (fun ρ2 a2 W2 Ds2 e T2 H2 q S2 hT2 hM2 => hK ρ2 a2 W2 Ds2 e T2 H2 q (S.trans S2) hT2 hM2)
  · have := hK ρ1 a1 W1 Ds1 e T1 H1 hq S hT1 hM1
    cases e <;> first | exact this | exact (he rfl).elim

def outOf (id : Nat) : Exit → Exit
  | .exit i => if i = id then .normal else .exit i
  | e => e
theorem CodeOk.block {id : Nat} {x : Code} (h : CodeOk P w0 N fl n x T H (fun e T1 H1 => Q (outOf id e) T1 H1)) : CodeOk P w0 N fl n (.block id x) T H Q := by
  intro F m hF hfl B ρ a W Ds K R hn hT hB hM hK
  refine wpIn_block (h F m hF hfl B ρ a W Ds _ R hn hT hB hM (fun ρ1 a1 W1 Ds1 e T1 H1 q S hT1 hM1 => ?_))
  have := hK ρ1 a1 W1 Ds1 _ T1 H1 q S hT1 hM1
  cases e <;> try exact this
  rename_i i
  simp only [outOf] at this
  by_cases hi : i = id
  · rw [if_pos hi] at this
    simpa [Exit.inBlock, hi] using this
  · rw [if_neg hi] at this
    simpa [Exit.inBlock, hi] using this

/- a loop, each round of which comes nearer to its end -/
theorem CodeOk.loop {x : Code} (Inv : Nat → Fr → AH → Prop) (hr : ∀ j T H, Inv j T H → CodeOk P w0 N fl n x T H (fun e T1 H1 => (e = .normal ∧ ∃ j', j = j' + 1 ∧ Inv j' T1 H1) ∨ (e ≠ .normal ∧ Q e T1 H1))) (j : Nat) (h0 : Inv j T H) : CodeOk P w0 N fl n (.loop x) T H Q := by
  intro F m hF hfl B ρ a W Ds K R hn hT hB hM hK
  refine wpIn_loop_rounds (j + 1) ?_
  have key : ∀ (j : Nat) (T : Fr) (H : AH), Inv j T H → ∀ (ρ : Ren) (a : Act) (W : World) (Ds : List Nat), Rel P w0 ρ H W → NoneTo ρ H.length N → RelT ρ n T a.tmps → B ≤ W.heap.size → Marks B ρ W a.defers Ds →
      (∀ ρ' a' W' Ds' e T' H', Q e T' H' → Step P w0 ρ ρ' H H' W W' → RelT ρ' n T' a'.tmps → Marks B ρ' W' a'.defers Ds' → K e a' W') → Code.roundsIn F m P x K (j + 1) a W := by
    intro j
    induction j with
    | zero =>
      intro T H hi ρ a W Ds R hn hT hB hM hK
      rw [roundsIn_succ]
      refine hr 0 T H hi F m hF hfl B ρ a W Ds _ R hn hT hB hM (fun ρ1 a1 W1 Ds1 e T1 H1 q S hT1 hM1 => ?_)
      rcases q with ⟨_, j', hj, _⟩ | ⟨he, hq⟩
      · cases hj
      · have := hK ρ1 a1 W1 Ds1 e T1 H1 hq S hT1 hM1
        cases e <;> first | exact this | exact (he rfl).elim
    | succ j ih =>
      intro T H hi ρ a W Ds R hn hT hB hM hK
      rw [roundsIn_succ]
      refine hr (j + 1) T H hi F m hF hfl B ρ a W Ds _ R hn hT hB hM (fun ρ1 a1 W1 Ds1 e T1 H1 q S hT1 hM1 => ?_)
      rcases q with ⟨rfl, j', hj, hi'⟩ | ⟨he, hq⟩
      · cases hj
        exact ih T1 H1 hi' ρ1 a1 W1 Ds1 S.rel (hn.step S) hT1 (Nat.le_trans hB S.size) hM1 (fun ρ2 a2 W2 Ds2 e T2 H2 q S2 hT2 hM2 => hK ρ2 a2 W2 Ds2 e T2 H2 q (S.trans S2) hT2 hM2)
      · have := hK ρ1 a1 W1 Ds1 e T1 H1 hq S hT1 hM1
        cases e <;> first | exact this | exact (he rfl).elim
  exact key j T H h0 ρ a W Ds R hn hT hB hM hK

theorem CodeOk.cond {d : Operand} {x y : Code} {t : Bool} (hc : constOk d = true) (hd : tmpOk n d = true) (ht : aev T d = .bool t) (h : CodeOk P w0 N fl n (if t then x else y) T H Q) : CodeOk P w0 N fl n (.cond d x y) T H Q := by
  intro F m hF hfl B ρ a W Ds K R hn hT hB hM hK
  have hcv := hT.ev hc hd
  rw [ht] at hcv
  refine wpIn_cond (cv_bool hcv) ?_
  have := h F m hF hfl B ρ a W Ds K R hn hT hB hM hK
  cases t <;> exact this

theorem CodeOk.skip (hq : Q .normal T H) : CodeOk P w0 N fl n .skip T H Q := fun F m hF hfl B ρ a W Ds K R hn hT hB hM hK => wpIn_skip (hK ρ a W Ds _ T H hq (Step.refl R) hT hM)
theorem CodeOk.ret (hq : Q .ret T H) : CodeOk P w0 N fl n .ret T H Q := fun F m hF hfl B ρ a W Ds K R hn hT hB hM hK => wpIn_ret (hK ρ a W Ds _ T H hq (Step.refl R) hT hM)
theorem CodeOk.exit {i : Nat} (hq : Q (.exit i) T H) : CodeOk P w0 N fl n (.exit i) T H Q := fun F m hF hfl B ρ a W Ds K R hn hT hB hM hK => wpIn_exit (hK ρ a W Ds _ T H hq (Step.refl R) hT hM)

/- operations, in the order of the text -/
def OpsOk (P : Program) (w0 : World) (N n : Nat) (ops : Array Oper) (i : Nat) (r : List Oper) (T : Fr) (H : AH) (Q : Fr → AH → Prop) : Prop :=
  ∀ (F : Fence) (m : Nat), Open F → ∀ (ρ : Ren) (a : Act) (W : World) (K : Exit → Act → World → Prop), Rel P w0 ρ H W → NoneTo ρ H.length N → RelT ρ n T a.tmps →
    (∀ ρ' a' W' T' H', Q T' H' → Step P w0 ρ ρ' H H' W W' → RelT ρ' n T' a'.tmps → a'.defers = a.defers → K .normal a' W') → wpOpsIn F m P ops K (List.range' i r.length) a W
theorem OpsOk.ev {ops : Array Oper} {i : Nat} {r : List Oper} {Q : Fr → AH → Prop} (hS : Sound P w0 call) (hok : (ops.toList.all fun o => operOk n o && guardOk ops n o) = true) (hr : ops.toList.drop i = r) (h : evOps P w0 call ops r T H = some (T', H')) (hN : H'.length ≤ N) (hq : Q T' H') : OpsOk P w0 N n ops i r T H Q :=
  fun F m hF ρ a W K R hn hT hK => evOps_rel hS hF (fun o ho => by have := List.all_eq_true.1 hok o ho; simpa using this) r i hr T H T' H' h ρ a W R (hn.fresh hN) hT (fun ρ' a' W' S hT' hd => hK ρ' a' W' T' H' hq S hT' hd)
theorem CodeOk.region {id : Nat} {ops : Array Oper} (h : OpsOk P w0 N n ops 0 ops.toList T H (fun T1 H1 => Q .normal T1 H1)) : CodeOk P w0 N fl n (.region id ops false) T H Q := by
  intro F m hF hfl B ρ a W Ds K R hn hT hB hM hK
  refine wpIn_region ?_
  have := h F m hF ρ a W K R hn hT (fun ρ' a' W' T' H' q S hT' hd => hK ρ' a' W' Ds _ T' H' q S hT' (by rw [hd]; exact hM.step S))
  rwa [Array.length_toList, ← List.range_eq_range'] at this

/- a call whose result is one of several -/
def FnOkQ (P : Program) (w0 : World) (N f : Nat) (vs : List Value) (H : AH) (Q : Value → AH → Prop) : Prop :=
  ∀ ρ W vs', Rel P w0 ρ H W → NoneTo ρ H.length N → cvL ρ vs = some vs' → FnOk P f vs' W (fun v' W' => ∃ v H' ρ', Q v H' ∧ cv ρ' v = some v' ∧ Step P w0 ρ ρ' H H' W W')
theorem FnOkQ.mono {f : Nat} {vs : List Value} {Q Q' : Value → AH → Prop} (h : FnOkQ P w0 N f vs H Q) (hq : ∀ v H', Q v H' → Q' v H') : FnOkQ P w0 N f vs H Q' := fun ρ W vs' R hn hv => by
  rcases h ρ W vs' R hn hv with ⟨v', W', h1, v, H', ρ', h2, h3⟩ | ⟨h1, h2⟩
  · exact .inl ⟨v', W', h1, v, H', ρ', hq _ _ h2, h3⟩
  · refine .inr ⟨h1, fun m => (h2 m).mono ?_⟩
    rintro e W' ⟨v', rfl, v, H', ρ', h3, h4⟩
    exact ⟨v', rfl, v, H', ρ', hq _ _ h3, h4⟩
theorem FnOkQ.of (hS : Sound P w0 call) {f : Nat} {vs : List Value} {v : Value} {Q : Value → AH → Prop} (h : call (.fn f) vs H = some (v, H')) (hN : H'.length ≤ N) (hq : Q v H') : FnOkQ P w0 N f vs H Q := fun ρ W vs' R hn hv => by
  rcases hS.fn f vs H v H' h ρ W vs' R (hn.fresh hN) hv with ⟨v', W', h1, ρ', h2, h3⟩ | ⟨h1, h2⟩
  · exact .inl ⟨v', W', h1, v, H', ρ', hq, h2, h3⟩
  · refine .inr ⟨h1, fun m => (h2 m).mono ?_⟩
    rintro e W' ⟨v', rfl, ρ', h3, h4⟩
    exact ⟨v', rfl, v, H', ρ', hq, h3, h4⟩

theorem leavesQ {fn : Func} {tmps : Array Value} {Q : Value → AH → Prop} {v : Value} (hq : Q v H') (hT : RelT ρ' n T tmps) (hr : ∀ r ∈ fn.results.toList, (match r with | .tmp t => decide (t < n) | .cell a _ => decide (a < n)) = true) (h : aresults P w0 fn T H' = some v) (h0 : w0.heap.size ≤ W.heap.size) :
    ∀ (ds : List Deferred) (Ds : List Nat) (W' : World), Step P w0 ρ ρ' H H' W W' → Marks W.heap.size ρ' W' ds Ds → LeavesInM Fence.wide m P fn tmps (Ret fun v' W' => ∃ v H' ρ', Q v H' ∧ cv ρ' v = some v' ∧ Step P w0 ρ ρ' H H' W W') ds .returning W'
  | [], _, W', S, _ => by
    obtain ⟨v', h1, h2⟩ := aresults_rel S.rel hT hr h
    exact ⟨v', h2, v', rfl, v, H', ρ', hq, h1, S⟩
  | d :: ds, [], W', S, hM => hM.elim
  | d :: ds, D :: Ds, W', S, hM => by
    obtain ⟨h1, h2, h3, h4, h5, h6⟩ := hM
    exact ⟨(fun q => by cases q), .inl ⟨D, _, h1, run_takeDeferred h3, leavesQ hq hT hr h h0 ds Ds _ (S.park h0 h2 h4 _) (h6.put h5)⟩⟩

theorem FnOkQ.intro {f : Nat} {fn : Func} {c : Code} {vs : List Value} {Q : Value → AH → Prop} (hfn : P.funcs[f]? = some fn) (hb : fn.body = some c) (hok : funcOk P fn = true) (hl : vs.length ≤ fn.ntmps)
    (h : CodeOk P w0 N false fn.ntmps c (frame0 vs) H (fun e T' H' => (e = .normal ∨ e = .ret) ∧ ∃ v, aresults P w0 fn T' H' = some v ∧ Q v H')) : FnOkQ P w0 N f vs H Q := by
  intro ρ W vs' R hn hargs
  unfold funcOk at hok
  simp only [Bool.and_eq_true, hb, List.all_eq_true] at hok
  obtain ⟨⟨hc, hnm⟩, hr⟩ := hok
  have hnm' : fn.name ≠ "runtime.NumGoroutine" := by simpa [named] using hnm
  refine .inr ⟨by simp [callFunc, hfn, hb, hnm'], fun m => ?_⟩
  refine callsIn_of_wp_marks hfn hb trivial ?_
  refine h Fence.wide m Open.wide (.inr rfl) W.heap.size ρ _ W [] _ R hn (frame0_rel hargs hl) (Nat.le_refl _) trivial (fun ρ' a' W' Ds e T' H' q S hT hM => ?_)
  obtain ⟨he, v, hv, hq⟩ := q
  have hr' : ∀ r ∈ fn.results.toList, (match r with | .tmp t => decide (t < fn.ntmps) | .cell a _ => decide (a < fn.ntmps)) = true := fun r hq => by
    have := hr r hq
    cases r <;> exact this
  have := leavesQ (m := m) hq hT hr' hv R.size a'.defers Ds W' S hM
  rcases he with rfl | rfl <;> exact this

theorem OpsOk.callF {ops : Array Oper} {i : Nat} {o : Oper} {r : List Oper} {Q : Fr → AH → Prop} {Qf : Value → AH → Prop} {d : Operand} {args : Array Operand} {ats : Array TypeId} {f : Nat} {vs : List Value} (hok : (ops.toList.all fun o => operOk n o && guardOk ops n o) = true) (hr : ops.toList.drop i = o :: r)
    (hw : awanted ops o T = true) (ho : o.op = .call { callee := .value d, args := args, argTypes := ats }) (hcl : callee (aev T d) (args.map (aev T)).toList = some (.fn f, vs)) (hf : FnOkQ P w0 N f vs H Qf) (hN : ∀ v H1, Qf v H1 → H1.length ≤ N)
    (h : ∀ v H1, Qf v H1 → OpsOk P w0 N n ops (i + 1) r (aput T o.dst v) H1 Q) : OpsOk P w0 N n ops i (o :: r) T H Q := by
  intro F m hF ρ a W K R hn hT hK
  have hoi : ops[i]? = some o := by
    have : (ops.toList.drop i)[0]? = some o := by rw [hr]; rfl
    simpa using this
  have hmem : o ∈ ops.toList := by
    have : o ∈ ops.toList.drop i := by rw [hr]; simp
    exact List.mem_of_mem_drop this
  have hog : operOk n o = true ∧ guardOk ops n o = true := by have := List.all_eq_true.1 hok o hmem; simpa using this
  simp only [List.length_cons, List.range'_succ, wpOpsIn, hoi, wanted_rel hog.2 hT]
  rw [if_pos hw]
  refine ⟨fun f _ => hF.fn f, ?_⟩
  have hnd : ∀ c, o.op ≠ .defer c := by intro c hc; rw [ho] at hc; cases hc
  rw [Oper.semAt_eq _ _ _ hnd]
  obtain ⟨dst, op, ty, pos, after, guard⟩ := o
  simp only at ho
  subst ho
  have hop := operOk_ops hog.1
  have hargs := args_rel hT args.toList (fun x hx => hop x (by simp [Op.operands, Call.operands]; exact .inr (Array.mem_toList_iff.1 hx)))
  rw [← Array.toList_map, ← Array.toList_map] at hargs
  have hfv := hT.ev (hop d (by simp [Op.operands, Call.operands])).1 (hop d (by simp [Op.operands, Call.operands])).2
  obtain ⟨fn, cap, vs', h1, h2, h3⟩ := callee_fn (P := P) hcl hfv hargs
  have hl : (⟨(args.map a.eval).toList⟩ : Array Value) = args.map a.eval := rfl
  rw [hl] at h2
  have hres : (resolve a.eval { callee := .value d, args := args, argTypes := ats } ty).run P W = .ok { target := .fn fn cap, args := ⟨vs'.take (vs'.length - cap.size)⟩ } W := by
    simp only [resolve]
    exact h2 W
  have hex : (execOp a.eval ⟨dst, .call { callee := .value d, args := args, argTypes := ats }, ty, pos, after, guard⟩).run P W = (invoke (.fn fn cap) ⟨vs'.take (vs'.length - cap.size)⟩).run P W := by
    simp only [execOp, Sem.run_bind, hres, Result.andThen_ok]
  obtain ⟨rfl, hcap⟩ := h3
  have hinv : (invoke (.fn (.func f) cap) ⟨vs'.take (vs'.length - cap.size)⟩).run P W = (callFunc f ⟨vs'⟩).run P W := by
    simp only [invoke, hcap]
  rw [hex, hinv]
  have hr' : ops.toList.drop (i + 1) = r := by
    have : (ops.toList.drop i).drop 1 = r := by rw [hr]; rfl
    rwa [List.drop_drop] at this
  have fin : ∀ {v' W1}, (∃ v H' ρ', Qf v H' ∧ cv ρ' v = some v' ∧ Step P w0 ρ ρ' H H' W W1) → wpOpsIn F m P ops K (List.range' (i + 1) r.length) (a.put dst v') W1 := by
    rintro v' W1 ⟨v, H1, ρ1, q, hv, S⟩
    have hT1 := (hT.mono (S.mono (hn.fresh (hN v H1 q)))).put (operOk_dst hog.1) hv
    exact h v H1 q F m hF ρ1 _ W1 K S.rel (hn.step S) hT1 (fun ρ' a' W' T' H' q S' hT' hd => hK ρ' a' W' T' H' q (S.trans S') hT' (hd.trans (put_same _ _ _)))
  rcases hf ρ W vs' R hn h1 with ⟨v', W', e1, e2⟩ | ⟨e1, e2⟩
  · rw [e1]; exact fin e2
  · rw [e1]
    refine ⟨fun hd => (by rw [hF.depth] at hd; cases hd), hF.calls ((e2 _).mono ?_)⟩
    rintro e W' ⟨v', rfl, e3⟩
    exact fin e3

theorem ops_at {ops : Array Oper} {i : Nat} {o : Oper} {r : List Oper} (hok : (ops.toList.all fun o => operOk n o && guardOk ops n o) = true) (hr : ops.toList.drop i = o :: r) : ops[i]? = some o ∧ operOk n o = true ∧ guardOk ops n o = true ∧ ops.toList.drop (i + 1) = r := by
  have hmem : o ∈ ops.toList := by
    have : o ∈ ops.toList.drop i := by rw [hr]; simp
    exact List.mem_of_mem_drop this
  have hog : operOk n o = true ∧ guardOk ops n o = true := by have := List.all_eq_true.1 hok o hmem; simpa using this
  refine ⟨?_, hog.1, hog.2, ?_⟩
  · have : (ops.toList.drop i)[0]? = some o := by rw [hr]; rfl
    simpa using this
  · have : (ops.toList.drop i).drop 1 = r := by rw [hr]; rfl
    rwa [List.drop_drop] at this
theorem OpsOk.nil {ops : Array Oper} {i : Nat} {Q : Fr → AH → Prop} (hq : Q T H) : OpsOk P w0 N n ops i [] T H Q := fun F m hF ρ a W K R hn hT hK => hK ρ a W T H hq (Step.refl R) hT rfl
theorem OpsOk.step {ops : Array Oper} {i : Nat} {o : Oper} {r : List Oper} {Q : Fr → AH → Prop} {v : Value} {H1 : AH} (hS : Sound P w0 call) (hok : (ops.toList.all fun o => operOk n o && guardOk ops n o) = true) (hr : ops.toList.drop i = o :: r) (hw : awanted ops o T = true)
    (h1 : astep P w0 call o T H = some (v, H1)) (hN : H1.length ≤ N) (h : OpsOk P w0 N n ops (i + 1) r (aput T o.dst v) H1 Q) : OpsOk P w0 N n ops i (o :: r) T H Q := by
  intro F m hF ρ a W K R hn hT hK
  obtain ⟨hoi, ho, hg, hr'⟩ := ops_at hok hr
  simp only [List.length_cons, List.range'_succ, wpOpsIn, hoi, wanted_rel hg hT]
  rw [if_pos hw]
  refine op_rel hS hF ho h1 R hT (hn.fresh hN) (fun ρ1 v' W1 hv S => ?_)
  have hT1 := (hT.mono (S.mono (hn.fresh hN))).put (operOk_dst ho) hv
  exact h F m hF ρ1 _ W1 K S.rel (hn.step S) hT1 (fun ρ' a' W' T' H' q S' hT' hd => hK ρ' a' W' T' H' q (S.trans S') hT' (hd.trans (put_same _ _ _)))
theorem OpsOk.next {ops : Array Oper} {i : Nat} {o : Oper} {r : List Oper} {Q : Fr → AH → Prop} {it : Operand} {r0 mm since clk last : Nat} {seen : List Nat} {es : List MapEntry} (hok : (ops.toList.all fun o => operOk n o && guardOk ops n o) = true) (hr : ops.toList.drop i = o :: r) (hw : awanted ops o T = true)
    (hop : o.op = .next it false) (hit : aev T it = .pointer (some ⟨r0, 0, none⟩)) (hr0 : H[r0]? = some (.miter (some mm) since seen last)) (hm : H[mm]? = some (.map es clk)) (hold : ∀ e ∈ es, e.born < since) (hsc : since ≤ last)
    (h0 : (es.filter fun e => !seen.contains e.born) = [] → OpsOk P w0 N n ops (i + 1) r (aput T o.dst (.tuple #[.bool false])) H Q)
    (h1 : ∀ e ∈ es.filter (fun e => !seen.contains e.born), OpsOk P w0 N n ops (i + 1) r (aput T o.dst (.tuple #[.bool true, e.key, e.val])) (H.set r0 (.miter (some mm) since (seen ++ [e.born]) clk)) Q) : OpsOk P w0 N n ops i (o :: r) T H Q := by
  intro F m hF ρ a W K R hn hT hK
  obtain ⟨hoi, ho, hg, hr'⟩ := ops_at hok hr
  simp only [List.length_cons, List.range'_succ, wpOpsIn, hoi, wanted_rel hg hT]
  rw [if_pos hw]
  refine ⟨fun f _ => hF.fn f, ?_⟩
  have hnd : ∀ c, o.op ≠ .defer c := by intro c hc; rw [hop] at hc; cases hc
  rw [Oper.semAt_eq _ _ _ hnd]
  obtain ⟨dst, op, ty, pos, after, guard⟩ := o
  simp only at hop
  subst hop
  have hops := operOk_ops ho
  have hitv := hT.ev (hops it (by simp [Op.operands])).1 (hops it (by simp [Op.operands])).2
  rw [hit] at hitv
  obtain ⟨c, hc1, hc2⟩ := cv_ptr_some hitv
  simp only [cvAddr, Option.map_eq_some_iff] at hc2
  obtain ⟨L, hL, rfl⟩ := hc2
  rcases next_map_rel (P := P) R ty hr0 hm hL hold hsc with ⟨e1, e2⟩ | ⟨e, he, v', W', e1, e2, e3⟩
  · have hex : (execOp a.eval ⟨dst, .next it false, ty, pos, after, guard⟩).run P W = .ok (.value (.tuple #[.bool false])) W := by simp [execOp, hc1, e2]
    rw [hex]
    have hT1 := hT.put (a := a) (operOk_dst ho) (v := .tuple #[.bool false]) (v' := .tuple #[.bool false]) (cv_tuple_mk (by simp [cvL, cv]))
    exact h0 e1 F m hF ρ _ W K R hn hT1 (fun ρ' a' W' T' H' q S' hT' hd => hK ρ' a' W' T' H' q S' hT' (hd.trans (put_same _ _ _)))
  · have hex : (execOp a.eval ⟨dst, .next it false, ty, pos, after, guard⟩).run P W = .ok (.value v') W' := by simp [execOp, hc1, e2]
    rw [hex]
    have hT1 := hT.put (a := a) (operOk_dst ho) e1
    exact h1 e he F m hF ρ _ W' K e3.rel (hn.step e3) hT1 (fun ρ' a' W' T' H' q S' hT' hd => hK ρ' a' W' T' H' q (e3.trans S') hT' (hd.trans (put_same _ _ _)))

/- a range over a function -/
theorem CodeOk.rangeFunc {g : Operand} {ps : Array Tmp} {as bd : Code} {f : Nat} {vs : List Value} {Qf : Value → AH → Prop} (hc : codeOk P false n (.rangeFunc g ps as bd) = true) (hcl : callee (aev T g) [.func (.yield H.length) #[] #[]] = some (.fn f, vs)) (hen : enters P f = true)
    (hl0 : H.length + 1 ≤ N) (hf : FnOkQ P w0 N f vs (H ++ [.loop .ready none n T ps.toList as bd]) Qf) (hN : ∀ v H1, Qf v H1 → H1.length ≤ N)
    (h : ∀ v H2, Qf v H2 → ∃ st pend n' T' ps' as' bd', H2[H.length]? = some (.loop st pend n' T' ps' as' bd') ∧ st ≠ .busy ∧
      (match pend with | none => Q .normal T (H2.set H.length (.loop .exhausted pend n' T' ps' as' bd')) | some .ret => Q .ret T (H2.set H.length (.loop .exhausted pend n' T' ps' as' bd')) | some (.exit id) => Q (.exit id) T (H2.set H.length (.loop .exhausted pend n' T' ps' as' bd')) | _ => False)) :
    CodeOk P w0 N false n (.rangeFunc g ps as bd) T H Q := by
  intro F m hF hfl B ρ a W Ds K R hn hT hB hM hK
  simp only [codeOk, Bool.and_eq_true, Bool.not_eq_true'] at hc
  obtain ⟨⟨⟨⟨⟨hfl0, hcg⟩, htg⟩, hps⟩, hca⟩, hcb⟩ := hc
  have hFw : F = Fence.wide := by rcases hfl with h | h; · cases h
                                  · exact h
  subst hFw
  refine wpIn_rangeFunc (fun fn _ => ?_)
  let rec0 : Loop := { state := .ready, pending := none, fn, tmps := a.tmps, params := ps, assign := as, body := bd, defers := W.heap.size }
  let W1 : World := (W.alloc (.deferred (some []))).alloc (.loop rec0)
  let H1 : AH := H ++ [.loop .ready none n T ps.toList as bd]
  have hl1 : H1.length = H.length + 1 := by simp [H1]
  have S0 := alloc_step R (.deferred (some []))
  have S1 : Step P w0 ρ (plus ρ H.length ⟨W.heap.size + 1, none⟩) H H1 W W1 := by
    have := S0.trans (push_step (g := none) (ob := .loop .ready none n T ps.toList as bd) (obj := .loop rec0) (W' := W1) S0.rel (hn.fresh (by simpa using hl0)) rfl ⟨rfl, rfl, rfl⟩
      ⟨rfl, rec0, rfl, rfl, rfl, hT, rfl, rfl, rfl, hca, hcb, fun t ht => by simpa using (List.all_eq_true.1 hps) t ht, .inl rfl⟩)
    simpa using this
  have hle := S1.mono (hn.fresh (by simpa [H1] using hl0))
  have hn1 := hn.step S1
  have hone : cvL (plus ρ H.length ⟨W.heap.size + 1, none⟩) [.func (.yield H.length) #[] #[]] = some [.func (.yield (W.heap.size + 1)) #[] #[]] := by
    simp [cvL, cv, cvFn, plus]
  obtain ⟨fnv, cap, vs', e1, e2, rfl, e3⟩ := callee_fn (P := P) hcl (cv_mono hle _ _ (hT.ev hcg htg)) hone
  refine ⟨W.heap.size + 1, [{ target := .collected W.heap.size, args := #[] }], W1, { target := .fn (.func f) cap, args := ⟨vs'.take (vs'.length - cap.size)⟩ }, W1, f, ⟨vs'⟩, W1, ?_, ?_, fun _ _ => trivial, ?_, (fun hd => by cases hd), ?_⟩
  · exact run_enterLoop_outer fn a.tmps ps as bd
  · have := e2 W1
    simp only [resolve, rangeCall]
    simpa [Act.eval] using this
  · simp only [invoke, e3]
    exact enters_run hen _ _
  · rcases hf _ W1 vs' S1.rel hn1 e1 with ⟨v', W2, q1, _⟩ | ⟨_, hcall⟩
    · rw [enters_run hen] at q1
      cases q1
    · refine (hcall _).mono ?_
      rintro x W2 ⟨v', rfl, v, H2, ρ2, hq2, hv2, S2⟩
      have S12 := S1.trans S2
      have hM2 : Marks B ρ2 W2 ({ target := .collected W.heap.size, args := #[] } :: a.defers) (W.heap.size :: Ds) := by
        refine Marks.step S2 (ρ := plus ρ H.length ⟨W.heap.size + 1, none⟩) ⟨rfl, hB, ?_, fun i L hL => ?_, fun hmem => ?_, hM.step S1⟩
        · show ((W.heap.push (.deferred (some []))).push (.loop rec0))[W.heap.size]? = _
          rw [Array.getElem?_push_lt (by simp)]
          simp
        · unfold plus at hL
          split at hL
          · cases hL; simp
          · have := (R.lo i L hL).2; omega
        · have := hM.lt _ hmem; omega
      obtain ⟨st, pend, n', T0, ps', as', bd', hH2, hbusy, hfin⟩ := h v H2 hq2
      have hρ2 : ρ2 H.length = some ⟨W.heap.size + 1, none⟩ := by
        rw [S2.out _ (.inl (by rw [hl1]; omega))]
        simp [plus]
      obtain ⟨hg, lr, e4, e5, e6, e7, e8, e9, e10, e11, e12, e13, e14⟩ := S2.rel.obj H.length _ _ hH2 hρ2
      have hst : lr.state ≠ .busy := by rw [e5]; exact hbusy
      have hrun := run_endLoop (P := P) e4 hst
      have S3 : Step P w0 ρ2 ρ2 H2 (H2.set H.length (.loop .exhausted pend n' T0 ps' as' bd')) W2 (W2.putObj (W.heap.size + 1) (.loop { lr with state := .exhausted })) := by
        refine set_step (L := ⟨W.heap.size + 1, none⟩) S2.rel hH2 trivial hρ2 (by simp) (fun b hb => World.putObj_heap_other hb) ⟨rfl, rfl, rfl⟩ ?_
        rw [World.putObj_heap_same (S2.rel.lo _ _ hρ2).2]
        exact ⟨rfl, _, rfl, rfl, e6, e7, e8, e9, e10, e11, e12, e13, e14⟩
      obtain ⟨W4, hW4⟩ : ∃ W4, W4 = W2.putObj (W.heap.size + 1) (.loop { lr with state := .exhausted }) := ⟨_, rfl⟩
      rw [← hW4] at hrun S3
      have S13 := S12.trans S3
      have hT3 : RelT ρ2 n T a.tmps := hT.mono (S12.mono (hn.fresh (hN v H2 hq2)))
      have hM3 := Marks.step S3 hM2
      rw [e6] at hrun
      refine ⟨pend, _, hrun, ?_⟩
      split at hfin
      · exact hK ρ2 _ _ _ _ _ _ hfin S13 hT3 hM3
      · exact wpIn_ret (hK ρ2 { a with defers := [{ target := .collected W.heap.size, args := #[] }] ++ a.defers } _ _ _ _ _ hfin S13 hT3 hM3)
      · exact wpIn_exit (hK ρ2 { a with defers := [{ target := .collected W.heap.size, args := #[] }] ++ a.defers } _ _ _ _ _ hfin S13 hT3 hM3)
      · exact hfin.elim
end Go.Am
/- The abstract machine: an override, from what a call may come to; a row of whole numbers, sorted by the library's own sort. -/
namespace Go.Am
open Go.Sort
variable {P : Program} {w0 : World} {ρ ρ' ρ2 : Ren} {H H' H2 : AH} {W W' : World} {n m N : Nat} {T T' : Fr} {a : Act} {call : CallA} {F : Fence} {fl : Bool}

/- a memory, some of whose new objects are forgotten -/
def Killed (n : Nat) (H2 H' : AH) : Prop := H2.length = H'.length ∧ ∀ i, H'[i]? = H2[i]? ∨ (n ≤ i ∧ H'[i]? = some .dead)
theorem Step.kill (S : Step P w0 ρ ρ' H H2 W W') (h : Killed H.length H2 H') : Step P w0 ρ ρ' H H' W W' := by
  have get : ∀ {i o}, H'[i]? = some o → alive o → H2[i]? = some o := fun {i o} hi ha => by
    rcases h.2 i with e | ⟨_, e⟩
    · rw [← e]; exact hi
    · rw [e] at hi; cases hi; exact ha.elim
  refine ⟨by rw [← h.1]; exact S.le, fun i hi => S.out i (by rw [h.1]; exact hi), fun i L h1 h2 h3 => S.new i L h1 (by rw [h.1]; exact h2) h3, fun i hi => ?_, ⟨S.rel.size, S.rel.base, S.rel.lo, fun i j o q L M h1 h2 h3 h4 h5 h6 h7 => S.rel.inj i j o q L M (get h1 h3) (get h2 h4) h3 h4 h5 h6 h7, fun i o L h1 h2 => ?_⟩, S.size, S.same, S.env⟩
  · rcases h.2 i with e | ⟨_, e⟩
    · rw [e]; exact S.dead i hi
    · exact e
  · by_cases ha : alive o
    · exact S.rel.obj i o L (get h1 ha) h2
    · cases o <;> first | exact (ha trivial).elim | trivial

/- an override's duty, from what the call may come to -/
theorem over_of {f : Nat} {vs vs' : List Value} {v : Value} {Q : Value → AH → Prop} (hf : FnOkQ P w0 H'.length f vs H Q) (hq : ∀ v2 H2, Q v2 H2 → v2 = v ∧ Killed H.length H2 H') (R : Rel P w0 ρ H W) (hF : Fresh ρ H H') (hv : cvL ρ vs = some vs') : FnOk P f vs' W (Post P w0 ρ H H' W v) := by
  have conv : ∀ {v' W'}, (∃ v2 H2 ρ', Q v2 H2 ∧ cv ρ' v2 = some v' ∧ Step P w0 ρ ρ' H H2 W W') → Post P w0 ρ H H' W v v' W' := by
    rintro v' W' ⟨v2, H2, ρ', h1, h2, h3⟩
    obtain ⟨rfl, hk⟩ := hq v2 H2 h1
    exact ⟨ρ', h2, h3.kill hk⟩
  rcases hf ρ W vs' R (fun i a b => hF i a b) hv with ⟨v', W', h1, h2⟩ | ⟨h1, h2⟩
  · exact .inl ⟨v', W', h1, conv h2⟩
  · refine .inr ⟨h1, fun m => (h2 m).mono ?_⟩
    rintro e W' ⟨v', rfl, h3⟩
    exact ⟨v', rfl, conv h3⟩

/- a row of whole numbers, sorted in its place -/
def iv (x : Int) : Value := .int .i64 x
theorem cvL_ints : ∀ {xs : List Int} {l : List Value}, cvL ρ (xs.map iv) = some l → l = xs.map iv
  | [], l, h => by simpa [cvL] using h.symm
  | x :: r, l, h => by
    obtain ⟨p, q, h1, h2, rfl⟩ := cvL_cons.1 h
    simp only [iv, cv, Option.some.injEq] at h1
    rw [cvL_ints h2, ← h1]
    rfl
theorem cvL_ints_mk (xs : List Int) : cvL ρ (xs.map iv) = some (xs.map iv) := by
  have := cvL_map (ρ := ρ) iv iv xs (fun x _ => by simp [iv, cv])
  exact this
theorem grow_step (R : Rel P w0 ρ H W) (os : Array Obj) : Step P w0 ρ ρ H H W (grow W os) := by
  have hlow : ∀ b, b < W.heap.size → (grow W os).heap[b]? = W.heap[b]? := fun b hb => heap_grow_old W os hb
  refine ⟨Nat.le_refl _, fun _ _ => rfl, fun i L h1 h2 => by omega, fun _ h => h, ⟨by have := R.size; rw [size_grow]; omega, fun b hb => ?_, fun i L h => ?_, R.inj, fun i q L h1 h2 => ?_⟩, by rw [size_grow]; omega, fun b hb _ => hlow b hb, rfl, rfl, rfl⟩
  · rw [hlow b (by have := R.size; omega)]; exact R.base b hb
  · have := R.lo i L h; rw [size_grow]; omega
  · rw [hlow _ (R.lo i L h2).2]; exact R.obj i q L h1 h2
theorem sort_calls {f i n c : Nat} {e : TypeId} {g : Bool} {xs ys : List Int} (hen : enters P f = true) (hl : ys.length = xs.length)
    (hc : ∀ (blk cap : Nat) (w : World), Holds (Value.int .i64) w blk 0 xs.toArray → blk < w.heap.size → Calls P f #[.slice (some ⟨blk, 0, none⟩) xs.length cap] w fun e w' => e = .returned (.tuple #[]) ∧ ∃ n os, w' = grow (putRow (Value.int .i64) (Sort.ahead w n) blk 0 ys.toArray) os)
    (hi : H[i]? = some (.cells (xs.map iv) e g)) : FnOkQ P w0 N f [.slice (some ⟨i, 0, none⟩) xs.length c] H (fun v H' => v = undef ∧ H' = H.set i (.cells (ys.map iv) e g)) := by
  intro ρ W vs' R hn hv
  obtain ⟨v1, r1, h1, h2, rfl⟩ := cvL_cons.1 hv
  simp only [cvL, Option.some.injEq] at h2
  subst h2
  obtain ⟨L, hL⟩ : ∃ L, ρ i = some L := by
    simp only [cv, cvSlice] at h1
    cases hr : ρ i with
    | none => rw [hr] at h1; cases h1
    | some L => exact ⟨L, rfl⟩
  obtain ⟨C, fr, hW, hfr, hle, hg, hcs⟩ := R.row hi hL
  have hcs := cvL_ints hcs
  simp only [List.length_map] at hcs hle
  obtain ⟨cap, hv1⟩ : ∃ cap, v1 = .slice (some ⟨L.blk, 0, none⟩) xs.length cap := by
    simp only [cv, cvSlice, hL] at h1
    split at h1
    · cases h1; exact ⟨_, rfl⟩
    · split at h1
      · cases h1; exact ⟨_, rfl⟩
      · cases h1
  subst hv1
  have hlo := (R.lo i L hL).2
  have hcell : ∀ j, j < xs.length → C[j]? = some (iv xs[j]!) := by
    intro j hj
    have : (C.toList.take xs.length)[j]? = (xs.map iv)[j]? := by rw [hcs]
    rw [List.getElem?_take, if_pos hj, Array.getElem?_toList, List.getElem?_map, List.getElem?_eq_getElem hj] at this
    rw [this, getElem!_pos xs j hj]
    rfl
  have hH : Holds (Value.int .i64) W L.blk 0 xs.toArray := by
    intro j hj
    simp only [List.size_toArray] at hj
    have hjC : j < C.size := by omega
    constructor
    · have hh := hcell j hj
      simp only [World.cell?, hW, Option.isSome_none, Bool.false_eq_true, if_false, Nat.zero_add, hh, iv]
      simp
    · have := hfr j hjC
      simp only [World.frozen?, hW, Option.isSome_none, Bool.false_eq_true, if_false, Nat.zero_add]
      simp
      omega
  have hcall := hc L.blk cap W hH hlo
  refine .inr ⟨enters_run hen _ _, fun m => ?_⟩
  refine (callsIn_wide.2 hcall).mono ?_
  rintro x W' ⟨rfl, k, os, rfl⟩
  have S : Step P w0 ρ ρ H (H.set i (.cells (ys.map iv) e g)) W (putRow (Value.int .i64) (Sort.ahead W k) L.blk 0 ys.toArray) := by
    have hput : (putRow (Value.int .i64) (Sort.ahead W k) L.blk 0 ys.toArray).heap[L.blk]? = some (.cells (Sort.putCells (Value.int .i64) 0 ys.toArray C) e fr) := by
      simp [putRow, mapBlock, Sort.ahead, Array.getElem?_modify, hW, onCells]
    refine set_step R hi trivial hL (by simp [putRow, mapBlock, Sort.ahead]) (fun b hb => by simp [putRow, mapBlock, Sort.ahead, Array.getElem?_modify, Ne.symm hb]) ⟨rfl, rfl, rfl⟩ ?_
    rw [hput]
    have hsz : (Sort.putCells (Value.int .i64) 0 ys.toArray C).size = C.size := by simp [Sort.putCells]
    refine ⟨_, fr, rfl, fun off ho => hfr off (by rw [hsz] at ho; exact ho), ?_, ?_⟩
    · rw [hsz, List.length_map, hl]
      cases g <;> simp at hg ⊢ <;> first | exact ⟨hg, hle⟩ | exact hg
    · rw [cvL_ints_mk]
      congr 1
      apply List.ext_getElem?
      intro j
      by_cases hj : j < ys.length
      · have h3 : j < C.size := by omega
        simp [List.getElem?_take, hj, Sort.putCells, h3, iv]
      · simp [List.getElem?_take, hj]
  have S2 := S.trans (grow_step S.rel os)
  exact ⟨.tuple #[], rfl, undef, _, ρ, ⟨rfl, rfl⟩, cv_undef _, S2⟩
end Go.Am
/- The abstract machine: runs that come to something; what a piece of code leaves as it was. -/
namespace Go.Am
variable {P : Program} {w0 : World} {O : Over} {n : Nat} {T T1 T' : Fr} {H H1 H' : AH} {e : Exit} {x y c : Code} {call : CallA}

def dsts : Code → List Tmp
  | .region _ ops _ => ops.toList.filterMap (·.dst)
  | .seq a b => dsts a ++ dsts b
  | .cond _ a b => dsts a ++ dsts b
  | .block _ c => dsts c
  | .loop c => dsts c
  | _ => []
theorem aput_keep {d : Option Tmp} {v : Value} {t : Tmp} (h : d ≠ some t) : aput T d v t = T t := by
  cases d with
  | none => rfl
  | some d =>
    have : ¬ t = d := fun e => h (by rw [e])
    simp [aput, upd, this]
theorem evOps_keep {ops : Array Oper} : ∀ (r : List Oper) {T : Fr} {H : AH} {T' : Fr} {H' : AH}, evOps P w0 call ops r T H = some (T', H') → ∀ t, t ∉ r.filterMap (·.dst) → T' t = T t
  | [], T, H, T', H', h, t, ht => by simp only [evOps, Option.some.injEq] at h; cases h; rfl
  | o :: r, T, H, T', H', h, t, ht => by
    have hd : o.dst ≠ some t := fun e => ht (by simp [e])
    have hr : t ∉ r.filterMap (·.dst) := fun e => ht (by
      rw [List.filterMap_cons]
      split
      · exact e
      · exact List.mem_cons_of_mem _ e)
    simp only [evOps] at h
    split at h
    · split at h
      · rw [evOps_keep r h t hr, aput_keep hd]
      · cases h
    · rw [evOps_keep r h t hr, aput_keep hd]
theorem evD_keep {ops : Array Oper} {bef : Array Nat} : ∀ (r : List Oper) {i : Nat} {T : Fr} {H : AH} {hist : List (Nat × AH)} {reads : List (Nat × (AH → Bool))} {T' : Fr} {H' : AH}, evD P w0 call ops bef r i T H hist reads = some (T', H') → ∀ t, t ∉ r.filterMap (·.dst) → T' t = T t
  | [], i, T, H, hist, reads, T', H', h, t, ht => by simp only [evD, Option.some.injEq] at h; cases h; rfl
  | o :: r, i, T, H, hist, reads, T', H', h, t, ht => by
    have hd : o.dst ≠ some t := fun e => ht (by simp [e])
    have hr : t ∉ r.filterMap (·.dst) := fun e => ht (by
      rw [List.filterMap_cons]
      split
      · exact e
      · exact List.mem_cons_of_mem _ e)
    simp only [evD] at h
    repeat' split at h
    all_goals first | (cases h; done) | rw [evD_keep r h t hr, aput_keep hd]
theorem evCode_keep {k : Nat} : ∀ (c : Code) {T : Fr} {H : AH} {e : Exit} {T' : Fr} {H' : AH}, evCode P w0 call k n c T H = some (e, T', H') → ∀ t, t ∉ dsts c → T' t = T t
  | .skip, T, H, e, T', H', h, t, ht | .label _, T, H, e, T', H', h, t, ht | .exit _, T, H, e, T', H', h, t, ht | .ret, T, H, e, T', H', h, t, ht => by simp only [evCode, Option.some.injEq] at h; cases h; rfl
  | .scope _, T, H, e, T', H', h, t, ht | .goto _, T, H, e, T', H', h, t, ht | .refuse _, T, H, e, T', H', h, t, ht => by simp [evCode] at h
  | .region _ ops d, T, H, e, T', H', h, t, ht => by
    simp only [evCode] at h
    split at h
    · rw [Option.map_eq_some_iff] at h
      obtain ⟨⟨T1, H1⟩, h, e1⟩ := h
      cases e1
      exact evD_keep _ h t ht
    · rw [Option.map_eq_some_iff] at h
      obtain ⟨⟨T1, H1⟩, h, e1⟩ := h
      cases e1
      exact evOps_keep _ h t ht
  | .seq a b, T, H, e, T', H', h, t, ht => by
    simp only [dsts, List.mem_append, not_or] at ht
    simp only [evCode] at h
    split at h
    · rename_i T1 H1 h1
      rw [evCode_keep b h t ht.2, evCode_keep a h1 t ht.1]
    · exact evCode_keep a h t ht.1
  | .cond d a b, T, H, e, T', H', h, t, ht => by
    simp only [dsts, List.mem_append, not_or] at ht
    simp only [evCode] at h
    split at h
    · split at h
      · exact evCode_keep a h t ht.1
      · exact evCode_keep b h t ht.2
    · cases h
  | .block id c, T, H, e, T', H', h, t, ht => by
    simp only [dsts] at ht
    simp only [evCode] at h
    split at h
    · rename_i i T1 H1 h1
      split at h <;> (cases h; exact evCode_keep c h1 t ht)
    · exact evCode_keep c h t ht
  | .loop c, T, H, e, T', H', h, t, ht => by
    simp only [dsts] at ht
    simp only [evCode] at h
    have key : ∀ (j : Nat) (T : Fr) (H : AH), aiter j (evCode P w0 call k n c) T H = some (e, T', H') → T' t = T t := by
      intro j
      induction j with
      | zero => intro T H h; cases h
      | succ j ih =>
        intro T H h
        simp only [aiter] at h
        split at h
        · rename_i T1 H1 h1
          rw [ih _ _ h, evCode_keep c h1 t ht]
        · exact evCode_keep c h t ht
    exact key k T H h
  | .rangeFunc g ps as bd, T, H, e, T', H', h, t, ht => by
    simp only [evCode] at h
    repeat' split at h
    all_goals first | (cases h; done) | (cases h; rfl)

def RunsTo (P : Program) (w0 : World) (O : Over) (n : Nat) (c : Code) (T : Fr) (H : AH) (Q : Exit → Fr → AH → Prop) : Prop := ∃ e T' H', Runs P w0 O n c T H e T' H' ∧ Q e T' H'
variable {Q Q' : Exit → Fr → AH → Prop}
theorem RunsTo.mono (h : RunsTo P w0 O n c T H Q) (hq : ∀ e T' H', Q e T' H' → Q' e T' H') : RunsTo P w0 O n c T H Q' := by
  obtain ⟨e, T', H', h1, h2⟩ := h
  exact ⟨e, T', H', h1, hq _ _ _ h2⟩
theorem RunsTo.keep (h : RunsTo P w0 O n c T H Q) : RunsTo P w0 O n c T H (fun e T' H' => Q e T' H' ∧ ∀ t, t ∉ dsts c → T' t = T t) := by
  obtain ⟨e, T', H', ⟨k, h1⟩, h2⟩ := h
  exact ⟨e, T', H', ⟨k, h1⟩, h2, evCode_keep c h1⟩
theorem RunsTo.ev {k : Nat} (hM : OverMono O) (h : evCode P w0 noCall k n c T H = some (e, T', H')) (hq : Q e T' H') : RunsTo P w0 O n c T H Q := ⟨e, T', H', ⟨k, evCode_mono (noCall_le _) (Nat.le_refl _) _ _ _ h⟩, hq⟩
theorem RunsTo.evk {k k' : Nat} (hM : OverMono O) (h : evCode P w0 (evCall P w0 O k) k' n c T H = some (e, T', H')) (hq : Q e T' H') : RunsTo P w0 O n c T H Q :=
  ⟨e, T', H', ⟨max k k', evCode_mono (evCall_le hM (Nat.le_max_left _ _)) (Nat.le_max_right _ _) _ _ _ h⟩, hq⟩
theorem RunsTo.seq (hM : OverMono O) (h : RunsTo P w0 O n x T H (fun e T1 H1 => (e = .normal ∧ RunsTo P w0 O n y T1 H1 Q) ∨ (e ≠ .normal ∧ Q e T1 H1))) : RunsTo P w0 O n (.seq x y) T H Q := by
  obtain ⟨e, T1, H1, h1, ⟨rfl, e2, T2, H2, h2, h3⟩ | ⟨he, hq⟩⟩ := h
  · exact ⟨e2, T2, H2, Runs.seq hM h1 h2, h3⟩
  · exact ⟨e, T1, H1, Runs.out h1 he, hq⟩
theorem RunsTo.block {id : Nat} (h : RunsTo P w0 O n x T H (fun e T1 H1 => Q (outOf id e) T1 H1)) : RunsTo P w0 O n (.block id x) T H Q := by
  obtain ⟨e, T1, H1, h1, h2⟩ := h
  by_cases he : e = .exit id
  · subst he
    refine ⟨.normal, T1, H1, Runs.block_exit h1, ?_⟩
    simpa [outOf] using h2
  · refine ⟨e, T1, H1, Runs.block h1 he, ?_⟩
    cases e <;> try exact h2
    rename_i i
    have : ¬ i = id := fun q => he (by rw [q])
    simpa [outOf, this] using h2
theorem RunsTo.cond {d : Operand} {t : Bool} (ht : aev T d = .bool t) (h : RunsTo P w0 O n (if t then x else y) T H Q) : RunsTo P w0 O n (.cond d x y) T H Q := by
  obtain ⟨e, T1, H1, h1, h2⟩ := h
  exact ⟨e, T1, H1, Runs.cond ht h1, h2⟩
theorem RunsTo.skip (hq : Q .normal T H) : RunsTo P w0 O n .skip T H Q := ⟨_, _, _, Runs.skip, hq⟩
theorem RunsTo.ret (hq : Q .ret T H) : RunsTo P w0 O n .ret T H Q := ⟨_, _, _, Runs.ret, hq⟩
theorem RunsTo.exit {i : Nat} (hq : Q (.exit i) T H) : RunsTo P w0 O n (.exit i) T H Q := ⟨_, _, _, Runs.exit, hq⟩
theorem RunsTo.loop (hM : OverMono O) (Inv : Nat → Fr → AH → Prop) (hr : ∀ j T H, Inv j T H → RunsTo P w0 O n x T H (fun e T1 H1 => (e = .normal ∧ ∃ j', j' < j ∧ Inv j' T1 H1) ∨ (e ≠ .normal ∧ Q e T1 H1))) : ∀ (j : Nat) {T : Fr} {H : AH}, Inv j T H → RunsTo P w0 O n (.loop x) T H Q := by
  intro j
  induction j using Nat.strongRecOn with
  | ind j ih =>
    intro T H hi
    obtain ⟨e, T1, H1, h1, ⟨rfl, j', hj, hi'⟩ | ⟨he, hq⟩⟩ := hr j T H hi
    · obtain ⟨e2, T2, H2, h2, h3⟩ := ih j' hj hi'
      exact ⟨e2, T2, H2, Runs.loop_next hM h1 h2, h3⟩
    · exact ⟨e, T1, H1, Runs.loop_out hM h1 he, hq⟩
def DoesTo (P : Program) (w0 : World) (O : Over) (f : Nat) (vs : List Value) (H : AH) (Q : Value → AH → Prop) : Prop := ∃ v H', Does P w0 O f vs H v H' ∧ Q v H'
theorem DoesTo.intro {f : Nat} {fn : Func} {c : Code} {vs : List Value} {Q : Value → AH → Prop} (hO : O f = none) (hf : P.funcs[f]? = some fn) (hb : fn.body = some c) (hok : funcOk P fn = true) (hl : vs.length ≤ fn.ntmps)
    (h : RunsTo P w0 O fn.ntmps c (frame0 vs) H (fun e T' H' => (e = .normal ∨ e = .ret) ∧ ∃ v, aresults P w0 fn T' H' = some v ∧ Q v H')) : DoesTo P w0 O f vs H Q := by
  obtain ⟨e, T', H', h1, he, v, hv, hq⟩ := h
  exact ⟨v, H', Does.intro hO hf hb hok hl h1 he hv, hq⟩
/- memory that was there stays -/
def Keeps (H0 H : AH) : Prop := ∃ Y, H = H0 ++ Y
theorem Keeps.refl (H : AH) : Keeps H H := ⟨[], by simp⟩
theorem Keeps.trans {A B C : AH} (h : Keeps A B) (k : Keeps B C) : Keeps A C := by
  obtain ⟨Y, rfl⟩ := h
  obtain ⟨Z, rfl⟩ := k
  exact ⟨Y ++ Z, by simp⟩
theorem Keeps.app (H Y : AH) : Keeps H (H ++ Y) := ⟨Y, rfl⟩
theorem Keeps.get {A B : AH} (h : Keeps A B) {i : Nat} {o : AObj} (hi : A[i]? = some o) : B[i]? = some o := by
  obtain ⟨Y, rfl⟩ := h
  exact get_app hi
theorem Keeps.len {A B : AH} (h : Keeps A B) : A.length ≤ B.length := by
  obtain ⟨Y, rfl⟩ := h
  simp
theorem Keeps.set {A B : AH} (h : Keeps A B) {i : Nat} (hi : A.length ≤ i) (o : AObj) : Keeps A (B.set i o) := by
  obtain ⟨Y, rfl⟩ := h
  exact ⟨Y.set (i - A.length) o, by rw [List.set_append_right _ _ hi]⟩
theorem Keeps.put {A B : AH} (h : Keeps A B) (Y : AH) : Keeps A (B ++ Y) := h.trans (Keeps.app B Y)
end Go.Am
/- The abstract machine: rows that are made by append: their parts, and what is put behind them. -/
namespace Go.Am
variable {P : Program} {w0 : World} {H H0 H1 H' : AH} {t xt e e' : TypeId} {sz by' b n m id : Nat} {cs l : List Value} {v src : Value}

structure TyOk (P : Program) (t e : TypeId) (sz by' : Nat) : Prop where
  und : P.underlying t = some (.slice e)
  info : ∃ i, P.info? e = some i ∧ i.size = sz ∧ i.bytes = by'
  pos : sz ≠ 0 ∧ by' ≠ 0
  zero : ∃ z, azero P e = some z ∧ z.cells.size = sz
theorem TyOk.size (h : TyOk P t e sz by') : asize P e = some sz := by
  obtain ⟨i, h1, h2, _⟩ := h.info
  simp [asize, h1, h2]
def Row (b : Nat) (H : AH) (e : TypeId) (v : Value) (n : Nat) (cs : List Value) : Prop :=
  (v = .slice none 0 0 ∧ n = 0 ∧ cs = []) ∨ (∃ id, b ≤ id ∧ v = .slice (some ⟨id, 0, none⟩) 0 0 ∧ H[id]? = some (.cells [] e false) ∧ n = 0 ∧ cs = []) ∨
    (∃ id, b ≤ id ∧ v = .slice (some ⟨id, 0, none⟩) n n ∧ H[id]? = some (.cells cs e true))
def vid : Value → Option Nat
  | .slice (some a) _ _ => some a.block
  | _ => none
theorem Row.vid_ge (h : Row b H e v n cs) {i : Nat} (hi : vid v = some i) : b ≤ i ∧ i < H.length := by
  rcases h with ⟨rfl, _⟩ | ⟨id, h1, rfl, h2, _⟩ | ⟨id, h1, rfl, h2⟩
  · cases hi
  · cases hi; exact ⟨h1, (List.getElem?_eq_some_iff.1 h2).1⟩
  · cases hi; exact ⟨h1, (List.getElem?_eq_some_iff.1 h2).1⟩
theorem Row.mono (h : Row b H e v n cs) (hg : ∀ i, vid v = some i → H'[i]? = H[i]?) : Row b H' e v n cs := by
  rcases h with h | ⟨id, h1, rfl, h2, h3⟩ | ⟨id, h1, rfl, h2⟩
  · exact .inl h
  · exact .inr (.inl ⟨id, h1, rfl, (hg id rfl).trans h2, h3⟩)
  · exact .inr (.inr ⟨id, h1, rfl, (hg id rfl).trans h2⟩)
theorem Row.lower {b' : Nat} (h : Row b H e v n cs) (hb : b' ≤ b) : Row b' H e v n cs := by
  rcases h with h | ⟨id, h1, h2⟩ | ⟨id, h1, h2⟩
  · exact .inl h
  · exact .inr (.inl ⟨id, by omega, h2⟩)
  · exact .inr (.inr ⟨id, by omega, h2⟩)
def Grown (H H' : AH) (v : Value) : Prop := H.length ≤ H'.length ∧ ∀ i, i < H.length → vid v ≠ some i → H'[i]? = H[i]?
theorem Grown.app (H Y : AH) (v : Value) : Grown H (H ++ Y) v := ⟨by simp, fun i hi _ => by rw [List.getElem?_append_left hi]⟩
theorem keeps_of (h1 : H0.length ≤ H.length) (h2 : ∀ i, i < H0.length → H[i]? = H0[i]?) : Keeps H0 H := by
  refine ⟨H.drop H0.length, ?_⟩
  have htake : H.take H0.length = H0 := by
    apply List.ext_getElem?
    intro i
    rw [List.getElem?_take]
    by_cases hi : i < H0.length
    · rw [if_pos hi, h2 i hi]
    · rw [if_neg hi, List.getElem?_eq_none (by omega)]
  conv => lhs; rw [← List.take_append_drop H0.length H, htake]
theorem Grown.keeps (h : Grown H H' v) (hk : Keeps H0 H) (hv : ∀ i, vid v = some i → H0.length ≤ i) : Keeps H0 H' := by
  have hl := hk.len
  refine keeps_of (Nat.le_trans hl h.1) (fun i hi => ?_)
  rw [h.2 i (by omega) (fun q => by have := hv i q; omega)]
  obtain ⟨Y, rfl⟩ := hk
  rw [List.getElem?_append_left hi]
/- append -/
theorem app_row (ht : TyOk P t e sz by') (hx : P.underlying xt = some (.slice e') ∨ P.underlying xt = some .string) (hb : b ≤ H.length) (hR : Row b H e v n cs) (hn : cs.length = n * sz) (hsrc : asrc w0 H sz src = some (m, l)) (hl : l.length = m * sz) (hc : l.all cellV = true) (hbytes : (n + m) * by' ≤ 2 ^ 47) :
    ∃ v' H', aappend P w0 H #[t, xt] [v, src] = some (v', H') ∧ Row b H' e v' (n + m) (cs ++ l) ∧ Grown H H' v ∧ (∀ i, vid v' = some i → vid v = some i ∨ H.length ≤ i) := by
  obtain ⟨i, hi, rfl, rfl⟩ := ht.info
  obtain ⟨z, hz, hzs⟩ := ht.zero
  have h1 : ¬ (i.size = 0 ∨ i.bytes = 0 ∨ z.cells.size ≠ i.size) := by
    rintro (h | h | h)
    · exact ht.pos.1 h
    · exact ht.pos.2 h
    · exact h hzs
  have key : aappend P w0 H #[t, xt] [v, src] = aappendTo w0 H e i.size i.bytes v m l := by
    unfold aappend
    rcases hx with hx | hx <;>
      simp only [List.getElem?_toArray, List.getElem?_cons_zero, List.getElem?_cons_succ, ht.und, hi, hz, if_neg h1, hx, hsrc, if_pos hl]
  rw [key]
  have gr : ∀ {k : Nat} {xs : List Value}, k * i.bytes ≤ 2 ^ 47 → agrow H e i.bytes k xs = some (.slice (some ⟨H.length, 0, none⟩) k k, H ++ [.cells xs e true]) := fun hk => by simp [agrow, hk]
  have hm0 : m = 0 → l = [] := fun hm => List.length_eq_zero_iff.1 (by rw [hl, hm, Nat.zero_mul])
  rcases hR with ⟨rfl, rfl, rfl⟩ | ⟨id, hid, rfl, hH, rfl, rfl⟩ | ⟨id, hid, rfl, hH⟩
  · simp only [aappendTo]
    by_cases hm : m = 0
    · have := hm0 hm
      subst this hm
      exact ⟨_, _, by rw [if_pos rfl], .inl ⟨rfl, rfl, rfl⟩, ⟨Nat.le_refl _, fun _ _ _ => rfl⟩, fun _ h => by cases h⟩
    · rw [if_neg hm, gr (by simpa using hbytes)]
      refine ⟨_, _, rfl, .inr (.inr ⟨H.length, hb, by simp, by simp⟩), Grown.app _ _ _, fun j hj => ?_⟩
      cases hj
      exact .inr (Nat.le_refl _)
  · simp only [aappendTo, hH, Nat.zero_add]
    by_cases hm : m = 0
    · have := hm0 hm
      subst this hm
      refine ⟨_, _, by simp only [Nat.le_refl, if_true, putCells, Option.map_some], .inr (.inl ⟨id, hid, rfl, hH, rfl, rfl⟩), ⟨Nat.le_refl _, fun _ _ _ => rfl⟩, fun j hj => .inl hj⟩
    · rw [if_neg (by omega)]
      simp only [if_true, List.nil_append]
      rw [gr (by simpa using hbytes)]
      refine ⟨_, _, rfl, .inr (.inr ⟨H.length, hb, by simp, by simp⟩), Grown.app _ _ _, fun j hj => ?_⟩
      cases hj
      exact .inr (Nat.le_refl _)
  · simp only [aappendTo, hH]
    by_cases hm : m = 0
    · have := hm0 hm
      subst this hm
      rw [List.append_nil]
      exact ⟨_, _, by rw [if_pos rfl], .inr (.inr ⟨id, hid, by rw [Nat.add_zero], hH⟩), ⟨Nat.le_refl _, fun _ _ _ => rfl⟩, fun j hj => .inl hj⟩
    · have hlt := (List.getElem?_eq_some_iff.1 hH).1
      rw [if_neg hm, if_pos ⟨trivial, hn.symm, trivial, hbytes, hc⟩]
      refine ⟨_, _, rfl, .inr (.inr ⟨H.length, hb, rfl, ?_⟩), ⟨by simp, fun j hj hv => ?_⟩, fun j hj => ?_⟩
      · rw [List.getElem?_append_right (by simp)]
        simp
      · have : id ≠ j := fun q => hv (by rw [q]; rfl)
        rw [List.getElem?_append_left (by simpa using hj), List.getElem?_set_ne this]
      · cases hj
        exact .inr (Nat.le_refl _)
/- parts of a row -/
theorem asrc_part {off m c : Nat} {g : Bool} (hH : H[id]? = some (.cells cs e g)) (hm : off + m * sz ≤ cs.length) : asrc w0 H sz (.slice (some ⟨id, off, none⟩) m c) = some (m, (cs.drop off).take (m * sz)) := by
  by_cases h : m = 0
  · subst h; simp [asrc]
  · simp [asrc, h, acells, hH, hm]
theorem Row.hi (ht : TyOk P t e sz by') (hR : Row b H e v n cs) (hn : cs.length = n * sz) {k : IntKind} (hm : m ≤ n) : ∃ u, aslice P H t v none (some (.int k m)) none = some u ∧ asrc w0 H sz u = some (m, cs.take (m * sz)) := by
  have hs := ht.size
  have ab : ∀ d q : Nat, m ≤ q → abound (some (.int k m)) q d = some m := fun d q hq => by simp [abound]; omega
  rcases hR with ⟨rfl, rfl, rfl⟩ | ⟨id, hid, rfl, hH, rfl, rfl⟩ | ⟨id, hid, rfl, hH⟩
  · have : m = 0 := by omega
    subst this
    refine ⟨.slice none 0 0, ?_, by simp [asrc]⟩
    unfold aslice
    simp only [ht.und, hs]
    simp [ab 0 0 (Nat.le_refl _), abound]
  · have : m = 0 := by omega
    subst this
    refine ⟨.slice (some ⟨id, 0, none⟩) 0 0, ?_, by simp [asrc]⟩
    unfold aslice
    simp only [ht.und, hs, hH]
    simp [asliceExact, abound]
  · refine ⟨.slice (some ⟨id, 0, none⟩) m m, ?_, ?_⟩
    · unfold aslice
      simp only [ht.und, hs, hH]
      simp [abound, hm]
    · rw [asrc_part hH (by rw [hn, Nat.zero_add]; exact Nat.mul_le_mul_right _ hm)]
      simp
theorem Row.lo (ht : TyOk P t e sz by') (hR : Row b H e v n cs) (hn : cs.length = n * sz) {k : IntKind} (hm : m ≤ n) : ∃ u, aslice P H t v (some (.int k m)) none none = some u ∧ asrc w0 H sz u = some (n - m, cs.drop (m * sz)) := by
  have hs := ht.size
  rcases hR with ⟨rfl, rfl, rfl⟩ | ⟨id, hid, rfl, hH, rfl, rfl⟩ | ⟨id, hid, rfl, hH⟩
  · have : m = 0 := by omega
    subst this
    refine ⟨.slice none 0 0, ?_, by simp [asrc]⟩
    unfold aslice
    simp only [ht.und, hs]
    simp [abound]
  · have : m = 0 := by omega
    subst this
    refine ⟨.slice (some ⟨id, 0, none⟩) 0 0, ?_, by simp [asrc]⟩
    unfold aslice
    simp only [ht.und, hs, hH]
    simp [asliceExact, abound]
  · by_cases h0 : m = 0
    · subst h0
      refine ⟨.slice (some ⟨id, 0, none⟩) n n, ?_, ?_⟩
      · unfold aslice
        simp only [ht.und, hs, hH]
        simp [abound]
      · rw [asrc_part hH (by omega)]
        simp [← hn]
    · by_cases hmn : m < n
      · refine ⟨.slice (some ⟨id, m * sz, none⟩) (n - m) (n - m), ?_, ?_⟩
        · unfold aslice
          simp only [ht.und, hs, hH]
          simp [abound, hm, h0, hmn]
        · have : m * sz + (n - m) * sz = n * sz := by rw [← Nat.add_mul]; congr 1; omega
          rw [asrc_part hH (by omega)]
          congr 2
          rw [List.take_of_length_le (by rw [List.length_drop]; omega)]
      · have : m = n := by omega
        subst this
        refine ⟨.slice (some ⟨id, 0, some 1⟩) 0 m, ?_, ?_⟩
        · unfold aslice
          simp only [ht.und, hs, hH]
          simp [abound, h0]
        · simp [asrc, hn]
end Go.Am
