/- The functions of refs and of the document on references, as they are in the abstract machine, second part; the law RefsAsks. -/
import Derived.Test.YtpphdfcahemlcaaLA
import Derived.WalkKit
import Derived.DataReads
import Derived.Test.YtpphdfcahemlcaaSort
import Derived.Test.YtpphdfcahemlcaaMB
set_option linter.unusedSimpArgs false
set_option linter.unusedVariables false
set_option linter.unusedSectionVars false
set_option linter.unnecessarySimpa false
/- What lies in memory when the law is called: references, whole numbers. -/
open Go.Proofs Go.Am
namespace Go.Am
variable {H : Type} {enc : TypeId × Value → H} {W : World}
theorem acell_base {b o : Nat} {v u : Value} (h : W.cell? ⟨b, o, none⟩ = some v) (ht : tagV v = some u) : acell W [] ⟨b, o, some 0⟩ = some u := by
  unfold World.cell? at h
  unfold acell
  simp only
  split at h
  · rename_i C e fr hb
    simp only [hb]
    simp only [Option.isSome_none, Bool.false_eq_true, if_false] at h
    rw [h]
    simpa using ht
  · cases h
theorem trod_int {fuel t : Nat} {k : IntKind} (hu : Try.prog.underlying t = some (.int k)) {cs : List Value} {r : DataW H × List MemPlace} (h : DataW.trod enc Try.prog W 0 (fun _ => true) true fuel t cs = some r) : ∃ n, cs = [.int k n] ∧ (Lit.int k n).wf = true := by
  cases fuel with
  | zero => cases h
  | succ fuel =>
    unfold DataW.trod at h
    simp only [hu] at h
    match cs, h with
    | [.int k' n], h =>
      simp only at h
      split at h
      · rename_i hk
        obtain ⟨rfl, hw⟩ := hk
        exact ⟨n, rfl, hw⟩
      · cases h
theorem co3 : Try.prog.cellsOf 3 = 1 := by kernel_rfl
theorem co36 : Try.prog.cellsOf 36 = 2 := by kernel_rfl
theorem co52 : Try.prog.cellsOf 52 = 3 := by kernel_rfl
theorem len_two {α : Type} : ∀ {l : List α}, l.length = 2 → ∃ x y, l = [x, y]
  | [x, y], _ => ⟨x, y, rfl⟩
  | [], h => by simp at h
  | [_], h => by simp at h
  | _ :: _ :: _ :: _, h => by simp at h
theorem len_three {α : Type} : ∀ {l : List α}, l.length = 3 → ∃ x y z, l = [x, y, z]
  | [x, y, z], _ => ⟨x, y, z, rfl⟩
  | [], h => by simp at h
  | [_], h => by simp at h
  | [_, _], h => by simp at h
  | _ :: _ :: _ :: _ :: _, h => by simp at h
theorem trod_place {fuel : Nat} {cs : List Value} {r : DataW H × List MemPlace} (h : DataW.trod enc Try.prog W 0 (fun _ => true) true fuel 36 cs = some r) : ∃ a b, cs = [.int .i64 a, .int .i64 b] ∧ (Lit.int .i64 a).wf = true ∧ (Lit.int .i64 b).wf = true := by
  cases fuel with
  | zero => cases h
  | succ fuel =>
    unfold DataW.trod at h
    simp only [Try.underlying36] at h
    split at h
    · rename_i hl
      rw [co36] at hl
      obtain ⟨x, y, rfl⟩ := len_two hl
      clear hl
      simp only [List.mapM_cons, List.mapM_nil, co3, List.drop_zero, List.take_succ_cons, List.take_zero, List.drop_succ_cons] at h
      rw [Option.map_eq_some_iff] at h
      obtain ⟨q, h, _⟩ := h
      simp only [bind, Option.bind_eq_some_iff] at h
      obtain ⟨u, hu, w, hw, _⟩ := h
      obtain ⟨a, ha, ha2⟩ := trod_int Try.underlying3 hu
      obtain ⟨s, hs, _⟩ := hw
      obtain ⟨b, hb, hb2⟩ := trod_int Try.underlying3 hs
      cases ha
      cases hb
      exact ⟨a, b, rfl, ha2, hb2⟩
    · cases h
theorem trod_ref {fuel : Nat} {cs : List Value} {r : DataW H × List MemPlace} (h : DataW.trod enc Try.prog W 0 (fun _ => true) true fuel 52 cs = some r) : ∃ a b m, cs = [.int .i64 a, .int .i64 b, .int .i64 m] := by
  cases fuel with
  | zero => cases h
  | succ fuel =>
    unfold DataW.trod at h
    simp only [Try.underlying52] at h
    split at h
    · rename_i hl
      rw [co52] at hl
      obtain ⟨x, y, z, rfl⟩ := len_three hl
      clear hl
      simp only [List.mapM_cons, List.mapM_nil, co3, co36, List.drop_zero, List.take_succ_cons, List.take_zero, List.drop_succ_cons] at h
      rw [Option.map_eq_some_iff] at h
      obtain ⟨q, h, _⟩ := h
      simp only [bind, Option.bind_eq_some_iff] at h
      obtain ⟨u, hu, w, hw, _⟩ := h
      obtain ⟨a, b, ha, _⟩ := trod_place hu
      obtain ⟨s, hs, _⟩ := hw
      obtain ⟨m, hb, _⟩ := trod_int Try.underlying3 hs
      cases ha
      cases hb
      exact ⟨a, b, m, rfl⟩
    · cases h
/- a slice's elements, one by one -/
theorem trod_elems {fuel e t : Nat} (hu : Try.prog.underlying t = some (.slice e)) {v : Value} {r : DataW H × List MemPlace} (h : DataW.trod enc Try.prog W 0 (fun _ => true) true fuel t [v] = some r) :
    v = .slice none 0 0 ∨ ∃ a len cap fuel', v = .slice (some a) len cap ∧ len ≤ cap ∧ cap ≤ maxLen ∧ ∀ i, i < len → ∃ cs q, W.cells? 0 (a.add (i * Try.prog.cellsOf e)) (Try.prog.cellsOf e) = some cs ∧ DataW.trod enc Try.prog W 0 (fun _ => true) true fuel' e cs = some q := by
  cases fuel with
  | zero => cases h
  | succ fuel =>
    unfold DataW.trod at h
    simp only [hu] at h
    match v, h with
    | .slice none 0 0, _ => exact .inl rfl
    | .slice (some a) len cap, h =>
      simp only at h
      split at h
      · rename_i hc
        rw [Option.bind_eq_some_iff] at h
        obtain ⟨els, h1, _⟩ := h
        refine .inr ⟨a, len, cap, fuel, rfl, hc.2.1, hc.2.2, fun i hi => ?_⟩
        have hl := mapM_some_length h1
        rw [List.length_range] at hl
        have hg := mapM_some_get h1 i i (by simp [hi])
        have he : els[i]? = some els[i] := List.getElem?_eq_getElem (by omega)
        rw [he, Option.bind_eq_some_iff] at hg
        obtain ⟨cs, g1, g2⟩ := hg
        exact ⟨cs, _, g1, g2⟩
      · cases h
end Go.Am
/- The law's arguments, named in the abstract machine. -/
open Go.Proofs Go.Am
namespace Go.Am
variable {H : Type} {enc : TypeId × Value → H} {W : World}
theorem cells_get {a : Addr} (hs : a.spot = none) {n : Nat} {cs : List Value} (h : W.cells? 0 a n = some cs) : cs.length = n ∧ ∀ i v, cs[i]? = some v → W.cell? ⟨a.block, a.off + i, none⟩ = some v := by
  unfold World.cells? at h
  rw [if_pos (Nat.zero_le _)] at h
  have hl := mapM_some_length h
  rw [List.length_range] at hl
  refine ⟨hl, fun i v hv => ?_⟩
  have hi := (List.getElem?_eq_some_iff.1 hv).1
  have := mapM_some_get h i i (by rw [List.getElem?_range (by omega)])
  rw [hv] at this
  obtain ⟨b, o, s⟩ := a
  simp only at hs
  subst hs
  rwa [add_plain] at this
def base (a : Addr) : Addr := ⟨a.block, a.off, some 0⟩
theorem ints_at {fuel : Nat} {v : Value} {r : DataW H × List MemPlace} (h : DataW.trod enc Try.prog W 0 (fun _ => true) true fuel 29 [v] = some r) (hsp : ∀ a len cap, v = .slice (some a) len cap → a.spot = none) :
    ∃ u xs, cv none0 u = some v ∧ IntSl W [] u xs := by
  rcases trod_elems Try.underlying29 h with rfl | ⟨a, len, cap, f', rfl, _, _, he⟩
  · exact ⟨.slice none 0 0, [], rfl, .inl ⟨rfl, rfl⟩⟩
  · have hs := hsp a len cap rfl
    have hone : ∀ i, i < len → ∃ x, W.cell? ⟨a.block, a.off + i, none⟩ = some (.int .i64 x) := by
      intro i hi
      obtain ⟨cs, q, h1, h2⟩ := he i hi
      obtain ⟨x, rfl, _⟩ := trod_int Try.underlying3 h2
      rw [co3, Nat.mul_one] at h1
      have h3 := cells_get (a := a.add i) (by obtain ⟨b, o, s⟩ := a; simp only at hs; subst hs; rw [add_plain]) h1
      have := h3.2 0 _ rfl
      refine ⟨x, ?_⟩
      obtain ⟨b, o, s⟩ := a
      simp only at hs
      subst hs
      rw [add_plain] at this
      exact this
    refine ⟨.slice (some (base a)) len cap, (List.range len).map fun i => match W.cell? ⟨a.block, a.off + i, none⟩ with | some (.int _ x) => x | _ => 0, ?_, .inr ⟨a.block, a.off, some 0, cap, by simp [base], .inr rfl, fun i x hx => ?_⟩⟩
    · simp [cv, cvSlice, base, addr_none hs]
    · rw [List.getElem?_map, Option.map_eq_some_iff] at hx
      obtain ⟨i', hi', rfl⟩ := hx
      have hlt : i < len := by have := (List.getElem?_eq_some_iff.1 hi').1; simpa using this
      have : i' = i := by simpa [hlt] using hi'.symm
      subst this
      obtain ⟨x, hx⟩ := hone i' hlt
      rw [hx]
      exact acell_base hx rfl
theorem acells_base3 {b o : Nat} {x y z : Int} (h : ∀ i v, [Value.int .i64 x, .int .i64 y, .int .i64 z][i]? = some v → W.cell? ⟨b, o + i, none⟩ = some v) : acells W [] ⟨b, o, some 0⟩ 3 = some [.int .i64 x, .int .i64 y, .int .i64 z] :=
  acells_of (vs := [.int .i64 x, .int .i64 y, .int .i64 z]) (.inr rfl) (by simp) (fun i v hv => by
    have h1 := h i v hv
    have ht : tagV v = some v := by
      have : v ∈ [Value.int .i64 x, .int .i64 y, .int .i64 z] := List.mem_of_getElem? hv
      simp at this
      rcases this with rfl | rfl | rfl <;> rfl
    exact acell_base h1 ht)
theorem refs_at {fuel : Nat} {v : Value} {r : DataW H × List MemPlace} (h : DataW.trod enc Try.prog W 0 (fun _ => true) true fuel 25 [v] = some r) (hsp : ∀ a len cap, v = .slice (some a) len cap → a.spot = none) :
    ∃ u R, cv none0 u = some v ∧ RefSl W [] u R := by
  rcases trod_elems Try.underlying25 h with rfl | ⟨a, len, cap, f', rfl, _, _, he⟩
  · exact ⟨.slice none 0 0, [], rfl, .inl ⟨rfl, rfl⟩⟩
  · have hs := hsp a len cap rfl
    obtain ⟨b, o, s⟩ := a
    simp only at hs
    subst hs
    have hone : ∀ i, i < len → ∃ t : Int × Int × Int, acells W [] ⟨b, o + i * 3, some 0⟩ 3 = some [.int .i64 t.1, .int .i64 t.2.1, .int .i64 t.2.2] := by
      intro i hi
      obtain ⟨cs, q, h1, h2⟩ := he i hi
      obtain ⟨x, y, z, rfl⟩ := trod_ref h2
      rw [co52, add_plain] at h1
      exact ⟨(x, y, z), acells_base3 (cells_get rfl h1).2⟩
    refine ⟨.slice (some ⟨b, o, some 0⟩) len cap, (List.range len).map fun i => match acells W [] ⟨b, o + i * 3, some 0⟩ 3 with | some [.int _ x, .int _ y, .int _ z] => (x, y, z) | _ => (0, 0, 0), by simp [cv, cvSlice], .inr ⟨b, o, some 0, cap, by simp, .inr rfl, fun i x y z hx => ?_⟩⟩
    rw [List.getElem?_map, Option.map_eq_some_iff] at hx
    obtain ⟨i', hi', he'⟩ := hx
    have hlt : i < len := by have := (List.getElem?_eq_some_iff.1 hi').1; simpa using this
    have : i' = i := by simpa [hlt] using hi'.symm
    subst this
    obtain ⟨t, ht⟩ := hone i' hlt
    rw [ht] at he' ⊢
    simp only at he'
    obtain ⟨t1, t2, t3⟩ := t
    cases he'
    rfl
end Go.Am
/- The keys of a map of whole numbers, in whatever order, collected into a row. -/
open Go.Proofs Go.Am
namespace Go.Am
def ON : Over := fun _ => none
theorem onOk (P : Program) (w0 : World) : OverOk P w0 ON := ⟨fun _ _ _ _ h => (by cases h), fun _ _ _ _ h => (by cases h)⟩
theorem onMono : OverMono ON := fun _ _ h => (by cases h)
def opsOf : Code → Array Oper
  | .region _ ops _ => ops
  | _ => #[]
def left (es : List MapEntry) (seen : List Nat) : List MapEntry := es.filter fun e => !seen.contains e.born
theorem perm_out {e : MapEntry} : ∀ (l : List MapEntry), (l.map (·.born)).Nodup → e ∈ l → l.Perm (e :: l.filter fun x => x.born != e.born)
  | x :: r, hn, he => by
    rw [List.map_cons, List.nodup_cons] at hn
    by_cases hx : x.born = e.born
    · have hex : e = x := by
        rcases List.mem_cons.1 he with h | h
        · exact h
        · exact (hn.1 (hx ▸ List.mem_map.2 ⟨e, h, rfl⟩)).elim
      subst hex
      have : r.filter (fun y => y.born != e.born) = r := by
        rw [List.filter_eq_self]
        intro y hy
        have : y.born ≠ e.born := fun q => hn.1 (q ▸ List.mem_map.2 ⟨y, hy, rfl⟩)
        simpa using this
      simp [this]
    · have her : e ∈ r := by
        rcases List.mem_cons.1 he with h | h
        · exact (hx (by rw [h])).elim
        · exact h
      have hb : (x.born != e.born) = true := by simpa using hx
      rw [List.filter_cons, if_pos hb]
      exact ((perm_out r hn.2 her).cons x).trans (List.Perm.swap e x _)
theorem left_nodup {es : List MapEntry} {seen : List Nat} (h : (es.map (·.born)).Nodup) : ((left es seen).map (·.born)).Nodup := h.sublist (List.filter_sublist.map _)
theorem left_next {es : List MapEntry} {seen : List Nat} {e : MapEntry} (h : (es.map (·.born)).Nodup) (he : e ∈ left es seen) : (left es seen).Perm (e :: left es (seen ++ [e.born])) := by
  have := perm_out (left es seen) (left_nodup h) he
  have e2 : left es (seen ++ [e.born]) = (left es seen).filter fun x => x.born != e.born := by
    unfold left
    rw [List.filter_filter]
    congr 1
    funext x
    by_cases hx : x.born = e.born <;> simp [hx]
  rw [e2]
  exact this
theorem find_self {e : MapEntry} : ∀ {es : List MapEntry}, (es.map (·.born)).Nodup → e ∈ es → es.find? (fun x => x.born == e.born) = some e := fun h he => find_born e _ h he
structure OkM (es : List MapEntry) (clk : Nat) : Prop where
  nodup : (es.map (·.born)).Nodup
  old : ∀ e ∈ es, e.born < clk
  ints : ∀ e ∈ es, ∃ k v, e.key = iv k ∧ e.val = iv v
def keyI (e : MapEntry) : Int := match e.key with | .int _ k => k | _ => 0
def valI (e : MapEntry) : Int := match e.val with | .int _ k => k | _ => 0
theorem OkM.key {es : List MapEntry} {clk : Nat} (h : OkM es clk) {e : MapEntry} (he : e ∈ es) : e.key = iv (keyI e) ∧ e.val = iv (valI e) := by
  obtain ⟨k, v, h1, h2⟩ := h.ints e he
  simp [keyI, valI, h1, h2, iv]

def rowV (n : Nat) (xs : List Int) : Value := match xs with
  | [] => .slice none 0 0
  | _ => .slice (some ⟨n + 2 * xs.length - 1, 0, none⟩) xs.length xs.length
structure Coll (H0 : AH) (b it mm clk : Nat) (seen : List Nat) (xs : List Int) (H : AH) : Prop where
  len : H.length = H0.length + 2 * xs.length
  old : ∀ i, i < H0.length → i ≠ b → i ≠ it → H[i]? = H0[i]?
  iter : H[it]? = some (.miter (some mm) clk seen clk)
  box : H[b]? = some (.cells [rowV H0.length xs] 29 false)
  row : xs ≠ [] → H[H0.length + 2 * xs.length - 1]? = some (.cells (xs.map iv) 3 true)
theorem ok97 : funcOk Try.prog Try.f97 = true := by decide +kernel
noncomputable def b97 : Code := match Try.f97.body with | some c => c | none => .skip
theorem f97b : Try.f97.body = some b97 := rfl
noncomputable def as97 : Code := match cat [true, false, true] b97 with | .block _ (.rangeFunc _ _ a _) => a | _ => .skip
noncomputable def bd97 : Code := match cat [true, false, true] b97 with | .block _ (.rangeFunc _ _ _ b) => b | _ => .skip
theorem b97_eq : b97 = .seq (cat [false] b97) (.seq (.seq (cat [true, false, false] b97) (.block 0 (.rangeFunc (.tmp 6) #[7] as97 bd97))) (.seq (cat [true, true, false] b97) .ret)) := rfl
theorem cells_int {k : IntKind} {n : Int} : (Value.int k n).cells = #[.int k n] := rfl
theorem rowV_snoc (n : Nat) (xs : List Int) (x : Int) : rowV n (xs ++ [x]) = .slice (some ⟨n + 2 * (xs.length + 1) - 1, 0, none⟩) (xs.length + 1) (xs.length + 1) := by
  cases xs <;> simp [rowV]
theorem yield97 {w0 : World} {k : Nat} {H0 H : AH} {b it mm clk l : Nat} {seen : List Nat} {xs : List Int} {x : Int} {T : Fr} (hC : Coll H0 b it mm clk seen xs H) (hl : H0[l]? = some (.loop .ready none 13 T [7] as97 bd97)) (hT : T 2 = .pointer (some ⟨b, 0, none⟩)) (hlb : l ≠ b) (hli : l ≠ it) (hb : b < H0.length) (hbi : b ≠ it) (hi : it < H0.length) (hn : xs.length < 2 ^ 40) :
    ∃ H', evCall Try.prog w0 ON (k + 1) (.yield l) [iv x] H = some (.bool true, H') ∧ Coll H0 b it mm clk seen (xs ++ [x]) H' := by
  have hl0 : l < H0.length := (List.getElem?_eq_some_iff.1 hl).1
  have hlH : H[l]? = some (.loop .ready none 13 T [7] as97 bd97) := by rw [hC.old l hl0 hlb hli]; exact hl
  have hlen := hC.len
  have hbx := hC.box
  cases hin : Try.prog.info? 3 with
  | none => have := inf3; rw [hin] at this; cases this
  | some inf =>
  have hib := inf3
  rw [hin] at hib
  simp only [Option.map_some, Option.some.injEq, Prod.mk.injEq] at hib
  obtain ⟨H1, hH1⟩ : ∃ H1, H1 = H.set l (.loop .busy none 13 T [7] as97 bd97) := ⟨_, rfl⟩
  have hlen1 : H1.length = H.length := by rw [hH1]; simp
  have g1 : ∀ i, i ≠ l → H1[i]? = H[i]? := fun i hi => by rw [hH1, List.getElem?_set_ne (Ne.symm hi)]
  have gl : H1[l]? = some (.loop .busy none 13 T [7] as97 bd97) := by rw [hH1, List.getElem?_set_self (by omega)]
  have hbx1 : H1[b]? = some (.cells [rowV H0.length xs] 29 false) := by rw [g1 b (Ne.symm hlb)]; exact hbx
  have hsrc : asrc w0 (H1 ++ [.cells [iv x] 3 false]) inf.size (.slice (some ⟨H1.length, 0, none⟩) 1 1) = some (1, [iv x]) := by
    simp only [asrc, hib.1, Nat.one_ne_zero, if_false]
    rw [acells_last]
    simp
  -- append
  obtain ⟨H2, hap, hlen2, g2, hrow2⟩ : ∃ H2, aappend Try.prog w0 (H1 ++ [.cells [iv x] 3 false]) #[29, 29] [rowV H0.length xs, .slice (some ⟨H1.length, 0, none⟩) 1 1] = some (rowV H0.length (xs ++ [x]), H2) ∧ H2.length = H1.length + 2 ∧
      (∀ i, i < H0.length → H2[i]? = H1[i]?) ∧ H2[H1.length + 1]? = some (.cells ((xs ++ [x]).map iv) 3 true) := by
    rw [rowV_snoc]
    cases xs with
    | nil =>
      refine ⟨H1 ++ [.cells [iv x] 3 false] ++ [.cells [iv x] 3 true], by rw [show rowV H0.length [] = .slice none 0 0 from rfl, append_nil Try.underlying29 (.inl Try.underlying29) hin (by omega) (by omega) z3 (by simp [Value.cells, hib.1]) hsrc (by simp) (by simp [hib.1]) (by omega)]; simp [hlen1, hlen], by simp, fun i hi => ?_, ?_⟩
      · simp at hlen; rw [List.getElem?_append_left (by simp; omega), List.getElem?_append_left (by omega)]
      · simp
    | cons y ys =>
      have hr := hC.row (by simp)
      have hne : H0.length + 2 * (y :: ys).length - 1 ≠ l := by simp; omega
      have hel : (H1 ++ [AObj.cells [iv x] 3 false]).length = H0.length + 2 * ((y :: ys).length + 1) - 1 := by rw [List.length_append, hlen1, hlen, List.length_singleton]; omega
      have hr1 : (H1 ++ [.cells [iv x] 3 false])[H0.length + 2 * (y :: ys).length - 1]? = some (.cells ((y :: ys).map iv) 3 true) := by
        refine get_app ?_
        rw [g1 _ hne]
        exact hr
      refine ⟨(H1 ++ [AObj.cells [iv x] 3 false]).set (H0.length + 2 * (y :: ys).length - 1) .dead ++ [AObj.cells ((y :: ys).map iv ++ [iv x]) 3 true], by rw [show rowV H0.length (y :: ys) = .slice (some ⟨H0.length + 2 * (y :: ys).length - 1, 0, none⟩) (y :: ys).length (y :: ys).length from rfl, append_grow Try.underlying29 (.inl Try.underlying29) hin (by omega) (by omega) z3 (by simp [Value.cells, hib.1]) hr1 (by simp [hib.1]) hsrc (by simp) (by simp [hib.1]) (by simp [cellV, iv]) (by rw [hib.2]; omega)]; rw [hel], by simp, fun i hi => ?_, ?_⟩
      · simp only [List.length_cons] at hlen
        rw [List.getElem?_append_left (by simp; omega), List.getElem?_set_ne (by simp; omega), List.getElem?_append_left (by omega)]
      · rw [List.getElem?_append_right (by simp)]
        simp
  have hbx2 : H2[b]? = some (.cells [rowV H0.length xs] 29 false) := by rw [g2 b hb]; exact hbx1
  have hst : putCells H2 ⟨b, 0, none⟩ [rowV H0.length (xs ++ [x])] = some (H2.set b (.cells [rowV H0.length (xs ++ [x])] 29 false)) := by
    simp [putCells, hbx2, splice, rowV_snoc, cellV]
  have hld : acell w0 H1 ⟨b, 0, none⟩ = some (rowV H0.length xs) := by simp [acell, hbx1]
  have hgl : (H2.set b (.cells [rowV H0.length (xs ++ [x])] 29 false))[l]? = some (.loop .busy none 13 T [7] as97 bd97) := by
    rw [List.getElem?_set_ne (Ne.symm hlb), g2 l hl0]; exact gl
  have hsz29 : asize Try.prog 29 = some 1 := by kernel_rfl
  have hcs : (rowV H0.length (xs ++ [x])).cells = #[rowV H0.length (xs ++ [x])] := by rw [rowV_snoc]; rfl
  refine ⟨(H2.set b (.cells [rowV H0.length (xs ++ [x])] 29 false)).set l (.loop .ready none 13 T [7] as97 bd97), ?_, ?_⟩
  · have e1 : evCode Try.prog w0 (evCall Try.prog w0 ON k) k 13 as97 (putAllA T ([7].zip [iv x])) H = some (.normal, upd (upd T 7 (iv x)) 5 (iv x), H) := by
      simp [as97, b97, cat, Try.f97, evCode, evOps, astep, clsOf, aread, awanted, aev, aput, upd, putAllA]
    have e2 : ∃ T2, evCode Try.prog w0 (evCall Try.prog w0 ON k) k 13 bd97 (upd (upd T 7 (iv x)) 5 (iv x)) H1 = some (.normal, T2, H2.set b (.cells [rowV H0.length (xs ++ [x])] 29 false)) := by
      have hx5 : (upd (upd T 7 (iv x)) 5 (iv x)) 5 = iv x := by simp [upd]
      have hx2 : (upd (upd T 7 (iv x)) 5 (iv x)) 2 = .pointer (some ⟨b, 0, none⟩) := by simp [upd, hT]
      generalize upd (upd T 7 (iv x)) 5 (iv x) = T' at hx5 hx2
      have hap' := hap
      simp only [iv] at hap' hx5
      simp [bd97, b97, cat, Try.f97, evCode, evOps, astep, clsOf, aread, aalloc, awrite, astore, awanted, aev, aput, upd, hx5, hx2, aload, Try.underlying29, isAggD, hld, Try.underlying3, sz3, z3, cells_int, hap', hsz29, hcs, hst, Instr.fill]
    obtain ⟨T2, e2⟩ := e2
    rw [evCall]
    simp only [hlH, List.length_cons, List.length_nil, if_true, e1, ← hH1, e2, jumpOf, hgl]
    rfl
  · have hlen3 : ∀ (o1 o2 : AObj), ((H2.set b o1).set l o2).length = H0.length + 2 * (xs.length + 1) := fun o1 o2 => by simp [hlen2, hlen1, hlen]; omega
    refine ⟨by rw [hlen3]; simp, fun i h1 h2 h3 => ?_, ?_, ?_, fun _ => ?_⟩
    · by_cases hil : i = l
      · subst hil
        rw [List.getElem?_set_self (by simp [hlen2, hlen1, hlen]; omega)]
        exact hl.symm
      · rw [List.getElem?_set_ne (Ne.symm hil), List.getElem?_set_ne (Ne.symm h2), g2 i h1, g1 i hil]
        exact hC.old i h1 h2 h3
    · rw [List.getElem?_set_ne hli, List.getElem?_set_ne hbi, g2 it hi, g1 it (Ne.symm hli)]
      exact hC.iter
    · rw [List.getElem?_set_ne hlb, List.getElem?_set_self (by omega)]
    · have e : H0.length + 2 * (xs ++ [x]).length - 1 = H1.length + 1 := by rw [hlen1, hlen, List.length_append, List.length_singleton]; omega
      rw [e, List.getElem?_set_ne (by omega), List.getElem?_set_ne (by omega)]
      exact hrow2
theorem Coll.step {H0 H : AH} {b it mm clk : Nat} {seen : List Nat} {xs : List Int} {born : Nat} (h : Coll H0 b it mm clk seen xs H) (hb : b ≠ it) (hi : it < H0.length) : Coll H0 b it mm clk (seen ++ [born]) xs (H.set it (.miter (some mm) clk (seen ++ [born]) clk)) :=
  ⟨by simp [h.len], fun i h1 h2 h3 => by rw [List.getElem?_set_ne (Ne.symm h3)]; exact h.old i h1 h2 h3, by rw [List.getElem?_set_self (by rw [h.len]; omega)], by rw [List.getElem?_set_ne (Ne.symm hb)]; exact h.box, fun hx => by
    have : xs.length ≠ 0 := fun q => hx (List.length_eq_zero_iff.1 q)
    rw [List.getElem?_set_ne (by omega)]; exact h.row hx⟩
theorem ok77 : funcOk Try.prog Try.f77 = true := by decide +kernel
noncomputable def b77 : Code := match Try.f77.body with | some c => c | none => .skip
theorem f77b : Try.f77.body = some b77 := rfl
noncomputable def l77 : Code := cat [true, false, false] b77
noncomputable def o77 : Array Oper := opsOf (cat [false] l77)
noncomputable def r77 : Code := cat [true] l77
theorem b77_eq : b77 = .seq (cat [false] b77) (.block 0 (.loop l77)) := rfl
theorem l77_eq : l77 = .seq (.region 1 o77 false) r77 := rfl
theorem keys77 {w0 : World} {N : Nat} {H : AH} {b c mm clk l : Nat} {es : List MapEntry} {T0 : Fr} (hc : H[c]? = some (.cells [.map (some mm)] 83 false)) (hm : H[mm]? = some (.map es clk)) (hes : OkM es clk) (hl : H[l]? = some (.loop .ready none 13 T0 [7] as97 bd97)) (hT0 : T0 2 = .pointer (some ⟨b, 0, none⟩)) (hb : H[b]? = some (.cells [.slice none 0 0] 29 false))
    (hlb : l ≠ b) (hmb : mm ≠ b) (hn : es.length < 2 ^ 40) (hN : H.length + 1 + 2 * es.length ≤ N) :
    FnOkQ Try.prog w0 N 77 [.func (.yield l) #[] #[], .pointer (some ⟨c, 0, none⟩)] H (fun v H2 => v = undef ∧ ∃ seen xs, xs.Perm (es.map keyI) ∧ Coll (H ++ [.miter (some mm) clk [] clk]) b H.length mm clk seen xs H2) := by
  obtain ⟨H0, hH0⟩ : ∃ H0, H0 = H ++ [AObj.miter (some mm) clk [] clk] := ⟨_, rfl⟩
  have hlen0 : H0.length = H.length + 1 := by rw [hH0]; simp
  have lt : ∀ {i o}, H[i]? = some o → i < H.length := fun h => (List.getElem?_eq_some_iff.1 h).1
  have lm := lt hm; have ll := lt hl; have lb := lt hb; have lc := lt hc
  have get0 : ∀ {i o}, H[i]? = some o → H0[i]? = some o := fun h => by rw [hH0]; exact get_app h
  have hS := fun k => sound (P := Try.prog) (w0 := w0) (O := ON) (onOk _ w0) k
  rw [← hH0]
  refine FnOkQ.intro Try.func77 f77b ok77 (by simp [Try.f77]) ?_
  rw [b77_eq]
  obtain ⟨T1, a1, b1⟩ : ∃ T', evCode Try.prog w0 (evCall Try.prog w0 ON 0) 0 14 (cat [false] b77) (frame0 [.func (.yield l) #[] #[], .pointer (some ⟨c, 0, none⟩)]) H = some (.normal, T', H0) ∧ T' 0 = .func (.yield l) #[] #[] ∧ T' 5 = .pointer (some ⟨H.length, 0, none⟩) := by
    have e1 : acell w0 H ⟨c, 0, none⟩ = some (.map (some mm)) := by simp [acell, hc]
    simp [cat, b77, Try.f77, evCode, evOps, astep, clsOf, aread, awrite, awanted, aev, aput, upd, frame0, aload, Try.underlying83, isAggD, e1, arange, hm, hH0]
  refine CodeOk.seq (CodeOk.ev (hS 0) (by decide +kernel) a1 (by omega) (.inl ⟨rfl, ?_⟩))
  refine CodeOk.block (CodeOk.loop (fun j T H' => T 0 = .func (.yield l) #[] #[] ∧ T 5 = .pointer (some ⟨H.length, 0, none⟩) ∧ ∃ seen xs, Coll H0 b H.length mm clk seen xs H' ∧ (left es seen).length = j ∧ (xs ++ (left es seen).map keyI).Perm (es.map keyI)) ?_ es.length ?_)
  · rintro j T H' ⟨t0, t5, seen, xs, hC, hj, hp⟩
    have hit : H'[H.length]? = some (.miter (some mm) clk seen clk) := hC.iter
    have hmp : H'[mm]? = some (.map es clk) := by rw [hC.old mm (by omega) hmb (by omega)]; exact get0 hm
    have hlx : xs.length + j = es.length := by have := hp.length_eq; simp [hj] at this; exact this
    rw [l77_eq]
    refine CodeOk.seq (CodeOk.region ?_)
    have hops : o77.toList = [opAt o77 0, opAt o77 1] := rfl
    rw [hops]
    refine OpsOk.next (by decide +kernel) rfl rfl (rfl : (opAt o77 0).op = .next (.tmp 5) false) t5 hit hmp hes.old (Nat.le_refl _) (fun hnil => ?_) (fun e he => ?_)
    · -- nothing is left
      obtain ⟨T2, a2, b2⟩ : ∃ T2, evOps Try.prog w0 (evCall Try.prog w0 ON 0) o77 [opAt o77 1] (aput T (opAt o77 0).dst (.tuple #[.bool false])) H' = some (T2, H') ∧ T2 7 = .bool false := by
        simp [o77, opsOf, opAt, l77, b77, cat, Try.f77, evOps, astep, clsOf, aread, awanted, aev, aput, upd, Instr.extract]
      refine OpsOk.ev (hS 0) (by decide +kernel) rfl a2 (by rw [hC.len]; omega) (.inl ⟨rfl, ?_⟩)
      obtain ⟨T3, a3⟩ : ∃ T3, evCode Try.prog w0 (evCall Try.prog w0 ON 0) 0 14 r77 T2 H' = some (.exit 0, T3, H') := by
        simp [r77, l77, b77, cat, Try.f77, evCode, aev, b2]
      refine CodeOk.ev (hS 0) (by decide +kernel) a3 (by rw [hC.len]; omega) (.inr ⟨by simp, .inl rfl, undef, ?_, rfl, seen, xs, ?_, hC⟩)
      · simp [aresults, aresultsL, Try.f77, undef]
      · have : left es seen = [] := hnil
        rw [this] at hp
        simpa using hp
    · -- an entry has come
      have hC1 := hC.step (born := e.born) (by omega) (by omega)
      have hin : e ∈ es := (List.mem_filter.1 he).1
      have hkey := (hes.key hin).1
      obtain ⟨T2, a2, b2⟩ : ∃ T2, evOps Try.prog w0 (evCall Try.prog w0 ON 0) o77 [opAt o77 1] (aput T (opAt o77 0).dst (.tuple #[.bool true, e.key, e.val])) (H'.set H.length (.miter (some mm) clk (seen ++ [e.born]) clk)) = some (T2, H'.set H.length (.miter (some mm) clk (seen ++ [e.born]) clk)) ∧ T2 7 = .bool true ∧ T2 0 = .func (.yield l) #[] #[] ∧ T2 5 = .pointer (some ⟨H.length, 0, none⟩) := by
        simp [o77, opsOf, opAt, l77, b77, cat, Try.f77, evOps, astep, clsOf, aread, awanted, aev, aput, upd, Instr.extract, t0, t5]
      have hxl : xs.length < es.length := by
        have : 0 < (left es seen).length := List.length_pos_of_mem he
        omega
      refine OpsOk.ev (hS 0) (by decide +kernel) rfl a2 (by rw [List.length_set, hC.len]; omega) (.inl ⟨rfl, ?_⟩)
      obtain ⟨H3, y1, hC2⟩ := yield97 (w0 := w0) (k := 0) (x := keyI e) hC1 (get0 hl) hT0 hlb (by omega) (by omega) (by omega) (by omega) (by omega)
      have hent : aentry (H'.set H.length (.miter (some mm) clk (seen ++ [e.born]) clk)) (.pointer (some ⟨H.length, 0, none⟩)) = some (.tuple #[e.key, e.val]) := by
        have h1 := hC1.iter
        have h2 : (H'.set H.length (.miter (some mm) clk (seen ++ [e.born]) clk))[mm]? = some (.map es clk) := by rw [List.getElem?_set_ne (by omega)]; exact hmp
        simp [aentry, h1, h2, find_self hes.nodup hin]
      obtain ⟨T3, a3, b3⟩ : ∃ T3, evCode Try.prog w0 (evCall Try.prog w0 ON 1) 0 14 r77 T2 (H'.set H.length (.miter (some mm) clk (seen ++ [e.born]) clk)) = some (.normal, T3, H3) ∧ T3 0 = .func (.yield l) #[] #[] ∧ T3 5 = .pointer (some ⟨H.length, 0, none⟩) := by
        rw [hkey] at hent
        simp [r77, l77, b77, cat, Try.f77, evCode, evOps, astep, clsOf, aread, awanted, aev, aput, upd, b2, hent, Instr.extract, acall, callee, y1, scal, onlyScal, Op.unary]
      refine CodeOk.ev (hS 1) (by decide +kernel) a3 (by rw [hC2.len, List.length_append, List.length_singleton]; omega) (.inl ⟨rfl, ?_⟩)
      have hpn := left_next hes.nodup he
      have hlen := hpn.length_eq
      simp only [List.length_cons] at hlen
      refine ⟨(left es (seen ++ [e.born])).length, by omega, b3.1, b3.2, _, _, hC2, rfl, ?_⟩
      refine List.Perm.trans ?_ hp
      rw [List.append_assoc]
      refine List.Perm.append_left xs ?_
      have := (hpn.map keyI).symm
      simpa using this
  · refine ⟨b1.1, b1.2, [], [], ⟨by simp, fun i _ _ _ => rfl, by rw [hH0]; simp, by rw [get0 hb]; rfl, fun h => (h rfl).elim⟩, ?_, ?_⟩
    · unfold left; simp
    · have : left es [] = es := by unfold left; simp
      rw [this]; simp
end Go.Am
/- slices.Sorted over the keys of a map of whole numbers. -/
open Go.Proofs Go.Am
namespace Go.Am
structure Got (H : AH) (es : List MapEntry) (xs : List Int) (v : Value) (H2 : AH) : Prop where
  perm : xs.Perm (es.map keyI)
  val : v = rowV (H.length + 3) xs
  len : H2.length = H.length + 3 + 2 * xs.length
  old : ∀ i, i < H.length → H2[i]? = H[i]?
  row : xs ≠ [] → H2[H.length + 3 + 2 * xs.length - 1]? = some (.cells (xs.map iv) 3 true)
theorem seq97 {w0 : World} {N : Nat} {H : AH} {c mm clk : Nat} {es : List MapEntry} (hc : H[c]? = some (.cells [.map (some mm)] 83 false)) (hm : H[mm]? = some (.map es clk)) (hes : OkM es clk) (hn : es.length < 2 ^ 40) (hN : H.length + 3 + 2 * es.length ≤ N) :
    FnOkQ Try.prog w0 N 97 [.slice none 0 0, .func (.func 77) #[] #[.pointer (some ⟨c, 0, none⟩)]] H (fun v H2 => ∃ xs, Got H es xs v H2) := by
  have hS := fun k => sound (P := Try.prog) (w0 := w0) (O := ON) (onOk _ w0) k
  have lt : ∀ {i o}, H[i]? = some o → i < H.length := fun h => (List.getElem?_eq_some_iff.1 h).1
  have lm := lt hm; have lc := lt hc
  refine FnOkQ.intro Try.func97 f97b ok97 (by simp [Try.f97]) ?_
  rw [b97_eq]
  obtain ⟨H1, hH1⟩ : ∃ H1, H1 = H ++ [AObj.cells [.slice none 0 0] 29 false] := ⟨_, rfl⟩
  have hl1 : H1.length = H.length + 1 := by rw [hH1]; simp
  have get1 : ∀ {i o}, H[i]? = some o → H1[i]? = some o := fun h => by rw [hH1]; exact get_app h
  obtain ⟨T1, a1, b1⟩ : ∃ T', evCode Try.prog w0 (evCall Try.prog w0 ON 0) 0 13 (cat [false] b97) (frame0 [.slice none 0 0, .func (.func 77) #[] #[.pointer (some ⟨c, 0, none⟩)]]) H = some (.normal, T', H1) ∧ T' 1 = .func (.func 77) #[] #[.pointer (some ⟨c, 0, none⟩)] ∧ T' 2 = .pointer (some ⟨H.length, 0, none⟩) := by
    simp [cat, b97, Try.f97, evCode, evOps, astep, clsOf, aread, aalloc, awanted, aev, aput, upd, frame0, Value.cells, hH1]
  refine CodeOk.seq (CodeOk.ev (hS 0) (by decide +kernel) a1 (by omega) (.inl ⟨rfl, ?_⟩))
  obtain ⟨T2, a2, b2⟩ : ∃ T', evCode Try.prog w0 (evCall Try.prog w0 ON 0) 0 13 (cat [true, false, false] b97) T1 H1 = some (.normal, T', H1) ∧ T' 6 = .func (.func 77) #[] #[.pointer (some ⟨c, 0, none⟩)] ∧ T' 2 = .pointer (some ⟨H.length, 0, none⟩) := by
    simp [cat, b97, Try.f97, evCode, evOps, astep, clsOf, aread, awanted, aev, aput, upd, b1]
  refine CodeOk.seq (CodeOk.seq (CodeOk.ev (hS 0) (by decide +kernel) a2 (by omega) (.inl ⟨rfl, CodeOk.block ?_⟩)))
  refine CodeOk.rangeFunc (by decide +kernel) (f := 77) (vs := [.func (.yield H1.length) #[] #[], .pointer (some ⟨c, 0, none⟩)]) (by simp [aev, b2, callee]) (by decide +kernel) (by omega) (keys77 (b := H.length) (l := H1.length) (get_app (get1 hc)) (get_app (get1 hm)) hes get_last b2.2 ?_ (by omega) (by omega) hn (by simp; omega)) ?_ ?_
  · rw [hH1, List.append_assoc, List.getElem?_append_right (by omega)]
    simp
  · rintro v H2 ⟨_, seen, xs, hp, hC⟩
    have := hp.length_eq
    simp at this
    rw [hC.len]
    simp
    omega
  · rintro v H2 ⟨rfl, seen, xs, hp, hC⟩
    have hlx := hp.length_eq
    simp only [List.length_map] at hlx
    have hlen := hC.len
    simp only [List.length_append, List.length_cons, List.length_nil, hl1] at hlen
    have hl2 : H2[H1.length]? = some (.loop .ready none 13 T2 [7] as97 bd97) := by
      rw [hC.old _ (by simp) (by omega) (by simp)]
      rw [List.getElem?_append_left (by simp)]
      simp
    refine ⟨_, _, _, _, _, _, _, hl2, by simp, .inl ⟨rfl, ?_⟩⟩
    have hbx : H2[H.length]? = some (.cells [rowV (H.length + 3) xs] 29 false) := by
      have := hC.box
      simp only [List.length_append, List.length_cons, List.length_nil, hl1] at this
      exact this
    obtain ⟨H3, hH3⟩ : ∃ H3, H3 = H2.set H1.length (.loop .exhausted none 13 T2 [7] as97 bd97) := ⟨_, rfl⟩
    have hl3 : H3.length = H.length + 3 + 2 * xs.length := by rw [hH3, List.length_set, hlen]
    have g3 : ∀ i, i ≠ H1.length → H3[i]? = H2[i]? := fun i hi => by rw [hH3, List.getElem?_set_ne (Ne.symm hi)]
    rw [← hH3]
    have hbx3 : acell w0 H3 ⟨H.length, 0, none⟩ = some (rowV (H.length + 3) xs) := by
      simp [acell, g3 H.length (by omega), hbx]
    obtain ⟨T4, a4, b4⟩ : ∃ T', evCode Try.prog w0 (evCall Try.prog w0 ON 0) 0 13 (.seq (cat [true, true, false] b97) .ret) T2 H3 = some (.ret, T', H3) ∧ T' 4 = rowV (H.length + 3) xs := by
      simp [cat, b97, Try.f97, evCode, evOps, astep, clsOf, aread, awanted, aev, aput, upd, b2, aload, Try.underlying29, isAggD, hbx3]
    refine CodeOk.ev (hS 0) (by decide +kernel) a4 (by rw [hl3]; omega) ⟨.inr rfl, _, by simp [aresults, aresultsL, aresult, Try.f97, b4], xs, hp, rfl, hl3, fun i hi => ?_, fun hx => ?_⟩
    · rw [g3 i (by omega), hC.old i (by simp; omega) (by omega) (by simp; omega)]
      rw [List.getElem?_append_left (by simp; omega), List.getElem?_append_left (by omega), hH1, List.getElem?_append_left hi]
    · have : xs.length ≠ 0 := fun q => hx (List.length_eq_zero_iff.1 q)
      rw [g3 _ (by omega)]
      have := hC.row hx
      simp only [List.length_append, List.length_cons, List.length_nil, hl1] at this
      exact this
theorem ok75 : funcOk Try.prog Try.f75 = true := by decide +kernel
noncomputable def b75 : Code := match Try.f75.body with | some c => c | none => .skip
theorem f75b : Try.f75.body = some b75 := rfl
noncomputable def o75 : Array Oper := opsOf (cat [true, false] b75)
theorem b75_eq : b75 = .seq (cat [false] b75) (.seq (.region 1 o75 false) .ret) := rfl
theorem Got.le {H : AH} {es : List MapEntry} {xs : List Int} {v : Value} {H2 : AH} (h : Got H es xs v H2) : H2.length = H.length + 3 + 2 * es.length := by
  have := h.perm.length_eq
  simp only [List.length_map] at this
  rw [h.len, this]
theorem coll75 {w0 : World} {N : Nat} {H : AH} {c mm clk : Nat} {es : List MapEntry} (hc : H[c]? = some (.cells [.map (some mm)] 83 false)) (hm : H[mm]? = some (.map es clk)) (hes : OkM es clk) (hn : es.length < 2 ^ 40) (hN : H.length + 3 + 2 * es.length ≤ N) :
    FnOkQ Try.prog w0 N 75 [.func (.func 77) #[] #[.pointer (some ⟨c, 0, none⟩)]] H (fun v H2 => ∃ xs, Got H es xs v H2) := by
  have hS := fun k => sound (P := Try.prog) (w0 := w0) (O := ON) (onOk _ w0) k
  refine FnOkQ.intro Try.func75 f75b ok75 (by simp [Try.f75]) ?_
  rw [b75_eq]
  obtain ⟨T1, a1, b1⟩ : ∃ T', evCode Try.prog w0 (evCall Try.prog w0 ON 0) 0 5 (cat [false] b75) (frame0 [.func (.func 77) #[] #[.pointer (some ⟨c, 0, none⟩)]]) H = some (.normal, T', H) ∧ T' 0 = .func (.func 77) #[] #[.pointer (some ⟨c, 0, none⟩)] := by
    simp [cat, b75, Try.f75, evCode, evOps, astep, clsOf, aread, awanted, aev, aput, upd, frame0]
  refine CodeOk.seq (CodeOk.ev (hS 0) (by decide +kernel) a1 (by omega) (.inl ⟨rfl, CodeOk.seq (CodeOk.region ?_)⟩))
  have hops : o75.toList = [opAt o75 0, opAt o75 1, opAt o75 2] := rfl
  rw [hops]
  refine OpsOk.step (hS 0) (by decide +kernel) rfl rfl (v := .func (.func 77) #[] #[.pointer (some ⟨c, 0, none⟩)]) (H1 := H) ?_ (by omega) ?_
  · simp [o75, opsOf, opAt, b75, cat, Try.f75, astep, clsOf, aread, aev, b1]
  refine OpsOk.callF (by decide +kernel) rfl rfl (rfl : (opAt o75 1).op = .call { callee := .value (.func 97), args := #[.const (.slice none 0 0), .tmp 3], argTypes := _ }) (vs := [.slice none 0 0, .func (.func 77) #[] #[.pointer (some ⟨c, 0, none⟩)]]) (f := 97) ?_ (seq97 hc hm hes hn hN) ?_ ?_
  · simp [o75, opsOf, opAt, b75, cat, Try.f75, callee, aev, aput, upd]
  · rintro v H1 ⟨xs, h⟩; rw [h.le]; exact hN
  · rintro v H1 ⟨xs, h⟩
    obtain ⟨T3, a3, b3⟩ : ∃ T3, evOps Try.prog w0 (evCall Try.prog w0 ON 0) o75 [opAt o75 2] (aput (aput T1 (opAt o75 0).dst (.func (.func 77) #[] #[.pointer (some ⟨c, 0, none⟩)])) (opAt o75 1).dst v) H1 = some (T3, H1) ∧ T3 2 = v := by
      simp [o75, opsOf, opAt, b75, cat, Try.f75, evOps, astep, clsOf, aread, awanted, aev, aput, upd]
    refine OpsOk.ev (hS 0) (by decide +kernel) rfl a3 (by rw [h.le]; exact hN) (.inl ⟨rfl, CodeOk.ret ⟨.inr rfl, v, ?_, xs, h⟩⟩)
    simp [aresults, aresultsL, aresult, Try.f75, b3]
def srt (xs : List Int) : List Int := xs.mergeSort fun x y => decide (x ≤ y)
theorem sort76 {w0 : World} {N i n c : Nat} {H : AH} {e : TypeId} {g : Bool} {xs : List Int} (hn : n = xs.length) (hl : xs.length < 2 ^ 40) (hi : H[i]? = some (.cells (xs.map iv) e g)) :
    FnOkQ Try.prog w0 N 76 [.slice (some ⟨i, 0, none⟩) n c] H (fun v H' => v = undef ∧ H' = H.set i (.cells ((srt xs).map iv) e g)) := by
  subst hn
  exact sort_calls (n := 0) (by decide +kernel) (by simp [srt]) (fun blk cap w h1 h2 => AnyG.slices_Sort_int Try.sortI blk 0 cap xs w h1 h2 (by omega)) hi
theorem sort76nil {w0 : World} {N : Nat} {H : AH} (hN : H.length ≤ N) : FnOkQ Try.prog w0 N 76 [.slice none 0 0] H (fun v H' => v = undef ∧ H' = H) := by
  intro ρ W vs' R hn hv
  obtain ⟨v1, r1, h1, h2, rfl⟩ := cvL_cons.1 hv
  simp only [cvL, Option.some.injEq] at h2
  subst h2
  simp only [cv, Option.some.injEq] at h1
  subst h1
  refine .inr ⟨enters_run (by decide +kernel) _ _, fun m => (callsIn_wide.2 (AnyG.slices_Sort_int_none Try.sortI none 0 W)).mono ?_⟩
  rintro x W' ⟨rfl, rfl⟩
  exact ⟨.tuple #[], rfl, undef, H, ρ, ⟨rfl, rfl⟩, cv_undef _, Step.refl R⟩
theorem ok47 : funcOk Try.prog Try.f47 = true := by decide +kernel
noncomputable def b47 : Code := match Try.f47.body with | some c => c | none => .skip
theorem f47b : Try.f47.body = some b47 := rfl
noncomputable def o47 : Array Oper := opsOf (cat [true, false] b47)
noncomputable def q47 : Array Oper := opsOf (cat [true, true, false] b47)
theorem b47_eq : b47 = .seq (cat [false] b47) (.seq (.region 1 o47 false) (.seq (.region 2 q47 false) (.seq (cat [true, true, true, false] b47) .ret))) := rfl
structure Srt (H : AH) (es : List MapEntry) (v : Value) (H2 : AH) : Prop where
  val : v = rowV (H.length + 3) (srt (es.map keyI))
  len : H2.length = H.length + 3 + 2 * es.length
  old : ∀ i, i < H.length → H2[i]? = H[i]?
  row : es ≠ [] → H2[H.length + 3 + 2 * es.length - 1]? = some (.cells ((srt (es.map keyI)).map iv) 3 true)
theorem srt_perm {xs ys : List Int} (h : xs.Perm ys) : srt xs = srt ys := by
  unfold srt
  refine List.Perm.eq_of_pairwise (le := fun x y => decide (x ≤ y) = true) ?_ ?_ ?_ ?_
  · intro a b _ _ h1 h2; simp at h1 h2; omega
  · exact List.pairwise_mergeSort (fun a b c h1 h2 => by simp at h1 h2 ⊢; omega) (fun a b => by simp; omega) _
  · exact List.pairwise_mergeSort (fun a b c h1 h2 => by simp at h1 h2 ⊢; omega) (fun a b => by simp; omega) _
  · exact ((List.mergeSort_perm _ _).trans h).trans (List.mergeSort_perm _ _).symm
theorem sorted47 {w0 : World} {N : Nat} {H : AH} {c mm clk : Nat} {es : List MapEntry} (hc : H[c]? = some (.cells [.map (some mm)] 83 false)) (hm : H[mm]? = some (.map es clk)) (hes : OkM es clk) (hn : es.length < 2 ^ 40) (hN : H.length + 3 + 2 * es.length ≤ N) :
    FnOkQ Try.prog w0 N 47 [.func (.func 77) #[] #[.pointer (some ⟨c, 0, none⟩)]] H (Srt H es) := by
  have hS := fun k => sound (P := Try.prog) (w0 := w0) (O := ON) (onOk _ w0) k
  refine FnOkQ.intro Try.func47 f47b ok47 (by simp [Try.f47]) ?_
  rw [b47_eq]
  obtain ⟨T1, a1, b1⟩ : ∃ T', evCode Try.prog w0 (evCall Try.prog w0 ON 0) 0 9 (cat [false] b47) (frame0 [.func (.func 77) #[] #[.pointer (some ⟨c, 0, none⟩)]]) H = some (.normal, T', H) ∧ T' 0 = .func (.func 77) #[] #[.pointer (some ⟨c, 0, none⟩)] := by
    simp [cat, b47, Try.f47, evCode, evOps, astep, clsOf, aread, awanted, aev, aput, upd, frame0]
  refine CodeOk.seq (CodeOk.ev (hS 0) (by decide +kernel) a1 (by omega) (.inl ⟨rfl, CodeOk.seq (CodeOk.region ?_)⟩))
  have hops : o47.toList = [opAt o47 0, opAt o47 1, opAt o47 2] := rfl
  rw [hops]
  refine OpsOk.step (hS 0) (by decide +kernel) rfl rfl (v := .func (.func 77) #[] #[.pointer (some ⟨c, 0, none⟩)]) (H1 := H) ?_ (by omega) ?_
  · simp [o47, opsOf, opAt, b47, cat, Try.f47, astep, clsOf, aread, aev, b1]
  refine OpsOk.callF (by decide +kernel) rfl rfl (rfl : (opAt o47 1).op = .call { callee := .value (.func 75), args := #[.tmp 4], argTypes := _ }) (vs := [.func (.func 77) #[] #[.pointer (some ⟨c, 0, none⟩)]]) (f := 75) ?_ (coll75 hc hm hes hn hN) ?_ ?_
  · simp [o47, opsOf, opAt, b47, cat, Try.f47, callee, aev, aput, upd]
  · rintro v H1 ⟨xs, h⟩; rw [h.le]; exact hN
  · rintro v H1 ⟨xs, h⟩
    have hle := h.le
    obtain ⟨T3, a3, b3⟩ : ∃ T3, evOps Try.prog w0 (evCall Try.prog w0 ON 0) o47 [opAt o47 2] (aput (aput T1 (opAt o47 0).dst (.func (.func 77) #[] #[.pointer (some ⟨c, 0, none⟩)])) (opAt o47 1).dst v) H1 = some (T3, H1) ∧ T3 3 = v := by
      simp [o47, opsOf, opAt, b47, cat, Try.f47, evOps, astep, clsOf, aread, awanted, aev, aput, upd]
    refine OpsOk.ev (hS 0) (by decide +kernel) rfl a3 (by omega) (.inl ⟨rfl, CodeOk.seq (CodeOk.region ?_)⟩)
    have hops2 : q47.toList = [opAt q47 0, opAt q47 1] := rfl
    rw [hops2]
    refine OpsOk.step (hS 0) (by decide +kernel) rfl rfl (v := v) (H1 := H1) ?_ (by omega) ?_
    · simp [q47, opsOf, opAt, b47, cat, Try.f47, astep, clsOf, aread, aev, b3]
    have hpl := h.perm.length_eq
    simp only [List.length_map] at hpl
    have hsl : (srt (es.map keyI)).length = es.length := by simp [srt]
    -- behind the sort
    have fin : ∀ {H5 : AH} {v2 : Value}, H5.length = H1.length → v = rowV (H.length + 3) (srt (es.map keyI)) → (∀ i, i < H.length → H5[i]? = H1[i]?) → (es ≠ [] → H5[H.length + 3 + 2 * es.length - 1]? = some (.cells ((srt (es.map keyI)).map iv) 3 true)) →
        OpsOk Try.prog w0 N Try.f47.ntmps q47 2 [] (aput (aput T3 (opAt q47 0).dst v) (opAt q47 1).dst v2) H5 (fun T1 H1 => Exit.normal = Exit.normal ∧ CodeOk Try.prog w0 N false Try.f47.ntmps (.seq (cat [true, true, true, false] b47) .ret) T1 H1 (fun e T' H' => (e = .normal ∨ e = .ret) ∧ ∃ v, aresults Try.prog w0 Try.f47 T' H' = some v ∧ Srt H es v H') ∨ Exit.normal ≠ Exit.normal ∧ (Exit.normal = Exit.normal ∨ Exit.normal = Exit.ret) ∧ ∃ v, aresults Try.prog w0 Try.f47 T1 H1 = some v ∧ Srt H es v H1) := by
      intro H5 v2 e1 e2 e3 e4
      refine OpsOk.nil (.inl ⟨rfl, ?_⟩)
      obtain ⟨T6, a6, b6⟩ : ∃ T', evCode Try.prog w0 (evCall Try.prog w0 ON 0) 0 9 (.seq (cat [true, true, true, false] b47) .ret) (aput (aput T3 (opAt q47 0).dst v) (opAt q47 1).dst v2) H5 = some (.ret, T', H5) ∧ T' 2 = v := by
        simp [q47, opsOf, opAt, cat, b47, Try.f47, evCode, evOps, astep, clsOf, aread, awanted, aev, aput, upd, b3]
      refine CodeOk.ev (hS 0) (by decide +kernel) a6 (by omega) ⟨.inr rfl, v, by simp [aresults, aresultsL, aresult, Try.f47, b6], e2, by omega, fun i hi => ?_, e4⟩
      rw [e3 i hi, h.old i hi]
    cases hxs : xs with
    | nil =>
      subst hxs
      have hes0 : es = [] := List.length_eq_zero_iff.1 (by simpa using hpl.symm)
      subst hes0
      have hv : v = .slice none 0 0 := h.val
      refine OpsOk.callF (by decide +kernel) rfl rfl (rfl : (opAt q47 1).op = .call { callee := .value (.func 76), args := #[.tmp 6], argTypes := _ }) (vs := [.slice none 0 0]) (f := 76) ?_ (sort76nil (H := H1) (by omega)) ?_ ?_
      · simp [q47, opsOf, opAt, b47, cat, Try.f47, callee, aev, aput, upd, hv]
      · rintro v2 H5 ⟨rfl, rfl⟩; omega
      · rintro v2 H5 ⟨rfl, rfl⟩
        exact fin rfl (by rw [hv]; simp [srt, rowV]) (fun _ _ => rfl) (fun q => (q rfl).elim)
    | cons y ys =>
      have hne : xs ≠ [] := by rw [hxs]; simp
      have hrow := h.row hne
      have hv : v = .slice (some ⟨H.length + 3 + 2 * xs.length - 1, 0, none⟩) xs.length xs.length := by rw [h.val, hxs]; rfl
      refine OpsOk.callF (by decide +kernel) rfl rfl (rfl : (opAt q47 1).op = .call { callee := .value (.func 76), args := #[.tmp 6], argTypes := _ }) (vs := [.slice (some ⟨H.length + 3 + 2 * xs.length - 1, 0, none⟩) xs.length xs.length]) (f := 76) ?_ (sort76 rfl (by omega) hrow) ?_ ?_
      · simp [q47, opsOf, opAt, b47, cat, Try.f47, callee, aev, aput, upd, hv]
      · rintro v2 H5 ⟨rfl, rfl⟩; rw [List.length_set]; omega
      · rintro v2 H5 ⟨rfl, rfl⟩
        have hse : srt xs = srt (es.map keyI) := srt_perm h.perm
        refine fin (by simp) ?_ (fun i hi => by rw [List.getElem?_set_ne (by omega)]) (fun _ => ?_)
        · rw [hv]
          cases hq : srt (es.map keyI) with
          | nil => rw [hq] at hsl; simp at hsl; rw [hxs] at hpl; simp at hpl; omega
          | cons z zs => rw [hq] at hsl; simp only [rowV, hsl, hpl]
        · have h0 : 0 < xs.length := by rw [hxs]; simp
          rw [← hpl, List.getElem?_set_self (by omega), hse]
end Go.Am
/- maps.DeleteFunc on a map of whole numbers: the entries whose number is too great go. -/
open Go.Proofs Go.Am
namespace Go.Am
def triE (e : MapEntry) : Int × Int × Nat := (keyI e, valI e, e.born)
theorem OkM.tri {es : List MapEntry} {clk : Nat} (h : OkM es clk) : es = (es.map triE).map mkE := by
  have : ∀ e ∈ es, mkE (triE e) = e := fun e he => by
    obtain ⟨x, y, h1, h2⟩ := h.ints e he
    obtain ⟨k, v, b⟩ := e
    simp only at h1 h2
    subst h1 h2
    rfl
  rw [List.map_map]
  conv => lhs; rw [← List.map_id es]
  exact List.map_congr_left (fun e he => (this e he).symm)
theorem findL_erase (s : Int) : ∀ (L : IM) (i : Nat) (v : Int), (L.map (·.1)).Nodup → findL s L 0 = some (i, v) → L.eraseIdx i = L.filter fun p => decide (p.1 ≠ s)
  | [], i, v, _, h => by cases h
  | (k, w, c) :: r, i, v, hn, h => by
    rw [List.map_cons, List.nodup_cons] at hn
    simp only [findL] at h
    split at h
    · rename_i e
      subst e
      cases h
      have : r.filter (fun p => decide (p.1 ≠ s)) = r := by
        rw [List.filter_eq_self]
        intro p hp
        have : p.1 ≠ s := fun q => hn.1 (q ▸ List.mem_map.2 ⟨p, hp, rfl⟩)
        simpa using this
      simp only [List.eraseIdx_zero, List.tail_cons, List.filter_cons]
      simp only [ne_eq, not_true_eq_false, decide_false, Bool.false_eq_true, if_false]
      exact this.symm
    · rename_i e
      rw [show (0 : Nat) + 1 = 0 + 1 from rfl, findL_shift s r 0 1, Option.map_eq_some_iff] at h
      obtain ⟨p, h1, h2⟩ := h
      simp only [Prod.mk.injEq] at h2
      obtain ⟨rfl, rfl⟩ := h2
      have ih := findL_erase s r p.1 p.2 hn.2 h1
      have hk : k ≠ s := fun q => e q.symm
      simp [hk, ih]
theorem findL_has (s : Int) : ∀ (L : IM), s ∈ L.map (·.1) → ∃ i v, findL s L 0 = some (i, v)
  | [], h => by cases h
  | (k, w, c) :: r, h => by
    simp only [findL]
    split
    · exact ⟨0, w, rfl⟩
    · rename_i e
      have : s ∈ r.map (·.1) := by
        rcases List.mem_cons.1 h with h | h
        · exact (e h).elim
        · exact h
      obtain ⟨i, v, hi⟩ := findL_has s r this
      rw [show (0 : Nat) + 1 = 0 + 1 from rfl, findL_shift s r 0 1, hi]
      exact ⟨i + 1, v, rfl⟩
theorem adelete_int {H : AH} {mm clk : Nat} {es : List MapEntry} (hes : OkM es clk) (hk : (es.map keyI).Nodup) (hm : H[mm]? = some (.map es clk)) {e : MapEntry} (he : e ∈ es) : adelete Try.prog H #[83, 3] [.map (some mm), iv (keyI e)] = some (undef, H.set mm (.map (es.filter fun x => decide (keyI x ≠ keyI e)) clk)) := by
  have hf := afind_int (P := Try.prog) (kt := 3) Try.underlying3 (keyI e) (es.map triE) es.isEmpty
  rw [← hes.tri] at hf
  have hkL : ((es.map triE).map (·.1)).Nodup := by rw [List.map_map]; exact hk
  obtain ⟨i, v, hi⟩ := findL_has (keyI e) (es.map triE) (by rw [List.map_map]; exact List.mem_map.2 ⟨e, he, rfl⟩)
  rw [hi] at hf
  have her := findL_erase _ _ _ _ hkL hi
  have hfin : es.eraseIdx i = es.filter fun x => decide (keyI x ≠ keyI e) := by
    rw [hes.tri, ← ChangeMaps.map_eraseIdx, her, List.filter_map]
    rw [← hes.tri]
    have : (es.filter ((fun p => decide (p.1 ≠ keyI e)) ∘ triE)) = es.filter fun x => decide (keyI x ≠ keyI e) := rfl
    rw [this]
    have h2 : OkM (es.filter fun x => decide (keyI x ≠ keyI e)) clk := ⟨hes.nodup.sublist (List.filter_sublist.map _), fun x hx => hes.old x (List.mem_filter.1 hx).1, fun x hx => hes.ints x (List.mem_filter.1 hx).1⟩
    exact h2.tri.symm
  simp [adelete, Try.underlying83, hm, hf, iv, hfin]
theorem ok46 : funcOk Try.prog Try.f46 = true := by decide +kernel
noncomputable def b46 : Code := match Try.f46.body with | some c => c | none => .skip
theorem f46b : Try.f46.body = some b46 := rfl
theorem call46 {w0 : World} {k c : Nat} {H : AH} {q a b : Int} (hc : acell w0 H ⟨c, 0, none⟩ = some (iv q)) : evCall Try.prog w0 ON (k + 1) (.fn 46) [iv a, iv b, .pointer (some ⟨c, 0, none⟩)] H = some (.bool (decide (q ≤ b)), H) := by
  rw [evCall]
  simp only [iv] at hc
  have h1 : ∃ T', evCode Try.prog w0 (evCall Try.prog w0 ON k) k 9 b46 (frame0 [iv a, iv b, .pointer (some ⟨c, 0, none⟩)]) H = some (.ret, T', H) ∧ T' 5 = .bool (decide (q ≤ b)) := by
    simp [b46, Try.f46, evCode, evOps, astep, clsOf, aread, awanted, aev, aput, upd, frame0, iv, aload, Try.underlying3, isAggD, hc, abin_geq]
  obtain ⟨T', h1, h2⟩ := h1
  have hnt : Try.f46.ntmps = 9 := rfl
  have hrs : Try.f46.results = #[.tmp 5] := rfl
  simp only [ON, Try.func46, f46b, ok46, hnt, List.length_cons, List.length_nil, Bool.true_and]
  rw [if_pos (by decide), h1]
  simp [aresults, aresultsL, aresult, hrs, h2]
theorem ok45 : funcOk Try.prog Try.f45 = true := by decide +kernel
noncomputable def b45 : Code := match Try.f45.body with | some c => c | none => .skip
theorem f45b : Try.f45.body = some b45 := rfl
noncomputable def l45 : Code := cat [true, false, false] b45
noncomputable def o45 : Array Oper := opsOf (cat [false] l45)
noncomputable def r45 : Code := cat [true] l45
theorem b45_eq : b45 = .seq (cat [false] b45) (.block 0 (.loop l45)) := rfl
theorem l45_eq : l45 = .seq (.region 1 o45 false) r45 := rfl
def kept (q : Int) (es : List MapEntry) (seen : List Nat) : List MapEntry := es.filter fun e => decide (valI e < q) || !seen.contains e.born
theorem kept_left (q : Int) (es : List MapEntry) (seen : List Nat) : left (kept q es seen) seen = left es seen := by
  unfold left kept
  rw [List.filter_filter]
  congr 1
  funext e
  cases h : seen.contains e.born <;> simp
theorem kept_ok {q : Int} {es : List MapEntry} {seen : List Nat} {clk : Nat} (h : OkM es clk) : OkM (kept q es seen) clk := ⟨h.nodup.sublist (List.filter_sublist.map _), fun x hx => h.old x (List.mem_filter.1 hx).1, fun x hx => h.ints x (List.mem_filter.1 hx).1⟩
theorem eq_born {es : List MapEntry} : (es.map (·.born)).Nodup → ∀ {x y : MapEntry}, x ∈ es → y ∈ es → x.born = y.born → x = y := fun h x y hx hy hb => by
  have h1 := find_born x es h hx
  have h2 := find_born y es h hy
  rw [hb] at h1
  rw [h1] at h2
  exact Option.some.inj h2
theorem eq_key : ∀ {es : List MapEntry}, (es.map keyI).Nodup → ∀ {x y : MapEntry}, x ∈ es → y ∈ es → keyI x = keyI y → x = y
  | e :: r, h, x, y, hx, hy, hk => by
    rw [List.map_cons, List.nodup_cons] at h
    rcases List.mem_cons.1 hx with h1 | h1 <;> rcases List.mem_cons.1 hy with h2 | h2
    · rw [h1, h2]
    · exact (h.1 (List.mem_map.2 ⟨y, h2, by rw [← hk, h1]⟩)).elim
    · exact (h.1 (List.mem_map.2 ⟨x, h1, by rw [hk, h2]⟩)).elim
    · exact eq_key h.2 h1 h2 hk
theorem kept_keep {q : Int} {es : List MapEntry} {seen : List Nat} {e : MapEntry} (hq : valI e < q) (hb : (es.map (·.born)).Nodup) (he : e ∈ es) : kept q es (seen ++ [e.born]) = kept q es seen := by
  unfold kept
  apply List.filter_congr
  intro x hx
  by_cases h : x.born = e.born
  · have := eq_born hb hx he h
    subst this
    simp [hq]
  · simp [h]
theorem kept_drop {q : Int} {es : List MapEntry} {seen : List Nat} {e : MapEntry} (hq : ¬ valI e < q) (hb : (es.map (·.born)).Nodup) (hk : (es.map keyI).Nodup) (he : e ∈ es) : kept q es (seen ++ [e.born]) = (kept q es seen).filter fun x => decide (keyI x ≠ keyI e) := by
  unfold kept
  rw [List.filter_filter]
  apply List.filter_congr
  intro x hx
  by_cases h : x.born = e.born
  · have := eq_born hb hx he h
    subst this
    simp [hq]
  · have : keyI x ≠ keyI e := fun hk2 => h (by rw [eq_key hk hx he hk2])
    simp [h, this]
structure Del (H : AH) (mm clk : Nat) (es : List MapEntry) (v : Value) (H2 : AH) : Prop where
  val : v = undef
  len : H2.length = H.length + 1
  old : ∀ i, i < H.length → i ≠ mm → H2[i]? = H[i]?
  map : H2[mm]? = some (.map es clk)
theorem del45 {w0 : World} {N : Nat} {H : AH} {c mm clk : Nat} {es : List MapEntry} {q : Int} {g : Bool} (hc : H[c]? = some (.cells [iv q] 3 g)) (hm : H[mm]? = some (.map es clk)) (hes : OkM es clk) (hk : (es.map keyI).Nodup) (hN : H.length + 1 ≤ N) :
    FnOkQ Try.prog w0 N 45 [.map (some mm), .func (.func 46) #[] #[.pointer (some ⟨c, 0, none⟩)]] H (Del H mm clk (es.filter fun e => decide (valI e < q))) := by
  obtain ⟨H0, hH0⟩ : ∃ H0, H0 = H ++ [AObj.miter (some mm) clk [] clk] := ⟨_, rfl⟩
  have hlen0 : H0.length = H.length + 1 := by rw [hH0]; simp
  have lt : ∀ {i o}, H[i]? = some o → i < H.length := fun h => (List.getElem?_eq_some_iff.1 h).1
  have lm := lt hm; have lc := lt hc
  have hcm : c ≠ mm := fun e => by rw [e, hm] at hc; cases hc
  have get0 : ∀ {i o}, H[i]? = some o → H0[i]? = some o := fun h => by rw [hH0]; exact get_app h
  have hS := fun k => sound (P := Try.prog) (w0 := w0) (O := ON) (onOk _ w0) k
  refine FnOkQ.intro Try.func45 f45b ok45 (by simp [Try.f45]) ?_
  rw [b45_eq]
  obtain ⟨T1, a1, b1⟩ : ∃ T', evCode Try.prog w0 (evCall Try.prog w0 ON 0) 0 19 (cat [false] b45) (frame0 [.map (some mm), .func (.func 46) #[] #[.pointer (some ⟨c, 0, none⟩)]]) H = some (.normal, T', H0) ∧ T' 0 = .map (some mm) ∧ T' 1 = .func (.func 46) #[] #[.pointer (some ⟨c, 0, none⟩)] ∧ T' 7 = .pointer (some ⟨H.length, 0, none⟩) := by
    simp [cat, b45, Try.f45, evCode, evOps, astep, clsOf, aread, awrite, awanted, aev, aput, upd, frame0, Try.underlying83, arange, hm, hH0]
  refine CodeOk.seq (CodeOk.ev (hS 0) (by decide +kernel) a1 (by omega) (.inl ⟨rfl, ?_⟩))
  refine CodeOk.block (CodeOk.loop (fun j T H' => T 0 = .map (some mm) ∧ T 1 = .func (.func 46) #[] #[.pointer (some ⟨c, 0, none⟩)] ∧ T 7 = .pointer (some ⟨H.length, 0, none⟩) ∧ ∃ seen, H'.length = H.length + 1 ∧ (∀ i, i < H.length → i ≠ mm → H'[i]? = H[i]?) ∧ H'[mm]? = some (.map (kept q es seen) clk) ∧ H'[H.length]? = some (.miter (some mm) clk seen clk) ∧ (left es seen).length = j) ?_ es.length ?_)
  · rintro j T H' ⟨t0, t1, t7, seen, hlen, hold, hmp, hit, hj⟩
    have hok := kept_ok (q := q) (seen := seen) hes
    rw [l45_eq]
    refine CodeOk.seq (CodeOk.region ?_)
    have hops : o45.toList = [opAt o45 0, opAt o45 1] := rfl
    rw [hops]
    refine OpsOk.next (by decide +kernel) rfl rfl (rfl : (opAt o45 0).op = .next (.tmp 7) false) t7 hit hmp hok.old (Nat.le_refl _) (fun hnil => ?_) (fun e he => ?_)
    · obtain ⟨T2, a2, b2⟩ : ∃ T2, evOps Try.prog w0 (evCall Try.prog w0 ON 0) o45 [opAt o45 1] (aput T (opAt o45 0).dst (.tuple #[.bool false])) H' = some (T2, H') ∧ T2 9 = .bool false := by
        simp [o45, opsOf, opAt, l45, b45, cat, Try.f45, evOps, astep, clsOf, aread, awanted, aev, aput, upd, Instr.extract]
      refine OpsOk.ev (hS 0) (by decide +kernel) rfl a2 (by omega) (.inl ⟨rfl, ?_⟩)
      obtain ⟨T3, a3⟩ : ∃ T3, evCode Try.prog w0 (evCall Try.prog w0 ON 0) 0 19 r45 T2 H' = some (.exit 0, T3, H') := by
        simp [r45, l45, b45, cat, Try.f45, evCode, aev, b2]
      refine CodeOk.ev (hS 0) (by decide +kernel) a3 (by omega) (.inr ⟨by simp, .inl rfl, undef, ?_, rfl, hlen, hold, ?_⟩)
      · simp [aresults, aresultsL, Try.f45, undef]
      · have h0 : left es seen = [] := by rw [← kept_left q]; exact hnil
        have hfin : kept q es seen = es.filter fun e => decide (valI e < q) := ?_
        · rw [hmp, hfin]
        unfold kept
        apply List.filter_congr
        intro x hx
        have : x ∉ left es seen := by rw [h0]; simp
        unfold left at this
        rw [List.mem_filter] at this
        have h2 : seen.contains x.born = true := by
          cases hq : seen.contains x.born with
          | true => rfl
          | false => exact (this ⟨hx, by rw [hq]; rfl⟩).elim
        have h3 : x.born ∈ seen := by simpa using h2
        simp [h3]
    · have hel : e ∈ left es seen := by rw [← kept_left q]; exact he
      have hin : e ∈ es := (List.mem_filter.1 hel).1
      have hik : e ∈ kept q es seen := (List.mem_filter.1 he).1
      have hkey := hes.key hin
      obtain ⟨H1, hH1⟩ : ∃ H1, H1 = H'.set H.length (.miter (some mm) clk (seen ++ [e.born]) clk) := ⟨_, rfl⟩
      have g1 : ∀ i, i ≠ H.length → H1[i]? = H'[i]? := fun i hi => by rw [hH1, List.getElem?_set_ne (Ne.symm hi)]
      have hit1 : H1[H.length]? = some (.miter (some mm) clk (seen ++ [e.born]) clk) := by rw [hH1, List.getElem?_set_self (by omega)]
      have hmp1 : H1[mm]? = some (.map (kept q es seen) clk) := by rw [g1 mm (by omega)]; exact hmp
      have hlen1 : H1.length = H.length + 1 := by rw [hH1, List.length_set, hlen]
      rw [← hH1]
      obtain ⟨T2, a2, b2⟩ : ∃ T2, evOps Try.prog w0 (evCall Try.prog w0 ON 0) o45 [opAt o45 1] (aput T (opAt o45 0).dst (.tuple #[.bool true, e.key, e.val])) H1 = some (T2, H1) ∧ T2 9 = .bool true ∧ T2 0 = .map (some mm) ∧ T2 1 = .func (.func 46) #[] #[.pointer (some ⟨c, 0, none⟩)] ∧ T2 7 = .pointer (some ⟨H.length, 0, none⟩) := by
        simp [o45, opsOf, opAt, l45, b45, cat, Try.f45, evOps, astep, clsOf, aread, awanted, aev, aput, upd, Instr.extract, t0, t1, t7]
      refine OpsOk.ev (hS 0) (by decide +kernel) rfl a2 (by omega) (.inl ⟨rfl, ?_⟩)
      have hent : aentry H1 (.pointer (some ⟨H.length, 0, none⟩)) = some (.tuple #[e.key, e.val]) := by
        simp [aentry, hit1, hmp1, find_self hok.nodup hik]
      rw [hkey.1, hkey.2] at hent
      have hcell : acell w0 H1 ⟨c, 0, none⟩ = some (iv q) := by
        have : H1[c]? = some (.cells [iv q] 3 g) := by rw [g1 c (by omega), hold c lc hcm]; exact hc
        simp [acell, this]
      have hcall := call46 (w0 := w0) (k := 0) (a := keyI e) (b := valI e) hcell
      have hlen2 : (left es (seen ++ [e.born])).length + 1 = j := by
        have := (left_next hes.nodup hel).length_eq
        simp only [List.length_cons] at this
        omega
      by_cases hq : q ≤ valI e
      · have hdel := adelete_int hok (hk.sublist (List.filter_sublist.map _)) hmp1 hik
        obtain ⟨T3, a3, b3⟩ : ∃ T3, evCode Try.prog w0 (evCall Try.prog w0 ON 1) 0 19 r45 T2 H1 = some (.normal, T3, H1.set mm (.map ((kept q es seen).filter fun x => decide (keyI x ≠ keyI e)) clk)) ∧ T3 0 = .map (some mm) ∧ T3 1 = .func (.func 46) #[] #[.pointer (some ⟨c, 0, none⟩)] ∧ T3 7 = .pointer (some ⟨H.length, 0, none⟩) := by
          simp [r45, l45, b45, cat, Try.f45, evCode, evOps, astep, clsOf, aread, awrite, awanted, aev, aput, upd, b2, hent, Instr.extract, acall, callee, hcall, hq, hdel]
        refine CodeOk.ev (hS 1) (by decide +kernel) a3 (by rw [List.length_set]; omega) (.inl ⟨rfl, _, hlen2.symm, b3.1, b3.2.1, b3.2.2, seen ++ [e.born], by rw [List.length_set, hlen1], fun i h1 h2 => ?_, ?_, ?_, rfl⟩)
        · rw [List.getElem?_set_ne (Ne.symm h2), g1 i (by omega), hold i h1 h2]
        · rw [List.getElem?_set_self (by omega), kept_drop (by omega) hes.nodup hk hin]
        · rw [List.getElem?_set_ne (by omega)]; exact hit1
      · obtain ⟨T3, a3, b3⟩ : ∃ T3, evCode Try.prog w0 (evCall Try.prog w0 ON 1) 0 19 r45 T2 H1 = some (.normal, T3, H1) ∧ T3 0 = .map (some mm) ∧ T3 1 = .func (.func 46) #[] #[.pointer (some ⟨c, 0, none⟩)] ∧ T3 7 = .pointer (some ⟨H.length, 0, none⟩) := by
          simp [r45, l45, b45, cat, Try.f45, evCode, evOps, astep, clsOf, aread, awrite, awanted, aev, aput, upd, b2, hent, Instr.extract, acall, callee, hcall, hq]
        refine CodeOk.ev (hS 1) (by decide +kernel) a3 (by omega) (.inl ⟨rfl, _, hlen2.symm, b3.1, b3.2.1, b3.2.2, seen ++ [e.born], hlen1, fun i h1 h2 => ?_, ?_, hit1, rfl⟩)
        · rw [g1 i (by omega), hold i h1 h2]
        · rw [hmp1, kept_keep (by omega) hes.nodup hin]
  · refine ⟨b1.1, b1.2.1, b1.2.2, [], hlen0, fun i h1 h2 => by rw [hH0, List.getElem?_append_left h1], ?_, by rw [hH0]; simp, ?_⟩
    · have hfin : kept q es [] = es := by
        unfold kept
        rw [List.filter_eq_self.2]
        simp
      rw [get0 hm, hfin]
    · unfold left; simp
end Go.Am
/- Two calls of the library that go over a map: what they come to, as overrides. -/
open Go.Proofs Go.Am
namespace Go.Am
def isI : Value → Bool
  | .int .i64 _ => true
  | _ => false
def okMb (es : List MapEntry) (clk : Nat) : Bool := decide ((es.map (·.born)).Nodup) && es.all (fun e => decide (e.born < clk)) && es.all (fun e => isI e.key && isI e.val)
theorem isI_of {v : Value} (h : isI v = true) : ∃ n, v = iv n := by
  unfold isI at h
  split at h
  · exact ⟨_, rfl⟩
  · cases h
theorem okM_of {es : List MapEntry} {clk : Nat} (h : okMb es clk = true) : OkM es clk := by
  unfold okMb at h
  simp only [Bool.and_eq_true, decide_eq_true_eq, List.all_eq_true] at h
  refine ⟨h.1.1, h.1.2, fun e he => ?_⟩
  obtain ⟨h1, h2⟩ := h.2 e he
  obtain ⟨k, hk⟩ := isI_of h1
  obtain ⟨v, hv⟩ := isI_of h2
  exact ⟨k, v, hk, hv⟩
theorem okMb_of {es : List MapEntry} {clk : Nat} (h : OkM es clk) : okMb es clk = true := by
  unfold okMb
  simp only [Bool.and_eq_true, decide_eq_true_eq, List.all_eq_true]
  refine ⟨⟨h.nodup, h.old⟩, fun e he => ?_⟩
  obtain ⟨k, v, h1, h2⟩ := h.ints e he
  rw [h1, h2]
  exact ⟨rfl, rfl⟩
def ins (x : Int) : List Int → List Int
  | [] => [x]
  | y :: r => if x ≤ y then x :: y :: r else y :: ins x r
def isort : List Int → List Int
  | [] => []
  | x :: r => ins x (isort r)
theorem ins_perm (x : Int) : ∀ l : List Int, (ins x l).Perm (x :: l)
  | [] => List.Perm.refl _
  | y :: r => by
    unfold ins
    split
    · exact List.Perm.refl _
    · exact ((ins_perm x r).cons y).trans (List.Perm.swap x y r)
theorem isort_perm : ∀ l : List Int, (isort l).Perm l
  | [] => List.Perm.refl _
  | x :: r => (ins_perm x (isort r)).trans ((isort_perm r).cons x)
theorem ins_sorted (x : Int) : ∀ l : List Int, l.Pairwise (· ≤ ·) → (ins x l).Pairwise (· ≤ ·)
  | [], _ => by simp [ins]
  | y :: r, h => by
    unfold ins
    rw [List.pairwise_cons] at h
    split
    · rename_i hxy
      rw [List.pairwise_cons]
      refine ⟨fun z hz => ?_, List.pairwise_cons.2 h⟩
      rcases List.mem_cons.1 hz with rfl | hz
      · exact hxy
      · have := h.1 z hz; omega
    · rename_i hxy
      rw [List.pairwise_cons]
      refine ⟨fun z hz => ?_, ins_sorted x r h.2⟩
      have := (ins_perm x r).mem_iff.1 hz
      rcases List.mem_cons.1 this with rfl | hz
      · omega
      · exact h.1 z hz
theorem isort_sorted : ∀ l : List Int, (isort l).Pairwise (· ≤ ·)
  | [] => List.Pairwise.nil
  | x :: r => ins_sorted x _ (isort_sorted r)
theorem srt_eq (xs : List Int) : srt xs = isort xs := by
  refine List.Perm.eq_of_pairwise (le := fun x y : Int => x ≤ y) (fun a b _ _ h1 h2 => Int.le_antisymm h1 h2) ?_ (isort_sorted xs) ((List.mergeSort_perm _ _).trans (isort_perm xs).symm)
  have := List.pairwise_mergeSort (le := fun x y : Int => decide (x ≤ y)) (fun a b c h1 h2 => by simp at h1 h2 ⊢; omega) (fun a b => by simp; omega) xs
  exact this.imp (fun h => by simpa using h)
def ov45 (args : List Value) (H : AH) : Option (Value × AH) :=
  match args with
  | [.map (some m), .func (.func 46) ⟨[]⟩ ⟨[.pointer (some ⟨c, 0, none⟩)]⟩] =>
    match H[m]?, H[c]? with
    | some (.map es clk), some (.cells [.int .i64 q] 3 _) => if okMb es clk && decide ((es.map keyI).Nodup) then some (undef, H.set m (.map (es.filter fun e => decide (valI e < q)) clk) ++ [.dead]) else none
    | _, _ => none
  | _ => none
def ov47 (args : List Value) (H : AH) : Option (Value × AH) :=
  match args with
  | [.func (.func 77) ⟨[]⟩ ⟨[.pointer (some ⟨c, 0, none⟩)]⟩] =>
    match H[c]? with
    | some (.cells [.map (some m)] 83 false) =>
      match H[m]? with
      | some (.map es clk) => if okMb es clk && decide (es.length < 2 ^ 40) then
          match es with
          | [] => some (.slice none 0 0, H ++ List.replicate 3 .dead)
          | _ => some (rowV (H.length + 3) (isort (es.map keyI)), H ++ List.replicate (2 + 2 * es.length) .dead ++ [.cells ((isort (es.map keyI)).map iv) 3 true])
        else none
      | _ => none
    | _ => none
  | _ => none
def OV : Over := fun f => if f = 45 then some (fun _ args H => ov45 args H) else if f = 47 then some (fun _ args H => ov47 args H) else none
theorem ovMono : OverMono OV := by
  intro f g hg c1 c2 _ vs H r h
  unfold OV at hg
  split at hg
  · cases hg; exact h
  · split at hg
    · cases hg; exact h
    · cases hg
theorem ov45_ok {w0 W : World} {ρ : Ren} {vs vs' : List Value} {H H' : AH} {v : Value} (h : ov45 vs H = some (v, H')) : H.length ≤ H'.length ∧ (Rel Try.prog w0 ρ H W → Fresh ρ H H' → cvL ρ vs = some vs' → FnOk Try.prog 45 vs' W (Post Try.prog w0 ρ H H' W v)) := by
  unfold ov45 at h
  split at h
  · rename_i m c
    split at h
    · rename_i es clk q g hm hc
      split at h
      · rename_i hb
        cases h
        rw [Bool.and_eq_true, decide_eq_true_eq] at hb
        refine ⟨by simp, fun R hf hv => over_of (del45 (g := g) hc hm (okM_of hb.1) hb.2 (by simp)) ?_ R hf hv⟩
        rintro v2 H2 ⟨h1, h2, h3, h4⟩
        refine ⟨h1, by simp [h2], fun i => ?_⟩
        have lm := (List.getElem?_eq_some_iff.1 hm).1
        by_cases hi : i < H.length
        · left
          rw [List.getElem?_append_left (by simpa using hi)]
          by_cases him : i = m
          · subst him
            rw [List.getElem?_set_self hi, h4]
          · rw [List.getElem?_set_ne (Ne.symm him), h3 i hi him]
        · by_cases hi2 : i = H.length
          · right
            subst hi2
            refine ⟨Nat.le_refl _, ?_⟩
            rw [List.getElem?_append_right (by simp)]
            simp
          · left
            rw [List.getElem?_eq_none (by simp; omega), List.getElem?_eq_none (by omega)]
      · cases h
    · cases h
  · cases h
theorem ov47_ok {w0 W : World} {ρ : Ren} {vs vs' : List Value} {H H' : AH} {v : Value} (h : ov47 vs H = some (v, H')) : H.length ≤ H'.length ∧ (Rel Try.prog w0 ρ H W → Fresh ρ H H' → cvL ρ vs = some vs' → FnOk Try.prog 47 vs' W (Post Try.prog w0 ρ H H' W v)) := by
  unfold ov47 at h
  split at h
  · rename_i c
    split at h
    · rename_i m hc
      split at h
      · rename_i es clk hm
        split at h
        · rename_i hb
          rw [Bool.and_eq_true, decide_eq_true_eq] at hb
          split at h
          · cases h
            refine ⟨by simp, fun R hf hv => over_of (sorted47 hc hm (okM_of hb.1) hb.2 (by simp)) ?_ R hf hv⟩
            rintro v2 H2 ⟨h1, h2, h3, h4⟩
            simp only [List.length_nil] at h2
            refine ⟨by rw [h1]; simp [srt, rowV], by simp [h2], fun i => ?_⟩
            by_cases hi : i < H.length
            · left
              rw [List.getElem?_append_left hi, h3 i hi]
            · by_cases hi2 : i < H.length + 3
              · right
                refine ⟨by omega, ?_⟩
                rw [List.getElem?_append_right (by omega), List.getElem?_replicate, if_pos (by omega)]
              · left
                rw [List.getElem?_eq_none (by simp; omega), List.getElem?_eq_none (by omega)]
          · rename_i hne
            cases h
            refine ⟨by simp <;> omega, fun R hf hv => over_of (sorted47 hc hm (okM_of hb.1) hb.2 (by simp; omega)) ?_ R hf hv⟩
            rintro v2 H2 ⟨h1, h2, h3, h4⟩
            have hes : es ≠ [] := fun q => hne q
            have hpos : 0 < es.length := List.length_pos_iff.2 hes
            refine ⟨by rw [h1, srt_eq], by simp [h2]; omega, fun i => ?_⟩
            have h4 := h4 hes
            rw [srt_eq] at h4
            by_cases hi : i < H.length
            · left
              rw [List.append_assoc, List.getElem?_append_left hi, h3 i hi]
            · by_cases hi2 : i < H.length + (2 + 2 * es.length)
              · right
                refine ⟨by omega, ?_⟩
                rw [List.getElem?_append_left (by simp; omega), List.getElem?_append_right (by omega), List.getElem?_replicate, if_pos (by omega)]
              · by_cases hi3 : i = H.length + (2 + 2 * es.length)
                · left
                  have e : i = H.length + 3 + 2 * es.length - 1 := by omega
                  rw [e, h4, List.getElem?_append_right (by simp; omega)]
                  have : H.length + 3 + 2 * es.length - 1 - (H ++ List.replicate (2 + 2 * es.length) AObj.dead).length = 0 := by simp; omega
                  rw [this]
                  rfl
                · left
                  rw [List.getElem?_eq_none (by simp; omega), List.getElem?_eq_none (by omega)]
        · cases h
      · cases h
    · cases h
  · cases h
theorem ovOk (w0 : World) : OverOk Try.prog w0 OV := by
  refine ⟨fun call hS f g hg vs H v H' h => ?_, fun call hS f g hg vs H v H' h ρ W vs' R hf hv => ?_⟩
  · unfold OV at hg
    split at hg
    · cases hg; exact (ov45_ok (w0 := w0) (W := w0) (ρ := none0) (vs' := []) h).1
    · split at hg
      · cases hg; exact (ov47_ok (w0 := w0) (W := w0) (ρ := none0) (vs' := []) h).1
      · cases hg
  · unfold OV at hg
    split at hg
    · rename_i e
      subst e
      cases hg; exact (ov45_ok h).2 R hf hv
    · split at hg
      · rename_i e
        subst e
        cases hg; exact (ov47_ok h).2 R hf hv
      · cases hg
def isB (r : Option (Value × AH)) (v : Value) : Bool := match r with | some p => veq p.1 v | none => false
theorem isB_of {r : Option (Value × AH)} {v : Value} (h : isB r v = true) : ∃ H', r = some (v, H') := by
  unfold isB at h
  split at h
  · rename_i p
    obtain ⟨u, H'⟩ := p
    exact ⟨H', by rw [show u = v from veq_eq _ _ h]⟩
  · cases h
theorem lives9 (w0 : World) (o : AObj) : (evCall Try.prog w0 OV 60 (.fn 9) [] [o]).map (fun p => (p.1, p.2.head?)) = some (.bool true, some o) := by kernel_rfl
theorem livesK (w0 : World) (o : AObj) : ∃ Y, Does Try.prog w0 OV 9 [] [o] (.bool true) ([o] ++ Y) := by
  have h := lives9 w0 o
  rw [Option.map_eq_some_iff] at h
  obtain ⟨⟨v, H'⟩, h1, h2⟩ := h
  simp only [Prod.mk.injEq] at h2
  obtain ⟨rfl, h2⟩ := h2
  cases H' with
  | nil => cases h2
  | cons q Y =>
    simp at h2
    subst h2
    exact ⟨Y, 60, h1⟩
end Go.Am
/- refs.Sparse. -/
open Go.Proofs Go.Am
namespace Go.Am
def keysL (L : IM) : List Int := L.map (·.1)
structure OkL (L : IM) (c : Nat) : Prop where
  born : (L.map (·.2.2)).Nodup
  old : ∀ p ∈ L, p.2.2 < c
  keys : (keysL L).Nodup
theorem findL_none (s : Int) : ∀ (L : IM), findL s L 0 = none ↔ s ∉ keysL L
  | [] => by simp [findL, keysL]
  | (k, w, c) :: r => by
    simp only [findL]
    have ih := findL_none s r
    split
    · rename_i e; subst e; simp [keysL]
    · rename_i e
      rw [show (0 : Nat) + 1 = 0 + 1 from rfl, findL_shift s r 0 1, Option.map_eq_none_iff, ih]
      simp [keysL, e]
theorem setI_keys (s v : Int) (b : Nat) : ∀ (L : IM), keysL (setI s v b L) = if s ∈ keysL L then keysL L else keysL L ++ [s]
  | [] => by simp [setI, keysL]
  | (k, u, c) :: r => by
    have ih := setI_keys s v b r
    simp only [setI]
    split
    · rename_i e; subst e; simp [keysL]
    · rename_i e
      show k :: keysL (setI s v b r) = if s ∈ k :: keysL r then k :: keysL r else (k :: keysL r) ++ [s]
      rw [ih]
      by_cases h : s ∈ keysL r
      · simp [h]
      · simp [h, e]
theorem setI_born (s v : Int) (b : Nat) : ∀ (L : IM), (setI s v b L).map (·.2.2) = if s ∈ keysL L then L.map (·.2.2) else L.map (·.2.2) ++ [b]
  | [] => by simp [setI, keysL]
  | (k, u, c) :: r => by
    have ih := setI_born s v b r
    simp only [setI]
    split
    · rename_i e; subst e; simp [keysL]
    · rename_i e
      show c :: (setI s v b r).map (·.2.2) = if s ∈ k :: keysL r then c :: r.map (·.2.2) else (c :: r.map (·.2.2)) ++ [b]
      rw [ih]
      by_cases h : s ∈ keysL r
      · simp [h]
      · simp [h, e]
theorem OkL.set {L : IM} {c : Nat} (h : OkL L c) (s v : Int) : OkL (setI s v c L) (tick s L c) := by
  have ht : tick s L c = if s ∈ keysL L then c else c + 1 := by
    unfold tick
    by_cases hs : s ∈ keysL L
    · rw [if_pos hs]
      cases hf : findL s L 0 with
      | none => exact ((findL_none s L).1 hf hs).elim
      | some p => rfl
    · rw [if_neg hs, (findL_none s L).2 hs]
  have hold : ∀ b ∈ L.map (·.2.2), b < c := fun b hb => by
    obtain ⟨p, hp, rfl⟩ := List.mem_map.1 hb
    exact h.old p hp
  refine ⟨?_, fun p hp => ?_, ?_⟩
  · rw [setI_born]
    split
    · exact h.born
    · rw [List.nodup_append]
      refine ⟨h.born, by simp, fun a ha b hb => ?_⟩
      have := hold a ha
      simp at hb
      omega
  · have hb : p.2.2 ∈ (setI s v c L).map (·.2.2) := List.mem_map.2 ⟨p, hp, rfl⟩
    rw [setI_born] at hb
    rw [ht]
    by_cases hs : s ∈ keysL L
    · rw [if_pos hs] at hb ⊢
      exact hold _ hb
    · rw [if_neg hs] at hb ⊢
      rcases List.mem_append.1 hb with hb | hb
      · have := hold _ hb; omega
      · simp at hb; omega
  · rw [setI_keys]
    split
    · exact h.keys
    · rename_i hs
      rw [List.nodup_append]
      refine ⟨h.keys, by simp, fun a ha b hb => ?_⟩
      simp at hb
      rintro rfl
      exact hs (hb ▸ ha)
theorem OkL.live : ∀ (R : List (Int × Int × Int)) {L : IM} {c : Nat}, OkL L c → OkL (liveM R L c) (liveC R L c)
  | [], _, _, h => h
  | (a, _, _) :: r, L, c, h => OkL.live r (h.set a _)
theorem OkL.ok {L : IM} {c : Nat} (h : OkL L c) : OkM (L.map mkE) c ∧ ((L.map mkE).map keyI).Nodup := by
  have h1 : (L.map mkE).map (·.born) = L.map (·.2.2) := by rw [List.map_map]; rfl
  have h2 : (L.map mkE).map keyI = keysL L := by rw [List.map_map]; rfl
  refine ⟨⟨by rw [h1]; exact h.born, fun e he => ?_, fun e he => ?_⟩, by rw [h2]; exact h.keys⟩
  · obtain ⟨p, hp, rfl⟩ := List.mem_map.1 he; exact h.old p hp
  · obtain ⟨p, hp, rfl⟩ := List.mem_map.1 he; exact ⟨_, _, rfl, rfl⟩
def sparseM (q : Int) (L : IM) : IM := L.filter fun p => decide (p.2.1 < q)
theorem sparse_map (q : Int) (L : IM) : (L.map mkE).filter (fun e => decide (valI e < q)) = (sparseM q L).map mkE := by
  unfold sparseM
  rw [List.filter_map]
  rfl
theorem OkL.sparse {L : IM} {c : Nat} (h : OkL L c) (q : Int) : OkL (sparseM q L) c :=
  ⟨h.born.sublist (List.filter_sublist.map _), fun p hp => h.old p (List.mem_filter.1 hp).1, h.keys.sublist (List.filter_sublist.map _)⟩
theorem live_len : ∀ (R : List (Int × Int × Int)) (L : IM) (c : Nat), (liveM R L c).length ≤ L.length + R.length
  | [], _, _ => Nat.le_refl _
  | (a, _, _) :: r, L, c => by
    have h1 := live_len r (setI a (IntKind.i64.wrap (getI a L + 1)) c L) (tick a L c)
    have h2 : (setI a (IntKind.i64.wrap (getI a L + 1)) c L).length ≤ L.length + 1 := by
      have := congrArg List.length (setI_keys a (IntKind.i64.wrap (getI a L + 1)) c L)
      by_cases hq : a ∈ keysL L
      · rw [if_pos hq] at this; simp only [keysL, List.length_map] at this; omega
      · rw [if_neg hq] at this; simp only [keysL, List.length_map, List.length_append, List.length_singleton] at this; omega
    simp only [liveM, List.length_cons]
    omega
theorem ok48 : funcOk Try.prog Try.f48 = true := by decide +kernel
noncomputable def b48 : Code := match Try.f48.body with | some c => c | none => .skip
theorem f48b : Try.f48.body = some b48 := rfl
theorem Keys48 {O : Over} (hO : O 48 = none) {w0 : World} {H : AH} {v : Value} (hv : v.cells = #[v]) : Does Try.prog w0 O 48 [v] H (.func (.func 77) #[] #[.pointer (some ⟨H.length, 0, none⟩)]) (H ++ [.cells [v] 83 false]) := by
  obtain ⟨T1, a1, b1⟩ : ∃ T', evCode Try.prog w0 noCall 0 4 b48 (frame0 [v]) H = some (.ret, T', H ++ [.cells [v] 83 false]) ∧ T' 2 = .func (.func 77) #[] #[.pointer (some ⟨H.length, 0, none⟩)] := by
    simp [b48, Try.f48, evCode, evOps, astep, clsOf, aread, aalloc, awanted, aev, aput, upd, frame0, hv]
  exact Does.intro hO Try.func48 f48b ok48 (by simp [Try.f48]) (runs_of a1) (.inr rfl) (by simp [aresults, aresultsL, aresult, Try.f48, b1])
theorem ok22 : funcOk Try.prog Try.f22 = true := by decide +kernel
noncomputable def b22 : Code := match Try.f22.body with | some c => c | none => .skip
theorem f22b : Try.f22.body = some b22 := rfl
theorem Sparse22 {w0 : World} {H : AH} {L : IM} {cl : Nat} {lv : Value} {q : Int} (hl : ∃ Y, Does Try.prog w0 OV 41 [lv] (H ++ [AObj.cells [iv q] 3 false]) (.map (some (H ++ [AObj.cells [iv q] 3 false]).length)) ((H ++ [AObj.cells [iv q] 3 false]) ++ (.map (L.map mkE) cl :: Y))) (hL : OkL L cl) (hn : L.length < 2 ^ 40) :
    ∃ v Y, Does Try.prog w0 OV 22 [lv, iv q] H v (H ++ Y) ∧ IntSl w0 (H ++ Y) v (isort (keysL (sparseM q L))) := by
  obtain ⟨H0, hH0⟩ : ∃ H0, H0 = H ++ [AObj.cells [iv q] 3 false] := ⟨_, rfl⟩
  rw [← hH0] at hl
  obtain ⟨Y, k1, hk1⟩ := hl
  have hl0 : H0.length = H.length + 1 := by rw [hH0]; simp
  obtain ⟨H1, hH1⟩ : ∃ H1, H1 = H0 ++ (.map (L.map mkE) cl :: Y) := ⟨_, rfl⟩
  rw [← hH1] at hk1
  have hm1 : H1[H0.length]? = some (.map (L.map mkE) cl) := by rw [hH1]; simp
  have hc1 : H1[H.length]? = some (.cells [iv q] 3 false) := by
    rw [hH1]; refine get_app ?_; rw [hH0]; simp
  have hb := hL.ok
  -- DeleteFunc
  obtain ⟨H2, hH2⟩ : ∃ H2, H2 = H1.set H0.length (.map ((sparseM q L).map mkE) cl) ++ [.dead] := ⟨_, rfl⟩
  have h45 : ov45 [.map (some H0.length), .func (.func 46) #[] #[.pointer (some ⟨H.length, 0, none⟩)]] H1 = some (undef, H2) := by
    have hc1' := hc1
    simp only [iv] at hc1'
    simp only [ov45, hm1, hc1']
    rw [if_pos (by rw [Bool.and_eq_true, decide_eq_true_eq]; exact ⟨okMb_of hb.1, hb.2⟩), sparse_map, hH2]
  have hlt1 : H0.length < H1.length := (List.getElem?_eq_some_iff.1 hm1).1
  have hm2 : H2[H0.length]? = some (.map ((sparseM q L).map mkE) cl) := by
    rw [hH2]; refine get_app ?_; rw [List.getElem?_set_self hlt1]
  -- Keys
  obtain ⟨H3, hH3⟩ : ∃ H3, H3 = H2 ++ [AObj.cells [.map (some H0.length)] 83 false] := ⟨_, rfl⟩
  obtain ⟨k3, hk3⟩ := Keys48 (O := OV) rfl (w0 := w0) (H := H2) (v := .map (some H0.length)) rfl
  rw [← hH3] at hk3
  have hc3 : H3[H2.length]? = some (.cells [.map (some H0.length)] 83 false) := by rw [hH3]; simp
  have hm3 : H3[H0.length]? = some (.map ((sparseM q L).map mkE) cl) := by rw [hH3]; exact get_app hm2
  have hs := (hL.sparse q).ok
  have hslen : ((sparseM q L).map mkE).length < 2 ^ 40 := by
    rw [List.length_map]
    have : (sparseM q L).length ≤ L.length := List.length_filter_le _ _
    omega
  have hkeys : ((sparseM q L).map mkE).map keyI = keysL (sparseM q L) := by rw [List.map_map]; rfl
  -- Sorted
  obtain ⟨v, H4, h47, Z, hZ, hres⟩ : ∃ v H4, ov47 [.func (.func 77) #[] #[.pointer (some ⟨H2.length, 0, none⟩)]] H3 = some (v, H4) ∧ ∃ Z, H4 = H3 ++ Z ∧ IntSl w0 H4 v (isort (keysL (sparseM q L))) := by
    simp only [ov47, hc3, hm3]
    rw [if_pos (by rw [Bool.and_eq_true, decide_eq_true_eq]; exact ⟨okMb_of hs.1, hslen⟩)]
    cases hq : sparseM q L with
    | nil => exact ⟨_, _, rfl, _, rfl, .inl ⟨rfl, rfl⟩⟩
    | cons p r =>
      rw [hq] at hkeys
      refine ⟨_, _, rfl, _, List.append_assoc _ _ _, ?_⟩
      have hil : (isort (keysL (p :: r))).length = (p :: r).length := by rw [(isort_perm _).length_eq]; simp [keysL]
      rw [hkeys]
      have hne : isort (keysL (p :: r)) ≠ [] := fun e => by rw [e] at hil; simp at hil
      have hrv : rowV (H3.length + 3) (isort (keysL (p :: r))) = .slice (some ⟨H3.length + 3 + 2 * (p :: r).length - 1, 0, none⟩) (isort (keysL (p :: r))).length (isort (keysL (p :: r))).length := by
        cases hz : isort (keysL (p :: r)) with
        | nil => exact (hne hz).elim
        | cons z zs => rw [hz] at hil; simp only [rowV, hil]
      rw [hrv]
      refine .inr ⟨_, _, none, _, rfl, .inl rfl, fun i x hx => ?_⟩
      have hgrow : (H3 ++ List.replicate (2 + 2 * (List.map mkE (p :: r)).length) AObj.dead ++ [.cells ((isort (keysL (p :: r))).map iv) 3 true])[H3.length + 3 + 2 * (p :: r).length - 1]? = some (.cells ((isort (keysL (p :: r))).map iv) 3 true) := by
        rw [List.getElem?_append_right (by simp; omega)]
        have : H3.length + 3 + 2 * (p :: r).length - 1 - (H3 ++ List.replicate (2 + 2 * (List.map mkE (p :: r)).length) AObj.dead).length = 0 := by simp; omega
        rw [this]
        rfl
      unfold acell
      simp only [hgrow, Nat.zero_add, List.getElem?_map, hx]
      rfl
  obtain ⟨k, hk⟩ : ∃ k, k1 ≤ k + 1 ∧ k3 ≤ k + 1 := ⟨k1 + k3, by omega⟩
  have g1 := evCall_le (P := Try.prog) (w0 := w0) ovMono hk.1 _ _ _ _ hk1
  have g3 := evCall_le (P := Try.prog) (w0 := w0) ovMono hk.2 _ _ _ _ hk3
  have g2 : evCall Try.prog w0 OV (k + 1) (.fn 45) [.map (some H0.length), .func (.func 46) #[] #[.pointer (some ⟨H.length, 0, none⟩)]] H1 = some (undef, H2) := by rw [evCall]; exact h45
  have g4 : evCall Try.prog w0 OV (k + 1) (.fn 47) [.func (.func 77) #[] #[.pointer (some ⟨H2.length, 0, none⟩)]] H3 = some (v, H4) := by rw [evCall]; exact h47
  obtain ⟨T1, a1, b1⟩ : ∃ T', evCode Try.prog w0 (evCall Try.prog w0 OV (k + 1)) 0 14 b22 (frame0 [lv, iv q]) H = some (.ret, T', H4) ∧ T' 4 = v := by
    simp only [iv] at hH0
    simp [b22, Try.f22, evCode, evOps, astep, clsOf, aread, aalloc, acall, callee, awanted, aev, aput, upd, frame0, iv, cells_int, ← hH0, g1, g2, g3, g4]
  -- the memory that was there stays
  have hY : ∃ Y, H4 = H ++ Y := by
    refine ⟨H4.drop H.length, ?_⟩
    have htake : H4.take H.length = H := by
      apply List.ext_getElem?
      intro i
      rw [List.getElem?_take]
      by_cases hi : i < H.length
      · rw [if_pos hi, hZ, hH3, List.append_assoc, List.getElem?_append_left (by rw [hH2]; simp; omega), hH2, List.getElem?_append_left (by simp; omega), List.getElem?_set_ne (by omega), hH1, List.getElem?_append_left (by omega), hH0, List.getElem?_append_left hi]
      · rw [if_neg hi, List.getElem?_eq_none (by omega)]
    conv => lhs; rw [← List.take_append_drop H.length H4, htake]
  obtain ⟨Y', hY'⟩ := hY
  subst hY'
  exact ⟨v, Y', Does.intro rfl Try.func22 f22b ok22 (by simp [Try.f22]) (runs_at a1) (.inr rfl) (by simp [aresults, aresultsL, aresult, Try.f22, b1]), hres⟩
end Go.Am
/- The document's Sparse. -/
open Go.Proofs Go.Am
namespace Go.Am
theorem RefSl.at {w0 : World} {H : AH} {v : Value} {R : List (Int × Int × Int)} (h : RefSl w0 H v R) {i : Nat} {a b m : Int} (hx : R[i]? = some (a, b, m)) : ∃ p, aindexAddr Try.prog 25 v (.int .i64 i) = some p ∧ aload Try.prog w0 H 52 p = some (.agg ⟨[.int .i64 a, .int .i64 b, .int .i64 m]⟩) := by
  have hi := (List.getElem?_eq_some_iff.1 hx).1
  rcases h with ⟨rfl, rfl⟩ | ⟨blk, off, sp, c, rfl, h2, h3⟩
  · simp at hi
  · refine ⟨_, aindexAddr_at Try.underlying25 sz52 hi h2, ?_⟩
    have := h3 i a b m hx
    simp [aload, Try.underlying52, isAggD, sz52, this]
theorem RefSl.len {w0 : World} {H : AH} {v : Value} {R : List (Int × Int × Int)} (h : RefSl w0 H v R) : alen Try.prog H #[25] [v] = some (.int .i64 R.length) := by
  rcases h with ⟨rfl, rfl⟩ | ⟨blk, off, sp, c, rfl, h2, h3⟩ <;> simp [alen, Try.underlying25]
theorem RefSl.keeps {w0 : World} {H H' : AH} {v : Value} {R : List (Int × Int × Int)} (h : RefSl w0 H v R) (hk : Keeps H H') : RefSl w0 H' v R := by
  obtain ⟨Y, rfl⟩ := hk
  exact h.app
theorem ty29 : TyOk Try.prog 29 3 1 8 := by
  refine ⟨Try.underlying29, ?_, by decide, .int .i64 0, z3, rfl⟩
  cases hi : Try.prog.info? 3 with
  | none => have := inf3; rw [hi] at this; cases this
  | some i =>
    have := inf3
    rw [hi] at this
    simp only [Option.map_some, Option.some.injEq, Prod.mk.injEq] at this
    exact ⟨i, rfl, this.1, this.2⟩
/- a row of whole numbers that this call has made -/
abbrev RowI (b : Nat) (H : AH) (v : Value) (xs : List Int) : Prop := Row b H 3 v xs.length (xs.map iv)
theorem RowI.ints {b : Nat} {w0 : World} {H : AH} {v : Value} {xs : List Int} (h : RowI b H v xs) : IntSl w0 H v xs := by
  rcases h with ⟨h1, h2, _⟩ | ⟨id, _, h1, h2, h3, _⟩ | ⟨id, _, h1, h2⟩
  · exact .inl ⟨h1, List.length_eq_zero_iff.1 h2⟩
  · exact .inr ⟨id, 0, none, 0, by rw [h1, h3], .inl rfl, fun i x hx => by have := (List.getElem?_eq_some_iff.1 hx).1; omega⟩
  · exact .inr ⟨id, 0, none, xs.length, h1, .inl rfl, fun i x hx => by simp [acell, h2, hx, iv]⟩
theorem cellV_iv {xs : List Int} {v : Value} (h : v ∈ xs.map iv) : cellV v = true := by
  obtain ⟨x, _, rfl⟩ := List.mem_map.1 h
  rfl
theorem cellV_take (n : Nat) (xs : List Int) : ((xs.map iv).take n).all cellV = true := List.all_eq_true.2 fun v hv => cellV_iv (List.mem_of_mem_take hv)
theorem cellV_drop (n : Nat) (xs : List Int) : ((xs.map iv).drop n).all cellV = true := List.all_eq_true.2 fun v hv => cellV_iv (List.mem_of_mem_drop hv)
def pos (s : Int) (xs : List Int) : Nat := (xs.takeWhile fun x => decide (x < s)).length
theorem pos_le (s : Int) (xs : List Int) : pos s xs ≤ xs.length := by
  unfold pos
  exact (List.takeWhile_sublist _).length_le
theorem pos_lt {s : Int} : ∀ {xs : List Int} {i : Nat}, i < pos s xs → ∃ x, xs[i]? = some x ∧ x < s
  | [], i, h => by simp [pos] at h
  | y :: r, i, h => by
    unfold pos at h
    rw [List.takeWhile_cons] at h
    split at h
    · rename_i hy
      cases i with
      | zero => exact ⟨y, rfl, by simpa using hy⟩
      | succ i => exact pos_lt (xs := r) (by unfold pos; simp at h; omega)
    · simp at h
theorem pos_at {s : Int} : ∀ {xs : List Int} {x : Int}, xs[pos s xs]? = some x → ¬ x < s
  | [], x, h => by simp [pos] at h
  | y :: r, x, h => by
    unfold pos at h
    rw [List.takeWhile_cons] at h
    split at h
    · rename_i hy
      exact pos_at (xs := r) (by unfold pos; simpa using h)
    · rename_i hy
      simp at h hy
      omega
def stepS (R : List (Int × Int × Int)) (k : Int) (xs : List Int) (s : Int) : List Int := if k ≤ cntS s R 0 ∨ xs[pos s xs]? = some s then xs else xs.take (pos s xs) ++ [s] ++ xs.drop (pos s xs)
theorem ok23 : funcOk Try.prog Try.f23 = true := by decide +kernel
noncomputable def b23 : Code := match Try.f23.body with | some c => c | none => .skip
theorem f23b : Try.f23.body = some b23 := rfl
noncomputable def l23 : Code := cat [true, true, false, true, false, false] b23
noncomputable def c23 : Code := cat [true, true, false, false] l23
noncomputable def i23 : Code := cat [true, true, true, false, false, false] c23
theorem b23_eq : b23 = .seq (cat [false] b23) (.seq (cat [true, false] b23) (.seq (.seq (cat [true, true, false, false] b23) (.block 0 (.loop l23))) (.seq (cat [true, true, true, false] b23) .ret))) := rfl
theorem l23_eq : l23 = .seq (cat [false] l23) (.seq (cat [true, false] l23) (.seq (.block 1 c23) (cat [true, true, true] l23))) := rfl
theorem c23_eq : c23 = .seq (cat [false] c23) (.seq (cat [true, false] c23) (.seq (cat [true, true, false] c23) (.seq (.block 2 (.loop i23)) (.seq (cat [true, true, true, true, false] c23) (cat [true, true, true, true, true] c23))))) := rfl
theorem find23 {w0 : World} {H : AH} {T : Fr} {xs : List Int} {s : Int} (hs : IntSl w0 H (T 5) xs) (h8 : T 8 = .int .i64 s) (h9 : T 9 = .int .i64 0) (hn : xs.length < 2 ^ 40) :
    RunsTo Try.prog w0 OV 69 (.block 2 (.loop i23)) T H (fun e T' H' => e = .normal ∧ H' = H ∧ T' 9 = .int .i64 (pos s xs) ∧ ∀ t, t ∉ dsts i23 → T' t = T t) := by
  have hp := pos_le s xs
  refine RunsTo.block (RunsTo.mono (RunsTo.loop ovMono (fun j T' H' => H' = H ∧ (∀ t, t ∉ dsts i23 → T' t = T t) ∧ ∃ i, i + j = pos s xs ∧ T' 9 = .int .i64 i) ?_ (pos s xs) ⟨rfl, fun _ _ => rfl, 0, by omega, h9⟩ (Q := fun e T' H' => e = .exit 2 ∧ H' = H ∧ T' 9 = .int .i64 (pos s xs) ∧ ∀ t, t ∉ dsts i23 → T' t = T t)) ?_)
  · rintro j T1 H1 ⟨rfl, hk, i, hij, h9'⟩
    have e5 : T1 5 = T 5 := hk 5 (by decide +kernel)
    have e8 : T1 8 = .int .i64 s := (hk 8 (by decide +kernel)).trans h8
    have hlen := hs.len
    by_cases hi : i < xs.length
    · obtain ⟨x, hx⟩ : ∃ x, xs[i]? = some x := ⟨_, List.getElem?_eq_getElem hi⟩
      obtain ⟨p, p1, p2⟩ := hs.at hx
      have hi' : (i : Int) < xs.length := by omega
      have hw := wrap_succ hi (by omega : xs.length < 2 ^ 62)
      by_cases hxs : x < s
      · have hlt : i < pos s xs := by
          refine Classical.byContradiction fun hc => ?_
          have he : i = pos s xs := by omega
          subst he
          exact pos_at hx hxs
        obtain ⟨T2, a2, b2⟩ : ∃ T', evCode Try.prog w0 noCall 0 69 i23 T1 H1 = some (.normal, T', H1) ∧ T' 9 = .int .i64 ((i + 1 : Nat) : Int) := by
          simp [i23, c23, l23, b23, cat, Try.f23, evCode, evOps, astep, clsOf, aread, awanted, aev, aput, upd, h9', e5, e8, hlen, abin_lss, abin_add, hi', p1, p2, hxs, hw]
        refine RunsTo.ev ovMono a2 (.inl ⟨rfl, j - 1, by omega, rfl, fun t ht => (evCode_keep _ a2 t ht).trans (hk t ht), i + 1, by omega, b2⟩)
      · have hge : i = pos s xs := by
          refine Classical.byContradiction fun hc => ?_
          obtain ⟨y, hy, hy2⟩ := pos_lt (s := s) (xs := xs) (i := i) (by omega)
          rw [hx] at hy
          cases hy
          exact hxs hy2
        obtain ⟨T2, a2, b2⟩ : ∃ T', evCode Try.prog w0 noCall 0 69 i23 T1 H1 = some (.exit 2, T', H1) ∧ T' 9 = .int .i64 (i : Int) := by
          simp [i23, c23, l23, b23, cat, Try.f23, evCode, evOps, astep, clsOf, aread, awanted, aev, aput, upd, h9', e5, e8, hlen, abin_lss, abin_add, hi', p1, p2, hxs]
        exact RunsTo.ev ovMono a2 (.inr ⟨by simp, rfl, rfl, by rw [b2, hge], fun t ht => (evCode_keep _ a2 t ht).trans (hk t ht)⟩)
    · have hge : i = pos s xs := by omega
      have hi' : ¬ (i : Int) < xs.length := by omega
      obtain ⟨T2, a2, b2⟩ : ∃ T', evCode Try.prog w0 noCall 0 69 i23 T1 H1 = some (.exit 2, T', H1) ∧ T' 9 = .int .i64 (i : Int) := by
        simp [i23, c23, l23, b23, cat, Try.f23, evCode, evOps, astep, clsOf, aread, awanted, aev, aput, upd, h9', e5, e8, hlen, abin_lss, abin_add, hi']
      exact RunsTo.ev ovMono a2 (.inr ⟨by simp, rfl, rfl, by rw [b2, hge], fun t ht => (evCode_keep _ a2 t ht).trans (hk t ht)⟩)
  · rintro e T' H' ⟨rfl, h2⟩
    exact ⟨by simp [outOf], h2⟩
theorem round23 {w0 : World} {H0 H : AH} {T : Fr} {lv : Value} {R : List (Int × Int × Int)} {k a b m : Int} {i : Nat} {outs : List Int} (hK : Keeps H0 H) (hR : RefSl w0 H0 lv R) (hn : R.length < 2 ^ 40) (hx : R[i]? = some (a, b, m)) (h0 : T 0 = lv) (h1 : T 1 = .int .i64 k) (h11 : T 11 = lv) (h12 : T 12 = .int .i64 R.length) (h13 : T 13 = .int .i64 i)
    (ho : RowI H0.length H (T 5) outs) (hol : outs.length ≤ i) :
    RunsTo Try.prog w0 OV 69 l23 T H (fun e T' H' => e = .normal ∧ Keeps H0 H' ∧ T' 0 = lv ∧ T' 1 = .int .i64 k ∧ T' 11 = lv ∧ T' 12 = .int .i64 R.length ∧ T' 13 = .int .i64 ((i + 1 : Nat) : Int) ∧ RowI H0.length H' (T' 5) (stepS R k outs a)) := by
  have hi := (List.getElem?_eq_some_iff.1 hx).1
  have hi' : (i : Int) < R.length := by omega
  have hw := wrap_succ hi (by omega : R.length < 2 ^ 62)
  obtain ⟨p, p1, p2⟩ := (hR.keeps hK).at hx
  have hs29 : ∀ {t : Nat}, t ∈ ([0, 1, 5, 11, 12, 13] : List Nat) → t ∉ dsts (cat [true, false] l23) := by decide +kernel
  rw [l23_eq]
  -- there is an element
  obtain ⟨T1, a1⟩ : ∃ T', evCode Try.prog w0 noCall 0 69 (cat [false] l23) T H = some (.normal, T', H) ∧ T' 14 = .bool true := by
    simp [l23, b23, cat, Try.f23, evCode, evOps, astep, clsOf, aread, awanted, aev, aput, upd, h12, h13, abin_lss, hi']
  have k1 := evCode_keep _ a1.1
  refine RunsTo.seq ovMono (RunsTo.ev ovMono a1.1 (.inl ⟨rfl, ?_⟩))
  have a2 : evCode Try.prog w0 noCall 0 69 (cat [true, false] l23) T1 H = some (.normal, T1, H) := by
    simp [l23, b23, cat, Try.f23, evCode, aev, a1.2]
  refine RunsTo.seq ovMono (RunsTo.ev ovMono a2 (.inl ⟨rfl, ?_⟩))
  refine RunsTo.seq ovMono (RunsTo.block ?_)
  -- what behind the block is done
  have last : ∀ {T3 : Fr} {H3 : AH} {xs : List Int}, Keeps H0 H3 → T3 0 = lv → T3 1 = .int .i64 k → T3 11 = lv → T3 12 = .int .i64 R.length → T3 13 = .int .i64 i → RowI H0.length H3 (T3 5) xs → xs = stepS R k outs a →
      RunsTo Try.prog w0 OV 69 (cat [true, true, true] l23) T3 H3 (fun e T' H' => e = .normal ∧ Keeps H0 H' ∧ T' 0 = lv ∧ T' 1 = .int .i64 k ∧ T' 11 = lv ∧ T' 12 = .int .i64 R.length ∧ T' 13 = .int .i64 ((i + 1 : Nat) : Int) ∧ RowI H0.length H' (T' 5) (stepS R k outs a)) := by
    intro T3 H3 xs g1 g2 g3 g4 g5 g6 g7 g8
    obtain ⟨T4, a4, b4⟩ : ∃ T', evCode Try.prog w0 noCall 0 69 (cat [true, true, true] l23) T3 H3 = some (.normal, T', H3) ∧ T' 13 = .int .i64 ((i + 1 : Nat) : Int) := by
      simp [l23, b23, cat, Try.f23, evCode, evOps, astep, clsOf, aread, awanted, aev, aput, upd, g6, abin_add, hw]
    have k4 := evCode_keep _ a4
    refine RunsTo.ev ovMono a4 ⟨rfl, g1, (k4 0 (by decide +kernel)).trans g2, (k4 1 (by decide +kernel)).trans g3, (k4 11 (by decide +kernel)).trans g4, (k4 12 (by decide +kernel)).trans g5, b4, ?_⟩
    rw [k4 5 (by decide +kernel), ← g8]
    exact g7
  -- in the block
  rw [c23_eq]
  obtain ⟨H1, hH1⟩ : ∃ H1, H1 = H ++ [AObj.cells [.int .i64 a, .int .i64 b, .int .i64 m] 52 false] := ⟨_, rfl⟩
  have hK1 : Keeps H0 H1 := by rw [hH1]; exact hK.put _
  obtain ⟨T2, a3, b3⟩ : ∃ T', evCode Try.prog w0 noCall 0 69 (cat [false] c23) T1 H = some (.normal, T', H1) ∧ T' 7 = .pointer (some ⟨H.length, 0, none⟩) := by
    have e11 : T1 11 = lv := (k1 11 (by decide +kernel)).trans h11
    have e13 : T1 13 = .int .i64 i := (k1 13 (by decide +kernel)).trans h13
    simp [c23, l23, b23, cat, Try.f23, evCode, evOps, astep, clsOf, aread, aalloc, awrite, astore, awanted, aev, aput, upd, e11, e13, p1, p2, z52, sz52, put_last, Value.cells, splice, cellV, hH1]
  have k3 := evCode_keep _ a3
  refine RunsTo.seq ovMono (RunsTo.ev ovMono a3 (.inl ⟨rfl, ?_⟩))
  obtain ⟨T3, a4, b4⟩ : ∃ T', evCode Try.prog w0 noCall 0 69 (cat [true, false] c23) T2 H1 = some (.normal, T', H1) ∧ T' 8 = .int .i64 a := by
    simp [c23, l23, b23, cat, Try.f23, evCode, evOps, astep, clsOf, aread, awanted, aev, aput, upd, b3, afieldAddr, aadd, Try.underlying52, Try.underlying36, sz36, sz3, aload, Try.underlying3, isAggD, hH1, acell_last]
  have k4 := evCode_keep _ a4
  refine RunsTo.seq ovMono (RunsTo.ev ovMono a4 (.inl ⟨rfl, ?_⟩))
  obtain ⟨T4, a5, b5⟩ : ∃ T', evCode Try.prog w0 noCall 0 69 (cat [true, true, false] c23) T3 H1 = some (.normal, T', H1) ∧ T' 9 = .int .i64 0 := by
    simp [c23, l23, b23, cat, Try.f23, evCode, evOps, astep, clsOf, aread, awanted, aev, aput, upd]
  have k5 := evCode_keep _ a5
  refine RunsTo.seq ovMono (RunsTo.ev ovMono a5 (.inl ⟨rfl, ?_⟩))
  have e5 : T4 5 = T 5 := by rw [k5 5 (by decide +kernel), k4 5 (by decide +kernel), k3 5 (by decide +kernel), k1 5 (by decide +kernel)]
  have e8 : T4 8 = .int .i64 a := by rw [k5 8 (by decide +kernel), b4]
  have all4 : ∀ t, t ∈ ([0, 1, 5, 11, 12, 13] : List Nat) → T4 t = T t := by
    intro t ht
    have d5 : t ∉ dsts (cat [true, true, false] c23) := (by decide +kernel : ∀ t ∈ ([0, 1, 5, 11, 12, 13] : List Nat), t ∉ dsts (cat [true, true, false] c23)) t ht
    have d4 : t ∉ dsts (cat [true, false] c23) := (by decide +kernel : ∀ t ∈ ([0, 1, 5, 11, 12, 13] : List Nat), t ∉ dsts (cat [true, false] c23)) t ht
    have d3 : t ∉ dsts (cat [false] c23) := (by decide +kernel : ∀ t ∈ ([0, 1, 5, 11, 12, 13] : List Nat), t ∉ dsts (cat [false] c23)) t ht
    have d1 : t ∉ dsts (cat [false] l23) := (by decide +kernel : ∀ t ∈ ([0, 1, 5, 11, 12, 13] : List Nat), t ∉ dsts (cat [false] l23)) t ht
    rw [k5 t d5, k4 t d4, k3 t d3, k1 t d1]
  have ho1 : RowI H0.length H1 (T 5) outs := by
    refine Row.mono ho (fun j hj => ?_)
    rw [hH1, List.getElem?_append_left (ho.vid_ge hj).2]
  have hs1 : IntSl w0 H1 (T4 5) outs := by rw [e5]; exact ho1.ints
  refine RunsTo.seq ovMono (RunsTo.mono (find23 hs1 e8 b5 (by omega)) ?_)
  rintro e T5 H' ⟨rfl, rfl, h9, k6⟩
  refine .inl ⟨rfl, ?_⟩
  have all5 : ∀ t, t ∈ ([0, 1, 5, 11, 12, 13] : List Nat) → T5 t = T t := by
    intro t ht
    rw [k6 t ((by decide +kernel : ∀ t ∈ ([0, 1, 5, 11, 12, 13] : List Nat), t ∉ dsts i23) t ht), all4 t ht]
  have f8 : T5 8 = .int .i64 a := by rw [k6 8 (by decide +kernel), e8]
  obtain ⟨X, kk, hkk⟩ := askLive19 (O := OV) ovMono rfl (hR.keeps hK1) hn a (H := H')
  obtain ⟨H2, hH2⟩ : ∃ H2, H2 = H' ++ X := ⟨_, rfl⟩
  rw [← hH2] at hkk
  have hK2 : Keeps H0 H2 := by rw [hH2]; exact hK1.put _
  have ho2 : RowI H0.length H2 (T 5) outs := Row.mono ho1 (fun j hj => by rw [hH2, List.getElem?_append_left (ho1.vid_ge hj).2])
  have hs2 : IntSl w0 H2 (T 5) outs := ho2.ints
  have hlen2 := hs2.len
  have g0 := all5 0 (by decide); have g1 := all5 1 (by decide); have g5 := all5 5 (by decide); have g11 := all5 11 (by decide); have g12 := all5 12 (by decide); have g13 := all5 13 (by decide)
  have hpl := pos_le a outs
  -- it stays as it is
  have stays : stepS R k outs a = outs → (∃ T', evCode Try.prog w0 (evCall Try.prog w0 OV kk) 0 69 (cat [true, true, true, true, false] c23) T5 H' = some (.exit 1, T', H2)) →
      RunsTo Try.prog w0 OV 69 (.seq (cat [true, true, true, true, false] c23) (cat [true, true, true, true, true] c23)) T5 H' (fun e T1 H1 => outOf 1 e = .normal ∧ RunsTo Try.prog w0 OV 69 (cat [true, true, true] l23) T1 H1 (fun e T' H' => e = .normal ∧ Keeps H0 H' ∧ T' 0 = lv ∧ T' 1 = .int .i64 k ∧ T' 11 = lv ∧ T' 12 = .int .i64 R.length ∧ T' 13 = .int .i64 ((i + 1 : Nat) : Int) ∧ RowI H0.length H' (T' 5) (stepS R k outs a)) ∨ outOf 1 e ≠ .normal ∧ outOf 1 e = .normal ∧ Keeps H0 H1 ∧ T1 0 = lv ∧ T1 1 = .int .i64 k ∧ T1 11 = lv ∧ T1 12 = .int .i64 R.length ∧ T1 13 = .int .i64 ((i + 1 : Nat) : Int) ∧ RowI H0.length H1 (T1 5) (stepS R k outs a)) := by
    rintro hst ⟨T6, a6⟩
    have k6' := evCode_keep _ a6
    have all6 : ∀ t, t ∈ ([0, 1, 5, 11, 12, 13] : List Nat) → T6 t = T t := fun t ht => by
      rw [k6' t ((by decide +kernel : ∀ t ∈ ([0, 1, 5, 11, 12, 13] : List Nat), t ∉ dsts (cat [true, true, true, true, false] c23)) t ht), all5 t ht]
    refine RunsTo.seq ovMono (RunsTo.evk ovMono a6 (.inr ⟨by simp, .inl ⟨by simp [outOf], ?_⟩⟩))
    refine last hK2 ((all6 0 (by decide)).trans h0) ((all6 1 (by decide)).trans h1) ((all6 11 (by decide)).trans h11) ((all6 12 (by decide)).trans h12) ((all6 13 (by decide)).trans h13) ?_ hst.symm
    rw [all6 5 (by decide)]
    exact ho2
  -- it is put in
  have comes : stepS R k outs a = outs.take (pos a outs) ++ [a] ++ outs.drop (pos a outs) → (∃ T', evCode Try.prog w0 (evCall Try.prog w0 OV kk) 0 69 (cat [true, true, true, true, false] c23) T5 H' = some (.normal, T', H2)) →
      RunsTo Try.prog w0 OV 69 (.seq (cat [true, true, true, true, false] c23) (cat [true, true, true, true, true] c23)) T5 H' (fun e T1 H1 => outOf 1 e = .normal ∧ RunsTo Try.prog w0 OV 69 (cat [true, true, true] l23) T1 H1 (fun e T' H' => e = .normal ∧ Keeps H0 H' ∧ T' 0 = lv ∧ T' 1 = .int .i64 k ∧ T' 11 = lv ∧ T' 12 = .int .i64 R.length ∧ T' 13 = .int .i64 ((i + 1 : Nat) : Int) ∧ RowI H0.length H' (T' 5) (stepS R k outs a)) ∨ outOf 1 e ≠ .normal ∧ outOf 1 e = .normal ∧ Keeps H0 H1 ∧ T1 0 = lv ∧ T1 1 = .int .i64 k ∧ T1 11 = lv ∧ T1 12 = .int .i64 R.length ∧ T1 13 = .int .i64 ((i + 1 : Nat) : Int) ∧ RowI H0.length H1 (T1 5) (stepS R k outs a)) := by
    rintro hst ⟨T6, a6⟩
    have k6' := evCode_keep _ a6
    have all6 : ∀ t, t ∈ ([0, 1, 5, 8, 9, 11, 12, 13] : List Nat) → T6 t = T5 t := fun t ht => by
      rw [k6' t ((by decide +kernel : ∀ t ∈ ([0, 1, 5, 8, 9, 11, 12, 13] : List Nat), t ∉ dsts (cat [true, true, true, true, false] c23)) t ht)]
    refine RunsTo.seq ovMono (RunsTo.evk ovMono a6 (.inl ⟨rfl, ?_⟩))
    have q5 : T6 5 = T 5 := (all6 5 (by decide)).trans g5
    have q8 : T6 8 = .int .i64 a := (all6 8 (by decide)).trans f8
    have q9 : T6 9 = .int .i64 (pos a outs) := (all6 9 (by decide)).trans h9
    have hvid : ∀ j, vid (T 5) = some j → j < H2.length := fun j hj => (ho2.vid_ge hj).2
    -- out[:at:] behind nothing
    obtain ⟨H3, hH3⟩ : ∃ H3, H3 = H2 ++ [AObj.cells [] 3 false] := ⟨_, rfl⟩
    have ho3 : RowI H0.length H3 (T 5) outs := Row.mono ho2 (fun j hj => by rw [hH3, List.getElem?_append_left (hvid j hj)])
    have hz3 : Row H2.length H3 3 (.slice (some ⟨H2.length, 0, none⟩) 0 0) 0 [] := .inr (.inl ⟨H2.length, Nat.le_refl _, rfl, by rw [hH3]; simp, rfl, rfl⟩)
    obtain ⟨u1, su1, sr1⟩ := Row.hi (w0 := w0) (k := .i64) ty29 ho3 (by simp) hpl
    have hl3 : H2.length ≤ H3.length := by rw [hH3]; simp
    obtain ⟨v1, H4, ap1, hz4, gr4, _⟩ := app_row (b := H2.length) ty29 (.inl Try.underlying29) hl3 hz3 rfl sr1 (by simp; omega) (cellV_take _ _) (by omega)
    have vz : ∀ j, vid (Value.slice (some ⟨H2.length, 0, none⟩) 0 0) = some j → H2.length ≤ j := fun j hj => by cases hj; exact Nat.le_refl _
    have hK23 : Keeps H2 H3 := by rw [hH3]; exact Keeps.app _ _
    have hK4 : Keeps H2 H4 := gr4.keeps hK23 vz
    have vz4 : ∀ j, vid v1 = some j → H2.length ≤ j := fun j hj => (hz4.vid_ge hj).1
    simp only [Nat.zero_add, List.nil_append] at hz4
    -- s behind it
    obtain ⟨H5, hH5⟩ : ∃ H5, H5 = H4 ++ [AObj.cells [.int .i64 a] 3 false] := ⟨_, rfl⟩
    have hK5 : Keeps H2 H5 := by rw [hH5]; exact hK4.put _
    have hz5 := hz4.mono (H' := H5) (fun j hj => by rw [hH5, List.getElem?_append_left (hz4.vid_ge hj).2])
    have sr2 : asrc w0 H5 1 (.slice (some ⟨H4.length, 0, none⟩) 1 1) = some (1, [.int .i64 a]) := by
      rw [asrc_part (cs := [.int .i64 a]) (e := 3) (g := false) (by rw [hH5]; simp) (by simp)]
      simp
    obtain ⟨v2, H6, ap2, hz6, gr6, _⟩ := app_row (b := H2.length) ty29 (.inl Try.underlying29) hK5.len hz5 (by simp; omega) sr2 (by simp) (by simp [cellV]) (by omega)
    have hK6 : Keeps H2 H6 := gr6.keeps hK5 vz4
    have vz6 : ∀ j, vid v2 = some j → H2.length ≤ j := fun j hj => (hz6.vid_ge hj).1
    -- out[at:] behind that
    have ho6 : RowI H0.length H6 (T 5) outs := Row.mono ho2 (fun j hj => by
      obtain ⟨Y, rfl⟩ := hK6
      rw [List.getElem?_append_left (hvid j hj)])
    obtain ⟨u3, su3, sr3⟩ := Row.lo (w0 := w0) (k := .i64) ty29 ho6 (by simp) hpl
    obtain ⟨v3, H7, ap3, hz7, gr7, _⟩ := app_row (b := H2.length) ty29 (.inl Try.underlying29) hK6.len hz6 (by simp; omega) sr3 (by simp) (cellV_drop _ _) (by omega)
    have hK7 : Keeps H2 H7 := gr7.keeps hK6 vz6
    obtain ⟨T7, a7, b7⟩ : ∃ T', evCode Try.prog w0 noCall 0 69 (cat [true, true, true, true, true] c23) T6 H2 = some (.normal, T', H7) ∧ T' 5 = v3 := by
      rw [hH5] at ap2
      try simp only [iv] at ap1
      try simp only [iv] at ap2
      try simp only [iv] at ap3
      simp [c23, l23, b23, cat, Try.f23, evCode, evOps, astep, clsOf, aread, aalloc, awrite, awanted, aev, aput, upd, q5, q8, q9, Try.underlying29, sz3, z3, cells_int, Instr.fill, ← hH3, su1, ap1, ap2, su3, ap3]
    have k7 := evCode_keep _ a7
    have all7 : ∀ t, t ∈ ([0, 1, 11, 12, 13] : List Nat) → T7 t = T t := fun t ht => by
      rw [k7 t ((by decide +kernel : ∀ t ∈ ([0, 1, 11, 12, 13] : List Nat), t ∉ dsts (cat [true, true, true, true, true] c23)) t ht), all6 t ((by decide : ∀ t ∈ ([0, 1, 11, 12, 13] : List Nat), t ∈ ([0, 1, 5, 8, 9, 11, 12, 13] : List Nat)) t ht), all5 t ((by decide : ∀ t ∈ ([0, 1, 11, 12, 13] : List Nat), t ∈ ([0, 1, 5, 11, 12, 13] : List Nat)) t ht)]
    refine RunsTo.ev ovMono a7 (.inl ⟨by simp [outOf], ?_⟩)
    refine last (hK2.trans hK7) ((all7 0 (by decide)).trans h0) ((all7 1 (by decide)).trans h1) ((all7 11 (by decide)).trans h11) ((all7 12 (by decide)).trans h12) ((all7 13 (by decide)).trans h13) ?_ hst.symm
    rw [b7]
    have hfin := hz7.lower hK2.len
    have el : (outs.take (pos a outs) ++ [a] ++ outs.drop (pos a outs)).length = pos a outs + 1 + (outs.length - pos a outs) := by simp; omega
    unfold RowI
    rw [el]
    simpa [iv, List.map_take, List.map_drop] using hfin
  -- which of the two
  have q0 : T5 0 = lv := g0.trans h0
  have q1 : T5 1 = .int .i64 k := g1.trans h1
  by_cases hk : k ≤ cntS a R 0
  · refine stays (by unfold stepS; rw [if_pos (.inl hk)]) ?_
    simp [c23, l23, b23, cat, Try.f23, evCode, evOps, astep, clsOf, aread, acall, callee, awanted, aev, aput, upd, q0, f8, q1, hkk, abin_geq, hk, undef]
  · by_cases hlt : pos a outs < outs.length
    · obtain ⟨x, hx⟩ : ∃ x, outs[pos a outs]? = some x := ⟨_, List.getElem?_eq_getElem hlt⟩
      obtain ⟨pp, r1, r2⟩ := hs2.at hx
      have hlt' : (pos a outs : Int) < outs.length := by omega
      by_cases hxa : x = a
      · subst hxa
        refine stays (by unfold stepS; rw [if_pos (.inr hx)]) ?_
        simp [c23, l23, b23, cat, Try.f23, evCode, evOps, astep, clsOf, aread, acall, callee, awanted, aev, aput, upd, q0, f8, q1, hkk, abin_geq, hk, g5, h9, hlen2, abin_lss, hlt', r1, r2, abin_eql_int]
      · refine comes (by unfold stepS; rw [if_neg (by rw [hx]; simp [hk, hxa])]) ?_
        simp [c23, l23, b23, cat, Try.f23, evCode, evOps, astep, clsOf, aread, acall, callee, awanted, aev, aput, upd, q0, f8, q1, hkk, abin_geq, hk, g5, h9, hlen2, abin_lss, hlt', r1, r2, abin_eql_int, hxa]
    · have hlt' : ¬ (pos a outs : Int) < outs.length := by omega
      refine comes (by unfold stepS; rw [if_neg (by rw [List.getElem?_eq_none (by omega)]; simp [hk])]) ?_
      simp [c23, l23, b23, cat, Try.f23, evCode, evOps, astep, clsOf, aread, acall, callee, awanted, aev, aput, upd, q0, f8, q1, hkk, abin_geq, hk, g5, h9, hlen2, abin_lss, hlt']
end Go.Am
/- The document's Sparse, whole; both are the same list. -/
open Go.Proofs Go.Am
namespace Go.Am
def stripes (R : List (Int × Int × Int)) : List Int := R.map (·.1)
def foldS (R : List (Int × Int × Int)) (k : Int) (n : Nat) : List Int := ((stripes R).take n).foldl (stepS R k) []
theorem stepS_len (R : List (Int × Int × Int)) (k : Int) (xs : List Int) (s : Int) : (stepS R k xs s).length ≤ xs.length + 1 := by
  unfold stepS
  have := pos_le s xs
  split
  · omega
  · simp; omega
theorem foldS_succ {R : List (Int × Int × Int)} {k a b m : Int} {i : Nat} (h : R[i]? = some (a, b, m)) : foldS R k (i + 1) = stepS R k (foldS R k i) a := by
  unfold foldS
  have : (stripes R)[i]? = some a := by simp [stripes, h]
  rw [List.take_add_one, this]
  simp
theorem foldS_len (R : List (Int × Int × Int)) (k : Int) : ∀ i, i ≤ R.length → (foldS R k i).length ≤ i
  | 0, _ => by simp [foldS]
  | i + 1, h => by
    obtain ⟨⟨a, b, m⟩, hx⟩ : ∃ x, R[i]? = some x := ⟨_, List.getElem?_eq_getElem (by omega)⟩
    rw [foldS_succ hx]
    have := stepS_len R k (foldS R k i) a
    have := foldS_len R k i (by omega)
    omega
theorem Sparse23 {w0 : World} {H : AH} {lv : Value} {R : List (Int × Int × Int)} {k : Int} (hR : RefSl w0 H lv R) (hn : R.length < 2 ^ 40) : ∃ v Y, Does Try.prog w0 OV 23 [lv, iv k] H v (H ++ Y) ∧ IntSl w0 (H ++ Y) v (foldS R k R.length) := by
  have main : DoesTo Try.prog w0 OV 23 [lv, iv k] H (fun v H' => Keeps H H' ∧ IntSl w0 H' v (foldS R k R.length)) := by
    refine DoesTo.intro rfl Try.func23 f23b ok23 (by simp [Try.f23]) ?_
    rw [b23_eq]
    have hl := hR.len
    obtain ⟨T0, a0, b0⟩ : ∃ T', evCode Try.prog w0 noCall 0 69 (cat [false] b23) (frame0 [lv, iv k]) H = some (.normal, T', H) ∧ T' 0 = lv ∧ T' 1 = .int .i64 k := by
      simp [cat, b23, Try.f23, evCode, evOps, astep, clsOf, aread, awanted, aev, aput, upd, frame0, iv]
    refine RunsTo.seq ovMono (RunsTo.ev ovMono a0 (.inl ⟨rfl, ?_⟩))
    obtain ⟨T1, a1, b1⟩ : ∃ T', evCode Try.prog w0 noCall 0 69 (cat [true, false] b23) T0 H = some (.normal, T', H) ∧ T' 0 = lv ∧ T' 1 = .int .i64 k ∧ T' 5 = .slice none 0 0 := by
      simp [cat, b23, Try.f23, evCode, evOps, astep, clsOf, aread, awanted, aev, aput, upd, b0]
    refine RunsTo.seq ovMono (RunsTo.ev ovMono a1 (.inl ⟨rfl, ?_⟩))
    obtain ⟨T2, a2, b2⟩ : ∃ T', evCode Try.prog w0 noCall 0 69 (cat [true, true, false, false] b23) T1 H = some (.normal, T', H) ∧ T' 0 = lv ∧ T' 1 = .int .i64 k ∧ T' 5 = .slice none 0 0 ∧ T' 11 = lv ∧ T' 12 = .int .i64 R.length ∧ T' 13 = .int .i64 0 := by
      simp [cat, b23, Try.f23, evCode, evOps, astep, clsOf, aread, awanted, aev, aput, upd, b1, hl]
    refine RunsTo.seq ovMono (RunsTo.seq ovMono (RunsTo.ev ovMono a2 (.inl ⟨rfl, RunsTo.block ?_⟩)))
    refine RunsTo.mono (RunsTo.loop ovMono (fun j T' H' => ∃ i, i + j = R.length ∧ Keeps H H' ∧ T' 0 = lv ∧ T' 1 = .int .i64 k ∧ T' 11 = lv ∧ T' 12 = .int .i64 R.length ∧ T' 13 = .int .i64 i ∧ RowI H.length H' (T' 5) (foldS R k i)) ?_ R.length
      ⟨0, by omega, Keeps.refl H, b2.1, b2.2.1, b2.2.2.2.1, b2.2.2.2.2.1, b2.2.2.2.2.2, .inl ⟨b2.2.2.1, rfl, rfl⟩⟩ (Q := fun e T' H' => e = .exit 0 ∧ Keeps H H' ∧ RowI H.length H' (T' 5) (foldS R k R.length))) ?_
    · rintro j T3 H3 ⟨i, hij, g1, g2, g3, g4, g5, g6, g7⟩
      by_cases hi : i < R.length
      · obtain ⟨⟨a, b, m⟩, hx⟩ : ∃ x, R[i]? = some x := ⟨_, List.getElem?_eq_getElem hi⟩
        refine RunsTo.mono (round23 g1 hR hn hx g2 g3 g4 g5 g6 g7 (foldS_len R k i (by omega))) ?_
        rintro e T' H' ⟨rfl, q1, q2, q3, q4, q5, q6, q7⟩
        rw [← foldS_succ hx] at q7
        exact .inl ⟨rfl, j - 1, by omega, i + 1, by omega, q1, q2, q3, q4, q5, q6, q7⟩
      · have hi' : ¬ (i : Int) < R.length := by omega
        have he : i = R.length := by omega
        obtain ⟨T4, a4, b4⟩ : ∃ T', evCode Try.prog w0 noCall 0 69 l23 T3 H3 = some (.exit 0, T', H3) ∧ T' 5 = T3 5 := by
          simp [l23, b23, cat, Try.f23, evCode, evOps, astep, clsOf, aread, awanted, aev, aput, upd, g5, g6, abin_lss, hi']
        subst he
        refine RunsTo.ev ovMono a4 (.inr ⟨by simp, rfl, g1, ?_⟩)
        rw [b4]; exact g7
    · rintro e T3 H3 ⟨rfl, g1, g2⟩
      refine .inl ⟨by simp [outOf], ?_⟩
      obtain ⟨T4, a4, b4⟩ : ∃ T', evCode Try.prog w0 noCall 0 69 (.seq (cat [true, true, true, false] b23) .ret) T3 H3 = some (.ret, T', H3) ∧ T' 4 = T3 5 := by
        simp [b23, cat, Try.f23, evCode, evOps, astep, clsOf, aread, awanted, aev, aput, upd]
      exact RunsTo.ev ovMono a4 ⟨.inr rfl, T3 5, by simp [aresults, aresultsL, aresult, Try.f23, b4], g1, g2.ints⟩
  obtain ⟨v, H', h1, ⟨Y, rfl⟩, h2⟩ := main
  exact ⟨v, Y, h1, h2⟩
/- both are sorted, and have the same members -/
theorem take_pos_lt {s : Int} {xs : List Int} : ∀ x ∈ xs.take (pos s xs), x < s := by
  intro x hx
  obtain ⟨i, hi⟩ := List.mem_iff_getElem?.1 hx
  rw [List.getElem?_take] at hi
  split at hi
  · rename_i hlt
    obtain ⟨y, hy, hy2⟩ := pos_lt hlt
    rw [hi] at hy
    cases hy
    exact hy2
  · cases hi
theorem drop_pos_gt {s : Int} {xs : List Int} (hs : xs.Pairwise (· < ·)) (hne : xs[pos s xs]? ≠ some s) : ∀ x ∈ xs.drop (pos s xs), s < x := by
  intro x hx
  have hd : (xs.drop (pos s xs)).Pairwise (· < ·) := hs.sublist (List.drop_sublist _ _)
  cases hq : xs.drop (pos s xs) with
  | nil => rw [hq] at hx; cases hx
  | cons y r =>
    have hy : xs[pos s xs]? = some y := by
      have : (xs.drop (pos s xs))[0]? = some y := by rw [hq]; rfl
      simpa using this
    have h1 := pos_at hy
    have h2 : y ≠ s := fun e => hne (by rw [hy, e])
    rw [hq] at hx hd
    rw [List.pairwise_cons] at hd
    rcases List.mem_cons.1 hx with rfl | hx
    · omega
    · have := hd.1 x hx; omega
theorem stepS_sorted {R : List (Int × Int × Int)} {k : Int} {xs : List Int} {s : Int} (h : xs.Pairwise (· < ·)) : (stepS R k xs s).Pairwise (· < ·) := by
  unfold stepS
  split
  · exact h
  · rename_i hq
    simp only [not_or] at hq
    have h1 := take_pos_lt (s := s) (xs := xs)
    have h2 := drop_pos_gt h hq.2
    rw [List.append_assoc, List.pairwise_append]
    refine ⟨h.sublist (List.take_sublist _ _), ?_, fun a ha b hb => ?_⟩
    · simp only [List.cons_append, List.nil_append, List.pairwise_cons]
      exact ⟨h2, h.sublist (List.drop_sublist _ _)⟩
    · have := h1 a ha
      simp only [List.cons_append, List.nil_append, List.mem_cons] at hb
      rcases hb with rfl | hb
      · exact this
      · have := h2 b hb; omega
theorem stepS_mem {R : List (Int × Int × Int)} {k : Int} {xs : List Int} {s x : Int} : x ∈ stepS R k xs s ↔ x ∈ xs ∨ (x = s ∧ cntS s R 0 < k) := by
  unfold stepS
  split
  · rename_i hq
    refine ⟨.inl, fun h => ?_⟩
    rcases h with h | ⟨rfl, h⟩
    · exact h
    · rcases hq with hq | hq
      · omega
      · exact List.mem_of_getElem? hq
  · rename_i hq
    simp only [not_or] at hq
    have := List.take_append_drop (pos s xs) xs
    constructor
    · intro h
      simp only [List.mem_append, List.mem_singleton] at h
      rcases h with (h | h) | h
      · exact .inl (List.mem_of_mem_take h)
      · exact .inr ⟨h, by omega⟩
      · exact .inl (List.mem_of_mem_drop h)
    · intro h
      simp only [List.mem_append, List.mem_singleton]
      rcases h with h | ⟨h, _⟩
      · rw [← this] at h
        rcases List.mem_append.1 h with h | h
        · exact .inl (.inl h)
        · exact .inr h
      · exact .inl (.inr h)
theorem fold_sorted {R : List (Int × Int × Int)} {k : Int} : ∀ (l : List Int) (xs : List Int), xs.Pairwise (· < ·) → (l.foldl (stepS R k) xs).Pairwise (· < ·)
  | [], _, h => h
  | s :: r, _, h => fold_sorted r _ (stepS_sorted h)
theorem fold_mem {R : List (Int × Int × Int)} {k x : Int} : ∀ (l : List Int) (xs : List Int), x ∈ l.foldl (stepS R k) xs ↔ x ∈ xs ∨ (x ∈ l ∧ cntS x R 0 < k)
  | [], _ => by simp
  | s :: r, xs => by
    rw [List.foldl_cons, fold_mem r, stepS_mem]
    constructor
    · rintro ((h | ⟨rfl, h⟩) | h)
      · exact .inl h
      · exact .inr ⟨by simp, h⟩
      · exact .inr ⟨by simp [h.1], h.2⟩
    · rintro (h | ⟨h, h2⟩)
      · exact .inl (.inl h)
      · rcases List.mem_cons.1 h with rfl | h
        · exact .inl (.inr ⟨rfl, h2⟩)
        · exact .inr ⟨h, h2⟩
theorem live_keys : ∀ (R : List (Int × Int × Int)) (L : IM) (c : Nat) (x : Int), x ∈ keysL (liveM R L c) ↔ x ∈ keysL L ∨ x ∈ stripes R
  | [], L, c, x => by simp [liveM, stripes]
  | (a, b, m) :: r, L, c, x => by
    simp only [liveM, stripes, List.map_cons, List.mem_cons]
    rw [live_keys r, setI_keys]
    by_cases h : a ∈ keysL L
    · rw [if_pos h]
      constructor
      · rintro (h1 | h1)
        · exact .inl h1
        · exact .inr (.inr h1)
      · rintro (h1 | rfl | h1)
        · exact .inl h1
        · exact .inl h
        · exact .inr h1
    · rw [if_neg h]
      simp only [List.mem_append, List.mem_singleton, stripes]
      constructor
      · rintro ((h1 | h1) | h1)
        · exact .inl h1
        · exact .inr (.inl h1)
        · exact .inr (.inr h1)
      · rintro (h1 | h1 | h1)
        · exact .inl (.inl h1)
        · exact .inl (.inr h1)
        · exact .inr h1
theorem getI_mem : ∀ {L : IM} {p : Int × Int × Nat}, (keysL L).Nodup → p ∈ L → getI p.1 L = p.2.1
  | (k, v, c) :: r, p, hn, hp => by
    rw [keysL, List.map_cons, List.nodup_cons] at hn
    rcases List.mem_cons.1 hp with rfl | hp
    · simp [getI, findL]
    · have hne : p.1 ≠ k := fun e => hn.1 (e ▸ List.mem_map.2 ⟨p, hp, rfl⟩)
      have ih := getI_mem (L := r) hn.2 hp
      unfold getI at ih ⊢
      simp only [findL, if_neg hne]
      rw [show (0 : Nat) + 1 = 0 + 1 from rfl, findL_shift p.1 r 0 1]
      cases hf : findL p.1 r 0 with
      | none => rw [hf] at ih; simpa using ih
      | some q => rw [hf] at ih; simpa using ih
theorem sparse_same (R : List (Int × Int × Int)) (k : Int) : isort (keysL (sparseM k (liveM R [] 0))) = foldS R k R.length := by
  have hL : OkL (liveM R [] 0) (liveC R [] 0) := OkL.live R ⟨by simp, by simp, by simp [keysL]⟩
  have hs := hL.sparse k
  have e1 : foldS R k R.length = (stripes R).foldl (stepS R k) [] := by
    unfold foldS
    rw [List.take_of_length_le (by simp [stripes])]
  rw [e1]
  have h1 := fold_sorted (R := R) (k := k) (stripes R) [] List.Pairwise.nil
  have n1 : ((stripes R).foldl (stepS R k) []).Nodup := h1.imp (fun h => by omega)
  have n2 : (isort (keysL (sparseM k (liveM R [] 0)))).Nodup := (isort_perm _).nodup_iff.2 hs.keys
  refine List.Perm.eq_of_pairwise (le := fun x y : Int => x ≤ y) (fun a b _ _ h1 h2 => Int.le_antisymm h1 h2) (isort_sorted _) (h1.imp (fun h => by omega)) ?_
  rw [List.perm_ext_iff_of_nodup n2 n1]
  intro x
  rw [(isort_perm _).mem_iff, fold_mem]
  simp only [List.not_mem_nil, false_or]
  have hk := live_keys R [] 0 x
  simp only [keysL, List.map_nil, List.not_mem_nil, false_or] at hk
  have hg : getI x (liveM R [] 0) = cntS x R 0 := getI_live x R [] 0
  constructor
  · intro h
    obtain ⟨p, hp, rfl⟩ := List.mem_map.1 h
    obtain ⟨hp1, hp2⟩ := List.mem_filter.1 hp
    have := getI_mem hL.keys hp1
    refine ⟨hk.1 (List.mem_map.2 ⟨p, hp1, rfl⟩), ?_⟩
    rw [← hg, this]
    simpa using hp2
  · rintro ⟨h1, h2⟩
    obtain ⟨p, hp, rfl⟩ := List.mem_map.1 (hk.2 h1)
    have := getI_mem hL.keys hp
    refine List.mem_map.2 ⟨p, List.mem_filter.2 ⟨hp, ?_⟩, rfl⟩
    rw [← hg, this] at h2
    simpa using h2
end Go.Am
/- The law RefsAsks in the abstract machine. -/
open Go.Proofs Go.Am
namespace Go.Am
theorem ok4 : funcOk Try.prog Try.f4 = true := by decide +kernel
noncomputable def b4 : Code := match Try.f4.body with | some c => c | none => .skip
theorem f4b : Try.f4.body = some b4 := rfl
theorem b4_eq : b4 = .seq (cat [false] b4) (.seq (cat [true, false] b4) (cat [true, true] b4)) := rfl
theorem law4 {w0 : World} {lv sv : Value} {p1 p2 k : Int} {R : List (Int × Int × Int)} {xs : List Int} (hR : RefSl w0 [] lv R) (hS : IntSl w0 [] sv xs) : ∃ H', Does Try.prog w0 OV 4 [lv, .agg #[.int .i64 p1, .int .i64 p2], sv, .int .i64 k] [] (.bool true) H' := by
  obtain ⟨o, ho⟩ : ∃ o, o = AObj.cells [.int .i64 p1, .int .i64 p2] 36 false := ⟨_, rfl⟩
  obtain ⟨Y1, k1, l9⟩ := livesK w0 o
  have hR0 : RefSl w0 [o] lv R := hR.app (X := [o])
  have hS0 : IntSl w0 [o] sv xs := hS.app (X := [o])
  have hlen := hR0.len
  have hlens := hS0.len
  have hfn : Try.f4.ntmps = 57 := rfl
  have hrs : Try.f4.results = #[.tmp 8] := rfl
  suffices hrun : ∃ kk T' H', evCode Try.prog w0 (evCall Try.prog w0 OV kk) 0 57 b4 (frame0 [lv, .agg #[.int .i64 p1, .int .i64 p2], sv, .int .i64 k]) [] = some (.ret, T', H') ∧ T' 8 = .bool true by
    obtain ⟨kk, T', H', h1, h2⟩ := hrun
    exact ⟨H', Does.intro rfl Try.func4 f4b ok4 (by simp [hfn]) (runs_at h1) (.inr rfl) (by simp [aresults, aresultsL, aresult, hrs, h2])⟩
  by_cases hbig : 200 < R.length ∨ 200 < xs.length
  · refine ⟨k1, ?_⟩
    by_cases h1 : 200 < R.length
    · have h1' : (200 : Int) < R.length := by omega
      simp [b4, Try.f4, evCode, evOps, evD, heapy, astep, clsOf, aread, aalloc, acall, callee, awanted, aev, aput, upd, frame0, Value.cells, ← ho, hlen, abin_gtr, h1', l9, undef]
    · have h1' : ¬ (200 : Int) < R.length := by omega
      have h2' : (200 : Int) < xs.length := by rcases hbig with h | h <;> omega
      simp [b4, Try.f4, evCode, evOps, evD, heapy, astep, clsOf, aread, aalloc, acall, callee, awanted, aev, aput, upd, frame0, Value.cells, ← ho, hlen, hlens, abin_gtr, h1', h2', l9, undef]
  · have hbig1 : ¬ (200 : Int) < R.length := by omega
    have hbig2 : ¬ (200 : Int) < xs.length := by omega
    have hn : R.length < 2 ^ 40 := by omega
    have hx : xs.length < 2 ^ 40 := by omega
    obtain ⟨H1, e1⟩ : ∃ H1, H1 = [o] ++ Y1 := ⟨_, rfl⟩
    rw [← e1] at l9
    have K1 : Keeps [o] H1 := by rw [e1]; exact Keeps.app _ _
    obtain ⟨X2, k2, l16⟩ := askN16 (O := OV) (w0 := w0) ovMono rfl (hR0.keeps K1) hn p1 p2
    obtain ⟨H2, e2⟩ : ∃ H2, H2 = H1 ++ X2 := ⟨_, rfl⟩
    rw [← e2] at l16
    have K2 : Keeps [o] H2 := by rw [e2]; exact K1.put _
    obtain ⟨X3, k3, l17⟩ := askN17 (O := OV) (w0 := w0) ovMono rfl (hR0.keeps K2) hn p1 p2
    obtain ⟨H3, e3⟩ : ∃ H3, H3 = H2 ++ X3 := ⟨_, rfl⟩
    rw [← e3] at l17
    have K3 : Keeps [o] H3 := by rw [e3]; exact K2.put _
    obtain ⟨X4, k4, l18⟩ := askLive18 (O := OV) (w0 := w0) ovMono rfl rfl (hR0.keeps K3) hn p1
    obtain ⟨H4, e4⟩ : ∃ H4, H4 = H3 ++ X4 := ⟨_, rfl⟩
    rw [← e4] at l18
    have K4 : Keeps [o] H4 := by rw [e4]; exact K3.put _
    obtain ⟨X5, k5, l19⟩ := askLive19 (O := OV) (w0 := w0) ovMono rfl (hR0.keeps K4) hn p1
    obtain ⟨H5, e5⟩ : ∃ H5, H5 = H4 ++ X5 := ⟨_, rfl⟩
    rw [← e5] at l19
    have K5 : Keeps [o] H5 := by rw [e5]; exact K4.put _
    have S5 : IntSl w0 H5 sv xs := by obtain ⟨Z, hZ⟩ := K5; rw [hZ]; exact hS0.app
    obtain ⟨u1, X6, ⟨k6, l20⟩, i1⟩ := askDead20 (O := OV) ovMono rfl rfl rfl rfl rfl rfl (hR0.keeps K5) hn S5 hx
    obtain ⟨H6, e6⟩ : ∃ H6, H6 = H5 ++ X6 := ⟨_, rfl⟩
    rw [← e6] at l20 i1
    have K6 : Keeps [o] H6 := by rw [e6]; exact K5.put _
    have S6 : IntSl w0 H6 sv xs := by rw [e6]; exact S5.app
    obtain ⟨u2, X7, ⟨k7, l21⟩, i2⟩ := askDead21 (O := OV) ovMono rfl rfl (hR0.keeps K6) hn S6 hx
    obtain ⟨H7, e7⟩ : ∃ H7, H7 = H6 ++ X7 := ⟨_, rfl⟩
    rw [← e7] at l21 i2
    have K7 : Keeps [o] H7 := by rw [e7]; exact K6.put _
    have i1' : IntSl w0 H7 u1 (xs.filter fun s => decide (cntS s R 0 = 0)) := by rw [e7]; exact i1.app
    have hfl : (xs.filter fun s => decide (cntS s R 0 = 0)).length < 2 ^ 62 := by
      have := List.length_filter_le (fun s => decide (cntS s R 0 = 0)) xs
      omega
    obtain ⟨k8, l15⟩ := Same15 (O := OV) ovMono rfl i1' i2 hfl
    rw [decide_eq_true rfl] at l15
    have K7' : Keeps [o] (H7 ++ [AObj.cells [iv k] 3 false]) := K7.put _
    have hL : OkL (liveM R [] 0) (liveC R [] 0) := OkL.live R ⟨by simp, by simp, by simp [keysL]⟩
    have hLn : (liveM R [] 0).length < 2 ^ 40 := by
      have := live_len R [] 0
      simp at this
      omega
    obtain ⟨u3, X9, ⟨k9, l22⟩, i3⟩ := Sparse22 (w0 := w0) (H := H7) (lv := lv) (q := k) (asklive41 (O := OV) ovMono rfl (hR0.keeps K7') hn) hL hLn
    obtain ⟨H8, e8⟩ : ∃ H8, H8 = H7 ++ X9 := ⟨_, rfl⟩
    rw [← e8] at l22 i3
    have K8 : Keeps [o] H8 := by rw [e8]; exact K7.put _
    obtain ⟨u4, X10, ⟨k10, l23⟩, i4⟩ := Sparse23 (w0 := w0) (k := k) (hR0.keeps K8) hn
    obtain ⟨H9, e9⟩ : ∃ H9, H9 = H8 ++ X10 := ⟨_, rfl⟩
    rw [← e9] at l23 i4
    have K9 : Keeps [o] H9 := by rw [e9]; exact K8.put _
    rw [sparse_same] at i3
    have i3' : IntSl w0 H9 u3 (foldS R k R.length) := by rw [e9]; exact i3.app
    have hfo : (foldS R k R.length).length < 2 ^ 62 := by have := foldS_len R k R.length (Nat.le_refl _); omega
    obtain ⟨k11, l15'⟩ := Same15 (O := OV) ovMono rfl i3' i4 hfo
    rw [decide_eq_true rfl] at l15'
    obtain ⟨kk, hkk⟩ : ∃ kk, kk = k1 + k2 + k3 + k4 + k5 + k6 + k7 + k8 + k9 + k10 + k11 := ⟨_, rfl⟩
    have up : ∀ {q : Nat} {tg : Tgt} {vs : List Value} {H : AH} {r : Value × AH}, q ≤ kk → evCall Try.prog w0 OV q tg vs H = some r → evCall Try.prog w0 OV kk tg vs H = some r := fun h => evCall_le ovMono h _ _ _ _
    have l9 := up (by omega) l9; have l16 := up (by omega) l16; have l17 := up (by omega) l17; have l18 := up (by omega) l18; have l19 := up (by omega) l19; have l20 := up (by omega) l20
    have l21 := up (by omega) l21; have l15 := up (by omega) l15; have l22 := up (by omega) l22; have l23 := up (by omega) l23; have l15' := up (by omega) l15'
    simp only [iv] at l22 l23
    have hob : ∀ {H : AH}, Keeps [o] H → aload Try.prog w0 H 36 (.pointer (some ⟨0, 0, none⟩)) = some (.agg ⟨[.int .i64 p1, .int .i64 p2]⟩) := fun hK => by
      have := hK.get (i := 0) (o := o) rfl
      rw [ho] at this
      simp [aload, Try.underlying36, isAggD, sz36, acells, this]
    have hob3 : ∀ {H : AH}, Keeps [o] H → aload Try.prog w0 H 3 (.pointer (some ⟨0, 0, none⟩)) = some (.int .i64 p1) := fun hK => by
      have := hK.get (i := 0) (o := o) rfl
      rw [ho] at this
      simp [aload, Try.underlying3, isAggD, acell, this]
    have hfa : afieldAddr Try.prog 36 (.pointer (some ⟨0, 0, none⟩)) 0 = some (.pointer (some ⟨0, 0, none⟩)) := by
      simp [afieldAddr, Try.underlying36, sz3, aadd]
    have K0 : Keeps [o] [o] := Keeps.refl _
    have A0 := hob K0; have A1 := hob K1; have A2 := hob K2; have A3 := hob K3; have A4 := hob K4; have A5 := hob K5; have A6 := hob K6; have A7 := hob K7; have A8 := hob K8; have A9 := hob K9
    have B0 := hob3 K0; have B1 := hob3 K1; have B2 := hob3 K2; have B3 := hob3 K3; have B4 := hob3 K4; have B5 := hob3 K5; have B6 := hob3 K6; have B7 := hob3 K7; have B8 := hob3 K8; have B9 := hob3 K9
    clear hob hob3 up
    refine ⟨kk, ?_⟩
    simp [b4, Try.f4, evCode, evOps, evD, heapy, astep, clsOf, aread, aalloc, acall, callee, awanted, aev, aput, upd, frame0, Value.cells, ← ho, hlen, hlens, abin_gtr, hbig1, hbig2, undef, l9, l16, l17, l18, l19, l20, l21, l15, l22, l23, l15', A0, A1, A2, A3, A4, A5, A6, A7, A8, A9, B0, B1, B2, B3, B4, B5, B6, B7, B8, B9, hfa, abin_eql_int, chk, veq, veqL]
end Go.Am
