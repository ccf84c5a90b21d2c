/- BloomNeeds, in its second form: for every selector and every filter of bulk at most 1048576 together the law returns true, and the arguments read as they did. Its condition: that bulk, as the given statement has it. -/
import Derived.Test.YtblpfejciklenaaBb
import Derived.Test.YtblpfejciklenaaRows
import Derived.WalkKit
import Derived.ProofKit
import Derived.OpenShut
import Derived.JoinedCond
namespace Go.Proofs.Ytblpfejciklenaa.bloomNeeds
set_option linter.unusedSimpArgs false
open Go.Vc Go.Proofs Go.ChangeShapes Go.WideShapes Go.RowKit
set_option linter.unusedVariables false
set_option maxRecDepth 20000

mutual
theorem bulk_same {H : Type} : ∀ d : DataW H, Rows.uptoBulk d = bulk d
  | .lit (.string bytes) => by simp [Rows.uptoBulk, bulk]
  | .lit (.bool _) => by simp [Rows.uptoBulk, bulk]
  | .lit (.int _ _) => by simp [Rows.uptoBulk, bulk]
  | .lit (.float _ _) => by simp [Rows.uptoBulk, bulk]
  | .lit .nil => by simp [Rows.uptoBulk, bulk]
  | .nil => by simp [Rows.uptoBulk, bulk]
  | .ptr d => by simp [Rows.uptoBulk, bulk, bulk_same d]
  | .slice elems spare => by simp [Rows.uptoBulk, bulk, bulkAll_same elems, bulkAll_same spare]
  | .agg parts => by simp [Rows.uptoBulk, bulk, bulkAll_same parts]
  | .iface _ d => by simp [Rows.uptoBulk, bulk, bulk_same d]
  | .map entries => by simp [Rows.uptoBulk, bulk, bulkEntries_same entries]
  | .held _ => by simp [Rows.uptoBulk, bulk]
theorem bulkAll_same {H : Type} : ∀ l : List (DataW H), Rows.uptoBulkAll l = bulkAll l
  | [] => by simp [Rows.uptoBulkAll, bulkAll]
  | d :: r => by simp [Rows.uptoBulkAll, bulkAll, bulk_same d, bulkAll_same r]
theorem bulkEntries_same {H : Type} : ∀ l : List (Lit × DataW H), Rows.uptoBulkEntries l = bulkEntries l
  | [] => by simp [Rows.uptoBulkEntries, bulkEntries]
  | (.string b, d) :: r => by simp [Rows.uptoBulkEntries, Rows.uptoBulkEntry, bulkEntries, bulk, bulk_same d, bulkEntries_same r]; omega
  | (.bool _, d) :: r => by simp [Rows.uptoBulkEntries, Rows.uptoBulkEntry, bulkEntries, bulk, bulk_same d, bulkEntries_same r]; omega
  | (.int _ _, d) :: r => by simp [Rows.uptoBulkEntries, Rows.uptoBulkEntry, bulkEntries, bulk, bulk_same d, bulkEntries_same r]; omega
  | (.float _ _, d) :: r => by simp [Rows.uptoBulkEntries, Rows.uptoBulkEntry, bulkEntries, bulk, bulk_same d, bulkEntries_same r]; omega
  | (.nil, d) :: r => by simp [Rows.uptoBulkEntries, Rows.uptoBulkEntry, bulkEntries, bulk, bulk_same d, bulkEntries_same r]; omega
end

theorem keysOf_len (l : List Sm) : (keysOf l).length ≤ l.length := by
  induction l with
  | nil => simp [keysOf]
  | cons s l ih =>
    have h1 : (Go.Vc.keyOf s).length ≤ 1 := by unfold Go.Vc.keyOf; split <;> simp
    have h2 : keysOf (s :: l) = Go.Vc.keyOf s ++ keysOf l := by simp [keysOf]
    rw [h2, List.length_append, List.length_cons]; omega
theorem sum_take (l : List Nat) : ∀ i, (l.take i).sum ≤ l.sum := by
  induction l with
  | nil => simp
  | cons x l ih =>
    intro i
    cases i with
    | zero => simp
    | succ i => have := ih i; simp only [List.take_succ_cons, List.sum_cons]; omega
theorem keysTo_len (ps : List Pt) (cs : List Int) : ∀ i, (keysTo ps cs i).length ≤ ((ps.map fun p => p.sm.length).take i).sum := by
  intro i
  induction i with
  | zero => simp [keysTo]
  | succ i ih =>
    rw [keysTo, List.length_append, List.take_add_one, List.sum_append]
    have h1 : (keysAt ps cs i).length ≤ ((ps.map fun p => p.sm.length)[i]?.toList).sum := by
      unfold keysAt
      split
      · cases h : ps[i]? with
        | none => simp [keysOf, h]
        | some p => have := keysOf_len p.sm; simpa [h] using this
      · simp
    omega

theorem agg_of {v : Value} {cs : List Value} (h : v.cells.toList = cs) (hl : cs.length ≠ 1) : v = .agg ⟨cs⟩ := by
  subst h
  cases v <;> first | rfl | (exfalso; exact hl (by simp [Value.cells]))

theorem own : ownKnob Try.prog.godebug = none := by kernel_rfl
theorem kids : Kids Try.prog (· < Try.prog.types.size) := kids_rows (by kernel_rfl) (by kernel_rfl)
theorem full : ∀ t e, t < Try.prog.types.size → Try.prog.underlying t = some (.slice e) → 0 < Try.prog.cellsOf e := slices_full_of Try.prog (by kernel_rfl)

theorem small {H : Type} {l : List (DataW H)} (hk : Rows.uptoSmall H l = true) : bulkAll l ≤ 1048576 := by
  have h : Rows.uptoBulkAll l ≤ 1048576 := of_decide_eq_true hk
  rwa [bulkAll_same] at h

theorem contract (H : Type) (enc : TypeId × Value → H) (W : World) (args : Array Value) (ds gs : List (DataW H)) (before : List MemPlace)
    (hW : DataW.Whole enc Try.prog Try.f3.params.toList Rows.bloomNeedsSpec.vars false W args.toList ds gs before) (hk : Rows.uptoSmall H (ds ++ gs) = true) :
    Calls Try.prog 3 args W fun e W' => ∃ v, e = .returned v ∧ Rows.bloomNeedsSpec.post enc Try.prog Try.f3 false true false false W args v W' := by
  have hW' := hW
  obtain ⟨p, q, hA0, hV, rfl, hfz, hnd⟩ := hW
  have hA : DataW.TrodAll enc Try.prog W 0 (fun _ => true) true Try.f3.params.toList args.toList ds p := hA0
  rw [Try.params3] at hA
  obtain ⟨v0, vs0, d0, ds0, p0, q0, hargs, rfl, rfl, h0, r0⟩ := trodAll_cons hA
  obtain ⟨v1, vs1, d1, ds1, p1, q1, rfl, rfl, rfl, h1, r1⟩ := trodAll_cons r0
  obtain ⟨rfl, rfl, rfl⟩ := trodAll_nil r1
  obtain rfl : args = #[v0, v1] := by cases args; simp_all
  obtain ⟨rfl, rfl⟩ := trodVars_none hV
  have hbk := small hk
  simp only [List.append_nil, bulkAll] at hbk
  obtain ⟨n0, h0⟩ := h0
  obtain ⟨n1, h1⟩ := h1
  obtain ⟨X, e0, hcx, hdeep, hsum⟩ := open_cx (open_sel n0) h0 (by dsimp only; omega)
  obtain rfl := agg_of e0 (by simp [Cx.cells])
  obtain ⟨xs, m, -, -, hl4, hxl, hall⟩ := DataW.trod_array Try.underlying27 h1
  have hl4' : v1.cells.toList.length = 4 := hl4
  obtain ⟨f, hf, hfe⟩ : ∃ f : List Int, f.length = 4 ∧ v1.cells.toList = Go.Vc.W f := by
    generalize hcs : v1.cells.toList = cs at hall hl4'
    match cs, hl4' with
    | [u0, u1, u2, u3], _ =>
      have one : ∀ (i : Nat) (u : Value), i < 4 → [u0, u1, u2, u3][i]? = some u → ∃ z, u = .int .u64 z := by
        intro i u hi hu
        have h2 := hall i hi
        have hc2 : Try.prog.cellsOf 26 = 1 := by kernel_rfl
        have hix : i < xs.length := by omega
        have hiu : i < [u0, u1, u2, u3].length := by simpa using hi
        rw [hc2, Nat.mul_one, List.drop_eq_getElem_cons hiu, List.getElem?_eq_getElem hix] at h2
        rw [List.getElem?_eq_getElem hiu] at hu
        obtain ⟨z, e, -, -⟩ := open_int Try.underlying26 h2
        cases hu
        simp only [List.take_succ_cons, List.take_zero, List.cons.injEq, and_true] at e
        exact ⟨z, e⟩
      obtain ⟨z0, rfl⟩ := one 0 u0 (by omega) rfl
      obtain ⟨z1, rfl⟩ := one 1 u1 (by omega) rfl
      obtain ⟨z2, rfl⟩ := one 2 u2 (by omega) rfl
      obtain ⟨z3, rfl⟩ := one 3 u3 (by omega) rfl
      exact ⟨[z0, z1, z2, z3], rfl, rfl⟩
  obtain rfl := agg_of hfe (by simp [Go.Vc.W, hf])
  obtain ⟨xa, xn, xc, ba, bn, bc, ps, cs⟩ := X
  dsimp only at hcx hdeep hsum
  have hlaw := law_spec (allOf W) f hf xa ba xn xc bn bc n0 ps cs hcx hdeep (by have := keysTo_len ps cs bn; have := sum_take (ps.map fun p => p.sm.length) bn; omega)
  refine (hlaw.2 W (noneOf W) (good_all W)).mono ?_
  rintro e W' ⟨v, h', own', rfl, hle, ⟨rfl, rfl⟩, hG⟩
  refine ⟨_, rfl, post_true kids full ?_ rfl rfl Try.underlying4 hW' rfl hle hG⟩
  intro t ht
  rw [Try.params3] at ht
  have : t = 25 ∨ t = 27 := by simpa using ht
  rcases this with rfl | rfl <;> exact of_decide_eq_true (by kernel_rfl)

set_option maxRecDepth 100000 in
theorem lifted (os : Os) (started : os.Started) (H : Type) (enc : TypeId × Value → H) (F : Stop.Interp) :
    ReturnsInHanded {} Try.checked os 3 .any ((Rows.OpenSpec.upto Rows.bloomNeedsSpec).pre6 enc Try.prog Try.f3 Rows.bloomNeedsUptoRow.domain false) (((Rows.OpenSpec.upto Rows.bloomNeedsSpec).at F).post enc Try.prog Try.f3 false true false false) := by
  refine returnsInHanded_of_cond (C := Try.checked) (s := Rows.OpenSpec.upto Rows.bloomNeedsSpec) (k := Rows.uptoSmall) rfl own started (by kernel_rfl) Try.func3
    (OpenSpec.witness (enc := enc) (C := Try.checked) (s := Rows.OpenSpec.upto Rows.bloomNeedsSpec) (k := Rows.uptoSmall) rfl false ⟨#[], #[.agg #[.slice none 0 0, .slice none 0 0], .agg #[.int .u64 0, .int .u64 0, .int .u64 0, .int .u64 0]], []⟩ 8 (by kernel_rfl) (by kernel_rfl) (by kernel_rfl)
      (x := ([.agg [.nil, .nil], .agg [.lit (.int .u64 0), .lit (.int .u64 0), .lit (.int .u64 0), .lit (.int .u64 0)]], [], [])) (by kernel_rfl) rfl (by kernel_rfl)) ?_
  intro W base args ds gs before hval hW _ hk _
  exact contract H enc W args ds gs before hW hk

theorem proved : Rows.BloomNeedsUptoSaid :=
  OpenClaim.holds_of_cond 3 Try.f3 rfl rfl rfl rfl rfl rfl rfl ⟨rfl, rfl, rfl, rfl, rfl⟩ rfl rfl rfl rfl rfl (by kernel_rfl) Try.func3 (by kernel_rfl)
    (of_decide_eq_true (by kernel_rfl)) (by unfold Func.isWrapper; first | (rw [if_pos (by decide +kernel)]; kernel_rfl) | (rw [if_neg (by decide +kernel)]; exact ⟨rfl, rfl⟩))
    (fun os started H enc _ F => lifted os started H enc F)
end Go.Proofs.Ytblpfejciklenaa.bloomNeeds
#print axioms Go.Proofs.Ytblpfejciklenaa.bloomNeeds.proved
