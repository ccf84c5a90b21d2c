/- A part of the proof: contracts of functions that the statement reaches. No condition. -/
import Derived.Test.YtblpfejciklenaaVb
import Derived.Test.YtblpfejciklenaaProg
import Derived.Sort.LotD4
import Derived.Sort.LotC
import Derived.Sort.LotA
namespace Go.Vc
set_option linter.unusedSimpArgs false
open Go.Proofs
set_option linter.unusedVariables false
set_option maxRecDepth 20000

def U (l : List Int) : List Value := l.map (.int .u32)
theorem U_len (l : List Int) : (U l).length = l.length := by simp [U]

theorem HSl.getU {h : PHeap} {A : Option Addr} {n : Nat} {a : List Int} (s : HSl h 1 A n (U a)) {i : Nat} (hi : i < n) : ∃ ad x, A = some ad ∧ a[i]? = some x ∧ HCell h (ad.add (i * 1)) (.int .u32 x) := by
  obtain ⟨ad, v, e, hv, c⟩ := s.get1 hi
  simp only [U, List.getElem?_map, Option.map_eq_some_iff] at hv
  obtain ⟨x, hx, rfl⟩ := hv
  exact ⟨ad, x, e, hx, c⟩

theorem same_spec (h : PHeap) (A B : Option Addr) (n m ca cb : Nat) (a b : List Int) (ha : HSl h 1 A n (U a)) (hb : HSl h 1 B m (U b)) (hn : n ≤ 9223372036854775807) :
    Pure Try.prog 14 [.slice A n ca, .slice B m cb] h fun v h' => h' = h ∧ v = .bool (decide (a = b)) := by
  have hla : a.length = n := by have := ha.1; simpa [U] using this
  have hlb : b.length = m := by have := hb.1; simpa [U] using this
  refine Pure.of_wp (env := [(0, .v (.slice A n ca)), (1, .v (.slice B m cb))]) Try.func14 Try.call14 rfl rfl rfl ?_
  refine wp_br rfl (fun h1 => ?_) (fun h1 => ?_)
  · refine wp_ret0 rfl rfl ⟨rfl, rfl, ?_⟩
    dsimp only [retV]
    have : a ≠ b := by rintro rfl; simp at h1; omega
    simp [this]
  · have hnm : n = m := by simp at h1; omega
    subst hnm
    refine wp_for (fun i => i ≤ n ∧ a.take i = b.take i) (fun i => n - i) (fun i => [(0, .v (.slice A n ca)), (1, .v (.slice B n cb)), (11, .v (.slice A n ca)), (12, .v (.int .i64 n)), (13, .v (.int .i64 i))]) (fun _ => []) 0 rfl
      ⟨Nat.zero_le _, rfl⟩ rfl ⟨rfl, rfl, rfl, rfl, rfl, trivial⟩ ?_
    intro i hi again
    refine wp_br rfl (fun h2 => ?_) (fun h2 => ?_)
    · have hin : i < n := by simp at h2; omega
      obtain ⟨pa, x, rfl, hx, hpx⟩ := ha.getU hin
      obtain ⟨pb, y, rfl, hy, hpy⟩ := hb.getU hin
      refine wp_draw rfl rfl (by kernel_rfl) rfl ?_
      refine dq_idx _ rfl rfl (by omega) (by omega) ?_
      refine dq_load rfl (by exact hpx) ?_
      refine dq_idx _ rfl rfl (by omega) (by omega) ?_
      refine dq_load rfl (by exact hpy) ?_
      refine dq_done rfl ?_
      refine wp_br rfl (fun h3 => ?_) (fun h3 => ?_)
      · refine wp_ret0 rfl rfl ⟨rfl, rfl, ?_⟩
        dsimp only [retV]
        have : a ≠ b := by rintro rfl; rw [hx] at hy; simp at h3; cases hy; exact h3 rfl
        simp [this]
      · refine wp_again rfl (again (i + 1) ⟨hin, ?_⟩ (by omega)) ⟨rfl, rfl, rfl, rfl, eqI ?_, trivial⟩
        · rw [List.take_add_one, List.take_add_one, hi.2, hx, hy]
          simp at h3; rw [h3]
        · rw [wrap64 (by omega) (by omega)]; rfl
    · refine wp_ret0 rfl rfl ⟨rfl, rfl, ?_⟩
      dsimp only [retV]
      have hin : i = n := by simp at h2; omega
      have : a = b := by
        have := hi.2
        rw [hin, List.take_of_length_le (by omega), List.take_of_length_le (by omega)] at this
        exact this
      simp [this]
end Go.Vc
namespace Go.Vc
set_option linter.unusedSimpArgs false
open Go.Proofs Go.Lib
set_option linter.unusedVariables false
set_option maxRecDepth 20000

/-- One step of a name's number. -/
def mixF (x u : Int) : Int := IntKind.u32.wrap (bitsF BinOp.xor IntKind.u32 x (IntKind.u32.wrap u) * 16777619)
def keyF (k : Int) (l : List UInt8) : Int := l.foldl (fun x u => mixF x u.toNat) (mixF 2166136261 (IntKind.u8.wrap k))

theorem key1_spec (h : PHeap) (id : Nat) (nu : Bool) (x u : Int) :
    Chg Try.prog 88 [.int .u8 u, .pointer (some ⟨id, 0, none⟩)] h ⟨id, nu, true, .cells [.int .u32 x] 86⟩ fun v h' bd => h' = h ∧ bd = .cells [.int .u32 (mixF x u)] 86 := by
  refine Chg.of_wp (env := [(0, .v (.int .u8 u)), (1, .v (.pointer (some ⟨id, 0, none⟩)))]) Try.func88 Try.call88 rfl rfl rfl ?_
  refine wp_load_own 0 rfl rfl rfl rfl rfl rfl ?_
  refine wp_store_own 0 rfl rfl rfl rfl rfl rfl ?_
  exact wp_ret _ rfl rfl (List.Sublist.refl _) ⟨_, rfl, rfl, rfl⟩

theorem bytes_at {s : ByteArray} {i : Nat} (hi : i < s.size) : ∃ u, s[i]? = some u ∧ s.data.toList[i]? = some u := by
  refine ⟨s[i], by simp [hi], ?_⟩
  have : i < s.data.toList.length := by simpa using hi
  rw [List.getElem?_eq_getElem this]; rfl

theorem key_spec (h : PHeap) (k : Int) (s : ByteArray) (hs : s.size ≤ 9223372036854775807) : Pure Try.prog 50 [.int .i64 k, .string s] h fun v h' => h' = h ∧ v = .int .u32 (keyF k s.data.toList) := by
  refine Pure.of_wp (env := [(0, .v (.int .i64 k)), (1, .v (.string s))]) Try.func50 Try.call50 rfl rfl rfl ?_
  refine wp_alloc 0 rfl rfl fun b => ?_
  refine wp_chg 0 rfl rfl (key1_spec h b false _ _) ?_
  rintro v h' bd ow' hle ⟨rfl, rfl⟩ hb
  cases hb
  refine wp_for (fun i : Nat => i ≤ s.size) (fun i => s.size - i) (fun i => [(6, .v (.func (.func 88) ⟨[]⟩ ⟨[.pointer (some ⟨b, 0, none⟩)]⟩)), (5, .loc 0 0), (1, .v (.string s)), (14, .v (.int .i64 s.size)), (15, .v (.int .i64 i))])
    (fun i => [⟨b, false, true, .cells [.int .u32 ((s.data.toList.take i).foldl (fun x u => mixF x u.toNat) (mixF 2166136261 (IntKind.u8.wrap k)))] 86⟩]) 0 rfl (Nat.zero_le _) rfl ⟨rfl, rfl, rfl, rfl, rfl, trivial⟩ ?_
  intro i hi again
  refine wp_br rfl (fun h2 => ?_) (fun h2 => ?_)
  · have hin : i < s.size := by simp at h2; omega
    obtain ⟨u, hu, hu2⟩ := bytes_at hin
    refine wp_sidx u rfl rfl rfl rfl rfl rfl (by omega) (by exact hu) ?_
    refine wp_chg 0 rfl rfl (key1_spec h' b false _ _) ?_
    rintro v2 h2 bd2 ow2 hle2 ⟨rfl, rfl⟩ hb2
    cases hb2
    have w := again (i + 1) hin (by omega)
    rw [List.take_add_one, hu2] at w
    simp only [Option.toList_some, List.foldl_append, List.foldl_cons, List.foldl_nil] at w
    exact wp_again rfl w ⟨rfl, rfl, rfl, rfl, eqI (by rw [wrap64 (by omega) (by omega)]; rfl), trivial⟩
  · have hin : i = s.size := by simp at h2; omega
    subst hin
    refine wp_ret0 rfl rfl ⟨rfl, rfl, ?_⟩
    dsimp only [retV]
    rw [List.take_of_length_le (by simp)]
    rfl

theorem rkey_spec (h : PHeap) (k : Int) (s : ByteArray) (hs : s.size ≤ 100000000000000) : Pure Try.prog 51 [.int .i64 k, .string s] h fun v h' => h' = h ∧ v = .int .u32 (keyF k s.data.toList) := by
  refine Pure.of_wp (env := [(0, .v (.int .i64 k)), (1, .v (.string s))]) Try.func51 Try.call51 rfl rfl rfl ?_
  refine wp_bslice 0 rfl rfl rfl rfl rfl rfl rfl rfl rfl rfl rfl rfl fun b => ?_
  refine wp_apps [1, 5] rfl rfl rfl rfl rfl rfl rfl rfl rfl rfl rfl rfl (xs := [.int .u8 (IntKind.u8.wrap k)]) ⟨rfl, .inr ⟨rfl, rfl, Nat.le_refl _, (by decide), [], rfl, rfl⟩⟩ (by simp only [maxLen]; omega) (by omega) ?_
  intro B c ow' hown hb
  cases hb
  have hlen : ([Value.int .u8 (IntKind.u8.wrap k)] ++ strCells s).length = 1 + s.size := by simp [strCells_length]; omega
  refine wp_for (fun i : Nat => i ≤ 1 + s.size) (fun i => 1 + s.size - i) (fun i => [(12, .gs 0 (1 + s.size) c), (13, .v (.int .i64 (1 + s.size : Nat))), (14, .v (.int .i64 i)), (5, .v (.int .u32 (match i with | 0 => 2166136261 | i + 1 => keyF k (s.data.toList.take i))))])
    (fun i => [B]) 0 rfl (Nat.zero_le _) rfl ⟨rfl, rfl, rfl, rfl, trivial⟩ ?_
  intro i hi again
  refine wp_br rfl (fun h2 => ?_) (fun h2 => ?_)
  · have hin : i < 1 + s.size := by simp at h2; omega
    cases i with
    | zero =>
      obtain ⟨hl, hn, l, hb, hv⟩ := hown.at (i := 0) (v := .int .u8 (IntKind.u8.wrap k)) rfl
      refine wp_idxg rfl rfl hn (by omega) (by omega) ?_
      refine wp_loadx rfl rfl hl hb hv ?_
      refine wp_again rfl (again 1 (by omega) (by omega)) ⟨rfl, rfl, eqI (by rw [wrap64 (by omega) (by omega)]; rfl), rfl, trivial⟩
    | succ i =>
      obtain ⟨u, hu, hu2⟩ := bytes_at (s := s) (i := i) (by omega)
      obtain ⟨hl, hn, l, hb, hv⟩ := hown.at (i := i + 1) (v := .int .u8 u.toNat) (by
        rw [List.getElem?_append_right (by simp)]
        simp [strCells, hu2])
      refine wp_idxg rfl rfl hn (by omega) (by omega) ?_
      refine wp_loadx rfl rfl hl hb (at1 hv) ?_
      have w := again (i + 2) (by omega) (by omega)
      dsimp only at w
      rw [List.take_add_one, hu2] at w
      simp only [Option.toList_some, keyF, List.foldl_append, List.foldl_cons, List.foldl_nil] at w
      exact wp_again rfl w ⟨rfl, rfl, eqI (by rw [wrap64 (by omega) (by omega)]; rfl), rfl, trivial⟩
  · have hin : i = s.size + 1 := by simp at h2; omega
    subst hin
    refine wp_ret0 rfl rfl ⟨rfl, rfl, ?_⟩
    dsimp only [retV]
    rw [List.take_of_length_le (by simp)]
end Go.Vc
namespace Go.Vc
set_option linter.unusedSimpArgs false
open Go.Proofs Go.Lib
set_option linter.unusedVariables false
set_option maxRecDepth 20000

def W (l : List Int) : List Value := l.map (.int .u64)
/-- A filter with one bit. -/
def bitL (f : List Int) (n : Int) : List Int := f.set (n / 64).toNat (bitsF .or .u64 (f.getD (n / 64).toNat 0) (IntKind.u64.wrap (1 * 2 ^ (min (n.tmod 64).toNat 64))))
def addL (f : List Int) (k : Int) : List Int := bitL (bitL f (k % 256)) (k / 256 % 256)
theorem bitL_len (f : List Int) (n : Int) : (bitL f n).length = f.length := by simp [bitL]
theorem addL_len (f : List Int) (n : Int) : (addL f n).length = f.length := by simp [addL, bitL]

theorem four {f : List Int} (hf : f.length = 4) : ∃ a b c d, f = [a, b, c, d] := by
  match f, hf with
  | [a, b, c, d], _ => exact ⟨a, b, c, d, rfl⟩

theorem place {n : Int} (h0 : 0 ≤ n) (h1 : n < 256) : n / 64 = 0 ∨ n / 64 = 1 ∨ n / 64 = 2 ∨ n / 64 = 3 := by omega
theorem quo64 {n : Int} (h0 : 0 ≤ n) (h1 : n < 256) : IntKind.u32.wrap (n.tdiv 64) = n / 64 := by
  rw [Int.tdiv_eq_ediv_of_nonneg h0, wrapU32 (by omega) (by omega)]
theorem tmod64 {n : Int} (h0 : 0 ≤ n) : 0 ≤ n.tmod 64 := by
  rw [Int.tmod_eq_emod_of_nonneg h0]; omega

theorem bit_spec (h : PHeap) (f : List Int) (hf : f.length = 4) (n : Int) (h0 : 0 ≤ n) (h1 : n < 256) : Pure Try.prog 126 [.agg ⟨W f⟩, .int .u32 n] h fun v h' => h' = h ∧ v = .agg ⟨W (bitL f n)⟩ := by
  obtain ⟨a, b, c, d, rfl⟩ := four hf
  refine Pure.of_wp (env := [(0, .v (.agg ⟨[.int .u64 a, .int .u64 b, .int .u64 c, .int .u64 d]⟩)), (1, .v (.int .u32 n))]) Try.func126 Try.call126 rfl rfl rfl ?_
  refine wp_alloc 0 rfl rfl fun b => ?_
  refine wp_alloc 1 rfl rfl fun b => ?_
  refine wp_need rfl (by decide) ?_
  rw [quo64 h0 h1]
  rcases place h0 h1 with hj | hj | hj | hj <;> rw [bitL, hj]
  · refine wp_idxl 0 rfl rfl (by decide) ?_
    refine wp_need rfl (by decide) ?_
    refine wp_need rfl (tmod64 h0) ?_
    refine wp_idxl 0 rfl rfl (by decide) ?_
    exact wp_ret0 rfl rfl ⟨rfl, rfl, rfl⟩
  · refine wp_idxl 1 rfl rfl (by decide) ?_
    refine wp_need rfl (by decide) ?_
    refine wp_need rfl (tmod64 h0) ?_
    refine wp_idxl 1 rfl rfl (by decide) ?_
    exact wp_ret0 rfl rfl ⟨rfl, rfl, rfl⟩
  · refine wp_idxl 2 rfl rfl (by decide) ?_
    refine wp_need rfl (by decide) ?_
    refine wp_need rfl (tmod64 h0) ?_
    refine wp_idxl 2 rfl rfl (by decide) ?_
    exact wp_ret0 rfl rfl ⟨rfl, rfl, rfl⟩
  · refine wp_idxl 3 rfl rfl (by decide) ?_
    refine wp_need rfl (by decide) ?_
    refine wp_need rfl (tmod64 h0) ?_
    refine wp_idxl 3 rfl rfl (by decide) ?_
    exact wp_ret0 rfl rfl ⟨rfl, rfl, rfl⟩

theorem mod256 {k : Int} (h0 : 0 ≤ k) : k.tmod 256 = k % 256 := Int.tmod_eq_emod_of_nonneg h0
theorem div256 {k : Int} (h0 : 0 ≤ k) (h1 : k ≤ 4294967295) : IntKind.u32.wrap (k.tdiv 256) = k / 256 := by
  rw [Int.tdiv_eq_ediv_of_nonneg h0, wrapU32 (by omega) (by omega)]

theorem radd_spec (h : PHeap) (f : List Int) (hf : f.length = 4) (k : Int) (h0 : 0 ≤ k) (h1 : k ≤ 4294967295) : Pure Try.prog 93 [.agg ⟨W f⟩, .int .u32 k] h fun v h' => h' = h ∧ v = .agg ⟨W (addL f k)⟩ := by
  obtain ⟨a, b, c, d, rfl⟩ := four hf
  refine Pure.of_wp (env := [(0, .v (.agg ⟨[.int .u64 a, .int .u64 b, .int .u64 c, .int .u64 d]⟩)), (1, .v (.int .u32 k))]) Try.func93 Try.call93 rfl rfl rfl ?_
  refine wp_alloc 0 rfl rfl fun b0 => ?_
  refine wp_alloc 1 rfl rfl fun b1 => ?_
  refine wp_need rfl (by decide) ?_
  rw [mod256 h0]
  refine wp_pure rfl (bit_spec h [a, b, c, d] rfl (k % 256) (by omega) (by omega)) ?_
  rintro v h' hle ⟨rfl, rfl⟩
  refine wp_need rfl (by decide) ?_
  refine wp_need rfl (by decide) ?_
  rw [div256 h0 h1, mod256 (by omega)]
  refine wp_pure rfl (bit_spec h' _ (by simp [bitL_len]) (k / 256 % 256) (by omega) (by omega)) ?_
  rintro v h' hle ⟨rfl, rfl⟩
  obtain ⟨a', b', c', d', he⟩ := four (f := addL [a, b, c, d] k) (by simp [addL_len])
  rw [he, show bitL (bitL [a, b, c, d] (k % 256)) (k / 256 % 256) = [a', b', c', d'] from he]
  exact wp_ret0 rfl rfl ⟨rfl, rfl, rfl⟩

theorem add_spec (h : PHeap) (f : List Int) (hf : f.length = 4) (k : Int) (h0 : 0 ≤ k) (h1 : k ≤ 4294967295) : Pure Try.prog 92 [.agg ⟨W f⟩, .int .u32 k] h fun v h' => h' = h ∧ v = .agg ⟨W (addL f k)⟩ := by
  obtain ⟨a, b, c, d, rfl⟩ := four hf
  refine Pure.of_wp (env := [(0, .v (.agg ⟨[.int .u64 a, .int .u64 b, .int .u64 c, .int .u64 d]⟩)), (1, .v (.int .u32 k))]) Try.func92 Try.call92 rfl rfl rfl ?_
  refine wp_alloc 0 rfl rfl fun b0 => ?_
  refine wp_alloc 1 rfl rfl fun b1 => ?_
  refine wp_back rfl ?_
  refine wp_brT rfl (by decide) ?_
  refine wp_need rfl (by decide) ?_
  refine wp_need rfl (by decide) ?_
  rw [mod256 h0, quo64 (by omega) (by omega)]
  have hA : addL [a, b, c, d] k = bitL (bitL [a, b, c, d] (k % 256)) (k / 256 % 256) := rfl
  rw [hA]
  have d1 := place (n := k % 256) (by omega) (by omega)
  have d2 := place (n := k / 256 % 256) (by omega) (by omega)
  rcases d1 with hj | hj | hj | hj <;> rw [hj]
  all_goals
    first | refine wp_idxl 0 rfl rfl (by decide) ?_ | refine wp_idxl 1 rfl rfl (by decide) ?_ | refine wp_idxl 2 rfl rfl (by decide) ?_ | refine wp_idxl 3 rfl rfl (by decide) ?_
    refine wp_need rfl (by decide) ?_
    refine wp_need rfl (tmod64 (by omega)) ?_
    first | refine wp_idxl 0 rfl rfl (by decide) ?_ | refine wp_idxl 1 rfl rfl (by decide) ?_ | refine wp_idxl 2 rfl rfl (by decide) ?_ | refine wp_idxl 3 rfl rfl (by decide) ?_
    refine wp_need rfl (by decide) ?_
    rw [div256 h0 h1]
    refine wp_back rfl ?_
    refine wp_brT rfl (by decide) ?_
    refine wp_need rfl (by decide) ?_
    refine wp_need rfl (by decide) ?_
    rw [mod256 (k := k / 256) (by omega), quo64 (n := k / 256 % 256) (by omega) (by omega)]
  all_goals rcases d2 with hi | hi | hi | hi <;> rw [hi]
  all_goals
    first | refine wp_idxl 0 rfl rfl (by decide) ?_ | refine wp_idxl 1 rfl rfl (by decide) ?_ | refine wp_idxl 2 rfl rfl (by decide) ?_ | refine wp_idxl 3 rfl rfl (by decide) ?_
    refine wp_need rfl (by decide) ?_
    refine wp_need rfl (tmod64 (by omega)) ?_
    first | refine wp_idxl 0 rfl rfl (by decide) ?_ | refine wp_idxl 1 rfl rfl (by decide) ?_ | refine wp_idxl 2 rfl rfl (by decide) ?_ | refine wp_idxl 3 rfl rfl (by decide) ?_
    refine wp_need rfl (by decide) ?_
    refine wp_back rfl ?_
    refine wp_brF rfl (by decide) ?_
    refine wp_ret0 rfl rfl ⟨rfl, rfl, ?_⟩
    simp only [bitL, hj, hi]
    rfl
end Go.Vc
namespace Go.Vc
set_option linter.unusedSimpArgs false
open Go.Proofs Go.Lib
set_option linter.unusedVariables false
set_option maxRecDepth 20000

theorem getV {a : Act} {en : Env} {own : List Blk} {x : Operand} {v : Value} (hE : EnvOK a en own) (hx : getS en x = some (.v v)) : a.eval x = v := by
  have h1 := getS_ok hE hx
  simp only [conc, Option.some.injEq] at h1
  exact h1.symm

theorem has_spec (h : PHeap) (f : List Int) (hf : f.length = 4) (k : Int) (h0 : 0 ≤ k) (h1 : k ≤ 4294967295) : Pure Try.prog 56 [.agg ⟨W f⟩, .int .u32 k] h fun v h' => h' = h ∧ v = .bool (addL f k == f) := by
  obtain ⟨a, b, c, d, rfl⟩ := four hf
  obtain ⟨a', b', c', d', he⟩ := four (f := addL [a, b, c, d] k) (by simp [addL_len])
  refine Pure.of_wp (env := [(0, .v (.agg ⟨[.int .u64 a, .int .u64 b, .int .u64 c, .int .u64 d]⟩)), (1, .v (.int .u32 k))]) Try.func56 Try.call56 rfl rfl rfl ?_
  refine wp_alloc 0 rfl rfl fun b0 => ?_
  refine wp_draw rfl rfl (by kernel_rfl) rfl ?_
  refine dq_pure rfl ((add_spec h [a, b, c, d] rfl k h0 h1).mono fun v h' hle hv => hv.2) ?_
  rw [he]
  refine dq_raw rfl rfl (fun s hE R fr hG => exec_eq_arr4 rfl (by kernel_rfl) rfl rfl rfl rfl (getV hE rfl) (getV hE rfl) R) ?_
  refine dq_done rfl ?_
  exact wp_ret0 rfl rfl ⟨rfl, rfl, rfl⟩

theorem rhas_spec (h : PHeap) (f : List Int) (hf : f.length = 4) (k : Int) (h0 : 0 ≤ k) (h1 : k ≤ 4294967295) : Pure Try.prog 57 [.agg ⟨W f⟩, .int .u32 k] h fun v h' => h' = h ∧ v = .bool (addL f k == f) := by
  obtain ⟨a, b, c, d, rfl⟩ := four hf
  obtain ⟨a', b', c', d', he⟩ := four (f := addL [a, b, c, d] k) (by simp [addL_len])
  refine Pure.of_wp (env := [(0, .v (.agg ⟨[.int .u64 a, .int .u64 b, .int .u64 c, .int .u64 d]⟩)), (1, .v (.int .u32 k))]) Try.func57 Try.call57 rfl rfl rfl ?_
  refine wp_alloc 0 rfl rfl fun b0 => ?_
  refine wp_draw rfl rfl (by kernel_rfl) rfl ?_
  refine dq_pure rfl ((radd_spec h [a, b, c, d] rfl k h0 h1).mono fun v h' hle hv => hv.2) ?_
  rw [he]
  refine dq_raw rfl rfl (fun s hE R fr hG => exec_eq_arr4 rfl (by kernel_rfl) rfl rfl rfl rfl (getV hE rfl) (getV hE rfl) R) ?_
  refine dq_done rfl ?_
  exact wp_ret0 rfl rfl ⟨rfl, rfl, rfl⟩
end Go.Vc
namespace Go.Vc
set_option linter.unusedSimpArgs false
open Go.Proofs Go.Lib
set_option linter.unusedVariables false
set_option maxRecDepth 20000

/-- One round of putting a key into a row of keys: what is out, and is it done? -/
def putStep (k : Int) (s : List Int × Bool) (x : Int) : List Int × Bool :=
  let a := if decide (x ≥ k) && !s.2 then (s.1 ++ [k], true) else s
  if x != k then (a.1 ++ [x], a.2) else a
def putS (l : List Int) (k : Int) : List Int × Bool := l.foldl (putStep k) ([], false)
def putL (l : List Int) (k : Int) : List Int := if (putS l k).2 then (putS l k).1 else (putS l k).1 ++ [k]
theorem putStep_len (k : Int) (s : List Int × Bool) (x : Int) : (putStep k s x).1.length ≤ s.1.length + 2 := by
  unfold putStep; dsimp only; split <;> split <;> simp <;> omega
theorem putS_len (k : Int) : ∀ (l : List Int) (s : List Int × Bool), (l.foldl (putStep k) s).1.length ≤ s.1.length + 2 * l.length := by
  intro l
  induction l with
  | nil => intro s; simp
  | cons x l ih => intro s; have := ih (putStep k s x); have := putStep_len k s x; simp only [List.foldl_cons, List.length_cons]; omega

theorem put_spec (h : PHeap) (A : Option Addr) (n c : Nat) (l : List Int) (k : Int) (hl : HSl h 1 A n (U l)) (hn : n ≤ 1000000000) :
    Pure Try.prog 53 [.slice A n c, .int .u32 k] h fun v h' => ∃ A' c', v = .slice A' (putL l k).length c' ∧ HSl h' 1 A' (putL l k).length (U (putL l k)) := by
  have hll : l.length = n := by have := hl.1; simpa [U] using this
  refine Pure.of_wp (env := [(0, .v (.slice A n c)), (1, .v (.int .u32 k))]) Try.func53 Try.call53 rfl rfl rfl ?_
  refine wp_loop (σ := Nat × Blk × Nat × Nat × List Int × Bool) (fun s => s.1 ≤ n ∧ OwnSl s.2.1 86 1 s.2.2.2.1 s.2.2.1 (U s.2.2.2.2.1) ∧ s.2.2.2.2 = (l.take s.1).foldl (putStep k) ([], false)) (fun s => n - s.1)
    (fun s => [(0, .v (.slice A n c)), (1, .v (.int .u32 k)), (5, .gs 0 s.2.2.2.1 s.2.2.1), (6, ofB s.2.2.2.2.2), (9, .v (.slice A n c)), (10, .v (.int .i64 n)), (11, .v (.int .i64 s.1))])
    (fun s => [s.2.1]) (fun _ => h) rfl ?_ (fun go => ?_)
  · rintro ⟨i, B, c1, m, out, dn⟩ ⟨hi, hB, hd⟩ again
    dsimp only at hi hB hd again ⊢
    have hm : out.length = m := by have := hB.1; simpa [U] using this
    have hlen : m ≤ 2 * n := by
      have := putS_len k (l.take i) ([], false)
      rw [← hd] at this; simp at this; omega
    refine wp_br rfl (fun h2 => ?_) (fun h2 => ?_)
    · have hin : i < n := by simp at h2; omega
      obtain ⟨pa, x, rfl, hx, hpx⟩ := hl.getU hin
      have hst : (l.take (i + 1)).foldl (putStep k) ([], false) = putStep k (out, dn) x := by
        rw [List.take_add_one, hx]; simp [hd]
      refine wp_idx _ rfl rfl (by omega) (by omega) ?_
      refine wp_load rfl hpx ?_
      cases dn with
      | true =>
        have hq0 : x ≠ k → putStep k (out, true) x = (out ++ [x], true) := fun h => by simp [putStep, h]
        have hq1 : x = k → putStep k (out, true) x = (out, true) := fun h => by simp [putStep, h]
        refine wp_br rfl (fun h3 => ?_) (fun h3 => ?_)
        all_goals
          refine wp_br rfl (fun h4 => ?_) (fun h4 => ?_)
          · have hq := hq0 (by simpa using h4)
            refine wp_bslice 1 rfl rfl rfl rfl rfl rfl rfl rfl rfl rfl rfl rfl fun b1 => ?_
            refine wp_app (size := 1) (bytes := 4) [0, 1, 5, 6, 8, 9, 10, 11] rfl rfl rfl rfl rfl rfl rfl rfl rfl rfl rfl rfl rfl rfl hB (Src.ofOwn (k := 1) (ys := [.int .u32 x]) rfl rfl fun j u hj => hj) (by simp [Value.oneCell']) (by simp only [maxLen]; omega) (by omega) ?_
            intro B1' c1' ow1' hB1' ho1
            cases ho1
            exact wp_againS (l := [_]) rfl (again (i + 1, B1', c1', _, out ++ [x], true) ⟨hin, by simpa [U] using hB1', by rw [hst, hq]⟩ (by dsimp only; omega)) ⟨rfl, rfl, rfl, rfl, rfl, rfl, eqI (by rw [wrap64 (by omega) (by omega)]; rfl), trivial⟩ rfl ⟨⟨_, rfl⟩, ⟨_, rfl⟩, ⟨_, rfl⟩, ⟨_, rfl⟩, ⟨_, rfl⟩, ⟨_, rfl⟩, ⟨_, rfl⟩, trivial⟩
          · have hq := hq1 (by simpa using h4)
            exact wp_againS (l := []) rfl (again (i + 1, B, c1, _, out, true) ⟨hin, by simpa [U] using hB, by rw [hst, hq]⟩ (by dsimp only; omega)) ⟨rfl, rfl, rfl, rfl, rfl, rfl, eqI (by rw [wrap64 (by omega) (by omega)]; rfl), trivial⟩ rfl ⟨⟨_, rfl⟩, ⟨_, rfl⟩, ⟨_, rfl⟩, ⟨_, rfl⟩, ⟨_, rfl⟩, ⟨_, rfl⟩, ⟨_, rfl⟩, trivial⟩
      | false =>
        refine wp_br rfl (fun h3 => ?_) (fun h3 => ?_)
        · have h3' : k ≤ x := by simpa using h3
          refine wp_bslice 1 rfl rfl rfl rfl rfl rfl rfl rfl rfl rfl rfl rfl fun b1 => ?_
          refine wp_app (size := 1) (bytes := 4) [0, 1, 5, 6, 8, 9, 10, 11] rfl rfl rfl rfl rfl rfl rfl rfl rfl rfl rfl rfl rfl rfl hB (Src.ofOwn (k := 1) (ys := [.int .u32 k]) rfl rfl fun j u hj => hj) (by simp [Value.oneCell']) (by simp only [maxLen]; omega) (by omega) ?_
          intro B1' c1' ow1' hB1' ho1
          cases ho1
          have hB2 : OwnSl B1' 86 1 (m + 1) c1' (U (out ++ [k])) := by simpa [U] using hB1'
          refine wp_br rfl (fun h4 => ?_) (fun h4 => ?_)
          · have hq : putStep k (out, false) x = (out ++ [k] ++ [x], true) := by simp at h4; simp [putStep, h4, h3']
            refine wp_bslice 2 rfl rfl rfl rfl rfl rfl rfl rfl rfl rfl rfl rfl fun b2 => ?_
            refine wp_app (size := 1) (bytes := 4) [0, 1, 5, 6, 8, 9, 10, 11] rfl rfl rfl rfl rfl rfl rfl rfl rfl rfl rfl rfl rfl rfl hB2 (Src.ofOwn (k := 2) (ys := [.int .u32 x]) rfl rfl fun j u hj => hj) (by simp [Value.oneCell']) (by simp only [maxLen]; omega) (by omega) ?_
            intro B2' c2' ow2' hB2' ho2
            cases ho2
            exact wp_againS (l := [_, _]) rfl (again (i + 1, B2', c2', _, out ++ [k] ++ [x], true) ⟨hin, by simpa [U] using hB2', by rw [hst, hq]⟩ (by dsimp only; omega)) ⟨rfl, rfl, rfl, rfl, rfl, rfl, eqI (by rw [wrap64 (by omega) (by omega)]; rfl), trivial⟩ rfl ⟨⟨_, rfl⟩, ⟨_, rfl⟩, ⟨_, rfl⟩, ⟨_, rfl⟩, ⟨_, rfl⟩, ⟨_, rfl⟩, ⟨_, rfl⟩, trivial⟩
          · have hq : putStep k (out, false) x = (out ++ [k], true) := by simp at h4; simp [putStep, h4, h3']
            exact wp_againS (l := [_]) rfl (again (i + 1, B1', c1', _, out ++ [k], true) ⟨hin, by simpa [U] using hB2, by rw [hst, hq]⟩ (by dsimp only; omega)) ⟨rfl, rfl, rfl, rfl, rfl, rfl, eqI (by rw [wrap64 (by omega) (by omega)]; rfl), trivial⟩ rfl ⟨⟨_, rfl⟩, ⟨_, rfl⟩, ⟨_, rfl⟩, ⟨_, rfl⟩, ⟨_, rfl⟩, ⟨_, rfl⟩, ⟨_, rfl⟩, trivial⟩
        · have h3' : ¬ k ≤ x := by simpa using h3
          refine wp_br rfl (fun h4 => ?_) (fun h4 => ?_)
          · have hq : putStep k (out, false) x = (out ++ [x], false) := by simp at h4; simp [putStep, h4, h3']
            refine wp_bslice 1 rfl rfl rfl rfl rfl rfl rfl rfl rfl rfl rfl rfl fun b1 => ?_
            refine wp_app (size := 1) (bytes := 4) [0, 1, 5, 6, 8, 9, 10, 11] rfl rfl rfl rfl rfl rfl rfl rfl rfl rfl rfl rfl rfl rfl hB (Src.ofOwn (k := 1) (ys := [.int .u32 x]) rfl rfl fun j u hj => hj) (by simp [Value.oneCell']) (by simp only [maxLen]; omega) (by omega) ?_
            intro B1' c1' ow1' hB1' ho1
            cases ho1
            exact wp_againS (l := [_]) rfl (again (i + 1, B1', c1', _, out ++ [x], false) ⟨hin, by simpa [U] using hB1', by rw [hst, hq]⟩ (by dsimp only; omega)) ⟨rfl, rfl, rfl, rfl, rfl, rfl, eqI (by rw [wrap64 (by omega) (by omega)]; rfl), trivial⟩ rfl ⟨⟨_, rfl⟩, ⟨_, rfl⟩, ⟨_, rfl⟩, ⟨_, rfl⟩, ⟨_, rfl⟩, ⟨_, rfl⟩, ⟨_, rfl⟩, trivial⟩
          · exact absurd (by simpa using h4) (fun (e : x = k) => h3' (by omega))
    · have hin : i = n := by simp at h2; omega
      have hS : putS l k = (out, dn) := by rw [putS, hd, hin, List.take_of_length_le (by omega)]
      cases dn with
      | true =>
        have hP : putL l k = out := by rw [putL, hS]; rfl
        refine wp_fsl 0 rfl rfl hB fun h' hle hs => ?_
        exact wp_ret0 rfl rfl ⟨rfl, nulAddr B, c1, by rw [hP, hm]; rfl, by rw [hP, hm]; exact hs⟩
      | false =>
        have hP : putL l k = out ++ [k] := by rw [putL, hS]; rfl
        refine wp_bslice 1 rfl rfl rfl rfl rfl rfl rfl rfl rfl rfl rfl rfl fun b1 => ?_
        refine wp_app (size := 1) (bytes := 4) [0, 1, 5, 6, 8, 9, 10, 11] rfl rfl rfl rfl rfl rfl rfl rfl rfl rfl rfl rfl rfl rfl hB (Src.ofOwn (k := 1) (ys := [.int .u32 k]) rfl rfl fun j u hj => hj) (by simp [Value.oneCell']) (by simp only [maxLen]; omega) (by omega) ?_
        intro B1' c1' ow1' hB1' ho1
        cases ho1
        refine wp_fsl 0 rfl rfl hB1' fun h' hle hs => ?_
        exact wp_ret0 rfl rfl ⟨rfl, nulAddr B1', c1', by rw [hP, List.length_append, hm]; rfl, by rw [hP, List.length_append, hm]; simpa [U] using hs⟩
  · refine wp_nil 5 0 rfl rfl ?_
    refine wp_to (go (0, ⟨0, true, false, .cells [] 0⟩, 0, 0, [], false) ⟨Nat.zero_le _, OwnSl.nil _ _ _ _, rfl⟩) ⟨rfl, rfl, rfl, rfl, rfl, rfl, rfl, trivial⟩
end Go.Vc
namespace Go.Vc
set_option linter.unusedSimpArgs false
open Go.Proofs Go.Lib
set_option linter.unusedVariables false
set_option maxRecDepth 20000

/-- A simple selector, as its cells. -/
structure Sm where
  kind : Int
  name : ByteArray
  op : Int
  val : ByteArray
  a : Int
  b : Int
  la : Option Addr
  ll : Nat
  lc : Nat
def Sm.cells (s : Sm) : List Value := [.int .i64 s.kind, .string s.name, .int .i64 s.op, .string s.val, .int .i64 s.a, .int .i64 s.b, .slice s.la s.ll s.lc]
def flat : List Sm → List Value
  | [] => []
  | s :: l => s.cells ++ flat l
structure Pt where
  addr : Option Addr
  len : Nat
  cap : Nat
  sm : List Sm
def Pt.val (p : Pt) : Value := .slice p.addr p.len p.cap

theorem flat_len (l : List Sm) : (flat l).length = l.length * 7 := by
  induction l with
  | nil => rfl
  | cons s l ih => simp [flat, ih, Sm.cells]; omega
theorem flat_at : ∀ {l : List Sm} {i : Nat} {s : Sm}, l[i]? = some s → ∀ j v, s.cells[j]? = some v → (flat l)[i * 7 + j]? = some v := by
  intro l
  induction l with
  | nil => intro i s h; simp at h
  | cons x l ih =>
    intro i s h j v hv
    have hj : j < 7 := (List.getElem?_eq_some_iff.1 hv).1
    cases i with
    | zero =>
      simp at h; subst h
      rw [flat, Nat.zero_mul, Nat.zero_add, List.getElem?_append_left (show j < x.cells.length from hj)]; exact hv
    | succ i =>
      simp at h
      rw [flat, List.getElem?_append_right (by simp [Sm.cells]; omega)]
      have := ih h j v hv
      rw [← this]; congr 1; simp [Sm.cells]; omega

theorem addr_addadd (a : Addr) (x y : Nat) : (a.add x).add y = a.add (x + y) := by
  unfold Addr.add
  split <;> split <;> split <;> simp_all <;> omega

theorem HSl.getSm {h : PHeap} {A : Option Addr} {n : Nat} {l : List Sm} (s : HSl h 7 A n (flat l)) {i : Nat} (hi : i < n) : ∃ ad x, A = some ad ∧ l[i]? = some x ∧ HCells h (ad.add (i * 7)) x.cells := by
  have hl := s.1
  rw [flat_len] at hl
  rcases s.2 with h0 | ⟨ad, e, c⟩
  · omega
  · have hlt : i < l.length := by omega
    refine ⟨ad, l[i], e, List.getElem?_eq_getElem hlt, fun j v hj => ?_⟩
    have := c (i * 7 + j) v (flat_at (List.getElem?_eq_getElem hlt) j v hj)
    rw [addr_addadd]; exact this

/-- What a selector's memory is. -/
structure CxAt (h : PHeap) (A : Option Addr) (n : Nat) (B : Option Addr) (m : Nat) (ps : List Pt) (cs : List Int) : Prop where
  parts : HSl h 1 A n (ps.map Pt.val)
  combs : HSl h 1 B m (cs.map (.int .i64))
  small : n ≤ 1000000000 ∧ m ≤ 1000000000
  each : ∀ p ∈ ps, HSl h 7 p.addr p.len (flat p.sm) ∧ p.len ≤ 1000000000 ∧ ∀ s ∈ p.sm, s.name.size ≤ 1000000000

theorem CxAt.mono {h h' : PHeap} {A B : Option Addr} {n m : Nat} {ps : List Pt} {cs : List Int} (c : CxAt h A n B m ps cs) (hle : h.le h') : CxAt h' A n B m ps cs :=
  ⟨c.parts.mono hle, c.combs.mono hle, c.small, fun p hp => ⟨(c.each p hp).1.mono hle, (c.each p hp).2⟩⟩

def star : ByteArray := ⟨#[42]⟩
def keyOf (s : Sm) : List Int := if (s.kind = 1 ∧ s.name ≠ star) ∨ s.kind = 3 ∨ s.kind = 2 then [keyF s.kind s.name.data.toList] else []
def keysOf (l : List Sm) : List Int := l.flatMap keyOf
def keysAt (ps : List Pt) (cs : List Int) (i : Nat) : List Int := if cs[i]? = some 1 ∨ cs[i]? = some 2 then keysOf ((ps[i]?.map Pt.sm).getD []) else []
def keysTo (ps : List Pt) (cs : List Int) : Nat → List Int
  | 0 => []
  | i + 1 => keysTo ps cs i ++ keysAt ps cs i

def bit1 : Bool → Nat
  | true => 1
  | false => 0
theorem putStep_len1 (k : Int) (s : List Int × Bool) (x : Int) : (putStep k s x).1.length + bit1 s.2 ≤ s.1.length + 1 + bit1 (putStep k s x).2 := by
  obtain ⟨o, d⟩ := s
  unfold putStep; dsimp only
  cases d <;> by_cases h1 : x ≥ k <;> by_cases h2 : x = k <;> simp [h1, h2, bit1] <;> omega
theorem putS_len1 (k : Int) : ∀ (l : List Int) (s : List Int × Bool), (l.foldl (putStep k) s).1.length + bit1 s.2 ≤ s.1.length + l.length + bit1 (l.foldl (putStep k) s).2 := by
  intro l
  induction l with
  | nil => intro s; simp
  | cons x l ih => intro s; have := ih (putStep k s x); have := putStep_len1 k s x; simp only [List.foldl_cons, List.length_cons]; omega
theorem putL_len (l : List Int) (k : Int) : (putL l k).length ≤ l.length + 1 := by
  have h1 := putS_len1 k l ([], false)
  have h2 : (putS l k).1.length ≤ l.length + bit1 (putS l k).2 := by simpa [bit1, putS] using h1
  unfold putL
  cases hd : (putS l k).2 <;> rw [hd] at h2 <;> simp [bit1] at h2 ⊢ <;> omega
theorem puts_len : ∀ (ks l : List Int), (ks.foldl putL l).length ≤ l.length + ks.length := by
  intro ks
  induction ks with
  | nil => intro l; simp
  | cons k ks ih => intro l; have := ih (putL l k); have := putL_len l k; simp only [List.foldl_cons, List.length_cons]; omega

theorem HSl.getM {h : PHeap} {A : Option Addr} {n : Nat} {α : Type} {f : α → Value} {a : List α} (s : HSl h 1 A n (a.map f)) {i : Nat} (hi : i < n) : ∃ ad x, A = some ad ∧ a[i]? = some x ∧ HCell h (ad.add (i * 1)) (f x) := by
  obtain ⟨ad, v, e, hv, c⟩ := s.get1 hi
  simp only [List.getElem?_map, Option.map_eq_some_iff] at hv
  obtain ⟨x, hx, rfl⟩ := hv
  exact ⟨ad, x, e, hx, c⟩
theorem keysTo_mono (ps : List Pt) (cs : List Int) (i : Nat) : ∀ d, (keysTo ps cs i).length ≤ (keysTo ps cs (i + d)).length := by
  intro d
  induction d with
  | zero => exact Nat.le_refl _
  | succ d ih => rw [← Nat.add_assoc, keysTo, List.length_append]; omega

theorem keysOf_take (qs : List Sm) (j : Nat) : (keysOf (qs.take j)).length ≤ (keysOf qs).length := by
  have h1 : keysOf qs = keysOf (qs.take j) ++ keysOf (qs.drop j) := by
    unfold keysOf
    rw [← List.flatMap_append, List.take_append_drop]
  rw [h1, List.length_append]; omega
theorem keyOf_yes {s : Sm} (h : (s.kind = 1 ∧ s.name ≠ star) ∨ s.kind = 3 ∨ s.kind = 2) : keyOf s = [keyF s.kind s.name.data.toList] := by unfold keyOf; rw [if_pos h]
theorem keyOf_no {s : Sm} (h : ¬ ((s.kind = 1 ∧ s.name ≠ star) ∨ s.kind = 3 ∨ s.kind = 2)) : keyOf s = [] := by unfold keyOf; rw [if_neg h]

theorem rneeds_spec (h : PHeap) (A B : Option Addr) (n ca m cb : Nat) (ps : List Pt) (cs : List Int) (hc : CxAt h A n B m ps cs) (hk : (keysTo ps cs m).length ≤ 100000000) :
    Pure Try.prog 16 [.agg ⟨[.slice A n ca, .slice B m cb]⟩] h fun v h' => ∃ A' c' L, v = .slice A' L.length c' ∧ HSl h' 1 A' L.length (U L) ∧ L = if (m : Int) = n - 1 then (keysTo ps cs m).foldl putL [] else [] := by
  have hpl : ps.length = n := by have := hc.parts.1; simpa using this
  have hcl : cs.length = m := by have := hc.combs.1; simpa using this
  obtain ⟨hn, hm⟩ := hc.small
  refine Pure.of_wp (env := [(0, .v (.agg ⟨[.slice A n ca, .slice B m cb]⟩))]) Try.func16 Try.call16 rfl rfl rfl ?_
  refine wp_alloc 0 rfl rfl fun b0 => ?_
  refine wp_br rfl (fun h1 => ?_) (fun h1 => ?_)
  · refine wp_ret0 rfl rfl ⟨rfl, none, 0, [], rfl, ⟨rfl, .inl rfl⟩, ?_⟩
    rw [if_neg]
    rw [wrap64 (by omega) (by omega)] at h1
    simpa using h1
  · have hmn : (m : Int) = n - 1 := by
      rw [wrap64 (by omega) (by omega)] at h1
      simpa using h1
    refine wp_loop (σ := PHeap × Nat × Option Addr × Nat × List Int) (fun s => h.le s.1 ∧ s.2.1 ≤ m ∧ s.2.2.2.2 = (keysTo ps cs s.2.1).foldl putL [] ∧ HSl s.1 1 s.2.2.1 s.2.2.2.2.length (U s.2.2.2.2)) (fun s => m - s.2.1)
      (fun s => [(1, .loc 0 0), (3, .v (.slice s.2.2.1 s.2.2.2.2.length s.2.2.2.1)), (17, .v (.slice B m cb)), (18, .v (.int .i64 m)), (19, .v (.int .i64 s.2.1))])
      (fun s => [⟨b0, false, true, .cells [.slice A n ca, .slice B m cb] 25⟩]) (fun s => s.1) rfl ?_ (fun go => ?_)
    · rintro ⟨g, i, A2, c2, L⟩ ⟨hle2, hi, hL, hs⟩ again
      dsimp only at hle2 hi hL hs again ⊢
      refine wp_br rfl (fun h2 => ?_) (fun h2 => ?_)
      · have hin : i < m := by simp at h2; omega
        obtain ⟨pb, x, rfl, hx, hpx⟩ := (hc.combs.mono hle2).getM hin
        obtain ⟨pa, ⟨qa, ql, qc, qs⟩, rfl, hp, hpp⟩ := (hc.parts.mono hle2).getM (i := i) (by omega)
        obtain ⟨hsm, hql, hnm⟩ := hc.each _ (List.mem_of_getElem? hp)
        dsimp only at hsm hql hnm
        have hsl : qs.length = ql := by have := hsm.1; rw [flat_len] at this; omega
        refine wp_idx _ rfl rfl (by omega) (by omega) ?_
        refine wp_load rfl hpx ?_
        have hlt := keysTo_mono ps cs (i + 1) (m - (i + 1))
        rw [show i + 1 + (m - (i + 1)) = m from by omega] at hlt
        refine wp_br rfl (fun h3 => wp_br rfl (fun h4 => ?_) (fun h4 => ?_)) (fun h3 => ?_)
        · have hno : keysAt ps cs i = [] := by
            unfold keysAt; rw [if_neg]; simp at h3 h4; simp [hx, h3, h4]
          exact wp_again rfl (again (g, i + 1, A2, c2, L) ⟨hle2, hin, by rw [hL, keysTo, hno, List.append_nil], hs⟩ (by dsimp only; omega)) ⟨rfl, rfl, rfl, rfl, eqI (by rw [wrap64 (by omega) (by omega)]; rfl), trivial⟩
        all_goals
          have hyes : keysAt ps cs i = keysOf qs := by
            unfold keysAt; rw [if_pos (by first | (simp at h4; simp [hx, h4]) | (simp at h3; simp [hx, h3])), hp]; rfl
          have hlen3 : (keysTo ps cs i).length + (keysOf qs).length ≤ 100000000 := by
            rw [keysTo, List.length_append, hyes] at hlt; omega
          refine wp_idx _ rfl rfl (by omega) (by omega) ?_
          refine wp_load rfl hpp ?_
          refine wp_loop (σ := PHeap × Nat × Option Addr × Nat × List Int) (fun s => g.le s.1 ∧ s.2.1 ≤ ql ∧ s.2.2.2.2 = (keysOf (qs.take s.2.1)).foldl putL L ∧ HSl s.1 1 s.2.2.1 s.2.2.2.2.length (U s.2.2.2.2)) (fun s => ql - s.2.1)
            (fun s => [(1, .loc 0 0), (3, .v (.slice s.2.2.1 s.2.2.2.2.length s.2.2.2.1)), (17, .v (.slice (some pb) m cb)), (18, .v (.int .i64 m)), (19, .v (.int .i64 i)), (34, .v (.slice qa ql qc)), (35, .v (.int .i64 ql)), (36, .v (.int .i64 s.2.1))])
            (fun s => [⟨b0, false, true, .cells [.slice (some pa) n ca, .slice (some pb) m cb] 25⟩]) (fun s => s.1) rfl ?_ (fun go => ?_)
          · rintro ⟨g3, j, A3, c3, L3⟩ ⟨hle3, hj, hL3, hs3⟩ again3
            dsimp only at hle3 hj hL3 hs3 again3 ⊢
            refine wp_br rfl (fun h5 => ?_) (fun h5 => ?_)
            · have hjn : j < ql := by simp at h5; omega
              obtain ⟨pq, sm, rfl, hsx, hsc⟩ := (hsm.mono (hle2.trans hle3)).getSm hjn
              have hnsz := hnm sm (List.mem_of_getElem? hsx)
              have htk : keysOf (qs.take (j + 1)) = keysOf (qs.take j) ++ keyOf sm := by
                rw [List.take_add_one, hsx]; simp [keysOf]
              have hL3len : L3.length ≤ 200000000 := by
                have e1 := puts_len (keysOf (qs.take j)) L
                have e2 := puts_len (keysTo ps cs i) []
                rw [← hL3] at e1; rw [← hL] at e2
                have e3 := keysOf_take qs j
                simp only [List.length_nil] at e2; omega
              obtain ⟨kd, nm, so, sv, sa, sb, la, ll, lc⟩ := sm
              refine wp_idx _ rfl rfl (by omega) (by omega) ?_
              refine wp_loads rfl (vs := [.int .i64 kd, .string nm, .int .i64 so, .string sv, .int .i64 sa, .int .i64 sb, .slice la ll lc]) rfl hsc ?_
              refine wp_alloc 1 rfl rfl fun b1 => ?_
              refine wp_br rfl (fun k1 => ?_) (fun k1 => ?_)
              · have e1 : kd = 1 := by simpa using k1
                refine wp_br rfl (fun k2 => ?_) (fun k2 => ?_)
                · have hky : keyOf ⟨kd, nm, so, sv, sa, sb, la, ll, lc⟩ = [keyF kd nm.data.toList] := keyOf_yes (by left; exact ⟨e1, by simpa [star] using k2⟩)
                  refine wp_pure rfl (rkey_spec g3 kd nm (by dsimp only at hnsz; omega)) ?_
                  rintro vk gk hlek ⟨rfl, rfl⟩
                  refine wp_pure rfl (put_spec gk A3 L3.length c3 L3 (keyF kd nm.data.toList) hs3 (by omega)) ?_
                  rintro vp g4 hle4 ⟨A4, c4, rfl, hs4⟩
                  refine wp_againS (l := [_]) rfl (again3 (g4, j + 1, A4, c4, putL L3 (keyF kd nm.data.toList)) ⟨hle3.trans hle4, hjn, by rw [htk, List.foldl_append, ← hL3, hky]; rfl, hs4⟩ (by dsimp only; omega)) ⟨rfl, rfl, rfl, rfl, rfl, rfl, rfl, eqI (by rw [wrap64 (by omega) (by omega)]; rfl), trivial⟩ rfl ⟨⟨_, rfl⟩, ⟨_, rfl⟩, ⟨_, rfl⟩, ⟨_, rfl⟩, ⟨_, rfl⟩, ⟨_, rfl⟩, ⟨_, rfl⟩, ⟨_, rfl⟩, trivial⟩
                · refine wp_br rfl (fun k3 => ?_) (fun k3 => ?_)
                  · exact absurd e1 (by simp at k3; omega)
                  · refine wp_br rfl (fun k4 => ?_) (fun k4 => ?_)
                    · exact absurd e1 (by simp at k4; omega)
                    · have hky : keyOf ⟨kd, nm, so, sv, sa, sb, la, ll, lc⟩ = [] := keyOf_no (by simp at k2 k3 k4; simp [k2, k3, k4, star])
                      refine wp_againS (l := [_]) rfl (again3 (g3, j + 1, A3, c3, L3) ⟨hle3, hjn, by rw [htk, List.foldl_append, ← hL3, hky]; rfl, hs3⟩ (by dsimp only; omega)) ⟨rfl, rfl, rfl, rfl, rfl, rfl, rfl, eqI (by rw [wrap64 (by omega) (by omega)]; rfl), trivial⟩ rfl ⟨⟨_, rfl⟩, ⟨_, rfl⟩, ⟨_, rfl⟩, ⟨_, rfl⟩, ⟨_, rfl⟩, ⟨_, rfl⟩, ⟨_, rfl⟩, ⟨_, rfl⟩, trivial⟩
              · have e1 : kd ≠ 1 := by simpa using k1
                refine wp_br rfl (fun k3 => ?_) (fun k3 => ?_)
                · have hky : keyOf ⟨kd, nm, so, sv, sa, sb, la, ll, lc⟩ = [keyF kd nm.data.toList] := keyOf_yes (by right; left; simpa using k3)
                  refine wp_pure rfl (rkey_spec g3 kd nm (by dsimp only at hnsz; omega)) ?_
                  rintro vk gk hlek ⟨rfl, rfl⟩
                  refine wp_pure rfl (put_spec gk A3 L3.length c3 L3 (keyF kd nm.data.toList) hs3 (by omega)) ?_
                  rintro vp g4 hle4 ⟨A4, c4, rfl, hs4⟩
                  refine wp_againS (l := [_]) rfl (again3 (g4, j + 1, A4, c4, putL L3 (keyF kd nm.data.toList)) ⟨hle3.trans hle4, hjn, by rw [htk, List.foldl_append, ← hL3, hky]; rfl, hs4⟩ (by dsimp only; omega)) ⟨rfl, rfl, rfl, rfl, rfl, rfl, rfl, eqI (by rw [wrap64 (by omega) (by omega)]; rfl), trivial⟩ rfl ⟨⟨_, rfl⟩, ⟨_, rfl⟩, ⟨_, rfl⟩, ⟨_, rfl⟩, ⟨_, rfl⟩, ⟨_, rfl⟩, ⟨_, rfl⟩, ⟨_, rfl⟩, trivial⟩
                · refine wp_br rfl (fun k4 => ?_) (fun k4 => ?_)
                  · have hky : keyOf ⟨kd, nm, so, sv, sa, sb, la, ll, lc⟩ = [keyF kd nm.data.toList] := keyOf_yes (by right; right; simpa using k4)
                    refine wp_pure rfl (rkey_spec g3 kd nm (by dsimp only at hnsz; omega)) ?_
                    rintro vk gk hlek ⟨rfl, rfl⟩
                    refine wp_pure rfl (put_spec gk A3 L3.length c3 L3 (keyF kd nm.data.toList) hs3 (by omega)) ?_
                    rintro vp g4 hle4 ⟨A4, c4, rfl, hs4⟩
                    refine wp_againS (l := [_]) rfl (again3 (g4, j + 1, A4, c4, putL L3 (keyF kd nm.data.toList)) ⟨hle3.trans hle4, hjn, by rw [htk, List.foldl_append, ← hL3, hky]; rfl, hs4⟩ (by dsimp only; omega)) ⟨rfl, rfl, rfl, rfl, rfl, rfl, rfl, eqI (by rw [wrap64 (by omega) (by omega)]; rfl), trivial⟩ rfl ⟨⟨_, rfl⟩, ⟨_, rfl⟩, ⟨_, rfl⟩, ⟨_, rfl⟩, ⟨_, rfl⟩, ⟨_, rfl⟩, ⟨_, rfl⟩, ⟨_, rfl⟩, trivial⟩
                  · have hky : keyOf ⟨kd, nm, so, sv, sa, sb, la, ll, lc⟩ = [] := keyOf_no (by simp at k3 k4; simp [e1, k3, k4])
                    refine wp_againS (l := [_]) rfl (again3 (g3, j + 1, A3, c3, L3) ⟨hle3, hjn, by rw [htk, List.foldl_append, ← hL3, hky]; rfl, hs3⟩ (by dsimp only; omega)) ⟨rfl, rfl, rfl, rfl, rfl, rfl, rfl, eqI (by rw [wrap64 (by omega) (by omega)]; rfl), trivial⟩ rfl ⟨⟨_, rfl⟩, ⟨_, rfl⟩, ⟨_, rfl⟩, ⟨_, rfl⟩, ⟨_, rfl⟩, ⟨_, rfl⟩, ⟨_, rfl⟩, ⟨_, rfl⟩, trivial⟩
            · have hjn : j = ql := by simp at h5; omega
              refine wp_again rfl (again (g3, i + 1, A3, c3, L3) ⟨hle2.trans hle3, hin, ?_, hs3⟩ (by dsimp only; omega)) ⟨rfl, rfl, rfl, rfl, eqI (by rw [wrap64 (by omega) (by omega)]; rfl), trivial⟩
              rw [hL3, hjn, List.take_of_length_le (by omega), hL, keysTo, hyes, List.foldl_append]
          · exact wp_to (go (g, 0, A2, c2, L) ⟨.refl g, Nat.zero_le _, by simp [keysOf], hs⟩) ⟨rfl, rfl, rfl, rfl, rfl, rfl, rfl, rfl, trivial⟩
      · have hin : i = m := by simp at h2; omega
        refine wp_ret0 rfl rfl ⟨rfl, A2, c2, L, rfl, hs, ?_⟩
        rw [if_pos hmn, hL, hin]
    · exact wp_to (go (h, 0, none, 0, []) ⟨.refl h, Nat.zero_le _, rfl, ⟨rfl, .inl rfl⟩⟩) ⟨rfl, rfl, rfl, rfl, rfl, trivial⟩
end Go.Vc
namespace Go.Vc
set_option linter.unusedSimpArgs false
open Go.Proofs Go.Lib Go.Sort
set_option linter.unusedVariables false
set_option maxRecDepth 20000

theorem isNaN_spec (h : PHeap) (x : Int) : Pure Try.prog 159 [.int .u32 x] h fun v h' => h' = h ∧ v = .bool false := by
  refine Pure.of_wp (env := [(0, .v (.int .u32 x))]) Try.func159 Try.call159 rfl rfl rfl ?_
  exact wp_ret0 rfl rfl ⟨rfl, rfl, by dsimp only [retV]; simp⟩

theorem less_spec (h : PHeap) (x y : Int) : Pure Try.prog 144 [.int .u32 x, .int .u32 y] h fun v h' => h' = h ∧ v = .bool (ltInt x y) := by
  refine Pure.of_wp (env := [(0, .v (.int .u32 x)), (1, .v (.int .u32 y))]) Try.func144 Try.call144 rfl rfl rfl ?_
  refine wp_pure rfl (isNaN_spec h x) ?_
  rintro v h1 hle ⟨rfl, rfl⟩
  refine wp_brF rfl rfl ?_
  exact wp_ret0 rfl rfl ⟨rfl, rfl, rfl⟩

theorem lessQ (h : PHeap) (x y : Int) : Pure Try.prog 144 [.int .u32 x, .int .u32 y] h fun v _ => v = .bool (ltInt x y) := (less_spec h x y).mono fun v h' hle hv => hv.2

theorem OwnSl.atU {B : Blk} {n c : Nat} {d : Array Int} (o : OwnSl B 86 1 n c (U d.toList)) {i : Nat} (hi : i < n) : B.live = true ∧ B.nul = false ∧ ∃ l, B.body = .cells l 86 ∧ l[(i : Int).toNat * 1]? = some (.int .u32 d[i]!) := by
  have hs : d.size = n := by have := o.1; simpa [U] using this
  obtain ⟨h1, h2, l, h3, h4⟩ := o.at (i := i) (v := .int .u32 d[i]!) (by simp [U, List.getElem?_map]; simp [getElem!_pos d i (by omega), hs, hi])
  exact ⟨h1, h2, l, h3, at1 h4⟩

theorem U_swp {d : Array Int} {i j : Nat} (hi : i < d.size) (hj : j < d.size) : ((U d.toList).set i (.int .u32 d[j]!)).set j (.int .u32 d[i]!) = U (swp d i j).toList := by
  simp [U, swp, List.map_set]
end Go.Vc
namespace Go.Vc
set_option linter.unusedSimpArgs false
open Go.Proofs Go.Lib Go.Sort
set_option linter.unusedVariables false
set_option maxRecDepth 20000

theorem ins_spec (h : PHeap) (B : Blk) (n c : Nat) (d : Array Int) (hB : OwnSl B 86 1 n c (U d.toList)) (hn : n ≤ 1000000000) (a b : Nat) (hab : a ≤ b) (hb : b ≤ n) :
    Chg Try.prog 138 [.slice (nulAddr B) n c, .int .i64 a, .int .i64 b] h B fun v h' bd => h' = h ∧ OwnSl ⟨B.id, B.nul, B.live, bd⟩ 86 1 n c (U (insertionSort ltInt d a b).toList) := by
  have hs : ∀ {d : Array Int} {bd : Body}, OwnSl ⟨B.id, B.nul, B.live, bd⟩ 86 1 n c (U d.toList) → d.size = n := fun {d bd} o => by have := o.1; simpa [U] using this
  refine Chg.of_wps (env := [(0, .gs 0 n c), (1, .v (.int .i64 a)), (2, .v (.int .i64 b))]) [.gs 0 n c, .v (.int .i64 a), .v (.int .i64 b)] Try.func138 Try.call138 rfl rfl rfl rfl ?_
  refine wp_for (σ := Nat × Body × Array Int) (fun s => a < s.1 ∧ (s.1 ≤ b ∨ s.1 = a + 1) ∧ OwnSl ⟨B.id, B.nul, B.live, s.2.1⟩ 86 1 n c (U s.2.2.toList) ∧ insOuter ltInt a b s.1 s.2.2 = insertionSort ltInt d a b) (fun s => b + 1 - s.1)
    (fun s => [(0, .gs 0 n c), (1, .v (.int .i64 a)), (2, .v (.int .i64 b)), (6, .v (.int .i64 s.1))]) (fun s => [⟨B.id, B.nul, B.live, s.2.1⟩]) (a + 1, B.body, d) rfl ⟨by omega, .inr rfl, hB, rfl⟩ rfl ⟨rfl, rfl, rfl, eqI (wrap64 (by omega) (by omega)), trivial⟩ ?_
  rintro ⟨i, bd, e⟩ ⟨hai, hib, ho, hgo⟩ again
  dsimp only at hai hib ho hgo again ⊢
  refine wp_br rfl (fun h1 => ?_) (fun h1 => ?_)
  · have hi : i < b := by simp at h1; omega
    refine wp_for (σ := Nat × Body × Array Int) (fun s => s.1 ≤ i ∧ a ≤ s.1 ∧ OwnSl ⟨B.id, B.nul, B.live, s.2.1⟩ 86 1 n c (U s.2.2.toList) ∧ insInner ltInt a s.1 s.2.2 = insInner ltInt a i e) (fun s => s.1)
      (fun s => [(0, .gs 0 n c), (1, .v (.int .i64 a)), (2, .v (.int .i64 b)), (6, .v (.int .i64 i)), (7, .v (.int .i64 s.1))]) (fun s => [⟨B.id, B.nul, B.live, s.2.1⟩]) (i, bd, e) rfl ⟨Nat.le_refl _, by omega, ho, rfl⟩ rfl ⟨rfl, rfl, rfl, rfl, rfl, trivial⟩ ?_
    rintro ⟨j, bd2, e2⟩ ⟨hji, haj, ho2, hgo2⟩ again2
    dsimp only at hji haj ho2 hgo2 again2 ⊢
    refine wp_draw rfl rfl (by kernel_rfl) rfl ?_
    by_cases hja : a < j
    · obtain ⟨j, rfl⟩ : ∃ k, j = k + 1 := ⟨j - 1, by omega⟩
      have hsz := hs ho2
      obtain ⟨q1, q2, l1, q3, q4⟩ := ho2.atU (i := j + 1) (by omega)
      obtain ⟨r1, r2, l2, r3, r4⟩ := ho2.atU (i := j) (by omega)
      refine dq_brT rfl (by simp; omega) ?_
      refine dq_idxgn (j + 1) rfl rfl q2 rfl (by omega) ?_
      refine dq_loadx rfl rfl q1 q3 q4 ?_
      refine dq_idxgn j rfl rfl q2 (by simp only [wrapE]; omega) (by omega) ?_
      refine dq_loadx rfl rfl r1 r3 r4 ?_
      refine dq_pure rfl (lessQ h _ _) ?_
      refine dq_done rfl ?_
      refine wp_br rfl (fun h2 => ?_) (fun h2 => ?_)
      · have hstep : insInner ltInt a (j + 1) e2 = insInner ltInt a j (swp e2 (j + 1) j) := by
          rw [insInner]; simp [h2]; omega
        refine wp_drawn rfl rfl rfl [0, 1, 2, 3, 4, 5, 6, 7, 8, 9, 10, 11, 12, 13, 14, 15, 16, 17] (by kernel_rfl) ?_
        refine dn_idxgn j rfl rfl q2 (by simp only [wrapE]; omega) (by omega) ?_
        refine dn_loadx rfl rfl r1 r3 r4 ?_
        refine dn_idxgn (j + 1) rfl rfl q2 rfl (by omega) ?_
        refine dn_loadx rfl rfl q1 q3 q4 ?_
        refine dn_idxgn (j + 1) rfl rfl q2 rfl (by omega) ?_
        refine dn_put (j + 1) rfl rfl rfl rfl ho2 (off1 _) (by omega) rfl rfl rfl ?_
        intro bd3 ow3 ho3 hw3
        cases hw3
        refine dn_idxgn j rfl rfl q2 (by simp only [wrapE]; omega) (by omega) ?_
        refine dn_put j rfl rfl rfl rfl ho3 (off1 _) (by omega) rfl rfl rfl ?_
        intro bd4 ow4 ho4 hw4
        cases hw4
        refine dn_done rfl ?_
        rw [U_swp (by omega) (by omega)] at ho4
        exact wp_again rfl (again2 (j, bd4, swp e2 (j + 1) j) ⟨by omega, by omega, ho4, by rw [← hgo2, hstep]⟩ (by dsimp only; omega)) ⟨rfl, rfl, rfl, rfl, eqI (by simp only [wrapE]; omega), trivial⟩
      · have hstep : insInner ltInt a (j + 1) e2 = e2 := by
          rw [insInner]; simp [h2]
        rw [insOuter, if_pos hi, ← hgo2, hstep] at hgo
        exact wp_again rfl (again (i + 1, bd2, e2) ⟨by omega, by omega, ho2, hgo⟩ (by dsimp only; omega)) ⟨rfl, rfl, rfl, eqI (by simp only [wrapE]; omega), trivial⟩
    · have hstep : insInner ltInt a j e2 = e2 := by
        cases j with
        | zero => rfl
        | succ j => rw [insInner]; simp; omega
      refine dq_brF rfl (by simp; omega) ?_
      refine dq_done rfl ?_
      rw [insOuter, if_pos hi, ← hgo2, hstep] at hgo
      exact wp_again rfl (again (i + 1, bd2, e2) ⟨by omega, by omega, ho2, hgo⟩ (by dsimp only; omega)) ⟨rfl, rfl, rfl, eqI (by simp only [wrapE]; omega), trivial⟩
  · have hi : ¬ i < b := by simp at h1; omega
    rw [insOuter, if_neg hi] at hgo
    subst hgo
    exact wp_ret _ rfl rfl (List.Sublist.refl _) ⟨bd, rfl, rfl, ho⟩
end Go.Vc
namespace Go.Vc
set_option linter.unusedSimpArgs false
open Go.Proofs Go.Lib Go.Sort
set_option linter.unusedVariables false
set_option maxRecDepth 20000

theorem OwnSl.szU {B : Blk} {n c : Nat} {d : Array Int} (o : OwnSl B 86 1 n c (U d.toList)) : d.size = n := by have := o.1; simpa [U] using this

theorem sift_spec (h : PHeap) (B : Blk) (n c : Nat) (d : Array Int) (hB : OwnSl B 86 1 n c (U d.toList)) (hn : n ≤ 1000000000) (root hi first : Nat) (hr : root ≤ n) (hf : first + hi ≤ n) :
    Chg Try.prog 154 [.slice (nulAddr B) n c, .int .i64 root, .int .i64 hi, .int .i64 first] h B fun v h' bd => h' = h ∧ OwnSl ⟨B.id, B.nul, B.live, bd⟩ 86 1 n c (U (siftDown ltInt hi first root d).toList) := by
  refine Chg.of_wps (env := [(0, .gs 0 n c), (1, .v (.int .i64 root)), (2, .v (.int .i64 hi)), (3, .v (.int .i64 first))]) [.gs 0 n c, .v (.int .i64 root), .v (.int .i64 hi), .v (.int .i64 first)] Try.func154 Try.call154 rfl rfl rfl rfl ?_
  refine wp_for (σ := Nat × Body × Array Int) (fun s => s.1 ≤ n ∧ OwnSl ⟨B.id, B.nul, B.live, s.2.1⟩ 86 1 n c (U s.2.2.toList) ∧ siftDown ltInt hi first s.1 s.2.2 = siftDown ltInt hi first root d) (fun s => n - s.1)
    (fun s => [(0, .gs 0 n c), (2, .v (.int .i64 hi)), (3, .v (.int .i64 first)), (8, .v (.int .i64 s.1))]) (fun s => [⟨B.id, B.nul, B.live, s.2.1⟩]) (root, B.body, d) rfl ⟨hr, hB, rfl⟩ rfl ⟨rfl, rfl, rfl, rfl, trivial⟩ ?_
  rintro ⟨r, bd, e⟩ ⟨hrn, ho, hgo⟩ again
  dsimp only at hrn ho hgo again ⊢
  have w1 : IntKind.wrap .i64 (IntKind.wrap .i64 (2 * (r : Int)) + 1) = ((2 * r + 1 : Nat) : Int) := by simp only [wrapE]; omega
  have w2 : IntKind.wrap .i64 (((2 * r + 1 : Nat) : Int) + 1) = ((2 * r + 2 : Nat) : Int) := by simp only [wrapE]; omega
  have hsz := ho.szU
  refine wp_br rfl (fun h1 => ?_) (fun h1 => ?_)
  · rw [w1] at h1
    have h2 : 2 * r + 1 ≥ hi := by simp at h1; omega
    rw [siftDown, dif_pos h2] at hgo
    subst hgo
    exact wp_ret _ rfl rfl (List.Sublist.refl _) ⟨bd, rfl, rfl, ho⟩
  · rw [w1] at h1 ⊢
    have h2 : ¬ 2 * r + 1 ≥ hi := by simp at h1; omega
    rw [siftDown, dif_neg h2] at hgo
    obtain ⟨q1, q2, l1, q3, q4⟩ := ho.atU (i := first + r) (by omega)
    obtain ⟨r1, r2, l2, r3, r4⟩ := ho.atU (i := first + (2 * r + 1)) (by omega)
    refine wp_draw rfl rfl (by kernel_rfl) rfl ?_
    by_cases h3 : 2 * r + 2 < hi
    · obtain ⟨s1, s2, l3, s3, s4⟩ := ho.atU (i := first + (2 * r + 2)) (by omega)
      refine dq_brT rfl (by rw [w2]; simp; omega) ?_
      refine dq_idxgn (first + (2 * r + 1)) rfl rfl q2 (by simp only [wrapE]; omega) (by omega) ?_
      refine dq_loadx rfl rfl r1 r3 r4 ?_
      refine dq_idxgn (first + (2 * r + 2)) rfl rfl q2 (by simp only [wrapE]; omega) (by omega) ?_
      refine dq_loadx rfl rfl s1 s3 s4 ?_
      refine dq_pure rfl (lessQ h _ _) ?_
      refine dq_done rfl ?_
      refine wp_br rfl (fun h4 => ?_) (fun h4 => ?_)
      · rw [if_pos (by simp only [Bool.and_eq_true, decide_eq_true_eq]; exact ⟨by omega, h4⟩)] at hgo
        refine wp_draw rfl rfl (by kernel_rfl) rfl ?_
        refine dq_idxgn (first + r) rfl rfl q2 (by simp only [wrapE]; omega) (by omega) ?_
        refine dq_loadx rfl rfl q1 q3 q4 ?_
        refine dq_idxgn (first + (2 * r + 2)) rfl rfl q2 (by simp only [wrapE]; omega) (by omega) ?_
        refine dq_loadx rfl rfl s1 s3 s4 ?_
        refine dq_pure rfl (lessQ h _ _) ?_
        refine dq_done rfl ?_
        refine wp_br rfl (fun h5 => ?_) (fun h5 => ?_)
        · rw [if_pos (by simpa using h5)] at hgo
          subst hgo
          exact wp_ret _ rfl rfl (List.Sublist.refl _) ⟨bd, rfl, rfl, ho⟩
        · rw [if_neg (by simpa using h5), dif_pos h3] at hgo
          refine wp_drawn rfl rfl rfl [0, 1, 2, 3, 4, 5, 6, 7, 8, 9, 10, 11, 12, 13, 14, 15, 16, 17, 18, 19, 20, 21, 22, 23] (by kernel_rfl) ?_
          refine dn_idxgn (first + (2 * r + 2)) rfl rfl q2 (by simp only [wrapE]; omega) (by omega) ?_
          refine dn_loadx rfl rfl s1 s3 s4 ?_
          refine dn_idxgn (first + r) rfl rfl q2 (by simp only [wrapE]; omega) (by omega) ?_
          refine dn_loadx rfl rfl q1 q3 q4 ?_
          refine dn_idxgn (first + r) rfl rfl q2 (by simp only [wrapE]; omega) (by omega) ?_
          refine dn_put (first + r) rfl rfl rfl rfl ho (off1 _) (by omega) rfl rfl rfl ?_
          intro bd3 ow3 ho3 hw3
          cases hw3
          refine dn_idxgn (first + (2 * r + 2)) rfl rfl q2 (by simp only [wrapE]; omega) (by omega) ?_
          refine dn_put (first + (2 * r + 2)) rfl rfl rfl rfl ho3 (off1 _) (by omega) rfl rfl rfl ?_
          intro bd4 ow4 ho4 hw4
          cases hw4
          refine dn_done rfl ?_
          rw [U_swp (by omega) (by omega)] at ho4
          exact wp_again rfl (again (2 * r + 2, bd4, _) ⟨by omega, ho4, hgo⟩ (by dsimp only; omega)) ⟨rfl, rfl, rfl, eqI (by simp only [wrapE]; omega), trivial⟩
      · rw [if_neg (by simp only [Bool.and_eq_true, decide_eq_true_eq, not_and]; intro _; rw [show first + (2 * r + 1) + 1 = first + (2 * r + 2) from by omega]; simpa using h4)] at hgo
        refine wp_draw rfl rfl (by kernel_rfl) rfl ?_
        refine dq_idxgn (first + r) rfl rfl q2 (by simp only [wrapE]; omega) (by omega) ?_
        refine dq_loadx rfl rfl q1 q3 q4 ?_
        refine dq_idxgn (first + (2 * r + 1)) rfl rfl q2 (by simp only [wrapE]; omega) (by omega) ?_
        refine dq_loadx rfl rfl r1 r3 r4 ?_
        refine dq_pure rfl (lessQ h _ _) ?_
        refine dq_done rfl ?_
        refine wp_br rfl (fun h5 => ?_) (fun h5 => ?_)
        · rw [if_pos (by simpa using h5)] at hgo
          subst hgo
          exact wp_ret _ rfl rfl (List.Sublist.refl _) ⟨bd, rfl, rfl, ho⟩
        · rw [if_neg (by simpa using h5)] at hgo
          refine wp_drawn rfl rfl rfl [0, 1, 2, 3, 4, 5, 6, 7, 8, 9, 10, 11, 12, 13, 14, 15, 16, 17, 18, 19, 20, 21, 22, 23] (by kernel_rfl) ?_
          refine dn_idxgn (first + (2 * r + 1)) rfl rfl q2 (by simp only [wrapE]; omega) (by omega) ?_
          refine dn_loadx rfl rfl r1 r3 r4 ?_
          refine dn_idxgn (first + r) rfl rfl q2 (by simp only [wrapE]; omega) (by omega) ?_
          refine dn_loadx rfl rfl q1 q3 q4 ?_
          refine dn_idxgn (first + r) rfl rfl q2 (by simp only [wrapE]; omega) (by omega) ?_
          refine dn_put (first + r) rfl rfl rfl rfl ho (off1 _) (by omega) rfl rfl rfl ?_
          intro bd3 ow3 ho3 hw3
          cases hw3
          refine dn_idxgn (first + (2 * r + 1)) rfl rfl q2 (by simp only [wrapE]; omega) (by omega) ?_
          refine dn_put (first + (2 * r + 1)) rfl rfl rfl rfl ho3 (off1 _) (by omega) rfl rfl rfl ?_
          intro bd4 ow4 ho4 hw4
          cases hw4
          refine dn_done rfl ?_
          rw [U_swp (by omega) (by omega)] at ho4
          exact wp_again rfl (again (2 * r + 1, bd4, _) ⟨by omega, ho4, hgo⟩ (by dsimp only; omega)) ⟨rfl, rfl, rfl, rfl, trivial⟩
    · rw [if_neg (by simp only [Bool.and_eq_true, decide_eq_true_eq, not_and]; intro _; omega)] at hgo
      refine dq_brF rfl (by rw [w2]; simp; omega) ?_
      refine dq_done rfl ?_
      refine wp_draw rfl rfl (by kernel_rfl) rfl ?_
      refine dq_idxgn (first + r) rfl rfl q2 (by simp only [wrapE]; omega) (by omega) ?_
      refine dq_loadx rfl rfl q1 q3 q4 ?_
      refine dq_idxgn (first + (2 * r + 1)) rfl rfl q2 (by simp only [wrapE]; omega) (by omega) ?_
      refine dq_loadx rfl rfl r1 r3 r4 ?_
      refine dq_pure rfl (lessQ h _ _) ?_
      refine dq_done rfl ?_
      refine wp_br rfl (fun h5 => ?_) (fun h5 => ?_)
      · rw [if_pos (by simpa using h5)] at hgo
        subst hgo
        exact wp_ret _ rfl rfl (List.Sublist.refl _) ⟨bd, rfl, rfl, ho⟩
      · rw [if_neg (by simpa using h5)] at hgo
        refine wp_drawn rfl rfl rfl [0, 1, 2, 3, 4, 5, 6, 7, 8, 9, 10, 11, 12, 13, 14, 15, 16, 17, 18, 19, 20, 21, 22, 23] (by kernel_rfl) ?_
        refine dn_idxgn (first + (2 * r + 1)) rfl rfl q2 (by simp only [wrapE]; omega) (by omega) ?_
        refine dn_loadx rfl rfl r1 r3 r4 ?_
        refine dn_idxgn (first + r) rfl rfl q2 (by simp only [wrapE]; omega) (by omega) ?_
        refine dn_loadx rfl rfl q1 q3 q4 ?_
        refine dn_idxgn (first + r) rfl rfl q2 (by simp only [wrapE]; omega) (by omega) ?_
        refine dn_put (first + r) rfl rfl rfl rfl ho (off1 _) (by omega) rfl rfl rfl ?_
        intro bd3 ow3 ho3 hw3
        cases hw3
        refine dn_idxgn (first + (2 * r + 1)) rfl rfl q2 (by simp only [wrapE]; omega) (by omega) ?_
        refine dn_put (first + (2 * r + 1)) rfl rfl rfl rfl ho3 (off1 _) (by omega) rfl rfl rfl ?_
        intro bd4 ow4 ho4 hw4
        cases hw4
        refine dn_done rfl ?_
        rw [U_swp (by omega) (by omega)] at ho4
        exact wp_again rfl (again (2 * r + 1, bd4, _) ⟨by omega, ho4, hgo⟩ (by dsimp only; omega)) ⟨rfl, rfl, rfl, rfl, trivial⟩
end Go.Vc
namespace Go.Vc
set_option linter.unusedSimpArgs false
open Go.Proofs Go.Lib Go.Sort
set_option linter.unusedVariables false
set_option maxRecDepth 20000

theorem half {hi : Nat} (h : hi ≤ 1000000000) : IntKind.wrap .i64 ((IntKind.wrap .i64 ((hi : Int) - 1)).tdiv 2) = (((hi - 1) / 2 + 1 : Nat) : Int) - 1 := by
  rw [wrap64 (x := (hi : Int) - 1) (by omega) (by omega)]
  cases hi with
  | zero => decide
  | succ k =>
    rw [Int.tdiv_eq_ediv_of_nonneg (by omega), wrapE]
    omega

theorem heap_spec (h : PHeap) (B : Blk) (n c : Nat) (d : Array Int) (hB : OwnSl B 86 1 n c (U d.toList)) (hn : n ≤ 1000000000) (a b : Nat) (hab : a ≤ b) (hb : b ≤ n) :
    Chg Try.prog 139 [.slice (nulAddr B) n c, .int .i64 a, .int .i64 b] h B fun v h' bd => h' = h ∧ OwnSl ⟨B.id, B.nul, B.live, bd⟩ 86 1 n c (U (heapSort ltInt d a b).toList) := by
  refine Chg.of_wps (env := [(0, .gs 0 n c), (1, .v (.int .i64 a)), (2, .v (.int .i64 b))]) [.gs 0 n c, .v (.int .i64 a), .v (.int .i64 b)] Try.func139 Try.call139 rfl rfl rfl rfl ?_
  have whi : IntKind.wrap .i64 ((b : Int) - a) = ((b - a : Nat) : Int) := by simp only [wrapE]; omega
  refine wp_need rfl (by decide) ?_
  rw [whi, half (by omega)]
  refine wp_for (σ := Nat × Body × Array Int) (fun s => s.1 ≤ n + 1 ∧ (s.1 - 1 ≤ n) ∧ OwnSl ⟨B.id, B.nul, B.live, s.2.1⟩ 86 1 n c (U s.2.2.toList) ∧ heapPop ltInt a (b - a) (heapBuild ltInt (b - a) a s.1 s.2.2) = heapSort ltInt d a b) (fun s => s.1)
    (fun s => [(0, .gs 0 n c), (6, .v (.int .i64 a)), (7, .v (.int .i64 0)), (8, .v (.int .i64 (b - a : Nat))), (9, .v (.int .i64 ((s.1 : Int) - 1)))]) (fun s => [⟨B.id, B.nul, B.live, s.2.1⟩]) ((b - a - 1) / 2 + 1, B.body, d) rfl ⟨by omega, by omega, hB, rfl⟩ rfl ⟨rfl, rfl, rfl, rfl, rfl, trivial⟩ ?_
  rintro ⟨k, bd, e⟩ ⟨hk, hk2, ho, hgo⟩ again
  dsimp only at hk hk2 ho hgo again ⊢
  refine wp_br rfl (fun h1 => ?_) (fun h1 => ?_)
  · obtain ⟨k, rfl⟩ : ∃ j, k = j + 1 := ⟨k - 1, by simp at h1; omega⟩
    rw [heapBuild] at hgo
    rw [show ((k + 1 : Nat) : Int) - 1 = (k : Int) from by omega]
    refine wp_chg 0 rfl rfl (sift_spec h ⟨B.id, B.nul, B.live, bd⟩ n c e ho hn k (b - a) a (by omega) (by omega)) ?_
    rintro v h' bd2 ow2 hle ⟨rfl, ho2⟩ hw
    cases hw
    exact wp_again rfl (again (k, bd2, _) ⟨by omega, by omega, ho2, hgo⟩ (by dsimp only; omega)) ⟨rfl, rfl, rfl, rfl, eqI (by simp only [wrapE]; omega), trivial⟩
  · have hk0 : k = 0 := by simp at h1; omega
    subst hk0
    rw [heapBuild] at hgo
    refine wp_for (σ := Nat × Body × Array Int) (fun s => s.1 ≤ b - a ∧ OwnSl ⟨B.id, B.nul, B.live, s.2.1⟩ 86 1 n c (U s.2.2.toList) ∧ heapPop ltInt a s.1 s.2.2 = heapSort ltInt d a b) (fun s => s.1)
      (fun s => [(0, .gs 0 n c), (6, .v (.int .i64 a)), (7, .v (.int .i64 0)), (10, .v (.int .i64 ((s.1 : Int) - 1)))]) (fun s => [⟨B.id, B.nul, B.live, s.2.1⟩]) (b - a, bd, e) rfl ⟨Nat.le_refl _, ho, hgo⟩ rfl ⟨rfl, rfl, rfl, eqI (by simp only [wrapE]; omega), trivial⟩ ?_
    rintro ⟨k, bd, e⟩ ⟨hk, ho, hgo⟩ again
    dsimp only at hk ho hgo again ⊢
    refine wp_br rfl (fun h1 => ?_) (fun h1 => ?_)
    · obtain ⟨k, rfl⟩ : ∃ j, k = j + 1 := ⟨k - 1, by simp at h1; omega⟩
      rw [heapPop] at hgo
      rw [show ((k + 1 : Nat) : Int) - 1 = (k : Int) from by omega]
      have hsz := ho.szU
      obtain ⟨q1, q2, l1, q3, q4⟩ := ho.atU (i := a + k) (by omega)
      obtain ⟨r1, r2, l2, r3, r4⟩ := ho.atU (i := a) (by omega)
      refine wp_drawn rfl rfl rfl [0, 1, 2, 3, 4, 5, 6, 7, 8, 9, 10, 11, 12, 13, 14, 15, 16, 17, 18, 19] (by kernel_rfl) ?_
      refine dn_idxgn (a + k) rfl rfl q2 (by simp only [wrapE]; omega) (by omega) ?_
      refine dn_loadx rfl rfl q1 q3 q4 ?_
      refine dn_idxgn a rfl rfl q2 rfl (by omega) ?_
      refine dn_loadx rfl rfl r1 r3 r4 ?_
      refine dn_idxgn a rfl rfl q2 rfl (by omega) ?_
      refine dn_put a rfl rfl rfl rfl ho (off1 _) (by omega) rfl rfl rfl ?_
      intro bd3 ow3 ho3 hw3
      cases hw3
      refine dn_idxgn (a + k) rfl rfl q2 (by simp only [wrapE]; omega) (by omega) ?_
      refine dn_put (a + k) rfl rfl rfl rfl ho3 (off1 _) (by omega) rfl rfl rfl ?_
      intro bd4 ow4 ho4 hw4
      cases hw4
      refine dn_done rfl ?_
      rw [U_swp (by omega) (by omega)] at ho4
      refine wp_chg 0 rfl rfl (sift_spec h ⟨B.id, B.nul, B.live, bd4⟩ n c _ ho4 hn 0 k a (by omega) (by omega)) ?_
      rintro v h' bd2 ow2 hle ⟨rfl, ho2⟩ hw
      cases hw
      exact wp_again rfl (again (k, bd2, _) ⟨by omega, ho2, hgo⟩ (by dsimp only; omega)) ⟨rfl, rfl, rfl, eqI (by simp only [wrapE]; omega), trivial⟩
    · have hk0 : k = 0 := by simp at h1; omega
      subst hk0
      rw [heapPop] at hgo
      subst hgo
      exact wp_ret _ rfl rfl (List.Sublist.refl _) ⟨bd, rfl, rfl, ho⟩

theorem rev_spec (h : PHeap) (B : Blk) (n c : Nat) (d : Array Int) (hB : OwnSl B 86 1 n c (U d.toList)) (hn : n ≤ 1000000000) (a b : Nat) (hab : a < b) (hb : b ≤ n) :
    Chg Try.prog 142 [.slice (nulAddr B) n c, .int .i64 a, .int .i64 b] h B fun v h' bd => h' = h ∧ OwnSl ⟨B.id, B.nul, B.live, bd⟩ 86 1 n c (U (reverseRange d a b).toList) := by
  refine Chg.of_wps (env := [(0, .gs 0 n c), (1, .v (.int .i64 a)), (2, .v (.int .i64 b))]) [.gs 0 n c, .v (.int .i64 a), .v (.int .i64 b)] Try.func142 Try.call142 rfl rfl rfl rfl ?_
  refine wp_for (σ := Nat × Nat × Body × Array Int) (fun s => s.2.1 < n ∧ OwnSl ⟨B.id, B.nul, B.live, s.2.2.1⟩ 86 1 n c (U s.2.2.2.toList) ∧ reverseLoop s.1 s.2.1 s.2.2.2 = reverseRange d a b ∧ s.1 ≤ n) (fun s => s.2.1)
    (fun s => [(0, .gs 0 n c), (6, .v (.int .i64 s.1)), (7, .v (.int .i64 s.2.1))]) (fun s => [⟨B.id, B.nul, B.live, s.2.2.1⟩]) (a, b - 1, B.body, d) rfl ⟨by dsimp only; omega, hB, rfl, by dsimp only; omega⟩ rfl ⟨rfl, rfl, eqI (by simp only [wrapE]; omega), trivial⟩ ?_
  rintro ⟨i, j, bd, e⟩ ⟨hj, ho, hgo, hin⟩ again
  dsimp only at hj ho hgo hin again ⊢
  refine wp_br rfl (fun h1 => ?_) (fun h1 => ?_)
  · have hij : i < j := by simp at h1; omega
    rw [reverseLoop, if_pos hij] at hgo
    have hsz := ho.szU
    obtain ⟨q1, q2, l1, q3, q4⟩ := ho.atU (i := j) (by omega)
    obtain ⟨r1, r2, l2, r3, r4⟩ := ho.atU (i := i) (by omega)
    refine wp_drawn rfl rfl rfl [0, 1, 2, 3, 4, 5, 6, 7, 8, 9, 10, 11, 12, 13, 14, 15] (by kernel_rfl) ?_
    refine dn_idxgn j rfl rfl q2 rfl (by omega) ?_
    refine dn_loadx rfl rfl q1 q3 q4 ?_
    refine dn_idxgn i rfl rfl q2 rfl (by omega) ?_
    refine dn_loadx rfl rfl r1 r3 r4 ?_
    refine dn_idxgn i rfl rfl q2 rfl (by omega) ?_
    refine dn_put i rfl rfl rfl rfl ho (off1 _) (by omega) rfl rfl rfl ?_
    intro bd3 ow3 ho3 hw3
    cases hw3
    refine dn_idxgn j rfl rfl q2 rfl (by omega) ?_
    refine dn_put j rfl rfl rfl rfl ho3 (off1 _) (by omega) rfl rfl rfl ?_
    intro bd4 ow4 ho4 hw4
    cases hw4
    refine dn_done rfl ?_
    rw [U_swp (by omega) (by omega)] at ho4
    exact wp_again rfl (again (i + 1, j - 1, bd4, _) ⟨by dsimp only; omega, ho4, hgo, by dsimp only; omega⟩ (by dsimp only; omega)) ⟨rfl, eqI (by simp only [wrapE]; omega), eqI (by simp only [wrapE]; omega), trivial⟩
  · have hij : ¬ i < j := by simp at h1; omega
    rw [reverseLoop, if_neg hij] at hgo
    subst hgo
    exact wp_ret _ rfl rfl (List.Sublist.refl _) ⟨bd, rfl, rfl, ho⟩
end Go.Vc
namespace Go.Vc
set_option linter.unusedSimpArgs false
open Go.Proofs Go.Lib Go.Sort
set_option linter.unusedVariables false
set_option maxRecDepth 20000

theorem parteq_spec (h : PHeap) (B : Blk) (n c : Nat) (d : Array Int) (hB : OwnSl B 86 1 n c (U d.toList)) (hn : n ≤ 1000000000) (a b p : Nat) (hap : a ≤ p) (hpb : p < b) (hb : b ≤ n) :
    Chg Try.prog 145 [.slice (nulAddr B) n c, .int .i64 a, .int .i64 b, .int .i64 p] h B fun v h' bd => h' = h ∧ v = .int .i64 (partitionEqual ltInt d a b p).1 ∧ OwnSl ⟨B.id, B.nul, B.live, bd⟩ 86 1 n c (U (partitionEqual ltInt d a b p).2.toList) := by
  refine Chg.of_wps (env := [(0, .gs 0 n c), (1, .v (.int .i64 a)), (2, .v (.int .i64 b)), (3, .v (.int .i64 p))]) [.gs 0 n c, .v (.int .i64 a), .v (.int .i64 b), .v (.int .i64 p)] Try.func145 Try.call145 rfl rfl rfl rfl ?_
  have ho : OwnSl ⟨B.id, B.nul, B.live, B.body⟩ 86 1 n c (U d.toList) := hB
  obtain ⟨qi1, qi2, li, qi3, qi4⟩ := ho.atU (i := a) (by omega)
  obtain ⟨qj1, qj2, lj, qj3, qj4⟩ := ho.atU (i := p) (by omega)
  have hsz := ho.szU
  refine wp_drawn rfl rfl rfl [0, 1, 2, 3, 4, 5, 6, 7, 8, 9, 10, 11, 12, 13, 14, 15] (by kernel_rfl) ?_
  refine dn_idxgn (p) rfl rfl qj2 (by first | rfl | (simp only [wrapE]; omega)) (by omega) ?_
  refine dn_loadx rfl rfl qj1 qj3 qj4 ?_
  refine dn_idxgn (a) rfl rfl qi2 (by first | rfl | (simp only [wrapE]; omega)) (by omega) ?_
  refine dn_loadx rfl rfl qi1 qi3 qi4 ?_
  refine dn_idxgn (a) rfl rfl qi2 (by first | rfl | (simp only [wrapE]; omega)) (by omega) ?_
  refine dn_put (a) rfl rfl rfl rfl ho (off1 _) (by omega) rfl rfl rfl ?_
  intro bd3 ow3 ho3 hw3
  cases hw3
  refine dn_idxgn (p) rfl rfl qi2 (by first | rfl | (simp only [wrapE]; omega)) (by omega) ?_
  refine dn_put (p) rfl rfl rfl rfl ho3 (off1 _) (by omega) rfl rfl rfl ?_
  intro bd0 ow4 ho0 hw4
  cases hw4
  refine dn_done rfl ?_
  rw [U_swp (by omega) (by omega)] at ho0
  clear hB ho
  refine wp_for (σ := Nat × Nat × Body × Array Int) (fun s => a < s.1 ∧ s.1 ≤ s.2.1 + 1 ∧ s.2.1 < b ∧ OwnSl ⟨B.id, B.nul, B.live, s.2.2.1⟩ 86 1 n c (U s.2.2.2.toList) ∧ partEqLoop ltInt a s.1 s.2.1 s.2.2.2 = partitionEqual ltInt d a b p) (fun s => s.2.1 + 1 - s.1)
    (fun s => [(0, .gs 0 n c), (1, .v (.int .i64 a)), (9, .v (.int .i64 s.1)), (10, .v (.int .i64 s.2.1))]) (fun s => [⟨B.id, B.nul, B.live, s.2.2.1⟩]) (a + 1, b - 1, bd0, swp d a p) rfl ⟨by dsimp only; omega, by dsimp only; omega, by dsimp only; omega, ho0, rfl⟩ rfl ⟨rfl, rfl, eqI (by simp only [wrapE]; omega), eqI (by simp only [wrapE]; omega), trivial⟩ ?_
  clear ho0 hsz qi1 qi2 qi3 qi4 qj1 qj2 qj3 qj4
  rintro ⟨i, j, bd, e⟩ ⟨hai, hij, hjb, ho, hgo⟩ again
  dsimp only at hai hij hjb ho hgo again ⊢
  refine wp_for (σ := Nat) (fun s => i ≤ s ∧ s ≤ j + 1 ∧ scanUp (fun x => !ltInt e[a]! x) e j s = scanUp (fun x => !ltInt e[a]! x) e j i) (fun s => j + 1 - s) (fun s => [(0, .gs 0 n c), (1, .v (.int .i64 a)), (9, .v (.int .i64 s)), (10, .v (.int .i64 j))]) (fun _ => [⟨B.id, B.nul, B.live, bd⟩]) (i) rfl ⟨by omega, by omega, rfl⟩ rfl ⟨rfl, rfl, rfl, rfl, trivial⟩ ?_
  rintro s ⟨hs1, hs2, hs3⟩ againS
  refine wp_drawc ((43, .v (.bool (decide (s ≤ j) && !ltInt e[a]! e[s]!))) :: [(0, .gs 0 n c), (1, .v (.int .i64 a)), (9, .v (.int .i64 s)), (10, .v (.int .i64 j))]) rfl rfl (by kernel_rfl) rfl ?_ ?_
  · by_cases hc : s ≤ j
    · obtain ⟨x1, x2, lx, x3, x4⟩ := ho.atU (i := a) (by omega)
      obtain ⟨y1, y2, ly, y3, y4⟩ := ho.atU (i := s) (by omega)
      refine dq_brT rfl (by simp; omega) ?_
      refine dq_idxgn (a) rfl rfl x2 (by first | rfl | (simp only [wrapE]; omega)) (by omega) ?_
      refine dq_loadx rfl rfl x1 x3 x4 ?_
      refine dq_idxgn (s) rfl rfl x2 (by first | rfl | (simp only [wrapE]; omega)) (by omega) ?_
      refine dq_loadx rfl rfl y1 y3 y4 ?_
      refine dq_pure rfl (lessQ h _ _) ?_
      exact dq_done rfl ⟨⟨_, rfl, by simp [conc, hc]⟩, ⟨_, rfl, rfl⟩, ⟨_, rfl, rfl⟩, ⟨_, rfl, rfl⟩, ⟨_, rfl, rfl⟩, trivial⟩
    · refine dq_brF rfl (by simp; omega) ?_
      exact dq_done rfl ⟨⟨_, rfl, by rw [decide_eq_false hc]; rfl⟩, ⟨_, rfl, rfl⟩, ⟨_, rfl, rfl⟩, ⟨_, rfl, rfl⟩, ⟨_, rfl, rfl⟩, trivial⟩
  refine wp_br rfl (fun hc => ?_) (fun hc => ?_)
  · have hcb : s ≤ j := of_decide_eq_true (Bool.and_eq_true_iff.1 hc).1
    have hst : scanUp (fun x => !ltInt e[a]! x) e j s = scanUp (fun x => !ltInt e[a]! x) e j (s + 1) := by rw [scanUp]; exact if_pos hc
    exact wp_again rfl (againS (s + 1) ⟨by omega, by omega, by rw [← hst]; exact hs3⟩ (by omega)) ⟨rfl, rfl, eqI (by simp only [wrapE]; omega), rfl, trivial⟩
  · have hst : scanUp (fun x => !ltInt e[a]! x) e j s = s := by rw [scanUp]; exact if_neg (by intro hh; have := hh.symm.trans hc; cases this)
    have hi2 : s = scanUp (fun x => !ltInt e[a]! x) e j i := by rw [← hs3, hst]
    have hi2c := hc
    clear hst hs3 againS hc
    obtain ⟨i2, rfl⟩ : ∃ k, k = s := ⟨s, rfl⟩
    refine wp_for (σ := Nat) (fun s => s ≤ j ∧ i2 ≤ s + 1 ∧ scanDown (fun x => ltInt e[a]! x) e i2 s = scanDown (fun x => ltInt e[a]! x) e i2 j) (fun s => s) (fun s => [(0, .gs 0 n c), (1, .v (.int .i64 a)), (9, .v (.int .i64 i2)), (10, .v (.int .i64 s))]) (fun _ => [⟨B.id, B.nul, B.live, bd⟩]) (j) rfl ⟨by omega, by omega, rfl⟩ rfl ⟨rfl, rfl, rfl, rfl, trivial⟩ ?_
    rintro s ⟨hs1, hs2, hs3⟩ againS
    refine wp_drawc ((59, .v (.bool (decide (i2 ≤ s) && ltInt e[a]! e[s]!))) :: [(0, .gs 0 n c), (1, .v (.int .i64 a)), (9, .v (.int .i64 i2)), (10, .v (.int .i64 s))]) rfl rfl (by kernel_rfl) rfl ?_ ?_
    · by_cases hc : i2 ≤ s
      · obtain ⟨x1, x2, lx, x3, x4⟩ := ho.atU (i := a) (by omega)
        obtain ⟨y1, y2, ly, y3, y4⟩ := ho.atU (i := s) (by omega)
        refine dq_brT rfl (by simp; omega) ?_
        refine dq_idxgn (a) rfl rfl x2 (by first | rfl | (simp only [wrapE]; omega)) (by omega) ?_
        refine dq_loadx rfl rfl x1 x3 x4 ?_
        refine dq_idxgn (s) rfl rfl x2 (by first | rfl | (simp only [wrapE]; omega)) (by omega) ?_
        refine dq_loadx rfl rfl y1 y3 y4 ?_
        refine dq_pure rfl (lessQ h _ _) ?_
        exact dq_done rfl ⟨⟨_, rfl, by simp [conc, hc]⟩, ⟨_, rfl, rfl⟩, ⟨_, rfl, rfl⟩, ⟨_, rfl, rfl⟩, ⟨_, rfl, rfl⟩, trivial⟩
      · refine dq_brF rfl (by simp; omega) ?_
        exact dq_done rfl ⟨⟨_, rfl, by rw [decide_eq_false hc]; rfl⟩, ⟨_, rfl, rfl⟩, ⟨_, rfl, rfl⟩, ⟨_, rfl, rfl⟩, ⟨_, rfl, rfl⟩, trivial⟩
    refine wp_br rfl (fun hc => ?_) (fun hc => ?_)
    · have hcb : i2 ≤ s := of_decide_eq_true (Bool.and_eq_true_iff.1 hc).1
      obtain ⟨k, rfl⟩ : ∃ k, s = k + 1 := ⟨s - 1, by omega⟩
      have hst : scanDown (fun x => ltInt e[a]! x) e i2 (k + 1) = scanDown (fun x => ltInt e[a]! x) e i2 k := by rw [scanDown]; exact if_pos hc
      exact wp_again rfl (againS k ⟨by omega, by omega, by rw [← hst]; exact hs3⟩ (by omega)) ⟨rfl, rfl, rfl, eqI (by simp only [wrapE]; omega), trivial⟩
    · have hst : scanDown (fun x => ltInt e[a]! x) e i2 s = s := by
        cases s with
        | zero => rfl
        | succ k => rw [scanDown]; exact if_neg (by intro hh; have := hh.symm.trans hc; cases this)
      have hj2 : s = scanDown (fun x => ltInt e[a]! x) e i2 j := by rw [← hs3, hst]
      have hj2c := hc
      clear hst hs3 againS hc
      obtain ⟨j2, rfl⟩ : ∃ k, k = s := ⟨s, rfl⟩
      rw [partEqLoop_eq, ← hi2, ← hj2] at hgo
      refine wp_br rfl (fun h3 => ?_) (fun h3 => ?_)
      · have h4 : i2 > j2 := by simp at h3; omega
        rw [if_pos h4] at hgo
        refine wp_ret _ rfl rfl (List.Sublist.refl _) ⟨bd, rfl, rfl, ?_, ?_⟩
        · rw [← hgo]; rfl
        · rw [← hgo]; exact ho
      · have h4 : ¬ i2 > j2 := by simp at h3; omega
        rw [if_neg h4] at hgo
        have h5 : i2 ≠ j2 := by
          rintro rfl
          simp only [Nat.le_refl, decide_true, Bool.true_and] at hj2c
          rw [hj2c] at hi2c
          simp at hi2c
          omega
        obtain ⟨qi1, qi2, li, qi3, qi4⟩ := ho.atU (i := i2) (by omega)
        obtain ⟨qj1, qj2, lj, qj3, qj4⟩ := ho.atU (i := j2) (by omega)
        have hsz := ho.szU
        refine wp_drawn rfl rfl rfl [0, 1, 2, 3, 4, 5, 6, 7, 8, 9, 10, 11, 12, 13, 14, 15] (by kernel_rfl) ?_
        refine dn_idxgn (j2) rfl rfl qj2 (by first | rfl | (simp only [wrapE]; omega)) (by omega) ?_
        refine dn_loadx rfl rfl qj1 qj3 qj4 ?_
        refine dn_idxgn (i2) rfl rfl qi2 (by first | rfl | (simp only [wrapE]; omega)) (by omega) ?_
        refine dn_loadx rfl rfl qi1 qi3 qi4 ?_
        refine dn_idxgn (i2) rfl rfl qi2 (by first | rfl | (simp only [wrapE]; omega)) (by omega) ?_
        refine dn_put (i2) rfl rfl rfl rfl ho (off1 _) (by omega) rfl rfl rfl ?_
        intro bd3 ow3 ho3 hw3
        cases hw3
        refine dn_idxgn (j2) rfl rfl qi2 (by first | rfl | (simp only [wrapE]; omega)) (by omega) ?_
        refine dn_put (j2) rfl rfl rfl rfl ho3 (off1 _) (by omega) rfl rfl rfl ?_
        intro bd4 ow4 ho4 hw4
        cases hw4
        refine dn_done rfl ?_
        rw [U_swp (by omega) (by omega)] at ho4
        exact wp_again rfl (again (i2 + 1, j2 - 1, bd4, _) ⟨by dsimp only; omega, by dsimp only; omega, by dsimp only; omega, ho4, hgo⟩ (by dsimp only; omega)) ⟨rfl, rfl, eqI (by simp only [wrapE]; omega), eqI (by simp only [wrapE]; omega), trivial⟩
end Go.Vc
namespace Go.Vc
set_option linter.unusedSimpArgs false
open Go.Proofs Go.Lib Go.Sort
set_option linter.unusedVariables false
set_option maxRecDepth 20000

theorem part_spec (h : PHeap) (B : Blk) (n c : Nat) (d : Array Int) (hB : OwnSl B 86 1 n c (U d.toList)) (hn : n ≤ 1000000000) (a b p : Nat) (hap : a ≤ p) (hpb : p < b) (hb : b ≤ n) :
    Chg Try.prog 146 [.slice (nulAddr B) n c, .int .i64 a, .int .i64 b, .int .i64 p] h B fun v h' bd => h' = h ∧ v = .tuple ⟨[.int .i64 (partition ltInt d a b p).1, .bool (partition ltInt d a b p).2.1]⟩ ∧ OwnSl ⟨B.id, B.nul, B.live, bd⟩ 86 1 n c (U (partition ltInt d a b p).2.2.toList) := by
  refine Chg.of_wps (env := [(0, .gs 0 n c), (1, .v (.int .i64 a)), (2, .v (.int .i64 b)), (3, .v (.int .i64 p))]) [.gs 0 n c, .v (.int .i64 a), .v (.int .i64 b), .v (.int .i64 p)] Try.func146 Try.call146 rfl rfl rfl rfl ?_
  have ho : OwnSl ⟨B.id, B.nul, B.live, B.body⟩ 86 1 n c (U d.toList) := hB
  obtain ⟨qi1, qi2, li, qi3, qi4⟩ := ho.atU (i := a) (by omega)
  obtain ⟨qj1, qj2, lj, qj3, qj4⟩ := ho.atU (i := p) (by omega)
  have hsz := ho.szU
  refine wp_drawn rfl rfl rfl [0, 1, 2, 3, 4, 5, 6, 7, 8, 9, 10, 11, 12, 13, 14, 15] (by kernel_rfl) ?_
  refine dn_idxgn (p) rfl rfl qj2 (by first | rfl | (simp only [wrapE]; omega)) (by omega) ?_
  refine dn_loadx rfl rfl qj1 qj3 qj4 ?_
  refine dn_idxgn (a) rfl rfl qi2 (by first | rfl | (simp only [wrapE]; omega)) (by omega) ?_
  refine dn_loadx rfl rfl qi1 qi3 qi4 ?_
  refine dn_idxgn (a) rfl rfl qi2 (by first | rfl | (simp only [wrapE]; omega)) (by omega) ?_
  refine dn_put (a) rfl rfl rfl rfl ho (off1 _) (by omega) rfl rfl rfl ?_
  intro bd3 ow3 ho3 hw3
  cases hw3
  refine dn_idxgn (p) rfl rfl qi2 (by first | rfl | (simp only [wrapE]; omega)) (by omega) ?_
  refine dn_put (p) rfl rfl rfl rfl ho3 (off1 _) (by omega) rfl rfl rfl ?_
  intro bd ow4 ho0 hw4
  cases hw4
  refine dn_done rfl ?_
  rw [U_swp (by omega) (by omega)] at ho0
  clear hB ho
  clear hsz qi1 qi2 qi3 qi4 qj1 qj2 qj3 qj4
  have ho := ho0
  clear ho0
  obtain ⟨e, hee⟩ : ∃ e, e = swp d a p := ⟨_, rfl⟩
  rw [← hee] at ho
  obtain ⟨i, hii⟩ : ∃ i, i = a + 1 := ⟨_, rfl⟩
  obtain ⟨j, hjj⟩ : ∃ j, j = b - 1 := ⟨_, rfl⟩
  refine wp_for (σ := Nat) (fun s => i ≤ s ∧ s ≤ j + 1 ∧ scanUp (fun x => ltInt x e[a]!) e j s = scanUp (fun x => ltInt x e[a]!) e j i) (fun s => j + 1 - s) (fun s => [(0, .gs 0 n c), (1, .v (.int .i64 a)), (10, .v (.int .i64 s)), (11, .v (.int .i64 j))]) (fun _ => [⟨B.id, B.nul, B.live, bd⟩]) (i) rfl ⟨by omega, by omega, rfl⟩ rfl ⟨rfl, rfl, eqI (by rw [hii]; simp only [wrapE]; omega), eqI (by rw [hjj]; simp only [wrapE]; omega), trivial⟩ ?_
  rintro s ⟨hs1, hs2, hs3⟩ againS
  refine wp_drawc ((43, .v (.bool (decide (s ≤ j) && ltInt e[s]! e[a]!))) :: [(0, .gs 0 n c), (1, .v (.int .i64 a)), (10, .v (.int .i64 s)), (11, .v (.int .i64 j))]) rfl rfl (by kernel_rfl) rfl ?_ ?_
  · by_cases hc : s ≤ j
    · obtain ⟨x1, x2, lx, x3, x4⟩ := ho.atU (i := s) (by omega)
      obtain ⟨y1, y2, ly, y3, y4⟩ := ho.atU (i := a) (by omega)
      refine dq_brT rfl (by simp; omega) ?_
      refine dq_idxgn (s) rfl rfl x2 (by first | rfl | (simp only [wrapE]; omega)) (by omega) ?_
      refine dq_loadx rfl rfl x1 x3 x4 ?_
      refine dq_idxgn (a) rfl rfl x2 (by first | rfl | (simp only [wrapE]; omega)) (by omega) ?_
      refine dq_loadx rfl rfl y1 y3 y4 ?_
      refine dq_pure rfl (lessQ h _ _) ?_
      exact dq_done rfl ⟨⟨_, rfl, by simp [conc, hc]⟩, ⟨_, rfl, rfl⟩, ⟨_, rfl, rfl⟩, ⟨_, rfl, rfl⟩, ⟨_, rfl, rfl⟩, trivial⟩
    · refine dq_brF rfl (by simp; omega) ?_
      exact dq_done rfl ⟨⟨_, rfl, by rw [decide_eq_false hc]; rfl⟩, ⟨_, rfl, rfl⟩, ⟨_, rfl, rfl⟩, ⟨_, rfl, rfl⟩, ⟨_, rfl, rfl⟩, trivial⟩
  refine wp_br rfl (fun hc => ?_) (fun hc => ?_)
  · have hcb : s ≤ j := of_decide_eq_true (Bool.and_eq_true_iff.1 hc).1
    have hst : scanUp (fun x => ltInt x e[a]!) e j s = scanUp (fun x => ltInt x e[a]!) e j (s + 1) := by rw [scanUp]; exact if_pos hc
    exact wp_again rfl (againS (s + 1) ⟨by omega, by omega, by rw [← hst]; exact hs3⟩ (by omega)) ⟨rfl, rfl, eqI (by simp only [wrapE]; omega), rfl, trivial⟩
  · have hst : scanUp (fun x => ltInt x e[a]!) e j s = s := by rw [scanUp]; exact if_neg (by intro hh; have := hh.symm.trans hc; cases this)
    have hi2 : s = scanUp (fun x => ltInt x e[a]!) e j i := by rw [← hs3, hst]
    have hi2c := hc
    clear hst hs3 againS hc
    obtain ⟨i2, rfl⟩ : ∃ k, k = s := ⟨s, rfl⟩
    refine wp_for (σ := Nat) (fun s => s ≤ j ∧ i2 ≤ s + 1 ∧ scanDown (fun x => !ltInt x e[a]!) e i2 s = scanDown (fun x => !ltInt x e[a]!) e i2 j) (fun s => s) (fun s => [(0, .gs 0 n c), (1, .v (.int .i64 a)), (10, .v (.int .i64 i2)), (11, .v (.int .i64 s))]) (fun _ => [⟨B.id, B.nul, B.live, bd⟩]) (j) rfl ⟨by omega, by omega, rfl⟩ rfl ⟨rfl, rfl, rfl, rfl, trivial⟩ ?_
    rintro s ⟨hs1, hs2, hs3⟩ againS
    refine wp_drawc ((60, .v (.bool (decide (i2 ≤ s) && !ltInt e[s]! e[a]!))) :: [(0, .gs 0 n c), (1, .v (.int .i64 a)), (10, .v (.int .i64 i2)), (11, .v (.int .i64 s))]) rfl rfl (by kernel_rfl) rfl ?_ ?_
    · by_cases hc : i2 ≤ s
      · obtain ⟨x1, x2, lx, x3, x4⟩ := ho.atU (i := s) (by omega)
        obtain ⟨y1, y2, ly, y3, y4⟩ := ho.atU (i := a) (by omega)
        refine dq_brT rfl (by simp; omega) ?_
        refine dq_idxgn (s) rfl rfl x2 (by first | rfl | (simp only [wrapE]; omega)) (by omega) ?_
        refine dq_loadx rfl rfl x1 x3 x4 ?_
        refine dq_idxgn (a) rfl rfl x2 (by first | rfl | (simp only [wrapE]; omega)) (by omega) ?_
        refine dq_loadx rfl rfl y1 y3 y4 ?_
        refine dq_pure rfl (lessQ h _ _) ?_
        exact dq_done rfl ⟨⟨_, rfl, by simp [conc, hc]⟩, ⟨_, rfl, rfl⟩, ⟨_, rfl, rfl⟩, ⟨_, rfl, rfl⟩, ⟨_, rfl, rfl⟩, trivial⟩
      · refine dq_brF rfl (by simp; omega) ?_
        exact dq_done rfl ⟨⟨_, rfl, by rw [decide_eq_false hc]; rfl⟩, ⟨_, rfl, rfl⟩, ⟨_, rfl, rfl⟩, ⟨_, rfl, rfl⟩, ⟨_, rfl, rfl⟩, trivial⟩
    refine wp_br rfl (fun hc => ?_) (fun hc => ?_)
    · have hcb : i2 ≤ s := of_decide_eq_true (Bool.and_eq_true_iff.1 hc).1
      obtain ⟨k, rfl⟩ : ∃ k, s = k + 1 := ⟨s - 1, by omega⟩
      have hst : scanDown (fun x => !ltInt x e[a]!) e i2 (k + 1) = scanDown (fun x => !ltInt x e[a]!) e i2 k := by rw [scanDown]; exact if_pos hc
      exact wp_again rfl (againS k ⟨by omega, by omega, by rw [← hst]; exact hs3⟩ (by omega)) ⟨rfl, rfl, rfl, eqI (by simp only [wrapE]; omega), trivial⟩
    · have hst : scanDown (fun x => !ltInt x e[a]!) e i2 s = s := by
        cases s with
        | zero => rfl
        | succ k => rw [scanDown]; exact if_neg (by intro hh; have := hh.symm.trans hc; cases this)
      have hj2 : s = scanDown (fun x => !ltInt x e[a]!) e i2 j := by rw [← hs3, hst]
      have hj2c := hc
      clear hst hs3 againS hc
      obtain ⟨j2, rfl⟩ : ∃ k, k = s := ⟨s, rfl⟩
      have hres : partition ltInt d a b p = if i2 > j2 then (j2, true, swp e j2 a) else ((partLoop ltInt a (i2 + 1) (j2 - 1) (swp e i2 j2)).1, false, swp (partLoop ltInt a (i2 + 1) (j2 - 1) (swp e i2 j2)).2 (partLoop ltInt a (i2 + 1) (j2 - 1) (swp e i2 j2)).1 a) := by
        rw [hj2, hi2, hjj, hii, hee]; rfl
      refine wp_br rfl (fun h3 => ?_) (fun h3 => ?_)
      · have h4 : i2 > j2 := by simp at h3; omega
        rw [if_pos h4] at hres
        obtain ⟨qi1, qi2, li, qi3, qi4⟩ := ho.atU (i := j2) (by omega)
        obtain ⟨qj1, qj2, lj, qj3, qj4⟩ := ho.atU (i := a) (by omega)
        have hsz := ho.szU
        refine wp_drawn rfl rfl rfl [0, 1, 2, 3, 4, 5, 6, 7, 8, 9, 10, 11, 12, 13, 14, 15] (by kernel_rfl) ?_
        refine dn_idxgn (a) rfl rfl qj2 (by first | rfl | (simp only [wrapE]; omega)) (by omega) ?_
        refine dn_loadx rfl rfl qj1 qj3 qj4 ?_
        refine dn_idxgn (j2) rfl rfl qi2 (by first | rfl | (simp only [wrapE]; omega)) (by omega) ?_
        refine dn_loadx rfl rfl qi1 qi3 qi4 ?_
        refine dn_idxgn (j2) rfl rfl qi2 (by first | rfl | (simp only [wrapE]; omega)) (by omega) ?_
        refine dn_put (j2) rfl rfl rfl rfl ho (off1 _) (by omega) rfl rfl rfl ?_
        intro bd3 ow3 ho3 hw3
        cases hw3
        refine dn_idxgn (a) rfl rfl qi2 (by first | rfl | (simp only [wrapE]; omega)) (by omega) ?_
        refine dn_put (a) rfl rfl rfl rfl ho3 (off1 _) (by omega) rfl rfl rfl ?_
        intro bd4 ow4 ho4 hw4
        cases hw4
        refine dn_done rfl ?_
        rw [U_swp (by omega) (by omega)] at ho4
        refine wp_ret _ rfl rfl (List.Sublist.refl _) ⟨bd4, rfl, rfl, ?_, ?_⟩
        · rw [hres]; rfl
        · rw [hres]; exact ho4
      · have h4 : ¬ i2 > j2 := by simp at h3; omega
        rw [if_neg h4] at hres
        have h5 : i2 ≠ j2 := by
          rintro rfl
          simp only [Nat.le_refl, decide_true, Bool.true_and] at hj2c
          have hj2c' : ltInt e[i2]! e[a]! = true := by simpa using hj2c
          rw [hj2c'] at hi2c
          simp at hi2c
          omega
        obtain ⟨qi1, qi2, li, qi3, qi4⟩ := ho.atU (i := i2) (by omega)
        obtain ⟨qj1, qj2, lj, qj3, qj4⟩ := ho.atU (i := j2) (by omega)
        have hsz := ho.szU
        refine wp_drawn rfl rfl rfl [0, 1, 2, 3, 4, 5, 6, 7, 8, 9, 10, 11, 12, 13, 14, 15] (by kernel_rfl) ?_
        refine dn_idxgn (j2) rfl rfl qj2 (by first | rfl | (simp only [wrapE]; omega)) (by omega) ?_
        refine dn_loadx rfl rfl qj1 qj3 qj4 ?_
        refine dn_idxgn (i2) rfl rfl qi2 (by first | rfl | (simp only [wrapE]; omega)) (by omega) ?_
        refine dn_loadx rfl rfl qi1 qi3 qi4 ?_
        refine dn_idxgn (i2) rfl rfl qi2 (by first | rfl | (simp only [wrapE]; omega)) (by omega) ?_
        refine dn_put (i2) rfl rfl rfl rfl ho (off1 _) (by omega) rfl rfl rfl ?_
        intro bd3 ow3 ho3 hw3
        cases hw3
        refine dn_idxgn (j2) rfl rfl qi2 (by first | rfl | (simp only [wrapE]; omega)) (by omega) ?_
        refine dn_put (j2) rfl rfl rfl rfl ho3 (off1 _) (by omega) rfl rfl rfl ?_
        intro bd4 ow4 ho4 hw4
        cases hw4
        refine dn_done rfl ?_
        rw [U_swp (by omega) (by omega)] at ho4
        generalize hR : partLoop ltInt a (i2 + 1) (j2 - 1) (swp e i2 j2) = R at hres
        refine wp_for (σ := Nat × Nat × Body × Array Int) (fun s => a < s.1 ∧ s.1 ≤ s.2.1 + 1 ∧ s.2.1 < b ∧ a ≤ s.2.1 ∧ OwnSl ⟨B.id, B.nul, B.live, s.2.2.1⟩ 86 1 n c (U s.2.2.2.toList) ∧ partLoop ltInt a s.1 s.2.1 s.2.2.2 = R) (fun s => s.2.1 + 1 - s.1)
          (fun s => [(0, .gs 0 n c), (1, .v (.int .i64 a)), (10, .v (.int .i64 s.1)), (11, .v (.int .i64 s.2.1))]) (fun s => [⟨B.id, B.nul, B.live, s.2.2.1⟩]) (i2 + 1, j2 - 1, bd4, swp e i2 j2) rfl ⟨by dsimp only; omega, by dsimp only; omega, by dsimp only; omega, by dsimp only; omega, ho4, hR⟩ rfl ⟨rfl, rfl, eqI (by simp only [wrapE]; omega), eqI (by simp only [wrapE]; omega), trivial⟩ ?_
        clear ho4 hsz qi1 qi2 qi3 qi4 qj1 qj2 qj3 qj4 hR hi2 hj2 hi2c hj2c h5 h4 ho hs1 hs2
        clear h3
        rintro ⟨i, j, bd, e⟩ ⟨hai, hij, hjb, haj, ho, hgo⟩ again
        dsimp only at hai hij hjb haj ho hgo again ⊢
        refine wp_for (σ := Nat) (fun s => i ≤ s ∧ s ≤ j + 1 ∧ scanUp (fun x => ltInt x e[a]!) e j s = scanUp (fun x => ltInt x e[a]!) e j i) (fun s => j + 1 - s) (fun s => [(0, .gs 0 n c), (1, .v (.int .i64 a)), (10, .v (.int .i64 s)), (11, .v (.int .i64 j))]) (fun _ => [⟨B.id, B.nul, B.live, bd⟩]) (i) rfl ⟨by omega, by omega, rfl⟩ rfl ⟨rfl, rfl, rfl, rfl, trivial⟩ ?_
        rintro s ⟨hs1, hs2, hs3⟩ againS
        refine wp_drawc ((112, .v (.bool (decide (s ≤ j) && ltInt e[s]! e[a]!))) :: [(0, .gs 0 n c), (1, .v (.int .i64 a)), (10, .v (.int .i64 s)), (11, .v (.int .i64 j))]) rfl rfl (by kernel_rfl) rfl ?_ ?_
        · by_cases hc : s ≤ j
          · obtain ⟨x1, x2, lx, x3, x4⟩ := ho.atU (i := s) (by omega)
            obtain ⟨y1, y2, ly, y3, y4⟩ := ho.atU (i := a) (by omega)
            refine dq_brT rfl (by simp; omega) ?_
            refine dq_idxgn (s) rfl rfl x2 (by first | rfl | (simp only [wrapE]; omega)) (by omega) ?_
            refine dq_loadx rfl rfl x1 x3 x4 ?_
            refine dq_idxgn (a) rfl rfl x2 (by first | rfl | (simp only [wrapE]; omega)) (by omega) ?_
            refine dq_loadx rfl rfl y1 y3 y4 ?_
            refine dq_pure rfl (lessQ h _ _) ?_
            exact dq_done rfl ⟨⟨_, rfl, by simp [conc, hc]⟩, ⟨_, rfl, rfl⟩, ⟨_, rfl, rfl⟩, ⟨_, rfl, rfl⟩, ⟨_, rfl, rfl⟩, trivial⟩
          · refine dq_brF rfl (by simp; omega) ?_
            exact dq_done rfl ⟨⟨_, rfl, by rw [decide_eq_false hc]; rfl⟩, ⟨_, rfl, rfl⟩, ⟨_, rfl, rfl⟩, ⟨_, rfl, rfl⟩, ⟨_, rfl, rfl⟩, trivial⟩
        refine wp_br rfl (fun hc => ?_) (fun hc => ?_)
        · have hcb : s ≤ j := of_decide_eq_true (Bool.and_eq_true_iff.1 hc).1
          have hst : scanUp (fun x => ltInt x e[a]!) e j s = scanUp (fun x => ltInt x e[a]!) e j (s + 1) := by rw [scanUp]; exact if_pos hc
          exact wp_again rfl (againS (s + 1) ⟨by omega, by omega, by rw [← hst]; exact hs3⟩ (by omega)) ⟨rfl, rfl, eqI (by simp only [wrapE]; omega), rfl, trivial⟩
        · have hst : scanUp (fun x => ltInt x e[a]!) e j s = s := by rw [scanUp]; exact if_neg (by intro hh; have := hh.symm.trans hc; cases this)
          have hi2 : s = scanUp (fun x => ltInt x e[a]!) e j i := by rw [← hs3, hst]
          have hi2c := hc
          clear hst hs3 againS hc
          obtain ⟨i2, rfl⟩ : ∃ k, k = s := ⟨s, rfl⟩
          refine wp_for (σ := Nat) (fun s => s ≤ j ∧ i2 ≤ s + 1 ∧ scanDown (fun x => !ltInt x e[a]!) e i2 s = scanDown (fun x => !ltInt x e[a]!) e i2 j) (fun s => s) (fun s => [(0, .gs 0 n c), (1, .v (.int .i64 a)), (10, .v (.int .i64 i2)), (11, .v (.int .i64 s))]) (fun _ => [⟨B.id, B.nul, B.live, bd⟩]) (j) rfl ⟨by omega, by omega, rfl⟩ rfl ⟨rfl, rfl, rfl, rfl, trivial⟩ ?_
          rintro s ⟨hs1, hs2, hs3⟩ againS
          refine wp_drawc ((129, .v (.bool (decide (i2 ≤ s) && !ltInt e[s]! e[a]!))) :: [(0, .gs 0 n c), (1, .v (.int .i64 a)), (10, .v (.int .i64 i2)), (11, .v (.int .i64 s))]) rfl rfl (by kernel_rfl) rfl ?_ ?_
          · by_cases hc : i2 ≤ s
            · obtain ⟨x1, x2, lx, x3, x4⟩ := ho.atU (i := s) (by omega)
              obtain ⟨y1, y2, ly, y3, y4⟩ := ho.atU (i := a) (by omega)
              refine dq_brT rfl (by simp; omega) ?_
              refine dq_idxgn (s) rfl rfl x2 (by first | rfl | (simp only [wrapE]; omega)) (by omega) ?_
              refine dq_loadx rfl rfl x1 x3 x4 ?_
              refine dq_idxgn (a) rfl rfl x2 (by first | rfl | (simp only [wrapE]; omega)) (by omega) ?_
              refine dq_loadx rfl rfl y1 y3 y4 ?_
              refine dq_pure rfl (lessQ h _ _) ?_
              exact dq_done rfl ⟨⟨_, rfl, by simp [conc, hc]⟩, ⟨_, rfl, rfl⟩, ⟨_, rfl, rfl⟩, ⟨_, rfl, rfl⟩, ⟨_, rfl, rfl⟩, trivial⟩
            · refine dq_brF rfl (by simp; omega) ?_
              exact dq_done rfl ⟨⟨_, rfl, by rw [decide_eq_false hc]; rfl⟩, ⟨_, rfl, rfl⟩, ⟨_, rfl, rfl⟩, ⟨_, rfl, rfl⟩, ⟨_, rfl, rfl⟩, trivial⟩
          refine wp_br rfl (fun hc => ?_) (fun hc => ?_)
          · have hcb : i2 ≤ s := of_decide_eq_true (Bool.and_eq_true_iff.1 hc).1
            obtain ⟨k, rfl⟩ : ∃ k, s = k + 1 := ⟨s - 1, by omega⟩
            have hst : scanDown (fun x => !ltInt x e[a]!) e i2 (k + 1) = scanDown (fun x => !ltInt x e[a]!) e i2 k := by rw [scanDown]; exact if_pos hc
            exact wp_again rfl (againS k ⟨by omega, by omega, by rw [← hst]; exact hs3⟩ (by omega)) ⟨rfl, rfl, rfl, eqI (by simp only [wrapE]; omega), trivial⟩
          · have hst : scanDown (fun x => !ltInt x e[a]!) e i2 s = s := by
              cases s with
              | zero => rfl
              | succ k => rw [scanDown]; exact if_neg (by intro hh; have := hh.symm.trans hc; cases this)
            have hj2 : s = scanDown (fun x => !ltInt x e[a]!) e i2 j := by rw [← hs3, hst]
            have hj2c := hc
            clear hst hs3 againS hc
            obtain ⟨j2, rfl⟩ : ∃ k, k = s := ⟨s, rfl⟩
            rw [partLoop_eq, ← hi2, ← hj2] at hgo
            refine wp_br rfl (fun h3 => ?_) (fun h3 => ?_)
            · have h4 : i2 > j2 := by simp at h3; omega
              rw [if_pos h4] at hgo
              rw [← hgo] at hres
              obtain ⟨qi1, qi2, li, qi3, qi4⟩ := ho.atU (i := j2) (by omega)
              obtain ⟨qj1, qj2, lj, qj3, qj4⟩ := ho.atU (i := a) (by omega)
              have hsz := ho.szU
              refine wp_drawn rfl rfl rfl [0, 1, 2, 3, 4, 5, 6, 7, 8, 9, 10, 11, 12, 13, 14, 15] (by kernel_rfl) ?_
              refine dn_idxgn (a) rfl rfl qj2 (by first | rfl | (simp only [wrapE]; omega)) (by omega) ?_
              refine dn_loadx rfl rfl qj1 qj3 qj4 ?_
              refine dn_idxgn (j2) rfl rfl qi2 (by first | rfl | (simp only [wrapE]; omega)) (by omega) ?_
              refine dn_loadx rfl rfl qi1 qi3 qi4 ?_
              refine dn_idxgn (j2) rfl rfl qi2 (by first | rfl | (simp only [wrapE]; omega)) (by omega) ?_
              refine dn_put (j2) rfl rfl rfl rfl ho (off1 _) (by omega) rfl rfl rfl ?_
              intro bd3 ow3 ho3 hw3
              cases hw3
              refine dn_idxgn (a) rfl rfl qi2 (by first | rfl | (simp only [wrapE]; omega)) (by omega) ?_
              refine dn_put (a) rfl rfl rfl rfl ho3 (off1 _) (by omega) rfl rfl rfl ?_
              intro bd4 ow4 ho4 hw4
              cases hw4
              refine dn_done rfl ?_
              rw [U_swp (by omega) (by omega)] at ho4
              refine wp_ret _ rfl rfl (List.Sublist.refl _) ⟨bd4, rfl, rfl, ?_, ?_⟩
              · rw [hres]; rfl
              · rw [hres]; exact ho4
            · have h4 : ¬ i2 > j2 := by simp at h3; omega
              rw [if_neg h4] at hgo
              have h5 : i2 ≠ j2 := by
                rintro rfl
                simp only [Nat.le_refl, decide_true, Bool.true_and] at hj2c
                have hj2c' : ltInt e[i2]! e[a]! = true := by simpa using hj2c
                rw [hj2c'] at hi2c
                simp at hi2c
                omega
              obtain ⟨qi1, qi2, li, qi3, qi4⟩ := ho.atU (i := i2) (by omega)
              obtain ⟨qj1, qj2, lj, qj3, qj4⟩ := ho.atU (i := j2) (by omega)
              have hsz := ho.szU
              refine wp_drawn rfl rfl rfl [0, 1, 2, 3, 4, 5, 6, 7, 8, 9, 10, 11, 12, 13, 14, 15] (by kernel_rfl) ?_
              refine dn_idxgn (j2) rfl rfl qj2 (by first | rfl | (simp only [wrapE]; omega)) (by omega) ?_
              refine dn_loadx rfl rfl qj1 qj3 qj4 ?_
              refine dn_idxgn (i2) rfl rfl qi2 (by first | rfl | (simp only [wrapE]; omega)) (by omega) ?_
              refine dn_loadx rfl rfl qi1 qi3 qi4 ?_
              refine dn_idxgn (i2) rfl rfl qi2 (by first | rfl | (simp only [wrapE]; omega)) (by omega) ?_
              refine dn_put (i2) rfl rfl rfl rfl ho (off1 _) (by omega) rfl rfl rfl ?_
              intro bd3 ow3 ho3 hw3
              cases hw3
              refine dn_idxgn (j2) rfl rfl qi2 (by first | rfl | (simp only [wrapE]; omega)) (by omega) ?_
              refine dn_put (j2) rfl rfl rfl rfl ho3 (off1 _) (by omega) rfl rfl rfl ?_
              intro bd4 ow4 ho4 hw4
              cases hw4
              refine dn_done rfl ?_
              rw [U_swp (by omega) (by omega)] at ho4
              exact wp_again rfl (again (i2 + 1, j2 - 1, bd4, _) ⟨by dsimp only; omega, by dsimp only; omega, by dsimp only; omega, by dsimp only; omega, ho4, hgo⟩ (by dsimp only; omega)) ⟨rfl, rfl, eqI (by simp only [wrapE]; omega), eqI (by simp only [wrapE]; omega), trivial⟩
end Go.Vc
namespace Go.Vc
set_option linter.unusedSimpArgs false
open Go.Proofs Go.Lib Go.Sort
set_option linter.unusedVariables false
set_option maxRecDepth 20000

theorem partial_spec (h : PHeap) (B : Blk) (n c : Nat) (d : Array Int) (hB : OwnSl B 86 1 n c (U d.toList)) (hn : n ≤ 1000000000) (a b : Nat) (hab : a < b) (hb : b ≤ n) :
    Chg Try.prog 143 [.slice (nulAddr B) n c, .int .i64 a, .int .i64 b] h B fun v h' bd => h' = h ∧ v = .bool (partialInsertionSort ltInt d a b).2 ∧ OwnSl ⟨B.id, B.nul, B.live, bd⟩ 86 1 n c (U (partialInsertionSort ltInt d a b).1.toList) := by
  refine Chg.of_wps (env := [(0, .gs 0 n c), (1, .v (.int .i64 a)), (2, .v (.int .i64 b))]) [.gs 0 n c, .v (.int .i64 a), .v (.int .i64 b)] Try.func143 Try.call143 rfl rfl rfl rfl ?_
  refine wp_for (σ := Nat × Nat × Body × Array Int) (fun s => s.1 ≤ 5 ∧ a < s.2.1 ∧ s.2.1 ≤ b ∧ OwnSl ⟨B.id, B.nul, B.live, s.2.2.1⟩ 86 1 n c (U s.2.2.2.toList) ∧ partialIns ltInt a b (5 - s.1) s.2.1 s.2.2.2 = partialInsertionSort ltInt d a b) (fun s => 5 - s.1)
    (fun s => [(0, .gs 0 n c), (1, .v (.int .i64 a)), (2, .v (.int .i64 b)), (7, .v (.int .i64 s.2.1)), (8, .v (.int .i64 s.1))]) (fun s => [⟨B.id, B.nul, B.live, s.2.2.1⟩]) (0, a + 1, B.body, d) rfl ⟨by dsimp only; omega, by dsimp only; omega, by dsimp only; omega, hB, rfl⟩ rfl ⟨rfl, rfl, rfl, eqI (by simp only [wrapE]; omega), rfl, trivial⟩ ?_
  clear hB
  rintro ⟨jj, i0, bd, e⟩ ⟨hjj, hai0, hib0, ho, hgo⟩ again
  dsimp only at hjj hai0 hib0 ho hgo again ⊢
  refine wp_br rfl (fun h1 => ?_) (fun h1 => ?_)
  · have h2 : jj < 5 := by simp at h1; omega
    obtain ⟨st, hst⟩ : ∃ k, 5 - jj = k + 1 := ⟨4 - jj, by omega⟩
    rw [hst, partialIns_succ] at hgo
    refine wp_for (σ := Nat) (fun s => i0 ≤ s ∧ s ≤ b ∧ scanSorted ltInt e b s = scanSorted ltInt e b i0) (fun s => b - s) (fun s => [(0, .gs 0 n c), (1, .v (.int .i64 a)), (2, .v (.int .i64 b)), (7, .v (.int .i64 s)), (8, .v (.int .i64 jj))]) (fun _ => [⟨B.id, B.nul, B.live, bd⟩]) i0 rfl ⟨by omega, by omega, rfl⟩ rfl ⟨rfl, rfl, rfl, rfl, rfl, trivial⟩ ?_
    rintro s ⟨hs1, hs2, hs3⟩ againS
    refine wp_drawc ((32, .v (.bool (decide (s < b) && !ltInt e[s]! e[s - 1]!))) :: [(0, .gs 0 n c), (1, .v (.int .i64 a)), (2, .v (.int .i64 b)), (7, .v (.int .i64 s)), (8, .v (.int .i64 jj))]) rfl rfl (by kernel_rfl) rfl ?_ ?_
    · by_cases hc : s < b
      · obtain ⟨x1, x2, lx, x3, x4⟩ := ho.atU (i := s) (by omega)
        obtain ⟨y1, y2, ly, y3, y4⟩ := ho.atU (i := (s - 1)) (by omega)
        refine dq_brT rfl (by simp; omega) ?_
        refine dq_idxgn (s) rfl rfl x2 (by first | rfl | (simp only [wrapE]; omega)) (by omega) ?_
        refine dq_loadx rfl rfl x1 x3 x4 ?_
        refine dq_idxgn ((s - 1)) rfl rfl x2 (by first | rfl | (simp only [wrapE]; omega)) (by omega) ?_
        refine dq_loadx rfl rfl y1 y3 y4 ?_
        refine dq_pure rfl (lessQ h _ _) ?_
        exact dq_done rfl ⟨⟨_, rfl, by simp [conc, hc]⟩, ⟨_, rfl, rfl⟩, ⟨_, rfl, rfl⟩, ⟨_, rfl, rfl⟩, ⟨_, rfl, rfl⟩, ⟨_, rfl, rfl⟩, trivial⟩
      · refine dq_brF rfl (by simp; omega) ?_
        exact dq_done rfl ⟨⟨_, rfl, by rw [decide_eq_false hc]; rfl⟩, ⟨_, rfl, rfl⟩, ⟨_, rfl, rfl⟩, ⟨_, rfl, rfl⟩, ⟨_, rfl, rfl⟩, ⟨_, rfl, rfl⟩, trivial⟩
    refine wp_br rfl (fun hc => ?_) (fun hc => ?_)
    · have hcb : s < b := of_decide_eq_true (Bool.and_eq_true_iff.1 hc).1
      have hst2 : scanSorted ltInt e b s = scanSorted ltInt e b (s + 1) := by rw [scanSorted]; exact if_pos hc
      exact wp_again rfl (againS (s + 1) ⟨by omega, by omega, by rw [← hst2]; exact hs3⟩ (by omega)) ⟨rfl, rfl, rfl, eqI (by simp only [wrapE]; omega), rfl, trivial⟩
    · have hst2 : scanSorted ltInt e b s = s := by rw [scanSorted]; exact if_neg (by intro hh; have := hh.symm.trans hc; cases this)
      rw [hst2] at hs3
      obtain ⟨i, rfl⟩ : ∃ k, k = s := ⟨s, rfl⟩
      rw [← hs3] at hgo
      clear againS hst2 hc
      refine wp_br rfl (fun h3 => ?_) (fun h3 => ?_)
      · have h4 : i = b := by simp at h3; omega
        rw [if_pos h4] at hgo
        exact wp_ret _ rfl rfl (List.Sublist.refl _) ⟨bd, rfl, rfl, by rw [← hgo]; rfl, by rw [← hgo]; exact ho⟩
      · have h4 : i ≠ b := by simp at h3; omega
        rw [if_neg h4] at hgo
        refine wp_br rfl (fun h5 => ?_) (fun h5 => ?_)
        · have h6 : b - a < 50 := by simp [wrapE] at h5; omega
          rw [if_pos h6] at hgo
          exact wp_ret _ rfl rfl (List.Sublist.refl _) ⟨bd, rfl, rfl, by rw [← hgo]; rfl, by rw [← hgo]; exact ho⟩
        · have h6 : ¬ b - a < 50 := by simp [wrapE] at h5; omega
          rw [if_neg h6] at hgo
          rw [show st = 5 - jj - 1 from by omega] at hgo
          obtain ⟨ed, hfd⟩ : ∃ x, x = fixDown ltInt a i (swp e i (i - 1)) := ⟨_, rfl⟩
          rw [← hfd] at hgo
          obtain ⟨eu, hfu⟩ : ∃ x, x = fixUp ltInt b i ed := ⟨_, rfl⟩
          rw [← hfu] at hgo
          unfold fixDown at hfd
          unfold fixUp at hfu
          obtain ⟨qi1, qi2, li, qi3, qi4⟩ := ho.atU (i := i) (by omega)
          obtain ⟨qj1, qj2, lj, qj3, qj4⟩ := ho.atU (i := (i - 1)) (by omega)
          have hsz := ho.szU
          refine wp_drawn rfl rfl rfl [0, 1, 2, 3, 4, 5, 6, 7, 8, 9, 10, 11, 12, 13, 14, 15, 16, 17] (by kernel_rfl) ?_
          refine dn_idxgn ((i - 1)) rfl rfl qj2 (by first | rfl | (simp only [wrapE]; omega)) (by omega) ?_
          refine dn_loadx rfl rfl qj1 qj3 qj4 ?_
          refine dn_idxgn (i) rfl rfl qi2 (by first | rfl | (simp only [wrapE]; omega)) (by omega) ?_
          refine dn_loadx rfl rfl qi1 qi3 qi4 ?_
          refine dn_idxgn (i) rfl rfl qi2 (by first | rfl | (simp only [wrapE]; omega)) (by omega) ?_
          refine dn_put (i) rfl rfl rfl rfl ho (off1 _) (by omega) rfl rfl rfl ?_
          intro bd3 ow3 ho3 hw3
          cases hw3
          refine dn_idxgn ((i - 1)) rfl rfl qi2 (by first | rfl | (simp only [wrapE]; omega)) (by omega) ?_
          refine dn_put ((i - 1)) rfl rfl rfl rfl ho3 (off1 _) (by omega) rfl rfl rfl ?_
          intro bd4 ow4 ho4 hw4
          cases hw4
          refine dn_done rfl ?_
          rw [U_swp (by omega) (by omega)] at ho4
          refine wp_br rfl (fun f1 => ?_) (fun f1 => ?_)
          · have hf1 : i - a ≥ 2 := by simp [wrapE] at f1; omega
            rw [if_pos hf1] at hfd
            refine wp_for (σ := Nat × Body × Array Int) (fun s => s.1 < i ∧ OwnSl ⟨B.id, B.nul, B.live, s.2.1⟩ 86 1 n c (U s.2.2.toList) ∧ shiftDown ltInt s.1 s.2.2 = shiftDown ltInt (i - 1) (swp e i (i - 1))) (fun s => s.1)
              (fun s => [(0, .gs 0 n c), (1, .v (.int .i64 a)), (2, .v (.int .i64 b)), (7, .v (.int .i64 i)), (8, .v (.int .i64 jj)), (9, .v (.int .i64 s.1))]) (fun s => [⟨B.id, B.nul, B.live, s.2.1⟩]) (i - 1, bd4, swp e i (i - 1)) rfl ⟨by dsimp only; omega, ho4, rfl⟩ rfl ⟨rfl, rfl, rfl, rfl, rfl, eqI (by simp only [wrapE]; omega), trivial⟩ ?_
            rintro ⟨q, bdq, eq⟩ ⟨hq1, hoq, hgq⟩ againq
            dsimp only at hq1 hoq hgq againq ⊢
            clear hsz qi1 qi2 qi3 qi4 qj1 qj2 qj3 qj4 ho4
            refine wp_br rfl (fun f2 => ?_) (fun f2 => ?_)
            · obtain ⟨q, rfl⟩ : ∃ k, q = k + 1 := ⟨q - 1, by simp at f2; omega⟩
              obtain ⟨x1, x2, lx, x3, x4⟩ := hoq.atU (i := (q + 1)) (by omega)
              obtain ⟨y1, y2, ly, y3, y4⟩ := hoq.atU (i := q) (by omega)
              refine wp_draw rfl rfl (by kernel_rfl) rfl ?_
              refine dq_idxgn ((q + 1)) rfl rfl x2 (by first | rfl | (simp only [wrapE]; omega)) (by omega) ?_
              refine dq_loadx rfl rfl x1 x3 x4 ?_
              refine dq_idxgn (q) rfl rfl x2 (by first | rfl | (simp only [wrapE]; omega)) (by omega) ?_
              refine dq_loadx rfl rfl y1 y3 y4 ?_
              refine dq_pure rfl (lessQ h _ _) ?_
              refine dq_done rfl ?_
              refine wp_br rfl (fun f3 => ?_) (fun f3 => ?_)
              · have hst : shiftDown ltInt (q + 1) eq = eq := by rw [shiftDown]; exact if_pos (by simpa using f3)
                rw [← hgq, hst] at hfd
                rw [hfd] at hfu
                refine wp_br rfl (fun g1 => ?_) (fun g1 => ?_)
                · have hg1 : b - i ≥ 2 := by simp [wrapE] at g1; omega
                  refine wp_for (σ := Nat × Body × Array Int) (fun s => i < s.1 ∧ s.1 ≤ b ∧ OwnSl ⟨B.id, B.nul, B.live, s.2.1⟩ 86 1 n c (U s.2.2.toList) ∧ shiftUp ltInt b s.1 s.2.2 = shiftUp ltInt b (i + 1) eq) (fun s => b - s.1)
                    (fun s => [(0, .gs 0 n c), (1, .v (.int .i64 a)), (2, .v (.int .i64 b)), (7, .v (.int .i64 i)), (8, .v (.int .i64 jj)), (10, .v (.int .i64 s.1))]) (fun s => [⟨B.id, B.nul, B.live, s.2.1⟩]) (i + 1, bdq, eq) rfl ⟨by dsimp only; omega, by dsimp only; omega, hoq, rfl⟩ rfl ⟨rfl, rfl, rfl, rfl, rfl, eqI (by simp only [wrapE]; omega), trivial⟩ ?_
                  rintro ⟨u, bdu, eq2⟩ ⟨hu1, hu2, hou, hgu⟩ againu
                  dsimp only at hu1 hu2 hou hgu againu ⊢
                  refine wp_br rfl (fun g2 => ?_) (fun g2 => ?_)
                  · have hg2 : u < b := by simp at g2; omega
                    obtain ⟨x1, x2, lx, x3, x4⟩ := hou.atU (i := u) (by omega)
                    obtain ⟨y1, y2, ly, y3, y4⟩ := hou.atU (i := (u - 1)) (by omega)
                    refine wp_draw rfl rfl (by kernel_rfl) rfl ?_
                    refine dq_idxgn (u) rfl rfl x2 (by first | rfl | (simp only [wrapE]; omega)) (by omega) ?_
                    refine dq_loadx rfl rfl x1 x3 x4 ?_
                    refine dq_idxgn ((u - 1)) rfl rfl x2 (by first | rfl | (simp only [wrapE]; omega)) (by omega) ?_
                    refine dq_loadx rfl rfl y1 y3 y4 ?_
                    refine dq_pure rfl (lessQ h _ _) ?_
                    refine dq_done rfl ?_
                    refine wp_br rfl (fun g3 => ?_) (fun g3 => ?_)
                    · have hst : shiftUp ltInt b u eq2 = eq2 := by rw [shiftUp, if_pos hg2]; exact if_pos (by simpa using g3)
                      rw [← hgu, hst] at hfu
                      exact wp_again rfl (again (jj + 1, i, bdu, eq2) ⟨by dsimp only; omega, by dsimp only; omega, by dsimp only; omega, hou, by dsimp only; rw [hfu, if_pos hg1] at hgo; rw [show 5 - (jj + 1) = 5 - jj - 1 from by omega]; exact hgo⟩ (by dsimp only; omega)) ⟨rfl, rfl, rfl, rfl, eqI (by simp only [wrapE]; omega), trivial⟩
                    · have hst : shiftUp ltInt b u eq2 = shiftUp ltInt b (u + 1) (swp eq2 u (u - 1)) := by rw [shiftUp, if_pos hg2]; exact if_neg (by simpa using g3)
                      obtain ⟨qi1, qi2, li, qi3, qi4⟩ := hou.atU (i := u) (by omega)
                      obtain ⟨qj1, qj2, lj, qj3, qj4⟩ := hou.atU (i := (u - 1)) (by omega)
                      have hsz := hou.szU
                      refine wp_drawn rfl rfl rfl [0, 1, 2, 3, 4, 5, 6, 7, 8, 9, 10, 11, 12, 13, 14, 15, 16, 17] (by kernel_rfl) ?_
                      refine dn_idxgn ((u - 1)) rfl rfl qj2 (by first | rfl | (simp only [wrapE]; omega)) (by omega) ?_
                      refine dn_loadx rfl rfl qj1 qj3 qj4 ?_
                      refine dn_idxgn (u) rfl rfl qi2 (by first | rfl | (simp only [wrapE]; omega)) (by omega) ?_
                      refine dn_loadx rfl rfl qi1 qi3 qi4 ?_
                      refine dn_idxgn (u) rfl rfl qi2 (by first | rfl | (simp only [wrapE]; omega)) (by omega) ?_
                      refine dn_put (u) rfl rfl rfl rfl hou (off1 _) (by omega) rfl rfl rfl ?_
                      intro bd3 ow3 ho3 hw3
                      cases hw3
                      refine dn_idxgn ((u - 1)) rfl rfl qi2 (by first | rfl | (simp only [wrapE]; omega)) (by omega) ?_
                      refine dn_put ((u - 1)) rfl rfl rfl rfl ho3 (off1 _) (by omega) rfl rfl rfl ?_
                      intro bd4 ow4 ho4 hw4
                      cases hw4
                      refine dn_done rfl ?_
                      rw [U_swp (by omega) (by omega)] at ho4
                      exact wp_again rfl (againu (u + 1, bd4, swp eq2 u (u - 1)) ⟨by dsimp only; omega, by dsimp only; omega, ho4, by dsimp only; rw [← hst]; exact hgu⟩ (by dsimp only; omega)) ⟨rfl, rfl, rfl, rfl, rfl, eqI (by simp only [wrapE]; omega), trivial⟩
                  · have hg2 : ¬ u < b := by simp at g2; omega
                    have hst : shiftUp ltInt b u eq2 = eq2 := by rw [shiftUp, if_neg hg2]
                    rw [← hgu, hst] at hfu
                    exact wp_again rfl (again (jj + 1, i, bdu, eq2) ⟨by dsimp only; omega, by dsimp only; omega, by dsimp only; omega, hou, by dsimp only; rw [hfu, if_pos hg1] at hgo; rw [show 5 - (jj + 1) = 5 - jj - 1 from by omega]; exact hgo⟩ (by dsimp only; omega)) ⟨rfl, rfl, rfl, rfl, eqI (by simp only [wrapE]; omega), trivial⟩
                · have hg1 : ¬ b - i ≥ 2 := by simp [wrapE] at g1; omega
                  exact wp_again rfl (again (jj + 1, i, bdq, eq) ⟨by dsimp only; omega, by dsimp only; omega, by dsimp only; omega, hoq, by dsimp only; rw [hfu, if_neg hg1] at hgo; rw [show 5 - (jj + 1) = 5 - jj - 1 from by omega]; exact hgo⟩ (by dsimp only; omega)) ⟨rfl, rfl, rfl, rfl, eqI (by simp only [wrapE]; omega), trivial⟩
              · have hst : shiftDown ltInt (q + 1) eq = shiftDown ltInt q (swp eq (q + 1) q) := by rw [shiftDown]; exact if_neg (by simpa using f3)
                obtain ⟨qi1, qi2, li, qi3, qi4⟩ := hoq.atU (i := (q + 1)) (by omega)
                obtain ⟨qj1, qj2, lj, qj3, qj4⟩ := hoq.atU (i := q) (by omega)
                have hsz := hoq.szU
                refine wp_drawn rfl rfl rfl [0, 1, 2, 3, 4, 5, 6, 7, 8, 9, 10, 11, 12, 13, 14, 15, 16, 17] (by kernel_rfl) ?_
                refine dn_idxgn (q) rfl rfl qj2 (by first | rfl | (simp only [wrapE]; omega)) (by omega) ?_
                refine dn_loadx rfl rfl qj1 qj3 qj4 ?_
                refine dn_idxgn ((q + 1)) rfl rfl qi2 (by first | rfl | (simp only [wrapE]; omega)) (by omega) ?_
                refine dn_loadx rfl rfl qi1 qi3 qi4 ?_
                refine dn_idxgn ((q + 1)) rfl rfl qi2 (by first | rfl | (simp only [wrapE]; omega)) (by omega) ?_
                refine dn_put ((q + 1)) rfl rfl rfl rfl hoq (off1 _) (by omega) rfl rfl rfl ?_
                intro bd3 ow3 ho3 hw3
                cases hw3
                refine dn_idxgn (q) rfl rfl qi2 (by first | rfl | (simp only [wrapE]; omega)) (by omega) ?_
                refine dn_put (q) rfl rfl rfl rfl ho3 (off1 _) (by omega) rfl rfl rfl ?_
                intro bd4 ow4 ho4 hw4
                cases hw4
                refine dn_done rfl ?_
                rw [U_swp (by omega) (by omega)] at ho4
                exact wp_again rfl (againq (q, bd4, swp eq (q + 1) q) ⟨by dsimp only; omega, ho4, by dsimp only; rw [← hst]; exact hgq⟩ (by dsimp only; omega)) ⟨rfl, rfl, rfl, rfl, rfl, eqI (by simp only [wrapE]; omega), trivial⟩
            · have hf2 : q = 0 := by simp at f2; omega
              subst hf2
              have hst : shiftDown ltInt 0 eq = eq := rfl
              rw [← hgq, hst] at hfd
              rw [hfd] at hfu
              refine wp_br rfl (fun g1 => ?_) (fun g1 => ?_)
              · have hg1 : b - i ≥ 2 := by simp [wrapE] at g1; omega
                refine wp_for (σ := Nat × Body × Array Int) (fun s => i < s.1 ∧ s.1 ≤ b ∧ OwnSl ⟨B.id, B.nul, B.live, s.2.1⟩ 86 1 n c (U s.2.2.toList) ∧ shiftUp ltInt b s.1 s.2.2 = shiftUp ltInt b (i + 1) eq) (fun s => b - s.1)
                  (fun s => [(0, .gs 0 n c), (1, .v (.int .i64 a)), (2, .v (.int .i64 b)), (7, .v (.int .i64 i)), (8, .v (.int .i64 jj)), (10, .v (.int .i64 s.1))]) (fun s => [⟨B.id, B.nul, B.live, s.2.1⟩]) (i + 1, bdq, eq) rfl ⟨by dsimp only; omega, by dsimp only; omega, hoq, rfl⟩ rfl ⟨rfl, rfl, rfl, rfl, rfl, eqI (by simp only [wrapE]; omega), trivial⟩ ?_
                rintro ⟨u, bdu, eq2⟩ ⟨hu1, hu2, hou, hgu⟩ againu
                dsimp only at hu1 hu2 hou hgu againu ⊢
                refine wp_br rfl (fun g2 => ?_) (fun g2 => ?_)
                · have hg2 : u < b := by simp at g2; omega
                  obtain ⟨x1, x2, lx, x3, x4⟩ := hou.atU (i := u) (by omega)
                  obtain ⟨y1, y2, ly, y3, y4⟩ := hou.atU (i := (u - 1)) (by omega)
                  refine wp_draw rfl rfl (by kernel_rfl) rfl ?_
                  refine dq_idxgn (u) rfl rfl x2 (by first | rfl | (simp only [wrapE]; omega)) (by omega) ?_
                  refine dq_loadx rfl rfl x1 x3 x4 ?_
                  refine dq_idxgn ((u - 1)) rfl rfl x2 (by first | rfl | (simp only [wrapE]; omega)) (by omega) ?_
                  refine dq_loadx rfl rfl y1 y3 y4 ?_
                  refine dq_pure rfl (lessQ h _ _) ?_
                  refine dq_done rfl ?_
                  refine wp_br rfl (fun g3 => ?_) (fun g3 => ?_)
                  · have hst : shiftUp ltInt b u eq2 = eq2 := by rw [shiftUp, if_pos hg2]; exact if_pos (by simpa using g3)
                    rw [← hgu, hst] at hfu
                    exact wp_again rfl (again (jj + 1, i, bdu, eq2) ⟨by dsimp only; omega, by dsimp only; omega, by dsimp only; omega, hou, by dsimp only; rw [hfu, if_pos hg1] at hgo; rw [show 5 - (jj + 1) = 5 - jj - 1 from by omega]; exact hgo⟩ (by dsimp only; omega)) ⟨rfl, rfl, rfl, rfl, eqI (by simp only [wrapE]; omega), trivial⟩
                  · have hst : shiftUp ltInt b u eq2 = shiftUp ltInt b (u + 1) (swp eq2 u (u - 1)) := by rw [shiftUp, if_pos hg2]; exact if_neg (by simpa using g3)
                    obtain ⟨qi1, qi2, li, qi3, qi4⟩ := hou.atU (i := u) (by omega)
                    obtain ⟨qj1, qj2, lj, qj3, qj4⟩ := hou.atU (i := (u - 1)) (by omega)
                    have hsz := hou.szU
                    refine wp_drawn rfl rfl rfl [0, 1, 2, 3, 4, 5, 6, 7, 8, 9, 10, 11, 12, 13, 14, 15, 16, 17] (by kernel_rfl) ?_
                    refine dn_idxgn ((u - 1)) rfl rfl qj2 (by first | rfl | (simp only [wrapE]; omega)) (by omega) ?_
                    refine dn_loadx rfl rfl qj1 qj3 qj4 ?_
                    refine dn_idxgn (u) rfl rfl qi2 (by first | rfl | (simp only [wrapE]; omega)) (by omega) ?_
                    refine dn_loadx rfl rfl qi1 qi3 qi4 ?_
                    refine dn_idxgn (u) rfl rfl qi2 (by first | rfl | (simp only [wrapE]; omega)) (by omega) ?_
                    refine dn_put (u) rfl rfl rfl rfl hou (off1 _) (by omega) rfl rfl rfl ?_
                    intro bd3 ow3 ho3 hw3
                    cases hw3
                    refine dn_idxgn ((u - 1)) rfl rfl qi2 (by first | rfl | (simp only [wrapE]; omega)) (by omega) ?_
                    refine dn_put ((u - 1)) rfl rfl rfl rfl ho3 (off1 _) (by omega) rfl rfl rfl ?_
                    intro bd4 ow4 ho4 hw4
                    cases hw4
                    refine dn_done rfl ?_
                    rw [U_swp (by omega) (by omega)] at ho4
                    exact wp_again rfl (againu (u + 1, bd4, swp eq2 u (u - 1)) ⟨by dsimp only; omega, by dsimp only; omega, ho4, by dsimp only; rw [← hst]; exact hgu⟩ (by dsimp only; omega)) ⟨rfl, rfl, rfl, rfl, rfl, eqI (by simp only [wrapE]; omega), trivial⟩
                · have hg2 : ¬ u < b := by simp at g2; omega
                  have hst : shiftUp ltInt b u eq2 = eq2 := by rw [shiftUp, if_neg hg2]
                  rw [← hgu, hst] at hfu
                  exact wp_again rfl (again (jj + 1, i, bdu, eq2) ⟨by dsimp only; omega, by dsimp only; omega, by dsimp only; omega, hou, by dsimp only; rw [hfu, if_pos hg1] at hgo; rw [show 5 - (jj + 1) = 5 - jj - 1 from by omega]; exact hgo⟩ (by dsimp only; omega)) ⟨rfl, rfl, rfl, rfl, eqI (by simp only [wrapE]; omega), trivial⟩
              · have hg1 : ¬ b - i ≥ 2 := by simp [wrapE] at g1; omega
                exact wp_again rfl (again (jj + 1, i, bdq, eq) ⟨by dsimp only; omega, by dsimp only; omega, by dsimp only; omega, hoq, by dsimp only; rw [hfu, if_neg hg1] at hgo; rw [show 5 - (jj + 1) = 5 - jj - 1 from by omega]; exact hgo⟩ (by dsimp only; omega)) ⟨rfl, rfl, rfl, rfl, eqI (by simp only [wrapE]; omega), trivial⟩
          · have hf1 : ¬ i - a ≥ 2 := by simp [wrapE] at f1; omega
            rw [if_neg hf1] at hfd
            rw [hfd] at hfu
            refine wp_br rfl (fun g1 => ?_) (fun g1 => ?_)
            · have hg1 : b - i ≥ 2 := by simp [wrapE] at g1; omega
              refine wp_for (σ := Nat × Body × Array Int) (fun s => i < s.1 ∧ s.1 ≤ b ∧ OwnSl ⟨B.id, B.nul, B.live, s.2.1⟩ 86 1 n c (U s.2.2.toList) ∧ shiftUp ltInt b s.1 s.2.2 = shiftUp ltInt b (i + 1) (swp e i (i - 1))) (fun s => b - s.1)
                (fun s => [(0, .gs 0 n c), (1, .v (.int .i64 a)), (2, .v (.int .i64 b)), (7, .v (.int .i64 i)), (8, .v (.int .i64 jj)), (10, .v (.int .i64 s.1))]) (fun s => [⟨B.id, B.nul, B.live, s.2.1⟩]) (i + 1, bd4, (swp e i (i - 1))) rfl ⟨by dsimp only; omega, by dsimp only; omega, ho4, rfl⟩ rfl ⟨rfl, rfl, rfl, rfl, rfl, eqI (by simp only [wrapE]; omega), trivial⟩ ?_
              rintro ⟨u, bdu, eq2⟩ ⟨hu1, hu2, hou, hgu⟩ againu
              dsimp only at hu1 hu2 hou hgu againu ⊢
              refine wp_br rfl (fun g2 => ?_) (fun g2 => ?_)
              · have hg2 : u < b := by simp at g2; omega
                obtain ⟨x1, x2, lx, x3, x4⟩ := hou.atU (i := u) (by omega)
                obtain ⟨y1, y2, ly, y3, y4⟩ := hou.atU (i := (u - 1)) (by omega)
                refine wp_draw rfl rfl (by kernel_rfl) rfl ?_
                refine dq_idxgn (u) rfl rfl x2 (by first | rfl | (simp only [wrapE]; omega)) (by omega) ?_
                refine dq_loadx rfl rfl x1 x3 x4 ?_
                refine dq_idxgn ((u - 1)) rfl rfl x2 (by first | rfl | (simp only [wrapE]; omega)) (by omega) ?_
                refine dq_loadx rfl rfl y1 y3 y4 ?_
                refine dq_pure rfl (lessQ h _ _) ?_
                refine dq_done rfl ?_
                refine wp_br rfl (fun g3 => ?_) (fun g3 => ?_)
                · have hst : shiftUp ltInt b u eq2 = eq2 := by rw [shiftUp, if_pos hg2]; exact if_pos (by simpa using g3)
                  rw [← hgu, hst] at hfu
                  exact wp_again rfl (again (jj + 1, i, bdu, eq2) ⟨by dsimp only; omega, by dsimp only; omega, by dsimp only; omega, hou, by dsimp only; rw [hfu, if_pos hg1] at hgo; rw [show 5 - (jj + 1) = 5 - jj - 1 from by omega]; exact hgo⟩ (by dsimp only; omega)) ⟨rfl, rfl, rfl, rfl, eqI (by simp only [wrapE]; omega), trivial⟩
                · have hst : shiftUp ltInt b u eq2 = shiftUp ltInt b (u + 1) (swp eq2 u (u - 1)) := by rw [shiftUp, if_pos hg2]; exact if_neg (by simpa using g3)
                  obtain ⟨qi1, qi2, li, qi3, qi4⟩ := hou.atU (i := u) (by omega)
                  obtain ⟨qj1, qj2, lj, qj3, qj4⟩ := hou.atU (i := (u - 1)) (by omega)
                  have hsz := hou.szU
                  refine wp_drawn rfl rfl rfl [0, 1, 2, 3, 4, 5, 6, 7, 8, 9, 10, 11, 12, 13, 14, 15, 16, 17] (by kernel_rfl) ?_
                  refine dn_idxgn ((u - 1)) rfl rfl qj2 (by first | rfl | (simp only [wrapE]; omega)) (by omega) ?_
                  refine dn_loadx rfl rfl qj1 qj3 qj4 ?_
                  refine dn_idxgn (u) rfl rfl qi2 (by first | rfl | (simp only [wrapE]; omega)) (by omega) ?_
                  refine dn_loadx rfl rfl qi1 qi3 qi4 ?_
                  refine dn_idxgn (u) rfl rfl qi2 (by first | rfl | (simp only [wrapE]; omega)) (by omega) ?_
                  refine dn_put (u) rfl rfl rfl rfl hou (off1 _) (by omega) rfl rfl rfl ?_
                  intro bd3 ow3 ho3 hw3
                  cases hw3
                  refine dn_idxgn ((u - 1)) rfl rfl qi2 (by first | rfl | (simp only [wrapE]; omega)) (by omega) ?_
                  refine dn_put ((u - 1)) rfl rfl rfl rfl ho3 (off1 _) (by omega) rfl rfl rfl ?_
                  intro bd4 ow4 ho4 hw4
                  cases hw4
                  refine dn_done rfl ?_
                  rw [U_swp (by omega) (by omega)] at ho4
                  exact wp_again rfl (againu (u + 1, bd4, swp eq2 u (u - 1)) ⟨by dsimp only; omega, by dsimp only; omega, ho4, by dsimp only; rw [← hst]; exact hgu⟩ (by dsimp only; omega)) ⟨rfl, rfl, rfl, rfl, rfl, eqI (by simp only [wrapE]; omega), trivial⟩
              · have hg2 : ¬ u < b := by simp at g2; omega
                have hst : shiftUp ltInt b u eq2 = eq2 := by rw [shiftUp, if_neg hg2]
                rw [← hgu, hst] at hfu
                exact wp_again rfl (again (jj + 1, i, bdu, eq2) ⟨by dsimp only; omega, by dsimp only; omega, by dsimp only; omega, hou, by dsimp only; rw [hfu, if_pos hg1] at hgo; rw [show 5 - (jj + 1) = 5 - jj - 1 from by omega]; exact hgo⟩ (by dsimp only; omega)) ⟨rfl, rfl, rfl, rfl, eqI (by simp only [wrapE]; omega), trivial⟩
            · have hg1 : ¬ b - i ≥ 2 := by simp [wrapE] at g1; omega
              exact wp_again rfl (again (jj + 1, i, bd4, (swp e i (i - 1))) ⟨by dsimp only; omega, by dsimp only; omega, by dsimp only; omega, ho4, by dsimp only; rw [hfu, if_neg hg1] at hgo; rw [show 5 - (jj + 1) = 5 - jj - 1 from by omega]; exact hgo⟩ (by dsimp only; omega)) ⟨rfl, rfl, rfl, rfl, eqI (by simp only [wrapE]; omega), trivial⟩
  · have h2 : jj = 5 := by simp at h1; omega
    subst h2
    rw [Nat.sub_self, partialIns] at hgo
    exact wp_ret _ rfl rfl (List.Sublist.refl _) ⟨bd, rfl, rfl, by rw [← hgo]; rfl, by rw [← hgo]; exact ho⟩
end Go.Vc
namespace Go.Vc
set_option linter.unusedSimpArgs false
open Go.Proofs Go.Lib Go.Sort
set_option linter.unusedVariables false
set_option maxRecDepth 20000

theorem order2_spec (h : PHeap) (B : Blk) (n c : Nat) (d : Array Int) (hB : OwnSl B 86 1 n c (U d.toList)) (a b : Nat) (ha : a < n) (hb : b < n) (ci : Nat) (s : Int) :
    All Try.prog 162 [.slice (nulAddr B) n c, .int .i64 a, .int .i64 b, .pointer (some ⟨ci, 0, none⟩)] h [B, ⟨ci, false, true, .cells [.int .i64 s] 3⟩]
      fun v h' own' => h' = h ∧ ∃ (x y : Nat) (s' : Int), ((x = a ∧ y = b) ∨ (x = b ∧ y = a)) ∧ v = .tuple ⟨[.int .i64 x, .int .i64 y]⟩ ∧ own' = [B, ⟨ci, false, true, .cells [.int .i64 s'] 3⟩] := by
  refine All.of_wps (env := [(0, .gs 0 n c), (1, .v (.int .i64 a)), (2, .v (.int .i64 b)), (3, .loc 1 0)]) [.gs 0 n c, .v (.int .i64 a), .v (.int .i64 b), .loc 1 0] Try.func162 Try.call162 rfl rfl rfl rfl ?_
  obtain ⟨x1, x2, lx, x3, x4⟩ := hB.atU ha
  obtain ⟨y1, y2, ly, y3, y4⟩ := hB.atU hb
  refine wp_draw rfl rfl (by kernel_rfl) rfl ?_
  refine dq_idxgn b rfl rfl x2 rfl (by omega) ?_
  refine dq_loadx rfl rfl y1 y3 y4 ?_
  refine dq_idxgn a rfl rfl x2 rfl (by omega) ?_
  refine dq_loadx rfl rfl x1 x3 x4 ?_
  refine dq_pure rfl (lessQ h _ _) ?_
  refine dq_done rfl ?_
  refine wp_br rfl (fun h1 => ?_) (fun h1 => ?_)
  · exact wp_ret _ rfl rfl (List.Sublist.refl _) ⟨rfl, b, a, _, .inr ⟨rfl, rfl⟩, rfl, rfl⟩
  · exact wp_ret _ rfl rfl (List.Sublist.refl _) ⟨rfl, a, b, _, .inl ⟨rfl, rfl⟩, rfl, rfl⟩

theorem median_spec (h : PHeap) (B : Blk) (n c : Nat) (d : Array Int) (hB : OwnSl B 86 1 n c (U d.toList)) (x y z : Nat) (hx : x < n) (hy : y < n) (hz : z < n) (ci : Nat) (s : Int) :
    All Try.prog 158 [.slice (nulAddr B) n c, .int .i64 x, .int .i64 y, .int .i64 z, .pointer (some ⟨ci, 0, none⟩)] h [B, ⟨ci, false, true, .cells [.int .i64 s] 3⟩]
      fun v h' own' => h' = h ∧ ∃ (m : Nat) (s' : Int), (m = x ∨ m = y ∨ m = z) ∧ v = .int .i64 m ∧ own' = [B, ⟨ci, false, true, .cells [.int .i64 s'] 3⟩] := by
  refine All.of_wps (env := [(0, .gs 0 n c), (1, .v (.int .i64 x)), (2, .v (.int .i64 y)), (3, .v (.int .i64 z)), (4, .loc 1 0)]) [.gs 0 n c, .v (.int .i64 x), .v (.int .i64 y), .v (.int .i64 z), .loc 1 0] Try.func158 Try.call158 rfl rfl rfl rfl ?_
  refine wp_all rfl (order2_spec h B n c d hB x y hx hy ci s) ?_
  rintro v h1 own1 hle1 ⟨rfl, p, q, s1, hpq, rfl, rfl⟩
  refine ⟨⟨rfl, rfl, rfl, rfl, trivial⟩, ?_⟩
  refine wp_all rfl (order2_spec h1 B n c d hB q z (by omega) hz ci s1) ?_
  rintro v h2 own2 hle2 ⟨rfl, r, t, s2, hrt, rfl, rfl⟩
  refine ⟨⟨rfl, rfl, rfl, rfl, trivial⟩, ?_⟩
  refine wp_all rfl (order2_spec h2 B n c d hB p r (by omega) (by omega) ci s2) ?_
  rintro v h3 own3 hle3 ⟨rfl, u, w, s3, huw, rfl, rfl⟩
  refine ⟨⟨rfl, rfl, rfl, rfl, trivial⟩, ?_⟩
  exact wp_ret _ rfl rfl (List.Sublist.refl _) ⟨rfl, w, s3, by omega, rfl, rfl⟩

theorem adj_spec (h : PHeap) (B : Blk) (n c : Nat) (d : Array Int) (hB : OwnSl B 86 1 n c (U d.toList)) (hn : n ≤ 1000000000) (x : Nat) (hx0 : 0 < x) (hx : x + 1 < n) (ci : Nat) (s : Int) :
    All Try.prog 157 [.slice (nulAddr B) n c, .int .i64 x, .pointer (some ⟨ci, 0, none⟩)] h [B, ⟨ci, false, true, .cells [.int .i64 s] 3⟩]
      fun v h' own' => h' = h ∧ ∃ (m : Nat) (s' : Int), (m + 1 = x ∨ m = x ∨ m = x + 1) ∧ v = .int .i64 m ∧ own' = [B, ⟨ci, false, true, .cells [.int .i64 s'] 3⟩] := by
  refine All.of_wps (env := [(0, .gs 0 n c), (1, .v (.int .i64 x)), (2, .loc 1 0)]) [.gs 0 n c, .v (.int .i64 x), .loc 1 0] Try.func157 Try.call157 rfl rfl rfl rfl ?_
  have e1 : IntKind.wrap .i64 ((x : Int) - 1) = ((x - 1 : Nat) : Int) := by simp only [wrapE]; omega
  have e2 : IntKind.wrap .i64 ((x : Int) + 1) = ((x + 1 : Nat) : Int) := by simp only [wrapE]; omega
  have key := median_spec h B n c d hB (x - 1) x (x + 1) (by omega) (by omega) (by omega) ci s
  rw [← e1, ← e2] at key
  refine wp_all rfl key ?_
  rintro v h1 own1 hle1 ⟨rfl, m, s1, hm, rfl, rfl⟩
  refine ⟨⟨rfl, rfl, rfl, rfl, trivial⟩, ?_⟩
  exact wp_ret _ rfl rfl (List.Sublist.refl _) ⟨rfl, m, s1, by omega, rfl, rfl⟩
end Go.Vc
namespace Go.Vc
set_option linter.unusedSimpArgs false
open Go.Proofs Go.Lib Go.Sort
set_option linter.unusedVariables false
set_option maxRecDepth 20000

theorem pivot_spec (h : PHeap) (B : Blk) (n c : Nat) (d : Array Int) (hB : OwnSl B 86 1 n c (U d.toList)) (hn : n ≤ 1000000000) (a b : Nat) (hab : a + 12 < b) (hb : b ≤ n) :
    Chg Try.prog 141 [.slice (nulAddr B) n c, .int .i64 a, .int .i64 b] h B fun v h' bd => h' = h ∧ bd = B.body ∧ ∃ (m : Nat) (hint : Int), a ≤ m ∧ m < b ∧ v = .tuple ⟨[.int .i64 m, .int .i64 hint]⟩ := by
  refine Chg.of_wps (env := [(0, .gs 0 n c), (1, .v (.int .i64 a)), (2, .v (.int .i64 b))]) [.gs 0 n c, .v (.int .i64 a), .v (.int .i64 b)] Try.func141 Try.call141 rfl rfl rfl rfl ?_
  refine wp_alloc 1 rfl rfl fun ci => ?_
  have el : IntKind.wrap .i64 ((b : Int) - a) = ((b - a : Nat) : Int) := by simp only [wrapE]; omega
  rw [el]
  obtain ⟨l, hl⟩ : ∃ l, l = b - a := ⟨_, rfl⟩
  rw [← hl]
  obtain ⟨q, hq1, hq2⟩ : ∃ q : Nat, IntKind.wrap .i64 (((l : Int)).tdiv 4) = (q : Int) ∧ (4 * q ≤ l ∧ l < 4 * q + 4) := by
    refine ⟨l / 4, ?_, by omega⟩
    rw [Int.tdiv_eq_ediv_of_nonneg (by omega), wrap64 (by omega) (by omega)]; omega
  refine wp_need rfl (by decide) ?_
  rw [hq1]
  refine wp_need rfl (by decide) ?_
  rw [hq1]
  refine wp_need rfl (by decide) ?_
  rw [hq1]
  have e1 : IntKind.wrap .i64 ((a : Int) + IntKind.wrap .i64 ((q : Int) * 1)) = ((a + q : Nat) : Int) := by rw [wrap64 (x := (q : Int) * 1) (by omega) (by omega), wrap64 (by omega) (by omega)]; omega
  have e2 : IntKind.wrap .i64 ((a : Int) + IntKind.wrap .i64 ((q : Int) * 2)) = ((a + q * 2 : Nat) : Int) := by rw [wrap64 (x := (q : Int) * 2) (by omega) (by omega), wrap64 (by omega) (by omega)]; omega
  have e3 : IntKind.wrap .i64 ((a : Int) + IntKind.wrap .i64 ((q : Int) * 3)) = ((a + q * 3 : Nat) : Int) := by rw [wrap64 (x := (q : Int) * 3) (by omega) (by omega), wrap64 (by omega) (by omega)]; omega
  clear hq1 el
  rw [e1, e2]
  refine wp_brT rfl (by simp; omega) ?_
  rw [e3]
  clear e1 e2 e3
  refine wp_br rfl (fun h1 => ?_) (fun h1 => ?_)
  · have h2 : 50 ≤ l := by simp at h1; omega
    refine wp_all rfl (adj_spec h _ n c d hB hn (a + q) (by omega) (by omega) ci _) ?_
    rintro v h1 own1 hle1 ⟨rfl, m1, s1, hm1, rfl, rfl⟩
    refine ⟨⟨rfl, rfl, rfl, rfl, trivial⟩, ?_⟩
    refine wp_all rfl (adj_spec h1 _ n c d hB hn (a + q * 2) (by omega) (by omega) ci _) ?_
    rintro v h2 own2 hle2 ⟨rfl, m2, s2, hm2, rfl, rfl⟩
    refine ⟨⟨rfl, rfl, rfl, rfl, trivial⟩, ?_⟩
    refine wp_all rfl (adj_spec h2 _ n c d hB hn (a + q * 3) (by omega) (by omega) ci _) ?_
    rintro v h3 own3 hle3 ⟨rfl, m3, s3, hm3, rfl, rfl⟩
    refine ⟨⟨rfl, rfl, rfl, rfl, trivial⟩, ?_⟩
    refine wp_all rfl (median_spec h3 _ n c d hB _ _ _ (by omega) (by omega) (by omega) ci _) ?_
    rintro v h4 own4 hle4 ⟨rfl, m4, s4, hm4, rfl, rfl⟩
    refine ⟨⟨rfl, rfl, rfl, rfl, trivial⟩, ?_⟩
    refine wp_br rfl (fun g1 => ?_) (fun g1 => ?_)
    · exact wp_ret [B] rfl rfl (List.Sublist.cons_cons _ (List.nil_sublist _)) ⟨B.body, rfl, rfl, rfl, m4, _, by omega, by omega, rfl⟩
    · refine wp_br rfl (fun g2 => ?_) (fun g2 => ?_)
      · exact wp_ret [B] rfl rfl (List.Sublist.cons_cons _ (List.nil_sublist _)) ⟨B.body, rfl, rfl, rfl, m4, _, by omega, by omega, rfl⟩
      · exact wp_ret [B] rfl rfl (List.Sublist.cons_cons _ (List.nil_sublist _)) ⟨B.body, rfl, rfl, rfl, m4, _, by omega, by omega, rfl⟩
  · have h2 : ¬ 50 ≤ l := by simp at h1; omega
    refine wp_all rfl (median_spec h _ n c d hB _ _ _ (by omega) (by omega) (by omega) ci _) ?_
    rintro v h4 own4 hle4 ⟨rfl, m4, s4, hm4, rfl, rfl⟩
    refine ⟨⟨rfl, rfl, rfl, rfl, trivial⟩, ?_⟩
    refine wp_br rfl (fun g1 => ?_) (fun g1 => ?_)
    · exact wp_ret [B] rfl rfl (List.Sublist.cons_cons _ (List.nil_sublist _)) ⟨B.body, rfl, rfl, rfl, m4, _, by omega, by omega, rfl⟩
    · refine wp_br rfl (fun g2 => ?_) (fun g2 => ?_)
      · exact wp_ret [B] rfl rfl (List.Sublist.cons_cons _ (List.nil_sublist _)) ⟨B.body, rfl, rfl, rfl, m4, _, by omega, by omega, rfl⟩
      · exact wp_ret [B] rfl rfl (List.Sublist.cons_cons _ (List.nil_sublist _)) ⟨B.body, rfl, rfl, rfl, m4, _, by omega, by omega, rfl⟩
end Go.Vc
namespace Go.Vc
set_option linter.unusedSimpArgs false
open Go.Proofs Go.Lib Go.Sort
set_option linter.unusedVariables false
set_option maxRecDepth 20000

def blen (x : Nat) : Nat := if x = 0 then 0 else if x < 2 then 1 else if x < 4 then 2 else if x < 8 then 3 else if x < 16 then 4 else if x < 32 then 5 else if x < 64 then 6 else if x < 128 then 7 else 8
theorem blen_ok {x : Nat} (h : x < 256) : x < 2 ^ blen x ∧ (0 < x → 2 ^ blen x ≤ 2 * x) ∧ blen x ≤ 8 := by
  unfold blen
  repeat' split
  all_goals simp only [Nat.pow_zero, Nat.reducePow]
  all_goals omega

theorem tab_at {s : ByteArray} (hs : s.data.toList = (List.range 256).map (fun x => UInt8.ofNat (blen x))) {x : Nat} (h : x < 256) : s[x]? = some (UInt8.ofNat (blen x)) := by
  have hsz : s.size = 256 := by
    have := congrArg List.length hs
    simpa using this
  have h1 : s.data.toList[x]? = some (UInt8.ofNat (blen x)) := by rw [hs]; simp [h]
  obtain ⟨u, h2, h3⟩ := bytes_at (s := s) (i := x) (by omega)
  rw [h1] at h3; cases h3; exact h2

theorem shr16 (x : Nat) : ((x : Int)).fdiv (2 ^ (min (Int.toNat 16) IntKind.u64.bits)) = ((x / 65536 : Nat) : Int) := by
  rw [show (2 : Int) ^ (min (Int.toNat 16) IntKind.u64.bits) = 65536 from by decide, Int.fdiv_eq_ediv_of_nonneg _ (by decide)]; omega
theorem shr8 (x : Nat) : ((x : Int)).fdiv (2 ^ (min (Int.toNat 8) IntKind.u64.bits)) = ((x / 256 : Nat) : Int) := by
  rw [show (2 : Int) ^ (min (Int.toNat 8) IntKind.u64.bits) = 256 from by decide, Int.fdiv_eq_ediv_of_nonneg _ (by decide)]; omega
theorem wrapU8 {x : Nat} (h : x < 256) : IntKind.wrap .u8 (x : Int) = x := by
  simp only [IntKind.wrap, IntKind.signed, IntKind.bits, Bool.false_and, Bool.false_eq_true, if_false]; omega
theorem blen_u {y : Nat} (hy : y < 256) : ((UInt8.ofNat (blen y)).toNat : Int) = (blen y : Int) := by
  have := (blen_ok hy).2.2
  have : (UInt8.ofNat (blen y)).toNat = blen y := by simp; omega
  rw [this]
theorem pow_split {x y k o : Nat} (hx1 : y * 2 ^ o ≤ x) (hx2 : x < (y + 1) * 2 ^ o) (h1 : y < 2 ^ k) (h2 : 0 < y → 2 ^ k ≤ 2 * y) (h3 : 0 < y ∨ o = 0) : x < 2 ^ (o + k) ∧ (0 < x → 2 ^ (o + k) ≤ 2 * x) := by
  rw [Nat.pow_add, Nat.mul_comm]
  constructor
  · exact Nat.lt_of_lt_of_le hx2 (Nat.mul_le_mul_right _ h1)
  · intro h0
    have hy : 0 < y := by
      rcases h3 with h3 | h3
      · exact h3
      · subst h3; simp at hx1 hx2; omega
    have := Nat.mul_le_mul_right (2 ^ o) (h2 hy)
    rw [Nat.mul_assoc] at this
    omega

theorem len64_spec (h : PHeap) (x : Nat) (hx : x ≤ 1000000000) : Pure Try.prog 148 [.int .u64 x] h fun v h' => h' = h ∧ ∃ k : Nat, v = .int .i64 k ∧ k ≤ 32 ∧ x < 2 ^ k ∧ (0 < x → 2 ^ k ≤ 2 * x) := by
  refine Pure.of_wp (env := [(0, .v (.int .u64 x))]) Try.func148 Try.call148 rfl rfl rfl ?_
  refine wp_brF rfl (by simp; omega) ?_
  refine wp_br rfl (fun h1 => ?_) (fun h1 => ?_)
  · have g1 : 65536 ≤ x := by simp at h1; omega
    refine wp_need rfl (by decide) ?_
    rw [shr16]
    refine wp_br rfl (fun h2 => ?_) (fun h2 => ?_)
    · have g2 : 256 ≤ x / 65536 := by simp at h2; omega
      refine wp_need rfl (by decide) ?_
      rw [shr8]
      obtain ⟨y, hy⟩ : ∃ y, y = x / 65536 / 256 := ⟨_, rfl⟩
      rw [← hy]
      have hy2 : y < 256 := by omega
      refine wp_sidx (UInt8.ofNat (blen y)) rfl rfl rfl rfl rfl rfl (by rw [wrapU8 hy2]; omega) (by rw [wrapU8 hy2]; exact tab_at (by kernel_rfl) hy2) ?_
      obtain ⟨b1, b2, b3⟩ := blen_ok hy2
      obtain ⟨p1, p2⟩ := pow_split (o := 24) (x := x) (y := y) (by omega) (by omega) b1 b2 (by omega)
      refine wp_ret0 rfl rfl ⟨rfl, rfl, 24 + blen y, ?_, by omega, p1, p2⟩
      rw [blen_u hy2]
      dsimp only [retV]
      congr 1
      simp only [wrapE]; omega
    · have g2 : x / 65536 < 256 := by simp at h2; omega
      obtain ⟨y, hy⟩ : ∃ y, y = x / 65536 := ⟨_, rfl⟩
      rw [← hy]
      have hy2 : y < 256 := by omega
      refine wp_sidx (UInt8.ofNat (blen y)) rfl rfl rfl rfl rfl rfl (by rw [wrapU8 hy2]; omega) (by rw [wrapU8 hy2]; exact tab_at (by kernel_rfl) hy2) ?_
      obtain ⟨b1, b2, b3⟩ := blen_ok hy2
      obtain ⟨p1, p2⟩ := pow_split (o := 16) (x := x) (y := y) (by omega) (by omega) b1 b2 (by omega)
      refine wp_ret0 rfl rfl ⟨rfl, rfl, 16 + blen y, ?_, by omega, p1, p2⟩
      rw [blen_u hy2]
      dsimp only [retV]
      congr 1
      simp only [wrapE]; omega
  · have g1 : x < 65536 := by simp at h1; omega
    refine wp_br rfl (fun h2 => ?_) (fun h2 => ?_)
    · have g2 : 256 ≤ x := by simp at h2; omega
      refine wp_need rfl (by decide) ?_
      rw [shr8]
      obtain ⟨y, hy⟩ : ∃ y, y = x / 256 := ⟨_, rfl⟩
      rw [← hy]
      have hy2 : y < 256 := by omega
      refine wp_sidx (UInt8.ofNat (blen y)) rfl rfl rfl rfl rfl rfl (by rw [wrapU8 hy2]; omega) (by rw [wrapU8 hy2]; exact tab_at (by kernel_rfl) hy2) ?_
      obtain ⟨b1, b2, b3⟩ := blen_ok hy2
      obtain ⟨p1, p2⟩ := pow_split (o := 8) (x := x) (y := y) (by omega) (by omega) b1 b2 (by omega)
      refine wp_ret0 rfl rfl ⟨rfl, rfl, 8 + blen y, ?_, by omega, p1, p2⟩
      rw [blen_u hy2]
      dsimp only [retV]
      congr 1
      simp only [wrapE]; omega
    · have hy2 : x < 256 := by simp at h2; omega
      refine wp_sidx (UInt8.ofNat (blen x)) rfl rfl rfl rfl rfl rfl (by rw [wrapU8 hy2]; omega) (by rw [wrapU8 hy2]; exact tab_at (by kernel_rfl) hy2) ?_
      obtain ⟨b1, b2, b3⟩ := blen_ok hy2
      refine wp_ret0 rfl rfl ⟨rfl, rfl, blen x, ?_, by omega, b1, b2⟩
      rw [blen_u hy2]
      dsimp only [retV]
      congr 1
      simp only [wrapE]; omega

theorem len_spec (h : PHeap) (x : Nat) (hx : x ≤ 1000000000) : Pure Try.prog 125 [.int .u64 x] h fun v h' => h' = h ∧ ∃ k : Nat, v = .int .i64 k ∧ k ≤ 32 ∧ x < 2 ^ k ∧ (0 < x → 2 ^ k ≤ 2 * x) := by
  refine Pure.of_wp (env := [(0, .v (.int .u64 x))]) Try.func125 Try.call125 rfl rfl rfl ?_
  refine wp_pure rfl (len64_spec h x hx) ?_
  rintro v h' hle ⟨rfl, k, rfl, hk⟩
  exact wp_ret0 rfl rfl ⟨rfl, rfl, k, rfl, hk⟩

theorem two_spec (h : PHeap) (x : Nat) (hx0 : 0 < x) (hx : x ≤ 1000000000) : Pure Try.prog 155 [.int .i64 x] h fun v h' => h' = h ∧ ∃ m : Nat, v = .int .u64 m ∧ x < m ∧ m ≤ 2 * x := by
  refine Pure.of_wp (env := [(0, .v (.int .i64 x))]) Try.func155 Try.call155 rfl rfl rfl ?_
  have e : IntKind.wrap .u64 (x : Int) = x := by
    simp only [IntKind.wrap, IntKind.signed, IntKind.bits, Bool.false_and, Bool.false_eq_true, if_false]; omega
  have key := len_spec h x hx
  rw [← e] at key
  refine wp_pure rfl key ?_
  rintro v h' hle ⟨rfl, k, rfl, hk, k1, k2⟩
  refine wp_need rfl (by omega) ?_
  refine wp_ret0 rfl rfl ⟨rfl, rfl, 2 ^ k, ?_, k1, k2 hx0⟩
  dsimp only [retV]
  congr 1
  have hm : min (Int.toNat k) IntKind.u64.bits = k := by
    have : IntKind.u64.bits = 64 := rfl
    rw [this]; omega
  rw [hm]
  have h2 : 2 ^ k ≤ 2 * x := k2 hx0
  have h3 : (1 : Int) * 2 ^ k = ((2 ^ k : Nat) : Int) := by rw [Int.one_mul]; norm_cast
  rw [h3]
  generalize 2 ^ k = m at h2 k1
  simp only [IntKind.wrap, IntKind.signed, IntKind.bits, Bool.false_and, Bool.false_eq_true, if_false]; omega

/-- A number's random successor: some number of 64 bits. -/
theorem next_spec (h : PHeap) (ci : Nat) (x : Int) : Chg Try.prog 156 [.pointer (some ⟨ci, 0, none⟩)] h ⟨ci, false, true, .cells [.int .u64 x] 189⟩ fun v h' bd => h' = h ∧ ∃ y : Int, v = .int .u64 y ∧ bd = .cells [.int .u64 y] 189 := by
  refine Chg.of_wps (env := [(0, .loc 0 0)]) [.loc 0 0] Try.func156 Try.call156 rfl rfl rfl rfl ?_
  refine wp_drawn rfl rfl rfl [0, 1, 2, 3, 4, 5, 6, 7, 8, 9] (by kernel_rfl) ?_
  refine dn_need rfl (by decide) ?_
  refine dn_done rfl ?_
  refine wp_drawn rfl rfl rfl [0, 1, 2, 3, 4, 5, 6, 7, 8, 9] (by kernel_rfl) ?_
  refine dn_need rfl (by decide) ?_
  refine dn_done rfl ?_
  refine wp_drawn rfl rfl rfl [0, 1, 2, 3, 4, 5, 6, 7, 8, 9] (by kernel_rfl) ?_
  refine dn_need rfl (by decide) ?_
  refine dn_done rfl ?_
  exact wp_ret _ rfl rfl (List.Sublist.refl _) ⟨_, rfl, rfl, _, rfl, rfl⟩

theorem and_lt (y : Int) {m : Nat} (h0 : 0 < m) (hm : m ≤ 4000000000) : ∃ r : Nat, bitsF .and .u64 y ((m : Int) - 1) = (r : Int) ∧ r < m := by
  refine ⟨(BitVec.ofInt 64 y &&& BitVec.ofInt 64 ((m : Int) - 1)).toNat, ?_, ?_⟩
  · have hlt := (BitVec.ofInt 64 y &&& BitVec.ofInt 64 ((m : Int) - 1)).isLt
    show IntKind.wrap .u64 (((BitVec.ofInt 64 y &&& BitVec.ofInt 64 ((m : Int) - 1)).toNat : Nat) : Int) = _
    simp only [IntKind.wrap, IntKind.signed, IntKind.bits, Bool.false_and, Bool.false_eq_true, if_false]; omega
  · rw [BitVec.toNat_and]
    have h1 : (BitVec.ofInt 64 ((m : Int) - 1)).toNat = m - 1 := by
      rw [BitVec.toNat_ofInt]; omega
    rw [h1]
    have := Nat.and_le_right (n := (BitVec.ofInt 64 y).toNat) (m := m - 1)
    omega
end Go.Vc
