/- A part of the proof: contracts of functions that the statement reaches. No condition. -/
import Derived.Test.YtblpfejciklenaaBa
import Derived.Test.YtblpfejciklenaaVb
import Derived.Sort.Lot0
import Derived.Sort.LotD3
import Derived.Sort.LotB
import Derived.Sort.LotC
namespace Go.Vc
set_option linter.unusedSimpArgs false
open Go.Proofs Go.Lib Go.Sort
set_option linter.unusedVariables false
set_option maxRecDepth 20000

theorem break_spec (h : PHeap) (B : Blk) (n c : Nat) (d : Array Int) (hB : OwnSl B 86 1 n c (U d.toList)) (hn : n ≤ 1000000000) (a b : Nat) (hab : a + 12 < b) (hb : b ≤ n) :
    Chg Try.prog 140 [.slice (nulAddr B) n c, .int .i64 a, .int .i64 b] h B fun v h' bd => h' = h ∧ ∃ d' : Array Int, PermIn a b d d' ∧ OwnSl ⟨B.id, B.nul, B.live, bd⟩ 86 1 n c (U d'.toList) := by
  refine Chg.of_wps (env := [(0, .gs 0 n c), (1, .v (.int .i64 a)), (2, .v (.int .i64 b))]) [.gs 0 n c, .v (.int .i64 a), .v (.int .i64 b)] Try.func140 Try.call140 rfl rfl rfl rfl ?_
  have el : IntKind.wrap .i64 ((b : Int) - a) = ((b - a : Nat) : Int) := by simp only [wrapE]; omega
  have hszd := hB.szU
  obtain ⟨l, hl⟩ : ∃ l, l = b - a := ⟨_, rfl⟩
  rw [← hl] at el
  refine wp_brT rfl (by rw [el]; simp; omega) ?_
  refine wp_alloc 1 rfl rfl fun ci => ?_
  rw [el]
  refine wp_pure rfl (two_spec h l (by omega) (by omega)) ?_
  rintro v h1 hle1 ⟨rfl, m, rfl, hm1, hm2⟩
  obtain ⟨q, hq1, hq2⟩ : ∃ q : Nat, IntKind.wrap .i64 (((l : Int)).tdiv 4) = (q : Int) ∧ (4 * q ≤ l ∧ l < 4 * q + 4) := by
    refine ⟨l / 4, ?_, by omega⟩
    rw [Int.tdiv_eq_ediv_of_nonneg (by omega), wrap64 (by omega) (by omega)]; omega
  refine wp_need rfl (by decide) ?_
  rw [hq1]
  have e2 : IntKind.wrap .i64 ((q : Int) * 2) = ((q * 2 : Nat) : Int) := by rw [wrap64 (by omega) (by omega)]; omega
  obtain ⟨p, hp⟩ : ∃ p, p = q * 2 := ⟨_, rfl⟩
  rw [← hp] at e2
  have e3 : IntKind.wrap .i64 ((a : Int) + p) = ((a + p : Nat) : Int) := by rw [wrap64 (by omega) (by omega)]; omega
  have e4 : IntKind.wrap .i64 (((a + p : Nat) : Int) + 1) = ((a + p + 1 : Nat) : Int) := by rw [wrap64 (by omega) (by omega)]; omega
  have e5 : IntKind.wrap .i64 (((a + p : Nat) : Int) - 1) = ((a + p - 1 : Nat) : Int) := by rw [wrap64 (by omega) (by omega)]; omega
  refine wp_for (σ := Nat × Body × Array Int × Int) (fun s => a + p ≤ s.1 + 1 ∧ s.1 ≤ a + p + 2 ∧ OwnSl ⟨B.id, B.nul, B.live, s.2.1⟩ 86 1 n c (U s.2.2.1.toList) ∧ PermIn a b d s.2.2.1) (fun s => a + p + 2 - s.1)
    (fun s => [(0, .gs 0 n c), (1, .v (.int .i64 a)), (6, .v (.int .i64 l)), (7, .loc 1 0), (8, .v (.int .u64 m)), (9, .v (.int .i64 s.1))]) (fun s => [⟨B.id, B.nul, B.live, s.2.1⟩, ⟨ci, false, true, .cells [.int .u64 s.2.2.2] 189⟩]) (a + p - 1, B.body, d, _) rfl ⟨by dsimp only; omega, by dsimp only; omega, hB, permIn_refl _ _ _⟩ rfl ⟨rfl, rfl, rfl, rfl, rfl, eqI (by rw [e2, e3, e5]), trivial⟩ ?_
  clear hB
  rintro ⟨i, bd, e, x⟩ ⟨hi1, hi2, ho, hperm⟩ again
  dsimp only at hi1 hi2 ho hperm again ⊢
  refine wp_need rfl (by decide) ?_
  rw [hq1]
  refine wp_br rfl (fun g1 => ?_) (fun g1 => ?_)
  · rw [e2, e3, e4] at g1
    have g2 : i ≤ a + p + 1 := by simp at g1; omega
    refine wp_chg 1 rfl rfl (next_spec h1 ci x) ?_
    rintro v h2 bdc ow2 hle2 ⟨rfl, y, rfl, rfl⟩ hw
    cases hw
    obtain ⟨r, hr1, hr2⟩ := and_lt y (m := m) (by omega) (by omega)
    have em : IntKind.wrap .u64 ((m : Int) - 1) = (m : Int) - 1 := by
      simp only [IntKind.wrap, IntKind.signed, IntKind.bits, Bool.false_and, Bool.false_eq_true, if_false]; omega
    have er : IntKind.wrap .i64 (bitsF .and .u64 y (IntKind.wrap .u64 ((m : Int) - 1))) = (r : Int) := by rw [em, hr1, wrap64 (by omega) (by omega)]
    refine wp_br rfl (fun g3 => ?_) (fun g3 => ?_)
    · rw [er] at g3
      have g4 : l ≤ r := by simp at g3; omega
      rw [er]
      obtain ⟨qi1, qi2, li, qi3, qi4⟩ := ho.atU (i := i) (by omega)
      obtain ⟨qj1, qj2, lj, qj3, qj4⟩ := ho.atU (i := (a + (r - l))) (by omega)
      have hsz := ho.szU
      refine wp_drawn rfl rfl rfl [0, 1, 2, 3, 4, 5, 6, 7, 8, 9, 10, 11, 12, 13, 14, 15, 16, 17, 18, 19] (by kernel_rfl) ?_
      refine dn_idxgn ((a + (r - l))) rfl rfl qj2 (by first | rfl | (simp only [wrapE]; omega)) (by omega) ?_
      refine dn_loadx rfl rfl qj1 qj3 qj4 ?_
      refine dn_idxgn (i) rfl rfl qi2 (by first | rfl | (simp only [wrapE]; omega)) (by omega) ?_
      refine dn_loadx rfl rfl qi1 qi3 qi4 ?_
      refine dn_idxgn (i) rfl rfl qi2 (by first | rfl | (simp only [wrapE]; omega)) (by omega) ?_
      refine dn_put (i) rfl rfl rfl rfl ho (off1 _) (by omega) rfl rfl rfl ?_
      intro bd3 ow3 ho3 hw3
      cases hw3
      refine dn_idxgn ((a + (r - l))) rfl rfl qi2 (by first | rfl | (simp only [wrapE]; omega)) (by omega) ?_
      refine dn_put ((a + (r - l))) rfl rfl rfl rfl ho3 (off1 _) (by omega) rfl rfl rfl ?_
      intro bd4 ow4 ho4 hw4
      cases hw4
      refine dn_done rfl ?_
      rw [U_swp (by omega) (by omega)] at ho4
      have hp2 := permIn_trans _ _ _ a b hperm (swp_permIn e a b i (a + (r - l)) (by omega) (by omega) (by omega) (by omega) (by omega))
      exact wp_again rfl (again (i + 1, bd4, swp e i (a + (r - l)), y) ⟨by dsimp only; omega, by dsimp only; omega, ho4, hp2⟩ (by dsimp only; omega)) ⟨rfl, rfl, rfl, rfl, rfl, eqI (by simp only [wrapE]; omega), trivial⟩
    · rw [er] at g3
      have g4 : ¬ l ≤ r := by simp at g3; omega
      rw [er]
      obtain ⟨qi1, qi2, li, qi3, qi4⟩ := ho.atU (i := i) (by omega)
      obtain ⟨qj1, qj2, lj, qj3, qj4⟩ := ho.atU (i := (a + r)) (by omega)
      have hsz := ho.szU
      refine wp_drawn rfl rfl rfl [0, 1, 2, 3, 4, 5, 6, 7, 8, 9, 10, 11, 12, 13, 14, 15, 16, 17, 18, 19] (by kernel_rfl) ?_
      refine dn_idxgn ((a + r)) rfl rfl qj2 (by first | rfl | (simp only [wrapE]; omega)) (by omega) ?_
      refine dn_loadx rfl rfl qj1 qj3 qj4 ?_
      refine dn_idxgn (i) rfl rfl qi2 (by first | rfl | (simp only [wrapE]; omega)) (by omega) ?_
      refine dn_loadx rfl rfl qi1 qi3 qi4 ?_
      refine dn_idxgn (i) rfl rfl qi2 (by first | rfl | (simp only [wrapE]; omega)) (by omega) ?_
      refine dn_put (i) rfl rfl rfl rfl ho (off1 _) (by omega) rfl rfl rfl ?_
      intro bd3 ow3 ho3 hw3
      cases hw3
      refine dn_idxgn ((a + r)) rfl rfl qi2 (by first | rfl | (simp only [wrapE]; omega)) (by omega) ?_
      refine dn_put ((a + r)) rfl rfl rfl rfl ho3 (off1 _) (by omega) rfl rfl rfl ?_
      intro bd4 ow4 ho4 hw4
      cases hw4
      refine dn_done rfl ?_
      rw [U_swp (by omega) (by omega)] at ho4
      have hp2 := permIn_trans _ _ _ a b hperm (swp_permIn e a b i (a + r) (by omega) (by omega) (by omega) (by omega) (by omega))
      exact wp_again rfl (again (i + 1, bd4, swp e i (a + r), y) ⟨by dsimp only; omega, by dsimp only; omega, ho4, hp2⟩ (by dsimp only; omega)) ⟨rfl, rfl, rfl, rfl, rfl, eqI (by simp only [wrapE]; omega), trivial⟩
  · rw [e2, e3, e4] at g1
    exact wp_ret [_] rfl rfl (List.Sublist.cons_cons _ (List.nil_sublist _)) ⟨bd, rfl, rfl, e, hperm, ho⟩
end Go.Vc
namespace Go.Vc
set_option linter.unusedSimpArgs false
open Go.Proofs Go.Lib Go.Sort
set_option linter.unusedVariables false
set_option maxRecDepth 20000

abbrev PQ (h : PHeap) (B : Blk) (n c : Nat) (d : Array Int) (a b : Nat) : Value → PHeap → Body → Prop := fun v h' bd => h' = h ∧ ∃ d' : Array Int, PermIn a b d d' ∧ SortedIn ltInt a b d' ∧ OwnSl ⟨B.id, B.nul, B.live, bd⟩ 86 1 n c (U d'.toList)

theorem pdq_spec : ∀ (m : Nat) (h : PHeap) (B : Blk) (n c : Nat) (d : Array Int), OwnSl B 86 1 n c (U d.toList) → n ≤ 1000000000 → ∀ (a b : Nat), a ≤ b → b ≤ n → b - a ≤ m → Below ltInt a b d → ∀ (limit : Int),
    Chg Try.prog 124 [.slice (nulAddr B) n c, .int .i64 a, .int .i64 b, .int .i64 limit] h B (PQ h B n c d a b) := by
  intro m
  induction m using Nat.strongRecOn with
  | _ m ih =>
  intro h B n c d hB hn a b hab hb hm hbel limit
  refine Chg.of_wps (env := [(0, .gs 0 n c), (1, .v (.int .i64 a)), (2, .v (.int .i64 b)), (3, .v (.int .i64 limit))]) [.gs 0 n c, .v (.int .i64 a), .v (.int .i64 b), .v (.int .i64 limit)] Try.func124 Try.call124 rfl rfl rfl rfl ?_
  refine wp_forc (σ := Nat × Nat × Int × Bool × Bool × Body × Array Int) (fun s => a ≤ s.1 ∧ s.1 ≤ s.2.1 ∧ s.2.1 ≤ b ∧ OwnSl ⟨B.id, B.nul, B.live, s.2.2.2.2.2.1⟩ 86 1 n c (U s.2.2.2.2.2.2.toList) ∧ Below ltInt s.1 s.2.1 s.2.2.2.2.2.2 ∧
      (∀ R, PermIn s.1 s.2.1 s.2.2.2.2.2.2 R → SortedIn ltInt s.1 s.2.1 R → PermIn a b d R ∧ SortedIn ltInt a b R)) (fun s => s.2.1 - s.1)
    (fun s => [(0, .gs 0 n c), (1, .v (.int .i64 s.1)), (2, .v (.int .i64 s.2.1)), (3, .v (.int .i64 s.2.2.1)), (8, .v (.bool s.2.2.2.1)), (9, .v (.bool s.2.2.2.2.1))]) (fun s => [⟨B.id, B.nul, B.live, s.2.2.2.2.2.1⟩]) (a, b, limit, true, true, B.body, d) rfl
    ⟨Nat.le_refl _, hab, Nat.le_refl _, hB, hbel, fun R h1 h2 => ⟨h1, h2⟩⟩ rfl ⟨⟨_, rfl, rfl⟩, ⟨_, rfl, rfl⟩, ⟨_, rfl, rfl⟩, ⟨_, rfl, rfl⟩, ⟨_, rfl, rfl⟩, ⟨_, rfl, rfl⟩, trivial⟩ ?_
  clear hB hbel
  rintro ⟨a1, b1, lim, wb, wpt, bd, e⟩ ⟨ha1, hab1, hb1, ho, hbel, hgo⟩ again
  dsimp only at ha1 hab1 hb1 ho hbel hgo again ⊢
  have hsz := ho.szU
  have el : IntKind.wrap .i64 ((b1 : Int) - a1) = ((b1 - a1 : Nat) : Int) := by simp only [wrapE]; omega
  refine wp_br rfl (fun h1 => ?_) (fun h1 => ?_)
  · refine wp_chg 0 rfl rfl (ins_spec h ⟨B.id, B.nul, B.live, bd⟩ n c e ho hn a1 b1 hab1 (by omega)) ?_
    rintro v h' bd2 ow2 hle ⟨rfl, ho2⟩ hw
    cases hw
    obtain ⟨p1, p2⟩ := insertionSort_holds swo_ltInt e a1 b1 hab1 (by omega)
    obtain ⟨q1, q2⟩ := hgo _ p1 p2
    exact wp_ret _ rfl rfl (List.Sublist.refl _) ⟨bd2, rfl, rfl, _, q1, q2, ho2⟩
  · rw [el] at h1
    have h12 : a1 + 12 < b1 := by simp at h1; omega
    refine wp_br rfl (fun h2 => ?_) (fun h2 => ?_)
    · refine wp_chg 0 rfl rfl (heap_spec h ⟨B.id, B.nul, B.live, bd⟩ n c e ho hn a1 b1 hab1 (by omega)) ?_
      rintro v h' bd2 ow2 hle ⟨rfl, ho2⟩ hw
      cases hw
      obtain ⟨p1, p2⟩ := heapSort_holds swo_ltInt e a1 b1 hab1 (by omega)
      obtain ⟨q1, q2⟩ := hgo _ p1 p2
      exact wp_ret _ rfl rfl (List.Sublist.refl _) ⟨bd2, rfl, rfl, _, q1, q2, ho2⟩
    · rw [el]
      -- where the ways meet: ahead of the test with what lies to the left
      have tail : ∀ (lim2 : Int) (wb2 wp2 : Bool) (bd3 : Body) (e3 : Array Int) (pv : Nat), OwnSl ⟨B.id, B.nul, B.live, bd3⟩ 86 1 n c (U e3.toList) → PermIn a1 b1 e e3 → a1 ≤ pv → pv < b1 → WP Try.prog 124 Try.f124 (fun v h' own' => ∃ bd, own' = [{ id := B.id, nul := B.nul, live := B.live, body := bd }] ∧ PQ h B n c d a b v h' bd)
          ⟨.code [0, 0, 1, 1, 1, 1, 1, 1, 1, 0, 0, 0, 1, 1] :: [It.code [1, 0, 1, 1, 1, 1, 1, 1, 1, 0, 0, 0, 1, 1], It.code [1, 1, 1, 1, 1, 1, 1, 1, 0, 0, 0, 1, 1], It.blk 1, It.loop [0, 1, 1], It.blk 0],
            [(0, .gs 0 n c), (1, .v (.int .i64 a1)), (2, .v (.int .i64 b1)), (3, .v (.int .i64 lim2)), (8, .v (.bool wb2)), (9, .v (.bool wp2)), (10, .v (.int .i64 (b1 - a1 : Nat))), (11, .v (.int .i64 pv))], [⟨B.id, B.nul, B.live, bd3⟩]⟩ h := by
        intro lim2 wb2 wp2 bd3 e3 pv ho3 hperm hpv1 hpv2
        have hsz3 := ho3.szU
        have B3 : Below ltInt a1 b1 e3 := hbel.perm (by omega) hperm
        have hgo3 : ∀ R, PermIn a1 b1 e3 R → SortedIn ltInt a1 b1 R → PermIn a b d R ∧ SortedIn ltInt a b R := fun R p q => hgo R (permIn_trans _ _ _ a1 b1 hperm p) q
        refine wp_drawc ((87, .v (.bool (decide (0 < a1) && !ltInt e3[a1 - 1]! e3[pv]!))) :: [(0, .gs 0 n c), (1, .v (.int .i64 a1)), (2, .v (.int .i64 b1)), (3, .v (.int .i64 lim2)), (8, .v (.bool wb2)), (9, .v (.bool wp2)), (10, .v (.int .i64 (b1 - a1 : Nat))), (11, .v (.int .i64 pv))]) rfl rfl (by kernel_rfl) rfl ?_ ?_
        · by_cases hc : 0 < a1
          · obtain ⟨x1, x2, lx, x3, x4⟩ := ho3.atU (i := a1 - 1) (by omega)
            obtain ⟨y1, y2, ly, y3, y4⟩ := ho3.atU (i := pv) (by omega)
            refine dq_brT rfl (by simp; omega) ?_
            refine dq_idxgn (a1 - 1) rfl rfl x2 (by first | rfl | (simp only [wrapE]; omega)) (by omega) ?_
            refine dq_loadx rfl rfl x1 x3 x4 ?_
            refine dq_idxgn pv rfl rfl x2 (by first | rfl | (simp only [wrapE]; omega)) (by omega) ?_
            refine dq_loadx rfl rfl y1 y3 y4 ?_
            refine dq_pure rfl (lessQ h _ _) ?_
            exact dq_done rfl ⟨⟨_, rfl, by simp [conc, hc]⟩, ⟨_, rfl, rfl⟩, ⟨_, rfl, rfl⟩, ⟨_, rfl, rfl⟩, ⟨_, rfl, rfl⟩, ⟨_, rfl, rfl⟩, ⟨_, rfl, rfl⟩, ⟨_, rfl, rfl⟩, ⟨_, rfl, rfl⟩, trivial⟩
          · refine dq_brF rfl (by simp; omega) ?_
            exact dq_done rfl ⟨⟨_, rfl, by rw [decide_eq_false hc]; rfl⟩, ⟨_, rfl, rfl⟩, ⟨_, rfl, rfl⟩, ⟨_, rfl, rfl⟩, ⟨_, rfl, rfl⟩, ⟨_, rfl, rfl⟩, ⟨_, rfl, rfl⟩, ⟨_, rfl, rfl⟩, ⟨_, rfl, rfl⟩, trivial⟩
        refine wp_br rfl (fun hc => ?_) (fun hc => ?_)
        · refine wp_chg 0 rfl rfl (parteq_spec h ⟨B.id, B.nul, B.live, bd3⟩ n c e3 ho3 hn a1 b1 pv hpv1 hpv2 (by omega)) ?_
          rintro v h' bd4 ow4 hle ⟨rfl, rfl, ho4⟩ hw
          cases hw
          simp only [Bool.and_eq_true, decide_eq_true_eq, Bool.not_eq_true'] at hc
          generalize hx : partitionEqual ltInt e3 a1 b1 pv = r at ho4
          obtain ⟨mid, e4⟩ := r
          dsimp only at ho4 ⊢
          obtain ⟨g1, g2, g3, g4, g5⟩ := round_eq swo_ltInt (partitionEqual_holds ltInt) hc.1 hpv1 hpv2 (by omega) B3 hc.2 hx
          exact wp_again rfl (again (mid, b1, lim2, wb2, wp2, bd4, e4) ⟨by dsimp only; omega, by dsimp only; omega, by dsimp only; omega, ho4, g4, fun R p q => hgo3 R (g5 R p q).1 (g5 R p q).2⟩ (by dsimp only; omega)) ⟨rfl, rfl, rfl, rfl, rfl, rfl, trivial⟩
        · refine wp_chg 0 rfl rfl (part_spec h ⟨B.id, B.nul, B.live, bd3⟩ n c e3 ho3 hn a1 b1 pv hpv1 hpv2 (by omega)) ?_
          rintro v h' bd4 ow4 hle ⟨rfl, rfl, ho4⟩ hw
          cases hw
          generalize hx : partition ltInt e3 a1 b1 pv = r at ho4
          obtain ⟨mid, ap, e4⟩ := r
          dsimp only at ho4 ⊢
          obtain ⟨g1, g2, g3, g4, g5, g6, g7⟩ := round_part swo_ltInt (partition_holds ltInt) hpv1 hpv2 (by omega) B3 hx
          refine wp_need rfl (by decide) ?_
          refine wp_br rfl (fun hl => ?_) (fun hl => ?_)
          · refine wp_chg 0 rfl rfl (ih (mid - a1) (by omega) h' ⟨B.id, B.nul, B.live, bd4⟩ n c e4 ho4 hn a1 mid g1 (by omega) (Nat.le_refl _) g4 lim2) ?_
            rintro v h'' bd5 ow5 hle2 ⟨rfl, e5, p1, p2, ho5⟩ hw
            cases hw
            obtain ⟨g8, g9⟩ := g6 e5 p1 p2
            exact wp_again rfl (again (mid + 1, b1, lim2, _, ap, bd5, e5) ⟨by dsimp only; omega, by dsimp only; omega, by dsimp only; omega, ho5, g8, fun R p q => hgo3 R (g9 R p q).1 (g9 R p q).2⟩ (by dsimp only; omega)) ⟨rfl, eqI (by simp only [wrapE]; omega), rfl, rfl, rfl, rfl, trivial⟩
          · have e1 : IntKind.wrap .i64 ((mid : Int) + 1) = ((mid + 1 : Nat) : Int) := by simp only [wrapE]; omega
            have key := ih (b1 - (mid + 1)) (by omega) h' ⟨B.id, B.nul, B.live, bd4⟩ n c e4 ho4 hn (mid + 1) b1 (by omega) (by omega) (Nat.le_refl _) g5 lim2
            rw [← e1] at key
            refine wp_chg 0 rfl rfl key ?_
            rintro v h'' bd5 ow5 hle2 ⟨rfl, e5, p1, p2, ho5⟩ hw
            cases hw
            obtain ⟨g8, g9⟩ := g7 e5 p1 p2
            exact wp_again rfl (again (a1, mid, lim2, _, ap, bd5, e5) ⟨by dsimp only; omega, by dsimp only; omega, by dsimp only; omega, ho5, g8, fun R p q => hgo3 R (g9 R p q).1 (g9 R p q).2⟩ (by dsimp only; omega)) ⟨rfl, rfl, rfl, rfl, rfl, rfl, trivial⟩
      cases wb with
      | true =>
        refine wp_brF rfl rfl ?_
        refine wp_chg 0 rfl rfl (pivot_spec h ⟨B.id, B.nul, B.live, bd⟩ n c e ho hn a1 b1 h12 (by omega)) ?_
        rintro v hp bdp owp hlep ⟨rfl, hbd, p0, hint, hp1, hp2, rfl⟩ hw
        have hbd' : bd = bdp := hbd.symm
        subst hbd'
        cases hw
        refine wp_br rfl (fun h3 => ?_) (fun h3 => ?_)
        · refine wp_chg 0 rfl rfl (rev_spec hp ⟨B.id, B.nul, B.live, bd⟩ n c e ho hn a1 b1 (by omega) (by omega)) ?_
          rintro v hr bdr owr hler ⟨rfl, hor⟩ hw
          cases hw
          have hpr := permIn_trans _ _ _ a1 b1 (permIn_refl _ _ _) (reverseRange_holds e a1 b1 (by omega) (by have := ho.szU; omega))
          cases wpt with
          | false =>
            refine wp_brT rfl rfl ?_
            refine wp_brF rfl rfl ?_
            exact wp_atdraw rfl (tail lim true false bdr _ (b1 - 1 - (p0 - a1)) hor hpr (by omega) (by omega)) ⟨⟨_, rfl, rfl⟩, ⟨_, rfl, rfl⟩, ⟨_, rfl, rfl⟩, ⟨_, rfl, rfl⟩, ⟨_, rfl, rfl⟩, ⟨_, rfl, rfl⟩, ⟨_, rfl, rfl⟩, ⟨_, rfl, by rw [show IntKind.wrap .i64 (IntKind.wrap .i64 ((b1 : Int) - 1) - IntKind.wrap .i64 ((p0 : Int) - a1)) = ((b1 - 1 - (p0 - a1) : Nat) : Int) from by simp only [wrapE]; omega]⟩, trivial⟩
          | true =>
            refine wp_brT rfl rfl ?_
            refine wp_brT rfl rfl ?_
            refine wp_brT rfl rfl ?_
            refine wp_chg 0 rfl rfl (partial_spec hr ⟨B.id, B.nul, B.live, bdr⟩ n c (reverseRange e a1 b1) hor hn a1 b1 (by omega) (by omega)) ?_
            rintro v hq bdq owq hleq ⟨rfl, rfl, hoq⟩ hw
            cases hw
            obtain ⟨r1, r2⟩ := partialInsertionSort_holds swo_ltInt (reverseRange e a1 b1) a1 b1 (by omega) (by have := hor.szU; omega) (hbel.perm (by omega) hpr)
            refine wp_br rfl (fun hs => ?_) (fun hs => ?_)
            · obtain ⟨q1, q2⟩ := hgo _ (permIn_trans _ _ _ a1 b1 hpr r1) (r2 hs)
              exact wp_ret _ rfl rfl (List.Sublist.refl _) ⟨bdq, rfl, rfl, _, q1, q2, hoq⟩
            · exact wp_atdraw rfl (tail lim true true _ _ (b1 - 1 - (p0 - a1)) hoq (permIn_trans _ _ _ a1 b1 hpr r1) (by omega) (by omega)) ⟨⟨_, rfl, rfl⟩, ⟨_, rfl, rfl⟩, ⟨_, rfl, rfl⟩, ⟨_, rfl, rfl⟩, ⟨_, rfl, rfl⟩, ⟨_, rfl, rfl⟩, ⟨_, rfl, rfl⟩, ⟨_, rfl, by rw [show IntKind.wrap .i64 (IntKind.wrap .i64 ((b1 : Int) - 1) - IntKind.wrap .i64 ((p0 : Int) - a1)) = ((b1 - 1 - (p0 - a1) : Nat) : Int) from by simp only [wrapE]; omega]⟩, trivial⟩
        · cases wpt with
          | false =>
            refine wp_brT rfl rfl ?_
            refine wp_brF rfl rfl ?_
            exact wp_atdraw rfl (tail lim true false bd e p0 ho (permIn_refl _ _ _) (by omega) (by omega)) ⟨⟨_, rfl, rfl⟩, ⟨_, rfl, rfl⟩, ⟨_, rfl, rfl⟩, ⟨_, rfl, rfl⟩, ⟨_, rfl, rfl⟩, ⟨_, rfl, rfl⟩, ⟨_, rfl, rfl⟩, ⟨_, rfl, rfl⟩, trivial⟩
          | true =>
            refine wp_brT rfl rfl ?_
            refine wp_brT rfl rfl ?_
            refine wp_br rfl (fun g1 => ?_) (fun g1 => ?_)
            · refine wp_chg 0 rfl rfl (partial_spec hp ⟨B.id, B.nul, B.live, bd⟩ n c e ho hn a1 b1 (by omega) (by omega)) ?_
              rintro v hq bdq owq hleq ⟨rfl, rfl, hoq⟩ hw
              cases hw
              obtain ⟨r1, r2⟩ := partialInsertionSort_holds swo_ltInt e a1 b1 (by omega) (by have := ho.szU; omega) (hbel.perm (by omega) (permIn_refl _ _ _))
              refine wp_br rfl (fun hs => ?_) (fun hs => ?_)
              · obtain ⟨q1, q2⟩ := hgo _ (permIn_trans _ _ _ a1 b1 (permIn_refl _ _ _) r1) (r2 hs)
                exact wp_ret _ rfl rfl (List.Sublist.refl _) ⟨bdq, rfl, rfl, _, q1, q2, hoq⟩
              · exact wp_atdraw rfl (tail lim true true _ _ p0 hoq (permIn_trans _ _ _ a1 b1 (permIn_refl _ _ _) r1) (by omega) (by omega)) ⟨⟨_, rfl, rfl⟩, ⟨_, rfl, rfl⟩, ⟨_, rfl, rfl⟩, ⟨_, rfl, rfl⟩, ⟨_, rfl, rfl⟩, ⟨_, rfl, rfl⟩, ⟨_, rfl, rfl⟩, ⟨_, rfl, rfl⟩, trivial⟩
            · exact wp_atdraw rfl (tail lim true true bd e p0 ho (permIn_refl _ _ _) (by omega) (by omega)) ⟨⟨_, rfl, rfl⟩, ⟨_, rfl, rfl⟩, ⟨_, rfl, rfl⟩, ⟨_, rfl, rfl⟩, ⟨_, rfl, rfl⟩, ⟨_, rfl, rfl⟩, ⟨_, rfl, rfl⟩, ⟨_, rfl, rfl⟩, trivial⟩
      | false =>
        refine wp_brT rfl rfl ?_
        refine wp_chg 0 rfl rfl (break_spec h ⟨B.id, B.nul, B.live, bd⟩ n c e ho hn a1 b1 h12 (by omega)) ?_
        rintro v hb bdb owb hleb ⟨rfl, eb, hpb, hob⟩ hw
        cases hw
        refine wp_chg 0 rfl rfl (pivot_spec hb ⟨B.id, B.nul, B.live, bdb⟩ n c eb hob hn a1 b1 h12 (by omega)) ?_
        rintro v hp bdp owp hlep ⟨rfl, hbd, p0, hint, hp1, hp2, rfl⟩ hw
        have hbd' : bdb = bdp := hbd.symm
        subst hbd'
        cases hw
        refine wp_br rfl (fun h3 => ?_) (fun h3 => ?_)
        · refine wp_chg 0 rfl rfl (rev_spec hp ⟨B.id, B.nul, B.live, bdb⟩ n c eb hob hn a1 b1 (by omega) (by omega)) ?_
          rintro v hr bdr owr hler ⟨rfl, hor⟩ hw
          cases hw
          have hpr := permIn_trans _ _ _ a1 b1 hpb (reverseRange_holds eb a1 b1 (by omega) (by have := hob.szU; omega))
          refine wp_brF rfl rfl ?_
          exact wp_atdraw rfl (tail _ false wpt bdr _ (b1 - 1 - (p0 - a1)) hor hpr (by omega) (by omega)) ⟨⟨_, rfl, rfl⟩, ⟨_, rfl, rfl⟩, ⟨_, rfl, rfl⟩, ⟨_, rfl, rfl⟩, ⟨_, rfl, rfl⟩, ⟨_, rfl, rfl⟩, ⟨_, rfl, rfl⟩, ⟨_, rfl, by rw [show IntKind.wrap .i64 (IntKind.wrap .i64 ((b1 : Int) - 1) - IntKind.wrap .i64 ((p0 : Int) - a1)) = ((b1 - 1 - (p0 - a1) : Nat) : Int) from by simp only [wrapE]; omega]⟩, trivial⟩
        · refine wp_brF rfl rfl ?_
          exact wp_atdraw rfl (tail _ false wpt bdb eb p0 hob hpb (by omega) (by omega)) ⟨⟨_, rfl, rfl⟩, ⟨_, rfl, rfl⟩, ⟨_, rfl, rfl⟩, ⟨_, rfl, rfl⟩, ⟨_, rfl, rfl⟩, ⟨_, rfl, rfl⟩, ⟨_, rfl, rfl⟩, ⟨_, rfl, rfl⟩, trivial⟩
end Go.Vc
namespace Go.Vc
set_option linter.unusedSimpArgs false
open Go.Proofs Go.Lib Go.Sort
set_option linter.unusedVariables false
set_option maxRecDepth 20000

theorem sort_spec (h : PHeap) (B : Blk) (n c : Nat) (d : Array Int) (hB : OwnSl B 86 1 n c (U d.toList)) (hn : n ≤ 1000000000) :
    Chg Try.prog 89 [.slice (nulAddr B) n c] h B (PQ h B n c d 0 n) := by
  refine Chg.of_wps (env := [(0, .gs 0 n c)]) [.gs 0 n c] Try.func89 Try.call89 rfl rfl rfl rfl ?_
  have e : IntKind.wrap .u64 (n : Int) = n := by
    simp only [IntKind.wrap, IntKind.signed, IntKind.bits, Bool.false_and, Bool.false_eq_true, if_false]; omega
  have key := len_spec h n hn
  rw [← e] at key
  refine wp_pure rfl key ?_
  rintro v h' hle ⟨rfl, k, rfl, hk, k1, k2⟩
  refine wp_chg 0 rfl rfl (pdq_spec n h' B n c d hB hn 0 n (by omega) (by omega) (by omega) (.inl rfl) k) ?_
  rintro v h'' bd ow hle2 ⟨rfl, d', p1, p2, ho⟩ hw
  cases hw
  exact wp_ret _ rfl rfl (List.Sublist.refl _) ⟨bd, rfl, rfl, d', p1, p2, ho⟩
end Go.Vc
namespace Go.Vc
set_option linter.unusedSimpArgs false
open Go.Proofs Go.Lib Go.Sort
set_option linter.unusedVariables false
set_option maxRecDepth 20000

/-- What is left of the first places when each run of equal ones is told once. -/
def cp (d : Array Int) : Nat → List Int
  | 0 => []
  | i + 1 => if i = 0 ∨ d[i]! ≠ d[i - 1]! then cp d i ++ [d[i]!] else cp d i

theorem OwnSl.cut {B : Blk} {e : TypeId} {n c : Nat} {xs : List Value} (o : OwnSl B e 1 n c xs) {k : Nat} (hk : k ≤ n) (h0 : 0 < n) : OwnSl B e 1 k c (xs.take k) := by
  have hl := o.1
  rcases o.2 with ⟨_, _, rfl, _⟩ | ⟨g1, g2, g3, g4, sp, g5, g6⟩
  · omega
  · refine ⟨by rw [List.length_take]; omega, .inr ⟨g1, g2, by omega, g4, xs.drop k ++ sp, ?_, ?_⟩⟩
    · rw [g5, ← List.append_assoc, List.take_append_drop]
    · rw [← List.append_assoc, List.take_append_drop]; exact g6

theorem OwnSl.cap {B : Blk} {e : TypeId} {n c : Nat} {xs : List Value} (o : OwnSl B e 1 n c xs) : n ≤ c := by
  rcases o.2 with ⟨_, _, h1, h2⟩ | ⟨_, _, h3, _⟩ <;> omega

theorem U_at {e : Array Int} {j : Nat} (hj : j < e.size) : (U e.toList)[j]? = some (.int .u32 e[j]!) := by
  simp [U, hj]

theorem addr1 (id k j m : Nat) (hm : k + j = m) : (⟨id, k, none⟩ : Addr).add ((j : Int).toNat * 1) = ⟨id, m, none⟩ := by
  rw [Addr.add_lit, off1, hm]

theorem take_one {d : Array Int} {k : Nat} (hk : k < d.size) : d.toList.take (k + 1) = d.toList.take k ++ [d[k]!] := by
  rw [List.take_add_one]
  simp [hk]

theorem compact_spec (h : PHeap) (B : Blk) (n c : Nat) (d : Array Int) (hB : OwnSl B 86 1 n c (U d.toList)) (hn : n ≤ 1000000000) :
    Chg Try.prog 90 [.slice (nulAddr B) n c] h B fun v h' bd => h' = h ∧ ∃ k, v = .slice (nulAddr B) k c ∧ OwnSl ⟨B.id, B.nul, B.live, bd⟩ 86 1 k c (U (cp d n)) := by
  have hsz := hB.szU
  refine Chg.of_wps (env := [(0, .gs 0 n c)]) [.gs 0 n c] Try.func90 Try.call90 rfl rfl rfl rfl ?_
  refine wp_br rfl (fun h1 => ?_) (fun h1 => ?_)
  · have h2 : n < 2 := by simp at h1; omega
    have hcp : cp d n = d.toList := by
      have : n = 0 ∨ n = 1 := by omega
      rcases this with rfl | rfl
      · have : d.toList = [] := List.eq_nil_of_length_eq_zero (by simpa using hsz)
        rw [this]; rfl
      · obtain ⟨x, hx⟩ : ∃ x, d.toList = [x] := List.length_eq_one_iff.1 (by simpa using hsz)
        have : d = #[x] := Array.toList_inj.1 (by simpa using hx)
        subst this; rfl
    exact wp_ret _ rfl rfl (List.Sublist.refl _) ⟨B.body, rfl, rfl, n, rfl, by rw [hcp]; exact hB⟩
  · have h2 : 2 ≤ n := by simp at h1; omega
    refine wp_for (σ := Nat) (fun k => 1 ≤ k ∧ k ≤ n ∧ cp d k = d.toList.take k) (fun k => n - k) (fun k => [(0, .gs 0 n c), (3, .v (.int .i64 k))]) (fun _ => [⟨B.id, B.nul, B.live, B.body⟩]) 1 rfl ⟨Nat.le_refl _, by omega, ?_⟩ rfl ⟨rfl, rfl, trivial⟩ ?_
    · rw [take_one (by omega)]; simp [cp]
    rintro k ⟨hk1, hk2, hcp⟩ again
    refine wp_br rfl (fun h3 => ?_) (fun h3 => ?_)
    · have hkn : k < n := by simp at h3; omega
      obtain ⟨x1, x2, lx, x3, x4⟩ := hB.atU (i := k) hkn
      obtain ⟨y1, y2, ly, y3, y4⟩ := hB.atU (i := k - 1) (by omega)
      refine wp_draw rfl rfl (by kernel_rfl) rfl ?_
      refine dq_idxgn k rfl rfl x2 rfl (by omega) ?_
      refine dq_loadx rfl rfl x1 x3 x4 ?_
      refine dq_idxgn (k - 1) rfl rfl x2 (by simp only [wrapE]; omega) (by omega) ?_
      refine dq_loadx rfl rfl y1 y3 y4 ?_
      refine dq_done rfl ?_
      refine wp_br rfl (fun h4 => ?_) (fun h4 => ?_)
      · have h5 : d[k]! = d[k - 1]! := by simpa using h4
        refine wp_gslo k 1 rfl rfl rfl rfl rfl rfl rfl rfl ⟨_, rfl⟩ hk2 (hB.cap) ?_
        have hck : c ≠ k := by have := hB.cap; omega
        rw [show (if c = k then nulAddr ⟨B.id, B.nul, B.live, B.body⟩ else (nulAddr ⟨B.id, B.nul, B.live, B.body⟩).map (·.add (k * 1))) = some (⟨B.id, k, none⟩ : Addr) from by
          rw [if_neg hck]; simp only [nulAddr, x2]; simp [Addr.add_lit]]
        refine wp_for (σ := Nat × Nat × Body × Array Int) (fun s => 1 ≤ s.2.1 ∧ k + s.2.1 ≤ n ∧ s.1 + 1 ≤ k + s.2.1 ∧ OwnSl ⟨B.id, B.nul, B.live, s.2.2.1⟩ 86 1 n c (U s.2.2.2.toList) ∧ cp d (k + s.2.1) = s.2.2.2.toList.take s.1 ∧ ∀ j, k + s.2.1 ≤ j + 1 → s.2.2.2[j]! = d[j]!) (fun s => n - k - s.2.1)
          (fun s => [(0, .gs 0 n c), (3, .v (.int .i64 s.1)), (4, .v (.slice (some ⟨B.id, k, none⟩) (n - k) (c - k))), (5, .v (.int .i64 s.2.1))]) (fun s => [⟨B.id, B.nul, B.live, s.2.2.1⟩]) (k, 1, B.body, d) rfl
          ⟨Nat.le_refl _, by dsimp only; omega, by dsimp only; omega, hB, by dsimp only; rw [cp, if_neg (by rw [h5]; omega)]; exact hcp, fun _ _ => rfl⟩ rfl ⟨rfl, rfl, rfl, rfl, trivial⟩ ?_
        rintro ⟨k1, k2, bd, e⟩ ⟨hk21, hkk, hk1k, ho, hcp2, hold⟩ again2
        dsimp only at hk21 hkk hk1k ho hcp2 hold again2 ⊢
        have hsz2 := ho.szU
        refine wp_br rfl (fun g1 => ?_) (fun g1 => ?_)
        · have g2 : k + k2 < n := by simp at g1; omega
          obtain ⟨p1, p2, lp, p3, p4⟩ := ho.at (i := k + k2) (v := .int .u32 d[k + k2]!) (by rw [← hold (k + k2) (by omega)]; exact U_at (by omega))
          obtain ⟨r1, r2, lr, r3, r4⟩ := ho.at (i := k + k2 - 1) (v := .int .u32 d[k + k2 - 1]!) (by rw [← hold (k + k2 - 1) (by omega)]; exact U_at (by omega))
          refine wp_drawn rfl rfl rfl [0, 1, 2, 3, 4, 5, 6, 7, 8, 9] (by kernel_rfl) ?_
          refine dn_idx _ rfl rfl (by omega) (by omega) ?_
          refine dn_load_at 0 (k + k2) rfl rfl p1 p3 (addr1 _ _ _ _ rfl) p4 ?_
          have ew : IntKind.wrap .i64 ((k2 : Int) - 1) = ((k2 - 1 : Nat) : Int) := by simp only [wrapE]; omega
          refine dn_idx _ rfl rfl (by rw [ew]; omega) (by rw [ew]; omega) ?_
          rw [ew]
          refine dn_load_at 0 (k + k2 - 1) rfl rfl r1 r3 (addr1 _ _ _ _ (by omega)) r4 ?_
          refine dn_done rfl ?_
          refine wp_br rfl (fun g3 => ?_) (fun g3 => ?_)
          · have g4 : d[k + k2]! ≠ d[k + k2 - 1]! := by simpa using g3
            refine wp_idx _ rfl rfl (by omega) (by omega) ?_
            refine wp_load_at 0 (k + k2) rfl rfl p1 p3 (addr1 _ _ _ _ rfl) p4 ?_
            refine wp_idxgn k1 rfl rfl p2 rfl (by omega) ?_
            refine wp_put k1 rfl rfl ho (off1 _) (by omega) rfl rfl rfl ?_
            intro bd2 ow2 ho2 hw2
            cases hw2
            have hset : (U e.toList).set k1 (.int .u32 d[k + k2]!) = U (e.setIfInBounds k1 d[k + k2]!).toList := by simp [U, List.map_set]
            rw [hset] at ho2
            refine wp_again rfl (again2 (k1 + 1, k2 + 1, bd2, e.setIfInBounds k1 d[k + k2]!) ⟨by dsimp only; omega, by dsimp only; omega, by dsimp only; omega, ho2, ?_, ?_⟩ (by dsimp only; omega)) ⟨rfl, eqI (by simp only [wrapE]; omega), rfl, eqI (by simp only [wrapE]; omega), trivial⟩
            · show cp d (k + (k2 + 1)) = (e.setIfInBounds k1 d[k + k2]!).toList.take (k1 + 1)
              rw [← Nat.add_assoc, cp, if_pos (.inr g4), hcp2, Array.toList_setIfInBounds, List.set_eq_take_append_cons_drop, if_pos (by simp; omega)]
              rw [show e.toList.take k1 ++ d[k + k2]! :: e.toList.drop (k1 + 1) = (e.toList.take k1 ++ [d[k + k2]!]) ++ e.toList.drop (k1 + 1) from by simp]
              exact (List.take_left' (by simp; omega)).symm
            · intro j hj
              dsimp only at hj
              have hne : k1 ≠ j := by omega
              rw [← hold j (by omega)]
              simp only [Array.getElem!_eq_getD, Array.getD_eq_getD_getElem?, Array.getElem?_setIfInBounds_ne hne]
          · have g4 : d[k + k2]! = d[k + k2 - 1]! := by simpa using g3
            refine wp_again rfl (again2 (k1, k2 + 1, bd, e) ⟨by dsimp only; omega, by dsimp only; omega, by dsimp only; omega, ho, ?_, fun j hj => hold j (by dsimp only at hj; omega)⟩ (by dsimp only; omega)) ⟨rfl, rfl, rfl, eqI (by simp only [wrapE]; omega), trivial⟩
            show cp d (k + (k2 + 1)) = _
            rw [← Nat.add_assoc, cp, if_neg (by rw [g4]; omega)]
            exact hcp2
        · have g2 : k + k2 = n := by simp at g1; omega
          refine wp_gslo k1 1 rfl rfl rfl rfl rfl rfl rfl rfl ⟨_, rfl⟩ (by omega) (hB.cap) ?_
          refine wp_clear (k := 0) (nn := n - k1) (off := k1) (z := .int .u32 0) rfl rfl rfl _ rfl rfl rfl rfl rfl rfl rfl ?_ ho (by omega) ?_
          · right
            rw [if_neg (by have := hB.cap; omega)]
            simp only [nulAddr, x2]
            simp [Addr.add_lit]
          intro bd2 ow2 ho2 hw2
          cases hw2
          refine wp_sgs k1 rfl rfl rfl rfl rfl rfl rfl ⟨_, rfl⟩ (by have := hB.cap; omega) ?_
          refine wp_ret _ rfl rfl (List.Sublist.refl _) ⟨bd2, rfl, rfl, k1, rfl, ?_⟩
          have hcut := ho2.cut (k := k1) (by omega) (by omega)
          rw [List.take_left' (by simp [U]; omega)] at hcut
          rw [← g2, hcp2]
          simpa [U, List.map_take] using hcut
      · have h5 : d[k]! ≠ d[k - 1]! := by simpa using h4
        refine wp_again rfl (again (k + 1) ⟨by omega, by omega, ?_⟩ (by omega)) ⟨rfl, eqI (by simp only [wrapE]; omega), trivial⟩
        rw [cp, if_pos (.inr h5), hcp, take_one (by omega)]
    · have hkn : k = n := by simp at h3; omega
      subst hkn
      rw [List.take_of_length_le (by simpa using Nat.le_of_eq hsz)] at hcp
      exact wp_ret _ rfl rfl (List.Sublist.refl _) ⟨B.body, rfl, rfl, k, rfl, by rw [hcp]; exact hB⟩
end Go.Vc
namespace Go.Vc
set_option linter.unusedSimpArgs false
open Go.Proofs Go.Lib Go.Sort
set_option linter.unusedVariables false
set_option maxRecDepth 20000

theorem tidy_spec (h : PHeap) (B : Blk) (n c : Nat) (d : Array Int) (hB : OwnSl B 86 1 n c (U d.toList)) (hn : n ≤ 1000000000) :
    Eat Try.prog 52 [.slice (nulAddr B) n c] h B fun v h' => ∃ (A : Option Addr) (k : Nat) (d' : Array Int), PermIn 0 n d d' ∧ SortedIn ltInt 0 n d' ∧ v = .slice A k c ∧ HSl h' 1 A k (U (cp d' n)) := by
  refine Eat.of_wps (env := [(0, .gs 0 n c)]) [.gs 0 n c] Try.func52 Try.call52 rfl rfl rfl rfl ?_
  refine wp_chg 0 rfl rfl (sort_spec h B n c d hB hn) ?_
  rintro v h1 bd ow hle ⟨rfl, d', p1, p2, ho⟩ hw
  cases hw
  refine wp_chg 0 rfl rfl (compact_spec h1 ⟨B.id, B.nul, B.live, bd⟩ n c d' ho hn) ?_
  rintro v h2 bd2 ow2 hle2 ⟨rfl, k, rfl, ho2⟩ hw2
  cases hw2
  refine wp_fsl 0 rfl rfl ho2 fun h3 hle3 hs => ?_
  exact wp_ret0 rfl rfl ⟨rfl, _, k, d', p1, p2, rfl, hs⟩
end Go.Vc
namespace Go.Vc
set_option linter.unusedSimpArgs false
open Go.Proofs Go.Lib Go.Sort
set_option linter.unusedVariables false
set_option maxRecDepth 20000

theorem needs_spec (h : PHeap) (A B : Option Addr) (n ca m cb : Nat) (ps : List Pt) (cs : List Int) (hc : CxAt h A n B m ps cs) (hk : (keysTo ps cs m).length ≤ 100000000) :
    Pure Try.prog 15 [.agg ⟨[.slice A n ca, .slice B m cb]⟩] h fun v h' => ∃ A' k c', v = .slice A' k c' ∧ ((m : Int) ≠ n - 1 ∧ k = 0 ∧ A' = none ∨ (m : Int) = n - 1 ∧ ∃ d' : Array Int, PermIn 0 (keysTo ps cs m).length (keysTo ps cs m).toArray d' ∧ SortedIn ltInt 0 (keysTo ps cs m).length d' ∧ HSl h' 1 A' k (U (cp d' (keysTo ps cs m).length))) := by
  have hpl : ps.length = n := by have := hc.parts.1; simpa using this
  have hcl : cs.length = m := by have := hc.combs.1; simpa using this
  obtain ⟨hn, hm⟩ := hc.small
  refine Pure.of_wp (env := [(0, .v (.agg ⟨[.slice A n ca, .slice B m cb]⟩))]) Try.func15 Try.call15 rfl rfl rfl ?_
  refine wp_alloc 0 rfl rfl fun b0 => ?_
  refine wp_br rfl (fun h1 => ?_) (fun h1 => ?_)
  · refine wp_ret0 rfl rfl ⟨rfl, none, 0, 0, rfl, .inl ⟨?_, rfl, rfl⟩⟩
    rw [wrap64 (by omega) (by omega)] at h1
    simpa using h1
  · have hmn : (m : Int) = n - 1 := by
      rw [wrap64 (by omega) (by omega)] at h1
      simpa using h1
    refine wp_loop (σ := Nat × Blk × Nat × Nat × List Int) (fun s => s.1 ≤ m ∧ OwnSl s.2.1 86 1 s.2.2.1 s.2.2.2.1 (U s.2.2.2.2) ∧ s.2.2.2.2 = keysTo ps cs s.1) (fun s => m - s.1)
      (fun s => [(1, .loc 0 0), (3, .gs 1 s.2.2.1 s.2.2.2.1), (17, .v (.slice B m cb)), (18, .v (.int .i64 m)), (19, .v (.int .i64 s.1))])
      (fun s => [⟨b0, false, true, .cells [.slice A n ca, .slice B m cb] 25⟩, s.2.1]) (fun _ => h) rfl ?_ (fun go => ?_)
    · rintro ⟨i, B1, k1, c1, L⟩ ⟨hi, hB1, hL⟩ again
      dsimp only at hi hB1 hL again ⊢
      refine wp_br rfl (fun h2 => ?_) (fun h2 => ?_)
      · have hin : i < m := by simp at h2; omega
        obtain ⟨pb, x, rfl, hx, hpx⟩ := hc.combs.getM hin
        obtain ⟨pa, ⟨qa, ql, qc, qs⟩, rfl, hp, hpp⟩ := hc.parts.getM (i := i) (by omega)
        obtain ⟨hsm, hql, hnm⟩ := hc.each _ (List.mem_of_getElem? hp)
        dsimp only at hsm hql hnm
        have hsl : qs.length = ql := by have := hsm.1; rw [flat_len] at this; omega
        have hk1 : L.length = k1 := by have := hB1.1; simpa [U] using this
        refine wp_idx _ rfl rfl (by omega) (by omega) ?_
        refine wp_load rfl hpx ?_
        have hlt := keysTo_mono ps cs (i + 1) (m - (i + 1))
        rw [show i + 1 + (m - (i + 1)) = m from by omega] at hlt
        refine wp_br rfl (fun h3 => wp_br rfl (fun h4 => ?_) (fun h4 => ?_)) (fun h3 => ?_)
        · have hno : keysAt ps cs i = [] := by
            unfold keysAt; rw [if_neg]; simp at h3 h4; simp [hx, h3, h4]
          exact wp_again rfl (again (i + 1, B1, k1, c1, L) ⟨hin, hB1, by rw [hL, keysTo, hno, List.append_nil]⟩ (by dsimp only; omega)) ⟨rfl, rfl, rfl, rfl, eqI (by rw [wrap64 (by omega) (by omega)]; rfl), trivial⟩
        all_goals
          have hyes : keysAt ps cs i = keysOf qs := by
            unfold keysAt; rw [if_pos (by first | (simp at h4; simp [hx, h4]) | (simp at h3; simp [hx, h3])), hp]; rfl
          have hlen3 : (keysTo ps cs i).length + (keysOf qs).length ≤ 100000000 := by
            rw [keysTo, List.length_append, hyes] at hlt; omega
          refine wp_idx _ rfl rfl (by omega) (by omega) ?_
          refine wp_load rfl hpp ?_
          refine wp_loop (σ := Nat × Blk × Nat × Nat × List Int) (fun s => s.1 ≤ ql ∧ OwnSl s.2.1 86 1 s.2.2.1 s.2.2.2.1 (U s.2.2.2.2) ∧ s.2.2.2.2 = L ++ keysOf (qs.take s.1)) (fun s => ql - s.1)
            (fun s => [(1, .loc 0 0), (3, .gs 1 s.2.2.1 s.2.2.2.1), (17, .v (.slice (some pb) m cb)), (18, .v (.int .i64 m)), (19, .v (.int .i64 i)), (34, .v (.slice qa ql qc)), (35, .v (.int .i64 ql)), (36, .v (.int .i64 s.1))])
            (fun s => [⟨b0, false, true, .cells [.slice (some pa) n ca, .slice (some pb) m cb] 25⟩, s.2.1]) (fun _ => h) rfl ?_ (fun go => ?_)
          · rintro ⟨j, B3, k3, c3, L3⟩ ⟨hj, hB3, hL3⟩ again3
            dsimp only at hj hB3 hL3 again3 ⊢
            refine wp_br rfl (fun h5 => ?_) (fun h5 => ?_)
            · have hjn : j < ql := by simp at h5; omega
              obtain ⟨pq, sm, rfl, hsx, hsc⟩ := hsm.getSm hjn
              have hnsz := hnm sm (List.mem_of_getElem? hsx)
              have htk : keysOf (qs.take (j + 1)) = keysOf (qs.take j) ++ keyOf sm := by
                rw [List.take_add_one, hsx]; simp [keysOf]
              have hk3 : L3.length = k3 := by have := hB3.1; simpa [U] using this
              have hL3len : k3 ≤ 200000000 := by
                have e3 := keysOf_take qs j
                rw [← hk3, hL3, List.length_append, hL]; omega
              obtain ⟨kd, nm, so, sv, sa, sb, la, ll, lc⟩ := sm
              refine wp_idx _ rfl rfl (by omega) (by omega) ?_
              refine wp_loads rfl (vs := [.int .i64 kd, .string nm, .int .i64 so, .string sv, .int .i64 sa, .int .i64 sb, .slice la ll lc]) rfl hsc ?_
              refine wp_alloc 2 rfl rfl fun b1 => ?_
              refine wp_br rfl (fun q1 => ?_) (fun q1 => ?_)
              · have e1 : kd = 1 := by simpa using q1
                refine wp_br rfl (fun q2 => ?_) (fun q2 => ?_)
                · have hky : keyOf ⟨kd, nm, so, sv, sa, sb, la, ll, lc⟩ = [] := keyOf_no (by simp at q2; simp [e1, q2, star])
                  refine wp_againS (l := [_]) rfl (again3 (j + 1, B3, k3, c3, L3) ⟨hjn, hB3, by rw [htk, hky, hL3]; simp⟩ (by dsimp only; omega)) ⟨rfl, rfl, rfl, rfl, rfl, rfl, rfl, eqI (by rw [wrap64 (by omega) (by omega)]; rfl), trivial⟩ rfl ⟨⟨_, rfl⟩, ⟨_, rfl⟩, ⟨_, rfl⟩, ⟨_, rfl⟩, ⟨_, rfl⟩, ⟨_, rfl⟩, ⟨_, rfl⟩, ⟨_, rfl⟩, trivial⟩
                · refine wp_brT rfl q1 ?_
                  refine wp_brT rfl q1 ?_
                  have hky : keyOf ⟨kd, nm, so, sv, sa, sb, la, ll, lc⟩ = [keyF kd nm.data.toList] := keyOf_yes (by left; exact ⟨e1, by simpa [star] using q2⟩)
                  refine wp_pure rfl (key_spec h kd nm (by dsimp only at hnsz; omega)) ?_
                  rintro vk gk hlek ⟨rfl, rfl⟩
                  refine wp_bslice 3 rfl rfl rfl rfl rfl rfl rfl rfl rfl rfl rfl rfl fun b3 => ?_
                  refine wp_app (size := 1) (bytes := 4) [1, 17, 18, 19, 34, 35, 36] rfl rfl rfl rfl rfl rfl rfl rfl rfl rfl rfl rfl rfl rfl hB3 (Src.ofOwn (k := 3) (ys := [.int .u32 (keyF kd nm.data.toList)]) rfl rfl fun j u hj => hj) (by simp [Value.oneCell']) (by simp only [maxLen]; omega) (by omega) ?_
                  intro B4 c4 ow4 hB4 ho4
                  cases ho4
                  refine wp_againS (l := [_, _]) rfl (again3 (j + 1, B4, _, c4, L3 ++ [keyF kd nm.data.toList]) ⟨hjn, by simpa [U] using hB4, by rw [htk, hky, hL3, List.append_assoc]⟩ (by dsimp only; omega)) ⟨rfl, rfl, rfl, rfl, rfl, rfl, rfl, eqI (by rw [wrap64 (by omega) (by omega)]; rfl), trivial⟩ rfl ⟨⟨_, rfl⟩, ⟨_, rfl⟩, ⟨_, rfl⟩, ⟨_, rfl⟩, ⟨_, rfl⟩, ⟨_, rfl⟩, ⟨_, rfl⟩, ⟨_, rfl⟩, trivial⟩
              · have e1 : kd ≠ 1 := by simpa using q1
                refine wp_brF rfl q1 ?_
                refine wp_br rfl (fun q3 => ?_) (fun q3 => ?_)
                · refine wp_brT rfl q3 ?_
                  have hky : keyOf ⟨kd, nm, so, sv, sa, sb, la, ll, lc⟩ = [keyF kd nm.data.toList] := keyOf_yes (by right; left; simpa using q3)
                  refine wp_pure rfl (key_spec h kd nm (by dsimp only at hnsz; omega)) ?_
                  rintro vk gk hlek ⟨rfl, rfl⟩
                  refine wp_bslice 3 rfl rfl rfl rfl rfl rfl rfl rfl rfl rfl rfl rfl fun b3 => ?_
                  refine wp_app (size := 1) (bytes := 4) [1, 17, 18, 19, 34, 35, 36] rfl rfl rfl rfl rfl rfl rfl rfl rfl rfl rfl rfl rfl rfl hB3 (Src.ofOwn (k := 3) (ys := [.int .u32 (keyF kd nm.data.toList)]) rfl rfl fun j u hj => hj) (by simp [Value.oneCell']) (by simp only [maxLen]; omega) (by omega) ?_
                  intro B4 c4 ow4 hB4 ho4
                  cases ho4
                  refine wp_againS (l := [_, _]) rfl (again3 (j + 1, B4, _, c4, L3 ++ [keyF kd nm.data.toList]) ⟨hjn, by simpa [U] using hB4, by rw [htk, hky, hL3, List.append_assoc]⟩ (by dsimp only; omega)) ⟨rfl, rfl, rfl, rfl, rfl, rfl, rfl, eqI (by rw [wrap64 (by omega) (by omega)]; rfl), trivial⟩ rfl ⟨⟨_, rfl⟩, ⟨_, rfl⟩, ⟨_, rfl⟩, ⟨_, rfl⟩, ⟨_, rfl⟩, ⟨_, rfl⟩, ⟨_, rfl⟩, ⟨_, rfl⟩, trivial⟩
                · refine wp_br rfl (fun q4 => ?_) (fun q4 => ?_)
                  · have hky : keyOf ⟨kd, nm, so, sv, sa, sb, la, ll, lc⟩ = [keyF kd nm.data.toList] := keyOf_yes (by right; right; simpa using q4)
                    refine wp_pure rfl (key_spec h kd nm (by dsimp only at hnsz; omega)) ?_
                    rintro vk gk hlek ⟨rfl, rfl⟩
                    refine wp_bslice 3 rfl rfl rfl rfl rfl rfl rfl rfl rfl rfl rfl rfl fun b3 => ?_
                    refine wp_app (size := 1) (bytes := 4) [1, 17, 18, 19, 34, 35, 36] rfl rfl rfl rfl rfl rfl rfl rfl rfl rfl rfl rfl rfl rfl hB3 (Src.ofOwn (k := 3) (ys := [.int .u32 (keyF kd nm.data.toList)]) rfl rfl fun j u hj => hj) (by simp [Value.oneCell']) (by simp only [maxLen]; omega) (by omega) ?_
                    intro B4 c4 ow4 hB4 ho4
                    cases ho4
                    refine wp_againS (l := [_, _]) rfl (again3 (j + 1, B4, _, c4, L3 ++ [keyF kd nm.data.toList]) ⟨hjn, by simpa [U] using hB4, by rw [htk, hky, hL3, List.append_assoc]⟩ (by dsimp only; omega)) ⟨rfl, rfl, rfl, rfl, rfl, rfl, rfl, eqI (by rw [wrap64 (by omega) (by omega)]; rfl), trivial⟩ rfl ⟨⟨_, rfl⟩, ⟨_, rfl⟩, ⟨_, rfl⟩, ⟨_, rfl⟩, ⟨_, rfl⟩, ⟨_, rfl⟩, ⟨_, rfl⟩, ⟨_, rfl⟩, trivial⟩
                  · have hky : keyOf ⟨kd, nm, so, sv, sa, sb, la, ll, lc⟩ = [] := keyOf_no (by simp at q3 q4; simp [e1, q3, q4])
                    refine wp_againS (l := [_]) rfl (again3 (j + 1, B3, k3, c3, L3) ⟨hjn, hB3, by rw [htk, hky, hL3]; simp⟩ (by dsimp only; omega)) ⟨rfl, rfl, rfl, rfl, rfl, rfl, rfl, eqI (by rw [wrap64 (by omega) (by omega)]; rfl), trivial⟩ rfl ⟨⟨_, rfl⟩, ⟨_, rfl⟩, ⟨_, rfl⟩, ⟨_, rfl⟩, ⟨_, rfl⟩, ⟨_, rfl⟩, ⟨_, rfl⟩, ⟨_, rfl⟩, trivial⟩
            · have hjn : j = ql := by simp at h5; omega
              refine wp_again rfl (again (i + 1, B3, k3, c3, L3) ⟨hin, hB3, ?_⟩ (by dsimp only; omega)) ⟨rfl, rfl, rfl, rfl, eqI (by rw [wrap64 (by omega) (by omega)]; rfl), trivial⟩
              rw [hL3, hjn, List.take_of_length_le (by omega), hL, keysTo, hyes]
          · exact wp_to (go (0, B1, k1, c1, L) ⟨Nat.zero_le _, hB1, by simp [keysOf]⟩) ⟨rfl, rfl, rfl, rfl, rfl, rfl, rfl, rfl, trivial⟩
      · have hin : i = m := by simp at h2; omega
        have hk1 : L.length = k1 := by have := hB1.1; simpa [U] using this
        subst hin
        have hty := tidy_spec h B1 k1 c1 L.toArray (by simpa using hB1) (by rw [← hk1, hL]; omega)
        refine wp_eat 1 rfl rfl hty rfl ?_
        rintro v h' hle ⟨A', k, d', p1, p2, rfl, hs⟩
        refine wp_ret0 rfl rfl ⟨rfl, A', k, c1, rfl, .inr ⟨hmn, d', ?_, ?_, ?_⟩⟩
        · rw [← hL, hk1]; exact p1
        · rw [← hL, hk1]; exact p2
        · rw [← hL, hk1]; exact hs
    · refine wp_nil 3 1 rfl rfl ?_
      exact wp_to (go (0, ⟨0, true, false, .cells [] 0⟩, 0, 0, []) ⟨Nat.zero_le _, OwnSl.nil _ _ _ _, rfl⟩) ⟨rfl, rfl, rfl, rfl, rfl, trivial⟩
end Go.Vc
namespace Go.Vc
set_option linter.unusedSimpArgs false
open Go.Proofs Go.Lib Go.Sort
set_option linter.unusedVariables false
set_option maxRecDepth 20000

def hasL (f : List Int) (k : Int) : Bool := addL f k == f
def InU (l : List Int) : Prop := ∀ x ∈ l, 0 ≤ x ∧ x ≤ 4294967295

theorem skip1_spec (h : PHeap) (a : Addr) (f : List Int) (hf : f.length = 4) (ha : HCells h a (W f)) (k : Int) (h0 : 0 ≤ k) (h1 : k ≤ 4294967295) :
    Pure Try.prog 55 [.int .u32 k, .pointer (some a)] h fun v h' => h' = h ∧ v = .bool (!hasL f k) := by
  obtain ⟨x, y, z, w, rfl⟩ := four hf
  refine Pure.of_wp (env := [(0, .v (.int .u32 k)), (1, .v (.pointer (some a)))]) Try.func55 Try.call55 rfl rfl rfl ?_
  refine wp_loads rfl (vs := [.int .u64 x, .int .u64 y, .int .u64 z, .int .u64 w]) rfl ha ?_
  refine wp_pure rfl (has_spec h [x, y, z, w] rfl k h0 h1) ?_
  rintro v h' hle ⟨rfl, rfl⟩
  exact wp_ret0 rfl rfl ⟨rfl, rfl, rfl⟩

theorem index_spec (h : PHeap) (A : Option Addr) (n c : Nat) (l : List Int) (hl : HSl h 1 A n (U l)) (hu : InU l) (hn : n ≤ 1000000000) (a : Addr) (f : List Int) (hf : f.length = 4) (ha : HCells h a (W f)) :
    Pure Try.prog 91 [.slice A n c, .func (.func 55) ⟨[]⟩ ⟨[.pointer (some a)]⟩] h fun v h' => h' = h ∧ ∃ i : Int, v = .int .i64 i ∧ (i ≥ 0 ↔ l.any (fun k => !hasL f k) = true) := by
  have hll : l.length = n := by have := hl.1; simpa [U] using this
  refine Pure.of_wp (env := [(0, .v (.slice A n c)), (1, .v (.func (.func 55) ⟨[]⟩ ⟨[.pointer (some a)]⟩))]) Try.func91 Try.call91 rfl rfl rfl ?_
  refine wp_for (fun i : Nat => i ≤ n ∧ (l.take i).any (fun k => !hasL f k) = false) (fun i => n - i) (fun i => [(0, .v (.slice A n c)), (1, .v (.func (.func 55) ⟨[]⟩ ⟨[.pointer (some a)]⟩)), (7, .v (.int .i64 n)), (8, .v (.int .i64 i))]) (fun _ => []) 0 rfl ⟨Nat.zero_le _, rfl⟩ rfl ⟨rfl, rfl, rfl, rfl, trivial⟩ ?_
  intro i ⟨hi, hno⟩ again
  refine wp_br rfl (fun h1 => ?_) (fun h1 => ?_)
  · have hin : i < n := by simp at h1; omega
    obtain ⟨pa, x, rfl, hx, hpx⟩ := hl.getU hin
    obtain ⟨u0, u1⟩ := hu x (List.mem_of_getElem? hx)
    refine wp_idx _ rfl rfl (by omega) (by omega) ?_
    refine wp_load rfl hpx ?_
    refine wp_pure rfl (skip1_spec h a f hf ha x u0 u1) ?_
    rintro v h' hle ⟨rfl, rfl⟩
    refine wp_br rfl (fun h2 => ?_) (fun h2 => ?_)
    · refine wp_ret0 rfl rfl ⟨rfl, rfl, i, rfl, ?_⟩
      exact ⟨fun _ => List.any_eq_true.2 ⟨x, List.mem_of_getElem? hx, h2⟩, fun _ => by omega⟩
    · refine wp_again rfl (again (i + 1) ⟨hin, ?_⟩ (by omega)) ⟨rfl, rfl, rfl, eqI (by simp only [wrapE]; omega), trivial⟩
      rw [List.take_add_one, hx, List.any_append, hno]; simp [h2]
  · have hin : i = n := by simp at h1; omega
    refine wp_ret0 rfl rfl ⟨rfl, rfl, -1, rfl, ?_⟩
    rw [hin, List.take_of_length_le (by omega)] at hno
    rw [hno]; simp
end Go.Vc
namespace Go.Vc
set_option linter.unusedSimpArgs false
open Go.Proofs Go.Lib Go.Sort
set_option linter.unusedVariables false
set_option maxRecDepth 20000

theorem contains_spec (h : PHeap) (A : Option Addr) (n c : Nat) (l : List Int) (hl : HSl h 1 A n (U l)) (hu : InU l) (hn : n ≤ 1000000000) (a : Addr) (f : List Int) (hf : f.length = 4) (ha : HCells h a (W f)) :
    Pure Try.prog 54 [.slice A n c, .func (.func 55) ⟨[]⟩ ⟨[.pointer (some a)]⟩] h fun v h' => h' = h ∧ v = .bool (l.any (fun k => !hasL f k)) := by
  refine Pure.of_wp (env := [(0, .v (.slice A n c)), (1, .v (.func (.func 55) ⟨[]⟩ ⟨[.pointer (some a)]⟩))]) Try.func54 Try.call54 rfl rfl rfl ?_
  refine wp_pure rfl (index_spec h A n c l hl hu hn a f hf ha) ?_
  rintro v h' hle ⟨rfl, i, rfl, hi⟩
  refine wp_ret0 rfl rfl ⟨rfl, rfl, ?_⟩
  dsimp only [retV]
  congr 1
  cases hb : l.any (fun k => !hasL f k) with
  | true => exact decide_eq_true (hi.2 hb)
  | false => exact decide_eq_false (fun h => by have := hi.1 h; rw [hb] at this; cases this)
end Go.Vc
namespace Go.Vc
set_option linter.unusedSimpArgs false
open Go.Proofs Go.Lib Go.Sort
set_option linter.unusedVariables false

def insK (k : Int) : List Int → List Int
  | [] => [k]
  | x :: l => if x < k then x :: insK k l else if x = k then x :: l else k :: x :: l

def finP (k : Int) (s : List Int × Bool) : List Int := if s.2 then s.1 else s.1 ++ [k]

theorem fold_true (k : Int) : ∀ (l out : List Int), (∀ x ∈ l, x ≠ k) → finP k (l.foldl (putStep k) (out, true)) = out ++ l := by
  intro l
  induction l with
  | nil => intro out _; simp [finP]
  | cons x l ih =>
    intro out hx
    have h1 : x ≠ k := hx x List.mem_cons_self
    have h2 : putStep k (out, true) x = (out ++ [x], true) := by simp [putStep, h1]
    rw [List.foldl_cons, h2, ih _ fun y hy => hx y (List.mem_cons_of_mem _ hy)]
    simp

theorem fold_ins (k : Int) : ∀ (l out : List Int), l.Pairwise (· < ·) → finP k (l.foldl (putStep k) (out, false)) = out ++ insK k l := by
  intro l
  induction l with
  | nil => intro out _; simp [finP, insK]
  | cons x l ih =>
    intro out hp
    obtain ⟨hx, hl⟩ := List.pairwise_cons.1 hp
    rw [List.foldl_cons, insK]
    by_cases h1 : x < k
    · have h2 : putStep k (out, false) x = (out ++ [x], false) := by
        have : ¬ x ≥ k := by omega
        have h3 : x ≠ k := by omega
        simp [putStep, this, h3]
      rw [h2, ih _ hl, if_pos h1]; simp
    · by_cases h2 : x = k
      · subst h2
        have h3 : putStep x (out, false) x = (out ++ [x], true) := by simp [putStep]
        rw [h3, fold_true x l _ (fun y hy => by have := hx y hy; omega), if_neg h1, if_pos rfl]; simp
      · have h3 : putStep k (out, false) x = (out ++ [k] ++ [x], true) := by
          have : x ≥ k := by omega
          simp [putStep, this, h2]
        rw [h3, fold_true k l _ (fun y hy => by have := hx y hy; omega), if_neg h1, if_neg h2]; simp

theorem putL_ins {l : List Int} (h : l.Pairwise (· < ·)) (k : Int) : putL l k = insK k l := by
  have := fold_ins k l [] h
  rw [List.nil_append] at this
  exact this

theorem mem_insK (k y : Int) : ∀ l : List Int, y ∈ insK k l ↔ y = k ∨ y ∈ l := by
  intro l
  induction l with
  | nil => simp [insK]
  | cons x l ih =>
    rw [insK]
    split
    · rw [List.mem_cons, ih, List.mem_cons]
      constructor
      · rintro (h | h | h); exact .inr (.inl h); exact .inl h; exact .inr (.inr h)
      · rintro (h | h | h); exact .inr (.inl h); exact .inl h; exact .inr (.inr h)
    · split
      · rename_i h; subst h; simp
      · simp

theorem insK_asc (k : Int) : ∀ l : List Int, l.Pairwise (· < ·) → (insK k l).Pairwise (· < ·) := by
  intro l
  induction l with
  | nil => intro _; simp [insK]
  | cons x l ih =>
    intro hp
    obtain ⟨hx, hl⟩ := List.pairwise_cons.1 hp
    rw [insK]
    split
    · rename_i h
      refine List.pairwise_cons.2 ⟨fun y hy => ?_, ih hl⟩
      rcases (mem_insK k y l).1 hy with rfl | hy
      · exact h
      · exact hx y hy
    · split
      · exact hp
      · rename_i h1 h2
        refine List.pairwise_cons.2 ⟨fun y hy => ?_, hp⟩
        rcases List.mem_cons.1 hy with rfl | hy
        · omega
        · have := hx y hy; omega

theorem puts_asc : ∀ (ks l : List Int), l.Pairwise (· < ·) → (ks.foldl putL l).Pairwise (· < ·) ∧ ∀ y, y ∈ ks.foldl putL l ↔ y ∈ ks ∨ y ∈ l := by
  intro ks
  induction ks with
  | nil => intro l h; exact ⟨h, fun y => by simp⟩
  | cons k ks ih =>
    intro l h
    rw [List.foldl_cons, putL_ins h]
    obtain ⟨h1, h2⟩ := ih _ (insK_asc k l h)
    refine ⟨h1, fun y => ?_⟩
    rw [h2, mem_insK, List.mem_cons]
    constructor
    · rintro (h | h | h); exact .inl (.inr h); exact .inl (.inl h); exact .inr h
    · rintro ((h | h) | h); exact .inr (.inl h); exact .inl h; exact .inr (.inr h)

theorem asc_ext : ∀ {a b : List Int}, a.Pairwise (· < ·) → b.Pairwise (· < ·) → (∀ y, y ∈ a ↔ y ∈ b) → a = b := by
  intro a
  induction a with
  | nil =>
    intro b _ _ h
    cases b with
    | nil => rfl
    | cons y b => exact absurd ((h y).2 List.mem_cons_self) (by simp)
  | cons x a ih =>
    intro b ha hb h
    cases b with
    | nil => exact absurd ((h x).1 List.mem_cons_self) (by simp)
    | cons y b =>
      obtain ⟨hx, ha'⟩ := List.pairwise_cons.1 ha
      obtain ⟨hy, hb'⟩ := List.pairwise_cons.1 hb
      have hxy : x = y := by
        rcases List.mem_cons.1 ((h x).1 List.mem_cons_self) with e | e
        · exact e
        · rcases List.mem_cons.1 ((h y).2 List.mem_cons_self) with e2 | e2
          · exact e2.symm
          · have := hx y e2; have := hy x e; omega
      subst hxy
      congr 1
      refine ih ha' hb' fun z => ?_
      constructor
      · intro hz
        rcases List.mem_cons.1 ((h z).1 (List.mem_cons_of_mem _ hz)) with e | e
        · have := hx z hz; omega
        · exact e
      · intro hz
        rcases List.mem_cons.1 ((h z).2 (List.mem_cons_of_mem _ hz)) with e | e
        · have := hy z hz; omega
        · exact e
end Go.Vc
namespace Go.Vc
set_option linter.unusedSimpArgs false
open Go.Proofs Go.Lib Go.Sort
set_option linter.unusedVariables false

theorem cp_ok {d : Array Int} {n : Nat} (hs : SortedIn ltInt 0 n d) : ∀ i, i ≤ n → (cp d i).Pairwise (· < ·) ∧ (∀ y, y ∈ cp d i ↔ ∃ j, j < i ∧ d[j]! = y) := by
  have hmono : ∀ i j, i < j → j < n → d[i]! ≤ d[j]! := fun i j hij hj => by
    have := hs i j (Nat.zero_le _) hij hj
    simp [ltInt] at this; omega
  intro i
  induction i with
  | zero => intro _; exact ⟨List.Pairwise.nil, fun y => by simp [cp]⟩
  | succ i ih =>
    intro hi
    obtain ⟨h1, h2⟩ := ih (by omega)
    rw [cp]
    split
    · rename_i hc
      refine ⟨List.pairwise_append.2 ⟨h1, List.pairwise_singleton _ _, fun y hy z hz => ?_⟩, fun y => ?_⟩
      · obtain rfl := List.mem_singleton.1 hz
        obtain ⟨j, hj, rfl⟩ := (h2 y).1 hy
        rcases hc with hc | hc
        · omega
        · have e1 := hmono (i - 1) i (by omega) (by omega)
          rcases Nat.lt_or_ge j (i - 1) with h | h
          · have := hmono j (i - 1) h (by omega); omega
          · have : j = i - 1 := by omega
            subst this; omega
      · rw [List.mem_append, h2, List.mem_singleton]
        constructor
        · rintro (⟨j, hj, e⟩ | e)
          · exact ⟨j, by omega, e⟩
          · exact ⟨i, by omega, e.symm⟩
        · rintro ⟨j, hj, e⟩
          rcases Nat.lt_or_ge j i with h | h
          · exact .inl ⟨j, h, e⟩
          · have : j = i := by omega
            subst this; exact .inr e.symm
    · rename_i hc
      refine ⟨h1, fun y => ?_⟩
      rw [h2]
      constructor
      · rintro ⟨j, hj, e⟩; exact ⟨j, by omega, e⟩
      · rintro ⟨j, hj, e⟩
        rcases Nat.lt_or_ge j i with h | h
        · exact ⟨j, h, e⟩
        · have : j = i := by omega
          subst this
          have h3 : j ≠ 0 := fun h => hc (.inl h)
          refine ⟨j - 1, by omega, ?_⟩
          rw [← e]
          exact (Classical.byContradiction fun h => hc (.inr (fun h' => h h'.symm)))
end Go.Vc
namespace Go.Vc
set_option linter.unusedSimpArgs false
open Go.Proofs Go.Lib Go.Sort
set_option linter.unusedVariables false
set_option maxRecDepth 20000

/-- What is asked above, rising, each once. -/
def NL (K : List Int) : List Int := K.foldl putL []

theorem cp_NL {K : List Int} {d : Array Int} (hp : PermIn 0 K.length K.toArray d) (hs : SortedIn ltInt 0 K.length d) : cp d K.length = NL K := by
  obtain ⟨h1, h2⟩ := cp_ok hs K.length (Nat.le_refl _)
  obtain ⟨h3, h4⟩ := puts_asc K [] List.Pairwise.nil
  have hsz : d.size = K.length := by have := hp.1; simpa using this
  have hperm : d.toList.Perm K := by
    have := hp.2.2
    rw [show d.extract 0 K.length = d from by rw [← hsz]; simp, show K.toArray.extract 0 K.length = K.toArray from by simp] at this
    simpa using this
  refine asc_ext h1 h3 fun y => ?_
  rw [h2, NL, h4]
  constructor
  · rintro ⟨j, hj, e⟩
    left
    have : d[j]! ∈ d.toList := by
      have hj' : j < d.size := by omega
      rw [getElem!_pos d j hj']; simp
    rw [e] at this
    exact hperm.mem_iff.1 this
  · rintro (h | h)
    · obtain ⟨j, hj, e⟩ := List.getElem_of_mem (hperm.mem_iff.2 h)
      refine ⟨j, by simp at hj; omega, ?_⟩
      have hj' : j < d.size := by simpa using hj
      rw [getElem!_pos d j hj']; simpa using e
    · cases h

theorem needs2_spec (h : PHeap) (A B : Option Addr) (n ca m cb : Nat) (ps : List Pt) (cs : List Int) (hc : CxAt h A n B m ps cs) (hk : (keysTo ps cs m).length ≤ 100000000) :
    Pure Try.prog 15 [.agg ⟨[.slice A n ca, .slice B m cb]⟩] h fun v h' => ∃ A' c' L, v = .slice A' L.length c' ∧ HSl h' 1 A' L.length (U L) ∧ L = if (m : Int) = n - 1 then NL (keysTo ps cs m) else [] := by
  refine (needs_spec h A B n ca m cb ps cs hc hk).mono ?_
  rintro v h' hle ⟨A', k, c', rfl, ⟨h1, rfl, rfl⟩ | ⟨h1, d', p1, p2, hs⟩⟩
  · exact ⟨none, c', [], rfl, ⟨rfl, .inl rfl⟩, by rw [if_neg h1]⟩
  · rw [cp_NL p1 p2] at hs
    have hl : (NL (keysTo ps cs m)).length = k := by have := hs.1; simpa [U] using this
    exact ⟨A', c', NL (keysTo ps cs m), by rw [hl], by rw [hl]; exact hs, by rw [if_pos h1]⟩
end Go.Vc
namespace Go.Vc
set_option linter.unusedSimpArgs false
open Go.Proofs Go.Lib Go.Sort
set_option linter.unusedVariables false
set_option maxRecDepth 20000

theorem mixF_range (x u : Int) : 0 ≤ mixF x u ∧ mixF x u ≤ 4294967295 := by
  unfold mixF
  simp only [IntKind.wrap, IntKind.signed, IntKind.bits, Bool.false_and, Bool.false_eq_true, if_false]; omega
theorem fold_range : ∀ (l : List UInt8) (x : Int), 0 ≤ x ∧ x ≤ 4294967295 → 0 ≤ l.foldl (fun x u => mixF x u.toNat) x ∧ l.foldl (fun x u => mixF x u.toNat) x ≤ 4294967295 := by
  intro l
  induction l with
  | nil => intro x h; exact h
  | cons u l ih => intro x h; exact ih _ (mixF_range _ _)
theorem keyF_range (k : Int) (l : List UInt8) : 0 ≤ keyF k l ∧ keyF k l ≤ 4294967295 := fold_range l _ (mixF_range _ _)
theorem keyOf_range (s : Sm) : InU (keyOf s) := by
  intro x hx
  unfold keyOf at hx
  split at hx
  · rw [List.mem_singleton] at hx; subst hx; exact keyF_range _ _
  · cases hx
theorem keysTo_range (ps : List Pt) (cs : List Int) : ∀ i, InU (keysTo ps cs i) := by
  intro i
  induction i with
  | zero => intro x hx; cases hx
  | succ i ih =>
    intro x hx
    rw [keysTo, List.mem_append] at hx
    rcases hx with hx | hx
    · exact ih x hx
    · unfold keysAt at hx
      split at hx
      · unfold keysOf at hx
        obtain ⟨s, _, hs⟩ := List.mem_flatMap.1 hx
        exact keyOf_range s x hs
      · cases hx
theorem NL_range {K : List Int} (h : InU K) : InU (NL K) := by
  intro x hx
  rcases (puts_asc K [] List.Pairwise.nil).2 x |>.1 hx with h1 | h1
  · exact h x h1
  · cases h1

def needL (ps : List Pt) (cs : List Int) (n m : Nat) : List Int := if (m : Int) = n - 1 then NL (keysTo ps cs m) else []
theorem needL_range (ps : List Pt) (cs : List Int) (n m : Nat) : InU (needL ps cs n m) := by
  unfold needL; split
  · exact NL_range (keysTo_range ps cs m)
  · intro x hx; cases hx
theorem needL_len (ps : List Pt) (cs : List Int) (n m : Nat) : (needL ps cs n m).length ≤ (keysTo ps cs m).length := by
  unfold needL; split
  · have := puts_len (keysTo ps cs m) []; simpa [NL] using this
  · simp

theorem skip_spec (h : PHeap) (f : List Int) (hf : f.length = 4) (A B : Option Addr) (n ca m cb : Nat) (ps : List Pt) (cs : List Int) (hc : CxAt h A n B m ps cs) (hk : (keysTo ps cs m).length ≤ 100000000) :
    Pure Try.prog 17 [.agg ⟨W f⟩, .agg ⟨[.slice A n ca, .slice B m cb]⟩] h fun v h' => v = .bool ((needL ps cs n m).any (fun k => !hasL f k)) := by
  obtain ⟨x, y, z, w, rfl⟩ := four hf
  refine Pure.of_wp (env := [(0, .v (.agg ⟨[.int .u64 x, .int .u64 y, .int .u64 z, .int .u64 w]⟩)), (1, .v (.agg ⟨[.slice A n ca, .slice B m cb]⟩))]) Try.func17 Try.call17 rfl rfl rfl ?_
  refine wp_alloc 0 rfl rfl fun b0 => ?_
  refine wp_alloc 1 rfl rfl fun b1 => ?_
  refine wp_freeze 0 rfl rfl fun h1 hle1 hb0 => ?_
  refine wp_pure rfl (needs2_spec h1 A B n ca m cb ps cs (hc.mono hle1) hk) ?_
  rintro v h2 hle2 ⟨A', c', L, rfl, hs, hL⟩
  have hLl : L = needL ps cs n m := hL
  subst hLl
  have ha : HCells h2 ⟨b0, 0, none⟩ (W [x, y, z, w]) := by
    intro j v hj
    rw [addr_add, Nat.zero_add]
    exact ⟨rfl, _, _, _, hle2 _ _ hb0, by simpa [Body.toObj, W] using hj⟩
  refine wp_pure rfl (contains_spec h2 A' _ c' _ hs (needL_range ps cs n m) (by have := needL_len ps cs n m; omega) ⟨b0, 0, none⟩ [x, y, z, w] rfl ha) ?_
  rintro v h3 hle3 ⟨rfl, rfl⟩
  exact wp_ret0 rfl rfl ⟨rfl, rfl⟩

theorem rskip_spec (h : PHeap) (f : List Int) (hf : f.length = 4) (A B : Option Addr) (n ca m cb : Nat) (ps : List Pt) (cs : List Int) (hc : CxAt h A n B m ps cs) (hk : (keysTo ps cs m).length ≤ 100000000) :
    Pure Try.prog 18 [.agg ⟨W f⟩, .agg ⟨[.slice A n ca, .slice B m cb]⟩] h fun v h' => v = .bool ((needL ps cs n m).any (fun k => !hasL f k)) := by
  obtain ⟨x, y, z, w, rfl⟩ := four hf
  refine Pure.of_wp (env := [(0, .v (.agg ⟨[.int .u64 x, .int .u64 y, .int .u64 z, .int .u64 w]⟩)), (1, .v (.agg ⟨[.slice A n ca, .slice B m cb]⟩))]) Try.func18 Try.call18 rfl rfl rfl ?_
  refine wp_alloc 0 rfl rfl fun b0 => ?_
  refine wp_alloc 1 rfl rfl fun b1 => ?_
  refine wp_pure rfl (rneeds_spec h A B n ca m cb ps cs hc hk) ?_
  rintro v h2 hle2 ⟨A', c', L, rfl, hs, hL⟩
  have hLl : L = needL ps cs n m := hL
  have hu : InU L := by rw [hLl]; exact needL_range ps cs n m
  have hlen : L.length ≤ 100000000 := by rw [hLl]; have := needL_len ps cs n m; omega
  refine wp_for (fun i : Nat => i ≤ L.length ∧ (L.take i).any (fun k => !hasL [x, y, z, w] k) = false) (fun i => L.length - i) (fun i => [(2, .loc 0 0), (8, .v (.slice A' L.length c')), (9, .v (.int .i64 L.length)), (10, .v (.int .i64 i))])
    (fun _ => [⟨b0, false, true, .cells [.int .u64 x, .int .u64 y, .int .u64 z, .int .u64 w] 27⟩, ⟨b1, false, true, .cells [.slice A n ca, .slice B m cb] 25⟩]) 0 rfl ⟨Nat.zero_le _, rfl⟩ rfl ⟨rfl, rfl, rfl, rfl, trivial⟩ ?_
  intro i ⟨hi, hno⟩ again
  refine wp_br rfl (fun g1 => ?_) (fun g1 => ?_)
  · have hin : i < L.length := by simp at g1; omega
    obtain ⟨pa, q, rfl, hx, hpx⟩ := hs.getU hin
    obtain ⟨u0, u1⟩ := hu q (List.mem_of_getElem? hx)
    refine wp_idx _ rfl rfl (by omega) (by omega) ?_
    refine wp_load rfl hpx ?_
    refine wp_pure rfl (rhas_spec h2 [x, y, z, w] rfl q u0 u1) ?_
    rintro v h' hle ⟨rfl, rfl⟩
    refine wp_br rfl (fun g2 => ?_) (fun g2 => ?_)
    · refine wp_ret0 rfl rfl ⟨rfl, ?_⟩
      dsimp only [retV]
      rw [← hLl]
      congr 1
      exact (List.any_eq_true.2 ⟨q, List.mem_of_getElem? hx, g2⟩).symm
    · refine wp_again rfl (again (i + 1) ⟨hin, ?_⟩ (by omega)) ⟨rfl, rfl, rfl, eqI (by simp only [wrapE]; omega), trivial⟩
      rw [List.take_add_one, hx, List.any_append, hno]
      simp only [Option.toList_some, List.any_cons, List.any_nil, Bool.or_false, Bool.false_or]
      exact g2
  · have hin : i = L.length := by simp at g1; omega
    refine wp_ret0 rfl rfl ⟨rfl, ?_⟩
    dsimp only [retV]
    rw [← hLl]
    rw [hin, List.take_of_length_le (Nat.le_refl _)] at hno
    rw [hno]
end Go.Vc
namespace Go.Vc
set_option linter.unusedSimpArgs false
open Go.Proofs Go.Lib Go.Sort
set_option linter.unusedVariables false
set_option maxRecDepth 20000

def nmA : ByteArray := ⟨#[97]⟩
def nmB : ByteArray := ⟨#[98]⟩
def smOf (s : ByteArray) : Sm := ⟨1, s, 0, ByteArray.empty, 0, 0, none, 0, 0⟩

theorem hcells_of {h : PHeap} {b : Nat} {cs : List Value} {ty : TypeId} (e : h b = some (.cells ⟨cs⟩ ty (0, 0))) : HCells h ⟨b, 0, none⟩ cs := by
  intro j v hj
  rw [addr_add, Nat.zero_add]
  exact ⟨rfl, _, _, _, e, by simpa using hj⟩

theorem lives_spec (h : PHeap) : Pure Try.prog 13 [] h fun v h' => v = .bool true := by
  refine Pure.of_wp (env := []) Try.func13 Try.call13 rfl rfl rfl ?_
  refine wp_alloc 0 rfl rfl fun b0 => ?_
  refine wp_alloc 1 rfl rfl fun b1 => ?_
  refine wp_bslice 2 rfl rfl rfl rfl rfl rfl rfl rfl rfl rfl rfl rfl fun b2 => ?_
  refine wp_bslice 3 rfl rfl rfl rfl rfl rfl rfl rfl rfl rfl rfl rfl fun b3 => ?_
  refine wp_bslice 4 rfl rfl rfl rfl rfl rfl rfl rfl rfl rfl rfl rfl fun b4 => ?_
  refine wp_bslice 5 rfl rfl rfl rfl rfl rfl rfl rfl rfl rfl rfl rfl fun b5 => ?_
  refine wp_bslice 6 rfl rfl rfl rfl rfl rfl rfl rfl rfl rfl rfl rfl fun b6 => ?_
  refine wp_alloc 7 rfl rfl fun b7 => ?_
  refine wp_freeze 2 rfl rfl fun h2 hle2 e2 => ?_
  refine wp_freeze 3 rfl rfl fun h3 hle3 e3 => ?_
  refine wp_freeze 4 rfl rfl fun h4 hle4 e4 => ?_
  refine wp_freeze 5 rfl rfl fun h5 hle5 e5 => ?_
  refine wp_freeze 6 rfl rfl fun h6 hle6 e6 => ?_
  have p : CxAt h6 (some ⟨b5, 0, none⟩) 3 (some ⟨b6, 0, none⟩) 2 [⟨some ⟨b2, 0, none⟩, 1, 1, [smOf nmA]⟩, ⟨some ⟨b3, 0, none⟩, 1, 1, [smOf nmB]⟩, ⟨some ⟨b4, 0, none⟩, 1, 1, [smOf nmB]⟩] [2, 3] := by
    refine ⟨⟨rfl, .inr ⟨_, rfl, (hcells_of e5).mono hle6⟩⟩, ⟨rfl, .inr ⟨_, rfl, hcells_of e6⟩⟩, by omega, ?_⟩
    intro q hq
    simp only [List.mem_cons, List.not_mem_nil, or_false] at hq
    rcases hq with rfl | rfl | rfl
    · exact ⟨⟨rfl, .inr ⟨_, rfl, (hcells_of e2).mono (hle3.trans (hle4.trans (hle5.trans hle6)))⟩⟩, by show (1:Nat) ≤ 1000000000; omega, by intro s hs; obtain rfl := List.mem_singleton.1 hs; show (1:Nat) ≤ 1000000000; omega⟩
    · exact ⟨⟨rfl, .inr ⟨_, rfl, (hcells_of e3).mono (hle4.trans (hle5.trans hle6))⟩⟩, by show (1:Nat) ≤ 1000000000; omega, by intro s hs; obtain rfl := List.mem_singleton.1 hs; show (1:Nat) ≤ 1000000000; omega⟩
    · exact ⟨⟨rfl, .inr ⟨_, rfl, (hcells_of e4).mono (hle5.trans hle6)⟩⟩, by show (1:Nat) ≤ 1000000000; omega, by intro s hs; obtain rfl := List.mem_singleton.1 hs; show (1:Nat) ≤ 1000000000; omega⟩
  have hk : keysTo [⟨some ⟨b2, 0, none⟩, 1, 1, [smOf nmA]⟩, ⟨some ⟨b3, 0, none⟩, 1, 1, [smOf nmB]⟩, ⟨some ⟨b4, 0, none⟩, 1, 1, [smOf nmB]⟩] [2, 3] 2 = [keyF 1 [97]] := by
    simp [keysTo, keysAt, keysOf, keyOf, smOf, nmA, star]
  refine wp_pure rfl (needs2_spec h6 _ _ 3 3 2 2 _ _ p (by rw [hk]; decide)) ?_
  rintro v h7 hle7 ⟨A', c', L, rfl, hs, hL⟩
  rw [if_pos (by omega), hk] at hL
  have hL' : L = [keyF 1 [97]] := hL
  subst hL'
  refine wp_pure rfl (key_spec h7 1 nmA (by show (1:Nat) ≤ _; omega)) ?_
  rintro v h8 hle8 ⟨rfl, rfl⟩
  refine wp_bslice 8 rfl rfl rfl rfl rfl rfl rfl rfl rfl rfl rfl rfl fun b8 => ?_
  refine wp_freeze 8 rfl rfl fun h9 hle9 e9 => ?_
  refine wp_pure rfl (same_spec h9 _ _ _ _ _ _ [keyF 1 [97]] [keyF 1 [97]] (hs.mono hle9) ⟨rfl, .inr ⟨_, rfl, hcells_of e9⟩⟩ (by show (1:Nat) ≤ _; omega)) ?_
  rintro v h10 hle10 ⟨rfl, rfl⟩
  refine wp_brT rfl (decide_eq_true rfl) ?_
  refine wp_barr rfl rfl rfl rfl rfl rfl rfl rfl rfl ?_
  refine wp_pure rfl (skip_spec h10 [0, 0, 0, 0] rfl _ _ 3 3 2 2 _ _ (p.mono (hle7.trans hle9)) (by rw [hk]; decide)) ?_
  rintro v h11 hle11 hv
  rw [needL, if_pos (by omega), hk] at hv
  subst hv
  refine wp_brT rfl (by kernel_rfl) ?_
  refine wp_barr rfl rfl rfl rfl rfl rfl rfl rfl rfl ?_
  refine wp_bslice 9 rfl rfl rfl rfl rfl rfl rfl rfl rfl rfl rfl rfl fun b9 => ?_
  refine wp_bslice 10 rfl rfl rfl rfl rfl rfl rfl rfl rfl rfl rfl rfl fun b10 => ?_
  refine wp_freeze 9 rfl rfl fun h12 hle12 e12 => ?_
  refine wp_freeze 10 rfl rfl fun h13 hle13 e13 => ?_
  have p2 : CxAt h13 (some ⟨b10, 0, none⟩) 1 none 0 [⟨some ⟨b9, 0, none⟩, 1, 1, [smOf nmB]⟩] [] := by
    refine ⟨⟨rfl, .inr ⟨_, rfl, hcells_of e13⟩⟩, ⟨rfl, .inl rfl⟩, by omega, ?_⟩
    intro q hq
    obtain rfl := List.mem_singleton.1 hq
    exact ⟨⟨rfl, .inr ⟨_, rfl, (hcells_of e12).mono hle13⟩⟩, by show (1:Nat) ≤ 1000000000; omega, by intro s hs; obtain rfl := List.mem_singleton.1 hs; show (1:Nat) ≤ 1000000000; omega⟩
  refine wp_pure rfl (skip_spec h13 [0, 0, 0, 0] rfl _ _ 1 1 0 0 _ _ p2 (by show (0:Nat) ≤ _; omega)) ?_
  rintro v h14 hle14 rfl
  refine wp_brT rfl (by simp [needL, NL, keysTo]) ?_
  refine wp_pure rfl (key_spec h14 1 nmA (by show (1:Nat) ≤ _; omega)) ?_
  rintro v h15 hle15 ⟨rfl, rfl⟩
  refine wp_pure rfl (rkey_spec h15 1 nmA (by show (1:Nat) ≤ _; omega)) ?_
  rintro v h16 hle16 ⟨rfl, rfl⟩
  refine wp_ret0 rfl rfl ⟨rfl, ?_⟩
  simp [retV]
end Go.Vc
namespace Go.Vc
set_option linter.unusedSimpArgs false
open Go.Proofs Go.Lib Go.Sort
set_option linter.unusedVariables false
set_option maxRecDepth 20000

/-- A selector in a list: where its parts and its combinators lie. -/
structure Cx where
  pa : Option Addr
  pn : Nat
  pc : Nat
  ba : Option Addr
  bn : Nat
  bc : Nat
  ps : List Pt
  cs : List Int
def Cx.cells (x : Cx) : List Value := [.slice x.pa x.pn x.pc, .slice x.ba x.bn x.bc]
def flatC : List Cx → List Value
  | [] => []
  | x :: l => x.cells ++ flatC l
theorem flatC_len (l : List Cx) : (flatC l).length = l.length * 2 := by
  induction l with
  | nil => rfl
  | cons s l ih => simp [flatC, ih, Cx.cells]; omega
theorem flatC_at : ∀ {l : List Cx} {i : Nat} {s : Cx}, l[i]? = some s → ∀ j v, s.cells[j]? = some v → (flatC l)[i * 2 + j]? = some v := by
  intro l
  induction l with
  | nil => intro i s h; simp at h
  | cons x l ih =>
    intro i s h j v hv
    have hj : j < 2 := (List.getElem?_eq_some_iff.1 hv).1
    cases i with
    | zero =>
      simp at h; subst h
      rw [flatC, Nat.zero_mul, Nat.zero_add, List.getElem?_append_left (show j < x.cells.length from hj)]; exact hv
    | succ i =>
      simp at h
      rw [flatC, List.getElem?_append_right (by simp [Cx.cells]; omega)]
      have := ih h j v hv
      rw [← this]; congr 1; simp [Cx.cells]; omega
theorem HSl.getCx {h : PHeap} {A : Option Addr} {n : Nat} {l : List Cx} (s : HSl h 2 A n (flatC l)) {i : Nat} (hi : i < n) : ∃ ad x, A = some ad ∧ l[i]? = some x ∧ HCells h (ad.add (i * 2)) x.cells := by
  have hl := s.1
  rw [flatC_len] at hl
  rcases s.2 with h0 | ⟨ad, e, c⟩
  · omega
  · have hlt : i < l.length := by omega
    refine ⟨ad, l[i], e, List.getElem?_eq_getElem hlt, fun j v hj => ?_⟩
    have := c (i * 2 + j) v (flatC_at (List.getElem?_eq_getElem hlt) j v hj)
    rw [addr_addadd]; exact this

/-- A list of selectors, k levels deep. -/
def SelAt (h : PHeap) : Nat → Option Addr → Nat → Prop
  | 0, _, _ => False
  | k + 1, A, n => n ≤ 1000000000 ∧ ∃ l : List Cx, HSl h 2 A n (flatC l) ∧ ∀ x ∈ l, CxAt h x.pa x.pn x.ba x.bn x.ps x.cs ∧ ∀ p ∈ x.ps, ∀ s ∈ p.sm, SelAt h k s.la s.ll

theorem weight_spec (most : Int) : ∀ (k : Nat) (h : PHeap) (A : Option Addr) (n c : Nat), SelAt h k A n → Pure Try.prog 12 [.slice A n c, .int .i64 most] h fun v h' => h' = h ∧ ∃ w, v = .int .i64 w := by
  intro k
  induction k with
  | zero => intro h A n c hs; exact hs.elim
  | succ k ih =>
    intro h A n c ⟨hn, l, hl, hx⟩
    refine Pure.of_wp (env := [(0, .v (.slice A n c)), (1, .v (.int .i64 most))]) Try.func12 Try.call12 rfl rfl rfl ?_
    refine wp_for (fun s : Nat × Int => s.1 ≤ n) (fun s => n - s.1) (fun s => [(1, .v (.int .i64 most)), (5, .v (.int .i64 s.2)), (12, .v (.slice A n c)), (13, .v (.int .i64 n)), (14, .v (.int .i64 s.1))]) (fun _ => []) (0, 0) rfl (Nat.zero_le _) rfl ⟨rfl, rfl, rfl, rfl, rfl, trivial⟩ ?_
    rintro ⟨i, x5⟩ hi again
    dsimp only at hi again ⊢
    refine wp_br rfl (fun h1 => ?_) (fun h1 => ?_)
    · have hin : i < n := by simp at h1; omega
      obtain ⟨pa, x, rfl, hxi, hxc⟩ := hl.getCx hin
      obtain ⟨hcx, hdeep⟩ := hx x (List.mem_of_getElem? hxi)
      obtain ⟨xa, xn, xc, ba, bn, bc, ps, cs⟩ := x
      dsimp only at hcx hdeep
      refine wp_idx _ rfl rfl (by omega) (by omega) ?_
      refine wp_loads rfl (vs := [.slice xa xn xc, .slice ba bn bc]) rfl hxc ?_
      refine wp_alloc 0 rfl rfl fun b0 => ?_
      have hpl : ps.length = xn := by have := hcx.parts.1; simpa using this
      obtain ⟨hxn, hbn⟩ := hcx.small
      refine wp_for (fun s : Nat × Int => s.1 ≤ xn) (fun s => xn - s.1) (fun s => [(1, .v (.int .i64 most)), (5, .v (.int .i64 s.2)), (12, .v (.slice (some pa) n c)), (13, .v (.int .i64 n)), (14, .v (.int .i64 i)), (25, .v (.slice xa xn xc)), (26, .v (.int .i64 xn)), (27, .v (.int .i64 s.1))])
        (fun _ => [⟨b0, false, true, .cells [.slice xa xn xc, .slice ba bn bc] 25⟩]) (0, _) rfl (Nat.zero_le _) rfl ⟨rfl, rfl, rfl, rfl, rfl, rfl, rfl, rfl, trivial⟩ ?_
      rintro ⟨j, y5⟩ hj again2
      dsimp only at hj again2 ⊢
      refine wp_br rfl (fun h2 => ?_) (fun h2 => ?_)
      · have hjn : j < xn := by simp at h2; omega
        obtain ⟨qa, ⟨ra, rl, rc, rs⟩, rfl, hp, hpp⟩ := hcx.parts.getM hjn
        have hpm := List.mem_of_getElem? hp
        obtain ⟨hsm, hrl, hnm⟩ := hcx.each _ hpm
        dsimp only at hsm hrl hnm
        refine wp_idx _ rfl rfl (by omega) (by omega) ?_
        refine wp_load rfl hpp ?_
        refine wp_for (fun s : Nat × Int => s.1 ≤ rl) (fun s => rl - s.1) (fun s => [(1, .v (.int .i64 most)), (5, .v (.int .i64 s.2)), (12, .v (.slice (some pa) n c)), (13, .v (.int .i64 n)), (14, .v (.int .i64 i)), (25, .v (.slice (some qa) xn xc)), (26, .v (.int .i64 xn)), (27, .v (.int .i64 j)), (33, .v (.slice ra rl rc)), (34, .v (.int .i64 rl)), (35, .v (.int .i64 s.1))])
          (fun _ => [⟨b0, false, true, .cells [.slice (some qa) xn xc, .slice ba bn bc] 25⟩]) (0, _) rfl (Nat.zero_le _) rfl ⟨rfl, rfl, rfl, rfl, rfl, rfl, rfl, rfl, rfl, rfl, rfl, trivial⟩ ?_
        rintro ⟨m, z5⟩ hm again3
        dsimp only at hm again3 ⊢
        refine wp_br rfl (fun h3 => ?_) (fun h3 => ?_)
        · have hmn : m < rl := by simp at h3; omega
          obtain ⟨pq, sm, rfl, hsx, hsc⟩ := hsm.getSm hmn
          have hsd := hdeep _ hpm sm (List.mem_of_getElem? hsx)
          obtain ⟨kd, nm, so, sv, sa, sb, la, ll, lc⟩ := sm
          dsimp only at hsd
          refine wp_idx _ rfl rfl (by omega) (by omega) ?_
          refine wp_loads rfl (vs := [.int .i64 kd, .string nm, .int .i64 so, .string sv, .int .i64 sa, .int .i64 sb, .slice la ll lc]) rfl hsc ?_
          refine wp_alloc 1 rfl rfl fun b1 => ?_
          refine wp_need rfl (by decide) ?_
          refine wp_br rfl (fun h4 => ?_) (fun h4 => ?_)
          · exact wp_ret0 rfl rfl ⟨rfl, rfl, _, rfl⟩
          · refine wp_pure rfl (ih h la ll lc hsd) ?_
            rintro v h' hle ⟨rfl, w, rfl⟩
            exact wp_againS (l := [_]) rfl (again3 (m + 1, _) hmn (by dsimp only; omega)) ⟨rfl, rfl, rfl, rfl, rfl, rfl, rfl, rfl, rfl, rfl, eqI (by simp only [wrapE]; omega), trivial⟩ rfl ⟨⟨_, rfl⟩, ⟨_, rfl⟩, ⟨_, rfl⟩, ⟨_, rfl⟩, ⟨_, rfl⟩, ⟨_, rfl⟩, ⟨_, rfl⟩, ⟨_, rfl⟩, ⟨_, rfl⟩, ⟨_, rfl⟩, ⟨_, rfl⟩, trivial⟩
        · exact wp_again rfl (again2 (j + 1, _) hjn (by dsimp only; omega)) ⟨rfl, rfl, rfl, rfl, rfl, rfl, rfl, eqI (by simp only [wrapE]; omega), trivial⟩
      · refine wp_br rfl (fun h3 => ?_) (fun h3 => ?_)
        · exact wp_ret0 rfl rfl ⟨rfl, rfl, _, rfl⟩
        · exact wp_againS (l := [_]) rfl (again (i + 1, _) hin (by dsimp only; omega)) ⟨rfl, rfl, rfl, rfl, eqI (by simp only [wrapE]; omega), trivial⟩ rfl ⟨⟨_, rfl⟩, ⟨_, rfl⟩, ⟨_, rfl⟩, ⟨_, rfl⟩, ⟨_, rfl⟩, trivial⟩
    · exact wp_ret0 rfl rfl ⟨rfl, rfl, _, rfl⟩
end Go.Vc
namespace Go.Vc
set_option linter.unusedSimpArgs false
open Go.Proofs Go.Lib Go.Sort
set_option linter.unusedVariables false
set_option maxRecDepth 20000

theorem SelAt.mono {h h' : PHeap} (hle : h.le h') : ∀ {k : Nat} {A : Option Addr} {n : Nat}, SelAt h k A n → SelAt h' k A n := by
  intro k
  induction k with
  | zero => intro A n hs; exact hs
  | succ k ih =>
    intro A n ⟨hn, l, hl, hx⟩
    exact ⟨hn, l, hl.mono hle, fun x hxm => ⟨(hx x hxm).1.mono hle, fun p hp s hs => ih ((hx x hxm).2 p hp s hs)⟩⟩

theorem law_spec (h : PHeap) (f : List Int) (hf : f.length = 4) (A B : Option Addr) (n ca m cb k : Nat) (ps : List Pt) (cs : List Int) (hc : CxAt h A n B m ps cs) (hd : ∀ p ∈ ps, ∀ s ∈ p.sm, SelAt h k s.la s.ll) (hk : (keysTo ps cs m).length ≤ 100000000) :
    Pure Try.prog 3 [.agg ⟨[.slice A n ca, .slice B m cb]⟩, .agg ⟨W f⟩] h fun v h' => v = .bool true := by
  obtain ⟨x, y, z, w, rfl⟩ := four hf
  refine Pure.of_wp (env := [(0, .v (.agg ⟨[.slice A n ca, .slice B m cb]⟩)), (1, .v (.agg ⟨[.int .u64 x, .int .u64 y, .int .u64 z, .int .u64 w]⟩))]) Try.func3 Try.call3 rfl rfl rfl ?_
  refine wp_alloc 0 rfl rfl fun b0 => ?_
  refine wp_alloc 1 rfl rfl fun b1 => ?_
  refine wp_bslice 2 rfl rfl rfl rfl rfl rfl rfl rfl rfl rfl rfl rfl fun b2 => ?_
  refine wp_freeze 2 rfl rfl fun h2 hle2 e2 => ?_
  have hs : SelAt h2 (k + 1) (some ⟨b2, 0, none⟩) 1 := by
    refine ⟨by omega, [⟨A, n, ca, B, m, cb, ps, cs⟩], ⟨rfl, .inr ⟨_, rfl, hcells_of e2⟩⟩, fun q hq => ?_⟩
    obtain rfl := List.mem_singleton.1 hq
    exact ⟨hc.mono hle2, fun p hp s hs => (hd p hp s hs).mono hle2⟩
  refine wp_pure rfl (weight_spec 200 (k + 1) h2 _ 1 1 hs) ?_
  rintro v h' hle ⟨rfl, wt, rfl⟩
  refine wp_br rfl (fun h1 => ?_) (fun h1 => ?_)
  · refine wp_pure rfl (lives_spec h') ?_
    rintro v h3 hle3 rfl
    exact wp_ret0 rfl rfl ⟨rfl, rfl⟩
  · refine wp_drawn rfl rfl rfl [0, 2, 1, 3, 4, 5, 6, 7, 9, 10, 8, 11, 12, 13, 14, 15, 16, 17] (by kernel_rfl) ?_
    refine dn_pure rfl (needs2_spec h' A B n ca m cb ps cs (hc.mono hle2) hk) ?_
    rintro v h3 hle3 ⟨A1, c1, L1, rfl, hs1, hL1⟩
    refine dn_pure rfl (rneeds_spec h3 A B n ca m cb ps cs (hc.mono (hle2.trans hle3)) hk) ?_
    rintro v h4 hle4 ⟨A2, c2, L2, rfl, hs2, hL2⟩
    have e12 : L1 = L2 := by rw [hL1, hL2]; rfl
    subst e12
    refine dn_pure rfl (same_spec h4 _ _ _ _ _ _ L1 L1 (hs1.mono hle4) hs2 ?_) ?_
    · have h5 := needL_len ps cs n m
      have h6 : L1 = needL ps cs n m := hL1
      rw [h6]; omega
    rintro v h5 hle5 ⟨rfl, rfl⟩
    refine dn_brT rfl (decide_eq_true rfl) ?_
    refine dn_pure rfl (skip_spec h5 [x, y, z, w] rfl A B n ca m cb ps cs (hc.mono (hle2.trans (hle3.trans hle4))) hk) ?_
    rintro v h6 hle6 rfl
    refine dn_pure rfl (rskip_spec h6 [x, y, z, w] rfl A B n ca m cb ps cs (hc.mono (hle2.trans (hle3.trans (hle4.trans hle6)))) hk) ?_
    rintro v h7 hle7 rfl
    refine dn_brT rfl (by simp) ?_
    refine dn_pure rfl (lives_spec h7) ?_
    rintro v h8 hle8 rfl
    --?EV
    refine dn_done rfl ?_
    exact wp_ret0 rfl rfl ⟨rfl, rfl⟩
end Go.Vc
namespace Go.Vc
set_option linter.unusedSimpArgs false
open Go.Proofs Go.Lib Go.Sort
set_option linter.unusedVariables false
set_option maxRecDepth 20000

theorem open_list {D β : Type} {cells : β → List Value} {Q : β → Prop} {fl : List β → List Value} {wt : β → Nat} {bk : D → Nat} (f0 : fl [] = []) (f1 : ∀ b l, fl (b :: l) = cells b ++ fl l) : ∀ {E : List (List Value × D)},
    (∀ y ∈ E, ∃ b, y.1 = cells b ∧ Q b ∧ wt b ≤ bk y.2) → ∃ l : List β, E.flatMap (·.1) = fl l ∧ l.length = E.length ∧ (∀ b ∈ l, Q b) ∧ (l.map wt).sum ≤ (E.map fun y => bk y.2).sum := by
  intro E
  induction E with
  | nil => intro _; exact ⟨[], by simp [f0], rfl, fun b hb => (by cases hb), by simp⟩
  | cons y E ih =>
    intro h
    obtain ⟨b, h1, h2, h3⟩ := h y List.mem_cons_self
    obtain ⟨l, g1, g2, g3, g4⟩ := ih fun z hz => h z (List.mem_cons_of_mem _ hz)
    refine ⟨b :: l, by rw [List.flatMap_cons, f1, g1, h1], by simp [g2], fun c hc => ?_, by simp only [List.map_cons, List.sum_cons]; omega⟩
    rcases List.mem_cons.1 hc with rfl | hc
    · exact h2
    · exact g3 c hc

theorem bulk_sum {H D : Type} (E : List (D × DataW H)) : (E.map fun y => bulk y.2).sum = bulkAll (E.map (·.2)) := by
  induction E with
  | nil => simp [bulkAll]
  | cons y E ih => simp only [List.map_cons, List.sum_cons, bulkAll, ih]

theorem SelAt.up {h : PHeap} : ∀ {k : Nat} {A : Option Addr} {n : Nat}, SelAt h k A n → SelAt h (k + 1) A n := by
  intro k
  induction k with
  | zero => intro A n hs; exact hs.elim
  | succ k ih =>
    intro A n ⟨hn, l, hl, hx⟩
    exact ⟨hn, l, hl, fun x hxm => ⟨(hx x hxm).1, fun p hp s hs => ih ((hx x hxm).2 p hp s hs)⟩⟩
theorem SelAt.upto {h : PHeap} {k k' : Nat} {A : Option Addr} {n : Nat} (s : SelAt h k A n) (hk : k ≤ k') : SelAt h k' A n := by
  obtain ⟨d, rfl⟩ := Nat.le.dest hk
  clear hk
  induction d with
  | zero => exact s
  | succ d ih => exact ih.up

section
variable {H : Type} {enc : TypeId × Value → H} {w : World} {base : Nat} {spare : Nat → Bool} {held : Bool}

def SelOk (H : Type) (enc : TypeId × Value → H) (w : World) (base : Nat) (spare : Nat → Bool) (held : Bool) (k : Nat) : Prop :=
  ∀ (m : Nat) (cs : List Value) (x : DataW H × List MemPlace), m < k → DataW.trod enc Try.prog w base spare held m 29 cs = some x → bulk x.1 ≤ 1000000000 → ∃ A n c, cs = [.slice A n c] ∧ SelAt (allOf w) m A n

theorem open_sm {fuel : Nat} {cs : List Value} {x : DataW H × List MemPlace} (ih : SelOk H enc w base spare held fuel) (h : DataW.trod enc Try.prog w base spare held fuel 85 cs = some x) (hb : bulk x.1 ≤ 1000000000) :
    ∃ s : Sm, cs = s.cells ∧ s.name.size ≤ 1000000000 ∧ SelAt (allOf w) fuel s.la s.ll := by
  obtain ⟨xs, m, rfl, hx, hl, hxl, hall⟩ := open_flat Try.underlying85 (by
    intro i f hf
    rcases i with _ | _ | _ | _ | _ | _ | _ | i
    all_goals first | (cases hf; exact ⟨rfl, by kernel_rfl⟩) | (simp at hf)) (by kernel_rfl) h
  obtain ⟨v0, y0, a0, b0, c0⟩ := hall 0 _ rfl
  obtain ⟨v1, y1, a1, b1, c1⟩ := hall 1 _ rfl
  obtain ⟨v2, y2, a2, b2, c2⟩ := hall 2 _ rfl
  obtain ⟨v3, y3, a3, b3, c3⟩ := hall 3 _ rfl
  obtain ⟨v4, y4, a4, b4, c4⟩ := hall 4 _ rfl
  obtain ⟨v5, y5, a5, b5, c5⟩ := hall 5 _ rfl
  obtain ⟨v6, y6, a6, b6, c6⟩ := hall 6 _ rfl
  have hbm : ∀ y ∈ xs, bulk y.1 ≤ bulk x.1 := fun y hy => by
    have := bulkAll_mem (List.mem_map_of_mem (f := fun x => x.1) hy)
    rw [hx]; simp only [bulk]; omega
  obtain ⟨n0, e0, -, -⟩ := open_int Try.underlying3 c0
  obtain ⟨n1, e1, -, -, g1⟩ := open_str Try.underlying9 c1
  obtain ⟨n2, e2, -, -⟩ := open_int Try.underlying3 c2
  obtain ⟨n3, e3, -, -, -⟩ := open_str Try.underlying9 c3
  obtain ⟨n4, e4, -, -⟩ := open_int Try.underlying3 c4
  obtain ⟨n5, e5, -, -⟩ := open_int Try.underlying3 c5
  obtain ⟨A, n, c, e6, g6⟩ := ih m _ _ (by omega) c6 (by have := hbm _ (List.mem_of_getElem? b6); omega)
  cases e0; cases e1; cases e2; cases e3; cases e4; cases e5; cases e6
  refine ⟨⟨n0, n1, n2, n3, n4, n5, A, n, c⟩, ?_, by have := hbm _ (List.mem_of_getElem? b1); dsimp only; omega, g6.upto (by omega)⟩
  have hl' : cs.length = 7 := hl
  match cs, hl' with
  | [u0, u1, u2, u3, u4, u5, u6], _ =>
    cases a0; cases a1; cases a2; cases a3; cases a4; cases a5; cases a6
    rfl

theorem flatCons (b : Sm) (l : List Sm) : flat (b :: l) = b.cells ++ flat l := rfl

theorem open_pt {fuel : Nat} {cs : List Value} {x : DataW H × List MemPlace} (ih : SelOk H enc w base spare held fuel) (h : DataW.trod enc Try.prog w base spare held fuel 83 cs = some x) (hb : bulk x.1 ≤ 1000000000) :
    ∃ p : Pt, cs = [p.val] ∧ (HSl (allOf w) 7 p.addr p.len (flat p.sm) ∧ p.len ≤ 1000000000 ∧ (∀ s ∈ p.sm, s.name.size ≤ 1000000000) ∧ ∀ s ∈ p.sm, SelAt (allOf w) fuel s.la s.ll) ∧ p.sm.length ≤ bulk x.1 := by
  obtain ⟨A, n, c, E, rfl, hE, hs, hbk, hnc, hcm, hall⟩ := open_sl (e := 85) (size := 7) Try.underlying83 (by kernel_rfl) h
  have hEl : n ≤ bulkAll (E.map (·.2)) := by have := bulkAll_len (E.map (·.2)); rw [List.length_map] at this; omega
  obtain ⟨l, g1, g2, g3, _⟩ := open_list (cells := Sm.cells) (Q := fun s => s.name.size ≤ 1000000000 ∧ SelAt (allOf w) fuel s.la s.ll) (fl := flat) (wt := fun _ => 0) (bk := bulk) rfl flatCons (E := E) (fun y hy => by
    obtain ⟨_, m, ps, hm, hlt⟩ := hall y hy
    have hby := bulkAll_mem (List.mem_map_of_mem (f := fun z => z.2) hy)
    obtain ⟨s, s1, s2, s3⟩ := open_sm (fun m' cs' x' hm' => ih m' cs' x' (by omega)) hm (by dsimp only at hby ⊢; omega)
    exact ⟨s, s1, ⟨s2, s3.upto (by omega)⟩, Nat.zero_le _⟩)
  refine ⟨⟨A, n, c, l⟩, rfl, ⟨by rw [← g1]; exact hs, by dsimp only; omega, fun s hs => (g3 s hs).1, fun s hs => (g3 s hs).2⟩, by dsimp only; omega⟩

theorem ptCons (b : Pt) (l : List Pt) : (b :: l).map Pt.val = [b.val] ++ l.map Pt.val := rfl
theorem intCons (b : Int) (l : List Int) : (b :: l).map (Value.int .i64) = [Value.int .i64 b] ++ l.map (Value.int .i64) := rfl

theorem open_cx {fuel : Nat} {cs : List Value} {x : DataW H × List MemPlace} (ih : SelOk H enc w base spare held fuel) (h : DataW.trod enc Try.prog w base spare held fuel 25 cs = some x) (hb : bulk x.1 ≤ 1000000000) :
    ∃ X : Cx, cs = X.cells ∧ CxAt (allOf w) X.pa X.pn X.ba X.bn X.ps X.cs ∧ (∀ p ∈ X.ps, ∀ s ∈ p.sm, SelAt (allOf w) fuel s.la s.ll) ∧ (X.ps.map fun p => p.sm.length).sum ≤ bulk x.1 := by
  obtain ⟨xs, m, rfl, hx, hl, hxl, hall⟩ := open_flat Try.underlying25 (by
    intro i f hf
    rcases i with _ | _ | i
    all_goals first | (cases hf; exact ⟨rfl, by kernel_rfl⟩) | (simp at hf)) (by kernel_rfl) h
  obtain ⟨v0, y0, a0, b0, c0⟩ := hall 0 _ rfl
  obtain ⟨v1, y1, a1, b1, c1⟩ := hall 1 _ rfl
  have hbm : ∀ y ∈ xs, bulk y.1 + 1 ≤ bulk x.1 := fun y hy => by
    have := bulkAll_mem (List.mem_map_of_mem (f := fun x => x.1) hy)
    rw [hx]; simp only [bulk]; omega
  have hb0 := hbm _ (List.mem_of_getElem? b0)
  have hb1 := hbm _ (List.mem_of_getElem? b1)
  obtain ⟨A, n, c, E, e0, hE, hs, hbk, hnc, hcm, hallE⟩ := open_sl (e := 83) (size := 1) Try.underlying22 (by kernel_rfl) c0
  obtain ⟨A', n', c', E', e1, hE', hs', hbk', hnc', hcm', hallE'⟩ := open_sl (e := 3) (size := 1) Try.underlying23 (by kernel_rfl) c1
  cases e0; cases e1
  have hEl : n ≤ bulkAll (E.map (·.2)) := by have := bulkAll_len (E.map (·.2)); rw [List.length_map] at this; omega
  have hEl' : n' ≤ bulkAll (E'.map (·.2)) := by have := bulkAll_len (E'.map (·.2)); rw [List.length_map] at this; omega
  obtain ⟨l, g1, g2, g3, g4⟩ := open_list (cells := fun p : Pt => [p.val]) (Q := fun p => HSl (allOf w) 7 p.addr p.len (flat p.sm) ∧ p.len ≤ 1000000000 ∧ (∀ s ∈ p.sm, s.name.size ≤ 1000000000) ∧ ∀ s ∈ p.sm, SelAt (allOf w) (m + 1) s.la s.ll) (fl := List.map Pt.val) (wt := fun p => p.sm.length) (bk := bulk) rfl ptCons (E := E) (fun y hy => by
    obtain ⟨_, m', ps, hm, hlt⟩ := hallE y hy
    have hby := bulkAll_mem (List.mem_map_of_mem (f := fun z => z.2) hy)
    obtain ⟨p, s1, ⟨q1, q2, q3, q4⟩, s3⟩ := open_pt (fun m'' cs' x' hm' => ih m'' cs' x' (by omega)) hm (by dsimp only at hby ⊢; omega)
    exact ⟨p, s1, ⟨q1, q2, q3, fun s hs => (q4 s hs).upto (by omega)⟩, s3⟩)
  obtain ⟨l', g1', g2', g3', _⟩ := open_list (cells := fun i : Int => [Value.int .i64 i]) (Q := fun _ => True) (fl := List.map (Value.int .i64)) (wt := fun _ => 0) (bk := bulk) rfl intCons (E := E') (fun y hy => by
    obtain ⟨_, m', ps, hm, hlt⟩ := hallE' y hy
    obtain ⟨i, e, _, _⟩ := open_int Try.underlying3 hm
    exact ⟨i, e, trivial, Nat.zero_le _⟩)
  rw [bulk_sum] at g4
  refine ⟨⟨A, n, c, A', n', c', l, l'⟩, ?_, ⟨by rw [← g1]; exact hs, by rw [← g1']; exact hs', by dsimp only; omega, fun p hp => ⟨(g3 p hp).1, (g3 p hp).2.1, (g3 p hp).2.2.1⟩⟩, fun p hp => (g3 p hp).2.2.2, by dsimp only at hbk ⊢; omega⟩
  have hl' : cs.length = 2 := hl
  match cs, hl' with
  | [u0, u1], _ =>
    cases a0; cases a1
    rfl

theorem cxCons (b : Cx) (l : List Cx) : flatC (b :: l) = b.cells ++ flatC l := rfl

theorem open_sel : ∀ k, SelOk H enc w base spare held k := by
  intro k
  induction k with
  | zero => intro m cs x hm; omega
  | succ k ih =>
    intro m cs x hm h hb
    obtain ⟨A, n, c, E, rfl, hE, hs, hbk, hnc, hcm, hall⟩ := open_sl (e := 25) (size := 2) Try.underlying29 (by kernel_rfl) h
    have hEl : n ≤ bulkAll (E.map (·.2)) := by have := bulkAll_len (E.map (·.2)); rw [List.length_map] at this; omega
    have hm0 : 0 < m := by
      cases m with
      | zero => simp [DataW.trod] at h
      | succ m => omega
    obtain ⟨m, rfl⟩ : ∃ r, m = r + 1 := ⟨m - 1, by omega⟩
    refine ⟨A, n, c, rfl, by omega, ?_⟩
    obtain ⟨l, g1, g2, g3, _⟩ := open_list (cells := Cx.cells) (Q := fun X => CxAt (allOf w) X.pa X.pn X.ba X.bn X.ps X.cs ∧ ∀ p ∈ X.ps, ∀ s ∈ p.sm, SelAt (allOf w) m s.la s.ll) (fl := flatC) (wt := fun _ => 0) (bk := bulk) rfl cxCons (E := E) (fun y hy => by
      obtain ⟨_, m', ps, hm', hlt⟩ := hall y hy
      have hby := bulkAll_mem (List.mem_map_of_mem (f := fun z => z.2) hy)
      obtain ⟨X, s1, s2, s3, _⟩ := open_cx (fun m'' cs' x' hm'' => ih m'' cs' x' (by omega)) hm' (by dsimp only at hby ⊢; omega)
      exact ⟨X, s1, ⟨s2, fun p hp s hs => (s3 p hp s hs).upto (by omega)⟩, Nat.zero_le _⟩)
    exact ⟨l, by rw [← g1]; exact hs, g3⟩
end
end Go.Vc
