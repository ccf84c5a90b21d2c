/- The rules by which a body is gone through. No condition. -/
import Derived.Test.YtblpfejciklenaaVa
import Derived.Maps.AppendAt
import Derived.Deep.Quiet
import Derived.KernelRfl
import Derived.Lib.AppendStr
import Derived.Laws.StructEq
import Derived.ChangeKeysEq
import Derived.ReadAgain
import Derived.OpenShut
import Derived.ChangeReads
import Derived.Deep.Slices
namespace Go.Vc
set_option linter.unusedVariables false
set_option linter.unusedSimpArgs false

variable {P : Program} {f : FuncId} {F : Func} {K : Post} {h : PHeap}

/-- The rest, and the blocks l besides. -/
def frameMem (fr : Frm) (l : List Blk) : PHeap := fun b => match l.find? (fun X => X.live && X.id == b) with
  | some X => some X.body.toObj
  | none => fr b

def frameOf (fr : Frm) (l : List Blk) : Frm := ⟨frameMem fr l, fr.os, fr.out⟩

theorem find_live {l : List Blk} (ha : List.Pairwise (fun A B : Blk => A.live = true → B.live = true → A.id ≠ B.id) l) {X : Blk} (hX : X ∈ l) (hl : X.live = true) :
    l.find? (fun Y => Y.live && Y.id == X.id) = some X := by
  induction l with
  | nil => cases hX
  | cons A l ih =>
    rw [List.find?_cons]
    rcases List.mem_cons.1 hX with rfl | hX'
    · simp [hl]
    · have := (List.pairwise_cons.1 ha).1 X hX'
      split
      · rename_i hA
        simp only [Bool.and_eq_true, beq_iff_eq] at hA
        exact absurd hA.2 (this hA.1 hl)
      · exact ih (List.pairwise_cons.1 ha).2 hX'

theorem Good.frame_in {R : World} {A B : List Blk} {fr : Frm} (g : Good R h (A ++ B) fr) : Good R h A (frameOf fr B) := by
  refine ⟨g.heapOk, ?_, ?_, g.apart.sublist (List.sublist_append_left A B), g.stays⟩
  · intro X hX hl
    obtain ⟨h1, h2, h3⟩ := g.ownOk X (List.mem_append_left B hX) hl
    refine ⟨h1, h2, ?_⟩
    unfold frameOf frameMem; dsimp only
    split
    · rename_i Y hY
      have hm := List.mem_of_find?_eq_some hY
      have hp := List.find?_some hY
      simp only [Bool.and_eq_true, beq_iff_eq] at hp
      exact absurd hp.2.symm ((List.pairwise_append.1 g.apart).2.2 X hX Y hm hl hp.1)
    · exact h3
  · intro b o hb
    unfold frameOf frameMem at hb; dsimp only at hb
    split at hb
    · rename_i Y hY
      cases hb
      have hm := List.mem_of_find?_eq_some hY
      have hp := List.find?_some hY
      simp only [Bool.and_eq_true, beq_iff_eq] at hp
      obtain ⟨h1, h2, h3⟩ := g.ownOk Y (List.mem_append_right A hm) hp.1
      rw [hp.2] at h1 h2
      exact ⟨h1, h2⟩
    · exact g.frameOk b o hb

theorem Good.frame_out {R R' : World} {h' : PHeap} {A A' B : List Blk} {fr : Frm} (g : Good R h (A ++ B) fr) (g' : Good R' h' A' (frameOf fr B)) : Good R' h' (A' ++ B) fr := by
  have hB := (List.pairwise_append.1 g.apart).2.1
  have hf : ∀ X ∈ B, X.live = true → frameOf fr B X.id = some X.body.toObj := fun X hX hl => by
    unfold frameOf frameMem; dsimp only; rw [find_live hB hX hl]
  refine ⟨g'.heapOk, ?_, ?_, List.pairwise_append.2 ⟨g'.apart, hB, ?_⟩, g'.stays⟩
  · intro X hX hl
    rcases List.mem_append.1 hX with hX | hX
    · obtain ⟨h1, h2, h3⟩ := g'.ownOk X hX hl
      refine ⟨h1, h2, ?_⟩
      unfold frameOf frameMem at h3; dsimp only at h3
      split at h3
      · cases h3
      · exact h3
    · obtain ⟨h1, h2⟩ := g'.frameOk _ _ (hf X hX hl)
      exact ⟨h1, h2, (g.ownOk X (List.mem_append_right A hX) hl).2.2⟩
  · intro b o hb
    refine g'.frameOk b o ?_
    unfold frameOf frameMem; dsimp only
    split
    · rename_i Y hY
      have hm := List.mem_of_find?_eq_some hY
      have hp := List.find?_some hY
      simp only [Bool.and_eq_true, beq_iff_eq] at hp
      have := (g.ownOk Y (List.mem_append_right A hm) hp.1).2.2
      rw [hp.2, hb] at this; cases this
    · exact hb
  · intro X hX Y hY hlX hlY he
    obtain ⟨h1, h2, h3⟩ := g'.ownOk X hX hlX
    rw [he, hf Y hY hlY] at h3
    cases h3

theorem Good.perm {R : World} {l l' : List Blk} {fr : Frm} (g : Good R h l fr) (hp : l.Perm l') : Good R h l' fr :=
  ⟨g.heapOk, fun B hB hl => g.ownOk B (hp.mem_iff.2 hB) hl, g.frameOk, (hp.pairwise_iff (fun {A B} hab hB hA he => hab hA hB he.symm)).1 g.apart, g.stays⟩

/-- A call, of a function with a body. -/
def Fine (P : Program) (g : FuncId) : Prop := ∀ as R, (callFunc g as).run P R = .ok (.enter g as) R

/-- A call that owns nothing and leaves nothing to be owned. -/
def Pure (P : Program) (g : FuncId) (args : List Value) (h : PHeap) (Q : Value → PHeap → Prop) : Prop :=
  Fine P g ∧ Spec P g args h [] fun v h' own' => own' = [] ∧ Q v h'

/-- A call that changes one block of its caller's. -/
def Chg (P : Program) (g : FuncId) (args : List Value) (h : PHeap) (B : Blk) (Q : Value → PHeap → Body → Prop) : Prop :=
  Fine P g ∧ Spec P g args h [B] fun v h' own' => ∃ bd, own' = [{ B with body := bd }] ∧ Q v h' bd

/-- A call that hands over new blocks. -/
def Mk (P : Program) (g : FuncId) (args : List Value) (h : PHeap) (Q : Value → PHeap → List Blk → Prop) : Prop :=
  Fine P g ∧ Spec P g args h [] Q

theorem Pure.mono {g : FuncId} {args : List Value} {Q Q' : Value → PHeap → Prop} (s : Pure P g args h Q) (hq : ∀ v h', h.le h' → Q v h' → Q' v h') : Pure P g args h Q' :=
  ⟨s.1, s.2.mono fun v h' own' hle ⟨h1, h2⟩ => ⟨h1, hq v h' hle h2⟩⟩

theorem get_set_self {own : List Blk} {k : Nat} {B : Blk} (hk : own[k]? = some B) : own.set k B = own := by
  obtain ⟨h1, h2⟩ := List.getElem?_eq_some_iff.1 hk
  apply List.ext_getElem? ; intro j
  rw [List.getElem?_set]
  split
  · rename_i hj; subst hj; simp [hk]
  · rfl

theorem perm_at {own : List Blk} {k : Nat} {B : Blk} (hk : own[k]? = some B) (B' : Blk) : (B' :: (own.take k ++ own.drop (k + 1))).Perm (own.set k B') := by
  obtain ⟨h1, h2⟩ := List.getElem?_eq_some_iff.1 hk
  rw [List.set_eq_take_append_cons_drop, if_pos h1]
  exact (List.perm_middle).symm

section
variable {todo td : List It} {env en : Env} {own ow : List Blk}

theorem wp_ev {e : Ev} (he : ev P F 100000 todo env own = e) (hk : EvOK P f F K h e) : WP P f F K ⟨todo, env, own⟩ h :=
  wp_of_ev 100000 todo env own (he ▸ hk)

theorem wp_pure {g : FuncId} {args : List Value} {d : Nat} {Q : Value → PHeap → Prop} (he : ev P F 100000 todo env own = .call g args (some d) ⟨td, en, ow⟩) (hc : Pure P g args h Q)
    (hk : ∀ v h', h.le h' → Q v h' → WP P f F K ⟨td, (d, .v v) :: en, ow⟩ h') : WP P f F K ⟨todo, env, own⟩ h := by
  refine wp_ev he ⟨hc.1, fun R fr hG => ?_⟩
  refine (hc.2 R (frameOf fr ow) (Good.frame_in (A := []) hG)).mono ?_
  rintro e R' ⟨v, h', own', rfl, hle, ⟨rfl, hQ⟩, hG'⟩
  exact ⟨v, rfl, .v v, h', ow, hle, Good.frame_out (A := []) (A' := []) hG hG', .refl _, rfl, hk v h' hle hQ⟩

theorem wp_mk {g : FuncId} {args : List Value} {d : Nat} {Q : Value → PHeap → List Blk → Prop} (he : ev P F 100000 todo env own = .call g args (some d) ⟨td, en, ow⟩) (hc : Mk P g args h Q)
    (hk : ∀ v h' own', h.le h' → Q v h' own' → ∃ x, conc (ow ++ own') x = some v ∧ WP P f F K ⟨td, (d, x) :: en, ow ++ own'⟩ h') : WP P f F K ⟨todo, env, own⟩ h := by
  refine wp_ev he ⟨hc.1, fun R fr hG => ?_⟩
  refine (hc.2 R (frameOf fr ow) (Good.frame_in (A := []) hG)).mono ?_
  rintro e R' ⟨v, h', own', rfl, hle, hQ, hG'⟩
  obtain ⟨x, hx, hw⟩ := hk v h' own' hle hQ
  refine ⟨v, rfl, x, h', ow ++ own', hle, (Good.frame_out (A := []) (A' := own') hG hG').perm List.perm_append_comm, conc_append _, hx, hw⟩

theorem wp_chg {g : FuncId} {args : List Value} {d : Nat} {Q : Value → PHeap → Body → Prop} (k : Nat) {B : Blk} (he : ev P F 100000 todo env own = .call g args (some d) ⟨td, en, ow⟩) (hB : ow[k]? = some B) (hc : Chg P g args h B Q)
    (hk : ∀ v h' bd ow', h.le h' → Q v h' bd → setBodyF ow k bd = some ow' → WP P f F K ⟨td, (d, .v v) :: en, ow'⟩ h') : WP P f F K ⟨todo, env, own⟩ h := by
  refine wp_ev he ⟨hc.1, fun R fr hG => ?_⟩
  have hp := perm_at hB B
  rw [get_set_self hB] at hp
  have hG1 : Good R h ([B] ++ (ow.take k ++ ow.drop (k + 1))) fr := hG.perm hp.symm
  refine (hc.2 R _ hG1.frame_in).mono ?_
  rintro e R' ⟨v, h', own', rfl, hle, ⟨bd, rfl, hQ⟩, hG'⟩
  have hG2 := (hG1.frame_out hG').perm (perm_at hB { B with body := bd })
  refine ⟨v, rfl, .v v, h', setBody ow k bd, hle, by rw [setBody_eq _ hB]; exact hG2, ?_, rfl, hk v h' bd _ hle hQ (setBodyF_eq _ _ _)⟩
  intro x u hu
  rw [setBody_eq _ hB, conc_set bd hB]; exact hu

theorem wp_br {b : Bool} {s1 s2 : St} (he : ev P F 100000 todo env own = .br b s1 s2) (h1 : b = true → WP P f F K s1 h) (h2 : b = false → WP P f F K s2 h) : WP P f F K ⟨todo, env, own⟩ h := wp_ev he ⟨h1, h2⟩
theorem wp_brT {b : Bool} {s1 s2 : St} (he : ev P F 100000 todo env own = .br b s1 s2) (hb : b = true) (h1 : WP P f F K s1 h) : WP P f F K ⟨todo, env, own⟩ h := wp_ev he ⟨fun _ => h1, fun h2 => (by rw [hb] at h2; exact absurd h2 (by decide))⟩
theorem wp_brF {b : Bool} {s1 s2 : St} (he : ev P F 100000 todo env own = .br b s1 s2) (hb : b = false) (h1 : WP P f F K s2 h) : WP P f F K ⟨todo, env, own⟩ h := wp_ev he ⟨fun h2 => (by rw [hb] at h2; exact absurd h2 (by decide)), fun _ => h1⟩

/-- A new block: 'k': how many own blocks there are. -/
theorem wp_alloc (k : Nat) {cells : List Value} {ty : TypeId} {x : SV} {d : Nat} (he : ev P F 100000 todo env own = .alloc cells ty x (some d) ⟨td, en, ow⟩) (hx : x = .loc k 0) (hk : ∀ b, WP P f F K ⟨td, (d, .loc k 0) :: en, ow ++ [⟨b, false, true, .cells cells ty⟩]⟩ h) : WP P f F K ⟨todo, env, own⟩ h := by
  subst hx; exact wp_ev he hk

theorem wp_load {p : Addr} {d : Nat} {v : Value} (he : ev P F 100000 todo env own = .load none p (some d) ⟨td, en, ow⟩) (hc : HCell h p v) (hk : WP P f F K ⟨td, (d, .v v) :: en, ow⟩ h) : WP P f F K ⟨todo, env, own⟩ h :=
  wp_ev he ⟨v, fun R fr hG => hc.cell hG, hk⟩

def HCells (h : PHeap) (p : Addr) (vs : List Value) : Prop := ∀ (j : Nat) v, vs[j]? = some v → HCell h (p.add j) v
theorem HCells.mono {h h' : PHeap} {p : Addr} {vs : List Value} (c : HCells h p vs) (hle : h.le h') : HCells h' p vs := fun j v hj => (c j v hj).mono hle

theorem wp_loads {p : Addr} {m : Nat} {d : Nat} {vs : List Value} (he : ev P F 100000 todo env own = .load (some m) p (some d) ⟨td, en, ow⟩) (hl : vs.length = m) (hc : HCells h p vs) (hk : WP P f F K ⟨td, (d, .v (.agg ⟨vs⟩)) :: en, ow⟩ h) : WP P f F K ⟨todo, env, own⟩ h :=
  wp_ev he ⟨vs, hl, fun R fr hG j v hj => (hc j v hj).cell hG, hk⟩

theorem wp_need {φ : Prop} {x : Value} {d : Nat} (he : ev P F 100000 todo env own = .need φ x (some d) ⟨td, en, ow⟩) (hφ : φ) (hk : WP P f F K ⟨td, (d, .v x) :: en, ow⟩ h) : WP P f F K ⟨todo, env, own⟩ h := wp_ev he ⟨hφ, hk⟩

theorem wp_idx {A : Option Addr} {n : Nat} {i : Int} {size : Nat} {d : Nat} (ad : Addr) (he : ev P F 100000 todo env own = .idx A n i size (some d) ⟨td, en, ow⟩) (hA : A = some ad) (h0 : 0 ≤ i) (h1 : i < n)
    (hk : WP P f F K ⟨td, (d, .v (.pointer (some (ad.add (i.toNat * size))))) :: en, ow⟩ h) : WP P f F K ⟨todo, env, own⟩ h := wp_ev he ⟨ad, hA, h0, h1, hk⟩

/-- An own array's element, at a place that is known by number. -/
theorem wp_idxl {k off n : Nat} {i : Int} {size : Nat} {d : Nat} (m : Nat) (he : ev P F 100000 todo env own = .idxo k off n i size (some d) ⟨td, en, ow⟩) (hi : i = m) (hm : m < n)
    (hk : WP P f F K ⟨td, (d, .loc k (off + m * size)) :: en, ow⟩ h) : WP P f F K ⟨todo, env, own⟩ h := by
  subst hi
  refine wp_ev he ⟨by omega, by omega, .loc k (off + m * size), fun B hB => ?_, hk⟩
  dsimp only at hB
  simp only [conc, hB]; simp

theorem wp_idxx {k off n : Nat} {i : Int} {size : Nat} {d : Nat} (he : ev P F 100000 todo env own = .idxo k off n i size (some d) ⟨td, en, ow⟩) (h0 : 0 ≤ i) (h1 : i < n)
    (hk : WP P f F K ⟨td, (d, .locx k (off + i.toNat * size)) :: en, ow⟩ h) : WP P f F K ⟨todo, env, own⟩ h :=
  wp_ev he ⟨h0, h1, .locx k (off + i.toNat * size), fun B hB => by dsimp only at hB; simp only [conc, hB], hk⟩

theorem wp_idxg {k n : Nat} {i : Int} {size : Nat} {d : Nat} {B : Blk} (he : ev P F 100000 todo env own = .idxg k n i size (some d) ⟨td, en, ow⟩) (hB : ow[k]? = some B) (hn : B.nul = false) (h0 : 0 ≤ i) (h1 : i < n)
    (hk : WP P f F K ⟨td, (d, .locx k (i.toNat * size)) :: en, ow⟩ h) : WP P f F K ⟨todo, env, own⟩ h := wp_ev he ⟨⟨B, hB, hn⟩, h0, h1, hk⟩

/-- A cell of an own block. -/
theorem Good.cellAt {R : World} {own : List Blk} {fr : Frm} (g : Good R h own fr) {k : Nat} {B : Blk} {l : List Value} {ty : TypeId} (hk : own[k]? = some B) (hl : B.live = true) (hb : B.body = .cells l ty) (i : Nat) : R.cell? ⟨B.id, i, none⟩ = l[i]? := by
  have hm : B ∈ own := List.mem_of_getElem? hk
  have := (g.ownOk _ hm hl).1
  rw [hb] at this; dsimp only [Body.toObj] at this
  simp [World.cell?, this]

theorem wp_loadx {k off : Nat} {d : Nat} {B : Blk} {l : List Value} {ty : TypeId} {v : Value} (he : ev P F 100000 todo env own = .loadx k off none (some d) ⟨td, en, ow⟩) (hB : ow[k]? = some B) (hl : B.live = true) (hb : B.body = .cells l ty) (hv : l[off]? = some v)
    (hk : WP P f F K ⟨td, (d, .v v) :: en, ow⟩ h) : WP P f F K ⟨todo, env, own⟩ h :=
  wp_ev he ⟨B, hB, v, fun R fr hG => by rw [hG.cellAt hB hl hb, hv], hk⟩

theorem wp_loadxs {k off m : Nat} {d : Nat} {B : Blk} {l vs : List Value} {ty : TypeId} (he : ev P F 100000 todo env own = .loadx k off (some m) (some d) ⟨td, en, ow⟩) (hB : ow[k]? = some B) (hl : B.live = true) (hb : B.body = .cells l ty) (hm : vs.length = m)
    (hv : ∀ j v, vs[j]? = some v → l[off + j]? = some v) (hk : WP P f F K ⟨td, (d, .v (.agg ⟨vs⟩)) :: en, ow⟩ h) : WP P f F K ⟨todo, env, own⟩ h :=
  wp_ev he ⟨B, hB, vs, hm, fun R fr hG j v hj => by rw [hG.cellAt hB hl hb]; exact hv j v hj, hk⟩

/-- A load through an address that is an own block's. -/
theorem wp_load_own (k : Nat) {p : Addr} {d : Nat} {B : Blk} {l : List Value} {ty : TypeId} {v : Value} (he : ev P F 100000 todo env own = .load none p (some d) ⟨td, en, ow⟩) (hB : ow[k]? = some B) (hl : B.live = true) (hb : B.body = .cells l ty)
    (hp : p = ⟨B.id, p.off, none⟩) (hv : l[p.off]? = some v) (hk : WP P f F K ⟨td, (d, .v v) :: en, ow⟩ h) : WP P f F K ⟨todo, env, own⟩ h :=
  wp_ev he ⟨v, fun R fr hG => by rw [hp, hG.cellAt hB hl hb]; exact hv, hk⟩

theorem wp_loads_own (k : Nat) {p : Addr} {m : Nat} {d : Nat} {B : Blk} {l vs : List Value} {ty : TypeId} (he : ev P F 100000 todo env own = .load (some m) p (some d) ⟨td, en, ow⟩) (hB : ow[k]? = some B) (hl : B.live = true) (hb : B.body = .cells l ty)
    (hp : p = ⟨B.id, p.off, none⟩) (hm : vs.length = m) (hv : ∀ j v, vs[j]? = some v → l[p.off + j]? = some v) (hk : WP P f F K ⟨td, (d, .v (.agg ⟨vs⟩)) :: en, ow⟩ h) : WP P f F K ⟨todo, env, own⟩ h :=
  wp_ev he ⟨vs, hm, fun R fr hG j v hj => by rw [hp, addr_add, hG.cellAt hB hl hb]; exact hv j v hj, hk⟩

/-- A store into an own block, at a reckoned place: one cell. -/
theorem wp_storex {k off : Nat} {n : Option Nat} {v : Value} {id : Nat} {nu : Bool} {l l' : List Value} {ty : TypeId} {ow' : List Blk} (he : ev P F 100000 todo env own = .storex k off n v ⟨td, en, ow⟩) (hB : ow[k]? = some ⟨id, nu, true, .cells l ty⟩)
    (hn : (cellsOfV v).length = n.getD 1) (hs : setF off (cellsOfV v) l = some l') (ho : setBodyF ow k (.cells l' ty) = some ow') (hk : WP P f F K ⟨td, en, ow'⟩ h) : WP P f F K ⟨todo, env, own⟩ h := by
  rw [setBodyF_eq] at ho; cases ho
  refine wp_ev he ⟨⟨id, nu, true, .cells l ty⟩, setBody ow k (.cells l' ty), hB, fun R fr t ht hG => ?_, ?_, hk⟩
  · have hsz : (sizeOf t).run P R = .ok v.cells.size R := by
      rw [cellsOfV_eq] at hn
      cases n with
      | some m => rw [(sizeAt_some ht R).2]; simp at hn; rw [hn]
      | none => rw [(sizeAt_none ht R).2]; simp at hn; rw [hn]
    rw [cellsOfV_eq] at hs
    exact store_own hG hB hsz hs
  · intro x u hu; dsimp only at hu; rw [setBody_eq _ hB, conc_set _ hB]; exact hu

/-- A store through an address that is an own block's. -/
theorem wp_store_own (k : Nat) {p : Addr} {n : Option Nat} {v : Value} {id : Nat} {nu : Bool} {l l' : List Value} {ty : TypeId} {ow' : List Blk} (he : ev P F 100000 todo env own = .store n p v ⟨td, en, ow⟩) (hB : ow[k]? = some ⟨id, nu, true, .cells l ty⟩)
    (hp : p = ⟨id, p.off, none⟩) (hn : (cellsOfV v).length = n.getD 1) (hs : setF p.off (cellsOfV v) l = some l') (ho : setBodyF ow k (.cells l' ty) = some ow') (hk : WP P f F K ⟨td, en, ow'⟩ h) : WP P f F K ⟨todo, env, own⟩ h := by
  rw [setBodyF_eq] at ho; cases ho
  refine wp_ev he ⟨setBody ow k (.cells l' ty), fun R fr t ht hG => ?_, ?_, hk⟩
  · have hsz : (sizeOf t).run P R = .ok v.cells.size R := by
      rw [cellsOfV_eq] at hn
      cases n with
      | some m => rw [(sizeAt_some ht R).2]; simp at hn; rw [hn]
      | none => rw [(sizeAt_none ht R).2]; simp at hn; rw [hn]
    rw [cellsOfV_eq] at hs
    rw [hp]
    exact store_own hG hB hsz hs
  · intro x u hu; dsimp only at hu; rw [setBody_eq _ hB, conc_set _ hB]; exact hu

/-- What a function hands back. -/
def resF (P : Program) (env : Env) (own : List Blk) : List ResultVar → Option (List Value)
  | [] => some []
  | .tmp t :: l => match get env t with
    | some x => match conc own x with
      | some v => match resF P env own l with
        | some vs => some (v :: vs)
        | none => none
      | none => none
    | none => none
  | .cell t ty :: l => match get env t with
    | some (.loc k off) => match own[k]? with
      | some ⟨id, _, true, .cells c _⟩ => match sizeAt P ty with
        | some none => match dropF off c with
          | v :: _ => match resF P env own l with
            | some vs => some (v :: vs)
            | none => none
          | [] => none
        | some (some m) => match takeF m (dropF off c) with
          | some us => match resF P env own l with
            | some vs => some (.agg ⟨us⟩ :: vs)
            | none => none
          | none => none
        | none => none
      | _ => none
    | _ => none

def retV : List Value → Value
  | [v] => v
  | vs => .tuple ⟨vs⟩

theorem dropF_head {off : Nat} {c l2 : List Value} {v : Value} (hd : dropF off c = v :: l2) : c[off]? = some v := by
  rw [dropF_eq] at hd
  have := congrArg (·[0]?) hd
  simpa using this

theorem takeF_at {m off : Nat} {c us : List Value} (ht : takeF m (dropF off c) = some us) : us.length = m ∧ ∀ (j : Nat) v, us[j]? = some v → c[off + j]? = some v := by
  obtain ⟨e1, e2⟩ := takeF_ok ht
  refine ⟨e2, fun j v hv => ?_⟩
  rw [dropF_eq] at e1
  have hj : j < m := by rw [← e2]; exact (List.getElem?_eq_some_iff.1 hv).1
  rw [e1, List.getElem?_take_of_lt hj, List.getElem?_drop] at hv
  exact hv

def resSem (a : Act) : ResultVar → Sem Value
  | .tmp t => pure (a.tmps.getD t undef)
  | .cell t ty => do loadVar ty (← asAddr (a.tmps.getD t undef))

theorem resSem_tmp {a : Act} {t : Nat} {v : Value} (e : a.tmps.getD t undef = v) (R : World) : (resSem a (.tmp t)).run P R = .ok v R := by
  simp only [resSem, e, Sem.run_pure]
theorem resSem_cell {a : Act} {t : Nat} {ty : TypeId} {ad : Addr} (e : a.tmps.getD t undef = .pointer (some ad)) {R : World} {v : Value} (h : (loadVar ty ad).run P R = .ok v R) : (resSem a (.cell t ty)).run P R = .ok v R := by
  simp only [resSem, e, asAddr, Sem.run_bind, Sem.run_pure, Result.andThen_ok, h]

theorem resF_ok {a : Act} {R : World} {env : Env} {own : List Blk} {fr : Frm} (hE : EnvOK a env own) (hG : Good R h own fr) : ∀ {l : List ResultVar} {vs : List Value}, resF P env own l = some vs →
    (l.mapM (resSem a)).run P R = Result.ok vs R := by
  intro l
  induction l with
  | nil => intro vs hv; simp only [resF, Option.some.injEq] at hv; subst hv; simp
  | cons x l ih =>
    intro vs hv
    cases x with
    | tmp t =>
      simp only [resF] at hv
      split at hv
      · rename_i y hy
        split at hv
        · rename_i v hcv
          split at hv
          · rename_i ws hws
            simp only [Option.some.injEq] at hv; subst hv
            obtain ⟨u, h1, h2⟩ := hE t y hy
            rw [hcv] at h1; cases h1
            have e : a.tmps.getD t undef = v := by simp [Array.getD_eq_getD_getElem?, h2]
            simp only [List.mapM_cons, Sem.run_bind, resSem_tmp e, Sem.run_pure, Result.andThen_ok, ih hws]
          · cases hv
        · cases hv
      · cases hv
    | cell t ty =>
      simp only [resF] at hv
      split at hv
      · rename_i k off hy
        split at hv
        · rename_i id nu c ty2 hk
          obtain ⟨u, h1, h2⟩ := hE t _ hy
          simp only [conc, hk, Option.some.injEq] at h1
          subst h1
          have e : a.tmps.getD t undef = .pointer (some ⟨id, off, none⟩) := by simp [Array.getD_eq_getD_getElem?, h2]
          split at hv
          · rename_i hsz
            split at hv
            · rename_i v l2 hd
              split at hv
              · rename_i ws hws
                simp only [Option.some.injEq] at hv; subst hv
                have hc := (own_cell hG hk off).1
                rw [dropF_head hd] at hc
                simp only [List.mapM_cons, Sem.run_bind, resSem_cell e (loadVar_one hsz hc), Sem.run_pure, Result.andThen_ok, ih hws]
              · cases hv
            · cases hv
          · rename_i m hsz
            split at hv
            · rename_i us hus
              split at hv
              · rename_i ws hws
                simp only [Option.some.injEq] at hv; subst hv
                obtain ⟨e1, e2⟩ := takeF_at hus
                have := loadVar_many (R := R) hsz e1 (a := ⟨id, off, none⟩) (fun j v hj => by rw [addr_add, (own_cell hG hk (off + j)).1]; exact e2 j v hj)
                simp only [List.mapM_cons, Sem.run_bind, resSem_cell e this, Sem.run_pure, Result.andThen_ok, ih hws]
              · cases hv
            · cases hv
          · cases hv
        · cases hv
      · cases hv

theorem results_ok {a : Act} {R : World} {env : Env} {own : List Blk} {fr : Frm} (hE : EnvOK a env own) (hG : Good R h own fr) {vs : List Value} (hr : resF P env own F.results.toList = some vs) :
    (results F a.tmps).run P R = .ok (retV vs) R := by
  have h1 := resF_ok hE hG hr
  have hm : (F.results.mapM (resSem a)).run P R = .ok ⟨vs⟩ R := by
    rw [Array.mapM_eq_mapM_toList, Sem.run_map, h1]; rfl
  have hr2 : results F a.tmps = (do let vs ← F.results.mapM (resSem a); pure (if h : vs.size = 1 then vs[0] else .tuple vs)) := by
    unfold results
    congr 1
  rw [hr2]
  simp only [Sem.run_bind, hm, Result.andThen_ok, Sem.run_pure]
  congr 1
  rcases vs with _ | ⟨v, _ | ⟨u, vs⟩⟩ <;> simp [retV]

/-- The end. 'own'': what is handed back to be owned. -/
theorem wp_ret {vs : List Value} (own' : List Blk) (he : ev P F 100000 todo env own = .ret en ow) (hr : resF P en ow F.results.toList = some vs) (hs : own'.Sublist ow) (hK : K (retV vs) h own') : WP P f F K ⟨todo, env, own⟩ h :=
  wp_ev he fun a R fr hE hG => ⟨retV vs, h, own', results_ok hE hG hr, .refl h, hK, hG.take hs⟩

/-- The end of a call that owns nothing. -/
theorem wp_ret0 {vs : List Value} (he : ev P F 100000 todo env own = .ret en ow) (hr : resF P en ow F.results.toList = some vs) (hK : K (retV vs) h []) : WP P f F K ⟨todo, env, own⟩ h :=
  wp_ret [] he hr (List.nil_sublist _) hK

/-- An own block that is owned no more. -/
def killF : List Blk → Nat → Option (List Blk)
  | [], _ => none
  | ⟨id, nu, _, bd⟩ :: l, 0 => some (⟨id, nu, false, bd⟩ :: l)
  | B :: l, k + 1 => match killF l k with
    | some r => some (B :: r)
    | none => none

theorem killF_eq : ∀ {own : List Blk} {k : Nat} {B : Blk} {r : List Blk}, own[k]? = some B → killF own k = some r → r = own.set k { B with live := false } := by
  intro own
  induction own with
  | nil => intro k B r h; simp at h
  | cons A l ih =>
    intro k B r h hr
    cases k with
    | zero => simp at h; subst h; simp only [killF, Option.some.injEq] at hr; subst hr; rfl
    | succ k =>
      simp only [killF] at hr
      split at hr
      · rename_i q hq
        simp only [Option.some.injEq] at hr; subst hr
        rw [ih (by simpa using h) hq]; rfl
      · cases hr

/-- An own block is given to what stays. -/
theorem wp_freeze (k : Nat) {id : Nat} {nu : Bool} {bd : Body} {ow' : List Blk} (hB : own[k]? = some ⟨id, nu, true, bd⟩) (ho : killF own k = some ow')
    (hk : ∀ h', h.le h' → h' id = some bd.toObj → WP P f F K ⟨todo, env, ow'⟩ h') : WP P f F K ⟨todo, env, own⟩ h := by
  intro a R fr cs hd hsz hE hG
  have ho' := killF_eq hB ho
  subst ho'
  have hm : (⟨id, nu, true, bd⟩ : Blk) ∈ own := List.mem_of_getElem? hB
  have hn := (hG.ownOk _ hm rfl).2.1
  have hle := PHeap.add_le (o := bd.toObj) hn
  refine Done.le hle ?_
  refine hk _ hle (by simp [PHeap.add]) a R fr cs hd hsz ?_ (hG.freeze hB rfl)
  intro i x hx
  obtain ⟨v, h1, h2⟩ := hE i x hx
  refine ⟨v, ?_, h2⟩
  have key : ∀ (j : Nat) (C : Blk), own[j]? = some C → ∃ D : Blk, (own.set k ⟨id, nu, false, bd⟩)[j]? = some D ∧ D.id = C.id ∧ D.nul = C.nul := by
    intro j C hC
    by_cases hj : k = j
    · subst hj
      rw [hB] at hC; cases hC
      have := (List.getElem?_eq_some_iff.1 hB).1
      exact ⟨⟨id, nu, false, bd⟩, by simp [this], rfl, rfl⟩
    · exact ⟨C, by rw [List.getElem?_set_ne hj]; exact hC, rfl, rfl⟩
  dsimp only at h1 ⊢
  cases x with
  | v x => exact h1
  | tt => exact h1
  | ff => exact h1
  | loc j off =>
    simp only [conc] at h1 ⊢
    split at h1
    · rename_i C hC; obtain ⟨D, e1, e2, e3⟩ := key j C hC; rw [e1]; simpa [e2] using h1
    · cases h1
  | locx j off =>
    simp only [conc] at h1 ⊢
    split at h1
    · rename_i C hC; obtain ⟨D, e1, e2, e3⟩ := key j C hC; rw [e1]; simpa [e2] using h1
    · cases h1
  | gs j n c =>
    simp only [conc] at h1 ⊢
    split at h1
    · rename_i C hC; obtain ⟨D, e1, e2, e3⟩ := key j C hC; rw [e1]; simpa [nulAddr, e2, e3] using h1
    · cases h1

/-- What is known of the variables is enough. -/
def EnvSub (env : Env) : Env → Prop
  | [] => True
  | (i, x) :: l => get env i = some x ∧ EnvSub env l

theorem EnvSub.get_ok {env : Env} : ∀ {l : Env}, EnvSub env l → ∀ i x, get l i = some x → get env i = some x := by
  intro l
  induction l with
  | nil => intro _ i x hx; cases hx
  | cons p l ih =>
    obtain ⟨j, y⟩ := p
    intro hs i x hx
    rw [get_cons] at hx
    by_cases hj : j = i
    · subst hj; rw [if_pos rfl] at hx; cases hx; exact hs.1
    · rw [if_neg hj] at hx; exact ih hs.2 i x hx

/-- The same with other words for the variables (of the same values) and fewer own blocks. -/
theorem wp_as {en : Env} {ow : List Blk} (hx : ∀ a, EnvOK a env own → EnvOK a en ow) (hs : ow.Sublist own) (w : WP P f F K ⟨todo, en, ow⟩ h) : WP P f F K ⟨todo, env, own⟩ h :=
  WP.weaken (s' := ⟨todo, en, ow⟩) rfl (.refl h) (fun a R fr hE hG => ⟨hx a hE, hG.take hs⟩) w

/-- Every variable is well told. -/
def EnvIn (own : List Blk) : Env → Prop
  | [] => True
  | (_, x) :: l => (∃ v, conc own x = some v) ∧ EnvIn own l
theorem EnvIn.get_ok {own : List Blk} : ∀ {l : Env}, EnvIn own l → ∀ i x, get l i = some x → ∃ v, conc own x = some v := by
  intro l
  induction l with
  | nil => intro _ i x hx; cases hx
  | cons p l ih =>
    obtain ⟨j, y⟩ := p
    intro hs i x hx
    rw [get_cons] at hx
    by_cases hj : j = i
    · subst hj; rw [if_pos rfl] at hx; cases hx; exact hs.1
    · rw [if_neg hj] at hx; exact ih hs.2 i x hx

/-- Some of the variables, the same own blocks. -/
theorem wp_env {en : Env} (hx : EnvSub env en) (w : WP P f F K ⟨todo, en, own⟩ h) : WP P f F K ⟨todo, env, own⟩ h :=
  wp_as (fun a hE i x hi => hE i x (hx.get_ok i x hi)) (List.Sublist.refl own) w

/-- Some of the variables, some of the own blocks (the first ones). -/
theorem wp_sub {en : Env} {ow l : List Blk} (hx : EnvSub env en) (hl : own = ow ++ l) (hc : EnvIn ow en) (w : WP P f F K ⟨todo, en, ow⟩ h) : WP P f F K ⟨todo, env, own⟩ h := by
  refine wp_as (fun a hE i x hi => ?_) (by rw [hl]; exact List.sublist_append_left ow l) w
  obtain ⟨v, h1, h2⟩ := hE i x (hx.get_ok i x hi)
  obtain ⟨u, hu⟩ := hc.get_ok i x hi
  have := conc_append l x u hu
  rw [← hl, h1] at this; cases this
  exact ⟨v, hu, h2⟩

theorem wp_loop {σ : Type} (inv : σ → Prop) (μ : σ → Nat) (envs : σ → Env) (owns : σ → List Blk) (hps : σ → PHeap) (he : ev P F 100000 todo env own = .loop ⟨td, en, ow⟩)
    (round : ∀ i, inv i → (∀ j, inv j → μ j < μ i → WP P f F K ⟨td, envs j, owns j⟩ (hps j)) → WP P f F K ⟨td, envs i, owns i⟩ (hps i))
    (enter : (∀ i, inv i → WP P f F K ⟨td, envs i, owns i⟩ (hps i)) → WP P f F K ⟨td, en, ow⟩ h) : WP P f F K ⟨todo, env, own⟩ h := by
  refine wp_ev he (enter ?_)
  have key : ∀ n i, μ i = n → inv i → WP P f F K ⟨td, envs i, owns i⟩ (hps i) := by
    intro n
    induction n using Nat.strongRecOn with
    | _ n ih =>
      intro i hn hi
      exact round i hi fun j hj hlt => ih (μ j) (hn ▸ hlt) j rfl hj
  exact fun i hi => key _ i rfl hi

theorem wp_back (he : ev P F 100000 todo env own = .loop ⟨td, en, ow⟩) (w : WP P f F K ⟨td, en, ow⟩ h) : WP P f F K ⟨todo, env, own⟩ h := wp_ev he w

/-- More is known to stay. -/
theorem WP.at_le {s : St} {h' : PHeap} (w : WP P f F K s h') (hle : h.le h') (hg : ∀ (R : World) (fr : Frm), Good R h s.own fr → Good R h' s.own fr) : WP P f F K s h :=
  WP.weaken rfl hle (fun a R fr hE hG => ⟨hE, hg R fr hG⟩) w
end

def initEnv : Nat → List SV → Env
  | _, [] => []
  | i, x :: l => (i, x) :: initEnv (i + 1) l

theorem initEnv_get : ∀ {l : List SV} {n i : Nat} {x : SV}, get (initEnv n l) i = some x → n ≤ i ∧ l[i - n]? = some x := by
  intro l
  induction l with
  | nil => intro n i x h; cases h
  | cons y l ih =>
    intro n i x h
    simp only [initEnv, get_cons] at h
    by_cases hn : n = i
    · subst hn; rw [if_pos rfl] at h; cases h; simp
    · rw [if_neg hn] at h
      obtain ⟨h1, h2⟩ := ih h
      refine ⟨by omega, ?_⟩
      rw [show i - n = (i - (n + 1)) + 1 from by omega]
      simpa using h2

/-- A function's contract out of its body. -/
theorem Spec.of_wp {own : List Blk} {vals : List Value} {Q : Value → PHeap → List Blk → Prop} (args : List SV) (hf : P.funcs[f]? = some F) (hb : F.body.isSome = true) (hn : args.length ≤ F.ntmps) (hc : args.map (conc own) = vals.map some)
    (w : WP P f F Q ⟨[.code []], initEnv 0 args, own⟩ h) : Spec P f vals h own Q := by
  intro R fr hG cs
  obtain ⟨c, hc'⟩ := Option.isSome_iff_exists.1 hb
  have hlen : vals.length = args.length := by simpa using (congrArg List.length hc).symm
  have hbody : bodyOf F = c := by simp only [bodyOf, hc']
  have henter : Frame.enter P f ⟨vals⟩ .normal = (base f).at { tmps := ⟨vals⟩ ++ Array.replicate (F.ntmps - vals.length) undef, defers := [] } [.code c] := by
    simp [Frame.enter, Frame.at, hf, hc', base]
  have hE : EnvOK { tmps := ⟨vals⟩ ++ Array.replicate (F.ntmps - vals.length) undef, defers := [] } (initEnv 0 args) own := by
    intro i x hx
    obtain ⟨_, h2⟩ := initEnv_get hx
    rw [Nat.sub_zero] at h2
    have h3 : (args.map (conc own))[i]? = some (conc own x) := by simp [h2]
    rw [hc] at h3
    have hi : i < vals.length := by
      rcases Nat.lt_or_ge i vals.length with hl | hl
      · exact hl
      · rw [List.getElem?_eq_none (by simpa using hl)] at h3; cases h3
    have h4 : vals[i]? = some vals[i] := List.getElem?_eq_getElem hi
    simp only [List.getElem?_map, h4, Option.map_some, Option.some.injEq] at h3
    refine ⟨vals[i], h3.symm, ?_⟩
    have : i < (⟨vals⟩ : Array Value).size := hi
    simp only []
    rw [Array.getElem?_append_left this]
    simp [hi]
  obtain ⟨a, R', todo, v, h', own', hs, hd, hr, hle, hQ, hG'⟩ := w _ R fr cs rfl (by simp; omega) hE hG
  refine ⟨.returned v, R', { (base f).at a todo with mode := .returning }, ⟨v, h', own', rfl, hle, hQ, hG'⟩, ?_, rfl, ?_⟩
  · rw [henter]
    simpa [Comes, It.item, sub, hbody] using hs
  · exact ⟨rfl, hd, rfl, F, hf, hr⟩

theorem Pure.of_wp {vals : List Value} {Q : Value → PHeap → Prop} {env : Env} (hf : P.funcs[f]? = some F) (hcall : ∀ x R, (callFunc f x).run P R = .ok (.enter f x) R) (hb : F.body.isSome = true) (hn : Nat.ble vals.length F.ntmps = true)
    (he : initEnv 0 (vals.map ofConst) = env) (w : WP P f F (fun v h' own' => own' = [] ∧ Q v h') ⟨[.code []], env, []⟩ h) : Pure P f vals h Q :=
  ⟨hcall, Spec.of_wp (vals.map ofConst) hf hb (by simpa using Nat.le_of_ble_eq_true hn) (by simp [conc_ofConst]) (he ▸ w)⟩
end Go.Vc
/- The rules for slices and strings. No condition. -/
namespace Go.Vc
set_option linter.unusedVariables false
set_option linter.unusedSimpArgs false

variable {P : Program} {f : FuncId} {F : Func} {K : Post} {h : PHeap}
variable {todo td : List It} {env en : Env} {own ow : List Blk}

/-- An own block gives way to another one (or to itself with other cells). -/
theorem Good.replace {R R' : World} {fr : Frm} (g : Good R h own fr) (hal : Alike R R') {k : Nat} {B B' : Blk} (hk : own[k]? = some B)
    (hr : ∀ b, b < R.heap.size → (B.live = true → b ≠ B.id) → R'.heap[b]? = R.heap[b]?)
    (hB : B'.live = true → R'.heap[B'.id]? = some B'.body.toObj ∧ ((B.live = true ∧ B'.id = B.id) ∨ R.heap.size ≤ B'.id)) : Good R' h (own.set k B') fr := by
  obtain ⟨hkl, hkv⟩ := List.getElem?_eq_some_iff.1 hk
  have hBm : B ∈ own := hkv ▸ List.getElem_mem hkl
  have hap : ∀ j (hj : j < own.length), j ≠ k → own[j].live = true → B.live = true → own[j].id ≠ B.id := by
    intro j hj hjk hlj hl
    rcases Nat.lt_or_gt_of_ne hjk with hlt | hgt
    · have := List.pairwise_iff_getElem.1 g.apart j k hj hkl hlt hlj (hkv ▸ hl)
      rwa [hkv] at this
    · have := List.pairwise_iff_getElem.1 g.apart k j hkl hj hgt (hkv ▸ hl) hlj
      rw [hkv] at this
      exact fun e => this e.symm
  have hold : ∀ b o, R.heap[b]? = some o → (B.live = true → b ≠ B.id) → R'.heap[b]? = some o := fun b o e hb => by rw [hr b (some_lt e) hb]; exact e
  have hnew : ∀ j (hj : j < own.length), j ≠ k → own[j].live = true → B'.live = true → own[j].id ≠ B'.id := by
    intro j hj hjk hlj hl'
    rcases (hB hl').2 with ⟨hl, he⟩ | hge
    · rw [he]; exact hap j hj hjk hlj hl
    · have := some_lt (g.ownOk own[j] (List.getElem_mem hj) hlj).1
      omega
  refine ⟨?_, ?_, ?_, ?_, hal.1.trans g.stays.1, hal.2.trans g.stays.2⟩
  · intro b o e
    refine hold b o (g.heapOk b o e) fun hl hb => ?_
    rw [hb, (g.ownOk B hBm hl).2.1] at e; cases e
  · intro A hA hla
    obtain ⟨j, hj, rfl⟩ := List.getElem_of_mem hA
    rw [List.length_set] at hj
    by_cases hjk : k = j
    · subst hjk
      simp only [List.getElem_set_self] at hla ⊢
      obtain ⟨h1, h2⟩ := hB hla
      refine ⟨h1, ?_⟩
      rcases h2 with ⟨hl, he⟩ | hge
      · rw [he]; exact (g.ownOk B hBm hl).2
      · constructor
        · cases e : h B'.id with
          | none => rfl
          | some o => have := some_lt (g.heapOk _ _ e); omega
        · cases e : fr B'.id with
          | none => rfl
          | some o => have := some_lt (g.frameOk _ _ e).1; omega
    · rw [List.getElem_set_ne hjk] at hla ⊢
      obtain ⟨h1, h2⟩ := g.ownOk own[j] (List.getElem_mem hj) hla
      exact ⟨hold _ _ h1 (fun hl => hap j hj (Ne.symm hjk) hla hl), h2⟩
  · intro b o e
    refine ⟨hold b o (g.frameOk b o e).1 fun hl hb => ?_, (g.frameOk b o e).2⟩
    rw [hb, (g.ownOk B hBm hl).2.2] at e; cases e
  · refine List.pairwise_iff_getElem.2 fun i j hi hj hij => ?_
    rw [List.length_set] at hi hj
    intro hli hlj
    rw [List.getElem_set] at hli hlj ⊢
    rw [List.getElem_set]
    by_cases h1 : k = i <;> by_cases h2 : k = j
    · omega
    · subst h1; simp only [if_true, if_neg h2] at *
      exact fun e => hnew j hj (Ne.symm h2) hlj hli e.symm
    · subst h2; simp only [if_true, if_neg h1] at *
      exact hnew i hi (Ne.symm h1) hli hlj
    · simp only [if_neg h1, if_neg h2] at *
      exact List.pairwise_iff_getElem.1 g.apart i j hi hj hij hli hlj

/-- An own block as the row of a slice of the call's own, nil let in: n elements, the cells xs. -/
def OwnSl (B : Blk) (e : TypeId) (size n c : Nat) (xs : List Value) : Prop :=
  xs.length = n * size ∧ ((B.nul = true ∧ B.live = false ∧ n = 0 ∧ c = 0) ∨
    (B.nul = false ∧ B.live = true ∧ n ≤ c ∧ c ≤ maxLen ∧ ∃ sp, B.body = .cells (xs ++ sp) e ∧ (xs ++ sp).length = c * size))

theorem OwnSl.nil (id : Nat) (bd : Body) (e : TypeId) (size : Nat) : OwnSl ⟨id, true, false, bd⟩ e size 0 0 [] := ⟨by simp, .inl ⟨rfl, rfl, rfl, rfl⟩⟩

theorem OwnSl.at {B : Blk} {e : TypeId} {size n c : Nat} {xs : List Value} (o : OwnSl B e size n c xs) {i : Nat} {v : Value} (hv : xs[i]? = some v) :
    B.live = true ∧ B.nul = false ∧ ∃ l, B.body = .cells l e ∧ l[i]? = some v := by
  rcases o.2 with ⟨_, _, h3, _⟩ | ⟨h1, h2, _, _, sp, h5, _⟩
  · have hl : xs.length = 0 := by rw [o.1, h3]; simp
    have : xs = [] := List.eq_nil_of_length_eq_zero hl
    subst this; simp at hv
  · refine ⟨h2, h1, _, h5, ?_⟩
    rw [List.getElem?_append_left (List.getElem?_eq_some_iff.1 hv).1]; exact hv

/-- What a source of elements reads as. -/
def Src (h : PHeap) (own : List Blk) (A : Option Addr) (m size : Nat) (ys : List Value) : Prop :=
  ys.length = m * size ∧ (m = 0 ∨ ∃ ad, A = some ad ∧ ∀ (R : World) (fr : Frm), Good R h own fr → ∀ (j : Nat) u, ys[j]? = some u → R.cell? (ad.add j) = some u)

/-- A slice of what stays. -/
def HSl (h : PHeap) (size : Nat) (A : Option Addr) (n : Nat) (xs : List Value) : Prop :=
  xs.length = n * size ∧ (n = 0 ∨ ∃ ad, A = some ad ∧ HCells h ad xs)

theorem HSl.mono {h h' : PHeap} {size : Nat} {A : Option Addr} {n : Nat} {xs : List Value} (s : HSl h size A n xs) (hle : h.le h') : HSl h' size A n xs :=
  ⟨s.1, s.2.imp id fun ⟨ad, e, c⟩ => ⟨ad, e, c.mono hle⟩⟩

theorem HSl.src {size : Nat} {A : Option Addr} {n : Nat} {xs : List Value} (s : HSl h size A n xs) (own : List Blk) : Src h own A n size xs :=
  ⟨s.1, s.2.imp id fun ⟨ad, e, c⟩ => ⟨ad, e, fun R fr hG j u hu => (c j u hu).cell hG⟩⟩

theorem Src.ofOwn {k id : Nat} {nu : Bool} {l : List Value} {ty : TypeId} {m size : Nat} {ys : List Value} (hk : own[k]? = some ⟨id, nu, true, .cells l ty⟩) (hl : ys.length = m * size) (hp : ∀ (j : Nat) u, ys[j]? = some u → l[j]? = some u) :
    Src h own (some ⟨id, 0, none⟩) m size ys :=
  ⟨hl, .inr ⟨_, rfl, fun R fr hG j u hu => by rw [addr_add, Nat.zero_add, (own_cell hG hk j).1]; exact hp j u hu⟩⟩

theorem ownsRow_of {R : World} {fr : Frm} (g : Good R h own fr) {k : Nat} {B : Blk} (hk : own[k]? = some B) {e : TypeId} {size n c : Nat} {xs : List Value} (o : OwnSl B e size n c xs) :
    R.ownsRow 0 e size (.slice (nulAddr B) n c) n xs := by
  refine ⟨o.1, ?_⟩
  rcases o.2 with ⟨h1, h2, rfl, rfl⟩ | ⟨h1, h2, h3, h4, sp, h5, h6⟩
  · exact .inl ⟨by simp only [nulAddr, h1], rfl⟩
  · refine .inr ⟨B.id, c, ⟨xs ++ sp⟩, by simp only [nulAddr, h1], Nat.zero_le _, ?_, h3, h4, by simpa using h6, by simp [← o.1]⟩
    have := (g.ownOk B (List.mem_of_getElem? hk) h2).1
    rw [h5] at this; exact this

/-- Variables that speak of an own block that has given way are forgotten. -/
def purge (k : Nat) : Env → Env
  | [] => []
  | (i, x) :: l => match x with
    | .loc j o => match Nat.beq j k with
      | true => purge k l
      | false => (i, .loc j o) :: purge k l
    | .locx j o => match Nat.beq j k with
      | true => purge k l
      | false => (i, .locx j o) :: purge k l
    | .gs j n c => match Nat.beq j k with
      | true => purge k l
      | false => (i, .gs j n c) :: purge k l
    | .v y => (i, .v y) :: purge k l
    | .tt => (i, .tt) :: purge k l
    | .ff => (i, .ff) :: purge k l

/-- Does a word not speak of own block k? -/
def offK (k : Nat) : SV → Prop
  | .loc j _ => j ≠ k
  | .locx j _ => j ≠ k
  | .gs j _ _ => j ≠ k
  | _ => True

theorem beq_false_ne {j k : Nat} (h : Nat.beq j k = false) : j ≠ k := by rintro rfl; rw [Nat.beq_refl] at h; cases h

/-- 'purge' says no more than what was said, but it may uncover what an elder entry said of a variable: so each variable is looked up in what was said whole. -/
def pick (k : Nat) (env : Env) : List Nat → Env
  | [] => []
  | i :: l => match get env i with
    | some x => match x with
      | .loc j o => match Nat.beq j k with
        | true => pick k env l
        | false => (i, .loc j o) :: pick k env l
      | .locx j o => match Nat.beq j k with
        | true => pick k env l
        | false => (i, .locx j o) :: pick k env l
      | .gs j n c => match Nat.beq j k with
        | true => pick k env l
        | false => (i, .gs j n c) :: pick k env l
      | .v y => (i, .v y) :: pick k env l
      | .tt => (i, .tt) :: pick k env l
      | .ff => (i, .ff) :: pick k env l
    | none => pick k env l

theorem pick_ok {k : Nat} {env : Env} : ∀ {l : List Nat} {i : Nat} {x : SV}, get (pick k env l) i = some x → get env i = some x ∧ offK k x := by
  intro l
  induction l with
  | nil => intro i x h; cases h
  | cons j l ih =>
    intro i x h
    simp only [pick] at h
    split at h
    · rename_i y hy
      have key : ∀ {z : SV}, get env j = some z → offK k z → get ((j, z) :: pick k env l) i = some x → get env i = some x ∧ offK k x := by
        intro z hz hoff hh
        rw [get_cons] at hh
        by_cases hji : j = i
        · subst hji; rw [if_pos rfl] at hh; cases hh; exact ⟨hz, hoff⟩
        · rw [if_neg hji] at hh; exact ih hh
      split at h
      · split at h
        · exact ih h
        · rename_i hb; exact key hy (beq_false_ne hb) h
      · split at h
        · exact ih h
        · rename_i hb; exact key hy (beq_false_ne hb) h
      · split at h
        · exact ih h
        · rename_i hb; exact key hy (beq_false_ne hb) h
      · exact key hy trivial h
      · exact key hy trivial h
      · exact key hy trivial h
    · exact ih h

theorem conc_off {k : Nat} {B' : Blk} {x : SV} (hx : offK k x) : conc (own.set k B') x = conc own x := by
  cases x with
  | v x => rfl
  | tt => rfl
  | ff => rfl
  | loc j off => simp only [conc, List.getElem?_set_ne (Ne.symm hx)]
  | locx j off => simp only [conc, List.getElem?_set_ne (Ne.symm hx)]
  | gs j n c => simp only [conc, List.getElem?_set_ne (Ne.symm hx)]

/-- One own block is written anew. -/
def setBlkF : List Blk → Nat → Blk → Option (List Blk)
  | [], _, _ => none
  | _ :: l, 0, B => some (B :: l)
  | A :: l, k + 1, B => match setBlkF l k B with
    | some r => some (A :: r)
    | none => none

theorem setBlkF_eq : ∀ {own : List Blk} {k : Nat} {B : Blk} {r : List Blk}, setBlkF own k B = some r → r = own.set k B := by
  intro own
  induction own with
  | nil => intro k B r h; cases h
  | cons A l ih =>
    intro k B r h
    cases k with
    | zero => simp only [setBlkF, Option.some.injEq] at h; subst h; rfl
    | succ k =>
      simp only [setBlkF] at h
      split at h
      · rename_i q hq; simp only [Option.some.injEq] at h; subst h; rw [ih hq]; rfl
      · cases h

theorem StepV.wp {o : Oper} (he : ev P F 100000 todo env own = .raw o ⟨td, en, ow⟩) (hs : StepV P f F K h o ⟨td, en, ow⟩) : WP P f F K ⟨todo, env, own⟩ h := wp_ev he hs

/-- An operation that only reckons. -/
theorem wp_raw {o : Oper} {d : Nat} {v : Value} (he : ev P F 100000 todo env own = .raw o ⟨td, en, ow⟩) (hd : o.dst = some d)
    (hr : ∀ a, EnvOK a en ow → ∀ (R : World) (fr : Frm), Good R h ow fr → (execOp a.eval o).run P R = .ok (.value v) R) (hk : WP P f F K ⟨td, (d, .v v) :: en, ow⟩ h) : WP P f F K ⟨todo, env, own⟩ h := by
  refine StepV.wp he fun a R fr hE hG => ⟨.v v, v, R, h, en, ow, hr a hE R fr hG, .refl h, hG, hE, rfl, ?_⟩
  rw [hd]; exact hk

/-- '[]T{a, b, ..}'. -/
theorem wp_bslice (k : Nat) {o : Oper} {d : Nat} {t e : TypeId} {len size : Nat} {parts : Array (Nat × Operand)} {vs : List (Nat × Value)} {z cells : List Value} {i : TypeInfo}
    (he : ev P F 100000 todo env own = .raw o ⟨td, en, ow⟩) (hd : o.dst = some d) (ho : o.op = .buildSlice t len parts) (hk0 : ow.length = k) (hu : P.underlying t = some (.slice e)) (hi : P.info? e = some i) (hsz : i.size = size)
    (hz : zeroF P e = some z) (hzl : z.length = size) (hp : partsF en ow parts.toList = some vs) (hsm : Nat.ble (len * size) 100000 = true) (hf : fillF (fun j => some (j * size, size)) ((List.range (len * size)).map fun j => z.getD (j % z.length) undef) vs = some cells)
    (hk : ∀ b, WP P f F K ⟨td, (d, .gs k len len) :: en, ow ++ [⟨b, false, true, .cells cells e⟩]⟩ h) : WP P f F K ⟨todo, env, own⟩ h := by
  subst hk0 hsz
  refine StepV.wp he fun a R fr hE hG => ?_
  refine ⟨.gs ow.length len len, .slice (some ⟨R.heap.size, 0, none⟩) len len, R.alloc (.cells ⟨cells⟩ e), h, en, _, ?_, .refl h, hG.alloc (.cells cells e), hE.keeps (conc_append _), ?_, ?_⟩
  · have hv := partsF_ok hE hp
    have e2 : (Array.map (fun (x : Nat × Operand) => match x with | (i, x) => (i, a.eval x)) parts) = ⟨vs⟩ := by
      rw [hv]; apply Array.toList_inj.1; simp
    have hsm' : ¬ (len * i.size > 2 ^ 24) := by
      have := Nat.le_of_ble_eq_true hsm
      omega
    obtain ⟨zv, hzv, hzc⟩ := zeroF_ok hz R
    have hf' := fillF_ok hf
    simp only [execOp, ho, Sem.run_bind, e2, Instr.buildSlice, run_underlying hu, Result.andThen_ok, info_size hi, if_neg hsm', Sem.run_pure]
    by_cases h0 : len * i.size = 0
    · simp only [h0, if_true, Sem.run_pure, Result.andThen_ok]
      have : (Array.map (fun x => (#[] : Array Value)[x % (#[] : Array Value).size]!) (Array.range 0)) = ⟨[]⟩ := by apply Array.toList_inj.1; simp
      rw [h0] at hf'
      simp only [List.range_zero, List.map_nil] at hf'
      simp only [this, hf', newRow, Sem.run_bind, run_newObj, Result.andThen_ok, Sem.run_pure]
      rfl
    · simp only [if_neg h0, Sem.run_bind, hzv, Result.andThen_ok, Sem.run_pure]
      have hc : (Array.map (fun x => zv.cells[x % zv.cells.size]!) (Array.range (len * i.size))) = ⟨(List.range (len * i.size)).map fun j => z.getD (j % z.length) undef⟩ := by
        apply Array.toList_inj.1
        have hzz : zv.cells = ⟨z⟩ := by rw [← hzc]
        simp only [Array.toList_map, Array.toList_range, hzz]
        apply List.map_congr_left
        intro j hj
        have hpos : 0 < z.length := by
          rcases Nat.eq_zero_or_pos z.length with h1 | h1
          · rw [h1] at hzl; rw [← hzl] at h0; simp at h0
          · exact h1
        have hlt := Nat.mod_lt j hpos
        show (⟨z⟩ : Array Value)[j % z.length]! = _
        rw [getElem!_pos (⟨z⟩ : Array Value) (j % z.length) hlt]
        simp [List.getD, hlt]
      simp only [hc, hf', newRow, Sem.run_bind, run_newObj, Result.andThen_ok, Sem.run_pure]
      rfl
  · simp [conc, nulAddr]
  · rw [hd]; exact hk _


theorem run_append_nil_src (w : World) (base : Nat) (t ty e : TypeId) (i : TypeInfo) (size : Nat) (ht : P.underlying t = some (.slice e)) (hi : P.info? e = some i)
    (v : Value) (n : Nat) (xs : List Value) (hown : w.ownsRow base e size v n xs) (A : Option Addr) (c : Nat) : (Builtin.append_ #[t, t] ty #[v, .slice A 0 c]).run P w = .ok v w := by
  rcases hown.2 with ⟨rfl, rfl⟩ | ⟨g, cap, cur, rfl, _, _, hnc, _⟩
  · cases A <;> simp [Builtin.append_, run_underlying ht, sizeOf, typeInfo, hi, Builtin.lenOf, Builtin.firstCells, loadCells, loadCellsFrom]
  · cases A <;> simp [Builtin.append_, run_underlying ht, sizeOf, typeInfo, hi, Builtin.lenOf, Builtin.firstCells, loadCells, loadCellsFrom, hnc, storeCells]

theorem setBlkF_some : ∀ {own : List Blk} {k : Nat} (B' : Blk), k < own.length → setBlkF own k B' = some (own.set k B') := by
  intro own
  induction own with
  | nil => intro k B' h; simp at h
  | cons A l ih =>
    intro k B' h
    cases k with
    | zero => rfl
    | succ k => simp [setBlkF, ih B' (by simpa using h)]

theorem pick_env {a : Act} {k : Nat} {B' : Blk} (hE : EnvOK a en ow) (sl : List Nat) : EnvOK a (pick k en sl) (ow.set k B') := by
  intro i x hx
  obtain ⟨h1, h2⟩ := pick_ok hx
  obtain ⟨v, h3, h4⟩ := hE i x h1
  exact ⟨v, by rw [conc_off h2]; exact h3, h4⟩

/-- An owned row, told by its block. -/
theorem of_ownsRow {R' : World} {e : TypeId} {size n : Nat} {v' : Value} {xs : List Value} (hr : R'.ownsRow 0 e size v' n xs) :
    ∃ B' c', v' = .slice (nulAddr B') n c' ∧ OwnSl B' e size n c' xs ∧ (B'.live = true → R'.heap[B'.id]? = some B'.body.toObj ∧ v'.ownBlock = some B'.id) := by
  rcases hr with ⟨hl, ⟨rfl, rfl⟩ | ⟨g, cap, cur, rfl, _, hg, hnc, hc, hcs, htk⟩⟩
  · refine ⟨⟨0, true, false, .cells [] e⟩, 0, rfl, ⟨hl, .inl ⟨rfl, rfl, rfl, rfl⟩⟩, fun h => by cases h⟩
  · refine ⟨⟨g, false, true, .cells cur.toList e⟩, cap, rfl, ⟨hl, .inr ⟨rfl, rfl, hnc, hc, cur.toList.drop (n * size), ?_, ?_⟩⟩, fun _ => ⟨hg, rfl⟩⟩
    · rw [← htk, List.take_append_drop]
    · rw [← htk, List.take_append_drop]; simpa using hcs

/-- 'append(s, xs...)', s the call's own. -/
theorem wp_app {o : Oper} {d k n c m c2 : Nat} {x y : Operand} {sy : SV} {t e : TypeId} {i : TypeInfo} {A : Option Addr} {zv : Value} {size bytes : Nat} {xs ys : List Value} {B : Blk}
    (sl : List Nat) (he : ev P F 100000 todo env own = .raw o ⟨td, en, ow⟩) (hd : o.dst = some d) (ho : o.op = .call { callee := .builtin .append, args := #[x, y], argTypes := #[t, t] })
    (hx : getS en x = some (.gs k n c)) (hy : getS en y = some sy) (hyv : conc ow sy = some (.slice A m c2)) (hB : ow[k]? = some B)
    (hu : P.underlying t = some (.slice e)) (hi : P.info? e = some i) (hz : i.zero = some zv) (hsz : i.size = size) (hby : i.bytes = bytes) (hzs : zv.cells.size = size) (hpos : Nat.blt 0 size = true)
    (hown : OwnSl B e size n c xs) (hsrc : Src h ow A m size ys) (h1 : ∀ u ∈ ys, u.oneCell' = true) (h63 : n + m ≤ maxLen) (hbytes : (n + m) * bytes ≤ 140737488355328)
    (hk : ∀ B' c' ow', OwnSl B' e size (n + m) c' (xs ++ ys) → setBlkF ow k B' = some ow' → WP P f F K ⟨td, (d, .gs k (n + m) c') :: pick k en sl, ow'⟩ h) : WP P f F K ⟨todo, env, own⟩ h := by
  refine StepV.wp he fun a R fr hE hG => ?_
  dsimp only at hE hG
  have hrow := ownsRow_of hG hB hown
  have hkl : k < ow.length := (List.getElem?_eq_some_iff.1 hB).1
  have hvx := getS_ok hE hx
  simp only [conc, hB, Option.some.injEq] at hvx
  have hvy := getS_ok hE hy
  rw [hyv] at hvy; simp only [Option.some.injEq] at hvy
  have hexec : (execOp a.eval o).run P R = ((Builtin.append_ #[t, t] o.type #[.slice (nulAddr B) n c, .slice A m c2]).run P R).andThen fun v w => .ok (.value v) w := by
    unfold execOp
    simp only [ho, resolve, invoke, builtin, Sem.run_bind, Sem.run_pure, Result.andThen_ok, List.map_toArray, List.map_cons, List.map_nil, ← hvx, ← hvy]
  have key : ∃ v' R', (Builtin.append_ #[t, t] o.type #[.slice (nulAddr B) n c, .slice A m c2]).run P R = .ok v' R' ∧ R'.ownsRow 0 e size v' (n + m) (xs ++ ys) ∧ R.grownBy R' (Value.slice (nulAddr B) n c).ownBlock ∧
      (v'.ownBlock = (Value.slice (nulAddr B) n c).ownBlock ∨ v'.ownBlock = some R.heap.size) := by
    rcases hsrc with ⟨hl, rfl | ⟨ad, rfl, hc⟩⟩
    · have hys : ys = [] := List.eq_nil_of_length_eq_zero (by simpa using hl)
      subst hys
      exact ⟨_, R, run_append_nil_src R 0 t o.type e i size hu hi _ n xs hrow A c2, by simpa using hrow, World.grownBy.refl R _, .inl rfl⟩
    · obtain ⟨v', R', q1, q2, q3, _, q5⟩ := run_append_own_at (P := P) R 0 t o.type e i zv size bytes hu hi hz hsz hby hzs (by simpa [Nat.blt_eq] using hpos) _ n xs hrow ad m c2 ys hl (fun j u hj => hc R fr hG j u hj) h1 h63 hbytes (Nat.zero_le _)
      exact ⟨v', R', q1, q2, q3, q5⟩
  obtain ⟨v', R', hrun, hrow', hgr, hblk⟩ := key
  obtain ⟨B', c', rfl, hown', hB'⟩ := of_ownsRow hrow'
  refine ⟨.gs k (n + m) c', _, R', h, pick k en sl, ow.set k B', by rw [hexec, hrun]; rfl, .refl h, ?_, pick_env hE sl, ?_, ?_⟩
  · refine hG.replace ⟨hgr.os, hgr.output⟩ hB ?_ ?_
    · intro b hb hne
      refine hgr.block b hb ?_
      rcases hown.2 with ⟨q1, q2, _, _⟩ | ⟨q1, q2, _⟩
      · simp [nulAddr, q1, Value.ownBlock]
      · have := hne q2
        simp [nulAddr, q1, Value.ownBlock, this]
    · intro hl
      obtain ⟨e1, e2⟩ := hB' hl
      refine ⟨e1, ?_⟩
      rcases hblk with hb | hb
      · rw [e2] at hb
        rcases hown.2 with ⟨q1, q2, _, _⟩ | ⟨q1, q2, _⟩
        · simp [nulAddr, q1, Value.ownBlock] at hb
        · simp [nulAddr, q1, Value.ownBlock] at hb
          exact .inl ⟨q2, hb⟩
      · rw [e2] at hb; simp only [Option.some.injEq] at hb
        exact .inr (by omega)
  · simp [conc, hkl]
  · rw [hd]; exact hk B' c' _ hown' (setBlkF_some B' hkl)

/-- A nil slice as an own one. -/
theorem wp_nil (i : Nat) (k : Nat) (hi : get env i = some (.v (.slice none 0 0))) (hk0 : own.length = k) (hk : WP P f F K ⟨todo, (i, .gs k 0 0) :: env, own ++ [⟨0, true, false, .cells [] 0⟩]⟩ h) : WP P f F K ⟨todo, env, own⟩ h := by
  subst hk0
  refine WP.weaken (s' := ⟨todo, (i, .gs own.length 0 0) :: env, own ++ [⟨0, true, false, .cells [] 0⟩]⟩) rfl (.refl h) (fun a R fr hE hG => ⟨?_, ?_⟩) hk
  · obtain ⟨v, h1, h2⟩ := hE i _ hi
    simp only [conc, Option.some.injEq] at h1; subst h1
    intro j x hx
    rw [get_cons] at hx
    by_cases hij : i = j
    · subst hij; rw [if_pos rfl] at hx; cases hx
      exact ⟨_, by simp [conc, nulAddr], h2⟩
    · rw [if_neg hij] at hx
      exact hE.keeps (conc_append _) j x hx
  · dsimp only at hG ⊢
    refine ⟨hG.heapOk, ?_, hG.frameOk, List.pairwise_append.2 ⟨hG.apart, List.pairwise_singleton _ _, ?_⟩, hG.stays⟩
    · intro B hB hl
      rcases List.mem_append.1 hB with hB | hB
      · exact hG.ownOk B hB hl
      · obtain rfl := List.mem_singleton.1 hB; cases hl
    · intro A _ B hB _ hl
      obtain rfl := List.mem_singleton.1 hB; cases hl

/-- A byte of a string. -/
theorem wp_sidx {o : Oper} {d : Nat} {t : TypeId} {x y : Operand} {s : ByteArray} {k : IntKind} {i : Int} (u : UInt8) (he : ev P F 100000 todo env own = .raw o ⟨td, en, ow⟩) (hd : o.dst = some d) (ho : o.op = .index t x y)
    (hx : getS en x = some (.v (.string s))) (hy : getS en y = some (.v (.int k i))) (hu : P.underlying t = some .string) (h0 : 0 ≤ i) (hv : s[i.toNat]? = some u)
    (hk : WP P f F K ⟨td, (d, .v (.int .u8 u.toNat)) :: en, ow⟩ h) : WP P f F K ⟨todo, env, own⟩ h := by
  refine wp_raw he hd (fun a hE R fr hG => ?_) hk
  have h1 := getS_ok hE hx
  have h2 := getS_ok hE hy
  simp only [conc, Option.some.injEq] at h1 h2
  simp [execOp, ho, ← h1, ← h2, Instr.index, asIntOf, run_underlying hu, h0, hv]

/-- A bound of a slice expression: what is said, or what it is if nothing is. -/
def Bnd (en : Env) (q : Option Operand) (dflt l : Nat) : Prop := match q with
  | none => l = dflt
  | some x => ∃ k, getS en x = some (.v (.int k l))

theorem run_bounds {P : Program} {R : World} {a : Act} (hE : EnvOK a en ow) (isSl : Bool) {len cap l r : Nat} {lo hi : Option Operand} (hl : Bnd en lo 0 l) (hr : Bnd en hi len r) (hlr : l ≤ r) (hrc : r ≤ cap) :
    (Instr.sliceBounds isSl len cap (lo.map a.eval) (hi.map a.eval) none).run P R = .ok (l, r, cap) R := by
  have hh : ∀ (m : Nat) (code : BoundsCode) (x : Operand) (n : Nat) k, getS en x = some (.v (.int k n)) → n ≤ m → (Instr.sliceBound (a.eval x) m code).run P R = .ok n R := by
    intro m code x n k hx hn
    have := getS_ok hE hx
    simp only [conc, Option.some.injEq] at this
    have h2 : (0 : Int) ≤ n ∧ (n : Int) ≤ m := ⟨by omega, by omega⟩
    simp [Instr.sliceBound, ← this, asIntOf, h2]
  cases lo with
  | none =>
    simp only [Bnd] at hl; subst hl
    cases hi with
    | none => simp only [Bnd] at hr; subst hr; simp [Instr.sliceBounds]
    | some y =>
      obtain ⟨k, hy⟩ := hr
      simp only [Instr.sliceBounds, Option.map_none, Option.map_some, Sem.run_bind, Sem.run_pure, Result.andThen_ok, hh cap _ y r k hy hrc]
  | some x =>
    obtain ⟨k, hx⟩ := hl
    cases hi with
    | none =>
      simp only [Bnd] at hr; subst hr
      simp only [Instr.sliceBounds, Option.map_none, Option.map_some, Sem.run_bind, Sem.run_pure, Result.andThen_ok, hh r _ x l k hx hlr]
    | some y =>
      obtain ⟨k2, hy⟩ := hr
      simp only [Instr.sliceBounds, Option.map_none, Option.map_some, Sem.run_bind, Sem.run_pure, Result.andThen_ok, hh cap _ y r k2 hy hrc, hh r _ x l k hx hlr]

/-- 's[lo:hi]' of a string. -/
theorem wp_sstr {o : Oper} {d : Nat} {t : TypeId} {x : Operand} {s : ByteArray} {lo hi : Option Operand} (l r : Nat) (he : ev P F 100000 todo env own = .raw o ⟨td, en, ow⟩) (hd : o.dst = some d) (ho : o.op = .slice t x lo hi none)
    (hx : getS en x = some (.v (.string s))) (hu : P.underlying t = some .string) (hl : Bnd en lo 0 l) (hr : Bnd en hi s.size r) (hlr : l ≤ r) (hrs : r ≤ s.size)
    (hk : WP P f F K ⟨td, (d, .v (.string (s.extract l r))) :: en, ow⟩ h) : WP P f F K ⟨todo, env, own⟩ h := by
  refine wp_raw he hd (fun a hE R fr hG => ?_) hk
  have h1 := getS_ok hE hx
  simp only [conc, Option.some.injEq] at h1
  simp only [execOp, ho, ← h1, Instr.sliceAt, Instr.slice, Sem.run_bind, run_underlying hu, Result.andThen_ok, Option.map_none, Option.isSome_none, Bool.false_eq_true, if_false, Sem.run_pure, run_bounds hE false hl hr hlr hrs]

/-- 's[lo:hi]' of a slice. -/
theorem wp_ssl {o : Oper} {d : Nat} {t e : TypeId} {x : Operand} {A : Option Addr} {n c : Nat} {lo hi : Option Operand} {i : TypeInfo} (l r : Nat) (he : ev P F 100000 todo env own = .raw o ⟨td, en, ow⟩) (hd : o.dst = some d) (ho : o.op = .slice t x lo hi none)
    (hx : getS en x = some (.v (.slice A n c))) (hu : P.underlying t = some (.slice e)) (hi' : P.info? e = some i) (hl : Bnd en lo 0 l) (hr : Bnd en hi n r) (hlr : l ≤ r) (hrs : r ≤ c)
    (hk : WP P f F K ⟨td, (d, .v (.slice (if c = l then A else A.map (·.add (l * i.size))) (r - l) (c - l))) :: en, ow⟩ h) : WP P f F K ⟨todo, env, own⟩ h := by
  refine wp_raw he hd (fun a hE R fr hG => ?_) hk
  have h1 := getS_ok hE hx
  simp only [conc, Option.some.injEq] at h1
  simp only [execOp, ho, ← h1, Instr.sliceAt, Instr.slice, Sem.run_bind, run_underlying hu, Result.andThen_ok, Option.map_none, info_size hi', Sem.run_pure, run_bounds hE true hl hr hlr hrs]

/-- 's[:hi]' of a slice over an own block. -/
theorem wp_sgs {o : Oper} {d k : Nat} {t e : TypeId} {x : Operand} {B : Blk} {n c : Nat} {hi : Option Operand} {i : TypeInfo} (r : Nat) (he : ev P F 100000 todo env own = .raw o ⟨td, en, ow⟩) (hd : o.dst = some d) (ho : o.op = .slice t x none hi none)
    (hx : getS en x = some (.gs k n c)) (hB : ow[k]? = some B) (hu : P.underlying t = some (.slice e)) (hi' : P.info? e = some i) (hr : Bnd en hi n r) (hrs : r ≤ c)
    (hk : WP P f F K ⟨td, (d, .gs k r c) :: en, ow⟩ h) : WP P f F K ⟨todo, env, own⟩ h := by
  refine StepV.wp he fun a R fr hE hG => ?_
  dsimp only at hE hG
  have h1 := getS_ok hE hx
  simp only [conc, hB, Option.some.injEq] at h1
  refine ⟨.gs k r c, .slice (nulAddr B) r c, R, h, en, ow, ?_, .refl h, hG, hE, by simp only [conc, hB], by rw [hd]; exact hk⟩
  simp only [execOp, ho, ← h1, Instr.sliceAt, Instr.slice, Sem.run_bind, run_underlying hu, Result.andThen_ok, Option.map_none, info_size hi', Sem.run_pure, run_bounds hE true (lo := none) (l := 0) rfl hr (Nat.zero_le r) hrs, Nat.zero_mul, Nat.sub_zero]
  have : (if c = 0 then nulAddr B else (nulAddr B).map (·.add 0)) = nulAddr B := by
    split
    · rfl
    · cases nulAddr B <;> simp [Addr.add]
  have h2 := run_bounds (P := P) (R := R) hE true (lo := none) (l := 0) rfl hr (Nat.zero_le r) hrs
  rw [Option.map_none] at h2
  rw [h2]
  simp only [Result.andThen_ok, Nat.zero_mul, Nat.sub_zero, this]

/-- A range over a string: its begin. -/
theorem wp_range (k : Nat) {o : Oper} {d : Nat} {t : TypeId} {x : Operand} {s : ByteArray} (he : ev P F 100000 todo env own = .raw o ⟨td, en, ow⟩) (hd : o.dst = some d) (ho : o.op = .range t x) (hk0 : ow.length = k)
    (hx : getS en x = some (.v (.string s))) (hu : P.underlying t = some .string) (hk : ∀ b, WP P f F K ⟨td, (d, .loc k 0) :: en, ow ++ [⟨b, false, true, .obj (.stringIter s 0)⟩]⟩ h) : WP P f F K ⟨todo, env, own⟩ h := by
  subst hk0
  refine StepV.wp he fun a R fr hE hG => ?_
  dsimp only at hE hG
  have h1 := getS_ok hE hx
  simp only [conc, Option.some.injEq] at h1
  refine ⟨.loc ow.length 0, .pointer (some ⟨R.heap.size, 0, none⟩), R.alloc (.stringIter s 0), h, en, _, ?_, .refl h, hG.alloc (.obj (.stringIter s 0)), hE.keeps (conc_append _), ?_, by rw [hd]; exact hk _⟩
  · simp only [execOp, ho, ← h1, Instr.range, Sem.run_bind, run_underlying hu, Result.andThen_ok, Sem.run_pure, run_newObj]; rfl
  · simp [conc]

/-- A range over a string: the next character. -/
theorem wp_next {o : Oper} {d k id pos : Nat} {nu : Bool} {x : Operand} {s : ByteArray} {ow' : List Blk} (he : ev P F 100000 todo env own = .raw o ⟨td, en, ow⟩) (hd : o.dst = some d) (ho : o.op = .next x true)
    (hx : getS en x = some (.loc k 0)) (hB : ow[k]? = some ⟨id, nu, true, .obj (.stringIter s pos)⟩) (hp : pos < s.size) (hs : setBodyF ow k (.obj (.stringIter s (pos + (Utf8.decode s pos).2))) = some ow')
    (hk : WP P f F K ⟨td, (d, .v (.tuple ⟨[.bool true, .int .i64 pos, .int .i32 (Utf8.decode s pos).1]⟩)) :: en, ow'⟩ h) : WP P f F K ⟨todo, env, own⟩ h := by
  rw [setBodyF_eq] at hs; cases hs
  refine StepV.wp he fun a R fr hE hG => ?_
  dsimp only at hE hG
  have h1 := getS_ok hE hx
  simp only [conc, hB, Option.some.injEq] at h1
  have hm := (hG.ownOk _ (List.mem_of_getElem? hB) rfl).1
  dsimp only [Body.toObj] at hm
  have hlt := some_lt hm
  refine ⟨.v _, .tuple ⟨[.bool true, .int .i64 pos, .int .i32 (Utf8.decode s pos).1]⟩, { R with heap := R.heap.setIfInBounds id (.stringIter s (pos + (Utf8.decode s pos).2)) }, h, en, _, ?_, .refl h, ?_, ?_, rfl, by rw [hd]; exact hk⟩
  · have hg : (getObj id).run P R = .ok (.stringIter s pos) R := by simp [getObj, Sem.run, hm]
    have hs : ∀ o', (setObj id o').run P R = .ok () { R with heap := R.heap.setIfInBounds id o' } := by intro o'; simp [setObj, Sem.run, hm]
    simp only [execOp, ho, ← h1, Instr.next, Sem.run_bind, hg, Result.andThen_ok, hp, if_true, hs, Sem.run_pure]
    rfl
  · rw [setBody_eq _ hB]
    refine hG.set hB rfl _ rfl rfl ?_ ?_
    · simp [hlt, Body.toObj]
    · intro b hb; simp [Array.getElem?_setIfInBounds, Ne.symm hb]
  · intro i y hy
    obtain ⟨v, q1, q2⟩ := hE i y hy
    exact ⟨v, by rw [setBody_eq _ hB, conc_set _ hB]; exact q1, q2⟩

theorem wp_over {o : Oper} {d k id pos : Nat} {nu : Bool} {x : Operand} {s : ByteArray} (he : ev P F 100000 todo env own = .raw o ⟨td, en, ow⟩) (hd : o.dst = some d) (ho : o.op = .next x true)
    (hx : getS en x = some (.loc k 0)) (hB : ow[k]? = some ⟨id, nu, true, .obj (.stringIter s pos)⟩) (hp : ¬ pos < s.size)
    (hk : WP P f F K ⟨td, (d, .v (.tuple ⟨[.bool false]⟩)) :: en, ow⟩ h) : WP P f F K ⟨todo, env, own⟩ h := by
  refine wp_raw he hd (fun a hE R fr hG => ?_) hk
  have h1 := getS_ok hE hx
  simp only [conc, hB, Option.some.injEq] at h1
  have hm := (hG.ownOk _ (List.mem_of_getElem? hB) rfl).1
  dsimp only [Body.toObj] at hm
  have hg : (getObj id).run P R = .ok (.stringIter s pos) R := by simp [getObj, Sem.run, hm]
  simp only [execOp, ho, ← h1, Instr.next, Sem.run_bind, hg, Result.andThen_ok, hp, if_false, Sem.run_pure]
end Go.Vc
/- A region whose order Go leaves open, where all that it does is to read and to call what changes nothing. No condition. -/
namespace Go.Vc
set_option linter.unusedVariables false
set_option linter.unusedSimpArgs false

variable {P : Program} {f : FuncId} {F : Func} {K : Post} {h : PHeap}
variable {todo td : List It} {env en : Env} {own ow : List Blk}

inductive QEv where
  | done (env : Env)
  | ev (e : Ev) (l : List Nat) (env : Env)
  | br (b : Bool) (t : Nat) (l : List Nat) (env : Env)
  | raw (o : Oper) (l : List Nat) (env : Env)
  | stuck (n : Nat)

/-- The region's operations in the text's order. -/
def qev (P : Program) (F : Func) (p : List Nat) (own : List Blk) : Nat → List Nat → Env → QEv
  | 0, _, _ => .stuck 200
  | n + 1, l, env => match l with
    | [] => .done env
    | i :: l => match (opsAt F p)[i]? with
      | none => .stuck 201
      | some o => match okDst F.ntmps o.dst with
        | false => .stuck 202
        | true => match guardF (opsAt F p) o env with
          | .bad => .stuck 203
          | .no => match o.dst with
            | some d => qev P F p own n l ((d, .v undef) :: env)
            | none => qev P F p own n l env
          | .ask t b => .br b t (i :: l) env
          | .yes => match evOp P o env own ⟨[], env, own⟩ ⟨[], env, own⟩ with
            | .set x own' => match o.dst with
              | some d => qev P F p own n l ((d, x) :: env)
              | none => qev P F p own n l env
            | .skip _ => .stuck 204
            | .ev e => .ev e l env
            | .raw => .raw o l env
            | .bad m => .stuck m

def getOps (F : Func) (p : List Nat) : List Nat → List Oper
  | [] => []
  | i :: l => match (opsAt F p)[i]? with
    | some o => o :: getOps F p l
    | none => getOps F p l

theorem getOps_range {F : Func} {p : List Nat} : getOps F p (List.range (opsAt F p).size) = (opsAt F p).toList := by
  have key : ∀ (n k : Nat), k + n = (opsAt F p).size → getOps F p (List.range' k n) = (opsAt F p).toList.drop k := by
    intro n
    induction n with
    | zero => intro k hk; simp [getOps]; omega
    | succ n ih =>
      intro k hk
      have hlt : k < (opsAt F p).size := by omega
      simp only [List.range'_succ, getOps, Array.getElem?_eq_getElem hlt]
      rw [ih (k + 1) (by omega), List.drop_eq_getElem_cons (i := k) (l := (opsAt F p).toList) (by simpa using hlt)]
      simp
  rw [List.range_eq_range', key _ 0 (by omega)]; simp

/-- The rest of the region, in the text's order, comes to Kq. -/
def DQ (P : Program) (F : Func) (p : List Nat) (h : PHeap) (own : List Blk) (Kq : Env → Prop) (l : List Nat) (env : Env) : Prop :=
  ∀ (a : Act) (fr : Frm), EnvOK a env own → a.tmps.size = F.ntmps → a.defers = [] →
    wpQuiet P (opsAt F p) (fun R => Good R h own fr) (fun a' => ∃ env', Kq env' ∧ EnvOK a' env' own ∧ a'.tmps.size = F.ntmps ∧ a'.defers = []) (getOps F p l) a

variable {p : List Nat} {Kq : Env → Prop} {l l' : List Nat}

theorem DQ.value {i : Nat} {o : Oper} {x : SV} (ho : (opsAt F p)[i]? = some o) (hd : okDst F.ntmps o.dst = true) (hg : ∀ a, EnvOK a env own → Region.wanted o (yielded (opsAt F p) a.tmps) = true)
    (hv : ∀ a, EnvOK a env own → ∃ v, conc own x = some v ∧ ∀ (R : World) (fr : Frm), Good R h own fr → o.quietAt P a (fun R => Good R h own fr) R v)
    (hk : DQ P F p h own Kq l (match o.dst with | some d => (d, x) :: env | none => env)) : DQ P F p h own Kq (i :: l) env := by
  intro a fr hE hsz hdf
  simp only [getOps, ho]
  unfold wpQuiet
  rw [if_pos (hg a hE)]
  obtain ⟨v, hx, hq⟩ := hv a hE
  refine ⟨v, fun R hR => hq R fr hR, ?_⟩
  cases hdd : o.dst with
  | none => rw [hdd] at hk; exact hk _ fr (by simpa [Act.put] using hE) (by simpa [Act.put] using hsz) (by simpa [Act.put] using hdf)
  | some d =>
    rw [hdd] at hk hd
    have hlt : d < a.tmps.size := by rw [hsz]; simpa [okDst, Nat.blt_eq] using hd
    exact hk _ fr (hE.put hx hlt) (by simpa [Act.put] using hsz) (by simpa [Act.put] using hdf)

def QOK (P : Program) (F : Func) (p : List Nat) (h : PHeap) (own : List Blk) (Kq : Env → Prop) : QEv → Prop
  | .done env => Kq env
  | .br b t l env => (b = true → DQ P F p h own Kq l ((t, .tt) :: env)) ∧ (b = false → DQ P F p h own Kq l ((t, .ff) :: env))
  | .ev e l env => match e with
    | .load n q d _ => match d with
      | none => False
      | some d => match n with
        | none => ∃ v, HCell h q v ∧ DQ P F p h own Kq l ((d, .v v) :: env)
        | some m => ∃ vs, vs.length = m ∧ HCells h q vs ∧ DQ P F p h own Kq l ((d, .v (.agg ⟨vs⟩)) :: env)
    | .loadx k off n d _ => match d, n with
      | some d, none => ∃ B c ty v, own[k]? = some B ∧ B.live = true ∧ B.body = .cells c ty ∧ c[off]? = some v ∧ DQ P F p h own Kq l ((d, .v v) :: env)
      | _, _ => False
    | .need φ x d _ => match d with
      | none => False
      | some d => φ ∧ DQ P F p h own Kq l ((d, .v x) :: env)
    | .idx A n i size d _ => match d with
      | none => False
      | some d => ∃ ad, A = some ad ∧ 0 ≤ i ∧ i < n ∧ DQ P F p h own Kq l ((d, .v (.pointer (some (ad.add (i.toNat * size))))) :: env)
    | .idxo k off n i size d _ => match d with
      | none => False
      | some d => 0 ≤ i ∧ i < n ∧ DQ P F p h own Kq l ((d, .locx k (off + i.toNat * size)) :: env)
    | .idxg k n i size d _ => match d with
      | none => False
      | some d => (∃ B, own[k]? = some B ∧ B.nul = false) ∧ 0 ≤ i ∧ i < n ∧ DQ P F p h own Kq l ((d, .locx k (i.toNat * size)) :: env)
    | .call g args d _ => match d with
      | none => False
      | some d => ∃ v, Pure P g args h (fun u _ => u = v) ∧ DQ P F p h own Kq l ((d, .v v) :: env)
    | _ => False
  | .raw o l env => ∃ d v, o.dst = some d ∧ (∀ a, EnvOK a env own → ∀ (R : World) (fr : Frm), Good R h own fr → (execOp a.eval o).run P R = .ok (.value v) R) ∧ DQ P F p h own Kq l ((d, .v v) :: env)
  | .stuck _ => False

theorem quiet_of_run {o : Oper} {a : Act} {C : World → Prop} {R : World} {v : Value} (hr : (execOp a.eval o).run P R = .ok (.value v) R) : o.quietAt P a C R v := by
  unfold Oper.quietAt; rw [hr]; exact ⟨rfl, rfl⟩

theorem Good.le {R : World} {h' : PHeap} {fr : Frm} (g : Good R h' own fr) (hle : h.le h') : Good R h own fr := by
  have key : ∀ b, h' b = none → h b = none := fun b hb => by
    cases e : h b with
    | none => rfl
    | some o => rw [hle _ _ e] at hb; cases hb
  exact ⟨fun b o e => g.heapOk b o (hle b o e), fun B hB hl => ⟨(g.ownOk B hB hl).1, key _ (g.ownOk B hB hl).2.1, (g.ownOk B hB hl).2.2⟩, fun b o e => ⟨(g.frameOk b o e).1, key _ (g.frameOk b o e).2⟩, g.apart, g.stays⟩

theorem dq_of_qev : ∀ (n : Nat) (l : List Nat) (env : Env), QOK P F p h own Kq (qev P F p own n l env) → DQ P F p h own Kq l env := by
  intro n
  induction n with
  | zero => intro l env hk; exact hk.elim
  | succ n ih =>
    intro l env hk
    cases l with
    | nil => intro a fr hE hsz hdf; exact ⟨env, hk, hE, hsz, hdf⟩
    | cons i l =>
      simp only [qev] at hk
      split at hk
      · exact hk.elim
      · rename_i o ho
        split at hk
        · exact hk.elim
        · rename_i hdst
          split at hk
          · exact hk.elim
          · rename_i hg
            have hnw := guardF_no (own := own) hg
            intro a fr hE hsz hdf
            simp only [getOps, ho]
            unfold wpQuiet
            rw [if_neg (by rw [hnw a hE]; decide)]
            split at hk
            · rename_i d hd'
              rw [hd'] at hdst
              have hlt : d < a.tmps.size := by rw [hsz]; simpa [okDst, Nat.blt_eq] using hdst
              rw [hd']
              exact ih _ _ hk _ fr (EnvOK.put (x := .v undef) hE rfl hlt) (by simpa [Act.put] using hsz) (by simpa [Act.put] using hdf)
            · rename_i hd'
              rw [hd']
              exact ih _ _ hk _ fr (by simpa [Act.put] using hE) (by simpa [Act.put] using hsz) (by simpa [Act.put] using hdf)
          · rename_i t b hg
            intro a fr hE hsz hdf
            have hj := guardF_ask hg a hE
            cases b with
            | true => exact hk.1 rfl a fr (hE.bool hj rfl) hsz hdf
            | false => exact hk.2 rfl a fr (hE.bool hj rfl) hsz hdf
          · rename_i hg
            have hw := guardF_yes (own := own) hg
            split at hk
            · rename_i x own' he
              refine DQ.value (x := x) ho hdst hw (fun a hE => ?_) ?_
              · obtain ⟨_, v, hv, hr⟩ := evOp_set he hE
                exact ⟨v, hv, fun R fr hG => quiet_of_run (hr R h fr hG)⟩
              · split at hk
                · exact ih _ _ hk
                · exact ih _ _ hk
            · exact hk.elim
            · rename_i e he
              have hes := fun a hE => evOp_ev (a := a) (s0 := ⟨[], env, own⟩) (own := own) rfl he hE
              cases e with
              | load m q d s =>
                simp only [QOK] at hk
                split at hk
                · exact hk.elim
                · rename_i d
                  cases m with
                  | none =>
                    obtain ⟨v, hc, hk⟩ := hk
                    have hdd : ∀ a, EnvOK a env own → some d = o.dst := fun a hE => (hes a hE).1
                    refine fun a fr hE hsz hdf => DQ.value (x := .v v) ho hdst hw (fun a hE => ⟨v, rfl, fun R fr hG => quiet_of_run ((hes a hE).2.2 R v (hc.cell hG))⟩) (by rw [← hdd a hE]; exact hk) a fr hE hsz hdf
                  | some m =>
                    obtain ⟨vs, hl, hc, hk⟩ := hk
                    have hdd : ∀ a, EnvOK a env own → some d = o.dst := fun a hE => (hes a hE).1
                    refine fun a fr hE hsz hdf => DQ.value (x := .v (.agg ⟨vs⟩)) ho hdst hw (fun a hE => ⟨_, rfl, fun R fr hG => quiet_of_run ((hes a hE).2.2 R vs hl (fun j v hj => (hc j v hj).cell hG))⟩) (by rw [← hdd a hE]; exact hk) a fr hE hsz hdf
              | loadx k off m d s =>
                simp only [QOK] at hk
                split at hk
                · rename_i d
                  obtain ⟨B, c, ty, v, hB, hl, hb, hv, hk⟩ := hk
                  have hdd : ∀ a, EnvOK a env own → some d = o.dst := fun a hE => (hes a hE).1
                  refine fun a fr hE hsz hdf => DQ.value (x := .v v) ho hdst hw (fun a hE => ⟨v, rfl, fun R fr hG => quiet_of_run ?_⟩) (by rw [← hdd a hE]; exact hk) a fr hE hsz hdf
                  obtain ⟨_, _, B', hB', hr⟩ := hes a hE
                  rw [hB] at hB'; cases hB'
                  exact hr R v (by rw [hG.cellAt hB hl hb]; exact hv)
                · exact hk.elim
              | need φ x d s =>
                simp only [QOK] at hk
                split at hk
                · exact hk.elim
                · rename_i d
                  have hdd : ∀ a, EnvOK a env own → some d = o.dst := fun a hE => (hes a hE).1
                  exact fun a fr hE hsz hdf => DQ.value (x := .v x) ho hdst hw (fun a hE => ⟨x, rfl, fun R fr hG => quiet_of_run ((hes a hE).2.2 hk.1 R)⟩) (by rw [← hdd a hE]; exact hk.2) a fr hE hsz hdf
              | idx A m j size d s =>
                simp only [QOK] at hk
                split at hk
                · exact hk.elim
                · rename_i d
                  obtain ⟨ad, hA, g0, g1, hk⟩ := hk
                  have hdd : ∀ a, EnvOK a env own → some d = o.dst := fun a hE => (hes a hE).1
                  exact fun a fr hE hsz hdf => DQ.value (x := .v _) ho hdst hw (fun a hE => ⟨_, rfl, fun R fr hG => quiet_of_run ((hes a hE).2.2 ad hA g0 g1 R)⟩) (by rw [← hdd a hE]; exact hk) a fr hE hsz hdf
              | idxo k off m j size d s =>
                simp only [QOK] at hk
                split at hk
                · exact hk.elim
                · rename_i d
                  obtain ⟨g0, g1, hk⟩ := hk
                  have hdd : ∀ a, EnvOK a env own → some d = o.dst := fun a hE => (hes a hE).1
                  refine fun a fr hE hsz hdf => DQ.value (x := .locx k _) ho hdst hw (fun a hE => ?_) (by rw [← hdd a hE]; exact hk) a fr hE hsz hdf
                  obtain ⟨_, _, B, hB, hr⟩ := hes a hE
                  exact ⟨_, by simp only [conc, hB], fun R fr hG => quiet_of_run (hr g0 g1 R)⟩
              | idxg k m j size d s =>
                simp only [QOK] at hk
                split at hk
                · exact hk.elim
                · rename_i d
                  obtain ⟨⟨B', hB', hn⟩, g0, g1, hk⟩ := hk
                  have hdd : ∀ a, EnvOK a env own → some d = o.dst := fun a hE => (hes a hE).1
                  refine fun a fr hE hsz hdf => DQ.value (x := .locx k _) ho hdst hw (fun a hE => ?_) (by rw [← hdd a hE]; exact hk) a fr hE hsz hdf
                  obtain ⟨_, _, B, hB, hr⟩ := hes a hE
                  rw [hB] at hB'; cases hB'
                  exact ⟨_, by simp only [conc, hB], fun R fr hG => quiet_of_run (hr hn g0 g1 R)⟩
              | call g args d s =>
                simp only [QOK] at hk
                split at hk
                · exact hk.elim
                · rename_i d
                  obtain ⟨v, hp, hk⟩ := hk
                  have hdd : ∀ a, EnvOK a env own → some d = o.dst := fun a hE => (hes a hE).1
                  refine fun a fr hE hsz hdf => DQ.value (x := .v v) ho hdst hw (fun a hE => ⟨v, rfl, fun R fr hG => ?_⟩) (by rw [← hdd a hE]; exact hk) a fr hE hsz hdf
                  unfold Oper.quietAt
                  rw [(hes a hE).2.2 R, hp.1]
                  refine ⟨rfl, (hp.2 R (frameOf fr own) (Good.frame_in (A := []) hG)).mono ?_⟩
                  rintro e R' ⟨u, h', own', rfl, hle, ⟨rfl, rfl⟩, hG'⟩
                  exact ⟨rfl, (Good.frame_out (A := []) (A' := []) hG hG').le hle⟩
              | _ => exact hk.elim
            · rename_i he
              obtain ⟨d, v, hd', hr, hk⟩ := hk
              refine DQ.value (x := .v v) ho hdst hw (fun a hE => ⟨v, rfl, fun R fr hG => quiet_of_run (hr a hE R fr hG)⟩) ?_
              rw [hd']; exact hk
            · exact hk.elim

/-- The region as a whole. -/
theorem wp_draw {id : Nat} (he : ev P F 100000 todo env own = .draw p ⟨td, en, ow⟩) (hm : P.follows .mixedOrders = true) (hB : Region.lexB .any (opsAt F p) = true) (hr : sub (bodyOf F) p = .region id (opsAt F p) true)
    (hq : DQ P F p h ow (fun env' => WP P f F K ⟨td, env', ow⟩ h) (List.range (opsAt F p).size) en) : WP P f F K ⟨todo, env, own⟩ h := by
  refine wp_ev he ?_
  intro a R fr cs hd hsz hE hG
  have h1 := hq a fr hE hsz hd
  rw [getOps_range] at h1
  have h2 := wp_region_quiet (id := id) (C := fun R => Good R h ow fr) (a := a) (w := R) (Q := fun e a' w' => e = .normal ∧ ∃ env', WP P f F K ⟨td, env', ow⟩ h ∧ EnvOK a' env' ow ∧ a'.tmps.size = F.ntmps ∧ a'.defers = [] ∧ Good w' h ow fr)
    hm hB (hG.mono_world ⟨rfl, rfl⟩ fun b o e => e) (by
      have : (fun a' => ∃ env', WP P f F K ⟨td, env', ow⟩ h ∧ EnvOK a' env' ow ∧ a'.tmps.size = F.ntmps ∧ a'.defers = []) = (fun a' => ∃ env', WP P f F K ⟨td, env', ow⟩ h ∧ EnvOK a' env' ow ∧ a'.tmps.size = F.ntmps ∧ a'.defers = []) := rfl
      have mono : ∀ (l : List Oper) (a : Act), wpQuiet P (opsAt F p) (fun R => Good R h ow fr) (fun a' => ∃ env', WP P f F K ⟨td, env', ow⟩ h ∧ EnvOK a' env' ow ∧ a'.tmps.size = F.ntmps ∧ a'.defers = []) l a →
          wpQuiet P (opsAt F p) (fun R => Good R h ow fr) (fun a' => ∀ w', Good w' h ow fr → (Exit.normal = .normal ∧ ∃ env', WP P f F K ⟨td, env', ow⟩ h ∧ EnvOK a' env' ow ∧ a'.tmps.size = F.ntmps ∧ a'.defers = [] ∧ Good w' h ow fr)) l a := by
        intro l
        induction l with
        | nil => intro a ⟨env', q1, q2, q3, q4⟩ w' hw'; exact ⟨rfl, env', q1, q2, q3, q4, hw'⟩
        | cons o l ih =>
          intro a hh
          unfold wpQuiet at hh ⊢
          split
          · rename_i hw; rw [if_pos hw] at hh; exact Oper.quiet_mono (ih) hh
          · rename_i hw; rw [if_neg hw] at hh; exact ih _ hh
      exact mono _ _ h1)
  obtain ⟨e, a', w', ⟨rfl, env', q1, q2, q3, q4, q5⟩, harr⟩ := h2 (base f) (td.map (It.item F)) cs
  refine Done.steps (m' := lone ((base f).at a' (td.map (It.item F))) cs w') ?_ (q1 a' w' fr cs q4 q3 q2 q5)
  have := harr
  simp only [Arrives] at this
  simpa [It.item, hr] using this

section
variable {d : Nat} {s : St}
theorem dq_done (he : qev P F p own 10000 l env = .done en) (hk : Kq en) : DQ P F p h own Kq l env := dq_of_qev 10000 l env (by rw [he]; exact hk)
theorem dq_brT {b : Bool} {t : Nat} (he : qev P F p own 10000 l env = .br b t l' en) (hb : b = true) (hk : DQ P F p h own Kq l' ((t, .tt) :: en)) : DQ P F p h own Kq l env := dq_of_qev 10000 l env (by rw [he]; exact ⟨fun _ => hk, fun h2 => by rw [hb] at h2; exact absurd h2 (by decide)⟩)
theorem dq_brF {b : Bool} {t : Nat} (he : qev P F p own 10000 l env = .br b t l' en) (hb : b = false) (hk : DQ P F p h own Kq l' ((t, .ff) :: en)) : DQ P F p h own Kq l env := dq_of_qev 10000 l env (by rw [he]; exact ⟨fun h2 => by rw [hb] at h2; exact absurd h2 (by decide), fun _ => hk⟩)
theorem dq_load {q : Addr} {v : Value} (he : qev P F p own 10000 l env = .ev (.load none q (some d) s) l' en) (hc : HCell h q v) (hk : DQ P F p h own Kq l' ((d, .v v) :: en)) : DQ P F p h own Kq l env := dq_of_qev 10000 l env (by rw [he]; exact ⟨v, hc, hk⟩)
theorem dq_loads {q : Addr} {m : Nat} {vs : List Value} (he : qev P F p own 10000 l env = .ev (.load (some m) q (some d) s) l' en) (hl : vs.length = m) (hc : HCells h q vs) (hk : DQ P F p h own Kq l' ((d, .v (.agg ⟨vs⟩)) :: en)) : DQ P F p h own Kq l env := dq_of_qev 10000 l env (by rw [he]; exact ⟨vs, hl, hc, hk⟩)
theorem dq_loadx {k off : Nat} {B : Blk} {c : List Value} {ty : TypeId} {v : Value} (he : qev P F p own 10000 l env = .ev (.loadx k off none (some d) s) l' en) (hB : own[k]? = some B) (hl : B.live = true) (hb : B.body = .cells c ty) (hv : c[off]? = some v) (hk : DQ P F p h own Kq l' ((d, .v v) :: en)) : DQ P F p h own Kq l env :=
  dq_of_qev 10000 l env (by rw [he]; exact ⟨B, c, ty, v, hB, hl, hb, hv, hk⟩)
theorem dq_need {φ : Prop} {x : Value} (he : qev P F p own 10000 l env = .ev (.need φ x (some d) s) l' en) (hφ : φ) (hk : DQ P F p h own Kq l' ((d, .v x) :: en)) : DQ P F p h own Kq l env := dq_of_qev 10000 l env (by rw [he]; exact ⟨hφ, hk⟩)
theorem dq_idx {A : Option Addr} {n : Nat} {i : Int} {size : Nat} (ad : Addr) (he : qev P F p own 10000 l env = .ev (.idx A n i size (some d) s) l' en) (hA : A = some ad) (h0 : 0 ≤ i) (h1 : i < n) (hk : DQ P F p h own Kq l' ((d, .v (.pointer (some (ad.add (i.toNat * size))))) :: en)) : DQ P F p h own Kq l env :=
  dq_of_qev 10000 l env (by rw [he]; exact ⟨ad, hA, h0, h1, hk⟩)
theorem dq_idxo {k off n : Nat} {i : Int} {size : Nat} (he : qev P F p own 10000 l env = .ev (.idxo k off n i size (some d) s) l' en) (h0 : 0 ≤ i) (h1 : i < n) (hk : DQ P F p h own Kq l' ((d, .locx k (off + i.toNat * size)) :: en)) : DQ P F p h own Kq l env :=
  dq_of_qev 10000 l env (by rw [he]; exact ⟨h0, h1, hk⟩)
theorem dq_idxg {k n : Nat} {i : Int} {size : Nat} {B : Blk} (he : qev P F p own 10000 l env = .ev (.idxg k n i size (some d) s) l' en) (hB : own[k]? = some B) (hn : B.nul = false) (h0 : 0 ≤ i) (h1 : i < n) (hk : DQ P F p h own Kq l' ((d, .locx k (i.toNat * size)) :: en)) : DQ P F p h own Kq l env :=
  dq_of_qev 10000 l env (by rw [he]; exact ⟨⟨B, hB, hn⟩, h0, h1, hk⟩)
theorem dq_pure {g : FuncId} {args : List Value} {v : Value} (he : qev P F p own 10000 l env = .ev (.call g args (some d) s) l' en) (hc : Pure P g args h (fun u _ => u = v)) (hk : DQ P F p h own Kq l' ((d, .v v) :: en)) : DQ P F p h own Kq l env :=
  dq_of_qev 10000 l env (by rw [he]; exact ⟨v, hc, hk⟩)
theorem dq_raw {o : Oper} {v : Value} (he : qev P F p own 10000 l env = .raw o l' en) (hd : o.dst = some d) (hr : ∀ a, EnvOK a en own → ∀ (R : World) (fr : Frm), Good R h own fr → (execOp a.eval o).run P R = .ok (.value v) R) (hk : DQ P F p h own Kq l' ((d, .v v) :: en)) : DQ P F p h own Kq l env :=
  dq_of_qev 10000 l env (by rw [he]; exact ⟨d, v, hd, hr, hk⟩)
end
end Go.Vc
/- A region whose order Go leaves open, with calls that make memory: whatever is only read may be read first. No condition. -/
namespace Go.Vc
set_option linter.unusedVariables false
set_option linter.unusedSimpArgs false

variable {P : Program} {f : FuncId} {F : Func} {K : Post} {h : PHeap}
variable {todo td : List It} {env en : Env} {own ow : List Blk} {p : List Nat}

/-- 0: it only reads; 1: it makes memory, and changes none; 2: it changes something. -/
def clsOf (o : Oper) : Nat := match o.op with
  | .assign _ => 2
  | .store _ _ _ => 2
  | .call c => match c.callee with
    | .value _ => 1
    | .builtin b => match b with
      | .len => 0
      | .min => 0
      | .max => 0
      | _ => 2
    | _ => 2
  | .alloc _ => 1
  | .box _ _ => 1
  | .buildSlice _ _ _ => 1
  | .mapUpdate _ _ _ _ => 2
  | .mapEntry _ _ _ => 2
  | .entryStore _ _ _ _ => 2
  | .next _ _ => 2
  | .select _ _ => 2
  | _ => 0

def predsOf (ops : Array Oper) (j : Nat) : List Nat := match ops[j]? with
  | some o => o.after.toList.filterMap fun e => match Region.binds .any e with
    | true => some e.on
    | false => none
  | none => []

/-- Is i ahead of j, whatever the order? -/
def aheadB (ops : Array Oper) : Nat → Nat → Nat → Bool
  | 0, _, _ => false
  | n + 1, j, i => (predsOf ops j).any (fun k => Nat.beq k i) || (predsOf ops j).any (fun k => aheadB ops n k i)

inductive Ahead (ops : Array Oper) : Nat → Nat → Prop
  | one {j i : Nat} : i ∈ predsOf ops j → Ahead ops j i
  | more {j k i : Nat} : k ∈ predsOf ops j → Ahead ops k i → Ahead ops j i

theorem aheadB_ok {ops : Array Oper} : ∀ {n j i : Nat}, aheadB ops n j i = true → Ahead ops j i := by
  intro n
  induction n with
  | zero => intro j i h; cases h
  | succ n ih =>
    intro j i h
    simp only [aheadB, Bool.or_eq_true, List.any_eq_true] at h
    rcases h with ⟨k, hk, he⟩ | ⟨k, hk, he⟩
    · have := Nat.eq_of_beq_eq_true he; subst this; exact .one hk
    · exact .more hk (ih he)

def looksB (ops : Array Oper) (j d : Nat) : Bool := match ops[j]? with
  | some q => (q.looksAt ops).contains d
  | none => true

def dstIs (ops : Array Oper) (j d : Nat) : Bool := match ops[j]? with
  | some q => decide (q.dst = some d)
  | none => true

/-- What looks at no memory at all. -/
def freeB (o : Oper) : Bool := match o.op with
  | .move _ => true
  | .binOp op _ _ _ _ => match op with
    | .add => true
    | .sub => true
    | _ => false
  | _ => false

/-- May j, told ahead of i, be carried out behind it? -/
def freeAt (ops : Array Oper) (i j : Nat) : Bool := match ops[j]? with
  | some q => freeB q && (match q.dst with
    | some d => !looksB ops i d && !dstIs ops i d
    | none => false) && (match ops[i]? with
    | some o => match o.dst with
      | some d => !looksB ops j d
      | none => true
    | none => false)
  | none => false

/-- What of a region's form is asked, for the order l in which it is told. -/
def formB (ops : Array Oper) : List Nat → List Nat → Bool
  | _, [] => true
  | done, i :: l => match ops[i]? with
    | none => false
    | some o =>
      !done.contains i && !l.contains i && (predsOf ops i).all (fun k => done.contains k) &&
      (match clsOf o with
       | 2 => (l.all fun j => aheadB ops ops.size j i) && (done.all fun j => aheadB ops ops.size i j || freeAt ops i j)
       | c => (match o.dst with
          | none => false
          | some d => (done.all fun j => !looksB ops j d && !dstIs ops j d) && !looksB ops i d && (l.all fun j => (!looksB ops j d || aheadB ops ops.size j i) && !dstIs ops j d)) &&
         (match c with
          | 0 => true
          | _ => l.all fun j => aheadB ops ops.size j i)) &&
      formB ops (i :: done) l

structure Form (ops : Array Oper) (done : List Nat) (i : Nat) (l : List Nat) (o : Oper) : Prop where
  notDone : i ∉ done
  notLater : i ∉ l
  preds : ∀ k ∈ predsOf ops i, k ∈ done
  two : clsOf o = 2 → (∀ j ∈ l, Ahead ops j i) ∧ (∀ j ∈ done, Ahead ops i j ∨ ∃ q d, ops[j]? = some q ∧ freeB q = true ∧ q.dst = some d ∧ d ∉ o.looksAt ops ∧ o.dst ≠ some d ∧ ∀ e, o.dst = some e → e ∉ q.looksAt ops)
  one : clsOf o = 1 → ∀ j ∈ l, Ahead ops j i
  free : clsOf o ≠ 2 → ∃ d, o.dst = some d ∧ (∀ j ∈ done, ∀ q, ops[j]? = some q → d ∉ q.looksAt ops ∧ q.dst ≠ some d) ∧ d ∉ o.looksAt ops ∧
    (∀ j ∈ l, ∀ q, ops[j]? = some q → (d ∈ q.looksAt ops → Ahead ops j i) ∧ q.dst ≠ some d)
  rest : formB ops (i :: done) l = true

theorem clsOf_le (o : Oper) : clsOf o = 0 ∨ clsOf o = 1 ∨ clsOf o = 2 := by
  unfold clsOf
  split <;> first
    | exact .inl rfl
    | exact .inr (.inl rfl)
    | exact .inr (.inr rfl)
    | (split <;> first
        | exact .inl rfl
        | exact .inr (.inl rfl)
        | exact .inr (.inr rfl)
        | (split <;> first
            | exact .inl rfl
            | exact .inr (.inl rfl)
            | exact .inr (.inr rfl)))

theorem form_ok {ops : Array Oper} {done : List Nat} {i : Nat} {l : List Nat} {o : Oper} (ho : ops[i]? = some o) (h : formB ops done (i :: l) = true) : Form ops done i l o := by
  simp only [formB, ho, Bool.and_eq_true, Bool.not_eq_true', List.contains_eq_mem, decide_eq_false_iff_not, List.all_eq_true, decide_eq_true_eq] at h
  obtain ⟨⟨⟨⟨h1, h2⟩, h3⟩, h4⟩, h5⟩ := h
  rcases clsOf_le o with hc | hc | hc
  · rw [hc] at h4
    simp only [Bool.and_eq_true] at h4
    cases hd : o.dst with
    | none => rw [hd] at h4; simp at h4
    | some d =>
      rw [hd] at h4
      simp only [Bool.and_eq_true, List.all_eq_true, Bool.not_eq_true', Bool.or_eq_true] at h4
      obtain ⟨⟨⟨f1, f2⟩, f3⟩, _⟩ := h4
      refine ⟨h1, h2, h3, fun e => by omega, fun e => by omega, fun _ => ⟨d, hd, ?_, ?_, ?_⟩, h5⟩
      · intro j hj q hq; have := f1 j hj; simp only [looksB, dstIs, hq] at this; simpa using this
      · simpa [looksB, ho] using f2
      · intro j hj q hq
        have := f3 j hj
        simp only [looksB, dstIs, hq, List.contains_eq_mem, decide_eq_false_iff_not] at this
        exact ⟨fun hm => aheadB_ok (this.1.resolve_left (fun hn => hn hm)), by simpa using this.2⟩
  · rw [hc] at h4
    simp only [Bool.and_eq_true] at h4
    cases hd : o.dst with
    | none => rw [hd] at h4; simp at h4
    | some d =>
      rw [hd] at h4
      simp only [Bool.and_eq_true, List.all_eq_true, Bool.not_eq_true', Bool.or_eq_true] at h4
      obtain ⟨⟨⟨f1, f2⟩, f3⟩, f4⟩ := h4
      refine ⟨h1, h2, h3, fun e => by omega, fun _ j hj => aheadB_ok (f4 j hj), fun _ => ⟨d, hd, ?_, ?_, ?_⟩, h5⟩
      · intro j hj q hq; have := f1 j hj; simp only [looksB, dstIs, hq] at this; simpa using this
      · simpa [looksB, ho] using f2
      · intro j hj q hq
        have := f3 j hj
        simp only [looksB, dstIs, hq, List.contains_eq_mem, decide_eq_false_iff_not] at this
        exact ⟨fun hm => aheadB_ok (this.1.resolve_left (fun hn => hn hm)), by simpa using this.2⟩
  · rw [hc] at h4
    simp only [Bool.and_eq_true, List.all_eq_true] at h4
    refine ⟨h1, h2, h3, fun _ => ⟨fun j hj => aheadB_ok (h4.1 j hj), fun j hj => ?_⟩, fun e => by omega, fun e => absurd hc e, h5⟩
    have h6 := h4.2 j hj
    rw [Bool.or_eq_true] at h6
    rcases h6 with h6 | h6
    · exact .inl (aheadB_ok h6)
    · right
      unfold freeAt at h6
      split at h6
      · rename_i q hq
        simp only [Bool.and_eq_true] at h6
        obtain ⟨⟨h7, h8⟩, h9⟩ := h6
        split at h8
        · rename_i d hd
          simp only [looksB, dstIs, ho, Bool.and_eq_true, Bool.not_eq_true', List.contains_eq_mem, decide_eq_false_iff_not] at h8 h9
          refine ⟨q, d, hq, h7, hd, h8.1, h8.2, fun e he => ?_⟩
          rw [he] at h9
          simpa [looksB, hq] using h9
        · cases h8
      · cases h6

/-- The rest of the region, told in the order l. -/
def DN (P : Program) (f : FuncId) (F : Func) (K : Post) (p : List Nat) (td : List It) : List Nat → Env → List Blk → PHeap → Prop
  | [], E, own, h => WP P f F K ⟨td, E, own⟩ h
  | i :: l, E0, own, h => ∃ E, (∀ a, EnvOK a E0 own → EnvOK a E own) ∧ ∃ o, (opsAt F p)[i]? = some o ∧ okDst F.ntmps o.dst = true ∧
    ((∃ d, o.dst = some d ∧ (∀ a, EnvOK a E own → Region.wanted o (yielded (opsAt F p) a.tmps) = false) ∧ clsOf o ≠ 2 ∧ DN P f F K p td l ((d, .v undef) :: E) own h) ∨
     ((∀ a, EnvOK a E own → Region.wanted o (yielded (opsAt F p) a.tmps) = true) ∧
      ((∃ d x, o.dst = some d ∧ clsOf o = 0 ∧ (∀ a, EnvOK a E own → ∃ v, conc own x = some v ∧ (∀ (R : World) (fr : Frm), Good R h own fr → (execOp a.eval o).run P R = .ok (.value v) R) ∧ (freeB o = true → ∀ (R : World), (execOp a.eval o).run P R = .ok (.value v) R)) ∧ DN P f F K p td l ((d, x) :: E) own h) ∨
       (∃ d g args, o.dst = some d ∧ clsOf o = 1 ∧ Fine P g ∧ (∀ a, EnvOK a E own → ∀ R, (execOp a.eval o).run P R = (callFunc g args).run P R) ∧ ∀ (R : World) (fr : Frm), Good R h own fr →
          Calls P g args R fun e R' => ∃ v, e = .returned v ∧ ∃ x h' nw, h.le h' ∧ Good R' h' (own ++ nw) fr ∧ conc (own ++ nw) x = some v ∧ DN P f F K p td l ((d, x) :: E) (own ++ nw) h') ∨
       (∃ d, o.dst = some d ∧ clsOf o = 1 ∧ ∀ a, EnvOK a E own → ∀ (R : World) (fr : Frm), Good R h own fr → ∃ v R' x nw, (execOp a.eval o).run P R = .ok (.value v) R' ∧ Good R' h (own ++ nw) fr ∧ conc (own ++ nw) x = some v ∧ DN P f F K p td l ((d, x) :: E) (own ++ nw) h) ∨
       (clsOf o = 2 ∧ ∀ a, EnvOK a E own → a.tmps.size = F.ntmps → ∀ (R : World) (fr : Frm), Good R h own fr → ∃ v R' h' E' own', ((execOp a.eval o).run P R = .ok (.value v) R' ∨ ((execOp a.eval o).run P R = .ok .skip R' ∧ v = undef)) ∧ h.le h' ∧ Good R' h' own' fr ∧
          EnvOK (a.put o.dst v) E' own' ∧ DN P f F K p td l E' own' h'))))

/-- What is told already and not carried out yet. -/
structure Pend where
  idx : Nat
  dst : Nat
  val : Value

def PendOK (P : Program) (ops : Array Oper) (h : PHeap) (own : List Blk) (fr : Frm) (b : Act) (q : Pend) : Prop :=
  ∃ o, ops[q.idx]? = some o ∧ o.dst = some q.dst ∧ clsOf o ≠ 2 ∧ b.tmps[q.dst]? = some q.val ∧
    ((Region.wanted o (yielded ops b.tmps) = true ∧ (∀ (R : World), Good R h own fr → (execOp b.eval o).run P R = .ok (.value q.val) R) ∧ (freeB o = true → ∀ (R : World), (execOp b.eval o).run P R = .ok (.value q.val) R)) ∨
     (Region.wanted o (yielded ops b.tmps) = false ∧ q.val = undef))

theorem no_select {o : Oper} (h : clsOf o ≠ 2) : ∀ cs b, o.op ≠ .select cs b := by
  intro cs b he; unfold clsOf at h; rw [he] at h; exact h rfl

theorem PendOK.put {ops : Array Oper} {fr : Frm} {b : Act} {q : Pend} (hq : PendOK P ops h own fr b q) {d : Nat} {v : Value} (hl : ∀ o, ops[q.idx]? = some o → d ∉ o.looksAt ops) (hne : q.dst ≠ d) : PendOK P ops h own fr (b.put (some d) v) q := by
  obtain ⟨o, h1, h2, h3, h4, h5⟩ := hq
  refine ⟨o, h1, h2, h3, ?_, ?_⟩
  · simp [Act.put, Ne.symm hne, h4]
  · have hd : ∀ d', (some d : Option Nat) = some d' → d' ∉ o.looksAt ops := fun d' he => by cases he; exact hl o h1
    rw [execOp_put o (no_select h3) b (some d) v hd, wanted_put o b (some d) v hd]
    exact h5

theorem PendOK.more {ops : Array Oper} {fr : Frm} {b : Act} {q : Pend} (hq : PendOK P ops h own fr b q) {h' : PHeap} {nw : List Blk} (hle : h.le h') : PendOK P ops h' (own ++ nw) fr b q := by
  obtain ⟨o, h1, h2, h3, h4, h5⟩ := hq
  refine ⟨o, h1, h2, h3, h4, h5.imp (fun ⟨w, r, s⟩ => ⟨w, fun R hG => r R ((hG.take (List.sublist_append_left own nw)).le hle), s⟩) id⟩

/-- The frame as it is and the frame as it is told agree but where something is still to be carried out. -/
def Agree (a b : Act) (D : List Pend) : Prop := a.tmps.size = b.tmps.size ∧ a.defers = [] ∧ b.defers = [] ∧ ∀ t, (∀ q ∈ D, q.dst ≠ t) → a.tmps[t]? = b.tmps[t]?

theorem Agree.eval {ops : Array Oper} {a b : Act} {D : List Pend} (hA : Agree a b D) {o : Oper} (hl : ∀ q ∈ D, q.dst ∉ o.looksAt ops) (hc : ∀ cs b, o.op ≠ .select cs b) :
    execOp a.eval o = execOp b.eval o ∧ Region.wanted o (yielded ops a.tmps) = Region.wanted o (yielded ops b.tmps) := by
  constructor
  · refine execOp_congr o hc fun x hx => ?_
    cases x with
    | tmp t =>
      have : t ∈ o.looksAt ops := List.mem_append_left _ (List.mem_filterMap.2 ⟨.tmp t, by simpa using hx, rfl⟩)
      have h1 := hA.2.2.2 t (fun q hq he => hl q hq (he ▸ this))
      simp only [Act.eval, Array.getD_eq_getD_getElem?, h1]
    | const v => rfl
    | global g => rfl
    | func g => rfl
  · unfold Region.wanted
    cases hg : o.guard with
    | none => rfl
    | some jw =>
      obtain ⟨j, w⟩ := jw
      dsimp only
      unfold yielded
      cases hd : (ops[j]?).bind (·.dst) with
      | none => rfl
      | some t =>
        have : t ∈ o.looksAt ops := List.mem_append_right _ (by simp [hg, hd])
        have h1 := hA.2.2.2 t (fun q hq he => hl q hq (he ▸ this))
        simp only [Option.bind_some, h1]

theorem upon_value {o : Oper} {a : Act} {next : Act → World → Prop} {Q : Exit → Act → World → Prop} {R R' : World} {v : Value} (hr : (execOp a.eval o).run P R = .ok (.value v) R') (hk : next (a.put o.dst v) R') : o.wp P a R next Q := by
  unfold Oper.wp; rw [hr]; exact hk
theorem upon_skip {o : Oper} {a : Act} {next : Act → World → Prop} {Q : Exit → Act → World → Prop} {R R' : World} (hr : (execOp a.eval o).run P R = .ok .skip R') (hk : next (a.put o.dst undef) R') : o.wp P a R next Q := by
  unfold Oper.wp; rw [hr]; exact hk
theorem upon_call {o : Oper} {a : Act} {next : Act → World → Prop} {Q : Exit → Act → World → Prop} {R : World} {g : FuncId} {args : Array Value} {T : Value → World → Prop} (hr : (execOp a.eval o).run P R = .ok (.enter g args) R)
    (hc : Calls P g args R fun e R' => ∃ v, e = .returned v ∧ T v R') (hk : ∀ v R', T v R' → next (a.put o.dst v) R') : o.wp P a R next Q := by
  unfold Oper.wp; rw [hr]
  exact hc.mono fun e R' ⟨v, he, ht⟩ => by subst he; exact hk v R' ht

/-- What is true of the end. -/
def EndOK (P : Program) (f : FuncId) (F : Func) (K : Post) (td : List It) (h0 : PHeap) (fr : Frm) : Exit → Act → World → Prop := fun e a w =>
  e = .normal ∧ ∃ E own h, h0.le h ∧ WP P f F K ⟨td, E, own⟩ h ∧ EnvOK a E own ∧ a.tmps.size = F.ntmps ∧ a.defers = [] ∧ Good w h own fr

theorem mem_ready {ops : Array Oper} {listed : Array Bool} {j : Nat} (hj : j ∈ Region.ready .any ops listed) : j < ops.size ∧ listed.getD j true = false ∧ ∀ k ∈ predsOf ops j, listed.getD k false = true := by
  unfold Region.ready at hj
  simp only [List.mem_filter, List.mem_range, Bool.and_eq_true, Bool.not_eq_true'] at hj
  obtain ⟨h1, h2, h3⟩ := hj
  refine ⟨h1, h2, fun k hk => ?_⟩
  unfold predsOf at hk
  have ho : ops[j]? = some ops[j] := Array.getElem?_eq_getElem h1
  rw [ho] at hk h3
  simp only [Option.map_some, Option.getD_some, Array.all_eq_true_iff_forall_mem] at h3
  obtain ⟨e, he, hek⟩ := List.mem_filterMap.1 hk
  have := h3 e (by simpa using he)
  split at hek
  · rename_i hb; cases hek; rw [hb] at this; simpa using this
  · cases hek

theorem ready_of {ops : Array Oper} {listed : Array Bool} {j : Nat} (hj : j < ops.size) (hl : listed.getD j true = false) (hp : ∀ k ∈ predsOf ops j, listed.getD k false = true) : j ∈ Region.ready .any ops listed := by
  unfold Region.ready
  simp only [List.mem_filter, List.mem_range, Bool.and_eq_true, Bool.not_eq_true']
  have ho : ops[j]? = some ops[j] := Array.getElem?_eq_getElem hj
  refine ⟨hj, hl, ?_⟩
  rw [ho]
  simp only [Option.map_some, Option.getD_some, Array.all_eq_true_iff_forall_mem]
  intro e he
  cases hb : Region.binds .any e with
  | false => rfl
  | true =>
    have : e.on ∈ predsOf ops j := by
      unfold predsOf; rw [ho]
      exact List.mem_filterMap.2 ⟨e, by simpa using he, by simp [hb]⟩
    simpa using hp _ this

/-- The state of things in a region that is partly carried out. -/
structure Mid (P : Program) (F : Func) (ops : Array Oper) (h0 : PHeap) (fr : Frm) (listed : Array Bool) (l done : List Nat) (D : List Pend) (a b : Act) (R : World) (E : Env) (own : List Blk) (h : PHeap) : Prop where
  size : listed.size = ops.size
  left : ∀ i, i < ops.size → (listed.getD i true = false ↔ (i ∈ l ∨ ∃ q ∈ D, q.idx = i))
  small : ∀ i ∈ l, i < ops.size
  told : ∀ q ∈ D, q.idx ∈ done ∧ q.idx < ops.size
  pend : D.Pairwise (fun q r => q.idx ≠ r.idx ∧ q.dst ≠ r.dst)
  down : ∀ j, j < ops.size → listed.getD j true = true → ∀ k ∈ predsOf ops j, listed.getD k true = true
  early : ∀ q ∈ D, ∀ r ∈ done, ∀ o, ops[r]? = some o → q.dst ∈ o.looksAt ops → Ahead ops r q.idx
  late : ∀ q ∈ D, ∀ j ∈ l, ∀ o, ops[j]? = some o → (q.dst ∈ o.looksAt ops → Ahead ops j q.idx) ∧ o.dst ≠ some q.dst
  form : formB ops done l = true
  agree : Agree a b D
  env : EnvOK b E own
  tmps : b.tmps.size = F.ntmps
  pok : ∀ q ∈ D, PendOK P ops h own fr b q
  good : Good R h own fr
  le : h0.le h

theorem getD_of_lt {listed : Array Bool} {i : Nat} (hi : i < listed.size) (b c : Bool) : listed.getD i b = listed.getD i c := by
  simp [Array.getD, hi]

theorem ahead_listed {ops : Array Oper} {listed : Array Bool} (hdag : ∀ j k, k ∈ predsOf ops j → k < j) (hs : listed.size = ops.size)
    (hd : ∀ j, j < ops.size → listed.getD j true = true → ∀ k ∈ predsOf ops j, listed.getD k true = true) {j i : Nat} (ha : Ahead ops j i) (hj : j < ops.size) (hp : ∀ k ∈ predsOf ops j, listed.getD k false = true) : listed.getD i true = true := by
  induction ha with
  | one hk =>
    have h1 := hp _ hk
    have := hdag _ _ hk
    rw [getD_of_lt (by omega) true false]; exact h1
  | more hk _ ih =>
    rename_i j k i _
    have hkj := hdag _ _ hk
    refine ih (by omega) fun q hq => ?_
    have h1 := hp _ hk
    have h2 := hd k (by omega) (by rw [getD_of_lt (by omega) true false]; exact h1) q hq
    have := hdag _ _ hq
    rw [getD_of_lt (by omega) false true]; exact h2

theorem getD_set (listed : Array Bool) (i j : Nat) (b : Bool) (hi : i < listed.size) : (listed.setIfInBounds i true).getD j b = if i = j then true else listed.getD j b := by
  simp only [Array.getD_eq_getD_getElem?, Array.getElem?_setIfInBounds]
  split
  · rename_i h; subst h; simp [hi]
  · rfl

theorem dn_any (hdag : ∀ j k, k ∈ predsOf (opsAt F p) j → k < j) {h0 : PHeap} {fr : Frm} : ∀ (m : Nat) (fuel : Nat) (listed : Array Bool) (l : List Nat) (done : List Nat) (D : List Pend) (a b : Act) (R : World) (E : Env) (own : List Blk) (h : PHeap),
    l.length + (l.length + D.length) ≤ m → l.length + D.length ≤ fuel → Mid P F (opsAt F p) h0 fr listed l done D a b R E own h →
    DN P f F K p td l E own h → wpAny P .any (opsAt F p) (EndOK P f F K td h0 fr) fuel listed a R := by
  intro m
  induction m with
  | zero =>
    intro fuel listed l done D a b R E own h hm hfu M hdn
    have hl : l = [] := List.eq_nil_of_length_eq_zero (by omega)
    have hD : D = [] := List.eq_nil_of_length_eq_zero (by omega)
    subst hl hD
    have hend : EndOK P f F K td h0 fr .normal a R := by
      refine ⟨rfl, E, own, h, M.le, hdn, ?_, by rw [M.agree.1]; exact M.tmps, M.agree.2.1, M.good⟩
      intro i x hx
      obtain ⟨v, h1, h2⟩ := M.env i x hx
      exact ⟨v, h1, by rw [M.agree.2.2.2 i (fun q hq => by cases hq)]; exact h2⟩
    have hnr : Region.ready .any (opsAt F p) listed = [] := by
      cases hr : Region.ready .any (opsAt F p) listed with
      | nil => rfl
      | cons j js =>
        have hj := mem_ready (hr ▸ List.mem_cons_self : j ∈ Region.ready .any (opsAt F p) listed)
        rcases (M.left j hj.1).1 hj.2.1 with h1 | ⟨q, hq, _⟩
        · cases h1
        · cases hq
    cases fuel with
    | zero => exact ⟨hnr, hend⟩
    | succ fuel => exact ⟨fun _ => hend, fun i hi => by rw [hnr] at hi; cases hi⟩
  | succ m ih =>
    intro fuel listed l done D a b R E own h hm hfu M hdn
    -- the operations that are told and not carried out: one of them comes up
    have later : ∀ (fuel : Nat) (j : Nat), l.length + D.length ≤ fuel + 1 → j ∈ Region.ready .any (opsAt F p) listed → j ∉ l →
        wpOp P (opsAt F p) (EndOK P f F K td h0 fr) j (wpAny P .any (opsAt F p) (EndOK P f F K td h0 fr) fuel (listed.setIfInBounds j true)) a R := by
      intro fuel j hfu hj hjl
      obtain ⟨hj1, hj2, hj3⟩ := mem_ready hj
      obtain ⟨q, hq, hqj⟩ := ((M.left j hj1).1 hj2).resolve_left hjl
      obtain ⟨o, p1, p2, p3, p4, p5⟩ := M.pok q hq
      have hclear : ∀ r ∈ D, r.dst ∉ o.looksAt (opsAt F p) := by
        intro r hr hmem
        have ha := M.early r hr q.idx (M.told q hq).1 o p1 hmem
        have := ahead_listed hdag M.size M.down ha (hqj ▸ hj1) (hqj ▸ hj3)
        have h2 := (M.left r.idx (M.told r hr).2).2 (.inr ⟨r, hr, rfl⟩)
        rw [this] at h2; cases h2
      obtain ⟨ea, ew⟩ := M.agree.eval hclear (no_select p3)
      obtain ⟨D1, D2, hDD⟩ := List.append_of_mem hq
      have hpw := M.pend
      rw [hDD] at hpw
      have hsub : ∀ r, r ∈ D1 ++ D2 → r ∈ D := fun r hr => by
        rw [hDD]; rcases List.mem_append.1 hr with h1 | h1
        · exact List.mem_append_left _ h1
        · exact List.mem_append_right _ (List.mem_cons_of_mem _ h1)
      have hdiff : ∀ r ∈ D1 ++ D2, r.idx ≠ q.idx ∧ r.dst ≠ q.dst := by
        intro r hr
        have h3 := List.pairwise_append.1 hpw
        rcases List.mem_append.1 hr with h1 | h1
        · exact h3.2.2 r h1 q List.mem_cons_self
        · have := (List.pairwise_cons.1 h3.2.1).1 r h1
          exact ⟨Ne.symm this.1, Ne.symm this.2⟩
      have hlt : q.dst < b.tmps.size := some_lt p4
      have M' : Mid P F (opsAt F p) h0 fr (listed.setIfInBounds j true) l done (D1 ++ D2) (a.put (some q.dst) q.val) b R E own h := by
        refine ⟨by simpa using M.size, ?_, M.small, fun r hr => M.told r (hsub r hr), hpw.sublist (by simp), ?_, fun r hr => M.early r (hsub r hr), fun r hr => M.late r (hsub r hr), M.form, ?_, M.env, M.tmps, fun r hr => M.pok r (hsub r hr), M.good, M.le⟩
        · intro i hi
          rw [getD_set _ _ _ _ (by rw [M.size]; exact hj1)]
          by_cases hji : j = i
          · subst hji
            simp only [if_true, Bool.true_eq_false, false_iff]
            rintro (h1 | ⟨r, hr, h1⟩)
            · exact hjl h1
            · exact (hdiff r hr).1 (h1.trans hqj.symm)
          · rw [if_neg hji, M.left i hi]
            constructor
            · rintro (h1 | ⟨r, hr, h1⟩)
              · exact .inl h1
              · rw [hDD] at hr
                rcases List.mem_append.1 hr with h2 | h2
                · exact .inr ⟨r, List.mem_append_left _ h2, h1⟩
                · rcases List.mem_cons.1 h2 with rfl | h3
                  · exact absurd (hqj.symm.trans h1) hji
                  · exact .inr ⟨r, List.mem_append_right _ h3, h1⟩
            · rintro (h1 | ⟨r, hr, h1⟩)
              · exact .inl h1
              · exact .inr ⟨r, hsub r hr, h1⟩
        · intro k hk hlk i hi
          have hik := hdag _ _ hi
          rw [getD_set _ _ _ _ (by rw [M.size]; exact hj1)] at hlk ⊢
          by_cases hji : j = i
          · rw [if_pos hji]
          · rw [if_neg hji]
            by_cases hjk : j = k
            · subst hjk
              have := hj3 i hi
              rw [getD_of_lt (by rw [M.size]; omega) true false]; exact this
            · rw [if_neg hjk] at hlk
              exact M.down k hk hlk i hi
        · refine ⟨by simpa [Act.put] using M.agree.1, by simpa [Act.put] using M.agree.2.1, M.agree.2.2.1, fun t ht => ?_⟩
          by_cases htq : q.dst = t
          · subst htq
            have : q.dst < a.tmps.size := by rw [M.agree.1]; exact hlt
            simp [Act.put, this, p4]
          · simp only [Act.put, Array.getElem?_setIfInBounds_ne htq]
            refine M.agree.2.2.2 t fun r hr => ?_
            rw [hDD] at hr
            rcases List.mem_append.1 hr with h2 | h2
            · exact ht r (List.mem_append_left _ h2)
            · rcases List.mem_cons.1 h2 with rfl | h3
              · exact htq
              · exact ht r (List.mem_append_right _ h3)
      have hlen : D.length = (D1 ++ D2).length + 1 := by rw [hDD]; simp; omega
      have hrec := ih fuel (listed.setIfInBounds j true) l done (D1 ++ D2) (a.put (some q.dst) q.val) b R E own h (by omega) (by omega) M' hdn
      unfold wpOp
      rw [← hqj, p1]
      dsimp only
      rcases p5 with ⟨w1, w2, _⟩ | ⟨w1, w2⟩
      · rw [if_pos (by rw [ew]; exact w1)]
        left
        have := w2 R M.good
        rw [← ea] at this
        refine upon_value this ?_
        rw [p2, hqj]; exact hrec
      · rw [if_neg (by rw [ew, w1]; decide)]
        rw [p2, ← w2, hqj]; exact hrec
    cases l with
    | nil =>
      have hend : D = [] → EndOK P f F K td h0 fr .normal a R := by
        rintro rfl
        refine ⟨rfl, E, own, h, M.le, hdn, ?_, by rw [M.agree.1]; exact M.tmps, M.agree.2.1, M.good⟩
        intro i x hx
        obtain ⟨v, h1, h2⟩ := M.env i x hx
        exact ⟨v, h1, by rw [M.agree.2.2.2 i (fun q hq => by cases hq)]; exact h2⟩
      -- an operation that is left and none of whose forerunners is left
      have hnone : Region.ready .any (opsAt F p) listed = [] → D = [] := by
        intro hr
        cases hD : D with
        | nil => rfl
        | cons q D' =>
          exfalso
          have hex : ∃ i, i < (opsAt F p).size ∧ listed.getD i true = false := ⟨q.idx, (M.told q (hD ▸ List.mem_cons_self)).2, (M.left q.idx (M.told q (hD ▸ List.mem_cons_self)).2).2 (.inr ⟨q, hD ▸ List.mem_cons_self, rfl⟩)⟩
          have hmin : ∀ n i, i ≤ n → i < (opsAt F p).size → listed.getD i true = false → False := by
            intro n
            induction n with
            | zero =>
              intro i hi hlt hli
              have : i ∈ Region.ready .any (opsAt F p) listed := ready_of hlt hli (fun k hk => by have := hdag _ _ hk; omega)
              rw [hr] at this; cases this
            | succ n ihn =>
              intro i hi hlt hli
              have : i ∈ Region.ready .any (opsAt F p) listed := ready_of hlt hli (fun k hk => by
                have hki := hdag _ _ hk
                cases hlk : listed.getD k false with
                | true => rfl
                | false => exact (ihn k (by omega) (by omega) (by rw [getD_of_lt (by rw [M.size]; omega) true false]; exact hlk)).elim)
              rw [hr] at this; cases this
          obtain ⟨i, h1, h2⟩ := hex
          exact hmin i i (Nat.le_refl i) h1 h2
      cases fuel with
      | zero =>
        have hD : D = [] := by simpa using hfu
        refine ⟨?_, hend hD⟩
        cases hr : Region.ready .any (opsAt F p) listed with
        | nil => rfl
        | cons j js =>
          have hj := mem_ready (hr ▸ List.mem_cons_self : j ∈ Region.ready .any (opsAt F p) listed)
          rcases (M.left j hj.1).1 hj.2.1 with h1 | ⟨q, hq, _⟩
          · cases h1
          · rw [hD] at hq; cases hq
      | succ fuel => exact ⟨fun hr => hend (hnone hr), fun j hj => later fuel j hfu hj (by simp)⟩
    | cons i l =>
      obtain ⟨E2, hE2, o, ho, hdst, hcase⟩ := hdn
      replace M : Mid P F (opsAt F p) h0 fr listed (i :: l) done D a b R E2 own h := { M with env := hE2 b M.env }
      have Fm := form_ok ho M.form
      have hi := M.small i List.mem_cons_self
      -- it is told now, and carried out later
      have defer : ∀ (d : Nat) (v : Value) (x : SV), o.dst = some d → clsOf o ≠ 2 → conc own x = some v →
          ((Region.wanted o (yielded (opsAt F p) b.tmps) = true ∧ (∀ (R : World), Good R h own fr → (execOp b.eval o).run P R = .ok (.value v) R) ∧ (freeB o = true → ∀ (R : World), (execOp b.eval o).run P R = .ok (.value v) R)) ∨ (Region.wanted o (yielded (opsAt F p) b.tmps) = false ∧ v = undef)) →
          DN P f F K p td l ((d, x) :: E2) own h → wpAny P .any (opsAt F p) (EndOK P f F K td h0 fr) fuel listed a R := by
        intro d v x hd hc hx hex hdn'
        obtain ⟨d', hd', f1, f2, f3⟩ := Fm.free hc
        rw [hd] at hd'; cases hd'
        have hlt : d < b.tmps.size := by rw [M.tmps]; rw [hd] at hdst; simpa [okDst, Nat.blt_eq] using hdst
        have hne : ∀ q ∈ D, q.dst ≠ d := by
          intro q hq he
          have := (M.late q hq i List.mem_cons_self o ho).2
          rw [hd, he] at this; exact this rfl
        have hnl : ∀ q ∈ D, ∀ o', (opsAt F p)[q.idx]? = some o' → d ∉ o'.looksAt (opsAt F p) := fun q hq o' ho' => (f1 q.idx (M.told q hq).1 o' ho').1
        refine ih fuel listed l (i :: done) (⟨i, d, v⟩ :: D) a (b.put (some d) v) R ((d, x) :: E2) own h (by simp only [List.length_cons] at hm ⊢; omega) (by simp only [List.length_cons] at hfu ⊢; omega) ?_ hdn'
        refine ⟨M.size, ?_, fun j hj => M.small j (List.mem_cons_of_mem _ hj), ?_, ?_, M.down, ?_, ?_, Fm.rest, ?_, M.env.put hx hlt, by simpa [Act.put] using M.tmps, ?_, M.good, M.le⟩
        · intro j hj
          rw [M.left j hj]
          constructor
          · rintro (h1 | ⟨q, hq, h1⟩)
            · rcases List.mem_cons.1 h1 with rfl | h1
              · exact .inr ⟨_, List.mem_cons_self, rfl⟩
              · exact .inl h1
            · exact .inr ⟨q, List.mem_cons_of_mem _ hq, h1⟩
          · rintro (h1 | ⟨q, hq, h1⟩)
            · exact .inl (List.mem_cons_of_mem _ h1)
            · rcases List.mem_cons.1 hq with rfl | hq
              · exact .inl (by rw [← h1]; exact List.mem_cons_self)
              · exact .inr ⟨q, hq, h1⟩
        · intro q hq
          rcases List.mem_cons.1 hq with rfl | hq
          · exact ⟨List.mem_cons_self, hi⟩
          · exact ⟨List.mem_cons_of_mem _ (M.told q hq).1, (M.told q hq).2⟩
        · refine List.pairwise_cons.2 ⟨fun q hq => ⟨?_, Ne.symm (hne q hq)⟩, M.pend⟩
          intro he
          have he' : i = q.idx := he
          exact Fm.notDone (by rw [he']; exact (M.told q hq).1)
        · intro q hq0 r hr o' ho' hmem
          rcases List.mem_cons.1 hq0 with h1 | hq
          · subst h1
            rcases List.mem_cons.1 hr with h2 | hr
            · subst h2; rw [ho] at ho'; cases ho'; exact absurd hmem f2
            · exact absurd hmem (f1 r hr o' ho').1
          · rcases List.mem_cons.1 hr with h2 | hr
            · subst h2; exact (M.late q hq _ List.mem_cons_self o' ho').1 hmem
            · exact M.early q hq r hr o' ho' hmem
        · intro q hq j hj o' ho'
          rcases List.mem_cons.1 hq with rfl | hq
          · exact f3 j hj o' ho'
          · exact M.late q hq j (List.mem_cons_of_mem _ hj) o' ho'
        · refine ⟨by simpa [Act.put] using M.agree.1, M.agree.2.1, by simpa [Act.put] using M.agree.2.2.1, fun t ht => ?_⟩
          have h1 : d ≠ t := ht ⟨i, d, v⟩ List.mem_cons_self
          simp only [Act.put, Array.getElem?_setIfInBounds_ne h1]
          exact M.agree.2.2.2 t fun q hq => ht q (List.mem_cons_of_mem _ hq)
        · intro q hq
          rcases List.mem_cons.1 hq with rfl | hq
          · refine ⟨o, ho, hd, hc, by simp [Act.put, hlt], ?_⟩
            have hdd : ∀ d', (some d : Option Nat) = some d' → d' ∉ o.looksAt (opsAt F p) := fun d' he => by cases he; exact f2
            rw [execOp_put o (no_select hc) b (some d) v hdd, wanted_put o b (some d) v hdd]
            exact hex
          · exact (M.pok q hq).put (hnl q hq) (hne q hq)
      rcases hcase with ⟨d, hd, hw, hc, hdn'⟩ | ⟨hw, hcase⟩
      · exact defer d undef (.v undef) hd hc rfl (.inr ⟨hw b M.env, rfl⟩) hdn'
      · rcases hcase with ⟨d, x, hd, hc, hv, hdn'⟩ | hcase
        · obtain ⟨v, hx, hr, hs⟩ := hv b M.env
          exact defer d v x hd (by omega) hx (.inl ⟨hw b M.env, fun R' hG' => hr R' fr hG', hs⟩) hdn'
        · -- it makes memory or changes something: it comes up when those ahead of it are done
          have hcls : clsOf o = 1 ∨ clsOf o = 2 := by
            rcases hcase with ⟨_, _, _, _, hc, _⟩ | ⟨_, _, hc, _⟩ | ⟨hc, _⟩
            · exact .inl hc
            · exact .inl hc
            · exact .inr hc
          have hali : ∀ j ∈ l, Ahead (opsAt F p) j i := fun j hj => hcls.elim (fun hc => Fm.one hc j hj) (fun hc => (Fm.two hc).1 j hj)
          have hiun : listed.getD i true = false := (M.left i hi).2 (.inl List.mem_cons_self)
          have hnot : ∀ j ∈ l, j ∉ Region.ready .any (opsAt F p) listed := by
            intro j hj hr
            obtain ⟨r1, r2, r3⟩ := mem_ready hr
            have := ahead_listed hdag M.size M.down (hali j hj) r1 r3
            rw [hiun] at this; cases this
          -- the state behind it
          have after : ∀ (fuel : Nat), (i :: l).length + D.length ≤ fuel + 1 → i ∈ Region.ready .any (opsAt F p) listed →
              wpOp P (opsAt F p) (EndOK P f F K td h0 fr) i (wpAny P .any (opsAt F p) (EndOK P f F K td h0 fr) fuel (listed.setIfInBounds i true)) a R := by
            intro fuel hfu hr
            obtain ⟨r1, r2, r3⟩ := mem_ready hr
            have hclear : ∀ q ∈ D, q.dst ∉ o.looksAt (opsAt F p) := by
              intro q hq hmem
              have ha := (M.late q hq i List.mem_cons_self o ho).1 hmem
              have := ahead_listed hdag M.size M.down ha r1 r3
              have h2 := (M.left q.idx (M.told q hq).2).2 (.inr ⟨q, hq, rfl⟩)
              rw [this] at h2; cases h2
            have hsel : ∀ cs b, o.op ≠ .select cs b := by
              intro cs b' he
              rcases hcls with hc | hc
              · exact no_select (by omega) cs b' he
              · rcases hcase with ⟨_, _, _, _, hc', _⟩ | ⟨_, _, hc', _⟩ | ⟨_, hst⟩
                · omega
                · omega
                · obtain ⟨v, R', h', E', own', hrun, _⟩ := hst b M.env M.tmps R fr M.good
                  simp only [execOp, he, Sem.run_bind] at hrun
                  rcases hrun with hrun | ⟨hrun, _⟩
                  · revert hrun
                    generalize (Sem.run P (Array.mapM (fun s => do pure ({ chan := b.eval s.chan, send := s.send.map b.eval, zero := ← zeroValue s.elem } : CommCase)) cs) R) = rr
                    cases rr <;> intro hrun <;> simp [Result.andThen] at hrun
                  · revert hrun
                    generalize (Sem.run P (Array.mapM (fun s => do pure ({ chan := b.eval s.chan, send := s.send.map b.eval, zero := ← zeroValue s.elem } : CommCase)) cs) R) = rr
                    cases rr <;> intro hrun <;> simp [Result.andThen] at hrun
            obtain ⟨ea, ew⟩ := M.agree.eval hclear hsel
            have hleft : ∀ j, j < (opsAt F p).size → ((listed.setIfInBounds i true).getD j true = false ↔ (j ∈ l ∨ ∃ q ∈ D, q.idx = j)) := by
              intro j hj
              rw [getD_set _ _ _ _ (by rw [M.size]; exact hi)]
              by_cases hij : i = j
              · subst hij
                simp only [if_true, Bool.true_eq_false, false_iff]
                rintro (h1 | ⟨q, hq, h1⟩)
                · exact Fm.notLater h1
                · exact Fm.notDone (h1 ▸ (M.told q hq).1)
              · rw [if_neg hij, M.left j hj]
                constructor
                · rintro (h1 | h1)
                  · rcases List.mem_cons.1 h1 with h1 | h1
                    · exact absurd h1.symm hij
                    · exact .inl h1
                  · exact .inr h1
                · rintro (h1 | h1)
                  · exact .inl (List.mem_cons_of_mem _ h1)
                  · exact .inr h1
            have hdown : ∀ j, j < (opsAt F p).size → (listed.setIfInBounds i true).getD j true = true → ∀ k ∈ predsOf (opsAt F p) j, (listed.setIfInBounds i true).getD k true = true := by
              intro j hj hlj k hk
              have hkj := hdag _ _ hk
              rw [getD_set _ _ _ _ (by rw [M.size]; exact hi)] at hlj ⊢
              by_cases hik : i = k
              · rw [if_pos hik]
              · rw [if_neg hik]
                by_cases hij : i = j
                · subst hij
                  have := r3 k hk
                  rw [getD_of_lt (by rw [M.size]; omega) true false]; exact this
                · rw [if_neg hij] at hlj
                  exact M.down j hj hlj k hk
            unfold wpOp
            rw [ho]
            dsimp only
            rw [if_pos (by rw [ew]; exact hw b M.env)]
            left
            -- a step of class 1 with a destination
            have one : ∀ (d : Nat) (v : Value) (x : SV) (R' : World) (h' : PHeap) (nw : List Blk), o.dst = some d → clsOf o = 1 → h.le h' → Good R' h' (own ++ nw) fr → conc (own ++ nw) x = some v →
                DN P f F K p td l ((d, x) :: E2) (own ++ nw) h' → wpAny P .any (opsAt F p) (EndOK P f F K td h0 fr) fuel (listed.setIfInBounds i true) (a.put (some d) v) R' := by
              intro d v x R' h' nw hd hc hle hG' hx hdn'
              obtain ⟨d', hd', f1, f2, f3⟩ := Fm.free (by omega)
              rw [hd] at hd'; cases hd'
              have hlt : d < b.tmps.size := by rw [M.tmps]; rw [hd] at hdst; simpa [okDst, Nat.blt_eq] using hdst
              have hne : ∀ q ∈ D, q.dst ≠ d := by
                intro q hq he
                have := (M.late q hq i List.mem_cons_self o ho).2
                rw [hd, he] at this; exact this rfl
              refine ih fuel _ l (i :: done) D (a.put (some d) v) (b.put (some d) v) R' ((d, x) :: E2) (own ++ nw) h' (by simp only [List.length_cons] at hm ⊢; omega) (by simp only [List.length_cons] at hfu ⊢; omega) ?_ hdn'
              refine ⟨by simpa using M.size, hleft, fun j hj => M.small j (List.mem_cons_of_mem _ hj), fun q hq => ⟨List.mem_cons_of_mem _ (M.told q hq).1, (M.told q hq).2⟩, M.pend, hdown, ?_, fun q hq j hj o' ho' => M.late q hq j (List.mem_cons_of_mem _ hj) o' ho', Fm.rest, ?_,
                (M.env.keeps (conc_append nw)).put hx hlt, by simpa [Act.put] using M.tmps, fun q hq => ((M.pok q hq).put (fun o' ho' => (f1 q.idx (M.told q hq).1 o' ho').1) (hne q hq)).more hle, hG', M.le.trans hle⟩
              · intro q hq r hr o' ho' hmem
                rcases List.mem_cons.1 hr with rfl | hr
                · exact (M.late q hq r List.mem_cons_self o' ho').1 hmem
                · exact M.early q hq r hr o' ho' hmem
              · refine ⟨by simpa [Act.put] using M.agree.1, by simpa [Act.put] using M.agree.2.1, by simpa [Act.put] using M.agree.2.2.1, fun t ht => ?_⟩
                by_cases hdt : d = t
                · subst hdt
                  have : d < a.tmps.size := by rw [M.agree.1]; exact hlt
                  simp [Act.put, hlt, this]
                · simp only [Act.put, Array.getElem?_setIfInBounds_ne hdt]
                  exact M.agree.2.2.2 t ht
            rcases hcase with ⟨d, g, args, hd, hc, hfine, hexec, hcall⟩ | ⟨d, hd, hc, hst⟩ | ⟨hc, hst⟩
            · have hrun : (execOp a.eval o).run P R = .ok (.enter g args) R := by rw [ea, hexec b M.env R, hfine]
              refine upon_call hrun (hcall R fr M.good) ?_
              rintro v R' ⟨x, h', nw, hle, hG', hx, hdn'⟩
              rw [hd]; exact one d v x R' h' nw hd hc hle hG' hx hdn'
            · obtain ⟨v, R', x, nw, hrun, hG', hx, hdn'⟩ := hst b M.env R fr M.good
              rw [← ea] at hrun
              refine upon_value hrun ?_
              rw [hd]; exact one d v x R' h nw hd hc (.refl h) hG' hx hdn'
            · -- what is left that was told looks at no memory
              have hfree : ∀ q ∈ D, ∃ o' , (opsAt F p)[q.idx]? = some o' ∧ freeB o' = true ∧ q.dst ∉ o.looksAt (opsAt F p) ∧ o.dst ≠ some q.dst ∧ ∀ e, o.dst = some e → e ∉ o'.looksAt (opsAt F p) := by
                intro q hq
                rcases (Fm.two hc).2 q.idx (M.told q hq).1 with ha | ⟨o', d, g1, g2, g3, g4, g5, g6⟩
                · exfalso
                  have := ahead_listed hdag M.size M.down ha r1 r3
                  have h2 := (M.left q.idx (M.told q hq).2).2 (.inr ⟨q, hq, rfl⟩)
                  rw [this] at h2; cases h2
                · obtain ⟨o2, p1, p2, _⟩ := M.pok q hq
                  rw [g1] at p1; cases p1
                  rw [g3] at p2; cases p2
                  exact ⟨o', g1, g2, g4, g5, g6⟩
              obtain ⟨v, R', h', E', own', hrun, hle, hG', hE', hdn'⟩ := hst b M.env M.tmps R fr M.good
              have hnext : wpAny P .any (opsAt F p) (EndOK P f F K td h0 fr) fuel (listed.setIfInBounds i true) (a.put o.dst v) R' := by
                refine ih fuel _ l (i :: done) D (a.put o.dst v) (b.put o.dst v) R' E' own' h' (by simp only [List.length_cons] at hm ⊢; omega) (by simp only [List.length_cons] at hfu ⊢; omega) ?_ hdn'
                have hsz : ∀ (c : Act), (c.put o.dst v).tmps.size = c.tmps.size := fun c => by cases o.dst <;> simp [Act.put]
                have hdf : ∀ (c : Act), (c.put o.dst v).defers = c.defers := fun c => by cases o.dst <;> rfl
                refine ⟨by simpa using M.size, hleft, fun j hj => M.small j (List.mem_cons_of_mem _ hj), fun q hq => ⟨List.mem_cons_of_mem _ (M.told q hq).1, (M.told q hq).2⟩, M.pend, hdown, ?_, fun q hq j hj o' ho' => M.late q hq j (List.mem_cons_of_mem _ hj) o' ho', Fm.rest, ?_, hE', (by rw [hsz]; exact M.tmps), ?_, hG', M.le.trans hle⟩
                · intro q hq r hr o' ho' hmem
                  rcases List.mem_cons.1 hr with rfl | hr
                  · rw [ho] at ho'; cases ho'
                    obtain ⟨_, _, _, g3, _⟩ := hfree q hq
                    exact absurd hmem g3
                  · exact M.early q hq r hr o' ho' hmem
                · refine ⟨by rw [hsz, hsz]; exact M.agree.1, by rw [hdf]; exact M.agree.2.1, by rw [hdf]; exact M.agree.2.2.1, fun t ht => ?_⟩
                  have h1 := M.agree.2.2.2 t ht
                  have h2 := M.agree.1
                  cases hod : o.dst with
                  | none => simpa [Act.put] using h1
                  | some e =>
                    simp only [Act.put, Array.getElem?_setIfInBounds, h2]
                    split
                    · rfl
                    · exact h1
                · intro q hq
                  obtain ⟨o', g1, g2, g3, g4, g5⟩ := hfree q hq
                  obtain ⟨o2, p1, p2, p3, p4, p5⟩ := M.pok q hq
                  rw [g1] at p1; cases p1
                  have hex : execOp (b.put o.dst v).eval o' = execOp b.eval o' := execOp_put o' (no_select p3) b o.dst v g5
                  have hwa : Region.wanted o' (yielded (opsAt F p) (b.put o.dst v).tmps) = Region.wanted o' (yielded (opsAt F p) b.tmps) := wanted_put o' b o.dst v g5
                  refine ⟨o', g1, p2, p3, ?_, ?_⟩
                  · cases hod : o.dst with
                    | none => simpa [Act.put] using p4
                    | some e =>
                      have : e ≠ q.dst := fun he => g4 (by rw [hod, he])
                      simp [Act.put, this, p4]
                  · rw [hex, hwa]
                    rcases p5 with ⟨w1, _, w3⟩ | w
                    · exact .inl ⟨w1, fun R hG => w3 g2 R, w3⟩
                    · exact .inr w
              rcases hrun with hrun | ⟨hrun, hv⟩
              · rw [← ea] at hrun; exact upon_value hrun hnext
              · rw [← ea] at hrun; subst hv; exact upon_skip hrun hnext
          cases fuel with
          | zero => simp at hfu
          | succ fuel =>
            refine ⟨fun hr => ?_, fun j hj => ?_⟩
            · exfalso
              -- the least of what is left is ready
              have hmin : ∀ n k, k ≤ n → k < (opsAt F p).size → listed.getD k true = false → False := by
                intro n
                induction n with
                | zero =>
                  intro k hk hlt hlk
                  have : k ∈ Region.ready .any (opsAt F p) listed := ready_of hlt hlk (fun q hq => by have := hdag _ _ hq; omega)
                  rw [hr] at this; cases this
                | succ n ihn =>
                  intro k hk hlt hlk
                  have : k ∈ Region.ready .any (opsAt F p) listed := ready_of hlt hlk (fun q hq => by
                    have hqk := hdag _ _ hq
                    cases hlq : listed.getD q false with
                    | true => rfl
                    | false => exact (ihn q (by omega) (by omega) (by rw [getD_of_lt (by rw [M.size]; omega) true false]; exact hlq)).elim)
                  rw [hr] at this; cases this
              exact hmin i i (Nat.le_refl i) hi hiun
            · by_cases hji : j = i
              · subst hji; exact after fuel hfu hj
              · refine later fuel j hfu hj fun hm => ?_
                rcases List.mem_cons.1 hm with h1 | h1
                · exact hji h1
                · exact hnot j h1 hj

end Go.Vc
/- The rules for a region whose order Go leaves open, with calls that make memory. No condition. -/
namespace Go.Vc
set_option linter.unusedVariables false
set_option linter.unusedSimpArgs false

variable {P : Program} {f : FuncId} {F : Func} {K : Post} {h : PHeap}
variable {todo td : List It} {env en : Env} {own ow : List Blk} {p : List Nat}

inductive NEv where
  | done (env : Env) (own : List Blk)
  | ev (e : Ev) (od : Option Nat) (c : Nat) (l : List Nat) (env : Env) (own : List Blk)
  | br (b : Bool) (t : Nat) (l : List Nat) (env : Env) (own : List Blk)
  | raw (o : Oper) (c : Nat) (l : List Nat) (env : Env) (own : List Blk)
  | skip (c : Nat) (l : List Nat) (env : Env) (own own' : List Blk)
  | stuck (n : Nat)

def nev (P : Program) (F : Func) (p : List Nat) : Nat → List Nat → Env → List Blk → NEv
  | 0, _, _, _ => .stuck 300
  | n + 1, l, env, own => match l with
    | [] => .done env own
    | i :: l => match (opsAt F p)[i]? with
      | none => .stuck 301
      | some o => match okDst F.ntmps o.dst with
        | false => .stuck 302
        | true => match guardF (opsAt F p) o env with
          | .bad => .stuck 303
          | .no => match o.dst with
            | some d => match Nat.beq (clsOf o) 2 with
              | true => .stuck 304
              | false => nev P F p n l ((d, .v undef) :: env) own
            | none => .stuck 305
          | .ask t b => .br b t (i :: l) env own
          | .yes => match evOp P o env own ⟨[], env, own⟩ ⟨[], env, own⟩ with
            | .set x _ => match o.dst with
              | some d => match Nat.beq (clsOf o) 0 with
                | true => nev P F p n l ((d, x) :: env) own
                | false => match Nat.beq (clsOf o) 2 with
                  | true => nev P F p n l ((d, x) :: env) own
                  | false => .stuck 306
              | none => .stuck 307
            | .skip own' => match Nat.beq (clsOf o) 2 with
              | true => match o.dst with
                | none => nev P F p n l env own'
                | some _ => .stuck 308
              | false => .stuck 309
            | .ev e => match freeB o with
              | true => .stuck 310
              | false => .ev e o.dst (clsOf o) l env own
            | .raw => match freeB o with
              | true => .stuck 311
              | false => .raw o (clsOf o) l env own
            | .bad m => .stuck m

def NOK (P : Program) (f : FuncId) (F : Func) (K : Post) (p : List Nat) (td : List It) (h : PHeap) : NEv → Prop
  | .done env own => WP P f F K ⟨td, env, own⟩ h
  | .br b t l env own => (b = true → DN P f F K p td l ((t, .tt) :: env) own h) ∧ (b = false → DN P f F K p td l ((t, .ff) :: env) own h)
  | .ev e od c l env own => match e with
    | .load n q _ _ => match od with
      | none => False
      | some d => c = 0 ∧ match n with
        | none => ∃ v, (∀ (R : World) (fr : Frm), Good R h own fr → R.cell? q = some v) ∧ DN P f F K p td l ((d, .v v) :: env) own h
        | some m => ∃ vs, vs.length = m ∧ (∀ (R : World) (fr : Frm), Good R h own fr → ∀ j v, vs[j]? = some v → R.cell? (q.add j) = some v) ∧ DN P f F K p td l ((d, .v (.agg ⟨vs⟩)) :: env) own h
    | .loadx k off n _ _ => match od, n with
      | some d, none => c = 0 ∧ ∃ B cs ty v, own[k]? = some B ∧ B.live = true ∧ B.body = .cells cs ty ∧ cs[off]? = some v ∧ DN P f F K p td l ((d, .v v) :: env) own h
      | _, _ => False
    | .need φ x _ _ => match od with
      | none => False
      | some d => c = 0 ∧ φ ∧ DN P f F K p td l ((d, .v x) :: env) own h
    | .idx A n i size _ _ => match od with
      | none => False
      | some d => c = 0 ∧ ∃ ad, A = some ad ∧ 0 ≤ i ∧ i < n ∧ DN P f F K p td l ((d, .v (.pointer (some (ad.add (i.toNat * size))))) :: env) own h
    | .idxo k off n i size _ _ => match od with
      | none => False
      | some d => c = 0 ∧ 0 ≤ i ∧ i < n ∧ DN P f F K p td l ((d, .locx k (off + i.toNat * size)) :: env) own h
    | .idxg k n i size _ _ => match od with
      | none => False
      | some d => c = 0 ∧ (∃ B, own[k]? = some B ∧ B.nul = false) ∧ 0 ≤ i ∧ i < n ∧ DN P f F K p td l ((d, .locx k (i.toNat * size)) :: env) own h
    | .alloc cells ty x _ _ => match od with
      | none => False
      | some d => c = 1 ∧ ∀ b, DN P f F K p td l ((d, x) :: env) (own ++ [⟨b, false, true, .cells cells ty⟩]) h
    | .call g args _ _ => match od with
      | none => False
      | some d => c = 1 ∧ Fine P g ∧ ∀ (R : World) (fr : Frm), Good R h own fr →
          Calls P g ⟨args⟩ R fun e R' => ∃ v, e = .returned v ∧ ∃ x h' nw, h.le h' ∧ Good R' h' (own ++ nw) fr ∧ conc (own ++ nw) x = some v ∧ DN P f F K p td l ((d, x) :: env) (own ++ nw) h'
    | .store n q v _ => od = none ∧ c = 2 ∧ ∃ own', (∀ (R : World) (fr : Frm) t, sizeAt P t = some n → Good R h own fr → ∃ R', (storeVar t q v).run P R = .ok () R' ∧ Good R' h own' fr) ∧ Keeps own own' ∧ DN P f F K p td l env own' h
    | .storex k off n v _ => od = none ∧ c = 2 ∧ ∃ B own', own[k]? = some B ∧ (∀ (R : World) (fr : Frm) t, sizeAt P t = some n → Good R h own fr → ∃ R', (storeVar t ⟨B.id, off, none⟩ v).run P R = .ok () R' ∧ Good R' h own' fr) ∧ Keeps own own' ∧ DN P f F K p td l env own' h
    | _ => False
  | .raw o c l env own => ∃ d, o.dst = some d ∧
      ((c = 0 ∧ ∃ v, (∀ a, EnvOK a env own → ∀ (R : World) (fr : Frm), Good R h own fr → (execOp a.eval o).run P R = .ok (.value v) R) ∧ DN P f F K p td l ((d, .v v) :: env) own h) ∨
       (c = 1 ∧ ∀ a, EnvOK a env own → ∀ (R : World) (fr : Frm), Good R h own fr → ∃ v R' x nw, (execOp a.eval o).run P R = .ok (.value v) R' ∧ Good R' h (own ++ nw) fr ∧ conc (own ++ nw) x = some v ∧ DN P f F K p td l ((d, x) :: env) (own ++ nw) h) ∨
       (c = 2 ∧ ∀ a, EnvOK a env own → ∀ (R : World) (fr : Frm), Good R h own fr → ∃ x v R' h' env' own', (execOp a.eval o).run P R = .ok (.value v) R' ∧ h.le h' ∧ Good R' h' own' fr ∧ EnvOK a env' own' ∧ conc own' x = some v ∧ DN P f F K p td l ((d, x) :: env') own' h'))
  | .skip _ _ _ _ _ => False
  | .stuck _ => False

theorem nbeq_true {a b : Nat} (h : Nat.beq a b = true) : a = b := Nat.eq_of_beq_eq_true h
theorem nbeq_false {a b : Nat} (h : Nat.beq a b = false) : a ≠ b := Nat.ne_of_beq_eq_false h

theorem DN.yes {i : Nat} {l : List Nat} {o : Oper} (ho : (opsAt F p)[i]? = some o) (hdst : okDst F.ntmps o.dst = true) (hw : ∀ a, EnvOK a env own → Region.wanted o (yielded (opsAt F p) a.tmps) = true)
    (hr : (∃ d x, o.dst = some d ∧ clsOf o = 0 ∧ (∀ a, EnvOK a env own → ∃ v, conc own x = some v ∧ (∀ (R : World) (fr : Frm), Good R h own fr → (execOp a.eval o).run P R = .ok (.value v) R) ∧ (freeB o = true → ∀ (R : World), (execOp a.eval o).run P R = .ok (.value v) R)) ∧ DN P f F K p td l ((d, x) :: env) own h) ∨
       (∃ d g args, o.dst = some d ∧ clsOf o = 1 ∧ Fine P g ∧ (∀ a, EnvOK a env own → ∀ R, (execOp a.eval o).run P R = (callFunc g args).run P R) ∧ ∀ (R : World) (fr : Frm), Good R h own fr →
          Calls P g args R fun e R' => ∃ v, e = .returned v ∧ ∃ x h' nw, h.le h' ∧ Good R' h' (own ++ nw) fr ∧ conc (own ++ nw) x = some v ∧ DN P f F K p td l ((d, x) :: env) (own ++ nw) h') ∨
       (∃ d, o.dst = some d ∧ clsOf o = 1 ∧ ∀ a, EnvOK a env own → ∀ (R : World) (fr : Frm), Good R h own fr → ∃ v R' x nw, (execOp a.eval o).run P R = .ok (.value v) R' ∧ Good R' h (own ++ nw) fr ∧ conc (own ++ nw) x = some v ∧ DN P f F K p td l ((d, x) :: env) (own ++ nw) h) ∨
       (clsOf o = 2 ∧ ∀ a, EnvOK a env own → a.tmps.size = F.ntmps → ∀ (R : World) (fr : Frm), Good R h own fr → ∃ v R' h' E' own', ((execOp a.eval o).run P R = .ok (.value v) R' ∨ ((execOp a.eval o).run P R = .ok .skip R' ∧ v = undef)) ∧ h.le h' ∧ Good R' h' own' fr ∧
          EnvOK (a.put o.dst v) E' own' ∧ DN P f F K p td l E' own' h')) : DN P f F K p td (i :: l) env own h :=
  ⟨env, fun _ h => h, o, ho, hdst, .inr ⟨hw, hr⟩⟩

/-- What no way through reaches needs no proof. -/
theorem DN.of_some : ∀ {l : List Nat} {env : Env} {own : List Blk} {h : PHeap}, (∀ i ∈ l, ∃ o, (opsAt F p)[i]? = some o) → True := fun _ => trivial

theorem evOp_set_free {o : Oper} {own' : List Blk} {here s : St} {z : SV} {a : Act} {v : Value} (he : evOp P o env own here s = .set z own') (hE : EnvOK a env own) (hf : freeB o = true) (hv : conc own z = some v) (R : World) : (execOp a.eval o).run P R = .ok (.value v) R := by
  obtain ⟨dst, op, ty, pos, after, guard⟩ := o
  cases op with
  | move x =>
    simp only [evOp] at he
    split at he
    · rename_i y hy
      obtain ⟨rfl, rfl⟩ := set_inj he
      have h1 := getS_ok hE hy
      rw [hv] at h1; cases h1
      simp [execOp]
    · cases he
  | binOp op t x y yt =>
    simp only [evOp] at he
    split at he
    · rename_i u hu
      split at he
      · rename_i w hw
        have h1 := getS_ok hE hu
        have h2 := getS_ok hE hw
        obtain ⟨_, v', r2', r3, r4⟩ := binF_set (R := R) (xo := x) (yo := y) he h1 h2
        rw [hv] at r2'; cases r2'
        simp only [execOp, Sem.run_bind, r3, Result.andThen_ok, r4, Sem.run_pure]
      · cases he
    · cases he
  | _ => simp [freeB] at hf

theorem dn_of_nev : ∀ (n : Nat) (l : List Nat) (env : Env) (own : List Blk), NOK P f F K p td h (nev P F p n l env own) → DN P f F K p td l env own h := by
  intro n
  induction n with
  | zero => intro l env own hk; exact hk.elim
  | succ n ih =>
    intro l env own hk
    cases l with
    | nil => exact hk
    | cons i l =>
      simp only [nev] at hk
      split at hk
      · exact hk.elim
      · rename_i o ho
        split at hk
        · exact hk.elim
        · rename_i hdst
          have hlt : ∀ d, o.dst = some d → ∀ a : Act, a.tmps.size = F.ntmps → d < a.tmps.size := fun d hd a ha => by rw [ha]; rw [hd] at hdst; simpa [okDst, Nat.blt_eq] using hdst
          split at hk
          · exact hk.elim
          · rename_i hg
            split at hk
            · rename_i d hd
              split at hk
              · exact hk.elim
              · rename_i hc
                exact ⟨env, fun _ h => h, o, ho, hdst, .inl ⟨d, hd, guardF_no hg, nbeq_false hc, ih _ _ _ hk⟩⟩
            · exact hk.elim
          · rename_i t b hg
            have key : ∀ (x : SV), DN P f F K p td (i :: l) ((t, x) :: env) own h → conc own x = some (.bool b) → DN P f F K p td (i :: l) env own h := by
              intro x hdn hx
              obtain ⟨E2, hE2, rest⟩ := hdn
              exact ⟨E2, fun a hE => hE2 a (hE.bool (guardF_ask hg a hE) hx), rest⟩
            cases b with
            | true => exact key .tt (hk.1 rfl) rfl
            | false => exact key .ff (hk.2 rfl) rfl
          · rename_i hg
            have hw := guardF_yes (own := own) hg
            split at hk
            · rename_i x own' he
              split at hk
              · rename_i d hd
                split at hk
                · rename_i hc
                  refine DN.yes ho hdst hw (.inl ⟨d, x, hd, nbeq_true hc, fun a hE => ?_, ih _ _ _ hk⟩)
                  obtain ⟨_, v, hv, hr⟩ := evOp_set he hE
                  exact ⟨v, hv, fun R fr hG => hr R h fr hG, fun hf R => evOp_set_free he hE hf hv R⟩
                · split at hk
                  · rename_i hc2
                    refine DN.yes ho hdst hw (.inr (.inr (.inr ⟨nbeq_true hc2, fun a hE hsz R fr hG => ?_⟩)))
                    obtain ⟨_, v, hv, hr⟩ := evOp_set he hE
                    exact ⟨v, R, h, (d, x) :: env, own, .inl (hr R h fr hG), .refl h, hG, by rw [hd]; exact hE.put hv (hlt d hd a hsz), ih _ _ _ hk⟩
                  · exact hk.elim
              · exact hk.elim
            · rename_i own' he
              split at hk
              · rename_i hc
                split at hk
                · rename_i hd
                  refine DN.yes ho hdst hw (.inr (.inr (.inr ⟨nbeq_true hc, fun a hE hsz R fr hG => ?_⟩)))
                  obtain ⟨hE', hr⟩ := evOp_skip he hE
                  obtain ⟨R', r1, r2⟩ := hr R h fr hG
                  exact ⟨undef, R', h, env, own', .inr ⟨r1, rfl⟩, .refl h, r2, by rw [hd]; simpa [Act.put] using hE', ih _ _ _ hk⟩
                · exact hk.elim
              · exact hk.elim
            · rename_i e he
              split at hk
              · exact hk.elim
              rename_i hfr
              have hes := fun a hE => evOp_ev (a := a) (s0 := ⟨[], env, own⟩) (own := own) rfl he hE
              cases e with
              | load m q d s =>
                simp only [NOK] at hk
                split at hk
                · exact hk.elim
                · rename_i d hdd
                  skip
                  cases m with
                  | none =>
                    obtain ⟨hc, v, hv, hk⟩ := hk
                    exact DN.yes ho hdst hw (.inl ⟨d, .v v, hdd, hc, fun a hE => ⟨v, rfl, fun R fr hG => (hes a hE).2.2 R v (hv R fr hG), fun hf => by rw [hfr] at hf; cases hf⟩, hk⟩)
                  | some m =>
                    obtain ⟨hc, vs, hl, hv, hk⟩ := hk
                    exact DN.yes ho hdst hw (.inl ⟨d, .v (.agg ⟨vs⟩), hdd, hc, fun a hE => ⟨_, rfl, fun R fr hG => (hes a hE).2.2 R vs hl (hv R fr hG), fun hf => by rw [hfr] at hf; cases hf⟩, hk⟩)
              | loadx k off m d s =>
                simp only [NOK] at hk
                split at hk
                · rename_i d hdd
                  obtain ⟨hc, B, cs, ty, v, hB, hl, hb, hv, hk⟩ := hk
                  skip
                  refine DN.yes ho hdst hw (.inl ⟨d, .v v, hdd, hc, fun a hE => ⟨v, rfl, fun R fr hG => ?_, fun hf => by rw [hfr] at hf; cases hf⟩, hk⟩)
                  obtain ⟨_, _, B', hB', hr⟩ := hes a hE
                  rw [hB] at hB'; cases hB'
                  exact hr R v (by rw [hG.cellAt hB hl hb]; exact hv)
                · exact hk.elim
              | need φ x d s =>
                simp only [NOK] at hk
                split at hk
                · exact hk.elim
                · rename_i d hdd
                  skip
                  exact DN.yes ho hdst hw (.inl ⟨d, .v x, hdd, hk.1, fun a hE => ⟨x, rfl, fun R fr hG => (hes a hE).2.2 hk.2.1 R, fun hf => by rw [hfr] at hf; cases hf⟩, hk.2.2⟩)
              | idx A m j size d s =>
                simp only [NOK] at hk
                split at hk
                · exact hk.elim
                · rename_i d hdd
                  obtain ⟨hc, ad, hA, g0, g1, hk⟩ := hk
                  skip
                  exact DN.yes ho hdst hw (.inl ⟨d, .v _, hdd, hc, fun a hE => ⟨_, rfl, fun R fr hG => (hes a hE).2.2 ad hA g0 g1 R, fun hf => by rw [hfr] at hf; cases hf⟩, hk⟩)
              | idxo k off m j size d s =>
                simp only [NOK] at hk
                split at hk
                · exact hk.elim
                · rename_i d hdd
                  obtain ⟨hc, g0, g1, hk⟩ := hk
                  skip
                  refine DN.yes ho hdst hw (.inl ⟨d, .locx k _, hdd, hc, fun a hE => ?_, hk⟩)
                  obtain ⟨_, _, B, hB, hr⟩ := hes a hE
                  exact ⟨_, by simp only [conc, hB], fun R fr hG => hr g0 g1 R, fun hf => by rw [hfr] at hf; cases hf⟩
              | idxg k m j size d s =>
                simp only [NOK] at hk
                split at hk
                · exact hk.elim
                · rename_i d hdd
                  obtain ⟨hc, ⟨B', hB', hn⟩, g0, g1, hk⟩ := hk
                  skip
                  refine DN.yes ho hdst hw (.inl ⟨d, .locx k _, hdd, hc, fun a hE => ?_, hk⟩)
                  obtain ⟨_, _, B, hB, hr⟩ := hes a hE
                  rw [hB] at hB'; cases hB'
                  exact ⟨_, by simp only [conc, hB], fun R fr hG => hr hn g0 g1 R, fun hf => by rw [hfr] at hf; cases hf⟩
              | call g args d s =>
                simp only [NOK] at hk
                split at hk
                · exact hk.elim
                · rename_i d hdd
                  obtain ⟨hc, hf, hr⟩ := hk
                  skip
                  exact DN.yes ho hdst hw (.inr (.inl ⟨d, g, ⟨args⟩, hdd, hc, hf, fun a hE R => (hes a hE).2.2 R, hr⟩))
              | alloc cells ty x d s =>
                simp only [NOK] at hk
                split at hk
                · exact hk.elim
                · rename_i d hdd
                  obtain ⟨hc, hk⟩ := hk
                  skip
                  refine DN.yes ho hdst hw (.inr (.inr (.inl ⟨d, hdd, hc, fun a hE R fr hG => ?_⟩)))
                  obtain ⟨_, _, hx, hr⟩ := hes a hE
                  subst hx
                  exact ⟨_, _, .loc own.length 0, [⟨R.heap.size, false, true, .cells cells ty⟩], hr R, hG.alloc (.cells cells ty), by simp [conc], hk _⟩
              | store m q v s =>
                simp only [NOK] at hk
                obtain ⟨hdn, hc, own', hr, hkp, hk⟩ := hk
                refine DN.yes ho hdst hw (.inr (.inr (.inr ⟨hc, fun a hE hsz R fr hG => ?_⟩)))
                obtain ⟨_, _, t, ht, hs⟩ := hes a hE
                obtain ⟨R', r1, r2⟩ := hr R fr t ht hG
                exact ⟨undef, R', h, env, own', .inr ⟨hs R R' r1, rfl⟩, .refl h, r2, by rw [hdn]; simpa [Act.put] using hE.keeps hkp, hk⟩
              | storex k off m v s =>
                simp only [NOK] at hk
                obtain ⟨hdn, hc, B, own', hB, hr, hkp, hk⟩ := hk
                refine DN.yes ho hdst hw (.inr (.inr (.inr ⟨hc, fun a hE hsz R fr hG => ?_⟩)))
                obtain ⟨_, _, B', t, hB', ht, hs⟩ := hes a hE
                rw [hB] at hB'; cases hB'
                obtain ⟨R', r1, r2⟩ := hr R fr t ht hG
                exact ⟨undef, R', h, env, own', .inr ⟨hs R R' r1, rfl⟩, .refl h, r2, by rw [hdn]; simpa [Act.put] using hE.keeps hkp, hk⟩
              | _ => exact hk.elim
            · rename_i he
              split at hk
              · exact hk.elim
              rename_i hfr
              obtain ⟨d, hd, hk⟩ := hk
              rcases hk with ⟨hc, v, hr, hk⟩ | ⟨hc, hr⟩ | ⟨hc, hr⟩
              · exact DN.yes ho hdst hw (.inl ⟨d, .v v, hd, hc, fun a hE => ⟨v, rfl, fun R fr hG => hr a hE R fr hG, fun hf => by rw [hfr] at hf; cases hf⟩, hk⟩)
              · exact DN.yes ho hdst hw (.inr (.inr (.inl ⟨d, hd, hc, hr⟩)))
              · refine DN.yes ho hdst hw (.inr (.inr (.inr ⟨hc, fun a hE hsz R fr hG => ?_⟩)))
                obtain ⟨x, v, R', h', env', own', r1, r2, r3, r4, r5, r6⟩ := hr a hE R fr hG
                exact ⟨v, R', h', (d, x) :: env', own', .inl r1, r2, r3, by rw [hd]; exact r4.put r5 (hlt d hd a hsz), r6⟩
            · exact hk.elim

/-- An order in which to tell a region: what is only read comes as early as it can. -/
def nextOf (ops : Array Oper) (done : List Nat) : List Nat → Option Nat
  | [] => none
  | i :: l => match !done.contains i && (predsOf ops i).all (fun k => done.contains k) with
    | true => some i
    | false => nextOf ops done l

def orderF (ops : Array Oper) (zeros ones : List Nat) : Nat → List Nat → List Nat
  | 0, _ => []
  | n + 1, done => match nextOf ops done zeros with
    | some i => i :: orderF ops zeros ones n (i :: done)
    | none => match nextOf ops done ones with
      | some i => i :: orderF ops zeros ones n (i :: done)
      | none => []

def orderOf (ops : Array Oper) : List Nat :=
  orderF ops ((List.range ops.size).filter fun i => match ops[i]? with | some o => Nat.beq (clsOf o) 0 | none => false)
    ((List.range ops.size).filter fun i => match ops[i]? with | some o => !Nat.beq (clsOf o) 0 | none => false) ops.size []

def drawB (ops : Array Oper) (l : List Nat) : Bool :=
  formB ops [] l && Nat.beq l.length ops.size && (List.range ops.size).all (fun i => l.contains i) && l.all (fun i => Nat.blt i ops.size) && (List.range ops.size).all (fun j => (predsOf ops j).all fun k => Nat.blt k j)

theorem wp_drawn {id : Nat} (he : ev P F 100000 todo env own = .draw p ⟨td, en, ow⟩) (hm : P.follows .mixedOrders = true) (hr : sub (bodyOf F) p = .region id (opsAt F p) true) (l : List Nat) (hB : drawB (opsAt F p) l = true)
    (hq : DN P f F K p td l en ow h) : WP P f F K ⟨todo, env, own⟩ h := by
  simp only [drawB, Bool.and_eq_true, List.all_eq_true, List.mem_range, List.contains_eq_mem, decide_eq_true_eq] at hB
  obtain ⟨⟨⟨⟨hform, hlen⟩, hall⟩, hsm⟩, hdag⟩ := hB
  refine wp_ev he ?_
  intro a R fr cs hd hsz hE hG
  have hdag' : ∀ j k, k ∈ predsOf (opsAt F p) j → k < j := by
    intro j k hk
    by_cases hj : j < (opsAt F p).size
    · simpa [Nat.blt_eq] using hdag j hj k hk
    · unfold predsOf at hk
      rw [Array.getElem?_eq_none (by omega)] at hk
      cases hk
  have hrep : ∀ i, i < (opsAt F p).size → (Array.replicate (opsAt F p).size false).getD i true = false := by
    intro i hi; simp [Array.getD, hi]
  have M : Mid P F (opsAt F p) h fr (Array.replicate (opsAt F p).size false) l [] [] a a { R with drawn := R.drawn + 1 } en ow h :=
    { size := by simp
      left := fun i hi => ⟨fun _ => .inl (hall i hi), fun _ => hrep i hi⟩
      small := fun i hi => by simpa [Nat.blt_eq] using hsm i hi
      told := fun q hq => by cases hq
      pend := .nil
      down := fun j hj e => by rw [hrep j hj] at e; cases e
      early := fun q hq => by cases hq
      late := fun q hq => by cases hq
      form := hform
      agree := ⟨rfl, hd, hd, fun _ _ => rfl⟩
      env := hE
      tmps := hsz
      pok := fun q hq => by cases hq
      good := hG.mono_world ⟨rfl, rfl⟩ fun b o e => e
      le := .refl h }
  have h1 := dn_any hdag' (2 * l.length) (opsAt F p).size (Array.replicate (opsAt F p).size false) l [] [] a a { R with drawn := R.drawn + 1 } en ow h (by simp; omega) (by have := Nat.eq_of_beq_eq_true hlen; simp; omega) M hq
  obtain ⟨e, a', w', ⟨rfl, E', own', h', q0, q1, q2, q3, q4, q5⟩, harr⟩ := wp_region_any (id := id) hm h1 (base f) (td.map (It.item F)) cs
  refine Done.le q0 (Done.steps (m' := lone ((base f).at a' (td.map (It.item F))) cs w') ?_ (q1 a' w' fr cs q4 q3 q2 q5))
  have := harr
  simp only [Arrives] at this
  simpa [It.item, hr] using this

end Go.Vc
/- Short forms of the rules for loops, and small laws on numbers and lists of values. No condition. -/
namespace Go.Vc
set_option linter.unusedSimpArgs false
set_option linter.unusedVariables false
variable {P : Program} {f : FuncId} {F : Func} {K : Post} {h : PHeap}
variable {todo td : List It} {env en en' : Env} {own ow ow' : List Blk}

theorem wp_to (w : WP P f F K ⟨todo, en, own⟩ h) (hx : EnvSub env en) : WP P f F K ⟨todo, env, own⟩ h := wp_env hx w
/-- A loop's next round. -/
theorem wp_again (he : ev P F 100000 todo env own = .loop ⟨td, en, ow⟩) (w : WP P f F K ⟨td, en', ow⟩ h) (hx : EnvSub en en') : WP P f F K ⟨todo, env, own⟩ h := wp_back he (wp_env hx w)

/-- A loop over numbers. -/
theorem wp_for {σ : Type} (inv : σ → Prop) (μ : σ → Nat) (envs : σ → Env) (owns : σ → List Blk) (s0 : σ) (he : ev P F 100000 todo env own = .loop ⟨td, en, ow⟩) (h0 : inv s0) (ho : owns s0 = ow) (hx : EnvSub en (envs s0))
    (round : ∀ i, inv i → (∀ j, inv j → μ j < μ i → WP P f F K ⟨td, envs j, owns j⟩ h) → WP P f F K ⟨td, envs i, owns i⟩ h) : WP P f F K ⟨todo, env, own⟩ h :=
  wp_loop inv μ envs owns (fun _ => h) he round fun k => by
    subst ho
    exact wp_env hx (k s0 h0)

theorem eqI {k : IntKind} {x y : Int} (e : x = y) : some (SV.v (Value.int k x)) = some (SV.v (.int k y)) := by rw [e]
theorem eqV {x y : Value} (e : x = y) : some (SV.v x) = some (SV.v y) := by rw [e]
theorem wrap64 {x : Int} (h0 : -9223372036854775808 ≤ x) (h1 : x ≤ 9223372036854775807) : IntKind.wrap .i64 x = x := by
  simp only [IntKind.wrap, IntKind.signed, IntKind.bits, Bool.true_and]
  split
  · rename_i hh; have := of_decide_eq_true hh; omega
  · rename_i hh; have := of_decide_eq_false ((Bool.not_eq_true _).mp hh); omega
theorem wrapU32 {x : Int} (h0 : 0 ≤ x) (h1 : x ≤ 4294967295) : IntKind.wrap .u32 x = x := by
  simp only [IntKind.wrap, IntKind.signed, IntKind.bits, Bool.false_and, Bool.false_eq_true, if_false]
  omega

theorem at1 {α : Type} {l : List α} {i : Nat} {v : α} (hv : l[i]? = some v) : l[(i : Int).toNat * 1]? = some v := by
  rw [show (i : Int).toNat * 1 = i from by omega]; exact hv

/-- One value out of a slice of what stays. -/
theorem HSl.get1 {A : Option Addr} {n : Nat} {xs : List Value} (s : HSl h 1 A n xs) {i : Nat} (hi : i < n) : ∃ ad v, A = some ad ∧ xs[i]? = some v ∧ HCell h (ad.add (i * 1)) v := by
  have hl := s.1
  rcases s.2 with h0 | ⟨ad, e, c⟩
  · omega
  · have hlt : i < xs.length := by omega
    exact ⟨ad, xs[i], e, List.getElem?_eq_getElem hlt, by rw [Nat.mul_one]; exact c i _ (List.getElem?_eq_getElem hlt)⟩
theorem Chg.of_wp {vals : List Value} {B : Blk} {Q : Value → PHeap → Body → Prop} {env : Env} (hf : P.funcs[f]? = some F) (hcall : ∀ x R, (callFunc f x).run P R = .ok (.enter f x) R) (hb : F.body.isSome = true) (hn : Nat.ble vals.length F.ntmps = true)
    (he : initEnv 0 (vals.map ofConst) = env) (w : WP P f F (fun v h' own' => ∃ bd, own' = [{ B with body := bd }] ∧ Q v h' bd) ⟨[.code []], env, [B]⟩ h) : Chg P f vals h B Q := by
  subst he
  exact ⟨hcall, Spec.of_wp (vals.map ofConst) hf hb (by simpa using Nat.le_of_ble_eq_true hn) (by simp [conc_ofConst]) w⟩

theorem Mk.of_wp {vals : List Value} {Q : Value → PHeap → List Blk → Prop} {env : Env} (hf : P.funcs[f]? = some F) (hcall : ∀ x R, (callFunc f x).run P R = .ok (.enter f x) R) (hb : F.body.isSome = true) (hn : Nat.ble vals.length F.ntmps = true)
    (he : initEnv 0 (vals.map ofConst) = env) (w : WP P f F Q ⟨[.code []], env, []⟩ h) : Mk P f vals h Q := by
  subst he
  exact ⟨hcall, Spec.of_wp (vals.map ofConst) hf hb (by simpa using Nat.le_of_ble_eq_true hn) (by simp [conc_ofConst]) w⟩
end Go.Vc
/- Appending a string's bytes to a slice of the call's own. No condition. -/
namespace Go.Vc
open Go.Lib
set_option linter.unusedVariables false
set_option linter.unusedSimpArgs false
variable {P : Program} {f : FuncId} {F : Func} {K : Post} {h : PHeap}
variable {todo td : List It} {env en en' : Env} {own ow ow' : List Blk}

theorem app_string {R : World} {t u ty e : TypeId} {i : TypeInfo} {n : Nat} {xs : List Value} (hu : P.underlying t = some (.slice e)) (hu2 : P.underlying u = some .string) (hi : P.info? e = some i) (hz : i.zero = some (.int .u8 0)) (hsz : i.size = 1) (hby : i.bytes = 1)
    (v : Value) (hrow : R.ownsRow 0 e 1 v n xs) (s : ByteArray) (h63 : n + s.size ≤ maxLen) (hbytes : n + s.size ≤ 140737488355328) :
    ∃ v' R', (Builtin.append_ #[t, u] ty #[v, .string s]).run P R = .ok v' R' ∧ R'.ownsRow 0 e 1 v' (n + s.size) (xs ++ strCells s) ∧ R.grownBy R' v.ownBlock ∧ (v'.ownBlock = v.ownBlock ∨ v'.ownBlock = some R.heap.size) := by
  obtain ⟨v', R', h1, h2, h3, h4⟩ := run_append_own_string (P := P) R 0 t u ty e i hu hu2 hi hz hsz hby v n xs hrow s h63 hbytes (Nat.zero_le _)
  refine ⟨v', R', h1, h2, h3, ?_⟩
  rcases hrow.2 with ⟨rfl, rfl⟩ | ⟨g, cap, cur, rfl, hbg, hg, hnc, hcm, hcs, htake⟩
  · by_cases hm : s.size = 0
    · left; rw [h4.2 ⟨rfl, hm⟩]
    · have hr := run_append_nil_string (P := P) R t u ty e i (.int .u8 0) hu hu2 hi hz s (by omega) (by simp only [maxLen] at h63; omega) (by rw [hby]; simp only [maxLen] at h63; omega)
      rw [h1] at hr; injection hr with e1 e2; subst e1; right; rfl
  · by_cases hroom : n + s.size ≤ cap
    · have hr := run_append_room_string (P := P) R t u ty e i hu hu2 hi hsz g n cap cur hg s hroom (by simp only [Nat.mul_one] at hcs; omega)
      rw [h1] at hr; injection hr with e1 e2; subst e1; left; rfl
    · have hr := run_append_grow_string (P := P) R t u ty e i (.int .u8 0) hu hu2 hi hz ⟨g, 0, none⟩ n cap xs (by rw [hsz]; exact hrow.1) (hrow.cells (g := g) rfl) s (by omega) (by simp only [maxLen] at h63; omega) (by rw [hby]; exact growslice_fits (by omega) (by omega))
      rw [h1] at hr; injection hr with e1 e2; subst e1; right; rfl

/-- 'append(b, s...)', b the call's own, s a string. -/
theorem wp_apps {o : Oper} {d k n c : Nat} {x y : Operand} {s : ByteArray} {t u e : TypeId} {i : TypeInfo} {xs : List Value} {B : Blk}
    (sl : List Nat) (he : ev P F 100000 todo env own = .raw o ⟨td, en, ow⟩) (hd : o.dst = some d) (ho : o.op = .call { callee := .builtin .append, args := #[x, y], argTypes := #[t, u] })
    (hx : getS en x = some (.gs k n c)) (hy : getS en y = some (.v (.string s))) (hB : ow[k]? = some B)
    (hu : P.underlying t = some (.slice e)) (hu2 : P.underlying u = some .string) (hi : P.info? e = some i) (hz : i.zero = some (.int .u8 0)) (hsz : i.size = 1) (hby : i.bytes = 1)
    (hown : OwnSl B e 1 n c xs) (h63 : n + s.size ≤ maxLen) (hbytes : n + s.size ≤ 140737488355328)
    (hk : ∀ B' c' ow', OwnSl B' e 1 (n + s.size) c' (xs ++ strCells s) → setBlkF ow k B' = some ow' → WP P f F K ⟨td, (d, .gs k (n + s.size) c') :: pick k en sl, ow'⟩ h) : WP P f F K ⟨todo, env, own⟩ h := by
  refine StepV.wp he fun a R fr hE hG => ?_
  dsimp only at hE hG
  have hrow := ownsRow_of hG hB hown
  have hkl : k < ow.length := (List.getElem?_eq_some_iff.1 hB).1
  have hvx := getS_ok hE hx
  simp only [conc, hB, Option.some.injEq] at hvx
  have hvy := getS_ok hE hy
  simp only [conc, Option.some.injEq] at hvy
  have hexec : (execOp a.eval o).run P R = ((Builtin.append_ #[t, u] o.type #[.slice (nulAddr B) n c, .string s]).run P R).andThen fun v w => .ok (.value v) w := by
    unfold execOp
    simp only [ho, resolve, invoke, builtin, Sem.run_bind, Sem.run_pure, Result.andThen_ok, List.map_toArray, List.map_cons, List.map_nil, ← hvx, ← hvy]
  obtain ⟨v', R', hrun, hrow', hgr, hblk⟩ := app_string (ty := o.type) hu hu2 hi hz hsz hby _ hrow s h63 hbytes
  obtain ⟨B', c', rfl, hown', hB'⟩ := of_ownsRow hrow'
  refine ⟨.gs k (n + s.size) c', _, R', h, pick k en sl, ow.set k B', by rw [hexec, hrun]; rfl, .refl h, ?_, pick_env hE sl, ?_, ?_⟩
  · refine hG.replace ⟨hgr.os, hgr.output⟩ hB ?_ ?_
    · intro b hb hne
      refine hgr.block b hb ?_
      rcases hown.2 with ⟨q1, q2, _, _⟩ | ⟨q1, q2, _⟩
      · simp [nulAddr, q1, Value.ownBlock]
      · have := hne q2
        simp [nulAddr, q1, Value.ownBlock, this]
    · intro hl
      obtain ⟨e1, e2⟩ := hB' hl
      refine ⟨e1, ?_⟩
      rcases hblk with hb | hb
      · rw [e2] at hb
        rcases hown.2 with ⟨q1, q2, _, _⟩ | ⟨q1, q2, _⟩
        · simp [nulAddr, q1, Value.ownBlock] at hb
        · simp [nulAddr, q1, Value.ownBlock] at hb
          exact .inl ⟨q2, hb⟩
      · rw [e2] at hb; simp only [Option.some.injEq] at hb
        exact .inr (by omega)
  · simp [conc, hkl]
  · rw [hd]; exact hk B' c' _ hown' (setBlkF_some B' hkl)
end Go.Vc
/- Comparing arrays and structs. No condition. -/
namespace Go.Vc
set_option linter.unusedVariables false
set_option linter.unusedSimpArgs false
variable {P : Program} {f : FuncId} {F : Func} {K : Post} {h : PHeap}
variable {todo td : List It} {env en en' : Env} {own ow ow' : List Blk}

theorem run_part_int {e : TypeId} {k : IntKind} (hk : P.underlying e = some (.int k)) (R : World) {xs : Array Value} {j : Nat} {v : Value} (hv : xs[j]? = some v) : (part e xs j).run P R = .ok v R := by
  simp [part, isAgg, run_underlying hk, hv]

theorem run_eq_arr4 {t e : TypeId} {k : IntKind} {i : TypeInfo} (hu : P.underlying t = some (.array 4 e)) (hk : P.underlying e = some (.int k)) (hi : P.info? e = some i) (hc : P.cellsOf e = 1) (R : World) (a b c d a' b' c' d' : Int) :
    (Op.equalIn 10000 t (.agg ⟨[.int k a, .int k b, .int k c, .int k d]⟩) (.agg ⟨[.int k a', .int k b', .int k c', .int k d']⟩)).run P R = .ok ([a, b, c, d] == [a', b', c', d']) R := by
  rw [show (10000 : Nat) = 9998 + 1 + 1 from rfl, run_equalIn_array R (9998 + 1) _ _ hu hi, hc]
  have key : ∀ (j : Nat) (v : Value) (xs : Array Value), xs[j]? = some v → (part e xs (j * 1)).run P R = .ok v R := fun j v xs hv => run_part_int hk R (by rw [Nat.mul_one]; exact hv)
  rw [show List.range 4 = [0, 1, 2, 3] from rfl]
  have hq : ∀ x y : Int, (Op.equalIn (9998 + 1) e (.int k x) (.int k y)).run P R = .ok (x == y) R := fun x y => run_equalIn_int R 9998 e k k x y hk
  simp only [Op.eqItems, Sem.run_bind, Sem.run_ite, Sem.run_pure, key 0 (.int k a) ⟨[.int k a, .int k b, .int k c, .int k d]⟩ rfl, key 1 (.int k b) ⟨[.int k a, .int k b, .int k c, .int k d]⟩ rfl, key 2 (.int k c) ⟨[.int k a, .int k b, .int k c, .int k d]⟩ rfl, key 3 (.int k d) ⟨[.int k a, .int k b, .int k c, .int k d]⟩ rfl,
    key 0 (.int k a') ⟨[.int k a', .int k b', .int k c', .int k d']⟩ rfl, key 1 (.int k b') ⟨[.int k a', .int k b', .int k c', .int k d']⟩ rfl, key 2 (.int k c') ⟨[.int k a', .int k b', .int k c', .int k d']⟩ rfl, key 3 (.int k d') ⟨[.int k a', .int k b', .int k c', .int k d']⟩ rfl, Result.andThen_ok, hq]
  by_cases h1 : a = a' <;> by_cases h2 : b = b' <;> by_cases h3 : c = c' <;> by_cases h4 : d = d' <;> simp [h1, h2, h3, h4]

theorem exec_eq_arr4 {t e yt : TypeId} {k : IntKind} {i : TypeInfo} {o : Oper} {x y : Operand} {s : Act} (ho : o.op = .binOp .eql t x y yt) (hm : P.eqGuardType P.depth t = false) (hu : P.underlying t = some (.array 4 e)) (hk : P.underlying e = some (.int k)) (hi : P.info? e = some i) (hc : P.cellsOf e = 1)
    {a b c d a' b' c' d' : Int} (hx : s.eval x = .agg ⟨[.int k a, .int k b, .int k c, .int k d]⟩) (hy : s.eval y = .agg ⟨[.int k a', .int k b', .int k c', .int k d']⟩) (R : World) :
    (execOp s.eval o).run P R = .ok (.value (.bool ([a, b, c, d] == [a', b', c', d']))) R := by
  unfold execOp
  simp only [ho, hx, hy, Sem.run_bind, run_eqGuard_agg R _ t x y _ _ hm, run_eql_struct, run_eq_arr4 hu hk hi hc, Result.andThen_ok, Sem.run_pure]
end Go.Vc
/- A slice of the call's own is given to what stays; a slice of what stays, read. No condition. -/
namespace Go.Vc
set_option linter.unusedVariables false
set_option linter.unusedSimpArgs false
variable {P : Program} {f : FuncId} {F : Func} {K : Post} {h : PHeap}
variable {todo td : List It} {env en en' : Env} {own ow ow' : List Blk}

theorem wp_fsl (k : Nat) {B : Blk} {e : TypeId} {size n c : Nat} {xs : List Value} {ow' : List Blk} (hB : own[k]? = some B) (ho : killF own k = some ow') (hs : OwnSl B e size n c xs)
    (hk : ∀ h', h.le h' → HSl h' size (nulAddr B) n xs → WP P f F K ⟨todo, env, ow'⟩ h') : WP P f F K ⟨todo, env, own⟩ h := by
  obtain ⟨hl, ⟨h1, h2, rfl, rfl⟩ | ⟨h1, h2, h3, h4, sp, h5, h6⟩⟩ := hs
  · have hxs : xs = [] := List.eq_nil_of_length_eq_zero (by simpa using hl)
    subst hxs
    have e1 : ow' = own := by
      rw [killF_eq hB ho]
      have : ({ B with live := false } : Blk) = B := by cases B; simp_all
      rw [this]; exact get_set_self hB
    subst e1
    exact hk h (.refl h) ⟨hl, .inl rfl⟩
  · obtain ⟨id, nu, lv, bd⟩ := B
    dsimp only at h1 h2 h5
    subst h1 h2 h5
    refine wp_freeze k hB ho fun h' hle hb => hk h' hle ⟨hl, .inr ⟨⟨id, 0, none⟩, by simp only [nulAddr], fun j v hj => ?_⟩⟩
    rw [addr_add, Nat.zero_add]
    refine ⟨rfl, _, _, _, hb, ?_⟩
    show (⟨xs ++ sp⟩ : Array Value)[j]? = some v
    simp only [List.getElem?_toArray]
    rw [List.getElem?_append_left (List.getElem?_eq_some_iff.1 hj).1]; exact hj

/-- The first cells of a block of the call's own, that stay alive. -/
theorem OwnSl.len {B : Blk} {e : TypeId} {size n c : Nat} {xs : List Value} (o : OwnSl B e size n c xs) : xs.length = n * size := o.1
/-- A loop's next round, blocks of the round forgotten. -/
theorem wp_againS {l : List Blk} (he : ev P F 100000 todo env own = .loop ⟨td, en, ow⟩) (w : WP P f F K ⟨td, en', ow'⟩ h) (hx : EnvSub en en') (hl : ow = ow' ++ l) (hc : EnvIn ow' en') : WP P f F K ⟨todo, env, own⟩ h :=
  wp_back he (wp_sub hx hl hc w)
end Go.Vc
/- One place of a slice of the call's own: read, written; the rules for regions whose order Go leaves open. No condition. -/
namespace Go.Vc
set_option linter.unusedVariables false
set_option linter.unusedSimpArgs false
variable {P : Program} {f : FuncId} {F : Func} {K : Post} {h : PHeap}
variable {todo td : List It} {env en en' : Env} {own ow ow' : List Blk}

theorem setF_one : ∀ {l : List Value} {i : Nat} {v : Value}, i < l.length → v.oneCell' = true → setF i [v] l = some (l.set i v) := by
  intro l
  induction l with
  | nil => intro i v h; simp at h
  | cons x l ih =>
    intro i v h hv
    cases i with
    | zero => simp [setF, hv]
    | succ i => simp only [setF, ih (by simpa using h) hv]; rfl

/-- What a written place leaves. -/
theorem OwnSl.put {B : Blk} {e : TypeId} {n c : Nat} {xs : List Value} (o : OwnSl B e 1 n c xs) {i : Nat} (hi : i < n) (v : Value) :
    ∃ l bd, B = ⟨B.id, B.nul, true, .cells l e⟩ ∧ i < l.length ∧ bd = Body.cells (l.set i v) e ∧ OwnSl ⟨B.id, B.nul, B.live, bd⟩ e 1 n c (xs.set i v) := by
  obtain ⟨hl, ⟨h1, h2, rfl, rfl⟩ | ⟨h1, h2, h3, h4, sp, h5, h6⟩⟩ := o
  · omega
  · obtain ⟨id, nu, lv, bd⟩ := B
    dsimp only at h1 h2 h5
    subst h1 h2 h5
    have hix : i < xs.length := by omega
    refine ⟨xs ++ sp, _, rfl, by rw [List.length_append]; omega, rfl, by simpa using hl, .inr ⟨rfl, rfl, h3, h4, sp, ?_, ?_⟩⟩
    · rw [List.set_append_left _ _ hix]
    · simpa using h6

theorem put_core {B : Blk} {k : Nat} {e : TypeId} {n c : Nat} {xs : List Value} {i off : Nat} {v : Value} {m : Option Nat} (hB : ow[k]? = some B) (o : OwnSl B e 1 n c xs) (hoff : off = i) (hi : i < n) (hv : v.oneCell' = true) (hc : cellsOfV v = [v]) (hm : m.getD 1 = 1) :
    ∃ bd, OwnSl ⟨B.id, B.nul, B.live, bd⟩ e 1 n c (xs.set i v) ∧ (∀ (R : World) (fr : Frm) t, sizeAt P t = some m → Good R h ow fr → ∃ R', (storeVar t ⟨B.id, off, none⟩ v).run P R = .ok () R' ∧ Good R' h (setBody ow k bd) fr) ∧ Keeps ow (setBody ow k bd) := by
  subst hoff
  obtain ⟨l, bd, hBe, hil, rfl, ho⟩ := o.put hi v
  refine ⟨_, ho, fun R fr t ht hG => ?_, ?_⟩
  · have hsz : (sizeOf t).run P R = .ok v.cells.size R := by
      have hn : (cellsOfV v).length = m.getD 1 := by rw [hc, hm]; rfl
      rw [cellsOfV_eq] at hn
      cases m with
      | some m => rw [(sizeAt_some ht R).2]; simp at hn; rw [hn]
      | none => rw [(sizeAt_none ht R).2]; simp at hn; rw [hn]
    have hs := setF_one hil hv
    rw [← hc, cellsOfV_eq] at hs
    exact store_own hG (hBe ▸ hB) hsz hs
  · intro x u hu; rw [setBody_eq _ hB, conc_set _ hB]; exact hu

theorem wp_put {B : Blk} {k : Nat} {e : TypeId} {n c : Nat} {xs : List Value} {off : Nat} {v : Value} {m : Option Nat} (i : Nat) (he : ev P F 100000 todo env own = .storex k off m v ⟨td, en, ow⟩) (hB : ow[k]? = some B) (o : OwnSl B e 1 n c xs) (hoff : off = i) (hi : i < n) (hv : v.oneCell' = true) (hc : cellsOfV v = [v]) (hm : m.getD 1 = 1)
    (hk : ∀ bd ow', OwnSl ⟨B.id, B.nul, B.live, bd⟩ e 1 n c (xs.set i v) → setBodyF ow k bd = some ow' → WP P f F K ⟨td, en, ow'⟩ h) : WP P f F K ⟨todo, env, own⟩ h := by
  obtain ⟨bd, h1, h2, h3⟩ := put_core (P := P) (h := h) hB o hoff hi hv hc hm
  exact wp_ev he ⟨B, setBody ow k bd, hB, h2, h3, hk bd _ h1 (setBodyF_eq _ _ _)⟩

section
variable {p : List Nat} {l l' : List Nat} {d : Nat} {s : St}
theorem dn_ev {e : NEv} (he : nev P F p 10000 l env own = e) (hk : NOK P f F K p td h e) : DN P f F K p td l env own h := dn_of_nev 10000 l env own (he ▸ hk)
theorem dn_done (he : nev P F p 10000 l env own = .done en ow) (hk : WP P f F K ⟨td, en, ow⟩ h) : DN P f F K p td l env own h := dn_ev he hk
theorem dn_brT {b : Bool} {t : Nat} (he : nev P F p 10000 l env own = .br b t l' en ow) (hb : b = true) (hk : DN P f F K p td l' ((t, .tt) :: en) ow h) : DN P f F K p td l env own h := dn_ev he ⟨fun _ => hk, fun h2 => by rw [hb] at h2; exact absurd h2 (by decide)⟩
theorem dn_brF {b : Bool} {t : Nat} (he : nev P F p 10000 l env own = .br b t l' en ow) (hb : b = false) (hk : DN P f F K p td l' ((t, .ff) :: en) ow h) : DN P f F K p td l env own h := dn_ev he ⟨fun h2 => by rw [hb] at h2; exact absurd h2 (by decide), fun _ => hk⟩
theorem dn_br {b : Bool} {t : Nat} (he : nev P F p 10000 l env own = .br b t l' en ow) (h1 : b = true → DN P f F K p td l' ((t, .tt) :: en) ow h) (h2 : b = false → DN P f F K p td l' ((t, .ff) :: en) ow h) : DN P f F K p td l env own h := dn_ev he ⟨h1, h2⟩
theorem dn_load {q : Addr} {v : Value} {od : Option Nat} (he : nev P F p 10000 l env own = .ev (.load none q od s) (some d) 0 l' en ow) (hc : HCell h q v) (hk : DN P f F K p td l' ((d, .v v) :: en) ow h) : DN P f F K p td l env own h :=
  dn_ev he ⟨rfl, v, fun R fr hG => hc.cell hG, hk⟩
theorem dn_loads {q : Addr} {m : Nat} {vs : List Value} {od : Option Nat} (he : nev P F p 10000 l env own = .ev (.load (some m) q od s) (some d) 0 l' en ow) (hl : vs.length = m) (hc : HCells h q vs) (hk : DN P f F K p td l' ((d, .v (.agg ⟨vs⟩)) :: en) ow h) : DN P f F K p td l env own h :=
  dn_ev he ⟨rfl, vs, hl, fun R fr hG j v hj => (hc j v hj).cell hG, hk⟩
theorem dn_loadx {k off : Nat} {B : Blk} {c : List Value} {ty : TypeId} {v : Value} {od : Option Nat} (he : nev P F p 10000 l env own = .ev (.loadx k off none od s) (some d) 0 l' en ow) (hB : ow[k]? = some B) (hl : B.live = true) (hb : B.body = .cells c ty) (hv : c[off]? = some v) (hk : DN P f F K p td l' ((d, .v v) :: en) ow h) : DN P f F K p td l env own h :=
  dn_ev he ⟨rfl, B, c, ty, v, hB, hl, hb, hv, hk⟩
theorem dn_need {φ : Prop} {x : Value} {od : Option Nat} (he : nev P F p 10000 l env own = .ev (.need φ x od s) (some d) 0 l' en ow) (hφ : φ) (hk : DN P f F K p td l' ((d, .v x) :: en) ow h) : DN P f F K p td l env own h :=
  dn_ev he ⟨rfl, hφ, hk⟩
theorem dn_idx {A : Option Addr} {n : Nat} {i : Int} {size : Nat} {od : Option Nat} (ad : Addr) (he : nev P F p 10000 l env own = .ev (.idx A n i size od s) (some d) 0 l' en ow) (hA : A = some ad) (h0 : 0 ≤ i) (h1 : i < n) (hk : DN P f F K p td l' ((d, .v (.pointer (some (ad.add (i.toNat * size))))) :: en) ow h) : DN P f F K p td l env own h :=
  dn_ev he ⟨rfl, ad, hA, h0, h1, hk⟩
theorem dn_idxo {k off n : Nat} {i : Int} {size : Nat} {od : Option Nat} (he : nev P F p 10000 l env own = .ev (.idxo k off n i size od s) (some d) 0 l' en ow) (h0 : 0 ≤ i) (h1 : i < n) (hk : DN P f F K p td l' ((d, .locx k (off + i.toNat * size)) :: en) ow h) : DN P f F K p td l env own h :=
  dn_ev he ⟨rfl, h0, h1, hk⟩
theorem dn_idxg {k n : Nat} {i : Int} {size : Nat} {B : Blk} {od : Option Nat} (he : nev P F p 10000 l env own = .ev (.idxg k n i size od s) (some d) 0 l' en ow) (hB : ow[k]? = some B) (hn : B.nul = false) (h0 : 0 ≤ i) (h1 : i < n) (hk : DN P f F K p td l' ((d, .locx k (i.toNat * size)) :: en) ow h) : DN P f F K p td l env own h :=
  dn_ev he ⟨rfl, ⟨B, hB, hn⟩, h0, h1, hk⟩
theorem dn_pure {g : FuncId} {args : List Value} {Q : Value → PHeap → Prop} {od : Option Nat} (he : nev P F p 10000 l env own = .ev (.call g args od s) (some d) 1 l' en ow) (hc : Pure P g args h Q) (hk : ∀ v h', h.le h' → Q v h' → DN P f F K p td l' ((d, .v v) :: en) ow h') : DN P f F K p td l env own h := by
  refine dn_ev he ⟨rfl, hc.1, fun R fr hG => (hc.2 R (frameOf fr ow) (Good.frame_in (A := []) hG)).mono ?_⟩
  rintro e R' ⟨v, h', own', rfl, hle, ⟨rfl, hQ⟩, hG'⟩
  refine ⟨v, rfl, .v v, h', [], hle, ?_, rfl, ?_⟩
  · simpa using Good.frame_out (A := []) (A' := []) hG hG'
  · simpa using hk v h' hle hQ
theorem dn_raw {o : Oper} {v : Value} (he : nev P F p 10000 l env own = .raw o 0 l' en ow) (hd : o.dst = some d) (hr : ∀ a, EnvOK a en ow → ∀ (R : World) (fr : Frm), Good R h ow fr → (execOp a.eval o).run P R = .ok (.value v) R) (hk : DN P f F K p td l' ((d, .v v) :: en) ow h) : DN P f F K p td l env own h :=
  dn_ev he ⟨d, hd, .inl ⟨rfl, v, hr, hk⟩⟩
theorem dn_put {B : Blk} {k : Nat} {e : TypeId} {n c : Nat} {xs : List Value} {off : Nat} {v : Value} {m : Option Nat} {od : Option Nat} {cl : Nat} (i : Nat) (he : nev P F p 10000 l env own = .ev (.storex k off m v s) od cl l' en ow) (hod : od = none) (hcl : cl = 2) (hB : ow[k]? = some B) (o : OwnSl B e 1 n c xs) (hoff : off = i) (hi : i < n) (hv : v.oneCell' = true) (hc : cellsOfV v = [v]) (hm : m.getD 1 = 1)
    (hk : ∀ bd ow', OwnSl ⟨B.id, B.nul, B.live, bd⟩ e 1 n c (xs.set i v) → setBodyF ow k bd = some ow' → DN P f F K p td l' en ow' h) : DN P f F K p td l env own h := by
  obtain ⟨bd, h1, h2, h3⟩ := put_core (P := P) (h := h) hB o hoff hi hv hc hm
  exact dn_ev he ⟨hod, hcl, B, setBody ow k bd, hB, h2, h3, hk bd _ h1 (setBodyF_eq _ _ _)⟩
end
theorem off1 (i : Nat) : (i : Int).toNat * 1 = i := by omega
theorem wrapE (x : Int) : IntKind.wrap .i64 x = (x + 9223372036854775808) % 18446744073709551616 - 9223372036854775808 := by
  simp only [IntKind.wrap, IntKind.signed, IntKind.bits, Bool.true_and]
  split
  · rename_i hh; have := of_decide_eq_true hh; omega
  · rename_i hh; have := of_decide_eq_false ((Bool.not_eq_true _).mp hh); omega

section
variable {p : List Nat} {l l' : List Nat} {d : Nat} {s : St} {Kq : Env → Prop}
theorem wp_idxgn {k n : Nat} {i : Int} {size : Nat} {d : Nat} {B : Blk} (m : Nat) (he : ev P F 100000 todo env own = .idxg k n i size (some d) ⟨td, en, ow⟩) (hB : ow[k]? = some B) (hn : B.nul = false) (hi : i = m) (hm : m < n)
    (hk : WP P f F K ⟨td, (d, .locx k ((m : Int).toNat * size)) :: en, ow⟩ h) : WP P f F K ⟨todo, env, own⟩ h := by
  subst hi
  exact wp_idxg he hB hn (by omega) (by omega) hk
theorem dq_idxgn {k n : Nat} {i : Int} {size : Nat} {B : Blk} (m : Nat) (he : qev P F p own 10000 l env = .ev (.idxg k n i size (some d) s) l' en) (hB : own[k]? = some B) (hn : B.nul = false) (hi : i = m) (hm : m < n) (hk : DQ P F p h own Kq l' ((d, .locx k ((m : Int).toNat * size)) :: en)) : DQ P F p h own Kq l env := by
  subst hi
  exact dq_idxg he hB hn (by omega) (by omega) hk
theorem dn_idxgn {k n : Nat} {i : Int} {size : Nat} {B : Blk} {od : Option Nat} (m : Nat) (he : nev P F p 10000 l env own = .ev (.idxg k n i size od s) (some d) 0 l' en ow) (hB : ow[k]? = some B) (hn : B.nul = false) (hi : i = m) (hm : m < n) (hk : DN P f F K p td l' ((d, .locx k ((m : Int).toNat * size)) :: en) ow h) : DN P f F K p td l env own h := by
  subst hi
  exact dn_idxg he hB hn (by omega) (by omega) hk
end

/-- The same values, in other words. -/
def EnvCo (own : List Blk) (env : Env) : Env → Prop
  | [] => True
  | (i, x) :: l => (∃ y, get env i = some y ∧ conc own y = conc own x) ∧ EnvCo own env l

theorem EnvCo.ok {own : List Blk} {env : Env} {a : Act} (hE : EnvOK a env own) : ∀ {l : Env}, EnvCo own env l → EnvOK a l own := by
  intro l
  induction l with
  | nil => intro _ i x hx; cases hx
  | cons q l ih =>
    obtain ⟨j, z⟩ := q
    intro hs i x hx
    rw [get_cons] at hx
    by_cases hj : j = i
    · subst hj; rw [if_pos rfl] at hx; cases hx
      obtain ⟨y, h1, h2⟩ := hs.1
      obtain ⟨v, h3, h4⟩ := hE _ y h1
      exact ⟨v, by rw [← h2]; exact h3, h4⟩
    · rw [if_neg hj] at hx; exact ih hs.2 i x hx

theorem wp_co {en : Env} (w : WP P f F K ⟨todo, en, own⟩ h) (hx : EnvCo own env en) : WP P f F K ⟨todo, env, own⟩ h :=
  wp_as (fun a hE => EnvCo.ok hE hx) (List.Sublist.refl own) w

/-- A region that only reads, what it leaves told in words of one's own. -/
theorem wp_drawc {p : List Nat} {id : Nat} (en2 : Env) (he : ev P F 100000 todo env own = .draw p ⟨td, en, ow⟩) (hm : P.follows .mixedOrders = true) (hB : Region.lexB .any (opsAt F p) = true) (hr : sub (bodyOf F) p = .region id (opsAt F p) true)
    (hq : DQ P F p h ow (fun env' => EnvCo ow env' en2) (List.range (opsAt F p).size) en) (w : WP P f F K ⟨td, en2, ow⟩ h) : WP P f F K ⟨todo, env, own⟩ h :=
  wp_draw he hm hB hr (fun a fr hE hsz hd => by
    have mono : ∀ (l : List Oper) (a : Act), wpQuiet P (opsAt F p) (fun R => Good R h ow fr) (fun a' => ∃ env', EnvCo ow env' en2 ∧ EnvOK a' env' ow ∧ a'.tmps.size = F.ntmps ∧ a'.defers = []) l a →
        wpQuiet P (opsAt F p) (fun R => Good R h ow fr) (fun a' => ∃ env', WP P f F K ⟨td, env', ow⟩ h ∧ EnvOK a' env' ow ∧ a'.tmps.size = F.ntmps ∧ a'.defers = []) l a := by
      intro l
      induction l with
      | nil => intro a ⟨env', q1, q2, q3, q4⟩; exact ⟨env', wp_co w q1, q2, q3, q4⟩
      | cons o l ih =>
        intro a hh
        unfold wpQuiet at hh ⊢
        split
        · rename_i hw; rw [if_pos hw] at hh; exact Oper.quiet_mono (ih) hh
        · rename_i hw; rw [if_neg hw] at hh; exact ih _ hh
    exact mono _ _ (hq a fr hE hsz hd))

/-- A contract of a call that changes one block, its arguments told in the words of the block. -/
theorem Chg.of_wps {vals : List Value} {B : Blk} {Q : Value → PHeap → Body → Prop} {env : Env} (args : List SV) (hf : P.funcs[f]? = some F) (hcall : ∀ x R, (callFunc f x).run P R = .ok (.enter f x) R) (hb : F.body.isSome = true) (hn : Nat.ble args.length F.ntmps = true)
    (hc : args.map (conc [B]) = vals.map some) (he : initEnv 0 args = env) (w : WP P f F (fun v h' own' => ∃ bd, own' = [{ B with body := bd }] ∧ Q v h' bd) ⟨[.code []], env, [B]⟩ h) : Chg P f vals h B Q := by
  subst he
  exact ⟨hcall, Spec.of_wp args hf hb (Nat.le_of_ble_eq_true hn) hc w⟩
end Go.Vc
/- A call that is handed all that its caller owns. No condition. -/
namespace Go.Vc
set_option linter.unusedVariables false
set_option linter.unusedSimpArgs false
variable {P : Program} {f : FuncId} {F : Func} {K : Post} {h : PHeap}
variable {todo td : List It} {env en en' : Env} {own ow ow' : List Blk}

/-- The same blocks, whatever they hold. -/
def SameIds : List Blk → List Blk → Prop
  | [], [] => True
  | A :: l, B :: m => A.id = B.id ∧ A.nul = B.nul ∧ SameIds l m
  | _, _ => False

theorem SameIds.at : ∀ {l m : List Blk} {k : Nat} {A : Blk}, SameIds l m → l[k]? = some A → ∃ B : Blk, m[k]? = some B ∧ A.id = B.id ∧ A.nul = B.nul := by
  intro l
  induction l with
  | nil => intro m k A _ h; simp at h
  | cons X l ih =>
    intro m k A hs h
    cases m with
    | nil => exact hs.elim
    | cons Y m =>
      cases k with
      | zero => simp at h; subst h; exact ⟨Y, rfl, hs.1, hs.2.1⟩
      | succ k => simp at h; simpa using ih hs.2.2 h

theorem SameIds.keeps {l m : List Blk} (hs : SameIds l m) : Keeps l m := by
  intro x v hx
  cases x with
  | v x => exact hx
  | tt => exact hx
  | ff => exact hx
  | loc j off =>
    simp only [conc] at hx ⊢
    split at hx
    · rename_i A hA; obtain ⟨B, h1, h2, h3⟩ := hs.at hA; rw [h1]; simpa [← h2] using hx
    · cases hx
  | locx j off =>
    simp only [conc] at hx ⊢
    split at hx
    · rename_i A hA; obtain ⟨B, h1, h2, h3⟩ := hs.at hA; rw [h1]; simpa [← h2] using hx
    · cases hx
  | gs j n c =>
    simp only [conc] at hx ⊢
    split at hx
    · rename_i A hA; obtain ⟨B, h1, h2, h3⟩ := hs.at hA; rw [h1]; simpa [nulAddr, ← h2, ← h3] using hx
    · cases hx

/-- A call that changes what its caller owns. -/
def All (P : Program) (g : FuncId) (args : List Value) (h : PHeap) (own : List Blk) (Q : Value → PHeap → List Blk → Prop) : Prop :=
  Fine P g ∧ Spec P g args h own Q

theorem wp_all {g : FuncId} {args : List Value} {d : Nat} {Q : Value → PHeap → List Blk → Prop} (he : ev P F 100000 todo env own = .call g args (some d) ⟨td, en, ow⟩) (hc : All P g args h ow Q)
    (hk : ∀ v h' own', h.le h' → Q v h' own' → SameIds ow own' ∧ WP P f F K ⟨td, (d, .v v) :: en, own'⟩ h') : WP P f F K ⟨todo, env, own⟩ h := by
  refine wp_ev he ⟨hc.1, fun R fr hG => (hc.2 R fr hG).mono ?_⟩
  rintro e R' ⟨v, h', own', rfl, hle, hQ, hG'⟩
  obtain ⟨h1, h2⟩ := hk v h' own' hle hQ
  exact ⟨v, rfl, .v v, h', own', hle, hG', h1.keeps, rfl, h2⟩

theorem All.of_wps {vals : List Value} {Q : Value → PHeap → List Blk → Prop} {env : Env} (args : List SV) (hf : P.funcs[f]? = some F) (hcall : ∀ x R, (callFunc f x).run P R = .ok (.enter f x) R) (hb : F.body.isSome = true) (hn : Nat.ble args.length F.ntmps = true)
    (hc : args.map (conc own) = vals.map some) (he : initEnv 0 args = env) (w : WP P f F Q ⟨[.code []], env, own⟩ h) : All P f vals h own Q := by
  subst he
  exact ⟨hcall, Spec.of_wp args hf hb (Nat.le_of_ble_eq_true hn) hc w⟩
/-- A loop, entered in words of one's own. -/
theorem wp_forc {σ : Type} (inv : σ → Prop) (μ : σ → Nat) (envs : σ → Env) (owns : σ → List Blk) (s0 : σ) (he : ev P F 100000 todo env own = .loop ⟨td, en, ow⟩) (h0 : inv s0) (ho : owns s0 = ow) (hx : EnvCo ow en (envs s0))
    (round : ∀ i, inv i → (∀ j, inv j → μ j < μ i → WP P f F K ⟨td, envs j, owns j⟩ h) → WP P f F K ⟨td, envs i, owns i⟩ h) : WP P f F K ⟨todo, env, own⟩ h :=
  wp_loop inv μ envs owns (fun _ => h) he round fun k => by
    subst ho
    exact wp_co (k s0 h0) hx
/-- The next round, in words of one's own. -/
theorem wp_againc (he : ev P F 100000 todo env own = .loop ⟨td, en, ow⟩) (w : WP P f F K ⟨td, en', ow⟩ h) (hx : EnvCo ow en en') : WP P f F K ⟨todo, env, own⟩ h := wp_back he (wp_co w hx)
/-- Ahead of a region whose order Go leaves open: several ways meet there. -/
theorem wp_atdraw {p : List Nat} (he : ev P F 100000 todo env own = .draw p ⟨td, en, ow⟩) (w : WP P f F K ⟨.code p :: td, en', ow⟩ h) (hx : EnvCo ow en en') : WP P f F K ⟨todo, env, own⟩ h := wp_ev he (wp_co w hx)
end Go.Vc
/- A slice of the call's own from some place on; its places cleared. No condition. -/
namespace Go.Vc
set_option linter.unusedVariables false
set_option linter.unusedSimpArgs false
variable {P : Program} {f : FuncId} {F : Func} {K : Post} {h : PHeap}
variable {todo td : List It} {env en en' : Env} {own ow ow' : List Blk}

/-- 's[l:]', s the call's own: told as a value. -/
theorem wp_gslo {o : Oper} {d k : Nat} {t e : TypeId} {x : Operand} {B : Blk} {n c : Nat} {lo : Option Operand} {i : TypeInfo} (l size : Nat) (he : ev P F 100000 todo env own = .raw o ⟨td, en, ow⟩) (hd : o.dst = some d) (ho : o.op = .slice t x lo none none)
    (hx : getS en x = some (.gs k n c)) (hB : ow[k]? = some B) (hu : P.underlying t = some (.slice e)) (hi' : P.info? e = some i) (hsz : i.size = size) (hl : Bnd en lo 0 l) (hln : l ≤ n) (hnc : n ≤ c)
    (hk : WP P f F K ⟨td, (d, .v (.slice (if c = l then nulAddr B else (nulAddr B).map (·.add (l * size))) (n - l) (c - l))) :: en, ow⟩ h) : WP P f F K ⟨todo, env, own⟩ h := by
  subst hsz
  refine wp_raw he hd (fun a hE R fr hG => ?_) hk
  have h1 := getS_ok hE hx
  simp only [conc, hB, Option.some.injEq] at h1
  have hb := run_bounds (P := P) (R := R) hE true (hi := none) (r := n) (len := n) (cap := c) hl rfl hln hnc
  simp only [Option.map_none] at hb
  simp only [execOp, ho, ← h1, Instr.sliceAt, Instr.slice, Sem.run_bind, run_underlying hu, Result.andThen_ok, Option.map_none, info_size hi', Sem.run_pure, hb]

theorem dn_load_own {p : List Nat} {l l' : List Nat} {d : Nat} {s : St} {td : List It} (k : Nat) {q : Addr} {B : Blk} {c : List Value} {ty : TypeId} {v : Value} {od : Option Nat} (he : nev P F p 10000 l env own = .ev (.load none q od s) (some d) 0 l' en ow) (hB : ow[k]? = some B) (hl : B.live = true) (hb : B.body = .cells c ty) (hp : q = ⟨B.id, q.off, none⟩) (hv : c[q.off]? = some v)
    (hk : DN P f F K p td l' ((d, .v v) :: en) ow h) : DN P f F K p td l env own h :=
  dn_ev he ⟨rfl, v, fun R fr hG => by rw [hp, hG.cellAt hB hl hb]; exact hv, hk⟩

theorem dn_load_at {p : List Nat} {l l' : List Nat} {d : Nat} {s : St} {td : List It} (k j : Nat) {q : Addr} {B : Blk} {c : List Value} {ty : TypeId} {v : Value} {od : Option Nat} (he : nev P F p 10000 l env own = .ev (.load none q od s) (some d) 0 l' en ow) (hB : ow[k]? = some B) (hl : B.live = true) (hb : B.body = .cells c ty) (hp : q = ⟨B.id, j, none⟩) (hv : c[j]? = some v)
    (hk : DN P f F K p td l' ((d, .v v) :: en) ow h) : DN P f F K p td l env own h :=
  dn_ev he ⟨rfl, v, fun R fr hG => by rw [hp, hG.cellAt hB hl hb]; exact hv, hk⟩
theorem wp_load_at (k j : Nat) {q : Addr} {d : Nat} {B : Blk} {c : List Value} {ty : TypeId} {v : Value} (he : ev P F 100000 todo env own = .load none q (some d) ⟨td, en, ow⟩) (hB : ow[k]? = some B) (hl : B.live = true) (hb : B.body = .cells c ty) (hp : q = ⟨B.id, j, none⟩) (hv : c[j]? = some v)
    (hk : WP P f F K ⟨td, (d, .v v) :: en, ow⟩ h) : WP P f F K ⟨todo, env, own⟩ h :=
  wp_ev he ⟨v, fun R fr hG => by rw [hp, hG.cellAt hB hl hb]; exact hv, hk⟩

/-- 'clear(s[o:])', s the call's own. -/
theorem wp_clear {o : Oper} {k : Nat} {x : Operand} {t e : TypeId} {z : Value} {B : Blk} {n c nn cc off : Nat} {xs : List Value} (he : ev P F 100000 todo env own = .raw o ⟨td, en, ow⟩) (hd : o.dst = none) (ho : o.op = .call { callee := .builtin .clear, args := #[x], argTypes := #[t] })
    (A : Option Addr) (hx : getS en x = some (.v (.slice A nn cc))) (hB : ow[k]? = some B) (hu : P.underlying t = some (.slice e)) {i : TypeInfo} (hi : P.info? e = some i) (hz : i.zero = some z) (hzc : z.cells = #[z]) (h1 : z.oneCell' = true)
    (hA : nn = 0 ∨ A = some ⟨B.id, off, none⟩) (hown : OwnSl B e 1 n c xs) (hoff : off + nn = n)
    (hk : ∀ bd ow', OwnSl ⟨B.id, B.nul, B.live, bd⟩ e 1 n c (xs.take off ++ List.replicate nn z) → setBodyF ow k bd = some ow' → WP P f F K ⟨td, en, ow'⟩ h) : WP P f F K ⟨todo, env, own⟩ h := by
  have hzv : ∀ w, (zeroValue e).run P w = .ok z w := fun w => by simp [zeroValue, typeInfo, hi, hz]
  refine StepV.wp he fun a R fr hE hG => ?_
  dsimp only at hE hG
  have hvx := getS_ok hE hx
  simp only [conc, Option.some.injEq] at hvx
  have hexec : (execOp a.eval o).run P R = ((Builtin.clear_ #[t] o.type #[.slice A nn cc]).run P R).andThen fun v w => .ok (.value v) w := by
    unfold execOp
    simp only [ho, resolve, invoke, builtin, Sem.run_bind, Sem.run_pure, Result.andThen_ok, List.map_toArray, List.map_cons, List.map_nil, ← hvx]
  have hxl : xs.length = n := by have := hown.1; omega
  rcases Nat.eq_zero_or_pos nn with h0 | h0
  · subst h0
    have hrun : (Builtin.clear_ #[t] o.type #[.slice A 0 cc]).run P R = .ok (.tuple #[]) R := by
      cases A <;> simp [Builtin.clear_, run_underlying hu]
    refine ⟨.v (.tuple #[]), .tuple #[], R, h, en, ow, by rw [hexec, hrun]; rfl, .refl h, hG, hE, rfl, ?_⟩
    rw [hd]
    refine hk B.body ow ?_ ?_
    · rw [List.take_of_length_le (by omega)]; simpa using hown
    · rw [setBodyF_eq, setBody_eq _ hB]; simp only [Option.some.injEq]; exact get_set_self hB
  · obtain rfl : A = some ⟨B.id, off, none⟩ := hA.resolve_left (by omega)
    obtain ⟨hl, ⟨_, _, rfl, _⟩ | ⟨g1, g2, g3, g4, sp, g5, g6⟩⟩ := hown
    · omega
    obtain ⟨id, nu, lv, bd⟩ := B
    dsimp only at g1 g2 g5
    subst g1 g2 g5
    have hb := (hG.ownOk _ (List.mem_of_getElem? hB) rfl).1
    dsimp only [Body.toObj] at hb
    have hzz : (Builtin.zeroCells z.cells nn).toList = List.replicate nn z := by
      rw [hzc]
      simp [Builtin.zeroCells]
      apply List.ext_getElem
      · simp
      · intro i h1 h2
        simp [Nat.mod_one]
    have hst := run_storeCells_at P id off e (List.replicate nn z) 0 ⟨xs ++ sp⟩ R hb (by simp; omega) (by intro v hv; rw [List.eq_of_mem_replicate hv]; exact h1)
    simp only [Nat.add_zero] at hst
    obtain ⟨s1, s2⟩ := setRow_at hb (((⟨xs ++ sp⟩ : Array Value).toList.take off ++ List.replicate nn z ++ (⟨xs ++ sp⟩ : Array Value).toList.drop (off + (List.replicate nn z).length)).toArray)
    have hrun : (Builtin.clear_ #[t] o.type #[.slice (some ⟨id, off, none⟩) nn cc]).run P R = .ok (.tuple #[]) (R.setRow id ((⟨xs ++ sp⟩ : Array Value).toList.take off ++ List.replicate nn z ++ (⟨xs ++ sp⟩ : Array Value).toList.drop (off + (List.replicate nn z).length)).toArray) := by
      obtain ⟨m, rfl⟩ : ∃ m, nn = m + 1 := ⟨nn - 1, by omega⟩
      simp [Builtin.clear_, run_underlying hu, hzv, hzz] at hst ⊢
      rw [hst]; rfl
    have hlist : (xs ++ sp).take off ++ List.replicate nn z ++ (xs ++ sp).drop (off + (List.replicate nn z).length) = (xs.take off ++ List.replicate nn z) ++ sp := by
      rw [List.take_append_of_le_length (by omega), List.length_replicate, hoff, ← hxl, List.drop_left]
    have hset := hG.set (R' := R.setRow id _) hB rfl (.cells ((xs.take off ++ List.replicate nn z) ++ sp) e) rfl rfl (by rw [s1, ← hlist]; simp [Body.toObj]) s2
    refine ⟨.v (.tuple #[]), .tuple #[], _, h, en, _, by rw [hexec, hrun]; rfl, .refl h, hset, ?_, rfl, ?_⟩
    · intro i y hy
      obtain ⟨v, q1, q2⟩ := hE i y hy
      exact ⟨v, by rw [conc_set _ hB]; exact q1, q2⟩
    · rw [hd]
      refine hk (.cells ((xs.take off ++ List.replicate nn z) ++ sp) e) _ ⟨by simp; omega, .inr ⟨rfl, rfl, g3, g4, sp, rfl, ?_⟩⟩ ?_
      · simp at g6 ⊢; omega
      · rw [setBodyF_eq, setBody_eq _ hB]
end Go.Vc
/- A call that takes one block of its caller's for good. No condition. -/
namespace Go.Vc
set_option linter.unusedVariables false
set_option linter.unusedSimpArgs false
variable {P : Program} {f : FuncId} {F : Func} {K : Post} {h : PHeap}
variable {todo td : List It} {env en en' : Env} {own ow ow' : List Blk}

def Eat (P : Program) (g : FuncId) (args : List Value) (h : PHeap) (B : Blk) (Q : Value → PHeap → Prop) : Prop :=
  Fine P g ∧ Spec P g args h [B] fun v h' own' => own' = [] ∧ Q v h'

theorem Good.dead {R : World} {l : List Blk} {fr : Frm} (g : Good R h l fr) {B : Blk} (hB : B.live = false) : Good R h (B :: l) fr := by
  refine ⟨g.heapOk, fun A hA hl => ?_, g.frameOk, List.pairwise_cons.2 ⟨fun A _ hl => (by rw [hB] at hl; cases hl), g.apart⟩, g.stays⟩
  rcases List.mem_cons.1 hA with rfl | hA
  · rw [hB] at hl; cases hl
  · exact g.ownOk A hA hl

theorem SameIds.refl : ∀ (l : List Blk), SameIds l l
  | [] => trivial
  | _ :: l => ⟨rfl, rfl, SameIds.refl l⟩
theorem SameIds.set : ∀ {l : List Blk} {k : Nat} {B B' : Blk}, l[k]? = some B → B.id = B'.id → B.nul = B'.nul → SameIds l (l.set k B') := by
  intro l
  induction l with
  | nil => intro k B B' h; simp at h
  | cons A l ih =>
    intro k B B' h h1 h2
    cases k with
    | zero => simp at h; subst h; exact ⟨h1, h2, SameIds.refl l⟩
    | succ k => exact ⟨rfl, rfl, ih (by simpa using h) h1 h2⟩

theorem wp_eat {g : FuncId} {args : List Value} {d : Nat} {Q : Value → PHeap → Prop} (k : Nat) {B : Blk} (he : ev P F 100000 todo env own = .call g args (some d) ⟨td, en, ow⟩) (hB : ow[k]? = some B) (hc : Eat P g args h B Q) (ho : killF ow k = some ow')
    (hk : ∀ v h', h.le h' → Q v h' → WP P f F K ⟨td, (d, .v v) :: en, ow'⟩ h') : WP P f F K ⟨todo, env, own⟩ h := by
  refine wp_ev he ⟨hc.1, fun R fr hG => ?_⟩
  have hp := perm_at hB B
  rw [get_set_self hB] at hp
  have hG1 : Good R h ([B] ++ (ow.take k ++ ow.drop (k + 1))) fr := hG.perm hp.symm
  refine (hc.2 R _ hG1.frame_in).mono ?_
  rintro e R' ⟨v, h', own', rfl, hle, ⟨rfl, hQ⟩, hG'⟩
  have hG2 := hG1.frame_out hG'
  rw [List.nil_append] at hG2
  have hG3 := (hG2.dead (B := { B with live := false }) rfl).perm (perm_at hB { B with live := false })
  rw [killF_eq hB ho] at hk
  exact ⟨v, rfl, .v v, h', _, hle, hG3, (SameIds.set (B' := { B with live := false }) hB rfl rfl).keeps, rfl, hk v h' hle hQ⟩

theorem Eat.of_wps {vals : List Value} {B : Blk} {Q : Value → PHeap → Prop} {env : Env} (args : List SV) (hf : P.funcs[f]? = some F) (hcall : ∀ x R, (callFunc f x).run P R = .ok (.enter f x) R) (hb : F.body.isSome = true) (hn : Nat.ble args.length F.ntmps = true)
    (hc : args.map (conc [B]) = vals.map some) (he : initEnv 0 args = env) (w : WP P f F (fun v h' own' => own' = [] ∧ Q v h') ⟨[.code []], env, [B]⟩ h) : Eat P f vals h B Q := by
  subst he
  exact ⟨hcall, Spec.of_wp args hf hb (Nat.le_of_ble_eq_true hn) hc w⟩
end Go.Vc
/- An array's literal. No condition. -/
namespace Go.Vc
set_option linter.unusedVariables false
set_option linter.unusedSimpArgs false
variable {P : Program} {f : FuncId} {F : Func} {K : Post} {h : PHeap}
variable {todo td : List It} {env en en' : Env} {own ow ow' : List Blk}

theorem wp_barr {o : Oper} {d n size : Nat} {t e : TypeId} {parts : Array (Nat × Operand)} {vs : List (Nat × Value)} {z cells : List Value} {i : TypeInfo}
    (he : ev P F 100000 todo env own = .raw o ⟨td, en, ow⟩) (hd : o.dst = some d) (ho : o.op = .build t parts) (hu : P.underlying t = some (.array n e)) (hi : P.info? e = some i) (hsz : i.size = size)
    (hz : zeroF P t = some z) (hp : partsF en ow parts.toList = some vs) (hf : fillF (fun j => some (j * size, size)) z vs = some cells)
    (hk : WP P f F K ⟨td, (d, .v (.agg ⟨cells⟩)) :: en, ow⟩ h) : WP P f F K ⟨todo, env, own⟩ h := by
  subst hsz
  refine wp_raw he hd (fun a hE R fr hG => ?_) hk
  have hv := partsF_ok hE hp
  have e2 : (Array.map (fun (x : Nat × Operand) => match x with | (i, x) => (i, a.eval x)) parts) = ⟨vs⟩ := by
    rw [hv]; apply Array.toList_inj.1; simp
  obtain ⟨zv, hzv, hzc⟩ := zeroF_ok hz R
  have hzc' : zv.cells = ⟨z⟩ := by rw [← hzc]
  have hf' := fillF_ok hf
  simp only [execOp, ho, Sem.run_bind, e2, Instr.build, hzv, Result.andThen_ok, run_underlying hu, info_size hi, hzc', hf', Sem.run_pure]
end Go.Vc
/- From a triple to a law's statement: the call returns true, each argument reads behind it as it read before. No condition. -/
namespace Go.Vc
open Go.ChangeShapes
set_option linter.unusedVariables false
set_option linter.unusedSimpArgs false

theorem trodAll_carry {H : Type} {enc : TypeId × Value → H} {P : Program} {w w' : World} {base : Nat} {sp : Nat → Bool} {held : Bool} : ∀ {ts : List TypeId} {vs : List Value} {ds : List (DataW H)} {ps : List MemPlace},
    DataW.TrodAll enc P w base sp held ts vs ds ps → (∀ p ∈ ps, w.sameAt w' p) → DataW.TrodAll enc P w' base sp held ts vs ds ps
  | [], [], [], _, h, _ => h
  | _ :: _, _ :: _, _ :: _, _, ⟨p, q, ⟨n, h1⟩, h2, e⟩, hs =>
    ⟨p, q, ⟨n, DataW.trod_carry n _ _ _ h1 (fun x hx => hs x (by rw [e]; exact List.mem_append_left _ hx))⟩, trodAll_carry h2 (fun x hx => hs x (by rw [e]; exact List.mem_append_right _ hx)), e⟩

theorem kept_of {W W' : World} (ho : W'.os = W.os) (hp : W'.output = W.output) (hold : ∀ b, b < W.heap.size → W'.heap[b]? = W.heap[b]?) (may : MemPlace → Prop) : W.keptBut W' may := by
  refine ⟨ho, hp, fun i hi => ?_⟩
  rw [hold i hi]
  cases h : W.heap[i]? with
  | none => simp
  | some o => cases o <;> simp

/-- All blocks that there are. -/
def allOf (W : World) : PHeap := fun b => W.heap[b]?
def noneOf (W : World) : Frm := ⟨fun _ => none, W.os, W.output⟩

theorem good_all (W : World) : Good W (allOf W) [] (noneOf W) :=
  ⟨fun b o e => e, fun B hB => by simp at hB, fun b o e => (by cases e), List.Pairwise.nil, rfl, rfl⟩

theorem post_true {H : Type} {enc : TypeId × Value → H} {P : Program} {fn : Func} {s : ChangeSpec} {W W' : World} {args : Array Value} {ds gs : List (DataW H)} {before : List MemPlace} {rt : TypeId}
    (K : Kids P (· < P.types.size)) (hz : ∀ t e, t < P.types.size → P.underlying t = some (.slice e) → 0 < P.cellsOf e) (hps : ∀ t ∈ fn.params.toList, t < P.types.size) (hvars : s.vars = []) (hrt : fn.resultTypes = #[rt]) (hb : P.underlying rt = some .bool)
    (hW : DataW.Whole enc P fn.params.toList s.vars false W args.toList ds gs before) (hfn : s.fn H ds = { results := [.lit (.bool true)], args := ds })
    {h' : PHeap} {own' : List Blk} (hle : (allOf W).le h') (hG : Good W' h' own' (noneOf W)) :
    s.post enc P fn false true false false W args (.bool true) W' := by
  have hold : ∀ b, b < W.heap.size → W'.heap[b]? = W.heap[b]? := fun b hb => by
    have h1 : allOf W b = some W.heap[b] := Array.getElem?_eq_getElem hb
    rw [hG.heapOk b _ (hle b _ h1)]; exact h1.symm
  have hW' := hW
  obtain ⟨p, q, hA, hV, rfl, hfz, hnd⟩ := hW
  rw [hvars] at hV
  obtain ⟨rfl, rfl⟩ := trodVars_none hV
  have hlt := hW'.lt
  have hsame : ∀ x ∈ p, W.sameAt W' x := fun x hx => by
    have hx' := hlt x (List.mem_append_left _ hx)
    cases x with
    | cell b off =>
      have hx2 : b < W.heap.size := hx'
      simp only [World.sameAt, World.cell?, hold b hx2]
    | map b => exact hold b hx'
  have hsp : ∀ x ∈ p, (fun b => decide (b < W.heap.size)) x.block = true := fun x hx => by simpa using hlt x (List.mem_append_left _ hx)
  refine ⟨ds, [], p ++ [], [], p, [], hW', ?_, ?_, ?_, kept_of hG.stays.1 hG.stays.2 hold _, fun h => by cases h⟩
  · rw [List.append_nil, hfn, hrt]
    exact trodAll_cons_mk (p := []) ⟨1, by simp [DataW.trod, Value.cells, hb]⟩ trodAll_mk0
  · rw [List.append_nil, hfn]
    exact DataW.TrodAll.respare K hz hps (trodAll_carry hA hsame) hsp
  · rw [List.append_nil, hfn, hvars]
    exact rfl
end Go.Vc
/- What an argument's reading says of the memory that stays. No condition. -/
namespace Go.Vc
set_option linter.unusedVariables false
set_option linter.unusedSimpArgs false

/-! How much a reading holds. -/
mutual
def bulk {H : Type} : DataW H → Nat
  | .lit (.string bytes) => bytes.length + 1
  | .lit _ => 1
  | .nil => 1
  | .ptr d => bulk d + 1
  | .slice elems spare => bulkAll elems + bulkAll spare + 1
  | .agg parts => bulkAll parts + 1
  | .iface _ d => bulk d + 1
  | .map entries => bulkEntries entries + 1
  | .held _ => 1
def bulkAll {H : Type} : List (DataW H) → Nat
  | [] => 0
  | d :: r => bulk d + bulkAll r
def bulkEntries {H : Type} : List (Lit × DataW H) → Nat
  | [] => 0
  | (k, d) :: r => bulk (.lit k : DataW H) + bulk d + bulkEntries r
end

theorem bulkAll_mem {H : Type} {d : DataW H} : ∀ {l : List (DataW H)}, d ∈ l → bulk d ≤ bulkAll l := by
  intro l
  induction l with
  | nil => intro h; cases h
  | cons x r ih =>
    intro h
    simp only [bulkAll]
    rcases List.mem_cons.1 h with e | e
    · subst e; omega
    · have := ih e; omega
theorem bulkAll_append {H : Type} (l r : List (DataW H)) : bulkAll (l ++ r) = bulkAll l + bulkAll r := by
  induction l with
  | nil => simp [bulkAll]
  | cons x l ih => simp only [List.cons_append, bulkAll, ih]; omega
theorem bulk_pos {H : Type} (d : DataW H) : 1 ≤ bulk d := by
  cases d with
  | lit l => cases l <;> simp [bulk]
  | _ => simp [bulk]
theorem bulkAll_len {H : Type} (l : List (DataW H)) : l.length ≤ bulkAll l := by
  induction l with
  | nil => simp [bulkAll]
  | cons x r ih => have := bulk_pos x; simp only [bulkAll, List.length_cons]; omega

section
variable {H : Type} {enc : TypeId × Value → H} {P : Program} {w : World} {base : Nat} {spare : Nat → Bool} {held : Bool} {fuel : Nat} {t : TypeId} {cs : List Value} {x : DataW H × List MemPlace}

theorem hcell_of {a : Addr} {v : Value} (h : w.cell? a = some v) : HCell (allOf w) a v := by
  have hs : a.spot = none := by
    unfold World.cell? at h
    split at h
    · cases e : a.spot with
      | none => rfl
      | some s => simp [e] at h
    · cases h
  unfold World.cell? at h
  split at h
  · rename_i c ty fz hb
    refine ⟨hs, c, ty, fz, hb, ?_⟩
    simpa [hs] using h
  · cases h

theorem hcells_cells {a : Addr} {n : Nat} {vs : List Value} (h : w.cells? base a n = some vs) : vs.length = n ∧ HCells (allOf w) a vs := by
  obtain ⟨_, h2, h3⟩ := World.cells?_some h
  refine ⟨h2, fun j v hj => hcell_of ?_⟩
  have hlt : j < n := by rw [← h2]; exact (List.getElem?_eq_some_iff.1 hj).1
  rw [h3 j hlt]; exact hj

theorem open_int {k : IntKind} (ht : P.underlying t = some (.int k)) (h : DataW.trod enc P w base spare held fuel t cs = some x) : ∃ n, cs = [.int k n] ∧ x.1 = .lit (.int k n) ∧ (Lit.int k n).wf = true := by
  cases fuel with
  | zero => simp [DataW.trod] at h
  | succ m =>
    unfold DataW.trod at h
    rw [ht] at h
    split at h <;> simp_all
    obtain ⟨⟨_, h2⟩, rfl⟩ := h
    try exact rfl

theorem open_bool (ht : P.underlying t = some .bool) (h : DataW.trod enc P w base spare held fuel t cs = some x) : ∃ b, cs = [.bool b] ∧ x.1 = .lit (.bool b) := by
  cases fuel with
  | zero => simp [DataW.trod] at h
  | succ m =>
    unfold DataW.trod at h
    rw [ht] at h
    split at h <;> simp_all
    subst h; rfl

theorem open_str (ht : P.underlying t = some .string) (h : DataW.trod enc P w base spare held fuel t cs = some x) : ∃ s : ByteArray, cs = [.string s] ∧ x.1 = .lit (.string s.data.toList) ∧ s.size ≤ maxLen ∧ bulk x.1 = s.size + 1 := by
  cases fuel with
  | zero => simp [DataW.trod] at h
  | succ m =>
    unfold DataW.trod at h
    rw [ht] at h
    split at h <;> simp_all
    rename_i s
    obtain ⟨h1, rfl⟩ := h
    refine ⟨rfl, ?_⟩
    simp [bulk]

theorem addr_addadd' (a : Addr) (x y : Nat) : (a.add x).add y = a.add (x + y) := by
  unfold Addr.add
  split <;> split <;> split <;> simp_all <;> omega

/-- A slice's reading: its elements, cell by cell. -/
theorem open_sl {e : TypeId} {size : Nat} (ht : P.underlying t = some (.slice e)) (hc : P.cellsOf e = size) (h : DataW.trod enc P w base spare held fuel t cs = some x) :
    ∃ (A : Option Addr) (len cap : Nat) (E : List (List Value × DataW H)), cs = [.slice A len cap] ∧ E.length = len ∧ HSl (allOf w) size A len (E.flatMap (·.1)) ∧ bulkAll (E.map (·.2)) + 1 ≤ bulk x.1 ∧ len ≤ cap ∧ cap ≤ maxLen ∧
      ∀ y ∈ E, y.1.length = size ∧ ∃ m ps, DataW.trod enc P w base spare held m e y.1 = some (y.2, ps) ∧ m < fuel := by
  rcases DataW.trod_slice ht h with ⟨rfl, rfl⟩ | ⟨a, len, cap, elems, rest, n, rfl, rfl, rfl, hb, hl, hm, hlen, hel, _, _⟩
  · exact ⟨none, 0, 0, [], rfl, rfl, ⟨by simp, .inl rfl⟩, by simp [bulkAll, bulk], Nat.le_refl _, by simp [maxLen], fun y hy => (by cases hy)⟩
  · have one : ∀ i, i < len → ∃ c : List Value × DataW H, w.cells? base (a.add (i * P.cellsOf e)) (P.cellsOf e) = some c.1 ∧ c.2 = (elems.getD i (.nil, [])).1 ∧ ∃ ps, DataW.trod enc P w base spare held n e c.1 = some (c.2, ps) := by
      intro i hi
      have h1 := hel i hi
      have hi' : i < elems.length := by omega
      rw [List.getElem?_eq_getElem hi'] at h1
      obtain ⟨cs', g1, g2⟩ := Option.bind_eq_some_iff.1 h1
      exact ⟨(cs', elems[i].1), g1, by simp [List.getD, hi'], elems[i].2, g2⟩
    have build : ∀ k, k ≤ len → ∃ E : List (List Value × DataW H), E.length = k ∧ E.map (·.2) = (elems.take k).map (·.1) ∧ (∀ y ∈ E, y.1.length = size ∧ ∃ m ps, DataW.trod enc P w base spare held m e y.1 = some (y.2, ps) ∧ m < n + 1) ∧ (E.flatMap (·.1)).length = k * size ∧ HCells (allOf w) a (E.flatMap (·.1)) := by
      intro k
      induction k with
      | zero => intro _; exact ⟨[], rfl, rfl, fun y hy => (by cases hy), by simp, fun j v hj => (by simp at hj)⟩
      | succ k ih =>
        intro hk
        obtain ⟨E, e1, e2, e3, e4, e5⟩ := ih (by omega)
        obtain ⟨c, c1, c2, ps, c3⟩ := one k (by omega)
        obtain ⟨d1, d2⟩ := hcells_cells c1
        rw [hc] at d1 d2
        have hk' : k < elems.length := by omega
        refine ⟨E ++ [c], by simp [e1], ?_, ?_, ?_, ?_⟩
        · rw [List.map_append, e2, List.take_add_one, List.getElem?_eq_getElem hk', List.map_append]
          simp [c2, List.getD, hk']
        · intro y hy
          rcases List.mem_append.1 hy with hy | hy
          · exact e3 y hy
          · obtain rfl := List.mem_singleton.1 hy
            exact ⟨d1, n, ps, c3, by omega⟩
        · rw [List.flatMap_append, List.length_append, e4]; simp [d1]; rw [Nat.add_mul, Nat.one_mul]
        · rw [List.flatMap_append]
          intro j v hj
          rcases Nat.lt_or_ge j (E.flatMap (·.1)).length with hlt | hge
          · rw [List.getElem?_append_left hlt] at hj
            exact e5 j v hj
          · rw [List.getElem?_append_right hge, e4] at hj
            rw [e4] at hge
            have := d2 (j - k * size) v (by simpa using hj)
            rw [addr_addadd'] at this
            rw [show k * size + (j - k * size) = j from by omega] at this
            exact this
    obtain ⟨E, e1, e2, e3, e4, e5⟩ := build len (Nat.le_refl _)
    refine ⟨some a, len, cap, E, rfl, e1, ⟨e4, .inr ⟨a, rfl, e5⟩⟩, ?_, hl, hm, e3⟩
    rw [e2, List.take_of_length_le (by omega)]
    simp only [bulk]; omega

/-- A struct whose fields are of one cell each. -/
theorem open_flat {fs : Array Field} (ht : P.underlying t = some (.struct fs)) (hflat : ∀ (i : Nat) (f : Field), fs[i]? = some f → f.offset = i ∧ P.cellsOf f.type = 1) (hn : P.cellsOf t = fs.size) (h : DataW.trod enc P w base spare held fuel t cs = some x) :
    ∃ (xs : List (DataW H × List MemPlace)) (m : Nat), fuel = m + 1 ∧ x.1 = .agg (xs.map (·.1)) ∧ cs.length = fs.size ∧ xs.length = fs.size ∧
      ∀ (i : Nat) (f : Field), fs[i]? = some f → ∃ v y, cs[i]? = some v ∧ xs[i]? = some y ∧ DataW.trod enc P w base spare held m f.type [v] = some y := by
  obtain ⟨xs, n, hf, hx, hl, hxl, hall⟩ := DataW.trod_struct ht h
  refine ⟨xs, n, hf, by rw [hx], by omega, hxl, fun i f hif => ?_⟩
  have hi : i < fs.size := (Array.getElem?_eq_some_iff.1 hif).1
  obtain ⟨h1, h2⟩ := hflat i f hif
  have h3 := hall i f hif
  have hic : i < cs.length := by omega
  have hix : i < xs.length := by omega
  rw [h1, h2, List.drop_eq_getElem_cons hic] at h3
  rw [List.getElem?_eq_getElem hix] at h3
  exact ⟨cs[i], xs[i], List.getElem?_eq_getElem hic, List.getElem?_eq_getElem hix, h3⟩
end
end Go.Vc
