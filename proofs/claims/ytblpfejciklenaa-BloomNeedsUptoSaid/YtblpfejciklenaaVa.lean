/- The ground of this claim's proofs: memory parted in what never changes, what the call owns, and the rest; what it means that a call, or the rest of a body, comes to an end as said. No condition. -/
import Derived.WalkKit
namespace Go.Vc
set_option linter.unusedSimpArgs false
set_option linter.unusedVariables false

/-- Memory that nobody changes any more: a part of the heap, block by block. -/
abbrev PHeap := Nat → Option Obj

def PHeap.le (h h' : PHeap) : Prop := ∀ b o, h b = some o → h' b = some o
theorem PHeap.le.refl (h : PHeap) : h.le h := fun _ _ e => e
theorem PHeap.le.trans {h h' h'' : PHeap} (a : h.le h') (b : h'.le h'') : h.le h'' := fun x o e => b x o (a x o e)

/-- What a block of the call's own holds. -/
inductive Body where
  | cells (l : List Value) (ty : TypeId)
  | obj (o : Obj)

def Body.toObj : Body → Obj
  | .cells l ty => .cells ⟨l⟩ ty (0, 0)
  | .obj o => o

/-- A block of the call's own: 'live' while it is owned; 'nul': a slice over it is nil (there is no block). -/
structure Blk where
  id : Nat
  nul : Bool
  live : Bool
  body : Body

/-- The rest: other blocks, and what of the world besides the blocks stays as it was. -/
structure Frm where
  mem : PHeap
  os : Os
  out : Array (Nat × ByteArray)

instance : CoeFun Frm (fun _ => Nat → Option Obj) := ⟨Frm.mem⟩

/-- Two worlds that differ in their blocks' content alone. -/
def Alike (R R' : World) : Prop := R'.os = R.os ∧ R'.output = R.output

/-- Memory: the part that stays, the call's own blocks, the rest. -/
structure Good (R : World) (h : PHeap) (own : List Blk) (f : Frm) : Prop where
  heapOk : ∀ b o, h b = some o → R.heap[b]? = some o
  ownOk : ∀ B ∈ own, B.live = true → R.heap[B.id]? = some B.body.toObj ∧ h B.id = none ∧ f B.id = none
  frameOk : ∀ b o, f b = some o → R.heap[b]? = some o ∧ h b = none
  apart : List.Pairwise (fun A B : Blk => A.live = true → B.live = true → A.id ≠ B.id) own
  stays : R.os = f.os ∧ R.output = f.out

theorem some_lt {α : Type} {a : Array α} {i : Nat} {x : α} (h : a[i]? = some x) : i < a.size := by
  rcases Nat.lt_or_ge i a.size with hl | hg
  · exact hl
  · rw [Array.getElem?_eq_none hg] at h; cases h

theorem Good.mono_world {R R' : World} {h : PHeap} {own : List Blk} {f : Frm} (g : Good R h own f) (hs : Alike R R') (hr : ∀ (b : Nat) (o : Obj), R.heap[b]? = some o → R'.heap[b]? = some o) : Good R' h own f :=
  ⟨fun b o e => hr _ _ (g.heapOk b o e), fun B hB hl => ⟨hr _ _ (g.ownOk B hB hl).1, (g.ownOk B hB hl).2⟩, fun b o e => ⟨hr _ _ (g.frameOk b o e).1, (g.frameOk b o e).2⟩, g.apart, hs.1.trans g.stays.1, hs.2.trans g.stays.2⟩

/-- A new block. -/
theorem Good.alloc {R : World} {h : PHeap} {own : List Blk} {f : Frm} (g : Good R h own f) (bd : Body) :
    Good (R.alloc bd.toObj) h (own ++ [⟨R.heap.size, false, true, bd⟩]) f := by
  have hkeep : ∀ (b : Nat) (o : Obj), R.heap[b]? = some o → (R.alloc bd.toObj).heap[b]? = some o := by
    intro b o e
    have hb := some_lt e
    simp only [World.alloc, Array.getElem?_push]
    rw [if_neg (by omega)]; exact e
  have g' := g.mono_world (R' := R.alloc bd.toObj) ⟨rfl, rfl⟩ hkeep
  refine ⟨g'.heapOk, ?_, g'.frameOk, ?_, g'.stays⟩
  · intro B hB hl
    rcases List.mem_append.1 hB with hB | hB
    · exact g'.ownOk B hB hl
    · obtain rfl := List.mem_singleton.1 hB
      refine ⟨by show (R.heap.push _)[R.heap.size]? = _; simp, ?_, ?_⟩
      · cases e : h R.heap.size with
        | none => rfl
        | some o => have := some_lt (g.heapOk _ _ e); omega
      · cases e : f R.heap.size with
        | none => rfl
        | some o => have := some_lt (g.frameOk _ _ e).1; omega
  · refine List.pairwise_append.2 ⟨g.apart, List.pairwise_singleton _ _, ?_⟩
    intro A hA B hB hla _
    obtain rfl := List.mem_singleton.1 hB
    have := some_lt (g.ownOk A hA hla).1
    simp only; omega

/-- One of the own blocks holds something else. -/
theorem Good.set {R R' : World} {h : PHeap} {own : List Blk} {f : Frm} (g : Good R h own f) {k : Nat} {B : Blk} (hk : own[k]? = some B) (hl : B.live = true) (bd : Body)
    (ho : R'.os = R.os) (hp : R'.output = R.output) (hat : R'.heap[B.id]? = some bd.toObj) (hr : ∀ b, b ≠ B.id → R'.heap[b]? = R.heap[b]?) : Good R' h (own.set k { B with body := bd }) f := by
  obtain ⟨hkl, hkv⟩ := List.getElem?_eq_some_iff.1 hk
  have hBm : B ∈ own := hkv ▸ List.getElem_mem hkl
  obtain ⟨_, hhB, hfB⟩ := g.ownOk B hBm hl
  have hap : ∀ j (hj : j < own.length), j ≠ k → own[j].live = true → own[j].id ≠ B.id := by
    intro j hj hjk hlj
    rcases Nat.lt_or_gt_of_ne hjk with hlt | hgt
    · have := List.pairwise_iff_getElem.1 g.apart j k hj hkl hlt hlj (hkv ▸ hl)
      rwa [hkv] at this
    · have := List.pairwise_iff_getElem.1 g.apart k j hkl hj hgt (hkv ▸ hl) hlj
      rw [hkv] at this
      exact fun e => this e.symm
  refine ⟨?_, ?_, ?_, ?_, ho.trans g.stays.1, hp.trans g.stays.2⟩
  · intro b o e
    rw [hr b (fun hb => by rw [hb] at e; rw [hhB] at e; cases e)]
    exact g.heapOk b o e
  · intro A hA hla
    obtain ⟨j, hj, rfl⟩ := List.getElem_of_mem hA
    rw [List.length_set] at hj
    by_cases hjk : k = j
    · subst hjk
      simp only [List.getElem_set_self]
      exact ⟨hat, hhB, hfB⟩
    · rw [List.getElem_set_ne hjk] at hla ⊢
      have h1 := g.ownOk own[j] (List.getElem_mem hj) hla
      rw [hr _ (hap j hj (Ne.symm hjk) hla)]
      exact h1
  · intro b o e
    rw [hr b (fun hb => by rw [hb] at e; rw [hfB] at e; cases e)]
    exact g.frameOk b o e
  · refine List.pairwise_iff_getElem.2 fun i j hi hj hij => ?_
    rw [List.length_set] at hi hj
    intro hli hlj
    rw [List.getElem_set] at hli hlj ⊢
    rw [List.getElem_set]
    by_cases h1 : k = i <;> by_cases h2 : k = j
    · omega
    · subst h1; simp only [if_true, if_neg h2] at *
      exact fun e => hap j hj (Ne.symm h2) hlj e.symm
    · subst h2; simp only [if_true, if_neg h1] at *
      exact hap i hi (Ne.symm h1) hli
    · simp only [if_neg h1, if_neg h2] at *
      exact List.pairwise_iff_getElem.1 g.apart i j hi hj hij hli hlj

theorem Good.take {R : World} {h : PHeap} {own own' : List Blk} {f : Frm} (g : Good R h own f) (hs : own'.Sublist own) : Good R h own' f :=
  ⟨g.heapOk, fun B hB hl => g.ownOk B (hs.subset hB) hl, g.frameOk, g.apart.sublist hs, g.stays⟩

def PHeap.add (h : PHeap) (b : Nat) (o : Obj) : PHeap := fun x => if x = b then some o else h x
theorem PHeap.add_le {h : PHeap} {b : Nat} {o : Obj} (hb : h b = none) : h.le (h.add b o) := by
  intro x p e
  unfold PHeap.add
  split
  · rename_i hx; rw [hx, hb] at e; cases e
  · exact e

/-- An own block is given to what stays. -/
theorem Good.freeze {R : World} {h : PHeap} {own : List Blk} {f : Frm} (g : Good R h own f) {k : Nat} {B : Blk} (hk : own[k]? = some B) (hl : B.live = true) :
    Good R (h.add B.id B.body.toObj) (own.set k { B with live := false }) f := by
  obtain ⟨hkl, hkv⟩ := List.getElem?_eq_some_iff.1 hk
  have hBm : B ∈ own := hkv ▸ List.getElem_mem hkl
  obtain ⟨hbR, hhB, hfB⟩ := g.ownOk B hBm hl
  refine ⟨?_, ?_, ?_, ?_, g.stays⟩
  · intro b o e
    unfold PHeap.add at e
    split at e
    · rename_i hb; cases e; rw [hb]; exact hbR
    · exact g.heapOk b o e
  · intro A hA hla
    obtain ⟨j, hj, rfl⟩ := List.getElem_of_mem hA
    rw [List.length_set] at hj
    by_cases hjk : k = j
    · subst hjk; simp at hla
    · rw [List.getElem_set_ne hjk] at hla ⊢
      obtain ⟨h1, h2, h3⟩ := g.ownOk own[j] (List.getElem_mem hj) hla
      refine ⟨h1, ?_, h3⟩
      unfold PHeap.add
      rw [if_neg ?_]; exact h2
      rcases Nat.lt_or_gt_of_ne hjk with hlt | hgt
      · have := List.pairwise_iff_getElem.1 g.apart k j hkl hj hlt (hkv ▸ hl) hla
        rw [hkv] at this; exact fun e => this e.symm
      · have := List.pairwise_iff_getElem.1 g.apart j k hj hkl hgt hla (hkv ▸ hl)
        rwa [hkv] at this
  · intro b o e
    refine ⟨(g.frameOk b o e).1, ?_⟩
    unfold PHeap.add
    rw [if_neg ?_]; exact (g.frameOk b o e).2
    rintro rfl; rw [hfB] at e; cases e
  · refine List.pairwise_iff_getElem.2 fun i j hi hj hij => ?_
    rw [List.length_set] at hi hj
    intro hli hlj
    rw [List.getElem_set] at hli hlj ⊢
    rw [List.getElem_set]
    split at hli
    · simp at hli
    · split at hlj
      · simp at hlj
      · rename_i h1 h2
        simp only [if_neg h1, if_neg h2]
        exact List.pairwise_iff_getElem.1 g.apart i j hi hj hij hli hlj

/-- A cell of the memory that stays. -/
def HCell (h : PHeap) (a : Addr) (v : Value) : Prop := a.spot = none ∧ ∃ c ty fz, h a.block = some (.cells c ty fz) ∧ c[a.off]? = some v

theorem HCell.mono {h h' : PHeap} {a : Addr} {v : Value} (c : HCell h a v) (hle : h.le h') : HCell h' a v := by
  obtain ⟨hs, c, ty, fz, hb, hc⟩ := c
  exact ⟨hs, c, ty, fz, hle _ _ hb, hc⟩

theorem HCell.cell {h : PHeap} {a : Addr} {v : Value} (c : HCell h a v) {R : World} {own : List Blk} {f : Frm} (g : Good R h own f) : R.cell? a = some v := by
  obtain ⟨hs, c, ty, fz, hb, hc⟩ := c
  simp [World.cell?, g.heapOk _ _ hb, hs, hc]

/-- A call, as a triple: what stays, what it owns; its answer, what stays then, what it owns then. Whatever else there is, is as it was. -/
def Spec (P : Program) (fid : FuncId) (args : List Value) (h : PHeap) (own : List Blk) (Q : Value → PHeap → List Blk → Prop) : Prop :=
  ∀ (R : World) (f : Frm), Good R h own f →
    Calls P fid ⟨args⟩ R fun e R' => ∃ v h' own', e = .returned v ∧ h.le h' ∧ Q v h' own' ∧ Good R' h' own' f

theorem Spec.mono {P : Program} {fid : FuncId} {args : List Value} {h : PHeap} {own : List Blk} {Q Q' : Value → PHeap → List Blk → Prop} (s : Spec P fid args h own Q)
    (hq : ∀ v h' own', h.le h' → Q v h' own' → Q' v h' own') : Spec P fid args h own Q' := fun R f g =>
  (s R f g).mono fun _ _ ⟨v, h', own', he, hle, hQ, hG⟩ => ⟨v, h', own', he, hle, hq _ _ _ hle hQ, hG⟩

end Go.Vc
/- A body is gone through: what stands in each variable, block by block; where something is to be shown it stops. No condition. -/
namespace Go.Vc
set_option linter.unusedSimpArgs false
set_option linter.unusedVariables false

/-- What is known of a variable: a value; yes or no; a place in a block of the call's own (where it is known by number; 'locx': reckoned); a slice over such a block. -/
inductive SV where
  | v (x : Value)
  | tt
  | ff
  | loc (k off : Nat)
  | locx (k off : Nat)
  | gs (k n c : Nat)
  deriving Inhabited

abbrev Env := List (Nat × SV)

def get : Env → Nat → Option SV
  | [], _ => none
  | (i, x) :: e, j => match Nat.beq i j with
    | true => some x
    | false => get e j

def nulAddr (B : Blk) : Option Addr := match B.nul with
  | true => none
  | false => some ⟨B.id, 0, none⟩

def conc (own : List Blk) : SV → Option Value
  | .v x => some x
  | .tt => some (.bool true)
  | .ff => some (.bool false)
  | .loc k off => match own[k]? with
    | some B => some (.pointer (some ⟨B.id, off, none⟩))
    | none => none
  | .locx k off => match own[k]? with
    | some B => some (.pointer (some ⟨B.id, off, none⟩))
    | none => none
  | .gs k n c => match own[k]? with
    | some B => some (.slice (nulAddr B) n c)
    | none => none

def child : Code → Nat → Code
  | .seq a b, i => match i with | 0 => a | _ => b
  | .cond _ a b, i => match i with | 0 => a | _ => b
  | .block _ c, _ => c
  | .loop c, _ => c
  | .scope c, _ => c
  | c, _ => c

def sub (c : Code) : List Nat → Code
  | [] => c
  | i :: p => child (sub c p) i

def bodyOf (F : Func) : Code := match F.body with
  | some c => c
  | none => .skip

def opsAt (F : Func) (p : List Nat) : Array Oper := match sub (bodyOf F) p with
  | .region _ ops _ => ops
  | _ => #[]

/-- What is left to do, by where it stands in the body. -/
inductive It where
  | code (p : List Nat)
  | blk (id : Nat)
  | loop (p : List Nat)
  | scope (p : List Nat)
  | ops (p : List Nat) (l : List Nat)

def It.item (F : Func) : It → Item
  | .code p => .code (sub (bodyOf F) p)
  | .blk id => .inBlock id
  | .loop p => .inLoop (sub (bodyOf F) (0 :: p))
  | .scope p => .inScope (sub (bodyOf F) (0 :: p))
  | .ops p l => .inRegion (opsAt F p) l

structure St where
  todo : List It
  env : Env
  own : List Blk

def St.put (s : St) (d : Option Nat) (x : SV) : St := match d with
  | none => s
  | some i => ⟨s.todo, (i, x) :: s.env, s.own⟩

def exitIt (id : Nat) : List It → Option (List It)
  | [] => none
  | .blk i :: k => match Nat.beq i id with
    | true => some k
    | false => exitIt id k
  | .code _ :: k => exitIt id k
  | .loop _ :: k => exitIt id k
  | .scope _ :: k => exitIt id k
  | .ops _ _ :: k => exitIt id k

inductive Ev where
  | ret (env : Env) (own : List Blk)
  | br (b : Bool) (s t : St)
  | call (f : FuncId) (args : List Value) (d : Option Nat) (s : St)
  | callv (g : Value) (args : List Value) (d : Option Nat) (s : St)
  | alloc (cells : List Value) (ty : TypeId) (x : SV) (d : Option Nat) (s : St)
  | load (n : Option Nat) (a : Addr) (d : Option Nat) (s : St)
  | loadx (k off : Nat) (n : Option Nat) (d : Option Nat) (s : St)
  | store (n : Option Nat) (a : Addr) (x : Value) (s : St)
  | storex (k off : Nat) (n : Option Nat) (x : Value) (s : St)
  | need (φ : Prop) (x : Value) (d : Option Nat) (s : St)
  | idx (A : Option Addr) (n : Nat) (i : Int) (size : Nat) (d : Option Nat) (s : St)
  | idxo (k off n : Nat) (i : Int) (size : Nat) (d : Option Nat) (s : St)
  | idxg (k n : Nat) (i : Int) (size : Nat) (d : Option Nat) (s : St)
  | loop (s : St)
  | draw (p : List Nat) (s : St)
  | raw (o : Oper) (s : St)
  | stuck (n : Nat)

/-- What an operation comes to. -/
inductive OR where
  | set (x : SV) (own : List Blk)
  | skip (own : List Blk)
  | ev (e : Ev)
  | raw
  | bad (n : Nat)

def ofConst : Value → SV
  | .bool b => match b with
    | true => .tt
    | false => .ff
  | x => .v x

def getS (env : Env) : Operand → Option SV
  | .tmp t => get env t
  | .const v => some (ofConst v)
  | .global g => some (.v (.pointer (some ⟨g, 0, none⟩)))
  | .func f => some (.v (.func (.func f) #[] #[]))

def concs (env : Env) (own : List Blk) : List Operand → Option (List Value)
  | [] => some []
  | x :: l => match getS env x with
    | some s => match conc own s with
      | some v => match concs env own l with
        | some vs => some (v :: vs)
        | none => none
      | none => none
    | none => none

/-- none: one cell; some n: n cells. -/
def sizeAt (P : Program) (t : TypeId) : Option (Option Nat) :=
  match P.underlying t with
  | some (.struct _) => match P.info? t with
    | some i => some (some i.size)
    | none => none
  | some (.array _ _) => match P.info? t with
    | some i => some (some i.size)
    | none => none
  | some _ => match P.info? t with
    | some i => match i.size with
      | 1 => some none
      | _ => none
    | none => none
  | none => none

def storeAt (P : Program) (t : TypeId) : Option Nat → Option (Option Nat)
  | none => sizeAt P t
  | some _ => none

def takeF : Nat → List Value → Option (List Value)
  | 0, _ => some []
  | n + 1, x :: l => match takeF n l with
    | some r => some (x :: r)
    | none => none
  | _ + 1, [] => none

def dropF : Nat → List Value → List Value
  | 0, l => l
  | n + 1, _ :: l => dropF n l
  | _ + 1, [] => []

/-- Values put into a row from a place on; none: they do not fit, or one is not of one cell. -/
def setF : Nat → List Value → List Value → Option (List Value)
  | _, [], l => some l
  | 0, v :: vs, _ :: l => match v.oneCell' with
    | true => match setF 0 vs l with
      | some r => some (v :: r)
      | none => none
    | false => none
  | 0, _ :: _, [] => none
  | n + 1, v :: vs, x :: l => match setF n (v :: vs) l with
    | some r => some (x :: r)
    | none => none
  | _ + 1, _ :: _, [] => none

def cellsOfV : Value → List Value
  | .agg cs => cs.toList
  | .bool b => [.bool b]
  | .int k n => [.int k n]
  | .float k n => [.float k n]
  | .complex k a b => [.complex k a b]
  | .string s => [.string s]
  | .pointer a => [.pointer a]
  | .slice a l c => [.slice a l c]
  | .map r => [.map r]
  | .chan r => [.chan r]
  | .func f a b => [.func f a b]
  | .nilFunc => [.nilFunc]
  | .iface t v => [.iface t v]
  | .nilIface => [.nilIface]
  | .tuple vs => [.tuple vs]

def setBody (own : List Blk) (k : Nat) (bd : Body) : List Blk := match own, k with
  | [], _ => []
  | B :: l, 0 => { B with body := bd } :: l
  | B :: l, k + 1 => B :: setBody l k bd

/-- The field's place in a struct. -/
def fieldOff (P : Program) (t : TypeId) (f : Nat) : Option Nat :=
  match P.underlying t with
  | some (.struct fs) => match fs[f]? with
    | some g => match P.info? g.type with
      | some i => match i.size with
        | 0 => none
        | _ + 1 => some g.offset
      | none => none
    | none => none
  | _ => none

def addF (a : Addr) : Nat → Addr
  | 0 => a
  | n + 1 => a.add (n + 1)

def cmpB (op : BinOp) (a b : Int) : Option Bool := match op with
  | .eql => some (a == b)
  | .neq => some (a != b)
  | .lss => some (decide (a < b))
  | .leq => some (decide (a ≤ b))
  | .gtr => some (decide (a > b))
  | .geq => some (decide (a ≥ b))
  | _ => none

def bitsF (op : BinOp) (k : IntKind) (a b : Int) : Int :=
  let x := BitVec.ofInt k.bits a
  let y := BitVec.ofInt k.bits b
  match op with
  | .and => k.wrap (x &&& y).toNat
  | .or => k.wrap (x ||| y).toNat
  | .xor => k.wrap (x ^^^ y).toNat
  | _ => k.wrap (x &&& ~~~y).toNat

def binInt (op : BinOp) (k : IntKind) (a b : Int) (own : List Blk) (d : Option Nat) (s : St) : OR :=
  match op with
  | .add => .set (.v (.int k (k.wrap (a + b)))) own
  | .sub => .set (.v (.int k (k.wrap (a - b)))) own
  | .mul => .set (.v (.int k (k.wrap (a * b)))) own
  | .quo => .ev (.need (b ≠ 0) (.int k (k.wrap (a.tdiv b))) d s)
  | .rem => .ev (.need (b ≠ 0) (.int k (a.tmod b)) d s)
  | .and => .set (.v (.int k (bitsF .and k a b))) own
  | .or => .set (.v (.int k (bitsF .or k a b))) own
  | .xor => .set (.v (.int k (bitsF .xor k a b))) own
  | .andNot => .set (.v (.int k (bitsF .andNot k a b))) own
  | .eql => .set (.v (.bool (a == b))) own
  | .neq => .set (.v (.bool (a != b))) own
  | .lss => .set (.v (.bool (decide (a < b)))) own
  | .leq => .set (.v (.bool (decide (a ≤ b)))) own
  | .gtr => .set (.v (.bool (decide (a > b)))) own
  | .geq => .set (.v (.bool (decide (a ≥ b)))) own
  | _ => .bad 20

def kindEq : IntKind → IntKind → Bool
  | .i8, .i8 => true | .i16, .i16 => true | .i32, .i32 => true | .i64, .i64 => true
  | .u8, .u8 => true | .u16, .u16 => true | .u32, .u32 => true | .u64, .u64 => true
  | _, _ => false

def isShift : BinOp → Bool
  | .shl => true
  | .shr => true
  | _ => false

def boolOf : SV → Option Bool
  | .tt => some true
  | .ff => some false
  | .v (.bool b) => some b
  | _ => none

def ofB : Bool → SV
  | true => .tt
  | false => .ff

def binF (P : Program) (op : BinOp) (t : TypeId) (x y : SV) (own : List Blk) (d : Option Nat) (s : St) : OR :=
  match x, y with
  | .v (.int k a), .v (.int k' b) => match isShift op with
    | true => match op with
      | .shl => .ev (.need (0 ≤ b) (.int k (k.wrap (a * 2 ^ (min b.toNat k.bits)))) d s)
      | _ => .ev (.need (0 ≤ b) (.int k (a.fdiv (2 ^ (min b.toNat k.bits)))) d s)
    | false => match kindEq k k' with
      | true => binInt op k a b own d s
      | false => .bad 21
  | .v (.string a), .v (.string b) => match op with
    | .eql => .set (.v (.bool (decide (a = b)))) own
    | .neq => .set (.v (.bool (!decide (a = b)))) own
    | .add => .ev (.need (a.size + b.size ≤ 9223372036854775807) (.string (a ++ b)) d s)
    | .lss => .set (.v (.bool (Op.bytesLess a.data.toList b.data.toList))) own
    | .geq => .set (.v (.bool (!Op.bytesLess a.data.toList b.data.toList))) own
    | _ => .raw
  | .v (.pointer p), .v (.pointer q) => match P.underlying t with
    | some (.pointer _) => match q with
      | none => match op with
        | .eql => .set (.v (.bool p.isNone)) own
        | .neq => .set (.v (.bool p.isSome)) own
        | _ => .bad 22
      | some _ => .raw
    | _ => .raw
  | .loc _ _, .v (.pointer q) => match P.underlying t with
    | some (.pointer _) => match q with
      | none => match op with
        | .eql => .set .ff own
        | .neq => .set .tt own
        | _ => .bad 23
      | some _ => .raw
    | _ => .raw
  | x, y => match boolOf x with
    | some a => match boolOf y with
      | some b => match P.underlying t with
        | some .bool => match op with
          | .eql => .set (.v (.bool (a == b))) own
          | .neq => .set (.v (.bool (a != b))) own
          | _ => .raw
        | _ => .raw
      | none => .raw
    | none => .raw

def uniF (op : UnOp) (x : SV) (own : List Blk) : OR :=
  match op, x with
  | .not, .tt => .set .ff own
  | .not, .ff => .set .tt own
  | .not, .v (.bool b) => .set (.v (.bool (!b))) own
  | .neg, .v (.int k a) => .set (.v (.int k (k.wrap (0 - a)))) own
  | _, _ => .raw

/-- The parts of a composite value, put in. -/
def fillF (place : Nat → Option (Nat × Nat)) (cells : List Value) : List (Nat × Value) → Option (List Value)
  | [] => some cells
  | (i, v) :: rest => match place i with
    | none => none
    | some (off, size) => match cellsOfV v with
      | [] => none
      | u :: us => match Nat.beq (us.length + 1) size with
        | true => match setF off (u :: us) cells with
          | some cs => fillF place cs rest
          | none => none
        | false => none

def partsF (env : Env) (own : List Blk) : List (Nat × Operand) → Option (List (Nat × Value))
  | [] => some []
  | (i, x) :: l => match getS env x with
    | some s => match conc own s with
      | some v => match partsF env own l with
        | some vs => some ((i, v) :: vs)
        | none => none
      | none => none
    | none => none

def placesF (P : Program) (fs : Array Field) (i : Nat) : Option (Nat × Nat) :=
  match fs[i]? with
  | some f => match P.info? f.type with
    | some j => some (f.offset, j.size)
    | none => none
  | none => none

/-- Every field's type is known. -/
def fieldsKnown (P : Program) : List Field → Bool
  | [] => true
  | f :: fs => (P.info? f.type).isSome && fieldsKnown P fs

def zeroF (P : Program) (t : TypeId) : Option (List Value) := match P.info? t with
  | some i => match i.zero with
    | some z => takeF (cellsOfV z).length (cellsOfV z)
    | none => none
  | none => none

def lenF (P : Program) (t : TypeId) (x : SV) : Option Int :=
  match P.underlying t, x with
  | some .string, .v (.string s) => some s.size
  | some (.slice _), .v (.slice _ n _) => some n
  | some (.slice _), .gs _ n _ => some n
  | some (.array n _), _ => some n
  | _, _ => none

def intOf' : SV → Option (IntKind × Int)
  | .v (.int k i) => some (k, i)
  | _ => none

/-- An own list, written out. -/
def forceO {α : Type} : List Blk → (List Blk → α) → α
  | [], k => k []
  | ⟨id, nu, lv, bd⟩ :: l, k => forceO l fun l' => k (⟨id, nu, lv, bd⟩ :: l')

theorem forceO_eq {α : Type} : ∀ (l : List Blk) (k : List Blk → α), forceO l k = k l := by
  intro l
  induction l with
  | nil => intro k; rfl
  | cons B l ih => intro k; exact ih _

def allocEv (z : List Value) (t : TypeId) (own : List Blk) (d : Option Nat) (s : St) : OR :=
  forceO own fun own' => match s with
    | ⟨td, en, _⟩ => .ev (.alloc z t (.loc own'.length 0) d ⟨td, en, own'⟩)

theorem allocEv_eq {z : List Value} {t : TypeId} {own : List Blk} {d : Option Nat} {s : St} (hs : s.own = own) : allocEv z t own d s = .ev (.alloc z t (.loc own.length 0) d s) := by
  subst hs; unfold allocEv; rw [forceO_eq]

/-- One own block holds something else. -/
def setBodyF : List Blk → Nat → Body → Option (List Blk)
  | [], _, _ => some []
  | ⟨id, nu, lv, _⟩ :: l, 0, bd => some (⟨id, nu, lv, bd⟩ :: l)
  | B :: l, k + 1, bd => match setBodyF l k bd with
    | some r => some (B :: r)
    | none => none

theorem setBodyF_eq : ∀ (own : List Blk) (k : Nat) (bd : Body), setBodyF own k bd = some (setBody own k bd) := by
  intro own
  induction own with
  | nil => intro k bd; rfl
  | cons B l ih =>
    intro k bd
    cases k with
    | zero => rfl
    | succ k => simp [setBodyF, ih, setBody]

def evOp (P : Program) (o : Oper) (env : Env) (own : List Blk) (here s : St) : OR :=
  match o.op with
  | .move x => match getS env x with
    | some y => .set y own
    | none => .bad 1
  | .assign x => match getS env x with
    | some y => .set y own
    | none => .bad 2
  | .pick c a b => match getS env c with
    | some .tt => match getS env a with
      | some y => .set y own
      | none => .bad 3
    | some .ff => match getS env b with
      | some y => .set y own
      | none => .bad 4
    | some (.v (.bool q)) => match c with
      | .tmp j => .ev (.br q ⟨here.todo, (j, .tt) :: env, own⟩ ⟨here.todo, (j, .ff) :: env, own⟩)
      | _ => .bad 5
    | _ => .bad 6
  | .alloc t => match zeroF P t with
    | some z => allocEv z t own o.dst s
    | none => .bad 7
  | .box t x => match getS env x with
    | some y => match conc own y with
      | some v => match takeF (cellsOfV v).length (cellsOfV v) with
        | some z => allocEv z t own o.dst s
        | none => .bad 8
      | none => .bad 9
    | none => .bad 10
  | .build t ps => match P.underlying t with
    | some (.struct fs) => match zeroF P t with
      | some z => match partsF env own ps.toList with
        | some vs => match fieldsKnown P fs.toList with
          | true => match fillF (placesF P fs) z vs with
            | some cs => .set (.v (.agg ⟨cs⟩)) own
            | none => .bad 11
          | false => .bad 24
        | none => .bad 12
      | none => .bad 13
    | _ => .raw
  | .load t x => match sizeAt P t with
    | some n => match getS env x with
      | some (.loc k off) => match own[k]? with
        | some ⟨id, _, true, .cells l _⟩ => match n with
          | none => match dropF off l with
            | v :: _ => .set (.v v) own
            | [] => .bad 14
          | some m => match takeF m (dropF off l) with
            | some vs => .set (.v (.agg ⟨vs⟩)) own
            | none => .bad 15
        | some ⟨id, _, false, _⟩ => .ev (.load n ⟨id, off, none⟩ o.dst s)
        | _ => .bad 16
      | some (.locx k off) => .ev (.loadx k off n o.dst s)
      | some (.v (.pointer p)) => match p with
        | some a => .ev (.load n a o.dst s)
        | none => .bad 17
      | _ => .bad 18
    | none => .bad 19
  | .store t x y => match storeAt P t o.dst with
    | some n => match getS env y with
      | some yy => match conc own yy with
        | some v => match getS env x with
          | some (.loc k off) => match own[k]? with
            | some ⟨id, _, true, .cells l ty⟩ => match Nat.beq (cellsOfV v).length (n.getD 1) with
              | true => match setF off (cellsOfV v) l with
                | some l' => match setBodyF own k (.cells l' ty) with
                  | some own' => .skip own'
                  | none => .bad 29
                | none => .bad 30
              | false => .bad 31
            | _ => .bad 32
          | some (.locx k off) => .ev (.storex k off n v s)
          | some (.v (.pointer p)) => match p with
            | some a => .ev (.store n a v s)
            | none => .bad 33
          | _ => .bad 34
        | none => .bad 35
      | none => .bad 36
    | none => .bad 37
  | .nilCheck x => match getS env x with
    | some (.loc k off) => .set (.loc k off) own
    | some (.v (.pointer p)) => match p with
      | some a => .set (.v (.pointer (some a))) own
      | none => .bad 38
    | _ => .raw
  | .binOp op t x y _ => match getS env x with
    | some a => match getS env y with
      | some b => binF P op t a b own o.dst s
      | none => .bad 39
    | none => .bad 40
  | .unOp op _ x => match getS env x with
    | some a => uniF op a own
    | none => .bad 41
  | .convert src dst x => match getS env x with
    | some (.v (.int _ n)) => match P.underlying dst with
      | some (.int k) => match P.underlying src with
        | some (.int _) => .set (.v (.int k (k.wrap n))) own
        | _ => .raw
      | _ => .raw
    | _ => .raw
  | .makeInterface t x => .raw
  | .makeFunc fn first captured => match concs env own first.toList with
    | some a => match concs env own captured.toList with
      | some b => .set (.v (.func fn ⟨a⟩ ⟨b⟩)) own
      | none => .bad 42
    | none => .bad 43
  | .fieldAddr t x f => match fieldOff P t f with
    | some n => match getS env x with
      | some (.loc k off) => .set (.loc k (off + n)) own
      | some (.v (.pointer p)) => match p with
        | some a => .set (.v (.pointer (some (addF a n)))) own
        | none => .bad 44
      | _ => .bad 45
    | none => .bad 46
  | .indexAddr t x i => match getS env i with
    | some (.v (.int k i)) => match P.underlying t with
      | some (.slice e) => match P.info? e with
        | some j => match getS env x with
          | some (.v (.slice A n _)) => .ev (.idx A n i j.size o.dst s)
          | some (.gs k n _) => .ev (.idxg k n i j.size o.dst s)
          | _ => .bad 47
        | none => .bad 48
      | some (.array n e) => match P.info? e with
        | some j => match getS env x with
          | some (.v (.pointer p)) => match p with
            | some a => .ev (.idx (some a) n i j.size o.dst s)
            | none => .bad 49
          | some (.loc k off) => .ev (.idxo k off n i j.size o.dst s)
          | _ => .bad 50
        | none => .bad 51
      | _ => .bad 52
    | _ => .bad 53
  | .extract x i => match getS env x with
    | some (.v (.tuple vs)) => match vs[i]? with
      | some v => .set (.v v) own
      | none => .bad 54
    | _ => .bad 55
  | .call c => match c.callee with
    | .value g => match getS env g with
      | some (.v (.func fn first captured)) => match fn with
        | .func f => match concs env own c.args.toList with
          | some vs => .ev (.call f (first.toList ++ (vs ++ captured.toList)) o.dst s)
          | none => .bad 56
        | _ => .raw
      | _ => .raw
    | .builtin b => match b with
      | .len => match c.args.toList with
        | [x] => match getS env x with
          | some y => match c.argTypes.toList with
            | [t] => match lenF P t y with
              | some n => .set (.v (.int .i64 n)) own
              | none => .raw
            | _ => .bad 57
          | none => .bad 58
        | _ => .bad 59
      | .min => match c.args.toList with
        | [x, y] => match getS env x, getS env y with
          | some (.v (.int k a)), some (.v (.int _ b)) => .set (.v (.int k (if b < a then b else a))) own
          | _, _ => .raw
        | _ => .raw
      | .max => match c.args.toList with
        | [x, y] => match getS env x, getS env y with
          | some (.v (.int k a)), some (.v (.int _ b)) => .set (.v (.int k (if b > a then b else a))) own
          | _, _ => .raw
        | _ => .raw
      | _ => .raw
    | _ => .raw
  | _ => .raw

/-- Is an operation wanted? none: it hangs on something that is not known. -/
inductive Guard where
  | yes
  | no
  | ask (j : Nat) (b : Bool)
  | bad

def guardF (ops : Array Oper) (o : Oper) (env : Env) : Guard :=
  match o.guard with
  | none => .yes
  | some (j, want) => match ops[j]? with
    | some q => match q.dst with
      | some t => match get env t with
        | some .tt => match want with
          | true => .yes
          | false => .no
        | some .ff => match want with
          | true => .no
          | false => .yes
        | some (.v (.bool b)) => .ask t b
        | _ => .bad
      | none => .bad
    | none => .bad

def okDst (n : Nat) : Option Nat → Bool
  | none => true
  | some i => Nat.blt i n

def ev (P : Program) (F : Func) : Nat → List It → Env → List Blk → Ev
  | 0, _, _, _ => .stuck 100
  | n + 1, todo, env, own =>
    match todo with
    | [] => .ret env own
    | .blk _ :: k => ev P F n k env own
    | .scope _ :: k => ev P F n k env own
    | .loop p :: k => .loop ⟨.code (0 :: p) :: .loop p :: k, env, own⟩
    | .code p :: k => match sub (bodyOf F) p with
      | .skip => ev P F n k env own
      | .label _ => ev P F n k env own
      | .seq _ _ => ev P F n (.code (0 :: p) :: .code (1 :: p) :: k) env own
      | .ret => .ret env own
      | .block id _ => ev P F n (.code (0 :: p) :: .blk id :: k) env own
      | .loop _ => .loop ⟨.code (0 :: p) :: .loop p :: k, env, own⟩
      | .scope _ => ev P F n (.code (0 :: p) :: .scope p :: k) env own
      | .exit id => match exitIt id k with
        | some k' => ev P F n k' env own
        | none => .stuck 101
      | .cond c _ _ => match getS env c with
        | some .tt => ev P F n (.code (0 :: p) :: k) env own
        | some .ff => ev P F n (.code (1 :: p) :: k) env own
        | some (.v (.bool b)) => .br b ⟨.code (0 :: p) :: k, env, own⟩ ⟨.code (1 :: p) :: k, env, own⟩
        | _ => .stuck 102
      | .region _ ops draw => match draw with
        | false => ev P F n (.ops p (List.range ops.size) :: k) env own
        | true => .draw p ⟨k, env, own⟩
      | _ => .stuck 103
    | .ops p l :: k => match l with
      | [] => ev P F n k env own
      | i :: l => match (opsAt F p)[i]? with
        | none => .stuck 104
        | some o => match okDst F.ntmps o.dst with
          | false => .stuck 105
          | true => match guardF (opsAt F p) o env with
            | .bad => .stuck 106
            | .no => match o.dst with
              | some d => ev P F n (.ops p l :: k) ((d, .v undef) :: env) own
              | none => ev P F n (.ops p l :: k) env own
            | .ask t b => .br b ⟨.ops p (i :: l) :: k, (t, .tt) :: env, own⟩ ⟨.ops p (i :: l) :: k, (t, .ff) :: env, own⟩
            | .yes => match evOp P o env own ⟨.ops p (i :: l) :: k, env, own⟩ ⟨.ops p l :: k, env, own⟩ with
              | .set x own' => match o.dst with
                | some d => ev P F n (.ops p l :: k) ((d, x) :: env) own'
                | none => ev P F n (.ops p l :: k) env own'
              | .skip own' => match o.dst with
                | some d => .stuck 107
                | none => ev P F n (.ops p l :: k) env own'
              | .ev e => e
              | .raw => .raw o ⟨.ops p l :: k, env, own⟩
              | .bad m => .stuck m

end Go.Vc
/- That an operation does what was reckoned of it. No condition. -/
namespace Go.Vc
set_option linter.unusedVariables false
set_option linter.unusedSimpArgs false

def EnvOK (a : Act) (env : Env) (own : List Blk) : Prop := ∀ i x, get env i = some x → ∃ v, conc own x = some v ∧ a.tmps[i]? = some v

theorem get_cons (i : Nat) (x : SV) (env : Env) (j : Nat) : get ((i, x) :: env) j = if i = j then some x else get env j := by
  simp only [get]
  by_cases h : i = j
  · subst h; simp
  · have : Nat.beq i j = false := by
      cases hb : Nat.beq i j with
      | false => rfl
      | true => exact absurd (Nat.eq_of_beq_eq_true hb) h
    rw [this, if_neg h]

theorem eval_tmp {a : Act} {t : Nat} {v : Value} (h : a.tmps[t]? = some v) : a.eval (.tmp t) = v := by
  simp [Act.eval, Array.getD_eq_getD_getElem?, h]

theorem conc_ofConst (own : List Blk) (v : Value) : conc own (ofConst v) = some v := by
  cases v <;> first | rfl | (rename_i b; cases b <;> rfl)

theorem getS_ok {a : Act} {env : Env} {own : List Blk} (h : EnvOK a env own) {x : Operand} {y : SV} (hx : getS env x = some y) :
    conc own y = some (a.eval x) := by
  cases x with
  | tmp t =>
    obtain ⟨v, hv, ht⟩ := h t y hx
    rw [hv, eval_tmp ht]
  | const v => simp only [getS, Option.some.injEq] at hx; subst hx; exact conc_ofConst own v
  | global g => simp only [getS, Option.some.injEq] at hx; subst hx; rfl
  | func f => simp only [getS, Option.some.injEq] at hx; subst hx; rfl

theorem concs_ok {a : Act} {env : Env} {own : List Blk} (h : EnvOK a env own) : ∀ {l : List Operand} {vs : List Value}, concs env own l = some vs → vs = l.map a.eval := by
  intro l
  induction l with
  | nil => intro vs hv; simp only [concs, Option.some.injEq] at hv; subst hv; rfl
  | cons x l ih =>
    intro vs hv
    simp only [concs] at hv
    split at hv
    · rename_i s hs
      split at hv
      · rename_i v hcv
        split at hv
        · rename_i ws hws
          simp only [Option.some.injEq] at hv; subst hv
          rw [List.map_cons, ih hws]
          have := getS_ok h hs
          rw [hcv] at this
          cases this; rfl
        · cases hv
      · cases hv
    · cases hv

theorem partsF_ok {a : Act} {env : Env} {own : List Blk} (h : EnvOK a env own) : ∀ {l : List (Nat × Operand)} {vs : List (Nat × Value)}, partsF env own l = some vs → vs = l.map fun p => (p.1, a.eval p.2) := by
  intro l
  induction l with
  | nil => intro vs hv; simp only [partsF, Option.some.injEq] at hv; subst hv; rfl
  | cons x l ih =>
    obtain ⟨i, x⟩ := x
    intro vs hv
    simp only [partsF] at hv
    split at hv
    · rename_i s hs
      split at hv
      · rename_i v hcv
        split at hv
        · rename_i ws hws
          simp only [Option.some.injEq] at hv; subst hv
          rw [List.map_cons, ih hws]
          have := getS_ok h hs
          rw [hcv] at this
          cases this; rfl
        · cases hv
      · cases hv
    · cases hv

theorem cellsOfV_eq (v : Value) : cellsOfV v = v.cells.toList := by cases v <;> rfl

theorem takeF_ok : ∀ {n : Nat} {l r : List Value}, takeF n l = some r → r = l.take n ∧ r.length = n := by
  intro n
  induction n with
  | zero => intro l r h; simp only [takeF, Option.some.injEq] at h; subst h; simp
  | succ n ih =>
    intro l r h
    cases l with
    | nil => simp [takeF] at h
    | cons x l =>
      simp only [takeF] at h
      split at h
      · rename_i q hq
        simp only [Option.some.injEq] at h; subst h
        obtain ⟨h1, h2⟩ := ih hq
        simp [← h1, h2]
      · cases h

theorem takeF_all {l r : List Value} (h : takeF l.length l = some r) : r = l := by
  have := (takeF_ok h).1
  simpa using this

theorem dropF_eq : ∀ (n : Nat) (l : List Value), dropF n l = l.drop n := by
  intro n
  induction n with
  | zero => intro l; rfl
  | succ n ih => intro l; cases l <;> simp [dropF, ih]

theorem kindEq_ok {k k' : IntKind} (h : kindEq k k' = true) : k = k' := by cases k <;> cases k' <;> first | rfl | simp [kindEq] at h

theorem addF_eq (a : Addr) (n : Nat) : addF a n = a.add n := by cases n <;> simp [addF, Addr.add]

/-- What a load of a type reads. -/
theorem run_isAgg {P : Program} {t : TypeId} {d : TypeDesc} (h : P.underlying t = some d) (w : World) :
    (isAgg t).run P w = .ok (match d with | .struct _ | .array _ _ => true | _ => false) w := by
  simp only [isAgg, Sem.run_bind, run_underlying h, Result.andThen_ok]
  cases d <;> rfl

theorem sizeAt_some {P : Program} {t : TypeId} {m : Nat} (h : sizeAt P t = some (some m)) (w : World) :
    (isAgg t).run P w = .ok true w ∧ (sizeOf t).run P w = .ok m w := by
  unfold sizeAt at h
  cases hu : P.underlying t with
  | none => rw [hu] at h; cases h
  | some d =>
    rw [run_isAgg hu w]
    rw [hu] at h
    cases hi : P.info? t with
    | none => rw [hi] at h; cases d <;> cases h
    | some i =>
      rw [hi] at h
      cases d <;> first
        | (simp only [Option.some.injEq] at h; subst h; exact ⟨rfl, by simp [sizeOf, typeInfo, hi]⟩)
        | (dsimp only at h; split at h <;> simp at h; done)

theorem sizeAt_none {P : Program} {t : TypeId} (h : sizeAt P t = some none) (w : World) :
    (isAgg t).run P w = .ok false w ∧ (sizeOf t).run P w = .ok 1 w := by
  unfold sizeAt at h
  cases hu : P.underlying t with
  | none => rw [hu] at h; cases h
  | some d =>
    rw [run_isAgg hu w]
    rw [hu] at h
    cases hi : P.info? t with
    | none => rw [hi] at h; cases d <;> cases h
    | some i =>
      rw [hi] at h
      cases d <;> first
        | (simp at h; done)
        | (dsimp only at h; split at h
           · rename_i h1; exact ⟨rfl, by simp [sizeOf, typeInfo, hi, h1]⟩
           · cases h)

theorem info_size {P : Program} {t : TypeId} {i : TypeInfo} (h : P.info? t = some i) (w : World) : (sizeOf t).run P w = .ok i.size w := by
  simp [sizeOf, typeInfo, h]

theorem info_zero {P : Program} {t : TypeId} {i : TypeInfo} {z : Value} (h : P.info? t = some i) (hz : i.zero = some z) (w : World) : (zeroValue t).run P w = .ok z w := by
  simp [zeroValue, typeInfo, h, hz]

theorem zeroF_ok {P : Program} {t : TypeId} {z : List Value} (h : zeroF P t = some z) (w : World) : ∃ v, (zeroValue t).run P w = .ok v w ∧ v.cells.toList = z := by
  unfold zeroF at h
  split at h
  · rename_i i hi
    split at h
    · rename_i v hv
      have := takeF_all h
      exact ⟨v, info_zero hi hv w, by rw [this, cellsOfV_eq]⟩
    · cases h
  · cases h

/-- Cells of an own block. -/
theorem own_cell {R : World} {h : PHeap} {own : List Blk} {f : Frm} (g : Good R h own f) {k id : Nat} {nu : Bool} {l : List Value} {ty : TypeId} (hk : own[k]? = some ⟨id, nu, true, .cells l ty⟩) (i : Nat) :
    R.cell? ⟨id, i, none⟩ = l[i]? ∧ R.frozen? ⟨id, i, none⟩ = false := by
  have hm : (⟨id, nu, true, .cells l ty⟩ : Blk) ∈ own := List.mem_of_getElem? hk
  have hb := (g.ownOk _ hm rfl).1
  dsimp only [Body.toObj] at hb
  constructor
  · simp [World.cell?, hb]
  · simp only [World.frozen?, hb]; simp

theorem loadVar_one {P : Program} {R : World} {t : TypeId} (ht : sizeAt P t = some none) {a : Addr} {v : Value} (hc : R.cell? a = some v) : (loadVar t a).run P R = .ok v R := by
  simp [loadVar, (sizeAt_none ht R).1, hc]

theorem addr_add (b o n : Nat) : (⟨b, o, none⟩ : Addr).add n = ⟨b, o + n, none⟩ := by
  unfold Addr.add; split
  · rename_i h; subst h; rfl
  · rfl

theorem loadVar_many {P : Program} {R : World} {t : TypeId} {m : Nat} (ht : sizeAt P t = some (some m)) {a : Addr} {vs : List Value} (hl : vs.length = m) (hc : ∀ j v, vs[j]? = some v → R.cell? (a.add j) = some v) :
    (loadVar t a).run P R = .ok (.agg ⟨vs⟩) R := by
  obtain ⟨h1, h2⟩ := sizeAt_some ht R
  have h3 := run_loadCells_list (P := P) (w := R) a vs hc
  rw [hl] at h3
  simp [loadVar, h1, h2, h3]
end Go.Vc
/- That an operation does what was reckoned of it: each operation by itself. No condition. -/
namespace Go.Vc
set_option linter.unusedVariables false
set_option linter.unusedSimpArgs false

theorem setF_ok : ∀ {off : Nat} {vs l l' : List Value}, setF off vs l = some l' → vs ≠ [] →
    off + vs.length ≤ l.length ∧ (∀ v ∈ vs, v.oneCell' = true) ∧ l' = l.take off ++ vs ++ l.drop (off + vs.length) := by
  intro off
  induction off with
  | zero =>
    intro vs
    induction vs with
    | nil => intro l l' _ hn; exact absurd rfl hn
    | cons v vs ih =>
      intro l l' h _
      cases l with
      | nil => simp [setF] at h
      | cons x l =>
        simp only [setF] at h
        split at h
        · rename_i h1
          split at h
          · rename_i r hr
            simp only [Option.some.injEq] at h; subst h
            cases vs with
            | nil =>
              simp only [setF, Option.some.injEq] at hr; subst hr
              simp [h1]
            | cons u us =>
              obtain ⟨g1, g2, g3⟩ := ih hr (by simp)
              refine ⟨by simp at g1 ⊢; omega, ?_, ?_⟩
              · intro y hy
                rcases List.mem_cons.1 hy with rfl | hy
                · exact h1
                · exact g2 y hy
              · rw [g3]
                simp only [List.take_zero, List.nil_append, List.length_cons, Nat.zero_add, List.cons_append]
                congr 3
          · cases h
        · cases h
  | succ n ih =>
    intro vs l l' h hn
    cases vs with
    | nil => exact absurd rfl hn
    | cons v vs =>
      cases l with
      | nil => simp [setF] at h
      | cons x l =>
        simp only [setF] at h
        split at h
        · rename_i r hr
          simp only [Option.some.injEq] at h; subst h
          obtain ⟨g1, g2, g3⟩ := ih hr (by simp)
          refine ⟨by simp at g1 ⊢; omega, g2, ?_⟩
          rw [g3]
          have : n + 1 + (v :: vs).length = (n + (v :: vs).length) + 1 := by omega
          rw [this]
          simp
        · cases h

theorem setBody_eq : ∀ {own : List Blk} {k : Nat} {B : Blk} (bd : Body), own[k]? = some B → setBody own k bd = own.set k { B with body := bd } := by
  intro own
  induction own with
  | nil => intro k B bd h; simp at h
  | cons A l ih =>
    intro k B bd h
    cases k with
    | zero => simp at h; subst h; rfl
    | succ k => simp at h; simp [setBody, ih bd h]

theorem conc_set {own : List Blk} {k : Nat} {B : Blk} (bd : Body) (hk : own[k]? = some B) (x : SV) : conc (own.set k { B with body := bd }) x = conc own x := by
  have key : ∀ j : Nat, (∀ C : Blk, own[j]? = some C → ∃ D : Blk, (own.set k { B with body := bd })[j]? = some D ∧ D.id = C.id ∧ D.nul = C.nul) ∧ (own[j]? = none → (own.set k { B with body := bd })[j]? = none) := by
    intro j
    refine ⟨fun C hC => ?_, fun hn => ?_⟩
    · by_cases hj : k = j
      · subst hj
        rw [hk] at hC; cases hC
        have := (List.getElem?_eq_some_iff.1 hk).1
        exact ⟨{ B with body := bd }, by simp [this], rfl, rfl⟩
      · exact ⟨C, by rw [List.getElem?_set_ne hj]; exact hC, rfl, rfl⟩
    · simpa using hn
  cases x with
  | v x => rfl
  | tt => rfl
  | ff => rfl
  | loc j off =>
    cases hj : own[j]? with
    | none => simp only [conc, hj, (key j).2 hj]
    | some C => obtain ⟨D, h1, h2, h3⟩ := (key j).1 C hj; simp only [conc, hj, h1, h2]
  | locx j off =>
    cases hj : own[j]? with
    | none => simp only [conc, hj, (key j).2 hj]
    | some C => obtain ⟨D, h1, h2, h3⟩ := (key j).1 C hj; simp only [conc, hj, h1, h2]
  | gs j n c =>
    cases hj : own[j]? with
    | none => simp only [conc, hj, (key j).2 hj]
    | some C => obtain ⟨D, h1, h2, h3⟩ := (key j).1 C hj; simp only [conc, hj, h1, h2, h3, nulAddr]

theorem EnvOK.set {a : Act} {env : Env} {own : List Blk} (h : EnvOK a env own) {k : Nat} {B : Blk} (bd : Body) (hk : own[k]? = some B) : EnvOK a env (own.set k { B with body := bd }) := by
  intro i x hx
  obtain ⟨v, hv, ht⟩ := h i x hx
  exact ⟨v, by rw [conc_set bd hk]; exact hv, ht⟩

theorem setRow_at {R : World} {g : Nat} {c : Array Value} {ty : TypeId} (h : R.heap[g]? = some (.cells c ty (0, 0))) (r : Array Value) :
    (R.setRow g r).heap[g]? = some (.cells r ty (0, 0)) ∧ ∀ b, b ≠ g → (R.setRow g r).heap[b]? = R.heap[b]? := by
  refine ⟨setRow_heap R g c r ty _ h, fun b hb => ?_⟩
  unfold World.setRow
  simp [Array.getElem?_modify, Ne.symm hb]

/-- A store into an own block. -/
theorem store_own {P : Program} {R : World} {h : PHeap} {own : List Blk} {f : Frm} (g : Good R h own f) {k id : Nat} {nu : Bool} {l l' : List Value} {ty t : TypeId} (hk : own[k]? = some ⟨id, nu, true, .cells l ty⟩)
    {off : Nat} {v : Value} (hs : (sizeOf t).run P R = .ok v.cells.size R) (hset : setF off v.cells.toList l = some l') :
    ∃ R', (storeVar t ⟨id, off, none⟩ v).run P R = .ok () R' ∧ Good R' h (setBody own k (.cells l' ty)) f := by
  rw [setBody_eq _ hk]
  have hm : (⟨id, nu, true, .cells l ty⟩ : Blk) ∈ own := List.mem_of_getElem? hk
  have hb := (g.ownOk _ hm rfl).1
  dsimp only [Body.toObj] at hb
  by_cases hne : v.cells.toList = []
  · rw [hne] at hset
    have hl : l' = l := by cases off <;> simp [setF] at hset <;> exact hset.symm
    subst hl
    refine ⟨R, ?_, ?_⟩
    · simp [storeVar, hs, hne, storeCells]
    · exact g.set hk rfl _ rfl rfl hb (fun _ _ => rfl)
  · obtain ⟨g1, g2, g3⟩ := setF_ok hset hne
    have hrun := run_storeCells_at P id off ty v.cells.toList 0 ⟨l⟩ R hb (by simpa using g1) g2
    obtain ⟨s1, s2⟩ := setRow_at hb (((⟨l⟩ : Array Value).toList.take (off + 0) ++ v.cells.toList ++ (⟨l⟩ : Array Value).toList.drop (off + 0 + v.cells.toList.length)).toArray)
    refine ⟨_, ?_, g.set (R' := R.setRow id _) hk rfl (.cells l' ty) rfl rfl (by rw [s1]; simp [Body.toObj, g3]) s2⟩
    simp [storeVar, hs] at hrun ⊢
    rw [hrun]
end Go.Vc
/- That an operation does what was reckoned of it: all operations. No condition. -/
namespace Go.Vc
set_option linter.unusedVariables false
set_option linter.unusedSimpArgs false

theorem some_inj' {α : Type} {x y : α} (h : some x = some y) : x = y := Option.some.inj h

theorem run_int_bits (P : Program) (R : World) (op : BinOp) (k : IntKind) (a b : Int) (h : op = .and ∨ op = .or ∨ op = .xor ∨ op = .andNot) :
    (Op.intBits op k a b).run P R = .ok (.int k (bitsF op k a b)) R := by
  rcases h with rfl | rfl | rfl | rfl <;> simp [Op.intBits, bitsF]

theorem eqGuard_int (P : Program) (R : World) (op : BinOp) (t : TypeId) (x y : Operand) (k k' : IntKind) (a b : Int) : (eqGuard op t x y (.int k a) (.int k' b)).run P R = .ok () R := by
  unfold eqGuard
  cases op <;> simp
theorem eqGuard_string (P : Program) (R : World) (op : BinOp) (t : TypeId) (x y : Operand) (a b : ByteArray) : (eqGuard op t x y (.string a) (.string b)).run P R = .ok () R := by
  unfold eqGuard
  cases op <;> simp
theorem eqGuard_pointer (P : Program) (R : World) (op : BinOp) (t : TypeId) (x y : Operand) (a b : Option Addr) : (eqGuard op t x y (.pointer a) (.pointer b)).run P R = .ok () R := by
  unfold eqGuard
  cases op <;> simp

theorem ba_toList (a : ByteArray) : a.toList = a.data.toList := Go.ByteArray.toList_eq a

theorem binInt_set {P : Program} {R : World} {op : BinOp} {t : TypeId} {k : IntKind} {a b : Int} {own own' : List Blk} {d : Option Nat} {s : St} {z : SV}
    (h : binInt op k a b own d s = .set z own') (hns : isShift op = false) : own' = own ∧ ∃ v, z = .v v ∧ (binOp op t (.int k a) (.int k b)).run P R = .ok v R := by
  cases op <;> simp only [binInt, OR.set.injEq, reduceCtorEq, isShift, Bool.true_eq_false] at h hns
  all_goals
    obtain ⟨rfl, rfl⟩ := h
    refine ⟨rfl, _, rfl, ?_⟩
    first
      | (simp [binOp, Op.intArith]; done)
      | (simp [binOp, Op.intCmp]; done)
      | (simp only [binOp, ne_eq, not_true_eq_false, if_false]; rw [run_int_bits]; simp; done)

theorem equalIn_ptr_nil {P : Program} {R : World} {t e : TypeId} (hu : P.underlying t = some (.pointer e)) (p : Option Addr) (d : Nat) : (Op.equalIn (d + 1) t (.pointer p) (.pointer none)).run P R = .ok p.isNone R := by
  cases p <;> simp [Op.equalIn, run_underlying hu]

theorem binOp_ptr_nil {P : Program} {R : World} {t e : TypeId} (hu : P.underlying t = some (.pointer e)) (p : Option Addr) :
    (binOp .eql t (.pointer p) (.pointer none)).run P R = .ok (.bool p.isNone) R ∧ (binOp .neq t (.pointer p) (.pointer none)).run P R = .ok (.bool p.isSome) R := by
  have h := equalIn_ptr_nil (R := R) hu p 9999
  constructor
  · simp only [binOp, Op.equal, Op.maxDepth, Sem.run_bind, h, Result.andThen_ok, Sem.run_pure]
  · simp only [binOp, Op.equal, Op.maxDepth, Sem.run_bind, h, Result.andThen_ok, Sem.run_pure]
    cases p <;> rfl

theorem eqGuard_bool (P : Program) (R : World) (op : BinOp) (t : TypeId) (x y : Operand) (a b : Bool) : (eqGuard op t x y (.bool a) (.bool b)).run P R = .ok () R := by
  unfold eqGuard
  cases op <;> simp
theorem boolOf_ok {x : SV} {a : Bool} (own : List Blk) (h : boolOf x = some a) : conc own x = some (.bool a) := by
  unfold boolOf at h
  split at h <;> cases h <;> rfl

theorem binF_set {P : Program} {R : World} {op : BinOp} {t : TypeId} {xo yo : Operand} {x y : SV} {own own' : List Blk} {d : Option Nat} {s : St} {z : SV} {xv yv : Value}
    (h : binF P op t x y own d s = .set z own') (hx : conc own x = some xv) (hy : conc own y = some yv) :
    own' = own ∧ ∃ v, conc own z = some v ∧ (eqGuard op t xo yo xv yv).run P R = .ok () R ∧ (binOp op t xv yv).run P R = .ok v R := by
  unfold binF at h
  split at h
  · simp only [conc, Option.some.injEq] at hx hy; subst hx hy
    split at h
    · split at h <;> cases h
    · rename_i hns
      split at h
      · rename_i hk
        have := kindEq_ok hk; subst this
        obtain ⟨h1, v, rfl, h2⟩ := binInt_set (t := t) (R := R) (P := P) h hns
        exact ⟨h1, v, rfl, eqGuard_int .., h2⟩
      · cases h
  · rename_i a b
    simp only [conc, Option.some.injEq] at hx hy; subst hx hy
    have e : (a.toList == b.toList) = decide (a = b) := by
      rw [ba_toList, ba_toList]
      by_cases hab : a = b
      · subst hab; simp
      · have : ¬ a.data.toList = b.data.toList := fun hh => hab (by cases a; cases b; simp_all [Array.toList_inj])
        rw [decide_eq_false hab, beq_eq_false_iff_ne]; exact this
    split at h <;> cases h
    all_goals refine ⟨rfl, _, rfl, eqGuard_string .., ?_⟩
    · simp [binOp, Op.stringOp, e]
    · simp [binOp, Op.stringOp, e]
    · simp [binOp, Op.stringOp, ba_toList]
    · simp [binOp, Op.stringOp, ba_toList]
  · rename_i p q
    simp only [conc, Option.some.injEq] at hx hy; subst hx hy
    split at h
    · rename_i hu
      split at h
      · split at h <;> cases h
        · refine ⟨rfl, _, rfl, eqGuard_pointer .., ?_⟩
          exact (binOp_ptr_nil hu p).1
        · refine ⟨rfl, _, rfl, eqGuard_pointer .., ?_⟩
          exact (binOp_ptr_nil hu p).2
      · cases h
    · cases h
  · rename_i k off q
    simp only [conc, Option.some.injEq] at hy; subst hy
    simp only [conc] at hx
    split at hx
    · simp only [Option.some.injEq] at hx; subst hx
      split at h
      · rename_i hu
        split at h
        · split at h <;> cases h
          · refine ⟨rfl, _, rfl, eqGuard_pointer .., ?_⟩
            exact (binOp_ptr_nil hu _).1
          · refine ⟨rfl, _, rfl, eqGuard_pointer .., ?_⟩
            exact (binOp_ptr_nil hu _).2
        · cases h
      · cases h
    · cases hx
  · split at h
    · rename_i a ha
      split at h
      · rename_i b hb
        have h1 := boolOf_ok own ha
        have h2 := boolOf_ok own hb
        rw [hx] at h1; rw [hy] at h2
        cases h1; cases h2
        split at h
        · rename_i hu
          split at h <;> cases h
          · exact ⟨rfl, _, rfl, eqGuard_bool .., by simp [binOp, Op.equal, Op.maxDepth, run_equalIn_bool R 9999 t a b hu]⟩
          · exact ⟨rfl, _, rfl, eqGuard_bool .., by simp [binOp, Op.equal, Op.maxDepth, run_equalIn_bool R 9999 t a b hu]; cases a <;> cases b <;> rfl⟩
        · cases h
      · cases h
    · cases h

theorem uniF_set {P : Program} {R : World} {op : UnOp} {x : SV} {own own' : List Blk} {z : SV} {xv : Value} (h : uniF op x own = .set z own') (hx : conc own x = some xv) :
    own' = own ∧ ∃ v, conc own z = some v ∧ (Op.unary op xv).run P R = .ok v R := by
  unfold uniF at h
  split at h <;> cases h <;> (simp only [conc, Option.some.injEq] at hx; subst hx; refine ⟨rfl, _, rfl, ?_⟩)
  · simp [Op.unary]
  · simp [Op.unary]
  · simp [Op.unary]
  · simp [Op.unary, Op.intArith]

/-- Putting a part's cells in, as the model does it. -/
theorem fold_set (vs : List Value) : ∀ (off i : Nat) (cs : Array Value), (vs.zipIdx i).foldl (fun (cs : Array Value) (p : Value × Nat) => cs.setIfInBounds (off + p.2) p.1) cs
    = ((vs.zipIdx i).foldl (fun (l : List Value) (p : Value × Nat) => l.set (off + p.2) p.1) cs.toList).toArray := by
  induction vs with
  | nil => intro off i cs; simp
  | cons v vs ih => intro off i cs; simp only [List.zipIdx_cons, List.foldl_cons]; rw [ih]; simp

theorem fold_list (vs : List Value) : ∀ (off i : Nat) (l : List Value), off + i + vs.length ≤ l.length →
    (vs.zipIdx i).foldl (fun (l : List Value) (p : Value × Nat) => l.set (off + p.2) p.1) l = l.take (off + i) ++ vs ++ l.drop (off + i + vs.length) := by
  induction vs with
  | nil => intro off i l _; simp
  | cons v vs ih =>
    intro off i l hl
    simp only [List.zipIdx_cons, List.foldl_cons, List.length_cons] at hl ⊢
    rw [ih off (i + 1) (l.set (off + i) v) (by simp; omega)]
    have := list_seg_step l (off + i) v vs (by omega)
    rw [show off + (i + 1) = off + i + 1 from by omega]
    exact this

theorem fillF_ok {place : Nat → Option (Nat × Nat)} : ∀ {parts : List (Nat × Value)} {cells r : List Value}, fillF place cells parts = some r → Instr.fill place ⟨cells⟩ parts = some ⟨r⟩ := by
  intro parts
  induction parts with
  | nil => intro cells r h; simp only [fillF, Option.some.injEq] at h; subst h; rfl
  | cons p parts ih =>
    obtain ⟨i, v⟩ := p
    intro cells r h
    simp only [fillF] at h
    split at h
    · cases h
    · rename_i off size hp
      split at h
      · cases h
      · rename_i u us hus
        split at h
        · rename_i hsz
          split at h
          · rename_i cs hcs
            have hsz' := Nat.eq_of_beq_eq_true hsz
            rw [← hus, cellsOfV_eq] at hcs
            have hvs : v.cells.size = size := by
              have := congrArg List.length hus
              rw [cellsOfV_eq] at this
              simp at this; omega
            have hne : v.cells.toList ≠ [] := by rw [← cellsOfV_eq, hus]; simp
            simp only [Instr.fill, hp]
            obtain ⟨g1, g2, g3⟩ := setF_ok hcs hne
            rw [if_neg (by simp [hvs]; simp at g1; omega)]
            have e1 : v.cells.zipIdx.foldl (fun (cs : Array Value) (p : Value × Nat) => cs.setIfInBounds (off + p.2) p.1) ⟨cells⟩ = ⟨cs⟩ := by
              rw [← Array.foldl_toList, Array.toList_zipIdx]
              rw [fold_set, fold_list _ _ _ _ (by simpa using g1)]
              simp [g3]
            rw [e1]
            exact ih h
          · cases h
        · cases h

end Go.Vc
/- That an operation does what was reckoned of it: the whole. No condition. -/
namespace Go.Vc
set_option linter.unusedVariables false
set_option linter.unusedSimpArgs false

theorem mapM_places {P : Program} {R : World} : ∀ (fs : List Field) (r : List (Nat × Nat)), (∀ (i : Nat) (f : Field), fs[i]? = some f → ∃ j, P.info? f.type = some j) →
    ∃ r : List (Nat × Nat), (fs.mapM (fun f => (do pure (f.offset, ← sizeOf f.type) : Sem (Nat × Nat)))).run P R = .ok r R ∧ ∀ i : Nat, r[i]? = (fs[i]?).bind fun (f : Field) => (P.info? f.type).map fun j => (f.offset, j.size) := by
  intro fs
  induction fs with
  | nil => intro r _; exact ⟨[], by simp, by simp⟩
  | cons f fs ih =>
    intro r h
    obtain ⟨j, hj⟩ := h 0 f rfl
    obtain ⟨q, hq, hq'⟩ := ih [] (fun i g hg => h (i + 1) g (by simpa using hg))
    refine ⟨(f.offset, j.size) :: q, ?_, ?_⟩
    · simp only [List.mapM_cons, Sem.run_bind, info_size hj, Result.andThen_ok, Sem.run_pure, hq]
    · intro i
      cases i with
      | zero => simp [hj]
      | succ i => simp [hq']

theorem fill_congr {p q : Nat → Option (Nat × Nat)} : ∀ (parts : List (Nat × Value)) (cells : Array Value) (r : Array Value), (∀ i v, (i, v) ∈ parts → ∀ x, p i = some x → q i = some x) → Instr.fill p cells parts = some r → Instr.fill q cells parts = some r := by
  intro parts
  induction parts with
  | nil => intro cells r _ h; exact h
  | cons a parts ih =>
    obtain ⟨i, v⟩ := a
    intro cells r hpq h
    simp only [Instr.fill] at h ⊢
    cases hp : p i with
    | none => rw [hp] at h; cases h
    | some x =>
      rw [hp] at h
      rw [hpq i v (by simp) x hp]
      dsimp only at h ⊢
      split at h
      · cases h
      · rename_i hc
        rw [if_neg hc]
        exact ih _ _ (fun j u hj => hpq j u (by simp [hj])) h

theorem fieldsKnown_ok {P : Program} : ∀ {fs : List Field}, fieldsKnown P fs = true → ∀ (i : Nat) (f : Field), fs[i]? = some f → ∃ j, P.info? f.type = some j := by
  intro fs
  induction fs with
  | nil => intro _ i f h; simp at h
  | cons g fs ih =>
    intro h i f hf
    simp only [fieldsKnown, Bool.and_eq_true] at h
    cases i with
    | zero => simp at hf; subst hf; exact Option.isSome_iff_exists.1 h.1
    | succ i => exact ih h.2 i f (by simpa using hf)

theorem build_ok {P : Program} {R : World} {t : TypeId} {fs : Array Field} {z cs : List Value} {vs : List (Nat × Value)} (hu : P.underlying t = some (.struct fs)) (hz : zeroF P t = some z)
    (hk : fieldsKnown P fs.toList = true) (hf : fillF (placesF P fs) z vs = some cs) : (Instr.build t ⟨vs⟩).run P R = .ok (.agg ⟨cs⟩) R := by
  obtain ⟨zv, hzv, hzc⟩ := zeroF_ok hz R
  obtain ⟨r, hr, hr'⟩ := mapM_places (P := P) (R := R) fs.toList [] (fieldsKnown_ok hk)
  have h1 := fillF_ok hf
  have h2 : Instr.fill (r.toArray[·]?) ⟨z⟩ vs = some ⟨cs⟩ := by
    refine fill_congr vs _ _ (fun i v _ x hx => ?_) h1
    unfold placesF at hx
    split at hx
    · rename_i f hf
      split at hx
      · rename_i j hj
        have : fs.toList[i]? = some f := by simpa using hf
        simp only [Option.some.injEq] at hx; subst hx
        simp [hr', hf, hj]
      · cases hx
    · cases hx
  have hzc' : zv.cells = ⟨z⟩ := by rw [← hzc]
  have hm : (fs.mapM (fun f => (do pure (f.offset, ← sizeOf f.type) : Sem (Nat × Nat)))).run P R = .ok r.toArray R := by
    rw [Array.mapM_eq_mapM_toList, Sem.run_map, hr]; rfl
  simp only [Instr.build, Sem.run_bind, hzv, Result.andThen_ok, run_underlying hu, hm, hzc', h2, Sem.run_pure]

theorem lenF_ok {P : Program} {R : World} {t : TypeId} {x : SV} {n : Int} {own : List Blk} {xv : Value} (h : lenF P t x = some n) (hx : conc own x = some xv) (ty : TypeId) :
    (Builtin.len_ #[t] ty #[xv]).run P R = .ok (.int .i64 n) R := by
  unfold lenF at h
  split at h <;> (try simp only [Option.some.injEq] at h) <;> (try subst h)
  · rename_i hu; simp only [conc, Option.some.injEq] at hx; subst hx; simp [Builtin.len_, run_underlying hu, goInt]
  · rename_i hu; simp only [conc, Option.some.injEq] at hx; subst hx; simp [Builtin.len_, run_underlying hu, goInt]
  · rename_i hu
    simp only [conc] at hx
    split at hx
    · simp only [Option.some.injEq] at hx; subst hx; simp [Builtin.len_, run_underlying hu, goInt]
    · cases hx
  · rename_i hu; cases xv <;> simp [Builtin.len_, run_underlying hu, goInt]
  · cases h
end Go.Vc
/- That an operation does what was reckoned of it: the whole, and where it stops. No condition. -/
namespace Go.Vc
set_option linter.unusedVariables false
set_option linter.unusedSimpArgs false

theorem set_inj {x y : SV} {a b : List Blk} (h : OR.set x a = OR.set y b) : x = y ∧ a = b := by cases h; exact ⟨rfl, rfl⟩

/-- An operation that only reckons. -/
theorem evOp_set {P : Program} {o : Oper} {env : Env} {own own' : List Blk} {here s : St} {z : SV} {a : Act} (he : evOp P o env own here s = .set z own') (hE : EnvOK a env own) :
    own' = own ∧ ∃ v, conc own z = some v ∧ ∀ (R : World) (h : PHeap) (f : Frm), Good R h own f → (execOp a.eval o).run P R = .ok (.value v) R := by
  obtain ⟨dst, op, ty, pos, after, guard⟩ := o
  cases op with
  | move x =>
    simp only [evOp] at he
    split at he
    · rename_i y hy
      obtain ⟨rfl, rfl⟩ := set_inj he
      exact ⟨rfl, _, getS_ok hE hy, fun R h f g => by simp [execOp]⟩
    · cases he
  | assign x =>
    simp only [evOp] at he
    split at he
    · rename_i y hy
      obtain ⟨rfl, rfl⟩ := set_inj he
      exact ⟨rfl, _, getS_ok hE hy, fun R h f g => by simp [execOp]⟩
    · cases he
  | pick c x y =>
    simp only [evOp] at he
    split at he
    · rename_i hc
      split at he
      · rename_i u hu
        obtain ⟨rfl, rfl⟩ := set_inj he
        refine ⟨rfl, _, getS_ok hE hu, fun R h f g => ?_⟩
        have := getS_ok hE hc
        simp only [conc, Option.some.injEq] at this
        simp [execOp, ← this, asBool]
      · cases he
    · rename_i hc
      split at he
      · rename_i u hu
        obtain ⟨rfl, rfl⟩ := set_inj he
        refine ⟨rfl, _, getS_ok hE hu, fun R h f g => ?_⟩
        have := getS_ok hE hc
        simp only [conc, Option.some.injEq] at this
        simp [execOp, ← this, asBool]
      · cases he
    · split at he <;> cases he
    · cases he
  | alloc t => simp only [evOp, allocEv, forceO_eq] at he; split at he <;> cases he
  | box t x =>
    simp only [evOp, allocEv, forceO_eq] at he
    split at he
    · split at he
      · split at he <;> cases he
      · cases he
    · cases he
  | build t ps =>
    simp only [evOp] at he
    split at he
    · rename_i fs hu
      split at he
      · rename_i z0 hz
        split at he
        · rename_i vs hvs
          split at he
          · rename_i hk
            split at he
            · rename_i cs hcs
              obtain ⟨rfl, rfl⟩ := set_inj he
              refine ⟨rfl, _, rfl, fun R h f g => ?_⟩
              have hv := partsF_ok hE hvs
              have hb := build_ok (R := R) hu hz hk hcs
              have e : (ps.map fun (p : Nat × Operand) => (p.1, a.eval p.2)) = ⟨vs⟩ := by
                rw [hv]; apply Array.toList_inj.1; simp
              simp only [execOp, Sem.run_bind]
              have e2 : (Array.map (fun (x : Nat × Operand) => match x with | (i, x) => (i, a.eval x)) ps) = ⟨vs⟩ := e
              rw [e2, hb]; rfl
            · cases he
          · cases he
        · cases he
      · cases he
    · cases he
  | load t x =>
    simp only [evOp] at he
    split at he
    · rename_i n hn
      split at he
      · rename_i k off hx
        split at he
        · rename_i id nu l ty' hk
          have hev := getS_ok hE hx
          simp only [conc, hk, Option.some.injEq] at hev
          split at he
          · split at he
            · rename_i v l2 hd
              obtain ⟨rfl, rfl⟩ := set_inj he
              refine ⟨rfl, _, rfl, fun R h f g => ?_⟩
              have hc := (own_cell g hk off).1
              rw [dropF_eq] at hd
              have hlv : l[off]? = some v := by
                have := congrArg (·[0]?) hd
                simpa using this
              rw [hlv] at hc
              simp only [execOp, Instr.loadAt, ← hev, Instr.sureAddr, Sem.run_bind, Sem.run_pure, Result.andThen_ok, loadVar_one hn hc]
            · cases he
          · rename_i m
            split at he
            · rename_i vs hvs
              obtain ⟨rfl, rfl⟩ := set_inj he
              refine ⟨rfl, _, rfl, fun R h f g => ?_⟩
              obtain ⟨e1, e2⟩ := takeF_ok hvs
              rw [dropF_eq] at e1
              have := loadVar_many (R := R) hn e2 (a := ⟨id, off, none⟩) (fun j v hv => by
                rw [addr_add, (own_cell g hk (off + j)).1]
                rw [e1] at hv
                have hj : j < m := by
                  have := some_lt (a := vs.toArray) (i := j) (x := v) (by simpa [e1] using hv)
                  simpa [e2] using this
                rw [List.getElem?_take_of_lt hj, List.getElem?_drop] at hv
                exact hv)
              simp only [execOp, Instr.loadAt, ← hev, Instr.sureAddr, Sem.run_bind, Sem.run_pure, Result.andThen_ok, this]
            · cases he
        · cases he
        · cases he
      · cases he
      · split at he <;> cases he
      · cases he
    · cases he
  | store t x y =>
    simp only [evOp] at he
    repeat' split at he
    all_goals cases he
  | nilCheck x =>
    simp only [evOp] at he
    split at he
    · rename_i k off hx
      obtain ⟨rfl, rfl⟩ := set_inj he
      have hev := getS_ok hE hx
      refine ⟨rfl, _, hev, fun R h f g => ?_⟩
      simp only [conc] at hev
      split at hev
      · simp only [Option.some.injEq] at hev
        simp only [execOp, ← hev]; rfl
      · cases hev
    · rename_i p hx
      split at he
      · rename_i ad
        obtain ⟨rfl, rfl⟩ := set_inj he
        have hev := getS_ok hE hx
        refine ⟨rfl, _, rfl, fun R h f g => ?_⟩
        simp only [conc, Option.some.injEq] at hev
        simp only [execOp, ← hev]; rfl
      · cases he
    · cases he
  | binOp op t x y yt =>
    simp only [evOp] at he
    split at he
    · rename_i u hu
      split at he
      · rename_i w hw
        have h1 := getS_ok hE hu
        have h2 := getS_ok hE hw
        obtain ⟨r1, v, r2, _, _⟩ := binF_set (R := default) (xo := x) (yo := y) he h1 h2
        refine ⟨r1, v, r2, fun R h f g => ?_⟩
        obtain ⟨_, v', r2', r3, r4⟩ := binF_set (R := R) (xo := x) (yo := y) he h1 h2
        rw [r2] at r2'; cases r2'
        simp only [execOp, Sem.run_bind, r3, Result.andThen_ok, r4, Sem.run_pure]
      · cases he
    · cases he
  | unOp op t x =>
    simp only [evOp] at he
    split at he
    · rename_i u hu
      have h1 := getS_ok hE hu
      obtain ⟨r1, v, r2, _⟩ := uniF_set (P := P) (R := default) he h1
      refine ⟨r1, v, r2, fun R h f g => ?_⟩
      obtain ⟨_, v', r2', r4⟩ := uniF_set (P := P) (R := R) he h1
      rw [r2] at r2'; cases r2'
      simp only [execOp, Sem.run_bind, r4, Result.andThen_ok, Sem.run_pure]
    · cases he
  | convert src dst' x =>
    simp only [evOp] at he
    split at he
    · rename_i k0 n hx
      split at he
      · rename_i k hd
        split at he
        · rename_i k2 hs
          obtain ⟨rfl, rfl⟩ := set_inj he
          have h1 := getS_ok hE hx
          simp only [conc, Option.some.injEq] at h1
          refine ⟨rfl, _, rfl, fun R h f g => ?_⟩
          simp only [execOp, ← h1, convert, Sem.run_bind, run_underlying hs, run_underlying hd, Result.andThen_ok, Conv.intToInt, Sem.run_pure]
        · cases he
      · cases he
    · cases he
  | makeFunc fn first captured =>
    simp only [evOp] at he
    split at he
    · rename_i u hu
      split at he
      · rename_i w hw
        obtain ⟨rfl, rfl⟩ := set_inj he
        refine ⟨rfl, _, rfl, fun R h f g => ?_⟩
        have e1 : first.map a.eval = ⟨u⟩ := by rw [concs_ok hE hu]; apply Array.toList_inj.1; simp
        have e2 : captured.map a.eval = ⟨w⟩ := by rw [concs_ok hE hw]; apply Array.toList_inj.1; simp
        simp only [execOp, Instr.makeFunc, e1, e2, Sem.run_bind, Sem.run_pure, Result.andThen_ok]
      · cases he
    · cases he
  | fieldAddr t x fi =>
    simp only [evOp] at he
    split at he
    · rename_i n hn
      unfold fieldOff at hn
      split at hn
      · rename_i fs hu
        split at hn
        · rename_i g0 hg0
          split at hn
          · rename_i i hi
            split at hn
            · cases hn
            · rename_i sz hsz
              simp only [Option.some.injEq] at hn; subst hn
              have hfp : ∀ (ad : Addr) (R : World), (fieldPlace ad g0).run P R = .ok (ad.add g0.offset) R := by
                intro ad R
                simp only [fieldPlace, Sem.run_bind, info_size hi, Result.andThen_ok, hsz, Nat.add_one_ne_zero, if_false, Sem.run_pure]
              split at he
              · rename_i k off hx
                obtain ⟨rfl, rfl⟩ := set_inj he
                have h1 := getS_ok hE hx
                simp only [conc] at h1
                split at h1
                · rename_i B hB
                  simp only [Option.some.injEq] at h1
                  refine ⟨rfl, .pointer (some ⟨B.id, off + g0.offset, none⟩), by simp only [conc, hB], fun R h f g => ?_⟩
                  simp only [execOp, ← h1, Instr.fieldAt, Sem.run_bind, run_underlying hu, Result.andThen_ok, hg0, Instr.sureAddr, Sem.run_pure, hfp, addr_add]
                · cases h1
              · rename_i p hx
                split at he
                · rename_i ad
                  obtain ⟨rfl, rfl⟩ := set_inj he
                  have h1 := getS_ok hE hx
                  simp only [conc, Option.some.injEq] at h1
                  refine ⟨rfl, _, rfl, fun R h f g => ?_⟩
                  simp only [execOp, ← h1, Instr.fieldAt, Sem.run_bind, run_underlying hu, Result.andThen_ok, hg0, Instr.sureAddr, Sem.run_pure, hfp, addF_eq]
                · cases he
              · cases he
          · cases hn
        · cases hn
      · cases hn
    · cases he
  | indexAddr t x i =>
    simp only [evOp] at he
    repeat' split at he
    all_goals cases he
  | extract x i =>
    simp only [evOp] at he
    split at he
    · rename_i vs hx
      split at he
      · rename_i v hv
        obtain ⟨rfl, rfl⟩ := set_inj he
        have h1 := getS_ok hE hx
        simp only [conc, Option.some.injEq] at h1
        refine ⟨rfl, _, rfl, fun R h f g => ?_⟩
        simp only [execOp, ← h1, Instr.extract, hv, Sem.run_bind, Sem.run_pure, Result.andThen_ok]
      · cases he
    · cases he
  | call c =>
    obtain ⟨callee, args, argTypes⟩ := c
    simp only [evOp] at he
    split at he
    · repeat' split at he
      all_goals cases he
    · split at he
      · split at he
        · rename_i x hx
          split at he
          · rename_i y hy
            split at he
            · rename_i t ht
              split at he
              · rename_i n hn
                obtain ⟨rfl, rfl⟩ := set_inj he
                refine ⟨rfl, _, rfl, fun R h f g => ?_⟩
                have h1 := getS_ok hE hy
                have e1 : args = #[x] := Array.toList_inj.1 (by simpa using hx)
                have e2 : argTypes = #[t] := Array.toList_inj.1 (by simpa using ht)
                subst e1 e2
                simp [execOp, resolve, invoke, builtin, lenF_ok hn h1]
              · cases he
            · cases he
          · cases he
        · cases he
      · split at he
        · rename_i x y hx
          split at he
          · rename_i k p k2 q hp hq
            obtain ⟨rfl, rfl⟩ := set_inj he
            refine ⟨rfl, _, rfl, fun R h f g => ?_⟩
            have h1 := getS_ok hE hp
            have h2 := getS_ok hE hq
            simp only [conc, Option.some.injEq] at h1 h2
            have e1 : args = #[x, y] := Array.toList_inj.1 (by simpa using hx)
            subst e1
            simp [execOp, resolve, invoke, builtin, Builtin.min_, ← h1, ← h2, Builtin.min2]
          · cases he
        · cases he
      · split at he
        · rename_i x y hx
          split at he
          · rename_i k p k2 q hp hq
            obtain ⟨rfl, rfl⟩ := set_inj he
            refine ⟨rfl, _, rfl, fun R h f g => ?_⟩
            have h1 := getS_ok hE hp
            have h2 := getS_ok hE hq
            simp only [conc, Option.some.injEq] at h1 h2
            have e1 : args = #[x, y] := Array.toList_inj.1 (by simpa using hx)
            subst e1
            simp [execOp, resolve, invoke, builtin, Builtin.max_, ← h1, ← h2, Builtin.max2]
          · cases he
        · cases he
      · cases he
    · cases he
  | _ => simp only [evOp] at he; cases he
end Go.Vc
/- What is to be shown where the way through a body stops. No condition. -/
namespace Go.Vc
set_option linter.unusedVariables false
set_option linter.unusedSimpArgs false

/-- A store into an own block. -/
theorem evOp_skip {P : Program} {o : Oper} {env : Env} {own own' : List Blk} {here s : St} {a : Act} (he : evOp P o env own here s = .skip own') (hE : EnvOK a env own) :
    EnvOK a env own' ∧ ∀ (R : World) (h : PHeap) (f : Frm), Good R h own f → ∃ R', (execOp a.eval o).run P R = .ok .skip R' ∧ Good R' h own' f := by
  obtain ⟨dst, op, ty, pos, after, guard⟩ := o
  cases op with
  | store t x y =>
    simp only [evOp] at he
    split at he
    · rename_i n hn
      have hn' : sizeAt P t = some n := by
        cases dst with
        | none => exact hn
        | some d => simp [storeAt] at hn
      split at he
      · rename_i yy hy
        split at he
        · rename_i v hv
          split at he
          · rename_i k off hx
            split at he
            · rename_i id nu l ty2 hk
              split at he
              · rename_i hlen
                split at he
                · rename_i l' hset
                  simp only [setBodyF_eq] at he
                  injection he with he; subst he
                  refine ⟨by rw [setBody_eq _ hk]; exact hE.set _ hk, fun R h f g => ?_⟩
                  have h1 := getS_ok hE hx
                  have h2 := getS_ok hE hy
                  simp only [conc, hk, Option.some.injEq] at h1
                  rw [hv] at h2; simp only [Option.some.injEq] at h2
                  have hs : (sizeOf t).run P R = .ok v.cells.size R := by
                    have hle := Nat.eq_of_beq_eq_true hlen
                    rw [cellsOfV_eq] at hle
                    cases n with
                    | some m =>
                      rw [(sizeAt_some hn' R).2]
                      simp at hle; rw [hle]
                    | none =>
                      rw [(sizeAt_none hn' R).2]
                      simp at hle; rw [hle]
                  rw [cellsOfV_eq] at hset
                  obtain ⟨R', hr, hg⟩ := store_own g hk hs hset
                  refine ⟨R', ?_, hg⟩
                  simp only [execOp, ← h1, ← h2, Instr.storeAt, Instr.sureAddr, Sem.run_bind, Sem.run_pure, Result.andThen_ok, hr]
                · cases he
              · cases he
            · cases he
          · cases he
          · split at he <;> cases he
          · cases he
        · cases he
      · cases he
    · cases he
  | pick c x y =>
    simp only [evOp] at he
    repeat' split at he
    all_goals cases he
  | binOp op t x y yt =>
    simp only [evOp] at he
    split at he
    · split at he
      · exfalso
        unfold binF at he
        repeat' split at he
        all_goals try cases he
        rename_i op' k a' b' _ _ _
        cases op <;> simp [binInt] at he
      · cases he
    · cases he
  | unOp op t x =>
    simp only [evOp] at he
    split at he
    · exfalso
      unfold uniF at he
      split at he <;> cases he
    · cases he
  | alloc t => simp only [evOp, allocEv, forceO_eq] at he; (repeat' split at he); all_goals cases he
  | box t x => simp only [evOp, allocEv, forceO_eq] at he; (repeat' split at he); all_goals cases he
  | _ =>
    simp only [evOp] at he
    (repeat' split at he)
    all_goals cases he

/-- What an operation does where the way stops at it. -/
def EvSem (P : Program) (o : Oper) (a : Act) (env : Env) (own : List Blk) (here s0 : St) : Ev → Prop
  | .alloc cells ty x d s => d = o.dst ∧ s = s0 ∧ x = .loc own.length 0 ∧ ∀ R, (execOp a.eval o).run P R = .ok (.value (.pointer (some ⟨R.heap.size, 0, none⟩))) (R.alloc (.cells ⟨cells⟩ ty))
  | .load n p d s => d = o.dst ∧ s = s0 ∧ match n with
    | none => ∀ R v, R.cell? p = some v → (execOp a.eval o).run P R = .ok (.value v) R
    | some m => ∀ R vs, vs.length = m → (∀ j v, vs[j]? = some v → R.cell? (p.add j) = some v) → (execOp a.eval o).run P R = .ok (.value (.agg ⟨vs⟩)) R
  | .loadx k off n d s => d = o.dst ∧ s = s0 ∧ ∃ B, own[k]? = some B ∧ match n with
    | none => ∀ R v, R.cell? ⟨B.id, off, none⟩ = some v → (execOp a.eval o).run P R = .ok (.value v) R
    | some m => ∀ R vs, vs.length = m → (∀ j v, vs[j]? = some v → R.cell? ⟨B.id, off + j, none⟩ = some v) → (execOp a.eval o).run P R = .ok (.value (.agg ⟨vs⟩)) R
  | .store n p v s => o.dst = none ∧ s = s0 ∧ ∃ t, sizeAt P t = some n ∧ ∀ R R', (storeVar t p v).run P R = .ok () R' → (execOp a.eval o).run P R = .ok .skip R'
  | .storex k off n v s => o.dst = none ∧ s = s0 ∧ ∃ B t, own[k]? = some B ∧ sizeAt P t = some n ∧ ∀ R R', (storeVar t ⟨B.id, off, none⟩ v).run P R = .ok () R' → (execOp a.eval o).run P R = .ok .skip R'
  | .need φ x d s => d = o.dst ∧ s = s0 ∧ (φ → ∀ R, (execOp a.eval o).run P R = .ok (.value x) R)
  | .idx A n i size d s => d = o.dst ∧ s = s0 ∧ ∀ ad, A = some ad → 0 ≤ i → i < n → ∀ R, (execOp a.eval o).run P R = .ok (.value (.pointer (some (ad.add (i.toNat * size))))) R
  | .idxo k off n i size d s => d = o.dst ∧ s = s0 ∧ ∃ B, own[k]? = some B ∧ (0 ≤ i → i < n → ∀ R, (execOp a.eval o).run P R = .ok (.value (.pointer (some ⟨B.id, off + i.toNat * size, none⟩))) R)
  | .idxg k n i size d s => d = o.dst ∧ s = s0 ∧ ∃ B, own[k]? = some B ∧ (B.nul = false → 0 ≤ i → i < n → ∀ R, (execOp a.eval o).run P R = .ok (.value (.pointer (some ⟨B.id, i.toNat * size, none⟩))) R)
  | .br b s1 s2 => ∃ j, a.tmps[j]? = some (.bool b) ∧ s1 = ⟨here.todo, (j, .tt) :: env, own⟩ ∧ s2 = ⟨here.todo, (j, .ff) :: env, own⟩
  | .call f args d s => d = o.dst ∧ s = s0 ∧ ∀ R, (execOp a.eval o).run P R = (callFunc f ⟨args⟩).run P R
  | _ => False

theorem ev_inj {x y : Ev} (h : OR.ev x = OR.ev y) : x = y := by cases h; rfl

theorem binInt_ev {P : Program} {op : BinOp} {t : TypeId} {k : IntKind} {a b : Int} {own : List Blk} {d : Option Nat} {s : St} {e : Ev} (h : binInt op k a b own d s = .ev e) :
    ∃ φ x, e = .need φ x d s ∧ (φ → ∀ R, (binOp op t (.int k a) (.int k b)).run P R = .ok x R) := by
  cases op <;> simp only [binInt, OR.ev.injEq, reduceCtorEq] at h
  all_goals
    subst h
    refine ⟨_, _, rfl, fun hb R => ?_⟩
    simp [binOp, Op.intDiv, hb]

theorem binF_ev {P : Program} {op : BinOp} {t : TypeId} {xo yo : Operand} {x y : SV} {own : List Blk} {d : Option Nat} {s : St} {e : Ev} {xv yv : Value}
    (h : binF P op t x y own d s = .ev e) (hx : conc own x = some xv) (hy : conc own y = some yv) :
    ∃ φ z, e = .need φ z d s ∧ (φ → ∀ R, (eqGuard op t xo yo xv yv).run P R = .ok () R ∧ (binOp op t xv yv).run P R = .ok z R) := by
  unfold binF at h
  split at h
  · rename_i k a k' b
    simp only [conc, Option.some.injEq] at hx hy; subst hx hy
    split at h
    · rename_i hs
      split at h
      · have := ev_inj h; subst this
        refine ⟨_, _, rfl, fun hb R => ⟨eqGuard_int .., ?_⟩⟩
        have : ¬ b < 0 := by omega
        simp [binOp, Op.shift, this]
      · rename_i hne
        have := ev_inj h; subst this
        refine ⟨_, _, rfl, fun hb R => ⟨eqGuard_int .., ?_⟩⟩
        have : ¬ b < 0 := by omega
        cases op <;> first
          | (simp [isShift] at hs; done)
          | (exact absurd rfl hne)
          | (simp [binOp, Op.shift, this])
    · split at h
      · rename_i hk
        have := kindEq_ok hk; subst this
        obtain ⟨φ, z, r1, r2⟩ := binInt_ev (P := P) (t := t) h
        exact ⟨φ, z, r1, fun hp R => ⟨eqGuard_int .., r2 hp R⟩⟩
      · cases h
  · rename_i a b
    simp only [conc, Option.some.injEq] at hx hy; subst hx hy
    split at h <;> first
      | (cases h; done)
      | (have := ev_inj h; subst this
         refine ⟨_, _, rfl, fun hb R => ⟨eqGuard_string .., ?_⟩⟩
         have : ¬ ((a.size + b.size : Nat) : Int) > IntKind.i64.max := by simp [IntKind.max, IntKind.signed, IntKind.bits]; omega
         simp only [binOp, Op.stringOp]
         rw [if_neg this]; rfl)
  · split at h
    · split at h
      · split at h <;> cases h
      · cases h
    · cases h
  · split at h
    · split at h
      · split at h <;> cases h
      · cases h
    · cases h
  · repeat' (split at h)
    all_goals cases h

theorem newVar_run {P : Program} {t : TypeId} {v : Value} {z : List Value} (hz : v.cells.toList = z) (R : World) : (newVar t v).run P R = .ok ⟨R.heap.size, 0, none⟩ (R.alloc (.cells ⟨z⟩ t)) := by
  have : v.cells = ⟨z⟩ := by rw [← hz]
  simp only [newVar, newRow, this, Sem.run_bind, run_newObj, Result.andThen_ok, Sem.run_pure]; rfl

theorem idx_run {P : Program} {R : World} {t e : TypeId} {j : TypeInfo} (hu : P.underlying t = some (.slice e)) (hj : P.info? e = some j) {ad : Addr} {n c : Nat} {k : IntKind} {i : Int} (h0 : 0 ≤ i) (h1 : i < n) :
    (Instr.indexAt t (.slice (some ad) n c) (.int k i)).run P R = .ok (.pointer (some (ad.add (i.toNat * j.size)))) R := by
  simp [Instr.indexAt, asIntOf, run_underlying hu, h0, h1, info_size hj]

theorem idx_run_arr {P : Program} {R : World} {t e : TypeId} {j : TypeInfo} {n : Nat} (hu : P.underlying t = some (.array n e)) (hj : P.info? e = some j) {ad : Addr} {k : IntKind} {i : Int} (h0 : 0 ≤ i) (h1 : i < n) :
    (Instr.indexAt t (.pointer (some ad)) (.int k i)).run P R = .ok (.pointer (some (ad.add (i.toNat * j.size)))) R := by
  simp [Instr.indexAt, asIntOf, run_underlying hu, h0, h1, info_size hj, Instr.sureAddr]

theorem evOp_ev {P : Program} {o : Oper} {env : Env} {own : List Blk} {here s0 : St} {e : Ev} {a : Act} (hs0 : s0.own = own) (he : evOp P o env own here s0 = .ev e) (hE : EnvOK a env own) : EvSem P o a env own here s0 e := by
  obtain ⟨dst, op, ty, pos, after, guard⟩ := o
  cases op with
  | move x => simp only [evOp] at he; split at he <;> cases he
  | assign x => simp only [evOp] at he; split at he <;> cases he
  | pick c x y =>
    simp only [evOp] at he
    split at he
    · split at he <;> cases he
    · split at he <;> cases he
    · rename_i q hq
      split at he
      · rename_i j
        have := ev_inj he; subst this
        obtain ⟨v, hv, ht⟩ := hE j _ hq
        simp only [conc, Option.some.injEq] at hv; subst hv
        exact ⟨j, ht, rfl, rfl⟩
      · cases he
    · cases he
  | alloc t =>
    simp only [evOp] at he
    split at he
    · rename_i z hz
      rw [allocEv_eq hs0] at he
      have := ev_inj he; subst this
      refine ⟨rfl, rfl, rfl, fun R => ?_⟩
      obtain ⟨v, h1, h2⟩ := zeroF_ok hz R
      simp only [execOp, Instr.alloc, Sem.run_bind, h1, Result.andThen_ok, newVar_run h2, Sem.run_pure]
    · cases he
  | box t x =>
    simp only [evOp] at he
    split at he
    · rename_i y hy
      split at he
      · rename_i v hv
        split at he
        · rename_i z hz
          rw [allocEv_eq hs0] at he
          have := ev_inj he; subst this
          refine ⟨rfl, rfl, rfl, fun R => ?_⟩
          have h1 := getS_ok hE hy
          rw [hv] at h1; simp only [Option.some.injEq] at h1
          have h2 : v.cells.toList = z := by rw [takeF_all hz, cellsOfV_eq]
          simp only [execOp, Instr.box, Sem.run_bind, ← h1, Result.andThen_ok, newVar_run h2, Sem.run_pure]
        · cases he
      · cases he
    · cases he
  | build t ps => simp only [evOp] at he; (repeat' split at he); all_goals cases he
  | load t x =>
    simp only [evOp] at he
    split at he
    · rename_i n hn
      split at he
      · rename_i k off hx
        split at he
        · split at he <;> (split at he <;> cases he)
        · rename_i id nu bd hk
          have := ev_inj he; subst this
          have h1 := getS_ok hE hx
          simp only [conc, hk, Option.some.injEq] at h1
          refine ⟨rfl, rfl, ?_⟩
          cases n with
          | none => intro R v hv; simp only [execOp, Instr.loadAt, ← h1, Instr.sureAddr, Sem.run_bind, Sem.run_pure, Result.andThen_ok, loadVar_one hn hv]
          | some m => intro R vs hl hv; simp only [execOp, Instr.loadAt, ← h1, Instr.sureAddr, Sem.run_bind, Sem.run_pure, Result.andThen_ok, loadVar_many hn hl hv]
        · cases he
      · rename_i k off hx
        have := ev_inj he; subst this
        have h1 := getS_ok hE hx
        simp only [conc] at h1
        split at h1
        · rename_i B hB
          simp only [Option.some.injEq] at h1
          refine ⟨rfl, rfl, B, hB, ?_⟩
          cases n with
          | none => intro R v hv; simp only [execOp, Instr.loadAt, ← h1, Instr.sureAddr, Sem.run_bind, Sem.run_pure, Result.andThen_ok, loadVar_one hn hv]
          | some m =>
            intro R vs hl hv
            have hv' : ∀ j v, vs[j]? = some v → R.cell? ((⟨B.id, off, none⟩ : Addr).add j) = some v := fun j v h => by rw [addr_add]; exact hv j v h
            simp only [execOp, Instr.loadAt, ← h1, Instr.sureAddr, Sem.run_bind, Sem.run_pure, Result.andThen_ok, loadVar_many hn hl hv']
        · cases h1
      · rename_i p hx
        split at he
        · rename_i ad
          have := ev_inj he; subst this
          have h1 := getS_ok hE hx
          simp only [conc, Option.some.injEq] at h1
          refine ⟨rfl, rfl, ?_⟩
          cases n with
          | none => intro R v hv; simp only [execOp, Instr.loadAt, ← h1, Instr.sureAddr, Sem.run_bind, Sem.run_pure, Result.andThen_ok, loadVar_one hn hv]
          | some m => intro R vs hl hv; simp only [execOp, Instr.loadAt, ← h1, Instr.sureAddr, Sem.run_bind, Sem.run_pure, Result.andThen_ok, loadVar_many hn hl hv]
        · cases he
      · cases he
    · cases he
  | store t x y =>
    simp only [evOp] at he
    split at he
    · rename_i n hn
      obtain ⟨rfl, hn'⟩ : dst = none ∧ sizeAt P t = some n := by
        cases dst with
        | none => exact ⟨rfl, hn⟩
        | some d => simp [storeAt] at hn
      split at he
      · rename_i yy hy
        split at he
        · rename_i v hv
          have h2 := getS_ok hE hy
          rw [hv] at h2; simp only [Option.some.injEq] at h2
          split at he
          · repeat' split at he
            all_goals cases he
          · rename_i k off hx
            have := ev_inj he; subst this
            have h1 := getS_ok hE hx
            simp only [conc] at h1
            split at h1
            · rename_i B hB
              simp only [Option.some.injEq] at h1
              refine ⟨rfl, rfl, B, t, hB, hn', fun R R' hr => ?_⟩
              simp only [execOp, Instr.storeAt, ← h1, ← h2, Instr.sureAddr, Sem.run_bind, Sem.run_pure, Result.andThen_ok, hr]
            · cases h1
          · rename_i p hx
            split at he
            · rename_i ad
              have := ev_inj he; subst this
              have h1 := getS_ok hE hx
              simp only [conc, Option.some.injEq] at h1
              refine ⟨rfl, rfl, t, hn', fun R R' hr => ?_⟩
              simp only [execOp, Instr.storeAt, ← h1, ← h2, Instr.sureAddr, Sem.run_bind, Sem.run_pure, Result.andThen_ok, hr]
            · cases he
          · cases he
        · cases he
      · cases he
    · cases he
  | nilCheck x =>
    simp only [evOp] at he
    split at he
    · cases he
    · split at he <;> cases he
    · cases he
  | binOp op t x y yt =>
    simp only [evOp] at he
    split at he
    · rename_i u hu
      split at he
      · rename_i w hw
        obtain ⟨φ, z, rfl, r⟩ := binF_ev (xo := x) (yo := y) he (getS_ok hE hu) (getS_ok hE hw)
        refine ⟨rfl, rfl, fun hp R => ?_⟩
        simp only [execOp, Sem.run_bind, (r hp R).1, Result.andThen_ok, (r hp R).2, Sem.run_pure]
      · cases he
    · cases he
  | unOp op t x =>
    simp only [evOp] at he
    split at he
    · unfold uniF at he
      split at he <;> cases he
    · cases he
  | convert src d x => simp only [evOp] at he; (repeat' split at he); all_goals cases he
  | makeFunc fn first captured => simp only [evOp] at he; (repeat' split at he); all_goals cases he
  | fieldAddr t x f => simp only [evOp] at he; (repeat' split at he); all_goals cases he
  | extract x i => simp only [evOp] at he; (repeat' split at he); all_goals cases he
  | indexAddr t x i =>
    simp only [evOp] at he
    split at he
    · rename_i k i' hi
      have hiv := getS_ok hE hi
      simp only [conc, Option.some.injEq] at hiv
      split at he
      · rename_i e' hu
        split at he
        · rename_i j hj
          split at he
          · rename_i A n c hx
            have := ev_inj he; subst this
            have h1 := getS_ok hE hx
            simp only [conc, Option.some.injEq] at h1
            refine ⟨rfl, rfl, fun ad hA h0 hlt R => ?_⟩
            subst hA
            simp only [execOp, ← h1, ← hiv, Sem.run_bind, idx_run hu hj h0 hlt, Result.andThen_ok, Sem.run_pure]
          · rename_i k2 n c hx
            have := ev_inj he; subst this
            have h1 := getS_ok hE hx
            simp only [conc] at h1
            split at h1
            · rename_i B hB
              simp only [Option.some.injEq] at h1
              refine ⟨rfl, rfl, B, hB, fun hn h0 hlt R => ?_⟩
              have ea : nulAddr B = some ⟨B.id, 0, none⟩ := by simp only [nulAddr, hn]
              rw [ea] at h1
              have := idx_run (R := R) (ad := ⟨B.id, 0, none⟩) (c := c) (k := k) hu hj h0 hlt
              rw [addr_add, Nat.zero_add] at this
              simp only [execOp, ← h1, ← hiv, Sem.run_bind, this, Result.andThen_ok, Sem.run_pure]
            · cases h1
          · cases he
        · cases he
      · rename_i n e' hu
        split at he
        · rename_i j hj
          split at he
          · rename_i p hx
            split at he
            · rename_i ad
              have := ev_inj he; subst this
              have h1 := getS_ok hE hx
              simp only [conc, Option.some.injEq] at h1
              refine ⟨rfl, rfl, fun ad' hA h0 hlt R => ?_⟩
              cases hA
              simp only [execOp, ← h1, ← hiv, Sem.run_bind, idx_run_arr hu hj h0 hlt, Result.andThen_ok, Sem.run_pure]
            · cases he
          · rename_i k2 off hx
            have := ev_inj he; subst this
            have h1 := getS_ok hE hx
            simp only [conc] at h1
            split at h1
            · rename_i B hB
              simp only [Option.some.injEq] at h1
              refine ⟨rfl, rfl, B, hB, fun h0 hlt R => ?_⟩
              have := idx_run_arr (R := R) (ad := ⟨B.id, off, none⟩) (k := k) hu hj h0 hlt
              rw [addr_add] at this
              simp only [execOp, ← h1, ← hiv, Sem.run_bind, this, Result.andThen_ok, Sem.run_pure]
            · cases h1
          · cases he
        · cases he
      · cases he
    · cases he
  | call c =>
    obtain ⟨callee, args, argTypes⟩ := c
    simp only [evOp] at he
    split at he
    · rename_i g0
      split at he
      · rename_i fn first captured hg
        split at he
        · rename_i f
          split at he
          · rename_i vs hvs
            have := ev_inj he; subst this
            have h1 := getS_ok hE hg
            simp only [conc, Option.some.injEq] at h1
            refine ⟨rfl, rfl, fun R => ?_⟩
            have ev := concs_ok hE hvs
            simp only [execOp, resolve, ← h1, Deferred.ofValue, Sem.run_bind, Sem.run_pure, Result.andThen_ok, invoke]
            congr 2
            apply Array.toList_inj.1
            simp [ev]
          · cases he
        · cases he
      · cases he
    · repeat' split at he
      all_goals cases he
    · cases he
  | _ => simp only [evOp] at he; cases he
end Go.Vc
/- The rest of a body comes to an end as said: what that means, and how it is shown step by step. No condition. -/
namespace Go.Vc
set_option linter.unusedVariables false
set_option linter.unusedSimpArgs false

def base (f : FuncId) : Frame := { (default : Frame) with fn := f, kind := .normal }

abbrev Post := Value → PHeap → List Blk → Prop

def Done (P : Program) (f : FuncId) (F : Func) (K : Post) (fr : Frm) (cs : List Frame) (h : PHeap) (m : Machine) : Prop :=
  ∃ (a : Act) (R : World) (todo : List Item) (v : Value) (h' : PHeap) (own' : List Blk),
    Steps P m (lone { (base f).at a todo with mode := .returning } cs R) ∧ a.defers = [] ∧ (results F a.tmps).run P R = .ok v R ∧ h.le h' ∧ K v h' own' ∧ Good R h' own' fr

/-- From here on the body comes to its end, and then K holds. -/
def WP (P : Program) (f : FuncId) (F : Func) (K : Post) (s : St) (h : PHeap) : Prop :=
  ∀ (a : Act) (R : World) (fr : Frm) (cs : List Frame), a.defers = [] → a.tmps.size = F.ntmps → EnvOK a s.env s.own → Good R h s.own fr →
    Done P f F K fr cs h (lone ((base f).at a (s.todo.map (It.item F))) cs R)

variable {P : Program} {f : FuncId} {F : Func} {K : Post} {h : PHeap}

theorem Done.head {fr : Frm} {cs : List Frame} {m m' : Machine} (h1 : step P m = .next m') (d : Done P f F K fr cs h m') : Done P f F K fr cs h m := by
  obtain ⟨a, R, todo, v, h', own', hs, r⟩ := d
  exact ⟨a, R, todo, v, h', own', .head h1 hs, r⟩

theorem Done.steps {fr : Frm} {cs : List Frame} {m m' : Machine} (h1 : Steps P m m') (d : Done P f F K fr cs h m') : Done P f F K fr cs h m := by
  obtain ⟨a, R, todo, v, h', own', hs, r⟩ := d
  exact ⟨a, R, todo, v, h', own', h1.trans hs, r⟩

theorem Done.le {fr : Frm} {cs : List Frame} {m : Machine} {h1 : PHeap} (hle : h.le h1) (d : Done P f F K fr cs h1 m) : Done P f F K fr cs h m := by
  obtain ⟨a, R, todo, v, h', own', hs, hd, hr, hl, hk⟩ := d
  exact ⟨a, R, todo, v, h', own', hs, hd, hr, hle.trans hl, hk⟩

/-- Steps that change nothing but what is left to do. -/
theorem WP.silent {s s' : St} (he : s'.env = s.env) (ho : s'.own = s.own)
    (hs : ∀ (a : Act) (cs : List Frame) (R : World), step P (lone ((base f).at a (s.todo.map (It.item F))) cs R) = .next (lone ((base f).at a (s'.todo.map (It.item F))) cs R)) (w : WP P f F K s' h) : WP P f F K s h := by
  intro a R fr cs hd hsz hE hG
  exact (w a R fr cs hd hsz (by rw [he, ho]; exact hE) (by rw [ho]; exact hG)).head (hs a cs R)

/-- What is known is what is asked. -/
theorem WP.weaken {s s' : St} {h' : PHeap} (ht : s'.todo = s.todo) (hle : h.le h') (hw : ∀ (a : Act) (R : World) (fr : Frm), EnvOK a s.env s.own → Good R h s.own fr → EnvOK a s'.env s'.own ∧ Good R h' s'.own fr)
    (w : WP P f F K s' h') : WP P f F K s h := by
  intro a R fr cs hd hsz hE hG
  obtain ⟨h1, h2⟩ := hw a R fr hE hG
  have := w a R fr cs hd hsz h1 h2
  rw [ht] at this
  exact this.le hle

theorem step_op_value {ops : Array Oper} {i : Nat} {l : List Nat} {k : List Item} {cs : List Frame} {o : Oper} {b : Frame} {a : Act} {R R' : World} {v : Value} (ho : ops[i]? = some o) (hw : Region.wanted o (yielded ops a.tmps) = true)
    (hr : (execOp a.eval o).run P R = .ok (.value v) R') : step P (lone (b.at a (.inRegion ops (i :: l) :: k)) cs R) = .next (lone (b.at (a.put o.dst v) (.inRegion ops l :: k)) cs R') := by
  have hg := stepG_op (P := P) (b := b) (k := k) (cs := cs) (w := R) (rest := l) ho hw
  have hfin : (b.at a (.inRegion ops (i :: l) :: k)).finish v = b.at (a.put o.dst v) (.inRegion ops l :: k) := by
    rw [Frame.finish_at, ho]; rfl
  exact step_lone_go (by rw [hg, ← hfin]; simp [stepG.apply, hr])

theorem step_op_skipped {ops : Array Oper} {i : Nat} {l : List Nat} {k : List Item} {cs : List Frame} {o : Oper} {b : Frame} {a : Act} {R R' : World} (ho : ops[i]? = some o) (hw : Region.wanted o (yielded ops a.tmps) = true)
    (hr : (execOp a.eval o).run P R = .ok .skip R') : step P (lone (b.at a (.inRegion ops (i :: l) :: k)) cs R) = .next (lone (b.at (a.put o.dst undef) (.inRegion ops l :: k)) cs R') := by
  have hg := stepG_op (P := P) (b := b) (k := k) (cs := cs) (w := R) (rest := l) ho hw
  have hfin : (b.at a (.inRegion ops (i :: l) :: k)).finish undef = b.at (a.put o.dst undef) (.inRegion ops l :: k) := by
    rw [Frame.finish_at, ho]; rfl
  exact step_lone_go (by rw [hg, ← hfin]; simp [stepG.apply, hr])

theorem steps_op_call {ops : Array Oper} {i : Nat} {l : List Nat} {k : List Item} {cs : List Frame} {o : Oper} {b : Frame} {a : Act} {R : World} {g : FuncId} {args : Array Value} {Q : Value → World → Prop} (ho : ops[i]? = some o)
    (hw : Region.wanted o (yielded ops a.tmps) = true) (hr : (execOp a.eval o).run P R = .ok (.enter g args) R) (hc : Calls P g args R fun e R' => ∃ v, e = .returned v ∧ Q v R') :
    ∃ v R', Q v R' ∧ Steps P (lone (b.at a (.inRegion ops (i :: l) :: k)) cs R) (lone (b.at (a.put o.dst v) (.inRegion ops l :: k)) cs R') := by
  have hg := stepG_op (P := P) (b := b) (k := k) (cs := cs) (w := R) (rest := l) ho hw
  obtain ⟨e, R', fr, ⟨v, rfl, hQ⟩, hsteps, _, hleave⟩ := hc (b.at a (.inRegion ops (i :: l) :: k) :: cs)
  have henter : step P (lone (b.at a (.inRegion ops (i :: l) :: k)) cs R) = .next (lone (Frame.enter P g args .normal) (b.at a (.inRegion ops (i :: l) :: k) :: cs) R) :=
    step_lone_go (by rw [hg]; simp [stepG.apply, hr, Frame.at])
  have hfin : (b.at a (.inRegion ops (i :: l) :: k)).finish v = b.at (a.put o.dst v) (.inRegion ops l :: k) := by
    rw [Frame.finish_at, ho]; rfl
  refine ⟨v, R', hQ, .head henter (Steps.trans hsteps (.one ?_))⟩
  rw [← hfin]; exact step_leave_returned hleave

/-- What was in a variable's place is still what is said of it. -/
def Keeps (own own' : List Blk) : Prop := ∀ x v, conc own x = some v → conc own' x = some v
theorem Keeps.refl (own : List Blk) : Keeps own own := fun _ _ h => h
theorem EnvOK.keeps {a : Act} {env : Env} {own own' : List Blk} (hE : EnvOK a env own) (hk : Keeps own own') : EnvOK a env own' := fun i x hx => by
  obtain ⟨v, h1, h2⟩ := hE i x hx; exact ⟨v, hk x v h1, h2⟩

theorem EnvOK.put {a : Act} {env : Env} {own : List Blk} (hE : EnvOK a env own) {d : Nat} {x : SV} {v : Value} (hx : conc own x = some v) (hd : d < a.tmps.size) : EnvOK (a.put (some d) v) ((d, x) :: env) own := by
  intro i y hy
  rw [get_cons] at hy
  by_cases hid : d = i
  · subst hid
    rw [if_pos rfl] at hy; cases hy
    exact ⟨v, hx, by simp [Act.put, hd]⟩
  · rw [if_neg hid] at hy
    obtain ⟨u, h1, h2⟩ := hE i y hy
    exact ⟨u, h1, by simp [Act.put, hid, h2]⟩

/-- One operation, whatever it does. -/
def StepV (P : Program) (f : FuncId) (F : Func) (K : Post) (h : PHeap) (o : Oper) (s : St) : Prop :=
  ∀ (a : Act) (R : World) (fr : Frm), EnvOK a s.env s.own → Good R h s.own fr →
    ∃ x v R' h' env' own', (execOp a.eval o).run P R = .ok (.value v) R' ∧ h.le h' ∧ Good R' h' own' fr ∧ EnvOK a env' own' ∧ conc own' x = some v ∧ WP P f F K ((⟨s.todo, env', own'⟩ : St).put o.dst x) h'

theorem wp_stepV {p : List Nat} {i : Nat} {l : List Nat} {k : List It} {env : Env} {own : List Blk} {o : Oper} (ho : (opsAt F p)[i]? = some o) (hd : okDst F.ntmps o.dst = true)
    (hw : ∀ a, EnvOK a env own → Region.wanted o (yielded (opsAt F p) a.tmps) = true) (hs : StepV P f F K h o ⟨.ops p l :: k, env, own⟩) : WP P f F K ⟨.ops p (i :: l) :: k, env, own⟩ h := by
  intro a R fr cs hdf hsz hE hG
  obtain ⟨x, v, R', h', env', own', hr, hle, hG', hE', hx, hwp⟩ := hs a R fr hE hG
  have hstep := step_op_value (b := base f) (k := k.map (It.item F)) (cs := cs) (l := l) ho (hw a hE) hr
  have : Done P f F K fr cs h' (lone ((base f).at (a.put o.dst v) ((It.ops p l :: k).map (It.item F))) cs R') := by
    cases hdst : o.dst with
    | none =>
      rw [hdst] at hwp
      exact hwp _ _ _ _ (by simpa [Act.put] using hdf) (by simpa [Act.put] using hsz) hE' hG'
    | some d =>
      rw [hdst] at hwp hd
      have hlt : d < a.tmps.size := by rw [hsz]; simpa [okDst, Nat.blt_eq] using hd
      exact hwp _ _ _ _ (by simpa [Act.put] using hdf) (by simpa [Act.put] using hsz) (hE'.put hx hlt) hG'
  exact (this.head hstep).le hle

end Go.Vc
/- Going through a body: what is to be shown where the way stops, and that this is enough. No condition. -/
namespace Go.Vc
set_option linter.unusedVariables false
set_option linter.unusedSimpArgs false

variable {P : Program} {f : FuncId} {F : Func} {K : Post} {h : PHeap}

def EvOK (P : Program) (f : FuncId) (F : Func) (K : Post) (h : PHeap) : Ev → Prop
  | .ret env own => ∀ (a : Act) (R : World) (fr : Frm), EnvOK a env own → Good R h own fr →
      ∃ v h' own', (results F a.tmps).run P R = .ok v R ∧ h.le h' ∧ K v h' own' ∧ Good R h' own' fr
  | .br b s t => (b = true → WP P f F K s h) ∧ (b = false → WP P f F K t h)
  | .call g args d s => (∀ as R, (callFunc g as).run P R = .ok (.enter g as) R) ∧ ∀ (R : World) (fr : Frm), Good R h s.own fr →
      Calls P g ⟨args⟩ R fun e R' => ∃ v, e = .returned v ∧ ∃ x h' own', h.le h' ∧ Good R' h' own' fr ∧ Keeps s.own own' ∧ conc own' x = some v ∧ WP P f F K ((⟨s.todo, s.env, own'⟩ : St).put d x) h'
  | .alloc cells ty x d s => ∀ b, WP P f F K ((⟨s.todo, s.env, s.own ++ [⟨b, false, true, .cells cells ty⟩]⟩ : St).put d x) h
  | .load n p d s => match n with
    | none => ∃ v, (∀ (R : World) (fr : Frm), Good R h s.own fr → R.cell? p = some v) ∧ WP P f F K (s.put d (.v v)) h
    | some m => ∃ vs, vs.length = m ∧ (∀ (R : World) (fr : Frm), Good R h s.own fr → ∀ j v, vs[j]? = some v → R.cell? (p.add j) = some v) ∧ WP P f F K (s.put d (.v (.agg ⟨vs⟩))) h
  | .loadx k off n d s => ∃ B, s.own[k]? = some B ∧ match n with
    | none => ∃ v, (∀ (R : World) (fr : Frm), Good R h s.own fr → R.cell? ⟨B.id, off, none⟩ = some v) ∧ WP P f F K (s.put d (.v v)) h
    | some m => ∃ vs, vs.length = m ∧ (∀ (R : World) (fr : Frm), Good R h s.own fr → ∀ j v, vs[j]? = some v → R.cell? ⟨B.id, off + j, none⟩ = some v) ∧ WP P f F K (s.put d (.v (.agg ⟨vs⟩))) h
  | .store n p v s => ∃ own', (∀ (R : World) (fr : Frm) t, sizeAt P t = some n → Good R h s.own fr → ∃ R', (storeVar t p v).run P R = .ok () R' ∧ Good R' h own' fr) ∧ Keeps s.own own' ∧ WP P f F K ⟨s.todo, s.env, own'⟩ h
  | .storex k off n v s => ∃ B own', s.own[k]? = some B ∧ (∀ (R : World) (fr : Frm) t, sizeAt P t = some n → Good R h s.own fr → ∃ R', (storeVar t ⟨B.id, off, none⟩ v).run P R = .ok () R' ∧ Good R' h own' fr) ∧ Keeps s.own own' ∧ WP P f F K ⟨s.todo, s.env, own'⟩ h
  | .need φ x d s => φ ∧ WP P f F K (s.put d (.v x)) h
  | .idx A n i size d s => ∃ ad, A = some ad ∧ 0 ≤ i ∧ i < n ∧ WP P f F K (s.put d (.v (.pointer (some (ad.add (i.toNat * size)))))) h
  | .idxo k off n i size d s => 0 ≤ i ∧ i < n ∧ ∃ x, (∀ B, s.own[k]? = some B → conc s.own x = some (.pointer (some ⟨B.id, off + i.toNat * size, none⟩))) ∧ WP P f F K (s.put d x) h
  | .idxg k n i size d s => (∃ B, s.own[k]? = some B ∧ B.nul = false) ∧ 0 ≤ i ∧ i < n ∧ WP P f F K (s.put d (.locx k (i.toNat * size))) h
  | .loop s => WP P f F K s h
  | .draw p s => WP P f F K ⟨.code p :: s.todo, s.env, s.own⟩ h
  | .raw o s => StepV P f F K h o s
  | .callv _ _ _ _ => False
  | .stuck _ => False

theorem stepV_pure {o : Oper} {s : St} (hv : ∀ a, EnvOK a s.env s.own → ∃ x v, conc s.own x = some v ∧ (∀ (R : World) (fr : Frm), Good R h s.own fr → (execOp a.eval o).run P R = .ok (.value v) R) ∧ WP P f F K (s.put o.dst x) h) :
    StepV P f F K h o s := by
  intro a R fr hE hG
  obtain ⟨x, v, hx, hr, hw⟩ := hv a hE
  exact ⟨x, v, R, h, s.env, s.own, hr R fr hG, .refl h, hG, hE, hx, hw⟩

theorem conc_append {own : List Blk} (l : List Blk) : Keeps own (own ++ l) := by
  intro x v hx
  have key : ∀ (k : Nat) (B : Blk), own[k]? = some B → (own ++ l)[k]? = some B := by
    intro k B hk
    rw [List.getElem?_append_left (List.getElem?_eq_some_iff.1 hk).1]; exact hk
  cases x with
  | v x => exact hx
  | tt => exact hx
  | ff => exact hx
  | loc k off =>
    simp only [conc] at hx ⊢
    split at hx
    · rename_i B hB; rw [key k B hB]; exact hx
    · cases hx
  | locx k off =>
    simp only [conc] at hx ⊢
    split at hx
    · rename_i B hB; rw [key k B hB]; exact hx
    · cases hx
  | gs k n c =>
    simp only [conc] at hx ⊢
    split at hx
    · rename_i B hB; rw [key k B hB]; exact hx
    · cases hx

theorem guardF_yes {ops : Array Oper} {o : Oper} {env : Env} {own : List Blk} (hg : guardF ops o env = .yes) : ∀ a, EnvOK a env own → Region.wanted o (yielded ops a.tmps) = true := by
  intro a hE
  unfold guardF at hg
  unfold Region.wanted
  split at hg
  · rename_i h0; rw [h0]
  · rename_i j want h0
    rw [h0]
    split at hg
    · rename_i q hq
      split at hg
      · rename_i t ht
        split at hg
        · rename_i hv
          split at hg
          · obtain ⟨v, h1, h2⟩ := hE t _ hv
            simp only [conc, Option.some.injEq] at h1; subst h1
            simp [yielded, hq, ht, h2]
          · cases hg
        · rename_i hv
          split at hg
          · cases hg
          · obtain ⟨v, h1, h2⟩ := hE t _ hv
            simp only [conc, Option.some.injEq] at h1; subst h1
            simp [yielded, hq, ht, h2]
        · cases hg
        · cases hg
      · cases hg
    · cases hg

theorem guardF_no {ops : Array Oper} {o : Oper} {env : Env} {own : List Blk} (hg : guardF ops o env = .no) : ∀ a, EnvOK a env own → Region.wanted o (yielded ops a.tmps) = false := by
  intro a hE
  unfold guardF at hg
  unfold Region.wanted
  split at hg
  · cases hg
  · rename_i j want h0
    rw [h0]
    split at hg
    · rename_i q hq
      split at hg
      · rename_i t ht
        split at hg
        · rename_i hv
          split at hg
          · cases hg
          · obtain ⟨v, h1, h2⟩ := hE t _ hv
            simp only [conc, Option.some.injEq] at h1; subst h1
            simp [yielded, hq, ht, h2]
        · rename_i hv
          split at hg
          · obtain ⟨v, h1, h2⟩ := hE t _ hv
            simp only [conc, Option.some.injEq] at h1; subst h1
            simp [yielded, hq, ht, h2]
          · cases hg
        · cases hg
        · cases hg
      · cases hg
    · cases hg

theorem guardF_ask {ops : Array Oper} {o : Oper} {env : Env} {own : List Blk} {t : Nat} {b : Bool} (hg : guardF ops o env = .ask t b) : ∀ a, EnvOK a env own → a.tmps[t]? = some (.bool b) := by
  intro a hE
  unfold guardF at hg
  split at hg
  · cases hg
  · split at hg
    · split at hg
      · split at hg
        · split at hg <;> cases hg
        · split at hg <;> cases hg
        · rename_i hv
          cases hg
          obtain ⟨v, h1, h2⟩ := hE _ _ hv
          simp only [conc, Option.some.injEq] at h1; subst h1
          exact h2
        · cases hg
      · cases hg
    · cases hg

theorem EnvOK.bool {a : Act} {env : Env} {own : List Blk} (hE : EnvOK a env own) {j : Nat} {b : Bool} (hj : a.tmps[j]? = some (.bool b)) {x : SV} (hx : conc own x = some (.bool b)) : EnvOK a ((j, x) :: env) own := by
  intro i y hy
  rw [get_cons] at hy
  by_cases hji : j = i
  · subst hji; rw [if_pos rfl] at hy; cases hy; exact ⟨_, hx, hj⟩
  · rw [if_neg hji] at hy; exact hE i y hy

/-- A test on a variable. -/
theorem wp_ask {todo : List It} {env : Env} {own : List Blk} {j : Nat} {b : Bool} (hj : ∀ a, EnvOK a env own → a.tmps[j]? = some (.bool b))
    (ht : b = true → WP P f F K ⟨todo, (j, .tt) :: env, own⟩ h) (hf : b = false → WP P f F K ⟨todo, (j, .ff) :: env, own⟩ h) : WP P f F K ⟨todo, env, own⟩ h := by
  cases b with
  | true => exact WP.weaken (s' := ⟨todo, (j, .tt) :: env, own⟩) rfl (.refl h) (fun a R fr hE hG => ⟨EnvOK.bool hE (hj a hE) rfl, hG⟩) (ht rfl)
  | false => exact WP.weaken (s' := ⟨todo, (j, .ff) :: env, own⟩) rfl (.refl h) (fun a R fr hE hG => ⟨EnvOK.bool hE (hj a hE) rfl, hG⟩) (hf rfl)

theorem exitIt_ok {id : Nat} : ∀ {k k' : List It}, exitIt id k = some k' → exitTo id (k.map (It.item F)) = some (k'.map (It.item F)) := by
  intro k
  induction k with
  | nil => intro k' h; cases h
  | cons x k ih =>
    intro k' h
    cases x with
    | blk i =>
      simp only [exitIt] at h
      split at h
      · rename_i hb
        cases h
        have := Nat.eq_of_beq_eq_true hb
        simp [It.item, exitTo, this]
      · rename_i hb
        have hne : ¬ i = id := by rintro rfl; rw [Nat.beq_refl] at hb; cases hb
        simp [It.item, exitTo, hne, ih h]
    | code p => simpa [It.item, exitTo] using ih h
    | loop p => simpa [It.item, exitTo] using ih h
    | scope p => simpa [It.item, exitTo] using ih h
    | ops p l => simpa [It.item, exitTo] using ih h

theorem WP.cond {c : Operand} {env : Env} {own : List Blk} {b : Bool} {p : List Nat} {k : List It} {x y : Code} (hs : sub (bodyOf F) p = .cond c x y) (hb : ∀ a, EnvOK a env own → a.eval c = .bool b)
    (w : WP P f F K ⟨.code ((if b then 0 else 1) :: p) :: k, env, own⟩ h) : WP P f F K ⟨.code p :: k, env, own⟩ h := by
  intro a R fr cs hd hsz hE hG
  refine (w a R fr cs hd hsz hE hG).head ?_
  simp only [List.map_cons, It.item, hs, sub, child]
  rw [step_cond (hb a hE)]
  cases b <;> rfl


/-- The loads, the stores, the rest: each as one operation. -/
theorem event_step {o : Oper} {s here : St} {e : Ev} (hd : ∀ a, EnvOK a s.env s.own → EvSem P o a s.env s.own here s e) (hk : EvOK P f F K h e)
    (h1 : ∀ b s t, e ≠ .br b s t) (h2 : ∀ g args d s, e ≠ .call g args d s) (h3 : ∀ n p v s, e ≠ .store n p v s) (h4 : ∀ k off n v s, e ≠ .storex k off n v s) : StepV P f F K h o s := by
  intro a R fr hE hG
  have hs := hd a hE
  cases e with
  | alloc cells ty x d s' =>
    obtain ⟨rfl, rfl, rfl, hr⟩ := hs
    refine ⟨_, _, _, h, _, _, hr R, .refl h, hG.alloc (.cells cells ty), hE.keeps (conc_append _), ?_, hk R.heap.size⟩
    simp [conc]
  | load n p d s' =>
    obtain ⟨rfl, rfl, hr⟩ := hs
    cases n with
    | none =>
      obtain ⟨v, hv, hw⟩ := hk
      exact ⟨_, _, R, h, _, _, hr R v (hv R fr hG), .refl h, hG, hE, rfl, hw⟩
    | some m =>
      obtain ⟨vs, hl, hv, hw⟩ := hk
      exact ⟨_, _, R, h, _, _, hr R vs hl (hv R fr hG), .refl h, hG, hE, rfl, hw⟩
  | loadx k off n d s' =>
    obtain ⟨rfl, rfl, B, hB, hr⟩ := hs
    obtain ⟨B', hB', hk⟩ := hk
    rw [hB] at hB'; cases hB'
    cases n with
    | none =>
      obtain ⟨v, hv, hw⟩ := hk
      exact ⟨_, _, R, h, _, _, hr R v (hv R fr hG), .refl h, hG, hE, rfl, hw⟩
    | some m =>
      obtain ⟨vs, hl, hv, hw⟩ := hk
      exact ⟨_, _, R, h, _, _, hr R vs hl (hv R fr hG), .refl h, hG, hE, rfl, hw⟩
  | need φ x d s' =>
    obtain ⟨rfl, rfl, hr⟩ := hs
    exact ⟨_, _, R, h, _, _, hr hk.1 R, .refl h, hG, hE, rfl, hk.2⟩
  | idx A n i size d s' =>
    obtain ⟨rfl, rfl, hr⟩ := hs
    obtain ⟨ad, hA, g0, g1, hw⟩ := hk
    exact ⟨_, _, R, h, _, _, hr ad hA g0 g1 R, .refl h, hG, hE, rfl, hw⟩
  | idxo k off n i size d s' =>
    obtain ⟨rfl, rfl, B, hB, hr⟩ := hs
    obtain ⟨g0, g1, x, hx, hw⟩ := hk
    exact ⟨x, _, R, h, _, _, hr g0 g1 R, .refl h, hG, hE, hx B hB, hw⟩
  | idxg k n i size d s' =>
    obtain ⟨rfl, rfl, B, hB, hr⟩ := hs
    obtain ⟨⟨B', hB', hn⟩, g0, g1, hw⟩ := hk
    rw [hB] at hB'; cases hB'
    exact ⟨_, _, R, h, _, _, hr hn g0 g1 R, .refl h, hG, hE, by simp only [conc, hB], hw⟩
  | br b s' t => exact absurd rfl (h1 _ _ _)
  | call g args d s' => exact absurd rfl (h2 _ _ _ _)
  | store n p v s' => exact absurd rfl (h3 _ _ _ _)
  | storex k off n v s' => exact absurd rfl (h4 _ _ _ _ _)
  | ret env own => exact hs.elim
  | callv g args d s' => exact hs.elim
  | loop s' => exact hs.elim
  | draw p s' => exact hs.elim
  | raw o' s' => exact hs.elim
  | stuck n => exact hs.elim

theorem wp_of_ev : ∀ (n : Nat) (todo : List It) (env : Env) (own : List Blk), EvOK P f F K h (ev P F n todo env own) → WP P f F K ⟨todo, env, own⟩ h := by
  intro n
  induction n with
  | zero => intro todo env own hk; exact hk.elim
  | succ n ih =>
    intro todo env own hk
    cases todo with
    | nil =>
      intro a R fr cs hd hsz hE hG
      obtain ⟨v, h', own', hr, hle, hK, hG'⟩ := hk a R fr hE hG
      exact ⟨a, R, [], v, h', own', .one step_end, hd, hr, hle, hK, hG'⟩
    | cons x k =>
      cases x with
      | blk id => exact WP.silent (s' := ⟨k, env, own⟩) rfl rfl (fun a cs R => step_inBlock) (ih k env own hk)
      | scope p =>
        refine WP.silent (s' := ⟨k, env, own⟩) rfl rfl (fun a cs R => ?_) (ih k env own hk)
        exact step_lone_go (by simp [stepG, stepG.exec, Frame.at, It.item])
      | loop p => exact WP.silent (s' := ⟨.code (0 :: p) :: .loop p :: k, env, own⟩) rfl rfl (fun a cs R => step_inLoop) hk
      | code p =>
        simp only [ev] at hk
        split at hk
        · rename_i hs
          exact WP.silent (s' := ⟨k, env, own⟩) rfl rfl (fun a cs R => by simp only [List.map_cons, It.item, hs]; exact step_skip) (ih k env own hk)
        · rename_i l hs
          exact WP.silent (s' := ⟨k, env, own⟩) rfl rfl (fun a cs R => by simp only [List.map_cons, It.item, hs]; exact step_label) (ih k env own hk)
        · rename_i c1 c2 hs
          exact WP.silent (s' := ⟨.code (0 :: p) :: .code (1 :: p) :: k, env, own⟩) rfl rfl (fun a cs R => by simp only [List.map_cons, It.item, hs, sub, child]; exact step_seq) (ih _ env own hk)
        · rename_i hs
          intro a R fr cs hd hsz hE hG
          obtain ⟨v, h', own', hr, hle, hK, hG'⟩ := hk a R fr hE hG
          refine ⟨a, R, .code .ret :: k.map (It.item F), v, h', own', .one ?_, hd, hr, hle, hK, hG'⟩
          simp only [List.map_cons, It.item, hs]; exact step_ret
        · rename_i id c1 hs
          exact WP.silent (s' := ⟨.code (0 :: p) :: .blk id :: k, env, own⟩) rfl rfl (fun a cs R => by simp only [List.map_cons, It.item, hs, sub, child]; exact step_block) (ih _ env own hk)
        · rename_i c1 hs
          exact WP.silent (s' := ⟨.code (0 :: p) :: .loop p :: k, env, own⟩) rfl rfl (fun a cs R => by simp only [List.map_cons, It.item, hs, sub, child]; exact step_loop) hk
        · rename_i c1 hs
          refine WP.silent (s' := ⟨.code (0 :: p) :: .scope p :: k, env, own⟩) rfl rfl (fun a cs R => ?_) (ih _ env own hk)
          simp only [List.map_cons, It.item, hs, sub, child]
          exact step_lone_go (by simp [stepG, stepG.exec, Frame.at])
        · rename_i id hs
          split at hk
          · rename_i k' hk'
            exact WP.silent (s' := ⟨k', env, own⟩) rfl rfl (fun a cs R => by simp only [List.map_cons, It.item, hs]; exact step_exit (exitIt_ok hk')) (ih _ env own hk)
          · exact hk.elim
        · rename_i c c1 c2 hs
          split at hk
          · rename_i hc
            refine WP.cond (b := true) hs (fun a hE => ?_) (ih _ env own hk)
            have := getS_ok hE hc; simp only [conc, Option.some.injEq] at this; exact this.symm
          · rename_i hc
            refine WP.cond (b := false) hs (fun a hE => ?_) (ih _ env own hk)
            have := getS_ok hE hc; simp only [conc, Option.some.injEq] at this; exact this.symm
          · rename_i b hc
            have hb : ∀ a, EnvOK a env own → a.eval c = .bool b := fun a hE => by
              have := getS_ok hE hc; simp only [conc, Option.some.injEq] at this; exact this.symm
            cases b with
            | true => exact WP.cond (b := true) hs hb (hk.1 rfl)
            | false => exact WP.cond (b := false) hs hb (hk.2 rfl)
          · exact hk.elim
        · rename_i id ops draw hs
          have hops : opsAt F p = ops := by simp only [opsAt, hs]
          split at hk
          · refine WP.silent (s' := ⟨.ops p (List.range ops.size) :: k, env, own⟩) rfl rfl (fun a cs R => ?_) (ih _ env own hk)
            simp only [List.map_cons, It.item, hs, hops]; exact step_region
          · exact hk
        · exact hk.elim
      | ops p l =>
        simp only [ev] at hk
        split at hk
        · exact WP.silent (s' := ⟨k, env, own⟩) rfl rfl (fun a cs R => by simp only [List.map_cons, It.item]; exact step_region_end) (ih _ env own hk)
        · rename_i i l
          split at hk
          · exact hk.elim
          · rename_i o ho
            split at hk
            · exact hk.elim
            · rename_i hdst
              split at hk
              · exact hk.elim
              · rename_i hg
                have hnw := guardF_no (own := own) hg
                intro a R fr cs hd hsz hE hG
                have hst := step_op_skip (P := P) (b := base f) (a := a) (k := k.map (It.item F)) (cs := cs) (w := R) (ops := opsAt F p) (i := i) (rest := l) (by simp [ho, hnw a hE])
                simp only [ho, Option.bind_some] at hst
                refine Done.head hst ?_
                split at hk
                · rename_i d hd'
                  rw [hd'] at hdst
                  have hlt : d < a.tmps.size := by rw [hsz]; simpa [okDst, Nat.blt_eq] using hdst
                  rw [hd']
                  exact ih _ _ _ hk _ _ _ _ (by simpa [Act.put] using hd) (by simpa [Act.put] using hsz) (EnvOK.put (x := .v undef) hE rfl hlt) hG
                · rename_i hd'
                  rw [hd']
                  exact ih _ _ _ hk _ _ _ _ (by simpa [Act.put] using hd) (by simpa [Act.put] using hsz) hE hG
              · rename_i t b hg
                exact wp_ask (guardF_ask hg) hk.1 hk.2
              · rename_i hg
                have hw := guardF_yes (own := own) hg
                split at hk
                · rename_i x own' he
                  refine wp_stepV ho hdst hw (stepV_pure fun a hE => ?_)
                  obtain ⟨rfl, v, hv, hr⟩ := evOp_set he hE
                  refine ⟨x, v, hv, fun R fr hG => hr R h fr hG, ?_⟩
                  split at hk
                  · rename_i d hd'; rw [hd']; exact ih _ _ _ hk
                  · rename_i hd'; rw [hd']; exact ih _ _ _ hk
                · rename_i own' he
                  split at hk
                  · exact hk.elim
                  · rename_i hd'
                    intro a R fr cs hd hsz hE hG
                    obtain ⟨hE', hr⟩ := evOp_skip he hE
                    obtain ⟨R', hr, hG'⟩ := hr R h fr hG
                    have hst := step_op_skipped (b := base f) (k := k.map (It.item F)) (cs := cs) (l := l) ho (hw a hE) hr
                    rw [hd'] at hst
                    exact Done.head hst (ih _ _ _ hk _ _ _ _ (by simpa [Act.put] using hd) (by simpa [Act.put] using hsz) hE' hG')
                · rename_i e he
                  have hes := fun a hE => evOp_ev (a := a) (s0 := ⟨.ops p l :: k, env, own⟩) (own := own) rfl he hE
                  by_cases hbr : ∃ b s t, e = .br b s t
                  · obtain ⟨b, s, t, rfl⟩ := hbr
                    intro a R fr cs hd hsz hE hG
                    obtain ⟨j, hj, rfl, rfl⟩ := hes a hE
                    cases b with
                    | true => exact hk.1 rfl a R fr cs hd hsz (hE.bool hj rfl) hG
                    | false => exact hk.2 rfl a R fr cs hd hsz (hE.bool hj rfl) hG
                  · by_cases hca : ∃ g args d s, e = .call g args d s
                    · obtain ⟨g, args, d, s, rfl⟩ := hca
                      intro a R fr cs hd hsz hE hG
                      obtain ⟨rfl, rfl, hr⟩ := hes a hE
                      obtain ⟨hc1, hc2⟩ := hk
                      have hr' := (hr R).trans (hc1 _ R)
                      obtain ⟨v, R', ⟨x, h', own', hle, hG', hkp, hx, hwp⟩, hst⟩ := steps_op_call (b := base f) (k := k.map (It.item F)) (cs := cs) (l := l) ho (hw a hE) hr' (hc2 R fr hG)
                      refine Done.le hle (Done.steps hst ?_)
                      have hE' := hE.keeps hkp
                      cases hdd : o.dst with
                      | none =>
                        rw [hdd] at hwp
                        exact hwp _ _ _ _ (by simpa [Act.put] using hd) (by simpa [Act.put] using hsz) hE' hG'
                      | some d =>
                        rw [hdd] at hwp hdst
                        have hlt : d < a.tmps.size := by rw [hsz]; simpa [okDst, Nat.blt_eq] using hdst
                        exact hwp _ _ _ _ (by simpa [Act.put] using hd) (by simpa [Act.put] using hsz) (hE'.put hx hlt) hG'
                    · by_cases hst : (∃ n p v s, e = .store n p v s) ∨ ∃ k off n v s, e = .storex k off n v s
                      · intro a R fr cs hd hsz hE hG
                        have hes' := hes a hE
                        rcases hst with ⟨n', p', v, s, rfl⟩ | ⟨k', off, n', v, s, rfl⟩
                        · obtain ⟨hd', rfl, t, hst, hr⟩ := hes'
                          obtain ⟨own', hk1, hk2, hk3⟩ := hk
                          obtain ⟨R', hrun, hG'⟩ := hk1 R fr t hst hG
                          have hstep := step_op_skipped (b := base f) (k := k.map (It.item F)) (cs := cs) (l := l) ho (hw a hE) (hr R R' hrun)
                          rw [hd'] at hstep
                          exact Done.head hstep (hk3 _ _ _ _ (by simpa [Act.put] using hd) (by simpa [Act.put] using hsz) (hE.keeps hk2) hG')
                        · obtain ⟨hd', rfl, B, t, hB, hst, hr⟩ := hes'
                          obtain ⟨B', own', hB', hk1, hk2, hk3⟩ := hk
                          rw [hB] at hB'; cases hB'
                          obtain ⟨R', hrun, hG'⟩ := hk1 R fr t hst hG
                          have hstep := step_op_skipped (b := base f) (k := k.map (It.item F)) (cs := cs) (l := l) ho (hw a hE) (hr R R' hrun)
                          rw [hd'] at hstep
                          exact Done.head hstep (hk3 _ _ _ _ (by simpa [Act.put] using hd) (by simpa [Act.put] using hsz) (hE.keeps hk2) hG')
                      · refine wp_stepV ho hdst hw (event_step (e := e) hes hk ?_ ?_ ?_ ?_)
                        · exact fun b s t hh => hbr ⟨b, s, t, hh⟩
                        · exact fun g args d s hh => hca ⟨g, args, d, s, hh⟩
                        · exact fun n p v s hh => hst (.inl ⟨n, p, v, s, hh⟩)
                        · exact fun k off n v s hh => hst (.inr ⟨k, off, n, v, s, hh⟩)
                · exact wp_stepV ho hdst hw hk
                · exact hk.elim
end Go.Vc
