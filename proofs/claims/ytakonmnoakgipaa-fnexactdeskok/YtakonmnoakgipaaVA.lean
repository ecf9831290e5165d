/- Parts of the proof of FnExactDeskOk: the logic of values, plain facts, and what the functions compute. -/
import Derived.Tactics
import Derived.Laws.Sem
import Derived.Laws.AppendOwn
import Derived.Maps.AppendAt
import Derived.Deep.LoopGhost
import Derived.Below
import Derived.OwnWalk
import Derived.Laws.Small
import Derived.Laws.Cells
import Derived.Laws.MakeOwn
import Derived.Laws.OwnMore
import Derived.Laws.Rows
import Derived.Laws.AppendOwnNone
import Derived.Laws.Tables
import Derived.Shelf.Abstract
import Derived.Orders
/- Values by value: typed data, how cells stand for them, abstract values and heaps, and the relation to a world. -/
set_option linter.unusedVariables false
set_option linter.unusedSimpArgs false
namespace Go.Vs
open Go Go.RowKit

/-- Types of data. A struct: cons .. nil. -/
inductive Ty where
  | int (k : IntKind) | bool | str | sl (t : Ty) | ptr (t : Ty) | nil | cons (a r : Ty)
  deriving DecidableEq

@[reducible] def Ty.D : Ty → Type
  | .int _ => Int
  | .bool => Bool
  | .str => ByteArray
  | .sl t => List t.D
  | .ptr t => Option t.D
  | .nil => Unit
  | .cons a r => a.D × r.D

def Ty.dflt : (t : Ty) → t.D
  | .int _ => (0 : Int)
  | .bool => false
  | .str => ByteArray.empty
  | .sl _ => []
  | .ptr _ => none
  | .nil => ()
  | .cons a r => (a.dflt, r.dflt)

def Ty.size : Ty → Nat
  | .cons a r => a.size + r.size
  | .nil => 0
  | _ => 1
def Ty.isS : Ty → Bool
  | .cons .. | .nil => true
  | _ => false

/-- The f-th field. -/
def Ty.fld : Ty → Nat → Ty
  | .cons a _, 0 => a
  | .cons _ r, f + 1 => r.fld f
  | _, _ => .nil
def Ty.fldv : (t : Ty) → (f : Nat) → t.D → (t.fld f).D
  | .cons _ _, 0, x => x.1
  | .cons _ r, f + 1, x => r.fldv f x.2
  | .int _, _, _ => ()
  | .bool, _, _ => ()
  | .str, _, _ => ()
  | .sl _, _, _ => ()
  | .ptr _, _, _ => ()
  | .nil, _, _ => ()
/-- Where the f-th field begins. -/
def Ty.off : Ty → Nat → Nat
  | .cons _ _, 0 => 0
  | .cons a r, f + 1 => a.size + r.off f
  | _, _ => 0
def Ty.nfld : Ty → Nat
  | .cons _ r => r.nfld + 1
  | _ => 0

abbrev Foot := Nat → Nat → Prop
def CellAt (w : World) (S : Foot) (b o : Nat) (u : Value) : Prop := w.cell? ⟨b, o, none⟩ = some u ∧ S b o
def lenMax : Nat := 140737488355328

/-- These cells stand for this datum. -/
def Rep (w : World) (S : Foot) : (t : Ty) → t.D → List Value → Prop
  | .int k, n, cs => cs = [.int k n]
  | .bool, b, cs => cs = [.bool b]
  | .str, s, cs => cs = [.string s] ∧ s.size ≤ lenMax
  | .sl t, xs, cs => ∃ A c, cs = [.slice A xs.length c] ∧ xs.length ≤ c ∧ xs.length ≤ lenMax ∧
      ∀ j x, xs[j]? = some x → ∃ b o cs', A = some ⟨b, o, none⟩ ∧ Rep w S t x cs' ∧ ∀ i u, cs'[i]? = some u → CellAt w S b (o + (j * t.size + i)) u
  | .ptr t, y, cs => match y with
      | none => cs = [.pointer none]
      | some x => ∃ b o cs', cs = [.pointer (some ⟨b, o, none⟩)] ∧ Rep w S t x cs' ∧ ∀ i u, cs'[i]? = some u → CellAt w S b (o + i) u
  | .nil, _, cs => cs = []
  | .cons a r, x, cs => ∃ c0 c1, cs = c0 ++ c1 ∧ Rep w S a x.1 c0 ∧ Rep w S r x.2 c1

def mkV (t : Ty) (cs : List Value) : Value := bif t.isS then .agg cs.toArray else cs.headD undef
def RepV (w : World) (S : Foot) (t : Ty) (x : t.D) (u : Value) : Prop := ∃ cs, Rep w S t x cs ∧ u = mkV t cs

variable {w w' : World} {S S' : Foot}

theorem Rep.len : ∀ {t : Ty} {x : t.D} {cs : List Value}, Rep w S t x cs → cs.length = t.size
  | .int _, _, _, h => by simp only [Rep] at h; subst h; rfl
  | .bool, _, _, h => by simp only [Rep] at h; subst h; rfl
  | .str, _, _, h => by simp only [Rep] at h; obtain ⟨rfl, _⟩ := h; rfl
  | .sl _, _, _, h => by simp only [Rep] at h; obtain ⟨A, c, rfl, _⟩ := h; rfl
  | .ptr _, none, _, h => by simp only [Rep] at h; subst h; rfl
  | .ptr _, some _, _, h => by simp only [Rep] at h; obtain ⟨b, o, cs', rfl, _⟩ := h; rfl
  | .nil, _, _, h => by simp only [Rep] at h; subst h; rfl
  | .cons a r, x, _, h => by
    simp only [Rep] at h
    obtain ⟨c0, c1, rfl, h0, h1⟩ := h
    rw [List.length_append, h0.len, h1.len]; rfl

theorem Rep.one : ∀ {t : Ty} {x : t.D} {cs : List Value}, Rep w S t x cs → ∀ u ∈ cs, u.oneCell' = true
  | .int _, _, _, h, u, hu => by simp only [Rep] at h; subst h; simp at hu; subst hu; rfl
  | .bool, _, _, h, u, hu => by simp only [Rep] at h; subst h; simp at hu; subst hu; rfl
  | .str, _, _, h, u, hu => by simp only [Rep] at h; obtain ⟨rfl, _⟩ := h; simp at hu; subst hu; rfl
  | .sl _, _, _, h, u, hu => by simp only [Rep] at h; obtain ⟨A, c, rfl, _⟩ := h; simp at hu; subst hu; rfl
  | .ptr _, none, _, h, u, hu => by simp only [Rep] at h; subst h; simp at hu; subst hu; rfl
  | .ptr _, some _, _, h, u, hu => by simp only [Rep] at h; obtain ⟨b, o, cs', rfl, _⟩ := h; simp at hu; subst hu; rfl
  | .nil, _, _, h, u, hu => by simp only [Rep] at h; subst h; simp at hu
  | .cons a r, x, _, h, u, hu => by
    simp only [Rep] at h
    obtain ⟨c0, c1, rfl, h0, h1⟩ := h
    rcases List.mem_append.1 hu with hu | hu
    · exact h0.one u hu
    · exact h1.one u hu

/-- What lies in S is as it was. -/
structure Same (S : Foot) (w w' : World) : Prop where
  cell : ∀ b o, S b o → w'.cell? ⟨b, o, none⟩ = w.cell? ⟨b, o, none⟩

theorem Same.refl (S : Foot) (w : World) : Same S w w := ⟨fun _ _ _ => rfl⟩
theorem Same.trans {w'' : World} (h : Same S w w') (h' : Same S w' w'') : Same S w w'' := ⟨fun b o hs => (h'.cell b o hs).trans (h.cell b o hs)⟩
theorem Same.anti (h : Same S' w w') (hS : ∀ b o, S b o → S' b o) : Same S w w' := ⟨fun b o hs => h.cell b o (hS b o hs)⟩

theorem CellAt.mono {b o : Nat} {u : Value} (h : CellAt w S b o u) (hs : Same S w w') (hS : ∀ b o, S b o → S' b o) : CellAt w' S' b o u :=
  ⟨(hs.cell b o h.2).trans h.1, hS b o h.2⟩

theorem Rep.mono (hs : Same S w w') (hS : ∀ b o, S b o → S' b o) : ∀ {t : Ty} {x : t.D} {cs : List Value}, Rep w S t x cs → Rep w' S' t x cs
  | .int _, _, _, h => h
  | .bool, _, _, h => h
  | .str, _, _, h => h
  | .sl t, _, _, h => by
    simp only [Rep] at h ⊢
    obtain ⟨A, c, rfl, h1, h2, h3⟩ := h
    refine ⟨A, c, rfl, h1, h2, fun j x hx => ?_⟩
    obtain ⟨b, o, cs', hA, hr, hc⟩ := h3 j x hx
    exact ⟨b, o, cs', hA, hr.mono hs hS, fun i u hu => (hc i u hu).mono hs hS⟩
  | .ptr _, none, _, h => h
  | .ptr _, some _, _, h => by
    simp only [Rep] at h ⊢
    obtain ⟨b, o, cs', rfl, hr, hc⟩ := h
    exact ⟨b, o, cs', rfl, hr.mono hs hS, fun i u hu => (hc i u hu).mono hs hS⟩
  | .nil, _, _, h => h
  | .cons a r, x, _, h => by
    simp only [Rep] at h ⊢
    obtain ⟨c0, c1, rfl, h0, h1⟩ := h
    exact ⟨c0, c1, rfl, h0.mono hs hS, h1.mono hs hS⟩

theorem RepV.mono (hs : Same S w w') (hS : ∀ b o, S b o → S' b o) {t : Ty} {x : t.D} {u : Value} (h : RepV w S t x u) : RepV w' S' t x u := by
  obtain ⟨cs, h, rfl⟩ := h
  exact ⟨cs, h.mono hs hS, rfl⟩

theorem mkV_cells {t : Ty} {x : t.D} {cs : List Value} (h : Rep w S t x cs) : (mkV t cs).cells.toList = cs := by
  have hl := h.len
  cases t with
  | cons a r => simp [mkV, Ty.isS, Value.cells]
  | nil => simp [mkV, Ty.isS, Value.cells]
  | int k => simp only [Rep] at h; subst h; rfl
  | bool => simp only [Rep] at h; subst h; rfl
  | str => simp only [Rep] at h; obtain ⟨rfl, _⟩ := h; rfl
  | sl t => simp only [Rep] at h; obtain ⟨A, c, rfl, _⟩ := h; rfl
  | ptr t =>
    cases x with
    | none => simp only [Rep] at h; subst h; rfl
    | some x => simp only [Rep] at h; obtain ⟨b, o, cs', rfl, _⟩ := h; rfl

/-- The field's cells. -/
theorem Rep.fld : ∀ {t : Ty} {x : t.D} {cs : List Value} (f : Nat), f < t.nfld → Rep w S t x cs → Rep w S (t.fld f) (t.fldv f x) ((cs.drop (t.off f)).take (t.fld f).size)
  | .cons a r, x, _, 0, _, h => by
    simp only [Rep] at h
    obtain ⟨c0, c1, rfl, h0, h1⟩ := h
    have := h0.len
    simp only [Ty.fld, Ty.fldv, Ty.off, List.drop_zero]
    rw [← this, List.take_left]
    exact h0
  | .cons a r, x, _, f + 1, hf, h => by
    simp only [Rep] at h
    obtain ⟨c0, c1, rfl, h0, h1⟩ := h
    have := h0.len
    simp only [Ty.fld, Ty.fldv, Ty.off]
    rw [← List.drop_drop, ← this, List.drop_left]
    exact h1.fld f (by simp only [Ty.nfld] at hf; omega)
  | .int _, _, _, _, hf, _ => by simp [Ty.nfld] at hf
  | .bool, _, _, _, hf, _ => by simp [Ty.nfld] at hf
  | .str, _, _, _, hf, _ => by simp [Ty.nfld] at hf
  | .sl _, _, _, _, hf, _ => by simp [Ty.nfld] at hf
  | .ptr _, _, _, _, hf, _ => by simp [Ty.nfld] at hf
  | .nil, _, _, _, hf, _ => by simp [Ty.nfld] at hf

theorem Ty.off_le : ∀ (t : Ty) (f : Nat), f < t.nfld → t.off f + (t.fld f).size ≤ t.size
  | .cons a r, 0, _ => by simp [Ty.off, Ty.fld, Ty.size]
  | .cons a r, f + 1, hf => by
    have := r.off_le f (by simp only [Ty.nfld] at hf; omega)
    simp only [Ty.off, Ty.fld, Ty.size]; omega
  | .int _, _, hf => by simp [Ty.nfld] at hf
  | .bool, _, hf => by simp [Ty.nfld] at hf
  | .str, _, hf => by simp [Ty.nfld] at hf
  | .sl _, _, hf => by simp [Ty.nfld] at hf
  | .ptr _, _, hf => by simp [Ty.nfld] at hf
  | .nil, _, hf => by simp [Ty.nfld] at hf

/-! ### Abstract values, heaps -/
/-- The name of an object: one's own (by the slot at which it was laid), or the caller's. -/
inductive Nm where
  | own (i : Nat) | out (n : Nm)
  deriving DecidableEq

/-- dead: anything. v: a datum that nothing will turn. nils: a nil slice; nilp: a nil pointer. rw n k: the whole row n as of its k-th state (an elder reference, where it has been appended to since). rp n i k: the i-th element of row n, likewise. bp n o: cell o of box n. bs n: a slice over the whole of box n. vp t p: some datum with p. -/
inductive AV : Type where
  | dead
  | v (t : Ty) (x : t.D)
  | nils | nilp
  | rw (n : Nm) (k : Nat)
  | rp (n : Nm) (i k : Nat)
  | bp (n : Nm) (o : Nat)
  | bs (n : Nm)
  | vp (t : Ty) (p : t.D → Prop)
  | agg (cs : List AV)
  | tup (cs : List AV)
  | clo (f : Nat) (caps : List AV)

inductive Ob : Type where
  | none
  | box (fr : Bool) (cs : List AV)
  | row (fr : Bool) (ver : Nat) (t : Ty) (e : TypeId) (xs : List t.D)

abbrev Heap := Nm → Ob
structure Loc where
  blk : Nat
  cap : Nat
  isnil : Bool
abbrev Lm := Nm → Loc
def sliceV (l : Loc) (k : Nat) : Value := bif l.isnil then .slice none 0 0 else .slice (some ⟨l.blk, 0, none⟩) k l.cap

def RowLen (h : Heap) (n : Nm) (k : Nat) : Prop := ∃ fr t e xs, h n = .row fr k t e xs
mutual
def RepA (m : Lm) (S : Foot) (w : World) (h : Heap) : AV → Value → Prop
  | .dead, _ => True
  | .v t x, u => RepV w S t x u
  | .nils, u => u = .slice none 0 0
  | .nilp, u => u = .pointer none
  | .rw n k, u => ∃ fr ver t e xs, h n = .row fr ver t e xs ∧ k ≤ ver ∧ (k = ver → u = sliceV (m n) xs.length)
  | .rp n i k, u => ∃ fr ver t e xs, h n = .row fr ver t e xs ∧ k ≤ ver ∧ (k = ver → i < xs.length ∧ u = .pointer (some ⟨(m n).blk, i * t.size, none⟩))
  | .bp n o, u => ∃ fr cs, h n = .box fr cs ∧ u = .pointer (some ⟨(m n).blk, o, none⟩)
  | .bs n, u => ∃ fr cs, h n = .box fr cs ∧ u = .slice (some ⟨(m n).blk, 0, none⟩) cs.length cs.length ∧ cs.length ≤ lenMax
  | .vp t p, u => ∃ x, p x ∧ RepV w S t x u
  | .agg cs, u => ∃ us, u = .agg us.toArray ∧ RepAs m S w h cs us
  | .tup cs, u => ∃ us, u = .tuple us.toArray ∧ RepAs m S w h cs us
  | .clo f cs, u => ∃ us, u = .func (.func f) #[] us.toArray ∧ RepAs m S w h cs us
def RepAs (m : Lm) (S : Foot) (w : World) (h : Heap) : List AV → List Value → Prop
  | [], us => us = []
  | c :: cs, us => ∃ u us', us = u :: us' ∧ RepA m S w h c u ∧ RepAs m S w h cs us'
end

def RepsL (w : World) (S : Foot) (t : Ty) (xs : List t.D) (inner : List Value) : Prop :=
  ∀ j x, xs[j]? = some x → Rep w S t x ((inner.drop (j * t.size)).take t.size)

/-- What the world says of an object. -/
def ObRel (base : Nat) (m : Lm) (S : Foot) (w : World) (h : Heap) (n : Nm) : Ob → Prop
  | .none => True
  | .box fr cs => (m n).isnil = false ∧ base ≤ (m n).blk ∧ ∃ us ty, w.heap[(m n).blk]? = some (.cells us.toArray ty (0, 0)) ∧ RepAs m S w h cs us ∧ (∀ u ∈ us, u.oneCell' = true) ∧
      (fr = false → ∀ o, ¬ S (m n).blk o) ∧ (fr = true → ∀ o, o < us.length → S (m n).blk o)
  | .row fr _ t e xs => ∃ inner, w.ownsRow base e t.size (sliceV (m n) xs.length) xs.length inner ∧ RepsL w S t xs inner ∧ xs.length ≤ lenMax ∧
      ((m n).isnil = false → (fr = false → ∀ o, ¬ S (m n).blk o) ∧ (fr = true → ∀ o, o < xs.length * t.size → S (m n).blk o))

/-- G: what the package-level variables' pointers are. -/
structure HRel (G : Nat → AV) (base : Nat) (m : Lm) (S : Foot) (w : World) (h : Heap) : Prop where
  glob : ∀ g, RepA m S w h (G g) (.pointer (some ⟨g, 0, none⟩))
  ob : ∀ n, ObRel base m S w h n (h n)
  inj : ∀ n n', h n ≠ .none → h n' ≠ .none → (m n).isnil = false → (m n').isnil = false → (m n).blk = (m n').blk → n = n'
  foot : ∀ b o, S b o → b < w.heap.size
  base : base ≤ w.heap.size

end Go.Vs

/- How a relation to a world is kept; what an operation that only reads gives. -/
set_option linter.unusedVariables false
set_option linter.unusedSimpArgs false
namespace Go.Vs
open Go Go.RowKit

/-- The later state knows all that the elder knew. -/
structure Ext (m : Lm) (S : Foot) (w : World) (h : Heap) (m' : Lm) (S' : Foot) (w' : World) (h' : Heap) : Prop where
  foot : ∀ b o, S b o → S' b o
  same : Same S w w'
  row : ∀ n fr ver t e xs, h n = .row fr ver t e xs → ∃ fr' ver' xs', h' n = .row fr' ver' t e xs' ∧ (ver < ver' ∨ (ver' = ver ∧ xs'.length = xs.length ∧ m' n = m n))
  box : ∀ n fr cs, h n = .box fr cs → ∃ fr' cs', h' n = .box fr' cs' ∧ m' n = m n ∧ cs'.length = cs.length

theorem Ext.refl (m : Lm) (S : Foot) (w : World) (h : Heap) : Ext m S w h m S w h :=
  ⟨fun _ _ hs => hs, Same.refl _ _, fun n fr ver t e xs hn => ⟨fr, ver, xs, hn, .inr ⟨rfl, rfl, rfl⟩⟩, fun n fr cs hn => ⟨fr, cs, hn, rfl, rfl⟩⟩
theorem Ext.trans {m m' m'' : Lm} {S S' S'' : Foot} {w w' w'' : World} {h h' h'' : Heap} (x : Ext m S w h m' S' w' h') (y : Ext m' S' w' h' m'' S'' w'' h'') : Ext m S w h m'' S'' w'' h'' := by
  refine ⟨fun b o hs => y.foot b o (x.foot b o hs), x.same.trans (y.same.anti x.foot), fun n fr ver t e xs hn => ?_, fun n fr cs hn => ?_⟩
  · obtain ⟨fr', ver', xs', h1, h2⟩ := x.row n fr ver t e xs hn
    obtain ⟨fr'', ver'', xs'', h3, h4⟩ := y.row n fr' ver' t e xs' h1
    refine ⟨fr'', ver'', xs'', h3, ?_⟩
    rcases h2 with h2 | ⟨h2, h2l, h2'⟩ <;> rcases h4 with h4 | ⟨h4, h4l, h4'⟩
    · exact .inl (by omega)
    · exact .inl (by omega)
    · exact .inl (by omega)
    · exact .inr ⟨by omega, by omega, h4'.trans h2'⟩
  · obtain ⟨fr', cs', h1, h2, hl⟩ := x.box n fr cs hn
    obtain ⟨fr'', cs'', h3, h4, hl'⟩ := y.box n fr' cs' h1
    exact ⟨fr'', cs'', h3, h4.trans h2, hl'.trans hl⟩

section
variable {m m' : Lm} {S S' : Foot} {w w' : World} {h h' : Heap}
mutual
theorem RepA.mono (x : Ext m S w h m' S' w' h') : ∀ {a : AV} {u : Value}, RepA m S w h a u → RepA m' S' w' h' a u
  | .dead, _, _ => by simp [RepA]
  | .v t y, _, r => by simp only [RepA] at r ⊢; exact r.mono x.same x.foot
  | .nils, _, r => r
  | .nilp, _, r => r
  | .rw n k, u, r => by
    simp only [RepA] at r ⊢
    obtain ⟨fr, ver, t, e, xs, h1, h2, h3⟩ := r
    obtain ⟨fr', ver', xs', h4, h5⟩ := x.row n fr ver t e xs h1
    refine ⟨fr', ver', t, e, xs', h4, ?_, fun hk => ?_⟩
    · rcases h5 with h5 | ⟨h5, _⟩ <;> omega
    · rcases h5 with h5 | ⟨h5, hl, h6⟩
      · omega
      · rw [h6, hl]; exact h3 (by omega)
  | .rp n i k, u, r => by
    simp only [RepA] at r ⊢
    obtain ⟨fr, ver, t, e, xs, h1, h2, h3⟩ := r
    obtain ⟨fr', ver', xs', h4, h5⟩ := x.row n fr ver t e xs h1
    refine ⟨fr', ver', t, e, xs', h4, ?_, fun hk => ?_⟩
    · rcases h5 with h5 | ⟨h5, _⟩ <;> omega
    · rcases h5 with h5 | ⟨h5, hl, h6⟩
      · omega
      · rw [h6, hl]; exact h3 (by omega)
  | .bp n o, u, r => by
    simp only [RepA] at r ⊢
    obtain ⟨fr, cs, h1, h2⟩ := r
    obtain ⟨fr', cs', h3, h4, _⟩ := x.box n fr cs h1
    exact ⟨fr', cs', h3, by rw [h4]; exact h2⟩
  | .bs n, u, r => by
    simp only [RepA] at r ⊢
    obtain ⟨fr, cs, h1, h2, hl⟩ := r
    obtain ⟨fr', cs', h3, h4, h5⟩ := x.box n fr cs h1
    exact ⟨fr', cs', h3, by rw [h4, h5]; exact h2, by omega⟩
  | .vp t p, u, r => by
    simp only [RepA] at r ⊢
    obtain ⟨y, hp, hy⟩ := r
    exact ⟨y, hp, hy.mono x.same x.foot⟩
  | .agg cs, u, r => by
    simp only [RepA] at r ⊢
    obtain ⟨us, h1, h2⟩ := r
    exact ⟨us, h1, h2.mono x⟩
  | .tup cs, u, r => by
    simp only [RepA] at r ⊢
    obtain ⟨us, h1, h2⟩ := r
    exact ⟨us, h1, h2.mono x⟩
  | .clo f cs, u, r => by
    simp only [RepA] at r ⊢
    obtain ⟨us, h1, h2⟩ := r
    exact ⟨us, h1, h2.mono x⟩
theorem RepAs.mono (x : Ext m S w h m' S' w' h') : ∀ {a : List AV} {us : List Value}, RepAs m S w h a us → RepAs m' S' w' h' a us
  | [], _, r => r
  | c :: cs, _, r => by
    simp only [RepAs] at r ⊢
    obtain ⟨u, us', h1, h2, h3⟩ := r
    exact ⟨u, us', h1, h2.mono x, h3.mono x⟩
end

theorem RepAs.get : ∀ {cs : List AV} {us : List Value}, RepAs m S w h cs us → ∀ {i : Nat} {c : AV}, cs[i]? = some c → ∃ u, us[i]? = some u ∧ RepA m S w h c u
  | [], _, _, i, c, hc => by simp at hc
  | c :: cs, _, r, i, c', hc => by
    simp only [RepAs] at r
    obtain ⟨u, us', rfl, h1, h2⟩ := r
    cases i with
    | zero => simp at hc; subst hc; exact ⟨u, by simp, h1⟩
    | succ i =>
      simp at hc
      obtain ⟨u', h3, h4⟩ := h2.get hc
      exact ⟨u', by simpa using h3, h4⟩
theorem RepAs.len : ∀ {cs : List AV} {us : List Value}, RepAs m S w h cs us → us.length = cs.length
  | [], _, r => by simp only [RepAs] at r; subst r; rfl
  | c :: cs, _, r => by
    simp only [RepAs] at r
    obtain ⟨u, us', rfl, h1, h2⟩ := r
    simp [h2.len]
end

/-! ### Slots -/
abbrev Env := Nat → AV
def put (e : Env) (d : Option Nat) (x : AV) : Env := match d with
  | none => e
  | some i => fun j => bif Nat.beq j i then x else e j

def cv : Value → AV
  | .int k n => .v (.int k) n
  | .bool b => .v .bool b
  | .string s => bif Nat.ble s.size 100000 then .v .str s else .dead
  | .slice none 0 0 => .nils
  | .pointer none => .nilp
  | _ => .dead
def ev (G : Nat → AV) (e : Env) : Operand → AV
  | .tmp t => e t
  | .const x => cv x
  | .global g => G g
  | .func f => .clo f []

/-- N: how many slots there are. -/
structure Rel (G : Nat → AV) (N : Nat) (base : Nat) (m : Lm) (S : Foot) (e : Env) (h : Heap) (tm : Array Value) (w : World) : Prop where
  size : tm.size = N
  env : ∀ i, RepA m S w h (e i) (tm.getD i undef)
  hrel : HRel G base m S w h

section
variable {G : Nat → AV} {N base : Nat} {m m' : Lm} {S S' : Foot} {w w' : World} {e : Env} {h h' : Heap}
theorem RepA.const (c : Value) : RepA m S w h (cv c) c := by
  unfold cv
  split
  · exact ⟨_, rfl, rfl⟩
  · exact ⟨_, rfl, rfl⟩
  · rename_i s
    cases hs : Nat.ble s.size 100000 with
    | true => exact ⟨_, ⟨rfl, by have := Nat.le_of_ble_eq_true hs; unfold lenMax; omega⟩, rfl⟩
    | false => simp [RepA]
  · simp [RepA]
  · simp [RepA]
  · simp [RepA]
theorem HRel.ev (r : HRel G base m S w h) {a : Act} (henv : ∀ i, RepA m S w h (e i) (a.tmps.getD i undef)) (x : Operand) : RepA m S w h (ev G e x) (a.eval x) := by
  cases x with
  | tmp t => exact henv t
  | const c => exact RepA.const c
  | global g => exact r.glob g
  | func f => exact ⟨[], rfl, rfl⟩
theorem Rel.ev {a : Act} (r : Rel G N base m S e h a.tmps w) (x : Operand) : RepA m S w h (ev G e x) (a.eval x) := r.hrel.ev r.env x

def dstOk (N : Nat) (d : Option Nat) : Bool := match d with | none => true | some i => Nat.blt i N

theorem Rel.put {a : Act} {d : Option Tmp} {v : AV} {u : Value} (r : Rel G N base m S e h a.tmps w) (hd : dstOk N d = true) (hv : RepA m S w h v u) : Rel G N base m S (put e d v) h (a.put d u).tmps w := by
  cases d with
  | none => exact r
  | some d =>
    have hlt : d < a.tmps.size := by
      rw [r.size]
      simpa [dstOk, Nat.blt_eq] using hd
    refine ⟨by simpa [Act.put] using r.size, fun i => ?_, r.hrel⟩
    simp only [Vs.put, Act.put]
    cases hb : Nat.beq i d with
    | true =>
      have : i = d := Nat.eq_of_beq_eq_true hb
      subst this
      simp only [cond_true]
      simpa [Array.getD_eq_getD_getElem?, Array.getElem?_setIfInBounds, hlt] using hv
    | false =>
      have hne : d ≠ i := fun he => by subst he; simp at hb
      simp only [cond_false]
      simpa [Array.getD_eq_getD_getElem?, Array.getElem?_setIfInBounds, hne] using r.env i
/-- The world, the heap have gone on; the slots are as they were. -/
theorem Rel.step {tm : Array Value} (r : Rel G N base m S e h tm w) (x : Ext m S w h m' S' w' h') (hr : HRel G base m' S' w' h') : Rel G N base m' S' e h' tm w' :=
  ⟨r.size, fun i => (r.env i).mono x, hr⟩
end

/-! ### Operations -/
section
variable (P : Program) (G : Nat → AV) (N : Nat)
/-- An operation that only reads: its value, the operands' and the heap being such. -/
def OpRead (o : Oper) (e : Env) (h : Heap) (v : AV) : Prop :=
  ∀ (base : Nat) (m : Lm) (S : Foot) (w : World) (a : Act), HRel G base m S w h → (∀ x ∈ o.op.operands, RepA m S w h (ev G e x) (a.eval x)) →
    ∃ u, (execOp a.eval o).run P w = .ok (.value u) w ∧ RepA m S w h v u

/-- What an operation does. -/
def OpSem (o : Oper) (e : Env) (h : Heap) (e' : Env) (h' : Heap) : Prop :=
  ∀ (base : Nat) (m : Lm) (S : Foot) (w : World) (a : Act) (K : Act → World → Prop) (Q : Exit → Act → World → Prop), Rel G N base m S e h a.tmps w → dstOk N o.dst = true →
    (∀ m' S' a' w', Rel G N base m' S' e' h' a'.tmps w' → Ext m S w h m' S' w' h' → Below base w w' → a'.defers = a.defers → K a' w') → o.wp P a w K Q
end

theorem OpRead.sem {P : Program} {G : Nat → AV} {N : Nat} {o : Oper} {e : Env} {h : Heap} {v : AV} (r : OpRead P G o e h v) : OpSem P G N o e h (put e o.dst v) h := by
  intro base m S w a K Q hr hd hK
  obtain ⟨u, h1, h2⟩ := r base m S w a hr.hrel (fun x _ => hr.ev x)
  unfold Oper.wp
  rw [h1, Oper.upon_value]
  refine hK m S _ w (hr.put hd h2) (Ext.refl _ _ _ _) (Below.refl _ _) ?_
  cases o.dst <;> rfl
end Go.Vs

/- Types by their numbers; the operations that look at no object. -/
set_option linter.unusedVariables false
set_option linter.unusedSimpArgs false
namespace Go.Vs
open Go Go.RowKit

abbrev Lay := TypeId → Option Ty
def look : List (Nat × Ty) → Lay
  | [], _ => none
  | (i, t) :: r, j => bif Nat.beq j i then some t else look r j

def Ty.zero : Ty → List Value
  | .int k => [.int k 0]
  | .bool => [.bool false]
  | .str => [.string ByteArray.empty]
  | .sl _ => [.slice none 0 0]
  | .ptr _ => [.pointer none]
  | .nil => []
  | .cons a r => a.zero ++ r.zero
theorem Ty.zero_rep (w : World) (S : Foot) : ∀ t : Ty, Rep w S t t.dflt t.zero
  | .int _ => rfl
  | .bool => rfl
  | .str => ⟨rfl, by simp [Ty.dflt, lenMax]⟩
  | .sl _ => ⟨none, 0, rfl, by simp [Ty.dflt], by simp [Ty.dflt], fun j x hx => by simp [Ty.dflt] at hx⟩
  | .ptr _ => rfl
  | .nil => rfl
  | .cons a r => ⟨a.zero, r.zero, rfl, a.zero_rep w S, r.zero_rep w S⟩

def Inf (P : Program) (t : TypeId) (z : Value) (n : Nat) : Prop := ∃ i, P.info? t = some i ∧ i.zero = some z ∧ i.size = n ∧ 0 < i.bytes ∧ i.bytes ≤ 4096
def FldsOk (L : Lay) (t : Ty) (fs : List Field) : Prop := fs.length = t.nfld ∧ ∀ i f, fs[i]? = some f → f.offset = t.off i ∧ L f.type = some (t.fld i)
def Facts (P : Program) (L : Lay) (t : TypeId) : Ty → Prop
  | .int k => P.underlying t = some (.int k) ∧ Inf P t (.int k 0) 1
  | .bool => P.underlying t = some .bool ∧ Inf P t (.bool false) 1
  | .str => P.underlying t = some .string ∧ Inf P t (.string ByteArray.empty) 1
  | .sl t' => ∃ e, P.underlying t = some (.slice e) ∧ L e = some t' ∧ Inf P t (.slice none 0 0) 1
  | .ptr t' => ∃ e, P.underlying t = some (.pointer e) ∧ L e = some t' ∧ Inf P t (.pointer none) 1
  | .nil => False
  | .cons a r => ∃ fs, P.underlying t = some (.struct fs) ∧ FldsOk L (.cons a r) fs.toList ∧ Inf P t (.agg (Ty.zero (.cons a r)).toArray) (Ty.size (.cons a r))
def LayOk (P : Program) (L : Lay) : Prop := ∀ t ty, L t = some ty → Facts P L t ty
theorem look_ok {P : Program} {L : Lay} : ∀ {l : List (Nat × Ty)}, (∀ p ∈ l, Facts P L p.1 p.2) → ∀ t ty, look l t = some ty → Facts P L t ty
  | [], _, t, ty, h => by simp [look] at h
  | (i, t') :: r, hp, t, ty, h => by
    simp only [look] at h
    cases hb : Nat.beq t i with
    | true =>
      rw [hb] at h
      have := Nat.eq_of_beq_eq_true hb
      subst this
      simp only [cond_true, Option.some.injEq] at h
      subst h
      exact hp (t, t') List.mem_cons_self
    | false =>
      rw [hb] at h
      exact look_ok (fun p hp' => hp p (List.mem_cons_of_mem _ hp')) t ty h

/-! ### What a value of a kind is -/
section
variable {m : Lm} {S : Foot} {w : World} {h : Heap} {u : Value}
theorem RepA.int {k : IntKind} {n : Int} (r : RepA m S w h (.v (.int k) n) u) : u = .int k n := by
  obtain ⟨cs, h1, rfl⟩ := r; simp only [Rep] at h1; subst h1; rfl
theorem RepA.bool {b : Bool} (r : RepA m S w h (.v .bool b) u) : u = .bool b := by
  obtain ⟨cs, h1, rfl⟩ := r; simp only [Rep] at h1; subst h1; rfl
theorem RepA.str {s : ByteArray} (r : RepA m S w h (.v .str s) u) : u = .string s ∧ s.size ≤ lenMax := by
  obtain ⟨cs, h1, rfl⟩ := r; simp only [Rep] at h1; obtain ⟨rfl, h2⟩ := h1; exact ⟨rfl, h2⟩
theorem RepA.sl {t : Ty} {xs : List t.D} (r : RepA m S w h (.v (.sl t) xs) u) : ∃ A c, u = .slice A xs.length c ∧ xs.length ≤ c ∧ xs.length ≤ lenMax ∧
    ∀ j x, xs[j]? = some x → ∃ b o cs', A = some ⟨b, o, none⟩ ∧ Rep w S t x cs' ∧ ∀ i u, cs'[i]? = some u → CellAt w S b (o + (j * t.size + i)) u := by
  obtain ⟨cs, h1, rfl⟩ := r; simp only [Rep] at h1; obtain ⟨A, c, rfl, h2⟩ := h1; exact ⟨A, c, rfl, h2⟩
theorem RepA.ptr {t : Ty} {x : t.D} (r : RepA m S w h (.v (.ptr t) (some x)) u) : ∃ b o cs', u = .pointer (some ⟨b, o, none⟩) ∧ Rep w S t x cs' ∧ ∀ i u, cs'[i]? = some u → CellAt w S b (o + i) u := by
  obtain ⟨cs, h1, rfl⟩ := r; simp only [Rep] at h1; obtain ⟨b, o, cs', rfl, h2⟩ := h1; exact ⟨b, o, cs', rfl, h2⟩
theorem RepA.ptrNil {t : Ty} (r : RepA m S w h (.v (.ptr t) none) u) : u = .pointer none := by
  obtain ⟨cs, h1, rfl⟩ := r; simp only [Rep] at h1; subst h1; rfl
theorem RepA.ofInt (k : IntKind) (n : Int) : RepA m S w h (.v (.int k) n) (.int k n) := ⟨_, rfl, rfl⟩
theorem RepA.ofBool (b : Bool) : RepA m S w h (.v .bool b) (.bool b) := ⟨_, rfl, rfl⟩
theorem RepA.ofStr {s : ByteArray} (hs : s.size ≤ lenMax) : RepA m S w h (.v .str s) (.string s) := ⟨_, ⟨rfl, hs⟩, rfl⟩
end

/-! ### Operations on numbers, Bools, texts -/
def kEq : IntKind → IntKind → Bool
  | .i8, .i8 | .i16, .i16 | .i32, .i32 | .i64, .i64 | .u8, .u8 | .u16, .u16 | .u32, .u32 | .u64, .u64 => true
  | _, _ => false
theorem kEq_eq {a b : IntKind} (h : kEq a b = true) : a = b := by cases a <;> cases b <;> first | rfl | cases h
def bitsI (op : BinOp) (k : IntKind) (x y : Int) : Int :=
  let a := BitVec.ofInt k.bits x
  let b := BitVec.ofInt k.bits y
  match op with
  | .and => k.wrap (a &&& b).toNat
  | .or => k.wrap (a ||| b).toNat
  | .xor => k.wrap (a ^^^ b).toNat
  | _ => k.wrap (a &&& ~~~b).toNat
def binI (op : BinOp) (k : IntKind) (a b : Int) : Option AV :=
  match op with
  | .add => some (.v (.int k) (k.wrap (a + b)))
  | .sub => some (.v (.int k) (k.wrap (a - b)))
  | .mul => some (.v (.int k) (k.wrap (a * b)))
  | .and | .or | .xor | .andNot => some (.v (.int k) (bitsI op k a b))
  | .eql => some (.v .bool (a == b))
  | .neq => some (.v .bool (a != b))
  | .lss => some (.v .bool (decide (a < b)))
  | .leq => some (.v .bool (decide (a ≤ b)))
  | .gtr => some (.v .bool (decide (a > b)))
  | .geq => some (.v .bool (decide (a ≥ b)))
  | _ => none
def binS (op : BinOp) (a b : ByteArray) : Option AV :=
  match op with
  | .eql => some (.v .bool (a.toList == b.toList))
  | .neq => some (.v .bool (!(a.toList == b.toList)))
  | _ => none
/-- Pointers against nil; Bools. -/
def binE (op : BinOp) (t : Option Ty) (x y : AV) : Option AV :=
  match op, t, x, y with
  | .eql, some (.ptr _), .v (.ptr _) a, .nilp => some (.v .bool a.isNone)
  | .neq, some (.ptr _), .v (.ptr _) a, .nilp => some (.v .bool (!a.isNone))
  | .eql, some .bool, .v .bool a, .v .bool b => some (.v .bool (a == b))
  | .neq, some .bool, .v .bool a, .v .bool b => some (.v .bool (!(a == b)))
  | _, _, _, _ => none
def binA (L : Lay) (op : BinOp) (t : TypeId) (x y : AV) : Option AV :=
  match x, y with
  | .v (.int k) a, .v (.int k') b => bif kEq k k' then binI op k a b else none
  | .v .str a, .v .str b => binS op a b
  | x, y => binE op (L t) x y
def force (a : AV) : Option AV := match a with
  | .dead => none
  | .v t x => some (.v t x)
  | .nils => some .nils
  | .nilp => some .nilp
  | .rw n k => some (.rw n k)
  | .rp n i k => some (.rp n i k)
  | .bp n o => some (.bp n o)
  | .bs n => some (.bs n)
  | .vp t p => some (.vp t p)
  | .agg cs => some (.agg cs)
  | .tup cs => some (.tup cs)
  | .clo f cs => some (.clo f cs)
theorem force_eq {a v : AV} (h : force a = some v) : a = v := by cases a <;> simp_all [force]

section
variable {P : Program} {G : Nat → AV} {L : Lay} {e : Env} {h : Heap} {d : Option Tmp} {t : TypeId} {p : String} {af : Array Edge} {g : Option (Nat × Bool)} {v : AV}

theorem opMove {x : Operand} (hv : force (ev G e x) = some v) : OpRead P G ⟨d, .move x, t, p, af, g⟩ e h v := by
  intro base m S w a hr ho
  exact ⟨a.eval x, rfl, force_eq hv ▸ ho x (by simp [Op.operands])⟩
theorem opAssign {x : Operand} (hv : force (ev G e x) = some v) : OpRead P G ⟨d, .assign x, t, p, af, g⟩ e h v := by
  intro base m S w a hr ho
  exact ⟨a.eval x, rfl, force_eq hv ▸ ho x (by simp [Op.operands])⟩

def pickA (c a b : AV) : Option AV := match c with
  | .v .bool true => force a
  | .v .bool false => force b
  | _ => none
theorem opPick {c x y : Operand} (hv : pickA (ev G e c) (ev G e x) (ev G e y) = some v) : OpRead P G ⟨d, .pick c x y, t, p, af, g⟩ e h v := by
  intro base m S w a hr ho
  have hc := ho c (by simp [Op.operands])
  have hx := ho x (by simp [Op.operands])
  have hy := ho y (by simp [Op.operands])
  unfold pickA at hv
  split at hv
  · rename_i hce
    rw [hce] at hc
    refine ⟨a.eval x, ?_, force_eq hv ▸ hx⟩
    simp [execOp, hc.bool, asBool]
  · rename_i hce
    rw [hce] at hc
    refine ⟨a.eval y, ?_, force_eq hv ▸ hy⟩
    simp [execOp, hc.bool, asBool]
  · cases hv

theorem binI_run {op : BinOp} {k : IntKind} {x y : Int} {xt : TypeId} {xo yo : Operand} {m : Lm} {S : Foot} {w : World} (hv : binI op k x y = some v) :
    ∃ u, (do eqGuard op xt xo yo (.int k x) (.int k y); binOp op xt (.int k x) (.int k y)).run P w = .ok u w ∧ RepA m S w h v u := by
  unfold binI at hv
  split at hv <;> first
  | (simp at hv; done)
  | (simp only [Option.some.injEq] at hv; subst hv; refine ⟨_, ?_, RepA.ofInt _ _⟩; simp [eqGuard, binOp, Op.intArith, Op.intBits, Op.intCmp, bitsI]; done)
  | (simp only [Option.some.injEq] at hv; subst hv; refine ⟨_, ?_, RepA.ofBool _⟩; simp [eqGuard, binOp, Op.intArith, Op.intBits, Op.intCmp, bitsI]; done)
  | (simp only [Option.some.injEq] at hv; subst hv; refine ⟨_, ?_, RepA.ofBool _⟩; simp [eqGuard, binOp, Op.intArith, Op.intBits, Op.intCmp, bitsI]; rfl)

theorem run_eqNil {w : World} {xt e' : TypeId} (hu : P.underlying xt = some (.pointer e')) (q : Option Addr) : (Op.equal xt (.pointer q) (.pointer none)).run P w = .ok q.isNone w := by
  have key : ∀ d, (Op.equalIn (d + 1) xt (.pointer q) (.pointer none)).run P w = .ok q.isNone w := fun d => by cases q <;> simp [Op.equalIn, run_underlying hu]
  exact key 9999
theorem nilcmp {t : Ty} {x : Option t.D} {m : Lm} {S : Foot} {w : World} {u : Value} (r : RepA m S w h (.v (.ptr t) x) u) : ∃ q : Option Addr, u = .pointer q ∧ q.isNone = x.isNone := by
  cases x with
  | none => exact ⟨none, r.ptrNil, rfl⟩
  | some y => obtain ⟨b, o, cs', hq, _⟩ := r.ptr; exact ⟨_, hq, rfl⟩
theorem binE_run {op : BinOp} {xt : TypeId} {xo yo : Operand} {m : Lm} {S : Foot} {w : World} {X Y : AV} {ux uy : Value} (hL : LayOk P L)
    (hx : RepA m S w h X ux) (hy : RepA m S w h Y uy) (hv : binE op (L xt) X Y = some v) :
    ∃ u, (do eqGuard op xt xo yo ux uy; binOp op xt ux uy).run P w = .ok u w ∧ RepA m S w h v u := by
  unfold binE at hv
  split at hv
  · obtain ⟨q, hq⟩ : ∃ q, L xt = some (.ptr q) := ⟨_, by assumption⟩
    obtain ⟨e', hu, _⟩ := hL _ _ hq
    simp only [Option.some.injEq] at hv; subst hv
    simp only [RepA] at hy
    obtain ⟨q', rfl, hn⟩ := nilcmp hx
    subst hy
    refine ⟨_, ?_, RepA.ofBool _⟩
    rw [← hn]
    cases q' <;> simp [eqGuard, binOp, run_eqNil hu]
  · obtain ⟨q, hq⟩ : ∃ q, L xt = some (.ptr q) := ⟨_, by assumption⟩
    obtain ⟨e', hu, _⟩ := hL _ _ hq
    simp only [Option.some.injEq] at hv; subst hv
    simp only [RepA] at hy
    obtain ⟨q', rfl, hn⟩ := nilcmp hx
    subst hy
    refine ⟨_, ?_, RepA.ofBool _⟩
    rw [← hn]
    cases q' <;> simp [eqGuard, binOp, run_eqNil hu]
  · have hq : L xt = some .bool := by assumption
    obtain ⟨hu, _⟩ := hL _ _ hq
    simp only [Option.some.injEq] at hv; subst hv
    refine ⟨_, ?_, RepA.ofBool _⟩
    rw [hx.bool, hy.bool]
    simp [eqGuard, run_eql_bool w xt _ _ hu]
  · have hq : L xt = some .bool := by assumption
    obtain ⟨hu, _⟩ := hL _ _ hq
    simp only [Option.some.injEq] at hv; subst hv
    refine ⟨_, ?_, RepA.ofBool _⟩
    rw [hx.bool, hy.bool]
    simp [eqGuard, run_neq_bool w xt _ _ hu]
  · cases hv

theorem opBin {op : BinOp} {xt yt : TypeId} {x y : Operand} (hL : LayOk P L) (hv : binA L op xt (ev G e x) (ev G e y) = some v) : OpRead P G ⟨d, .binOp op xt x y yt, t, p, af, g⟩ e h v := by
  intro base m S w a hr ho
  have hx := ho x (by simp [Op.operands])
  have hy := ho y (by simp [Op.operands])
  suffices ∃ u, (do eqGuard op xt x y (a.eval x) (a.eval y); binOp op xt (a.eval x) (a.eval y)).run P w = .ok u w ∧ RepA m S w h v u by
    obtain ⟨u, h1, h2⟩ := this
    refine ⟨u, ?_, h2⟩
    simp only [execOp, Sem.run_bind, h1, Result.andThen_ok, Sem.run_pure]
  unfold binA at hv
  split at hv
  · rename_i k i k' j he1 he2
    rw [he1] at hx; rw [he2] at hy
    rw [hx.int, hy.int]
    cases hk : kEq k k' with
    | false => rw [hk] at hv; cases hv
    | true =>
      rw [hk] at hv
      obtain rfl := kEq_eq hk
      exact binI_run hv
  · rename_i s s' he1 he2
    rw [he1] at hx; rw [he2] at hy
    rw [hx.str.1, hy.str.1]
    unfold binS at hv
    split at hv <;> first
    | (simp at hv; done)
    | (simp only [Option.some.injEq] at hv; subst hv; refine ⟨_, ?_, RepA.ofBool _⟩; simp [eqGuard, binOp, Op.stringOp]; done)
  · exact binE_run hL hx hy hv
end
end Go.Vs

/- More operations that only read: lengths, fields, elements, loads, cuts. -/
set_option linter.unusedVariables false
set_option linter.unusedSimpArgs false
namespace Go.Vs
open Go Go.RowKit

theorem add_zero (b k : Nat) : (⟨b, 0, none⟩ : Addr).add k = ⟨b, k, none⟩ := by unfold Addr.add; split <;> simp_all
theorem add_at (b o k : Nat) : (⟨b, o, none⟩ : Addr).add k = ⟨b, o + k, none⟩ := by unfold Addr.add; split <;> simp_all

section
variable {P : Program} {L : Lay}
theorem Facts.inf {t : TypeId} {ty : Ty} (f : Facts P L t ty) : Inf P t (mkV ty ty.zero) ty.size := by
  cases ty with
  | int k => exact f.2
  | bool => exact f.2
  | str => exact f.2
  | sl t' => obtain ⟨e, _, _, h⟩ := f; exact h
  | ptr t' => obtain ⟨e, _, _, h⟩ := f; exact h
  | nil => exact f.elim
  | cons a r => obtain ⟨fs, _, _, h⟩ := f; exact h
theorem Facts.size {t : TypeId} {ty : Ty} (f : Facts P L t ty) (w : World) : (sizeOf t).run P w = .ok ty.size w := by
  obtain ⟨i, h1, h2, h3, _⟩ := f.inf
  simp [sizeOf, typeInfo, h1, h3]
theorem Facts.zeroV {t : TypeId} {ty : Ty} (f : Facts P L t ty) (w : World) : (zeroValue t).run P w = .ok (mkV ty ty.zero) w := by
  obtain ⟨i, h1, h2, h3, _⟩ := f.inf
  simp [zeroValue, typeInfo, h1, h2]
theorem Facts.agg {t : TypeId} {ty : Ty} (f : Facts P L t ty) (w : World) : (isAgg t).run P w = .ok ty.isS w := by
  cases ty with
  | int k => simp [isAgg, run_underlying f.1, Ty.isS]
  | bool => simp [isAgg, run_underlying f.1, Ty.isS]
  | str => simp [isAgg, run_underlying f.1, Ty.isS]
  | sl t' => obtain ⟨e, h, _⟩ := f; simp [isAgg, run_underlying h, Ty.isS]
  | ptr t' => obtain ⟨e, h, _⟩ := f; simp [isAgg, run_underlying h, Ty.isS]
  | nil => exact f.elim
  | cons a r => obtain ⟨fs, h, _⟩ := f; simp [isAgg, run_underlying h, Ty.isS]

/-- A variable of known cells is read. -/
theorem run_loadVar {t : TypeId} {ty : Ty} (f : Facts P L t ty) {w : World} {b o : Nat} {cs : List Value} (hl : cs.length = ty.size) (hc : ∀ i u, cs[i]? = some u → w.cell? ⟨b, o + i, none⟩ = some u) :
    (loadVar t ⟨b, o, none⟩).run P w = .ok (mkV ty cs) w := by
  unfold loadVar
  simp only [Sem.run_bind, f.agg, Result.andThen_ok]
  cases hs : ty.isS with
  | true =>
    have := run_loadCells_list (P := P) w ⟨b, o, none⟩ cs (fun j v hj => by rw [add_at]; exact hc j v hj)
    simp only [if_true, Sem.run_bind, f.size, Result.andThen_ok, ← hl, this, Sem.run_pure]
    simp [mkV, hs]
  | false =>
    have h1 : ty.size = 1 := by cases ty <;> first | rfl | cases hs
    obtain ⟨c, rfl⟩ : ∃ c, cs = [c] := List.length_eq_one_iff.1 (hl.trans h1)
    have := hc 0 c rfl
    simp only [Nat.add_zero] at this
    simp [mkV, hs, this]
end

section
variable {P : Program} {G : Nat → AV} {L : Lay} {e : Env} {h : Heap} {d : Option Tmp} {t : TypeId} {p : String} {af : Array Edge} {g : Option (Nat × Bool)} {v : AV}

def unA (op : UnOp) (x : AV) : Option AV := match op, x with
  | .not, .v .bool b => some (.v .bool (!b))
  | .neg, .v (.int k) n => some (.v (.int k) (k.wrap (0 - n)))
  | _, _ => none
theorem opUn {op : UnOp} {xt : TypeId} {x : Operand} (hv : unA op (ev G e x) = some v) : OpRead P G ⟨d, .unOp op xt x, t, p, af, g⟩ e h v := by
  intro base m S w a hr ho
  have hx := ho x (by simp [Op.operands])
  unfold unA at hv
  split at hv
  · rename_i b he
    rw [he] at hx
    simp only [Option.some.injEq] at hv; subst hv
    exact ⟨_, by simp [execOp, hx.bool, Op.unary], RepA.ofBool _⟩
  · rename_i k n he
    rw [he] at hx
    simp only [Option.some.injEq] at hv; subst hv
    exact ⟨_, by simp [execOp, hx.int, Op.unary, Op.intArith], RepA.ofInt _ _⟩
  · cases hv

/-- '/' and '%', the divisor not 0. -/
theorem opQuo {xt yt : TypeId} {x y : Operand} {k : IntKind} {i j : Int} (hx : ev G e x = .v (.int k) i) (hy : ev G e y = .v (.int k) j) (h0 : j ≠ 0) :
    OpRead P G ⟨d, .binOp .quo xt x y yt, t, p, af, g⟩ e h (.v (.int k) (k.wrap (i.tdiv j))) := by
  intro base m S w a hr ho
  have hx' := hx ▸ ho x (by simp [Op.operands])
  have hy' := hy ▸ ho y (by simp [Op.operands])
  exact ⟨_, by simp [execOp, hx'.int, hy'.int, eqGuard, binOp, Op.intDiv, h0], RepA.ofInt _ _⟩
theorem opRem {xt yt : TypeId} {x y : Operand} {k : IntKind} {i j : Int} (hx : ev G e x = .v (.int k) i) (hy : ev G e y = .v (.int k) j) (h0 : j ≠ 0) :
    OpRead P G ⟨d, .binOp .rem xt x y yt, t, p, af, g⟩ e h (.v (.int k) (i.tmod j)) := by
  intro base m S w a hr ho
  have hx' := hx ▸ ho x (by simp [Op.operands])
  have hy' := hy ▸ ho y (by simp [Op.operands])
  exact ⟨_, by simp [execOp, hx'.int, hy'.int, eqGuard, binOp, Op.intDiv, h0], RepA.ofInt _ _⟩
/-- Shifts, the count not negative. -/
theorem opShl {xt yt : TypeId} {x y : Operand} {k k' : IntKind} {i j : Int} (hx : ev G e x = .v (.int k) i) (hy : ev G e y = .v (.int k') j) (h0 : 0 ≤ j) :
    OpRead P G ⟨d, .binOp .shl xt x y yt, t, p, af, g⟩ e h (.v (.int k) (k.wrap (i * 2 ^ min j.toNat k.bits))) := by
  intro base m S w a hr ho
  have hx' := hx ▸ ho x (by simp [Op.operands])
  have hy' := hy ▸ ho y (by simp [Op.operands])
  exact ⟨_, by simp [execOp, hx'.int, hy'.int, eqGuard, binOp, Op.shift, show ¬ j < 0 by omega], RepA.ofInt _ _⟩
theorem opShr {xt yt : TypeId} {x y : Operand} {k k' : IntKind} {i j : Int} (hx : ev G e x = .v (.int k) i) (hy : ev G e y = .v (.int k') j) (h0 : 0 ≤ j) :
    OpRead P G ⟨d, .binOp .shr xt x y yt, t, p, af, g⟩ e h (.v (.int k) (i.fdiv (2 ^ min j.toNat k.bits))) := by
  intro base m S w a hr ho
  have hx' := hx ▸ ho x (by simp [Op.operands])
  have hy' := hy ▸ ho y (by simp [Op.operands])
  exact ⟨_, by simp [execOp, hx'.int, hy'.int, eqGuard, binOp, Op.shift, show ¬ j < 0 by omega], RepA.ofInt _ _⟩
/-- The value may be told otherwise. -/
theorem OpRead.asV {o : Oper} {v v' : AV} (r : OpRead P G o e h v) (he : v = v') : OpRead P G o e h v' := he ▸ r

/-! #### len -/
def lenA (x : AV) : Option AV := match x with
  | .v (.sl _) xs => some (.v (.int .i64) (xs.length : Int))
  | .v .str s => some (.v (.int .i64) (s.size : Int))
  | .nils => some (.v (.int .i64) 0)
  | _ => none
def isSlStr (t : Option Ty) (x : AV) : Bool := match t, x with
  | some .str, .v .str _ => true
  | some (.sl _), .v .str _ => false
  | some (.sl _), _ => true
  | _, _ => false
theorem opLen {x : Operand} {xt : TypeId} (hL : LayOk P L) (ht : isSlStr (L xt) (ev G e x) = true) (hv : lenA (ev G e x) = some v) :
    OpRead P G ⟨d, .call ⟨.builtin .len, #[x], #[xt]⟩, t, p, af, g⟩ e h v := by
  intro base m S w a hr ho
  have hx := ho x (by simp [Op.operands, Call.operands])
  have hL' := hL xt
  unfold lenA at hv
  split at hv
  · rename_i et xs he
    rw [he] at hx ht
    simp only [Option.some.injEq] at hv; subst hv
    obtain ⟨A, c, hu, _⟩ := hx.sl
    cases hq : L xt with
    | none => rw [hq] at ht; simp [isSlStr] at ht
    | some ty =>
      rw [hq] at ht
      cases ty <;> simp [isSlStr] at ht
      obtain ⟨e', hd, _⟩ := hL' _ hq
      exact ⟨_, by simp [execOp, resolve, invoke, builtin, Builtin.len_, hu, run_underlying hd, goInt], RepA.ofInt _ _⟩
  · rename_i s he
    rw [he] at hx ht
    simp only [Option.some.injEq] at hv; subst hv
    obtain ⟨hu, _⟩ := hx.str
    cases hq : L xt with
    | none => rw [hq] at ht; simp [isSlStr] at ht
    | some ty =>
      rw [hq] at ht
      cases ty <;> simp [isSlStr] at ht
      obtain ⟨hd, _⟩ := hL' _ hq
      exact ⟨_, by simp [execOp, resolve, invoke, builtin, Builtin.len_, hu, run_underlying hd, goInt], RepA.ofInt _ _⟩
  · rename_i he
    rw [he] at hx ht
    simp only [Option.some.injEq] at hv; subst hv
    simp only [RepA] at hx
    cases hq : L xt with
    | none => rw [hq] at ht; simp [isSlStr] at ht
    | some ty =>
      rw [hq] at ht
      cases ty <;> simp [isSlStr] at ht
      obtain ⟨e', hd, _⟩ := hL' _ hq
      exact ⟨_, by simp [execOp, resolve, invoke, builtin, Builtin.len_, hx, run_underlying hd, goInt], RepA.ofInt _ _⟩
  · cases hv

theorem sliceV_shape (l : Loc) (k : Nat) (hk : l.isnil = true → k = 0) : ∃ A c, sliceV l k = .slice A k c := by
  unfold sliceV
  cases hn : l.isnil with
  | true => have := hk hn; subst this; exact ⟨none, 0, rfl⟩
  | false => exact ⟨_, _, rfl⟩
/-- What is known of a row. -/
theorem HRel.row {base : Nat} {m : Lm} {S : Foot} {w : World} (r : HRel G base m S w h) {n : Nm} {fr : Bool} {ver : Nat} {ty : Ty} {et : TypeId} {xs : List ty.D} (hn : h n = .row fr ver ty et xs) : ObRel base m S w h n (.row fr ver ty et xs) := hn ▸ r.ob n
theorem HRel.boxAt {base : Nat} {m : Lm} {S : Foot} {w : World} (r : HRel G base m S w h) {n : Nm} {fr : Bool} {cs : List AV} (hn : h n = .box fr cs) : ObRel base m S w h n (.box fr cs) := hn ▸ r.ob n
theorem ObRel.nilEmpty {base : Nat} {m : Lm} {S : Foot} {w : World} {n : Nm} {fr : Bool} {ver : Nat} {ty : Ty} {et : TypeId} {xs : List ty.D} (r : ObRel base m S w h n (.row fr ver ty et xs)) (hn : (m n).isnil = true) : xs.length = 0 := by
  obtain ⟨inner, ho, _⟩ := r
  rcases ho.2 with ⟨_, h0⟩ | ⟨g, cap, cur, hv, _⟩
  · exact h0
  · simp [sliceV, hn] at hv

/-- len of a row. -/
theorem opLenRw {x : Operand} {xt : TypeId} {et : Ty} {n : Nm} {fr : Bool} {ver : Nat} {ty : Ty} {e' : TypeId} {xs : List ty.D} (hL : LayOk P L) (ht : L xt = some (.sl et)) (hx : ev G e x = .rw n ver) (hn : h n = .row fr ver ty e' xs) :
    OpRead P G ⟨d, .call ⟨.builtin .len, #[x], #[xt]⟩, t, p, af, g⟩ e h (.v (.int .i64) (xs.length : Int)) := by
  intro base m S w a hr ho
  have hx' := hx ▸ ho x (by simp [Op.operands, Call.operands])
  obtain ⟨fr', ver', t', e'', xs', h1, h2, h3⟩ := hx'
  rw [hn] at h1
  injection h1 with h1a h1v h1b h1c h1d
  subst h1b h1v
  have h1d := eq_of_heq h1d
  subst h1d
  obtain ⟨A, c, hs⟩ := sliceV_shape (m n) xs.length ((hr.row hn).nilEmpty)
  obtain ⟨e3, hd, _⟩ := hL xt _ ht
  exact ⟨_, by simp [execOp, resolve, invoke, builtin, Builtin.len_, h3 rfl, hs, run_underlying hd, goInt], RepA.ofInt _ _⟩

/-! #### parts of results; nil checks; function values -/
theorem opExtract {x : Operand} {k : Nat} {cs : List AV} (hx : ev G e x = .tup cs) (hv : (cs[k]?).bind force = some v) : OpRead P G ⟨d, .extract x k, t, p, af, g⟩ e h v := by
  intro base m S w a hr ho
  have hx' := hx ▸ ho x (by simp [Op.operands])
  obtain ⟨us, hu, hs⟩ := hx'
  cases hc : cs[k]? with
  | none => rw [hc] at hv; cases hv
  | some c =>
    rw [hc] at hv
    obtain rfl := force_eq hv
    obtain ⟨u, h1, h2⟩ := hs.get hc
    exact ⟨u, by simp [execOp, Instr.extract, hu, h1], h2⟩
def nonNil (x : AV) : Bool := match x with
  | .v (.ptr _) (some _) => true
  | .bp _ _ => true
  | .rp _ _ _ => false
  | _ => false
theorem opNilCheck {x : Operand} (hn : nonNil (ev G e x) = true) (hv : force (ev G e x) = some v) : OpRead P G ⟨d, .nilCheck x, t, p, af, g⟩ e h v := by
  intro base m S w a hr ho
  have hx := ho x (by simp [Op.operands])
  obtain rfl := force_eq hv
  refine ⟨a.eval x, ?_, hx⟩
  unfold nonNil at hn
  split at hn
  · rename_i he
    rw [he] at hx
    obtain ⟨b, o, cs', hu, _⟩ := hx.ptr
    simp [execOp, hu]
  · rename_i he
    rw [he] at hx
    obtain ⟨fr, cs, _, hu⟩ := hx
    simp [execOp, hu]
  · cases hn
  · cases hn

/-! #### addresses of fields and elements -/
theorem run_fieldAt {w : World} {s : TypeId} {ty : Ty} (hL : LayOk P L) (hs : L s = some ty) {f : Nat} (hf : f < ty.nfld) (hz : 0 < (ty.fld f).size) (b o : Nat) :
    (Instr.fieldAt s (.pointer (some ⟨b, o, none⟩)) f).run P w = .ok (.pointer (some ⟨b, o + ty.off f, none⟩)) w := by
  have hF := hL _ _ hs
  cases ty with
  | cons ta r =>
    obtain ⟨fs, hu, ⟨hl, hfl⟩, _⟩ := hF
    obtain ⟨fd, hfd⟩ : ∃ fd, fs[f]? = some fd := by
      have : f < fs.toList.length := by rw [hl]; exact hf
      exact ⟨fs[f]'(by simpa using this), by simp at this; simp [this]⟩
    obtain ⟨h1, h2⟩ := hfl f fd (by simpa using hfd)
    have h3 := (hL _ _ h2).size w
    simp only [Instr.fieldAt, Sem.run_bind, run_underlying hu, Result.andThen_ok, hfd, Instr.sureAddr, Sem.run_pure, fieldPlace, h3]
    rw [if_neg (by omega)]
    simp [h1, add_at]
  | _ => simp [Ty.nfld] at hf
/-- The address of a field of a struct that nothing will turn. -/
theorem opField {x : Operand} {s : TypeId} {f : Nat} {ty : Ty} {y : ty.D} (hL : LayOk P L) (hs : L s = some ty) (hx : ev G e x = .v (.ptr ty) (some y)) (hf : Nat.blt f ty.nfld = true) (hz : Nat.blt 0 (ty.fld f).size = true) :
    OpRead P G ⟨d, .fieldAddr s x f, t, p, af, g⟩ e h (.v (.ptr (ty.fld f)) (some (ty.fldv f y))) := by
  intro base m S w a hr ho
  have hx' := hx ▸ ho x (by simp [Op.operands])
  have hf' : f < ty.nfld := by simpa [Nat.blt_eq] using hf
  have hz' : 0 < (ty.fld f).size := by simpa [Nat.blt_eq] using hz
  obtain ⟨b, o, cs', hu, hrep, hc⟩ := hx'.ptr
  refine ⟨.pointer (some ⟨b, o + ty.off f, none⟩), ?_, ⟨_, ⟨b, o + ty.off f, _, rfl, hrep.fld f hf', fun i u hu' => ?_⟩, rfl⟩⟩
  · simp only [execOp, hu, Sem.run_bind, run_fieldAt hL hs hf' hz', Result.andThen_ok, Sem.run_pure]
  · rw [List.getElem?_take] at hu'
    split at hu'
    · rw [List.getElem?_drop] at hu'
      have := hc _ _ hu'
      rwa [← Nat.add_assoc] at this
    · cases hu'
theorem opFieldBox {x : Operand} {s : TypeId} {f : Nat} {ty : Ty} {n : Nm} {o : Nat} (hL : LayOk P L) (hs : L s = some ty) (hx : ev G e x = .bp n o) (hf : Nat.blt f ty.nfld = true) (hz : Nat.blt 0 (ty.fld f).size = true) :
    OpRead P G ⟨d, .fieldAddr s x f, t, p, af, g⟩ e h (.bp n (o + ty.off f)) := by
  intro base m S w a hr ho
  have hx' := hx ▸ ho x (by simp [Op.operands])
  have hf' : f < ty.nfld := by simpa [Nat.blt_eq] using hf
  have hz' : 0 < (ty.fld f).size := by simpa [Nat.blt_eq] using hz
  obtain ⟨fr, cs, hb, hu⟩ := hx'
  exact ⟨_, by simp only [execOp, hu, Sem.run_bind, run_fieldAt hL hs hf' hz', Result.andThen_ok, Sem.run_pure], ⟨fr, cs, hb, rfl⟩⟩

theorem run_indexAt {w : World} {xt et : TypeId} {ty : Ty} (hu : P.underlying xt = some (.slice et)) (hL : LayOk P L) (he : L et = some ty) {b o len c : Nat} {k : IntKind} {i : Int} (h0 : 0 ≤ i) (h1 : i < len) :
    (Instr.indexAt xt (.slice (some ⟨b, o, none⟩) len c) (.int k i)).run P w = .ok (.pointer (some ⟨b, o + i.toNat * ty.size, none⟩)) w := by
  simp only [Instr.indexAt, asIntOf, Sem.run_bind, Sem.run_pure, Result.andThen_ok, run_underlying hu]
  rw [if_pos ⟨h0, h1⟩]
  simp [(hL _ _ he).size, add_at]
theorem opIdx {x y : Operand} {xt : TypeId} {ty : Ty} {xs : List ty.D} {k : IntKind} {i : Int} (hL : LayOk P L) (ht : L xt = some (.sl ty)) (hx : ev G e x = .v (.sl ty) xs) (hy : ev G e y = .v (.int k) i)
    (h0 : 0 ≤ i) (h1 : i < xs.length) : OpRead P G ⟨d, .indexAddr xt x y, t, p, af, g⟩ e h (.v (.ptr ty) (some (xs.getD i.toNat ty.dflt))) := by
  intro base m S w a hr ho
  have hx' := hx ▸ ho x (by simp [Op.operands])
  have hy' := hy ▸ ho y (by simp [Op.operands])
  obtain ⟨A, c, hu, _, _, hel⟩ := hx'.sl
  obtain ⟨et, hd, he, _⟩ := hL _ _ ht
  have hlt : i.toNat < xs.length := by omega
  obtain ⟨b, o, cs', hA, hrep, hc⟩ := hel i.toNat _ (List.getElem?_eq_getElem hlt)
  subst hA
  have hg : xs.getD i.toNat ty.dflt = xs[i.toNat] := by simp [List.getD_eq_getElem?_getD, hlt]
  refine ⟨.pointer (some ⟨b, o + i.toNat * ty.size, none⟩), ?_, ⟨_, ⟨b, o + i.toNat * ty.size, cs', rfl, ?_, fun j u hu' => ?_⟩, rfl⟩⟩
  · simp only [execOp, hu, hy'.int, Sem.run_bind, run_indexAt hd hL he h0 h1, Result.andThen_ok, Sem.run_pure]
  · rw [hg]; exact hrep
  · have := hc j u hu'
    rwa [← Nat.add_assoc] at this
/-- An element's address, of a row. -/
theorem opIdxRw {x y : Operand} {xt : TypeId} {ty : Ty} {xs : List ty.D} {k : IntKind} {i : Int} {n : Nm} {fr : Bool} {ver : Nat} {e' : TypeId} (hL : LayOk P L) (ht : L xt = some (.sl ty)) (hx : ev G e x = .rw n ver) (hn : h n = .row fr ver ty e' xs) (hy : ev G e y = .v (.int k) i)
    (h0 : 0 ≤ i) (h1 : i < xs.length) : OpRead P G ⟨d, .indexAddr xt x y, t, p, af, g⟩ e h (.rp n i.toNat ver) := by
  intro base m S w a hr ho
  have hx' := hx ▸ ho x (by simp [Op.operands])
  have hy' := hy ▸ ho y (by simp [Op.operands])
  obtain ⟨fr', ver', t', e'', xs', hh, h2, h3⟩ := hx'
  rw [hn] at hh
  injection hh with h1a h1v h1b h1c h1d
  subst h1b h1v
  have h1d := eq_of_heq h1d
  subst h1d
  obtain ⟨et, hd, he, _⟩ := hL _ _ ht
  have hnn : (m n).isnil = false := by
    cases hq : (m n).isnil with
    | false => rfl
    | true => have := (hr.row hn).nilEmpty hq; omega
  refine ⟨.pointer (some ⟨(m n).blk, i.toNat * ty.size, none⟩), ?_, fr, ver, ty, e', xs, hn, Nat.le_refl _, fun _ => ⟨by omega, rfl⟩⟩
  have hs : a.eval x = .slice (some ⟨(m n).blk, 0, none⟩) xs.length (m n).cap := by rw [h3 rfl]; simp [sliceV, hnn]
  simp only [execOp, hs, hy'.int, Sem.run_bind, run_indexAt hd hL he h0 h1, Result.andThen_ok, Sem.run_pure, Nat.zero_add]

/-! #### loads -/
theorem opLoad {x : Operand} {xt : TypeId} {ty : Ty} {y : ty.D} (hL : LayOk P L) (ht : L xt = some ty) (hx : ev G e x = .v (.ptr ty) (some y)) : OpRead P G ⟨d, .load xt x, t, p, af, g⟩ e h (.v ty y) := by
  intro base m S w a hr ho
  have hx' := hx ▸ ho x (by simp [Op.operands])
  obtain ⟨b, o, cs', hu, hrep, hc⟩ := hx'.ptr
  refine ⟨mkV ty cs', ?_, ⟨cs', hrep, rfl⟩⟩
  simp only [execOp, hu, Instr.loadAt, Instr.sureAddr, Sem.run_bind, Sem.run_pure, Result.andThen_ok, run_loadVar (hL _ _ ht) hrep.len (fun i u hi => (hc i u hi).1)]
/-- The cells of a row's element. -/
theorem ObRel.elem {base : Nat} {m : Lm} {S : Foot} {w : World} {n : Nm} {fr : Bool} {ver : Nat} {ty : Ty} {et : TypeId} {xs : List ty.D} (r : ObRel base m S w h n (.row fr ver ty et xs)) {i : Nat} (hi : i < xs.length) :
    ∃ cs, Rep w S ty (xs.getD i ty.dflt) cs ∧ (m n).isnil = false ∧ ∀ j u, cs[j]? = some u → w.cell? ⟨(m n).blk, i * ty.size + j, none⟩ = some u := by
  have hnn : (m n).isnil = false := by
    cases hq : (m n).isnil with
    | false => rfl
    | true => have := r.nilEmpty hq; omega
  obtain ⟨inner, ho, hr, _⟩ := r
  have hg : xs.getD i ty.dflt = xs[i] := by simp [List.getD_eq_getElem?_getD, hi]
  refine ⟨(inner.drop (i * ty.size)).take ty.size, by rw [hg]; exact hr i _ (List.getElem?_eq_getElem hi), hnn, fun j u hu => ?_⟩
  rw [List.getElem?_take] at hu
  split at hu
  · rw [List.getElem?_drop] at hu
    have := ho.cells (g := (m n).blk) (by simp [sliceV, hnn, Value.ownBlock]) _ u hu
    rwa [add_zero] at this
  · cases hu
theorem opLoadRp {x : Operand} {xt : TypeId} {ty : Ty} {xs : List ty.D} {n : Nm} {fr : Bool} {ver : Nat} {e' : TypeId} {i : Nat} (hL : LayOk P L) (ht : L xt = some ty) (hx : ev G e x = .rp n i ver) (hn : h n = .row fr ver ty e' xs) :
    OpRead P G ⟨d, .load xt x, t, p, af, g⟩ e h (.v ty (xs.getD i ty.dflt)) := by
  intro base m S w a hr ho
  have hx' := hx ▸ ho x (by simp [Op.operands])
  obtain ⟨fr', ver', t', e'', xs', hh, h2, h3⟩ := hx'
  rw [hn] at hh
  injection hh with h1a h1v h1b h1c h1d
  subst h1b h1v
  have h1d := eq_of_heq h1d
  subst h1d
  obtain ⟨h0, h3⟩ := h3 rfl
  obtain ⟨cs, hrep, _, hc⟩ := (hr.row hn).elem h0
  refine ⟨mkV ty cs, ?_, ⟨cs, hrep, rfl⟩⟩
  simp only [execOp, h3, Instr.loadAt, Instr.sureAddr, Sem.run_bind, Sem.run_pure, Result.andThen_ok, run_loadVar (hL _ _ ht) hrep.len hc]

theorem RepAs.drop : ∀ {m : Lm} {S : Foot} {w : World} {cs : List AV} {us : List Value} (o : Nat), RepAs m S w h cs us → RepAs m S w h (cs.drop o) (us.drop o)
  | _, _, _, [], _, o, r => by simp only [RepAs] at r; subst r; simp [RepAs]
  | _, _, _, c :: cs, _, 0, r => by simpa using r
  | _, _, _, c :: cs, _, o + 1, r => by
    simp only [RepAs] at r
    obtain ⟨u, us', rfl, h1, h2⟩ := r
    simpa using h2.drop o
theorem RepAs.take : ∀ {m : Lm} {S : Foot} {w : World} {cs : List AV} {us : List Value} (o : Nat), RepAs m S w h cs us → RepAs m S w h (cs.take o) (us.take o)
  | _, _, _, [], _, o, r => by simp only [RepAs] at r; subst r; simp [RepAs]
  | _, _, _, c :: cs, _, 0, r => by simp [RepAs]
  | _, _, _, c :: cs, _, o + 1, r => by
    simp only [RepAs] at r
    obtain ⟨u, us', rfl, h1, h2⟩ := r
    simp only [List.take_succ_cons, RepAs]
    exact ⟨u, _, rfl, h1, h2.take o⟩
/-- What a variable's cells are, as a value. -/
def boxA (ty : Ty) (cs : List AV) (o : Nat) : Option AV :=
  match ty.isS with
  | true => bif Nat.ble (o + ty.size) cs.length then some (.agg ((cs.drop o).take ty.size)) else none
  | false => match cs.drop o with
    | c :: _ => force c
    | [] => none
theorem opLoadBp {x : Operand} {xt : TypeId} {ty : Ty} {n : Nm} {o : Nat} {fr : Bool} {cs : List AV} (hL : LayOk P L) (ht : L xt = some ty) (hx : ev G e x = .bp n o) (hn : h n = .box fr cs) (hv : boxA ty cs o = some v) :
    OpRead P G ⟨d, .load xt x, t, p, af, g⟩ e h v := by
  intro base m S w a hr ho
  have hx' := hx ▸ ho x (by simp [Op.operands])
  obtain ⟨fr', cs', hb, hu⟩ := hx'
  obtain ⟨hnn, hbase, us, tg, hheap, hrep, h1, hfr⟩ := hr.boxAt hn
  have hcell : ∀ j u, us[j]? = some u → w.cell? ⟨(m n).blk, j, none⟩ = some u := fun j u hj => by
    simp [World.cell?, hheap, hj]
  have hlen := hrep.len
  unfold boxA at hv
  split at hv
  · rename_i hs
    cases hle : Nat.ble (o + ty.size) cs.length with
    | false => rw [hle] at hv; cases hv
    | true =>
      rw [hle] at hv
      simp only [cond_true, Option.some.injEq] at hv
      subst hv
      have hle := Nat.le_of_ble_eq_true hle
      refine ⟨mkV ty ((us.drop o).take ty.size), ?_, ⟨(us.drop o).take ty.size, by simp [mkV, hs], (hrep.drop o).take _⟩⟩
      have := run_loadVar (hL _ _ ht) (w := w) (b := (m n).blk) (o := o) (cs := (us.drop o).take ty.size) (by simp; omega) (fun i u hi => by
        rw [List.getElem?_take] at hi
        split at hi
        · rw [List.getElem?_drop] at hi
          exact hcell _ _ hi
        · cases hi)
      simp only [execOp, hu, Instr.loadAt, Instr.sureAddr, Sem.run_bind, Sem.run_pure, Result.andThen_ok, this]
  · rename_i hs
    split at hv
    · rename_i c r hd
      obtain rfl := force_eq hv
      have hrd := hrep.drop o
      rw [hd] at hrd
      simp only [RepAs] at hrd
      obtain ⟨u, us', hus, hu1, _⟩ := hrd
      have h1' : ty.size = 1 := by cases ty <;> first | rfl | cases hs
      refine ⟨u, ?_, hu1⟩
      have := run_loadVar (hL _ _ ht) (w := w) (b := (m n).blk) (o := o) (cs := [u]) (by simp [h1']) (fun i u' hi => by
        cases i with
        | zero =>
          simp at hi; subst hi
          refine hcell _ _ ?_
          have : (us.drop o)[0]? = some u := by rw [hus]; rfl
          simpa [List.getElem?_drop] using this
        | succ i => simp at hi)
      simp only [execOp, hu, Instr.loadAt, Instr.sureAddr, Sem.run_bind, Sem.run_pure, Result.andThen_ok, this]
      simp [mkV, hs]
    · cases hv

/-! #### texts: a byte, a cut; cuts of slices -/
theorem opIndexStr {x y : Operand} {xt : TypeId} {s : ByteArray} {k : IntKind} {i : Int} (hL : LayOk P L) (ht : L xt = some .str) (hx : ev G e x = .v .str s) (hy : ev G e y = .v (.int k) i) (h0 : 0 ≤ i) (h1 : i < s.size) :
    OpRead P G ⟨d, .index xt x y, t, p, af, g⟩ e h (.v (.int .u8) ((s.data.getD i.toNat 0).toNat : Int)) := by
  intro base m S w a hr ho
  have hx' := hx ▸ ho x (by simp [Op.operands])
  have hy' := hy ▸ ho y (by simp [Op.operands])
  obtain ⟨hd, _⟩ := hL _ _ ht
  have hlt : i.toNat < s.size := by omega
  refine ⟨_, ?_, RepA.ofInt _ _⟩
  have hb : s[i.toNat]? = some (s.data.getD i.toNat 0) := by
    have h2 : i.toNat < s.data.size := hlt
    simp [getElem?_def, hlt, ByteArray.getElem_eq_getElem_data, h2]
  simp only [execOp, hx'.str.1, hy'.int, Instr.index, asIntOf, Sem.run_bind, Sem.run_pure, Result.andThen_ok, run_underlying hd, if_pos h0, hb]

theorem opConvInt {x : Operand} {st dt : TypeId} {k k' : IntKind} {i : Int} (hL : LayOk P L) (hs : L st = some (.int k)) (hd : L dt = some (.int k')) (hx : ev G e x = .v (.int k) i) :
    OpRead P G ⟨d, .convert st dt x, t, p, af, g⟩ e h (.v (.int k') (k'.wrap i)) := by
  intro base m S w a hr ho
  have hx' := hx ▸ ho x (by simp [Op.operands])
  exact ⟨_, by simp [execOp, hx'.int, convert, run_underlying (hL _ _ hs).1, run_underlying (hL _ _ hd).1, Conv.intToInt], RepA.ofInt _ _⟩

theorem opMakeFunc {f : Nat} {caps : Array Operand} {cs : List AV} (hv : caps.toList.map (ev G e) = cs) : OpRead P G ⟨d, .makeFunc (.func f) #[] caps, t, p, af, g⟩ e h (.clo f cs) := by
  intro base m S w a hr ho
  refine ⟨.func (.func f) #[] (caps.map a.eval), by simp [execOp, Instr.makeFunc], caps.toList.map a.eval, by rw [show (caps.toList.map a.eval).toArray = caps.map a.eval from by rw [← Array.toList_inj]; simp], ?_⟩
  subst hv
  have key : ∀ l : List Operand, (∀ x ∈ l, RepA m S w h (ev G e x) (a.eval x)) → RepAs m S w h (l.map (ev G e)) (l.map a.eval) := by
    intro l
    induction l with
    | nil => intro _; simp [RepAs]
    | cons x l ih => intro hl; exact ⟨a.eval x, l.map a.eval, rfl, hl x List.mem_cons_self, ih fun y hy => hl y (List.mem_cons_of_mem _ hy)⟩
  exact key caps.toList (fun x hx => ho x (by simpa [Op.operands] using hx))
end
end Go.Vs

/- Operations that lay objects or write them. -/
set_option linter.unusedVariables false
set_option linter.unusedSimpArgs false
namespace Go.Vs
open Go Go.RowKit

def nmEq : Nm → Nm → Bool
  | .own i, .own j => Nat.beq i j
  | .out n, .out n' => nmEq n n'
  | _, _ => false
theorem nmEq_iff : ∀ {n n' : Nm}, nmEq n n' = true ↔ n = n'
  | .own i, .own j => by simp [nmEq]
  | .out n, .out n' => by simp [nmEq, nmEq_iff (n := n) (n' := n')]
  | .own i, .out n => by simp [nmEq]
  | .out n, .own i => by simp [nmEq]
def hset (h : Heap) (n : Nm) (o : Ob) : Heap := fun j => bif nmEq j n then o else h j
theorem hset_same (h : Heap) (n : Nm) (o : Ob) : hset h n o n = o := by simp [hset, nmEq_iff.2 rfl]
theorem hset_ne (h : Heap) {n j : Nm} (o : Ob) (hne : j ≠ n) : hset h n o j = h j := by
  cases hb : nmEq j n with
  | true => exact absurd (nmEq_iff.1 hb) hne
  | false => simp [hset, hb]
open Classical in
noncomputable def mset (m : Lm) (n : Nm) (l : Loc) : Lm := fun j => if j = n then l else m j
theorem mset_same (m : Lm) (n : Nm) (l : Loc) : mset m n l n = l := by simp [mset]
theorem mset_ne (m : Lm) {n j : Nm} (l : Loc) (hne : j ≠ n) : mset m n l j = m j := by simp [mset, hne]

section
variable {G : Nat → AV} {base : Nat} {m m' : Lm} {S S' : Foot} {w w' : World} {h h' : Heap}

/-- An object that nothing happens to. -/
theorem ObRel.mono {n : Nm} (x : Ext m S w h m' S' w' h') (hm : m' n = m n) (hb : (m n).isnil = false → (m n).blk < w.heap.size → w'.heap[(m n).blk]? = w.heap[(m n).blk]?)
    (hS : (m n).isnil = false → (m n).blk < w.heap.size → ∀ o, S' (m n).blk o → S (m n).blk o) : ∀ {ob : Ob}, ObRel base m S w h n ob → ObRel base m' S' w' h' n ob
  | .none, _ => trivial
  | .box fr cs, r => by
    obtain ⟨h1, h2, us, ty, h3, h4, h5, h6, h7⟩ := r
    have hlt : (m n).blk < w.heap.size := (Array.getElem?_eq_some_iff.1 h3).1
    refine ⟨by rw [hm]; exact h1, by rw [hm]; exact h2, us, ty, by rw [hm, hb h1 hlt]; exact h3, h4.mono x, h5, fun hf o hs => ?_, fun hf o ho => ?_⟩
    · rw [hm] at hs; exact h6 hf o (hS h1 hlt o hs)
    · rw [hm]; exact x.foot _ _ (h7 hf o ho)
  | .row fr _ t e xs, r => by
    obtain ⟨inner, ho, hr, hmax, hf⟩ := r
    have hown : w'.ownsRow base e t.size (sliceV (m' n) xs.length) xs.length inner := by
      rw [hm]
      obtain ⟨h1, h2⟩ := ho
      refine ⟨h1, ?_⟩
      rcases h2 with h2 | ⟨g, cap, cur, hv, hg, hh, r⟩
      · exact .inl h2
      · refine .inr ⟨g, cap, cur, hv, hg, ?_, r⟩
        have hnn : (m n).isnil = false := by
          cases hq : (m n).isnil with
          | false => rfl
          | true => simp [sliceV, hq] at hv
        have hgb : g = (m n).blk := by simp [sliceV, hnn] at hv; exact hv.1.symm
        subst hgb
        rw [hb hnn (Array.getElem?_eq_some_iff.1 hh).1]
        exact hh
    refine ⟨inner, hown, fun j y hy => (hr j y hy).mono x.same x.foot, hmax, fun hnn => ?_⟩
    rw [hm] at hnn
    have hlt : (m n).blk < w.heap.size := by
      have := (ho.lt (m n).blk (by simp [sliceV, hnn, Value.ownBlock])).2
      exact this
    obtain ⟨h6, h7⟩ := hf hnn
    rw [hm]
    exact ⟨fun hfr o hs => h6 hfr o (hS hnn hlt o hs), fun hfr o ho => x.foot _ _ (h7 hfr o ho)⟩

theorem ObRel.blkLt {n : Nm} {ob : Ob} (r : ObRel base m S w h n ob) (hne : ob ≠ .none) (hnn : (m n).isnil = false) : base ≤ (m n).blk ∧ (m n).blk < w.heap.size := by
  cases ob with
  | none => exact absurd rfl hne
  | box fr cs => obtain ⟨h1, h2, us, ty, h3, _⟩ := r; exact ⟨h2, (Array.getElem?_eq_some_iff.1 h3).1⟩
  | row fr ver t e xs => obtain ⟨inner, ho, _⟩ := r; exact ho.lt (m n).blk (by simp [sliceV, hnn, Value.ownBlock])

theorem same_alloc (hf : ∀ b o, S b o → b < w.heap.size) (o : Obj) : Same S w (w.alloc o) := ⟨fun b k hs => World.cell?_alloc_lt w o ⟨b, k, none⟩ (hf b k hs)⟩

/-- A new object, in a new block. -/
theorem HRel.new (r : HRel G base m S w h) {n : Nm} (hn : h n = .none) {ob : Ob} (hne : ob ≠ .none) (cells : Array Value) (ty : TypeId) (cap : Nat)
    (hob : ∀ m' h', Ext m S w h m' S (w.alloc (.cells cells ty)) h' → m' n = ⟨w.heap.size, cap, false⟩ → h' n = ob → ObRel base m' S (w.alloc (.cells cells ty)) h' n ob) :
    ∃ m', HRel G base m' S (w.alloc (.cells cells ty)) (hset h n ob) ∧ Ext m S w h m' S (w.alloc (.cells cells ty)) (hset h n ob) ∧ m' n = ⟨w.heap.size, cap, false⟩ := by
  have hx : Ext m S w h (mset m n ⟨w.heap.size, cap, false⟩) S (w.alloc (.cells cells ty)) (hset h n ob) := by
    refine ⟨fun _ _ hs => hs, same_alloc r.foot _, fun n' fr ver t e xs hn' => ?_, fun n' fr cs hn' => ?_⟩
    · have hne' : n' ≠ n := fun he => by subst he; rw [hn] at hn'; cases hn'
      exact ⟨fr, ver, xs, by rw [hset_ne h ob hne']; exact hn', .inr ⟨rfl, rfl, mset_ne _ _ hne'⟩⟩
    · have hne' : n' ≠ n := fun he => by subst he; rw [hn] at hn'; cases hn'
      exact ⟨fr, cs, by rw [hset_ne h ob hne']; exact hn', mset_ne _ _ hne', rfl⟩
  refine ⟨mset m n ⟨w.heap.size, cap, false⟩, ?_, hx, mset_same _ _ _⟩
  · have hold : ∀ n', n' ≠ n → ObRel base (mset m n ⟨w.heap.size, cap, false⟩) S (w.alloc (.cells cells ty)) (hset h n ob) n' (h n') := fun n' hn' =>
      (r.ob n').mono hx (mset_ne _ _ hn') (fun _ hlt => Below.heap_alloc _ _ _ hlt) (fun _ _ o hs => hs)
    refine ⟨fun g => (r.glob g).mono hx, fun n' => ?_, fun n1 n2 h1 h2 h3 h4 h5 => ?_, fun b o hs => ?_, ?_⟩
    · by_cases hn' : n' = n
      · subst hn'
        rw [hset_same]
        exact hob _ _ hx (mset_same _ _ _) (hset_same _ _ _)
      · rw [hset_ne h ob hn']
        exact hold n' hn'
    · by_cases e1 : n1 = n <;> by_cases e2 : n2 = n
      · rw [e1, e2]
      · subst e1
        rw [hset_ne h ob e2] at h2
        rw [mset_same, mset_ne _ _ e2] at h5
        rw [mset_ne _ _ e2] at h4
        have := ((r.ob n2).blkLt h2 h4).2
        simp at h5; omega
      · subst e2
        rw [hset_ne h ob e1] at h1
        rw [mset_same, mset_ne _ _ e1] at h5
        rw [mset_ne _ _ e1] at h3
        have := ((r.ob n1).blkLt h1 h3).2
        simp at h5; omega
      · rw [hset_ne h ob e1] at h1
        rw [hset_ne h ob e2] at h2
        rw [mset_ne _ _ e1] at h3 h5
        rw [mset_ne _ _ e2] at h4 h5
        exact r.inj n1 n2 h1 h2 h3 h4 h5
    · have := r.foot b o hs
      simp; omega
    · have := r.base; simp; omega
end

/-! ### Cells of abstract values -/
def Ty.zeroA : Ty → List AV
  | .int k => [.v (.int k) 0]
  | .bool => [.v .bool false]
  | .str => [.v .str ByteArray.empty]
  | .sl _ => [.nils]
  | .ptr _ => [.nilp]
  | .nil => []
  | .cons a r => a.zeroA ++ r.zeroA
section
variable {m : Lm} {S : Foot} {w : World} {h : Heap}
theorem RepAs.append : ∀ {cs cs' : List AV} {us us' : List Value}, RepAs m S w h cs us → RepAs m S w h cs' us' → RepAs m S w h (cs ++ cs') (us ++ us')
  | [], _, _, _, r, r' => by simp only [RepAs] at r; subst r; simpa using r'
  | c :: cs, _, _, _, r, r' => by
    simp only [RepAs] at r
    obtain ⟨u, us1, rfl, h1, h2⟩ := r
    exact ⟨u, _, by simp, h1, h2.append r'⟩
theorem Ty.zeroA_rep : ∀ t : Ty, RepAs m S w h t.zeroA t.zero
  | .int k => ⟨_, [], rfl, RepA.ofInt _ _, rfl⟩
  | .bool => ⟨_, [], rfl, RepA.ofBool _, rfl⟩
  | .str => ⟨_, [], rfl, RepA.ofStr (by simp [lenMax]), rfl⟩
  | .sl _ => ⟨_, [], rfl, rfl, rfl⟩
  | .ptr _ => ⟨_, [], rfl, rfl, rfl⟩
  | .nil => rfl
  | .cons a r => RepAs.append a.zeroA_rep r.zeroA_rep
theorem Ty.zero_one (t : Ty) : ∀ u ∈ t.zero, u.oneCell' = true := (Ty.zero_rep default (fun _ _ => True) t).one
/-- The cells of a datum. -/
def flatA : (t : Ty) → t.D → List AV
  | .cons a r, x => flatA a x.1 ++ flatA r x.2
  | .nil, _ => []
  | .int k, x => [.v (.int k) x]
  | .bool, x => [.v .bool x]
  | .str, x => [.v .str x]
  | .sl t, x => [.v (.sl t) x]
  | .ptr t, x => [.v (.ptr t) x]
theorem flatA_rep : ∀ {t : Ty} {x : t.D} {cs : List Value}, Rep w S t x cs → RepAs m S w h (flatA t x) cs
  | .cons a r, x, _, hr => by
    simp only [Rep] at hr
    obtain ⟨c0, c1, rfl, h0, h1⟩ := hr
    exact (flatA_rep h0).append (flatA_rep h1)
  | .nil, _, _, hr => hr
  | .int k, x, _, hr => by
    obtain ⟨c, rfl⟩ : ∃ c, _ = [c] := List.length_eq_one_iff.1 hr.len
    exact ⟨c, [], rfl, ⟨[c], hr, rfl⟩, rfl⟩
  | .bool, x, _, hr => by
    obtain ⟨c, rfl⟩ : ∃ c, _ = [c] := List.length_eq_one_iff.1 hr.len
    exact ⟨c, [], rfl, ⟨[c], hr, rfl⟩, rfl⟩
  | .str, x, _, hr => by
    obtain ⟨c, rfl⟩ : ∃ c, _ = [c] := List.length_eq_one_iff.1 hr.len
    exact ⟨c, [], rfl, ⟨[c], hr, rfl⟩, rfl⟩
  | .sl _, x, _, hr => by
    obtain ⟨c, rfl⟩ : ∃ c, _ = [c] := List.length_eq_one_iff.1 hr.len
    exact ⟨c, [], rfl, ⟨[c], hr, rfl⟩, rfl⟩
  | .ptr _, x, _, hr => by
    obtain ⟨c, rfl⟩ : ∃ c, _ = [c] := List.length_eq_one_iff.1 hr.len
    exact ⟨c, [], rfl, ⟨[c], hr, rfl⟩, rfl⟩
/-- It fills one cell. -/
def OkA (h : Heap) : AV → Prop
  | .dead => False
  | .v t _ => t.isS = false
  | .vp t _ => t.isS = false
  | .rw n k => RowLen h n k
  | .rp n _ k => RowLen h n k
  | .agg _ => False
  | .tup _ => False
  | _ => True
theorem sliceV_one (l : Loc) (k : Nat) : (sliceV l k).oneCell' = true := by unfold sliceV; cases l.isnil <;> rfl
theorem okV_one {t : Ty} {x : t.D} {u : Value} (hs : t.isS = false) (r : RepV w S t x u) : u.oneCell' = true ∧ u.cells.toList = [u] := by
    obtain ⟨cs, hr, rfl⟩ := r
    have h1' : t.size = 1 := by cases t <;> first | rfl | cases hs
    obtain ⟨c, rfl⟩ : ∃ c, cs = [c] := List.length_eq_one_iff.1 (hr.len.trans h1')
    have h2 := hr.one c (by simp)
    have h3 := mkV_cells hr
    simp only [mkV, hs, cond_false, List.headD_cons] at h3 ⊢
    exact ⟨h2, h3⟩
theorem OkA.one {c : AV} {u : Value} (ok : OkA h c) (r : RepA m S w h c u) : u.oneCell' = true ∧ u.cells.toList = [u] := by
  cases c with
  | dead => exact ok.elim
  | v t x => exact okV_one ok r
  | nils => simp only [RepA] at r; subst r; exact ⟨rfl, rfl⟩
  | nilp => simp only [RepA] at r; subst r; exact ⟨rfl, rfl⟩
  | rw n k =>
    obtain ⟨fr, ver, t, e, xs, h1, h2, h3⟩ := r
    obtain ⟨fr', t', e', xs', h4⟩ := ok
    rw [h1] at h4
    injection h4 with _ hv hb _ hd
    rw [h3 hv.symm]
    refine ⟨sliceV_one _ _, ?_⟩
    unfold sliceV; cases (m n).isnil <;> rfl
  | rp n i k =>
    obtain ⟨fr, ver, t, e, xs, h1, h2, h3⟩ := r
    obtain ⟨fr', t', e', xs', h4⟩ := ok
    rw [h1] at h4
    injection h4 with _ hv hb _ hd
    rw [(h3 hv.symm).2]
    exact ⟨rfl, rfl⟩
  | bp n o => obtain ⟨fr, cs, _, rfl⟩ := r; exact ⟨rfl, rfl⟩
  | bs n => obtain ⟨fr, cs, _, rfl, _⟩ := r; exact ⟨rfl, rfl⟩
  | vp t p => obtain ⟨x, _, r⟩ := r; exact okV_one ok r
  | agg cs => exact ok.elim
  | tup cs => exact ok.elim
  | clo f cs => obtain ⟨us, rfl, _⟩ := r; exact ⟨rfl, rfl⟩
theorem OkA.ones : ∀ {cs : List AV} {us : List Value}, (∀ c ∈ cs, OkA h c) → RepAs m S w h cs us → ∀ u ∈ us, u.oneCell' = true
  | [], _, _, r, u, hu => by simp only [RepAs] at r; subst r; simp at hu
  | c :: cs, _, ok, r, u, hu => by
    simp only [RepAs] at r
    obtain ⟨u1, us1, rfl, h1, h2⟩ := r
    rcases List.mem_cons.1 hu with rfl | hu
    · exact ((ok c List.mem_cons_self).one h1).1
    · exact OkA.ones (fun c hc => ok c (List.mem_cons_of_mem _ hc)) h2 u hu
end

section
variable {P : Program} {G : Nat → AV} {L : Lay} {N : Nat} {e : Env} {h : Heap} {i : Nat} {t : TypeId} {p : String} {af : Array Edge} {g : Option (Nat × Bool)} {v : AV}

/-- A new box, whatever lays it. -/
theorem boxed {o : Oper} {cs : List AV} (hd : o.dst = some i) (hn : h (.own i) = .none)
    (hrun : ∀ (base : Nat) (m : Lm) (S : Foot) (w : World) (a : Act), Rel G N base m S e h a.tmps w → ∃ us ty, (execOp a.eval o).run P w = .ok (.value (.pointer (some ⟨w.heap.size, 0, none⟩))) (w.alloc (.cells us.toArray ty)) ∧ RepAs m S w h cs us ∧ (∀ u ∈ us, u.oneCell' = true)) :
    OpSem P G N o e h (put e (some i) (.bp (.own i) 0)) (hset h (.own i) (.box false cs)) := by
  intro base m S w a K Q hr hdst hK
  obtain ⟨us, ty, h1, h2, h3⟩ := hrun base m S w a hr
  obtain ⟨m', hr', hx, hm⟩ := hr.hrel.new hn (ob := .box false cs) (by simp) us.toArray ty 0 (fun m' h' hx hm hh => by
    refine ⟨by rw [hm], by rw [hm]; exact hr.hrel.base, us, ty, by rw [hm]; exact heap_alloc_new w _, h2.mono hx, h3, fun _ o hs => ?_, fun hf => by cases hf⟩
    rw [hm] at hs
    have := hr.hrel.foot _ _ hs
    simp at this)
  unfold Oper.wp
  rw [h1, Oper.upon_value, hd]
  refine hK m' S _ _ ((hr.step hx hr').put (by rw [hd] at hdst; exact hdst) ⟨false, cs, hset_same _ _ _, by rw [hm]⟩) hx ((Below.refl _ _).alloc hr.hrel.base _) rfl

theorem opAlloc {xt : TypeId} {ty : Ty} {ob : Ob} (hL : LayOk P L) (ht : L xt = some ty) (hn : h (.own i) = .none) (hob : ob = .box false ty.zeroA) :
    OpSem P G N ⟨some i, .alloc xt, t, p, af, g⟩ e h (put e (some i) (.bp (.own i) 0)) (hset h (.own i) ob) := by
  subst hob
  refine boxed rfl hn fun base m S w a hr => ⟨ty.zero, xt, ?_, ty.zeroA_rep, ty.zero_one⟩
  have hc : (mkV ty ty.zero).cells = ty.zero.toArray := by rw [← Array.toList_inj, mkV_cells (Ty.zero_rep w S ty)]
  simp [execOp, Instr.alloc, (hL _ _ ht).zeroV, newVar, newRow, newObj, hc]
  rfl
theorem opBoxV {xt : TypeId} {x : Operand} {ty : Ty} {y : ty.D} {ob : Ob} (hx : ev G e x = .v ty y) (hn : h (.own i) = .none) (hob : ob = .box false (flatA ty y)) :
    OpSem P G N ⟨some i, .box xt x, t, p, af, g⟩ e h (put e (some i) (.bp (.own i) 0)) (hset h (.own i) ob) := by
  subst hob
  refine boxed rfl hn fun base m S w a hr => ?_
  obtain ⟨cs, hrep, hu⟩ := hx ▸ hr.ev x
  refine ⟨cs, xt, ?_, flatA_rep hrep, hrep.one⟩
  have hc : (mkV ty cs).cells = cs.toArray := by rw [← Array.toList_inj, mkV_cells hrep]
  simp [execOp, Instr.box, hu, newVar, newRow, newObj, hc]
  rfl
theorem opBoxAgg {xt : TypeId} {x : Operand} {cs : List AV} {ob : Ob} (hx : ev G e x = .agg cs) (hok : ∀ c ∈ cs, OkA h c) (hn : h (.own i) = .none) (hob : ob = .box false cs) :
    OpSem P G N ⟨some i, .box xt x, t, p, af, g⟩ e h (put e (some i) (.bp (.own i) 0)) (hset h (.own i) ob) := by
  subst hob
  refine boxed rfl hn fun base m S w a hr => ?_
  obtain ⟨us, hu, hs⟩ := hx ▸ hr.ev x
  refine ⟨us, xt, ?_, hs, OkA.ones hok hs⟩
  simp [execOp, Instr.box, hu, newVar, newRow, newObj, Value.cells]
  rfl
theorem opBox1 {xt : TypeId} {x : Operand} {c : AV} {ob : Ob} (hx : ev G e x = c) (hok : OkA h c) (hn : h (.own i) = .none) (hob : ob = .box false [c]) :
    OpSem P G N ⟨some i, .box xt x, t, p, af, g⟩ e h (put e (some i) (.bp (.own i) 0)) (hset h (.own i) ob) := by
  subst hob
  refine boxed rfl hn fun base m S w a hr => ?_
  have hs := hx ▸ hr.ev x
  obtain ⟨h1, h2⟩ := hok.one hs
  refine ⟨[a.eval x], xt, ?_, ⟨_, [], rfl, hs, rfl⟩, by simpa using h1⟩
  have hc : (a.eval x).cells = #[a.eval x] := by rw [← Array.toList_inj, h2]
  simp [execOp, Instr.box, newVar, newRow, newObj, hc]
  rfl
end
end Go.Vs

/- Objects that are written, frozen, turned into data. -/
set_option linter.unusedVariables false
set_option linter.unusedSimpArgs false
namespace Go.Vs
open Go Go.RowKit

section
variable {G : Nat → AV} {base : Nat} {m m' : Lm} {S S' : Foot} {w w' : World} {h h' : Heap}

/-- An object is another one now; nothing else of what was there has been written. -/
theorem HRel.upd (r : HRel G base m S w h) {n : Nm} {ob' : Ob} {l : Loc} (hne : h n ≠ .none) (hne' : ob' ≠ .none) (hx : Ext m S w h (mset m n l) S' w' (hset h n ob'))
    (hb : ∀ k, k < w.heap.size → ((m n).isnil = false → k ≠ (m n).blk) → w'.heap[k]? = w.heap[k]?) (hsize : w.heap.size ≤ w'.heap.size)
    (hS : ∀ k o, k < w.heap.size → ((m n).isnil = false → k ≠ (m n).blk) → S' k o → S k o) (hfoot : ∀ k o, S' k o → k < w'.heap.size)
    (hl : l.isnil = false → ((m n).isnil = false ∧ l.blk = (m n).blk) ∨ w.heap.size ≤ l.blk)
    (hob : ObRel base (mset m n l) S' w' (hset h n ob') n ob') : HRel G base (mset m n l) S' w' (hset h n ob') := by
  have other : ∀ n', n' ≠ n → h n' ≠ .none → (m n').isnil = false → (m n').blk < w.heap.size ∧ ((m n).isnil = false → (m n').blk ≠ (m n).blk) := fun n' hn' hne2 hnn =>
    ⟨((r.ob n').blkLt hne2 hnn).2, fun hq he => hn' (r.inj n' n hne2 hne hnn hq he)⟩
  have hold : ∀ n', n' ≠ n → ObRel base (mset m n l) S' w' (hset h n ob') n' (h n') := fun n' hn' => by
    by_cases hz : h n' = .none
    · rw [hz]; trivial
    · exact (r.ob n').mono hx (mset_ne _ _ hn') (fun hnn _ => hb _ (other n' hn' hz hnn).1 (other n' hn' hz hnn).2) (fun hnn _ o hs => hS _ o (other n' hn' hz hnn).1 (other n' hn' hz hnn).2 hs)
  refine ⟨fun g => (r.glob g).mono hx, fun n' => ?_, fun n1 n2 h1 h2 h3 h4 h5 => ?_, hfoot, Nat.le_trans r.base hsize⟩
  · by_cases hn' : n' = n
    · subst hn'; rw [hset_same]; exact hob
    · rw [hset_ne h ob' hn']; exact hold n' hn'
  · by_cases e1 : n1 = n <;> by_cases e2 : n2 = n
    · rw [e1, e2]
    · subst e1
      rw [hset_ne h ob' e2] at h2
      rw [mset_same, mset_ne _ _ e2] at h5
      rw [mset_same] at h3
      rw [mset_ne _ _ e2] at h4
      have ho := other n2 e2 h2 h4
      rcases hl h3 with ⟨hq, hq2⟩ | hq
      · exact absurd (h5.symm.trans hq2) (ho.2 hq)
      · have := ho.1; omega
    · subst e2
      rw [hset_ne h ob' e1] at h1
      rw [mset_same, mset_ne _ _ e1] at h5
      rw [mset_same] at h4
      rw [mset_ne _ _ e1] at h3
      have ho := other n1 e1 h1 h3
      rcases hl h4 with ⟨hq, hq2⟩ | hq
      · exact absurd (h5.trans hq2) (ho.2 hq)
      · have := ho.1; omega
    · rw [hset_ne h ob' e1] at h1
      rw [hset_ne h ob' e2] at h2
      rw [mset_ne _ _ e1] at h3 h5
      rw [mset_ne _ _ e2] at h4 h5
      exact r.inj n1 n2 h1 h2 h3 h4 h5

theorem mset_self (m : Lm) (n : Nm) : mset m n (m n) = m := by funext j; unfold mset; split <;> simp_all

/-- The frozen object. -/
def frzO : Ob → Ob
  | .row _ ver t e xs => .row true ver t e xs
  | .box _ cs => .box true cs
  | .none => .none
def frzH (h : Heap) (n : Nm) : Heap := hset h n (frzO (h n))

def blkFoot (S : Foot) (b k : Nat) : Foot := fun b' o => S b' o ∨ (b' = b ∧ o < k)

theorem HRel.frz (r : HRel G base m S w h) {n : Nm} (hne : h n ≠ .none) {k : Nat} (hk : (m n).isnil = false → match h n with | .row _ _ t _ xs => k = xs.length * t.size | .box _ cs => k = cs.length | .none => True) (hnn : (m n).isnil = true → k = 0) :
    HRel G base m (blkFoot S (m n).blk k) w (frzH h n) ∧ Ext m S w h m (blkFoot S (m n).blk k) w (frzH h n) := by
  have hx : Ext m S w h m (blkFoot S (m n).blk k) w (frzH h n) := by
    refine ⟨fun _ _ hs => .inl hs, Same.refl _ _, fun n' fr ver t e xs hn' => ?_, fun n' fr cs hn' => ?_⟩
    · by_cases he : n' = n
      · subst he; exact ⟨true, ver, xs, by simp [frzH, hset_same, hn', frzO], .inr ⟨rfl, rfl, rfl⟩⟩
      · exact ⟨fr, ver, xs, by unfold frzH; rw [hset_ne _ _ he]; exact hn', .inr ⟨rfl, rfl, rfl⟩⟩
    · by_cases he : n' = n
      · subst he; exact ⟨true, cs, by simp [frzH, hset_same, hn', frzO], rfl, rfl⟩
      · exact ⟨fr, cs, by unfold frzH; rw [hset_ne _ _ he]; exact hn', rfl, rfl⟩
  refine ⟨?_, hx⟩
  have hm := mset_self m n
  have hx' : Ext m S w h (mset m n (m n)) (blkFoot S (m n).blk k) w (hset h n (frzO (h n))) := by rw [hm]; exact hx
  have := r.upd (ob' := frzO (h n)) (l := m n) (w' := w) (S' := blkFoot S (m n).blk k) hne (by cases hq : h n <;> simp_all [frzO]) hx' (fun _ _ _ => rfl) (Nat.le_refl _)
    (fun k' o _ hk' hs => by
      rcases hs with hs | ⟨he, ho⟩
      · exact hs
      · cases hq : (m n).isnil with
        | true => have := hnn hq; omega
        | false => exact absurd he (hk' hq))
    (fun k' o hs => by
      rcases hs with hs | ⟨he, ho⟩
      · exact r.foot _ _ hs
      · cases hq : (m n).isnil with
        | true => have := hnn hq; omega
        | false => rw [he]; exact ((r.ob n).blkLt hne hq).2)
    (fun hq => .inl ⟨hq, rfl⟩)
    (by
      rw [hm]
      have hob := r.ob n
      change ObRel base m (blkFoot S (m n).blk k) w (frzH h n) n (frzO (h n))
      cases hq : h n with
      | none => exact absurd hq hne
      | box fr cs =>
        rw [hq] at hob
        obtain ⟨h1, h2, us, ty, h3, h4, h5, h6, h7⟩ := hob
        have hk' := hk h1
        rw [hq] at hk'
        exact ⟨h1, h2, us, ty, h3, h4.mono hx, h5, (fun hf => (by cases hf)), (fun _ o ho => Or.inr ⟨rfl, (by rw [hk', ← h4.len]; exact ho)⟩)⟩
      | row fr ver t e xs =>
        rw [hq] at hob
        obtain ⟨inner, ho, hr, hmax, hf⟩ := hob
        refine ⟨inner, ho, fun j y hy => (hr j y hy).mono hx.same hx.foot, hmax, fun hz => ⟨fun hf => (by cases hf), fun _ o ho' => .inr ⟨rfl, ?_⟩⟩⟩
        have hk' := hk hz
        rw [hq] at hk'
        omega)
  rw [hm] at this
  exact this

/-! ### Data out of abstract values -/
def tyCast {t' t : Ty} (x : t'.D) (he : t' = t) : t.D := he ▸ x
def asI (k : IntKind) : AV → Option Int
  | .v (.int k') x => bif kEq k' k then some x else none
  | _ => none
def asB : AV → Option Bool
  | .v .bool x => some x
  | _ => none
def asS : AV → Option ByteArray
  | .v .str x => some x
  | _ => none
def asL (h : Heap) (t : Ty) : AV → Option (List t.D × Heap)
  | .v (.sl t') xs => if he : t' = t then some (tyCast (t' := .sl t') (t := .sl t) xs (by rw [he]), h) else none
  | .nils => some ([], h)
  | .rw n k => match h n with
      | .row _ ver t' _ xs => bif Nat.beq k ver then (if he : t' = t then some (tyCast (t' := .sl t') (t := .sl t) xs (by rw [he]), frzH h n) else none) else none
      | _ => none
  | _ => none
/-- The datum of type t whose cells these begin with; what it leads to is frozen. -/
def convC (h : Heap) : (t : Ty) → List AV → Option (t.D × List AV × Heap)
  | .int k, cs => match cs with
      | c :: r => (match asI k c with | some x => some (x, r, h) | none => none)
      | [] => none
  | .bool, cs => match cs with
      | c :: r => (match asB c with | some x => some (x, r, h) | none => none)
      | [] => none
  | .str, cs => match cs with
      | c :: r => (match asS c with | some x => some (x, r, h) | none => none)
      | [] => none
  | .sl t, cs => match cs with
      | c :: r => (match asL h t c with | some (x, h') => some (x, r, h') | none => none)
      | [] => none
  | .ptr t, cs => match cs with
      | [] => none
      | c :: r => match c with
        | .v (.ptr t') x => if he : t' = t then some (tyCast (t' := .ptr t') (t := .ptr t) x (by rw [he]), r, h) else none
        | .nilp => some ((none : Option t.D), r, h)
        | .bp n 0 => (match h n with
            | .box _ cs => (match convC h t cs with
                | some (x, [], h') => (match h' n with
                    | .box _ _ => some (some x, r, frzH h' n)
                    | _ => none)
                | _ => none)
            | _ => none)
        | _ => none
  | .nil, r => some ((), r, h)
  | .cons a b, r => match convC h a r with
      | some (x, r', h') => (match convC h' b r' with
          | some (y, r'', h'') => some ((x, y), r'', h'')
          | none => none)
      | none => none

theorem rep_row {n : Nm} {fr : Bool} {ver : Nat} {t : Ty} {e : TypeId} {xs : List t.D} (r : HRel G base m S w h) (hn : h n = .row fr ver t e xs) :
    ∃ S', HRel G base m S' w (frzH h n) ∧ Ext m S w h m S' w (frzH h n) ∧ Rep w S' (.sl t) xs [sliceV (m n) xs.length] := by
  have hob := r.row hn
  have hnil := hob.nilEmpty
  obtain ⟨hr', hx⟩ := r.frz (n := n) (k := xs.length * t.size) (by rw [hn]; simp) (fun _ => by rw [hn]) (fun hq => by rw [hnil hq]; simp)
  refine ⟨_, hr', hx, ?_⟩
  obtain ⟨inner, ho, hr, hmax, _⟩ := hob
  obtain ⟨A, c, hs⟩ := sliceV_shape (m n) xs.length hnil
  have hcap : xs.length ≤ c := by
    rcases ho.2 with ⟨_, h0⟩ | ⟨g, cap, cur, hv, _, _, hle, _⟩
    · omega
    · rw [hs] at hv; simp at hv; omega
  refine ⟨A, c, by rw [hs], hcap, hmax, fun j x hj => ?_⟩
  have hlt := (List.getElem?_eq_some_iff.1 hj).1
  obtain ⟨cs, hrep, hnn, hc⟩ := (r.row hn).elem hlt
  have hA : A = some ⟨(m n).blk, 0, none⟩ := by simp [sliceV, hnn] at hs; exact hs.1.symm
  refine ⟨(m n).blk, 0, cs, hA, ?_, fun i u hu => ⟨?_, .inr ⟨rfl, ?_⟩⟩⟩
  · have hg : xs.getD j t.dflt = x := by simp [List.getD_eq_getElem?_getD, hj]
    rw [← hg]; exact hrep.mono hx.same hx.foot
  · rw [Nat.zero_add]; exact hc i u hu
  · have h1 := (List.getElem?_eq_some_iff.1 hu).1
    rw [hrep.len] at h1
    have : (j + 1) * t.size ≤ xs.length * t.size := Nat.mul_le_mul_right _ hlt
    rw [Nat.succ_mul] at this
    omega

theorem rep_cast {t' t : Ty} (he : t' = t) {x : t'.D} {cs : List Value} (r : Rep w S t' x cs) : Rep w S t (tyCast x he) cs := by subst he; exact r

theorem convC_sound : ∀ (t : Ty) {S : Foot} {h h' : Heap} {cs cs' : List AV} {x : t.D} {us : List Value}, convC h t cs = some (x, cs', h') → HRel G base m S w h → RepAs m S w h cs us →
    ∃ S', HRel G base m S' w h' ∧ Ext m S w h m S' w h' ∧ ∃ us0 us1, us = us0 ++ us1 ∧ Rep w S' t x us0 ∧ RepAs m S' w h' cs' us1
  | .nil, S, h, h', cs, cs', x, us, hv, hr, rs => by
    simp only [convC, Option.some.injEq, Prod.mk.injEq] at hv
    obtain ⟨_, rfl, rfl⟩ := hv
    exact ⟨S, hr, Ext.refl _ _ _ _, [], us, rfl, rfl, rs⟩
  | .cons a b, S, h, h', cs, cs', x, us, hv, hr, rs => by
    simp only [convC] at hv
    split at hv
    · rename_i x1 r1 h1 he1
      split at hv
      · rename_i y2 r2 h2 he2
        simp only [Option.some.injEq, Prod.mk.injEq] at hv
        obtain ⟨rfl, rfl, rfl⟩ := hv
        obtain ⟨S1, hr1, hx1, us0, us1, rfl, hrep, rs1⟩ := convC_sound a he1 hr rs
        obtain ⟨S2, hr2, hx2, us2, us3, rfl, hrep2, rs3⟩ := convC_sound b he2 hr1 rs1
        exact ⟨S2, hr2, hx1.trans hx2, us0 ++ us2, us3, by simp, ⟨us0, us2, rfl, hrep.mono hx2.same hx2.foot, hrep2⟩, rs3⟩
      · cases hv
    · cases hv
  | .int k, S, h, h', cs, cs', x, us, hv, hr, rs => by
    simp only [convC] at hv
    split at hv
    · rename_i c r
      split at hv
      · rename_i x' hx'
        simp only [Option.some.injEq, Prod.mk.injEq] at hv
        obtain ⟨rfl, rfl, rfl⟩ := hv
        obtain ⟨u, us', rfl, h1, h2⟩ := rs
        unfold asI at hx'
        split at hx'
        · rename_i k' y
          cases hk : kEq k' k with
          | false => rw [hk] at hx'; cases hx'
          | true =>
            rw [hk] at hx'
            obtain rfl := kEq_eq hk
            simp only [cond_true, Option.some.injEq] at hx'
            subst hx'
            rw [h1.int]
            exact ⟨S, hr, Ext.refl _ _ _ _, [_], us', rfl, rfl, h2⟩
        · cases hx'
      · cases hv
    · cases hv
  | .bool, S, h, h', cs, cs', x, us, hv, hr, rs => by
    simp only [convC] at hv
    split at hv
    · rename_i c r
      split at hv
      · rename_i x' hx'
        simp only [Option.some.injEq, Prod.mk.injEq] at hv
        obtain ⟨rfl, rfl, rfl⟩ := hv
        obtain ⟨u, us', rfl, h1, h2⟩ := rs
        unfold asB at hx'
        split at hx'
        · simp only [Option.some.injEq] at hx'
          subst hx'
          rw [h1.bool]
          exact ⟨S, hr, Ext.refl _ _ _ _, [_], us', rfl, rfl, h2⟩
        · cases hx'
      · cases hv
    · cases hv
  | .str, S, h, h', cs, cs', x, us, hv, hr, rs => by
    simp only [convC] at hv
    split at hv
    · rename_i c r
      split at hv
      · rename_i x' hx'
        simp only [Option.some.injEq, Prod.mk.injEq] at hv
        obtain ⟨rfl, rfl, rfl⟩ := hv
        obtain ⟨u, us', rfl, h1, h2⟩ := rs
        unfold asS at hx'
        split at hx'
        · simp only [Option.some.injEq] at hx'
          subst hx'
          rw [h1.str.1]
          exact ⟨S, hr, Ext.refl _ _ _ _, [_], us', rfl, ⟨rfl, h1.str.2⟩, h2⟩
        · cases hx'
      · cases hv
    · cases hv
  | .sl t, S, h, h', cs, cs', x, us, hv, hr, rs => by
    simp only [convC] at hv
    split at hv
    · rename_i c r
      split at hv
      · rename_i x' h1' hx'
        simp only [Option.some.injEq, Prod.mk.injEq] at hv
        obtain ⟨rfl, rfl, rfl⟩ := hv
        obtain ⟨u, us', rfl, h1, h2⟩ := rs
        unfold asL at hx'
        split at hx'
        · rename_i t' xs
          split at hx'
          · rename_i he
            subst he
            simp only [Option.some.injEq, Prod.mk.injEq] at hx'
            obtain ⟨rfl, rfl⟩ := hx'
            obtain ⟨cs0, hrep, rfl⟩ := h1
            have hl := hrep.len
            obtain ⟨c0, rfl⟩ : ∃ c0, cs0 = [c0] := List.length_eq_one_iff.1 hl
            exact ⟨S, hr, Ext.refl _ _ _ _, [c0], us', rfl, hrep, h2⟩
          · cases hx'
        · simp only [Option.some.injEq, Prod.mk.injEq] at hx'
          obtain ⟨rfl, rfl⟩ := hx'
          simp only [RepA] at h1
          subst h1
          exact ⟨S, hr, Ext.refl _ _ _ _, [_], us', rfl, ⟨none, 0, rfl, by simp, by simp, fun j x hx => by simp at hx⟩, h2⟩
        · rename_i n k
          split at hx'
          · rename_i fr ver t' e xs hn
            cases hk : Nat.beq k ver with
            | false => rw [hk] at hx'; cases hx'
            | true =>
              rw [hk] at hx'
              simp only [cond_true] at hx'
              split at hx'
              · rename_i he
                subst he
                simp only [Option.some.injEq, Prod.mk.injEq] at hx'
                obtain ⟨rfl, rfl⟩ := hx'
                obtain ⟨S', hr', hx2, hrep⟩ := rep_row hr hn
                obtain ⟨fr2, ver2, t2, e2, xs2, hn2, h3, h4⟩ := h1
                rw [hn] at hn2
                injection hn2 with _ hv2 hb2 _ hd2
                subst hb2
                obtain rfl := eq_of_heq hd2
                have hu := h4 ((Nat.eq_of_beq_eq_true hk).trans hv2)
                subst hu
                exact ⟨S', hr', hx2, [_], us', rfl, hrep, h2.mono hx2⟩
              · cases hx'
          · cases hx'
        · cases hx'
      · cases hv
    · cases hv
  | .ptr t, S, h, h', cs, cs', x, us, hv, hr, rs => by
    simp only [convC] at hv
    split at hv
    · cases hv
    · rename_i c r
      obtain ⟨u, us', rfl, h1, h2⟩ := rs
      split at hv
      · rename_i t' y
        split at hv
        · rename_i he
          subst he
          simp only [Option.some.injEq, Prod.mk.injEq] at hv
          obtain ⟨rfl, rfl, rfl⟩ := hv
          obtain ⟨cs0, hrep, rfl⟩ := h1
          obtain ⟨c0, rfl⟩ : ∃ c0, cs0 = [c0] := List.length_eq_one_iff.1 hrep.len
          exact ⟨S, hr, Ext.refl _ _ _ _, [c0], us', rfl, hrep, h2⟩
        · cases hv
      · simp only [Option.some.injEq, Prod.mk.injEq] at hv
        obtain ⟨rfl, rfl, rfl⟩ := hv
        simp only [RepA] at h1
        subst h1
        exact ⟨S, hr, Ext.refl _ _ _ _, [_], us', rfl, rfl, h2⟩
      · rename_i n
        split at hv
        · rename_i fr cs1 hn
          split at hv
          · rename_i x1 h1' he1
            split at hv
            · rename_i fr2 cs2 hn2
              simp only [Option.some.injEq, Prod.mk.injEq] at hv
              obtain ⟨rfl, rfl, rfl⟩ := hv
              obtain ⟨hnn, _, vs, ty, hheap, hrepB, _, _, _⟩ := hr.boxAt hn
              obtain ⟨S1, hr1, hx1, us0, us1, hus, hrep, rs1⟩ := convC_sound t he1 hr hrepB
              simp only [RepAs] at rs1
              subst rs1
              simp only [List.append_nil] at hus
              subst hus
              obtain ⟨hnn2, _, vs2, ty2, hheap2, hrepB2, _, _, _⟩ := hr1.boxAt hn2
              have hvs : vs2 = vs := by
                rw [hheap] at hheap2
                simp at hheap2
                exact hheap2.1.symm
              subst hvs
              obtain ⟨hr2, hx2⟩ := hr1.frz (n := n) (k := cs2.length) (by rw [hn2]; simp) (fun _ => by rw [hn2]) (fun hq => by rw [hnn2] at hq; cases hq)
              obtain ⟨fr3, cs3, hn3, hu⟩ := h1
              subst hu
              refine ⟨_, hr2, hx1.trans hx2, [_], us', rfl, ⟨(m n).blk, 0, vs2, rfl, hrep.mono hx2.same hx2.foot, fun i u hi => ⟨?_, .inr ⟨rfl, ?_⟩⟩⟩, h2.mono (hx1.trans hx2)⟩
              · rw [Nat.zero_add]
                simp [World.cell?, hheap, hi]
              · have := (List.getElem?_eq_some_iff.1 hi).1
                rw [← hrepB2.len]; omega
            · cases hv
          · cases hv
        · cases hv
      · cases hv
end
end Go.Vs

/- Stores; rows made, filled, appended to. -/
set_option linter.unusedVariables false
set_option linter.unusedSimpArgs false
namespace Go.Vs
open Go Go.RowKit

section
variable {P : Program} {w : World}
def spliceV (cells : List Value) (i : Nat) (us : List Value) : List Value := cells.take i ++ us ++ cells.drop (i + us.length)
theorem run_storeCells : ∀ (us : List Value) (k : Nat) (w : World) (b o : Nat) (cells : List Value) (ty : TypeId), w.heap[b]? = some (.cells cells.toArray ty (0, 0)) → o + k + us.length ≤ cells.length → (∀ u ∈ us, u.oneCell' = true) →
    ∃ w', (storeCells ⟨b, o, none⟩ us k).run P w = .ok () w' ∧ w'.heap[b]? = some (.cells (spliceV cells (o + k) us).toArray ty (0, 0)) ∧ (∀ j, j ≠ b → w'.heap[j]? = w.heap[j]?) ∧ w'.heap.size = w.heap.size ∧
      w'.os = w.os ∧ w'.tape = w.tape ∧ w'.output = w.output
  | [], k, w, b, o, cells, ty, hh, _, _ => ⟨w, by simp [storeCells], by simp [spliceV, hh], fun _ _ => rfl, rfl, rfl, rfl, rfl⟩
  | u :: us, k, w, b, o, cells, ty, hh, hl, h1 => by
    have hlt : o + k < cells.length := by simp at hl; omega
    have hcell : w.cell? ((⟨b, o, none⟩ : Addr).add k) = some cells[o + k] := by
      rw [add_at]; simp [World.cell?, hh, hlt]
    have hfr : w.frozen? ((⟨b, o, none⟩ : Addr).add k) = false := by
      rw [add_at]; simp [World.frozen?, hh]
    have hst : (store ((⟨b, o, none⟩ : Addr).add k) u).run P w = .ok () (w.setCell ⟨b, o + k, none⟩ u) := by
      rw [run_store P w _ u .plain (h1 u List.mem_cons_self), hcell, hfr]
      simp [add_at]
    have hh' : (w.setCell ⟨b, o + k, none⟩ u).heap[b]? = some (.cells (cells.set (o + k) u).toArray ty (0, 0)) := by
      simp [World.setCell, Array.getElem?_modify, hh]
    obtain ⟨w', hr, hb, ho, hs, h2, h3, h4⟩ := run_storeCells us (k + 1) (w.setCell ⟨b, o + k, none⟩ u) b o (cells.set (o + k) u) ty hh' (by simp at hl ⊢; omega) (fun x hx => h1 x (List.mem_cons_of_mem _ hx))
    refine ⟨w', ?_, ?_, fun j hj => (ho j hj).trans (Below.heap_setCell w _ u j hj), by rw [hs]; simp [World.setCell], h2, h3, h4⟩
    · simp only [storeCells, Sem.run_bind, hst, Result.andThen_ok]
      exact hr
    · rw [hb]
      congr 3
      simp only [spliceV]
      apply List.ext_getElem?
      intro j
      have hl' : o + k + 1 + us.length ≤ cells.length := by simp at hl; omega
      rw [show o + (k + 1) = o + k + 1 by omega]
      simp only [List.getElem?_append, List.getElem?_take, List.getElem?_drop, List.length_append, List.length_take, List.length_set, List.getElem?_set, List.length_cons, List.getElem?_cons]
      have e1 : min (o + k + 1) cells.length = o + k + 1 := by omega
      have e2 : min (o + k) cells.length = o + k := by omega
      rw [e1, e2]
      by_cases c1 : j < o + k
      · have : j < o + k + 1 + us.length := by omega
        have : j < o + k + (us.length + 1) := by omega
        simp [*, show j < o + k + 1 by omega, show ¬ (o + k = j) by omega]
      · by_cases c2 : j = o + k
        · subst c2
          simp [show o + k < o + k + 1 + us.length by omega, show o + k < o + k + 1 by omega, hlt, show o + k < o + k + (us.length + 1) by omega]
        · by_cases c3 : j < o + k + 1 + us.length
          · simp [c1, c3, show ¬ j < o + k + 1 by omega, show j < o + k + (us.length + 1) by omega, show ¬ j - (o + k) = 0 by omega, show j - (o + k) - 1 = j - (o + k + 1) by omega]
          · simp [c1, c3, show ¬ j < o + k + 1 by omega, show ¬ j < o + k + (us.length + 1) by omega, show ¬ (o + k = o + k + 1 + us.length + (j - (o + k + 1 + us.length))) by omega]
            congr 1
            omega
end

/-! ### A datum out of a value -/
def convA (h : Heap) (t : Ty) (a : AV) : Option (t.D × Heap) := match a with
  | .v t' x => if he : t' = t then some (tyCast x he, h) else none
  | .agg cs => bif t.isS then (match convC h t cs with | some (x, [], h') => some (x, h') | _ => none) else none
  | c => bif t.isS then none else (match convC h t [c] with | some (x, [], h') => some (x, h') | _ => none)
section
variable {G : Nat → AV} {base : Nat} {m : Lm} {S : Foot} {w : World} {h h' : Heap}
theorem convA_sound {t : Ty} {a : AV} {u : Value} {x : t.D} (hv : convA h t a = some (x, h')) (hr : HRel G base m S w h) (r : RepA m S w h a u) :
    ∃ S', HRel G base m S' w h' ∧ Ext m S w h m S' w h' ∧ RepV w S' t x u := by
  have one : ∀ {c : AV}, (bif t.isS then none else (match convC h t [c] with | some (x, [], h') => some (x, h') | _ => none)) = some (x, h') → RepA m S w h c u →
      ∃ S', HRel G base m S' w h' ∧ Ext m S w h m S' w h' ∧ RepV w S' t x u := by
    intro c hv r
    cases hs : t.isS with
    | true => rw [hs] at hv; cases hv
    | false =>
      rw [hs] at hv
      simp only [cond_false] at hv
      split at hv
      · rename_i x' h'' he
        simp only [Option.some.injEq, Prod.mk.injEq] at hv
        obtain ⟨rfl, rfl⟩ := hv
        obtain ⟨S', hr', hx, us0, us1, hus, hrep, rs⟩ := convC_sound t (us := [u]) he hr ⟨u, [], rfl, r, rfl⟩
        simp only [RepAs] at rs
        subst rs
        simp only [List.append_nil] at hus
        subst hus
        exact ⟨S', hr', hx, [u], hrep, by simp [mkV, hs]⟩
      · cases hv
  cases a with
  | v t' y =>
    simp only [convA] at hv
    split at hv
    · rename_i he
      subst he
      simp only [Option.some.injEq, Prod.mk.injEq] at hv
      obtain ⟨rfl, rfl⟩ := hv
      exact ⟨S, hr, Ext.refl _ _ _ _, r⟩
    · cases hv
  | agg cs =>
    simp only [convA] at hv
    cases hs : t.isS with
    | false => rw [hs] at hv; cases hv
    | true =>
      rw [hs] at hv
      simp only [cond_true] at hv
      split at hv
      · rename_i x' h'' he
        simp only [Option.some.injEq, Prod.mk.injEq] at hv
        obtain ⟨rfl, rfl⟩ := hv
        obtain ⟨us, rfl, rs⟩ := r
        obtain ⟨S', hr', hx, us0, us1, hus, hrep, rs'⟩ := convC_sound t he hr rs
        simp only [RepAs] at rs'
        subst rs'
        simp only [List.append_nil] at hus
        subst hus
        exact ⟨S', hr', hx, us, hrep, by simp [mkV, hs]⟩
      · cases hv
  | dead => exact one hv r
  | nils => exact one hv r
  | nilp => exact one hv r
  | rw n k => exact one hv r
  | rp n i k => exact one hv r
  | bp n o => exact one hv r
  | bs n => exact one hv r
  | vp t p => exact one hv r
  | tup cs => exact one hv r
  | clo f cs => exact one hv r
end

/-! ### Stores -/
/-- A value's cells. -/
def cellsA : AV → Option (List AV)
  | .v t x => some (flatA t x)
  | .nils => some [.nils]
  | .nilp => some [.nilp]
  | .rw n k => some [.rw n k]
  | .bp n o => some [.bp n o]
  | .bs n => some [.bs n]
  | .vp t p => some [.vp t p]
  | .clo f cs => some [.clo f cs]
  | .agg cs => some cs
  | _ => none
def spliceA : List AV → Nat → List AV → List AV
  | cs, 0, [] => cs
  | _ :: cs, 0, v :: vs => v :: spliceA cs 0 vs
  | c :: cs, o + 1, vs => c :: spliceA cs o vs
  | [], _, _ => []
def withF {β : Type} (a : AV) (K : AV → β) : β := match a with
  | .dead => K .dead
  | .v t x => K (.v t x)
  | .nils => K .nils
  | .nilp => K .nilp
  | .rw n k => K (.rw n k)
  | .rp n i k => K (.rp n i k)
  | .bp n o => K (.bp n o)
  | .bs n => K (.bs n)
  | .vp t p => K (.vp t p)
  | .agg cs => K (.agg cs)
  | .tup cs => K (.tup cs)
  | .clo f cs => K (.clo f cs)
theorem withF_eq {β : Type} (a : AV) (K : AV → β) : withF a K = K a := by cases a <;> rfl
def forceL : List AV → Option (List AV)
  | [] => some []
  | c :: cs => withF c fun c' => match forceL cs with
      | some r => some (c' :: r)
      | none => none
theorem forceL_eq : ∀ {cs r : List AV}, forceL cs = some r → cs = r
  | [], _, h => by simpa [forceL] using h
  | c :: cs, r, h => by
    simp only [forceL, withF_eq] at h
    split at h
    · rename_i r' he
      simp only [Option.some.injEq] at h
      subst h
      rw [forceL_eq he]
    · cases h

theorem spliceA_len : ∀ {cs : List AV} {o : Nat} {vs : List AV}, o + vs.length ≤ cs.length → (spliceA cs o vs).length = cs.length
  | cs, 0, [], _ => by simp [spliceA]
  | [], o, v :: vs, hl => by simp at hl
  | [], o + 1, [], hl => by simp at hl
  | c :: cs, 0, v :: vs, hl => by
    simp only [spliceA, List.length_cons]
    rw [spliceA_len (by simp at hl ⊢; omega)]
  | c :: cs, o + 1, vs, hl => by
    simp only [spliceA, List.length_cons]
    rw [spliceA_len (by simp at hl ⊢; omega)]
theorem spliceA_rep {m : Lm} {S : Foot} {w : World} {h : Heap} : ∀ {cs : List AV} {us : List Value} {o : Nat} {vs : List AV} {ws : List Value}, RepAs m S w h cs us → RepAs m S w h vs ws → o + vs.length ≤ cs.length → RepAs m S w h (spliceA cs o vs) (spliceV us o ws)
  | cs, us, 0, [], ws, r, rv, hl => by
    simp only [RepAs] at rv; subst rv
    simp only [spliceA, spliceV]
    simpa using r
  | [], us, o, v :: vs, ws, r, rv, hl => by simp at hl
  | [], us, o + 1, [], ws, r, rv, hl => by simp at hl
  | c :: cs, us, 0, v :: vs, ws, r, rv, hl => by
    obtain ⟨u, us', rfl, h1, h2⟩ := r
    obtain ⟨x, ws', rfl, h3, h4⟩ := rv
    have := spliceA_rep (o := 0) h2 h4 (by simp at hl ⊢; omega)
    simp only [spliceA, RepAs]
    exact ⟨x, spliceV us' 0 ws', by simp [spliceV], h3, this⟩
  | c :: cs, us, o + 1, vs, ws, r, rv, hl => by
    obtain ⟨u, us', rfl, h1, h2⟩ := r
    have := spliceA_rep (o := o) h2 rv (by simp at hl ⊢; omega)
    simp only [spliceA, RepAs]
    exact ⟨u, spliceV us' o ws, by simp [spliceV, Nat.add_right_comm o 1], h1, this⟩

section
variable {P : Program} {G : Nat → AV} {L : Lay} {N : Nat} {e : Env} {h : Heap} {d : Option Tmp} {t : TypeId} {p : String} {af : Array Edge} {g : Option (Nat × Bool)} {v : AV}

/-- A store into a box. -/
theorem opStore {xt : TypeId} {x y : Operand} {ty : Ty} {n : Nm} {o : Nat} {cs vs cs' : List AV} (hL : LayOk P L) (ht : L xt = some ty) (hx : ev G e x = .bp n o) (hn : h n = .box false cs)
    (hy : cellsA (ev G e y) = some vs) (hok : ∀ c ∈ vs, OkA h c) (hl : Nat.beq vs.length ty.size = true) (hle : Nat.ble (o + vs.length) cs.length = true) (hc : forceL (spliceA cs o vs) = some cs') :
    OpSem P G N ⟨none, .store xt x y, t, p, af, g⟩ e h e (hset h n (.box false cs')) := by
  intro base m S w a K Q hr hdst hK
  obtain rfl := forceL_eq hc
  have hl := Nat.eq_of_beq_eq_true hl
  have hle := Nat.le_of_ble_eq_true hle
  obtain ⟨fr', cs0, hb0, hu⟩ := hx ▸ hr.ev x
  obtain ⟨hnn, hbase, us, tg, hheap, hrep, h1, hnS, _⟩ := hr.hrel.boxAt hn
  -- the value's cells
  have hyv : ∃ ws, (a.eval y).cells.toList = ws ∧ RepAs m S w h vs ws ∧ ∀ u ∈ ws, u.oneCell' = true := by
    have ry := hr.ev y
    generalize ev G e y = q at hy ry
    cases q with
    | v ty' y' =>
      simp only [cellsA, Option.some.injEq] at hy; subst hy
      obtain ⟨cs1, hrp, hq⟩ := ry
      exact ⟨cs1, by rw [hq, mkV_cells hrp], flatA_rep hrp, hrp.one⟩
    | agg cs1 =>
      simp only [cellsA, Option.some.injEq] at hy; subst hy
      obtain ⟨us1, hq, hs⟩ := ry
      exact ⟨us1, by rw [hq]; simp [Value.cells], hs, OkA.ones hok hs⟩
    | dead => simp [cellsA] at hy
    | tup _ => simp [cellsA] at hy
    | rp _ _ _ => simp [cellsA] at hy
    | nils => simp only [cellsA, Option.some.injEq] at hy; subst hy; have ok := (hok _ List.mem_cons_self).one ry; exact ⟨_, ok.2, ⟨_, [], rfl, ry, rfl⟩, by simpa using ok.1⟩
    | nilp => simp only [cellsA, Option.some.injEq] at hy; subst hy; have ok := (hok _ List.mem_cons_self).one ry; exact ⟨_, ok.2, ⟨_, [], rfl, ry, rfl⟩, by simpa using ok.1⟩
    | rw _ _ => simp only [cellsA, Option.some.injEq] at hy; subst hy; have ok := (hok _ List.mem_cons_self).one ry; exact ⟨_, ok.2, ⟨_, [], rfl, ry, rfl⟩, by simpa using ok.1⟩
    | bp _ _ => simp only [cellsA, Option.some.injEq] at hy; subst hy; have ok := (hok _ List.mem_cons_self).one ry; exact ⟨_, ok.2, ⟨_, [], rfl, ry, rfl⟩, by simpa using ok.1⟩
    | bs _ => simp only [cellsA, Option.some.injEq] at hy; subst hy; have ok := (hok _ List.mem_cons_self).one ry; exact ⟨_, ok.2, ⟨_, [], rfl, ry, rfl⟩, by simpa using ok.1⟩
    | vp _ _ => simp only [cellsA, Option.some.injEq] at hy; subst hy; have ok := (hok _ List.mem_cons_self).one ry; exact ⟨_, ok.2, ⟨_, [], rfl, ry, rfl⟩, by simpa using ok.1⟩
    | clo _ _ => simp only [cellsA, Option.some.injEq] at hy; subst hy; have ok := (hok _ List.mem_cons_self).one ry; exact ⟨_, ok.2, ⟨_, [], rfl, ry, rfl⟩, by simpa using ok.1⟩
  obtain ⟨ws, hcells, hrv, hw1⟩ := hyv
  have hwl := hrv.len
  have hul := hrep.len
  obtain ⟨w', hrun, hb, ho, hs, q1, q2, q3⟩ := run_storeCells (P := P) ws 0 w (m n).blk o us tg hheap (by omega) hw1
  have hex : (execOp a.eval ⟨none, .store xt x y, t, p, af, g⟩).run P w = .ok .skip w' := by
    have hsz : (a.eval y).cells.size = ty.size := by rw [← Array.length_toList, hcells, hwl, hl]
    simp only [execOp, hu, Instr.storeAt, Instr.sureAddr, storeVar, Sem.run_bind, Sem.run_pure, Result.andThen_ok, (hL _ _ ht).size, hsz, ne_eq, not_true_eq_false, if_false, hcells, hrun]
  have hlt : (m n).blk < w.heap.size := (Array.getElem?_eq_some_iff.1 hheap).1
  have hsame : Same S w w' := ⟨fun b k hk => World.cell?_of_block (w := w) (ho b (fun he => hnS rfl k (he ▸ hk)))⟩
  have hm := mset_self m n
  have hx' : Ext m S w h m S w' (hset h n (.box false (spliceA cs o vs))) := by
    refine ⟨fun _ _ hs => hs, hsame, fun n' fr ver t e xs hn' => ?_, fun n' fr cs1 hn' => ?_⟩
    · have hne' : n' ≠ n := fun he => by subst he; rw [hn] at hn'; cases hn'
      exact ⟨fr, ver, xs, by rw [hset_ne _ _ hne']; exact hn', .inr ⟨rfl, rfl, rfl⟩⟩
    · by_cases he : n' = n
      · subst he; rw [hn] at hn'; injection hn' with _ hcs; subst hcs; exact ⟨false, _, hset_same _ _ _, rfl, spliceA_len hle⟩
      · exact ⟨fr, cs1, by rw [hset_ne _ _ he]; exact hn', rfl, rfl⟩
  have hrel : HRel G base m S w' (hset h n (.box false (spliceA cs o vs))) := by
    have := hr.hrel.upd (n := n) (ob' := .box false (spliceA cs o vs)) (l := m n) (w' := w') (S' := S) (by rw [hn]; simp) (by simp) (by rw [hm]; exact hx')
      (fun k _ hk => ho k (hk hnn)) (by omega) (fun _ _ _ _ hs => hs) (fun k o' hk => by rw [hs]; exact hr.hrel.foot _ _ hk) (fun _ => .inl ⟨hnn, rfl⟩)
      (by
        rw [hm]
        refine ⟨hnn, hbase, _, tg, hb, ?_, ?_, hnS, (fun hf => by cases hf)⟩
        · rw [Nat.add_zero]; exact spliceA_rep (hrep.mono hx') (hrv.mono hx') hle
        · intro u hu'
          simp only [spliceV, List.mem_append] at hu'
          rcases hu' with (hu' | hu') | hu'
          · exact h1 u (List.mem_of_mem_take hu')
          · exact hw1 u hu'
          · exact h1 u (List.mem_of_mem_drop hu'))
    rw [hm] at this
    exact this
  unfold Oper.wp
  rw [hex, Oper.upon_skip]
  exact hK m S a w' (hr.step hx' hrel) hx' ⟨q1, q2, q3, by omega, fun k hk => ho k (by omega)⟩ rfl
end
end Go.Vs

/- Rows: made, filled, appended to; elements stored. -/
set_option linter.unusedVariables false
set_option linter.unusedSimpArgs false
namespace Go.Vs
open Go Go.RowKit

/-- The element's type of a slice type. -/
def elt (P : Program) (t : TypeId) : TypeId := match P.underlying t with
  | some (.slice e) => e
  | _ => 0
theorem elt_eq {P : Program} {t e : TypeId} (h : P.underlying t = some (.slice e)) : elt P t = e := by simp [elt, h]

section
variable {w : World} {S : Foot} {t : Ty}
theorem RepsL.nil (w : World) (S : Foot) (t : Ty) (inner : List Value) : RepsL w S t [] inner := fun j x hx => by simp at hx
theorem RepsL.append {xs ys : List t.D} {a b : List Value} (ha : a.length = xs.length * t.size) (hx : RepsL w S t xs a) (hy : RepsL w S t ys b) : RepsL w S t (xs ++ ys) (a ++ b) := by
  intro j x hj
  rcases Nat.lt_or_ge j xs.length with hlt | hge
  · rw [List.getElem?_append_left hlt] at hj
    have h1 : j * t.size + t.size ≤ a.length := by rw [ha, ← Nat.succ_mul]; exact Nat.mul_le_mul_right _ hlt
    rw [List.drop_append_of_le_length (by omega), List.take_append_of_le_length (by rw [List.length_drop]; omega)]
    exact hx j x hj
  · rw [List.getElem?_append_right hge] at hj
    have := hy _ x hj
    have he : j * t.size = a.length + (j - xs.length) * t.size := by
      rw [ha, ← Nat.add_mul]; congr 1; omega
    rw [he, ← List.drop_drop, List.drop_left]
    exact this
/-- The cells of a slice that nothing turns. -/
theorem sl_cells {b o : Nat} : ∀ {xs : List t.D} (k : Nat), (∀ j x, xs[j]? = some x → ∃ cs', Rep w S t x cs' ∧ ∀ i u, cs'[i]? = some u → CellAt w S b (o + ((k + j) * t.size + i)) u) →
    ∃ news : List Value, news.length = xs.length * t.size ∧ RepsL w S t xs news ∧ (∀ u ∈ news, u.oneCell' = true) ∧ ∀ j u, news[j]? = some u → w.cell? ⟨b, o + k * t.size + j, none⟩ = some u
  | [], k, _ => ⟨[], by simp, RepsL.nil _ _ _ _, by simp, by simp⟩
  | x :: xs, k, hx => by
    obtain ⟨cs, hrep, hc⟩ := hx 0 x rfl
    obtain ⟨news, hl, hr, h1, hn⟩ := sl_cells (xs := xs) (k + 1) (fun j y hy => by
      have := hx (j + 1) y (by simpa using hy)
      rwa [show k + (j + 1) = k + 1 + j by omega] at this)
    refine ⟨cs ++ news, by rw [List.length_append, hrep.len, hl, List.length_cons, Nat.succ_mul]; omega, ?_, ?_, fun j u hj => ?_⟩
    · exact RepsL.append (xs := [x]) (a := cs) (by simp [hrep.len]) (fun j y hy => by
        cases j with
        | zero => simp at hy; subst hy; rw [Nat.zero_mul, List.drop_zero, ← hrep.len, List.take_length]; exact hrep
        | succ j => simp at hy) hr
    · intro u hu
      rcases List.mem_append.1 hu with hu | hu
      · exact hrep.one u hu
      · exact h1 u hu
    · rcases Nat.lt_or_ge j cs.length with hlt | hge
      · rw [List.getElem?_append_left hlt] at hj
        have := (hc j u hj).1
        rwa [Nat.add_zero, ← Nat.add_assoc] at this
      · rw [List.getElem?_append_right hge] at hj
        have := hn _ u hj
        rw [hrep.len] at this hge
        have he : o + (k + 1) * t.size + (j - t.size) = o + k * t.size + j := by rw [Nat.succ_mul]; omega
        rwa [he] at this
end

section
variable {G : Nat → AV} {base : Nat} {m : Lm} {S : Foot} {w : World} {h : Heap}
/-- A nil slice, as a row of no elements. -/
theorem HRel.nilRow (r : HRel G base m S w h) {n : Nm} (hn : h n = .none) (ty : Ty) (et : TypeId) :
    HRel G base (mset m n ⟨0, 0, true⟩) S w (hset h n (.row false 0 ty et [])) ∧ Ext m S w h (mset m n ⟨0, 0, true⟩) S w (hset h n (.row false 0 ty et [])) := by
  have hx : Ext m S w h (mset m n ⟨0, 0, true⟩) S w (hset h n (.row false 0 ty et [])) := by
    refine ⟨fun _ _ hs => hs, Same.refl _ _, fun n' fr ver t e xs hn' => ?_, fun n' fr cs hn' => ?_⟩
    · have hne' : n' ≠ n := fun he => by subst he; rw [hn] at hn'; cases hn'
      exact ⟨fr, ver, xs, by rw [hset_ne _ _ hne']; exact hn', .inr ⟨rfl, rfl, mset_ne _ _ hne'⟩⟩
    · have hne' : n' ≠ n := fun he => by subst he; rw [hn] at hn'; cases hn'
      exact ⟨fr, cs, by rw [hset_ne _ _ hne']; exact hn', mset_ne _ _ hne', rfl⟩
  refine ⟨⟨fun g => (r.glob g).mono hx, fun n' => ?_, fun n1 n2 h1 h2 h3 h4 h5 => ?_, r.foot, r.base⟩, hx⟩
  · by_cases hn' : n' = n
    · subst hn'
      rw [hset_same]
      refine ⟨[], ?_, RepsL.nil _ _ _ _, by simp, fun hq => by simp [mset_same] at hq⟩
      simp only [mset_same, sliceV, cond_true]
      exact World.ownsRow_nil _ _ _ _
    · rw [hset_ne _ _ hn']
      exact (r.ob n').mono hx (mset_ne _ _ hn') (fun _ _ => rfl) (fun _ _ _ hs => hs)
  · have e1 : n1 ≠ n := fun he => by subst he; simp [mset_same] at h3
    have e2 : n2 ≠ n := fun he => by subst he; simp [mset_same] at h4
    rw [hset_ne _ _ e1] at h1
    rw [hset_ne _ _ e2] at h2
    rw [mset_ne _ _ e1] at h3 h5
    rw [mset_ne _ _ e2] at h4 h5
    exact r.inj n1 n2 h1 h2 h3 h4 h5

/-- The cells behind an appended slice. -/
def SrcOf (h : Heap) (ty : Ty) (a : AV) (ys : List ty.D) : Prop :=
  (a = .v (.sl ty) ys) ∨ (∃ n fr ver e, a = .rw n ver ∧ h n = .row fr ver ty e ys)
theorem SrcOf.cells {ty : Ty} {a : AV} {ys : List ty.D} {u : Value} (s : SrcOf h ty a ys) (r : HRel G base m S w h) (ra : RepA m S w h a u) :
    (∃ c, u = .slice none ys.length c ∧ ys = []) ∨ ∃ (a : Addr) (c : Nat) (news : List Value), u = .slice (some a) ys.length c ∧ news.length = ys.length * ty.size ∧ RepsL w S ty ys news ∧ (∀ u ∈ news, u.oneCell' = true) ∧
      (∀ j u, news[j]? = some u → w.cell? (a.add j) = some u) := by
  rcases s with rfl | ⟨n, fr, ver, e, rfl, hn⟩
  · obtain ⟨A, c, hu, h1, h2, h3⟩ := ra.sl
    subst hu
    cases ys with
    | nil =>
      cases A with
      | none => exact .inl ⟨c, rfl, rfl⟩
      | some a => exact .inr ⟨a, c, [], rfl, by simp, RepsL.nil _ _ _ _, by simp, by simp⟩
    | cons y ys =>
      obtain ⟨b, o, cs', rfl, _⟩ := h3 0 y rfl
      obtain ⟨news, hl, hr, hone, hn⟩ := sl_cells (b := b) (o := o) (xs := y :: ys) 0 (fun j x hx => by
        obtain ⟨b', o', cs', he, hrep, hc⟩ := h3 j x hx
        simp at he
        obtain ⟨rfl, rfl⟩ := he
        rw [Nat.zero_add]
        exact ⟨cs', hrep, hc⟩)
      exact .inr ⟨⟨b, o, none⟩, c, news, rfl, hl, hr, hone, fun j u hj => by rw [add_at]; have := hn j u hj; simpa using this⟩
  · have hob := r.row hn
    obtain ⟨fr2, ver2, t2, e2, xs2, hn2, h3, h4⟩ := ra
    rw [hn] at hn2
    injection hn2 with _ hv2 hb2 _ hd2
    subst hb2
    obtain rfl := eq_of_heq hd2
    have hu := h4 hv2
    subst hu
    cases hq : (m n).isnil with
    | true =>
      have := hob.nilEmpty hq
      refine .inl ⟨0, ?_, List.eq_nil_of_length_eq_zero this⟩
      simp [sliceV, hq, this]
    | false =>
      obtain ⟨inner, ho, hr, _⟩ := hob
      refine .inr ⟨⟨(m n).blk, 0, none⟩, (m n).cap, inner, by simp [sliceV, hq], ho.1, hr, fun u hu => ?_, fun j u hj => ho.cells (g := (m n).blk) (by simp [sliceV, hq, Value.ownBlock]) j u hj⟩
      obtain ⟨j, hj, hu⟩ := List.getElem_of_mem hu
      -- each cell lies in an element
      have hsz : 0 < ty.size := by
        rcases Nat.eq_zero_or_pos ty.size with h0 | h0
        · rw [ho.1, h0] at hj; simp at hj
        · exact h0
      have hjx : j / ty.size < ys.length := by rw [ho.1] at hj; exact Nat.div_lt_of_lt_mul (by rwa [Nat.mul_comm])
      have hrep := hr (j / ty.size) _ (List.getElem?_eq_getElem hjx)
      refine hrep.one u ?_
      have : ((inner.drop (j / ty.size * ty.size)).take ty.size)[j % ty.size]? = some u := by
        rw [List.getElem?_take, if_pos (Nat.mod_lt _ hsz), List.getElem?_drop]
        rw [show j / ty.size * ty.size + j % ty.size = j from by rw [Nat.mul_comm]; exact Nat.div_add_mod j ty.size]
        rw [List.getElem?_eq_getElem hj, hu]
      exact List.mem_of_getElem? this
end

theorem run_append_none {P : Program} {w : World} (base : Nat) (t ty e : TypeId) (i : TypeInfo) (size : Nat) (ht : P.underlying t = some (.slice e)) (hi : P.info? e = some i)
    (v : Value) (n : Nat) (xs : List Value) (c : Nat) (hown : w.ownsRow base e size v n xs) :
    (Builtin.append_ #[t, t] ty #[v, .slice none 0 c]).run P w = .ok v w := by
  rcases hown.2 with ⟨rfl, rfl⟩ | ⟨g, cap, cur, rfl, _, _, hnc, _⟩
  · simp [Builtin.append_, run_underlying ht, sizeOf, typeInfo, hi, Builtin.lenOf, Builtin.firstCells]
  · simp [Builtin.append_, run_underlying ht, sizeOf, typeInfo, hi, Builtin.lenOf, Builtin.firstCells, hnc, storeCells]

section
variable {P : Program} {G : Nat → AV} {L : Lay} {N : Nat} {e : Env} {h : Heap} {d : Option Tmp} {i : Nat} {t : TypeId} {p : String} {af : Array Edge} {g : Option (Nat × Bool)} {v : AV}

theorem locOf {w : World} {base size n : Nat} {e : TypeId} {v : Value} {xs : List Value} (h : w.ownsRow base e size v n xs) : ∃ l : Loc, v = sliceV l n ∧ (l.isnil = true → n = 0) ∧ v.ownBlock = (if l.isnil then none else some l.blk) := by
  rcases h.2 with ⟨rfl, rfl⟩ | ⟨g, cap, cur, rfl, _⟩
  · exact ⟨⟨0, 0, true⟩, rfl, fun _ => rfl, rfl⟩
  · exact ⟨⟨g, cap, false⟩, rfl, fun hq => (by cases hq), rfl⟩

/-- append onto a row of one's own: what follows of the world. -/
theorem append_core {xt : TypeId} {ty : Ty} {n : Nm} {ver : Nat} {et : TypeId} {xs ys : List ty.D} {base : Nat} {m : Lm} {S : Foot} {w : World} {u u2 : Value} (hL : LayOk P L) (ht : L xt = some (.sl ty)) (hz : 0 < ty.size)
    (hr : HRel G base m S w h) (hn : h n = .row false ver ty et xs) (he : et = elt P xt) (hu : u = sliceV (m n) xs.length) {b : AV} (hs : SrcOf h ty b ys) (hb : RepA m S w h b u2) (hbase : base ≤ w.heap.size) (hlen : xs.length + ys.length ≤ 34359738368) (o : TypeId) :
    ∃ v' w' m', (Builtin.append_ #[xt, xt] o #[u, u2]).run P w = .ok v' w' ∧ HRel G base m' S w' (hset h n (.row false (ver + 1) ty et (xs ++ ys))) ∧ Ext m S w h m' S w' (hset h n (.row false (ver + 1) ty et (xs ++ ys))) ∧
      v' = sliceV (m' n) (xs ++ ys).length ∧ Below base w w' := by
  obtain ⟨e0, hd, hLe, _⟩ := hL _ _ ht
  have he0 : et = e0 := he.trans (elt_eq hd)
  subst he0
  obtain ⟨inf, hi, hzv, hsize, hb0, hb1⟩ := (hL _ _ hLe).inf
  have hzs : (mkV ty ty.zero).cells.size = ty.size := by rw [← Array.length_toList, mkV_cells (Ty.zero_rep w S ty), (Ty.zero_rep w S ty).len]
  have hob := hr.row hn
  obtain ⟨inner, ho, hrep, hmax, hfoot⟩ := hob
  have extOf : ∀ (m' : Lm) (w' : World), Same S w w' → (∀ n', n' ≠ n → m' n' = m n') → Ext m S w h m' S w' (hset h n (.row false (ver + 1) ty et (xs ++ ys))) := fun m' w' hsm hm => by
    refine ⟨fun _ _ hs => hs, hsm, fun n' fr v0 t0 e0 x0 hn' => ?_, fun n' fr cs hn' => ?_⟩
    · by_cases he : n' = n
      · subst he
        rw [hn] at hn'
        injection hn' with h1 h2 h3 h4 h5
        subst h3 h4
        obtain rfl := eq_of_heq h5
        exact ⟨false, ver + 1, _, hset_same _ _ _, .inl (by omega)⟩
      · exact ⟨fr, v0, x0, by rw [hset_ne _ _ he]; exact hn', .inr ⟨rfl, rfl, hm n' he⟩⟩
    · have he : n' ≠ n := fun he => by subst he; rw [hn] at hn'; cases hn'
      exact ⟨fr, cs, by rw [hset_ne _ _ he]; exact hn', hm n' he, rfl⟩
  rcases hs.cells hr hb with ⟨c, hu2, hys⟩ | ⟨ad, c, news, hu2, hnl, hnr, hn1, hnc⟩
  · subst hys
    subst hu2
    have hm := mset_self m n
    refine ⟨u, w, m, run_append_none base xt o et inf ty.size hd hi u xs.length inner c (by rw [hu]; exact ho), ?_, extOf m w (Same.refl _ _) (fun _ _ => rfl), by simp [hu], Below.refl _ _⟩
    have hx := extOf m w (Same.refl _ _) (fun _ _ => rfl)
    have := hr.upd (n := n) (ob' := .row false (ver + 1) ty et (xs ++ [])) (l := m n) (w' := w) (S' := S) (by rw [hn]; simp) (by simp) (by rw [hm]; exact hx) (fun _ _ _ => rfl) (Nat.le_refl _) (fun _ _ _ _ hs => hs) hr.foot (fun hq => .inl ⟨hq, rfl⟩)
      (by rw [hm, List.append_nil]; exact ⟨inner, ho, fun j y hy => (hrep j y hy), hmax, hfoot⟩)
    rw [hm] at this
    exact this
  · subst hu2
    obtain ⟨v', w', hrun, hown, hg, hnil, hat⟩ := run_append_own_at (P := P) w base xt o et inf (mkV ty ty.zero) ty.size inf.bytes hd hi hzv hsize rfl hzs hz u xs.length inner (by rw [hu]; exact ho) ad ys.length c news hnl hnc hn1
      (by simp only [maxLen]; omega) (by
        have : (xs.length + ys.length) * inf.bytes ≤ 34359738368 * 4096 := Nat.mul_le_mul hlen hb1
        omega) hbase
    obtain ⟨l, hv', hl0, hlb⟩ := locOf hown
    have hsame : Same S w w' := ⟨fun b k hk => World.cell?_of_block (w := w) (hg.block b (hr.foot b k hk) (fun he => by
      rw [hu] at he
      cases hq : (m n).isnil with
      | true => simp [sliceV, hq, Value.ownBlock] at he
      | false =>
        simp [sliceV, hq, Value.ownBlock] at he
        exact (hfoot hq).1 rfl k (he ▸ hk)))⟩
    have hx := extOf (mset m n l) w' hsame (fun n' hn' => mset_ne _ _ hn')
    refine ⟨v', w', mset m n l, hrun, ?_, hx, by rw [mset_same, List.length_append]; exact hv', ?_⟩
    · refine hr.upd (n := n) (ob' := .row false (ver + 1) ty et (xs ++ ys)) (l := l) (w' := w') (S' := S) (by rw [hn]; simp) (by simp) hx (fun k hk hk' => hg.block k hk (fun he => ?_)) hg.size (fun _ _ _ _ hs => hs)
        (fun k o' hk => Nat.lt_of_lt_of_le (hr.foot _ _ hk) hg.size) (fun hq => ?_) ?_
      · rw [hu] at he
        cases hq : (m n).isnil with
        | true => simp [sliceV, hq, Value.ownBlock] at he
        | false => simp [sliceV, hq, Value.ownBlock] at he; exact hk' hq he
      · rw [hlb] at hat
        simp only [hq, Bool.false_eq_true, if_false] at hat
        rcases hat with hat | hat
        · rw [hu] at hat
          cases hq2 : (m n).isnil with
          | true => simp [sliceV, hq2, Value.ownBlock] at hat
          | false => simp [sliceV, hq2, Value.ownBlock] at hat; exact .inl ⟨rfl, hat⟩
        · simp at hat; exact .inr (by omega)
      · refine ⟨inner ++ news, ?_, RepsL.append ho.1 (fun j y hy => (hrep j y hy).mono hsame (fun _ _ hs => hs)) (fun j y hy => (hnr j y hy).mono hsame (fun _ _ hs => hs)), ?_, fun hq => ⟨fun _ k hk => ?_, (fun hf => by cases hf)⟩⟩
        · rw [mset_same, List.length_append, ← hv']; exact hown
        · rw [List.length_append]; unfold lenMax; omega
        · rw [mset_same] at hq hk
          rw [hlb] at hat
          simp only [hq, Bool.false_eq_true, if_false] at hat
          rcases hat with hat | hat
          · rw [hu] at hat
            cases hq2 : (m n).isnil with
            | true => simp [sliceV, hq2, Value.ownBlock] at hat
            | false =>
              simp [sliceV, hq2, Value.ownBlock] at hat
              exact (hfoot hq2).1 rfl k (hat ▸ hk)
          · simp at hat
            have := hr.foot _ _ hk
            omega
    · refine (Below.refl _ _).grown hg hbase (fun k hk => ?_)
      rw [hu] at hk
      cases hq : (m n).isnil with
      | true => simp [sliceV, hq, Value.ownBlock] at hk
      | false =>
        simp [sliceV, hq, Value.ownBlock] at hk
        have := ((hr.ob n).blkLt (by rw [hn]; simp) hq).1
        omega

/-- append onto a row. -/
theorem opAppend {x y : Operand} {xt : TypeId} {ty : Ty} {n : Nm} {ver : Nat} {et : TypeId} {xs ys : List ty.D} {ob : Ob} (hL : LayOk P L) (ht : L xt = some (.sl ty)) (hz : Nat.blt 0 ty.size = true) (hx : ev G e x = .rw n ver) (hn : h n = .row false ver ty et xs) (he : et = elt P xt)
    (hs : SrcOf h ty (ev G e y) ys) (hlen : xs.length + ys.length ≤ 34359738368) (hob : ob = .row false (ver + 1) ty et (xs ++ ys)) :
    OpSem P G N ⟨some i, .call ⟨.builtin .append, #[x, y], #[xt, xt]⟩, t, p, af, g⟩ e h (put e (some i) (.rw n (ver + 1))) (hset h n ob) := by
  subst hob
  intro base m S w a K Q hr hdst hK
  have hx' := hx ▸ hr.ev x
  obtain ⟨fr2, ver2, t2, e2, xs2, hn2, h3, h4⟩ := hx'
  rw [hn] at hn2
  injection hn2 with _ hv2 hb2 _ hd2
  subst hb2
  obtain rfl := eq_of_heq hd2
  obtain ⟨v', w', m', hrun, hr', hext, hv', hbel⟩ := append_core hL ht (by simpa [Nat.blt_eq] using hz) hr.hrel hn he (h4 hv2) hs (hr.ev y) hr.hrel.base hlen t
  unfold Oper.wp
  have hex : (execOp a.eval ⟨some i, .call ⟨.builtin .append, #[x, y], #[xt, xt]⟩, t, p, af, g⟩).run P w = .ok (.value v') w' := by
    simp [execOp, resolve, invoke, builtin, hrun]
  rw [hex, Oper.upon_value]
  exact hK m' S _ w' ((hr.step hext hr').put hdst ⟨false, ver + 1, ty, et, xs ++ ys, hset_same _ _ _, Nat.le_refl _, fun _ => hv'⟩) hext hbel rfl

/-- append onto a nil slice. -/
theorem opAppendNil {x y : Operand} {xt : TypeId} {ty : Ty} {ys : List ty.D} {ob : Ob} (hL : LayOk P L) (ht : L xt = some (.sl ty)) (hz : Nat.blt 0 ty.size = true) (hx : ev G e x = .nils) (hn : h (.own i) = .none)
    (hs : SrcOf h ty (ev G e y) ys) (hlen : ys.length ≤ 34359738368) (hob : ob = .row false 1 ty (elt P xt) ys) :
    OpSem P G N ⟨some i, .call ⟨.builtin .append, #[x, y], #[xt, xt]⟩, t, p, af, g⟩ e h (put e (some i) (.rw (.own i) 1)) (hset h (.own i) ob) := by
  subst hob
  intro base m S w a K Q hr hdst hK
  have hx' := hx ▸ hr.ev x
  simp only [RepA] at hx'
  obtain ⟨hr1, hext1⟩ := hr.hrel.nilRow hn ty (elt P xt)
  have hs1 : SrcOf (hset h (.own i) (.row false 0 ty (elt P xt) [])) ty (ev G e y) ys := by
    rcases hs with hs | ⟨n, fr, ver, e', he, hn'⟩
    · exact .inl hs
    · refine .inr ⟨n, fr, ver, e', he, ?_⟩
      rw [hset_ne _ _ (fun hq => by subst hq; rw [hn] at hn'; cases hn')]
      exact hn'
  obtain ⟨v', w', m', hrun, hr', hext, hv', hbel⟩ := append_core (n := .own i) (ver := 0) (xs := []) (u := a.eval x) hL ht (by simpa [Nat.blt_eq] using hz) hr1 (hset_same _ _ _) rfl (by rw [hx']; simp [mset_same, sliceV]) hs1 ((hr.ev y).mono hext1) hr1.base (by simpa using hlen) t
  have hh : hset (hset h (.own i) (.row false 0 ty (elt P xt) [])) (.own i) (.row false (0 + 1) ty (elt P xt) ([] ++ ys)) = hset h (.own i) (.row false 1 ty (elt P xt) ys) := by
    funext j
    by_cases hj : j = .own i
    · subst hj; rw [hset_same, hset_same]; simp
    · rw [hset_ne _ _ hj, hset_ne _ _ hj, hset_ne _ _ hj]
  rw [hh] at hr' hext
  unfold Oper.wp
  have hex : (execOp a.eval ⟨some i, .call ⟨.builtin .append, #[x, y], #[xt, xt]⟩, t, p, af, g⟩).run P w = .ok (.value v') w' := by
    simp [execOp, resolve, invoke, builtin, hrun]
  rw [hex, Oper.upon_value]
  exact hK m' S _ w' ((hr.step (hext1.trans hext) hr').put hdst ⟨false, 1, ty, elt P xt, ys, hset_same _ _ _, Nat.le_refl _, fun _ => by simpa using hv'⟩) (hext1.trans hext) hbel rfl
end
end Go.Vs

/- make, slice literals, struct values, elements stored. -/
set_option linter.unusedVariables false
set_option linter.unusedSimpArgs false
namespace Go.Vs
open Go Go.RowKit

section
variable {P : Program} {G : Nat → AV} {L : Lay} {N : Nat} {e : Env} {h : Heap} {d : Option Tmp} {i : Nat} {t : TypeId} {p : String} {af : Array Edge} {g : Option (Nat × Bool)} {v : AV}

theorem madeCells_get (z : Array Value) (n k : Nat) (hk : k < n) : (madeCells z n).toList[k]? = some z[k % z.size]! := by
  simp [madeCells, hk]
/-- A new row. -/
theorem newRow_core {base : Nat} {m : Lm} {S : Foot} {w : World} {ty : Ty} {et : TypeId} {xs : List ty.D} {n : Nm} (hr : HRel G base m S w h) (hn : h n = .none) (inner : List Value) (hi : inner.length = xs.length * ty.size)
    (hrep : RepsL w S ty xs inner) (hlen : xs.length ≤ lenMax) :
    ∃ m', HRel G base m' S (w.alloc (.cells inner.toArray et)) (hset h n (.row false 0 ty et xs)) ∧ Ext m S w h m' S (w.alloc (.cells inner.toArray et)) (hset h n (.row false 0 ty et xs)) ∧
      Value.slice (some ⟨w.heap.size, 0, none⟩) xs.length xs.length = sliceV (m' n) xs.length := by
  obtain ⟨m', hr', hx, hm⟩ := hr.new hn (ob := .row false 0 ty et xs) (by simp) inner.toArray et xs.length (fun m' h' hx hm hh => by
    have hs : sliceV (m' n) xs.length = .slice (some ⟨w.heap.size, 0, none⟩) xs.length xs.length := by rw [hm]; rfl
    refine ⟨inner, ?_, fun j x hj => (hrep j x hj).mono hx.same hx.foot, hlen, fun _ => ⟨fun _ o hs' => ?_, (fun hf => by cases hf)⟩⟩
    · rw [hs]
      have := World.ownsRow_lit (base := base) (e := et) (size := ty.size) w inner.toArray xs.length hr.base (by simp only [maxLen]; unfold lenMax at hlen; omega) (by simpa using hi)
      simpa using this
    · rw [hm] at hs'
      have := hr.foot _ _ hs'
      simp at this)
  exact ⟨m', hr', hx, by rw [hm]; rfl⟩

theorem opMake {x y : Operand} {xt : TypeId} {ty : Ty} {nn : Int} {ob : Ob} (hL : LayOk P L) (ht : L xt = some (.sl ty)) (hz : Nat.blt 0 ty.size = true) (hx : ev G e x = .v (.int .i64) nn) (hy : ev G e y = .v (.int .i64) nn) (h0 : 0 ≤ nn) (h1 : nn ≤ 34359738368)
    (hn : h (.own i) = .none) (hob : ob = .row false 0 ty (elt P xt) (List.replicate nn.toNat ty.dflt)) :
    OpSem P G N ⟨some i, .makeSlice xt x y, t, p, af, g⟩ e h (put e (some i) (.rw (.own i) 0)) (hset h (.own i) ob) := by
  subst hob
  intro base m S w a K Q hr hdst hK
  have hx' := (hx ▸ hr.ev x).int
  have hy' := (hy ▸ hr.ev y).int
  obtain ⟨e0, hd, hLe, _⟩ := hL _ _ ht
  rw [elt_eq hd] at *
  obtain ⟨inf, hi, hzv, hsize, hb0, hb1⟩ := (hL _ _ hLe).inf
  have hz' : 0 < ty.size := by simpa [Nat.blt_eq] using hz
  have hzc : (mkV ty ty.zero).cells = ty.zero.toArray := by rw [← Array.toList_inj, mkV_cells (Ty.zero_rep w S ty)]
  have hzl : ty.zero.length = ty.size := (Ty.zero_rep w S ty).len
  have hbytes : (inf.bytes : Int) * nn ≤ 281474976710656 := by
    have h2 : (inf.bytes : Int) ≤ 4096 := by omega
    have h3 := Int.mul_le_mul h2 h1 h0 (by omega)
    omega
  have hrun := run_make (P := P) w xt e0 inf (mkV ty ty.zero) hd hi hzv .i64 .i64 nn nn h0 (Int.le_refl _) hbytes (by omega)
  rw [hsize, hzc] at hrun
  have hin : (madeCells ty.zero.toArray (nn.toNat * ty.size)).toList.length = (List.replicate nn.toNat ty.dflt).length * ty.size := by simp [size_madeCells]
  obtain ⟨m', hr', hext, hs⟩ := newRow_core (ty := ty) (et := e0) (xs := List.replicate nn.toNat ty.dflt) hr.hrel hn (madeCells ty.zero.toArray (nn.toNat * ty.size)).toList hin (fun j x hj => by
    have hj' : j < nn.toNat := by have := (List.getElem?_eq_some_iff.1 hj).1; simpa using this
    have hx : x = ty.dflt := by rw [List.getElem?_replicate, if_pos hj'] at hj; exact (Option.some.inj hj).symm
    subst hx
    have : ((madeCells ty.zero.toArray (nn.toNat * ty.size)).toList.drop (j * ty.size)).take ty.size = ty.zero := by
      apply List.ext_getElem?
      intro k
      rw [List.getElem?_take]
      split
      · rename_i hk
        rw [List.getElem?_drop, madeCells_get]
        · have : (j * ty.size + k) % ty.zero.toArray.size = k := by
            rw [List.size_toArray, hzl, Nat.mul_comm, Nat.mul_add_mod, Nat.mod_eq_of_lt hk]
          rw [this]
          have hk2 : k < ty.zero.length := by omega
          simp [hk2]
        · have : (j + 1) * ty.size ≤ nn.toNat * ty.size := Nat.mul_le_mul_right _ hj'
          rw [Nat.succ_mul] at this; omega
      · rename_i hk
        rw [List.getElem?_eq_none (by omega)]
    rw [this]
    exact Ty.zero_rep w S ty) (by simp; unfold lenMax; omega)
  unfold Oper.wp
  have hex : (execOp a.eval ⟨some i, .makeSlice xt x y, t, p, af, g⟩).run P w = .ok (.value (.slice (some ⟨w.heap.size, 0, none⟩) nn.toNat nn.toNat)) (w.alloc (.cells (madeCells ty.zero.toArray (nn.toNat * ty.size)) e0)) := by
    simp [execOp, hx', hy', hrun]
  rw [hex, Oper.upon_value]
  have hw : (w.alloc (.cells (madeCells ty.zero.toArray (nn.toNat * ty.size)).toList.toArray e0)) = w.alloc (.cells (madeCells ty.zero.toArray (nn.toNat * ty.size)) e0) := by simp
  rw [hw] at hr' hext
  refine hK m' S _ _ ((hr.step hext hr').put hdst ⟨false, 0, ty, e0, _, hset_same _ _ _, Nat.le_refl _, fun _ => ?_⟩) hext ((Below.refl _ _).alloc hr.hrel.base _) rfl
  rw [← hs]; simp

/-! #### literals -/
theorem foldSet : ∀ (l : List Value) (s off : Nat) (A : Array Value), off + s + l.length ≤ A.size →
    (l.zipIdx s).foldl (fun (cs : Array Value) (q : Value × Nat) => cs.setIfInBounds (off + q.2) q.1) A = (spliceV A.toList (off + s) l).toArray
  | [], s, off, A, _ => by simp [spliceV]
  | c :: l, s, off, A, hl => by
    simp only [List.zipIdx_cons, List.foldl_cons]
    rw [foldSet l (s + 1) off _ (by simp at hl ⊢; omega)]
    congr 1
    simp only [spliceV, Array.toList_setIfInBounds]
    apply List.ext_getElem?
    intro j
    simp only [List.length_cons] at hl
    rw [show off + (s + 1) = off + s + 1 by omega]
    simp only [List.getElem?_append, List.getElem?_take, List.getElem?_drop, List.length_append, List.length_take, List.length_set, List.getElem?_set, List.length_cons, List.getElem?_cons, Array.length_toList]
    have e1 : min (off + s + 1) A.size = off + s + 1 := by omega
    have e2 : min (off + s) A.size = off + s := by omega
    rw [e1, e2]
    by_cases c1 : j < off + s
    · simp [c1, show j < off + s + 1 + l.length by omega, show j < off + s + (l.length + 1) by omega, show j < off + s + 1 by omega, show ¬ (off + s = j) by omega]
    · by_cases c2 : j = off + s
      · subst c2
        simp [show off + s < off + s + 1 + l.length by omega, show off + s < off + s + 1 by omega, show off + s < A.size by omega, show off + s < off + s + (l.length + 1) by omega]
      · by_cases c3 : j < off + s + 1 + l.length
        · simp [c1, c3, show ¬ j < off + s + 1 by omega, show j < off + s + (l.length + 1) by omega, show ¬ j - (off + s) = 0 by omega, show j - (off + s) - 1 = j - (off + s + 1) by omega]
        · simp [c1, c3, show ¬ j < off + s + 1 by omega, show ¬ j < off + s + (l.length + 1) by omega, show ¬ (off + s = off + s + 1 + l.length + (j - (off + s + 1 + l.length))) by omega]
          congr 1
          omega
theorem fill_all (size : Nat) : ∀ (us : List Value) (k : Nat) (A : List Value), A.length = (k + us.length) * size → (∀ u ∈ us, u.cells.size = size) →
    Instr.fill (fun i => some (i * size, size)) A.toArray ((us.zipIdx k).map fun q => (q.2, q.1)) = some (A.take (k * size) ++ us.flatMap fun u => u.cells.toList).toArray
  | [], k, A, hA, _ => by simp at hA; simp [Instr.fill, ← hA]
  | u :: us, k, A, hA, hs => by
    have hu := hs u List.mem_cons_self
    have hle : k * size + size ≤ A.length := by
      rw [hA, ← Nat.succ_mul]; exact Nat.mul_le_mul_right _ (by simp)
    simp only [List.zipIdx_cons, List.map_cons, Instr.fill]
    rw [if_neg (by simp [hu]; omega)]
    have hf : u.cells.zipIdx.foldl (fun (cs : Array Value) (x : Value × Nat) => match x with | (c, j) => cs.setIfInBounds (k * size + j) c) A.toArray = (spliceV A (k * size) u.cells.toList).toArray := by
      have := foldSet u.cells.toList 0 (k * size) A.toArray (by simp [hu]; omega)
      rw [Nat.add_zero] at this
      rw [← this, ← Array.foldl_toList, Array.toList_zipIdx]
    rw [hf]
    have hlen : (spliceV A (k * size) u.cells.toList).length = A.length := by
      have : u.cells.toList.length = size := by simpa using hu
      simp only [spliceV, List.length_append, List.length_take, List.length_drop, this]; omega
    rw [fill_all size us (k + 1) _ (by rw [hlen, hA]; simp [Nat.add_assoc, Nat.add_comm 1]) (fun x hx => hs x (List.mem_cons_of_mem _ hx))]
    congr 2
    have hul : u.cells.toList.length = size := by simpa using hu
    simp only [spliceV, List.flatMap_cons, Nat.succ_mul]
    rw [List.take_append_of_le_length (by simp; omega), List.take_of_length_le (by simp; omega), List.append_assoc]

def convL (h : Heap) (ty : Ty) : List AV → Option (List ty.D × Heap)
  | [] => some ([], h)
  | a :: r => match convA h ty a with
      | some (x, h1) => (match convL h1 ty r with
          | some (xs, h2) => some (x :: xs, h2)
          | none => none)
      | none => none
theorem convL_sound {base : Nat} {m : Lm} {w : World} {ty : Ty} : ∀ {S : Foot} {h h' : Heap} {bs : List AV} {us : List Value} {xs : List ty.D}, convL h ty bs = some (xs, h') → HRel G base m S w h → RepAs m S w h bs us →
    ∃ S', HRel G base m S' w h' ∧ Ext m S w h m S' w h' ∧ xs.length = us.length ∧ ∀ (j : Nat) (x : ty.D), xs[j]? = some x → ∃ u, us[j]? = some u ∧ RepV w S' ty x u
  | S, h, h', [], us, xs, hv, hr, r => by
    simp only [convL, Option.some.injEq, Prod.mk.injEq] at hv
    obtain ⟨rfl, rfl⟩ := hv
    simp only [RepAs] at r; subst r
    exact ⟨S, hr, Ext.refl _ _ _ _, rfl, by simp⟩
  | S, h, h', a :: bs, us, xs, hv, hr, r => by
    obtain ⟨u, us', rfl, h1, h2⟩ := r
    simp only [convL] at hv
    split at hv
    · rename_i x h1' he1
      split at hv
      · rename_i xs2 h2' he2
        simp only [Option.some.injEq, Prod.mk.injEq] at hv
        obtain ⟨rfl, rfl⟩ := hv
        obtain ⟨S1, hr1, hx1, hrep⟩ := convA_sound he1 hr h1
        obtain ⟨S2, hr2, hx2, hl, hrep2⟩ := convL_sound he2 hr1 (h2.mono hx1)
        refine ⟨S2, hr2, hx1.trans hx2, by simp [hl], fun j y hj => ?_⟩
        cases j with
        | zero => simp at hj; subst hj; exact ⟨u, rfl, hrep.mono hx2.same hx2.foot⟩
        | succ j => simp at hj; obtain ⟨u', h3, h4⟩ := hrep2 j y hj; exact ⟨u', by simpa using h3, h4⟩
      · cases hv
    · cases hv
def inOrder : Nat → List (Nat × Operand) → Bool
  | _, [] => true
  | k, q :: r => Nat.beq q.1 k && inOrder (k + 1) r
theorem inOrder_zip : ∀ {l : List (Nat × Operand)} {k : Nat} (f : Operand → Value), inOrder k l = true → l.map (fun q => (q.1, f q.2)) = ((l.map fun q => f q.2).zipIdx k).map fun q => (q.2, q.1)
  | [], k, f, _ => rfl
  | q :: l, k, f, h => by
    simp only [inOrder, Bool.and_eq_true] at h
    have := Nat.eq_of_beq_eq_true h.1
    simp only [List.map_cons, List.zipIdx_cons, ← inOrder_zip f h.2, this]

theorem RepAs.ofEv {m : Lm} {S : Foot} {w : World} {N base : Nat} {a : Act} (hr : Rel G N base m S e h a.tmps w) : ∀ l : List Operand, RepAs m S w h (l.map (ev G e)) (l.map a.eval)
  | [] => rfl
  | x :: l => ⟨_, _, rfl, hr.ev x, RepAs.ofEv hr l⟩

theorem opLit {xt : TypeId} {ty : Ty} {len : Nat} {parts : Array (Nat × Operand)} {xs : List ty.D} {h' : Heap} {ob : Ob} (hL : LayOk P L) (ht : L xt = some (.sl ty)) (hz : Nat.blt 0 ty.size = true) (hpo : inOrder 0 parts.toList = true) (hlen : Nat.beq parts.toList.length len = true) (hsz : Nat.ble (len * ty.size) 16777216 = true)
    (hc : convL h ty (parts.toList.map fun q => ev G e q.2) = some (xs, h')) (hn : h' (.own i) = .none) (hob : ob = .row false 0 ty (elt P xt) xs) :
    OpSem P G N ⟨some i, .buildSlice xt len parts, t, p, af, g⟩ e h (put e (some i) (.rw (.own i) 0)) (hset h' (.own i) ob) := by
  subst hob
  intro base m S w a K Q hr hdst hK
  obtain ⟨e0, hd, hLe, _⟩ := hL _ _ ht
  rw [elt_eq hd] at *
  have hlen := Nat.eq_of_beq_eq_true hlen
  have hsz := Nat.le_of_ble_eq_true hsz
  have hre := RepAs.ofEv hr (parts.toList.map fun q => q.2)
  rw [List.map_map, List.map_map] at hre
  obtain ⟨S', hr', hx, hxl, hrep⟩ := convL_sound hc hr.hrel hre
  have hxl' : xs.length = len := by rw [hxl]; simpa using hlen
  have hcs : ∀ u ∈ parts.toList.map (fun q => a.eval q.2), u.cells.size = ty.size ∧ ∃ x, RepV w S' ty x u := by
    intro u hu
    obtain ⟨j, hj, hu⟩ := List.getElem_of_mem hu
    have hjx : j < xs.length := by rw [hxl]; simpa using hj
    obtain ⟨u', h1, h2⟩ := hrep j _ (List.getElem?_eq_getElem hjx)
    have : u' = u := by
      have h3 : (parts.toList.map ((fun x => a.eval x) ∘ fun q => q.2))[j]? = some u := by
        rw [← hu]; exact List.getElem?_eq_getElem hj
      rw [h3] at h1; exact (Option.some.inj h1).symm
    subst this
    obtain ⟨cs, hrp, hq⟩ := h2
    exact ⟨by rw [hq, ← Array.length_toList, mkV_cells hrp, hrp.len], _, cs, hrp, hq⟩
  -- the cells in a row
  have hfl : ∀ (us : List Value) (zs : List ty.D), zs.length = us.length → (∀ (j : Nat) (x : ty.D), zs[j]? = some x → ∃ u, us[j]? = some u ∧ RepV w S' ty x u) →
      (us.flatMap fun u => u.cells.toList).length = zs.length * ty.size ∧ RepsL w S' ty zs (us.flatMap fun u => u.cells.toList) := by
    intro us
    induction us with
    | nil => intro zs hl _; have := List.eq_nil_of_length_eq_zero hl; subst this; exact ⟨by simp, RepsL.nil _ _ _ _⟩
    | cons u us ih =>
      intro zs hl hz
      cases zs with
      | nil => simp at hl
      | cons z zs =>
        obtain ⟨u', h1, cs, hrp, hq⟩ := hz 0 z rfl
        simp at h1; subst h1
        obtain ⟨h2, h3⟩ := ih zs (by simpa using hl) (fun j x hj => hz (j + 1) x (by simpa using hj))
        have hcs : u.cells.toList = cs := by rw [hq, mkV_cells hrp]
        refine ⟨by simp only [List.flatMap_cons, List.length_append, hcs, h2, hrp.len, List.length_cons, Nat.succ_mul]; omega, ?_⟩
        simp only [List.flatMap_cons, hcs]
        exact RepsL.append (xs := [z]) (a := cs) (by simp [hrp.len]) (fun j y hy => by
          cases j with
          | zero => simp at hy; subst hy; rw [Nat.zero_mul, List.drop_zero, ← hrp.len, List.take_length]; exact hrp
          | succ j => simp at hy) h3
  obtain ⟨hil, hir⟩ := hfl (parts.toList.map fun q => a.eval q.2) xs (by rw [hxl]; simp) (fun j x hj => by
    obtain ⟨u, h1, h2⟩ := hrep j x hj
    exact ⟨u, h1, h2⟩)
  obtain ⟨m', hr2, hx2, hs⟩ := newRow_core (et := e0) hr' hn _ hil hir (by
    have h0 : 0 < ty.size := by simpa [Nat.blt_eq] using hz
    have := Nat.le_mul_of_pos_right len h0
    unfold lenMax; omega)
  have hzc : (mkV ty ty.zero).cells = ty.zero.toArray := by rw [← Array.toList_inj, mkV_cells (Ty.zero_rep w S ty)]
  have hzl : ty.zero.length = ty.size := (Ty.zero_rep w S ty).len
  have hfill : ∀ A : Array Value, A.size = len * ty.size → Instr.fill (fun i => some (i * ty.size, ty.size)) A (parts.map fun q => (q.1, a.eval q.2)).toList = some (((parts.toList.map fun q => a.eval q.2).flatMap fun u => u.cells.toList)).toArray := by
    intro A hA
    have h1 := inOrder_zip a.eval hpo
    rw [Array.toList_map, h1]
    have := fill_all ty.size (parts.toList.map fun q => a.eval q.2) 0 A.toList (by simp [hA]; rw [← hlen]; simp) (fun u hu => (hcs u hu).1)
    simpa using this
  unfold Oper.wp
  have hex : (execOp a.eval ⟨some i, .buildSlice xt len parts, t, p, af, g⟩).run P w = .ok (.value (.slice (some ⟨w.heap.size, 0, none⟩) len len)) (w.alloc (.cells ((parts.toList.map fun q => a.eval q.2).flatMap fun u => u.cells.toList).toArray e0)) := by
    simp only [execOp, Instr.buildSlice, Sem.run_bind, run_underlying hd, Result.andThen_ok, (hL _ _ hLe).size]
    rw [if_neg (by simpa using hsz)]
    by_cases h0 : len * ty.size = 0
    · simp only [if_pos h0, Sem.run_bind, Sem.run_pure, Result.andThen_ok]
      rw [hfill _ (by simp [h0])]
      simp [newRow, newObj]
      rfl
    · simp only [if_neg h0, Sem.run_bind, (hL _ _ hLe).zeroV, Sem.run_pure, Result.andThen_ok]
      rw [hfill _ (by simp)]
      simp [newRow, newObj]
      rfl
  rw [hex, Oper.upon_value]
  refine hK m' S' _ _ ((hr.step (hx.trans hx2) hr2).put hdst ⟨false, 0, ty, e0, xs, hset_same _ _ _, Nat.le_refl _, fun _ => ?_⟩) (hx.trans hx2) ((Below.refl _ _).alloc hr.hrel.base _) rfl
  rw [← hs, hxl']
end
end Go.Vs

/- Struct values; elements of rows stored. -/
set_option linter.unusedVariables false
set_option linter.unusedSimpArgs false
namespace Go.Vs
open Go Go.RowKit

def okB (h : Heap) : AV → Bool
  | .dead => false
  | .v t _ => !t.isS
  | .vp t _ => !t.isS
  | .rw n k => match h n with
      | .row _ ver _ _ _ => Nat.beq k ver
      | _ => false
  | .rp n _ k => match h n with
      | .row _ ver _ _ _ => Nat.beq k ver
      | _ => false
  | .agg _ => false
  | .tup _ => false
  | _ => true
def okBs (h : Heap) : List AV → Bool
  | [] => true
  | c :: cs => okB h c && okBs h cs
theorem okB_ok {h : Heap} {c : AV} (hb : okB h c = true) : OkA h c := by
  cases c with
  | dead => simp [okB] at hb
  | v t x => simpa [okB, OkA] using hb
  | rw n k =>
    simp only [okB] at hb
    split at hb
    · rename_i hn
      obtain rfl := Nat.eq_of_beq_eq_true hb
      exact ⟨_, _, _, _, hn⟩
    · cases hb
  | rp n i k =>
    simp only [okB] at hb
    split at hb
    · rename_i hn
      obtain rfl := Nat.eq_of_beq_eq_true hb
      exact ⟨_, _, _, _, hn⟩
    · cases hb
  | agg cs => simp [okB] at hb
  | tup cs => simp [okB] at hb
  | nils => trivial
  | nilp => trivial
  | bp n o => trivial
  | bs n => trivial
  | vp t p => simpa [okB, OkA] using hb
  | clo f cs => trivial
theorem okBs_ok {h : Heap} : ∀ {cs : List AV}, okBs h cs = true → ∀ c ∈ cs, OkA h c
  | [], _, c, hc => by simp at hc
  | a :: cs, hb, c, hc => by
    simp only [okBs, Bool.and_eq_true] at hb
    rcases List.mem_cons.1 hc with rfl | hc
    · exact okB_ok hb.1
    · exact okBs_ok hb.2 c hc

def isV : AV → Bool
  | .v _ _ => true
  | _ => false
def buildA (h : Heap) (ty : Ty) : List AV → List (Nat × AV) → Option (List AV)
  | cs, [] => some cs
  | cs, (f, a) :: r => match cellsA a with
      | some vs => bif (Nat.blt f ty.nfld && Nat.beq vs.length (ty.fld f).size) && (okBs h vs || isV a) then buildA h ty (spliceA cs (ty.off f) vs) r else none
      | none => none

section
variable {P : Program} {G : Nat → AV} {L : Lay} {N : Nat} {e : Env} {h : Heap} {d : Option Tmp} {i : Nat} {t : TypeId} {p : String} {af : Array Edge} {g : Option (Nat × Bool)} {v : AV}

/-- A value's cells. -/
theorem cellsA_rep {m : Lm} {S : Foot} {w : World} {a : AV} {vs : List AV} {u : Value} (hy : cellsA a = some vs) (hok : (∀ c ∈ vs, OkA h c) ∨ ∃ t x, a = .v t x) (r : RepA m S w h a u) :
    RepAs m S w h vs u.cells.toList ∧ ∀ c ∈ u.cells.toList, c.oneCell' = true := by
  cases a with
  | v ty' y' =>
    simp only [cellsA, Option.some.injEq] at hy; subst hy
    obtain ⟨cs1, hrp, rfl⟩ := r
    rw [mkV_cells hrp]
    exact ⟨flatA_rep hrp, hrp.one⟩
  | agg cs1 =>
    simp only [cellsA, Option.some.injEq] at hy; subst hy
    obtain ⟨us1, rfl, hs⟩ := r
    rcases hok with hok | ⟨_, _, hok⟩
    · exact ⟨by simpa [Value.cells] using hs, by simpa [Value.cells] using OkA.ones hok hs⟩
    · cases hok
  | dead => simp [cellsA] at hy
  | tup _ => simp [cellsA] at hy
  | rp _ _ _ => simp [cellsA] at hy
  | nils => simp only [cellsA, Option.some.injEq] at hy; subst hy; rcases hok with hok | ⟨_, _, hok⟩; (have ok := (hok _ List.mem_cons_self).one r; rw [ok.2]; exact ⟨⟨_, [], rfl, r, rfl⟩, by simpa using ok.1⟩); cases hok
  | nilp => simp only [cellsA, Option.some.injEq] at hy; subst hy; rcases hok with hok | ⟨_, _, hok⟩; (have ok := (hok _ List.mem_cons_self).one r; rw [ok.2]; exact ⟨⟨_, [], rfl, r, rfl⟩, by simpa using ok.1⟩); cases hok
  | rw _ _ => simp only [cellsA, Option.some.injEq] at hy; subst hy; rcases hok with hok | ⟨_, _, hok⟩; (have ok := (hok _ List.mem_cons_self).one r; rw [ok.2]; exact ⟨⟨_, [], rfl, r, rfl⟩, by simpa using ok.1⟩); cases hok
  | bp _ _ => simp only [cellsA, Option.some.injEq] at hy; subst hy; rcases hok with hok | ⟨_, _, hok⟩; (have ok := (hok _ List.mem_cons_self).one r; rw [ok.2]; exact ⟨⟨_, [], rfl, r, rfl⟩, by simpa using ok.1⟩); cases hok
  | bs _ => simp only [cellsA, Option.some.injEq] at hy; subst hy; rcases hok with hok | ⟨_, _, hok⟩; (have ok := (hok _ List.mem_cons_self).one r; rw [ok.2]; exact ⟨⟨_, [], rfl, r, rfl⟩, by simpa using ok.1⟩); cases hok
  | vp _ _ => simp only [cellsA, Option.some.injEq] at hy; subst hy; rcases hok with hok | ⟨_, _, hok⟩; (have ok := (hok _ List.mem_cons_self).one r; rw [ok.2]; exact ⟨⟨_, [], rfl, r, rfl⟩, by simpa using ok.1⟩); cases hok
  | clo _ _ => simp only [cellsA, Option.some.injEq] at hy; subst hy; rcases hok with hok | ⟨_, _, hok⟩; (have ok := (hok _ List.mem_cons_self).one r; rw [ok.2]; exact ⟨⟨_, [], rfl, r, rfl⟩, by simpa using ok.1⟩); cases hok

theorem places_eq {fs : List Field} (hi : ∀ f ∈ fs, ∃ i, P.info? f.type = some i) :
    fs.mapM (fun f => (P.info? f.type).map fun i => (f.offset, i.size)) = some (fs.map fun f => (f.offset, ((P.info? f.type).map (·.size)).getD 0)) := by
  induction fs with
  | nil => rfl
  | cons f fs ih =>
    obtain ⟨i, hf⟩ := hi f List.mem_cons_self
    have := ih (fun g hg => hi g (List.mem_cons_of_mem _ hg))
    simp only [List.mapM_cons, hf, Option.map_some, Option.bind_eq_bind, Option.bind_some, this, Option.pure_def, List.map_cons, Option.getD_some]

theorem buildA_rep {m : Lm} {S : Foot} {w : World} {ty : Ty} {places : Nat → Option (Nat × Nat)} (hp : ∀ f, f < ty.nfld → places f = some (ty.off f, (ty.fld f).size)) :
    ∀ {parts : List (Nat × AV)} {vals : List (Nat × Value)} {cs cs' : List AV} {us : List Value}, buildA h ty cs parts = some cs' → RepAs m S w h cs us → us.length = ty.size → vals.length = parts.length →
      (∀ (j f : Nat) (a : AV), parts[j]? = some (f, a) → ∃ u : Value, vals[j]? = some (f, u) ∧ RepA m S w h a u) → ∃ us', Instr.fill places us.toArray vals = some us'.toArray ∧ RepAs m S w h cs' us'
  | [], vals, cs, cs', us, hv, r, hl, hvl, hq => by
    have := List.eq_nil_of_length_eq_zero hvl
    subst this
    simp only [buildA, Option.some.injEq] at hv; subst hv
    exact ⟨us, rfl, r⟩
  | (f, a) :: parts, vals, cs, cs', us, hv, r, hl, hvl, hq => by
    obtain ⟨u, h1, h2⟩ := hq 0 f a rfl
    cases vals with
    | nil => simp at h1
    | cons q vals =>
      simp at h1; subst h1
      simp only [buildA] at hv
      split at hv
      · rename_i vs hvs
        cases hb : (Nat.blt f ty.nfld && Nat.beq vs.length (ty.fld f).size) && (okBs h vs || isV a) with
        | false => rw [hb] at hv; cases hv
        | true =>
          rw [hb] at hv
          simp only [cond_true] at hv
          simp only [Bool.and_eq_true, Bool.or_eq_true] at hb
          obtain ⟨⟨hf, hsz⟩, hok⟩ := hb
          have hf : f < ty.nfld := by simpa [Nat.blt_eq] using hf
          have hsz := Nat.eq_of_beq_eq_true hsz
          obtain ⟨h3, _⟩ := cellsA_rep hvs (hok.imp okBs_ok (fun hm => by cases a <;> first | exact ⟨_, _, rfl⟩ | simp [isV] at hm)) h2
          have hul : u.cells.size = (ty.fld f).size := by rw [← Array.length_toList, h3.len, hsz]
          have hoff := ty.off_le f hf
          have hspl := foldSet u.cells.toList 0 (ty.off f) us.toArray (by simp [hul]; omega)
          rw [Nat.add_zero] at hspl
          have hlen : (spliceV us (ty.off f) u.cells.toList).length = ty.size := by
            have : u.cells.toList.length = (ty.fld f).size := by simpa using hul
            simp only [spliceV, List.length_append, List.length_take, List.length_drop, this]; omega
          obtain ⟨us', h4, h5⟩ := buildA_rep hp hv (spliceA_rep r h3 (by rw [← r.len, hsz]; omega)) hlen (by simpa using hvl) (fun j f' a' hj => by
            have := hq (j + 1) f' a' (by simpa using hj)
            simpa using this)
          refine ⟨us', ?_, h5⟩
          simp only [Instr.fill, hp f hf]
          rw [if_neg (by simp [hul]; omega)]
          have hf2 : u.cells.zipIdx.foldl (fun (cs : Array Value) (x : Value × Nat) => match x with | (c, j) => cs.setIfInBounds (ty.off f + j) c) us.toArray = (spliceV us (ty.off f) u.cells.toList).toArray := by
            rw [← hspl, ← Array.foldl_toList, Array.toList_zipIdx]
          rw [hf2]
          exact h4
      · cases hv

theorem opBuild {xt : TypeId} {ty : Ty} {parts : Array (Nat × Operand)} {cs' : List AV} (hL : LayOk P L) (ht : L xt = some ty) (hs : ty.isS = true)
    (hb : (buildA h ty ty.zeroA (parts.toList.map fun q => (q.1, ev G e q.2))).bind forceL = some cs') : OpRead P G ⟨d, .build xt parts, t, p, af, g⟩ e h (.agg cs') := by
  intro base m S w a hr ho
  have hF := hL _ _ ht
  cases hq : buildA h ty ty.zeroA (parts.toList.map fun q => (q.1, ev G e q.2)) with
  | none => rw [hq] at hb; cases hb
  | some c1 =>
    rw [hq] at hb
    obtain rfl := forceL_eq hb
    cases ty with
    | cons ta tr =>
      obtain ⟨fs, hu, ⟨hl, hfl⟩, inf, hi, hz, _⟩ := hF
      have hinfo : ∀ f ∈ fs.toList, ∃ i, P.info? f.type = some i := by
        intro f hf
        obtain ⟨j, hj, rfl⟩ := List.getElem_of_mem hf
        obtain ⟨_, h2⟩ := hfl j _ (List.getElem?_eq_getElem hj)
        obtain ⟨i, h3, _⟩ := (hL _ _ h2).inf
        exact ⟨i, h3⟩
      have hpl := places_eq hinfo
      have hplaces : ∀ f, f < (Ty.cons ta tr).nfld → (fs.toList.map fun f => (f.offset, ((P.info? f.type).map (·.size)).getD 0)).toArray[f]? = some ((Ty.cons ta tr).off f, ((Ty.cons ta tr).fld f).size) := by
        intro f hf
        have hj : f < fs.toList.length := by rw [hl]; exact hf
        obtain ⟨h1, h2⟩ := hfl f _ (List.getElem?_eq_getElem hj)
        obtain ⟨i, h3, _, h4, _⟩ := (hL _ _ h2).inf
        have hj' : f < fs.size := by simpa using hj
        simp [List.getElem?_eq_getElem hj, hj'] at h1 h2 h3 ⊢
        exact ⟨h1, by simp [h3, h4]⟩
      obtain ⟨us', h1, h2⟩ := buildA_rep (w := w) (m := m) (S := S) (us := (Ty.cons ta tr).zero) (vals := parts.toList.map fun q => (q.1, a.eval q.2)) hplaces hq (Ty.zeroA_rep _) (Ty.zero_rep w S _).len (by simp) (fun j f a' hj => by
        simp only [List.getElem?_map, Option.map_eq_some_iff] at hj
        obtain ⟨q, hq1, hq2⟩ := hj
        simp only [Prod.mk.injEq] at hq2
        obtain ⟨rfl, rfl⟩ := hq2
        refine ⟨a.eval q.2, by simp [hq1], ho q.2 ?_⟩
        simp only [Op.operands, List.mem_toArray, List.mem_map]
        exact ⟨q, List.mem_of_getElem? hq1, rfl⟩)
      have hbuilt : P.built xt (parts.map fun (i, x) => (i, a.eval x)).toList = some us'.toArray := by
        simp only [Program.built, hi, hu, hz, hpl, Array.toList_map]
        exact h1
      refine ⟨.agg us'.toArray, ?_, us', rfl, h2⟩
      simp only [execOp, run_build w xt _ _ hbuilt, Sem.run_bind, Result.andThen_ok, Sem.run_pure]
    | nil => exact hF.elim
    | _ => simp [Ty.isS] at hs

/-- An element of a row is stored. -/
theorem opStoreRp {xt : TypeId} {x y : Operand} {ty : Ty} {n : Nm} {ver k : Nat} {et : TypeId} {xs : List ty.D} {z : ty.D} {h1 : Heap} {ob : Ob} (hL : LayOk P L) (ht : L xt = some ty) (hx : ev G e x = .rp n k ver) (hn : h n = .row false ver ty et xs)
    (hc : convA h ty (ev G e y) = some (z, h1)) (hn1 : h1 n = .row false ver ty et xs) (hob : ob = .row false ver ty et (xs.set k z)) :
    OpSem P G N ⟨none, .store xt x y, t, p, af, g⟩ e h e (hset h1 n ob) := by
  subst hob
  intro base m S w a K Q hr hdst hK
  have hx' := hx ▸ hr.ev x
  obtain ⟨fr2, ver2, t2, e2, xs2, hn2, h3, h4⟩ := hx'
  rw [hn] at hn2
  injection hn2 with _ hv2 hb2 _ hd2
  subst hb2
  obtain rfl := eq_of_heq hd2
  obtain ⟨hk, hu⟩ := h4 hv2
  obtain ⟨S1, hr1, hx1, cs, hrep, hval⟩ := convA_sound hc hr.hrel (hr.ev y)
  have hob := hr1.row hn1
  have hnn : (m n).isnil = false := by
    cases hq : (m n).isnil with
    | false => rfl
    | true => have := hob.nilEmpty hq; omega
  obtain ⟨inner, ho, hre, hmax, hfoot⟩ := hob
  obtain ⟨cur, hheap, hbase, hcap, hmx, hcur, htake⟩ : ∃ cur, w.heap[(m n).blk]? = some (.cells cur et (0, 0)) ∧ base ≤ (m n).blk ∧ xs.length ≤ (m n).cap ∧ (m n).cap ≤ maxLen ∧ cur.size = (m n).cap * ty.size ∧ cur.toList.take (xs.length * ty.size) = inner := by
    rcases ho.2 with ⟨hv, _⟩ | ⟨g', cap, cur, hv, h5, h6, h7, h8, h9, h10⟩
    · simp [sliceV, hnn] at hv
    · simp [sliceV, hnn] at hv
      obtain ⟨rfl, rfl⟩ := hv
      exact ⟨cur, h6, h5, h7, h8, h9, h10⟩
  have hpos : k * ty.size + ty.size ≤ xs.length * ty.size := by rw [← Nat.succ_mul]; exact Nat.mul_le_mul_right _ hk
  have hcapl : xs.length * ty.size ≤ cur.size := by rw [hcur]; exact Nat.mul_le_mul_right _ hcap
  have hcs := hrep.len
  obtain ⟨w', hrun, hb, ho', hs, q1, q2, q3⟩ := run_storeCells (P := P) cs 0 w (m n).blk (k * ty.size) cur.toList et (by simpa using hheap) (by simp; omega) hrep.one
  rw [Nat.add_zero] at hb
  have hcells : (a.eval y).cells.toList = cs := by rw [hval, mkV_cells hrep]
  have hex : (execOp a.eval ⟨none, .store xt x y, t, p, af, g⟩).run P w = .ok .skip w' := by
    have hsz : (a.eval y).cells.size = ty.size := by rw [← Array.length_toList, hcells, hcs]
    simp only [execOp, hu, Instr.storeAt, Instr.sureAddr, storeVar, Sem.run_bind, Sem.run_pure, Result.andThen_ok, (hL _ _ ht).size, hsz, ne_eq, not_true_eq_false, if_false, hcells, hrun]
  have hnS := (hfoot hnn).1 rfl
  have hsame : Same S1 w w' := ⟨fun b k' hk' => World.cell?_of_block (w := w) (ho' b (fun he => hnS k' (he ▸ hk')))⟩
  have hm := mset_self m n
  have hlt : (m n).blk < w.heap.size := (Array.getElem?_eq_some_iff.1 hheap).1
  have hx2 : Ext m S1 w h1 m S1 w' (hset h1 n (.row false ver ty et (xs.set k z))) := by
    refine ⟨fun _ _ hs => hs, hsame, fun n' fr v0 t0 e0 x0 hn' => ?_, fun n' fr cs1 hn' => ?_⟩
    · by_cases he : n' = n
      · subst he
        rw [hn1] at hn'
        injection hn' with g1 g2 g3 g4 g5
        subst g3 g4
        obtain rfl := eq_of_heq g5
        exact ⟨false, ver, _, hset_same _ _ _, .inr ⟨g2, by simp, rfl⟩⟩
      · exact ⟨fr, v0, x0, by rw [hset_ne _ _ he]; exact hn', .inr ⟨rfl, rfl, rfl⟩⟩
    · have he : n' ≠ n := fun he => by subst he; rw [hn1] at hn'; cases hn'
      exact ⟨fr, cs1, by rw [hset_ne _ _ he]; exact hn', rfl, rfl⟩
  have hrel : HRel G base m S1 w' (hset h1 n (.row false ver ty et (xs.set k z))) := by
    have := hr1.upd (n := n) (ob' := .row false ver ty et (xs.set k z)) (l := m n) (w' := w') (S' := S1) (by rw [hn1]; simp) (by simp) (by rw [hm]; exact hx2)
      (fun k' _ hk' => ho' k' (hk' hnn)) (by omega) (fun _ _ _ _ hs => hs) (fun k' o' hk' => by rw [hs]; exact hr1.foot _ _ hk') (fun _ => .inl ⟨hnn, rfl⟩)
      (by
        rw [hm]
        have hspl : (spliceV cur.toList (k * ty.size) cs).take (xs.length * ty.size) = spliceV inner (k * ty.size) cs := by
          rw [← htake]
          apply List.ext_getElem?
          intro j
          simp only [spliceV, List.getElem?_take, List.getElem?_append, List.getElem?_drop, List.length_append, List.length_take, Array.length_toList]
          have e1 : min (k * ty.size) cur.size = k * ty.size := by omega
          have e2 : min (k * ty.size) (min (xs.length * ty.size) cur.size) = k * ty.size := by omega
          rw [e1, e2]
          by_cases c0 : j < xs.length * ty.size
          · by_cases c1 : j < k * ty.size + cs.length
            · by_cases c2 : j < k * ty.size
              · simp [c0, c1, c2]
              · simp [c0, c1, c2]
            · simp [c0, c1, show k * ty.size + cs.length + (j - (k * ty.size + cs.length)) = j by omega]
          · simp [c0, show ¬ j < k * ty.size + cs.length by omega, show ¬ (k * ty.size + cs.length + (j - (k * ty.size + cs.length)) < xs.length * ty.size) by omega]
        refine ⟨spliceV inner (k * ty.size) cs, ⟨?_, .inr ⟨(m n).blk, (m n).cap, (spliceV cur.toList (k * ty.size) cs).toArray, by simp [sliceV, hnn], hbase, hb, by simpa using hcap, hmx, ?_, by simpa using hspl⟩⟩, ?_, by simpa using hmax, fun hq => ⟨fun _ => hnS, (fun hf => by cases hf)⟩⟩
        · rw [← hspl]; simp only [spliceV, List.length_take, List.length_append, List.length_drop, Array.length_toList, List.length_set]; omega
        · simp only [spliceV, List.size_toArray, List.length_append, List.length_take, List.length_drop, Array.length_toList]; omega
        · intro j x hj
          have hil := ho.1
          by_cases hjk : j = k
          · subst hjk
            rw [List.getElem?_set_self hk] at hj
            obtain rfl := Option.some.inj hj
            have : (List.drop (j * ty.size) (spliceV inner (j * ty.size) cs)).take ty.size = cs := by
              simp only [spliceV, List.append_assoc]
              rw [List.drop_append, List.drop_of_length_le (by simp; omega)]
              simp only [List.nil_append, List.length_take]
              rw [show j * ty.size - min (j * ty.size) inner.length = 0 by omega, List.drop_zero, ← hcs, List.take_left]
            rw [this]
            exact hrep.mono hsame (fun _ _ hs => hs)
          · rw [List.getElem?_set_ne (Ne.symm hjk)] at hj
            have hold := (hre j x hj).mono hsame (fun _ _ hs => hs)
            have hjl := (List.getElem?_eq_some_iff.1 hj).1
            have hj2 : j * ty.size + ty.size ≤ xs.length * ty.size := by rw [← Nat.succ_mul]; exact Nat.mul_le_mul_right _ hjl
            have : (List.drop (j * ty.size) (spliceV inner (k * ty.size) cs)).take ty.size = (List.drop (j * ty.size) inner).take ty.size := by
              apply List.ext_getElem?
              intro l
              simp only [List.getElem?_take, List.getElem?_drop, spliceV, List.getElem?_append, List.length_append, List.length_take]
              by_cases hl : l < ty.size
              · simp only [if_pos hl]
                have e1 : min (k * ty.size) inner.length = k * ty.size := by omega
                rw [e1]
                rcases Nat.lt_or_gt_of_ne hjk with hlt' | hgt
                · have : j * ty.size + ty.size ≤ k * ty.size := by rw [← Nat.succ_mul]; exact Nat.mul_le_mul_right _ hlt'
                  simp [show j * ty.size + l < k * ty.size + cs.length by omega, show j * ty.size + l < k * ty.size by omega]
                · have : k * ty.size + ty.size ≤ j * ty.size := by rw [← Nat.succ_mul]; exact Nat.mul_le_mul_right _ hgt
                  rw [if_neg (by omega)]
                  congr 1
                  omega
              · simp only [if_neg hl]
            rw [this]
            exact hold)
    rw [hm] at this
    exact this
  unfold Oper.wp
  rw [hex, Oper.upon_skip]
  exact hK m S1 a w' (hr.step (hx1.trans hx2) hrel) (hx1.trans hx2) ⟨q1, q2, q3, by omega, fun k' hk' => ho' k' (by omega)⟩ rfl
end
end Go.Vs

/- Calls: the caller's names seen from the callee; what a function gives. -/
set_option linter.unusedVariables false
set_option linter.unusedSimpArgs false
namespace Go.Vs
open Go Go.RowKit Go.Proofs

mutual
def AV.up : AV → AV
  | .dead => .dead
  | .v t x => .v t x
  | .nils => .nils
  | .nilp => .nilp
  | .rw n k => .rw (.out n) k
  | .rp n i k => .rp (.out n) i k
  | .bp n o => .bp (.out n) o
  | .bs n => .bs (.out n)
  | .vp t p => .vp t p
  | .agg cs => .agg (AV.ups cs)
  | .tup cs => .tup (AV.ups cs)
  | .clo f cs => .clo f (AV.ups cs)
def AV.ups : List AV → List AV
  | [] => []
  | c :: cs => c.up :: AV.ups cs
end
def Ob.up : Ob → Ob
  | .none => .none
  | .box fr cs => .box fr (AV.ups cs)
  | .row fr ver t e xs => .row fr ver t e xs
def pushH (h : Heap) : Heap
  | .own _ => .none
  | .out n => (h n).up
def pushM (m : Lm) : Lm
  | .own _ => ⟨0, 0, false⟩
  | .out n => m n
def popM (m : Lm) : Lm := fun n => m (.out n)
/-- h2 is, of the caller's objects, what h is. -/
def Outs (h h2 : Heap) : Prop := ∀ n, h2 (.out n) = (h n).up

theorem Outs.push (h : Heap) : Outs h (pushH h) := fun _ => rfl

theorem Ob.up_row {o : Ob} {fr ver t e} {xs : List (Ty.D t)} : o.up = .row fr ver t e xs ↔ o = .row fr ver t e xs := by
  cases o <;> simp [Ob.up]
theorem ups_len : ∀ cs : List AV, (AV.ups cs).length = cs.length
  | [] => rfl
  | c :: cs => by simp only [AV.ups, List.length_cons, ups_len cs]
theorem Ob.up_box {o : Ob} {fr cs} (ho : o.up = .box fr cs) : ∃ cs', o = .box fr cs' ∧ cs.length = cs'.length := by
  cases o <;> simp [Ob.up] at ho
  obtain ⟨rfl, rfl⟩ := ho
  exact ⟨_, rfl, ups_len _⟩
theorem Ob.up_none {o : Ob} : o.up = .none ↔ o = .none := by cases o <;> simp [Ob.up]

section
variable {m m2 : Lm} {S : Foot} {w : World} {h h2 : Heap}
mutual
theorem RepA.up (hm : ∀ n, m2 (.out n) = m n) (ho : Outs h h2) : ∀ {a : AV} {u : Value}, RepA m2 S w h2 a.up u ↔ RepA m S w h a u
  | .dead, _ => by simp [AV.up, RepA]
  | .v t x, _ => by simp [AV.up, RepA]
  | .nils, _ => by simp [AV.up, RepA]
  | .nilp, _ => by simp [AV.up, RepA]
  | .rw n k, u => by simp only [AV.up, RepA, ho n, Ob.up_row, hm n]
  | .rp n i k, u => by simp only [AV.up, RepA, ho n, Ob.up_row, hm n]
  | .bp n o, u => by
    simp only [AV.up, RepA, ho n, hm n]
    constructor
    · rintro ⟨fr, cs, h1, h2⟩
      obtain ⟨cs', h3, _⟩ := Ob.up_box h1
      exact ⟨fr, cs', h3, h2⟩
    · rintro ⟨fr, cs, h1, h2⟩
      exact ⟨fr, AV.ups cs, by rw [h1]; rfl, h2⟩
  | .bs n, u => by
    simp only [AV.up, RepA, ho n, hm n]
    constructor
    · rintro ⟨fr, cs, h1, h2, h4⟩
      obtain ⟨cs', h3, hl⟩ := Ob.up_box h1
      exact ⟨fr, cs', h3, by rw [← hl]; exact h2, by omega⟩
    · rintro ⟨fr, cs, h1, h2, h4⟩
      exact ⟨fr, AV.ups cs, by rw [h1]; rfl, by rw [ups_len]; exact h2, by rw [ups_len]; exact h4⟩
  | .vp t p, u => by simp [AV.up, RepA]
  | .agg cs, u => by simp only [AV.up, RepA, RepAs.ups hm ho]
  | .tup cs, u => by simp only [AV.up, RepA, RepAs.ups hm ho]
  | .clo f cs, u => by simp only [AV.up, RepA, RepAs.ups hm ho]
theorem RepAs.ups (hm : ∀ n, m2 (.out n) = m n) (ho : Outs h h2) : ∀ {a : List AV} {us : List Value}, RepAs m2 S w h2 (AV.ups a) us ↔ RepAs m S w h a us
  | [], _ => by simp [AV.ups, RepAs]
  | c :: cs, _ => by simp only [AV.ups, RepAs, RepA.up hm ho, RepAs.ups hm ho]
end
theorem ObRel.up {base : Nat} {n : Nm} (hm : ∀ n, m2 (.out n) = m n) (ho : Outs h h2) : ∀ {ob : Ob}, ObRel base m2 S w h2 (.out n) ob.up ↔ ObRel base m S w h n ob
  | .none => by simp [Ob.up, ObRel]
  | .box fr cs => by simp only [Ob.up, ObRel, hm n, RepAs.ups hm ho]
  | .row fr ver t e xs => by simp only [Ob.up, ObRel, hm n]

variable {G : Nat → AV} {base : Nat} {S' : Foot} {w' : World} {h' : Heap}
theorem HRel.push (hG : ∀ g, (G g).up = G g) (r : HRel G base m S w h) : HRel G base (pushM m) S w (pushH h) := by
  have hm : ∀ n, pushM m (.out n) = m n := fun _ => rfl
  have ho : Outs h (pushH h) := Outs.push h
  refine ⟨fun g => ?_, fun n => ?_, fun n n' h1 h2 h3 h4 h5 => ?_, r.foot, r.base⟩
  · rw [← hG g]; exact (RepA.up hm ho).2 (r.glob g)
  · cases n with
    | own i => exact trivial
    | out n => exact (ObRel.up hm ho).2 (r.ob n)
  · cases n with
    | own i => exact absurd rfl h1
    | out n => cases n' with
      | own i => exact absurd rfl h2
      | out n' => exact congrArg Nm.out (r.inj n n' (fun hq => h1 (Ob.up_none.2 hq)) (fun hq => h2 (Ob.up_none.2 hq)) h3 h4 h5)
theorem HRel.pop (hG : ∀ g, (G g).up = G g) (r : HRel G base m2 S w h2) (ho : Outs h h2) : HRel G base (popM m2) S w h := by
  have hm : ∀ n, m2 (.out n) = popM m2 n := fun _ => rfl
  refine ⟨fun g => ?_, fun n => ?_, fun n n' h1 h2 h3 h4 h5 => ?_, r.foot, r.base⟩
  · have := r.glob g
    rw [← hG g] at this
    exact (RepA.up hm ho).1 this
  · have := r.ob (.out n)
    rw [ho n] at this
    exact (ObRel.up hm ho).1 this
  · have := r.inj (.out n) (.out n') (fun hq => h1 (Ob.up_none.1 ((ho n).symm.trans hq))) (fun hq => h2 (Ob.up_none.1 ((ho n').symm.trans hq))) h3 h4 h5
    injection this
theorem Ext.pop (x : Ext (pushM m) S w (pushH h) m2 S' w' h2) (ho : Outs h' h2) : Ext m S w h (popM m2) S' w' h' := by
  refine ⟨x.foot, x.same, fun n fr ver t e xs hn => ?_, fun n fr cs hn => ?_⟩
  · obtain ⟨fr', ver', xs', h1, h2⟩ := x.row (.out n) fr ver t e xs (by change (h n).up = _; rw [hn]; rfl)
    rw [ho n] at h1
    exact ⟨fr', ver', xs', Ob.up_row.1 h1, h2⟩
  · obtain ⟨fr', cs', h1, h2, hl⟩ := x.box (.out n) fr (AV.ups cs) (by change (h n).up = _; rw [hn]; rfl)
    rw [ho n] at h1
    obtain ⟨cs'', h3, hl2⟩ := Ob.up_box h1
    exact ⟨fr', cs'', h3, h2, by rw [← hl2, hl, ups_len]⟩
end

/-- What a function gives for such arguments in such a heap. -/
def FnRes (P : Program) (G : Nat → AV) (f : FuncId) (args : List AV) (h : Heap) (r : AV) (h' : Heap) : Prop :=
  Enters P f ∧ ∀ base m S w (us : List Value), HRel G base m S w h → RepAs m S w h args us →
    Calls P f us.toArray w fun
      | .returned v, w' => ∃ m' S', RepA m' S' w' h' r v ∧ HRel G base m' S' w' h' ∧ Ext m S w h m' S' w' h' ∧ Below base w w'
      | _, _ => False

/-- Arguments as a signature asks: some t: a datum of type t. -/
def convArgs (h : Heap) : List (Option Ty) → List AV → Option (List AV × Heap)
  | [], [] => some ([], h)
  | none :: sg, a :: vs => match convArgs h sg vs with
      | some (r, h') => some (a :: r, h')
      | none => none
  | some t :: sg, a :: vs => match convA h t a with
      | some (x, h1) => (match convArgs h1 sg vs with
          | some (r, h') => some (.v t x :: r, h')
          | none => none)
      | none => none
  | _, _ => none

section
variable {P : Program} {G : Nat → AV} {N base : Nat} {m : Lm} {S : Foot} {w : World} {h h' : Heap}
theorem convArgs_sound : ∀ (sg : List (Option Ty)) {S : Foot} {h h' : Heap} {vs vs' : List AV} {us : List Value}, convArgs h sg vs = some (vs', h') → HRel G base m S w h → RepAs m S w h vs us →
    ∃ S', HRel G base m S' w h' ∧ Ext m S w h m S' w h' ∧ RepAs m S' w h' vs' us
  | [], S, h, h', vs, vs', us, hv, hr, rs => by
    cases vs with
    | nil =>
      simp only [convArgs, Option.some.injEq, Prod.mk.injEq] at hv
      obtain ⟨rfl, rfl⟩ := hv
      exact ⟨S, hr, Ext.refl _ _ _ _, rs⟩
    | cons a vs => simp [convArgs] at hv
  | o :: sg, S, h, h', vs, vs', us, hv, hr, rs => by
    cases vs with
    | nil => cases o <;> simp [convArgs] at hv
    | cons a vs =>
      obtain ⟨u, us', rfl, h1, h2⟩ := rs
      cases o with
      | none =>
        simp only [convArgs] at hv
        split at hv
        · rename_i r h'' he
          simp only [Option.some.injEq, Prod.mk.injEq] at hv
          obtain ⟨rfl, rfl⟩ := hv
          obtain ⟨S', hr', hx, rs'⟩ := convArgs_sound sg he hr h2
          exact ⟨S', hr', hx, u, us', rfl, h1.mono hx, rs'⟩
        · cases hv
      | some t =>
        simp only [convArgs] at hv
        split at hv
        · rename_i x h1' he1
          split at hv
          · rename_i r h'' he
            simp only [Option.some.injEq, Prod.mk.injEq] at hv
            obtain ⟨rfl, rfl⟩ := hv
            obtain ⟨S1, hr1, hx1, hrep⟩ := convA_sound he1 hr h1
            obtain ⟨S', hr', hx, rs'⟩ := convArgs_sound sg he hr1 (h2.mono hx1)
            exact ⟨S', hr', hx1.trans hx, u, us', rfl, hrep.mono hx.same hx.foot, rs'⟩
          · cases hv
        · cases hv

variable {e : Env} {d : Option Tmp} {t : TypeId} {p : String} {af : Array Edge}
/-- A call of a function, or of a closure that is known. -/
theorem opCall {x : Operand} {args : Array Operand} {tys : Array TypeId} {g : Option (Nat × Bool)} {f : FuncId} {caps vs' : List AV} {h1 : Heap} {r : AV} (sg : List (Option Ty))
    (hx : ev G e x = .clo f caps) (hc : convArgs h sg (args.toList.map (ev G e) ++ caps) = some (vs', h1)) (hf : FnRes P G f vs' h1 r h') :
    OpSem P G N ⟨d, .call ⟨.value x, args, tys⟩, t, p, af, g⟩ e h (put e d r) h' := by
  intro base m S w a K Q hr hd hK
  have hxv := hr.ev x
  rw [hx] at hxv
  obtain ⟨us, hxv, hcaps⟩ := hxv
  have hall := (RepAs.ofEv hr args.toList).append hcaps
  obtain ⟨S1, hr1, hx1, hrep⟩ := convArgs_sound sg hc hr.hrel hall
  have hcall := hf.2 base m S1 w _ hr1 hrep
  have hrun : (execOp a.eval ⟨d, .call ⟨.value x, args, tys⟩, t, p, af, g⟩).run P w = .ok (.enter f ((args.toList.map a.eval ++ us).toArray)) w := by
    have := hf.1 ((args.toList.map a.eval ++ us).toArray) w
    have hargs : args.map a.eval ++ us.toArray = (args.toList.map a.eval ++ us).toArray := by
      rw [← Array.toList_inj]; simp
    rw [← this, ← hargs]
    simp [execOp, resolve, hxv, Deferred.ofValue, invoke]
  unfold Oper.wp
  rw [hrun, Oper.upon_enter]
  refine hcall.mono fun en w' hen => ?_
  cases en with
  | returned v =>
    obtain ⟨m', S', h3, h4, h5, h6⟩ := hen
    have hx2 := hx1.trans h5
    refine hK m' S' _ w' ((hr.step hx2 h4).put hd h3) hx2 h6 ?_
    cases d <;> rfl
  | panicked c => exact hen.elim
  | outgrown => exact hen.elim
end
end Go.Vs

/- The judgement: code that is still to run, at an abstract state. -/
set_option linter.unusedVariables false
set_option linter.unusedSimpArgs false
namespace Go.Vs
open Go Go.RowKit Go.Proofs

inductive It where
  | code (c : Code)
  | ops (all : Array Oper) (r : List Oper)
  | blk (id : Nat)
  | upto (D : Env → Heap → Prop)

structure Start where
  base : Nat
  m : Lm
  S : Foot
  w : World

section
variable (P : Program) (G : Nat → AV) (N : Nat) (h0 : Heap)
def Holds (Γ : Start) (e : Env) (h : Heap) (a : Act) (w : World) : Prop :=
  a.defers = [] ∧ Below Γ.base Γ.w w ∧ ∃ m S, Rel G N Γ.base m S e h a.tmps w ∧ Ext Γ.m Γ.S Γ.w h0 m S w h

def runK (H : Env → Heap → Act → World → Prop) (Q : Env → Heap → Prop) : List It → Exit → Act → World → Prop
  | [], ex, a, w => (match ex with | .normal | .ret => True | _ => False) ∧ ∃ e h, Q e h ∧ H e h a w
  | .code c :: k, ex, a, w => Exit.then (c.wp P (runK H Q k)) (runK H Q k) ex a w
  | .ops all r :: k, ex, a, w => Exit.then (wpList P all (runK H Q k) r) (runK H Q k) ex a w
  | .blk id :: k, ex, a, w => Exit.inBlock id (runK H Q k) ex a w
  | .upto D :: k, ex, a, w => Exit.then (fun a w => ∃ e h, D e h ∧ H e h a w) (runK H Q k) ex a w

/-- From this state what is still to run comes to an end at which Q holds. -/
def W (Q : Env → Heap → Prop) (k : List It) (e : Env) (h : Heap) : Prop :=
  ∀ (Γ : Start) (a : Act) (w : World), Holds G N h0 Γ e h a w → runK P (Holds G N h0 Γ) Q k .normal a w
end

def toBlk (id : Nat) : List It → Option (List It)
  | [] => none
  | .blk j :: k => bif Nat.beq j id then some k else toBlk id k
  | .code _ :: k => toBlk id k
  | .ops _ _ :: k => toBlk id k
  | .upto _ :: k => toBlk id k

section
variable {P : Program} {G : Nat → AV} {N : Nat} {h0 : Heap} {Q : Env → Heap → Prop} {k k' : List It} {e e' : Env} {h h' : Heap}

theorem runK_ret {H : Env → Heap → Act → World → Prop} {a : Act} {w : World} (hq : ∃ e h, Q e h ∧ H e h a w) : ∀ k : List It, runK P H Q k .ret a w
  | [] => ⟨trivial, hq⟩
  | .code _ :: k => runK_ret hq k
  | .ops _ _ :: k => runK_ret hq k
  | .blk _ :: k => runK_ret hq k
  | .upto _ :: k => runK_ret hq k

theorem runK_exit {H : Env → Heap → Act → World → Prop} {a : Act} {w : World} {id : Nat} : ∀ {k k' : List It}, toBlk id k = some k' → runK P H Q k' .normal a w → runK P H Q k (.exit id) a w
  | [], _, he, _ => by cases he
  | .code _ :: k, _, he, hr => runK_exit (k := k) he hr
  | .ops _ _ :: k, _, he, hr => runK_exit (k := k) he hr
  | .upto _ :: k, _, he, hr => runK_exit (k := k) he hr
  | .blk j :: k, k', he, hr => by
    simp only [toBlk] at he
    simp only [runK, Exit.inBlock]
    cases hb : Nat.beq j id with
    | true =>
      rw [hb] at he
      simp only [cond_true, Option.some.injEq] at he
      subst he
      rw [if_pos (Nat.eq_of_beq_eq_true hb).symm]
      exact hr
    | false =>
      rw [hb] at he
      rw [if_neg (fun hq => by subst hq; simp at hb)]
      exact runK_exit (k := k) he hr

theorem W.nil (hq : Q e h) : W P G N h0 Q [] e h := fun Γ a w ho => ⟨trivial, e, h, hq, ho⟩
theorem W.ret (hq : Q e h) : W P G N h0 Q (.code .ret :: k) e h := fun Γ a w ho => wp_ret (runK_ret ⟨e, h, hq, ho⟩ k)
theorem W.exit {id : Nat} (hb : toBlk id k = some k') (hw : W P G N h0 Q k' e h) : W P G N h0 Q (.code (.exit id) :: k) e h := fun Γ a w ho => wp_exit (runK_exit hb (hw Γ a w ho))
theorem W.skip (hw : W P G N h0 Q k e h) : W P G N h0 Q (.code .skip :: k) e h := fun Γ a w ho => wp_skip (hw Γ a w ho)
theorem W.seq {x y : Code} (hw : W P G N h0 Q (.code x :: .code y :: k) e h) : W P G N h0 Q (.code (.seq x y) :: k) e h := fun Γ a w ho => wp_seq (hw Γ a w ho)
theorem W.block {id : Nat} {c : Code} (hw : W P G N h0 Q (.code c :: .blk id :: k) e h) : W P G N h0 Q (.code (.block id c) :: k) e h := fun Γ a w ho => wp_block (hw Γ a w ho)
theorem W.blk {id : Nat} (hw : W P G N h0 Q k e h) : W P G N h0 Q (.blk id :: k) e h := fun Γ a w ho => hw Γ a w ho
theorem W.region {id : Nat} {ops : Array Oper} (hw : W P G N h0 Q (.ops ops ops.toList :: k) e h) : W P G N h0 Q (.code (.region id ops false) :: k) e h := fun Γ a w ho => wp_region_list (hw Γ a w ho)
theorem W.end {all : Array Oper} (hw : W P G N h0 Q k e h) : W P G N h0 Q (.ops all [] :: k) e h := fun Γ a w ho => hw Γ a w ho

theorem Holds.bool {Γ : Start} {a : Act} {w : World} (ho : Holds G N h0 Γ e h a w) {c : Operand} {b : Bool} (hc : ev G e c = .v .bool b) : a.eval c = .bool b := by
  obtain ⟨_, _, m, S, hr, _⟩ := ho
  have := hr.ev c
  rw [hc] at this
  exact this.bool

theorem W.condT {c : Operand} {x y : Code} (hc : ev G e c = .v .bool true) (hw : W P G N h0 Q (.code x :: k) e h) : W P G N h0 Q (.code (.cond c x y) :: k) e h :=
  fun Γ a w ho => wp_cond_true (ho.bool hc) (hw Γ a w ho)
theorem W.condF {c : Operand} {x y : Code} (hc : ev G e c = .v .bool false) (hw : W P G N h0 Q (.code y :: k) e h) : W P G N h0 Q (.code (.cond c x y) :: k) e h :=
  fun Γ a w ho => wp_cond_false (ho.bool hc) (hw Γ a w ho)
theorem W.cond {c : Operand} {x y : Code} {b : Bool} (hc : ev G e c = .v .bool b) (ht : b = true → W P G N h0 Q (.code x :: k) e h) (hf : b = false → W P G N h0 Q (.code y :: k) e h) : W P G N h0 Q (.code (.cond c x y) :: k) e h :=
  fun Γ a w ho => wp_cond_split (ho.bool hc) (fun hb => ht hb Γ a w ho) (fun hb => hf hb Γ a w ho)

/-! #### operations -/
theorem Holds.opSem {Γ : Start} {a : Act} {w : World} {o : Oper} {K : Act → World → Prop} {R : Exit → Act → World → Prop} (ho : Holds G N h0 Γ e h a w) (hs : OpSem P G N o e h e' h') (hd : dstOk N o.dst = true)
    (hK : ∀ a' w', Holds G N h0 Γ e' h' a' w' → K a' w') : o.wp P a w K R := by
  obtain ⟨hdef, hb, m, S, hr, hx⟩ := ho
  exact hs Γ.base m S w a K R hr hd fun m' S' a' w' hr' hx' hb' hd' => hK a' w' ⟨hd'.trans hdef, hb.trans hb', m', S', hr', hx.trans hx'⟩

theorem W.op {all : Array Oper} {o : Oper} {r : List Oper} (hg : o.guard = none) (hs : OpSem P G N o e h e' h') (hd : dstOk N o.dst = true) (hw : W P G N h0 Q (.ops all r :: k) e' h') : W P G N h0 Q (.ops all (o :: r) :: k) e h :=
  fun Γ a w ho => wpList_plain hg fun K hK => ho.opSem hs hd fun a' w' ho' => hK a' w' (hw Γ a' w' ho')

theorem yielded_of {all : Array Oper} {Γ : Start} {a : Act} {w : World} (ho : Holds G N h0 Γ e h a w) {j d : Nat} (hj : (all[j]?).bind (·.dst) = some d) (hd : Nat.blt d N = true) :
    yielded all a.tmps j = (match a.tmps.getD d undef with | .bool b => some b | _ => none) := by
  obtain ⟨_, _, m, S, hr, _⟩ := ho
  have hlt : d < a.tmps.size := by rw [hr.size]; simpa [Nat.blt_eq] using hd
  unfold yielded
  rw [hj]
  simp only [Option.bind_some, Array.getD_eq_getD_getElem?, Array.getElem?_eq_getElem hlt, Option.getD_some]
  generalize a.tmps[d] = u
  cases u <;> rfl

/-- A guarded operation that is wanted. -/
theorem W.opG {all : Array Oper} {o : Oper} {r : List Oper} {j d : Nat} {b : Bool} (hg : o.guard = some (j, b)) (hj : (all[j]?).bind (·.dst) = some d) (hdN : Nat.blt d N = true) (hv : e d = .v .bool b)
    (hs : OpSem P G N o e h e' h') (hd : dstOk N o.dst = true) (hw : W P G N h0 Q (.ops all r :: k) e' h') : W P G N h0 Q (.ops all (o :: r) :: k) e h := by
  intro Γ a w ho
  have hb := ho.bool (c := .tmp d) hv
  have hwant : Region.wanted o (yielded all a.tmps) = true := by
    have := yielded_of ho hj hdN
    simp only [Act.eval] at hb
    rw [hb] at this
    simp [Region.wanted, hg, this]
  exact wpList_step fun K hK => by
    rw [if_pos hwant]
    exact ho.opSem hs hd fun a' w' ho' => hK a' w' (hw Γ a' w' ho')

theorem Holds.skip {Γ : Start} {a : Act} {w : World} {d : Option Tmp} (ho : Holds G N h0 Γ e h a w) (hd : dstOk N d = true) : Holds G N h0 Γ (put e d (.tup [])) h (a.put d undef) w := by
  obtain ⟨hdef, hb, m, S, hr, hx⟩ := ho
  exact ⟨by cases d <;> exact hdef, hb, m, S, hr.put hd ⟨[], rfl, rfl⟩, hx⟩

/-- A guarded operation that is not wanted. -/
theorem W.off {all : Array Oper} {o : Oper} {r : List Oper} {j d : Nat} {b b' : Bool} (hg : o.guard = some (j, b)) (hj : (all[j]?).bind (·.dst) = some d) (hdN : Nat.blt d N = true) (hv : e d = .v .bool b') (hne : (b' == b) = false)
    (hd : dstOk N o.dst = true) (hw : W P G N h0 Q (.ops all r :: k) (put e o.dst (.tup [])) h) : W P G N h0 Q (.ops all (o :: r) :: k) e h := by
  intro Γ a w ho
  have hb := ho.bool (c := .tmp d) hv
  refine wpList_skip ?_ (hw Γ _ w (ho.skip hd))
  have := yielded_of ho hj hdN
  simp only [Act.eval] at hb
  rw [hb] at this
  simp [Region.wanted, hg, this, hne]
/-- The guard's own operation was not wanted. -/
theorem W.offD {all : Array Oper} {o : Oper} {r : List Oper} {j d : Nat} {b : Bool} (hg : o.guard = some (j, b)) (hj : (all[j]?).bind (·.dst) = some d) (hdN : Nat.blt d N = true) (hv : e d = .tup [])
    (hd : dstOk N o.dst = true) (hw : W P G N h0 Q (.ops all r :: k) (put e o.dst (.tup [])) h) : W P G N h0 Q (.ops all (o :: r) :: k) e h := by
  intro Γ a w ho
  refine wpList_skip ?_ (hw Γ _ w (ho.skip hd))
  have := yielded_of ho hj hdN
  obtain ⟨_, _, m, S, hr, _⟩ := ho
  have hu := hr.env d
  rw [hv] at hu
  obtain ⟨us, hu, hus⟩ := hu
  simp only [RepAs] at hus
  subst hus
  rw [hu] at this
  simp [Region.wanted, hg, this]

/-- A Bool, each way. -/
theorem W.bool {d : Nat} {b : Bool} (F : Bool → Env) (he : e = F b) (ht : b = true → W P G N h0 Q k (F true) h) (hf : b = false → W P G N h0 Q k (F false) h) : W P G N h0 Q k e h := by
  subst he
  cases b with
  | true => exact ht rfl
  | false => exact hf rfl
theorem W.opB {all : Array Oper} {o : Oper} {r : List Oper} {b : Bool} (hg : o.guard = none) (hs : OpSem P G N o e h (put e o.dst (.v .bool b)) h') (hd : dstOk N o.dst = true)
    (ht : b = true → W P G N h0 Q (.ops all r :: k) (put e o.dst (.v .bool true)) h') (hf : b = false → W P G N h0 Q (.ops all r :: k) (put e o.dst (.v .bool false)) h') : W P G N h0 Q (.ops all (o :: r) :: k) e h := by
  cases b with
  | true => exact W.op hg hs hd (ht rfl)
  | false => exact W.op hg hs hd (hf rfl)
theorem W.opGB {all : Array Oper} {o : Oper} {r : List Oper} {j d : Nat} {b b' : Bool} (hg : o.guard = some (j, b')) (hj : (all[j]?).bind (·.dst) = some d) (hdN : Nat.blt d N = true) (hv : e d = .v .bool b')
    (hs : OpSem P G N o e h (put e o.dst (.v .bool b)) h') (hd : dstOk N o.dst = true)
    (ht : b = true → W P G N h0 Q (.ops all r :: k) (put e o.dst (.v .bool true)) h') (hf : b = false → W P G N h0 Q (.ops all r :: k) (put e o.dst (.v .bool false)) h') : W P G N h0 Q (.ops all (o :: r) :: k) e h := by
  cases b with
  | true => exact W.opG hg hj hdN hv hs hd (ht rfl)
  | false => exact W.opG hg hj hdN hv hs hd (hf rfl)

/-! #### loops, joins -/
/-- What a round hands on. -/
def Dn {α : Type} (E : α → Env) (H : α → Heap) (μ : α → Nat) (I : α → Prop) (n : Nat) (e : Env) (h : Heap) : Prop := ∃ x, μ x < n ∧ I x ∧ e = E x ∧ h = H x

theorem W.loop {α : Type} {c : Code} (E : α → Env) (H : α → Heap) (μ : α → Nat) (I : α → Prop) (x0 : α) (hI : I x0) (he : e = E x0) (hh : h = H x0)
    (round : ∀ x, I x → W P G N h0 Q (.code c :: .upto (Dn E H μ I (μ x)) :: k) (E x) (H x)) : W P G N h0 Q (.code (.loop c) :: k) e h := by
  subst he; subst hh
  intro Γ a w ho
  refine wp_loop_ghost (fun n a w => ∃ x, μ x = n ∧ I x ∧ Holds G N h0 Γ (E x) (H x) a w) (μ x0) ⟨x0, rfl, hI, ho⟩ ?_
  rintro n a w ⟨x, rfl, hx, ho⟩
  refine wp_mono (round x hx Γ a w ho) fun ex a' w' hq => ?_
  cases ex with
  | normal =>
    obtain ⟨e, h, ⟨y, hlt, hy, rfl, rfl⟩, ho'⟩ := hq
    exact ⟨μ y, hlt, y, rfl, hy, ho'⟩
  | exit id => exact hq
  | goto l => exact hq
  | ret => exact hq
  | panic ch => exact hq
  | outgrown => exact hq
theorem W.next {α : Type} {E : α → Env} {H : α → Heap} {μ : α → Nat} {I : α → Prop} {n : Nat} (x : α) (hlt : μ x < n) (hI : I x) (he : e = E x) (hh : h = H x) : W P G N h0 Q (.upto (Dn E H μ I n) :: k) e h :=
  fun Γ a w ho => ⟨e, h, ⟨x, hlt, hI, he, hh⟩, ho⟩
theorem W.upto {D : Env → Heap → Prop} (hD : D e h) : W P G N h0 Q (.upto D :: k) e h := fun Γ a w ho => ⟨e, h, hD, ho⟩
/-- Where ways meet. -/
theorem W.join {c : Code} (D : Env → Heap → Prop) (hw : W P G N h0 Q (.code c :: .upto D :: k) e h) (hk : ∀ e h, D e h → W P G N h0 Q k e h) : W P G N h0 Q (.code c :: k) e h := by
  intro Γ a w ho
  refine wp_mono (hw Γ a w ho) fun ex a' w' hq => ?_
  cases ex with
  | normal =>
    obtain ⟨e', h', hD, ho'⟩ := hq
    exact hk e' h' hD Γ a' w' ho'
  | exit id => exact hq
  | goto l => exact hq
  | ret => exact hq
  | panic ch => exact hq
  | outgrown => exact hq
end
end Go.Vs

/- Forgetting; what is known of lengths; a function's contract out of its body. -/
set_option linter.unusedVariables false
set_option linter.unusedSimpArgs false
namespace Go.Vs
open Go Go.RowKit Go.Proofs

def envOf : List (Nat × AV) → Env
  | [] => fun _ => .dead
  | (j, x) :: l => fun i => bif Nat.beq j i then x else envOf l i
def lookO : List (Nat × Ob) → Nat → Ob
  | [], _ => .none
  | (j, o) :: l, i => bif Nat.beq j i then o else lookO l i
def hasK : List (Nat × Ob) → Nat → Bool
  | [], _ => false
  | (j, _) :: l, i => Nat.beq j i || hasK l i
/-- The caller's objects as in h, one's own as listed. -/
def hp (h : Heap) (l : List (Nat × Ob)) : Heap
  | .own i => lookO l i
  | .out n => h (.out n)
def keepN (l : List (Nat × Ob)) : Nm → Bool
  | .own i => hasK l i
  | .out _ => true
mutual
def refsOk (l : List (Nat × Ob)) : AV → Bool
  | .rw n _ => keepN l n
  | .rp n _ _ => keepN l n
  | .bp n _ => keepN l n
  | .bs n => keepN l n
  | .agg cs => refsOks l cs
  | .tup cs => refsOks l cs
  | .clo _ cs => refsOks l cs
  | _ => true
def refsOks (l : List (Nat × Ob)) : List AV → Bool
  | [] => true
  | c :: cs => refsOk l c && refsOks l cs
end
def obRefs (l : List (Nat × Ob)) : Ob → Bool
  | .box _ cs => refsOks l cs
  | _ => true
def allRefs (l : List (Nat × Ob)) : List (Nat × Ob) → Bool
  | [] => true
  | (_, o) :: r => obRefs l o && allRefs l r
def envRefs (l : List (Nat × Ob)) : List (Nat × AV) → Bool
  | [] => true
  | (_, x) :: r => refsOk l x && envRefs l r
def EAgree (e : Env) : List (Nat × AV) → Prop
  | [] => True
  | (j, x) :: l => force (e j) = some x ∧ EAgree e l
def forceO : Ob → Option Ob
  | .none => none
  | .box fr cs => some (.box fr cs)
  | .row fr ver t e xs => some (.row fr ver t e xs)
theorem forceO_eq {a o : Ob} (h : forceO a = some o) : a = o := by cases a <;> simp_all [forceO]
def HAgree (h : Heap) : List (Nat × Ob) → Prop
  | [] => True
  | (j, o) :: l => forceO (h (.own j)) = some o ∧ HAgree h l

theorem out_ne : ∀ n : Nm, Nm.out n ≠ n
  | .own _, h => by cases h
  | .out n, h => out_ne n (Nm.out.inj h)
theorem keepN_out {l : List (Nat × Ob)} {n : Nm} : keepN l (.out n) = true := rfl
mutual
theorem refsOk_up (l : List (Nat × Ob)) : ∀ a : AV, refsOk l a.up = true
  | .dead => rfl
  | .v _ _ => rfl
  | .nils => rfl
  | .nilp => rfl
  | .rw _ _ => rfl
  | .rp _ _ _ => rfl
  | .bp _ _ => rfl
  | .bs _ => rfl
  | .vp _ _ => rfl
  | .agg cs => refsOks_up l cs
  | .tup cs => refsOks_up l cs
  | .clo _ cs => refsOks_up l cs
theorem refsOks_up (l : List (Nat × Ob)) : ∀ a : List AV, refsOks l (AV.ups a) = true
  | [] => rfl
  | c :: cs => by simp only [AV.ups, refsOks, refsOk_up l c, refsOks_up l cs, Bool.and_self]
end

theorem hp_agree {h hc : Heap} {l : List (Nat × Ob)} (ha : HAgree h l) (ho : Outs hc h) : ∀ {n : Nm}, keepN l n = true → hp (pushH hc) l n = h n
  | .out n, _ => (ho n).symm
  | .own i, hk => by
    change lookO l i = h (.own i)
    induction l with
    | nil => cases hk
    | cons p l ih =>
      obtain ⟨j, o⟩ := p
      simp only [lookO]
      cases hb : Nat.beq j i with
      | true =>
        have := Nat.eq_of_beq_eq_true hb
        subst this
        exact (forceO_eq ha.1).symm
      | false =>
        simp only [cond_false]
        refine ih ha.2 ?_
        simpa [keepN, hasK, hb] using hk

section
variable {m : Lm} {S : Foot} {w : World} {h h' : Heap} {l : List (Nat × Ob)}
mutual
theorem RepA.cut (ha : ∀ n, keepN l n = true → h' n = h n) : ∀ {a : AV} {u : Value}, refsOk l a = true → RepA m S w h a u → RepA m S w h' a u
  | .dead, _, _, r => r
  | .v t x, _, _, r => r
  | .nils, _, _, r => r
  | .nilp, _, _, r => r
  | .rw n k, u, hk, r => by simp only [RepA, ha n hk] at r ⊢; exact r
  | .rp n i k, u, hk, r => by simp only [RepA, ha n hk] at r ⊢; exact r
  | .bp n o, u, hk, r => by simp only [RepA, ha n hk] at r ⊢; exact r
  | .bs n, u, hk, r => by simp only [RepA, ha n hk] at r ⊢; exact r
  | .vp t p, u, hk, r => r
  | .agg cs, u, hk, r => by
    obtain ⟨us, h1, h2⟩ := r
    exact ⟨us, h1, RepAs.cut ha hk h2⟩
  | .tup cs, u, hk, r => by
    obtain ⟨us, h1, h2⟩ := r
    exact ⟨us, h1, RepAs.cut ha hk h2⟩
  | .clo f cs, u, hk, r => by
    obtain ⟨us, h1, h2⟩ := r
    exact ⟨us, h1, RepAs.cut ha hk h2⟩
theorem RepAs.cut (ha : ∀ n, keepN l n = true → h' n = h n) : ∀ {a : List AV} {us : List Value}, refsOks l a = true → RepAs m S w h a us → RepAs m S w h' a us
  | [], _, _, r => r
  | c :: cs, _, hk, r => by
    obtain ⟨u, us', h1, h2, h3⟩ := r
    simp only [refsOks, Bool.and_eq_true] at hk
    exact ⟨u, us', h1, RepA.cut ha hk.1 h2, RepAs.cut ha hk.2 h3⟩
end

theorem lookO_refs {l r : List (Nat × Ob)} (hr : allRefs l r = true) : ∀ i, obRefs l (lookO r i) = true := by
  intro i
  induction r with
  | nil => rfl
  | cons p r ih =>
    obtain ⟨j, o⟩ := p
    simp only [allRefs, Bool.and_eq_true] at hr
    simp only [lookO]
    cases Nat.beq j i with
    | true => exact hr.1
    | false => exact ih hr.2
theorem lookO_keep {l : List (Nat × Ob)} : ∀ {i : Nat}, lookO l i ≠ .none → hasK l i = true := by
  intro i
  induction l with
  | nil => intro hne; exact absurd rfl hne
  | cons p l ih =>
    obtain ⟨j, o⟩ := p
    simp only [lookO, hasK]
    cases Nat.beq j i with
    | true => intro _; rfl
    | false => intro hne; simpa using ih hne

variable {G : Nat → AV} {base : Nat} {hc : Heap}
theorem ObRel.cut {n : Nm} (ha : ∀ n, keepN l n = true → h' n = h n) : ∀ {ob : Ob}, obRefs l ob = true → ObRel base m S w h n ob → ObRel base m S w h' n ob
  | .none, _, _ => trivial
  | .box fr cs, hk, r => by
    obtain ⟨h1, h2, us, ty, h3, h4, h5⟩ := r
    exact ⟨h1, h2, us, ty, h3, RepAs.cut ha hk h4, h5⟩
  | .row .., _, r => r

theorem HRel.cut (hG : ∀ g, (G g).up = G g) (r : HRel G base m S w h) (ha : HAgree h l) (ho : Outs hc h) (hr : allRefs l l = true) : HRel G base m S w (hp (pushH hc) l) := by
  have hag : ∀ n, keepN l n = true → hp (pushH hc) l n = h n := fun n => hp_agree ha ho
  have hkeep : ∀ n, hp (pushH hc) l n ≠ .none → keepN l n = true := fun n hne => by
    cases n with
    | own i => exact lookO_keep hne
    | out n => rfl
  refine ⟨fun g => ?_, fun n => ?_, fun n n' h1 h2 h3 h4 h5 => ?_, r.foot, r.base⟩
  · refine RepA.cut hag ?_ (r.glob g)
    rw [← hG g]; exact refsOk_up l _
  · by_cases hne : hp (pushH hc) l n = .none
    · rw [hne]; trivial
    · have hk := hkeep n hne
      rw [hag n hk]
      refine ObRel.cut hag ?_ (r.ob n)
      rw [← hag n hk]
      cases n with
      | own i => exact lookO_refs hr i
      | out n =>
        change obRefs l (pushH hc (.out n)) = true
        simp only [pushH]
        cases hc n with
        | none => rfl
        | box fr cs => exact refsOks_up l cs
        | row => rfl
  · have k1 := hkeep n h1
    have k2 := hkeep n' h2
    rw [hag n k1] at h1
    rw [hag n' k2] at h2
    exact r.inj n n' h1 h2 h3 h4 h5
end

section
variable {P : Program} {G : Nat → AV} {N : Nat} {hc : Heap} {Q : Env → Heap → Prop} {k : List It} {e : Env} {h : Heap}

theorem envOf_rep {m : Lm} {S : Foot} {w : World} {h h' : Heap} {l : List (Nat × Ob)} (ha : ∀ n, keepN l n = true → h' n = h n) {tm : Array Value} (henv : ∀ i, RepA m S w h (e i) (tm.getD i undef)) :
    ∀ {E : List (Nat × AV)}, EAgree e E → envRefs l E = true → ∀ i, RepA m S w h' (envOf E i) (tm.getD i undef)
  | [], _, _, i => trivial
  | (j, x) :: E, hE, hr, i => by
    simp only [envRefs, Bool.and_eq_true] at hr
    simp only [envOf]
    cases hb : Nat.beq j i with
    | true =>
      have := Nat.eq_of_beq_eq_true hb
      subst this
      have := henv j
      rw [force_eq hE.1] at this
      exact RepA.cut ha hr.1 this
    | false => exact envOf_rep ha henv hE.2 hr.2 i

/-- Only what is listed is kept. -/
theorem W.cut (hG : ∀ g, (G g).up = G g) (E : List (Nat × AV)) (l : List (Nat × Ob)) (hE : EAgree e E) (ha : HAgree h l) (ho : Outs hc h) (hr : (envRefs l E && allRefs l l) = true)
    (hw : W P G N (pushH hc) Q k (envOf E) (hp (pushH hc) l)) : W P G N (pushH hc) Q k e h := by
  intro Γ a w hh
  obtain ⟨hdef, hb, m, S, r, x⟩ := hh
  simp only [Bool.and_eq_true] at hr
  refine hw Γ a w ⟨hdef, hb, m, S, ⟨r.size, envOf_rep (fun n => hp_agree ha ho) r.env hE hr.1, r.hrel.cut hG ha ho hr.2⟩, ?_⟩
  refine ⟨x.foot, x.same, fun n fr ver t e xs hn => ?_, fun n fr cs hn => ?_⟩
  · cases n with
    | own i => cases hn
    | out n =>
      obtain ⟨fr', ver', xs', h1, h2⟩ := x.row (.out n) fr ver t e xs hn
      rw [ho n] at h1
      exact ⟨fr', ver', xs', h1, h2⟩
  · cases n with
    | own i => cases hn
    | out n =>
      obtain ⟨fr', cs', h1, h2⟩ := x.box (.out n) fr cs hn
      rw [ho n] at h1
      exact ⟨fr', cs', h1, h2⟩

variable {h0 : Heap}
/-- A nil slice is an empty row. -/
theorem W.nilRow (j i : Nat) (ty : Ty) (et : TypeId) (hj : e j = .nils) (hi : h (.own i) = .none)
    (hw : W P G N h0 Q k (put e (some j) (.rw (.own i) 0)) (hset h (.own i) (.row false 0 ty et []))) : W P G N h0 Q k e h := by
  intro Γ a w hh
  obtain ⟨hdef, hb, m, S, r, x⟩ := hh
  obtain ⟨hr', hx'⟩ := r.hrel.nilRow hi ty et
  refine hw Γ a w ⟨hdef, hb, _, S, ⟨r.size, fun q => ?_, hr'⟩, x.trans hx'⟩
  simp only [put]
  cases hq : Nat.beq q j with
  | false => exact (r.env q).mono hx'
  | true =>
    obtain rfl := Nat.eq_of_beq_eq_true hq
    have := r.env q
    rw [hj] at this
    simp only [RepA] at this
    exact ⟨_, _, _, _, _, hset_same _ _ _, Nat.le_refl _, fun _ => by simp [this, mset_same, sliceV]⟩

/-- A value is taken for the datum that it is. -/
theorem W.conv (j : Nat) (t : Ty) {x : t.D} {h' : Heap} (hv : convA h t (e j) = some (x, h')) (hw : W P G N h0 Q k (put e (some j) (.v t x)) h') : W P G N h0 Q k e h := by
  intro Γ a w hh
  obtain ⟨hdef, hb, m, S, r, xx⟩ := hh
  obtain ⟨S', hr', hx', hrep⟩ := convA_sound hv r.hrel (r.env j)
  refine hw Γ a w ⟨hdef, hb, m, S', ⟨r.size, fun q => ?_, hr'⟩, xx.trans hx'⟩
  simp only [put]
  cases hq : Nat.beq q j with
  | false => exact (r.env q).mono hx'
  | true =>
    obtain rfl := Nat.eq_of_beq_eq_true hq
    exact hrep

/-- Lengths are bounded. -/
theorem W.lenV (j : Nat) {t : Ty} {xs : List t.D} (hj : e j = .v (.sl t) xs) (hw : xs.length ≤ lenMax → W P G N h0 Q k e h) : W P G N h0 Q k e h := by
  intro Γ a w hh
  have hh' := hh
  obtain ⟨hdef, hb, m, S, r, x⟩ := hh
  have := r.env j
  rw [hj] at this
  obtain ⟨A, c, _, _, hl, _⟩ := this.sl
  exact hw hl Γ a w hh'
theorem W.lenS (j : Nat) {s : ByteArray} (hj : e j = .v .str s) (hw : s.size ≤ lenMax → W P G N h0 Q k e h) : W P G N h0 Q k e h := by
  intro Γ a w hh
  have hh' := hh
  obtain ⟨hdef, hb, m, S, r, x⟩ := hh
  have := r.env j
  rw [hj] at this
  exact hw this.str.2 Γ a w hh'
theorem W.lenR (n : Nm) {fr : Bool} {ver : Nat} {t : Ty} {et : TypeId} {xs : List t.D} (hn : h n = .row fr ver t et xs) (hw : xs.length ≤ lenMax → W P G N h0 Q k e h) : W P G N h0 Q k e h := by
  intro Γ a w hh
  have hh' := hh
  obtain ⟨hdef, hb, m, S, r, x⟩ := hh
  have := r.hrel.ob n
  rw [hn] at this
  obtain ⟨inner, _, _, hl, _⟩ := this
  exact hw hl Γ a w hh'

/-! #### functions -/
def lst (l : List AV) : Env := fun i => l.getD i (.tup [])

/-- A result. -/
def resA (L : Lay) (e : Env) (h : Heap) : ResultVar → Option AV
  | .tmp t => some (e t)
  | .cell a t => match L t, e a with
      | some ty, .bp n o => (match h n with
          | .box _ cs => boxA ty cs o
          | _ => none)
      | _, _ => none
def resAs (L : Lay) (e : Env) (h : Heap) : List ResultVar → Option (List AV)
  | [] => some []
  | r :: rs => match resA L e h r, resAs L e h rs with
      | some x, some xs => some (x :: xs)
      | _, _ => none
/-- Results, as one value. -/
def oneOf : List AV → AV
  | [x] => x
  | xs => .tup xs
/-- What must hold at a function's end: its results are r, in the caller's heap h'. -/
def Ends (L : Lay) (rs : List ResultVar) (sg : List (Option Ty)) (r : AV) (h' : Heap) (e : Env) (h : Heap) : Prop :=
  ∃ xs ys h1, resAs L e h rs = some xs ∧ convArgs h sg xs = some (ys, h1) ∧ oneOf ys = r.up ∧ Outs h' h1

theorem run_res {m : Lm} {S : Foot} {w : World} {base : Nat} {L : Lay} (hL : LayOk P L) {tm : Array Value} (r : Rel G N base m S e h tm w) {rv : ResultVar} {v : AV} (hv : resA L e h rv = some v) :
    ∃ u, (match rv with | .tmp t => (pure (tm.getD t undef) : Sem Value) | .cell a t => do loadVar t (← asAddr (tm.getD a undef))).run P w = .ok u w ∧ RepA m S w h v u := by
  cases rv with
  | tmp t =>
    simp only [resA, Option.some.injEq] at hv
    subst hv
    exact ⟨_, rfl, r.env t⟩
  | cell a t =>
    simp only [resA] at hv
    split at hv
    · rename_i ty n o ht hx
      split at hv
      · rename_i fr cs hn
        have hx' := r.env a
        rw [hx] at hx'
        obtain ⟨fr', cs', hb, hu⟩ := hx'
        have := opLoadBp (G := G) (d := none) (t := t) (p := "") (af := #[]) (g := none) (x := .tmp a) (xt := t) hL ht hx hn hv base m S w { tmps := tm, defers := [] } r.hrel (fun y hy => by
          simp [Op.operands] at hy
          subst hy
          exact r.env a)
        obtain ⟨u, h1, h2⟩ := this
        refine ⟨u, ?_, h2⟩
        simp only [execOp, Act.eval, hu, Instr.loadAt, Instr.sureAddr, Sem.run_bind, Sem.run_pure, Result.andThen_ok] at h1
        simp only [hu, asAddr, Sem.run_bind, Sem.run_pure, Result.andThen_ok]
        cases hq : (loadVar t ⟨(m n).blk, o, none⟩).run P w with
        | ok u' w' => rw [hq] at h1; simp only [Result.andThen_ok, Sem.run_pure, Result.ok.injEq, Next.value.injEq] at h1; rw [h1.1, h1.2]
        | halt x w' => rw [hq] at h1; cases h1
      · cases hv
    · cases hv

theorem run_ress {m : Lm} {S : Foot} {w : World} {base : Nat} {L : Lay} (hL : LayOk P L) {tm : Array Value} (r : Rel G N base m S e h tm w) : ∀ {rs : List ResultVar} {vs : List AV}, resAs L e h rs = some vs →
    ∃ us, (rs.mapM fun (rv : ResultVar) => (match rv with | .tmp t => (pure (tm.getD t undef) : Sem Value) | .cell a t => do loadVar t (← asAddr (tm.getD a undef)))).run P w = .ok us w ∧ RepAs m S w h vs us
  | [], vs, hv => by
    simp only [resAs, Option.some.injEq] at hv
    subst hv
    exact ⟨[], by simp, rfl⟩
  | rv :: rs, vs, hv => by
    simp only [resAs] at hv
    split at hv
    · rename_i x xs h1 h2
      simp only [Option.some.injEq] at hv
      subst hv
      obtain ⟨u, hu, hru⟩ := run_res hL r h1
      obtain ⟨us, hus, hrus⟩ := run_ress hL r h2
      refine ⟨u :: us, ?_, u, us, rfl, hru, hrus⟩
      rw [List.mapM_cons]
      simp only [Sem.run_bind, hu, Result.andThen_ok, hus, Sem.run_pure]
    · cases hv
end
end Go.Vs

/- A function's contract out of its body. -/
set_option linter.unusedVariables false
set_option linter.unusedSimpArgs false
namespace Go.Vs
open Go Go.RowKit Go.Proofs

section
variable {P : Program} {G : Nat → AV} {N : Nat} {h h' : Heap} {L : Lay}

theorem oneOf_rep {m : Lm} {S : Foot} {w : World} {ys : List AV} {us : List Value} (r : RepAs m S w h ys us) : RepA m S w h (oneOf ys) (if hz : us.toArray.size = 1 then us.toArray[0] else .tuple us.toArray) := by
  cases ys with
  | nil =>
    simp only [RepAs] at r
    subst r
    exact ⟨[], rfl, rfl⟩
  | cons y ys =>
    obtain ⟨u, us', rfl, h1, h2⟩ := r
    cases ys with
    | nil =>
      simp only [RepAs] at h2
      subst h2
      simpa [oneOf] using h1
    | cons y' ys =>
      obtain ⟨u', us'', rfl, h3, h4⟩ := h2
      have : ¬ (u :: u' :: us'').toArray.size = 1 := by simp
      rw [dif_neg this]
      exact ⟨_, rfl, u, _, rfl, h1, u', _, rfl, h3, h4⟩

theorem lst_rep {m : Lm} {S : Foot} {w : World} : ∀ {vs : List AV} {us : List Value} (n : Nat), RepAs m S w h vs us → ∀ i, RepA m S w h (lst vs i) ((us.toArray ++ Array.replicate n undef).getD i undef) := by
  intro vs us n r i
  have hl := r.len
  by_cases hi : i < us.length
  · have hi' : i < vs.length := by omega
    obtain ⟨u, hu, hr⟩ := r.get (i := i) (c := vs[i]) (by simp [hi'])
    have e1 : lst vs i = vs[i] := by simp [lst, List.getD_eq_getElem?_getD, hi']
    have e2 : (us.toArray ++ Array.replicate n undef).getD i undef = u := by
      simp [Array.getD_eq_getD_getElem?, Array.getElem?_append, hi]
      have := List.getElem?_eq_some_iff.1 hu
      exact this.2
    rw [e1, e2]; exact hr
  · have e1 : lst vs i = .tup [] := by
      have : vs[i]? = none := List.getElem?_eq_none (by omega)
      simp [lst, List.getD_eq_getElem?_getD, this]
    have e2 : (us.toArray ++ Array.replicate n undef).getD i undef = undef := by
      simp [Array.getD_eq_getD_getElem?, Array.getElem?_append, hi, Array.getElem?_replicate]
      split <;> rfl
    rw [e1, e2]
    exact ⟨[], rfl, rfl⟩

theorem FnRes.intro {f : FuncId} {fn : Func} {c : Code} {rs : List ResultVar} {args : List AV} {r : AV} (sg : List (Option Ty)) (hL : LayOk P L) (hG : ∀ g, (G g).up = G g)
    (hf : P.funcs[f]? = some fn) (hname : (fn.name == "runtime.NumGoroutine") = false) (hb : fn.body = some c) (hrs : fn.results = rs.toArray) (hN : fn.ntmps = N) (hlen : Nat.ble args.length N = true)
    (hw : W P G N (pushH h) (Ends L rs sg r h') [.code c] (lst (AV.ups args)) (pushH h)) : FnRes P G f args h r h' := by
  refine ⟨enters_of hf hname hb, fun base m S w us hr hus => calls_of_wp hf hb ?_⟩
  have hm : ∀ n, pushM m (.out n) = m n := fun _ => rfl
  have hr1 := hr.push hG
  have hus1 := (RepAs.ups hm (Outs.push h)).2 hus
  have hl := hus1.len
  have hl2 : (AV.ups args).length = args.length := by
    clear hus1 hl hw hus hlen
    induction args with
    | nil => rfl
    | cons a l ih => simp [AV.ups, ih]
  have hle := Nat.le_of_ble_eq_true hlen
  have hrel : Rel G N base (pushM m) S (lst (AV.ups args)) (pushH h) (us.toArray ++ Array.replicate (fn.ntmps - us.toArray.size) undef) w :=
    ⟨by simp [hN]; omega, lst_rep _ hus1, hr1⟩
  refine wp_mono (hw ⟨base, pushM m, S, w⟩ ⟨_, []⟩ w ⟨rfl, Below.refl _ _, pushM m, S, hrel, Ext.refl _ _ _ _⟩) fun ex a' w' hq => ?_
  obtain ⟨hex, e1, h1, ⟨xs, ys, h2, hxs, hconv, hone, hout⟩, hdef, hbelow, m1, S1, hrel1, hx1⟩ := hq
  obtain ⟨us1, hrun, hrep⟩ := run_ress hL hrel1 hxs
  obtain ⟨S2, hr2, hx2, hrep2⟩ := convArgs_sound sg hconv hrel1.hrel hrep
  have hv := oneOf_rep hrep2
  rw [hone] at hv
  have hres : (results fn a'.tmps).run P w' = .ok (if hz : us1.toArray.size = 1 then us1.toArray[0] else .tuple us1.toArray) w' := by
    unfold results
    rw [hrs, List.mapM_toArray]
    simp only [map_eq_pure_bind, Sem.run_bind, Sem.run_pure]
    exact congrArg (fun q : Result (List Value) => (q.andThen fun a w' => Result.ok a.toArray w').andThen fun a w' => Result.ok (if h : a.size = 1 then a[0] else Value.tuple a) w') hrun
  have hm2 : ∀ n, m1 (.out n) = popM m1 n := fun _ => rfl
  have fin : ∃ m' S', RepA m' S' w' h' r (if hz : us1.toArray.size = 1 then us1.toArray[0] else .tuple us1.toArray) ∧ HRel G base m' S' w' h' ∧ Ext m S w h m' S' w' h' ∧ Below base w w' :=
    ⟨popM m1, S2, (RepA.up hm2 hout).1 hv, hr2.pop hG hout, (hx1.trans hx2).pop hout, hbelow⟩
  cases ex with
  | normal => exact ⟨hdef, _, hres, fin⟩
  | ret => exact ⟨hdef, _, hres, fin⟩
  | exit id => exact hex.elim
  | goto l => exact hex.elim
  | panic ch => exact hex.elim
  | outgrown => exact hex.elim
end
end Go.Vs

/- Small helps for walks that a program prints. -/
set_option linter.unusedVariables false
set_option linter.unusedSimpArgs false
namespace Go.Vs
open Go Go.RowKit Go.Proofs

theorem Inf.of {P : Program} {t : TypeId} {z : Value} {n b : Nat} (hi : (P.info? t).map (fun i => (i.zero, i.size, i.bytes)) = some (some z, n, b)) (h0 : Nat.blt 0 b = true) (h1 : Nat.ble b 4096 = true) : Inf P t z n := by
  cases hq : P.info? t with
  | none => rw [hq] at hi; cases hi
  | some i =>
    rw [hq] at hi
    simp only [Option.map_some, Option.some.injEq, Prod.mk.injEq] at hi
    obtain ⟨h2, h3, h4⟩ := hi
    subst h4
    exact ⟨i, hq, h2, h3, by simpa [Nat.blt_eq] using h0, Nat.le_of_ble_eq_true h1⟩

def G0 : Nat → AV := fun _ => .dead
theorem G0up : ∀ g : Nat, (G0 g).up = G0 g := fun _ => rfl

/-- In an int's range. -/
def In64 (z : Int) : Prop := -9223372036854775808 ≤ z ∧ z ≤ 9223372036854775807
theorem In64.wrap {z : Int} (h : In64 z) : IntKind.i64.wrap z = z := by unfold In64 at h; rw [IntKind.wrap_i64]; omega

section
variable {P : Program} {G : Nat → AV} {L : Lay} {e : Env} {h : Heap} {d : Option Tmp} {t : TypeId} {p : String} {af : Array Edge} {g : Option (Nat × Bool)} {xt yt : TypeId} {x y : Operand} {i j : Int}
theorem opAdd (hL : LayOk P L) (hx : ev G e x = .v (.int .i64) i) (hy : ev G e y = .v (.int .i64) j) (hr : In64 (i + j)) : OpRead P G ⟨d, .binOp .add xt x y yt, t, p, af, g⟩ e h (.v (.int .i64) (i + j)) := by
  refine opBin hL ?_
  rw [hx, hy]
  change some (AV.v (.int .i64) (IntKind.i64.wrap (i + j))) = _
  rw [hr.wrap]
theorem opSub (hL : LayOk P L) (hx : ev G e x = .v (.int .i64) i) (hy : ev G e y = .v (.int .i64) j) (hr : In64 (i - j)) : OpRead P G ⟨d, .binOp .sub xt x y yt, t, p, af, g⟩ e h (.v (.int .i64) (i - j)) := by
  refine opBin hL ?_
  rw [hx, hy]
  change some (AV.v (.int .i64) (IntKind.i64.wrap (i - j))) = _
  rw [hr.wrap]
theorem opMul (hL : LayOk P L) (hx : ev G e x = .v (.int .i64) i) (hy : ev G e y = .v (.int .i64) j) (hr : In64 (i * j)) : OpRead P G ⟨d, .binOp .mul xt x y yt, t, p, af, g⟩ e h (.v (.int .i64) (i * j)) := by
  refine opBin hL ?_
  rw [hx, hy]
  change some (AV.v (.int .i64) (IntKind.i64.wrap (i * j))) = _
  rw [hr.wrap]
end
theorem one_v {t : Ty} {x y : t.D} (he : x = y) : oneOf [.v t x] = (AV.v t y).up := by rw [he]; rfl
theorem two_v {t s : Ty} {x x' : t.D} {y y' : s.D} (h1 : x = x') (h2 : y = y') : oneOf [.v t x, .v s y] = (AV.tup [.v t x', .v s y']).up := by rw [h1, h2]; rfl
end Go.Vs

/- Regions whose order is drawn: walked in one order; a check on the edges says that any other order does the same. -/
set_option linter.unusedVariables false
set_option linter.unusedSimpArgs false
namespace Go.Vs
open Go Go.RowKit Go.Proofs

/-! ### Last writers -/
section
variable {κ β : Type} (eq : κ → κ → Bool)
def upd (f : κ → β) : Option (κ × β) → κ → β
  | none => f
  | some (k, v) => fun k' => bif eq k' k then v else f k'
def lw (X : Nat → Bool) : List (Option (κ × β)) → Nat → (κ → β) → κ → β
  | [], _, f => f
  | r :: rs, j, f => lw X rs (j + 1) (bif X j then upd eq f r else f)
def wr (r : Option (κ × β)) (k : κ) : Bool := match r with | some (k', _) => eq k k' | none => false

theorem upd_none {f : κ → β} {r : Option (κ × β)} {k : κ} (h : wr eq r k = false) : upd eq f r k = f k := by
  cases r with
  | none => rfl
  | some p => simp only [wr] at h; simp only [upd, h, cond_false]
theorem lw_congr {X Y : Nat → Bool} {k : κ} : ∀ (rs : List (Option (κ × β))) (j : Nat) (f g : κ → β), f k = g k → (∀ i r, rs[i]? = some r → wr eq r k = true → X (j + i) = Y (j + i)) → lw eq X rs j f k = lw eq Y rs j g k
  | [], _, _, _, h, _ => h
  | r :: rs, j, f, g, h, hxy => by
    simp only [lw]
    refine lw_congr rs (j + 1) _ _ ?_ fun i q hq hw => ?_
    · cases hw : wr eq r k with
      | true =>
        have hj := hxy 0 r rfl hw
        simp only [Nat.add_zero] at hj
        rw [hj]
        cases Y j with
        | true =>
          cases r with
          | none => exact h
          | some p => simp only [wr] at hw; simp only [cond_true, upd, hw]
        | false => exact h
      | false =>
        have e1 : (bif X j then upd eq f r else f) k = f k := by cases X j <;> simp [upd_none eq hw]
        have e2 : (bif Y j then upd eq g r else g) k = g k := by cases Y j <;> simp [upd_none eq hw]
        rw [e1, e2]; exact h
    · have := hxy (i + 1) q (by simpa using hq) hw
      rwa [show j + 1 + i = j + (i + 1) by omega]
theorem lw_last {X : Nat → Bool} {k : κ} {v : β} : ∀ (rs : List (Option (κ × β))) (j : Nat) (f : κ → β) (i : Nat) {k' : κ}, rs[i]? = some (some (k', v)) → eq k k' = true → X (j + i) = true →
    (∀ q r, rs[q]? = some r → i < q → wr eq r k = true → X (j + q) = false) → lw eq X rs j f k = v
  | [], _, _, _, _, h, _, _, _ => by simp at h
  | r :: rs, j, f, 0, k', h, hk, hx, hlater => by
    simp only [List.getElem?_cons_zero, Option.some.injEq] at h
    subst h
    simp only [lw]
    rw [Nat.add_zero] at hx
    rw [hx]
    have := lw_congr eq (X := X) (Y := fun _ => false) (k := k) rs (j + 1) (bif true then upd eq f (some (k', v)) else f) (bif true then upd eq f (some (k', v)) else f) rfl (fun q r hq hw => by
      have := hlater (q + 1) r (by simpa using hq) (by omega) hw
      rwa [show j + 1 + q = j + (q + 1) by omega])
    rw [this]
    have none_ : ∀ (l : List (Option (κ × β))) (j : Nat) (g : κ → β), lw eq (fun _ => false) l j g = g := by
      intro l
      induction l with
      | nil => intro j g; rfl
      | cons a l ih => intro j g; simp only [lw, cond_false]; exact ih _ _
    rw [none_]
    simp only [cond_true, upd, hk]
  | r :: rs, j, f, i + 1, k', h, hk, hx, hlater => by
    simp only [lw]
    refine lw_last rs (j + 1) _ i (by simpa using h) hk (by rwa [show j + 1 + i = j + (i + 1) by omega]) fun q r hq hlt hw => ?_
    have := hlater (q + 1) r (by simpa using hq) (by omega) hw
    rwa [show j + 1 + q = j + (q + 1) by omega]
/-- All of them, and no more. -/
theorem lw_take {X : Nat → Bool} : ∀ (rs : List (Option (κ × β))) (j : Nat) (f : κ → β), (∀ i, i < rs.length → X (j + i) = true) → lw eq X rs j f = rs.foldl (upd eq) f
  | [], _, _, _ => rfl
  | r :: rs, j, f, h => by
    simp only [lw, List.foldl_cons]
    have := h 0 (by simp)
    rw [Nat.add_zero] at this
    rw [this]
    exact lw_take rs (j + 1) _ fun i hi => by
      have := h (i + 1) (by simpa using hi)
      rwa [show j + 1 + i = j + (i + 1) by omega]
theorem lw_app {X : Nat → Bool} : ∀ (rs qs : List (Option (κ × β))) (j : Nat) (f : κ → β), lw eq X (rs ++ qs) j f = lw eq X qs (j + rs.length) (lw eq X rs j f)
  | [], qs, j, f => rfl
  | r :: rs, qs, j, f => by
    simp only [List.cons_append, lw, List.length_cons]
    rw [lw_app rs qs (j + 1), show j + 1 + rs.length = j + (rs.length + 1) by omega]
theorem lw_off {X : Nat → Bool} : ∀ (rs : List (Option (κ × β))) (j : Nat) (f : κ → β), (∀ i, i < rs.length → X (j + i) = false) → lw eq X rs j f = f
  | [], _, _, _ => rfl
  | r :: rs, j, f, h => by
    simp only [lw]
    have := h 0 (by simp)
    rw [Nat.add_zero] at this
    rw [this]
    exact lw_off rs (j + 1) _ fun i hi => by
      have := h (i + 1) (by simpa using hi)
      rwa [show j + 1 + i = j + (i + 1) by omega]
end

/-! ### Records, the check -/
/-- What the check looks at: the slots that are read, the objects that are looked at, the object that is written. -/
structure Sk where
  rs : List Nat
  ns : List Nm
  nm : Option Nm
structure Rec where
  o : Oper
  v : AV
  eff : Option (Nm × Ob)
  sk : Sk

def memN (t : Nat) : List Nat → Bool
  | [] => false
  | x :: l => Nat.beq x t || memN t l
def memM (n : Nm) : List Nm → Bool
  | [] => false
  | x :: l => nmEq x n || memM n l
def ovr (rs : List Nat) (e e' : Env) : Env := fun s => bif memN s rs then e s else e' s
def ap (f : Option (Nm × Ob)) (h : Heap) : Heap := match f with
  | none => h
  | some (n, ob) => hset h n ob
def edgeL (j : Nat) : List Edge → Bool
  | [] => false
  | e :: l => (Nat.beq e.on j && Region.binds .any e) || edgeL j l
def edgeOn (o : Oper) (j : Nat) : Bool := edgeL j o.after.toList
def oEq (a b : Option Nat) : Bool := match a, b with
  | some x, some y => Nat.beq x y
  | _, _ => false
def oMem (a : Option Nat) (l : List Nat) : Bool := match a with
  | some t => memN t l
  | none => false
def mMem (a : Option Nm) (l : List Nm) : Bool := match a with
  | some t => memM t l
  | none => false
def mEq (a b : Option Nm) : Bool := match a, b with
  | some x, some y => nmEq x y
  | _, _ => false
/-- These two must come in their order. -/
def cfl (oi : Oper) (si : Sk) (oj : Oper) (sj : Sk) : Bool :=
  oMem oj.dst si.rs || oMem oi.dst sj.rs || oEq oi.dst oj.dst || mMem sj.nm si.ns || mMem si.nm sj.ns || mEq si.nm sj.nm
def chk1 (i : Nat) (oi : Oper) (si : Sk) : List (Oper × Sk) → Nat → Bool
  | [], _ => true
  | (oj, sj) :: l, j => (Nat.ble i j || !cfl oi si oj sj || edgeOn oi j) && chk1 i oi si l (j + 1)
def lowL (i : Nat) : List Edge → Bool
  | [] => true
  | e :: l => (!Region.binds .any e || Nat.blt e.on i) && lowL i l
def chkL (all : List (Oper × Sk)) : List (Oper × Sk) → Nat → Bool
  | [], _ => true
  | (oi, si) :: l, i => chk1 i oi si all 0 && lowL i oi.after.toList && chkL all l (i + 1)

theorem chk1_spec {i : Nat} {oi : Oper} {si : Sk} : ∀ {l : List (Oper × Sk)} {j : Nat}, chk1 i oi si l j = true → ∀ {q : Nat} {oq : Oper} {sq : Sk}, l[q]? = some (oq, sq) → j + q < i → cfl oi si oq sq = true → edgeOn oi (j + q) = true
  | [], _, _, q, _, _, hq, _, _ => by simp at hq
  | (oj, sj) :: l, j, h, 0, oq, sq, hq, hlt, hc => by
    simp only [List.getElem?_cons_zero, Option.some.injEq, Prod.mk.injEq] at hq
    obtain ⟨rfl, rfl⟩ := hq
    simp only [chk1, Bool.and_eq_true, Bool.or_eq_true, Bool.not_eq_true'] at h
    rcases h.1 with (h1 | h1) | h1
    · have := Nat.le_of_ble_eq_true h1; omega
    · rw [hc] at h1; cases h1
    · exact h1
  | (oj, sj) :: l, j, h, q + 1, oq, sq, hq, hlt, hc => by
    simp only [chk1, Bool.and_eq_true] at h
    have := chk1_spec h.2 (q := q) (by simpa using hq) (by omega) hc
    rwa [show j + 1 + q = j + (q + 1) by omega] at this
theorem chkL_spec {all : List (Oper × Sk)} : ∀ {l : List (Oper × Sk)} {i : Nat}, chkL all l i = true → ∀ {q : Nat} {oq : Oper} {sq : Sk}, l[q]? = some (oq, sq) → chk1 (i + q) oq sq all 0 = true ∧ lowL (i + q) oq.after.toList = true
  | [], _, _, q, _, _, hq => by simp at hq
  | (oi, si) :: l, i, h, 0, oq, sq, hq => by
    simp only [List.getElem?_cons_zero, Option.some.injEq, Prod.mk.injEq] at hq
    obtain ⟨rfl, rfl⟩ := hq
    simp only [chkL, Bool.and_eq_true] at h
    exact h.1
  | (oi, si) :: l, i, h, q + 1, oq, sq, hq => by
    simp only [chkL, Bool.and_eq_true] at h
    have := chkL_spec h.2 (q := q) (by simpa using hq)
    rwa [show i + 1 + q = i + (q + 1) by omega] at this
theorem lowL_spec {i : Nat} : ∀ {l : List Edge}, lowL i l = true → ∀ e ∈ l, Region.binds .any e = true → e.on < i
  | [], _, e, he, _ => by simp at he
  | e0 :: l, h, e, he, hb => by
    simp only [lowL, Bool.and_eq_true, Bool.or_eq_true, Bool.not_eq_true'] at h
    rcases List.mem_cons.1 he with rfl | he
    · rcases h.1 with h1 | h1
      · rw [hb] at h1; cases h1
      · simpa [Nat.blt_eq] using h1
    · exact lowL_spec h.2 e he hb
theorem edgeL_spec {j : Nat} : ∀ {l : List Edge}, edgeL j l = true → ∃ e ∈ l, e.on = j ∧ Region.binds .any e = true
  | [], h => by cases h
  | e :: l, h => by
    simp only [edgeL, Bool.or_eq_true, Bool.and_eq_true] at h
    rcases h with ⟨h1, h2⟩ | h
    · exact ⟨e, List.mem_cons_self, Nat.eq_of_beq_eq_true h1, h2⟩
    · obtain ⟨e', h1, h2⟩ := edgeL_spec h
      exact ⟨e', List.mem_cons_of_mem _ h1, h2⟩

section
variable (P : Program) (G : Nat → AV) (N : Nat)
/-- Its guard holds. -/
def Wants (all : Array Oper) (r : Rec) (e : Env) : Prop := match r.o.guard with
  | none => True
  | some (j, b) => ∃ d, (all[j]?).bind (·.dst) = some d ∧ Nat.blt d N = true ∧ memN d r.sk.rs = true ∧ e d = .v .bool b
def OffG (all : Array Oper) (r : Rec) (e : Env) : Prop := ∃ j b d, r.o.guard = some (j, b) ∧ (all[j]?).bind (·.dst) = some d ∧ Nat.blt d N = true ∧ memN d r.sk.rs = true ∧ ((∃ b', e d = .v .bool b' ∧ (b' == b) = false) ∨ e d = .tup [])
def EffOk (r : Rec) : Prop := match r.eff with
  | none => True
  | some (n, _) => r.sk.nm = some n
/-- What is to be shown of an operation. -/
def Obl (all : Array Oper) (r : Rec) (e : Env) (h : Heap) : Prop :=
  dstOk N r.o.dst = true ∧ EffOk r ∧
  ((Wants N all r e ∧ ∀ e' h', (∀ n, memM n r.sk.ns = true → h' n = h n) → OpSem P G N r.o (ovr r.sk.rs e e') h' (put (ovr r.sk.rs e e') r.o.dst r.v) (ap r.eff h')) ∨
   (OffG N all r e ∧ r.v = .tup [] ∧ r.eff = none))
def Obls (all : Array Oper) : List Rec → Env → Heap → Prop
  | [], _, _ => True
  | r :: rs, e, h => Obl P G N all r e h ∧ Obls all rs (put e r.o.dst r.v) (ap r.eff h)
end
def wE (r : Rec) : Option (Nat × AV) := r.o.dst.map fun d => (d, r.v)
def wH (r : Rec) : Option (Nm × Ob) := r.eff
def beqN (a b : Nat) : Bool := Nat.beq a b
theorem put_upd (e : Env) (r : Rec) : put e r.o.dst r.v = upd beqN e (wE r) := by
  unfold wE
  cases r.o.dst <;> rfl
theorem ap_upd (h : Heap) (r : Rec) : ap r.eff h = upd nmEq h (wH r) := by
  unfold wH
  cases r.eff <;> rfl
def eX (rs : List Rec) (X : Nat → Bool) (e : Env) : Env := lw beqN X (rs.map wE) 0 e
def hX (rs : List Rec) (X : Nat → Bool) (h : Heap) : Heap := lw nmEq X (rs.map wH) 0 h
def seqE (rs : List Rec) (e : Env) : Env := rs.foldl (fun e r => put e r.o.dst r.v) e
def seqH (rs : List Rec) (h : Heap) : Heap := rs.foldl (fun h r => ap r.eff h) h

section
variable {P : Program} {G : Nat → AV} {N : Nat} {all : Array Oper}
theorem Obls.get : ∀ {rs : List Rec} {e : Env} {h : Heap}, Obls P G N all rs e h → ∀ {i : Nat} {r : Rec}, rs[i]? = some r → Obl P G N all r (seqE (rs.take i) e) (seqH (rs.take i) h)
  | [], _, _, _, i, r, hi => by simp at hi
  | r0 :: rs, e, h, ho, 0, r, hi => by
    simp only [List.getElem?_cons_zero, Option.some.injEq] at hi
    subst hi
    exact ho.1
  | r0 :: rs, e, h, ho, i + 1, r, hi => by
    have := ho.2.get (i := i) (r := r) (by simpa using hi)
    simpa [seqE, seqH] using this

theorem seqE_lw (rs : List Rec) (i : Nat) (e : Env) (hi : i ≤ rs.length) : seqE (rs.take i) e = eX rs (fun j => decide (j < i)) e := by
  have h1 : ∀ (l : List Rec) (e : Env), seqE l e = (l.map wE).foldl (upd beqN) e := by
    intro l
    induction l with
    | nil => intro e; rfl
    | cons r l ih => intro e; simp only [seqE, List.foldl_cons, List.map_cons] at ih ⊢; rw [ih, put_upd]
  unfold eX
  conv => rhs; rw [← List.take_append_drop i rs, List.map_append, lw_app]
  rw [lw_off, lw_take, h1]
  · intro j hj; simp only [List.length_map, List.length_take] at hj; simp; omega
  · intro j hj; simp only [List.length_map, List.length_take] at *; simp; omega
theorem seqH_lw (rs : List Rec) (i : Nat) (h : Heap) (hi : i ≤ rs.length) : seqH (rs.take i) h = hX rs (fun j => decide (j < i)) h := by
  have h1 : ∀ (l : List Rec) (h : Heap), seqH l h = (l.map wH).foldl (upd nmEq) h := by
    intro l
    induction l with
    | nil => intro h; rfl
    | cons r l ih => intro h; simp only [seqH, List.foldl_cons, List.map_cons] at ih ⊢; rw [ih, ap_upd]
  unfold hX
  conv => rhs; rw [← List.take_append_drop i rs, List.map_append, lw_app]
  rw [lw_off, lw_take, h1]
  · intro j hj; simp only [List.length_map, List.length_take] at hj; simp; omega
  · intro j hj; simp only [List.length_map, List.length_take] at *; simp; omega
end
end Go.Vs

/- Regions whose order is drawn: the main step. -/
set_option linter.unusedVariables false
set_option linter.unusedSimpArgs false
namespace Go.Vs
open Go Go.RowKit Go.Proofs

section
variable {P : Program} {G : Nat → AV} {N : Nat} {all : Array Oper} {recs : List Rec} {X : Nat → Bool}

def skOf (rs : List Rec) : List (Oper × Sk) := rs.map fun r => (r.o, r.sk)
theorem skOf_get {rs : List Rec} {i : Nat} {r : Rec} (h : rs[i]? = some r) : (skOf rs)[i]? = some (r.o, r.sk) := by simp [skOf, h]

/-- Executed sets are closed. -/
def Closed (recs : List Rec) (X : Nat → Bool) : Prop := ∀ q r, recs[q]? = some r → X q = true → ∀ j, edgeOn r.o j = true → X j = true

/-- Of what i looks at, what has been executed is what stands ahead of it. -/
theorem same_of_cfl (hchk : chkL (skOf recs) (skOf recs) 0 = true) (hcl : Closed recs X) {i : Nat} {r : Rec} (hi : recs[i]? = some r) (hXi : X i = false) (hdep : ∀ j, edgeOn r.o j = true → X j = true)
    {j : Nat} {q : Rec} (hj : recs[j]? = some q) (hc1 : j < i → cfl r.o r.sk q.o q.sk = true) (hc2 : i < j → cfl q.o q.sk r.o r.sk = true) : X j = decide (j < i) := by
  rcases Nat.lt_trichotomy j i with hlt | rfl | hlt
  · have h1 := (chkL_spec hchk (skOf_get hi)).1
    have := chk1_spec h1 (skOf_get hj) (by omega) (hc1 hlt)
    rw [Nat.zero_add] at this
    simp [hdep j this, hlt]
  · simp [hXi]
  · have h1 := (chkL_spec hchk (skOf_get hj)).1
    have := chk1_spec h1 (skOf_get hi) (by omega) (hc2 hlt)
    rw [Nat.zero_add] at this
    cases hq : X j with
    | false => simp; omega
    | true =>
      have := hcl j q hj hq i this
      rw [hXi] at this; cases this

theorem wE_get {rs : List Rec} {j : Nat} {w : Option (Nat × AV)} (h : (rs.map wE)[j]? = some w) : ∃ q, rs[j]? = some q ∧ w = wE q := by
  rw [List.getElem?_map] at h
  cases hq : rs[j]? with
  | none => rw [hq] at h; cases h
  | some q => rw [hq] at h; simp at h; exact ⟨q, rfl, h.symm⟩
theorem wH_get {rs : List Rec} {j : Nat} {w : Option (Nm × Ob)} (h : (rs.map wH)[j]? = some w) : ∃ q, rs[j]? = some q ∧ w = wH q := by
  rw [List.getElem?_map] at h
  cases hq : rs[j]? with
  | none => rw [hq] at h; cases h
  | some q => rw [hq] at h; simp at h; exact ⟨q, rfl, h.symm⟩
theorem wrE {q : Rec} {s : Nat} (h : wr beqN (wE q) s = true) : q.o.dst = some s := by
  unfold wE at h
  cases hd : q.o.dst with
  | none => rw [hd] at h; cases h
  | some d => rw [hd] at h; simp only [Option.map_some, wr, beqN] at h; rw [Nat.eq_of_beq_eq_true h]
theorem wrH {q : Rec} {n : Nm} (hok : EffOk q) (h : wr nmEq (wH q) n = true) : q.sk.nm = some n := by
  unfold wH at h
  unfold EffOk at hok
  cases hd : q.eff with
  | none => rw [hd] at h; cases h
  | some p =>
    rw [hd] at h hok
    simp only [wr] at h
    rw [nmEq_iff.1 h]; exact hok

theorem nmEq_refl (n : Nm) : nmEq n n = true := nmEq_iff.2 rfl

theorem agreeE (hchk : chkL (skOf recs) (skOf recs) 0 = true) (hcl : Closed recs X) {i : Nat} {r : Rec} (hi : recs[i]? = some r) (hXi : X i = false) (hdep : ∀ j, edgeOn r.o j = true → X j = true) {e : Env} {s : Nat}
    (hs : memN s r.sk.rs = true) : eX recs X e s = seqE (recs.take i) e s := by
  rw [seqE_lw recs i e (Nat.le_of_lt (List.getElem?_eq_some_iff.1 hi).1)]
  refine lw_congr _ _ _ _ _ rfl fun j w hw hwr => ?_
  obtain ⟨q, hq, rfl⟩ := wE_get hw
  have hd := wrE hwr
  rw [Nat.zero_add]
  exact same_of_cfl hchk hcl hi hXi hdep hq (fun _ => by simp [cfl, hd, oMem, hs]) (fun _ => by simp [cfl, hd, oMem, hs])
theorem agreeH (hchk : chkL (skOf recs) (skOf recs) 0 = true) (hok : ∀ (j : Nat) (q : Rec), recs[j]? = some q → EffOk q) (hcl : Closed recs X) {i : Nat} {r : Rec} (hi : recs[i]? = some r) (hXi : X i = false) (hdep : ∀ j, edgeOn r.o j = true → X j = true) {h : Heap} {n : Nm}
    (hs : memM n r.sk.ns = true) : hX recs X h n = seqH (recs.take i) h n := by
  rw [seqH_lw recs i h (Nat.le_of_lt (List.getElem?_eq_some_iff.1 hi).1)]
  refine lw_congr _ _ _ _ _ rfl fun j w hw hwr => ?_
  obtain ⟨q, hq, rfl⟩ := wH_get hw
  have hd := wrH (hok j q hq) hwr
  rw [Nat.zero_add]
  exact same_of_cfl hchk hcl hi hXi hdep hq (fun _ => by simp [cfl, hd, mMem, hs]) (fun _ => by simp [cfl, hd, mMem, hs])

/-- One more is executed. -/
def also (X : Nat → Bool) (i : Nat) : Nat → Bool := fun j => bif Nat.beq j i then true else X j
theorem also_self (X : Nat → Bool) (i : Nat) : also X i i = true := by simp [also]
theorem also_ne (X : Nat → Bool) {i j : Nat} (h : j ≠ i) : also X i j = X j := by
  have : Nat.beq j i = false := by
    cases hb : Nat.beq j i with
    | false => rfl
    | true => exact absurd (Nat.eq_of_beq_eq_true hb) h
  simp [also, this]

theorem stepE (hchk : chkL (skOf recs) (skOf recs) 0 = true) (hcl : Closed recs X) {i : Nat} {r : Rec} (hi : recs[i]? = some r) (hXi : X i = false) (hdep : ∀ j, edgeOn r.o j = true → X j = true) (e : Env) :
    put (eX recs X e) r.o.dst r.v = eX recs (also X i) e := by
  rw [put_upd]
  funext s
  cases hw : wr beqN (wE r) s with
  | true =>
    have hd := wrE hw
    have hwE : wE r = some (s, r.v) := by simp [wE, hd]
    have h1 : upd beqN (eX recs X e) (wE r) s = r.v := by rw [hwE]; simp [upd, beqN]
    rw [h1]
    symm
    refine lw_last beqN (k' := s) _ _ _ i (by rw [List.getElem?_map, hi]; simp [hwE]) (by simp [beqN]) (by rw [Nat.zero_add]; exact also_self X i) fun j w hj hlt hwr => ?_
    obtain ⟨q, hq, rfl⟩ := wE_get hj
    have hdq := wrE hwr
    rw [Nat.zero_add, also_ne X (by omega)]
    have := same_of_cfl hchk hcl hi hXi hdep hq (fun _ => by simp [cfl, hd, hdq, oEq]) (fun _ => by simp [cfl, hd, hdq, oEq])
    rw [this]; simp; omega
  | false =>
    rw [upd_none beqN hw]
    refine lw_congr _ _ _ _ _ rfl fun j w hj hwr => ?_
    rw [Nat.zero_add]
    by_cases hji : j = i
    · subst hji
      obtain ⟨q, hq, rfl⟩ := wE_get hj
      rw [hi] at hq; cases hq
      rw [hw] at hwr; cases hwr
    · rw [also_ne X hji]
theorem stepH (hchk : chkL (skOf recs) (skOf recs) 0 = true) (hok : ∀ (j : Nat) (q : Rec), recs[j]? = some q → EffOk q) (hcl : Closed recs X) {i : Nat} {r : Rec} (hi : recs[i]? = some r) (hXi : X i = false) (hdep : ∀ j, edgeOn r.o j = true → X j = true) (h : Heap) :
    ap r.eff (Vs.hX recs X h) = Vs.hX recs (also X i) h := by
  rw [ap_upd]
  funext n
  cases hw : wr nmEq (wH r) n with
  | true =>
    have hd := wrH (hok i r hi) hw
    obtain ⟨ob, hwH⟩ : ∃ ob, wH r = some (n, ob) := by
      cases he : wH r with
      | none => rw [he] at hw; cases hw
      | some p =>
        obtain ⟨n', ob⟩ := p
        rw [he] at hw
        simp only [wr] at hw
        rw [nmEq_iff.1 hw]; exact ⟨ob, rfl⟩
    have h1 : upd nmEq (Vs.hX recs X h) (wH r) n = ob := by rw [hwH]; simp [upd, nmEq_refl]
    rw [h1]
    symm
    refine lw_last nmEq (k' := n) _ _ _ i (by rw [List.getElem?_map, hi]; simp [hwH]) (nmEq_refl n) (by rw [Nat.zero_add]; exact also_self X i) fun j w hj hlt hwr => ?_
    obtain ⟨q, hq, rfl⟩ := wH_get hj
    have hdq := wrH (hok j q hq) hwr
    rw [Nat.zero_add, also_ne X (by omega)]
    have := same_of_cfl hchk hcl hi hXi hdep hq (fun _ => by simp [cfl, hd, hdq, mEq, nmEq_refl]) (fun _ => by simp [cfl, hd, hdq, mEq, nmEq_refl])
    rw [this]; simp; omega
  | false =>
    rw [upd_none nmEq hw]
    refine lw_congr _ _ _ _ _ rfl fun j w hj hwr => ?_
    rw [Nat.zero_add]
    by_cases hji : j = i
    · subst hji
      obtain ⟨q, hq, rfl⟩ := wH_get hj
      rw [hi] at hq; cases hq
      rw [hw] at hwr; cases hwr
    · rw [also_ne X hji]
end
end Go.Vs

/- Regions whose order is drawn: the judgement. -/
set_option linter.unusedVariables false
set_option linter.unusedSimpArgs false
namespace Go.Vs
open Go Go.RowKit Go.Proofs

theorem countP_lt {p p' : Nat → Bool} : ∀ {l : List Nat} {i : Nat}, (∀ x, p' x = true → p x = true) → i ∈ l → p i = true → p' i = false → l.countP p' < l.countP p
  | [], _, _, hi, _, _ => by simp at hi
  | x :: l, i, h, hi, h1, h2 => by
    rcases List.mem_cons.1 hi with rfl | hi
    · have : l.countP p' ≤ l.countP p := List.countP_mono_left fun x _ hx => h x hx
      simp only [List.countP_cons, h1, h2, if_true]
      simp; omega
    · have := countP_lt h hi h1 h2
      simp only [List.countP_cons]
      have hx := h x
      cases hp' : p' x with
      | true => rw [hx hp']; simp; omega
      | false => simp; omega

section
variable {P : Program} {G : Nat → AV} {N : Nat} {all : Array Oper} {recs : List Rec} {h0 : Heap}

def xOf (listed : Array Bool) : Nat → Bool := fun j => listed.getD j false
def unl (all : Array Oper) (listed : Array Bool) : Nat := (List.range all.size).countP fun j => !listed.getD j false

theorem rec_of (hall : all.toList = recs.map (·.o)) {i : Nat} {o : Oper} (ho : all[i]? = some o) : ∃ r, recs[i]? = some r ∧ r.o = o := by
  rw [← Array.getElem?_toList, hall, List.getElem?_map] at ho
  cases hq : recs[i]? with
  | none => rw [hq] at ho; cases ho
  | some r => rw [hq] at ho; simp at ho; exact ⟨r, rfl, ho⟩
theorem edge_mem {o : Oper} {j : Nat} (h : edgeOn o j = true) : ∃ e ∈ o.after, e.on = j ∧ Region.binds .any e = true := by
  obtain ⟨e, h1, h2⟩ := edgeL_spec h
  exact ⟨e, by simpa using h1, h2⟩

theorem any_sound {Γ : Start} {e : Env} {h : Heap} {Qx : Exit → Act → World → Prop} (hall : all.toList = recs.map (·.o)) (hchk : chkL (skOf recs) (skOf recs) 0 = true) (hobl : Obls P G N all recs e h)
    (hK : ∀ a w, Holds G N h0 Γ (seqE recs e) (seqH recs h) a w → Qx .normal a w) :
    ∀ (fuel : Nat) (listed : Array Bool) (a : Act) (w : World), listed.size = all.size → unl all listed ≤ fuel → Closed recs (xOf listed) → Holds G N h0 Γ (eX recs (xOf listed) e) (hX recs (xOf listed) h) a w → wpAny P .any all Qx fuel listed a w := by
  have hlen : all.size = recs.length := by rw [← Array.length_toList, hall, List.length_map]
  have hok : ∀ (j : Nat) (q : Rec), recs[j]? = some q → EffOk q := fun j q hq => (hobl.get hq).2.1
  -- nothing ready: all done
  have hdone : ∀ (listed : Array Bool) (a : Act) (w : World), listed.size = all.size → Region.ready .any all listed = [] → Holds G N h0 Γ (eX recs (xOf listed) e) (hX recs (xOf listed) h) a w → Qx .normal a w := by
    intro listed a w hs hr ho
    have hal : ∀ j, j < all.size → xOf listed j = true := by
      intro j
      induction j using Nat.strongRecOn with
      | _ j ih =>
        intro hj
        cases hq : xOf listed j with
        | true => rfl
        | false =>
          have hmem : j ∈ Region.ready .any all listed := by
            rw [mem_ready]
            refine ⟨?_, all[j], by simp [hj], fun ed hed hb => ?_⟩
            · unfold xOf at hq
              have : j < listed.size := by omega
              simpa [Array.getD_eq_getD_getElem?, this] using hq
            · obtain ⟨r, hr1, hr2⟩ := rec_of hall (i := j) (o := all[j]) (by simp [hj])
              have h2 := (chkL_spec hchk (skOf_get hr1)).2
              rw [Nat.zero_add, hr2] at h2
              have hlt := lowL_spec h2 ed (by simpa using hed) hb
              exact ih ed.on hlt (by omega)
          rw [hr] at hmem
          simp at hmem
    have e1 : eX recs (xOf listed) e = seqE recs e := by
      have h1 := seqE_lw recs recs.length e (Nat.le_refl _)
      rw [List.take_length] at h1
      rw [h1]
      unfold eX
      rw [lw_take, lw_take]
      · intro i hi; simp at hi; simp [hi]
      · intro i hi; simp at hi; rw [Nat.zero_add]; exact hal i (by omega)
    have e2 : hX recs (xOf listed) h = seqH recs h := by
      have h1 := seqH_lw recs recs.length h (Nat.le_refl _)
      rw [List.take_length] at h1
      rw [h1]
      unfold hX
      rw [lw_take, lw_take]
      · intro i hi; simp at hi; simp [hi]
      · intro i hi; simp at hi; rw [Nat.zero_add]; exact hal i (by omega)
    rw [e1, e2] at ho
    exact hK a w ho
  intro fuel
  induction fuel with
  | zero =>
    intro listed a w hs hu hcl ho
    have hr : Region.ready .any all listed = [] := by
      refine List.eq_nil_iff_forall_not_mem.2 fun j hj => ?_
      rw [mem_ready] at hj
      obtain ⟨h1, o, h2, _⟩ := hj
      have hj : j < all.size := (Array.getElem?_eq_some_iff.1 h2).1
      have hj' : j < listed.size := by omega
      have : 0 < unl all listed := by
        unfold unl
        rw [List.countP_pos_iff]
        exact ⟨j, List.mem_range.2 hj, by simpa [Array.getD_eq_getD_getElem?, hj'] using h1⟩
      omega
    exact ⟨hr, hdone listed a w hs hr ho⟩
  | succ fuel ih =>
    intro listed a w hs hu hcl ho
    refine ⟨fun hr => hdone listed a w hs hr ho, fun i hi => ?_⟩
    rw [mem_ready] at hi
    obtain ⟨hXi', o, hoi, hdeps⟩ := hi
    have hlt : i < all.size := (Array.getElem?_eq_some_iff.1 hoi).1
    have hlt' : i < listed.size := by omega
    have hXi : xOf listed i = false := by
      unfold xOf
      simpa [Array.getD_eq_getD_getElem?, hlt'] using hXi'
    obtain ⟨r, hri, rfl⟩ := rec_of hall hoi
    have hdep : ∀ j, edgeOn r.o j = true → xOf listed j = true := by
      intro j hj
      obtain ⟨ed, h1, rfl, h2⟩ := edge_mem hj
      exact hdeps ed h1 h2
    have halso : xOf (listed.setIfInBounds i true) = also (xOf listed) i := by
      funext j
      by_cases hji : j = i
      · subst hji
        rw [also_self]
        simp [xOf, Array.getD_eq_getD_getElem?, hlt']
      · rw [also_ne _ hji]
        unfold xOf
        exact getD_set_ne false (fun hq => hji hq.symm)
    have hcl' : Closed recs (xOf (listed.setIfInBounds i true)) := by
      rw [halso]
      intro q rq hq hx j hj
      by_cases hji : j = i
      · subst hji; exact also_self _ _
      · rw [also_ne _ hji]
        by_cases hqi : q = i
        · subst hqi
          rw [hri] at hq; cases hq
          exact hdep j hj
        · rw [also_ne _ hqi] at hx
          exact hcl q rq hq hx j hj
    have hu' : unl all (listed.setIfInBounds i true) ≤ fuel := by
      have : unl all (listed.setIfInBounds i true) < unl all listed := by
        unfold unl
        refine countP_lt (i := i) (fun x hx => ?_) (List.mem_range.2 hlt) ?_ ?_
        · by_cases hxi : x = i
          · subst hxi; simp [Array.getD_eq_getD_getElem?, hlt'] at hx
          · rw [getD_set_ne false (fun hq => hxi hq.symm)] at hx; exact hx
        · change (!xOf listed i) = true; rw [hXi]; rfl
        · simp [Array.getD_eq_getD_getElem?, hlt']
      omega
    have hs' : (listed.setIfInBounds i true).size = all.size := by simpa using hs
    have next : ∀ a' w', Holds G N h0 Γ (put (eX recs (xOf listed) e) r.o.dst r.v) (ap r.eff (hX recs (xOf listed) h)) a' w' → wpAny P .any all Qx fuel (listed.setIfInBounds i true) a' w' := by
      intro a' w' ho'
      refine ih _ a' w' hs' hu' hcl' ?_
      rw [halso, ← stepE hchk hcl hri hXi hdep e, ← stepH hchk hok hcl hri hXi hdep h]
      exact ho'
    obtain ⟨hd, _, hcase⟩ := hobl.get hri
    have hslot : ∀ d, memN d r.sk.rs = true → eX recs (xOf listed) e d = seqE (recs.take i) e d := fun d hd => agreeE hchk hcl hri hXi hdep hd
    have hov : ovr r.sk.rs (seqE (recs.take i) e) (eX recs (xOf listed) e) = eX recs (xOf listed) e := by
      funext s
      unfold ovr
      cases hm : memN s r.sk.rs with
      | true => exact (hslot s hm).symm
      | false => rfl
    unfold wpOp
    simp only [hoi]
    rcases hcase with ⟨hw, hsem⟩ | ⟨hoff, hv, heff⟩
    · have hwant : Region.wanted r.o (yielded all a.tmps) = true := by
        unfold Wants at hw
        cases hg : r.o.guard with
        | none => simp [Region.wanted, hg]
        | some jb =>
          obtain ⟨j, b⟩ := jb
          rw [hg] at hw
          obtain ⟨d, h1, h2, h3, h4⟩ := hw
          have hb := ho.bool (c := .tmp d) ((hslot d h3).trans h4)
          have := yielded_of ho h1 h2
          simp only [Act.eval] at hb
          rw [hb] at this
          simp [Region.wanted, hg, this]
      rw [if_pos hwant]
      refine .inl ?_
      have hsem' := hsem (eX recs (xOf listed) e) (hX recs (xOf listed) h) (fun n hn => agreeH hchk hok hcl hri hXi hdep hn)
      rw [hov] at hsem'
      exact ho.opSem hsem' hd next
    · have hwant : Region.wanted r.o (yielded all a.tmps) = false := by
        obtain ⟨j, b, d, hg, h1, h2, h3, h4⟩ := hoff
        rcases h4 with ⟨b', h4, h5⟩ | h4
        · have hb := ho.bool (c := .tmp d) ((hslot d h3).trans h4)
          have := yielded_of ho h1 h2
          simp only [Act.eval] at hb
          rw [hb] at this
          simp [Region.wanted, hg, this, h5]
        · have := yielded_of ho h1 h2
          obtain ⟨_, _, m, S, hr, _⟩ := ho
          have hu := hr.env d
          rw [(hslot d h3).trans h4] at hu
          obtain ⟨us, hu, hus⟩ := hu
          simp only [RepAs] at hus
          subst hus
          rw [hu] at this
          simp [Region.wanted, hg, this]
      rw [hwant]
      simp only [Bool.false_eq_true, if_false]
      refine next _ w ?_
      rw [hv, heff]
      exact ho.skip hd
end
end Go.Vs

/- Regions whose order is drawn: the rules of the walk. -/
set_option linter.unusedVariables false
set_option linter.unusedSimpArgs false
namespace Go.Vs
open Go Go.RowKit Go.Proofs

section
variable {P : Program} {G : Nat → AV} {N : Nat} {all : Array Oper} {h0 : Heap} {Q : Env → Heap → Prop} {k : List It}

theorem Holds.drawn {Γ : Start} {e : Env} {h : Heap} {a : Act} {w : World} {n : Nat} (ho : Holds G N h0 Γ e h a w) : Holds G N h0 Γ e h a { w with drawn := n } := by
  obtain ⟨hdef, hb, m, S, hr, hx⟩ := ho
  have x : Ext m S w h m S { w with drawn := n } h := ⟨fun _ _ hs => hs, ⟨fun _ _ _ => rfl⟩, fun n fr ver t e xs hn => ⟨fr, ver, xs, hn, .inr ⟨rfl, rfl, rfl⟩⟩, fun n fr cs hn => ⟨fr, cs, hn, rfl, rfl⟩⟩
  refine ⟨hdef, hb.trans ⟨rfl, rfl, rfl, Nat.le_refl _, fun _ _ => rfl⟩, m, S, ⟨hr.size, fun i => (hr.env i).mono x, ?_⟩, hx.trans x⟩
  exact ⟨fun g => (hr.hrel.glob g).mono x, fun n => (hr.hrel.ob n).mono x rfl (fun _ _ => rfl) (fun _ _ o hs => hs), hr.hrel.inj, hr.hrel.foot, hr.hrel.base⟩

/-- A drawn region, walked in one order: what is still to come of it. -/
def AW (P : Program) (G : Nat → AV) (N : Nat) (h0 : Heap) (Q : Env → Heap → Prop) (k : List It) (all : Array Oper) (sks : List Sk) (todo : List Oper) (e : Env) (h : Heap) : Prop :=
  ∃ recs : List Rec, recs.map (·.o) = todo ∧ recs.map (·.sk) = sks ∧ Obls P G N all recs e h ∧ W P G N h0 Q k (seqE recs e) (seqH recs h)

def zipS : List Oper → List Sk → List (Oper × Sk)
  | o :: l, s :: r => (o, s) :: zipS l r
  | _, _ => []
theorem zipS_of : ∀ recs : List Rec, zipS (recs.map (·.o)) (recs.map (·.sk)) = skOf recs
  | [] => rfl
  | r :: rs => by simp only [List.map_cons, zipS, skOf]; rw [zipS_of rs]; rfl

theorem W.any {id : Nat} {e : Env} {h : Heap} (sks : List Sk) (hm : P.follows .mixedOrders = true) (hchk : chkL (zipS all.toList sks) (zipS all.toList sks) 0 = true) (ha : AW P G N h0 Q k all sks all.toList e h) :
    W P G N h0 Q (.code (.region id all true) :: k) e h := by
  obtain ⟨recs, h1, h2, h3, h4⟩ := ha
  rw [← h1, ← h2, zipS_of] at hchk
  intro Γ a w ho
  have hx : ∀ j, xOf (Array.replicate all.size false) j = false := by
    intro j
    simp [xOf, Array.getD_eq_getD_getElem?, Array.getElem?_replicate]
    split <;> rfl
  refine wp_region_any hm (any_sound (h0 := h0) (Γ := Γ) h1.symm hchk h3 (fun a w ho => h4 Γ a w ho) all.size _ a _ (by simp) ?_ ?_ ?_)
  · unfold unl
    exact Nat.le_trans List.countP_le_length (by simp)
  · intro q r _ hq
    rw [hx] at hq; cases hq
  · unfold eX hX
    rw [lw_off, lw_off]
    · exact ho.drawn
    · intro i _; exact hx _
    · intro i _; exact hx _

variable {sks : List Sk} {sk : Sk} {todo : List Oper} {o : Oper} {e : Env} {h : Heap} {v : AV}
theorem AW.end (hw : W P G N h0 Q k e h) : AW P G N h0 Q k all [] [] e h := ⟨[], rfl, rfl, trivial, hw⟩
theorem AW.cons {eff : Option (Nm × Ob)} (ho : Obl P G N all ⟨o, v, eff, sk⟩ e h) (hw : AW P G N h0 Q k all sks todo (put e o.dst v) (ap eff h)) : AW P G N h0 Q k all (sk :: sks) (o :: todo) e h := by
  obtain ⟨recs, h1, h2, h3, h4⟩ := hw
  exact ⟨⟨o, v, eff, sk⟩ :: recs, by simp [h1], by simp [h2], ⟨ho, h3⟩, h4⟩

/-- What has been found of the objects that it looks at. -/
def Ag (sk : Sk) (h h' : Heap) : Prop := ∀ n, memM n sk.ns = true → h' n = h n
/-- A reading operation, whatever else has been done. -/
def ARead (P : Program) (G : Nat → AV) (sk : Sk) (o : Oper) (e : Env) (h : Heap) (v : AV) : Prop := ∀ e' h', Ag sk h h' → OpRead P G o (ovr sk.rs e e') h' v
/-- An operation that writes an object. -/
def ASem (P : Program) (G : Nat → AV) (N : Nat) (sk : Sk) (o : Oper) (e : Env) (h : Heap) (v : AV) (eff : Option (Nm × Ob)) : Prop :=
  ∀ e' h', Ag sk h h' → OpSem P G N o (ovr sk.rs e e') h' (put (ovr sk.rs e e') o.dst v) (ap eff h')

theorem ARead.sem (r : ARead P G sk o e h v) : ASem P G N sk o e h v none := fun e' h' ha => (r e' h' ha).sem

theorem AW.op {eff : Option (Nm × Ob)} (hg : o.guard = none) (hs : ASem P G N sk o e h v eff) (hd : dstOk N o.dst = true) (hE : EffOk ⟨o, v, eff, sk⟩) (hw : AW P G N h0 Q k all sks todo (put e o.dst v) (ap eff h)) : AW P G N h0 Q k all (sk :: sks) (o :: todo) e h :=
  AW.cons ⟨hd, hE, .inl ⟨by unfold Wants; rw [hg]; trivial, hs⟩⟩ hw
theorem AW.opG {eff : Option (Nm × Ob)} {j d : Nat} {b : Bool} (hg : o.guard = some (j, b)) (hj : (all[j]?).bind (·.dst) = some d) (hdN : Nat.blt d N = true) (hv : e d = .v .bool b) (hr : memN d sk.rs = true)
    (hs : ASem P G N sk o e h v eff) (hd : dstOk N o.dst = true) (hE : EffOk ⟨o, v, eff, sk⟩) (hw : AW P G N h0 Q k all sks todo (put e o.dst v) (ap eff h)) : AW P G N h0 Q k all (sk :: sks) (o :: todo) e h :=
  AW.cons ⟨hd, hE, .inl ⟨by unfold Wants; rw [hg]; exact ⟨d, hj, hdN, hr, hv⟩, hs⟩⟩ hw
theorem AW.off {j d : Nat} {b b' : Bool} (hg : o.guard = some (j, b)) (hj : (all[j]?).bind (·.dst) = some d) (hdN : Nat.blt d N = true) (hv : e d = .v .bool b') (hne : (b' == b) = false) (hr : memN d sk.rs = true)
    (hd : dstOk N o.dst = true) (hw : AW P G N h0 Q k all sks todo (put e o.dst (.tup [])) h) : AW P G N h0 Q k all (sk :: sks) (o :: todo) e h :=
  AW.cons (eff := none) ⟨hd, trivial, .inr ⟨⟨j, b, d, hg, hj, hdN, hr, .inl ⟨b', hv, hne⟩⟩, rfl, rfl⟩⟩ hw
theorem AW.offD {j d : Nat} {b : Bool} (hg : o.guard = some (j, b)) (hj : (all[j]?).bind (·.dst) = some d) (hdN : Nat.blt d N = true) (hv : e d = .tup []) (hr : memN d sk.rs = true)
    (hd : dstOk N o.dst = true) (hw : AW P G N h0 Q k all sks todo (put e o.dst (.tup [])) h) : AW P G N h0 Q k all (sk :: sks) (o :: todo) e h :=
  AW.cons (eff := none) ⟨hd, trivial, .inr ⟨⟨j, b, d, hg, hj, hdN, hr, .inr hv⟩, rfl, rfl⟩⟩ hw
theorem AW.opB {b : Bool} (hg : o.guard = none) (hs : ASem P G N sk o e h (.v .bool b) none) (hd : dstOk N o.dst = true)
    (ht : b = true → AW P G N h0 Q k all sks todo (put e o.dst (.v .bool true)) h) (hf : b = false → AW P G N h0 Q k all sks todo (put e o.dst (.v .bool false)) h) : AW P G N h0 Q k all (sk :: sks) (o :: todo) e h := by
  cases b with
  | true => exact AW.op hg hs hd trivial (ht rfl)
  | false => exact AW.op hg hs hd trivial (hf rfl)
theorem AW.opGB {j d : Nat} {b b' : Bool} (hg : o.guard = some (j, b')) (hj : (all[j]?).bind (·.dst) = some d) (hdN : Nat.blt d N = true) (hv : e d = .v .bool b') (hr : memN d sk.rs = true)
    (hs : ASem P G N sk o e h (.v .bool b) none) (hd : dstOk N o.dst = true)
    (ht : b = true → AW P G N h0 Q k all sks todo (put e o.dst (.v .bool true)) h) (hf : b = false → AW P G N h0 Q k all sks todo (put e o.dst (.v .bool false)) h) : AW P G N h0 Q k all (sk :: sks) (o :: todo) e h := by
  cases b with
  | true => exact AW.opG hg hj hdN hv hr hs hd trivial (ht rfl)
  | false => exact AW.opG hg hj hdN hv hr hs hd trivial (hf rfl)
end
end Go.Vs

/- Facts on types, out of closed equations. -/
set_option linter.unusedVariables false
set_option linter.unusedSimpArgs false
namespace Go.Vs
open Go Go.RowKit Go.Proofs

def fieldsOf (d : Option TypeDesc) : Option (List (Nat × TypeId)) := match d with
  | some (.struct fs) => some (fs.toList.map fun f => (f.offset, f.type))
  | _ => none
def lEq (o : Option Ty) (t : Ty) : Bool := match o with
  | some t' => decide (t' = t)
  | none => false
def fldChk (L : Lay) (t : Ty) : List (Nat × TypeId) → Nat → Bool
  | [], i => Nat.beq t.nfld i
  | (o, ty) :: l, i => Nat.beq o (t.off i) && lEq (L ty) (t.fld i) && fldChk L t l (i + 1)

theorem fldChk_spec {L : Lay} {t : Ty} : ∀ {l : List (Nat × TypeId)} {i : Nat}, fldChk L t l i = true → t.nfld = i + l.length ∧ ∀ j o ty, l[j]? = some (o, ty) → o = t.off (i + j) ∧ L ty = some (t.fld (i + j))
  | [], i, h => ⟨by simpa using Nat.eq_of_beq_eq_true h, fun j o ty hj => by simp at hj⟩
  | (o0, ty0) :: l, i, h => by
    simp only [fldChk, Bool.and_eq_true] at h
    obtain ⟨h1, h2⟩ := fldChk_spec h.2
    refine ⟨by simp only [List.length_cons]; omega, fun j o ty hj => ?_⟩
    cases j with
    | zero =>
      simp only [List.getElem?_cons_zero, Option.some.injEq, Prod.mk.injEq] at hj
      obtain ⟨rfl, rfl⟩ := hj
      refine ⟨Nat.eq_of_beq_eq_true h.1.1, ?_⟩
      have := h.1.2
      unfold lEq at this
      split at this
      · rename_i t' he
        rw [he]
        exact congrArg some (of_decide_eq_true this)
      · cases this
    | succ j =>
      have := h2 j o ty (by simpa using hj)
      rwa [show i + 1 + j = i + (j + 1) by omega] at this

theorem Facts.st {P : Program} {L : Lay} {t : TypeId} {a r : Ty} {l : List (Nat × TypeId)} (hu : fieldsOf (P.underlying t) = some l) (hc : fldChk L (.cons a r) l 0 = true) (hi : Inf P t (.agg (Ty.zero (.cons a r)).toArray) (Ty.size (.cons a r))) : Facts P L t (.cons a r) := by
  unfold fieldsOf at hu
  split at hu
  · rename_i fs he
    simp only [Option.some.injEq] at hu
    obtain ⟨h1, h2⟩ := fldChk_spec hc
    refine ⟨fs, he, ⟨?_, fun i f hf => ?_⟩, hi⟩
    · rw [h1, ← hu]; simp
    · have := h2 i f.offset f.type (by rw [← hu, List.getElem?_map, hf]; rfl)
      rwa [Nat.zero_add] at this
  · cases hu
@[simp] theorem tyCast_rfl {t : Ty} (x : t.D) (he : t = t) : tyCast (t' := t) x he = x := rfl
theorem one_i {k : IntKind} {x y : Int} {hk : Ty.int k = Ty.int k} (he : x = y) : oneOf [.v (.int k) (tyCast (t' := .int k) x hk)] = (AV.v (.int k) y).up := by rw [he]; rfl
theorem one_b {x y : Bool} {hk : Ty.bool = Ty.bool} (he : x = y) : oneOf [.v .bool (tyCast (t' := .bool) x hk)] = (AV.v .bool y).up := by rw [he]; rfl
theorem one_l {t : Ty} {x y : List t.D} {hk : Ty.sl t = Ty.sl t} (he : x = y) : oneOf [.v (.sl t) (tyCast (t' := .sl t) x hk)] = (AV.v (.sl t) y).up := by rw [he]; rfl
end Go.Vs

/- Loops and joins with what stays apart; Bools that say a proposition. -/
set_option linter.unusedVariables false
set_option linter.unusedSimpArgs false
namespace Go.Vs
open Go Go.RowKit Go.Proofs

section
variable {P : Program} {G : Nat → AV} {N : Nat} {hb hc : Heap} {Q : Env → Heap → Prop} {k : List It} {e : Env} {h : Heap}

/-- Only what is listed is kept; the caller's objects may have gone on. -/
theorem W.cut2 (hG : ∀ g, (G g).up = G g) (E : List (Nat × AV)) (l : List (Nat × Ob)) (hE : EAgree e E) (ha : HAgree h l) (ho : Outs hc h) (hr : (envRefs l E && allRefs l l) = true)
    (hw : W P G N (pushH hb) Q k (envOf E) (hp (pushH hc) l)) : W P G N (pushH hb) Q k e h := by
  intro Γ a w hh
  obtain ⟨hdef, hbl, m, S, r, x⟩ := hh
  simp only [Bool.and_eq_true] at hr
  refine hw Γ a w ⟨hdef, hbl, m, S, ⟨r.size, envOf_rep (fun n => hp_agree ha ho) r.env hE hr.1, r.hrel.cut hG ha ho hr.2⟩, ?_⟩
  refine ⟨x.foot, x.same, fun n fr ver t e xs hn => ?_, fun n fr cs hn => ?_⟩
  · cases n with
    | own i => cases hn
    | out n =>
      obtain ⟨fr', ver', xs', h1, h2⟩ := x.row (.out n) fr ver t e xs hn
      rw [ho n] at h1
      exact ⟨fr', ver', xs', h1, h2⟩
  · cases n with
    | own i => cases hn
    | out n =>
      obtain ⟨fr', cs', h1, h2⟩ := x.box (.out n) fr cs hn
      rw [ho n] at h1
      exact ⟨fr', cs', h1, h2⟩

theorem ean {e : Env} : EAgree e [] := trivial
theorem eac {e : Env} {j : Nat} {x : AV} {l : List (Nat × AV)} (h : force (e j) = some x) (t : EAgree e l) : EAgree e ((j, x) :: l) := ⟨h, t⟩
theorem han {h : Heap} : HAgree h [] := trivial
theorem hac {h : Heap} {j : Nat} {x : Ob} {l : List (Nat × Ob)} (q : forceO (h (.own j)) = some x) (t : HAgree h l) : HAgree h ((j, x) :: l) := ⟨q, t⟩

/-- What a round hands on: Ec, Hc stay. -/
def Dl {α : Type} (Ec : List (Nat × AV)) (Hc : List (Nat × Ob)) (E : α → List (Nat × AV)) (H : α → List (Nat × Ob)) (C : α → Heap) (μ : α → Nat) (I : α → Prop) (n : Nat) (e : Env) (h : Heap) : Prop :=
  ∃ x, μ x < n ∧ I x ∧ e = envOf (Ec ++ E x) ∧ h = hp (pushH (C x)) (Hc ++ H x)

theorem W.lp {α : Type} {c : Code} (hG : ∀ g, (G g).up = G g) (Ec : List (Nat × AV)) (Hc : List (Nat × Ob)) (E : α → List (Nat × AV)) (H : α → List (Nat × Ob)) (C : α → Heap) (μ : α → Nat) (I : α → Prop) (x0 : α) (hI : I x0)
    (hE : EAgree e (Ec ++ E x0)) (ha : HAgree h (Hc ++ H x0)) (ho : Outs (C x0) h) (hr : (envRefs (Hc ++ H x0) (Ec ++ E x0) && allRefs (Hc ++ H x0) (Hc ++ H x0)) = true)
    (round : ∀ x, I x → W P G N (pushH hb) Q (.code c :: .upto (Dl Ec Hc E H C μ I (μ x)) :: k) (envOf (Ec ++ E x)) (hp (pushH (C x)) (Hc ++ H x))) : W P G N (pushH hb) Q (.code (.loop c) :: k) e h := by
  refine W.cut2 hG (Ec ++ E x0) (Hc ++ H x0) hE ha ho hr ?_
  exact W.loop (fun x => envOf (Ec ++ E x)) (fun x => hp (pushH (C x)) (Hc ++ H x)) μ I x0 hI rfl rfl round
theorem W.nx {α : Type} (hG : ∀ g, (G g).up = G g) {Ec : List (Nat × AV)} {Hc : List (Nat × Ob)} {E : α → List (Nat × AV)} {H : α → List (Nat × Ob)} {C : α → Heap} {μ : α → Nat} {I : α → Prop} {n : Nat} (x : α)
    (hE : EAgree e (Ec ++ E x)) (ha : HAgree h (Hc ++ H x)) (ho : Outs (C x) h) (hr : (envRefs (Hc ++ H x) (Ec ++ E x) && allRefs (Hc ++ H x) (Hc ++ H x)) = true)
    (hlt : μ x < n) (hI : I x) : W P G N (pushH hb) Q (.upto (Dl Ec Hc E H C μ I n) :: k) e h :=
  W.cut2 hG (Ec ++ E x) (Hc ++ H x) hE ha ho hr (W.upto ⟨x, hlt, hI, rfl, rfl⟩)

/-- What ways that meet hand on. -/
def Dj {α : Type} (Ec : List (Nat × AV)) (Hc : List (Nat × Ob)) (E : α → List (Nat × AV)) (H : α → List (Nat × Ob)) (C : α → Heap) (I : α → Prop) (e : Env) (h : Heap) : Prop :=
  ∃ x, I x ∧ e = envOf (Ec ++ E x) ∧ h = hp (pushH (C x)) (Hc ++ H x)
theorem W.jn {α : Type} {c : Code} (Ec : List (Nat × AV)) (Hc : List (Nat × Ob)) (E : α → List (Nat × AV)) (H : α → List (Nat × Ob)) (C : α → Heap) (I : α → Prop)
    (hw : W P G N (pushH hb) Q (.code c :: .upto (Dj Ec Hc E H C I) :: k) e h) (hk : ∀ x, I x → W P G N (pushH hb) Q k (envOf (Ec ++ E x)) (hp (pushH (C x)) (Hc ++ H x))) : W P G N (pushH hb) Q (.code c :: k) e h := by
  refine W.join (Dj Ec Hc E H C I) hw ?_
  rintro e h ⟨x, hI, rfl, rfl⟩
  exact hk x hI
theorem W.jx {α : Type} (hG : ∀ g, (G g).up = G g) {Ec : List (Nat × AV)} {Hc : List (Nat × Ob)} {E : α → List (Nat × AV)} {H : α → List (Nat × Ob)} {C : α → Heap} {I : α → Prop} (x : α)
    (hE : EAgree e (Ec ++ E x)) (ha : HAgree h (Hc ++ H x)) (ho : Outs (C x) h) (hr : (envRefs (Hc ++ H x) (Ec ++ E x) && allRefs (Hc ++ H x) (Hc ++ H x)) = true)
    (hI : I x) : W P G N (pushH hb) Q (.upto (Dj Ec Hc E H C I) :: k) e h :=
  W.cut2 hG (Ec ++ E x) (Hc ++ H x) hE ha ho hr (W.upto ⟨x, hI, rfl, rfl⟩)
end

/-! ### Bools that say a proposition -/
section
variable {P : Program} {G : Nat → AV} {N : Nat} {hb hc : Heap} {Q : Env → Heap → Prop} {k : List It} {e : Env} {h : Heap}
/-- Ways that meet behind a region: Ec stays as it is. -/
theorem W.jr {α : Type} {c : Code} (Ec : List (Nat × AV)) (Hc : List (Nat × Ob)) (E : α → List (Nat × AV)) (I : α → Prop) (hE : EAgree e Ec) (ha : HAgree h Hc) (ho : Outs hc h)
    (hw : W P G N (pushH hb) Q (.code c :: .upto (Dj Ec Hc E (fun _ => []) (fun _ => hc) I) :: k) e h) (hk : ∀ x, I x → W P G N (pushH hb) Q k (envOf (Ec ++ E x)) (hp (pushH hc) (Hc ++ []))) : W P G N (pushH hb) Q (.code c :: k) e h :=
  W.jn Ec Hc E (fun _ => []) (fun _ => hc) I hw hk
theorem W.condJ {h0 : Heap} {F : Prop} {c : Operand} {x y : Code} {b : Bool} (hc : ev G e c = .v .bool b) (J : b = true ↔ F) (ht : F → W P G N h0 Q (.code x :: k) e h) (hf : ¬ F → W P G N h0 Q (.code y :: k) e h) : W P G N h0 Q (.code (.cond c x y) :: k) e h :=
  W.cond hc (fun hb => ht (J.1 hb)) (fun hb => hf (fun q => by rw [J.2 q] at hb; cases hb))
end
section
variable {P : Program} {G : Nat → AV} {N : Nat} {h0 : Heap} {Q : Env → Heap → Prop} {k : List It} {e : Env} {h h' : Heap} {p : Prop} [Decidable p]
theorem W.opP {all : Array Oper} {o : Oper} {r : List Oper} (hg : o.guard = none) (hs : OpSem P G N o e h (put e o.dst (.v .bool (decide p))) h') (hd : dstOk N o.dst = true)
    (ht : p → W P G N h0 Q (.ops all r :: k) (put e o.dst (.v .bool true)) h') (hf : ¬ p → W P G N h0 Q (.ops all r :: k) (put e o.dst (.v .bool false)) h') : W P G N h0 Q (.ops all (o :: r) :: k) e h :=
  W.opB hg hs hd (fun hb => ht (of_decide_eq_true hb)) (fun hb => hf (of_decide_eq_false hb))
theorem W.opGP {all : Array Oper} {o : Oper} {r : List Oper} {j d : Nat} {b' : Bool} (hg : o.guard = some (j, b')) (hj : (all[j]?).bind (·.dst) = some d) (hdN : Nat.blt d N = true) (hv : e d = .v .bool b')
    (hs : OpSem P G N o e h (put e o.dst (.v .bool (decide p))) h') (hd : dstOk N o.dst = true)
    (ht : p → W P G N h0 Q (.ops all r :: k) (put e o.dst (.v .bool true)) h') (hf : ¬ p → W P G N h0 Q (.ops all r :: k) (put e o.dst (.v .bool false)) h') : W P G N h0 Q (.ops all (o :: r) :: k) e h :=
  W.opGB hg hj hdN hv hs hd (fun hb => ht (of_decide_eq_true hb)) (fun hb => hf (of_decide_eq_false hb))
theorem W.condP {c : Operand} {x y : Code} (hc : ev G e c = .v .bool (decide p)) (ht : p → W P G N h0 Q (.code x :: k) e h) (hf : ¬ p → W P G N h0 Q (.code y :: k) e h) : W P G N h0 Q (.code (.cond c x y) :: k) e h :=
  W.cond hc (fun hb => ht (of_decide_eq_true hb)) (fun hb => hf (of_decide_eq_false hb))
variable {all : Array Oper} {sks : List Sk} {sk : Sk} {todo : List Oper} {o : Oper}
theorem AW.opP (hg : o.guard = none) (hs : ASem P G N sk o e h (.v .bool (decide p)) none) (hd : dstOk N o.dst = true)
    (ht : p → AW P G N h0 Q k all sks todo (put e o.dst (.v .bool true)) h) (hf : ¬ p → AW P G N h0 Q k all sks todo (put e o.dst (.v .bool false)) h) : AW P G N h0 Q k all (sk :: sks) (o :: todo) e h :=
  AW.opB hg hs hd (fun hb => ht (of_decide_eq_true hb)) (fun hb => hf (of_decide_eq_false hb))
theorem AW.opGP {j d : Nat} {b' : Bool} (hg : o.guard = some (j, b')) (hj : (all[j]?).bind (·.dst) = some d) (hdN : Nat.blt d N = true) (hv : e d = .v .bool b') (hr : memN d sk.rs = true)
    (hs : ASem P G N sk o e h (.v .bool (decide p)) none) (hd : dstOk N o.dst = true)
    (ht : p → AW P G N h0 Q k all sks todo (put e o.dst (.v .bool true)) h) (hf : ¬ p → AW P G N h0 Q k all sks todo (put e o.dst (.v .bool false)) h) : AW P G N h0 Q k all (sk :: sks) (o :: todo) e h :=
  AW.opGB hg hj hdN hv hr hs hd (fun hb => ht (of_decide_eq_true hb)) (fun hb => hf (of_decide_eq_false hb))
end
section
variable {P : Program} {G : Nat → AV} {L : Lay} {e : Env} {h : Heap} {d : Option Tmp} {t : TypeId} {p : String} {af : Array Edge} {g : Option (Nat × Bool)} {xt yt : TypeId} {x y : Operand} {k : IntKind} {i j : Int}
theorem kEq_self : ∀ k : IntKind, kEq k k = true := fun k => by cases k <;> rfl
theorem opCmp {op : BinOp} {v : AV} (hL : LayOk P L) (hx : ev G e x = .v (.int k) i) (hy : ev G e y = .v (.int k) j) (hv : binI op k i j = some v) : OpRead P G ⟨d, .binOp op xt x y yt, t, p, af, g⟩ e h v := by
  refine opBin hL ?_
  rw [hx, hy]
  change (bif kEq k k then binI op k i j else none) = _
  rw [kEq_self]
  exact hv
theorem opLss (hL : LayOk P L) (hx : ev G e x = .v (.int k) i) (hy : ev G e y = .v (.int k) j) : OpRead P G ⟨d, .binOp .lss xt x y yt, t, p, af, g⟩ e h (.v .bool (decide (i < j))) := opCmp hL hx hy rfl
theorem opLeq (hL : LayOk P L) (hx : ev G e x = .v (.int k) i) (hy : ev G e y = .v (.int k) j) : OpRead P G ⟨d, .binOp .leq xt x y yt, t, p, af, g⟩ e h (.v .bool (decide (i ≤ j))) := opCmp hL hx hy rfl
theorem opGtr (hL : LayOk P L) (hx : ev G e x = .v (.int k) i) (hy : ev G e y = .v (.int k) j) : OpRead P G ⟨d, .binOp .gtr xt x y yt, t, p, af, g⟩ e h (.v .bool (decide (j < i))) := opCmp hL hx hy rfl
theorem opGeq (hL : LayOk P L) (hx : ev G e x = .v (.int k) i) (hy : ev G e y = .v (.int k) j) : OpRead P G ⟨d, .binOp .geq xt x y yt, t, p, af, g⟩ e h (.v .bool (decide (j ≤ i))) := opCmp hL hx hy rfl
theorem opEqI (hL : LayOk P L) (hx : ev G e x = .v (.int k) i) (hy : ev G e y = .v (.int k) j) : OpRead P G ⟨d, .binOp .eql xt x y yt, t, p, af, g⟩ e h (.v .bool (decide (i = j))) := opCmp hL hx hy rfl
theorem opNeI (hL : LayOk P L) (hx : ev G e x = .v (.int k) i) (hy : ev G e y = .v (.int k) j) : OpRead P G ⟨d, .binOp .neq xt x y yt, t, p, af, g⟩ e h (.v .bool (decide (i ≠ j))) := by
  refine (opCmp hL hx hy rfl).asV ?_
  congr 1
  by_cases hq : i = j <;> simp [hq]
theorem opEqS {s s' : ByteArray} (hL : LayOk P L) (hx : ev G e x = .v .str s) (hy : ev G e y = .v .str s') : OpRead P G ⟨d, .binOp .eql xt x y yt, t, p, af, g⟩ e h (.v .bool (decide (s = s'))) := by
  have : OpRead P G ⟨d, .binOp .eql xt x y yt, t, p, af, g⟩ e h (.v .bool (s.toList == s'.toList)) := opBin hL (by rw [hx, hy]; rfl)
  refine this.asV ?_
  congr 1
  by_cases hq : s = s'
  · subst hq; simp
  · rw [decide_eq_false hq, beq_eq_false_iff_ne]
    intro hh
    exact hq (ByteArray.ext (Array.toList_inj.1 (by
      have h1 : ∀ b : ByteArray, b.toList = b.data.toList := fun b => ByteArray.toList_eq b
      rw [← h1, ← h1]; exact hh)))
theorem opNeS {s s' : ByteArray} (hL : LayOk P L) (hx : ev G e x = .v .str s) (hy : ev G e y = .v .str s') : OpRead P G ⟨d, .binOp .neq xt x y yt, t, p, af, g⟩ e h (.v .bool (decide (s ≠ s'))) := by
  have : OpRead P G ⟨d, .binOp .neq xt x y yt, t, p, af, g⟩ e h (.v .bool (!(s.toList == s'.toList))) := opBin hL (by rw [hx, hy]; rfl)
  refine this.asV ?_
  congr 1
  by_cases hq : s = s'
  · subst hq; simp
  · have h2 : (s.toList == s'.toList) = false := by
      rw [beq_eq_false_iff_ne]
      intro hh
      exact hq (ByteArray.ext (Array.toList_inj.1 (by
        have h1 : ∀ b : ByteArray, b.toList = b.data.toList := fun b => ByteArray.toList_eq b
        rw [← h1, ← h1]; exact hh)))
    rw [h2]; simp [hq]
/-- A pointer against nil. -/
theorem opPtrNe {ty : Ty} {q : Option ty.D} {tt : Ty} (hL : LayOk P L) (ht : L xt = some (.ptr tt)) (hx : ev G e x = .v (.ptr ty) q) (hy : ev G e y = .nilp) : OpRead P G ⟨d, .binOp .neq xt x y yt, t, p, af, g⟩ e h (.v .bool (decide (q ≠ none))) := by
  have : OpRead P G ⟨d, .binOp .neq xt x y yt, t, p, af, g⟩ e h (.v .bool (!q.isNone)) := opBin hL (by rw [hx, hy]; change binE .neq (L xt) _ _ = _; rw [ht]; rfl)
  refine this.asV ?_
  congr 1
  cases q <;> simp
theorem opPtrEq {ty : Ty} {q : Option ty.D} {tt : Ty} (hL : LayOk P L) (ht : L xt = some (.ptr tt)) (hx : ev G e x = .v (.ptr ty) q) (hy : ev G e y = .nilp) : OpRead P G ⟨d, .binOp .eql xt x y yt, t, p, af, g⟩ e h (.v .bool (decide (q = none))) := by
  have : OpRead P G ⟨d, .binOp .eql xt x y yt, t, p, af, g⟩ e h (.v .bool q.isNone) := opBin hL (by rw [hx, hy]; change binE .eql (L xt) _ _ = _; rw [ht]; rfl)
  refine this.asV ?_
  congr 1
  cases q <;> simp
end
/-- A Bool in a slot, each way. -/
theorem put_self {e : Env} {d : Nat} {v : AV} (hd : e d = v) : put e (some d) v = e := by
  funext j
  simp only [put]
  cases hb : Nat.beq j d with
  | true => obtain rfl := Nat.eq_of_beq_eq_true hb; exact hd.symm
  | false => rfl
section
variable {P : Program} {G : Nat → AV} {N : Nat} {h0 : Heap} {Q : Env → Heap → Prop} {k : List It} {e : Env} {h : Heap} {all : Array Oper} {sks : List Sk} {todo : List Oper}
theorem W.boolAt (d : Nat) {b : Bool} (hd : e d = .v .bool b) (ht : b = true → W P G N h0 Q k (put e (some d) (.v .bool true)) h) (hf : b = false → W P G N h0 Q k (put e (some d) (.v .bool false)) h) : W P G N h0 Q k e h := by
  cases b with
  | true => have := ht rfl; rwa [put_self hd] at this
  | false => have := hf rfl; rwa [put_self hd] at this
theorem AW.boolAt (d : Nat) {b : Bool} (hd : e d = .v .bool b) (ht : b = true → AW P G N h0 Q k all sks todo (put e (some d) (.v .bool true)) h) (hf : b = false → AW P G N h0 Q k all sks todo (put e (some d) (.v .bool false)) h) : AW P G N h0 Q k all sks todo e h := by
  cases b with
  | true => have := ht rfl; rwa [put_self hd] at this
  | false => have := hf rfl; rwa [put_self hd] at this
end
end Go.Vs

/- Conversions as relations: data come out without casts. -/
set_option linter.unusedVariables false
set_option linter.unusedSimpArgs false
namespace Go.Vs
open Go Go.RowKit Go.Proofs

/-- One cell, taken for a datum of a type that is no struct. -/
inductive C1 : Heap → (t : Ty) → AV → t.D → Heap → Prop
  | int {h : Heap} {k : IntKind} {x : Int} : C1 h (.int k) (.v (.int k) x) x h
  | bool {h : Heap} {x : Bool} : C1 h .bool (.v .bool x) x h
  | str {h : Heap} {x : ByteArray} : C1 h .str (.v .str x) x h
  | sl {h : Heap} {t : Ty} {x : List t.D} : C1 h (.sl t) (.v (.sl t) x) x h
  | ptr {h : Heap} {t : Ty} {x : Option t.D} : C1 h (.ptr t) (.v (.ptr t) x) x h
  | nils {h : Heap} {t : Ty} : C1 h (.sl t) .nils [] h
  | nilp {h : Heap} {t : Ty} : C1 h (.ptr t) .nilp none h
  | rw {h : Heap} {n : Nm} {fr : Bool} {k : Nat} {t : Ty} {e : TypeId} {xs : List t.D} (hn : h n = .row fr k t e xs) : C1 h (.sl t) (.rw n k) xs (frzH h n)
/-- Cells, taken for a datum. -/
inductive CC : Heap → (t : Ty) → List AV → t.D → List AV → Heap → Prop
  | one {h h' : Heap} {t : Ty} {c : AV} {x : t.D} {r : List AV} (hc : C1 h t c x h') : CC h t (c :: r) x r h'
  | nil {h : Heap} {r : List AV} : CC h .nil r () r h
  | box {h h' : Heap} {t : Ty} {n : Nm} {fr fr' : Bool} {cs cs' r : List AV} {x : t.D} (hn : h n = .box fr cs) (hc : CC h t cs x [] h') (hn' : h' n = .box fr' cs') : CC h (.ptr t) (.bp n 0 :: r) (some x) r (frzH h' n)
  | cons {h h' h'' : Heap} {a b : Ty} {r r' r'' : List AV} {x : a.D} {y : b.D} (ha : CC h a r x r' h') (hb : CC h' b r' y r'' h'') : CC h (.cons a b) r (x, y) r'' h''
/-- A value, taken for a datum. -/
inductive CA : Heap → (t : Ty) → AV → t.D → Heap → Prop
  | v {h : Heap} {t : Ty} {x : t.D} : CA h t (.v t x) x h
  | one {h h' : Heap} {t : Ty} {c : AV} {x : t.D} (hc : C1 h t c x h') : CA h t c x h'
  | agg {h h' : Heap} {t : Ty} {cs : List AV} {x : t.D} (hs : t.isS = true) (hc : CC h t cs x [] h') : CA h t (.agg cs) x h'
  | box {h h' : Heap} {t : Ty} {n : Nm} {fr fr' : Bool} {cs cs' : List AV} {x : t.D} (hn : h n = .box fr cs) (hc : CC h t cs x [] h') (hn' : h' n = .box fr' cs') : CA h (.ptr t) (.bp n 0) (some x) (frzH h' n)
inductive CL : Heap → (t : Ty) → List AV → List t.D → Heap → Prop
  | nil {h : Heap} {t : Ty} : CL h t [] [] h
  | cons {h h1 h' : Heap} {t : Ty} {a : AV} {bs : List AV} {x : t.D} {xs : List t.D} (ha : CA h t a x h1) (hs : CL h1 t bs xs h') : CL h t (a :: bs) (x :: xs) h'
inductive CS : Heap → List (Option Ty) → List AV → List AV → Heap → Prop
  | nil {h : Heap} : CS h [] [] [] h
  | skip {h h' : Heap} {sg : List (Option Ty)} {a : AV} {bs r : List AV} (hs : CS h sg bs r h') : CS h (none :: sg) (a :: bs) (a :: r) h'
  | cons {h h1 h' : Heap} {t : Ty} {sg : List (Option Ty)} {a : AV} {bs r : List AV} {x : t.D} (ha : CA h t a x h1) (hs : CS h1 sg bs r h') : CS h (some t :: sg) (a :: bs) (.v t x :: r) h'

theorem C1.notS {h h' : Heap} {t : Ty} {c : AV} {x : t.D} (q : C1 h t c x h') : t.isS = false := by cases q <;> rfl
theorem C1.conv {h h' : Heap} {t : Ty} {c : AV} {x : t.D} (q : C1 h t c x h') : ∀ r : List AV, convC h t (c :: r) = some (x, r, h') := by
  intro r
  cases q with
  | int => simp [convC, asI, kEq_self]
  | bool => simp [convC, asB]
  | str => simp [convC, asS]
  | sl => simp [convC, asL, tyCast]
  | ptr => simp [convC, tyCast]
  | nils => simp [convC, asL]
  | nilp => simp [convC]
  | rw hn => simp [convC, asL, hn, tyCast]
theorem CC.conv {h h' : Heap} {t : Ty} {cs r : List AV} {x : t.D} (q : CC h t cs x r h') : convC h t cs = some (x, r, h') := by
  induction q with
  | one hc => exact hc.conv _
  | nil => simp [convC]
  | box hn hc hn' ih => simp [convC, hn, ih, hn']
  | cons ha hb h1 h2 => simp [convC, h1, h2]
theorem CA.conv {h h' : Heap} {t : Ty} {a : AV} {x : t.D} (q : CA h t a x h') : convA h t a = some (x, h') := by
  have key : ∀ {c : AV}, t.isS = false → convC h t [c] = some (x, [], h') → (bif t.isS then none else (match convC h t [c] with | some (x, [], h') => some (x, h') | _ => none)) = some (x, h') := by
    intro c hs hc
    rw [hs, hc]; rfl
  cases q with
  | v => simp [convA, tyCast]
  | one hc =>
    have hS := hc.notS
    have h2 := hc.conv []
    cases hc with
    | int => simp [convA, tyCast]
    | bool => simp [convA, tyCast]
    | str => simp [convA, tyCast]
    | sl => simp [convA, tyCast]
    | ptr => simp [convA, tyCast]
    | nils => exact key hS h2
    | nilp => exact key hS h2
    | rw hn => exact key hS h2
  | agg hs hc => simp only [convA, hs, cond_true, hc.conv]
  | box hn hc hn' =>
    exact key rfl (CC.box hn hc hn').conv
theorem CL.conv {h h' : Heap} {t : Ty} {bs : List AV} {xs : List t.D} (q : CL h t bs xs h') : convL h t bs = some (xs, h') := by
  induction q with
  | nil => rfl
  | cons ha hs ih => simp [convL, ha.conv, ih]
theorem CS.conv {h h' : Heap} {sg : List (Option Ty)} {bs r : List AV} (q : CS h sg bs r h') : convArgs h sg bs = some (r, h') := by
  induction q with
  | nil => rfl
  | skip hs ih => simp [convArgs, ih]
  | cons ha hs ih => simp [convArgs, ha.conv, ih]

section
variable {P : Program} {G : Nat → AV} {L : Lay} {N : Nat} {e : Env} {h h' : Heap} {d : Option Tmp} {i : Nat} {t : TypeId} {p : String} {af : Array Edge} {v : AV}
theorem opCallR {g : Option (Nat × Bool)} {x : Operand} {args : Array Operand} {tys : Array TypeId} {f : FuncId} {caps vs' : List AV} {h1 : Heap} {r : AV} (sg : List (Option Ty))
    (hx : ev G e x = .clo f caps) (hc : CS h sg (args.toList.map (ev G e) ++ caps) vs' h1) (hf : FnRes P G f vs' h1 r h') :
    OpSem P G N ⟨d, .call ⟨.value x, args, tys⟩, t, p, af, g⟩ e h (put e d r) h' := opCall sg hx hc.conv hf
theorem opStoreRpR {g : Option (Nat × Bool)} {xt : TypeId} {x y : Operand} {ty : Ty} {n : Nm} {ver k : Nat} {et : TypeId} {xs : List ty.D} {z : ty.D} {h1 : Heap} {ob : Ob} (hL : LayOk P L) (ht : L xt = some ty) (hx : ev G e x = .rp n k ver) (hn : h n = .row false ver ty et xs)
    (hc : CA h ty (ev G e y) z h1) (hn1 : h1 n = .row false ver ty et xs) (hob : ob = .row false ver ty et (xs.set k z)) :
    OpSem P G N ⟨none, .store xt x y, t, p, af, g⟩ e h e (hset h1 n ob) := opStoreRp hL ht hx hn hc.conv hn1 hob
theorem opLitR {g : Option (Nat × Bool)} {xt : TypeId} {ty : Ty} {len : Nat} {parts : Array (Nat × Operand)} {xs : List ty.D} {h' : Heap} {ob : Ob} (hL : LayOk P L) (ht : L xt = some (.sl ty)) (hz : Nat.blt 0 ty.size = true) (hpo : inOrder 0 parts.toList = true) (hlen : Nat.beq parts.toList.length len = true) (hsz : Nat.ble (len * ty.size) 16777216 = true)
    (hc : CL h ty (parts.toList.map fun q => ev G e q.2) xs h') (hn : h' (.own i) = .none) (hob : ob = .row false 0 ty (elt P xt) xs) :
    OpSem P G N ⟨some i, .buildSlice xt len parts, t, p, af, g⟩ e h (put e (some i) (.rw (.own i) 0)) (hset h' (.own i) ob) := opLit hL ht hz hpo hlen hsz hc.conv hn hob
/-- A value is taken for the datum that it is. -/
theorem W.convR {h0 : Heap} {Q : Env → Heap → Prop} {k : List It} (j : Nat) {t : Ty} {x : t.D} (hv : CA h t (e j) x h') (hw : W P G N h0 Q k (put e (some j) (.v t x)) h') : W P G N h0 Q k e h := W.conv j t hv.conv hw
theorem W.lenB {h0 : Heap} {Q : Env → Heap → Prop} {k : List It} (n : Nm) (o : Nat) {fr : Bool} {cs : List AV} {t : Ty} {xs : List t.D} (hn : h n = .box fr cs) (hc : cs[o]? = some (.v (.sl t) xs)) (hw : xs.length ≤ lenMax → W P G N h0 Q k e h) : W P G N h0 Q k e h := by
  intro Γ a w hh
  have hh' := hh
  obtain ⟨hdef, hb, m, S, r, x⟩ := hh
  obtain ⟨_, _, us, ty, _, h4, _⟩ := r.hrel.boxAt hn
  obtain ⟨u, _, hru⟩ := h4.get hc
  obtain ⟨A, c, _, _, hl, _⟩ := hru.sl
  exact hw hl Γ a w hh'
theorem endsR {rs : List ResultVar} {sg : List (Option Ty)} {r : AV} {h1 : Heap} {xs ys : List AV} (hr : resAs L e h rs = some xs) (hc : CS h sg xs ys h1) (ho : oneOf ys = r.up) (hout : Outs h' h1) : Ends L rs sg r h' e h :=
  ⟨xs, ys, h1, hr, hc.conv, ho, hout⟩
end
theorem one_t {p : Prop} [Decidable p] (h : p) : oneOf [.v .bool true] = (AV.v .bool (decide p)).up := by rw [decide_eq_true h]; rfl
theorem one_f {p : Prop} [Decidable p] (h : ¬ p) : oneOf [.v .bool false] = (AV.v .bool (decide p)).up := by rw [decide_eq_false h]; rfl
theorem one_j {F p : Prop} [Decidable p] {b : Bool} (J : b = true ↔ F) (h : F ↔ p) : oneOf [.v .bool b] = (AV.v .bool (decide p)).up := by
  have : b = decide p := by rw [Bool.eq_iff_iff, J, h, decide_eq_true_iff]
  rw [this]; rfl
theorem many_v2 {t s : Ty} {x x' : t.D} {y y' : s.D} (h1 : x = x') (h2 : y = y') : oneOf [.v t x, .v s y] = (AV.tup [.v t x', .v s y']).up := by rw [h1, h2]; rfl
theorem many_v3 {t s u : Ty} {x x' : t.D} {y y' : s.D} {z z' : u.D} (h1 : x = x') (h2 : y = y') (h3 : z = z') : oneOf [.v t x, .v s y, .v u z] = (AV.tup [.v t x', .v s y', .v u z']).up := by rw [h1, h2, h3]; rfl
theorem step_lt {P : Int → Prop} {x : Int} (h : ∀ b : Int, 0 ≤ b → b < x → P b) (hx : P x) : ∀ b : Int, 0 ≤ b → b < x + 1 → P b := fun b h0 h1 => by
  by_cases hb : b < x
  · exact h b h0 hb
  · have : b = x := by omega
    rw [this]; exact hx
theorem okRw {h : Heap} {n : Nm} {fr : Bool} {k : Nat} {t : Ty} {e : TypeId} {xs : List t.D} (hn : h n = .row fr k t e xs) : ∀ c ∈ [AV.rw n k], OkA h c := fun c hc => by
  rw [List.mem_singleton] at hc; subst hc; exact ⟨_, _, _, _, hn⟩
/-- A nil check of a pointer that is not nil. -/
theorem nonNil_some {t : Ty} {q : Option t.D} (hq : q ≠ none) : nonNil (.v (.ptr t) q) = true := by
  cases q with
  | none => exact absurd rfl hq
  | some x => rfl
end Go.Vs

