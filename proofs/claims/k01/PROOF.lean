import PyProof.Rows.All
import Wide.All
import OpenK.AllK
import Wide.FinOn
import HandS.ForMost
import HandS.ForExc
import HandS.CallSlots
import HandS.Flow
import HandS.IsInst
import HandS.TupAny
import HandS.Style
import HandS.Deep
import HandS.More
import KE.LtSeq
import KE.LtData
import KE.DataMinKey
import HandS.Replace
import HandS.SortKw
import PySem.Challenge.RW_eithertruth_k01_kinds_and_order
set_option Elab.async false
set_option linter.all false
set_option autoImplicit false
set_option maxRecDepth 100000
set_option maxHeartbeats 4000000
namespace EV
open PySem PySem.Spec PyProof.Rows L2
abbrev St := L2.St

/-! ## data -/
inductive D where
  | non | bl (b : Bool) | int (i : Int) | str (x : Str)
  | tup (xs : List D) | lst (xs : List D)
  | dct (ks vs : List D)
  | ins (c : Str) (ns : List Str) (vs : List D)
  deriving Inhabited

structure Gb where
  K : PySem.W.Frag
  mg : Str → Option Value
  w : World
abbrev gOf (X : Cx) : Gb := ⟨X.K, X.mg, X.w⟩

mutual
/-- the hash of a key -/
def D.hash (w : World) : D → Int
  | .non => reduceHash 0xFCA86420
  | .bl b => hashInt (if b then 1 else 0)
  | .int i => hashInt i
  | .str x => hashStr w x
  | .tup ks => reduceHash (Builtin.Tuple.tupleHashOf (D.hashes w ks))
  | _ => 0
def D.hashes (w : World) : List D → List Int
  | [] => []
  | d :: ds => D.hash w d :: D.hashes w ds
end

def EntR (e : DictEntry) (t : Int × V × V) : Prop := e.hash = t.1 ∧ RelV t.2.1 e.key ∧ RelV t.2.2 e.val
def dctφ (a : Addr) (ts : List (Int × V × V)) : Heap → Prop := fun h => ∃ o es ep, h.get? a = some o ∧ o.ExactDict ∧ o.data = .dict es ep ∧ Paired EntR es.toList ts
def dctO (a : Addr) (ts : List (Int × V × V)) : HO := .ext (dctφ a ts)

mutual
inductive Dat (g : Gb) (F : Hp) : V → D → Prop
  | non : Dat g F .non .non
  | bl (b : Bool) : Dat g F (.bl b) (.bl b)
  | int (i : Int) : Dat g F (.int i) (.int i)
  | str (x : Str) : x.length ≤ sizeLine → PyData.strOk x = true → Dat g F (.str x) (.str x)
  | tup {a vs ds} : SqT g.K F a vs → DatL g F vs ds → Dat g F (.ref a) (.tup ds)
  | lst {a vs ds} : SqL g.K F a vs → DatL g F vs ds → Dat g F (.ref a) (.lst ds)
  | dct {a ts kd vd} : F a = some (dctO a ts) → (a == sysModules) = false → ts.length ≤ sizeLine → ts.map (·.1) = D.hashes g.w kd →
      DatL g F (ts.map (·.2.1)) kd → DatL g F (ts.map (·.2.2)) vd → Dat g F (.ref a) (.dct kd vd)
  | ins {a C dx c ns vs ds} : F a = some (.ins C dx (ns.zip vs)) → F dx = some (.own a) → g.mg c = some (.ref C) → ns.length = vs.length → DatL g F vs ds → Dat g F (.ref a) (.ins c ns ds)
inductive DatL (g : Gb) (F : Hp) : List V → List D → Prop
  | nil : DatL g F [] []
  | cons {v d vs ds} : Dat g F v d → DatL g F vs ds → DatL g F (v :: vs) (d :: ds)
end

theorem Same.seqT {K : PySem.W.Frag} {H H' : Hp} {a : Addr} {xs : List V} (e : Same H H') (h : SqT K H a xs) : SqT K H' a xs := by
  rcases h with (h | ⟨o, h⟩) | h
  · exact .inl (.inl (e _ _ h))
  · exact .inl (.inr ⟨o, e _ _ h⟩)
  · exact .inr h

theorem EVseq {K : PySem.W.Frag} {H H' : Hp} {a : Addr} {xs : List V} (e : Same H H') (h : SqL K H a xs) : SqL K H' a xs := by
  rcases h with (h | ⟨o, h⟩) | h
  · exact .inl (.inl (e _ _ h))
  · exact .inl (.inr ⟨o, e _ _ h⟩)
  · exact .inr h
theorem Rd.mono {F F' : Hp} {a : Addr} {o : HO} (s : Same F F') (h : Rd F a o) : Rd F' a o := by
  rcases h with h | ⟨ob, h⟩
  · exact .inl (s _ _ h)
  · exact .inr ⟨ob, s _ _ h⟩
mutual
theorem Dat.mono {g : Gb} {F F' : Hp} (s : Same F F') {v : V} {d : D} : Dat g F v d → Dat g F' v d
  | .non => .non
  | .bl b => .bl b
  | .int i => .int i
  | .str x h k => .str x h k
  | .tup h l => .tup (Same.seqT s h) (DatL.mono s l)
  | .lst h l => .lst (EVseq s h) (DatL.mono s l)
  | .dct h n z e k v => .dct (s _ _ h) n z e (DatL.mono s k) (DatL.mono s v)
  | .ins h o m e l => .ins (s _ _ h) (s _ _ o) m e (DatL.mono s l)
theorem DatL.mono {g : Gb} {F F' : Hp} (s : Same F F') {vs : List V} {ds : List D} : DatL g F vs ds → DatL g F' vs ds
  | .nil => .nil
  | .cons h t => .cons (Dat.mono s h) (DatL.mono s t)
end

theorem DatL.length {g : Gb} {F : Hp} : ∀ {vs : List V} {ds : List D}, DatL g F vs ds → vs.length = ds.length
  | _, _, .nil => rfl
  | _, _, .cons _ t => by rw [List.length_cons, List.length_cons, t.length]
theorem DatL.get {g : Gb} {F : Hp} : ∀ {vs : List V} {ds : List D} {i : Nat} {d : D}, DatL g F vs ds → ds[i]? = some d → ∃ v, vs[i]? = some v ∧ Dat g F v d
  | _, _, _, _, .nil, e => by simp at e
  | _, _, 0, _, .cons h _, e => by simp at e; subst e; exact ⟨_, rfl, h⟩
  | _, _, i + 1, _, .cons _ t, e => by
    obtain ⟨v, h1, h2⟩ := DatL.get (i := i) t (by simpa using e)
    exact ⟨v, by simpa using h1, h2⟩
theorem DatL.get' {g : Gb} {F : Hp} : ∀ {vs : List V} {ds : List D} {i : Nat} {v : V}, DatL g F vs ds → vs[i]? = some v → ∃ d, ds[i]? = some d ∧ Dat g F v d
  | _, _, _, _, .nil, e => by simp at e
  | _, _, 0, _, .cons h _, e => by simp at e; subst e; exact ⟨_, rfl, h⟩
  | _, _, i + 1, _, .cons _ t, e => by
    obtain ⟨v, h1, h2⟩ := DatL.get' (i := i) t (by simpa using e)
    exact ⟨v, by simpa using h1, h2⟩
theorem DatL.append {g : Gb} {F : Hp} : ∀ {vs us : List V} {ds es : List D}, DatL g F vs ds → DatL g F us es → DatL g F (vs ++ us) (ds ++ es)
  | _, _, _, _, .nil, s => s
  | _, _, _, _, .cons h t, s => .cons h (DatL.append t s)
theorem DatL.take {g : Gb} {F : Hp} : ∀ {vs : List V} {ds : List D} (n : Nat), DatL g F vs ds → DatL g F (vs.take n) (ds.take n)
  | _, _, 0, _ => .nil
  | _, _, _ + 1, .nil => .nil
  | _, _, n + 1, .cons h t => .cons h (DatL.take n t)
theorem DatL.drop {g : Gb} {F : Hp} : ∀ {vs : List V} {ds : List D} (n : Nat), DatL g F vs ds → DatL g F (vs.drop n) (ds.drop n)
  | _, _, 0, h => h
  | _, _, _ + 1, .nil => .nil
  | _, _, n + 1, .cons _ t => DatL.drop n t
theorem DatL.set {g : Gb} {F : Hp} {v : V} {d : D} (h : Dat g F v d) : ∀ {vs : List V} {ds : List D} (i : Nat), DatL g F vs ds → DatL g F (vs.set i v) (ds.set i d)
  | _, _, _, .nil => .nil
  | _, _, 0, .cons _ t => .cons h t
  | _, _, i + 1, .cons k t => .cons k (DatL.set h i t)
theorem DatL.eraseIdx {g : Gb} {F : Hp} : ∀ {vs : List V} {ds : List D} (i : Nat), DatL g F vs ds → DatL g F (vs.eraseIdx i) (ds.eraseIdx i)
  | _, _, _, .nil => .nil
  | _, _, 0, .cons _ t => t
  | _, _, i + 1, .cons k t => .cons k (DatL.eraseIdx i t)

/-! ## ownership -/
inductive Sh where
  | frz | lst | dct
  | ins (c : Str) (ns : List Str) (fs : List Sh)
  deriving Inhabited

mutual
/-- what is owned: its addresses are O; what it holds is either owned too or stands in F -/
inductive OwnAt (g : Gb) (F H : Hp) : List Addr → V → D → Sh → Prop
  | frz {v d} : Dat g F v d → OwnAt g F H [] v d .frz
  | lst {a vs ds} : H a = some (.lst vs) → DatL g F vs ds → OwnAt g F H [a] (.ref a) (.lst ds) .lst
  | dct {a ts kd vd} : H a = some (dctO a ts) → (a == sysModules) = false → ts.length ≤ sizeLine → ts.map (·.1) = D.hashes g.w kd →
      DatL g F (ts.map (·.2.1)) kd → DatL g F (ts.map (·.2.2)) vd → OwnAt g F H [a] (.ref a) (.dct kd vd) .dct
  | ins {a C dx c ns vs ds fs O} : H a = some (.ins C dx (ns.zip vs)) → H dx = some (.own a) → g.mg c = some (.ref C) → ns.length = vs.length → OwnAtL g F H O vs ds fs →
      a ∉ O → dx ∉ O → a ≠ dx → OwnAt g F H (a :: dx :: O) (.ref a) (.ins c ns ds) (.ins c ns fs)
inductive OwnAtL (g : Gb) (F H : Hp) : List Addr → List V → List D → List Sh → Prop
  | nil : OwnAtL g F H [] [] [] []
  | cons {O O' v d sh vs ds shs} : OwnAt g F H O v d sh → OwnAtL g F H O' vs ds shs → (∀ a ∈ O, a ∉ O') → OwnAtL g F H (O ++ O') (v :: vs) (d :: ds) (sh :: shs)
end

mutual
theorem OwnAt.mono {g : Gb} {F F' H H' : Hp} (s : Same F F') {O : List Addr} {v : V} {d : D} {sh : Sh} (k : ∀ a ∈ O, H' a = H a) : OwnAt g F H O v d sh → OwnAt g F' H' O v d sh
  | .frz h => .frz (h.mono s)
  | .lst h l => .lst (by rw [k _ (by simp)]; exact h) (l.mono s)
  | .dct h n z e l l' => .dct (by rw [k _ (by simp)]; exact h) n z e (l.mono s) (l'.mono s)
  | .ins h o m e l n1 n2 n3 => .ins (by rw [k _ (by simp)]; exact h) (by rw [k _ (by simp)]; exact o) m e (OwnAtL.mono s (fun a ha => k a (by simp [ha])) l) n1 n2 n3
theorem OwnAtL.mono {g : Gb} {F F' H H' : Hp} (s : Same F F') {O : List Addr} {vs : List V} {ds : List D} {shs : List Sh} (k : ∀ a ∈ O, H' a = H a) : OwnAtL g F H O vs ds shs → OwnAtL g F' H' O vs ds shs
  | .nil => .nil
  | .cons h t d => .cons (OwnAt.mono s (fun a ha => k a (by simp [ha])) h) (OwnAtL.mono s (fun a ha => k a (by simp [ha])) t) d
end

mutual
/-- what is owned is tracked -/
theorem OwnAt.there {g : Gb} {F H : Hp} {O : List Addr} {v : V} {d : D} {sh : Sh} : OwnAt g F H O v d sh → ∀ a ∈ O, H a ≠ none
  | .frz _ => fun a ha => by simp at ha
  | .lst h _ => fun a ha => by simp at ha; subst ha; rw [h]; simp
  | .dct h _ _ _ _ _ => fun a ha => by simp at ha; subst ha; rw [h]; simp
  | .ins h o _ _ l _ _ _ => fun a ha => by
    simp at ha
    rcases ha with rfl | rfl | ha
    · rw [h]; simp
    · rw [o]; simp
    · exact OwnAtL.there l a ha
theorem OwnAtL.there {g : Gb} {F H : Hp} {O : List Addr} {vs : List V} {ds : List D} {shs : List Sh} : OwnAtL g F H O vs ds shs → ∀ a ∈ O, H a ≠ none
  | .nil => fun a ha => by simp at ha
  | .cons h t _ => fun a ha => by
    simp at ha
    rcases ha with ha | ha
    · exact OwnAt.there h a ha
    · exact OwnAtL.there t a ha
end

/-- a heap with the objects at O added -/
def plus (F H : Hp) (O : List Addr) : Hp := fun a => if a ∈ O then H a else F a
theorem plus_same {F H : Hp} {O : List Addr} (n : ∀ a ∈ O, F a = none) : Same F (plus F H O) := fun a o h => by
  unfold plus
  split
  · rename_i m; rw [n a m] at h; cases h
  · exact h
theorem plus_at {F H : Hp} {O : List Addr} {a : Addr} (m : a ∈ O) : plus F H O a = H a := by unfold plus; rw [if_pos m]
theorem plus_sub {F H : Hp} {O : List Addr} (s : Same F H) : Same (plus F H O) H := fun a o h => by
  unfold plus at h
  split at h
  · exact h
  · exact s a o h

mutual
/-- what is owned can be let go: then it stands -/
theorem OwnAt.freeze {g : Gb} {F H F' : Hp} {O : List Addr} {v : V} {d : D} {sh : Sh} (s : Same F F') (k : ∀ a ∈ O, F' a = H a) : OwnAt g F H O v d sh → Dat g F' v d
  | .frz h => h.mono s
  | .lst h l => .lst (.inl (.inl (by rw [k _ (by simp)]; exact h))) (l.mono s)
  | .dct h n z e l l' => .dct (by rw [k _ (by simp)]; exact h) n z e (l.mono s) (l'.mono s)
  | .ins h o m e l _ _ _ => .ins (by rw [k _ (by simp)]; exact h) (by rw [k _ (by simp)]; exact o) m e (OwnAtL.freeze s (fun a ha => k a (by simp [ha])) l)
theorem OwnAtL.freeze {g : Gb} {F H F' : Hp} {O : List Addr} {vs : List V} {ds : List D} {shs : List Sh} (s : Same F F') (k : ∀ a ∈ O, F' a = H a) : OwnAtL g F H O vs ds shs → DatL g F' vs ds
  | .nil => .nil
  | .cons h t _ => .cons (OwnAt.freeze s (fun a ha => k a (by simp [ha])) h) (OwnAtL.freeze s (fun a ha => k a (by simp [ha])) t)
end

/-! ## the relation of slots -/
abbrev Rho := List (Option D)
abbrev Own := Nat → Option Sh
/-- what a def's body stands on: F0 (what its arguments stand in), H0 (the heap), O0 (what it may change), the slots of the arguments that it may change, their shapes at the end, at a raise, what it returns -/
structure Bs where
  F0 : Hp
  H0 : Hp
  O0 : Nat → List Addr
  pins : List (Nat × V)
/-- a def's slots that it may change: their shapes at the end, at a raise; what it returns: none: what stands -/
structure Sg where
  ioN : List (Nat × Sh)
  ioX : List (Nat × Sh)
  ret : Option Sh
  pinS : Nat → Bool

structure Rel (g : Gb) (Z : Sg) (B : Bs) (own : Own) (F : Hp) (fp : Nat → List Addr) (ρ : Rho) (σ : St) (H : Hp) : Prop where
  len : σ.length = ρ.length
  sub : Same F H
  frz : ∀ i d, ρ[i]? = some (some d) → own i = none → ∃ v, σ[i]? = some (some v) ∧ Dat g F v d
  ownd : ∀ i sh d, own i = some sh → ρ[i]? = some (some d) → ∃ v, σ[i]? = some (some v) ∧ OwnAt g F H (fp i) v d sh
  out : ∀ i a, own i ≠ none → a ∈ fp i → F a = none ∧ H a ≠ none ∧ (B.H0 a = none ∨ (a ∈ B.O0 i ∧ ∃ p ∈ B.pins, p.1 = i))
  dis : ∀ i j a, own i ≠ none → own j ≠ none → i ≠ j → a ∈ fp i → a ∉ fp j
  ext : Same B.F0 F
  new : ∀ a o, F a = some o → B.F0 a = some o ∨ B.H0 a = none
  keep : ∀ a o, B.H0 a = some o → (∀ p ∈ B.pins, a ∉ B.O0 p.1) → H a = some o
  tr : ∀ a, B.H0 a ≠ none → H a ≠ none
  pin : ∀ p ∈ B.pins, σ[p.1]? = some (some p.2)
  pino : ∀ p ∈ B.pins, own p.1 ≠ none
  pinZ : ∀ p ∈ B.pins, Z.pinS p.1 = true
  pind : ∀ p ∈ B.pins, ∃ d, ρ[p.1]? = some (some d)
  iox : ∀ p ∈ Z.ioX, own p.1 = some p.2

/-- F, H have grown by new objects -/
structure Grow (F H F' H' : Hp) : Prop where
  hh : Same H H'
  ff : Same F F'
  fh : Same F' H'
  new : ∀ a o, F' a = some o → F a = some o ∨ H a = none
theorem Grow.refl {F H : Hp} (s : Same F H) : Grow F H F H := ⟨Same.refl _, Same.refl _, s, fun _ _ h => .inl h⟩
theorem Grow.trans {F H F1 H1 F2 H2 : Hp} (a : Grow F H F1 H1) (b : Grow F1 H1 F2 H2) : Grow F H F2 H2 :=
  ⟨a.hh.trans b.hh, a.ff.trans b.ff, b.fh, fun x o h => by
    rcases b.new x o h with h | h
    · exact a.new x o h
    · exact .inr (a.hh.free h)⟩
theorem same_upd {H : Hp} {p : Addr} {o : HO} (h : H p = none) : Same H (upd H p o) := fun b x e => by
  rw [upd_ne (ne_of_none e h)]; exact e
theorem same_upd2 {F H : Hp} {p : Addr} {o : HO} (s : Same F H) : Same (upd F p o) (upd H p o) := fun b x e => by
  by_cases hb : b = p
  · subst hb; rw [upd_same] at e ⊢; exact e
  · rw [upd_ne hb] at e ⊢; exact s b x e
theorem Grow.push {F H : Hp} {p : Addr} {o : HO} (s : Same F H) (h : H p = none) : Grow F H (upd F p o) (upd H p o) :=
  ⟨same_upd h, same_upd (s.free h), same_upd2 s, fun a x e => by
    by_cases hb : a = p
    · subst hb; exact .inr h
    · rw [upd_ne hb] at e; exact .inl e⟩

theorem Same.eq_of {H H' : Hp} {a : Addr} (s : Same H H') (h : H a ≠ none) : H' a = H a := by
  cases e : H a with
  | none => exact absurd e h
  | some o => exact s a o e

section
variable {g : Gb} {Z : Sg} {B : Bs} {own : Own} {F F' H H' : Hp} {fp : Nat → List Addr} {ρ : Rho} {σ : St}
theorem Rel.grow (R : Rel g Z B own F fp ρ σ H) (G : Grow F H F' H') : Rel g Z B own F' fp ρ σ H' where
  len := R.len
  sub := G.fh
  frz := fun i d e n => let ⟨v, h1, h2⟩ := R.frz i d e n; ⟨v, h1, h2.mono G.ff⟩
  ownd := fun i sh d n e => let ⟨v, h1, h2⟩ := R.ownd i sh d n e; ⟨v, h1, h2.mono G.ff fun a ha => Same.eq_of G.hh (h2.there a ha)⟩
  out := fun i a n ha => by
    obtain ⟨h1, h2, h3⟩ := R.out i a n ha
    refine ⟨?_, ?_, h3⟩
    · cases e : F' a with
      | none => rfl
      | some o =>
        rcases G.new a o e with z | z
        · rw [h1] at z; cases z
        · exact absurd z h2
    · rw [Same.eq_of G.hh h2]; exact h2
  dis := R.dis
  ext := R.ext.trans G.ff
  new := fun a o e => by
    rcases G.new a o e with z | z
    · exact R.new a o z
    · right
      cases q : B.H0 a with
      | none => rfl
      | some o' => exact absurd z (R.tr a (by rw [q]; simp))
  keep := fun a o e n => G.hh a o (R.keep a o e n)
  tr := fun a h => by rw [Same.eq_of G.hh (R.tr a h)]; exact R.tr a h
  pin := R.pin
  pino := R.pino
  pinZ := R.pinZ
  pind := R.pind
  iox := R.iox

def setF {α : Type} (f : Nat → α) (i : Nat) (x : α) : Nat → α := fun j => if j = i then x else f j
theorem setF_same {α : Type} {f : Nat → α} {i : Nat} {x : α} : setF f i x i = x := by unfold setF; rw [if_pos rfl]
theorem setF_ne {α : Type} {f : Nat → α} {i j : Nat} {x : α} (h : j ≠ i) : setF f i x j = f j := by unfold setF; rw [if_neg h]
theorem get_set {α : Type} {l : List (Option α)} {i j : Nat} {x : Option α} {d : α} (h : (l.set i x)[j]? = some (some d)) : (j = i ∧ x = some d ∧ i < l.length) ∨ (j ≠ i ∧ l[j]? = some (some d)) := by
  rw [List.getElem?_set] at h
  by_cases e : i = j
  · subst e
    rw [if_pos rfl] at h
    split at h
    · exact .inl ⟨rfl, Option.some.inj h, by assumption⟩
    · cases h
  · rw [if_neg e] at h; exact .inr ⟨fun z => e z.symm, h⟩
section
variable {g : Gb} {Z : Sg} {B : Bs} {own : Own} {F F' H H' : Hp} {fp : Nat → List Addr} {ρ : Rho} {σ : St}
theorem Rel.growH (R : Rel g Z B own F fp ρ σ H) (s : Same H H') : Rel g Z B own F fp ρ σ H' := R.grow ⟨s, Same.refl _, R.sub.trans s, fun _ _ h => .inl h⟩
/-- a frozen slot is stored -/
theorem Rel.set (R : Rel g Z B own F fp ρ σ H) {i : Nat} {v : V} {d : D} (n : own i = none) (h : Dat g F v d) : Rel g Z B own F fp (ρ.set i (some d)) (σ.set i (some v)) H where
  len := by simp [R.len]
  sub := R.sub
  frz := fun j e q nj => by
    rcases get_set q with ⟨rfl, e2, hl⟩ | ⟨ne, q⟩
    · cases e2
      exact ⟨v, by rw [List.getElem?_set_self (by rw [R.len]; exact hl)], h⟩
    · obtain ⟨u, h1, h2⟩ := R.frz j e q nj
      exact ⟨u, by rw [List.getElem?_set_ne (Ne.symm ne)]; exact h1, h2⟩
  ownd := fun j sh e nj q => by
    rcases get_set q with ⟨rfl, e2, hl⟩ | ⟨ne, q⟩
    · rw [n] at nj; cases nj
    · obtain ⟨u, h1, h2⟩ := R.ownd j sh e nj q
      exact ⟨u, by rw [List.getElem?_set_ne (Ne.symm ne)]; exact h1, h2⟩
  out := R.out
  dis := R.dis
  ext := R.ext
  new := R.new
  keep := R.keep
  tr := R.tr
  pin := fun p hp => by
    have : p.1 ≠ i := fun e => R.pino p hp (e ▸ n)
    rw [List.getElem?_set_ne (Ne.symm this)]; exact R.pin p hp
  pino := R.pino
  pinZ := R.pinZ
  pind := fun p hp => by
    have : p.1 ≠ i := fun e => R.pino p hp (e ▸ n)
    rw [List.getElem?_set_ne (Ne.symm this)]; exact R.pind p hp
  iox := R.iox
/-- what is new and owned -/
structure Fresh (B : Bs) (own : Own) (F : Hp) (fp : Nat → List Addr) (O : List Addr) : Prop where
  out : ∀ a ∈ O, F a = none ∧ B.H0 a = none
  dis : ∀ a ∈ O, ∀ i, own i ≠ none → a ∉ fp i
/-- an owned slot is stored: what it held before is forgotten -/
theorem Rel.setO (R : Rel g Z B own F fp ρ σ H) {i : Nat} {v : V} {d : D} {sh : Sh} {O : List Addr} (np : ∀ p ∈ B.pins, p.1 ≠ i) (nx : ∀ p ∈ Z.ioX, p.1 ≠ i) (h : OwnAt g F H O v d sh) (fr : Fresh B own F fp O) :
    Rel g Z B (setF own i (some sh)) F (setF fp i O) (ρ.set i (some d)) (σ.set i (some v)) H where
  len := by simp [R.len]
  sub := R.sub
  frz := fun j e q nj => by
    rcases get_set q with ⟨rfl, e2, hl⟩ | ⟨ne, q⟩
    · rw [setF_same] at nj; cases nj
    · rw [setF_ne ne] at nj
      obtain ⟨u, h1, h2⟩ := R.frz j e q nj
      exact ⟨u, by rw [List.getElem?_set_ne (Ne.symm ne)]; exact h1, h2⟩
  ownd := fun j sh' e nj q => by
    rcases get_set q with ⟨rfl, e2, hl⟩ | ⟨ne, q⟩
    · cases e2
      rw [setF_same] at nj ⊢
      cases nj
      exact ⟨v, by rw [List.getElem?_set_self (by rw [R.len]; exact hl)], h⟩
    · rw [setF_ne ne] at nj ⊢
      obtain ⟨u, h1, h2⟩ := R.ownd j sh' e nj q
      exact ⟨u, by rw [List.getElem?_set_ne (Ne.symm ne)]; exact h1, h2⟩
  out := fun j a nj ha => by
    by_cases e : j = i
    · subst e
      rw [setF_same] at ha
      exact ⟨(fr.out a ha).1, h.there a ha, .inl (fr.out a ha).2⟩
    · rw [setF_ne e] at nj ha
      exact R.out j a nj ha
  dis := fun j k a nj nk ne ha hb => by
    by_cases e : j = i
    · subst e
      have ek : k ≠ j := fun z => ne z.symm
      rw [setF_same] at ha
      rw [setF_ne ek] at nk hb
      exact fr.dis a ha k nk hb
    · rw [setF_ne e] at nj ha
      by_cases e' : k = i
      · subst e'
        rw [setF_same] at hb
        exact fr.dis a hb j nj ha
      · rw [setF_ne e'] at nk hb
        exact R.dis j k a nj nk ne ha hb
  ext := R.ext
  new := R.new
  keep := R.keep
  tr := R.tr
  pin := fun p hp => by rw [List.getElem?_set_ne (Ne.symm (np p hp))]; exact R.pin p hp
  pino := fun p hp => by rw [setF_ne (np p hp)]; exact R.pino p hp
  pinZ := R.pinZ
  pind := fun p hp => by rw [List.getElem?_set_ne (Ne.symm (np p hp))]; exact R.pind p hp
  iox := fun p hp => by rw [setF_ne (nx p hp)]; exact R.iox p hp
/-- what is new and owned is let go -/
theorem Rel.plus (R : Rel g Z B own F fp ρ σ H) {O : List Addr} (th : ∀ a ∈ O, H a ≠ none) (fr : Fresh B own F fp O) : Rel g Z B own (plus F H O) fp ρ σ H where
  len := R.len
  sub := plus_sub R.sub
  frz := fun i d e n => let ⟨v, h1, h2⟩ := R.frz i d e n; ⟨v, h1, h2.mono (plus_same fun a ha => (fr.out a ha).1)⟩
  ownd := fun i sh d n e => let ⟨v, h1, h2⟩ := R.ownd i sh d n e; ⟨v, h1, h2.mono (plus_same fun a ha => (fr.out a ha).1) fun _ _ => rfl⟩
  out := fun i a n ha => by
    obtain ⟨h1, h2, h3⟩ := R.out i a n ha
    refine ⟨?_, h2, h3⟩
    unfold EV.plus
    rw [if_neg fun m => fr.dis a m i n ha]; exact h1
  dis := R.dis
  ext := R.ext.trans (plus_same fun a ha => (fr.out a ha).1)
  new := fun a o e => by
    unfold EV.plus at e
    split at e
    · rename_i m; exact .inr (fr.out a m).2
    · exact R.new a o e
  keep := R.keep
  tr := R.tr
  pin := R.pin
  pino := R.pino
  pinZ := R.pinZ
  pind := R.pind
  iox := R.iox
/-- an owned slot is let go -/
theorem Rel.letgo (R : Rel g Z B own F fp ρ σ H) {i : Nat} {sh : Sh} (ho : own i = some sh) (np : ∀ p ∈ B.pins, p.1 ≠ i) (nx : ∀ p ∈ Z.ioX, p.1 ≠ i) : Rel g Z B (setF own i none) (EV.plus F H (fp i)) fp ρ σ H where
  len := R.len
  sub := plus_sub R.sub
  frz := fun j d e n => by
    have hs : Same F (EV.plus F H (fp i)) := plus_same fun a ha => (R.out i a (by rw [ho]; simp) ha).1
    by_cases z : j = i
    · subst z
      obtain ⟨v, h1, h2⟩ := R.ownd j sh d ho e
      exact ⟨v, h1, h2.freeze hs fun a ha => plus_at ha⟩
    · rw [setF_ne z] at n
      obtain ⟨v, h1, h2⟩ := R.frz j d e n
      exact ⟨v, h1, h2.mono hs⟩
  ownd := fun j sh' d n e => by
    have hs : Same F (EV.plus F H (fp i)) := plus_same fun a ha => (R.out i a (by rw [ho]; simp) ha).1
    by_cases z : j = i
    · subst z; rw [setF_same] at n; cases n
    · rw [setF_ne z] at n
      obtain ⟨v, h1, h2⟩ := R.ownd j sh' d n e
      exact ⟨v, h1, h2.mono hs fun _ _ => rfl⟩
  out := fun j a n ha => by
    by_cases z : j = i
    · subst z; rw [setF_same] at n; exact absurd rfl n
    · rw [setF_ne z] at n
      obtain ⟨h1, h2, h3⟩ := R.out j a n ha
      refine ⟨?_, h2, h3⟩
      unfold EV.plus
      rw [if_neg fun m => R.dis j i a n (by rw [ho]; simp) z ha m]; exact h1
  dis := fun j k a nj nk ne ha hb => by
    have zj : j ≠ i := fun z => by subst z; rw [setF_same] at nj; exact nj rfl
    have zk : k ≠ i := fun z => by subst z; rw [setF_same] at nk; exact nk rfl
    rw [setF_ne zj] at nj
    rw [setF_ne zk] at nk
    exact R.dis j k a nj nk ne ha hb
  ext := R.ext.trans (plus_same fun a ha => (R.out i a (by rw [ho]; simp) ha).1)
  new := fun a o e => by
    unfold EV.plus at e
    split at e
    · rename_i m
      rcases (R.out i a (by rw [ho]; simp) m).2.2 with z | ⟨_, p, hp, z⟩
      · exact .inr z
      · exact absurd z (np p hp)
    · exact R.new a o e
  keep := R.keep
  tr := R.tr
  pin := R.pin
  pino := fun p hp => by rw [setF_ne (np p hp)]; exact R.pino p hp
  pinZ := R.pinZ
  pind := R.pind
  iox := fun p hp => by rw [setF_ne (nx p hp)]; exact R.iox p hp
/-- an owned slot's content is changed in place -/
theorem Rel.write (R : Rel g Z B own F fp ρ σ H) {i : Nat} {sh sh' : Sh} {d' : D} {v : V} {O' : List Addr} (ho : own i = some sh) (hv : σ[i]? = some (some v)) (hx : ∀ p ∈ Z.ioX, p.1 = i → p.2 = sh') (hs : ∀ a, a ∉ fp i → H a ≠ none → H' a = H a) (ht : ∀ a, H a ≠ none → H' a ≠ none)
    (hn : ∀ a ∈ O', a ∉ fp i → H a = none) (h : OwnAt g F H' O' v d' sh') : Rel g Z B (setF own i (some sh')) F (setF fp i O') (ρ.set i (some d')) σ H' where
  len := by simp [R.len]
  sub := fun a o e => by
    have hne : H a ≠ none := by rw [R.sub a o e]; simp
    rw [hs a (fun m => by rw [(R.out i a (by rw [ho]; simp) m).1] at e; cases e) hne]; exact R.sub a o e
  frz := fun j e q nj => by
    rcases get_set q with ⟨rfl, e2, hl⟩ | ⟨ne, q⟩
    · rw [setF_same] at nj; cases nj
    · rw [setF_ne ne] at nj
      exact R.frz j e q nj
  ownd := fun j sh2 e nj q => by
    rcases get_set q with ⟨rfl, e2, hl⟩ | ⟨ne, q⟩
    · cases e2
      rw [setF_same] at nj ⊢
      cases nj
      exact ⟨v, hv, h⟩
    · rw [setF_ne ne] at nj ⊢
      obtain ⟨u, h1, h2⟩ := R.ownd j sh2 e nj q
      refine ⟨u, h1, h2.mono (Same.refl _) fun a ha => hs a (fun m => ?_) (h2.there a ha)⟩
      exact R.dis j i a (by rw [nj]; simp) (by rw [ho]; simp) ne ha m
  out := fun j a nj ha => by
    by_cases e : j = i
    · subst e
      rw [setF_same] at ha
      refine ⟨?_, h.there a ha, ?_⟩
      · by_cases m : a ∈ fp j
        · exact (R.out j a (by rw [ho]; simp) m).1
        · exact R.sub.free (hn a ha m)
      · by_cases m : a ∈ fp j
        · exact (R.out j a (by rw [ho]; simp) m).2.2
        · left
          cases q : B.H0 a with
          | none => rfl
          | some o => exact absurd (hn a ha m) (R.tr a (by rw [q]; simp))
    · rw [setF_ne e] at nj ha
      obtain ⟨h1, h2, h3⟩ := R.out j a nj ha
      exact ⟨h1, ht a h2, h3⟩
  dis := fun j k a nj nk ne ha hb => by
    have key : ∀ k, k ≠ i → own k ≠ none → a ∈ fp k → a ∉ O' := fun k zk nk hk hO => by
      by_cases m : a ∈ fp i
      · exact R.dis k i a nk (by rw [ho]; simp) zk hk m
      · exact (R.out k a nk hk).2.1 (hn a hO m)
    by_cases e : j = i
    · subst e
      have ek : k ≠ j := fun z => ne z.symm
      rw [setF_same] at ha
      rw [setF_ne ek] at nk hb
      exact key k ek nk hb ha
    · rw [setF_ne e] at nj ha
      by_cases e' : k = i
      · subst e'
        rw [setF_same] at hb
        exact key j e nj ha hb
      · rw [setF_ne e'] at nk hb
        exact R.dis j k a nj nk ne ha hb
  ext := R.ext
  new := R.new
  keep := fun a o e n => by
    have h1 := R.keep a o e n
    have hne : H a ≠ none := by rw [h1]; simp
    rw [hs a (fun m => ?_) hne]
    · exact h1
    · rcases (R.out i a (by rw [ho]; simp) m).2.2 with z | ⟨z, p, hp, rfl⟩
      · rw [z] at e; cases e
      · exact n p hp z
  tr := fun a e => ht a (R.tr a e)
  pin := R.pin
  pino := fun p hp => by
    by_cases e : p.1 = i
    · rw [e, setF_same]; simp
    · rw [setF_ne e]; exact R.pino p hp
  pinZ := R.pinZ
  pind := fun p hp => by
    by_cases e : p.1 = i
    · obtain ⟨d, hd⟩ := R.pind p hp
      refine ⟨d', ?_⟩
      rw [e, List.getElem?_set_self]
      rw [e] at hd
      exact (List.getElem?_eq_some_iff.mp hd).1
    · rw [List.getElem?_set_ne (Ne.symm e)]; exact R.pind p hp
  iox := fun p hp => by
    by_cases e : p.1 = i
    · rw [e, setF_same, hx p hp e]
    · rw [setF_ne e]; exact R.iox p hp
end

/-! ## results -/
structure Exn where
  cls : Str
  ns : List Str
  vs : List D
inductive Rs where
  | ok (d : D) (ρ : Rho) | ex (e : Exn) (ρ : Rho) | stk
abbrev E := Rho → Rs
inductive Out where
  | nx (ρ : Rho) | rt (d : D) (ρ : Rho) | bk (ρ : Rho) | ct (ρ : Rho) | ex (e : Exn) (ρ : Rho) | stk
abbrev S := Rho → Out
/-- an exception's class and its dict -/
def ExAt (g : Gb) (F H : Hp) (c : Value) (dx : Option Addr) (e : Exn) : Prop :=
  ∃ C, c = .ref C ∧ g.mg e.cls = some (.ref C) ∧ ((dx = none ∧ e.ns = [] ∧ e.vs = []) ∨ ∃ d vs, dx = some d ∧ H d = some (.xd (e.ns.zip vs)) ∧ e.ns.length = vs.length ∧ DatL g F vs e.vs)

def RPost (g : Gb) (Z : Sg) (B : Bs) (own : Own) (W : WX) (σ : St) (F : Hp) (r : Rs) (Q : VK) : Prop := match r with
  | .ok d ρ' => ∀ F' fp' H' v, Same F F' → Rel g Z B own F' fp' ρ' σ H' → Dat g F' v d → Q v H'
  | .ex e ρ' => ∀ F' fp' H' c dx, Same F F' → Rel g Z B own F' fp' ρ' σ H' → ExAt g F' H' c dx e → W c dx σ H'
  | .stk => False
def tE (g : Gb) (Z : Sg) (own : Own) (W : WX) (f : E) : TE := fun σ H Q => ∃ B F fp ρ, Rel g Z B own F fp ρ σ H ∧ RPost g Z B own W σ F (f ρ) Q
/-- the truth of a value -/
def D.truth : D → Option Bool
  | .non => some false
  | .bl b => some b
  | .int i => some (i != 0)
  | .str x => some (!x.cps.toList.isEmpty)
  | .tup xs => some (!xs.isEmpty)
  | .lst xs => some (!xs.isEmpty)
  | _ => none
def tT (g : Gb) (Z : Sg) (own : Own) (W : WX) (f : E) : TT := fun σ H Q => ∃ B F fp ρ, Rel g Z B own F fp ρ σ H ∧ match f ρ with
  | .ok d ρ' => ∃ b, d.truth = some b ∧ ∀ F' fp' H', Same F F' → Rel g Z B own F' fp' ρ' σ H' → Q b H'
  | .ex e ρ' => ∀ F' fp' H' c dx, Same F F' → Rel g Z B own F' fp' ρ' σ H' → ExAt g F' H' c dx e → W c dx σ H'
  | .stk => False
/-- what is returned: it stands, or it is new and owned -/
def RetAt (g : Gb) (Z : Sg) (B : Bs) (F H : Hp) (fp : Nat → List Addr) (v : V) (d : D) : Prop := match Z.ret with
  | none => Dat g F v d
  | some sh => ∃ O, OwnAt g F H O v d sh ∧ (∀ a ∈ O, F a = none ∧ B.H0 a = none) ∧ ∀ p ∈ Z.ioN, ∀ a ∈ fp p.1, a ∉ O
/-- an expression that makes something new, owned -/
def tO (g : Gb) (Z : Sg) (own : Own) (W : WX) (sh : Sh) (f : E) : TE := fun σ H Q => ∃ B F fp ρ, Rel g Z B own F fp ρ σ H ∧ match f ρ with
  | .ok d ρ' => ∀ F' fp' H' v O, Same F F' → Rel g Z B own F' fp' ρ' σ H' → OwnAt g F' H' O v d sh → Fresh B own F' fp' O → Q v H'
  | .ex e ρ' => ∀ F' fp' H' c dx, Same F F' → Rel g Z B own F' fp' ρ' σ H' → ExAt g F' H' c dx e → W c dx σ H'
  | .stk => False
def tS (g : Gb) (Z : Sg) (own own' ob : Own) (W : WX) (f : S) : TS := fun D σ H => ∃ B F fp ρ, Rel g Z B own F fp ρ σ H ∧ match f ρ with
  | .nx ρ' => ∀ F' fp' σ' H', Same F F' → Rel g Z B own' F' fp' ρ' σ' H' → D.nx σ' H'
  | .rt d ρ' => ∀ F' fp' σ' H' v o, Same F F' → Rel g Z B o F' fp' ρ' σ' H' → (∀ p ∈ Z.ioN, o p.1 = some p.2) → RetAt g Z B F' H' fp' v d → D.rt v H'
  | .bk ρ' => ∀ F' fp' σ' H', Same F F' → Rel g Z B ob F' fp' ρ' σ' H' → D.bk σ' H'
  | .ct ρ' => ∀ F' fp' σ' H', Same F F' → Rel g Z B ob F' fp' ρ' σ' H' → D.ct σ' H'
  | .ex e ρ' => ∀ F' fp' σ' H' c dx o, Same F F' → Rel g Z B o F' fp' ρ' σ' H' → ExAt g F' H' c dx e → W c dx σ' H'
  | .stk => False
end
end EV
namespace EV
open PySem PySem.Spec PyProof.Rows L2

theorem PEimp {X : Cx} {e : Expr} {t t' : TE} (h : PE X e t) (i : ∀ σ H Q, t' σ H Q → t σ H Q) : PE X e t' := ⟨fun pins s σ H Q I q => h.run pins s σ H Q I (i _ _ _ q)⟩
theorem PTimp {X : Cx} {e : Expr} {t t' : TT} (h : PT X e t) (i : ∀ σ H Q, t' σ H Q → t σ H Q) : PT X e t' := ⟨fun pins s σ H Q I q => h.run pins s σ H Q I (i _ _ _ q)⟩
theorem PWimp {X : Cx} {e : Expr} {t t' : TT} (h : PW X e t) (i : ∀ σ H Q, t' σ H Q → t σ H Q) : PW X e t' := ⟨fun wh pins s σ H Q I q => h.run wh pins s σ H Q I (i _ _ _ q)⟩
theorem PSimp {X : Cx} {e : Stmt} {t t' : TS} (h : PS X e t) (i : ∀ D σ H, t' D σ H → t D σ H) : PS X e t' := ⟨fun pins s σ H D I q => h.run pins s σ H D I (i _ _ _ q)⟩
theorem PSsimp {X : Cx} {e : List Stmt} {t t' : TS} (h : PSs X e t) (i : ∀ D σ H, t' D σ H → t D σ H) : PSs X e t' := ⟨fun pins s σ H D I q => h.run pins s σ H D I (i _ _ _ q)⟩

/-- the heap's lists and tuples have a size -/
def Sized (K : PySem.W.Frag) (H : Hp) : Prop := (∀ a xs, SqL K H a xs → xs.length ≤ sizeLine) ∧ (∀ a xs, SqT K H a xs → xs.length ≤ sizeLine)
theorem Inv.sized {X : Cx} {pins σ H s} (I : Inv X pins σ H s) : Sized X.K H :=
  ⟨fun a xs h => let ⟨_, _, _, z⟩ := I.list h; z, fun a xs h => let ⟨_, _, _, z⟩ := I.tuple h; z⟩
theorem PEsized {X : Cx} {e : Expr} {t : TE} (h : PE X e t) : PE X e (fun σ H Q => Sized X.K H → t σ H Q) := ⟨fun pins s σ H Q I q => h.run pins s σ H Q I (q (Inv.sized I))⟩

abbrev DenE (X : Cx) (Z : Sg) (own : Own) (W : WX) (e : Expr) (f : E) : Prop := PE X e (tE (gOf X) Z own W f)
abbrev DenT (X : Cx) (Z : Sg) (own : Own) (W : WX) (e : Expr) (f : E) : Prop := PT X e (tT (gOf X) Z own W f)
abbrev DenS (X : Cx) (Z : Sg) (own own' ob : Own) (W : WX) (st : Stmt) (f : S) : Prop := PS X st (tS (gOf X) Z own own' ob W f)
abbrev DenSs (X : Cx) (Z : Sg) (own own' ob : Own) (W : WX) (st : List Stmt) (f : S) : Prop := PSs X st (tS (gOf X) Z own own' ob W f)
abbrev DenO (X : Cx) (Z : Sg) (own : Own) (W : WX) (sh : Sh) (e : Expr) (f : E) : Prop := PE X e (tO (gOf X) Z own W sh f)

/-! ## results in a row -/
def Rs.bind (r : Rs) (k : D → E) : Rs := match r with
  | .ok d ρ => k d ρ
  | .ex e ρ => .ex e ρ
  | .stk => .stk
def eBind (f : E) (k : D → E) : E := fun ρ => (f ρ).bind k
/-- part of an expression, then the rest -/
theorem bindR {g : Gb} {Z : Sg} {B : Bs} {own : Own} {W : WX} {f : E} {k : D → E} {F : Hp} {fp : Nat → List Addr} {ρ : Rho} {σ : St} {H : Hp} {Q : VK} {R : VK}
    (R0 : Rel g Z B own F fp ρ σ H) (P : RPost g Z B own W σ F (eBind f k ρ) Q)
    (hk : ∀ F1 fp1 ρ1 d v H1, Same F F1 → Rel g Z B own F1 fp1 ρ1 σ H1 → Dat g F1 v d → RPost g Z B own W σ F1 (k d ρ1) Q → R v H1) : tE g Z own W f σ H R := by
  refine ⟨B, F, fp, ρ, R0, ?_⟩
  unfold eBind Rs.bind at P
  cases e : f ρ with
  | ok d ρ1 =>
    rw [e] at P
    intro F1 fp1 H1 v s R1 hd
    refine hk F1 fp1 ρ1 d v H1 s R1 hd ?_
    cases e2 : k d ρ1 with
    | ok d2 ρ2 =>
      simp only [e2] at P
      intro F2 fp2 H2 v2 s2 R2 hd2
      exact P F2 fp2 H2 v2 (s.trans s2) R2 hd2
    | ex x ρ2 =>
      simp only [e2] at P
      intro F2 fp2 H2 c dx s2 R2 hx
      exact P F2 fp2 H2 c dx (s.trans s2) R2 hx
    | stk => simp only [e2] at P; exact P
  | ex x ρ1 => rw [e] at P; exact P
  | stk => rw [e] at P; exact P

/-- what an operation on values gives: it may make new objects -/
def Yields (g : Gb) (F H : Hp) (d : D) (Q : VK) : Prop := ∀ F' H' v, Grow F H F' H' → Dat g F' v d → Q v H'
theorem Yields.flat {g : Gb} {F H : Hp} {d : D} {Q : VK} {v : V} (y : Yields g F H d Q) (s : Same F H) (h : Dat g F v d) : Q v H := y F H v (Grow.refl s) h
theorem Yields.push {g : Gb} {F H : Hp} {d : D} {Q : VK} {p : Addr} {o : HO} (y : Yields g F H d Q) (s : Same F H) (n : H p = none) (h : Dat g (upd F p o) (.ref p) d) : Q (.ref p) (upd H p o) :=
  y _ _ _ (Grow.push s n) h
theorem RPost.yields {g : Gb} {Z : Sg} {B : Bs} {own : Own} {W : WX} {σ : St} {F H : Hp} {fp : Nat → List Addr} {ρ : Rho} {d : D} {Q : VK} (R : Rel g Z B own F fp ρ σ H) (P : RPost g Z B own W σ F (.ok d ρ) Q) : Yields g F H d Q :=
  fun F' H' v G h => P F' fp H' v G.ff (R.grow G) h

/-! ## names, constants -/
section
variable {X : Cx} {Z : Sg} {own : Own} {W : WX} {pos : Pos}
def eVar (i : Nat) : E := fun ρ => match ρ[i]? with
  | some (some d) => .ok d ρ
  | _ => .stk
theorem den_var (i : Nat) {x : Str} (ho : own i = none := by rfl) (hN : X.N[i]? = some x := by rfl) (hv : Vis X.env.scope x := by first | exact Or.inl rfl | exact Or.inr (Or.inl rfl) | exact Or.inr (Or.inr rfl)) (hd : (x == ("__debug__" : Str)) = false := by decide)
    (hcd : (x == ("__classdict__" : Str)) = false := by decide) : DenE X Z own W (.Name x pos) (eVar i) := by
  refine PEimp (pe_var hN hv hd hcd) fun σ H Q h => ?_
  obtain ⟨B, F, fp, ρ, R, P⟩ := h
  unfold eVar at P
  split at P
  · rename_i d e
    obtain ⟨v, h1, h2⟩ := R.frz i d e ho
    exact ⟨v, h1, (RPost.yields R P).flat R.sub h2⟩
  · exact P.elim
def eC (d : D) : E := fun ρ => .ok d ρ
theorem tE_const {g : Gb} {v : V} {d : D} {σ : St} {H : Hp} {Q : VK} (hv : ∀ F, Dat g F v d) (h : tE g Z own W (eC d) σ H Q) : Q v H := by
  obtain ⟨B, F, fp, ρ, R, P⟩ := h
  exact (RPost.yields R P).flat R.sub (hv F)
theorem den_int {i : Int} {j} : DenE X Z own W (.Constant (.int i) j pos) (eC (.int i)) := PEimp pe_int fun _ _ _ h => tE_const (fun _ => .int i) h
theorem den_bl {b : Bool} {j} : DenE X Z own W (.Constant (.bool b) j pos) (eC (.bl b)) := PEimp pe_bl fun _ _ _ h => tE_const (fun _ => .bl b) h
theorem den_non {j} : DenE X Z own W (.Constant .none j pos) (eC .non) := PEimp pe_non fun _ _ _ h => tE_const (fun _ => .non) h
theorem den_str {x : Str} {j} (h : x.length ≤ sizeLine := by decide +kernel) (k : PyData.strOk x = true := by decide +kernel) : DenE X Z own W (.Constant (.str x) j pos) (eC (.str x)) := PEimp pe_str fun _ _ _ h' => tE_const (fun _ => .str x h k) h'
/-- a constant of the module -/
theorem den_glob {x : Str} {v : V} {u : Value} {d : D} (hg : L2.Gl X x) (hm : X.mg x = some u) (r : RelV v u) (hv : ∀ F, Dat (gOf X) F v d) (hd : (x == ("__debug__" : Str)) = false := by decide) : DenE X Z own W (.Name x pos) (eC d) :=
  PEimp (pe_glob hg hm r hd) fun _ _ _ h => tE_const hv h

/-! ## operators -/
/-- a two-place operation on data -/
def rD2 (g : Gb) (f : D → D → Option D) : R2 := fun x y H Q => ∃ F a b d, Same F H ∧ Dat g F x a ∧ Dat g F y b ∧ f a b = some d ∧ Yields g F H d Q
abbrev OpD (X : Cx) (op : Value → Value → Sem Value) (f : D → D → Option D) : Prop := OpR X op (rD2 (gOf X) f)
def eOp (f : D → D → Option D) (a b : E) : E := eBind a fun x => eBind b fun y => fun ρ => match f x y with
  | some d => .ok d ρ
  | none => .stk
theorem tOp_of {g : Gb} {f : D → D → Option D} {fa fb : E} {σ : St} {H : Hp} {Q : VK} (h : tE g Z own W (eOp f fa fb) σ H Q) : tOp (rD2 g f) (tE g Z own W fa) (tE g Z own W fb) σ H Q := by
  obtain ⟨B, F, fp, ρ, R, P⟩ := h
  refine bindR R P fun F1 fp1 ρ1 x v H1 s1 R1 hx P1 => ?_
  refine bindR R1 P1 fun F2 fp2 ρ2 y u H2 s2 R2 hy P2 => ?_
  split at P2
  · rename_i d e
    exact ⟨F2, x, y, d, R2.sub, hx.mono s2, hy, e, RPost.yields R2 P2⟩
  · exact P2.elim
theorem den_op {op : Operator} {f : D → D → Option D} {a b : Expr} {fa fb : E} (ho : OpD X (binaryOp op) f) (ha : DenE X Z own W a fa) (hb : DenE X Z own W b fb) : DenE X Z own W (.BinOp a op b pos) (eOp f fa fb) :=
  PEimp (pe_op ho ha hb) fun _ _ _ h => tOp_of h
theorem den_cmp {op : CmpOp} {f : D → D → Option D} {a b : Expr} {fa fb : E} (ho : OpD X (compareOp op) f) (ha : DenE X Z own W a fa) (hb : DenE X Z own W b fb) (hm : behindInMarks op b = false) : DenE X Z own W (.Compare a [op] [b] pos) (eOp f fa fb) :=
  PEimp (pe_cmpR ho ha hb hm) fun _ _ _ h => tOp_of h
end

/-! ## data without objects -/
mutual
/-- no dict, no object within -/
def D.pl : D → Bool
  | .non => true
  | .bl _ => true
  | .int _ => true
  | .str _ => true
  | .tup xs => D.plL xs
  | .lst xs => D.plL xs
  | .dct _ _ => false
  | .ins _ _ _ => false
def D.plL : List D → Bool
  | [] => true
  | x :: xs => D.pl x && D.plL xs
end
mutual
def D.toP : D → PyData
  | .non => .none
  | .bl b => .bool b
  | .int i => .int i
  | .str x => .str x
  | .tup xs => .tuple (D.toPL xs)
  | .lst xs => .list (D.toPL xs)
  | .dct _ _ => .dict []
  | .ins _ _ _ => .dict []
def D.toPL : List D → List PyData
  | [] => []
  | x :: xs => D.toP x :: D.toPL xs
end
mutual
def D.depth : D → Nat
  | .tup xs => D.depthL xs + 1
  | .lst xs => D.depthL xs + 1
  | _ => 0
def D.depthL : List D → Nat
  | [] => 0
  | x :: xs => max (D.depth x) (D.depthL xs)
end
mutual
theorem Dat.dp {g : Gb} {F : Hp} {v : V} : ∀ {d : D}, Dat g F v d → d.pl = true → Dp g.K F v d.toP ∧ d.toP.canLay0 = true ∧ d.toP.depth = d.depth
  | _, .non, _ => ⟨.non, rfl, rfl⟩
  | _, .bl b, _ => ⟨.bl b, rfl, rfl⟩
  | _, .int i, _ => ⟨.int i, rfl, rfl⟩
  | _, .str x _ k, _ => ⟨.str x, k, rfl⟩
  | _, .tup h l, p => by
    obtain ⟨a, b, c⟩ := DatL.dp l (by simpa [D.pl] using p)
    exact ⟨.tup h a, by simpa [D.toP, PyData.canLay0] using b, by simp [D.toP, D.depth, PyData.depth, c]⟩
  | _, .lst h l, p => by
    obtain ⟨a, b, c⟩ := DatL.dp l (by simpa [D.pl] using p)
    exact ⟨.lst h a, by simpa [D.toP, PyData.canLay0] using b, by simp [D.toP, D.depth, PyData.depth, c]⟩
  | _, .dct _ _ _ _ _ _, p => by simp [D.pl] at p
  | _, .ins _ _ _ _ _, p => by simp [D.pl] at p
theorem DatL.dp {g : Gb} {F : Hp} {vs : List V} : ∀ {ds : List D}, DatL g F vs ds → D.plL ds = true → DpAll g.K F vs (D.toPL ds) ∧ PyData.canLayAll0 (D.toPL ds) = true ∧ PyData.depthAll (D.toPL ds) = D.depthL ds
  | _, .nil, _ => ⟨.nil, rfl, rfl⟩
  | _, .cons h t, p => by
    simp only [D.plL, Bool.and_eq_true] at p
    obtain ⟨a, b, c⟩ := Dat.dp h p.1
    obtain ⟨a', b', c'⟩ := DatL.dp t p.2
    exact ⟨.cons a a', by simp [D.toPL, PyData.canLayAll0, b, b'], by simp [D.toPL, PyData.depthAll, D.depthL, c, c']⟩
end
/-- ==, as data -/
def D.eqv (a b : D) : Bool := PyData.eqv a.toP b.toP
def D.fit (a b : D) : Bool := a.pl && b.pl && decide (min a.depth b.depth ≤ 64)
def dEq (a b : D) : Option D := if D.fit a b then some (.bl (D.eqv a b)) else none
def dNe (a b : D) : Option D := if D.fit a b then some (.bl (!D.eqv a b)) else none
section
variable {X : Cx}
theorem eq_core {pins : List (Addr × Obj)} {σ : St} {H : Hp} {s : Shared} {F : Hp} {a b : D} {x y : V} {v u : Value} (I : Inv X pins σ H s) (hF : Same F H) (ha : Dat (gOf X) F x a) (hb : Dat (gOf X) F y b) (rx : RelV x v) (ry : RelV y u) (f : D.fit a b = true) (hu : X.A.units + 64 < cLine) :
    (∃ as, Reads s.heap v a.toP as) ∧ (∃ bs, Reads s.heap u b.toP bs) ∧ a.toP.canLay0 = true ∧ b.toP.canLay0 = true ∧ X.A.units + min a.toP.depth b.toP.depth < cLine := by
  simp only [D.fit, Bool.and_eq_true, decide_eq_true_eq] at f
  obtain ⟨⟨f1, f2⟩, f3⟩ := f
  obtain ⟨d1, c1, e1⟩ := (ha.mono hF).dp f1
  obtain ⟨d2, c2, e2⟩ := (hb.mono hF).dp f2
  exact ⟨Dp.reads I _ _ _ d1 rx, Dp.reads I _ _ _ d2 ry, c1, c2, by rw [e1, e2]; omega⟩
theorem opd_eq (hu : X.A.units + 64 < cLine) : OpD X (compareOp .Eq) dEq := by
  intro pins s σ H x y v u Q I rx ry h
  obtain ⟨F, a, b, d, hF, ha, hb, e, yl⟩ := h
  unfold dEq at e
  split at e
  · rename_i f
    cases e
    obtain ⟨⟨as, r1⟩, ⟨bs, r2⟩, c1, c2, r⟩ := eq_core I hF ha hb rx ry f hu
    exact SeqAt.compareEq_reads r1 r2 c1 c2 r ⟨.bl _, H, I, rfl, yl.flat hF (.bl _)⟩
  · cases e
theorem opd_ne (hu : X.A.units + 64 < cLine) : OpD X (compareOp .NotEq) dNe := by
  intro pins s σ H x y v u Q I rx ry h
  obtain ⟨F, a, b, d, hF, ha, hb, e, yl⟩ := h
  unfold dNe at e
  split at e
  · rename_i f
    cases e
    obtain ⟨⟨as, r1⟩, ⟨bs, r2⟩, c1, c2, r⟩ := eq_core I hF ha hb rx ry f hu
    exact SeqAt.compareNe_reads r1 r2 c1 c2 r ⟨.bl _, H, I, rfl, yl.flat hF (.bl _)⟩
  · cases e
end
end EV
namespace EV
open PySem PySem.Spec PyProof.Rows L2

/-! ## statements -/
section
variable {X : Cx} {Z : Sg} {own own' own1 ob : Own} {W : WX} {pos : Pos}

def sSkip : S := fun ρ => .nx ρ
def sSeq (a b : S) : S := fun ρ => match a ρ with
  | .nx ρ' => b ρ'
  | r => r
/-- weaken the frame of a statement's end -/
theorem tS_same {g : Gb} {Z : Sg} {B : Bs} {F F1 : Hp} {r : Out} {D : Ends} (s : Same F F1) :
    (match r with
      | .nx ρ' => ∀ F' fp' σ' H', Same F F' → Rel g Z B own' F' fp' ρ' σ' H' → D.nx σ' H'
      | .rt d ρ' => ∀ F' fp' σ' H' v o, Same F F' → Rel g Z B o F' fp' ρ' σ' H' → (∀ p ∈ Z.ioN, o p.1 = some p.2) → RetAt g Z B F' H' fp' v d → D.rt v H'
      | .bk ρ' => ∀ F' fp' σ' H', Same F F' → Rel g Z B ob F' fp' ρ' σ' H' → D.bk σ' H'
      | .ct ρ' => ∀ F' fp' σ' H', Same F F' → Rel g Z B ob F' fp' ρ' σ' H' → D.ct σ' H'
      | .ex e ρ' => ∀ F' fp' σ' H' c dx o, Same F F' → Rel g Z B o F' fp' ρ' σ' H' → ExAt g F' H' c dx e → W c dx σ' H'
      | .stk => False) →
    (match r with
      | .nx ρ' => ∀ F' fp' σ' H', Same F1 F' → Rel g Z B own' F' fp' ρ' σ' H' → D.nx σ' H'
      | .rt d ρ' => ∀ F' fp' σ' H' v o, Same F1 F' → Rel g Z B o F' fp' ρ' σ' H' → (∀ p ∈ Z.ioN, o p.1 = some p.2) → RetAt g Z B F' H' fp' v d → D.rt v H'
      | .bk ρ' => ∀ F' fp' σ' H', Same F1 F' → Rel g Z B ob F' fp' ρ' σ' H' → D.bk σ' H'
      | .ct ρ' => ∀ F' fp' σ' H', Same F1 F' → Rel g Z B ob F' fp' ρ' σ' H' → D.ct σ' H'
      | .ex e ρ' => ∀ F' fp' σ' H' c dx o, Same F1 F' → Rel g Z B o F' fp' ρ' σ' H' → ExAt g F' H' c dx e → W c dx σ' H'
      | .stk => False) := by
  intro h
  cases r with
  | nx ρ' => exact fun F' fp' σ' H' s' => h F' fp' σ' H' (s.trans s')
  | rt d ρ' => exact fun F' fp' σ' H' v o s' => h F' fp' σ' H' v o (s.trans s')
  | bk ρ' => exact fun F' fp' σ' H' s' => h F' fp' σ' H' (s.trans s')
  | ct ρ' => exact fun F' fp' σ' H' s' => h F' fp' σ' H' (s.trans s')
  | ex e ρ' => exact fun F' fp' σ' H' c dx o s' => h F' fp' σ' H' c dx o (s.trans s')
  | stk => exact h
theorem den_nil : DenSs X Z own own ob W [] sSkip := PSsimp pss_nil fun D σ H h => by
  obtain ⟨B, F, fp, ρ, R, P⟩ := h
  exact P F fp σ H (Same.refl _) R
theorem den_cons {st : Stmt} {rest : List Stmt} {f k : S} (h1 : DenS X Z own own1 ob W st f) (h2 : DenSs X Z own1 own' ob W rest k) : DenSs X Z own own' ob W (st :: rest) (sSeq f k) := PSsimp (pss_cons h1 h2) fun D σ H h => by
  obtain ⟨B, F, fp, ρ, R, P⟩ := h
  refine ⟨B, F, fp, ρ, R, ?_⟩
  unfold sSeq at P
  cases e : f ρ with
  | nx ρ' =>
    rw [e] at P
    intro F' fp' σ' H' s R'
    exact ⟨B, F', fp', ρ', R', tS_same s P⟩
  | rt d ρ' => rw [e] at P; exact P
  | bk ρ' => rw [e] at P; exact P
  | ct ρ' => rw [e] at P; exact P
  | ex x ρ' => rw [e] at P; exact P
  | stk => rw [e] at P; exact P
theorem den_one {st : Stmt} {f : S} (h1 : DenS X Z own own' ob W st f) : DenSs X Z own own' ob W [st] f := pss_one h1
theorem den_never {st : Stmt} : DenS X Z own own' ob W st (fun _ => .stk) := PSimp ps_never fun D σ H ⟨_, _, _, _, _, P⟩ => P
theorem den_pass : DenS X Z own own ob W (.Pass pos) sSkip := PSimp ps_pass fun D σ H h => by
  obtain ⟨B, F, fp, ρ, R, P⟩ := h
  exact P F fp σ H (Same.refl _) R
def sBreak : S := fun ρ => .bk ρ
def sCont : S := fun ρ => .ct ρ
theorem den_break : DenS X Z own own' own W (.Break pos) sBreak := PSimp ps_break fun D σ H h => by
  obtain ⟨B, F, fp, ρ, R, P⟩ := h
  exact P F fp σ H (Same.refl _) R
theorem den_continue : DenS X Z own own' own W (.Continue pos) sCont := PSimp ps_continue fun D σ H h => by
  obtain ⟨B, F, fp, ρ, R, P⟩ := h
  exact P F fp σ H (Same.refl _) R

/-- an expression's end as a statement's -/
def sOf (f : E) (k : D → S) : S := fun ρ => match f ρ with
  | .ok d ρ' => k d ρ'
  | .ex e ρ' => .ex e ρ'
  | .stk => .stk
theorem tS_of {g : Gb} {f : E} {k : D → S} {D : Ends} {σ : St} {H : Hp} {Q : VK} (h : tS g Z own own' ob W (sOf f k) D σ H)
    (hk : ∀ B F fp ρ d v H, Rel g Z B own F fp ρ σ H → Dat g F v d →
      (match k d ρ with
      | .nx ρ' => ∀ F' fp' σ' H', Same F F' → Rel g Z B own' F' fp' ρ' σ' H' → D.nx σ' H'
      | .rt d ρ' => ∀ F' fp' σ' H' v o, Same F F' → Rel g Z B o F' fp' ρ' σ' H' → (∀ p ∈ Z.ioN, o p.1 = some p.2) → RetAt g Z B F' H' fp' v d → D.rt v H'
      | .bk ρ' => ∀ F' fp' σ' H', Same F F' → Rel g Z B ob F' fp' ρ' σ' H' → D.bk σ' H'
      | .ct ρ' => ∀ F' fp' σ' H', Same F F' → Rel g Z B ob F' fp' ρ' σ' H' → D.ct σ' H'
      | .ex e ρ' => ∀ F' fp' σ' H' c dx o, Same F F' → Rel g Z B o F' fp' ρ' σ' H' → ExAt g F' H' c dx e → W c dx σ' H'
      | .stk => False) → Q v H) : tE g Z own W f σ H Q := by
  obtain ⟨B, F, fp, ρ, R, P⟩ := h
  refine ⟨B, F, fp, ρ, R, ?_⟩
  unfold sOf at P
  cases e : f ρ with
  | ok d ρ' =>
    rw [e] at P
    intro F' fp' H' v s R' hd
    exact hk B F' fp' ρ' d v H' R' hd (tS_same s P)
  | ex x ρ' =>
    rw [e] at P
    intro F' fp' H' c dx s R' hx
    exact P F' fp' σ H' c dx own s R' hx
  | stk => rw [e] at P; exact P

def sExpr (f : E) : S := sOf f fun _ => sSkip
theorem den_expr {e : Expr} {f : E} (he : DenE X Z own W e f) (hs : swapsWith e none pos.line X.env = pure false := by rfl) : DenS X Z own own ob W (.Expr e pos) (sExpr f) := PSimp (ps_expr he hs) fun D σ H h =>
  tS_of h fun B F fp ρ d v H' R hd P => P F fp σ H' (Same.refl _) R
/-- x = e, x frozen -/
def sSet (i : Nat) (f : E) : S := sOf f fun d ρ => .nx (ρ.set i (some d))
theorem den_set {i : Nat} {x : Str} {e : Expr} {f : E} {pos' : Pos} (ho : own i = none) (hN : X.N.Nodup) (hi : X.N[i]? = some x) (hx : Loc X.env.scope x) (he : DenE X Z own W e f) (hs : swapsWith e (some (.Name x pos')) pos.line X.env = pure false := by rfl)
    (hf : X.fn x = true ∨ X.env.scope.names.lookup x = some .local := by first | exact .inl rfl | exact .inr rfl | assumption) : DenS X Z own own ob W (.Assign [.Name x pos'] e pos) (sSet i f) := PSimp (ps_set hN hi hx he hs hf) fun D σ H h =>
  tS_of h fun B F fp ρ d v H' R hd P => P F fp (σ.set i (some v)) H' (Same.refl _) (R.set ho hd)
/-- return e -/
def sRet (f : E) : S := sOf f fun d ρ => .rt d ρ
theorem den_ret {e : Expr} {f : E} (he : DenE X Z own W e f) (hr : Z.ret = none) (hi : ∀ p ∈ Z.ioN, own p.1 = some p.2) : DenS X Z own own' ob W (.Return (some e) pos) (sRet f) := PSimp (ps_ret he) fun D σ H h =>
  tS_of h fun B F fp ρ d v H' R hd P => P F fp σ H' v own (Same.refl _) R hi (by unfold RetAt; rw [hr]; exact hd)
theorem den_retN (hr : Z.ret = none) (hi : ∀ p ∈ Z.ioN, own p.1 = some p.2) : DenS X Z own own' ob W (.Return none pos) (fun ρ => .rt .non ρ) := PSimp ps_retN fun D σ H h => by
  obtain ⟨B, F, fp, ρ, R, P⟩ := h
  exact P F fp σ H .non own (Same.refl _) R hi (by unfold RetAt; rw [hr]; exact .non)
/-- if -/
def sIf (c : E) (a b : S) : S := sOf c fun d ρ => match d.truth with
  | some true => a ρ
  | some false => b ρ
  | none => .stk
theorem den_if {c : Expr} {a b : List Stmt} {fc : E} {fa fb : S} (hc : DenT X Z own W c fc) (ha : DenSs X Z own own' ob W a fa) (hb : DenSs X Z own own' ob W b fb) : DenS X Z own own' ob W (.If c a b pos) (sIf fc fa fb) := PSimp (ps_if hc ha hb) fun D σ H h => by
  obtain ⟨B, F, fp, ρ, R, P⟩ := h
  refine ⟨B, F, fp, ρ, R, ?_⟩
  unfold sIf sOf at P
  cases e : fc ρ with
  | ok d ρ' =>
    rw [e] at P
    dsimp only at P ⊢
    cases t : d.truth with
    | none => rw [t] at P; exact P.elim
    | some k =>
      rw [t] at P
      refine ⟨k, rfl, fun F' fp' H' s R' => ?_⟩
      cases k with
      | true => rw [if_pos rfl]; exact ⟨B, F', fp', ρ', R', tS_same s P⟩
      | false => rw [if_neg Bool.false_ne_true]; exact ⟨B, F', fp', ρ', R', tS_same s P⟩
  | ex x ρ' =>
    rw [e] at P
    intro F' fp' H' c dx s R' hx
    exact P F' fp' σ H' c dx own s R' hx
  | stk => rw [e] at P; exact P

/-! ## tests -/
theorem den_test {e : Expr} {f : E} (he : DenE X Z own W e f) (hw : ∀ whole, isTrue e X.env whole = (do let v ← whole; standAt e.pos; holding [v] (truthy v))) : DenT X Z own W e f := PTimp (pt_truth he hw) fun σ H Q h => by
  obtain ⟨B, F, fp, ρ, R, P⟩ := h
  refine ⟨B, F, fp, ρ, R, ?_⟩
  cases e : f ρ with
  | ok d ρ' =>
    rw [e] at P
    obtain ⟨b, t, q⟩ := P
    intro F' fp' H' v s R' hd
    refine ⟨b, ?_, q F' fp' H' s R'⟩
    cases hd with
    | non => cases t; rfl
    | bl b => cases t; rfl
    | int i => cases t; rfl
    | str x h k =>
      cases t
      refine ⟨h, ?_⟩
      unfold Str.length
      rw [← Array.length_toList]
      cases x.cps.toList with
      | nil => rfl
      | cons c r => simp; omega
    | tup h l =>
      cases t
      refine .inr (.inl ⟨_, Same.seqT R'.sub h, ?_⟩)
      cases l <;> rfl
    | lst h l =>
      cases t
      refine .inl ⟨_, EVseq R'.sub h, ?_⟩
      cases l <;> rfl
    | dct _ _ _ _ _ _ => cases t
    | ins _ _ _ _ _ => cases t
  | ex x ρ' => rw [e] at P; exact P
  | stk => rw [e] at P; exact P
end
end EV
namespace EV
open PySem PySem.Spec PyProof.Rows L2

/-! ## targets -/
abbrev Tg := D → Rho → Option Rho
def tG (g : Gb) (Z : Sg) (own : Own) (sl : List Nat) (f : Tg) : TG := fun v σ H Q => ∃ B F fp ρ d ρ', Rel g Z B own F fp ρ σ H ∧ Dat g F v d ∧ f d ρ = some ρ' ∧ ∀ F' fp' σ' H', Same F F' → Rel g Z B own F' fp' ρ' σ' H' → L2.wipe σ' sl = L2.wipe σ sl → Q σ' H'
abbrev DenG (X : Cx) (Z : Sg) (own : Own) (sl : List Nat) (tg : Expr) (f : Tg) : Prop := PG X tg (tG (gOf X) Z own sl f)
def tGs (g : Gb) (Z : Sg) (own : Own) (sl : List Nat) (f : List D → Rho → Option Rho) : TGs := fun vs σ H Q => ∃ B F fp ρ ds ρ', Rel g Z B own F fp ρ σ H ∧ DatL g F vs ds ∧ f ds ρ = some ρ' ∧ ∀ F' fp' σ' H', Same F F' → Rel g Z B own F' fp' ρ' σ' H' → L2.wipe σ' sl = L2.wipe σ sl → Q σ' H'
abbrev DenGs (X : Cx) (Z : Sg) (own : Own) (sl : List Nat) (tg : List Expr) (f : List D → Rho → Option Rho) : Prop := PGs X tg (tGs (gOf X) Z own sl f)
theorem PGimp {X : Cx} {e : Expr} {t t' : TG} (h : PG X e t) (i : ∀ v σ H Q, t' v σ H Q → t v σ H Q) : PG X e t' := ⟨fun pins s σ H v u Q I r q => h.run pins s σ H v u Q I r (i _ _ _ _ q)⟩
theorem PGsimp {X : Cx} {e : List Expr} {t t' : TGs} (h : PGs X e t) (i : ∀ v σ H Q, t' v σ H Q → t v σ H Q) : PGs X e t' := ⟨fun pins s σ H v u Q I r q => h.run pins s σ H v u Q I r (i _ _ _ _ q)⟩
theorem wipe_get {σ : St} {j : Nat} : ∀ {vs : List Nat}, (L2.wipe σ vs)[j]? = if j ∈ vs ∧ j < σ.length then some none else σ[j]?
  | [] => by simp [L2.wipe]
  | v :: vs => by
    unfold L2.wipe
    rw [List.getElem?_set, L2.wipe_length, wipe_get (vs := vs)]
    by_cases e : v = j
    · subst e
      by_cases h : v < σ.length
      · simp [h]
      · simp [h, List.getElem?_eq_none (Nat.le_of_not_lt h)]
    · have e' : ¬ j = v := fun z => e z.symm
      simp [e, e']
theorem wipe_set {σ : St} {i : Nat} {x : Option V} {vs : List Nat} (h : i ∈ vs) : L2.wipe (σ.set i x) vs = L2.wipe σ vs := by
  apply List.ext_getElem?
  intro j
  rw [wipe_get, wipe_get, List.length_set, List.getElem?_set]
  by_cases e : i = j
  · subst e
    by_cases hl : i < σ.length
    · simp [h, hl]
    · simp [hl, List.getElem?_eq_none (Nat.le_of_not_lt hl)]
  · simp [e]
section
variable {X : Cx} {Z : Sg} {own own' own1 ob : Own} {W : WX} {pos : Pos} {sl : List Nat}
def tgName (i : Nat) : Tg := fun d ρ => some (ρ.set i (some d))
theorem deg_name {i : Nat} {x : Str} (ho : own i = none) (hs : i ∈ sl) (hN : X.N.Nodup) (hi : X.N[i]? = some x) (hx : Loc X.env.scope x) (hf : X.fn x = true ∨ X.env.scope.names.lookup x = some .local := by first | exact .inl rfl | exact .inr rfl | assumption) :
    DenG X Z own sl (.Name x pos) (tgName i) := PGimp (pg_name hN hi hx hf) fun v σ H Q h => by
  obtain ⟨B, F, fp, ρ, d, ρ', R, hd, e, q⟩ := h
  cases e
  exact q F fp _ H (Same.refl _) (R.set ho hd) (wipe_set hs)
def tgNil : List D → Rho → Option Rho := fun ds ρ => match ds with
  | [] => some ρ
  | _ => none
def tgCons (f : Tg) (k : List D → Rho → Option Rho) : List D → Rho → Option Rho := fun ds ρ => match ds with
  | d :: r => (f d ρ).bind fun ρ' => k r ρ'
  | [] => none
theorem degs_nil : DenGs X Z own sl [] tgNil := PGsimp pgs_nil fun vs σ H Q h => by
  obtain ⟨B, F, fp, ρ, ds, ρ', R, hd, e, q⟩ := h
  cases hd with
  | nil =>
    cases e
    exact ⟨rfl, q F fp σ H (Same.refl _) R rfl⟩
  | cons _ _ => cases e
theorem degs_cons {e : Expr} {es : List Expr} {f : Tg} {k : List D → Rho → Option Rho} (h1 : DenG X Z own sl e f) (h2 : DenGs X Z own sl es k) (hs : (assignEach (e :: es) X.env).map (·.2) = assign e X.env :: (assignEach es X.env).map (·.2) := by rfl) : DenGs X Z own sl (e :: es) (tgCons f k) := PGsimp (pgs_cons h1 h2 hs) fun vs σ H Q h => by
  obtain ⟨B, F, fp, ρ, ds, ρ', R, hd, e, q⟩ := h
  cases hd with
  | nil => cases e
  | cons h t =>
    rename_i v d vs' ds'
    unfold tgCons at e
    dsimp only at e
    cases e1 : f d ρ with
    | none => rw [e1] at e; cases e
    | some ρ1 =>
      rw [e1] at e
      refine ⟨v, vs', rfl, B, F, fp, ρ, d, ρ1, R, h, e1, fun F1 fp1 σ1 H1 s1 R1 w1 => ?_⟩
      exact ⟨B, F1, fp1, ρ1, ds', ρ', R1, t.mono s1, e, fun F2 fp2 σ2 H2 s2 R2 w2 => q F2 fp2 σ2 H2 (s1.trans s2) R2 (w2.trans w1)⟩
def tgTup (n : Nat) (k : List D → Rho → Option Rho) : Tg := fun d ρ => match d with
  | .tup ds => if ds.length = n then k ds ρ else none
  | _ => none
theorem deg_tup {es : List Expr} {kk : Nat} {f : List D → Rho → Option Rho} {n : Nat} (hc : X.calm = true) (h : DenGs X Z own sl es f) (hn : (assignEach es X.env).length = n := by rfl) (hst : (assignEach es X.env).findIdx? (·.1) = none := by rfl) : DenG X Z own sl (.Tuple es kk pos) (tgTup n f) := PGimp (pg_tup hc h hn hst) fun v σ H Q hh => by
  obtain ⟨B, F, fp, ρ, d, ρ', R, hd, e, q⟩ := hh
  cases hd with
  | tup hs hl =>
    unfold tgTup at e
    dsimp only at e
    split at e
    · rename_i hlen
      exact ⟨_, _, rfl, Same.seqT R.sub hs, by rw [hl.length]; exact hlen, B, F, fp, ρ, _, ρ', R, hl, e, q⟩
    · cases e
  | _ => cases e

/-! ## what is walked -/
structure ItOk (g : Gb) (F : Hp) (J : It) (items : List D) : Prop where
  go : ∀ i H, Same F H → i < items.length → J.go i H
  yld : ∀ i F1 H x H', Same F F1 → Same F1 H → i < items.length → J.yld i H x H' → ∃ d F2, items[i]? = some d ∧ Grow F1 H F2 H' ∧ Dat g F2 x d
  stop : ∀ i H, Same F H → items.length ≤ i → J.stop i H
def tI (g : Gb) (Z : Sg) (own : Own) (W : WX) (f : E) : TI := fun σ H R => ∃ B F fp ρ, Rel g Z B own F fp ρ σ H ∧ match f ρ with
  | .ok d ρ' => ∃ items, d = .lst items ∧ ∀ F' fp' H' J, Same F F' → Rel g Z B own F' fp' ρ' σ H' → ItOk g F' J items → items.length ≤ sizeLine → R J H'
  | .ex e ρ' => ∀ F' fp' H' c dx, Same F F' → Rel g Z B own F' fp' ρ' σ H' → ExAt g F' H' c dx e → W c dx σ H'
  | .stk => False
abbrev DenI (X : Cx) (Z : Sg) (own : Own) (W : WX) (tg iter : Expr) (f : E) : Prop := PI X tg iter (tI (gOf X) Z own W f)
theorem PIimp {X : Cx} {tg e : Expr} {t t' : TI} (h : PI X tg e t) (i : ∀ σ H Q, t' σ H Q → t σ H Q) : PI X tg e t' := ⟨fun pins s σ H R I q => h.run pins s σ H R I (i _ _ _ q)⟩
theorem itOk_list {g : Gb} {F : Hp} {a : Addr} {vs : List V} {ds : List D} (h : SqL g.K F a vs) (hl : DatL g F vs ds) : ItOk g F (Itl g.K a) ds where
  go := fun i H s hi => by
    obtain ⟨v, hv⟩ : ∃ v, vs[i]? = some v := ⟨_, List.getElem?_eq_getElem (by rw [hl.length]; exact hi)⟩
    exact ⟨vs, v, s.seq h, hv⟩
  yld := fun i F1 H x H' s s1 hi hy => by
    obtain ⟨rfl, hx⟩ := hy
    obtain ⟨d, e, hd⟩ := hl.get' (hx vs (s1.seq (s.seq h)))
    exact ⟨d, F1, e, Grow.refl s1, hd.mono s⟩
  stop := fun i H s hi => ⟨vs, s.seq h, by rw [hl.length]; exact hi⟩
theorem itOk_tup {g : Gb} {F : Hp} {a : Addr} {vs : List V} {ds : List D} (h : SqT g.K F a vs) (hl : DatL g F vs ds) : ItOk g F (Itt g.K a) ds where
  go := fun i H s hi => by
    obtain ⟨v, hv⟩ : ∃ v, vs[i]? = some v := ⟨_, List.getElem?_eq_getElem (by rw [hl.length]; exact hi)⟩
    exact ⟨vs, v, Same.seqT s h, hv⟩
  yld := fun i F1 H x H' s s1 hi hy => by
    obtain ⟨rfl, hx⟩ := hy
    obtain ⟨d, e, hd⟩ := hl.get' (hx vs (Same.seqT s1 (Same.seqT s h)))
    exact ⟨d, F1, e, Grow.refl s1, hd.mono s⟩
  stop := fun i H s hi => ⟨vs, Same.seqT s h, by rw [hl.length]; exact hi⟩
def rangeD (lo : Int) (n : Nat) : List D := (List.range n).map fun i => .int (lo + (i : Nat))
theorem itOk_range {g : Gb} {F : Hp} (lo : Int) (n : Nat) : ItOk g F (Itr lo n) (rangeD lo n) where
  go := fun i H s hi => by
    show i < n
    simpa [rangeD] using hi
  yld := fun i F1 H x H' s s1 hi hy => by
    obtain ⟨rfl, rfl⟩ := hy
    refine ⟨.int (lo + (i : Nat)), F1, ?_, Grow.refl s1, .int _⟩
    simp [rangeD] at hi
    simp [rangeD, hi]
  stop := fun i H s hi => by
    show n ≤ i
    simpa [rangeD] using hi
/-- a value that is walked -/
def D.items : D → Option (List D)
  | .lst xs => some xs
  | .tup xs => some xs
  | _ => none
def eIter (f : E) : E := eBind f fun d ρ => match d.items with
  | some ds => .ok (.lst ds) ρ
  | none => .stk
theorem pi_seq {tg l : Expr} {tl : TE} (hl : PE X l tl) : PI X tg l (fun σ H R => tl σ H fun x H1 => Sized X.K H1 → (∃ a, x = .ref a ∧ (∃ xs, SqL X.K H1 a xs) ∧ R (Itl X.K a) H1) ∨ (∃ a, x = .ref a ∧ (∃ xs, SqT X.K H1 a xs) ∧ R (Itt X.K a) H1)) := by
  refine ⟨fun pins s σ H R I h => ?_⟩
  refine thn (hl.run pins s σ H _ I h) fun v s1 ⟨x, H1, I1, r1, q1⟩ => ?_
  rcases q1 (Inv.sized I1) with ⟨a, rfl, ⟨xs, hq⟩, q⟩ | ⟨a, rfl, ⟨xs, hq⟩, q⟩
  · cases r1
    obtain ⟨its, rv, p, hz⟩ := I1.list hq
    refine wpAny_pyIter_list p.isList ?_
    refine ⟨s1.heap.objs.size, [s1.heap.objs.size], _, _, H1, rfl, I1.kept (t' := s1.toks) fun b o e => Heap.get?_push_of_some _ e, turn_list a _, ⟨_, Heap.get?_push_size _ rfl, rfl, rfl⟩, fun b hb => ?_, q⟩
    have e : b = s1.heap.objs.size := by simpa using hb
    subst e
    exact I1.fpOk (Nat.le_refl _) (I1.hok.fresh (Nat.le_refl _))
  · cases r1
    obtain ⟨its, rv, p, hz⟩ := I1.tuple hq
    refine wpAny_pyIter_tuple (show s1.heap.IsTuple a its.toArray from p) ?_
    refine ⟨s1.heap.objs.size, [s1.heap.objs.size], _, _, H1, rfl, I1.kept (t' := s1.toks) fun b o e => Heap.get?_push_of_some _ e, turn_tuple a _, ⟨_, Heap.get?_push_size _ rfl, rfl, rfl⟩, fun b hb => ?_, q⟩
    have e : b = s1.heap.objs.size := by simpa using hb
    subst e
    exact I1.fpOk (Nat.le_refl _) (I1.hok.fresh (Nat.le_refl _))
/-- for x in e, e a list or a tuple that stands -/
theorem deni_seq {tg l : Expr} {f : E} (h : DenE X Z own W l f) : DenI X Z own W tg l (eIter f) := PIimp (pi_seq h) fun σ H Q hh => by
  obtain ⟨B, F, fp, ρ, R, P⟩ := hh
  refine ⟨B, F, fp, ρ, R, ?_⟩
  unfold eIter eBind Rs.bind at P
  cases e : f ρ with
  | ok d ρ' =>
    rw [e] at P
    intro F' fp' H' v s R' hd sz
    cases hd with
    | tup hs hl =>
      obtain ⟨items, e1, q⟩ := P
      cases e1
      exact .inr ⟨_, rfl, ⟨_, Same.seqT R'.sub hs⟩, q F' fp' H' _ s R' (itOk_tup hs hl) (by rw [← hl.length]; exact sz.2 _ _ (Same.seqT R'.sub hs))⟩
    | lst hs hl =>
      obtain ⟨items, e1, q⟩ := P
      cases e1
      exact .inl ⟨_, rfl, ⟨_, EVseq R'.sub hs⟩, q F' fp' H' _ s R' (itOk_list hs hl) (by rw [← hl.length]; exact sz.1 _ _ (EVseq R'.sub hs))⟩
    | _ => exact False.elim P
  | ex x ρ' => rw [e] at P; exact P
  | stk => rw [e] at P; exact P

/-! ## for -/
def forL (g : Tg) (b : S) : List D → S
  | [], ρ => .nx ρ
  | d :: ds, ρ => match g d ρ with
    | none => .stk
    | some ρ1 => match b ρ1 with
      | .nx ρ2 => forL g b ds ρ2
      | .ct ρ2 => forL g b ds ρ2
      | .bk ρ2 => .nx ρ2
      | r => r
def sFor (it : E) (g : Tg) (b : S) : S := sOf it fun d ρ => match d with
  | .lst ds => forL g b ds ρ
  | _ => .stk
theorem den_for {tg iter : Expr} {body : List Stmt} {fi : E} {fg : Tg} {fb : S} (hp : PassesOwn (model X.prog X.w) X.A X.env X.xe) (hc : X.calm = true) (hi : DenI X Z own W tg iter fi) (hg : DenG X Z own sl tg fg) (hb : DenSs X Z own own own W body fb)
    (hs : ∀ x, foldedSetIterable iter X.env x = pure x := by intro _; rfl) : DenS X Z own own ob W (.For tg iter body [] pos) (sFor fi fg fb) := PSimp (ps_for hp hc hi hg hb hs) fun D σ H h => by
  obtain ⟨B, F, fp, ρ, R, P⟩ := h
  refine ⟨B, F, fp, ρ, R, ?_⟩
  unfold sFor sOf at P
  cases e : fi ρ with
  | stk => rw [e] at P; exact P
  | ex x ρ' =>
    rw [e] at P
    intro F' fp' H' c dx s R' hx
    exact P F' fp' σ H' c dx own s R' hx
  | ok d ρ' =>
    rw [e] at P
    cases d with
    | lst items =>
      refine ⟨items, rfl, fun F1 fp1 H1 J s1 R1 ok _ => ?_⟩
      have P1 := tS_same s1 P
      dsimp only at P1
      refine ⟨fun i m σ2 H2 => m + i = items.length ∧ ∃ F2 fp2 ρ2, Same F1 F2 ∧ Rel (gOf X) Z B own F2 fp2 ρ2 σ2 H2 ∧
        (match forL fg fb (items.drop i) ρ2 with
          | .nx ρ' => ∀ F' fp' σ' H', Same F2 F' → Rel (gOf X) Z B own F' fp' ρ' σ' H' → D.nx σ' H'
          | .rt d ρ' => ∀ F' fp' σ' H' v o, Same F2 F' → Rel (gOf X) Z B o F' fp' ρ' σ' H' → (∀ p ∈ Z.ioN, o p.1 = some p.2) → RetAt (gOf X) Z B F' H' fp' v d → D.rt v H'
          | .bk ρ' => ∀ F' fp' σ' H', Same F2 F' → Rel (gOf X) Z B ob F' fp' ρ' σ' H' → D.bk σ' H'
          | .ct ρ' => ∀ F' fp' σ' H', Same F2 F' → Rel (gOf X) Z B ob F' fp' ρ' σ' H' → D.ct σ' H'
          | .ex e ρ' => ∀ F' fp' σ' H' c dx o, Same F2 F' → Rel (gOf X) Z B o F' fp' ρ' σ' H' → ExAt (gOf X) F' H' c dx e → W c dx σ' H'
          | .stk => False), ⟨items.length, by omega, F1, fp1, ρ', Same.refl _, R1, P1⟩, fun i m σ2 H2 hW => ?_⟩
      obtain ⟨hm, F2, fp2, ρ2, s2, R2, P2⟩ := hW
      by_cases hi' : i < items.length
      · refine .inr ⟨ok.go i H2 (s2.trans R2.sub) hi', fun σ3 H3 => i + 1 ≤ items.length ∧ ∃ F3 fp3 ρ3, Same F1 F3 ∧ Rel (gOf X) Z B own F3 fp3 ρ3 σ3 H3 ∧
          (match forL fg fb (items.drop (i + 1)) ρ3 with
          | .nx ρ' => ∀ F' fp' σ' H', Same F3 F' → Rel (gOf X) Z B own F' fp' ρ' σ' H' → D.nx σ' H'
          | .rt d ρ' => ∀ F' fp' σ' H' v o, Same F3 F' → Rel (gOf X) Z B o F' fp' ρ' σ' H' → (∀ p ∈ Z.ioN, o p.1 = some p.2) → RetAt (gOf X) Z B F' H' fp' v d → D.rt v H'
          | .bk ρ' => ∀ F' fp' σ' H', Same F3 F' → Rel (gOf X) Z B ob F' fp' ρ' σ' H' → D.bk σ' H'
          | .ct ρ' => ∀ F' fp' σ' H', Same F3 F' → Rel (gOf X) Z B ob F' fp' ρ' σ' H' → D.ct σ' H'
          | .ex e ρ' => ∀ F' fp' σ' H' c dx o, Same F3 F' → Rel (gOf X) Z B o F' fp' ρ' σ' H' → ExAt (gOf X) F' H' c dx e → W c dx σ' H'
          | .stk => False), fun σ3 H3 ⟨hl, F3, fp3, ρ3, q⟩ => ⟨m - 1, by omega, by omega, F3, fp3, ρ3, q⟩, fun x H' hy => ?_⟩
        obtain ⟨d, F3, ed, G, hx⟩ := ok.yld i F2 H2 x H' s2 R2.sub hi' hy
        have ei : items.drop i = d :: items.drop (i + 1) := by
          rw [List.drop_eq_getElem_cons hi']
          rw [List.getElem?_eq_getElem hi'] at ed
          rw [Option.some.inj ed]
        rw [ei] at P2
        unfold forL at P2
        cases eg : fg d ρ2 with
        | none => rw [eg] at P2; exact P2.elim
        | some ρ3 =>
          rw [eg] at P2
          dsimp only at P2
          refine ⟨B, F3, fp2, ρ2, d, ρ3, R2.grow G, hx, eg, fun F4 fp4 σ4 H4 s4 R4 _ => ?_⟩
          refine ⟨B, F4, fp4, ρ3, R4, ?_⟩
          have s24 : Same F2 F4 := G.ff.trans s4
          cases eb : fb ρ3 with
          | nx ρ4 =>
            rw [eb] at P2
            intro F5 fp5 σ5 H5 s5 R5
            exact ⟨by omega, F5, fp5, ρ4, (s2.trans s24).trans s5, R5, tS_same (s24.trans s5) P2⟩
          | ct ρ4 =>
            rw [eb] at P2
            intro F5 fp5 σ5 H5 s5 R5
            exact ⟨by omega, F5, fp5, ρ4, (s2.trans s24).trans s5, R5, tS_same (s24.trans s5) P2⟩
          | bk ρ4 =>
            rw [eb] at P2
            intro F5 fp5 σ5 H5 s5 R5
            exact P2 F5 fp5 σ5 H5 (s24.trans s5) R5
          | rt d2 ρ4 =>
            rw [eb] at P2
            exact fun F5 fp5 σ5 H5 v o s5 R5 => P2 F5 fp5 σ5 H5 v o (s24.trans s5) R5
          | ex x2 ρ4 =>
            rw [eb] at P2
            exact fun F5 fp5 σ5 H5 c dx o s5 R5 => P2 F5 fp5 σ5 H5 c dx o (s24.trans s5) R5
          | stk => rw [eb] at P2; exact P2
      · have ei : items.drop i = [] := List.drop_of_length_le (by omega)
        rw [ei] at P2
        exact .inl ⟨ok.stop i H2 (s2.trans R2.sub) (by omega), P2 F2 fp2 σ2 H2 (Same.refl _) R2⟩
    | _ => exact P.elim
end
end EV
namespace EV
open PySem PySem.Spec PyProof.Rows L2

/-! ## arguments -/
inductive RL where
  | ok (ds : List D) (ρ : Rho) | ex (e : Exn) (ρ : Rho) | stk
def eArgs : List E → Rho → RL
  | [], ρ => .ok [] ρ
  | a :: r, ρ => match a ρ with
    | .ok d ρ1 => match eArgs r ρ1 with
      | .ok ds ρ2 => .ok (d :: ds) ρ2
      | .ex e ρ2 => .ex e ρ2
      | .stk => .stk
    | .ex e ρ1 => .ex e ρ1
    | .stk => .stk
theorem eArgs_len : ∀ {fs : List E} {ρ ρ' : Rho} {ds : List D}, eArgs fs ρ = .ok ds ρ' → ds.length = fs.length
  | [], ρ, ρ', ds, h => by unfold eArgs at h; cases h; rfl
  | a :: r, ρ, ρ', ds, h => by
    unfold eArgs at h
    cases e : a ρ with
    | ok d ρ1 =>
      rw [e] at h
      dsimp only at h
      cases e2 : eArgs r ρ1 with
      | ok ds2 ρ2 =>
        rw [e2] at h
        cases h
        rw [List.length_cons, List.length_cons, eArgs_len e2]
      | ex x ρ2 => rw [e2] at h; cases h
      | stk => rw [e2] at h; cases h
    | ex x ρ1 => rw [e] at h; cases h
    | stk => rw [e] at h; cases h
def tA (g : Gb) (Z : Sg) (own : Own) (W : WX) (fs : List E) : TA := fun σ H Q => ∃ B F fp ρ, Rel g Z B own F fp ρ σ H ∧ match eArgs fs ρ with
  | .ok ds ρ' => ∀ F' fp' H' vs, Same F F' → Rel g Z B own F' fp' ρ' σ H' → DatL g F' vs ds → Q vs H'
  | .ex e ρ' => ∀ F' fp' H' c dx, Same F F' → Rel g Z B own F' fp' ρ' σ H' → ExAt g F' H' c dx e → W c dx σ H'
  | .stk => False
abbrev DenA (X : Cx) (Z : Sg) (own : Own) (W : WX) (es : List Expr) (fs : List E) : Prop := PA X es (tA (gOf X) Z own W fs)
theorem PAimp {X : Cx} {es : List Expr} {t t' : TA} (h : PA X es t) (i : ∀ σ H Q, t' σ H Q → t σ H Q) : PA X es t' := ⟨fun pos pins s σ H Q I q => h.run pos pins s σ H Q I (i _ _ _ q)⟩
section
variable {X : Cx} {Z : Sg} {own own' own1 ob : Own} {W : WX} {pos : Pos} {sl : List Nat}
theorem dena_nil : DenA X Z own W [] [] := PAimp pa_nil fun σ H Q h => by
  obtain ⟨B, F, fp, ρ, R, P⟩ := h
  exact P F fp H [] (Same.refl _) R .nil
theorem dena_cons {e : Expr} {es : List Expr} {f : E} {fs : List E} (ha : DenE X Z own W e f) (hr : DenA X Z own W es fs) (hs : starEach (e :: es) X.env = (false, eval e X.env) :: starEach es X.env := by rfl) : DenA X Z own W (e :: es) (f :: fs) :=
  PAimp (pa_cons ha hr hs) fun σ H Q h => by
  obtain ⟨B, F, fp, ρ, R, P⟩ := h
  refine ⟨B, F, fp, ρ, R, ?_⟩
  unfold eArgs at P
  cases e1 : f ρ with
  | ok d ρ1 =>
    rw [e1] at P
    dsimp only at P
    intro F1 fp1 H1 v s1 R1 hd
    refine ⟨B, F1, fp1, ρ1, R1, ?_⟩
    cases e2 : eArgs fs ρ1 with
    | ok ds ρ2 =>
      rw [e2] at P
      intro F2 fp2 H2 vs s2 R2 hds
      exact P F2 fp2 H2 (v :: vs) (s1.trans s2) R2 (.cons (hd.mono s2) hds)
    | ex x ρ2 =>
      rw [e2] at P
      intro F2 fp2 H2 c dx s2 R2 hx
      exact P F2 fp2 H2 c dx (s1.trans s2) R2 hx
    | stk => rw [e2] at P; exact P
  | ex x ρ1 => rw [e1] at P; exact P
  | stk => rw [e1] at P; exact P

/-- arguments, then a function of them -/
def eWith (fs : List E) (k : List D → E) : E := fun ρ => match eArgs fs ρ with
  | .ok ds ρ' => k ds ρ'
  | .ex e ρ' => .ex e ρ'
  | .stk => .stk
theorem withR {g : Gb} {B : Bs} {fs : List E} {k : List D → E} {F : Hp} {fp : Nat → List Addr} {ρ : Rho} {σ : St} {H : Hp} {Q : VK} {R : List V → Hp → Prop}
    (R0 : Rel g Z B own F fp ρ σ H) (P : RPost g Z B own W σ F (eWith fs k ρ) Q)
    (hk : ∀ F1 fp1 ρ1 ds vs H1, Same F F1 → Rel g Z B own F1 fp1 ρ1 σ H1 → DatL g F1 vs ds → ds.length = fs.length → RPost g Z B own W σ F1 (k ds ρ1) Q → R vs H1) : tA g Z own W fs σ H R := by
  refine ⟨B, F, fp, ρ, R0, ?_⟩
  unfold eWith at P
  cases e : eArgs fs ρ with
  | ok ds ρ1 =>
    rw [e] at P
    intro F1 fp1 H1 vs s R1 hd
    refine hk F1 fp1 ρ1 ds vs H1 s R1 hd (eArgs_len e) ?_
    dsimp only at P
    cases e2 : k ds ρ1 with
    | ok d2 ρ2 =>
      rw [e2] at P
      intro F2 fp2 H2 v2 s2 R2 hd2
      exact P F2 fp2 H2 v2 (s.trans s2) R2 hd2
    | ex x ρ2 =>
      rw [e2] at P
      intro F2 fp2 H2 c dx s2 R2 hx
      exact P F2 fp2 H2 c dx (s.trans s2) R2 hx
    | stk => rw [e2] at P; exact P
  | ex x ρ1 => rw [e] at P; exact P
  | stk => rw [e] at P; exact P

/-! ## displays -/
def eTup (fs : List E) : E := eWith fs fun ds ρ => .ok (.tup ds) ρ
def eLst (fs : List E) : E := eWith fs fun ds ρ => .ok (.lst ds) ρ
theorem den_tup {es : List Expr} {fs : List E} {x1} (h : DenA X Z own W es fs) (hz : fs.length ≤ sizeLine := by decide) : DenE X Z own W (.Tuple es x1 pos) (eTup fs) := PEimp (pe_tup h) fun σ H Q hh => by
  obtain ⟨B, F, fp, ρ, R, P⟩ := hh
  refine withR R P fun F1 fp1 ρ1 ds vs H1 s1 R1 hd hl P1 => ⟨by rw [hd.length, hl]; exact hz, fun p np => ?_⟩
  exact (RPost.yields R1 P1).push R1.sub np (.tup (.inl (.inl upd_same)) (hd.mono (same_upd (R1.sub.free np))))
theorem den_lst {es : List Expr} {fs : List E} (h : DenA X Z own W es fs) (hz : fs.length ≤ sizeLine := by decide) : DenE X Z own W (.List es pos) (eLst fs) := PEimp (pe_lst h) fun σ H Q hh => by
  obtain ⟨B, F, fp, ρ, R, P⟩ := hh
  refine withR R P fun F1 fp1 ρ1 ds vs H1 s1 R1 hd hl P1 => ⟨by rw [hd.length, hl]; exact hz, fun p np => ?_⟩
  exact (RPost.yields R1 P1).push R1.sub np (.lst (.inl (.inl upd_same)) (hd.mono (same_upd (R1.sub.free np))))
/-- what is new, owned -/
theorem freshNew {g : Gb} {B : Bs} {F : Hp} {fp : Nat → List Addr} {ρ : Rho} {σ : St} {H : Hp} (R : Rel g Z B own F fp ρ σ H) {p : Addr} (np : H p = none) : Fresh B own F fp [p] where
  out := fun a ha => by
    simp at ha; subst ha
    refine ⟨R.sub.free np, ?_⟩
    cases q : B.H0 a with
    | none => rfl
    | some o => exact absurd np (R.tr a (by rw [q]; simp))
  dis := fun a ha i ho hm => by
    simp at ha; subst ha
    exact (R.out i a ho hm).2.1 np
theorem deno_lst {es : List Expr} {fs : List E} (h : DenA X Z own W es fs) (hz : fs.length ≤ sizeLine := by decide) : DenO X Z own W .lst (.List es pos) (eLst fs) := PEimp (pe_lst h) fun σ H Q hh => by
  obtain ⟨B, F, fp, ρ, R, P⟩ := hh
  refine ⟨B, F, fp, ρ, R, ?_⟩
  unfold eLst eWith at P
  cases e : eArgs fs ρ with
  | ok ds ρ1 =>
    rw [e] at P
    dsimp only at P ⊢
    intro F1 fp1 H1 vs s1 R1 hd
    refine ⟨by rw [hd.length, eArgs_len e]; exact hz, fun p np => ?_⟩
    have fr := freshNew R1 np
    exact P F1 fp1 _ _ [p] s1 (R1.growH (same_upd np)) (.lst upd_same hd) ⟨fr.out, fr.dis⟩
  | ex x ρ1 => rw [e] at P; exact P
  | stk => rw [e] at P; exact P
theorem notPin {g : Gb} {B : Bs} {F : Hp} {fp : Nat → List Addr} {ρ : Rho} {σ : St} {H : Hp} (R : Rel g Z B own F fp ρ σ H) {i : Nat} (h : Z.pinS i = false) : ∀ p ∈ B.pins, p.1 ≠ i := fun p hp e => by
  have := R.pinZ p hp
  rw [e] at this
  rw [h] at this
  cases this
/-- x = what is new and owned -/
theorem setF_id {α : Type} {f : Nat → α} {i : Nat} {x : α} (h : f i = x) : setF f i x = f := by
  funext j
  by_cases e : j = i
  · subst e; rw [setF_same, h]
  · rw [setF_ne e]
theorem den_setO {i : Nat} {x : Str} {e : Expr} {f : E} {sh : Sh} {pos' : Pos} (ho : own i = some sh) (np : Z.ioX.all (fun p => p.1 != i) = true) (hN : X.N.Nodup) (hi : X.N[i]? = some x) (hx : Loc X.env.scope x) (he : DenO X Z own W sh e f)
    (hp : Z.pinS i = false)
    (hs : swapsWith e (some (.Name x pos')) pos.line X.env = pure false := by rfl)
    (hf : X.fn x = true ∨ X.env.scope.names.lookup x = some .local := by first | exact .inl rfl | exact .inr rfl | assumption) : DenS X Z own own ob W (.Assign [.Name x pos'] e pos) (sSet i f) := PSimp (ps_set hN hi hx he hs hf) fun D σ H h => by
  obtain ⟨B, F, fp, ρ, R, P⟩ := h
  refine ⟨B, F, fp, ρ, R, ?_⟩
  unfold sSet sOf at P
  cases e1 : f ρ with
  | ok d ρ1 =>
    rw [e1] at P
    dsimp only at P ⊢
    intro F1 fp1 H1 v O s1 R1 hO fr
    refine P F1 (setF fp1 i O) (σ.set i (some v)) H1 s1 ?_
    have := R1.setO (i := i) (notPin R1 hp) (fun p hp' => by simpa using List.all_eq_true.mp np p hp') hO fr
    rw [setF_id ho] at this
    exact this
  | ex x ρ1 =>
    rw [e1] at P
    intro F' fp' H' c dx s R' hx
    exact P F' fp' σ H' c dx own s R' hx
  | stk => rw [e1] at P; exact P
end
end EV
namespace EV
open PySem PySem.Spec PyProof.Rows L2

/-! ## what a def promises -/
inductive FOut where
  | ok (d : D) (ios : List (Nat × D)) | ex (e : Exn) (ios : List (Nat × D)) | stk
/-- a def's signature: how many parameters, those that it may change -/
structure Sig where
  np : Nat
  io : List (Nat × Sh)
  ioN : List (Nat × Sh)
  ioX : List (Nat × Sh)
  ret : Option Sh
def IoAt (g : Gb) (F H : Hp) (io : List (Nat × Sh)) (vs : List V) (fp : Nat → List Addr) (ios : List (Nat × D)) : Prop := ∀ p ∈ io, ∃ v d, vs[p.1]? = some v ∧ ios.lookup p.1 = some d ∧ OwnAt g F H (fp p.1) v d p.2
structure End (io0 io : List (Nat × Sh)) (F H : Hp) (fp : Nat → List Addr) (F' H' : Hp) (fp' : Nat → List Addr) : Prop where
  ff : Same F F'
  fh : Same F' H'
  new : ∀ a o, F' a = some o → F a = some o ∨ H a = none
  keep : ∀ a o, H a = some o → (∀ p ∈ io0, a ∉ fp p.1) → H' a = some o
  tr : ∀ a, H a ≠ none → H' a ≠ none
  out : ∀ p ∈ io, ∀ a ∈ fp' p.1, F' a = none ∧ (H a = none ∨ (a ∈ fp p.1 ∧ ∃ q ∈ io0, q.1 = p.1))
  dis : ∀ p ∈ io, ∀ q ∈ io, p.1 ≠ q.1 → ∀ a ∈ fp' p.1, a ∉ fp' q.1
def RetF (g : Gb) (ret : Option Sh) (io : List (Nat × Sh)) (F H F' H' : Hp) (fp' : Nat → List Addr) (v : V) (d : D) : Prop := match ret with
  | none => Dat g F' v d
  | some sh => ∃ O, OwnAt g F' H' O v d sh ∧ (∀ a ∈ O, F' a = none ∧ H a = none) ∧ ∀ p ∈ io, ∀ a ∈ fp' p.1, a ∉ O
def FPost (g : Gb) (s : Sig) (vs : List V) (F H : Hp) (fp : Nat → List Addr) (r : FOut) (Q : VK) (E : XK) : Prop := match r with
  | .ok d ios => ∀ F' H' fp' v, End s.io s.ioN F H fp F' H' fp' → IoAt g F' H' s.ioN vs fp' ios → RetF g s.ret s.ioN F H F' H' fp' v d → Q v H'
  | .ex e ios => ∀ F' H' fp' c dx, End s.io s.ioX F H fp F' H' fp' → IoAt g F' H' s.ioX vs fp' ios → ExAt g F' H' c dx e → E c dx H'
  | .stk => False
structure Ins (g : Gb) (s : Sig) (vs : List V) (F H : Hp) (ds : List D) (fp : Nat → List Addr) : Prop where
  len : ds.length = s.np
  sub : Same F H
  frz : ∀ i v d, vs[i]? = some v → ds[i]? = some d → s.io.lookup i = none → Dat g F v d
  own : ∀ p ∈ s.io, ∃ v d, vs[p.1]? = some v ∧ ds[p.1]? = some d ∧ OwnAt g F H (fp p.1) v d p.2
  out : ∀ p ∈ s.io, ∀ a ∈ fp p.1, F a = none
  dis : ∀ p ∈ s.io, ∀ q ∈ s.io, p.1 ≠ q.1 → ∀ a ∈ fp p.1, a ∉ fp q.1
def Prm (g : Gb) (s : Sig) (f : List D → FOut) : Sp := fun vs H Q E => vs.length = s.np ∧ ∃ F ds fp, Ins g s vs F H ds fp ∧ FPost g s vs F H fp (f ds) Q E

/-- how a body's result is a def's -/
def iosOf (io : List (Nat × Sh)) (ρ : Rho) : List (Nat × D) := io.filterMap fun p => match ρ[p.1]? with
  | some (some d) => some (p.1, d)
  | _ => none
def fin (s : Sig) (r : Out) : FOut := match r with
  | .nx ρ => match s.ret with
    | none => .ok .non (iosOf s.ioN ρ)
    | some _ => .stk
  | .rt d ρ => .ok d (iosOf s.ioN ρ)
  | .ex e ρ => .ex e (iosOf s.ioX ρ)
  | _ => .stk
def st0 (n : Nat) (ds : List D) : Rho := ds.map some ++ List.replicate (n - ds.length) none
/-- a def's function -/
def fnD (n : Nat) (s : Sig) (b : S) : List D → FOut := fun ds => fin s (b (st0 n ds))
def sgOf (s : Sig) : Sg := ⟨s.ioN, s.ioX, s.ret, fun i => s.io.any fun p => p.1 == i⟩

theorem iosOf_lookup {io : List (Nat × Sh)} {ρ : Rho} (h : ∀ p ∈ io, ∃ d, ρ[p.1]? = some (some d)) (nd : (io.map (·.1)).Nodup) : ∀ p ∈ io, ∀ d, ρ[p.1]? = some (some d) → (iosOf io ρ).lookup p.1 = some d := by
  induction io with
  | nil => intro p hp; simp at hp
  | cons q r ih =>
    intro p hp d hd
    obtain ⟨d0, h0⟩ := h q (by simp)
    have e : iosOf (q :: r) ρ = (q.1, d0) :: iosOf r ρ := by
      unfold iosOf
      rw [List.filterMap_cons, h0]
    rw [e]
    rw [List.map_cons, List.nodup_cons] at nd
    rcases List.mem_cons.mp hp with rfl | hp
    · rw [h0] at hd; cases hd
      simp [List.lookup]
    · have ne : (p.1 == q.1) = false := by
        rw [beq_eq_false_iff_ne]
        intro z
        exact nd.1 (z ▸ List.mem_map_of_mem (f := (·.1)) hp)
      rw [List.lookup_cons, ne]
      exact ih (fun p hp => h p (List.mem_cons_of_mem _ hp)) nd.2 p hp d hd
theorem lk_mem {β : Type} : ∀ {l : List (Nat × β)} {i : Nat} {b : β}, l.lookup i = some b → (i, b) ∈ l
  | [], _, _, h => by simp at h
  | (j, c) :: r, i, b, h => by
    rw [List.lookup_cons] at h
    split at h
    · rename_i e
      cases h
      have : i = j := by simpa using e
      subst this
      simp
    · exact List.mem_cons_of_mem _ (lk_mem h)
theorem lk_some {β : Type} : ∀ {l : List (Nat × β)} {p : Nat × β}, p ∈ l → ∃ b, l.lookup p.1 = some b
  | [], _, h => by simp at h
  | (j, c) :: r, p, h => by
    rw [List.lookup_cons]
    split
    · exact ⟨c, rfl⟩
    · rename_i e
      rcases List.mem_cons.mp h with rfl | h
      · simp at e
      · exact lk_some h
section
variable {P : Program} {w : World} {K : PySem.W.Frag} {mg : Str → Option Value} {base : Heap}
/-- THE RULE of a def -/
theorem fn_ok {x qual : Str} {st : Stmt} {f : Addr} {fd : FuncData} {N ps : List Str} {k : Nat} {s : Sig} {own own' : Own} {b : S} (F : Fun K x qual st f fd) (S0 : FnScope N ps (defScope st)) (hn : ps.length = s.np) (hN : ps.length ≤ N.length)
    (ho : ∀ p ∈ s.io, own p.1 = some p.2) (hx : ∀ p ∈ s.ioX, own p.1 = some p.2) (hq : ∀ i, own i ≠ none → i < s.np → ∃ p ∈ s.io, p.1 = i) (hnd : (s.io.map (·.1)).Nodup) (hlt : ∀ p ∈ s.io, p.1 < s.np)
    (hnN : (s.ioN.map (·.1)).Nodup) (hnX : (s.ioX.map (·.1)).Nodup) (hsN : ∀ p ∈ s.ioN, ∃ q ∈ s.io, q.1 = p.1) (hsX : ∀ p ∈ s.ioX, ∃ q ∈ s.io, q.1 = p.1) (hnx : s.ret = none → ∀ p ∈ s.ioN, own' p.1 = some p.2)
    (hbody : ∀ (cdv : Value) (A : Around) (outer : List Env) (s0 : Shared) (H : Hp) (E : XK), Room k (cxOf (L2.CX P w) P w K mg base N qual (defScope st) f cdv A outer s0 H E).A →
      DenSs (cxOf (L2.CX P w) P w K mg base N qual (defScope st) f cdv A outer s0 H E) (sgOf s) own own' own (fun c d _ H => E c d H) (defBody st) b) :
    FnOk P w K mg base (L2.CX P w) (k + 1) f fd ps (Prm ⟨K, mg, w⟩ s (fnD N.length s b)) := by
  refine F.okX S0 (fun vs H Q E h => h.1.trans hn.symm) fun cdv A outer s0 H vs Q E hr hsp => ⟨_, hbody cdv A outer s0 H E hr, ?_⟩
  obtain ⟨hl, Fz, ds, fp, I, P⟩ := hsp
  have lens : vs.length = ds.length := hl.trans I.len.symm
  have getSt : ∀ i d, (st0 N.length ds)[i]? = some (some d) → i < s.np ∧ ds[i]? = some d := fun i d e => by
    unfold st0 at e
    rw [List.getElem?_append] at e
    split at e
    · rename_i hlt
      rw [List.length_map] at hlt
      rw [List.getElem?_map, Option.map_eq_some_iff] at e
      obtain ⟨d', h1, h2⟩ := e
      cases h2
      exact ⟨I.len ▸ hlt, h1⟩
    · rw [List.getElem?_replicate] at e
      split at e <;> cases e
  have vsAt : ∀ i, i < s.np → ∃ v, vs[i]? = some v := fun i h => ⟨_, List.getElem?_eq_getElem (by rw [hl]; exact h)⟩
  have startAt : ∀ i v, vs[i]? = some v → (L2.start N vs)[i]? = some (some v) := fun i v e => by
    have := (List.getElem?_eq_some_iff.mp e).1
    unfold L2.start
    rw [List.getElem?_append_left (by rw [List.length_map]; exact this), List.getElem?_map, e]; rfl
  have ioLook : ∀ i sh, s.io.lookup i = some sh → (i, sh) ∈ s.io := fun i sh e => lk_mem e
  have hpins : ∀ p ∈ s.io.map (fun p => (p.1, vs.getD p.1 .non)), ∃ q ∈ s.io, q.1 = p.1 ∧ vs[p.1]? = some p.2 := fun p hp => by
    obtain ⟨q, hq', rfl⟩ := List.mem_map.mp hp
    obtain ⟨v, e⟩ := vsAt q.1 (hlt q hq')
    exact ⟨q, hq', rfl, by rw [List.getD_eq_getElem?_getD, e]; rfl⟩
  have pinOf : ∀ q ∈ s.io, ∃ p ∈ s.io.map (fun p => (p.1, vs.getD p.1 .non)), p.1 = q.1 := fun q hq' => ⟨_, List.mem_map_of_mem hq', rfl⟩
  have fp0io : ∀ p ∈ s.io, (fun i => if (s.io.lookup i).isSome then fp i else []) p.1 = fp p.1 := fun p hp => by
    obtain ⟨b, e⟩ := lk_some hp
    show (if (s.io.lookup p.1).isSome then fp p.1 else []) = fp p.1
    rw [e]; rfl
  have fp0mem : ∀ i a, a ∈ (fun i => if (s.io.lookup i).isSome then fp i else []) i → ∃ p ∈ s.io, p.1 = i ∧ a ∈ fp i := fun i a ha => by
    have ha' : a ∈ (if (s.io.lookup i).isSome then fp i else []) := ha
    cases e : s.io.lookup i with
    | none => rw [e] at ha'; simp at ha'
    | some sh => rw [e] at ha'; exact ⟨_, ioLook i sh e, rfl, by simpa using ha'⟩
  refine ⟨⟨Fz, H, fp, s.io.map fun p => (p.1, vs.getD p.1 .non)⟩, Fz, fun i => if (s.io.lookup i).isSome then fp i else [], st0 N.length ds, ?_, ?_⟩
  · refine ⟨?_, I.sub, fun i d e n => ?_, fun i sh d n e => ?_, fun i a n ha => ?_, fun i j a ni nj ne ha hb => ?_, Same.refl _, fun a o h => .inl h, fun a o h _ => h, fun a h => h, fun p hp => ?_, fun p hp => ?_, fun p hp => ?_, fun p hp => ?_, hx⟩
    · unfold L2.start st0
      simp [lens]
    · obtain ⟨hi, e1⟩ := getSt i d e
      obtain ⟨v, e2⟩ := vsAt i hi
      refine ⟨v, startAt i v e2, I.frz i v d e2 e1 ?_⟩
      cases q : s.io.lookup i with
      | none => rfl
      | some sh => have := ho _ (ioLook i sh q); rw [n] at this; cases this
    · obtain ⟨hi, e1⟩ := getSt i d e
      obtain ⟨p, hp, rfl⟩ := hq i (by rw [n]; simp) hi
      obtain ⟨v, d', e2, e3, hO⟩ := I.own p hp
      rw [e1] at e3; cases e3
      have := ho p hp
      rw [n] at this; cases this
      refine ⟨v, startAt _ v e2, ?_⟩
      have e4 := fp0io p hp
      dsimp only at e4
      rw [e4]; exact hO
    · obtain ⟨p, hp, rfl, ha'⟩ := fp0mem i a ha
      obtain ⟨v, d', e2, e3, hO⟩ := I.own p hp
      obtain ⟨q, hq', e⟩ := pinOf p hp
      exact ⟨I.out p hp a ha', hO.there a ha', .inr ⟨ha', q, hq', e⟩⟩
    · obtain ⟨p, hp, rfl, ha'⟩ := fp0mem i a ha
      obtain ⟨q, hq', rfl, hb'⟩ := fp0mem j a hb
      exact I.dis p hp q hq' ne a ha' hb'
    · obtain ⟨q, hq', e, e2⟩ := hpins p hp
      exact startAt _ _ e2
    · obtain ⟨q, hq', e, e2⟩ := hpins p hp
      have e3 : own p.1 = some q.2 := by rw [← e]; exact ho q hq'
      show own p.1 ≠ none
      rw [e3]; simp
    · obtain ⟨q, hq', e, e2⟩ := hpins p hp
      show s.io.any (fun q => q.1 == p.1) = true
      exact List.any_eq_true.mpr ⟨q, hq', by simp [e]⟩
    · obtain ⟨q, hq', e, e2⟩ := hpins p hp
      obtain ⟨v, d', e2, e3, hO⟩ := I.own q hq'
      refine ⟨d', ?_⟩
      rw [← e]
      unfold st0
      rw [List.getElem?_append_left (by rw [List.length_map]; exact (List.getElem?_eq_some_iff.mp e3).1), List.getElem?_map, e3]; rfl
  · -- the ends
    have mkEnd : ∀ (io : List (Nat × Sh)) (o : Own) (F' H' : Hp) (fp' : Nat → List Addr) (ρ' : Rho) (σ' : St), (∀ p ∈ io, ∃ q ∈ s.io, q.1 = p.1) → (∀ p ∈ io, o p.1 = some p.2) →
        Rel ⟨K, mg, w⟩ (sgOf s) ⟨Fz, H, fp, s.io.map fun p => (p.1, vs.getD p.1 .non)⟩ o F' fp' ρ' σ' H' → End s.io io Fz H fp F' H' fp' := fun io o F' H' fp' ρ' σ' hs hoo R =>
      ⟨R.ext, R.sub, R.new, fun a o' e n => R.keep a o' e (fun p hp => by
        obtain ⟨q, hq', e', _⟩ := hpins p hp
        show a ∉ fp p.1
        rw [← e']; exact n q hq'), R.tr, fun p hp a ha => by
        obtain ⟨h1, h2, h3⟩ := R.out p.1 a (by rw [hoo p hp]; simp) ha
        refine ⟨h1, ?_⟩
        rcases h3 with h3 | ⟨h3, q, hq', e'⟩
        · exact .inl h3
        · obtain ⟨q2, hq2, e2⟩ := hs p hp
          exact .inr ⟨h3, q2, hq2, e2⟩, fun p hp q hq' ne a ha => R.dis p.1 q.1 a (by rw [hoo p hp]; simp) (by rw [hoo q hq']; simp) ne ha⟩
    have mkIo : ∀ (io : List (Nat × Sh)) (o : Own) (F' H' : Hp) (fp' : Nat → List Addr) (ρ' : Rho) (σ' : St), (io.map (·.1)).Nodup → (∀ p ∈ io, ∃ q ∈ s.io, q.1 = p.1) → (∀ p ∈ io, o p.1 = some p.2) →
        Rel ⟨K, mg, w⟩ (sgOf s) ⟨Fz, H, fp, s.io.map fun p => (p.1, vs.getD p.1 .non)⟩ o F' fp' ρ' σ' H' → IoAt ⟨K, mg, w⟩ F' H' io vs fp' (iosOf io ρ') := fun io o F' H' fp' ρ' σ' nd hs hoo R p hp => by
      have some_d : ∀ p ∈ io, ∃ d, ρ'[p.1]? = some (some d) := fun p hp => by
        obtain ⟨q, hq', e⟩ := hs p hp
        obtain ⟨z, hz, ez⟩ := pinOf q hq'
        have := R.pind z hz
        rw [ez, e] at this
        exact this
      obtain ⟨d, hd⟩ := some_d p hp
      obtain ⟨v, hv, hO⟩ := R.ownd p.1 p.2 d (hoo p hp) hd
      obtain ⟨q, hq', e⟩ := hs p hp
      obtain ⟨z, hz, ez⟩ := pinOf q hq'
      have e1 := R.pin z hz
      rw [ez, e, hv] at e1
      cases e1
      obtain ⟨_, _, _, e3⟩ := hpins z hz
      rw [ez, e] at e3
      exact ⟨z.2, d, e3, iosOf_lookup some_d nd p hp d hd, hO⟩
    have P' : FPost ⟨K, mg, w⟩ s vs Fz H fp (fin s (b (st0 N.length ds))) Q E := P
    cases e : b (st0 N.length ds) with
    | nx ρ' =>
      rw [e] at P'
      unfold fin at P'
      dsimp only at P'
      cases er : s.ret with
      | some sh => rw [er] at P'; exact P'.elim
      | none =>
        rw [er] at P'
        intro F' fp' σ' H' ss R'
        exact P' F' H' fp' .non (mkEnd _ _ _ _ _ _ _ hsN (hnx er) R') (mkIo _ _ _ _ _ _ _ hnN hsN (hnx er) R') (by unfold RetF; rw [er]; exact .non)
    | rt d ρ' =>
      rw [e] at P'
      intro F' fp' σ' H' v o ss R' hoo hr'
      refine P' F' H' fp' v (mkEnd _ _ _ _ _ _ _ hsN hoo R') (mkIo _ _ _ _ _ _ _ hnN hsN hoo R') ?_
      unfold RetAt at hr'
      unfold RetF
      have es : (sgOf s).ret = s.ret := rfl
      rw [es] at hr'
      cases er : s.ret with
      | none => rw [er] at hr'; exact hr'
      | some sh => rw [er] at hr'; exact hr'
    | bk ρ' => rw [e] at P'; exact P'.elim
    | ct ρ' => rw [e] at P'; exact P'.elim
    | ex x ρ' =>
      rw [e] at P'
      intro F' fp' σ' H' c dx o ss R' hx'
      exact P' F' H' fp' c dx (mkEnd _ _ _ _ _ _ _ hsX R'.iox R') (mkIo _ _ _ _ _ _ _ hnX hsX R'.iox R') hx'
    | stk => rw [e] at P'; exact P'.elim
end
end EV
namespace EV
open PySem PySem.Spec PyProof.Rows L2

/-! ## calls of defs -/
/-- an argument: an expression, or a slot that the callee may change -/
inductive Ar where
  | e (f : E) | o (i : Nat)
def eArs : List Ar → Rho → RL
  | [], ρ => .ok [] ρ
  | .e a :: r, ρ => match a ρ with
    | .ok d ρ1 => match eArs r ρ1 with
      | .ok ds ρ2 => .ok (d :: ds) ρ2
      | .ex e ρ2 => .ex e ρ2
      | .stk => .stk
    | .ex e ρ1 => .ex e ρ1
    | .stk => .stk
  | .o i :: r, ρ => match ρ[i]? with
    | some (some _) => match eArs r ρ with
      | .ok ds ρ2 => .ok (.non :: ds) ρ2
      | .ex e ρ2 => .ex e ρ2
      | .stk => .stk
    | _ => .stk
inductive ArL (g : Gb) (F : Hp) (σ : St) : List V → List D → List Ar → Prop
  | nil : ArL g F σ [] [] []
  | e {v d vs ds f r} : Dat g F v d → ArL g F σ vs ds r → ArL g F σ (v :: vs) (d :: ds) (.e f :: r)
  | o {v vs ds i r} : σ[i]? = some (some v) → ArL g F σ vs ds r → ArL g F σ (v :: vs) (.non :: ds) (.o i :: r)
theorem ArL.mono {g : Gb} {F F' : Hp} {σ : St} {vs : List V} {ds : List D} {as : List Ar} (s : Same F F') (h : ArL g F σ vs ds as) : ArL g F' σ vs ds as := by
  induction h with
  | nil => exact .nil
  | e h _ ih => exact .e (h.mono s) ih
  | o h _ ih => exact .o h ih
def tAO (g : Gb) (Z : Sg) (own : Own) (W : WX) (as : List Ar) : TA := fun σ H Q => ∃ B F fp ρ, Rel g Z B own F fp ρ σ H ∧ match eArs as ρ with
  | .ok ds ρ' => ∀ F' fp' H' vs, Same F F' → Rel g Z B own F' fp' ρ' σ H' → ArL g F' σ vs ds as → Q vs H'
  | .ex e ρ' => ∀ F' fp' H' c dx, Same F F' → Rel g Z B own F' fp' ρ' σ H' → ExAt g F' H' c dx e → W c dx σ H'
  | .stk => False
abbrev DenAO (X : Cx) (Z : Sg) (own : Own) (W : WX) (es : List Expr) (as : List Ar) : Prop := PA X es (tAO (gOf X) Z own W as)
section
variable {X : Cx} {Z : Sg} {own own' own1 ob : Own} {W : WX} {pos : Pos} {sl : List Nat}
theorem denao_nil : DenAO X Z own W [] [] := PAimp pa_nil fun σ H Q h => by
  obtain ⟨B, F, fp, ρ, R, P⟩ := h
  exact P F fp H [] (Same.refl _) R .nil
theorem denao_e {e : Expr} {es : List Expr} {f : E} {as : List Ar} (ha : DenE X Z own W e f) (hr : DenAO X Z own W es as) (hs : starEach (e :: es) X.env = (false, eval e X.env) :: starEach es X.env := by rfl) : DenAO X Z own W (e :: es) (.e f :: as) :=
  PAimp (pa_cons ha hr hs) fun σ H Q h => by
  obtain ⟨B, F, fp, ρ, R, P⟩ := h
  refine ⟨B, F, fp, ρ, R, ?_⟩
  unfold eArs at P
  cases e1 : f ρ with
  | ok d ρ1 =>
    rw [e1] at P
    dsimp only at P
    intro F1 fp1 H1 v s1 R1 hd
    refine ⟨B, F1, fp1, ρ1, R1, ?_⟩
    cases e2 : eArs as ρ1 with
    | ok ds ρ2 =>
      rw [e2] at P
      intro F2 fp2 H2 vs s2 R2 hds
      exact P F2 fp2 H2 (v :: vs) (s1.trans s2) R2 (.e (hd.mono s2) hds)
    | ex x ρ2 =>
      rw [e2] at P
      intro F2 fp2 H2 c dx s2 R2 hx
      exact P F2 fp2 H2 c dx (s1.trans s2) R2 hx
    | stk => rw [e2] at P; exact P
  | ex x ρ1 => rw [e1] at P; exact P
  | stk => rw [e1] at P; exact P
theorem denao_o (i : Nat) {x : Str} {es : List Expr} {as : List Ar} {sh : Sh} (ho : own i = some sh) (hN : X.N[i]? = some x) (hv : Vis X.env.scope x) (hr : DenAO X Z own W es as)
    (hs : starEach (.Name x pos :: es) X.env = (false, eval (.Name x pos) X.env) :: starEach es X.env := by rfl) (hd : (x == ("__debug__" : Str)) = false := by decide)
    (hcd : (x == ("__classdict__" : Str)) = false := by decide) : DenAO X Z own W (.Name x pos :: es) (.o i :: as) :=
  PAimp (pa_cons (pe_var hN hv hd hcd) hr hs) fun σ H Q h => by
  obtain ⟨B, F, fp, ρ, R, P⟩ := h
  unfold eArs at P
  cases e1 : ρ[i]? with
  | none => rw [e1] at P; exact P.elim
  | some od =>
    cases od with
    | none => rw [e1] at P; exact P.elim
    | some d =>
      rw [e1] at P
      dsimp only at P
      obtain ⟨v, hv, hO⟩ := R.ownd i sh d ho e1
      refine ⟨v, hv, B, F, fp, ρ, R, ?_⟩
      cases e2 : eArs as ρ with
      | ok ds ρ2 =>
        rw [e2] at P
        intro F2 fp2 H2 vs s2 R2 hds
        exact P F2 fp2 H2 (v :: vs) s2 R2 (.o hv hds)
      | ex x ρ2 => rw [e2] at P; exact P
      | stk => rw [e2] at P; exact P

/-- the slots that a call may change: (parameter, slot) -/
def slotsOf : Nat → List Ar → List (Nat × Nat)
  | _, [] => []
  | k, .e _ :: r => slotsOf (k + 1) r
  | k, .o i :: r => (k, i) :: slotsOf (k + 1) r
def fillD : List Ar → List D → Rho → Option (List D)
  | [], [], _ => some []
  | .e _ :: r, d :: ds, ρ => (fillD r ds ρ).map (d :: ·)
  | .o i :: r, _ :: ds, ρ => match ρ[i]? with
    | some (some d) => (fillD r ds ρ).map (d :: ·)
    | _ => none
  | _, _, _ => none
def putIos : List (Nat × Nat) → List (Nat × D) → Rho → Rho
  | [], _, ρ => ρ
  | (k, i) :: r, ios, ρ => putIos r ios (match ios.lookup k with
    | some d => ρ.set i (some d)
    | none => ρ)
theorem putIos_len : ∀ (ps : List (Nat × Nat)) (ios : List (Nat × D)) (ρ : Rho), (putIos ps ios ρ).length = ρ.length
  | [], _, _ => rfl
  | (k, i) :: r, ios, ρ => by
    unfold putIos
    rw [putIos_len r]
    split <;> simp
theorem putIos_ne : ∀ (ps : List (Nat × Nat)) (ios : List (Nat × D)) (ρ : Rho) (j : Nat), (∀ p ∈ ps, p.2 ≠ j) → (putIos ps ios ρ)[j]? = ρ[j]?
  | [], _, _, _, _ => rfl
  | (k, i) :: r, ios, ρ, j, h => by
    unfold putIos
    rw [putIos_ne r _ _ _ fun p hp => h p (List.mem_cons_of_mem _ hp)]
    split
    · rw [List.getElem?_set_ne (h (k, i) (by simp))]
    · rfl
theorem putIos_at : ∀ (ps : List (Nat × Nat)) (ios : List (Nat × D)) (ρ : Rho) (k i : Nat) (d : D), (ps.map (·.2)).Nodup → (k, i) ∈ ps → ios.lookup k = some d → i < ρ.length → (putIos ps ios ρ)[i]? = some (some d)
  | [], _, _, _, _, _, _, h, _, _ => by simp at h
  | (k', i') :: r, ios, ρ, k, i, d, nd, h, e, hl => by
    rw [List.map_cons, List.nodup_cons] at nd
    unfold putIos
    rcases List.mem_cons.mp h with h | h
    · cases h
      rw [putIos_ne, e]
      · simp [hl]
      · intro p hp z
        exact nd.1 (z ▸ List.mem_map_of_mem (f := (·.2)) hp)
    · refine putIos_at r ios _ k i d nd.2 h e ?_
      split
      · simp [hl]
      · exact hl
theorem fillD_rel {g : Gb} {F : Hp} {σ : St} {ρ : Rho} : ∀ {as : List Ar} {vs : List V} {ds ds' : List D} {k0 : Nat}, ArL g F σ vs ds as → fillD as ds ρ = some ds' →
    ds'.length = as.length ∧ vs.length = as.length ∧ (∀ i v d, vs[i]? = some v → ds'[i]? = some d → (∀ p ∈ slotsOf k0 as, p.1 ≠ k0 + i) → Dat g F v d) ∧
    (∀ p ∈ slotsOf k0 as, ∃ n v d, p.1 = k0 + n ∧ vs[n]? = some v ∧ ds'[n]? = some d ∧ σ[p.2]? = some (some v) ∧ ρ[p.2]? = some (some d))
  | [], _, _, ds', k0, .nil, e => by
    unfold fillD at e; cases e
    exact ⟨rfl, rfl, fun i v d h => by simp at h, fun p hp => by simp [slotsOf] at hp⟩
  | .e f :: r, _, _, ds', k0, .e (v := v) (d := d) h t, e => by
    unfold fillD at e
    obtain ⟨ds1, e1, rfl⟩ := Option.map_eq_some_iff.mp e
    obtain ⟨h1, h2, h3, h4⟩ := fillD_rel (k0 := k0 + 1) t e1
    refine ⟨by simp [h1], by simp [h2], fun i v' d' e2 e3 ne => ?_, fun p hp => ?_⟩
    · cases i with
      | zero => simp at e2 e3; subst e2; subst e3; exact h
      | succ n =>
        refine h3 n v' d' (by simpa using e2) (by simpa using e3) fun p hp => ?_
        have := ne p (by unfold slotsOf; exact hp)
        omega
    · unfold slotsOf at hp
      obtain ⟨n, v', d', a, b, c⟩ := h4 p hp
      exact ⟨n + 1, v', d', by omega, by simpa using b, by simpa using c⟩
  | .o i :: r, _, _, ds', k0, .o (v := v) h t, e => by
    unfold fillD at e
    split at e
    · rename_i d e0
      obtain ⟨ds1, e1, rfl⟩ := Option.map_eq_some_iff.mp e
      obtain ⟨h1, h2, h3, h4⟩ := fillD_rel (k0 := k0 + 1) t e1
      refine ⟨by simp [h1], by simp [h2], fun i' v' d' e2 e3 ne => ?_, fun p hp => ?_⟩
      · cases i' with
        | zero => exact absurd (by simp) (ne (k0, i) (by unfold slotsOf; simp))
        | succ n =>
          refine h3 n v' d' (by simpa using e2) (by simpa using e3) fun p hp => ?_
          have := ne p (by unfold slotsOf; exact List.mem_cons_of_mem _ hp)
          omega
      · unfold slotsOf at hp
        rcases List.mem_cons.mp hp with rfl | hp
        · exact ⟨0, v, d, rfl, rfl, rfl, h, e0⟩
        · obtain ⟨n, v', d', a, b, c⟩ := h4 p hp
          exact ⟨n + 1, v', d', by omega, by simpa using b, by simpa using c⟩
    · cases e

/-- behind a call: the slots that it may have changed hold what it tells -/
theorem Rel.called {g : Gb} {B : Bs} {F F' H H' : Hp} {fp fpc' : Nat → List Addr} {ρ : Rho} {σ : St} {io : List (Nat × Sh)} {ps : List (Nat × Nat)} {vs : List V} {ios : List (Nat × D)} {fpc : Nat → List Addr}
    (R : Rel g Z B own F fp ρ σ H) (nd : (ps.map (·.2)).Nodup) (nd1 : (ps.map (·.1)).Nodup) (hio : ∀ p ∈ io, ∃ q ∈ ps, q.1 = p.1 ∧ own q.2 = some p.2) (hps : ∀ q ∈ ps, ∃ p ∈ io, p.1 = q.1)
    (hv : ∀ q ∈ ps, ∃ v d, vs[q.1]? = some v ∧ σ[q.2]? = some (some v) ∧ ρ[q.2]? = some (some d)) (hf : ∀ q ∈ ps, fpc q.1 = fp q.2)
    (E : End io io F H fpc F' H' fpc') (I : IoAt g F' H' io vs fpc' ios) :
    ∃ fpN, Rel g Z B own F' fpN (putIos ps ios ρ) σ H' ∧ ∀ j a, a ∈ fpN j → a ∈ fp j ∨ ∃ p ∈ io, a ∈ fpc' p.1 := by
  refine ⟨fun j => match ps.find? (fun q => q.2 == j) with
    | some q => fpc' q.1
    | none => fp j, ?_, fun j a ha => by
      dsimp only at ha
      cases e : ps.find? (fun q => q.2 == j) with
      | none => rw [e] at ha; exact .inl ha
      | some q =>
        rw [e] at ha
        obtain ⟨p, hp, e'⟩ := hps q (List.mem_of_find?_eq_some e)
        exact .inr ⟨p, hp, by rw [e']; exact ha⟩⟩
  have fAt : ∀ q ∈ ps, ps.find? (fun q' => q'.2 == q.2) = some q := fun q hq => by
    cases e : ps.find? (fun q' => q'.2 == q.2) with
    | none =>
      have := List.find?_eq_none.mp e q hq
      simp at this
    | some q' =>
      have h1 := List.mem_of_find?_eq_some e
      have h2 : q'.2 = q.2 := by simpa using List.find?_some e
      obtain ⟨i1, e1⟩ := List.getElem?_of_mem h1
      obtain ⟨i2, e2⟩ := List.getElem?_of_mem hq
      have := nd_ix nd (i := i1) (j := i2) (x := q.2) (by rw [List.getElem?_map, e1]; simp [h2]) (by rw [List.getElem?_map, e2]; rfl)
      subst this
      rw [e1] at e2
      exact e2
  have fNo : ∀ j, (∀ q ∈ ps, q.2 ≠ j) → ps.find? (fun q => q.2 == j) = none := fun j h => List.find?_eq_none.mpr fun q hq => by simpa using h q hq
  have cases_j : ∀ j, (∃ q ∈ ps, q.2 = j) ∨ (∀ q ∈ ps, q.2 ≠ j) := fun j => by
    by_cases h : ∃ q ∈ ps, q.2 = j
    · exact .inl h
    · exact .inr fun q hq e => h ⟨q, hq, e⟩
  have ownS : ∀ q ∈ ps, ∃ p ∈ io, p.1 = q.1 ∧ own q.2 = some p.2 := fun q hq => by
    obtain ⟨p, hp, e⟩ := hps q hq
    obtain ⟨q', hq', e', o'⟩ := hio p hp
    obtain ⟨i1, e1⟩ := List.getElem?_of_mem hq
    obtain ⟨i2, e2⟩ := List.getElem?_of_mem hq'
    have := nd_ix nd1 (i := i1) (j := i2) (x := q.1) (by rw [List.getElem?_map, e1]; rfl) (by rw [List.getElem?_map, e2]; simp [e', e])
    subst this
    rw [e1] at e2
    cases e2
    exact ⟨p, hp, e, o'⟩
  have isome : ∀ q ∈ ps, ∃ p ∈ io, p.1 = q.1 ∧ own q.2 = some p.2 ∧ ∃ v d, vs[q.1]? = some v ∧ σ[q.2]? = some (some v) ∧ ios.lookup q.1 = some d ∧ OwnAt g F' H' (fpc' q.1) v d p.2 := fun q hq => by
    obtain ⟨p, hp, e, o⟩ := ownS q hq
    obtain ⟨v, d, h1, h2, h3⟩ := I p hp
    obtain ⟨v', d', h1', h2', _⟩ := hv q hq
    rw [e] at h1 h2 h3
    rw [h1] at h1'
    cases h1'
    exact ⟨p, hp, e, o, v, d, h1, h2', h2, h3⟩
  have lenOk : ∀ q ∈ ps, q.2 < ρ.length := fun q hq => by
    obtain ⟨v, d, _, _, h⟩ := hv q hq
    exact (List.getElem?_eq_some_iff.mp h).1
  have ownNe : ∀ q ∈ ps, own q.2 ≠ none := fun q hq => by
    obtain ⟨p, _, _, o⟩ := ownS q hq
    rw [o]; simp
  have keepA : ∀ j a, own j ≠ none → (∀ q ∈ ps, q.2 ≠ j) → a ∈ fp j → ∀ p ∈ io, a ∉ fpc p.1 := fun j a nj hj ha p hp hm => by
    obtain ⟨q, hq, e, o⟩ := hio p hp
    rw [← e, hf q hq] at hm
    exact R.dis j q.2 a nj (ownNe q hq) (fun z => hj q hq z.symm) ha hm
  refine ⟨by rw [putIos_len]; exact R.len, E.fh, fun j d e n => ?_, fun j sh d n e => ?_, fun j a n ha => ?_, fun i j a ni nj ne ha hb => ?_, R.ext.trans E.ff, fun a o e => ?_, fun a o e n => ?_, fun a h => E.tr a (R.tr a h), R.pin, R.pino, R.pinZ, fun p hp => ?_, R.iox⟩
  · have hj : ∀ q ∈ ps, q.2 ≠ j := fun q hq z => ownNe q hq (z ▸ n)
    rw [putIos_ne _ _ _ _ hj] at e
    obtain ⟨v, h1, h2⟩ := R.frz j d e n
    exact ⟨v, h1, h2.mono E.ff⟩
  · rcases cases_j j with ⟨q, hq, rfl⟩ | hj
    · obtain ⟨p, hp, e1, o, v, d', h1, h2, h3, h4⟩ := isome q hq
      rw [putIos_at ps ios ρ q.1 q.2 d' nd hq h3 (lenOk q hq)] at e
      cases e
      rw [n] at o; cases o
      refine ⟨v, h2, ?_⟩
      rw [fAt q hq]; exact h4
    · rw [putIos_ne _ _ _ _ hj] at e
      obtain ⟨v, h1, h2⟩ := R.ownd j sh d n e
      refine ⟨v, h1, ?_⟩
      rw [fNo j hj]
      refine h2.mono E.ff fun a ha => ?_
      have := h2.there a ha
      cases q : H a with
      | none => exact absurd q this
      | some o => exact E.keep a o q (keepA j a (by rw [n]; simp) hj ha)
  · rcases cases_j j with ⟨q, hq, rfl⟩ | hj
    · rw [fAt q hq] at ha
      dsimp only at ha
      obtain ⟨p, hp, e1, o, v, d', h1, h2, h3, h4⟩ := isome q hq
      obtain ⟨f1, f2⟩ := E.out p hp a (by rw [e1]; exact ha)
      refine ⟨f1, h4.there a ha, ?_⟩
      rcases f2 with f2 | ⟨f2, _⟩
      · left
        cases z : B.H0 a with
        | none => rfl
        | some o' => exact absurd f2 (R.tr a (by rw [z]; simp))
      · rw [e1, hf q hq] at f2
        exact (R.out q.2 a n f2).2.2
    · rw [fNo j hj] at ha
      obtain ⟨f1, f2, f3⟩ := R.out j a n ha
      refine ⟨?_, E.tr a f2, f3⟩
      cases z : F' a with
      | none => rfl
      | some o' =>
        rcases E.new a o' z with z | z
        · rw [f1] at z; cases z
        · exact absurd z f2
  · -- apart
    have key : ∀ q ∈ ps, ∀ j, own j ≠ none → (∀ q ∈ ps, q.2 ≠ j) → a ∈ fpc' q.1 → a ∉ fp j := fun q hq j nj hj ha hb => by
      obtain ⟨p, hp, e1, o, _⟩ := isome q hq
      obtain ⟨_, f2⟩ := E.out p hp a (by rw [e1]; exact ha)
      rcases f2 with f2 | ⟨f2, _⟩
      · exact (R.out j a nj hb).2.1 f2
      · exact keepA j a nj hj hb p hp f2
    rcases cases_j i with ⟨q, hq, rfl⟩ | hi
    · rw [fAt q hq] at ha
      dsimp only at ha
      rcases cases_j j with ⟨q2, hq2, rfl⟩ | hj
      · rw [fAt q2 hq2] at hb
        dsimp only at hb
        obtain ⟨p, hp, e1, _⟩ := isome q hq
        obtain ⟨p2, hp2, e2, _⟩ := isome q2 hq2
        refine E.dis p hp p2 hp2 (fun z => ?_) a (by rw [e1]; exact ha) (by rw [e2]; exact hb)
        rw [e1, e2] at z
        obtain ⟨i1, x1⟩ := List.getElem?_of_mem hq
        obtain ⟨i2, x2⟩ := List.getElem?_of_mem hq2
        have := nd_ix nd1 (i := i1) (j := i2) (x := q.1) (by rw [List.getElem?_map, x1]; rfl) (by rw [List.getElem?_map, x2]; simp [z])
        subst this
        rw [x1] at x2
        cases x2
        exact ne rfl
      · rw [fNo j hj] at hb
        exact key q hq j nj hj ha hb
    · rw [fNo i hi] at ha
      rcases cases_j j with ⟨q2, hq2, rfl⟩ | hj
      · rw [fAt q2 hq2] at hb
        exact key q2 hq2 i ni hi hb ha
      · rw [fNo j hj] at hb
        exact R.dis i j a ni nj ne ha hb
  · rcases E.new a o e with z | z
    · exact R.new a o z
    · right
      cases q : B.H0 a with
      | none => rfl
      | some o' => exact absurd z (R.tr a (by rw [q]; simp))
  · refine E.keep a o (R.keep a o e n) fun p hp hm => ?_
    obtain ⟨q, hq, e1, o1⟩ := hio p hp
    rw [← e1, hf q hq] at hm
    rcases (R.out q.2 a (ownNe q hq) hm).2.2 with z | ⟨z, p', hp', e'⟩
    · rw [z] at e; cases e
    · exact n p' hp' (by rw [e']; exact z)
  · rcases cases_j p.1 with ⟨q, hq, e⟩ | hj
    · obtain ⟨_, _, _, _, v, d', h1, h2, h3, h4⟩ := isome q hq
      exact ⟨d', by rw [← e]; exact putIos_at ps ios ρ q.1 q.2 d' nd hq h3 (lenOk q hq)⟩
    · rw [putIos_ne _ _ _ _ hj]; exact R.pind p hp

theorem slotsOf_ge : ∀ {as : List Ar} {k : Nat} {q : Nat × Nat}, q ∈ slotsOf k as → k ≤ q.1
  | [], _, _, h => by simp [slotsOf] at h
  | .e _ :: r, k, q, h => by
    unfold slotsOf at h
    have := slotsOf_ge h
    omega
  | .o i :: r, k, q, h => by
    unfold slotsOf at h
    rcases List.mem_cons.mp h with rfl | h
    · exact Nat.le_refl _
    · have := slotsOf_ge h
      omega
theorem slotsOf_nd : ∀ {as : List Ar} {k : Nat}, ((slotsOf k as).map (·.1)).Nodup
  | [], _ => by simp [slotsOf]
  | .e _ :: r, k => by unfold slotsOf; exact slotsOf_nd
  | .o i :: r, k => by
    unfold slotsOf
    rw [List.map_cons, List.nodup_cons]
    refine ⟨fun h => ?_, slotsOf_nd⟩
    obtain ⟨q, hq, e⟩ := List.mem_map.mp h
    have := slotsOf_ge hq
    omega
structure CallOk (s : Sig) (own : Own) (as : List Ar) : Prop where
  np : as.length = s.np
  io : ∀ p ∈ s.io, ∃ q ∈ slotsOf 0 as, q.1 = p.1 ∧ own q.2 = some p.2
  ps : ∀ q ∈ slotsOf 0 as, ∃ p ∈ s.io, p.1 = q.1
  nd : ((slotsOf 0 as).map (·.2)).Nodup
  ioN : s.ioN = s.io
  ioX : s.ioX = s.io
theorem CallOk.of {s : Sig} {as : List Ar} (h1 : as.length = s.np) (h2 : s.io = (slotsOf 0 as).map fun q => (q.1, (own q.2).getD .frz)) (h3 : (slotsOf 0 as).all (fun q => (own q.2).isSome) = true) (h4 : s.ioN = s.io) (h5 : s.ioX = s.io)
    (h6 : ((slotsOf 0 as).map (·.2)).Nodup) : CallOk s own as where
  np := h1
  io := fun p hp => by
    rw [h2] at hp
    obtain ⟨q, hq, rfl⟩ := List.mem_map.mp hp
    refine ⟨q, hq, rfl, ?_⟩
    have := List.all_eq_true.mp h3 q hq
    obtain ⟨sh, e⟩ := Option.isSome_iff_exists.mp this
    rw [e]; rfl
  ps := fun q hq => ⟨_, by rw [h2]; exact List.mem_map_of_mem hq, rfl⟩
  nd := h6
  ioN := h4
  ioX := h5
def callRes (as : List Ar) (r : FOut) (ρ : Rho) : Rs := match r with
  | .ok d ios => .ok d (putIos (slotsOf 0 as) ios ρ)
  | .ex e ios => .ex e (putIos (slotsOf 0 as) ios ρ)
  | .stk => .stk
def eCall (f : List D → FOut) (as : List Ar) : E := fun ρ => match eArs as ρ with
  | .ok ds ρ1 => match fillD as ds ρ1 with
    | some ds' => callRes as (f ds') ρ1
    | none => .stk
  | .ex e ρ1 => .ex e ρ1
  | .stk => .stk
/-- the callee's promise, from what the caller has -/
theorem callP {g : Gb} {B : Bs} {F H : Hp} {fp : Nat → List Addr} {ρ : Rho} {σ : St} {s : Sig} {f : List D → FOut} {as : List Ar} {vs : List V} {ds ds' : List D} {Q : VK}
    (R : Rel g Z B own F fp ρ σ H) (hA : ArL g F σ vs ds as) (hf : fillD as ds ρ = some ds') (C : CallOk s own as)
    (P : match callRes as (f ds') ρ with
      | .ok d ρ' => ∀ F' fp' H' v, Same F F' → Rel g Z B own F' fp' ρ' σ H' → (s.ret = none → Dat g F' v d) → (∀ sh, s.ret = some sh → ∃ O, OwnAt g F' H' O v d sh ∧ Fresh B own F' fp' O) → Q v H'
      | .ex e ρ' => ∀ F' fp' H' c dx, Same F F' → Rel g Z B own F' fp' ρ' σ H' → ExAt g F' H' c dx e → W c dx σ H'
      | .stk => False) : Prm g s f vs H Q (fun c dx H => W c dx σ H) := by
  obtain ⟨l1, l2, l3, l4⟩ := fillD_rel (k0 := 0) hA hf
  have own4 : ∀ p ∈ s.io, ∃ q ∈ slotsOf 0 as, q.1 = p.1 ∧ ∃ v d, vs[p.1]? = some v ∧ ds'[p.1]? = some d ∧ OwnAt g F H (fp q.2) v d p.2 := fun p hp => by
    obtain ⟨q, hq, e, o⟩ := C.io p hp
    obtain ⟨n, v, d, e1, e2, e3, e4, e5⟩ := l4 q hq
    obtain ⟨v', h1, h2⟩ := R.ownd q.2 p.2 d o e5
    rw [e4] at h1; cases h1
    have en : n = p.1 := by omega
    subst en
    exact ⟨q, hq, e, v, d, e2, e3, h2⟩
  let fpc : Nat → List Addr := fun k => match (slotsOf 0 as).find? (fun q => q.1 == k) with
    | some q => fp q.2
    | none => []
  have fpcAt : ∀ q ∈ slotsOf 0 as, fpc q.1 = fp q.2 := fun q hq => by
    show (match (slotsOf 0 as).find? (fun q' => q'.1 == q.1) with
      | some q => fp q.2
      | none => []) = fp q.2
    cases e : (slotsOf 0 as).find? (fun q' => q'.1 == q.1) with
    | none =>
      have := List.find?_eq_none.mp e q hq
      simp at this
    | some q' =>
      have h1 := List.mem_of_find?_eq_some e
      have h2 : q'.1 = q.1 := by simpa using List.find?_some e
      obtain ⟨i1, e1⟩ := List.getElem?_of_mem h1
      obtain ⟨i2, e2⟩ := List.getElem?_of_mem hq
      have := nd_ix (slotsOf_nd (as := as) (k := 0)) (i := i1) (j := i2) (x := q.1) (by rw [List.getElem?_map, e1]; simp [h2]) (by rw [List.getElem?_map, e2]; rfl)
      subst this
      rw [e1] at e2
      cases e2
      rfl
  have ownNe : ∀ q ∈ slotsOf 0 as, own q.2 ≠ none := fun q hq => by
    obtain ⟨p, hp, e⟩ := C.ps q hq
    obtain ⟨q', hq', e', o'⟩ := C.io p hp
    obtain ⟨i1, e1⟩ := List.getElem?_of_mem hq
    obtain ⟨i2, e2⟩ := List.getElem?_of_mem hq'
    have := nd_ix (slotsOf_nd (as := as) (k := 0)) (i := i1) (j := i2) (x := q.1) (by rw [List.getElem?_map, e1]; rfl) (by rw [List.getElem?_map, e2]; simp [e', e])
    subst this
    rw [e1] at e2
    cases e2
    rw [o']; simp
  have slotNe : ∀ q ∈ slotsOf 0 as, ∀ q2 ∈ slotsOf 0 as, q.1 ≠ q2.1 → q.2 ≠ q2.2 := fun q hq q2 hq2 ne z => by
    obtain ⟨i1, x1⟩ := List.getElem?_of_mem hq
    obtain ⟨i2, x2⟩ := List.getElem?_of_mem hq2
    have := nd_ix C.nd (i := i1) (j := i2) (x := q.2) (by rw [List.getElem?_map, x1]; rfl) (by rw [List.getElem?_map, x2]; simp [z])
    subst this
    rw [x1] at x2
    cases x2
    exact ne rfl
  refine ⟨by rw [l2, C.np], F, ds', fpc, ⟨by rw [l1, C.np], R.sub, fun i v d e1 e2 n => l3 i v d e1 e2 fun q hq z => ?_, fun p hp => ?_, fun p hp a ha => ?_, fun p hp p2 hp2 ne a ha hb => ?_⟩, ?_⟩
  · obtain ⟨p, hp, e⟩ := C.ps q hq
    obtain ⟨b, hb⟩ := lk_some hp
    rw [e, z, Nat.zero_add, n] at hb
    cases hb
  · obtain ⟨q, hq, e, v, d, h1, h2, h3⟩ := own4 p hp
    exact ⟨v, d, h1, h2, by rw [← e, fpcAt q hq]; exact h3⟩
  · obtain ⟨q, hq, e, _⟩ := own4 p hp
    rw [← e, fpcAt q hq] at ha
    exact (R.out q.2 a (ownNe q hq) ha).1
  · obtain ⟨q, hq, e, _⟩ := own4 p hp
    obtain ⟨q2, hq2, e2, _⟩ := own4 p2 hp2
    rw [← e, fpcAt q hq] at ha
    rw [← e2, fpcAt q2 hq2] at hb
    exact R.dis q.2 q2.2 a (ownNe q hq) (ownNe q2 hq2) (slotNe q hq q2 hq2 (by rw [e, e2]; exact ne)) ha hb
  · have hv4 : ∀ q ∈ slotsOf 0 as, ∃ v d, vs[q.1]? = some v ∧ σ[q.2]? = some (some v) ∧ ρ[q.2]? = some (some d) := fun q hq => by
      obtain ⟨n, v, d, e1, e2, e3, e4, e5⟩ := l4 q hq
      have en : n = q.1 := by omega
      subst en
      exact ⟨v, d, e2, e4, e5⟩
    cases e : f ds' with
    | ok d ios =>
      rw [e] at P
      intro F' H' fp' v En Io Re
      rw [C.ioN] at En Io Re
      obtain ⟨fpN, RN, hfp⟩ := R.called C.nd slotsOf_nd C.io C.ps hv4 fpcAt En Io
      refine P F' fpN H' v En.ff RN (fun hr => ?_) fun sh hr => ?_
      · unfold RetF at Re; rw [hr] at Re; exact Re
      · unfold RetF at Re; rw [hr] at Re
        obtain ⟨O, h1, h2, h3⟩ := Re
        refine ⟨O, h1, ⟨fun a ha => ⟨(h2 a ha).1, ?_⟩, fun a ha i ni hm => ?_⟩⟩
        · cases z : B.H0 a with
          | none => rfl
          | some o' => exact absurd (h2 a ha).2 (R.tr a (by rw [z]; simp))
        · rcases hfp i a hm with hm | ⟨p, hp, hm⟩
          · exact (R.out i a ni hm).2.1 (h2 a ha).2
          · exact h3 p hp a hm ha
    | ex x ios =>
      rw [e] at P
      intro F' H' fp' c dx En Io hx
      rw [C.ioX] at En Io
      obtain ⟨fpN, RN, hfp⟩ := R.called C.nd slotsOf_nd C.io C.ps hv4 fpcAt En Io
      exact P F' fpN H' c dx En.ff RN hx
    | stk => rw [e] at P; exact P

/-! ### f(e, ..) -/
section
variable {k : Nat} {f : Addr} {fd : FuncData} {ps : List Str} {s : Sig} {fn : List D → FOut} {x : Str} {p : Pos} {e : Expr} {es : List Expr} {as : List Ar}
theorem den_call (F : FnOk X.prog X.w X.K X.mg X.base (L2.CX X.prog X.w) k f fd ps (Prm (gOf X) s fn)) (hr : Room k X.A) (hg : L2.Gl X x) (hm : X.mg x = some (.ref f)) (hk : PySem.W.keepIn X.K (.ref f) = true) (hb : Binds X.K fd ps []) (tk : Takes X W)
    (hret : s.ret = none) (C : CallOk s own as) (ha : DenAO X Z own W (e :: es) as) (hdb : (x == ("__debug__" : Str)) = false := by decide) (he : starEach (e :: es) X.env = (false, eval e X.env) :: starEach es X.env := by rfl) (hpl : (backTo pos (starEach es X.env)).any (·.1) = false := by rfl) :
    DenE X Z own W (.Call (.Name x p) (e :: es) [] pos) (eCall fn as) := PEimp (pe_callS F hr hg hm hk hb (fun σ => passAt tk σ) ha hdb he hpl) fun σ H Q h => by
  obtain ⟨B, Fz, fp, ρ, R, P⟩ := h
  refine ⟨B, Fz, fp, ρ, R, ?_⟩
  unfold eCall at P
  cases e1 : eArs as ρ with
  | stk => rw [e1] at P; exact P
  | ex x ρ1 => rw [e1] at P; exact P
  | ok ds ρ1 =>
    rw [e1] at P
    dsimp only at P ⊢
    intro F1 fp1 H1 vs s1 R1 hA
    cases e2 : fillD as ds ρ1 with
    | none => rw [e2] at P; exact P.elim
    | some ds' =>
      rw [e2] at P
      dsimp only at P
      refine callP R1 hA e2 C ?_
      cases e3 : callRes as (fn ds') ρ1 with
      | ok d ρ' =>
        rw [e3] at P
        exact fun F' fp' H' v s' R' hn _ => P F' fp' H' v (s1.trans s') R' (hn hret)
      | ex x ρ' =>
        rw [e3] at P
        exact fun F' fp' H' c dx s' R' hx => P F' fp' H' c dx (s1.trans s') R' hx
      | stk => rw [e3] at P; exact P
theorem deno_call {sh : Sh} (F : FnOk X.prog X.w X.K X.mg X.base (L2.CX X.prog X.w) k f fd ps (Prm (gOf X) s fn)) (hr : Room k X.A) (hg : L2.Gl X x) (hm : X.mg x = some (.ref f)) (hk : PySem.W.keepIn X.K (.ref f) = true) (hb : Binds X.K fd ps []) (tk : Takes X W)
    (hret : s.ret = some sh) (C : CallOk s own as) (ha : DenAO X Z own W (e :: es) as) (hdb : (x == ("__debug__" : Str)) = false := by decide) (he : starEach (e :: es) X.env = (false, eval e X.env) :: starEach es X.env := by rfl) (hpl : (backTo pos (starEach es X.env)).any (·.1) = false := by rfl) :
    DenO X Z own W sh (.Call (.Name x p) (e :: es) [] pos) (eCall fn as) := PEimp (pe_callS F hr hg hm hk hb (fun σ => passAt tk σ) ha hdb he hpl) fun σ H Q h => by
  obtain ⟨B, Fz, fp, ρ, R, P⟩ := h
  refine ⟨B, Fz, fp, ρ, R, ?_⟩
  unfold eCall at P
  cases e1 : eArs as ρ with
  | stk => rw [e1] at P; exact P
  | ex x ρ1 => rw [e1] at P; exact P
  | ok ds ρ1 =>
    rw [e1] at P
    dsimp only at P ⊢
    intro F1 fp1 H1 vs s1 R1 hA
    cases e2 : fillD as ds ρ1 with
    | none => rw [e2] at P; exact P.elim
    | some ds' =>
      rw [e2] at P
      dsimp only at P
      refine callP R1 hA e2 C ?_
      cases e3 : callRes as (fn ds') ρ1 with
      | ok d ρ' =>
        rw [e3] at P
        intro F' fp' H' v s' R' _ hn
        obtain ⟨O, hO, fr⟩ := hn sh hret
        exact P F' fp' H' v O (s1.trans s') R' hO fr
      | ex x ρ' =>
        rw [e3] at P
        exact fun F' fp' H' c dx s' R' hx => P F' fp' H' c dx (s1.trans s') R' hx
      | stk => rw [e3] at P; exact P
end
/-- what is new may stand -/
theorem den_ofO {e : Expr} {f : E} {sh : Sh} (h : DenO X Z own W sh e f) : DenE X Z own W e f := PEimp h fun σ H Q hh => by
  obtain ⟨B, Fz, fp, ρ, R, P⟩ := hh
  refine ⟨B, Fz, fp, ρ, R, ?_⟩
  cases e1 : f ρ with
  | stk => rw [e1] at P; exact P
  | ex x ρ1 => rw [e1] at P; exact P
  | ok d ρ1 =>
    rw [e1] at P
    intro F1 fp1 H1 v O s1 R1 hO fr
    have hs : Same F1 (EV.plus F1 H1 O) := plus_same fun a ha => (fr.out a ha).1
    exact P _ fp1 H1 v (s1.trans hs) (R1.plus (hO.there) fr) (hO.freeze hs fun a ha => plus_at ha)
/-- return what is new and owned -/
theorem den_retO {e : Expr} {f : E} {sh : Sh} (he : DenO X Z own W sh e f) (hr : Z.ret = some sh) (hi : ∀ p ∈ Z.ioN, own p.1 = some p.2) : DenS X Z own own' ob W (.Return (some e) pos) (sRet f) := PSimp (ps_ret he) fun D σ H h => by
  obtain ⟨B, F, fp, ρ, R, P⟩ := h
  refine ⟨B, F, fp, ρ, R, ?_⟩
  unfold sRet sOf at P
  cases e1 : f ρ with
  | ok d ρ1 =>
    rw [e1] at P
    dsimp only at P ⊢
    intro F1 fp1 H1 v O s1 R1 hO fr
    refine P F1 fp1 σ H1 v own s1 R1 hi ?_
    unfold RetAt
    rw [hr]
    exact ⟨O, hO, fr.out, fun p hp a ha hm => fr.dis a hm p.1 (by rw [hi p hp]; simp) ha⟩
  | ex x ρ1 =>
    rw [e1] at P
    intro F' fp' H' c dx s R' hx
    exact P F' fp' σ H' c dx own s R' hx
  | stk => rw [e1] at P; exact P
end
end EV
namespace EV
open PySem PySem.Spec PyProof.Rows L2

/-! ## and, or, not -/
def eAnd (a b : E) : E := eBind a fun d ρ => match d.truth with
  | some true => b ρ
  | some false => .ok d ρ
  | none => .stk
def eOr (a b : E) : E := eBind a fun d ρ => match d.truth with
  | some true => .ok d ρ
  | some false => b ρ
  | none => .stk
def eNot (a : E) : E := eBind a fun d ρ => match d.truth with
  | some k => .ok (.bl (!k)) ρ
  | none => .stk
/-- a value's truth by its data -/
theorem Dat.tru {g : Gb} {F H : Hp} {v : V} {d : D} {k : Bool} (s : Same F H) (h : Dat g F v d) (t : d.truth = some k) : TruV g.K v H k := by
  cases h with
  | non => cases t; rfl
  | bl b => cases t; rfl
  | int i => cases t; rfl
  | str x h k =>
    cases t
    refine ⟨h, ?_⟩
    unfold Str.length
    rw [← Array.length_toList]
    cases x.cps.toList with
    | nil => rfl
    | cons c r => simp; omega
  | tup h l =>
    cases t
    refine .inr (.inl ⟨_, Same.seqT s h, ?_⟩)
    cases l <;> rfl
  | lst h l =>
    cases t
    refine .inl ⟨_, EVseq s h, ?_⟩
    cases l <;> rfl
  | dct _ _ _ _ _ _ => cases t
  | ins _ _ _ _ _ => cases t
abbrev DenW (X : Cx) (Z : Sg) (own : Own) (W : WX) (e : Expr) (f : E) : Prop := PW X e (tT (gOf X) Z own W f)
section
variable {X : Cx} {Z : Sg} {own own' own1 ob : Own} {W : WX} {pos : Pos} {sl : List Nat} {a b : Expr} {rest : List Expr} {fa fb : E}
theorem DenW.pt {e : Expr} {f : E} (h : DenW X Z own W e f) : DenT X Z own W e f := PW.pt h
theorem denw_and1 (ha : DenT X Z own W a fa) : DenW X Z own W (.BoolOp .And [a] pos) fa := pw_and1 ha
theorem denw_or1 (ha : DenT X Z own W a fa) : DenW X Z own W (.BoolOp .Or [a] pos) fa := pw_or1 ha
/-- a test, then what follows by its answer -/
theorem tT_bind {g : Gb} {B : Bs} {k : D → E} {F : Hp} {fp : Nat → List Addr} {ρ : Rho} {σ : St} {H : Hp} {f : E} {Q : Bool → Hp → Prop} {R : Bool → Hp → Prop}
    (R0 : Rel g Z B own F fp ρ σ H) (P : match eBind f k ρ with
      | .ok d ρ' => ∃ b, d.truth = some b ∧ ∀ F' fp' H', Same F F' → Rel g Z B own F' fp' ρ' σ H' → Q b H'
      | .ex e ρ' => ∀ F' fp' H' c dx, Same F F' → Rel g Z B own F' fp' ρ' σ H' → ExAt g F' H' c dx e → W c dx σ H'
      | .stk => False)
    (hn : ∀ d ρ1, d.truth = none → k d ρ1 = .stk)
    (hk : ∀ F1 fp1 ρ1 d b H1, Same F F1 → Rel g Z B own F1 fp1 ρ1 σ H1 → d.truth = some b → (match k d ρ1 with
      | .ok d ρ' => ∃ b, d.truth = some b ∧ ∀ F' fp' H', Same F1 F' → Rel g Z B own F' fp' ρ' σ H' → Q b H'
      | .ex e ρ' => ∀ F' fp' H' c dx, Same F1 F' → Rel g Z B own F' fp' ρ' σ H' → ExAt g F' H' c dx e → W c dx σ H'
      | .stk => False) → R b H1) : tT g Z own W f σ H R := by
  refine ⟨B, F, fp, ρ, R0, ?_⟩
  unfold eBind Rs.bind at P
  cases e : f ρ with
  | ok d ρ1 =>
    rw [e] at P
    dsimp only at P ⊢
    cases t : d.truth with
    | none =>
      rw [hn d ρ1 t] at P
      exact P.elim
    | some b =>
      refine ⟨b, rfl, fun F1 fp1 H1 s R1 => hk F1 fp1 ρ1 d b H1 s R1 t ?_⟩
      cases e2 : k d ρ1 with
      | ok d2 ρ2 =>
        rw [e2] at P
        obtain ⟨b2, t2, q⟩ := P
        exact ⟨b2, t2, fun F2 fp2 H2 s2 R2 => q F2 fp2 H2 (s.trans s2) R2⟩
      | ex x ρ2 =>
        rw [e2] at P
        exact fun F2 fp2 H2 c dx s2 R2 => P F2 fp2 H2 c dx (s.trans s2) R2
      | stk => rw [e2] at P; exact P
  | ex x ρ1 => rw [e] at P; exact P
  | stk => rw [e] at P; exact P
theorem denw_and (ha : DenT X Z own W a fa) (hb : DenW X Z own W (.BoolOp .And (b :: rest) pos) fb) : DenW X Z own W (.BoolOp .And (a :: b :: rest) pos) (eAnd fa fb) := PWimp (pw_and ha hb) fun σ H Q h => by
  obtain ⟨B, F, fp, ρ, R, P⟩ := h
  refine tT_bind R P (fun d ρ1 t => by rw [t]) fun F1 fp1 ρ1 d b H1 s R1 t P1 => ?_
  rw [t] at P1
  cases b with
  | true => rw [if_pos rfl]; exact ⟨B, F1, fp1, ρ1, R1, P1⟩
  | false =>
    rw [if_neg Bool.false_ne_true]
    obtain ⟨b2, t2, q⟩ := P1
    rw [t] at t2; cases t2
    exact q F1 fp1 H1 (Same.refl _) R1
theorem denw_or (ha : DenT X Z own W a fa) (hb : DenW X Z own W (.BoolOp .Or (b :: rest) pos) fb) : DenW X Z own W (.BoolOp .Or (a :: b :: rest) pos) (eOr fa fb) := PWimp (pw_or ha hb) fun σ H Q h => by
  obtain ⟨B, F, fp, ρ, R, P⟩ := h
  refine tT_bind R P (fun d ρ1 t => by rw [t]) fun F1 fp1 ρ1 d b H1 s R1 t P1 => ?_
  rw [t] at P1
  cases b with
  | false => rw [if_neg Bool.false_ne_true]; exact ⟨B, F1, fp1, ρ1, R1, P1⟩
  | true =>
    rw [if_pos rfl]
    obtain ⟨b2, t2, q⟩ := P1
    rw [t] at t2; cases t2
    exact q F1 fp1 H1 (Same.refl _) R1
theorem dent_not (ha : DenT X Z own W a fa) : DenT X Z own W (.UnaryOp .Not a pos) (eNot fa) := PTimp (pt_not ha) fun σ H Q h => by
  obtain ⟨B, F, fp, ρ, R, P⟩ := h
  refine tT_bind R P (fun d ρ1 t => by rw [t]) fun F1 fp1 ρ1 d b H1 s R1 t P1 => ?_
  rw [t] at P1
  obtain ⟨b2, t2, q⟩ := P1
  cases t2
  exact q F1 fp1 H1 (Same.refl _) R1
/-- .. as values -/
theorem den_one1 {op} (h : DenE X Z own W a fa) : DenE X Z own W (.BoolOp op [a] pos) fa := pe_one h
theorem den_and (ha : DenE X Z own W a fa) (hb : DenE X Z own W (.BoolOp .And (b :: rest) pos) fb) : DenE X Z own W (.BoolOp .And (a :: b :: rest) pos) (eAnd fa fb) := PEimp (pe_andT ha hb) fun σ H Q h => by
  obtain ⟨B, F, fp, ρ, R, P⟩ := h
  refine bindR R P fun F1 fp1 ρ1 d v H1 s R1 hd P1 => ?_
  cases t : d.truth with
  | none => rw [t] at P1; exact P1.elim
  | some k =>
    rw [t] at P1
    refine ⟨k, hd.tru R1.sub t, ?_⟩
    cases k with
    | true => rw [if_pos rfl]; exact ⟨B, F1, fp1, ρ1, R1, P1⟩
    | false => rw [if_neg Bool.false_ne_true]; exact (RPost.yields R1 P1).flat R1.sub hd
theorem den_or (ha : DenE X Z own W a fa) (hb : DenE X Z own W (.BoolOp .Or (b :: rest) pos) fb) : DenE X Z own W (.BoolOp .Or (a :: b :: rest) pos) (eOr fa fb) := PEimp (pe_orT ha hb) fun σ H Q h => by
  obtain ⟨B, F, fp, ρ, R, P⟩ := h
  refine bindR R P fun F1 fp1 ρ1 d v H1 s R1 hd P1 => ?_
  cases t : d.truth with
  | none => rw [t] at P1; exact P1.elim
  | some k =>
    rw [t] at P1
    refine ⟨k, hd.tru R1.sub t, ?_⟩
    cases k with
    | false => rw [if_neg Bool.false_ne_true]; exact ⟨B, F1, fp1, ρ1, R1, P1⟩
    | true => rw [if_pos rfl]; exact (RPost.yields R1 P1).flat R1.sub hd
theorem den_not (ha : DenE X Z own W a fa) : DenE X Z own W (.UnaryOp .Not a pos) (eNot fa) := PEimp (pe_notT ha) fun σ H Q h => by
  obtain ⟨B, F, fp, ρ, R, P⟩ := h
  refine bindR R P fun F1 fp1 ρ1 d v H1 s R1 hd P1 => ?_
  cases t : d.truth with
  | none => rw [t] at P1; exact P1.elim
  | some k =>
    rw [t] at P1
    exact ⟨k, hd.tru R1.sub t, (RPost.yields R1 P1).flat R1.sub (.bl _)⟩
/-- a comparison as a test -/
theorem dent_cmp {op : CmpOp} {f : D → D → Option D} (ho : OpD X (compareOp op) f) (hf : ∀ x y d, f x y = some d → ∃ k, d = .bl k) (ha : DenE X Z own W a fa) (hb : DenE X Z own W b fb) (hm : behindInMarks op b = false) : DenT X Z own W (.Compare a [op] [b] pos) (eOp f fa fb) :=
  PTimp (pt_cmpR ho ha hb hm) fun σ H Q h => by
  obtain ⟨B, F, fp, ρ, R, P⟩ := h
  refine tOp_of (own := own) (W := W) ⟨B, F, fp, ρ, R, ?_⟩
  cases e : eOp f fa fb ρ with
  | ok d ρ' =>
    rw [e] at P
    obtain ⟨k, t, q⟩ := P
    intro F' fp' H' v s R' hd
    have hb : ∃ k, d = .bl k := by
      unfold eOp eBind Rs.bind at e
      cases e1 : fa ρ with
      | ok x ρ1 =>
        rw [e1] at e
        dsimp only at e
        cases e2 : fb ρ1 with
        | ok y ρ2 =>
          rw [e2] at e
          dsimp only at e
          cases e3 : f x y with
          | some d' => rw [e3] at e; cases e; exact hf x y d e3
          | none => rw [e3] at e; cases e
        | ex _ _ => rw [e2] at e; cases e
        | stk => rw [e2] at e; cases e
      | ex _ _ => rw [e1] at e; cases e
      | stk => rw [e1] at e; cases e
    obtain ⟨k', rfl⟩ := hb
    cases t
    cases hd
    exact ⟨_, rfl, q F' fp' H' s R'⟩
  | ex x ρ' => rw [e] at P; exact P
  | stk => rw [e] at P; exact P
end

/-! ## operators on data -/
def dAdd : D → D → Option D
  | .int i, .int j => some (.int (i + j))
  | .str x, .str y => if x.length + y.length ≤ sizeLine then some (.str (x ++ y)) else none
  | .tup xs, .tup ys => if xs.length + ys.length ≤ sizeLine then some (.tup (xs ++ ys)) else none
  | .lst xs, .lst ys => if xs.length + ys.length ≤ sizeLine then some (.lst (xs ++ ys)) else none
  | _, _ => none
def dI2 (C : Int → Int → Bool) (g : Int → Int → D) : D → D → Option D
  | .int i, .int j => if C i j then some (g i j) else none
  | _, _ => none
def dSub : D → D → Option D := dI2 (fun _ _ => true) fun i j => .int (i - j)
def dMul : D → D → Option D := dI2 (fun i j => (decide (-(2 ^ 64) < i) && decide (i < 2 ^ 64)) || (decide (-(2 ^ 64) < j) && decide (j < 2 ^ 64))) fun i j => .int (i * j)
def dMod : D → D → Option D := dI2 (fun _ j => decide (0 < j)) fun i j => .int (i % j)
def dFdiv : D → D → Option D := dI2 (fun _ j => decide (0 < j) && decide (j < 1073741824)) fun i j => .int (i / j)
def dPow : D → D → Option D := dI2 (fun i j => decide (0 ≤ j) && decide (j ≤ 1000000) && decide (i.natAbs < 2 ^ 64)) fun i j => .int (i ^ j.toNat)
def dLt : D → D → Option D := dI2 (fun _ _ => true) fun i j => .bl (decide (i < j))
def dLe : D → D → Option D := dI2 (fun _ _ => true) fun i j => .bl (decide (i ≤ j))
def dGt : D → D → Option D := dI2 (fun _ _ => true) fun i j => .bl (decide (j < i))
def dGe : D → D → Option D := dI2 (fun _ _ => true) fun i j => .bl (decide (j ≤ i))
theorem strOk_app {x y : Str} (a : PyData.strOk x = true) (b : PyData.strOk y = true) : PyData.strOk (x ++ y) = true := by
  unfold PyData.strOk at *
  show ((x.cps ++ y.cps).all _) = true
  rw [Array.all_append, a, b]; rfl
section
variable {X : Cx}
theorem opd_I2 {op : Value → Value → Sem Value} {C : Int → Int → Bool} {Cp : Int → Int → Prop} {g : Int → Int → D} {gv : Int → Int → V} (h : OpR X op (rI Cp gv)) (hC : ∀ i j, C i j = true → Cp i j) (hg : ∀ F i j, Dat (gOf X) F (gv i j) (g i j)) : OpD X op (dI2 C g) := by
  intro pins s σ H x y v u Q I rx ry hh
  obtain ⟨F, a, b, d, hF, ha, hb, e, yl⟩ := hh
  unfold dI2 at e
  split at e
  · rename_i i j
    cases ha; cases hb
    split at e
    · rename_i hc
      cases e
      exact h pins s σ H _ _ v u Q I rx ry ⟨i, j, rfl, rfl, hC i j hc, yl.flat hF (hg F i j)⟩
    · cases e
  · cases e
theorem rI_of {op : Value → Value → Sem Value} {gv : Int → Int → V} (h : OpR X op (rI0 gv)) : OpR X op (rI (fun _ _ => True) gv) := fun pins s σ H x y v u Q I rx ry ⟨i, j, e1, e2, _, q⟩ => h pins s σ H x y v u Q I rx ry ⟨i, j, e1, e2, q⟩
theorem opd_sub : OpD X (binaryOp .Sub) dSub := opd_I2 (rI_of op_sub) (fun _ _ _ => trivial) fun _ _ _ => .int _
theorem opd_mul : OpD X (binaryOp .Mult) dMul := opd_I2 op_mul (fun i j h => by simpa [CMul] using h) fun _ _ _ => .int _
theorem opd_mod : OpD X (binaryOp .Mod) dMod := opd_I2 op_mod (fun i j h => by simpa using h) fun _ _ _ => .int _
theorem opd_fdiv : OpD X (binaryOp .FloorDiv) dFdiv := opd_I2 op_fdiv (fun i j h => by simpa [CDiv] using h) fun _ _ _ => .int _
theorem opd_pow : OpD X (binaryOp .Pow) dPow := opd_I2 op_pow (fun i j h => by simp at h; exact ⟨h.1.1, h.1.2, h.2⟩) fun _ _ _ => .int _
theorem opd_lt : OpD X (compareOp .Lt) dLt := opd_I2 (rI_of op_lt) (fun _ _ _ => trivial) fun _ _ _ => .bl _
theorem opd_le : OpD X (compareOp .LtE) dLe := opd_I2 (rI_of op_le) (fun _ _ _ => trivial) fun _ _ _ => .bl _
theorem opd_gt : OpD X (compareOp .Gt) dGt := opd_I2 (rI_of op_gt) (fun _ _ _ => trivial) fun _ _ _ => .bl _
theorem opd_ge : OpD X (compareOp .GtE) dGe := opd_I2 (rI_of op_ge) (fun _ _ _ => trivial) fun _ _ _ => .bl _
theorem Inv.rdL {pins : List (Addr × Obj)} {σ : St} {H : Hp} {s : Shared} {a : Addr} {xs : List V} (I : Inv X pins σ H s) (h : Rd H a (.lst xs)) : xs.length ≤ sizeLine ∧ ∃ (its : List Value) (n : Nat), Vals xs its ∧ s.heap.get? a = some { cls := .type "list", data := .seq its.toArray n } := h.ok I.hok
theorem opd_add : OpD X (binaryOp .Add) dAdd := by
  intro pins s σ H x y v u Q I rx ry hh
  obtain ⟨F, a, b, d, hF, ha, hb, e, yl⟩ := hh
  cases ha with
  | int i =>
    cases hb with
    | int j => cases e; exact op_add pins s σ H _ _ v u Q I rx ry ⟨i, j, rfl, rfl, yl.flat hF (.int _)⟩
    | _ => cases e
  | str x h1 k1 =>
    cases hb with
    | str y h2 k2 =>
      unfold dAdd at e
      dsimp only at e
      split at e
      · rename_i hz
        cases e
        refine op_add_str pins s σ H _ _ v u Q I rx ry ⟨x, y, rfl, rfl, hz, yl.flat hF (.str _ ?_ (strOk_app k1 k2))⟩
        show (x.cps ++ y.cps).size ≤ sizeLine
        rw [Array.size_append]; exact hz
      · cases e
    | _ => cases e
  | @tup a1 vs1 ds1 h1 l1 =>
    cases hb with
    | @tup a2 vs2 ds2 h2 l2 =>
      unfold dAdd at e
      dsimp only at e
      split at e
      · rename_i hz
        cases e
        refine op_catA pins s σ H _ _ v u Q I rx ry ⟨a1, a2, vs1, vs2, rfl, rfl, Same.seqT hF h1, Same.seqT hF h2, by rw [l1.length, l2.length]; exact hz, fun z => ?_, fun _ z => ?_, fun _ _ p np => ?_⟩
        · subst z
          cases l1
          exact yl.flat hF (.tup h2 l2)
        · subst z
          cases l2
          rw [List.append_nil] at yl
          exact yl.flat hF (.tup h1 l1)
        · exact yl.push hF np (.tup (.inl (.inl upd_same)) ((l1.append l2).mono (same_upd (hF.free np))))
      · cases e
    | _ => cases e
  | lst h1 l1 =>
    cases hb with
    | lst h2 l2 =>
      unfold dAdd at e
      dsimp only at e
      split at e
      · rename_i hz
        cases e
        cases rx
        cases ry
        obtain ⟨its, r, ⟨o1, n, f1, f2, f3, f4⟩, z1⟩ := I.list (EVseq hF h1)
        obtain ⟨its2, r2, ⟨o2, n2, g1, g2, g3, g4⟩, z2⟩ := I.list (EVseq hF h2)
        obtain ⟨cls, dd, data, sl⟩ := o1
        obtain ⟨cls2, dd2, data2, sl2⟩ := o2
        simp only at f2 f3 f4 g2 g3 g4
        subst f2 f3 f4 g2 g3 g4
        have hl1 := r.length
        have hl2 := r2.length
        have hd1 := l1.length
        have hd2 := l2.length
        refine concat_meets ⟨_, f1, rfl⟩ ⟨_, g1, rfl⟩ noFill_list_add seq_list_add PySem.F.slot_list_add PySem.F.entry_list_add (PySem.F.args_list_add_2 _ _) (PyProof.Rows.list_addW _ _ its.toArray its2.toArray n n2 none none sl sl2 (by rw [List.size_toArray, List.size_toArray]; omega)) ⟨f1, g1, ?_⟩
        have ea : its.toArray ++ its2.toArray = (its ++ its2).toArray := by simp
        rw [ea]
        refine ⟨.ref _, _, I.lnew (t' := s.toks) (r.append r2) (by rw [List.length_append]; omega), rfl, ?_⟩
        exact yl.push hF I.fresh (.lst (.inl (.inl upd_same)) ((l1.append l2).mono (same_upd (hF.free I.fresh))))
      · cases e
    | _ => cases e
  | _ => cases hb <;> cases e
/-- one-place operations -/
def rD1 (g : Gb) (f : D → Option D) : V → Hp → VK → Prop := fun x H Q => ∃ F a d, Same F H ∧ Dat g F x a ∧ f a = some d ∧ Yields g F H d Q
def dNeg : D → Option D
  | .int i => some (.int (-i))
  | _ => none
end
def eOp1 (f : D → Option D) (a : E) : E := eBind a fun x => fun ρ => match f x with
  | some d => .ok d ρ
  | none => .stk
section
variable {X : Cx} {Z : Sg} {own : Own} {W : WX} {pos : Pos} {a : Expr} {fa : E}
theorem den_neg (ha : DenE X Z own W a fa) : DenE X Z own W (.UnaryOp .USub a pos) (eOp1 dNeg fa) := PEimp (pe_un un_neg ha) fun σ H Q h => by
  obtain ⟨B, F, fp, ρ, R, P⟩ := h
  refine bindR R P fun F1 fp1 ρ1 x v H1 s1 R1 hx P1 => ?_
  cases hx with
  | int i => exact ⟨i, rfl, (RPost.yields R1 P1).flat R1.sub (.int _)⟩
  | _ => exact P1.elim
end
end EV
namespace EV
open PySem PySem.Spec PyProof.Rows L2

/-! ## in -/
theorem toPL_any (ds : List D) (p : PyData → Bool) : (D.toPL ds).any p = ds.any fun z => p z.toP := by
  induction ds with
  | nil => rfl
  | cons d r ih => simp [D.toPL, ih]
def dIn : D → D → Option Bool
  | x, .lst ds => if x.pl && D.plL ds && decide (x.depth ≤ 64) then some (ds.any fun z => D.eqv z x) else none
  | x, .tup ds => if x.pl && D.plL ds && decide (x.depth ≤ 64) then some (ds.any fun z => D.eqv z x) else none
  | .str x, .str y => match x.cps.toList with
    | [c] => some (decide (c ∈ y.cps.toList))
    | _ => none
  | _, _ => none
theorem dIn_lst {x : D} {ds : List D} {k : Bool} (h : dIn x (.lst ds) = some k) : (x.pl && D.plL ds && decide (x.depth ≤ 64)) = true ∧ k = ds.any fun z => D.eqv z x := by
  have e : dIn x (.lst ds) = if x.pl && D.plL ds && decide (x.depth ≤ 64) then some (ds.any fun z => D.eqv z x) else none := by cases x <;> rfl
  rw [e] at h
  split at h
  · rename_i f; exact ⟨f, (Option.some.inj h).symm⟩
  · cases h
theorem dIn_tup {x : D} {ds : List D} {k : Bool} (h : dIn x (.tup ds) = some k) : (x.pl && D.plL ds && decide (x.depth ≤ 64)) = true ∧ k = ds.any fun z => D.eqv z x := by
  have e : dIn x (.tup ds) = if x.pl && D.plL ds && decide (x.depth ≤ 64) then some (ds.any fun z => D.eqv z x) else none := by cases x <;> rfl
  rw [e] at h
  split at h
  · rename_i f; exact ⟨f, (Option.some.inj h).symm⟩
  · cases h
def dInD (x y : D) : Option D := (dIn x y).map .bl
def dNotInD (x y : D) : Option D := (dIn x y).map fun b => .bl (!b)
section
variable {X : Cx}
theorem in_core {pins : List (Addr × Obj)} {σ : St} {H : Hp} {s : Shared} {F : Hp} {a : D} {ds : List D} {x : V} {v : Value} {vs : List V} (I : Inv X pins σ H s) (hF : Same F H) (ha : Dat (gOf X) F x a) (hb : DatL (gOf X) F vs ds) (rx : RelV x v)
    (f : (a.pl && D.plL ds && decide (a.depth ≤ 64)) = true) (hu : X.A.units + 65 < cLine) :
    (∃ as, Reads s.heap v a.toP as) ∧ DpAll X.K H vs (D.toPL ds) ∧ PyData.canLayAll0 (D.toPL ds) = true ∧ a.toP.canLay0 = true ∧ X.A.units + 1 + min (PyData.depthAll (D.toPL ds)) a.toP.depth < cLine := by
  simp only [Bool.and_eq_true, decide_eq_true_eq] at f
  obtain ⟨⟨f1, f2⟩, f3⟩ := f
  obtain ⟨d1, c1, e1⟩ := (ha.mono hF).dp f1
  obtain ⟨d2, c2, e2⟩ := (hb.mono hF).dp f2
  exact ⟨Dp.reads I _ _ _ d1 rx, d2, c2, c1, by rw [e1]; omega⟩
theorem opd_in (hu : X.A.units + 65 < cLine) : OpD X (compareOp .In) dInD := by
  intro pins s σ H x y v u Q I rx ry h
  obtain ⟨F, a, b, d, hF, ha, hb, e, yl⟩ := h
  unfold dInD at e
  obtain ⟨k, e2, rfl⟩ := Option.map_eq_some_iff.mp e
  cases hb with
  | @lst p vs ds hs hl =>
    obtain ⟨f, rfl⟩ := dIn_lst e2
    obtain ⟨⟨as, r1⟩, d2, c2, c1, r⟩ := in_core I hF ha hl rx f hu
    obtain ⟨bs, r2⟩ := Dp.reads I (.list (D.toPL ds)) _ _ (.lst (EVseq hF hs) d2) ry
    exact SeqAt.in_list_reads r2 r1 c2 c1 r ⟨.bl _, H, I, by rw [toPL_any]; rfl, yl.flat hF (.bl _)⟩
  | @tup p vs ds hs hl =>
    obtain ⟨f, rfl⟩ := dIn_tup e2
    obtain ⟨⟨as, r1⟩, d2, c2, c1, r⟩ := in_core I hF ha hl rx f hu
    obtain ⟨bs, r2⟩ := Dp.reads I (.tuple (D.toPL ds)) _ _ (.tup (Same.seqT hF hs) d2) ry
    exact SeqAt.in_tuple_reads r2 r1 c2 c1 r ⟨.bl _, H, I, by rw [toPL_any]; rfl, yl.flat hF (.bl _)⟩
  | str z h2 k2 =>
    cases ha with
    | str x h1 k1 =>
      unfold dIn at e2
      dsimp only at e2
      split at e2
      · rename_i c ec
        cases e2
        have ex : x = ⟨#[c]⟩ := by
          obtain ⟨cps⟩ := x
          congr
          apply Array.ext'
          simpa using ec
        exact op_in_sign pins s σ H _ _ v u Q I rx ry ⟨c, z, by rw [ex], rfl, yl.flat hF (.bl _)⟩
      · cases e2
    | _ => cases e2
  | _ => cases ha <;> cases e2
theorem opd_notin (hu : X.A.units + 65 < cLine) : OpD X (compareOp .NotIn) dNotInD := by
  intro pins s σ H x y v u Q I rx ry h
  obtain ⟨F, a, b, d, hF, ha, hb, e, yl⟩ := h
  unfold dNotInD at e
  obtain ⟨k, e2, rfl⟩ := Option.map_eq_some_iff.mp e
  cases hb with
  | @lst p vs ds hs hl =>
    obtain ⟨f, rfl⟩ := dIn_lst e2
    obtain ⟨⟨as, r1⟩, d2, c2, c1, r⟩ := in_core I hF ha hl rx f hu
    obtain ⟨bs, r2⟩ := Dp.reads I (.list (D.toPL ds)) _ _ (.lst (EVseq hF hs) d2) ry
    exact SeqAt.notIn_list_reads r2 r1 c2 c1 r ⟨.bl _, H, I, by rw [toPL_any]; rfl, yl.flat hF (.bl _)⟩
  | @tup p vs ds hs hl =>
    obtain ⟨f, rfl⟩ := dIn_tup e2
    obtain ⟨⟨as, r1⟩, d2, c2, c1, r⟩ := in_core I hF ha hl rx f hu
    obtain ⟨bs, r2⟩ := Dp.reads I (.tuple (D.toPL ds)) _ _ (.tup (Same.seqT hF hs) d2) ry
    exact SeqAt.notIn_tuple_reads r2 r1 c2 c1 r ⟨.bl _, H, I, by rw [toPL_any]; rfl, yl.flat hF (.bl _)⟩
  | str z h2 k2 =>
    cases ha with
    | str x h1 k1 =>
      unfold dIn at e2
      dsimp only at e2
      split at e2
      · rename_i c ec
        cases e2
        have ex : x = ⟨#[c]⟩ := by
          obtain ⟨cps⟩ := x
          congr
          apply Array.ext'
          simpa using ec
        exact op_notIn_sign pins s σ H _ _ v u Q I rx ry ⟨c, z, by rw [ex], rfl, yl.flat hF (.bl _)⟩
      · cases e2
    | _ => cases e2
  | _ => cases ha <;> cases e2
/-! ## is None -/
def D.isNon : D → Bool
  | .non => true
  | _ => false
theorem Dat.non_iff {g : Gb} {F : Hp} {v : V} {d : D} (h : Dat g F v d) : decide (v = .non) = d.isNon := by
  cases h <;> simp [D.isNon]
def dIsN : D → D → Option D := fun a b => if b.isNon then some (.bl a.isNon) else none
def dNotN : D → D → Option D := fun a b => if b.isNon then some (.bl (!a.isNon)) else none
theorem opd_isN : OpD X (compareOp .Is) dIsN := by
  intro pins s σ H x y v u Q I rx ry h
  obtain ⟨F, a, b, d, hF, ha, hb, e, yl⟩ := h
  unfold dIsN at e
  split at e
  · rename_i hn
    cases e
    have : y = .non := by rw [← hb.non_iff] at hn; simpa using hn
    exact op_isN pins s σ H x y v u Q I rx ry ⟨this, by rw [ha.non_iff]; exact yl.flat hF (.bl _)⟩
  · cases e
theorem opd_notN : OpD X (compareOp .IsNot) dNotN := by
  intro pins s σ H x y v u Q I rx ry h
  obtain ⟨F, a, b, d, hF, ha, hb, e, yl⟩ := h
  unfold dNotN at e
  split at e
  · rename_i hn
    cases e
    have : y = .non := by rw [← hb.non_iff] at hn; simpa using hn
    exact op_notN pins s σ H x y v u Q I rx ry ⟨this, by rw [ha.non_iff]; exact yl.flat hF (.bl _)⟩
  · cases e
end

/-! ## chains -/
section
variable {X : Cx} {Z : Sg} {own : Own} {W : WX} {pos : Pos} {a b c : Expr} {fa fb fc : E}
/-- a op b op' c -/
def eChain (f f' : D → D → Option D) (a b c : E) : E := eBind a fun x => eBind b fun y => fun ρ => match f x y with
  | some (.bl true) => eBind c (fun z ρ => match f' y z with
    | some d => .ok d ρ
    | none => .stk) ρ
  | some (.bl false) => .ok (.bl false) ρ
  | _ => .stk
theorem tChain_of {g : Gb} {f f' : D → D → Option D} {σ : St} {H : Hp} {Q : VK} (h : tE g Z own W (eChain f f' fa fb fc) σ H Q) : tChain (rD2 g f) (rD2 g f') (tE g Z own W fa) (tE g Z own W fb) (tE g Z own W fc) σ H Q := by
  obtain ⟨B, F, fp, ρ, R, P⟩ := h
  refine bindR R P fun F1 fp1 ρ1 x v H1 s1 R1 hx P1 => ?_
  refine bindR R1 P1 fun F2 fp2 ρ2 y u H2 s2 R2 hy P2 => ?_
  cases e : f x y with
  | none => rw [e] at P2; exact P2.elim
  | some d =>
    rw [e] at P2
    cases d with
    | bl k =>
      refine ⟨F2, x, y, .bl k, R2.sub, hx.mono s2, hy, e, fun F3 H3 z G hz => ?_⟩
      cases hz
      refine ⟨k, rfl, ?_⟩
      cases k with
      | false =>
        rw [if_neg Bool.false_ne_true]
        exact P2 F3 fp2 H3 _ G.ff (R2.grow G) (.bl _)
      | true =>
        rw [if_pos rfl]
        have P3 : RPost g Z B own W σ F3 (eBind fc (fun z ρ => match f' y z with
          | some d => .ok d ρ
          | none => .stk) ρ2) Q := by
          dsimp only at P2
          revert P2
          generalize eBind fc (fun z ρ => match f' y z with
            | some d => Rs.ok d ρ
            | none => Rs.stk) ρ2 = r
          intro P2
          cases r with
          | ok d' ρ' => exact fun F' fp' H' v s' => P2 F' fp' H' v (G.ff.trans s')
          | ex x' ρ' => exact fun F' fp' H' c dx s' => P2 F' fp' H' c dx (G.ff.trans s')
          | stk => exact P2
        refine bindR (R2.grow G) P3 fun F4 fp4 ρ4 z w' H4 s4 R4 hz P4 => ?_
        cases e2 : f' y z with
        | none => rw [e2] at P4; exact P4.elim
        | some d' =>
          rw [e2] at P4
          exact ⟨F4, y, z, d', R4.sub, (hy.mono G.ff).mono s4, hz, e2, RPost.yields R4 P4⟩
    | _ => exact P2.elim
theorem den_chain {op op' : CmpOp} {f f' : D → D → Option D} (ho : OpD X (compareOp op) f) (ho' : OpD X (compareOp op') f') (ha : DenE X Z own W a fa) (hb : DenE X Z own W b fb) (hc : DenE X Z own W c fc) (hm : lastMarks [op, op'] [b, c] = false := by with_unfolding_all rfl) :
    DenE X Z own W (.Compare a [op, op'] [b, c] pos) (eChain f f' fa fb fc) := PEimp (pe_chain ho ho' ha hb hc hm) fun σ H Q h => tChain_of h
/-- a test, as a value that is a bool -/
theorem tE_of_tT {g : Gb} {f : E} {σ : St} {H : Hp} {Q : Bool → Hp → Prop} (hf : ∀ ρ d ρ', f ρ = .ok d ρ' → ∃ k, d = .bl k) (h : tT g Z own W f σ H Q) : tE g Z own W f σ H (fun x H' => ∃ k, x = .bl k ∧ Q k H') := by
  obtain ⟨B, F, fp, ρ, R, P⟩ := h
  refine ⟨B, F, fp, ρ, R, ?_⟩
  cases e : f ρ with
  | ok d ρ' =>
    rw [e] at P
    obtain ⟨k', rfl⟩ := hf _ _ _ e
    obtain ⟨k, t, q⟩ := P
    cases t
    intro F' fp' H' v s R' hd
    cases hd
    exact ⟨_, rfl, q F' fp' H' s R'⟩
  | ex x ρ' => rw [e] at P; exact P
  | stk => rw [e] at P; exact P
theorem eChain_bl {f f' : D → D → Option D} (hf' : ∀ x y d, f' x y = some d → ∃ k, d = .bl k) (ρ : Rho) (d : D) (ρ' : Rho) (h : eChain f f' fa fb fc ρ = .ok d ρ') : ∃ k, d = .bl k := by
  unfold eChain eBind Rs.bind at h
  cases e1 : fa ρ with
  | ok x ρ1 =>
    rw [e1] at h
    dsimp only at h
    cases e2 : fb ρ1 with
    | ok y ρ2 =>
      rw [e2] at h
      dsimp only at h
      cases e3 : f x y with
      | none => rw [e3] at h; cases h
      | some d1 =>
        rw [e3] at h
        cases d1 with
        | bl k =>
          cases k with
          | false => cases h; exact ⟨_, rfl⟩
          | true =>
            dsimp only at h
            cases e4 : fc ρ2 with
            | ok z ρ3 =>
              rw [e4] at h
              dsimp only at h
              cases e5 : f' y z with
              | none => rw [e5] at h; cases h
              | some d2 => rw [e5] at h; cases h; exact hf' _ _ _ e5
            | ex _ _ => rw [e4] at h; cases h
            | stk => rw [e4] at h; cases h
        | _ => cases h
    | ex _ _ => rw [e2] at h; cases h
    | stk => rw [e2] at h; cases h
  | ex _ _ => rw [e1] at h; cases h
  | stk => rw [e1] at h; cases h
theorem dI2_bl {C : Int → Int → Bool} {g : Int → Int → Bool} {x y d : D} (h : dI2 C (fun i j => .bl (g i j)) x y = some d) : ∃ k, d = .bl k := by
  unfold dI2 at h
  split at h
  · split at h
    · cases h; exact ⟨_, rfl⟩
    · cases h
  · cases h
theorem dent_chain {op op' : CmpOp} {f f' : D → D → Option D} (ho : OpD X (compareOp op) f) (ho' : OpD X (compareOp op') f') (hf' : ∀ x y d, f' x y = some d → ∃ k, d = .bl k) (ha : DenE X Z own W a fa) (hb : DenE X Z own W b fb) (hc : DenE X Z own W c fc) (hm : lastMarks [op, op'] [b, c] = false := by with_unfolding_all rfl) :
    DenT X Z own W (.Compare a [op, op'] [b, c] pos) (eChain f f' fa fb fc) := PTimp (pt_chain ho ho' ha hb hc hm) fun σ H Q h => tChain_of (tE_of_tT (eChain_bl hf') h)

/-! ## built-ins by name -/
def rDL (g : Gb) (f : List D → Option D) : List V → Hp → VK → Prop := fun xs H Q => ∃ F ds d, Same F H ∧ DatL g F xs ds ∧ f ds = some d ∧ Yields g F H d Q
abbrev CallD (X : Cx) (u : Value) (f : List D → Option D) : Prop := CallR X u (rDL (gOf X) f)
def eCallB (f : List D → Option D) (fs : List E) : E := eWith fs fun ds ρ => match f ds with
  | some d => .ok d ρ
  | none => .stk
theorem tCB_of {g : Gb} {f : List D → Option D} {fs : List E} {σ : St} {H : Hp} {Q : VK} (h : tE g Z own W (eCallB f fs) σ H Q) : tCB (rDL g f) (tA g Z own W fs) σ H Q := by
  obtain ⟨B, F, fp, ρ, R, P⟩ := h
  refine withR R P fun F1 fp1 ρ1 ds vs H1 s1 R1 hd hl P1 => ?_
  cases e : f ds with
  | none => rw [e] at P1; exact P1.elim
  | some d =>
    rw [e] at P1
    exact ⟨F1, ds, d, R1.sub, hd, e, RPost.yields R1 P1⟩
end
end EV
namespace EV
open PySem PySem.Spec PyProof.Rows L2
section
variable {X : Cx} {Z : Sg} {own : Own} {W : WX} {pos p : Pos} {e : Expr} {es : List Expr} {fs : List E} {x : Str} {idn T : String}
theorem den_callB {f : List D → Option D} (hc : CallD X (.builtin idn) f) (hg : L2.Gl X x) (hm : X.mg x = none) (hv : bootBuiltins x = some (.builtin idn)) (ha : DenA X Z own W (e :: es) fs) (hn : x ≠ "__name__" := by decide) (hdb : (x == ("__debug__" : Str)) = false := by decide)
    (he : starEach (e :: es) X.env = (false, eval e X.env) :: starEach es X.env := by rfl) (hpl : (backTo pos (starEach es X.env)).any (·.1) = false := by rfl) : DenE X Z own W (.Call (.Name x p) (e :: es) [] pos) (eCallB f fs) :=
  PEimp (pe_callB hc hg hm hv ha hn hdb he hpl) fun σ H Q h => tCB_of h
theorem den_callTy {f : List D → Option D} (hc : CallD X (.type T) f) (hg : L2.Gl X x) (hm : X.mg x = none) (hv : bootBuiltins x = some (.type T)) (ha : DenA X Z own W (e :: es) fs) (hn : x ≠ "__name__" := by decide) (hdb : (x == ("__debug__" : Str)) = false := by decide)
    (he : starEach (e :: es) X.env = (false, eval e X.env) :: starEach es X.env := by rfl) (hpl : (backTo pos (starEach es X.env)).any (·.1) = false := by rfl) : DenE X Z own W (.Call (.Name x p) (e :: es) [] pos) (eCallB f fs) :=
  PEimp (pe_callTy hc hg hm hv ha hn hdb he hpl) fun σ H Q h => tCB_of h

def bLen : List D → Option D
  | [.str x] => some (.int x.length)
  | [.lst xs] => some (.int xs.length)
  | [.tup xs] => some (.int xs.length)
  | _ => none
theorem cd_len : CallD X (.builtin "len") bLen := by
  intro pins s σ H xs us Q I r h
  obtain ⟨F, ds, d, hF, hd, e, yl⟩ := h
  cases hd with
  | nil => cases e
  | cons h1 t =>
    cases t with
    | cons _ _ => rename_i d1 _ _ _ _ _ _; cases d1 <;> cases e
    | nil =>
      refine call_len pins s σ H _ us Q I r ?_
      cases h1 with
      | str x hx k => cases e; exact ⟨_, x.length, rfl, ⟨hx, rfl⟩, yl.flat hF (.int _)⟩
      | @lst a vs ds hs hl => cases e; exact ⟨_, ds.length, rfl, .inl ⟨vs, EVseq hF hs, hl.length.symm⟩, yl.flat hF (.int _)⟩
      | @tup a vs ds hs hl => cases e; exact ⟨_, ds.length, rfl, .inr ⟨vs, Same.seqT hF hs, hl.length.symm⟩, yl.flat hF (.int _)⟩
      | _ => cases e
def bInt : List D → Option D
  | [.int i] => some (.int i)
  | [.bl k] => some (.int (if k then 1 else 0))
  | _ => none
theorem cd_int : CallD X (.type "int") bInt := by
  intro pins s σ H xs us Q I r h
  obtain ⟨F, ds, d, hF, hd, e, yl⟩ := h
  cases hd with
  | nil => cases e
  | cons h1 t =>
    cases t with
    | cons _ _ => rename_i d1 _ _ _ _ _ _; cases d1 <;> cases e
    | nil =>
      refine call_int1 pins s σ H _ us Q I r ?_
      cases h1 with
      | int i => cases e; exact .inl ⟨i, rfl, yl.flat hF (.int _)⟩
      | bl k => cases e; exact .inr ⟨k, rfl, yl.flat hF (.int _)⟩
      | _ => cases e
def bAbs : List D → Option D
  | [.int i] => some (.int (if i < 0 then -i else i))
  | _ => none
theorem cd_abs : CallD X (.builtin "abs") bAbs := by
  intro pins s σ H xs us Q I r h
  obtain ⟨F, ds, d, hF, hd, e, yl⟩ := h
  cases hd with
  | nil => cases e
  | cons h1 t =>
    cases t with
    | cons _ _ => rename_i d1 _ _ _ _ _ _; cases d1 <;> cases e
    | nil =>
      refine call_abs pins s σ H _ us Q I r ?_
      cases h1 with
      | int i => cases e; exact ⟨i, rfl, yl.flat hF (.int _)⟩
      | _ => cases e
/-- a list of bools -/
def blsOf : List D → Option (List Bool)
  | [] => some []
  | .bl b :: r => (blsOf r).map (b :: ·)
  | _ => none
theorem bls_of {g : Gb} {F : Hp} : ∀ {vs : List V} {ds : List D} {bs : List Bool}, DatL g F vs ds → blsOf ds = some bs → vs = bs.map V.bl
  | _, _, _, .nil, e => by cases e; rfl
  | _, _, _, .cons h t, e => by
    cases h with
    | bl b =>
      unfold blsOf at e
      obtain ⟨r, e1, rfl⟩ := Option.map_eq_some_iff.mp e
      rw [bls_of t e1]; rfl
    | _ => cases e
def bAll : List D → Option D
  | [.lst ds] => (blsOf ds).map fun bs => .bl (bs.all id)
  | _ => none
def bAny : List D → Option D
  | [.lst ds] => (blsOf ds).map fun bs => .bl (bs.any id)
  | _ => none
theorem cd_all (hc : X.calm = true) : CallD X (.builtin "all") bAll := by
  intro pins s σ H xs us Q I r h
  obtain ⟨F, ds, d, hF, hd, e, yl⟩ := h
  cases hd with
  | nil => cases e
  | cons h1 t =>
    cases t with
    | cons _ _ => rename_i d1 _ _ _ _ _ _; cases d1 <;> cases e
    | nil =>
      cases h1 with
      | @lst a vs ds hs hl =>
        obtain ⟨bs, e1, rfl⟩ := Option.map_eq_some_iff.mp e
        refine cr_all hc pins s σ H _ us Q I r ⟨a, bs, rfl, ?_, yl.flat hF (.bl _)⟩
        rw [← bls_of hl e1]
        exact EVseq hF hs
      | _ => cases e
theorem cd_any (hc : X.calm = true) : CallD X (.builtin "any") bAny := by
  intro pins s σ H xs us Q I r h
  obtain ⟨F, ds, d, hF, hd, e, yl⟩ := h
  cases hd with
  | nil => cases e
  | cons h1 t =>
    cases t with
    | cons _ _ => rename_i d1 _ _ _ _ _ _; cases d1 <;> cases e
    | nil =>
      cases h1 with
      | @lst a vs ds hs hl =>
        obtain ⟨bs, e1, rfl⟩ := Option.map_eq_some_iff.mp e
        refine cr_any hc pins s σ H _ us Q I r ⟨a, bs, rfl, ?_, yl.flat hF (.bl _)⟩
        rw [← bls_of hl e1]
        exact EVseq hF hs
      | _ => cases e
def intsOf : List D → Option (List Int)
  | [] => some []
  | .int b :: r => (intsOf r).map (b :: ·)
  | _ => none
theorem ints_of {g : Gb} {F : Hp} : ∀ {vs : List V} {ds : List D} {bs : List Int}, DatL g F vs ds → intsOf ds = some bs → vs = bs.map V.int
  | _, _, _, .nil, e => by cases e; rfl
  | _, _, _, .cons h t, e => by
    cases h with
    | int b =>
      unfold intsOf at e
      obtain ⟨r, e1, rfl⟩ := Option.map_eq_some_iff.mp e
      rw [ints_of t e1]; rfl
    | _ => cases e
def bSum : List D → Option D
  | [.lst ds] => (intsOf ds).map fun ns => .int ns.sum
  | _ => none
theorem cd_sum (hc : X.calm = true) : CallD X (.builtin "sum") bSum := by
  intro pins s σ H xs us Q I r h
  obtain ⟨F, ds, d, hF, hd, e, yl⟩ := h
  cases hd with
  | nil => cases e
  | cons h1 t =>
    cases t with
    | cons _ _ => rename_i d1 _ _ _ _ _ _; cases d1 <;> cases e
    | nil =>
      cases h1 with
      | @lst a vs ds hs hl =>
        obtain ⟨bs, e1, rfl⟩ := Option.map_eq_some_iff.mp e
        refine cr_sum hc pins s σ H _ us Q I r ⟨a, bs, rfl, ?_, yl.flat hF (.int _)⟩
        rw [← ints_of hl e1]
        exact EVseq hF hs
      | _ => cases e
def maxI : List Int → Int
  | [] => 0
  | [x] => x
  | x :: r => max x (maxI r)
theorem maxI_spec : ∀ (ns : List Int), ns ≠ [] → maxI ns ∈ ns ∧ ∀ y ∈ ns, y ≤ maxI ns
  | [x], _ => by simp [maxI]
  | x :: y :: r, _ => by
    obtain ⟨h1, h2⟩ := maxI_spec (y :: r) (by simp)
    have e : maxI (x :: y :: r) = max x (maxI (y :: r)) := rfl
    rw [e]
    constructor
    · rcases Int.le_total x (maxI (y :: r)) with h | h
      · rw [Int.max_eq_right h]; exact List.mem_cons_of_mem _ h1
      · rw [Int.max_eq_left h]; simp
    · intro z hz
      rcases List.mem_cons.mp hz with rfl | hz
      · exact Int.le_max_left _ _
      · exact Int.le_trans (h2 z hz) (Int.le_max_right _ _)
def bMax : List D → Option D
  | [.lst ds] => match intsOf ds with
    | some (n :: ns) => some (.int (maxI (n :: ns)))
    | _ => none
  | _ => none
theorem cd_max (hc : X.calm = true) : CallD X (.builtin "max") bMax := by
  intro pins s σ H xs us Q I r h
  obtain ⟨F, ds, d, hF, hd, e, yl⟩ := h
  cases hd with
  | nil => cases e
  | cons h1 t =>
    cases t with
    | cons _ _ => rename_i d1 _ _ _ _ _ _; cases d1 <;> cases e
    | nil =>
      cases h1 with
      | @lst a vs ds hs hl =>
        unfold bMax at e
        dsimp only at e
        split at e
        · rename_i n ns e1
          cases e
          refine cr_max hc pins s σ H _ us Q I r ⟨a, n :: ns, rfl, ?_, by simp, fun m hm hall => ?_⟩
          · rw [← ints_of hl e1]
            exact EVseq hF hs
          · obtain ⟨h1, h2⟩ := maxI_spec (n :: ns) (by simp)
            have : m = maxI (n :: ns) := Int.le_antisymm (h2 m hm) (hall _ h1)
            rw [this]
            exact yl.flat hF (.int _)
        · cases e
      | _ => cases e
def bList : List D → Option D
  | [.lst ds] => some (.lst ds)
  | [.tup ds] => some (.lst ds)
  | _ => none
def bTuple : List D → Option D
  | [.lst ds] => some (.tup ds)
  | [.tup ds] => some (.tup ds)
  | _ => none
theorem cd_list : CallD X (.type "list") bList := by
  intro pins s σ H xs us Q I r h
  obtain ⟨F, ds, d, hF, hd, e, yl⟩ := h
  cases hd with
  | nil => cases e
  | cons h1 t =>
    cases t with
    | cons _ _ => rename_i d1 _ _ _ _ _ _; cases d1 <;> cases e
    | nil =>
      refine call_list_of pins s σ H _ us Q I r ?_
      cases h1 with
      | @lst a vs ds hs hl =>
        cases e
        exact ⟨a, vs, rfl, .inl (EVseq hF hs), fun l nl => yl.push hF nl (.lst (.inl (.inl upd_same)) (hl.mono (same_upd (hF.free nl))))⟩
      | @tup a vs ds hs hl =>
        cases e
        exact ⟨a, vs, rfl, .inr (Same.seqT hF hs), fun l nl => yl.push hF nl (.lst (.inl (.inl upd_same)) (hl.mono (same_upd (hF.free nl))))⟩
      | _ => cases e
theorem cd_tuple : CallD X (.type "tuple") bTuple := by
  intro pins s σ H xs us Q I r h
  obtain ⟨F, ds, d, hF, hd, e, yl⟩ := h
  cases hd with
  | nil => cases e
  | cons h1 t =>
    cases t with
    | cons _ _ => rename_i d1 _ _ _ _ _ _; cases d1 <;> cases e
    | nil =>
      refine call_tuple_of pins s σ H _ us Q I r ?_
      cases h1 with
      | @lst a vs ds hs hl =>
        cases e
        exact ⟨a, vs, rfl, .inl ⟨EVseq hF hs, fun l nl => yl.push hF nl (.tup (.inl (.inl upd_same)) (hl.mono (same_upd (hF.free nl))))⟩⟩
      | @tup a vs ds hs hl =>
        cases e
        exact ⟨a, vs, rfl, .inr ⟨Same.seqT hF hs, yl.flat hF (.tup hs hl)⟩⟩
      | _ => cases e

/-! ## subscripts -/
def atD (xs : List D) (i : Int) : Option D := atI xs i
theorem atI_map {α β : Type} {f : α → β} {xs : List α} {i : Int} : atI (xs.map f) i = (atI xs i).map f := by
  unfold atI
  rw [List.length_map]
  cases ixN xs.length i with
  | none => rfl
  | some j => simp
theorem DatL.atI {g : Gb} {F : Hp} {vs : List V} {ds : List D} {i : Int} {d : D} (h : DatL g F vs ds) (e : L2.atI ds i = some d) : ∃ v, L2.atI vs i = some v ∧ Dat g F v d := by
  unfold L2.atI at *
  rw [h.length]
  cases q : ixN ds.length i with
  | none => rw [q] at e; cases e
  | some j => rw [q] at e; exact h.get e
def dGet : D → D → Option D
  | .lst ds, .int i => atI ds i
  | .tup ds, .int i => atI ds i
  | .str x, .int i => (atI x.cps.toList i).map fun c => .str ⟨#[c]⟩
  | _, _ => none
theorem strOk_one {x : Str} {c : Nat} (h : PyData.strOk x = true) (m : c ∈ x.cps.toList) : PyData.strOk ⟨#[c]⟩ = true := by
  unfold PyData.strOk at *
  rw [Array.all_eq_true'] at *
  intro y hy
  simp at hy
  subst hy
  exact h _ (by simpa using m)
theorem atI_mem {α : Type} {xs : List α} {i : Int} {x : α} (h : L2.atI xs i = some x) : x ∈ xs := by
  obtain ⟨j, _, e, _⟩ := atI_get h
  exact List.mem_of_getElem? e
theorem one_le : (1 : Nat) ≤ sizeLine := by decide
theorem ixd_seq : IxR X (rD2 (gOf X) dGet) := by
  intro value slice pins s σ H x y v u Q I rx ry h hs
  obtain ⟨F, a, b, d, hF, ha, hb, e, yl⟩ := h
  cases hb with
  | int i =>
    cases ha with
    | @lst a vs ds hz hl =>
      obtain ⟨w, e1, e2⟩ := hl.atI e
      exact ix_list value slice pins s σ H _ _ v u Q I rx ry ⟨a, vs, i, w, rfl, rfl, EVseq hF hz, e1, yl.flat hF e2⟩ hs
    | @tup a vs ds hz hl =>
      obtain ⟨w, e1, e2⟩ := hl.atI e
      exact ix_tup value slice pins s σ H _ _ v u Q I rx ry ⟨a, vs, i, w, rfl, rfl, Same.seqT hF hz, e1, yl.flat hF e2⟩ hs
    | str z h1 k1 =>
      obtain ⟨c, e1, rfl⟩ := Option.map_eq_some_iff.mp e
      exact ix_str value slice pins s σ H _ _ v u Q I rx ry ⟨z, i, c, rfl, rfl, h1, e1, yl.flat hF (.str _ one_le (strOk_one k1 (atI_mem e1)))⟩ hs
    | _ => cases e
  | _ => cases ha <;> cases e
theorem den_ix {a b : Expr} {fa fb : E} (ha : DenE X Z own W a fa) (hb : DenE X Z own W b fb) (hs : PlainIx b) : DenE X Z own W (.Subscript a b pos) (eOp dGet fa fb) := PEimp (pe_ix ixd_seq ha hb hs) fun σ H Q h => tOp_of h
end
end EV
namespace EV
open PySem PySem.Spec PyProof.Rows L2

/-! ## a new base -/
def Zb : Sg := ⟨[], [], none, fun _ => true⟩
section
variable {g : Gb} {Z : Sg} {B : Bs} {own : Own} {F F' H H' : Hp} {fp : Nat → List Addr} {ρ : Rho} {σ : St}
theorem Rel.rebase (R : Rel g Z B own F fp ρ σ H) : ∃ B2 fp2, (∀ i a, a ∈ fp2 i → a ∈ fp i) ∧ B2.H0 = H ∧ B2.F0 = F ∧ Rel g Zb B2 own F fp2 ρ σ H ∧
    ∀ F' fp' ρ' σ' H', Rel g Zb B2 own F' fp' ρ' σ' H' → (∀ i, own i ≠ none → σ'[i]? = σ[i]?) →
      Rel g Z B own F' fp' ρ' σ' H' ∧ (∀ a o, H a = some o → (∀ i, own i ≠ none → a ∉ fp i) → H' a = some o) ∧ (∀ i a, own i ≠ none → a ∈ fp' i → H a = none ∨ a ∈ fp i) := by
  classical
  let live : Nat → Prop := fun i => own i ≠ none ∧ ∃ d, ρ[i]? = some (some d)
  let fp2 : Nat → List Addr := fun i => if live i then fp i else []
  have fp2sub : ∀ i a, a ∈ fp2 i → live i ∧ a ∈ fp i := fun i a h => by
    have h' : a ∈ (if live i then fp i else []) := h
    split at h'
    · exact ⟨by assumption, h'⟩
    · simp at h'
  have fp2at : ∀ i, live i → fp2 i = fp i := fun i h => if_pos h
  let pins2 : List (Nat × V) := (List.range ρ.length).filterMap fun i => if live i then (match σ[i]? with
    | some (some v) => some (i, v)
    | _ => none) else none
  have pinIn : ∀ i, live i → ∃ p ∈ pins2, p.1 = i := fun i hl => by
    obtain ⟨hn, d, hd⟩ := id hl
    obtain ⟨sh, hsh⟩ := Option.ne_none_iff_exists'.mp hn
    obtain ⟨v, hv, _⟩ := R.ownd i sh d hsh hd
    refine ⟨(i, v), List.mem_filterMap.mpr ⟨i, List.mem_range.mpr (List.getElem?_eq_some_iff.mp hd).1, ?_⟩, rfl⟩
    rw [if_pos hl, hv]
  have ofPin : ∀ p ∈ pins2, live p.1 ∧ σ[p.1]? = some (some p.2) := fun p hp => by
    obtain ⟨i, _, e⟩ := List.mem_filterMap.mp hp
    split at e
    · rename_i hl
      split at e
      · rename_i v hv
        cases e
        exact ⟨hl, hv⟩
      · cases e
    · cases e
  refine ⟨⟨F, H, fp2, pins2⟩, fp2, fun i a h => (fp2sub i a h).2, rfl, rfl, ⟨R.len, R.sub, R.frz, fun i sh d n e => ?_, fun i a n ha => ?_, fun i j a ni nj ne ha hb => R.dis i j a ni nj ne (fp2sub i a ha).2 (fp2sub j a hb).2, Same.refl _, fun a o h => .inl h, fun a o h _ => h, fun a h => h,
    fun p hp => (ofPin p hp).2, fun p hp => (ofPin p hp).1.1, fun p hp => rfl, fun p hp => (ofPin p hp).1.2, fun p hp => by simp [Zb] at hp⟩, fun F' fp' ρ' σ' H' R' hσ => ⟨?_, fun a o h hn => R'.keep a o h fun p hp hm => hn p.1 (ofPin p hp).1.1 (fp2sub _ _ hm).2, fun i a n ha => ?_⟩⟩
  · rw [fp2at i ⟨by rw [n]; simp, d, e⟩]
    exact R.ownd i sh d n e
  · obtain ⟨hl, hm⟩ := fp2sub i a ha
    obtain ⟨h1, h2, _⟩ := R.out i a n hm
    obtain ⟨p, hp, e⟩ := pinIn i hl
    exact ⟨h1, h2, .inr ⟨ha, p, hp, e⟩⟩
  · have H0n : ∀ a, H a = none → B.H0 a = none := fun a e => by
      cases q : B.H0 a with
      | none => rfl
      | some o => exact absurd e (R.tr a (by rw [q]; simp))
    refine ⟨R'.len, R'.sub, R'.frz, R'.ownd, fun i a n ha => ?_, R'.dis, R.ext.trans R'.ext, fun a o e => ?_, fun a o e hn => ?_, fun a h => R'.tr a (R.tr a h), fun p hp => ?_, R.pino, R.pinZ, fun p hp => ?_, R.iox⟩
    · obtain ⟨h1, h2, h3⟩ := R'.out i a n ha
      refine ⟨h1, h2, ?_⟩
      rcases h3 with h3 | ⟨h3, _⟩
      · exact .inl (H0n a h3)
      · exact (R.out i a n (fp2sub i a h3).2).2.2
    · rcases R'.new a o e with z | z
      · exact R.new a o z
      · exact .inr (H0n a z)
    · refine R'.keep a o (R.keep a o e hn) fun p hp hm => ?_
      rcases (R.out p.1 a (ofPin p hp).1.1 (fp2sub _ _ hm).2).2.2 with z | ⟨z, q, hq, e'⟩
      · rw [z] at e; cases e
      · exact hn q hq (by rw [e']; exact z)
    · rw [hσ p.1 (R.pino p hp)]; exact R.pin p hp
    · obtain ⟨q, hq, e⟩ := pinIn p.1 ⟨R.pino p hp, R.pind p hp⟩
      rw [← e]; exact R'.pind q hq
  · obtain ⟨_, _, h3⟩ := R'.out i a n ha
    rcases h3 with h3 | ⟨h3, _⟩
    · exact .inl h3
    · exact .inr (fp2sub i a h3).2

/-! ## slots forgotten and given back -/
def wipeR (ρ : Rho) : List Nat → Rho
  | [] => ρ
  | v :: vs => (wipeR ρ vs).set v none
theorem wipeR_len (ρ : Rho) : ∀ vs : List Nat, (wipeR ρ vs).length = ρ.length
  | [] => rfl
  | v :: vs => by unfold wipeR; rw [List.length_set, wipeR_len ρ vs]
theorem wipeR_get {ρ : Rho} {j : Nat} : ∀ {vs : List Nat}, (wipeR ρ vs)[j]? = if j ∈ vs ∧ j < ρ.length then some none else ρ[j]?
  | [] => by simp [wipeR]
  | v :: vs => by
    unfold wipeR
    rw [List.getElem?_set, wipeR_len, wipeR_get (vs := vs)]
    by_cases e : v = j
    · subst e
      by_cases h : v < ρ.length
      · simp [h]
      · simp [h, List.getElem?_eq_none (Nat.le_of_not_lt h)]
    · have e' : ¬ j = v := fun z => e z.symm
      simp [e, e']
theorem wipeR_some {ρ : Rho} {j : Nat} {d : D} {vs : List Nat} (h : (wipeR ρ vs)[j]? = some (some d)) : j ∉ vs ∧ ρ[j]? = some (some d) := by
  rw [wipeR_get] at h
  split at h
  · cases h
  · rename_i n
    refine ⟨fun m => ?_, h⟩
    have := (List.getElem?_eq_some_iff.mp h).1
    exact n ⟨m, this⟩
theorem wipe_out' {σ : St} {j : Nat} {vs : List Nat} (h : j ∉ vs) : (L2.wipe σ vs)[j]? = σ[j]? := by
  rw [wipe_get, if_neg fun z => h z.1]
theorem wipe_wipe {σ : St} {vs : List Nat} : L2.wipe (L2.wipe σ vs) vs = L2.wipe σ vs := by
  apply List.ext_getElem?
  intro j
  rw [wipe_get, wipe_get, L2.wipe_length]
  by_cases h : j ∈ vs ∧ j < σ.length
  · rw [if_pos h, if_pos h]
  · rw [if_neg h, if_neg h]
theorem Rel.wipe (R : Rel g Z B own F fp ρ σ H) {vs : List Nat} (hv : ∀ i ∈ vs, own i = none) : Rel g Z B own F fp (wipeR ρ vs) (L2.wipe σ vs) H where
  len := by rw [wipeR_len, L2.wipe_length]; exact R.len
  sub := R.sub
  frz := fun i d e n => by
    obtain ⟨h1, h2⟩ := wipeR_some e
    rw [wipe_out' h1]; exact R.frz i d h2 n
  ownd := fun i sh d n e => by
    obtain ⟨h1, h2⟩ := wipeR_some e
    rw [wipe_out' h1]; exact R.ownd i sh d n h2
  out := R.out
  dis := R.dis
  ext := R.ext
  new := R.new
  keep := R.keep
  tr := R.tr
  pin := fun p hp => by rw [wipe_out' fun m => R.pino p hp (hv _ m)]; exact R.pin p hp
  pino := R.pino
  pinZ := R.pinZ
  pind := fun p hp => by
    have m : p.1 ∉ vs := fun m => R.pino p hp (hv _ m)
    rw [wipeR_get, if_neg fun z => m z.1]; exact R.pind p hp
  iox := R.iox
/-- the slots vs from ρ1, the others from ρ2 -/
def restoreR (ρ1 : Rho) : List Nat → Rho → Rho
  | [], ρ2 => ρ2
  | v :: vs, ρ2 => (restoreR ρ1 vs ρ2).set v (ρ1[v]?.getD none)
theorem restoreR_len (ρ1 ρ2 : Rho) : ∀ vs : List Nat, (restoreR ρ1 vs ρ2).length = ρ2.length
  | [] => rfl
  | v :: vs => by unfold restoreR; rw [List.length_set, restoreR_len ρ1 ρ2 vs]
theorem restoreR_get {ρ1 ρ2 : Rho} {j : Nat} (hl : ρ1.length = ρ2.length) : ∀ {vs : List Nat}, (restoreR ρ1 vs ρ2)[j]? = if j ∈ vs then ρ1[j]? else ρ2[j]?
  | [] => by simp [restoreR]
  | v :: vs => by
    unfold restoreR
    rw [List.getElem?_set, restoreR_len, restoreR_get hl (vs := vs)]
    by_cases e : v = j
    · subst e
      by_cases h : v < ρ2.length
      · simp [h]
        rw [List.getElem?_eq_getElem (by omega)]; rfl
      · simp [h, List.getElem?_eq_none (show ρ1.length ≤ v by omega)]
    · have e' : ¬ j = v := fun z => e z.symm
      simp [e, e']
theorem restoreR_wipe {ρ : Rho} {vs : List Nat} : restoreR ρ vs (wipeR ρ vs) = ρ := by
  apply List.ext_getElem?
  intro j
  rw [restoreR_get (by rw [wipeR_len]), wipeR_get]
  by_cases h : j ∈ vs
  · rw [if_pos h]
  · rw [if_neg h, if_neg fun z => h z.1]
theorem Rel.restore {ρ2 : Rho} {fp2 : Nat → List Addr} (R1 : Rel g Z B own F fp ρ σ H) {vs : List Nat} (hv : ∀ i ∈ vs, own i = none) (R2 : Rel g Z B own F' fp2 ρ2 (L2.wipe σ vs) H') (s : Same F F') : Rel g Z B own F' fp2 (restoreR ρ vs ρ2) σ H' := by
  have hl : ρ.length = ρ2.length := by rw [← R2.len, L2.wipe_length]; exact R1.len.symm
  refine ⟨by rw [restoreR_len, ← hl]; exact R1.len, R2.sub, fun i d e n => ?_, fun i sh d n e => ?_, R2.out, R2.dis, R2.ext, R2.new, R2.keep, R2.tr, R1.pin, R2.pino, R2.pinZ, fun p hp => ?_, R2.iox⟩
  · rw [restoreR_get hl] at e
    by_cases m : i ∈ vs
    · rw [if_pos m] at e
      obtain ⟨v, h1, h2⟩ := R1.frz i d e n
      exact ⟨v, h1, h2.mono s⟩
    · rw [if_neg m] at e
      obtain ⟨v, h1, h2⟩ := R2.frz i d e n
      rw [wipe_out' m] at h1
      exact ⟨v, h1, h2⟩
  · have m : i ∉ vs := fun m => by rw [hv i m] at n; cases n
    rw [restoreR_get hl, if_neg m] at e
    obtain ⟨v, h1, h2⟩ := R2.ownd i sh d n e
    rw [wipe_out' m] at h1
    exact ⟨v, h1, h2⟩
  · have m : p.1 ∉ vs := fun m => R2.pino p hp (hv _ m)
    rw [restoreR_get hl, if_neg m]; exact R2.pind p hp
/-- an object of nobody's is changed -/
theorem Rel.upd (R : Rel g Z B own F fp ρ σ H) {a : Addr} {o : HO} (h0 : B.H0 a = none) (hF : F a = none) (hfp : ∀ i, own i ≠ none → a ∉ fp i) : Rel g Z B own F fp ρ σ (L2.upd H a o) where
  len := R.len
  sub := fun b u e => by
    have ne : b ≠ a := fun z => by rw [z, hF] at e; cases e
    rw [upd_ne ne]; exact R.sub b u e
  frz := R.frz
  ownd := fun i sh d n e => by
    obtain ⟨v, h1, h2⟩ := R.ownd i sh d n e
    refine ⟨v, h1, h2.mono (Same.refl _) fun b hb => upd_ne fun z => ?_⟩
    subst z
    exact hfp i (by rw [n]; simp) hb
  out := fun i b n hb => by
    obtain ⟨h1, h2, h3⟩ := R.out i b n hb
    have ne : b ≠ a := fun z => by subst z; exact hfp i n hb
    exact ⟨h1, by rw [upd_ne ne]; exact h2, h3⟩
  dis := R.dis
  ext := R.ext
  new := R.new
  keep := fun b u e n => by
    have ne : b ≠ a := fun z => by rw [z, h0] at e; cases e
    rw [upd_ne ne]; exact R.keep b u e n
  tr := fun b e => by
    by_cases z : b = a
    · subst z; exact absurd h0 e
    · rw [upd_ne z]; exact R.tr b e
  pin := R.pin
  pino := R.pino
  pinZ := R.pinZ
  pind := R.pind
  iox := R.iox
end

/-! ## list comprehensions -/
/-- the items made: t the test, e the element; what is raised within is not told -/
def lcL (vs : List Nat) (g : Tg) (t e : E) : List D → Rho → RL
  | [], ρ => .ok [] ρ
  | d :: ds, ρ => match g d ρ with
    | none => .stk
    | some ρ1 => match t ρ1 with
      | .ok b ρ2 => match b.truth with
        | some true => match e ρ2 with
          | .ok y ρ3 => match lcL vs g t e ds (wipeR ρ3 vs) with
            | .ok ys ρ4 => .ok (y :: ys) ρ4
            | _ => .stk
          | _ => .stk
        | some false => lcL vs g t e ds (wipeR ρ2 vs)
        | none => .stk
      | _ => .stk
def eLc (vs : List Nat) (src : E) (g : Tg) (t e : E) : E := fun ρ => match src ρ with
  | .ok (.lst ds) ρ1 => match lcL vs g t e ds (wipeR ρ1 vs) with
    | .ok ys ρ2 => .ok (.lst ys) (restoreR ρ1 vs ρ2)
    | _ => .stk
  | .ex x ρ1 => .ex x ρ1
  | _ => .stk
abbrev noW : WX := fun _ _ _ _ => False
def tTs (g : Gb) (Z : Sg) (own : Own) (W : WX) (f : E) : TT := tT g Z own W f
abbrev DenTs (X : Cx) (Z : Sg) (own : Own) (W : WX) (ifs : List Expr) (f : E) : Prop := PTs X ifs (tT (gOf X) Z own W f)
theorem PTsimp {X : Cx} {e : List Expr} {t t' : TT} (h : PTs X e t) (i : ∀ σ H Q, t' σ H Q → t σ H Q) : PTs X e t' := ⟨fun pins s σ H Q I q => h.run pins s σ H Q I (i _ _ _ q)⟩
section
variable {X : Cx} {Z : Sg} {own : Own} {W : WX} {pos : Pos}
theorem dents_nil : DenTs X Z own W [] (eC (.bl true)) := PTsimp pts_nil fun σ H Q h => by
  obtain ⟨B, F, fp, ρ, R, P⟩ := h
  obtain ⟨b, t, q⟩ := P
  cases t
  exact q F fp H (Same.refl _) R
theorem dents_one {c : Expr} {f : E} (h : DenT X Z own W c f) : DenTs X Z own W [c] f := pts_one h

theorem lc_den {g : Gb} {B : Bs} {own : Own} {vs : List Nat} {fg : Tg} {ft fe : E} {F1 H1 : Hp} {fp1 : Nat → List Addr} {ρ1 : Rho} {σ : St} {items ys : List D} {ρ' : Rho} {J : It} {Q : VK}
    (hv : ∀ i ∈ vs, own i = none) (R1 : Rel g Z B own F1 fp1 ρ1 σ H1) (ok : ItOk g F1 J items) (hz : items.length ≤ sizeLine) (el : lcL vs fg ft fe items (wipeR ρ1 vs) = .ok ys ρ')
    (q : ∀ F2 fp2 H2 A acc, Same F1 F2 → Rel g Z B own F2 fp2 (restoreR ρ1 vs ρ') σ H2 → H2 A = some (.lst acc) → DatL g F2 acc ys → Fresh B own F2 fp2 [A] → Q (.ref A) H2) (A : Addr) (hA : H1 A = none) :
    ∃ W : Nat → Nat → Hp → Prop, (∃ m, W 0 m (upd H1 A (.lst []))) ∧ ∀ i m H, W i m H →
      (J.stop i H ∧ Q (.ref A) H) ∨ (J.go i H ∧ ∃ Nx : Hp → Prop, (∀ H', Nx H' → ∃ m', m' < m ∧ W (i + 1) m' H') ∧ ∀ x H', J.yld i H x H' → tG g Zb own vs fg x (L2.wipe σ vs) H' fun σ2 H2 => L2.wipe σ2 vs = L2.wipe σ vs ∧ tT g Zb own noW ft σ2 H2 fun b H3 =>
        if b = true then tE g Zb own noW fe σ2 H3 fun y H4 => ∃ acc, H4 A = some (.lst acc) ∧ acc.length < sizeLine ∧ Nx (upd H4 A (.lst (acc ++ [y]))) else Nx H3) := by
  have hB0 : B.H0 A = none := by
    cases z : B.H0 A with
    | none => rfl
    | some o => exact absurd hA (R1.tr A (by rw [z]; simp))
  have Rw := R1.wipe hv
  refine ⟨fun i m H => m + i = items.length ∧ ∃ F2 fp2 ρ2 acc ads rest, Same F1 F2 ∧ Rel g Z B own F2 fp2 ρ2 (L2.wipe σ vs) H ∧ H A = some (.lst acc) ∧ F2 A = none ∧ (∀ j, own j ≠ none → A ∉ fp2 j) ∧ DatL g F2 acc ads ∧ acc.length ≤ i ∧ lcL vs fg ft fe (items.drop i) ρ2 = .ok rest ρ' ∧ ys = ads ++ rest,
    ⟨items.length, by omega, F1, fp1, _, [], [], ys, Same.refl _, Rw.upd hB0 (R1.sub.free hA) (fun j nj hm => (R1.out j A nj hm).2.1 hA), upd_same, R1.sub.free hA, fun j nj hm => (R1.out j A nj hm).2.1 hA, .nil, Nat.zero_le _, el, rfl⟩, fun i m H hW => ?_⟩
  obtain ⟨hm, F2, fp2, ρ2, acc, ads, rest, s12, R2, hAcc, hFA, hfA, hD, hlen, el2, eys⟩ := hW
  by_cases hi : i < items.length
  · refine .inr ⟨ok.go i H (s12.trans R2.sub) hi, fun H3 => i + 1 ≤ items.length ∧ ∃ F3 fp3 ρ3 acc ads rest, Same F1 F3 ∧ Rel g Z B own F3 fp3 ρ3 (L2.wipe σ vs) H3 ∧ H3 A = some (.lst acc) ∧ F3 A = none ∧ (∀ j, own j ≠ none → A ∉ fp3 j) ∧ DatL g F3 acc ads ∧ acc.length ≤ i + 1 ∧ lcL vs fg ft fe (items.drop (i + 1)) ρ3 = .ok rest ρ' ∧ ys = ads ++ rest,
      fun H3 ⟨hl, r⟩ => ⟨m - 1, by omega, by omega, r⟩, fun x H' hy => ?_⟩
    obtain ⟨d, F3, ed, G, hx⟩ := ok.yld i F2 H x H' s12 R2.sub hi hy
    have ei : items.drop i = d :: items.drop (i + 1) := by
      rw [List.drop_eq_getElem_cons hi]
      rw [List.getElem?_eq_getElem hi] at ed
      rw [Option.some.inj ed]
    rw [ei] at el2
    unfold lcL at el2
    have hA3 : H' A = some (.lst acc) := G.hh _ _ hAcc
    have hFA3 : F3 A = none := by
      cases z : F3 A with
      | none => rfl
      | some o =>
        rcases G.new A o z with z | z
        · rw [hFA] at z; cases z
        · rw [hAcc] at z; cases z
    have R3 := R2.grow G
    obtain ⟨B2, fpb, hsub, hH0, hF0, Rb, back⟩ := R3.rebase
    -- behind an evaluation within the block: the list stands as it was
    have after : ∀ {F' fp' ρ' σ' H4}, Rel g Zb B2 own F' fp' ρ' σ' H4 → L2.wipe σ' vs = L2.wipe σ vs → Rel g Z B own F' fp' (wipeR ρ' vs) (L2.wipe σ vs) H4 ∧ H4 A = some (.lst acc) ∧ F' A = none ∧ (∀ j, own j ≠ none → A ∉ fp' j) ∧ Same F3 F' := fun {F' fp' ρ' σ' H4} R' hw => by
      have hσ : ∀ j, own j ≠ none → σ'[j]? = (L2.wipe σ vs)[j]? := fun j nj => by
        have mj : j ∉ vs := fun mj => nj (hv j mj)
        rw [← hw, wipe_out' mj]
      obtain ⟨Ra, kp, fo⟩ := back F' fp' ρ' σ' H4 R' hσ
      have Rw' := Ra.wipe hv
      rw [hw] at Rw'
      refine ⟨Rw', kp A _ hA3 fun j nj hm => hfA j nj hm, ?_, fun j nj hm => ?_, hF0 ▸ R'.ext⟩
      · cases z : F' A with
        | none => rfl
        | some o =>
          rcases R'.new A o z with z | z
          · rw [hF0, hFA3] at z; cases z
          · rw [hH0, hA3] at z; cases z
      · rcases fo j A nj hm with z | z
        · rw [hA3] at z; cases z
        · exact hfA j nj z
    cases eg : fg d ρ2 with
    | none => rw [eg] at el2; cases el2
    | some ρ3 =>
      rw [eg] at el2
      dsimp only at el2
      refine ⟨B2, F3, fpb, ρ2, d, ρ3, Rb, hx, eg, fun F4 fp4 σ4 H4 s4 R4 w4 => ⟨w4.trans (by rw [wipe_wipe]), ?_⟩⟩
      have w4' : L2.wipe σ4 vs = L2.wipe σ vs := w4.trans (by rw [wipe_wipe])
      refine ⟨B2, F4, fp4, ρ3, R4, ?_⟩
      cases et : ft ρ3 with
      | ok b ρ4 =>
        rw [et] at el2
        dsimp only at el2 ⊢
        cases tb : b.truth with
        | none => rw [tb] at el2; cases el2
        | some k =>
          rw [tb] at el2
          refine ⟨k, rfl, fun F5 fp5 H5 s5 R5 => ?_⟩
          cases k with
          | false =>
            rw [if_neg Bool.false_ne_true]
            dsimp only at el2
            obtain ⟨Rz, a1, a2, a3, a4⟩ := after R5 w4'
            exact ⟨by omega, F5, fp5, _, acc, ads, rest, (s12.trans G.ff).trans a4, Rz, a1, a2, a3, hD.mono (G.ff.trans a4), by omega, el2, eys⟩
          | true =>
            rw [if_pos rfl]
            dsimp only at el2
            refine ⟨B2, F5, fp5, ρ4, R5, ?_⟩
            cases ee : fe ρ4 with
            | ok y ρ5 =>
              rw [ee] at el2
              dsimp only at el2
              intro F6 fp6 H6 v s6 R6 hy6
              obtain ⟨Rz, a1, a2, a3, a4⟩ := after R6 w4'
              cases er : lcL vs fg ft fe (items.drop (i + 1)) (wipeR ρ5 vs) with
              | ok rs ρ6 =>
                rw [er] at el2
                cases el2
                refine ⟨acc, a1, by omega, by omega, F6, fp6, _, acc ++ [v], ads ++ [y], rs, (s12.trans G.ff).trans a4, Rz.upd hB0 a2 a3, upd_same, a2, a3, (hD.mono (G.ff.trans a4)).append (.cons hy6 .nil), ?_, er, ?_⟩
                · rw [List.length_append]; show acc.length + 1 ≤ i + 1; omega
                · rw [eys, List.append_assoc]; rfl
              | ex _ _ => rw [er] at el2; cases el2
              | stk => rw [er] at el2; cases el2
            | ex _ _ => rw [ee] at el2; cases el2
            | stk => rw [ee] at el2; cases el2
      | ex _ _ => rw [et] at el2; cases el2
      | stk => rw [et] at el2; cases el2
  · have ei : items.drop i = [] := List.drop_of_length_le (by omega)
    rw [ei] at el2
    unfold lcL at el2
    cases el2
    rw [List.append_nil] at eys
    subst eys
    refine .inl ⟨ok.stop i H (s12.trans R2.sub) (by omega), q F2 fp2 H A acc s12 (R1.restore hv R2 s12) hAcc hD ⟨fun a ha => ?_, fun a ha j nj hm => ?_⟩⟩
    · simp at ha; subst ha; exact ⟨hFA, hB0⟩
    · simp at ha; subst ha; exact hfA j nj hm

section
variable {elt tg iter : Expr} {ifs : List Expr} {scope : Scope} {bown : List (Str × Nat)} {fi ft fe : E} {fg : Tg} {vs : List Nat}
theorem lc_tE {g : Gb} {σ : St} {H : Hp} {Q : VK} (hv : ∀ i ∈ vs, own i = none) (h : tE g Z own W (eLc vs fi fg ft fe) σ H Q) :
    tLc (tI g Z own W fi) (tG g Zb own vs fg) (tT g Zb own noW ft) (tE g Zb own noW fe) vs σ H Q := by
  obtain ⟨B, F, fp, ρ, R, P⟩ := h
  refine ⟨B, F, fp, ρ, R, ?_⟩
  unfold eLc at P
  cases e : fi ρ with
  | stk => rw [e] at P; exact P
  | ex x ρ1 => rw [e] at P; exact P
  | ok d ρ1 =>
    rw [e] at P
    cases d with
    | lst items =>
      refine ⟨items, rfl, fun F1 fp1 H1 J s1 R1 ok hz A hA => ?_⟩
      dsimp only at P
      cases el : lcL vs fg ft fe items (wipeR ρ1 vs) with
      | ok ys ρ2 =>
        rw [el] at P
        refine lc_den hv R1 ok hz el (fun F2 fp2 H2 A acc s2 R2 hAcc hD fr => ?_) A hA
        have hs : Same F2 (EV.plus F2 H2 [A]) := plus_same fun a ha => (fr.out a ha).1
        refine P _ fp2 H2 (.ref A) ((s1.trans s2).trans hs) (R2.plus (fun a ha => ?_) fr) (.lst (.inl (.inl ?_)) (hD.mono hs))
        · simp at ha; subst ha; rw [hAcc]; simp
        · rw [plus_at (by simp)]; exact hAcc
      | ex _ _ => rw [el] at P; exact P.elim
      | stk => rw [el] at P; exact P.elim
    | _ => exact P.elim
theorem lc_tO {g : Gb} {σ : St} {H : Hp} {Q : VK} (hv : ∀ i ∈ vs, own i = none) (h : tO g Z own W .lst (eLc vs fi fg ft fe) σ H Q) :
    tLc (tI g Z own W fi) (tG g Zb own vs fg) (tT g Zb own noW ft) (tE g Zb own noW fe) vs σ H Q := by
  obtain ⟨B, F, fp, ρ, R, P⟩ := h
  refine ⟨B, F, fp, ρ, R, ?_⟩
  unfold eLc at P
  cases e : fi ρ with
  | stk => rw [e] at P; exact P
  | ex x ρ1 => rw [e] at P; exact P
  | ok d ρ1 =>
    rw [e] at P
    cases d with
    | lst items =>
      refine ⟨items, rfl, fun F1 fp1 H1 J s1 R1 ok hz A hA => ?_⟩
      dsimp only at P
      cases el : lcL vs fg ft fe items (wipeR ρ1 vs) with
      | ok ys ρ2 =>
        rw [el] at P
        refine lc_den hv R1 ok hz el (fun F2 fp2 H2 A acc s2 R2 hAcc hD fr => ?_) A hA
        exact P F2 fp2 H2 (.ref A) [A] (s1.trans s2) R2 (.lst hAcc hD) fr
      | ex _ _ => rw [el] at P; exact P.elim
      | stk => rw [el] at P; exact P.elim
    | _ => exact P.elim
section
variable (hc : X.calm = true) (hN : X.N.Nodup) (hi : DenI X Z own W tg iter fi) (ok : BlkOk X.N X.env.scope scope bown) (hvs : bown.map (·.2) = vs) (hv : ∀ i ∈ vs, own i = none)
    (hg : ∀ (s : Shared) (H : Hp) (C : Addr) (cl : List (Str × Addr)) (fp : List Addr), DenG (X.blk s H scope (compEnvC scope cl C X.env) fp) Zb own vs tg fg) (ht : ∀ (s : Shared) (H : Hp) (C : Addr) (cl : List (Str × Addr)) (fp : List Addr), DenTs (X.blk s H scope (compEnvC scope cl C X.env) fp) Zb own noW ifs ft)
    (he : ∀ (s : Shared) (H : Hp) (C : Addr) (cl : List (Str × Addr)) (fp : List Addr), DenE (X.blk s H scope (compEnvC scope cl C X.env) fp) Zb own noW elt fe)
include hc hN hi ok hvs hv hg ht he
theorem den_lc (hs : ∀ x, foldedSetIterable iter X.env x = pure x := by intro _; rfl) : DenE X Z own W (.ListComp elt [⟨tg, iter, ifs, 0⟩] scope pos) (eLc vs fi fg ft fe) := by
  subst hvs
  exact PEimp (pe_lc hc hN hi ok hg ht he hs) fun σ H Q h => lc_tE hv h
theorem deno_lc (hs : ∀ x, foldedSetIterable iter X.env x = pure x := by intro _; rfl) : DenO X Z own W .lst (.ListComp elt [⟨tg, iter, ifs, 0⟩] scope pos) (eLc vs fi fg ft fe) := by
  subst hvs
  exact PEimp (pe_lc hc hN hi ok hg ht he hs) fun σ H Q h => lc_tO hv h
/-- y = [..] on one line, y a local -/
theorem den_setLc {own' ob : Own} {i : Nat} {y : Str} {py spos : Pos} (ho : own i = none) (hy : X.N[i]? = some y) (hyl : X.env.scope.names.lookup y = some .local)
    (hsw : swapsWith (.ListComp elt [⟨tg, iter, ifs, 0⟩] scope pos) (some (.Name y py)) spos.line X.env = pure true) (hs : ∀ x, foldedSetIterable iter X.env x = pure x := by intro _; rfl) :
    DenS X Z own own ob W (.Assign [.Name y py] (.ListComp elt [⟨tg, iter, ifs, 0⟩] scope pos) spos) (sSet i (eLc vs fi fg ft fe)) := by
  subst hvs
  exact PSimp (ps_setLc hc hN hy hyl hsw hi ok hg ht he hs) fun D σ H h => lc_tE hv (tS_of h fun B F fp ρ d v H' R hd P => P F fp (σ.set i (some v)) H' (Same.refl _) (R.set ho hd))
theorem den_setLcO {ob : Own} {i : Nat} {y : Str} {py spos : Pos} (ho : own i = some .lst) (np : Z.ioX.all (fun p => p.1 != i) = true) (hp : Z.pinS i = false) (hy : X.N[i]? = some y) (hyl : X.env.scope.names.lookup y = some .local)
    (hsw : swapsWith (.ListComp elt [⟨tg, iter, ifs, 0⟩] scope pos) (some (.Name y py)) spos.line X.env = pure true) (hs : ∀ x, foldedSetIterable iter X.env x = pure x := by intro _; rfl) :
    DenS X Z own own ob W (.Assign [.Name y py] (.ListComp elt [⟨tg, iter, ifs, 0⟩] scope pos) spos) (sSet i (eLc vs fi fg ft fe)) := by
  subst hvs
  refine PSimp (ps_setLc hc hN hy hyl hsw hi ok hg ht he hs) fun D σ H h => lc_tO hv ?_
  obtain ⟨B, F, fp, ρ, R, P⟩ := h
  refine ⟨B, F, fp, ρ, R, ?_⟩
  unfold sSet sOf at P
  cases e1 : eLc (bown.map (·.2)) fi fg ft fe ρ with
  | ok d ρ1 =>
    rw [e1] at P
    dsimp only at P ⊢
    intro F1 fp1 H1 v O s1 R1 hO fr
    refine P F1 (setF fp1 i O) (σ.set i (some v)) H1 s1 ?_
    have := R1.setO (i := i) (notPin R1 hp) (fun p hp' => by simpa using List.all_eq_true.mp np p hp') hO fr
    rw [setF_id ho] at this
    exact this
  | ex x ρ1 =>
    rw [e1] at P
    intro F' fp' H' c dx s R' hx
    exact P F' fp' σ H' c dx own s R' hx
  | stk => rw [e1] at P; exact P
end
end
end
end EV
namespace EV
open PySem PySem.Spec PyProof.Rows L2

/-! ## slices -/
def cutD {α : Type} (xs : List α) (lo hi : Option Int) : List α := (xs.drop (HT.sIx xs.length 0 lo)).take (HT.sIx xs.length xs.length hi - HT.sIx xs.length 0 lo)
def dSlice : D → Option Int → Option Int → Option D
  | .lst xs, lo, hi => some (.lst (cutD xs lo hi))
  | .tup xs, lo, hi => some (.tup (cutD xs lo hi))
  | .str x, lo, hi => some (.str ⟨(cutD x.cps.toList lo hi).toArray⟩)
  | _, _, _ => none
theorem DatL.cut {g : Gb} {F : Hp} {vs : List V} {ds : List D} {lo hi : Option Int} (h : DatL g F vs ds) : DatL g F (cutV vs lo hi) (cutD ds lo hi) := by
  unfold cutV cutD
  rw [h.length]
  exact (h.drop _).take _
theorem strOk_sub {x : Str} {l : List Nat} (h : PyData.strOk x = true) (m : ∀ c ∈ l, c ∈ x.cps.toList) : PyData.strOk ⟨l.toArray⟩ = true := by
  unfold PyData.strOk at *
  rw [Array.all_eq_true'] at *
  intro y hy
  exact h _ (by simpa using m y (by simpa using hy))
theorem cutD_sub {α : Type} {xs : List α} {lo hi : Option Int} {x : α} (h : x ∈ cutD xs lo hi) : x ∈ xs := List.mem_of_mem_drop (List.mem_of_mem_take h)
theorem cutD_len {α : Type} {xs : List α} {lo hi : Option Int} : (cutD xs lo hi).length ≤ xs.length := by
  unfold cutD
  rw [List.length_take, List.length_drop]
  omega
def rSlD (g : Gb) : V → Option Int → Option Int → Hp → VK → Prop := fun x lo hi H Q => ∃ F a d, Same F H ∧ Dat g F x a ∧ dSlice a lo hi = some d ∧ Yields g F H d Q
def tP (g : Gb) (Z : Sg) (own : Own) (W : WX) (f : Option E) : TO := fun σ H Q => match f with
  | none => Q none H
  | some f => tE g Z own W f σ H fun x H1 => ∃ i, x = .int i ∧ Q (some i) H1
def asInt : D → Option Int
  | .int i => some i
  | _ => none
/-- a part of a slice -/
def ePart (f : Option E) (k : Option Int → E) : E := match f with
  | none => k none
  | some f => eBind f fun d => match asInt d with
    | some i => k (some i)
    | none => fun _ => .stk
def eSlice (a : E) (lo hi : Option E) : E := eBind a fun x => ePart lo fun l => ePart hi fun h => fun ρ => match dSlice x l h with
  | some d => .ok d ρ
  | none => .stk
section
variable {X : Cx} {Z : Sg} {own : Own} {W : WX} {pos p2 : Pos}
theorem sld : SlR X (rSlD (gOf X)) := by
  intro pins s σ H x v vl vu lo hi sl Q I rx hs pl pu h
  obtain ⟨F, a, d, hF, ha, e, yl⟩ := h
  cases ha with
  | @lst a vs ds hz hl =>
    cases e
    refine sl_list pins s σ H _ v vl vu lo hi sl Q I rx hs pl pu ⟨a, vs, rfl, EVseq hF hz, fun p np => ?_⟩
    exact yl.push hF np (.lst (.inl (.inl upd_same)) (hl.cut.mono (same_upd (hF.free np))))
  | @tup a vs ds hz hl =>
    cases e
    refine sl_tupA pins s σ H _ v vl vu lo hi sl Q I rx hs pl pu ⟨a, vs, rfl, Same.seqT hF hz, fun hw => ?_, fun _ p np => ?_⟩
    · have ec : cutD ds lo hi = ds := by
        unfold cutD
        rw [← hl.length, hw.1, hw.2, List.drop_zero, Nat.sub_zero, hl.length, List.take_length]
      rw [ec] at yl
      exact yl.flat hF (.tup hz hl)
    · exact yl.push hF np (.tup (.inl (.inl upd_same)) (hl.cut.mono (same_upd (hF.free np))))
  | str z h1 k1 =>
    cases e
    refine sl_str pins s σ H _ v vl vu lo hi sl Q I rx hs pl pu ⟨z, rfl, h1, ?_⟩
    have e2 : cutS z lo hi = ⟨(cutD z.cps.toList lo hi).toArray⟩ := by
      unfold cutS cutD Str.length
      rw [Array.length_toList]
    rw [e2]
    refine yl.flat hF (.str _ ?_ (strOk_sub k1 fun c hc => cutD_sub hc))
    show (cutD z.cps.toList lo hi).toArray.size ≤ sizeLine
    rw [List.size_toArray]
    have := cutD_len (xs := z.cps.toList) (lo := lo) (hi := hi)
    rw [Array.length_toList] at this
    exact Nat.le_trans this h1
  | _ => cases e
theorem partR {g : Gb} {B : Bs} {F : Hp} {fp : Nat → List Addr} {ρ : Rho} {σ : St} {H : Hp} {f : Option E} {k : Option Int → E} {Q : VK} {R : Option Int → Hp → Prop} (R0 : Rel g Z B own F fp ρ σ H) (P : RPost g Z B own W σ F (ePart f k ρ) Q)
    (hk : ∀ F1 fp1 ρ1 o H1, Same F F1 → Rel g Z B own F1 fp1 ρ1 σ H1 → RPost g Z B own W σ F1 (k o ρ1) Q → R o H1) : tP g Z own W f σ H R := by
  cases f with
  | none => exact hk F fp ρ none H (Same.refl _) R0 P
  | some f =>
    refine bindR R0 P fun F1 fp1 ρ1 d v H1 s1 R1 hd P1 => ?_
    cases e : asInt d with
    | none => rw [e] at P1; exact P1.elim
    | some i =>
      rw [e] at P1
      cases hd with
      | int j => cases e; exact ⟨_, rfl, hk F1 fp1 ρ1 (some _) H1 s1 R1 P1⟩
      | _ => cases e
abbrev DenP (X : Cx) (Z : Sg) (own : Own) (W : WX) (e : Option Expr) (f : Option E) : Prop := PO X e (tP (gOf X) Z own W f)
theorem denp_none : DenP X Z own W none none := po_none
theorem denp_some {e : Expr} {f : E} (h : DenE X Z own W e f) : DenP X Z own W (some e) (some f) := po_some h
theorem slice_tE {g : Gb} {fa : E} {fl fh : Option E} {σ : St} {H : Hp} {Q : VK} (h : tE g Z own W (eSlice fa fl fh) σ H Q) : tSl (rSlD g) (tE g Z own W fa) (tP g Z own W fl) (tP g Z own W fh) σ H Q := by
  obtain ⟨B, F, fp, ρ, R, P⟩ := h
  refine bindR R P fun F1 fp1 ρ1 x v H1 s1 R1 hx P1 => ?_
  refine partR R1 P1 fun F2 fp2 ρ2 l H2 s2 R2 P2 => ?_
  refine partR R2 P2 fun F3 fp3 ρ3 u H3 s3 R3 P3 => ?_
  cases e : dSlice x l u with
  | none => rw [e] at P3; exact P3.elim
  | some d =>
    rw [e] at P3
    exact ⟨F3, x, d, R3.sub, (hx.mono s2).mono s3, e, RPost.yields R3 P3⟩
theorem den_slice {a : Expr} {lo hi : Option Expr} {fa : E} {fl fh : Option E} (ha : DenE X Z own W a fa) (hl : DenP X Z own W lo fl) (hh : DenP X Z own W hi fh) : DenE X Z own W (.Subscript a (.Slice lo hi none p2) pos) (eSlice fa fl fh) :=
  PEimp (pe_slice sld ha hl hh) fun σ H Q h => slice_tE h

/-! ## isinstance, the class written -/
def D.isi (T : String) : D → Option Bool
  | .non => some false
  | .bl _ => some (T == "bool" || T == "int")
  | .int _ => some (T == "int")
  | .str _ => some (T == "str")
  | .tup _ => some (T == "tuple")
  | .lst _ => some (T == "list")
  | .dct _ _ => some (T == "dict")
  | .ins _ _ _ => none
/-- the built-in classes asked for -/
def isiT : List String := ["bool", "int", "str", "tuple", "list", "dict"]
def tyName : D → String
  | .non => "NoneType"
  | .bl _ => "bool"
  | .int _ => "int"
  | .str _ => "str"
  | .tup _ => "tuple"
  | .lst _ => "list"
  | .dct _ _ => "dict"
  | .ins _ _ _ => ""
theorem kit_tab : (["NoneType", "bool", "int", "str", "tuple", "list", "dict"].all fun a => isiT.all fun T => kitB a T == some (a == T || (a == "bool" && T == "int"))) = true := by decide +kernel
theorem kit_isi {T : String} {d : D} {b : Bool} (hT : isiT.contains T = true) (h : d.isi T = some b) : kitB (tyName d) T = some b := by
  have key : ∀ a ∈ ["NoneType", "bool", "int", "str", "tuple", "list", "dict"], kitB a T = some (a == T || (a == "bool" && T == "int")) := fun a ha => by
    have := List.all_eq_true.mp (List.all_eq_true.mp kit_tab a ha) T (List.contains_iff_mem.mp hT)
    exact eq_of_beq this
  have hm : T ∈ isiT := List.contains_iff_mem.mp hT
  simp only [isiT, List.mem_cons, List.not_mem_nil, or_false] at hm
  cases d with
  | ins _ _ _ => cases h
  | _ => rcases hm with rfl | rfl | rfl | rfl | rfl | rfl <;> (cases h; exact key _ (by simp [tyName]))
/-- what the library's isinstance asks of data -/
theorem Dat.kit {pins : List (Addr × Obj)} {σ : St} {H : Hp} {s : Shared} {F : Hp} {v : V} {u : Value} {d : D} (I : Inv X pins σ H s) (hF : Same F H) (h : Dat (gOf X) F v d) (r : RelV v u) (hi : ∀ c ns vs, d ≠ .ins c ns vs) :
    ∃ P : Heap → Prop, PySem.W.KitX X.K u (.type (tyName d)) P ∧ P s.heap ∧ u ≠ .builtin "__main__.__loader__#opaque" := by
  cases h with
  | non => exact kit_of I r (.base .non)
  | bl b => exact kit_of I r (.base (.bl b))
  | int i => exact kit_of I r (.base (.int i))
  | str x _ _ => exact kit_of I r (.base (.str x))
  | tup hs hl =>
    cases (show u = Value.ref _ from r)
    obtain ⟨its, rv, ⟨o, h1, h2, _⟩, _⟩ := I.tuple (Same.seqT hF hs)
    exact ⟨_, PySem.W.kitx_tuple, ⟨o, h1, h2⟩, fun z => nomatch z⟩
  | lst hs hl =>
    cases (show u = Value.ref _ from r)
    obtain ⟨its, rv, ⟨o, n, h1, h2, _⟩, _⟩ := I.list (EVseq hF hs)
    exact ⟨_, PySem.W.kitx_list, ⟨o, h1, h2⟩, fun z => nomatch z⟩
  | dct hd hn hz _ _ _ =>
    cases (show u = Value.ref _ from r)
    obtain ⟨⟨o, es, ep, h1, h2, _⟩, _⟩ := I.hok _ _ (hF _ _ hd)
    exact ⟨_, PySem.W.kitx_dict, ⟨o, h1, h2.1⟩, fun z => nomatch z⟩
  | ins _ _ _ _ _ => exact absurd rfl (hi _ _ _)
theorem bootT (T : String) (h : isiT.contains T = true) : bootBuiltins T = some (.type T) := by
  have hm : T ∈ isiT := List.contains_iff_mem.mp h
  simp only [isiT, List.mem_cons, List.not_mem_nil, or_false] at hm
  rcases hm with rfl | rfl | rfl | rfl | rfl | rfl <;> decide +kernel
def eIsi (T : String) (a : E) : E := eBind a fun d ρ => match d.isi T with
  | some b => .ok (.bl b) ρ
  | none => .stk
/-- isinstance(x, T): the pair of values -/
def rIsiD (g : Gb) (T : String) : List V → Hp → VK → Prop := fun xs H Q => ∃ F x d b, xs = [x, .ty T] ∧ Same F H ∧ Dat g F x d ∧ d.isi T = some b ∧ Q (.bl b) H
theorem call_isiD {T : String} (hT : isiT.contains T = true) : CallR X (.builtin "isinstance") (rIsiD (gOf X) T) := by
  intro pins s σ H xs us Q I r h
  obtain ⟨F, x, d, b, rfl, hF, hd, e, q⟩ := h
  obtain ⟨u1, u2, rfl, r1, r2⟩ := vals2 r
  cases (show u2 = Value.type T from r2)
  obtain ⟨P, Z, p, hx⟩ := hd.kit I hF r1 (fun c ns vs z => by subst z; cases e)
  exact PySem.W.kia_one Z I.kIn p (kit_ty (kit_isi hT e)) hx fun tk => ⟨.bl b, H, I.tok tk, rfl, q⟩
theorem den_isi {T : String} {e : Expr} {fe : E} {p pT : Pos} (hT : isiT.contains T = true) (hg : L2.Gl X "isinstance") (hm : X.mg "isinstance" = none) (hgT : L2.Gl X (Str.ofString T)) (hmT : X.mg (Str.ofString T) = none) (hv : bootBuiltins (Str.ofString T) = some (.type T)) (he : DenE X Z own W e fe)
    (hn : (Str.ofString T) ≠ "__name__" := by decide) (hd : (Str.ofString T == ("__debug__" : Str)) = false := by decide)
    (h1 : starEach [e, .Name (Str.ofString T) pT] X.env = (false, eval e X.env) :: starEach [.Name (Str.ofString T) pT] X.env := by rfl) (h2 : starEach [.Name (Str.ofString T) pT] X.env = (false, eval (.Name (Str.ofString T) pT) X.env) :: starEach [] X.env := by rfl)
    (hpl : (backTo pos (starEach [.Name (Str.ofString T) pT] X.env)).any (·.1) = false := by rfl) :
    DenE X Z own W (.Call (.Name "isinstance" p) [e, .Name (Str.ofString T) pT] [] pos) (eIsi T fe) :=
  PEimp (pe_callB (call_isiD hT) hg hm (by decide +kernel) (pa_cons he (pa_cons (pe_bltn (v := .ty T) hgT hmT hv rfl hn hd) pa_nil h2) h1) (by decide) (by decide) h1 hpl) fun σ H Q h => by
  obtain ⟨B, F, fp, ρ, R, P⟩ := h
  refine bindR R P fun F1 fp1 ρ1 x v H1 s1 R1 hx P1 => ?_
  cases e : x.isi T with
  | none => rw [e] at P1; exact P1.elim
  | some b =>
    rw [e] at P1
    exact ⟨F1, v, x, b, rfl, R1.sub, hx, e, (RPost.yields R1 P1).flat R1.sub (.bl _)⟩
end
end EV
namespace EV
open PySem PySem.Spec PyProof.Rows L2
section
variable {X : Cx} {Z : Sg} {own own' ob : Own} {W : WX} {pos p apos cpos : Pos}

/-! ## for over range, over a text -/
def eRange1 (a : E) : E := eBind a fun d ρ => match d with
  | .int j => if j ≤ (sizeLine : Int) ∧ -(2 ^ 62) ≤ j then .ok (.lst (rangeD 0 j.toNat)) ρ else .stk
  | _ => .stk
def eRange2 (a b : E) : E := eBind a fun x => eBind b fun y ρ => match x, y with
  | .int i, .int j => if -(2 ^ 40) ≤ i ∧ i < 2 ^ 40 ∧ -(2 ^ 40) ≤ j ∧ j < 2 ^ 40 ∧ j - i ≤ (sizeLine : Int) then .ok (.lst (rangeD i (j - i).toNat)) ρ else .stk
  | _, _ => .stk
theorem rangeD_len (lo : Int) (n : Nat) : (rangeD lo n).length = n := by simp [rangeD]
theorem line24 : (sizeLine : Int) = 16777216 := by rw [sizeLine_eq]; rfl
theorem deni_range1 {tg a : Expr} {fa : E} (hg : L2.Gl X "range") (hm : X.mg "range" = none) (ha : DenE X Z own W a fa) (hs : starEach [a] X.env = [(false, eval a X.env)] := by rfl) (hs' : starEach [a] X.env = (false, eval a X.env) :: starEach [] X.env := by rfl) :
    DenI X Z own W tg (.Call (.Name "range" p) [a] [] pos) (eRange1 fa) := PIimp (pi_range1 hg hm (pa_cons ha pa_nil hs') hs) fun σ H R h => by
  obtain ⟨B, F, fp, ρ, R0, P⟩ := h
  refine ⟨B, F, fp, ρ, R0, ?_⟩
  unfold eRange1 eBind Rs.bind at P
  cases e : fa ρ with
  | stk => rw [e] at P; exact P
  | ex x ρ1 => rw [e] at P; exact P
  | ok d ρ1 =>
    rw [e] at P
    intro F1 fp1 H1 v s1 R1 hd
    cases hd with
    | int j =>
      dsimp only at P
      by_cases hj : j ≤ (sizeLine : Int) ∧ -(2 ^ 62) ≤ j
      · rw [if_pos hj] at P
        obtain ⟨items, e1, q⟩ := P
        cases e1
        have h24 := line24
        refine ⟨j, rfl, hj.2, by omega, q F1 fp1 H1 _ s1 R1 (itOk_range 0 j.toNat) ?_⟩
        rw [rangeD_len]; omega
      · rw [if_neg hj] at P; exact P.elim
    | _ => exact P.elim
theorem deni_range2 {tg a b : Expr} {fa fb : E} (hg : L2.Gl X "range") (hm : X.mg "range" = none) (ha : DenE X Z own W a fa) (hb : DenE X Z own W b fb) (hs : starEach [a, b] X.env = [(false, eval a X.env), (false, eval b X.env)] := by rfl) (hs2 : starEach [b] X.env = [(false, eval b X.env)] := by rfl)
    (h1 : starEach [a, b] X.env = (false, eval a X.env) :: starEach [b] X.env := by rfl) (h2 : starEach [b] X.env = (false, eval b X.env) :: starEach [] X.env := by rfl) :
    DenI X Z own W tg (.Call (.Name "range" p) [a, b] [] pos) (eRange2 fa fb) := PIimp (pi_range2 hg hm (pa_cons ha (pa_cons hb pa_nil h2) h1) hs hs2) fun σ H R h => by
  obtain ⟨B, F, fp, ρ, R0, P⟩ := h
  refine ⟨B, F, fp, ρ, R0, ?_⟩
  unfold eRange2 eBind Rs.bind at P
  cases e : fa ρ with
  | stk => rw [e] at P; exact P
  | ex x ρ1 => rw [e] at P; exact P
  | ok d ρ1 =>
    rw [e] at P
    intro F1 fp1 H1 v s1 R1 hd
    refine ⟨B, F1, fp1, ρ1, R1, ?_⟩
    dsimp only at P
    cases e2 : fb ρ1 with
    | stk => rw [e2] at P; exact P
    | ex x ρ2 =>
      rw [e2] at P
      exact fun F2 fp2 H2 c dx s2 R2 => P F2 fp2 H2 c dx (s1.trans s2) R2
    | ok d2 ρ2 =>
      rw [e2] at P
      intro F2 fp2 H2 v2 s2 R2 hd2
      cases hd with
      | int i =>
        cases hd2 with
        | int j =>
          dsimp only at P
          by_cases hj : -(2 ^ 40) ≤ i ∧ i < 2 ^ 40 ∧ -(2 ^ 40) ≤ j ∧ j < 2 ^ 40 ∧ j - i ≤ (sizeLine : Int)
          · rw [if_pos hj] at P
            obtain ⟨items, e1, q⟩ := P
            cases e1
            refine ⟨i, j, rfl, by omega, q F2 fp2 H2 _ (s1.trans s2) R2 (itOk_range i (j - i).toNat) ?_⟩
            have h24 := line24
            rw [rangeD_len]; omega
          · rw [if_neg hj] at P; exact P.elim
        | _ => exact P.elim
      | _ => cases hd2 <;> exact P.elim
def signsD (x : Str) : List D := x.cps.toList.map fun c => .str ⟨#[c]⟩
def eSigns (a : E) : E := eBind a fun d ρ => match d with
  | .str x => .ok (.lst (signsD x)) ρ
  | _ => .stk
theorem deni_str {tg a : Expr} {fa : E} (ha : DenE X Z own W a fa) : DenI X Z own W tg a (eSigns fa) := PIimp (pi_str ha) fun σ H R h => by
  obtain ⟨B, F, fp, ρ, R0, P⟩ := h
  refine ⟨B, F, fp, ρ, R0, ?_⟩
  unfold eSigns eBind Rs.bind at P
  cases e : fa ρ with
  | stk => rw [e] at P; exact P
  | ex x ρ1 => rw [e] at P; exact P
  | ok d ρ1 =>
    rw [e] at P
    intro F1 fp1 H1 v s1 R1 hd
    cases hd with
    | str x hx kx =>
      obtain ⟨items, e1, q⟩ := P
      cases e1
      refine ⟨x, rfl, q F1 fp1 H1 _ s1 R1 ⟨fun i H s hi => ?_, fun i F2 H v H' s s2 hi hy => ?_, fun i H s hi => ?_⟩ ?_⟩
      · show i < x.cps.size
        simpa [signsD] using hi
      · obtain ⟨rfl, c, hc, rfl⟩ := hy
        refine ⟨.str ⟨#[c]⟩, F2, ?_, Grow.refl s2, .str _ one_le (strOk_one kx ?_)⟩
        · unfold signsD
          rw [List.getElem?_map, Array.getElem?_toList, hc]; rfl
        · exact Array.mem_toList_iff.mpr (Array.mem_of_getElem? hc)
      · show x.cps.size ≤ i
        simpa [signsD] using hi
      · show (signsD x).length ≤ sizeLine
        unfold signsD
        rw [List.length_map, Array.length_toList]; exact hx
    | _ => exact P.elim

/-! ## what changes an owned list -/
def rMutD (g : Gb) (f : List D → List D → Option (D × List D)) : V → List V → Hp → VK → Prop := fun x vs H Q => ∃ F l xs ds as r ds', x = .ref l ∧ Same F H ∧ F l = none ∧ H l = some (.lst xs) ∧ DatL g F xs ds ∧ DatL g F vs as ∧ f ds as = some (r, ds') ∧
  ∀ v xs', Dat g F v r → DatL g F xs' ds' → Q v (upd H l (.lst xs'))
abbrev MutD (X : Cx) (idn : String) (f : List D → List D → Option (D × List D)) : Prop := MtR X idn (rMutD (gOf X) f)
/-- the list at a slot -/
def lstAt (ρ : Rho) (i : Nat) : Option (List D) := match ρ[i]? with
  | some (some (.lst ds)) => some ds
  | _ => none
theorem lstAt_eq {ρ : Rho} {i : Nat} {ds : List D} (h : lstAt ρ i = some ds) : ρ[i]? = some (some (.lst ds)) := by
  unfold lstAt at h
  split at h
  · rename_i e; cases h; exact e
  · cases h
def eMut (i : Nat) (f : List D → List D → Option (D × List D)) (fs : List E) : E := fun ρ => match lstAt ρ i with
  | some _ => match eArgs fs ρ with
    | .ok as ρ1 => match lstAt ρ1 i with
      | some ds => match f ds as with
        | some (r, ds') => .ok r (ρ1.set i (some (.lst ds')))
        | none => .stk
      | none => .stk
    | .ex x ρ1 => .ex x ρ1
    | .stk => .stk
  | none => .stk
theorem Rel.mut {g : Gb} {B : Bs} {F H : Hp} {fp : Nat → List Addr} {ρ : Rho} {σ : St} {i : Nat} {ds : List D} (R : Rel g Z B own F fp ρ σ H) (ho : own i = some .lst) (e : ρ[i]? = some (some (.lst ds))) :
    ∃ l xs, σ[i]? = some (some (.ref l)) ∧ F l = none ∧ H l = some (.lst xs) ∧ DatL g F xs ds ∧ ∀ xs' ds', DatL g F xs' ds' → Rel g Z B own F fp (ρ.set i (some (.lst ds'))) σ (L2.upd H l (.lst xs')) := by
  obtain ⟨v, hv, hO⟩ := R.ownd i .lst _ ho e
  generalize hfp : fp i = O at hO
  cases hO with
  | @lst l xs _ hl hd =>
    have hm : l ∈ fp i := by rw [hfp]; simp
    refine ⟨l, xs, hv, (R.out i l (by rw [ho]; simp) hm).1, hl, hd, fun xs' ds' hd' => ?_⟩
    have := R.write (i := i) (sh := .lst) (sh' := .lst) (d' := .lst ds') (v := .ref l) (O' := [l]) (H' := L2.upd H l (.lst xs')) ho hv (fun p hp e' => by
      have := R.iox p hp
      rw [e', ho] at this
      exact (Option.some.inj this).symm) (fun a ha _ => upd_ne fun z => by subst z; exact ha hm) (fun a ha => by
      by_cases z : a = l
      · subst z; rw [upd_same]; simp
      · rw [upd_ne z]; exact ha) (fun a ha hn => by
      simp at ha; subst ha; exact absurd hm hn) (.lst upd_same hd')
    rw [setF_id ho] at this
    have e2 : setF fp i [l] = fp := setF_id hfp
    rw [e2] at this
    exact this
theorem den_mut (i : Nat) {x name : Str} {idn : String} {e : Expr} {es : List Expr} {f : List D → List D → Option (D × List D)} {fs : List E} (ho : own i = some .lst) (hN : X.N[i]? = some x) (hv : Vis X.env.scope x) (slot : Slot "list" name idn) (hty : typeOf (.builtin idn) = pure (.type "method_descriptor")) (hm : MutD X idn f) (ha : DenA X Z own W (e :: es) fs)
    (hd : (x == ("__debug__" : Str)) = false := by decide) (hcd : (x == ("__classdict__" : Str)) = false := by decide)
    (hbase : attributeBase (.Name x p) name X.env (eval (.Name x p) X.env) = eval (.Name x p) X.env := by rfl)
    (hfew : ((backTo cpos (starEach (e :: es) X.env)).all (fun x => !x.1) && (backToKw cpos (keywordEach [] X.env)).all (fun x => x.1.isSome)
      && decide ((e :: es).length + ([] : List Keyword).length + (if ([] : List Keyword).isEmpty then 0 else 1) < 30)) = true := by rfl)
    (hline : (apos.endLine == cpos.line) = true := by rfl) (hs : starEach (e :: es) X.env = (false, eval e X.env) :: starEach es X.env := by rfl) (hplain : (backTo cpos (starEach es X.env)).any (·.1) = false := by rfl) :
    DenE X Z own W (.Call (.Attribute (.Name x p) name apos) (e :: es) [] cpos) (eMut i f fs) := PEimp (pe_bm PySem.F.plainAttrs_list slot hty hm (pe_var hN hv hd hcd) ha hbase hfew hline hs hplain) fun σ H Q h => by
  obtain ⟨B, F, fp, ρ, R, P⟩ := h
  unfold eMut at P
  cases e0 : lstAt ρ i with
  | none => rw [e0] at P; exact P.elim
  | some ds0 =>
    rw [e0] at P
    dsimp only at P
    obtain ⟨l, xs, hl, _, hH, _, _⟩ := Rel.mut R ho (lstAt_eq e0)
    refine ⟨.ref l, hl, .inl ⟨rfl, xs, .inl (.inl hH)⟩, B, F, fp, ρ, R, ?_⟩
    cases e1 : eArgs fs ρ with
    | stk => rw [e1] at P; exact P
    | ex x ρ1 => rw [e1] at P; exact P
    | ok as ρ1 =>
      rw [e1] at P
      dsimp only at P ⊢
      intro F1 fp1 H1 vs s1 R1 hA
      cases e2 : lstAt ρ1 i with
      | none => rw [e2] at P; exact P.elim
      | some ds =>
        rw [e2] at P
        dsimp only at P
        obtain ⟨l', xs', hl', hF', hH', hD', up⟩ := Rel.mut R1 ho (lstAt_eq e2)
        rw [hl] at hl'
        cases hl'
        cases e3 : f ds as with
        | none => rw [e3] at P; exact P.elim
        | some rd =>
          obtain ⟨r, ds'⟩ := rd
          rw [e3] at P
          exact ⟨F1, l, xs', ds, as, r, ds', rfl, R1.sub, hF', hH', hD', hA, e3, fun v xs2 hv2 hd2 => P F1 fp1 _ v s1 (up xs2 ds' hd2) hv2⟩
theorem den_mut0 (i : Nat) {x name : Str} {idn : String} {f : List D → List D → Option (D × List D)} (ho : own i = some .lst) (hN : X.N[i]? = some x) (hv : Vis X.env.scope x) (slot : Slot "list" name idn) (hty : typeOf (.builtin idn) = pure (.type "method_descriptor")) (hm : MutD X idn f)
    (hd : (x == ("__debug__" : Str)) = false := by decide) (hcd : (x == ("__classdict__" : Str)) = false := by decide)
    (hbase : attributeBase (.Name x p) name X.env (eval (.Name x p) X.env) = eval (.Name x p) X.env := by rfl) (hline : (apos.endLine == cpos.line) = true := by rfl) :
    DenE X Z own W (.Call (.Attribute (.Name x p) name apos) [] [] cpos) (eMut i f []) := PEimp (pe_bm0 PySem.F.plainAttrs_list slot hty hm (pe_var hN hv hd hcd) hbase hline) fun σ H Q h => by
  obtain ⟨B, F, fp, ρ, R, P⟩ := h
  unfold eMut at P
  cases e0 : lstAt ρ i with
  | none => rw [e0] at P; exact P.elim
  | some ds0 =>
    rw [e0] at P
    dsimp only at P
    obtain ⟨l, xs, hl, hF', hH, hD', up⟩ := Rel.mut R ho (lstAt_eq e0)
    refine ⟨.ref l, hl, .inl ⟨rfl, xs, .inl (.inl hH)⟩, ?_⟩
    unfold eArgs at P
    dsimp only at P
    rw [e0] at P
    dsimp only at P
    cases e3 : f ds0 [] with
    | none => rw [e3] at P; exact P.elim
    | some rd =>
      obtain ⟨r, ds'⟩ := rd
      rw [e3] at P
      exact ⟨F, l, xs, ds0, [], r, ds', rfl, R.sub, hF', hH, hD', .nil, e3, fun v xs2 hv2 hd2 => P F fp _ v (Same.refl _) (up xs2 ds' hd2) hv2⟩
def mAppend (ds as : List D) : Option (D × List D) := match as with
  | [d] => if ds.length < sizeLine then some (.non, ds ++ [d]) else none
  | _ => none
theorem md_append : MutD X "list.append" mAppend := by
  intro pins s σ H x vs v us Q I rx rv h
  obtain ⟨F, l, xs, ds, as, r, ds', rfl, hF, hl, hH, hD, hA, e, q⟩ := h
  cases hA with
  | nil => cases e
  | cons h1 t =>
    cases t with
    | cons _ _ => cases e
    | nil =>
      unfold mAppend at e
      dsimp only at e
      split at e
      · rename_i hz
        cases e
        exact mt_append pins s σ H _ _ v us Q I rx rv ⟨l, xs, _, rfl, rfl, hH, by rw [hD.length]; exact hz, q _ _ .non (hD.append (.cons h1 .nil))⟩
      · cases e
def mPop (ds as : List D) : Option (D × List D) := match as with
  | [] => (ds[ds.length - 1]?).map fun y => (y, ds.dropLast)
  | [.int i] => if -(2 ^ 63) ≤ i ∧ i < 2 ^ 63 then (seqIndex? i ds.length).bind fun k => (ds[k]?).map fun y => (y, ds.eraseIdx k) else none
  | _ => none
theorem DatL.dropLast {g : Gb} {F : Hp} {vs : List V} {ds : List D} (h : DatL g F vs ds) : DatL g F vs.dropLast ds.dropLast := by
  rw [List.dropLast_eq_take, List.dropLast_eq_take, h.length]
  exact h.take _
theorem md_pop : MutD X "list.pop" mPop := by
  intro pins s σ H x vs v us Q I rx rv h
  obtain ⟨F, l, xs, ds, as, r, ds', rfl, hF, hl, hH, hD, hA, e, q⟩ := h
  cases hA with
  | nil =>
    obtain ⟨y, e1, e2⟩ := Option.map_eq_some_iff.mp e
    cases e2
    obtain ⟨w, h1, h2⟩ := hD.get e1
    exact mt_pop pins s σ H _ _ v us Q I rx rv ⟨l, xs, w, rfl, rfl, hH, by rw [hD.length]; exact h1, q _ _ h2 hD.dropLast⟩
  | cons h1 t =>
    cases t with
    | cons _ _ => cases h1 <;> cases e
    | nil =>
      cases h1 with
      | int i =>
        unfold mPop at e
        dsimp only at e
        split at e
        · rename_i hi
          obtain ⟨k, e1, e2⟩ := Option.bind_eq_some_iff.mp e
          obtain ⟨y, e3, e4⟩ := Option.map_eq_some_iff.mp e2
          cases e4
          obtain ⟨w, h1, h2⟩ := hD.get e3
          exact mt_popAt pins s σ H _ _ v us Q I rx rv ⟨l, xs, i, k, w, rfl, rfl, hH, hi.1, hi.2, by rw [hD.length]; exact e1, h1, q _ _ h2 (hD.eraseIdx k)⟩
        · cases e
      | _ => cases e
def mInsert (ds as : List D) : Option (D × List D) := match as with
  | [.int i, d] => if ds.length < sizeLine ∧ 0 ≤ i ∧ i < 2 ^ 63 then some (.non, ds.take i.toNat ++ [d] ++ ds.drop i.toNat) else none
  | _ => none
theorem md_insert : MutD X "list.insert" mInsert := by
  intro pins s σ H x vs v us Q I rx rv h
  obtain ⟨F, l, xs, ds, as, r, ds', rfl, hF, hl, hH, hD, hA, e, q⟩ := h
  cases hA with
  | nil => cases e
  | cons h1 t =>
    cases t with
    | nil => cases h1 <;> cases e
    | cons h2 t2 =>
      cases t2 with
      | cons _ _ => cases h1 <;> cases e
      | nil =>
        cases h1 with
        | int i =>
          unfold mInsert at e
          dsimp only at e
          split at e
          · rename_i hz
            cases e
            exact mt_insert pins s σ H _ _ v us Q I rx rv ⟨l, xs, i, _, rfl, rfl, hH, by rw [hD.length]; exact hz.1, hz.2.1, hz.2.2, q _ _ .non (((hD.take _).append (.cons h2 .nil)).append (hD.drop _))⟩
          · cases e
        | _ => cases e
/-! ### x[k] = e -/
def sSetIx (i : Nat) (fk fv : E) : S := sOf fv fun d => fun ρ => match lstAt ρ i with
  | some _ => sOf fk (fun k ρ2 => match asInt k with
    | some k => match lstAt ρ2 i with
      | some ds => match ixN ds.length k with
        | some j => .nx (ρ2.set i (some (.lst (ds.set j d))))
        | none => .stk
      | none => .stk
    | none => .stk) ρ
  | none => .stk
theorem den_setIx (i : Nat) {x : Str} {k v : Expr} {fk fv : E} {tpos : Pos} (ho : own i = some .lst) (hN : X.N[i]? = some x) (hv : Vis X.env.scope x) (hk : DenE X Z own W k fk) (he : DenE X Z own W v fv)
    (hdb : (x == ("__debug__" : Str)) = false := by decide) (hcd : (x == ("__classdict__" : Str)) = false := by decide)
    (hs : swapsWithSole [.Subscript (.Name x p) k tpos] v pos.line X.env = pure false := by rfl) (hw : swappedStores [.Subscript (.Name x p) k tpos] v X.env = pure none := by rfl)
    (ha : ∀ v, assign (.Subscript (.Name x p) k tpos) X.env v = (do
      let ov ← holding [v] (eval (.Name x p) X.env)
      let iv ← holding [v, ov] (eval k X.env)
      standAt tpos
      holding [v, ov, iv] (setItem ov iv v)
      release [v, ov, iv] []) := by intros; rfl) :
    DenS X Z own own ob W (.Assign [.Subscript (.Name x p) k tpos] v pos) (sSetIx i fk fv) := PSimp (ps_asg he (pg_sub (pe_var hN hv hdb hcd) hk set_list ha) hs hw) fun D σ H h => by
  refine tS_of h fun B F fp ρ d vv H1 R hd P => ?_
  cases e0 : lstAt ρ i with
  | none => rw [e0] at P; exact P.elim
  | some ds0 =>
    rw [e0] at P
    dsimp only at P
    obtain ⟨l, xs, hl, hF', hH', hD', up⟩ := Rel.mut R ho (lstAt_eq e0)
    refine ⟨.ref l, hl, B, F, fp, ρ, R, ?_⟩
    unfold sOf at P
    cases e1 : fk ρ with
    | stk => rw [e1] at P; exact P
    | ex x ρ1 =>
      rw [e1] at P
      exact fun F' fp' H' c dx s R' hx => P F' fp' σ H' c dx own s R' hx
    | ok kd ρ1 =>
      rw [e1] at P
      dsimp only at P ⊢
      intro F1 fp1 H2 kv s1 R1 hk1
      cases hk1 with
      | int k =>
        dsimp only [asInt] at P
        cases e2 : lstAt ρ1 i with
        | none => rw [e2] at P; exact P.elim
        | some ds =>
          rw [e2] at P
          dsimp only at P
          obtain ⟨l', xs', hl', hF', hH', hD', up⟩ := Rel.mut R1 ho (lstAt_eq e2)
          rw [hl] at hl'
          cases hl'
          cases e3 : ixN ds.length k with
          | none => rw [e3] at P; exact P.elim
          | some j =>
            rw [e3] at P
            exact ⟨l, xs', k, j, rfl, rfl, hH', by rw [hD'.length]; exact e3, P F1 fp1 σ _ s1 (up _ _ (hD'.set (hd.mono s1) j))⟩
      | _ => exact P.elim
/-! ### x += e, ints -/
def intAt (ρ : Rho) (i : Nat) : Option Int := match ρ[i]? with
  | some (some (.int a)) => some a
  | _ => none
theorem intAt_eq {ρ : Rho} {i : Nat} {a : Int} (h : intAt ρ i = some a) : ρ[i]? = some (some (.int a)) := by
  unfold intAt at h
  split at h
  · rename_i e; cases h; exact e
  · cases h
def sAugAdd (i : Nat) (f : E) : S := fun ρ => match intAt ρ i with
  | some a => sOf f (fun d ρ1 => match asInt d with
    | some b => .nx (ρ1.set i (some (.int (a + b))))
    | none => .stk) ρ
  | none => .stk
theorem den_augAdd {i : Nat} {x : Str} {e : Expr} {f : E} {pos' : Pos} (ho : own i = none) (hN : X.N.Nodup) (hi : X.N[i]? = some x) (hx : Loc X.env.scope x) (he : DenE X Z own W e f) (hf : X.fn x = true ∨ X.env.scope.names.lookup x = some .local := by first | exact .inl rfl | exact .inr rfl | assumption) :
    DenS X Z own own ob W (.AugAssign (.Name x pos') .Add e pos) (sAugAdd i f) := PSimp (ps_aug hN hi hx he ip_add hf) fun D σ H h => by
  obtain ⟨B, F, fp, ρ, R, P⟩ := h
  unfold sAugAdd at P
  cases e0 : intAt ρ i with
  | none => rw [e0] at P; exact P.elim
  | some a =>
    rw [e0] at P
    dsimp only at P
    obtain ⟨v, h1, h2⟩ := R.frz i _ (intAt_eq e0) ho
    cases h2
    refine ⟨.int a, h1, B, F, fp, ρ, R, ?_⟩
    unfold sOf at P
    cases e1 : f ρ with
    | stk => rw [e1] at P; exact P
    | ex x ρ1 =>
      rw [e1] at P
      exact fun F' fp' H' c dx s R' hx => P F' fp' σ H' c dx own s R' hx
    | ok d ρ1 =>
      rw [e1] at P
      dsimp only at P ⊢
      intro F1 fp1 H1 w s1 R1 hd
      cases hd with
      | int b => exact ⟨a, b, rfl, rfl, P F1 fp1 _ H1 s1 (R1.set ho (.int _))⟩
      | _ => exact P.elim
end
end EV
namespace EV
open PySem PySem.Spec PyProof.Rows L2
def ownL (l : List (Nat × Sh)) : Own := fun i => l.lookup i
abbrev own0 : Own := ownL []
/-- a def stands at its name and keeps its promise -/
structure DefOk (P : Program) (w : World) (K : PySem.W.Frag) (mg : Str → Option Value) (base : Heap) (nm : Str) (ps : List Str) (k : Nat) (s : Sig) (fn : List D → FOut) : Prop where
  ex : ∃ f fd, mg nm = some (.ref f) ∧ PySem.W.keepIn K (.ref f) = true ∧ Binds K fd ps [] ∧ FnOk P w K mg base (L2.CX P w) k f fd ps (Prm ⟨K, mg, w⟩ s fn)
/-- where a def stands -/
structure DefAt (K : PySem.W.Frag) (mg : Str → Option Value) (nm : Str) (ps : List Str) (st : Stmt) : Prop where
  ex : ∃ f fd, mg nm = some (.ref f) ∧ Fun K nm nm st f fd ∧ Binds K fd ps []
def sig0 (n : Nat) : Sig := ⟨n, [], [], [], none⟩
section
variable {P : Program} {w : World} {K : PySem.W.Frag} {mg : Str → Option Value} {base : Heap}
theorem DefOk.mono {nm : Str} {ps : List Str} {j k : Nat} {s : Sig} {fn : List D → FOut} (h : DefOk P w K mg base nm ps j s fn) (hj : j ≤ k) : DefOk P w K mg base nm ps k s fn := by
  obtain ⟨f, fd, h1, h2, h3, h4⟩ := h.ex
  exact ⟨f, fd, h1, h2, h3, h4.mono hj⟩
/-- the rule of a plain def: no argument is changed, what it returns stands -/
theorem def_ok {nm : Str} {ps N : List Str} {st : Stmt} {k : Nat} {own own' : Own} {b : S} (A0 : DefAt K mg nm ps st) (S0 : FnScope N ps (defScope st)) (hN : ps.length ≤ N.length) (hq : ∀ i, i < ps.length → own i = none)
    (hbody : ∀ (f : Addr) (cdv : Value) (A : Around) (outer : List Env) (s0 : Shared) (H : Hp) (E : XK), Room k (cxOf (L2.CX P w) P w K mg base N nm (defScope st) f cdv A outer s0 H E).A →
      DenSs (cxOf (L2.CX P w) P w K mg base N nm (defScope st) f cdv A outer s0 H E) (sgOf (sig0 ps.length)) own own' own (fun c d _ H => E c d H) (defBody st) b) :
    DefOk P w K mg base nm ps (k + 1) (sig0 ps.length) (fnD N.length (sig0 ps.length) b) := by
  obtain ⟨f, fd, h1, h2, h3⟩ := A0.ex
  exact ⟨f, fd, h1, h2.kp, h3, fn_ok h2 S0 rfl hN (fun p hp => by simp [sig0] at hp) (fun p hp => by simp [sig0] at hp) (fun i h hi => absurd (hq i hi) h) (by simp [sig0]) (fun p hp => by simp [sig0] at hp) (by simp [sig0]) (by simp [sig0]) (fun p hp => by simp [sig0] at hp) (fun p hp => by simp [sig0] at hp)
    (fun _ p hp => by simp [sig0] at hp) (hbody f)⟩
/-- .. of any def -/
theorem def_okS {nm : Str} {ps N : List Str} {st : Stmt} {k : Nat} {s : Sig} {own own' : Own} {b : S} (A0 : DefAt K mg nm ps st) (S0 : FnScope N ps (defScope st)) (hn : ps.length = s.np) (hN : ps.length ≤ N.length)
    (ho : ∀ p ∈ s.io, own p.1 = some p.2) (hx : ∀ p ∈ s.ioX, own p.1 = some p.2) (hq : ∀ i, own i ≠ none → i < s.np → ∃ p ∈ s.io, p.1 = i) (hnd : (s.io.map (·.1)).Nodup) (hlt : ∀ p ∈ s.io, p.1 < s.np)
    (hnN : (s.ioN.map (·.1)).Nodup) (hnX : (s.ioX.map (·.1)).Nodup) (hsN : ∀ p ∈ s.ioN, ∃ q ∈ s.io, q.1 = p.1) (hsX : ∀ p ∈ s.ioX, ∃ q ∈ s.io, q.1 = p.1) (hnx : s.ret = none → ∀ p ∈ s.ioN, own' p.1 = some p.2)
    (hbody : ∀ (f : Addr) (cdv : Value) (A : Around) (outer : List Env) (s0 : Shared) (H : Hp) (E : XK), Room k (cxOf (L2.CX P w) P w K mg base N nm (defScope st) f cdv A outer s0 H E).A →
      DenSs (cxOf (L2.CX P w) P w K mg base N nm (defScope st) f cdv A outer s0 H E) (sgOf s) own own' own (fun c d _ H => E c d H) (defBody st) b) :
    DefOk P w K mg base nm ps (k + 1) s (fnD N.length s b) := by
  obtain ⟨f, fd, h1, h2, h3⟩ := A0.ex
  exact ⟨f, fd, h1, h2.kp, h3, fn_ok h2 S0 hn hN ho hx hq hnd hlt hnN hnX hsN hsX hnx (hbody f)⟩
end
section
variable {X : Cx} {Z : Sg} {own own' ob : Own} {W : WX} {pos p : Pos} {x : Str} {e : Expr} {es : List Expr} {as : List Ar} {ps : List Str} {j k : Nat} {s : Sig} {fn : List D → FOut}
/-- f(e, ..) of a def that keeps its promise -/
theorem den_callD (F : DefOk X.prog X.w X.K X.mg X.base x ps j s fn) (hr : Room k X.A) (hj : j ≤ k) (hg : L2.Gl X x) (tk : Takes X W) (hret : s.ret = none) (C : CallOk s own as) (ha : DenAO X Z own W (e :: es) as) (hdb : (x == ("__debug__" : Str)) = false := by decide)
    (he : starEach (e :: es) X.env = (false, eval e X.env) :: starEach es X.env := by rfl) (hpl : (backTo pos (starEach es X.env)).any (·.1) = false := by rfl) : DenE X Z own W (.Call (.Name x p) (e :: es) [] pos) (eCall fn as) := by
  obtain ⟨f, fd, h1, h2, h3, h4⟩ := F.ex
  exact den_call h4 (hr.mono hj) hg h1 h2 h3 tk hret C ha hdb he hpl
theorem deno_callD {sh : Sh} (F : DefOk X.prog X.w X.K X.mg X.base x ps j s fn) (hr : Room k X.A) (hj : j ≤ k) (hg : L2.Gl X x) (tk : Takes X W) (hret : s.ret = some sh) (C : CallOk s own as) (ha : DenAO X Z own W (e :: es) as) (hdb : (x == ("__debug__" : Str)) = false := by decide)
    (he : starEach (e :: es) X.env = (false, eval e X.env) :: starEach es X.env := by rfl) (hpl : (backTo pos (starEach es X.env)).any (·.1) = false := by rfl) : DenO X Z own W sh (.Call (.Name x p) (e :: es) [] pos) (eCall fn as) := by
  obtain ⟨f, fd, h1, h2, h3, h4⟩ := F.ex
  exact deno_call h4 (hr.mono hj) hg h1 h2 h3 tk hret C ha hdb he hpl
/-- an int, a text of the module -/
theorem den_gint {i : Int} (h : ∃ t, X.mg x = some (.int i t)) (hg : L2.Gl X x) (hd : (x == ("__debug__" : Str)) = false := by decide) : DenE X Z own W (.Name x pos) (eC (.int i)) := by
  obtain ⟨t, h⟩ := h
  exact den_glob (v := .int i) hg h ⟨t, rfl⟩ (fun F => .int i) hd
theorem den_gstr {y : Str} (h : ∃ t, X.mg x = some (.str y t)) (hg : L2.Gl X x) (hz : y.length ≤ sizeLine := by decide +kernel) (hk : PyData.strOk y = true := by decide +kernel) (hd : (x == ("__debug__" : Str)) = false := by decide) : DenE X Z own W (.Name x pos) (eC (.str y)) := by
  obtain ⟨t, h⟩ := h
  exact den_glob (v := .str y) hg h ⟨t, rfl⟩ (fun F => .str y hz hk) hd
end
end EV
namespace EV
open PySem PySem.Spec PyProof.Rows L2

/-! ## a look at what is owned -/
mutual
/-- no list, dict or object within -/
def D.flatT : D → Bool
  | .non => true
  | .bl _ => true
  | .int _ => true
  | .str _ => true
  | .tup xs => D.flatTL xs
  | .lst _ => false
  | .dct _ _ => false
  | .ins _ _ _ => false
def D.flatTL : List D → Bool
  | [] => true
  | x :: xs => D.flatT x && D.flatTL xs
end
/-- no tuple, nothing locked -/
def notTup : HO → Prop
  | .tup _ => False
  | .frz _ _ => False
  | _ => True
mutual
theorem OwnAt.kind {g : Gb} {F H : Hp} {O : List Addr} {v : V} {d : D} {sh : Sh} : OwnAt g F H O v d sh → ∀ a ∈ O, ∃ o, H a = some o ∧ notTup o
  | .frz _ => fun a ha => by simp at ha
  | .lst h _ => fun a ha => by simp at ha; subst ha; exact ⟨_, h, trivial⟩
  | .dct h _ _ _ _ _ => fun a ha => by simp at ha; subst ha; exact ⟨_, h, trivial⟩
  | .ins h o _ _ l _ _ _ => fun a ha => by
    simp at ha
    rcases ha with rfl | rfl | ha
    · exact ⟨_, h, trivial⟩
    · exact ⟨_, o, trivial⟩
    · exact OwnAtL.kind l a ha
theorem OwnAtL.kind {g : Gb} {F H : Hp} {O : List Addr} {vs : List V} {ds : List D} {shs : List Sh} : OwnAtL g F H O vs ds shs → ∀ a ∈ O, ∃ o, H a = some o ∧ notTup o
  | .nil => fun a ha => by simp at ha
  | .cons h t _ => fun a ha => by
    simp at ha
    rcases ha with ha | ha
    · exact OwnAt.kind h a ha
    · exact OwnAtL.kind t a ha
end
mutual
theorem Dat.flat {g : Gb} {F F' : Hp} (s : ∀ a o, F a = some o → ¬ notTup o → F' a = some o) {v : V} : ∀ {d : D}, Dat g F v d → d.flatT = true → Dat g F' v d
  | _, .non, _ => .non
  | _, .bl b, _ => .bl b
  | _, .int i, _ => .int i
  | _, .str x h k, _ => .str x h k
  | _, .tup h l, p => by
    refine .tup ?_ (DatL.flat s l (by simpa [D.flatT] using p))
    rcases h with (h | ⟨o, h⟩) | h
    · exact .inl (.inl (s _ _ h id))
    · exact .inl (.inr ⟨o, s _ _ h id⟩)
    · exact .inr h
  | _, .lst _ _, p => by simp [D.flatT] at p
  | _, .dct _ _ _ _ _ _, p => by simp [D.flatT] at p
  | _, .ins _ _ _ _ _, p => by simp [D.flatT] at p
theorem DatL.flat {g : Gb} {F F' : Hp} (s : ∀ a o, F a = some o → ¬ notTup o → F' a = some o) {vs : List V} : ∀ {ds : List D}, DatL g F vs ds → D.flatTL ds = true → DatL g F' vs ds
  | _, .nil, _ => .nil
  | _, .cons h t, p => by
    simp only [D.flatTL, Bool.and_eq_true] at p
    exact .cons (Dat.flat s h p.1) (DatL.flat s t p.2)
end
def eBorrow (f : E) : E := fun ρ => match f ρ with
  | .ok d _ => if d.flatT then .ok d ρ else .stk
  | _ => .stk
section
variable {X : Cx} {Z : Sg} {own own' own1 ob : Own} {W : WX} {pos p : Pos} {e : Expr} {f : E}
/-- all that is owned, let go for a while -/
theorem Rel.borrow {g : Gb} {B : Bs} {F H : Hp} {fp : Nat → List Addr} {ρ : Rho} {σ : St} (R : Rel g Z B own F fp ρ σ H) :
    ∃ B2 F2 fp2, Rel g Zb B2 own0 F2 fp2 ρ σ H ∧ ∀ F' fp' ρ' H' v d, Rel g Zb B2 own0 F' fp' ρ' σ H' → Dat g F' v d → d.flatT = true → ∃ F3 fp3, Same F F3 ∧ Rel g Z B own F3 fp3 ρ σ H' ∧ Dat g F3 v d := by
  classical
  let live : Nat → Prop := fun i => own i ≠ none ∧ ∃ d, ρ[i]? = some (some d)
  let fpL : Nat → List Addr := fun i => if live i then fp i else []
  have fpLm : ∀ i a, a ∈ fpL i → live i ∧ a ∈ fp i := fun i a h => by
    have h' : a ∈ (if live i then fp i else []) := h
    split at h'
    · exact ⟨by assumption, h'⟩
    · simp at h'
  let mine : Addr → Prop := fun a => ∃ i, own i ≠ none ∧ (∃ d, ρ[i]? = some (some d)) ∧ a ∈ fp i
  let F2 : Hp := fun a => if mine a then H a else F a
  have s2 : Same F F2 := fun a o h => by
    show (if mine a then H a else F a) = some o
    by_cases m : mine a
    · obtain ⟨i, n, _, hm⟩ := m
      rw [(R.out i a n hm).1] at h; cases h
    · rw [if_neg m]; exact h
  have s3 : Same F2 H := fun a o h => by
    have h' : (if mine a then H a else F a) = some o := h
    by_cases m : mine a
    · rw [if_pos m] at h'; exact h'
    · rw [if_neg m] at h'; exact R.sub a o h'
  refine ⟨⟨F2, H, fun _ => [], []⟩, F2, fun _ => [], ⟨R.len, s3, fun i d e _ => ?_, fun i sh d n => by simp [ownL] at n, fun i a n => by simp [ownL] at n, fun i j a n => by simp [ownL] at n, Same.refl _, fun a o h => .inl h, fun a o h _ => h, fun a h => h, fun p hp => by simp at hp, fun p hp => by simp at hp, fun p hp => by simp at hp, fun p hp => by simp at hp, fun p hp => by simp [Zb] at hp⟩,
    fun F' fp' ρ' H' v d R' hd hfl => ?_⟩
  · cases n : own i with
    | none =>
      obtain ⟨v, h1, h2⟩ := R.frz i d e n
      exact ⟨v, h1, h2.mono s2⟩
    | some sh =>
      obtain ⟨v, h1, h2⟩ := R.ownd i sh d n e
      exact ⟨v, h1, h2.freeze s2 fun a ha => if_pos ⟨i, by rw [n]; simp, ⟨d, e⟩, ha⟩⟩
  · have kp : Same H H' := fun a o h => R'.keep a o h fun p hp => by simp at hp
    let F3 : Hp := fun a => if mine a then none else F' a
    have nf : ∀ a o, F a = some o → ¬ mine a := fun a o h ⟨i, n, _, hm⟩ => by
      rw [(R.out i a n hm).1] at h; cases h
    have s4 : Same F F3 := fun a o h => by
      show (if mine a then none else F' a) = some o
      rw [if_neg (nf a o h)]
      exact R'.ext a o (s2 a o h)
    have H0n : ∀ a, H a = none → B.H0 a = none := fun a e => by
      cases q : B.H0 a with
      | none => rfl
      | some o => exact absurd e (R.tr a (by rw [q]; simp))
    have hne : ∀ a, H a ≠ none → H' a = H a := fun a h => Same.eq_of kp h
    refine ⟨F3, fpL, s4, ⟨R.len, fun a o h => ?_, fun i d e n => ?_, fun i sh d n e => ?_, fun i a n ha => ?_, fun i j a ni nj ne ha hb => R.dis i j a ni nj ne (fpLm i a ha).2 (fpLm j a hb).2, R.ext.trans s4, fun a o h => ?_, fun a o h n => kp a o (R.keep a o h n), fun a h => by rw [hne a (R.tr a h)]; exact R.tr a h, R.pin, R.pino, R.pinZ, R.pind, R.iox⟩, hd.flat (fun a o h hn => ?_) hfl⟩
    · have h' : (if mine a then none else F' a) = some o := h
      by_cases m : mine a
      · rw [if_pos m] at h'; cases h'
      · rw [if_neg m] at h'; exact R'.sub a o h'
    · obtain ⟨v, h1, h2⟩ := R.frz i d e n
      exact ⟨v, h1, h2.mono s4⟩
    · obtain ⟨v, h1, h2⟩ := R.ownd i sh d n e
      have el : fpL i = fp i := if_pos ⟨by rw [n]; simp, d, e⟩
      rw [el]
      exact ⟨v, h1, h2.mono s4 fun a ha => hne a (h2.there a ha)⟩
    · obtain ⟨⟨_, hlv⟩, hm⟩ := fpLm i a ha
      obtain ⟨h1, h2, h3⟩ := R.out i a n hm
      exact ⟨if_pos ⟨i, n, hlv, hm⟩, by rw [hne a h2]; exact h2, h3⟩
    · have h' : (if mine a then none else F' a) = some o := h
      by_cases m : mine a
      · rw [if_pos m] at h'; cases h'
      · rw [if_neg m] at h'
        rcases R'.new a o h' with z | z
        · have z' : (if mine a then H a else F a) = some o := z
          rw [if_neg m] at z'; exact R.new a o z'
        · exact .inr (H0n a z)
    · show (if mine a then none else F' a) = some o
      by_cases m : mine a
      · exfalso
        obtain ⟨i, n, ⟨d', e'⟩, hm⟩ := m
        obtain ⟨sh, hsh⟩ := Option.ne_none_iff_exists'.mp n
        obtain ⟨v', _, hO⟩ := R.ownd i sh d' hsh e'
        obtain ⟨o', ho', hk'⟩ := hO.kind a hm
        have hH' : H' a = some o := R'.sub a o h
        rw [hne a (R.out i a n hm).2.1, ho'] at hH'
        cases hH'
        exact hn hk'
      · rw [if_neg m]; exact h
theorem den_borrow (h : DenE X Zb own0 noW e f) : DenE X Z own W e (eBorrow f) := PEimp h fun σ H Q hh => by
  obtain ⟨B, F, fp, ρ, R, P⟩ := hh
  obtain ⟨B2, F2, fp2, R2, back⟩ := Rel.borrow R
  refine ⟨B2, F2, fp2, ρ, R2, ?_⟩
  unfold eBorrow at P
  cases e1 : f ρ with
  | ok d ρ' =>
    rw [e1] at P
    dsimp only at P
    by_cases hf : d.flatT = true
    · rw [if_pos hf] at P
      intro F' fp' H' v s R' hd
      obtain ⟨F3, fp3, s3, R3, d3⟩ := back F' fp' ρ' H' v d R' hd hf
      exact P F3 fp3 H' v s3 R3 d3
    · rw [if_neg hf] at P; exact P.elim
  | ex x ρ' => rw [e1] at P; exact P.elim
  | stk => rw [e1] at P; exact P.elim

/-! ## letting go, taking in -/
theorem den_frz (i : Nat) {l : List (Nat × Sh)} {sh : Sh} {sts : List Stmt} {f : S} (ho : ownL l i = some sh) (np : Z.ioX.all (fun p => p.1 != i) = true) (hp : Z.pinS i = false)
    (h : DenSs X Z (ownL (l.filter fun p => p.1 != i)) own' ob W sts f) : DenSs X Z (ownL l) own' ob W sts f := PSsimp h fun D σ H hh => by
  obtain ⟨B, F, fp, ρ, R, P⟩ := hh
  have eo : setF (ownL l) i none = ownL (l.filter fun p => p.1 != i) := by
    funext j
    unfold setF ownL
    clear ho h P R
    induction l with
    | nil => simp
    | cons q r ih =>
      rw [List.filter_cons]
      by_cases e : q.1 = i
      · have e1 : (q.1 != i) = false := by simp [e]
        rw [e1]
        simp only [Bool.false_eq_true, if_false]
        rw [← ih, List.lookup_cons]
        by_cases ej : j = i
        · rw [if_pos ej, if_pos ej]
        · rw [if_neg ej, if_neg ej]
          have : (j == q.1) = false := by simp [e, ej]
          rw [this]
      · have e1 : (q.1 != i) = true := by simp [e]
        rw [e1]
        simp only [if_true]
        rw [List.lookup_cons, List.lookup_cons, ← ih]
        by_cases ej : j = i
        · have : (j == q.1) = false := by
            rw [beq_eq_false_iff_ne]
            intro z; exact e (z ▸ ej)
          rw [this, if_pos ej]
        · by_cases ek : j = q.1
          · have : (j == q.1) = true := by simp [ek]
            rw [this, if_neg ej]
          · have : (j == q.1) = false := by simp [ek]
            rw [this]
  have R1 := R.letgo ho (notPin R hp) (fun p hp' => by simpa using List.all_eq_true.mp np p hp')
  rw [eo] at R1
  have hs : Same F (EV.plus F H (fp i)) := plus_same fun a ha => (R.out i a (by rw [ho]; simp) ha).1
  exact ⟨B, _, fp, ρ, R1, tS_same hs P⟩
/-- x = what is new, x becomes owned -/
theorem den_takeO {i : Nat} {x : Str} {e : Expr} {f : E} {sh : Sh} {l : List (Nat × Sh)} {pos' : Pos} (ho : ownL l i = none) (np : Z.ioX.all (fun p => p.1 != i) = true) (hp : Z.pinS i = false) (hN : X.N.Nodup) (hi : X.N[i]? = some x) (hx : Loc X.env.scope x) (he : DenO X Z (ownL l) W sh e f)
    (hs : swapsWith e (some (.Name x pos')) pos.line X.env = pure false := by rfl)
    (hf : X.fn x = true ∨ X.env.scope.names.lookup x = some .local := by first | exact .inl rfl | exact .inr rfl | assumption) : DenS X Z (ownL l) (ownL ((i, sh) :: l)) ob W (.Assign [.Name x pos'] e pos) (sSet i f) := PSimp (ps_set hN hi hx he hs hf) fun D σ H h => by
  obtain ⟨B, F, fp, ρ, R, P⟩ := h
  refine ⟨B, F, fp, ρ, R, ?_⟩
  have eo : setF (ownL l) i (some sh) = ownL ((i, sh) :: l) := by
    funext j
    unfold setF ownL
    rw [List.lookup_cons]
    by_cases ej : j = i
    · rw [if_pos ej]
      have : (j == i) = true := by simp [ej]
      rw [this]
    · rw [if_neg ej]
      have : (j == i) = false := by simp [ej]
      rw [this]
  unfold sSet sOf at P
  cases e1 : f ρ with
  | ok d ρ1 =>
    rw [e1] at P
    dsimp only at P ⊢
    intro F1 fp1 H1 v O s1 R1 hO fr
    refine P F1 (setF fp1 i O) (σ.set i (some v)) H1 s1 ?_
    have := R1.setO (i := i) (notPin R1 hp) (fun p hp' => by simpa using List.all_eq_true.mp np p hp') hO fr
    rw [eo] at this
    exact this
  | ex x ρ1 =>
    rw [e1] at P
    intro F' fp' H' c dx s R' hx
    exact P F' fp' σ H' c dx (ownL l) s R' hx
  | stk => rw [e1] at P; exact P
/-- list(e), owned -/
theorem deno_list {x : Expr} {fx : E} (hg : L2.Gl X "list") (hm : X.mg "list" = none) (ha : DenE X Z own W x fx) (he : starEach [x] X.env = (false, eval x X.env) :: starEach [] X.env := by rfl) (hpl : (backTo pos (starEach [] X.env)).any (·.1) = false := by rfl) :
    DenO X Z own W .lst (.Call (.Name "list" p) [x] [] pos) (eCallB bList [fx]) := PEimp (pe_callTy call_list_of hg hm (bootT "list" rfl) (pa_cons ha pa_nil he) (by decide) (by decide) he hpl) fun σ H Q h => by
  obtain ⟨B, F, fp, ρ, R, P⟩ := h
  refine ⟨B, F, fp, ρ, R, ?_⟩
  unfold eCallB eWith eArgs eArgs at P
  cases e1 : fx ρ with
  | stk => rw [e1] at P; exact P
  | ex x ρ1 => rw [e1] at P; exact P
  | ok d ρ1 =>
    rw [e1] at P
    dsimp only at P
    intro F1 fp1 H1 v s1 R1 hd
    have fin : ∀ {vs ds}, DatL (gOf X) F1 vs ds → bList [d] = some (.lst ds) → ∀ l, H1 l = none → Q (.ref l) (upd H1 l (.lst vs)) := fun {vs ds} hl eb l nl => by
      rw [eb] at P
      have fr := freshNew R1 nl
      exact P F1 fp1 _ _ [l] s1 (R1.growH (same_upd nl)) (.lst upd_same hl) ⟨fr.out, fr.dis⟩
    cases hd with
    | @lst a vs ds hs hl => exact ⟨a, vs, rfl, .inl (EVseq R1.sub hs), fin hl rfl⟩
    | @tup a vs ds hs hl => exact ⟨a, vs, rfl, .inr (Same.seqT R1.sub hs), fin hl rfl⟩
    | _ => exact P.elim
end
/-! ## small facts -/
section
theorem dEq_bl : ∀ x y d, dEq x y = some d → ∃ k, d = .bl k := fun x y d h => by
  unfold dEq at h; split at h
  · cases h; exact ⟨_, rfl⟩
  · cases h
theorem dNe_bl : ∀ x y d, dNe x y = some d → ∃ k, d = .bl k := fun x y d h => by
  unfold dNe at h; split at h
  · cases h; exact ⟨_, rfl⟩
  · cases h
theorem dLt_bl : ∀ x y d, dLt x y = some d → ∃ k, d = .bl k := fun _ _ _ h => dI2_bl h
theorem dLe_bl : ∀ x y d, dLe x y = some d → ∃ k, d = .bl k := fun _ _ _ h => dI2_bl h
theorem dGt_bl : ∀ x y d, dGt x y = some d → ∃ k, d = .bl k := fun _ _ _ h => dI2_bl h
theorem dGe_bl : ∀ x y d, dGe x y = some d → ∃ k, d = .bl k := fun _ _ _ h => dI2_bl h
theorem dIn_bl : ∀ x y d, dInD x y = some d → ∃ k, d = .bl k := fun x y d h => by
  obtain ⟨k, _, e⟩ := Option.map_eq_some_iff.mp h; exact ⟨k, e.symm⟩
theorem dNotIn_bl : ∀ x y d, dNotInD x y = some d → ∃ k, d = .bl k := fun x y d h => by
  obtain ⟨k, _, e⟩ := Option.map_eq_some_iff.mp h; exact ⟨!k, e.symm⟩
theorem dIsN_bl : ∀ x y d, dIsN x y = some d → ∃ k, d = .bl k := fun x y d h => by
  unfold dIsN at h; split at h
  · cases h; exact ⟨_, rfl⟩
  · cases h
theorem dNotN_bl : ∀ x y d, dNotN x y = some d → ∃ k, d = .bl k := fun x y d h => by
  unfold dNotN at h; split at h
  · cases h; exact ⟨_, rfl⟩
  · cases h
theorem hu4 {k : Nat} {A : Around} (hr : Room k A) : A.units + 64 < cLine := hr.units
theorem hu5 {k : Nat} {A : Around} (hr : Room k A) : A.units + 65 < cLine := by have := hr.un; omega
end
end EV
namespace EV
open PySem PySem.Spec PyProof.Rows L2

/-! ## lists by <, where the places behind the first difference may be of any kinds -/
/-- x.. < y.. is k, and each look that it takes is answered -/
inductive LtR (A : Around) (s : Shared) : List Value → List Value → Bool → Prop
  | nn : LtR A s [] [] false
  | nc {y ys} : LtR A s [] (y :: ys) true
  | cn {x xs} : LtR A s (x :: xs) [] false
  | eq {x y xs ys k} : SeqAt.EqAt A s x y true → LtR A s xs ys k → LtR A s (x :: xs) (y :: ys) k
  | ne {x y xs ys k} : SeqAt.EqAt A s x y false → SeqAt.RcLt A s x y k → LtR A s (x :: xs) (y :: ys) k
end EV
namespace PySem.SeqAt
open EV
open AutoSeq1 (wpAny_loadPart')
open MeetsSeq MeetsSeq2 MeetsSeq3 SeqRoads2
open Sem (wp)
theorem ev_drop_cons {α : Type} {l : List α} {i : Nat} {x : α} {xs : List α} (h : l.drop i = x :: xs) : l[i]? = some x ∧ l.drop (i + 1) = xs := by
  constructor
  · have := congrArg List.head? h
    simpa using this
  · have := congrArg List.tail h
    simpa using this
theorem ev_lt_loop (l b : Addr) (items items2 : Array Value) (n n2 : Nat) (dd dd2 : Option Addr) (sl sl2 : Array (Option Value)) (k : Nat) :
    ∀ i : Nat, items.size - i = k → Meets (Builtin.«list.__eq__.loop» ⟨[.ref l, .ref b, rawInt i, rawInt 0], []⟩)
      (fun A R s => s.heap.get? l = some { cls := .type "list", dict := dd, data := .seq items n, slots := sl } ∧ s.heap.get? b = some { cls := .type "list", dict := dd2, data := .seq items2 n2, slots := sl2 } ∧
        ∃ q, LtR A.in1 s (items.toList.drop i) (items2.toList.drop i) q ∧ (items.size - i < items2.size - i ↔ items.size < items2.size) ∧ R (.ok (.ret (.bool q))) s) := by
  induction k with
  | zero =>
    intro i hk prog w A R s h
    obtain ⟨hp, g, d, tk, os⟩ := s; obtain ⟨hl, hb, q, ht, hsz, h⟩ := h
    have h1 : items.size ≤ i := by omega
    have hd : items.toList.drop i = [] := by simp; omega
    have hi1 : items[((i : Nat) : Int).toNat]? = none := by simp; omega
    have hq : q = decide (items.size < items2.size) := by
      rw [hd] at ht
      generalize e : items2.toList.drop i = ys at ht
      have hl2 : ys.length = items2.size - i := by rw [← e]; simp
      cases ht with
      | nn => simp at hl2; rw [eq_comm, decide_eq_false_iff_not]; omega
      | nc => simp at hl2; rw [eq_comm, decide_eq_true_iff]; omega
    subst hq
    wp_walk using wpAny_loadPart' hl, wpAny_loadPart' hb
    rw [hi1]
    wp_walk using wpAny_loadPart' hl, wpAny_loadPart' hb
    exact h
  | succ k ih =>
    intro i hk prog w A R s h
    obtain ⟨hp, g, d, tk, os⟩ := s; obtain ⟨hl, hb, q, ht, hsz, h⟩ := h
    have hlt : i < items.size := by omega
    have hi1 : items[((i : Nat) : Int).toNat]? = some items[i] := by simp [hlt]
    have hc : ((i : Int) + 1) = ((i + 1 : Nat) : Int) := by push_cast; rfl
    wp_walk using wpAny_loadPart' hl, wpAny_loadPart' hb
    rw [hi1]
    generalize e1 : items.toList.drop i = xs at ht
    generalize e2 : items2.toList.drop i = ys at ht
    have hl1 : xs.length = items.size - i := by rw [← e1]; simp
    have hl2 : ys.length = items2.size - i := by rw [← e2]; simp
    cases ht with
    | nn => simp at hl1; omega
    | nc => simp at hl1; omega
    | cn =>
      have hi2 : items2[((i : Nat) : Int).toNat]? = none := by simp at hl2 ⊢; omega
      rw [hi2]
      wp_walk using wpAny_loadPart' hl, wpAny_loadPart' hb
      have : decide (items.size < items2.size) = false := by rw [decide_eq_false_iff_not]; simp at hl1 hl2; omega
      show R (.ok (.ret (.bool (decide (items.size < items2.size))))) _
      rw [this]
      exact h
    | @eq x y xs' ys' _ he hr =>
      obtain ⟨g1, g1'⟩ := ev_drop_cons e1
      obtain ⟨g2, g2'⟩ := ev_drop_cons e2
      have hi2 : items2[((i : Nat) : Int).toNat]? = some y := by simpa using g2
      have hx : items[i] = x := by simpa [hlt] using g1
      rw [hi2, hx]
      refine wpAny_bind (he prog w _ _ ?_)
      wp_walk
      rw [hc]
      exact ⟨plainId_quiet plain_eq_loop _, codeAny_builtin entry_eq_loop (by
        rw [Around.under_plainId plain_eq_loop _]
        exact ih (i + 1) (by omega) prog w A R _ ⟨hl, hb, q, by rw [g1', g2']; exact hr, by simp at hl1 hl2; omega, h⟩)⟩
    | @ne x y xs' ys' _ he hr =>
      obtain ⟨g1, _⟩ := ev_drop_cons e1
      obtain ⟨g2, _⟩ := ev_drop_cons e2
      have hi2 : items2[((i : Nat) : Int).toNat]? = some y := by simpa using g2
      have hx : items[i] = x := by simpa [hlt] using g1
      rw [hi2, hx]
      refine wpAny_bind (he prog w _ _ ?_)
      wp_walk using wpAny_loadPart' hl, wpAny_loadPart' hb
      rw [hi1, hi2, hx]
      refine wpAny_bind (hr prog w _ _ ?_)
      wp_walk
      exact h
theorem ev_list_lt (l b : Addr) (items items2 : Array Value) (n n2 : Nat) (dd dd2 : Option Addr) (sl sl2 : Array (Option Value)) :
    Meets (Builtin.«list.__lt__» ⟨[.ref l, .ref b], []⟩)
      (fun A R s => s.heap.get? l = some { cls := .type "list", dict := dd, data := .seq items n, slots := sl } ∧ s.heap.get? b = some { cls := .type "list", dict := dd2, data := .seq items2 n2, slots := sl2 } ∧
        ∃ q, LtR A.in1 s items.toList items2.toList q ∧ R (.ok (.ret (.bool q))) s) := by
  intro prog w A R s h
  obtain ⟨hp, g, d, tk, os⟩ := s; obtain ⟨hl, hb, q, ht, h⟩ := h
  have f3 := AutoSeq1.sub_list_list
  wp_walk using wpAny_loadPart' hl, wpAny_loadPart' hb
  exact ⟨plainId_quiet plain_eq_loop _, codeAny_builtin entry_eq_loop (by
    rw [Around.under_plainId plain_eq_loop _]
    exact ev_lt_loop l b items items2 n n2 dd dd2 sl sl2 _ 0 rfl prog w A R _ ⟨hl, hb, q, by simpa using ht, by simp, h⟩)⟩
theorem RcLt.listsF {A : Around} {s : Shared} {l b : Addr} {items items2 : Array Value} {q : Bool} (hl : s.heap.IsList l items) (hb : s.heap.IsList b items2) (hu : A.units < cLine) (h0 : LtR A.in1 s items.toList items2.toList q) :
    RcLt A s (.ref l) (.ref b) q := fun prog w E Q h => by
  obtain ⟨⟨cls, dd, data, sl⟩, ho, hc, n, hd⟩ := id hl
  obtain ⟨⟨cls2, dd2, data2, sl2⟩, ho2, hc2, n2, hd2⟩ := id hb
  simp only at hc hd hc2 hd2
  subst hc hd hc2 hd2
  exact richCompare_meets_room (op := .Lt) ⟨_, ho, rfl⟩ ⟨_, ho2, rfl⟩ F.slot_list_lt F.entry_list_lt (F.args_list_lt_2 _ _) (ev_list_lt l b items items2 n n2 dd dd2 sl sl2)
    ⟨ho, ho2, q, h0, show Value.bool q ≠ Value.notImplemented ∧ Q (.bool q) s from ⟨(fun x => nomatch x), h⟩⟩ hu
end PySem.SeqAt
namespace EV
open PySem PySem.Spec PyProof.Rows L2
mutual
/-- x < y as data; a text is never asked against a list -/
def pLt : PyData → PyData → Option Bool
  | .int x, .int y => some (PySem.W.dataLt (.int x) (.int y))
  | .str x, .str y => some (PySem.W.dataLt (.str x) (.str y))
  | .tuple xs, .tuple ys => if PySem.W.alikeAll xs ys then some (PySem.W.dataLt (.tuple xs) (.tuple ys)) else none
  | .list xs, .list ys => pLtL xs ys
  | _, _ => none
def pLtL : List PyData → List PyData → Option Bool
  | [], [] => some false
  | [], _ :: _ => some true
  | _ :: _, [] => some false
  | x :: xs, y :: ys => if PyData.eqv x y then pLtL xs ys else pLt x y
end
end EV
namespace PySem.W
open PySem PySem.SeqAt PyProof.Rows EV
mutual
theorem rcLt_p : ∀ (da db : PyData) (A : Around) (s : Shared) (a b : Value) (as bs : List Addr) (k : Bool), Reads s.heap a da as → Reads s.heap b db bs → da.canLay0 = true → db.canLay0 = true → pLt da db = some k → A.units + min da.depth db.depth < cLine → RcLt A s a b k
  | .int x, db, A, s, a, b, as, bs, k, ra, rb, _, _, h, hu => by
    cases db with
    | int y => unfold pLt at h; cases h; exact rcLt_alike (.int x) (.int y) A s a b as bs ra rb rfl (by simp) hu
    | _ => simp [pLt] at h
  | .str x, db, A, s, a, b, as, bs, k, ra, rb, _, _, h, hu => by
    cases db with
    | str y => unfold pLt at h; cases h; exact rcLt_alike (.str x) (.str y) A s a b as bs ra rb rfl (by simp) hu
    | _ => simp [pLt] at h
  | .tuple xs, db, A, s, a, b, as, bs, k, ra, rb, _, _, h, hu => by
    cases db with
    | tuple ys =>
      unfold pLt at h
      split at h
      · rename_i hal
        cases h
        exact rcLt_alike (.tuple xs) (.tuple ys) A s a b as bs ra rb (by simpa [alike] using hal) (by simp) hu
      · cases h
    | _ => simp [pLt] at h
  | .list xs, db, A, s, a, b, as, bs, k, ra, rb, ca, cb, h, hu => by
    cases db with
    | list ys =>
      unfold pLt at h
      cases ra with
      | @list l o vs n _ as₁ h1 h2 h3 h4 =>
        cases rb with
        | @list l' o' vs' n' _ bs₁ k1 k2 k3 k4 =>
          exact RcLt.listsF ⟨_, h1, h2, _, h3⟩ ⟨_, k1, k2, _, k3⟩ (room_here hu) (ltR_p xs ys A.in1 s vs.toList vs'.toList _ _ k h4 k4 (by simpa [PyData.canLay0] using ca) (by simpa [PyData.canLay0] using cb) h (room_in hu))
    | _ => simp [pLt] at h
  | .none, db, _, _, _, _, _, _, _, _, _, _, _, h, _ => by simp [pLt] at h
  | .bool _, db, _, _, _, _, _, _, _, _, _, _, _, h, _ => by simp [pLt] at h
  | .dict _, db, _, _, _, _, _, _, _, _, _, _, _, h, _ => by simp [pLt] at h
theorem ltR_p : ∀ (xs ys : List PyData) (A : Around) (s : Shared) (vs ws : List Value) (as bs : List Addr) (k : Bool), ReadsAll s.heap vs xs as → ReadsAll s.heap ws ys bs → PyData.canLayAll0 xs = true → PyData.canLayAll0 ys = true → pLtL xs ys = some k →
    A.units + min (PyData.depthAll xs) (PyData.depthAll ys) < cLine → LtR A s vs ws k
  | [], ys, A, s, _, _, _, _, k, ra, rb, _, _, h, hu => by
    cases ra
    cases rb with
    | nil => cases h; exact .nn
    | cons => cases h; exact .nc
  | x :: xs, ys, A, s, _, _, _, _, k, ra, rb, ca, cb, h, hu => by
    cases ra with
    | cons r rs =>
      cases rb with
      | nil => cases h; exact .cn
      | cons r' rs' =>
        rename_i y ys _ _
        have ca' : x.canLay0 = true ∧ PyData.canLayAll0 xs = true := by simpa [PyData.canLayAll0] using ca
        have cb' : y.canLay0 = true ∧ PyData.canLayAll0 ys = true := by simpa [PyData.canLayAll0] using cb
        have e := eqAt_reads x y A s _ _ _ _ r r' ca'.1 cb'.1 (room_head hu)
        unfold pLtL at h
        cases he : PyData.eqv x y with
        | true =>
          rw [he] at e h
          exact .eq e (ltR_p xs ys A s _ _ _ _ k rs rs' ca'.2 cb'.2 h (room_tail hu))
        | false =>
          rw [he] at e h
          exact .ne e (rcLt_p x y A s _ _ _ _ k r r' ca'.1 cb'.1 h (room_head hu))
end
end PySem.W
namespace EV
open PySem PySem.Spec PyProof.Rows L2
example : Builtin.Str.occurrences (Str.ofString "abc") (Str.ofString "b") 0 3 1 = [1] := by decide +kernel
def sStk : S := fun _ => .stk
def sRetN : S := fun ρ => .rt .non ρ
section
variable {own : Own} {l : List (Nat × Sh)} {p : Nat × Sh}
theorem all_nil : ∀ p ∈ ([] : List (Nat × Sh)), own p.1 = some p.2 := fun p hp => by cases hp
theorem all_cons (h : own p.1 = some p.2) (t : ∀ p ∈ l, own p.1 = some p.2) : ∀ q ∈ p :: l, own q.1 = some q.2 := fun q hq => by
  rcases List.mem_cons.mp hq with rfl | hq
  · exact h
  · exact t q hq
end
theorem ownL_self : ∀ {l : List (Nat × Sh)}, (l.map (·.1)).Nodup → ∀ p ∈ l, ownL l p.1 = some p.2
  | [], _, p, hp => by cases hp
  | q :: r, nd, p, hp => by
    rw [List.map_cons, List.nodup_cons] at nd
    unfold ownL
    rw [List.lookup_cons]
    rcases List.mem_cons.mp hp with rfl | hp
    · simp
    · have ne : (p.1 == q.1) = false := by
        rw [beq_eq_false_iff_ne]
        intro z
        exact nd.1 (z ▸ List.mem_map_of_mem (f := (·.1)) hp)
      rw [ne]
      exact ownL_self nd.2 p hp
theorem ownL_mem {l : List (Nat × Sh)} {i : Nat} (h : ownL l i ≠ none) : ∃ p ∈ l, p.1 = i := by
  cases e : ownL l i with
  | none => exact absurd e h
  | some b => exact ⟨_, lk_mem e, rfl⟩
/-- a stuck def keeps any promise -/
theorem fnStk {P : Program} {w : World} {K : PySem.W.Frag} {mg : Str → Option Value} {base : Heap} {nm : Str} {ps : List Str} {st : Stmt} {k : Nat} {s : Sig} (A0 : DefAt K mg nm ps st) (hn : ps.length = s.np) : DefOk P w K mg base nm ps k s (fun _ => .stk) := by
  obtain ⟨f, fd, h1, h2, h3⟩ := A0.ex
  refine ⟨f, fd, h1, h2.kp, h3, ⟨fun vs H Q E h => h.1.trans hn.symm, fun A outer s0 H args us vs Q E hr he hb hv hs => ?_⟩⟩
  obtain ⟨_, F, ds, fp, _, h⟩ := hs
  exact h.elim
section
variable {P : Program} {w : World} {K : PySem.W.Frag} {mg : Str → Option Value} {base : Heap}
/-- the rule of a def whose arguments io it may change -/
theorem def_okIO {nm : Str} {ps N : List Str} {st : Stmt} {k : Nat} {io : List (Nat × Sh)} {ret : Option Sh} {own' : Own} {b : S} (A0 : DefAt K mg nm ps st) (S0 : FnScope N ps (defScope st)) (hN : ps.length ≤ N.length)
    (hnd : (io.map (·.1)).Nodup) (hlt : ∀ p ∈ io, p.1 < ps.length) (hnx : ret = none → ∀ p ∈ io, own' p.1 = some p.2)
    (hbody : ∀ (f : Addr) (cdv : Value) (A : Around) (outer : List Env) (s0 : Shared) (H : Hp) (E : XK), Room k (cxOf (L2.CX P w) P w K mg base N nm (defScope st) f cdv A outer s0 H E).A →
      DenSs (cxOf (L2.CX P w) P w K mg base N nm (defScope st) f cdv A outer s0 H E) (sgOf ⟨ps.length, io, io, io, ret⟩) (ownL io) own' (ownL io) (fun c d _ H => E c d H) (defBody st) b) :
    DefOk P w K mg base nm ps (k + 1) ⟨ps.length, io, io, io, ret⟩ (fnD N.length ⟨ps.length, io, io, io, ret⟩ b) :=
  def_okS A0 S0 rfl hN (ownL_self hnd) (ownL_self hnd) (fun i h _ => ownL_mem h) hnd hlt hnd hnd (fun p hp => ⟨p, hp, rfl⟩) (fun p hp => ⟨p, hp, rfl⟩) hnx hbody
end
section
variable {X : Cx} {Z : Sg} {own own' own1 ob : Own} {W : WX} {pos p apos cpos : Pos} {e a b : Expr} {f fa fb : E}
/-- a test that looks at what is owned -/
theorem dent_borrow (h : DenT X Zb own0 noW e f) (hf : ∀ ρ d ρ', f ρ = .ok d ρ' → ∃ k, d = .bl k) : DenT X Z own W e (eBorrow f) := PTimp h fun σ H Q hh => by
  obtain ⟨B, F, fp, ρ, R, P⟩ := hh
  obtain ⟨B2, F2, fp2, R2, back⟩ := Rel.borrow R
  refine ⟨B2, F2, fp2, ρ, R2, ?_⟩
  unfold eBorrow at P
  cases e1 : f ρ with
  | ok d ρ' =>
    rw [e1] at P
    dsimp only at P
    by_cases hfl : d.flatT = true
    · rw [if_pos hfl] at P
      obtain ⟨k, hk⟩ := hf _ _ _ e1
      subst hk
      obtain ⟨b, hb, P⟩ := P
      cases hb
      refine ⟨k, rfl, fun F' fp' H' s R' => ?_⟩
      obtain ⟨F3, fp3, s3, R3, d3⟩ := back F' fp' ρ' H' (.bl k) (.bl k) R' (.bl k) rfl
      exact P F3 fp3 H' s3 R3
    · rw [if_neg hfl] at P; exact P.elim
  | ex x ρ' => rw [e1] at P; exact P.elim
  | stk => rw [e1] at P; exact P.elim
end
theorem eOp_bl {f : D → D → Option D} {a b : E} (hf : ∀ x y d, f x y = some d → ∃ k, d = .bl k) : ∀ ρ d ρ', eOp f a b ρ = .ok d ρ' → ∃ k, d = .bl k := fun ρ d ρ' h => by
  unfold eOp eBind at h
  cases e1 : a ρ with
  | ok x ρ1 =>
    simp only [e1, Rs.bind] at h
    cases e2 : b ρ1 with
    | ok y ρ2 =>
      simp only [e2] at h
      cases e3 : f x y with
      | some z => simp only [e3] at h; cases h; exact hf _ _ _ e3
      | none => simp only [e3] at h; cases h
    | ex e ρ2 => simp only [e2] at h; cases h
    | stk => simp only [e2] at h; cases h
  | ex e ρ1 => simp only [e1, Rs.bind] at h; cases h
  | stk => simp only [e1, Rs.bind] at h; cases h
/-! ## text.index(sign) -/
def dIdx (x y : D) : Option D := match x, y with
  | .str x, .str y => match Builtin.Str.occurrences x y 0 x.length 1 with
    | i :: _ => some (.int (i : Nat))
    | [] => none
  | _, _ => none
def D.isStr : D → Bool
  | .str _ => true
  | _ => false
def eStrIndex (a b : E) : E := eBind a fun x => if x.isStr then eBind b fun y => fun ρ => match dIdx x y with
  | some d => .ok d ρ
  | none => .stk else fun _ => .stk
/-- x < y, for ints, and for lists and tuples as data -/
def dLtA (x y : D) : Option D := match x, y with
  | .int i, .int j => some (.bl (decide (i < j)))
  | x, y => if D.fit x y then (pLt x.toP y.toP).map .bl else none
theorem dLtA_bl : ∀ x y d, dLtA x y = some d → ∃ k, d = .bl k := fun x y d h => by
  unfold dLtA at h
  split at h
  · cases h; exact ⟨_, rfl⟩
  · split at h
    · obtain ⟨k, _, e⟩ := Option.map_eq_some_iff.mp h; exact ⟨k, e.symm⟩
    · cases h
section
variable {X : Cx} {Z : Sg} {own own' own1 ob : Own} {W : WX} {pos p apos cpos : Pos} {e a b : Expr} {f fa fb : E}
theorem opd_ltA (hu : X.A.units + 64 < cLine) : OpD X (compareOp .Lt) dLtA := by
  intro pins s σ H x y v u Q I rx ry h
  obtain ⟨F, a, b, d, hF, ha, hb, e, yl⟩ := h
  unfold dLtA at e
  split at e
  · exact opd_lt pins s σ H x y v u Q I rx ry ⟨F, _, _, d, hF, ha, hb, e, yl⟩
  · split at e
    · rename_i f
      obtain ⟨k, hk, rfl⟩ := Option.map_eq_some_iff.mp e
      obtain ⟨⟨as, r1⟩, ⟨bs, r2⟩, c1, c2, r⟩ := eq_core I hF ha hb rx ry f hu
      exact PySem.W.rcLt_p _ _ X.A s v u as bs k r1 r2 c1 c2 hk r X.prog X.w X.xe _ ⟨.bl _, H, I, rfl, yl.flat hF (.bl _)⟩
    · cases e
theorem den_strIndex (ha : DenE X Z own W a fa) (hb : DenE X Z own W b fb)
    (hbase : attributeBase a "index" X.env (eval a X.env) = eval a X.env := by rfl)
    (hfew : ((backTo cpos (starEach (b :: []) X.env)).all (fun x => !x.1) && (backToKw cpos (keywordEach [] X.env)).all (fun x => x.1.isSome)
      && decide ((b :: ([] : List Expr)).length + ([] : List Keyword).length + (if ([] : List Keyword).isEmpty then 0 else 1) < 30)) = true := by rfl)
    (hline : (apos.endLine == cpos.line) = true := by rfl) (hs : starEach (b :: []) X.env = (false, eval b X.env) :: starEach [] X.env := by rfl) (hplain : (backTo cpos (starEach [] X.env)).any (·.1) = false := by rfl) :
    DenE X Z own W (.Call (.Attribute a "index" apos) [b] [] cpos) (eStrIndex fa fb) :=
  PEimp (pe_bm PySem.F.plainAttrs_str PySem.F.slot_str_index PySem.F.type_str_index mt_sindex ha (pa_cons hb pa_nil hs) hbase hfew hline hs hplain) fun σ H Q h => by
  obtain ⟨B, F, fp, ρ, R, P⟩ := h
  refine bindR R P fun F1 fp1 ρ1 x v H1 s1 R1 hx P1 => ?_
  cases hx with
  | str x0 hz hk =>
    refine ⟨rfl, ?_⟩
    refine bindR R1 P1 fun F2 fp2 ρ2 y u H2 s2 R2 hy P2 => ?_
    cases hy with
    | str y0 hz2 hk2 =>
      unfold dIdx at P2
      dsimp only at P2
      split at P2
      · rename_i d0 e0
        split at e0
        · rename_i i rest eo
          cases e0
          exact ⟨x0, y0, i, rest, rfl, rfl, eo, P2 F2 fp2 H2 (.int (i : Nat)) (Same.refl _) R2 (.int _)⟩
        · cases e0
      · exact P2.elim
    | _ => exact P2.elim
  | _ => exact P1.elim
end
/-! ## a comprehension set to a name (all that is implicit stands ahead) -/
section
variable {X : Cx} {Z : Sg} {own ob : Own} {W : WX} {pos py spos : Pos} {elt tg iter : Expr} {ifs : List Expr} {scope : Scope} {bown : List (Str × Nat)} {fi ft fe : E} {fg : Tg} {vs : List Nat} {i : Nat} {y : Str}
theorem den_setLcA (hc : X.calm = true) (hN : X.N.Nodup) (hi : DenI X Z own W tg iter fi) (ok : BlkOk X.N X.env.scope scope bown) (hvs : bown.map (·.2) = vs) (hv : ∀ i, i ∈ vs → own i = none)
    (hg : ∀ (s : Shared) (H : Hp) (C : Addr) (cl : List (Str × Addr)) (fp : List Addr), DenG (X.blk s H scope (compEnvC scope cl C X.env) fp) Zb own vs tg fg) (ht : ∀ (s : Shared) (H : Hp) (C : Addr) (cl : List (Str × Addr)) (fp : List Addr), DenTs (X.blk s H scope (compEnvC scope cl C X.env) fp) Zb own noW ifs ft)
    (he : ∀ (s : Shared) (H : Hp) (C : Addr) (cl : List (Str × Addr)) (fp : List Addr), DenE (X.blk s H scope (compEnvC scope cl C X.env) fp) Zb own noW elt fe)
    (ho : own i = none) (hy : X.N[i]? = some y) (hyl : X.env.scope.names.lookup y = some .local)
    (hsw : swapsWith (.ListComp elt [⟨tg, iter, ifs, 0⟩] scope pos) (some (.Name y py)) spos.line X.env = pure true) (hs : ∀ x, foldedSetIterable iter X.env x = pure x := by intro _; rfl) :
    DenS X Z own own ob W (.Assign [.Name y py] (.ListComp elt [⟨tg, iter, ifs, 0⟩] scope pos) spos) (sSet i (eLc vs fi fg ft fe)) :=
  den_setLc (own' := own) hc hN hi ok hvs hv hg ht he ho hy hyl hsw hs
theorem den_setLcOA (hc : X.calm = true) (hN : X.N.Nodup) (hi : DenI X Z own W tg iter fi) (ok : BlkOk X.N X.env.scope scope bown) (hvs : bown.map (·.2) = vs) (hv : ∀ i, i ∈ vs → own i = none)
    (hg : ∀ (s : Shared) (H : Hp) (C : Addr) (cl : List (Str × Addr)) (fp : List Addr), DenG (X.blk s H scope (compEnvC scope cl C X.env) fp) Zb own vs tg fg) (ht : ∀ (s : Shared) (H : Hp) (C : Addr) (cl : List (Str × Addr)) (fp : List Addr), DenTs (X.blk s H scope (compEnvC scope cl C X.env) fp) Zb own noW ifs ft)
    (he : ∀ (s : Shared) (H : Hp) (C : Addr) (cl : List (Str × Addr)) (fp : List Addr), DenE (X.blk s H scope (compEnvC scope cl C X.env) fp) Zb own noW elt fe)
    (ho : own i = some .lst) (np : Z.ioX.all (fun p => p.1 != i) = true) (hp : Z.pinS i = false) (hy : X.N[i]? = some y) (hyl : X.env.scope.names.lookup y = some .local)
    (hsw : swapsWith (.ListComp elt [⟨tg, iter, ifs, 0⟩] scope pos) (some (.Name y py)) spos.line X.env = pure true) (hs : ∀ x, foldedSetIterable iter X.env x = pure x := by intro _; rfl) :
    DenS X Z own own ob W (.Assign [.Name y py] (.ListComp elt [⟨tg, iter, ifs, 0⟩] scope pos) spos) (sSet i (eLc vs fi fg ft fe)) :=
  den_setLcO (ob := ob) hc hN hi ok hvs hv hg ht he ho np hp hy hyl hsw hs
end
end EV
namespace EV
open PySem PySem.Spec PyProof.Rows L2

/-! ## {} -/
theorem objok_dct0 {P : Program} {w : World} {H : Hp} (h : Heap) : ObjOk P w H (h.push { cls := .type "dict", data := .dict #[] }) h.objs.size (dctO h.objs.size []) :=
  ⟨⟨_, #[], 0, Heap.get?_push_size _ rfl, ⟨rfl, rfl, rfl⟩, rfl, .nil⟩, ⟨_, Heap.get?_push_size _ rfl⟩, fun h1 h2 ⟨o, es, ep, g, x, d, p⟩ k => ⟨o, es, ep, k _ g, x, d, p⟩⟩
def eDct0 : E := fun ρ => .ok (.dct [] []) ρ
section
variable {X : Cx} {Z : Sg} {own : Own} {W : WX} {pos : Pos}
theorem pe_dct0 : PE X (.Dict [] [] pos) (fun _ H Q => ∀ p, H p = none → (p == sysModules) = false → Q (.ref p) (upd H p (dctO p []))) := ⟨fun pins s σ H Q I h =>
  wpAny_Dict_empty ⟨.ref s.heap.objs.size, _, I.laid (a := s.heap.objs.size) (o := dctO s.heap.objs.size []) (t' := s.toks) (fun _ _ q => Heap.get?_push_of_some _ q) (Nat.le_refl _) (objok_dct0 s.heap), rfl,
    h _ (I.hok.fresh (Nat.le_refl _)) (beq_eq_false_iff_ne.mpr (Ne.symm (Nat.ne_of_lt I.big)))⟩⟩
theorem den_dct0 : DenE X Z own W (.Dict [] [] pos) eDct0 := PEimp pe_dct0 fun σ H Q hh => by
  obtain ⟨B, F, fp, ρ, R, P⟩ := hh
  intro p np hb
  exact (RPost.yields R P).push R.sub np (.dct upd_same hb (Nat.zero_le _) rfl .nil .nil)
end

/-! ## what a callee has laid down, forgotten but its tuples -/
def cut (H H' : Hp) : Hp := fun a => match H a with
  | some o => some o
  | none => match H' a with
    | some (.tup xs) => some (.tup xs)
    | _ => none
theorem cut_old {H H' : Hp} {a : Addr} {o : HO} (h : H a = some o) : cut H H' a = some o := by unfold cut; rw [h]
theorem cut_tup {H H' : Hp} (e : Same H H') {a : Addr} {xs : List V} (h : H' a = some (.tup xs)) : cut H H' a = some (.tup xs) := by
  unfold cut
  cases q : H a with
  | some o => have := e _ _ q; rw [h] at this; exact this.symm
  | none => simp only [h]
theorem cut_none {H H' : Hp} (e : Same H H') {a : Addr} (h : H' a = none) : cut H H' a = none := by
  unfold cut
  rw [e.free h, h]
theorem cut_new {H H' : Hp} {a : Addr} (h : H a = none) : cut H H' a = none ∨ ∃ xs, cut H H' a = some (.tup xs) ∧ H' a = some (.tup xs) := by
  unfold cut
  rw [h]
  dsimp only
  cases q : H' a with
  | none => exact .inl rfl
  | some o => cases o <;> first | exact .inl rfl | exact .inr ⟨_, rfl, rfl⟩
theorem objok_cut {P : Program} {w : World} {H H' : Hp} (e : Same H H') {h h' : Heap} {a : Addr} : ∀ {o : HO}, ObjOk P w H h a o → ObjOk P w H' h' a o → ObjOk P w (cut H H') h' a o
  | .lst _, _, x => x
  | .tup _, _, x => x
  | .dK _, _, x => x
  | .dT _, _, x => by
    obtain ⟨z, b, xs, r, q⟩ := x
    exact ⟨z, b, xs, L2.Paired.mapP r fun p q ⟨h1, h2, h3⟩ => ⟨h1, cut_tup e h2, h3⟩, q⟩
  | .set _ _, _, x => x
  | .ins _ _ _, x0, x => ⟨cut_old x0.1, x.2⟩
  | .own _, _, x => x
  | .xd _, _, x => x
  | .rng _ _, _, x => x
  | .frz _ u, x0, x => ⟨x.1, objok_cut (o := u) e x0.2 x.2⟩
  | .tbl _, _, x => x
  | .met _ _, _, x => x
  | .ext _, _, x => x
theorem objok_cut_new {P : Program} {w : World} {H H' : Hp} {h' : Heap} {a : Addr} {xs : List V} (x : ObjOk P w H' h' a (.tup xs)) : ObjOk P w (cut H H') h' a (.tup xs) := x
section
variable {X : Cx} {pins : List (Addr × Obj)} {σ : St} {H H' : Hp} {s s' : Shared}
theorem Inv.cut (I : Inv X pins σ H s) (I' : Inv X pins σ H' s') (e : Same H H') : Inv X pins σ (cut H H') s' where
  ok := I'.ok
  os := I'.os
  bare := I'.bare
  base := ⟨I'.base.keep, I'.base.slot, fun b o h n x => cut_none e (I'.base.free b o h n x), I'.base.there, fun b xs h => cut_tup e (I'.base.tups b xs h), fun b o u h => cut_old (I.base.frzs b o u h), fun b ps h => let ⟨m, q⟩ := I.base.tbls b ps h; ⟨m, cut_old q⟩⟩
  loc := I'.loc
  cell := I'.cell
  free := cut_none e I'.free
  freeC := fun x c h => cut_none e (I'.freeC x c h)
  pin := fun p hp => let ⟨h1, h2, h3⟩ := I'.pin p hp; ⟨h1, cut_none e h2, h3⟩
  hok := fun a o h => by
    cases q : H a with
    | some o' =>
      have : EV.cut H H' a = some o' := cut_old q
      rw [this] at h; cases h
      exact objok_cut e (I.hok a o q) (I'.hok a o (e _ _ q))
    | none =>
      rcases cut_new (H' := H') q with z | ⟨xs, z, z'⟩
      · rw [z] at h; cases h
      · rw [z] at h; cases h
        exact I'.hok a _ z'
  len := I'.len
end

/-! ## min(xs, key=f), f's keys being tuples of ints -/
def intsD : List D → Option (List Int)
  | [] => some []
  | .int i :: r => (intsD r).map (i :: ·)
  | _ => none
def keyD (fn : List D → FOut) (d : D) : Option (List Int) := match fn [d] with
  | .ok (.tup ks) _ => intsD ks
  | _ => none
def keysD (fn : List D → FOut) : List D → Option (List (List Int))
  | [] => some []
  | d :: r => match keyD fn d, keysD fn r with
    | some k, some ks => some (k :: ks)
    | _, _ => none
def pTup (k : List Int) : PyData := .tuple (k.map .int)
def btK (ks : List (List Int)) (i j : Nat) : Bool := PySem.W.dataLt (pTup (ks.getD i [])) (pTup (ks.getD j []))
def eMinKey (fn : List D → FOut) (fx : E) : E := eBind fx fun x => fun ρ => match x with
  | .lst ds => match ds[argBest (btK ((keysD fn ds).getD [])) (ds.length - 1)]?, keysD fn ds with
    | some d, some _ => .ok d ρ
    | _, _ => .stk
  | _ => .stk
theorem keysD_at {fn : List D → FOut} : ∀ {ds : List D} {ks : List (List Int)}, keysD fn ds = some ks → ks.length = ds.length ∧ ∀ (i : Nat) (d : D), ds[i]? = some d → ∃ k, ks[i]? = some k ∧ keyD fn d = some k
  | [], _, h => by cases h; exact ⟨rfl, fun i d h => by simp at h⟩
  | d :: r, ks, h => by
    unfold keysD at h
    split at h
    · rename_i k ks' e1 e2
      cases h
      obtain ⟨l, q⟩ := keysD_at e2
      refine ⟨by simp [l], fun i d' hd => ?_⟩
      cases i with
      | zero => simp at hd; subst hd; exact ⟨k, rfl, e1⟩
      | succ i => simpa using q i d' (by simpa using hd)
    · cases h
theorem intsD_dat {g : Gb} {F : Hp} : ∀ {vs : List V} {ds : List D} {ks : List Int}, DatL g F vs ds → intsD ds = some ks → vs = ks.map V.int
  | _, _, _, .nil, h => by cases h; rfl
  | _, _, _, .cons a t, h => by
    cases a with
    | int i =>
      unfold intsD at h
      obtain ⟨r, e, rfl⟩ := Option.map_eq_some_iff.mp h
      rw [intsD_dat t e]; rfl
    | _ => simp [intsD] at h
theorem ints_vals : ∀ {ks : List Int} {us : List Value}, Vals (ks.map V.int) us → IntsAre us ks
  | [], _, h => by cases h; exact .nil
  | k :: ks, _, h => by
    cases h with
    | cons r t =>
      obtain ⟨t', rfl⟩ := r
      exact .cons k t' (ints_vals t)
theorem ints_back {us : List Value} {ks : List Int} (r : IntsAre us ks) : ∀ {vs : List V}, Vals vs us → vs = ks.map V.int := by
  induction r with
  | nil => intro vs h; cases h; rfl
  | cons n t r ih =>
    intro vs h
    cases h with
    | @cons v u vs us a b =>
      rw [ih b]
      cases v with
      | int i => obtain ⟨t', e⟩ := a; cases e; rfl
      | _ => first | (obtain ⟨_, e⟩ := a; cases e; done) | (cases a; done)
theorem ints_reads {h : Heap} : ∀ {us : List Value} {ks : List Int}, IntsAre us ks → ∃ as, ReadsAll h us (ks.map .int) as
  | _, _, .nil => ⟨_, .nil⟩
  | _, _, .cons n t r => let ⟨_, q⟩ := ints_reads r; ⟨_, .cons (.int n t) q⟩
theorem tup_reads {h : Heap} {c : Addr} {its : Array Value} {k : List Int} (p : IsTup h c its) (i : IntsAre its.toList k) : ∃ as, Reads h (.ref c) (pTup k) as := by
  obtain ⟨o, h1, h2, n, h3⟩ := p
  obtain ⟨as, q⟩ := ints_reads (h := h) i
  exact ⟨_, .tuple h1 h2 h3 q⟩
theorem ints_alike : ∀ (a b : List Int), PySem.W.alikeAll (a.map .int) (b.map .int) = true
  | [], _ => by unfold PySem.W.alikeAll; rfl
  | _ :: _, [] => by unfold PySem.W.alikeAll; rfl
  | _ :: a, _ :: b => by
    show (PySem.W.alike _ _ && PySem.W.alikeAll _ _) = true
    rw [ints_alike a b]; rfl
theorem ints_depth : ∀ a : List Int, PyData.depthAll (a.map .int) = 0
  | [] => rfl
  | _ :: a => by simp [PyData.depthAll, PyData.depth, ints_depth a]
theorem pTup_depth (a : List Int) : (pTup a).depth = 1 := by simp [pTup, PyData.depth, ints_depth]
end EV
namespace EV
open PySem PySem.Spec PyProof.Rows L2
/-- a place that is ours alone -/
structure Ours (X : Cx) (pins : List (Addr × Obj)) (H : Hp) (b : Addr) : Prop where
  lo : X.s_0.heap.objs.size ≤ b
  loc : b ≠ X.env.locals
  cel : ∀ x c, X.env.cells.lookup x = some c → c ≠ b
  pin : ∀ p ∈ X.pn ++ pins, p.1 ≠ b
  frs : b ∉ frs X.stack
  free : H b = none
section
variable {X : Cx} {pins : List (Addr × Obj)} {σ : St} {H : Hp} {s s' : Shared}
theorem Inv.ours (I : Inv X pins σ H s) {b : Addr} (hb : s.heap.objs.size ≤ b) : Ours X pins H b where
  lo := Nat.le_trans I.sz hb
  loc := fun e => absurd (I.lt) (by rw [← e]; exact Nat.not_lt.mpr hb)
  cel := fun x c h e => by
    obtain ⟨v, o, ho, _⟩ := I.cell x c h
    exact absurd (Heap.lt_size ho) (by rw [e]; exact Nat.not_lt.mpr hb)
  pin := fun p hp e => absurd (Heap.lt_size (I.pin p hp).1) (by rw [e]; exact Nat.not_lt.mpr hb)
  frs := fun h => by
    rcases List.mem_cons.mp (I.stkSub b h) with e | e
    · exact absurd (I.lt) (by rw [← e]; exact Nat.not_lt.mpr hb)
    · exact I.nofs hb e
  free := I.hok.fresh hb
/-- our own places have changed -/
theorem Inv.moved (I : Inv X pins σ H s) {S I0 : Addr} (oS : Ours X pins H S) (oI : Ours X pins H I0) (m : Moved (S :: [I0]) (fun a b => b = a) s s') : Inv X pins σ H s' := by
  have k : ∀ b o, b ∉ [S, I0] → s.heap.get? b = some o → s'.heap.get? b = some o := m.heap
  refine I.call' (ch := [S, I0]) m.os ⟨fun b o h _ _ x => k b o x h, fun b o h _ _ x => ⟨o.slots, k b o x h⟩, fun _ _ _ n _ => n, fun b o h x => ⟨o, k b o x h⟩, fun _ _ e => e, fun _ _ _ e => e, fun b ps e => ⟨#[], by rw [e]; simp⟩⟩ (fun b u e => ?_) ?_ ?_
  · refine (I.hok b u e).stay (fun c v hc q => k c v (fun z => ?_) q) (fun _ q => q) fun _ _ q => q
    have nn : ∀ c, c ∈ [S, I0] → H c = none := fun c hc => by
      simp at hc
      rcases hc with rfl | rfl
      · exact oS.free
      · exact oI.free
    rcases hc with y | y
    · have := nn c z; rw [y, e] at this; cases this
    · have := nn c z; rw [y] at this; cases this
  · have := m.gens
    rw [this]; exact I.bare
  · intro b hb
    simp at hb
    rcases hb with rfl | rfl
    · exact ⟨.inr oS.lo, oS.loc, oS.cel, oS.pin⟩
    · exact ⟨.inr oI.lo, oI.loc, oI.cel, oI.pin⟩
end
/-- what stays while keys are made -/
structure JK (X : Cx) (pins : List (Addr × Obj)) (σ : St) (H : Hp) (S I0 : Addr) (H1 : Hp) (s' : Shared) : Prop where
  inv : Inv X pins σ H1 s'
  same : Same H H1
  nS : H1 S = none
  nI : H1 I0 = none
  new : ∀ a, H a = none → H1 a = none ∨ ∃ zs, H1 a = some (.tup zs)
/-- a key that is made -/
structure VK1 (X : Cx) (H : Hp) (S I0 : Addr) (k : List Int) (kv : Value) (c : Addr) (its : Array Value) (s' : Shared) : Prop where
  ref : kv = .ref c
  tup : IsTup s'.heap c its
  ia : IntsAre its.toList k
  nS : c ≠ S
  nI : c ≠ I0
  nf : c ∉ frs X.stack
  or : H c = none ∨ SqT X.K H c (k.map V.int)
theorem isTup_inj {h : Heap} {c : Addr} {a b : Array Value} (x : IsTup h c a) (y : IsTup h c b) : a = b := by
  obtain ⟨o, h1, _, n, h2⟩ := x
  obtain ⟨o', h1', _, n', h2'⟩ := y
  rw [h1] at h1'; cases h1'
  rw [h2] at h2'; cases h2'
  rfl
section
variable {X : Cx} {pins : List (Addr × Obj)} {σ : St} {H : Hp} {S I0 a f : Addr} {k : Nat} {fd : FuncData} {ps : List Str} {fn : List D → FOut} {F : Hp} {xs : List V} {ds : List D} {ks : List (List Int)}
/-- a list that is walked, its items read anew at each step -/
theorem walkL {prog : Program} {w : World} {A : Around} (hh : A.handled = none) (hne : a ≠ I0) : WalksS prog w A I0 [I0, a] [I0] (fun a b => b = a) xs.length (fun i v => ∃ x, xs[i]? = some x ∧ RelV x v) (fun i s' => s'.heap.IsListIter I0 a i ∧ ∃ its : List Value, s'.heap.IsList a its.toArray ∧ Vals xs its) where
  sub := fun b hb => by simp at hb; simp [hb]
  grefl := fun _ => rfl
  gtrans := fun _ _ _ h1 h2 => h2.trans h1
  frame := fun i s h' tk st ht hk => by
    obtain ⟨st, its, st2, hv⟩ := st
    exact ⟨st.at fun o e => hk I0 (by simp) o e, its, st2.at fun o e => hk a (by simp) o e, hv⟩
  item := fun i s Q E hi st hQ => by
    obtain ⟨st, its, st2, hv⟩ := st
    refine (Walks.list (prog := prog) (w := w) (A := A) hh I0 a hne its.toArray).toS.item i s Q E (by simpa [← hv.length] using hi) ⟨st, st2⟩ fun v s' hP st' hm => ?_
    obtain ⟨x, hx⟩ : ∃ x, xs[i]? = some x := ⟨xs[i]'(by simpa using hi), by simp [hi]⟩
    obtain ⟨u, hu, r⟩ := Vals.get hv hx
    have : v = u := by
      have hP' : its[i]? = some v := by simpa using hP
      rw [hu] at hP'; exact (Option.some.inj hP').symm
    subst this
    exact hQ v s' ⟨x, hx, r⟩ ⟨st'.1, its, st'.2, hv⟩ hm
  done := fun s Q E st hQ => by
    obtain ⟨st, its, st2, hv⟩ := st
    exact (Walks.list (prog := prog) (w := w) (A := A) hh I0 a hne its.toArray).toS.done s Q E ⟨by simpa [hv.length] using st, st2⟩ hQ
  self := fun i s Q E st hQ => by
    obtain ⟨st, its, st2, hv⟩ := st
    exact (Walks.list (prog := prog) (w := w) (A := A) hh I0 a hne its.toArray).toS.self i s Q E ⟨st, st2⟩ hQ

theorem getD_of {α : Type} {l : List α} {i : Nat} {x d : α} (h : l[i]? = some x) : l.getD i d = x := by simp [List.getD, h]
/-- THE KEYS -/
theorem key_run (FK : FnOk X.prog X.w X.K X.mg X.base (L2.CX X.prog X.w) k f fd ps (Prm (gOf X) (sig0 1) fn)) (hr : Room (k + 1) X.A) (hb : Binds X.K fd ps []) (hps : ps.length = 1)
    (hF : Same F H) (hl : SqL X.K F a xs) (hd : DatL (gOf X) F xs ds) (hk : keysD fn ds = some ks) (oS : Ours X pins H S) (oI : Ours X pins H I0) (hKS : ∀ c o, X.K.lookup c = some o → c ≠ S ∧ c ≠ I0) :
    KeyRun X.prog X.w X.A.in1 (.ref f) .Lt S [I0] (fun a b => b = a) xs.length (fun i v => ∃ x, xs[i]? = some x ∧ RelV x v) (fun i s' => s'.heap.IsListIter I0 a i ∧ ∃ its : List Value, s'.heap.IsList a its.toArray ∧ Vals xs its)
      (fun s' => ∃ H1, JK X pins σ H S I0 H1 s') (fun i kv s' => ∃ q c its, ks[i]? = some q ∧ VK1 X H S I0 q kv c its s') (btK ks) where
  keep := fun s s' ⟨H1, J⟩ m => by
    have oS1 : Ours X pins H1 S := { oS with free := J.nS }
    have oI1 : Ours X pins H1 I0 := { oI with free := J.nI }
    exact ⟨H1, { J with inv := Inv.moved J.inv oS1 oI1 m }⟩
  keepV := fun i kv s s' ⟨q, c, its, hq, v⟩ m => by
    obtain ⟨o, h1, h2⟩ := v.tup
    exact ⟨q, c, its, hq, { v with tup := ⟨o, m.heap c o (by simp [v.nS, v.nI]) h1, h2⟩ }⟩
  turn := fun i v s o Q E hi ⟨x, hx, rx⟩ ⟨H1, J⟩ ⟨st1, its, st2, hv⟩ hS hQ => by
    obtain ⟨d, hdi, dx⟩ := DatL.get' hd hx
    obtain ⟨_, hka⟩ := keysD_at hk
    obtain ⟨q, hq, hkd⟩ := hka i d hdi
    obtain ⟨kd, ios, hfd, hkq⟩ : ∃ kd ios, fn [d] = .ok (.tup kd) ios ∧ intsD kd = some q := by
      unfold keyD at hkd
      split at hkd
      · rename_i kd ios e; exact ⟨kd, ios, e, hkd⟩
      · cases hkd
    let Q' : VK := fun v' H' => Same H1 H' ∧ ∃ c, v' = .ref c ∧ SqT X.K H' c (q.map V.int)
    have sp : Prm (gOf X) (sig0 1) fn [x] H1 Q' (fun _ _ _ => False) := by
      refine ⟨rfl, F, [d], fun _ => [], ⟨rfl, hF.trans J.same, fun i' v' d' h1 h2 _ => ?_, fun p hp => by simp [sig0] at hp, fun p hp => by simp [sig0] at hp, fun p hp => by simp [sig0] at hp⟩, ?_⟩
      · cases i' with
        | zero => simp at h1 h2; subst h1 h2; exact dx
        | succ i' => simp at h1
      · unfold FPost
        rw [hfd]
        intro F' H' fp' v' En IO RF
        have RF' : Dat (gOf X) F' v' (.tup kd) := RF
        cases RF' with
        | @tup c vs _ hs hl' =>
          have := intsD_dat hl' hkq
          subst this
          exact ⟨fun a o h => En.keep a o h fun p hp => by simp [sig0] at hp, c, rfl, Same.seqT En.fh hs⟩
    have hlen : ([v] ++ ([] : List Value)).length = ps.length := by simp [hps]
    refine wpAny_call (codeAny_mono (FK.run X.A.in1 X.stack s H1 ⟨[v], []⟩ ([v] ++ []) [x] Q' (fun _ _ _ => False) hr.in1 J.inv.env0.in1 (hb s [v] J.inv.kIn hlen) (.cons rx .nil) sp) fun r s' hq' => ?_)
    cases r with
    | error e => obtain ⟨_, _, _, _, _, _, _, _, _, _, _, _, z⟩ := hq'; exact z.elim
    | ok fl =>
      cases fl with
      | next => exact False.elim hq'
      | brk => exact False.elim hq'
      | cont => exact False.elim hq'
      | ret u =>
        obtain ⟨v', H', os, bare, un, hok, rv, sm, c, hv', hc⟩ := hq'
        subst hv'
        obtain rfl : u = .ref c := rv
        have I' : Inv X pins σ H' s' := J.inv.call' (ch := []) os un hok bare (fun b z => absurd z (by simp))
        have nS' : H' S = none := un.free S o hS J.nS (by simp)
        obtain ⟨oi, hoi, _⟩ := id st1
        have nI' : H' I0 = none := un.free I0 oi hoi J.nI (by simp)
        have hS' : s'.heap.get? S = some o := un.keep S o hS J.nS oS.frs (by simp)
        have st1' : s'.heap.IsListIter I0 a (i + 1) := st1.at fun o' e => un.keep I0 o' e J.nI oI.frs (by simp)
        have HS : Same H H' := J.same.trans sm
        have I2 := Inv.cut J.inv I' sm
        have hl2 : SqL X.K (cut H1 H') a xs := EVseq (fun b o h => cut_old (J.same b o (hF b o h))) hl
        obtain ⟨its2, hv2, ⟨o2, n2, g1, g2, g3, g4⟩, _⟩ := I2.list hl2
        obtain ⟨itq, hvq, tq, _⟩ := I'.tuple hc
        refine hQ (.ref c) s' ⟨cut H1 H', ⟨I2, fun b o h => cut_old (J.same b o h), cut_none sm nS', cut_none sm nI', fun b hb' => ?_⟩⟩ ⟨st1', its2, ⟨o2, g1, g2, n2, g4⟩, hv2⟩ hS' ⟨q, c, itq.toArray, hq, ⟨rfl, tq, ints_vals hvq, ?_, ?_, ?_, ?_⟩⟩ (fun j k' ⟨q2, c2, its3, hq2, w2⟩ => ?_)
        · rcases J.new b hb' with z | ⟨zs, z⟩
          · rcases cut_new (H' := H') z with y | ⟨zs, y, _⟩
            · exact .inl y
            · exact .inr ⟨zs, y⟩
          · exact .inr ⟨zs, cut_old z⟩
        · rcases hc with (hc | ⟨o', hc⟩) | ⟨o', _, _, hc, _⟩
          · intro e; rw [e, nS'] at hc; cases hc
          · intro e; rw [e, nS'] at hc; cases hc
          · exact (hKS c o' hc).1
        · rcases hc with (hc | ⟨o', hc⟩) | ⟨o', _, _, hc, _⟩
          · intro e; rw [e, nI'] at hc; cases hc
          · intro e; rw [e, nI'] at hc; cases hc
          · exact (hKS c o' hc).2
        · intro hfr
          have nfr := I'.stkFree c hfr
          rcases hc with (hc | ⟨o', hc⟩) | ⟨o', _, _, hc, _⟩
          · rw [nfr] at hc; cases hc
          · rw [nfr] at hc; cases hc
          · have hb0 := I'.ok.mod.kin c o' hc
            rcases List.mem_cons.mp (I'.stkSub c hfr) with e | e
            · have := Heap.lt_size hb0
              rw [e] at this
              exact absurd (Nat.lt_of_lt_of_le this (Nat.le_trans I'.ok.bsz I'.ok.above)) (Nat.lt_irrefl _)
            · exact I'.ok.nofr hb0 e
        · rcases hc with (hc | ⟨o', hc⟩) | hc
          · cases e : H c with
            | none => exact .inl rfl
            | some o'' => exact .inr (by have := HS c o'' e; rw [hc] at this; cases this; exact .inl (.inl e))
          · cases e : H c with
            | none => exact .inl rfl
            | some o'' => exact .inr (by have := HS c o'' e; rw [hc] at this; cases this; exact .inl (.inr ⟨o', e⟩))
          · exact .inr (.inr hc)
        · have fin : ∀ zs, SqT X.K H' c2 zs → zs = q2.map V.int → ∃ q c its, ks[j]? = some q ∧ VK1 X H S I0 q k' c its s' := fun zs hz ez => by
            obtain ⟨its4, hv4, t4, _⟩ := I'.tuple hz
            subst ez
            exact ⟨q2, c2, its4.toArray, hq2, { w2 with tup := t4, ia := ints_vals hv4 }⟩
          rcases w2.or with e | e
          · rcases J.new c2 e with z | ⟨zs, z⟩
            · obtain ⟨o4, h1, h2⟩ := w2.tup
              exact ⟨q2, c2, its3, hq2, { w2 with tup := ⟨o4, un.keep c2 o4 h1 z w2.nf (by simp), h2⟩ }⟩
            · obtain ⟨its4, hv4, t4, _⟩ := J.inv.tuple (SqT.of z)
              have e3 := isTup_inj t4 w2.tup
              have ia := w2.ia
              rw [← e3] at ia
              exact fin zs (SqT.of (un.tups c2 zs z)) (ints_back (by simpa using ia) hv4)
          · exact fin _ (Same.seqT HS e) rfl
  cmp := fun i j ki kj s Q E ⟨H1, J⟩ ⟨q1, c1, i1, h1, v1⟩ ⟨q2, c2, i2, h2, v2⟩ hQ => by
    obtain ⟨as, r1⟩ := tup_reads v1.tup v1.ia
    obtain ⟨bs, r2⟩ := tup_reads v2.tup v2.ia
    have e1 := v1.ref; have e2 := v2.ref
    subst e1 e2
    unfold btK at hQ
    rw [getD_of h1, getD_of h2] at hQ
    refine PySem.W.rcLt_alike (pTup q1) (pTup q2) X.A.in1 s _ _ as bs r1 r2 (by unfold pTup PySem.W.alike; exact ints_alike q1 q2) (by simp [pTup]) ?_ X.prog X.w E Q hQ
    rw [pTup_depth, pTup_depth]
    have := hr.un
    show X.A.units + 1 + min 1 1 < cLine
    omega
end
end EV
namespace EV
open PySem PySem.Spec PyProof.Rows L2
section
variable {X : Cx} {f : Addr} {k : Nat} {fd : FuncData} {ps : List Str} {fn : List D → FOut}
theorem cr_minKey (FK : FnOk X.prog X.w X.K X.mg X.base (L2.CX X.prog X.w) k f fd ps (Prm (gOf X) (sig0 1) fn)) (hr : Room (k + 1) X.A) (hb : Binds X.K fd ps []) (hps : ps.length = 1) :
    CallRK X (.builtin "min") [Str.ofString "key"] (fun vs zs H Q => ∃ F a xs ds ks d, vs = [.ref a] ∧ zs = [.ref f] ∧ Same F H ∧ SqL X.K F a xs ∧ DatL (gOf X) F xs ds ∧ keysD fn ds = some ks ∧ ds[argBest (btK ks) (ds.length - 1)]? = some d ∧
      ∀ x H', xs[argBest (btK ks) (ds.length - 1)]? = some x → Same H H' → Q x H') := by
  intro pins s σ H vs zs us ws Q I rx rz h
  obtain ⟨F, a, xs, ds, ks, d, rfl, rfl, hF, hl, hd, hk, hbest, hQ⟩ := h
  cases rx with
  | cons r1 t1 =>
    cases t1
    cases rz with
    | cons r2 t2 =>
      cases t2
      cases r1
      cases r2
      show wpAny _ X.A (call (.builtin "min") [.ref a] [(Str.ofString "key", .ref f)]) _ _ s
      refine call_min_walkK ?_
      obtain ⟨its, hv, ⟨o, n, g1, g2, g3, g4⟩, _⟩ := I.list (xs := xs) (a := a) (EVseq hF hl)
      have hlt : a < s.heap.objs.size := Heap.lt_size g1
      have hh : X.A.in1.handled = none := hr.hd
      refine PySem.W.iter_listW (A := X.A.in1) (vs := its.toArray) hh ⟨o, g1, g2, n, g4⟩ fun s₂ es W st hfp hne hkp => ?_
      have I2 : Inv X pins σ H s₂ := by subst es; exact I.kept (t' := s.toks) hkp
      have hlen := hd.length
      have hpos : 0 < xs.length := by
        rw [hlen]
        cases ds with
        | nil => simp at hbest
        | cons => simp
      refine ⟨s.heap.objs.size, [s.heap.objs.size, a], [s.heap.objs.size], _, xs.length, _, _, _, _, btK ks, rfl, walkL (xs := xs) hh (Nat.ne_of_lt hlt), ⟨st.1, its, st.2, hv⟩, hfp, hpos,
        key_run FK hr hb hps hF hl hd hk (Inv.ours I2 (Nat.le_refl _)) (Inv.ours I (Nat.le_refl _)) (fun c o hc => ⟨Nat.ne_of_lt (Heap.lt_size (I2.kIn c o hc)), Nat.ne_of_lt (Heap.lt_size (I.kIn c o hc))⟩),
        ⟨H, I2, Same.refl _, I2.hok.fresh (Nat.le_refl _), I.hok.fresh (Nat.le_refl _), fun a h => .inl h⟩, ?_⟩
      rintro v s' ⟨x, hx, r⟩ ⟨H1, J⟩
      exact ⟨x, H1, J.inv, r, hQ x H1 (by rw [← hlen]; exact hx) J.same⟩
end
section
variable {X : Cx} {Z : Sg} {own : Own} {W : WX} {pos p pn kp : Pos} {e : Expr} {fx : E} {nm par : Str} {j k : Nat} {fn : List D → FOut}
theorem den_minKey (FD : DefOk X.prog X.w X.K X.mg X.base nm [par] j (sig0 1) fn) (hr : Room k X.A) (hj : j + 1 ≤ k) (hg : L2.Gl X "min") (hm : X.mg "min" = none) (hgn : L2.Gl X nm) (ha : DenE X Z own W e fx) (hd : (nm == ("__debug__" : Str)) = false := by decide)
    (he0 : starEach [e] X.env = (false, eval e X.env) :: starEach [] X.env := by rfl)
    (he : backTo pos (starEach [e] X.env) = (false, eval e X.env) :: backTo pos (starEach [] X.env) := by rfl) (hpl : (backTo pos (starEach [e] X.env)).any (·.1) = false := by rfl)
    (hall : (backToKw pos (keywordEach [⟨some "key", .Name nm pn, kp⟩] X.env)).all (·.1.isSome) = true := by rfl) (hnone : (backToKw pos (keywordEach [⟨some "key", .Name nm pn, kp⟩] X.env)).any (·.1.isNone) = false := by rfl)
    (hks : (backToKw pos (keywordEach [⟨some "key", .Name nm pn, kp⟩] X.env)).filterMap (·.1) = [Str.ofString "key"] := by rfl) :
    DenE X Z own W (.Call (.Name "min" p) [e] [⟨some "key", .Name nm pn, kp⟩] pos) (eMinKey fn fx) := by
  obtain ⟨f, fd, h1, h2, h3, h4⟩ := FD.ex
  refine PEimp (pe_callBK (cr_minKey h4 (hr.mono hj) h3 rfl) hg hm rfl (pa_cons ha pa_nil he0) (pk_cons (pe_glob (v := .ref f) hgn h1 rfl hd) pk_nil) (by decide) (by decide) he hpl hall hnone hks) fun σ H Q h => ?_
  obtain ⟨B, F, fp, ρ, R, P⟩ := h
  refine bindR R P fun F1 fp1 ρ1 x v H1 s1 R1 hx P1 => ?_
  cases hx with
  | @lst a xs ds hs hl =>
    dsimp only at P1
    split at P1
    · rename_i d ks e1 e2
      rw [e2] at e1
      refine ⟨F1, a, xs, ds, ks, d, rfl, rfl, R1.sub, hs, hl, e2, e1, fun y H' hy sm => ?_⟩
      obtain ⟨y', hy', dy⟩ := DatL.get hl e1
      have : y' = y := by
        have hy2 : xs[argBest (btK ks) (ds.length - 1)]? = some y' := hy'
        rw [hy] at hy2; exact (Option.some.inj hy2).symm
      subst this
      exact P1 F1 fp1 H' y' (Same.refl _) (R1.growH sm) dy
    · exact P1.elim
  | _ => exact P1.elim
end
end EV
namespace EV
open PySem PySem.Spec PyProof.Rows L2
section
variable {P : Program} {w : World} {K : PySem.W.Frag} {mg : Str → Option Value} {base : Heap}
/-- the rule of a plain def whose function object is named -/
theorem def_okF {nm : Str} {ps N : List Str} {st : Stmt} {k : Nat} {f0 : Addr} {fd : FuncData} {own own' : Own} {b : S} (A0 : Fun K nm nm st f0 fd) (S0 : FnScope N ps (defScope st)) (hN : ps.length ≤ N.length) (hq : ∀ i, i < ps.length → own i = none)
    (hbody : ∀ (f : Addr) (cdv : Value) (A : Around) (outer : List Env) (s0 : Shared) (H : Hp) (E : XK), Room k (cxOf (L2.CX P w) P w K mg base N nm (defScope st) f cdv A outer s0 H E).A →
      DenSs (cxOf (L2.CX P w) P w K mg base N nm (defScope st) f cdv A outer s0 H E) (sgOf (sig0 ps.length)) own own' own (fun c d _ H => E c d H) (defBody st) b) :
    FnOk P w K mg base (L2.CX P w) (k + 1) f0 fd ps (Prm ⟨K, mg, w⟩ (sig0 ps.length) (fnD N.length (sig0 ps.length) b)) :=
  fn_ok A0 S0 rfl hN (fun p hp => by simp [sig0] at hp) (fun p hp => by simp [sig0] at hp) (fun i h hi => absurd (hq i hi) h) (by simp [sig0]) (fun p hp => by simp [sig0] at hp) (by simp [sig0]) (by simp [sig0]) (fun p hp => by simp [sig0] at hp) (fun p hp => by simp [sig0] at hp)
    (fun _ p hp => by simp [sig0] at hp) (hbody f0)
theorem ints_dat {g : Gb} {F : Hp} : ∀ ns : List Int, DatL g F (ns.map V.int) (ns.map D.int)
  | [] => .nil
  | n :: r => .cons (.int n) (ints_dat r)
/-- the law's promise: at each script it returns True -/
def spTrue (K : PySem.W.Frag) : Sp := fun vs H Q _ => ∃ (a : Addr) (ns : List Int), vs = [.ref a] ∧ SqL K H a (ns.map V.int) ∧ ns.length ≤ 63 ∧ ∀ H', Q (.bl true) H'
theorem law_imp {fn : List D → FOut} {k : Nat} {f : Addr} {fd : FuncData} {ps : List Str} (h : ∀ ns : List Int, ns.length ≤ 63 → ∃ ios, fn [.lst (ns.map D.int)] = .ok (.bl true) ios)
    (F : FnOk P w K mg base (L2.CX P w) k f fd ps (Prm ⟨K, mg, w⟩ (sig0 1) fn)) : FnOk P w K mg base (L2.CX P w) k f fd ps (spTrue K) := F.imp fun vs H Q E hs => by
  obtain ⟨a, ns, rfl, hS, hl, hQ⟩ := hs
  obtain ⟨ios, e⟩ := h ns hl
  refine ⟨rfl, H, [.lst (ns.map D.int)], fun _ => [], ⟨rfl, Same.refl _, fun i v d h1 h2 _ => ?_, fun p hp => by simp [sig0] at hp, fun p hp => by simp [sig0] at hp, fun p hp => by simp [sig0] at hp⟩, ?_⟩
  · cases i with
    | zero => simp at h1 h2; subst h1 h2; exact .lst hS (ints_dat ns)
    | succ i => simp at h1
  · unfold FPost
    rw [e]
    intro F' H' fp' v _ _ RF
    have RF' : Dat ⟨K, mg, w⟩ F' v (.bl true) := RF
    cases RF'
    exact hQ H'
/-- facts of the top -/
theorem defAt_mk {h : Heap} {nm : Str} {ps : List Str} {st : Stmt} {f : Addr} {fd : FuncData} (X : K.In h) (G : h.Ns mainGlobals mg) (a : PySem.W.nsIn K mainGlobals nm = some (some (.ref f))) (F : Fun K nm nm st f fd) (b : Binds K fd ps []) : DefAt K mg nm ps st :=
  ⟨f, fd, PySem.W.mg_of X G a, F, b⟩
end
theorem cx_false {P : Program} {w : World} {H : Hp} {s : Shared} {e : Value} {s' : Shared} (h : L2.CX P w [] H s (fun _ _ _ => False) e s') : False := by
  obtain ⟨_, _, _, _, _, _, _, _, _, _, _, _, z⟩ := h
  exact z
end EV
namespace EV
open PySem PySem.Spec PyProof.Rows L2
def topS (i : Nat) : Stmt := PySem.Challenge.pw_eithertruth_k01_kinds_and_order.main.body.getD i (.Pass ⟨0, 0, 0, 0⟩)
abbrev s_is_int : Stmt := topS 4
abbrev s_is_text : Stmt := topS 5
abbrev s_kind_of : Stmt := topS 6
abbrev s_int_rank : Stmt := topS 7
abbrev s_rank : Stmt := topS 8
abbrev s_least : Stmt := topS 9
abbrev s__law_begin : Stmt := topS 11
abbrev s__law_draw : Stmt := topS 12
abbrev s__law_value : Stmt := topS 13
abbrev s__law_any : Stmt := topS 14
abbrev s__law_number : Stmt := topS 16
abbrev s__law_rank : Stmt := topS 17
abbrev s__law_like : Stmt := topS 19
abbrev s__law_odd : Stmt := topS 20
abbrev s__law_int_good : Stmt := topS 21
abbrev s__law_kind : Stmt := topS 22
abbrev s_law : Stmt := topS 23
/-- what the top has written -/
structure TX (K : PySem.W.Frag) (mg : Str → Option Value) : Prop where
  b_abs : mg "abs" = none
  b_all : mg "all" = none
  b_any : mg "any" = none
  b_bool : mg "bool" = none
  b_dict : mg "dict" = none
  b_int : mg "int" = none
  b_isinstance : mg "isinstance" = none
  b_len : mg "len" = none
  b_list : mg "list" = none
  b_min : mg "min" = none
  b_range : mg "range" = none
  b_str : mg "str" = none
  b_tuple : mg "tuple" = none
  c_GREATEST : ∃ t, mg "GREATEST" = some (.int 9 t)
  c_LETTERS : ∃ t, mg "LETTERS" = some (.str (Str.ofString "abcdefghijklmnopqrstuvwxyz") t)
  c_LONGEST : ∃ t, mg "LONGEST" = some (.int 3 t)
  d_is_int : DefAt K mg "is_int" ["value"] s_is_int
  d_is_text : DefAt K mg "is_text" ["value", "least", "most"] s_is_text
  d_kind_of : DefAt K mg "kind_of" ["value"] s_kind_of
  d_int_rank : DefAt K mg "int_rank" ["number"] s_int_rank
  d_rank : DefAt K mg "rank" ["value"] s_rank
  d_least : DefAt K mg "least" ["values"] s_least
  d__law_begin : DefAt K mg "_law_begin" ["_law_script"] s__law_begin
  d__law_draw : DefAt K mg "_law_draw" ["_law_draws", "_law_many"] s__law_draw
  d__law_value : DefAt K mg "_law_value" ["_law_draws", "_law_kind_here"] s__law_value
  d__law_any : DefAt K mg "_law_any" ["_law_draws"] s__law_any
  d__law_number : DefAt K mg "_law_number" ["_law_value_here"] s__law_number
  d__law_rank : DefAt K mg "_law_rank" ["_law_value_here"] s__law_rank
  d__law_like : DefAt K mg "_law_like" ["_law_actual", "_law_due"] s__law_like
  d__law_odd : DefAt K mg "_law_odd" ["_law_draws"] s__law_odd
  d__law_int_good : DefAt K mg "_law_int_good" ["_law_value_here"] s__law_int_good
  d__law_kind : DefAt K mg "_law_kind" ["_law_value_here"] s__law_kind
section
variable {P : Program} {w : World} {K : PySem.W.Frag} {mg : Str → Option Value} {base : Heap}
abbrev n_is_int : List Str := ["value"]
theorem sc_is_int : FnScope n_is_int ["value"] (defScope s_is_int) := ⟨rfl, rfl, rfl, by decide +kernel, rfl, by decide +kernel, by decide +kernel⟩
abbrev g_is_int : Sig := (sig0 1)
def b_is_int : S := sRet (eAnd (eIsi "int" (eVar 0)) (eAnd (eNot (eIsi "bool" (eVar 0))) (eChain dLe dLe (eOp1 dNeg (eC (.int 9))) (eVar 0) (eC (.int 9)))))
def f_is_int : List D → FOut := fnD 1 g_is_int b_is_int
theorem ok_is_int (T : TX K mg) : DefOk P w K mg base "is_int" ["value"] 1 g_is_int f_is_int := by
  refine def_ok (own := own0) (own' := (ownL [])) T.d_is_int sc_is_int (by decide) (fun i hi => rfl) ?_
  intro f cdv A outer s0 H E hr
  have nd : n_is_int.Nodup := sc_is_int.nd
  exact den_one (den_ret (own' := (ownL [])) (den_and (den_isi (T := "int") rfl rfl T.b_isinstance rfl T.b_int (bootT _ rfl) (den_var 0)) (den_and (den_not (den_isi (T := "bool") rfl rfl T.b_isinstance rfl T.b_bool (bootT _ rfl) (den_var 0))) (den_one1 (den_chain opd_le opd_le (den_neg (den_gint T.c_GREATEST rfl)) (den_var 0) (den_gint T.c_GREATEST rfl))))) rfl all_nil)
abbrev n_is_text : List Str := ["value", "least", "most", "letter"]
theorem sc_is_text : FnScope n_is_text ["value", "least", "most"] (defScope s_is_text) := ⟨rfl, rfl, rfl, by decide +kernel, rfl, by decide +kernel, by decide +kernel⟩
abbrev g_is_text : Sig := (sig0 3)
def b_is_text : S := sSeq (sIf (eOr (eNot (eIsi "str" (eVar 0))) (eNot (eChain dLe dLe (eVar 1) (eCallB bLen [eVar 0]) (eVar 2)))) (sRet (eC (.bl false))) (sSkip)) (sRet (eCallB bAll [eLc [3] (eSigns (eVar 0)) (tgName 3) (eC (.bl true)) (eOp dInD (eVar 3) (eC (.str (Str.ofString "abcdefghijklmnopqrstuvwxyz"))))]))
def f_is_text : List D → FOut := fnD 4 g_is_text b_is_text
theorem ok_is_text (T : TX K mg) : DefOk P w K mg base "is_text" ["value", "least", "most"] 1 g_is_text f_is_text := by
  refine def_ok (own := own0) (own' := (ownL [])) T.d_is_text sc_is_text (by decide) (fun i hi => rfl) ?_
  intro f cdv A outer s0 H E hr
  have nd : n_is_text.Nodup := sc_is_text.nd
  exact den_cons (den_if (DenW.pt (denw_or (dent_not (den_test (den_isi (T := "str") rfl rfl T.b_isinstance rfl T.b_str (bootT _ rfl) (den_var 0)) (fun _ => rfl))) (denw_or1 (dent_not (dent_chain opd_le opd_le dLe_bl (den_var 1) (den_callB cd_len rfl T.b_len (by decide +kernel) (dena_cons (den_var 0) (dena_nil))) (den_var 2)))))) (den_one (den_ret (own' := (ownL [])) (den_bl) rfl all_nil)) (den_nil)) (den_one (den_ret (own' := (ownL [])) (den_callB (cd_all rfl) rfl T.b_all (by decide +kernel) (dena_cons (den_lc rfl nd (deni_str (den_var 0)) (blkOk_by (own := [(Str.ofString "letter", 3)]) (N := n_is_text) (sc := defScope s_is_text) (by decide +kernel)) rfl (by decide) (fun _ _ _ _ _ => deg_name rfl (by decide) nd rfl (by first | exact Or.inl rfl | exact Or.inr rfl)) (fun _ _ _ _ _ => dents_nil) (fun _ _ _ _ _ => den_cmp (opd_in (hu5 hr)) (den_var 3) (den_gstr T.c_LETTERS rfl) rfl)) (dena_nil))) rfl all_nil))
abbrev n_kind_of : List Str := ["value", "item"]
theorem sc_kind_of : FnScope n_kind_of ["value"] (defScope s_kind_of) := ⟨rfl, rfl, rfl, by decide +kernel, rfl, by decide +kernel, by decide +kernel⟩
abbrev g_kind_of : Sig := (sig0 1)
def b_kind_of : S := sSeq (sIf (eOp dIsN (eVar 0) (eC .non)) (sRet (eC (.str (Str.ofString "none")))) (sSkip)) (sSeq (sIf (eIsi "bool" (eVar 0)) (sRet (eC (.str (Str.ofString "bool")))) (sSkip)) (sSeq (sIf (eCall f_is_int [.e (eVar 0)]) (sRet (eC (.str (Str.ofString "int")))) (sSkip)) (sSeq (sIf (eCall f_is_text [.e (eVar 0), .e (eC (.int 0)), .e (eC (.int 3))]) (sRet (eC (.str (Str.ofString "text")))) (sSkip)) (sSeq (sIf (eAnd (eIsi "tuple" (eVar 0)) (eAnd (eOp dLe (eCallB bLen [eVar 0]) (eC (.int 3))) (eCallB bAll [eLc [1] (eIter (eVar 0)) (tgName 1) (eC (.bl true)) (eCall f_is_int [.e (eVar 1)])]))) (sRet (eC (.str (Str.ofString "list")))) (sSkip)) (sRet (eC .non))))))
def f_kind_of : List D → FOut := fnD 2 g_kind_of b_kind_of
theorem ok_kind_of (T : TX K mg) : DefOk P w K mg base "kind_of" ["value"] 2 g_kind_of f_kind_of := by
  refine def_ok (own := own0) (own' := (ownL [])) T.d_kind_of sc_kind_of (by decide) (fun i hi => rfl) ?_
  intro f cdv A outer s0 H E hr
  have nd : n_kind_of.Nodup := sc_kind_of.nd
  exact den_cons (den_if (dent_cmp opd_isN dIsN_bl (den_var 0) (den_non) (nomark _)) (den_one (den_ret (own' := (ownL [])) (den_str) rfl all_nil)) (den_nil)) (den_cons (den_if (den_test (den_isi (T := "bool") rfl rfl T.b_isinstance rfl T.b_bool (bootT _ rfl) (den_var 0)) (fun _ => rfl)) (den_one (den_ret (own' := (ownL [])) (den_str) rfl all_nil)) (den_nil)) (den_cons (den_if (den_test (den_callD (ok_is_int T) hr (by decide) rfl (takes_of rfl rfl rfl rfl) rfl (CallOk.of rfl rfl rfl rfl rfl (by decide)) (denao_e (den_var 0) (denao_nil))) (fun _ => rfl)) (den_one (den_ret (own' := (ownL [])) (den_str) rfl all_nil)) (den_nil)) (den_cons (den_if (den_test (den_callD (ok_is_text T) hr (by decide) rfl (takes_of rfl rfl rfl rfl) rfl (CallOk.of rfl rfl rfl rfl rfl (by decide)) (denao_e (den_var 0) (denao_e (den_int) (denao_e (den_gint T.c_LONGEST rfl) (denao_nil))))) (fun _ => rfl)) (den_one (den_ret (own' := (ownL [])) (den_str) rfl all_nil)) (den_nil)) (den_cons (den_if (DenW.pt (denw_and (den_test (den_isi (T := "tuple") rfl rfl T.b_isinstance rfl T.b_tuple (bootT _ rfl) (den_var 0)) (fun _ => rfl)) (denw_and (dent_cmp opd_le dLe_bl (den_callB cd_len rfl T.b_len (by decide +kernel) (dena_cons (den_var 0) (dena_nil))) (den_gint T.c_LONGEST rfl) (nomark _)) (denw_and1 (den_test (den_callB (cd_all rfl) rfl T.b_all (by decide +kernel) (dena_cons (den_lc rfl nd (deni_seq (den_var 0)) (blkOk_by (own := [(Str.ofString "item", 1)]) (N := n_kind_of) (sc := defScope s_kind_of) (by decide +kernel)) rfl (by decide) (fun _ _ _ _ _ => deg_name rfl (by decide) nd rfl (by first | exact Or.inl rfl | exact Or.inr rfl)) (fun _ _ _ _ _ => dents_nil) (fun _ _ _ _ _ => den_callD (ok_is_int T) hr (by decide) rfl takes0 rfl (CallOk.of rfl rfl rfl rfl rfl (by decide)) (denao_e (den_var 1) (denao_nil)))) (dena_nil))) (fun _ => rfl)))))) (den_one (den_ret (own' := (ownL [])) (den_str) rfl all_nil)) (den_nil)) (den_one (den_ret (own' := (ownL [])) (den_non) rfl all_nil))))))
abbrev n_int_rank : List Str := ["number"]
theorem sc_int_rank : FnScope n_int_rank ["number"] (defScope s_int_rank) := ⟨rfl, rfl, rfl, by decide +kernel, rfl, by decide +kernel, by decide +kernel⟩
abbrev g_int_rank : Sig := (sig0 1)
def b_int_rank : S := sRet (eOp dSub (eOp dMul (eC (.int 2)) (eCallB bAbs [eVar 0])) (eCallB bInt [eOp dGt (eVar 0) (eC (.int 0))]))
def f_int_rank : List D → FOut := fnD 1 g_int_rank b_int_rank
theorem ok_int_rank (T : TX K mg) : DefOk P w K mg base "int_rank" ["number"] 1 g_int_rank f_int_rank := by
  refine def_ok (own := own0) (own' := (ownL [])) T.d_int_rank sc_int_rank (by decide) (fun i hi => rfl) ?_
  intro f cdv A outer s0 H E hr
  have nd : n_int_rank.Nodup := sc_int_rank.nd
  exact den_one (den_ret (own' := (ownL [])) (den_op opd_sub (den_op opd_mul (den_int) (den_callB cd_abs rfl T.b_abs (by decide +kernel) (dena_cons (den_var 0) (dena_nil)))) (den_callTy cd_int rfl T.b_int (by decide +kernel) (dena_cons (den_cmp opd_gt (den_var 0) (den_int) (nomark _)) (dena_nil)))) rfl all_nil)
abbrev n_rank : List Str := ["value", "kind", "letter", "item"]
theorem sc_rank : FnScope n_rank ["value"] (defScope s_rank) := ⟨rfl, rfl, rfl, by decide +kernel, rfl, by decide +kernel, by decide +kernel⟩
abbrev g_rank : Sig := (sig0 1)
def b_rank : S := sSeq (sSet 1 (eCall f_kind_of [.e (eVar 0)])) (sSeq (sIf (eOp dEq (eVar 1) (eC (.str (Str.ofString "none")))) (sRet (eTup [eC (.int 0)])) (sSkip)) (sSeq (sIf (eOp dEq (eVar 1) (eC (.str (Str.ofString "bool")))) (sRet (eTup [eC (.int 1), eCallB bInt [eVar 0]])) (sSkip)) (sSeq (sIf (eOp dEq (eVar 1) (eC (.str (Str.ofString "int")))) (sRet (eTup [eC (.int 2), eCall f_int_rank [.e (eVar 0)]])) (sSkip)) (sSeq (sIf (eOp dEq (eVar 1) (eC (.str (Str.ofString "text")))) (sRet (eOp dAdd (eTup [eC (.int 3), eCallB bLen [eVar 0]]) (eCallB bTuple [eLc [2] (eSigns (eVar 0)) (tgName 2) (eC (.bl true)) (eStrIndex (eC (.str (Str.ofString "abcdefghijklmnopqrstuvwxyz"))) (eVar 2))]))) (sSkip)) (sRet (eOp dAdd (eTup [eC (.int 4), eCallB bLen [eVar 0]]) (eCallB bTuple [eLc [3] (eIter (eVar 0)) (tgName 3) (eC (.bl true)) (eCall f_int_rank [.e (eVar 3)])])))))))
def f_rank : List D → FOut := fnD 4 g_rank b_rank
theorem ok_rank (T : TX K mg) : DefOk P w K mg base "rank" ["value"] 3 g_rank f_rank := by
  refine def_ok (own := own0) (own' := (ownL [])) T.d_rank sc_rank (by decide) (fun i hi => rfl) ?_
  intro f cdv A outer s0 H E hr
  have nd : n_rank.Nodup := sc_rank.nd
  exact den_cons (den_set (i := 1) rfl nd rfl (.inl rfl) (den_callD (ok_kind_of T) hr (by decide) rfl (takes_of rfl rfl rfl rfl) rfl (CallOk.of rfl rfl rfl rfl rfl (by decide)) (denao_e (den_var 0) (denao_nil)))) (den_cons (den_if (dent_cmp (opd_eq (hu4 hr)) dEq_bl (den_var 1) (den_str) (nomark _)) (den_one (den_ret (own' := (ownL [])) (den_tup (dena_cons (den_int) (dena_nil))) rfl all_nil)) (den_nil)) (den_cons (den_if (dent_cmp (opd_eq (hu4 hr)) dEq_bl (den_var 1) (den_str) (nomark _)) (den_one (den_ret (own' := (ownL [])) (den_tup (dena_cons (den_int) (dena_cons (den_callTy cd_int rfl T.b_int (by decide +kernel) (dena_cons (den_var 0) (dena_nil))) (dena_nil)))) rfl all_nil)) (den_nil)) (den_cons (den_if (dent_cmp (opd_eq (hu4 hr)) dEq_bl (den_var 1) (den_str) (nomark _)) (den_one (den_ret (own' := (ownL [])) (den_tup (dena_cons (den_int) (dena_cons (den_callD (ok_int_rank T) hr (by decide) rfl (takes_of rfl rfl rfl rfl) rfl (CallOk.of rfl rfl rfl rfl rfl (by decide)) (denao_e (den_var 0) (denao_nil))) (dena_nil)))) rfl all_nil)) (den_nil)) (den_cons (den_if (dent_cmp (opd_eq (hu4 hr)) dEq_bl (den_var 1) (den_str) (nomark _)) (den_one (den_ret (own' := (ownL [])) (den_op opd_add (den_tup (dena_cons (den_int) (dena_cons (den_callB cd_len rfl T.b_len (by decide +kernel) (dena_cons (den_var 0) (dena_nil))) (dena_nil)))) (den_callTy cd_tuple rfl T.b_tuple (by decide +kernel) (dena_cons (den_lc rfl nd (deni_str (den_var 0)) (blkOk_by (own := [(Str.ofString "letter", 2)]) (N := n_rank) (sc := defScope s_rank) (by decide +kernel)) rfl (by decide) (fun _ _ _ _ _ => deg_name rfl (by decide) nd rfl (by first | exact Or.inl rfl | exact Or.inr rfl)) (fun _ _ _ _ _ => dents_nil) (fun _ _ _ _ _ => den_strIndex (den_gstr T.c_LETTERS rfl) (den_var 2))) (dena_nil)))) rfl all_nil)) (den_nil)) (den_one (den_ret (own' := (ownL [])) (den_op opd_add (den_tup (dena_cons (den_int) (dena_cons (den_callB cd_len rfl T.b_len (by decide +kernel) (dena_cons (den_var 0) (dena_nil))) (dena_nil)))) (den_callTy cd_tuple rfl T.b_tuple (by decide +kernel) (dena_cons (den_lc rfl nd (deni_seq (den_var 0)) (blkOk_by (own := [(Str.ofString "item", 3)]) (N := n_rank) (sc := defScope s_rank) (by decide +kernel)) rfl (by decide) (fun _ _ _ _ _ => deg_name rfl (by decide) nd rfl (by first | exact Or.inl rfl | exact Or.inr rfl)) (fun _ _ _ _ _ => dents_nil) (fun _ _ _ _ _ => den_callD (ok_int_rank T) hr (by decide) rfl takes0 rfl (CallOk.of rfl rfl rfl rfl rfl (by decide)) (denao_e (den_var 3) (denao_nil)))) (dena_nil)))) rfl all_nil))))))
abbrev n_least : List Str := ["values"]
theorem sc_least : FnScope n_least ["values"] (defScope s_least) := ⟨rfl, rfl, rfl, by decide +kernel, rfl, by decide +kernel, by decide +kernel⟩
abbrev g_least : Sig := (sig0 1)
def b_least : S := sRet (eMinKey f_rank (eVar 0))
def f_least : List D → FOut := fnD 1 g_least b_least
theorem ok_least (T : TX K mg) : DefOk P w K mg base "least" ["values"] 5 g_least f_least := by
  refine def_ok (own := own0) (own' := (ownL [])) T.d_least sc_least (by decide) (fun i hi => rfl) ?_
  intro f cdv A outer s0 H E hr
  have nd : n_least.Nodup := sc_least.nd
  exact den_one (den_ret (own' := (ownL [])) (den_minKey (ok_rank T) hr (by decide) rfl T.b_min rfl (den_var 0)) rfl all_nil)
abbrev n__law_begin : List Str := ["_law_script"]
theorem sc__law_begin : FnScope n__law_begin ["_law_script"] (defScope s__law_begin) := ⟨rfl, rfl, rfl, by decide +kernel, rfl, by decide +kernel, by decide +kernel⟩
abbrev g__law_begin : Sig := ⟨1, [], [], [], some .lst⟩
def b__law_begin : S := sRet (eLst [eCallB bList [eVar 0], eC (.int 0), eC (.int 0), eC (.int 7)])
def f__law_begin : List D → FOut := fnD 1 g__law_begin b__law_begin
theorem ok__law_begin (T : TX K mg) : DefOk P w K mg base "_law_begin" ["_law_script"] 1 g__law_begin f__law_begin := by
  refine def_okIO (own' := (ownL [])) T.d__law_begin sc__law_begin (by decide) (by decide) (by decide) (fun h => nomatch h) ?_
  intro f cdv A outer s0 H E hr
  have nd : n__law_begin.Nodup := sc__law_begin.nd
  exact den_one (den_retO (deno_lst (dena_cons (den_callTy cd_list rfl T.b_list (by decide +kernel) (dena_cons (den_var 0) (dena_nil))) (dena_cons (den_int) (dena_cons (den_int) (dena_cons (den_int) (dena_nil)))))) rfl all_nil)
abbrev n__law_draw : List Str := ["_law_draws", "_law_many", "_law_cell", "_law_found"]
theorem sc__law_draw : FnScope n__law_draw ["_law_draws", "_law_many"] (defScope s__law_draw) := ⟨rfl, rfl, rfl, by decide +kernel, rfl, by decide +kernel, by decide +kernel⟩
abbrev g__law_draw : Sig := ⟨2, [(0, .lst)], [(0, .lst)], [(0, .lst)], none⟩
def b__law_draw : S := sSeq (sIf (eBorrow (eOp dEq (eOp dGet (eVar 0) (eC (.int 2))) (eC (.int 0)))) (sIf (eBorrow (eOp dLt (eOp dGet (eVar 0) (eC (.int 1))) (eCallB bLen [eOp dGet (eVar 0) (eC (.int 0))]))) (sSeq (sSet 2 (eBorrow (eOp dGet (eOp dGet (eVar 0) (eC (.int 0))) (eOp dGet (eVar 0) (eC (.int 1)))))) (sSeq (sSetIx 0 (eC (.int 1)) (eBorrow (eOp dAdd (eOp dGet (eVar 0) (eC (.int 1))) (eC (.int 1))))) (sIf (eOp dGe (eVar 2) (eOp dPow (eC (.int 10)) (eC (.int 18)))) (sSetIx 0 (eC (.int 2)) (eVar 2)) (sSetIx 0 (eC (.int 3)) (eBorrow (eOp dMod (eCallB bInt [eOp dAdd (eOp dAdd (eOp dMul (eOp dGet (eVar 0) (eC (.int 3))) (eC (.int 48271))) (eOp dMul (eVar 2) (eC (.int 69621)))) (eC (.int 11))]) (eC (.int 2147483647)))))))) (sSetIx 0 (eC (.int 3)) (eBorrow (eOp dMod (eCallB bInt [eOp dAdd (eOp dMul (eOp dGet (eVar 0) (eC (.int 3))) (eC (.int 48271))) (eC (.int 7))]) (eC (.int 2147483647)))))) (sSkip)) (sSeq (sIf (eBorrow (eOp dGt (eOp dGet (eVar 0) (eC (.int 2))) (eC (.int 0)))) (sSeq (sSet 3 (eBorrow (eOp dMod (eCallB bInt [eOp dGet (eVar 0) (eC (.int 2))]) (eVar 1)))) (sSeq (sSetIx 0 (eC (.int 2)) (eBorrow (eOp dFdiv (eOp dGet (eVar 0) (eC (.int 2))) (eVar 1)))) (sRet (eVar 3)))) (sSkip)) (sRet (eBorrow (eOp dMod (eOp dMod (eCallB bInt [eOp dMul (eOp dGet (eVar 0) (eC (.int 3))) (eC (.int 16807))]) (eC (.int 2147483629))) (eVar 1)))))
def f__law_draw : List D → FOut := fnD 4 g__law_draw b__law_draw
theorem ok__law_draw (T : TX K mg) : DefOk P w K mg base "_law_draw" ["_law_draws", "_law_many"] 1 g__law_draw f__law_draw := by
  refine def_okIO (own' := (ownL [(0, .lst)])) T.d__law_draw sc__law_draw (by decide) (by decide) (by decide) (fun _ => (all_cons rfl all_nil)) ?_
  intro f cdv A outer s0 H E hr
  have nd : n__law_draw.Nodup := sc__law_draw.nd
  exact den_cons (den_if (dent_borrow (dent_cmp (opd_eq (hu4 hr)) dEq_bl (den_ix (den_var 0) (den_int) (fun _ _ => rfl)) (den_int) (nomark _)) (eOp_bl dEq_bl)) (den_one (den_if (dent_borrow (dent_cmp opd_lt dLt_bl (den_ix (den_var 0) (den_int) (fun _ _ => rfl)) (den_callB cd_len rfl T.b_len (by decide +kernel) (dena_cons (den_ix (den_var 0) (den_int) (fun _ _ => rfl)) (dena_nil))) (nomark _)) (eOp_bl dLt_bl)) (den_cons (den_set (i := 2) rfl nd rfl (.inl rfl) (den_borrow (den_ix (den_ix (den_var 0) (den_int) (fun _ _ => rfl)) (den_ix (den_var 0) (den_int) (fun _ _ => rfl)) (fun _ _ => rfl)))) (den_cons (den_setIx 0 rfl rfl (by first | exact Or.inl rfl | exact Or.inr (Or.inl rfl) | exact Or.inr (Or.inr rfl)) (den_int) (den_borrow (den_op opd_add (den_ix (den_var 0) (den_int) (fun _ _ => rfl)) (den_int)))) (den_one (den_if (dent_cmp opd_ge dGe_bl (den_var 2) (den_op opd_pow (den_int) (den_int)) (nomark _)) (den_one (den_setIx 0 rfl rfl (by first | exact Or.inl rfl | exact Or.inr (Or.inl rfl) | exact Or.inr (Or.inr rfl)) (den_int) (den_var 2))) (den_one (den_setIx 0 rfl rfl (by first | exact Or.inl rfl | exact Or.inr (Or.inl rfl) | exact Or.inr (Or.inr rfl)) (den_int) (den_borrow (den_op opd_mod (den_callTy cd_int rfl T.b_int (by decide +kernel) (dena_cons (den_op opd_add (den_op opd_add (den_op opd_mul (den_ix (den_var 0) (den_int) (fun _ _ => rfl)) (den_int)) (den_op opd_mul (den_var 2) (den_int))) (den_int)) (dena_nil))) (den_int))))))))) (den_one (den_setIx 0 rfl rfl (by first | exact Or.inl rfl | exact Or.inr (Or.inl rfl) | exact Or.inr (Or.inr rfl)) (den_int) (den_borrow (den_op opd_mod (den_callTy cd_int rfl T.b_int (by decide +kernel) (dena_cons (den_op opd_add (den_op opd_mul (den_ix (den_var 0) (den_int) (fun _ _ => rfl)) (den_int)) (den_int)) (dena_nil))) (den_int))))))) (den_nil)) (den_cons (den_if (dent_borrow (dent_cmp opd_gt dGt_bl (den_ix (den_var 0) (den_int) (fun _ _ => rfl)) (den_int) (nomark _)) (eOp_bl dGt_bl)) (den_cons (den_set (i := 3) rfl nd rfl (.inl rfl) (den_borrow (den_op opd_mod (den_callTy cd_int rfl T.b_int (by decide +kernel) (dena_cons (den_ix (den_var 0) (den_int) (fun _ _ => rfl)) (dena_nil))) (den_var 1)))) (den_cons (den_setIx 0 rfl rfl (by first | exact Or.inl rfl | exact Or.inr (Or.inl rfl) | exact Or.inr (Or.inr rfl)) (den_int) (den_borrow (den_op opd_fdiv (den_ix (den_var 0) (den_int) (fun _ _ => rfl)) (den_var 1)))) (den_one (den_ret (own' := (ownL [(0, .lst)])) (den_var 3) rfl (all_cons rfl all_nil))))) (den_nil)) (den_one (den_ret (own' := (ownL [(0, .lst)])) (den_borrow (den_op opd_mod (den_op opd_mod (den_callTy cd_int rfl T.b_int (by decide +kernel) (dena_cons (den_op opd_mul (den_ix (den_var 0) (den_int) (fun _ _ => rfl)) (den_int)) (dena_nil))) (den_int)) (den_var 1))) rfl (all_cons rfl all_nil))))
abbrev n__law_value : List Str := ["_law_draws", "_law_kind_here"]
theorem sc__law_value : FnScope n__law_value ["_law_draws", "_law_kind_here"] (defScope s__law_value) := ⟨rfl, rfl, rfl, by decide +kernel, rfl, by decide +kernel, by decide +kernel⟩
abbrev g__law_value : Sig := ⟨2, [(0, .lst)], [(0, .lst)], [(0, .lst)], none⟩
def b__law_value : S := sSeq (sIf (eOp dEq (eVar 1) (eC (.str (Str.ofString "none")))) (sRet (eC .non)) (sSkip)) (sSeq (sIf (eOp dEq (eVar 1) (eC (.str (Str.ofString "bool")))) (sRet (eOp dEq (eCall f__law_draw [.o 0, .e (eC (.int 2))]) (eC (.int 1)))) (sSkip)) (sSeq (sIf (eOp dEq (eVar 1) (eC (.str (Str.ofString "int")))) (sRet (eOp dGet (eLst [eC (.int 0), eC (.int 1), eC (.int 0), eC (.int 2), eOp1 dNeg (eC (.int 1)), eC (.int 5), eOp1 dNeg (eC (.int 9))]) (eCall f__law_draw [.o 0, .e (eC (.int 7))]))) (sSkip)) (sSeq (sIf (eOp dEq (eVar 1) (eC (.str (Str.ofString "text")))) (sRet (eOp dGet (eLst [eC (.str (Str.ofString "")), eC (.str (Str.ofString "a")), eC (.str (Str.ofString "")), eC (.str (Str.ofString "ab")), eC (.str (Str.ofString "b"))]) (eCall f__law_draw [.o 0, .e (eC (.int 5))]))) (sSkip)) (sRet (eOp dGet (eLst [eTup [], eTup [eC (.int 0)], eTup [], eTup [eC (.int 1), eC (.int 2)], eTup [eC (.int 1)]]) (eCall f__law_draw [.o 0, .e (eC (.int 5))]))))))
def f__law_value : List D → FOut := fnD 2 g__law_value b__law_value
theorem ok__law_value (T : TX K mg) : DefOk P w K mg base "_law_value" ["_law_draws", "_law_kind_here"] 2 g__law_value f__law_value := by
  refine def_okIO (own' := (ownL [(0, .lst)])) T.d__law_value sc__law_value (by decide) (by decide) (by decide) (fun _ => (all_cons rfl all_nil)) ?_
  intro f cdv A outer s0 H E hr
  have nd : n__law_value.Nodup := sc__law_value.nd
  exact den_cons (den_if (dent_cmp (opd_eq (hu4 hr)) dEq_bl (den_var 1) (den_str) (nomark _)) (den_one (den_ret (own' := (ownL [(0, .lst)])) (den_non) rfl (all_cons rfl all_nil))) (den_nil)) (den_cons (den_if (dent_cmp (opd_eq (hu4 hr)) dEq_bl (den_var 1) (den_str) (nomark _)) (den_one (den_ret (own' := (ownL [(0, .lst)])) (den_cmp (opd_eq (hu4 hr)) (den_callD (ok__law_draw T) hr (by decide) rfl (takes_of rfl rfl rfl rfl) rfl (CallOk.of rfl rfl rfl rfl rfl (by decide)) (denao_o 0 rfl rfl (by first | exact Or.inl rfl | exact Or.inr (Or.inl rfl) | exact Or.inr (Or.inr rfl)) (denao_e (den_int) (denao_nil)))) (den_int) (nomark _)) rfl (all_cons rfl all_nil))) (den_nil)) (den_cons (den_if (dent_cmp (opd_eq (hu4 hr)) dEq_bl (den_var 1) (den_str) (nomark _)) (den_one (den_ret (own' := (ownL [(0, .lst)])) (den_ix (den_lst (dena_cons (den_int) (dena_cons (den_int) (dena_cons (den_int) (dena_cons (den_int) (dena_cons (den_neg (den_int)) (dena_cons (den_int) (dena_cons (den_neg (den_int)) (dena_nil))))))))) (den_callD (ok__law_draw T) hr (by decide) rfl (takes_of rfl rfl rfl rfl) rfl (CallOk.of rfl rfl rfl rfl rfl (by decide)) (denao_o 0 rfl rfl (by first | exact Or.inl rfl | exact Or.inr (Or.inl rfl) | exact Or.inr (Or.inr rfl)) (denao_e (den_int) (denao_nil)))) (fun _ _ => rfl)) rfl (all_cons rfl all_nil))) (den_nil)) (den_cons (den_if (dent_cmp (opd_eq (hu4 hr)) dEq_bl (den_var 1) (den_str) (nomark _)) (den_one (den_ret (own' := (ownL [(0, .lst)])) (den_ix (den_lst (dena_cons (den_str) (dena_cons (den_str) (dena_cons (den_str) (dena_cons (den_str) (dena_cons (den_str) (dena_nil))))))) (den_callD (ok__law_draw T) hr (by decide) rfl (takes_of rfl rfl rfl rfl) rfl (CallOk.of rfl rfl rfl rfl rfl (by decide)) (denao_o 0 rfl rfl (by first | exact Or.inl rfl | exact Or.inr (Or.inl rfl) | exact Or.inr (Or.inr rfl)) (denao_e (den_int) (denao_nil)))) (fun _ _ => rfl)) rfl (all_cons rfl all_nil))) (den_nil)) (den_one (den_ret (own' := (ownL [(0, .lst)])) (den_ix (den_lst (dena_cons (den_tup (dena_nil)) (dena_cons (den_tup (dena_cons (den_int) (dena_nil))) (dena_cons (den_tup (dena_nil)) (dena_cons (den_tup (dena_cons (den_int) (dena_cons (den_int) (dena_nil)))) (dena_cons (den_tup (dena_cons (den_int) (dena_nil))) (dena_nil))))))) (den_callD (ok__law_draw T) hr (by decide) rfl (takes_of rfl rfl rfl rfl) rfl (CallOk.of rfl rfl rfl rfl rfl (by decide)) (denao_o 0 rfl rfl (by first | exact Or.inl rfl | exact Or.inr (Or.inl rfl) | exact Or.inr (Or.inr rfl)) (denao_e (den_int) (denao_nil)))) (fun _ _ => rfl)) rfl (all_cons rfl all_nil))))))
abbrev n__law_any : List Str := ["_law_draws"]
theorem sc__law_any : FnScope n__law_any ["_law_draws"] (defScope s__law_any) := ⟨rfl, rfl, rfl, by decide +kernel, rfl, by decide +kernel, by decide +kernel⟩
abbrev g__law_any : Sig := ⟨1, [(0, .lst)], [(0, .lst)], [(0, .lst)], none⟩
def b__law_any : S := sRet (eCall f__law_value [.o 0, .e (eOp dGet (eLst [eC (.str (Str.ofString "none")), eC (.str (Str.ofString "bool")), eC (.str (Str.ofString "int")), eC (.str (Str.ofString "int")), eC (.str (Str.ofString "text")), eC (.str (Str.ofString "list"))]) (eCall f__law_draw [.o 0, .e (eC (.int 6))]))])
def f__law_any : List D → FOut := fnD 1 g__law_any b__law_any
theorem ok__law_any (T : TX K mg) : DefOk P w K mg base "_law_any" ["_law_draws"] 3 g__law_any f__law_any := by
  refine def_okIO (own' := (ownL [(0, .lst)])) T.d__law_any sc__law_any (by decide) (by decide) (by decide) (fun _ => (all_cons rfl all_nil)) ?_
  intro f cdv A outer s0 H E hr
  have nd : n__law_any.Nodup := sc__law_any.nd
  exact den_one (den_ret (own' := (ownL [(0, .lst)])) (den_callD (ok__law_value T) hr (by decide) rfl (takes_of rfl rfl rfl rfl) rfl (CallOk.of rfl rfl rfl rfl rfl (by decide)) (denao_o 0 rfl rfl (by first | exact Or.inl rfl | exact Or.inr (Or.inl rfl) | exact Or.inr (Or.inr rfl)) (denao_e (den_ix (den_lst (dena_cons (den_str) (dena_cons (den_str) (dena_cons (den_str) (dena_cons (den_str) (dena_cons (den_str) (dena_cons (den_str) (dena_nil)))))))) (den_callD (ok__law_draw T) hr (by decide) rfl (takes_of rfl rfl rfl rfl) rfl (CallOk.of rfl rfl rfl rfl rfl (by decide)) (denao_o 0 rfl rfl (by first | exact Or.inl rfl | exact Or.inr (Or.inl rfl) | exact Or.inr (Or.inr rfl)) (denao_e (den_int) (denao_nil)))) (fun _ _ => rfl)) (denao_nil)))) rfl (all_cons rfl all_nil))
abbrev n__law_number : List Str := ["_law_value_here", "_law_place", "_law_number_here", "_law_other"]
theorem sc__law_number : FnScope n__law_number ["_law_value_here"] (defScope s__law_number) := ⟨rfl, rfl, rfl, by decide +kernel, rfl, by decide +kernel, by decide +kernel⟩
abbrev g__law_number : Sig := (sig0 1)
def b__law_number : S := sSeq (sSet 1 (eC (.int 0))) (sSeq (sFor (eRange1 (eC (.int 10))) (tgName 2) (sFor (eIter (eSlice (eLst [eVar 2, eOp dSub (eC (.int 0)) (eVar 2)]) none (some (eOp dAdd (eC (.int 1)) (eCallB bInt [eOp dGt (eVar 2) (eC (.int 0))]))))) (tgName 3) (sSeq (sIf (eOp dEq (eVar 3) (eVar 0)) (sRet (eVar 1)) (sSkip)) (sSet 1 (eOp dAdd (eVar 1) (eC (.int 1))))))) (sRet (eC (.int 99))))
def f__law_number : List D → FOut := fnD 4 g__law_number b__law_number
theorem ok__law_number (T : TX K mg) : DefOk P w K mg base "_law_number" ["_law_value_here"] 1 g__law_number f__law_number := by
  refine def_ok (own := own0) (own' := (ownL [])) T.d__law_number sc__law_number (by decide) (fun i hi => rfl) ?_
  intro f cdv A outer s0 H E hr
  have nd : n__law_number.Nodup := sc__law_number.nd
  exact den_cons (den_set (i := 1) rfl nd rfl (.inl rfl) (den_int)) (den_cons (den_for (sl := [2]) (passes_of rfl) rfl (deni_range1 rfl T.b_range (den_int)) (deg_name rfl (by decide) nd rfl (by first | exact Or.inl rfl | exact Or.inr rfl)) (den_one (den_for (sl := [3]) (passes_of rfl) rfl (deni_seq (den_slice (den_lst (dena_cons (den_var 2) (dena_cons (den_op opd_sub (den_int) (den_var 2)) (dena_nil)))) denp_none (denp_some (den_op opd_add (den_int) (den_callTy cd_int rfl T.b_int (by decide +kernel) (dena_cons (den_cmp opd_gt (den_var 2) (den_int) (nomark _)) (dena_nil))))))) (deg_name rfl (by decide) nd rfl (by first | exact Or.inl rfl | exact Or.inr rfl)) (den_cons (den_if (dent_cmp (opd_eq (hu4 hr)) dEq_bl (den_var 3) (den_var 0) (nomark _)) (den_one (den_ret (own' := (ownL [])) (den_var 1) rfl all_nil)) (den_nil)) (den_one (den_set (i := 1) rfl nd rfl (.inl rfl) (den_op opd_add (den_var 1) (den_int)))))))) (den_one (den_ret (own' := (ownL [])) (den_int) rfl all_nil)))
abbrev n__law_rank : List Str := ["_law_value_here", "_law_item"]
theorem sc__law_rank : FnScope n__law_rank ["_law_value_here"] (defScope s__law_rank) := ⟨rfl, rfl, rfl, by decide +kernel, rfl, by decide +kernel, by decide +kernel⟩
abbrev g__law_rank : Sig := (sig0 1)
def b__law_rank : S := sSeq (sIf (eOp dIsN (eVar 0) (eC .non)) (sRet (eLst [eC (.int 1)])) (sSkip)) (sSeq (sIf (eIsi "bool" (eVar 0)) (sRet (eLst [eC (.int 2), eCallB bInt [eVar 0]])) (sSkip)) (sSeq (sIf (eIsi "int" (eVar 0)) (sRet (eLst [eC (.int 3), eCall f__law_number [.e (eVar 0)]])) (sSkip)) (sSeq (sIf (eIsi "str" (eVar 0)) (sRet (eLst [eC (.int 4), eCallB bLen [eVar 0], eVar 0])) (sSkip)) (sRet (eLst [eC (.int 5), eCallB bLen [eVar 0], eLc [1] (eIter (eVar 0)) (tgName 1) (eC (.bl true)) (eCall f__law_number [.e (eVar 1)])])))))
def f__law_rank : List D → FOut := fnD 2 g__law_rank b__law_rank
theorem ok__law_rank (T : TX K mg) : DefOk P w K mg base "_law_rank" ["_law_value_here"] 2 g__law_rank f__law_rank := by
  refine def_ok (own := own0) (own' := (ownL [])) T.d__law_rank sc__law_rank (by decide) (fun i hi => rfl) ?_
  intro f cdv A outer s0 H E hr
  have nd : n__law_rank.Nodup := sc__law_rank.nd
  exact den_cons (den_if (dent_cmp opd_isN dIsN_bl (den_var 0) (den_non) (nomark _)) (den_one (den_ret (own' := (ownL [])) (den_lst (dena_cons (den_int) (dena_nil))) rfl all_nil)) (den_nil)) (den_cons (den_if (den_test (den_isi (T := "bool") rfl rfl T.b_isinstance rfl T.b_bool (bootT _ rfl) (den_var 0)) (fun _ => rfl)) (den_one (den_ret (own' := (ownL [])) (den_lst (dena_cons (den_int) (dena_cons (den_callTy cd_int rfl T.b_int (by decide +kernel) (dena_cons (den_var 0) (dena_nil))) (dena_nil)))) rfl all_nil)) (den_nil)) (den_cons (den_if (den_test (den_isi (T := "int") rfl rfl T.b_isinstance rfl T.b_int (bootT _ rfl) (den_var 0)) (fun _ => rfl)) (den_one (den_ret (own' := (ownL [])) (den_lst (dena_cons (den_int) (dena_cons (den_callD (ok__law_number T) hr (by decide) rfl (takes_of rfl rfl rfl rfl) rfl (CallOk.of rfl rfl rfl rfl rfl (by decide)) (denao_e (den_var 0) (denao_nil))) (dena_nil)))) rfl all_nil)) (den_nil)) (den_cons (den_if (den_test (den_isi (T := "str") rfl rfl T.b_isinstance rfl T.b_str (bootT _ rfl) (den_var 0)) (fun _ => rfl)) (den_one (den_ret (own' := (ownL [])) (den_lst (dena_cons (den_int) (dena_cons (den_callB cd_len rfl T.b_len (by decide +kernel) (dena_cons (den_var 0) (dena_nil))) (dena_cons (den_var 0) (dena_nil))))) rfl all_nil)) (den_nil)) (den_one (den_ret (own' := (ownL [])) (den_lst (dena_cons (den_int) (dena_cons (den_callB cd_len rfl T.b_len (by decide +kernel) (dena_cons (den_var 0) (dena_nil))) (dena_cons (den_lc rfl nd (deni_seq (den_var 0)) (blkOk_by (own := [(Str.ofString "_law_item", 1)]) (N := n__law_rank) (sc := defScope s__law_rank) (by decide +kernel)) rfl (by decide) (fun _ _ _ _ _ => deg_name rfl (by decide) nd rfl (by first | exact Or.inl rfl | exact Or.inr rfl)) (fun _ _ _ _ _ => dents_nil) (fun _ _ _ _ _ => den_callD (ok__law_number T) hr (by decide) rfl takes0 rfl (CallOk.of rfl rfl rfl rfl rfl (by decide)) (denao_e (den_var 1) (denao_nil)))) (dena_nil))))) rfl all_nil)))))
abbrev n__law_like : List Str := ["_law_actual", "_law_due", "_law_k", "_law_name"]
theorem sc__law_like : FnScope n__law_like ["_law_actual", "_law_due"] (defScope s__law_like) := ⟨rfl, rfl, rfl, by decide +kernel, rfl, by decide +kernel, by decide +kernel⟩
abbrev g__law_like : Sig := (sig0 2)
def b__law_like (rec : List D → FOut) : S := sSeq (sIf (eOp dIsN (eVar 1) (eC .non)) (sRet (eOp dIsN (eVar 0) (eC .non))) (sSkip)) (sSeq (sIf (eIsi "bool" (eVar 1)) (sRet (eAnd (eIsi "bool" (eVar 0)) (eOp dEq (eVar 0) (eVar 1)))) (sSkip)) (sSeq (sIf (eIsi "int" (eVar 1)) (sRet (eAnd (eIsi "int" (eVar 0)) (eAnd (eNot (eIsi "bool" (eVar 0))) (eOp dEq (eVar 0) (eVar 1))))) (sSkip)) (sSeq (sIf (eIsi "str" (eVar 1)) (sRet (eAnd (eIsi "str" (eVar 0)) (eOp dEq (eVar 0) (eVar 1)))) (sSkip)) (sSeq (sIf (eIsi "dict" (eVar 1)) (sSeq (sIf (eOr (eNot (eIsi "dict" (eVar 0))) (eOr (eOp dNe (eCallB bLen [eVar 0]) (eCallB bLen [eVar 1])) (eCallB bAny [eLc [3] (eIter (eVar 1)) (tgName 3) (eC (.bl true)) (eOp dNotInD (eVar 3) (eVar 0))]))) (sRet (eC (.bl false))) (sSkip)) (sRet (eCallB bAll [eLc [3] (eIter (eVar 1)) (tgName 3) (eC (.bl true)) (eCall rec [.e (eOp dGet (eVar 0) (eVar 3)), .e (eOp dGet (eVar 1) (eVar 3))])]))) (sSkip)) (sSeq (sIf (eIsi "tuple" (eVar 1)) (sIf (eOr (eNot (eIsi "tuple" (eVar 0))) (eOp dNe (eCallB bLen [eVar 0]) (eCallB bLen [eVar 1]))) (sRet (eC (.bl false))) (sSkip)) (sIf (eOr (eNot (eIsi "list" (eVar 0))) (eOp dNe (eCallB bLen [eVar 0]) (eCallB bLen [eVar 1]))) (sRet (eC (.bl false))) (sSkip))) (sSeq (sFor (eRange1 (eCallB bLen [eVar 1])) (tgName 2) (sIf (eNot (eCall rec [.e (eOp dGet (eVar 0) (eVar 2)), .e (eOp dGet (eVar 1) (eVar 2))])) (sRet (eC (.bl false))) (sSkip))) (sRet (eC (.bl true)))))))))
def f__law_like : Nat → List D → FOut
  | 0 => fun _ => .stk
  | n + 1 => fnD 4 g__law_like (b__law_like (f__law_like n))
theorem ok__law_like (T : TX K mg) : ∀ n : Nat, DefOk P w K mg base "_law_like" ["_law_actual", "_law_due"] (1 + n) g__law_like (f__law_like n)
  | 0 => fnStk T.d__law_like rfl
  | n + 1 => by
    have OK := ok__law_like T n
    refine def_ok (own := own0) (own' := (ownL [])) T.d__law_like sc__law_like (by decide) (fun i hi => rfl) ?_
    intro f cdv A outer s0 H E hr
    have nd : n__law_like.Nodup := sc__law_like.nd
    exact den_cons (den_if (dent_cmp opd_isN dIsN_bl (den_var 1) (den_non) (nomark _)) (den_one (den_ret (own' := (ownL [])) (den_cmp opd_isN (den_var 0) (den_non) (nomark _)) rfl all_nil)) (den_nil)) (den_cons (den_if (den_test (den_isi (T := "bool") rfl rfl T.b_isinstance rfl T.b_bool (bootT _ rfl) (den_var 1)) (fun _ => rfl)) (den_one (den_ret (own' := (ownL [])) (den_and (den_isi (T := "bool") rfl rfl T.b_isinstance rfl T.b_bool (bootT _ rfl) (den_var 0)) (den_one1 (den_cmp (opd_eq (hu4 hr)) (den_var 0) (den_var 1) (nomark _)))) rfl all_nil)) (den_nil)) (den_cons (den_if (den_test (den_isi (T := "int") rfl rfl T.b_isinstance rfl T.b_int (bootT _ rfl) (den_var 1)) (fun _ => rfl)) (den_one (den_ret (own' := (ownL [])) (den_and (den_isi (T := "int") rfl rfl T.b_isinstance rfl T.b_int (bootT _ rfl) (den_var 0)) (den_and (den_not (den_isi (T := "bool") rfl rfl T.b_isinstance rfl T.b_bool (bootT _ rfl) (den_var 0))) (den_one1 (den_cmp (opd_eq (hu4 hr)) (den_var 0) (den_var 1) (nomark _))))) rfl all_nil)) (den_nil)) (den_cons (den_if (den_test (den_isi (T := "str") rfl rfl T.b_isinstance rfl T.b_str (bootT _ rfl) (den_var 1)) (fun _ => rfl)) (den_one (den_ret (own' := (ownL [])) (den_and (den_isi (T := "str") rfl rfl T.b_isinstance rfl T.b_str (bootT _ rfl) (den_var 0)) (den_one1 (den_cmp (opd_eq (hu4 hr)) (den_var 0) (den_var 1) (nomark _)))) rfl all_nil)) (den_nil)) (den_cons (den_if (den_test (den_isi (T := "dict") rfl rfl T.b_isinstance rfl T.b_dict (bootT _ rfl) (den_var 1)) (fun _ => rfl)) (den_cons (den_if (DenW.pt (denw_or (dent_not (den_test (den_isi (T := "dict") rfl rfl T.b_isinstance rfl T.b_dict (bootT _ rfl) (den_var 0)) (fun _ => rfl))) (denw_or (dent_cmp (opd_ne (hu4 hr)) dNe_bl (den_callB cd_len rfl T.b_len (by decide +kernel) (dena_cons (den_var 0) (dena_nil))) (den_callB cd_len rfl T.b_len (by decide +kernel) (dena_cons (den_var 1) (dena_nil))) (nomark _)) (denw_or1 (den_test (den_callB (cd_any rfl) rfl T.b_any (by decide +kernel) (dena_cons (den_lc rfl nd (deni_seq (den_var 1)) (blkOk_by (own := [(Str.ofString "_law_name", 3)]) (N := n__law_like) (sc := defScope s__law_like) (by decide +kernel)) rfl (by decide) (fun _ _ _ _ _ => deg_name rfl (by decide) nd rfl (by first | exact Or.inl rfl | exact Or.inr rfl)) (fun _ _ _ _ _ => dents_nil) (fun _ _ _ _ _ => den_cmp (opd_notin (hu5 hr)) (den_var 3) (den_var 0) rfl)) (dena_nil))) (fun _ => rfl)))))) (den_one (den_ret (own' := (ownL [])) (den_bl) rfl all_nil)) (den_nil)) (den_one (den_ret (own' := (ownL [])) (den_callB (cd_all rfl) rfl T.b_all (by decide +kernel) (dena_cons (den_lc rfl nd (deni_seq (den_var 1)) (blkOk_by (own := [(Str.ofString "_law_name", 3)]) (N := n__law_like) (sc := defScope s__law_like) (by decide +kernel)) rfl (by decide) (fun _ _ _ _ _ => deg_name rfl (by decide) nd rfl (by first | exact Or.inl rfl | exact Or.inr rfl)) (fun _ _ _ _ _ => dents_nil) (fun _ _ _ _ _ => den_callD OK hr (Nat.le_refl _) rfl takes0 rfl (CallOk.of rfl rfl rfl rfl rfl (by decide)) (denao_e (den_ix (den_var 0) (den_var 3) (fun _ _ => rfl)) (denao_e (den_ix (den_var 1) (den_var 3) (fun _ _ => rfl)) (denao_nil))))) (dena_nil))) rfl all_nil))) (den_nil)) (den_cons (den_if (den_test (den_isi (T := "tuple") rfl rfl T.b_isinstance rfl T.b_tuple (bootT _ rfl) (den_var 1)) (fun _ => rfl)) (den_one (den_if (DenW.pt (denw_or (dent_not (den_test (den_isi (T := "tuple") rfl rfl T.b_isinstance rfl T.b_tuple (bootT _ rfl) (den_var 0)) (fun _ => rfl))) (denw_or1 (dent_cmp (opd_ne (hu4 hr)) dNe_bl (den_callB cd_len rfl T.b_len (by decide +kernel) (dena_cons (den_var 0) (dena_nil))) (den_callB cd_len rfl T.b_len (by decide +kernel) (dena_cons (den_var 1) (dena_nil))) (nomark _))))) (den_one (den_ret (own' := (ownL [])) (den_bl) rfl all_nil)) (den_nil))) (den_one (den_if (DenW.pt (denw_or (dent_not (den_test (den_isi (T := "list") rfl rfl T.b_isinstance rfl T.b_list (bootT _ rfl) (den_var 0)) (fun _ => rfl))) (denw_or1 (dent_cmp (opd_ne (hu4 hr)) dNe_bl (den_callB cd_len rfl T.b_len (by decide +kernel) (dena_cons (den_var 0) (dena_nil))) (den_callB cd_len rfl T.b_len (by decide +kernel) (dena_cons (den_var 1) (dena_nil))) (nomark _))))) (den_one (den_ret (own' := (ownL [])) (den_bl) rfl all_nil)) (den_nil)))) (den_cons (den_for (sl := [2]) (passes_of rfl) rfl (deni_range1 rfl T.b_range (den_callB cd_len rfl T.b_len (by decide +kernel) (dena_cons (den_var 1) (dena_nil)))) (deg_name rfl (by decide) nd rfl (by first | exact Or.inl rfl | exact Or.inr rfl)) (den_one (den_if (dent_not (den_test (den_callD OK hr (Nat.le_refl _) rfl (takes_of rfl rfl rfl rfl) rfl (CallOk.of rfl rfl rfl rfl rfl (by decide)) (denao_e (den_ix (den_var 0) (den_var 2) (fun _ _ => rfl)) (denao_e (den_ix (den_var 1) (den_var 2) (fun _ _ => rfl)) (denao_nil)))) (fun _ => rfl))) (den_one (den_ret (own' := (ownL [])) (den_bl) rfl all_nil)) (den_nil)))) (den_one (den_ret (own' := (ownL [])) (den_bl) rfl all_nil))))))))
abbrev n__law_odd : List Str := ["_law_draws", "_law_menu"]
theorem sc__law_odd : FnScope n__law_odd ["_law_draws"] (defScope s__law_odd) := ⟨rfl, rfl, rfl, by decide +kernel, rfl, by decide +kernel, by decide +kernel⟩
abbrev g__law_odd : Sig := ⟨1, [(0, .lst)], [(0, .lst)], [(0, .lst)], none⟩
def b__law_odd : S := sSeq (sSet 1 (eLst [eC (.int 10), eOp1 dNeg (eC (.int 10)), eC (.int 9), eOp1 dNeg (eC (.int 9)), eC (.str (Str.ofString "abcd")), eC (.str (Str.ofString "A")), eC (.str (Str.ofString "a1")), eTup [eC (.int 1), eC (.int 2), eC (.int 3), eC (.int 4)], eTup [eC (.bl true)], eTup [eC (.int 10)], eTup [eC (.str (Str.ofString "a"))], eLst [eC (.int 1)], eDct0, eC (.int 5), eC (.str (Str.ofString "abc")), eTup [eC (.int 9), eOp1 dNeg (eC (.int 9)), eC (.int 0)]])) (sRet (eOp dGet (eVar 1) (eCall f__law_draw [.o 0, .e (eCallB bLen [eVar 1])])))
def f__law_odd : List D → FOut := fnD 2 g__law_odd b__law_odd
theorem ok__law_odd (T : TX K mg) : DefOk P w K mg base "_law_odd" ["_law_draws"] 2 g__law_odd f__law_odd := by
  refine def_okIO (own' := (ownL [(0, .lst)])) T.d__law_odd sc__law_odd (by decide) (by decide) (by decide) (fun _ => (all_cons rfl all_nil)) ?_
  intro f cdv A outer s0 H E hr
  have nd : n__law_odd.Nodup := sc__law_odd.nd
  exact den_cons (den_set (i := 1) rfl nd rfl (.inl rfl) (den_lst (dena_cons (den_int) (dena_cons (den_neg (den_int)) (dena_cons (den_int) (dena_cons (den_neg (den_int)) (dena_cons (den_str) (dena_cons (den_str) (dena_cons (den_str) (dena_cons (den_tup (dena_cons (den_int) (dena_cons (den_int) (dena_cons (den_int) (dena_cons (den_int) (dena_nil)))))) (dena_cons (den_tup (dena_cons (den_bl) (dena_nil))) (dena_cons (den_tup (dena_cons (den_int) (dena_nil))) (dena_cons (den_tup (dena_cons (den_str) (dena_nil))) (dena_cons (den_lst (dena_cons (den_int) (dena_nil))) (dena_cons (den_dct0) (dena_cons (den_int) (dena_cons (den_str) (dena_cons (den_tup (dena_cons (den_int) (dena_cons (den_neg (den_int)) (dena_cons (den_int) (dena_nil))))) (dena_nil))))))))))))))))))) (den_one (den_ret (own' := (ownL [(0, .lst)])) (den_ix (den_var 1) (den_callD (ok__law_draw T) hr (by decide) rfl (takes_of rfl rfl rfl rfl) rfl (CallOk.of rfl rfl rfl rfl rfl (by decide)) (denao_o 0 rfl rfl (by first | exact Or.inl rfl | exact Or.inr (Or.inl rfl) | exact Or.inr (Or.inr rfl)) (denao_e (den_callB cd_len rfl T.b_len (by decide +kernel) (dena_cons (den_var 1) (dena_nil))) (denao_nil)))) (fun _ _ => rfl)) rfl (all_cons rfl all_nil)))
abbrev n__law_int_good : List Str := ["_law_value_here"]
theorem sc__law_int_good : FnScope n__law_int_good ["_law_value_here"] (defScope s__law_int_good) := ⟨rfl, rfl, rfl, by decide +kernel, rfl, by decide +kernel, by decide +kernel⟩
abbrev g__law_int_good : Sig := (sig0 1)
def b__law_int_good : S := sRet (eAnd (eIsi "int" (eVar 0)) (eAnd (eNot (eIsi "bool" (eVar 0))) (eOp dLe (eCallB bAbs [eVar 0]) (eC (.int 9)))))
def f__law_int_good : List D → FOut := fnD 1 g__law_int_good b__law_int_good
theorem ok__law_int_good (T : TX K mg) : DefOk P w K mg base "_law_int_good" ["_law_value_here"] 1 g__law_int_good f__law_int_good := by
  refine def_ok (own := own0) (own' := (ownL [])) T.d__law_int_good sc__law_int_good (by decide) (fun i hi => rfl) ?_
  intro f cdv A outer s0 H E hr
  have nd : n__law_int_good.Nodup := sc__law_int_good.nd
  exact den_one (den_ret (own' := (ownL [])) (den_and (den_isi (T := "int") rfl rfl T.b_isinstance rfl T.b_int (bootT _ rfl) (den_var 0)) (den_and (den_not (den_isi (T := "bool") rfl rfl T.b_isinstance rfl T.b_bool (bootT _ rfl) (den_var 0))) (den_one1 (den_cmp opd_le (den_callB cd_abs rfl T.b_abs (by decide +kernel) (dena_cons (den_var 0) (dena_nil))) (den_int) (nomark _))))) rfl all_nil)
abbrev n__law_kind : List Str := ["_law_value_here", "_law_letter", "_law_item"]
theorem sc__law_kind : FnScope n__law_kind ["_law_value_here"] (defScope s__law_kind) := ⟨rfl, rfl, rfl, by decide +kernel, rfl, by decide +kernel, by decide +kernel⟩
abbrev g__law_kind : Sig := (sig0 1)
def b__law_kind : S := sSeq (sIf (eOp dIsN (eVar 0) (eC .non)) (sRet (eC (.str (Str.ofString "none")))) (sSkip)) (sSeq (sIf (eIsi "bool" (eVar 0)) (sRet (eC (.str (Str.ofString "bool")))) (sSkip)) (sSeq (sIf (eIsi "int" (eVar 0)) (sRet (eOp dGet (eLst [eC (.str (Str.ofString "int")), eC .non]) (eCallB bInt [eOp dGt (eCallB bAbs [eVar 0]) (eC (.int 9))]))) (sSkip)) (sSeq (sIf (eIsi "str" (eVar 0)) (sSeq (sIf (eAnd (eOp dLe (eCallB bLen [eVar 0]) (eC (.int 3))) (eCallB bAll [eLc [1] (eSigns (eVar 0)) (tgName 1) (eC (.bl true)) (eOp dInD (eVar 1) (eC (.str (Str.ofString "abcdefghijklmnopqrstuvwxyz"))))])) (sRet (eC (.str (Str.ofString "text")))) (sSkip)) (sRet (eC .non))) (sSkip)) (sSeq (sIf (eAnd (eIsi "tuple" (eVar 0)) (eAnd (eOp dLe (eCallB bLen [eVar 0]) (eC (.int 3))) (eCallB bAll [eLc [2] (eIter (eVar 0)) (tgName 2) (eC (.bl true)) (eCall f__law_int_good [.e (eVar 2)])]))) (sRet (eC (.str (Str.ofString "list")))) (sSkip)) (sRet (eC .non))))))
def f__law_kind : List D → FOut := fnD 3 g__law_kind b__law_kind
theorem ok__law_kind (T : TX K mg) : DefOk P w K mg base "_law_kind" ["_law_value_here"] 2 g__law_kind f__law_kind := by
  refine def_ok (own := own0) (own' := (ownL [])) T.d__law_kind sc__law_kind (by decide) (fun i hi => rfl) ?_
  intro f cdv A outer s0 H E hr
  have nd : n__law_kind.Nodup := sc__law_kind.nd
  exact den_cons (den_if (dent_cmp opd_isN dIsN_bl (den_var 0) (den_non) (nomark _)) (den_one (den_ret (own' := (ownL [])) (den_str) rfl all_nil)) (den_nil)) (den_cons (den_if (den_test (den_isi (T := "bool") rfl rfl T.b_isinstance rfl T.b_bool (bootT _ rfl) (den_var 0)) (fun _ => rfl)) (den_one (den_ret (own' := (ownL [])) (den_str) rfl all_nil)) (den_nil)) (den_cons (den_if (den_test (den_isi (T := "int") rfl rfl T.b_isinstance rfl T.b_int (bootT _ rfl) (den_var 0)) (fun _ => rfl)) (den_one (den_ret (own' := (ownL [])) (den_ix (den_lst (dena_cons (den_str) (dena_cons (den_non) (dena_nil)))) (den_callTy cd_int rfl T.b_int (by decide +kernel) (dena_cons (den_cmp opd_gt (den_callB cd_abs rfl T.b_abs (by decide +kernel) (dena_cons (den_var 0) (dena_nil))) (den_int) (nomark _)) (dena_nil))) (fun _ _ => rfl)) rfl all_nil)) (den_nil)) (den_cons (den_if (den_test (den_isi (T := "str") rfl rfl T.b_isinstance rfl T.b_str (bootT _ rfl) (den_var 0)) (fun _ => rfl)) (den_cons (den_if (DenW.pt (denw_and (dent_cmp opd_le dLe_bl (den_callB cd_len rfl T.b_len (by decide +kernel) (dena_cons (den_var 0) (dena_nil))) (den_int) (nomark _)) (denw_and1 (den_test (den_callB (cd_all rfl) rfl T.b_all (by decide +kernel) (dena_cons (den_lc rfl nd (deni_str (den_var 0)) (blkOk_by (own := [(Str.ofString "_law_letter", 1)]) (N := n__law_kind) (sc := defScope s__law_kind) (by decide +kernel)) rfl (by decide) (fun _ _ _ _ _ => deg_name rfl (by decide) nd rfl (by first | exact Or.inl rfl | exact Or.inr rfl)) (fun _ _ _ _ _ => dents_nil) (fun _ _ _ _ _ => den_cmp (opd_in (hu5 hr)) (den_var 1) (den_str) rfl)) (dena_nil))) (fun _ => rfl))))) (den_one (den_ret (own' := (ownL [])) (den_str) rfl all_nil)) (den_nil)) (den_one (den_ret (own' := (ownL [])) (den_non) rfl all_nil))) (den_nil)) (den_cons (den_if (DenW.pt (denw_and (den_test (den_isi (T := "tuple") rfl rfl T.b_isinstance rfl T.b_tuple (bootT _ rfl) (den_var 0)) (fun _ => rfl)) (denw_and (dent_cmp opd_le dLe_bl (den_callB cd_len rfl T.b_len (by decide +kernel) (dena_cons (den_var 0) (dena_nil))) (den_int) (nomark _)) (denw_and1 (den_test (den_callB (cd_all rfl) rfl T.b_all (by decide +kernel) (dena_cons (den_lc rfl nd (deni_seq (den_var 0)) (blkOk_by (own := [(Str.ofString "_law_item", 2)]) (N := n__law_kind) (sc := defScope s__law_kind) (by decide +kernel)) rfl (by decide) (fun _ _ _ _ _ => deg_name rfl (by decide) nd rfl (by first | exact Or.inl rfl | exact Or.inr rfl)) (fun _ _ _ _ _ => dents_nil) (fun _ _ _ _ _ => den_callD (ok__law_int_good T) hr (by decide) rfl takes0 rfl (CallOk.of rfl rfl rfl rfl rfl (by decide)) (denao_e (den_var 2) (denao_nil)))) (dena_nil))) (fun _ => rfl)))))) (den_one (den_ret (own' := (ownL [])) (den_str) rfl all_nil)) (den_nil)) (den_one (den_ret (own' := (ownL [])) (den_non) rfl all_nil))))))
abbrev n_law : List Str := ["_law_script", "_law_draws", "_law_k", "_law_value_here", "_law_values", "_law_passed", "_law_best"]
theorem sc_law : FnScope n_law ["_law_script"] (defScope s_law) := ⟨rfl, rfl, rfl, by decide +kernel, rfl, by decide +kernel, by decide +kernel⟩
abbrev g_law : Sig := (sig0 1)
def b_law : S := sSeq (sSet 1 (eCall f__law_begin [.e (eVar 0)])) (sSeq (sFor (eRange1 (eC (.int 4))) (tgName 2) (sSeq (sSet 3 (eCall f__law_odd [.o 1])) (sSeq (sIf (eOp dEq (eCall f__law_draw [.o 1, .e (eC (.int 2))]) (eC (.int 0))) (sSet 3 (eCall f__law_any [.o 1])) (sSkip)) (sIf (eNot (eCall (f__law_like 6) [.e (eCall f_kind_of [.e (eVar 3)]), .e (eCall f__law_kind [.e (eVar 3)])])) (sRet (eC (.bl false))) (sSkip))))) (sSeq (sSet 4 (eLc [2] (eRange1 (eOp dAdd (eC (.int 1)) (eCall f__law_draw [.o 1, .e (eC (.int 6))]))) (tgName 2) (eC (.bl true)) (eCall f__law_any [.o 1]))) (sSeq (sIf (eOp dEq (eCall f__law_draw [.o 1, .e (eC (.int 3))]) (eC (.int 0))) (sSet 4 (eLc [2] (eRange1 (eOp dAdd (eC (.int 1)) (eCall f__law_draw [.o 1, .e (eC (.int 6))]))) (tgName 2) (eC (.bl true)) (eOp dSub (eCall f__law_draw [.o 1, .e (eC (.int 19))]) (eC (.int 9))))) (sSkip)) (sSeq (sSet 5 (eCallB bList [eVar 4])) (sSeq (sSet 6 (eOp dGet (eVar 4) (eC (.int 0)))) (sSeq (sFor (eIter (eVar 4)) (tgName 3) (sIf (eOp dLtA (eCall f__law_rank [.e (eVar 3)]) (eCall f__law_rank [.e (eVar 6)])) (sSet 6 (eVar 3)) (sSkip))) (sRet (eAnd (eCall (f__law_like 6) [.e (eCall f_least [.e (eVar 5)]), .e (eVar 6)]) (eOp dEq (eVar 5) (eVar 4))))))))))
def f_law : List D → FOut := fnD 7 g_law b_law
theorem ok_law (T : TX K mg) {f0 : Addr} {fd : FuncData} (A0 : Fun K "law" "law" s_law f0 fd) : FnOk P w K mg base (L2.CX P w) 8 f0 fd ["_law_script"] (Prm ⟨K, mg, w⟩ g_law f_law) := by
  refine def_okF (own := own0) (own' := (ownL [(1, .lst)])) A0 sc_law (by decide) (fun i hi => rfl) ?_
  intro f cdv A outer s0 H E hr
  have nd : n_law.Nodup := sc_law.nd
  exact den_cons (den_takeO (i := 1) rfl rfl rfl nd rfl (.inr rfl) (deno_callD (ok__law_begin T) hr (by decide) rfl (takes_of rfl rfl rfl rfl) rfl (CallOk.of rfl rfl rfl rfl rfl (by decide)) (denao_e (den_var 0) (denao_nil)))) (den_cons (den_for (sl := [2]) (passes_of rfl) rfl (deni_range1 rfl T.b_range (den_int)) (deg_name rfl (by decide) nd rfl (by first | exact Or.inl rfl | exact Or.inr rfl)) (den_cons (den_set (i := 3) rfl nd rfl (.inl rfl) (den_callD (ok__law_odd T) hr (by decide) rfl (takes_of rfl rfl rfl rfl) rfl (CallOk.of rfl rfl rfl rfl rfl (by decide)) (denao_o 1 rfl rfl (by first | exact Or.inl rfl | exact Or.inr (Or.inl rfl) | exact Or.inr (Or.inr rfl)) (denao_nil)))) (den_cons (den_if (dent_cmp (opd_eq (hu4 hr)) dEq_bl (den_callD (ok__law_draw T) hr (by decide) rfl (takes_of rfl rfl rfl rfl) rfl (CallOk.of rfl rfl rfl rfl rfl (by decide)) (denao_o 1 rfl rfl (by first | exact Or.inl rfl | exact Or.inr (Or.inl rfl) | exact Or.inr (Or.inr rfl)) (denao_e (den_int) (denao_nil)))) (den_int) (nomark _)) (den_one (den_set (i := 3) rfl nd rfl (.inl rfl) (den_callD (ok__law_any T) hr (by decide) rfl (takes_of rfl rfl rfl rfl) rfl (CallOk.of rfl rfl rfl rfl rfl (by decide)) (denao_o 1 rfl rfl (by first | exact Or.inl rfl | exact Or.inr (Or.inl rfl) | exact Or.inr (Or.inr rfl)) (denao_nil))))) (den_nil)) (den_one (den_if (dent_not (den_test (den_callD (ok__law_like T 6) hr (by decide) rfl (takes_of rfl rfl rfl rfl) rfl (CallOk.of rfl rfl rfl rfl rfl (by decide)) (denao_e (den_callD (ok_kind_of T) hr (by decide) rfl (takes_of rfl rfl rfl rfl) rfl (CallOk.of rfl rfl rfl rfl rfl (by decide)) (denao_e (den_var 3) (denao_nil))) (denao_e (den_callD (ok__law_kind T) hr (by decide) rfl (takes_of rfl rfl rfl rfl) rfl (CallOk.of rfl rfl rfl rfl rfl (by decide)) (denao_e (den_var 3) (denao_nil))) (denao_nil)))) (fun _ => rfl))) (den_one (den_ret (own' := (ownL [(1, .lst)])) (den_bl) rfl all_nil)) (den_nil)))))) (den_cons (den_setLcA rfl nd (deni_range1 rfl T.b_range (den_op opd_add (den_int) (den_callD (ok__law_draw T) hr (by decide) rfl (takes_of rfl rfl rfl rfl) rfl (CallOk.of rfl rfl rfl rfl rfl (by decide)) (denao_o 1 rfl rfl (by first | exact Or.inl rfl | exact Or.inr (Or.inl rfl) | exact Or.inr (Or.inr rfl)) (denao_e (den_int) (denao_nil)))))) (blkOk_by (own := [(Str.ofString "_law_k", 2)]) (N := n_law) (sc := defScope s_law) (by decide +kernel)) rfl (by decide) (fun _ _ _ _ _ => deg_name rfl (by decide) nd rfl (by first | exact Or.inl rfl | exact Or.inr rfl)) (fun _ _ _ _ _ => dents_nil) (fun _ _ _ _ _ => den_callD (ok__law_any T) hr (by decide) rfl takes0 rfl (CallOk.of rfl rfl rfl rfl rfl (by decide)) (denao_o 1 rfl rfl (by first | exact Or.inl rfl | exact Or.inr (Or.inl rfl) | exact Or.inr (Or.inr rfl)) (denao_nil))) (i := 4) rfl rfl rfl (sw_true rfl rfl rfl (by decide +kernel))) (den_cons (den_if (dent_cmp (opd_eq (hu4 hr)) dEq_bl (den_callD (ok__law_draw T) hr (by decide) rfl (takes_of rfl rfl rfl rfl) rfl (CallOk.of rfl rfl rfl rfl rfl (by decide)) (denao_o 1 rfl rfl (by first | exact Or.inl rfl | exact Or.inr (Or.inl rfl) | exact Or.inr (Or.inr rfl)) (denao_e (den_int) (denao_nil)))) (den_int) (nomark _)) (den_one (den_setLcA rfl nd (deni_range1 rfl T.b_range (den_op opd_add (den_int) (den_callD (ok__law_draw T) hr (by decide) rfl (takes_of rfl rfl rfl rfl) rfl (CallOk.of rfl rfl rfl rfl rfl (by decide)) (denao_o 1 rfl rfl (by first | exact Or.inl rfl | exact Or.inr (Or.inl rfl) | exact Or.inr (Or.inr rfl)) (denao_e (den_int) (denao_nil)))))) (blkOk_by (own := [(Str.ofString "_law_k", 2)]) (N := n_law) (sc := defScope s_law) (by decide +kernel)) rfl (by decide) (fun _ _ _ _ _ => deg_name rfl (by decide) nd rfl (by first | exact Or.inl rfl | exact Or.inr rfl)) (fun _ _ _ _ _ => dents_nil) (fun _ _ _ _ _ => den_op opd_sub (den_callD (ok__law_draw T) hr (by decide) rfl takes0 rfl (CallOk.of rfl rfl rfl rfl rfl (by decide)) (denao_o 1 rfl rfl (by first | exact Or.inl rfl | exact Or.inr (Or.inl rfl) | exact Or.inr (Or.inr rfl)) (denao_e (den_int) (denao_nil)))) (den_int)) (i := 4) rfl rfl rfl (sw_true rfl rfl rfl (by decide +kernel)))) (den_nil)) (den_cons (den_set (i := 5) rfl nd rfl (.inl rfl) (den_callTy cd_list rfl T.b_list (by decide +kernel) (dena_cons (den_var 4) (dena_nil)))) (den_cons (den_set (i := 6) rfl nd rfl (.inl rfl) (den_ix (den_var 4) (den_int) (fun _ _ => rfl))) (den_cons (den_for (sl := [3]) (passes_of rfl) rfl (deni_seq (den_var 4)) (deg_name rfl (by decide) nd rfl (by first | exact Or.inl rfl | exact Or.inr rfl)) (den_one (den_if (dent_cmp (opd_ltA (hu4 hr)) dLtA_bl (den_callD (ok__law_rank T) hr (by decide) rfl (takes_of rfl rfl rfl rfl) rfl (CallOk.of rfl rfl rfl rfl rfl (by decide)) (denao_e (den_var 3) (denao_nil))) (den_callD (ok__law_rank T) hr (by decide) rfl (takes_of rfl rfl rfl rfl) rfl (CallOk.of rfl rfl rfl rfl rfl (by decide)) (denao_e (den_var 6) (denao_nil))) (nomark _)) (den_one (den_set (i := 6) rfl nd rfl (.inl rfl) (den_var 3))) (den_nil)))) (den_one (den_ret (own' := (ownL [(1, .lst)])) (den_and (den_callD (ok__law_like T 6) hr (by decide) rfl (takes_of rfl rfl rfl rfl) rfl (CallOk.of rfl rfl rfl rfl rfl (by decide)) (denao_e (den_callD (ok_least T) hr (by decide) rfl (takes_of rfl rfl rfl rfl) rfl (CallOk.of rfl rfl rfl rfl rfl (by decide)) (denao_e (den_var 5) (denao_nil))) (denao_e (den_var 6) (denao_nil)))) (den_one1 (den_cmp (opd_eq (hu4 hr)) (den_var 5) (den_var 4) (nomark _)))) rfl all_nil))))))))
end
end EV
namespace EV
open PySem PySem.Spec PyProof.Rows L2
/-- the state of the drawing -/
def dSt (cells : List Int) (i : Nat) (c z : Int) : D := .lst [.lst (cells.map D.int), .int i, .int c, .int z]
theorem dEq_int (i j : Int) : dEq (.int i) (.int j) = some (.bl (i == j)) := rfl
theorem dLt_int (i j : Int) : dLt (.int i) (.int j) = some (.bl (decide (i < j))) := rfl
theorem dGt_int (i j : Int) : dGt (.int i) (.int j) = some (.bl (decide (j < i))) := rfl
theorem dGe_int (i j : Int) : dGe (.int i) (.int j) = some (.bl (decide (j ≤ i))) := rfl
theorem dAdd_int (i j : Int) : dAdd (.int i) (.int j) = some (.int (i + j)) := rfl
theorem dSub_int (i j : Int) : dSub (.int i) (.int j) = some (.int (i - j)) := rfl
theorem dMod_int {i j : Int} (h : 0 < j) : dMod (.int i) (.int j) = some (.int (i % j)) := by simp [dMod, dI2, h]
theorem dFdiv_int {i j : Int} (h : 0 < j) (h2 : j < 1073741824) : dFdiv (.int i) (.int j) = some (.int (i / j)) := by simp [dFdiv, dI2, h, h2]
theorem dMul_int {i j : Int} (h1 : -18446744073709551616 < j) (h2 : j < 18446744073709551616) : dMul (.int i) (.int j) = some (.int (i * j)) := by
  simp only [dMul, dI2]
  rw [if_pos]
  simp
  exact Or.inr ⟨h1, h2⟩
theorem get0 (a b c d : D) : dGet (.lst [a, b, c, d]) (.int 0) = some a := rfl
theorem get1 (a b c d : D) : dGet (.lst [a, b, c, d]) (.int 1) = some b := rfl
theorem get2 (a b c d : D) : dGet (.lst [a, b, c, d]) (.int 2) = some c := rfl
theorem get3 (a b c d : D) : dGet (.lst [a, b, c, d]) (.int 3) = some d := rfl
theorem getC {cells : List Int} {i : Nat} {x : Int} (h : cells[i]? = some x) : dGet (.lst (cells.map D.int)) (.int i) = some (.int x) := by
  have hl : i < cells.length := (List.getElem?_eq_some_iff.mp h).1
  unfold dGet atI
  have e : ixN cells.length (i : Int) = some i := by unfold ixN; simp [hl]
  simp [e, h]
theorem draw_ok (cells : List Int) (i : Nat) (c z many : Int) (hc : 0 ≤ c) (hm : 0 < many) (hm2 : many < 1000) :
    ∃ r i' c' z', f__law_draw [dSt cells i c z, .int many] = .ok (.int r) [(0, dSt cells i' c' z')] ∧ 0 ≤ c' ∧ 0 ≤ r ∧ r < many := by
  by_cases h0 : c = 0
  · subst h0
    by_cases hi : i < cells.length
    · obtain ⟨x, hx⟩ : ∃ x, cells[i]? = some x := ⟨cells[i], by simp [hi]⟩
      have hg := getC hx
      have hp : dPow (.int 10) (.int 18) = some (.int 1000000000000000000) := by rfl
      have hl : dLt (.int (i : Int)) (.int (cells.length : Int)) = some (.bl true) := by rw [dLt_int]; simp; omega
      by_cases hb : (1000000000000000000 : Int) ≤ x
      · refine ⟨x % many, i + 1, x / many, z, ?_, Int.ediv_nonneg (by omega) (by omega), Int.emod_nonneg _ (by omega), Int.emod_lt_of_pos _ hm⟩
        have hx0 : (0 : Int) < x := by omega
        have d1 : dMod (.int x) (.int many) = some (.int (x % many)) := dMod_int hm
        have d2 : dFdiv (.int x) (.int many) = some (.int (x / many)) := dFdiv_int hm (by omega)
        have hb' : dGe (.int x) (.int 1000000000000000000) = some (.bl true) := by rw [dGe_int]; simp; omega
        have hz : dGt (.int x) (.int 0) = some (.bl true) := by rw [dGt_int]; simp; omega
        simp [f__law_draw, fnD, b__law_draw, sSeq, sIf, sOf, eBorrow, eOp, eBind, Rs.bind, eVar, eC, dSt, st0, get0, get1, get2, get3, dEq_int, D.flatT, D.truth, eCallB, eWith, eArgs, bLen, bInt, sSet, sSetIx, lstAt, asInt, dAdd_int, dMul_int, dMod_int, sSkip, sRet, fin, iosOf, ixN, hl, hg, hp, hb', hz, d1, d2]
      · refine ⟨(z * 48271 + x * 69621 + 11) % 2147483647 * 16807 % 2147483629 % many, i + 1, 0, (z * 48271 + x * 69621 + 11) % 2147483647, ?_, by omega, Int.emod_nonneg _ (by omega), Int.emod_lt_of_pos _ hm⟩
        have hb' : dGe (.int x) (.int 1000000000000000000) = some (.bl false) := by rw [dGe_int]; simp; omega
        have hz : dGt (.int 0) (.int 0) = some (.bl false) := rfl
        simp [f__law_draw, fnD, b__law_draw, sSeq, sIf, sOf, eBorrow, eOp, eBind, Rs.bind, eVar, eC, dSt, st0, get0, get1, get2, get3, dEq_int, D.flatT, D.truth, eCallB, eWith, eArgs, bLen, bInt, sSet, sSetIx, lstAt, asInt, dAdd_int, dMul_int, dMod_int, sSkip, sRet, fin, iosOf, ixN, hl, hg, hp, hb', hz, hm]
    · refine ⟨(z * 48271 + 7) % 2147483647 * 16807 % 2147483629 % many, i, 0, (z * 48271 + 7) % 2147483647, ?_, by omega, Int.emod_nonneg _ (by omega), Int.emod_lt_of_pos _ hm⟩
      have hl : dLt (.int (i : Int)) (.int (cells.length : Int)) = some (.bl false) := by rw [dLt_int]; simp; omega
      have hz : dGt (.int 0) (.int 0) = some (.bl false) := rfl
      simp [f__law_draw, fnD, b__law_draw, sSeq, sIf, sOf, eBorrow, eOp, eBind, Rs.bind, eVar, eC, dSt, st0, get0, get1, get2, get3, dEq_int, D.flatT, D.truth, eCallB, eWith, eArgs, bLen, bInt, sSet, sSetIx, lstAt, asInt, dAdd_int, dMul_int, dMod_int, sSkip, sRet, fin, iosOf, ixN, hl, hz, hm]
  · refine ⟨c % many, i, c / many, z, ?_, Int.ediv_nonneg (by omega) (by omega), Int.emod_nonneg _ (by omega), Int.emod_lt_of_pos _ hm⟩
    have d1 : dMod (.int c) (.int many) = some (.int (c % many)) := dMod_int hm
    have d2 : dFdiv (.int c) (.int many) = some (.int (c / many)) := dFdiv_int hm (by omega)
    have hz : dGt (.int c) (.int 0) = some (.bl true) := by rw [dGt_int]; simp; omega
    have hq : (c == 0) = false := by simp [h0]
    simp [hq, f__law_draw, fnD, b__law_draw, sSeq, sIf, sOf, eBorrow, eOp, eBind, Rs.bind, eVar, eC, dSt, st0, get0, get1, get2, get3, dEq_int, D.flatT, D.truth, eCallB, eWith, eArgs, bLen, bInt, sSet, sSetIx, lstAt, asInt, dAdd_int, dMul_int, dMod_int, sSkip, sRet, fin, iosOf, ixN, h0, hz, d1, d2]

def Ds (s : D) : Prop := ∃ cells i c z, s = dSt cells i c z ∧ 0 ≤ c
theorem draw {s : D} (h : Ds s) (many : Int) (hm : 0 < many ∧ many < 1000) : ∃ r s', f__law_draw [s, .int many] = .ok (.int r) [(0, s')] ∧ Ds s' ∧ 0 ≤ r ∧ r < many := by
  obtain ⟨cells, i, c, z, rfl, hc⟩ := h
  obtain ⟨r, i', c', z', e, h1, h2, h3⟩ := draw_ok cells i c z many hc hm.1 hm.2
  exact ⟨r, _, e, ⟨cells, i', c', z', rfl, h1⟩, h2, h3⟩
/-- a draw as an argument's place 0, within a caller whose slot j holds the state -/
theorem call_draw {s s' : D} {many r : Int} {j : Nat} {ρ : Rho} (hs : ρ[j]? = some (some s)) (e : f__law_draw [s, .int many] = .ok (.int r) [(0, s')]) : eCall f__law_draw [.o j, .e (eC (.int many))] ρ = .ok (.int r) (ρ.set j (some s')) := by
  simp [eCall, eArs, fillD, slotsOf, callRes, putIos, eC, hs, e]
/-- the drawn values -/
def uAny : List D := [.non, .bl true, .bl false, .int 0, .int 1, .int 2, .int (-1), .int 5, .int (-9), .str (Str.ofString ""), .str (Str.ofString "a"), .str (Str.ofString "ab"), .str (Str.ofString "b"), .tup [], .tup [.int 0], .tup [.int 1, .int 2], .tup [.int 1]]
def uKind : List Str := [Str.ofString "none", Str.ofString "bool", Str.ofString "int", Str.ofString "text", Str.ofString "list"]
theorem dEq_str (a b : Str) : dEq (.str a) (.str b) = some (.bl (a == b)) := rfl
theorem kq_none_none : (Str.ofString "none" == Str.ofString "none") = true := by decide +kernel
theorem kq_none_bool : (Str.ofString "none" == Str.ofString "bool") = false := by decide +kernel
theorem kq_none_int : (Str.ofString "none" == Str.ofString "int") = false := by decide +kernel
theorem kq_none_text : (Str.ofString "none" == Str.ofString "text") = false := by decide +kernel
theorem kq_bool_none : (Str.ofString "bool" == Str.ofString "none") = false := by decide +kernel
theorem kq_bool_bool : (Str.ofString "bool" == Str.ofString "bool") = true := by decide +kernel
theorem kq_bool_int : (Str.ofString "bool" == Str.ofString "int") = false := by decide +kernel
theorem kq_bool_text : (Str.ofString "bool" == Str.ofString "text") = false := by decide +kernel
theorem kq_int_none : (Str.ofString "int" == Str.ofString "none") = false := by decide +kernel
theorem kq_int_bool : (Str.ofString "int" == Str.ofString "bool") = false := by decide +kernel
theorem kq_int_int : (Str.ofString "int" == Str.ofString "int") = true := by decide +kernel
theorem kq_int_text : (Str.ofString "int" == Str.ofString "text") = false := by decide +kernel
theorem kq_text_none : (Str.ofString "text" == Str.ofString "none") = false := by decide +kernel
theorem kq_text_bool : (Str.ofString "text" == Str.ofString "bool") = false := by decide +kernel
theorem kq_text_int : (Str.ofString "text" == Str.ofString "int") = false := by decide +kernel
theorem kq_text_text : (Str.ofString "text" == Str.ofString "text") = true := by decide +kernel
theorem kq_list_none : (Str.ofString "list" == Str.ofString "none") = false := by decide +kernel
theorem kq_list_bool : (Str.ofString "list" == Str.ofString "bool") = false := by decide +kernel
theorem kq_list_int : (Str.ofString "list" == Str.ofString "int") = false := by decide +kernel
theorem kq_list_text : (Str.ofString "list" == Str.ofString "text") = false := by decide +kernel
theorem value_ok {s : D} (h : Ds s) (k : Str) (hk : k ∈ uKind) : ∃ v s', f__law_value [s, .str k] = .ok v [(0, s')] ∧ Ds s' ∧ v ∈ uAny := by
  simp only [uKind, List.mem_cons, List.not_mem_nil, or_false] at hk
  rcases hk with rfl | rfl | rfl | rfl | rfl
  · exact ⟨.non, s, by simp [f__law_value, fnD, b__law_value, sSeq, sIf, sOf, eOp, eBind, Rs.bind, eVar, eC, st0, sRet, sSkip, D.truth, fin, iosOf, dEq_str, dEq_int, kq_none_none, kq_none_bool, kq_none_int, kq_none_text, kq_bool_none, kq_bool_bool, kq_bool_int, kq_bool_text, kq_int_none, kq_int_bool, kq_int_int, kq_int_text, kq_text_none, kq_text_bool, kq_text_int, kq_text_text, kq_list_none, kq_list_bool, kq_list_int, kq_list_text], h, by simp [uAny]⟩
  · obtain ⟨r, s', e, hs, h0, h1⟩ := draw h 2 (by omega)
    have c := call_draw (j := 0) (ρ := [some s, some (.str (Str.ofString "bool"))]) rfl e
    exact ⟨.bl (r == 1), s', by simp [f__law_value, fnD, b__law_value, sSeq, sIf, sOf, eOp, eBind, Rs.bind, eVar, eC, st0, sRet, sSkip, D.truth, fin, iosOf, dEq_str, dEq_int, kq_none_none, kq_none_bool, kq_none_int, kq_none_text, kq_bool_none, kq_bool_bool, kq_bool_int, kq_bool_text, kq_int_none, kq_int_bool, kq_int_int, kq_int_text, kq_text_none, kq_text_bool, kq_text_int, kq_text_text, kq_list_none, kq_list_bool, kq_list_int, kq_list_text, c], hs, by cases (r == 1) <;> simp [uAny]⟩
  · obtain ⟨r, s', e, hs, h0, h1⟩ := draw h 7 (by omega)
    have c := call_draw (j := 0) (ρ := [some s, some (.str (Str.ofString "int"))]) rfl e
    have hr : r = 0 ∨ r = 1 ∨ r = 2 ∨ r = 3 ∨ r = 4 ∨ r = 5 ∨ r = 6 := by omega
    rcases hr with rfl | rfl | rfl | rfl | rfl | rfl | rfl
    · exact ⟨.int (0), s', by simp [f__law_value, fnD, b__law_value, sSeq, sIf, sOf, eOp, eBind, Rs.bind, eVar, eC, st0, sRet, sSkip, D.truth, fin, iosOf, dEq_str, dEq_int, kq_none_none, kq_none_bool, kq_none_int, kq_none_text, kq_bool_none, kq_bool_bool, kq_bool_int, kq_bool_text, kq_int_none, kq_int_bool, kq_int_int, kq_int_text, kq_text_none, kq_text_bool, kq_text_int, kq_text_text, kq_list_none, kq_list_bool, kq_list_int, kq_list_text, c, eLst, eTup, eWith, eArgs, eOp1, dNeg, dGet, atI, ixN], hs, by simp [uAny]⟩
    · exact ⟨.int (1), s', by simp [f__law_value, fnD, b__law_value, sSeq, sIf, sOf, eOp, eBind, Rs.bind, eVar, eC, st0, sRet, sSkip, D.truth, fin, iosOf, dEq_str, dEq_int, kq_none_none, kq_none_bool, kq_none_int, kq_none_text, kq_bool_none, kq_bool_bool, kq_bool_int, kq_bool_text, kq_int_none, kq_int_bool, kq_int_int, kq_int_text, kq_text_none, kq_text_bool, kq_text_int, kq_text_text, kq_list_none, kq_list_bool, kq_list_int, kq_list_text, c, eLst, eTup, eWith, eArgs, eOp1, dNeg, dGet, atI, ixN], hs, by simp [uAny]⟩
    · exact ⟨.int (0), s', by simp [f__law_value, fnD, b__law_value, sSeq, sIf, sOf, eOp, eBind, Rs.bind, eVar, eC, st0, sRet, sSkip, D.truth, fin, iosOf, dEq_str, dEq_int, kq_none_none, kq_none_bool, kq_none_int, kq_none_text, kq_bool_none, kq_bool_bool, kq_bool_int, kq_bool_text, kq_int_none, kq_int_bool, kq_int_int, kq_int_text, kq_text_none, kq_text_bool, kq_text_int, kq_text_text, kq_list_none, kq_list_bool, kq_list_int, kq_list_text, c, eLst, eTup, eWith, eArgs, eOp1, dNeg, dGet, atI, ixN], hs, by simp [uAny]⟩
    · exact ⟨.int (2), s', by simp [f__law_value, fnD, b__law_value, sSeq, sIf, sOf, eOp, eBind, Rs.bind, eVar, eC, st0, sRet, sSkip, D.truth, fin, iosOf, dEq_str, dEq_int, kq_none_none, kq_none_bool, kq_none_int, kq_none_text, kq_bool_none, kq_bool_bool, kq_bool_int, kq_bool_text, kq_int_none, kq_int_bool, kq_int_int, kq_int_text, kq_text_none, kq_text_bool, kq_text_int, kq_text_text, kq_list_none, kq_list_bool, kq_list_int, kq_list_text, c, eLst, eTup, eWith, eArgs, eOp1, dNeg, dGet, atI, ixN], hs, by simp [uAny]⟩
    · exact ⟨.int (-1), s', by simp [f__law_value, fnD, b__law_value, sSeq, sIf, sOf, eOp, eBind, Rs.bind, eVar, eC, st0, sRet, sSkip, D.truth, fin, iosOf, dEq_str, dEq_int, kq_none_none, kq_none_bool, kq_none_int, kq_none_text, kq_bool_none, kq_bool_bool, kq_bool_int, kq_bool_text, kq_int_none, kq_int_bool, kq_int_int, kq_int_text, kq_text_none, kq_text_bool, kq_text_int, kq_text_text, kq_list_none, kq_list_bool, kq_list_int, kq_list_text, c, eLst, eTup, eWith, eArgs, eOp1, dNeg, dGet, atI, ixN], hs, by simp [uAny]⟩
    · exact ⟨.int (5), s', by simp [f__law_value, fnD, b__law_value, sSeq, sIf, sOf, eOp, eBind, Rs.bind, eVar, eC, st0, sRet, sSkip, D.truth, fin, iosOf, dEq_str, dEq_int, kq_none_none, kq_none_bool, kq_none_int, kq_none_text, kq_bool_none, kq_bool_bool, kq_bool_int, kq_bool_text, kq_int_none, kq_int_bool, kq_int_int, kq_int_text, kq_text_none, kq_text_bool, kq_text_int, kq_text_text, kq_list_none, kq_list_bool, kq_list_int, kq_list_text, c, eLst, eTup, eWith, eArgs, eOp1, dNeg, dGet, atI, ixN], hs, by simp [uAny]⟩
    · exact ⟨.int (-9), s', by simp [f__law_value, fnD, b__law_value, sSeq, sIf, sOf, eOp, eBind, Rs.bind, eVar, eC, st0, sRet, sSkip, D.truth, fin, iosOf, dEq_str, dEq_int, kq_none_none, kq_none_bool, kq_none_int, kq_none_text, kq_bool_none, kq_bool_bool, kq_bool_int, kq_bool_text, kq_int_none, kq_int_bool, kq_int_int, kq_int_text, kq_text_none, kq_text_bool, kq_text_int, kq_text_text, kq_list_none, kq_list_bool, kq_list_int, kq_list_text, c, eLst, eTup, eWith, eArgs, eOp1, dNeg, dGet, atI, ixN], hs, by simp [uAny]⟩
  · obtain ⟨r, s', e, hs, h0, h1⟩ := draw h 5 (by omega)
    have c := call_draw (j := 0) (ρ := [some s, some (.str (Str.ofString "text"))]) rfl e
    have hr : r = 0 ∨ r = 1 ∨ r = 2 ∨ r = 3 ∨ r = 4 := by omega
    rcases hr with rfl | rfl | rfl | rfl | rfl
    · exact ⟨.str (Str.ofString ""), s', by simp [f__law_value, fnD, b__law_value, sSeq, sIf, sOf, eOp, eBind, Rs.bind, eVar, eC, st0, sRet, sSkip, D.truth, fin, iosOf, dEq_str, dEq_int, kq_none_none, kq_none_bool, kq_none_int, kq_none_text, kq_bool_none, kq_bool_bool, kq_bool_int, kq_bool_text, kq_int_none, kq_int_bool, kq_int_int, kq_int_text, kq_text_none, kq_text_bool, kq_text_int, kq_text_text, kq_list_none, kq_list_bool, kq_list_int, kq_list_text, c, eLst, eTup, eWith, eArgs, eOp1, dNeg, dGet, atI, ixN], hs, by simp [uAny]⟩
    · exact ⟨.str (Str.ofString "a"), s', by simp [f__law_value, fnD, b__law_value, sSeq, sIf, sOf, eOp, eBind, Rs.bind, eVar, eC, st0, sRet, sSkip, D.truth, fin, iosOf, dEq_str, dEq_int, kq_none_none, kq_none_bool, kq_none_int, kq_none_text, kq_bool_none, kq_bool_bool, kq_bool_int, kq_bool_text, kq_int_none, kq_int_bool, kq_int_int, kq_int_text, kq_text_none, kq_text_bool, kq_text_int, kq_text_text, kq_list_none, kq_list_bool, kq_list_int, kq_list_text, c, eLst, eTup, eWith, eArgs, eOp1, dNeg, dGet, atI, ixN], hs, by simp [uAny]⟩
    · exact ⟨.str (Str.ofString ""), s', by simp [f__law_value, fnD, b__law_value, sSeq, sIf, sOf, eOp, eBind, Rs.bind, eVar, eC, st0, sRet, sSkip, D.truth, fin, iosOf, dEq_str, dEq_int, kq_none_none, kq_none_bool, kq_none_int, kq_none_text, kq_bool_none, kq_bool_bool, kq_bool_int, kq_bool_text, kq_int_none, kq_int_bool, kq_int_int, kq_int_text, kq_text_none, kq_text_bool, kq_text_int, kq_text_text, kq_list_none, kq_list_bool, kq_list_int, kq_list_text, c, eLst, eTup, eWith, eArgs, eOp1, dNeg, dGet, atI, ixN], hs, by simp [uAny]⟩
    · exact ⟨.str (Str.ofString "ab"), s', by simp [f__law_value, fnD, b__law_value, sSeq, sIf, sOf, eOp, eBind, Rs.bind, eVar, eC, st0, sRet, sSkip, D.truth, fin, iosOf, dEq_str, dEq_int, kq_none_none, kq_none_bool, kq_none_int, kq_none_text, kq_bool_none, kq_bool_bool, kq_bool_int, kq_bool_text, kq_int_none, kq_int_bool, kq_int_int, kq_int_text, kq_text_none, kq_text_bool, kq_text_int, kq_text_text, kq_list_none, kq_list_bool, kq_list_int, kq_list_text, c, eLst, eTup, eWith, eArgs, eOp1, dNeg, dGet, atI, ixN], hs, by simp [uAny]⟩
    · exact ⟨.str (Str.ofString "b"), s', by simp [f__law_value, fnD, b__law_value, sSeq, sIf, sOf, eOp, eBind, Rs.bind, eVar, eC, st0, sRet, sSkip, D.truth, fin, iosOf, dEq_str, dEq_int, kq_none_none, kq_none_bool, kq_none_int, kq_none_text, kq_bool_none, kq_bool_bool, kq_bool_int, kq_bool_text, kq_int_none, kq_int_bool, kq_int_int, kq_int_text, kq_text_none, kq_text_bool, kq_text_int, kq_text_text, kq_list_none, kq_list_bool, kq_list_int, kq_list_text, c, eLst, eTup, eWith, eArgs, eOp1, dNeg, dGet, atI, ixN], hs, by simp [uAny]⟩
  · obtain ⟨r, s', e, hs, h0, h1⟩ := draw h 5 (by omega)
    have c := call_draw (j := 0) (ρ := [some s, some (.str (Str.ofString "list"))]) rfl e
    have hr : r = 0 ∨ r = 1 ∨ r = 2 ∨ r = 3 ∨ r = 4 := by omega
    rcases hr with rfl | rfl | rfl | rfl | rfl
    · exact ⟨.tup [], s', by simp [f__law_value, fnD, b__law_value, sSeq, sIf, sOf, eOp, eBind, Rs.bind, eVar, eC, st0, sRet, sSkip, D.truth, fin, iosOf, dEq_str, dEq_int, kq_none_none, kq_none_bool, kq_none_int, kq_none_text, kq_bool_none, kq_bool_bool, kq_bool_int, kq_bool_text, kq_int_none, kq_int_bool, kq_int_int, kq_int_text, kq_text_none, kq_text_bool, kq_text_int, kq_text_text, kq_list_none, kq_list_bool, kq_list_int, kq_list_text, c, eLst, eTup, eWith, eArgs, eOp1, dNeg, dGet, atI, ixN], hs, by simp [uAny]⟩
    · exact ⟨.tup [.int 0], s', by simp [f__law_value, fnD, b__law_value, sSeq, sIf, sOf, eOp, eBind, Rs.bind, eVar, eC, st0, sRet, sSkip, D.truth, fin, iosOf, dEq_str, dEq_int, kq_none_none, kq_none_bool, kq_none_int, kq_none_text, kq_bool_none, kq_bool_bool, kq_bool_int, kq_bool_text, kq_int_none, kq_int_bool, kq_int_int, kq_int_text, kq_text_none, kq_text_bool, kq_text_int, kq_text_text, kq_list_none, kq_list_bool, kq_list_int, kq_list_text, c, eLst, eTup, eWith, eArgs, eOp1, dNeg, dGet, atI, ixN], hs, by simp [uAny]⟩
    · exact ⟨.tup [], s', by simp [f__law_value, fnD, b__law_value, sSeq, sIf, sOf, eOp, eBind, Rs.bind, eVar, eC, st0, sRet, sSkip, D.truth, fin, iosOf, dEq_str, dEq_int, kq_none_none, kq_none_bool, kq_none_int, kq_none_text, kq_bool_none, kq_bool_bool, kq_bool_int, kq_bool_text, kq_int_none, kq_int_bool, kq_int_int, kq_int_text, kq_text_none, kq_text_bool, kq_text_int, kq_text_text, kq_list_none, kq_list_bool, kq_list_int, kq_list_text, c, eLst, eTup, eWith, eArgs, eOp1, dNeg, dGet, atI, ixN], hs, by simp [uAny]⟩
    · exact ⟨.tup [.int 1, .int 2], s', by simp [f__law_value, fnD, b__law_value, sSeq, sIf, sOf, eOp, eBind, Rs.bind, eVar, eC, st0, sRet, sSkip, D.truth, fin, iosOf, dEq_str, dEq_int, kq_none_none, kq_none_bool, kq_none_int, kq_none_text, kq_bool_none, kq_bool_bool, kq_bool_int, kq_bool_text, kq_int_none, kq_int_bool, kq_int_int, kq_int_text, kq_text_none, kq_text_bool, kq_text_int, kq_text_text, kq_list_none, kq_list_bool, kq_list_int, kq_list_text, c, eLst, eTup, eWith, eArgs, eOp1, dNeg, dGet, atI, ixN], hs, by simp [uAny]⟩
    · exact ⟨.tup [.int 1], s', by simp [f__law_value, fnD, b__law_value, sSeq, sIf, sOf, eOp, eBind, Rs.bind, eVar, eC, st0, sRet, sSkip, D.truth, fin, iosOf, dEq_str, dEq_int, kq_none_none, kq_none_bool, kq_none_int, kq_none_text, kq_bool_none, kq_bool_bool, kq_bool_int, kq_bool_text, kq_int_none, kq_int_bool, kq_int_int, kq_int_text, kq_text_none, kq_text_bool, kq_text_int, kq_text_text, kq_list_none, kq_list_bool, kq_list_int, kq_list_text, c, eLst, eTup, eWith, eArgs, eOp1, dNeg, dGet, atI, ixN], hs, by simp [uAny]⟩
end EV
namespace EV
open PySem PySem.Spec PyProof.Rows L2
theorem any_ok {s : D} (h : Ds s) : ∃ v s', f__law_any [s] = .ok v [(0, s')] ∧ Ds s' ∧ v ∈ uAny := by
  obtain ⟨r, s1, e, hs, h0, h1⟩ := draw h 6 (by omega)
  have c := call_draw (j := 0) (ρ := [some s]) rfl e
  have key : ∃ k, k ∈ uKind ∧ dGet (.lst [.str (Str.ofString "none"), .str (Str.ofString "bool"), .str (Str.ofString "int"), .str (Str.ofString "int"), .str (Str.ofString "text"), .str (Str.ofString "list")]) (.int r) = some (.str k) := by
    have hr : r = 0 ∨ r = 1 ∨ r = 2 ∨ r = 3 ∨ r = 4 ∨ r = 5 := by omega
    rcases hr with rfl | rfl | rfl | rfl | rfl | rfl
    · exact ⟨Str.ofString "none", by simp [uKind], rfl⟩
    · exact ⟨Str.ofString "bool", by simp [uKind], rfl⟩
    · exact ⟨Str.ofString "int", by simp [uKind], rfl⟩
    · exact ⟨Str.ofString "int", by simp [uKind], rfl⟩
    · exact ⟨Str.ofString "text", by simp [uKind], rfl⟩
    · exact ⟨Str.ofString "list", by simp [uKind], rfl⟩
  obtain ⟨k, hk, hg⟩ := key
  obtain ⟨v, s2, e2, hs2, hv⟩ := value_ok hs k hk
  exact ⟨v, s2, by simp [f__law_any, fnD, b__law_any, sOf, eOp, eBind, Rs.bind, eC, st0, sRet, fin, iosOf, eLst, eWith, eArgs, eCall, eArs, fillD, slotsOf, callRes, putIos, e, hg, e2], hs2, hv⟩
def uOdd : List D := [.int 10, .int (-10), .int 9, .int (-9), .str (Str.ofString "abcd"), .str (Str.ofString "A"), .str (Str.ofString "a1"), .tup [.int 1, .int 2, .int 3, .int 4], .tup [.bl true], .tup [.int 10], .tup [.str (Str.ofString "a")], .lst [.int 1], .dct [] [], .int 5, .str (Str.ofString "abc"), .tup [.int 9, .int (-9), .int 0]]
theorem odd_get (r : Int) (h0 : 0 ≤ r) (h1 : r < 16) : ∃ v, dGet (.lst uOdd) (.int r) = some v ∧ v ∈ uOdd := by
  have hr : r = 0 ∨ r = 1 ∨ r = 2 ∨ r = 3 ∨ r = 4 ∨ r = 5 ∨ r = 6 ∨ r = 7 ∨ r = 8 ∨ r = 9 ∨ r = 10 ∨ r = 11 ∨ r = 12 ∨ r = 13 ∨ r = 14 ∨ r = 15 := by omega
  rcases hr with rfl | rfl | rfl | rfl | rfl | rfl | rfl | rfl | rfl | rfl | rfl | rfl | rfl | rfl | rfl | rfl <;> exact ⟨_, rfl, by simp [uOdd]⟩
theorem odd_ok {s : D} (h : Ds s) : ∃ v s', f__law_odd [s] = .ok v [(0, s')] ∧ Ds s' ∧ v ∈ uOdd := by
  obtain ⟨r, s1, e, hs, h0, h1⟩ := draw h 16 (by omega)
  obtain ⟨v, hg, hv⟩ := odd_get r h0 h1
  have e' : f__law_draw [s, .int ((uOdd.length : Nat) : Int)] = .ok (.int r) [(0, s1)] := e
  refine ⟨v, s1, ?_, hs, hv⟩
  have q : sSet 1 (eLst [eC (.int 10), eOp1 dNeg (eC (.int 10)), eC (.int 9), eOp1 dNeg (eC (.int 9)), eC (.str (Str.ofString "abcd")), eC (.str (Str.ofString "A")), eC (.str (Str.ofString "a1")), eTup [eC (.int 1), eC (.int 2), eC (.int 3), eC (.int 4)], eTup [eC (.bl true)], eTup [eC (.int 10)], eTup [eC (.str (Str.ofString "a"))], eLst [eC (.int 1)], eDct0, eC (.int 5), eC (.str (Str.ofString "abc")), eTup [eC (.int 9), eOp1 dNeg (eC (.int 9)), eC (.int 0)]]) [some s, none] = .nx [some s, some (.lst uOdd)] := rfl
  unfold f__law_odd fnD b__law_odd
  show fin _ (sSeq _ _ [some s, none]) = _
  unfold sSeq
  rw [q]
  simp [sOf, eOp, eBind, Rs.bind, eVar, eC, sRet, fin, iosOf, eCall, eArs, fillD, slotsOf, callRes, putIos, eCallB, eWith, eArgs, bLen, e', hg]
/-- both tell the same kind -/
def chk (v : D) : Bool := match f_kind_of [v], f__law_kind [v] with
  | .ok a _, .ok b _ => match f__law_like 6 [a, b] with
    | .ok (.bl true) _ => true
    | _ => false
  | _, _ => false
theorem chk_all : (uOdd ++ uAny).all chk = true := by decide +kernel
end EV
namespace EV
open PySem PySem.Spec PyProof.Rows L2
theorem call_o {f : List D → FOut} {s s' v : D} {j : Nat} {ρ : Rho} (hs : ρ[j]? = some (some s)) (e : f [s] = .ok v [(0, s')]) : eCall f [.o j] ρ = .ok v (ρ.set j (some s')) := by
  simp [eCall, eArs, fillD, slotsOf, callRes, putIos, hs, e]
theorem chk_at {v : D} (h : v ∈ uOdd ++ uAny) : ∃ a b i1 i2 i3, f_kind_of [v] = .ok a i1 ∧ f__law_kind [v] = .ok b i2 ∧ f__law_like 6 [a, b] = .ok (.bl true) i3 := by
  have := List.all_eq_true.mp chk_all v h
  unfold chk at this
  split at this
  · rename_i a i1 b i2 e1 e2
    split at this
    · rename_i i3 e3; exact ⟨a, b, i1, i2, i3, e1, e2, e3⟩
    · cases this
  · cases this
theorem seq_nx {a b : S} {ρ ρ1 : Rho} (h : a ρ = .nx ρ1) : sSeq a b ρ = b ρ1 := by unfold sSeq; simp only [h]
theorem set_nx {f : E} {i : Nat} {ρ ρ1 : Rho} {d : D} (h : f ρ = .ok d ρ1) : sSet i f ρ = .nx (ρ1.set i (some d)) := by unfold sSet sOf; simp only [h]
def body1 : S := sSeq (sSet 3 (eCall f__law_odd [.o 1])) (sSeq (sIf (eOp dEq (eCall f__law_draw [.o 1, .e (eC (.int 2))]) (eC (.int 0))) (sSet 3 (eCall f__law_any [.o 1])) (sSkip)) (sIf (eNot (eCall (f__law_like 6) [.e (eCall f_kind_of [.e (eVar 3)]), .e (eCall f__law_kind [.e (eVar 3)])])) (sRet (eC (.bl false))) (sSkip)))
def J1 (a : Option D) (ρ : Rho) : Prop := ∃ s x2 x3, ρ = [a, some s, x2, x3, none, none, none] ∧ Ds s
theorem test1 {a x2 x4 x5 x6 : Option D} {s v : D} (h : v ∈ uOdd ++ uAny) : sIf (eNot (eCall (f__law_like 6) [.e (eCall f_kind_of [.e (eVar 3)]), .e (eCall f__law_kind [.e (eVar 3)])])) (sRet (eC (.bl false))) (sSkip) [a, some s, x2, some v, x4, x5, x6] = .nx [a, some s, x2, some v, x4, x5, x6] := by
  obtain ⟨k, l, i1, i2, i3, e1, e2, e3⟩ := chk_at h
  simp [sIf, sOf, eNot, eBind, Rs.bind, eCall, eArs, fillD, slotsOf, callRes, putIos, eVar, e1, e2, e3, D.truth, sSkip]
theorem body1_ok {a : Option D} {ρ : Rho} (h : J1 a ρ) : ∃ ρ', body1 ρ = .nx ρ' ∧ J1 a ρ' := by
  obtain ⟨s, x2, x3, rfl, hs⟩ := h
  obtain ⟨v, s1, e1, hs1, hv⟩ := odd_ok hs
  obtain ⟨r, s2, e2, hs2, h0, h1⟩ := draw hs1 2 (by omega)
  have c1 := call_o (j := 1) (ρ := [a, some s, x2, x3, none, none, none]) rfl e1
  have c2 := call_draw (j := 1) (ρ := [a, some s1, x2, some v, none, none, none]) rfl e2
  obtain ⟨v3, s3, e3, hs3, hv3⟩ := any_ok hs2
  have c3 := call_o (j := 1) (ρ := [a, some s2, x2, some v, none, none, none]) rfl e3
  by_cases hr : r = 0
  · subst hr
    refine ⟨[a, some s3, x2, some v3, none, none, none], ?_, s3, x2, some v3, rfl, hs3⟩
    have t := test1 (a := a) (x2 := x2) (x4 := none) (x5 := none) (x6 := none) (s := s3) (v := v3) (by simp [hv3])
    have q : sIf (eOp dEq (eCall f__law_draw [.o 1, .e (eC (.int 2))]) (eC (.int 0))) (sSet 3 (eCall f__law_any [.o 1])) sSkip [a, some s1, x2, some v, none, none, none] = .nx [a, some s3, x2, some v3, none, none, none] := by
      simp [sIf, sOf, eOp, eBind, Rs.bind, c2, eC, dEq_int, D.truth, c3, sSet]
    unfold body1
    rw [seq_nx (set_nx c1)]
    exact (seq_nx q).trans t
  · refine ⟨[a, some s2, x2, some v, none, none, none], ?_, s2, x2, some v, rfl, hs2⟩
    have t := test1 (a := a) (x2 := x2) (x4 := none) (x5 := none) (x6 := none) (s := s2) (v := v) (by simp [hv])
    have hq : (r == 0) = false := by simp [hr]
    have q : sIf (eOp dEq (eCall f__law_draw [.o 1, .e (eC (.int 2))]) (eC (.int 0))) (sSet 3 (eCall f__law_any [.o 1])) sSkip [a, some s1, x2, some v, none, none, none] = .nx [a, some s2, x2, some v, none, none, none] := by
      simp [sIf, sOf, eOp, eBind, Rs.bind, c2, eC, dEq_int, D.truth, hq, sSkip]
    unfold body1
    rw [seq_nx (set_nx c1)]
    exact (seq_nx q).trans t
theorem forL_inv {g : Tg} {b : S} {I : Rho → Prop} (h : ∀ d ρ, I ρ → ∃ ρ1 ρ2, g d ρ = some ρ1 ∧ b ρ1 = .nx ρ2 ∧ I ρ2) : ∀ (ds : List D) (ρ : Rho), I ρ → ∃ ρ', forL g b ds ρ = .nx ρ' ∧ I ρ'
  | [], ρ, hi => ⟨ρ, rfl, hi⟩
  | d :: ds, ρ, hi => by
    obtain ⟨ρ1, ρ2, e1, e2, h2⟩ := h d ρ hi
    obtain ⟨ρ', e, h'⟩ := forL_inv h ds ρ2 h2
    exact ⟨ρ', by unfold forL; simp only [e1, e2]; exact e, h'⟩
theorem loop1 {a : Option D} {ρ : Rho} (h : J1 a ρ) : ∃ ρ', sFor (eRange1 (eC (.int 4))) (tgName 2) body1 ρ = .nx ρ' ∧ J1 a ρ' := by
  obtain ⟨ρ', e, h'⟩ := forL_inv (g := tgName 2) (b := body1) (I := J1 a) (fun d ρ ⟨s, x2, x3, e, hs⟩ => by
    subst e
    obtain ⟨ρ2, e2, h2⟩ := body1_ok (a := a) (ρ := [a, some s, some d, x3, none, none, none]) ⟨s, some d, x3, rfl, hs⟩
    exact ⟨_, ρ2, rfl, e2, h2⟩) (rangeD 0 4) ρ h
  refine ⟨ρ', ?_, h'⟩
  have q : eRange1 (eC (.int 4)) ρ = .ok (.lst (rangeD 0 4)) ρ := by
    unfold eRange1 eBind eC Rs.bind
    simp only
    rw [if_pos (by decide)]
    rfl
  unfold sFor sOf
  simp only [q]
  exact e
end EV
namespace EV
open PySem PySem.Spec PyProof.Rows L2
theorem lcL_inv {vs : List Nat} {g : Tg} {e : E} {U : List D} {I : Rho → Prop} (h : ∀ d ρ, I ρ → ∃ ρ1 y ρ2, g d ρ = some ρ1 ∧ e ρ1 = .ok y ρ2 ∧ y ∈ U ∧ I (wipeR ρ2 vs)) :
    ∀ (ds : List D) (ρ : Rho), I ρ → ∃ ys ρ', lcL vs g (eC (.bl true)) e ds ρ = .ok ys ρ' ∧ ys.length = ds.length ∧ (∀ y ∈ ys, y ∈ U) ∧ I ρ'
  | [], ρ, hi => ⟨[], ρ, rfl, rfl, fun y hy => by simp at hy, hi⟩
  | d :: ds, ρ, hi => by
    obtain ⟨ρ1, y, ρ2, e1, e2, hy, h2⟩ := h d ρ hi
    obtain ⟨ys, ρ', e3, hl, hall, h'⟩ := lcL_inv h ds (wipeR ρ2 vs) h2
    refine ⟨y :: ys, ρ', ?_, by simp [hl], fun z hz => ?_, h'⟩
    · unfold lcL
      simp only [e1, eC, D.truth, e2]
      rw [e3]
    · rcases List.mem_cons.mp hz with rfl | hz
      · exact hy
      · exact hall z hz
theorem comp_ok {e : E} {U : List D} {a x3 x4 : Option D} (he : ∀ s x2, Ds s → ∃ y s', e [a, some s, x2, x3, x4, none, none] = .ok y [a, some s', x2, x3, x4, none, none] ∧ y ∈ U ∧ Ds s') {s : D} {x2 : Option D} (hs : Ds s) :
    ∃ xs s', eLc [2] (eRange1 (eOp dAdd (eC (.int 1)) (eCall f__law_draw [.o 1, .e (eC (.int 6))]))) (tgName 2) (eC (.bl true)) e [a, some s, x2, x3, x4, none, none] = .ok (.lst xs) [a, some s', x2, x3, x4, none, none] ∧ 1 ≤ xs.length ∧ xs.length ≤ 6 ∧ (∀ y ∈ xs, y ∈ U) ∧ Ds s' := by
  obtain ⟨r, s1, e1, hs1, h0, h1⟩ := draw hs 6 (by omega)
  have c1 := call_draw (j := 1) (ρ := [a, some s, x2, x3, x4, none, none]) rfl e1
  have hz : (6 : Int) ≤ (sizeLine : Int) := by decide
  have q : eRange1 (eOp dAdd (eC (.int 1)) (eCall f__law_draw [.o 1, .e (eC (.int 6))])) [a, some s, x2, x3, x4, none, none] = .ok (.lst (rangeD 0 (1 + r).toNat)) [a, some s1, x2, x3, x4, none, none] := by
    have c0 : eOp dAdd (eC (.int 1)) (eCall f__law_draw [.o 1, .e (eC (.int 6))]) [a, some s, x2, x3, x4, none, none] = .ok (.int (1 + r)) [a, some s1, x2, x3, x4, none, none] := by
      simp [eOp, eBind, Rs.bind, eC, c1, dAdd_int]
    unfold eRange1 eBind
    rw [c0]
    unfold Rs.bind
    dsimp only
    rw [if_pos ⟨by omega, by omega⟩]
  obtain ⟨xs, ρ', e2, hl, hall, s2, y2, e3, hs2⟩ := lcL_inv (vs := [2]) (g := tgName 2) (e := e) (U := U) (I := fun ρ => ∃ s x2, ρ = [a, some s, x2, x3, x4, none, none] ∧ Ds s) (fun d ρ ⟨s, x2, eq, hs⟩ => by
    subst eq
    obtain ⟨y, s', e', hy, hs'⟩ := he s (some d) hs
    exact ⟨_, y, _, rfl, e', hy, s', none, rfl, hs'⟩) (rangeD 0 (1 + r).toNat) (wipeR [a, some s1, x2, x3, x4, none, none] [2]) ⟨s1, none, rfl, hs1⟩
  subst e3
  rw [rangeD_len] at hl
  refine ⟨xs, s2, ?_, by omega, by omega, hall, hs2⟩
  unfold eLc
  rw [q]
  dsimp only
  rw [e2]
  rfl
def uInts : List D := (List.range 19).map fun (j : Nat) => D.int ((j : Int) - 9)
def uAll : List D := uAny ++ uInts
theorem ints_mem {r : Int} (h0 : 0 ≤ r) (h1 : r < 19) : D.int (r - 9) ∈ uInts := by
  unfold uInts
  rw [List.mem_map]
  exact ⟨r.toNat, by rw [List.mem_range]; omega, by rw [Int.toNat_of_nonneg h0]⟩
/-- the order of the program and the order of the law -/
def chkP (x y : D) : Bool := match f__law_rank [x], f__law_rank [y], keyD f_rank x, keyD f_rank y with
  | .ok a _, .ok b _, some k, some l => match dLtA a b with
    | some (.bl q) => q == PySem.W.dataLt (pTup k) (pTup l)
    | _ => false
  | _, _, _, _ => false
theorem chkP_all : (uAll.all fun x => uAll.all fun y => chkP x y) = true := by decide +kernel
def chkL (x : D) : Bool := (match f__law_like 6 [x, x] with
  | .ok (.bl true) _ => true
  | _ => false) && x.pl && decide (x.depth ≤ 1) && PyData.eqv x.toP x.toP
theorem chkL_all : uAll.all chkL = true := by decide +kernel
end EV
namespace EV
open PySem PySem.Spec PyProof.Rows L2
theorem pair_at {x y : D} (hx : x ∈ uAll) (hy : y ∈ uAll) : ∃ a b i1 i2 k l, f__law_rank [x] = .ok a i1 ∧ f__law_rank [y] = .ok b i2 ∧ keyD f_rank x = some k ∧ keyD f_rank y = some l ∧ dLtA a b = some (.bl (PySem.W.dataLt (pTup k) (pTup l))) := by
  have h := List.all_eq_true.mp (List.all_eq_true.mp chkP_all x hx) y hy
  unfold chkP at h
  split at h
  · rename_i a i1 b i2 k l e1 e2 e3 e4
    split at h
    · rename_i q e5
      have : q = PySem.W.dataLt (pTup k) (pTup l) := by simpa using h
      subst this
      exact ⟨a, b, i1, i2, k, l, e1, e2, e3, e4, e5⟩
    · cases h
  · cases h
theorem keys_ok : ∀ {xs : List D}, (∀ x ∈ xs, x ∈ uAll) → ∃ ks, keysD f_rank xs = some ks
  | [], _ => ⟨[], rfl⟩
  | x :: r, h => by
    obtain ⟨_, _, _, _, k, _, _, _, e, _, _⟩ := pair_at (h x (by simp)) (h x (by simp))
    obtain ⟨ks, e2⟩ := keys_ok (xs := r) fun y hy => h y (by simp [hy])
    exact ⟨k :: ks, by unfold keysD; rw [e, e2]⟩
theorem lt_self (d : PyData) : PySem.W.dataLt d d = false := PyProof.Rows.lex_irrefl _
def body2 : S := sIf (eOp dLtA (eCall f__law_rank [.e (eVar 3)]) (eCall f__law_rank [.e (eVar 6)])) (sSet 6 (eVar 3)) (sSkip)
theorem body2_ok {a x2 x4 x5 : Option D} {s v b : D} {k l : List Int} (hv : v ∈ uAll) (hb : b ∈ uAll) (ek : keyD f_rank v = some k) (el : keyD f_rank b = some l) :
    body2 [a, some s, x2, some v, x4, x5, some b] = .nx [a, some s, x2, some v, x4, x5, some (if PySem.W.dataLt (pTup k) (pTup l) = true then v else b)] := by
  obtain ⟨p, q, i1, i2, k', l', e1, e2, e3, e4, e5⟩ := pair_at hv hb
  rw [ek] at e3; cases e3
  rw [el] at e4; cases e4
  cases h : PySem.W.dataLt (pTup k) (pTup l) with
  | true =>
    rw [h] at e5
    simp [body2, sIf, sOf, eOp, eBind, Rs.bind, eCall, eArs, fillD, slotsOf, callRes, putIos, eVar, e1, e2, e5, D.truth, sSet]
  | false =>
    rw [h] at e5
    simp [body2, sIf, sOf, eOp, eBind, Rs.bind, eCall, eArs, fillD, slotsOf, callRes, putIos, eVar, e1, e2, e5, D.truth, sSkip]
theorem loop2 {xs : List D} {ks : List (List Int)} (hx : ∀ x ∈ xs, x ∈ uAll) (hk : keysD f_rank xs = some ks) {a x2 x4 x5 : Option D} {s : D} : ∀ (m j : Nat) (x3 : Option D) (b : D), xs.length - j = m → j ≤ xs.length → xs[argBest (btK ks) (j - 1)]? = some b →
    ∃ x3' b', forL (tgName 3) body2 (xs.drop j) [a, some s, x2, x3, x4, x5, some b] = .nx [a, some s, x2, x3', x4, x5, some b'] ∧ xs[argBest (btK ks) (xs.length - 1)]? = some b'
  | 0, j, x3, b, hm, hj, hb => by
    have e : j = xs.length := by omega
    subst e
    exact ⟨x3, b, by rw [List.drop_length]; rfl, hb⟩
  | m + 1, j, x3, b, hm, hj, hb => by
    have hlt : j < xs.length := by omega
    obtain ⟨d, hd⟩ : ∃ d, xs[j]? = some d := ⟨xs[j], by simp [hlt]⟩
    have hdr : xs.drop j = d :: xs.drop (j + 1) := by
      rw [List.drop_eq_getElem_cons hlt]
      have : xs[j] = d := by simpa [hlt] using hd
      rw [this]
    obtain ⟨_, at'⟩ := keysD_at hk
    obtain ⟨k, hk1, hk2⟩ := at' j d hd
    obtain ⟨l, hl1, hl2⟩ := at' _ b hb
    have hv : d ∈ uAll := hx d (List.mem_of_getElem? hd)
    have hbu : b ∈ uAll := hx b (List.mem_of_getElem? hb)
    have e := body2_ok (a := a) (x2 := x2) (x4 := x4) (x5 := x5) (s := s) hv hbu hk2 hl2
    have hnew : xs[argBest (btK ks) j]? = some (if PySem.W.dataLt (pTup k) (pTup l) = true then d else b) := by
      cases j with
      | zero =>
        have h0 : argBest (btK ks) (0 - 1) = 0 := rfl
        rw [h0] at hb hl1
        rw [hd] at hb; cases hb
        rw [hk1] at hl1; cases hl1
        have h1 : argBest (btK ks) 0 = 0 := rfl
        rw [h1, hd, lt_self]
        rfl
      | succ i =>
        have hb' : xs[argBest (btK ks) i]? = some b := hb
        have hl1' : ks[argBest (btK ks) i]? = some l := hl1
        have hbt : btK ks (i + 1) (argBest (btK ks) i) = PySem.W.dataLt (pTup k) (pTup l) := by
          show PySem.W.dataLt (pTup (ks.getD (i + 1) [])) (pTup (ks.getD (argBest (btK ks) i) [])) = _
          rw [getD_of hk1, getD_of hl1']
        show xs[if btK ks (i + 1) (argBest (btK ks) i) then i + 1 else argBest (btK ks) i]? = _
        rw [hbt]
        cases PySem.W.dataLt (pTup k) (pTup l) with
        | true => simpa using hd
        | false => simpa using hb'
    obtain ⟨x3', b', e2, h2⟩ := loop2 hx hk (a := a) (x2 := x2) (x4 := x4) (x5 := x5) (s := s) m (j + 1) (some d) _ (by omega) hlt (by simpa using hnew)
    refine ⟨x3', b', ?_, h2⟩
    rw [hdr]
    unfold forL
    have g : tgName 3 d [a, some s, x2, x3, x4, x5, some b] = some [a, some s, x2, some d, x4, x5, some b] := rfl
    simp only [g, e]
    exact e2
end EV
namespace EV
open PySem PySem.Spec PyProof.Rows L2
theorem chkL_at {x : D} (h : x ∈ uAll) : (∃ i, f__law_like 6 [x, x] = .ok (.bl true) i) ∧ x.pl = true ∧ x.depth ≤ 1 ∧ PyData.eqv x.toP x.toP = true := by
  have := List.all_eq_true.mp chkL_all x h
  unfold chkL at this
  simp only [Bool.and_eq_true, decide_eq_true_eq] at this
  obtain ⟨⟨⟨h1, h2⟩, h3⟩, h4⟩ := this
  refine ⟨?_, h2, h3, h4⟩
  split at h1
  · rename_i i e; exact ⟨i, e⟩
  · cases h1
theorem fit_all : ∀ {xs : List D}, (∀ x ∈ xs, x ∈ uAll) → D.plL xs = true ∧ D.depthL xs ≤ 1 ∧ PyData.eqvAll (D.toPL xs) (D.toPL xs) = true
  | [], _ => ⟨rfl, by decide, by simp [D.toPL, PyData.eqvAll]⟩
  | x :: r, h => by
    obtain ⟨_, h2, h3, h4⟩ := chkL_at (h x (by simp))
    obtain ⟨g2, g3, g4⟩ := fit_all (xs := r) fun y hy => h y (by simp [hy])
    exact ⟨by simp [D.plL, h2, g2], by simp only [D.depthL]; omega, by simp [D.toPL, PyData.eqvAll, h4, g4]⟩
theorem eq_self {xs : List D} (h : ∀ x ∈ xs, x ∈ uAll) : dEq (.lst xs) (.lst xs) = some (.bl true) := by
  obtain ⟨h2, h3, h4⟩ := fit_all h
  have f : D.fit (.lst xs) (.lst xs) = true := by
    have p1 : (D.lst xs).pl = true := by simp [D.pl, h2]
    have p2 : (D.lst xs).depth = D.depthL xs + 1 := by simp [D.depth]
    unfold D.fit
    rw [p1, p2, Nat.min_self]
    simp
    omega
  have e : D.eqv (.lst xs) (.lst xs) = true := by simp [D.eqv, D.toP, PyData.eqv, h4]
  unfold dEq
  rw [if_pos f, e]
theorem least_ok {xs : List D} {ks : List (List Int)} {b : D} (hk : keysD f_rank xs = some ks) (hb : xs[argBest (btK ks) (xs.length - 1)]? = some b) : f_least [.lst xs] = .ok b [] := by
  simp [f_least, fnD, b_least, sRet, sOf, eMinKey, eBind, Rs.bind, eVar, st0, hk, hb, fin, iosOf, sig0]
def tail1 : S := sSeq (sSet 5 (eCallB bList [eVar 4])) (sSeq (sSet 6 (eOp dGet (eVar 4) (eC (.int 0)))) (sSeq (sFor (eIter (eVar 4)) (tgName 3) body2) (sRet (eAnd (eCall (f__law_like 6) [.e (eCall f_least [.e (eVar 5)]), .e (eVar 6)]) (eOp dEq (eVar 5) (eVar 4))))))
theorem tail_ok {a x2 x3 : Option D} {s : D} {xs : List D} (h1 : 1 ≤ xs.length) (hx : ∀ x ∈ xs, x ∈ uAll) : ∃ ρ', tail1 [a, some s, x2, x3, some (.lst xs), none, none] = .rt (.bl true) ρ' := by
  obtain ⟨ks, hk⟩ := keys_ok hx
  obtain ⟨x0, hx0⟩ : ∃ x, xs[0]? = some x := ⟨xs[0], by simp [h1]⟩
  obtain ⟨x3', b, el, hb⟩ := loop2 hx hk (a := a) (x2 := x2) (x4 := some (.lst xs)) (x5 := some (.lst xs)) (s := s) xs.length 0 x3 x0 (by omega) (by omega) hx0
  have hbu : b ∈ uAll := hx b (List.mem_of_getElem? hb)
  obtain ⟨i, hlk⟩ := (chkL_at hbu).1
  have hle := least_ok hk hb
  have hg : dGet (.lst xs) (.int 0) = some x0 := by
    unfold dGet atI
    have e : ixN xs.length 0 = some 0 := by
      unfold ixN
      rw [if_pos (by decide), if_pos (by omega)]
      rfl
    simp [e, hx0]
  refine ⟨[a, some s, x2, x3', some (.lst xs), some (.lst xs), some b], ?_⟩
  unfold tail1
  have q1 : eCallB bList [eVar 4] [a, some s, x2, x3, some (.lst xs), none, none] = .ok (.lst xs) [a, some s, x2, x3, some (.lst xs), none, none] := by
    simp [eCallB, eWith, eArgs, eVar, bList]
  have q2 : eOp dGet (eVar 4) (eC (.int 0)) [a, some s, x2, x3, some (.lst xs), some (.lst xs), none] = .ok x0 [a, some s, x2, x3, some (.lst xs), some (.lst xs), none] := by
    simp [eOp, eBind, Rs.bind, eVar, eC, hg]
  have q3 : sFor (eIter (eVar 4)) (tgName 3) body2 [a, some s, x2, x3, some (.lst xs), some (.lst xs), some x0] = .nx [a, some s, x2, x3', some (.lst xs), some (.lst xs), some b] := by
    have el' : forL (tgName 3) body2 xs [a, some s, x2, x3, some (.lst xs), some (.lst xs), some x0] = .nx [a, some s, x2, x3', some (.lst xs), some (.lst xs), some b] := by simpa using el
    simp [sFor, sOf, eIter, eBind, Rs.bind, eVar, D.items, el']
  rw [seq_nx (set_nx q1)]
  refine (seq_nx (set_nx q2)).trans ?_
  refine (seq_nx q3).trans ?_
  simp [sRet, sOf, eAnd, eOp, eBind, Rs.bind, eCall, eArgs, eArs, fillD, slotsOf, callRes, putIos, eVar, hle, hlk, D.truth, eq_self hx]
theorem any_mem {x : D} (h : x ∈ uAny) : x ∈ uAll := List.mem_append_left _ h
theorem begin_ok (L : List D) (ρ : Rho) (h : ρ[0]? = some (some (.lst L))) : eCall f__law_begin [.e (eVar 0)] ρ = .ok (.lst [.lst L, .int 0, .int 0, .int 7]) ρ := by
  have e : f__law_begin [.lst L] = .ok (.lst [.lst L, .int 0, .int 0, .int 7]) [] := rfl
  simp [eCall, eArs, fillD, slotsOf, callRes, putIos, eVar, h, e]
theorem main (ns : List Int) (hns : ns.length ≤ 63) : ∃ ios, f_law [.lst (ns.map D.int)] = .ok (.bl true) ios := by
  have c0 := begin_ok (ns.map D.int) [some (.lst (ns.map D.int)), none, none, none, none, none, none] rfl
  obtain ⟨ρ1, l1, s1, x2, x3, rfl, hs1⟩ := loop1 (a := some (.lst (ns.map D.int))) (ρ := [some (.lst (ns.map D.int)), some (dSt ns 0 0 7), none, none, none, none, none]) ⟨_, none, none, rfl, ⟨ns, 0, 0, 7, rfl, by omega⟩⟩
  obtain ⟨xs, s2, c2, hl1, hl6, hx, hs2⟩ := comp_ok (e := eCall f__law_any [.o 1]) (U := uAny) (a := some (.lst (ns.map D.int))) (x3 := x3) (x4 := none) (fun s x2 hs => by
    obtain ⟨v, s', e, hs', hv⟩ := any_ok hs
    exact ⟨v, s', call_o (j := 1) rfl e, hv, hs'⟩) (x2 := x2) hs1
  obtain ⟨r, s3, e3, hs3, h0, h1⟩ := draw hs2 3 (by omega)
  have c3 := call_draw (j := 1) (ρ := [some (.lst (ns.map D.int)), some s2, x2, x3, some (.lst xs), none, none]) rfl e3
  have fin1 : ∃ s4 ys, 1 ≤ ys.length ∧ (∀ y ∈ ys, y ∈ uAll) ∧ sIf (eOp dEq (eCall f__law_draw [.o 1, .e (eC (.int 3))]) (eC (.int 0))) (sSet 4 (eLc [2] (eRange1 (eOp dAdd (eC (.int 1)) (eCall f__law_draw [.o 1, .e (eC (.int 6))]))) (tgName 2) (eC (.bl true)) (eOp dSub (eCall f__law_draw [.o 1, .e (eC (.int 19))]) (eC (.int 9))))) (sSkip) [some (.lst (ns.map D.int)), some s2, x2, x3, some (.lst xs), none, none] = .nx [some (.lst (ns.map D.int)), some s4, x2, x3, some (.lst ys), none, none] := by
    by_cases hr : r = 0
    · subst hr
      obtain ⟨ys, s4, c4, hl, _, hy, hs4⟩ := comp_ok (e := eOp dSub (eCall f__law_draw [.o 1, .e (eC (.int 19))]) (eC (.int 9))) (U := uInts) (a := some (.lst (ns.map D.int))) (x3 := x3) (x4 := some (.lst xs)) (fun s x2 hs => by
        obtain ⟨r, s', e, hs', g0, g1⟩ := draw hs 19 (by omega)
        have c := call_draw (j := 1) (ρ := [some (.lst (ns.map D.int)), some s, x2, x3, some (.lst xs), none, none]) rfl e
        exact ⟨.int (r - 9), s', by simp [eOp, eBind, Rs.bind, eC, c, dSub_int], ints_mem g0 g1, hs'⟩) (x2 := x2) hs3
      refine ⟨s4, ys, hl, fun y h => List.mem_append_right _ (hy y h), ?_⟩
      have c5 := set_nx (i := 4) c4
      have q : eOp dEq (eCall f__law_draw [.o 1, .e (eC (.int 3))]) (eC (.int 0)) [some (.lst (ns.map D.int)), some s2, x2, x3, some (.lst xs), none, none] = .ok (.bl true) [some (.lst (ns.map D.int)), some s3, x2, x3, some (.lst xs), none, none] := by
        simp [eOp, eBind, Rs.bind, eC, c3, dEq_int]
      unfold sIf sOf
      rw [q]
      exact c5
    · have hq : (r == 0) = false := by simp [hr]
      refine ⟨s3, xs, hl1, fun y h => any_mem (hx y h), ?_⟩
      simp [sIf, sOf, eOp, eBind, Rs.bind, eC, c3, dEq_int, hq, D.truth, sSkip]
  obtain ⟨s4, ys, hl, hy, c4⟩ := fin1
  obtain ⟨ρ', ht⟩ := tail_ok (a := some (.lst (ns.map D.int))) (x2 := x2) (x3 := x3) (s := s4) hl hy
  have all : b_law [some (.lst (ns.map D.int)), none, none, none, none, none, none] = .rt (.bl true) ρ' := by
    unfold b_law
    refine (seq_nx (set_nx c0)).trans ?_
    refine (seq_nx l1).trans ?_
    refine (seq_nx (set_nx c2)).trans ?_
    refine (seq_nx c4).trans ?_
    exact ht
  refine ⟨[], ?_⟩
  have e : st0 7 [D.lst (ns.map D.int)] = [some (.lst (ns.map D.int)), none, none, none, none, none, none] := by simp [st0]
  unfold f_law fnD
  rw [e, all]
  rfl
end EV
namespace EV
open PySem PySem.Spec PyProof.Rows L2
theorem all_mk {w : World} {K : PySem.W.Frag} {h : Heap} {mg : Str → Option Value} {fa : Addr} (X : K.In h) (G : h.Ns mainGlobals mg) (hfa : mg "law" = some (.ref fa))
    {f0 : Addr} {od0 an0 : Option Addr} {sl0 : Array (Option Value)} {oc0 kV0 dc0 pm0 cd0 ct0 : Value}
    {f1 : Addr} {od1 an1 : Option Addr} {sl1 : Array (Option Value)} {oc1 kV1 dc1 pm1 cd1 ct1 : Value}
    {f2 : Addr} {od2 an2 : Option Addr} {sl2 : Array (Option Value)} {oc2 kV2 dc2 pm2 cd2 ct2 : Value}
    {f3 : Addr} {od3 an3 : Option Addr} {sl3 : Array (Option Value)} {oc3 kV3 dc3 pm3 cd3 ct3 : Value}
    {f4 : Addr} {od4 an4 : Option Addr} {sl4 : Array (Option Value)} {oc4 kV4 dc4 pm4 cd4 ct4 : Value}
    {f5 : Addr} {od5 an5 : Option Addr} {sl5 : Array (Option Value)} {oc5 kV5 dc5 pm5 cd5 ct5 : Value}
    {f6 : Addr} {od6 an6 : Option Addr} {sl6 : Array (Option Value)} {oc6 kV6 dc6 pm6 cd6 ct6 : Value}
    {f7 : Addr} {od7 an7 : Option Addr} {sl7 : Array (Option Value)} {oc7 kV7 dc7 pm7 cd7 ct7 : Value}
    {f8 : Addr} {od8 an8 : Option Addr} {sl8 : Array (Option Value)} {oc8 kV8 dc8 pm8 cd8 ct8 : Value}
    {f9 : Addr} {od9 an9 : Option Addr} {sl9 : Array (Option Value)} {oc9 kV9 dc9 pm9 cd9 ct9 : Value}
    {f10 : Addr} {od10 an10 : Option Addr} {sl10 : Array (Option Value)} {oc10 kV10 dc10 pm10 cd10 ct10 : Value}
    {f11 : Addr} {od11 an11 : Option Addr} {sl11 : Array (Option Value)} {oc11 kV11 dc11 pm11 cd11 ct11 : Value}
    {f12 : Addr} {od12 an12 : Option Addr} {sl12 : Array (Option Value)} {oc12 kV12 dc12 pm12 cd12 ct12 : Value}
    {f13 : Addr} {od13 an13 : Option Addr} {sl13 : Array (Option Value)} {oc13 kV13 dc13 pm13 cd13 ct13 : Value}
    {f14 : Addr} {od14 an14 : Option Addr} {sl14 : Array (Option Value)} {oc14 kV14 dc14 pm14 cd14 ct14 : Value}
    {f15 : Addr} {od15 an15 : Option Addr} {sl15 : Array (Option Value)} {oc15 kV15 dc15 pm15 cd15 ct15 : Value}
    {f16 : Addr} {od16 an16 : Option Addr} {sl16 : Array (Option Value)} {oc16 kV16 dc16 pm16 cd16 ct16 : Value}
    {t_GREATEST : Tok}
    {t_LETTERS : Tok}
    {t_LONGEST : Tok}
    (a0 : PySem.W.nsIn K mainGlobals "is_int" = some (some (.ref f0)))
    (l0 : K.lookup f0 = some ⟨oc0, od0, .func (PySem.W.fnOf "is_int" "is_int" (defArgs s_is_int) (defBody s_is_int) (defScope s_is_int) .none kV0 dc0 pm0 an0 cd0 ct0), sl0⟩)
    (c0 : PySem.W.codeIn K cd0 "is_int" = true) (k0 : PySem.W.keepIn K (.ref f0) = true)
    (a1 : PySem.W.nsIn K mainGlobals "is_text" = some (some (.ref f1)))
    (l1 : K.lookup f1 = some ⟨oc1, od1, .func (PySem.W.fnOf "is_text" "is_text" (defArgs s_is_text) (defBody s_is_text) (defScope s_is_text) .none kV1 dc1 pm1 an1 cd1 ct1), sl1⟩)
    (c1 : PySem.W.codeIn K cd1 "is_text" = true) (k1 : PySem.W.keepIn K (.ref f1) = true)
    (a2 : PySem.W.nsIn K mainGlobals "kind_of" = some (some (.ref f2)))
    (l2 : K.lookup f2 = some ⟨oc2, od2, .func (PySem.W.fnOf "kind_of" "kind_of" (defArgs s_kind_of) (defBody s_kind_of) (defScope s_kind_of) .none kV2 dc2 pm2 an2 cd2 ct2), sl2⟩)
    (c2 : PySem.W.codeIn K cd2 "kind_of" = true) (k2 : PySem.W.keepIn K (.ref f2) = true)
    (a3 : PySem.W.nsIn K mainGlobals "int_rank" = some (some (.ref f3)))
    (l3 : K.lookup f3 = some ⟨oc3, od3, .func (PySem.W.fnOf "int_rank" "int_rank" (defArgs s_int_rank) (defBody s_int_rank) (defScope s_int_rank) .none kV3 dc3 pm3 an3 cd3 ct3), sl3⟩)
    (c3 : PySem.W.codeIn K cd3 "int_rank" = true) (k3 : PySem.W.keepIn K (.ref f3) = true)
    (a4 : PySem.W.nsIn K mainGlobals "rank" = some (some (.ref f4)))
    (l4 : K.lookup f4 = some ⟨oc4, od4, .func (PySem.W.fnOf "rank" "rank" (defArgs s_rank) (defBody s_rank) (defScope s_rank) .none kV4 dc4 pm4 an4 cd4 ct4), sl4⟩)
    (c4 : PySem.W.codeIn K cd4 "rank" = true) (k4 : PySem.W.keepIn K (.ref f4) = true)
    (a5 : PySem.W.nsIn K mainGlobals "least" = some (some (.ref f5)))
    (l5 : K.lookup f5 = some ⟨oc5, od5, .func (PySem.W.fnOf "least" "least" (defArgs s_least) (defBody s_least) (defScope s_least) .none kV5 dc5 pm5 an5 cd5 ct5), sl5⟩)
    (c5 : PySem.W.codeIn K cd5 "least" = true) (k5 : PySem.W.keepIn K (.ref f5) = true)
    (a6 : PySem.W.nsIn K mainGlobals "_law_begin" = some (some (.ref f6)))
    (l6 : K.lookup f6 = some ⟨oc6, od6, .func (PySem.W.fnOf "_law_begin" "_law_begin" (defArgs s__law_begin) (defBody s__law_begin) (defScope s__law_begin) .none kV6 dc6 pm6 an6 cd6 ct6), sl6⟩)
    (c6 : PySem.W.codeIn K cd6 "_law_begin" = true) (k6 : PySem.W.keepIn K (.ref f6) = true)
    (a7 : PySem.W.nsIn K mainGlobals "_law_draw" = some (some (.ref f7)))
    (l7 : K.lookup f7 = some ⟨oc7, od7, .func (PySem.W.fnOf "_law_draw" "_law_draw" (defArgs s__law_draw) (defBody s__law_draw) (defScope s__law_draw) .none kV7 dc7 pm7 an7 cd7 ct7), sl7⟩)
    (c7 : PySem.W.codeIn K cd7 "_law_draw" = true) (k7 : PySem.W.keepIn K (.ref f7) = true)
    (a8 : PySem.W.nsIn K mainGlobals "_law_value" = some (some (.ref f8)))
    (l8 : K.lookup f8 = some ⟨oc8, od8, .func (PySem.W.fnOf "_law_value" "_law_value" (defArgs s__law_value) (defBody s__law_value) (defScope s__law_value) .none kV8 dc8 pm8 an8 cd8 ct8), sl8⟩)
    (c8 : PySem.W.codeIn K cd8 "_law_value" = true) (k8 : PySem.W.keepIn K (.ref f8) = true)
    (a9 : PySem.W.nsIn K mainGlobals "_law_any" = some (some (.ref f9)))
    (l9 : K.lookup f9 = some ⟨oc9, od9, .func (PySem.W.fnOf "_law_any" "_law_any" (defArgs s__law_any) (defBody s__law_any) (defScope s__law_any) .none kV9 dc9 pm9 an9 cd9 ct9), sl9⟩)
    (c9 : PySem.W.codeIn K cd9 "_law_any" = true) (k9 : PySem.W.keepIn K (.ref f9) = true)
    (a10 : PySem.W.nsIn K mainGlobals "_law_number" = some (some (.ref f10)))
    (l10 : K.lookup f10 = some ⟨oc10, od10, .func (PySem.W.fnOf "_law_number" "_law_number" (defArgs s__law_number) (defBody s__law_number) (defScope s__law_number) .none kV10 dc10 pm10 an10 cd10 ct10), sl10⟩)
    (c10 : PySem.W.codeIn K cd10 "_law_number" = true) (k10 : PySem.W.keepIn K (.ref f10) = true)
    (a11 : PySem.W.nsIn K mainGlobals "_law_rank" = some (some (.ref f11)))
    (l11 : K.lookup f11 = some ⟨oc11, od11, .func (PySem.W.fnOf "_law_rank" "_law_rank" (defArgs s__law_rank) (defBody s__law_rank) (defScope s__law_rank) .none kV11 dc11 pm11 an11 cd11 ct11), sl11⟩)
    (c11 : PySem.W.codeIn K cd11 "_law_rank" = true) (k11 : PySem.W.keepIn K (.ref f11) = true)
    (a12 : PySem.W.nsIn K mainGlobals "_law_like" = some (some (.ref f12)))
    (l12 : K.lookup f12 = some ⟨oc12, od12, .func (PySem.W.fnOf "_law_like" "_law_like" (defArgs s__law_like) (defBody s__law_like) (defScope s__law_like) .none kV12 dc12 pm12 an12 cd12 ct12), sl12⟩)
    (c12 : PySem.W.codeIn K cd12 "_law_like" = true) (k12 : PySem.W.keepIn K (.ref f12) = true)
    (a13 : PySem.W.nsIn K mainGlobals "_law_odd" = some (some (.ref f13)))
    (l13 : K.lookup f13 = some ⟨oc13, od13, .func (PySem.W.fnOf "_law_odd" "_law_odd" (defArgs s__law_odd) (defBody s__law_odd) (defScope s__law_odd) .none kV13 dc13 pm13 an13 cd13 ct13), sl13⟩)
    (c13 : PySem.W.codeIn K cd13 "_law_odd" = true) (k13 : PySem.W.keepIn K (.ref f13) = true)
    (a14 : PySem.W.nsIn K mainGlobals "_law_int_good" = some (some (.ref f14)))
    (l14 : K.lookup f14 = some ⟨oc14, od14, .func (PySem.W.fnOf "_law_int_good" "_law_int_good" (defArgs s__law_int_good) (defBody s__law_int_good) (defScope s__law_int_good) .none kV14 dc14 pm14 an14 cd14 ct14), sl14⟩)
    (c14 : PySem.W.codeIn K cd14 "_law_int_good" = true) (k14 : PySem.W.keepIn K (.ref f14) = true)
    (a15 : PySem.W.nsIn K mainGlobals "_law_kind" = some (some (.ref f15)))
    (l15 : K.lookup f15 = some ⟨oc15, od15, .func (PySem.W.fnOf "_law_kind" "_law_kind" (defArgs s__law_kind) (defBody s__law_kind) (defScope s__law_kind) .none kV15 dc15 pm15 an15 cd15 ct15), sl15⟩)
    (c15 : PySem.W.codeIn K cd15 "_law_kind" = true) (k15 : PySem.W.keepIn K (.ref f15) = true)
    (a16 : PySem.W.nsIn K mainGlobals "law" = some (some (.ref f16)))
    (l16 : K.lookup f16 = some ⟨oc16, od16, .func (PySem.W.fnOf "law" "law" (defArgs s_law) (defBody s_law) (defScope s_law) .none kV16 dc16 pm16 an16 cd16 ct16), sl16⟩)
    (c16 : PySem.W.codeIn K cd16 "law" = true) (k16 : PySem.W.keepIn K (.ref f16) = true)
    (zb_abs : PySem.W.nsIn K mainGlobals "abs" = some none)
    (zb_all : PySem.W.nsIn K mainGlobals "all" = some none)
    (zb_any : PySem.W.nsIn K mainGlobals "any" = some none)
    (zb_bool : PySem.W.nsIn K mainGlobals "bool" = some none)
    (zb_dict : PySem.W.nsIn K mainGlobals "dict" = some none)
    (zb_int : PySem.W.nsIn K mainGlobals "int" = some none)
    (zb_isinstance : PySem.W.nsIn K mainGlobals "isinstance" = some none)
    (zb_len : PySem.W.nsIn K mainGlobals "len" = some none)
    (zb_list : PySem.W.nsIn K mainGlobals "list" = some none)
    (zb_min : PySem.W.nsIn K mainGlobals "min" = some none)
    (zb_range : PySem.W.nsIn K mainGlobals "range" = some none)
    (zb_str : PySem.W.nsIn K mainGlobals "str" = some none)
    (zb_tuple : PySem.W.nsIn K mainGlobals "tuple" = some none)
    (zc_GREATEST : PySem.W.nsIn K mainGlobals "GREATEST" = some (some (.int 9 t_GREATEST)))
    (zc_LETTERS : PySem.W.nsIn K mainGlobals "LETTERS" = some (some (.str (Str.ofString "abcdefghijklmnopqrstuvwxyz") t_LETTERS)))
    (zc_LONGEST : PySem.W.nsIn K mainGlobals "LONGEST" = some (some (.int 3 t_LONGEST)))
    : ∃ fd : FuncData, (∀ (s : Shared) (v : Value), BindsTo s fd ⟨[v], []⟩ [("_law_script", v)]) ∧ ∀ base : Heap, K.In base → base.Ns mainGlobals mg → FnOk PySem.Challenge.rw_eithertruth_k01_kinds_and_order.prog w K mg base (L2.CX PySem.Challenge.rw_eithertruth_k01_kinds_and_order.prog w) 8 fa fd ["_law_script"] (spTrue K) := by
  have e := hfa.symm.trans (PySem.W.mg_of X G a16)
  cases e
  have T : TX K mg := {
    b_abs := PySem.W.mg_none_of X G zb_abs,
    b_all := PySem.W.mg_none_of X G zb_all,
    b_any := PySem.W.mg_none_of X G zb_any,
    b_bool := PySem.W.mg_none_of X G zb_bool,
    b_dict := PySem.W.mg_none_of X G zb_dict,
    b_int := PySem.W.mg_none_of X G zb_int,
    b_isinstance := PySem.W.mg_none_of X G zb_isinstance,
    b_len := PySem.W.mg_none_of X G zb_len,
    b_list := PySem.W.mg_none_of X G zb_list,
    b_min := PySem.W.mg_none_of X G zb_min,
    b_range := PySem.W.mg_none_of X G zb_range,
    b_str := PySem.W.mg_none_of X G zb_str,
    b_tuple := PySem.W.mg_none_of X G zb_tuple,
    c_GREATEST := ⟨_, PySem.W.mg_of X G zc_GREATEST⟩,
    c_LETTERS := ⟨_, PySem.W.mg_of X G zc_LETTERS⟩,
    c_LONGEST := ⟨_, PySem.W.mg_of X G zc_LONGEST⟩,
    d_is_int := defAt_mk X G a0 (fun_mk (st := s_is_int) l0 c0 k0) ((fun_mk (st := s_is_int) l0 c0 k0).binds (ps := ["value"]) fun _ _ _ _ _ _ us hl => match us, hl with | [_], _ => rfl),
    d_is_text := defAt_mk X G a1 (fun_mk (st := s_is_text) l1 c1 k1) ((fun_mk (st := s_is_text) l1 c1 k1).binds (ps := ["value", "least", "most"]) fun _ _ _ _ _ _ us hl => match us, hl with | [_, _, _], _ => rfl),
    d_kind_of := defAt_mk X G a2 (fun_mk (st := s_kind_of) l2 c2 k2) ((fun_mk (st := s_kind_of) l2 c2 k2).binds (ps := ["value"]) fun _ _ _ _ _ _ us hl => match us, hl with | [_], _ => rfl),
    d_int_rank := defAt_mk X G a3 (fun_mk (st := s_int_rank) l3 c3 k3) ((fun_mk (st := s_int_rank) l3 c3 k3).binds (ps := ["number"]) fun _ _ _ _ _ _ us hl => match us, hl with | [_], _ => rfl),
    d_rank := defAt_mk X G a4 (fun_mk (st := s_rank) l4 c4 k4) ((fun_mk (st := s_rank) l4 c4 k4).binds (ps := ["value"]) fun _ _ _ _ _ _ us hl => match us, hl with | [_], _ => rfl),
    d_least := defAt_mk X G a5 (fun_mk (st := s_least) l5 c5 k5) ((fun_mk (st := s_least) l5 c5 k5).binds (ps := ["values"]) fun _ _ _ _ _ _ us hl => match us, hl with | [_], _ => rfl),
    d__law_begin := defAt_mk X G a6 (fun_mk (st := s__law_begin) l6 c6 k6) ((fun_mk (st := s__law_begin) l6 c6 k6).binds (ps := ["_law_script"]) fun _ _ _ _ _ _ us hl => match us, hl with | [_], _ => rfl),
    d__law_draw := defAt_mk X G a7 (fun_mk (st := s__law_draw) l7 c7 k7) ((fun_mk (st := s__law_draw) l7 c7 k7).binds (ps := ["_law_draws", "_law_many"]) fun _ _ _ _ _ _ us hl => match us, hl with | [_, _], _ => rfl),
    d__law_value := defAt_mk X G a8 (fun_mk (st := s__law_value) l8 c8 k8) ((fun_mk (st := s__law_value) l8 c8 k8).binds (ps := ["_law_draws", "_law_kind_here"]) fun _ _ _ _ _ _ us hl => match us, hl with | [_, _], _ => rfl),
    d__law_any := defAt_mk X G a9 (fun_mk (st := s__law_any) l9 c9 k9) ((fun_mk (st := s__law_any) l9 c9 k9).binds (ps := ["_law_draws"]) fun _ _ _ _ _ _ us hl => match us, hl with | [_], _ => rfl),
    d__law_number := defAt_mk X G a10 (fun_mk (st := s__law_number) l10 c10 k10) ((fun_mk (st := s__law_number) l10 c10 k10).binds (ps := ["_law_value_here"]) fun _ _ _ _ _ _ us hl => match us, hl with | [_], _ => rfl),
    d__law_rank := defAt_mk X G a11 (fun_mk (st := s__law_rank) l11 c11 k11) ((fun_mk (st := s__law_rank) l11 c11 k11).binds (ps := ["_law_value_here"]) fun _ _ _ _ _ _ us hl => match us, hl with | [_], _ => rfl),
    d__law_like := defAt_mk X G a12 (fun_mk (st := s__law_like) l12 c12 k12) ((fun_mk (st := s__law_like) l12 c12 k12).binds (ps := ["_law_actual", "_law_due"]) fun _ _ _ _ _ _ us hl => match us, hl with | [_, _], _ => rfl),
    d__law_odd := defAt_mk X G a13 (fun_mk (st := s__law_odd) l13 c13 k13) ((fun_mk (st := s__law_odd) l13 c13 k13).binds (ps := ["_law_draws"]) fun _ _ _ _ _ _ us hl => match us, hl with | [_], _ => rfl),
    d__law_int_good := defAt_mk X G a14 (fun_mk (st := s__law_int_good) l14 c14 k14) ((fun_mk (st := s__law_int_good) l14 c14 k14).binds (ps := ["_law_value_here"]) fun _ _ _ _ _ _ us hl => match us, hl with | [_], _ => rfl),
    d__law_kind := defAt_mk X G a15 (fun_mk (st := s__law_kind) l15 c15 k15) ((fun_mk (st := s__law_kind) l15 c15 k15).binds (ps := ["_law_value_here"]) fun _ _ _ _ _ _ us hl => match us, hl with | [_], _ => rfl) }
  have FL := fun_mk (st := s_law) l16 c16 k16
  exact ⟨_, fun s v => .of_eq rfl, fun base _ _ => law_imp main (ok_law T FL)⟩
end EV
open PySem PySem.W PyProof.Rows
set_option maxRecDepth 100000 in
set_option maxHeartbeats 0 in
theorem PySem.Challenge.cw_eithertruth_k01_kinds_and_order_holds : PySem.Challenge.rw_eithertruth_k01_kinds_and_order.Holds := by
  w_on; o_law; k_head; (case hw => w_witness2)
  k_fill
  refine L2.walk_of (l := PySem.Challenge.rw_eithertruth_k01_kinds_and_order) (n := 63) (k := 8) (x := "_law_script") (CX := fun w => L2.CX PySem.Challenge.rw_eithertruth_k01_kinds_and_order.prog w) (sp := fun w => EV.spTrue _) rfl (by decide) rfl ⟨rfl, by decide, by decide⟩ (fun w h Y => PySem.W.kIn_of Y) ?F (fun _ _ a ns hl _ hS => ⟨a, ns, rfl, hS, hl, fun _ => rfl⟩) (fun _ _ _ _ _ z => EV.cx_false z)
  case F =>
    intro w mg fa h KX G hmg
    refine' EV.all_mk KX G hmg ?a0 ?l0 ?c0 ?k0 ?a1 ?l1 ?c1 ?k1 ?a2 ?l2 ?c2 ?k2 ?a3 ?l3 ?c3 ?k3 ?a4 ?l4 ?c4 ?k4 ?a5 ?l5 ?c5 ?k5 ?a6 ?l6 ?c6 ?k6 ?a7 ?l7 ?c7 ?k7 ?a8 ?l8 ?c8 ?k8 ?a9 ?l9 ?c9 ?k9 ?a10 ?l10 ?c10 ?k10 ?a11 ?l11 ?c11 ?k11 ?a12 ?l12 ?c12 ?k12 ?a13 ?l13 ?c13 ?k13 ?a14 ?l14 ?c14 ?k14 ?a15 ?l15 ?c15 ?k15 ?a16 ?l16 ?c16 ?k16 ?zb_abs ?zb_all ?zb_any ?zb_bool ?zb_dict ?zb_int ?zb_isinstance ?zb_len ?zb_list ?zb_min ?zb_range ?zb_str ?zb_tuple ?zc_GREATEST ?zc_LETTERS ?zc_LONGEST
    (case a0 => k_is)
    (case l0 => k_is)
    (case c0 => k_is)
    (case k0 => k_is)
    (case a1 => k_is)
    (case l1 => k_is)
    (case c1 => k_is)
    (case k1 => k_is)
    (case a2 => k_is)
    (case l2 => k_is)
    (case c2 => k_is)
    (case k2 => k_is)
    (case a3 => k_is)
    (case l3 => k_is)
    (case c3 => k_is)
    (case k3 => k_is)
    (case a4 => k_is)
    (case l4 => k_is)
    (case c4 => k_is)
    (case k4 => k_is)
    (case a5 => k_is)
    (case l5 => k_is)
    (case c5 => k_is)
    (case k5 => k_is)
    (case a6 => k_is)
    (case l6 => k_is)
    (case c6 => k_is)
    (case k6 => k_is)
    (case a7 => k_is)
    (case l7 => k_is)
    (case c7 => k_is)
    (case k7 => k_is)
    (case a8 => k_is)
    (case l8 => k_is)
    (case c8 => k_is)
    (case k8 => k_is)
    (case a9 => k_is)
    (case l9 => k_is)
    (case c9 => k_is)
    (case k9 => k_is)
    (case a10 => k_is)
    (case l10 => k_is)
    (case c10 => k_is)
    (case k10 => k_is)
    (case a11 => k_is)
    (case l11 => k_is)
    (case c11 => k_is)
    (case k11 => k_is)
    (case a12 => k_is)
    (case l12 => k_is)
    (case c12 => k_is)
    (case k12 => k_is)
    (case a13 => k_is)
    (case l13 => k_is)
    (case c13 => k_is)
    (case k13 => k_is)
    (case a14 => k_is)
    (case l14 => k_is)
    (case c14 => k_is)
    (case k14 => k_is)
    (case a15 => k_is)
    (case l15 => k_is)
    (case c15 => k_is)
    (case k15 => k_is)
    (case a16 => k_is)
    (case l16 => k_is)
    (case c16 => k_is)
    (case k16 => k_is)
    (case zb_abs => k_is)
    (case zb_all => k_is)
    (case zb_any => k_is)
    (case zb_bool => k_is)
    (case zb_dict => k_is)
    (case zb_int => k_is)
    (case zb_isinstance => k_is)
    (case zb_len => k_is)
    (case zb_list => k_is)
    (case zb_min => k_is)
    (case zb_range => k_is)
    (case zb_str => k_is)
    (case zb_tuple => k_is)
    (case zc_GREATEST => k_is)
    (case zc_LETTERS => k_is)
    (case zc_LONGEST => k_is)
#print axioms PySem.Challenge.cw_eithertruth_k01_kinds_and_order_holds
