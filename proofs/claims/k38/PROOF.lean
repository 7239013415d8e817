import PyProof.Rows.All
import Wide.All
import OpenK.AllK
import Wide.FinOn
import PyProof.EqAt
import PyProof.EqKinds
import PyProof.TupleCall
import PyProof.ReprRoads
import HandS.ForMost
import HandS.Exc
import HandS.ExcOwn
import HandS.ExcInit
import HandS.ExcField
import HandS.ExcIs
import HandS.TryOnly
import HandS.TryMany
import HandS.CallSlots
import HandS.Lambda
import HandS.EndTab
import HandS.Wide
import HandS.WideBits
import HandS.IsInst
import HandS.Flow
import HandS.Style
import KE.KRevSl
import HandS.Words
import HandS.WordsExc
import HandS.Dict
import HandS.More
import HandS.HeadHook3
import KE.KExcInit
import KE.KNestM
import PySem.Challenge.RW_tollfloors_k38_whole_told_words_of_matri
set_option Elab.async false
set_option linter.all false
set_option maxRecDepth 100000
/-! # Values without a heap: what an expression computes, as a function -/
namespace PF
open PySem L2

/-- a value as plain data; pot: the one list that changes -/
inductive PV where
  | non
  | bl (b : Bool)
  | int (i : Int)
  | str (x : Str)
  | lst (xs : List PV)
  | tup (xs : List PV)
  | dic (kvs : List (Key × PV))
  | pot
  | scr (ns : List Int)

/-- tables of code objects, the pot's address; what is known to stay -/
structure Lc where
  T : List (Addr × Str)
  l : Option Addr
  b : Hp
  e : Option V
  k : Option (Addr × HO)

mutual
inductive Rep (K : PySem.W.Frag) (C : Lc) (F : Hp) : V → PV → Prop
  | non : Rep K C F .non .non
  | bl (b : Bool) : Rep K C F (.bl b) (.bl b)
  | int (i : Int) : Rep K C F (.int i) (.int i)
  | str (x : Str) : Rep K C F (.str x) (.str x)
  | lst {a : Addr} {vs : List V} {xs : List PV} : F a = some (.lst vs) → Reps K C F vs xs → Rep K C F (.ref a) (.lst xs)
  | tup {a : Addr} {vs : List V} {xs : List PV} : SqT K F a vs → Reps K C F vs xs → Rep K C F (.ref a) (.tup xs)
  | dic {a : Addr} {kvs : List (Key × V)} {xs : List (Key × PV)} : F a = some (.dK kvs) → RepKs K C F kvs xs → Rep K C F (.ref a) (.dic xs)
  | pot {a : Addr} : C.l = some a → Rep K C F (.ref a) .pot
  | scr {a : Addr} {ns : List Int} : SqL K F a (ns.map V.int) → Rep K C F (.ref a) (.scr ns)
inductive Reps (K : PySem.W.Frag) (C : Lc) (F : Hp) : List V → List PV → Prop
  | nil : Reps K C F [] []
  | cons {v : V} {vs : List V} {x : PV} {xs : List PV} : Rep K C F v x → Reps K C F vs xs → Reps K C F (v :: vs) (x :: xs)
inductive RepKs (K : PySem.W.Frag) (C : Lc) (F : Hp) : List (Key × V) → List (Key × PV) → Prop
  | nil : RepKs K C F [] []
  | cons {k : Key} {v : V} {vs : List (Key × V)} {x : PV} {xs : List (Key × PV)} : Rep K C F v x → RepKs K C F vs xs → RepKs K C F ((k, v) :: vs) ((k, x) :: xs)
end

abbrev Ex (F F' : Hp) : Prop := ∀ (a : Addr) (o : HO), F a = some o → F' a = some o
theorem Ex.seqL {K : PySem.W.Frag} {F F' : Hp} {a : Addr} {xs : List V} (e : Ex F F') (h : SqL K F a xs) : SqL K F' a xs := by
  rcases h with (h | ⟨o, h⟩) | h
  · exact .inl (.inl (e _ _ h))
  · exact .inl (.inr ⟨o, e _ _ h⟩)
  · exact .inr h
theorem Ex.seqT {K : PySem.W.Frag} {F F' : Hp} {a : Addr} {xs : List V} (e : Ex F F') (h : SqT K F a xs) : SqT K F' a xs := by
  rcases h with (h | ⟨o, h⟩) | h
  · exact .inl (.inl (e _ _ h))
  · exact .inl (.inr ⟨o, e _ _ h⟩)
  · exact .inr h

section
variable {K : PySem.W.Frag} {C : Lc} {F F' : Hp}
mutual
theorem Rep.mono (e : Ex F F') : ∀ {v : V} {x : PV}, Rep K C F v x → Rep K C F' v x
  | _, _, .non => .non
  | _, _, .bl b => .bl b
  | _, _, .int i => .int i
  | _, _, .str x => .str x
  | _, _, .lst h r => .lst (e _ _ h) (Reps.mono e r)
  | _, _, .tup h r => .tup (Ex.seqT e h) (Reps.mono e r)
  | _, _, .dic h r => .dic (e _ _ h) (RepKs.mono e r)
  | _, _, .pot h => .pot h
  | _, _, .scr h => .scr (Ex.seqL e h)
theorem Reps.mono (e : Ex F F') : ∀ {v : List V} {x : List PV}, Reps K C F v x → Reps K C F' v x
  | _, _, .nil => .nil
  | _, _, .cons h r => .cons (Rep.mono e h) (Reps.mono e r)
theorem RepKs.mono (e : Ex F F') : ∀ {v : List (Key × V)} {x : List (Key × PV)}, RepKs K C F v x → RepKs K C F' v x
  | _, _, .nil => .nil
  | _, _, .cons h r => .cons (Rep.mono e h) (RepKs.mono e r)
end
theorem Reps.length : ∀ {vs : List V} {xs : List PV}, Reps K C F vs xs → vs.length = xs.length
  | _, _, .nil => rfl
  | _, _, .cons _ r => by rw [List.length_cons, List.length_cons, Reps.length r]
theorem Reps.get : ∀ {vs : List V} {xs : List PV} {i : Nat} {x : PV}, Reps K C F vs xs → xs[i]? = some x → ∃ v, vs[i]? = some v ∧ Rep K C F v x
  | _, _, _, _, .nil, h => by simp at h
  | _, _, 0, _, .cons h _, e => by
    simp only [List.getElem?_cons_zero, Option.some.injEq] at e ⊢
    subst e
    exact ⟨_, rfl, h⟩
  | _, _, i + 1, _, .cons _ r, e => by
    simp only [List.getElem?_cons_succ] at e ⊢
    exact Reps.get r e
theorem Reps.get' : ∀ {vs : List V} {xs : List PV} {i : Nat} {v : V}, Reps K C F vs xs → vs[i]? = some v → ∃ x, xs[i]? = some x ∧ Rep K C F v x
  | _, _, _, _, .nil, h => by simp at h
  | _, _, 0, _, .cons h _, e => by
    simp only [List.getElem?_cons_zero, Option.some.injEq] at e ⊢
    subst e
    exact ⟨_, rfl, h⟩
  | _, _, i + 1, _, .cons _ r, e => by
    simp only [List.getElem?_cons_succ] at e ⊢
    exact Reps.get' r e
theorem Reps.append : ∀ {vs ws : List V} {xs ys : List PV}, Reps K C F vs xs → Reps K C F ws ys → Reps K C F (vs ++ ws) (xs ++ ys)
  | _, _, _, _, .nil, s => s
  | _, _, _, _, .cons h r, s => .cons h (Reps.append r s)
theorem Reps.one {v : V} {x : PV} (h : Rep K C F v x) : Reps K C F [v] [x] := .cons h .nil
theorem Reps.reverse : ∀ {vs : List V} {xs : List PV}, Reps K C F vs xs → Reps K C F vs.reverse xs.reverse
  | _, _, .nil => .nil
  | _, _, .cons h r => by
    rw [List.reverse_cons, List.reverse_cons]
    exact (Reps.reverse r).append (.one h)
theorem Reps.take : ∀ {vs : List V} {xs : List PV} (n : Nat), Reps K C F vs xs → Reps K C F (vs.take n) (xs.take n)
  | _, _, 0, _ => .nil
  | _, _, _ + 1, .nil => .nil
  | _, _, n + 1, .cons h r => .cons h (Reps.take n r)
theorem Reps.drop : ∀ {vs : List V} {xs : List PV} (n : Nat), Reps K C F vs xs → Reps K C F (vs.drop n) (xs.drop n)
  | _, _, 0, r => r
  | _, _, _ + 1, .nil => .nil
  | _, _, n + 1, .cons _ r => Reps.drop n r
theorem Reps.set {v : V} {x : PV} (q : Rep K C F v x) : ∀ {vs : List V} {xs : List PV} (n : Nat), Reps K C F vs xs → Reps K C F (vs.set n v) (xs.set n x)
  | _, _, _, .nil => .nil
  | _, _, 0, .cons _ r => .cons q r
  | _, _, n + 1, .cons h r => .cons h (Reps.set q n r)
theorem Rep.int_inv {v : V} {i : Int} (h : Rep K C F v (.int i)) : v = .int i := by cases h; rfl
theorem Rep.bl_inv {v : V} {b : Bool} (h : Rep K C F v (.bl b)) : v = .bl b := by cases h; rfl
theorem Rep.str_inv {v : V} {x : Str} (h : Rep K C F v (.str x)) : v = .str x := by cases h; rfl
theorem Rep.non_inv {v : V} (h : Rep K C F v .non) : v = .non := by cases h; rfl
theorem Rep.pot_inv {v : V} (h : Rep K C F v .pot) : ∃ a, v = .ref a ∧ C.l = some a := by cases h with | pot h => exact ⟨_, rfl, h⟩
theorem Rep.scr_inv {v : V} {ns : List Int} (h : Rep K C F v (.scr ns)) : ∃ a, v = .ref a ∧ SqL K F a (ns.map V.int) := by cases h with | scr h => exact ⟨_, rfl, h⟩
theorem Rep.lst_inv {v : V} {xs : List PV} (h : Rep K C F v (.lst xs)) : ∃ a vs, v = .ref a ∧ F a = some (.lst vs) ∧ Reps K C F vs xs := by cases h with | lst h r => exact ⟨_, _, rfl, h, r⟩
theorem Rep.tup_inv {v : V} {xs : List PV} (h : Rep K C F v (.tup xs)) : ∃ a vs, v = .ref a ∧ SqT K F a vs ∧ Reps K C F vs xs := by cases h with | tup h r => exact ⟨_, _, rfl, h, r⟩
theorem Rep.dic_inv {v : V} {xs : List (Key × PV)} (h : Rep K C F v (.dic xs)) : ∃ a kvs, v = .ref a ∧ F a = some (.dK kvs) ∧ RepKs K C F kvs xs := by cases h with | dic h r => exact ⟨_, _, rfl, h, r⟩
theorem Reps.nil_inv {vs : List V} (h : Reps K C F vs []) : vs = [] := by cases h; rfl
theorem Reps.cons_inv {vs : List V} {x : PV} {xs : List PV} (h : Reps K C F vs (x :: xs)) : ∃ v ws, vs = v :: ws ∧ Rep K C F v x ∧ Reps K C F ws xs := by cases h with | cons h r => exact ⟨_, _, rfl, h, r⟩
end

/-! ### what a name holds, what the pot holds -/
inductive Ent where
  | val (v : PV)
  | own (xs : List PV)
  | ownD (kvs : List (Key × PV))
  | exc
abbrev Env := List (Option Ent)
abbrev PS := Option (Int × Int)

def PotAt (C : Lc) (F H : Hp) : PS → Prop
  | some (x, y) => ∃ a, C.l = some a ∧ F a = none ∧ H a = some (.lst [.int x, .int y])
  | none => C.l = none

/-- the tables of code objects: these, no other -/
def TabsA (T : List (Addr × Str)) (H : Hp) : Prop := LamX.Tabs T H ∧ ∀ a ps, H a = some (.tbl ps) → a ∈ T.map (·.1)
theorem TabsA.new {T : List (Addr × Str)} {H : Hp} {p : Addr} {o : HO} (t : TabsA T H) (hp : H p = none) (ho : ∀ ps, o ≠ .tbl ps) : TabsA T (upd H p o) :=
  ⟨t.1.ext fun b u h => by
    rw [upd_ne (ne_of_none h hp)]
    exact h, fun a ps h => by
    by_cases e : a = p
    · rw [e, upd_same] at h
      exact (ho ps (Option.some.inj h)).elim
    · rw [upd_ne e] at h
      exact t.2 a ps h⟩
/-- F: what stays as it is; H: the heap -/
structure G (C : Lc) (F H : Hp) (s : PS) : Prop where
  ex : Ex F H
  pot : PotAt C F H s
  tabs : TabsA C.T H
  ftab : ∀ a ps, F a ≠ some (.tbl ps)
  base : Ex C.b F

/-- from (F, H) to (F', H') -/
structure Stp (C : Lc) (F H F' H' : Hp) : Prop where
  ex : Ex F F'
  keep : ∀ a o, H a = some o → C.l ≠ some a → (∀ ps, o ≠ .tbl ps) → H' a = some o
  there : ∀ a o, H a = some o → ∃ o', H' a = some o'
  new : ∀ a o, F' a = some o → F a = none → H a = none

theorem Stp.refl {C : Lc} {F H : Hp} : Stp C F H F H := ⟨fun _ _ h => h, fun _ _ h _ _ => h, fun _ o h => ⟨o, h⟩, fun a o h n => by rw [n] at h; cases h⟩
theorem Stp.trans {C : Lc} {F H F1 H1 F2 H2 : Hp} (p : Stp C F H F1 H1) (q : Stp C F1 H1 F2 H2) : Stp C F H F2 H2 where
  ex := fun a o h => q.ex a o (p.ex a o h)
  keep := fun a o h n t => q.keep a o (p.keep a o h n t) n t
  there := fun a o h => by
    obtain ⟨o', h'⟩ := p.there a o h
    exact q.there a o' h'
  new := fun a o h n => by
    cases e : F1 a with
    | some u => exact p.new a u e n
    | none =>
      have z := q.new a o h e
      cases e2 : H a with
      | none => rfl
      | some u =>
        obtain ⟨o', h'⟩ := p.there a u e2
        rw [z] at h'
        cases h'

def EntOk (K : PySem.W.Frag) (C : Lc) (F H : Hp) (v : V) : Ent → Prop
  | .val x => Rep K C F v x
  | .own xs => ∃ a vs, v = .ref a ∧ F a = none ∧ H a = some (.lst vs) ∧ Reps K C F vs xs ∧ C.l ≠ some a
  | .ownD xs => ∃ a kvs, v = .ref a ∧ F a = none ∧ H a = some (.dK kvs) ∧ RepKs K C F kvs xs ∧ C.l ≠ some a
  | .exc => C.e = some v ∧ ∀ c o, C.k = some (c, o) → H c = some o ∧ C.l ≠ some c ∧ (∀ ps, o ≠ .tbl ps) ∧ (∀ vs, o ≠ .lst vs) ∧ ∀ vs, o ≠ .dK vs
def Ent.mut : Ent → Bool
  | .val _ => false
  | .exc => false
  | _ => true
structure EnvOk (K : PySem.W.Frag) (C : Lc) (F H : Hp) (σ : L2.St) (ρ : Env) : Prop where
  len : ρ.length = σ.length
  at_ : ∀ (i : Nat) (e : Ent), ρ[i]? = some (some e) → ∃ v, σ[i]? = some (some v) ∧ EntOk K C F H v e
  apart : ∀ (i j : Nat) (x y : Ent) (v : V), i ≠ j → ρ[i]? = some (some x) → ρ[j]? = some (some y) → x.mut = true → y.mut = true → σ[i]? = some (some v) → σ[j]? ≠ some (some v)

section
variable {K : PySem.W.Frag} {C : Lc} {F H F' H' : Hp} {σ : L2.St} {ρ : Env} {s : PS}
theorem EntOk.stp (p : Stp C F H F' H') {v : V} {e : Ent} (h : EntOk K C F H v e) : EntOk K C F' H' v e := by
  cases e with
  | val x => exact Rep.mono p.ex h
  | exc => exact ⟨h.1, fun c o q => ⟨p.keep c o (h.2 c o q).1 (h.2 c o q).2.1 (h.2 c o q).2.2.1, (h.2 c o q).2⟩⟩
  | own xs =>
    obtain ⟨a, vs, rfl, n, e, r, l⟩ := h
    refine ⟨a, vs, rfl, ?_, p.keep a _ e l (fun _ z => by cases z), Reps.mono p.ex r, l⟩
    cases q : F' a with
    | none => rfl
    | some o =>
      have z := p.new a o q n
      rw [e] at z
      cases z
  | ownD xs =>
    obtain ⟨a, vs, rfl, n, e, r, l⟩ := h
    refine ⟨a, vs, rfl, ?_, p.keep a _ e l (fun _ z => by cases z), RepKs.mono p.ex r, l⟩
    cases q : F' a with
    | none => rfl
    | some o =>
      have z := p.new a o q n
      rw [e] at z
      cases z
theorem EnvOk.stp (p : Stp C F H F' H') (h : EnvOk K C F H σ ρ) : EnvOk K C F' H' σ ρ :=
  ⟨h.len, fun i e q => by
    obtain ⟨v, h1, h2⟩ := h.at_ i e q
    exact ⟨v, h1, h2.stp p⟩, h.apart⟩
theorem Stp.alloc {p : Addr} {o : HO} (g : G C F H s) (hp : H p = none) : Stp C F H (upd F p o) (upd H p o) := by
  have hF : F p = none := by
    cases q : F p with
    | none => rfl
    | some u =>
      have := g.ex p u q
      rw [hp] at this
      cases this
  refine ⟨fun a u h => ?_, fun a u h _ _ => ?_, fun a u h => ⟨u, ?_⟩, fun a u h n => ?_⟩
  · rw [upd_ne (ne_of_none h hF)]
    exact h
  · rw [upd_ne (ne_of_none h hp)]
    exact h
  · rw [upd_ne (ne_of_none h hp)]
    exact h
  · by_cases e : a = p
    · rw [e]
      exact hp
    · rw [upd_ne e] at h
      rw [n] at h
      cases h
theorem PotAt.alloc {p : Addr} {o : HO} (hq : PotAt C F H s) (hp : H p = none) : PotAt C (upd F p o) (upd H p o) s := by
  cases s with
  | none => exact hq
  | some xy =>
    obtain ⟨x, y⟩ := xy
    obtain ⟨a, h1, h2, h3⟩ := hq
    have n : a ≠ p := ne_of_none h3 hp
    exact ⟨a, h1, by rw [upd_ne n]; exact h2, by rw [upd_ne n]; exact h3⟩
theorem PotAt.allocH {p : Addr} {o : HO} (hq : PotAt C F H s) (hp : H p = none) : PotAt C F (upd H p o) s := by
  cases s with
  | none => exact hq
  | some xy =>
    obtain ⟨x, y⟩ := xy
    obtain ⟨a, h1, h2, h3⟩ := hq
    have n : a ≠ p := ne_of_none h3 hp
    exact ⟨a, h1, h2, by rw [upd_ne n]; exact h3⟩
theorem G.alloc {p : Addr} {o : HO} (g : G C F H s) (hp : H p = none) (ho : ∀ ps, o ≠ .tbl ps) : G C (upd F p o) (upd H p o) s where
  ex := fun a u h => by
    by_cases e : a = p
    · rw [e, upd_same] at h ⊢
      exact h
    · rw [upd_ne e] at h ⊢
      exact g.ex a u h
  pot := g.pot.alloc hp
  tabs := g.tabs.new hp ho
  ftab := fun a ps h => by
    by_cases e : a = p
    · rw [e, upd_same] at h
      exact ho ps (Option.some.inj h)
    · rw [upd_ne e] at h
      exact g.ftab a ps h
  base := fun a u h => (Stp.alloc g hp).ex a u (g.base a u h)
/-- laid in the heap alone: not yet kept as it is -/
theorem G.allocH {p : Addr} {o : HO} (g : G C F H s) (hp : H p = none) (ho : ∀ ps, o ≠ .tbl ps := by intro _ z; cases z) : G C F (upd H p o) s where
  ex := fun a u h => by
    have h' := g.ex a u h
    rw [upd_ne (ne_of_none h' hp)]
    exact h'
  pot := g.pot.allocH hp
  tabs := g.tabs.new hp ho
  ftab := g.ftab
  base := g.base
theorem Stp.allocH {p : Addr} {o : HO} (hp : H p = none) : Stp C F H F (upd H p o) := by
  refine ⟨fun _ _ h => h, fun a u h _ _ => ?_, fun a u h => ⟨u, ?_⟩, fun a u h n => by rw [n] at h; cases h⟩
  · rw [upd_ne (ne_of_none h hp)]
    exact h
  · rw [upd_ne (ne_of_none h hp)]
    exact h
theorem G.free (g : G C F H s) {p : Addr} (hp : H p = none) : F p = none := by
  cases q : F p with
  | none => rfl
  | some u =>
    have := g.ex p u q
    rw [hp] at this
    cases this
end

section
variable {K : PySem.W.Frag} {C C' : Lc} {F H F' H' : Hp} {σ : L2.St} {ρ : Env} {s : PS}
mutual
theorem Rep.cl (e : C.l = C'.l) : ∀ {v : V} {x : PV}, Rep K C F v x → Rep K C' F v x
  | _, _, .non => .non
  | _, _, .bl b => .bl b
  | _, _, .int i => .int i
  | _, _, .str x => .str x
  | _, _, .lst h r => .lst h (Reps.cl e r)
  | _, _, .tup h r => .tup h (Reps.cl e r)
  | _, _, .dic h r => .dic h (RepKs.cl e r)
  | _, _, .pot h => .pot (e ▸ h)
  | _, _, .scr h => .scr h
theorem Reps.cl (e : C.l = C'.l) : ∀ {v : List V} {x : List PV}, Reps K C F v x → Reps K C' F v x
  | _, _, .nil => .nil
  | _, _, .cons h r => .cons (Rep.cl e h) (Reps.cl e r)
theorem RepKs.cl (e : C.l = C'.l) : ∀ {v : List (Key × V)} {x : List (Key × PV)}, RepKs K C F v x → RepKs K C' F v x
  | _, _, .nil => .nil
  | _, _, .cons h r => .cons (Rep.cl e h) (RepKs.cl e r)
end
theorem Stp.cl (e : C.l = C'.l) (p : Stp C F H F' H') : Stp C' F H F' H' := ⟨p.ex, fun a o h n => p.keep a o h (by rw [e]; exact n), p.there, p.new⟩
theorem EntOk.cl (e : C.l = C'.l) {v : V} {x : Ent} (he : x = .exc → (∀ u, C.e = some u → C'.e = some u) ∧ ∀ q, C'.k = some q → C.k = some q) (h : EntOk K C F H v x) : EntOk K C' F H v x := by
  cases x with
  | val x => exact Rep.cl e h
  | exc => exact ⟨(he rfl).1 v h.1, fun c o q => by
    obtain ⟨h1, h2, h3⟩ := h.2 c o ((he rfl).2 _ q)
    exact ⟨h1, by rw [← e]; exact h2, h3⟩⟩
  | own xs =>
    obtain ⟨a, vs, h1, h2, h3, h4, h5⟩ := h
    exact ⟨a, vs, h1, h2, h3, h4.cl e, by rw [← e]; exact h5⟩
  | ownD xs =>
    obtain ⟨a, vs, h1, h2, h3, h4, h5⟩ := h
    exact ⟨a, vs, h1, h2, h3, h4.cl e, by rw [← e]; exact h5⟩
theorem EnvOk.cl (e : C.l = C'.l) (he : (∀ u, C.e = some u → C'.e = some u) ∧ ∀ q, C'.k = some q → C.k = some q) (h : EnvOk K C F H σ ρ) : EnvOk K C' F H σ ρ := ⟨h.len, fun i x q => by
  obtain ⟨v, h1, h2⟩ := h.at_ i x q
  exact ⟨v, h1, h2.cl e fun _ => he⟩, h.apart⟩
theorem PotAt.cl (e : C.l = C'.l) (h : PotAt C F H s) : PotAt C' F H s := by
  cases s with
  | none => exact (e ▸ h : C'.l = none)
  | some xy =>
    obtain ⟨a, h1, h2, h3⟩ := h
    exact ⟨a, e ▸ h1, h2, h3⟩
theorem G.cl (g : G C F H s) (e : C.l = C'.l) (t : C.T = C'.T) (b : Ex C'.b F) : G C' F H s := ⟨g.ex, g.pot.cl e, t ▸ g.tabs, g.ftab, b⟩
end

/-! ### results -/
inductive R (α : Type) where
  | val (a : α) (s : PS)
  | exc (c : Str) (fs : List (Str × PV)) (s : PS)
  | stuck
@[simp] def R.bind {α β : Type} (r : R α) (f : α → PS → R β) : R β := match r with
  | .val a s => f a s
  | .exc c fs s => .exc c fs s
  | .stuck => .stuck
abbrev FE := Env → PS → R PV
abbrev FT := Env → PS → R Bool
abbrev FA := Env → PS → R (List PV)

inductive RepF (K : PySem.W.Frag) (C : Lc) (F : Hp) : List (Str × V) → List (Str × PV) → Prop
  | nil : RepF K C F [] []
  | cons {k : Str} {v : V} {vs : List (Str × V)} {x : PV} {xs : List (Str × PV)} : Rep K C F v x → RepF K C F vs xs → RepF K C F ((k, v) :: vs) ((k, x) :: xs)

/-- what follows a result -/
def ER {α β : Type} (K : PySem.W.Frag) (C : Lc) (mg : Str → Option Value) (W : WX) (rel : Hp → β → α → Prop) (σ : L2.St) (F H : Hp) (r : R α) (Q : β → Hp → Prop) : Prop :=
  match r with
  | .val a s' => ∀ b F' H', Stp C F H F' H' → G C F' H' s' → rel F' b a → Q b H'
  | .exc c fs s' => ∀ A d kvs F' H', mg c = some (.ref A) → Stp C F H F' H' → G C F' H' s' → F' d = some (.xd kvs) → RepF K C F' kvs fs → W (.ref A) (some d) σ H'
  | .stuck => False
def den (K : PySem.W.Frag) (C : Lc) (mg : Str → Option Value) (W : WX) (f : FE) : TE := fun σ H Q => ∃ F ρ s, G C F H s ∧ EnvOk K C F H σ ρ ∧ ER K C mg W (Rep K C) σ F H (f ρ s) Q
def denT (K : PySem.W.Frag) (C : Lc) (mg : Str → Option Value) (W : WX) (f : FT) : TT := fun σ H Q => ∃ F ρ s, G C F H s ∧ EnvOk K C F H σ ρ ∧ ER K C mg W (fun _ (b : Bool) a => b = a) σ F H (f ρ s) Q
def denA (K : PySem.W.Frag) (C : Lc) (mg : Str → Option Value) (W : WX) (f : FA) : TA := fun σ H Q => ∃ F ρ s, G C F H s ∧ EnvOk K C F H σ ρ ∧ ER K C mg W (Reps K C) σ F H (f ρ s) Q

/-- the judgements: the expression computes the function -/
abbrev PFe (X : Cx) (C : Lc) (W : WX) (e : Expr) (f : FE) : Prop := PE X e (den X.K C X.mg W f)
abbrev PFt (X : Cx) (C : Lc) (W : WX) (e : Expr) (f : FT) : Prop := PT X e (denT X.K C X.mg W f)
abbrev PFa (X : Cx) (C : Lc) (W : WX) (e : List Expr) (f : FA) : Prop := PA X e (denA X.K C X.mg W f)

theorem PE.imp {X : Cx} {e : Expr} {t t' : TE} (h : PE X e t) (i : ∀ σ H Q, t' σ H Q → t σ H Q) : PE X e t' := ⟨fun pins s σ H Q I q => h.run pins s σ H Q I (i σ H Q q)⟩
theorem PT.imp {X : Cx} {e : Expr} {t t' : TT} (h : PT X e t) (i : ∀ σ H Q, t' σ H Q → t σ H Q) : PT X e t' := ⟨fun pins s σ H Q I q => h.run pins s σ H Q I (i σ H Q q)⟩
theorem PA.imp {X : Cx} {e : List Expr} {t t' : TA} (h : PA X e t) (i : ∀ σ H Q, t' σ H Q → t σ H Q) : PA X e t' := ⟨fun pos pins s σ H Q I q => h.run pos pins s σ H Q I (i σ H Q q)⟩

section
variable {K : PySem.W.Frag} {C : Lc} {mg : Str → Option Value} {W : WX} {σ : L2.St} {F H F' H' : Hp} {ρ : Env} {s : PS}
/-- one thing, then the next: what is shown of the first's value may use the state behind it -/
theorem ER.bind {α β γ δ : Type} {rel : Hp → β → α → Prop} {rel2 : Hp → δ → γ → Prop} {r : R α} {f : α → PS → R γ} {Q : δ → Hp → Prop} {Q1 : β → Hp → Prop}
    (h : ER K C mg W rel2 σ F H (r.bind f) Q)
    (k : ∀ a s1 b F1 H1, r = .val a s1 → Stp C F H F1 H1 → G C F1 H1 s1 → rel F1 b a → ER K C mg W rel2 σ F1 H1 (f a s1) Q → Q1 b H1) : ER K C mg W rel σ F H r Q1 := by
  cases r with
  | stuck => exact h
  | exc c fs s' => exact h
  | val a s1 =>
    intro b F1 H1 p g rb
    refine k a s1 b F1 H1 rfl p g rb ?_
    have h' : ER K C mg W rel2 σ F H (f a s1) Q := h
    cases hf : f a s1 with
    | stuck => rw [hf] at h'; exact h'
    | exc c fs s' =>
      rw [hf] at h'
      intro A d kvs F' H' hm p' g' hx hr
      exact h' A d kvs F' H' hm (p.trans p') g' hx hr
    | val a2 s2 =>
      rw [hf] at h'
      intro b2 F' H' p' g' hr
      exact h' b2 F' H' (p.trans p') g' hr
/-- weaker wishes of what is raised -/
theorem ER.ret {α β : Type} {rel : Hp → β → α → Prop} {a : α} {b : β} {Q : β → Hp → Prop} (h : ER K C mg W rel σ F H (.val a s) Q) (g : G C F H s) (r : rel F b a) : Q b H := h b F H .refl g r
/-- a new thing at p, kept as it is -/
theorem ER.new {α β : Type} {rel : Hp → β → α → Prop} {a : α} {b : β} {p : Addr} {o : HO} {Q : β → Hp → Prop} (h : ER K C mg W rel σ F H (.val a s) Q) (g : G C F H s) (hp : H p = none) (ho : ∀ ps, o ≠ .tbl ps) (r : rel (upd F p o) b a) : Q b (upd H p o) :=
  h b _ _ (Stp.alloc g hp) (g.alloc hp ho) r
end
end PF
set_option Elab.async false
set_option linter.all false
set_option maxRecDepth 100000
/-! # Expressions: operators -/
namespace PF
open PySem L2 PySem.Spec PyProof.Rows

mutual
def toD : PV → PyData
  | .non => .none
  | .bl b => .bool b
  | .int i => .int i
  | .str x => .str x
  | .lst xs => .list (toDs xs)
  | .tup xs => .tuple (toDs xs)
  | .dic _ => .dict []
  | .pot => .dict []
  | .scr _ => .dict []
def toDs : List PV → List PyData
  | [] => []
  | x :: xs => toD x :: toDs xs
end
theorem canLay_dict (l : List (PyData × PyData)) : (PyData.dict l).canLay0 = false := by simp only [PyData.canLay0]
section
variable {K : PySem.W.Frag} {C : Lc} {F : Hp}
mutual
theorem Rep.dp (hx : ∀ l, C.l = some l → F l = none) : ∀ {v : V} {x : PV}, Rep K C F v x → (toD x).canLay0 = true → Dp K F v (toD x)
  | _, _, .non, _ => by simp only [toD]; exact .non
  | _, _, .bl b, _ => by simp only [toD]; exact .bl b
  | _, _, .int i, _ => by simp only [toD]; exact .int i
  | _, _, .str x, _ => by simp only [toD]; exact .str x
  | _, _, .lst (xs := xs) h r, c => by
    simp only [toD]
    exact .lst (.inl (.inl h)) (Reps.dp hx r (by simpa only [toD, PyData.canLay0] using c))
  | _, _, .tup (xs := xs) h r, c => by
    simp only [toD]
    exact .tup h (Reps.dp hx r (by simpa only [toD, PyData.canLay0] using c))
  | _, _, .dic h r, c => by simp only [toD, PyData.canLay0] at c; cases c
  | _, _, .pot h, c => by simp only [toD, PyData.canLay0] at c; cases c
  | _, _, .scr h, c => by simp only [toD, PyData.canLay0] at c; cases c
theorem Reps.dp (hx : ∀ l, C.l = some l → F l = none) : ∀ {v : List V} {x : List PV}, Reps K C F v x → PyData.canLayAll0 (toDs x) = true → DpAll K F v (toDs x)
  | _, _, .nil, _ => by simp only [toDs]; exact .nil
  | _, _, .cons h r, c => by
    simp only [toDs, PyData.canLayAll0, Bool.and_eq_true] at c
    simp only [toDs]
    exact .cons (Rep.dp hx h c.1) (Reps.dp hx r c.2)
end
theorem Dp.ex {F H : Hp} (e : Ex F H) : ∀ (d : PyData) (v : V), Dp K F v d → Dp K H v d := by
  intro d
  exact PyData.rec (motive_1 := fun d => ∀ v, Dp K F v d → Dp K H v d) (motive_2 := fun ds => ∀ vs, DpAll K F vs ds → DpAll K H vs ds) (motive_3 := fun _ => True) (motive_4 := fun _ => True)
    (fun v h => by cases h; exact .non) (fun b v h => by cases h; exact .bl b) (fun i v h => by cases h; exact .int i) (fun x v h => by cases h; exact .str x)
    (fun ds ih v h => by cases h with | lst h r => exact .lst (Ex.seqL e h) (ih _ r)) (fun ds ih v h => by cases h with | tup h r => exact .tup (Ex.seqT e h) (ih _ r)) (fun _ _ v h => by cases h)
    (fun vs h => by cases h; exact .nil) (fun d ds i1 i2 vs h => by cases h with | cons h r => exact .cons (i1 _ h) (i2 _ r)) trivial (fun _ _ _ _ => trivial) (fun _ _ _ _ => trivial) d
end

/-! ### operators on values -/
abbrev O2 := PV → PV → Option PV
def VOp (K : PySem.W.Frag) (C : Lc) (r : R2) (fo : O2) : Prop :=
  ∀ (F H : Hp) (s : PS) (x y : V) (px py pz : PV) (Q : VK), G C F H s → Rep K C F x px → Rep K C F y py → fo px py = some pz →
    (∀ z F' H', Stp C F H F' H' → G C F' H' s → Rep K C F' z pz → Q z H') → r x y H Q
theorem OpR.or2 {X : Cx} {f : Value → Value → Sem Value} {r r' : R2} (h : OpR X f r) (h' : OpR X f r') : OpR X f (fun x y H Q => r x y H Q ∨ r' x y H Q) := by
  intro pins s σ H x y v u Q I rx ry q
  rcases q with q | q
  · exact h pins s σ H x y v u Q I rx ry q
  · exact h' pins s σ H x y v u Q I rx ry q
theorem VOp.or2 {K : PySem.W.Frag} {C : Lc} {r r' : R2} {f f' : O2} (h : VOp K C r f) (h' : VOp K C r' f') : VOp K C (fun x y H Q => r x y H Q ∨ r' x y H Q) (fun x y => (f x y).or (f' x y)) := by
  intro F H s x y px py pz Q g rx ry e q
  have e : (f px py).or (f' px py) = some pz := e
  cases e1 : f px py with
  | some a =>
    rw [e1] at e
    have e' : some a = some pz := e
    cases e'
    exact .inl (h F H s x y px py _ Q g rx ry e1 q)
  | none =>
    rw [e1] at e
    exact .inr (h' F H s x y px py _ Q g rx ry e q)
@[simp] def ofO (o : Option PV) (s : PS) : R PV := match o with
  | some z => .val z s
  | none => .stuck
@[simp] def fBin (o : O2) (a b : FE) : FE := fun ρ s => (a ρ s).bind fun x s1 => (b ρ s1).bind fun y s2 => ofO (o x y) s2
section
variable {X : Cx} {C : Lc} {W : WX} {a b : Expr} {fa fb : FE} {pos : Pos}
theorem den_bin {K : PySem.W.Frag} {mg : Str → Option Value} {r : R2} {o : O2} (hv : VOp K C r o) (σ : L2.St) (H : Hp) (Q : VK) (h : den K C mg W (fBin o fa fb) σ H Q) : tOp r (den K C mg W fa) (den K C mg W fb) σ H Q := by
  obtain ⟨F, ρ, s, g, ev, h⟩ := h
  refine ⟨F, ρ, s, g, ev, ER.bind h fun x s1 v F1 H1 _ p1 g1 r1 h1 => ?_⟩
  refine ⟨F1, ρ, s1, g1, ev.stp p1, ER.bind h1 fun y s2 u F2 H2 _ p2 g2 r2 h2 => ?_⟩
  cases e : o x y with
  | none =>
    simp only [e, ofO] at h2
    exact h2.elim
  | some z =>
    simp only [e, ofO] at h2
    exact hv F2 H2 s2 v u x y z Q g2 (r1.mono p2.ex) r2 e fun w F' H' p' g' rw' => h2 w F' H' p' g' rw'
theorem pf_bin {op : Operator} {r : R2} {o : O2} (ho : OpR X (binaryOp op) r) (hv : VOp X.K C r o) (ha : PFe X C W a fa) (hb : PFe X C W b fb) : PFe X C W (.BinOp a op b pos) (fBin o fa fb) :=
  PE.imp (pe_op ho ha hb) fun σ H Q h => den_bin hv σ H Q h
theorem pf_cmp {op : CmpOp} {r : R2} {o : O2} (ho : OpR X (compareOp op) r) (hv : VOp X.K C r o) (ha : PFe X C W a fa) (hb : PFe X C W b fb) (hm : behindInMarks op b = false := by rfl) : PFe X C W (.Compare a [op] [b] pos) (fBin o fa fb) :=
  PE.imp (pe_cmpR ho ha hb hm) fun σ H Q h => den_bin hv σ H Q h
theorem pf_ix {r : R2} {o : O2} (ho : IxR X r) (hv : VOp X.K C r o) (ha : PFe X C W a fa) (hb : PFe X C W b fb) (hs : PlainIx b := by exact fun _ _ => rfl) : PFe X C W (.Subscript a b pos) (fBin o fa fb) :=
  PE.imp (pe_ix ho ha hb hs) fun σ H Q h => den_bin hv σ H Q h
end

/-! one-place -/
abbrev O1 := PV → Option PV
def VUn (K : PySem.W.Frag) (C : Lc) (r : V → Hp → VK → Prop) (fo : O1) : Prop :=
  ∀ (F H : Hp) (s : PS) (x : V) (px pz : PV) (Q : VK), G C F H s → Rep K C F x px → fo px = some pz →
    (∀ z F' H', Stp C F H F' H' → G C F' H' s → Rep K C F' z pz → Q z H') → r x H Q
@[simp] def fUn (o : O1) (a : FE) : FE := fun ρ s => (a ρ s).bind fun x s1 => ofO (o x) s1
theorem pf_un {X : Cx} {C : Lc} {W : WX} {a : Expr} {fa : FE} {pos : Pos} {op : UnaryOp} {r : V → Hp → VK → Prop} {o : O1} (ho : UnR X (unaryOp op) r) (hv : VUn X.K C r o) (ha : PFe X C W a fa) : PFe X C W (.UnaryOp op a pos) (fUn o fa) :=
  PE.imp (pe_un ho ha) fun σ H Q h => by
    obtain ⟨F, ρ, s, g, ev, h⟩ := h
    refine ⟨F, ρ, s, g, ev, ER.bind h fun x s1 v F1 H1 _ p1 g1 r1 h1 => ?_⟩
    cases e : o x with
    | none =>
      simp only [e, ofO] at h1
      exact h1.elim
    | some z =>
      simp only [e, ofO] at h1
      exact hv F1 H1 s1 v x z Q g1 r1 e fun w F' H' p' g' rw' => h1 w F' H' p' g' rw'

/-! ### the operators -/
def Sm (i : Int) : Prop := i.natAbs < 2 ^ 8000
instance (i : Int) : Decidable (Sm i) := inferInstanceAs (Decidable (i.natAbs < 2 ^ 8000))
def big : Nat := 1000000
theorem big_line {n : Nat} (h : n ≤ big) : n ≤ sizeLine := Nat.le_trans h (by decide)
@[simp] def oAddI : O2 | .int i, .int j => some (.int (i + j)) | _, _ => none
@[simp] def oAddS : O2 | .str i, .str j => if i.length + j.length ≤ big then some (.str (i ++ j)) else none | _, _ => none
@[simp] def oAddL : O2 | .lst i, .lst j => if i.length + j.length ≤ big then some (.lst (i ++ j)) else none | _, _ => none
@[simp] def oAdd : O2 := fun x y => (oAddI x y).or ((oAddS x y).or (oAddL x y))
@[simp] def oSub : O2 | .int i, .int j => some (.int (i - j)) | _, _ => none
@[simp] def oMulI : O2 | .int i, .int j => if Sm i ∧ Sm j then some (.int (i * j)) else none | _, _ => none
@[simp] def oMulL : O2 | .lst i, .int j => if i.length * j.toNat ≤ big ∧ -(2 ^ 63) ≤ j ∧ j < 2 ^ 63 then some (.lst (List.replicate j.toNat i).flatten) else none | _, _ => none
@[simp] def oMulS : O2 | .str i, .int j => if i.length * j.toNat ≤ big ∧ -(2 ^ 63) ≤ j ∧ j ≤ big then some (.str ⟨(List.replicate j.toNat i.cps).foldl (· ++ ·) #[]⟩) else none | _, _ => none
@[simp] def oMul : O2 := fun x y => (oMulI x y).or ((oMulL x y).or (oMulS x y))
@[simp] def oDiv : O2 | .int i, .int j => if j ≠ 0 ∧ Sm j then some (.int (i.fdiv j)) else none | _, _ => none
@[simp] def oMod : O2 | .int i, .int j => if j ≠ 0 then some (.int (i.fmod j)) else none | _, _ => none
@[simp] def oPow : O2 | .int i, .int j => if 0 ≤ j ∧ j ≤ 1000 ∧ i.natAbs < 2 ^ 60 then some (.int (i ^ j.toNat)) else none | _, _ => none
@[simp] def oLt : O2 | .int i, .int j => some (.bl (decide (i < j))) | _, _ => none
@[simp] def oLe : O2 | .int i, .int j => some (.bl (decide (i ≤ j))) | _, _ => none
@[simp] def oGt : O2 | .int i, .int j => some (.bl (decide (j < i))) | _, _ => none
@[simp] def oGe : O2 | .int i, .int j => some (.bl (decide (j ≤ i))) | _, _ => none
def shaped (x : PV) : Bool := SeqAt.shaped (toD x)
def eqv (x y : PV) : Bool := PyData.eqv (toD x) (toD y)
@[simp] def oEqS : O2 | .str i, .str j => some (.bl (decide (i = j))) | _, _ => none
@[simp] def oNeS : O2 | .str i, .str j => some (.bl (!decide (i = j))) | _, _ => none
@[simp] def oEqD : O2 := fun x y => if shaped x = true ∧ shaped y = true then some (.bl (eqv x y)) else none
@[simp] def oNeD : O2 := fun x y => if shaped x = true ∧ shaped y = true then some (.bl (!eqv x y)) else none
@[simp] def oEq : O2 := fun x y => (oEqS x y).or (oEqD x y)
@[simp] def oNe : O2 := fun x y => (oNeS x y).or (oNeD x y)
@[simp] def oNeg : O1 | .int i => some (.int (-i)) | _ => none
def isNon : PV → Bool | .non => true | _ => false
@[simp] def oIsN : O2 := fun x y => match y with | .non => some (.bl (isNon x)) | _ => none
@[simp] def oNotN : O2 := fun x y => match y with | .non => some (.bl (!isNon x)) | _ => none
@[simp] def oIsB : O2 | .bl i, .bl j => some (.bl (decide (i = j))) | _, _ => none
@[simp] def oNotB : O2 | .bl i, .bl j => some (.bl (!decide (i = j))) | _, _ => none
@[simp] def oIs : O2 := fun x y => (oIsN x y).or (oIsB x y)
@[simp] def oIsNot : O2 := fun x y => (oNotN x y).or (oNotB x y)

section
variable {K : PySem.W.Frag} {C : Lc}
theorem v_I0 {g : Int → Int → V} {o : O2} (h : ∀ px py pz, o px py = some pz → ∃ i j, px = .int i ∧ py = .int j ∧ ∀ F, Rep K C F (g i j) pz) : VOp K C (rI0 g) o := by
  intro F H s x y px py pz Q g' rx ry e q
  obtain ⟨i, j, rfl, rfl, r⟩ := h px py pz e
  exact ⟨i, j, rx.int_inv, ry.int_inv, q _ F H .refl g' (r F)⟩
theorem v_I {D : Int → Int → Prop} {g : Int → Int → V} {o : O2} (h : ∀ px py pz, o px py = some pz → ∃ i j, px = .int i ∧ py = .int j ∧ D i j ∧ ∀ F, Rep K C F (g i j) pz) : VOp K C (rI D g) o := by
  intro F H s x y px py pz Q g' rx ry e q
  obtain ⟨i, j, rfl, rfl, d, r⟩ := h px py pz e
  exact ⟨i, j, rx.int_inv, ry.int_inv, d, q _ F H .refl g' (r F)⟩
theorem v_addI : VOp K C (rI0 fun i j => .int (i + j)) oAddI := v_I0 fun px py pz e => by
  cases px <;> cases py <;> simp only [oAddI, reduceCtorEq, Option.some.injEq] at e
  exact ⟨_, _, rfl, rfl, fun F => e ▸ .int _⟩
theorem v_sub : VOp K C (rI0 fun i j => .int (i - j)) oSub := v_I0 fun px py pz e => by
  cases px <;> cases py <;> simp only [oSub, reduceCtorEq, Option.some.injEq] at e
  exact ⟨_, _, rfl, rfl, fun F => e ▸ .int _⟩
theorem v_lt : VOp K C (rI0 fun i j => .bl (decide (i < j))) oLt := v_I0 fun px py pz e => by
  cases px <;> cases py <;> simp only [oLt, reduceCtorEq, Option.some.injEq] at e
  exact ⟨_, _, rfl, rfl, fun F => e ▸ .bl _⟩
theorem v_le : VOp K C (rI0 fun i j => .bl (decide (i ≤ j))) oLe := v_I0 fun px py pz e => by
  cases px <;> cases py <;> simp only [oLe, reduceCtorEq, Option.some.injEq] at e
  exact ⟨_, _, rfl, rfl, fun F => e ▸ .bl _⟩
theorem v_gt : VOp K C (rI0 fun i j => .bl (decide (j < i))) oGt := v_I0 fun px py pz e => by
  cases px <;> cases py <;> simp only [oGt, reduceCtorEq, Option.some.injEq] at e
  exact ⟨_, _, rfl, rfl, fun F => e ▸ .bl _⟩
theorem v_ge : VOp K C (rI0 fun i j => .bl (decide (j ≤ i))) oGe := v_I0 fun px py pz e => by
  cases px <;> cases py <;> simp only [oGe, reduceCtorEq, Option.some.injEq] at e
  exact ⟨_, _, rfl, rfl, fun F => e ▸ .bl _⟩
theorem v_mod : VOp K C (rI (fun _ j => j ≠ 0) fun i j => .int (i.fmod j)) oMod := v_I fun px py pz e => by
  cases px <;> cases py <;> simp only [oMod, reduceCtorEq] at e
  split at e
  · cases e
    exact ⟨_, _, rfl, rfl, by assumption, fun F => .int _⟩
  · cases e
theorem v_pow : VOp K C (rI CPow fun i j => .int (i ^ j.toNat)) oPow := v_I fun px py pz e => by
  cases px <;> cases py <;> simp only [oPow, reduceCtorEq] at e
  split at e
  · rename_i h
    cases e
    refine ⟨_, _, rfl, rfl, ⟨h.1, by omega, by omega⟩, fun F => .int _⟩
  · cases e
theorem v_neg : VUn K C (rU fun i => .int (-i)) oNeg := by
  intro F H s x px pz Q g rx e q
  cases px <;> simp only [oNeg, reduceCtorEq, Option.some.injEq] at e
  exact ⟨_, rx.int_inv, q _ F H .refl g (e ▸ .int _)⟩
theorem sm_mul {i j : Int} (h1 : Sm i) (h2 : Sm j) : CMulW i j := wide_mul h1 h2 (by decide) (by decide) (by decide)
theorem v_mulI : VOp K C (rI CMulW fun i j => .int (i * j)) oMulI := v_I fun px py pz e => by
  cases px <;> cases py <;> simp only [oMulI, reduceCtorEq] at e
  split at e
  · rename_i h
    cases e
    exact ⟨_, _, rfl, rfl, sm_mul h.1 h.2, fun F => .int _⟩
  · cases e
/-- // by any divisor of moderate size -/
def CDivS (_ j : Int) : Prop := j ≠ 0 ∧ Sm j
theorem op_divS {X : Cx} : OpR X (binaryOp .FloorDiv) (rI CDivS fun i j => .int (i.fdiv j)) := opI fun i j _ _ _ _ _ hc q =>
  floordiv_int hc.1 q (.inl (PyProof.noPylong_of_log2 (Nat.lt_of_lt_of_le (PySem.Flt.log2_lt_of (by decide) hc.2) (by decide))))
theorem v_div : VOp K C (rI CDivS fun i j => .int (i.fdiv j)) oDiv := v_I fun px py pz e => by
  cases px <;> cases py <;> simp only [oDiv, reduceCtorEq] at e
  split at e
  · rename_i h
    cases e
    exact ⟨_, _, rfl, rfl, h, fun F => .int _⟩
  · cases e
theorem G.potF {F H : Hp} {s : PS} (g : G C F H s) : ∀ l, C.l = some l → F l = none := fun l e => by
  cases s with
  | none =>
    have z : C.l = none := g.pot
    rw [z] at e
    cases e
  | some xy =>
    obtain ⟨a, h1, h2, _⟩ := (show ∃ a, C.l = some a ∧ F a = none ∧ H a = some (.lst [.int xy.1, .int xy.2]) from g.pot)
    rw [h1] at e
    cases e
    exact h2
theorem shaped_lay {x : PV} (h : shaped x = true) : (toD x).canLay0 = true := by
  have h' : ((toD x).canLay0 && decide ((toD x).depth ≤ 64)) = true := h
  exact (Bool.and_eq_true_iff.mp h').1
theorem v_eqS : VOp K C rEq oEqS := by
  intro F H s x y px py pz Q g rx ry e q
  cases px <;> cases py <;> simp only [oEqS, reduceCtorEq, Option.some.injEq] at e
  obtain rfl := rx.str_inv
  obtain rfl := ry.str_inv
  subst e
  refine ⟨rfl, ?_⟩
  have z : ∀ i j : Str, decide (V.str i = V.str j) = decide (i = j) := fun i j => by simp
  rw [z]
  exact q _ F H .refl g (.bl _)
theorem v_neS : VOp K C rNe oNeS := by
  intro F H s x y px py pz Q g rx ry e q
  cases px <;> cases py <;> simp only [oNeS, reduceCtorEq, Option.some.injEq] at e
  obtain rfl := rx.str_inv
  obtain rfl := ry.str_inv
  subst e
  refine ⟨rfl, ?_⟩
  have z : ∀ i j : Str, decide (V.str i = V.str j) = decide (i = j) := fun i j => by simp
  rw [z]
  exact q _ F H .refl g (.bl _)
theorem v_eq : VOp K C (rEqD K) oEqD := by
  intro F H s x y px py pz Q g rx ry e q
  simp only [oEqD] at e
  split at e
  · rename_i h
    cases e
    exact ⟨toD px, toD py, Dp.ex g.ex _ _ (rx.dp g.potF (shaped_lay h.1)), Dp.ex g.ex _ _ (ry.dp g.potF (shaped_lay h.2)), h.1, h.2, q _ F H .refl g (.bl _)⟩
  · cases e
theorem v_ne : VOp K C (rNeD K) oNeD := by
  intro F H s x y px py pz Q g rx ry e q
  simp only [oNeD] at e
  split at e
  · rename_i h
    cases e
    exact ⟨toD px, toD py, Dp.ex g.ex _ _ (rx.dp g.potF (shaped_lay h.1)), Dp.ex g.ex _ _ (ry.dp g.potF (shaped_lay h.2)), h.1, h.2, q _ F H .refl g (.bl _)⟩
  · cases e
theorem v_addS : VOp K C (fun x y H Q => ∃ i j, x = .str i ∧ y = .str j ∧ i.length + j.length ≤ sizeLine ∧ Q (.str (i ++ j)) H) oAddS := by
  intro F H s x y px py pz Q g rx ry e q
  cases px <;> cases py <;> simp only [oAddS, reduceCtorEq] at e
  split at e
  · rename_i h
    cases e
    exact ⟨_, _, rx.str_inv, ry.str_inv, big_line h, q _ F H .refl g (.str _)⟩
  · cases e
theorem v_addL : VOp K C rCat oAddL := by
  intro F H s x y px py pz Q g rx ry e q
  cases px <;> cases py <;> simp only [oAddL, reduceCtorEq] at e
  split at e
  · rename_i h
    cases e
    obtain ⟨l, vs, rfl, h1, r1⟩ := rx.lst_inv
    obtain ⟨b, ws, rfl, h2, r2⟩ := ry.lst_inv
    refine ⟨l, b, vs, ws, rfl, rfl, g.ex _ _ h1, g.ex _ _ h2, by rw [r1.length, r2.length]; exact big_line h, fun p hp => ?_⟩
    have st := Stp.alloc (o := .lst (vs ++ ws)) g hp
    exact q _ _ _ st (g.alloc hp fun _ z => by cases z) (.lst upd_same ((r1.append r2).mono st.ex))
  · cases e
theorem Reps.rep {F : Hp} {vs : List V} {xs : List PV} (h : Reps K C F vs xs) : ∀ n : Nat, Reps K C F (List.replicate n vs).flatten (List.replicate n xs).flatten
  | 0 => .nil
  | n + 1 => by
    rw [List.replicate_succ, List.replicate_succ, List.flatten_cons, List.flatten_cons]
    exact h.append (h.rep n)
theorem v_mulL : VOp K C rRep oMulL := by
  intro F H s x y px py pz Q g rx ry e q
  cases px <;> cases py <;> simp only [oMulL, reduceCtorEq] at e
  split at e
  · rename_i h
    cases e
    obtain ⟨l, vs, rfl, h1, r1⟩ := rx.lst_inv
    refine ⟨l, _, vs, rfl, ry.int_inv, g.ex _ _ h1, h.2.1, h.2.2, by rw [r1.length]; exact big_line h.1, fun p hp => ?_⟩
    exact q _ _ _ (Stp.alloc g hp) (g.alloc hp fun _ z => by cases z) (.lst upd_same ((r1.rep _).mono (Stp.alloc g hp).ex))
  · cases e
def rRepS : R2 := fun x y H Q => ∃ i j, x = .str i ∧ y = .int j ∧ i.length * j.toNat ≤ big ∧ -(2 ^ 63) ≤ j ∧ j ≤ big ∧ Q (.str ⟨(List.replicate j.toNat i.cps).foldl (· ++ ·) #[]⟩) H
theorem v_mulS : VOp K C rRepS oMulS := by
  intro F H s x y px py pz Q g rx ry e q
  cases px <;> cases py <;> simp only [oMulS, reduceCtorEq] at e
  split at e
  · rename_i h
    cases e
    exact ⟨_, _, rx.str_inv, ry.int_inv, h.1, h.2.1, h.2.2, q _ F H .refl g (.str _)⟩
  · cases e
theorem v_isN : VOp K C (fun x y H Q => y = .non ∧ Q (.bl (decide (x = .non))) H) oIsN := by
  intro F H s x y px py pz Q g rx ry e q
  cases py <;> simp only [oIsN, reduceCtorEq, Option.some.injEq] at e
  refine ⟨ry.non_inv, q _ F H .refl g ?_⟩
  subst e
  cases rx <;> exact .bl _
theorem v_notN : VOp K C (fun x y H Q => y = .non ∧ Q (.bl (!decide (x = .non))) H) oNotN := by
  intro F H s x y px py pz Q g rx ry e q
  cases py <;> simp only [oNotN, reduceCtorEq, Option.some.injEq] at e
  refine ⟨ry.non_inv, q _ F H .refl g ?_⟩
  subst e
  cases rx <;> exact .bl _
theorem v_isB : VOp K C rIsB oIsB := by
  intro F H s x y px py pz Q g rx ry e q
  cases px <;> cases py <;> simp only [oIsB, reduceCtorEq, Option.some.injEq] at e
  exact ⟨_, _, rx.bl_inv, ry.bl_inv, q _ F H .refl g (e ▸ .bl _)⟩
theorem v_notB : VOp K C rNotB oNotB := by
  intro F H s x y px py pz Q g rx ry e q
  cases px <;> cases py <;> simp only [oNotB, reduceCtorEq, Option.some.injEq] at e
  exact ⟨_, _, rx.bl_inv, ry.bl_inv, q _ F H .refl g (e ▸ .bl _)⟩
/-- indices -/
@[simp] def oIx : O2
  | .lst xs, .int i => atI xs i
  | .tup xs, .int i => atI xs i
  | .scr ns, .int i => (atI ns i).map PV.int
  | .str z, .int i => if z.length ≤ big then (atI z.cps.toList i).map fun c => .str ⟨#[c]⟩ else none
  | _, _ => none
theorem Reps.atI {F : Hp} {vs : List V} {xs : List PV} {i : Int} {x : PV} (r : Reps K C F vs xs) (h : L2.atI xs i = some x) : ∃ v, L2.atI vs i = some v ∧ Rep K C F v x := by
  unfold L2.atI at h ⊢
  rw [r.length]
  cases e : ixN xs.length i with
  | none => rw [e] at h; cases h
  | some j =>
    rw [e] at h
    exact r.get h
theorem v_ix : VOp K C (rIx K) oIx := by
  intro F H s x y px py pz Q g rx ry e q
  cases px <;> cases py <;> simp only [oIx, reduceCtorEq] at e
  · split at e
    · rename_i h
      cases h2 : L2.atI _ _ with
      | none => rw [h2] at e; cases e
      | some c =>
        rw [h2] at e
        cases e
        exact .inr (.inr ⟨_, _, c, rx.str_inv, ry.int_inv, big_line h, h2, q _ F H .refl g (.str _)⟩)
    · cases e
  · obtain ⟨l, vs, rfl, h1, r1⟩ := rx.lst_inv
    obtain ⟨v, h2, r2⟩ := r1.atI e
    exact .inl ⟨l, vs, _, v, rfl, ry.int_inv, .inl (.inl (g.ex _ _ h1)), h2, q _ F H .refl g r2⟩
  · obtain ⟨l, vs, rfl, h1, r1⟩ := rx.tup_inv
    obtain ⟨v, h2, r2⟩ := r1.atI e
    exact .inr (.inl ⟨l, vs, _, v, rfl, ry.int_inv, Ex.seqT g.ex h1, h2, q _ F H .refl g r2⟩)
  · obtain ⟨l, rfl, h1⟩ := rx.scr_inv
    rw [Option.map_eq_some_iff] at e
    obtain ⟨n, h2, rfl⟩ := e
    refine .inl ⟨l, _, _, .int n, rfl, ry.int_inv, Ex.seqL g.ex h1, ?_, q _ F H .refl g (.int _)⟩
    unfold L2.atI at h2 ⊢
    rw [List.length_map]
    cases e3 : ixN _ _ with
    | none => rw [e3] at h2; cases h2
    | some j =>
      rw [e3] at h2
      simp only [Option.bind_some] at h2 ⊢
      rw [List.getElem?_map, h2]
      rfl
end
section
variable {X : Cx}
theorem foldl_size (a : Array Nat) : ∀ (n : Nat) (acc : Array Nat), ((List.replicate n a).foldl (· ++ ·) acc).size = acc.size + n * a.size
  | 0, acc => by simp
  | n + 1, acc => by
    rw [List.replicate_succ, List.foldl_cons, foldl_size a n, Array.size_append, Nat.succ_mul]
    omega
theorem op_mulS : OpR X (binaryOp .Mult) rRepS := by
  intro pins s σ H x y v u Q I rx ry h
  obtain ⟨i, j, rfl, rfl, h1, h2, h3, q⟩ := h
  obtain ⟨t, rfl⟩ := rx
  obtain ⟨t', rfl⟩ := ry
  have hj : j ≤ 1000000 := h3
  have hb : i.length * j.toNat ≤ 1000000 := h1
  refine PySem.P.mul_str (by rw [decide_eq_false (by omega), decide_eq_false (by omega)]; rfl) (fun a b => ?_) (fun a b => ?_) ?_
  · have e1 : (i.length : Int) * j ≤ 1000000 := by
      have : ((i.length * j.toNat : Nat) : Int) ≤ 1000000 := by omega
      rw [Int.natCast_mul, Int.toNat_of_nonneg (by omega)] at this
      exact this
    have e2 : (i.length : Int) ≤ (2 ^ 63 - 1) / j := (Int.le_ediv_iff_mul_le (by omega)).mpr (by omega)
    omega
  · have e : sizeLine = 16777216 := sizeLine_eq
    show decide (i.length * j.toNat > sizeLine) = false
    exact decide_eq_false (by omega)
  · by_cases h1 : j < 1
    · rw [if_pos h1]
      have e : j.toNat = 0 := by omega
      rw [e] at q
      exact ⟨by decide, ⟨.str _, H, I.tok _, ⟨_, rfl⟩, q⟩⟩
    · rw [if_neg h1]
      by_cases h2 : (j == 1 || i.length == 0) = true
      · rw [if_pos h2]
        have key : (⟨(List.replicate j.toNat i.cps).foldl (· ++ ·) #[]⟩ : Str) = i := by
          rcases Bool.or_eq_true_iff.mp h2 with z | z
          · have e : j = 1 := by simpa using z
            subst e
            simp
          · have e : i.cps = #[] := by
              have e' : i.cps.size = 0 := by simpa [Str.length] using z
              exact Array.eq_empty_of_size_eq_zero e'
            obtain ⟨c⟩ := i
            have e' : c = #[] := e
            subst e'
            have : ∀ n : Nat, (List.replicate n (#[] : Array Nat)).foldl (· ++ ·) #[] = #[] := fun n => by
              induction n with
              | zero => rfl
              | succ n ih =>
                rw [List.replicate_succ, List.foldl_cons]
                simpa using ih
            rw [this]
        rw [key] at q
        exact ⟨.str _, H, I, ⟨_, rfl⟩, q⟩
      · rw [if_neg h2]
        refine ⟨?_, ⟨.str _, H, I.tok _, ⟨_, rfl⟩, q⟩⟩
        show ((List.replicate j.toNat i.cps).foldl (· ++ ·) #[]).size ≤ sizeLine
        rw [foldl_size]
        have e : sizeLine = 16777216 := sizeLine_eq
        have e2 : i.length * j.toNat = j.toNat * i.cps.size := Nat.mul_comm _ _
        have e3 : (#[] : Array Nat).size = 0 := rfl
        omega
end
end PF
set_option Elab.async false
set_option linter.all false
set_option maxRecDepth 100000
/-! # Expressions: names, displays, and or not, built-in functions -/
namespace PF
open PySem L2 PySem.Spec PyProof.Rows

/-! ### names and constants -/
@[simp] def fVar (i : Nat) : FE := fun ρ s => match ρ[i]? with
  | some (some (.val v)) => .val v s
  | _ => .stuck
@[simp] def fC (v : PV) : FE := fun _ s => .val v s
section
variable {X : Cx} {C : Lc} {W : WX}
theorem pf_var (i : Nat) {x : Str} {pos : Pos} (hN : X.N[i]? = some x := by rfl) (hv : Vis X.env.scope x := by first | exact Or.inl rfl | exact Or.inr (Or.inl rfl) | exact Or.inr (Or.inr rfl)) (hd : (x == ("__debug__" : Str)) = false := by decide)
    (hcd : (x == ("__classdict__" : Str)) = false := by decide) : PFe X C W (.Name x pos) (fVar i) :=
  PE.imp (pe_var hN hv hd hcd) fun σ H Q h => by
    obtain ⟨F, ρ, s, g, ev, h⟩ := h
    simp only [fVar] at h
    split at h
    · rename_i v e
      obtain ⟨x, h1, h2⟩ := ev.at_ i _ e
      exact ⟨x, h1, ER.ret h g h2⟩
    · exact h.elim
theorem pf_c {e : Expr} {v : V} {x : PV} (h : PE X e (tC v)) (r : ∀ F, Rep X.K C F v x) : PFe X C W e (fC x) :=
  PE.imp h fun σ H Q h => by
    obtain ⟨F, ρ, s, g, ev, h⟩ := h
    exact ER.ret (h : ER X.K C X.mg W (Rep X.K C) σ F H (.val x s) Q) g (r F)
theorem pf_int {i j pos} : PFe X C W (.Constant (.int i) j pos) (fC (.int i)) := pf_c pe_int fun _ => .int i
theorem pf_bl {i j pos} : PFe X C W (.Constant (.bool i) j pos) (fC (.bl i)) := pf_c pe_bl fun _ => .bl i
theorem pf_non {j pos} : PFe X C W (.Constant .none j pos) (fC .non) := pf_c pe_non fun _ => .non
theorem pf_str {x j pos} : PFe X C W (.Constant (.str x) j pos) (fC (.str x)) := pf_c pe_str fun _ => .str x
/-- a constant of the module -/
theorem pf_gint {x : Str} {i : Int} {t : Tok} {pos : Pos} (hm : X.mg x = some (.int i t)) (hg : Gl X x := by rfl) (hd : (x == ("__debug__" : Str)) = false := by decide) : PFe X C W (.Name x pos) (fC (.int i)) :=
  pf_c (v := .int i) (pe_glob hg hm ⟨t, rfl⟩ hd) fun _ => .int i
theorem pf_gref {x : Str} {a : Addr} {v : PV} {pos : Pos} (hm : X.mg x = some (.ref a)) (r : ∀ C F, Rep X.K C F (.ref a) v) (hg : Gl X x := by rfl) (hd : (x == ("__debug__" : Str)) = false := by decide) : PFe X C W (.Name x pos) (fC v) :=
  pf_c (v := .ref a) (pe_glob hg hm rfl hd) fun F => r C F

/-! ### argument lists, displays -/
@[simp] def fNil : FA := fun _ s => .val [] s
@[simp] def fCons (f : FE) (r : FA) : FA := fun ρ s => (f ρ s).bind fun x s1 => (r ρ s1).bind fun xs s2 => .val (x :: xs) s2
theorem pf_nil : PFa X C W [] fNil := PA.imp pa_nil fun σ H Q h => by
  obtain ⟨F, ρ, s, g, ev, h⟩ := h
  exact ER.ret (h : ER X.K C X.mg W (Reps X.K C) σ F H (.val [] s) Q) g .nil
theorem pf_cons {e : Expr} {es : List Expr} {f : FE} {r : FA} (he : PFe X C W e f) (hr : PFa X C W es r) (hs : starEach (e :: es) X.env = (false, eval e X.env) :: starEach es X.env := by rfl) : PFa X C W (e :: es) (fCons f r) :=
  PA.imp (pa_cons he hr hs) fun σ H Q h => by
    obtain ⟨F, ρ, s, g, ev, h⟩ := h
    refine ⟨F, ρ, s, g, ev, ER.bind h fun x s1 v F1 H1 _ p1 g1 r1 h1 => ?_⟩
    refine ⟨F1, ρ, s1, g1, ev.stp p1, ER.bind h1 fun xs s2 vs F2 H2 _ p2 g2 r2 h2 => ?_⟩
    exact ER.ret (h2 : ER X.K C X.mg W (Reps X.K C) σ F2 H2 (.val (x :: xs) s2) Q) g2 (.cons (r1.mono p2.ex) r2)
@[simp] def fTup (a : FA) : FE := fun ρ s => (a ρ s).bind fun xs s1 => if xs.length ≤ big then .val (.tup xs) s1 else .stuck
@[simp] def fLst (a : FA) : FE := fun ρ s => (a ρ s).bind fun xs s1 => if xs.length ≤ big then .val (.lst xs) s1 else .stuck
theorem pf_tup {es : List Expr} {fa : FA} {x1} {pos : Pos} (h : PFa X C W es fa) : PFe X C W (.Tuple es x1 pos) (fTup fa) :=
  PE.imp (pe_tup h) fun σ H Q h => by
    obtain ⟨F, ρ, s, g, ev, h⟩ := h
    refine ⟨F, ρ, s, g, ev, ER.bind h fun x s1 v F1 H1 _ p1 g1 r1 h1 => ?_⟩
    split at h1
    · rename_i hl
      refine ⟨by rw [r1.length]; exact big_line hl, fun p hp => ?_⟩
      exact h1.new g1 hp (fun _ z => by cases z) (.tup (.inl (.inl upd_same)) (r1.mono (Stp.alloc g1 hp).ex))
    · exact h1.elim
theorem pf_lst {es : List Expr} {fa : FA} {pos : Pos} (h : PFa X C W es fa) : PFe X C W (.List es pos) (fLst fa) :=
  PE.imp (pe_lst h) fun σ H Q h => by
    obtain ⟨F, ρ, s, g, ev, h⟩ := h
    refine ⟨F, ρ, s, g, ev, ER.bind h fun x s1 v F1 H1 _ p1 g1 r1 h1 => ?_⟩
    split at h1
    · rename_i hl
      refine ⟨by rw [r1.length]; exact big_line hl, fun p hp => ?_⟩
      exact h1.new g1 hp (fun _ z => by cases z) (.lst upd_same (r1.mono (Stp.alloc g1 hp).ex))
    · exact h1.elim

/-! ### tests, and, or, not -/
@[simp] def toB (x : PV) (s : PS) : R Bool := match x with
  | .bl b => .val b s
  | _ => .stuck
@[simp] def fTest (f : FE) : FT := fun ρ s => (f ρ s).bind toB
@[simp] def fAndT (f g : FT) : FT := fun ρ s => (f ρ s).bind fun b s1 => if b = true then g ρ s1 else .val false s1
@[simp] def fOrT (f g : FT) : FT := fun ρ s => (f ρ s).bind fun b s1 => if b = true then .val true s1 else g ρ s1
@[simp] def fNotT (f : FT) : FT := fun ρ s => (f ρ s).bind fun b s1 => .val (!b) s1
@[simp] def fAndV (f g : FE) : FE := fun ρ s => (f ρ s).bind fun x s1 => (toB x s1).bind fun b s1 => if b = true then g ρ s1 else .val (.bl false) s1
@[simp] def fOrV (f g : FE) : FE := fun ρ s => (f ρ s).bind fun x s1 => (toB x s1).bind fun b s1 => if b = true then .val (.bl true) s1 else g ρ s1
@[simp] def fNotV (f : FE) : FE := fun ρ s => (f ρ s).bind fun x s1 => (toB x s1).bind fun b s1 => .val (.bl (!b)) s1
@[simp] def fIf (c : FT) (f g : FE) : FE := fun ρ s => (c ρ s).bind fun b s1 => if b = true then f ρ s1 else g ρ s1
abbrev PFw (X : Cx) (C : Lc) (W : WX) (e : Expr) (f : FT) : Prop := PW X e (denT X.K C X.mg W f)
theorem PW.imp {X : Cx} {e : Expr} {t t' : TT} (h : PW X e t) (i : ∀ σ H Q, t' σ H Q → t σ H Q) : PW X e t' := ⟨fun w pins s σ H Q I q => h.run w pins s σ H Q I (i σ H Q q)⟩
section
variable {a b e c : Expr} {fa fb : FE} {f g : FT} {pos : Pos} {rest : List Expr}
theorem pf_test (h : PFe X C W e fa) (he : ∀ whole, isTrue e X.env whole = (do let v ← whole; standAt e.pos; holding [v] (truthy v)) := by intro _; rfl) : PFt X C W e (fTest fa) :=
  PT.imp (pt_val h he) fun σ H Q h => by
    obtain ⟨F, ρ, s, g, ev, h⟩ := h
    refine ⟨F, ρ, s, g, ev, ER.bind h fun x s1 v F1 H1 _ p1 g1 r1 h1 => ?_⟩
    cases x <;> first | exact h1.elim | skip
    exact ⟨_, r1.bl_inv, ER.ret h1 g1 rfl⟩
theorem pf_testC {op : CmpOp} {r : R2} {o : O2} (ho : OpR X (compareOp op) r) (hv : VOp X.K C r o) (ha : PFe X C W a fa) (hb : PFe X C W b fb) (hm : behindInMarks op b = false := by rfl) : PFt X C W (.Compare a [op] [b] pos) (fTest (fBin o fa fb)) :=
  PT.imp (pt_cmpR ho ha hb hm) fun σ H Q h => by
    obtain ⟨F, ρ, s, g, ev, h⟩ := h
    refine den_bin hv σ H _ ⟨F, ρ, s, g, ev, ER.bind h fun x s1 v F1 H1 _ p1 g1 r1 h1 => ?_⟩
    cases x <;> first | exact h1.elim | skip
    exact ⟨_, r1.bl_inv, ER.ret h1 g1 rfl⟩
theorem pf_pt (h : PFw X C W e f) : PFt X C W e f := h.pt
theorem pf_and1 (h : PFt X C W a f) : PFw X C W (.BoolOp .And [a] pos) f := pw_and1 h
theorem pf_or1 (h : PFt X C W a f) : PFw X C W (.BoolOp .Or [a] pos) f := pw_or1 h
theorem pf_andT (ha : PFt X C W a f) (hb : PFw X C W (.BoolOp .And (b :: rest) pos) g) : PFw X C W (.BoolOp .And (a :: b :: rest) pos) (fAndT f g) :=
  PW.imp (pw_and ha hb) fun σ H Q h => by
    obtain ⟨F, ρ, s, g, ev, h⟩ := h
    refine ⟨F, ρ, s, g, ev, ER.bind h fun x s1 v F1 H1 _ p1 g1 r1 h1 => ?_⟩
    cases r1
    cases x with
    | true => exact ⟨F1, ρ, s1, g1, ev.stp p1, h1⟩
    | false => exact ER.ret h1 g1 rfl
theorem pf_orT (ha : PFt X C W a f) (hb : PFw X C W (.BoolOp .Or (b :: rest) pos) g) : PFw X C W (.BoolOp .Or (a :: b :: rest) pos) (fOrT f g) :=
  PW.imp (pw_or ha hb) fun σ H Q h => by
    obtain ⟨F, ρ, s, g, ev, h⟩ := h
    refine ⟨F, ρ, s, g, ev, ER.bind h fun x s1 v F1 H1 _ p1 g1 r1 h1 => ?_⟩
    cases r1
    cases x with
    | true => exact ER.ret h1 g1 rfl
    | false => exact ⟨F1, ρ, s1, g1, ev.stp p1, h1⟩
theorem pf_notT (ha : PFt X C W a f) : PFt X C W (.UnaryOp .Not a pos) (fNotT f) :=
  PT.imp (pt_not ha) fun σ H Q h => by
    obtain ⟨F, ρ, s, g, ev, h⟩ := h
    refine ⟨F, ρ, s, g, ev, ER.bind h fun x s1 v F1 H1 _ p1 g1 r1 h1 => ?_⟩
    cases r1
    exact ER.ret h1 g1 rfl
theorem pf_one {op} (h : PFe X C W a fa) : PFe X C W (.BoolOp op [a] pos) fa := pe_one h
theorem pf_andV (ha : PFe X C W a fa) (hb : PFe X C W (.BoolOp .And (b :: rest) pos) fb) : PFe X C W (.BoolOp .And (a :: b :: rest) pos) (fAndV fa fb) :=
  PE.imp (pe_and ha hb) fun σ H Q h => by
    obtain ⟨F, ρ, s, g, ev, h⟩ := h
    refine ⟨F, ρ, s, g, ev, ER.bind h fun x s1 v F1 H1 _ p1 g1 r1 h1 => ?_⟩
    cases x with
    | bl c =>
      refine ⟨c, r1.bl_inv, ?_⟩
      cases c with
      | true => exact ⟨F1, ρ, s1, g1, ev.stp p1, h1⟩
      | false => exact ER.ret h1 g1 (.bl _)
    | _ => exact h1.elim
theorem pf_orV (ha : PFe X C W a fa) (hb : PFe X C W (.BoolOp .Or (b :: rest) pos) fb) : PFe X C W (.BoolOp .Or (a :: b :: rest) pos) (fOrV fa fb) :=
  PE.imp (pe_or ha hb) fun σ H Q h => by
    obtain ⟨F, ρ, s, g, ev, h⟩ := h
    refine ⟨F, ρ, s, g, ev, ER.bind h fun x s1 v F1 H1 _ p1 g1 r1 h1 => ?_⟩
    cases x with
    | bl c =>
      refine ⟨c, r1.bl_inv, ?_⟩
      cases c with
      | true => exact ER.ret h1 g1 (.bl _)
      | false => exact ⟨F1, ρ, s1, g1, ev.stp p1, h1⟩
    | _ => exact h1.elim
theorem pf_notV (ha : PFe X C W a fa) : PFe X C W (.UnaryOp .Not a pos) (fNotV fa) :=
  PE.imp (pe_not ha) fun σ H Q h => by
    obtain ⟨F, ρ, s, g, ev, h⟩ := h
    refine ⟨F, ρ, s, g, ev, ER.bind h fun x s1 v F1 H1 _ p1 g1 r1 h1 => ?_⟩
    cases x with
    | bl c => exact ⟨c, r1.bl_inv, ER.ret h1 g1 (.bl _)⟩
    | _ => exact h1.elim
theorem pf_if (hc : PFt X C W c f) (ha : PFe X C W a fa) (hb : PFe X C W b fb) : PFe X C W (.IfExp c a b pos) (fIf f fa fb) :=
  PE.imp (pe_ifExp hc ha hb) fun σ H Q h => by
    obtain ⟨F, ρ, s, g, ev, h⟩ := h
    refine ⟨F, ρ, s, g, ev, ER.bind h fun x s1 v F1 H1 _ p1 g1 r1 h1 => ?_⟩
    cases r1
    cases x with
    | true => exact ⟨F1, ρ, s1, g1, ev.stp p1, h1⟩
    | false => exact ⟨F1, ρ, s1, g1, ev.stp p1, h1⟩
end

/-! ### built-in functions of values -/
abbrev OL := List PV → Option PV
def VCall (K : PySem.W.Frag) (C : Lc) (r : List V → Hp → VK → Prop) (fo : OL) : Prop :=
  ∀ (F H : Hp) (s : PS) (vs : List V) (xs : List PV) (pz : PV) (Q : VK), G C F H s → Reps K C F vs xs → fo xs = some pz →
    (∀ z F' H', Stp C F H F' H' → G C F' H' s → Rep K C F' z pz → Q z H') → r vs H Q
theorem CallR.or2 {X : Cx} {f : Value} {r r' : List V → Hp → VK → Prop} (h : CallR X f r) (h' : CallR X f r') : CallR X f (fun xs H Q => r xs H Q ∨ r' xs H Q) := by
  intro pins s σ H xs us Q I rx q
  rcases q with q | q
  · exact h pins s σ H xs us Q I rx q
  · exact h' pins s σ H xs us Q I rx q
theorem VCall.or2 {K : PySem.W.Frag} {C : Lc} {r r' : List V → Hp → VK → Prop} {f f' : OL} (h : VCall K C r f) (h' : VCall K C r' f') : VCall K C (fun xs H Q => r xs H Q ∨ r' xs H Q) (fun x => (f x).or (f' x)) := by
  intro F H s vs xs pz Q g rx e q
  have e : (f xs).or (f' xs) = some pz := e
  cases e1 : f xs with
  | some a =>
    rw [e1] at e
    have e' : some a = some pz := e
    cases e'
    exact .inl (h F H s vs xs _ Q g rx e1 q)
  | none =>
    rw [e1] at e
    exact .inr (h' F H s vs xs _ Q g rx e q)
@[simp] def fCallB (o : OL) (a : FA) : FE := fun ρ s => (a ρ s).bind fun xs s1 => ofO (o xs) s1
theorem den_callB {r : List V → Hp → VK → Prop} {o : OL} {fa : FA} (hv : VCall X.K C r o) (σ : L2.St) (H : Hp) (Q : VK) (h : den X.K C X.mg W (fCallB o fa) σ H Q) : tCB r (denA X.K C X.mg W fa) σ H Q := by
  obtain ⟨F, ρ, s, g, ev, h⟩ := h
  refine ⟨F, ρ, s, g, ev, ER.bind h fun x s1 v F1 H1 _ p1 g1 r1 h1 => ?_⟩
  cases e : o x with
  | none =>
    simp only [e, ofO] at h1
    exact h1.elim
  | some z =>
    simp only [e, ofO] at h1
    exact hv F1 H1 s1 v x z Q g1 r1 e fun w F' H' p' g' rw' => h1 w F' H' p' g' rw'
section
variable {x : Str} {p pos : Pos} {e : Expr} {es : List Expr} {fa : FA} {id T : String} {r : List V → Hp → VK → Prop} {o : OL}
theorem pf_callB (hc : CallR X (.builtin id) r) (hv : VCall X.K C r o) (hm : X.mg x = none) (ha : PFa X C W (e :: es) fa) (hb : bootBuiltins x = some (.builtin id) := by decide +kernel) (hg : Gl X x := by rfl) (hn : x ≠ "__name__" := by decide) (hdb : (x == ("__debug__" : Str)) = false := by decide)
    (he : starEach (e :: es) X.env = (false, eval e X.env) :: starEach es X.env := by rfl) (hpl : (backTo pos (starEach es X.env)).any (·.1) = false := by rfl) : PFe X C W (.Call (.Name x p) (e :: es) [] pos) (fCallB o fa) :=
  PE.imp (pe_callB hc hg hm hb ha hn hdb he hpl) fun σ H Q h => den_callB hv σ H Q h
theorem pf_callTy (hc : CallR X (.type T) r) (hv : VCall X.K C r o) (hm : X.mg x = none) (ha : PFa X C W (e :: es) fa) (hb : bootBuiltins x = some (.type T) := by decide +kernel) (hg : Gl X x := by rfl) (hn : x ≠ "__name__" := by decide) (hdb : (x == ("__debug__" : Str)) = false := by decide)
    (he : starEach (e :: es) X.env = (false, eval e X.env) :: starEach es X.env := by rfl) (hpl : (backTo pos (starEach es X.env)).any (·.1) = false := by rfl) : PFe X C W (.Call (.Name x p) (e :: es) [] pos) (fCallB o fa) :=
  PE.imp (pe_callTy hc hg hm hb ha hn hdb he hpl) fun σ H Q h => den_callB hv σ H Q h
end
end

def intsOf : List PV → Option (List Int)
  | [] => some []
  | .int i :: r => (intsOf r).map (i :: ·)
  | _ :: _ => none
def blsOf : List PV → Option (List Bool)
  | [] => some []
  | .bl i :: r => (blsOf r).map (i :: ·)
  | _ :: _ => none
def strsOf : List PV → Option (List Str)
  | [] => some []
  | .str i :: r => (strsOf r).map (i :: ·)
  | _ :: _ => none
@[simp] theorem intsOf_map (l : List Int) : intsOf (l.map PV.int) = some l := by
  induction l with
  | nil => rfl
  | cons i r ih => rw [List.map_cons, intsOf, ih]; rfl
@[simp] theorem blsOf_map (l : List Bool) : blsOf (l.map PV.bl) = some l := by
  induction l with
  | nil => rfl
  | cons i r ih => rw [List.map_cons, blsOf, ih]; rfl
@[simp] theorem strsOf_map (l : List Str) : strsOf (l.map PV.str) = some l := by
  induction l with
  | nil => rfl
  | cons i r ih => rw [List.map_cons, strsOf, ih]; rfl
theorem intsOf_inv : ∀ {xs : List PV} {ns : List Int}, intsOf xs = some ns → xs = ns.map PV.int
  | [], _, h => by cases h; rfl
  | .int i :: r, ns, h => by
    rw [intsOf] at h
    cases e : intsOf r with
    | none => rw [e] at h; cases h
    | some l => rw [e] at h; cases h; rw [intsOf_inv e]; rfl
  | .non :: _, _, h | .bl _ :: _, _, h | .str _ :: _, _, h | .lst _ :: _, _, h | .tup _ :: _, _, h | .dic _ :: _, _, h | .pot :: _, _, h | .scr _ :: _, _, h => by simp [intsOf] at h
theorem blsOf_inv : ∀ {xs : List PV} {ns : List Bool}, blsOf xs = some ns → xs = ns.map PV.bl
  | [], _, h => by cases h; rfl
  | .bl i :: r, ns, h => by
    rw [blsOf] at h
    cases e : blsOf r with
    | none => rw [e] at h; cases h
    | some l => rw [e] at h; cases h; rw [blsOf_inv e]; rfl
  | .non :: _, _, h | .int _ :: _, _, h | .str _ :: _, _, h | .lst _ :: _, _, h | .tup _ :: _, _, h | .dic _ :: _, _, h | .pot :: _, _, h | .scr _ :: _, _, h => by simp [blsOf] at h
theorem strsOf_inv : ∀ {xs : List PV} {ns : List Str}, strsOf xs = some ns → xs = ns.map PV.str
  | [], _, h => by cases h; rfl
  | .str i :: r, ns, h => by
    rw [strsOf] at h
    cases e : strsOf r with
    | none => rw [e] at h; cases h
    | some l => rw [e] at h; cases h; rw [strsOf_inv e]; rfl
  | .non :: _, _, h | .bl _ :: _, _, h | .int _ :: _, _, h | .lst _ :: _, _, h | .tup _ :: _, _, h | .dic _ :: _, _, h | .pot :: _, _, h | .scr _ :: _, _, h => by simp [strsOf] at h
section
variable {K : PySem.W.Frag} {C : Lc} {F : Hp}
theorem Reps.ints : ∀ {ns : List Int} {vs : List V}, Reps K C F vs (ns.map PV.int) → vs = ns.map V.int
  | [], _, h => by cases h; rfl
  | n :: ns, _, h => by cases h with | cons h r => rw [h.int_inv, Reps.ints r]; rfl
theorem Reps.bls : ∀ {ns : List Bool} {vs : List V}, Reps K C F vs (ns.map PV.bl) → vs = ns.map V.bl
  | [], _, h => by cases h; rfl
  | n :: ns, _, h => by cases h with | cons h r => rw [h.bl_inv, Reps.bls r]; rfl
theorem Reps.strs : ∀ {ns : List Str} {vs : List V}, Reps K C F vs (ns.map PV.str) → vs = ns.map V.str
  | [], _, h => by cases h; rfl
  | n :: ns, _, h => by cases h with | cons h r => rw [h.str_inv, Reps.strs r]; rfl
theorem Reps.one_inv {vs : List V} {x : PV} (h : Reps K C F vs [x]) : ∃ v, vs = [v] ∧ Rep K C F v x := by
  cases h with | cons h r => cases r; exact ⟨_, rfl, h⟩
theorem Reps.two_inv {vs : List V} {x y : PV} (h : Reps K C F vs [x, y]) : ∃ v u, vs = [v, u] ∧ Rep K C F v x ∧ Rep K C F u y := by
  cases h with | cons h r => cases r with | cons h2 r => cases r; exact ⟨_, _, rfl, h, h2⟩

@[simp] def oAbs : OL | [.int i] => some (.int (if i < 0 then -i else i)) | _ => none
@[simp] def oMax2 : OL | [.int i, .int j] => some (.int (if j > i then j else i)) | _ => none
@[simp] def oMin2 : OL | [.int i, .int j] => some (.int (if j < i then j else i)) | _ => none
@[simp] def oInt : OL | [.int i] => some (.int i) | [.bl k] => some (.int (if k = true then 1 else 0)) | _ => none
@[simp] def oLen : OL | [.lst xs] => some (.int xs.length) | [.tup xs] => some (.int xs.length) | [.scr ns] => some (.int ns.length) | [.str z] => if z.length ≤ big then some (.int z.length) else none | _ => none
@[simp] def oSum : OL | [.lst xs] => (intsOf xs).map fun ns => .int ns.sum | _ => none
@[simp] def oAll : OL | [.lst xs] => (blsOf xs).map fun ns => .bl (ns.all id) | _ => none
@[simp] def oAny : OL | [.lst xs] => (blsOf xs).map fun ns => .bl (ns.any id) | _ => none
@[simp] def oList : OL | [.lst xs] => some (.lst xs) | [.tup xs] => some (.lst xs) | _ => none
@[simp] def oTuple : OL | [.lst xs] => some (.tup xs) | [.tup xs] => some (.tup xs) | _ => none
@[simp] def oDivmod : OL | [.int i, .int j] => if 0 < j ∧ j < 1073741824 then some (.tup [.int (i / j), .int (i % j)]) else none | _ => none
theorem v_abs : VCall K C (fun xs H Q => ∃ i, xs = [.int i] ∧ Q (.int (if i < 0 then -i else i)) H) oAbs := by
  intro F H s vs xs pz Q g rx e q
  match xs, e with
  | [.int i], e =>
    cases e
    obtain ⟨v, rfl, r⟩ := rx.one_inv
    exact ⟨i, by rw [r.int_inv], q _ F H .refl g (.int _)⟩
theorem v_max2 : VCall K C (fun xs H Q => ∃ i j, xs = [.int i, .int j] ∧ Q (.int (if j > i then j else i)) H) oMax2 := by
  intro F H s vs xs pz Q g rx e q
  match xs, e with
  | [.int i, .int j], e =>
    cases e
    obtain ⟨v, u, rfl, r, r2⟩ := rx.two_inv
    exact ⟨i, j, by rw [r.int_inv, r2.int_inv], q _ F H .refl g (.int _)⟩
theorem v_min2 : VCall K C (fun xs H Q => ∃ i j, xs = [.int i, .int j] ∧ Q (.int (if j < i then j else i)) H) oMin2 := by
  intro F H s vs xs pz Q g rx e q
  match xs, e with
  | [.int i, .int j], e =>
    cases e
    obtain ⟨v, u, rfl, r, r2⟩ := rx.two_inv
    exact ⟨i, j, by rw [r.int_inv, r2.int_inv], q _ F H .refl g (.int _)⟩
theorem v_int : VCall K C (fun xs H Q => (∃ i, xs = [.int i] ∧ Q (.int i) H) ∨ ∃ k, xs = [.bl k] ∧ Q (.int (if k then 1 else 0)) H) oInt := by
  intro F H s vs xs pz Q g rx e q
  match xs, e with
  | [.int i], e =>
    cases e
    obtain ⟨v, rfl, r⟩ := rx.one_inv
    exact .inl ⟨i, by rw [r.int_inv], q _ F H .refl g (.int _)⟩
  | [.bl i], e =>
    cases e
    obtain ⟨v, rfl, r⟩ := rx.one_inv
    exact .inr ⟨i, by rw [r.bl_inv], q _ F H .refl g (.int _)⟩
def rLenA (K : PySem.W.Frag) : List V → Hp → VK → Prop := fun xs H Q => (∃ p ys, xs = [.ref p] ∧ (SqL K H p ys ∨ SqT K H p ys) ∧ Q (.int ys.length) H) ∨ ∃ z, xs = [.str z] ∧ z.length ≤ sizeLine ∧ Q (.int z.length) H
theorem v_len : VCall K C (rLenA K) oLen := by
  intro F H s vs xs pz Q g rx e q
  match xs, e with
  | [.lst ys], e =>
    cases e
    obtain ⟨v, rfl, r⟩ := rx.one_inv
    obtain ⟨a, ws, rfl, h1, h2⟩ := r.lst_inv
    refine .inl ⟨a, ws, rfl, .inl (.inl (.inl (g.ex _ _ h1))), ?_⟩
    rw [h2.length]
    exact q _ F H .refl g (.int _)
  | [.tup ys], e =>
    cases e
    obtain ⟨v, rfl, r⟩ := rx.one_inv
    obtain ⟨a, ws, rfl, h1, h2⟩ := r.tup_inv
    refine .inl ⟨a, ws, rfl, .inr (Ex.seqT g.ex h1), ?_⟩
    rw [h2.length]
    exact q _ F H .refl g (.int _)
  | [.scr ns], e =>
    cases e
    obtain ⟨v, rfl, r⟩ := rx.one_inv
    obtain ⟨a, rfl, h1⟩ := r.scr_inv
    refine .inl ⟨a, _, rfl, .inl (Ex.seqL g.ex h1), ?_⟩
    rw [List.length_map]
    exact q _ F H .refl g (.int _)
  | [.str z], e =>
    simp only [oLen] at e
    split at e
    · rename_i h
      cases e
      obtain ⟨v, rfl, r⟩ := rx.one_inv
      exact .inr ⟨z, by rw [r.str_inv], big_line h, q _ F H .refl g (.int _)⟩
    · cases e
theorem v_sum : VCall K C (rSum K) oSum := by
  intro F H s vs xs pz Q g rx e q
  match xs, e with
  | [.lst ys], e =>
    simp only [oSum, Option.map_eq_some_iff] at e
    obtain ⟨ns, e2, rfl⟩ := e
    obtain ⟨v, rfl, r⟩ := rx.one_inv
    obtain ⟨a, ws, rfl, h1, h2⟩ := r.lst_inv
    rw [intsOf_inv e2] at h2
    rw [h2.ints] at h1
    exact ⟨a, ns, rfl, .inl (.inl (g.ex _ _ h1)), q _ F H .refl g (.int _)⟩
theorem v_all : VCall K C (rAll K) oAll := by
  intro F H s vs xs pz Q g rx e q
  match xs, e with
  | [.lst ys], e =>
    simp only [oAll, Option.map_eq_some_iff] at e
    obtain ⟨ns, e2, rfl⟩ := e
    obtain ⟨v, rfl, r⟩ := rx.one_inv
    obtain ⟨a, ws, rfl, h1, h2⟩ := r.lst_inv
    rw [blsOf_inv e2] at h2
    rw [h2.bls] at h1
    exact ⟨a, ns, rfl, .inl (.inl (g.ex _ _ h1)), q _ F H .refl g (.bl _)⟩
theorem v_any : VCall K C (rAny K) oAny := by
  intro F H s vs xs pz Q g rx e q
  match xs, e with
  | [.lst ys], e =>
    simp only [oAny, Option.map_eq_some_iff] at e
    obtain ⟨ns, e2, rfl⟩ := e
    obtain ⟨v, rfl, r⟩ := rx.one_inv
    obtain ⟨a, ws, rfl, h1, h2⟩ := r.lst_inv
    rw [blsOf_inv e2] at h2
    rw [h2.bls] at h1
    exact ⟨a, ns, rfl, .inl (.inl (g.ex _ _ h1)), q _ F H .refl g (.bl _)⟩
theorem v_list : VCall K C (fun xs H Q => ∃ p ys, xs = [.ref p] ∧ (SqL K H p ys ∨ SqT K H p ys) ∧ ∀ l, H l = none → Q (.ref l) (upd H l (.lst ys))) oList := by
  intro F H s vs xs pz Q g rx e q
  match xs, e with
  | [.lst ys], e =>
    cases e
    obtain ⟨v, rfl, r⟩ := rx.one_inv
    obtain ⟨a, ws, rfl, h1, h2⟩ := r.lst_inv
    exact ⟨a, ws, rfl, .inl (.inl (.inl (g.ex _ _ h1))), fun p hp => q _ _ _ (Stp.alloc g hp) (g.alloc hp fun _ z => by cases z) (.lst upd_same (h2.mono (Stp.alloc g hp).ex))⟩
  | [.tup ys], e =>
    cases e
    obtain ⟨v, rfl, r⟩ := rx.one_inv
    obtain ⟨a, ws, rfl, h1, h2⟩ := r.tup_inv
    exact ⟨a, ws, rfl, .inr (Ex.seqT g.ex h1), fun p hp => q _ _ _ (Stp.alloc g hp) (g.alloc hp fun _ z => by cases z) (.lst upd_same (h2.mono (Stp.alloc g hp).ex))⟩
theorem v_tuple : VCall K C (fun xs H Q => ∃ p ys, xs = [.ref p] ∧ ((SqL K H p ys ∧ ∀ l, H l = none → Q (.ref l) (upd H l (.tup ys))) ∨ (SqT K H p ys ∧ Q (.ref p) H))) oTuple := by
  intro F H s vs xs pz Q g rx e q
  match xs, e with
  | [.lst ys], e =>
    cases e
    obtain ⟨v, rfl, r⟩ := rx.one_inv
    obtain ⟨a, ws, rfl, h1, h2⟩ := r.lst_inv
    exact ⟨a, ws, rfl, .inl ⟨.inl (.inl (g.ex _ _ h1)), fun p hp => q _ _ _ (Stp.alloc g hp) (g.alloc hp fun _ z => by cases z) (.tup (.inl (.inl upd_same)) (h2.mono (Stp.alloc g hp).ex))⟩⟩
  | [.tup ys], e =>
    cases e
    obtain ⟨v, rfl, r⟩ := rx.one_inv
    obtain ⟨a, ws, rfl, h1, h2⟩ := r.tup_inv
    exact ⟨a, ws, rfl, .inr ⟨Ex.seqT g.ex h1, q _ F H .refl g r⟩⟩
theorem v_divmod : VCall K C (fun xs H Q => ∃ i j, xs = [.int i, .int j] ∧ CDivP i j ∧ ∀ p, H p = none → Q (.ref p) (upd H p (.tup [.int (i / j), .int (i % j)]))) oDivmod := by
  intro F H s vs xs pz Q g rx e q
  match xs, e with
  | [.int i, .int j], e =>
    simp only [oDivmod] at e
    split at e
    · rename_i h
      cases e
      obtain ⟨v, u, rfl, r, r2⟩ := rx.two_inv
      exact ⟨i, j, by rw [r.int_inv, r2.int_inv], ⟨h.1, PyProof.noPylong_small (by omega)⟩, fun p hp => q _ _ _ (Stp.alloc g hp) (g.alloc hp fun _ z => by cases z) (.tup (.inl (.inl upd_same)) (.cons (.int _) (.cons (.int _) .nil)))⟩
    · cases e
end
/-! isinstance -/
inductive Ty where
  | int | bool | str | list | tuple | dict
@[simp] def Ty.nm : Ty → String
  | .int => "int" | .bool => "bool" | .str => "str" | .list => "list" | .tuple => "tuple" | .dict => "dict"
@[simp] def isTy : Ty → PV → Bool
  | .int, .int _ => true
  | .int, .bl _ => true
  | .bool, .bl _ => true
  | .str, .str _ => true
  | .list, .lst _ => true
  | .list, .pot => true
  | .list, .scr _ => true
  | .tuple, .tup _ => true
  | .dict, .dic _ => true
  | _, _ => false
def tyN : PV → String
  | .non => "NoneType" | .bl _ => "bool" | .int _ => "int" | .str _ => "str" | .lst _ => "list" | .tup _ => "tuple" | .dic _ => "dict" | .pot => "list" | .scr _ => "list"
theorem kit_is (K : PySem.W.Frag) (x : PV) (T : Ty) : PySem.W.kitOne K (.type (tyN x)) (.type T.nm) = some (isTy T x) := by
  cases x <;> cases T <;> (simp only [tyN, Ty.nm, isTy]; exact kit_ty (by decide +kernel))
section
variable {K : PySem.W.Frag} {C : Lc} {F H : Hp} {s : PS}
theorem Rep.tyX {v : V} {x : PV} (g : G C F H s) (hx : ∀ ns, x ≠ .scr ns) (h : Rep K C F v x) : TyX K H v (.type (tyN x)) := by
  cases h with
  | non => exact .base .non
  | bl b => exact .base (.bl b)
  | int i => exact .base (.int i)
  | str x => exact .base (.str x)
  | lst h r => exact .base (.lst (g.ex _ _ h))
  | tup h r =>
    rcases h with (h | ⟨o, h⟩) | ⟨o, its, n, h1, h2, _⟩
    · exact .base (.tup (g.ex _ _ h))
    · exact .fTuple (g.ex _ _ h)
    · exact .kTuple h1 h2
  | dic h r => exact .base (.dK (g.ex _ _ h))
  | pot h =>
    cases s with
    | none =>
      have z : C.l = none := g.pot
      rw [z] at h
      cases h
    | some xy =>
      obtain ⟨a, h1, h2, h3⟩ := (show ∃ a, C.l = some a ∧ F a = none ∧ H a = some (.lst [.int xy.1, .int xy.2]) from g.pot)
      rw [h1] at h
      cases h
      exact .base (.lst h3)
  | scr h => exact (hx _ rfl).elim
end
@[simp] def fIsi (T : Ty) (a : FE) : FE := fun ρ s => (a ρ s).bind fun x s1 => match x with
  | .scr _ => .stuck
  | x => .val (.bl (isTy T x)) s1
section
variable {X : Cx} {C : Lc} {W : WX} {e : Expr} {fa : FE} {p p2 p3 p4 pos : Pos}
theorem pf_isi (T : Ty) {x : Str} (hm : X.mg "isinstance" = none) (hm2 : X.mg x = none) (he : PFe X C W e fa) (hx : bootBuiltins x = some (.type T.nm) := by decide +kernel) (hg : Gl X "isinstance" := by rfl) (hg2 : Gl X x := by rfl) (hn : x ≠ "__name__" := by decide) (hd : (x == ("__debug__" : Str)) = false := by decide)
    (h1 : starEach [e, .Name x p2] X.env = (false, eval e X.env) :: starEach [.Name x p2] X.env := by rfl) (h2 : starEach [.Name x p2] X.env = (false, eval (.Name x p2) X.env) :: starEach [] X.env := by rfl)
    (hpl : (backTo pos (starEach [.Name x p2] X.env)).any (·.1) = false := by rfl) : PFe X C W (.Call (.Name "isinstance" p) [e, .Name x p2] [] pos) (fIsi T fa) :=
  PE.imp (pe_callB call_isi hg hm (by decide +kernel) (pa_cons he (pa_cons (pe_bltn (v := .ty T.nm) hg2 hm2 hx rfl hn hd) pa_nil h2) h1) (by decide) (by decide) h1 hpl) fun σ H Q h => by
    obtain ⟨F, ρ, s, g, ev, h⟩ := h
    refine ⟨F, ρ, s, g, ev, ER.bind h fun x s1 v F1 H1 _ p1 g1 r1 h1 => ?_⟩
    have hx : ∀ ns, x ≠ .scr ns := fun ns e => by subst e; exact h1
    have h1 : ER X.K C X.mg W (Rep X.K C) σ F1 H1 (.val (.bl (isTy T x)) s1) Q := by
      cases x <;> first | exact h1 | exact (hx _ rfl).elim
    exact ⟨v, .ty T.nm, _, _, _, rfl, .ty _, r1.tyX g1 hx, kit_is _ _ _, ER.ret h1 g1 (.bl _)⟩
end
end PF
set_option Elab.async false
set_option linter.all false
set_option maxRecDepth 100000
/-! # Slices, join, repr; what is walked; targets; comprehensions -/
namespace PF
open PySem L2 PySem.Spec PyProof.Rows

theorem PE.or2 {X : Cx} {e : Expr} {t t' : TE} (h : PE X e t) (h' : PE X e t') : PE X e (fun σ H Q => t σ H Q ∨ t' σ H Q) :=
  ⟨fun pins s σ H Q I q => q.elim (h.run pins s σ H Q I) (h'.run pins s σ H Q I)⟩
theorem PI.or2 {X : Cx} {tg e : Expr} {t t' : TI} (h : PI X tg e t) (h' : PI X tg e t') : PI X tg e (fun σ H Q => t σ H Q ∨ t' σ H Q) :=
  ⟨fun pins s σ H Q I q => q.elim (h.run pins s σ H Q I) (h'.run pins s σ H Q I)⟩
theorem PI.imp {X : Cx} {tg e : Expr} {t t' : TI} (h : PI X tg e t) (i : ∀ σ H Q, t' σ H Q → t σ H Q) : PI X tg e t' := ⟨fun pins s σ H Q I q => h.run pins s σ H Q I (i σ H Q q)⟩
theorem PG.imp {X : Cx} {e : Expr} {t t' : TG} (h : PG X e t) (i : ∀ v σ H Q, t' v σ H Q → t v σ H Q) : PG X e t' := ⟨fun pins s σ H v u Q I r q => h.run pins s σ H v u Q I r (i v σ H Q q)⟩
theorem PGs.imp {X : Cx} {e : List Expr} {t t' : TGs} (h : PGs X e t) (i : ∀ v σ H Q, t' v σ H Q → t v σ H Q) : PGs X e t' := ⟨fun pins s σ H v u Q I r q => h.run pins s σ H v u Q I r (i v σ H Q q)⟩
theorem PTs.imp {X : Cx} {e : List Expr} {t t' : TT} (h : PTs X e t) (i : ∀ σ H Q, t' σ H Q → t σ H Q) : PTs X e t' := ⟨fun pins s σ H Q I q => h.run pins s σ H Q I (i σ H Q q)⟩

/-! ### slices -/
def cutP {α : Type} (xs : List α) (lo hi : Option Int) : List α := (xs.drop (HT.sIx xs.length 0 lo)).take (HT.sIx xs.length xs.length hi - HT.sIx xs.length 0 lo)
@[simp] def fSlO (f : Option FE) : Env → PS → R (Option Int) := fun ρ s => match f with
  | none => .val none s
  | some f => (f ρ s).bind fun x s1 => match x with
    | .int i => .val (some i) s1
    | _ => .stuck
@[simp] def oSl (x : PV) (lo hi : Option Int) : Option PV := match x with
  | .lst xs => some (.lst (cutP xs lo hi))
  | .str z => if z.length ≤ big then some (.str (cutS z lo hi)) else none
  | _ => none
@[simp] def fSl (f : FE) (lo hi : Option FE) : FE := fun ρ s => (f ρ s).bind fun x s1 => (fSlO lo ρ s1).bind fun l s2 => (fSlO hi ρ s2).bind fun h s3 => ofO (oSl x l h) s3
section
variable {K : PySem.W.Frag} {X : Cx} {C : Lc} {W : WX} {e : Expr} {f : FE} {pos p2 : Pos}
def denO (K : PySem.W.Frag) (C : Lc) (mg : Str → Option Value) (W : WX) (f : Option FE) : TO := fun σ H Q => ∃ F ρ s, G C F H s ∧ EnvOk K C F H σ ρ ∧ ER K C mg W (fun _ (b : Option Int) a => b = a) σ F H (fSlO f ρ s) Q
theorem PO.imp {X : Cx} {e : Option Expr} {t t' : TO} (h : PO X e t) (i : ∀ σ H Q, t' σ H Q → t σ H Q) : PO X e t' := ⟨fun pins s σ H Q I q => h.run pins s σ H Q I (i σ H Q q)⟩
abbrev PFo (X : Cx) (C : Lc) (W : WX) (e : Option Expr) (f : Option FE) : Prop := PO X e (denO X.K C X.mg W f)
theorem pf_onone : PFo X C W none none := PO.imp po_none fun σ H Q h => by
  obtain ⟨F, ρ, s, g, ev, h⟩ := h
  exact ER.ret (h : ER X.K C X.mg W _ σ F H (.val none s) Q) g rfl
theorem pf_osome (he : PFe X C W e f) : PFo X C W (some e) (some f) := PO.imp (po_some he) fun σ H Q h => by
  obtain ⟨F, ρ, s, g, ev, h⟩ := h
  refine ⟨F, ρ, s, g, ev, ER.bind h fun x s1 v F1 H1 _ p1 g1 r1 h1 => ?_⟩
  cases x with
  | int i => exact ⟨i, r1.int_inv, ER.ret h1 g1 rfl⟩
  | _ => exact h1.elim
theorem Reps.cut {F : Hp} {vs : List V} {xs : List PV} (h : Reps K C F vs xs) (lo hi : Option Int) : Reps K C F (cutV vs lo hi) (cutP xs lo hi) := by
  unfold cutV cutP
  rw [h.length]
  exact (h.drop _).take _
theorem pf_sl {lo hi : Option Expr} {fl fh : Option FE} (he : PFe X C W e f) (hl : PFo X C W lo fl) (hh : PFo X C W hi fh) : PFe X C W (.Subscript e (.Slice lo hi none p2) pos) (fSl f fl fh) :=
  PE.imp (pe_slice (SlR.or sl_list sl_str) he hl hh) fun σ H Q h => by
    obtain ⟨F, ρ, s, g, ev, h⟩ := h
    refine ⟨F, ρ, s, g, ev, ER.bind h fun x s1 v F1 H1 _ p1 g1 r1 h1 => ?_⟩
    refine ⟨F1, ρ, s1, g1, ev.stp p1, ER.bind h1 fun l s2 l' F2 H2 _ p2 g2 r2 h2 => ?_⟩
    refine ⟨F2, ρ, s2, g2, (ev.stp p1).stp p2, ER.bind h2 fun u s3 u' F3 H3 _ p3 g3 r3 h3 => ?_⟩
    subst r2 r3
    have r1' := r1.mono (p2.trans p3).ex
    cases x with
    | lst xs =>
      obtain ⟨a, vs, rfl, h4, h5⟩ := r1'.lst_inv
      exact .inl ⟨a, vs, rfl, .inl (.inl (g3.ex _ _ h4)), fun p hp => (h3 : ER X.K C X.mg W (Rep X.K C) σ F3 H3 (.val (.lst (cutP xs _ _)) s3) Q).new g3 hp (fun _ z => by cases z) (.lst upd_same ((h5.cut _ _).mono (Stp.alloc g3 hp).ex))⟩
    | str z =>
      simp only [oSl] at h3
      split at h3
      · rename_i hz
        exact .inr ⟨z, r1'.str_inv, big_line hz, (h3 : ER X.K C X.mg W (Rep X.K C) σ F3 H3 (.val (.str (cutS z _ _)) s3) Q).ret g3 (.str _)⟩
      · exact h3.elim
    | _ => exact h3.elim
/-! ### reversed -/
def revS (z : Str) : Str := ⟨z.cps.toList.reverse.toArray⟩
def tRevS (te : TE) : TE := fun σ H Q => te σ H fun x H1 => ∃ z, x = .str z ∧ z.length ≤ sizeLine ∧ Q (.str (revS z)) H1
theorem pe_revS {te : TE} {k : Nat} {p1 p2 p3 pos : Pos} (he : PE X e te) : PE X (.Subscript e (.Slice none none (some (.UnaryOp .USub (.Constant (.int 1) k p1) p2)) p3) pos) (tRevS te) := by
  refine ⟨fun pins s σ H Q I h => ?_⟩
  refine Subscript_ (thn (he.run pins s σ H _ I h) fun v s1 ⟨x, H1, I1, r1, q1⟩ => ?_)
  obtain ⟨z, ex, hz, q⟩ := q1
  subst ex
  obtain ⟨t, rfl⟩ := r1
  have hst : PO X (some (.UnaryOp .USub (.Constant (.int 1) k p1) p2)) (tPart (tUn (rU fun i => .int (-i)) (tC (.int 1)))) := po_some (pe_un un_neg pe_int)
  refine wpAny_Slice (thn (po_none.run pins s1 σ H1 (fun o H2 => o = none ∧ H2 = H1) I1 ⟨rfl, rfl⟩) fun vl s2 ⟨l, H2, I2, pl, el, e2⟩ => ?_)
  subst el e2
  refine thn (po_none.run pins s2 σ H2 (fun o H3 => o = none ∧ H3 = H2) I2 ⟨rfl, rfl⟩) fun vu s3 ⟨u, H3, I3, pu, eu, e3⟩ => ?_
  subst eu e3
  refine thn (hst.run pins s3 σ H3 (fun o H4 => o = some (-1) ∧ H4 = H3) I3 ⟨1, rfl, -1, rfl, rfl, rfl⟩) fun vs s4 ⟨o, H4, I4, ps, eo, e4⟩ => ?_
  subst eo e4
  have I5 : Inv X pins σ H4 { s4 with heap := s4.heap.push { cls := .type "slice", data := .fields #[vl, vu, vs] } } := I4.kept (t' := s4.toks) fun b ob q => Heap.get?_push_of_some _ q
  obtain ⟨l, rfl, el⟩ := IsPart.raw pl
  obtain ⟨u, rfl, eu⟩ := IsPart.raw pu
  obtain ⟨st, rfl, est⟩ := IsPart.raw ps
  have hS : (s4.heap.push { cls := .type "slice", data := .fields #[partValue l, partValue u, partValue st] }).IsSlice s4.heap.objs.size l u st := Heap.IsSliceOf.new _ _ _ _
  show wpAny (model X.prog X.w) X.A (subscriptTail e (.Slice none none (some (.UnaryOp .USub (.Constant (.int 1) k p1) p2)) p3) (.str z t) (.ref s4.heap.objs.size)) (EP X pins σ Q) X.xe { s4 with heap := s4.heap.push { cls := .type "slice", data := .fields #[partValue l, partValue u, partValue st] } }
  refine tail_any (ops := [.str z t, .ref s4.heap.objs.size]) (typeIs_str _ _ _) PySem.F.slot_str_getitem.lookup ?_ (by with_unfolding_all rfl)
  have e1 : (st.map (·.1)).getD 1 = -1 := by rw [est]; rfl
  refine wpAny_getItem_str_slice hS (by rw [e1]; decide) ?_
  have el' : l.map (·.1) = none := el
  have eu' : u.map (·.1) = none := eu
  have ix : Builtin.Str.strSliceIndices none none (-1) z.length = (List.range z.cps.size).reverse := by
    show sliceRange ((z.cps.size : Int) - 1) (-1) (-1) = _
    rw [PySem.W.krv_sliceRange, PySem.W.krv_range]
  have txt : ((List.range z.cps.size).reverse.filterMap (z.cps[·]?)).toArray = z.cps.toList.reverse.toArray := by
    rw [List.filterMap_reverse, PySem.W.krv_all]
  show Made.post (if (((st.map (·.1)).getD 1 : Int) == 1 && (Builtin.Str.strSliceIndices (l.map (·.1)) (u.map (·.1)) ((st.map (·.1)).getD 1) z.length).length == z.length) = true then Made.val (.str z t)
    else Made.str ⟨((Builtin.Str.strSliceIndices (l.map (·.1)) (u.map (·.1)) ((st.map (·.1)).getD 1) z.length).filterMap (z.cps[·]?)).toArray⟩) (EP X pins σ Q) _
  rw [e1, if_neg (by intro h; rw [show ((-1 : Int) == 1) = false from rfl, Bool.false_and] at h; cases h), el', eu', ix, txt]
  refine ⟨?_, .str _, H4, I5.tok _, ⟨_, rfl⟩, q⟩
  show (z.cps.toList.reverse.toArray).size ≤ sizeLine
  rw [List.size_toArray, List.length_reverse, Array.length_toList]
  exact hz
@[simp] def oRev : O1
  | .lst xs => some (.lst xs.reverse)
  | .str z => if z.length ≤ big then some (.str (revS z)) else none
  | _ => none
theorem pf_rev {k : Nat} {p1 p2 p3 pos : Pos} (he : PFe X C W e f) : PFe X C W (.Subscript e (.Slice none none (some (.UnaryOp .USub (.Constant (.int 1) k p1) p2)) p3) pos) (fUn oRev f) :=
  PE.imp (PE.or2 (pe_revL he) (pe_revS he)) fun σ H Q h => by
    obtain ⟨F, ρ, s, g, ev, h⟩ := h
    have h0 := h
    simp only [fUn] at h0
    cases hf : f ρ s with
    | stuck => rw [hf] at h0; exact h0.elim
    | exc c fs s' =>
      refine .inl ⟨F, ρ, s, g, ev, ?_⟩
      rw [hf] at h0 ⊢
      exact h0
    | val x s0 =>
      cases x with
      | lst xs =>
        refine .inl ⟨F, ρ, s, g, ev, ER.bind h fun x s1 v F1 H1 ex p1 g1 r1 h1 => ?_⟩
        rw [hf] at ex
        cases ex
        obtain ⟨a, vs, rfl, h4, h5⟩ := r1.lst_inv
        exact ⟨a, vs, rfl, .inl (.inl (g1.ex _ _ h4)), fun p hp => (h1 : ER X.K C X.mg W (Rep X.K C) σ F1 H1 (.val (.lst xs.reverse) s0) Q).new g1 hp (fun _ z => by cases z) (.lst upd_same (h5.reverse.mono (Stp.alloc g1 hp).ex))⟩
      | str z =>
        refine .inr ⟨F, ρ, s, g, ev, ER.bind h fun x s1 v F1 H1 ex p1 g1 r1 h1 => ?_⟩
        rw [hf] at ex
        cases ex
        simp only [oRev] at h1
        split at h1
        · rename_i hz
          exact ⟨z, r1.str_inv, big_line hz, (h1 : ER X.K C X.mg W (Rep X.K C) σ F1 H1 (.val (.str (revS z)) s0) Q).ret g1 (.str _)⟩
        · exact h1.elim
      | _ => rw [hf] at h0; exact h0.elim
/-! ### join -/
@[simp] def oJoin : O2
  | .str a, .lst xs => match strsOf xs with
    | some ys => if (ys.map (·.length)).sum + ys.length * a.length ≤ big then some (.str (Txt.join a ys)) else none
    | none => none
  | _, _ => none
@[simp] def fJoin (f f2 : FE) : FE := fun ρ s => (f ρ s).bind fun x s1 => match x with
  | .str a => (f2 ρ s1).bind fun y s2 => ofO (oJoin (.str a) y) s2
  | _ => .stuck
theorem pf_join {e2 : Expr} {f2 : FE} {apos pos : Pos} (ho : PFe X C W e f) (he : PFe X C W e2 f2) (hs : starEach [e2] X.env = [(false, eval e2 X.env)] := by rfl) (hbase : attributeBase e "join" X.env (eval e X.env) = eval e X.env := by rfl) (hline : (apos.endLine == pos.line) = true := by rfl) :
    PFe X C W (.Call (.Attribute e "join" apos) [e2] [] pos) (fJoin f f2) :=
  PE.imp (pe_join ho he hs hbase hline) fun σ H Q h => by
    obtain ⟨F, ρ, s, g, ev, h⟩ := h
    refine ⟨F, ρ, s, g, ev, ER.bind h fun x s1 v F1 H1 _ p1 g1 r1 h1 => ?_⟩
    have hx : ∃ a, x = .str a := by
      cases x with
      | str a => exact ⟨a, rfl⟩
      | _ => exact h1.elim
    obtain ⟨a, rfl⟩ := hx
    refine ⟨⟨a, r1.str_inv⟩, F1, ρ, s1, g1, ev.stp p1, ER.bind h1 fun y s2 u F2 H2 _ p2 g2 r2 h2 => ?_⟩
    cases y with
    | lst xs =>
      simp only [oJoin] at h2
      cases es : strsOf xs with
      | none => rw [es] at h2; exact h2.elim
      | some ys =>
        rw [es] at h2
        simp only [] at h2
        split at h2
        · rename_i hz
          obtain ⟨p, vs, rfl, h4, h5⟩ := r2.lst_inv
          rw [strsOf_inv es] at h5
          rw [h5.strs] at h4
          refine ⟨a, p, ys, r1.str_inv, rfl, .inl (.inl (.inl (g2.ex _ _ h4))), Nat.le_trans hz (by decide), ?_⟩
          exact (h2 : ER X.K C X.mg W (Rep X.K C) σ F2 H2 (.val (.str (Txt.join a ys)) s2) Q).ret g2 (.str _)
        · exact h2.elim
    | _ => exact h2.elim
end
end PF
set_option Elab.async false
set_option linter.all false
set_option maxRecDepth 100000
/-! # repr; what is walked; targets; comprehensions -/
namespace PF
open PySem L2 PySem.Spec PyProof.Rows

/-! ### repr -/
mutual
/-- the most signs that a value's text has; none where it is not told -/
def rw : PV → Option Nat
  | .non => some 4
  | .bl _ => some 5
  | .int i => if i.natAbs < 2 ^ 1900 then some 1921 else none
  | .str x => if PyData.strOk x = true then some (10 * x.length + 2) else none
  | .lst xs => (rws xs).map (· + 4)
  | .tup xs => (rws xs).map (· + 4)
  | .dic _ => none
  | .pot => none
  | .scr _ => none
def rws : List PV → Option Nat
  | [] => some 0
  | x :: xs => match rw x, rws xs with
    | some n, some m => some (n + 2 + m)
    | _, _ => none
end
theorem listText_le : ∀ (ts : List Str) (k : Nat) (acc : Str), (textFrom k acc ts).length ≤ acc.length + (ts.map fun t => t.length + 2).sum
  | [], k, acc => by simp [textFrom]
  | t :: r, k, acc => by
    have ih := listText_le r (k + 1) (acc ++ (if k > 0 then ", " else "" : String) ++ t)
    have e : (acc ++ (if k > 0 then ", " else "" : String) ++ t).length ≤ acc.length + 2 + t.length := by
      rw [Str.length_append, Str.length_append]
      split
      · have : (Str.ofString ", ").length = 2 := by decide
        omega
      · have : (Str.ofString "").length = 0 := by decide
        omega
    show (textFrom (k + 1) (acc ++ (if k > 0 then ", " else "" : String) ++ t) r).length ≤ _
    rw [List.map_cons, List.sum_cons]
    omega
theorem tupText_le (ts : List Str) : (tupleText ts).length ≤ (ts.map fun t => t.length + 2).sum + 3 := by
  have pl : ∀ l : List Str, piled l = (l.map fun t => t.length + 2).sum := fun l => by
    first
      | rfl
      | (induction l with
        | nil => rfl
        | cons a r ih => simp [piled] at *; try omega)
  unfold tupleText
  rw [Str.length_append, Str.length_append]
  have e1 : (Str.ofString "(").length = 1 := by decide
  have e2 : ∀ b : Bool, (Str.ofString (if b = true then ",)" else ")" : String)).length ≤ 2 := fun b => by cases b <;> decide
  have e3 : (Str.join ", " ts).length ≤ (ts.map fun t => t.length + 2).sum := by
    by_cases h : ts = []
    · subst h
      exact Nat.le_of_eq (by decide)
    · have := join_length_add ts h
      rw [pl] at this
      omega
  have := e2 (ts.length == 1)
  omega
mutual
theorem rw_ok : ∀ {x : PV} {n : Nat}, rw x = some n → (toD x).showable = true ∧ (toD x).shown.length ≤ n
  | .non, n, h => by
    simp only [rw, Option.some.injEq] at h
    subst h
    simp only [toD, PyData.showable, PyData.shown, true_and]
    decide
  | .bl b, n, h => by
    simp only [rw, Option.some.injEq] at h
    subst h
    simp only [toD, PyData.showable, PyData.shown, true_and]
    cases b <;> decide
  | .int i, n, h => by
    simp only [rw] at h
    split at h
    · rename_i hi
      cases h
      simp only [toD, PyData.showable, PyData.shown]
      have h2 : i.natAbs.log2 < 1900 := PySem.Flt.log2_lt_of (by decide) hi
      have h3 := int_text_length_le (k := 1900) (by decide) h2
      refine ⟨decide_eq_true (by omega), ?_⟩
      show (Str.ofString (toString i)).length ≤ 1921
      rw [PySem.ofString_length]
      omega
    · cases h
  | .str x, n, h => by
    simp only [rw] at h
    split at h
    · rename_i hi
      cases h
      simp only [toD, PyData.showable, PyData.shown, true_and]
      refine StrLaws.reprText_len x fun c hc => ?_
      have hi' : x.cps.all (· < 0x110000) = true := hi
      rw [Array.all_eq_true] at hi'
      obtain ⟨k, hk, e⟩ := List.getElem_of_mem hc
      have := hi' k (by simpa using hk)
      simp only [decide_eq_true_eq] at this
      rw [← e]
      simp only [Array.getElem_toList]
      omega
    · cases h
  | .lst xs, n, h => by
    simp only [rw, Option.map_eq_some_iff] at h
    obtain ⟨m, hm, rfl⟩ := h
    obtain ⟨h1, h2⟩ := rws_ok hm
    simp only [toD, PyData.showable, PyData.shown]
    refine ⟨h1, ?_⟩
    unfold listText
    have := listText_le (PyData.shownAll (toDs xs)) 0 "["
    rw [Str.length_append]
    have e1 : (Str.ofString "[").length = 1 := by decide
    have e2 : (Str.ofString "]").length = 1 := by decide
    omega
  | .tup xs, n, h => by
    simp only [rw, Option.map_eq_some_iff] at h
    obtain ⟨m, hm, rfl⟩ := h
    obtain ⟨h1, h2⟩ := rws_ok hm
    simp only [toD, PyData.showable, PyData.shown]
    refine ⟨h1, ?_⟩
    have := tupText_le (PyData.shownAll (toDs xs))
    omega
  | .dic _, n, h => by simp [rw] at h
  | .pot, n, h => by simp [rw] at h
  | .scr _, n, h => by simp [rw] at h
theorem rws_ok : ∀ {xs : List PV} {n : Nat}, rws xs = some n → PyData.showableAll (toDs xs) = true ∧ ((PyData.shownAll (toDs xs)).map fun t => t.length + 2).sum ≤ n
  | [], n, h => by
    simp only [rws, Option.some.injEq] at h
    subst h
    simp only [toDs, PyData.showableAll, PyData.shownAll, true_and]
    exact Nat.le_refl _
  | x :: xs, n, h => by
    simp only [rws] at h
    split at h
    · rename_i a b h1 h2
      cases h
      obtain ⟨p1, p2⟩ := rw_ok h1
      obtain ⟨q1, q2⟩ := rws_ok h2
      simp only [toDs, PyData.showableAll, PyData.shownAll, p1, q1, Bool.and_self, true_and, List.map_cons, List.sum_cons]
      omega
    · cases h
end
def rReprD (K : PySem.W.Frag) : List V → Hp → VK → Prop := fun xs H Q => ∃ (x : V) (d : PyData), xs = [x] ∧ Dp K H x d ∧ SeqAt.shaped d = true ∧ d.showable = true ∧ d.shown.length ≤ sizeLine ∧ Q (.str d.shown) H
theorem call_reprD {X : Cx} (hg : X.A.guards = some []) (hu : X.A.units + 100 < cLine) : CallR X (.builtin "repr") (rReprD X.K) := by
  intro pins s σ H xs us Q I r h
  obtain ⟨x, d, rfl, hd, hs, hw, hz, q⟩ := h
  have hl : (d.canLay0 && decide (d.depth ≤ 64)) = true := hs
  obtain ⟨c1, c2⟩ := Bool.and_eq_true_iff.mp hl
  have c2 := of_decide_eq_true c2
  cases r with
  | cons r1 r2 =>
    cases r2
    rename_i u
    have big : ∀ {a : Addr}, u = Value.ref a → wpAny (model X.prog X.w) X.A (call (.builtin "repr") [u]) (EP X pins σ Q) X.xe s := fun {a} e => by
      obtain ⟨as, rd⟩ := Dp.reads I d x u hd r1
      subst e
      exact repr_of_reads' rd hw (PyData.noDict_hsm (PyData.hasDict_of_canLay d c1)) hg (by omega) (fun _ _ e => e) (fun h' u tk hk => ⟨.str _, H, I.kept (t' := tk) hk, ⟨_, rfl⟩, q⟩) hz
    cases hd with
    | non =>
      cases r1
      simp only [PyData.shown] at q
      exact P.repr_of_none ⟨.str _, H, I.tok _, ⟨_, rfl⟩, q⟩
    | bl b =>
      cases r1
      simp only [PyData.shown] at q
      exact P.repr_of_bool ⟨.str _, H, I.tok _, ⟨_, rfl⟩, q⟩
    | int i =>
      obtain ⟨t, rfl⟩ := r1
      simp only [PyData.shown] at q
      simp only [PyData.showable] at hw
      exact P.repr_of_int (of_decide_eq_true hw) ⟨.str _, H, I.tok _, ⟨_, rfl⟩, q⟩
    | str z =>
      obtain ⟨t, rfl⟩ := r1
      simp only [PyData.shown] at q hz
      exact P.repr_of_str ⟨.str _, H, I.tok _, ⟨_, rfl⟩, q⟩ hz
    | lst h1 h2 => exact big r1
    | tup h1 h2 => exact big r1
def shown (x : PV) : Str := (toD x).shown
@[simp] def oRepr : OL
  | [x] => match rw x with
    | some n => if n ≤ big ∧ shaped x = true then some (.str (shown x)) else none
    | none => none
  | _ => none
theorem v_repr {K : PySem.W.Frag} {C : Lc} : VCall K C (rReprD K) oRepr := by
  intro F H s vs xs pz Q g rx e q
  match xs, e with
  | [x], e =>
    simp only [oRepr] at e
    cases e2 : rw x with
    | none => rw [e2] at e; cases e
    | some n =>
      rw [e2] at e
      simp only [] at e
      split at e
      · rename_i h
        cases e
        obtain ⟨v, rfl, r⟩ := rx.one_inv
        obtain ⟨h1, h2⟩ := rw_ok e2
        exact ⟨v, toD x, rfl, Dp.ex g.ex _ _ (r.dp g.potF (shaped_lay h.2)), h.2, h1, Nat.le_trans h2 (big_line h.1), q _ F H .refl g (.str _)⟩
      · cases e
end PF
set_option Elab.async false
set_option linter.all false
set_option maxRecDepth 100000
/-! # What is walked; targets; comprehensions -/
namespace PF
open PySem L2 PySem.Spec PyProof.Rows

/-! ### what is walked -/
def Walks (K : PySem.W.Frag) (C : Lc) (F : Hp) (J : It) (xs : List PV) : Prop :=
  (∀ i H', Ex F H' → xs.length ≤ i → J.stop i H') ∧
  ∀ i x H', Ex F H' → xs[i]? = some x → J.go i H' ∧ ∀ v H'' F' s, J.yld i H' v H'' → Ex F F' → G C F' H' s → ∃ F'', Stp C F' H' F'' H'' ∧ G C F'' H'' s ∧ Rep K C F'' v x
def denI (K : PySem.W.Frag) (C : Lc) (mg : Str → Option Value) (W : WX) (f : FA) : TI := fun σ H Q => ∃ F ρ s, G C F H s ∧ EnvOk K C F H σ ρ ∧ ER K C mg W (fun F J xs => Walks K C F J xs) σ F H (f ρ s) Q
abbrev PFi (X : Cx) (C : Lc) (W : WX) (tg e : Expr) (f : FA) : Prop := PI X tg e (denI X.K C X.mg W f)
def signs (z : Str) : List PV := z.cps.toList.map fun c => .str ⟨#[c]⟩
@[simp] def oIt : PV → PS → R (List PV)
  | .lst xs, s => .val xs s
  | .tup xs, s => .val xs s
  | .scr ns, s => .val (ns.map PV.int) s
  | .str z, s => .val (signs z) s
  | _, _ => .stuck
@[simp] def fIt (f : FE) : FA := fun ρ s => (f ρ s).bind oIt
section
variable {K : PySem.W.Frag} {X : Cx} {C : Lc} {W : WX} {e tg : Expr} {f : FE} {pos : Pos}
theorem walks_same {F : Hp} {J : It} {xs : List PV} (h1 : ∀ i H', Ex F H' → xs.length ≤ i → J.stop i H') (h2 : ∀ i x H', Ex F H' → xs[i]? = some x → J.go i H' ∧ ∀ v H'', J.yld i H' v H'' → H'' = H' ∧ ∀ F', Ex F F' → Rep K C F' v x) : Walks K C F J xs :=
  ⟨h1, fun i x H' e hx => ⟨(h2 i x H' e hx).1, fun v H'' F' s y e' g => by
    obtain ⟨rfl, r⟩ := (h2 i x H' e hx).2 v H'' y
    exact ⟨F', .refl, g, r F' e'⟩⟩⟩
theorem walks_list {F : Hp} {a : Addr} {vs : List V} {xs : List PV} (h : F a = some (.lst vs)) (r : Reps K C F vs xs) : Walks K C F (Itl K a) xs := by
  refine walks_same (fun i H' e hi => ⟨vs, .inl (.inl (e _ _ h)), by rw [r.length]; exact hi⟩) fun i x H' e hx => ?_
  obtain ⟨v, hv, rv⟩ := r.get hx
  refine ⟨⟨vs, v, .inl (.inl (e _ _ h)), hv⟩, fun v' H'' y => ?_⟩
  obtain ⟨rfl, y⟩ := y
  have e2 := y vs (.inl (.inl (e _ _ h)))
  rw [hv] at e2
  cases e2
  exact ⟨rfl, fun F' e' => rv.mono e'⟩
theorem Reps.ofInts {F : Hp} : ∀ ns : List Int, Reps K C F (ns.map V.int) (ns.map PV.int)
  | [] => .nil
  | n :: ns => .cons (.int n) (Reps.ofInts ns)
theorem walks_scr {F : Hp} {a : Addr} {ns : List Int} (h : SqL K F a (ns.map V.int)) : Walks K C F (Itl K a) (ns.map PV.int) := by
  refine walks_same (fun i H' e hi => ⟨_, Ex.seqL e h, by rw [List.length_map] at hi ⊢; exact hi⟩) fun i x H' e hx => ?_
  obtain ⟨v, hv, rv⟩ := (Reps.ofInts (K := K) (C := C) (F := F) ns).get hx
  refine ⟨⟨_, v, Ex.seqL e h, hv⟩, fun v' H'' y => ?_⟩
  obtain ⟨rfl, y⟩ := y
  have e2 := y _ (Ex.seqL e h)
  rw [hv] at e2
  cases e2
  exact ⟨rfl, fun F' e' => rv.mono e'⟩
theorem walks_tup {F : Hp} {a : Addr} {vs : List V} {xs : List PV} (h : SqT K F a vs) (r : Reps K C F vs xs) : Walks K C F (Itt K a) xs := by
  refine walks_same (fun i H' e hi => ⟨vs, Ex.seqT e h, by rw [r.length]; exact hi⟩) fun i x H' e hx => ?_
  obtain ⟨v, hv, rv⟩ := r.get hx
  refine ⟨⟨vs, v, Ex.seqT e h, hv⟩, fun v' H'' y => ?_⟩
  obtain ⟨rfl, y⟩ := y
  have e2 := y vs (Ex.seqT e h)
  rw [hv] at e2
  cases e2
  exact ⟨rfl, fun F' e' => rv.mono e'⟩
theorem walks_str {F : Hp} (z : Str) : Walks K C F (Its z) (signs z) := by
  have hl : (signs z).length = z.cps.size := by unfold signs; rw [List.length_map, Array.length_toList]
  refine walks_same (fun i H' e hi => by rw [hl] at hi; exact hi) fun i x H' e hx => ?_
  have hi : i < z.cps.size := by rw [← hl]; exact (List.getElem?_eq_some_iff.mp hx).1
  refine ⟨hi, fun v' H'' y => ?_⟩
  obtain ⟨rfl, c, hc, rfl⟩ := y
  refine ⟨rfl, fun F' e' => ?_⟩
  unfold signs at hx
  rw [List.getElem?_map, Array.getElem?_toList, hc] at hx
  cases hx
  exact .str _
theorem walks_range {F : Hp} (lo : Int) (n : Nat) : Walks K C F (Itr lo n) ((List.range n).map fun (i : Nat) => PV.int (lo + i)) := by
  refine walks_same (fun i H' e hi => by rw [List.length_map, List.length_range] at hi; exact hi) fun i x H' e hx => ?_
  rw [List.getElem?_map] at hx
  have hi : i < n := by
    by_cases hi : i < n
    · exact hi
    · rw [List.getElem?_eq_none (by rw [List.length_range]; omega)] at hx
      cases hx
  rw [List.getElem?_range hi] at hx
  cases hx
  refine ⟨hi, fun v' H'' y => ?_⟩
  obtain ⟨rfl, rfl⟩ := y
  exact ⟨rfl, fun F' e' => .int _⟩
theorem pf_iter (he : PFe X C W e f) : PFi X C W tg e (fIt f) :=
  PI.imp (PI.or2 (pi_list he) (PI.or2 (pi_tup he) (pi_str he))) fun σ H Q h => by
    obtain ⟨F, ρ, s, g, ev, h⟩ := h
    have h0 := h
    simp only [fIt] at h0
    cases hf : f ρ s with
    | stuck => rw [hf] at h0; exact h0.elim
    | exc c fs s' =>
      refine .inl ⟨F, ρ, s, g, ev, ?_⟩
      rw [hf] at h0 ⊢
      exact h0
    | val x s0 =>
      cases x with
      | lst xs =>
        refine .inl ⟨F, ρ, s, g, ev, ER.bind h fun x s1 v F1 H1 ex p1 g1 r1 h1 => ?_⟩
        rw [hf] at ex
        cases ex
        obtain ⟨a, vs, rfl, h4, h5⟩ := r1.lst_inv
        exact ⟨a, rfl, ⟨vs, .inl (.inl (g1.ex _ _ h4))⟩, ER.ret h1 g1 (walks_list h4 h5)⟩
      | scr ns =>
        refine .inl ⟨F, ρ, s, g, ev, ER.bind h fun x s1 v F1 H1 ex p1 g1 r1 h1 => ?_⟩
        rw [hf] at ex
        cases ex
        obtain ⟨a, rfl, h4⟩ := r1.scr_inv
        exact ⟨a, rfl, ⟨_, Ex.seqL g1.ex h4⟩, ER.ret h1 g1 (walks_scr h4)⟩
      | tup xs =>
        refine .inr (.inl ⟨F, ρ, s, g, ev, ER.bind h fun x s1 v F1 H1 ex p1 g1 r1 h1 => ?_⟩)
        rw [hf] at ex
        cases ex
        obtain ⟨a, vs, rfl, h4, h5⟩ := r1.tup_inv
        exact ⟨a, rfl, ⟨vs, Ex.seqT g1.ex h4⟩, ER.ret h1 g1 (walks_tup h4 h5)⟩
      | str z =>
        refine .inr (.inr ⟨F, ρ, s, g, ev, ER.bind h fun x s1 v F1 H1 ex p1 g1 r1 h1 => ?_⟩)
        rw [hf] at ex
        cases ex
        exact ⟨z, r1.str_inv, ER.ret h1 g1 (walks_str z)⟩
      | _ => rw [hf] at h0; exact h0.elim
def upTo (lo : Int) (n : Nat) : List PV := (List.range n).map fun (i : Nat) => PV.int (lo + i)
@[simp] def oRg1 : List PV → PS → R (List PV)
  | [.int j], s => if -1000000000 ≤ j ∧ j ≤ 1000000000 then .val (upTo 0 j.toNat) s else .stuck
  | _, _ => .stuck
@[simp] def oRg2 : List PV → PS → R (List PV)
  | [.int i, .int j], s => if -1000000000 ≤ i ∧ i ≤ 1000000000 ∧ -1000000000 ≤ j ∧ j ≤ 1000000000 then .val (upTo i (j - i).toNat) s else .stuck
  | _, _ => .stuck
@[simp] def fRg1 (a : FA) : FA := fun ρ s => (a ρ s).bind oRg1
@[simp] def fRg2 (a : FA) : FA := fun ρ s => (a ρ s).bind oRg2
theorem pf_range1 {a : Expr} {fa : FA} {p pos : Pos} (hm : X.mg "range" = none) (ha : PFa X C W [a] fa) (hg : Gl X "range" := by rfl) (hs : starEach [a] X.env = [(false, eval a X.env)] := by rfl) : PFi X C W tg (.Call (.Name "range" p) [a] [] pos) (fRg1 fa) :=
  PI.imp (pi_range1 hg hm ha hs) fun σ H Q h => by
    obtain ⟨F, ρ, s, g, ev, h⟩ := h
    refine ⟨F, ρ, s, g, ev, ER.bind h fun x s1 v F1 H1 ex p1 g1 r1 h1 => ?_⟩
    match x, r1, h1 with
    | [.int j], r1, h1 =>
      obtain ⟨u, rfl, r⟩ := r1.one_inv
      simp only [oRg1] at h1
      split at h1
      · rename_i hj
        exact ⟨j, by rw [r.int_inv], by omega, by omega, ER.ret h1 g1 (walks_range 0 _)⟩
      · exact h1.elim
theorem pf_range2 {a b : Expr} {fa : FA} {p pos : Pos} (hm : X.mg "range" = none) (ha : PFa X C W [a, b] fa) (hg : Gl X "range" := by rfl) (hs : starEach [a, b] X.env = [(false, eval a X.env), (false, eval b X.env)] := by rfl) (hs2 : starEach [b] X.env = [(false, eval b X.env)] := by rfl) :
    PFi X C W tg (.Call (.Name "range" p) [a, b] [] pos) (fRg2 fa) :=
  PI.imp (pi_range2 hg hm ha hs hs2) fun σ H Q h => by
    obtain ⟨F, ρ, s, g, ev, h⟩ := h
    refine ⟨F, ρ, s, g, ev, ER.bind h fun x s1 v F1 H1 ex p1 g1 r1 h1 => ?_⟩
    match x, r1, h1 with
    | [.int i, .int j], r1, h1 =>
      obtain ⟨u, w, rfl, r, r'⟩ := r1.two_inv
      simp only [oRg2] at h1
      split at h1
      · rename_i hj
        exact ⟨i, j, by rw [r.int_inv, r'.int_inv], ⟨by omega, by omega, by omega, by omega⟩, ER.ret h1 g1 (walks_range i _)⟩
      · exact h1.elim
end

/-! ### targets -/
def SameOff (js : List Nat) (σ σ' : L2.St) : Prop := σ'.length = σ.length ∧ ∀ k : Nat, k ∉ js → σ'[k]? = σ[k]?
theorem SameOff.refl {js : List Nat} {σ : L2.St} : SameOff js σ σ := ⟨rfl, fun _ _ => rfl⟩
theorem SameOff.trans {js : List Nat} {σ σ1 σ2 : L2.St} (a : SameOff js σ σ1) (b : SameOff js σ1 σ2) : SameOff js σ σ2 := ⟨b.1.trans a.1, fun k h => (b.2 k h).trans (a.2 k h)⟩
theorem SameOff.weak {js ks : List Nat} {σ σ1 : L2.St} (a : SameOff js σ σ1) (h : ∀ j ∈ js, j ∈ ks) : SameOff ks σ σ1 := ⟨a.1, fun k hk => a.2 k fun z => hk (h k z)⟩
theorem SameOff.set {js : List Nat} {σ : L2.St} {i : Nat} {v : Option V} (h : i ∈ js) : SameOff js σ (σ.set i v) := ⟨List.length_set, fun k hk => List.getElem?_set_ne fun (e : i = k) => hk (by rw [← e]; exact h)⟩
theorem wipe_get (σ : L2.St) : ∀ (vs : List Nat) (k : Nat), (wipe σ vs)[k]? = if k ∈ vs then (if k < σ.length then some none else none) else σ[k]?
  | [], k => by simp [wipe]
  | v :: vs, k => by
    unfold wipe
    by_cases h : v = k
    · subst h
      rw [List.getElem?_set, if_pos rfl, wipe_length, if_pos List.mem_cons_self]
    · rw [List.getElem?_set_ne h, wipe_get σ vs k]
      by_cases h2 : k ∈ vs
      · rw [if_pos h2, if_pos (List.mem_cons_of_mem _ h2)]
      · rw [if_neg h2, if_neg fun z => (List.mem_cons.mp z).elim (fun q => h q.symm) h2]
theorem SameOff.wipe {js vs : List Nat} {σ σ' : L2.St} (h : SameOff js σ σ') (hj : ∀ j ∈ js, j ∈ vs) : L2.wipe σ' vs = L2.wipe σ vs := by
  apply List.ext_getElem?
  intro k
  rw [wipe_get, wipe_get, h.1]
  by_cases hk : k ∈ vs
  · rw [if_pos hk, if_pos hk]
  · rw [if_neg hk, if_neg hk]
    exact h.2 k fun z => hk (hj k z)
theorem wipe_wipe (σ : L2.St) (vs : List Nat) : wipe (wipe σ vs) vs = wipe σ vs := by
  apply List.ext_getElem?
  intro k
  rw [wipe_get, wipe_get, wipe_length]
  by_cases hk : k ∈ vs
  · rw [if_pos hk, if_pos hk]
  · rw [if_neg hk, if_neg hk]
@[simp] def wipeE (ρ : Env) : List Nat → Env
  | [] => ρ
  | v :: vs => (wipeE ρ vs).set v none
section
variable {K : PySem.W.Frag} {C : Lc} {F H : Hp} {σ : L2.St} {ρ : Env}
theorem EnvOk.set (h : EnvOk K C F H σ ρ) {i : Nat} {v : V} {x : PV} (r : Rep K C F v x) : EnvOk K C F H (σ.set i (some v)) (ρ.set i (some (.val x))) where
  len := by rw [List.length_set, List.length_set]; exact h.len
  at_ := fun j e he => by
    by_cases hj : i = j
    · subst hj
      rw [List.getElem?_set] at he
      rw [if_pos rfl] at he
      split at he
      · rename_i hl
        cases he
        exact ⟨v, by rw [List.getElem?_set, if_pos rfl, if_pos (by rw [← h.len]; exact hl)], r⟩
      · cases he
    · rw [List.getElem?_set_ne hj] at he ⊢
      exact h.at_ j e he
  apart := fun j k a b v' hjk ha hb ma mb hv => by
    by_cases hj : i = j
    · subst hj
      rw [List.getElem?_set, if_pos rfl] at ha
      split at ha
      · cases ha
        cases ma
      · cases ha
    · by_cases hk : i = k
      · subst hk
        rw [List.getElem?_set, if_pos rfl] at hb
        split at hb
        · cases hb
          cases mb
        · cases hb
      · rw [List.getElem?_set_ne hj] at ha hv
        rw [List.getElem?_set_ne hk] at hb ⊢
        exact h.apart j k a b v' hjk ha hb ma mb hv
/-- a slot forgotten -/
theorem EnvOk.forget (h : EnvOk K C F H σ ρ) {i : Nat} {v : Option V} : EnvOk K C F H (σ.set i v) (ρ.set i none) where
  len := by rw [List.length_set, List.length_set]; exact h.len
  at_ := fun j e he => by
    by_cases hj : i = j
    · subst hj
      rw [List.getElem?_set, if_pos rfl] at he
      split at he <;> cases he
    · rw [List.getElem?_set_ne hj] at he ⊢
      exact h.at_ j e he
  apart := fun j k a b v' hjk ha hb ma mb hv => by
    by_cases hj : i = j
    · subst hj
      rw [List.getElem?_set, if_pos rfl] at ha
      split at ha <;> cases ha
    · by_cases hk : i = k
      · subst hk
        rw [List.getElem?_set, if_pos rfl] at hb
        split at hb <;> cases hb
      · rw [List.getElem?_set_ne hj] at ha hv
        rw [List.getElem?_set_ne hk] at hb ⊢
        exact h.apart j k a b v' hjk ha hb ma mb hv
theorem EnvOk.wipe (h : EnvOk K C F H σ ρ) : ∀ vs : List Nat, EnvOk K C F H (L2.wipe σ vs) (wipeE ρ vs)
  | [] => h
  | v :: vs => by
    unfold L2.wipe
    rw [wipeE]
    exact (h.wipe vs).forget
end
/-- own lists were made behind the entry -/
def Own0 (H0 : Hp) (σ : L2.St) (ρ : Env) : Prop := ∀ (i : Nat) (e : Ent) (a : Addr), ρ[i]? = some (some e) → e.mut = true → σ[i]? = some (some (.ref a)) → H0 a = none
theorem Own0.set {H0 : Hp} {σ : L2.St} {ρ : Env} (h : Own0 H0 σ ρ) {i : Nat} {v : Option V} {x : PV} : Own0 H0 (σ.set i v) (ρ.set i (some (.val x))) := fun j e a h1 h2 h3 => by
  by_cases hj : i = j
  · subst hj
    rw [List.getElem?_set, if_pos rfl] at h1
    split at h1
    · cases h1
      cases h2
    · cases h1
  · rw [List.getElem?_set_ne hj] at h1 h3
    exact h j e a h1 h2 h3
abbrev FG := PV → Env → PS → R Env
def GR (K : PySem.W.Frag) (C : Lc) (js : List Nat) (σ : L2.St) (ρ : Env) (F H : Hp) (r : R Env) (Q : L2.St → Hp → Prop) : Prop := match r with
  | .val ρ' s' => ∀ σ' F' H', Stp C F H F' H' → G C F' H' s' → EnvOk K C F' H' σ' ρ' → SameOff js σ σ' → (∀ H0, Own0 H0 σ ρ → Own0 H0 σ' ρ') → Q σ' H'
  | _ => False
def denG (K : PySem.W.Frag) (C : Lc) (f : FG) (js : List Nat) : TG := fun v σ H Q => ∃ F ρ s x, G C F H s ∧ EnvOk K C F H σ ρ ∧ Rep K C F v x ∧ GR K C js σ ρ F H (f x ρ s) Q
def denGs (K : PySem.W.Frag) (C : Lc) (f : List PV → Env → PS → R Env) (js : List Nat) : TGs := fun vs σ H Q => ∃ F ρ s xs, G C F H s ∧ EnvOk K C F H σ ρ ∧ Reps K C F vs xs ∧ GR K C js σ ρ F H (f xs ρ s) Q
abbrev PFg (X : Cx) (C : Lc) (e : Expr) (f : FG) (js : List Nat) : Prop := PG X e (denG X.K C f js)
abbrev PFgs (X : Cx) (C : Lc) (e : List Expr) (f : List PV → Env → PS → R Env) (js : List Nat) : Prop := PGs X e (denGs X.K C f js)
@[simp] def gNm (i : Nat) : FG := fun x ρ s => .val (ρ.set i (some (.val x))) s
@[simp] def gNl : List PV → Env → PS → R Env := fun xs ρ s => match xs with
  | [] => .val ρ s
  | _ => .stuck
@[simp] def gCn (g : FG) (u : List PV → Env → PS → R Env) : List PV → Env → PS → R Env := fun xs ρ s => match xs with
  | x :: r => (g x ρ s).bind fun ρ1 s1 => u r ρ1 s1
  | [] => .stuck
@[simp] def gTp (n : Nat) (u : List PV → Env → PS → R Env) : FG := fun x ρ s => match x with
  | .tup xs => if xs.length = n then u xs ρ s else .stuck
  | _ => .stuck
section
variable {X : Cx} {C : Lc} {pos : Pos}
theorem pf_gnm (i : Nat) {js : List Nat} {x : Str} (hN : X.N.Nodup) (hi : X.N[i]? = some x := by rfl) (hx : Loc X.env.scope x := by first | exact Or.inl rfl | exact Or.inr rfl) (hf : X.fn x = true ∨ X.env.scope.names.lookup x = some .local := by first | exact .inl rfl | exact .inr rfl) (hj : i ∈ js := by decide) : PFg X C (.Name x pos) (gNm i) js :=
  PG.imp (pg_name hN hi hx hf) fun v σ H Q h => by
    obtain ⟨F, ρ, s, y, g, ev, r, h⟩ := h
    exact h _ F H .refl g (ev.set r) (SameOff.set hj) fun _ o => o.set
theorem pf_gnl {js : List Nat} : PFgs X C [] gNl js := PGs.imp pgs_nil fun vs σ H Q h => by
  obtain ⟨F, ρ, s, xs, g, ev, r, h⟩ := h
  cases xs with
  | nil =>
    cases r
    exact ⟨rfl, h σ F H .refl g ev .refl fun _ o => o⟩
  | cons _ _ => exact h.elim
theorem pf_gcn {e : Expr} {es : List Expr} {js : List Nat} {f : FG} {u : List PV → Env → PS → R Env} (h1 : PFg X C e f js) (h2 : PFgs X C es u js)
    (hs : (assignEach (e :: es) X.env).map (·.2) = assign e X.env :: (assignEach es X.env).map (·.2) := by rfl) : PFgs X C (e :: es) (gCn f u) js := PGs.imp (pgs_cons h1 h2 hs) fun vs σ H Q h => by
  obtain ⟨F, ρ, s, xs, g, ev, r, h⟩ := h
  cases xs with
  | nil => exact h.elim
  | cons x xr =>
    cases r with
    | cons rv rr =>
      refine ⟨_, _, rfl, F, ρ, s, x, g, ev, rv, ?_⟩
      simp only [gCn] at h
      cases hf : f x ρ s with
      | stuck => rw [hf] at h; exact h.elim
      | exc _ _ _ => rw [hf] at h; exact h.elim
      | val ρ1 s1 =>
        rw [hf] at h
        intro σ1 F1 H1 p1 g1 ev1 so1 o1
        refine ⟨F1, ρ1, s1, xr, g1, ev1, rr.mono p1.ex, ?_⟩
        have h' : GR X.K C js σ ρ F H (u xr ρ1 s1) Q := h
        cases hu : u xr ρ1 s1 with
        | stuck => rw [hu] at h'; exact h'.elim
        | exc _ _ _ => rw [hu] at h'; exact h'.elim
        | val ρ2 s2 =>
          rw [hu] at h'
          intro σ2 F2 H2 p2 g2 ev2 so2 o2
          exact h' σ2 F2 H2 (p1.trans p2) g2 ev2 (so1.trans so2) fun _ o => o2 _ (o1 _ o)
theorem pf_gtp {es : List Expr} {k : Nat} {js : List Nat} {u : List PV → Env → PS → R Env} {n : Nat} (hc : X.calm = true) (h : PFgs X C es u js)
    (hn : (assignEach es X.env).length = n := by rfl) (hst : (assignEach es X.env).findIdx? (·.1) = none := by rfl) : PFg X C (.Tuple es k pos) (gTp n u) js := PG.imp (pg_tup hc h hn hst) fun v σ H Q h => by
  obtain ⟨F, ρ, s, x, g, ev, r, h⟩ := h
  cases x with
  | tup xs =>
    simp only [gTp] at h
    split at h
    · rename_i hl
      obtain ⟨a, vs, rfl, h1, h2⟩ := r.tup_inv
      exact ⟨a, vs, rfl, Ex.seqT g.ex h1, by rw [h2.length]; exact hl, F, ρ, s, xs, g, ev, h2, h⟩
    · exact h.elim
  | _ => exact h.elim
end

/-! ### list comprehensions -/
def W0 : WX := fun _ _ _ _ => False
@[simp] def R.calm {α : Type} : R α → R α
  | .exc _ _ _ => .stuck
  | r => r
theorem ER.calm {α β : Type} {K : PySem.W.Frag} {C : Lc} {mg : Str → Option Value} {W W' : WX} {rel : Hp → β → α → Prop} {σ σ' : L2.St} {F H : Hp} {r : R α} {Q : β → Hp → Prop} (h : ER K C mg W rel σ F H r.calm Q) : ER K C mg W' rel σ' F H r Q := by
  cases r with
  | val a s => exact h
  | exc _ _ _ => exact h.elim
  | stuck => exact h
/-- the items one after another -/
def compGo (g : FG) (c : FT) (f : FE) (ρ : Env) : List PV → PS → R (List PV)
  | [], s => .val [] s
  | x :: r, s => (g x ρ s).calm.bind fun ρ1 s1 => (c ρ1 s1).calm.bind fun b s2 => if b = true then (f ρ1 s2).calm.bind fun y s3 => (compGo g c f ρ r s3).bind fun ys s4 => .val (y :: ys) s4 else compGo g c f ρ r s2
theorem compGo_ne {g : FG} {c : FT} {f : FE} {ρ : Env} : ∀ (xs : List PV) (s : PS) {a : Str} {b : List (Str × PV)} {d : PS}, compGo g c f ρ xs s ≠ .exc a b d
  | [], s, _, _, _, h => by rw [compGo] at h; cases h
  | x :: r, s, _, _, _, h => by
    rw [compGo] at h
    cases h1 : g x ρ s with
    | stuck => rw [h1] at h; cases h
    | exc _ _ _ => rw [h1] at h; cases h
    | val ρ1 s1 =>
      rw [h1] at h
      simp only [R.calm, R.bind] at h
      cases h2 : c ρ1 s1 with
      | stuck => rw [h2] at h; cases h
      | exc _ _ _ => rw [h2] at h; cases h
      | val b s2 =>
        rw [h2] at h
        simp only [R.calm, R.bind] at h
        split at h
        · cases h3 : f ρ1 s2 with
          | stuck => rw [h3] at h; cases h
          | exc _ _ _ => rw [h3] at h; cases h
          | val y s3 =>
            rw [h3] at h
            simp only [R.calm, R.bind] at h
            cases h4 : compGo g c f ρ r s3 with
            | stuck => rw [h4] at h; cases h
            | exc _ _ _ => exact compGo_ne r s3 h4
            | val ys s4 => rw [h4] at h; cases h
        · exact compGo_ne r s2 h
@[simp] def fComp (i : FA) (g : FG) (vs : List Nat) (c : FT) (f : FE) : FE := fun ρ s => (i ρ s).bind fun xs s1 => (compGo g c f (wipeE ρ vs) xs s1).bind fun ys s2 => if ys.length ≤ big then .val (.lst ys) s2 else .stuck
@[simp] def fYes : FT := fun _ s => .val true s
section
variable {X : Cx} {C : Lc} {W : WX}
theorem pf_tyes : PTs X [] (denT X.K C X.mg W0 fYes) := PTs.imp pts_nil fun σ H Q h => by
  obtain ⟨F, ρ, s, g, ev, h⟩ := h
  exact ER.ret (h : ER X.K C X.mg W0 _ σ F H (.val true s) Q) g rfl
theorem pf_tone {e : Expr} {f : FT} (h : PFt X C W0 e f) : PTs X [e] (denT X.K C X.mg W0 f) := pts_one h
theorem Stp.own {F H F' H' : Hp} {D : Addr} {vs : List V} (p : Stp C F H F' H') (n : F D = none) (h : H D = some (.lst vs)) (l : C.l ≠ some D) : F' D = none ∧ H' D = some (.lst vs) := by
  refine ⟨?_, p.keep D _ h l fun _ z => by cases z⟩
  cases q : F' D with
  | none => rfl
  | some o =>
    have z := p.new D o q n
    rw [h] at z
    cases z
theorem G.l_ne {F H : Hp} {s : PS} (g : G C F H s) {D : Addr} (h : H D = none) : C.l ≠ some D := fun e => by
  cases s with
  | none =>
    have z : C.l = none := g.pot
    rw [z] at e
    cases e
  | some xy =>
    obtain ⟨a, h1, h2, h3⟩ := (show ∃ a, C.l = some a ∧ F a = none ∧ H a = some (.lst [.int xy.1, .int xy.2]) from g.pot)
    rw [h1] at e
    cases e
    rw [h] at h3
    cases h3
/-- tables, and what stands off the changed list -/
theorem tabs_upd {T : List (Addr × Str)} {H : Hp} {D : Addr} {vs : List V} {o : HO} (h : H D = some (.lst vs)) (ho : ∀ ps, o ≠ .tbl ps) (t : TabsA T H) : TabsA T (upd H D o) := ⟨fun p hp => by
  obtain ⟨ps, h1, h2, h3⟩ := t.1 p hp
  refine ⟨ps, ?_, h2, fun pos cv hc => ?_⟩
  · rw [upd_ne (ne_of h1 h (fun z => by cases z))]
    exact h1
  · obtain ⟨c, e1, e2⟩ := h3 pos cv hc
    refine ⟨c, e1, ?_⟩
    rw [upd_ne (ne_of e2 h (fun z => by unfold LamX.CodeO at z; cases z))]
    exact e2, fun a ps q => by
  by_cases e : a = D
  · rw [e, upd_same] at q
    exact (ho ps (Option.some.inj q)).elim
  · rw [upd_ne e] at q
    exact t.2 a ps q⟩
/-- a list that is nobody else's changes -/
theorem G.mut {F H : Hp} {s : PS} {D : Addr} {vs : List V} {o : HO} (g : G C F H s) (n : F D = none) (h : H D = some (.lst vs)) (l : C.l ≠ some D) (ho : ∀ ps, o ≠ .tbl ps := by intro _ z; cases z) : G C F (upd H D o) s where
  ex := fun a u e => by
    rw [upd_ne (ne_of_none e n)]
    exact g.ex a u e
  pot := by
    cases s with
    | none => exact g.pot
    | some xy =>
      obtain ⟨a, h1, h2, h3⟩ := (show ∃ a, C.l = some a ∧ F a = none ∧ H a = some (.lst [.int xy.1, .int xy.2]) from g.pot)
      exact ⟨a, h1, h2, by rw [upd_ne fun e => l (by rw [h1, e])]; exact h3⟩
  tabs := tabs_upd h ho g.tabs
  ftab := g.ftab
  base := g.base
theorem Stp.mut {F H : Hp} {F0 H0 : Hp} {D : Addr} {o : HO} (p : Stp C F0 H0 F H) (n : H0 D = none) : Stp C F0 H0 F (upd H D o) where
  ex := p.ex
  keep := fun a u e l t => by
    rw [upd_ne (ne_of_none e n)]
    exact p.keep a u e l t
  there := fun a u e => by
    rw [upd_ne (ne_of_none e n)]
    exact p.there a u e
  new := p.new
/-- .. and is kept from now on -/
theorem G.freeze {F H : Hp} {s : PS} {D : Addr} {vs : List V} (g : G C F H s) (n : F D = none) (h : H D = some (.lst vs)) (l : C.l ≠ some D) : G C (upd F D (.lst vs)) H s where
  ex := fun a u e => by
    by_cases z : a = D
    · subst z
      rw [upd_same] at e
      rw [h]
      exact e
    · rw [upd_ne z] at e
      exact g.ex a u e
  pot := by
    cases s with
    | none => exact g.pot
    | some xy =>
      obtain ⟨a, h1, h2, h3⟩ := (show ∃ a, C.l = some a ∧ F a = none ∧ H a = some (.lst [.int xy.1, .int xy.2]) from g.pot)
      exact ⟨a, h1, by rw [upd_ne fun e => l (by rw [h1, e])]; exact h2, h3⟩
  tabs := g.tabs
  ftab := fun a ps e => by
    by_cases z : a = D
    · subst z
      rw [upd_same] at e
      cases e
    · rw [upd_ne z] at e
      exact g.ftab a ps e
  base := fun a u e => by
    have q := g.base a u e
    rw [upd_ne (ne_of_none q n)]
    exact q
theorem Stp.freeze {F H : Hp} {F0 H0 : Hp} {D : Addr} {o : HO} (p : Stp C F0 H0 F H) (n : H0 D = none) (nF : F D = none) : Stp C F0 H0 (upd F D o) H where
  ex := fun a u e => by
    have h := p.ex a u e
    rw [upd_ne (ne_of_none h nF)]
    exact h
  keep := p.keep
  there := p.there
  new := fun a u e z => by
    by_cases q : a = D
    · rw [q]
      exact n
    · rw [upd_ne q] at e
      exact p.new a u e z
theorem comp_read {K : PySem.W.Frag} {mg : Str → Option Value} {vs : List Nat} {fi : FA} {fg : FG} {js : List Nat} {fc : FT} {fe : FE} (hj : ∀ j ∈ js, j ∈ vs) (σ : L2.St) (H : Hp) (Q : VK) (h : den K C mg W (fComp fi fg vs fc fe) σ H Q) :
    tLc (denI K C mg W fi) (denG K C fg js) (denT K C mg W0 fc) (den K C mg W0 fe) vs σ H Q := by
  obtain ⟨F, ρ, s, g, ev, h⟩ := h
  refine ⟨F, ρ, s, g, ev, ER.bind h fun xs s1 J F1 H1 _ p1 g1 wk h1 => ?_⟩
  intro D hD
  have lD : C.l ≠ some D := g1.l_ne hD
  have nD : F1 D = none := g1.free hD
  have ev1 := ev.stp p1
  refine ⟨fun i m H' => m = xs.length - i ∧ i ≤ xs.length ∧ ∃ F' s' acc ys, G C F' H' s' ∧ F' D = none ∧ H' D = some (.lst acc) ∧ Reps K C F' acc ys ∧ Stp C F1 H1 F' H' ∧
      ER K C mg W (Rep K C) σ F1 H1 ((compGo fg fc fe (wipeE ρ vs) (xs.drop i) s').bind fun zs s2 => if (ys ++ zs).length ≤ big then .val (.lst (ys ++ zs)) s2 else .stuck) Q,
    ⟨xs.length, by omega, Nat.zero_le _, F1, s1, [], [], g1.allocH hD, nD, upd_same, .nil, Stp.allocH hD, h1⟩, ?_⟩
  rintro i m H' ⟨rfl, hi, F', s', acc, ys, g', nD', hD', ra, p', h'⟩
  have e' : Ex F1 H' := fun a o q => g'.ex a o (p'.ex a o q)
  by_cases hlt : i < xs.length
  · obtain ⟨go, yl⟩ := wk.2 i xs[i] H' e' (List.getElem?_eq_getElem hlt)
    refine .inr ⟨go, fun H'' => ∃ m', m' < xs.length - i ∧ m' = xs.length - (i + 1) ∧ i + 1 ≤ xs.length ∧ ∃ F' s' acc ys, G C F' H'' s' ∧ F' D = none ∧ H'' D = some (.lst acc) ∧ Reps K C F' acc ys ∧ Stp C F1 H1 F' H'' ∧
      ER K C mg W (Rep K C) σ F1 H1 ((compGo fg fc fe (wipeE ρ vs) (xs.drop (i + 1)) s').bind fun zs s2 => if (ys ++ zs).length ≤ big then .val (.lst (ys ++ zs)) s2 else .stuck) Q, fun H'' q => ?_, fun x H'' y => ?_⟩
    · obtain ⟨m', h1, h2, h3⟩ := q
      exact ⟨m', h1, h2, h3⟩
    · obtain ⟨F2, p2, g2, rx⟩ := yl x H'' F' s' y p'.ex g'
      obtain ⟨nD2, hD2⟩ := p2.own nD' hD' lD
      rw [List.drop_eq_getElem_cons hlt, compGo] at h'
      have ev2 : EnvOk K C F2 H'' (wipe σ vs) (wipeE ρ vs) := ((ev1.stp p').stp p2).wipe _
      refine ⟨F2, _, s', xs[i], g2, ev2, rx, ?_⟩
      cases hf : fg xs[i] (wipeE ρ vs) s' with
      | stuck => rw [hf] at h'; exact h'.elim
      | exc _ _ _ => rw [hf] at h'; exact h'.elim
      | val ρ1 s2 =>
        rw [hf] at h'
        intro σ3 F3 H3 p3 g3 ev3 so3 _
        refine ⟨(so3.wipe hj).trans (wipe_wipe _ _), F3, ρ1, s2, g3, ev3, ?_⟩
        obtain ⟨nD3, hD3⟩ := p3.own nD2 hD2 lD
        have P3 := (p'.trans p2).trans p3
        cases hc2 : fc ρ1 s2 with
        | stuck => simp only [R.calm, R.bind, hc2] at h'; exact h'.elim
        | exc _ _ _ => simp only [R.calm, R.bind, hc2] at h'; exact h'.elim
        | val b s3 =>
          simp only [R.calm, R.bind, hc2] at h'
          intro b' F4 H4 p4 g4 eb
          subst eb
          obtain ⟨nD4, hD4⟩ := p4.own nD3 hD3 lD
          cases b' with
          | false =>
            simp only [Bool.false_eq_true, if_false] at h' ⊢
            exact ⟨xs.length - (i + 1), by omega, rfl, by omega, F4, s3, acc, ys, g4, nD4, hD4, ra.mono ((p2.trans p3).trans p4).ex, P3.trans p4, h'⟩
          | true =>
            simp only [if_true] at h' ⊢
            refine ⟨F4, ρ1, s3, g4, ev3.stp p4, ?_⟩
            cases he2 : fe ρ1 s3 with
            | stuck => simp only [R.calm, R.bind, he2] at h'; exact h'.elim
            | exc _ _ _ => simp only [R.calm, R.bind, he2] at h'; exact h'.elim
            | val y s4 =>
              simp only [R.calm, R.bind, he2] at h'
              intro v F5 H5 p5 g5 ry
              obtain ⟨nD5, hD5⟩ := p5.own nD4 hD4 lD
              have ra5 : Reps K C F5 acc ys := ra.mono (((p2.trans p3).trans p4).trans p5).ex
              have P5 := (P3.trans p4).trans p5
              have hlen : acc.length < big + 1 := by
                rw [ra.length]
                cases hg2 : compGo fg fc fe (wipeE ρ vs) (xs.drop (i + 1)) s4 with
                | stuck => rw [hg2] at h'; exact h'.elim
                | exc _ _ _ => exact (compGo_ne _ _ hg2).elim
                | val zs s5 =>
                  rw [hg2] at h'
                  simp only [] at h'
                  split at h'
                  · rename_i hz
                    simp only [List.length_append, List.length_cons] at hz
                    omega
                  · exact h'.elim
              refine ⟨acc, hD5, Nat.lt_of_lt_of_le hlen (by decide), xs.length - (i + 1), by omega, rfl, by omega, F5, s4, acc ++ [v], ys ++ [y], g5.mut nD5 hD5 lD, nD5, upd_same, ra5.append (.one ry), P5.mut hD, ?_⟩
              cases hg2 : compGo fg fc fe (wipeE ρ vs) (xs.drop (i + 1)) s4 with
              | stuck => rw [hg2] at h'; exact h'.elim
              | exc _ _ _ => exact (compGo_ne _ _ hg2).elim
              | val zs s5 =>
                rw [hg2] at h'
                simp only [R.bind, List.append_assoc, List.singleton_append] at h' ⊢
                exact h'
  · have ei : i = xs.length := by omega
    subst ei
    rw [List.drop_length, compGo] at h'
    simp only [R.bind, List.append_nil] at h'
    split at h'
    · refine .inl ⟨wk.1 _ _ e' (Nat.le_refl _), ?_⟩
      exact h' (.ref D) (upd F' D (.lst acc)) H' (p'.freeze hD nD') (g'.freeze nD' hD' lD) (.lst upd_same (ra.mono fun a o q => by rw [upd_ne (ne_of_none q nD')]; exact q))
    · exact h'.elim

theorem pf_comp {elt tg iter : Expr} {ifs : List Expr} {scope : Scope} {own : List (Str × Nat)} {pos : Pos} {fi : FA} {fg : FG} {js : List Nat} {fc : FT} {fe : FE} (hc : X.calm = true) (hN : X.N.Nodup) (hi : PFi X C W tg iter fi) (ok : BlkOk X.N X.env.scope scope own)
    (hg : ∀ (s : Shared) (H : Hp) (D : Addr) (cl : List (Str × Addr)) (fp : List Addr), PG (X.blk s H scope (compEnvC scope cl D X.env) fp) tg (denG X.K C fg js))
    (ht : ∀ (s : Shared) (H : Hp) (D : Addr) (cl : List (Str × Addr)) (fp : List Addr), PTs (X.blk s H scope (compEnvC scope cl D X.env) fp) ifs (denT X.K C X.mg W0 fc))
    (he : ∀ (s : Shared) (H : Hp) (D : Addr) (cl : List (Str × Addr)) (fp : List Addr), PE (X.blk s H scope (compEnvC scope cl D X.env) fp) elt (den X.K C X.mg W0 fe))
    (hj : ∀ j ∈ js, j ∈ own.map (·.2) := by decide) (hs : ∀ x, foldedSetIterable iter X.env x = pure x := by intro _; rfl) :
    PFe X C W (.ListComp elt [⟨tg, iter, ifs, 0⟩] scope pos) (fComp fi fg (own.map (·.2)) fc fe) :=
  PE.imp (pe_lc hc hN hi ok hg ht he hs) fun σ H Q h => comp_read hj σ H Q h
end
end PF
set_option Elab.async false
set_option linter.all false
set_option maxRecDepth 100000
/-! # Statements -/
namespace PF
open PySem L2 PySem.Spec PyProof.Rows

inductive Out where
  | nx (ρ : Env) (s : PS)
  | rt (v : PV) (s : PS)
  | bk (ρ : Env) (s : PS)
  | ct (ρ : Env) (s : PS)
  | exc (c : Str) (fs : List (Str × PV)) (ρ : Env) (s : PS)
  | stuck
abbrev FS := Env → PS → Out
@[simp] def Out.seq (o : Out) (f : FS) : Out := match o with
  | .nx ρ s => f ρ s
  | o => o
@[simp] def R.out {α : Type} (r : R α) (ρ : Env) (f : α → PS → Out) : Out := match r with
  | .val a s => f a s
  | .exc c fs s => .exc c fs ρ s
  | .stuck => .stuck

def Post (K : PySem.W.Frag) (C : Lc) (mg : Str → Option Value) (W : WX) (F0 H0 : Hp) (D : Ends) : Out → Prop
  | .nx ρ' s' => ∀ σ' F' H', Stp C F0 H0 F' H' → G C F' H' s' → EnvOk K C F' H' σ' ρ' → Own0 H0 σ' ρ' → D.nx σ' H'
  | .rt v s' => ∀ x F' H', Stp C F0 H0 F' H' → G C F' H' s' → Rep K C F' x v → D.rt x H'
  | .bk ρ' s' => ∀ σ' F' H', Stp C F0 H0 F' H' → G C F' H' s' → EnvOk K C F' H' σ' ρ' → Own0 H0 σ' ρ' → D.bk σ' H'
  | .ct ρ' s' => ∀ σ' F' H', Stp C F0 H0 F' H' → G C F' H' s' → EnvOk K C F' H' σ' ρ' → Own0 H0 σ' ρ' → D.ct σ' H'
  | .exc c fs ρ' s' => ∀ A d kvs σ' F' H', mg c = some (.ref A) → Stp C F0 H0 F' H' → G C F' H' s' → EnvOk K C F' H' σ' ρ' → Own0 H0 σ' ρ' → F' d = some (.xd kvs) → RepF K C F' kvs fs → W (.ref A) (some d) σ' H'
  | .stuck => False
def denS (K : PySem.W.Frag) (C : Lc) (mg : Str → Option Value) (W : WX) (f : FS) : TS := fun D σ H => ∃ F0 H0 F ρ s, Stp C F0 H0 F H ∧ G C F H s ∧ EnvOk K C F H σ ρ ∧ Own0 H0 σ ρ ∧ Post K C mg W F0 H0 D (f ρ s)
abbrev PFs (X : Cx) (C : Lc) (W : WX) (st : Stmt) (f : FS) : Prop := L2.PS X st (denS X.K C X.mg W f)
abbrev PFss (X : Cx) (C : Lc) (W : WX) (st : List Stmt) (f : FS) : Prop := PSs X st (denS X.K C X.mg W f)
theorem PSt.imp {X : Cx} {e : Stmt} {t t' : TS} (h : L2.PS X e t) (i : ∀ D σ H, t' D σ H → t D σ H) : L2.PS X e t' := ⟨fun pins s σ H D I q => h.run pins s σ H D I (i D σ H q)⟩
theorem PSs.imp {X : Cx} {e : List Stmt} {t t' : TS} (h : PSs X e t) (i : ∀ D σ H, t' D σ H → t D σ H) : PSs X e t' := ⟨fun pins s σ H D I q => h.run pins s σ H D I (i D σ H q)⟩

section
variable {K : PySem.W.Frag} {C : Lc} {mg : Str → Option Value} {W : WX} {σ : L2.St} {F0 H0 F H F' H' : Hp} {ρ : Env} {s : PS} {D : Ends}
theorem ER.out {α β : Type} {rel : Hp → β → α → Prop} {r : R α} {f : α → PS → Out} {Q1 : β → Hp → Prop} (p : Stp C F0 H0 F H) (ev : EnvOk K C F H σ ρ) (ow : Own0 H0 σ ρ) (h : Post K C mg W F0 H0 D (r.out ρ f))
    (k : ∀ a s1 b F1 H1, r = .val a s1 → Stp C F H F1 H1 → G C F1 H1 s1 → rel F1 b a → Post K C mg W F0 H0 D (f a s1) → Q1 b H1) : ER K C mg W rel σ F H r Q1 := by
  cases r with
  | stuck => exact h.elim
  | exc c fs s' =>
    intro A d kvs F' H' hm p' g' hx hr
    exact h A d kvs σ F' H' hm (p.trans p') g' (ev.stp p') ow hx hr
  | val a s1 =>
    intro b F1 H1 p1 g1 rb
    exact k a s1 b F1 H1 rfl p1 g1 rb h
end

/-! ### blocks -/
@[simp] def sNil : FS := fun ρ s => .nx ρ s
@[simp] def sSeq (f g : FS) : FS := fun ρ s => (f ρ s).seq g
section
variable {X : Cx} {C : Lc} {W : WX} {st : Stmt} {rest : List Stmt} {f g : FS} {pos : Pos}
theorem pf_snil : PFss X C W [] sNil := PSs.imp pss_nil fun D σ H h => by
  obtain ⟨F0, H0, F, ρ, s, p, g, ev, ow, h⟩ := h
  exact h σ F H p g ev ow
theorem den_seq {K : PySem.W.Frag} {mg : Str → Option Value} (D : Ends) (σ : L2.St) (H : Hp) (h : denS K C mg W (sSeq f g) D σ H) : denS K C mg W f { D with nx := denS K C mg W g D } σ H := by
  obtain ⟨F0, H0, F, ρ, s, p, gg, ev, ow, h⟩ := h
  refine ⟨F0, H0, F, ρ, s, p, gg, ev, ow, ?_⟩
  simp only [sSeq] at h
  cases hf : f ρ s with
  | nx ρ1 s1 =>
    rw [hf] at h
    exact fun σ' F' H' p' g' ev' ow' => ⟨F0, H0, F', ρ1, s1, p', g', ev', ow', h⟩
  | _ => rw [hf] at h; exact h
theorem pf_scons (h1 : PFs X C W st f) (h2 : PFss X C W rest g) : PFss X C W (st :: rest) (sSeq f g) := PSs.imp (pss_cons h1 h2) fun D σ H h => den_seq D σ H h
theorem pf_sone (h1 : PFs X C W st f) : PFss X C W [st] f := pss_one h1
@[simp] def sBrk : FS := fun ρ s => .bk ρ s
@[simp] def sCnt : FS := fun ρ s => .ct ρ s
theorem pf_pass : PFs X C W (.Pass pos) sNil := PSt.imp ps_pass fun D σ H h => by
  obtain ⟨F0, H0, F, ρ, s, p, g, ev, ow, h⟩ := h
  exact h σ F H p g ev ow
theorem pf_break : PFs X C W (.Break pos) sBrk := PSt.imp ps_break fun D σ H h => by
  obtain ⟨F0, H0, F, ρ, s, p, g, ev, ow, h⟩ := h
  exact h σ F H p g ev ow
theorem pf_continue : PFs X C W (.Continue pos) sCnt := PSt.imp ps_continue fun D σ H h => by
  obtain ⟨F0, H0, F, ρ, s, p, g, ev, ow, h⟩ := h
  exact h σ F H p g ev ow
@[simp] def sNever : FS := fun _ _ => .stuck
theorem pf_never : PFs X C W st sNever := PSt.imp ps_never fun D σ H h => by
  obtain ⟨F0, H0, F, ρ, s, p, g, ev, ow, h⟩ := h
  exact h
theorem pf_nevers : PFss X C W rest sNever := PSs.imp pss_never fun D σ H h => by
  obtain ⟨F0, H0, F, ρ, s, p, g, ev, ow, h⟩ := h
  exact h
/-! ### expressions dropped, returned; if -/
variable {e tg : Expr} {fe : FE} {fg : FG} {js : List Nat}
@[simp] def sExpr (fe : FE) : FS := fun ρ s => (fe ρ s).out ρ fun _ s1 => .nx ρ s1
@[simp] def sRet (fe : FE) : FS := fun ρ s => (fe ρ s).out ρ fun x s1 => .rt x s1
@[simp] def sRetN : FS := fun ρ s => .rt .non s
theorem pf_expr (he : PFe X C W e fe) (hs : swapsWith e none pos.line X.env = pure false := by rfl) : PFs X C W (.Expr e pos) (sExpr fe) := PSt.imp (ps_expr he hs) fun D σ H h => by
  obtain ⟨F0, H0, F, ρ, s, p, g, ev, ow, h⟩ := h
  exact ⟨F, ρ, s, g, ev, ER.out p ev ow h fun a s1 b F1 H1 _ p1 g1 r1 h1 => h1 σ F1 H1 (p.trans p1) g1 (ev.stp p1) ow⟩
theorem pf_ret (he : PFe X C W e fe) : PFs X C W (.Return (some e) pos) (sRet fe) := PSt.imp (ps_ret he) fun D σ H h => by
  obtain ⟨F0, H0, F, ρ, s, p, g, ev, ow, h⟩ := h
  exact ⟨F, ρ, s, g, ev, ER.out p ev ow h fun a s1 b F1 H1 _ p1 g1 r1 h1 => h1 b F1 H1 (p.trans p1) g1 r1⟩
theorem pf_retN : PFs X C W (.Return none pos) sRetN := PSt.imp ps_retN fun D σ H h => by
  obtain ⟨F0, H0, F, ρ, s, p, g, ev, ow, h⟩ := h
  exact h _ F H p g .non
@[simp] def sIf (c : FT) (f g : FS) : FS := fun ρ s => (c ρ s).out ρ fun b s1 => if b = true then f ρ s1 else g ρ s1
theorem pf_sif {c : Expr} {a b : List Stmt} {fc : FT} (hc : PFt X C W c fc) (ha : PFss X C W a f) (hb : PFss X C W b g) : PFs X C W (.If c a b pos) (sIf fc f g) := PSt.imp (ps_if hc ha hb) fun D σ H h => by
  obtain ⟨F0, H0, F, ρ, s, p, gg, ev, ow, h⟩ := h
  refine ⟨F, ρ, s, gg, ev, ER.out p ev ow h fun x s1 b F1 H1 _ p1 g1 r1 h1 => ?_⟩
  cases r1
  cases x with
  | true => exact ⟨F0, H0, F1, ρ, s1, p.trans p1, g1, ev.stp p1, ow, h1⟩
  | false => exact ⟨F0, H0, F1, ρ, s1, p.trans p1, g1, ev.stp p1, ow, h1⟩
/-! ### assignments -/
@[simp] def sAsg (fe : FE) (fg : FG) : FS := fun ρ s => (fe ρ s).out ρ fun x s1 => (fg x ρ s1).calm.out ρ fun ρ' s2 => .nx ρ' s2
theorem pf_asg (he : PFe X C W e fe) (hg : PFg X C tg fg js) (hs : swapsWithSole [tg] e pos.line X.env = pure false := by rfl) (hw : swappedStores [tg] e X.env = pure none := by rfl)
    (h1 : (assignEach [tg] X.env).map (·.2) = [assign tg X.env] := by rfl) : PFs X C W (.Assign [tg] e pos) (sAsg fe fg) := PSt.imp (ps_asg he hg hs hw h1) fun D σ H h => by
  obtain ⟨F0, H0, F, ρ, s, p, g, ev, ow, h⟩ := h
  refine ⟨F, ρ, s, g, ev, ER.out p ev ow h fun a s1 b F1 H1 _ p1 g1 r1 h1 => ?_⟩
  refine ⟨F1, ρ, s1, a, g1, ev.stp p1, r1, ?_⟩
  cases hf : fg a ρ s1 with
  | stuck => rw [hf] at h1; exact h1.elim
  | exc _ _ _ => rw [hf] at h1; exact h1.elim
  | val ρ' s2 =>
    rw [hf] at h1
    intro σ' F2 H2 p2 g2 ev2 _ o2
    exact h1 σ' F2 H2 ((p.trans p1).trans p2) g2 ev2 (o2 _ ow)
/-- name = value -/
@[simp] def sSet (i : Nat) (fe : FE) : FS := fun ρ s => (fe ρ s).out ρ fun x s1 => .nx (ρ.set i (some (.val x))) s1
theorem pf_set (i : Nat) {x : Str} {pos' : Pos} (hN : X.N.Nodup) (he : PFe X C W e fe) (hi : X.N[i]? = some x := by rfl) (hx : Loc X.env.scope x := by first | exact Or.inl rfl | exact Or.inr rfl) (hs : swapsWith e (some (.Name x pos')) pos.line X.env = pure false := by rfl)
    (hf : X.fn x = true ∨ X.env.scope.names.lookup x = some .local := by first | exact .inl rfl | exact .inr rfl) : PFs X C W (.Assign [.Name x pos'] e pos) (sSet i fe) := PSt.imp (ps_set hN hi hx he hs hf) fun D σ H h => by
  obtain ⟨F0, H0, F, ρ, s, p, g, ev, ow, h⟩ := h
  exact ⟨F, ρ, s, g, ev, ER.out p ev ow h fun a s1 b F1 H1 _ p1 g1 r1 h1 => h1 _ F1 H1 (p.trans p1) g1 ((ev.stp p1).set r1) ow.set⟩
theorem pf_setLc (i : Nat) {y : Str} {py : Pos} {elt iter : Expr} {ifs : List Expr} {scope : Scope} {own : List (Str × Nat)} {spos : Pos} {fi : FA} {fg : FG} {fc : FT} (hc : X.calm = true) (hN : X.N.Nodup)
    (hi : PFi X C W tg iter fi) (ok : BlkOk X.N X.env.scope scope own)
    (hg : ∀ (s : Shared) (H : Hp) (D : Addr) (cl : List (Str × Addr)) (fp : List Addr), PG (X.blk s H scope (compEnvC scope cl D X.env) fp) tg (denG X.K C fg js))
    (ht : ∀ (s : Shared) (H : Hp) (D : Addr) (cl : List (Str × Addr)) (fp : List Addr), PTs (X.blk s H scope (compEnvC scope cl D X.env) fp) ifs (denT X.K C X.mg W0 fc))
    (he : ∀ (s : Shared) (H : Hp) (D : Addr) (cl : List (Str × Addr)) (fp : List Addr), PE (X.blk s H scope (compEnvC scope cl D X.env) fp) elt (den X.K C X.mg W0 fe))
    (hsw : swapsWith (.ListComp elt [⟨tg, iter, ifs, 0⟩] scope pos) (some (.Name y py)) spos.line X.env = pure true) (hy : X.N[i]? = some y := by rfl) (hyl : X.env.scope.names.lookup y = some .local := by rfl)
    (hj : ∀ j ∈ js, j ∈ own.map (·.2) := by decide) (hs : ∀ x, foldedSetIterable iter X.env x = pure x := by intro _; rfl) :
    PFs X C W (.Assign [.Name y py] (.ListComp elt [⟨tg, iter, ifs, 0⟩] scope pos) spos) (sSet i (fComp fi fg (own.map (·.2)) fc fe)) :=
  PSt.imp (ps_setLc hc hN hy hyl hsw hi ok hg ht he hs) fun D σ H h => by
    obtain ⟨F0, H0, F, ρ, s, p, g, ev, ow, h⟩ := h
    have den : den X.K C X.mg W (fComp fi fg (own.map (·.2)) fc fe) σ H (fun v H1 => D.nx (σ.set i (some v)) H1) :=
      ⟨F, ρ, s, g, ev, ER.out p ev ow h fun a s1 b F1 H1 _ p1 g1 r1 h1 => h1 _ F1 H1 (p.trans p1) g1 ((ev.stp p1).set r1) ow.set⟩
    exact comp_read hj σ H _ den
end
end PF
set_option Elab.async false
set_option linter.all false
set_option maxRecDepth 100000
/-! # Own lists, loops -/
namespace PF
open PySem L2 PySem.Spec PyProof.Rows

section
variable {K : PySem.W.Frag} {C : Lc} {F0 H0 F H F1 H1 F' H' : Hp} {σ : L2.St} {ρ : Env} {s : PS}
theorem Stp.rebase (p : Stp C F0 H0 F1 H1) : Stp C F1 H0 F1 H1 := ⟨fun _ _ h => h, p.keep, p.there, fun a o h n => by rw [n] at h; cases h⟩
theorem Stp.unbase (p : Stp C F0 H0 F1 H1) (q : Stp C F1 H0 F' H') : Stp C F0 H0 F' H' where
  ex := fun a o h => q.ex a o (p.ex a o h)
  keep := q.keep
  there := q.there
  new := fun a o h n => by
    cases e : F1 a with
    | none => exact q.new a o h e
    | some u => exact p.new a u e n
theorem Post.unbase {mg : Str → Option Value} {W : WX} {D : Ends} {o : Out} (p : Stp C F0 H0 F1 H1) (h : Post K C mg W F0 H0 D o) : Post K C mg W F1 H0 D o := by
  cases o with
  | nx ρ s => exact fun σ' F' H' q => h σ' F' H' (p.unbase q)
  | rt v s => exact fun x F' H' q => h x F' H' (p.unbase q)
  | bk ρ s => exact fun σ' F' H' q => h σ' F' H' (p.unbase q)
  | ct ρ s => exact fun σ' F' H' q => h σ' F' H' (p.unbase q)
  | exc c fs ρ s => exact fun A d kvs σ' F' H' hm q => h A d kvs σ' F' H' hm (p.unbase q)
  | stuck => exact h
theorem EnvOk.setOwn {H2 : Hp} (h : EnvOk K C F H σ ρ) (p : Stp C F H F' H') {i : Nat} {a : Addr} {vs : List V} {xs : List PV} (n : H a = none) (nF : F' a = none) (hH : H' a = some (.lst vs)) (r : Reps K C F' vs xs) (l : C.l ≠ some a) :
    EnvOk K C F' H' (σ.set i (some (.ref a))) (ρ.set i (some (.own xs))) where
  len := by rw [List.length_set, List.length_set]; exact h.len
  at_ := fun j e he => by
    by_cases hj : i = j
    · subst hj
      rw [List.getElem?_set, if_pos rfl] at he
      split at he
      · rename_i hl
        cases he
        exact ⟨.ref a, by rw [List.getElem?_set, if_pos rfl, if_pos (by rw [← h.len]; exact hl)], a, vs, rfl, nF, hH, r, l⟩
      · cases he
    · rw [List.getElem?_set_ne hj] at he ⊢
      obtain ⟨v, h1, h2⟩ := h.at_ j e he
      exact ⟨v, h1, h2.stp p⟩
  apart := fun j k x y v hjk ha hb ma mb hv => by
    have old : ∀ (q : Nat) (e : Ent) (v : V), ρ[q]? = some (some e) → e.mut = true → σ[q]? = some (some v) → v ≠ .ref a := fun q e v h1 h2 h3 h4 => by
      obtain ⟨u, h5, h6⟩ := h.at_ q e h1
      rw [h3] at h5
      cases h5
      subst h4
      cases e with
      | val _ => cases h2
      | exc => cases h2
      | own _ => obtain ⟨b, _, e1, _, e2, _⟩ := h6; cases e1; rw [n] at e2; cases e2
      | ownD _ => obtain ⟨b, _, e1, _, e2, _⟩ := h6; cases e1; rw [n] at e2; cases e2
    by_cases hj : i = j
    · subst hj
      rw [List.getElem?_set_ne hjk] at hb ⊢
      rw [List.getElem?_set, if_pos rfl] at hv
      split at hv
      · cases hv
        exact fun z => old k y _ hb mb z rfl
      · cases hv
    · rw [List.getElem?_set_ne hj] at ha hv
      by_cases hk : i = k
      · subst hk
        intro z
        rw [List.getElem?_set, if_pos rfl] at z
        split at z
        · cases z
          exact old j x _ ha ma hv rfl
        · cases z
      · rw [List.getElem?_set_ne hk] at hb ⊢
        exact h.apart j k x y v hjk ha hb ma mb hv
theorem Own0.setOwn (h : Own0 H0 σ ρ) {i : Nat} {a : Addr} {e : Ent} (n : H0 a = none) : Own0 H0 (σ.set i (some (.ref a))) (ρ.set i (some e)) := fun j e' b h1 h2 h3 => by
  by_cases hj : i = j
  · subst hj
    rw [List.getElem?_set, if_pos rfl] at h3
    split at h3
    · cases h3
      exact n
    · cases h3
  · rw [List.getElem?_set_ne hj] at h1 h3
    exact h j e' b h1 h2 h3
/-- an own list changes -/
theorem EnvOk.mut (h : EnvOk K C F H σ ρ) {i : Nat} {a : Addr} {ws : List V} {xs ys : List PV} (hi : ρ[i]? = some (some (.own xs))) (hs : σ[i]? = some (some (.ref a))) (r : Reps K C F ws ys) :
    EnvOk K C F (upd H a (.lst ws)) σ (ρ.set i (some (.own ys))) where
  len := by rw [List.length_set]; exact h.len
  at_ := fun j e he => by
    by_cases hj : i = j
    · subst hj
      rw [List.getElem?_set, if_pos rfl] at he
      split at he
      · cases he
        obtain ⟨v, h1, b, vs, e1, h2, h3, h4, h5⟩ := h.at_ i _ hi
        rw [hs] at h1
        cases h1
        cases e1
        exact ⟨_, hs, a, ws, rfl, h2, upd_same, r, h5⟩
      · cases he
    · rw [List.getElem?_set_ne hj] at he
      obtain ⟨v, h1, h2⟩ := h.at_ j e he
      refine ⟨v, h1, ?_⟩
      cases e with
      | val x => exact h2
      | exc =>
        obtain ⟨w, q1, b, ws', e1, q2, q3, q4, q5⟩ := h.at_ i _ hi
        rw [hs] at q1
        cases q1
        cases e1
        refine ⟨h2.1, fun c o q => ?_⟩
        obtain ⟨k1, k2, k3, k4, k5⟩ := h2.2 c o q
        refine ⟨?_, k2, k3, k4, k5⟩
        rw [upd_ne (fun z => by rw [z, q3] at k1; exact k4 _ (Option.some.inj k1).symm)]
        exact k1
      | own zs =>
        obtain ⟨b, vs, rfl, h3, h4, h5⟩ := h2
        have nb : b ≠ a := fun z => h.apart i j _ _ _ hj hi he rfl rfl hs (by rw [h1, z])
        exact ⟨b, vs, rfl, h3, by rw [upd_ne nb]; exact h4, h5⟩
      | ownD zs =>
        obtain ⟨b, vs, rfl, h3, h4, h5⟩ := h2
        have nb : b ≠ a := fun z => h.apart i j _ _ _ hj hi he rfl rfl hs (by rw [h1, z])
        exact ⟨b, vs, rfl, h3, by rw [upd_ne nb]; exact h4, h5⟩
  apart := fun j k x y v hjk ha hb ma mb hv => by
    have back : ∀ (q : Nat) (e : Ent), (ρ.set i (some (.own ys)))[q]? = some (some e) → e.mut = true → ∃ e', ρ[q]? = some (some e') ∧ e'.mut = true := fun q e h1 h2 => by
      by_cases hq : i = q
      · subst hq
        exact ⟨_, hi, rfl⟩
      · rw [List.getElem?_set_ne hq] at h1
        exact ⟨e, h1, h2⟩
    obtain ⟨x', a1, a2⟩ := back j x ha ma
    obtain ⟨y', b1, b2⟩ := back k y hb mb
    exact h.apart j k x' y' v hjk a1 b1 a2 b2 hv
theorem Own0.mut (h : Own0 H0 σ ρ) {i : Nat} {xs : List PV} {e : Ent} (hi : ρ[i]? = some (some (.own xs))) : Own0 H0 σ (ρ.set i (some e)) := fun j e' b h1 h2 h3 => by
  by_cases hj : i = j
  · subst hj
    exact h i _ b hi rfl h3
  · rw [List.getElem?_set_ne hj] at h1
    exact h j e' b h1 h2 h3
/-- an own list is kept from now on -/
theorem EnvOk.freeze (h : EnvOk K C F H σ ρ) {i : Nat} {a : Addr} {vs : List V} {xs : List PV} (hi : ρ[i]? = some (some (.own xs))) (hs : σ[i]? = some (some (.ref a))) (nF : F a = none) (hr : Reps K C F vs xs) :
    EnvOk K C (upd F a (.lst vs)) H σ (ρ.set i (some (.val (.lst xs)))) where
  len := by rw [List.length_set]; exact h.len
  at_ := fun j e he => by
    have ex : Ex F (upd F a (.lst vs)) := fun b o q => by rw [upd_ne (ne_of_none q nF)]; exact q
    by_cases hj : i = j
    · subst hj
      rw [List.getElem?_set, if_pos rfl] at he
      split at he
      · cases he
        exact ⟨_, hs, .lst upd_same (hr.mono ex)⟩
      · cases he
    · rw [List.getElem?_set_ne hj] at he
      obtain ⟨v, h1, h2⟩ := h.at_ j e he
      refine ⟨v, h1, ?_⟩
      cases e with
      | val x => exact Rep.mono ex h2
      | exc => exact h2
      | own zs =>
        obtain ⟨b, us, rfl, h3, h4, h5, h6⟩ := h2
        have nb : b ≠ a := fun z => h.apart i j _ _ _ hj hi he rfl rfl hs (by rw [h1, z])
        exact ⟨b, us, rfl, by rw [upd_ne nb]; exact h3, h4, h5.mono ex, h6⟩
      | ownD zs =>
        obtain ⟨b, us, rfl, h3, h4, h5, h6⟩ := h2
        have nb : b ≠ a := fun z => h.apart i j _ _ _ hj hi he rfl rfl hs (by rw [h1, z])
        exact ⟨b, us, rfl, by rw [upd_ne nb]; exact h3, h4, RepKs.mono ex h5, h6⟩
  apart := fun j k x y v hjk ha hb ma mb hv => by
    by_cases hj : i = j
    · subst hj
      rw [List.getElem?_set, if_pos rfl] at ha
      split at ha
      · cases ha
        cases ma
      · cases ha
    · by_cases hk : i = k
      · subst hk
        rw [List.getElem?_set, if_pos rfl] at hb
        split at hb
        · cases hb
          cases mb
        · cases hb
      · rw [List.getElem?_set_ne hj] at ha
        rw [List.getElem?_set_ne hk] at hb
        exact h.apart j k x y v hjk ha hb ma mb hv
theorem Own0.freeze (h : Own0 H0 σ ρ) {i : Nat} {x : PV} : Own0 H0 σ (ρ.set i (some (.val x))) := fun j e a h1 h2 h3 => by
  by_cases hj : i = j
  · subst hj
    rw [List.getElem?_set, if_pos rfl] at h1
    split at h1
    · cases h1
      cases h2
    · cases h1
  · rw [List.getElem?_set_ne hj] at h1
    exact h j e a h1 h2 h3
end

@[simp] def sFreeze (i : Nat) (f : FS) : FS := fun ρ s => match ρ[i]? with
  | some (some (.own xs)) => f (ρ.set i (some (.val (.lst xs)))) s
  | _ => f ρ s
section
variable {X : Cx} {C : Lc} {W : WX} {st : Stmt} {rest : List Stmt} {f g : FS} {pos : Pos}
theorem pf_freeze (i : Nat) (h : PFss X C W rest f) : PFss X C W rest (sFreeze i f) := PSs.imp h fun D σ H h => by
  obtain ⟨F0, H0, F, ρ, s, p, g, ev, ow, h⟩ := h
  simp only [sFreeze] at h
  split at h
  · rename_i xs hi
    obtain ⟨v, h1, a, vs, rfl, nF, hH, hr, l⟩ := ev.at_ i _ hi
    have n0 := ow i _ a hi rfl h1
    exact ⟨F0, H0, upd F a (.lst vs), _, s, p.freeze n0 nF, g.freeze nF hH l, ev.freeze hi h1 nF hr, ow.freeze, h⟩
  · exact ⟨F0, H0, F, ρ, s, p, g, ev, ow, h⟩
/-! ### a new list that is the name's own -/
def LR (K : PySem.W.Frag) (C : Lc) (mg : Str → Option Value) (W : WX) (σ : L2.St) (F H : Hp) (r : R (List PV)) (Q : VK) : Prop := match r with
  | .val xs s' => ∀ p vs F' H', Stp C F H F' H' → G C F' H' s' → H p = none → F' p = none → H' p = some (.lst vs) → C.l ≠ some p → Reps K C F' vs xs → Q (.ref p) H'
  | .exc c fs s' => ∀ A d kvs F' H', mg c = some (.ref A) → Stp C F H F' H' → G C F' H' s' → F' d = some (.xd kvs) → RepF K C F' kvs fs → W (.ref A) (some d) σ H'
  | .stuck => False
def denL (K : PySem.W.Frag) (C : Lc) (mg : Str → Option Value) (W : WX) (f : FA) : TE := fun σ H Q => ∃ F ρ s, G C F H s ∧ EnvOk K C F H σ ρ ∧ LR K C mg W σ F H (f ρ s) Q
abbrev PFl (X : Cx) (C : Lc) (W : WX) (e : Expr) (f : FA) : Prop := PE X e (denL X.K C X.mg W f)
theorem LR.bind {K : PySem.W.Frag} {mg : Str → Option Value} {σ : L2.St} {F H : Hp} {α β : Type} {rel : Hp → β → α → Prop} {r : R α} {f : α → PS → R (List PV)} {Q : VK} {Q1 : β → Hp → Prop}
    (h : LR K C mg W σ F H (r.bind f) Q)
    (k : ∀ a s1 b F1 H1, r = .val a s1 → Stp C F H F1 H1 → G C F1 H1 s1 → rel F1 b a → LR K C mg W σ F1 H1 (f a s1) Q → Q1 b H1) : ER K C mg W rel σ F H r Q1 := by
  cases r with
  | stuck => exact h
  | exc c fs s' => exact h
  | val a s1 =>
    intro b F1 H1 p g rb
    refine k a s1 b F1 H1 rfl p g rb ?_
    have h' : LR K C mg W σ F H (f a s1) Q := h
    cases hf : f a s1 with
    | stuck => rw [hf] at h'; exact h'
    | exc c fs s' =>
      rw [hf] at h'
      intro A d kvs F' H' hm p' g' hx hr
      exact h' A d kvs F' H' hm (p.trans p') g' hx hr
    | val a2 s2 =>
      rw [hf] at h'
      intro q vs F' H' p' g' hq nF hH l hr
      refine h' q vs F' H' (p.trans p') g' ?_ nF hH l hr
      cases e : H q with
      | none => rfl
      | some o =>
        obtain ⟨o', z⟩ := p.there q o e
        rw [hq] at z
        cases z
theorem LR.new {K : PySem.W.Frag} {mg : Str → Option Value} {σ : L2.St} {F H : Hp} {s : PS} {xs : List PV} {vs : List V} {p : Addr} {Q : VK} (h : LR K C mg W σ F H (.val xs s) Q) (g : G C F H s) (hp : H p = none) (r : Reps K C F vs xs) : Q (.ref p) (upd H p (.lst vs)) :=
  h p vs F _ (Stp.allocH hp) (g.allocH hp) hp (g.free hp) upd_same (g.l_ne hp) r
variable {e : Expr} {es : List Expr} {fe : FE} {fa fb : FA}
@[simp] def lLst (a : FA) : FA := fun ρ s => (a ρ s).bind fun xs s1 => if xs.length ≤ big then .val xs s1 else .stuck
theorem pl_lst (h : PFa X C W es fa) : PFl X C W (.List es pos) (lLst fa) := PE.imp (pe_lst h) fun σ H Q h => by
  obtain ⟨F, ρ, s, g, ev, h⟩ := h
  refine ⟨F, ρ, s, g, ev, LR.bind h fun x s1 v F1 H1 _ p1 g1 r1 h1 => ?_⟩
  split at h1
  · rename_i hl
    exact ⟨by rw [r1.length]; exact big_line hl, fun p hp => h1.new g1 hp r1⟩
  · exact h1.elim
@[simp] def lIf (c : FT) (a b : FA) : FA := fun ρ s => (c ρ s).bind fun x s1 => if x = true then a ρ s1 else b ρ s1
theorem pl_if {c a b : Expr} {fc : FT} (hc : PFt X C W c fc) (ha : PFl X C W a fa) (hb : PFl X C W b fb) : PFl X C W (.IfExp c a b pos) (lIf fc fa fb) := PE.imp (pe_ifExp hc ha hb) fun σ H Q h => by
  obtain ⟨F, ρ, s, g, ev, h⟩ := h
  refine ⟨F, ρ, s, g, ev, LR.bind h fun x s1 v F1 H1 _ p1 g1 r1 h1 => ?_⟩
  cases r1
  cases x with
  | true => exact ⟨F1, ρ, s1, g1, ev.stp p1, h1⟩
  | false => exact ⟨F1, ρ, s1, g1, ev.stp p1, h1⟩
/-- a value that makes a new list anyhow (list(..), xs + ys, xs * n): by its own rule -/
@[simp] def sOwn (i : Nat) (f : FA) : FS := fun ρ s => (f ρ s).out ρ fun xs s1 => .nx (ρ.set i (some (.own xs))) s1
theorem pf_own (i : Nat) {x : Str} {pos' : Pos} (hN : X.N.Nodup) (he : PFl X C W e fa) (hi : X.N[i]? = some x := by rfl) (hx : Loc X.env.scope x := by first | exact Or.inl rfl | exact Or.inr rfl) (hs : swapsWith e (some (.Name x pos')) pos.line X.env = pure false := by rfl)
    (hf : X.fn x = true ∨ X.env.scope.names.lookup x = some .local := by first | exact .inl rfl | exact .inr rfl) : PFs X C W (.Assign [.Name x pos'] e pos) (sOwn i fa) := PSt.imp (ps_set hN hi hx he hs hf) fun D σ H h => by
  obtain ⟨F0, H0, F, ρ, s, p, g, ev, ow, h⟩ := h
  refine ⟨F, ρ, s, g, ev, ?_⟩
  simp only [sOwn] at h
  cases hf : fa ρ s with
  | stuck => rw [hf] at h; exact h.elim
  | exc c fs s' =>
    rw [hf] at h
    intro A d kvs F' H' hm p' g' hx hr
    exact h A d kvs σ F' H' hm (p.trans p') g' (ev.stp p') ow hx hr
  | val xs s1 =>
    rw [hf] at h
    intro q vs F' H' p' g' hq nF hH l hr
    have n0 : H0 q = none := by
      cases e : H0 q with
      | none => rfl
      | some o =>
        obtain ⟨o', z⟩ := p.there q o e
        rw [hq] at z
        cases z
    exact h _ F' H' (p.trans p') g' (ev.setOwn (H2 := H) p' hq nF hH hr l) (ow.setOwn n0)
/-! ### x.append(e), x.extend(e) -/
@[simp] def sApp (i : Nat) (fe : FE) : FS := fun ρ s => match ρ[i]? with
  | some (some (.own xs)) => (fe ρ s).out ρ fun y s1 => if xs.length < big then .nx (ρ.set i (some (.own (xs ++ [y])))) s1 else .stuck
  | _ => .stuck
@[simp] def sExt (i : Nat) (fe : FE) : FS := fun ρ s => match ρ[i]? with
  | some (some (.own xs)) => (fe ρ s).out ρ fun y s1 => match y with
    | .lst ys => if xs.length + ys.length ≤ big then .nx (ρ.set i (some (.own (xs ++ ys)))) s1 else .stuck
    | _ => .stuck
  | _ => .stuck
theorem pf_app (i : Nat) {x : Str} {apos cpos p : Pos} (he : PFe X C W e fe) (hN : X.N[i]? = some x := by rfl) (hv : Vis X.env.scope x := by first | exact Or.inl rfl | exact Or.inr (Or.inl rfl) | exact Or.inr (Or.inr rfl)) (hd : (x == ("__debug__" : Str)) = false := by decide)
    (hcd : (x == ("__classdict__" : Str)) = false := by decide) (hbase : attributeBase (.Name x p) "append" X.env (eval (.Name x p) X.env) = eval (.Name x p) X.env := by rfl)
    (hfew : ((backTo cpos (starEach [e] X.env)).all (fun x => !x.1) && (backToKw cpos (keywordEach [] X.env)).all (fun x => x.1.isSome) && decide ([e].length + ([] : List Keyword).length + (if ([] : List Keyword).isEmpty then 0 else 1) < 30)) = true := by rfl)
    (hline : (apos.endLine == cpos.line) = true := by rfl) (hs : starEach [e] X.env = (false, eval e X.env) :: starEach [] X.env := by rfl) (hplain : (backTo cpos (starEach [] X.env)).any (·.1) = false := by rfl)
    (hsw : swapsWith (.Call (.Attribute (.Name x p) "append" apos) [e] [] cpos) none pos.line X.env = pure false := by rfl) :
    PFs X C W (.Expr (.Call (.Attribute (.Name x p) "append" apos) [e] [] cpos) pos) (sApp i fe) :=
  PSt.imp (ps_expr (pe_bm PySem.F.plainAttrs_list PySem.F.slot_list_append PySem.F.type_list_append mt_append (pe_var hN hv hd hcd) (pa_cons he pa_nil hs) hbase hfew hline hs hplain) hsw) fun D σ H h => by
    obtain ⟨F0, H0, F, ρ, s, p, g, ev, ow, h⟩ := h
    simp only [sApp] at h
    split at h
    · rename_i xs hi
      obtain ⟨v, h1, a, vs, rfl, nF, hH, hr, l⟩ := ev.at_ i _ hi
      refine ⟨.ref a, h1, .inl ⟨rfl, vs, .inl (.inl hH)⟩, F, ρ, s, g, ev, ER.out p ev ow h fun y s1 b F1 H1 _ p1 g1 r1 h2 => ?_⟩
      have ev1 := ev.stp p1
      obtain ⟨nF1, hH1⟩ := p1.own nF hH l
      have n0 := ow i _ a hi rfl h1
      split at h2
      · rename_i hz
        refine ⟨a, vs, b, rfl, rfl, hH1, ?_, ?_⟩
        · rw [hr.length]
          exact Nat.lt_of_lt_of_le hz (by decide)
        · exact h2 σ F1 _ ((p.trans p1).mut n0) (g1.mut nF1 hH1 l) (ev1.mut hi h1 ((hr.mono p1.ex).append (.one r1))) (ow.mut hi)
      · exact h2.elim
    · exact h.elim
theorem pf_ext (i : Nat) {x : Str} {apos cpos p : Pos} (he : PFe X C W e fe) (hN : X.N[i]? = some x := by rfl) (hv : Vis X.env.scope x := by first | exact Or.inl rfl | exact Or.inr (Or.inl rfl) | exact Or.inr (Or.inr rfl)) (hd : (x == ("__debug__" : Str)) = false := by decide)
    (hcd : (x == ("__classdict__" : Str)) = false := by decide) (hbase : attributeBase (.Name x p) "extend" X.env (eval (.Name x p) X.env) = eval (.Name x p) X.env := by rfl)
    (hfew : ((backTo cpos (starEach [e] X.env)).all (fun x => !x.1) && (backToKw cpos (keywordEach [] X.env)).all (fun x => x.1.isSome) && decide ([e].length + ([] : List Keyword).length + (if ([] : List Keyword).isEmpty then 0 else 1) < 30)) = true := by rfl)
    (hline : (apos.endLine == cpos.line) = true := by rfl) (hs : starEach [e] X.env = (false, eval e X.env) :: starEach [] X.env := by rfl) (hplain : (backTo cpos (starEach [] X.env)).any (·.1) = false := by rfl)
    (hsw : swapsWith (.Call (.Attribute (.Name x p) "extend" apos) [e] [] cpos) none pos.line X.env = pure false := by rfl) :
    PFs X C W (.Expr (.Call (.Attribute (.Name x p) "extend" apos) [e] [] cpos) pos) (sExt i fe) :=
  PSt.imp (ps_expr (pe_bm PySem.F.plainAttrs_list PySem.F.slot_list_extend PySem.F.type_list_extend mt_extend (pe_var hN hv hd hcd) (pa_cons he pa_nil hs) hbase hfew hline hs hplain) hsw) fun D σ H h => by
    obtain ⟨F0, H0, F, ρ, s, p, g, ev, ow, h⟩ := h
    simp only [sExt] at h
    split at h
    · rename_i xs hi
      obtain ⟨v, h1, a, vs, rfl, nF, hH, hr, l⟩ := ev.at_ i _ hi
      refine ⟨.ref a, h1, .inl ⟨rfl, vs, .inl (.inl hH)⟩, F, ρ, s, g, ev, ER.out p ev ow h fun y s1 b F1 H1 _ p1 g1 r1 h2 => ?_⟩
      have ev1 := ev.stp p1
      obtain ⟨nF1, hH1⟩ := p1.own nF hH l
      have n0 := ow i _ a hi rfl h1
      cases y with
      | lst ys =>
        simp only [] at h2
        split at h2
        · rename_i hz
          obtain ⟨q, ws, rfl, h4, h5⟩ := r1.lst_inv
          refine ⟨a, q, vs, ws, rfl, rfl, hH1, g1.ex _ _ h4, ?_, ?_⟩
          · rw [hr.length, h5.length]
            exact big_line hz
          · exact h2 σ F1 _ ((p.trans p1).mut n0) (g1.mut nF1 hH1 l) (ev1.mut hi h1 ((hr.mono p1.ex).append h5)) (ow.mut hi)
        · exact h2.elim
      | _ => exact h2.elim
    · exact h.elim
/-! ### loops -/
variable {tg iter : Expr} {fg : FG} {js : List Nat} {fc : FT}
def forGo (g : FG) (f : FS) : List PV → Env → PS → Out
  | [], ρ, s => .nx ρ s
  | x :: r, ρ, s => match g x ρ s with
    | .val ρ1 s1 => match f ρ1 s1 with
      | .nx ρ2 s2 => forGo g f r ρ2 s2
      | .ct ρ2 s2 => forGo g f r ρ2 s2
      | .bk ρ2 s2 => .nx ρ2 s2
      | o => o
    | _ => .stuck
@[simp] def sFor (i : FA) (g : FG) (f : FS) : FS := fun ρ s => (i ρ s).out ρ fun xs s1 => forGo g f xs ρ s1
theorem pf_for {body : List Stmt} (hc : X.calm = true) (hi : PFi X C W tg iter fa) (hg : PFg X C tg fg js) (hb : PFss X C W body f) (hp : PassesOwn (model X.prog X.w) X.A X.env X.xe := by first | exact PassesOwn.never | exact passes_of rfl)
    (hs : ∀ x, foldedSetIterable iter X.env x = pure x := by intro _; rfl) : PFs X C W (.For tg iter body [] pos) (sFor fa fg f) := PSt.imp (ps_for hp hc hi hg hb hs) fun D σ H h => by
  obtain ⟨F0, H0, F, ρ, s, p, g, ev, ow, h⟩ := h
  refine ⟨F, ρ, s, g, ev, ER.out p ev ow h fun xs s1 J F1 H1 _ p1 g1 wk h1 => ?_⟩
  have P1 := p.trans p1
  refine ⟨fun i m σ' H' => m = xs.length - i ∧ i ≤ xs.length ∧ ∃ F' ρ' s', Stp C F1 H0 F' H' ∧ G C F' H' s' ∧ EnvOk X.K C F' H' σ' ρ' ∧ Own0 H0 σ' ρ' ∧ Post X.K C X.mg W F1 H0 D (forGo fg f (xs.drop i) ρ' s'),
    ⟨xs.length, by omega, Nat.zero_le _, F1, ρ, s1, P1.rebase, g1, ev.stp p1, ow, h1.unbase P1⟩, ?_⟩
  rintro i m σ' H' ⟨rfl, hi, F', ρ', s', p', g', ev', ow', h'⟩
  have e' : Ex F1 H' := fun a o q => g'.ex a o (p'.ex a o q)
  by_cases hlt : i < xs.length
  · obtain ⟨go, yl⟩ := wk.2 i xs[i] H' e' (List.getElem?_eq_getElem hlt)
    refine .inr ⟨go, fun σ'' H'' => ∃ m', m' < xs.length - i ∧ m' = xs.length - (i + 1) ∧ i + 1 ≤ xs.length ∧ ∃ F' ρ' s', Stp C F1 H0 F' H'' ∧ G C F' H'' s' ∧ EnvOk X.K C F' H'' σ'' ρ' ∧ Own0 H0 σ'' ρ' ∧ Post X.K C X.mg W F1 H0 D (forGo fg f (xs.drop (i + 1)) ρ' s'),
      fun σ'' H'' q => ?_, fun x H'' y => ?_⟩
    · obtain ⟨m', h1, h2, h3⟩ := q
      exact ⟨m', h1, h2, h3⟩
    · obtain ⟨F2, p2, g2, rx⟩ := yl x H'' F' s' y p'.ex g'
      rw [List.drop_eq_getElem_cons hlt, forGo] at h'
      refine ⟨F2, ρ', s', xs[i], g2, ev'.stp p2, rx, ?_⟩
      cases hf : fg xs[i] ρ' s' with
      | stuck => rw [hf] at h'; exact h'.elim
      | exc _ _ _ => rw [hf] at h'; exact h'.elim
      | val ρ1 s2 =>
        rw [hf] at h'
        intro σ3 F3 H3 p3 g3 ev3 _ o3
        refine ⟨F1, H0, F3, ρ1, s2, (p'.trans p2).trans p3, g3, ev3, o3 _ ow', ?_⟩
        simp only [] at h'
        cases hb2 : f ρ1 s2 with
        | nx ρ2 s3 =>
          simp only [hb2] at h'
          exact fun σ4 F4 H4 p4 g4 ev4 ow4 => ⟨_, by omega, rfl, by omega, F4, ρ2, s3, p4, g4, ev4, ow4, h'⟩
        | ct ρ2 s3 =>
          simp only [hb2] at h'
          exact fun σ4 F4 H4 p4 g4 ev4 ow4 => ⟨_, by omega, rfl, by omega, F4, ρ2, s3, p4, g4, ev4, ow4, h'⟩
        | bk ρ2 s3 =>
          simp only [hb2] at h'
          exact h'
        | rt v s3 =>
          simp only [hb2] at h'
          exact h'
        | exc c fs ρ2 s3 =>
          simp only [hb2] at h'
          exact h'
        | stuck =>
          simp only [hb2] at h'
          exact h'
  · have ei : i = xs.length := by omega
    subst ei
    rw [List.drop_length, forGo] at h'
    exact .inl ⟨wk.1 _ _ e' (Nat.le_refl _), h' σ' F' H' p' g' ev' ow'⟩
def whGo (c : FT) (f : FS) : Nat → Env → PS → Out
  | 0, _, _ => .stuck
  | n + 1, ρ, s => (c ρ s).out ρ fun b s1 => if b = true then (match f ρ s1 with
      | .nx ρ2 s2 => whGo c f n ρ2 s2
      | .ct ρ2 s2 => whGo c f n ρ2 s2
      | .bk ρ2 s2 => .nx ρ2 s2
      | o => o) else .nx ρ s1
@[simp] def sWhile (n : Nat) (c : FT) (f : FS) : FS := fun ρ s => whGo c f n ρ s
theorem pf_while (n : Nat) {c : Expr} {body : List Stmt} (hc : PFt X C W c fc) (hb : PFss X C W body f) (hp : PassesOwn (model X.prog X.w) X.A X.env X.xe := by first | exact PassesOwn.never | exact passes_of rfl) : PFs X C W (.While c body [] pos) (sWhile n fc f) :=
  PSt.imp (ps_while hp hc hb) fun D σ H h => by
    obtain ⟨F0, H0, F, ρ, s, p, g, ev, ow, h⟩ := h
    refine ⟨fun m σ' H' => ∃ F' ρ' s', Stp C F0 H0 F' H' ∧ G C F' H' s' ∧ EnvOk X.K C F' H' σ' ρ' ∧ Own0 H0 σ' ρ' ∧ Post X.K C X.mg W F0 H0 D (whGo fc f m ρ' s'), ⟨n, F, ρ, s, p, g, ev, ow, h⟩, ?_⟩
    rintro m σ' H' ⟨F', ρ', s', p', g', ev', ow', h'⟩
    cases m with
    | zero => exact h'.elim
    | succ m =>
      rw [whGo] at h'
      refine ⟨F', ρ', s', g', ev', ER.out p' ev' ow' h' fun x s1 b F1 H1 _ p1 g1 r1 h1 => ?_⟩
      cases r1
      cases x with
      | true =>
        simp only [if_true] at h1 ⊢
        refine ⟨fun σ'' H'' => ∃ m', m' < m + 1 ∧ m' = m ∧ ∃ F' ρ' s', Stp C F0 H0 F' H'' ∧ G C F' H'' s' ∧ EnvOk X.K C F' H'' σ'' ρ' ∧ Own0 H0 σ'' ρ' ∧ Post X.K C X.mg W F0 H0 D (whGo fc f m ρ' s'), fun σ'' H'' q => ?_, F0, H0, F1, ρ', s1, p'.trans p1, g1, ev'.stp p1, ow', ?_⟩
        · obtain ⟨m', h1, rfl, h3⟩ := q
          exact ⟨m', h1, h3⟩
        · cases hb2 : f ρ' s1 with
          | nx ρ2 s3 =>
            simp only [hb2] at h1
            exact fun σ4 F4 H4 p4 g4 ev4 ow4 => ⟨m, by omega, rfl, F4, ρ2, s3, p4, g4, ev4, ow4, h1⟩
          | ct ρ2 s3 =>
            simp only [hb2] at h1
            exact fun σ4 F4 H4 p4 g4 ev4 ow4 => ⟨m, by omega, rfl, F4, ρ2, s3, p4, g4, ev4, ow4, h1⟩
          | bk ρ2 s3 =>
            simp only [hb2] at h1
            exact h1
          | rt v s3 =>
            simp only [hb2] at h1
            exact h1
          | exc c fs ρ2 s3 =>
            simp only [hb2] at h1
            exact h1
          | stuck =>
            simp only [hb2] at h1
            exact h1
      | false =>
        simp only [Bool.false_eq_true, if_false] at h1 ⊢
        exact h1 σ' F1 H1 (p'.trans p1) g1 (ev'.stp p1) ow'
end
end PF
set_option Elab.async false
set_option linter.all false
set_option maxRecDepth 100000
/-! # Functions and their calls -/
namespace PF
open PySem L2 PySem.Spec PyProof.Rows

abbrev Fn := List PV → PS → R PV
abbrev noB : Hp := fun _ => none
theorem noB_ex {F : Hp} : Ex noB F := fun _ _ h => by cases h
/-- what follows a call -/
def FR (K : PySem.W.Frag) (C : Lc) (mg : Str → Option Value) (F H : Hp) (r : R PV) (Q : VK) (E : XK) : Prop := match r with
  | .val x s' => ∀ v F' H', Stp C F H F' H' → G C F' H' s' → Rep K C F' v x → Q v H'
  | .exc c fs s' => ∀ A d kvs F' H', mg c = some (.ref A) → Stp C F H F' H' → G C F' H' s' → F' d = some (.xd kvs) → RepF K C F' kvs fs → E (.ref A) (some d) H'
  | .stuck => False
def spFn (K : PySem.W.Frag) (T : List (Addr × Str)) (mg : Str → Option Value) (n : Nat) (m : Fn) : Sp := fun vs H Q E => vs.length = n ∧ ∃ l F s xs, G ⟨T, l, noB, none, none⟩ F H s ∧ Reps K ⟨T, l, noB, none, none⟩ F vs xs ∧ FR K ⟨T, l, noB, none, none⟩ mg F H (m xs s) Q E
/-- the def at f computes m; what it is called from is not within a repr -/
structure FnG (P : Program) (w : World) (K : PySem.W.Frag) (T : List (Addr × Str)) (mg : Str → Option Value) (base : Heap) (k : Nat) (f : Addr) (fd : FuncData) (ps : List Str) (m : Fn) : Prop where
  run : ∀ (A : Around) (outer : List PySem.Env) (s : Shared) (H : Hp) (args : Args) (us : List Value) (vs : List V) (Q : VK) (E : XK), A.guards = some [] → Room k A → Env0 P w K mg base A outer s H → BindsTo s fd args (ps.zip us) → Vals vs us → spFn K T mg ps.length m vs H Q E →
    codeAny (model P w) A (.call (.ref f) args) (CR (L2.CX P w) outer P w H s Q E) s
theorem FnG.mono {P : Program} {w : World} {K : PySem.W.Frag} {T : List (Addr × Str)} {mg : Str → Option Value} {base : Heap} {j k : Nat} {f : Addr} {fd : FuncData} {ps : List Str} {m : Fn} (F : FnG P w K T mg base j f fd ps m) (h : j ≤ k) : FnG P w K T mg base k f fd ps m :=
  ⟨fun A outer s H args us vs Q E hg hr => F.run A outer s H args us vs Q E hg (hr.mono h)⟩

/-- the parameters' values, then nothing -/
@[simp] def startE (n : Nat) (xs : List PV) : Env := xs.map (fun x => some (.val x)) ++ List.replicate (n - xs.length) none
@[simp] def Out.ret : Out → R PV
  | .nx _ s => .val .non s
  | .rt v s => .val v s
  | .exc c fs _ s => .exc c fs s
  | _ => .stuck
/-- a def of n names -/
@[simp] def mkFn (n : Nat) (f : FS) : Fn := fun xs s => (f (startE n xs) s).ret

theorem RepF.cl {K : PySem.W.Frag} {C C' : Lc} {F : Hp} (e : C.l = C'.l) : ∀ {v : List (Str × V)} {x : List (Str × PV)}, RepF K C F v x → RepF K C' F v x
  | _, _, .nil => .nil
  | _, _, .cons h r => .cons (h.cl e) (r.cl e)
theorem RepF.mono {K : PySem.W.Frag} {C : Lc} {F F' : Hp} (e : Ex F F') : ∀ {v : List (Str × V)} {x : List (Str × PV)}, RepF K C F v x → RepF K C F' v x
  | _, _, .nil => .nil
  | _, _, .cons h r => .cons (h.mono e) (r.mono e)
theorem start_ok {K : PySem.W.Frag} {C : Lc} {F H : Hp} {N : List Str} {vs : List V} {xs : List PV} (r : Reps K C F vs xs) : EnvOk K C F H (start N vs) (startE N.length xs) where
  len := by
    unfold L2.start startE
    rw [List.length_append, List.length_append, List.length_map, List.length_map, List.length_replicate, List.length_replicate, r.length]
  at_ := fun i e he => by
    simp only [startE] at he
    by_cases hi : i < xs.length
    · rw [List.getElem?_append_left (by simpa using hi), List.getElem?_map] at he
      cases ex : xs[i]? with
      | none => rw [ex] at he; cases he
      | some x =>
        rw [ex] at he
        cases he
        obtain ⟨v, hv, rv⟩ := r.get ex
        refine ⟨v, ?_, rv⟩
        unfold L2.start
        rw [List.getElem?_append_left (by rw [List.length_map, r.length]; exact hi), List.getElem?_map, hv]
        rfl
    · rw [List.getElem?_append_right (by simpa using hi), List.getElem?_replicate] at he
      split at he <;> cases he
  apart := fun i j a b v hij ha hb ma mb hv => by
    simp only [startE] at ha
    by_cases hi : i < xs.length
    · rw [List.getElem?_append_left (by simpa using hi), List.getElem?_map] at ha
      cases ex : xs[i]? with
      | none => rw [ex] at ha; cases ha
      | some x => rw [ex] at ha; cases ha; cases ma
    · rw [List.getElem?_append_right (by simpa using hi), List.getElem?_replicate] at ha
      split at ha <;> cases ha
theorem start_own {H0 : Hp} {σ : L2.St} {n : Nat} {xs : List PV} : Own0 H0 σ (startE n xs) := fun i e a h1 h2 h3 => by
  simp only [startE] at h1
  by_cases hi : i < xs.length
  · rw [List.getElem?_append_left (by simpa using hi), List.getElem?_map] at h1
    cases ex : xs[i]? with
    | none => rw [ex] at h1; cases h1
    | some x => rw [ex] at h1; cases h1; cases h2
  · rw [List.getElem?_append_right (by simpa using hi), List.getElem?_replicate] at h1
    split at h1 <;> cases h1

section
variable {P : Program} {w : World} {K : PySem.W.Frag} {T : List (Addr × Str)} {mg : Str → Option Value} {base : Heap}
/-- the body's reading from the promise -/
theorem fn_read {l : Option Addr} {N : List Str} {f : FS} {vs : List V} {xs : List PV} {F H : Hp} {s : PS} {Q : VK} {E : XK} (g : G ⟨T, l, noB, none, none⟩ F H s) (r : Reps K ⟨T, l, noB, none, none⟩ F vs xs) (h : FR K ⟨T, l, noB, none, none⟩ mg F H (mkFn N.length f xs s) Q E) :
    denS K ⟨T, l, noB, none, none⟩ mg (fun cls d _ H => E cls d H) f { nx := fun _ H' => Q .non H', rt := Q } (start N vs) H := by
  refine ⟨F, H, F, _, s, .refl, g, start_ok r, start_own, ?_⟩
  simp only [mkFn] at h
  cases hf : f (startE N.length xs) s with
  | nx ρ s' => rw [hf] at h; exact fun σ' F' H' p g' _ _ => h .non F' H' p g' .non
  | rt v s' => rw [hf] at h; exact fun x F' H' p g' r' => h x F' H' p g' r'
  | exc c fs ρ s' => rw [hf] at h; exact fun A d kvs σ' F' H' hm p g' _ _ hd hr => h A d kvs F' H' hm p g' hd hr
  | bk ρ s' => rw [hf] at h; exact h.elim
  | ct ρ s' => rw [hf] at h; exact h.elim
  | stuck => rw [hf] at h; exact h.elim
/-- THE RULE for a def -/
theorem fnG_ok {x qual : Str} {st : Stmt} {f : Addr} {fd : FuncData} {N ps : List Str} {k : Nat} {b : FS} (F : Fun K x qual st f fd) (S : FnScope N ps (defScope st))
    (hbody : ∀ (C : Lc) (cdv : Value) (A : Around) (outer : List PySem.Env) (s : Shared) (H : Hp) (E : XK), fd.code = cdv → C.T = T → A.guards = some [] → Room k (A.deeper (envOfC qual (defScope st) s.heap.objs.size f cdv)) →
      PSs (cxOf (L2.CX P w) P w K mg base N qual (defScope st) f cdv A outer s H E) (defBody st) (denS K C mg (fun cls d _ H => E cls d H) b)) : FnG P w K T mg base (k + 1) f fd ps (mkFn N.length b) := by
  obtain ⟨oc, od, kV, doc, pm, an, cdv, ct, osl, rfl, lk, hcd⟩ := F.ex
  refine ⟨fun A outer s H args us vs Q E hgd hr e0 hb r hsp => ?_⟩
  obtain ⟨hl, l, F1, s1, xs, g, rx, hq⟩ := hsp
  have KX : K.In s.heap := e0.mod.kin.keeps fun b o e => (e0.bs b o e).1
  have lim : s.heap.NoLimit := e0.mod.nolimit.keeps fun b o e => (e0.bs b o e).1
  have hkind : ∀ y ∈ ps.zip us, (defScope st).names.lookup y.1 = some .local ∨ ((defScope st).names.lookup y.1 = some .cell ∧ ((cellsFrom (s.heap.objs.size + 1) (defScope st).names []).lookup y.1).isSome = true) := fun ⟨n, v⟩ hy => by
    rcases S.par n (List.of_mem_zip hy).1 with q | q
    · exact .inl q
    · exact .inr ⟨q, PySem.W.cellsFrom_some _ _ _ (.inl q)⟩
  refine codeAny_call_function hr.depth (KX _ _ lk) rfl S.co S.gen rfl (PySem.W.codeRec_of KX hcd) (hb _ _ _ _ ?_)
  refine wpAny_newFunctionEnv_cells S.kind hkind fun env he s1' x => ?_
  subst he
  refine ⟨lim.keeps x.toInCall.keep, codeAny_func ?_⟩
  have ht := hbody ⟨T, l, noB, none, none⟩ cdv A outer s H E rfl rfl hgd (hr.deeper _)
  have hq' := fn_read (N := N) g rx hq
  have I : Inv (cxOf (L2.CX P w) P w K mg base N qual (defScope st) f cdv A outer s H E) [] (start N vs) H s1' := inv_start S hr.hd e0 hl r x
  refine wpAny_mono (ht.run [] s1' (start N vs) H _ I hq') (fun fl s' hs => ?_) fun e s' hs => hs
  have fin : ∀ {σ' : L2.St} {H' : Hp} {v : V} {u : Value}, Inv (cxOf (L2.CX P w) P w K mg base N qual (defScope st) f cdv A outer s H E) [] σ' H' s' → RelV v u → Q v H' → CE outer P w H s Q u s' :=
    fun {σ' H' v u} J rv q => ⟨v, H', J.os, J.bare, J.base, J.hok, rv, q⟩
  cases fl with
  | ret u =>
    obtain ⟨v, σ', H', J, rv, q⟩ := hs
    exact fin J rv q
  | next =>
    obtain ⟨σ', H', J, q⟩ := hs
    exact fin (v := V.non) (u := Value.none) J rfl q
  | brk =>
    obtain ⟨_, _, _, q⟩ := hs
    exact False.elim q
  | cont =>
    obtain ⟨_, _, _, q⟩ := hs
    exact False.elim q
end

/-! how many values an argument list has -/
inductive LenA : FA → Nat → Prop
  | nil : LenA fNil 0
  | cons {f : FE} {r : FA} {n : Nat} : LenA r n → LenA (fCons f r) (n + 1)
theorem LenA.of {fa : FA} {n : Nat} (h : LenA fa n) : ∀ {ρ : Env} {s : PS} {xs : List PV} {s' : PS}, fa ρ s = .val xs s' → xs.length = n := by
  induction h with
  | nil =>
    intro ρ s xs s' e
    cases e
    rfl
  | @cons f r n h ih =>
    intro ρ s xs s' e
    simp only [fCons] at e
    cases h1 : f ρ s with
    | val x s1 =>
      rw [h1] at e
      simp only [R.bind] at e
      cases h2 : r ρ s1 with
      | val ys s2 =>
        rw [h2] at e
        cases e
        rw [List.length_cons, ih h2]
      | _ => rw [h2] at e; cases e
    | _ => rw [h1] at e; cases e
/-! ### calls -/
@[simp] def fCall (m : Fn) (a : FA) : FE := fun ρ s => (a ρ s).bind m
def permV (p : List Nat) (zs : List V) : List V := p.map fun i => zs.getD i .non
def permU (p : List Nat) (zs : List Value) : List Value := p.map fun i => zs.getD i .none
@[simp] def permP (p : List Nat) (zs : List PV) : List PV := p.map fun i => zs.getD i .non
@[simp] def fCallK (m : Fn) (p : List Nat) (a : FA) : FE := fun ρ s => (a ρ s).bind fun zs s1 => m (permP p zs) s1
theorem perm_vals {vs : List V} {us : List Value} (r : Vals vs us) : ∀ p : List Nat, Vals (permV p vs) (permU p us)
  | [] => .nil
  | i :: p => by
    refine .cons ?_ (perm_vals r p)
    show RelV (vs.getD i .non) (us.getD i .none)
    rw [List.getD_eq_getElem?_getD, List.getD_eq_getElem?_getD]
    cases e : vs[i]? with
    | some v =>
      obtain ⟨u, hu, ru⟩ := r.get e
      rw [hu]
      exact ru
    | none =>
      rw [r.none_of e]
      rfl
theorem perm_reps {K : PySem.W.Frag} {C : Lc} {F : Hp} {vs : List V} {xs : List PV} (r : Reps K C F vs xs) : ∀ p : List Nat, Reps K C F (permV p vs) (permP p xs)
  | [] => .nil
  | i :: p => by
    refine .cons ?_ (perm_reps r p)
    show Rep K C F (vs.getD i .non) (xs.getD i .non)
    rw [List.getD_eq_getElem?_getD, List.getD_eq_getElem?_getD]
    cases e : xs[i]? with
    | some x =>
      obtain ⟨v, hv, rv⟩ := r.get e
      rw [hv]
      exact rv
    | none =>
      have e2 : vs[i]? = none := List.getElem?_eq_none_iff.mpr (by rw [r.length]; exact List.getElem?_eq_none_iff.mp e)
      rw [e2]
      exact .non
/-- how a call by names alone binds -/
def BindsK (K : PySem.W.Frag) (fd : FuncData) (ps ks : List Str) (p : List Nat) : Prop := ∀ (s : Shared) (ws : List Value), K.In s.heap → ws.length = ks.length → BindsTo s fd ⟨[], ks.zip ws⟩ (ps.zip (permU p ws))
theorem takesW0 {X : Cx} : Takes X W0 := fun _ _ x => by
  obtain ⟨_, _, _, _, _, _, _, _, _, _, _, _, _, _, _, _, z⟩ := x
  exact z.elim
section
variable {X : Cx} {C : Lc} {W : WX} {k : Nat} {f : Addr} {fd : FuncData} {ps : List Str} {m : Fn} {x : Str} {p pos : Pos} {e : Expr} {es : List Expr} {fa : FA}
theorem run_fnG {pins : List (Addr × Obj)} {σ : L2.St} {H : Hp} {s : Shared} {Q : VK} {args : Args} {us : List Value} {vs : List V} (F : FnG X.prog X.w X.K C.T X.mg X.base k f fd ps m) (hgd : X.A.guards = some []) (hr : Room k X.A) (tk : Takes X W)
    (I : Inv X pins σ H s) (b : BindsTo s fd args (ps.zip us)) (r : Vals vs us) (h : spFn X.K C.T X.mg ps.length m vs H Q (WE W σ)) : wpAny (model X.prog X.w) X.A (call (.ref f) args.pos args.kw) (EP X pins σ Q) X.xe s := by
  refine wpAny_call (codeAny_mono (F.run X.A X.stack s H args us vs Q (WE W σ) hgd hr I.env0 b r h) fun r s' hq => ?_)
  cases r with
  | error e => exact passAt tk σ pins H s e s' I hq
  | ok fl =>
    cases fl with
    | ret u => exact I.after hq
    | next => exact False.elim hq
    | brk => exact False.elim hq
    | cont => exact False.elim hq
theorem den_call {σ : L2.St} {F H : Hp} {s : PS} {Q : VK} {xs : List PV} {vs : List V} (g : G C F H s) (r : Reps X.K C F vs xs) (hl : vs.length = ps.length) (h : ER X.K C X.mg W (Rep X.K C) σ F H (m xs s) Q) : spFn X.K C.T X.mg ps.length m vs H Q (WE W σ) := by
  refine ⟨hl, C.l, F, s, xs, G.cl (C := C) (C' := ⟨C.T, C.l, noB, none, none⟩) g rfl rfl noB_ex, Reps.cl (C := C) (C' := ⟨C.T, C.l, noB, none, none⟩) rfl r, ?_⟩
  cases hm : m xs s with
  | val x s' => rw [hm] at h; exact fun v F' H' p g' r' => h v F' H' (Stp.cl (C := ⟨C.T, C.l, noB, none, none⟩) (C' := C) rfl p) (G.cl (C := ⟨C.T, C.l, noB, none, none⟩) (C' := C) g' rfl rfl (fun a o e => p.ex a o (g.base a o e))) (Rep.cl (C := ⟨C.T, C.l, noB, none, none⟩) (C' := C) rfl r')
  | exc c fs s' => rw [hm] at h; exact fun A d kvs F' H' e p g' hd hr => h A d kvs F' H' e (Stp.cl (C := ⟨C.T, C.l, noB, none, none⟩) (C' := C) rfl p) (G.cl (C := ⟨C.T, C.l, noB, none, none⟩) (C' := C) g' rfl rfl (fun a o e => p.ex a o (g.base a o e))) hd (RepF.cl (C := ⟨C.T, C.l, noB, none, none⟩) (C' := C) rfl hr)
  | stuck => rw [hm] at h; exact h
theorem pf_call (F : FnG X.prog X.w X.K C.T X.mg X.base k f fd ps m) (hm : X.mg x = some (.ref f)) (hk : PySem.W.keepIn X.K (.ref f) = true) (hb : Binds X.K fd ps []) (hgd : X.A.guards = some []) (hr : Room k X.A) (tk : Takes X W) (ha : PFa X C W (e :: es) fa)
    (hg : Gl X x := by rfl) (hdb : (x == ("__debug__" : Str)) = false := by decide) (he : starEach (e :: es) X.env = (false, eval e X.env) :: starEach es X.env := by rfl) (hpl : (backTo pos (starEach es X.env)).any (·.1) = false := by rfl)
    (hlen : LenA fa ps.length := by repeat constructor) :
    PFe X C W (.Call (.Name x p) (e :: es) [] pos) (fCall m fa) := by
  refine ⟨fun pins s σ H Q I h => ?_⟩
  refine wpAny_Call_Name_kw (ld_glob I hg hm ?_ hdb)
  obtain ⟨F0, ρ, s0, g, ev, h⟩ := h
  have hA : denA X.K C X.mg W fa σ H (fun vs H1 => vs.length = ps.length ∧ spFn X.K C.T X.mg ps.length m vs H1 Q (WE W σ)) :=
    ⟨F0, ρ, s0, g, ev, ER.bind h fun xs s1 vs F1 H1 ex p1 g1 r1 h1 => by
      have hl : vs.length = ps.length := by rw [r1.length]; exact hlen.of ex
      exact ⟨hl, den_call g1 r1 hl h1⟩⟩
  refine PySem.W.callWith_K (h₀ := X.base) I.ok.mod.kin hk (thn (ha.run pos pins s σ H _ I hA) fun us s1 ⟨vs, H1, I1, r, q⟩ => ⟨I1.kIn, ?_⟩) he hpl
  have b := hb s1 us I1.kIn (by rw [List.append_nil, ← r.length]; exact q.1)
  rw [List.append_nil] at b
  exact run_fnG (args := ⟨us, []⟩) F hgd hr tk I1 b r q.2
theorem pf_callK {kws : List Keyword} {ks : List Str} {pm : List Nat} (F : FnG X.prog X.w X.K C.T X.mg X.base k f fd ps m) (hm : X.mg x = some (.ref f)) (hk : PySem.W.keepIn X.K (.ref f) = true) (hb : BindsK X.K fd ps ks pm) (hgd : X.A.guards = some []) (hr : Room k X.A) (tk : Takes X W)
    (ha : PK X kws (denA X.K C X.mg W fa)) (hp : pm.length = ps.length := by rfl) (hg : Gl X x := by rfl) (hdb : (x == ("__debug__" : Str)) = false := by decide) (hall : (backToKw pos (keywordEach kws X.env)).all (·.1.isSome) = true := by rfl) (hks : (backToKw pos (keywordEach kws X.env)).filterMap (·.1) = ks := by rfl)
    (hpl : ((backTo pos (starEach [] X.env)).any (·.1) || (backToKw pos (keywordEach kws X.env)).any (·.1.isNone)) = false := by rfl) (hlen : LenA fa ks.length := by repeat constructor) :
    PFe X C W (.Call (.Name x p) [] kws pos) (fCallK m pm fa) := by
  refine ⟨fun pins s σ H Q I h => ?_⟩
  refine wpAny_Call_Name_kw (ld_glob I hg hm ?_ hdb)
  obtain ⟨F0, ρ, s0, g, ev, h⟩ := h
  have hA : denA X.K C X.mg W fa σ H (fun vs H1 => vs.length = ks.length ∧ spFn X.K C.T X.mg ps.length m (permV pm vs) H1 Q (WE W σ)) :=
    ⟨F0, ρ, s0, g, ev, ER.bind h fun xs s1 vs F1 H1 ex p1 g1 r1 h1 => by
      refine ⟨by rw [r1.length]; exact hlen.of ex, den_call g1 (perm_reps r1 pm) ?_ h1⟩
      unfold permV
      rw [List.length_map, hp]⟩
  refine PySem.W.callWith_KW0 (h₀ := X.base) I.ok.mod.kin hk hall ?_ hpl
  refine thn (ha.run pos pins s σ H _ I hA) fun ws s2 ⟨zs, H2, I2, rz, q1, q2⟩ => ⟨I2.kIn, ?_⟩
  rw [hks]
  exact run_fnG (args := ⟨[], ks.zip ws⟩) F hgd hr tk I2 (hb s2 ws I2.kIn (by rw [← rz.length]; exact q1)) (perm_vals rz pm) q2
theorem pf_knil : PK X [] (denA X.K C X.mg W fNil) := ⟨fun pos pins s σ H Q I h => (pk_nil (X := X)).run pos pins s σ H Q I (by
  obtain ⟨F, ρ, s, g, ev, h⟩ := h
  exact ER.ret (h : ER X.K C X.mg W (Reps X.K C) σ F H (.val [] s) Q) g .nil)⟩
theorem pf_kcons {fe : FE} {nm : Option Str} {kpos : Pos} {kws : List Keyword} (he : PFe X C W e fe) (hr : PK X kws (denA X.K C X.mg W fa)) : PK X (⟨nm, e, kpos⟩ :: kws) (denA X.K C X.mg W (fCons fe fa)) := ⟨fun pos pins s σ H Q I h => (pk_cons he hr).run pos pins s σ H Q I (by
  obtain ⟨F, ρ, s, g, ev, h⟩ := h
  refine ⟨F, ρ, s, g, ev, ER.bind h fun x s1 v F1 H1 _ p1 g1 r1 h1 => ?_⟩
  refine ⟨F1, ρ, s1, g1, ev.stp p1, ER.bind h1 fun xs s2 vs F2 H2 _ p2 g2 r2 h2 => ?_⟩
  exact ER.ret (h2 : ER X.K C X.mg W (Reps X.K C) σ F2 H2 (.val (x :: xs) s2) Q) g2 (.cons (r1.mono p2.ex) r2))⟩
end
end PF
set_option Elab.async false
set_option linter.all false
set_option maxRecDepth 100000
/-! # The pot, dicts, reads of own lists, names side by side -/
namespace PF
open PySem L2 PySem.Spec PyProof.Rows

section
variable {K : PySem.W.Frag} {C : Lc} {F H : Hp}
theorem G.potSet {x y : Int} (g : G C F H (some (x, y))) : ∃ a, C.l = some a ∧ H a = some (.lst [.int x, .int y]) ∧ ∀ u v : Int, Stp C F H F (upd H a (.lst [.int u, .int v])) ∧ G C F (upd H a (.lst [.int u, .int v])) (some (u, v)) := by
  obtain ⟨a, h1, h2, h3⟩ := (show ∃ a, C.l = some a ∧ F a = none ∧ H a = some (.lst [.int x, .int y]) from g.pot)
  refine ⟨a, h1, h3, fun u v => ⟨⟨fun _ _ h => h, fun b o h n _ => ?_, fun b o h => ?_, fun b o h n => by rw [n] at h; cases h⟩, ⟨fun b o h => ?_, ⟨a, h1, h2, upd_same⟩, tabs_upd h3 (fun _ z => by cases z) g.tabs, g.ftab, g.base⟩⟩⟩
  · rw [upd_ne fun e => n (by rw [e]; exact h1)]
    exact h
  · by_cases e : b = a
    · subst e
      exact ⟨_, upd_same⟩
    · exact ⟨o, by rw [upd_ne e]; exact h⟩
  · rw [upd_ne (ne_of_none h h2)]
    exact g.ex b o h
theorem Rep.pot_at {s : PS} {v : V} (g : G C F H s) (r : Rep K C F v .pot) : ∃ a x y, v = .ref a ∧ s = some (x, y) ∧ C.l = some a ∧ H a = some (.lst [.int x, .int y]) := by
  obtain ⟨a, rfl, h1⟩ := r.pot_inv
  cases s with
  | none =>
    have z : C.l = none := g.pot
    rw [z] at h1
    cases h1
  | some xy =>
    obtain ⟨b, h2, h3, h4⟩ := (show ∃ a, C.l = some a ∧ F a = none ∧ H a = some (.lst [.int xy.1, .int xy.2]) from g.pot)
    rw [h1] at h2
    cases h2
    exact ⟨a, xy.1, xy.2, rfl, rfl, h1, h4⟩
end

/-! ### indices: sequences, the pot, dicts -/
def keyOf : PV → Option Key
  | .int i => some (.inl i)
  | .str z => some (.inr z)
  | _ => none
theorem keyOf_inv {K : PySem.W.Frag} {C : Lc} {F : Hp} {v : V} {x : PV} {k : Key} (h : keyOf x = some k) (r : Rep K C F v x) : v = kV k := by
  cases x <;> simp only [keyOf, reduceCtorEq, Option.some.injEq] at h
  · subst h; exact r.int_inv
  · subst h; exact r.str_inv
def getK (kvs : List (Key × PV)) (k : Key) : Option PV := (kvs.find? fun kv => decide (kv.1 = k)).map (·.2)
theorem RepKs.get {K : PySem.W.Frag} {C : Lc} {F : Hp} {k : Key} : ∀ {vs : List (Key × V)} {xs : List (Key × PV)}, RepKs K C F vs xs → (∀ x, getK xs k = some x → ∃ v, valV vs k = some v ∧ Rep K C F v x) ∧ (getK xs k = none → valV vs k = none)
  | _, _, .nil => ⟨fun x (h : none = some x) => (nomatch h), fun _ => rfl⟩
  | _, _, .cons (k := k') h r => by
    unfold getK valV
    rw [List.find?_cons, List.find?_cons]
    by_cases e : k' = k
    · simp only [e, decide_true]
      exact ⟨fun x hx => ⟨_, rfl, by cases hx; exact h⟩, fun z => nomatch z⟩
    · simp only [e, decide_false]
      exact RepKs.get r
@[simp] def oIxD (kvs : List (Key × PV)) (y : PV) (s : PS) : R PV := match keyOf y with
  | some k => ofO (getK kvs k) s
  | none => .stuck
@[simp] def oIxS (x y : PV) (s : PS) : R PV := match x with
  | .pot => (match y, s with
    | .int i, some (p, q) => ofO (atI [PV.int p, PV.int q] i) s
    | _, _ => .stuck)
  | .dic kvs => oIxD kvs y s
  | x => ofO (oIx x y) s
@[simp] def fIx (a b : FE) : FE := fun ρ s => (a ρ s).bind fun x s1 => (b ρ s1).bind fun y s2 => oIxS x y s2
section
variable {X : Cx} {C : Lc} {W : WX} {a b : Expr} {fa fb : FE} {pos : Pos}
theorem pf_index (hu : X.A.units + 1 < cLine) (ha : PFe X C W a fa) (hb : PFe X C W b fb) (hs : PlainIx b := by exact fun _ _ => rfl) (hs2 : NoSl b := by exact fun _ _ => rfl) : PFe X C W (.Subscript a b pos) (fIx fa fb) :=
  PE.imp (PE.or2 (pe_ix ix_seq ha hb hs) (pe_dget hu ha hb hs2)) fun σ H Q h => by
    obtain ⟨F, ρ, s, g, ev, h⟩ := h
    have h0 := h
    simp only [fIx] at h0
    have seqs : (∀ x s0, fa ρ s = .val x s0 → ∀ kvs, x ≠ .dic kvs) → tOp (rIx X.K) (den X.K C X.mg W fa) (den X.K C X.mg W fb) σ H Q := fun nd => by
      refine ⟨F, ρ, s, g, ev, ER.bind h fun x s1 v F1 H1 ex p1 g1 r1 h1 => ?_⟩
      refine ⟨F1, ρ, s1, g1, ev.stp p1, ER.bind h1 fun y s2 u F2 H2 _ p2 g2 r2 h2 => ?_⟩
      have r1' := r1.mono p2.ex
      have fin : ER X.K C X.mg W (Rep X.K C) σ F2 H2 (ofO (oIx x y) s2) Q → rIx X.K v u H2 Q := fun h3 => by
        cases e : oIx x y with
        | none => rw [e] at h3; exact h3.elim
        | some z =>
          rw [e] at h3
          exact v_ix F2 H2 s2 v u x y z Q g2 r1' r2 e fun w F' H' p' g' rw' => h3 w F' H' p' g' rw'
      cases x with
      | pot =>
        obtain ⟨l, x0, y0, rfl, e2, h3, h4⟩ := r1'.pot_at g2
        subst e2
        cases y with
        | int i =>
          have h2 : ER X.K C X.mg W (Rep X.K C) σ F2 H2 (ofO (L2.atI [PV.int x0, PV.int y0] i) (some (x0, y0))) Q := h2
          cases e3 : L2.atI [PV.int x0, PV.int y0] i with
          | none => rw [e3] at h2; exact h2.elim
          | some z =>
            rw [e3] at h2
            have rr : Reps X.K C F2 [.int x0, .int y0] [.int x0, .int y0] := .cons (.int _) (.cons (.int _) .nil)
            obtain ⟨w, h5, h6⟩ := rr.atI e3
            exact .inl ⟨l, _, _, w, rfl, r2.int_inv, .inl (.inl h4), h5, ER.ret h2 g2 h6⟩
        | _ => exact h2.elim
      | dic kvs => exact (nd _ _ ex kvs rfl).elim
      | _ => exact fin h2
    cases hf : fa ρ s with
    | stuck => rw [hf] at h0; exact h0.elim
    | exc c fs s' => exact .inl (seqs fun x s0 e => by rw [hf] at e; cases e)
    | val x s0 =>
      by_cases hd : ∃ kvs, x = .dic kvs
      · obtain ⟨kvs, rfl⟩ := hd
        refine .inr ⟨F, ρ, s, g, ev, ER.bind h fun x s1 v F1 H1 ex p1 g1 r1 h1 => ?_⟩
        rw [hf] at ex
        cases ex
        refine ⟨F1, ρ, s0, g1, ev.stp p1, ER.bind h1 fun y s2 u F2 H2 _ p2 g2 r2 h2 => ?_⟩
        simp only [oIxS, oIxD] at h2
        obtain ⟨l, vs, rfl, h3, h4⟩ := (r1.mono p2.ex).dic_inv
        cases e1 : keyOf y with
        | none => simp only [e1] at h2; exact h2.elim
        | some k =>
          simp only [e1] at h2
          cases e2 : getK kvs k with
          | none => simp only [e2, ofO] at h2; exact h2.elim
          | some z =>
            simp only [e2, ofO] at h2
            obtain ⟨w, h5, h6⟩ := (h4.get (k := k)).1 z e2
            refine ⟨l, w, rfl, ?_, ER.ret h2 g2 h6⟩
            rw [keyOf_inv e1 r2, ← h5]
            exact DGet.k (g2.ex _ _ h3)
      · exact .inl (seqs fun y s1 e kvs q => hd ⟨kvs, by rw [hf] at e; cases e; exact q⟩)

/-! ### dicts that are written out -/
def denP (K : PySem.W.Frag) (C : Lc) (mg : Str → Option Value) (W : WX) : List (Key × FE) → List (TE × TE)
  | [] => []
  | (k, f) :: r => (tC (kV k), den K C mg W f) :: denP K C mg W r
abbrev PFd (X : Cx) (C : Lc) (W : WX) (pos : Pos) (ks : List (Option Expr)) (vs : List Expr) (l : List (Key × FE)) : Prop := PPs X pos ks vs (denP X.K C X.mg W l)
theorem pd_nil : PFd X C W pos [] [] [] := pps_nil
theorem pd_str {z : Str} {j} {kpos : Pos} {v : Expr} {ks : List (Option Expr)} {vs : List Expr} {f : FE} {l : List (Key × FE)} (hv : PFe X C W v f) (hr : PFd X C W pos ks vs l) : PFd X C W pos (some (.Constant (.str z) j kpos) :: ks) (v :: vs) ((.inr z, f) :: l) := pps_cons pe_str hv hr
theorem pd_int {z : Int} {j} {kpos : Pos} {v : Expr} {ks : List (Option Expr)} {vs : List Expr} {f : FE} {l : List (Key × FE)} (hv : PFe X C W v f) (hr : PFd X C W pos ks vs l) : PFd X C W pos (some (.Constant (.int z) j kpos) :: ks) (v :: vs) ((.inl z, f) :: l) := pps_cons pe_int hv hr
@[simp] def fPairs : List (Key × FE) → Env → PS → R (List (Key × PV))
  | [], _, s => .val [] s
  | (k, f) :: r, ρ, s => (f ρ s).bind fun x s1 => (fPairs r ρ s1).bind fun xs s2 => .val ((k, x) :: xs) s2
theorem fPairs_keys : ∀ {l : List (Key × FE)} {ρ : Env} {s s' : PS} {xs : List (Key × PV)}, fPairs l ρ s = .val xs s' → xs.map (·.1) = l.map (·.1)
  | [], ρ, s, s', xs, h => by cases h; rfl
  | (k, f) :: r, ρ, s, s', xs, h => by
    simp only [fPairs] at h
    cases h1 : f ρ s with
    | val x s1 =>
      rw [h1] at h
      simp only [R.bind] at h
      cases h2 : fPairs r ρ s1 with
      | val ys s2 =>
        rw [h2] at h
        cases h
        rw [List.map_cons, List.map_cons, fPairs_keys h2]
      | _ => rw [h2] at h; cases h
    | _ => rw [h1] at h; cases h
@[simp] def fDic (l : List (Key × FE)) : FE := fun ρ s => (fPairs l ρ s).bind fun kvs s1 => .val (.dic kvs) s1
theorem pairs_read {K : PySem.W.Frag} {mg : Str → Option Value} : ∀ {l : List (Key × FE)} {σ : L2.St} {F H : Hp} {ρ : Env} {s : PS} {Q : List (V × V) → Hp → Prop}, G C F H s → EnvOk K C F H σ ρ →
    ER K C mg W (fun F ps xs => ∃ kvs : List (Key × V), ps = kvs.map (fun kv => (kV kv.1, kv.2)) ∧ RepKs K C F kvs xs) σ F H (fPairs l ρ s) Q → tPairs (denP K C mg W l) σ H Q
  | [], σ, F, H, ρ, s, Q, g, ev, h => ER.ret (h : ER K C mg W _ σ F H (.val [] s) Q) g ⟨[], rfl, .nil⟩
  | (k, f) :: r, σ, F, H, ρ, s, Q, g, ev, h => by
    simp only [fPairs] at h
    refine ⟨F, ρ, s, g, ev, ER.bind h fun x s1 v F1 H1 _ p1 g1 r1 h1 => ?_⟩
    refine pairs_read g1 (ev.stp p1) (ER.bind h1 fun xs s2 ps F2 H2 _ p2 g2 r2 h2 => ?_)
    obtain ⟨kvs, rfl, r3⟩ := r2
    exact ER.ret (h2 : ER K C mg W _ σ F2 H2 (.val ((k, x) :: xs) s2) Q) g2 ⟨(k, v) :: kvs, rfl, .cons (r1.mono p2.ex) r3⟩
theorem RepKs.keys {K : PySem.W.Frag} {F : Hp} : ∀ {vs : List (Key × V)} {xs : List (Key × PV)}, RepKs K C F vs xs → vs.map (·.1) = xs.map (·.1)
  | _, _, .nil => rfl
  | _, _, .cons _ r => by rw [List.map_cons, List.map_cons, RepKs.keys r]
theorem mergeK_nodup : ∀ (more acc : List (Key × V)), (acc.map (·.1) ++ more.map (·.1)).Nodup → mergeK acc more = acc ++ more
  | [], acc, _ => by unfold mergeK; rw [List.foldl_nil, List.append_nil]
  | p :: r, acc, h => by
    have e : putK acc p.1 p.2 = acc ++ [p] := by
      unfold putK
      rw [if_neg]
      intro z
      obtain ⟨q, hq, hd⟩ := List.any_eq_true.mp z
      have hd' : q.1 = p.1 := by simpa using hd
      exact (List.nodup_append.mp h).2.2 q.1 (List.mem_map_of_mem hq) p.1 (by rw [List.map_cons]; exact List.mem_cons_self) hd'
    show mergeK (putK acc p.1 p.2) r = _
    rw [e, mergeK_nodup r (acc ++ [p]) (by rw [List.map_append, List.append_assoc]; exact h), List.append_assoc]
    rfl
theorem tabs_updD {T : List (Addr × Str)} {H : Hp} {D : Addr} {vs : List (Key × V)} {o : HO} (h : H D = some (.dK vs)) (ho : ∀ ps, o ≠ .tbl ps) (t : TabsA T H) : TabsA T (upd H D o) := ⟨fun p hp => by
  obtain ⟨ps, h1, h2, h3⟩ := t.1 p hp
  refine ⟨ps, ?_, h2, fun pos cv hc => ?_⟩
  · rw [upd_ne (ne_of h1 h (fun z => by cases z))]
    exact h1
  · obtain ⟨c, e1, e2⟩ := h3 pos cv hc
    refine ⟨c, e1, ?_⟩
    rw [upd_ne (ne_of e2 h (fun z => by unfold LamX.CodeO at z; cases z))]
    exact e2, fun a ps q => by
  by_cases e : a = D
  · rw [e, upd_same] at q
    exact (ho ps (Option.some.inj q)).elim
  · rw [upd_ne e] at q
    exact t.2 a ps q⟩
theorem pf_dic {keys : List (Option Expr)} {values : List Expr} {l : List (Key × FE)} (h : PFd X C W pos keys values l) (h0 : keys ≠ [] := by intro h; cases h) (hall : keys.all (·.isSome) = true := by rfl) (hl : keys.length = values.length := by rfl)
    (h15 : keys.length ≤ 15 := by decide) (hl2 : l.length = keys.length := by rfl) (hn : (l.map (·.1)).Nodup := by decide) : PFe X C W (.Dict keys values pos) (fDic l) :=
  PE.imp (pe_disp h hall hl h0 h15) fun σ H Q h => by
    obtain ⟨F, ρ, s, g, ev, h⟩ := h
    intro p hp
    have st0 : Stp C F H F (upd H p (.dK [])) := Stp.allocH hp
    have lp : C.l ≠ some p := g.l_ne hp
    refine pairs_read (g.allocH hp) (ev.stp st0) ?_
    simp only [fDic] at h
    cases hf : fPairs l ρ s with
    | stuck => rw [hf] at h; exact h.elim
    | exc c fs s' =>
      rw [hf] at h
      intro A d kvs F' H' hm p' g' hx hr
      exact h A d kvs F' H' hm (st0.trans p') g' hx hr
    | val xs s1 =>
      have ks := fPairs_keys hf
      rw [hf] at h
      rintro ps F2 H2 p2 g2 ⟨kvs, rfl, r2⟩
      have hz : kvs.map (·.1) = l.map (·.1) := r2.keys.trans ks
      have e2 : H2 p = some (.dK []) := p2.keep p _ upd_same lp fun _ z => by cases z
      have n2 : F2 p = none := by
        cases q : F2 p with
        | none => rfl
        | some o =>
          have z := p2.new p o q (g.free hp)
          rw [upd_same] at z
          cases z
      refine ⟨e2, kvs, rfl, ?_, ?_⟩
      · have := congrArg List.length hz
        rw [List.length_map, List.length_map] at this
        omega
      · have em : mergeK [] kvs = kvs := mergeK_nodup kvs [] (by rw [List.map_nil, List.nil_append, hz]; exact hn)
        rw [em]
        have exF : Ex F2 (upd F2 p (.dK kvs)) := fun b o q => by rw [upd_ne (ne_of_none q n2)]; exact q
        refine (h : ER X.K C X.mg W (Rep X.K C) σ F H (.val (.dic xs) s1) Q) (.ref p) (upd F2 p (.dK kvs)) _ ⟨fun b o q => exF b o (p2.ex b o q), fun b o q n t => ?_, fun b o q => ?_, fun b o q z => ?_⟩ ⟨fun b o q => ?_, ?_, tabs_updD e2 (fun _ z => by cases z) g2.tabs, fun b ps q => ?_, fun b o q => exF b o (g2.base b o q)⟩ (.dic upd_same (RepKs.mono exF r2))
        · have nb : b ≠ p := ne_of_none q hp
          rw [upd_ne nb]
          exact p2.keep b o (by rw [upd_ne nb]; exact q) n t
        · have nb : b ≠ p := ne_of_none q hp
          rw [upd_ne nb]
          exact p2.there b o (by rw [upd_ne nb]; exact q)
        · by_cases e : b = p
          · rw [e]; exact hp
          · rw [upd_ne e] at q
            have := p2.new b o q z
            rw [upd_ne e] at this
            exact this
        · by_cases e : b = p
          · rw [e, upd_same] at q ⊢
            exact q
          · rw [upd_ne e] at q ⊢
            exact g2.ex b o q
        · cases s1 with
          | none => exact g2.pot
          | some xy =>
            obtain ⟨c, q1, q2, q3⟩ := (show ∃ a, C.l = some a ∧ F2 a = none ∧ H2 a = some (.lst [.int xy.1, .int xy.2]) from g2.pot)
            have nc : c ≠ p := fun e => lp (by rw [q1, e])
            exact ⟨c, q1, by rw [upd_ne nc]; exact q2, by rw [upd_ne nc]; exact q3⟩
        · by_cases e : b = p
          · rw [e, upd_same] at q
            cases q
          · rw [upd_ne e] at q
            exact g2.ftab b ps q

/-! ### a dict of the module -/
def getS (kvs : List (Str × PV)) (z : Str) : Option PV := (kvs.find? fun kv => decide (kv.1 = z)).map (·.2)
structure GDict (K : PySem.W.Frag) (w : World) (d : Addr) (kvs : List (Str × PV)) : Prop where
  ex : ∃ es n, K.lookup d = some ⟨.type "dict", none, .dict es n, #[]⟩ ∧ PySem.W.KeysLit w.params es.toList
  low : (d == sysModules) = false
  get : ∀ z x, getS kvs z = some x → ∃ u v, PySem.W.nsIn K d z = some (some u) ∧ RelV v u ∧ ∀ C F, Rep K C F v x
  miss : ∀ z, getS kvs z = none → PySem.W.nsIn K d z = some none
@[simp] def oGix (kvs : List (Str × PV)) (y : PV) (s : PS) : R PV := match y with
  | .str z => ofO (getS kvs z) s
  | _ => .stuck
@[simp] def fGix (kvs : List (Str × PV)) (b : FE) : FE := fun ρ s => (b ρ s).bind fun y s1 => oGix kvs y s1
@[simp] def oGin (kvs : List (Str × PV)) (y : PV) (s : PS) : R PV := match y with
  | .str z => .val (.bl (getS kvs z).isSome) s
  | _ => .stuck
@[simp] def fGin (kvs : List (Str × PV)) (b : FE) : FE := fun ρ s => (b ρ s).bind fun y s1 => oGin kvs y s1
theorem pf_gix {x : Str} {d : Addr} {p : Pos} {kvs : List (Str × PV)} (D : GDict X.K X.w d kvs) (hm : X.mg x = some (.ref d)) (hb : PFe X C W b fb) (hg : Gl X x := by rfl) (hd : (x == ("__debug__" : Str)) = false := by decide) (hs : PlainIx b := by exact fun _ _ => rfl) :
    PFe X C W (.Subscript (.Name x p) b pos) (fGix kvs fb) :=
  PE.imp (pe_ix ix_kdict (pe_glob (v := .ref d) hg hm rfl hd) hb hs) fun σ H Q h => by
    obtain ⟨F, ρ, s, g, ev, h⟩ := h
    refine ⟨F, ρ, s, g, ev, ER.bind h fun y s1 u F1 H1 _ p1 g1 r1 h1 => ?_⟩
    cases y with
    | str z =>
      simp only [oGix] at h1
      cases e : getS kvs z with
      | none => simp only [e, ofO] at h1; exact h1.elim
      | some w =>
        simp only [e, ofO] at h1
        obtain ⟨u0, v0, h2, h3, h4⟩ := D.get z w e
        obtain ⟨es, n, h5, h6⟩ := D.ex
        exact ⟨d, z, v0, rfl, r1.str_inv, ⟨es, n, u0, h5, h6, h2, h3⟩, ER.ret h1 g1 (h4 C F1)⟩
    | _ => exact h1.elim
theorem gin_read {o : Option PV → Bool} {d : Addr} {kvs : List (Str × PV)} (D : GDict X.K X.w d kvs) {F H : Hp} {s : PS} {z : Str} : ∃ r, PySem.W.nsIn X.K d z = some r ∧ r.isSome = (getS kvs z).isSome := by
  cases e : getS kvs z with
  | none => exact ⟨none, D.miss z e, rfl⟩
  | some w =>
    obtain ⟨u0, v0, h2, _, _⟩ := D.get z w e
    exact ⟨some u0, h2, rfl⟩
theorem pf_gin {x : Str} {d : Addr} {p : Pos} {kvs : List (Str × PV)} (D : GDict X.K X.w d kvs) (hm : X.mg x = some (.ref d)) (hb : PFe X C W b fb) (hg : Gl X x := by rfl) (hd : (x == ("__debug__" : Str)) = false := by decide) (hk : behindInMarks .In (.Name x p) = false := by rfl) :
    PFe X C W (.Compare b [.In] [.Name x p] pos) (fGin kvs fb) := by
  obtain ⟨es, n, h5, h6⟩ := D.ex
  refine PE.imp (pe_cmpR (op_in_kd ⟨h5, h6, D.low⟩) hb (pe_glob (v := .ref d) hg hm rfl hd) hk) fun σ H Q h => ?_
  obtain ⟨F, ρ, s, g, ev, h⟩ := h
  refine ⟨F, ρ, s, g, ev, ER.bind h fun y s1 u F1 H1 _ p1 g1 r1 h1 => ?_⟩
  cases y with
  | str z =>
    simp only [oGin] at h1
    obtain ⟨r, e1, e2⟩ := gin_read (X := X) D (F := F1) (H := H1) (s := s1) (z := z) (o := fun _ => true)
    exact ⟨z, r, r1.str_inv, rfl, e1, by rw [e2]; exact ER.ret h1 g1 (.bl _)⟩
  | _ => exact h1.elim

/-! ### own lists are read -/
@[simp] def fLenO (i : Nat) : FE := fun ρ s => match ρ[i]? with
  | some (some (.own xs)) => .val (.int xs.length) s
  | _ => .stuck
@[simp] def fIxO (i : Nat) (fb : FE) : FE := fun ρ s => match ρ[i]? with
  | some (some (.own xs)) => (fb ρ s).bind fun y s1 => match y with
    | .int k => ofO (atI xs k) s1
    | _ => .stuck
  | _ => .stuck
theorem pf_lenO (i : Nat) {x : Str} {p p2 : Pos} (hm : X.mg "len" = none) (hN : X.N[i]? = some x := by rfl) (hv : Vis X.env.scope x := by first | exact Or.inl rfl | exact Or.inr (Or.inl rfl) | exact Or.inr (Or.inr rfl)) (hd : (x == ("__debug__" : Str)) = false := by decide)
    (hcd : (x == ("__classdict__" : Str)) = false := by decide) (hg : Gl X "len" := by rfl)
    (he : starEach [.Name x p2] X.env = (false, eval (.Name x p2) X.env) :: starEach [] X.env := by rfl) (hpl : (backTo pos (starEach [] X.env)).any (·.1) = false := by rfl) : PFe X C W (.Call (.Name "len" p) [.Name x p2] [] pos) (fLenO i) :=
  PE.imp (pe_callB (call_len_seq) hg hm (by decide +kernel) (pa_cons (pe_var hN hv hd hcd) pa_nil he) (by decide) (by decide) he hpl) fun σ H Q h => by
    obtain ⟨F, ρ, s, g, ev, h⟩ := h
    simp only [fLenO] at h
    split at h
    · rename_i xs hi
      obtain ⟨v, h1, a, vs, rfl, nF, hH, hr, l⟩ := ev.at_ i _ hi
      refine ⟨.ref a, h1, a, vs, rfl, .inl (.inl (.inl hH)), ?_⟩
      rw [hr.length]
      exact ER.ret h g (.int _)
    · exact h.elim
theorem pf_ixO (i : Nat) {x : Str} {p2 : Pos} (hb : PFe X C W b fb) (hN : X.N[i]? = some x := by rfl) (hv : Vis X.env.scope x := by first | exact Or.inl rfl | exact Or.inr (Or.inl rfl) | exact Or.inr (Or.inr rfl)) (hd : (x == ("__debug__" : Str)) = false := by decide)
    (hcd : (x == ("__classdict__" : Str)) = false := by decide) (hs : PlainIx b := by exact fun _ _ => rfl) : PFe X C W (.Subscript (.Name x p2) b pos) (fIxO i fb) :=
  PE.imp (pe_ix ix_seq (pe_var hN hv hd hcd) hb hs) fun σ H Q h => by
    obtain ⟨F, ρ, s, g, ev, h⟩ := h
    simp only [fIxO] at h
    split at h
    · rename_i xs hi
      obtain ⟨v, h1, a, vs, rfl, nF, hH, hr, l⟩ := ev.at_ i _ hi
      refine ⟨.ref a, h1, F, ρ, s, g, ev, ER.bind h fun y s1 u F1 H1 _ p1 g1 r1 h2 => ?_⟩
      cases y with
      | int k =>
        simp only [] at h2
        obtain ⟨nF1, hH1⟩ := p1.own nF hH l
        cases e : L2.atI xs k with
        | none => simp only [e, ofO] at h2; exact h2.elim
        | some z =>
          simp only [e, ofO] at h2
          obtain ⟨w, h5, h6⟩ := (hr.mono p1.ex).atI e
          exact .inl ⟨a, vs, k, w, rfl, r1.int_inv, .inl (.inl hH1), h5, ER.ret h2 g1 h6⟩
      | _ => exact h2.elim
    · exact h.elim

/-! ### pot[i] = .. -/
@[simp] def oPut (i : PV) (v : PV) (s : PS) : Option PS := match i, v, s with
  | .int 0, .int n, some (_, q) => some (some (n, q))
  | .int 1, .int n, some (p, _) => some (some (p, n))
  | _, _, _ => none
@[simp] def gPot (fo fi : FE) : FG := fun v ρ s => (fo ρ s).calm.bind fun o s1 => (fi ρ s1).calm.bind fun i s2 => match o with
  | .pot => (match oPut i v s2 with
    | some s3 => .val ρ s3
    | none => .stuck)
  | _ => .stuck
theorem pf_gpot {js : List Nat} (ha : PFe X C W0 a fa) (hb : PFe X C W0 b fb) (hs : ∀ v, assign (.Subscript a b pos) X.env v = (do
      let ov ← holding [v] (eval a X.env)
      let iv ← holding [v, ov] (eval b X.env)
      standAt pos
      holding [v, ov, iv] (setItem ov iv v)
      release [v, ov, iv] []) := by intro _; rfl) : PFg X C (.Subscript a b pos) (gPot fa fb) js :=
  PG.imp (pg_sub ha hb set_list hs) fun v σ H Q h => by
    obtain ⟨F, ρ, s, x, g, ev, r, h⟩ := h
    refine ⟨F, ρ, s, g, ev, ?_⟩
    simp only [gPot] at h
    cases hf : fa ρ s with
    | stuck => rw [hf] at h; exact h.elim
    | exc _ _ _ => rw [hf] at h; exact h.elim
    | val o s1 =>
      rw [hf] at h
      intro ov F1 H1 p1 g1 r1
      refine ⟨F1, ρ, s1, g1, ev.stp p1, ?_⟩
      simp only [R.calm, R.bind] at h
      cases hf2 : fb ρ s1 with
      | stuck => rw [hf2] at h; exact h.elim
      | exc _ _ _ => rw [hf2] at h; exact h.elim
      | val i s2 =>
        rw [hf2] at h
        intro iv F2 H2 p2 g2 r2
        simp only [R.calm, R.bind] at h
        cases o with
        | pot =>
          simp only [] at h
          cases e : oPut i x s2 with
          | none => rw [e] at h; exact h.elim
          | some s3 =>
            rw [e] at h
            obtain ⟨l, x0, y0, rfl, rfl, h3, h4⟩ := (r1.mono p2.ex).pot_at g2
            obtain ⟨l', h5, h6, h7⟩ := g2.potSet
            rw [h3] at h5
            cases h5
            have P := p1.trans p2
            have go : ∀ (k : Int) (n : Int) (u v' : Int) (j : Nat), i = .int k → x = .int n → s3 = some (u, v') → ixN 2 k = some j → [V.int x0, V.int y0].set j (.int n) = [.int u, .int v'] → rSetL (.ref l) iv v H2 fun H3 => Q σ H3 := fun k n u v' j ei ex es hj hset => by
              subst ei ex es
              obtain rfl := r.int_inv
              obtain rfl := r2.int_inv
              refine ⟨l, _, k, j, rfl, rfl, h4, hj, ?_⟩
              rw [hset]
              exact h σ F2 _ (P.trans (h7 u v').1) (h7 u v').2 ((ev.stp P).stp (h7 u v').1) .refl fun _ o => o
            unfold oPut at e
            split at e
            · rename_i h9
              cases h9
              cases e
              exact go 0 _ _ _ 0 rfl rfl rfl rfl rfl
            · rename_i h9
              cases h9
              cases e
              exact go 1 _ _ _ 1 rfl rfl rfl rfl rfl
            · cases e
        | _ => exact h.elim

/-! ### x, y = a, b -/
@[simp] def sPar (i j : Nat) (fa : FA) : FS := fun ρ s => (fa ρ s).out ρ fun xs s1 => match xs with
  | [x, y] => .nx ((ρ.set i (some (.val x))).set j (some (.val y))) s1
  | _ => .stuck
theorem pf_par (i j : Nat) {x y : Str} {ta : FA} {px py pt : Pos} {kt k2 pt2} (hc : X.calm = true) (hN : X.N.Nodup) (ha : PFa X C W [a, b] ta) (hw : swappedStores [.Tuple [.Name x px, .Name y py] kt pt] (.Tuple [a, b] k2 pt2) X.env = pure (some [x, y]))
    (hi : X.N[i]? = some x := by rfl) (hj : X.N[j]? = some y := by rfl) (hij : i ≠ j := by decide)
    (hx : X.env.scope.names.lookup x = some .local := by rfl) (hy : X.env.scope.names.lookup y = some .local := by rfl)
    (hs : swapsWithSole [.Tuple [.Name x px, .Name y py] kt pt] (.Tuple [a, b] k2 pt2) pos.line X.env = pure false := by rfl) :
    PFs X C W (.Assign [.Tuple [.Name x px, .Name y py] kt pt] (.Tuple [a, b] k2 pt2) pos) (sPar i j ta) := PSt.imp (ps_par hc hN hi hj hij hx hy ha hw hs) fun D σ H h => by
  obtain ⟨F0, H0, F, ρ, s, p, g, ev, ow, h⟩ := h
  refine ⟨F, ρ, s, g, ev, ER.out p ev ow h fun xs s1 vs F1 H1 _ p1 g1 r1 h1 => ?_⟩
  match xs, r1, h1 with
  | [x, y], r1, h1 =>
    obtain ⟨v, w, rfl, rx, ry⟩ := r1.two_inv
    exact ⟨v, w, rfl, h1 _ F1 H1 (p.trans p1) g1 (((ev.stp p1).set rx).set ry) ow.set.set⟩
end
end PF
set_option Elab.async false
set_option linter.all false
set_option maxRecDepth 100000
set_option maxHeartbeats 4000000
/-! # Own exceptions with an __init__ of their own, over any built-in exception that the kit tells of (after the kit's rules for ValueError) -/
namespace PFX
open PySem PySem.W PySem.Calls PyProof.Rows PySem.HandSPX Builtin Builtin.ObjectAttr
structure SetOk (l : List Value) : Prop where
  ne : l.isEmpty = false
  ob : l.contains (.type "object") = true
  pass : ∀ self, refuseLoop self "__setattr__" l = pure ()
section
variable {prog : Program} {w : World} {A : Around} {E : Value → Shared → Prop} {R : Result → Shared → Prop} {hp : Heap} {g : Array GenState} {d : Drawn} {t : Nat} {os : OsState}
theorem exc_osaG {K : W.Frag} {name : Str} {tk : Tok} {v : Value} {x C : Addr} {fv : Array Value} {cd : ClassData}
    (X : K.In hp) (hx : hp.get? x = some { cls := .ref C, data := .fields fv }) (hcd : W.clsIn K C = some cd) (hm : SetOk cd.mro) (hh : cd.hasDict = true) (ha : W.findIn K (.ref C) name = some none)
    (hq : ∀ h' tk' dx, (∀ b o, b ≠ x → hp.get? b = some o → h'.get? b = some o) → hp.objs.size ≤ dx → dx ≠ x → h'.get? x = some { cls := .ref C, dict := some dx, data := .fields fv } →
      h'.Ns1 dx (fun y => if y = name then some v else none) → R (.ok (.ret .none)) ⟨h', g, d, tk', os⟩) :
    codeAny (model prog w) A (.call (.builtin "object.__setattr__") ⟨[.ref x, .str name tk, v], []⟩) R ⟨hp, g, d, t, os⟩ := by
  have I : W.InstAt hp x { cls := .ref C, data := .fields fv } C none := ⟨hx, rfl, rfl, trivial⟩
  have SF := F.store_object
  have ne := hm.ne
  have hob : cd.mro.contains (.type "object") = true := hm.ob
  have hxs : x ≠ hp.objs.size := Nat.ne_of_lt (Heap.lt_size hx)
  have sub : W.Looks (model prog w) hp (isInstance (.ref x) (.type "object")) true := I.type.andThen (W.looks_mroIn X (by unfold W.mroIn; rw [hcd, Option.bind_some, if_neg (by rw [ne]; decide), hob]))
  refine codeAny_call_builtin SF.slot.plain SF.entry (@W.check_slot (model prog w) _ _ ⟨hp, g, d, t, os⟩ "object.__setattr__" "object" "__setattr__" (.ref x) [.str name tk, v] [] _ SF.kind SF.split sub (SF.args (.ref x) (.str name tk) v) ?_)
  have hmr : W.Looks (model prog w) hp (mroOf (.ref C)) cd.mro := (W.looks_clsIn X hcd).andThen .now
  have L3 : W.Looks (model prog w) hp (storeTaker? none) none := .now
  have hcls : W.Looks (model prog w) hp (classData C) cd := W.looks_clsIn X hcd
  rw [W.osa_eq, refuse_eq]
  refine wpAny_bind (wpAny_bind (I.type.at (wpAny_bind (hmr.at ?_))))
  rw [hm.pass]
  refine wpAny_pure (wpAny_bind (I.type.at (wpAny_bind ((W.looks_findIn X ha).at (wpAny_bind (L3.at ?_))))))
  show wpAny _ _ (storeInOwnDict (.ref x) (.ref C) (.str name tk) name v false) _ _ _
  obtain ⟨nm, bs, mro, ns, qn, hd, sn, sb, ab, col, del⟩ := cd
  dsimp only at hh
  subst hh
  unfold storeInOwnDict ownDictForStores
  repeat (first | with_reducible refine store_in_new ?_ ?_ | with_reducible refine wpAny_loadPart_at hx ?_ | with_reducible refine hcls.at ?_ | wp_step)
  · exact ⟨_, #[], _, (Heap.get?_update_ne _ _ _ _ hxs.symm).trans (Heap.get?_push_at rfl rfl), rfl, fun e he => absurd he (by simp), fun _ => rfl⟩
  · intro h' tk' hn' hs
    have hx₁ : (hp.push { cls := .type "dict", data := .dict #[] }).get? x = some { cls := .ref C, data := .fields fv } := Heap.get?_push_of_some _ hx
    refine hq h' tk' hp.objs.size (fun b o hb ho => ?_) (Nat.le_refl _) hxs.symm ?_ hn'
    · exact (hs.2 b (Nat.ne_of_lt (Heap.lt_size ho))).trans ((Heap.get?_update_ne _ _ _ _ hb).trans (Heap.get?_push_of_some _ ho))
    · exact (hs.2 x hxs).trans (Heap.get?_update_self _ hx₁ rfl)
open PySem.OEX in
theorem osa_oldG {K : W.Frag} {name : Str} {tk : Tok} {v : Value} {x C dx : Addr} {fv : Array Value} {cd : ClassData} {m0 : Str → Option Value} {nl : List Str}
    (X : K.In hp) (hx : hp.get? x = some { cls := .ref C, dict := some dx, data := .fields fv }) (hns : hp.Ns1 dx m0) (hw : Within m0 nl) (hz : nl.length ≤ 1000) (hcd : W.clsIn K C = some cd) (hm : SetOk cd.mro) (hh : cd.hasDict = true)
    (ha : W.findIn K (.ref C) name = some none)
    (hq : ∀ h' tk', (∀ b o, b ≠ dx → hp.get? b = some o → h'.get? b = some o) → h'.Ns1 dx (fun y => if y = name then some v else m0 y) → R (.ok (.ret .none)) ⟨h', g, d, tk', os⟩) :
    codeAny (model prog w) A (.call (.builtin "object.__setattr__") ⟨[.ref x, .str name tk, v], []⟩) R ⟨hp, g, d, t, os⟩ := by
  obtain ⟨oD, esD, epD, hoD, hdD, _⟩ := hns.count hw
  have I : W.InstAt hp x { cls := .ref C, dict := some dx, data := .fields fv } C (some oD) := ⟨hx, rfl, rfl, hoD⟩
  have SF := F.store_object
  have ne := hm.ne
  have hob : cd.mro.contains (.type "object") = true := hm.ob
  have sub : W.Looks (model prog w) hp (isInstance (.ref x) (.type "object")) true := I.type.andThen (W.looks_mroIn X (by unfold W.mroIn; rw [hcd, Option.bind_some, if_neg (by rw [ne]; decide), hob]))
  refine codeAny_call_builtin SF.slot.plain SF.entry (@W.check_slot (model prog w) _ _ ⟨hp, g, d, t, os⟩ "object.__setattr__" "object" "__setattr__" (.ref x) [.str name tk, v] [] _ SF.kind SF.split sub (SF.args (.ref x) (.str name tk) v) ?_)
  have hmr : W.Looks (model prog w) hp (mroOf (.ref C)) cd.mro := (W.looks_clsIn X hcd).andThen .now
  have L3 : W.Looks (model prog w) hp (storeTaker? none) none := .now
  have hcls : W.Looks (model prog w) hp (classData C) cd := W.looks_clsIn X hcd
  rw [W.osa_eq, refuse_eq]
  refine wpAny_bind (wpAny_bind (I.type.at (wpAny_bind (hmr.at ?_))))
  rw [hm.pass]
  refine wpAny_pure (wpAny_bind (I.type.at (wpAny_bind ((W.looks_findIn X ha).at (wpAny_bind (L3.at ?_))))))
  show wpAny _ _ (storeInOwnDict (.ref x) (.ref C) (.str name tk) name v false) _ _ _
  obtain ⟨nm, bs, mro, ns, qn, hd, sn, sb, ab, col, del⟩ := cd
  dsimp only at hh
  subst hh
  unfold storeInOwnDict ownDictForStores
  repeat (first | with_reducible refine store_in_old hns hw hz ?_ | with_reducible refine wpAny_loadPart_at hx ?_ | with_reducible refine hcls.at ?_ | wp_step)
  intro h' tk' hn' hs
  exact hq h' tk' (fun b o hb ho => (hs.2 b hb).trans ho) hn'
end
end PFX
namespace PF
open PySem L2 PySem.Spec PyProof.Rows
structure OexG (K : PySem.W.Frag) (C : Addr) : Prop where
  cls : ∃ nm q N bs bm sn sub ab col dd k0 k1 k2 k3 k5 Bn newId initId bmB, ExcBaseFacts Bn newId initId bmB ∧ K.lookup C = some (excClassObj nm q C N bs bm true sn sub ab col dd k0 k1 k2 k3 k5 newId) ∧ (∀ X : String, bm.contains (.type X) = bmB.contains (.type X)) ∧ PFX.SetOk (.ref C :: bm)
  sa : PySem.W.findIn K (.ref C) "__setattr__" = some (some (.builtin "object.__setattr__"))
  exC : PySem.W.subIn K (.ref C) (.type "BaseException") = some true
  tyC : PySem.W.typeIn K (.ref C) = some (.type "type")
  kC : PySem.W.keepIn K (.ref C) = true
section
variable {X : Cx} {pins : List (Addr × Obj)} {σ : L2.St} {H : Hp} {s : Shared} {a C dx : Addr} {f : Str} {y : V} {u : Value} {fs : List (Str × V)} {Q : Unit → Shared → Prop} {E : Value → Shared → Prop} {A : Around}
/-- self.f = y, the first one -/
theorem ost_newG (T : OexG X.K C) (I : Inv X pins σ H s) (e : H a = some (exo a C none)) (hno : PySem.W.findIn X.K (.ref C) f = some none) (ry : RelV y u)
    (h : ∀ dx s', H dx = none → dx ≠ a → Inv X pins σ (upd (upd H dx (exd dx [(f, y)])) a (exo a C (some dx))) s' → Q () s') : wpAny (model X.prog X.w) A (setAttr (.ref a) f u) Q E s := by
  obtain ⟨nm, q, N, bs, bm, sn, sub, ab, col, dd, k0, k1, k2, k3, k5, Bn, newId, initId, bmB, FB, hC, hT, hbm⟩ := T.cls
  have hcl : PySem.W.clsIn X.K C = some { name := nm, bases := bs, mro := .ref C :: bm, ns := N, qualname := q, hasDict := true, slotNames := sn, subclasses := sub, abstract := ab, collection := col, hasDel := false } := by unfold PySem.W.clsIn; rw [hC] <;> rfl
  obtain ⟨t1, ho⟩ := exo_at I.hok e
  obtain ⟨hp, g, d, t, os⟩ := s
  refine PySem.W.set_plain I.kIn (ox := { cls := .ref C, dict := none, data := .fields #[.ref t1, .none, .none, .none, .bool false, .none] }) (od := none) ⟨ho, rfl, rfl, trivial⟩ T.sa ?_
  refine PFX.exc_osaG I.kIn ho hcl hbm rfl hno (fun h' tk' dx k dn dne hx hn => ?_)
  have hnd : H dx = none := I.hok.fresh dn
  have nd : ∀ {b : Addr} {o : Obj}, hp.get? b = some o → b ≠ dx := fun {b o} q => Nat.ne_of_lt (Nat.lt_of_lt_of_le (Heap.lt_size q) dn)
  have na : ∀ {b : Addr}, H b = none → b ≠ a := fun {b} n z => by
    rw [z, e] at n
    cases n
  have Un1 : Un X.fs [] H (upd (upd H dx (exd dx [(f, y)])) a (exo a C (some dx))) hp h' := {
    keep := fun b o q n _ _ => k b o (na n) q
    slot := fun b o q n _ _ => ⟨o.slots, k b o (na n) q⟩
    free := fun b o q n _ => by rw [upd_ne (na n), upd_ne (nd q)]; exact n
    there := fun b o q _ => by
      by_cases hb : b = a
      · exact ⟨_, by rw [hb]; exact hx⟩
      · exact ⟨o, k b o hb q⟩
    tups := fun b xs q => by rw [upd_ne (at_ne e q exo_tup), upd_ne (ne_of_none q hnd)]; exact q
    frzs := fun b o v q => by rw [upd_ne (at_ne e q exo_frz), upd_ne (ne_of_none q hnd)]; exact q
    tbls := fun b ps q => ⟨#[], by rw [upd_ne (at_ne e q exo_tbl), upd_ne (ne_of_none q hnd), q]; simp⟩ }
  refine h dx _ hnd dne (I.un (t' := tk') Un1 fun b o q => ?_)
  by_cases hb : b = a
  · subst hb
    rw [upd_same] at q
    cases q
    exact exo_ok hx
  · rw [upd_ne hb] at q
    by_cases hd : b = dx
    · subst hd
      rw [upd_same] at q
      cases q
      exact exd_ok hn (relO_put (fs := []) ry fun g => True.intro)
    · rw [upd_ne hd] at q
      exact (I.hok b o q).stay (fun c v hc z => k c v (by
          rcases hc with hc | hc
          · rw [hc]
            exact hb
          · exact at_ne e hc exo_own) z)
        (fun c hc => by rw [upd_ne (at_ne e hc exo_own), upd_ne (ne_of_none hc hnd)]; exact hc) (fun c xs hc => by rw [upd_ne (at_ne e hc exo_tup), upd_ne (ne_of_none hc hnd)]; exact hc)
/-- self.f = y, a further one -/
theorem ost_oldG (T : OexG X.K C) (I : Inv X pins σ H s) (e : H a = some (exo a C (some dx))) (ed : H dx = some (exd dx fs)) (hl : fs.length ≤ 900) (hno : PySem.W.findIn X.K (.ref C) f = some none) (ry : RelV y u)
    (h : ∀ s', Inv X pins σ (upd H dx (exd dx ((f, y) :: fs))) s' → Q () s') : wpAny (model X.prog X.w) A (setAttr (.ref a) f u) Q E s := by
  obtain ⟨nm, q, N, bs, bm, sn, sub, ab, col, dd, k0, k1, k2, k3, k5, Bn, newId, initId, bmB, FB, hC, hT, hbm⟩ := T.cls
  have hcl : PySem.W.clsIn X.K C = some { name := nm, bases := bs, mro := .ref C :: bm, ns := N, qualname := q, hasDict := true, slotNames := sn, subclasses := sub, abstract := ab, collection := col, hasDel := false } := by unfold PySem.W.clsIn; rw [hC] <;> rfl
  obtain ⟨t1, ho⟩ := exo_at I.hok e
  obtain ⟨mA, hns, rel⟩ := exd_at I.hok ed
  have hw := within_of rel
  obtain ⟨hp, g, d, t, os⟩ := s
  obtain ⟨oD, _, _, hoD, _, _⟩ := hns.count hw
  refine PySem.W.set_plain I.kIn (ox := { cls := .ref C, dict := some dx, data := .fields #[.ref t1, .none, .none, .none, .bool false, .none] }) (od := some oD) ⟨ho, rfl, rfl, hoD⟩ T.sa ?_
  refine PFX.osa_oldG I.kIn ho hns hw (by rw [List.length_map]; omega) hcl hbm rfl hno (fun h' tk' k hn => ?_)
  have hd : ∃ o, h'.get? dx = some o := by
    obtain ⟨o, _, _, e', _⟩ := hn
    exact ⟨o, e'⟩
  exact h _ (I.write (t' := tk') (x := dx) (e := dx) (o := exd dx ((f, y) :: fs)) (by rw [ed]; exact True.intro) (.inl rfl) k hd (exd_ok hn (relO_put ry rel)))
end
/-- self.f = e -/
def tOstG (K : PySem.W.Frag) (f : Str) (to te : TE) : TS := fun D σ H => te σ H fun y H1 => to σ H1 fun x H2 => ∃ a C : Addr, x = .ref a ∧ OexG K C ∧ PySem.W.findIn K (.ref C) f = some none ∧
  ((H2 a = some (exo a C none) ∧ ∀ dx, H2 dx = none → dx ≠ a → D.nx σ (upd (upd H2 dx (exd dx [(f, y)])) a (exo a C (some dx)))) ∨
    ∃ (dx : Addr) (fs : List (Str × V)), H2 a = some (exo a C (some dx)) ∧ H2 dx = some (exd dx fs) ∧ fs.length ≤ 900 ∧ D.nx σ (upd H2 dx (exd dx ((f, y) :: fs))))
section
variable {X : Cx} {o e : Expr} {es : List Expr} {to te : TE} {ta : TA} {f : Str} {p p' p1 p2 pos : Pos}
theorem ps_ostG (ho : PE X o to) (he : PE X e te) (hs : swapsWith e (some (.Attribute o f p')) pos.line X.env = pure false := by rfl) : L2.PS X (.Assign [.Attribute o f p'] e pos) (tOstG X.K f to te) := by
  refine ⟨fun pins s σ H D I h => ?_⟩
  refine plainObj_wpAny_Assign_Attribute (thn (he.run pins s σ H _ I h) fun v s1 ⟨y, H1, I1, r1, q1⟩ => thn (ho.run pins s1 σ H1 _ I1 q1) fun u s2 ⟨x, H2, I2, r2, a, C, ex, T, hno, q⟩ => ?_) hs
  subst ex
  obtain rfl : u = Value.ref a := r2
  rcases q with ⟨ea, q⟩ | ⟨dx, fs, ea, ed, hl, q⟩
  · exact ost_newG T I2 ea hno r1 fun dx s' n ne J => ⟨σ, _, J, q dx n ne⟩
  · exact ost_oldG T I2 ea ed hl hno r1 fun s' J => ⟨σ, _, J, q⟩
theorem pmk_oexG {CX : CXT} {x : Str} {C fI : Addr} {k : Nat} {fd : FuncData} {ps : List Str} {sp : Sp} {ds : List Value} {dvs : List V} (T : OexG X.K C) (iC : PySem.W.findIn X.K (.ref C) "__init__" = some (some (.ref fI))) (tI : PySem.W.typeIn X.K (.ref fI) = some (.type "function"))
    (F1 : FnOk X.prog X.w X.K X.mg X.base CX k fI fd ps sp) (hr : Room (k + 1) X.A) (hb : Binds X.K fd ps ds) (hd : Vals dvs ds) (hx : Passes CX X (fun _ _ _ => False)) (hg : Gl X x) (hm : X.mg x = some (.ref C)) (ha : PA X (e :: es) ta)
    (hdb : (x == ("__debug__" : Str)) = false := by decide) (he : starEach (e :: es) X.env = (false, eval e X.env) :: starEach es X.env := by rfl) (hpl : (backTo pos (starEach es X.env)).any (·.1) = false := by rfl) :
    PMk X (.Call (.Name x p) (e :: es) [] pos) (tMkO C sp dvs ta) := by
  intro pins s σ H Q I h
  obtain ⟨nm, q, N, bs, bm, sn, sub, ab, col, dd, k0, k1, k2, k3, k5, Bn, newId, initId, bmB, FB, hC, hT, hbm⟩ := T.cls
  refine wpAny_Call_Name_kw (ld_glob I hg hm ?_ hdb)
  refine PySem.W.callWith_K (h₀ := X.base) I.ok.mod.kin T.kC (thn (ha.run pos pins s σ H _ I h) fun us s1 ⟨vs, H1, I1, r1, hz, q1⟩ => ⟨I1.kIn, ?_⟩) he hpl
  show wpAny _ _ (call (.ref C) us) _ _ _
  obtain ⟨hp, g, dr, tk, os⟩ := s1
  have hsz : hp.objs.size ≤ hp.objs.size + 1 := Nat.le_succ _
  have hn : H1 (hp.objs.size + 1) = none := I1.hok.fresh hsz
  have hq := q1 (hp.objs.size + 1) hn
  have kk : ∀ b o, hp.get? b = some o → ((hp.push (PySem.W.kdv_tup us)).push (PySem.HandSPX.excO C hp.objs.size)).get? b = some o := fun b o e => Heap.get?_push_of_some _ (Heap.get?_push_of_some _ e)
  have hget : ((hp.push (PySem.W.kdv_tup us)).push (PySem.HandSPX.excO C hp.objs.size)).get? (hp.objs.size + 1) = some (PySem.HandSPX.excO C hp.objs.size) := by heap_get
  have I2 : Inv X pins σ (upd H1 (hp.objs.size + 1) (exo (hp.objs.size + 1) C none)) ⟨(hp.push (PySem.W.kdv_tup us)).push (PySem.HandSPX.excO C hp.objs.size), g, dr, tk, os⟩ :=
    I1.laid (t' := tk) (a := hp.objs.size + 1) (o := exo (hp.objs.size + 1) C none) (h' := (hp.push (PySem.W.kdv_tup us)).push (PySem.HandSPX.excO C hp.objs.size)) kk hsz (exo_ok hget)
  have r2 : Vals (V.ref (hp.objs.size + 1) :: (vs ++ dvs)) (Value.ref (hp.objs.size + 1) :: (us ++ ds)) := .cons rfl (r1.append hd)
  have hl : (Value.ref (hp.objs.size + 1) :: us ++ ds).length = ps.length := by
    have e := r2.length
    rw [F1.len _ _ _ _ hq] at e
    exact e.symm
  have hus : us.length ≤ sizeLine := by
    rw [← Paired.length r1, sizeLine_eq]
    omega
  refine wpAny_call (PySem.HandSPX.call_own FB hT (I1.kIn _ _ hC) (PySem.W.looks_findIn I1.kIn iC) (fun self => PySem.W.bind_fn I1.kIn self tI) hus
    (codeAny_mono (F1.run _ X.stack _ _ ⟨Value.ref (hp.objs.size + 1) :: us, []⟩ (Value.ref (hp.objs.size + 1) :: (us ++ ds)) _ _ (fun _ _ _ => False) (hr.make C us []) (I2.env0.make C us []) (hb _ (Value.ref (hp.objs.size + 1) :: us) I2.kIn hl) r2 hq) fun r s' hq' => ?_))
  cases r with
  | error er => exact hx pins σ _ _ er s' I2 hq'
  | ok fl =>
    cases fl with
    | ret u =>
      obtain ⟨v, H2, os2, bare2, un2, hok2, rv, ev, d, fs, ea, ed, hd1, q2⟩ := hq'
      subst ev
      obtain ⟨h2, g2, d2, t2, os'⟩ := s'
      exact ⟨rv, mk_end (raises_own T.exC T.tyC) I1 hsz kk un2 hok2 os2 bare2 ea ed hd1 q2⟩
    | next => exact False.elim hq'
    | brk => exact False.elim hq'
    | cont => exact False.elim hq'
end
end PF
set_option Elab.async false
set_option linter.all false
set_option maxRecDepth 100000
set_option maxHeartbeats 1000000
/-! # Raise, try -/
namespace PF
open PySem L2 PySem.Spec PyProof.Rows

/-! ### __init__ of an own exception class: self.f = .. for each field -/
def spI (K : PySem.W.Frag) (fs : List Str) : Sp := fun vs H Q _ => ∃ (a C : Addr) (ys : List V), vs = .ref a :: ys ∧ ys.length = fs.length ∧ OexG K C ∧ (∀ f ∈ fs, PySem.W.findIn K (.ref C) f = some none) ∧ H a = some (exo a C none) ∧
  ∀ d, H d = none → d ≠ a → Q .non (upd (upd H d (exd d (fs.zip ys).reverse)) a (exo a C (some d)))
section
variable {P : Program} {w : World} {K : PySem.W.Frag} {mg : Str → Option Value} {base : Heap} {x qual : Str} {st : Stmt} {f : Addr} {fd : FuncData} {N ps : List Str} {k : Nat}
theorem init1 {n : Str} (F : Fun K x qual st f fd) (S : FnScope N ps (defScope st)) (hN : N.length = 2) (hp : ps.length = 2)
    (h : ∀ (cdv : Value) (A : Around) (outer : List PySem.Env) (s : Shared) (H : Hp) (E : XK), PSs (cxOf (L2.CX P w) P w K mg base N qual (defScope st) f cdv A outer s H E) (defBody st) (tOstG K n (tVar 0) (tVar 1))) :
    FnOk P w K mg base (L2.CX P w) (k + 1) f fd ps (spI K [n]) :=
  Fun.okX F S (fun vs H Q E hs => by
    obtain ⟨a, C, ys, rfl, hl, _⟩ := hs
    rw [List.length_cons, hl, hp]
    rfl) fun cdv A outer s H vs Q E hr hs => ⟨_, h cdv A outer s H E, by
    obtain ⟨a, C, ys, rfl, hl, T, hno, ha, hq⟩ := hs
    match ys, hl with
    | [y], _ =>
      match N, hN with
      | [_, _], _ => exact ⟨y, rfl, .ref a, rfl, a, C, rfl, T, hno n (List.mem_singleton_self n), .inl ⟨ha, fun dx h1 h2 => hq dx h1 h2⟩⟩⟩
theorem init2 {n m : Str} (F : Fun K x qual st f fd) (S : FnScope N ps (defScope st)) (hN : N.length = 3) (hp : ps.length = 3) {s1 s2 : Stmt} (hb : defBody st = [s1, s2])
    (h : ∀ (cdv : Value) (A : Around) (outer : List PySem.Env) (s : Shared) (H : Hp) (E : XK), L2.PS (cxOf (L2.CX P w) P w K mg base N qual (defScope st) f cdv A outer s H E) s1 (tOstG K n (tVar 0) (tVar 1)) ∧ L2.PS (cxOf (L2.CX P w) P w K mg base N qual (defScope st) f cdv A outer s H E) s2 (tOstG K m (tVar 0) (tVar 2))) :
    FnOk P w K mg base (L2.CX P w) (k + 1) f fd ps (spI K [n, m]) :=
  Fun.okX F S (fun vs H Q E hs => by
    obtain ⟨a, C, ys, rfl, hl, _⟩ := hs
    rw [List.length_cons, hl, hp]
    rfl) fun cdv A outer s H vs Q E hr hs => ⟨_, by rw [hb]; exact pss_cons (h cdv A outer s H E).1 (pss_one (h cdv A outer s H E).2), by
    obtain ⟨a, C, ys, rfl, hl, T, hno, ha, hq⟩ := hs
    match ys, hl with
    | [y, z], _ =>
      match N, hN with
      | [_, _, _], _ =>
        refine ⟨y, rfl, .ref a, rfl, a, C, rfl, T, hno n (by simp), .inl ⟨ha, fun dx h1 h2 => ?_⟩⟩
        refine ⟨z, rfl, .ref a, rfl, a, C, rfl, T, hno m (by simp), .inr ⟨dx, [(n, y)], upd_same, by rw [upd_ne h2, upd_same], (by decide : 1 ≤ 900), ?_⟩⟩
        have e : upd (upd (upd H dx (exd dx [(n, y)])) a (exo a C (some dx))) dx (exd dx [(m, z), (n, y)]) = upd (upd H dx (exd dx [(m, z), (n, y)])) a (exo a C (some dx)) := by
          funext b
          by_cases hb : b = dx
          · rw [hb, upd_same, upd_ne h2, upd_same]
          · rw [upd_ne hb]
            by_cases ha : b = a
            · rw [ha, upd_same, upd_same]
            · rw [upd_ne ha, upd_ne hb, upd_ne ha, upd_ne hb]
        have q := hq dx h1 h2
        show Q .non (upd (upd (upd H dx (exd dx [(n, y)])) a (exo a C (some dx))) dx (exd dx [(m, z), (n, y)]))
        rw [e]
        exact q⟩
end

/-! ### raise C(..) -/
theorem RepF.append {K : PySem.W.Frag} {C : Lc} {F : Hp} : ∀ {v w : List (Str × V)} {x y : List (Str × PV)}, RepF K C F v x → RepF K C F w y → RepF K C F (v ++ w) (x ++ y)
  | _, _, _, _, .nil, s => s
  | _, _, _, _, .cons h r, s => .cons h (RepF.append r s)
theorem RepF.zip {K : PySem.W.Frag} {C : Lc} {F : Hp} : ∀ {fs : List Str} {v : List V} {x : List PV}, Reps K C F v x → RepF K C F (fs.zip v).reverse (fs.zip x).reverse
  | [], _, _, _ => by rw [List.zip_nil_left, List.zip_nil_left]; exact .nil
  | _ :: _, _, _, .nil => by rw [List.zip_nil_right, List.zip_nil_right]; exact .nil
  | f :: fs, _, _, .cons h r => by
    rw [List.zip_cons_cons, List.zip_cons_cons, List.reverse_cons, List.reverse_cons]
    exact (RepF.zip r).append (.cons h .nil)
theorem RepF.get {K : PySem.W.Frag} {C : Lc} {F : Hp} {f : Str} {x : PV} : ∀ {v : List (Str × V)} {xs : List (Str × PV)}, RepF K C F v xs → xs.lookup f = some x → ∃ u, v.lookup f = some u ∧ Rep K C F u x
  | _, _, .nil, h => by cases h
  | _, _, .cons (k := g) h r, e => by
    rw [List.lookup_cons] at e ⊢
    split at e
    · cases e
      exact ⟨_, rfl, h⟩
    · exact RepF.get r e
@[simp] def sRaise (c : Str) (fs : List Str) (fa : FA) : FS := fun ρ s => (fa ρ s).out ρ fun xs s1 => .exc c (fs.zip xs).reverse ρ s1
section
variable {X : Cx} {C : Lc} {W : WX} {x : Str} {Cl fI : Addr} {k : Nat} {fd : FuncData} {ps fs : List Str} {e : Expr} {es : List Expr} {fa : FA} {p cpos pos : Pos}
theorem pf_raise (T : OexG X.K Cl) (hno : ∀ f ∈ fs, PySem.W.findIn X.K (.ref Cl) f = some none) (iC : PySem.W.findIn X.K (.ref Cl) "__init__" = some (some (.ref fI))) (tI : PySem.W.typeIn X.K (.ref fI) = some (.type "function"))
    (F1 : FnOk X.prog X.w X.K X.mg X.base (L2.CX X.prog X.w) k fI fd ps (spI X.K fs)) (hr : Room (k + 1) X.A) (hb : Binds X.K fd ps []) (hc : X.calm = true) (tk : Takes X W) (hm : X.mg x = some (.ref Cl)) (ha : PFa X C W (e :: es) fa)
    (hlen : LenA fa fs.length := by repeat constructor) (h1000 : fs.length ≤ 1000 := by decide) (hg : Gl X x := by rfl) (hdb : (x == ("__debug__" : Str)) = false := by decide) (he : starEach (e :: es) X.env = (false, eval e X.env) :: starEach es X.env := by rfl) (hpl : (backTo cpos (starEach es X.env)).any (·.1) = false := by rfl) :
    PFs X C W (.Raise (some (.Call (.Name x p) (e :: es) [] cpos)) none pos) (sRaise x fs fa) :=
  PSt.imp (ps_raise hc tk (pmk_oexG T iC tI F1 hr hb .nil passL hg hm ha hdb he hpl)) fun D σ H h => by
    obtain ⟨F0, H0, F, ρ, s, p, g, ev, ow, h⟩ := h
    refine ⟨F, ρ, s, g, ev, ER.out p ev ow h fun xs s1 vs F1 H1 ex p1 g1 r1 h1 => ?_⟩
    have hl : vs.length = fs.length := by rw [r1.length]; exact hlen.of ex
    refine ⟨by omega, fun a hna => ⟨a, Cl, vs, by rw [List.append_nil], hl, T, hno, upd_same, fun d hd nd => ⟨rfl, d, (fs.zip vs).reverse, upd_same, by rw [upd_ne nd, upd_same], by rw [upd_ne nd] at hd; exact hd, ?_⟩⟩⟩
    have hd1 : H1 d = none := by rw [upd_ne nd] at hd; exact hd
    have eH : upd (del (upd (upd (upd H1 a (exo a Cl none)) d (exd d (fs.zip vs).reverse)) a (exo a Cl (some d))) a) d (.xd (fs.zip vs).reverse) = upd H1 d (.xd (fs.zip vs).reverse) := by
      funext b
      by_cases hb : b = d
      · rw [hb, upd_same, upd_same]
      · rw [upd_ne hb, upd_ne hb]
        by_cases hba : b = a
        · rw [hba, del_same, hna]
        · rw [del_ne hba, upd_ne hba, upd_ne hb, upd_ne hba]
    rw [eH]
    have st := Stp.alloc (o := .xd (fs.zip vs).reverse) g1 hd1
    exact h1 Cl d (fs.zip vs).reverse σ _ _ hm ((p.trans p1).trans st) (g1.alloc hd1 fun _ z => by cases z) ((ev.stp p1).stp st) ow upd_same ((RepF.zip r1).mono st.ex)
end

/-! ### several clauses, each with a name -/
def asTS (i : Nat) (ts : Addr → Value → Option Addr → TS) : Addr → Value → Option Addr → TS := fun a cls d D σ H => ts a cls d { nx := fun σ' H' => D.nx (σ'.set i none) H', rt := D.rt, bk := fun σ' H' => D.bk (σ'.set i none) H', ct := fun σ' H' => D.ct (σ'.set i none) H' } (σ.set i (some (.ref a))) H
inductive HdA (X : Cx) : List ExceptHandler → List (Value × (Addr → Value → Option Addr → TS)) → Prop
  | nil : HdA X [] []
  | cons {x n : Str} {i : Nat} {c : Value} {ts : Addr → Value → Option Addr → TS} {b₀ : Stmt} {suite : List Stmt} {np pos' : Pos} {hds : List ExceptHandler} {l : List (Value × (Addr → Value → Option Addr → TS))} (hc : Names X x c) (hi : X.N[i]? = some n) (hln : X.env.kindOf n = some .local)
      (hsu : ∀ (a : Addr) (oe : Obj) (cls : Value) (d : Option Addr) (pn : List (Addr × Obj)), Zc cls d oe → (∃ vs, oe.data = .fields vs) → PSs (X.suite a ((a, oe) :: pn)) (b₀ :: suite) (ts a cls d)) (r : HdA X hds l) :
      HdA X (.ExceptHandler (some (.Name x np)) (some n) (b₀ :: suite) pos' :: hds) ((c, asTS i ts) :: l)
section
variable {X : Cx} {body : List Stmt} {h₀ : ExceptHandler} {hds : List ExceptHandler} {l : List (Value × (Addr → Value → Option Addr → TS))} {pos : Pos} {tb : WX → TS} {Wout : WX}
theorem ps_try_manyA (hs : X.stack = X.env :: X.outer) (hf : X.env.frame = some X.env.locals) (hN : X.N.Nodup) (tk : Takes X Wout)
    (hb : ∀ (W : WX) (pn : List (Addr × Obj)) (xe : Value → Shared → Prop), Takes (X.tr pn xe) W → PassesOwn (model X.prog X.w) X.A X.env xe → PSs (X.tr pn xe) body (tb W))
    (hh : HdA X (h₀ :: hds) l) : L2.PS X (.Try body (h₀ :: hds) [] [] pos) (fun D σ H => tb (wMany X.K Wout D l) D σ H) := by
  refine ⟨fun pins s σ H D I h => ?_⟩
  have ok := I.ok
  have hfr : X.A.frames = some (X.env :: X.outer) := by rw [ok.frames, hs]
  refine wpAny_Try_except ?_
  refine wpAny_mono ((hb (wMany X.K Wout D l) (X.pn ++ pins) (fun e s₁ => wpAny (model X.prog X.w) X.A (noteFrame e X.env) (fun _ s₂ => wpAny (model X.prog X.w) X.A (setFlight e none) (fun _ s₃ =>
    wpAny (model X.prog X.w) X.A (handleBy e X.env (h₀ :: hds)) (SP X pins D) X.xe s₃) X.xe s₂) X.xe s₁) (fun u s' xx => ?_) PassesOwn.looking).run [] s σ H D (I.toTry _) h) (fun f s1 hsp => ?_) (fun e s1 he => he)
  · -- the catch
    obtain ⟨a, B, sI, pins', σ', H', cls, d, rfl, J', nb, up, sky, na, os, ag, w⟩ := xx
    have J : Inv X pins σ' H' sI := J'.ofTry ok
    have sky' : Sky B (X.env :: X.outer) a (Zc cls d) X.env.locals s'.heap := by rw [← hs]; exact sky
    show wpAny (model X.prog X.w) X.A (noteFrame (.ref a) X.env) _ _ _
    refine Sky.land Zc.steady hfr hf sky' fun h3 fl3 up3 => ?_
    have J3 : Inv X pins σ' H' { s' with heap := h3 } := J.landed nb fl3.1 (up.trans up3) os ag
    obtain ⟨oe3, vs3, he3, hz3, hd3⟩ := fl3.there
    have notFr : ∀ {h : Heap} {o : Obj} {vs : Array Value}, h.FunFrames B (X.env :: X.outer) → h.get? a = some o → o.data = .fields vs → a ∉ frs (X.env :: X.outer) := fun {h o vs} ff e dd hm => by
      obtain ⟨_, o', e', hnf⟩ := ff.mem hm
      rw [e] at e'; cases e'
      exact hnf _ dd
    have nfr := notFr fl3.2.2.1 he3 hd3
    have nL : a ≠ X.env.locals := fun z => nfr (List.mem_filterMap.mpr ⟨X.env, List.mem_cons_self, by rw [hf, z]⟩)
    have nF : a ∉ X.fs := fun hm => by
      obtain ⟨e, he, q⟩ := List.mem_filterMap.mp hm
      exact nfr (List.mem_filterMap.mpr ⟨e, List.mem_cons_of_mem _ he, q⟩)
    have S3 := J3.suite he3 hd3 na nL nF
    have go : ∀ {hds' : List ExceptHandler} {l' : List (Value × (Addr → Value → Option Addr → TS))}, HdA X hds' l' → wMany X.K Wout D l' cls d σ' H' →
        wpAny (model X.prog X.w) X.A (handleBy (.ref a) X.env hds') (SP X pins D) X.xe { s' with heap := h3 } := by
      intro hds' l' hk
      induction hk with
      | nil =>
        intro w
        refine wpAny_handleBy_nil ?_
        obtain ⟨k1, k2, k3, oe, vs, T, oT, ts', he, hz, hd, h1, hr⟩ := id fl3
        unfold PySem.passOn
        refine wpAny_bind (wpAny_field he hd h1 ?_)
        rw [if_neg (show ¬ ((Value.ref T == Value.none) = true) from by simp)]
        have fin : wpAny (model X.prog X.w) X.A (setFlight (.ref a) X.env.frame) (fun _ s4 => wpAny (model X.prog X.w) X.A (throw (.ref a) : Sem Flow) (SP X pins D) X.xe s4) X.xe { s' with heap := h3 } := by
          rw [hf]
          refine HandSPX.setFlight_upZ fl3 fun h4 hh4 up4 => wpAny_throw (tk _ _ ?_)
          exact ⟨a, B, sI, pins, σ', H', cls, d, rfl, J, nb, (up.trans up3).trans up4, .inr (.inr (by rw [hs]; exact hh4)), na, os, ag, w⟩
        first
          | exact wpAny_bind (wpAny_pure (wpAny_bind fin))
          | exact wpAny_bind fin
      | @cons x n i c ts b₀ suite np pos' hds2 l2 hc hi hln hsu r ih =>
        intro w
        have hloc : Loc X.env.scope n := .inl hln
        obtain ⟨b, hb1, hyes, hno⟩ := w
        refine wpAny_handleBy_cons (codeAny_handlers_test ?_) (by intro q; cases q)
        have LT : PySem.W.Looks (model X.prog X.w) h3 (typeOf (.ref a)) cls := fun A Q E s k q => wpAny_typeOf_ref (k _ _ he3) (by rw [hz3.1]; exact q)
        have LM := PySem.W.exm_one (M := model X.prog X.w) (J3.kIn) LT hb1
        have test : ∀ {Q : Value → Shared → Prop} {E : Value → Shared → Prop}, Q c { s' with heap := h3 } → wpAny (model X.prog X.w) (X.A.mark (some (.ref a))) (eval (.Name x np) X.env) Q E { s' with heap := h3 } := fun {Q E} q => by
          obtain ⟨hg, hdbg, hm | ⟨hm, hv, hnn⟩⟩ := hc
          · exact ld_glob (X := X.suite a ((a, oe3) :: (X.pn ++ pins))) S3 hg hm q hdbg
          · exact ld_blt (X := X.suite a ((a, oe3) :: (X.pn ++ pins))) S3 hg hm hv q hnn hdbg
        refine test (LM.here ?_)
        cases b with
        | true =>
          refine codeAny_handlers_suite_as ?_
          refine HandSPX.lands_againZ fl3 fun h4 fl4 up4 => ?_
          have J4 : Inv X pins σ' H' { s' with heap := h4 } := J.landed nb fl4.1 ((up.trans up3).trans up4) os ag
          obtain ⟨oe4, vs4, he4, hz4, hd4⟩ := fl4.there
          have S4 := J4.suite he4 hd4 na nL nF
          refine store_ok (X := X.suite a ((a, oe4) :: (X.pn ++ pins))) (v := .ref a) S4 hN hi hloc rfl (fun s5 S5 => ?_) (.inr hln)
          refine wpAny_mono ((hsu a oe4 cls d (X.pn ++ pins) hz4 ⟨_, hd4⟩).run [] s5 _ H' _ S5 (hyes rfl a na)) (fun f s6 hsp => ?_) (fun _ _ z => False.elim z)
          have end_ : ∀ {σ6 : L2.St} {H6 : Hp} {Q : Shared → Prop}, Inv (X.suite a ((a, oe4) :: (X.pn ++ pins))) [] σ6 H6 s6 → (∀ s7, Inv X pins (σ6.set i none) H6 s7 → Q s7) →
              wpAny (model X.prog X.w) X.A (do bindName X.env n .none; unbindBehindTheSuite X.env n pos') (fun _ s7 => Q s7) X.xe s6 := fun {σ6 H6 Q} S6 hq => gone_ok (S6.unsuite ok) hN hi hln hq
          cases f with
          | next =>
            obtain ⟨σ6, H6, S6, q6⟩ := hsp
            exact end_ S6 fun s7 J7 => ⟨_, _, J7, q6⟩
          | brk =>
            obtain ⟨σ6, H6, S6, q6⟩ := hsp
            exact end_ S6 fun s7 J7 => ⟨_, _, J7, q6⟩
          | cont =>
            obtain ⟨σ6, H6, S6, q6⟩ := hsp
            exact end_ S6 fun s7 J7 => ⟨_, _, J7, q6⟩
          | ret u =>
            obtain ⟨v6, σ6, H6, S6, r6, q6⟩ := hsp
            exact end_ S6 fun s7 J7 => ⟨_, _, _, J7, r6, q6⟩
        | false =>
          show wpAny _ X.A (handleBy (.ref a) X.env hds2) _ _ _
          exact ih (hno rfl)
    exact go hh w
  · cases f with
    | next =>
      obtain ⟨σ', H', J', q⟩ := hsp
      exact wpAny_execs_nil ⟨σ', H', J'.ofTry ok, q⟩
    | brk =>
      obtain ⟨σ', H', J', q⟩ := hsp
      exact ⟨σ', H', J'.ofTry ok, q⟩
    | cont =>
      obtain ⟨σ', H', J', q⟩ := hsp
      exact ⟨σ', H', J'.ofTry ok, q⟩
    | ret u =>
      obtain ⟨v, σ', H', J', r, q⟩ := hsp
      exact ⟨v, σ', H', J'.ofTry ok, r, q⟩
end

/-! ### the class of a caught error that has its own dict -/
end PF
namespace PySem
open PySem.W
section
variable {prog : Program} {w : World} {A : Around} {E : Value → Shared → Prop} {s : Shared} {K : Frag} {x D : Addr} {ox : Obj}
theorem findObj_dataE {C : Addr} {od : Option Obj} {name : Str} {a g : Value} (hc : (clsIn K C).isSome = true) (ha : findIn K (.ref C) name = some (some a)) (hg : specialIn K a "__get__" = some (some g)) (ht : takesIn K a = some true) : findObj K C od name = some (.bind g a) := by
  obtain ⟨cd, hc⟩ := Option.isSome_iff_exists.mp hc
  unfold findObj
  rw [hc, Option.bind_some, ha, Option.bind_some]
  simp [hg, ht]
theorem kin_classE' {od : Option Obj} {Q : Option Value → Shared → Prop} (hga : findIn K (.ref D) "__getattribute__" = some (some (.builtin "BaseException.__getattribute__"))) (hgt : findIn K (.ref D) "__getattr__" = some none) (hsub : subIn K (.ref D) (.type "BaseException") = some true)
    (hdct : hasDictIn K D = true) (ha : findIn K (.ref D) "__class__" = some (some (.builtin "object.__class__")))
    (hn : specialIn K (.builtin "object.__class__") "__get__" = some (some (.builtin "getset_descriptor.__get__"))) (htk : takesIn K (.builtin "object.__class__") = some true) (hm : mroIn K D (.type "object") = some true)
    (X : K.In s.heap) (I : InstAt s.heap x ox D od) (h : Q (some (.ref D)) { s with toks := s.toks + 1 }) : wpAny (model prog w) A (getAttr? (.ref x) "__class__") Q E s := by
  have hf : findObj K D od "__class__" = some (.bind (.builtin "getset_descriptor.__get__") (.builtin "object.__class__")) := findObj_dataE (by obtain ⟨cd, hc, _⟩ := any_some hdct; rw [hc]; rfl) ha hn htk
  obtain ⟨hp, g, d, t, os⟩ := s
  have L0 := I.type (M := model prog w)
  have L1 := looks_findIn (M := model prog w) X hga
  have L2 := looks_findIn (M := model prog w) X hgt
  have L3 := looks_find (M := model prog w) X I hf
  have sub : Looks (model prog w) hp (isInstance (.ref x) (.type "BaseException")) true := L0.andThen (looks_subIn X hsub)
  have hx0 : (false && onTheHeap (Value.builtin "BaseException.__getattribute__")) = false := rfl
  have hx2 : (Value.builtin "BaseException.__getattribute__" == Value.builtin "object.__getattribute__") = false := by decide +kernel
  have hx1 : (onTheHeap (Value.ref D) && Value.builtin "BaseException.__getattribute__" == Value.builtin "object.__getattribute__") = false := by rw [hx2]; rfl
  unfold getAttr? getAttrBy? getAttrBy
  refine wpAny_bind (wpAny_mkText (wpAny_bind (wpAny_attempt (wpAny_holding (wpAny_bind (L0.at (wpAny_bind (L1.at ?_))))))))
  show wpAny _ _ (if (onTheHeap (Value.ref D) && Value.builtin "BaseException.__getattribute__" == Value.builtin "object.__getattribute__") = true then _ else _) _ _ _
  rw [hx1, if_neg Bool.false_ne_true]
  unfold getAttrByItsOwn hookBefore
  refine wpAny_bind ?_
  rw [if_pos (show onTheHeap (Value.ref D) = true from rfl)]
  refine L2.at ?_
  refine wpAny_bind (wpAny_attempt (wpAny_holding ?_))
  unfold callGetattribute
  rw [hx0, if_neg Bool.false_ne_true]
  unfold boundAndCalled
  rw [PySem.F.excAttr_ValueError.ga.bind (.ref x)]
  refine wpAny_bind (wpAny_pure ?_)
  show wpAny _ _ (call (.builtin "BaseException.__getattribute__") [.ref x, .str "__class__" t]) _ _ _
  refine wpAny_call (codeAny_call_builtin PySem.F.excAttr_ValueError.ga.plain PySem.F.entry_bexc_ga ?_)
  refine @check_slot (model prog w) _ _ ⟨hp, g, d, t + 1, os⟩ "BaseException.__getattribute__" "BaseException" "__getattribute__" (.ref x) [.str "__class__" t] [] _ (by decide +kernel) (by decide +kernel) sub (PySem.F.args_bexc_ga (.ref x) (.str "__class__" t)) ?_
  unfold Builtin.«object.__getattribute__»
  refine wpAny_bind (wpAny_of_eq (a := ((Value.ref x : Value), [Value.str "__class__" t])) (by first | rfl | (simp only [slotArgs]; rfl)) ?_)
  refine wpAny_bind (wpAny_pure (wpAny_bind (L0.at (wpAny_bind (L3.at ?_)))))
  show wpAny _ _ (holding [Value.builtin "object.__class__"] (call (.builtin "getset_descriptor.__get__") [.builtin "object.__class__", .ref x, .ref D]) >>= ret) _ _ _
  refine wpAny_bind (wpAny_holding (wpAny_call (class_get (s := ⟨hp, g, d, t + 1, os⟩) (ox := ox) (od := od) X I hm ?_)))
  refine wpAny_pure ?_
  show wpAny _ _ (handedOut (.ref D)) _ _ _
  rw [handedOut_of (v := .ref D) rfl]
  first
    | exact wpAny_pure (wpAny_pure h)
    | exact wpAny_pure h
    | exact wpAny_pure (wpAny_bind (wpAny_pure (wpAny_pure h)))
end
end PySem
namespace PF
open PySem L2 PySem.Spec PyProof.Rows
theorem kitx_exc' {K : PySem.W.Frag} {x D : Addr} {ox : Obj} (hga : PySem.W.findIn K (.ref D) "__getattribute__" = some (some (.builtin "BaseException.__getattribute__"))) (hgt : PySem.W.findIn K (.ref D) "__getattr__" = some none) (hsub : PySem.W.subIn K (.ref D) (.type "BaseException") = some true) (hdct : PySem.W.hasDictIn K D = true) (ha : PySem.W.findIn K (.ref D) "__class__" = some (some (.builtin "object.__class__")))
    (hn : PySem.W.specialIn K (.builtin "object.__class__") "__get__" = some (some (.builtin "getset_descriptor.__get__"))) (htk : PySem.W.takesIn K (.builtin "object.__class__") = some true) (hm : PySem.W.mroIn K D (.type "object") = some true) :
    PySem.W.KitX K (.ref x) (.ref D) (fun h => ∃ od, PySem.W.InstAt h x ox D od) where
  ty := fun _ _ _ ⟨_, I⟩ => I.type
  it := fun M h X h2 => by
    obtain ⟨cdD, hcD, _⟩ := PySem.W.any_some hdct
    unfold PySem.W.clsIn at hcD
    split at hcD
    · rename_i c' d' cd' sl' ho
      intro A' Q' E' s' k q
      unfold isType loadHead
      exact wpAny_bind (wpAny_loadPart (k _ _ (X _ _ ho)) (wpAny_pure q))
    · cases hcD
  ne := (PySem.W.handS_kitx_exc hga hgt hsub hdct ha hn htk hm (x := x) (ox := { cls := .ref D, dict := none, data := .fields #[] })).ne
  ca := fun X ⟨_, I⟩ k => PySem.kin_classE' hga hgt hsub hdct ha hn htk hm X I k
/-! ### try, as a function -/
structure Hd where
  is : List (Str × Bool)
  i : Nat
  f : Str → List (Str × PV) → FS
@[simp] def unEx : Option Ent → Option Ent
  | some .exc => none
  | e => e
@[simp] def Out.unas (i : Nat) : Out → Out
  | .nx ρ s => .nx ((ρ.map unEx).set i none) s
  | .rt v s => .rt v s
  | .bk ρ s => .bk ((ρ.map unEx).set i none) s
  | .ct ρ s => .ct ((ρ.map unEx).set i none) s
  | .exc _ _ _ _ => .stuck
  | .stuck => .stuck
def tryGo : List Hd → Str → List (Str × PV) → Env → PS → Out
  | [], c, fs, ρ, s => .exc c fs ρ s
  | h :: r, c, fs, ρ, s => match h.is.lookup c with
    | some true => (h.f c fs ((ρ.map unEx).set h.i (some .exc)) s).unas h.i
    | some false => tryGo r c fs ρ s
    | none => .stuck
@[simp] def sTry (b : FS) (l : List Hd) : FS := fun ρ s => match b ρ s with
  | .exc c fs ρ1 s1 => tryGo l c fs ρ1 s1
  | o => o
section
variable {K : PySem.W.Frag} {C C' : Lc} {F H H0 : Hp} {σ : L2.St} {ρ : Env}
theorem EnvOk.setExc (h : EnvOk K C F H σ ρ) {i : Nat} {v : V} (e : C.e = some v) (hk : C.k = none) : EnvOk K C F H (σ.set i (some v)) (ρ.set i (some .exc)) where
  len := by rw [List.length_set, List.length_set]; exact h.len
  at_ := fun j e' he => by
    by_cases hj : i = j
    · subst hj
      rw [List.getElem?_set] at he
      rw [if_pos rfl] at he
      split at he
      · rename_i hl
        cases he
        exact ⟨v, by rw [List.getElem?_set, if_pos rfl, if_pos (by rw [← h.len]; exact hl)], e, fun c o q => by rw [hk] at q; cases q⟩
      · cases he
    · rw [List.getElem?_set_ne hj] at he ⊢
      exact h.at_ j e' he
  apart := fun j k a b v' hjk ha hb ma mb hv => by
    by_cases hj : i = j
    · subst hj
      rw [List.getElem?_set, if_pos rfl] at ha
      split at ha
      · cases ha
        cases ma
      · cases ha
    · by_cases hk : i = k
      · subst hk
        rw [List.getElem?_set, if_pos rfl] at hb
        split at hb
        · cases hb
          cases mb
        · cases hb
      · rw [List.getElem?_set_ne hj] at ha hv
        rw [List.getElem?_set_ne hk] at hb ⊢
        exact h.apart j k a b v' hjk ha hb ma mb hv
theorem unEx_get {j : Nat} {e : Ent} (h : (ρ.map unEx)[j]? = some (some e)) : ρ[j]? = some (some e) ∧ e ≠ .exc := by
  rw [List.getElem?_map] at h
  cases q : ρ[j]? with
  | none => rw [q] at h; cases h
  | some o =>
    rw [q] at h
    cases o with
    | none => cases h
    | some e' => cases e' <;> cases h <;> exact ⟨rfl, fun z => by cases z⟩
theorem EnvOk.unEx (e : C.l = C'.l) (h : EnvOk K C F H σ ρ) : EnvOk K C' F H σ (ρ.map PF.unEx) where
  len := by rw [List.length_map]; exact h.len
  at_ := fun j x he => by
    obtain ⟨h1, h2⟩ := unEx_get he
    obtain ⟨v, h3, h4⟩ := h.at_ j x h1
    exact ⟨v, h3, h4.cl e fun z => (h2 z).elim⟩
  apart := fun j k a b v' hjk ha hb ma mb hv => h.apart j k a b v' hjk (unEx_get ha).1 (unEx_get hb).1 ma mb hv
theorem Own0.unEx (h : Own0 H0 σ ρ) : Own0 H0 σ (ρ.map PF.unEx) := fun j e a h1 h2 h3 => h j e a (unEx_get h1).1 h2 h3
theorem Own0.forget (h : Own0 H0 σ ρ) {i : Nat} {v : Option V} : Own0 H0 (σ.set i v) (ρ.set i none) := fun j e a h1 h2 h3 => by
  by_cases hj : i = j
  · subst hj
    rw [List.getElem?_set, if_pos rfl] at h1
    split at h1 <;> cases h1
  · rw [List.getElem?_set_ne hj] at h1 h3
    exact h j e a h1 h2 h3
theorem Own0.setExc (h : Own0 H0 σ ρ) {i : Nat} {v : Option V} : Own0 H0 (σ.set i v) (ρ.set i (some .exc)) := fun j e a h1 h2 h3 => by
  by_cases hj : i = j
  · subst hj
    rw [List.getElem?_set, if_pos rfl] at h1
    split at h1
    · cases h1
      cases h2
    · cases h1
  · rw [List.getElem?_set_ne hj] at h1 h3
    exact h j e a h1 h2 h3
end
/-- the suite's surroundings: what is known of the caught exception -/
structure Caught (X : Cx) (C C' : Lc) (a : Addr) (cls : Value) (d : Option Addr) (c : Str) (fs : List (Str × PV)) : Prop where
  T : C'.T = C.T
  l : C.l = C'.l
  e : C'.e = some (.ref a)
  ex : ∃ A dd kvs, X.mg c = some (.ref A) ∧ cls = .ref A ∧ d = some dd ∧ C'.b dd = some (.xd kvs) ∧ RepF X.K C' C'.b kvs fs
def denH (X : Cx) (C : Lc) (h : Hd) : Addr → Value → Option Addr → TS := fun a cls d D σ H => ∃ C' c fs, Caught X C C' a cls d c fs ∧ h.is.lookup c = some true ∧ denS X.K C' X.mg W0 (h.f c fs) D σ H
inductive HdF (X : Cx) (C : Lc) : List ExceptHandler → List Hd → List (Value × (Addr → Value → Option Addr → TS)) → Prop
  | nil : HdF X C [] [] []
  | cons {x n : Str} {h : Hd} {c : Value} {b₀ : Stmt} {suite : List Stmt} {np pos' : Pos} {hds : List ExceptHandler} {hs : List Hd} {l : List (Value × (Addr → Value → Option Addr → TS))} (hc : Names X x c) (hi : X.N[h.i]? = some n) (hln : X.env.kindOf n = some .local)
      (his : ∀ p ∈ h.is, ∀ A, X.mg p.1 = some (.ref A) → PySem.W.exmOne X.K (.ref A) c = some p.2)
      (hsu : ∀ (a : Addr) (oe : Obj) (cls : Value) (d : Option Addr) (pn : List (Addr × Obj)) (C' : Lc) (c : Str) (fs : List (Str × PV)), Zc cls d oe → (∃ vs, oe.data = .fields vs) → Caught X C C' a cls d c fs → h.is.lookup c = some true → PFss (X.suite a ((a, oe) :: pn)) C' W0 (b₀ :: suite) (h.f c fs)) (r : HdF X C hds hs l) :
      HdF X C (.ExceptHandler (some (.Name x np)) (some n) (b₀ :: suite) pos' :: hds) (h :: hs) ((c, asTS h.i (denH X C h)) :: l)
theorem HdF.A {X : Cx} {C : Lc} {hds : List ExceptHandler} {hs : List Hd} {l : List (Value × (Addr → Value → Option Addr → TS))} (h : HdF X C hds hs l) : HdA X hds l := by
  induction h with
  | nil => exact .nil
  | @cons x n h c b₀ suite np pos' hds hs l hc hi hln his hsu r ih =>
    refine .cons hc hi hln (fun a oe cls d pn hz hf => ⟨fun pins s σ H D I q => ?_⟩) ih
    obtain ⟨C', c', fs, hcau, hl, q⟩ := q
    exact (hsu a oe cls d pn C' c' fs hz hf hcau hl).run pins s σ H D I q
theorem mem_of_lookup {α : Type} {l : List (Str × α)} {c : Str} {b : α} (h : l.lookup c = some b) : (c, b) ∈ l := by
  induction l with
  | nil => cases h
  | cons p l ih =>
    obtain ⟨k, v⟩ := p
    rw [List.lookup_cons] at h
    split at h
    · rename_i e
      cases h
      rw [eq_of_beq e]
      exact List.mem_cons_self
    · exact List.mem_cons_of_mem _ (ih h)
theorem try_read {X : Cx} {C : Lc} {W : WX} {F0 H0 : Hp} {D : Ends} {c : Str} {fs : List (Str × PV)} {A d : Addr} {kvs : List (Str × V)} {F H : Hp} {s : PS} {σ : L2.St} (hm : X.mg c = some (.ref A)) (p : Stp C F0 H0 F H) (g : G C F H s) (hd : F d = some (.xd kvs)) (rf : RepF X.K C F kvs fs)
    {hds : List ExceptHandler} {hs : List Hd} {l : List (Value × (Addr → Value → Option Addr → TS))} (hh : HdF X C hds hs l) : ∀ {ρ : Env}, EnvOk X.K C F H σ ρ → Own0 H0 σ ρ → Post X.K C X.mg W F0 H0 D (tryGo hs c fs ρ s) → wMany X.K W D l (.ref A) (some d) σ H := by
  induction hh with
  | nil => exact fun ev ow h => h A d kvs σ F H hm p g ev ow hd rf
  | @cons x n hd' cc b₀ suite np pos' hds hs l hc hi hln his hsu r ih =>
    intro ρ ev ow h
    rw [tryGo] at h
    cases e : hd'.is.lookup c with
    | none => rw [e] at h; exact h.elim
    | some b =>
      rw [e] at h
      refine ⟨b, his _ (mem_of_lookup e) A hm, fun hb a hna => ?_, fun hb => ?_⟩
      · subst hb
        simp only [] at h
        let C' : Lc := ⟨C.T, C.l, F, some (.ref a), none⟩
        have rf' : RepF X.K C' F kvs fs := RepF.cl (C := C) (C' := C') rfl rf
        refine ⟨C', c, fs, ⟨rfl, rfl, rfl, A, d, kvs, hm, rfl, rfl, hd, rf'⟩, e, F, H0, F, (ρ.map unEx).set hd'.i (some .exc), s, Stp.cl (C := C) (C' := C') rfl p.rebase, G.cl (C := C) (C' := C') g rfl rfl (fun _ _ q => q), (EnvOk.unEx (C := C) (C' := C') rfl ev).setExc rfl rfl, ow.unEx.setExc, ?_⟩
        have bk : ∀ {F' H' : Hp} {s' : PS}, Stp C' F H0 F' H' → G C' F' H' s' → Stp C F0 H0 F' H' ∧ G C F' H' s' := fun p' g' => ⟨p.unbase (Stp.cl (C := C') (C' := C) rfl p'), G.cl (C := C') (C' := C) g' rfl rfl fun a o q => g'.base a o (g.base a o q)⟩
        cases ho : hd'.f c fs ((ρ.map unEx).set hd'.i (some .exc)) s with
        | nx ρ1 s1 =>
          rw [ho] at h
          exact fun σ' F' H' p' g' ev' ow' => h _ F' H' (bk p' g').1 (bk p' g').2 (EnvOk.unEx (C := C') (C' := C) rfl ev').forget ow'.unEx.forget
        | bk ρ1 s1 =>
          rw [ho] at h
          exact fun σ' F' H' p' g' ev' ow' => h _ F' H' (bk p' g').1 (bk p' g').2 (EnvOk.unEx (C := C') (C' := C) rfl ev').forget ow'.unEx.forget
        | ct ρ1 s1 =>
          rw [ho] at h
          exact fun σ' F' H' p' g' ev' ow' => h _ F' H' (bk p' g').1 (bk p' g').2 (EnvOk.unEx (C := C') (C' := C) rfl ev').forget ow'.unEx.forget
        | rt v s1 =>
          rw [ho] at h
          exact fun x F' H' p' g' r' => h x F' H' (bk p' g').1 (bk p' g').2 (Rep.cl (C := C') (C' := C) rfl r')
        | exc _ _ _ _ => rw [ho] at h; exact h.elim
        | stuck => rw [ho] at h; exact h.elim
      · subst hb
        exact ih ev ow h
section
variable {X : Cx} {C : Lc} {W : WX} {body : List Stmt} {h₀ : ExceptHandler} {hds : List ExceptHandler} {l : List (Value × (Addr → Value → Option Addr → TS))} {hs : List Hd} {pos : Pos} {f : FS}
theorem pf_try (hst : X.stack = X.env :: X.outer) (hf : X.env.frame = some X.env.locals) (hN : X.N.Nodup) (tk : Takes X W)
    (hb : ∀ (W' : WX) (pn : List (Addr × Obj)) (xe : Value → Shared → Prop), Takes (X.tr pn xe) W' → PassesOwn (model X.prog X.w) X.A X.env xe → PFss (X.tr pn xe) C W' body f)
    (hh : HdF X C (h₀ :: hds) hs l) : PFs X C W (.Try body (h₀ :: hds) [] [] pos) (sTry f hs) :=
  PSt.imp (ps_try_manyA (tb := fun W' => denS X.K C X.mg W' f) hst hf hN tk hb hh.A) fun D σ H h => by
    obtain ⟨F0, H0, F, ρ, s, p, g, ev, ow, h⟩ := h
    refine ⟨F0, H0, F, ρ, s, p, g, ev, ow, ?_⟩
    simp only [sTry] at h
    cases ho : f ρ s with
    | exc c fs ρ1 s1 =>
      rw [ho] at h
      exact fun A d kvs σ' F' H' hm p' g' ev' ow' hd rf => try_read hm p' g' hd rf hh ev' ow' h
    | _ => rw [ho] at h; exact h
/-! ### in a suite: a field of the error, its class -/
variable {a : Addr} {oe : Obj} {cls : Value} {d : Option Addr} {pn : List (Addr × Obj)} {C' : Lc} {c : Str} {fs : List (Str × PV)}
@[simp] def fFld (fs : List (Str × PV)) (i : Nat) (n : Str) : FE := fun ρ s => match ρ[i]? with
  | some (some .exc) => ofO (fs.lookup n) s
  | _ => .stuck
theorem pf_fld (i : Nat) {n x : Str} {is : List (Str × Bool)} {b : Bool} {p : Pos} (k : Caught X C C' a cls d c fs) (hz : Zc cls d oe) (hf : ∃ vs, oe.data = .fields vs) (hl : is.lookup c = some b) (T : ∀ q ∈ is, ∀ A, X.mg q.1 = some (.ref A) → XfC X.K A ∧ PySem.W.findIn X.K (.ref A) n = some none)
    (hN : X.N[i]? = some x := by rfl) (hv : Vis X.env.scope x := by first | exact Or.inl rfl | exact Or.inr (Or.inl rfl) | exact Or.inr (Or.inr rfl)) (hd : (x == ("__debug__" : Str)) = false := by decide)
    (hcd : (x == ("__classdict__" : Str)) = false := by decide) (hb : attributeBase (.Name x p) n X.env (eval (.Name x p) X.env) = eval (.Name x p) X.env := by rfl) :
    PFe (X.suite a ((a, oe) :: pn)) C' W (.Attribute (.Name x p) n pos) (fFld fs i n) := by
  obtain ⟨A, dd, kvs, hm, rfl, rfl, hb', rf⟩ := k.ex
  have T' := T _ (mem_of_lookup hl) A hm
  refine PE.imp (pe_xf T'.1 T'.2 hz hf (pe_var (X := X.suite a ((a, oe) :: pn)) hN hv hd hcd) hb) fun σ H Q h => ?_
  obtain ⟨F, ρ, s, g, ev, h⟩ := h
  simp only [fFld] at h
  split at h
  · rename_i hi
    obtain ⟨v, h1, h2⟩ := ev.at_ i _ hi
    have h2' : C'.e = some v := h2.1
    rw [k.e] at h2'
    cases h2'
    refine ⟨_, h1, rfl, rfl, dd, kvs, ?_⟩
    cases e : fs.lookup n with
    | none => rw [e] at h; exact h.elim
    | some w =>
      rw [e] at h
      obtain ⟨u, h3, h4⟩ := (rf.mono g.base).get e
      exact ⟨u, rfl, g.ex _ _ (g.base _ _ hb'), h3, ER.ret h g h4⟩
  · exact h.elim
/-- isinstance(e, c) -/
theorem call_isE' {D dd : Addr} {kvs : List (Str × V)} (K : ExcC X.K D) (hz : Zc (.ref D) (some dd) oe) (hf : ∃ vs, oe.data = .fields vs) : CallR (X.suite a ((a, oe) :: pn)) (.builtin "isinstance") (fun xs H Q => H dd = some (.xd kvs) ∧ rIsE X.K D a xs H Q) := by
  intro pins s σ H xs us Q I r h
  obtain ⟨hdd, c, cv, b, rfl, hcv, e, q⟩ := h
  cases r with
  | cons rx rr =>
    cases rr with
    | cons rt rr =>
      cases rr
      cases rx
      have ec := hcv _ rt
      subst ec
      obtain ⟨hget, _⟩ := I.pin (a, oe) (List.mem_append.mpr (.inl List.mem_cons_self))
      obtain ⟨vs, hv⟩ := hf
      have hx : ObjOk X.prog X.w H s.heap dd (.xd kvs) := I.hok dd _ hdd
      obtain ⟨mA, hns, _⟩ := hx
      obtain ⟨od, ho, _⟩ := lookIn_ns hns
      have J : PySem.W.InstAt s.heap a oe D (some od) := ⟨hget, hz.1, by unfold PySem.W.notCls; rw [hv] <;> rfl, by rw [hz.2]; exact ho⟩
      exact PySem.W.kia_one (kitx_exc' K.hg K.hk K.hs K.hd K.ha K.hn K.ht K.hm) I.kIn ⟨_, J⟩ e (fun z => nomatch z) fun tk => ⟨.bl b, H, I.kept (t' := tk) fun _ _ z => z, rfl, q⟩
@[simp] def fIsE (i : Nat) (is : List (Str × Bool)) (c : Str) : FE := fun ρ s => match ρ[i]? with
  | some (some .exc) => (match is.lookup c with
    | some b => .val (.bl b) s
    | none => .stuck)
  | _ => .stuck
theorem pf_isE (i : Nat) {x y : Str} {B : Addr} {is : List (Str × Bool)} {p p2 p3 : Pos} (k : Caught X C C' a cls d c fs) (hz : Zc cls d oe) (hf : ∃ vs, oe.data = .fields vs) (T : ∀ q ∈ is, ∀ A, X.mg q.1 = some (.ref A) → ExcC X.K A ∧ PySem.W.kitOne X.K (.ref A) (.ref B) = some q.2)
    (hm : X.mg "isinstance" = none) (hB : X.mg y = some (.ref B))
    (hN : X.N[i]? = some x := by rfl) (hv : Vis X.env.scope x := by first | exact Or.inl rfl | exact Or.inr (Or.inl rfl) | exact Or.inr (Or.inr rfl)) (hd : (x == ("__debug__" : Str)) = false := by decide)
    (hcd : (x == ("__classdict__" : Str)) = false := by decide) (hg : Gl X "isinstance" := by rfl) (hg2 : Gl X y := by rfl) (hd2 : (y == ("__debug__" : Str)) = false := by decide)
    (h1 : starEach [.Name x p, .Name y p2] X.env = (false, eval (.Name x p) X.env) :: starEach [.Name y p2] X.env := by rfl) (h2 : starEach [.Name y p2] X.env = (false, eval (.Name y p2) X.env) :: starEach [] X.env := by rfl)
    (hpl : (backTo pos (starEach [.Name y p2] X.env)).any (·.1) = false := by rfl) :
    PFe (X.suite a ((a, oe) :: pn)) C' W (.Call (.Name "isinstance" p3) [.Name x p, .Name y p2] [] pos) (fIsE i is c) := by
  obtain ⟨A, dd, kvs, hmA, rfl, rfl, hb', rf⟩ := k.ex
  refine ⟨fun pins s σ H Q I h => ?_⟩
  obtain ⟨F, ρ, s', g, ev, h⟩ := h
  simp only [fIsE] at h
  split at h
  · rename_i hi
    obtain ⟨v, e1, e2⟩ := ev.at_ i _ hi
    have e2' : C'.e = some v := e2.1
    rw [k.e] at e2'
    cases e2'
    split at h
    · rename_i b hl
      obtain ⟨T1, T2⟩ := T _ (mem_of_lookup hl) A hmA
      have := pe_callB (X := X.suite a ((a, oe) :: pn)) (call_isE' (kvs := kvs) T1 hz hf) hg hm (by decide +kernel) (pa_cons (pe_var (X := X.suite a ((a, oe) :: pn)) hN hv hd hcd) (pa_cons (pe_glob (X := X.suite a ((a, oe) :: pn)) (v := .ref B) (pos := p2) hg2 hB rfl hd2) pa_nil h2) h1) (p := p3) (pos := pos) (by decide) (by decide) h1 hpl
      refine this.run pins s σ H Q I ?_
      exact ⟨_, e1, g.ex _ _ (g.base _ _ hb'), .ref B, _, b, rfl, fun u hu => hu, T2, ER.ret h g (.bl _)⟩
    · exact h.elim
  · exact h.elim
end
end PF
set_option Elab.async false
set_option linter.all false
set_option maxRecDepth 100000
/-! # The rules in short -/
namespace PF
open PySem L2 PySem.Spec PyProof.Rows
section
variable {X : Cx} {C : Lc} {W : WX} {a b e : Expr} {fa fb : FE} {pos p : Pos} {k : Nat}
theorem pf_add (ha : PFe X C W a fa) (hb : PFe X C W b fb) : PFe X C W (.BinOp a .Add b pos) (fBin oAdd fa fb) := pf_bin (OpR.or2 op_add (OpR.or2 op_add_str op_cat)) (VOp.or2 v_addI (VOp.or2 v_addS v_addL)) ha hb
theorem pf_sub (ha : PFe X C W a fa) (hb : PFe X C W b fb) : PFe X C W (.BinOp a .Sub b pos) (fBin oSub fa fb) := pf_bin op_sub v_sub ha hb
theorem pf_mul (ha : PFe X C W a fa) (hb : PFe X C W b fb) : PFe X C W (.BinOp a .Mult b pos) (fBin oMul fa fb) := pf_bin (OpR.or2 op_mulW (OpR.or2 op_rep op_mulS)) (VOp.or2 v_mulI (VOp.or2 v_mulL v_mulS)) ha hb
theorem pf_fdiv (ha : PFe X C W a fa) (hb : PFe X C W b fb) : PFe X C W (.BinOp a .FloorDiv b pos) (fBin oDiv fa fb) := pf_bin op_divS v_div ha hb
theorem pf_mod (ha : PFe X C W a fa) (hb : PFe X C W b fb) : PFe X C W (.BinOp a .Mod b pos) (fBin oMod fa fb) := pf_bin op_modN v_mod ha hb
theorem pf_pow (ha : PFe X C W a fa) (hb : PFe X C W b fb) : PFe X C W (.BinOp a .Pow b pos) (fBin oPow fa fb) := pf_bin op_pow v_pow ha hb
theorem pf_neg (ha : PFe X C W a fa) : PFe X C W (.UnaryOp .USub a pos) (fUn oNeg fa) := pf_un un_neg v_neg ha
theorem pf_lt (ha : PFe X C W a fa) (hb : PFe X C W b fb) (hm : behindInMarks .Lt b = false := by rfl) : PFe X C W (.Compare a [.Lt] [b] pos) (fBin oLt fa fb) := pf_cmp op_lt v_lt ha hb hm
theorem pf_le (ha : PFe X C W a fa) (hb : PFe X C W b fb) (hm : behindInMarks .LtE b = false := by rfl) : PFe X C W (.Compare a [.LtE] [b] pos) (fBin oLe fa fb) := pf_cmp op_le v_le ha hb hm
theorem pf_gt (ha : PFe X C W a fa) (hb : PFe X C W b fb) (hm : behindInMarks .Gt b = false := by rfl) : PFe X C W (.Compare a [.Gt] [b] pos) (fBin oGt fa fb) := pf_cmp op_gt v_gt ha hb hm
theorem pf_ge (ha : PFe X C W a fa) (hb : PFe X C W b fb) (hm : behindInMarks .GtE b = false := by rfl) : PFe X C W (.Compare a [.GtE] [b] pos) (fBin oGe fa fb) := pf_cmp op_ge v_ge ha hb hm
theorem pf_eq (hr : Room k X.A) (ha : PFe X C W a fa) (hb : PFe X C W b fb) (hm : behindInMarks .Eq b = false := by rfl) : PFe X C W (.Compare a [.Eq] [b] pos) (fBin oEq fa fb) := pf_cmp (OpR.or2 op_eq (op_eqD hr.units)) (VOp.or2 v_eqS v_eq) ha hb hm
theorem pf_ne (hr : Room k X.A) (ha : PFe X C W a fa) (hb : PFe X C W b fb) (hm : behindInMarks .NotEq b = false := by rfl) : PFe X C W (.Compare a [.NotEq] [b] pos) (fBin oNe fa fb) := pf_cmp (OpR.or2 op_ne (op_neD hr.units)) (VOp.or2 v_neS v_ne) ha hb hm
theorem pf_is (ha : PFe X C W a fa) (hb : PFe X C W b fb) (hm : behindInMarks .Is b = false := by rfl) : PFe X C W (.Compare a [.Is] [b] pos) (fBin oIs fa fb) := pf_cmp (OpR.or2 op_isN op_isBl) (VOp.or2 v_isN v_isB) ha hb hm
theorem pf_isNot (ha : PFe X C W a fa) (hb : PFe X C W b fb) (hm : behindInMarks .IsNot b = false := by rfl) : PFe X C W (.Compare a [.IsNot] [b] pos) (fBin oIsNot fa fb) := pf_cmp (OpR.or2 op_notN op_notBl) (VOp.or2 v_notN v_notB) ha hb hm
theorem pt_lt (ha : PFe X C W a fa) (hb : PFe X C W b fb) (hm : behindInMarks .Lt b = false := by rfl) : PFt X C W (.Compare a [.Lt] [b] pos) (fTest (fBin oLt fa fb)) := pf_testC op_lt v_lt ha hb hm
theorem pt_le (ha : PFe X C W a fa) (hb : PFe X C W b fb) (hm : behindInMarks .LtE b = false := by rfl) : PFt X C W (.Compare a [.LtE] [b] pos) (fTest (fBin oLe fa fb)) := pf_testC op_le v_le ha hb hm
theorem pt_gt (ha : PFe X C W a fa) (hb : PFe X C W b fb) (hm : behindInMarks .Gt b = false := by rfl) : PFt X C W (.Compare a [.Gt] [b] pos) (fTest (fBin oGt fa fb)) := pf_testC op_gt v_gt ha hb hm
theorem pt_ge (ha : PFe X C W a fa) (hb : PFe X C W b fb) (hm : behindInMarks .GtE b = false := by rfl) : PFt X C W (.Compare a [.GtE] [b] pos) (fTest (fBin oGe fa fb)) := pf_testC op_ge v_ge ha hb hm
theorem pt_eq (hr : Room k X.A) (ha : PFe X C W a fa) (hb : PFe X C W b fb) (hm : behindInMarks .Eq b = false := by rfl) : PFt X C W (.Compare a [.Eq] [b] pos) (fTest (fBin oEq fa fb)) := pf_testC (OpR.or2 op_eq (op_eqD hr.units)) (VOp.or2 v_eqS v_eq) ha hb hm
theorem pt_ne (hr : Room k X.A) (ha : PFe X C W a fa) (hb : PFe X C W b fb) (hm : behindInMarks .NotEq b = false := by rfl) : PFt X C W (.Compare a [.NotEq] [b] pos) (fTest (fBin oNe fa fb)) := pf_testC (OpR.or2 op_ne (op_neD hr.units)) (VOp.or2 v_neS v_ne) ha hb hm
theorem pt_is (ha : PFe X C W a fa) (hb : PFe X C W b fb) (hm : behindInMarks .Is b = false := by rfl) : PFt X C W (.Compare a [.Is] [b] pos) (fTest (fBin oIs fa fb)) := pf_testC (OpR.or2 op_isN op_isBl) (VOp.or2 v_isN v_isB) ha hb hm
theorem pt_isNot (ha : PFe X C W a fa) (hb : PFe X C W b fb) (hm : behindInMarks .IsNot b = false := by rfl) : PFt X C W (.Compare a [.IsNot] [b] pos) (fTest (fBin oIsNot fa fb)) := pf_testC (OpR.or2 op_notN op_notBl) (VOp.or2 v_notN v_notB) ha hb hm
theorem pf_ix1 (hr : Room k X.A) (ha : PFe X C W a fa) (hb : PFe X C W b fb) (hs : PlainIx b := by exact fun _ _ => rfl) (hs2 : NoSl b := by exact fun _ _ => rfl) : PFe X C W (.Subscript a b pos) (fIx fa fb) := pf_index (by have := hr.un; omega) ha hb hs hs2
end
section
variable {X : Cx} {C : Lc} {W : WX} {e e2 : Expr} {f : FA} {pos p : Pos} {k : Nat}
theorem pf_abs (hm : X.mg "abs" = none) (ha : PFa X C W [e] f) (hg : Gl X "abs" := by rfl) (he : starEach [e] X.env = (false, eval e X.env) :: starEach [] X.env := by rfl) (hpl : (backTo pos (starEach [] X.env)).any (·.1) = false := by rfl) : PFe X C W (.Call (.Name "abs" p) [e] [] pos) (fCallB oAbs f) := pf_callB call_abs v_abs hm ha (by decide +kernel) hg (by decide) (by decide) he hpl
theorem pf_len (hm : X.mg "len" = none) (ha : PFa X C W [e] f) (hg : Gl X "len" := by rfl) (he : starEach [e] X.env = (false, eval e X.env) :: starEach [] X.env := by rfl) (hpl : (backTo pos (starEach [] X.env)).any (·.1) = false := by rfl) : PFe X C W (.Call (.Name "len" p) [e] [] pos) (fCallB oLen f) := pf_callB (CallR.or2 call_len_seq call_len_str) v_len hm ha (by decide +kernel) hg (by decide) (by decide) he hpl
theorem pf_sum (hc : X.calm = true) (hm : X.mg "sum" = none) (ha : PFa X C W [e] f) (hg : Gl X "sum" := by rfl) (he : starEach [e] X.env = (false, eval e X.env) :: starEach [] X.env := by rfl) (hpl : (backTo pos (starEach [] X.env)).any (·.1) = false := by rfl) : PFe X C W (.Call (.Name "sum" p) [e] [] pos) (fCallB oSum f) := pf_callB (cr_sum hc) v_sum hm ha (by decide +kernel) hg (by decide) (by decide) he hpl
theorem pf_all (hc : X.calm = true) (hm : X.mg "all" = none) (ha : PFa X C W [e] f) (hg : Gl X "all" := by rfl) (he : starEach [e] X.env = (false, eval e X.env) :: starEach [] X.env := by rfl) (hpl : (backTo pos (starEach [] X.env)).any (·.1) = false := by rfl) : PFe X C W (.Call (.Name "all" p) [e] [] pos) (fCallB oAll f) := pf_callB (cr_all hc) v_all hm ha (by decide +kernel) hg (by decide) (by decide) he hpl
theorem pf_any (hc : X.calm = true) (hm : X.mg "any" = none) (ha : PFa X C W [e] f) (hg : Gl X "any" := by rfl) (he : starEach [e] X.env = (false, eval e X.env) :: starEach [] X.env := by rfl) (hpl : (backTo pos (starEach [] X.env)).any (·.1) = false := by rfl) : PFe X C W (.Call (.Name "any" p) [e] [] pos) (fCallB oAny f) := pf_callB (cr_any hc) v_any hm ha (by decide +kernel) hg (by decide) (by decide) he hpl
theorem pf_max (hc : X.calm = true) (hm : X.mg "max" = none) (ha : PFa X C W [e, e2] f) (hg : Gl X "max" := by rfl) (he : starEach [e, e2] X.env = (false, eval e X.env) :: starEach [e2] X.env := by rfl) (hpl : (backTo pos (starEach [e2] X.env)).any (·.1) = false := by rfl) : PFe X C W (.Call (.Name "max" p) [e, e2] [] pos) (fCallB oMax2 f) := pf_callB (call_max2 hc) v_max2 hm ha (by decide +kernel) hg (by decide) (by decide) he hpl
theorem pf_min (hc : X.calm = true) (hm : X.mg "min" = none) (ha : PFa X C W [e, e2] f) (hg : Gl X "min" := by rfl) (he : starEach [e, e2] X.env = (false, eval e X.env) :: starEach [e2] X.env := by rfl) (hpl : (backTo pos (starEach [e2] X.env)).any (·.1) = false := by rfl) : PFe X C W (.Call (.Name "min" p) [e, e2] [] pos) (fCallB oMin2 f) := pf_callB (call_min2 hc) v_min2 hm ha (by decide +kernel) hg (by decide) (by decide) he hpl
theorem pf_divmod (hm : X.mg "divmod" = none) (ha : PFa X C W [e, e2] f) (hg : Gl X "divmod" := by rfl) (he : starEach [e, e2] X.env = (false, eval e X.env) :: starEach [e2] X.env := by rfl) (hpl : (backTo pos (starEach [e2] X.env)).any (·.1) = false := by rfl) : PFe X C W (.Call (.Name "divmod" p) [e, e2] [] pos) (fCallB oDivmod f) := pf_callB call_divmodW v_divmod hm ha (by decide +kernel) hg (by decide) (by decide) he hpl
theorem _root_.L2.Room.u100 {k : Nat} {A : Around} (r : Room k A) : A.units + 100 < cLine := by have := r.un; omega
theorem pf_repr (hgd : X.A.guards = some []) (hu : X.A.units + 100 < cLine) (hm : X.mg "repr" = none) (ha : PFa X C W [e] f) (hg : Gl X "repr" := by rfl) (he : starEach [e] X.env = (false, eval e X.env) :: starEach [] X.env := by rfl) (hpl : (backTo pos (starEach [] X.env)).any (·.1) = false := by rfl) : PFe X C W (.Call (.Name "repr" p) [e] [] pos) (fCallB oRepr f) := pf_callB (call_reprD hgd hu) v_repr hm ha (by decide +kernel) hg (by decide) (by decide) he hpl
theorem pf_int1 (hm : X.mg "int" = none) (ha : PFa X C W [e] f) (hg : Gl X "int" := by rfl) (he : starEach [e] X.env = (false, eval e X.env) :: starEach [] X.env := by rfl) (hpl : (backTo pos (starEach [] X.env)).any (·.1) = false := by rfl) : PFe X C W (.Call (.Name "int" p) [e] [] pos) (fCallB oInt f) := pf_callTy call_int1 v_int hm ha (by decide +kernel) hg (by decide) (by decide) he hpl
theorem pf_list1 (hm : X.mg "list" = none) (ha : PFa X C W [e] f) (hg : Gl X "list" := by rfl) (he : starEach [e] X.env = (false, eval e X.env) :: starEach [] X.env := by rfl) (hpl : (backTo pos (starEach [] X.env)).any (·.1) = false := by rfl) : PFe X C W (.Call (.Name "list" p) [e] [] pos) (fCallB oList f) := pf_callTy call_list_of v_list hm ha (by decide +kernel) hg (by decide) (by decide) he hpl
theorem pf_tuple1 (hm : X.mg "tuple" = none) (ha : PFa X C W [e] f) (hg : Gl X "tuple" := by rfl) (he : starEach [e] X.env = (false, eval e X.env) :: starEach [] X.env := by rfl) (hpl : (backTo pos (starEach [] X.env)).any (·.1) = false := by rfl) : PFe X C W (.Call (.Name "tuple" p) [e] [] pos) (fCallB oTuple f) := pf_callTy call_tuple_of v_tuple hm ha (by decide +kernel) hg (by decide) (by decide) he hpl
end
section
variable {X : Cx} {C : Lc} {W : WX}
theorem pf_compC (N : List Str) (sc : Scope) (own : List (Str × Nat)) {elt tg iter : Expr} {ifs : List Expr} {scope : Scope} {pos : Pos} {fi : FA} {fg : FG} {js : List Nat} {fc : FT} {fe : FE} (hc : X.calm = true) (hN : X.N.Nodup) (hi : PFi X C W tg iter fi)
    (hg : ∀ (s : Shared) (H : Hp) (D : Addr) (cl : List (Str × Addr)) (fp : List Addr), PG (X.blk s H scope (compEnvC scope cl D X.env) fp) tg (denG X.K C fg js))
    (ht : ∀ (s : Shared) (H : Hp) (D : Addr) (cl : List (Str × Addr)) (fp : List Addr), PTs (X.blk s H scope (compEnvC scope cl D X.env) fp) ifs (denT X.K C X.mg W0 fc))
    (he : ∀ (s : Shared) (H : Hp) (D : Addr) (cl : List (Str × Addr)) (fp : List Addr), PE (X.blk s H scope (compEnvC scope cl D X.env) fp) elt (den X.K C X.mg W0 fe))
    (ok : blkC N sc scope own = true := by decide +kernel) (hN2 : X.N = N := by rfl) (hsc : X.env.scope = sc := by rfl)
    (hj : ∀ j ∈ js, j ∈ own.map (·.2) := by decide) (hs : ∀ x, foldedSetIterable iter X.env x = pure x := by intro _; rfl) :
    PFe X C W (.ListComp elt [⟨tg, iter, ifs, 0⟩] scope pos) (fComp fi fg (own.map (·.2)) fc fe) := pf_comp hc hN hi (by rw [hN2, hsc]; exact blkOk_by ok) hg ht he hj hs
end
end PF
set_option Elab.async false
set_option linter.all false
set_option maxRecDepth 100000
set_option maxHeartbeats 1000000
/-! # Lambdas without parameters, handed to a def -/
namespace PF
open PySem L2 PySem.Spec PyProof.Rows LamX

/-- the lambda at f does tl, in every state that follows s (frames fs) -/
structure Acts (P : Program) (w : World) (K : PySem.W.Frag) (T : List (Addr × Str)) (mg : Str → Option Value) (base : Heap) (j : Nat) (fs : List Addr) (F0 : Hp) (l : Option Addr) (s : Shared) (H : Hp) (f c : Addr) (q : Str) (tl : PS → R PV) : Prop where
  obj : PySem.W.FnAt f s.heap
  fn : H f = none
  nf : f ∉ fs
  run : ∀ (A : Around) (outer : List PySem.Env) (s1 : Shared) (HZ F : Hp) (ps : PS) (Q : VK) (E : XK), Un fs [] H HZ s.heap s1.heap → Env0 P w K mg base A outer s1 HZ → A.guards = some [] → Room (j + 1) A → G ⟨T, l, F0, none, none⟩ F HZ ps → HZ c = some (CodeO c q) → FR K ⟨T, l, F0, none, none⟩ mg F HZ (tl ps) Q E →
    codeAny (model P w) A (.call (.ref f) ⟨[], []⟩) (CR (L2.CX P w) outer P w HZ s1 Q E) s1
/-- values alone -/
@[simp] def valO : Option Ent → Option Ent
  | some (.val v) => some (.val v)
  | _ => none
theorem valO_get {ρ : Env} {j : Nat} {e : Ent} (h : (ρ.map valO)[j]? = some (some e)) : ∃ x, e = .val x ∧ ρ[j]? = some (some (.val x)) := by
  rw [List.getElem?_map] at h
  cases q : ρ[j]? with
  | none => rw [q] at h; cases h
  | some o =>
    rw [q] at h
    cases o with
    | none => cases h
    | some e' => cases e' <;> cases h; exact ⟨_, rfl, rfl⟩
theorem EnvOk.vals {K : PySem.W.Frag} {C C' : Lc} {F F' H H' : Hp} {σ : L2.St} {ρ : Env} (e : C.l = C'.l) (x : Ex F F') (h : EnvOk K C F H σ ρ) : EnvOk K C' F' H' σ (ρ.map valO) where
  len := by rw [List.length_map]; exact h.len
  at_ := fun j y he => by
    obtain ⟨x0, rfl, h1⟩ := valO_get he
    obtain ⟨v, h3, h4⟩ := h.at_ j _ h1
    exact ⟨v, h3, Rep.cl (C := C) (C' := C') e (Rep.mono x h4)⟩
  apart := fun j k a b v' hjk ha hb ma mb hv => by
    obtain ⟨x0, rfl, h1⟩ := valO_get ha
    cases ma
theorem Un.more {fs fs' : List Addr} {H H' : Hp} {h h' : Heap} (u : Un fs [] H H' h h') (hs : ∀ b ∈ fs, b ∈ fs') : Un fs' [] H H' h h' :=
  ⟨fun b o e n hb hx => u.keep b o e n (fun z => hb (hs b z)) hx, fun b o e n _ hx => u.any e n hx, u.free, u.there, u.tups, u.frzs, u.tbls⟩
/-- heaps that differ in tables and new things -/
theorem ext_stp {C : Lc} {F H H1 : Hp} {s : PS} (g : G C F H s) (eN : ExtN H H1) (T1 : Tabs C.T H1) (tb : ∀ a ps, H1 a = some (.tbl ps) → a ∈ C.T.map (·.1)) : G C F H1 s ∧ Stp C F H F H1 := by
  refine ⟨⟨fun a o e => eN a o (g.ex a o e) fun ps z => g.ftab a ps (by rw [e, z]), ?_, ⟨T1, tb⟩, g.ftab, g.base⟩, ⟨fun _ _ h => h, fun a o h _ t => eN a o h t, fun a o h => ?_, fun a o h n => by rw [n] at h; cases h⟩⟩
  · cases s with
    | none => exact g.pot
    | some xy =>
      obtain ⟨a, h1, h2, h3⟩ := (show ∃ a, C.l = some a ∧ F a = none ∧ H a = some (.lst [.int xy.1, .int xy.2]) from g.pot)
      exact ⟨a, h1, h2, eN a _ h3 fun ps z => by cases z⟩
  · by_cases t : ∃ ps, o = .tbl ps
    · obtain ⟨ps, rfl⟩ := t
      obtain ⟨p, hp, e⟩ := List.mem_map.mp (g.tabs.2 a ps h)
      obtain ⟨ps', h1, _⟩ := T1 p hp
      exact ⟨_, by rw [← e]; exact h1⟩
    · exact ⟨o, eN a o h fun ps z => t ⟨ps, z⟩⟩
theorem ER.FR {K : PySem.W.Frag} {C C' : Lc} {mg : Str → Option Value} {W : WX} {σ : L2.St} {F H H1 : Hp} {r : R PV} {Q : VK} (t : C.T = C'.T) (e : C.l = C'.l) (b : ∀ F', Ex F F' → Ex C.b F') (p : Stp C F H F H1) (h : ER K C mg W (Rep K C) σ F H r Q) : FR K C' mg F H1 r Q (WE W σ) := by
  cases r with
  | val x s' => exact fun v F' H' p' g' r' => h v F' H' (p.trans (Stp.cl (C := C') (C' := C) e.symm p')) (G.cl (C := C') (C' := C) g' e.symm t.symm (b _ p'.ex)) (Rep.cl (C := C') (C' := C) e.symm r')
  | exc c fs s' => exact fun A d kvs F' H' hm p' g' hd hr => h A d kvs F' H' hm (p.trans (Stp.cl (C := C') (C' := C) e.symm p')) (G.cl (C := C') (C' := C) g' e.symm t.symm (b _ p'.ex)) hd (RepF.cl (C := C') (C' := C) e.symm hr)
  | stuck => exact h
theorem FR.ER {K : PySem.W.Frag} {C C' : Lc} {mg : Str → Option Value} {E : XK} {σ : L2.St} {F H : Hp} {r : R PV} {Q : VK} (t : C.T = C'.T) (e : C.l = C'.l) (b : ∀ F', Ex F F' → Ex C.b F') (h : FR K C mg F H r Q E) : ER K C' mg (fun cls d _ H => E cls d H) (Rep K C') σ F H r Q := by
  cases r with
  | val x s' => exact fun v F' H' p' g' r' => h v F' H' (Stp.cl (C := C') (C' := C) e.symm p') (G.cl (C := C') (C' := C) g' e.symm t.symm (b _ p'.ex)) (Rep.cl (C := C') (C' := C) e.symm r')
  | exc c fs s' => exact fun A d kvs F' H' hm p' g' hd hr => h A d kvs F' H' hm (Stp.cl (C := C') (C' := C) e.symm p') (G.cl (C := C') (C' := C) g' e.symm t.symm (b _ p'.ex)) hd (RepF.cl (C := C') (C' := C) e.symm hr)
  | stuck => exact h

section
variable {X : Cx} {C : Lc}
/-- the made lambda, in the frame that made it -/
theorem acts_of {pins : List (Addr × Obj)} {σ : L2.St} {ρ : Env} {F H : Hp} {s : Shared} {j : Nat} {f c' : Addr} {pm ctv : Value} {params : Arguments} {body : Expr} {scope : Scope} {fb : FE} {fs : List Addr} (I : Inv X pins σ H s) (ev : EnvOk X.K C F H σ ρ) (L : LamS X.env.scope scope)
    (hf : s.heap.get? f = some (PySem.W.kla_obj "<lambda>" (X.env.qual ++ "<lambda>") params body scope (cloFrom X.env.cells scope.names []) pm c' ctv)) (hfn : H f = none) (hfr : f ∉ frs X.stack) (hs : ∀ b ∈ fs, b ∈ frs X.stack)
    (hbind : bindArgs (PySem.W.kla_fn "<lambda>" (X.env.qual ++ "<lambda>") params body scope (cloFrom X.env.cells scope.names []) pm (.ref c') ctv) ⟨[], []⟩ = pure [])
    (hbody : ∀ (A : Around) (outer : List PySem.Env) (s1 : Shared) (HZ : Hp) (E : XK) (C' : Lc), C'.T = C.T → A.guards = some [] → Room j (A.deeper (lamEnv X scope s1.heap.objs.size f c')) → PFe (lamCx X A outer s1 HZ E scope f c') C' (fun cls d _ H => E cls d H) body fb) :
    Acts X.prog X.w X.K C.T X.mg X.base j fs F C.l s H f c' (X.env.qual ++ "<lambda>") (fun p => fb (ρ.map valO) p) where
  obj := ⟨_, _, _, _, hf⟩
  fn := hfn
  nf := fun z => hfr (hs f z)
  run := fun A outer s1 HZ F2 ps Q E un e0 hgd hr g hc h => by
    have un := Un.more un hs
    have of1 := un.keep f _ hf hfn hfr (by simp)
    obtain ⟨⟨oc, vs, t, hoc, hdc, hvc⟩, _, _⟩ := e0.hok c' _ hc
    refine PySem.W.kla_callFunE hr.depth of1 rfl L.co L.gen rfl ⟨c', oc, vs, t, rfl, hoc, hdc, hvc⟩ ?_
    rw [hbind]
    refine wpAny_pure (wpAny_newFunctionEnv (fun y hy => (L.own y hy).2) (fun y hy => absurd hy (by simp)) (fun h₁ hns hsb => ⟨?_, ?_⟩) L.kind)
    · exact (e0.mod.nolimit.keeps fun b o e => (e0.bs b o e).1).fresh _ hsb
    · show codeAny _ _ (.expr body (lamEnv X scope s1.heap.objs.size f c')) _ _
      have kp : ∀ b o, s1.heap.get? b = some o → h₁.get? b = some o := fun b o e => hsb.extBut b o (Nat.ne_of_lt (Heap.lt_size e)) (Heap.get?_push_of_some _ e)
      have J : Inv (lamCx X A outer s1 HZ E scope f c') [] σ HZ { s1 with heap := h₁, toks := s1.toks + ([] : List (Str × Value)).length } := lam_start2 I L e0 hr.hd un hns kp
      have gb : Ex F F2 := g.base
      have hd : den X.K ⟨C.T, C.l, F, none, none⟩ X.mg (fun cls d _ H => E cls d H) fb σ HZ Q :=
        ⟨F2, ρ.map valO, ps, g, EnvOk.vals (C := C) (C' := ⟨C.T, C.l, F, none, none⟩) rfl gb ev, FR.ER (C := ⟨C.T, C.l, F, none, none⟩) (C' := ⟨C.T, C.l, F, none, none⟩) rfl rfl (fun F' x a o e => x a o (gb a o e)) h⟩
      refine PySem.W.kla_codeExpr (wpAny_mono ((hbody A outer s1 HZ E ⟨C.T, C.l, F, none, none⟩ rfl hgd (hr.deeper _)).run [] _ _ HZ Q J hd) (fun v s' hq => ?_) fun e s' hq => hq)
      obtain ⟨w', H', J', rv, q⟩ := hq
      exact ⟨w', H', J'.os, J'.bare, J'.base, J'.hok, rv, q⟩
end

/-- the def at g calls what it gets -/
structure FnL (P : Program) (w : World) (K : PySem.W.Frag) (T : List (Addr × Str)) (mg : Str → Option Value) (base : Heap) (j k : Nat) (g : Addr) (fd : FuncData) (a : Str) (m : (PS → R PV) → PS → R PV) : Prop where
  run : ∀ (A : Around) (outer : List PySem.Env) (s : Shared) (H : Hp) (args : Args) (Q : VK) (E : XK) (f c : Addr) (q : Str) (l : Option Addr) (F0 F : Hp) (ps : PS) (tl : PS → R PV), A.guards = some [] → Room k A → Env0 P w K mg base A outer s H → BindsTo s fd args [(a, .ref f)] → Acts P w K T mg base j (frs outer) F0 l s H f c q tl →
    G ⟨T, l, F0, none, none⟩ F H ps → H c = some (CodeO c q) → FR K ⟨T, l, F0, none, none⟩ mg F H (m tl ps) Q E → codeAny (model P w) A (.call (.ref g) args) (CR (L2.CX P w) outer P w H s Q E) s
@[simp] def fLam (tl : PS → R PV) : FE := fun ρ s => match ρ[0]? with
  | some (some Ent.exc) => tl s
  | _ => .stuck
@[simp] def mkL (n : Nat) (b : (PS → R PV) → FS) : (PS → R PV) → PS → R PV := fun tl s => (b tl (some Ent.exc :: List.replicate (n - 1) none) s).ret
section
variable {P : Program} {w : World} {K : PySem.W.Frag} {T : List (Addr × Str)} {mg : Str → Option Value} {base : Heap}
theorem fnL_ok {x qual a : Str} {st : Stmt} {g : Addr} {fd : FuncData} {N : List Str} {j k : Nat} {b : (PS → R PV) → FS} (F : Fun K x qual st g fd) (S : FnScope N [a] (defScope st)) (hjk : j + 1 ≤ k) (hN0 : N[0]? = some a) (hva : Vis (defScope st) a) (hd : (a == ("__debug__" : Str)) = false) (hcd' : (a == ("__classdict__" : Str)) = false)
    (hbody : ∀ (C : Lc) (cdv : Value) (A : Around) (outer : List PySem.Env) (s : Shared) (H : Hp) (E : XK) (tl : PS → R PV), C.T = T → A.guards = some [] → Room k (A.deeper (envOfC qual (defScope st) s.heap.objs.size g cdv)) →
      (∀ (W : WX) (pn : List (Addr × Obj)) (xe : Value → Shared → Prop) (p1 p2 : Pos), Takes ((cxOf (L2.CX P w) P w K mg base N qual (defScope st) g cdv A outer s H E).tr pn xe) W → PFe ((cxOf (L2.CX P w) P w K mg base N qual (defScope st) g cdv A outer s H E).tr pn xe) C W (.Call (.Name a p1) [] [] p2) (fLam tl)) →
      PSs (cxOf (L2.CX P w) P w K mg base N qual (defScope st) g cdv A outer s H E) (defBody st) (denS K C mg (fun cls d _ H => E cls d H) (b tl))) : FnL P w K T mg base j (k + 1) g fd a (mkL N.length b) := by
  obtain ⟨oc, od, kV, doc, pm, an, cdv, ct, osl, rfl, lk, hcd⟩ := F.ex
  refine ⟨fun A outer s H args Q E f c q l F0 F1 ps tl hgd hr e0 hb act g1 hcc hq => ?_⟩
  have KX : K.In s.heap := e0.mod.kin.keeps fun b o e => (e0.bs b o e).1
  have lim : s.heap.NoLimit := e0.mod.nolimit.keeps fun b o e => (e0.bs b o e).1
  have hkind : ∀ y ∈ ([a] : List Str).zip [Value.ref f], (defScope st).names.lookup y.1 = some .local ∨ ((defScope st).names.lookup y.1 = some .cell ∧ ((cellsFrom (s.heap.objs.size + 1) (defScope st).names []).lookup y.1).isSome = true) := fun ⟨n, v⟩ hy => by
    rcases S.par n (List.of_mem_zip hy).1 with q | q
    · exact .inl q
    · exact .inr ⟨q, PySem.W.cellsFrom_some _ _ _ (.inl q)⟩
  refine codeAny_call_function hr.depth (KX _ _ lk) rfl S.co S.gen rfl (PySem.W.codeRec_of KX hcd) (hb _ _ _ _ ?_)
  refine wpAny_newFunctionEnv_cells S.kind hkind fun env he s1' x => ?_
  subst he
  refine ⟨lim.keeps x.toInCall.keep, codeAny_func ?_⟩
  let C : Lc := ⟨T, l, F0, some (.ref f), some (c, CodeO c q)⟩
  have hrd := hr.deeper (envOfC qual (defScope st) s.heap.objs.size g cdv)
  have ht := hbody C cdv A outer s H E tl rfl hgd hrd fun W pn xe p1 p2 tk => by
    refine ⟨fun pinsZ sZ σZ HZ Q2 IZ h => ?_⟩
    obtain ⟨F2, ρ, ps2, g2, ev, h⟩ := h
    simp only [fLam] at h
    split at h
    · rename_i hi
      obtain ⟨v, h1, h2, h3⟩ := ev.at_ 0 _ hi
      have h2 : some (V.ref f) = some v := h2
      cases h2
      have hc2 := (h3 c _ rfl).1
      refine wpAny_Call_Name_kw (thn ((pe_var (pos := p1) (i := 0) hN0 hva hd hcd').run pinsZ sZ σZ HZ (fun v H1 => v = .ref f ∧ H1 = HZ) IZ ⟨.ref f, h1, rfl, rfl⟩) fun u s1 ⟨v, H1, I1, r1, q1⟩ => ?_)
      obtain ⟨ev', eH⟩ := q1
      subst ev'
      rw [eH] at I1
      obtain rfl : u = Value.ref f := r1
      have un : Un (frs outer) [] H HZ s.heap s1.heap := I1.base
      obtain ⟨o1, o2, o3, o4, hof⟩ := act.obj
      refine PySem.W.callWith_F0 ⟨o1, o2, o3, o4, un.keep f _ hof act.fn act.nf (by simp)⟩ ?_
      have rc := act.run (A.deeper (envOfC qual (defScope st) s.heap.objs.size g cdv)) _ s1 HZ F2 ps2 Q2 (WE W σZ) un I1.env0 hgd (hrd.mono hjk) (G.cl (C := C) (C' := ⟨T, l, F0, none, none⟩) g2 rfl rfl g2.base) hc2 (ER.FR (C := C) (C' := ⟨T, l, F0, none, none⟩) rfl rfl (fun F' x a o e => x a o (g2.base a o e)) .refl h)
      refine wpAny_call (codeAny_mono rc fun r s' hq => ?_)
      cases r with
      | error e => exact passAt tk σZ pinsZ HZ s1 e s' I1 hq
      | ok fl =>
        cases fl with
        | ret u => exact I1.after hq
        | next => exact False.elim hq
        | brk => exact False.elim hq
        | cont => exact False.elim hq
    · exact h.elim
  have I : Inv (cxOf (L2.CX P w) P w K mg base N qual (defScope st) g cdv A outer s H E) [] (start N [.ref f]) H s1' := inv_start (ps := [a]) (us := [.ref f]) (vs := [.ref f]) S hr.hd e0 rfl (.cons rfl .nil) x
  have ev0 : EnvOk K C F1 H (start N [.ref f]) (some Ent.exc :: List.replicate (N.length - 1) none) := by
    refine ⟨?_, fun i e he => ?_, fun i j x y v hij ha hb ma => ?_⟩
    · unfold L2.start
      simp
    · cases i with
      | zero =>
        simp only [List.getElem?_cons_zero, Option.some.injEq] at he
        subst he
        exact ⟨.ref f, rfl, rfl, fun c2 o2 e2 => by
          cases e2
          refine ⟨hcc, fun z => ?_, fun ps => LamX.codeO_ne ps, fun vs z => (by unfold LamX.CodeO at z; cases z), fun vs z => (by unfold LamX.CodeO at z; cases z)⟩
          have z : l = some c := z
          cases ps with
          | none =>
            have y : l = none := g1.pot
            rw [y] at z
            cases z
          | some xy =>
            obtain ⟨a2, y1, y2, y3⟩ := (show ∃ a, l = some a ∧ F1 a = none ∧ H a = some (.lst [.int xy.1, .int xy.2]) from g1.pot)
            rw [z] at y1
            cases y1
            rw [hcc] at y3
            unfold LamX.CodeO at y3
            cases y3⟩
      | succ i =>
        rw [List.getElem?_cons_succ, List.getElem?_replicate] at he
        split at he <;> cases he
    · cases i with
      | zero =>
        simp only [List.getElem?_cons_zero, Option.some.injEq] at ha
        subst ha
        cases ma
      | succ i =>
        rw [List.getElem?_cons_succ, List.getElem?_replicate] at ha
        split at ha <;> cases ha
  have ow0 : Own0 H (start N [.ref f]) (some Ent.exc :: List.replicate (N.length - 1) none) := fun i e a2 h1 h2 h3 => by
    cases i with
    | zero =>
      simp only [List.getElem?_cons_zero, Option.some.injEq] at h1
      subst h1
      cases h2
    | succ i =>
      rw [List.getElem?_cons_succ, List.getElem?_replicate] at h1
      split at h1 <;> cases h1
  have hq' : denS K C mg (fun cls d _ H => E cls d H) (b tl) { nx := fun _ H' => Q .non H', rt := Q } (start N [.ref f]) H := by
    refine ⟨F1, H, F1, _, ps, .refl, G.cl (C := ⟨T, l, F0, none, none⟩) (C' := C) g1 rfl rfl g1.base, ev0, ow0, ?_⟩
    have gb : ∀ {F' H' : Hp} {s' : PS}, Stp C F1 H F' H' → G C F' H' s' → Stp ⟨T, l, F0, none, none⟩ F1 H F' H' ∧ G ⟨T, l, F0, none, none⟩ F' H' s' := fun p g => ⟨Stp.cl (C := C) (C' := ⟨T, l, F0, none, none⟩) rfl p, G.cl (C := C) (C' := ⟨T, l, F0, none, none⟩) g rfl rfl g.base⟩
    simp only [mkL] at hq
    cases hf : b tl (some Ent.exc :: List.replicate (N.length - 1) none) ps with
    | nx ρ s' => rw [hf] at hq; exact fun σ' F' H' p g' _ _ => hq .non F' H' (gb p g').1 (gb p g').2 .non
    | rt v s' => rw [hf] at hq; exact fun x F' H' p g' r' => hq x F' H' (gb p g').1 (gb p g').2 (Rep.cl (C := C) (C' := ⟨T, l, F0, none, none⟩) rfl r')
    | exc c2 fs ρ s' => rw [hf] at hq; exact fun A d kvs σ' F' H' hm p g' _ _ hd hr => hq A d kvs F' H' hm (gb p g').1 (gb p g').2 hd (RepF.cl (C := C) (C' := ⟨T, l, F0, none, none⟩) rfl hr)
    | bk ρ s' => rw [hf] at hq; exact hq.elim
    | ct ρ s' => rw [hf] at hq; exact hq.elim
    | stuck => rw [hf] at hq; exact hq.elim
  refine wpAny_mono (ht.run [] s1' (start N [.ref f]) H _ I hq') (fun fl s' hs => ?_) fun e s' hs => hs
  have fin : ∀ {σ' : L2.St} {H' : Hp} {v : V} {u : Value}, Inv (cxOf (L2.CX P w) P w K mg base N qual (defScope st) g cdv A outer s H E) [] σ' H' s' → RelV v u → Q v H' → CE outer P w H s Q u s' :=
    fun {σ' H' v u} J rv q => ⟨v, H', J.os, J.bare, J.base, J.hok, rv, q⟩
  cases fl with
  | ret u =>
    obtain ⟨v, σ', H', J, rv, q⟩ := hs
    exact fin J rv q
  | next =>
    obtain ⟨σ', H', J, q⟩ := hs
    exact fin (v := V.non) (u := Value.none) J rfl q
  | brk =>
    obtain ⟨_, _, _, q⟩ := hs
    exact False.elim q
  | cont =>
    obtain ⟨_, _, _, q⟩ := hs
    exact False.elim q
end

/-! ### the lambda is made (after the kit's lam_make2; here it is told, too, that no other table is made) -/
section
variable {X : Cx} {pins : List (Addr × Obj)} {σ : L2.St} {H : Hp} {s : Shared}
theorem lam_make2x {T : List (Addr × Str)} {c P : Addr} {params : Arguments} {body : Expr} {scope : Scope} {pos : Pos} {E : Value → Shared → Prop} {Q : Value → Shared → Prop} (I : Inv X pins σ H s) (TB : TabB X.base X.mg c P) (hcode : X.env.code = .ref c)
    (hm : (P, X.env.qual ++ "<lambda>") ∈ T) (hu : ∀ p ∈ T, p.1 = P → p.2 = X.env.qual ++ "<lambda>") (hT : Tabs T H) (hdef : defaultsOf params X.env = ([], [])) (hfree : ∀ y ∈ scope.names, y.2 = .free → ∃ c, X.env.cells.lookup y.1 = some c)
    (h : ∀ (f c' : Addr) (pm ctv : Value) (H1 : Hp) (s' : Shared), Inv X pins σ H1 s' → ExtN H H1 → Tabs T H1 → (∀ b ps, H1 b = some (.tbl ps) → ∃ ps', H b = some (.tbl ps')) →
      s'.heap.get? f = some (PySem.W.kla_obj "<lambda>" (X.env.qual ++ "<lambda>") params body scope (cloFrom X.env.cells scope.names []) pm c' ctv) → H1 f = none → f ∉ frs X.stack → H1 c' = some (CodeO c' (X.env.qual ++ "<lambda>")) → Q (.ref f) s') :
    wpAny (model X.prog X.w) X.A (eval (.Lambda params body scope pos) X.env) Q E s := by
  obtain ⟨ps, hP, ht, ha⟩ := hT _ hm
  refine PySem.W.kla_eval hdef ?_
  have bP : s.heap.BuiltinsAt X.mg P := TB.bm.keeps I.bk
  have hP' : s.heap.get? P = some { cls := .none, data := .fields ps } := I.hok P _ hP
  have nofr : ∀ f, s.heap.objs.size ≤ f → f ∉ frs X.stack := fun f hf z => by
    rcases List.mem_cons.mp (I.stkSub _ z) with e | e
    · have h1 := I.lt
      rw [← e] at h1
      exact Nat.lt_irrefl _ (Nat.lt_of_lt_of_le h1 hf)
    · exact I.nofs hf e
  cases hc : codeAmong pos ps.toList with
  | none =>
    refine PySem.W.kla_makeFunction (mg := X.mg) (c := c) (P := P) (ps := ps) (closure_ok hfree) I.ok.glob (I.mod.glob.keeps I.bk) hcode (TB.code.keeps I.bk) hP' ht hc TB.gP bP fun c' ctv h' tk hx hge hlt hrec htb => ?_
    obtain ⟨c2, oc, vs, t, e2, hoc, hd, hv⟩ := hrec
    cases e2
    have hsz : s.heap.objs.size ≤ h'.objs.size := Nat.le_trans hge (Nat.le_of_lt hlt)
    have nC : H c' = none := I.hok.fresh hge
    have I1 := inv_table (t' := tk) (more := #[rawInt pos.line, rawInt pos.col, .ref c']) (h' := h'.push (PySem.W.kla_obj "<lambda>" (X.env.qual ++ "<lambda>") params body scope (cloFrom X.env.cells scope.names []) ((X.mg "__name__").getD .none) c' ctv)) I hP
      (fun b o hb e => Heap.get?_push_of_some _ (hx b o hb e)) (Heap.get?_push_of_some _ htb) hge ⟨oc, vs, t, Heap.get?_push_of_some _ hoc, hd, hv⟩
    have hE : ExtN H (upd (upd H P (.tbl (ps ++ #[rawInt pos.line, rawInt pos.col, .ref c']))) c' (CodeO c' (X.env.qual ++ "<lambda>"))) := fun b o e n => by
      rw [upd_ne (ne_of_none e nC), upd_ne (fun z => n ps (Option.some.inj (e.symm.trans (by rw [z]; exact hP))))]
      exact e
    have eL : (ps ++ #[rawInt pos.line, rawInt pos.col, .ref c']).toList = ps.toList ++ [rawInt pos.line, rawInt pos.col, .ref c'] := by simp
    refine h h'.objs.size c' ((X.mg "__name__").getD .none) ctv _ _ I1 hE (fun p hp => ?_) (fun b qs e => ?_) (Heap.get?_push_size _ rfl) ?_ (nofr _ hsz) upd_same
    · by_cases hb : p.1 = P
      · rw [hu p hp hb, hb]
        refine ⟨_, by rw [upd_ne (ne_of_none hP nC), upd_same], by rw [eL]; exact PySem.TriplesOk_snoc _ _ _ _ ht, fun p' cv hcv => ?_⟩
        rw [eL] at hcv
        rcases among_app _ ht hcv with z | z
        · obtain ⟨c0, e1, e2⟩ := ha p' cv z
          exact ⟨c0, e1, hE _ _ e2 codeO_ne⟩
        · exact ⟨c', z, upd_same⟩
      · obtain ⟨ps', a1, a2, a3⟩ := hT p hp
        refine ⟨ps', by rw [upd_ne (ne_of_none a1 nC), upd_ne hb]; exact a1, a2, fun p' cv hcv => ?_⟩
        obtain ⟨c0, e1, e2⟩ := a3 p' cv hcv
        exact ⟨c0, e1, hE _ _ e2 codeO_ne⟩
    · by_cases h1 : b = c'
      · rw [h1, upd_same] at e
        exact (codeO_ne qs (Option.some.inj e)).elim
      · rw [upd_ne h1] at e
        by_cases h2 : b = P
        · exact ⟨ps, by rw [h2]; exact hP⟩
        · rw [upd_ne h2] at e
          exact ⟨qs, e⟩
    · have n1 : h'.objs.size ≠ c' := Nat.ne_of_gt hlt
      have n2 : h'.objs.size ≠ P := Nat.ne_of_gt (Nat.lt_of_lt_of_le (Heap.lt_size hP') hsz)
      rw [upd_ne n1, upd_ne n2]
      exact I.hok.fresh hsz
  | some cv =>
    obtain ⟨c', e, hco⟩ := ha pos cv hc
    subst e
    refine PySem.W.kla_makeFunctionHit (mg := X.mg) (c := c) (P := P) (ps := ps) (closure_ok hfree) I.ok.glob (I.mod.glob.keeps I.bk) hcode (TB.code.keeps I.bk) hP' ht hc bP fun ctv h' tk hx hsz => ?_
    have I1 : Inv X pins σ H { s with heap := h'.push (PySem.W.kla_obj "<lambda>" (X.env.qual ++ "<lambda>") params body scope (cloFrom X.env.cells scope.names []) ((X.mg "__name__").getD .none) c' ctv), toks := tk } := I.kept fun b o e => Heap.get?_push_of_some _ (hx b o e)
    exact h h'.objs.size c' ((X.mg "__name__").getD .none) ctv H _ I1 (ExtN.refl H) hT (fun b qs e => ⟨qs, e⟩) (Heap.get?_push_size _ rfl) (I.hok.fresh hsz) (nofr _ hsz) hco
end
/-! ### the calls -/
@[simp] def fHear (m : (PS → R PV) → PS → R PV) (fb : FE) : FE := fun ρ s => m (fun p => fb (ρ.map valO) p) s
@[simp] def fHear2 (m : (PS → R PV) → PS → R PV) (n : Nat) (fb : FE) (fa : FA) : FE := fun ρ s => (fa ρ s).bind fun xs s1 => m (fun p => fb ((startE n xs).map valO) p) s1
section
variable {X : Cx} {C : Lc} {W : WX} {x a : Str} {g c P : Addr} {j k : Nat} {fd : FuncData} {m : (PS → R PV) → PS → R PV} {params : Arguments} {body : Expr} {scope : Scope} {fb : FE} {p lpos pos : Pos}
/-- the def g, called with the lambda that is at f -/
theorem run_fnL {pins : List (Addr × Obj)} {σ : L2.St} {F H H1 : Hp} {s : Shared} {ps : PS} {Q : VK} {f c' : Addr} {q : Str} {tl : PS → R PV} (FL : FnL X.prog X.w X.K C.T X.mg X.base j k g fd a m) (hb : Binds X.K fd [a] []) (hgd : X.A.guards = some []) (hr : Room k X.A) (tk : Takes X W)
    (I : Inv X pins σ H1 s) (act : Acts X.prog X.w X.K C.T X.mg X.base j (frs X.stack) F C.l s H1 f c' q tl) (g1 : G C F H1 ps) (st : Stp C F H F H1) (hc : H1 c' = some (CodeO c' q)) (h : ER X.K C X.mg W (Rep X.K C) σ F H (m tl ps) Q) :
    wpAny (model X.prog X.w) X.A (call (.ref g) [.ref f]) (EP X pins σ Q) X.xe s := by
  have b := hb s [.ref f] I.kIn rfl
  have rc := FL.run X.A X.stack s H1 ⟨[.ref f], []⟩ Q (WE W σ) f c' q C.l F F ps tl hgd hr I.env0 b act (G.cl (C := C) (C' := ⟨C.T, C.l, F, none, none⟩) g1 rfl rfl fun _ _ z => z) hc (ER.FR (C := C) (C' := ⟨C.T, C.l, F, none, none⟩) rfl rfl (fun F' x a o e => x a o (g1.base a o e)) st h)
  refine wpAny_call (codeAny_mono rc fun r s' hq => ?_)
  cases r with
  | error e => exact passAt tk σ pins H1 s e s' I hq
  | ok fl =>
    cases fl with
    | ret u => exact I.after hq
    | next => exact False.elim hq
    | brk => exact False.elim hq
    | cont => exact False.elim hq
/-- g(lambda: body) -/
theorem pf_hear (FL : FnL X.prog X.w X.K C.T X.mg X.base j k g fd a m) (hm : X.mg x = some (.ref g)) (hk : PySem.W.keepIn X.K (.ref g) = true) (hb : Binds X.K fd [a] []) (hgd : X.A.guards = some []) (hr : Room k X.A) (tk : Takes X W)
    (TB : TabB X.base X.mg c P) (hcode : X.env.code = .ref c) (hmT : (P, X.env.qual ++ "<lambda>") ∈ C.T) (hu : ∀ p ∈ C.T, p.1 = P → p.2 = X.env.qual ++ "<lambda>")
    (hbody : ∀ (A : Around) (outer : List PySem.Env) (s1 : Shared) (HZ : Hp) (E : XK) (C' : Lc) (f c' L : Addr), C'.T = C.T → A.guards = some [] → Room j (A.deeper (lamEnv X scope L f c')) → s1.heap.objs.size = L → PFe (lamCx X A outer s1 HZ E scope f c') C' (fun cls d _ H => E cls d H) body fb)
    (L : LamS X.env.scope scope) (hdef : defaultsOf params X.env = ([], []) := by rfl) (hbind : ∀ (q : Str) (cl : List (Str × Addr)) (pm cv ctv : Value), bindArgs (PySem.W.kla_fn "<lambda>" q params body scope cl pm cv ctv) ⟨[], []⟩ = pure [] := by intro _ _ _ _ _; rfl)
    (hg : Gl X x := by rfl) (hdb : (x == ("__debug__" : Str)) = false := by decide) : PFe X C W (.Call (.Name x p) [.Lambda params body scope lpos] [] pos) (fHear m fb) := by
  refine ⟨fun pins s σ H Q I h => ?_⟩
  obtain ⟨F, ρ, ps, g0, ev, h⟩ := h
  refine wpAny_Call_Name_kw (ld_glob I hg hm ?_ hdb)
  refine PySem.W.callWith_K (h₀ := X.base) I.ok.mod.kin hk ?_ (by rfl) (by rfl)
  show wpAny _ _ (spliced ((false, eval (.Lambda params body scope lpos) X.env) :: backTo pos (starEach [] X.env))) _ _ s
  refine Calls.spliced_cons (lam_make2x I TB hcode hmT hu g0.tabs.1 hdef (L.has I.ok) fun f c' pm' ctv H1 s' I1 eN T1 tb hf hfn hfr hco => ?_)
  refine Calls.spliced_nil ⟨I1.kIn, ?_⟩
  obtain ⟨g1, st⟩ := ext_stp g0 eN T1 fun a ps e => let ⟨_, e'⟩ := tb a ps e; g0.tabs.2 a _ e'
  refine run_fnL FL hb hgd hr tk I1 (acts_of I1 (ev.stp st) L hf hfn hfr (fun _ z => z) (hbind _ _ _ _ _) fun A outer s1 HZ E C' e1 e2 e3 => hbody A outer s1 HZ E C' f c' _ e1 e2 e3 rfl) g1 st hco h
/-- g(h(e)), the def h returning a lambda -/
theorem pf_hear2 {y b : Str} {sth : Stmt} {fh : Addr} {fdh : FuncData} {Nh : List Str} {e : Expr} {fa : FA} {p2 p3 rp : Pos} (FL : FnL X.prog X.w X.K C.T X.mg X.base j k g fd a m) (hm : X.mg x = some (.ref g)) (hk : PySem.W.keepIn X.K (.ref g) = true) (hb : Binds X.K fd [a] []) (hgd : X.A.guards = some []) (hr : Room (k + 1) X.A) (tk : Takes X W)
    (FH : Fun X.K y y sth fh fdh) (S : FnScope Nh [b] (defScope sth)) (hm2 : X.mg y = some (.ref fh)) (hb2 : Binds X.K fdh [b] []) (ha : PFa X C W [e] fa)
    (TB : TabB X.base X.mg c P) (hcode : fdh.code = .ref c) (hmT : (P, y ++ ".<locals>.<lambda>") ∈ C.T) (hu : ∀ p ∈ C.T, p.1 = P → p.2 = y ++ ".<locals>.<lambda>") (hst : defBody sth = [.Return (some (.Lambda params body scope lpos)) rp])
    (hq : ∀ (L : Addr) (cdv : Value), (envOfC y (defScope sth) L fh cdv).qual ++ "<lambda>" = y ++ ".<locals>.<lambda>")
    (hbody : ∀ (A0 : Around) (outer0 : List PySem.Env) (s0 : Shared) (H0 : Hp) (A : Around) (outer : List PySem.Env) (s1 : Shared) (HZ : Hp) (E : XK) (C' : Lc) (f c' : Addr), C'.T = C.T → A.guards = some [] →
      Room j (A.deeper (lamEnv (cxOf (L2.CX X.prog X.w) X.prog X.w X.K X.mg X.base Nh y (defScope sth) fh (.ref c) A0 outer0 s0 H0 (fun _ _ _ => False)) scope s1.heap.objs.size f c')) → PFe (lamCx (cxOf (L2.CX X.prog X.w) X.prog X.w X.K X.mg X.base Nh y (defScope sth) fh (.ref c) A0 outer0 s0 H0 (fun _ _ _ => False)) A outer s1 HZ E scope f c') C' (fun cls d _ H => E cls d H) body fb)
    (L : LamS (defScope sth) scope) (hdef : ∀ env, defaultsOf params env = ([], []) := by intro _; rfl) (hbind : ∀ (q : Str) (cl : List (Str × Addr)) (pm cv ctv : Value), bindArgs (PySem.W.kla_fn "<lambda>" q params body scope cl pm cv ctv) ⟨[], []⟩ = pure [] := by intro _ _ _ _ _; rfl)
    (hlen : LenA fa 1 := by repeat constructor) (hg : Gl X x := by rfl) (hdb : (x == ("__debug__" : Str)) = false := by decide) (hg2 : Gl X y := by rfl) (hdb2 : (y == ("__debug__" : Str)) = false := by decide)
    (he : starEach [e] X.env = (false, eval e X.env) :: starEach [] X.env := by rfl) (hpl : (backTo p3 (starEach [] X.env)).any (·.1) = false := by rfl) :
    PFe X C W (.Call (.Name x p) [.Call (.Name y p2) [e] [] p3] [] pos) (fHear2 m Nh.length fb fa) := by
  refine ⟨fun pins s σ H Q I h => ?_⟩
  obtain ⟨F, ρ, ps, g0, ev, h⟩ := h
  refine wpAny_Call_Name_kw (ld_glob I hg hm ?_ hdb)
  refine PySem.W.callWith_K (h₀ := X.base) I.ok.mod.kin hk ?_ (by rfl) (by rfl)
  show wpAny _ _ (spliced ((false, eval (.Call (.Name y p2) [e] [] p3) X.env) :: backTo pos (starEach [] X.env))) _ _ s
  refine Calls.spliced_cons ?_
  refine wpAny_Call_Name_kw (ld_glob I hg2 hm2 ?_ hdb2)
  have hA : denA X.K C X.mg W fa σ H (fun vs H1 => ∃ xs F1 ps1, vs.length = 1 ∧ Stp C F H F1 H1 ∧ G C F1 H1 ps1 ∧ Reps X.K C F1 vs xs ∧ ER X.K C X.mg W (Rep X.K C) σ F1 H1 (m (fun p => fb ((startE Nh.length xs).map valO) p) ps1) Q) :=
    ⟨F, ρ, ps, g0, ev, ER.bind h fun xs s1 vs F1 H1 ex p1 g1 r1 h1 => ⟨xs, F1, s1, by rw [r1.length]; exact hlen.of ex, p1, g1, r1, h1⟩⟩
  refine PySem.W.callWith_K (h₀ := X.base) I.ok.mod.kin FH.kp (thn (ha.run p3 pins s σ H _ I hA) fun us s1 ⟨vs, H1, I1, r, xs, F1, ps1, hl, st1, g1, rx, h1⟩ => ⟨I1.kIn, ?_⟩) he hpl
  obtain ⟨oc, od, kV, doc, pm, an, cdv, ct, osl, rfl, lk, hcd⟩ := FH.ex
  have hcode : cdv = .ref c := hcode
  subst hcode
  have hul : us.length = ([b] : List Str).length := by rw [← r.length, hl]; rfl
  have hkind : ∀ z ∈ ([b] : List Str).zip us, (defScope sth).names.lookup z.1 = some .local ∨ ((defScope sth).names.lookup z.1 = some .cell ∧ ((cellsFrom (s1.heap.objs.size + 1) (defScope sth).names []).lookup z.1).isSome = true) := fun ⟨n, v⟩ hy => by
    rcases S.par n (List.of_mem_zip hy).1 with q | q
    · exact .inl q
    · exact .inr ⟨q, PySem.W.cellsFrom_some _ _ _ (.inl q)⟩
  have hbb := hb2 s1 us I1.kIn (by rw [List.append_nil]; exact hul)
  rw [List.append_nil] at hbb
  refine wpAny_call (codeAny_call_function hr.depth (I1.kIn _ _ lk) rfl S.co S.gen rfl (PySem.W.codeRec_of I1.kIn hcd) (hbb _ _ _ _ ?_))
  refine wpAny_newFunctionEnv_cells S.kind hkind fun env hen s1' x => ?_
  subst hen
  refine ⟨I1.nolimit.keeps x.toInCall.keep, codeAny_func ?_⟩
  have Ih : Inv (cxOf (L2.CX X.prog X.w) X.prog X.w X.K X.mg X.base Nh y (defScope sth) fh (.ref c) X.A X.stack s1 H1 (fun _ _ _ => False)) [] (start Nh vs) H1 s1' := inv_start S hr.hd I1.env0 hl r x
  show wpAny _ _ (execs (defBody sth) _) _ _ _
  rw [hst]
  refine wpAny_execs_cons (wpAny_Return_some ?_)
  have eq0 := hq s1.heap.objs.size (.ref c)
  refine lam_make2x (X := cxOf (L2.CX X.prog X.w) X.prog X.w X.K X.mg X.base Nh y (defScope sth) fh (.ref c) X.A X.stack s1 H1 (fun _ _ _ => False)) Ih TB rfl (by show (P, (envOfC y (defScope sth) s1.heap.objs.size fh (.ref c)).qual ++ "<lambda>") ∈ _; rw [eq0]; exact hmT) (by show ∀ p ∈ C.T, p.1 = P → p.2 = (envOfC y (defScope sth) s1.heap.objs.size fh (.ref c)).qual ++ "<lambda>"; rw [eq0]; exact hu) g1.tabs.1 (hdef _) (LamS.has (X := cxOf (L2.CX X.prog X.w) X.prog X.w X.K X.mg X.base Nh y (defScope sth) fh (.ref c) X.A X.stack s1 H1 (fun _ _ _ => False)) L Ih.ok) fun f c' pm' ctv H3 s3 I3 eN T1 tb hf hfn hfr hco => ?_
  obtain ⟨v3, H3', I3', rv3, q1, q2⟩ := I1.after (s' := s3) (Q := fun v H' => v = .ref f ∧ H' = H3) (u := .ref f) ⟨.ref f, H3, I3.os, I3.bare, I3.base, I3.hok, rfl, rfl, rfl⟩
  subst q2
  refine Calls.spliced_nil ⟨I3'.kIn, ?_⟩
  obtain ⟨g3, st3⟩ := ext_stp g1 eN T1 fun a ps e => let ⟨_, e'⟩ := tb a ps e; g1.tabs.2 a _ e'
  have ev3 : EnvOk X.K C F1 H3' (start Nh vs) (startE Nh.length xs) := (start_ok (H := H1) rx).stp st3
  exact run_fnL FL hb hgd (hr.mono (Nat.le_succ _)) tk I3' (acts_of (X := cxOf (L2.CX X.prog X.w) X.prog X.w X.K X.mg X.base Nh y (defScope sth) fh (.ref c) X.A X.stack s1 H1 (fun _ _ _ => False)) I3 ev3 L hf hfn hfr (fun b hb => by
    show b ∈ frs (envOfC y (defScope sth) s1.heap.objs.size fh (.ref c) :: X.stack)
    unfold frs
    rw [List.filterMap_cons]
    split
    · exact hb
    · exact List.mem_cons_of_mem _ hb) (hbind _ _ _ _ _) fun A outer s2 HZ E C' e1 e2 e3 => hbody X.A X.stack s1 H1 A outer s2 HZ E C' f c' e1 e2 e3) g3 st3 hco h1
/-- g(lambda: body), the scopes by their names -/
theorem pf_hearC (sc : Scope) (FL : FnL X.prog X.w X.K C.T X.mg X.base j k g fd a m) (hm : X.mg x = some (.ref g)) (hk : PySem.W.keepIn X.K (.ref g) = true) (hb : Binds X.K fd [a] []) (hgd : X.A.guards = some []) (hr : Room k X.A) (tk : Takes X W)
    (TB : TabB X.base X.mg c P) (hcode : X.env.code = .ref c) {q : Str} (hq : X.env.qual ++ "<lambda>" = q) (hmT : (P, q) ∈ C.T) (hu : ∀ p ∈ C.T, p.1 = P → p.2 = q)
    (hbody : ∀ (A : Around) (outer : List PySem.Env) (s1 : Shared) (HZ : Hp) (E : XK) (C' : Lc) (f c' L : Addr), C'.T = C.T → A.guards = some [] → Room j (A.deeper (lamEnv X scope L f c')) → s1.heap.objs.size = L → PFe (lamCx X A outer s1 HZ E scope f c') C' (fun cls d _ H => E cls d H) body fb)
    (hL : lamSB sc scope = true := by decide +kernel) (hsc : X.env.scope = sc := by rfl) (hdef : defaultsOf params X.env = ([], []) := by rfl) (hbind : ∀ (q : Str) (cl : List (Str × Addr)) (pm cv ctv : Value), bindArgs (PySem.W.kla_fn "<lambda>" q params body scope cl pm cv ctv) ⟨[], []⟩ = pure [] := by intro _ _ _ _ _; rfl)
    (hg : Gl X x := by rfl) (hdb : (x == ("__debug__" : Str)) = false := by decide) : PFe X C W (.Call (.Name x p) [.Lambda params body scope lpos] [] pos) (fHear m fb) :=
  pf_hear FL hm hk hb hgd hr tk TB hcode (by rw [hq]; exact hmT) (by rw [hq]; exact hu) hbody (by rw [hsc]; exact lamS_by hL) hdef hbind hg hdb
end
end PF
set_option Elab.async false
set_option linter.all false
set_option maxRecDepth 100000
set_option maxHeartbeats 1000000
/-! # The pot is made; the law -/
namespace PF
open PySem L2 PySem.Spec PyProof.Rows LamX

abbrev C0 (T : List (Addr × Str)) : Lc := ⟨T, none, noB, none, none⟩
/-- a def that makes the pot -/
def spP (K : PySem.W.Frag) (T : List (Addr × Str)) (n : Nat) (r : List PV → Option (Int × Int)) : Sp := fun vs H Q _ => ∃ F xs x y, G (C0 T) F H none ∧ Reps K (C0 T) F vs xs ∧ vs.length = n ∧ r xs = some (x, y) ∧
  ∀ p F' H', Stp (C0 T) F H F' H' → G (C0 T) F' H' none → H p = none → F' p = none → H' p = some (.lst [.int x, .int y]) → Q (.ref p) H'
def potL : R (List PV) → Option (Int × Int)
  | .val [.int x, .int y] none => some (x, y)
  | _ => none
def potS (fl : FA) : Out → Option (Int × Int)
  | .nx ρ none => potL (fl ρ none)
  | _ => none
def potR (n : Nat) (f1 : FS) (fl : FA) (xs : List PV) : Option (Int × Int) := potS fl (f1 (startE n xs) none)
theorem potL_inv {r : R (List PV)} {x y : Int} (h : potL r = some (x, y)) : r = .val [.int x, .int y] none := by
  unfold potL at h
  split at h
  · cases h; rfl
  · cases h
theorem potS_inv {fl : FA} {o : Out} {x y : Int} (h : potS fl o = some (x, y)) : ∃ ρ, o = .nx ρ none ∧ fl ρ none = .val [.int x, .int y] none := by
  unfold potS at h
  split at h
  · exact ⟨_, rfl, potL_inv h⟩
  · cases h
section
variable {P : Program} {w : World} {K : PySem.W.Frag} {T : List (Addr × Str)} {mg : Str → Option Value} {base : Heap}
theorem fnP_ok {x qual : Str} {st s1 : Stmt} {el : Expr} {rp : Pos} {f : Addr} {fd : FuncData} {N ps : List Str} {k : Nat} {f1 : FS} {fl : FA} (F : Fun K x qual st f fd) (S : FnScope N ps (defScope st)) (hb : defBody st = [s1, .Return (some el) rp])
    (h : ∀ (C : Lc) (cdv : Value) (A : Around) (outer : List PySem.Env) (s : Shared) (H : Hp) (E : XK), Room k (A.deeper (envOfC qual (defScope st) s.heap.objs.size f cdv)) →
      PFs (cxOf (L2.CX P w) P w K mg base N qual (defScope st) f cdv A outer s H E) C (fun cls d _ H => E cls d H) s1 f1 ∧ PFl (cxOf (L2.CX P w) P w K mg base N qual (defScope st) f cdv A outer s H E) C (fun cls d _ H => E cls d H) el fl) :
    FnOk P w K mg base (L2.CX P w) (k + 1) f fd ps (spP K T ps.length (potR N.length f1 fl)) :=
  Fun.okX F S (fun vs H Q E hs => by
    obtain ⟨F, xs, x, y, _, _, hl, _⟩ := hs
    exact hl) fun cdv A outer s H vs Q E hr hs => ⟨_, by rw [hb]; exact pss_cons (h (C0 T) cdv A outer s H E hr).1 (pss_one (ps_ret (h (C0 T) cdv A outer s H E hr).2)), by
    obtain ⟨F1, xs, x, y, g, rx, hl, hp, hq⟩ := hs
    obtain ⟨ρ, e1, e2⟩ := potS_inv hp
    refine ⟨F1, H, F1, startE N.length xs, none, .refl, g, start_ok rx, start_own, ?_⟩
    rw [e1]
    intro σ' F' H' p' g' ev' ow'
    refine ⟨F', ρ, none, g', ev', ?_⟩
    rw [e2]
    intro q vs F2 H2 p2 g2 hq0 nF hH l hr2
    obtain ⟨v, u, rfl, r1, r2⟩ := hr2.two_inv
    obtain rfl := r1.int_inv
    obtain rfl := r2.int_inv
    refine hq q F2 H2 (p'.trans p2) g2 ?_ nF hH
    cases e : H q with
    | none => rfl
    | some o =>
      obtain ⟨o', z⟩ := p'.there q o e
      rw [hq0] at z
      cases z⟩
end
@[simp] def rpR (m : Fn) : PS → Option (Int × Int) → R PV
  | none, some (x, y) => (match m [.pot] (some (x, y)) with
    | .val (.bl b) _ => .val (.bl b) none
    | _ => .stuck)
  | _, _ => .stuck
@[simp] def fRP (m : Fn) (r : List PV → Option (Int × Int)) (fa : FA) : FE := fun ρ s => (fa ρ s).bind fun xs s1 => rpR m s1 (r xs)
theorem rpR_inv {m : Fn} {s : PS} {o : Option (Int × Int)} {K : PySem.W.Frag} {C : Lc} {mg : Str → Option Value} {W : WX} {σ : L2.St} {F H : Hp} {Q : VK} (h : ER K C mg W (Rep K C) σ F H (rpR m s o) Q) :
    ∃ x y b s', s = none ∧ o = some (x, y) ∧ m [.pot] (some (x, y)) = .val (.bl b) s' ∧ ER K C mg W (Rep K C) σ F H (.val (.bl b) none) Q := by
  unfold rpR at h
  split at h
  · rename_i x y
    split at h
    · rename_i b s' e
      exact ⟨x, y, b, s', rfl, rfl, e, h⟩
    · exact h.elim
  · exact h.elim
section
variable {X : Cx} {C : Lc} {W : WX} {x y : Str} {g fp : Addr} {k kp : Nat} {fd fdp : FuncData} {pr : Str} {psp : List Str} {m : Fn} {r : List PV → Option (Int × Int)} {e : Expr} {es : List Expr} {fa : FA} {p p2 p3 pos : Pos}
/-- g(h(..)): h makes the pot, g works with it -/
theorem pf_pot (FG : FnG X.prog X.w X.K C.T X.mg X.base k g fd [pr] m) (hm : X.mg x = some (.ref g)) (hk : PySem.W.keepIn X.K (.ref g) = true) (hb : Binds X.K fd [pr] []) (hgd : X.A.guards = some []) (hr : Room k X.A) (tk : Takes X W)
    (FP : FnOk X.prog X.w X.K X.mg X.base (L2.CX X.prog X.w) kp fp fdp psp (spP X.K C.T psp.length r)) (hrp : Room kp X.A) (hm2 : X.mg y = some (.ref fp)) (hk2 : PySem.W.keepIn X.K (.ref fp) = true) (hb2 : Binds X.K fdp psp []) (ha : PFa X C W (e :: es) fa)
    (hlen : LenA fa psp.length := by repeat constructor) (hg : Gl X x := by rfl) (hdb : (x == ("__debug__" : Str)) = false := by decide) (hg2 : Gl X y := by rfl) (hdb2 : (y == ("__debug__" : Str)) = false := by decide)
    (he : starEach (e :: es) X.env = (false, eval e X.env) :: starEach es X.env := by rfl) (hpl : (backTo p3 (starEach es X.env)).any (·.1) = false := by rfl)
    (he2 : starEach [.Call (.Name y p2) (e :: es) [] p3] X.env = (false, eval (.Call (.Name y p2) (e :: es) [] p3) X.env) :: starEach [] X.env := by rfl) (hpl2 : (backTo pos (starEach [] X.env)).any (·.1) = false := by rfl) :
    PFe X C W (.Call (.Name x p) [.Call (.Name y p2) (e :: es) [] p3] [] pos) (fRP m r fa) := by
  refine ⟨fun pins s σ H Q I h => ?_⟩
  obtain ⟨F, ρ, ps, g0, ev, h⟩ := h
  refine wpAny_Call_Name_kw (ld_glob I hg hm ?_ hdb)
  have inner := pa_cons (pe_call (E := fun _ _ _ => False) (p := p2) (pos := p3) FP hrp hg2 hm2 hk2 hb2 .nil passL ha hdb2 he hpl) pa_nil he2
  refine PySem.W.callWith_K (h₀ := X.base) I.ok.mod.kin hk (thn (inner.run pos pins s σ H (fun vs H1 => vs.length = ([pr] : List Str).length ∧ spFn X.K C.T X.mg ([pr] : List Str).length m vs H1 Q (WE W σ)) I ?_) fun us s1 ⟨vs, H1, I1, r1, q1⟩ => ⟨I1.kIn, ?_⟩) he2 hpl2
  · refine ⟨F, ρ, ps, g0, ev, ER.bind h fun xs s1 vs F1 H1 ex p1 g1 r1 h1 => ?_⟩
    obtain ⟨x0, y0, b, s', es1, eo, em, h2⟩ := rpR_inv h1
    subst es1
    have lC : C.l = none := g1.pot
    refine ⟨F1, xs, x0, y0, G.cl (C := C) (C' := C0 C.T) g1 lC rfl noB_ex, by rw [List.append_nil]; exact Reps.cl (C := C) (C' := C0 C.T) lC r1, by rw [List.append_nil, r1.length]; exact hlen.of ex, eo, fun q F2 H2 p2 g2 nH nF hH => ⟨rfl, rfl, some q, F2, some (x0, y0), [.pot], ⟨g2.ex, ⟨q, rfl, nF, hH⟩, g2.tabs, g2.ftab, noB_ex⟩, .cons (.pot rfl) .nil, ?_⟩⟩
    rw [em]
    intro v F3 H3 p3 g3 r3
    have r3' := r3.bl_inv
    subst r3'
    have st : Stp C F1 H1 F3 H3 := {
      ex := fun a o z => p3.ex a o (p2.ex a o z)
      keep := fun a o z n t => p3.keep a o (p2.keep a o z (fun w => by cases w) t) (fun w => by
        have w : some q = some a := w
        cases w
        rw [nH] at z
        cases z) t
      there := fun a o z => by
        obtain ⟨o', z'⟩ := p2.there a o z
        exact p3.there a o' z'
      new := fun a o z n => by
        cases e1 : F2 a with
        | some u => exact p2.new a u e1 n
        | none =>
          have w := p3.new a o z e1
          cases e2 : H1 a with
          | none => rfl
          | some u =>
            obtain ⟨o', z'⟩ := p2.there a u e2
            rw [w] at z'
            cases z' }
    exact h2 (.bl b) F3 H3 st ⟨g3.ex, lC, g3.tabs, g3.ftab, fun a o z => st.ex a o (g1.base a o z)⟩ (.bl b)
  · have b := hb s1 us I1.kIn (by rw [List.append_nil, ← r1.length]; exact q1.1)
    rw [List.append_nil] at b
    exact run_fnG (args := ⟨us, []⟩) FG hgd hr tk I1 b r1 q1.2
end
/-! ### the law's call -/
/-- the law is called (after the kit's law_callTs: here it is told, too, that nothing is within a repr and that no other table is known) -/
theorem law_callTg {P : Program} {w : World} {K : PySem.W.Frag} {mg mb : Str → Option Value} {k : Nat} {T : List (Addr × Str)} {m : Fn} {fa a : Addr} {cs : List (Addr × Addr)} {fd : FuncData} {x : Str} {s₁ : Shared} {vs : List Value} {ns : List Int}
    (KX : K.In s₁.heap) (hns : s₁.heap.Ns mainGlobals mg) (hb : s₁.heap.Ns builtinsNs mb) (hbb : ∀ x : Str, x ≠ "__name__" → mb x = bootBuiltins x) (hlim : s₁.heap.NoLimit) (hg : s₁.gens = #[])
    (hT : ∀ p ∈ cs, s₁.heap.get? p.2 = some { cls := .none, data := .fields #[] }) (nT : ∀ p ∈ cs, K.lookup p.2 = none) (C : ∀ p ∈ cs, PySem.W.CodeHd s₁.heap p.1 p.2)
    (hbm : ∃ (bm : Addr) (ob : Obj), mg "__builtins__" = some (.ref bm) ∧ bm ≠ builtinsNs ∧ s₁.heap.get? bm = some ob ∧ ob.cls = .type "module" ∧ ob.dict = some builtinsNs ∧ ob.data = .plain)
    (ha : s₁.heap.get? a = some { cls := .type "list", data := .seq vs.toArray }) (hi : IntsAre vs ns) (hl : ns.length ≤ sizeLine) (hr : Room k callerA)
    (F : ∀ base : Heap, K.In base → base.Ns mainGlobals mg → (∀ p ∈ cs, TabB base mg p.1 p.2) → FnG P w K T mg base k fa fd [x] m) (hbind : ∀ (s : Shared) (u : Value), BindsTo s fd ⟨[u], []⟩ [(x, u)])
    (hTc : T.map (·.1) = cs.map (·.2)) (hm : ∃ s, m [.scr ns] none = .val (.bl true) s) :
    codeAny (model P w) callerA (.call (.ref fa) ⟨[.ref a], []⟩) (fun r s' => r = .ok (.ret (.bool true)) ∧ OldK s₁.heap s'.heap ∧ s'.os = s₁.os ∧ AllBare s'.gens) s₁ := by
  have rv := vals_ints hi
  have lenV := hi.length
  have isT : ∀ b : Addr, b ∈ cs.map (·.2) → s₁.heap.get? b = some { cls := .none, data := .fields #[] } := fun b hb => by
    obtain ⟨p, hp, e⟩ := List.mem_map.mp hb
    rw [← e]
    exact hT p hp
  have aT : a ∉ cs.map (·.2) := fun z => by
    have q := isT a z
    rw [ha] at q
    have z' : Data.seq vs.toArray _ = Data.fields #[] := congrArg Obj.data (Option.some.inj q)
    cases z'
  have memT : ∀ p ∈ cs, p.2 ∈ cs.map (·.2) := fun p hp => List.mem_map.mpr ⟨p, hp, rfl⟩
  have hsp : ∀ H : Hp, (∀ p ∈ cs, H p.2 = some (.tbl #[])) → (∀ b ps, H b = some (.tbl ps) → b ∈ cs.map (·.2)) → SqL K H a (ns.map V.int) → spFn K T mg ([x] : List Str).length m [.ref a] H (fun v _ => v = .bl true) (fun _ _ _ => False) := fun H hH hTb hS => by
    have tb : ∀ p ∈ T, H p.1 = some (.tbl #[]) := fun p hp => by
      have z : p.1 ∈ cs.map (·.2) := by rw [← hTc]; exact List.mem_map_of_mem hp
      obtain ⟨c, hc, e⟩ := List.mem_map.mp z
      rw [← e]
      exact hH c hc
    let F : Hp := fun b => if b ∈ cs.map (·.2) then none else H b
    have eF : ∀ b, b ∉ cs.map (·.2) → F b = H b := fun b nb => if_neg nb
    have hSF : SqL K F a (ns.map V.int) := by
      rcases hS with (h | ⟨o, h⟩) | h
      · exact .inl (.inl (by rw [eF a aT]; exact h))
      · exact .inl (.inr ⟨o, by rw [eF a aT]; exact h⟩)
      · exact .inr h
    obtain ⟨s, hm⟩ := hm
    refine ⟨rfl, none, F, none, [.scr ns], ⟨fun b o e => ?_, rfl, ⟨fun p hp => TabS.nil (tb p hp), fun b ps e => by rw [hTc]; exact hTb b ps e⟩, fun b ps e => ?_, noB_ex⟩, .cons (.scr hSF) .nil, ?_⟩
    · by_cases nb : b ∈ cs.map (·.2)
      · have z : (if b ∈ cs.map (·.2) then none else H b) = some o := e
        rw [if_pos nb] at z
        cases z
      · rw [eF b nb] at e
        exact e
    · by_cases nb : b ∈ cs.map (·.2)
      · have z : (if b ∈ cs.map (·.2) then none else H b) = some (.tbl ps) := e
        rw [if_pos nb] at z
        cases z
      · rw [eF b nb] at e
        exact nb (hTb b ps e)
    · rw [hm]
      intro v F' H' p g r
      exact r.bl_inv
  -- from an abstract heap in which nothing but the script and the tables may be tracked
  have core : ∀ H : Hp, (∀ p ∈ cs, H p.2 = some (.tbl #[])) → (∀ b, H b = none ∨ b ∈ cs.map (·.2) ∨ ∃ o xs, H b = some (.frz o (.lst xs))) → SqL K H a (ns.map V.int) → HOk P w H s₁.heap → (∀ b, H b ≠ none → b = a ∨ b ∈ cs.map (·.2)) → (H a ≠ none → K.lookup a = none) → (∀ b ps, H b = some (.tbl ps) → b ∈ cs.map (·.2)) →
      codeAny (model P w) callerA (.call (.ref fa) ⟨[.ref a], []⟩) (fun r s' => r = .ok (.ret (.bool true)) ∧ OldK s₁.heap s'.heap ∧ s'.os = s₁.os ∧ AllBare s'.gens) s₁ := by
    intro H hH hO hS hok hA hK hTb
    have base_of : ∀ {b : Addr} {o : Obj}, s₁.heap.get? b = some o → H b = none → (hidT s₁.heap H).get? b = some o := fun e n => hidT_get e n
    have noD : ∀ {b : Addr} {o : Obj}, s₁.heap.get? b = some o → (∀ vs n, o.data ≠ .seq vs n) → o.data ≠ .fields #[] → H b = none := fun {b o} e h1 h2 => by
      cases q : H b with
      | none => rfl
      | some u =>
        rcases hA b (by rw [q]; simp) with e' | e'
        · rw [e', ha] at e
          cases e
          exact (h1 _ _ rfl).elim
        · rw [isT b e'] at e
          cases e
          exact (h2 rfl).elim
    have noA : ∀ {b : Addr} {o : Obj} {es : Array DictEntry} {ep : Nat}, s₁.heap.get? b = some o → o.data = .dict es ep → H b = none := fun {b o es ep} e d => by
      refine noD e (fun vs n z => ?_) fun z => ?_
      · rw [d] at z
        cases z
      · rw [d] at z
        cases z
    have nsK : ∀ {b : Addr} {m : Str → Option Value}, s₁.heap.Ns b m → (hidT s₁.heap H).Ns b m := fun {b m} ⟨o, es, ep, e, d, r⟩ => ⟨o, es, ep, base_of e (noA e d), d, r⟩
    have hKb : K.In (hidT s₁.heap H) := fun b o e => base_of (KX b o e) (by
      cases q : H b with
      | none => rfl
      | some u =>
        rcases hA b (by rw [q]; simp) with e' | e'
        · rw [e'] at e q
          rw [hK (by rw [q]; simp)] at e
          cases e
        · obtain ⟨p, hp, ep⟩ := List.mem_map.mp e'
          rw [← ep, nT p hp] at e
          cases e)
    have hM : L2.Mod K mg (hidT s₁.heap H) := ⟨hKb, nsK hns, ⟨mb, nsK hb, hbb⟩, let ⟨mc, h1, h2⟩ := hlim; ⟨mc, nsK h1, h2⟩⟩
    have TB : ∀ p ∈ cs, TabB (hidT s₁.heap H) mg p.1 p.2 := fun p hp => by
      have hTp := hT p hp
      refine ⟨?_, ?_, fun z => ?_⟩
      · obtain ⟨o, us, file, tf, flags, tg, inF, text, tt, e1, r1, r2, r3, r4, r5, r6, r7, r8, hne⟩ := C p hp
        refine ⟨o, us, file, tf, flags, tg, inF, text, tt, base_of e1 (noD e1 (fun vs n z => ?_) fun z => ?_), r1, r2, r3, r4, r5, r6, r7, r8, hne⟩
        · rw [r2] at z
          cases z
        · rw [r2] at z
          cases z
          simp at r3
      · obtain ⟨bm, ob, b1, b2, b3, b4, b5, b6⟩ := hbm
        have nG : bm ≠ mainGlobals := fun q => by
          obtain ⟨o, es, ep, e, hd, _⟩ := hns
          rw [q, e] at b3
          cases b3
          rw [hd] at b6
          cases b6
        have nP : bm ≠ p.2 := fun q => by
          rw [q, hTp] at b3
          cases b3
          cases b6
        refine ⟨bm, ob, b1, b2, nG, nP, base_of b3 (noD b3 (fun vs n z => ?_) fun z => ?_), b4, b5, b6⟩
        · rw [b6] at z
          cases z
        · rw [b6] at z
          cases z
      · obtain ⟨o, es, ep, e, hd, _⟩ := hns
        rw [z, hTp] at e
        cases e
        cases hd
    have e0 : Env0 P w K mg (hidT s₁.heap H) callerA [] s₁ H := ⟨rfl, hM, fun b o e => of_hidT e, Nat.le_of_eq (hidT_size _ _), trivial, fun b hb => absurd (show b ∈ ([] : List Addr) from hb) (by simp), hok, .of_eq hg⟩
    refine codeAny_mono ((F _ hKb (nsK hns) TB).run callerA [] s₁ H ⟨[.ref a], []⟩ [.ref a] [.ref a] (fun v _ => v = .bl true) (fun _ _ _ => False) rfl hr e0 (hbind s₁ (.ref a)) (.cons rfl .nil) (hsp H hH hTb hS)) fun r s' h => ?_
    cases r with
    | error e =>
      obtain ⟨_, _, _, _, _, _, _, _, _, _, _, _, z⟩ := h
      exact z.elim
    | ok fl =>
      cases fl with
      | next => exact False.elim h
      | brk => exact False.elim h
      | cont => exact False.elim h
      | ret u =>
        obtain ⟨v, H', os, bare, un, hok', r', q⟩ := h
        have q' : v = .bl true := q
        subst q'
        obtain rfl : u = Value.bool true := r'
        have key : ∀ b o, b ∉ cs.map (·.2) → s₁.heap.get? b = some o → s'.heap.get? b = some o := fun b o nb e => by
          cases q : H b with
          | none => exact un.keep b o e q (by intro z; exact absurd (show b ∈ ([] : List Addr) from z) (by simp)) (by simp)
          | some u =>
            rcases hO b with z | z | ⟨ob, xs, z⟩
            · rw [q] at z; cases z
            · exact absurd z nb
            · have z2 := un.frzs b ob _ z
              obtain ⟨e1, _⟩ := hok b _ z
              obtain ⟨e2, _⟩ := hok' b _ z2
              rw [e] at e1; cases e1
              exact e2
        have grown : ∀ p ∈ cs, ∃ more : Array Value, s'.heap.get? p.2 = some { cls := .none, data := .fields more } := fun p hp => by
          obtain ⟨more, z⟩ := un.tbls p.2 #[] (hH p hp)
          exact ⟨_, hok' p.2 _ z⟩
        refine ⟨rfl, ⟨fun b o e => ?_, fun b o e => ?_⟩, os, bare⟩
        · by_cases hb : b ∈ cs.map (·.2)
          · obtain ⟨p, hp, ep⟩ := List.mem_map.mp hb
            obtain ⟨more, hm⟩ := grown p hp
            rw [← ep] at e ⊢
            rw [hT p hp] at e
            cases e
            exact .inr (.inl ⟨((C p hp).tab (hT p hp)).isCodeTable, rfl, #[], more, rfl, by rw [Array.empty_append]; exact hm⟩)
          · exact .inl (key b o hb e)
        · by_cases hb : b ∈ cs.map (·.2)
          · obtain ⟨p, hp, ep⟩ := List.mem_map.mp hb
            obtain ⟨more, hm⟩ := grown p hp
            rw [← ep]
            exact ⟨_, hm⟩
          · exact ⟨o, key b o hb e⟩
  cases hk : K.lookup a with
  | some o =>
    have e := KX a o hk
    rw [ha] at e
    cases e
    refine core (fun b => if b ∈ cs.map (·.2) then some (.tbl #[]) else none) (fun p hp => if_pos (memT p hp)) (fun b => ?_) (.inr ⟨_, vs.toArray, _, hk, rfl, rfl, rfl, by rw [List.size_toArray, lenV]; exact hl, by simpa using rv⟩) (fun b u z => ?_) (fun b z => ?_) (fun z => absurd (show (if a ∈ cs.map (·.2) then some (HO.tbl #[]) else none) = none from if_neg aT) z) (fun b ps z => ?_)
    · by_cases hb : b ∈ cs.map (·.2)
      · exact .inr (.inl hb)
      · exact .inl (if_neg hb)
    · by_cases hb : b ∈ cs.map (·.2)
      · have z' := (if_pos hb).symm.trans z
        cases z'
        exact isT b hb
      · have z' := (if_neg hb).symm.trans z
        cases z'
    · by_cases hb : b ∈ cs.map (·.2)
      · exact .inr hb
      · exact absurd (if_neg hb) z
    · by_cases hb : b ∈ cs.map (·.2)
      · exact hb
      · have z' := (if_neg hb).symm.trans z
        cases z'
  | none =>
    refine core (fun b => if b = a then some (.frz { cls := .type "list", data := .seq vs.toArray } (.lst (ns.map V.int))) else if b ∈ cs.map (·.2) then some (.tbl #[]) else none) (fun p hp => (if_neg (show ¬ p.2 = a from fun z => aT (by rw [← z]; exact memT p hp))).trans (if_pos (memT p hp))) (fun b => ?_)
      (.inl (.inr ⟨{ cls := .type "list", data := .seq vs.toArray }, if_pos rfl⟩)) (fun b u z => ?_) (fun b z => ?_) (fun _ => hk) (fun b ps z => ?_)
    · by_cases hb : b = a
      · exact .inr (.inr ⟨_, _, if_pos hb⟩)
      · by_cases hb2 : b ∈ cs.map (·.2)
        · exact .inr (.inl hb2)
        · exact .inl ((if_neg hb).trans (if_neg hb2))
    · by_cases hb : b = a
      · have z' := (if_pos hb).symm.trans z
        cases z'
        rw [hb]
        exact ⟨ha, by rw [List.length_map]; exact hl, vs, _, rv, ha⟩
      · have z1 := (if_neg hb).symm.trans z
        by_cases hb2 : b ∈ cs.map (·.2)
        · have z' := (if_pos hb2).symm.trans z1
          cases z'
          exact isT b hb2
        · have z' := (if_neg hb2).symm.trans z1
          cases z'
    · by_cases hb : b = a
      · exact .inl hb
      · by_cases hb2 : b ∈ cs.map (·.2)
        · exact .inr hb2
        · exact absurd ((if_neg hb).trans (if_neg hb2)) z
    · by_cases hb : b ∈ cs.map (·.2)
      · exact hb
      · by_cases hb2 : b = a
        · have z' := (if_pos hb2).symm.trans z
          cases z'
        · have z' := ((if_neg hb2).trans (if_neg hb)).symm.trans z
          cases z'

def LawG (l : PySem.W.OpenLaw) (w : World) (K : PySem.W.Frag) (k n : Nat) (x : Str) (mg : Str → Option Value) (fa : Addr) (h : Heap) : Prop :=
  ∃ (fd : FuncData) (cs : List (Addr × Addr)) (T : List (Addr × Str)) (m : Fn), (∀ p ∈ cs, h.get? p.2 = some { cls := .none, data := .fields #[] }) ∧ (∀ p ∈ cs, K.lookup p.2 = none) ∧ (∀ p ∈ cs, PySem.W.CodeHd h p.1 p.2) ∧ (∀ (s : Shared) (u : Value), BindsTo s fd ⟨[u], []⟩ [(x, u)]) ∧
    T.map (·.1) = cs.map (·.2) ∧ (∀ ns : List Int, ns.length ≤ n → (∀ z ∈ ns, Builtin.Int.intBits z ≤ 1048576) → ∃ s, m [.scr ns] none = .val (.bl true) s) ∧
    ∀ base : Heap, K.In base → base.Ns mainGlobals mg → (∀ p ∈ cs, TabB base mg p.1 p.2) → FnG l.prog w K T mg base k fa fd [x] m
theorem walk_ofG {l : PySem.W.OpenLaw} {n k : Nat} {q : Program} {loose : List Str} {XP : (Str → Option Value) → Heap → Prop} {YP : World → Heap → Prop} {d : DefRec} {K : Params → PySem.W.Frag} {x : Str}
    (hn : l.most = some n) (hn2 : n ≤ sizeLine) (hdf : d.params.defaults = []) (hr : Room k callerA) (hY : ∀ (w : World) (h : Heap), YP w h → (K w.params).In h)
    (F : ∀ (w : World) (mg : Str → Option Value) (fa : Addr) (h : Heap), YP w h → (K w.params).In h → h.Ns mainGlobals mg → mg d.name = some (.ref fa) → LawG l w (K w.params) k n x mg fa h) :
    PySem.W.WalkO q loose XP YP l.row.toRowW d [] (fun f vs => PySem.call f vs) := by
  refine Att.attach_callB hn hdf fun w s₀ s₁ mg mb fa o pm cd doc a vs ns G Y ho hd hcd hmg hobj hints hlen hbits hg => ?_
  have KX := hY w _ Y
  obtain ⟨fd, cs, T, m, hT, nT, C, hb, hTc, hm, hF⟩ := F w mg fa _ Y KX G.T.g hmg
  exact law_callTg KX G.T.g G.T.b G.T.builtins G.T.nolimit hg hT nT C G.T.bmain hobj hints (Nat.le_trans hlen hn2) hr hF hb hTc (hm ns hlen hbits)
end PF
set_option Elab.async false
set_option linter.all false
set_option maxRecDepth 100000
set_option maxHeartbeats 1000000
/-! # What the top has left -/
namespace PF
open PySem L2 PySem.Spec PyProof.Rows LamX

def mkE (w : World) (e : Str × Tok × Value) : DictEntry := ⟨PyData.keyHash w.params e.1, .str e.1 e.2.1, e.2.2⟩
theorem find_mkE {w : World} {z : Str} : ∀ es : List (Str × Tok × Value), (es.map (mkE w)).find? (·.key.isStr z) = (es.find? fun e => decide (e.1 = z)).map (mkE w)
  | [] => rfl
  | e :: r => by
    rw [List.map_cons, List.find?_cons, List.find?_cons, find_mkE r]
    have h : (mkE w e).key.isStr z = decide (e.1 = z) := by
      show Value.isStr (.str e.1 e.2.1) z = _
      unfold Value.isStr
      by_cases h : e.1 = z
      · simp [h]
      · simp [h]
    rw [h]
    cases decide (e.1 = z) <;> rfl
theorem noref_mkE {w : World} : ∀ es : List (Str × Tok × Value), (es.map (mkE w)).any (·.refKey) = false
  | [] => rfl
  | e :: r => by
    rw [List.map_cons, List.any_cons, noref_mkE r]
    rfl
theorem nsIn_mkE {K : PySem.W.Frag} {w : World} {d : Addr} {n : Nat} {es : List (Str × Tok × Value)} {z : Str} (lk : K.lookup d = some ⟨.type "dict", none, .dict (es.map (mkE w)).toArray n, #[]⟩) : PySem.W.nsIn K d z = some ((es.find? fun e => decide (e.1 = z)).map (·.2.2)) := by
  unfold PySem.W.nsIn
  rw [lk]
  show (match (es.map (mkE w)).find? (·.key.isStr z) with
      | some e => some (some e.val)
      | none => if (es.map (mkE w)).any (·.refKey) then none else some none) = _
  rw [find_mkE, noref_mkE]
  cases es.find? fun e => decide (e.1 = z) <;> rfl
theorem lit_mkE {w : World} : ∀ es : List (Str × Tok × Value), PySem.W.KeysLit w.params (es.map (mkE w))
  | [] => trivial
  | e :: r => ⟨⟨e.1, e.2.1, rfl, rfl⟩, lit_mkE r⟩
theorem pair_find {K : PySem.W.Frag} {z : Str} : ∀ {es : List (Str × Tok × Value)} {kvs : List (Str × PV)}, Paired (fun e p => e.1 = p.1 ∧ ∃ v, RelV v e.2.2 ∧ ∀ C F, Rep K C F v p.2) es kvs →
    (∀ x, getS kvs z = some x → ∃ u v, (es.find? fun e => decide (e.1 = z)).map (·.2.2) = some u ∧ RelV v u ∧ ∀ C F, Rep K C F v x) ∧ (getS kvs z = none → (es.find? fun e => decide (e.1 = z)).map (·.2.2) = none)
  | _, _, .nil => ⟨fun x h => (nomatch (show (none : Option PV) = some x from h)), fun _ => rfl⟩
  | _, _, .cons (a := e) (b := p) h r => by
    obtain ⟨h1, v, h2, h3⟩ := h
    unfold getS
    rw [List.find?_cons, List.find?_cons, h1]
    by_cases q : p.1 = z
    · simp only [q, decide_true]
      exact ⟨fun x hx => ⟨_, v, rfl, h2, by cases hx; exact h3⟩, fun z => (nomatch z)⟩
    · simp only [q, decide_false]
      exact pair_find r
theorem gdict_of {K : PySem.W.Frag} {w : World} {d : Addr} {n : Nat} {es : List (Str × Tok × Value)} {kvs : List (Str × PV)} (lk : K.lookup d = some ⟨.type "dict", none, .dict (es.map (mkE w)).toArray n, #[]⟩) (low : (d == sysModules) = false)
    (h : Paired (fun e p => e.1 = p.1 ∧ ∃ v, RelV v e.2.2 ∧ ∀ C F, Rep K C F v p.2) es kvs) : GDict K w d kvs where
  ex := ⟨_, n, lk, lit_mkE es⟩
  low := low
  get := fun z x hx => by
    obtain ⟨u, v, h1, h2, h3⟩ := (pair_find (z := z) h).1 x hx
    exact ⟨u, v, by rw [nsIn_mkE lk, h1], h2, h3⟩
  miss := fun z hz => by rw [nsIn_mkE lk, (pair_find (z := z) h).2 hz]
/-- a written tuple of ints -/
theorem tup_ints {K : PySem.W.Frag} {C : Lc} {F : Hp} {a : Addr} {od : Option Addr} {n : Nat} {sl : Array (Option Value)} (its : List (Int × Tok)) (lk : K.lookup a = some ⟨.type "tuple", od, .seq (its.map fun p => Value.int p.1 p.2).toArray n, sl⟩) (hz : its.length ≤ 1000) : Rep K C F (.ref a) (.tup (its.map fun p => .int p.1)) := by
  refine .tup (vs := its.map fun p => V.int p.1) (.inr ⟨_, _, n, lk, rfl, rfl, ?_, ?_⟩) ?_
  · rw [List.size_toArray, List.length_map, sizeLine_eq]
    omega
  · show Vals _ (its.map fun p => Value.int p.1 p.2)
    clear lk hz
    induction its with
    | nil => exact .nil
    | cons p r ih => exact .cons ⟨p.2, rfl⟩ ih
  · clear lk hz
    induction its with
    | nil => exact .nil
    | cons p r ih => exact .cons (.int _) ih
theorem setOk_VE {l : List Value} (h : PySem.HandSPX.refsVE l = true) : PFX.SetOk l := ⟨PySem.HandSPX.refsVE_ne h, (PySem.HandSPX.refsVE_contains "object" _ h).trans (by decide +kernel), fun self => PySem.HandSPX.refsVE_pass self _ h⟩
theorem setOk_ref {c : Addr} {l : List Value} (h : PFX.SetOk l) : PFX.SetOk (.ref c :: l) := ⟨rfl, by rw [List.contains_cons, h.ob, Bool.or_true], fun self => by rw [refuseLoop_ref]; exact h.pass self⟩
theorem setOk_VE0 : PFX.SetOk [.type "ValueError", .type "Exception", .type "BaseException", .type "object"] := ⟨rfl, by decide +kernel, fun self => F.store_ValueError.passes self⟩
theorem setOk_AE0 : PFX.SetOk [.type "ArithmeticError", .type "Exception", .type "BaseException", .type "object"] := ⟨rfl, by decide +kernel, fun self => F.store_ArithmeticError.passes self⟩
theorem oexG_of {K : PySem.W.Frag} {C : Addr} {nm q : Str} {N : Addr} {bs bm : List Value} {sn : List Str} {sub : List Value} {ab : Bool} {col : Option Bool} {dd : Option Addr} {k0 k1 k2 k3 k5 : Option Value} {Bn newId initId : String} {bmB : List Value} (F : ExcBaseFacts Bn newId initId bmB)
    (lk : K.lookup C = some (excClassObj nm q C N bs bm true sn sub ab col dd k0 k1 k2 k3 k5 newId)) (hT : ∀ X : String, bm.contains (.type X) = bmB.contains (.type X)) (hs : PFX.SetOk (.ref C :: bm)) (sa : PySem.W.findIn K (.ref C) "__setattr__" = some (some (.builtin "object.__setattr__")))
    (e : PySem.W.subIn K (.ref C) (.type "BaseException") = some true) (t : PySem.W.typeIn K (.ref C) = some (.type "type")) (k : PySem.W.keepIn K (.ref C) = true) : OexG K C := ⟨⟨nm, q, N, bs, bm, sn, sub, ab, col, dd, k0, k1, k2, k3, k5, Bn, newId, initId, bmB, F, lk, hT, hs⟩, sa, e, t, k⟩
theorem bindsK_of {K : PySem.W.Frag} {x qual : Str} {st : Stmt} {f : Addr} {fd : FuncData} {ps ks : List Str} {pm : List Nat} (F : Fun K x qual st f fd)
    (h : ∀ (kV doc pmv : Value) (an : Option Addr) (cdv ct : Value) (ws : List Value), ws.length = ks.length → bindArgs (PySem.W.fnOf x qual (defArgs st) (defBody st) (defScope st) .none kV doc pmv an cdv ct) ⟨[], ks.zip ws⟩ = pure (ps.zip (permU pm ws))) : BindsK K fd ps ks pm := by
  obtain ⟨oc, od, kV, doc, pmv, an, cdv, ct, osl, rfl, lk, hcd⟩ := F.ex
  exact fun s ws _ hl => .of_eq (h kV doc pmv an cdv ct ws hl)
end PF
set_option Elab.async false
set_option linter.all false
set_option maxRecDepth 100000
set_option maxHeartbeats 2000000
namespace W38
open PySem L2 PF PySem.Spec PyProof.Rows
def fuel : Nat := 2 ^ 150
def top (i : Nat) : Stmt := PySem.Challenge.pw_tollfloors_k38_whole_told_words_of_matri.main.body.getD i (.Pass ⟨0, 0, 0, 0⟩)
abbrev s_is_integer : Stmt := top 7
abbrev s_want_at_most : Stmt := top 8
abbrev s_is_matrix : Stmt := top 12
abbrev s_is_small_matrix : Stmt := top 13
abbrev s_check_matrix : Stmt := top 14
abbrev s_product_by : Stmt := top 15
abbrev s_inverse_by : Stmt := top 16
abbrev s_product : Stmt := top 17
abbrev s_inverse : Stmt := top 18
abbrev s_is_moves_of : Stmt := top 24
abbrev s_check_moves : Stmt := top 25
abbrev s_matrix_by : Stmt := top 26
abbrev s_turned_moves_by : Stmt := top 27
abbrev s_noted : Stmt := top 28
abbrev s_shears : Stmt := top 29
abbrev s_pieces_of : Stmt := top 30
abbrev s_length_by : Stmt := top 31
abbrev s_told_word_by : Stmt := top 32
abbrev s_is_moves : Stmt := top 33
abbrev s_matrix_of : Stmt := top 34
abbrev s_turned_moves : Stmt := top 35
abbrev s_told_word : Stmt := top 36
abbrev s_length : Stmt := top 37
abbrev s__law_pot : Stmt := top 39
abbrev s__law_draw : Stmt := top 40
abbrev s__law_pick : Stmt := top 41
abbrev s__law_turned_moves : Stmt := top 42
abbrev s__law_product : Stmt := top 43
abbrev s__law_matrix_of : Stmt := top 44
abbrev s__law_moves : Stmt := top 45
abbrev s__law_told : Stmt := top 46
abbrev s__law_heard : Stmt := top 47
abbrev s__law_matrix_right : Stmt := top 48
abbrev s__law_word_right : Stmt := top 49
abbrev s__law_by_notes : Stmt := top 50
abbrev s__law_right : Stmt := top 51
abbrev s__law_asking : Stmt := top 52
abbrev s_law : Stmt := top 53
abbrev s_init_FloorError : Stmt := inClass (top 1) 0
abbrev s_init_TooMany : Stmt := inClass (top 5) 0
def k_MATRICES : List (Str × PV) := [("t", .tup [.int 1, .int 1, .int 0, .int 1]), ("T", .tup [.int 1, .int (-1), .int 0, .int 1]), ("v", .tup [.int 1, .int 0, .int 1, .int 1]), ("V", .tup [.int 1, .int 0, .int (-1), .int 1]), ("j", .tup [.int 0, .int (-1), .int 1, .int 0]), ("J", .tup [.int 0, .int 1, .int (-1), .int 0])]
def k_TURNED : List (Str × PV) := [("t", .str "T"), ("T", .str "t"), ("v", .str "V"), ("V", .str "v"), ("j", .str "J"), ("J", .str "j")]
structure Txt (P : Program) (w : World) (K : PySem.W.Frag) (mg : Str → Option Value) (base : Heap) where
  a_is_integer : Addr
  fd_is_integer : FuncData
  F_is_integer : Fun K "is_integer" "is_integer" s_is_integer a_is_integer fd_is_integer
  g_is_integer : mg "is_integer" = some (.ref a_is_integer)
  b_is_integer : Binds K fd_is_integer ["value"] []
  a_want_at_most : Addr
  fd_want_at_most : FuncData
  F_want_at_most : Fun K "want_at_most" "want_at_most" s_want_at_most a_want_at_most fd_want_at_most
  g_want_at_most : mg "want_at_most" = some (.ref a_want_at_most)
  b_want_at_most : Binds K fd_want_at_most ["what", "limit", "number"] []
  a_is_matrix : Addr
  fd_is_matrix : FuncData
  F_is_matrix : Fun K "is_matrix" "is_matrix" s_is_matrix a_is_matrix fd_is_matrix
  g_is_matrix : mg "is_matrix" = some (.ref a_is_matrix)
  b_is_matrix : Binds K fd_is_matrix ["value"] []
  a_is_small_matrix : Addr
  fd_is_small_matrix : FuncData
  F_is_small_matrix : Fun K "is_small_matrix" "is_small_matrix" s_is_small_matrix a_is_small_matrix fd_is_small_matrix
  g_is_small_matrix : mg "is_small_matrix" = some (.ref a_is_small_matrix)
  b_is_small_matrix : Binds K fd_is_small_matrix ["value"] []
  a_check_matrix : Addr
  fd_check_matrix : FuncData
  F_check_matrix : Fun K "check_matrix" "check_matrix" s_check_matrix a_check_matrix fd_check_matrix
  g_check_matrix : mg "check_matrix" = some (.ref a_check_matrix)
  b_check_matrix : Binds K fd_check_matrix ["value"] []
  a_product_by : Addr
  fd_product_by : FuncData
  F_product_by : Fun K "product_by" "product_by" s_product_by a_product_by fd_product_by
  g_product_by : mg "product_by" = some (.ref a_product_by)
  b_product_by : Binds K fd_product_by ["one", "late"] []
  a_inverse_by : Addr
  fd_inverse_by : FuncData
  F_inverse_by : Fun K "inverse_by" "inverse_by" s_inverse_by a_inverse_by fd_inverse_by
  g_inverse_by : mg "inverse_by" = some (.ref a_inverse_by)
  b_inverse_by : Binds K fd_inverse_by ["matrix"] []
  a_product : Addr
  fd_product : FuncData
  F_product : Fun K "product" "product" s_product a_product fd_product
  g_product : mg "product" = some (.ref a_product)
  b_product : Binds K fd_product ["matrix", "other_matrix"] []
  a_inverse : Addr
  fd_inverse : FuncData
  F_inverse : Fun K "inverse" "inverse" s_inverse a_inverse fd_inverse
  g_inverse : mg "inverse" = some (.ref a_inverse)
  b_inverse : Binds K fd_inverse ["matrix"] []
  a_is_moves_of : Addr
  fd_is_moves_of : FuncData
  F_is_moves_of : Fun K "is_moves_of" "is_moves_of" s_is_moves_of a_is_moves_of fd_is_moves_of
  g_is_moves_of : mg "is_moves_of" = some (.ref a_is_moves_of)
  b_is_moves_of : Binds K fd_is_moves_of ["value"] []
  a_check_moves : Addr
  fd_check_moves : FuncData
  F_check_moves : Fun K "check_moves" "check_moves" s_check_moves a_check_moves fd_check_moves
  g_check_moves : mg "check_moves" = some (.ref a_check_moves)
  b_check_moves : Binds K fd_check_moves ["value"] []
  a_matrix_by : Addr
  fd_matrix_by : FuncData
  F_matrix_by : Fun K "matrix_by" "matrix_by" s_matrix_by a_matrix_by fd_matrix_by
  g_matrix_by : mg "matrix_by" = some (.ref a_matrix_by)
  b_matrix_by : Binds K fd_matrix_by ["moves"] []
  a_turned_moves_by : Addr
  fd_turned_moves_by : FuncData
  F_turned_moves_by : Fun K "turned_moves_by" "turned_moves_by" s_turned_moves_by a_turned_moves_by fd_turned_moves_by
  g_turned_moves_by : mg "turned_moves_by" = some (.ref a_turned_moves_by)
  b_turned_moves_by : Binds K fd_turned_moves_by ["moves"] []
  a_noted : Addr
  fd_noted : FuncData
  F_noted : Fun K "noted" "noted" s_noted a_noted fd_noted
  g_noted : mg "noted" = some (.ref a_noted)
  b_noted : Binds K fd_noted ["matrix"] []
  a_shears : Addr
  fd_shears : FuncData
  F_shears : Fun K "shears" "shears" s_shears a_shears fd_shears
  g_shears : mg "shears" = some (.ref a_shears)
  b_shears : Binds K fd_shears ["many"] []
  a_pieces_of : Addr
  fd_pieces_of : FuncData
  F_pieces_of : Fun K "pieces_of" "pieces_of" s_pieces_of a_pieces_of fd_pieces_of
  g_pieces_of : mg "pieces_of" = some (.ref a_pieces_of)
  b_pieces_of : Binds K fd_pieces_of ["matrix"] []
  a_length_by : Addr
  fd_length_by : FuncData
  F_length_by : Fun K "length_by" "length_by" s_length_by a_length_by fd_length_by
  g_length_by : mg "length_by" = some (.ref a_length_by)
  b_length_by : Binds K fd_length_by ["matrix"] []
  a_told_word_by : Addr
  fd_told_word_by : FuncData
  F_told_word_by : Fun K "told_word_by" "told_word_by" s_told_word_by a_told_word_by fd_told_word_by
  g_told_word_by : mg "told_word_by" = some (.ref a_told_word_by)
  b_told_word_by : Binds K fd_told_word_by ["matrix"] []
  a_is_moves : Addr
  fd_is_moves : FuncData
  F_is_moves : Fun K "is_moves" "is_moves" s_is_moves a_is_moves fd_is_moves
  g_is_moves : mg "is_moves" = some (.ref a_is_moves)
  b_is_moves : Binds K fd_is_moves ["value"] []
  a_matrix_of : Addr
  fd_matrix_of : FuncData
  F_matrix_of : Fun K "matrix_of" "matrix_of" s_matrix_of a_matrix_of fd_matrix_of
  g_matrix_of : mg "matrix_of" = some (.ref a_matrix_of)
  b_matrix_of : Binds K fd_matrix_of ["moves"] []
  a_turned_moves : Addr
  fd_turned_moves : FuncData
  F_turned_moves : Fun K "turned_moves" "turned_moves" s_turned_moves a_turned_moves fd_turned_moves
  g_turned_moves : mg "turned_moves" = some (.ref a_turned_moves)
  b_turned_moves : Binds K fd_turned_moves ["moves"] []
  a_told_word : Addr
  fd_told_word : FuncData
  F_told_word : Fun K "told_word" "told_word" s_told_word a_told_word fd_told_word
  g_told_word : mg "told_word" = some (.ref a_told_word)
  b_told_word : Binds K fd_told_word ["matrix"] []
  a_length : Addr
  fd_length : FuncData
  F_length : Fun K "length" "length" s_length a_length fd_length
  g_length : mg "length" = some (.ref a_length)
  b_length : Binds K fd_length ["matrix"] []
  a__law_pot : Addr
  fd__law_pot : FuncData
  F__law_pot : Fun K "_law_pot" "_law_pot" s__law_pot a__law_pot fd__law_pot
  g__law_pot : mg "_law_pot" = some (.ref a__law_pot)
  b__law_pot : Binds K fd__law_pot ["script", "k"] []
  a__law_draw : Addr
  fd__law_draw : FuncData
  F__law_draw : Fun K "_law_draw" "_law_draw" s__law_draw a__law_draw fd__law_draw
  g__law_draw : mg "_law_draw" = some (.ref a__law_draw)
  b__law_draw : Binds K fd__law_draw ["pot", "many"] []
  a__law_pick : Addr
  fd__law_pick : FuncData
  F__law_pick : Fun K "_law_pick" "_law_pick" s__law_pick a__law_pick fd__law_pick
  g__law_pick : mg "_law_pick" = some (.ref a__law_pick)
  b__law_pick : Binds K fd__law_pick ["pot", "some"] []
  a__law_turned_moves : Addr
  fd__law_turned_moves : FuncData
  F__law_turned_moves : Fun K "_law_turned_moves" "_law_turned_moves" s__law_turned_moves a__law_turned_moves fd__law_turned_moves
  g__law_turned_moves : mg "_law_turned_moves" = some (.ref a__law_turned_moves)
  b__law_turned_moves : Binds K fd__law_turned_moves ["moves"] []
  a__law_product : Addr
  fd__law_product : FuncData
  F__law_product : Fun K "_law_product" "_law_product" s__law_product a__law_product fd__law_product
  g__law_product : mg "_law_product" = some (.ref a__law_product)
  b__law_product : Binds K fd__law_product ["one", "other"] []
  a__law_matrix_of : Addr
  fd__law_matrix_of : FuncData
  F__law_matrix_of : Fun K "_law_matrix_of" "_law_matrix_of" s__law_matrix_of a__law_matrix_of fd__law_matrix_of
  g__law_matrix_of : mg "_law_matrix_of" = some (.ref a__law_matrix_of)
  b__law_matrix_of : Binds K fd__law_matrix_of ["moves"] []
  a__law_moves : Addr
  fd__law_moves : FuncData
  F__law_moves : Fun K "_law_moves" "_law_moves" s__law_moves a__law_moves fd__law_moves
  g__law_moves : mg "_law_moves" = some (.ref a__law_moves)
  b__law_moves : Binds K fd__law_moves ["pot", "most"] []
  a__law_told : Addr
  fd__law_told : FuncData
  F__law_told : Fun K "_law_told" "_law_told" s__law_told a__law_told fd__law_told
  g__law_told : mg "_law_told" = some (.ref a__law_told)
  b__law_told : Binds K fd__law_told ["matrix"] []
  a__law_heard : Addr
  fd__law_heard : FuncData
  F__law_heard : Fun K "_law_heard" "_law_heard" s__law_heard a__law_heard fd__law_heard
  g__law_heard : mg "_law_heard" = some (.ref a__law_heard)
  b__law_heard : Binds K fd__law_heard ["call"] []
  a__law_matrix_right : Addr
  fd__law_matrix_right : FuncData
  F__law_matrix_right : Fun K "_law_matrix_right" "_law_matrix_right" s__law_matrix_right a__law_matrix_right fd__law_matrix_right
  g__law_matrix_right : mg "_law_matrix_right" = some (.ref a__law_matrix_right)
  b__law_matrix_right : Binds K fd__law_matrix_right ["matrix"] []
  a__law_word_right : Addr
  fd__law_word_right : FuncData
  F__law_word_right : Fun K "_law_word_right" "_law_word_right" s__law_word_right a__law_word_right fd__law_word_right
  g__law_word_right : mg "_law_word_right" = some (.ref a__law_word_right)
  b__law_word_right : Binds K fd__law_word_right ["word"] []
  a__law_by_notes : Addr
  fd__law_by_notes : FuncData
  F__law_by_notes : Fun K "_law_by_notes" "_law_by_notes" s__law_by_notes a__law_by_notes fd__law_by_notes
  g__law_by_notes : mg "_law_by_notes" = some (.ref a__law_by_notes)
  b__law_by_notes : Binds K fd__law_by_notes ["pot", "many"] []
  a__law_right : Addr
  fd__law_right : FuncData
  F__law_right : Fun K "_law_right" "_law_right" s__law_right a__law_right fd__law_right
  g__law_right : mg "_law_right" = some (.ref a__law_right)
  b__law_right : Binds K fd__law_right ["pot"] []
  a__law_asking : Addr
  fd__law_asking : FuncData
  F__law_asking : Fun K "_law_asking" "_law_asking" s__law_asking a__law_asking fd__law_asking
  g__law_asking : mg "_law_asking" = some (.ref a__law_asking)
  b__law_asking : Binds K fd__law_asking ["odd"] []
  a_law : Addr
  fd_law : FuncData
  F_law : Fun K "law" "law" s_law a_law fd_law
  g_law : mg "law" = some (.ref a_law)
  b_law : Binds K fd_law ["script"] []
  k_is_moves_value : BindsK K fd_is_moves ["value"] ["value"] [0]
  k_length_matrix : BindsK K fd_length ["matrix"] ["matrix"] [0]
  k_matrix_of_moves : BindsK K fd_matrix_of ["moves"] ["moves"] [0]
  k_told_word_matrix : BindsK K fd_told_word ["matrix"] ["matrix"] [0]
  k_turned_moves_moves : BindsK K fd_turned_moves ["moves"] ["moves"] [0]
  n_abs : mg "abs" = none
  n_all : mg "all" = none
  n_bool : mg "bool" = none
  n_divmod : mg "divmod" = none
  n_int : mg "int" = none
  n_isinstance : mg "isinstance" = none
  n_len : mg "len" = none
  n_max : mg "max" = none
  n_min : mg "min" = none
  n_range : mg "range" = none
  n_repr : mg "repr" = none
  n_str : mg "str" = none
  n_sum : mg "sum" = none
  n_tuple : mg "tuple" = none
  a_MATRICES : Addr
  g_MATRICES : mg "MATRICES" = some (.ref a_MATRICES)
  d_MATRICES : GDict K w a_MATRICES k_MATRICES
  t_MOST_LETTERS : Tok
  g_MOST_LETTERS : mg "MOST_LETTERS" = some (.int 400 t_MOST_LETTERS)
  t_MOST_MOVES : Tok
  g_MOST_MOVES : mg "MOST_MOVES" = some (.int 400 t_MOST_MOVES)
  t_MOST_SIZE : Tok
  g_MOST_SIZE : mg "MOST_SIZE" = some (.int 1000000000000000000000000000000 t_MOST_SIZE)
  a_TURNED : Addr
  g_TURNED : mg "TURNED" = some (.ref a_TURNED)
  d_TURNED : GDict K w a_TURNED k_TURNED
  a_UNIT : Addr
  g_UNIT : mg "UNIT" = some (.ref a_UNIT)
  r_UNIT : ∀ C F, Rep K C F (.ref a_UNIT) (.tup [.int 1, .int 0, .int 0, .int 1])
  a_init_FloorError : Addr
  fd_init_FloorError : FuncData
  F_init_FloorError : Fun K "__init__" "FloorError.__init__" s_init_FloorError a_init_FloorError fd_init_FloorError
  b_init_FloorError : Binds K fd_init_FloorError ["self", "value"] []
  a_init_TooMany : Addr
  fd_init_TooMany : FuncData
  F_init_TooMany : Fun K "__init__" "TooMany.__init__" s_init_TooMany a_init_TooMany fd_init_TooMany
  b_init_TooMany : Binds K fd_init_TooMany ["self", "what", "limit"] []
  c_FloorError : Addr
  g_FloorError : mg "FloorError" = some (.ref c_FloorError)
  c_LimitError : Addr
  g_LimitError : mg "LimitError" = some (.ref c_LimitError)
  c_InvalidMoves : Addr
  g_InvalidMoves : mg "InvalidMoves" = some (.ref c_InvalidMoves)
  e_InvalidMoves : OexG K c_InvalidMoves
  e_InvalidMoves_no : ∀ f ∈ (["value"] : List Str), PySem.W.findIn K (.ref c_InvalidMoves) f = some none
  e_InvalidMoves_i : PySem.W.findIn K (.ref c_InvalidMoves) "__init__" = some (some (.ref a_init_FloorError))
  c_InvalidMatrix : Addr
  g_InvalidMatrix : mg "InvalidMatrix" = some (.ref c_InvalidMatrix)
  e_InvalidMatrix : OexG K c_InvalidMatrix
  e_InvalidMatrix_no : ∀ f ∈ (["value"] : List Str), PySem.W.findIn K (.ref c_InvalidMatrix) f = some none
  e_InvalidMatrix_i : PySem.W.findIn K (.ref c_InvalidMatrix) "__init__" = some (some (.ref a_init_FloorError))
  c_TooMany : Addr
  g_TooMany : mg "TooMany" = some (.ref c_TooMany)
  e_TooMany : OexG K c_TooMany
  e_TooMany_no : ∀ f ∈ (["what", "limit"] : List Str), PySem.W.findIn K (.ref c_TooMany) f = some none
  e_TooMany_i : PySem.W.findIn K (.ref c_TooMany) "__init__" = some (some (.ref a_init_TooMany))
  cc__law_matrix_right : Addr
  pp__law_matrix_right : Addr
  hc__law_matrix_right : fd__law_matrix_right.code = .ref cc__law_matrix_right
  tb__law_matrix_right : LamX.TabB base mg cc__law_matrix_right pp__law_matrix_right
  cc__law_asking : Addr
  pp__law_asking : Addr
  hc__law_asking : fd__law_asking.code = .ref cc__law_asking
  tb__law_asking : LamX.TabB base mg cc__law_asking pp__law_asking
  ne__law_matrix_right__law_asking : pp__law_matrix_right ≠ pp__law_asking
  xf_TooMany : XfC K c_TooMany
  xc_TooMany : ExcC K c_TooMany
  xm_TooMany_InvalidMoves : PySem.W.exmOne K (.ref c_TooMany) (.ref c_InvalidMoves) = some false
  xm_TooMany_TooMany : PySem.W.exmOne K (.ref c_TooMany) (.ref c_TooMany) = some true
  xi_TooMany_FloorError : PySem.W.kitOne K (.ref c_TooMany) (.ref c_FloorError) = some false
  xi_TooMany_LimitError : PySem.W.kitOne K (.ref c_TooMany) (.ref c_LimitError) = some true
  xn_TooMany_limit : PySem.W.findIn K (.ref c_TooMany) "limit" = some none
  xn_TooMany_value : PySem.W.findIn K (.ref c_TooMany) "value" = some none
  xn_TooMany_what : PySem.W.findIn K (.ref c_TooMany) "what" = some none
  xf_InvalidMatrix : XfC K c_InvalidMatrix
  xc_InvalidMatrix : ExcC K c_InvalidMatrix
  xm_InvalidMatrix_InvalidMoves : PySem.W.exmOne K (.ref c_InvalidMatrix) (.ref c_InvalidMoves) = some false
  xm_InvalidMatrix_TooMany : PySem.W.exmOne K (.ref c_InvalidMatrix) (.ref c_TooMany) = some false
  xi_InvalidMatrix_FloorError : PySem.W.kitOne K (.ref c_InvalidMatrix) (.ref c_FloorError) = some true
  xi_InvalidMatrix_LimitError : PySem.W.kitOne K (.ref c_InvalidMatrix) (.ref c_LimitError) = some false
  xn_InvalidMatrix_limit : PySem.W.findIn K (.ref c_InvalidMatrix) "limit" = some none
  xn_InvalidMatrix_value : PySem.W.findIn K (.ref c_InvalidMatrix) "value" = some none
  xn_InvalidMatrix_what : PySem.W.findIn K (.ref c_InvalidMatrix) "what" = some none
  xf_InvalidMoves : XfC K c_InvalidMoves
  xc_InvalidMoves : ExcC K c_InvalidMoves
  xm_InvalidMoves_InvalidMoves : PySem.W.exmOne K (.ref c_InvalidMoves) (.ref c_InvalidMoves) = some true
  xm_InvalidMoves_TooMany : PySem.W.exmOne K (.ref c_InvalidMoves) (.ref c_TooMany) = some false
  xi_InvalidMoves_FloorError : PySem.W.kitOne K (.ref c_InvalidMoves) (.ref c_FloorError) = some true
  xi_InvalidMoves_LimitError : PySem.W.kitOne K (.ref c_InvalidMoves) (.ref c_LimitError) = some false
  xn_InvalidMoves_limit : PySem.W.findIn K (.ref c_InvalidMoves) "limit" = some none
  xn_InvalidMoves_value : PySem.W.findIn K (.ref c_InvalidMoves) "value" = some none
  xn_InvalidMoves_what : PySem.W.findIn K (.ref c_InvalidMoves) "what" = some none
  t_init_FloorError : PySem.W.typeIn K (.ref a_init_FloorError) = some (.type "function")
  t_init_TooMany : PySem.W.typeIn K (.ref a_init_TooMany) = some (.type "function")
section
variable {P : Program} {w : World} {K : PySem.W.Frag} {mg : Str → Option Value} {base : Heap} {T : List (Addr × Str)}
def Txt.TT (Z : Txt P w K mg base) : List (Addr × Str) := [(Z.pp__law_matrix_right, ("_law_matrix_right" : Str) ++ ".<locals>.<lambda>"), (Z.pp__law_asking, ("_law_asking" : Str) ++ ".<locals>.<lambda>")]
theorem q__law_matrix_right : (("_law_matrix_right" : Str) ++ ".<locals>.") ++ "<lambda>" = ("_law_matrix_right" : Str) ++ ".<locals>.<lambda>" := by decide +kernel
theorem Txt.mt__law_matrix_right (Z : Txt P w K mg base) : (Z.pp__law_matrix_right, ("_law_matrix_right" : Str) ++ ".<locals>.<lambda>") ∈ Z.TT := by simp [Txt.TT]
theorem Txt.hu__law_matrix_right (Z : Txt P w K mg base) : ∀ p ∈ Z.TT, p.1 = Z.pp__law_matrix_right → p.2 = ("_law_matrix_right" : Str) ++ ".<locals>.<lambda>" := by
  intro p hp e
  simp only [Txt.TT, List.mem_cons, List.not_mem_nil, or_false] at hp
  rcases hp with rfl | rfl
  · rfl
  · exact (Z.ne__law_matrix_right__law_asking e.symm).elim
theorem q__law_asking : (("_law_asking" : Str) ++ ".<locals>.") ++ "<lambda>" = ("_law_asking" : Str) ++ ".<locals>.<lambda>" := by decide +kernel
theorem Txt.mt__law_asking (Z : Txt P w K mg base) : (Z.pp__law_asking, ("_law_asking" : Str) ++ ".<locals>.<lambda>") ∈ Z.TT := by simp [Txt.TT]
theorem Txt.hu__law_asking (Z : Txt P w K mg base) : ∀ p ∈ Z.TT, p.1 = Z.pp__law_asking → p.2 = ("_law_asking" : Str) ++ ".<locals>.<lambda>" := by
  intro p hp e
  simp only [Txt.TT, List.mem_cons, List.not_mem_nil, or_false] at hp
  rcases hp with rfl | rfl
  · exact (Z.ne__law_matrix_right__law_asking e).elim
  · rfl
def is_InvalidMoves : List (Str × Bool) := [("TooMany", false), ("InvalidMatrix", false), ("InvalidMoves", true)]
def is_TooMany : List (Str × Bool) := [("TooMany", true), ("InvalidMatrix", false), ("InvalidMoves", false)]
def is_FloorError : List (Str × Bool) := [("TooMany", false), ("InvalidMatrix", true), ("InvalidMoves", true)]
def is_LimitError : List (Str × Bool) := [("TooMany", true), ("InvalidMatrix", false), ("InvalidMoves", false)]
theorem exm_InvalidMoves (Z : Txt P w K mg base) : ∀ p ∈ is_InvalidMoves, ∀ A, mg p.1 = some (.ref A) → PySem.W.exmOne K (.ref A) (.ref Z.c_InvalidMoves) = some p.2 := by
  intro p hp A hA
  simp only [is_InvalidMoves, List.mem_cons, List.not_mem_nil, or_false] at hp
  rcases hp with rfl | rfl | rfl
  · have e := Z.g_TooMany.symm.trans hA
    cases e
    exact Z.xm_TooMany_InvalidMoves
  · have e := Z.g_InvalidMatrix.symm.trans hA
    cases e
    exact Z.xm_InvalidMatrix_InvalidMoves
  · have e := Z.g_InvalidMoves.symm.trans hA
    cases e
    exact Z.xm_InvalidMoves_InvalidMoves
theorem exm_TooMany (Z : Txt P w K mg base) : ∀ p ∈ is_TooMany, ∀ A, mg p.1 = some (.ref A) → PySem.W.exmOne K (.ref A) (.ref Z.c_TooMany) = some p.2 := by
  intro p hp A hA
  simp only [is_TooMany, List.mem_cons, List.not_mem_nil, or_false] at hp
  rcases hp with rfl | rfl | rfl
  · have e := Z.g_TooMany.symm.trans hA
    cases e
    exact Z.xm_TooMany_TooMany
  · have e := Z.g_InvalidMatrix.symm.trans hA
    cases e
    exact Z.xm_InvalidMatrix_TooMany
  · have e := Z.g_InvalidMoves.symm.trans hA
    cases e
    exact Z.xm_InvalidMoves_TooMany
theorem isi_FloorError (Z : Txt P w K mg base) : ∀ p ∈ is_FloorError, ∀ A, mg p.1 = some (.ref A) → ExcC K A ∧ PySem.W.kitOne K (.ref A) (.ref Z.c_FloorError) = some p.2 := by
  intro p hp A hA
  simp only [is_FloorError, List.mem_cons, List.not_mem_nil, or_false] at hp
  rcases hp with rfl | rfl | rfl
  · have e := Z.g_TooMany.symm.trans hA
    cases e
    exact ⟨Z.xc_TooMany, Z.xi_TooMany_FloorError⟩
  · have e := Z.g_InvalidMatrix.symm.trans hA
    cases e
    exact ⟨Z.xc_InvalidMatrix, Z.xi_InvalidMatrix_FloorError⟩
  · have e := Z.g_InvalidMoves.symm.trans hA
    cases e
    exact ⟨Z.xc_InvalidMoves, Z.xi_InvalidMoves_FloorError⟩
theorem isi_LimitError (Z : Txt P w K mg base) : ∀ p ∈ is_LimitError, ∀ A, mg p.1 = some (.ref A) → ExcC K A ∧ PySem.W.kitOne K (.ref A) (.ref Z.c_LimitError) = some p.2 := by
  intro p hp A hA
  simp only [is_LimitError, List.mem_cons, List.not_mem_nil, or_false] at hp
  rcases hp with rfl | rfl | rfl
  · have e := Z.g_TooMany.symm.trans hA
    cases e
    exact ⟨Z.xc_TooMany, Z.xi_TooMany_LimitError⟩
  · have e := Z.g_InvalidMatrix.symm.trans hA
    cases e
    exact ⟨Z.xc_InvalidMatrix, Z.xi_InvalidMatrix_LimitError⟩
  · have e := Z.g_InvalidMoves.symm.trans hA
    cases e
    exact ⟨Z.xc_InvalidMoves, Z.xi_InvalidMoves_LimitError⟩
theorem fld_InvalidMoves_limit (Z : Txt P w K mg base) : ∀ p ∈ is_InvalidMoves, ∀ A, mg p.1 = some (.ref A) → XfC K A ∧ PySem.W.findIn K (.ref A) "limit" = some none := by
  intro p hp A hA
  simp only [is_InvalidMoves, List.mem_cons, List.not_mem_nil, or_false] at hp
  rcases hp with rfl | rfl | rfl
  · have e := Z.g_TooMany.symm.trans hA
    cases e
    exact ⟨Z.xf_TooMany, Z.xn_TooMany_limit⟩
  · have e := Z.g_InvalidMatrix.symm.trans hA
    cases e
    exact ⟨Z.xf_InvalidMatrix, Z.xn_InvalidMatrix_limit⟩
  · have e := Z.g_InvalidMoves.symm.trans hA
    cases e
    exact ⟨Z.xf_InvalidMoves, Z.xn_InvalidMoves_limit⟩
theorem fld_InvalidMoves_value (Z : Txt P w K mg base) : ∀ p ∈ is_InvalidMoves, ∀ A, mg p.1 = some (.ref A) → XfC K A ∧ PySem.W.findIn K (.ref A) "value" = some none := by
  intro p hp A hA
  simp only [is_InvalidMoves, List.mem_cons, List.not_mem_nil, or_false] at hp
  rcases hp with rfl | rfl | rfl
  · have e := Z.g_TooMany.symm.trans hA
    cases e
    exact ⟨Z.xf_TooMany, Z.xn_TooMany_value⟩
  · have e := Z.g_InvalidMatrix.symm.trans hA
    cases e
    exact ⟨Z.xf_InvalidMatrix, Z.xn_InvalidMatrix_value⟩
  · have e := Z.g_InvalidMoves.symm.trans hA
    cases e
    exact ⟨Z.xf_InvalidMoves, Z.xn_InvalidMoves_value⟩
theorem fld_InvalidMoves_what (Z : Txt P w K mg base) : ∀ p ∈ is_InvalidMoves, ∀ A, mg p.1 = some (.ref A) → XfC K A ∧ PySem.W.findIn K (.ref A) "what" = some none := by
  intro p hp A hA
  simp only [is_InvalidMoves, List.mem_cons, List.not_mem_nil, or_false] at hp
  rcases hp with rfl | rfl | rfl
  · have e := Z.g_TooMany.symm.trans hA
    cases e
    exact ⟨Z.xf_TooMany, Z.xn_TooMany_what⟩
  · have e := Z.g_InvalidMatrix.symm.trans hA
    cases e
    exact ⟨Z.xf_InvalidMatrix, Z.xn_InvalidMatrix_what⟩
  · have e := Z.g_InvalidMoves.symm.trans hA
    cases e
    exact ⟨Z.xf_InvalidMoves, Z.xn_InvalidMoves_what⟩
theorem fld_TooMany_limit (Z : Txt P w K mg base) : ∀ p ∈ is_TooMany, ∀ A, mg p.1 = some (.ref A) → XfC K A ∧ PySem.W.findIn K (.ref A) "limit" = some none := by
  intro p hp A hA
  simp only [is_TooMany, List.mem_cons, List.not_mem_nil, or_false] at hp
  rcases hp with rfl | rfl | rfl
  · have e := Z.g_TooMany.symm.trans hA
    cases e
    exact ⟨Z.xf_TooMany, Z.xn_TooMany_limit⟩
  · have e := Z.g_InvalidMatrix.symm.trans hA
    cases e
    exact ⟨Z.xf_InvalidMatrix, Z.xn_InvalidMatrix_limit⟩
  · have e := Z.g_InvalidMoves.symm.trans hA
    cases e
    exact ⟨Z.xf_InvalidMoves, Z.xn_InvalidMoves_limit⟩
theorem fld_TooMany_value (Z : Txt P w K mg base) : ∀ p ∈ is_TooMany, ∀ A, mg p.1 = some (.ref A) → XfC K A ∧ PySem.W.findIn K (.ref A) "value" = some none := by
  intro p hp A hA
  simp only [is_TooMany, List.mem_cons, List.not_mem_nil, or_false] at hp
  rcases hp with rfl | rfl | rfl
  · have e := Z.g_TooMany.symm.trans hA
    cases e
    exact ⟨Z.xf_TooMany, Z.xn_TooMany_value⟩
  · have e := Z.g_InvalidMatrix.symm.trans hA
    cases e
    exact ⟨Z.xf_InvalidMatrix, Z.xn_InvalidMatrix_value⟩
  · have e := Z.g_InvalidMoves.symm.trans hA
    cases e
    exact ⟨Z.xf_InvalidMoves, Z.xn_InvalidMoves_value⟩
theorem fld_TooMany_what (Z : Txt P w K mg base) : ∀ p ∈ is_TooMany, ∀ A, mg p.1 = some (.ref A) → XfC K A ∧ PySem.W.findIn K (.ref A) "what" = some none := by
  intro p hp A hA
  simp only [is_TooMany, List.mem_cons, List.not_mem_nil, or_false] at hp
  rcases hp with rfl | rfl | rfl
  · have e := Z.g_TooMany.symm.trans hA
    cases e
    exact ⟨Z.xf_TooMany, Z.xn_TooMany_what⟩
  · have e := Z.g_InvalidMatrix.symm.trans hA
    cases e
    exact ⟨Z.xf_InvalidMatrix, Z.xn_InvalidMatrix_what⟩
  · have e := Z.g_InvalidMoves.symm.trans hA
    cases e
    exact ⟨Z.xf_InvalidMoves, Z.xn_InvalidMoves_what⟩
theorem sc_init_FloorError : FnScope ["self", "value"] ["self", "value"] (defScope s_init_FloorError) := ⟨rfl, rfl, rfl, by decide +kernel, rfl, by decide +kernel, by decide +kernel⟩
theorem ok_init_FloorError (Z : Txt P w K mg base) : FnOk P w K mg base (L2.CX P w) 1 Z.a_init_FloorError Z.fd_init_FloorError ["self", "value"] (spI K ["value"]) := init1 (N := ["self", "value"]) Z.F_init_FloorError sc_init_FloorError rfl rfl fun _ _ _ _ _ _ => pss_one (ps_ostG (pe_var (i := 0) rfl (.inl rfl) (by decide) (by decide)) (pe_var (i := 1) rfl (.inl rfl) (by decide) (by decide)))
theorem sc_init_TooMany : FnScope ["self", "what", "limit"] ["self", "what", "limit"] (defScope s_init_TooMany) := ⟨rfl, rfl, rfl, by decide +kernel, rfl, by decide +kernel, by decide +kernel⟩
theorem ok_init_TooMany (Z : Txt P w K mg base) : FnOk P w K mg base (L2.CX P w) 1 Z.a_init_TooMany Z.fd_init_TooMany ["self", "what", "limit"] (spI K ["what", "limit"]) := init2 (N := ["self", "what", "limit"]) Z.F_init_TooMany sc_init_TooMany rfl rfl rfl fun _ _ _ _ _ _ => ⟨ps_ostG (pe_var (i := 0) rfl (.inl rfl) (by decide) (by decide)) (pe_var (i := 1) rfl (.inl rfl) (by decide) (by decide)), ps_ostG (pe_var (i := 0) rfl (.inl rfl) (by decide) (by decide)) (pe_var (i := 2) rfl (.inl rfl) (by decide) (by decide))⟩
theorem sc__law_asking : FnScope ["odd"] ["odd"] (defScope s__law_asking) := ⟨rfl, rfl, rfl, by decide +kernel, rfl, by decide +kernel, by decide +kernel⟩
def b_is_integer : FS := sRet (fAndV (fIsi .int (fVar 0)) (fNotV (fIsi .bool (fVar 0))))
def m_is_integer : Fn := mkFn 1 b_is_integer
theorem sc_is_integer : FnScope ["value"] ["value"] (defScope s_is_integer) := ⟨rfl, rfl, rfl, by decide +kernel, rfl, by decide +kernel, by decide +kernel⟩
theorem ok_is_integer (Z : Txt P w K mg base) : FnG P w K T mg base 1 Z.a_is_integer Z.fd_is_integer ["value"] m_is_integer := fnG_ok (k := 0) (N := ["value"]) Z.F_is_integer sc_is_integer fun C cdv A outer s H E hcd hT hgd hr => by
  subst hT
  have sc := sc_is_integer
  exact (pf_sone (pf_ret (pf_andV (pf_isi .int Z.n_isinstance Z.n_int (pf_var 0)) (pf_one (pf_notV (pf_isi .bool Z.n_isinstance Z.n_bool (pf_var 0)))))))
def b_want_at_most : FS := sIf (fTest (fBin oGt (fVar 2) (fVar 1))) (sRaise "TooMany" ["what", "limit"] (fCons (fVar 0) (fCons (fVar 1) (fNil)))) (sNil)
def m_want_at_most : Fn := mkFn 3 b_want_at_most
theorem sc_want_at_most : FnScope ["what", "limit", "number"] ["what", "limit", "number"] (defScope s_want_at_most) := ⟨rfl, rfl, rfl, by decide +kernel, rfl, by decide +kernel, by decide +kernel⟩
theorem ok_want_at_most (Z : Txt P w K mg base) : FnG P w K T mg base 3 Z.a_want_at_most Z.fd_want_at_most ["what", "limit", "number"] m_want_at_most := fnG_ok (k := 2) (N := ["what", "limit", "number"]) Z.F_want_at_most sc_want_at_most fun C cdv A outer s H E hcd hT hgd hr => by
  subst hT
  have sc := sc_want_at_most
  exact (pf_sone (pf_sif (pt_gt (pf_var 2) (pf_var 1)) (pf_sone (pf_raise Z.e_TooMany Z.e_TooMany_no Z.e_TooMany_i Z.t_init_TooMany (ok_init_TooMany Z) (hr.mono (by decide)) Z.b_init_TooMany rfl (takes_of rfl rfl rfl rfl) Z.g_TooMany (pf_cons (pf_var 0) (pf_cons (pf_var 1) (pf_nil))))) (pf_snil)))
def b_is_matrix : FS := sSeq (sIf (fOrT (fNotT (fTest (fIsi .tuple (fVar 0)))) (fOrT (fTest (fBin oNe (fCallB oLen (fCons (fVar 0) (fNil))) (fC (.int 4)))) (fNotT (fTest (fCallB oAll (fCons (fComp (fIt (fVar 0)) (gNm 1) [1] (fYes) (fCall m_is_integer (fCons (fVar 1) (fNil)))) (fNil))))))) (sRet (fC (.bl false))) (sNil)) (sRet (fBin oEq (fBin oSub (fBin oMul (fIx (fVar 0) (fC (.int 0))) (fIx (fVar 0) (fC (.int 3)))) (fBin oMul (fIx (fVar 0) (fC (.int 1))) (fIx (fVar 0) (fC (.int 2))))) (fC (.int 1))))
def m_is_matrix : Fn := mkFn 2 b_is_matrix
theorem sc_is_matrix : FnScope ["value", "one"] ["value"] (defScope s_is_matrix) := ⟨rfl, rfl, rfl, by decide +kernel, rfl, by decide +kernel, by decide +kernel⟩
theorem ok_is_matrix (Z : Txt P w K mg base) : FnG P w K T mg base 2 Z.a_is_matrix Z.fd_is_matrix ["value"] m_is_matrix := fnG_ok (k := 1) (N := ["value", "one"]) Z.F_is_matrix sc_is_matrix fun C cdv A outer s H E hcd hT hgd hr => by
  subst hT
  have sc := sc_is_matrix
  exact (pf_scons (pf_sif (pf_pt (pf_orT (pf_notT (pf_test (pf_isi .tuple Z.n_isinstance Z.n_tuple (pf_var 0)))) (pf_orT (pt_ne hr (pf_len Z.n_len (pf_cons (pf_var 0) (pf_nil))) (pf_int)) (pf_or1 (pf_notT (pf_test (pf_all rfl Z.n_all (pf_cons (pf_compC ["value", "one"] (defScope s_is_matrix) [("one", 1)] rfl sc.nd (pf_iter (pf_var 0)) (js := [1]) (fun _ _ _ _ _ => pf_gnm 1 sc.nd) (fun _ _ _ _ _ => pf_tyes) (fun _ _ _ _ _ => pf_call (ok_is_integer Z) Z.g_is_integer Z.F_is_integer.kp Z.b_is_integer hgd (hr.mono (by decide)) takesW0 (pf_cons (pf_var 1) (pf_nil)))) (pf_nil))))))))) (pf_sone (pf_ret (pf_bl))) (pf_snil)) (pf_sone (pf_ret (pf_eq hr (pf_sub (pf_mul (pf_ix1 hr (pf_var 0) (pf_int)) (pf_ix1 hr (pf_var 0) (pf_int))) (pf_mul (pf_ix1 hr (pf_var 0) (pf_int)) (pf_ix1 hr (pf_var 0) (pf_int)))) (pf_int)))))
def b_is_small_matrix : FS := sRet (fAndV (fCall m_is_matrix (fCons (fVar 0) (fNil))) (fCallB oAll (fCons (fComp (fIt (fVar 0)) (gNm 1) [1] (fYes) (fBin oLt (fCallB oAbs (fCons (fVar 1) (fNil))) (fC (.int (1000000000000000000000000000000))))) (fNil))))
def m_is_small_matrix : Fn := mkFn 2 b_is_small_matrix
theorem sc_is_small_matrix : FnScope ["value", "one"] ["value"] (defScope s_is_small_matrix) := ⟨rfl, rfl, rfl, by decide +kernel, rfl, by decide +kernel, by decide +kernel⟩
theorem ok_is_small_matrix (Z : Txt P w K mg base) : FnG P w K T mg base 3 Z.a_is_small_matrix Z.fd_is_small_matrix ["value"] m_is_small_matrix := fnG_ok (k := 2) (N := ["value", "one"]) Z.F_is_small_matrix sc_is_small_matrix fun C cdv A outer s H E hcd hT hgd hr => by
  subst hT
  have sc := sc_is_small_matrix
  exact (pf_sone (pf_ret (pf_andV (pf_call (ok_is_matrix Z) Z.g_is_matrix Z.F_is_matrix.kp Z.b_is_matrix hgd (hr.mono (by decide)) (takes_of rfl rfl rfl rfl) (pf_cons (pf_var 0) (pf_nil))) (pf_one (pf_all rfl Z.n_all (pf_cons (pf_compC ["value", "one"] (defScope s_is_small_matrix) [("one", 1)] rfl sc.nd (pf_iter (pf_var 0)) (js := [1]) (fun _ _ _ _ _ => pf_gnm 1 sc.nd) (fun _ _ _ _ _ => pf_tyes) (fun _ _ _ _ _ => pf_lt (pf_abs Z.n_abs (pf_cons (pf_var 1) (pf_nil))) (pf_gint Z.g_MOST_SIZE))) (pf_nil)))))))
def b_check_matrix : FS := sIf (fNotT (fTest (fCall m_is_small_matrix (fCons (fVar 0) (fNil))))) (sRaise "InvalidMatrix" ["value"] (fCons (fVar 0) (fNil))) (sNil)
def m_check_matrix : Fn := mkFn 1 b_check_matrix
theorem sc_check_matrix : FnScope ["value"] ["value"] (defScope s_check_matrix) := ⟨rfl, rfl, rfl, by decide +kernel, rfl, by decide +kernel, by decide +kernel⟩
theorem ok_check_matrix (Z : Txt P w K mg base) : FnG P w K T mg base 4 Z.a_check_matrix Z.fd_check_matrix ["value"] m_check_matrix := fnG_ok (k := 3) (N := ["value"]) Z.F_check_matrix sc_check_matrix fun C cdv A outer s H E hcd hT hgd hr => by
  subst hT
  have sc := sc_check_matrix
  exact (pf_sone (pf_sif (pf_notT (pf_test (pf_call (ok_is_small_matrix Z) Z.g_is_small_matrix Z.F_is_small_matrix.kp Z.b_is_small_matrix hgd (hr.mono (by decide)) (takes_of rfl rfl rfl rfl) (pf_cons (pf_var 0) (pf_nil))))) (pf_sone (pf_raise Z.e_InvalidMatrix Z.e_InvalidMatrix_no Z.e_InvalidMatrix_i Z.t_init_FloorError (ok_init_FloorError Z) (hr.mono (by decide)) Z.b_init_FloorError rfl (takes_of rfl rfl rfl rfl) Z.g_InvalidMatrix (pf_cons (pf_var 0) (pf_nil)))) (pf_snil)))
def b_product_by : FS := sSeq (sAsg (fVar 0) (gTp 4 (gCn (gNm 2) (gCn (gNm 3) (gCn (gNm 4) (gCn (gNm 5) (gNl))))))) (sSeq (sAsg (fVar 1) (gTp 4 (gCn (gNm 6) (gCn (gNm 7) (gCn (gNm 8) (gCn (gNm 9) (gNl))))))) (sRet (fTup (fCons (fBin oAdd (fBin oMul (fVar 2) (fVar 6)) (fBin oMul (fVar 3) (fVar 8))) (fCons (fBin oAdd (fBin oMul (fVar 2) (fVar 7)) (fBin oMul (fVar 3) (fVar 9))) (fCons (fBin oAdd (fBin oMul (fVar 4) (fVar 6)) (fBin oMul (fVar 5) (fVar 8))) (fCons (fBin oAdd (fBin oMul (fVar 4) (fVar 7)) (fBin oMul (fVar 5) (fVar 9))) (fNil))))))))
def m_product_by : Fn := mkFn 10 b_product_by
theorem sc_product_by : FnScope ["one", "late", "a", "b", "c", "d", "e", "f", "g", "h"] ["one", "late"] (defScope s_product_by) := ⟨rfl, rfl, rfl, by decide +kernel, rfl, by decide +kernel, by decide +kernel⟩
theorem ok_product_by (Z : Txt P w K mg base) : FnG P w K T mg base 1 Z.a_product_by Z.fd_product_by ["one", "late"] m_product_by := fnG_ok (k := 0) (N := ["one", "late", "a", "b", "c", "d", "e", "f", "g", "h"]) Z.F_product_by sc_product_by fun C cdv A outer s H E hcd hT hgd hr => by
  subst hT
  have sc := sc_product_by
  exact (pf_scons (pf_asg (js := [2, 3, 4, 5]) (pf_var 0) (pf_gtp rfl (pf_gcn (pf_gnm 2 sc.nd) (pf_gcn (pf_gnm 3 sc.nd) (pf_gcn (pf_gnm 4 sc.nd) (pf_gcn (pf_gnm 5 sc.nd) (pf_gnl))))))) (pf_scons (pf_asg (js := [6, 7, 8, 9]) (pf_var 1) (pf_gtp rfl (pf_gcn (pf_gnm 6 sc.nd) (pf_gcn (pf_gnm 7 sc.nd) (pf_gcn (pf_gnm 8 sc.nd) (pf_gcn (pf_gnm 9 sc.nd) (pf_gnl))))))) (pf_sone (pf_ret (pf_tup (pf_cons (pf_add (pf_mul (pf_var 2) (pf_var 6)) (pf_mul (pf_var 3) (pf_var 8))) (pf_cons (pf_add (pf_mul (pf_var 2) (pf_var 7)) (pf_mul (pf_var 3) (pf_var 9))) (pf_cons (pf_add (pf_mul (pf_var 4) (pf_var 6)) (pf_mul (pf_var 5) (pf_var 8))) (pf_cons (pf_add (pf_mul (pf_var 4) (pf_var 7)) (pf_mul (pf_var 5) (pf_var 9))) (pf_nil))))))))))
def b_inverse_by : FS := sSeq (sAsg (fVar 0) (gTp 4 (gCn (gNm 1) (gCn (gNm 2) (gCn (gNm 3) (gCn (gNm 4) (gNl))))))) (sRet (fTup (fCons (fVar 4) (fCons (fUn oNeg (fVar 2)) (fCons (fUn oNeg (fVar 3)) (fCons (fVar 1) (fNil)))))))
def m_inverse_by : Fn := mkFn 5 b_inverse_by
theorem sc_inverse_by : FnScope ["matrix", "a", "b", "c", "d"] ["matrix"] (defScope s_inverse_by) := ⟨rfl, rfl, rfl, by decide +kernel, rfl, by decide +kernel, by decide +kernel⟩
theorem ok_inverse_by (Z : Txt P w K mg base) : FnG P w K T mg base 1 Z.a_inverse_by Z.fd_inverse_by ["matrix"] m_inverse_by := fnG_ok (k := 0) (N := ["matrix", "a", "b", "c", "d"]) Z.F_inverse_by sc_inverse_by fun C cdv A outer s H E hcd hT hgd hr => by
  subst hT
  have sc := sc_inverse_by
  exact (pf_scons (pf_asg (js := [1, 2, 3, 4]) (pf_var 0) (pf_gtp rfl (pf_gcn (pf_gnm 1 sc.nd) (pf_gcn (pf_gnm 2 sc.nd) (pf_gcn (pf_gnm 3 sc.nd) (pf_gcn (pf_gnm 4 sc.nd) (pf_gnl))))))) (pf_sone (pf_ret (pf_tup (pf_cons (pf_var 4) (pf_cons (pf_neg (pf_var 2)) (pf_cons (pf_neg (pf_var 3)) (pf_cons (pf_var 1) (pf_nil)))))))))
def b_product : FS := sSeq (sExpr (fCall m_check_matrix (fCons (fVar 0) (fNil)))) (sSeq (sExpr (fCall m_check_matrix (fCons (fVar 1) (fNil)))) (sRet (fCall m_product_by (fCons (fVar 0) (fCons (fVar 1) (fNil))))))
def m_product : Fn := mkFn 2 b_product
theorem sc_product : FnScope ["matrix", "other_matrix"] ["matrix", "other_matrix"] (defScope s_product) := ⟨rfl, rfl, rfl, by decide +kernel, rfl, by decide +kernel, by decide +kernel⟩
theorem ok_product (Z : Txt P w K mg base) : FnG P w K T mg base 5 Z.a_product Z.fd_product ["matrix", "other_matrix"] m_product := fnG_ok (k := 4) (N := ["matrix", "other_matrix"]) Z.F_product sc_product fun C cdv A outer s H E hcd hT hgd hr => by
  subst hT
  have sc := sc_product
  exact (pf_scons (pf_expr (pf_call (ok_check_matrix Z) Z.g_check_matrix Z.F_check_matrix.kp Z.b_check_matrix hgd (hr.mono (by decide)) (takes_of rfl rfl rfl rfl) (pf_cons (pf_var 0) (pf_nil)))) (pf_scons (pf_expr (pf_call (ok_check_matrix Z) Z.g_check_matrix Z.F_check_matrix.kp Z.b_check_matrix hgd (hr.mono (by decide)) (takes_of rfl rfl rfl rfl) (pf_cons (pf_var 1) (pf_nil)))) (pf_sone (pf_ret (pf_call (ok_product_by Z) Z.g_product_by Z.F_product_by.kp Z.b_product_by hgd (hr.mono (by decide)) (takes_of rfl rfl rfl rfl) (pf_cons (pf_var 0) (pf_cons (pf_var 1) (pf_nil))))))))
def b_inverse : FS := sSeq (sExpr (fCall m_check_matrix (fCons (fVar 0) (fNil)))) (sRet (fCall m_inverse_by (fCons (fVar 0) (fNil))))
def m_inverse : Fn := mkFn 1 b_inverse
theorem sc_inverse : FnScope ["matrix"] ["matrix"] (defScope s_inverse) := ⟨rfl, rfl, rfl, by decide +kernel, rfl, by decide +kernel, by decide +kernel⟩
theorem ok_inverse (Z : Txt P w K mg base) : FnG P w K T mg base 5 Z.a_inverse Z.fd_inverse ["matrix"] m_inverse := fnG_ok (k := 4) (N := ["matrix"]) Z.F_inverse sc_inverse fun C cdv A outer s H E hcd hT hgd hr => by
  subst hT
  have sc := sc_inverse
  exact (pf_scons (pf_expr (pf_call (ok_check_matrix Z) Z.g_check_matrix Z.F_check_matrix.kp Z.b_check_matrix hgd (hr.mono (by decide)) (takes_of rfl rfl rfl rfl) (pf_cons (pf_var 0) (pf_nil)))) (pf_sone (pf_ret (pf_call (ok_inverse_by Z) Z.g_inverse_by Z.F_inverse_by.kp Z.b_inverse_by hgd (hr.mono (by decide)) (takes_of rfl rfl rfl rfl) (pf_cons (pf_var 0) (pf_nil))))))
def b_is_moves_of : FS := sRet (fAndV (fIsi .str (fVar 0)) (fAndV (fBin oLe (fCallB oLen (fCons (fVar 0) (fNil))) (fC (.int (400)))) (fCallB oAll (fCons (fComp (fIt (fVar 0)) (gNm 1) [1] (fYes) (fGin k_MATRICES (fVar 1))) (fNil)))))
def m_is_moves_of : Fn := mkFn 2 b_is_moves_of
theorem sc_is_moves_of : FnScope ["value", "letter"] ["value"] (defScope s_is_moves_of) := ⟨rfl, rfl, rfl, by decide +kernel, rfl, by decide +kernel, by decide +kernel⟩
theorem ok_is_moves_of (Z : Txt P w K mg base) : FnG P w K T mg base 1 Z.a_is_moves_of Z.fd_is_moves_of ["value"] m_is_moves_of := fnG_ok (k := 0) (N := ["value", "letter"]) Z.F_is_moves_of sc_is_moves_of fun C cdv A outer s H E hcd hT hgd hr => by
  subst hT
  have sc := sc_is_moves_of
  exact (pf_sone (pf_ret (pf_andV (pf_isi .str Z.n_isinstance Z.n_str (pf_var 0)) (pf_andV (pf_le (pf_len Z.n_len (pf_cons (pf_var 0) (pf_nil))) (pf_gint Z.g_MOST_MOVES)) (pf_one (pf_all rfl Z.n_all (pf_cons (pf_compC ["value", "letter"] (defScope s_is_moves_of) [("letter", 1)] rfl sc.nd (pf_iter (pf_var 0)) (js := [1]) (fun _ _ _ _ _ => pf_gnm 1 sc.nd) (fun _ _ _ _ _ => pf_tyes) (fun _ _ _ _ _ => pf_gin Z.d_MATRICES Z.g_MATRICES (pf_var 1))) (pf_nil))))))))
def b_check_moves : FS := sIf (fNotT (fTest (fCall m_is_moves_of (fCons (fVar 0) (fNil))))) (sRaise "InvalidMoves" ["value"] (fCons (fVar 0) (fNil))) (sNil)
def m_check_moves : Fn := mkFn 1 b_check_moves
theorem sc_check_moves : FnScope ["value"] ["value"] (defScope s_check_moves) := ⟨rfl, rfl, rfl, by decide +kernel, rfl, by decide +kernel, by decide +kernel⟩
theorem ok_check_moves (Z : Txt P w K mg base) : FnG P w K T mg base 3 Z.a_check_moves Z.fd_check_moves ["value"] m_check_moves := fnG_ok (k := 2) (N := ["value"]) Z.F_check_moves sc_check_moves fun C cdv A outer s H E hcd hT hgd hr => by
  subst hT
  have sc := sc_check_moves
  exact (pf_sone (pf_sif (pf_notT (pf_test (pf_call (ok_is_moves_of Z) Z.g_is_moves_of Z.F_is_moves_of.kp Z.b_is_moves_of hgd (hr.mono (by decide)) (takes_of rfl rfl rfl rfl) (pf_cons (pf_var 0) (pf_nil))))) (pf_sone (pf_raise Z.e_InvalidMoves Z.e_InvalidMoves_no Z.e_InvalidMoves_i Z.t_init_FloorError (ok_init_FloorError Z) (hr.mono (by decide)) Z.b_init_FloorError rfl (takes_of rfl rfl rfl rfl) Z.g_InvalidMoves (pf_cons (pf_var 0) (pf_nil)))) (pf_snil)))
def b_matrix_by : FS := sSeq (sSet 1 (fC (.tup [.int 1, .int 0, .int 0, .int 1]))) (sSeq (sFor (fIt (fVar 0)) (gNm 2) (sSet 1 (fCall m_product_by (fCons (fGix k_MATRICES (fVar 2)) (fCons (fVar 1) (fNil)))))) (sRet (fVar 1)))
def m_matrix_by : Fn := mkFn 3 b_matrix_by
theorem sc_matrix_by : FnScope ["moves", "found", "letter"] ["moves"] (defScope s_matrix_by) := ⟨rfl, rfl, rfl, by decide +kernel, rfl, by decide +kernel, by decide +kernel⟩
theorem ok_matrix_by (Z : Txt P w K mg base) : FnG P w K T mg base 2 Z.a_matrix_by Z.fd_matrix_by ["moves"] m_matrix_by := fnG_ok (k := 1) (N := ["moves", "found", "letter"]) Z.F_matrix_by sc_matrix_by fun C cdv A outer s H E hcd hT hgd hr => by
  subst hT
  have sc := sc_matrix_by
  exact (pf_scons (pf_set 1 sc.nd (pf_gref Z.g_UNIT Z.r_UNIT)) (pf_scons (pf_for (js := [2]) rfl (pf_iter (pf_var 0)) (pf_gnm 2 sc.nd) (pf_sone (pf_set 1 sc.nd (pf_call (ok_product_by Z) Z.g_product_by Z.F_product_by.kp Z.b_product_by hgd (hr.mono (by decide)) (takes_of rfl rfl rfl rfl) (pf_cons (pf_gix Z.d_MATRICES Z.g_MATRICES (pf_var 2)) (pf_cons (pf_var 1) (pf_nil))))))) (pf_sone (pf_ret (pf_var 1)))))
def b_turned_moves_by : FS := sRet (fJoin (fC (.str "")) (fComp (fIt (fUn oRev (fVar 0))) (gNm 1) [1] (fYes) (fGix k_TURNED (fVar 1))))
def m_turned_moves_by : Fn := mkFn 2 b_turned_moves_by
theorem sc_turned_moves_by : FnScope ["moves", "letter"] ["moves"] (defScope s_turned_moves_by) := ⟨rfl, rfl, rfl, by decide +kernel, rfl, by decide +kernel, by decide +kernel⟩
theorem ok_turned_moves_by (Z : Txt P w K mg base) : FnG P w K T mg base 1 Z.a_turned_moves_by Z.fd_turned_moves_by ["moves"] m_turned_moves_by := fnG_ok (k := 0) (N := ["moves", "letter"]) Z.F_turned_moves_by sc_turned_moves_by fun C cdv A outer s H E hcd hT hgd hr => by
  subst hT
  have sc := sc_turned_moves_by
  exact (pf_sone (pf_ret (pf_join (pf_str) (pf_compC ["moves", "letter"] (defScope s_turned_moves_by) [("letter", 1)] rfl sc.nd (pf_iter (pf_rev (pf_var 0))) (js := [1]) (fun _ _ _ _ _ => pf_gnm 1 sc.nd) (fun _ _ _ _ _ => pf_tyes) (fun _ _ _ _ _ => pf_gix Z.d_TURNED Z.g_TURNED (pf_var 1))))))
def b_noted : FS := sSeq (sAsg (fVar 0) (gTp 4 (gCn (gNm 2) (gCn (gNm 3) (gCn (gNm 4) (gCn (gNm 5) (gNl))))))) (sSeq (sOwn 1 (lLst (fNil))) (sSeq (sWhile fuel (fAndT (fTest (fBin oNe (fVar 4) (fC (.int 0)))) (fTest (fBin oLe (fLenO 1) (fC (.int (400)))))) (sSeq (sSet 6 (fBin oDiv (fVar 2) (fVar 4))) (sSeq (sApp 1 (fVar 6)) (sAsg (fTup (fCons (fVar 4) (fCons (fVar 5) (fCons (fBin oSub (fBin oMul (fVar 6) (fVar 4)) (fVar 2)) (fCons (fBin oSub (fBin oMul (fVar 6) (fVar 5)) (fVar 3)) (fNil)))))) (gTp 4 (gCn (gNm 2) (gCn (gNm 3) (gCn (gNm 4) (gCn (gNm 5) (gNl)))))))))) (sFreeze 1 (sRet (fTup (fCons (fVar 1) (fCons (fTup (fCons (fVar 2) (fCons (fVar 3) (fCons (fVar 4) (fCons (fVar 5) (fNil)))))) (fNil))))))))
def m_noted : Fn := mkFn 7 b_noted
theorem sc_noted : FnScope ["matrix", "found", "a", "b", "c", "d", "many"] ["matrix"] (defScope s_noted) := ⟨rfl, rfl, rfl, by decide +kernel, rfl, by decide +kernel, by decide +kernel⟩
theorem ok_noted (Z : Txt P w K mg base) : FnG P w K T mg base 1 Z.a_noted Z.fd_noted ["matrix"] m_noted := fnG_ok (k := 0) (N := ["matrix", "found", "a", "b", "c", "d", "many"]) Z.F_noted sc_noted fun C cdv A outer s H E hcd hT hgd hr => by
  subst hT
  have sc := sc_noted
  exact (pf_scons (pf_asg (js := [2, 3, 4, 5]) (pf_var 0) (pf_gtp rfl (pf_gcn (pf_gnm 2 sc.nd) (pf_gcn (pf_gnm 3 sc.nd) (pf_gcn (pf_gnm 4 sc.nd) (pf_gcn (pf_gnm 5 sc.nd) (pf_gnl))))))) (pf_scons (pf_own 1 sc.nd (pl_lst (pf_nil))) (pf_scons (pf_while fuel (pf_pt (pf_andT (pt_ne hr (pf_var 4) (pf_int)) (pf_and1 (pt_le (pf_lenO 1 Z.n_len) (pf_gint Z.g_MOST_LETTERS))))) (pf_scons (pf_set 6 sc.nd (pf_fdiv (pf_var 2) (pf_var 4))) (pf_scons (pf_app 1 (pf_var 6)) (pf_sone (pf_asg (js := [2, 3, 4, 5]) (pf_tup (pf_cons (pf_var 4) (pf_cons (pf_var 5) (pf_cons (pf_sub (pf_mul (pf_var 6) (pf_var 4)) (pf_var 2)) (pf_cons (pf_sub (pf_mul (pf_var 6) (pf_var 5)) (pf_var 3)) (pf_nil)))))) (pf_gtp rfl (pf_gcn (pf_gnm 2 sc.nd) (pf_gcn (pf_gnm 3 sc.nd) (pf_gcn (pf_gnm 4 sc.nd) (pf_gcn (pf_gnm 5 sc.nd) (pf_gnl))))))))))) (pf_freeze 1 (pf_sone (pf_ret (pf_tup (pf_cons (pf_var 1) (pf_cons (pf_tup (pf_cons (pf_var 2) (pf_cons (pf_var 3) (pf_cons (pf_var 4) (pf_cons (pf_var 5) (pf_nil)))))) (pf_nil))))))))))
def b_shears : FS := sRet (fIf (fTest (fBin oGe (fVar 0) (fC (.int 0)))) (fTup (fCons (fC (.str "t")) (fCons (fVar 0) (fNil)))) (fTup (fCons (fC (.str "T")) (fCons (fUn oNeg (fVar 0)) (fNil)))))
def m_shears : Fn := mkFn 1 b_shears
theorem sc_shears : FnScope ["many"] ["many"] (defScope s_shears) := ⟨rfl, rfl, rfl, by decide +kernel, rfl, by decide +kernel, by decide +kernel⟩
theorem ok_shears (Z : Txt P w K mg base) : FnG P w K T mg base 1 Z.a_shears Z.fd_shears ["many"] m_shears := fnG_ok (k := 0) (N := ["many"]) Z.F_shears sc_shears fun C cdv A outer s H E hcd hT hgd hr => by
  subst hT
  have sc := sc_shears
  exact (pf_sone (pf_ret (pf_if (pt_ge (pf_var 0) (pf_int)) (pf_tup (pf_cons (pf_str) (pf_cons (pf_var 0) (pf_nil)))) (pf_tup (pf_cons (pf_str) (pf_cons (pf_neg (pf_var 0)) (pf_nil)))))))
def b_pieces_of : FS := sSeq (sAsg (fCall m_noted (fCons (fVar 0) (fNil))) (gTp 2 (gCn (gNm 3) (gCn (gNm 4) (gNl))))) (sSeq (sOwn 1 (lIf (fTest (fBin oEq (fIx (fVar 4) (fC (.int 0))) (fUn oNeg (fC (.int 1))))) (lLst (fCons (fTup (fCons (fC (.str "j")) (fCons (fC (.int 2)) (fNil)))) (fNil))) (lLst (fNil)))) (sSeq (sApp 1 (fCall m_shears (fCons (fBin oMul (fIx (fVar 4) (fC (.int 0))) (fIx (fVar 4) (fC (.int 1)))) (fNil)))) (sSeq (sFor (fIt (fUn oRev (fVar 3))) (gNm 2) (sExt 1 (fLst (fCons (fTup (fCons (fC (.str "j")) (fCons (fC (.int 1)) (fNil)))) (fCons (fCall m_shears (fCons (fVar 2) (fNil))) (fNil)))))) (sFreeze 1 (sRet (fVar 1))))))
def m_pieces_of : Fn := mkFn 5 b_pieces_of
theorem sc_pieces_of : FnScope ["matrix", "found", "many", "numbers", "left"] ["matrix"] (defScope s_pieces_of) := ⟨rfl, rfl, rfl, by decide +kernel, rfl, by decide +kernel, by decide +kernel⟩
theorem ok_pieces_of (Z : Txt P w K mg base) : FnG P w K T mg base 2 Z.a_pieces_of Z.fd_pieces_of ["matrix"] m_pieces_of := fnG_ok (k := 1) (N := ["matrix", "found", "many", "numbers", "left"]) Z.F_pieces_of sc_pieces_of fun C cdv A outer s H E hcd hT hgd hr => by
  subst hT
  have sc := sc_pieces_of
  exact (pf_scons (pf_asg (js := [3, 4]) (pf_call (ok_noted Z) Z.g_noted Z.F_noted.kp Z.b_noted hgd (hr.mono (by decide)) (takes_of rfl rfl rfl rfl) (pf_cons (pf_var 0) (pf_nil))) (pf_gtp rfl (pf_gcn (pf_gnm 3 sc.nd) (pf_gcn (pf_gnm 4 sc.nd) (pf_gnl))))) (pf_scons (pf_own 1 sc.nd (pl_if (pt_eq hr (pf_ix1 hr (pf_var 4) (pf_int)) (pf_neg (pf_int))) (pl_lst (pf_cons (pf_tup (pf_cons (pf_str) (pf_cons (pf_int) (pf_nil)))) (pf_nil))) (pl_lst (pf_nil)))) (pf_scons (pf_app 1 (pf_call (ok_shears Z) Z.g_shears Z.F_shears.kp Z.b_shears hgd (hr.mono (by decide)) (takes_of rfl rfl rfl rfl) (pf_cons (pf_mul (pf_ix1 hr (pf_var 4) (pf_int)) (pf_ix1 hr (pf_var 4) (pf_int))) (pf_nil)))) (pf_scons (pf_for (js := [2]) rfl (pf_iter (pf_rev (pf_var 3))) (pf_gnm 2 sc.nd) (pf_sone (pf_ext 1 (pf_lst (pf_cons (pf_tup (pf_cons (pf_str) (pf_cons (pf_int) (pf_nil)))) (pf_cons (pf_call (ok_shears Z) Z.g_shears Z.F_shears.kp Z.b_shears hgd (hr.mono (by decide)) (takes_of rfl rfl rfl rfl) (pf_cons (pf_var 2) (pf_nil))) (pf_nil))))))) (pf_freeze 1 (pf_sone (pf_ret (pf_var 1))))))))
def b_length_by : FS := sRet (fCallB oSum (fCons (fComp (fIt (fCall m_pieces_of (fCons (fVar 0) (fNil)))) (gTp 2 (gCn (gNm 1) (gCn (gNm 2) (gNl)))) [1, 2] (fYes) (fVar 2)) (fNil)))
def m_length_by : Fn := mkFn 3 b_length_by
theorem sc_length_by : FnScope ["matrix", "letter", "many"] ["matrix"] (defScope s_length_by) := ⟨rfl, rfl, rfl, by decide +kernel, rfl, by decide +kernel, by decide +kernel⟩
theorem ok_length_by (Z : Txt P w K mg base) : FnG P w K T mg base 3 Z.a_length_by Z.fd_length_by ["matrix"] m_length_by := fnG_ok (k := 2) (N := ["matrix", "letter", "many"]) Z.F_length_by sc_length_by fun C cdv A outer s H E hcd hT hgd hr => by
  subst hT
  have sc := sc_length_by
  exact (pf_sone (pf_ret (pf_sum rfl Z.n_sum (pf_cons (pf_compC ["matrix", "letter", "many"] (defScope s_length_by) [("letter", 1), ("many", 2)] rfl sc.nd (pf_iter (pf_call (ok_pieces_of Z) Z.g_pieces_of Z.F_pieces_of.kp Z.b_pieces_of hgd (hr.mono (by decide)) (takes_of rfl rfl rfl rfl) (pf_cons (pf_var 0) (pf_nil)))) (js := [1, 2]) (fun _ _ _ _ _ => pf_gtp rfl (pf_gcn (pf_gnm 1 sc.nd) (pf_gcn (pf_gnm 2 sc.nd) (pf_gnl)))) (fun _ _ _ _ _ => pf_tyes) (fun _ _ _ _ _ => pf_var 2)) (pf_nil)))))
def b_told_word_by : FS := sRet (fJoin (fC (.str "")) (fComp (fIt (fCall m_pieces_of (fCons (fVar 0) (fNil)))) (gTp 2 (gCn (gNm 1) (gCn (gNm 2) (gNl)))) [1, 2] (fYes) (fBin oMul (fVar 1) (fVar 2))))
def m_told_word_by : Fn := mkFn 3 b_told_word_by
theorem sc_told_word_by : FnScope ["matrix", "letter", "many"] ["matrix"] (defScope s_told_word_by) := ⟨rfl, rfl, rfl, by decide +kernel, rfl, by decide +kernel, by decide +kernel⟩
theorem ok_told_word_by (Z : Txt P w K mg base) : FnG P w K T mg base 3 Z.a_told_word_by Z.fd_told_word_by ["matrix"] m_told_word_by := fnG_ok (k := 2) (N := ["matrix", "letter", "many"]) Z.F_told_word_by sc_told_word_by fun C cdv A outer s H E hcd hT hgd hr => by
  subst hT
  have sc := sc_told_word_by
  exact (pf_sone (pf_ret (pf_join (pf_str) (pf_compC ["matrix", "letter", "many"] (defScope s_told_word_by) [("letter", 1), ("many", 2)] rfl sc.nd (pf_iter (pf_call (ok_pieces_of Z) Z.g_pieces_of Z.F_pieces_of.kp Z.b_pieces_of hgd (hr.mono (by decide)) (takes_of rfl rfl rfl rfl) (pf_cons (pf_var 0) (pf_nil)))) (js := [1, 2]) (fun _ _ _ _ _ => pf_gtp rfl (pf_gcn (pf_gnm 1 sc.nd) (pf_gcn (pf_gnm 2 sc.nd) (pf_gnl)))) (fun _ _ _ _ _ => pf_tyes) (fun _ _ _ _ _ => pf_mul (pf_var 1) (pf_var 2))))))
def b_is_moves : FS := sRet (fCall m_is_moves_of (fCons (fVar 0) (fNil)))
def m_is_moves : Fn := mkFn 1 b_is_moves
theorem sc_is_moves : FnScope ["value"] ["value"] (defScope s_is_moves) := ⟨rfl, rfl, rfl, by decide +kernel, rfl, by decide +kernel, by decide +kernel⟩
theorem ok_is_moves (Z : Txt P w K mg base) : FnG P w K T mg base 2 Z.a_is_moves Z.fd_is_moves ["value"] m_is_moves := fnG_ok (k := 1) (N := ["value"]) Z.F_is_moves sc_is_moves fun C cdv A outer s H E hcd hT hgd hr => by
  subst hT
  have sc := sc_is_moves
  exact (pf_sone (pf_ret (pf_call (ok_is_moves_of Z) Z.g_is_moves_of Z.F_is_moves_of.kp Z.b_is_moves_of hgd (hr.mono (by decide)) (takes_of rfl rfl rfl rfl) (pf_cons (pf_var 0) (pf_nil)))))
def b_matrix_of : FS := sSeq (sExpr (fCall m_check_moves (fCons (fVar 0) (fNil)))) (sRet (fCall m_matrix_by (fCons (fVar 0) (fNil))))
def m_matrix_of : Fn := mkFn 1 b_matrix_of
theorem sc_matrix_of : FnScope ["moves"] ["moves"] (defScope s_matrix_of) := ⟨rfl, rfl, rfl, by decide +kernel, rfl, by decide +kernel, by decide +kernel⟩
theorem ok_matrix_of (Z : Txt P w K mg base) : FnG P w K T mg base 4 Z.a_matrix_of Z.fd_matrix_of ["moves"] m_matrix_of := fnG_ok (k := 3) (N := ["moves"]) Z.F_matrix_of sc_matrix_of fun C cdv A outer s H E hcd hT hgd hr => by
  subst hT
  have sc := sc_matrix_of
  exact (pf_scons (pf_expr (pf_call (ok_check_moves Z) Z.g_check_moves Z.F_check_moves.kp Z.b_check_moves hgd (hr.mono (by decide)) (takes_of rfl rfl rfl rfl) (pf_cons (pf_var 0) (pf_nil)))) (pf_sone (pf_ret (pf_call (ok_matrix_by Z) Z.g_matrix_by Z.F_matrix_by.kp Z.b_matrix_by hgd (hr.mono (by decide)) (takes_of rfl rfl rfl rfl) (pf_cons (pf_var 0) (pf_nil))))))
def b_turned_moves : FS := sSeq (sExpr (fCall m_check_moves (fCons (fVar 0) (fNil)))) (sRet (fCall m_turned_moves_by (fCons (fVar 0) (fNil))))
def m_turned_moves : Fn := mkFn 1 b_turned_moves
theorem sc_turned_moves : FnScope ["moves"] ["moves"] (defScope s_turned_moves) := ⟨rfl, rfl, rfl, by decide +kernel, rfl, by decide +kernel, by decide +kernel⟩
theorem ok_turned_moves (Z : Txt P w K mg base) : FnG P w K T mg base 4 Z.a_turned_moves Z.fd_turned_moves ["moves"] m_turned_moves := fnG_ok (k := 3) (N := ["moves"]) Z.F_turned_moves sc_turned_moves fun C cdv A outer s H E hcd hT hgd hr => by
  subst hT
  have sc := sc_turned_moves
  exact (pf_scons (pf_expr (pf_call (ok_check_moves Z) Z.g_check_moves Z.F_check_moves.kp Z.b_check_moves hgd (hr.mono (by decide)) (takes_of rfl rfl rfl rfl) (pf_cons (pf_var 0) (pf_nil)))) (pf_sone (pf_ret (pf_call (ok_turned_moves_by Z) Z.g_turned_moves_by Z.F_turned_moves_by.kp Z.b_turned_moves_by hgd (hr.mono (by decide)) (takes_of rfl rfl rfl rfl) (pf_cons (pf_var 0) (pf_nil))))))
def b_told_word : FS := sSeq (sExpr (fCall m_check_matrix (fCons (fVar 0) (fNil)))) (sSeq (sExpr (fCall m_want_at_most (fCons (fC (.str "letters")) (fCons (fC (.int (400))) (fCons (fCall m_length_by (fCons (fVar 0) (fNil))) (fNil)))))) (sRet (fCall m_told_word_by (fCons (fVar 0) (fNil)))))
def m_told_word : Fn := mkFn 1 b_told_word
theorem sc_told_word : FnScope ["matrix"] ["matrix"] (defScope s_told_word) := ⟨rfl, rfl, rfl, by decide +kernel, rfl, by decide +kernel, by decide +kernel⟩
theorem ok_told_word (Z : Txt P w K mg base) : FnG P w K T mg base 5 Z.a_told_word Z.fd_told_word ["matrix"] m_told_word := fnG_ok (k := 4) (N := ["matrix"]) Z.F_told_word sc_told_word fun C cdv A outer s H E hcd hT hgd hr => by
  subst hT
  have sc := sc_told_word
  exact (pf_scons (pf_expr (pf_call (ok_check_matrix Z) Z.g_check_matrix Z.F_check_matrix.kp Z.b_check_matrix hgd (hr.mono (by decide)) (takes_of rfl rfl rfl rfl) (pf_cons (pf_var 0) (pf_nil)))) (pf_scons (pf_expr (pf_call (ok_want_at_most Z) Z.g_want_at_most Z.F_want_at_most.kp Z.b_want_at_most hgd (hr.mono (by decide)) (takes_of rfl rfl rfl rfl) (pf_cons (pf_str) (pf_cons (pf_gint Z.g_MOST_LETTERS) (pf_cons (pf_call (ok_length_by Z) Z.g_length_by Z.F_length_by.kp Z.b_length_by hgd (hr.mono (by decide)) (takes_of rfl rfl rfl rfl) (pf_cons (pf_var 0) (pf_nil))) (pf_nil)))))) (pf_sone (pf_ret (pf_call (ok_told_word_by Z) Z.g_told_word_by Z.F_told_word_by.kp Z.b_told_word_by hgd (hr.mono (by decide)) (takes_of rfl rfl rfl rfl) (pf_cons (pf_var 0) (pf_nil)))))))
def b_length : FS := sSeq (sExpr (fCall m_check_matrix (fCons (fVar 0) (fNil)))) (sSeq (sSet 1 (fCall m_length_by (fCons (fVar 0) (fNil)))) (sSeq (sExpr (fCall m_want_at_most (fCons (fC (.str "letters")) (fCons (fC (.int (400))) (fCons (fVar 1) (fNil)))))) (sRet (fVar 1))))
def m_length : Fn := mkFn 2 b_length
theorem sc_length : FnScope ["matrix", "many"] ["matrix"] (defScope s_length) := ⟨rfl, rfl, rfl, by decide +kernel, rfl, by decide +kernel, by decide +kernel⟩
theorem ok_length (Z : Txt P w K mg base) : FnG P w K T mg base 5 Z.a_length Z.fd_length ["matrix"] m_length := fnG_ok (k := 4) (N := ["matrix", "many"]) Z.F_length sc_length fun C cdv A outer s H E hcd hT hgd hr => by
  subst hT
  have sc := sc_length
  exact (pf_scons (pf_expr (pf_call (ok_check_matrix Z) Z.g_check_matrix Z.F_check_matrix.kp Z.b_check_matrix hgd (hr.mono (by decide)) (takes_of rfl rfl rfl rfl) (pf_cons (pf_var 0) (pf_nil)))) (pf_scons (pf_set 1 sc.nd (pf_call (ok_length_by Z) Z.g_length_by Z.F_length_by.kp Z.b_length_by hgd (hr.mono (by decide)) (takes_of rfl rfl rfl rfl) (pf_cons (pf_var 0) (pf_nil)))) (pf_scons (pf_expr (pf_call (ok_want_at_most Z) Z.g_want_at_most Z.F_want_at_most.kp Z.b_want_at_most hgd (hr.mono (by decide)) (takes_of rfl rfl rfl rfl) (pf_cons (pf_str) (pf_cons (pf_gint Z.g_MOST_LETTERS) (pf_cons (pf_var 1) (pf_nil)))))) (pf_sone (pf_ret (pf_var 1))))))
def b1__law_pot : FS := sSet 2 (fIf (fTest (fBin oLt (fVar 1) (fCallB oLen (fCons (fVar 0) (fNil))))) (fCallB oAbs (fCons (fIx (fVar 0) (fVar 1)) (fNil))) (fBin oAdd (fBin oAdd (fBin oMul (fC (.int 7773)) (fVar 1)) (fC (.int 3475))) (fCallB oInt (fCons (fBin oMod (fCallB oSum (fCons (fComp (fIt (fVar 0)) (gNm 3) [3] (fYes) (fCallB oAbs (fCons (fVar 3) (fNil)))) (fNil))) (fC (.int 1000003))) (fNil)))))
def bl__law_pot : FA := lLst (fCons (fCallB oMax2 (fCons (fC (.int 0)) (fCons (fBin oSub (fVar 2) (fBin oPow (fC (.int 10)) (fC (.int 18)))) (fNil)))) (fCons (fBin oAdd (fBin oMod (fCallB oInt (fCons (fBin oAdd (fBin oAdd (fBin oMul (fBin oMod (fCallB oInt (fCons (fVar 2) (fNil))) (fC (.int 2147483549))) (fC (.int 31271))) (fBin oMul (fC (.int 929)) (fVar 1))) (fC (.int 165))) (fNil))) (fC (.int 2147483563))) (fC (.int 1))) (fNil)))
def pot__law_pot : List PV → Option (Int × Int) := potR 4 b1__law_pot bl__law_pot
theorem sc__law_pot : FnScope ["script", "k", "cell", "one"] ["script", "k"] (defScope s__law_pot) := ⟨rfl, rfl, rfl, by decide +kernel, rfl, by decide +kernel, by decide +kernel⟩
theorem ok__law_pot (Z : Txt P w K mg base) : FnOk P w K mg base (L2.CX P w) 1 Z.a__law_pot Z.fd__law_pot ["script", "k"] (spP K T ["script", "k"].length pot__law_pot) := fnP_ok (k := 0) (N := ["script", "k", "cell", "one"]) Z.F__law_pot sc__law_pot rfl fun C cdv A outer s H E hr => by
  have sc := sc__law_pot
  exact ⟨(pf_set 2 sc.nd (pf_if (pt_lt (pf_var 1) (pf_len Z.n_len (pf_cons (pf_var 0) (pf_nil)))) (pf_abs Z.n_abs (pf_cons (pf_ix1 hr (pf_var 0) (pf_var 1)) (pf_nil))) (pf_add (pf_add (pf_mul (pf_int) (pf_var 1)) (pf_int)) (pf_int1 Z.n_int (pf_cons (pf_mod (pf_sum rfl Z.n_sum (pf_cons (pf_compC ["script", "k", "cell", "one"] (defScope s__law_pot) [("one", 3)] rfl sc.nd (pf_iter (pf_var 0)) (js := [3]) (fun _ _ _ _ _ => pf_gnm 3 sc.nd) (fun _ _ _ _ _ => pf_tyes) (fun _ _ _ _ _ => pf_abs Z.n_abs (pf_cons (pf_var 3) (pf_nil)))) (pf_nil))) (pf_int)) (pf_nil)))))), (pl_lst (pf_cons (pf_max rfl Z.n_max (pf_cons (pf_int) (pf_cons (pf_sub (pf_var 2) (pf_pow (pf_int) (pf_int))) (pf_nil)))) (pf_cons (pf_add (pf_mod (pf_int1 Z.n_int (pf_cons (pf_add (pf_add (pf_mul (pf_mod (pf_int1 Z.n_int (pf_cons (pf_var 2) (pf_nil))) (pf_int)) (pf_int)) (pf_mul (pf_int) (pf_var 1))) (pf_int)) (pf_nil))) (pf_int)) (pf_int)) (pf_nil))))⟩
def b__law_draw : FS := sSeq (sIf (fTest (fBin oGt (fIx (fVar 0) (fC (.int 0))) (fC (.int 0)))) (sSeq (sAsg (fCallB oDivmod (fCons (fIx (fVar 0) (fC (.int 0))) (fCons (fVar 1) (fNil)))) (gTp 2 (gCn (gPot (fVar 0) (fC (.int 0))) (gCn (gNm 2) (gNl))))) (sRet (fVar 2))) (sNil)) (sSeq (sAsg (fBin oMod (fCallB oInt (fCons (fBin oAdd (fBin oMul (fIx (fVar 0) (fC (.int 1))) (fC (.int 48271))) (fC (.int 165))) (fNil))) (fC (.int 2147483587))) (gPot (fVar 0) (fC (.int 1)))) (sRet (fBin oMod (fCallB oInt (fCons (fBin oDiv (fBin oMod (fCallB oInt (fCons (fBin oMul (fIx (fVar 0) (fC (.int 1))) (fIx (fVar 0) (fC (.int 1)))) (fNil))) (fC (.int 2147483549))) (fC (.int 23))) (fNil))) (fVar 1))))
def m__law_draw : Fn := mkFn 3 b__law_draw
theorem sc__law_draw : FnScope ["pot", "many", "digit"] ["pot", "many"] (defScope s__law_draw) := ⟨rfl, rfl, rfl, by decide +kernel, rfl, by decide +kernel, by decide +kernel⟩
theorem ok__law_draw (Z : Txt P w K mg base) : FnG P w K T mg base 1 Z.a__law_draw Z.fd__law_draw ["pot", "many"] m__law_draw := fnG_ok (k := 0) (N := ["pot", "many", "digit"]) Z.F__law_draw sc__law_draw fun C cdv A outer s H E hcd hT hgd hr => by
  subst hT
  have sc := sc__law_draw
  exact (pf_scons (pf_sif (pt_gt (pf_ix1 hr (pf_var 0) (pf_int)) (pf_int)) (pf_scons (pf_asg (js := [2]) (pf_divmod Z.n_divmod (pf_cons (pf_ix1 hr (pf_var 0) (pf_int)) (pf_cons (pf_var 1) (pf_nil)))) (pf_gtp rfl (pf_gcn (pf_gpot (pf_var 0) (pf_int)) (pf_gcn (pf_gnm 2 sc.nd) (pf_gnl))))) (pf_sone (pf_ret (pf_var 2)))) (pf_snil)) (pf_scons (pf_asg (js := []) (pf_mod (pf_int1 Z.n_int (pf_cons (pf_add (pf_mul (pf_ix1 hr (pf_var 0) (pf_int)) (pf_int)) (pf_int)) (pf_nil))) (pf_int)) (pf_gpot (pf_var 0) (pf_int))) (pf_sone (pf_ret (pf_mod (pf_int1 Z.n_int (pf_cons (pf_fdiv (pf_mod (pf_int1 Z.n_int (pf_cons (pf_mul (pf_ix1 hr (pf_var 0) (pf_int)) (pf_ix1 hr (pf_var 0) (pf_int))) (pf_nil))) (pf_int)) (pf_int)) (pf_nil))) (pf_var 1))))))
def b__law_pick : FS := sRet (fIx (fVar 1) (fCall m__law_draw (fCons (fVar 0) (fCons (fCallB oLen (fCons (fVar 1) (fNil))) (fNil)))))
def m__law_pick : Fn := mkFn 2 b__law_pick
theorem sc__law_pick : FnScope ["pot", "some"] ["pot", "some"] (defScope s__law_pick) := ⟨rfl, rfl, rfl, by decide +kernel, rfl, by decide +kernel, by decide +kernel⟩
theorem ok__law_pick (Z : Txt P w K mg base) : FnG P w K T mg base 2 Z.a__law_pick Z.fd__law_pick ["pot", "some"] m__law_pick := fnG_ok (k := 1) (N := ["pot", "some"]) Z.F__law_pick sc__law_pick fun C cdv A outer s H E hcd hT hgd hr => by
  subst hT
  have sc := sc__law_pick
  exact (pf_sone (pf_ret (pf_ix1 hr (pf_var 1) (pf_call (ok__law_draw Z) Z.g__law_draw Z.F__law_draw.kp Z.b__law_draw hgd (hr.mono (by decide)) (takes_of rfl rfl rfl rfl) (pf_cons (pf_var 0) (pf_cons (pf_len Z.n_len (pf_cons (pf_var 1) (pf_nil))) (pf_nil)))))))
def b__law_turned_moves : FS := sRet (fJoin (fC (.str "")) (fComp (fIt (fUn oRev (fVar 0))) (gNm 1) [1] (fYes) (fIx (fDic [(.inr "t", fC (.str "T")), (.inr "T", fC (.str "t")), (.inr "v", fC (.str "V")), (.inr "V", fC (.str "v")), (.inr "j", fC (.str "J")), (.inr "J", fC (.str "j"))]) (fVar 1))))
def m__law_turned_moves : Fn := mkFn 2 b__law_turned_moves
theorem sc__law_turned_moves : FnScope ["moves", "letter"] ["moves"] (defScope s__law_turned_moves) := ⟨rfl, rfl, rfl, by decide +kernel, rfl, by decide +kernel, by decide +kernel⟩
theorem ok__law_turned_moves (Z : Txt P w K mg base) : FnG P w K T mg base 1 Z.a__law_turned_moves Z.fd__law_turned_moves ["moves"] m__law_turned_moves := fnG_ok (k := 0) (N := ["moves", "letter"]) Z.F__law_turned_moves sc__law_turned_moves fun C cdv A outer s H E hcd hT hgd hr => by
  subst hT
  have sc := sc__law_turned_moves
  exact (pf_sone (pf_ret (pf_join (pf_str) (pf_compC ["moves", "letter"] (defScope s__law_turned_moves) [("letter", 1)] rfl sc.nd (pf_iter (pf_rev (pf_var 0))) (js := [1]) (fun _ _ _ _ _ => pf_gnm 1 sc.nd) (fun _ _ _ _ _ => pf_tyes) (fun _ _ _ _ _ => pf_ix1 hr (pf_dic (pd_str (pf_str) (pd_str (pf_str) (pd_str (pf_str) (pd_str (pf_str) (pd_str (pf_str) (pd_str (pf_str) (pd_nil)))))))) (pf_var 1))))))
def b__law_product : FS := sSeq (sAsg (fVar 0) (gTp 4 (gCn (gNm 2) (gCn (gNm 3) (gCn (gNm 4) (gCn (gNm 5) (gNl))))))) (sSeq (sAsg (fVar 1) (gTp 4 (gCn (gNm 6) (gCn (gNm 7) (gCn (gNm 8) (gCn (gNm 9) (gNl))))))) (sRet (fTup (fCons (fBin oAdd (fBin oMul (fVar 2) (fVar 6)) (fBin oMul (fVar 3) (fVar 8))) (fCons (fBin oAdd (fBin oMul (fVar 2) (fVar 7)) (fBin oMul (fVar 3) (fVar 9))) (fCons (fBin oAdd (fBin oMul (fVar 4) (fVar 6)) (fBin oMul (fVar 5) (fVar 8))) (fCons (fBin oAdd (fBin oMul (fVar 4) (fVar 7)) (fBin oMul (fVar 5) (fVar 9))) (fNil))))))))
def m__law_product : Fn := mkFn 10 b__law_product
theorem sc__law_product : FnScope ["one", "other", "a", "b", "c", "d", "e", "f", "g", "h"] ["one", "other"] (defScope s__law_product) := ⟨rfl, rfl, rfl, by decide +kernel, rfl, by decide +kernel, by decide +kernel⟩
theorem ok__law_product (Z : Txt P w K mg base) : FnG P w K T mg base 1 Z.a__law_product Z.fd__law_product ["one", "other"] m__law_product := fnG_ok (k := 0) (N := ["one", "other", "a", "b", "c", "d", "e", "f", "g", "h"]) Z.F__law_product sc__law_product fun C cdv A outer s H E hcd hT hgd hr => by
  subst hT
  have sc := sc__law_product
  exact (pf_scons (pf_asg (js := [2, 3, 4, 5]) (pf_var 0) (pf_gtp rfl (pf_gcn (pf_gnm 2 sc.nd) (pf_gcn (pf_gnm 3 sc.nd) (pf_gcn (pf_gnm 4 sc.nd) (pf_gcn (pf_gnm 5 sc.nd) (pf_gnl))))))) (pf_scons (pf_asg (js := [6, 7, 8, 9]) (pf_var 1) (pf_gtp rfl (pf_gcn (pf_gnm 6 sc.nd) (pf_gcn (pf_gnm 7 sc.nd) (pf_gcn (pf_gnm 8 sc.nd) (pf_gcn (pf_gnm 9 sc.nd) (pf_gnl))))))) (pf_sone (pf_ret (pf_tup (pf_cons (pf_add (pf_mul (pf_var 2) (pf_var 6)) (pf_mul (pf_var 3) (pf_var 8))) (pf_cons (pf_add (pf_mul (pf_var 2) (pf_var 7)) (pf_mul (pf_var 3) (pf_var 9))) (pf_cons (pf_add (pf_mul (pf_var 4) (pf_var 6)) (pf_mul (pf_var 5) (pf_var 8))) (pf_cons (pf_add (pf_mul (pf_var 4) (pf_var 7)) (pf_mul (pf_var 5) (pf_var 9))) (pf_nil))))))))))
def b__law_matrix_of : FS := sSeq (sSet 1 (fTup (fCons (fC (.int 1)) (fCons (fC (.int 0)) (fCons (fC (.int 0)) (fCons (fC (.int 1)) (fNil))))))) (sSeq (sSet 2 (fDic [(.inr "t", fTup (fCons (fC (.int 1)) (fCons (fC (.int 1)) (fCons (fC (.int 0)) (fCons (fC (.int 1)) (fNil)))))), (.inr "T", fTup (fCons (fC (.int 1)) (fCons (fUn oNeg (fC (.int 1))) (fCons (fC (.int 0)) (fCons (fC (.int 1)) (fNil)))))), (.inr "v", fTup (fCons (fC (.int 1)) (fCons (fC (.int 0)) (fCons (fC (.int 1)) (fCons (fC (.int 1)) (fNil)))))), (.inr "V", fTup (fCons (fC (.int 1)) (fCons (fC (.int 0)) (fCons (fUn oNeg (fC (.int 1))) (fCons (fC (.int 1)) (fNil)))))), (.inr "j", fTup (fCons (fC (.int 0)) (fCons (fUn oNeg (fC (.int 1))) (fCons (fC (.int 1)) (fCons (fC (.int 0)) (fNil)))))), (.inr "J", fTup (fCons (fC (.int 0)) (fCons (fC (.int 1)) (fCons (fUn oNeg (fC (.int 1))) (fCons (fC (.int 0)) (fNil))))))])) (sSeq (sFor (fIt (fVar 0)) (gNm 3) (sSet 1 (fCall m__law_product (fCons (fIx (fVar 2) (fVar 3)) (fCons (fVar 1) (fNil)))))) (sRet (fVar 1))))
def m__law_matrix_of : Fn := mkFn 4 b__law_matrix_of
theorem sc__law_matrix_of : FnScope ["moves", "found", "led_by", "letter"] ["moves"] (defScope s__law_matrix_of) := ⟨rfl, rfl, rfl, by decide +kernel, rfl, by decide +kernel, by decide +kernel⟩
theorem ok__law_matrix_of (Z : Txt P w K mg base) : FnG P w K T mg base 2 Z.a__law_matrix_of Z.fd__law_matrix_of ["moves"] m__law_matrix_of := fnG_ok (k := 1) (N := ["moves", "found", "led_by", "letter"]) Z.F__law_matrix_of sc__law_matrix_of fun C cdv A outer s H E hcd hT hgd hr => by
  subst hT
  have sc := sc__law_matrix_of
  exact (pf_scons (pf_set 1 sc.nd (pf_tup (pf_cons (pf_int) (pf_cons (pf_int) (pf_cons (pf_int) (pf_cons (pf_int) (pf_nil))))))) (pf_scons (pf_set 2 sc.nd (pf_dic (pd_str (pf_tup (pf_cons (pf_int) (pf_cons (pf_int) (pf_cons (pf_int) (pf_cons (pf_int) (pf_nil)))))) (pd_str (pf_tup (pf_cons (pf_int) (pf_cons (pf_neg (pf_int)) (pf_cons (pf_int) (pf_cons (pf_int) (pf_nil)))))) (pd_str (pf_tup (pf_cons (pf_int) (pf_cons (pf_int) (pf_cons (pf_int) (pf_cons (pf_int) (pf_nil)))))) (pd_str (pf_tup (pf_cons (pf_int) (pf_cons (pf_int) (pf_cons (pf_neg (pf_int)) (pf_cons (pf_int) (pf_nil)))))) (pd_str (pf_tup (pf_cons (pf_int) (pf_cons (pf_neg (pf_int)) (pf_cons (pf_int) (pf_cons (pf_int) (pf_nil)))))) (pd_str (pf_tup (pf_cons (pf_int) (pf_cons (pf_int) (pf_cons (pf_neg (pf_int)) (pf_cons (pf_int) (pf_nil)))))) (pd_nil))))))))) (pf_scons (pf_for (js := [3]) rfl (pf_iter (pf_var 0)) (pf_gnm 3 sc.nd) (pf_sone (pf_set 1 sc.nd (pf_call (ok__law_product Z) Z.g__law_product Z.F__law_product.kp Z.b__law_product hgd (hr.mono (by decide)) (takes_of rfl rfl rfl rfl) (pf_cons (pf_ix1 hr (pf_var 2) (pf_var 3)) (pf_cons (pf_var 1) (pf_nil))))))) (pf_sone (pf_ret (pf_var 1))))))
def b__law_moves : FS := sRet (fJoin (fC (.str "")) (fComp (fRg1 (fCons (fCall m__law_draw (fCons (fVar 0) (fCons (fBin oAdd (fVar 1) (fC (.int 1))) (fNil)))) (fNil))) (gNm 2) [2] (fYes) (fCall m__law_pick (fCons (fVar 0) (fCons (fC (.str "tTvVjJ")) (fNil))))))
def m__law_moves : Fn := mkFn 3 b__law_moves
theorem sc__law_moves : FnScope ["pot", "most", "turn"] ["pot", "most"] (defScope s__law_moves) := ⟨rfl, rfl, rfl, by decide +kernel, rfl, by decide +kernel, by decide +kernel⟩
theorem ok__law_moves (Z : Txt P w K mg base) : FnG P w K T mg base 3 Z.a__law_moves Z.fd__law_moves ["pot", "most"] m__law_moves := fnG_ok (k := 2) (N := ["pot", "most", "turn"]) Z.F__law_moves sc__law_moves fun C cdv A outer s H E hcd hT hgd hr => by
  subst hT
  have sc := sc__law_moves
  exact (pf_sone (pf_ret (pf_join (pf_str) (pf_compC ["pot", "most", "turn"] (defScope s__law_moves) [("turn", 2)] rfl sc.nd (pf_range1 Z.n_range (pf_cons (pf_call (ok__law_draw Z) Z.g__law_draw Z.F__law_draw.kp Z.b__law_draw hgd (hr.mono (by decide)) (takes_of rfl rfl rfl rfl) (pf_cons (pf_var 0) (pf_cons (pf_add (pf_var 1) (pf_int)) (pf_nil)))) (pf_nil))) (js := [2]) (fun _ _ _ _ _ => pf_gnm 2 sc.nd) (fun _ _ _ _ _ => pf_tyes) (fun _ _ _ _ _ => pf_call (ok__law_pick Z) Z.g__law_pick Z.F__law_pick.kp Z.b__law_pick hgd (hr.mono (by decide)) takesW0 (pf_cons (pf_var 0) (pf_cons (pf_str) (pf_nil))))))))
def b__law_told : FS := sSeq (sAsg (fVar 0) (gTp 4 (gCn (gNm 6) (gCn (gNm 7) (gCn (gNm 8) (gCn (gNm 9) (gNl))))))) (sSeq (sOwn 1 (lLst (fNil))) (sSeq (sWhile fuel (fTest (fBin oNe (fVar 8) (fC (.int 0)))) (sSeq (sSet 5 (fBin oDiv (fVar 6) (fVar 8))) (sSeq (sApp 1 (fVar 5)) (sAsg (fTup (fCons (fVar 8) (fCons (fVar 9) (fCons (fBin oSub (fBin oMul (fVar 5) (fVar 8)) (fVar 6)) (fCons (fBin oSub (fBin oMul (fVar 5) (fVar 9)) (fVar 7)) (fNil)))))) (gTp 4 (gCn (gNm 6) (gCn (gNm 7) (gCn (gNm 8) (gCn (gNm 9) (gNl)))))))))) (sSeq (sSet 2 (fBin oMul (fVar 6) (fVar 7))) (sFreeze 1 (sSeq (sSet 3 (fBin oAdd (fBin oAdd (fCallB oAbs (fCons (fVar 2) (fNil))) (fIf (fTest (fBin oEq (fVar 6) (fUn oNeg (fC (.int 1))))) (fC (.int 2)) (fC (.int 0)))) (fCallB oSum (fCons (fComp (fIt (fVar 1)) (gNm 5) [5] (fYes) (fBin oAdd (fC (.int 1)) (fCallB oAbs (fCons (fVar 5) (fNil))))) (fNil))))) (sSeq (sIf (fTest (fBin oGt (fVar 3) (fC (.int 400)))) (sRet (fTup (fCons (fVar 3) (fCons (fC .non) (fNil))))) (sNil)) (sSeq (sSet 4 (fBin oAdd (fIf (fTest (fBin oEq (fVar 6) (fUn oNeg (fC (.int 1))))) (fC (.str "jj")) (fC (.str ""))) (fBin oMul (fIf (fTest (fBin oGt (fVar 2) (fC (.int 0)))) (fC (.str "t")) (fC (.str "T"))) (fCallB oAbs (fCons (fVar 2) (fNil)))))) (sSeq (sFor (fIt (fUn oRev (fVar 1))) (gNm 5) (sSet 4 (fBin oAdd (fBin oAdd (fVar 4) (fC (.str "j"))) (fBin oMul (fIf (fTest (fBin oGt (fVar 5) (fC (.int 0)))) (fC (.str "t")) (fC (.str "T"))) (fCallB oAbs (fCons (fVar 5) (fNil))))))) (sRet (fTup (fCons (fVar 3) (fCons (fVar 4) (fNil)))))))))))))
def m__law_told : Fn := mkFn 10 b__law_told
theorem sc__law_told : FnScope ["matrix", "noted_v", "many", "count", "word", "k", "a", "b", "c", "d"] ["matrix"] (defScope s__law_told) := ⟨rfl, rfl, rfl, by decide +kernel, rfl, by decide +kernel, by decide +kernel⟩
theorem ok__law_told (Z : Txt P w K mg base) : FnG P w K T mg base 1 Z.a__law_told Z.fd__law_told ["matrix"] m__law_told := fnG_ok (k := 0) (N := ["matrix", "noted_v", "many", "count", "word", "k", "a", "b", "c", "d"]) Z.F__law_told sc__law_told fun C cdv A outer s H E hcd hT hgd hr => by
  subst hT
  have sc := sc__law_told
  exact (pf_scons (pf_asg (js := [6, 7, 8, 9]) (pf_var 0) (pf_gtp rfl (pf_gcn (pf_gnm 6 sc.nd) (pf_gcn (pf_gnm 7 sc.nd) (pf_gcn (pf_gnm 8 sc.nd) (pf_gcn (pf_gnm 9 sc.nd) (pf_gnl))))))) (pf_scons (pf_own 1 sc.nd (pl_lst (pf_nil))) (pf_scons (pf_while fuel (pt_ne hr (pf_var 8) (pf_int)) (pf_scons (pf_set 5 sc.nd (pf_fdiv (pf_var 6) (pf_var 8))) (pf_scons (pf_app 1 (pf_var 5)) (pf_sone (pf_asg (js := [6, 7, 8, 9]) (pf_tup (pf_cons (pf_var 8) (pf_cons (pf_var 9) (pf_cons (pf_sub (pf_mul (pf_var 5) (pf_var 8)) (pf_var 6)) (pf_cons (pf_sub (pf_mul (pf_var 5) (pf_var 9)) (pf_var 7)) (pf_nil)))))) (pf_gtp rfl (pf_gcn (pf_gnm 6 sc.nd) (pf_gcn (pf_gnm 7 sc.nd) (pf_gcn (pf_gnm 8 sc.nd) (pf_gcn (pf_gnm 9 sc.nd) (pf_gnl))))))))))) (pf_scons (pf_set 2 sc.nd (pf_mul (pf_var 6) (pf_var 7))) (pf_freeze 1 (pf_scons (pf_set 3 sc.nd (pf_add (pf_add (pf_abs Z.n_abs (pf_cons (pf_var 2) (pf_nil))) (pf_if (pt_eq hr (pf_var 6) (pf_neg (pf_int))) (pf_int) (pf_int))) (pf_sum rfl Z.n_sum (pf_cons (pf_compC ["matrix", "noted_v", "many", "count", "word", "k", "a", "b", "c", "d"] (defScope s__law_told) [("k", 5)] rfl sc.nd (pf_iter (pf_var 1)) (js := [5]) (fun _ _ _ _ _ => pf_gnm 5 sc.nd) (fun _ _ _ _ _ => pf_tyes) (fun _ _ _ _ _ => pf_add (pf_int) (pf_abs Z.n_abs (pf_cons (pf_var 5) (pf_nil))))) (pf_nil))))) (pf_scons (pf_sif (pt_gt (pf_var 3) (pf_int)) (pf_sone (pf_ret (pf_tup (pf_cons (pf_var 3) (pf_cons (pf_non) (pf_nil)))))) (pf_snil)) (pf_scons (pf_set 4 sc.nd (pf_add (pf_if (pt_eq hr (pf_var 6) (pf_neg (pf_int))) (pf_str) (pf_str)) (pf_mul (pf_if (pt_gt (pf_var 2) (pf_int)) (pf_str) (pf_str)) (pf_abs Z.n_abs (pf_cons (pf_var 2) (pf_nil)))))) (pf_scons (pf_for (js := [5]) rfl (pf_iter (pf_rev (pf_var 1))) (pf_gnm 5 sc.nd) (pf_sone (pf_set 4 sc.nd (pf_add (pf_add (pf_var 4) (pf_str)) (pf_mul (pf_if (pt_gt (pf_var 5) (pf_int)) (pf_str) (pf_str)) (pf_abs Z.n_abs (pf_cons (pf_var 5) (pf_nil)))))))) (pf_sone (pf_ret (pf_tup (pf_cons (pf_var 3) (pf_cons (pf_var 4) (pf_nil)))))))))))))))
def b__law_heard (tl : PS → R PV) : FS := sSeq (sSet 1 (fLst (fCons (fC (.str "let")) (fNil)))) (sSeq (sTry (sSet 1 (fLst (fCons (fC (.str "told")) (fCons (fLam tl) (fNil))))) [⟨is_TooMany, 2, fun c fs => sSet 1 (fLst (fCons (fFld fs 2 "what") (fCons (fFld fs 2 "limit") (fCons (fIsE 2 is_LimitError c) (fNil)))))⟩, ⟨is_InvalidMoves, 2, fun c fs => sSet 1 (fLst (fCons (fC (.str "moves")) (fCons (fCallB oRepr (fCons (fFld fs 2 "value") (fNil))) (fCons (fIsE 2 is_FloorError c) (fNil)))))⟩]) (sRet (fVar 1)))
def m__law_heard : (PS → R PV) → PS → R PV := mkL 3 b__law_heard
theorem sc__law_heard : FnScope ["call", "told", "e"] ["call"] (defScope s__law_heard) := ⟨rfl, rfl, rfl, by decide +kernel, rfl, by decide +kernel, by decide +kernel⟩
theorem ok__law_heard (Z : Txt P w K mg base) : FnL P w K T mg base 10 12 Z.a__law_heard Z.fd__law_heard "call" m__law_heard := fnL_ok (j := 10) (k := 11) (N := ["call", "told", "e"]) Z.F__law_heard sc__law_heard (by decide) rfl (.inl rfl) (by decide) (by decide) fun C cdv A outer s H E tl hT hgd hr act => by
  subst hT
  have sc := sc__law_heard
  exact (pf_scons (pf_set 1 sc.nd (pf_lst (pf_cons (pf_str) (pf_nil)))) (pf_scons (pf_try rfl rfl sc.nd (takes_of rfl rfl rfl rfl) (fun W1 pn xe tk _ => pf_sone (pf_set 1 sc.nd (pf_lst (pf_cons (pf_str) (pf_cons (act _ _ _ _ _ tk) (pf_nil)))))) (.cons (h := ⟨is_TooMany, 2, fun c fs => sSet 1 (fLst (fCons (fFld fs 2 "what") (fCons (fFld fs 2 "limit") (fCons (fIsE 2 is_LimitError c) (fNil)))))⟩) ⟨rfl, by decide, .inl Z.g_TooMany⟩ rfl rfl (exm_TooMany Z) (fun a oe cls d pn C1 c fs hz hf hk hl => pf_sone (pf_set 1 sc.nd (pf_lst (pf_cons (pf_fld (is := is_TooMany) 2 hk hz hf hl (fld_TooMany_what Z)) (pf_cons (pf_fld (is := is_TooMany) 2 hk hz hf hl (fld_TooMany_limit Z)) (pf_cons (pf_isE 2 hk hz hf (isi_LimitError Z) Z.n_isinstance Z.g_LimitError) (pf_nil))))))) (.cons (h := ⟨is_InvalidMoves, 2, fun c fs => sSet 1 (fLst (fCons (fC (.str "moves")) (fCons (fCallB oRepr (fCons (fFld fs 2 "value") (fNil))) (fCons (fIsE 2 is_FloorError c) (fNil)))))⟩) ⟨rfl, by decide, .inl Z.g_InvalidMoves⟩ rfl rfl (exm_InvalidMoves Z) (fun a oe cls d pn C1 c fs hz hf hk hl => pf_sone (pf_set 1 sc.nd (pf_lst (pf_cons (pf_str) (pf_cons (pf_repr hgd hr.u100 Z.n_repr (pf_cons (pf_fld (is := is_InvalidMoves) 2 hk hz hf hl (fld_InvalidMoves_value Z)) (pf_nil))) (pf_cons (pf_isE 2 hk hz hf (isi_FloorError Z) Z.n_isinstance Z.g_FloorError) (pf_nil))))))) (HdF.nil)))) (pf_sone (pf_ret (pf_var 1)))))
def b__law_matrix_right : FS := sSeq (sAsg (fCall m__law_told (fCons (fVar 0) (fNil))) (gTp 2 (gCn (gNm 4) (gCn (gNm 5) (gNl))))) (sSeq (sSet 1 (fIf (fTest (fBin oIsNot (fVar 5) (fC .non))) (fLst (fCons (fLst (fCons (fC (.str "told")) (fCons (fVar 5) (fNil)))) (fCons (fLst (fCons (fC (.str "told")) (fCons (fVar 4) (fNil)))) (fNil)))) (fBin oMul (fLst (fCons (fLst (fCons (fC (.str "letters")) (fCons (fC (.int 400)) (fCons (fC (.bl true)) (fNil))))) (fNil))) (fC (.int 2))))) (sSeq (sOwn 2 (lLst (fCons (fHear m__law_heard (fCall m_told_word (fCons (fVar 0) (fNil)))) (fNil)))) (sSeq (sApp 2 (fHear m__law_heard (fCall m_length (fCons (fVar 0) (fNil))))) (sSeq (sApp 2 (fHear m__law_heard (fCallK m_told_word [0] (fCons (fVar 0) (fNil))))) (sSeq (sApp 2 (fHear m__law_heard (fCallK m_length [0] (fCons (fVar 0) (fNil))))) (sFreeze 2 (sSeq (sIf (fTest (fBin oNe (fCallB oRepr (fCons (fVar 2) (fNil))) (fCallB oRepr (fCons (fBin oAdd (fVar 1) (fVar 1)) (fNil))))) (sRet (fC (.bl false))) (sNil)) (sSeq (sIf (fTest (fBin oIs (fVar 5) (fC .non))) (sRet (fC (.bl true))) (sNil)) (sSeq (sSet 3 (fCall m__law_turned_moves (fCons (fVar 5) (fNil)))) (sSeq (sIf (fOrT (fTest (fBin oNe (fCall m__law_matrix_of (fCons (fVar 5) (fNil))) (fVar 0))) (fOrT (fTest (fBin oNe (fCall m_matrix_of (fCons (fVar 5) (fNil))) (fVar 0))) (fOrT (fTest (fBin oNe (fCallB oLen (fCons (fVar 5) (fNil))) (fVar 4))) (fNotT (fTest (fCall m_is_moves (fCons (fVar 5) (fNil)))))))) (sRet (fC (.bl false))) (sNil)) (sRet (fAndV (fBin oEq (fCall m_turned_moves (fCons (fVar 5) (fNil))) (fVar 3)) (fAndV (fBin oEq (fCall m_matrix_of (fCons (fVar 3) (fNil))) (fCall m_inverse (fCons (fVar 0) (fNil)))) (fBin oEq (fCall m_told_word (fCons (fCall m_matrix_of (fCons (fVar 5) (fNil))) (fNil))) (fVar 5)))))))))))))))
def m__law_matrix_right : Fn := mkFn 6 b__law_matrix_right
theorem sc__law_matrix_right : FnScope ["matrix", "due", "heard", "back", "count", "word"] ["matrix"] (defScope s__law_matrix_right) := ⟨rfl, rfl, rfl, by decide +kernel, rfl, by decide +kernel, by decide +kernel⟩
theorem ok__law_matrix_right (Z : Txt P w K mg base) (hZT : T = Z.TT) : FnG P w K T mg base 14 Z.a__law_matrix_right Z.fd__law_matrix_right ["matrix"] m__law_matrix_right := fnG_ok (k := 13) (N := ["matrix", "due", "heard", "back", "count", "word"]) Z.F__law_matrix_right sc__law_matrix_right fun C cdv A outer s H E hcd hT hgd hr => by
  subst hT
  have sc := sc__law_matrix_right
  exact (pf_scons (pf_asg (js := [4, 5]) (pf_call (ok__law_told Z) Z.g__law_told Z.F__law_told.kp Z.b__law_told hgd (hr.mono (by decide)) (takes_of rfl rfl rfl rfl) (pf_cons (pf_var 0) (pf_nil))) (pf_gtp rfl (pf_gcn (pf_gnm 4 sc.nd) (pf_gcn (pf_gnm 5 sc.nd) (pf_gnl))))) (pf_scons (pf_set 1 sc.nd (pf_if (pt_isNot (pf_var 5) (pf_non)) (pf_lst (pf_cons (pf_lst (pf_cons (pf_str) (pf_cons (pf_var 5) (pf_nil)))) (pf_cons (pf_lst (pf_cons (pf_str) (pf_cons (pf_var 4) (pf_nil)))) (pf_nil)))) (pf_mul (pf_lst (pf_cons (pf_lst (pf_cons (pf_str) (pf_cons (pf_int) (pf_cons (pf_bl) (pf_nil))))) (pf_nil))) (pf_int)))) (pf_scons (pf_own 2 sc.nd (pl_lst (pf_cons (pf_hearC (defScope s__law_matrix_right) (ok__law_heard Z) Z.g__law_heard Z.F__law_heard.kp Z.b__law_heard hgd (hr.mono (by decide)) (takes_of rfl rfl rfl rfl) Z.tb__law_matrix_right (hcd.symm.trans Z.hc__law_matrix_right) q__law_matrix_right (by rw [hZT]; exact Z.mt__law_matrix_right) (by rw [hZT]; exact Z.hu__law_matrix_right) (fun A outer s1 HZ E C1 f1 c1 L1 e1 hgd hr eL => by subst eL; exact (pf_call (ok_told_word Z) Z.g_told_word Z.F_told_word.kp Z.b_told_word hgd (hr.mono (by decide)) (takes_of rfl rfl rfl rfl) (pf_cons (pf_var 0) (pf_nil))))) (pf_nil)))) (pf_scons (pf_app 2 (pf_hearC (defScope s__law_matrix_right) (ok__law_heard Z) Z.g__law_heard Z.F__law_heard.kp Z.b__law_heard hgd (hr.mono (by decide)) (takes_of rfl rfl rfl rfl) Z.tb__law_matrix_right (hcd.symm.trans Z.hc__law_matrix_right) q__law_matrix_right (by rw [hZT]; exact Z.mt__law_matrix_right) (by rw [hZT]; exact Z.hu__law_matrix_right) (fun A outer s1 HZ E C1 f1 c1 L1 e1 hgd hr eL => by subst eL; exact (pf_call (ok_length Z) Z.g_length Z.F_length.kp Z.b_length hgd (hr.mono (by decide)) (takes_of rfl rfl rfl rfl) (pf_cons (pf_var 0) (pf_nil)))))) (pf_scons (pf_app 2 (pf_hearC (defScope s__law_matrix_right) (ok__law_heard Z) Z.g__law_heard Z.F__law_heard.kp Z.b__law_heard hgd (hr.mono (by decide)) (takes_of rfl rfl rfl rfl) Z.tb__law_matrix_right (hcd.symm.trans Z.hc__law_matrix_right) q__law_matrix_right (by rw [hZT]; exact Z.mt__law_matrix_right) (by rw [hZT]; exact Z.hu__law_matrix_right) (fun A outer s1 HZ E C1 f1 c1 L1 e1 hgd hr eL => by subst eL; exact (pf_callK (ok_told_word Z) Z.g_told_word Z.F_told_word.kp (Z.k_told_word_matrix) hgd (hr.mono (by decide)) (takes_of rfl rfl rfl rfl) (pf_kcons (pf_var 0) (pf_knil)))))) (pf_scons (pf_app 2 (pf_hearC (defScope s__law_matrix_right) (ok__law_heard Z) Z.g__law_heard Z.F__law_heard.kp Z.b__law_heard hgd (hr.mono (by decide)) (takes_of rfl rfl rfl rfl) Z.tb__law_matrix_right (hcd.symm.trans Z.hc__law_matrix_right) q__law_matrix_right (by rw [hZT]; exact Z.mt__law_matrix_right) (by rw [hZT]; exact Z.hu__law_matrix_right) (fun A outer s1 HZ E C1 f1 c1 L1 e1 hgd hr eL => by subst eL; exact (pf_callK (ok_length Z) Z.g_length Z.F_length.kp (Z.k_length_matrix) hgd (hr.mono (by decide)) (takes_of rfl rfl rfl rfl) (pf_kcons (pf_var 0) (pf_knil)))))) (pf_freeze 2 (pf_scons (pf_sif (pt_ne hr (pf_repr hgd hr.u100 Z.n_repr (pf_cons (pf_var 2) (pf_nil))) (pf_repr hgd hr.u100 Z.n_repr (pf_cons (pf_add (pf_var 1) (pf_var 1)) (pf_nil)))) (pf_sone (pf_ret (pf_bl))) (pf_snil)) (pf_scons (pf_sif (pt_is (pf_var 5) (pf_non)) (pf_sone (pf_ret (pf_bl))) (pf_snil)) (pf_scons (pf_set 3 sc.nd (pf_call (ok__law_turned_moves Z) Z.g__law_turned_moves Z.F__law_turned_moves.kp Z.b__law_turned_moves hgd (hr.mono (by decide)) (takes_of rfl rfl rfl rfl) (pf_cons (pf_var 5) (pf_nil)))) (pf_scons (pf_sif (pf_pt (pf_orT (pt_ne hr (pf_call (ok__law_matrix_of Z) Z.g__law_matrix_of Z.F__law_matrix_of.kp Z.b__law_matrix_of hgd (hr.mono (by decide)) (takes_of rfl rfl rfl rfl) (pf_cons (pf_var 5) (pf_nil))) (pf_var 0)) (pf_orT (pt_ne hr (pf_call (ok_matrix_of Z) Z.g_matrix_of Z.F_matrix_of.kp Z.b_matrix_of hgd (hr.mono (by decide)) (takes_of rfl rfl rfl rfl) (pf_cons (pf_var 5) (pf_nil))) (pf_var 0)) (pf_orT (pt_ne hr (pf_len Z.n_len (pf_cons (pf_var 5) (pf_nil))) (pf_var 4)) (pf_or1 (pf_notT (pf_test (pf_call (ok_is_moves Z) Z.g_is_moves Z.F_is_moves.kp Z.b_is_moves hgd (hr.mono (by decide)) (takes_of rfl rfl rfl rfl) (pf_cons (pf_var 5) (pf_nil)))))))))) (pf_sone (pf_ret (pf_bl))) (pf_snil)) (pf_sone (pf_ret (pf_andV (pf_eq hr (pf_call (ok_turned_moves Z) Z.g_turned_moves Z.F_turned_moves.kp Z.b_turned_moves hgd (hr.mono (by decide)) (takes_of rfl rfl rfl rfl) (pf_cons (pf_var 5) (pf_nil))) (pf_var 3)) (pf_andV (pf_eq hr (pf_call (ok_matrix_of Z) Z.g_matrix_of Z.F_matrix_of.kp Z.b_matrix_of hgd (hr.mono (by decide)) (takes_of rfl rfl rfl rfl) (pf_cons (pf_var 3) (pf_nil))) (pf_call (ok_inverse Z) Z.g_inverse Z.F_inverse.kp Z.b_inverse hgd (hr.mono (by decide)) (takes_of rfl rfl rfl rfl) (pf_cons (pf_var 0) (pf_nil)))) (pf_one (pf_eq hr (pf_call (ok_told_word Z) Z.g_told_word Z.F_told_word.kp Z.b_told_word hgd (hr.mono (by decide)) (takes_of rfl rfl rfl rfl) (pf_cons (pf_call (ok_matrix_of Z) Z.g_matrix_of Z.F_matrix_of.kp Z.b_matrix_of hgd (hr.mono (by decide)) (takes_of rfl rfl rfl rfl) (pf_cons (pf_var 5) (pf_nil))) (pf_nil))) (pf_var 5))))))))))))))))))
def b__law_word_right : FS := sSeq (sSet 1 (fCall m__law_matrix_of (fCons (fVar 0) (fNil)))) (sSeq (sIf (fTest (fBin oNe (fCallB oRepr (fCons (fLst (fCons (fCall m_matrix_of (fCons (fVar 0) (fNil))) (fCons (fCallK m_matrix_of [0] (fCons (fVar 0) (fNil))) (fCons (fCall m_turned_moves (fCons (fVar 0) (fNil))) (fCons (fCallK m_turned_moves [0] (fCons (fVar 0) (fNil))) (fNil)))))) (fNil))) (fCallB oRepr (fCons (fLst (fCons (fVar 1) (fCons (fVar 1) (fCons (fCall m__law_turned_moves (fCons (fVar 0) (fNil))) (fCons (fCall m__law_turned_moves (fCons (fVar 0) (fNil))) (fNil)))))) (fNil))))) (sRet (fC (.bl false))) (sNil)) (sSeq (sSet 2 (fBin oDiv (fCallB oLen (fCons (fVar 0) (fNil))) (fC (.int 2)))) (sRet (fBin oEq (fCall m_product (fCons (fCall m_matrix_of (fCons (fSl (fVar 0) (some (fVar 2)) (none)) (fNil))) (fCons (fCall m_matrix_of (fCons (fSl (fVar 0) (none) (some (fVar 2))) (fNil))) (fNil)))) (fVar 1)))))
def m__law_word_right : Fn := mkFn 3 b__law_word_right
theorem sc__law_word_right : FnScope ["word", "due", "cut"] ["word"] (defScope s__law_word_right) := ⟨rfl, rfl, rfl, by decide +kernel, rfl, by decide +kernel, by decide +kernel⟩
theorem ok__law_word_right (Z : Txt P w K mg base) : FnG P w K T mg base 6 Z.a__law_word_right Z.fd__law_word_right ["word"] m__law_word_right := fnG_ok (k := 5) (N := ["word", "due", "cut"]) Z.F__law_word_right sc__law_word_right fun C cdv A outer s H E hcd hT hgd hr => by
  subst hT
  have sc := sc__law_word_right
  exact (pf_scons (pf_set 1 sc.nd (pf_call (ok__law_matrix_of Z) Z.g__law_matrix_of Z.F__law_matrix_of.kp Z.b__law_matrix_of hgd (hr.mono (by decide)) (takes_of rfl rfl rfl rfl) (pf_cons (pf_var 0) (pf_nil)))) (pf_scons (pf_sif (pt_ne hr (pf_repr hgd hr.u100 Z.n_repr (pf_cons (pf_lst (pf_cons (pf_call (ok_matrix_of Z) Z.g_matrix_of Z.F_matrix_of.kp Z.b_matrix_of hgd (hr.mono (by decide)) (takes_of rfl rfl rfl rfl) (pf_cons (pf_var 0) (pf_nil))) (pf_cons (pf_callK (ok_matrix_of Z) Z.g_matrix_of Z.F_matrix_of.kp (Z.k_matrix_of_moves) hgd (hr.mono (by decide)) (takes_of rfl rfl rfl rfl) (pf_kcons (pf_var 0) (pf_knil))) (pf_cons (pf_call (ok_turned_moves Z) Z.g_turned_moves Z.F_turned_moves.kp Z.b_turned_moves hgd (hr.mono (by decide)) (takes_of rfl rfl rfl rfl) (pf_cons (pf_var 0) (pf_nil))) (pf_cons (pf_callK (ok_turned_moves Z) Z.g_turned_moves Z.F_turned_moves.kp (Z.k_turned_moves_moves) hgd (hr.mono (by decide)) (takes_of rfl rfl rfl rfl) (pf_kcons (pf_var 0) (pf_knil))) (pf_nil)))))) (pf_nil))) (pf_repr hgd hr.u100 Z.n_repr (pf_cons (pf_lst (pf_cons (pf_var 1) (pf_cons (pf_var 1) (pf_cons (pf_call (ok__law_turned_moves Z) Z.g__law_turned_moves Z.F__law_turned_moves.kp Z.b__law_turned_moves hgd (hr.mono (by decide)) (takes_of rfl rfl rfl rfl) (pf_cons (pf_var 0) (pf_nil))) (pf_cons (pf_call (ok__law_turned_moves Z) Z.g__law_turned_moves Z.F__law_turned_moves.kp Z.b__law_turned_moves hgd (hr.mono (by decide)) (takes_of rfl rfl rfl rfl) (pf_cons (pf_var 0) (pf_nil))) (pf_nil)))))) (pf_nil)))) (pf_sone (pf_ret (pf_bl))) (pf_snil)) (pf_scons (pf_set 2 sc.nd (pf_fdiv (pf_len Z.n_len (pf_cons (pf_var 0) (pf_nil))) (pf_int))) (pf_sone (pf_ret (pf_eq hr (pf_call (ok_product Z) Z.g_product Z.F_product.kp Z.b_product hgd (hr.mono (by decide)) (takes_of rfl rfl rfl rfl) (pf_cons (pf_call (ok_matrix_of Z) Z.g_matrix_of Z.F_matrix_of.kp Z.b_matrix_of hgd (hr.mono (by decide)) (takes_of rfl rfl rfl rfl) (pf_cons (pf_sl (pf_var 0) (pf_osome (pf_var 2)) (pf_onone)) (pf_nil))) (pf_cons (pf_call (ok_matrix_of Z) Z.g_matrix_of Z.F_matrix_of.kp Z.b_matrix_of hgd (hr.mono (by decide)) (takes_of rfl rfl rfl rfl) (pf_cons (pf_sl (pf_var 0) (pf_onone) (pf_osome (pf_var 2))) (pf_nil))) (pf_nil)))) (pf_var 1)))))))
def b__law_by_notes : FS := sSeq (sSet 2 (fIf (fTest (fBin oEq (fCall m__law_draw (fCons (fVar 0) (fCons (fC (.int 2)) (fNil)))) (fC (.int 0)))) (fTup (fCons (fC (.int 1)) (fCons (fBin oSub (fCall m__law_draw (fCons (fVar 0) (fCons (fC (.int 9)) (fNil)))) (fC (.int 4))) (fCons (fC (.int 0)) (fCons (fC (.int 1)) (fNil)))))) (fTup (fCons (fUn oNeg (fC (.int 1))) (fCons (fBin oSub (fCall m__law_draw (fCons (fVar 0) (fCons (fC (.int 9)) (fNil)))) (fC (.int 4))) (fCons (fC (.int 0)) (fCons (fUn oNeg (fC (.int 1))) (fNil)))))))) (sSeq (sFor (fRg1 (fCons (fVar 1) (fNil))) (gNm 3) (sSet 2 (fCall m__law_product (fCons (fTup (fCons (fC (.int 1)) (fCons (fBin oSub (fCall m__law_draw (fCons (fVar 0) (fCons (fC (.int 7)) (fNil)))) (fC (.int 3))) (fCons (fC (.int 0)) (fCons (fC (.int 1)) (fNil)))))) (fCons (fCall m__law_product (fCons (fTup (fCons (fC (.int 0)) (fCons (fUn oNeg (fC (.int 1))) (fCons (fC (.int 1)) (fCons (fC (.int 0)) (fNil)))))) (fCons (fVar 2) (fNil)))) (fNil)))))) (sRet (fVar 2)))
def m__law_by_notes : Fn := mkFn 4 b__law_by_notes
theorem sc__law_by_notes : FnScope ["pot", "many", "found", "turn"] ["pot", "many"] (defScope s__law_by_notes) := ⟨rfl, rfl, rfl, by decide +kernel, rfl, by decide +kernel, by decide +kernel⟩
theorem ok__law_by_notes (Z : Txt P w K mg base) : FnG P w K T mg base 2 Z.a__law_by_notes Z.fd__law_by_notes ["pot", "many"] m__law_by_notes := fnG_ok (k := 1) (N := ["pot", "many", "found", "turn"]) Z.F__law_by_notes sc__law_by_notes fun C cdv A outer s H E hcd hT hgd hr => by
  subst hT
  have sc := sc__law_by_notes
  exact (pf_scons (pf_set 2 sc.nd (pf_if (pt_eq hr (pf_call (ok__law_draw Z) Z.g__law_draw Z.F__law_draw.kp Z.b__law_draw hgd (hr.mono (by decide)) (takes_of rfl rfl rfl rfl) (pf_cons (pf_var 0) (pf_cons (pf_int) (pf_nil)))) (pf_int)) (pf_tup (pf_cons (pf_int) (pf_cons (pf_sub (pf_call (ok__law_draw Z) Z.g__law_draw Z.F__law_draw.kp Z.b__law_draw hgd (hr.mono (by decide)) (takes_of rfl rfl rfl rfl) (pf_cons (pf_var 0) (pf_cons (pf_int) (pf_nil)))) (pf_int)) (pf_cons (pf_int) (pf_cons (pf_int) (pf_nil)))))) (pf_tup (pf_cons (pf_neg (pf_int)) (pf_cons (pf_sub (pf_call (ok__law_draw Z) Z.g__law_draw Z.F__law_draw.kp Z.b__law_draw hgd (hr.mono (by decide)) (takes_of rfl rfl rfl rfl) (pf_cons (pf_var 0) (pf_cons (pf_int) (pf_nil)))) (pf_int)) (pf_cons (pf_int) (pf_cons (pf_neg (pf_int)) (pf_nil)))))))) (pf_scons (pf_for (js := [3]) rfl (pf_range1 Z.n_range (pf_cons (pf_var 1) (pf_nil))) (pf_gnm 3 sc.nd) (pf_sone (pf_set 2 sc.nd (pf_call (ok__law_product Z) Z.g__law_product Z.F__law_product.kp Z.b__law_product hgd (hr.mono (by decide)) (takes_of rfl rfl rfl rfl) (pf_cons (pf_tup (pf_cons (pf_int) (pf_cons (pf_sub (pf_call (ok__law_draw Z) Z.g__law_draw Z.F__law_draw.kp Z.b__law_draw hgd (hr.mono (by decide)) (takes_of rfl rfl rfl rfl) (pf_cons (pf_var 0) (pf_cons (pf_int) (pf_nil)))) (pf_int)) (pf_cons (pf_int) (pf_cons (pf_int) (pf_nil)))))) (pf_cons (pf_call (ok__law_product Z) Z.g__law_product Z.F__law_product.kp Z.b__law_product hgd (hr.mono (by decide)) (takes_of rfl rfl rfl rfl) (pf_cons (pf_tup (pf_cons (pf_int) (pf_cons (pf_neg (pf_int)) (pf_cons (pf_int) (pf_cons (pf_int) (pf_nil)))))) (pf_cons (pf_var 2) (pf_nil)))) (pf_nil))))))) (pf_sone (pf_ret (pf_var 2)))))
def b__law_right : FS := sSeq (sSet 1 (fLst (fCons (fCall m__law_moves (fCons (fVar 0) (fCons (fC (.int 12)) (fNil)))) (fCons (fCall m__law_moves (fCons (fVar 0) (fCons (fC (.int 40)) (fNil)))) (fCons (fC (.str "")) (fCons (fC (.str "jj")) (fCons (fBin oMul (fC (.str "tT")) (fC (.int 200))) (fCons (fBin oMul (fCall m__law_pick (fCons (fVar 0) (fCons (fC (.str "tTvVjJ")) (fNil)))) (fC (.int 400))) (fCons (fBin oMul (fCall m__law_pick (fCons (fVar 0) (fCons (fLst (fCons (fC (.str "tvj")) (fCons (fC (.str "VJt")) (fCons (fC (.str "jT")) (fNil))))) (fNil)))) (fC (.int 9))) (fNil)))))))))) (sSeq (sIf (fNotT (fTest (fCallB oAll (fCons (fComp (fIt (fVar 1)) (gNm 6) [6] (fYes) (fCall m__law_word_right (fCons (fVar 6) (fNil)))) (fNil))))) (sRet (fC (.bl false))) (sNil)) (sSeq (sSet 2 (fBin oAdd (fBin oAdd (fComp (fIt (fSl (fVar 1) (none) (some (fC (.int 4))))) (gNm 6) [6] (fYes) (fCall m__law_matrix_of (fCons (fVar 6) (fNil)))) (fComp (fRg1 (fCons (fC (.int 4)) (fNil))) (gNm 7) [7] (fYes) (fCall m__law_by_notes (fCons (fVar 0) (fCons (fCall m__law_draw (fCons (fVar 0) (fCons (fC (.int 7)) (fNil)))) (fNil)))))) (fLst (fCons (fTup (fCons (fUn oNeg (fC (.int 1))) (fCons (fC (.int 0)) (fCons (fC (.int 0)) (fCons (fUn oNeg (fC (.int 1))) (fNil)))))) (fCons (fTup (fCons (fC (.int 0)) (fCons (fC (.int 1)) (fCons (fUn oNeg (fC (.int 1))) (fCons (fC (.int 0)) (fNil)))))) (fCons (fTup (fCons (fC (.int 1)) (fCons (fC (.int 0)) (fCons (fC (.int 5)) (fCons (fC (.int 1)) (fNil)))))) (fCons (fTup (fCons (fUn oNeg (fC (.int 2))) (fCons (fUn oNeg (fC (.int 1))) (fCons (fC (.int 1)) (fCons (fC (.int 0)) (fNil)))))) (fNil)))))))) (sSeq (sFor (fIt (fTup (fCons (fC (.int 399)) (fCons (fC (.int 400)) (fCons (fC (.int 401)) (fCons (fUn oNeg (fC (.int 400))) (fCons (fUn oNeg (fC (.int 401))) (fCons (fC (.int 398)) (fCons (fUn oNeg (fC (.int 398))) (fCons (fC (.int 3000)) (fNil))))))))))) (gNm 3) (sSet 2 (fBin oAdd (fVar 2) (fLst (fCons (fTup (fCons (fC (.int 1)) (fCons (fVar 3) (fCons (fC (.int 0)) (fCons (fC (.int 1)) (fNil)))))) (fCons (fTup (fCons (fUn oNeg (fC (.int 1))) (fCons (fVar 3) (fCons (fC (.int 0)) (fCons (fUn oNeg (fC (.int 1))) (fNil)))))) (fCons (fTup (fCons (fVar 3) (fCons (fUn oNeg (fC (.int 1))) (fCons (fC (.int 1)) (fCons (fC (.int 0)) (fNil)))))) (fCons (fTup (fCons (fC (.int 1)) (fCons (fC (.int 0)) (fCons (fVar 3) (fCons (fC (.int 1)) (fNil)))))) (fNil))))))))) (sSeq (sIf (fNotT (fTest (fCallB oAll (fCons (fComp (fIt (fVar 2)) (gNm 8) [8] (fYes) (fCall m__law_matrix_right (fCons (fVar 8) (fNil)))) (fNil))))) (sRet (fC (.bl false))) (sNil)) (sSeq (sSet 4 (fLst (fCons (fC .non) (fCons (fC (.int 0)) (fCons (fLst (fCons (fC (.str "t")) (fNil))) (fCons (fC (.str "x")) (fCons (fC (.str "tx")) (fCons (fC (.str "t v")) (fCons (fC (.str "r")) (fCons (fBin oMul (fC (.str "t")) (fC (.int 401))) (fCons (fC (.bl true)) (fCons (fTup (fCons (fC (.str "t")) (fNil))) (fNil))))))))))))) (sSeq (sIf (fOrT (fTest (fBin oNe (fComp (fIt (fVar 4)) (gNm 5) [5] (fYes) (fCall m_is_moves (fCons (fVar 5) (fNil)))) (fBin oMul (fLst (fCons (fC (.bl false)) (fNil))) (fC (.int 10))))) (fTest (fBin oIsNot (fCallK m_is_moves [0] (fCons (fBin oMul (fC (.str "tTvVjJ")) (fC (.int 66))) (fNil))) (fC (.bl true))))) (sRet (fC (.bl false))) (sNil)) (sRet (fBin oEq (fComp (fIt (fVar 4)) (gNm 5) [5] (fYes) (fHear2 m__law_heard 1 (fCall m_matrix_of (fCons (fVar 0) (fNil))) (fCons (fVar 5) (fNil)))) (fComp (fIt (fVar 4)) (gNm 5) [5] (fYes) (fLst (fCons (fC (.str "moves")) (fCons (fCallB oRepr (fCons (fVar 5) (fNil))) (fCons (fC (.bl true)) (fNil))))))))))))))
def m__law_right : Fn := mkFn 9 b__law_right
theorem sc__law_right : FnScope ["pot", "words", "matrices", "many", "odds", "odd", "word", "turn", "matrix"] ["pot"] (defScope s__law_right) := ⟨rfl, rfl, rfl, by decide +kernel, rfl, by decide +kernel, by decide +kernel⟩
theorem ok__law_right (Z : Txt P w K mg base) (hZT : T = Z.TT) : FnG P w K T mg base 15 Z.a__law_right Z.fd__law_right ["pot"] m__law_right := fnG_ok (k := 14) (N := ["pot", "words", "matrices", "many", "odds", "odd", "word", "turn", "matrix"]) Z.F__law_right sc__law_right fun C cdv A outer s H E hcd hT hgd hr => by
  subst hT
  have sc := sc__law_right
  exact (pf_scons (pf_set 1 sc.nd (pf_lst (pf_cons (pf_call (ok__law_moves Z) Z.g__law_moves Z.F__law_moves.kp Z.b__law_moves hgd (hr.mono (by decide)) (takes_of rfl rfl rfl rfl) (pf_cons (pf_var 0) (pf_cons (pf_int) (pf_nil)))) (pf_cons (pf_call (ok__law_moves Z) Z.g__law_moves Z.F__law_moves.kp Z.b__law_moves hgd (hr.mono (by decide)) (takes_of rfl rfl rfl rfl) (pf_cons (pf_var 0) (pf_cons (pf_int) (pf_nil)))) (pf_cons (pf_str) (pf_cons (pf_str) (pf_cons (pf_mul (pf_str) (pf_int)) (pf_cons (pf_mul (pf_call (ok__law_pick Z) Z.g__law_pick Z.F__law_pick.kp Z.b__law_pick hgd (hr.mono (by decide)) (takes_of rfl rfl rfl rfl) (pf_cons (pf_var 0) (pf_cons (pf_str) (pf_nil)))) (pf_int)) (pf_cons (pf_mul (pf_call (ok__law_pick Z) Z.g__law_pick Z.F__law_pick.kp Z.b__law_pick hgd (hr.mono (by decide)) (takes_of rfl rfl rfl rfl) (pf_cons (pf_var 0) (pf_cons (pf_lst (pf_cons (pf_str) (pf_cons (pf_str) (pf_cons (pf_str) (pf_nil))))) (pf_nil)))) (pf_int)) (pf_nil)))))))))) (pf_scons (pf_sif (pf_notT (pf_test (pf_all rfl Z.n_all (pf_cons (pf_compC ["pot", "words", "matrices", "many", "odds", "odd", "word", "turn", "matrix"] (defScope s__law_right) [("word", 6)] rfl sc.nd (pf_iter (pf_var 1)) (js := [6]) (fun _ _ _ _ _ => pf_gnm 6 sc.nd) (fun _ _ _ _ _ => pf_tyes) (fun _ _ _ _ _ => pf_call (ok__law_word_right Z) Z.g__law_word_right Z.F__law_word_right.kp Z.b__law_word_right hgd (hr.mono (by decide)) takesW0 (pf_cons (pf_var 6) (pf_nil)))) (pf_nil))))) (pf_sone (pf_ret (pf_bl))) (pf_snil)) (pf_scons (pf_set 2 sc.nd (pf_add (pf_add (pf_compC ["pot", "words", "matrices", "many", "odds", "odd", "word", "turn", "matrix"] (defScope s__law_right) [("word", 6)] rfl sc.nd (pf_iter (pf_sl (pf_var 1) (pf_onone) (pf_osome (pf_int)))) (js := [6]) (fun _ _ _ _ _ => pf_gnm 6 sc.nd) (fun _ _ _ _ _ => pf_tyes) (fun _ _ _ _ _ => pf_call (ok__law_matrix_of Z) Z.g__law_matrix_of Z.F__law_matrix_of.kp Z.b__law_matrix_of hgd (hr.mono (by decide)) takesW0 (pf_cons (pf_var 6) (pf_nil)))) (pf_compC ["pot", "words", "matrices", "many", "odds", "odd", "word", "turn", "matrix"] (defScope s__law_right) [("turn", 7)] rfl sc.nd (pf_range1 Z.n_range (pf_cons (pf_int) (pf_nil))) (js := [7]) (fun _ _ _ _ _ => pf_gnm 7 sc.nd) (fun _ _ _ _ _ => pf_tyes) (fun _ _ _ _ _ => pf_call (ok__law_by_notes Z) Z.g__law_by_notes Z.F__law_by_notes.kp Z.b__law_by_notes hgd (hr.mono (by decide)) takesW0 (pf_cons (pf_var 0) (pf_cons (pf_call (ok__law_draw Z) Z.g__law_draw Z.F__law_draw.kp Z.b__law_draw hgd (hr.mono (by decide)) takesW0 (pf_cons (pf_var 0) (pf_cons (pf_int) (pf_nil)))) (pf_nil)))))) (pf_lst (pf_cons (pf_tup (pf_cons (pf_neg (pf_int)) (pf_cons (pf_int) (pf_cons (pf_int) (pf_cons (pf_neg (pf_int)) (pf_nil)))))) (pf_cons (pf_tup (pf_cons (pf_int) (pf_cons (pf_int) (pf_cons (pf_neg (pf_int)) (pf_cons (pf_int) (pf_nil)))))) (pf_cons (pf_tup (pf_cons (pf_int) (pf_cons (pf_int) (pf_cons (pf_int) (pf_cons (pf_int) (pf_nil)))))) (pf_cons (pf_tup (pf_cons (pf_neg (pf_int)) (pf_cons (pf_neg (pf_int)) (pf_cons (pf_int) (pf_cons (pf_int) (pf_nil)))))) (pf_nil)))))))) (pf_scons (pf_for (js := [3]) rfl (pf_iter (pf_tup (pf_cons (pf_int) (pf_cons (pf_int) (pf_cons (pf_int) (pf_cons (pf_neg (pf_int)) (pf_cons (pf_neg (pf_int)) (pf_cons (pf_int) (pf_cons (pf_neg (pf_int)) (pf_cons (pf_int) (pf_nil))))))))))) (pf_gnm 3 sc.nd) (pf_sone (pf_set 2 sc.nd (pf_add (pf_var 2) (pf_lst (pf_cons (pf_tup (pf_cons (pf_int) (pf_cons (pf_var 3) (pf_cons (pf_int) (pf_cons (pf_int) (pf_nil)))))) (pf_cons (pf_tup (pf_cons (pf_neg (pf_int)) (pf_cons (pf_var 3) (pf_cons (pf_int) (pf_cons (pf_neg (pf_int)) (pf_nil)))))) (pf_cons (pf_tup (pf_cons (pf_var 3) (pf_cons (pf_neg (pf_int)) (pf_cons (pf_int) (pf_cons (pf_int) (pf_nil)))))) (pf_cons (pf_tup (pf_cons (pf_int) (pf_cons (pf_int) (pf_cons (pf_var 3) (pf_cons (pf_int) (pf_nil)))))) (pf_nil)))))))))) (pf_scons (pf_sif (pf_notT (pf_test (pf_all rfl Z.n_all (pf_cons (pf_compC ["pot", "words", "matrices", "many", "odds", "odd", "word", "turn", "matrix"] (defScope s__law_right) [("matrix", 8)] rfl sc.nd (pf_iter (pf_var 2)) (js := [8]) (fun _ _ _ _ _ => pf_gnm 8 sc.nd) (fun _ _ _ _ _ => pf_tyes) (fun _ _ _ _ _ => pf_call (ok__law_matrix_right Z hZT) Z.g__law_matrix_right Z.F__law_matrix_right.kp Z.b__law_matrix_right hgd (hr.mono (by decide)) takesW0 (pf_cons (pf_var 8) (pf_nil)))) (pf_nil))))) (pf_sone (pf_ret (pf_bl))) (pf_snil)) (pf_scons (pf_set 4 sc.nd (pf_lst (pf_cons (pf_non) (pf_cons (pf_int) (pf_cons (pf_lst (pf_cons (pf_str) (pf_nil))) (pf_cons (pf_str) (pf_cons (pf_str) (pf_cons (pf_str) (pf_cons (pf_str) (pf_cons (pf_mul (pf_str) (pf_int)) (pf_cons (pf_bl) (pf_cons (pf_tup (pf_cons (pf_str) (pf_nil))) (pf_nil))))))))))))) (pf_scons (pf_sif (pf_pt (pf_orT (pt_ne hr (pf_compC ["pot", "words", "matrices", "many", "odds", "odd", "word", "turn", "matrix"] (defScope s__law_right) [("odd", 5)] rfl sc.nd (pf_iter (pf_var 4)) (js := [5]) (fun _ _ _ _ _ => pf_gnm 5 sc.nd) (fun _ _ _ _ _ => pf_tyes) (fun _ _ _ _ _ => pf_call (ok_is_moves Z) Z.g_is_moves Z.F_is_moves.kp Z.b_is_moves hgd (hr.mono (by decide)) takesW0 (pf_cons (pf_var 5) (pf_nil)))) (pf_mul (pf_lst (pf_cons (pf_bl) (pf_nil))) (pf_int))) (pf_or1 (pt_isNot (pf_callK (ok_is_moves Z) Z.g_is_moves Z.F_is_moves.kp (Z.k_is_moves_value) hgd (hr.mono (by decide)) (takes_of rfl rfl rfl rfl) (pf_kcons (pf_mul (pf_str) (pf_int)) (pf_knil))) (pf_bl))))) (pf_sone (pf_ret (pf_bl))) (pf_snil)) (pf_sone (pf_ret (pf_eq hr (pf_compC ["pot", "words", "matrices", "many", "odds", "odd", "word", "turn", "matrix"] (defScope s__law_right) [("odd", 5)] rfl sc.nd (pf_iter (pf_var 4)) (js := [5]) (fun _ _ _ _ _ => pf_gnm 5 sc.nd) (fun _ _ _ _ _ => pf_tyes) (fun _ _ _ _ _ => pf_hear2 (ok__law_heard Z) Z.g__law_heard Z.F__law_heard.kp Z.b__law_heard hgd (hr.mono (by decide)) takesW0 Z.F__law_asking sc__law_asking Z.g__law_asking Z.b__law_asking (pf_cons (pf_var 5) (pf_nil)) Z.tb__law_asking Z.hc__law_asking (by rw [hZT]; exact Z.mt__law_asking) (by rw [hZT]; exact Z.hu__law_asking) rfl (fun _ _ => q__law_asking) (fun A0 outer0 s0 H0 A outer s1 HZ E C1 f1 c1 e1 hgd hr => pf_call (ok_matrix_of Z) Z.g_matrix_of Z.F_matrix_of.kp Z.b_matrix_of hgd (hr.mono (by decide)) (takes_of rfl rfl rfl rfl) (pf_cons (pf_var 0) (pf_nil))) (LamX.lamS_by (by decide +kernel)))) (pf_compC ["pot", "words", "matrices", "many", "odds", "odd", "word", "turn", "matrix"] (defScope s__law_right) [("odd", 5)] rfl sc.nd (pf_iter (pf_var 4)) (js := [5]) (fun _ _ _ _ _ => pf_gnm 5 sc.nd) (fun _ _ _ _ _ => pf_tyes) (fun _ _ _ _ _ => pf_lst (pf_cons (pf_str) (pf_cons (pf_repr hgd hr.u100 Z.n_repr (pf_cons (pf_var 5) (pf_nil))) (pf_cons (pf_bl) (pf_nil))))))))))))))))
def b_law : FS := sRet (fCallB oAll (fCons (fComp (fRg1 (fCons (fCallB oMax2 (fCons (fC (.int 1)) (fCons (fCallB oMin2 (fCons (fC (.int 2)) (fCons (fCallB oLen (fCons (fVar 0) (fNil))) (fNil)))) (fNil)))) (fNil))) (gNm 1) [1] (fYes) (fRP m__law_right pot__law_pot (fCons (fVar 0) (fCons (fVar 1) (fNil))))) (fNil)))
def m_law : Fn := mkFn 2 b_law
theorem sc_law : FnScope ["script", "k"] ["script"] (defScope s_law) := ⟨rfl, rfl, rfl, by decide +kernel, rfl, by decide +kernel, by decide +kernel⟩
theorem ok_law (Z : Txt P w K mg base) (hZT : T = Z.TT) : FnG P w K T mg base 16 Z.a_law Z.fd_law ["script"] m_law := fnG_ok (k := 15) (N := ["script", "k"]) Z.F_law sc_law fun C cdv A outer s H E hcd hT hgd hr => by
  subst hT
  have sc := sc_law
  exact (pf_sone (pf_ret (pf_all rfl Z.n_all (pf_cons (pf_compC ["script", "k"] (defScope s_law) [("k", 1)] rfl sc.nd (pf_range1 Z.n_range (pf_cons (pf_max rfl Z.n_max (pf_cons (pf_int) (pf_cons (pf_min rfl Z.n_min (pf_cons (pf_int) (pf_cons (pf_len Z.n_len (pf_cons (pf_var 0) (pf_nil))) (pf_nil)))) (pf_nil)))) (pf_nil))) (js := [1]) (fun _ _ _ _ _ => pf_gnm 1 sc.nd) (fun _ _ _ _ _ => pf_tyes) (fun _ _ _ _ _ => pf_pot (ok__law_right Z hZT) Z.g__law_right Z.F__law_right.kp Z.b__law_right hgd (hr.mono (by decide)) takesW0 (ok__law_pot Z) (hr.mono (by decide)) Z.g__law_pot Z.F__law_pot.kp Z.b__law_pot (pf_cons (pf_var 0) (pf_cons (pf_var 1) (pf_nil))))) (pf_nil)))))
end
end W38
set_option Elab.async false
set_option linter.all false
set_option maxRecDepth 100000
set_option maxHeartbeats 2000000
namespace W38
open PySem L2 PF PySem.Spec PyProof.Rows
theorem all_mk {l : PySem.W.OpenLaw} {w : World} {K : PySem.W.Frag} {h : Heap} {mg : Str → Option Value} {fa : Addr} {n : Nat} (X : K.In h) (G : h.Ns mainGlobals mg) (hfa : mg "law" = some (.ref fa)) (hm : ∀ ns : List Int, ns.length ≤ n → (∀ z ∈ ns, Builtin.Int.intBits z ≤ 1048576) → ∃ s, m_law [.scr ns] none = .val (.bl true) s)
    {c_FloorError : Addr} {c_LimitError : Addr} {c_InvalidMoves : Addr} {c_InvalidMatrix : Addr} {c_TooMany : Addr} {a_init_FloorError : Addr} {oc_init_FloorError kV_init_FloorError dc_init_FloorError pm_init_FloorError ct_init_FloorError : Value} {od_init_FloorError an_init_FloorError : Option Addr} {sl_init_FloorError : Array (Option Value)} {cd_init_FloorError : Value}
    {a_init_TooMany : Addr} {oc_init_TooMany kV_init_TooMany dc_init_TooMany pm_init_TooMany ct_init_TooMany : Value} {od_init_TooMany an_init_TooMany : Option Addr} {sl_init_TooMany : Array (Option Value)} {cd_init_TooMany : Value} {a_is_integer : Addr} {oc_is_integer kV_is_integer dc_is_integer pm_is_integer ct_is_integer : Value} {od_is_integer an_is_integer : Option Addr} {sl_is_integer : Array (Option Value)} {cd_is_integer : Value} {a_want_at_most : Addr} {oc_want_at_most kV_want_at_most dc_want_at_most pm_want_at_most ct_want_at_most : Value} {od_want_at_most an_want_at_most : Option Addr} {sl_want_at_most : Array (Option Value)} {cd_want_at_most : Value} {a_is_matrix : Addr} {oc_is_matrix kV_is_matrix dc_is_matrix pm_is_matrix ct_is_matrix : Value} {od_is_matrix an_is_matrix : Option Addr} {sl_is_matrix : Array (Option Value)} {cd_is_matrix : Value} {a_is_small_matrix : Addr} {oc_is_small_matrix kV_is_small_matrix dc_is_small_matrix pm_is_small_matrix ct_is_small_matrix : Value} {od_is_small_matrix an_is_small_matrix : Option Addr} {sl_is_small_matrix : Array (Option Value)} {cd_is_small_matrix : Value} {a_check_matrix : Addr} {oc_check_matrix kV_check_matrix dc_check_matrix pm_check_matrix ct_check_matrix : Value} {od_check_matrix an_check_matrix : Option Addr} {sl_check_matrix : Array (Option Value)} {cd_check_matrix : Value}
    {a_product_by : Addr} {oc_product_by kV_product_by dc_product_by pm_product_by ct_product_by : Value} {od_product_by an_product_by : Option Addr} {sl_product_by : Array (Option Value)} {cd_product_by : Value} {a_inverse_by : Addr} {oc_inverse_by kV_inverse_by dc_inverse_by pm_inverse_by ct_inverse_by : Value} {od_inverse_by an_inverse_by : Option Addr} {sl_inverse_by : Array (Option Value)} {cd_inverse_by : Value} {a_product : Addr} {oc_product kV_product dc_product pm_product ct_product : Value} {od_product an_product : Option Addr} {sl_product : Array (Option Value)} {cd_product : Value} {a_inverse : Addr} {oc_inverse kV_inverse dc_inverse pm_inverse ct_inverse : Value} {od_inverse an_inverse : Option Addr} {sl_inverse : Array (Option Value)} {cd_inverse : Value} {a_is_moves_of : Addr} {oc_is_moves_of kV_is_moves_of dc_is_moves_of pm_is_moves_of ct_is_moves_of : Value} {od_is_moves_of an_is_moves_of : Option Addr} {sl_is_moves_of : Array (Option Value)} {cd_is_moves_of : Value} {a_check_moves : Addr} {oc_check_moves kV_check_moves dc_check_moves pm_check_moves ct_check_moves : Value} {od_check_moves an_check_moves : Option Addr} {sl_check_moves : Array (Option Value)} {cd_check_moves : Value}
    {a_matrix_by : Addr} {oc_matrix_by kV_matrix_by dc_matrix_by pm_matrix_by ct_matrix_by : Value} {od_matrix_by an_matrix_by : Option Addr} {sl_matrix_by : Array (Option Value)} {cd_matrix_by : Value} {a_turned_moves_by : Addr} {oc_turned_moves_by kV_turned_moves_by dc_turned_moves_by pm_turned_moves_by ct_turned_moves_by : Value} {od_turned_moves_by an_turned_moves_by : Option Addr} {sl_turned_moves_by : Array (Option Value)} {cd_turned_moves_by : Value} {a_noted : Addr} {oc_noted kV_noted dc_noted pm_noted ct_noted : Value} {od_noted an_noted : Option Addr} {sl_noted : Array (Option Value)} {cd_noted : Value} {a_shears : Addr} {oc_shears kV_shears dc_shears pm_shears ct_shears : Value} {od_shears an_shears : Option Addr} {sl_shears : Array (Option Value)} {cd_shears : Value} {a_pieces_of : Addr} {oc_pieces_of kV_pieces_of dc_pieces_of pm_pieces_of ct_pieces_of : Value} {od_pieces_of an_pieces_of : Option Addr} {sl_pieces_of : Array (Option Value)} {cd_pieces_of : Value} {a_length_by : Addr} {oc_length_by kV_length_by dc_length_by pm_length_by ct_length_by : Value} {od_length_by an_length_by : Option Addr} {sl_length_by : Array (Option Value)} {cd_length_by : Value}
    {a_told_word_by : Addr} {oc_told_word_by kV_told_word_by dc_told_word_by pm_told_word_by ct_told_word_by : Value} {od_told_word_by an_told_word_by : Option Addr} {sl_told_word_by : Array (Option Value)} {cd_told_word_by : Value} {a_is_moves : Addr} {oc_is_moves kV_is_moves dc_is_moves pm_is_moves ct_is_moves : Value} {od_is_moves an_is_moves : Option Addr} {sl_is_moves : Array (Option Value)} {cd_is_moves : Value} {a_matrix_of : Addr} {oc_matrix_of kV_matrix_of dc_matrix_of pm_matrix_of ct_matrix_of : Value} {od_matrix_of an_matrix_of : Option Addr} {sl_matrix_of : Array (Option Value)} {cd_matrix_of : Value} {a_turned_moves : Addr} {oc_turned_moves kV_turned_moves dc_turned_moves pm_turned_moves ct_turned_moves : Value} {od_turned_moves an_turned_moves : Option Addr} {sl_turned_moves : Array (Option Value)} {cd_turned_moves : Value} {a_told_word : Addr} {oc_told_word kV_told_word dc_told_word pm_told_word ct_told_word : Value} {od_told_word an_told_word : Option Addr} {sl_told_word : Array (Option Value)} {cd_told_word : Value} {a_length : Addr} {oc_length kV_length dc_length pm_length ct_length : Value} {od_length an_length : Option Addr} {sl_length : Array (Option Value)} {cd_length : Value}
    {a__law_pot : Addr} {oc__law_pot kV__law_pot dc__law_pot pm__law_pot ct__law_pot : Value} {od__law_pot an__law_pot : Option Addr} {sl__law_pot : Array (Option Value)} {cd__law_pot : Value} {a__law_draw : Addr} {oc__law_draw kV__law_draw dc__law_draw pm__law_draw ct__law_draw : Value} {od__law_draw an__law_draw : Option Addr} {sl__law_draw : Array (Option Value)} {cd__law_draw : Value} {a__law_pick : Addr} {oc__law_pick kV__law_pick dc__law_pick pm__law_pick ct__law_pick : Value} {od__law_pick an__law_pick : Option Addr} {sl__law_pick : Array (Option Value)} {cd__law_pick : Value} {a__law_turned_moves : Addr} {oc__law_turned_moves kV__law_turned_moves dc__law_turned_moves pm__law_turned_moves ct__law_turned_moves : Value} {od__law_turned_moves an__law_turned_moves : Option Addr} {sl__law_turned_moves : Array (Option Value)} {cd__law_turned_moves : Value} {a__law_product : Addr} {oc__law_product kV__law_product dc__law_product pm__law_product ct__law_product : Value} {od__law_product an__law_product : Option Addr} {sl__law_product : Array (Option Value)} {cd__law_product : Value} {a__law_matrix_of : Addr} {oc__law_matrix_of kV__law_matrix_of dc__law_matrix_of pm__law_matrix_of ct__law_matrix_of : Value} {od__law_matrix_of an__law_matrix_of : Option Addr} {sl__law_matrix_of : Array (Option Value)} {cd__law_matrix_of : Value}
    {a__law_moves : Addr} {oc__law_moves kV__law_moves dc__law_moves pm__law_moves ct__law_moves : Value} {od__law_moves an__law_moves : Option Addr} {sl__law_moves : Array (Option Value)} {cd__law_moves : Value} {a__law_told : Addr} {oc__law_told kV__law_told dc__law_told pm__law_told ct__law_told : Value} {od__law_told an__law_told : Option Addr} {sl__law_told : Array (Option Value)} {cd__law_told : Value} {a__law_heard : Addr} {oc__law_heard kV__law_heard dc__law_heard pm__law_heard ct__law_heard : Value} {od__law_heard an__law_heard : Option Addr} {sl__law_heard : Array (Option Value)} {cd__law_heard : Value} {cc__law_matrix_right pp__law_matrix_right : Addr} {a__law_matrix_right : Addr} {oc__law_matrix_right kV__law_matrix_right dc__law_matrix_right pm__law_matrix_right ct__law_matrix_right : Value} {od__law_matrix_right an__law_matrix_right : Option Addr} {sl__law_matrix_right : Array (Option Value)} {a__law_word_right : Addr} {oc__law_word_right kV__law_word_right dc__law_word_right pm__law_word_right ct__law_word_right : Value} {od__law_word_right an__law_word_right : Option Addr} {sl__law_word_right : Array (Option Value)} {cd__law_word_right : Value}
    {a__law_by_notes : Addr} {oc__law_by_notes kV__law_by_notes dc__law_by_notes pm__law_by_notes ct__law_by_notes : Value} {od__law_by_notes an__law_by_notes : Option Addr} {sl__law_by_notes : Array (Option Value)} {cd__law_by_notes : Value} {a__law_right : Addr} {oc__law_right kV__law_right dc__law_right pm__law_right ct__law_right : Value} {od__law_right an__law_right : Option Addr} {sl__law_right : Array (Option Value)} {cd__law_right : Value} {cc__law_asking pp__law_asking : Addr} {a__law_asking : Addr} {oc__law_asking kV__law_asking dc__law_asking pm__law_asking ct__law_asking : Value} {od__law_asking an__law_asking : Option Addr} {sl__law_asking : Array (Option Value)} {a_law : Addr} {oc_law kV_law dc_law pm_law ct_law : Value} {od_law an_law : Option Addr} {sl_law : Array (Option Value)} {cd_law : Value} {a_MATRICES : Addr}
    {k_MATRICES_0 : Tok} {r_MATRICES_0 : Addr} {u_MATRICES_0_t0 : Tok} {u_MATRICES_0_t1 : Tok} {u_MATRICES_0_t2 : Tok} {u_MATRICES_0_t3 : Tok}
    {u_MATRICES_0_od : Option Addr} {u_MATRICES_0_n : Nat} {u_MATRICES_0_sl : Array (Option Value)} {k_MATRICES_1 : Tok} {r_MATRICES_1 : Addr} {u_MATRICES_1_t0 : Tok} {u_MATRICES_1_t1 : Tok} {u_MATRICES_1_t2 : Tok}
    {u_MATRICES_1_t3 : Tok} {u_MATRICES_1_od : Option Addr} {u_MATRICES_1_n : Nat} {u_MATRICES_1_sl : Array (Option Value)} {k_MATRICES_2 : Tok} {r_MATRICES_2 : Addr} {u_MATRICES_2_t0 : Tok} {u_MATRICES_2_t1 : Tok}
    {u_MATRICES_2_t2 : Tok} {u_MATRICES_2_t3 : Tok} {u_MATRICES_2_od : Option Addr} {u_MATRICES_2_n : Nat} {u_MATRICES_2_sl : Array (Option Value)} {k_MATRICES_3 : Tok} {r_MATRICES_3 : Addr} {u_MATRICES_3_t0 : Tok}
    {u_MATRICES_3_t1 : Tok} {u_MATRICES_3_t2 : Tok} {u_MATRICES_3_t3 : Tok} {u_MATRICES_3_od : Option Addr} {u_MATRICES_3_n : Nat} {u_MATRICES_3_sl : Array (Option Value)} {k_MATRICES_4 : Tok} {r_MATRICES_4 : Addr}
    {u_MATRICES_4_t0 : Tok} {u_MATRICES_4_t1 : Tok} {u_MATRICES_4_t2 : Tok} {u_MATRICES_4_t3 : Tok} {u_MATRICES_4_od : Option Addr} {u_MATRICES_4_n : Nat} {u_MATRICES_4_sl : Array (Option Value)} {k_MATRICES_5 : Tok}
    {r_MATRICES_5 : Addr} {u_MATRICES_5_t0 : Tok} {u_MATRICES_5_t1 : Tok} {u_MATRICES_5_t2 : Tok} {u_MATRICES_5_t3 : Tok} {u_MATRICES_5_od : Option Addr} {u_MATRICES_5_n : Nat} {u_MATRICES_5_sl : Array (Option Value)}
    {dn_MATRICES : Nat} {t_MOST_LETTERS : Tok} {t_MOST_MOVES : Tok} {t_MOST_SIZE : Tok} {a_TURNED : Addr} {k_TURNED_0 : Tok}
    {s_TURNED_0 : Tok} {k_TURNED_1 : Tok} {s_TURNED_1 : Tok} {k_TURNED_2 : Tok} {s_TURNED_2 : Tok} {k_TURNED_3 : Tok}
    {s_TURNED_3 : Tok} {k_TURNED_4 : Tok} {s_TURNED_4 : Tok} {k_TURNED_5 : Tok} {s_TURNED_5 : Tok} {dn_TURNED : Nat}
    {a_UNIT : Addr} {u_UNIT_t0 : Tok} {u_UNIT_t1 : Tok} {u_UNIT_t2 : Tok} {u_UNIT_t3 : Tok} {u_UNIT_od : Option Addr} {u_UNIT_n : Nat} {u_UNIT_sl : Array (Option Value)}
    {nm_TooMany q_TooMany : Str} {N_TooMany : Addr} {bs_TooMany sub_TooMany : List Value} {sn_TooMany : List Str} {ab_TooMany : Bool} {col_TooMany : Option Bool} {dd_TooMany : Option Addr} {m0_TooMany m1_TooMany m2_TooMany m3_TooMany m5_TooMany : Option Value} {nm_InvalidMatrix q_InvalidMatrix : Str} {N_InvalidMatrix : Addr} {bs_InvalidMatrix sub_InvalidMatrix : List Value} {sn_InvalidMatrix : List Str} {ab_InvalidMatrix : Bool} {col_InvalidMatrix : Option Bool} {dd_InvalidMatrix : Option Addr} {m0_InvalidMatrix m1_InvalidMatrix m2_InvalidMatrix m3_InvalidMatrix m5_InvalidMatrix : Option Value} {nm_InvalidMoves q_InvalidMoves : Str} {N_InvalidMoves : Addr} {bs_InvalidMoves sub_InvalidMoves : List Value} {sn_InvalidMoves : List Str} {ab_InvalidMoves : Bool} {col_InvalidMoves : Option Bool} {dd_InvalidMoves : Option Addr} {m0_InvalidMoves m1_InvalidMoves m2_InvalidMoves m3_InvalidMoves m5_InvalidMoves : Option Value}
    (y_FloorError : PySem.W.nsIn K mainGlobals "FloorError" = some (some (.ref c_FloorError)))
    (y_LimitError : PySem.W.nsIn K mainGlobals "LimitError" = some (some (.ref c_LimitError)))
    (y_InvalidMoves : PySem.W.nsIn K mainGlobals "InvalidMoves" = some (some (.ref c_InvalidMoves)))
    (y_InvalidMatrix : PySem.W.nsIn K mainGlobals "InvalidMatrix" = some (some (.ref c_InvalidMatrix)))
    (y_TooMany : PySem.W.nsIn K mainGlobals "TooMany" = some (some (.ref c_TooMany)))
    (x_init_FloorError : PySem.W.findIn K (.ref c_FloorError) "__init__" = some (some (.ref a_init_FloorError)))
    (l_init_FloorError : K.lookup a_init_FloorError = some ⟨oc_init_FloorError, od_init_FloorError, .func (PySem.W.fnOf "__init__" "FloorError.__init__" (defArgs s_init_FloorError) (defBody s_init_FloorError) (defScope s_init_FloorError) .none kV_init_FloorError dc_init_FloorError pm_init_FloorError an_init_FloorError cd_init_FloorError ct_init_FloorError), sl_init_FloorError⟩)
    (o_init_FloorError : PySem.W.codeIn K (cd_init_FloorError) "FloorError.__init__" = true)
    (p_init_FloorError : PySem.W.keepIn K (.ref a_init_FloorError) = true)
    (t_init_FloorError : PySem.W.typeIn K (.ref a_init_FloorError) = some (.type "function"))
    (x_init_TooMany : PySem.W.findIn K (.ref c_TooMany) "__init__" = some (some (.ref a_init_TooMany)))
    (l_init_TooMany : K.lookup a_init_TooMany = some ⟨oc_init_TooMany, od_init_TooMany, .func (PySem.W.fnOf "__init__" "TooMany.__init__" (defArgs s_init_TooMany) (defBody s_init_TooMany) (defScope s_init_TooMany) .none kV_init_TooMany dc_init_TooMany pm_init_TooMany an_init_TooMany cd_init_TooMany ct_init_TooMany), sl_init_TooMany⟩)
    (o_init_TooMany : PySem.W.codeIn K (cd_init_TooMany) "TooMany.__init__" = true)
    (p_init_TooMany : PySem.W.keepIn K (.ref a_init_TooMany) = true)
    (t_init_TooMany : PySem.W.typeIn K (.ref a_init_TooMany) = some (.type "function"))
    (x_is_integer : PySem.W.nsIn K mainGlobals "is_integer" = some (some (.ref a_is_integer)))
    (l_is_integer : K.lookup a_is_integer = some ⟨oc_is_integer, od_is_integer, .func (PySem.W.fnOf "is_integer" "is_integer" (defArgs s_is_integer) (defBody s_is_integer) (defScope s_is_integer) .none kV_is_integer dc_is_integer pm_is_integer an_is_integer cd_is_integer ct_is_integer), sl_is_integer⟩)
    (o_is_integer : PySem.W.codeIn K (cd_is_integer) "is_integer" = true)
    (p_is_integer : PySem.W.keepIn K (.ref a_is_integer) = true)
    (x_want_at_most : PySem.W.nsIn K mainGlobals "want_at_most" = some (some (.ref a_want_at_most)))
    (l_want_at_most : K.lookup a_want_at_most = some ⟨oc_want_at_most, od_want_at_most, .func (PySem.W.fnOf "want_at_most" "want_at_most" (defArgs s_want_at_most) (defBody s_want_at_most) (defScope s_want_at_most) .none kV_want_at_most dc_want_at_most pm_want_at_most an_want_at_most cd_want_at_most ct_want_at_most), sl_want_at_most⟩)
    (o_want_at_most : PySem.W.codeIn K (cd_want_at_most) "want_at_most" = true)
    (p_want_at_most : PySem.W.keepIn K (.ref a_want_at_most) = true)
    (x_is_matrix : PySem.W.nsIn K mainGlobals "is_matrix" = some (some (.ref a_is_matrix)))
    (l_is_matrix : K.lookup a_is_matrix = some ⟨oc_is_matrix, od_is_matrix, .func (PySem.W.fnOf "is_matrix" "is_matrix" (defArgs s_is_matrix) (defBody s_is_matrix) (defScope s_is_matrix) .none kV_is_matrix dc_is_matrix pm_is_matrix an_is_matrix cd_is_matrix ct_is_matrix), sl_is_matrix⟩)
    (o_is_matrix : PySem.W.codeIn K (cd_is_matrix) "is_matrix" = true)
    (p_is_matrix : PySem.W.keepIn K (.ref a_is_matrix) = true)
    (x_is_small_matrix : PySem.W.nsIn K mainGlobals "is_small_matrix" = some (some (.ref a_is_small_matrix)))
    (l_is_small_matrix : K.lookup a_is_small_matrix = some ⟨oc_is_small_matrix, od_is_small_matrix, .func (PySem.W.fnOf "is_small_matrix" "is_small_matrix" (defArgs s_is_small_matrix) (defBody s_is_small_matrix) (defScope s_is_small_matrix) .none kV_is_small_matrix dc_is_small_matrix pm_is_small_matrix an_is_small_matrix cd_is_small_matrix ct_is_small_matrix), sl_is_small_matrix⟩)
    (o_is_small_matrix : PySem.W.codeIn K (cd_is_small_matrix) "is_small_matrix" = true)
    (p_is_small_matrix : PySem.W.keepIn K (.ref a_is_small_matrix) = true)
    (x_check_matrix : PySem.W.nsIn K mainGlobals "check_matrix" = some (some (.ref a_check_matrix)))
    (l_check_matrix : K.lookup a_check_matrix = some ⟨oc_check_matrix, od_check_matrix, .func (PySem.W.fnOf "check_matrix" "check_matrix" (defArgs s_check_matrix) (defBody s_check_matrix) (defScope s_check_matrix) .none kV_check_matrix dc_check_matrix pm_check_matrix an_check_matrix cd_check_matrix ct_check_matrix), sl_check_matrix⟩)
    (o_check_matrix : PySem.W.codeIn K (cd_check_matrix) "check_matrix" = true)
    (p_check_matrix : PySem.W.keepIn K (.ref a_check_matrix) = true)
    (x_product_by : PySem.W.nsIn K mainGlobals "product_by" = some (some (.ref a_product_by)))
    (l_product_by : K.lookup a_product_by = some ⟨oc_product_by, od_product_by, .func (PySem.W.fnOf "product_by" "product_by" (defArgs s_product_by) (defBody s_product_by) (defScope s_product_by) .none kV_product_by dc_product_by pm_product_by an_product_by cd_product_by ct_product_by), sl_product_by⟩)
    (o_product_by : PySem.W.codeIn K (cd_product_by) "product_by" = true)
    (p_product_by : PySem.W.keepIn K (.ref a_product_by) = true)
    (x_inverse_by : PySem.W.nsIn K mainGlobals "inverse_by" = some (some (.ref a_inverse_by)))
    (l_inverse_by : K.lookup a_inverse_by = some ⟨oc_inverse_by, od_inverse_by, .func (PySem.W.fnOf "inverse_by" "inverse_by" (defArgs s_inverse_by) (defBody s_inverse_by) (defScope s_inverse_by) .none kV_inverse_by dc_inverse_by pm_inverse_by an_inverse_by cd_inverse_by ct_inverse_by), sl_inverse_by⟩)
    (o_inverse_by : PySem.W.codeIn K (cd_inverse_by) "inverse_by" = true)
    (p_inverse_by : PySem.W.keepIn K (.ref a_inverse_by) = true)
    (x_product : PySem.W.nsIn K mainGlobals "product" = some (some (.ref a_product)))
    (l_product : K.lookup a_product = some ⟨oc_product, od_product, .func (PySem.W.fnOf "product" "product" (defArgs s_product) (defBody s_product) (defScope s_product) .none kV_product dc_product pm_product an_product cd_product ct_product), sl_product⟩)
    (o_product : PySem.W.codeIn K (cd_product) "product" = true)
    (p_product : PySem.W.keepIn K (.ref a_product) = true)
    (x_inverse : PySem.W.nsIn K mainGlobals "inverse" = some (some (.ref a_inverse)))
    (l_inverse : K.lookup a_inverse = some ⟨oc_inverse, od_inverse, .func (PySem.W.fnOf "inverse" "inverse" (defArgs s_inverse) (defBody s_inverse) (defScope s_inverse) .none kV_inverse dc_inverse pm_inverse an_inverse cd_inverse ct_inverse), sl_inverse⟩)
    (o_inverse : PySem.W.codeIn K (cd_inverse) "inverse" = true)
    (p_inverse : PySem.W.keepIn K (.ref a_inverse) = true)
    (x_is_moves_of : PySem.W.nsIn K mainGlobals "is_moves_of" = some (some (.ref a_is_moves_of)))
    (l_is_moves_of : K.lookup a_is_moves_of = some ⟨oc_is_moves_of, od_is_moves_of, .func (PySem.W.fnOf "is_moves_of" "is_moves_of" (defArgs s_is_moves_of) (defBody s_is_moves_of) (defScope s_is_moves_of) .none kV_is_moves_of dc_is_moves_of pm_is_moves_of an_is_moves_of cd_is_moves_of ct_is_moves_of), sl_is_moves_of⟩)
    (o_is_moves_of : PySem.W.codeIn K (cd_is_moves_of) "is_moves_of" = true)
    (p_is_moves_of : PySem.W.keepIn K (.ref a_is_moves_of) = true)
    (x_check_moves : PySem.W.nsIn K mainGlobals "check_moves" = some (some (.ref a_check_moves)))
    (l_check_moves : K.lookup a_check_moves = some ⟨oc_check_moves, od_check_moves, .func (PySem.W.fnOf "check_moves" "check_moves" (defArgs s_check_moves) (defBody s_check_moves) (defScope s_check_moves) .none kV_check_moves dc_check_moves pm_check_moves an_check_moves cd_check_moves ct_check_moves), sl_check_moves⟩)
    (o_check_moves : PySem.W.codeIn K (cd_check_moves) "check_moves" = true)
    (p_check_moves : PySem.W.keepIn K (.ref a_check_moves) = true)
    (x_matrix_by : PySem.W.nsIn K mainGlobals "matrix_by" = some (some (.ref a_matrix_by)))
    (l_matrix_by : K.lookup a_matrix_by = some ⟨oc_matrix_by, od_matrix_by, .func (PySem.W.fnOf "matrix_by" "matrix_by" (defArgs s_matrix_by) (defBody s_matrix_by) (defScope s_matrix_by) .none kV_matrix_by dc_matrix_by pm_matrix_by an_matrix_by cd_matrix_by ct_matrix_by), sl_matrix_by⟩)
    (o_matrix_by : PySem.W.codeIn K (cd_matrix_by) "matrix_by" = true)
    (p_matrix_by : PySem.W.keepIn K (.ref a_matrix_by) = true)
    (x_turned_moves_by : PySem.W.nsIn K mainGlobals "turned_moves_by" = some (some (.ref a_turned_moves_by)))
    (l_turned_moves_by : K.lookup a_turned_moves_by = some ⟨oc_turned_moves_by, od_turned_moves_by, .func (PySem.W.fnOf "turned_moves_by" "turned_moves_by" (defArgs s_turned_moves_by) (defBody s_turned_moves_by) (defScope s_turned_moves_by) .none kV_turned_moves_by dc_turned_moves_by pm_turned_moves_by an_turned_moves_by cd_turned_moves_by ct_turned_moves_by), sl_turned_moves_by⟩)
    (o_turned_moves_by : PySem.W.codeIn K (cd_turned_moves_by) "turned_moves_by" = true)
    (p_turned_moves_by : PySem.W.keepIn K (.ref a_turned_moves_by) = true)
    (x_noted : PySem.W.nsIn K mainGlobals "noted" = some (some (.ref a_noted)))
    (l_noted : K.lookup a_noted = some ⟨oc_noted, od_noted, .func (PySem.W.fnOf "noted" "noted" (defArgs s_noted) (defBody s_noted) (defScope s_noted) .none kV_noted dc_noted pm_noted an_noted cd_noted ct_noted), sl_noted⟩)
    (o_noted : PySem.W.codeIn K (cd_noted) "noted" = true)
    (p_noted : PySem.W.keepIn K (.ref a_noted) = true)
    (x_shears : PySem.W.nsIn K mainGlobals "shears" = some (some (.ref a_shears)))
    (l_shears : K.lookup a_shears = some ⟨oc_shears, od_shears, .func (PySem.W.fnOf "shears" "shears" (defArgs s_shears) (defBody s_shears) (defScope s_shears) .none kV_shears dc_shears pm_shears an_shears cd_shears ct_shears), sl_shears⟩)
    (o_shears : PySem.W.codeIn K (cd_shears) "shears" = true)
    (p_shears : PySem.W.keepIn K (.ref a_shears) = true)
    (x_pieces_of : PySem.W.nsIn K mainGlobals "pieces_of" = some (some (.ref a_pieces_of)))
    (l_pieces_of : K.lookup a_pieces_of = some ⟨oc_pieces_of, od_pieces_of, .func (PySem.W.fnOf "pieces_of" "pieces_of" (defArgs s_pieces_of) (defBody s_pieces_of) (defScope s_pieces_of) .none kV_pieces_of dc_pieces_of pm_pieces_of an_pieces_of cd_pieces_of ct_pieces_of), sl_pieces_of⟩)
    (o_pieces_of : PySem.W.codeIn K (cd_pieces_of) "pieces_of" = true)
    (p_pieces_of : PySem.W.keepIn K (.ref a_pieces_of) = true)
    (x_length_by : PySem.W.nsIn K mainGlobals "length_by" = some (some (.ref a_length_by)))
    (l_length_by : K.lookup a_length_by = some ⟨oc_length_by, od_length_by, .func (PySem.W.fnOf "length_by" "length_by" (defArgs s_length_by) (defBody s_length_by) (defScope s_length_by) .none kV_length_by dc_length_by pm_length_by an_length_by cd_length_by ct_length_by), sl_length_by⟩)
    (o_length_by : PySem.W.codeIn K (cd_length_by) "length_by" = true)
    (p_length_by : PySem.W.keepIn K (.ref a_length_by) = true)
    (x_told_word_by : PySem.W.nsIn K mainGlobals "told_word_by" = some (some (.ref a_told_word_by)))
    (l_told_word_by : K.lookup a_told_word_by = some ⟨oc_told_word_by, od_told_word_by, .func (PySem.W.fnOf "told_word_by" "told_word_by" (defArgs s_told_word_by) (defBody s_told_word_by) (defScope s_told_word_by) .none kV_told_word_by dc_told_word_by pm_told_word_by an_told_word_by cd_told_word_by ct_told_word_by), sl_told_word_by⟩)
    (o_told_word_by : PySem.W.codeIn K (cd_told_word_by) "told_word_by" = true)
    (p_told_word_by : PySem.W.keepIn K (.ref a_told_word_by) = true)
    (x_is_moves : PySem.W.nsIn K mainGlobals "is_moves" = some (some (.ref a_is_moves)))
    (l_is_moves : K.lookup a_is_moves = some ⟨oc_is_moves, od_is_moves, .func (PySem.W.fnOf "is_moves" "is_moves" (defArgs s_is_moves) (defBody s_is_moves) (defScope s_is_moves) .none kV_is_moves dc_is_moves pm_is_moves an_is_moves cd_is_moves ct_is_moves), sl_is_moves⟩)
    (o_is_moves : PySem.W.codeIn K (cd_is_moves) "is_moves" = true)
    (p_is_moves : PySem.W.keepIn K (.ref a_is_moves) = true)
    (x_matrix_of : PySem.W.nsIn K mainGlobals "matrix_of" = some (some (.ref a_matrix_of)))
    (l_matrix_of : K.lookup a_matrix_of = some ⟨oc_matrix_of, od_matrix_of, .func (PySem.W.fnOf "matrix_of" "matrix_of" (defArgs s_matrix_of) (defBody s_matrix_of) (defScope s_matrix_of) .none kV_matrix_of dc_matrix_of pm_matrix_of an_matrix_of cd_matrix_of ct_matrix_of), sl_matrix_of⟩)
    (o_matrix_of : PySem.W.codeIn K (cd_matrix_of) "matrix_of" = true)
    (p_matrix_of : PySem.W.keepIn K (.ref a_matrix_of) = true)
    (x_turned_moves : PySem.W.nsIn K mainGlobals "turned_moves" = some (some (.ref a_turned_moves)))
    (l_turned_moves : K.lookup a_turned_moves = some ⟨oc_turned_moves, od_turned_moves, .func (PySem.W.fnOf "turned_moves" "turned_moves" (defArgs s_turned_moves) (defBody s_turned_moves) (defScope s_turned_moves) .none kV_turned_moves dc_turned_moves pm_turned_moves an_turned_moves cd_turned_moves ct_turned_moves), sl_turned_moves⟩)
    (o_turned_moves : PySem.W.codeIn K (cd_turned_moves) "turned_moves" = true)
    (p_turned_moves : PySem.W.keepIn K (.ref a_turned_moves) = true)
    (x_told_word : PySem.W.nsIn K mainGlobals "told_word" = some (some (.ref a_told_word)))
    (l_told_word : K.lookup a_told_word = some ⟨oc_told_word, od_told_word, .func (PySem.W.fnOf "told_word" "told_word" (defArgs s_told_word) (defBody s_told_word) (defScope s_told_word) .none kV_told_word dc_told_word pm_told_word an_told_word cd_told_word ct_told_word), sl_told_word⟩)
    (o_told_word : PySem.W.codeIn K (cd_told_word) "told_word" = true)
    (p_told_word : PySem.W.keepIn K (.ref a_told_word) = true)
    (x_length : PySem.W.nsIn K mainGlobals "length" = some (some (.ref a_length)))
    (l_length : K.lookup a_length = some ⟨oc_length, od_length, .func (PySem.W.fnOf "length" "length" (defArgs s_length) (defBody s_length) (defScope s_length) .none kV_length dc_length pm_length an_length cd_length ct_length), sl_length⟩)
    (o_length : PySem.W.codeIn K (cd_length) "length" = true)
    (p_length : PySem.W.keepIn K (.ref a_length) = true)
    (x__law_pot : PySem.W.nsIn K mainGlobals "_law_pot" = some (some (.ref a__law_pot)))
    (l__law_pot : K.lookup a__law_pot = some ⟨oc__law_pot, od__law_pot, .func (PySem.W.fnOf "_law_pot" "_law_pot" (defArgs s__law_pot) (defBody s__law_pot) (defScope s__law_pot) .none kV__law_pot dc__law_pot pm__law_pot an__law_pot cd__law_pot ct__law_pot), sl__law_pot⟩)
    (o__law_pot : PySem.W.codeIn K (cd__law_pot) "_law_pot" = true)
    (p__law_pot : PySem.W.keepIn K (.ref a__law_pot) = true)
    (x__law_draw : PySem.W.nsIn K mainGlobals "_law_draw" = some (some (.ref a__law_draw)))
    (l__law_draw : K.lookup a__law_draw = some ⟨oc__law_draw, od__law_draw, .func (PySem.W.fnOf "_law_draw" "_law_draw" (defArgs s__law_draw) (defBody s__law_draw) (defScope s__law_draw) .none kV__law_draw dc__law_draw pm__law_draw an__law_draw cd__law_draw ct__law_draw), sl__law_draw⟩)
    (o__law_draw : PySem.W.codeIn K (cd__law_draw) "_law_draw" = true)
    (p__law_draw : PySem.W.keepIn K (.ref a__law_draw) = true)
    (x__law_pick : PySem.W.nsIn K mainGlobals "_law_pick" = some (some (.ref a__law_pick)))
    (l__law_pick : K.lookup a__law_pick = some ⟨oc__law_pick, od__law_pick, .func (PySem.W.fnOf "_law_pick" "_law_pick" (defArgs s__law_pick) (defBody s__law_pick) (defScope s__law_pick) .none kV__law_pick dc__law_pick pm__law_pick an__law_pick cd__law_pick ct__law_pick), sl__law_pick⟩)
    (o__law_pick : PySem.W.codeIn K (cd__law_pick) "_law_pick" = true)
    (p__law_pick : PySem.W.keepIn K (.ref a__law_pick) = true)
    (x__law_turned_moves : PySem.W.nsIn K mainGlobals "_law_turned_moves" = some (some (.ref a__law_turned_moves)))
    (l__law_turned_moves : K.lookup a__law_turned_moves = some ⟨oc__law_turned_moves, od__law_turned_moves, .func (PySem.W.fnOf "_law_turned_moves" "_law_turned_moves" (defArgs s__law_turned_moves) (defBody s__law_turned_moves) (defScope s__law_turned_moves) .none kV__law_turned_moves dc__law_turned_moves pm__law_turned_moves an__law_turned_moves cd__law_turned_moves ct__law_turned_moves), sl__law_turned_moves⟩)
    (o__law_turned_moves : PySem.W.codeIn K (cd__law_turned_moves) "_law_turned_moves" = true)
    (p__law_turned_moves : PySem.W.keepIn K (.ref a__law_turned_moves) = true)
    (x__law_product : PySem.W.nsIn K mainGlobals "_law_product" = some (some (.ref a__law_product)))
    (l__law_product : K.lookup a__law_product = some ⟨oc__law_product, od__law_product, .func (PySem.W.fnOf "_law_product" "_law_product" (defArgs s__law_product) (defBody s__law_product) (defScope s__law_product) .none kV__law_product dc__law_product pm__law_product an__law_product cd__law_product ct__law_product), sl__law_product⟩)
    (o__law_product : PySem.W.codeIn K (cd__law_product) "_law_product" = true)
    (p__law_product : PySem.W.keepIn K (.ref a__law_product) = true)
    (x__law_matrix_of : PySem.W.nsIn K mainGlobals "_law_matrix_of" = some (some (.ref a__law_matrix_of)))
    (l__law_matrix_of : K.lookup a__law_matrix_of = some ⟨oc__law_matrix_of, od__law_matrix_of, .func (PySem.W.fnOf "_law_matrix_of" "_law_matrix_of" (defArgs s__law_matrix_of) (defBody s__law_matrix_of) (defScope s__law_matrix_of) .none kV__law_matrix_of dc__law_matrix_of pm__law_matrix_of an__law_matrix_of cd__law_matrix_of ct__law_matrix_of), sl__law_matrix_of⟩)
    (o__law_matrix_of : PySem.W.codeIn K (cd__law_matrix_of) "_law_matrix_of" = true)
    (p__law_matrix_of : PySem.W.keepIn K (.ref a__law_matrix_of) = true)
    (x__law_moves : PySem.W.nsIn K mainGlobals "_law_moves" = some (some (.ref a__law_moves)))
    (l__law_moves : K.lookup a__law_moves = some ⟨oc__law_moves, od__law_moves, .func (PySem.W.fnOf "_law_moves" "_law_moves" (defArgs s__law_moves) (defBody s__law_moves) (defScope s__law_moves) .none kV__law_moves dc__law_moves pm__law_moves an__law_moves cd__law_moves ct__law_moves), sl__law_moves⟩)
    (o__law_moves : PySem.W.codeIn K (cd__law_moves) "_law_moves" = true)
    (p__law_moves : PySem.W.keepIn K (.ref a__law_moves) = true)
    (x__law_told : PySem.W.nsIn K mainGlobals "_law_told" = some (some (.ref a__law_told)))
    (l__law_told : K.lookup a__law_told = some ⟨oc__law_told, od__law_told, .func (PySem.W.fnOf "_law_told" "_law_told" (defArgs s__law_told) (defBody s__law_told) (defScope s__law_told) .none kV__law_told dc__law_told pm__law_told an__law_told cd__law_told ct__law_told), sl__law_told⟩)
    (o__law_told : PySem.W.codeIn K (cd__law_told) "_law_told" = true)
    (p__law_told : PySem.W.keepIn K (.ref a__law_told) = true)
    (x__law_heard : PySem.W.nsIn K mainGlobals "_law_heard" = some (some (.ref a__law_heard)))
    (l__law_heard : K.lookup a__law_heard = some ⟨oc__law_heard, od__law_heard, .func (PySem.W.fnOf "_law_heard" "_law_heard" (defArgs s__law_heard) (defBody s__law_heard) (defScope s__law_heard) .none kV__law_heard dc__law_heard pm__law_heard an__law_heard cd__law_heard ct__law_heard), sl__law_heard⟩)
    (o__law_heard : PySem.W.codeIn K (cd__law_heard) "_law_heard" = true)
    (p__law_heard : PySem.W.keepIn K (.ref a__law_heard) = true)
    (x__law_matrix_right : PySem.W.nsIn K mainGlobals "_law_matrix_right" = some (some (.ref a__law_matrix_right)))
    (l__law_matrix_right : K.lookup a__law_matrix_right = some ⟨oc__law_matrix_right, od__law_matrix_right, .func (PySem.W.fnOf "_law_matrix_right" "_law_matrix_right" (defArgs s__law_matrix_right) (defBody s__law_matrix_right) (defScope s__law_matrix_right) .none kV__law_matrix_right dc__law_matrix_right pm__law_matrix_right an__law_matrix_right (.ref cc__law_matrix_right) ct__law_matrix_right), sl__law_matrix_right⟩)
    (o__law_matrix_right : PySem.W.codeIn K ((.ref cc__law_matrix_right)) "_law_matrix_right" = true)
    (p__law_matrix_right : PySem.W.keepIn K (.ref a__law_matrix_right) = true)
    (tn__law_matrix_right : PySem.W.tabIn K "_law_matrix_right" = some (cc__law_matrix_right, pp__law_matrix_right))
    (hd__law_matrix_right : PySem.W.codeHdIn K cc__law_matrix_right pp__law_matrix_right = true)
    (nl__law_matrix_right : K.lookup pp__law_matrix_right = none)
    (gt__law_matrix_right : h.get? pp__law_matrix_right = some { cls := .none, data := .fields #[] })
    (x__law_word_right : PySem.W.nsIn K mainGlobals "_law_word_right" = some (some (.ref a__law_word_right)))
    (l__law_word_right : K.lookup a__law_word_right = some ⟨oc__law_word_right, od__law_word_right, .func (PySem.W.fnOf "_law_word_right" "_law_word_right" (defArgs s__law_word_right) (defBody s__law_word_right) (defScope s__law_word_right) .none kV__law_word_right dc__law_word_right pm__law_word_right an__law_word_right cd__law_word_right ct__law_word_right), sl__law_word_right⟩)
    (o__law_word_right : PySem.W.codeIn K (cd__law_word_right) "_law_word_right" = true)
    (p__law_word_right : PySem.W.keepIn K (.ref a__law_word_right) = true)
    (x__law_by_notes : PySem.W.nsIn K mainGlobals "_law_by_notes" = some (some (.ref a__law_by_notes)))
    (l__law_by_notes : K.lookup a__law_by_notes = some ⟨oc__law_by_notes, od__law_by_notes, .func (PySem.W.fnOf "_law_by_notes" "_law_by_notes" (defArgs s__law_by_notes) (defBody s__law_by_notes) (defScope s__law_by_notes) .none kV__law_by_notes dc__law_by_notes pm__law_by_notes an__law_by_notes cd__law_by_notes ct__law_by_notes), sl__law_by_notes⟩)
    (o__law_by_notes : PySem.W.codeIn K (cd__law_by_notes) "_law_by_notes" = true)
    (p__law_by_notes : PySem.W.keepIn K (.ref a__law_by_notes) = true)
    (x__law_right : PySem.W.nsIn K mainGlobals "_law_right" = some (some (.ref a__law_right)))
    (l__law_right : K.lookup a__law_right = some ⟨oc__law_right, od__law_right, .func (PySem.W.fnOf "_law_right" "_law_right" (defArgs s__law_right) (defBody s__law_right) (defScope s__law_right) .none kV__law_right dc__law_right pm__law_right an__law_right cd__law_right ct__law_right), sl__law_right⟩)
    (o__law_right : PySem.W.codeIn K (cd__law_right) "_law_right" = true)
    (p__law_right : PySem.W.keepIn K (.ref a__law_right) = true)
    (x__law_asking : PySem.W.nsIn K mainGlobals "_law_asking" = some (some (.ref a__law_asking)))
    (l__law_asking : K.lookup a__law_asking = some ⟨oc__law_asking, od__law_asking, .func (PySem.W.fnOf "_law_asking" "_law_asking" (defArgs s__law_asking) (defBody s__law_asking) (defScope s__law_asking) .none kV__law_asking dc__law_asking pm__law_asking an__law_asking (.ref cc__law_asking) ct__law_asking), sl__law_asking⟩)
    (o__law_asking : PySem.W.codeIn K ((.ref cc__law_asking)) "_law_asking" = true)
    (p__law_asking : PySem.W.keepIn K (.ref a__law_asking) = true)
    (tn__law_asking : PySem.W.tabIn K "_law_asking" = some (cc__law_asking, pp__law_asking))
    (hd__law_asking : PySem.W.codeHdIn K cc__law_asking pp__law_asking = true)
    (nl__law_asking : K.lookup pp__law_asking = none)
    (gt__law_asking : h.get? pp__law_asking = some { cls := .none, data := .fields #[] })
    (x_law : PySem.W.nsIn K mainGlobals "law" = some (some (.ref a_law)))
    (l_law : K.lookup a_law = some ⟨oc_law, od_law, .func (PySem.W.fnOf "law" "law" (defArgs s_law) (defBody s_law) (defScope s_law) .none kV_law dc_law pm_law an_law cd_law ct_law), sl_law⟩)
    (o_law : PySem.W.codeIn K (cd_law) "law" = true)
    (p_law : PySem.W.keepIn K (.ref a_law) = true)
    (ne__law_matrix_right__law_asking : decide (pp__law_matrix_right ≠ pp__law_asking) = true)
    (z_abs : PySem.W.nsIn K mainGlobals "abs" = some none)
    (z_all : PySem.W.nsIn K mainGlobals "all" = some none)
    (z_bool : PySem.W.nsIn K mainGlobals "bool" = some none)
    (z_divmod : PySem.W.nsIn K mainGlobals "divmod" = some none)
    (z_int : PySem.W.nsIn K mainGlobals "int" = some none)
    (z_isinstance : PySem.W.nsIn K mainGlobals "isinstance" = some none)
    (z_len : PySem.W.nsIn K mainGlobals "len" = some none)
    (z_max : PySem.W.nsIn K mainGlobals "max" = some none)
    (z_min : PySem.W.nsIn K mainGlobals "min" = some none)
    (z_range : PySem.W.nsIn K mainGlobals "range" = some none)
    (z_repr : PySem.W.nsIn K mainGlobals "repr" = some none)
    (z_str : PySem.W.nsIn K mainGlobals "str" = some none)
    (z_sum : PySem.W.nsIn K mainGlobals "sum" = some none)
    (z_tuple : PySem.W.nsIn K mainGlobals "tuple" = some none)
    (y_MATRICES : PySem.W.nsIn K mainGlobals "MATRICES" = some (some (.ref a_MATRICES)))
    (l_MATRICES : K.lookup a_MATRICES = some ⟨.type "dict", none, .dict (([("t", k_MATRICES_0, .ref r_MATRICES_0), ("T", k_MATRICES_1, .ref r_MATRICES_1), ("v", k_MATRICES_2, .ref r_MATRICES_2), ("V", k_MATRICES_3, .ref r_MATRICES_3), ("j", k_MATRICES_4, .ref r_MATRICES_4), ("J", k_MATRICES_5, .ref r_MATRICES_5)] : List (Str × Tok × Value)).map (mkE w)).toArray dn_MATRICES, #[]⟩)
    (l_MATRICES_0 : K.lookup r_MATRICES_0 = some ⟨.type "tuple", u_MATRICES_0_od, .seq (([(1, u_MATRICES_0_t0), (1, u_MATRICES_0_t1), (0, u_MATRICES_0_t2), (1, u_MATRICES_0_t3)] : List (Int × Tok)).map fun p => Value.int p.1 p.2).toArray u_MATRICES_0_n, u_MATRICES_0_sl⟩)
    (l_MATRICES_1 : K.lookup r_MATRICES_1 = some ⟨.type "tuple", u_MATRICES_1_od, .seq (([(1, u_MATRICES_1_t0), ((-1), u_MATRICES_1_t1), (0, u_MATRICES_1_t2), (1, u_MATRICES_1_t3)] : List (Int × Tok)).map fun p => Value.int p.1 p.2).toArray u_MATRICES_1_n, u_MATRICES_1_sl⟩)
    (l_MATRICES_2 : K.lookup r_MATRICES_2 = some ⟨.type "tuple", u_MATRICES_2_od, .seq (([(1, u_MATRICES_2_t0), (0, u_MATRICES_2_t1), (1, u_MATRICES_2_t2), (1, u_MATRICES_2_t3)] : List (Int × Tok)).map fun p => Value.int p.1 p.2).toArray u_MATRICES_2_n, u_MATRICES_2_sl⟩)
    (l_MATRICES_3 : K.lookup r_MATRICES_3 = some ⟨.type "tuple", u_MATRICES_3_od, .seq (([(1, u_MATRICES_3_t0), (0, u_MATRICES_3_t1), ((-1), u_MATRICES_3_t2), (1, u_MATRICES_3_t3)] : List (Int × Tok)).map fun p => Value.int p.1 p.2).toArray u_MATRICES_3_n, u_MATRICES_3_sl⟩)
    (l_MATRICES_4 : K.lookup r_MATRICES_4 = some ⟨.type "tuple", u_MATRICES_4_od, .seq (([(0, u_MATRICES_4_t0), ((-1), u_MATRICES_4_t1), (1, u_MATRICES_4_t2), (0, u_MATRICES_4_t3)] : List (Int × Tok)).map fun p => Value.int p.1 p.2).toArray u_MATRICES_4_n, u_MATRICES_4_sl⟩)
    (l_MATRICES_5 : K.lookup r_MATRICES_5 = some ⟨.type "tuple", u_MATRICES_5_od, .seq (([(0, u_MATRICES_5_t0), (1, u_MATRICES_5_t1), ((-1), u_MATRICES_5_t2), (0, u_MATRICES_5_t3)] : List (Int × Tok)).map fun p => Value.int p.1 p.2).toArray u_MATRICES_5_n, u_MATRICES_5_sl⟩)
    (w_MATRICES : (a_MATRICES == sysModules) = false)
    (y_MOST_LETTERS : PySem.W.nsIn K mainGlobals "MOST_LETTERS" = some (some (.int 400 t_MOST_LETTERS)))
    (y_MOST_MOVES : PySem.W.nsIn K mainGlobals "MOST_MOVES" = some (some (.int 400 t_MOST_MOVES)))
    (y_MOST_SIZE : PySem.W.nsIn K mainGlobals "MOST_SIZE" = some (some (.int 1000000000000000000000000000000 t_MOST_SIZE)))
    (y_TURNED : PySem.W.nsIn K mainGlobals "TURNED" = some (some (.ref a_TURNED)))
    (l_TURNED : K.lookup a_TURNED = some ⟨.type "dict", none, .dict (([("t", k_TURNED_0, .str "T" s_TURNED_0), ("T", k_TURNED_1, .str "t" s_TURNED_1), ("v", k_TURNED_2, .str "V" s_TURNED_2), ("V", k_TURNED_3, .str "v" s_TURNED_3), ("j", k_TURNED_4, .str "J" s_TURNED_4), ("J", k_TURNED_5, .str "j" s_TURNED_5)] : List (Str × Tok × Value)).map (mkE w)).toArray dn_TURNED, #[]⟩)
    (w_TURNED : (a_TURNED == sysModules) = false)
    (y_UNIT : PySem.W.nsIn K mainGlobals "UNIT" = some (some (.ref a_UNIT)))
    (l_UNIT : K.lookup a_UNIT = some ⟨.type "tuple", u_UNIT_od, .seq (([(1, u_UNIT_t0), (0, u_UNIT_t1), (0, u_UNIT_t2), (1, u_UNIT_t3)] : List (Int × Tok)).map fun p => Value.int p.1 p.2).toArray u_UNIT_n, u_UNIT_sl⟩)
    (xl_TooMany : K.lookup c_TooMany = some (excClassObj nm_TooMany q_TooMany c_TooMany N_TooMany bs_TooMany [.ref c_LimitError, .type "ArithmeticError", .type "Exception", .type "BaseException", .type "object"] true sn_TooMany sub_TooMany ab_TooMany col_TooMany dd_TooMany m0_TooMany m1_TooMany m2_TooMany m3_TooMany m5_TooMany "ArithmeticError.__new__"))
    (sa_TooMany : PySem.W.findIn K (.ref c_TooMany) "__setattr__" = some (some (.builtin "object.__setattr__")))
    (sb_TooMany : PySem.W.subIn K (.ref c_TooMany) (.type "BaseException") = some true)
    (ty_TooMany : PySem.W.typeIn K (.ref c_TooMany) = some (.type "type"))
    (kp_TooMany : PySem.W.keepIn K (.ref c_TooMany) = true)
    (fn_TooMany_what : PySem.W.findIn K (.ref c_TooMany) "what" = some none)
    (fn_TooMany_limit : PySem.W.findIn K (.ref c_TooMany) "limit" = some none)
    (fn_TooMany_value : PySem.W.findIn K (.ref c_TooMany) "value" = some none)
    (ic_TooMany : PySem.W.findIn K (.ref c_TooMany) "__init__" = some (some (.ref a_init_TooMany)))
    (xl_InvalidMatrix : K.lookup c_InvalidMatrix = some (excClassObj nm_InvalidMatrix q_InvalidMatrix c_InvalidMatrix N_InvalidMatrix bs_InvalidMatrix [.ref c_FloorError, .type "ValueError", .type "Exception", .type "BaseException", .type "object"] true sn_InvalidMatrix sub_InvalidMatrix ab_InvalidMatrix col_InvalidMatrix dd_InvalidMatrix m0_InvalidMatrix m1_InvalidMatrix m2_InvalidMatrix m3_InvalidMatrix m5_InvalidMatrix "ValueError.__new__"))
    (sa_InvalidMatrix : PySem.W.findIn K (.ref c_InvalidMatrix) "__setattr__" = some (some (.builtin "object.__setattr__")))
    (sb_InvalidMatrix : PySem.W.subIn K (.ref c_InvalidMatrix) (.type "BaseException") = some true)
    (ty_InvalidMatrix : PySem.W.typeIn K (.ref c_InvalidMatrix) = some (.type "type"))
    (kp_InvalidMatrix : PySem.W.keepIn K (.ref c_InvalidMatrix) = true)
    (fn_InvalidMatrix_value : PySem.W.findIn K (.ref c_InvalidMatrix) "value" = some none)
    (fn_InvalidMatrix_limit : PySem.W.findIn K (.ref c_InvalidMatrix) "limit" = some none)
    (fn_InvalidMatrix_what : PySem.W.findIn K (.ref c_InvalidMatrix) "what" = some none)
    (ic_InvalidMatrix : PySem.W.findIn K (.ref c_InvalidMatrix) "__init__" = some (some (.ref a_init_FloorError)))
    (xl_InvalidMoves : K.lookup c_InvalidMoves = some (excClassObj nm_InvalidMoves q_InvalidMoves c_InvalidMoves N_InvalidMoves bs_InvalidMoves [.ref c_FloorError, .type "ValueError", .type "Exception", .type "BaseException", .type "object"] true sn_InvalidMoves sub_InvalidMoves ab_InvalidMoves col_InvalidMoves dd_InvalidMoves m0_InvalidMoves m1_InvalidMoves m2_InvalidMoves m3_InvalidMoves m5_InvalidMoves "ValueError.__new__"))
    (sa_InvalidMoves : PySem.W.findIn K (.ref c_InvalidMoves) "__setattr__" = some (some (.builtin "object.__setattr__")))
    (sb_InvalidMoves : PySem.W.subIn K (.ref c_InvalidMoves) (.type "BaseException") = some true)
    (ty_InvalidMoves : PySem.W.typeIn K (.ref c_InvalidMoves) = some (.type "type"))
    (kp_InvalidMoves : PySem.W.keepIn K (.ref c_InvalidMoves) = true)
    (fn_InvalidMoves_value : PySem.W.findIn K (.ref c_InvalidMoves) "value" = some none)
    (fn_InvalidMoves_limit : PySem.W.findIn K (.ref c_InvalidMoves) "limit" = some none)
    (fn_InvalidMoves_what : PySem.W.findIn K (.ref c_InvalidMoves) "what" = some none)
    (ic_InvalidMoves : PySem.W.findIn K (.ref c_InvalidMoves) "__init__" = some (some (.ref a_init_FloorError)))
    (ga_TooMany : PySem.W.findIn K (.ref c_TooMany) "__getattribute__" = some (some (.builtin "BaseException.__getattribute__")))
    (gg_TooMany : PySem.W.findIn K (.ref c_TooMany) "__getattr__" = some none)
    (hdt_TooMany : PySem.W.hasDictIn K c_TooMany = true)
    (cl_TooMany : PySem.W.findIn K (.ref c_TooMany) "__class__" = some (some (.builtin "object.__class__")))
    (mo_TooMany : PySem.W.mroIn K c_TooMany (.type "object") = some true)
    (xm_TooMany_InvalidMoves : PySem.W.exmOne K (.ref c_TooMany) (.ref c_InvalidMoves) = some false)
    (xm_TooMany_TooMany : PySem.W.exmOne K (.ref c_TooMany) (.ref c_TooMany) = some true)
    (xi_TooMany_FloorError : PySem.W.kitOne K (.ref c_TooMany) (.ref c_FloorError) = some false)
    (xi_TooMany_LimitError : PySem.W.kitOne K (.ref c_TooMany) (.ref c_LimitError) = some true)
    (ga_InvalidMatrix : PySem.W.findIn K (.ref c_InvalidMatrix) "__getattribute__" = some (some (.builtin "BaseException.__getattribute__")))
    (gg_InvalidMatrix : PySem.W.findIn K (.ref c_InvalidMatrix) "__getattr__" = some none)
    (hdt_InvalidMatrix : PySem.W.hasDictIn K c_InvalidMatrix = true)
    (cl_InvalidMatrix : PySem.W.findIn K (.ref c_InvalidMatrix) "__class__" = some (some (.builtin "object.__class__")))
    (mo_InvalidMatrix : PySem.W.mroIn K c_InvalidMatrix (.type "object") = some true)
    (xm_InvalidMatrix_InvalidMoves : PySem.W.exmOne K (.ref c_InvalidMatrix) (.ref c_InvalidMoves) = some false)
    (xm_InvalidMatrix_TooMany : PySem.W.exmOne K (.ref c_InvalidMatrix) (.ref c_TooMany) = some false)
    (xi_InvalidMatrix_FloorError : PySem.W.kitOne K (.ref c_InvalidMatrix) (.ref c_FloorError) = some true)
    (xi_InvalidMatrix_LimitError : PySem.W.kitOne K (.ref c_InvalidMatrix) (.ref c_LimitError) = some false)
    (ga_InvalidMoves : PySem.W.findIn K (.ref c_InvalidMoves) "__getattribute__" = some (some (.builtin "BaseException.__getattribute__")))
    (gg_InvalidMoves : PySem.W.findIn K (.ref c_InvalidMoves) "__getattr__" = some none)
    (hdt_InvalidMoves : PySem.W.hasDictIn K c_InvalidMoves = true)
    (cl_InvalidMoves : PySem.W.findIn K (.ref c_InvalidMoves) "__class__" = some (some (.builtin "object.__class__")))
    (mo_InvalidMoves : PySem.W.mroIn K c_InvalidMoves (.type "object") = some true)
    (xm_InvalidMoves_InvalidMoves : PySem.W.exmOne K (.ref c_InvalidMoves) (.ref c_InvalidMoves) = some true)
    (xm_InvalidMoves_TooMany : PySem.W.exmOne K (.ref c_InvalidMoves) (.ref c_TooMany) = some false)
    (xi_InvalidMoves_FloorError : PySem.W.kitOne K (.ref c_InvalidMoves) (.ref c_FloorError) = some true)
    (xi_InvalidMoves_LimitError : PySem.W.kitOne K (.ref c_InvalidMoves) (.ref c_LimitError) = some false)
    (spC : PySem.W.specialIn K (.builtin "object.__class__") "__get__" = some (some (.builtin "getset_descriptor.__get__")))
    (tkC : PySem.W.takesIn K (.builtin "object.__class__") = some true) :
    LawG l w K 16 n "script" mg fa h := by
  have e := hfa.symm.trans (PySem.W.mg_of X G x_law)
  cases e
  have TX : ∀ base : Heap, (∀ p ∈ ([(cc__law_matrix_right, pp__law_matrix_right), (cc__law_asking, pp__law_asking)] : List (Addr × Addr)), LamX.TabB base mg p.1 p.2) → ∃ Z : Txt l.prog w K mg base, Z.a_law = fa ∧ Z.fd_law = PySem.W.fnOf "law" "law" (defArgs s_law) (defBody s_law) (defScope s_law) .none kV_law dc_law pm_law an_law cd_law ct_law ∧ Z.TT = [(pp__law_matrix_right, ("_law_matrix_right" : Str) ++ ".<locals>.<lambda>"), (pp__law_asking, ("_law_asking" : Str) ++ ".<locals>.<lambda>")] := fun base TB =>
    ⟨{
      a_is_integer := a_is_integer
      fd_is_integer := _
      F_is_integer := fun_mk (st := s_is_integer) l_is_integer o_is_integer p_is_integer
      g_is_integer := PySem.W.mg_of X G x_is_integer
      b_is_integer := (fun_mk (st := s_is_integer) l_is_integer o_is_integer p_is_integer).binds (ps := ["value"]) fun _ _ _ _ _ _ us hl => match us, hl with | [_], _ => rfl
      a_want_at_most := a_want_at_most
      fd_want_at_most := _
      F_want_at_most := fun_mk (st := s_want_at_most) l_want_at_most o_want_at_most p_want_at_most
      g_want_at_most := PySem.W.mg_of X G x_want_at_most
      b_want_at_most := (fun_mk (st := s_want_at_most) l_want_at_most o_want_at_most p_want_at_most).binds (ps := ["what", "limit", "number"]) fun _ _ _ _ _ _ us hl => match us, hl with | [_, _, _], _ => rfl
      a_is_matrix := a_is_matrix
      fd_is_matrix := _
      F_is_matrix := fun_mk (st := s_is_matrix) l_is_matrix o_is_matrix p_is_matrix
      g_is_matrix := PySem.W.mg_of X G x_is_matrix
      b_is_matrix := (fun_mk (st := s_is_matrix) l_is_matrix o_is_matrix p_is_matrix).binds (ps := ["value"]) fun _ _ _ _ _ _ us hl => match us, hl with | [_], _ => rfl
      a_is_small_matrix := a_is_small_matrix
      fd_is_small_matrix := _
      F_is_small_matrix := fun_mk (st := s_is_small_matrix) l_is_small_matrix o_is_small_matrix p_is_small_matrix
      g_is_small_matrix := PySem.W.mg_of X G x_is_small_matrix
      b_is_small_matrix := (fun_mk (st := s_is_small_matrix) l_is_small_matrix o_is_small_matrix p_is_small_matrix).binds (ps := ["value"]) fun _ _ _ _ _ _ us hl => match us, hl with | [_], _ => rfl
      a_check_matrix := a_check_matrix
      fd_check_matrix := _
      F_check_matrix := fun_mk (st := s_check_matrix) l_check_matrix o_check_matrix p_check_matrix
      g_check_matrix := PySem.W.mg_of X G x_check_matrix
      b_check_matrix := (fun_mk (st := s_check_matrix) l_check_matrix o_check_matrix p_check_matrix).binds (ps := ["value"]) fun _ _ _ _ _ _ us hl => match us, hl with | [_], _ => rfl
      a_product_by := a_product_by
      fd_product_by := _
      F_product_by := fun_mk (st := s_product_by) l_product_by o_product_by p_product_by
      g_product_by := PySem.W.mg_of X G x_product_by
      b_product_by := (fun_mk (st := s_product_by) l_product_by o_product_by p_product_by).binds (ps := ["one", "late"]) fun _ _ _ _ _ _ us hl => match us, hl with | [_, _], _ => rfl
      a_inverse_by := a_inverse_by
      fd_inverse_by := _
      F_inverse_by := fun_mk (st := s_inverse_by) l_inverse_by o_inverse_by p_inverse_by
      g_inverse_by := PySem.W.mg_of X G x_inverse_by
      b_inverse_by := (fun_mk (st := s_inverse_by) l_inverse_by o_inverse_by p_inverse_by).binds (ps := ["matrix"]) fun _ _ _ _ _ _ us hl => match us, hl with | [_], _ => rfl
      a_product := a_product
      fd_product := _
      F_product := fun_mk (st := s_product) l_product o_product p_product
      g_product := PySem.W.mg_of X G x_product
      b_product := (fun_mk (st := s_product) l_product o_product p_product).binds (ps := ["matrix", "other_matrix"]) fun _ _ _ _ _ _ us hl => match us, hl with | [_, _], _ => rfl
      a_inverse := a_inverse
      fd_inverse := _
      F_inverse := fun_mk (st := s_inverse) l_inverse o_inverse p_inverse
      g_inverse := PySem.W.mg_of X G x_inverse
      b_inverse := (fun_mk (st := s_inverse) l_inverse o_inverse p_inverse).binds (ps := ["matrix"]) fun _ _ _ _ _ _ us hl => match us, hl with | [_], _ => rfl
      a_is_moves_of := a_is_moves_of
      fd_is_moves_of := _
      F_is_moves_of := fun_mk (st := s_is_moves_of) l_is_moves_of o_is_moves_of p_is_moves_of
      g_is_moves_of := PySem.W.mg_of X G x_is_moves_of
      b_is_moves_of := (fun_mk (st := s_is_moves_of) l_is_moves_of o_is_moves_of p_is_moves_of).binds (ps := ["value"]) fun _ _ _ _ _ _ us hl => match us, hl with | [_], _ => rfl
      a_check_moves := a_check_moves
      fd_check_moves := _
      F_check_moves := fun_mk (st := s_check_moves) l_check_moves o_check_moves p_check_moves
      g_check_moves := PySem.W.mg_of X G x_check_moves
      b_check_moves := (fun_mk (st := s_check_moves) l_check_moves o_check_moves p_check_moves).binds (ps := ["value"]) fun _ _ _ _ _ _ us hl => match us, hl with | [_], _ => rfl
      a_matrix_by := a_matrix_by
      fd_matrix_by := _
      F_matrix_by := fun_mk (st := s_matrix_by) l_matrix_by o_matrix_by p_matrix_by
      g_matrix_by := PySem.W.mg_of X G x_matrix_by
      b_matrix_by := (fun_mk (st := s_matrix_by) l_matrix_by o_matrix_by p_matrix_by).binds (ps := ["moves"]) fun _ _ _ _ _ _ us hl => match us, hl with | [_], _ => rfl
      a_turned_moves_by := a_turned_moves_by
      fd_turned_moves_by := _
      F_turned_moves_by := fun_mk (st := s_turned_moves_by) l_turned_moves_by o_turned_moves_by p_turned_moves_by
      g_turned_moves_by := PySem.W.mg_of X G x_turned_moves_by
      b_turned_moves_by := (fun_mk (st := s_turned_moves_by) l_turned_moves_by o_turned_moves_by p_turned_moves_by).binds (ps := ["moves"]) fun _ _ _ _ _ _ us hl => match us, hl with | [_], _ => rfl
      a_noted := a_noted
      fd_noted := _
      F_noted := fun_mk (st := s_noted) l_noted o_noted p_noted
      g_noted := PySem.W.mg_of X G x_noted
      b_noted := (fun_mk (st := s_noted) l_noted o_noted p_noted).binds (ps := ["matrix"]) fun _ _ _ _ _ _ us hl => match us, hl with | [_], _ => rfl
      a_shears := a_shears
      fd_shears := _
      F_shears := fun_mk (st := s_shears) l_shears o_shears p_shears
      g_shears := PySem.W.mg_of X G x_shears
      b_shears := (fun_mk (st := s_shears) l_shears o_shears p_shears).binds (ps := ["many"]) fun _ _ _ _ _ _ us hl => match us, hl with | [_], _ => rfl
      a_pieces_of := a_pieces_of
      fd_pieces_of := _
      F_pieces_of := fun_mk (st := s_pieces_of) l_pieces_of o_pieces_of p_pieces_of
      g_pieces_of := PySem.W.mg_of X G x_pieces_of
      b_pieces_of := (fun_mk (st := s_pieces_of) l_pieces_of o_pieces_of p_pieces_of).binds (ps := ["matrix"]) fun _ _ _ _ _ _ us hl => match us, hl with | [_], _ => rfl
      a_length_by := a_length_by
      fd_length_by := _
      F_length_by := fun_mk (st := s_length_by) l_length_by o_length_by p_length_by
      g_length_by := PySem.W.mg_of X G x_length_by
      b_length_by := (fun_mk (st := s_length_by) l_length_by o_length_by p_length_by).binds (ps := ["matrix"]) fun _ _ _ _ _ _ us hl => match us, hl with | [_], _ => rfl
      a_told_word_by := a_told_word_by
      fd_told_word_by := _
      F_told_word_by := fun_mk (st := s_told_word_by) l_told_word_by o_told_word_by p_told_word_by
      g_told_word_by := PySem.W.mg_of X G x_told_word_by
      b_told_word_by := (fun_mk (st := s_told_word_by) l_told_word_by o_told_word_by p_told_word_by).binds (ps := ["matrix"]) fun _ _ _ _ _ _ us hl => match us, hl with | [_], _ => rfl
      a_is_moves := a_is_moves
      fd_is_moves := _
      F_is_moves := fun_mk (st := s_is_moves) l_is_moves o_is_moves p_is_moves
      g_is_moves := PySem.W.mg_of X G x_is_moves
      b_is_moves := (fun_mk (st := s_is_moves) l_is_moves o_is_moves p_is_moves).binds (ps := ["value"]) fun _ _ _ _ _ _ us hl => match us, hl with | [_], _ => rfl
      a_matrix_of := a_matrix_of
      fd_matrix_of := _
      F_matrix_of := fun_mk (st := s_matrix_of) l_matrix_of o_matrix_of p_matrix_of
      g_matrix_of := PySem.W.mg_of X G x_matrix_of
      b_matrix_of := (fun_mk (st := s_matrix_of) l_matrix_of o_matrix_of p_matrix_of).binds (ps := ["moves"]) fun _ _ _ _ _ _ us hl => match us, hl with | [_], _ => rfl
      a_turned_moves := a_turned_moves
      fd_turned_moves := _
      F_turned_moves := fun_mk (st := s_turned_moves) l_turned_moves o_turned_moves p_turned_moves
      g_turned_moves := PySem.W.mg_of X G x_turned_moves
      b_turned_moves := (fun_mk (st := s_turned_moves) l_turned_moves o_turned_moves p_turned_moves).binds (ps := ["moves"]) fun _ _ _ _ _ _ us hl => match us, hl with | [_], _ => rfl
      a_told_word := a_told_word
      fd_told_word := _
      F_told_word := fun_mk (st := s_told_word) l_told_word o_told_word p_told_word
      g_told_word := PySem.W.mg_of X G x_told_word
      b_told_word := (fun_mk (st := s_told_word) l_told_word o_told_word p_told_word).binds (ps := ["matrix"]) fun _ _ _ _ _ _ us hl => match us, hl with | [_], _ => rfl
      a_length := a_length
      fd_length := _
      F_length := fun_mk (st := s_length) l_length o_length p_length
      g_length := PySem.W.mg_of X G x_length
      b_length := (fun_mk (st := s_length) l_length o_length p_length).binds (ps := ["matrix"]) fun _ _ _ _ _ _ us hl => match us, hl with | [_], _ => rfl
      a__law_pot := a__law_pot
      fd__law_pot := _
      F__law_pot := fun_mk (st := s__law_pot) l__law_pot o__law_pot p__law_pot
      g__law_pot := PySem.W.mg_of X G x__law_pot
      b__law_pot := (fun_mk (st := s__law_pot) l__law_pot o__law_pot p__law_pot).binds (ps := ["script", "k"]) fun _ _ _ _ _ _ us hl => match us, hl with | [_, _], _ => rfl
      a__law_draw := a__law_draw
      fd__law_draw := _
      F__law_draw := fun_mk (st := s__law_draw) l__law_draw o__law_draw p__law_draw
      g__law_draw := PySem.W.mg_of X G x__law_draw
      b__law_draw := (fun_mk (st := s__law_draw) l__law_draw o__law_draw p__law_draw).binds (ps := ["pot", "many"]) fun _ _ _ _ _ _ us hl => match us, hl with | [_, _], _ => rfl
      a__law_pick := a__law_pick
      fd__law_pick := _
      F__law_pick := fun_mk (st := s__law_pick) l__law_pick o__law_pick p__law_pick
      g__law_pick := PySem.W.mg_of X G x__law_pick
      b__law_pick := (fun_mk (st := s__law_pick) l__law_pick o__law_pick p__law_pick).binds (ps := ["pot", "some"]) fun _ _ _ _ _ _ us hl => match us, hl with | [_, _], _ => rfl
      a__law_turned_moves := a__law_turned_moves
      fd__law_turned_moves := _
      F__law_turned_moves := fun_mk (st := s__law_turned_moves) l__law_turned_moves o__law_turned_moves p__law_turned_moves
      g__law_turned_moves := PySem.W.mg_of X G x__law_turned_moves
      b__law_turned_moves := (fun_mk (st := s__law_turned_moves) l__law_turned_moves o__law_turned_moves p__law_turned_moves).binds (ps := ["moves"]) fun _ _ _ _ _ _ us hl => match us, hl with | [_], _ => rfl
      a__law_product := a__law_product
      fd__law_product := _
      F__law_product := fun_mk (st := s__law_product) l__law_product o__law_product p__law_product
      g__law_product := PySem.W.mg_of X G x__law_product
      b__law_product := (fun_mk (st := s__law_product) l__law_product o__law_product p__law_product).binds (ps := ["one", "other"]) fun _ _ _ _ _ _ us hl => match us, hl with | [_, _], _ => rfl
      a__law_matrix_of := a__law_matrix_of
      fd__law_matrix_of := _
      F__law_matrix_of := fun_mk (st := s__law_matrix_of) l__law_matrix_of o__law_matrix_of p__law_matrix_of
      g__law_matrix_of := PySem.W.mg_of X G x__law_matrix_of
      b__law_matrix_of := (fun_mk (st := s__law_matrix_of) l__law_matrix_of o__law_matrix_of p__law_matrix_of).binds (ps := ["moves"]) fun _ _ _ _ _ _ us hl => match us, hl with | [_], _ => rfl
      a__law_moves := a__law_moves
      fd__law_moves := _
      F__law_moves := fun_mk (st := s__law_moves) l__law_moves o__law_moves p__law_moves
      g__law_moves := PySem.W.mg_of X G x__law_moves
      b__law_moves := (fun_mk (st := s__law_moves) l__law_moves o__law_moves p__law_moves).binds (ps := ["pot", "most"]) fun _ _ _ _ _ _ us hl => match us, hl with | [_, _], _ => rfl
      a__law_told := a__law_told
      fd__law_told := _
      F__law_told := fun_mk (st := s__law_told) l__law_told o__law_told p__law_told
      g__law_told := PySem.W.mg_of X G x__law_told
      b__law_told := (fun_mk (st := s__law_told) l__law_told o__law_told p__law_told).binds (ps := ["matrix"]) fun _ _ _ _ _ _ us hl => match us, hl with | [_], _ => rfl
      a__law_heard := a__law_heard
      fd__law_heard := _
      F__law_heard := fun_mk (st := s__law_heard) l__law_heard o__law_heard p__law_heard
      g__law_heard := PySem.W.mg_of X G x__law_heard
      b__law_heard := (fun_mk (st := s__law_heard) l__law_heard o__law_heard p__law_heard).binds (ps := ["call"]) fun _ _ _ _ _ _ us hl => match us, hl with | [_], _ => rfl
      a__law_matrix_right := a__law_matrix_right
      fd__law_matrix_right := _
      F__law_matrix_right := fun_mk (st := s__law_matrix_right) l__law_matrix_right o__law_matrix_right p__law_matrix_right
      g__law_matrix_right := PySem.W.mg_of X G x__law_matrix_right
      b__law_matrix_right := (fun_mk (st := s__law_matrix_right) l__law_matrix_right o__law_matrix_right p__law_matrix_right).binds (ps := ["matrix"]) fun _ _ _ _ _ _ us hl => match us, hl with | [_], _ => rfl
      a__law_word_right := a__law_word_right
      fd__law_word_right := _
      F__law_word_right := fun_mk (st := s__law_word_right) l__law_word_right o__law_word_right p__law_word_right
      g__law_word_right := PySem.W.mg_of X G x__law_word_right
      b__law_word_right := (fun_mk (st := s__law_word_right) l__law_word_right o__law_word_right p__law_word_right).binds (ps := ["word"]) fun _ _ _ _ _ _ us hl => match us, hl with | [_], _ => rfl
      a__law_by_notes := a__law_by_notes
      fd__law_by_notes := _
      F__law_by_notes := fun_mk (st := s__law_by_notes) l__law_by_notes o__law_by_notes p__law_by_notes
      g__law_by_notes := PySem.W.mg_of X G x__law_by_notes
      b__law_by_notes := (fun_mk (st := s__law_by_notes) l__law_by_notes o__law_by_notes p__law_by_notes).binds (ps := ["pot", "many"]) fun _ _ _ _ _ _ us hl => match us, hl with | [_, _], _ => rfl
      a__law_right := a__law_right
      fd__law_right := _
      F__law_right := fun_mk (st := s__law_right) l__law_right o__law_right p__law_right
      g__law_right := PySem.W.mg_of X G x__law_right
      b__law_right := (fun_mk (st := s__law_right) l__law_right o__law_right p__law_right).binds (ps := ["pot"]) fun _ _ _ _ _ _ us hl => match us, hl with | [_], _ => rfl
      a__law_asking := a__law_asking
      fd__law_asking := _
      F__law_asking := fun_mk (st := s__law_asking) l__law_asking o__law_asking p__law_asking
      g__law_asking := PySem.W.mg_of X G x__law_asking
      b__law_asking := (fun_mk (st := s__law_asking) l__law_asking o__law_asking p__law_asking).binds (ps := ["odd"]) fun _ _ _ _ _ _ us hl => match us, hl with | [_], _ => rfl
      a_law := fa
      fd_law := _
      F_law := fun_mk (st := s_law) l_law o_law p_law
      g_law := PySem.W.mg_of X G x_law
      b_law := (fun_mk (st := s_law) l_law o_law p_law).binds (ps := ["script"]) fun _ _ _ _ _ _ us hl => match us, hl with | [_], _ => rfl
      k_is_moves_value := bindsK_of (fun_mk (st := s_is_moves) l_is_moves o_is_moves p_is_moves) fun _ _ _ _ _ _ ws hl => match ws, hl with | [_], _ => rfl
      k_length_matrix := bindsK_of (fun_mk (st := s_length) l_length o_length p_length) fun _ _ _ _ _ _ ws hl => match ws, hl with | [_], _ => rfl
      k_matrix_of_moves := bindsK_of (fun_mk (st := s_matrix_of) l_matrix_of o_matrix_of p_matrix_of) fun _ _ _ _ _ _ ws hl => match ws, hl with | [_], _ => rfl
      k_told_word_matrix := bindsK_of (fun_mk (st := s_told_word) l_told_word o_told_word p_told_word) fun _ _ _ _ _ _ ws hl => match ws, hl with | [_], _ => rfl
      k_turned_moves_moves := bindsK_of (fun_mk (st := s_turned_moves) l_turned_moves o_turned_moves p_turned_moves) fun _ _ _ _ _ _ ws hl => match ws, hl with | [_], _ => rfl
      n_abs := PySem.W.mg_none_of X G z_abs
      n_all := PySem.W.mg_none_of X G z_all
      n_bool := PySem.W.mg_none_of X G z_bool
      n_divmod := PySem.W.mg_none_of X G z_divmod
      n_int := PySem.W.mg_none_of X G z_int
      n_isinstance := PySem.W.mg_none_of X G z_isinstance
      n_len := PySem.W.mg_none_of X G z_len
      n_max := PySem.W.mg_none_of X G z_max
      n_min := PySem.W.mg_none_of X G z_min
      n_range := PySem.W.mg_none_of X G z_range
      n_repr := PySem.W.mg_none_of X G z_repr
      n_str := PySem.W.mg_none_of X G z_str
      n_sum := PySem.W.mg_none_of X G z_sum
      n_tuple := PySem.W.mg_none_of X G z_tuple
      a_MATRICES := a_MATRICES
      g_MATRICES := PySem.W.mg_of X G y_MATRICES
      d_MATRICES := gdict_of l_MATRICES w_MATRICES (.cons ⟨rfl, .ref r_MATRICES_0, rfl, fun C F => tup_ints [(1, u_MATRICES_0_t0), (1, u_MATRICES_0_t1), (0, u_MATRICES_0_t2), (1, u_MATRICES_0_t3)] l_MATRICES_0 (Nat.le_of_ble_eq_true rfl)⟩ (.cons ⟨rfl, .ref r_MATRICES_1, rfl, fun C F => tup_ints [(1, u_MATRICES_1_t0), ((-1), u_MATRICES_1_t1), (0, u_MATRICES_1_t2), (1, u_MATRICES_1_t3)] l_MATRICES_1 (Nat.le_of_ble_eq_true rfl)⟩ (.cons ⟨rfl, .ref r_MATRICES_2, rfl, fun C F => tup_ints [(1, u_MATRICES_2_t0), (0, u_MATRICES_2_t1), (1, u_MATRICES_2_t2), (1, u_MATRICES_2_t3)] l_MATRICES_2 (Nat.le_of_ble_eq_true rfl)⟩ (.cons ⟨rfl, .ref r_MATRICES_3, rfl, fun C F => tup_ints [(1, u_MATRICES_3_t0), (0, u_MATRICES_3_t1), ((-1), u_MATRICES_3_t2), (1, u_MATRICES_3_t3)] l_MATRICES_3 (Nat.le_of_ble_eq_true rfl)⟩ (.cons ⟨rfl, .ref r_MATRICES_4, rfl, fun C F => tup_ints [(0, u_MATRICES_4_t0), ((-1), u_MATRICES_4_t1), (1, u_MATRICES_4_t2), (0, u_MATRICES_4_t3)] l_MATRICES_4 (Nat.le_of_ble_eq_true rfl)⟩ (.cons ⟨rfl, .ref r_MATRICES_5, rfl, fun C F => tup_ints [(0, u_MATRICES_5_t0), (1, u_MATRICES_5_t1), ((-1), u_MATRICES_5_t2), (0, u_MATRICES_5_t3)] l_MATRICES_5 (Nat.le_of_ble_eq_true rfl)⟩ (.nil)))))))
      t_MOST_LETTERS := t_MOST_LETTERS
      g_MOST_LETTERS := PySem.W.mg_of X G y_MOST_LETTERS
      t_MOST_MOVES := t_MOST_MOVES
      g_MOST_MOVES := PySem.W.mg_of X G y_MOST_MOVES
      t_MOST_SIZE := t_MOST_SIZE
      g_MOST_SIZE := PySem.W.mg_of X G y_MOST_SIZE
      a_TURNED := a_TURNED
      g_TURNED := PySem.W.mg_of X G y_TURNED
      d_TURNED := gdict_of l_TURNED w_TURNED (.cons ⟨rfl, .str "T", ⟨_, rfl⟩, fun _ _ => .str _⟩ (.cons ⟨rfl, .str "t", ⟨_, rfl⟩, fun _ _ => .str _⟩ (.cons ⟨rfl, .str "V", ⟨_, rfl⟩, fun _ _ => .str _⟩ (.cons ⟨rfl, .str "v", ⟨_, rfl⟩, fun _ _ => .str _⟩ (.cons ⟨rfl, .str "J", ⟨_, rfl⟩, fun _ _ => .str _⟩ (.cons ⟨rfl, .str "j", ⟨_, rfl⟩, fun _ _ => .str _⟩ (.nil)))))))
      a_UNIT := a_UNIT
      g_UNIT := PySem.W.mg_of X G y_UNIT
      r_UNIT := fun C F => tup_ints [(1, u_UNIT_t0), (0, u_UNIT_t1), (0, u_UNIT_t2), (1, u_UNIT_t3)] l_UNIT (Nat.le_of_ble_eq_true rfl)
      a_init_FloorError := a_init_FloorError
      fd_init_FloorError := _
      F_init_FloorError := fun_mk (st := s_init_FloorError) l_init_FloorError o_init_FloorError p_init_FloorError
      b_init_FloorError := (fun_mk (st := s_init_FloorError) l_init_FloorError o_init_FloorError p_init_FloorError).binds (ps := ["self", "value"]) fun _ _ _ _ _ _ us hl => match us, hl with | [_, _], _ => rfl
      a_init_TooMany := a_init_TooMany
      fd_init_TooMany := _
      F_init_TooMany := fun_mk (st := s_init_TooMany) l_init_TooMany o_init_TooMany p_init_TooMany
      b_init_TooMany := (fun_mk (st := s_init_TooMany) l_init_TooMany o_init_TooMany p_init_TooMany).binds (ps := ["self", "what", "limit"]) fun _ _ _ _ _ _ us hl => match us, hl with | [_, _, _], _ => rfl
      c_FloorError := c_FloorError
      g_FloorError := PySem.W.mg_of X G y_FloorError
      c_LimitError := c_LimitError
      g_LimitError := PySem.W.mg_of X G y_LimitError
      c_InvalidMoves := c_InvalidMoves
      g_InvalidMoves := PySem.W.mg_of X G y_InvalidMoves
      e_InvalidMoves := oexG_of F.excBase_ValueError xl_InvalidMoves (fun Y => rfl) (setOk_ref (setOk_ref (setOk_VE0))) sa_InvalidMoves sb_InvalidMoves ty_InvalidMoves kp_InvalidMoves
      e_InvalidMoves_no := List.forall_mem_cons.2 ⟨fn_InvalidMoves_value, fun _ h => nomatch h⟩
      e_InvalidMoves_i := ic_InvalidMoves
      c_InvalidMatrix := c_InvalidMatrix
      g_InvalidMatrix := PySem.W.mg_of X G y_InvalidMatrix
      e_InvalidMatrix := oexG_of F.excBase_ValueError xl_InvalidMatrix (fun Y => rfl) (setOk_ref (setOk_ref (setOk_VE0))) sa_InvalidMatrix sb_InvalidMatrix ty_InvalidMatrix kp_InvalidMatrix
      e_InvalidMatrix_no := List.forall_mem_cons.2 ⟨fn_InvalidMatrix_value, fun _ h => nomatch h⟩
      e_InvalidMatrix_i := ic_InvalidMatrix
      c_TooMany := c_TooMany
      g_TooMany := PySem.W.mg_of X G y_TooMany
      e_TooMany := oexG_of F.excBase_ArithmeticError xl_TooMany (fun Y => rfl) (setOk_ref (setOk_ref (setOk_AE0))) sa_TooMany sb_TooMany ty_TooMany kp_TooMany
      e_TooMany_no := List.forall_mem_cons.2 ⟨fn_TooMany_what, List.forall_mem_cons.2 ⟨fn_TooMany_limit, fun _ h => nomatch h⟩⟩
      e_TooMany_i := ic_TooMany
      cc__law_matrix_right := cc__law_matrix_right
      pp__law_matrix_right := pp__law_matrix_right
      hc__law_matrix_right := rfl
      tb__law_matrix_right := TB (cc__law_matrix_right, pp__law_matrix_right) (by simp)
      cc__law_asking := cc__law_asking
      pp__law_asking := pp__law_asking
      hc__law_asking := rfl
      tb__law_asking := TB (cc__law_asking, pp__law_asking) (by simp)
      ne__law_matrix_right__law_asking := of_decide_eq_true ne__law_matrix_right__law_asking
      xf_TooMany := ⟨ga_TooMany, gg_TooMany, sb_TooMany, hdt_TooMany⟩
      xc_TooMany := ⟨ga_TooMany, gg_TooMany, sb_TooMany, hdt_TooMany, cl_TooMany, spC, tkC, mo_TooMany⟩
      xm_TooMany_InvalidMoves := xm_TooMany_InvalidMoves
      xm_TooMany_TooMany := xm_TooMany_TooMany
      xi_TooMany_FloorError := xi_TooMany_FloorError
      xi_TooMany_LimitError := xi_TooMany_LimitError
      xn_TooMany_limit := fn_TooMany_limit
      xn_TooMany_value := fn_TooMany_value
      xn_TooMany_what := fn_TooMany_what
      xf_InvalidMatrix := ⟨ga_InvalidMatrix, gg_InvalidMatrix, sb_InvalidMatrix, hdt_InvalidMatrix⟩
      xc_InvalidMatrix := ⟨ga_InvalidMatrix, gg_InvalidMatrix, sb_InvalidMatrix, hdt_InvalidMatrix, cl_InvalidMatrix, spC, tkC, mo_InvalidMatrix⟩
      xm_InvalidMatrix_InvalidMoves := xm_InvalidMatrix_InvalidMoves
      xm_InvalidMatrix_TooMany := xm_InvalidMatrix_TooMany
      xi_InvalidMatrix_FloorError := xi_InvalidMatrix_FloorError
      xi_InvalidMatrix_LimitError := xi_InvalidMatrix_LimitError
      xn_InvalidMatrix_limit := fn_InvalidMatrix_limit
      xn_InvalidMatrix_value := fn_InvalidMatrix_value
      xn_InvalidMatrix_what := fn_InvalidMatrix_what
      xf_InvalidMoves := ⟨ga_InvalidMoves, gg_InvalidMoves, sb_InvalidMoves, hdt_InvalidMoves⟩
      xc_InvalidMoves := ⟨ga_InvalidMoves, gg_InvalidMoves, sb_InvalidMoves, hdt_InvalidMoves, cl_InvalidMoves, spC, tkC, mo_InvalidMoves⟩
      xm_InvalidMoves_InvalidMoves := xm_InvalidMoves_InvalidMoves
      xm_InvalidMoves_TooMany := xm_InvalidMoves_TooMany
      xi_InvalidMoves_FloorError := xi_InvalidMoves_FloorError
      xi_InvalidMoves_LimitError := xi_InvalidMoves_LimitError
      xn_InvalidMoves_limit := fn_InvalidMoves_limit
      xn_InvalidMoves_value := fn_InvalidMoves_value
      xn_InvalidMoves_what := fn_InvalidMoves_what
      t_init_FloorError := t_init_FloorError
      t_init_TooMany := t_init_TooMany
    }, rfl, rfl, rfl⟩
  refine ⟨PySem.W.fnOf "law" "law" (defArgs s_law) (defBody s_law) (defScope s_law) .none kV_law dc_law pm_law an_law cd_law ct_law, [(cc__law_matrix_right, pp__law_matrix_right), (cc__law_asking, pp__law_asking)], [(pp__law_matrix_right, ("_law_matrix_right" : Str) ++ ".<locals>.<lambda>"), (pp__law_asking, ("_law_asking" : Str) ++ ".<locals>.<lambda>")], m_law, ?_, ?_, ?_, fun s v => .of_eq rfl, rfl, hm, fun base _ _ TB => ?_⟩
  · exact List.forall_mem_cons.2 ⟨gt__law_matrix_right, List.forall_mem_cons.2 ⟨gt__law_asking, fun _ h => nomatch h⟩⟩
  · exact List.forall_mem_cons.2 ⟨nl__law_matrix_right, List.forall_mem_cons.2 ⟨nl__law_asking, fun _ h => nomatch h⟩⟩
  · exact List.forall_mem_cons.2 ⟨PySem.W.codeHd_of_K X hd__law_matrix_right, List.forall_mem_cons.2 ⟨PySem.W.codeHd_of_K X hd__law_asking, fun _ h => nomatch h⟩⟩
  · obtain ⟨Z, e1, e2, e3⟩ := TX base TB
    have f := ok_law Z e3.symm
    rw [e1, e2] at f
    exact f
end W38
set_option Elab.async false
set_option linter.all false
set_option maxRecDepth 100000
set_option maxHeartbeats 1000000
namespace M38
open PySem PF W38

structure Mx where
  a : Int
  b : Int
  c : Int
  d : Int
deriving DecidableEq
def mul (x y : Mx) : Mx := ⟨x.a * y.a + x.b * y.c, x.a * y.b + x.b * y.d, x.c * y.a + x.d * y.c, x.c * y.b + x.d * y.d⟩
def inv (x : Mx) : Mx := ⟨x.d, -x.b, -x.c, x.a⟩
def tp (m : Mx) : PV := .tup [.int m.a, .int m.b, .int m.c, .int m.d]
/-- entries below n -/
structure Le (n : Nat) (m : Mx) : Prop where
  a : m.a.natAbs ≤ n
  b : m.b.natAbs ≤ n
  c : m.c.natAbs ≤ n
  d : m.d.natAbs ≤ n
theorem sm_of {i : Int} (h : i.natAbs ≤ 2 ^ 1000) : Sm i := Nat.lt_of_le_of_lt h (Nat.pow_lt_pow_right (by decide) (by decide))
theorem big4 : (4 : Nat) ≤ big := by decide
theorem product_by_ok {x y : Mx} {s : PS} (hx : Le (2 ^ 1000) x) (hy : Le (2 ^ 1000) y) : m_product_by [tp x, tp y] s = .val (tp (mul x y)) s := by
  have h1 := sm_of hx.a; have h2 := sm_of hx.b; have h3 := sm_of hx.c; have h4 := sm_of hx.d
  have g1 := sm_of hy.a; have g2 := sm_of hy.b; have g3 := sm_of hy.c; have g4 := sm_of hy.d
  simp [m_product_by, b_product_by, tp, mul, h1, h2, h3, h4, g1, g2, g3, g4, big4]
theorem law_product_ok {x y : Mx} {s : PS} (hx : Le (2 ^ 1000) x) (hy : Le (2 ^ 1000) y) : m__law_product [tp x, tp y] s = .val (tp (mul x y)) s := by
  have h1 := sm_of hx.a; have h2 := sm_of hx.b; have h3 := sm_of hx.c; have h4 := sm_of hx.d
  have g1 := sm_of hy.a; have g2 := sm_of hy.b; have g3 := sm_of hy.c; have g4 := sm_of hy.d
  simp [m__law_product, b__law_product, tp, mul, h1, h2, h3, h4, g1, g2, g3, g4, big4]
theorem inverse_by_ok {x : Mx} {s : PS} : m_inverse_by [tp x] s = .val (tp (inv x)) s := by
  simp [m_inverse_by, b_inverse_by, tp, inv, big4]
theorem is_integer_ok {i : Int} {s : PS} : m_is_integer [.int i] s = .val (.bl true) s := by
  simp [m_is_integer, b_is_integer]

/-! ### texts as lists of signs -/
def st (l : List Nat) : Str := ⟨l.toArray⟩
theorem st_cps (z : Str) : st z.cps.toList = z := by cases z; simp [st]
@[simp] theorem st_len (l : List Nat) : (st l).length = l.length := by simp [st, Str.length]
theorem st_app (l m : List Nat) : st l ++ st m = st (l ++ m) := by
  show Str.append (st l) (st m) = _
  simp [Str.append, st]
theorem st_rev (l : List Nat) : PF.revS (st l) = st l.reverse := by simp [PF.revS, st]
theorem st_signs (l : List Nat) : signs (st l) = l.map fun c => PV.str (st [c]) := by
  unfold signs st
  simp
theorem st_cut (l : List Nat) (lo hi : Option Int) : L2.cutS (st l) lo hi = st ((l.drop (HT.sIx l.length 0 lo)).take (HT.sIx l.length l.length hi - HT.sIx l.length 0 lo)) := by
  unfold L2.cutS
  rw [st_len]
  rfl
theorem fold_app : ∀ (n : Nat) (l : List Nat) (acc : List Nat), (List.replicate n l.toArray).foldl (· ++ ·) acc.toArray = (acc ++ (List.replicate n l).flatten).toArray
  | 0, l, acc => by simp
  | n + 1, l, acc => by
    rw [List.replicate_succ, List.foldl_cons, List.append_toArray, fold_app n l]
    simp [List.replicate_succ]
theorem st_rep (l : List Nat) (n : Nat) : (⟨(List.replicate n (st l).cps).foldl (· ++ ·) #[]⟩ : Str) = st (List.replicate n l).flatten := by
  have := fold_app n l []
  simp only [List.nil_append] at this
  unfold st
  rw [← this]
theorem glue_fold : ∀ (ls : List (List Nat)) (acc : List Nat), (ls.map st).foldl (fun acc p => acc ++ (Str.ofString "").cps ++ p.cps) acc.toArray = (acc ++ ls.flatten).toArray
  | [], acc => by simp
  | x :: r, acc => by
    have e : (Str.ofString "").cps = #[] := rfl
    rw [List.map_cons, List.foldl_cons, e, Array.append_empty]
    show List.foldl _ (acc.toArray ++ x.toArray) _ = _
    rw [List.append_toArray, ← e, glue_fold r]
    simp
theorem st_join (ls : List (List Nat)) : Txt.join (Str.ofString "") (ls.map st) = st ls.flatten := by
  show (⟨((ls.map st).drop 1).foldl (fun acc p => acc ++ (Str.ofString "").cps ++ p.cps) ((ls.map st).headD Str.empty).cps⟩ : Str) = _
  cases ls with
  | nil => rfl
  | cons x r =>
    have := glue_fold r x
    simp only [List.map_cons, List.drop_succ_cons, List.drop_zero, List.headD_cons]
    show (⟨(r.map st).foldl _ x.toArray⟩ : Str) = _
    rw [this]
    simp [st]
theorem st_inj {l m : List Nat} : st l = st m ↔ l = m := by simp [st]

/-! ### letters and words -/
def isL (c : Nat) : Prop := c = 116 ∨ c = 84 ∨ c = 118 ∨ c = 86 ∨ c = 106 ∨ c = 74
instance (c : Nat) : Decidable (isL c) := by unfold isL; infer_instance
def mL (c : Nat) : Mx := if c = 116 then ⟨1, 1, 0, 1⟩ else if c = 84 then ⟨1, -1, 0, 1⟩ else if c = 118 then ⟨1, 0, 1, 1⟩ else if c = 86 then ⟨1, 0, -1, 1⟩ else if c = 106 then ⟨0, -1, 1, 0⟩ else ⟨0, 1, -1, 0⟩
def tL (c : Nat) : Nat := if c = 116 then 84 else if c = 84 then 116 else if c = 118 then 86 else if c = 86 then 118 else if c = 106 then 74 else 106
theorem isL_tL {c : Nat} (h : isL c) : isL (tL c) := by rcases h with rfl | rfl | rfl | rfl | rfl | rfl <;> decide
def W (l : List Nat) : Prop := ∀ c ∈ l, isL c
def one : Mx := ⟨1, 0, 0, 1⟩
def matF (acc : Mx) (l : List Nat) : Mx := l.foldl (fun m c => mul (mL c) m) acc
def matOf (l : List Nat) : Mx := matF one l
theorem getM {c : Nat} (h : isL c) : getS k_MATRICES (st [c]) = some (tp (mL c)) := by rcases h with rfl | rfl | rfl | rfl | rfl | rfl <;> rfl
theorem getT {c : Nat} (h : isL c) : getS k_TURNED (st [c]) = some (.str (st [tL c])) := by rcases h with rfl | rfl | rfl | rfl | rfl | rfl <;> rfl
def kTurn : List (L2.Key × PV) := [(.inr "t", .str "T"), (.inr "T", .str "t"), (.inr "v", .str "V"), (.inr "V", .str "v"), (.inr "j", .str "J"), (.inr "J", .str "j")]
def kMat : List (L2.Key × PV) := [(.inr "t", .tup [.int 1, .int 1, .int 0, .int 1]), (.inr "T", .tup [.int 1, .int (-1), .int 0, .int 1]), (.inr "v", .tup [.int 1, .int 0, .int 1, .int 1]), (.inr "V", .tup [.int 1, .int 0, .int (-1), .int 1]), (.inr "j", .tup [.int 0, .int (-1), .int 1, .int 0]), (.inr "J", .tup [.int 0, .int 1, .int (-1), .int 0])]
theorem getM' {c : Nat} (h : isL c) : getK kMat (.inr (st [c])) = some (tp (mL c)) := by rcases h with rfl | rfl | rfl | rfl | rfl | rfl <;> rfl
theorem getT' {c : Nat} (h : isL c) : getK kTurn (.inr (st [c])) = some (.str (st [tL c])) := by rcases h with rfl | rfl | rfl | rfl | rfl | rfl <;> rfl
theorem Le.mulL {n c : Nat} {m : Mx} (h : isL c) (k : Le n m) : Le (2 * n) (mul (mL c) m) := by
  obtain ⟨h1, h2, h3, h4⟩ := k
  rcases h with rfl | rfl | rfl | rfl | rfl | rfl <;> (constructor <;> simp [mul, mL] <;> omega)
theorem Le.mono {n k : Nat} {m : Mx} (h : Le n m) (e : n ≤ k) : Le k m := ⟨Nat.le_trans h.a e, Nat.le_trans h.b e, Nat.le_trans h.c e, Nat.le_trans h.d e⟩
theorem matF_le : ∀ (l : List Nat) (k : Nat) (m : Mx), W l → Le (2 ^ k) m → Le (2 ^ (k + l.length)) (matF m l)
  | [], k, m, _, h => h
  | c :: l, k, m, hw, h => by
    have h2 := Le.mulL (hw c List.mem_cons_self) h
    rw [← Nat.pow_succ'] at h2
    have := matF_le l (k + 1) _ (fun x hx => hw x (List.mem_cons_of_mem _ hx)) h2
    rw [List.length_cons, Nat.add_comm l.length, ← Nat.add_assoc]
    exact this
theorem one_le : Le (2 ^ 0) one := ⟨by decide, by decide, by decide, by decide⟩
theorem matOf_le {l : List Nat} (h : W l) : Le (2 ^ l.length) (matOf l) := by
  have := matF_le l 0 one h one_le
  rw [Nat.zero_add] at this
  exact this
theorem pow_le {a b : Nat} (h : a ≤ b) : 2 ^ a ≤ 2 ^ b := Nat.pow_le_pow_right (by decide) h
theorem mL_le {c : Nat} (h : isL c) : Le (2 ^ 1000) (mL c) := by
  have h1 : (1 : Nat) ≤ 2 ^ 1000 := Nat.one_le_two_pow
  rcases h with rfl | rfl | rfl | rfl | rfl | rfl <;> (constructor <;> simp [mL] <;> exact h1)
/-- the loop of the letters -/
theorem mat_loop {x0 : Option Ent} {s : PS} : ∀ (l : List Nat) (k : Nat) (m : Mx) (x : Option Ent), W l → Le (2 ^ k) m → k + l.length ≤ 1000 →
    ∃ y, forGo (gNm 2) (sSet 1 (fCall m_product_by (fCons (fGix k_MATRICES (fVar 2)) (fCons (fVar 1) fNil)))) (l.map fun c => PV.str (st [c])) [x0, some (.val (tp m)), x] s = .nx [x0, some (.val (tp (matF m l))), y] s
  | [], k, m, x, _, _, _ => ⟨x, rfl⟩
  | c :: l, k, m, x, hw, h, hk => by
    have hc := hw c List.mem_cons_self
    have h2 := Le.mulL hc h
    rw [← Nat.pow_succ'] at h2
    rw [List.length_cons] at hk
    obtain ⟨y, hy⟩ := mat_loop (x0 := x0) (s := s) l (k + 1) (mul (mL c) m) (some (.val (.str (st [c])))) (fun x hx => hw x (List.mem_cons_of_mem _ hx)) h2 (by omega)
    refine ⟨y, ?_⟩
    rw [List.map_cons, forGo]
    have hp := product_by_ok (s := s) (mL_le hc) (h.mono (pow_le (by omega)))
    simp [-m_product_by, getM hc, hp]
    exact hy
theorem matrix_by_ok {l : List Nat} {s : PS} (hw : W l) (hl : l.length ≤ 900) : m_matrix_by [.str (st l)] s = .val (tp (matOf l)) s := by
  obtain ⟨y, hy⟩ := mat_loop (x0 := some (.val (.str (st l)))) (s := s) l 0 one none hw one_le (by omega)
  simp only [m_matrix_by, b_matrix_by, mkFn, startE, sSeq, sSet, fC, R.out, Out.seq, List.map_cons, List.map_nil, sFor, fIt, fVar, List.length_cons, List.length_nil]
  simp [st_signs]
  have e : (PV.tup [.int 1, .int 0, .int 0, .int 1]) = tp one := rfl
  rw [e, hy]
  simp
  rfl

theorem compGo_map {g : FG} {f : FE} {ρ : PF.Env} {s : PS} {α : Type} (emb F : α → PV) : ∀ (l : List α), (∀ x ∈ l, ∃ ρ1, g (emb x) ρ s = .val ρ1 s ∧ f ρ1 s = .val (F x) s) → compGo g fYes f ρ (l.map emb) s = .val (l.map F) s
  | [], _ => rfl
  | x :: l, h => by
    obtain ⟨ρ1, h1, h2⟩ := h x List.mem_cons_self
    rw [List.map_cons, compGo, h1]
    simp only [R.calm, R.bind, fYes, if_true, h2, compGo_map emb F l fun y hy => h y (List.mem_cons_of_mem _ hy)]
    rfl
theorem strsOf_st (ls : List (List Nat)) : strsOf (ls.map fun l => PV.str (st l)) = some (ls.map st) := by
  have := strsOf_map (ls.map st)
  rw [List.map_map] at this
  exact this
theorem sum_len (l : List Nat) (f : Nat → Nat) : ((l.map fun c => st [f c]).map (·.length)).sum = l.length := by
  induction l with
  | nil => rfl
  | cons c l ih =>
    rw [List.map_cons, List.map_cons, List.sum_cons, ih, st_len, List.length_cons]
    simp
    omega
theorem flat_one (l : List Nat) (f : Nat → Nat) : (l.map fun c => [f c]).flatten = l.map f := by
  induction l with
  | nil => rfl
  | cons c l ih => rw [List.map_cons, List.flatten_cons, ih]; rfl
theorem join_map (l : List Nat) (f : Nat → Nat) (h : l.length ≤ big) : oJoin (.str (Str.ofString "")) (.lst (l.map fun c => .str (st [f c]))) = some (.str (st (l.map f))) := by
  have e : (l.map fun c => PV.str (st [f c])) = (l.map fun c => [f c]).map fun x => PV.str (st x) := by rw [List.map_map]; rfl
  have hz : (Str.ofString "").length = 0 := rfl
  simp only [oJoin, e, strsOf_st]
  rw [st_join, flat_one, if_pos]
  have := sum_len l f
  rw [List.map_map] at this ⊢
  rw [hz, Nat.mul_zero, Nat.add_zero]
  rw [List.map_map]
  exact Nat.le_trans (Nat.le_of_eq this) h
def turn (l : List Nat) : List Nat := l.reverse.map tL
theorem W.rev {l : List Nat} (h : W l) : W l.reverse := fun c hc => h c (List.mem_reverse.mp hc)
theorem W.turn {l : List Nat} (h : W l) : W (turn l) := fun c hc => by
  obtain ⟨d, hd, rfl⟩ := List.mem_map.mp hc
  exact isL_tL (h d (List.mem_reverse.mp hd))
theorem turn_len (l : List Nat) : (turn l).length = l.length := by simp [turn]
theorem turned_by_ok {l : List Nat} {s : PS} (hw : W l) (hl : l.length ≤ 900) : m_turned_moves_by [.str (st l)] s = .val (.str (st (turn l))) s := by
  have hb : l.length ≤ big := Nat.le_trans hl (by decide)
  have hc := compGo_map (g := gNm 1) (f := fGix k_TURNED (fVar 1)) (ρ := [some (Ent.val (PV.str (st l))), none]) (s := s) (fun c : Nat => PV.str (st [c])) (fun c => PV.str (st [tL c])) l.reverse fun c hc => ⟨_, rfl, by simp [getT (hw.rev c hc)]⟩
  have hj := join_map l.reverse tL (by rw [List.length_reverse]; exact hb)
  simp [m_turned_moves_by, b_turned_moves_by, st_rev, st_signs, hb, -oJoin, -List.map_reverse, hc, hj]
  rfl
theorem mat_loop' {x0 : Option Ent} {s : PS} : ∀ (l : List Nat) (k : Nat) (m : Mx) (x : Option Ent), W l → Le (2 ^ k) m → k + l.length ≤ 1000 →
    ∃ y, forGo (gNm 3) (sSet 1 (fCall m__law_product (fCons (fIx (fVar 2) (fVar 3)) (fCons (fVar 1) fNil)))) (l.map fun c => PV.str (st [c])) [x0, some (.val (tp m)), some (.val (.dic kMat)), x] s = .nx [x0, some (.val (tp (matF m l))), some (.val (.dic kMat)), y] s
  | [], k, m, x, _, _, _ => ⟨x, rfl⟩
  | c :: l, k, m, x, hw, h, hk => by
    have hc := hw c List.mem_cons_self
    have h2 := Le.mulL hc h
    rw [← Nat.pow_succ'] at h2
    rw [List.length_cons] at hk
    obtain ⟨y, hy⟩ := mat_loop' (x0 := x0) (s := s) l (k + 1) (mul (mL c) m) (some (.val (.str (st [c])))) (fun x hx => hw x (List.mem_cons_of_mem _ hx)) h2 (by omega)
    refine ⟨y, ?_⟩
    rw [List.map_cons, forGo]
    have hp := law_product_ok (s := s) (mL_le hc) (h.mono (pow_le (by omega)))
    simp [-m__law_product, keyOf, getM' hc, hp]
    exact hy
theorem law_matrix_of_ok {l : List Nat} {s : PS} (hw : W l) (hl : l.length ≤ 900) : m__law_matrix_of [.str (st l)] s = .val (tp (matOf l)) s := by
  obtain ⟨y, hy⟩ := mat_loop' (x0 := some (.val (.str (st l)))) (s := s) l 0 one none hw one_le (by omega)
  have h1 : sSet 1 (fTup (fCons (fC (.int 1)) (fCons (fC (.int 0)) (fCons (fC (.int 0)) (fCons (fC (.int 1)) fNil))))) [some (.val (.str (st l))), none, none, none] s = .nx [some (.val (.str (st l))), some (.val (tp one)), none, none] s := by
    simp [big4]
    rfl
  have h2 : ∀ v, sSet 2 (fDic [(.inr "t", fTup (fCons (fC (.int 1)) (fCons (fC (.int 1)) (fCons (fC (.int 0)) (fCons (fC (.int 1)) (fNil)))))), (.inr "T", fTup (fCons (fC (.int 1)) (fCons (fUn oNeg (fC (.int 1))) (fCons (fC (.int 0)) (fCons (fC (.int 1)) (fNil)))))), (.inr "v", fTup (fCons (fC (.int 1)) (fCons (fC (.int 0)) (fCons (fC (.int 1)) (fCons (fC (.int 1)) (fNil)))))), (.inr "V", fTup (fCons (fC (.int 1)) (fCons (fC (.int 0)) (fCons (fUn oNeg (fC (.int 1))) (fCons (fC (.int 1)) (fNil)))))), (.inr "j", fTup (fCons (fC (.int 0)) (fCons (fUn oNeg (fC (.int 1))) (fCons (fC (.int 1)) (fCons (fC (.int 0)) (fNil)))))), (.inr "J", fTup (fCons (fC (.int 0)) (fCons (fC (.int 1)) (fCons (fUn oNeg (fC (.int 1))) (fCons (fC (.int 0)) (fNil))))))]) [v, some (.val (tp one)), none, none] s = .nx [v, some (.val (tp one)), some (.val (.dic kMat)), none] s := fun v => by
    simp [big4]
    rfl
  have h3 : startE 4 [PV.str (st l)] = [some (.val (.str (st l))), none, none, none] := rfl
  rw [← st_signs] at hy
  unfold m__law_matrix_of b__law_matrix_of
  show (sSeq _ (sSeq _ (sSeq _ _)) (startE 4 [PV.str (st l)]) s).ret = _
  rw [h3]
  unfold sSeq
  rw [h1]
  simp only [Out.seq, sSeq]
  rw [h2]
  simp only [Out.seq, sFor, fIt, fVar, List.getElem?_cons_zero, R.bind, oIt, R.out]
  rw [hy]
  rfl
theorem law_turned_ok {l : List Nat} {s : PS} (hw : W l) (hl : l.length ≤ 900) : m__law_turned_moves [.str (st l)] s = .val (.str (st (turn l))) s := by
  have hb : l.length ≤ big := Nat.le_trans hl (by decide)
  have e2 : (PV.dic [(.inr (Str.ofString "t"), .str (Str.ofString "T")), (.inr (Str.ofString "T"), .str (Str.ofString "t")), (.inr (Str.ofString "v"), .str (Str.ofString "V")), (.inr (Str.ofString "V"), .str (Str.ofString "v")), (.inr (Str.ofString "j"), .str (Str.ofString "J")), (.inr (Str.ofString "J"), .str (Str.ofString "j"))]) = PV.dic kTurn := rfl
  have hc := compGo_map (g := gNm 1) (f := fIx (fDic [(.inr "t", fC (.str "T")), (.inr "T", fC (.str "t")), (.inr "v", fC (.str "V")), (.inr "V", fC (.str "v")), (.inr "j", fC (.str "J")), (.inr "J", fC (.str "j"))]) (fVar 1)) (ρ := [some (Ent.val (PV.str (st l))), none]) (s := s) (fun c : Nat => PV.str (st [c])) (fun c => PV.str (st [tL c])) l.reverse fun c hc => ⟨_, rfl, by simp [e2, keyOf, getT' (hw.rev c hc)]⟩
  have hj := join_map l.reverse tL (by rw [List.length_reverse]; exact hb)
  simp [m__law_turned_moves, b__law_turned_moves, st_rev, st_signs, hb, -oJoin, -List.map_reverse, -fIx, -fDic, hc, hj]
  rfl

/-! ### comparisons -/
@[simp] theorem shaped_int (i : Int) : shaped (.int i) = true := rfl
@[simp] theorem shaped_tp (m : Mx) : shaped (tp m) = true := rfl
theorem beq_dec {α : Type} [BEq α] [LawfulBEq α] [DecidableEq α] (a b : α) : (a == b) = decide (a = b) := by
  by_cases h : a = b
  · simp [h]
  · simp [h]
@[simp] theorem eqv_int (i j : Int) : eqv (.int i) (.int j) = decide (i = j) := by
  show (i == j) = _
  exact beq_dec i j
@[simp] theorem eqv_str (x y : Str) : eqv (.str x) (.str y) = decide (x = y) := by
  show (x == y) = _
  exact beq_dec x y
@[simp] theorem eqv_tp (x y : Mx) : eqv (tp x) (tp y) = decide (x = y) := by
  show (x.a == y.a && (x.b == y.b && (x.c == y.c && (x.d == y.d && true)))) = _
  obtain ⟨a, b, c, d⟩ := x
  obtain ⟨e, f, g, h⟩ := y
  simp only [Mx.mk.injEq, Bool.and_true]
  rw [beq_dec, beq_dec, beq_dec, beq_dec, Bool.eq_iff_iff]
  simp
theorem eqv_self {x : PV} (h : shaped x = true) : eqv x x = true := PySem.SeqAt.eqv_refl (toD x) (shaped_lay h)
/-! ### the checks -/
def det (m : Mx) : Int := m.a * m.d - m.b * m.c
def most : Nat := 1000000000000000000000000000000
structure Good (m : Mx) : Prop where
  det : det m = 1
  a : m.a.natAbs < most
  b : m.b.natAbs < most
  c : m.c.natAbs < most
  d : m.d.natAbs < most
theorem sm_good {i : Int} (h : i.natAbs < most) : Sm i := Nat.lt_trans h (by unfold most; decide)
theorem is_matrix_ok {m : Mx} {s : PS} (h : Good m) : m_is_matrix [tp m] s = .val (.bl true) s := by
  have h1 := sm_good h.a; have h2 := sm_good h.b; have h3 := sm_good h.c; have h4 := sm_good h.d
  have hd : m.a * m.d - m.b * m.c = 1 := h.det
  simp [m_is_matrix, b_is_matrix, tp, compGo, -m_is_integer, is_integer_ok, big4, blsOf, L2.atI, L2.ixN, h1, h2, h3, h4, hd]
theorem abs_lt {i : Int} (h : i.natAbs < most) : (if i < 0 then -i else i) < 1000000000000000000000000000000 := by
  unfold most at h
  split <;> omega
theorem is_small_ok {m : Mx} {s : PS} (h : Good m) : m_is_small_matrix [tp m] s = .val (.bl true) s := by
  have h1 := abs_lt h.a; have h2 := abs_lt h.b; have h3 := abs_lt h.c; have h4 := abs_lt h.d
  have e : m_is_matrix [PV.tup [.int m.a, .int m.b, .int m.c, .int m.d]] s = .val (.bl true) s := is_matrix_ok h
  simp only [m_is_small_matrix, b_is_small_matrix, tp]
  simp [-m_is_matrix, e, compGo, big4, blsOf, h1, h2, h3, h4]
theorem check_matrix_ok {m : Mx} {s : PS} (h : Good m) : m_check_matrix [tp m] s = .val .non s := by
  have e : m_is_small_matrix [tp m] s = .val (.bl true) s := is_small_ok h
  simp [m_check_matrix, b_check_matrix, -m_is_small_matrix, e]
theorem inverse_ok {m : Mx} {s : PS} (h : Good m) : m_inverse [tp m] s = .val (tp (inv m)) s := by
  have e := check_matrix_ok (s := s) h
  have e2 := inverse_by_ok (x := m) (s := s)
  simp [m_inverse, b_inverse, -m_check_matrix, -m_inverse_by, e, e2]
theorem product_ok {x y : Mx} {s : PS} (hx : Good x) (hy : Good y) : m_product [tp x, tp y] s = .val (tp (mul x y)) s := by
  have e1 := check_matrix_ok (s := s) hx
  have e2 := check_matrix_ok (s := s) hy
  have l1 : most ≤ 2 ^ 1000 := by unfold most; decide
  have e3 := product_by_ok (x := x) (y := y) (s := s) ⟨by have := hx.a; omega, by have := hx.b; omega, by have := hx.c; omega, by have := hx.d; omega⟩ ⟨by have := hy.a; omega, by have := hy.b; omega, by have := hy.c; omega, by have := hy.d; omega⟩
  simp [m_product, b_product, -m_check_matrix, -m_product_by, e1, e2, e3]
theorem blsOf_true : ∀ l : List Nat, blsOf (l.map fun _ => PV.bl true) = some (l.map fun _ => true)
  | [] => rfl
  | c :: l => by rw [List.map_cons, blsOf, blsOf_true l]; rfl
theorem is_moves_of_ok {l : List Nat} {s : PS} (hw : W l) (hl : l.length ≤ 400) : m_is_moves_of [.str (st l)] s = .val (.bl true) s := by
  have hb : l.length ≤ big := Nat.le_trans hl (by decide)
  have hc := compGo_map (g := gNm 1) (f := fGin k_MATRICES (fVar 1)) (ρ := [some (Ent.val (PV.str (st l))), none]) (s := s) (fun c : Nat => PV.str (st [c])) (fun c => PV.bl true) l fun c hc => ⟨_, rfl, by simp [getM (hw c hc)]⟩
  have h4 : (l.length : Int) ≤ 400 := by omega
  simp [m_is_moves_of, b_is_moves_of, st_signs, hb, hc, -fGin, blsOf_true, h4]
theorem check_moves_ok {l : List Nat} {s : PS} (hw : W l) (hl : l.length ≤ 400) : m_check_moves [.str (st l)] s = .val .non s := by
  have e := is_moves_of_ok (s := s) hw hl
  simp [m_check_moves, b_check_moves, -m_is_moves_of, e]
theorem is_moves_ok {l : List Nat} {s : PS} (hw : W l) (hl : l.length ≤ 400) : m_is_moves [.str (st l)] s = .val (.bl true) s := by
  have e := is_moves_of_ok (s := s) hw hl
  simp [m_is_moves, b_is_moves, -m_is_moves_of, e]
theorem matrix_of_ok {l : List Nat} {s : PS} (hw : W l) (hl : l.length ≤ 400) : m_matrix_of [.str (st l)] s = .val (tp (matOf l)) s := by
  have e := check_moves_ok (s := s) hw hl
  have e2 := matrix_by_ok (s := s) hw (by omega : l.length ≤ 900)
  simp [m_matrix_of, b_matrix_of, -m_check_moves, -m_matrix_by, e, e2]
theorem turned_moves_ok {l : List Nat} {s : PS} (hw : W l) (hl : l.length ≤ 400) : m_turned_moves [.str (st l)] s = .val (.str (st (turn l))) s := by
  have e := check_moves_ok (s := s) hw hl
  have e2 := turned_by_ok (s := s) hw (by omega : l.length ≤ 900)
  simp [m_turned_moves, b_turned_moves, -m_check_moves, -m_turned_moves_by, e, e2]
theorem want_ok {n : Int} {s : PS} {z : Str} (h : n ≤ 400) : m_want_at_most [.str z, .int 400, .int n] s = .val .non s := by
  have : ¬ (400 < n) := by omega
  simp [m_want_at_most, b_want_at_most, this]
theorem want_no {n : Int} {s : PS} {z : Str} (h : 400 < n) : m_want_at_most [.str z, .int 400, .int n] s = .exc "TooMany" [("limit", .int 400), ("what", .str z)] s := by
  simp [m_want_at_most, b_want_at_most, h]
end M38
set_option Elab.async false
set_option linter.all false
set_option maxRecDepth 100000
set_option maxHeartbeats 1000000
namespace M38
open PySem PF W38

/-! ### the notes, plainly -/
def nx (m : Mx) : Mx := ⟨m.c, m.d, m.a.fdiv m.c * m.c - m.a, m.a.fdiv m.c * m.d - m.b⟩
def notes : Nat → Mx → List Int × Mx
  | 0, m => ([], m)
  | n + 1, m => if m.c = 0 then ([], m) else (m.a.fdiv m.c :: (notes n (nx m)).1, (notes n (nx m)).2)
/-- the program's: no more than r of them -/
def pn : Nat → Nat → Mx → List Int × Mx
  | 0, _, m => ([], m)
  | _ + 1, 0, m => ([], m)
  | n + 1, r + 1, m => if m.c = 0 then ([], m) else (m.a.fdiv m.c :: (pn n r (nx m)).1, (pn n r (nx m)).2)
theorem nx_c (m : Mx) (h : m.c ≠ 0) : (nx m).c.natAbs < m.c.natAbs := by
  have e : (nx m).c = -(m.a.fmod m.c) := by
    show m.a.fdiv m.c * m.c - m.a = _
    have := Int.fmod_add_mul_fdiv m.a m.c
    rw [Int.mul_comm] at this
    omega
  rw [e]
  rcases Int.lt_or_gt_of_ne h with h | h
  · have e2 := Int.neg_fmod_neg m.a m.c
    have h0 : 0 < -m.c := by omega
    have h1 := Int.fmod_nonneg_of_pos (-m.a) h0
    have h2 := Int.fmod_lt_of_pos (-m.a) h0
    omega
  · have h1 := Int.fmod_nonneg_of_pos m.a h
    have h2 := Int.fmod_lt_of_pos m.a h
    omega
theorem notes_c : ∀ (n : Nat) (m : Mx), m.c.natAbs ≤ n → (notes n m).2.c = 0
  | 0, m, h => by
    show m.c = 0
    omega
  | n + 1, m, h => by
    rw [notes]
    split
    · assumption
    · rename_i hc
      have := nx_c m hc
      exact notes_c n (nx m) (by omega)
theorem notes_len : ∀ (n : Nat) (m : Mx), (notes n m).1.length ≤ n
  | 0, m => Nat.le_refl _
  | n + 1, m => by
    rw [notes]
    split
    · exact Nat.zero_le _
    · exact Nat.succ_le_succ (notes_len n (nx m))
theorem pn_eq : ∀ (n r : Nat) (m : Mx), (notes n m).1.length ≤ r → pn n r m = notes n m
  | 0, _, m, _ => by simp [pn, notes]
  | n + 1, 0, m, h => by
    rw [notes] at h ⊢
    rw [pn]
    split
    · rfl
    · rename_i hc
      rw [if_neg hc] at h
      simp at h
  | n + 1, r + 1, m, h => by
    rw [notes] at h ⊢
    rw [pn]
    split
    · rfl
    · rename_i hc
      rw [if_neg hc] at h
      rw [pn_eq n r (nx m) (Nat.le_of_succ_le_succ h)]
theorem pn_len : ∀ (n r : Nat) (m : Mx), r < (notes n m).1.length → (pn n r m).1.length = r
  | 0, _, m, h => by simp [notes] at h
  | n + 1, 0, m, h => by simp [pn]
  | n + 1, r + 1, m, h => by
    rw [notes] at h
    rw [pn]
    split
    · rename_i hc
      rw [if_pos hc] at h
      simp at h
    · rename_i hc
      rw [if_neg hc] at h
      rw [List.length_cons, pn_len n r (nx m) (Nat.lt_of_succ_lt_succ h)]
/-- det 1, entries below N -/
structure Bd (N : Nat) (m : Mx) : Prop where
  det : det m = 1
  a : m.a.natAbs ≤ N
  b : m.b.natAbs ≤ N
  c : m.c.natAbs ≤ N
  d : m.d.natAbs ≤ N
theorem Bd.nx {N : Nat} {m : Mx} (h : Bd N m) (hN : 1 ≤ N) (hc : m.c ≠ 0) : Bd N (nx m) := by
  have hcc := nx_c m hc
  have hd : m.a * m.d - m.b * m.c = 1 := h.det
  have key : m.c * (M38.nx m).d = (M38.nx m).c * m.d + 1 := by
    show m.c * (m.a.fdiv m.c * m.d - m.b) = (m.a.fdiv m.c * m.c - m.a) * m.d + 1
    rw [Int.mul_sub, Int.sub_mul, Int.mul_comm m.c m.b]
    have : m.c * (m.a.fdiv m.c * m.d) = m.a.fdiv m.c * m.c * m.d := by rw [← Int.mul_assoc, Int.mul_comm m.c]
    omega
  refine ⟨?_, h.c, h.d, Nat.le_trans (Nat.le_of_lt hcc) h.c, ?_⟩
  · show m.c * (M38.nx m).d - m.d * (M38.nx m).c = 1
    rw [key, Int.mul_comm m.d]
    omega
  · have k1 : m.c.natAbs * (M38.nx m).d.natAbs ≤ (M38.nx m).c.natAbs * m.d.natAbs + 1 := by
      rw [← Int.natAbs_mul, ← Int.natAbs_mul, key]
      have := Int.natAbs_add_le ((M38.nx m).c * m.d) 1
      simpa using this
    have hc0 : 0 < m.c.natAbs := Int.natAbs_pos.mpr hc
    by_cases hd0 : m.d.natAbs = 0
    · rw [hd0, Nat.mul_zero, Nat.zero_add] at k1
      have : (M38.nx m).d.natAbs ≤ 1 := Nat.le_trans (Nat.le_mul_of_pos_left _ hc0) k1
      omega
    · have k2 : (M38.nx m).c.natAbs * m.d.natAbs + 1 ≤ m.c.natAbs * m.d.natAbs := by
        have : ((M38.nx m).c.natAbs + 1) * m.d.natAbs ≤ m.c.natAbs * m.d.natAbs := Nat.mul_le_mul_right _ hcc
        rw [Nat.add_mul, Nat.one_mul] at this
        omega
      have := Nat.le_of_mul_le_mul_left (Nat.le_trans k1 k2) hc0
      exact Nat.le_trans this h.d
theorem notes_bd {N : Nat} (hN : 1 ≤ N) : ∀ (n : Nat) (m : Mx), Bd N m → Bd N (notes n m).2
  | 0, m, h => h
  | n + 1, m, h => by
    rw [notes]
    split
    · exact h
    · rename_i hc
      exact notes_bd hN n (nx m) (h.nx hN hc)
theorem pn_bd {N : Nat} (hN : 1 ≤ N) : ∀ (n r : Nat) (m : Mx), Bd N m → Bd N (pn n r m).2
  | 0, _, m, h => h
  | n + 1, 0, m, h => h
  | n + 1, r + 1, m, h => by
    rw [pn]
    split
    · exact h
    · rename_i hc
      exact pn_bd hN n r (nx m) (h.nx hN hc)
theorem fdiv_le (a c : Int) (h : c ≠ 0) : (a.fdiv c).natAbs ≤ a.natAbs + 1 := by
  have h1 : a.fdiv c * c = a + (nx ⟨a, 0, c, 0⟩).c := by
    show _ = a + (a.fdiv c * c - a)
    omega
  have h2 := nx_c ⟨a, 0, c, 0⟩ h
  have h3 : (a.fdiv c).natAbs * c.natAbs ≤ a.natAbs + (nx ⟨a, 0, c, 0⟩).c.natAbs := by
    rw [← Int.natAbs_mul, h1]
    exact Int.natAbs_add_le _ _
  have hc : 0 < c.natAbs := Int.natAbs_pos.mpr h
  have h4 : (nx ⟨a, 0, c, 0⟩).c.natAbs < c.natAbs := h2
  have h5 : (a.fdiv c).natAbs * c.natAbs < (a.natAbs + 1) * c.natAbs + 1 := by
    have : a.natAbs ≤ a.natAbs * c.natAbs := Nat.le_mul_of_pos_right _ hc
    rw [Nat.add_mul, Nat.one_mul]
    omega
  exact Nat.le_of_mul_le_mul_right (Nat.le_of_lt_succ h5) hc
theorem notes_k {N : Nat} (hN : 1 ≤ N) : ∀ (n : Nat) (m : Mx), Bd N m → ∀ k ∈ (notes n m).1, k.natAbs ≤ N + 1
  | 0, m, h, k, hk => by simp [notes] at hk
  | n + 1, m, h, k, hk => by
    rw [notes] at hk
    split at hk
    · simp at hk
    · rename_i hc
      rcases List.mem_cons.mp hk with rfl | hk
      · exact Nat.le_trans (fdiv_le _ _ hc) (Nat.succ_le_succ h.a)
      · exact notes_k hN n (nx m) (h.nx hN hc) k hk
/-! ### words of matrices -/
theorem mul_assoc (x y z : Mx) : mul (mul x y) z = mul x (mul y z) := by
  simp only [mul, Mx.mk.injEq]
  refine ⟨?_, ?_, ?_, ?_⟩ <;> (simp only [Int.add_mul, Int.mul_add, Int.mul_assoc]; omega)
theorem mul_one (x : Mx) : mul x one = x := by simp [mul, one]
theorem one_mul (x : Mx) : mul one x = x := by simp [mul, one]
theorem matF_eq : ∀ (l : List Nat) (m : Mx), matF m l = mul (matOf l) m
  | [], m => by
    show m = mul one m
    rw [one_mul]
  | c :: l, m => by
    show matF (mul (mL c) m) l = mul (matF (mul (mL c) one) l) m
    rw [matF_eq l, matF_eq l (mul (mL c) one), mul_one, mul_assoc]
theorem matOf_app (l l' : List Nat) : matOf (l ++ l') = mul (matOf l') (matOf l) := by
  unfold matOf
  rw [matF, List.foldl_append]
  exact matF_eq l' _
theorem matOf_cons (c : Nat) (l : List Nat) : matOf (c :: l) = mul (matOf l) (mL c) := by
  have := matOf_app [c] l
  rw [List.singleton_append] at this
  rw [this]
  show mul _ (mul (mL c) one) = _
  rw [mul_one]
def sh (k : Int) : List Nat := List.replicate k.natAbs (if k > 0 then 116 else 84)
theorem matOf_sh (k : Int) : matOf (sh k) = ⟨1, k, 0, 1⟩ := by
  have key : ∀ (n : Nat), matOf (List.replicate n 116) = ⟨1, n, 0, 1⟩ ∧ matOf (List.replicate n 84) = ⟨1, -n, 0, 1⟩ := fun n => by
    induction n with
    | zero => exact ⟨rfl, rfl⟩
    | succ n ih =>
      rw [List.replicate_succ, List.replicate_succ, matOf_cons, matOf_cons, ih.1, ih.2]
      constructor <;> (simp [mul, mL]; try omega)
  unfold sh
  by_cases h : k > 0
  · rw [if_pos h, (key _).1]
    simp only [Mx.mk.injEq, and_true, true_and]
    omega
  · rw [if_neg h, (key _).2]
    simp only [Mx.mk.injEq, and_true, true_and]
    omega
def wordOf (p : List Int × Mx) : List Nat := (if p.2.a = -1 then [106, 106] else []) ++ sh (p.2.a * p.2.b) ++ (p.1.reverse.map fun k => 106 :: sh k).flatten
theorem sh_W (k : Int) : W (sh k) := fun c hc => by
  have := (List.mem_replicate.mp hc).2
  subst this
  split <;> decide
theorem wordOf_W (p : List Int × Mx) : W (wordOf p) := fun c hc => by
  unfold wordOf at hc
  rcases List.mem_append.mp hc with hc | hc
  · rcases List.mem_append.mp hc with hc | hc
    · split at hc
      · simp at hc
        subst hc
        decide
      · simp at hc
    · exact sh_W _ c hc
  · obtain ⟨l, hl, hc⟩ := List.mem_flatten.mp hc
    obtain ⟨k, _, rfl⟩ := List.mem_map.mp hl
    rcases List.mem_cons.mp hc with rfl | hc
    · decide
    · exact sh_W _ c hc
def cnt (p : List Int × Mx) : Nat := (p.2.a * p.2.b).natAbs + (if p.2.a = -1 then 2 else 0) + (p.1.map fun k => 1 + k.natAbs).sum
theorem sh_len (k : Int) : (sh k).length = k.natAbs := by simp [sh]
theorem flat_len : ∀ ks : List Int, ((ks.map fun k => 106 :: sh k).flatten).length = (ks.map fun k => 1 + k.natAbs).sum
  | [] => rfl
  | k :: ks => by
    rw [List.map_cons, List.flatten_cons, List.length_append, flat_len ks, List.length_cons, sh_len, List.map_cons, List.sum_cons]
    omega
theorem wordOf_len (p : List Int × Mx) : (wordOf p).length = cnt p := by
  unfold wordOf cnt
  rw [List.length_append, List.length_append, sh_len, flat_len, List.map_reverse, List.sum_reverse]
  split <;> simp <;> omega
theorem len_le_cnt (p : List Int × Mx) : p.1.length ≤ cnt p := by
  unfold cnt
  have : ∀ ks : List Int, ks.length ≤ (ks.map fun k => 1 + k.natAbs).sum := fun ks => by
    induction ks with
    | nil => exact Nat.le_refl _
    | cons k ks ih =>
      rw [List.length_cons, List.map_cons, List.sum_cons]
      omega
  have := this p.1
  omega
theorem wordOf_cons (k : Int) (ks : List Int) (e : Mx) : wordOf (k :: ks, e) = wordOf (ks, e) ++ (106 :: sh k) := by
  unfold wordOf
  simp [List.append_assoc]
theorem word_base {e : Mx} (hd : det e = 1) (hc : e.c = 0) : matOf (wordOf ([], e)) = e := by
  obtain ⟨a, b, c, d⟩ := e
  have hc : c = 0 := hc
  subst hc
  have hd : a * d - b * 0 = 1 := hd
  rw [Int.mul_zero, Int.sub_zero] at hd
  have ha : a.natAbs = 1 := by
    have : a.natAbs * d.natAbs = 1 := by rw [← Int.natAbs_mul, hd]; rfl
    exact Nat.eq_one_of_mul_eq_one_right this
  have ha' : a = 1 ∨ a = -1 := by omega
  rcases ha' with rfl | rfl
  · have : d = 1 := by omega
    subst this
    show matOf ([] ++ sh (1 * b) ++ []) = _
    rw [List.nil_append, List.append_nil, matOf_sh, Int.one_mul]
  · have : d = -1 := by omega
    subst this
    show matOf ([106, 106] ++ sh (-1 * b) ++ []) = _
    rw [List.append_nil, matOf_app, matOf_sh]
    simp [mul, matOf, matF, mL, one]
theorem word_notes {N : Nat} (hN : 1 ≤ N) : ∀ (n : Nat) (m : Mx), Bd N m → m.c.natAbs ≤ n → matOf (wordOf (notes n m)) = m
  | 0, m, h, hc => word_base h.det (by omega)
  | n + 1, m, h, hc => by
    rw [notes]
    split
    · rename_i h0
      exact word_base h.det h0
    · rename_i h0
      have hcc := nx_c m h0
      have ih := word_notes hN n (nx m) (h.nx hN h0) (by omega)
      rw [wordOf_cons, matOf_app]
      have : ((notes n (nx m)).1, (notes n (nx m)).2) = notes n (nx m) := rfl
      rw [this, ih, matOf_cons, matOf_sh]
      obtain ⟨a, b, c, d⟩ := m
      simp only [mul, mL, nx, Mx.mk.injEq]
      refine ⟨?_, ?_, ?_, ?_⟩ <;> simp <;> omega
end M38
set_option Elab.async false
set_option linter.all false
set_option maxRecDepth 100000
set_option maxHeartbeats 1000000
namespace M38
open PySem PF W38

def iL (l : List Int) : List PV := l.map PV.int
@[simp] theorem iL_len (l : List Int) : (iL l).length = l.length := by simp [iL]
def nCond : FT := fAndT (fTest (fBin oNe (fVar 4) (fC (.int 0)))) (fTest (fBin oLe (fLenO 1) (fC (.int (400)))))
def nBody : FS := sSeq (sSet 6 (fBin oDiv (fVar 2) (fVar 4))) (sSeq (sApp 1 (fVar 6)) (sAsg (fTup (fCons (fVar 4) (fCons (fVar 5) (fCons (fBin oSub (fBin oMul (fVar 6) (fVar 4)) (fVar 2)) (fCons (fBin oSub (fBin oMul (fVar 6) (fVar 5)) (fVar 3)) (fNil)))))) (gTp 4 (gCn (gNm 2) (gCn (gNm 3) (gCn (gNm 4) (gCn (gNm 5) (gNl))))))))
def nEnv (v : Option Ent) (acc : List Int) (m : Mx) (x : Option Ent) : PF.Env := [v, some (.own (iL acc)), some (.val (.int m.a)), some (.val (.int m.b)), some (.val (.int m.c)), some (.val (.int m.d)), x]
theorem nCond_ok {v x : Option Ent} {acc : List Int} {m : Mx} {s : PS} : nCond (nEnv v acc m x) s = .val (decide (m.c ≠ 0) && decide (acc.length ≤ 400)) s := by
  by_cases h : m.c = 0
  · simp [nCond, nEnv, h]
  · simp [nCond, nEnv, h]
    omega
theorem nBody_ok {v x : Option Ent} {acc : List Int} {m : Mx} {s : PS} (h : m.c ≠ 0) (ha : acc.length < big) (h1 : Sm m.c) (h2 : Sm m.d) (h3 : Sm (m.a.fdiv m.c)) : nBody (nEnv v acc m x) s = .nx (nEnv v (acc ++ [m.a.fdiv m.c]) (nx m) (some (.val (.int (m.a.fdiv m.c))))) s := by
  simp [nBody, nEnv, h, ha, h1, h2, h3, big4, nx, iL]
theorem sm1000 {i : Int} {N : Nat} (h : i.natAbs ≤ N + 1) (hN : N ≤ most) : Sm i := sm_of (Nat.le_trans h (Nat.le_trans (Nat.succ_le_succ hN) (by unfold most; decide)))
theorem noted_loop {v : Option Ent} {s : PS} {N : Nat} (hN : 1 ≤ N) (hN2 : N ≤ most) : ∀ (n f : Nat) (m : Mx) (acc : List Int) (x : Option Ent), Bd N m → m.c.natAbs ≤ n → n < f → acc.length ≤ 401 →
    ∃ y, whGo nCond nBody f (nEnv v acc m x) s = .nx (nEnv v (acc ++ (pn n (401 - acc.length) m).1) (pn n (401 - acc.length) m).2 y) s := by
  intro n
  induction n with
  | zero =>
    intro f m acc x hb hc hf ha
    obtain ⟨f, rfl⟩ : ∃ g, f = g + 1 := ⟨f - 1, by omega⟩
    have h0 : m.c = 0 := by omega
    refine ⟨x, ?_⟩
    rw [whGo, nCond_ok]
    simp [h0, pn]
  | succ n ih =>
    intro f m acc x hb hc hf ha
    obtain ⟨f, rfl⟩ : ∃ g, f = g + 1 := ⟨f - 1, by omega⟩
    rw [whGo, nCond_ok]
    by_cases h0 : m.c = 0
    · refine ⟨x, ?_⟩
      have : pn (n + 1) (401 - acc.length) m = ([], m) := by
        cases e : 401 - acc.length with
        | zero => rw [pn]
        | succ r => rw [pn, if_pos h0]
      simp [h0, this]
    · by_cases h1 : acc.length ≤ 400
      · have h2 := nBody_ok (v := v) (x := x) (s := s) (acc := acc) h0 (Nat.lt_of_le_of_lt h1 (by decide)) (sm1000 (Nat.le_succ_of_le hb.c) hN2) (sm1000 (Nat.le_succ_of_le hb.d) hN2) (sm1000 (Nat.le_trans (fdiv_le _ _ h0) (Nat.succ_le_succ hb.a)) hN2)
        have hcc := nx_c m h0
        obtain ⟨y, hy⟩ := ih f (nx m) (acc ++ [m.a.fdiv m.c]) (some (.val (.int (m.a.fdiv m.c)))) (hb.nx hN h0) (by omega) (by omega) (by simp; omega)
        refine ⟨y, ?_⟩
        have e : 401 - acc.length = (401 - (acc ++ [m.a.fdiv m.c]).length) + 1 := by simp; omega
        rw [e, pn, if_neg h0]
        simp only [h0, h1, R.out, ne_eq, not_false_eq_true, decide_true, Bool.and_self, if_true, h2]
        rw [hy]
        simp
      · refine ⟨x, ?_⟩
        have e : 401 - acc.length = 0 := by omega
        rw [e, pn]
        simp [h1]
/-- enough turns for any matrix here -/
theorem fuel_ge : most < fuel := by unfold most fuel; decide
theorem noted_ok {m : Mx} {s : PS} {N : Nat} (hN : 1 ≤ N) (hN2 : N ≤ most) (hb : Bd N m) : m_noted [tp m] s = .val (.tup [.lst (iL (pn N 401 m).1), tp (pn N 401 m).2]) s := by
  obtain ⟨y, hy⟩ := noted_loop (v := some (.val (tp m))) (s := s) hN hN2 N fuel m [] none hb hb.c (Nat.lt_of_le_of_lt hN2 fuel_ge) (by simp)
  have e0 : sAsg (fVar 0) (gTp 4 (gCn (gNm 2) (gCn (gNm 3) (gCn (gNm 4) (gCn (gNm 5) gNl))))) (startE 7 [tp m]) s = .nx [some (.val (tp m)), none, some (.val (.int m.a)), some (.val (.int m.b)), some (.val (.int m.c)), some (.val (.int m.d)), none] s := by
    simp [tp]
  have e1 : sOwn 1 (lLst fNil) [some (.val (tp m)), none, some (.val (.int m.a)), some (.val (.int m.b)), some (.val (.int m.c)), some (.val (.int m.d)), none] s = .nx (nEnv (some (.val (tp m))) [] m none) s := by
    simp [nEnv, iL]
  show (sSeq _ (sSeq _ (sSeq (sWhile fuel nCond nBody) _)) (startE 7 [tp m]) s).ret = _
  unfold sSeq
  rw [e0]
  simp only [Out.seq, sSeq]
  rw [e1]
  simp only [Out.seq, sWhile]
  simp only [List.nil_append, List.length_nil, Nat.sub_zero] at hy
  rw [hy]
  have b2 : 2 ≤ big := by decide
  simp [nEnv, tp, big4, b2]
/-! ### pieces -/
def shP (k : Int) : PV := .tup [.str (st [if k ≥ 0 then 116 else 84]), .int (k.natAbs : Int)]
theorem shears_ok {k : Int} {s : PS} : m_shears [.int k] s = .val (shP k) s := by
  have b2 : 2 ≤ big := by decide
  by_cases h : 0 ≤ k
  · have e : (k.natAbs : Int) = k := by omega
    simp [m_shears, b_shears, h, shP, b2, e]
    rfl
  · have e : (k.natAbs : Int) = -k := by omega
    simp [m_shears, b_shears, h, shP, b2, e]
    rfl
def jP (n : Int) : PV := .tup [.str (st [106]), .int n]
def pieces (p : List Int × Mx) : List PV := (if p.2.a = -1 then [jP 2] else []) ++ [shP (p.2.a * p.2.b)] ++ (p.1.reverse.map fun k => [jP 1, shP k]).flatten
theorem piece_loop {v x3 x4 : Option Ent} {s : PS} : ∀ (ks : List Int) (acc : List PV) (x : Option Ent), acc.length + 2 * ks.length ≤ big →
    ∃ y, forGo (gNm 2) (sExt 1 (fLst (fCons (fTup (fCons (fC (.str "j")) (fCons (fC (.int 1)) (fNil)))) (fCons (fCall m_shears (fCons (fVar 2) (fNil))) (fNil))))) (iL ks) [v, some (.own acc), x, x3, x4] s = .nx [v, some (.own (acc ++ (ks.map fun k => [jP 1, shP k]).flatten)), y, x3, x4] s
  | [], acc, x, _ => ⟨x, by simp [iL, forGo]⟩
  | k :: ks, acc, x, h => by
    rw [List.length_cons] at h
    obtain ⟨y, hy⟩ := piece_loop (v := v) (x3 := x3) (x4 := x4) (s := s) ks (acc ++ [jP 1, shP k]) (some (.val (.int k))) (by simp; omega)
    refine ⟨y, ?_⟩
    have b2 : 2 ≤ big := by decide
    have e := shears_ok (k := k) (s := s)
    have e3 : PV.tup [.str (Str.ofString "j"), .int 1] = jP 1 := rfl
    have h3 : acc.length + 2 ≤ big := by omega
    show forGo _ _ (PV.int k :: iL ks) _ _ = _
    rw [forGo]
    simp [e, b2, e3, h3]
    simp at hy
    exact hy
theorem pieces_ok {m : Mx} {s : PS} {N : Nat} (hN : 1 ≤ N) (hN2 : N ≤ most) (hb : Bd N m) : m_pieces_of [tp m] s = .val (.lst (pieces (pn N 401 m))) s := by
  have hn := noted_ok (s := s) hN hN2 hb
  have hpb := pn_bd hN N 401 m hb
  have hpl : (pn N 401 m).1.length ≤ 401 := by
    by_cases h : (notes N m).1.length ≤ 401
    · rw [pn_eq _ _ _ h]
      exact h
    · rw [pn_len _ _ _ (by omega)]
      exact Nat.le_refl _
  generalize pn N 401 m = p at *
  obtain ⟨ks, e⟩ := p
  have ha := sm1000 (Nat.le_succ_of_le hpb.a) hN2
  have hbb := sm1000 (Nat.le_succ_of_le hpb.b) hN2
  have b1 : 1 ≤ big := by decide
  have b2 : 2 ≤ big := by decide
  have e0 : sAsg (fCall m_noted (fCons (fVar 0) fNil)) (gTp 2 (gCn (gNm 3) (gCn (gNm 4) gNl))) (startE 5 [tp m]) s = .nx [some (.val (tp m)), none, none, some (.val (.lst (iL ks))), some (.val (tp e))] s := by
    simp [hn]
  have hi : fIx (fVar 4) (fC (.int 0)) = fun ρ s => fIx (fVar 4) (fC (.int 0)) ρ s := rfl
  have e1 : ∀ v, sOwn 1 (lIf (fTest (fBin oEq (fIx (fVar 4) (fC (.int 0))) (fUn oNeg (fC (.int 1))))) (lLst (fCons (fTup (fCons (fC (.str "j")) (fCons (fC (.int 2)) (fNil)))) (fNil))) (lLst (fNil))) [v, none, none, some (.val (.lst (iL ks))), some (.val (tp e))] s = .nx [v, some (.own (if e.a = -1 then [jP 2] else [])), none, some (.val (.lst (iL ks))), some (.val (tp e))] s := fun v => by
    have e3 : PV.tup [.str (Str.ofString "j"), .int 2] = jP 2 := rfl
    by_cases h : e.a = -1
    · simp [tp, L2.atI, L2.ixN, h, b1, b2, e3]
    · simp [tp, L2.atI, L2.ixN, h, b1, b2, e3]
  have e2 : ∀ v (acc : List PV), acc.length ≤ 1 → sApp 1 (fCall m_shears (fCons (fBin oMul (fIx (fVar 4) (fC (.int 0))) (fIx (fVar 4) (fC (.int 1)))) (fNil))) [v, some (.own acc), none, some (.val (.lst (iL ks))), some (.val (tp e))] s = .nx [v, some (.own (acc ++ [shP (e.a * e.b)])), none, some (.val (.lst (iL ks))), some (.val (tp e))] s := fun v acc h => by
    have h3 : acc.length < big := Nat.lt_of_le_of_lt h (by decide)
    have es := shears_ok (k := e.a * e.b) (s := s)
    simp [tp, L2.atI, L2.ixN, ha, hbb, h3, es]
  obtain ⟨y, hy⟩ := piece_loop (v := some (.val (tp m))) (x3 := some (.val (.lst (iL ks)))) (x4 := some (.val (tp e))) (s := s) ks.reverse ((if e.a = -1 then [jP 2] else []) ++ [shP (e.a * e.b)]) none (by
    have : (List.length (if e.a = -1 then [jP 2] else [])) ≤ 1 := by split <;> simp
    have h5 : 1000 ≤ big := by decide
    simp at hpl ⊢
    omega)
  show (sSeq _ (sSeq _ (sSeq _ (sSeq _ _))) (startE 5 [tp m]) s).ret = _
  unfold sSeq
  rw [e0]
  simp only [Out.seq, sSeq]
  rw [e1]
  simp only [Out.seq]
  rw [e2 _ _ (by split <;> simp)]
  have e4 : (iL ks).reverse = iL ks.reverse := by simp [iL]
  simp only [Out.seq, sFor, fIt, fUn, fVar, List.getElem?_cons_succ, List.getElem?_cons_zero, R.bind, oRev, ofO, oIt, R.out, e4]
  rw [hy]
  simp [pieces]
def pr (q : Nat × Nat) : PV := .tup [.str (st [q.1]), .int (q.2 : Int)]
def shp (k : Int) : Nat × Nat := (if k ≥ 0 then 116 else 84, k.natAbs)
def prs (p : List Int × Mx) : List (Nat × Nat) := (if p.2.a = -1 then [(106, 2)] else []) ++ [shp (p.2.a * p.2.b)] ++ (p.1.reverse.map fun k => [(106, 1), shp k]).flatten
theorem pieces_prs (p : List Int × Mx) : pieces p = (prs p).map pr := by
  have e : ∀ ks : List Int, (ks.map fun k => [jP 1, shP k]).flatten = ((ks.map fun k => [(106, 1), shp k]).flatten).map pr := fun ks => by
    induction ks with
    | nil => rfl
    | cons k ks ih =>
      rw [List.map_cons, List.flatten_cons, ih, List.map_cons, List.flatten_cons, List.map_append]
      rfl
  unfold pieces prs
  rw [e, List.map_append, List.map_append]
  split <;> rfl
theorem prs_sum (p : List Int × Mx) : ((prs p).map (·.2)).sum = cnt p := by
  have e : ∀ ks : List Int, (((ks.map fun k => [(106, 1), shp k]).flatten).map (·.2)).sum = (ks.map fun k => 1 + k.natAbs).sum := fun ks => by
    induction ks with
    | nil => rfl
    | cons k ks ih =>
      rw [List.map_cons, List.flatten_cons, List.map_append, List.sum_append, ih, List.map_cons, List.sum_cons]
      simp [shp]
  unfold prs cnt
  rw [List.map_append, List.map_append, List.sum_append, List.sum_append, e, List.map_reverse, List.sum_reverse]
  split <;> simp [shp] <;> omega
theorem sh_shp (k : Int) : List.replicate (shp k).2 (shp k).1 = sh k := by
  unfold sh shp
  by_cases h : k > 0
  · have : k ≥ 0 := by omega
    simp [h, this]
  · by_cases h2 : k = 0
    · subst h2
      rfl
    · have : ¬ k ≥ 0 := by omega
      simp [h, this]
theorem prs_word (p : List Int × Mx) : ((prs p).map fun q => List.replicate q.2 q.1).flatten = wordOf p := by
  have e : ∀ ks : List Int, ((((ks.map fun k => [(106, 1), shp k]).flatten).map fun q => List.replicate q.2 q.1).flatten) = (ks.map fun k => 106 :: sh k).flatten := fun ks => by
    induction ks with
    | nil => rfl
    | cons k ks ih =>
      rw [List.map_cons, List.flatten_cons, List.map_append, List.flatten_append, ih, List.map_cons, List.flatten_cons]
      simp [sh_shp]
  unfold prs wordOf
  rw [List.map_append, List.map_append, List.flatten_append, List.flatten_append, e]
  split <;> simp [sh_shp]
theorem intsOf_nat : ∀ l : List (Nat × Nat), intsOf (l.map fun q => PV.int (q.2 : Int)) = some (l.map fun q => (q.2 : Int))
  | [] => rfl
  | q :: l => by rw [List.map_cons, intsOf, intsOf_nat l]; rfl
theorem sum_cast (l : List (Nat × Nat)) : (l.map fun q => (q.2 : Int)).sum = ((l.map (·.2)).sum : Nat) := by
  induction l with
  | nil => rfl
  | cons q l ih => rw [List.map_cons, List.sum_cons, ih, List.map_cons, List.sum_cons]; omega
theorem prs_len (p : List Int × Mx) : (prs p).length ≤ 2 + 2 * p.1.length := by
  have e : ∀ ks : List Int, ((ks.map fun k => [(106, 1), shp k]).flatten).length = 2 * ks.length := fun ks => by
    induction ks with
    | nil => rfl
    | cons k ks ih =>
      rw [List.map_cons, List.flatten_cons, List.length_append, ih, List.length_cons]
      simp
      omega
  unfold prs
  rw [List.length_append, List.length_append, e, List.length_reverse]
  split <;> simp <;> omega
theorem le_sum {l : List Nat} {x : Nat} (h : x ∈ l) : x ≤ l.sum := by
  induction l with
  | nil => cases h
  | cons y l ih =>
    rw [List.sum_cons]
    rcases List.mem_cons.mp h with rfl | h
    · omega
    · have := ih h
      omega
/-- the program's notes and the whole ones -/
def pp (N : Nat) (m : Mx) : List Int × Mx := pn N 401 m
theorem pp_len {N : Nat} {m : Mx} : (pp N m).1.length ≤ 401 := by
  unfold pp
  by_cases h : (notes N m).1.length ≤ 401
  · rw [pn_eq _ _ _ h]
    exact h
  · rw [pn_len _ _ _ (by omega)]
    exact Nat.le_refl _
theorem pp_small {N : Nat} {m : Mx} (h : cnt (notes N m) ≤ 400) : pp N m = notes N m := pn_eq _ _ _ (by have := len_le_cnt (notes N m); omega)
theorem pp_great {N : Nat} {m : Mx} (h : 400 < cnt (notes N m)) : 400 < cnt (pp N m) := by
  by_cases h2 : (notes N m).1.length ≤ 401
  · unfold pp
    rw [pn_eq _ _ _ h2]
    exact h
  · have := len_le_cnt (pp N m)
    have : (pp N m).1.length = 401 := pn_len _ _ _ (by omega)
    omega
section
variable {m : Mx} {s : PS} {N : Nat}
theorem length_by_ok (hN : 1 ≤ N) (hN2 : N ≤ most) (hb : Bd N m) : m_length_by [tp m] s = .val (.int (cnt (pp N m) : Int)) s := by
  have hp := pieces_ok (s := s) hN hN2 hb
  rw [show pn N 401 m = pp N m from rfl, pieces_prs] at hp
  have hl : (prs (pp N m)).length ≤ big := by
    have := prs_len (pp N m)
    have := pp_len (N := N) (m := m)
    have : 1000 ≤ big := by decide
    omega
  have hc := compGo_map (g := gTp 2 (gCn (gNm 1) (gCn (gNm 2) gNl))) (f := fVar 2) (ρ := [some (Ent.val (tp m)), none, none]) (s := s) pr (fun q => PV.int (q.2 : Int)) (prs (pp N m)) fun q hq => ⟨_, rfl, rfl⟩
  have hi := intsOf_nat (prs (pp N m))
  have hs := sum_cast (prs (pp N m))
  rw [prs_sum] at hs
  simp [m_length_by, b_length_by, hp, -gTp, -gCn, hc, hl, hi, hs]
theorem told_by_ok (hN : 1 ≤ N) (hN2 : N ≤ most) (hb : Bd N m) (hz : cnt (pp N m) ≤ 400) : m_told_word_by [tp m] s = .val (.str (st (wordOf (pp N m)))) s := by
  have hp := pieces_ok (s := s) hN hN2 hb
  rw [show pn N 401 m = pp N m from rfl, pieces_prs] at hp
  have h1000 : 1000 ≤ big := by decide
  have hl : (prs (pp N m)).length ≤ big := by
    have := prs_len (pp N m)
    have := pp_len (N := N) (m := m)
    omega
  have hsm : ∀ q ∈ prs (pp N m), q.2 ≤ 400 := fun q hq => by
    have h1 : q.2 ≤ ((prs (pp N m)).map (·.2)).sum := le_sum (List.mem_map_of_mem hq)
    rw [prs_sum] at h1
    omega
  have hc := compGo_map (g := gTp 2 (gCn (gNm 1) (gCn (gNm 2) gNl))) (f := fBin oMul (fVar 1) (fVar 2)) (ρ := [some (Ent.val (tp m)), none, none]) (s := s) pr (fun q => PV.str (st (List.replicate q.2 q.1))) (prs (pp N m)) fun q hq => ⟨_, rfl, by
    have h4 := hsm q hq
    have h5 : q.2 ≤ big := by omega
    have h6 : (q.2 : Int) ≤ (big : Int) := by omega
    have h7 : -(2 ^ 63 : Int) ≤ (q.2 : Int) := by omega
    have e := st_rep [q.1] q.2
    have e2 : (List.replicate q.2 [q.1]).flatten = List.replicate q.2 q.1 := by simp
    rw [e2] at e
    simp [h5, h6]
    exact e⟩
  have hj : oJoin (.str (Str.ofString "")) (.lst ((prs (pp N m)).map fun q => .str (st (List.replicate q.2 q.1)))) = some (.str (st (wordOf (pp N m)))) := by
    have e : ((prs (pp N m)).map fun q => PV.str (st (List.replicate q.2 q.1))) = ((prs (pp N m)).map fun q => List.replicate q.2 q.1).map fun x => PV.str (st x) := by rw [List.map_map]; rfl
    have hz0 : (Str.ofString "").length = 0 := rfl
    simp only [oJoin, e, strsOf_st]
    rw [st_join, prs_word, if_pos]
    rw [hz0, Nat.mul_zero, Nat.add_zero, List.map_map, List.map_map]
    have : ((prs (pp N m)).map (((fun x => x.length) ∘ st) ∘ fun q => List.replicate q.2 q.1)) = (prs (pp N m)).map (·.2) := List.map_congr_left fun q _ => by simp
    rw [this, prs_sum]
    omega
  simp [m_told_word_by, b_told_word_by, hp, -gTp, -gCn, -oMul, -oJoin, hc, hl, hj]
theorem Bd.good (h : Bd N m) (hN : N < most) : Good m := ⟨h.det, by have := h.a; omega, by have := h.b; omega, by have := h.c; omega, by have := h.d; omega⟩
theorem told_word_ok (hN : 1 ≤ N) (hN2 : N < most) (hb : Bd N m) : m_told_word [tp m] s = if cnt (notes N m) ≤ 400 then .val (.str (st (wordOf (notes N m)))) s else .exc "TooMany" [("limit", .int 400), ("what", .str "letters")] s := by
  have h1 := check_matrix_ok (s := s) (hb.good hN2)
  have h2 := length_by_ok (s := s) hN (Nat.le_of_lt hN2) hb
  by_cases h : cnt (notes N m) ≤ 400
  · have e := pp_small h
    have h3 := want_ok (n := (cnt (pp N m) : Int)) (s := s) (z := "letters") (by rw [e]; omega)
    have h4 := told_by_ok (s := s) hN (Nat.le_of_lt hN2) hb (by rw [e]; exact h)
    rw [e] at h2 h3 h4
    simp only [m_told_word, b_told_word]
    simp [h1, h2, h3, h4, h]
  · have e := pp_great (N := N) (m := m) (by omega)
    have h3 := want_no (n := (cnt (pp N m) : Int)) (s := s) (z := "letters") (by omega)
    simp only [m_told_word, b_told_word]
    simp [h1, h2, h3, h]
theorem length_ok (hN : 1 ≤ N) (hN2 : N < most) (hb : Bd N m) : m_length [tp m] s = if cnt (notes N m) ≤ 400 then .val (.int (cnt (notes N m) : Int)) s else .exc "TooMany" [("limit", .int 400), ("what", .str "letters")] s := by
  have h1 := check_matrix_ok (s := s) (hb.good hN2)
  have h2 := length_by_ok (s := s) hN (Nat.le_of_lt hN2) hb
  by_cases h : cnt (notes N m) ≤ 400
  · have e := pp_small h
    have h3 := want_ok (n := (cnt (pp N m) : Int)) (s := s) (z := "letters") (by rw [e]; omega)
    rw [e] at h2 h3
    simp only [m_length, b_length]
    simp [h1, h2, h3, h]
  · have e := pp_great (N := N) (m := m) (by omega)
    have h3 := want_no (n := (cnt (pp N m) : Int)) (s := s) (z := "letters") (by omega)
    simp only [m_length, b_length]
    simp [h1, h2, h3, h]
end
end M38
set_option Elab.async false
set_option linter.all false
set_option maxRecDepth 100000
set_option maxHeartbeats 1000000
namespace M38
open PySem PF W38

def lCond : FT := fTest (fBin oNe (fVar 8) (fC (.int 0)))
def lBody : FS := sSeq (sSet 5 (fBin oDiv (fVar 6) (fVar 8))) (sSeq (sApp 1 (fVar 5)) (sAsg (fTup (fCons (fVar 8) (fCons (fVar 9) (fCons (fBin oSub (fBin oMul (fVar 5) (fVar 8)) (fVar 6)) (fCons (fBin oSub (fBin oMul (fVar 5) (fVar 9)) (fVar 7)) (fNil)))))) (gTp 4 (gCn (gNm 6) (gCn (gNm 7) (gCn (gNm 8) (gCn (gNm 9) (gNl))))))))
def lEnv (v : Option Ent) (acc : List Int) (m : Mx) (x : Option Ent) : PF.Env := [v, some (.own (iL acc)), none, none, none, x, some (.val (.int m.a)), some (.val (.int m.b)), some (.val (.int m.c)), some (.val (.int m.d))]
theorem lCond_ok {v x : Option Ent} {acc : List Int} {m : Mx} {s : PS} : lCond (lEnv v acc m x) s = .val (decide (m.c ≠ 0)) s := by
  simp [lCond, lEnv]
theorem lBody_ok {v x : Option Ent} {acc : List Int} {m : Mx} {s : PS} (h : m.c ≠ 0) (ha : acc.length < big) (h1 : Sm m.c) (h2 : Sm m.d) (h3 : Sm (m.a.fdiv m.c)) : lBody (lEnv v acc m x) s = .nx (lEnv v (acc ++ [m.a.fdiv m.c]) (nx m) (some (.val (.int (m.a.fdiv m.c))))) s := by
  simp [lBody, lEnv, h, ha, h1, h2, h3, big4, nx, iL]
theorem told_loop {v : Option Ent} {s : PS} {N : Nat} (hN : 1 ≤ N) (hN2 : N ≤ most) : ∀ (n f : Nat) (m : Mx) (acc : List Int) (x : Option Ent), Bd N m → m.c.natAbs ≤ n → n < f → acc.length + (notes n m).1.length < big →
    ∃ y, whGo lCond lBody f (lEnv v acc m x) s = .nx (lEnv v (acc ++ (notes n m).1) (notes n m).2 y) s := by
  intro n
  induction n with
  | zero =>
    intro f m acc x hb hc hf ha
    obtain ⟨f, rfl⟩ : ∃ g, f = g + 1 := ⟨f - 1, by omega⟩
    have h0 : m.c = 0 := by omega
    refine ⟨x, ?_⟩
    rw [whGo, lCond_ok]
    simp [h0, notes]
  | succ n ih =>
    intro f m acc x hb hc hf ha
    obtain ⟨f, rfl⟩ : ∃ g, f = g + 1 := ⟨f - 1, by omega⟩
    rw [whGo, lCond_ok]
    by_cases h0 : m.c = 0
    · refine ⟨x, ?_⟩
      simp [h0, notes]
    · rw [notes, if_neg h0] at ha ⊢
      rw [List.length_cons] at ha
      have h2 := lBody_ok (v := v) (x := x) (s := s) (acc := acc) h0 (by omega) (sm1000 (Nat.le_succ_of_le hb.c) hN2) (sm1000 (Nat.le_succ_of_le hb.d) hN2) (sm1000 (Nat.le_trans (fdiv_le _ _ h0) (Nat.succ_le_succ hb.a)) hN2)
      have hcc := nx_c m h0
      obtain ⟨y, hy⟩ := ih f (nx m) (acc ++ [m.a.fdiv m.c]) (some (.val (.int (m.a.fdiv m.c)))) (hb.nx hN h0) (by omega) (by omega) (by simp; omega)
      refine ⟨y, ?_⟩
      simp only [h0, R.out, ne_eq, not_false_eq_true, decide_true, if_true, h2]
      rw [hy]
      simp
theorem compGo_int {g : FG} {f : FE} {ρ : PF.Env} {s : PS} (F : Int → PV) (l : List Int) (h : ∀ x ∈ l, ∃ ρ1, g (.int x) ρ s = .val ρ1 s ∧ f ρ1 s = .val (F x) s) : compGo g fYes f ρ (iL l) s = .val (l.map F) s := compGo_map PV.int F l h
theorem abs_eq (k : Int) : (if k < 0 then -k else k) = (k.natAbs : Int) := by split <;> omega
theorem intsOf_i (f : Int → Int) : ∀ l : List Int, intsOf (l.map fun k => PV.int (f k)) = some (l.map f)
  | [] => rfl
  | k :: l => by rw [List.map_cons, intsOf, intsOf_i f l]; rfl
theorem sum_i (l : List Int) : (l.map fun k => 1 + (k.natAbs : Int)).sum = ((l.map fun k => 1 + k.natAbs).sum : Nat) := by
  induction l with
  | nil => rfl
  | cons k l ih => rw [List.map_cons, List.sum_cons, ih, List.map_cons, List.sum_cons]; omega
/-- letter * |k| -/
theorem rep_ok {k : Int} (h : k.natAbs ≤ 400) : oMul (.str (st [if k > 0 then 116 else 84])) (.int (k.natAbs : Int)) = some (.str (st (sh k))) := by
  have h1 : (1000 : Nat) ≤ big := by decide
  have h5 : k.natAbs ≤ big := by omega
  have h6 : (k.natAbs : Int) ≤ (big : Int) := by omega
  have e := st_rep [if k > 0 then 116 else 84] k.natAbs
  have e2 : (List.replicate k.natAbs [if k > 0 then 116 else 84]).flatten = sh k := by simp [sh]
  rw [e2] at e
  simp only [oMul, oMulI, oMulL, oMulS, Option.none_or, st_len, List.length_singleton, Nat.one_mul, Int.toNat_natCast]
  rw [if_pos ⟨h5, by omega, h6⟩, e]
theorem word_loop {e0 e1 e2 e3 e6 e7 e8 e9 : Option Ent} {s : PS} : ∀ (ks : List Int) (w : List Nat) (x : Option Ent), w.length + (ks.map fun k => 1 + k.natAbs).sum ≤ 400 →
    ∃ y, forGo (gNm 5) (sSet 4 (fBin oAdd (fBin oAdd (fVar 4) (fC (.str "j"))) (fBin oMul (fIf (fTest (fBin oGt (fVar 5) (fC (.int 0)))) (fC (.str "t")) (fC (.str "T"))) (fCallB oAbs (fCons (fVar 5) (fNil)))))) (iL ks) [e0, e1, e2, e3, some (.val (.str (st w))), x, e6, e7, e8, e9] s =
      .nx [e0, e1, e2, e3, some (.val (.str (st (w ++ (ks.map fun k => 106 :: sh k).flatten)))), y, e6, e7, e8, e9] s
  | [], w, x, _ => ⟨x, by simp [iL, forGo]⟩
  | k :: ks, w, x, h => by
    rw [List.map_cons, List.sum_cons] at h
    obtain ⟨y, hy⟩ := word_loop (e0 := e0) (e1 := e1) (e2 := e2) (e3 := e3) (e6 := e6) (e7 := e7) (e8 := e8) (e9 := e9) (s := s) ks (w ++ 106 :: sh k) (some (.val (.int k))) (by simp [sh_len]; omega)
    refine ⟨y, ?_⟩
    have h1 : (1000 : Nat) ≤ big := by decide
    have hr := rep_ok (k := k) (by omega)
    have hj : (Str.ofString "j") = st [106] := rfl
    have ha1 : oAdd (.str (st w)) (.str (Str.ofString "j")) = some (.str (st (w ++ [106]))) := by
      rw [hj]
      simp only [oAdd, oAddI, oAddS, Option.none_or, st_len, List.length_singleton]
      rw [if_pos (by omega), st_app]
      rfl
    have ha2 : oAdd (.str (st (w ++ [106]))) (.str (st (sh k))) = some (.str (st (w ++ 106 :: sh k))) := by
      simp only [oAdd, oAddI, oAddS, Option.none_or, st_len, sh_len, List.length_append, List.length_singleton]
      rw [if_pos (by omega), st_app]
      simp
    have hb : (sSet 4 (fBin oAdd (fBin oAdd (fVar 4) (fC (.str "j"))) (fBin oMul (fIf (fTest (fBin oGt (fVar 5) (fC (.int 0)))) (fC (.str "t")) (fC (.str "T"))) (fCallB oAbs (fCons (fVar 5) (fNil)))))) [e0, e1, e2, e3, some (.val (.str (st w))), some (.val (.int k)), e6, e7, e8, e9] s =
        .nx [e0, e1, e2, e3, some (.val (.str (st (w ++ 106 :: sh k)))), some (.val (.int k)), e6, e7, e8, e9] s := by
      have ht : (Str.ofString "t") = st [116] := rfl
      have hT : (Str.ofString "T") = st [84] := rfl
      by_cases hk : k > 0
      · rw [if_pos hk] at hr
        simp [-oAdd, -oMul, ha1, hk, abs_eq, ht, hr, ha2]
      · rw [if_neg hk] at hr
        have hk' : ¬ 0 < k := hk
        simp [-oAdd, -oMul, ha1, hk', abs_eq, hT, hr, ha2]
    show forGo _ _ (PV.int k :: iL ks) _ _ = _
    rw [forGo]
    simp only [gNm, List.set_cons_succ, List.set_cons_zero]
    rw [hb]
    simp only []
    rw [hy]
    simp [List.append_assoc]
theorem cnt_stmt {v0 v1 v4 y e7 e8 e9 : Option Ent} {P A z : Int} {fc : FE} {s : PS} (h : fc [v0, v1, some (.val (.int P)), none, v4, y, some (.val (.int A)), e7, e8, e9] s = .val (.int z) s) :
    sSet 3 (fBin oAdd (fBin oAdd (fCallB oAbs (fCons (fVar 2) (fNil))) (fIf (fTest (fBin oEq (fVar 6) (fUn oNeg (fC (.int 1))))) (fC (.int 2)) (fC (.int 0)))) fc) [v0, v1, some (.val (.int P)), none, v4, y, some (.val (.int A)), e7, e8, e9] s =
      .nx [v0, v1, some (.val (.int P)), some (.val (.int ((P.natAbs : Int) + (if A = -1 then 2 else 0) + z))), v4, y, some (.val (.int A)), e7, e8, e9] s := by
  have hf : (fIf (fTest (fBin oEq (fVar 6) (fUn oNeg (fC (.int 1))))) (fC (.int 2)) (fC (.int 0))) [v0, v1, some (.val (.int P)), none, v4, y, some (.val (.int A)), e7, e8, e9] s = .val (.int (if A = -1 then 2 else 0)) s := by
    by_cases hA : A = -1
    · simp [hA]
    · simp [hA]
  have ha : (fCallB oAbs (fCons (fVar 2) (fNil))) [v0, v1, some (.val (.int P)), none, v4, y, some (.val (.int A)), e7, e8, e9] s = .val (.int (P.natAbs : Int)) s := by
    simp [abs_eq]
  simp only [sSet, fBin, ha, hf, h, R.bind, oAdd, oAddI, Option.some_or, ofO, R.out]
  rfl
theorem sum_expr {v0 v2 v3 v4 y e6 e7 e8 e9 : Option Ent} {ks : List Int} {s : PS} (hl : ks.length ≤ big) :
    (fCallB oSum (fCons (fComp (fIt (fVar 1)) (gNm 5) [5] (fYes) (fBin oAdd (fC (.int 1)) (fCallB oAbs (fCons (fVar 5) (fNil))))) (fNil))) [v0, some (.val (.lst (iL ks))), v2, v3, v4, y, e6, e7, e8, e9] s = .val (.int ((ks.map fun k => 1 + k.natAbs).sum : Nat)) s := by
  have hc := compGo_int (g := gNm 5) (f := fBin oAdd (fC (.int 1)) (fCallB oAbs (fCons (fVar 5) (fNil)))) (ρ := [v0, some (.val (.lst (iL ks))), v2, v3, v4, none, e6, e7, e8, e9]) (s := s) (fun k => PV.int (1 + (k.natAbs : Int))) ks fun k hk => ⟨_, rfl, by simp [abs_eq]⟩
  have hi := intsOf_i (fun k => 1 + (k.natAbs : Int)) ks
  have hs := sum_i ks
  show R.bind (R.bind (R.bind (compGo _ _ _ [v0, some (.val (.lst (iL ks))), v2, v3, v4, none, e6, e7, e8, e9] (iL ks) s) _) _) _ = _
  rw [hc]
  have hl2 : ((ks.map fun k => PV.int (1 + (k.natAbs : Int)))).length ≤ big := by rw [List.length_map]; exact hl
  simp only [R.bind, if_pos hl2, fNil, oSum, hi, Option.map_some, ofO, hs]
theorem word_stmt {v0 v1 v3 y e7 e8 e9 : Option Ent} {P A : Int} {s : PS} (h : P.natAbs ≤ 400) :
    sSet 4 (fBin oAdd (fIf (fTest (fBin oEq (fVar 6) (fUn oNeg (fC (.int 1))))) (fC (.str "jj")) (fC (.str ""))) (fBin oMul (fIf (fTest (fBin oGt (fVar 2) (fC (.int 0)))) (fC (.str "t")) (fC (.str "T"))) (fCallB oAbs (fCons (fVar 2) (fNil))))) [v0, v1, some (.val (.int P)), v3, none, y, some (.val (.int A)), e7, e8, e9] s =
      .nx [v0, v1, some (.val (.int P)), v3, some (.val (.str (st ((if A = -1 then [106, 106] else []) ++ sh P)))), y, some (.val (.int A)), e7, e8, e9] s := by
  have h1 : (1000 : Nat) ≤ big := by decide
  have hf : (fIf (fTest (fBin oEq (fVar 6) (fUn oNeg (fC (.int 1))))) (fC (.str "jj")) (fC (.str ""))) [v0, v1, some (.val (.int P)), v3, none, y, some (.val (.int A)), e7, e8, e9] s = .val (.str (st (if A = -1 then [106, 106] else []))) s := by
    by_cases hA : A = -1
    · simp [hA]
      rfl
    · simp [hA]
      rfl
  have hg : (fIf (fTest (fBin oGt (fVar 2) (fC (.int 0)))) (fC (.str "t")) (fC (.str "T"))) [v0, v1, some (.val (.int P)), v3, none, y, some (.val (.int A)), e7, e8, e9] s = .val (.str (st [if P > 0 then 116 else 84])) s := by
    by_cases hA : P > 0
    · have hA' : 0 < P := hA
      simp [hA']
      rfl
    · have hA' : ¬ 0 < P := hA
      simp [hA']
      rfl
  have ha : (fCallB oAbs (fCons (fVar 2) (fNil))) [v0, v1, some (.val (.int P)), v3, none, y, some (.val (.int A)), e7, e8, e9] s = .val (.int (P.natAbs : Int)) s := by
    simp [abs_eq]
  have hr := rep_ok h
  have ha2 : oAdd (.str (st (if A = -1 then [106, 106] else []))) (.str (st (sh P))) = some (.str (st ((if A = -1 then [106, 106] else []) ++ sh P))) := by
    simp only [oAdd, oAddI, oAddS, Option.none_or, st_len, sh_len]
    rw [if_pos, st_app]
    · rfl
    · split <;> simp <;> omega
  have hm : (fBin oMul (fIf (fTest (fBin oGt (fVar 2) (fC (.int 0)))) (fC (.str "t")) (fC (.str "T"))) (fCallB oAbs (fCons (fVar 2) (fNil)))) [v0, v1, some (.val (.int P)), v3, none, y, some (.val (.int A)), e7, e8, e9] s = .val (.str (st (sh P))) s := by
    show R.bind ((fIf _ _ _) _ _) _ = _
    rw [hg]
    simp only [R.bind]
    rw [ha]
    show ofO (oMul _ _) s = _
    rw [hr]
    rfl
  show R.out (R.bind ((fIf _ _ _) _ _) _) _ _ = _
  rw [hf]
  simp only [R.bind]
  rw [hm]
  show R.out (ofO (oAdd _ _) s) _ _ = _
  rw [ha2]
  rfl
theorem law_told_ok {m : Mx} {s : PS} {N : Nat} (hN : 1 ≤ N) (hN2 : N ≤ most) (hb : Bd N m) (hl : (notes N m).1.length < big) :
    m__law_told [tp m] s = if cnt (notes N m) ≤ 400 then .val (.tup [.int (cnt (notes N m) : Int), .str (st (wordOf (notes N m)))]) s else .val (.tup [.int (cnt (notes N m) : Int), .non]) s := by
  obtain ⟨y, hy⟩ := told_loop (v := some (.val (tp m))) (s := s) hN hN2 N fuel m [] none hb hb.c (Nat.lt_of_le_of_lt hN2 fuel_ge) (by simpa using hl)
  have hnb := notes_bd hN N m hb
  simp only [List.nil_append] at hy
  generalize hp : notes N m = p at *
  obtain ⟨ks, e⟩ := p
  simp only at hy hl hnb
  have b2 : 2 ≤ big := by decide
  have h1 : (1000 : Nat) ≤ big := by decide
  have hl' : ks.length ≤ big := Nat.le_of_lt hl
  have e0 : sAsg (fVar 0) (gTp 4 (gCn (gNm 6) (gCn (gNm 7) (gCn (gNm 8) (gCn (gNm 9) gNl))))) (startE 10 [tp m]) s = .nx [some (.val (tp m)), none, none, none, none, none, some (.val (.int m.a)), some (.val (.int m.b)), some (.val (.int m.c)), some (.val (.int m.d))] s := by
    simp [tp]
  have e1 : sOwn 1 (lLst fNil) [some (.val (tp m)), none, none, none, none, none, some (.val (.int m.a)), some (.val (.int m.b)), some (.val (.int m.c)), some (.val (.int m.d))] s = .nx (lEnv (some (.val (tp m))) [] m none) s := by
    simp [lEnv, iL]
  have e3 : sSet 2 (fBin oMul (fVar 6) (fVar 7)) (lEnv (some (.val (tp m))) ks e y) s = .nx [some (.val (tp m)), some (.own (iL ks)), some (.val (.int (e.a * e.b))), none, none, y, some (.val (.int e.a)), some (.val (.int e.b)), some (.val (.int e.c)), some (.val (.int e.d))] s := by
    simp [lEnv, sm1000 (Nat.le_succ_of_le hnb.a) hN2, sm1000 (Nat.le_succ_of_le hnb.b) hN2]
  have ec : ((e.a * e.b).natAbs : Int) + (if e.a = -1 then 2 else 0) + ((ks.map fun k => 1 + k.natAbs).sum : Nat) = (cnt (ks, e) : Int) := by
    unfold cnt
    split <;> simp
  have e4 := cnt_stmt (v0 := some (.val (tp m))) (v1 := some (.val (.lst (iL ks)))) (v4 := none) (y := y) (P := e.a * e.b) (A := e.a) (e7 := some (.val (.int e.b))) (e8 := some (.val (.int e.c))) (e9 := some (.val (.int e.d))) (s := s) (sum_expr hl')
  rw [ec] at e4
  unfold m__law_told b__law_told
  show (sSeq _ (sSeq _ (sSeq (sWhile fuel lCond lBody) (sSeq _ (sFreeze 1 (sSeq _ (sSeq _ (sSeq _ (sSeq _ _))))))))  (startE 10 [tp m]) s).ret = _
  unfold sSeq
  rw [e0]
  simp only [Out.seq]
  rw [e1]
  simp only [Out.seq, sWhile]
  rw [hy]
  simp only [Out.seq]
  rw [e3]
  simp only [Out.seq, sFreeze, List.getElem?_cons_succ, List.getElem?_cons_zero, List.set_cons_succ, List.set_cons_zero]
  rw [e4]
  simp only [Out.seq]
  by_cases hz : cnt (ks, e) ≤ 400
  · have hz' : ¬ (400 : Int) < (cnt (ks, e) : Int) := by omega
    have hP : (e.a * e.b).natAbs ≤ 400 := by
      unfold cnt at hz
      simp only at hz
      omega
    have e6 := word_stmt (v0 := some (.val (tp m))) (v1 := some (.val (.lst (iL ks)))) (v3 := some (.val (.int (cnt (ks, e) : Int)))) (y := y) (P := e.a * e.b) (A := e.a) (e7 := some (.val (.int e.b))) (e8 := some (.val (.int e.c))) (e9 := some (.val (.int e.d))) (s := s) hP
    obtain ⟨y2, e7⟩ := word_loop (e0 := some (.val (tp m))) (e1 := some (.val (.lst (iL ks)))) (e2 := some (.val (.int (e.a * e.b)))) (e3 := some (.val (.int (cnt (ks, e) : Int)))) (e6 := some (.val (.int e.a))) (e7 := some (.val (.int e.b))) (e8 := some (.val (.int e.c))) (e9 := some (.val (.int e.d))) (s := s) ks.reverse ((if e.a = -1 then [106, 106] else []) ++ sh (e.a * e.b)) y (by
      have := hz
      unfold cnt at this
      simp only at this
      rw [List.map_reverse, List.sum_reverse, List.length_append, sh_len]
      split <;> (rename_i hh; simp [hh] at this ⊢; omega))
    have e5 : ∀ (ρ : PF.Env), ρ[3]? = some (some (.val (.int (cnt (ks, e) : Int)))) → sIf (fTest (fBin oGt (fVar 3) (fC (.int 400)))) (sRet (fTup (fCons (fVar 3) (fCons (fC .non) (fNil))))) (sNil) ρ s = .nx ρ s := fun ρ hρ => by
      simp [hρ, hz']
    rw [e5 _ rfl]
    simp only []
    rw [e6]
    have e8 : (iL ks).reverse = iL ks.reverse := by simp [iL]
    simp only [sFor, fIt, fUn, fVar, List.getElem?_cons_succ, List.getElem?_cons_zero, R.bind, oRev, ofO, oIt, R.out, e8]
    rw [e7]
    rw [if_pos hz]
    simp [b2, wordOf]
  · have hz' : (400 : Int) < (cnt (ks, e) : Int) := by omega
    simp [hz', b2, hz]
end M38
set_option Elab.async false
set_option linter.all false
set_option maxRecDepth 100000
set_option maxHeartbeats 1000000
namespace M38
/-! ### how many notes: by Euclid's way of taking away -/
def eu (x y : Nat) : Nat := if h : x = 0 ∨ y = 0 then 0 else if x ≥ y then 1 + eu (x - y) y else 1 + eu x (y - x)
termination_by x + y
decreasing_by all_goals omega
theorem eu_0l (y : Nat) : eu 0 y = 0 := by rw [eu]; simp
theorem eu_0r (x : Nat) : eu x 0 = 0 := by rw [eu]; simp
theorem eu_l {x y : Nat} (hy : 0 < y) : eu (x + y) y = 1 + eu x y := by
  rw [eu, dif_neg (by omega), if_pos (by omega), Nat.add_sub_cancel]
theorem eu_r {x y : Nat} (hx : 0 < x) : eu x (x + y) = 1 + eu x y := by
  by_cases h : y = 0
  · subst h
    have := eu_l (x := 0) hx
    rw [Nat.zero_add] at this
    rw [Nat.add_zero, this, eu_0l, eu_0r]
  · rw [eu, dif_neg (by omega), if_neg (by omega), Nat.add_sub_cancel_left]
theorem eu_symm (x y : Nat) : eu x y = eu y x := by
  generalize hn : x + y = n
  induction n using Nat.strongRecOn generalizing x y with
  | _ n ih =>
    by_cases h0 : x = 0
    · subst h0
      rw [eu_0l, eu_0r]
    · by_cases h1 : y = 0
      · subst h1
        rw [eu_0l, eu_0r]
      · by_cases h : x ≥ y
        · obtain ⟨z, rfl⟩ : ∃ z, x = z + y := ⟨x - y, by omega⟩
          rw [eu_l (by omega), Nat.add_comm z y, eu_r (by omega), ih (z + y) (by omega) z y rfl]
        · obtain ⟨z, rfl⟩ : ∃ z, y = x + z := ⟨y - x, by omega⟩
          rw [eu_r (by omega), Nat.add_comm x z, eu_l (by omega), ih (x + z) (by omega) x z rfl]
theorem eu_sub {x y : Nat} : eu (if x ≥ y then x - y else y - x) y ≤ eu x y + 1 := by
  by_cases h : x ≥ y
  · rw [if_pos h]
    by_cases h1 : y = 0
    · subst h1
      rw [eu_0r]
      omega
    · obtain ⟨z, rfl⟩ : ∃ z, x = z + y := ⟨x - y, by omega⟩
      rw [eu_l (by omega), Nat.add_sub_cancel]
      omega
  · rw [if_neg h]
    by_cases h0 : x = 0
    · subst h0
      rw [Nat.sub_zero]
      have := eu_l (x := 0) (y := y) (by omega)
      rw [Nat.zero_add, eu_0l] at this
      omega
    · obtain ⟨z, rfl⟩ : ∃ z, y = x + z := ⟨y - x, by omega⟩
      rw [Nat.add_sub_cancel_left, eu_r (by omega), Nat.add_comm x z, eu_r (by omega), eu_symm z x]
      omega
theorem eu_add {x y : Nat} : eu (x + y) y ≤ eu x y + 1 := by
  by_cases h : y = 0
  · subst h
    rw [eu_0r]
    omega
  · rw [eu_l (by omega)]
    omega
theorem eu_int (a c : Int) : eu (a + c).natAbs c.natAbs ≤ eu a.natAbs c.natAbs + 1 := by
  have h : (a + c).natAbs = a.natAbs + c.natAbs ∨ (a + c).natAbs = (if a.natAbs ≥ c.natAbs then a.natAbs - c.natAbs else c.natAbs - a.natAbs) := by
    split <;> omega
  rcases h with h | h
  · rw [h]; exact eu_add
  · rw [h]; exact eu_sub
theorem eu_int' (a c : Int) : eu (a - c).natAbs c.natAbs ≤ eu a.natAbs c.natAbs + 1 := by
  have := eu_int a (-c)
  rw [Int.natAbs_neg] at this
  exact this
def eM (m : Mx) : Nat := eu m.a.natAbs m.c.natAbs
theorem eM_letter {c : Nat} {m : Mx} (h : isL c) : eM (mul (mL c) m) ≤ eM m + 1 := by
  unfold eM
  obtain ⟨a, b, c', d⟩ := m
  rcases h with rfl | rfl | rfl | rfl | rfl | rfl <;> simp [mul, mL]
  · exact eu_int a c'
  · have := eu_int' a c'
    rw [Int.sub_eq_add_neg] at this
    exact this
  · have := eu_int c' a
    rw [eu_symm, eu_symm c'.natAbs, Int.add_comm] at this
    exact this
  · have := eu_int' c' a
    rw [eu_symm, eu_symm c'.natAbs, Int.sub_eq_add_neg, Int.add_comm] at this
    exact this
  · rw [eu_symm]
    omega
  · rw [eu_symm]
    omega
theorem eM_word : ∀ (l : List Nat) (m : Mx), W l → eM (matF m l) ≤ eM m + l.length
  | [], m, _ => Nat.le_refl _
  | c :: l, m, h => by
    have h1 := eM_letter (m := m) (h c List.mem_cons_self)
    have h2 := eM_word l (mul (mL c) m) fun x hx => h x (List.mem_cons_of_mem _ hx)
    rw [List.length_cons]
    show eM (matF (mul (mL c) m) l) ≤ _
    omega
theorem eM_matOf {l : List Nat} (h : W l) : eM (matOf l) ≤ l.length := by
  have := eM_word l one h
  have e : eM one = 0 := eu_0r 1
  unfold matOf
  omega
/-- the remainder, by its size -/
theorem fmod_abs (a c : Int) (h : c ≠ 0) : (a.fmod c).natAbs = a.natAbs % c.natAbs ∨ (0 < a.natAbs % c.natAbs ∧ (a.fmod c).natAbs = c.natAbs - a.natAbs % c.natAbs) := by
  have pos : ∀ (a c : Int), 0 < c → (a.fmod c).natAbs = a.natAbs % c.natAbs ∨ (0 < a.natAbs % c.natAbs ∧ (a.fmod c).natAbs = c.natAbs - a.natAbs % c.natAbs) := fun a c hc => by
    obtain ⟨y, rfl⟩ : ∃ y : Nat, c = y := ⟨c.natAbs, by omega⟩
    rw [Int.fmod_eq_emod_of_nonneg _ (by omega), Int.natAbs_natCast]
    have hy : 0 < y := by omega
    rcases Int.le_total 0 a with ha | ha
    · obtain ⟨x, rfl⟩ : ∃ x : Nat, a = x := ⟨a.natAbs, by omega⟩
      left
      rw [← Int.natCast_emod, Int.natAbs_natCast, Int.natAbs_natCast]
    · obtain ⟨x, rfl⟩ : ∃ x : Nat, a = -(x : Int) := ⟨a.natAbs, by omega⟩
      rw [Int.natAbs_neg, Int.natAbs_natCast]
      have hx := Nat.div_add_mod x y
      have hr := Nat.mod_lt x hy
      generalize x % y = r at *
      generalize x / y = q at *
      by_cases h0 : r = 0
      · left
        subst h0
        have : (-(x : Int)) = (y : Int) * (-(q : Int)) := by
          rw [← hx, Int.mul_neg]
          simp
        rw [this, Int.mul_emod_right]
        rfl
      · right
        refine ⟨by omega, ?_⟩
        have : (-(x : Int)) = ((y - r : Nat) : Int) + (y : Int) * (-((q : Int) + 1)) := by
          rw [← hx, Int.mul_neg, Int.mul_add]
          have : ((y - r : Nat) : Int) = (y : Int) - r := by omega
          rw [this]
          simp
          omega
        rw [this, Int.add_mul_emod_self_left, Int.emod_eq_of_lt (by omega) (by omega), Int.natAbs_natCast]
  rcases Int.lt_or_gt_of_ne h with h | h
  · have := pos (-a) (-c) (by omega)
    rw [Int.neg_fmod_neg, Int.natAbs_neg, Int.natAbs_neg, Int.natAbs_neg] at this
    exact this
  · exact pos a c h
theorem eu_div {y : Nat} (hy : 0 < y) (x : Nat) : eu x y = x / y + eu (x % y) y := by
  induction x using Nat.strongRecOn with
  | _ x ih =>
    by_cases h : x < y
    · rw [Nat.div_eq_of_lt h, Nat.mod_eq_of_lt h, Nat.zero_add]
    · obtain ⟨z, rfl⟩ : ∃ z, x = z + y := ⟨x - y, by omega⟩
      rw [eu_l hy, ih z (by omega), Nat.add_div_right _ hy, Nat.add_mod_right]
      omega
theorem eM_nx {m : Mx} (h : m.c ≠ 0) : eM (nx m) + m.a.natAbs / m.c.natAbs = eM m := by
  have e : (nx m).c = -(m.a.fmod m.c) := by
    show m.a.fdiv m.c * m.c - m.a = _
    have := Int.fmod_add_mul_fdiv m.a m.c
    rw [Int.mul_comm] at this
    omega
  have hy : 0 < m.c.natAbs := Int.natAbs_pos.mpr h
  unfold eM
  rw [e, Int.natAbs_neg]
  show eu m.c.natAbs (m.a.fmod m.c).natAbs + _ = _
  rw [eu_div hy m.a.natAbs]
  have hr := Nat.mod_lt m.a.natAbs hy
  rcases fmod_abs m.a m.c h with q | ⟨q0, q⟩
  · rw [q, eu_symm]
    omega
  · rw [q]
    generalize m.a.natAbs % m.c.natAbs = r at *
    obtain ⟨z, hz⟩ : ∃ z, m.c.natAbs = z + r := ⟨m.c.natAbs - r, by omega⟩
    rw [hz]
    have e1 : z + r - r = z := by omega
    rw [e1]
    have e2 : eu (z + r) z = 1 + eu r z := by
      rw [Nat.add_comm, eu_l (by omega)]
    have e3 : eu r (z + r) = 1 + eu r z := by
      rw [Nat.add_comm, eu_r (by omega)]
    rw [e2, e3]
    omega
theorem notes_eM : ∀ (n : Nat) (m : Mx), (m.c = 0 ∨ m.c.natAbs ≤ m.a.natAbs) → (notes n m).1.length ≤ eM m
  | 0, m, _ => Nat.zero_le _
  | n + 1, m, h => by
    rw [notes]
    split
    · exact Nat.zero_le _
    · rename_i hc
      have h' : m.c.natAbs ≤ m.a.natAbs := h.resolve_left hc
      have hy : 0 < m.c.natAbs := Int.natAbs_pos.mpr hc
      have e := eM_nx hc
      have hq : 1 ≤ m.a.natAbs / m.c.natAbs := Nat.div_pos h' hy
      have hcc := nx_c m hc
      have ih := notes_eM n (nx m) (.inr (Nat.le_of_lt hcc))
      rw [List.length_cons]
      omega
theorem notes_short (n : Nat) (m : Mx) : (notes n m).1.length ≤ eM m + 1 := by
  cases n with
  | zero => exact Nat.zero_le _
  | succ n =>
    rw [notes]
    split
    · exact Nat.zero_le _
    · rename_i hc
      have e := eM_nx hc
      have hcc := nx_c m hc
      have ih := notes_eM n (nx m) (.inr (Nat.le_of_lt hcc))
      rw [List.length_cons]
      generalize m.a.natAbs / m.c.natAbs = q at e
      omega
/-! ### determinants -/
theorem det_mul (x y : Mx) : det (mul x y) = det x * det y := by
  simp only [det, mul]
  simp only [Int.add_mul, Int.mul_add, Int.sub_mul, Int.mul_sub]
  have e1 : x.a * y.a * (x.c * y.b) = x.a * y.b * (x.c * y.a) := by ac_rfl
  have e2 : x.b * y.c * (x.d * y.d) = x.b * y.d * (x.d * y.c) := by ac_rfl
  have e3 : x.a * y.a * (x.d * y.d) = x.a * x.d * (y.a * y.d) := by ac_rfl
  have e4 : x.b * y.c * (x.c * y.b) = x.b * x.c * (y.b * y.c) := by ac_rfl
  have e5 : x.a * y.b * (x.d * y.c) = x.a * x.d * (y.b * y.c) := by ac_rfl
  have e6 : x.b * y.d * (x.c * y.a) = x.b * x.c * (y.a * y.d) := by ac_rfl
  omega
theorem det_word : ∀ l : List Nat, W l → det (matOf l) = 1
  | [], _ => rfl
  | c :: l, h => by
    rw [matOf_cons, det_mul, det_word l fun x hx => h x (List.mem_cons_of_mem _ hx)]
    rcases h c List.mem_cons_self with rfl | rfl | rfl | rfl | rfl | rfl <;> rfl
theorem good_word {l : List Nat} (h : W l) (hl : l.length ≤ 99) : Good (matOf l) := by
  have k := matOf_le h
  have p : 2 ^ l.length < most := Nat.lt_of_le_of_lt (Nat.pow_le_pow_right (by decide) hl) (by unfold most; decide)
  exact ⟨det_word l h, Nat.lt_of_le_of_lt k.a p, Nat.lt_of_le_of_lt k.b p, Nat.lt_of_le_of_lt k.c p, Nat.lt_of_le_of_lt k.d p⟩
end M38
set_option Elab.async false
set_option linter.all false
set_option maxRecDepth 100000
set_option maxHeartbeats 1000000
namespace M38
open PySem PF W38

@[simp high] theorem oEq_tp (x y : Mx) : oEq (tp x) (tp y) = some (.bl (decide (x = y))) := by
  have : oEqS (tp x) (tp y) = none := rfl
  simp only [oEq, this, Option.none_or, oEqD, shaped_tp, and_self, if_true, eqv_tp]
@[simp high] theorem oNe_tp (x y : Mx) : oNe (tp x) (tp y) = some (.bl (!decide (x = y))) := by
  have : oNeS (tp x) (tp y) = none := rfl
  simp only [oNe, this, Option.none_or, oNeD, shaped_tp, and_self, if_true, eqv_tp]
theorem oEq_int (i j : Int) : oEq (.int i) (.int j) = some (.bl (decide (i = j))) := by
  have : oEqS (.int i) (.int j) = none := rfl
  simp only [oEq, this, Option.none_or, oEqD, shaped_int, and_self, if_true, eqv_int]
theorem oNe_int (i j : Int) : oNe (.int i) (.int j) = some (.bl (!decide (i = j))) := by
  have : oNeS (.int i) (.int j) = none := rfl
  simp only [oNe, this, Option.none_or, oNeD, shaped_int, and_self, if_true, eqv_int]
theorem oEq_str (i j : Str) : oEq (.str i) (.str j) = some (.bl (decide (i = j))) := rfl
theorem oNe_str (i j : Str) : oNe (.str i) (.str j) = some (.bl (!decide (i = j))) := rfl
theorem heard_told {tl : PS → R PV} {s s' : PS} {v : PV} (h : tl s = .val v s') : m__law_heard tl s = .val (.lst [.str "told", v]) s' := by
  have b1 : 1 ≤ big := by decide
  have b2 : 2 ≤ big := by decide
  simp [m__law_heard, b__law_heard, h, b1, b2]
theorem heard_many {tl : PS → R PV} {s : PS} (h : tl s = .exc "TooMany" [("limit", .int 400), ("what", .str "letters")] s) : m__law_heard tl s = .val (.lst [.str "letters", .int 400, .bl true]) s := by
  have b1 : 1 ≤ big := by decide
  have b2 : 2 ≤ big := by decide
  have b3 : 3 ≤ big := by decide
  have l1 : is_TooMany.lookup (Str.ofString "TooMany") = some true := rfl
  have l2 : is_LimitError.lookup (Str.ofString "TooMany") = some true := rfl
  have l3 : ([(Str.ofString "limit", PV.int 400), (Str.ofString "what", PV.str (Str.ofString "letters"))]).lookup (Str.ofString "what") = some (.str "letters") := rfl
  have l4 : ([(Str.ofString "limit", PV.int 400), (Str.ofString "what", PV.str (Str.ofString "letters"))]).lookup (Str.ofString "limit") = some (.int 400) := rfl
  simp [m__law_heard, b__law_heard, h, b1, b3, tryGo, l1, l2, l3, l4]
theorem heard_moves {tl : PS → R PV} {s : PS} {v : PV} {z : Str} (h : tl s = .exc "InvalidMoves" [("value", v)] s) (hr : oRepr [v] = some (.str z)) : m__law_heard tl s = .val (.lst [.str "moves", .str z, .bl true]) s := by
  have b1 : 1 ≤ big := by decide
  have b3 : 3 ≤ big := by decide
  have l1 : is_TooMany.lookup (Str.ofString "InvalidMoves") = some false := rfl
  have l1' : is_InvalidMoves.lookup (Str.ofString "InvalidMoves") = some true := rfl
  have l2 : is_FloorError.lookup (Str.ofString "InvalidMoves") = some true := rfl
  have l3 : ([(Str.ofString "value", v)]).lookup (Str.ofString "value") = some v := by simp [List.lookup]
  simp [m__law_heard, b__law_heard, h, b1, b3, tryGo, l1, l1', l2, l3, hr, -oRepr]
/-! ### repr of what is heard -/
theorem strOk_st {l : List Nat} (h : W l) : PyData.strOk (st l) = true := by
  unfold PyData.strOk st
  simp only [List.all_toArray, List.all_eq_true, decide_eq_true_eq]
  intro c hc
  rcases h c hc with rfl | rfl | rfl | rfl | rfl | rfl <;> decide
theorem repr_of {x : PV} {n : Nat} (h : rw x = some n) (hn : n ≤ big) (hs : shaped x = true) : oRepr [x] = some (.str (shown x)) := by
  simp only [oRepr, h, hn, hs, and_self, if_true]
/-- two texts of what was told, four in a row -/
theorem rw_heard {w : Str} {n : Nat} (hw : PyData.strOk w = true) (hl : w.length ≤ 400) (hn : n ≤ 400) : ∃ k, rw (.lst [.lst [.str "told", .str w], .lst [.str "told", .int (n : Int)], .lst [.str "told", .str w], .lst [.str "told", .int (n : Int)]]) = some k ∧ k ≤ big ∧ shaped (.lst [.lst [.str "told", .str w], .lst [.str "told", .int (n : Int)], .lst [.str "told", .str w], .lst [.str "told", .int (n : Int)]]) = true := by
  have h1 : ((n : Int)).natAbs < 2 ^ 1900 := Nat.lt_of_le_of_lt (show ((n : Int)).natAbs ≤ 400 by omega) (by decide)
  have h2 : PyData.strOk (Str.ofString "told") = true := by decide +kernel
  have h3 : (Str.ofString "told").length = 4 := by decide +kernel
  have hb : 100000 ≤ big := by decide
  refine ⟨_, by simp only [rw, rws, h1, h2, hw, if_true, Option.map_some]; rfl, ?_, ?_⟩
  · rw [h3]
    omega
  · simp [shaped, SeqAt.shaped, toD, toDs, PyData.canLay0, PyData.canLayAll0, PyData.depth, PyData.depthAll, h2, hw]
theorem rw_letters : ∃ k, rw (.lst [.lst [.str "letters", .int 400, .bl true], .lst [.str "letters", .int 400, .bl true], .lst [.str "letters", .int 400, .bl true], .lst [.str "letters", .int 400, .bl true]]) = some k ∧ k ≤ big ∧ shaped (.lst [.lst [.str "letters", .int 400, .bl true], .lst [.str "letters", .int 400, .bl true], .lst [.str "letters", .int 400, .bl true], .lst [.str "letters", .int 400, .bl true]]) = true := by
  have h1 : ((400 : Int)).natAbs < 2 ^ 1900 := by decide +kernel
  have h2 : PyData.strOk (Str.ofString "letters") = true := by decide +kernel
  have h3 : (Str.ofString "letters").length = 7 := by decide +kernel
  have hb : 100000 ≤ big := by decide
  refine ⟨_, by simp only [rw, rws, h1, h2, if_true, Option.map_some]; rfl, ?_, ?_⟩
  · rw [h3]
    omega
  · simp [shaped, SeqAt.shaped, toD, toDs, PyData.canLay0, PyData.canLayAll0, PyData.depth, PyData.depthAll, h2]
/-! ### a matrix is rightly told -/
theorem told_gt {m : Mx} {s : PS} {N : Nat} (hN : 1 ≤ N) (hN2 : N < most) (hb : Bd N m) (h : ¬ cnt (notes N m) ≤ 400) (fb : FE) (hf : ∀ (ρ : PF.Env), ρ[0]? = some (some (.val (tp m))) → fb ρ s = .exc "TooMany" [("limit", .int 400), ("what", .str "letters")] s) (ρ : PF.Env) (hρ : ρ[0]? = some (some (.val (tp m)))) :
    fHear m__law_heard fb ρ s = .val (.lst [.str "letters", .int 400, .bl true]) s := by
  refine heard_many (tl := fun p => fb (ρ.map valO) p) ?_
  exact hf _ (by rw [List.getElem?_map, hρ]; rfl)
theorem told_le {m : Mx} {s : PS} {v : PV} (fb : FE) (hf : ∀ (ρ : PF.Env), ρ[0]? = some (some (.val (tp m))) → fb ρ s = .val v s) (ρ : PF.Env) (hρ : ρ[0]? = some (some (.val (tp m)))) :
    fHear m__law_heard fb ρ s = .val (.lst [.str "told", v]) s := by
  refine heard_told (tl := fun p => fb (ρ.map valO) p) ?_
  exact hf _ (by rw [List.getElem?_map, hρ]; rfl)
theorem inv_turn : ∀ l : List Nat, W l → matOf (turn l) = inv (matOf l)
  | [], _ => rfl
  | c :: l, h => by
    have ih := inv_turn l fun x hx => h x (List.mem_cons_of_mem _ hx)
    have e : turn (c :: l) = turn l ++ [tL c] := by simp [turn]
    have hc : matOf [tL c] = inv (mL c) := by
      rcases h c List.mem_cons_self with rfl | rfl | rfl | rfl | rfl | rfl <;> rfl
    rw [e, matOf_app, hc, ih, matOf_cons]
    simp only [mul, inv, Mx.mk.injEq]
    refine ⟨?_, ?_, ?_, ?_⟩ <;> simp only [Int.mul_neg, Int.neg_mul, Int.neg_neg, Int.mul_comm] <;> omega
def bMR (g1 g2 g3 g4 : FE) : FS := sSeq (sAsg (fCall m__law_told (fCons (fVar 0) (fNil))) (gTp 2 (gCn (gNm 4) (gCn (gNm 5) (gNl))))) (sSeq (sSet 1 (fIf (fTest (fBin oIsNot (fVar 5) (fC .non))) (fLst (fCons (fLst (fCons (fC (.str "told")) (fCons (fVar 5) (fNil)))) (fCons (fLst (fCons (fC (.str "told")) (fCons (fVar 4) (fNil)))) (fNil)))) (fBin oMul (fLst (fCons (fLst (fCons (fC (.str "letters")) (fCons (fC (.int 400)) (fCons (fC (.bl true)) (fNil))))) (fNil))) (fC (.int 2))))) (sSeq (sOwn 2 (lLst (fCons g1 (fNil)))) (sSeq (sApp 2 g2) (sSeq (sApp 2 g3) (sSeq (sApp 2 g4) (sFreeze 2 (sSeq (sIf (fTest (fBin oNe (fCallB oRepr (fCons (fVar 2) (fNil))) (fCallB oRepr (fCons (fBin oAdd (fVar 1) (fVar 1)) (fNil))))) (sRet (fC (.bl false))) (sNil)) (sSeq (sIf (fTest (fBin oIs (fVar 5) (fC .non))) (sRet (fC (.bl true))) (sNil)) (sSeq (sSet 3 (fCall m__law_turned_moves (fCons (fVar 5) (fNil)))) (sSeq (sIf (fOrT (fTest (fBin oNe (fCall m__law_matrix_of (fCons (fVar 5) (fNil))) (fVar 0))) (fOrT (fTest (fBin oNe (fCall m_matrix_of (fCons (fVar 5) (fNil))) (fVar 0))) (fOrT (fTest (fBin oNe (fCallB oLen (fCons (fVar 5) (fNil))) (fVar 4))) (fNotT (fTest (fCall m_is_moves (fCons (fVar 5) (fNil)))))))) (sRet (fC (.bl false))) (sNil)) (sRet (fAndV (fBin oEq (fCall m_turned_moves (fCons (fVar 5) (fNil))) (fVar 3)) (fAndV (fBin oEq (fCall m_matrix_of (fCons (fVar 3) (fNil))) (fCall m_inverse (fCons (fVar 0) (fNil)))) (fBin oEq (fCall m_told_word (fCons (fCall m_matrix_of (fCons (fVar 5) (fNil))) (fNil))) (fVar 5)))))))))))))))
theorem bMR_eq : b__law_matrix_right = bMR (fHear m__law_heard (fCall m_told_word (fCons (fVar 0) (fNil)))) (fHear m__law_heard (fCall m_length (fCons (fVar 0) (fNil)))) (fHear m__law_heard (fCallK m_told_word [0] (fCons (fVar 0) (fNil)))) (fHear m__law_heard (fCallK m_length [0] (fCons (fVar 0) (fNil)))) := rfl
theorem mr_no {m : Mx} {s : PS} {g1 g2 g3 g4 : FE} {n : Nat} (ht : m__law_told [tp m] s = .val (.tup [.int (n : Int), .non]) s)
    (f1 : ∀ ρ : PF.Env, ρ[0]? = some (some (.val (tp m))) → g1 ρ s = .val (.lst [.str "letters", .int 400, .bl true]) s) (f2 : ∀ ρ : PF.Env, ρ[0]? = some (some (.val (tp m))) → g2 ρ s = .val (.lst [.str "letters", .int 400, .bl true]) s)
    (f3 : ∀ ρ : PF.Env, ρ[0]? = some (some (.val (tp m))) → g3 ρ s = .val (.lst [.str "letters", .int 400, .bl true]) s) (f4 : ∀ ρ : PF.Env, ρ[0]? = some (some (.val (tp m))) → g4 ρ s = .val (.lst [.str "letters", .int 400, .bl true]) s) :
    (bMR g1 g2 g3 g4 (startE 6 [tp m]) s).ret = .val (.bl true) s := by
  have b1 : 1 ≤ big := by decide
  have b2 : 2 ≤ big := by decide
  have b3 : 3 ≤ big := by decide
  have b4 := big4
  have c1 : 1 < big := by decide
  have c2 : 2 < big := by decide
  have c3 : 3 < big := by decide
  obtain ⟨k, r1, r2, r3⟩ := rw_letters
  have hr := repr_of r1 r2 r3
  simp [bMR, -oRepr, ht, b1, b2, b3, b4, c1, c2, c3, f1, f2, f3, f4, isNon, hr]
theorem mr_yes {m : Mx} {s : PS} {g1 g2 g3 g4 : FE} {w : List Nat} (hW : W w) (hl : w.length ≤ 400) (hm : matOf w = m) (hg : Good m) (ht : m__law_told [tp m] s = .val (.tup [.int (w.length : Int), .str (st w)]) s) (hw : m_told_word [tp m] s = .val (.str (st w)) s)
    (f1 : ∀ ρ : PF.Env, ρ[0]? = some (some (.val (tp m))) → g1 ρ s = .val (.lst [.str "told", .str (st w)]) s) (f2 : ∀ ρ : PF.Env, ρ[0]? = some (some (.val (tp m))) → g2 ρ s = .val (.lst [.str "told", .int (w.length : Int)]) s)
    (f3 : ∀ ρ : PF.Env, ρ[0]? = some (some (.val (tp m))) → g3 ρ s = .val (.lst [.str "told", .str (st w)]) s) (f4 : ∀ ρ : PF.Env, ρ[0]? = some (some (.val (tp m))) → g4 ρ s = .val (.lst [.str "told", .int (w.length : Int)]) s) :
    (bMR g1 g2 g3 g4 (startE 6 [tp m]) s).ret = .val (.bl true) s := by
  have b1 : 1 ≤ big := by decide
  have b2 : 2 ≤ big := by decide
  have b3 : 3 ≤ big := by decide
  have b4 := big4
  have c1 : 1 < big := by decide
  have c2 : 2 < big := by decide
  have c3 : 3 < big := by decide
  have h900 : w.length ≤ 900 := by omega
  have hb : w.length ≤ big := Nat.le_trans hl (by decide)
  obtain ⟨k, r1, r2, r3⟩ := rw_heard (strOk_st hW) (by rw [st_len]; exact hl) hl
  have hr := repr_of r1 r2 r3
  have e1 := law_turned_ok (s := s) hW h900
  have e2 := law_matrix_of_ok (s := s) hW h900
  have e3 := matrix_of_ok (s := s) hW hl
  have e4 := is_moves_ok (s := s) hW hl
  have e5 := turned_moves_ok (s := s) hW hl
  have e6 := matrix_of_ok (s := s) hW.turn (by rw [turn_len]; exact hl)
  have e7 := inverse_ok (s := s) hg
  rw [inv_turn w hW, hm] at e6
  rw [hm] at e2 e3
  simp [bMR, -oRepr, -oEq, -oNe, oEq_int, oNe_int, oEq_str, oNe_str, oEq_tp, oNe_tp, ht, b1, b2, b3, b4, c1, c2, c3, f1, f2, f3, f4, isNon, hr, e1, e2, e3, e4, e5, e6, e7, hw, hb]
theorem matrix_right_ok {m : Mx} {s : PS} {N : Nat} (hN : 1 ≤ N) (hN2 : N < most) (hb : Bd N m) (hl : (notes N m).1.length < big) : m__law_matrix_right [tp m] s = .val (.bl true) s := by
  have ht := law_told_ok (s := s) hN (Nat.le_of_lt hN2) hb hl
  have hw := told_word_ok (s := s) hN hN2 hb
  have hn := length_ok (s := s) hN hN2 hb
  show (b__law_matrix_right (startE 6 [tp m]) s).ret = _
  rw [bMR_eq]
  by_cases h : cnt (notes N m) ≤ 400
  · rw [if_pos h] at ht hw hn
    have hlen := wordOf_len (notes N m)
    rw [← hlen] at ht hn h
    have e := word_notes hN N m hb hb.c
    exact mr_yes (wordOf_W _) h e (hb.good hN2) ht hw
      (told_le (s := s) (fCall m_told_word (fCons (fVar 0) fNil)) fun ρ hρ => by simp [hρ, hw])
      (told_le (s := s) (fCall m_length (fCons (fVar 0) fNil)) fun ρ hρ => by simp [hρ, hn])
      (told_le (s := s) (fCallK m_told_word [0] (fCons (fVar 0) fNil)) fun ρ hρ => by simp [hρ, hw])
      (told_le (s := s) (fCallK m_length [0] (fCons (fVar 0) fNil)) fun ρ hρ => by simp [hρ, hn])
  · rw [if_neg h] at ht hw hn
    exact mr_no ht
      (told_gt (s := s) hN hN2 hb h (fCall m_told_word (fCons (fVar 0) fNil)) fun ρ hρ => by simp [hρ, hw])
      (told_gt (s := s) hN hN2 hb h (fCall m_length (fCons (fVar 0) fNil)) fun ρ hρ => by simp [hρ, hn])
      (told_gt (s := s) hN hN2 hb h (fCallK m_told_word [0] (fCons (fVar 0) fNil)) fun ρ hρ => by simp [hρ, hw])
      (told_gt (s := s) hN hN2 hb h (fCallK m_length [0] (fCons (fVar 0) fNil)) fun ρ hρ => by simp [hρ, hn])
end M38
set_option Elab.async false
set_option linter.all false
set_option maxRecDepth 100000
set_option maxHeartbeats 1000000
namespace M38
open PySem PF W38

/-! ### words -/
theorem rw_words {m : Mx} {w : List Nat} {k : Nat} (hm : Le (2 ^ 400) m) (hw : W w) (hl : w.length ≤ 400) : ∃ k, rw (.lst [tp m, tp m, .str (st w), .str (st w)]) = some k ∧ k ≤ big ∧ shaped (.lst [tp m, tp m, .str (st w), .str (st w)]) = true := by
  have l1 : 2 ^ 400 < 2 ^ 1900 := by decide +kernel
  have ha := Nat.lt_of_le_of_lt hm.a l1
  have hb := Nat.lt_of_le_of_lt hm.b l1
  have hc := Nat.lt_of_le_of_lt hm.c l1
  have hd := Nat.lt_of_le_of_lt hm.d l1
  have hbig : 100000 ≤ big := by decide
  have hs := strOk_st hw
  refine ⟨_, by simp only [tp, rw, rws, ha, hb, hc, hd, hs, if_true, Option.map_some]; rfl, ?_, ?_⟩
  · rw [st_len]
    omega
  · simp [tp, shaped, SeqAt.shaped, toD, toDs, PyData.canLay0, PyData.canLayAll0, PyData.depth, PyData.depthAll, hs]
theorem word_right_ok {w : List Nat} {s : PS} (hW : W w) (hl : w.length ≤ 400) (g1 : Good (matOf (w.drop (w.length / 2)))) (g2 : Good (matOf (w.take (w.length / 2)))) : m__law_word_right [.str (st w)] s = .val (.bl true) s := by
  have h900 : w.length ≤ 900 := by omega
  have hb : w.length ≤ big := Nat.le_trans hl (by decide)
  have b4 := big4
  have e1 := law_turned_ok (s := s) hW h900
  have e2 := law_matrix_of_ok (s := s) hW h900
  have e3 := matrix_of_ok (s := s) hW hl
  have e5 := turned_moves_ok (s := s) hW hl
  obtain ⟨k, r1, r2, r3⟩ := rw_words (k := 0) ((matOf_le hW).mono (pow_le hl)) hW.turn (by rw [turn_len]; exact hl)
  have hr := repr_of r1 r2 r3
  obtain ⟨cut, hcut⟩ : ∃ c, c = w.length / 2 := ⟨_, rfl⟩
  rw [← hcut] at g1 g2
  have hcl : cut ≤ w.length := by omega
  have hf : ((w.length : Int)).fdiv 2 = (cut : Int) := by
    rw [Int.fdiv_eq_ediv_of_nonneg _ (by decide)]
    omega
  have hs2 : Sm 2 := by decide +kernel
  have hWd : W (w.drop cut) := fun c hc => hW c (List.mem_of_mem_drop hc)
  have hWt : W (w.take cut) := fun c hc => hW c (List.mem_of_mem_take hc)
  have c1 : L2.cutS (st w) (some (cut : Int)) none = st (w.drop cut) := by
    rw [st_cut, HT.sIx_nat, HT.sIx_none, Nat.min_eq_left hcl, List.take_of_length_le]
    rw [List.length_drop]
    omega
  have c2 : L2.cutS (st w) none (some (cut : Int)) = st (w.take cut) := by
    rw [st_cut, HT.sIx_nat, HT.sIx_none, Nat.min_eq_left hcl, List.drop_zero, Nat.sub_zero]
  have e6 := matrix_of_ok (s := s) hWd (by rw [List.length_drop]; omega)
  have e7 := matrix_of_ok (s := s) hWt (by rw [List.length_take]; omega)
  have e8 := product_ok (s := s) g1 g2
  have e9 : mul (matOf (w.drop cut)) (matOf (w.take cut)) = matOf w := by
    rw [← matOf_app, List.take_append_drop]
  rw [e9] at e8
  simp only [m__law_word_right, b__law_word_right]
  simp [-oRepr, -oEq, -oNe, oEq_tp, oNe_str, e1, e2, e3, e5, hr, hb, b4, hs2, hf, c1, c2, e6, e7, e8]
/-! ### draws -/
def P2 : Nat := 2147483648
structure PotOk (x y : Int) : Prop where
  x0 : 0 ≤ x
  y0 : 0 ≤ y
  y1 : y < 2147483648
theorem sm_small {i : Int} (h : i.natAbs ≤ 2147483648) : Sm i := sm_of (Nat.le_trans h (by decide))
theorem draw_ok {x y n : Int} (h : PotOk x y) (hn : 0 < n) (hn2 : n ≤ 1000) : ∃ d x' y', m__law_draw [.pot, .int n] (some (x, y)) = .val (.int d) (some (x', y')) ∧ 0 ≤ d ∧ d < n ∧ PotOk x' y' := by
  by_cases hx : 0 < x
  · have h3 : n < 1073741824 := by omega
    refine ⟨x % n, x / n, y, ?_, Int.emod_nonneg _ (by omega), Int.emod_lt_of_pos _ hn, Int.ediv_nonneg h.x0 (by omega), h.y0, h.y1⟩
    simp [m__law_draw, b__law_draw, L2.atI, L2.ixN, hx, hn, h3]
  · have e1 : Sm y := sm_small (by have := h.y0; have := h.y1; omega)
    have e2 : Sm 48271 := by decide +kernel
    have e3 : Sm 23 := by decide +kernel
    have h1 := Int.fmod_nonneg_of_pos (y * 48271 + 165) (b := 2147483587) (by decide)
    have h2 := Int.fmod_lt_of_pos (y * 48271 + 165) (b := 2147483587) (by decide)
    have e4 : Sm ((y * 48271 + 165).fmod 2147483587) := sm_small (by omega)
    refine ⟨((((y * 48271 + 165).fmod 2147483587 * (y * 48271 + 165).fmod 2147483587).fmod 2147483549).fdiv 23).fmod n, x, (y * 48271 + 165).fmod 2147483587, ?_, Int.fmod_nonneg_of_pos _ hn, Int.fmod_lt_of_pos _ hn, h.x0, h1, by omega⟩
    have hn0 : n ≠ 0 := by omega
    simp [m__law_draw, b__law_draw, L2.atI, L2.ixN, hx, e1, e2, e3, e4, hn0]
end M38
set_option Elab.async false
set_option linter.all false
set_option maxRecDepth 100000
set_option maxHeartbeats 1000000
namespace M38
open PySem PF W38

theorem atI_some {α : Type} {xs : List α} {i : Int} (h0 : 0 ≤ i) (h1 : i < xs.length) : ∃ x ∈ xs, L2.atI xs i = some x := by
  obtain ⟨n, rfl⟩ : ∃ n : Nat, i = n := ⟨i.toNat, by omega⟩
  have hn : n < xs.length := by omega
  refine ⟨xs[n], List.getElem_mem hn, ?_⟩
  have e : L2.ixN xs.length (n : Int) = some n := by
    unfold L2.ixN
    simp
    omega
  unfold L2.atI
  rw [e]
  simp [hn]
theorem pick_str {l : List Nat} {x y : Int} (h : PotOk x y) (hl : 0 < l.length) (hl2 : l.length ≤ 1000) : ∃ c x' y', m__law_pick [.pot, .str (st l)] (some (x, y)) = .val (.str (st [c])) (some (x', y')) ∧ c ∈ l ∧ PotOk x' y' := by
  obtain ⟨d, x', y', h1, h2, h3, h4⟩ := draw_ok (n := (l.length : Int)) h (by omega) (by omega)
  obtain ⟨c, hc, e⟩ := atI_some (xs := l) h2 h3
  have hb : l.length ≤ big := Nat.le_trans hl2 (by decide)
  have ec : (st l).cps.toList = l := by simp [st]
  refine ⟨c, x', y', ?_, hc, h4⟩
  simp [m__law_pick, b__law_pick, hb, h1, ec, e]
  rfl
theorem pick_lst {l : List PV} {x y : Int} (h : PotOk x y) (hl : 0 < l.length) (hl2 : l.length ≤ 1000) : ∃ c x' y', m__law_pick [.pot, .lst l] (some (x, y)) = .val c (some (x', y')) ∧ c ∈ l ∧ PotOk x' y' := by
  obtain ⟨d, x', y', h1, h2, h3, h4⟩ := draw_ok (n := (l.length : Int)) h (by omega) (by omega)
  obtain ⟨c, hc, e⟩ := atI_some (xs := l) h2 h3
  refine ⟨c, x', y', ?_, hc, h4⟩
  simp [m__law_pick, b__law_pick, h1, e]
/-- a comprehension that draws -/
theorem compGo_pot {g : FG} {f : FE} {ρ : PF.Env} {α : Type} (emb : α → PV) : ∀ (l : List PV) (x y : Int), PotOk x y →
    (∀ v ∈ l, ∀ x y, PotOk x y → ∃ a ρ1 x' y', g v ρ (some (x, y)) = .val ρ1 (some (x, y)) ∧ f ρ1 (some (x, y)) = .val (emb a) (some (x', y')) ∧ PotOk x' y') →
    ∃ (as : List α) (x' y' : Int), compGo g fYes f ρ l (some (x, y)) = .val (as.map emb) (some (x', y')) ∧ as.length = l.length ∧ PotOk x' y'
  | [], x, y, h, _ => ⟨[], x, y, rfl, rfl, h⟩
  | v :: l, x, y, h, k => by
    obtain ⟨a, ρ1, x1, y1, h1, h2, h3⟩ := k v List.mem_cons_self x y h
    obtain ⟨as, x2, y2, h4, h5, h6⟩ := compGo_pot emb l x1 y1 h3 fun w hw => k w (List.mem_cons_of_mem _ hw)
    refine ⟨a :: as, x2, y2, ?_, by rw [List.length_cons, List.length_cons, h5], h6⟩
    rw [compGo, h1]
    simp only [R.calm, R.bind, fYes, if_true, h2, h4]
    rfl
def Lt := { c : Nat // isL c }
theorem letters_eq : (Str.ofString "tTvVjJ") = st [116, 84, 118, 86, 106, 74] := rfl
theorem upTo_len (n : Nat) : (PF.upTo 0 n).length = n := by simp [PF.upTo]
theorem big1000 : 1000 ≤ big := by decide
theorem moves_ok {most x y : Int} (h : PotOk x y) (h0 : 0 ≤ most) (h1 : most ≤ 900) : ∃ w x' y', m__law_moves [.pot, .int most] (some (x, y)) = .val (.str (st w)) (some (x', y')) ∧ W w ∧ w.length ≤ most.toNat ∧ PotOk x' y' := by
  obtain ⟨d, x1, y1, e1, d0, d1, p1⟩ := draw_ok (n := most + 1) h (by omega) (by omega)
  obtain ⟨as, x2, y2, e2, hl, p2⟩ := compGo_pot (g := gNm 2) (f := fCall m__law_pick (fCons (fVar 0) (fCons (fC (.str "tTvVjJ")) fNil))) (ρ := [some (.val .pot), some (.val (.int most)), none]) (fun c : Lt => PV.str (st [c.1])) (PF.upTo 0 d.toNat) x1 y1 p1 fun v _ x y hp => by
    obtain ⟨c, x', y', e, hc, hp'⟩ := pick_str (l := [116, 84, 118, 86, 106, 74]) hp (by decide) (by decide)
    have hc' : isL c := by simp at hc; unfold isL; omega
    refine ⟨⟨c, hc'⟩, _, x', y', rfl, ?_, hp'⟩
    simp [letters_eq, e]
  rw [upTo_len] at hl
  have hj := join_map (as.map fun c => c.1) id (by rw [List.length_map, hl]; have := big1000; omega)
  simp only [List.map_map, id] at hj
  have hb : as.length ≤ big := by have := big1000; omega
  refine ⟨as.map fun c => c.1, x2, y2, ?_, fun c hc => ?_, by rw [List.length_map, hl]; omega, p2⟩
  · have hd1 : -1000000000 ≤ d := by omega
    have hd2 : d ≤ 1000000000 := by omega
    have hj' : oJoin (.str (Str.ofString "")) (.lst (as.map fun c : Lt => PV.str (st [c.1]))) = some (.str (st (as.map fun c => c.1))) := by
      have := hj
      simp only [Function.comp_def] at this
      rw [this]
      simp
    simp only [m__law_moves, b__law_moves]
    generalize fCall m__law_pick (fCons (fVar 0) (fCons (fC (.str "tTvVjJ")) fNil)) = E at e2 ⊢
    simp [e1, hd1, hd2, -gNm, -oJoin, e2, hb, hj']
  · obtain ⟨a, _, rfl⟩ := List.mem_map.mp hc
    exact a.2
end M38
set_option Elab.async false
set_option linter.all false
set_option maxRecDepth 100000
set_option maxHeartbeats 1000000
namespace M38
open PySem PF W38

def tj (n : Int) (m : Mx) : Mx := mul ⟨1, n, 0, 1⟩ (mul ⟨0, -1, 1, 0⟩ m)
theorem tj_bd {N : Nat} {n : Int} {m : Mx} (h : Bd N m) (hn : -3 ≤ n) (hn2 : n ≤ 3) : Bd (4 * N) (tj n m) := by
  obtain ⟨a, b, c, d⟩ := m
  obtain ⟨h0, h1, h2, h3, h4⟩ := h
  simp only at h1 h2 h3 h4
  have e : tj n ⟨a, b, c, d⟩ = ⟨-c + n * a, -d + n * b, a, b⟩ := by simp [tj, mul]
  have hn' : n = -3 ∨ n = -2 ∨ n = -1 ∨ n = 0 ∨ n = 1 ∨ n = 2 ∨ n = 3 := by omega
  refine ⟨?_, ?_, ?_, ?_, ?_⟩
  · show det (mul _ (mul _ _)) = 1
    rw [det_mul, det_mul, h0]
    simp [det]
  all_goals rw [e]
  · show (-c + n * a).natAbs ≤ 4 * N
    rcases hn' with rfl | rfl | rfl | rfl | rfl | rfl | rfl <;> omega
  · show (-d + n * b).natAbs ≤ 4 * N
    rcases hn' with rfl | rfl | rfl | rfl | rfl | rfl | rfl <;> omega
  · show a.natAbs ≤ 4 * N
    omega
  · show b.natAbs ≤ 4 * N
    omega
def nStep : FS := sSet 2 (fCall m__law_product (fCons (fTup (fCons (fC (.int 1)) (fCons (fBin oSub (fCall m__law_draw (fCons (fVar 0) (fCons (fC (.int 7)) (fNil)))) (fC (.int 3))) (fCons (fC (.int 0)) (fCons (fC (.int 1)) (fNil)))))) (fCons (fCall m__law_product (fCons (fTup (fCons (fC (.int 0)) (fCons (fUn oNeg (fC (.int 1))) (fCons (fC (.int 1)) (fCons (fC (.int 0)) (fNil)))))) (fCons (fVar 2) (fNil)))) (fNil))))
theorem le_of_bd {N : Nat} {m : Mx} (h : Bd N m) (k : N ≤ 2 ^ 1000) : Le (2 ^ 1000) m := ⟨Nat.le_trans h.a k, Nat.le_trans h.b k, Nat.le_trans h.c k, Nat.le_trans h.d k⟩
theorem nStep_ok {v1 v3 : Option Ent} {m : Mx} {x y : Int} {N : Nat} (h : PotOk x y) (hb : Bd N m) (hN : N ≤ 100000) : ∃ m' x' y', nStep [some (.val .pot), v1, some (.val (tp m)), v3] (some (x, y)) = .nx [some (.val .pot), v1, some (.val (tp m')), v3] (some (x', y')) ∧ Bd (4 * N) m' ∧ PotOk x' y' := by
  obtain ⟨d, x1, y1, e1, d0, d1, p1⟩ := draw_ok (n := 7) h (by decide) (by decide)
  have l1 : 100000 ≤ 2 ^ 1000 := by decide +kernel
  have hj : Le (2 ^ 1000) ⟨0, -1, 1, 0⟩ := ⟨Nat.zero_le _, Nat.one_le_two_pow, Nat.one_le_two_pow, Nat.zero_le _⟩
  have ht : Le (2 ^ 1000) ⟨1, d - 3, 0, 1⟩ := ⟨Nat.one_le_two_pow, Nat.le_trans (show (d - 3).natAbs ≤ 100000 by omega) l1, Nat.zero_le _, Nat.one_le_two_pow⟩
  have h1 := law_product_ok (s := some (x1, y1)) hj (le_of_bd hb (Nat.le_trans hN l1))
  have hm : Le (2 ^ 1000) (mul ⟨0, -1, 1, 0⟩ m) := by
    obtain ⟨a, b, c, d'⟩ := m
    have k := le_of_bd hb (Nat.le_trans hN l1)
    obtain ⟨k1, k2, k3, k4⟩ := k
    constructor <;> simp [mul]
    · exact k3
    · exact k4
    · exact k1
    · exact k2
  have h2 := law_product_ok (s := some (x1, y1)) ht hm
  refine ⟨tj (d - 3) m, x1, y1, ?_, tj_bd hb (by omega) (by omega), p1⟩
  have q1 : m__law_product [PV.tup [.int 0, .int (-1), .int 1, .int 0], tp m] (some (x1, y1)) = .val (tp (mul ⟨0, -1, 1, 0⟩ m)) (some (x1, y1)) := h1
  have q2 : m__law_product [PV.tup [.int 1, .int (d - 3), .int 0, .int 1], tp (mul ⟨0, -1, 1, 0⟩ m)] (some (x1, y1)) = .val (tp (tj (d - 3) m)) (some (x1, y1)) := h2
  have b4 := big4
  simp [nStep, e1, b4, q1, q2]
theorem n_loop {v1 : Option Ent} : ∀ (l : List PV) (m : Mx) (x y : Int) (v3 : Option Ent) (N : Nat), PotOk x y → Bd N m → 4 ^ l.length * N ≤ 100000 → ∃ m' x' y' v3', forGo (gNm 3) nStep l [some (.val .pot), v1, some (.val (tp m)), v3] (some (x, y)) = .nx [some (.val .pot), v1, some (.val (tp m')), v3'] (some (x', y')) ∧ Bd (4 ^ l.length * N) m' ∧ PotOk x' y'
  | [], m, x, y, v3, N, h, hb, _ => ⟨m, x, y, v3, rfl, by simpa using hb, h⟩
  | v :: l, m, x, y, v3, N, h, hb, hN => by
    rw [List.length_cons, Nat.pow_succ, Nat.mul_assoc] at hN
    have hN1 : N ≤ 100000 := Nat.le_trans (Nat.le_trans (Nat.le_mul_of_pos_left N (by decide : 0 < 4)) (Nat.le_mul_of_pos_left (4 * N) (Nat.pow_pos (n := l.length) (by decide : 0 < 4)))) hN
    obtain ⟨m1, x1, y1, e1, b1, p1⟩ := nStep_ok (v1 := v1) (v3 := some (.val v)) h hb hN1
    obtain ⟨m2, x2, y2, v2, e2, b2, p2⟩ := n_loop (v1 := v1) l m1 x1 y1 (some (.val v)) (4 * N) p1 b1 hN
    refine ⟨m2, x2, y2, v2, ?_, by rw [List.length_cons, Nat.pow_succ, Nat.mul_assoc]; exact b2, p2⟩
    rw [forGo]
    simp only [gNm, List.set_cons_succ, List.set_cons_zero, e1]
    exact e2
theorem by_notes_ok {k x y : Int} (h : PotOk x y) (h0 : 0 ≤ k) (h1 : k < 7) : ∃ m x' y', m__law_by_notes [.pot, .int k] (some (x, y)) = .val (tp m) (some (x', y')) ∧ Bd 16384 m ∧ PotOk x' y' := by
  obtain ⟨d, x1, y1, e1, d0, d1, p1⟩ := draw_ok (n := 2) h (by decide) (by decide)
  obtain ⟨d', x2, y2, e2, d0', d1', p2⟩ := draw_ok (n := 9) p1 (by decide) (by decide)
  have b4 := big4
  have st1 : ∃ m, (sSet 2 (fIf (fTest (fBin oEq (fCall m__law_draw (fCons (fVar 0) (fCons (fC (.int 2)) (fNil)))) (fC (.int 0)))) (fTup (fCons (fC (.int 1)) (fCons (fBin oSub (fCall m__law_draw (fCons (fVar 0) (fCons (fC (.int 9)) (fNil)))) (fC (.int 4))) (fCons (fC (.int 0)) (fCons (fC (.int 1)) (fNil)))))) (fTup (fCons (fUn oNeg (fC (.int 1))) (fCons (fBin oSub (fCall m__law_draw (fCons (fVar 0) (fCons (fC (.int 9)) (fNil)))) (fC (.int 4))) (fCons (fC (.int 0)) (fCons (fUn oNeg (fC (.int 1))) (fNil))))))))
      [some (.val .pot), some (.val (.int k)), none, none] (some (x, y)) = .nx [some (.val .pot), some (.val (.int k)), some (.val (tp m)), none] (some (x2, y2)) ∧ Bd 4 m := by
    by_cases hd : d = 0
    · refine ⟨⟨1, d' - 4, 0, 1⟩, ?_, ⟨by simp [det], (by show 1 ≤ 4; decide), (by show (d' - 4).natAbs ≤ 4; omega), (by show 0 ≤ 4; decide), (by show 1 ≤ 4; decide)⟩⟩
      simp [e1, hd, e2, b4]
      rfl
    · refine ⟨⟨-1, d' - 4, 0, -1⟩, ?_, ⟨by simp [det], (by show 1 ≤ 4; decide), (by show (d' - 4).natAbs ≤ 4; omega), (by show 0 ≤ 4; decide), (by show 1 ≤ 4; decide)⟩⟩
      simp [e1, hd, e2, b4]
      rfl
  obtain ⟨m, e3, bm⟩ := st1
  have hlen : (PF.upTo 0 k.toNat).length = k.toNat := upTo_len _
  have hk : 4 ^ k.toNat * 4 ≤ 16384 := by
    have : k.toNat ≤ 6 := by omega
    have : 4 ^ k.toNat ≤ 4 ^ 6 := Nat.pow_le_pow_right (by decide) this
    omega
  obtain ⟨m2, x3, y3, v3, e4, bm2, p3⟩ := n_loop (v1 := some (.val (.int k))) (PF.upTo 0 k.toNat) m x2 y2 none 4 p2 bm (by rw [hlen]; omega)
  rw [hlen] at bm2
  refine ⟨m2, x3, y3, ?_, ⟨bm2.det, Nat.le_trans bm2.a hk, Nat.le_trans bm2.b hk, Nat.le_trans bm2.c hk, Nat.le_trans bm2.d hk⟩, p3⟩
  have hk1 : -1000000000 ≤ k := by omega
  have hk2 : k ≤ 1000000000 := by omega
  show (sSeq _ (sSeq (sFor _ (gNm 3) nStep) _) (startE 4 [.pot, .int k]) (some (x, y))).ret = _
  have e0 : startE 4 [PV.pot, .int k] = [some (.val .pot), some (.val (.int k)), none, none] := rfl
  rw [e0]
  unfold sSeq
  rw [e3]
  simp only [Out.seq, sFor, fRg1, fCons, fNil, fVar, List.getElem?_cons_succ, List.getElem?_cons_zero, R.bind, oRg1, hk1, hk2, and_self, if_true, R.out]
  rw [e4]
  rfl
end M38
set_option Elab.async false
set_option linter.all false
set_option maxRecDepth 100000
set_option maxHeartbeats 2000000
namespace M38
open PySem PF W38

theorem oMul_str {l : List Nat} {n : Nat} (h : l.length * n ≤ 10000) (hn : n ≤ 10000) : oMul (.str (st l)) (.int (n : Int)) = some (.str (st (List.replicate n l).flatten)) := by
  have h1 : (10000 : Nat) ≤ big := by decide
  have h6 : (n : Int) ≤ (big : Int) := by omega
  simp only [oMul, oMulI, oMulL, oMulS, Option.none_or, st_len, Int.toNat_natCast]
  rw [if_pos ⟨by omega, by omega, h6⟩, st_rep]
structure WordOk (w : List Nat) : Prop where
  W : W w
  l : w.length ≤ 400
  a : Good (matOf (w.drop (w.length / 2)))
  b : Good (matOf (w.take (w.length / 2)))
theorem wordOk_short {w : List Nat} (h : W w) (hl : w.length ≤ 99) : WordOk w := ⟨h, by omega, good_word (fun c hc => h c (List.mem_of_mem_drop hc)) (by rw [List.length_drop]; omega), good_word (fun c hc => h c (List.mem_of_mem_take hc)) (by rw [List.length_take]; omega)⟩
def goodB (m : Mx) : Bool := decide (det m = 1) && decide (m.a.natAbs < most) && decide (m.b.natAbs < most) && decide (m.c.natAbs < most) && decide (m.d.natAbs < most)
theorem good_of {m : Mx} (h : goodB m = true) : Good m := by
  simp only [goodB, Bool.and_eq_true, decide_eq_true_eq] at h
  exact ⟨h.1.1.1.1, h.1.1.1.2, h.1.1.2, h.1.2, h.2⟩
def wordB (w : List Nat) : Bool := w.all (fun c => decide (isL c)) && decide (w.length ≤ 400) && goodB (matOf (w.drop (w.length / 2))) && goodB (matOf (w.take (w.length / 2)))
theorem word_of {w : List Nat} (h : wordB w = true) : WordOk w := by
  simp only [wordB, Bool.and_eq_true, decide_eq_true_eq, List.all_eq_true] at h
  exact ⟨h.1.1.1, h.1.1.2, good_of h.1.2, good_of h.2⟩
theorem word_tT : WordOk (List.replicate 200 [116, 84]).flatten := word_of (by decide +kernel)
theorem word_rep {c : Nat} (h : isL c) : WordOk (List.replicate 400 [c]).flatten := by
  rcases h with rfl | rfl | rfl | rfl | rfl | rfl <;> exact word_of (by decide +kernel)
theorem blsOf_all {α : Type} : ∀ l : List α, blsOf (l.map fun _ => PV.bl true) = some (l.map fun _ => true)
  | [] => rfl
  | c :: l => by rw [List.map_cons, blsOf, blsOf_all l]; rfl
theorem all_true {α : Type} (l : List α) : (l.map fun _ => true).all id = true := by simp
/-- all of them hold -/
theorem all_comp {α : Type} {i : FA} {g : FG} {f : FE} {vs : List Nat} {ρ : PF.Env} {s : PS} (emb : α → PV) (l : List α) (hi : i ρ s = .val (l.map emb) s) (hl : l.length ≤ big) (h : ∀ x ∈ l, ∃ ρ1, g (emb x) (wipeE ρ vs) s = .val ρ1 s ∧ f ρ1 s = .val (.bl true) s) :
    fCallB oAll (fCons (fComp i g vs fYes f) fNil) ρ s = .val (.bl true) s := by
  have hc := compGo_map (g := g) (f := f) (ρ := wipeE ρ vs) (s := s) emb (fun _ => PV.bl true) l h
  have hb := blsOf_all l
  unfold fCallB fCons fComp
  rw [hi]
  simp only [R.bind]
  rw [hc]
  have hl2 : (l.map fun _ => PV.bl true).length ≤ big := by rw [List.length_map]; exact hl
  simp only [R.bind, if_pos hl2, fNil, oAll, hb, Option.map_some, ofO, all_true]
/-! ### matrices -/
structure MatOk (m : Mx) : Prop where
  ex : ∃ N, 1 ≤ N ∧ N < most ∧ Bd N m ∧ (notes N m).1.length < big
theorem MatOk.right {m : Mx} (h : MatOk m) (s : PS) : m__law_matrix_right [tp m] s = .val (.bl true) s := by
  obtain ⟨N, h1, h2, h3, h4⟩ := h.ex
  exact matrix_right_ok h1 h2 h3 h4
theorem matOk_small {N : Nat} {m : Mx} (h : Bd N m) (h1 : 1 ≤ N) (h2 : N ≤ 100000) : MatOk m := ⟨N, h1, Nat.lt_of_le_of_lt h2 (by unfold most; decide), h, Nat.lt_of_le_of_lt (notes_len N m) (Nat.lt_of_le_of_lt h2 (by decide))⟩
theorem matOk_word {w : List Nat} (h : W w) (hl : w.length ≤ 40) : MatOk (matOf w) := by
  have k := (matOf_le h).mono (pow_le hl)
  have hb : Bd (2 ^ 40) (matOf w) := ⟨det_word w h, k.a, k.b, k.c, k.d⟩
  have h1 := notes_short (2 ^ 40) (matOf w)
  have h2 := eM_matOf h
  have := big1000
  exact ⟨2 ^ 40, by decide, by unfold most; decide, hb, by omega⟩
def ext (n : Int) : List Mx := [⟨1, n, 0, 1⟩, ⟨-1, n, 0, -1⟩, ⟨n, -1, 1, 0⟩, ⟨1, 0, n, 1⟩]
theorem ext_ok {n : Int} (h : n.natAbs ≤ 3000) : ∀ m ∈ ext n, MatOk m := by
  intro m hm
  simp only [ext, List.mem_cons, List.not_mem_nil, or_false] at hm
  rcases hm with rfl | rfl | rfl | rfl
  all_goals refine matOk_small (N := 3000) ⟨?_, ?_, ?_, ?_, ?_⟩ (by decide) (by decide)
  all_goals first
    | exact h
    | (simp [det]; done)
    | (show (1 : Int).natAbs ≤ 3000; decide)
    | (show (0 : Int).natAbs ≤ 3000; decide)
    | (show (-1 : Int).natAbs ≤ 3000; decide)
def mStep : FS := sSet 2 (fBin oAdd (fVar 2) (fLst (fCons (fTup (fCons (fC (.int 1)) (fCons (fVar 3) (fCons (fC (.int 0)) (fCons (fC (.int 1)) (fNil)))))) (fCons (fTup (fCons (fUn oNeg (fC (.int 1))) (fCons (fVar 3) (fCons (fC (.int 0)) (fCons (fUn oNeg (fC (.int 1))) (fNil)))))) (fCons (fTup (fCons (fVar 3) (fCons (fUn oNeg (fC (.int 1))) (fCons (fC (.int 1)) (fCons (fC (.int 0)) (fNil)))))) (fCons (fTup (fCons (fC (.int 1)) (fCons (fC (.int 0)) (fCons (fVar 3) (fCons (fC (.int 1)) (fNil)))))) (fNil)))))))
theorem m_loop {v0 v1 e4 e5 e6 e7 e8 : Option Ent} {s : PS} : ∀ (l : List Int) (ms : List Mx) (v3 : Option Ent), ms.length + 4 * l.length ≤ 1000 →
    ∃ v3', forGo (gNm 3) mStep (iL l) [v0, v1, some (.val (.lst (ms.map tp))), v3, e4, e5, e6, e7, e8] s = .nx [v0, v1, some (.val (.lst ((ms ++ (l.map ext).flatten).map tp))), v3', e4, e5, e6, e7, e8] s
  | [], ms, v3, _ => ⟨v3, by simp [iL, forGo]⟩
  | n :: l, ms, v3, h => by
    rw [List.length_cons] at h
    obtain ⟨v3', e⟩ := m_loop (v0 := v0) (v1 := v1) (e4 := e4) (e5 := e5) (e6 := e6) (e7 := e7) (e8 := e8) (s := s) l (ms ++ ext n) (some (.val (.int n))) (by simp [ext]; omega)
    refine ⟨v3', ?_⟩
    have b4 := big4
    have hb : ms.length + 4 ≤ big := by have := big1000; omega
    show forGo _ _ (PV.int n :: iL l) _ _ = _
    have hs : mStep [v0, v1, some (.val (.lst (ms.map tp))), some (.val (.int n)), e4, e5, e6, e7, e8] s = .nx [v0, v1, some (.val (.lst ((ms ++ ext n).map tp))), some (.val (.int n)), e4, e5, e6, e7, e8] s := by
      simp [mStep, b4, hb]
      rfl
    rw [forGo]
    simp only [gNm, List.set_cons_succ, List.set_cons_zero, hs]
    rw [e]
    simp
/-! ### odd values -/
def odds : List PV := [.non, .int 0, .lst [.str "t"], .str "x", .str "tx", .str "t v", .str "r", .str (st (List.replicate 401 116)), .bl true, .tup [.str "t"]]
theorem odd_is : ∀ o ∈ odds, ∀ s, m_is_moves_of [o] s = .val (.bl false) s := by
  intro o ho s
  simp only [odds, List.mem_cons, List.not_mem_nil, or_false] at ho
  rcases ho with rfl | rfl | rfl | rfl | rfl | rfl | rfl | rfl | rfl | rfl <;> rfl
def reprB (o : PV) : Bool := match rw o with
  | some n => decide (n ≤ big) && shaped o
  | none => false
theorem repr_ofB {o : PV} (h : reprB o = true) : oRepr [o] = some (.str (shown o)) := by
  unfold reprB at h
  split at h
  · rename_i n e
    simp only [Bool.and_eq_true, decide_eq_true_eq] at h
    exact repr_of e h.1 h.2
  · cases h
theorem odd_reprB : odds.all reprB = true := by decide +kernel
theorem odd_repr : ∀ o ∈ odds, oRepr [o] = some (.str (shown o)) := fun o ho => repr_ofB (List.all_eq_true.mp odd_reprB o ho)
theorem odd_moves {o : PV} (ho : o ∈ odds) (s : PS) : m_is_moves [o] s = .val (.bl false) s := by
  have e := odd_is o ho s
  simp [m_is_moves, b_is_moves, e]
theorem odd_matrix {o : PV} (ho : o ∈ odds) (s : PS) : m_matrix_of [o] s = .exc "InvalidMoves" [("value", o)] s := by
  have e := odd_is o ho s
  have e2 : m_check_moves [o] s = .exc "InvalidMoves" [("value", o)] s := by
    simp [m_check_moves, b_check_moves, e]
  simp [m_matrix_of, b_matrix_of, e2]
theorem odd_heard {o : PV} (ho : o ∈ odds) (s : PS) : m__law_heard (fun p => fCall m_matrix_of (fCons (fVar 0) fNil) ((startE 1 [o]).map valO) p) s = .val (.lst [.str "moves", .str (shown o), .bl true]) s := by
  refine heard_moves (v := o) ?_ (odd_repr o ho)
  have e := odd_matrix ho s
  simp [e]
def told (o : PV) : PV := .lst [.str "moves", .str (shown o), .bl true]
theorem told_shaped : shaped (.lst (odds.map told)) = true := by decide +kernel
theorem falses_shaped : shaped (.lst (odds.map fun _ => PV.bl false)) = true := by decide +kernel
/-- the odd values' part -/
def oddPart : FS := sSeq (sSet 4 (fLst (fCons (fC .non) (fCons (fC (.int 0)) (fCons (fLst (fCons (fC (.str "t")) (fNil))) (fCons (fC (.str "x")) (fCons (fC (.str "tx")) (fCons (fC (.str "t v")) (fCons (fC (.str "r")) (fCons (fBin oMul (fC (.str "t")) (fC (.int 401))) (fCons (fC (.bl true)) (fCons (fTup (fCons (fC (.str "t")) (fNil))) (fNil))))))))))))) (sSeq (sIf (fOrT (fTest (fBin oNe (fComp (fIt (fVar 4)) (gNm 5) [5] (fYes) (fCall m_is_moves (fCons (fVar 5) (fNil)))) (fBin oMul (fLst (fCons (fC (.bl false)) (fNil))) (fC (.int 10))))) (fTest (fBin oIsNot (fCallK m_is_moves [0] (fCons (fBin oMul (fC (.str "tTvVjJ")) (fC (.int 66))) (fNil))) (fC (.bl true))))) (sRet (fC (.bl false))) (sNil)) (sRet (fBin oEq (fComp (fIt (fVar 4)) (gNm 5) [5] (fYes) (fHear2 m__law_heard 1 (fCall m_matrix_of (fCons (fVar 0) (fNil))) (fCons (fVar 5) (fNil)))) (fComp (fIt (fVar 4)) (gNm 5) [5] (fYes) (fLst (fCons (fC (.str "moves")) (fCons (fCallB oRepr (fCons (fVar 5) (fNil))) (fCons (fC (.bl true)) (fNil)))))))))
theorem comp_ok {α : Type} {i : FA} {g : FG} {f : FE} {vs : List Nat} {ρ : PF.Env} {s : PS} (emb F : α → PV) (l : List α) (hi : i ρ s = .val (l.map emb) s) (hl : l.length ≤ big) (h : ∀ x ∈ l, ∃ ρ1, g (emb x) (wipeE ρ vs) s = .val ρ1 s ∧ f ρ1 s = .val (F x) s) :
    fComp i g vs fYes f ρ s = .val (.lst (l.map F)) s := by
  have hc := compGo_map (g := g) (f := f) (ρ := wipeE ρ vs) (s := s) emb F l h
  unfold fComp
  rw [hi]
  simp only [R.bind]
  rw [hc]
  have hl2 : (l.map F).length ≤ big := by rw [List.length_map]; exact hl
  simp only [R.bind, if_pos hl2]
theorem oddPart_ok {v0 v1 v2 v3 v6 v7 v8 : Option Ent} {s : PS} : oddPart [v0, v1, v2, v3, none, none, v6, v7, v8] s = .rt (.bl true) s := by
  have b1 : 1 ≤ big := by decide
  have b3 : 3 ≤ big := by decide
  have b10 : 10 ≤ big := by decide
  have e0 : sSet 4 (fLst (fCons (fC .non) (fCons (fC (.int 0)) (fCons (fLst (fCons (fC (.str "t")) (fNil))) (fCons (fC (.str "x")) (fCons (fC (.str "tx")) (fCons (fC (.str "t v")) (fCons (fC (.str "r")) (fCons (fBin oMul (fC (.str "t")) (fC (.int 401))) (fCons (fC (.bl true)) (fCons (fTup (fCons (fC (.str "t")) (fNil))) (fNil)))))))))))) [v0, v1, v2, v3, none, none, v6, v7, v8] s = .nx [v0, v1, v2, v3, some (.val (.lst odds)), none, v6, v7, v8] s := by
    have ht : (Str.ofString "t") = st [116] := rfl
    have em := oMul_str (l := [116]) (n := 401) (by decide) (by decide)
    have e2 : (List.replicate 401 [116]).flatten = List.replicate 401 116 := by simp
    rw [e2] at em
    have em' : oMul (.str (Str.ofString "t")) (.int 401) = some (.str (st (List.replicate 401 116))) := em
    simp [-oMul, em', b1, b10]
    rfl
  have hl : odds.length ≤ big := by decide
  have hi : fIt (fVar 4) [v0, v1, v2, v3, some (.val (.lst odds)), none, v6, v7, v8] s = .val (odds.map id) s := by simp
  have c1 := comp_ok (i := fIt (fVar 4)) (g := gNm 5) (f := fCall m_is_moves (fCons (fVar 5) (fNil))) (vs := [5]) (ρ := [v0, v1, v2, v3, some (.val (.lst odds)), none, v6, v7, v8]) (s := s) id (fun _ => PV.bl false) odds hi hl fun o ho => ⟨_, rfl, by simp [odd_moves ho]⟩
  have c2 := comp_ok (i := fIt (fVar 4)) (g := gNm 5) (f := fHear2 m__law_heard 1 (fCall m_matrix_of (fCons (fVar 0) (fNil))) (fCons (fVar 5) (fNil))) (vs := [5]) (ρ := [v0, v1, v2, v3, some (.val (.lst odds)), none, v6, v7, v8]) (s := s) id told odds hi hl fun o ho => ⟨_, rfl, odd_heard ho s⟩
  have c3 := comp_ok (i := fIt (fVar 4)) (g := gNm 5) (f := fLst (fCons (fC (.str "moves")) (fCons (fCallB oRepr (fCons (fVar 5) (fNil))) (fCons (fC (.bl true)) (fNil))))) (vs := [5]) (ρ := [v0, v1, v2, v3, some (.val (.lst odds)), none, v6, v7, v8]) (s := s) id told odds hi hl fun o ho => ⟨_, rfl, by simp [-oRepr, odd_repr o ho, b3, told]⟩
  have w66 : W (List.replicate 66 [116, 84, 118, 86, 106, 74]).flatten := by
    have : ((List.replicate 66 [116, 84, 118, 86, 106, 74]).flatten.all fun c => decide (isL c)) = true := by decide +kernel
    intro c hc
    exact of_decide_eq_true (List.all_eq_true.mp this c hc)
  have l66 : ((List.replicate 66 [116, 84, 118, 86, 106, 74]).flatten).length ≤ 400 := by decide +kernel
  have m66 := is_moves_ok (s := s) w66 l66
  have s66 : oMul (.str (Str.ofString "tTvVjJ")) (.int 66) = some (.str (st (List.replicate 66 [116, 84, 118, 86, 106, 74]).flatten)) := oMul_str (l := [116, 84, 118, 86, 106, 74]) (n := 66) (by decide) (by decide)
  have f10 : oMul (.lst [.bl false]) (.int 10) = some (.lst (odds.map fun _ => PV.bl false)) := rfl
  have q1 : oNe (.lst (odds.map fun _ => PV.bl false)) (.lst (odds.map fun _ => PV.bl false)) = some (.bl false) := by
    have : oNeS (.lst (odds.map fun _ => PV.bl false)) (.lst (odds.map fun _ => PV.bl false)) = none := rfl
    simp only [oNe, this, Option.none_or, oNeD, falses_shaped, and_self, if_true, eqv_self falses_shaped, Bool.not_true]
  have q2 : oEq (.lst (odds.map told)) (.lst (odds.map told)) = some (.bl true) := by
    have : oEqS (.lst (odds.map told)) (.lst (odds.map told)) = none := rfl
    simp only [oEq, this, Option.none_or, oEqD, told_shaped, and_self, if_true, eqv_self told_shaped]
  unfold oddPart sSeq
  rw [e0]
  simp only [Out.seq]
  generalize fComp (fIt (fVar 4)) (gNm 5) [5] fYes (fCall m_is_moves (fCons (fVar 5) (fNil))) = F1 at c1 ⊢
  generalize fComp (fIt (fVar 4)) (gNm 5) [5] fYes (fHear2 m__law_heard 1 (fCall m_matrix_of (fCons (fVar 0) (fNil))) (fCons (fVar 5) (fNil))) = F2 at c2 ⊢
  generalize fComp (fIt (fVar 4)) (gNm 5) [5] fYes (fLst (fCons (fC (.str "moves")) (fCons (fCallB oRepr (fCons (fVar 5) (fNil))) (fCons (fC (.bl true)) (fNil))))) = F3 at c3 ⊢
  generalize (List.replicate 66 [116, 84, 118, 86, 106, 74]).flatten = w6 at m66 s66
  generalize odds.map told = L2 at *
  generalize (odds.map fun _ => PV.bl false) = L1 at *
  simp [-oMul, -oNe, -oEq, c1, c2, c3, b1, f10, q1, q2, s66, m66, isNon]
end M38
set_option Elab.async false
set_option linter.all false
set_option maxRecDepth 100000
set_option maxHeartbeats 2000000
namespace M38
open PySem PF W38

def rWords : FS := (sSet 1 (fLst (fCons (fCall m__law_moves (fCons (fVar 0) (fCons (fC (.int 12)) (fNil)))) (fCons (fCall m__law_moves (fCons (fVar 0) (fCons (fC (.int 40)) (fNil)))) (fCons (fC (.str "")) (fCons (fC (.str "jj")) (fCons (fBin oMul (fC (.str "tT")) (fC (.int 200))) (fCons (fBin oMul (fCall m__law_pick (fCons (fVar 0) (fCons (fC (.str "tTvVjJ")) (fNil)))) (fC (.int 400))) (fCons (fBin oMul (fCall m__law_pick (fCons (fVar 0) (fCons (fLst (fCons (fC (.str "tvj")) (fCons (fC (.str "VJt")) (fCons (fC (.str "jT")) (fNil))))) (fNil)))) (fC (.int 9))) (fNil))))))))))
def rMats : FS := (sSet 2 (fBin oAdd (fBin oAdd (fComp (fIt (fSl (fVar 1) (none) (some (fC (.int 4))))) (gNm 6) [6] (fYes) (fCall m__law_matrix_of (fCons (fVar 6) (fNil)))) (fComp (fRg1 (fCons (fC (.int 4)) (fNil))) (gNm 7) [7] (fYes) (fCall m__law_by_notes (fCons (fVar 0) (fCons (fCall m__law_draw (fCons (fVar 0) (fCons (fC (.int 7)) (fNil)))) (fNil)))))) (fLst (fCons (fTup (fCons (fUn oNeg (fC (.int 1))) (fCons (fC (.int 0)) (fCons (fC (.int 0)) (fCons (fUn oNeg (fC (.int 1))) (fNil)))))) (fCons (fTup (fCons (fC (.int 0)) (fCons (fC (.int 1)) (fCons (fUn oNeg (fC (.int 1))) (fCons (fC (.int 0)) (fNil)))))) (fCons (fTup (fCons (fC (.int 1)) (fCons (fC (.int 0)) (fCons (fC (.int 5)) (fCons (fC (.int 1)) (fNil)))))) (fCons (fTup (fCons (fUn oNeg (fC (.int 2))) (fCons (fUn oNeg (fC (.int 1))) (fCons (fC (.int 1)) (fCons (fC (.int 0)) (fNil)))))) (fNil))))))))
def rFor : FS := (sFor (fIt (fTup (fCons (fC (.int 399)) (fCons (fC (.int 400)) (fCons (fC (.int 401)) (fCons (fUn oNeg (fC (.int 400))) (fCons (fUn oNeg (fC (.int 401))) (fCons (fC (.int 398)) (fCons (fUn oNeg (fC (.int 398))) (fCons (fC (.int 3000)) (fNil))))))))))) (gNm 3) (sSet 2 (fBin oAdd (fVar 2) (fLst (fCons (fTup (fCons (fC (.int 1)) (fCons (fVar 3) (fCons (fC (.int 0)) (fCons (fC (.int 1)) (fNil)))))) (fCons (fTup (fCons (fUn oNeg (fC (.int 1))) (fCons (fVar 3) (fCons (fC (.int 0)) (fCons (fUn oNeg (fC (.int 1))) (fNil)))))) (fCons (fTup (fCons (fVar 3) (fCons (fUn oNeg (fC (.int 1))) (fCons (fC (.int 1)) (fCons (fC (.int 0)) (fNil)))))) (fCons (fTup (fCons (fC (.int 1)) (fCons (fC (.int 0)) (fCons (fVar 3) (fCons (fC (.int 1)) (fNil)))))) (fNil)))))))))
def rIf1 : FS := (sIf (fNotT (fTest (fCallB oAll (fCons (fComp (fIt (fVar 1)) (gNm 6) [6] (fYes) (fCall m__law_word_right (fCons (fVar 6) (fNil)))) (fNil))))) (sRet (fC (.bl false))) (sNil))
def rIf2 : FS := (sIf (fNotT (fTest (fCallB oAll (fCons (fComp (fIt (fVar 2)) (gNm 8) [8] (fYes) (fCall m__law_matrix_right (fCons (fVar 8) (fNil)))) (fNil))))) (sRet (fC (.bl false))) (sNil))
theorem law_right_eq : b__law_right = sSeq rWords (sSeq rIf1 (sSeq rMats (sSeq rFor (sSeq rIf2 oddPart)))) := rfl
def wS (w : List Nat) : PV := .str (st w)
theorem words_ok {x y : Int} (h : PotOk x y) : ∃ (ws : List (List Nat)) (x' y' : Int), rWords (startE 9 [.pot]) (some (x, y)) = .nx [some (.val .pot), some (.val (.lst (ws.map wS))), none, none, none, none, none, none, none] (some (x', y')) ∧ ws.length = 7 ∧ (∀ w ∈ ws, WordOk w) ∧ (∀ w ∈ ws.take 4, w.length ≤ 40) ∧ PotOk x' y' := by
  obtain ⟨w1, x1, y1, e1, W1, l1, p1⟩ := moves_ok (most := 12) h (by decide) (by decide)
  obtain ⟨w2, x2, y2, e2, W2, l2, p2⟩ := moves_ok (most := 40) p1 (by decide) (by decide)
  obtain ⟨c, x3, y3, e3, hc, p3⟩ := pick_str (l := [116, 84, 118, 86, 106, 74]) p2 (by decide) (by decide)
  have hc' : isL c := by simp at hc; unfold isL; omega
  obtain ⟨v, x4, y4, e4, hv, p4⟩ := pick_lst (l := [.str "tvj", .str "VJt", .str "jT"]) p3 (by decide) (by decide)
  obtain ⟨q, rfl, hq, hql⟩ : ∃ q, v = .str (st q) ∧ W q ∧ q.length ≤ 3 := by
    simp only [List.mem_cons, List.not_mem_nil, or_false] at hv
    rcases hv with rfl | rfl | rfl
    · exact ⟨[116, 118, 106], rfl, by intro c hc; simp at hc; unfold isL; omega, by decide⟩
    · exact ⟨[86, 74, 116], rfl, by intro c hc; simp at hc; unfold isL; omega, by decide⟩
    · exact ⟨[106, 84], rfl, by intro c hc; simp at hc; unfold isL; omega, by decide⟩
  have m1 : oMul (.str (Str.ofString "tT")) (.int 200) = some (.str (st (List.replicate 200 [116, 84]).flatten)) := oMul_str (l := [116, 84]) (n := 200) (by decide) (by decide)
  have m2 : oMul (.str (st [c])) (.int 400) = some (.str (st (List.replicate 400 [c]).flatten)) := oMul_str (l := [c]) (n := 400) (by simp) (by decide)
  have m3 : oMul (.str (st q)) (.int 9) = some (.str (st (List.replicate 9 q).flatten)) := oMul_str (l := q) (n := 9) (by omega) (by decide)
  have k1 : WordOk (List.replicate 200 [116, 84]).flatten := word_tT
  have k2 := word_rep hc'
  have k3 : WordOk (List.replicate 9 q).flatten := wordOk_short (fun d hd => by
    obtain ⟨l, hl, hd⟩ := List.mem_flatten.mp hd
    rw [(List.mem_replicate.mp hl).2] at hd
    exact hq d hd) (by
    have : ((List.replicate 9 q).flatten).length = 9 * q.length := by
      simp
      omega
    omega)
  generalize (List.replicate 200 [116, 84]).flatten = t1 at m1 k1
  generalize (List.replicate 400 [c]).flatten = t2 at m2 k2
  generalize (List.replicate 9 q).flatten = t3 at m3 k3
  have s1 : (Str.ofString "") = st [] := rfl
  have s2 : (Str.ofString "jj") = st [106, 106] := rfl
  have b7 : 7 ≤ big := by decide
  have b3 : 3 ≤ big := by decide
  rw [← letters_eq] at e3
  refine ⟨[w1, w2, [], [106, 106], t1, t2, t3], x4, y4, ?_, rfl, ?_, ?_, p4⟩
  · simp [rWords, -oMul, e1, e2, e3, e4, m1, m2, m3, s1, s2, b7, b3, wS]
  · intro w hw
    simp only [List.mem_cons, List.not_mem_nil, or_false] at hw
    rcases hw with rfl | rfl | rfl | rfl | rfl | rfl | rfl
    · exact wordOk_short W1 (by simp at l1; omega)
    · exact wordOk_short W2 (by simp at l2; omega)
    · exact wordOk_short (fun c hc => by cases hc) (by decide)
    · exact wordOk_short (fun c hc => by simp at hc; unfold isL; omega) (by decide)
    · exact k1
    · exact k2
    · exact k3
  · intro w hw
    simp only [List.take_succ_cons, List.take_zero, List.mem_cons, List.not_mem_nil, or_false] at hw
    rcases hw with rfl | rfl | rfl | rfl
    · simp at l1; omega
    · simp at l2; omega
    · decide
    · decide
theorem if1_ok {ws : List (List Nat)} {x y : Int} (h : ∀ w ∈ ws, WordOk w) (hl : ws.length = 7) : rIf1 [some (.val .pot), some (.val (.lst (ws.map wS))), none, none, none, none, none, none, none] (some (x, y)) = .nx [some (.val .pot), some (.val (.lst (ws.map wS))), none, none, none, none, none, none, none] (some (x, y)) := by
  have c := all_comp (i := fIt (fVar 1)) (g := gNm 6) (f := fCall m__law_word_right (fCons (fVar 6) (fNil))) (vs := [6]) (ρ := [some (.val .pot), some (.val (.lst (ws.map wS))), none, none, none, none, none, none, none]) (s := some (x, y)) wS ws (by simp) (by rw [hl]; decide) fun w hw => ⟨_, rfl, by simp [wS, word_right_ok (h w hw).W (h w hw).l (h w hw).a (h w hw).b]⟩
  unfold rIf1
  generalize fCallB oAll _ = E at c ⊢
  simp [c]
theorem if2_ok {v1 v3 v7 : Option Ent} {ms : List Mx} {s : PS} (h : ∀ m ∈ ms, MatOk m) (hl : ms.length ≤ 1000) : rIf2 [some (.val .pot), v1, some (.val (.lst (ms.map tp))), v3, none, none, none, v7, none] s = .nx [some (.val .pot), v1, some (.val (.lst (ms.map tp))), v3, none, none, none, v7, none] s := by
  have c := all_comp (i := fIt (fVar 2)) (g := gNm 8) (f := fCall m__law_matrix_right (fCons (fVar 8) (fNil))) (vs := [8]) (ρ := [some (.val .pot), v1, some (.val (.lst (ms.map tp))), v3, none, none, none, v7, none]) (s := s) tp ms (by simp) (Nat.le_trans hl big1000) fun m hm => ⟨_, rfl, by simp [(h m hm).right s]⟩
  unfold rIf2
  generalize fCallB oAll _ = E at c ⊢
  simp [c]
theorem for_ok {v1 : Option Ent} {ms : List Mx} {s : PS} (hl : ms.length ≤ 100) : ∃ v3, rFor [some (.val .pot), v1, some (.val (.lst (ms.map tp))), none, none, none, none, none, none] s = .nx [some (.val .pot), v1, some (.val (.lst ((ms ++ ([399, 400, 401, -400, -401, 398, -398, 3000].map ext).flatten).map tp))), v3, none, none, none, none, none] s := by
  obtain ⟨v3, e⟩ := m_loop (v0 := some (.val .pot)) (v1 := v1) (e4 := none) (e5 := none) (e6 := none) (e7 := none) (e8 := none) (s := s) [399, 400, 401, -400, -401, 398, -398, 3000] ms none (by simp; omega)
  refine ⟨v3, ?_⟩
  rw [← e]
  have b8 : 8 ≤ big := by decide
  show (sFor _ (gNm 3) mStep) _ _ = _
  unfold sFor
  generalize mStep = M
  generalize gNm 3 = Gg
  simp [b8, iL]
structure MatS (m : Mx) : Prop where
  ok : MatOk m
def NM := { m : Mx // MatOk m }
def fixM : List Mx := [⟨-1, 0, 0, -1⟩, ⟨0, 1, -1, 0⟩, ⟨1, 0, 5, 1⟩, ⟨-2, -1, 1, 0⟩]
theorem fix_ok : ∀ m ∈ fixM, MatOk m := by
  intro m hm
  simp only [fixM, List.mem_cons, List.not_mem_nil, or_false] at hm
  rcases hm with rfl | rfl | rfl | rfl <;> exact matOk_small (N := 10) ⟨by decide, by decide, by decide, by decide, by decide⟩ (by decide) (by decide)
theorem oAdd_lst {a b : List PV} (h : a.length + b.length ≤ big) : oAdd (.lst a) (.lst b) = some (.lst (a ++ b)) := by
  simp only [oAdd, oAddI, oAddS, oAddL, Option.none_or]
  rw [if_pos h]
theorem mats_ok {ws : List (List Nat)} {x y : Int} (h : PotOk x y) (hw : ∀ w ∈ ws, WordOk w) (hl : ws.length = 7) (h40 : ∀ w ∈ ws.take 4, w.length ≤ 40) :
    ∃ (ms : List Mx) (x' y' : Int), rMats [some (.val .pot), some (.val (.lst (ws.map wS))), none, none, none, none, none, none, none] (some (x, y)) = .nx [some (.val .pot), some (.val (.lst (ws.map wS))), some (.val (.lst (ms.map tp))), none, none, none, none, none, none] (some (x', y')) ∧ ms.length = 12 ∧ (∀ m ∈ ms, MatOk m) ∧ PotOk x' y' := by
  have hsub : ∀ w ∈ ws.take 4, w ∈ ws := fun w hw => List.mem_of_mem_take hw
  have hcut : cutP (ws.map wS) none (some 4) = (ws.take 4).map wS := by
    have e1 : HT.sIx (ws.map wS).length 0 none = 0 := rfl
    have e2 : HT.sIx (ws.map wS).length (ws.map wS).length (some 4) = 4 := by
      rw [List.length_map, hl]
      rfl
    unfold cutP
    rw [e1, e2, List.drop_zero, Nat.sub_zero, List.map_take]
  have c1 := comp_ok (i := fIt (fSl (fVar 1) none (some (fC (.int 4))))) (g := gNm 6) (f := fCall m__law_matrix_of (fCons (fVar 6) (fNil))) (vs := [6]) (ρ := [some (.val .pot), some (.val (.lst (ws.map wS))), none, none, none, none, none, none, none]) (s := some (x, y)) wS (fun w => tp (matOf w)) (ws.take 4) (by simp [hcut]) (by rw [List.length_take, hl]; decide) fun w hw' => ⟨_, rfl, by simp [wS, law_matrix_of_ok (hw w (hsub w hw')).W (Nat.le_trans (hw w (hsub w hw')).l (by decide))]⟩
  obtain ⟨as, x2, y2, e2, l2, p2⟩ := compGo_pot (g := gNm 7) (f := fCall m__law_by_notes (fCons (fVar 0) (fCons (fCall m__law_draw (fCons (fVar 0) (fCons (fC (.int 7)) (fNil)))) (fNil)))) (ρ := [some (.val .pot), some (.val (.lst (ws.map wS))), none, none, none, none, none, none, none]) (fun m : NM => tp m.1) (PF.upTo 0 4) x y h fun v _ x y hp => by
    obtain ⟨d, x1, y1, e1, d0, d1, p1⟩ := draw_ok (n := 7) hp (by decide) (by decide)
    obtain ⟨m, x2, y2, e2, b2, p2⟩ := by_notes_ok p1 d0 d1
    exact ⟨⟨m, matOk_small b2 (by decide) (by decide)⟩, _, x2, y2, rfl, by simp [e1, e2], p2⟩
  rw [upTo_len] at l2
  have c2 : fComp (fRg1 (fCons (fC (.int 4)) fNil)) (gNm 7) [7] fYes (fCall m__law_by_notes (fCons (fVar 0) (fCons (fCall m__law_draw (fCons (fVar 0) (fCons (fC (.int 7)) (fNil)))) (fNil)))) [some (.val .pot), some (.val (.lst (ws.map wS))), none, none, none, none, none, none, none] (some (x, y)) = .val (.lst (as.map fun m : NM => tp m.1)) (some (x2, y2)) := by
    generalize fCall m__law_by_notes _ = E at e2 ⊢
    have b4 := big4
    simp [e2, l2, b4, -gNm]
  have b4 := big4
  have c3 : ∀ (ρ : PF.Env), (fLst (fCons (fTup (fCons (fUn oNeg (fC (.int 1))) (fCons (fC (.int 0)) (fCons (fC (.int 0)) (fCons (fUn oNeg (fC (.int 1))) (fNil)))))) (fCons (fTup (fCons (fC (.int 0)) (fCons (fC (.int 1)) (fCons (fUn oNeg (fC (.int 1))) (fCons (fC (.int 0)) (fNil)))))) (fCons (fTup (fCons (fC (.int 1)) (fCons (fC (.int 0)) (fCons (fC (.int 5)) (fCons (fC (.int 1)) (fNil)))))) (fCons (fTup (fCons (fUn oNeg (fC (.int 2))) (fCons (fUn oNeg (fC (.int 1))) (fCons (fC (.int 1)) (fCons (fC (.int 0)) (fNil)))))) (fNil)))))) ρ (some (x2, y2)) = .val (.lst (fixM.map tp)) (some (x2, y2)) := fun ρ => by
    simp [b4]
    rfl
  refine ⟨(ws.take 4).map matOf ++ as.map (fun m => m.1) ++ fixM, x2, y2, ?_, ?_, ?_, p2⟩
  · have a1 : oAdd (.lst ((ws.take 4).map fun w => tp (matOf w))) (.lst (as.map fun m : NM => tp m.1)) = some (.lst ((ws.take 4).map (fun w => tp (matOf w)) ++ as.map fun m : NM => tp m.1)) := oAdd_lst (by rw [List.length_map, List.length_map, List.length_take, l2, hl]; decide)
    have a2 : oAdd (.lst ((ws.take 4).map (fun w => tp (matOf w)) ++ as.map fun m : NM => tp m.1)) (.lst (fixM.map tp)) = some (.lst (((ws.take 4).map (fun w => tp (matOf w)) ++ as.map fun m : NM => tp m.1) ++ fixM.map tp)) := oAdd_lst (by rw [List.length_append, List.length_map, List.length_map, List.length_map, List.length_take, l2, hl]; decide)
    have ee : ((ws.take 4).map matOf ++ as.map (fun m => m.1) ++ fixM).map tp = ((ws.take 4).map (fun w => tp (matOf w)) ++ as.map fun m : NM => tp m.1) ++ fixM.map tp := by
      rw [List.map_append, List.map_append, List.map_map, List.map_map]
      rfl
    rw [ee]
    unfold rMats
    generalize fComp (fIt (fSl (fVar 1) none (some (fC (.int 4))))) _ _ _ _ = A at c1 ⊢
    generalize fComp (fRg1 _) _ _ _ _ = B at c2 ⊢
    generalize (fLst (fCons (fTup (fCons (fUn oNeg (fC (.int 1))) (fCons (fC (.int 0)) (fCons (fC (.int 0)) (fCons (fUn oNeg (fC (.int 1))) (fNil)))))) (fCons (fTup (fCons (fC (.int 0)) (fCons (fC (.int 1)) (fCons (fUn oNeg (fC (.int 1))) (fCons (fC (.int 0)) (fNil)))))) (fCons (fTup (fCons (fC (.int 1)) (fCons (fC (.int 0)) (fCons (fC (.int 5)) (fCons (fC (.int 1)) (fNil)))))) (fCons (fTup (fCons (fUn oNeg (fC (.int 2))) (fCons (fUn oNeg (fC (.int 1))) (fCons (fC (.int 1)) (fCons (fC (.int 0)) (fNil)))))) (fNil)))))) = D at c3 ⊢
    generalize (ws.take 4).map (fun w => tp (matOf w)) = L1 at *
    generalize (as.map fun m : NM => tp m.1) = L2 at *
    generalize fixM.map tp = L3 at *
    simp only [sSet, fBin, c1, R.bind, c2, a1, ofO, c3, a2, R.out]
    rfl
  · rw [List.length_append, List.length_append, List.length_map, List.length_map, List.length_take, l2, hl]
    rfl
  · intro m hm
    rcases List.mem_append.mp hm with hm | hm
    · rcases List.mem_append.mp hm with hm | hm
      · obtain ⟨w, hw', rfl⟩ := List.mem_map.mp hm
        exact matOk_word (hw w (hsub w hw')).W (h40 w hw')
      · obtain ⟨a, _, rfl⟩ := List.mem_map.mp hm
        exact a.2
    · exact fix_ok m hm
theorem law_right_ok {x y : Int} (h : PotOk x y) : ∃ s', m__law_right [.pot] (some (x, y)) = .val (.bl true) s' := by
  obtain ⟨ws, x1, y1, e1, l1, w1, w40, p1⟩ := words_ok h
  have e2 := if1_ok (x := x1) (y := y1) w1 l1
  obtain ⟨ms, x2, y2, e3, l3, m3, p3⟩ := mats_ok p1 w1 l1 w40
  obtain ⟨v3, e4⟩ := for_ok (v1 := some (.val (.lst (ws.map wS)))) (ms := ms) (s := some (x2, y2)) (by omega)
  have e5 := if2_ok (v1 := some (.val (.lst (ws.map wS)))) (v3 := v3) (v7 := none) (ms := ms ++ ([399, 400, 401, -400, -401, 398, -398, 3000].map ext).flatten) (s := some (x2, y2)) (fun m hm => by
    rcases List.mem_append.mp hm with hm | hm
    · exact m3 m hm
    · obtain ⟨l, hl, hm⟩ := List.mem_flatten.mp hm
      obtain ⟨n, hn, rfl⟩ := List.mem_map.mp hl
      refine ext_ok ?_ m hm
      simp only [List.mem_cons, List.not_mem_nil, or_false] at hn
      omega) (by
    rw [List.length_append, l3]
    decide)
  refine ⟨some (x2, y2), ?_⟩
  show (b__law_right (startE 9 [.pot]) (some (x, y))).ret = _
  rw [law_right_eq]
  unfold sSeq
  rw [e1]
  simp only [Out.seq]
  rw [e2]
  simp only [Out.seq]
  rw [e3]
  simp only [Out.seq]
  rw [e4]
  simp only [Out.seq]
  rw [e5]
  simp only [Out.seq]
  rw [oddPart_ok]
  rfl
end M38
set_option Elab.async false
set_option linter.all false
set_option maxRecDepth 100000
set_option maxHeartbeats 2000000
namespace M38
open PySem PF W38

theorem cell_ok {ns : List Int} {k : Int} (hl : ns.length ≤ 63) (h0 : 0 ≤ k) (h1 : k ≤ 1) : ∃ cell : Int, b1__law_pot [some (.val (.scr ns)), some (.val (.int k)), none, none] none = .nx [some (.val (.scr ns)), some (.val (.int k)), some (.val (.int cell)), none] none := by
  by_cases hk : k < ns.length
  · obtain ⟨z, _, e⟩ := atI_some (xs := ns) h0 hk
    refine ⟨(z.natAbs : Int), ?_⟩
    simp [b1__law_pot, hk, e, abs_eq]
  · have hc := compGo_int (g := gNm 3) (f := fCallB oAbs (fCons (fVar 3) (fNil))) (ρ := [some (Ent.val (.scr ns)), some (Ent.val (.int k)), none, none]) (s := none) (fun z => PV.int (z.natAbs : Int)) ns fun z _ => ⟨_, rfl, by simp [abs_eq]⟩
    have hi := intsOf_i (fun z => (z.natAbs : Int)) ns
    have hb : ns.length ≤ big := Nat.le_trans hl (by decide)
    have s1 : Sm 7773 := by decide +kernel
    have s2 : Sm k := sm_small (by omega)
    have hc' : (fCallB oSum (fCons (fComp (fIt (fVar 0)) (gNm 3) [3] (fYes) (fCallB oAbs (fCons (fVar 3) (fNil)))) (fNil))) [some (Ent.val (.scr ns)), some (Ent.val (.int k)), none, none] none = .val (.int (ns.map fun z => (z.natAbs : Int)).sum) none := by
      show R.bind (R.bind (R.bind (compGo _ _ _ [some (Ent.val (.scr ns)), some (Ent.val (.int k)), none, none] (iL ns) none) _) _) _ = _
      rw [hc]
      have hl2 : (ns.map fun z => PV.int (z.natAbs : Int)).length ≤ big := by rw [List.length_map]; exact hb
      simp only [R.bind, if_pos hl2, fNil, oSum, hi, Option.map_some, ofO]
    unfold b1__law_pot
    generalize (fCallB oSum (fCons (fComp (fIt (fVar 0)) (gNm 3) [3] (fYes) (fCallB oAbs (fCons (fVar 3) (fNil)))) (fNil))) = E at hc' ⊢
    refine ⟨7773 * k + 3475 + ((ns.map fun z => (z.natAbs : Int)).sum).fmod 1000003, ?_⟩
    simp [hk, s1, s2, hc']
theorem pot_ok {ns : List Int} {k : Int} (hl : ns.length ≤ 63) (h0 : 0 ≤ k) (h1 : k ≤ 1) : ∃ x y, pot__law_pot [.scr ns, .int k] = some (x, y) ∧ PotOk x y := by
  obtain ⟨cell, e⟩ := cell_ok hl h0 h1
  have s2 : Sm k := sm_small (by omega)
  have s1 : Sm 31271 := by decide +kernel
  have s4 : Sm 929 := by decide +kernel
  have a1 := Int.fmod_nonneg_of_pos cell (b := 2147483549) (by decide)
  have a2 := Int.fmod_lt_of_pos cell (b := 2147483549) (by decide)
  have s3 : Sm (cell.fmod 2147483549) := sm_small (by omega)
  have b1 := Int.fmod_nonneg_of_pos (cell.fmod 2147483549 * 31271 + 929 * k + 165) (b := 2147483563) (by decide)
  have b2 := Int.fmod_lt_of_pos (cell.fmod 2147483549 * 31271 + 929 * k + 165) (b := 2147483563) (by decide)
  have bb : 2 ≤ big := by decide
  have e2 : bl__law_pot [some (.val (.scr ns)), some (.val (.int k)), some (.val (.int cell)), none] none = .val [.int (if cell - 1000000000000000000 > 0 then cell - 1000000000000000000 else 0), .int ((cell.fmod 2147483549 * 31271 + 929 * k + 165).fmod 2147483563 + 1)] none := by
    simp [bl__law_pot, s1, s2, s3, s4, bb]
  refine ⟨(if cell - 1000000000000000000 > 0 then cell - 1000000000000000000 else 0), (cell.fmod 2147483549 * 31271 + 929 * k + 165).fmod 2147483563 + 1, ?_, ⟨?_, ?_, ?_⟩⟩
  · show potS bl__law_pot (b1__law_pot (startE 4 [.scr ns, .int k]) none) = some (if cell - 1000000000000000000 > 0 then cell - 1000000000000000000 else 0, (cell.fmod 2147483549 * 31271 + 929 * k + 165).fmod 2147483563 + 1)
    have e0 : startE 4 [PV.scr ns, .int k] = [some (.val (.scr ns)), some (.val (.int k)), none, none] := rfl
    rw [e0, e]
    unfold potS
    simp only []
    rw [e2]
    rfl
  · split <;> omega
  · omega
  · omega
theorem law_right : ∀ ns : List Int, ns.length ≤ 63 → (∀ z ∈ ns, PySem.Builtin.Int.intBits z ≤ 1048576) → ∃ s, W38.m_law [.scr ns] none = .val (.bl true) s := by
  intro ns hl _
  refine ⟨none, ?_⟩
  obtain ⟨n, hn, hn2⟩ : ∃ n : Nat, n ≤ 2 ∧ fRg1 (fCons (fCallB oMax2 (fCons (fC (.int 1)) (fCons (fCallB oMin2 (fCons (fC (.int 2)) (fCons (fCallB oLen (fCons (fVar 0) (fNil))) (fNil)))) (fNil)))) (fNil)) [some (.val (.scr ns)), none] none = .val (PF.upTo 0 n) none := by
    by_cases h : (ns.length : Int) < 2
    · refine ⟨1, by decide, ?_⟩
      have h2 : ¬ (ns.length : Int) > 1 := by omega
      have h2' : ¬ 1 < ns.length := by omega
      have h' : ns.length < 2 := by omega
      simp [h, h2, h', h2']
    · refine ⟨2, by decide, ?_⟩
      have h' : ¬ ns.length < 2 := by omega
      simp [h, h']
  have hc := all_comp (i := fRg1 (fCons (fCallB oMax2 (fCons (fC (.int 1)) (fCons (fCallB oMin2 (fCons (fC (.int 2)) (fCons (fCallB oLen (fCons (fVar 0) (fNil))) (fNil)))) (fNil)))) (fNil))) (g := gNm 1) (f := fRP m__law_right pot__law_pot (fCons (fVar 0) (fCons (fVar 1) (fNil)))) (vs := [1]) (ρ := [some (.val (.scr ns)), none]) (s := none) (fun i : Nat => PV.int ((0 : Int) + (i : Int))) (List.range n) hn2 (by rw [List.length_range]; have := big1000; omega) fun i hi => ⟨_, rfl, by
    have hi2 := List.mem_range.mp hi
    obtain ⟨x, y, e1, p1⟩ := pot_ok (ns := ns) (k := (0 : Int) + (i : Int)) hl (by omega) (by omega)
    obtain ⟨s', e2⟩ := law_right_ok p1
    have e0 : (fCons (fVar 0) (fCons (fVar 1) fNil)) ([some (Ent.val (.scr ns)), none].set 1 (some (.val (.int ((0 : Int) + (i : Int)))))) none = .val [.scr ns, .int ((0 : Int) + (i : Int))] none := rfl
    show R.bind ((fCons (fVar 0) (fCons (fVar 1) fNil)) ([some (Ent.val (.scr ns)), none].set 1 (some (.val (.int ((0 : Int) + (i : Int)))))) none) _ = _
    rw [e0]
    show rpR m__law_right none (pot__law_pot _) = _
    rw [e1]
    unfold rpR
    simp only []
    rw [e2]⟩
  show (b_law (startE 2 [.scr ns]) none).ret = _
  show (R.out (fCallB oAll _ [some (.val (.scr ns)), none] none) _ _).ret = _
  rw [hc]
  rfl
end M38
set_option Elab.async false
set_option linter.all false
set_option maxRecDepth 100000
open PySem PySem.W PyProof.Rows in
set_option maxRecDepth 100000 in
set_option maxHeartbeats 0 in
theorem PySem.Challenge.cw_tollfloors_k38_whole_told_words_of_matri_holds : PySem.Challenge.rw_tollfloors_k38_whole_told_words_of_matri.Holds := by
  w_on; o_law; k_head; (case hw => w_witness2)
  k_fill
  refine PF.walk_ofG (l := PySem.Challenge.rw_tollfloors_k38_whole_told_words_of_matri) (k := 16) (x := "script") rfl (by decide +kernel) rfl ⟨rfl, by decide +kernel, by decide +kernel⟩ (fun w h Y => Y.1) ?F
  case F =>
    intro w mg fa h Y KX G hmg
    refine' W38.all_mk (pp__law_matrix_right := 305) (pp__law_asking := 331) KX G hmg M38.law_right ?y_FloorError ?y_LimitError ?y_InvalidMoves ?y_InvalidMatrix ?y_TooMany ?x_init_FloorError ?l_init_FloorError ?o_init_FloorError ?p_init_FloorError ?t_init_FloorError ?x_init_TooMany ?l_init_TooMany ?o_init_TooMany ?p_init_TooMany ?t_init_TooMany ?x_is_integer ?l_is_integer ?o_is_integer ?p_is_integer ?x_want_at_most ?l_want_at_most ?o_want_at_most ?p_want_at_most ?x_is_matrix ?l_is_matrix ?o_is_matrix ?p_is_matrix ?x_is_small_matrix ?l_is_small_matrix ?o_is_small_matrix ?p_is_small_matrix ?x_check_matrix ?l_check_matrix ?o_check_matrix ?p_check_matrix ?x_product_by ?l_product_by ?o_product_by ?p_product_by ?x_inverse_by ?l_inverse_by ?o_inverse_by ?p_inverse_by ?x_product ?l_product ?o_product ?p_product ?x_inverse ?l_inverse ?o_inverse ?p_inverse ?x_is_moves_of ?l_is_moves_of ?o_is_moves_of ?p_is_moves_of ?x_check_moves ?l_check_moves ?o_check_moves ?p_check_moves ?x_matrix_by ?l_matrix_by ?o_matrix_by ?p_matrix_by ?x_turned_moves_by ?l_turned_moves_by ?o_turned_moves_by ?p_turned_moves_by ?x_noted ?l_noted ?o_noted ?p_noted ?x_shears ?l_shears ?o_shears ?p_shears ?x_pieces_of ?l_pieces_of ?o_pieces_of ?p_pieces_of ?x_length_by ?l_length_by ?o_length_by ?p_length_by ?x_told_word_by ?l_told_word_by ?o_told_word_by ?p_told_word_by ?x_is_moves ?l_is_moves ?o_is_moves ?p_is_moves ?x_matrix_of ?l_matrix_of ?o_matrix_of ?p_matrix_of ?x_turned_moves ?l_turned_moves ?o_turned_moves ?p_turned_moves ?x_told_word ?l_told_word ?o_told_word ?p_told_word ?x_length ?l_length ?o_length ?p_length ?x__law_pot ?l__law_pot ?o__law_pot ?p__law_pot ?x__law_draw ?l__law_draw ?o__law_draw ?p__law_draw ?x__law_pick ?l__law_pick ?o__law_pick ?p__law_pick ?x__law_turned_moves ?l__law_turned_moves ?o__law_turned_moves ?p__law_turned_moves ?x__law_product ?l__law_product ?o__law_product ?p__law_product ?x__law_matrix_of ?l__law_matrix_of ?o__law_matrix_of ?p__law_matrix_of ?x__law_moves ?l__law_moves ?o__law_moves ?p__law_moves ?x__law_told ?l__law_told ?o__law_told ?p__law_told ?x__law_heard ?l__law_heard ?o__law_heard ?p__law_heard ?x__law_matrix_right ?l__law_matrix_right ?o__law_matrix_right ?p__law_matrix_right ?tn__law_matrix_right ?hd__law_matrix_right ?nl__law_matrix_right ?gt__law_matrix_right ?x__law_word_right ?l__law_word_right ?o__law_word_right ?p__law_word_right ?x__law_by_notes ?l__law_by_notes ?o__law_by_notes ?p__law_by_notes ?x__law_right ?l__law_right ?o__law_right ?p__law_right ?x__law_asking ?l__law_asking ?o__law_asking ?p__law_asking ?tn__law_asking ?hd__law_asking ?nl__law_asking ?gt__law_asking ?x_law ?l_law ?o_law ?p_law ?ne__law_matrix_right__law_asking ?z_abs ?z_all ?z_bool ?z_divmod ?z_int ?z_isinstance ?z_len ?z_max ?z_min ?z_range ?z_repr ?z_str ?z_sum ?z_tuple ?y_MATRICES ?l_MATRICES ?l_MATRICES_0 ?l_MATRICES_1 ?l_MATRICES_2 ?l_MATRICES_3 ?l_MATRICES_4 ?l_MATRICES_5 ?w_MATRICES ?y_MOST_LETTERS ?y_MOST_MOVES ?y_MOST_SIZE ?y_TURNED ?l_TURNED ?w_TURNED ?y_UNIT ?l_UNIT ?xl_TooMany ?sa_TooMany ?sb_TooMany ?ty_TooMany ?kp_TooMany ?fn_TooMany_what ?fn_TooMany_limit ?fn_TooMany_value ?ic_TooMany ?xl_InvalidMatrix ?sa_InvalidMatrix ?sb_InvalidMatrix ?ty_InvalidMatrix ?kp_InvalidMatrix ?fn_InvalidMatrix_value ?fn_InvalidMatrix_limit ?fn_InvalidMatrix_what ?ic_InvalidMatrix ?xl_InvalidMoves ?sa_InvalidMoves ?sb_InvalidMoves ?ty_InvalidMoves ?kp_InvalidMoves ?fn_InvalidMoves_value ?fn_InvalidMoves_limit ?fn_InvalidMoves_what ?ic_InvalidMoves ?ga_TooMany ?gg_TooMany ?hdt_TooMany ?cl_TooMany ?mo_TooMany ?xm_TooMany_InvalidMoves ?xm_TooMany_TooMany ?xi_TooMany_FloorError ?xi_TooMany_LimitError ?ga_InvalidMatrix ?gg_InvalidMatrix ?hdt_InvalidMatrix ?cl_InvalidMatrix ?mo_InvalidMatrix ?xm_InvalidMatrix_InvalidMoves ?xm_InvalidMatrix_TooMany ?xi_InvalidMatrix_FloorError ?xi_InvalidMatrix_LimitError ?ga_InvalidMoves ?gg_InvalidMoves ?hdt_InvalidMoves ?cl_InvalidMoves ?mo_InvalidMoves ?xm_InvalidMoves_InvalidMoves ?xm_InvalidMoves_TooMany ?xi_InvalidMoves_FloorError ?xi_InvalidMoves_LimitError ?spC ?tkC
    (case y_FloorError => k_is)
    (case y_LimitError => k_is)
    (case y_InvalidMoves => k_is)
    (case y_InvalidMatrix => k_is)
    (case y_TooMany => k_is)
    (case x_init_FloorError => k_is)
    (case l_init_FloorError => k_is)
    (case o_init_FloorError => k_is)
    (case p_init_FloorError => k_is)
    (case t_init_FloorError => k_is)
    (case x_init_TooMany => k_is)
    (case l_init_TooMany => k_is)
    (case o_init_TooMany => k_is)
    (case p_init_TooMany => k_is)
    (case t_init_TooMany => k_is)
    (case x_is_integer => k_is)
    (case l_is_integer => k_is)
    (case o_is_integer => k_is)
    (case p_is_integer => k_is)
    (case x_want_at_most => k_is)
    (case l_want_at_most => k_is)
    (case o_want_at_most => k_is)
    (case p_want_at_most => k_is)
    (case x_is_matrix => k_is)
    (case l_is_matrix => k_is)
    (case o_is_matrix => k_is)
    (case p_is_matrix => k_is)
    (case x_is_small_matrix => k_is)
    (case l_is_small_matrix => k_is)
    (case o_is_small_matrix => k_is)
    (case p_is_small_matrix => k_is)
    (case x_check_matrix => k_is)
    (case l_check_matrix => k_is)
    (case o_check_matrix => k_is)
    (case p_check_matrix => k_is)
    (case x_product_by => k_is)
    (case l_product_by => k_is)
    (case o_product_by => k_is)
    (case p_product_by => k_is)
    (case x_inverse_by => k_is)
    (case l_inverse_by => k_is)
    (case o_inverse_by => k_is)
    (case p_inverse_by => k_is)
    (case x_product => k_is)
    (case l_product => k_is)
    (case o_product => k_is)
    (case p_product => k_is)
    (case x_inverse => k_is)
    (case l_inverse => k_is)
    (case o_inverse => k_is)
    (case p_inverse => k_is)
    (case x_is_moves_of => k_is)
    (case l_is_moves_of => k_is)
    (case o_is_moves_of => k_is)
    (case p_is_moves_of => k_is)
    (case x_check_moves => k_is)
    (case l_check_moves => k_is)
    (case o_check_moves => k_is)
    (case p_check_moves => k_is)
    (case x_matrix_by => k_is)
    (case l_matrix_by => k_is)
    (case o_matrix_by => k_is)
    (case p_matrix_by => k_is)
    (case x_turned_moves_by => k_is)
    (case l_turned_moves_by => k_is)
    (case o_turned_moves_by => k_is)
    (case p_turned_moves_by => k_is)
    (case x_noted => k_is)
    (case l_noted => k_is)
    (case o_noted => k_is)
    (case p_noted => k_is)
    (case x_shears => k_is)
    (case l_shears => k_is)
    (case o_shears => k_is)
    (case p_shears => k_is)
    (case x_pieces_of => k_is)
    (case l_pieces_of => k_is)
    (case o_pieces_of => k_is)
    (case p_pieces_of => k_is)
    (case x_length_by => k_is)
    (case l_length_by => k_is)
    (case o_length_by => k_is)
    (case p_length_by => k_is)
    (case x_told_word_by => k_is)
    (case l_told_word_by => k_is)
    (case o_told_word_by => k_is)
    (case p_told_word_by => k_is)
    (case x_is_moves => k_is)
    (case l_is_moves => k_is)
    (case o_is_moves => k_is)
    (case p_is_moves => k_is)
    (case x_matrix_of => k_is)
    (case l_matrix_of => k_is)
    (case o_matrix_of => k_is)
    (case p_matrix_of => k_is)
    (case x_turned_moves => k_is)
    (case l_turned_moves => k_is)
    (case o_turned_moves => k_is)
    (case p_turned_moves => k_is)
    (case x_told_word => k_is)
    (case l_told_word => k_is)
    (case o_told_word => k_is)
    (case p_told_word => k_is)
    (case x_length => k_is)
    (case l_length => k_is)
    (case o_length => k_is)
    (case p_length => k_is)
    (case x__law_pot => k_is)
    (case l__law_pot => k_is)
    (case o__law_pot => k_is)
    (case p__law_pot => k_is)
    (case x__law_draw => k_is)
    (case l__law_draw => k_is)
    (case o__law_draw => k_is)
    (case p__law_draw => k_is)
    (case x__law_pick => k_is)
    (case l__law_pick => k_is)
    (case o__law_pick => k_is)
    (case p__law_pick => k_is)
    (case x__law_turned_moves => k_is)
    (case l__law_turned_moves => k_is)
    (case o__law_turned_moves => k_is)
    (case p__law_turned_moves => k_is)
    (case x__law_product => k_is)
    (case l__law_product => k_is)
    (case o__law_product => k_is)
    (case p__law_product => k_is)
    (case x__law_matrix_of => k_is)
    (case l__law_matrix_of => k_is)
    (case o__law_matrix_of => k_is)
    (case p__law_matrix_of => k_is)
    (case x__law_moves => k_is)
    (case l__law_moves => k_is)
    (case o__law_moves => k_is)
    (case p__law_moves => k_is)
    (case x__law_told => k_is)
    (case l__law_told => k_is)
    (case o__law_told => k_is)
    (case p__law_told => k_is)
    (case x__law_heard => k_is)
    (case l__law_heard => k_is)
    (case o__law_heard => k_is)
    (case p__law_heard => k_is)
    (case x__law_matrix_right => k_is)
    (case l__law_matrix_right => k_is)
    (case o__law_matrix_right => k_is)
    (case p__law_matrix_right => k_is)
    (case tn__law_matrix_right => kernel_rfl)
    (case hd__law_matrix_right => kernel_rfl)
    (case nl__law_matrix_right => kernel_rfl)
    (case gt__law_matrix_right => exact Y.2 _ (by decide))
    (case x__law_word_right => k_is)
    (case l__law_word_right => k_is)
    (case o__law_word_right => k_is)
    (case p__law_word_right => k_is)
    (case x__law_by_notes => k_is)
    (case l__law_by_notes => k_is)
    (case o__law_by_notes => k_is)
    (case p__law_by_notes => k_is)
    (case x__law_right => k_is)
    (case l__law_right => k_is)
    (case o__law_right => k_is)
    (case p__law_right => k_is)
    (case x__law_asking => k_is)
    (case l__law_asking => k_is)
    (case o__law_asking => k_is)
    (case p__law_asking => k_is)
    (case tn__law_asking => kernel_rfl)
    (case hd__law_asking => kernel_rfl)
    (case nl__law_asking => kernel_rfl)
    (case gt__law_asking => exact Y.2 _ (by decide))
    (case x_law => k_is)
    (case l_law => k_is)
    (case o_law => k_is)
    (case p_law => k_is)
    (case ne__law_matrix_right__law_asking => kernel_rfl)
    (case z_abs => k_is)
    (case z_all => k_is)
    (case z_bool => k_is)
    (case z_divmod => k_is)
    (case z_int => k_is)
    (case z_isinstance => k_is)
    (case z_len => k_is)
    (case z_max => k_is)
    (case z_min => k_is)
    (case z_range => k_is)
    (case z_repr => k_is)
    (case z_str => k_is)
    (case z_sum => k_is)
    (case z_tuple => k_is)
    (case y_MATRICES => k_is)
    (case l_MATRICES => k_is)
    (case l_MATRICES_0 => k_is)
    (case l_MATRICES_1 => k_is)
    (case l_MATRICES_2 => k_is)
    (case l_MATRICES_3 => k_is)
    (case l_MATRICES_4 => k_is)
    (case l_MATRICES_5 => k_is)
    (case w_MATRICES => kernel_rfl)
    (case y_MOST_LETTERS => k_is)
    (case y_MOST_MOVES => k_is)
    (case y_MOST_SIZE => k_is)
    (case y_TURNED => k_is)
    (case l_TURNED => k_is)
    (case w_TURNED => kernel_rfl)
    (case y_UNIT => k_is)
    (case l_UNIT => k_is)
    (case xl_TooMany => k_is)
    (case sa_TooMany => k_is)
    (case sb_TooMany => k_is)
    (case ty_TooMany => k_is)
    (case kp_TooMany => k_is)
    (case fn_TooMany_what => k_is)
    (case fn_TooMany_limit => k_is)
    (case fn_TooMany_value => k_is)
    (case ic_TooMany => k_is)
    (case xl_InvalidMatrix => k_is)
    (case sa_InvalidMatrix => k_is)
    (case sb_InvalidMatrix => k_is)
    (case ty_InvalidMatrix => k_is)
    (case kp_InvalidMatrix => k_is)
    (case fn_InvalidMatrix_value => k_is)
    (case fn_InvalidMatrix_limit => k_is)
    (case fn_InvalidMatrix_what => k_is)
    (case ic_InvalidMatrix => k_is)
    (case xl_InvalidMoves => k_is)
    (case sa_InvalidMoves => k_is)
    (case sb_InvalidMoves => k_is)
    (case ty_InvalidMoves => k_is)
    (case kp_InvalidMoves => k_is)
    (case fn_InvalidMoves_value => k_is)
    (case fn_InvalidMoves_limit => k_is)
    (case fn_InvalidMoves_what => k_is)
    (case ic_InvalidMoves => k_is)
    (case ga_TooMany => k_is)
    (case gg_TooMany => k_is)
    (case hdt_TooMany => k_is)
    (case cl_TooMany => k_is)
    (case mo_TooMany => k_is)
    (case xm_TooMany_InvalidMoves => kernel_rfl)
    (case xm_TooMany_TooMany => kernel_rfl)
    (case xi_TooMany_FloorError => kernel_rfl)
    (case xi_TooMany_LimitError => kernel_rfl)
    (case ga_InvalidMatrix => k_is)
    (case gg_InvalidMatrix => k_is)
    (case hdt_InvalidMatrix => k_is)
    (case cl_InvalidMatrix => k_is)
    (case mo_InvalidMatrix => k_is)
    (case xm_InvalidMatrix_InvalidMoves => kernel_rfl)
    (case xm_InvalidMatrix_TooMany => kernel_rfl)
    (case xi_InvalidMatrix_FloorError => kernel_rfl)
    (case xi_InvalidMatrix_LimitError => kernel_rfl)
    (case ga_InvalidMoves => k_is)
    (case gg_InvalidMoves => k_is)
    (case hdt_InvalidMoves => k_is)
    (case cl_InvalidMoves => k_is)
    (case mo_InvalidMoves => k_is)
    (case xm_InvalidMoves_InvalidMoves => kernel_rfl)
    (case xm_InvalidMoves_TooMany => kernel_rfl)
    (case xi_InvalidMoves_FloorError => kernel_rfl)
    (case xi_InvalidMoves_LimitError => kernel_rfl)
    (case spC => k_is)
    (case tkC => k_is)
